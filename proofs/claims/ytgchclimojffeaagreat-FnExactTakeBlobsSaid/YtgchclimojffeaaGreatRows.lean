/-
  No cell of these rows narrows 'for every input' (looked for: loops, veiled, ifaces, maps, wideKeys, modest, calm, conditions, laid).
  DERIVED. THE GIVEN ROWS OF THIS SEAT. 3 by the template 'for every input the law returns true; each argument reads behind the call as it read before'; 0 by the template 'total and deterministic' (their statements: YtgchclimojffeaaGreatTotals.lean).
  GIVEN WITH THE SEED: the statements are not yours to turn. If you find one false, say at which input.
  Laid BY PROGRAM, IN A SANDBOX (cutbox-rows.mjs): the forced cells as the released guide's own fill.sh prints them over the translation 88fc0c1fd547f687… (all of the seat's roots in one cut). By AI agents, Wed Nov 11 2026. No macro, syntax, notation, axiom, sorry.
-/
import Derived.Test.YtgchclimojffeaaGreatChecked
import GoSem.Claim
import GoSem.ClaimJoined
import GoSem.ClaimMapViews
import Derived.JoinedTies
import Derived.KernelRfl
namespace Go.Proofs.YtgchclimojffeaaGreat
/- THE CELL 'sum', in the pinned program and in every row, IS THE sha256 OF THE DUMP (.gsa) THAT YtgchclimojffeaaGreatProg.lean LOADS. Nothing in Lean hashes anything: it is a label: what it is worth is what the hold of that sum in a sandbox is worth. -/
noncomputable def Tryz.pinned : Pinned := { name := "ytgchclimojffeaagreat", sum := "88fc0c1fd547f6877b163bf0ee7361e230ab5e0de3d3222695f5b0979aa8404f", checked := Tryz.checked }
namespace Rows
def none {H : Type} : Left H := { results := [], args := [] }

/-- 'laws.FnExactAnswerWants': WHATEVER THE INPUT: true; the input reads as it did. -/
def fnExactAnswerWantsSpec : ChangeSpec := { name := "fnExactAnswerWants", fn := fun _ => fun
  | [d1, d2, d3] => { results := [.lit (.bool true)], args := [d1, d2, d3] }
  | _ => none }
def fnExactAnswerWantsRow : OpenClaim := { program := "ytgchclimojffeaagreat", sum := "88fc0c1fd547f6877b163bf0ee7361e230ab5e0de3d3222695f5b0979aa8404f", func := "loop.example/g01174/laws.FnExactAnswerWants", spec := "fnExactAnswerWants", unfollowed := true, recurses := true, apart := false }
def FnExactAnswerWantsSaid : Prop := fnExactAnswerWantsRow.holds Tryz.pinned (OpenSpec.ofChange fnExactAnswerWantsSpec)

/-- ITS FALSE NEIGHBOUR: 'it returns false'. Refute it at one input. -/
def fnExactAnswerWantsWrong : ChangeSpec := { name := "fnExactAnswerWants", fn := fun _ => fun
  | [d1, d2, d3] => { results := [.lit (.bool false)], args := [d1, d2, d3] }
  | _ => none }
def FnExactAnswerWantsWrongFalsely : Prop := fnExactAnswerWantsRow.holds Tryz.pinned (OpenSpec.ofChange fnExactAnswerWantsWrong)

/-- 'laws.FnExactProofFromCopy': WHATEVER THE INPUT: true; the input reads as it did. -/
def fnExactProofFromCopySpec : ChangeSpec := { name := "fnExactProofFromCopy", fn := fun _ => fun
  | [d1, d2, d3] => { results := [.lit (.bool true)], args := [d1, d2, d3] }
  | _ => none }
def fnExactProofFromCopyRow : OpenClaim := { program := "ytgchclimojffeaagreat", sum := "88fc0c1fd547f6877b163bf0ee7361e230ab5e0de3d3222695f5b0979aa8404f", func := "loop.example/g01174/laws.FnExactProofFromCopy", spec := "fnExactProofFromCopy", unfollowed := true, recurses := true, apart := false }
def FnExactProofFromCopySaid : Prop := fnExactProofFromCopyRow.holds Tryz.pinned (OpenSpec.ofChange fnExactProofFromCopySpec)

/-- ITS FALSE NEIGHBOUR: 'it returns false'. Refute it at one input. -/
def fnExactProofFromCopyWrong : ChangeSpec := { name := "fnExactProofFromCopy", fn := fun _ => fun
  | [d1, d2, d3] => { results := [.lit (.bool false)], args := [d1, d2, d3] }
  | _ => none }
def FnExactProofFromCopyWrongFalsely : Prop := fnExactProofFromCopyRow.holds Tryz.pinned (OpenSpec.ofChange fnExactProofFromCopyWrong)

/-- 'laws.FnExactTakeBlobs': WHATEVER THE INPUT: true; the input reads as it did. -/
def fnExactTakeBlobsSpec : ChangeSpec := { name := "fnExactTakeBlobs", fn := fun _ => fun
  | [d1, d2, d3] => { results := [.lit (.bool true)], args := [d1, d2, d3] }
  | _ => none }
def fnExactTakeBlobsRow : OpenClaim := { program := "ytgchclimojffeaagreat", sum := "88fc0c1fd547f6877b163bf0ee7361e230ab5e0de3d3222695f5b0979aa8404f", func := "loop.example/g01174/laws.FnExactTakeBlobs", spec := "fnExactTakeBlobs", inPlace := ["slices.overlaps[loop.example/g01174/impl.Key]", "slices.overlaps[loop.example/g01174/impl.Blob]"], unfollowed := true, recurses := true, apart := false }
def FnExactTakeBlobsSaid : Prop := fnExactTakeBlobsRow.holds Tryz.pinned (OpenSpec.ofChange fnExactTakeBlobsSpec)

/-- ITS FALSE NEIGHBOUR: 'it returns false'. Refute it at one input. -/
def fnExactTakeBlobsWrong : ChangeSpec := { name := "fnExactTakeBlobs", fn := fun _ => fun
  | [d1, d2, d3] => { results := [.lit (.bool false)], args := [d1, d2, d3] }
  | _ => none }
def FnExactTakeBlobsWrongFalsely : Prop := fnExactTakeBlobsRow.holds Tryz.pinned (OpenSpec.ofChange fnExactTakeBlobsWrong)

/- THE SECOND FORM. 'bulk': how many values and letters a reading holds, each counted each time it is reached (what is shared counts as often as it is met; a slice's spare places count too). A statement '..UptoSaid' is the law's where the arguments, and the package variables that the reading takes, are together of bulk at most 1048576: NARROWER than '..Said'. Prove '..Said' where nothing that the law and all that it calls make is longer than what came in: it says more and counts as full. Else prove '..UptoSaid'. A law counts once. -/
mutual
def uptoBulk {H : Type} : DataW H → Nat
  | .lit (.string bytes) => bytes.length + 1
  | .lit _ => 1
  | .nil => 1
  | .ptr d => uptoBulk d + 1
  | .slice elems spare => uptoBulkAll elems + uptoBulkAll spare + 1
  | .agg parts => uptoBulkAll parts + 1
  | .iface _ d => uptoBulk d + 1
  | .map entries => uptoBulkEntries entries + 1
  | .held _ => 1
def uptoBulkAll {H : Type} : List (DataW H) → Nat
  | [] => 0
  | d :: r => uptoBulk d + uptoBulkAll r
def uptoBulkEntries {H : Type} : List (Lit × DataW H) → Nat
  | [] => 0
  | x :: r => uptoBulkEntry x + uptoBulkEntries r
def uptoBulkEntry {H : Type} : Lit × DataW H → Nat
  | (.string bytes, d) => bytes.length + uptoBulk d + 1
  | (_, d) => uptoBulk d + 1
 end
def uptoSmall : (H : Type) → List (DataW H) → Bool := fun _ ds => decide (uptoBulkAll ds ≤ 1048576)
def OpenSpec.upto (s : _root_.Go.ChangeSpec) : _root_.Go.OpenSpec := { _root_.Go.OpenSpec.ofChange s with cond := some uptoSmall }

/-- 'laws.FnExactAnswerWants', WHERE WHAT IT READS IS OF BULK AT MOST 1048576: true; the input reads as it did. -/
def fnExactAnswerWantsUptoRow : OpenClaim := { program := "ytgchclimojffeaagreat", sum := "88fc0c1fd547f6877b163bf0ee7361e230ab5e0de3d3222695f5b0979aa8404f", func := "loop.example/g01174/laws.FnExactAnswerWants", spec := "fnExactAnswerWants", unfollowed := true, recurses := true, apart := false, narrowed := true }
def FnExactAnswerWantsUptoSaid : Prop := fnExactAnswerWantsUptoRow.holds Tryz.pinned (OpenSpec.upto fnExactAnswerWantsSpec)

/-- 'laws.FnExactProofFromCopy', WHERE WHAT IT READS IS OF BULK AT MOST 1048576: true; the input reads as it did. -/
def fnExactProofFromCopyUptoRow : OpenClaim := { program := "ytgchclimojffeaagreat", sum := "88fc0c1fd547f6877b163bf0ee7361e230ab5e0de3d3222695f5b0979aa8404f", func := "loop.example/g01174/laws.FnExactProofFromCopy", spec := "fnExactProofFromCopy", unfollowed := true, recurses := true, apart := false, narrowed := true }
def FnExactProofFromCopyUptoSaid : Prop := fnExactProofFromCopyUptoRow.holds Tryz.pinned (OpenSpec.upto fnExactProofFromCopySpec)

/-- 'laws.FnExactTakeBlobs', WHERE WHAT IT READS IS OF BULK AT MOST 1048576: true; the input reads as it did. -/
def fnExactTakeBlobsUptoRow : OpenClaim := { program := "ytgchclimojffeaagreat", sum := "88fc0c1fd547f6877b163bf0ee7361e230ab5e0de3d3222695f5b0979aa8404f", func := "loop.example/g01174/laws.FnExactTakeBlobs", spec := "fnExactTakeBlobs", inPlace := ["slices.overlaps[loop.example/g01174/impl.Key]", "slices.overlaps[loop.example/g01174/impl.Blob]"], unfollowed := true, recurses := true, apart := false, narrowed := true }
def FnExactTakeBlobsUptoSaid : Prop := fnExactTakeBlobsUptoRow.holds Tryz.pinned (OpenSpec.upto fnExactTakeBlobsSpec)

end Rows
end Go.Proofs.YtgchclimojffeaaGreat
