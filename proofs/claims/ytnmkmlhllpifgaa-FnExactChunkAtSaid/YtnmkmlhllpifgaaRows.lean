/-
  No cell of these rows narrows 'for every input' (looked for: loops, veiled, ifaces, maps, wideKeys, modest, calm, conditions, laid).
  DERIVED. THE GIVEN ROWS OF THIS SEAT. 5 by the template 'for every input the law returns true; each argument reads behind the call as it read before'; 0 by the template 'total and deterministic' (their statements: YtnmkmlhllpifgaaTotals.lean).
  GIVEN WITH THE SEED: the statements are not yours to turn. If you find one false, say at which input.
  Laid BY PROGRAM, IN A SANDBOX (cutbox-rows.mjs): the forced cells as the released guide's own fill.sh prints them over the translation e6873ea2eefaac13… (all of the seat's roots in one cut). By AI agents, Wed Nov 11 2026. No macro, syntax, notation, axiom, sorry.
-/
import Derived.Test.YtnmkmlhllpifgaaChecked
import GoSem.Claim
import GoSem.ClaimJoined
import GoSem.ClaimMapViews
import Derived.JoinedTies
import Derived.KernelRfl
namespace Go.Proofs.Ytnmkmlhllpifgaa
/- THE CELL 'sum', in the pinned program and in every row, IS THE sha256 OF THE DUMP (.gsa) THAT YtnmkmlhllpifgaaProg.lean LOADS. Nothing in Lean hashes anything: it is a label: what it is worth is what the hold of that sum in a sandbox is worth. -/
noncomputable def Try.pinned : Pinned := { name := "ytnmkmlhllpifgaa", sum := "e6873ea2eefaac1392f68d9b6f296bbe8ee869ec9d0ef33ec6c10beac4ecae4f", checked := Try.checked }
namespace Rows
def none {H : Type} : Left H := { results := [], args := [] }

/-- 'laws.FnExactValidDeed': WHATEVER THE INPUT: true; the input reads as it did. -/
def fnExactValidDeedSpec : ChangeSpec := { name := "fnExactValidDeed", fn := fun _ => fun
  | [d] => { results := [.lit (.bool true)], args := [d] }
  | _ => none }
def fnExactValidDeedRow : OpenClaim := { program := "ytnmkmlhllpifgaa", sum := "e6873ea2eefaac1392f68d9b6f296bbe8ee869ec9d0ef33ec6c10beac4ecae4f", func := "loop.example/g01174/laws.FnExactValidDeed", spec := "fnExactValidDeed", apart := false }
def FnExactValidDeedSaid : Prop := fnExactValidDeedRow.holds Try.pinned (OpenSpec.ofChange fnExactValidDeedSpec)

/-- ITS FALSE NEIGHBOUR: 'it returns false'. Refute it at one input. -/
def fnExactValidDeedWrong : ChangeSpec := { name := "fnExactValidDeed", fn := fun _ => fun
  | [d] => { results := [.lit (.bool false)], args := [d] }
  | _ => none }
def FnExactValidDeedWrongFalsely : Prop := fnExactValidDeedRow.holds Try.pinned (OpenSpec.ofChange fnExactValidDeedWrong)

/-- 'laws.FnExactRollOf': WHATEVER THE INPUT: true; the input reads as it did. -/
def fnExactRollOfSpec : ChangeSpec := { name := "fnExactRollOf", fn := fun _ => fun
  | [d] => { results := [.lit (.bool true)], args := [d] }
  | _ => none }
def fnExactRollOfRow : OpenClaim := { program := "ytnmkmlhllpifgaa", sum := "e6873ea2eefaac1392f68d9b6f296bbe8ee869ec9d0ef33ec6c10beac4ecae4f", func := "loop.example/g01174/laws.FnExactRollOf", spec := "fnExactRollOf", apart := false }
def FnExactRollOfSaid : Prop := fnExactRollOfRow.holds Try.pinned (OpenSpec.ofChange fnExactRollOfSpec)

/-- ITS FALSE NEIGHBOUR: 'it returns false'. Refute it at one input. -/
def fnExactRollOfWrong : ChangeSpec := { name := "fnExactRollOf", fn := fun _ => fun
  | [d] => { results := [.lit (.bool false)], args := [d] }
  | _ => none }
def FnExactRollOfWrongFalsely : Prop := fnExactRollOfRow.holds Try.pinned (OpenSpec.ofChange fnExactRollOfWrong)

/-- 'laws.FnExactValidSetup': WHATEVER THE INPUT: true; the input reads as it did. -/
def fnExactValidSetupSpec : ChangeSpec := { name := "fnExactValidSetup", fn := fun _ => fun
  | [d] => { results := [.lit (.bool true)], args := [d] }
  | _ => none }
def fnExactValidSetupRow : OpenClaim := { program := "ytnmkmlhllpifgaa", sum := "e6873ea2eefaac1392f68d9b6f296bbe8ee869ec9d0ef33ec6c10beac4ecae4f", func := "loop.example/g01174/laws.FnExactValidSetup", spec := "fnExactValidSetup", unfollowed := true, recurses := true, apart := false }
def FnExactValidSetupSaid : Prop := fnExactValidSetupRow.holds Try.pinned (OpenSpec.ofChange fnExactValidSetupSpec)

/-- ITS FALSE NEIGHBOUR: 'it returns false'. Refute it at one input. -/
def fnExactValidSetupWrong : ChangeSpec := { name := "fnExactValidSetup", fn := fun _ => fun
  | [d] => { results := [.lit (.bool false)], args := [d] }
  | _ => none }
def FnExactValidSetupWrongFalsely : Prop := fnExactValidSetupRow.holds Try.pinned (OpenSpec.ofChange fnExactValidSetupWrong)

/-- 'laws.FnExactValidCutter': WHATEVER THE INPUT: true; the input reads as it did. -/
def fnExactValidCutterSpec : ChangeSpec := { name := "fnExactValidCutter", fn := fun _ => fun
  | [d] => { results := [.lit (.bool true)], args := [d] }
  | _ => none }
def fnExactValidCutterRow : OpenClaim := { program := "ytnmkmlhllpifgaa", sum := "e6873ea2eefaac1392f68d9b6f296bbe8ee869ec9d0ef33ec6c10beac4ecae4f", func := "loop.example/g01174/laws.FnExactValidCutter", spec := "fnExactValidCutter", apart := false }
def FnExactValidCutterSaid : Prop := fnExactValidCutterRow.holds Try.pinned (OpenSpec.ofChange fnExactValidCutterSpec)

/-- ITS FALSE NEIGHBOUR: 'it returns false'. Refute it at one input. -/
def fnExactValidCutterWrong : ChangeSpec := { name := "fnExactValidCutter", fn := fun _ => fun
  | [d] => { results := [.lit (.bool false)], args := [d] }
  | _ => none }
def FnExactValidCutterWrongFalsely : Prop := fnExactValidCutterRow.holds Try.pinned (OpenSpec.ofChange fnExactValidCutterWrong)

/-- 'laws.FnExactChunkAt': WHATEVER THE INPUT: true; the input reads as it did. -/
def fnExactChunkAtSpec : ChangeSpec := { name := "fnExactChunkAt", fn := fun _ => fun
  | [d1, d2, d3] => { results := [.lit (.bool true)], args := [d1, d2, d3] }
  | _ => none }
def fnExactChunkAtRow : OpenClaim := { program := "ytnmkmlhllpifgaa", sum := "e6873ea2eefaac1392f68d9b6f296bbe8ee869ec9d0ef33ec6c10beac4ecae4f", func := "loop.example/g01174/laws.FnExactChunkAt", spec := "fnExactChunkAt", unfollowed := true, recurses := true, apart := false }
def FnExactChunkAtSaid : Prop := fnExactChunkAtRow.holds Try.pinned (OpenSpec.ofChange fnExactChunkAtSpec)

/-- ITS FALSE NEIGHBOUR: 'it returns false'. Refute it at one input. -/
def fnExactChunkAtWrong : ChangeSpec := { name := "fnExactChunkAt", fn := fun _ => fun
  | [d1, d2, d3] => { results := [.lit (.bool false)], args := [d1, d2, d3] }
  | _ => none }
def FnExactChunkAtWrongFalsely : Prop := fnExactChunkAtRow.holds Try.pinned (OpenSpec.ofChange fnExactChunkAtWrong)

/- THE SECOND FORM. 'bulk': how many values and letters a reading holds, each counted each time it is reached (what is shared counts as often as it is met; a slice's spare places count too). A statement '..UptoSaid' is the law's where the arguments, and the package variables that the reading takes, are together of bulk at most 1048576: NARROWER than '..Said'. Prove '..Said' where nothing that the law and all that it calls make is longer than what came in: it says more and counts as full. Else prove '..UptoSaid'. A law counts once. -/
mutual
def uptoBulk {H : Type} : DataW H → Nat
  | .lit (.string bytes) => bytes.length + 1
  | .lit _ => 1
  | .nil => 1
  | .ptr d => uptoBulk d + 1
  | .slice elems spare => uptoBulkAll elems + uptoBulkAll spare + 1
  | .agg parts => uptoBulkAll parts + 1
  | .iface _ d => uptoBulk d + 1
  | .map entries => uptoBulkEntries entries + 1
  | .held _ => 1
def uptoBulkAll {H : Type} : List (DataW H) → Nat
  | [] => 0
  | d :: r => uptoBulk d + uptoBulkAll r
def uptoBulkEntries {H : Type} : List (Lit × DataW H) → Nat
  | [] => 0
  | x :: r => uptoBulkEntry x + uptoBulkEntries r
def uptoBulkEntry {H : Type} : Lit × DataW H → Nat
  | (.string bytes, d) => bytes.length + uptoBulk d + 1
  | (_, d) => uptoBulk d + 1
 end
def uptoSmall : (H : Type) → List (DataW H) → Bool := fun _ ds => decide (uptoBulkAll ds ≤ 1048576)
def OpenSpec.upto (s : _root_.Go.ChangeSpec) : _root_.Go.OpenSpec := { _root_.Go.OpenSpec.ofChange s with cond := some uptoSmall }

/-- 'laws.FnExactValidDeed', WHERE WHAT IT READS IS OF BULK AT MOST 1048576: true; the input reads as it did. -/
def fnExactValidDeedUptoRow : OpenClaim := { program := "ytnmkmlhllpifgaa", sum := "e6873ea2eefaac1392f68d9b6f296bbe8ee869ec9d0ef33ec6c10beac4ecae4f", func := "loop.example/g01174/laws.FnExactValidDeed", spec := "fnExactValidDeed", apart := false, narrowed := true }
def FnExactValidDeedUptoSaid : Prop := fnExactValidDeedUptoRow.holds Try.pinned (OpenSpec.upto fnExactValidDeedSpec)

/-- 'laws.FnExactRollOf', WHERE WHAT IT READS IS OF BULK AT MOST 1048576: true; the input reads as it did. -/
def fnExactRollOfUptoRow : OpenClaim := { program := "ytnmkmlhllpifgaa", sum := "e6873ea2eefaac1392f68d9b6f296bbe8ee869ec9d0ef33ec6c10beac4ecae4f", func := "loop.example/g01174/laws.FnExactRollOf", spec := "fnExactRollOf", apart := false, narrowed := true }
def FnExactRollOfUptoSaid : Prop := fnExactRollOfUptoRow.holds Try.pinned (OpenSpec.upto fnExactRollOfSpec)

/-- 'laws.FnExactValidSetup', WHERE WHAT IT READS IS OF BULK AT MOST 1048576: true; the input reads as it did. -/
def fnExactValidSetupUptoRow : OpenClaim := { program := "ytnmkmlhllpifgaa", sum := "e6873ea2eefaac1392f68d9b6f296bbe8ee869ec9d0ef33ec6c10beac4ecae4f", func := "loop.example/g01174/laws.FnExactValidSetup", spec := "fnExactValidSetup", unfollowed := true, recurses := true, apart := false, narrowed := true }
def FnExactValidSetupUptoSaid : Prop := fnExactValidSetupUptoRow.holds Try.pinned (OpenSpec.upto fnExactValidSetupSpec)

/-- 'laws.FnExactValidCutter', WHERE WHAT IT READS IS OF BULK AT MOST 1048576: true; the input reads as it did. -/
def fnExactValidCutterUptoRow : OpenClaim := { program := "ytnmkmlhllpifgaa", sum := "e6873ea2eefaac1392f68d9b6f296bbe8ee869ec9d0ef33ec6c10beac4ecae4f", func := "loop.example/g01174/laws.FnExactValidCutter", spec := "fnExactValidCutter", apart := false, narrowed := true }
def FnExactValidCutterUptoSaid : Prop := fnExactValidCutterUptoRow.holds Try.pinned (OpenSpec.upto fnExactValidCutterSpec)

/-- 'laws.FnExactChunkAt', WHERE WHAT IT READS IS OF BULK AT MOST 1048576: true; the input reads as it did. -/
def fnExactChunkAtUptoRow : OpenClaim := { program := "ytnmkmlhllpifgaa", sum := "e6873ea2eefaac1392f68d9b6f296bbe8ee869ec9d0ef33ec6c10beac4ecae4f", func := "loop.example/g01174/laws.FnExactChunkAt", spec := "fnExactChunkAt", unfollowed := true, recurses := true, apart := false, narrowed := true }
def FnExactChunkAtUptoSaid : Prop := fnExactChunkAtUptoRow.holds Try.pinned (OpenSpec.upto fnExactChunkAtSpec)

end Rows
end Go.Proofs.Ytnmkmlhllpifgaa
