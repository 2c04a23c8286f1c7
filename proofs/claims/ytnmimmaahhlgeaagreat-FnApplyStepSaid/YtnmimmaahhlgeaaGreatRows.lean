/-
  No cell of these rows narrows 'for every input' (looked for: loops, veiled, ifaces, maps, wideKeys, modest, calm, conditions, laid).
  DERIVED. THE GIVEN ROWS OF THIS SEAT. 3 by the template 'for every input the law returns true; each argument reads behind the call as it read before'; 0 by the template 'total and deterministic' (their statements: YtnmimmaahhlgeaaGreatTotals.lean).
  GIVEN WITH THE SEED: the statements are not yours to turn. If you find one false, say at which input.
  Laid BY PROGRAM, IN A SANDBOX (cutbox-rows.mjs): the forced cells as the released guide's own fill.sh prints them over the translation 57ebba2f86e1a719… (all of the seat's roots in one cut). By AI agents, Wed Nov 11 2026. No macro, syntax, notation, axiom, sorry.
-/
import Derived.Test.YtnmimmaahhlgeaaGreatChecked
import GoSem.Claim
import GoSem.ClaimJoined
import GoSem.ClaimMapViews
import Derived.JoinedTies
import Derived.KernelRfl
namespace Go.Proofs.YtnmimmaahhlgeaaGreat
/- THE CELL 'sum', in the pinned program and in every row, IS THE sha256 OF THE DUMP (.gsa) THAT YtnmimmaahhlgeaaGreatProg.lean LOADS. Nothing in Lean hashes anything: it is a label: what it is worth is what the hold of that sum in a sandbox is worth. -/
noncomputable def Tryz.pinned : Pinned := { name := "ytnmimmaahhlgeaagreat", sum := "57ebba2f86e1a7190449f6368fad1d3b23314f478c1ab696af4d992fc6b5fb46", checked := Tryz.checked }
namespace Rows
def none {H : Type} : Left H := { results := [], args := [] }

/-- 'laws.FnPushCost': WHATEVER THE INPUT: true; the input reads as it did. -/
def fnPushCostSpec : ChangeSpec := { name := "fnPushCost", fn := fun _ => fun
  | [d] => { results := [.lit (.bool true)], args := [d] }
  | _ => none }
def fnPushCostRow : OpenClaim := { program := "ytnmimmaahhlgeaagreat", sum := "57ebba2f86e1a7190449f6368fad1d3b23314f478c1ab696af4d992fc6b5fb46", func := "loop.example/queryoptimizer/laws.FnPushCost", spec := "fnPushCost", unfollowed := true, recurses := true, apart := false }
def FnPushCostSaid : Prop := fnPushCostRow.holds Tryz.pinned (OpenSpec.ofChange fnPushCostSpec)

/-- ITS FALSE NEIGHBOUR: 'it returns false'. Refute it at one input. -/
def fnPushCostWrong : ChangeSpec := { name := "fnPushCost", fn := fun _ => fun
  | [d] => { results := [.lit (.bool false)], args := [d] }
  | _ => none }
def FnPushCostWrongFalsely : Prop := fnPushCostRow.holds Tryz.pinned (OpenSpec.ofChange fnPushCostWrong)

/-- 'laws.FnNormalizedResult': WHATEVER THE INPUT: true; the input reads as it did. -/
def fnNormalizedResultSpec : ChangeSpec := { name := "fnNormalizedResult", fn := fun _ => fun
  | [d] => { results := [.lit (.bool true)], args := [d] }
  | _ => none }
def fnNormalizedResultRow : OpenClaim := { program := "ytnmimmaahhlgeaagreat", sum := "57ebba2f86e1a7190449f6368fad1d3b23314f478c1ab696af4d992fc6b5fb46", func := "loop.example/queryoptimizer/laws.FnNormalizedResult", spec := "fnNormalizedResult", unfollowed := true, recurses := true, apart := false }
def FnNormalizedResultSaid : Prop := fnNormalizedResultRow.holds Tryz.pinned (OpenSpec.ofChange fnNormalizedResultSpec)

/-- ITS FALSE NEIGHBOUR: 'it returns false'. Refute it at one input. -/
def fnNormalizedResultWrong : ChangeSpec := { name := "fnNormalizedResult", fn := fun _ => fun
  | [d] => { results := [.lit (.bool false)], args := [d] }
  | _ => none }
def FnNormalizedResultWrongFalsely : Prop := fnNormalizedResultRow.holds Tryz.pinned (OpenSpec.ofChange fnNormalizedResultWrong)

/-- 'laws.FnApplyStep': WHATEVER THE INPUT: true; the input reads as it did. -/
def fnApplyStepSpec : ChangeSpec := { name := "fnApplyStep", fn := fun _ => fun
  | [d] => { results := [.lit (.bool true)], args := [d] }
  | _ => none }
def fnApplyStepRow : OpenClaim := { program := "ytnmimmaahhlgeaagreat", sum := "57ebba2f86e1a7190449f6368fad1d3b23314f478c1ab696af4d992fc6b5fb46", func := "loop.example/queryoptimizer/laws.FnApplyStep", spec := "fnApplyStep", unfollowed := true, recurses := true, apart := false }
def FnApplyStepSaid : Prop := fnApplyStepRow.holds Tryz.pinned (OpenSpec.ofChange fnApplyStepSpec)

/-- ITS FALSE NEIGHBOUR: 'it returns false'. Refute it at one input. -/
def fnApplyStepWrong : ChangeSpec := { name := "fnApplyStep", fn := fun _ => fun
  | [d] => { results := [.lit (.bool false)], args := [d] }
  | _ => none }
def FnApplyStepWrongFalsely : Prop := fnApplyStepRow.holds Tryz.pinned (OpenSpec.ofChange fnApplyStepWrong)

/- THE SECOND FORM. 'bulk': how many values and letters a reading holds, each counted each time it is reached (what is shared counts as often as it is met; a slice's spare places count too). A statement '..UptoSaid' is the law's where the arguments, and the package variables that the reading takes, are together of bulk at most 1048576: NARROWER than '..Said'. Prove '..Said' where nothing that the law and all that it calls make is longer than what came in: it says more and counts as full. Else prove '..UptoSaid'. A law counts once. -/
mutual
def uptoBulk {H : Type} : DataW H → Nat
  | .lit (.string bytes) => bytes.length + 1
  | .lit _ => 1
  | .nil => 1
  | .ptr d => uptoBulk d + 1
  | .slice elems spare => uptoBulkAll elems + uptoBulkAll spare + 1
  | .agg parts => uptoBulkAll parts + 1
  | .iface _ d => uptoBulk d + 1
  | .map entries => uptoBulkEntries entries + 1
  | .held _ => 1
def uptoBulkAll {H : Type} : List (DataW H) → Nat
  | [] => 0
  | d :: r => uptoBulk d + uptoBulkAll r
def uptoBulkEntries {H : Type} : List (Lit × DataW H) → Nat
  | [] => 0
  | x :: r => uptoBulkEntry x + uptoBulkEntries r
def uptoBulkEntry {H : Type} : Lit × DataW H → Nat
  | (.string bytes, d) => bytes.length + uptoBulk d + 1
  | (_, d) => uptoBulk d + 1
 end
def uptoSmall : (H : Type) → List (DataW H) → Bool := fun _ ds => decide (uptoBulkAll ds ≤ 1048576)
def OpenSpec.upto (s : _root_.Go.ChangeSpec) : _root_.Go.OpenSpec := { _root_.Go.OpenSpec.ofChange s with cond := some uptoSmall }

/-- 'laws.FnPushCost', WHERE WHAT IT READS IS OF BULK AT MOST 1048576: true; the input reads as it did. -/
def fnPushCostUptoRow : OpenClaim := { program := "ytnmimmaahhlgeaagreat", sum := "57ebba2f86e1a7190449f6368fad1d3b23314f478c1ab696af4d992fc6b5fb46", func := "loop.example/queryoptimizer/laws.FnPushCost", spec := "fnPushCost", unfollowed := true, recurses := true, apart := false, narrowed := true }
def FnPushCostUptoSaid : Prop := fnPushCostUptoRow.holds Tryz.pinned (OpenSpec.upto fnPushCostSpec)

/-- 'laws.FnNormalizedResult', WHERE WHAT IT READS IS OF BULK AT MOST 1048576: true; the input reads as it did. -/
def fnNormalizedResultUptoRow : OpenClaim := { program := "ytnmimmaahhlgeaagreat", sum := "57ebba2f86e1a7190449f6368fad1d3b23314f478c1ab696af4d992fc6b5fb46", func := "loop.example/queryoptimizer/laws.FnNormalizedResult", spec := "fnNormalizedResult", unfollowed := true, recurses := true, apart := false, narrowed := true }
def FnNormalizedResultUptoSaid : Prop := fnNormalizedResultUptoRow.holds Tryz.pinned (OpenSpec.upto fnNormalizedResultSpec)

/-- 'laws.FnApplyStep', WHERE WHAT IT READS IS OF BULK AT MOST 1048576: true; the input reads as it did. -/
def fnApplyStepUptoRow : OpenClaim := { program := "ytnmimmaahhlgeaagreat", sum := "57ebba2f86e1a7190449f6368fad1d3b23314f478c1ab696af4d992fc6b5fb46", func := "loop.example/queryoptimizer/laws.FnApplyStep", spec := "fnApplyStep", unfollowed := true, recurses := true, apart := false, narrowed := true }
def FnApplyStepUptoSaid : Prop := fnApplyStepUptoRow.holds Tryz.pinned (OpenSpec.upto fnApplyStepSpec)

end Rows
end Go.Proofs.YtnmimmaahhlgeaaGreat
