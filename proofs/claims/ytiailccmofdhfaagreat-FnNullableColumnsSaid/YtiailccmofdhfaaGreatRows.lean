/-
  No cell of these rows narrows 'for every input' (looked for: loops, veiled, ifaces, maps, wideKeys, modest, calm, conditions, laid).
  DERIVED. THE GIVEN ROWS OF THIS SEAT. 21 by the template 'for every input the law returns true; each argument reads behind the call as it read before'; 0 by the template 'total and deterministic' (their statements: YtiailccmofdhfaaGreatTotals.lean).
  GIVEN WITH THE SEED: the statements are not yours to turn. If you find one false, say at which input.
  Laid BY PROGRAM, IN A SANDBOX (cutbox-rows.mjs): the forced cells as the released guide's own fill.sh prints them over the translation e784cd8f36a54ff0… (all of the seat's roots in one cut). By AI agents, Wed Nov 11 2026. No macro, syntax, notation, axiom, sorry.
-/
import Derived.Test.YtiailccmofdhfaaGreatChecked
import GoSem.Claim
import GoSem.ClaimJoined
import GoSem.ClaimMapViews
import Derived.JoinedTies
import Derived.KernelRfl
namespace Go.Proofs.YtiailccmofdhfaaGreat
/- THE CELL 'sum', in the pinned program and in every row, IS THE sha256 OF THE DUMP (.gsa) THAT YtiailccmofdhfaaGreatProg.lean LOADS. Nothing in Lean hashes anything: it is a label: what it is worth is what the hold of that sum in a sandbox is worth. -/
noncomputable def Tryz.pinned : Pinned := { name := "ytiailccmofdhfaagreat", sum := "e784cd8f36a54ff0a9b6f952b8584ce124807e55d3e08de9248750096ab4a1af", checked := Tryz.checked }
namespace Rows
def none {H : Type} : Left H := { results := [], args := [] }

/-- 'laws.FnPlanCost': WHATEVER THE INPUT: true; the input reads as it did. -/
def fnPlanCostSpec : ChangeSpec := { name := "fnPlanCost", fn := fun _ => fun
  | [d] => { results := [.lit (.bool true)], args := [d] }
  | _ => none }
def fnPlanCostRow : OpenClaim := { program := "ytiailccmofdhfaagreat", sum := "e784cd8f36a54ff0a9b6f952b8584ce124807e55d3e08de9248750096ab4a1af", func := "loop.example/queryoptimizer/laws.FnPlanCost", spec := "fnPlanCost", unfollowed := true, recurses := true, apart := false }
def FnPlanCostSaid : Prop := fnPlanCostRow.holds Tryz.pinned (OpenSpec.ofChange fnPlanCostSpec)

/-- ITS FALSE NEIGHBOUR: 'it returns false'. Refute it at one input. -/
def fnPlanCostWrong : ChangeSpec := { name := "fnPlanCost", fn := fun _ => fun
  | [d] => { results := [.lit (.bool false)], args := [d] }
  | _ => none }
def FnPlanCostWrongFalsely : Prop := fnPlanCostRow.holds Tryz.pinned (OpenSpec.ofChange fnPlanCostWrong)

/-- 'laws.FnGroupCounts': WHATEVER THE INPUT: true; the input reads as it did. -/
def fnGroupCountsSpec : ChangeSpec := { name := "fnGroupCounts", fn := fun _ => fun
  | [d] => { results := [.lit (.bool true)], args := [d] }
  | _ => none }
def fnGroupCountsRow : OpenClaim := { program := "ytiailccmofdhfaagreat", sum := "e784cd8f36a54ff0a9b6f952b8584ce124807e55d3e08de9248750096ab4a1af", func := "loop.example/queryoptimizer/laws.FnGroupCounts", spec := "fnGroupCounts", unfollowed := true, recurses := true, apart := false }
def FnGroupCountsSaid : Prop := fnGroupCountsRow.holds Tryz.pinned (OpenSpec.ofChange fnGroupCountsSpec)

/-- ITS FALSE NEIGHBOUR: 'it returns false'. Refute it at one input. -/
def fnGroupCountsWrong : ChangeSpec := { name := "fnGroupCounts", fn := fun _ => fun
  | [d] => { results := [.lit (.bool false)], args := [d] }
  | _ => none }
def FnGroupCountsWrongFalsely : Prop := fnGroupCountsRow.holds Tryz.pinned (OpenSpec.ofChange fnGroupCountsWrong)

/-- 'laws.FnGroupKeys': WHATEVER THE INPUT: true; the input reads as it did. -/
def fnGroupKeysSpec : ChangeSpec := { name := "fnGroupKeys", fn := fun _ => fun
  | [d] => { results := [.lit (.bool true)], args := [d] }
  | _ => none }
def fnGroupKeysRow : OpenClaim := { program := "ytiailccmofdhfaagreat", sum := "e784cd8f36a54ff0a9b6f952b8584ce124807e55d3e08de9248750096ab4a1af", func := "loop.example/queryoptimizer/laws.FnGroupKeys", spec := "fnGroupKeys", unfollowed := true, recurses := true, apart := false }
def FnGroupKeysSaid : Prop := fnGroupKeysRow.holds Tryz.pinned (OpenSpec.ofChange fnGroupKeysSpec)

/-- ITS FALSE NEIGHBOUR: 'it returns false'. Refute it at one input. -/
def fnGroupKeysWrong : ChangeSpec := { name := "fnGroupKeys", fn := fun _ => fun
  | [d] => { results := [.lit (.bool false)], args := [d] }
  | _ => none }
def FnGroupKeysWrongFalsely : Prop := fnGroupKeysRow.holds Tryz.pinned (OpenSpec.ofChange fnGroupKeysWrong)

/-- 'laws.FnProjectAll': WHATEVER THE INPUT: true; the input reads as it did. -/
def fnProjectAllSpec : ChangeSpec := { name := "fnProjectAll", fn := fun _ => fun
  | [d] => { results := [.lit (.bool true)], args := [d] }
  | _ => none }
def fnProjectAllRow : OpenClaim := { program := "ytiailccmofdhfaagreat", sum := "e784cd8f36a54ff0a9b6f952b8584ce124807e55d3e08de9248750096ab4a1af", func := "loop.example/queryoptimizer/laws.FnProjectAll", spec := "fnProjectAll", unfollowed := true, recurses := true, apart := false }
def FnProjectAllSaid : Prop := fnProjectAllRow.holds Tryz.pinned (OpenSpec.ofChange fnProjectAllSpec)

/-- ITS FALSE NEIGHBOUR: 'it returns false'. Refute it at one input. -/
def fnProjectAllWrong : ChangeSpec := { name := "fnProjectAll", fn := fun _ => fun
  | [d] => { results := [.lit (.bool false)], args := [d] }
  | _ => none }
def FnProjectAllWrongFalsely : Prop := fnProjectAllRow.holds Tryz.pinned (OpenSpec.ofChange fnProjectAllWrong)

/-- 'laws.FnScan': WHATEVER THE INPUT: true; the input reads as it did. -/
def fnScanSpec : ChangeSpec := { name := "fnScan", fn := fun _ => fun
  | [d] => { results := [.lit (.bool true)], args := [d] }
  | _ => none }
def fnScanRow : OpenClaim := { program := "ytiailccmofdhfaagreat", sum := "e784cd8f36a54ff0a9b6f952b8584ce124807e55d3e08de9248750096ab4a1af", func := "loop.example/queryoptimizer/laws.FnScan", spec := "fnScan", unfollowed := true, recurses := true, apart := false }
def FnScanSaid : Prop := fnScanRow.holds Tryz.pinned (OpenSpec.ofChange fnScanSpec)

/-- ITS FALSE NEIGHBOUR: 'it returns false'. Refute it at one input. -/
def fnScanWrong : ChangeSpec := { name := "fnScan", fn := fun _ => fun
  | [d] => { results := [.lit (.bool false)], args := [d] }
  | _ => none }
def FnScanWrongFalsely : Prop := fnScanRow.holds Tryz.pinned (OpenSpec.ofChange fnScanWrong)

/-- 'laws.FnUnionSwap': WHATEVER THE INPUT: true; the input reads as it did. -/
def fnUnionSwapSpec : ChangeSpec := { name := "fnUnionSwap", fn := fun _ => fun
  | [d] => { results := [.lit (.bool true)], args := [d] }
  | _ => none }
def fnUnionSwapRow : OpenClaim := { program := "ytiailccmofdhfaagreat", sum := "e784cd8f36a54ff0a9b6f952b8584ce124807e55d3e08de9248750096ab4a1af", func := "loop.example/queryoptimizer/laws.FnUnionSwap", spec := "fnUnionSwap", unfollowed := true, recurses := true, apart := false }
def FnUnionSwapSaid : Prop := fnUnionSwapRow.holds Tryz.pinned (OpenSpec.ofChange fnUnionSwapSpec)

/-- ITS FALSE NEIGHBOUR: 'it returns false'. Refute it at one input. -/
def fnUnionSwapWrong : ChangeSpec := { name := "fnUnionSwap", fn := fun _ => fun
  | [d] => { results := [.lit (.bool false)], args := [d] }
  | _ => none }
def FnUnionSwapWrongFalsely : Prop := fnUnionSwapRow.holds Tryz.pinned (OpenSpec.ofChange fnUnionSwapWrong)

/-- 'laws.FnFilterConstant': WHATEVER THE INPUT: true; the input reads as it did. -/
def fnFilterConstantSpec : ChangeSpec := { name := "fnFilterConstant", fn := fun _ => fun
  | [d] => { results := [.lit (.bool true)], args := [d] }
  | _ => none }
def fnFilterConstantRow : OpenClaim := { program := "ytiailccmofdhfaagreat", sum := "e784cd8f36a54ff0a9b6f952b8584ce124807e55d3e08de9248750096ab4a1af", func := "loop.example/queryoptimizer/laws.FnFilterConstant", spec := "fnFilterConstant", unfollowed := true, recurses := true, apart := false }
def FnFilterConstantSaid : Prop := fnFilterConstantRow.holds Tryz.pinned (OpenSpec.ofChange fnFilterConstantSpec)

/-- ITS FALSE NEIGHBOUR: 'it returns false'. Refute it at one input. -/
def fnFilterConstantWrong : ChangeSpec := { name := "fnFilterConstant", fn := fun _ => fun
  | [d] => { results := [.lit (.bool false)], args := [d] }
  | _ => none }
def FnFilterConstantWrongFalsely : Prop := fnFilterConstantRow.holds Tryz.pinned (OpenSpec.ofChange fnFilterConstantWrong)

/-- 'laws.FnJoinFilter': WHATEVER THE INPUT: true; the input reads as it did. -/
def fnJoinFilterSpec : ChangeSpec := { name := "fnJoinFilter", fn := fun _ => fun
  | [d] => { results := [.lit (.bool true)], args := [d] }
  | _ => none }
def fnJoinFilterRow : OpenClaim := { program := "ytiailccmofdhfaagreat", sum := "e784cd8f36a54ff0a9b6f952b8584ce124807e55d3e08de9248750096ab4a1af", func := "loop.example/queryoptimizer/laws.FnJoinFilter", spec := "fnJoinFilter", unfollowed := true, recurses := true, apart := false }
def FnJoinFilterSaid : Prop := fnJoinFilterRow.holds Tryz.pinned (OpenSpec.ofChange fnJoinFilterSpec)

/-- ITS FALSE NEIGHBOUR: 'it returns false'. Refute it at one input. -/
def fnJoinFilterWrong : ChangeSpec := { name := "fnJoinFilter", fn := fun _ => fun
  | [d] => { results := [.lit (.bool false)], args := [d] }
  | _ => none }
def FnJoinFilterWrongFalsely : Prop := fnJoinFilterRow.holds Tryz.pinned (OpenSpec.ofChange fnJoinFilterWrong)

/-- 'laws.FnDistinctUnion': WHATEVER THE INPUT: true; the input reads as it did. -/
def fnDistinctUnionSpec : ChangeSpec := { name := "fnDistinctUnion", fn := fun _ => fun
  | [d] => { results := [.lit (.bool true)], args := [d] }
  | _ => none }
def fnDistinctUnionRow : OpenClaim := { program := "ytiailccmofdhfaagreat", sum := "e784cd8f36a54ff0a9b6f952b8584ce124807e55d3e08de9248750096ab4a1af", func := "loop.example/queryoptimizer/laws.FnDistinctUnion", spec := "fnDistinctUnion", unfollowed := true, recurses := true, apart := false }
def FnDistinctUnionSaid : Prop := fnDistinctUnionRow.holds Tryz.pinned (OpenSpec.ofChange fnDistinctUnionSpec)

/-- ITS FALSE NEIGHBOUR: 'it returns false'. Refute it at one input. -/
def fnDistinctUnionWrong : ChangeSpec := { name := "fnDistinctUnion", fn := fun _ => fun
  | [d] => { results := [.lit (.bool false)], args := [d] }
  | _ => none }
def FnDistinctUnionWrongFalsely : Prop := fnDistinctUnionRow.holds Tryz.pinned (OpenSpec.ofChange fnDistinctUnionWrong)

/-- 'laws.FnFilterTwice': WHATEVER THE INPUT: true; the input reads as it did. -/
def fnFilterTwiceSpec : ChangeSpec := { name := "fnFilterTwice", fn := fun _ => fun
  | [d1, d2] => { results := [.lit (.bool true)], args := [d1, d2] }
  | _ => none }
def fnFilterTwiceRow : OpenClaim := { program := "ytiailccmofdhfaagreat", sum := "e784cd8f36a54ff0a9b6f952b8584ce124807e55d3e08de9248750096ab4a1af", func := "loop.example/queryoptimizer/laws.FnFilterTwice", spec := "fnFilterTwice", unfollowed := true, recurses := true, apart := false }
def FnFilterTwiceSaid : Prop := fnFilterTwiceRow.holds Tryz.pinned (OpenSpec.ofChange fnFilterTwiceSpec)

/-- ITS FALSE NEIGHBOUR: 'it returns false'. Refute it at one input. -/
def fnFilterTwiceWrong : ChangeSpec := { name := "fnFilterTwice", fn := fun _ => fun
  | [d1, d2] => { results := [.lit (.bool false)], args := [d1, d2] }
  | _ => none }
def FnFilterTwiceWrongFalsely : Prop := fnFilterTwiceRow.holds Tryz.pinned (OpenSpec.ofChange fnFilterTwiceWrong)

/-- 'laws.FnEvalPlan': WHATEVER THE INPUT: true; the input reads as it did. -/
def fnEvalPlanSpec : ChangeSpec := { name := "fnEvalPlan", fn := fun _ => fun
  | [d] => { results := [.lit (.bool true)], args := [d] }
  | _ => none }
def fnEvalPlanRow : OpenClaim := { program := "ytiailccmofdhfaagreat", sum := "e784cd8f36a54ff0a9b6f952b8584ce124807e55d3e08de9248750096ab4a1af", func := "loop.example/queryoptimizer/laws.FnEvalPlan", spec := "fnEvalPlan", unfollowed := true, recurses := true, apart := false }
def FnEvalPlanSaid : Prop := fnEvalPlanRow.holds Tryz.pinned (OpenSpec.ofChange fnEvalPlanSpec)

/-- ITS FALSE NEIGHBOUR: 'it returns false'. Refute it at one input. -/
def fnEvalPlanWrong : ChangeSpec := { name := "fnEvalPlan", fn := fun _ => fun
  | [d] => { results := [.lit (.bool false)], args := [d] }
  | _ => none }
def FnEvalPlanWrongFalsely : Prop := fnEvalPlanRow.holds Tryz.pinned (OpenSpec.ofChange fnEvalPlanWrong)

/-- 'laws.FnMaterialize': WHATEVER THE INPUT: true; the input reads as it did. -/
def fnMaterializeSpec : ChangeSpec := { name := "fnMaterialize", fn := fun _ => fun
  | [d] => { results := [.lit (.bool true)], args := [d] }
  | _ => none }
def fnMaterializeRow : OpenClaim := { program := "ytiailccmofdhfaagreat", sum := "e784cd8f36a54ff0a9b6f952b8584ce124807e55d3e08de9248750096ab4a1af", func := "loop.example/queryoptimizer/laws.FnMaterialize", spec := "fnMaterialize", unfollowed := true, recurses := true, apart := false }
def FnMaterializeSaid : Prop := fnMaterializeRow.holds Tryz.pinned (OpenSpec.ofChange fnMaterializeSpec)

/-- ITS FALSE NEIGHBOUR: 'it returns false'. Refute it at one input. -/
def fnMaterializeWrong : ChangeSpec := { name := "fnMaterialize", fn := fun _ => fun
  | [d] => { results := [.lit (.bool false)], args := [d] }
  | _ => none }
def FnMaterializeWrongFalsely : Prop := fnMaterializeRow.holds Tryz.pinned (OpenSpec.ofChange fnMaterializeWrong)

/-- 'laws.FnFilterSplits': WHATEVER THE INPUT: true; the input reads as it did. -/
def fnFilterSplitsSpec : ChangeSpec := { name := "fnFilterSplits", fn := fun _ => fun
  | [d1, d2] => { results := [.lit (.bool true)], args := [d1, d2] }
  | _ => none }
def fnFilterSplitsRow : OpenClaim := { program := "ytiailccmofdhfaagreat", sum := "e784cd8f36a54ff0a9b6f952b8584ce124807e55d3e08de9248750096ab4a1af", func := "loop.example/queryoptimizer/laws.FnFilterSplits", spec := "fnFilterSplits", unfollowed := true, recurses := true, apart := false }
def FnFilterSplitsSaid : Prop := fnFilterSplitsRow.holds Tryz.pinned (OpenSpec.ofChange fnFilterSplitsSpec)

/-- ITS FALSE NEIGHBOUR: 'it returns false'. Refute it at one input. -/
def fnFilterSplitsWrong : ChangeSpec := { name := "fnFilterSplits", fn := fun _ => fun
  | [d1, d2] => { results := [.lit (.bool false)], args := [d1, d2] }
  | _ => none }
def FnFilterSplitsWrongFalsely : Prop := fnFilterSplitsRow.holds Tryz.pinned (OpenSpec.ofChange fnFilterSplitsWrong)

/-- 'laws.FnLeftJoinKeeps': WHATEVER THE INPUT: true; the input reads as it did. -/
def fnLeftJoinKeepsSpec : ChangeSpec := { name := "fnLeftJoinKeeps", fn := fun _ => fun
  | [d] => { results := [.lit (.bool true)], args := [d] }
  | _ => none }
def fnLeftJoinKeepsRow : OpenClaim := { program := "ytiailccmofdhfaagreat", sum := "e784cd8f36a54ff0a9b6f952b8584ce124807e55d3e08de9248750096ab4a1af", func := "loop.example/queryoptimizer/laws.FnLeftJoinKeeps", spec := "fnLeftJoinKeeps", unfollowed := true, recurses := true, apart := false }
def FnLeftJoinKeepsSaid : Prop := fnLeftJoinKeepsRow.holds Tryz.pinned (OpenSpec.ofChange fnLeftJoinKeepsSpec)

/-- ITS FALSE NEIGHBOUR: 'it returns false'. Refute it at one input. -/
def fnLeftJoinKeepsWrong : ChangeSpec := { name := "fnLeftJoinKeeps", fn := fun _ => fun
  | [d] => { results := [.lit (.bool false)], args := [d] }
  | _ => none }
def FnLeftJoinKeepsWrongFalsely : Prop := fnLeftJoinKeepsRow.holds Tryz.pinned (OpenSpec.ofChange fnLeftJoinKeepsWrong)

/-- 'laws.FnJoinInLeftJoin': WHATEVER THE INPUT: true; the input reads as it did. -/
def fnJoinInLeftJoinSpec : ChangeSpec := { name := "fnJoinInLeftJoin", fn := fun _ => fun
  | [d] => { results := [.lit (.bool true)], args := [d] }
  | _ => none }
def fnJoinInLeftJoinRow : OpenClaim := { program := "ytiailccmofdhfaagreat", sum := "e784cd8f36a54ff0a9b6f952b8584ce124807e55d3e08de9248750096ab4a1af", func := "loop.example/queryoptimizer/laws.FnJoinInLeftJoin", spec := "fnJoinInLeftJoin", unfollowed := true, recurses := true, apart := false }
def FnJoinInLeftJoinSaid : Prop := fnJoinInLeftJoinRow.holds Tryz.pinned (OpenSpec.ofChange fnJoinInLeftJoinSpec)

/-- ITS FALSE NEIGHBOUR: 'it returns false'. Refute it at one input. -/
def fnJoinInLeftJoinWrong : ChangeSpec := { name := "fnJoinInLeftJoin", fn := fun _ => fun
  | [d] => { results := [.lit (.bool false)], args := [d] }
  | _ => none }
def FnJoinInLeftJoinWrongFalsely : Prop := fnJoinInLeftJoinRow.holds Tryz.pinned (OpenSpec.ofChange fnJoinInLeftJoinWrong)

/-- 'laws.FnRowBound': WHATEVER THE INPUT: true; the input reads as it did. -/
def fnRowBoundSpec : ChangeSpec := { name := "fnRowBound", fn := fun _ => fun
  | [d] => { results := [.lit (.bool true)], args := [d] }
  | _ => none }
def fnRowBoundRow : OpenClaim := { program := "ytiailccmofdhfaagreat", sum := "e784cd8f36a54ff0a9b6f952b8584ce124807e55d3e08de9248750096ab4a1af", func := "loop.example/queryoptimizer/laws.FnRowBound", spec := "fnRowBound", unfollowed := true, recurses := true, apart := false }
def FnRowBoundSaid : Prop := fnRowBoundRow.holds Tryz.pinned (OpenSpec.ofChange fnRowBoundSpec)

/-- ITS FALSE NEIGHBOUR: 'it returns false'. Refute it at one input. -/
def fnRowBoundWrong : ChangeSpec := { name := "fnRowBound", fn := fun _ => fun
  | [d] => { results := [.lit (.bool false)], args := [d] }
  | _ => none }
def FnRowBoundWrongFalsely : Prop := fnRowBoundRow.holds Tryz.pinned (OpenSpec.ofChange fnRowBoundWrong)

/-- 'laws.FnTablesOf': WHATEVER THE INPUT: true; the input reads as it did. -/
def fnTablesOfSpec : ChangeSpec := { name := "fnTablesOf", fn := fun _ => fun
  | [d] => { results := [.lit (.bool true)], args := [d] }
  | _ => none }
def fnTablesOfRow : OpenClaim := { program := "ytiailccmofdhfaagreat", sum := "e784cd8f36a54ff0a9b6f952b8584ce124807e55d3e08de9248750096ab4a1af", func := "loop.example/queryoptimizer/laws.FnTablesOf", spec := "fnTablesOf", unfollowed := true, recurses := true, apart := false }
def FnTablesOfSaid : Prop := fnTablesOfRow.holds Tryz.pinned (OpenSpec.ofChange fnTablesOfSpec)

/-- ITS FALSE NEIGHBOUR: 'it returns false'. Refute it at one input. -/
def fnTablesOfWrong : ChangeSpec := { name := "fnTablesOf", fn := fun _ => fun
  | [d] => { results := [.lit (.bool false)], args := [d] }
  | _ => none }
def FnTablesOfWrongFalsely : Prop := fnTablesOfRow.holds Tryz.pinned (OpenSpec.ofChange fnTablesOfWrong)

/-- 'laws.FnIsDuplicateFree': WHATEVER THE INPUT: true; the input reads as it did. -/
def fnIsDuplicateFreeSpec : ChangeSpec := { name := "fnIsDuplicateFree", fn := fun _ => fun
  | [d] => { results := [.lit (.bool true)], args := [d] }
  | _ => none }
def fnIsDuplicateFreeRow : OpenClaim := { program := "ytiailccmofdhfaagreat", sum := "e784cd8f36a54ff0a9b6f952b8584ce124807e55d3e08de9248750096ab4a1af", func := "loop.example/queryoptimizer/laws.FnIsDuplicateFree", spec := "fnIsDuplicateFree", unfollowed := true, recurses := true, apart := false }
def FnIsDuplicateFreeSaid : Prop := fnIsDuplicateFreeRow.holds Tryz.pinned (OpenSpec.ofChange fnIsDuplicateFreeSpec)

/-- ITS FALSE NEIGHBOUR: 'it returns false'. Refute it at one input. -/
def fnIsDuplicateFreeWrong : ChangeSpec := { name := "fnIsDuplicateFree", fn := fun _ => fun
  | [d] => { results := [.lit (.bool false)], args := [d] }
  | _ => none }
def FnIsDuplicateFreeWrongFalsely : Prop := fnIsDuplicateFreeRow.holds Tryz.pinned (OpenSpec.ofChange fnIsDuplicateFreeWrong)

/-- 'laws.FnExpandResult': WHATEVER THE INPUT: true; the input reads as it did. -/
def fnExpandResultSpec : ChangeSpec := { name := "fnExpandResult", fn := fun _ => fun
  | [d] => { results := [.lit (.bool true)], args := [d] }
  | _ => none }
def fnExpandResultRow : OpenClaim := { program := "ytiailccmofdhfaagreat", sum := "e784cd8f36a54ff0a9b6f952b8584ce124807e55d3e08de9248750096ab4a1af", func := "loop.example/queryoptimizer/laws.FnExpandResult", spec := "fnExpandResult", unfollowed := true, recurses := true, apart := false }
def FnExpandResultSaid : Prop := fnExpandResultRow.holds Tryz.pinned (OpenSpec.ofChange fnExpandResultSpec)

/-- ITS FALSE NEIGHBOUR: 'it returns false'. Refute it at one input. -/
def fnExpandResultWrong : ChangeSpec := { name := "fnExpandResult", fn := fun _ => fun
  | [d] => { results := [.lit (.bool false)], args := [d] }
  | _ => none }
def FnExpandResultWrongFalsely : Prop := fnExpandResultRow.holds Tryz.pinned (OpenSpec.ofChange fnExpandResultWrong)

/-- 'laws.FnViewResult': WHATEVER THE INPUT: true; the input reads as it did. -/
def fnViewResultSpec : ChangeSpec := { name := "fnViewResult", fn := fun _ => fun
  | [d] => { results := [.lit (.bool true)], args := [d] }
  | _ => none }
def fnViewResultRow : OpenClaim := { program := "ytiailccmofdhfaagreat", sum := "e784cd8f36a54ff0a9b6f952b8584ce124807e55d3e08de9248750096ab4a1af", func := "loop.example/queryoptimizer/laws.FnViewResult", spec := "fnViewResult", unfollowed := true, recurses := true, apart := false }
def FnViewResultSaid : Prop := fnViewResultRow.holds Tryz.pinned (OpenSpec.ofChange fnViewResultSpec)

/-- ITS FALSE NEIGHBOUR: 'it returns false'. Refute it at one input. -/
def fnViewResultWrong : ChangeSpec := { name := "fnViewResult", fn := fun _ => fun
  | [d] => { results := [.lit (.bool false)], args := [d] }
  | _ => none }
def FnViewResultWrongFalsely : Prop := fnViewResultRow.holds Tryz.pinned (OpenSpec.ofChange fnViewResultWrong)

/-- 'laws.FnNullableColumns': WHATEVER THE INPUT: true; the input reads as it did. -/
def fnNullableColumnsSpec : ChangeSpec := { name := "fnNullableColumns", fn := fun _ => fun
  | [d] => { results := [.lit (.bool true)], args := [d] }
  | _ => none }
def fnNullableColumnsRow : OpenClaim := { program := "ytiailccmofdhfaagreat", sum := "e784cd8f36a54ff0a9b6f952b8584ce124807e55d3e08de9248750096ab4a1af", func := "loop.example/queryoptimizer/laws.FnNullableColumns", spec := "fnNullableColumns", unfollowed := true, recurses := true, apart := false }
def FnNullableColumnsSaid : Prop := fnNullableColumnsRow.holds Tryz.pinned (OpenSpec.ofChange fnNullableColumnsSpec)

/-- ITS FALSE NEIGHBOUR: 'it returns false'. Refute it at one input. -/
def fnNullableColumnsWrong : ChangeSpec := { name := "fnNullableColumns", fn := fun _ => fun
  | [d] => { results := [.lit (.bool false)], args := [d] }
  | _ => none }
def FnNullableColumnsWrongFalsely : Prop := fnNullableColumnsRow.holds Tryz.pinned (OpenSpec.ofChange fnNullableColumnsWrong)

/- THE SECOND FORM. 'bulk': how many values and letters a reading holds, each counted each time it is reached (what is shared counts as often as it is met; a slice's spare places count too). A statement '..UptoSaid' is the law's where the arguments, and the package variables that the reading takes, are together of bulk at most 1048576: NARROWER than '..Said'. Prove '..Said' where nothing that the law and all that it calls make is longer than what came in: it says more and counts as full. Else prove '..UptoSaid'. A law counts once. -/
mutual
def uptoBulk {H : Type} : DataW H → Nat
  | .lit (.string bytes) => bytes.length + 1
  | .lit _ => 1
  | .nil => 1
  | .ptr d => uptoBulk d + 1
  | .slice elems spare => uptoBulkAll elems + uptoBulkAll spare + 1
  | .agg parts => uptoBulkAll parts + 1
  | .iface _ d => uptoBulk d + 1
  | .map entries => uptoBulkEntries entries + 1
  | .held _ => 1
def uptoBulkAll {H : Type} : List (DataW H) → Nat
  | [] => 0
  | d :: r => uptoBulk d + uptoBulkAll r
def uptoBulkEntries {H : Type} : List (Lit × DataW H) → Nat
  | [] => 0
  | x :: r => uptoBulkEntry x + uptoBulkEntries r
def uptoBulkEntry {H : Type} : Lit × DataW H → Nat
  | (.string bytes, d) => bytes.length + uptoBulk d + 1
  | (_, d) => uptoBulk d + 1
 end
def uptoSmall : (H : Type) → List (DataW H) → Bool := fun _ ds => decide (uptoBulkAll ds ≤ 1048576)
def OpenSpec.upto (s : _root_.Go.ChangeSpec) : _root_.Go.OpenSpec := { _root_.Go.OpenSpec.ofChange s with cond := some uptoSmall }

/-- 'laws.FnPlanCost', WHERE WHAT IT READS IS OF BULK AT MOST 1048576: true; the input reads as it did. -/
def fnPlanCostUptoRow : OpenClaim := { program := "ytiailccmofdhfaagreat", sum := "e784cd8f36a54ff0a9b6f952b8584ce124807e55d3e08de9248750096ab4a1af", func := "loop.example/queryoptimizer/laws.FnPlanCost", spec := "fnPlanCost", unfollowed := true, recurses := true, apart := false, narrowed := true }
def FnPlanCostUptoSaid : Prop := fnPlanCostUptoRow.holds Tryz.pinned (OpenSpec.upto fnPlanCostSpec)

/-- 'laws.FnGroupCounts', WHERE WHAT IT READS IS OF BULK AT MOST 1048576: true; the input reads as it did. -/
def fnGroupCountsUptoRow : OpenClaim := { program := "ytiailccmofdhfaagreat", sum := "e784cd8f36a54ff0a9b6f952b8584ce124807e55d3e08de9248750096ab4a1af", func := "loop.example/queryoptimizer/laws.FnGroupCounts", spec := "fnGroupCounts", unfollowed := true, recurses := true, apart := false, narrowed := true }
def FnGroupCountsUptoSaid : Prop := fnGroupCountsUptoRow.holds Tryz.pinned (OpenSpec.upto fnGroupCountsSpec)

/-- 'laws.FnGroupKeys', WHERE WHAT IT READS IS OF BULK AT MOST 1048576: true; the input reads as it did. -/
def fnGroupKeysUptoRow : OpenClaim := { program := "ytiailccmofdhfaagreat", sum := "e784cd8f36a54ff0a9b6f952b8584ce124807e55d3e08de9248750096ab4a1af", func := "loop.example/queryoptimizer/laws.FnGroupKeys", spec := "fnGroupKeys", unfollowed := true, recurses := true, apart := false, narrowed := true }
def FnGroupKeysUptoSaid : Prop := fnGroupKeysUptoRow.holds Tryz.pinned (OpenSpec.upto fnGroupKeysSpec)

/-- 'laws.FnProjectAll', WHERE WHAT IT READS IS OF BULK AT MOST 1048576: true; the input reads as it did. -/
def fnProjectAllUptoRow : OpenClaim := { program := "ytiailccmofdhfaagreat", sum := "e784cd8f36a54ff0a9b6f952b8584ce124807e55d3e08de9248750096ab4a1af", func := "loop.example/queryoptimizer/laws.FnProjectAll", spec := "fnProjectAll", unfollowed := true, recurses := true, apart := false, narrowed := true }
def FnProjectAllUptoSaid : Prop := fnProjectAllUptoRow.holds Tryz.pinned (OpenSpec.upto fnProjectAllSpec)

/-- 'laws.FnScan', WHERE WHAT IT READS IS OF BULK AT MOST 1048576: true; the input reads as it did. -/
def fnScanUptoRow : OpenClaim := { program := "ytiailccmofdhfaagreat", sum := "e784cd8f36a54ff0a9b6f952b8584ce124807e55d3e08de9248750096ab4a1af", func := "loop.example/queryoptimizer/laws.FnScan", spec := "fnScan", unfollowed := true, recurses := true, apart := false, narrowed := true }
def FnScanUptoSaid : Prop := fnScanUptoRow.holds Tryz.pinned (OpenSpec.upto fnScanSpec)

/-- 'laws.FnUnionSwap', WHERE WHAT IT READS IS OF BULK AT MOST 1048576: true; the input reads as it did. -/
def fnUnionSwapUptoRow : OpenClaim := { program := "ytiailccmofdhfaagreat", sum := "e784cd8f36a54ff0a9b6f952b8584ce124807e55d3e08de9248750096ab4a1af", func := "loop.example/queryoptimizer/laws.FnUnionSwap", spec := "fnUnionSwap", unfollowed := true, recurses := true, apart := false, narrowed := true }
def FnUnionSwapUptoSaid : Prop := fnUnionSwapUptoRow.holds Tryz.pinned (OpenSpec.upto fnUnionSwapSpec)

/-- 'laws.FnFilterConstant', WHERE WHAT IT READS IS OF BULK AT MOST 1048576: true; the input reads as it did. -/
def fnFilterConstantUptoRow : OpenClaim := { program := "ytiailccmofdhfaagreat", sum := "e784cd8f36a54ff0a9b6f952b8584ce124807e55d3e08de9248750096ab4a1af", func := "loop.example/queryoptimizer/laws.FnFilterConstant", spec := "fnFilterConstant", unfollowed := true, recurses := true, apart := false, narrowed := true }
def FnFilterConstantUptoSaid : Prop := fnFilterConstantUptoRow.holds Tryz.pinned (OpenSpec.upto fnFilterConstantSpec)

/-- 'laws.FnJoinFilter', WHERE WHAT IT READS IS OF BULK AT MOST 1048576: true; the input reads as it did. -/
def fnJoinFilterUptoRow : OpenClaim := { program := "ytiailccmofdhfaagreat", sum := "e784cd8f36a54ff0a9b6f952b8584ce124807e55d3e08de9248750096ab4a1af", func := "loop.example/queryoptimizer/laws.FnJoinFilter", spec := "fnJoinFilter", unfollowed := true, recurses := true, apart := false, narrowed := true }
def FnJoinFilterUptoSaid : Prop := fnJoinFilterUptoRow.holds Tryz.pinned (OpenSpec.upto fnJoinFilterSpec)

/-- 'laws.FnDistinctUnion', WHERE WHAT IT READS IS OF BULK AT MOST 1048576: true; the input reads as it did. -/
def fnDistinctUnionUptoRow : OpenClaim := { program := "ytiailccmofdhfaagreat", sum := "e784cd8f36a54ff0a9b6f952b8584ce124807e55d3e08de9248750096ab4a1af", func := "loop.example/queryoptimizer/laws.FnDistinctUnion", spec := "fnDistinctUnion", unfollowed := true, recurses := true, apart := false, narrowed := true }
def FnDistinctUnionUptoSaid : Prop := fnDistinctUnionUptoRow.holds Tryz.pinned (OpenSpec.upto fnDistinctUnionSpec)

/-- 'laws.FnFilterTwice', WHERE WHAT IT READS IS OF BULK AT MOST 1048576: true; the input reads as it did. -/
def fnFilterTwiceUptoRow : OpenClaim := { program := "ytiailccmofdhfaagreat", sum := "e784cd8f36a54ff0a9b6f952b8584ce124807e55d3e08de9248750096ab4a1af", func := "loop.example/queryoptimizer/laws.FnFilterTwice", spec := "fnFilterTwice", unfollowed := true, recurses := true, apart := false, narrowed := true }
def FnFilterTwiceUptoSaid : Prop := fnFilterTwiceUptoRow.holds Tryz.pinned (OpenSpec.upto fnFilterTwiceSpec)

/-- 'laws.FnEvalPlan', WHERE WHAT IT READS IS OF BULK AT MOST 1048576: true; the input reads as it did. -/
def fnEvalPlanUptoRow : OpenClaim := { program := "ytiailccmofdhfaagreat", sum := "e784cd8f36a54ff0a9b6f952b8584ce124807e55d3e08de9248750096ab4a1af", func := "loop.example/queryoptimizer/laws.FnEvalPlan", spec := "fnEvalPlan", unfollowed := true, recurses := true, apart := false, narrowed := true }
def FnEvalPlanUptoSaid : Prop := fnEvalPlanUptoRow.holds Tryz.pinned (OpenSpec.upto fnEvalPlanSpec)

/-- 'laws.FnMaterialize', WHERE WHAT IT READS IS OF BULK AT MOST 1048576: true; the input reads as it did. -/
def fnMaterializeUptoRow : OpenClaim := { program := "ytiailccmofdhfaagreat", sum := "e784cd8f36a54ff0a9b6f952b8584ce124807e55d3e08de9248750096ab4a1af", func := "loop.example/queryoptimizer/laws.FnMaterialize", spec := "fnMaterialize", unfollowed := true, recurses := true, apart := false, narrowed := true }
def FnMaterializeUptoSaid : Prop := fnMaterializeUptoRow.holds Tryz.pinned (OpenSpec.upto fnMaterializeSpec)

/-- 'laws.FnFilterSplits', WHERE WHAT IT READS IS OF BULK AT MOST 1048576: true; the input reads as it did. -/
def fnFilterSplitsUptoRow : OpenClaim := { program := "ytiailccmofdhfaagreat", sum := "e784cd8f36a54ff0a9b6f952b8584ce124807e55d3e08de9248750096ab4a1af", func := "loop.example/queryoptimizer/laws.FnFilterSplits", spec := "fnFilterSplits", unfollowed := true, recurses := true, apart := false, narrowed := true }
def FnFilterSplitsUptoSaid : Prop := fnFilterSplitsUptoRow.holds Tryz.pinned (OpenSpec.upto fnFilterSplitsSpec)

/-- 'laws.FnLeftJoinKeeps', WHERE WHAT IT READS IS OF BULK AT MOST 1048576: true; the input reads as it did. -/
def fnLeftJoinKeepsUptoRow : OpenClaim := { program := "ytiailccmofdhfaagreat", sum := "e784cd8f36a54ff0a9b6f952b8584ce124807e55d3e08de9248750096ab4a1af", func := "loop.example/queryoptimizer/laws.FnLeftJoinKeeps", spec := "fnLeftJoinKeeps", unfollowed := true, recurses := true, apart := false, narrowed := true }
def FnLeftJoinKeepsUptoSaid : Prop := fnLeftJoinKeepsUptoRow.holds Tryz.pinned (OpenSpec.upto fnLeftJoinKeepsSpec)

/-- 'laws.FnJoinInLeftJoin', WHERE WHAT IT READS IS OF BULK AT MOST 1048576: true; the input reads as it did. -/
def fnJoinInLeftJoinUptoRow : OpenClaim := { program := "ytiailccmofdhfaagreat", sum := "e784cd8f36a54ff0a9b6f952b8584ce124807e55d3e08de9248750096ab4a1af", func := "loop.example/queryoptimizer/laws.FnJoinInLeftJoin", spec := "fnJoinInLeftJoin", unfollowed := true, recurses := true, apart := false, narrowed := true }
def FnJoinInLeftJoinUptoSaid : Prop := fnJoinInLeftJoinUptoRow.holds Tryz.pinned (OpenSpec.upto fnJoinInLeftJoinSpec)

/-- 'laws.FnRowBound', WHERE WHAT IT READS IS OF BULK AT MOST 1048576: true; the input reads as it did. -/
def fnRowBoundUptoRow : OpenClaim := { program := "ytiailccmofdhfaagreat", sum := "e784cd8f36a54ff0a9b6f952b8584ce124807e55d3e08de9248750096ab4a1af", func := "loop.example/queryoptimizer/laws.FnRowBound", spec := "fnRowBound", unfollowed := true, recurses := true, apart := false, narrowed := true }
def FnRowBoundUptoSaid : Prop := fnRowBoundUptoRow.holds Tryz.pinned (OpenSpec.upto fnRowBoundSpec)

/-- 'laws.FnTablesOf', WHERE WHAT IT READS IS OF BULK AT MOST 1048576: true; the input reads as it did. -/
def fnTablesOfUptoRow : OpenClaim := { program := "ytiailccmofdhfaagreat", sum := "e784cd8f36a54ff0a9b6f952b8584ce124807e55d3e08de9248750096ab4a1af", func := "loop.example/queryoptimizer/laws.FnTablesOf", spec := "fnTablesOf", unfollowed := true, recurses := true, apart := false, narrowed := true }
def FnTablesOfUptoSaid : Prop := fnTablesOfUptoRow.holds Tryz.pinned (OpenSpec.upto fnTablesOfSpec)

/-- 'laws.FnIsDuplicateFree', WHERE WHAT IT READS IS OF BULK AT MOST 1048576: true; the input reads as it did. -/
def fnIsDuplicateFreeUptoRow : OpenClaim := { program := "ytiailccmofdhfaagreat", sum := "e784cd8f36a54ff0a9b6f952b8584ce124807e55d3e08de9248750096ab4a1af", func := "loop.example/queryoptimizer/laws.FnIsDuplicateFree", spec := "fnIsDuplicateFree", unfollowed := true, recurses := true, apart := false, narrowed := true }
def FnIsDuplicateFreeUptoSaid : Prop := fnIsDuplicateFreeUptoRow.holds Tryz.pinned (OpenSpec.upto fnIsDuplicateFreeSpec)

/-- 'laws.FnExpandResult', WHERE WHAT IT READS IS OF BULK AT MOST 1048576: true; the input reads as it did. -/
def fnExpandResultUptoRow : OpenClaim := { program := "ytiailccmofdhfaagreat", sum := "e784cd8f36a54ff0a9b6f952b8584ce124807e55d3e08de9248750096ab4a1af", func := "loop.example/queryoptimizer/laws.FnExpandResult", spec := "fnExpandResult", unfollowed := true, recurses := true, apart := false, narrowed := true }
def FnExpandResultUptoSaid : Prop := fnExpandResultUptoRow.holds Tryz.pinned (OpenSpec.upto fnExpandResultSpec)

/-- 'laws.FnViewResult', WHERE WHAT IT READS IS OF BULK AT MOST 1048576: true; the input reads as it did. -/
def fnViewResultUptoRow : OpenClaim := { program := "ytiailccmofdhfaagreat", sum := "e784cd8f36a54ff0a9b6f952b8584ce124807e55d3e08de9248750096ab4a1af", func := "loop.example/queryoptimizer/laws.FnViewResult", spec := "fnViewResult", unfollowed := true, recurses := true, apart := false, narrowed := true }
def FnViewResultUptoSaid : Prop := fnViewResultUptoRow.holds Tryz.pinned (OpenSpec.upto fnViewResultSpec)

/-- 'laws.FnNullableColumns', WHERE WHAT IT READS IS OF BULK AT MOST 1048576: true; the input reads as it did. -/
def fnNullableColumnsUptoRow : OpenClaim := { program := "ytiailccmofdhfaagreat", sum := "e784cd8f36a54ff0a9b6f952b8584ce124807e55d3e08de9248750096ab4a1af", func := "loop.example/queryoptimizer/laws.FnNullableColumns", spec := "fnNullableColumns", unfollowed := true, recurses := true, apart := false, narrowed := true }
def FnNullableColumnsUptoSaid : Prop := fnNullableColumnsUptoRow.holds Tryz.pinned (OpenSpec.upto fnNullableColumnsSpec)

end Rows
end Go.Proofs.YtiailccmofdhfaaGreat
