/-
  NARROWER THAN 'FOR EVERY INPUT', by the rows' own cells (each row's printed sentence says how): FnExactCheckRewrite: loops · FnExactStepsFor: loops · FnExactApplyStep: loops · FnExactApplySteps: loops · FnExactNormalize: loops · FnExactImprove: loops.
  DERIVED. THE GIVEN ROWS OF THIS SEAT. 7 by the template 'for every input the law returns true; each argument reads behind the call as it read before'; 0 by the template 'total and deterministic' (their statements: YtjdfjgmebalaaaaGreatTotals.lean).
  GIVEN WITH THE SEED: the statements are not yours to turn. If you find one false, say at which input.
  Laid BY PROGRAM, IN A SANDBOX (cutbox-rows.mjs): the forced cells as the released guide's own fill.sh prints them over the translation 41631fbfd56bf046… (all of the seat's roots in one cut). By AI agents, Wed Nov 11 2026. No macro, syntax, notation, axiom, sorry.
-/
import Derived.Test.YtjdfjgmebalaaaaGreatChecked
import GoSem.Claim
import GoSem.ClaimJoined
import GoSem.ClaimMapViews
import Derived.JoinedTies
import Derived.KernelRfl
namespace Go.Proofs.YtjdfjgmebalaaaaGreat
/- THE CELL 'sum', in the pinned program and in every row, IS THE sha256 OF THE DUMP (.gsa) THAT YtjdfjgmebalaaaaGreatProg.lean LOADS. Nothing in Lean hashes anything: it is a label: what it is worth is what the hold of that sum in a sandbox is worth. -/
noncomputable def Tryz.pinned : Pinned := { name := "ytjdfjgmebalaaaagreat", sum := "41631fbfd56bf046de7744fc745166b1d1c3c77f7c99f652a3dd7cc5349eaff4", checked := Tryz.checked }
namespace Rows
def none {H : Type} : Left H := { results := [], args := [] }

/-- 'laws.FnExactCheckRewrite': WHATEVER THE INPUT: true; the input reads as it did. -/
def fnExactCheckRewriteSpec : ChangeSpec := { name := "fnExactCheckRewrite", fn := fun _ => fun
  | [d1, d2, d3, d4] => { results := [.lit (.bool true)], args := [d1, d2, d3, d4] }
  | _ => none }
def fnExactCheckRewriteRow : OpenClaim := { program := "ytjdfjgmebalaaaagreat", sum := "41631fbfd56bf046de7744fc745166b1d1c3c77f7c99f652a3dd7cc5349eaff4", func := "loop.example/queryoptimizer/laws.FnExactCheckRewrite", spec := "fnExactCheckRewrite", unfollowed := true, recurses := true, loops := true, apart := false }
def FnExactCheckRewriteSaid : Prop := fnExactCheckRewriteRow.holds Tryz.pinned (OpenSpec.ofChange fnExactCheckRewriteSpec)

/-- ITS FALSE NEIGHBOUR: 'it returns false'. Refute it at one input. -/
def fnExactCheckRewriteWrong : ChangeSpec := { name := "fnExactCheckRewrite", fn := fun _ => fun
  | [d1, d2, d3, d4] => { results := [.lit (.bool false)], args := [d1, d2, d3, d4] }
  | _ => none }
def FnExactCheckRewriteWrongFalsely : Prop := fnExactCheckRewriteRow.holds Tryz.pinned (OpenSpec.ofChange fnExactCheckRewriteWrong)

/-- 'laws.FnImprove': WHATEVER THE INPUT: true; the input reads as it did. -/
def fnImproveSpec : ChangeSpec := { name := "fnImprove", fn := fun _ => fun
  | [d] => { results := [.lit (.bool true)], args := [d] }
  | _ => none }
def fnImproveRow : OpenClaim := { program := "ytjdfjgmebalaaaagreat", sum := "41631fbfd56bf046de7744fc745166b1d1c3c77f7c99f652a3dd7cc5349eaff4", func := "loop.example/queryoptimizer/laws.FnImprove", spec := "fnImprove", unfollowed := true, recurses := true, apart := false }
def FnImproveSaid : Prop := fnImproveRow.holds Tryz.pinned (OpenSpec.ofChange fnImproveSpec)

/-- ITS FALSE NEIGHBOUR: 'it returns false'. Refute it at one input. -/
def fnImproveWrong : ChangeSpec := { name := "fnImprove", fn := fun _ => fun
  | [d] => { results := [.lit (.bool false)], args := [d] }
  | _ => none }
def FnImproveWrongFalsely : Prop := fnImproveRow.holds Tryz.pinned (OpenSpec.ofChange fnImproveWrong)

/-- 'laws.FnExactStepsFor': WHATEVER THE INPUT: true; the input reads as it did. -/
def fnExactStepsForSpec : ChangeSpec := { name := "fnExactStepsFor", fn := fun _ => fun
  | [d1, d2] => { results := [.lit (.bool true)], args := [d1, d2] }
  | _ => none }
def fnExactStepsForRow : OpenClaim := { program := "ytjdfjgmebalaaaagreat", sum := "41631fbfd56bf046de7744fc745166b1d1c3c77f7c99f652a3dd7cc5349eaff4", func := "loop.example/queryoptimizer/laws.FnExactStepsFor", spec := "fnExactStepsFor", unfollowed := true, recurses := true, loops := true, apart := false }
def FnExactStepsForSaid : Prop := fnExactStepsForRow.holds Tryz.pinned (OpenSpec.ofChange fnExactStepsForSpec)

/-- ITS FALSE NEIGHBOUR: 'it returns false'. Refute it at one input. -/
def fnExactStepsForWrong : ChangeSpec := { name := "fnExactStepsFor", fn := fun _ => fun
  | [d1, d2] => { results := [.lit (.bool false)], args := [d1, d2] }
  | _ => none }
def FnExactStepsForWrongFalsely : Prop := fnExactStepsForRow.holds Tryz.pinned (OpenSpec.ofChange fnExactStepsForWrong)

/-- 'laws.FnExactApplyStep': WHATEVER THE INPUT: true; the input reads as it did. -/
def fnExactApplyStepSpec : ChangeSpec := { name := "fnExactApplyStep", fn := fun _ => fun
  | [d1, d2, d3] => { results := [.lit (.bool true)], args := [d1, d2, d3] }
  | _ => none }
def fnExactApplyStepRow : OpenClaim := { program := "ytjdfjgmebalaaaagreat", sum := "41631fbfd56bf046de7744fc745166b1d1c3c77f7c99f652a3dd7cc5349eaff4", func := "loop.example/queryoptimizer/laws.FnExactApplyStep", spec := "fnExactApplyStep", unfollowed := true, recurses := true, loops := true, apart := false }
def FnExactApplyStepSaid : Prop := fnExactApplyStepRow.holds Tryz.pinned (OpenSpec.ofChange fnExactApplyStepSpec)

/-- ITS FALSE NEIGHBOUR: 'it returns false'. Refute it at one input. -/
def fnExactApplyStepWrong : ChangeSpec := { name := "fnExactApplyStep", fn := fun _ => fun
  | [d1, d2, d3] => { results := [.lit (.bool false)], args := [d1, d2, d3] }
  | _ => none }
def FnExactApplyStepWrongFalsely : Prop := fnExactApplyStepRow.holds Tryz.pinned (OpenSpec.ofChange fnExactApplyStepWrong)

/-- 'laws.FnExactApplySteps': WHATEVER THE INPUT: true; the input reads as it did. -/
def fnExactApplyStepsSpec : ChangeSpec := { name := "fnExactApplySteps", fn := fun _ => fun
  | [d1, d2, d3] => { results := [.lit (.bool true)], args := [d1, d2, d3] }
  | _ => none }
def fnExactApplyStepsRow : OpenClaim := { program := "ytjdfjgmebalaaaagreat", sum := "41631fbfd56bf046de7744fc745166b1d1c3c77f7c99f652a3dd7cc5349eaff4", func := "loop.example/queryoptimizer/laws.FnExactApplySteps", spec := "fnExactApplySteps", unfollowed := true, recurses := true, loops := true, apart := false }
def FnExactApplyStepsSaid : Prop := fnExactApplyStepsRow.holds Tryz.pinned (OpenSpec.ofChange fnExactApplyStepsSpec)

/-- ITS FALSE NEIGHBOUR: 'it returns false'. Refute it at one input. -/
def fnExactApplyStepsWrong : ChangeSpec := { name := "fnExactApplySteps", fn := fun _ => fun
  | [d1, d2, d3] => { results := [.lit (.bool false)], args := [d1, d2, d3] }
  | _ => none }
def FnExactApplyStepsWrongFalsely : Prop := fnExactApplyStepsRow.holds Tryz.pinned (OpenSpec.ofChange fnExactApplyStepsWrong)

/-- 'laws.FnExactNormalize': WHATEVER THE INPUT: true; the input reads as it did. -/
def fnExactNormalizeSpec : ChangeSpec := { name := "fnExactNormalize", fn := fun _ => fun
  | [d1, d2] => { results := [.lit (.bool true)], args := [d1, d2] }
  | _ => none }
def fnExactNormalizeRow : OpenClaim := { program := "ytjdfjgmebalaaaagreat", sum := "41631fbfd56bf046de7744fc745166b1d1c3c77f7c99f652a3dd7cc5349eaff4", func := "loop.example/queryoptimizer/laws.FnExactNormalize", spec := "fnExactNormalize", unfollowed := true, recurses := true, loops := true, apart := false }
def FnExactNormalizeSaid : Prop := fnExactNormalizeRow.holds Tryz.pinned (OpenSpec.ofChange fnExactNormalizeSpec)

/-- ITS FALSE NEIGHBOUR: 'it returns false'. Refute it at one input. -/
def fnExactNormalizeWrong : ChangeSpec := { name := "fnExactNormalize", fn := fun _ => fun
  | [d1, d2] => { results := [.lit (.bool false)], args := [d1, d2] }
  | _ => none }
def FnExactNormalizeWrongFalsely : Prop := fnExactNormalizeRow.holds Tryz.pinned (OpenSpec.ofChange fnExactNormalizeWrong)

/-- 'laws.FnExactImprove': WHATEVER THE INPUT: true; the input reads as it did. -/
def fnExactImproveSpec : ChangeSpec := { name := "fnExactImprove", fn := fun _ => fun
  | [d1, d2] => { results := [.lit (.bool true)], args := [d1, d2] }
  | _ => none }
def fnExactImproveRow : OpenClaim := { program := "ytjdfjgmebalaaaagreat", sum := "41631fbfd56bf046de7744fc745166b1d1c3c77f7c99f652a3dd7cc5349eaff4", func := "loop.example/queryoptimizer/laws.FnExactImprove", spec := "fnExactImprove", unfollowed := true, recurses := true, loops := true, apart := false }
def FnExactImproveSaid : Prop := fnExactImproveRow.holds Tryz.pinned (OpenSpec.ofChange fnExactImproveSpec)

/-- ITS FALSE NEIGHBOUR: 'it returns false'. Refute it at one input. -/
def fnExactImproveWrong : ChangeSpec := { name := "fnExactImprove", fn := fun _ => fun
  | [d1, d2] => { results := [.lit (.bool false)], args := [d1, d2] }
  | _ => none }
def FnExactImproveWrongFalsely : Prop := fnExactImproveRow.holds Tryz.pinned (OpenSpec.ofChange fnExactImproveWrong)

/- THE SECOND FORM. 'bulk': how many values and letters a reading holds, each counted each time it is reached (what is shared counts as often as it is met; a slice's spare places count too). A statement '..UptoSaid' is the law's where the arguments, and the package variables that the reading takes, are together of bulk at most 1048576: NARROWER than '..Said'. Prove '..Said' where nothing that the law and all that it calls make is longer than what came in: it says more and counts as full. Else prove '..UptoSaid'. A law counts once. -/
mutual
def uptoBulk {H : Type} : DataW H → Nat
  | .lit (.string bytes) => bytes.length + 1
  | .lit _ => 1
  | .nil => 1
  | .ptr d => uptoBulk d + 1
  | .slice elems spare => uptoBulkAll elems + uptoBulkAll spare + 1
  | .agg parts => uptoBulkAll parts + 1
  | .iface _ d => uptoBulk d + 1
  | .map entries => uptoBulkEntries entries + 1
  | .held _ => 1
def uptoBulkAll {H : Type} : List (DataW H) → Nat
  | [] => 0
  | d :: r => uptoBulk d + uptoBulkAll r
def uptoBulkEntries {H : Type} : List (Lit × DataW H) → Nat
  | [] => 0
  | x :: r => uptoBulkEntry x + uptoBulkEntries r
def uptoBulkEntry {H : Type} : Lit × DataW H → Nat
  | (.string bytes, d) => bytes.length + uptoBulk d + 1
  | (_, d) => uptoBulk d + 1
 end
def uptoSmall : (H : Type) → List (DataW H) → Bool := fun _ ds => decide (uptoBulkAll ds ≤ 1048576)
def OpenSpec.upto (s : _root_.Go.ChangeSpec) : _root_.Go.OpenSpec := { _root_.Go.OpenSpec.ofChange s with cond := some uptoSmall }

/-- 'laws.FnExactCheckRewrite', WHERE WHAT IT READS IS OF BULK AT MOST 1048576: true; the input reads as it did. -/
def fnExactCheckRewriteUptoRow : OpenClaim := { program := "ytjdfjgmebalaaaagreat", sum := "41631fbfd56bf046de7744fc745166b1d1c3c77f7c99f652a3dd7cc5349eaff4", func := "loop.example/queryoptimizer/laws.FnExactCheckRewrite", spec := "fnExactCheckRewrite", unfollowed := true, recurses := true, loops := true, apart := false, narrowed := true }
def FnExactCheckRewriteUptoSaid : Prop := fnExactCheckRewriteUptoRow.holds Tryz.pinned (OpenSpec.upto fnExactCheckRewriteSpec)

/-- 'laws.FnImprove', WHERE WHAT IT READS IS OF BULK AT MOST 1048576: true; the input reads as it did. -/
def fnImproveUptoRow : OpenClaim := { program := "ytjdfjgmebalaaaagreat", sum := "41631fbfd56bf046de7744fc745166b1d1c3c77f7c99f652a3dd7cc5349eaff4", func := "loop.example/queryoptimizer/laws.FnImprove", spec := "fnImprove", unfollowed := true, recurses := true, apart := false, narrowed := true }
def FnImproveUptoSaid : Prop := fnImproveUptoRow.holds Tryz.pinned (OpenSpec.upto fnImproveSpec)

/-- 'laws.FnExactStepsFor', WHERE WHAT IT READS IS OF BULK AT MOST 1048576: true; the input reads as it did. -/
def fnExactStepsForUptoRow : OpenClaim := { program := "ytjdfjgmebalaaaagreat", sum := "41631fbfd56bf046de7744fc745166b1d1c3c77f7c99f652a3dd7cc5349eaff4", func := "loop.example/queryoptimizer/laws.FnExactStepsFor", spec := "fnExactStepsFor", unfollowed := true, recurses := true, loops := true, apart := false, narrowed := true }
def FnExactStepsForUptoSaid : Prop := fnExactStepsForUptoRow.holds Tryz.pinned (OpenSpec.upto fnExactStepsForSpec)

/-- 'laws.FnExactApplyStep', WHERE WHAT IT READS IS OF BULK AT MOST 1048576: true; the input reads as it did. -/
def fnExactApplyStepUptoRow : OpenClaim := { program := "ytjdfjgmebalaaaagreat", sum := "41631fbfd56bf046de7744fc745166b1d1c3c77f7c99f652a3dd7cc5349eaff4", func := "loop.example/queryoptimizer/laws.FnExactApplyStep", spec := "fnExactApplyStep", unfollowed := true, recurses := true, loops := true, apart := false, narrowed := true }
def FnExactApplyStepUptoSaid : Prop := fnExactApplyStepUptoRow.holds Tryz.pinned (OpenSpec.upto fnExactApplyStepSpec)

/-- 'laws.FnExactApplySteps', WHERE WHAT IT READS IS OF BULK AT MOST 1048576: true; the input reads as it did. -/
def fnExactApplyStepsUptoRow : OpenClaim := { program := "ytjdfjgmebalaaaagreat", sum := "41631fbfd56bf046de7744fc745166b1d1c3c77f7c99f652a3dd7cc5349eaff4", func := "loop.example/queryoptimizer/laws.FnExactApplySteps", spec := "fnExactApplySteps", unfollowed := true, recurses := true, loops := true, apart := false, narrowed := true }
def FnExactApplyStepsUptoSaid : Prop := fnExactApplyStepsUptoRow.holds Tryz.pinned (OpenSpec.upto fnExactApplyStepsSpec)

/-- 'laws.FnExactNormalize', WHERE WHAT IT READS IS OF BULK AT MOST 1048576: true; the input reads as it did. -/
def fnExactNormalizeUptoRow : OpenClaim := { program := "ytjdfjgmebalaaaagreat", sum := "41631fbfd56bf046de7744fc745166b1d1c3c77f7c99f652a3dd7cc5349eaff4", func := "loop.example/queryoptimizer/laws.FnExactNormalize", spec := "fnExactNormalize", unfollowed := true, recurses := true, loops := true, apart := false, narrowed := true }
def FnExactNormalizeUptoSaid : Prop := fnExactNormalizeUptoRow.holds Tryz.pinned (OpenSpec.upto fnExactNormalizeSpec)

/-- 'laws.FnExactImprove', WHERE WHAT IT READS IS OF BULK AT MOST 1048576: true; the input reads as it did. -/
def fnExactImproveUptoRow : OpenClaim := { program := "ytjdfjgmebalaaaagreat", sum := "41631fbfd56bf046de7744fc745166b1d1c3c77f7c99f652a3dd7cc5349eaff4", func := "loop.example/queryoptimizer/laws.FnExactImprove", spec := "fnExactImprove", unfollowed := true, recurses := true, loops := true, apart := false, narrowed := true }
def FnExactImproveUptoSaid : Prop := fnExactImproveUptoRow.holds Tryz.pinned (OpenSpec.upto fnExactImproveSpec)

end Rows
end Go.Proofs.YtjdfjgmebalaaaaGreat
