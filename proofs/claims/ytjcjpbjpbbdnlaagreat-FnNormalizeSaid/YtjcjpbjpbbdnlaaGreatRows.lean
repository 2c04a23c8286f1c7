/-
  NARROWER THAN 'FOR EVERY INPUT', by the rows' own cells (each row's printed sentence says how): FnExactApplyStep: loops · FnExactCheckRewrite: loops · FnExactApplySteps: loops · FnExactNormalize: loops.
  DERIVED. THE GIVEN ROWS OF THIS SEAT. 10 by the template 'for every input the law returns true; each argument reads behind the call as it read before'; 0 by the template 'total and deterministic' (their statements: YtjcjpbjpbbdnlaaGreatTotals.lean).
  GIVEN WITH THE SEED: the statements are not yours to turn. If you find one false, say at which input.
  Laid BY PROGRAM, IN A SANDBOX (cutbox-rows.mjs): the forced cells as the released guide's own fill.sh prints them over the translation 5c607389c1e910a1… (all of the seat's roots in one cut). By AI agents, Wed Nov 11 2026. No macro, syntax, notation, axiom, sorry.
-/
import Derived.Test.YtjcjpbjpbbdnlaaGreatChecked
import GoSem.Claim
import GoSem.ClaimJoined
import GoSem.ClaimMapViews
import Derived.JoinedTies
import Derived.KernelRfl
namespace Go.Proofs.YtjcjpbjpbbdnlaaGreat
/- THE CELL 'sum', in the pinned program and in every row, IS THE sha256 OF THE DUMP (.gsa) THAT YtjcjpbjpbbdnlaaGreatProg.lean LOADS. Nothing in Lean hashes anything: it is a label: what it is worth is what the hold of that sum in a sandbox is worth. -/
noncomputable def Tryz.pinned : Pinned := { name := "ytjcjpbjpbbdnlaagreat", sum := "5c607389c1e910a1066ce6ed81ce60dd471fe24702ebd62cb92c0e0b370b12c8", checked := Tryz.checked }
namespace Rows
def none {H : Type} : Left H := { results := [], args := [] }

/-- 'laws.FnStepWidth': WHATEVER THE INPUT: true; the input reads as it did. -/
def fnStepWidthSpec : ChangeSpec := { name := "fnStepWidth", fn := fun _ => fun
  | [d] => { results := [.lit (.bool true)], args := [d] }
  | _ => none }
def fnStepWidthRow : OpenClaim := { program := "ytjcjpbjpbbdnlaagreat", sum := "5c607389c1e910a1066ce6ed81ce60dd471fe24702ebd62cb92c0e0b370b12c8", func := "loop.example/queryoptimizer/laws.FnStepWidth", spec := "fnStepWidth", unfollowed := true, recurses := true, apart := false }
def FnStepWidthSaid : Prop := fnStepWidthRow.holds Tryz.pinned (OpenSpec.ofChange fnStepWidthSpec)

/-- ITS FALSE NEIGHBOUR: 'it returns false'. Refute it at one input. -/
def fnStepWidthWrong : ChangeSpec := { name := "fnStepWidth", fn := fun _ => fun
  | [d] => { results := [.lit (.bool false)], args := [d] }
  | _ => none }
def FnStepWidthWrongFalsely : Prop := fnStepWidthRow.holds Tryz.pinned (OpenSpec.ofChange fnStepWidthWrong)

/-- 'laws.FnApplySteps': WHATEVER THE INPUT: true; the input reads as it did. -/
def fnApplyStepsSpec : ChangeSpec := { name := "fnApplySteps", fn := fun _ => fun
  | [d1, d2] => { results := [.lit (.bool true)], args := [d1, d2] }
  | _ => none }
def fnApplyStepsRow : OpenClaim := { program := "ytjcjpbjpbbdnlaagreat", sum := "5c607389c1e910a1066ce6ed81ce60dd471fe24702ebd62cb92c0e0b370b12c8", func := "loop.example/queryoptimizer/laws.FnApplySteps", spec := "fnApplySteps", unfollowed := true, recurses := true, apart := false }
def FnApplyStepsSaid : Prop := fnApplyStepsRow.holds Tryz.pinned (OpenSpec.ofChange fnApplyStepsSpec)

/-- ITS FALSE NEIGHBOUR: 'it returns false'. Refute it at one input. -/
def fnApplyStepsWrong : ChangeSpec := { name := "fnApplySteps", fn := fun _ => fun
  | [d1, d2] => { results := [.lit (.bool false)], args := [d1, d2] }
  | _ => none }
def FnApplyStepsWrongFalsely : Prop := fnApplyStepsRow.holds Tryz.pinned (OpenSpec.ofChange fnApplyStepsWrong)

/-- 'laws.FnExactApplyStep': WHATEVER THE INPUT: true; the input reads as it did. -/
def fnExactApplyStepSpec : ChangeSpec := { name := "fnExactApplyStep", fn := fun _ => fun
  | [d1, d2, d3] => { results := [.lit (.bool true)], args := [d1, d2, d3] }
  | _ => none }
def fnExactApplyStepRow : OpenClaim := { program := "ytjcjpbjpbbdnlaagreat", sum := "5c607389c1e910a1066ce6ed81ce60dd471fe24702ebd62cb92c0e0b370b12c8", func := "loop.example/queryoptimizer/laws.FnExactApplyStep", spec := "fnExactApplyStep", unfollowed := true, recurses := true, loops := true, apart := false }
def FnExactApplyStepSaid : Prop := fnExactApplyStepRow.holds Tryz.pinned (OpenSpec.ofChange fnExactApplyStepSpec)

/-- ITS FALSE NEIGHBOUR: 'it returns false'. Refute it at one input. -/
def fnExactApplyStepWrong : ChangeSpec := { name := "fnExactApplyStep", fn := fun _ => fun
  | [d1, d2, d3] => { results := [.lit (.bool false)], args := [d1, d2, d3] }
  | _ => none }
def FnExactApplyStepWrongFalsely : Prop := fnExactApplyStepRow.holds Tryz.pinned (OpenSpec.ofChange fnExactApplyStepWrong)

/-- 'laws.FnIsNormal': WHATEVER THE INPUT: true; the input reads as it did. -/
def fnIsNormalSpec : ChangeSpec := { name := "fnIsNormal", fn := fun _ => fun
  | [d] => { results := [.lit (.bool true)], args := [d] }
  | _ => none }
def fnIsNormalRow : OpenClaim := { program := "ytjcjpbjpbbdnlaagreat", sum := "5c607389c1e910a1066ce6ed81ce60dd471fe24702ebd62cb92c0e0b370b12c8", func := "loop.example/queryoptimizer/laws.FnIsNormal", spec := "fnIsNormal", unfollowed := true, recurses := true, apart := false }
def FnIsNormalSaid : Prop := fnIsNormalRow.holds Tryz.pinned (OpenSpec.ofChange fnIsNormalSpec)

/-- ITS FALSE NEIGHBOUR: 'it returns false'. Refute it at one input. -/
def fnIsNormalWrong : ChangeSpec := { name := "fnIsNormal", fn := fun _ => fun
  | [d] => { results := [.lit (.bool false)], args := [d] }
  | _ => none }
def FnIsNormalWrongFalsely : Prop := fnIsNormalRow.holds Tryz.pinned (OpenSpec.ofChange fnIsNormalWrong)

/-- 'laws.FnNormalizeWidth': WHATEVER THE INPUT: true; the input reads as it did. -/
def fnNormalizeWidthSpec : ChangeSpec := { name := "fnNormalizeWidth", fn := fun _ => fun
  | [d] => { results := [.lit (.bool true)], args := [d] }
  | _ => none }
def fnNormalizeWidthRow : OpenClaim := { program := "ytjcjpbjpbbdnlaagreat", sum := "5c607389c1e910a1066ce6ed81ce60dd471fe24702ebd62cb92c0e0b370b12c8", func := "loop.example/queryoptimizer/laws.FnNormalizeWidth", spec := "fnNormalizeWidth", unfollowed := true, recurses := true, apart := false }
def FnNormalizeWidthSaid : Prop := fnNormalizeWidthRow.holds Tryz.pinned (OpenSpec.ofChange fnNormalizeWidthSpec)

/-- ITS FALSE NEIGHBOUR: 'it returns false'. Refute it at one input. -/
def fnNormalizeWidthWrong : ChangeSpec := { name := "fnNormalizeWidth", fn := fun _ => fun
  | [d] => { results := [.lit (.bool false)], args := [d] }
  | _ => none }
def FnNormalizeWidthWrongFalsely : Prop := fnNormalizeWidthRow.holds Tryz.pinned (OpenSpec.ofChange fnNormalizeWidthWrong)

/-- 'laws.FnExactCheckRewrite': WHATEVER THE INPUT: true; the input reads as it did. -/
def fnExactCheckRewriteSpec : ChangeSpec := { name := "fnExactCheckRewrite", fn := fun _ => fun
  | [d1, d2, d3, d4] => { results := [.lit (.bool true)], args := [d1, d2, d3, d4] }
  | _ => none }
def fnExactCheckRewriteRow : OpenClaim := { program := "ytjcjpbjpbbdnlaagreat", sum := "5c607389c1e910a1066ce6ed81ce60dd471fe24702ebd62cb92c0e0b370b12c8", func := "loop.example/queryoptimizer/laws.FnExactCheckRewrite", spec := "fnExactCheckRewrite", unfollowed := true, recurses := true, loops := true, apart := false }
def FnExactCheckRewriteSaid : Prop := fnExactCheckRewriteRow.holds Tryz.pinned (OpenSpec.ofChange fnExactCheckRewriteSpec)

/-- ITS FALSE NEIGHBOUR: 'it returns false'. Refute it at one input. -/
def fnExactCheckRewriteWrong : ChangeSpec := { name := "fnExactCheckRewrite", fn := fun _ => fun
  | [d1, d2, d3, d4] => { results := [.lit (.bool false)], args := [d1, d2, d3, d4] }
  | _ => none }
def FnExactCheckRewriteWrongFalsely : Prop := fnExactCheckRewriteRow.holds Tryz.pinned (OpenSpec.ofChange fnExactCheckRewriteWrong)

/-- 'laws.FnExactApplySteps': WHATEVER THE INPUT: true; the input reads as it did. -/
def fnExactApplyStepsSpec : ChangeSpec := { name := "fnExactApplySteps", fn := fun _ => fun
  | [d1, d2, d3] => { results := [.lit (.bool true)], args := [d1, d2, d3] }
  | _ => none }
def fnExactApplyStepsRow : OpenClaim := { program := "ytjcjpbjpbbdnlaagreat", sum := "5c607389c1e910a1066ce6ed81ce60dd471fe24702ebd62cb92c0e0b370b12c8", func := "loop.example/queryoptimizer/laws.FnExactApplySteps", spec := "fnExactApplySteps", unfollowed := true, recurses := true, loops := true, apart := false }
def FnExactApplyStepsSaid : Prop := fnExactApplyStepsRow.holds Tryz.pinned (OpenSpec.ofChange fnExactApplyStepsSpec)

/-- ITS FALSE NEIGHBOUR: 'it returns false'. Refute it at one input. -/
def fnExactApplyStepsWrong : ChangeSpec := { name := "fnExactApplySteps", fn := fun _ => fun
  | [d1, d2, d3] => { results := [.lit (.bool false)], args := [d1, d2, d3] }
  | _ => none }
def FnExactApplyStepsWrongFalsely : Prop := fnExactApplyStepsRow.holds Tryz.pinned (OpenSpec.ofChange fnExactApplyStepsWrong)

/-- 'laws.FnNormalize': WHATEVER THE INPUT: true; the input reads as it did. -/
def fnNormalizeSpec : ChangeSpec := { name := "fnNormalize", fn := fun _ => fun
  | [d] => { results := [.lit (.bool true)], args := [d] }
  | _ => none }
def fnNormalizeRow : OpenClaim := { program := "ytjcjpbjpbbdnlaagreat", sum := "5c607389c1e910a1066ce6ed81ce60dd471fe24702ebd62cb92c0e0b370b12c8", func := "loop.example/queryoptimizer/laws.FnNormalize", spec := "fnNormalize", unfollowed := true, recurses := true, apart := false }
def FnNormalizeSaid : Prop := fnNormalizeRow.holds Tryz.pinned (OpenSpec.ofChange fnNormalizeSpec)

/-- ITS FALSE NEIGHBOUR: 'it returns false'. Refute it at one input. -/
def fnNormalizeWrong : ChangeSpec := { name := "fnNormalize", fn := fun _ => fun
  | [d] => { results := [.lit (.bool false)], args := [d] }
  | _ => none }
def FnNormalizeWrongFalsely : Prop := fnNormalizeRow.holds Tryz.pinned (OpenSpec.ofChange fnNormalizeWrong)

/-- 'laws.FnCheckRewrite': WHATEVER THE INPUT: true; the input reads as it did. -/
def fnCheckRewriteSpec : ChangeSpec := { name := "fnCheckRewrite", fn := fun _ => fun
  | [d] => { results := [.lit (.bool true)], args := [d] }
  | _ => none }
def fnCheckRewriteRow : OpenClaim := { program := "ytjcjpbjpbbdnlaagreat", sum := "5c607389c1e910a1066ce6ed81ce60dd471fe24702ebd62cb92c0e0b370b12c8", func := "loop.example/queryoptimizer/laws.FnCheckRewrite", spec := "fnCheckRewrite", unfollowed := true, recurses := true, apart := false }
def FnCheckRewriteSaid : Prop := fnCheckRewriteRow.holds Tryz.pinned (OpenSpec.ofChange fnCheckRewriteSpec)

/-- ITS FALSE NEIGHBOUR: 'it returns false'. Refute it at one input. -/
def fnCheckRewriteWrong : ChangeSpec := { name := "fnCheckRewrite", fn := fun _ => fun
  | [d] => { results := [.lit (.bool false)], args := [d] }
  | _ => none }
def FnCheckRewriteWrongFalsely : Prop := fnCheckRewriteRow.holds Tryz.pinned (OpenSpec.ofChange fnCheckRewriteWrong)

/-- 'laws.FnExactNormalize': WHATEVER THE INPUT: true; the input reads as it did. -/
def fnExactNormalizeSpec : ChangeSpec := { name := "fnExactNormalize", fn := fun _ => fun
  | [d1, d2] => { results := [.lit (.bool true)], args := [d1, d2] }
  | _ => none }
def fnExactNormalizeRow : OpenClaim := { program := "ytjcjpbjpbbdnlaagreat", sum := "5c607389c1e910a1066ce6ed81ce60dd471fe24702ebd62cb92c0e0b370b12c8", func := "loop.example/queryoptimizer/laws.FnExactNormalize", spec := "fnExactNormalize", unfollowed := true, recurses := true, loops := true, apart := false }
def FnExactNormalizeSaid : Prop := fnExactNormalizeRow.holds Tryz.pinned (OpenSpec.ofChange fnExactNormalizeSpec)

/-- ITS FALSE NEIGHBOUR: 'it returns false'. Refute it at one input. -/
def fnExactNormalizeWrong : ChangeSpec := { name := "fnExactNormalize", fn := fun _ => fun
  | [d1, d2] => { results := [.lit (.bool false)], args := [d1, d2] }
  | _ => none }
def FnExactNormalizeWrongFalsely : Prop := fnExactNormalizeRow.holds Tryz.pinned (OpenSpec.ofChange fnExactNormalizeWrong)

/- THE SECOND FORM. 'bulk': how many values and letters a reading holds, each counted each time it is reached (what is shared counts as often as it is met; a slice's spare places count too). A statement '..UptoSaid' is the law's where the arguments, and the package variables that the reading takes, are together of bulk at most 1048576: NARROWER than '..Said'. Prove '..Said' where nothing that the law and all that it calls make is longer than what came in: it says more and counts as full. Else prove '..UptoSaid'. A law counts once. -/
mutual
def uptoBulk {H : Type} : DataW H → Nat
  | .lit (.string bytes) => bytes.length + 1
  | .lit _ => 1
  | .nil => 1
  | .ptr d => uptoBulk d + 1
  | .slice elems spare => uptoBulkAll elems + uptoBulkAll spare + 1
  | .agg parts => uptoBulkAll parts + 1
  | .iface _ d => uptoBulk d + 1
  | .map entries => uptoBulkEntries entries + 1
  | .held _ => 1
def uptoBulkAll {H : Type} : List (DataW H) → Nat
  | [] => 0
  | d :: r => uptoBulk d + uptoBulkAll r
def uptoBulkEntries {H : Type} : List (Lit × DataW H) → Nat
  | [] => 0
  | x :: r => uptoBulkEntry x + uptoBulkEntries r
def uptoBulkEntry {H : Type} : Lit × DataW H → Nat
  | (.string bytes, d) => bytes.length + uptoBulk d + 1
  | (_, d) => uptoBulk d + 1
 end
def uptoSmall : (H : Type) → List (DataW H) → Bool := fun _ ds => decide (uptoBulkAll ds ≤ 1048576)
def OpenSpec.upto (s : _root_.Go.ChangeSpec) : _root_.Go.OpenSpec := { _root_.Go.OpenSpec.ofChange s with cond := some uptoSmall }

/-- 'laws.FnStepWidth', WHERE WHAT IT READS IS OF BULK AT MOST 1048576: true; the input reads as it did. -/
def fnStepWidthUptoRow : OpenClaim := { program := "ytjcjpbjpbbdnlaagreat", sum := "5c607389c1e910a1066ce6ed81ce60dd471fe24702ebd62cb92c0e0b370b12c8", func := "loop.example/queryoptimizer/laws.FnStepWidth", spec := "fnStepWidth", unfollowed := true, recurses := true, apart := false, narrowed := true }
def FnStepWidthUptoSaid : Prop := fnStepWidthUptoRow.holds Tryz.pinned (OpenSpec.upto fnStepWidthSpec)

/-- 'laws.FnApplySteps', WHERE WHAT IT READS IS OF BULK AT MOST 1048576: true; the input reads as it did. -/
def fnApplyStepsUptoRow : OpenClaim := { program := "ytjcjpbjpbbdnlaagreat", sum := "5c607389c1e910a1066ce6ed81ce60dd471fe24702ebd62cb92c0e0b370b12c8", func := "loop.example/queryoptimizer/laws.FnApplySteps", spec := "fnApplySteps", unfollowed := true, recurses := true, apart := false, narrowed := true }
def FnApplyStepsUptoSaid : Prop := fnApplyStepsUptoRow.holds Tryz.pinned (OpenSpec.upto fnApplyStepsSpec)

/-- 'laws.FnExactApplyStep', WHERE WHAT IT READS IS OF BULK AT MOST 1048576: true; the input reads as it did. -/
def fnExactApplyStepUptoRow : OpenClaim := { program := "ytjcjpbjpbbdnlaagreat", sum := "5c607389c1e910a1066ce6ed81ce60dd471fe24702ebd62cb92c0e0b370b12c8", func := "loop.example/queryoptimizer/laws.FnExactApplyStep", spec := "fnExactApplyStep", unfollowed := true, recurses := true, loops := true, apart := false, narrowed := true }
def FnExactApplyStepUptoSaid : Prop := fnExactApplyStepUptoRow.holds Tryz.pinned (OpenSpec.upto fnExactApplyStepSpec)

/-- 'laws.FnIsNormal', WHERE WHAT IT READS IS OF BULK AT MOST 1048576: true; the input reads as it did. -/
def fnIsNormalUptoRow : OpenClaim := { program := "ytjcjpbjpbbdnlaagreat", sum := "5c607389c1e910a1066ce6ed81ce60dd471fe24702ebd62cb92c0e0b370b12c8", func := "loop.example/queryoptimizer/laws.FnIsNormal", spec := "fnIsNormal", unfollowed := true, recurses := true, apart := false, narrowed := true }
def FnIsNormalUptoSaid : Prop := fnIsNormalUptoRow.holds Tryz.pinned (OpenSpec.upto fnIsNormalSpec)

/-- 'laws.FnNormalizeWidth', WHERE WHAT IT READS IS OF BULK AT MOST 1048576: true; the input reads as it did. -/
def fnNormalizeWidthUptoRow : OpenClaim := { program := "ytjcjpbjpbbdnlaagreat", sum := "5c607389c1e910a1066ce6ed81ce60dd471fe24702ebd62cb92c0e0b370b12c8", func := "loop.example/queryoptimizer/laws.FnNormalizeWidth", spec := "fnNormalizeWidth", unfollowed := true, recurses := true, apart := false, narrowed := true }
def FnNormalizeWidthUptoSaid : Prop := fnNormalizeWidthUptoRow.holds Tryz.pinned (OpenSpec.upto fnNormalizeWidthSpec)

/-- 'laws.FnExactCheckRewrite', WHERE WHAT IT READS IS OF BULK AT MOST 1048576: true; the input reads as it did. -/
def fnExactCheckRewriteUptoRow : OpenClaim := { program := "ytjcjpbjpbbdnlaagreat", sum := "5c607389c1e910a1066ce6ed81ce60dd471fe24702ebd62cb92c0e0b370b12c8", func := "loop.example/queryoptimizer/laws.FnExactCheckRewrite", spec := "fnExactCheckRewrite", unfollowed := true, recurses := true, loops := true, apart := false, narrowed := true }
def FnExactCheckRewriteUptoSaid : Prop := fnExactCheckRewriteUptoRow.holds Tryz.pinned (OpenSpec.upto fnExactCheckRewriteSpec)

/-- 'laws.FnExactApplySteps', WHERE WHAT IT READS IS OF BULK AT MOST 1048576: true; the input reads as it did. -/
def fnExactApplyStepsUptoRow : OpenClaim := { program := "ytjcjpbjpbbdnlaagreat", sum := "5c607389c1e910a1066ce6ed81ce60dd471fe24702ebd62cb92c0e0b370b12c8", func := "loop.example/queryoptimizer/laws.FnExactApplySteps", spec := "fnExactApplySteps", unfollowed := true, recurses := true, loops := true, apart := false, narrowed := true }
def FnExactApplyStepsUptoSaid : Prop := fnExactApplyStepsUptoRow.holds Tryz.pinned (OpenSpec.upto fnExactApplyStepsSpec)

/-- 'laws.FnNormalize', WHERE WHAT IT READS IS OF BULK AT MOST 1048576: true; the input reads as it did. -/
def fnNormalizeUptoRow : OpenClaim := { program := "ytjcjpbjpbbdnlaagreat", sum := "5c607389c1e910a1066ce6ed81ce60dd471fe24702ebd62cb92c0e0b370b12c8", func := "loop.example/queryoptimizer/laws.FnNormalize", spec := "fnNormalize", unfollowed := true, recurses := true, apart := false, narrowed := true }
def FnNormalizeUptoSaid : Prop := fnNormalizeUptoRow.holds Tryz.pinned (OpenSpec.upto fnNormalizeSpec)

/-- 'laws.FnCheckRewrite', WHERE WHAT IT READS IS OF BULK AT MOST 1048576: true; the input reads as it did. -/
def fnCheckRewriteUptoRow : OpenClaim := { program := "ytjcjpbjpbbdnlaagreat", sum := "5c607389c1e910a1066ce6ed81ce60dd471fe24702ebd62cb92c0e0b370b12c8", func := "loop.example/queryoptimizer/laws.FnCheckRewrite", spec := "fnCheckRewrite", unfollowed := true, recurses := true, apart := false, narrowed := true }
def FnCheckRewriteUptoSaid : Prop := fnCheckRewriteUptoRow.holds Tryz.pinned (OpenSpec.upto fnCheckRewriteSpec)

/-- 'laws.FnExactNormalize', WHERE WHAT IT READS IS OF BULK AT MOST 1048576: true; the input reads as it did. -/
def fnExactNormalizeUptoRow : OpenClaim := { program := "ytjcjpbjpbbdnlaagreat", sum := "5c607389c1e910a1066ce6ed81ce60dd471fe24702ebd62cb92c0e0b370b12c8", func := "loop.example/queryoptimizer/laws.FnExactNormalize", spec := "fnExactNormalize", unfollowed := true, recurses := true, loops := true, apart := false, narrowed := true }
def FnExactNormalizeUptoSaid : Prop := fnExactNormalizeUptoRow.holds Tryz.pinned (OpenSpec.upto fnExactNormalizeSpec)

end Rows
end Go.Proofs.YtjcjpbjpbbdnlaaGreat
