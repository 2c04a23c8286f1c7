/-
  NARROWER THAN 'FOR EVERY INPUT', by the rows' own cells (each row's printed sentence says how): FnExactIsNormal: loops · FnExactStepsFor: loops.
  DERIVED. THE GIVEN ROWS OF THIS SEAT. 6 by the template 'for every input the law returns true; each argument reads behind the call as it read before'; 0 by the template 'total and deterministic' (their statements: YteihcffblfdgfaaGreatTotals.lean).
  GIVEN WITH THE SEED: the statements are not yours to turn. If you find one false, say at which input.
  Laid BY PROGRAM, IN A SANDBOX (cutbox-rows.mjs): the forced cells as the released guide's own fill.sh prints them over the translation a6b76e15f2049bc9… (all of the seat's roots in one cut). By AI agents, Wed Nov 11 2026. No macro, syntax, notation, axiom, sorry.
-/
import Derived.Test.YteihcffblfdgfaaGreatChecked
import GoSem.Claim
import GoSem.ClaimJoined
import GoSem.ClaimMapViews
import Derived.JoinedTies
import Derived.KernelRfl
namespace Go.Proofs.YteihcffblfdgfaaGreat
/- THE CELL 'sum', in the pinned program and in every row, IS THE sha256 OF THE DUMP (.gsa) THAT YteihcffblfdgfaaGreatProg.lean LOADS. Nothing in Lean hashes anything: it is a label: what it is worth is what the hold of that sum in a sandbox is worth. -/
noncomputable def Tryz.pinned : Pinned := { name := "yteihcffblfdgfaagreat", sum := "a6b76e15f2049bc9f68ac325fb5eabc8607257b8cd21560d2d6962712ae0175b", checked := Tryz.checked }
namespace Rows
def none {H : Type} : Left H := { results := [], args := [] }

/-- 'laws.FnExactIsNormal': WHATEVER THE INPUT: true; the input reads as it did. -/
def fnExactIsNormalSpec : ChangeSpec := { name := "fnExactIsNormal", fn := fun _ => fun
  | [d1, d2] => { results := [.lit (.bool true)], args := [d1, d2] }
  | _ => none }
def fnExactIsNormalRow : OpenClaim := { program := "yteihcffblfdgfaagreat", sum := "a6b76e15f2049bc9f68ac325fb5eabc8607257b8cd21560d2d6962712ae0175b", func := "loop.example/queryoptimizer/laws.FnExactIsNormal", spec := "fnExactIsNormal", unfollowed := true, recurses := true, loops := true, apart := false }
def FnExactIsNormalSaid : Prop := fnExactIsNormalRow.holds Tryz.pinned (OpenSpec.ofChange fnExactIsNormalSpec)

/-- ITS FALSE NEIGHBOUR: 'it returns false'. Refute it at one input. -/
def fnExactIsNormalWrong : ChangeSpec := { name := "fnExactIsNormal", fn := fun _ => fun
  | [d1, d2] => { results := [.lit (.bool false)], args := [d1, d2] }
  | _ => none }
def FnExactIsNormalWrongFalsely : Prop := fnExactIsNormalRow.holds Tryz.pinned (OpenSpec.ofChange fnExactIsNormalWrong)

/-- 'laws.FnStepsOrder': WHATEVER THE INPUT: true; the input reads as it did. -/
def fnStepsOrderSpec : ChangeSpec := { name := "fnStepsOrder", fn := fun _ => fun
  | [d] => { results := [.lit (.bool true)], args := [d] }
  | _ => none }
def fnStepsOrderRow : OpenClaim := { program := "yteihcffblfdgfaagreat", sum := "a6b76e15f2049bc9f68ac325fb5eabc8607257b8cd21560d2d6962712ae0175b", func := "loop.example/queryoptimizer/laws.FnStepsOrder", spec := "fnStepsOrder", unfollowed := true, recurses := true, apart := false }
def FnStepsOrderSaid : Prop := fnStepsOrderRow.holds Tryz.pinned (OpenSpec.ofChange fnStepsOrderSpec)

/-- ITS FALSE NEIGHBOUR: 'it returns false'. Refute it at one input. -/
def fnStepsOrderWrong : ChangeSpec := { name := "fnStepsOrder", fn := fun _ => fun
  | [d] => { results := [.lit (.bool false)], args := [d] }
  | _ => none }
def FnStepsOrderWrongFalsely : Prop := fnStepsOrderRow.holds Tryz.pinned (OpenSpec.ofChange fnStepsOrderWrong)

/-- 'laws.FnMergeSplit': WHATEVER THE INPUT: true; the input reads as it did. -/
def fnMergeSplitSpec : ChangeSpec := { name := "fnMergeSplit", fn := fun _ => fun
  | [d] => { results := [.lit (.bool true)], args := [d] }
  | _ => none }
def fnMergeSplitRow : OpenClaim := { program := "yteihcffblfdgfaagreat", sum := "a6b76e15f2049bc9f68ac325fb5eabc8607257b8cd21560d2d6962712ae0175b", func := "loop.example/queryoptimizer/laws.FnMergeSplit", spec := "fnMergeSplit", unfollowed := true, recurses := true, apart := false }
def FnMergeSplitSaid : Prop := fnMergeSplitRow.holds Tryz.pinned (OpenSpec.ofChange fnMergeSplitSpec)

/-- ITS FALSE NEIGHBOUR: 'it returns false'. Refute it at one input. -/
def fnMergeSplitWrong : ChangeSpec := { name := "fnMergeSplit", fn := fun _ => fun
  | [d] => { results := [.lit (.bool false)], args := [d] }
  | _ => none }
def FnMergeSplitWrongFalsely : Prop := fnMergeSplitRow.holds Tryz.pinned (OpenSpec.ofChange fnMergeSplitWrong)

/-- 'laws.FnCommuteTwice': WHATEVER THE INPUT: true; the input reads as it did. -/
def fnCommuteTwiceSpec : ChangeSpec := { name := "fnCommuteTwice", fn := fun _ => fun
  | [d] => { results := [.lit (.bool true)], args := [d] }
  | _ => none }
def fnCommuteTwiceRow : OpenClaim := { program := "yteihcffblfdgfaagreat", sum := "a6b76e15f2049bc9f68ac325fb5eabc8607257b8cd21560d2d6962712ae0175b", func := "loop.example/queryoptimizer/laws.FnCommuteTwice", spec := "fnCommuteTwice", unfollowed := true, recurses := true, apart := false }
def FnCommuteTwiceSaid : Prop := fnCommuteTwiceRow.holds Tryz.pinned (OpenSpec.ofChange fnCommuteTwiceSpec)

/-- ITS FALSE NEIGHBOUR: 'it returns false'. Refute it at one input. -/
def fnCommuteTwiceWrong : ChangeSpec := { name := "fnCommuteTwice", fn := fun _ => fun
  | [d] => { results := [.lit (.bool false)], args := [d] }
  | _ => none }
def FnCommuteTwiceWrongFalsely : Prop := fnCommuteTwiceRow.holds Tryz.pinned (OpenSpec.ofChange fnCommuteTwiceWrong)

/-- 'laws.FnStepsFor': WHATEVER THE INPUT: true; the input reads as it did. -/
def fnStepsForSpec : ChangeSpec := { name := "fnStepsFor", fn := fun _ => fun
  | [d] => { results := [.lit (.bool true)], args := [d] }
  | _ => none }
def fnStepsForRow : OpenClaim := { program := "yteihcffblfdgfaagreat", sum := "a6b76e15f2049bc9f68ac325fb5eabc8607257b8cd21560d2d6962712ae0175b", func := "loop.example/queryoptimizer/laws.FnStepsFor", spec := "fnStepsFor", unfollowed := true, recurses := true, apart := false }
def FnStepsForSaid : Prop := fnStepsForRow.holds Tryz.pinned (OpenSpec.ofChange fnStepsForSpec)

/-- ITS FALSE NEIGHBOUR: 'it returns false'. Refute it at one input. -/
def fnStepsForWrong : ChangeSpec := { name := "fnStepsFor", fn := fun _ => fun
  | [d] => { results := [.lit (.bool false)], args := [d] }
  | _ => none }
def FnStepsForWrongFalsely : Prop := fnStepsForRow.holds Tryz.pinned (OpenSpec.ofChange fnStepsForWrong)

/-- 'laws.FnExactStepsFor': WHATEVER THE INPUT: true; the input reads as it did. -/
def fnExactStepsForSpec : ChangeSpec := { name := "fnExactStepsFor", fn := fun _ => fun
  | [d1, d2] => { results := [.lit (.bool true)], args := [d1, d2] }
  | _ => none }
def fnExactStepsForRow : OpenClaim := { program := "yteihcffblfdgfaagreat", sum := "a6b76e15f2049bc9f68ac325fb5eabc8607257b8cd21560d2d6962712ae0175b", func := "loop.example/queryoptimizer/laws.FnExactStepsFor", spec := "fnExactStepsFor", unfollowed := true, recurses := true, loops := true, apart := false }
def FnExactStepsForSaid : Prop := fnExactStepsForRow.holds Tryz.pinned (OpenSpec.ofChange fnExactStepsForSpec)

/-- ITS FALSE NEIGHBOUR: 'it returns false'. Refute it at one input. -/
def fnExactStepsForWrong : ChangeSpec := { name := "fnExactStepsFor", fn := fun _ => fun
  | [d1, d2] => { results := [.lit (.bool false)], args := [d1, d2] }
  | _ => none }
def FnExactStepsForWrongFalsely : Prop := fnExactStepsForRow.holds Tryz.pinned (OpenSpec.ofChange fnExactStepsForWrong)

/- THE SECOND FORM. 'bulk': how many values and letters a reading holds, each counted each time it is reached (what is shared counts as often as it is met; a slice's spare places count too). A statement '..UptoSaid' is the law's where the arguments, and the package variables that the reading takes, are together of bulk at most 1048576: NARROWER than '..Said'. Prove '..Said' where nothing that the law and all that it calls make is longer than what came in: it says more and counts as full. Else prove '..UptoSaid'. A law counts once. -/
mutual
def uptoBulk {H : Type} : DataW H → Nat
  | .lit (.string bytes) => bytes.length + 1
  | .lit _ => 1
  | .nil => 1
  | .ptr d => uptoBulk d + 1
  | .slice elems spare => uptoBulkAll elems + uptoBulkAll spare + 1
  | .agg parts => uptoBulkAll parts + 1
  | .iface _ d => uptoBulk d + 1
  | .map entries => uptoBulkEntries entries + 1
  | .held _ => 1
def uptoBulkAll {H : Type} : List (DataW H) → Nat
  | [] => 0
  | d :: r => uptoBulk d + uptoBulkAll r
def uptoBulkEntries {H : Type} : List (Lit × DataW H) → Nat
  | [] => 0
  | x :: r => uptoBulkEntry x + uptoBulkEntries r
def uptoBulkEntry {H : Type} : Lit × DataW H → Nat
  | (.string bytes, d) => bytes.length + uptoBulk d + 1
  | (_, d) => uptoBulk d + 1
 end
def uptoSmall : (H : Type) → List (DataW H) → Bool := fun _ ds => decide (uptoBulkAll ds ≤ 1048576)
def OpenSpec.upto (s : _root_.Go.ChangeSpec) : _root_.Go.OpenSpec := { _root_.Go.OpenSpec.ofChange s with cond := some uptoSmall }

/-- 'laws.FnExactIsNormal', WHERE WHAT IT READS IS OF BULK AT MOST 1048576: true; the input reads as it did. -/
def fnExactIsNormalUptoRow : OpenClaim := { program := "yteihcffblfdgfaagreat", sum := "a6b76e15f2049bc9f68ac325fb5eabc8607257b8cd21560d2d6962712ae0175b", func := "loop.example/queryoptimizer/laws.FnExactIsNormal", spec := "fnExactIsNormal", unfollowed := true, recurses := true, loops := true, apart := false, narrowed := true }
def FnExactIsNormalUptoSaid : Prop := fnExactIsNormalUptoRow.holds Tryz.pinned (OpenSpec.upto fnExactIsNormalSpec)

/-- 'laws.FnStepsOrder', WHERE WHAT IT READS IS OF BULK AT MOST 1048576: true; the input reads as it did. -/
def fnStepsOrderUptoRow : OpenClaim := { program := "yteihcffblfdgfaagreat", sum := "a6b76e15f2049bc9f68ac325fb5eabc8607257b8cd21560d2d6962712ae0175b", func := "loop.example/queryoptimizer/laws.FnStepsOrder", spec := "fnStepsOrder", unfollowed := true, recurses := true, apart := false, narrowed := true }
def FnStepsOrderUptoSaid : Prop := fnStepsOrderUptoRow.holds Tryz.pinned (OpenSpec.upto fnStepsOrderSpec)

/-- 'laws.FnMergeSplit', WHERE WHAT IT READS IS OF BULK AT MOST 1048576: true; the input reads as it did. -/
def fnMergeSplitUptoRow : OpenClaim := { program := "yteihcffblfdgfaagreat", sum := "a6b76e15f2049bc9f68ac325fb5eabc8607257b8cd21560d2d6962712ae0175b", func := "loop.example/queryoptimizer/laws.FnMergeSplit", spec := "fnMergeSplit", unfollowed := true, recurses := true, apart := false, narrowed := true }
def FnMergeSplitUptoSaid : Prop := fnMergeSplitUptoRow.holds Tryz.pinned (OpenSpec.upto fnMergeSplitSpec)

/-- 'laws.FnCommuteTwice', WHERE WHAT IT READS IS OF BULK AT MOST 1048576: true; the input reads as it did. -/
def fnCommuteTwiceUptoRow : OpenClaim := { program := "yteihcffblfdgfaagreat", sum := "a6b76e15f2049bc9f68ac325fb5eabc8607257b8cd21560d2d6962712ae0175b", func := "loop.example/queryoptimizer/laws.FnCommuteTwice", spec := "fnCommuteTwice", unfollowed := true, recurses := true, apart := false, narrowed := true }
def FnCommuteTwiceUptoSaid : Prop := fnCommuteTwiceUptoRow.holds Tryz.pinned (OpenSpec.upto fnCommuteTwiceSpec)

/-- 'laws.FnStepsFor', WHERE WHAT IT READS IS OF BULK AT MOST 1048576: true; the input reads as it did. -/
def fnStepsForUptoRow : OpenClaim := { program := "yteihcffblfdgfaagreat", sum := "a6b76e15f2049bc9f68ac325fb5eabc8607257b8cd21560d2d6962712ae0175b", func := "loop.example/queryoptimizer/laws.FnStepsFor", spec := "fnStepsFor", unfollowed := true, recurses := true, apart := false, narrowed := true }
def FnStepsForUptoSaid : Prop := fnStepsForUptoRow.holds Tryz.pinned (OpenSpec.upto fnStepsForSpec)

/-- 'laws.FnExactStepsFor', WHERE WHAT IT READS IS OF BULK AT MOST 1048576: true; the input reads as it did. -/
def fnExactStepsForUptoRow : OpenClaim := { program := "yteihcffblfdgfaagreat", sum := "a6b76e15f2049bc9f68ac325fb5eabc8607257b8cd21560d2d6962712ae0175b", func := "loop.example/queryoptimizer/laws.FnExactStepsFor", spec := "fnExactStepsFor", unfollowed := true, recurses := true, loops := true, apart := false, narrowed := true }
def FnExactStepsForUptoSaid : Prop := fnExactStepsForUptoRow.holds Tryz.pinned (OpenSpec.upto fnExactStepsForSpec)

end Rows
end Go.Proofs.YteihcffblfdgfaaGreat
