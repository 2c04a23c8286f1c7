/-
  NARROWER THAN 'FOR EVERY INPUT', by the rows' own cells (each row's printed sentence says how): FnExactSubstitute: loops · FnExactExtract: loops · FnExactBind: loops.
  DERIVED. THE GIVEN ROWS OF THIS SEAT. 7 by the template 'for every input the law returns true; each argument reads behind the call as it read before'; 0 by the template 'total and deterministic' (their statements: YtgpclhjdfdojhaaTotals.lean).
  GIVEN WITH THE SEED: the statements are not yours to turn. If you find one false, say at which input.
  Laid BY PROGRAM, IN A SANDBOX (cutbox-rows.mjs): the forced cells as the released guide's own fill.sh prints them over the translation 02eafe42081f6336… (all of the seat's roots in one cut). By AI agents, Wed Nov 11 2026. No macro, syntax, notation, axiom, sorry.
-/
import Derived.Test.YtgpclhjdfdojhaaChecked
import GoSem.Claim
import GoSem.ClaimJoined
import GoSem.ClaimMapViews
import Derived.JoinedTies
import Derived.KernelRfl
namespace Go.Proofs.Ytgpclhjdfdojhaa
/- THE CELL 'sum', in the pinned program and in every row, IS THE sha256 OF THE DUMP (.gsa) THAT YtgpclhjdfdojhaaProg.lean LOADS. Nothing in Lean hashes anything: it is a label: what it is worth is what the hold of that sum in a sandbox is worth. -/
noncomputable def Try.pinned : Pinned := { name := "ytgpclhjdfdojhaa", sum := "02eafe42081f6336270d2fe3cfe7a3360c4d7bf626dcb6d0fb4241d114c8c277", checked := Try.checked }
namespace Rows
def none {H : Type} : Left H := { results := [], args := [] }

/-- 'laws.FnSubstituteColumns': WHATEVER THE INPUT: true; the input reads as it did. -/
def fnSubstituteColumnsSpec : ChangeSpec := { name := "fnSubstituteColumns", fn := fun _ => fun
  | [d] => { results := [.lit (.bool true)], args := [d] }
  | _ => none }
def fnSubstituteColumnsRow : OpenClaim := { program := "ytgpclhjdfdojhaa", sum := "02eafe42081f6336270d2fe3cfe7a3360c4d7bf626dcb6d0fb4241d114c8c277", func := "loop.example/queryoptimizer/laws.FnSubstituteColumns", spec := "fnSubstituteColumns", unfollowed := true, recurses := true, apart := false }
def FnSubstituteColumnsSaid : Prop := fnSubstituteColumnsRow.holds Try.pinned (OpenSpec.ofChange fnSubstituteColumnsSpec)

/-- ITS FALSE NEIGHBOUR: 'it returns false'. Refute it at one input. -/
def fnSubstituteColumnsWrong : ChangeSpec := { name := "fnSubstituteColumns", fn := fun _ => fun
  | [d] => { results := [.lit (.bool false)], args := [d] }
  | _ => none }
def FnSubstituteColumnsWrongFalsely : Prop := fnSubstituteColumnsRow.holds Try.pinned (OpenSpec.ofChange fnSubstituteColumnsWrong)

/-- 'laws.FnExtractBind': WHATEVER THE INPUT: true; the input reads as it did. -/
def fnExtractBindSpec : ChangeSpec := { name := "fnExtractBind", fn := fun _ => fun
  | [d] => { results := [.lit (.bool true)], args := [d] }
  | _ => none }
def fnExtractBindRow : OpenClaim := { program := "ytgpclhjdfdojhaa", sum := "02eafe42081f6336270d2fe3cfe7a3360c4d7bf626dcb6d0fb4241d114c8c277", func := "loop.example/queryoptimizer/laws.FnExtractBind", spec := "fnExtractBind", unfollowed := true, recurses := true, apart := false }
def FnExtractBindSaid : Prop := fnExtractBindRow.holds Try.pinned (OpenSpec.ofChange fnExtractBindSpec)

/-- ITS FALSE NEIGHBOUR: 'it returns false'. Refute it at one input. -/
def fnExtractBindWrong : ChangeSpec := { name := "fnExtractBind", fn := fun _ => fun
  | [d] => { results := [.lit (.bool false)], args := [d] }
  | _ => none }
def FnExtractBindWrongFalsely : Prop := fnExtractBindRow.holds Try.pinned (OpenSpec.ofChange fnExtractBindWrong)

/-- 'laws.FnExactSubstitute': WHATEVER THE INPUT: true; the input reads as it did. -/
def fnExactSubstituteSpec : ChangeSpec := { name := "fnExactSubstitute", fn := fun _ => fun
  | [d1, d2, d3] => { results := [.lit (.bool true)], args := [d1, d2, d3] }
  | _ => none }
def fnExactSubstituteRow : OpenClaim := { program := "ytgpclhjdfdojhaa", sum := "02eafe42081f6336270d2fe3cfe7a3360c4d7bf626dcb6d0fb4241d114c8c277", func := "loop.example/queryoptimizer/laws.FnExactSubstitute", spec := "fnExactSubstitute", unfollowed := true, recurses := true, loops := true, apart := false }
def FnExactSubstituteSaid : Prop := fnExactSubstituteRow.holds Try.pinned (OpenSpec.ofChange fnExactSubstituteSpec)

/-- ITS FALSE NEIGHBOUR: 'it returns false'. Refute it at one input. -/
def fnExactSubstituteWrong : ChangeSpec := { name := "fnExactSubstitute", fn := fun _ => fun
  | [d1, d2, d3] => { results := [.lit (.bool false)], args := [d1, d2, d3] }
  | _ => none }
def FnExactSubstituteWrongFalsely : Prop := fnExactSubstituteRow.holds Try.pinned (OpenSpec.ofChange fnExactSubstituteWrong)

/-- 'laws.FnExactExtract': WHATEVER THE INPUT: true; the input reads as it did. -/
def fnExactExtractSpec : ChangeSpec := { name := "fnExactExtract", fn := fun _ => fun
  | [d1, d2] => { results := [.lit (.bool true)], args := [d1, d2] }
  | _ => none }
def fnExactExtractRow : OpenClaim := { program := "ytgpclhjdfdojhaa", sum := "02eafe42081f6336270d2fe3cfe7a3360c4d7bf626dcb6d0fb4241d114c8c277", func := "loop.example/queryoptimizer/laws.FnExactExtract", spec := "fnExactExtract", unfollowed := true, recurses := true, loops := true, apart := false }
def FnExactExtractSaid : Prop := fnExactExtractRow.holds Try.pinned (OpenSpec.ofChange fnExactExtractSpec)

/-- ITS FALSE NEIGHBOUR: 'it returns false'. Refute it at one input. -/
def fnExactExtractWrong : ChangeSpec := { name := "fnExactExtract", fn := fun _ => fun
  | [d1, d2] => { results := [.lit (.bool false)], args := [d1, d2] }
  | _ => none }
def FnExactExtractWrongFalsely : Prop := fnExactExtractRow.holds Try.pinned (OpenSpec.ofChange fnExactExtractWrong)

/-- 'laws.FnExactBind': WHATEVER THE INPUT: true; the input reads as it did. -/
def fnExactBindSpec : ChangeSpec := { name := "fnExactBind", fn := fun _ => fun
  | [d1, d2, d3] => { results := [.lit (.bool true)], args := [d1, d2, d3] }
  | _ => none }
def fnExactBindRow : OpenClaim := { program := "ytgpclhjdfdojhaa", sum := "02eafe42081f6336270d2fe3cfe7a3360c4d7bf626dcb6d0fb4241d114c8c277", func := "loop.example/queryoptimizer/laws.FnExactBind", spec := "fnExactBind", unfollowed := true, recurses := true, loops := true, apart := false }
def FnExactBindSaid : Prop := fnExactBindRow.holds Try.pinned (OpenSpec.ofChange fnExactBindSpec)

/-- ITS FALSE NEIGHBOUR: 'it returns false'. Refute it at one input. -/
def fnExactBindWrong : ChangeSpec := { name := "fnExactBind", fn := fun _ => fun
  | [d1, d2, d3] => { results := [.lit (.bool false)], args := [d1, d2, d3] }
  | _ => none }
def FnExactBindWrongFalsely : Prop := fnExactBindRow.holds Try.pinned (OpenSpec.ofChange fnExactBindWrong)

/-- 'laws.FnBindValue': WHATEVER THE INPUT: true; the input reads as it did. -/
def fnBindValueSpec : ChangeSpec := { name := "fnBindValue", fn := fun _ => fun
  | [d1, d2] => { results := [.lit (.bool true)], args := [d1, d2] }
  | _ => none }
def fnBindValueRow : OpenClaim := { program := "ytgpclhjdfdojhaa", sum := "02eafe42081f6336270d2fe3cfe7a3360c4d7bf626dcb6d0fb4241d114c8c277", func := "loop.example/queryoptimizer/laws.FnBindValue", spec := "fnBindValue", unfollowed := true, recurses := true, apart := false }
def FnBindValueSaid : Prop := fnBindValueRow.holds Try.pinned (OpenSpec.ofChange fnBindValueSpec)

/-- ITS FALSE NEIGHBOUR: 'it returns false'. Refute it at one input. -/
def fnBindValueWrong : ChangeSpec := { name := "fnBindValue", fn := fun _ => fun
  | [d1, d2] => { results := [.lit (.bool false)], args := [d1, d2] }
  | _ => none }
def FnBindValueWrongFalsely : Prop := fnBindValueRow.holds Try.pinned (OpenSpec.ofChange fnBindValueWrong)

/-- 'laws.FnSubstitute': WHATEVER THE INPUT: true; the input reads as it did. -/
def fnSubstituteSpec : ChangeSpec := { name := "fnSubstitute", fn := fun _ => fun
  | [d1, d2] => { results := [.lit (.bool true)], args := [d1, d2] }
  | _ => none }
def fnSubstituteRow : OpenClaim := { program := "ytgpclhjdfdojhaa", sum := "02eafe42081f6336270d2fe3cfe7a3360c4d7bf626dcb6d0fb4241d114c8c277", func := "loop.example/queryoptimizer/laws.FnSubstitute", spec := "fnSubstitute", unfollowed := true, recurses := true, apart := false }
def FnSubstituteSaid : Prop := fnSubstituteRow.holds Try.pinned (OpenSpec.ofChange fnSubstituteSpec)

/-- ITS FALSE NEIGHBOUR: 'it returns false'. Refute it at one input. -/
def fnSubstituteWrong : ChangeSpec := { name := "fnSubstitute", fn := fun _ => fun
  | [d1, d2] => { results := [.lit (.bool false)], args := [d1, d2] }
  | _ => none }
def FnSubstituteWrongFalsely : Prop := fnSubstituteRow.holds Try.pinned (OpenSpec.ofChange fnSubstituteWrong)

/- THE SECOND FORM. 'bulk': how many values and letters a reading holds, each counted each time it is reached (what is shared counts as often as it is met; a slice's spare places count too). A statement '..UptoSaid' is the law's where the arguments, and the package variables that the reading takes, are together of bulk at most 1048576: NARROWER than '..Said'. Prove '..Said' where nothing that the law and all that it calls make is longer than what came in: it says more and counts as full. Else prove '..UptoSaid'. A law counts once. -/
mutual
def uptoBulk {H : Type} : DataW H → Nat
  | .lit (.string bytes) => bytes.length + 1
  | .lit _ => 1
  | .nil => 1
  | .ptr d => uptoBulk d + 1
  | .slice elems spare => uptoBulkAll elems + uptoBulkAll spare + 1
  | .agg parts => uptoBulkAll parts + 1
  | .iface _ d => uptoBulk d + 1
  | .map entries => uptoBulkEntries entries + 1
  | .held _ => 1
def uptoBulkAll {H : Type} : List (DataW H) → Nat
  | [] => 0
  | d :: r => uptoBulk d + uptoBulkAll r
def uptoBulkEntries {H : Type} : List (Lit × DataW H) → Nat
  | [] => 0
  | x :: r => uptoBulkEntry x + uptoBulkEntries r
def uptoBulkEntry {H : Type} : Lit × DataW H → Nat
  | (.string bytes, d) => bytes.length + uptoBulk d + 1
  | (_, d) => uptoBulk d + 1
 end
def uptoSmall : (H : Type) → List (DataW H) → Bool := fun _ ds => decide (uptoBulkAll ds ≤ 1048576)
def OpenSpec.upto (s : _root_.Go.ChangeSpec) : _root_.Go.OpenSpec := { _root_.Go.OpenSpec.ofChange s with cond := some uptoSmall }

/-- 'laws.FnSubstituteColumns', WHERE WHAT IT READS IS OF BULK AT MOST 1048576: true; the input reads as it did. -/
def fnSubstituteColumnsUptoRow : OpenClaim := { program := "ytgpclhjdfdojhaa", sum := "02eafe42081f6336270d2fe3cfe7a3360c4d7bf626dcb6d0fb4241d114c8c277", func := "loop.example/queryoptimizer/laws.FnSubstituteColumns", spec := "fnSubstituteColumns", unfollowed := true, recurses := true, apart := false, narrowed := true }
def FnSubstituteColumnsUptoSaid : Prop := fnSubstituteColumnsUptoRow.holds Try.pinned (OpenSpec.upto fnSubstituteColumnsSpec)

/-- 'laws.FnExtractBind', WHERE WHAT IT READS IS OF BULK AT MOST 1048576: true; the input reads as it did. -/
def fnExtractBindUptoRow : OpenClaim := { program := "ytgpclhjdfdojhaa", sum := "02eafe42081f6336270d2fe3cfe7a3360c4d7bf626dcb6d0fb4241d114c8c277", func := "loop.example/queryoptimizer/laws.FnExtractBind", spec := "fnExtractBind", unfollowed := true, recurses := true, apart := false, narrowed := true }
def FnExtractBindUptoSaid : Prop := fnExtractBindUptoRow.holds Try.pinned (OpenSpec.upto fnExtractBindSpec)

/-- 'laws.FnExactSubstitute', WHERE WHAT IT READS IS OF BULK AT MOST 1048576: true; the input reads as it did. -/
def fnExactSubstituteUptoRow : OpenClaim := { program := "ytgpclhjdfdojhaa", sum := "02eafe42081f6336270d2fe3cfe7a3360c4d7bf626dcb6d0fb4241d114c8c277", func := "loop.example/queryoptimizer/laws.FnExactSubstitute", spec := "fnExactSubstitute", unfollowed := true, recurses := true, loops := true, apart := false, narrowed := true }
def FnExactSubstituteUptoSaid : Prop := fnExactSubstituteUptoRow.holds Try.pinned (OpenSpec.upto fnExactSubstituteSpec)

/-- 'laws.FnExactExtract', WHERE WHAT IT READS IS OF BULK AT MOST 1048576: true; the input reads as it did. -/
def fnExactExtractUptoRow : OpenClaim := { program := "ytgpclhjdfdojhaa", sum := "02eafe42081f6336270d2fe3cfe7a3360c4d7bf626dcb6d0fb4241d114c8c277", func := "loop.example/queryoptimizer/laws.FnExactExtract", spec := "fnExactExtract", unfollowed := true, recurses := true, loops := true, apart := false, narrowed := true }
def FnExactExtractUptoSaid : Prop := fnExactExtractUptoRow.holds Try.pinned (OpenSpec.upto fnExactExtractSpec)

/-- 'laws.FnExactBind', WHERE WHAT IT READS IS OF BULK AT MOST 1048576: true; the input reads as it did. -/
def fnExactBindUptoRow : OpenClaim := { program := "ytgpclhjdfdojhaa", sum := "02eafe42081f6336270d2fe3cfe7a3360c4d7bf626dcb6d0fb4241d114c8c277", func := "loop.example/queryoptimizer/laws.FnExactBind", spec := "fnExactBind", unfollowed := true, recurses := true, loops := true, apart := false, narrowed := true }
def FnExactBindUptoSaid : Prop := fnExactBindUptoRow.holds Try.pinned (OpenSpec.upto fnExactBindSpec)

/-- 'laws.FnBindValue', WHERE WHAT IT READS IS OF BULK AT MOST 1048576: true; the input reads as it did. -/
def fnBindValueUptoRow : OpenClaim := { program := "ytgpclhjdfdojhaa", sum := "02eafe42081f6336270d2fe3cfe7a3360c4d7bf626dcb6d0fb4241d114c8c277", func := "loop.example/queryoptimizer/laws.FnBindValue", spec := "fnBindValue", unfollowed := true, recurses := true, apart := false, narrowed := true }
def FnBindValueUptoSaid : Prop := fnBindValueUptoRow.holds Try.pinned (OpenSpec.upto fnBindValueSpec)

/-- 'laws.FnSubstitute', WHERE WHAT IT READS IS OF BULK AT MOST 1048576: true; the input reads as it did. -/
def fnSubstituteUptoRow : OpenClaim := { program := "ytgpclhjdfdojhaa", sum := "02eafe42081f6336270d2fe3cfe7a3360c4d7bf626dcb6d0fb4241d114c8c277", func := "loop.example/queryoptimizer/laws.FnSubstitute", spec := "fnSubstitute", unfollowed := true, recurses := true, apart := false, narrowed := true }
def FnSubstituteUptoSaid : Prop := fnSubstituteUptoRow.holds Try.pinned (OpenSpec.upto fnSubstituteSpec)

end Rows
end Go.Proofs.Ytgpclhjdfdojhaa
