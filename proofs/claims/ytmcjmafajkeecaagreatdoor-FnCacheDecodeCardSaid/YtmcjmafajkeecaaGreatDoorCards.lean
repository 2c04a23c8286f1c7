/-
  DERIVED. GIVEN WITH THE SEED: THE CARDS: each row of YtmcjmafajkeecaaGreatDoorRows.lean that lists a variable, with what it lists TIED to the program's text (the seventh form; the later family's looks); each row that meets fmt, with fmt's text TOLD by the authors' own Lean function (tested against real Go, not proved from fmt's source: count such statements apart). THE CARD IS WHAT COUNTS. Prove the row's statement (the work); the ties are given (YtmcjmafajkeecaaGreatDoorTie.lean); close each card by the builder's one call (the guide's Derived/Test/ToyasCard.lean, 'card_holds'). Laid BY PROGRAM, IN A SANDBOX (cutbox-door.mjs). By AI agents, Wed Nov 11 2026. No macro, syntax, notation, axiom, sorry.
-/
import Derived.Test.YtmcjmafajkeecaaGreatDoorRows
import GoSem.ClaimSeven
namespace Go.Proofs.YtmcjmafajkeecaaGreatDoor
namespace Rows

/-- THE TIED CARD OF 'laws.FnCacheDecode'. -/
def fnCacheDecodeCard : Claim7 := { stood := { row := fnCacheDecodeRow, standIns := [], harness := (true, "8ca0fd5865dd1b8efd771e781cbf38437fe676ec793466efb4d1eb64b5b68cd9"), looks := true }, kinds := [], alts := [], laidByText := true, laidKinds := [.data, .data, .data, .sentinel, .sentinel], laidTests := true, laidLooks := .later }
def FnCacheDecodeCardSaid : Prop := Claim7.holds Tryz.pinned (.plain (OpenSpec.ofChange fnCacheDecodeSpec)) fnCacheDecodeCard

/-- THE TIED CARD OF 'laws.FnPlanCanonical'. -/
def fnPlanCanonicalCard : Claim7 := { stood := { row := fnPlanCanonicalRow, standIns := [], harness := (true, "8ca0fd5865dd1b8efd771e781cbf38437fe676ec793466efb4d1eb64b5b68cd9"), looks := true }, kinds := [], alts := [], laidByText := true, laidKinds := [.data, .data, .data, .sentinel, .sentinel], laidTests := true, laidLooks := .later }
def FnPlanCanonicalCardSaid : Prop := Claim7.holds Tryz.pinned (.plain (OpenSpec.ofChange fnPlanCanonicalSpec)) fnPlanCanonicalCard

/-- THE SECOND FORM's CARD OF 'laws.FnCacheDecode'. -/
def fnCacheDecodeUptoCard : Claim7 := { stood := { row := fnCacheDecodeUptoRow, standIns := [], harness := (true, "8ca0fd5865dd1b8efd771e781cbf38437fe676ec793466efb4d1eb64b5b68cd9"), looks := true }, kinds := [], alts := [], laidByText := true, laidKinds := [.data, .data, .data, .sentinel, .sentinel], laidTests := true, laidLooks := .later }
def FnCacheDecodeUptoCardSaid : Prop := Claim7.holds Tryz.pinned (.plain (OpenSpec.upto fnCacheDecodeSpec)) fnCacheDecodeUptoCard

/-- THE SECOND FORM's CARD OF 'laws.FnPlanCanonical'. -/
def fnPlanCanonicalUptoCard : Claim7 := { stood := { row := fnPlanCanonicalUptoRow, standIns := [], harness := (true, "8ca0fd5865dd1b8efd771e781cbf38437fe676ec793466efb4d1eb64b5b68cd9"), looks := true }, kinds := [], alts := [], laidByText := true, laidKinds := [.data, .data, .data, .sentinel, .sentinel], laidTests := true, laidLooks := .later }
def FnPlanCanonicalUptoCardSaid : Prop := Claim7.holds Tryz.pinned (.plain (OpenSpec.upto fnPlanCanonicalSpec)) fnPlanCanonicalUptoCard
end Rows
end Go.Proofs.YtmcjmafajkeecaaGreatDoor
