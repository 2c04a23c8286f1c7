/-
  DERIVED. GIVEN WITH THE SEED: THE CARDS: each row of YtmcjmafajkeecaaDoorRows.lean that lists a variable, with what it lists TIED to the program's text (the seventh form; the later family's looks); each row that meets fmt, with fmt's text TOLD by the authors' own Lean function (tested against real Go, not proved from fmt's source: count such statements apart). THE CARD IS WHAT COUNTS. Prove the row's statement (the work); the ties are given (YtmcjmafajkeecaaDoorTie.lean); close each card by the builder's one call (the guide's Derived/Test/ToyasCard.lean, 'card_holds'). Laid BY PROGRAM, IN A SANDBOX (cutbox-door.mjs). By AI agents, Wed Nov 11 2026. No macro, syntax, notation, axiom, sorry.
-/
import Derived.Test.YtmcjmafajkeecaaDoorRows
import GoSem.ClaimSeven
namespace Go.Proofs.YtmcjmafajkeecaaDoor
namespace Rows

/-- THE TIED CARD OF 'laws.FnExactCacheKey'. -/
def fnExactCacheKeyCard : Claim7 := { stood := { row := fnExactCacheKeyRow, standIns := [], harness := (true, "ed7628bd060856ce1e09efb56ae2f5619a135c9384b879d6fd2ddbcd829a9d54"), looks := false }, kinds := [], alts := [], laidByText := true, laidKinds := [.data, .data, .data], laidTests := true, laidLooks := .later }
def FnExactCacheKeyCardSaid : Prop := Claim7.holds Tryd.pinned (.plain (OpenSpec.ofChange fnExactCacheKeySpec)) fnExactCacheKeyCard

/-- THE TIED CARD OF 'laws.FnCacheKey'. -/
def fnCacheKeyCard : Claim7 := { stood := { row := fnCacheKeyRow, standIns := [], harness := (true, "ed7628bd060856ce1e09efb56ae2f5619a135c9384b879d6fd2ddbcd829a9d54"), looks := false }, kinds := [], alts := [], laidByText := true, laidKinds := [.data, .data, .data], laidTests := true, laidLooks := .later }
def FnCacheKeyCardSaid : Prop := Claim7.holds Tryd.pinned (.plain (OpenSpec.ofChange fnCacheKeySpec)) fnCacheKeyCard

/-- THE SECOND FORM's CARD OF 'laws.FnExactCacheKey'. -/
def fnExactCacheKeyUptoCard : Claim7 := { stood := { row := fnExactCacheKeyUptoRow, standIns := [], harness := (true, "ed7628bd060856ce1e09efb56ae2f5619a135c9384b879d6fd2ddbcd829a9d54"), looks := false }, kinds := [], alts := [], laidByText := true, laidKinds := [.data, .data, .data], laidTests := true, laidLooks := .later }
def FnExactCacheKeyUptoCardSaid : Prop := Claim7.holds Tryd.pinned (.plain (OpenSpec.upto fnExactCacheKeySpec)) fnExactCacheKeyUptoCard

/-- THE SECOND FORM's CARD OF 'laws.FnCacheKey'. -/
def fnCacheKeyUptoCard : Claim7 := { stood := { row := fnCacheKeyUptoRow, standIns := [], harness := (true, "ed7628bd060856ce1e09efb56ae2f5619a135c9384b879d6fd2ddbcd829a9d54"), looks := false }, kinds := [], alts := [], laidByText := true, laidKinds := [.data, .data, .data], laidTests := true, laidLooks := .later }
def FnCacheKeyUptoCardSaid : Prop := Claim7.holds Tryd.pinned (.plain (OpenSpec.upto fnCacheKeySpec)) fnCacheKeyUptoCard
end Rows
end Go.Proofs.YtmcjmafajkeecaaDoor
