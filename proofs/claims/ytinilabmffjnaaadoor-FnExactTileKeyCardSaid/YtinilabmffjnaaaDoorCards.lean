/-
  DERIVED. GIVEN WITH THE SEED: THE CARDS: each row of YtinilabmffjnaaaDoorRows.lean that lists a variable, with what it lists TIED to the program's text (the seventh form; the later family's looks); each row that meets fmt, with fmt's text TOLD by the authors' own Lean function (tested against real Go, not proved from fmt's source: count such statements apart). THE CARD IS WHAT COUNTS. Prove the row's statement (the work); the ties are given (YtinilabmffjnaaaDoorTie.lean); close each card by the builder's one call (the guide's Derived/Test/ToyasCard.lean, 'card_holds'). Laid BY PROGRAM, IN A SANDBOX (cutbox-door.mjs). By AI agents, Wed Nov 11 2026. No macro, syntax, notation, axiom, sorry.
-/
import Derived.Test.YtinilabmffjnaaaDoorRows
import GoSem.ClaimSeven
namespace Go.Proofs.YtinilabmffjnaaaDoor
namespace Rows

/-- THE TIED CARD OF 'laws.FnExactTileKey'. -/
def fnExactTileKeyCard : Claim7 := { stood := { row := fnExactTileKeyRow, standIns := [], harness := (true, "44edf6a8a7750530aff7d8c8e77ceea402004908fac826b47897d2f8fb824857"), looks := false }, kinds := [], alts := [], laidByText := true, laidKinds := [.data, .data, .data], laidTests := true, laidLooks := .later }
def FnExactTileKeyCardSaid : Prop := Claim7.holds Tryd.pinned (.plain (OpenSpec.ofChange fnExactTileKeySpec)) fnExactTileKeyCard

/-- THE TIED CARD OF 'laws.FnTiles'. -/
def fnTilesCard : Claim7 := { stood := { row := fnTilesRow, standIns := [], harness := (true, "44edf6a8a7750530aff7d8c8e77ceea402004908fac826b47897d2f8fb824857"), looks := false }, kinds := [], alts := [], laidByText := true, laidKinds := [.data, .data, .data], laidTests := true, laidLooks := .later }
def FnTilesCardSaid : Prop := Claim7.holds Tryd.pinned (.plain (OpenSpec.ofChange fnTilesSpec)) fnTilesCard

/-- THE SECOND FORM's CARD OF 'laws.FnExactTileKey'. -/
def fnExactTileKeyUptoCard : Claim7 := { stood := { row := fnExactTileKeyUptoRow, standIns := [], harness := (true, "44edf6a8a7750530aff7d8c8e77ceea402004908fac826b47897d2f8fb824857"), looks := false }, kinds := [], alts := [], laidByText := true, laidKinds := [.data, .data, .data], laidTests := true, laidLooks := .later }
def FnExactTileKeyUptoCardSaid : Prop := Claim7.holds Tryd.pinned (.plain (OpenSpec.upto fnExactTileKeySpec)) fnExactTileKeyUptoCard

/-- THE SECOND FORM's CARD OF 'laws.FnTiles'. -/
def fnTilesUptoCard : Claim7 := { stood := { row := fnTilesUptoRow, standIns := [], harness := (true, "44edf6a8a7750530aff7d8c8e77ceea402004908fac826b47897d2f8fb824857"), looks := false }, kinds := [], alts := [], laidByText := true, laidKinds := [.data, .data, .data], laidTests := true, laidLooks := .later }
def FnTilesUptoCardSaid : Prop := Claim7.holds Tryd.pinned (.plain (OpenSpec.upto fnTilesSpec)) fnTilesUptoCard
end Rows
end Go.Proofs.YtinilabmffjnaaaDoor
