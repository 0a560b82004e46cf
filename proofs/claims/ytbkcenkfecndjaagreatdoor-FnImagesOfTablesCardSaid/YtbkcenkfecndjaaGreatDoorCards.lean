/-
  DERIVED. GIVEN WITH THE SEED: THE CARDS: each row of YtbkcenkfecndjaaGreatDoorRows.lean that lists a variable, with what it lists TIED to the program's text (the seventh form; the later family's looks); each row that meets fmt, with fmt's text TOLD by the authors' own Lean function (tested against real Go, not proved from fmt's source: count such statements apart). THE CARD IS WHAT COUNTS. Prove the row's statement (the work); the ties are given (YtbkcenkfecndjaaGreatDoorTie.lean); close each card by the builder's one call (the guide's Derived/Test/ToyasCard.lean, 'card_holds'). Laid BY PROGRAM, IN A SANDBOX (cutbox-door.mjs). By AI agents, Wed Nov 11 2026. No macro, syntax, notation, axiom, sorry.
-/
import Derived.Test.YtbkcenkfecndjaaGreatDoorRows
import GoSem.ClaimSeven
namespace Go.Proofs.YtbkcenkfecndjaaGreatDoor
namespace Rows

/-- THE TIED CARD OF 'laws.FnImagesOfTables'. -/
def fnImagesOfTablesCard : Claim7 := { stood := { row := fnImagesOfTablesRow, standIns := [], harness := (true, "ae499c8965035f61caa66eb54a7437fc2e94bb39d5de9638d5ad0d501122e82f"), looks := true }, kinds := [], alts := [], laidByText := true, laidKinds := [.data, .data, .data, .data, .sentinel, .sentinel, .pinned], laidTests := true, laidLooks := .later }
def FnImagesOfTablesCardSaid : Prop := Claim7.holds Tryz.pinned (.plain (OpenSpec.ofChange fnImagesOfTablesSpec)) fnImagesOfTablesCard

/-- THE SECOND FORM's CARD OF 'laws.FnImagesOfTables'. -/
def fnImagesOfTablesUptoCard : Claim7 := { stood := { row := fnImagesOfTablesUptoRow, standIns := [], harness := (true, "ae499c8965035f61caa66eb54a7437fc2e94bb39d5de9638d5ad0d501122e82f"), looks := true }, kinds := [], alts := [], laidByText := true, laidKinds := [.data, .data, .data, .data, .sentinel, .sentinel, .pinned], laidTests := true, laidLooks := .later }
def FnImagesOfTablesUptoCardSaid : Prop := Claim7.holds Tryz.pinned (.plain (OpenSpec.upto fnImagesOfTablesSpec)) fnImagesOfTablesUptoCard
end Rows
end Go.Proofs.YtbkcenkfecndjaaGreatDoor
