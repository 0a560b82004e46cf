/-
  DERIVED. GIVEN WITH THE SEED: THE CARDS: each row of YtakjemikampncaaGreatDoorRows.lean that lists a variable, with what it lists TIED to the program's text (the seventh form; the later family's looks); each row that meets fmt, with fmt's text TOLD by the authors' own Lean function (tested against real Go, not proved from fmt's source: count such statements apart). THE CARD IS WHAT COUNTS. Prove the row's statement (the work); the ties are given (YtakjemikampncaaGreatDoorTie.lean); close each card by the builder's one call (the guide's Derived/Test/ToyasCard.lean, 'card_holds'). Laid BY PROGRAM, IN A SANDBOX (cutbox-door.mjs). By AI agents, Wed Nov 11 2026. No macro, syntax, notation, axiom, sorry.
-/
import Derived.Test.YtakjemikampncaaGreatDoorRows
import GoSem.ClaimSeven
namespace Go.Proofs.YtakjemikampncaaGreatDoor
namespace Rows

/-- THE TIED CARD OF 'laws.FnExactLoadTrie'. -/
def fnExactLoadTrieCard : Claim7 := { stood := { row := fnExactLoadTrieRow, standIns := [], harness := (true, "02370809ea1d033402d22db2f8f9de1877931534f5141a5b33483c77c6efa526"), looks := false }, kinds := [], alts := [], laidByText := true, laidKinds := [.data, .data, .data, .data, .pinned], laidTests := true, laidLooks := .later }
def FnExactLoadTrieCardSaid : Prop := Claim7.holds Tryz.pinned (.plain (OpenSpec.ofChange fnExactLoadTrieSpec)) fnExactLoadTrieCard

/-- THE TIED CARD OF 'laws.FnExactImageOfTrie'. -/
def fnExactImageOfTrieCard : Claim7 := { stood := { row := fnExactImageOfTrieRow, standIns := [], harness := (true, "02370809ea1d033402d22db2f8f9de1877931534f5141a5b33483c77c6efa526"), looks := false }, kinds := [], alts := [], laidByText := true, laidKinds := [.data, .data, .data], laidTests := true, laidLooks := .later }
def FnExactImageOfTrieCardSaid : Prop := Claim7.holds Tryz.pinned (.plain (OpenSpec.ofChange fnExactImageOfTrieSpec)) fnExactImageOfTrieCard

/-- THE TIED CARD OF 'laws.FnImagesOfTries'. -/
def fnImagesOfTriesCard : Claim7 := { stood := { row := fnImagesOfTriesRow, standIns := [], harness := (true, "02370809ea1d033402d22db2f8f9de1877931534f5141a5b33483c77c6efa526"), looks := false }, kinds := [], alts := [], laidByText := true, laidKinds := [.data, .data, .data, .data, .pinned], laidTests := true, laidLooks := .later }
def FnImagesOfTriesCardSaid : Prop := Claim7.holds Tryz.pinned (.plain (OpenSpec.ofChange fnImagesOfTriesSpec)) fnImagesOfTriesCard

/-- THE SECOND FORM's CARD OF 'laws.FnExactLoadTrie'. -/
def fnExactLoadTrieUptoCard : Claim7 := { stood := { row := fnExactLoadTrieUptoRow, standIns := [], harness := (true, "02370809ea1d033402d22db2f8f9de1877931534f5141a5b33483c77c6efa526"), looks := false }, kinds := [], alts := [], laidByText := true, laidKinds := [.data, .data, .data, .data, .pinned], laidTests := true, laidLooks := .later }
def FnExactLoadTrieUptoCardSaid : Prop := Claim7.holds Tryz.pinned (.plain (OpenSpec.upto fnExactLoadTrieSpec)) fnExactLoadTrieUptoCard

/-- THE SECOND FORM's CARD OF 'laws.FnExactImageOfTrie'. -/
def fnExactImageOfTrieUptoCard : Claim7 := { stood := { row := fnExactImageOfTrieUptoRow, standIns := [], harness := (true, "02370809ea1d033402d22db2f8f9de1877931534f5141a5b33483c77c6efa526"), looks := false }, kinds := [], alts := [], laidByText := true, laidKinds := [.data, .data, .data], laidTests := true, laidLooks := .later }
def FnExactImageOfTrieUptoCardSaid : Prop := Claim7.holds Tryz.pinned (.plain (OpenSpec.upto fnExactImageOfTrieSpec)) fnExactImageOfTrieUptoCard

/-- THE SECOND FORM's CARD OF 'laws.FnImagesOfTries'. -/
def fnImagesOfTriesUptoCard : Claim7 := { stood := { row := fnImagesOfTriesUptoRow, standIns := [], harness := (true, "02370809ea1d033402d22db2f8f9de1877931534f5141a5b33483c77c6efa526"), looks := false }, kinds := [], alts := [], laidByText := true, laidKinds := [.data, .data, .data, .data, .pinned], laidTests := true, laidLooks := .later }
def FnImagesOfTriesUptoCardSaid : Prop := Claim7.holds Tryz.pinned (.plain (OpenSpec.upto fnImagesOfTriesSpec)) fnImagesOfTriesUptoCard
end Rows
end Go.Proofs.YtakjemikampncaaGreatDoor
