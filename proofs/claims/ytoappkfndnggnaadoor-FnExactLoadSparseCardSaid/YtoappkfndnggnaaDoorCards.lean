/-
  DERIVED. GIVEN WITH THE SEED: THE CARDS: each row of YtoappkfndnggnaaDoorRows.lean that lists a variable, with what it lists TIED to the program's text (the seventh form; the later family's looks); each row that meets fmt, with fmt's text TOLD by the authors' own Lean function (tested against real Go, not proved from fmt's source: count such statements apart). THE CARD IS WHAT COUNTS. Prove the row's statement (the work); the ties are given (YtoappkfndnggnaaDoorTie.lean); close each card by the builder's one call (the guide's Derived/Test/ToyasCard.lean, 'card_holds'). Laid BY PROGRAM, IN A SANDBOX (cutbox-door.mjs). By AI agents, Wed Nov 11 2026. No macro, syntax, notation, axiom, sorry.
-/
import Derived.Test.YtoappkfndnggnaaDoorRows
import GoSem.ClaimSeven
namespace Go.Proofs.YtoappkfndnggnaaDoor
namespace Rows

/-- THE TIED CARD OF 'laws.FnExactLoadBits'. -/
def fnExactLoadBitsCard : Claim7 := { stood := { row := fnExactLoadBitsRow, standIns := [], harness := (true, "84c963ca224d5e892e84e26cb98e6c80ec60f6989700292fed34166453aa9141"), looks := true }, kinds := [], alts := [], laidByText := true, laidKinds := [.data, .data, .data, .data, .pinned], laidTests := true, laidLooks := .later }
def FnExactLoadBitsCardSaid : Prop := Claim7.holds Tryd.pinned (.plain (OpenSpec.ofChange fnExactLoadBitsSpec)) fnExactLoadBitsCard

/-- THE TIED CARD OF 'laws.FnImagesOfBits'. -/
def fnImagesOfBitsCard : Claim7 := { stood := { row := fnImagesOfBitsRow, standIns := [], harness := (true, "84c963ca224d5e892e84e26cb98e6c80ec60f6989700292fed34166453aa9141"), looks := true }, kinds := [], alts := [], laidByText := true, laidKinds := [.data, .data, .data, .data, .pinned], laidTests := true, laidLooks := .later }
def FnImagesOfBitsCardSaid : Prop := Claim7.holds Tryd.pinned (.plain (OpenSpec.ofChange fnImagesOfBitsSpec)) fnImagesOfBitsCard

/-- THE TIED CARD OF 'laws.FnExactLoadPeeled'. -/
def fnExactLoadPeeledCard : Claim7 := { stood := { row := fnExactLoadPeeledRow, standIns := [], harness := (true, "84c963ca224d5e892e84e26cb98e6c80ec60f6989700292fed34166453aa9141"), looks := true }, kinds := [], alts := [], laidByText := true, laidKinds := [.data, .data, .data, .data, .sentinel, .sentinel, .pinned], laidTests := true, laidLooks := .later }
def FnExactLoadPeeledCardSaid : Prop := Claim7.holds Tryd.pinned (.plain (OpenSpec.ofChange fnExactLoadPeeledSpec)) fnExactLoadPeeledCard

/-- THE TIED CARD OF 'laws.FnExactImageOfSparse'. -/
def fnExactImageOfSparseCard : Claim7 := { stood := { row := fnExactImageOfSparseRow, standIns := [], harness := (true, "84c963ca224d5e892e84e26cb98e6c80ec60f6989700292fed34166453aa9141"), looks := true }, kinds := [], alts := [], laidByText := true, laidKinds := [.data, .data, .data], laidTests := true, laidLooks := .later }
def FnExactImageOfSparseCardSaid : Prop := Claim7.holds Tryd.pinned (.plain (OpenSpec.ofChange fnExactImageOfSparseSpec)) fnExactImageOfSparseCard

/-- THE TIED CARD OF 'laws.FnExactLoadSparse'. -/
def fnExactLoadSparseCard : Claim7 := { stood := { row := fnExactLoadSparseRow, standIns := [], harness := (true, "84c963ca224d5e892e84e26cb98e6c80ec60f6989700292fed34166453aa9141"), looks := true }, kinds := [], alts := [], laidByText := true, laidKinds := [.data, .data, .data, .data, .sentinel, .sentinel, .pinned], laidTests := true, laidLooks := .later }
def FnExactLoadSparseCardSaid : Prop := Claim7.holds Tryd.pinned (.plain (OpenSpec.ofChange fnExactLoadSparseSpec)) fnExactLoadSparseCard

/-- THE SECOND FORM's CARD OF 'laws.FnExactLoadBits'. -/
def fnExactLoadBitsUptoCard : Claim7 := { stood := { row := fnExactLoadBitsUptoRow, standIns := [], harness := (true, "84c963ca224d5e892e84e26cb98e6c80ec60f6989700292fed34166453aa9141"), looks := true }, kinds := [], alts := [], laidByText := true, laidKinds := [.data, .data, .data, .data, .pinned], laidTests := true, laidLooks := .later }
def FnExactLoadBitsUptoCardSaid : Prop := Claim7.holds Tryd.pinned (.plain (OpenSpec.upto fnExactLoadBitsSpec)) fnExactLoadBitsUptoCard

/-- THE SECOND FORM's CARD OF 'laws.FnImagesOfBits'. -/
def fnImagesOfBitsUptoCard : Claim7 := { stood := { row := fnImagesOfBitsUptoRow, standIns := [], harness := (true, "84c963ca224d5e892e84e26cb98e6c80ec60f6989700292fed34166453aa9141"), looks := true }, kinds := [], alts := [], laidByText := true, laidKinds := [.data, .data, .data, .data, .pinned], laidTests := true, laidLooks := .later }
def FnImagesOfBitsUptoCardSaid : Prop := Claim7.holds Tryd.pinned (.plain (OpenSpec.upto fnImagesOfBitsSpec)) fnImagesOfBitsUptoCard

/-- THE SECOND FORM's CARD OF 'laws.FnExactLoadPeeled'. -/
def fnExactLoadPeeledUptoCard : Claim7 := { stood := { row := fnExactLoadPeeledUptoRow, standIns := [], harness := (true, "84c963ca224d5e892e84e26cb98e6c80ec60f6989700292fed34166453aa9141"), looks := true }, kinds := [], alts := [], laidByText := true, laidKinds := [.data, .data, .data, .data, .sentinel, .sentinel, .pinned], laidTests := true, laidLooks := .later }
def FnExactLoadPeeledUptoCardSaid : Prop := Claim7.holds Tryd.pinned (.plain (OpenSpec.upto fnExactLoadPeeledSpec)) fnExactLoadPeeledUptoCard

/-- THE SECOND FORM's CARD OF 'laws.FnExactImageOfSparse'. -/
def fnExactImageOfSparseUptoCard : Claim7 := { stood := { row := fnExactImageOfSparseUptoRow, standIns := [], harness := (true, "84c963ca224d5e892e84e26cb98e6c80ec60f6989700292fed34166453aa9141"), looks := true }, kinds := [], alts := [], laidByText := true, laidKinds := [.data, .data, .data], laidTests := true, laidLooks := .later }
def FnExactImageOfSparseUptoCardSaid : Prop := Claim7.holds Tryd.pinned (.plain (OpenSpec.upto fnExactImageOfSparseSpec)) fnExactImageOfSparseUptoCard

/-- THE SECOND FORM's CARD OF 'laws.FnExactLoadSparse'. -/
def fnExactLoadSparseUptoCard : Claim7 := { stood := { row := fnExactLoadSparseUptoRow, standIns := [], harness := (true, "84c963ca224d5e892e84e26cb98e6c80ec60f6989700292fed34166453aa9141"), looks := true }, kinds := [], alts := [], laidByText := true, laidKinds := [.data, .data, .data, .data, .sentinel, .sentinel, .pinned], laidTests := true, laidLooks := .later }
def FnExactLoadSparseUptoCardSaid : Prop := Claim7.holds Tryd.pinned (.plain (OpenSpec.upto fnExactLoadSparseSpec)) fnExactLoadSparseUptoCard
end Rows
end Go.Proofs.YtoappkfndnggnaaDoor
