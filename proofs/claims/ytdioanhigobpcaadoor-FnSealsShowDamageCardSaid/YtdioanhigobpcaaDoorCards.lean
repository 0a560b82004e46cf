/-
  DERIVED. GIVEN WITH THE SEED: THE CARDS: each row of YtdioanhigobpcaaDoorRows.lean that lists a variable, with what it lists TIED to the program's text (the seventh form; the later family's looks); each row that meets fmt, with fmt's text TOLD by the authors' own Lean function (tested against real Go, not proved from fmt's source: count such statements apart). THE CARD IS WHAT COUNTS. Prove the row's statement (the work); the ties are given (YtdioanhigobpcaaDoorTie.lean); close each card by the builder's one call (the guide's Derived/Test/ToyasCard.lean, 'card_holds'). Laid BY PROGRAM, IN A SANDBOX (cutbox-door.mjs). By AI agents, Wed Nov 11 2026. No macro, syntax, notation, axiom, sorry.
-/
import Derived.Test.YtdioanhigobpcaaDoorRows
import GoSem.ClaimSeven
namespace Go.Proofs.YtdioanhigobpcaaDoor
namespace Rows

/-- THE TIED CARD OF 'laws.FnExactSealText'. -/
def fnExactSealTextCard : Claim7 := { stood := { row := fnExactSealTextRow, standIns := [], harness := (true, "30ae15b012450792b3d8baa1869dcf05a0bef2aa64f1741d6363047438a6ce60"), looks := false }, kinds := [], alts := [], laidByText := true, laidKinds := [.data, .data, .data], laidTests := true, laidLooks := .later }
def FnExactSealTextCardSaid : Prop := Claim7.holds Tryd.pinned (.plain (OpenSpec.ofChange fnExactSealTextSpec)) fnExactSealTextCard

/-- THE TIED CARD OF 'laws.FnExactOpenSeal'. -/
def fnExactOpenSealCard : Claim7 := { stood := { row := fnExactOpenSealRow, standIns := [], harness := (true, "30ae15b012450792b3d8baa1869dcf05a0bef2aa64f1741d6363047438a6ce60"), looks := false }, kinds := [], alts := [], laidByText := true, laidKinds := [.data, .data, .data], laidTests := true, laidLooks := .later }
def FnExactOpenSealCardSaid : Prop := Claim7.holds Tryd.pinned (.plain (OpenSpec.ofChange fnExactOpenSealSpec)) fnExactOpenSealCard

/-- THE TIED CARD OF 'laws.FnSealsShowDamage'. -/
def fnSealsShowDamageCard : Claim7 := { stood := { row := fnSealsShowDamageRow, standIns := [], harness := (true, "30ae15b012450792b3d8baa1869dcf05a0bef2aa64f1741d6363047438a6ce60"), looks := false }, kinds := [], alts := [], laidByText := true, laidKinds := [.data, .data, .data], laidTests := true, laidLooks := .later }
def FnSealsShowDamageCardSaid : Prop := Claim7.holds Tryd.pinned (.plain (OpenSpec.ofChange fnSealsShowDamageSpec)) fnSealsShowDamageCard

/-- THE TIED CARD OF 'laws.FnExactImageOfPeeled'. -/
def fnExactImageOfPeeledCard : Claim7 := { stood := { row := fnExactImageOfPeeledRow, standIns := [], harness := (true, "30ae15b012450792b3d8baa1869dcf05a0bef2aa64f1741d6363047438a6ce60"), looks := false }, kinds := [], alts := [], laidByText := true, laidKinds := [.data, .data, .data], laidTests := true, laidLooks := .later }
def FnExactImageOfPeeledCardSaid : Prop := Claim7.holds Tryd.pinned (.plain (OpenSpec.ofChange fnExactImageOfPeeledSpec)) fnExactImageOfPeeledCard

/-- THE TIED CARD OF 'laws.FnExactImageOfBits'. -/
def fnExactImageOfBitsCard : Claim7 := { stood := { row := fnExactImageOfBitsRow, standIns := [], harness := (true, "30ae15b012450792b3d8baa1869dcf05a0bef2aa64f1741d6363047438a6ce60"), looks := false }, kinds := [], alts := [], laidByText := true, laidKinds := [.data, .data, .data], laidTests := true, laidLooks := .later }
def FnExactImageOfBitsCardSaid : Prop := Claim7.holds Tryd.pinned (.plain (OpenSpec.ofChange fnExactImageOfBitsSpec)) fnExactImageOfBitsCard

/-- THE TIED CARD OF 'laws.FnExactImageOfSparse'. -/
def fnExactImageOfSparseCard : Claim7 := { stood := { row := fnExactImageOfSparseRow, standIns := [], harness := (true, "30ae15b012450792b3d8baa1869dcf05a0bef2aa64f1741d6363047438a6ce60"), looks := false }, kinds := [], alts := [], laidByText := true, laidKinds := [.data, .data, .data], laidTests := true, laidLooks := .later }
def FnExactImageOfSparseCardSaid : Prop := Claim7.holds Tryd.pinned (.plain (OpenSpec.ofChange fnExactImageOfSparseSpec)) fnExactImageOfSparseCard

/-- THE SECOND FORM's CARD OF 'laws.FnExactSealText'. -/
def fnExactSealTextUptoCard : Claim7 := { stood := { row := fnExactSealTextUptoRow, standIns := [], harness := (true, "30ae15b012450792b3d8baa1869dcf05a0bef2aa64f1741d6363047438a6ce60"), looks := false }, kinds := [], alts := [], laidByText := true, laidKinds := [.data, .data, .data], laidTests := true, laidLooks := .later }
def FnExactSealTextUptoCardSaid : Prop := Claim7.holds Tryd.pinned (.plain (OpenSpec.upto fnExactSealTextSpec)) fnExactSealTextUptoCard

/-- THE SECOND FORM's CARD OF 'laws.FnExactOpenSeal'. -/
def fnExactOpenSealUptoCard : Claim7 := { stood := { row := fnExactOpenSealUptoRow, standIns := [], harness := (true, "30ae15b012450792b3d8baa1869dcf05a0bef2aa64f1741d6363047438a6ce60"), looks := false }, kinds := [], alts := [], laidByText := true, laidKinds := [.data, .data, .data], laidTests := true, laidLooks := .later }
def FnExactOpenSealUptoCardSaid : Prop := Claim7.holds Tryd.pinned (.plain (OpenSpec.upto fnExactOpenSealSpec)) fnExactOpenSealUptoCard

/-- THE SECOND FORM's CARD OF 'laws.FnSealsShowDamage'. -/
def fnSealsShowDamageUptoCard : Claim7 := { stood := { row := fnSealsShowDamageUptoRow, standIns := [], harness := (true, "30ae15b012450792b3d8baa1869dcf05a0bef2aa64f1741d6363047438a6ce60"), looks := false }, kinds := [], alts := [], laidByText := true, laidKinds := [.data, .data, .data], laidTests := true, laidLooks := .later }
def FnSealsShowDamageUptoCardSaid : Prop := Claim7.holds Tryd.pinned (.plain (OpenSpec.upto fnSealsShowDamageSpec)) fnSealsShowDamageUptoCard

/-- THE SECOND FORM's CARD OF 'laws.FnExactImageOfPeeled'. -/
def fnExactImageOfPeeledUptoCard : Claim7 := { stood := { row := fnExactImageOfPeeledUptoRow, standIns := [], harness := (true, "30ae15b012450792b3d8baa1869dcf05a0bef2aa64f1741d6363047438a6ce60"), looks := false }, kinds := [], alts := [], laidByText := true, laidKinds := [.data, .data, .data], laidTests := true, laidLooks := .later }
def FnExactImageOfPeeledUptoCardSaid : Prop := Claim7.holds Tryd.pinned (.plain (OpenSpec.upto fnExactImageOfPeeledSpec)) fnExactImageOfPeeledUptoCard

/-- THE SECOND FORM's CARD OF 'laws.FnExactImageOfBits'. -/
def fnExactImageOfBitsUptoCard : Claim7 := { stood := { row := fnExactImageOfBitsUptoRow, standIns := [], harness := (true, "30ae15b012450792b3d8baa1869dcf05a0bef2aa64f1741d6363047438a6ce60"), looks := false }, kinds := [], alts := [], laidByText := true, laidKinds := [.data, .data, .data], laidTests := true, laidLooks := .later }
def FnExactImageOfBitsUptoCardSaid : Prop := Claim7.holds Tryd.pinned (.plain (OpenSpec.upto fnExactImageOfBitsSpec)) fnExactImageOfBitsUptoCard

/-- THE SECOND FORM's CARD OF 'laws.FnExactImageOfSparse'. -/
def fnExactImageOfSparseUptoCard : Claim7 := { stood := { row := fnExactImageOfSparseUptoRow, standIns := [], harness := (true, "30ae15b012450792b3d8baa1869dcf05a0bef2aa64f1741d6363047438a6ce60"), looks := false }, kinds := [], alts := [], laidByText := true, laidKinds := [.data, .data, .data], laidTests := true, laidLooks := .later }
def FnExactImageOfSparseUptoCardSaid : Prop := Claim7.holds Tryd.pinned (.plain (OpenSpec.upto fnExactImageOfSparseSpec)) fnExactImageOfSparseUptoCard
end Rows
end Go.Proofs.YtdioanhigobpcaaDoor
