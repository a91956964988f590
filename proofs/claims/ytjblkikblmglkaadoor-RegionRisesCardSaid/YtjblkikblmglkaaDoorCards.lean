/-
  DERIVED. GIVEN WITH THE SEED: THE CARDS: each row of YtjblkikblmglkaaDoorRows.lean that lists a variable, with what it lists TIED to the program's text (the seventh form; the later family's looks); each row that meets fmt, with fmt's text TOLD by the authors' own Lean function (tested against real Go, not proved from fmt's source: count such statements apart). THE CARD IS WHAT COUNTS. Prove the row's statement (the work); the ties are given (YtjblkikblmglkaaDoorTie.lean); close each card by the builder's one call (the guide's Derived/Test/ToyasCard.lean, 'card_holds'). Laid BY PROGRAM, IN A SANDBOX (cutbox-door.mjs). By AI agents, Wed Nov 11 2026. No macro, syntax, notation, axiom, sorry.
-/
import Derived.Test.YtjblkikblmglkaaDoorRows
import GoSem.ClaimSeven
namespace Go.Proofs.YtjblkikblmglkaaDoor
namespace Rows

/-- THE TIED CARD OF 'whitewashlaw04.RegionParts'. -/
def regionPartsCard : Claim7 := { stood := { row := regionPartsRow, standIns := [], harness := (true, "ce9b88a575336d0088a2dfdb0bc9aa1d7039cb85adfe6501ff1839ceaca21025"), looks := false }, kinds := [], alts := [], laidByText := true, laidKinds := [.data], laidTests := true, laidLooks := .later }
def RegionPartsCardSaid : Prop := Claim7.holds Tryd.pinned (.plain (OpenSpec.ofChange regionPartsSpec)) regionPartsCard

/-- THE TIED CARD OF 'whitewashlaw04.RegionRises'. -/
def regionRisesCard : Claim7 := { stood := { row := regionRisesRow, standIns := [], harness := (true, "ce9b88a575336d0088a2dfdb0bc9aa1d7039cb85adfe6501ff1839ceaca21025"), looks := false }, kinds := [], alts := [], laidByText := true, laidKinds := [.data], laidTests := true, laidLooks := .later }
def RegionRisesCardSaid : Prop := Claim7.holds Tryd.pinned (.plain (OpenSpec.ofChange regionRisesSpec)) regionRisesCard

/-- THE SECOND FORM's CARD OF 'whitewashlaw04.RegionParts'. -/
def regionPartsUptoCard : Claim7 := { stood := { row := regionPartsUptoRow, standIns := [], harness := (true, "ce9b88a575336d0088a2dfdb0bc9aa1d7039cb85adfe6501ff1839ceaca21025"), looks := false }, kinds := [], alts := [], laidByText := true, laidKinds := [.data], laidTests := true, laidLooks := .later }
def RegionPartsUptoCardSaid : Prop := Claim7.holds Tryd.pinned (.plain (OpenSpec.upto regionPartsSpec)) regionPartsUptoCard

/-- THE SECOND FORM's CARD OF 'whitewashlaw04.RegionRises'. -/
def regionRisesUptoCard : Claim7 := { stood := { row := regionRisesUptoRow, standIns := [], harness := (true, "ce9b88a575336d0088a2dfdb0bc9aa1d7039cb85adfe6501ff1839ceaca21025"), looks := false }, kinds := [], alts := [], laidByText := true, laidKinds := [.data], laidTests := true, laidLooks := .later }
def RegionRisesUptoCardSaid : Prop := Claim7.holds Tryd.pinned (.plain (OpenSpec.upto regionRisesSpec)) regionRisesUptoCard
end Rows
end Go.Proofs.YtjblkikblmglkaaDoor
