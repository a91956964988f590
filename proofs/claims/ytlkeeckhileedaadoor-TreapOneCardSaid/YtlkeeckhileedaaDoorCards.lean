/-
  DERIVED. GIVEN WITH THE SEED: THE CARDS: each row of YtlkeeckhileedaaDoorRows.lean that lists a variable, with what it lists TIED to the program's text (the seventh form; the later family's looks); each row that meets fmt, with fmt's text TOLD by the authors' own Lean function (tested against real Go, not proved from fmt's source: count such statements apart). THE CARD IS WHAT COUNTS. Prove the row's statement (the work); the ties are given (YtlkeeckhileedaaDoorTie.lean); close each card by the builder's one call (the guide's Derived/Test/ToyasCard.lean, 'card_holds'). Laid BY PROGRAM, IN A SANDBOX (cutbox-door.mjs). By AI agents, Wed Nov 11 2026. No macro, syntax, notation, axiom, sorry.
-/
import Derived.Test.YtlkeeckhileedaaDoorRows
import GoSem.ClaimSeven
namespace Go.Proofs.YtlkeeckhileedaaDoor
namespace Rows

/-- THE TIED CARD OF 'whitewashlaw08.TreapTells'. -/
def treapTellsCard : Claim7 := { stood := { row := treapTellsRow, standIns := [], harness := (true, "02db22dd618034a0cc35a6382ec79665fa77639194cbaab5b60dbb1f7b9d2bf5"), looks := false }, kinds := [], alts := [], laidByText := true, laidKinds := [.data], laidTests := true, laidLooks := .later }
def TreapTellsCardSaid : Prop := Claim7.holds Tryd.pinned (.plain (OpenSpec.ofChange treapTellsSpec)) treapTellsCard

/-- THE TIED CARD OF 'whitewashlaw08.TreapOne'. -/
def treapOneCard : Claim7 := { stood := { row := treapOneRow, standIns := [], harness := (true, "02db22dd618034a0cc35a6382ec79665fa77639194cbaab5b60dbb1f7b9d2bf5"), looks := false }, kinds := [], alts := [], laidByText := true, laidKinds := [.data], laidTests := true, laidLooks := .later }
def TreapOneCardSaid : Prop := Claim7.holds Tryd.pinned (.plain (OpenSpec.ofChange treapOneSpec)) treapOneCard

/-- THE TIED CARD OF 'whitewashlaw08.TreapFinds'. -/
def treapFindsCard : Claim7 := { stood := { row := treapFindsRow, standIns := [], harness := (true, "02db22dd618034a0cc35a6382ec79665fa77639194cbaab5b60dbb1f7b9d2bf5"), looks := false }, kinds := [], alts := [], laidByText := true, laidKinds := [.data], laidTests := true, laidLooks := .later }
def TreapFindsCardSaid : Prop := Claim7.holds Tryd.pinned (.plain (OpenSpec.ofChange treapFindsSpec)) treapFindsCard

/-- THE TIED CARD OF 'whitewashlaw08.TreapParts'. -/
def treapPartsCard : Claim7 := { stood := { row := treapPartsRow, standIns := [], harness := (true, "02db22dd618034a0cc35a6382ec79665fa77639194cbaab5b60dbb1f7b9d2bf5"), looks := false }, kinds := [], alts := [], laidByText := true, laidKinds := [.data], laidTests := true, laidLooks := .later }
def TreapPartsCardSaid : Prop := Claim7.holds Tryd.pinned (.plain (OpenSpec.ofChange treapPartsSpec)) treapPartsCard

/-- THE TIED CARD OF 'whitewashlaw08.TreapPuts'. -/
def treapPutsCard : Claim7 := { stood := { row := treapPutsRow, standIns := [], harness := (true, "02db22dd618034a0cc35a6382ec79665fa77639194cbaab5b60dbb1f7b9d2bf5"), looks := false }, kinds := [], alts := [], laidByText := true, laidKinds := [.data], laidTests := true, laidLooks := .later }
def TreapPutsCardSaid : Prop := Claim7.holds Tryd.pinned (.plain (OpenSpec.ofChange treapPutsSpec)) treapPutsCard

/-- THE SECOND FORM's CARD OF 'whitewashlaw08.TreapTells'. -/
def treapTellsUptoCard : Claim7 := { stood := { row := treapTellsUptoRow, standIns := [], harness := (true, "02db22dd618034a0cc35a6382ec79665fa77639194cbaab5b60dbb1f7b9d2bf5"), looks := false }, kinds := [], alts := [], laidByText := true, laidKinds := [.data], laidTests := true, laidLooks := .later }
def TreapTellsUptoCardSaid : Prop := Claim7.holds Tryd.pinned (.plain (OpenSpec.upto treapTellsSpec)) treapTellsUptoCard

/-- THE SECOND FORM's CARD OF 'whitewashlaw08.TreapOne'. -/
def treapOneUptoCard : Claim7 := { stood := { row := treapOneUptoRow, standIns := [], harness := (true, "02db22dd618034a0cc35a6382ec79665fa77639194cbaab5b60dbb1f7b9d2bf5"), looks := false }, kinds := [], alts := [], laidByText := true, laidKinds := [.data], laidTests := true, laidLooks := .later }
def TreapOneUptoCardSaid : Prop := Claim7.holds Tryd.pinned (.plain (OpenSpec.upto treapOneSpec)) treapOneUptoCard

/-- THE SECOND FORM's CARD OF 'whitewashlaw08.TreapFinds'. -/
def treapFindsUptoCard : Claim7 := { stood := { row := treapFindsUptoRow, standIns := [], harness := (true, "02db22dd618034a0cc35a6382ec79665fa77639194cbaab5b60dbb1f7b9d2bf5"), looks := false }, kinds := [], alts := [], laidByText := true, laidKinds := [.data], laidTests := true, laidLooks := .later }
def TreapFindsUptoCardSaid : Prop := Claim7.holds Tryd.pinned (.plain (OpenSpec.upto treapFindsSpec)) treapFindsUptoCard

/-- THE SECOND FORM's CARD OF 'whitewashlaw08.TreapParts'. -/
def treapPartsUptoCard : Claim7 := { stood := { row := treapPartsUptoRow, standIns := [], harness := (true, "02db22dd618034a0cc35a6382ec79665fa77639194cbaab5b60dbb1f7b9d2bf5"), looks := false }, kinds := [], alts := [], laidByText := true, laidKinds := [.data], laidTests := true, laidLooks := .later }
def TreapPartsUptoCardSaid : Prop := Claim7.holds Tryd.pinned (.plain (OpenSpec.upto treapPartsSpec)) treapPartsUptoCard

/-- THE SECOND FORM's CARD OF 'whitewashlaw08.TreapPuts'. -/
def treapPutsUptoCard : Claim7 := { stood := { row := treapPutsUptoRow, standIns := [], harness := (true, "02db22dd618034a0cc35a6382ec79665fa77639194cbaab5b60dbb1f7b9d2bf5"), looks := false }, kinds := [], alts := [], laidByText := true, laidKinds := [.data], laidTests := true, laidLooks := .later }
def TreapPutsUptoCardSaid : Prop := Claim7.holds Tryd.pinned (.plain (OpenSpec.upto treapPutsSpec)) treapPutsUptoCard
end Rows
end Go.Proofs.YtlkeeckhileedaaDoor
