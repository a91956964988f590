/-
  DERIVED. GIVEN WITH THE SEED: THE CARDS: each row of YtjeaeongfniafaaDoorRows.lean that lists a variable, with what it lists TIED to the program's text (the seventh form; the later family's looks); each row that meets fmt, with fmt's text TOLD by the authors' own Lean function (tested against real Go, not proved from fmt's source: count such statements apart). THE CARD IS WHAT COUNTS. Prove the row's statement (the work); the ties are given (YtjeaeongfniafaaDoorTie.lean); close each card by the builder's one call (the guide's Derived/Test/ToyasCard.lean, 'card_holds'). Laid BY PROGRAM, IN A SANDBOX (cutbox-door.mjs). By AI agents, Wed Nov 11 2026. No macro, syntax, notation, axiom, sorry.
-/
import Derived.Test.YtjeaeongfniafaaDoorRows
import GoSem.ClaimSeven
namespace Go.Proofs.YtjeaeongfniafaaDoor
namespace Rows

/-- THE TIED CARD OF 'whitewashlaw02.MixTells'. -/
def mixTellsCard : Claim7 := { stood := { row := mixTellsRow, standIns := [], harness := (true, "3a57adb6afdb05a2d90619db9b84120dfd901d509265d232ec0da77fd7a353b2"), looks := false }, kinds := [], alts := [], laidByText := true, laidKinds := [.data, .data], laidTests := true, laidLooks := .later }
def MixTellsCardSaid : Prop := Claim7.holds Tryd.pinned (.plain (OpenSpec.ofChange mixTellsSpec)) mixTellsCard

/-- THE TIED CARD OF 'whitewashlaw02.MixBack'. -/
def mixBackCard : Claim7 := { stood := { row := mixBackRow, standIns := [], harness := (true, "3a57adb6afdb05a2d90619db9b84120dfd901d509265d232ec0da77fd7a353b2"), looks := false }, kinds := [], alts := [], laidByText := true, laidKinds := [.data, .data], laidTests := true, laidLooks := .later }
def MixBackCardSaid : Prop := Claim7.holds Tryd.pinned (.plain (OpenSpec.ofChange mixBackSpec)) mixBackCard

/-- THE TIED CARD OF 'whitewashlaw02.MixOrder'. -/
def mixOrderCard : Claim7 := { stood := { row := mixOrderRow, standIns := [], harness := (true, "3a57adb6afdb05a2d90619db9b84120dfd901d509265d232ec0da77fd7a353b2"), looks := false }, kinds := [], alts := [], laidByText := true, laidKinds := [.data, .data], laidTests := true, laidLooks := .later }
def MixOrderCardSaid : Prop := Claim7.holds Tryd.pinned (.plain (OpenSpec.ofChange mixOrderSpec)) mixOrderCard

/-- THE TIED CARD OF 'whitewashlaw02.MixSlots'. -/
def mixSlotsCard : Claim7 := { stood := { row := mixSlotsRow, standIns := [], harness := (true, "3a57adb6afdb05a2d90619db9b84120dfd901d509265d232ec0da77fd7a353b2"), looks := false }, kinds := [], alts := [], laidByText := true, laidKinds := [.data, .data], laidTests := true, laidLooks := .later }
def MixSlotsCardSaid : Prop := Claim7.holds Tryd.pinned (.plain (OpenSpec.ofChange mixSlotsSpec)) mixSlotsCard

/-- THE SECOND FORM's CARD OF 'whitewashlaw02.MixTells'. -/
def mixTellsUptoCard : Claim7 := { stood := { row := mixTellsUptoRow, standIns := [], harness := (true, "3a57adb6afdb05a2d90619db9b84120dfd901d509265d232ec0da77fd7a353b2"), looks := false }, kinds := [], alts := [], laidByText := true, laidKinds := [.data, .data], laidTests := true, laidLooks := .later }
def MixTellsUptoCardSaid : Prop := Claim7.holds Tryd.pinned (.plain (OpenSpec.upto mixTellsSpec)) mixTellsUptoCard

/-- THE SECOND FORM's CARD OF 'whitewashlaw02.MixBack'. -/
def mixBackUptoCard : Claim7 := { stood := { row := mixBackUptoRow, standIns := [], harness := (true, "3a57adb6afdb05a2d90619db9b84120dfd901d509265d232ec0da77fd7a353b2"), looks := false }, kinds := [], alts := [], laidByText := true, laidKinds := [.data, .data], laidTests := true, laidLooks := .later }
def MixBackUptoCardSaid : Prop := Claim7.holds Tryd.pinned (.plain (OpenSpec.upto mixBackSpec)) mixBackUptoCard

/-- THE SECOND FORM's CARD OF 'whitewashlaw02.MixOrder'. -/
def mixOrderUptoCard : Claim7 := { stood := { row := mixOrderUptoRow, standIns := [], harness := (true, "3a57adb6afdb05a2d90619db9b84120dfd901d509265d232ec0da77fd7a353b2"), looks := false }, kinds := [], alts := [], laidByText := true, laidKinds := [.data, .data], laidTests := true, laidLooks := .later }
def MixOrderUptoCardSaid : Prop := Claim7.holds Tryd.pinned (.plain (OpenSpec.upto mixOrderSpec)) mixOrderUptoCard

/-- THE SECOND FORM's CARD OF 'whitewashlaw02.MixSlots'. -/
def mixSlotsUptoCard : Claim7 := { stood := { row := mixSlotsUptoRow, standIns := [], harness := (true, "3a57adb6afdb05a2d90619db9b84120dfd901d509265d232ec0da77fd7a353b2"), looks := false }, kinds := [], alts := [], laidByText := true, laidKinds := [.data, .data], laidTests := true, laidLooks := .later }
def MixSlotsUptoCardSaid : Prop := Claim7.holds Tryd.pinned (.plain (OpenSpec.upto mixSlotsSpec)) mixSlotsUptoCard
end Rows
end Go.Proofs.YtjeaeongfniafaaDoor
