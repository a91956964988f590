/-
  DERIVED. GIVEN WITH THE SEED: THE CARDS: each row of YtbpaekbjpapgeaaGreatDoorRows.lean that lists a variable, with what it lists TIED to the program's text (the seventh form; the later family's looks); each row that meets fmt, with fmt's text TOLD by the authors' own Lean function (tested against real Go, not proved from fmt's source: count such statements apart). THE CARD IS WHAT COUNTS. Prove the row's statement (the work); the ties are given (YtbpaekbjpapgeaaGreatDoorTie.lean); close each card by the builder's one call (the guide's Derived/Test/ToyasCard.lean, 'card_holds'). Laid BY PROGRAM, IN A SANDBOX (cutbox-door.mjs). By AI agents, Wed Nov 11 2026. No macro, syntax, notation, axiom, sorry.
-/
import Derived.Test.YtbpaekbjpapgeaaGreatDoorRows
import GoSem.ClaimSeven
namespace Go.Proofs.YtbpaekbjpapgeaaGreatDoor
namespace Rows

/-- THE TIED CARD OF 'whitewashlaw18.ProcTells'. -/
def procTellsCard : Claim7 := { stood := { row := procTellsRow, standIns := [], harness := (true, "bfee92c4ae7ec97d8153c638fd5624fff29b53fa04e11f5e8749d2b8460716c6"), looks := true }, kinds := [], alts := [], laidByText := true, laidKinds := [.data, .data], laidTests := true, laidLooks := .later }
def ProcTellsCardSaid : Prop := Claim7.holds Tryz.pinned (.plain (OpenSpec.ofChange procTellsSpec)) procTellsCard

/-- THE TIED CARD OF 'whitewashlaw18.ProcOne'. -/
def procOneCard : Claim7 := { stood := { row := procOneRow, standIns := [], harness := (true, "bfee92c4ae7ec97d8153c638fd5624fff29b53fa04e11f5e8749d2b8460716c6"), looks := true }, kinds := [], alts := [], laidByText := true, laidKinds := [.data, .data], laidTests := true, laidLooks := .later }
def ProcOneCardSaid : Prop := Claim7.holds Tryz.pinned (.plain (OpenSpec.ofChange procOneSpec)) procOneCard

/-- THE TIED CARD OF 'whitewashlaw18.ProcWhere'. -/
def procWhereCard : Claim7 := { stood := { row := procWhereRow, standIns := [], harness := (true, "bfee92c4ae7ec97d8153c638fd5624fff29b53fa04e11f5e8749d2b8460716c6"), looks := true }, kinds := [], alts := [], laidByText := true, laidKinds := [.data, .data], laidTests := true, laidLooks := .later }
def ProcWhereCardSaid : Prop := Claim7.holds Tryz.pinned (.plain (OpenSpec.ofChange procWhereSpec)) procWhereCard

/-- THE TIED CARD OF 'whitewashlaw18.ProcAsks'. -/
def procAsksCard : Claim7 := { stood := { row := procAsksRow, standIns := [], harness := (true, "bfee92c4ae7ec97d8153c638fd5624fff29b53fa04e11f5e8749d2b8460716c6"), looks := true }, kinds := [], alts := [], laidByText := true, laidKinds := [.data, .data], laidTests := true, laidLooks := .later }
def ProcAsksCardSaid : Prop := Claim7.holds Tryz.pinned (.plain (OpenSpec.ofChange procAsksSpec)) procAsksCard

/-- THE TIED CARD OF 'whitewashlaw18.ProcEnds'. -/
def procEndsCard : Claim7 := { stood := { row := procEndsRow, standIns := [], harness := (true, "bfee92c4ae7ec97d8153c638fd5624fff29b53fa04e11f5e8749d2b8460716c6"), looks := true }, kinds := [], alts := [], laidByText := true, laidKinds := [.data, .data], laidTests := true, laidLooks := .later }
def ProcEndsCardSaid : Prop := Claim7.holds Tryz.pinned (.plain (OpenSpec.ofChange procEndsSpec)) procEndsCard

/-- THE TIED CARD OF 'whitewashlaw18.ProcSolo'. -/
def procSoloCard : Claim7 := { stood := { row := procSoloRow, standIns := [], harness := (true, "bfee92c4ae7ec97d8153c638fd5624fff29b53fa04e11f5e8749d2b8460716c6"), looks := true }, kinds := [], alts := [], laidByText := true, laidKinds := [.data, .data], laidTests := true, laidLooks := .later }
def ProcSoloCardSaid : Prop := Claim7.holds Tryz.pinned (.plain (OpenSpec.ofChange procSoloSpec)) procSoloCard

/-- THE SECOND FORM's CARD OF 'whitewashlaw18.ProcTells'. -/
def procTellsUptoCard : Claim7 := { stood := { row := procTellsUptoRow, standIns := [], harness := (true, "bfee92c4ae7ec97d8153c638fd5624fff29b53fa04e11f5e8749d2b8460716c6"), looks := true }, kinds := [], alts := [], laidByText := true, laidKinds := [.data, .data], laidTests := true, laidLooks := .later }
def ProcTellsUptoCardSaid : Prop := Claim7.holds Tryz.pinned (.plain (OpenSpec.upto procTellsSpec)) procTellsUptoCard

/-- THE SECOND FORM's CARD OF 'whitewashlaw18.ProcOne'. -/
def procOneUptoCard : Claim7 := { stood := { row := procOneUptoRow, standIns := [], harness := (true, "bfee92c4ae7ec97d8153c638fd5624fff29b53fa04e11f5e8749d2b8460716c6"), looks := true }, kinds := [], alts := [], laidByText := true, laidKinds := [.data, .data], laidTests := true, laidLooks := .later }
def ProcOneUptoCardSaid : Prop := Claim7.holds Tryz.pinned (.plain (OpenSpec.upto procOneSpec)) procOneUptoCard

/-- THE SECOND FORM's CARD OF 'whitewashlaw18.ProcWhere'. -/
def procWhereUptoCard : Claim7 := { stood := { row := procWhereUptoRow, standIns := [], harness := (true, "bfee92c4ae7ec97d8153c638fd5624fff29b53fa04e11f5e8749d2b8460716c6"), looks := true }, kinds := [], alts := [], laidByText := true, laidKinds := [.data, .data], laidTests := true, laidLooks := .later }
def ProcWhereUptoCardSaid : Prop := Claim7.holds Tryz.pinned (.plain (OpenSpec.upto procWhereSpec)) procWhereUptoCard

/-- THE SECOND FORM's CARD OF 'whitewashlaw18.ProcAsks'. -/
def procAsksUptoCard : Claim7 := { stood := { row := procAsksUptoRow, standIns := [], harness := (true, "bfee92c4ae7ec97d8153c638fd5624fff29b53fa04e11f5e8749d2b8460716c6"), looks := true }, kinds := [], alts := [], laidByText := true, laidKinds := [.data, .data], laidTests := true, laidLooks := .later }
def ProcAsksUptoCardSaid : Prop := Claim7.holds Tryz.pinned (.plain (OpenSpec.upto procAsksSpec)) procAsksUptoCard

/-- THE SECOND FORM's CARD OF 'whitewashlaw18.ProcEnds'. -/
def procEndsUptoCard : Claim7 := { stood := { row := procEndsUptoRow, standIns := [], harness := (true, "bfee92c4ae7ec97d8153c638fd5624fff29b53fa04e11f5e8749d2b8460716c6"), looks := true }, kinds := [], alts := [], laidByText := true, laidKinds := [.data, .data], laidTests := true, laidLooks := .later }
def ProcEndsUptoCardSaid : Prop := Claim7.holds Tryz.pinned (.plain (OpenSpec.upto procEndsSpec)) procEndsUptoCard

/-- THE SECOND FORM's CARD OF 'whitewashlaw18.ProcSolo'. -/
def procSoloUptoCard : Claim7 := { stood := { row := procSoloUptoRow, standIns := [], harness := (true, "bfee92c4ae7ec97d8153c638fd5624fff29b53fa04e11f5e8749d2b8460716c6"), looks := true }, kinds := [], alts := [], laidByText := true, laidKinds := [.data, .data], laidTests := true, laidLooks := .later }
def ProcSoloUptoCardSaid : Prop := Claim7.holds Tryz.pinned (.plain (OpenSpec.upto procSoloSpec)) procSoloUptoCard
end Rows
end Go.Proofs.YtbpaekbjpapgeaaGreatDoor
