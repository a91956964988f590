/-
  DERIVED. GIVEN WITH THE SEED: THE CARDS: each row of YtfhiplfagejfoaaDoorRows.lean that lists a variable, with what it lists TIED to the program's text (the seventh form; the later family's looks); each row that meets fmt, with fmt's text TOLD by the authors' own Lean function (tested against real Go, not proved from fmt's source: count such statements apart). THE CARD IS WHAT COUNTS. Prove the row's statement (the work); the ties are given (YtfhiplfagejfoaaDoorTie.lean); close each card by the builder's one call (the guide's Derived/Test/ToyasCard.lean, 'card_holds'). Laid BY PROGRAM, IN A SANDBOX (cutbox-door.mjs). By AI agents, Wed Nov 11 2026. No macro, syntax, notation, axiom, sorry.
-/
import Derived.Test.YtfhiplfagejfoaaDoorRows
import GoSem.ClaimSeven
namespace Go.Proofs.YtfhiplfagejfoaaDoor
namespace Rows

/-- THE TIED CARD OF 'whitewashlaw16.WlogTells'. -/
def wlogTellsCard : Claim7 := { stood := { row := wlogTellsRow, standIns := [], harness := (true, "9d2a389fb524ac074fba297d15c35fa474c14e0355a7c27ce8628f10df0e135d"), looks := true }, kinds := [], alts := [], laidByText := true, laidKinds := [.data], laidTests := true, laidLooks := .later }
def WlogTellsCardSaid : Prop := Claim7.holds Tryd.pinned (.plain (OpenSpec.ofChange wlogTellsSpec)) wlogTellsCard

/-- THE TIED CARD OF 'whitewashlaw16.WlogBack'. -/
def wlogBackCard : Claim7 := { stood := { row := wlogBackRow, standIns := [], harness := (true, "9d2a389fb524ac074fba297d15c35fa474c14e0355a7c27ce8628f10df0e135d"), looks := true }, kinds := [], alts := [], laidByText := true, laidKinds := [.data], laidTests := true, laidLooks := .later }
def WlogBackCardSaid : Prop := Claim7.holds Tryd.pinned (.plain (OpenSpec.ofChange wlogBackSpec)) wlogBackCard

/-- THE TIED CARD OF 'whitewashlaw16.WlogTwice'. -/
def wlogTwiceCard : Claim7 := { stood := { row := wlogTwiceRow, standIns := [], harness := (true, "9d2a389fb524ac074fba297d15c35fa474c14e0355a7c27ce8628f10df0e135d"), looks := true }, kinds := [], alts := [], laidByText := true, laidKinds := [.data], laidTests := true, laidLooks := .later }
def WlogTwiceCardSaid : Prop := Claim7.holds Tryd.pinned (.plain (OpenSpec.ofChange wlogTwiceSpec)) wlogTwiceCard

/-- THE TIED CARD OF 'whitewashlaw16.WlogWipes'. -/
def wlogWipesCard : Claim7 := { stood := { row := wlogWipesRow, standIns := [], harness := (true, "9d2a389fb524ac074fba297d15c35fa474c14e0355a7c27ce8628f10df0e135d"), looks := true }, kinds := [], alts := [], laidByText := true, laidKinds := [.data], laidTests := true, laidLooks := .later }
def WlogWipesCardSaid : Prop := Claim7.holds Tryd.pinned (.plain (OpenSpec.ofChange wlogWipesSpec)) wlogWipesCard

/-- THE TIED CARD OF 'whitewashlaw16.WlogHome'. -/
def wlogHomeCard : Claim7 := { stood := { row := wlogHomeRow, standIns := [], harness := (true, "9d2a389fb524ac074fba297d15c35fa474c14e0355a7c27ce8628f10df0e135d"), looks := true }, kinds := [], alts := [], laidByText := true, laidKinds := [.data], laidTests := true, laidLooks := .later }
def WlogHomeCardSaid : Prop := Claim7.holds Tryd.pinned (.plain (OpenSpec.ofChange wlogHomeSpec)) wlogHomeCard

/-- THE SECOND FORM's CARD OF 'whitewashlaw16.WlogTells'. -/
def wlogTellsUptoCard : Claim7 := { stood := { row := wlogTellsUptoRow, standIns := [], harness := (true, "9d2a389fb524ac074fba297d15c35fa474c14e0355a7c27ce8628f10df0e135d"), looks := true }, kinds := [], alts := [], laidByText := true, laidKinds := [.data], laidTests := true, laidLooks := .later }
def WlogTellsUptoCardSaid : Prop := Claim7.holds Tryd.pinned (.plain (OpenSpec.upto wlogTellsSpec)) wlogTellsUptoCard

/-- THE SECOND FORM's CARD OF 'whitewashlaw16.WlogBack'. -/
def wlogBackUptoCard : Claim7 := { stood := { row := wlogBackUptoRow, standIns := [], harness := (true, "9d2a389fb524ac074fba297d15c35fa474c14e0355a7c27ce8628f10df0e135d"), looks := true }, kinds := [], alts := [], laidByText := true, laidKinds := [.data], laidTests := true, laidLooks := .later }
def WlogBackUptoCardSaid : Prop := Claim7.holds Tryd.pinned (.plain (OpenSpec.upto wlogBackSpec)) wlogBackUptoCard

/-- THE SECOND FORM's CARD OF 'whitewashlaw16.WlogTwice'. -/
def wlogTwiceUptoCard : Claim7 := { stood := { row := wlogTwiceUptoRow, standIns := [], harness := (true, "9d2a389fb524ac074fba297d15c35fa474c14e0355a7c27ce8628f10df0e135d"), looks := true }, kinds := [], alts := [], laidByText := true, laidKinds := [.data], laidTests := true, laidLooks := .later }
def WlogTwiceUptoCardSaid : Prop := Claim7.holds Tryd.pinned (.plain (OpenSpec.upto wlogTwiceSpec)) wlogTwiceUptoCard

/-- THE SECOND FORM's CARD OF 'whitewashlaw16.WlogWipes'. -/
def wlogWipesUptoCard : Claim7 := { stood := { row := wlogWipesUptoRow, standIns := [], harness := (true, "9d2a389fb524ac074fba297d15c35fa474c14e0355a7c27ce8628f10df0e135d"), looks := true }, kinds := [], alts := [], laidByText := true, laidKinds := [.data], laidTests := true, laidLooks := .later }
def WlogWipesUptoCardSaid : Prop := Claim7.holds Tryd.pinned (.plain (OpenSpec.upto wlogWipesSpec)) wlogWipesUptoCard

/-- THE SECOND FORM's CARD OF 'whitewashlaw16.WlogHome'. -/
def wlogHomeUptoCard : Claim7 := { stood := { row := wlogHomeUptoRow, standIns := [], harness := (true, "9d2a389fb524ac074fba297d15c35fa474c14e0355a7c27ce8628f10df0e135d"), looks := true }, kinds := [], alts := [], laidByText := true, laidKinds := [.data], laidTests := true, laidLooks := .later }
def WlogHomeUptoCardSaid : Prop := Claim7.holds Tryd.pinned (.plain (OpenSpec.upto wlogHomeSpec)) wlogHomeUptoCard
end Rows
end Go.Proofs.YtfhiplfagejfoaaDoor
