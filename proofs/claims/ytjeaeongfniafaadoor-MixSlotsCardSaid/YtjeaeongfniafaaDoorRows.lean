/-
  NARROWER THAN 'FOR EVERY INPUT', by the rows' own cells (each row's printed sentence says how): MixTells: laid · MixBack: laid · MixOrder: laid · MixSlots: laid.
  DERIVED. THE GIVEN ROWS OF THIS SEAT. 4 by the template 'for every input the law returns true; each argument reads behind the call as it read before'; 0 by the template 'total and deterministic' (their statements: YtjeaeongfniafaaDoorTotals.lean).
  GIVEN WITH THE SEED: the statements are not yours to turn. If you find one false, say at which input.
  Laid BY PROGRAM, IN A SANDBOX (cutbox-rows.mjs): the forced cells as the released guide's own fill.sh prints them over the translation 230ff1b3a4489dcc… (all of the seat's roots in one cut). By AI agents, Wed Nov 11 2026. No macro, syntax, notation, axiom, sorry.
-/
import Derived.Test.YtjeaeongfniafaaDoorChecked
import GoSem.Claim
import GoSem.ClaimJoined
import GoSem.ClaimMapViews
import Derived.JoinedTies
import Derived.KernelRfl
namespace Go.Proofs.YtjeaeongfniafaaDoor
/- THE CELL 'sum', in the pinned program and in every row, IS THE sha256 OF THE DUMP (.gsa) THAT YtjeaeongfniafaaDoorProg.lean LOADS. Nothing in Lean hashes anything: it is a label: what it is worth is what the hold of that sum in a sandbox is worth. -/
noncomputable def Tryd.pinned : Pinned := { name := "ytjeaeongfniafaadoor", sum := "230ff1b3a4489dcc15b841b610865b4ac4fe88e73d54c42c4ccc886d331c72da", checked := Tryd.checked }
namespace Rows
def none {H : Type} : Left H := { results := [], args := [] }

/- WHAT THE LISTED PACKAGE-LEVEL VARIABLES READ AS WHEN THE CALL BEGINS. Each datum BY PROGRAM (the guide's laid-datum.mjs) off the statement by which the dump's own 'gosem.cut.vars' lays the variable. In a bare row this is a premise. The card (YtjeaeongfniafaaDoorCards.lean) ties it to the program's text. -/
def laid_whitewash_mix_there {H : Type} : DataW H := .agg [.agg [.lit (.int .u64 30), .lit (.int .u64 13787848793156543929)], .agg [.lit (.int .u64 27), .lit (.int .u64 10723151780598845931)], .agg [.lit (.int .u64 31), .lit (.int .u64 1)]]
def laid_whitewash_mix_back {H : Type} : DataW H := .agg [.agg [.lit (.int .u64 31), .lit (.int .u64 3573116690164977347)], .agg [.lit (.int .u64 27), .lit (.int .u64 10871156337175269513)], .agg [.lit (.int .u64 30), .lit (.int .u64 1)]]

/-- 'whitewashlaw02.MixTells': WHATEVER THE INPUT: true; the input reads as it did. -/
def mixTellsSpec : ChangeSpec := { name := "mixTells", fn := fun _ => fun
  | [d1, d2, d3] => { results := [.lit (.bool true)], args := [d1, d2, d3] }
  | _ => none }
def mixTellsRow : OpenClaim := { program := "ytjeaeongfniafaadoor", sum := "230ff1b3a4489dcc15b841b610865b4ac4fe88e73d54c42c4ccc886d331c72da", func := "whitewash/whitewashlaw02.MixTells", spec := "mixTells", named := ["whitewash/mix.there", "whitewash/mix.back"], apart := false, laid := [("whitewash/mix.there", laid_whitewash_mix_there), ("whitewash/mix.back", laid_whitewash_mix_back)] }
def MixTellsSaid : Prop := mixTellsRow.holds Tryd.pinned (OpenSpec.ofChange mixTellsSpec)

/-- ITS FALSE NEIGHBOUR: 'it returns false'. Refute it at one input. -/
def mixTellsWrong : ChangeSpec := { name := "mixTells", fn := fun _ => fun
  | [d1, d2, d3] => { results := [.lit (.bool false)], args := [d1, d2, d3] }
  | _ => none }
def MixTellsWrongFalsely : Prop := mixTellsRow.holds Tryd.pinned (OpenSpec.ofChange mixTellsWrong)

/-- 'whitewashlaw02.MixBack': WHATEVER THE INPUT: true; the input reads as it did. -/
def mixBackSpec : ChangeSpec := { name := "mixBack", fn := fun _ => fun
  | [d1, d2] => { results := [.lit (.bool true)], args := [d1, d2] }
  | _ => none }
def mixBackRow : OpenClaim := { program := "ytjeaeongfniafaadoor", sum := "230ff1b3a4489dcc15b841b610865b4ac4fe88e73d54c42c4ccc886d331c72da", func := "whitewash/whitewashlaw02.MixBack", spec := "mixBack", named := ["whitewash/mix.there", "whitewash/mix.back"], apart := false, laid := [("whitewash/mix.there", laid_whitewash_mix_there), ("whitewash/mix.back", laid_whitewash_mix_back)] }
def MixBackSaid : Prop := mixBackRow.holds Tryd.pinned (OpenSpec.ofChange mixBackSpec)

/-- ITS FALSE NEIGHBOUR: 'it returns false'. Refute it at one input. -/
def mixBackWrong : ChangeSpec := { name := "mixBack", fn := fun _ => fun
  | [d1, d2] => { results := [.lit (.bool false)], args := [d1, d2] }
  | _ => none }
def MixBackWrongFalsely : Prop := mixBackRow.holds Tryd.pinned (OpenSpec.ofChange mixBackWrong)

/-- 'whitewashlaw02.MixOrder': WHATEVER THE INPUT: true; the input reads as it did. -/
def mixOrderSpec : ChangeSpec := { name := "mixOrder", fn := fun _ => fun
  | [d1, d2, d3, d4] => { results := [.lit (.bool true)], args := [d1, d2, d3, d4] }
  | _ => none }
def mixOrderRow : OpenClaim := { program := "ytjeaeongfniafaadoor", sum := "230ff1b3a4489dcc15b841b610865b4ac4fe88e73d54c42c4ccc886d331c72da", func := "whitewash/whitewashlaw02.MixOrder", spec := "mixOrder", named := ["whitewash/mix.there", "whitewash/mix.back"], apart := false, laid := [("whitewash/mix.there", laid_whitewash_mix_there), ("whitewash/mix.back", laid_whitewash_mix_back)] }
def MixOrderSaid : Prop := mixOrderRow.holds Tryd.pinned (OpenSpec.ofChange mixOrderSpec)

/-- ITS FALSE NEIGHBOUR: 'it returns false'. Refute it at one input. -/
def mixOrderWrong : ChangeSpec := { name := "mixOrder", fn := fun _ => fun
  | [d1, d2, d3, d4] => { results := [.lit (.bool false)], args := [d1, d2, d3, d4] }
  | _ => none }
def MixOrderWrongFalsely : Prop := mixOrderRow.holds Tryd.pinned (OpenSpec.ofChange mixOrderWrong)

/-- 'whitewashlaw02.MixSlots': WHATEVER THE INPUT: true; the input reads as it did. -/
def mixSlotsSpec : ChangeSpec := { name := "mixSlots", fn := fun _ => fun
  | [d1, d2] => { results := [.lit (.bool true)], args := [d1, d2] }
  | _ => none }
def mixSlotsRow : OpenClaim := { program := "ytjeaeongfniafaadoor", sum := "230ff1b3a4489dcc15b841b610865b4ac4fe88e73d54c42c4ccc886d331c72da", func := "whitewash/whitewashlaw02.MixSlots", spec := "mixSlots", named := ["whitewash/mix.there", "whitewash/mix.back"], apart := false, laid := [("whitewash/mix.there", laid_whitewash_mix_there), ("whitewash/mix.back", laid_whitewash_mix_back)] }
def MixSlotsSaid : Prop := mixSlotsRow.holds Tryd.pinned (OpenSpec.ofChange mixSlotsSpec)

/-- ITS FALSE NEIGHBOUR: 'it returns false'. Refute it at one input. -/
def mixSlotsWrong : ChangeSpec := { name := "mixSlots", fn := fun _ => fun
  | [d1, d2] => { results := [.lit (.bool false)], args := [d1, d2] }
  | _ => none }
def MixSlotsWrongFalsely : Prop := mixSlotsRow.holds Tryd.pinned (OpenSpec.ofChange mixSlotsWrong)

/- THE SECOND FORM. 'bulk': how many values and letters a reading holds, each counted each time it is reached (what is shared counts as often as it is met; a slice's spare places count too). A statement '..UptoSaid' is the law's where the arguments, and the package variables that the reading takes, are together of bulk at most 1048576: NARROWER than '..Said'. Prove '..Said' where nothing that the law and all that it calls make is longer than what came in: it says more and counts as full. Else prove '..UptoSaid'. A law counts once. -/
mutual
def uptoBulk {H : Type} : DataW H → Nat
  | .lit (.string bytes) => bytes.length + 1
  | .lit _ => 1
  | .nil => 1
  | .ptr d => uptoBulk d + 1
  | .slice elems spare => uptoBulkAll elems + uptoBulkAll spare + 1
  | .agg parts => uptoBulkAll parts + 1
  | .iface _ d => uptoBulk d + 1
  | .map entries => uptoBulkEntries entries + 1
  | .held _ => 1
def uptoBulkAll {H : Type} : List (DataW H) → Nat
  | [] => 0
  | d :: r => uptoBulk d + uptoBulkAll r
def uptoBulkEntries {H : Type} : List (Lit × DataW H) → Nat
  | [] => 0
  | x :: r => uptoBulkEntry x + uptoBulkEntries r
def uptoBulkEntry {H : Type} : Lit × DataW H → Nat
  | (.string bytes, d) => bytes.length + uptoBulk d + 1
  | (_, d) => uptoBulk d + 1
 end
def uptoSmall : (H : Type) → List (DataW H) → Bool := fun _ ds => decide (uptoBulkAll ds ≤ 1048576)
def OpenSpec.upto (s : _root_.Go.ChangeSpec) : _root_.Go.OpenSpec := { _root_.Go.OpenSpec.ofChange s with cond := some uptoSmall }

/-- 'whitewashlaw02.MixTells', WHERE WHAT IT READS IS OF BULK AT MOST 1048576: true; the input reads as it did. -/
def mixTellsUptoRow : OpenClaim := { program := "ytjeaeongfniafaadoor", sum := "230ff1b3a4489dcc15b841b610865b4ac4fe88e73d54c42c4ccc886d331c72da", func := "whitewash/whitewashlaw02.MixTells", spec := "mixTells", named := ["whitewash/mix.there", "whitewash/mix.back"], apart := false, laid := [("whitewash/mix.there", laid_whitewash_mix_there), ("whitewash/mix.back", laid_whitewash_mix_back)], narrowed := true }
def MixTellsUptoSaid : Prop := mixTellsUptoRow.holds Tryd.pinned (OpenSpec.upto mixTellsSpec)

/-- 'whitewashlaw02.MixBack', WHERE WHAT IT READS IS OF BULK AT MOST 1048576: true; the input reads as it did. -/
def mixBackUptoRow : OpenClaim := { program := "ytjeaeongfniafaadoor", sum := "230ff1b3a4489dcc15b841b610865b4ac4fe88e73d54c42c4ccc886d331c72da", func := "whitewash/whitewashlaw02.MixBack", spec := "mixBack", named := ["whitewash/mix.there", "whitewash/mix.back"], apart := false, laid := [("whitewash/mix.there", laid_whitewash_mix_there), ("whitewash/mix.back", laid_whitewash_mix_back)], narrowed := true }
def MixBackUptoSaid : Prop := mixBackUptoRow.holds Tryd.pinned (OpenSpec.upto mixBackSpec)

/-- 'whitewashlaw02.MixOrder', WHERE WHAT IT READS IS OF BULK AT MOST 1048576: true; the input reads as it did. -/
def mixOrderUptoRow : OpenClaim := { program := "ytjeaeongfniafaadoor", sum := "230ff1b3a4489dcc15b841b610865b4ac4fe88e73d54c42c4ccc886d331c72da", func := "whitewash/whitewashlaw02.MixOrder", spec := "mixOrder", named := ["whitewash/mix.there", "whitewash/mix.back"], apart := false, laid := [("whitewash/mix.there", laid_whitewash_mix_there), ("whitewash/mix.back", laid_whitewash_mix_back)], narrowed := true }
def MixOrderUptoSaid : Prop := mixOrderUptoRow.holds Tryd.pinned (OpenSpec.upto mixOrderSpec)

/-- 'whitewashlaw02.MixSlots', WHERE WHAT IT READS IS OF BULK AT MOST 1048576: true; the input reads as it did. -/
def mixSlotsUptoRow : OpenClaim := { program := "ytjeaeongfniafaadoor", sum := "230ff1b3a4489dcc15b841b610865b4ac4fe88e73d54c42c4ccc886d331c72da", func := "whitewash/whitewashlaw02.MixSlots", spec := "mixSlots", named := ["whitewash/mix.there", "whitewash/mix.back"], apart := false, laid := [("whitewash/mix.there", laid_whitewash_mix_there), ("whitewash/mix.back", laid_whitewash_mix_back)], narrowed := true }
def MixSlotsUptoSaid : Prop := mixSlotsUptoRow.holds Tryd.pinned (OpenSpec.upto mixSlotsSpec)

end Rows
end Go.Proofs.YtjeaeongfniafaaDoor
