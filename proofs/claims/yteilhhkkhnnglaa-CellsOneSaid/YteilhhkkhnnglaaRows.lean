/-
  No cell of these rows narrows 'for every input' (looked for: loops, veiled, ifaces, maps, wideKeys, modest, calm, conditions, laid).
  DERIVED. THE GIVEN ROWS OF THIS SEAT. 5 by the template 'for every input the law returns true; each argument reads behind the call as it read before'; 0 by the template 'total and deterministic' (their statements: YteilhhkkhnnglaaTotals.lean).
  GIVEN WITH THE SEED: the statements are not yours to turn. If you find one false, say at which input.
  Laid BY PROGRAM, IN A SANDBOX (cutbox-rows.mjs): the forced cells as the released guide's own fill.sh prints them over the translation 81ca3c2178d0ddaf… (all of the seat's roots in one cut). By AI agents, Wed Nov 11 2026. No macro, syntax, notation, axiom, sorry.
-/
import Derived.Test.YteilhhkkhnnglaaChecked
import GoSem.Claim
import GoSem.ClaimJoined
import GoSem.ClaimMapViews
import Derived.JoinedTies
import Derived.KernelRfl
namespace Go.Proofs.Yteilhhkkhnnglaa
/- THE CELL 'sum', in the pinned program and in every row, IS THE sha256 OF THE DUMP (.gsa) THAT YteilhhkkhnnglaaProg.lean LOADS. Nothing in Lean hashes anything: it is a label: what it is worth is what the hold of that sum in a sandbox is worth. -/
noncomputable def Try.pinned : Pinned := { name := "yteilhhkkhnnglaa", sum := "81ca3c2178d0ddaf62f87f3840bc67449022083d6194d74578cf10f0ab8c94fc", checked := Try.checked }
namespace Rows
def none {H : Type} : Left H := { results := [], args := [] }

/-- 'whitewashlaw03.CellsTells': WHATEVER THE INPUT: true; the input reads as it did. -/
def cellsTellsSpec : ChangeSpec := { name := "cellsTells", fn := fun _ => fun
  | [d1, d2, d3, d4, d5, d6, d7] => { results := [.lit (.bool true)], args := [d1, d2, d3, d4, d5, d6, d7] }
  | _ => none }
def cellsTellsRow : OpenClaim := { program := "yteilhhkkhnnglaa", sum := "81ca3c2178d0ddaf62f87f3840bc67449022083d6194d74578cf10f0ab8c94fc", func := "whitewash/whitewashlaw03.CellsTells", spec := "cellsTells", apart := false }
def CellsTellsSaid : Prop := cellsTellsRow.holds Try.pinned (OpenSpec.ofChange cellsTellsSpec)

/-- ITS FALSE NEIGHBOUR: 'it returns false'. Refute it at one input. -/
def cellsTellsWrong : ChangeSpec := { name := "cellsTells", fn := fun _ => fun
  | [d1, d2, d3, d4, d5, d6, d7] => { results := [.lit (.bool false)], args := [d1, d2, d3, d4, d5, d6, d7] }
  | _ => none }
def CellsTellsWrongFalsely : Prop := cellsTellsRow.holds Try.pinned (OpenSpec.ofChange cellsTellsWrong)

/-- 'whitewashlaw03.CellsOne': WHATEVER THE INPUT: true; the input reads as it did. -/
def cellsOneSpec : ChangeSpec := { name := "cellsOne", fn := fun _ => fun
  | [d] => { results := [.lit (.bool true)], args := [d] }
  | _ => none }
def cellsOneRow : OpenClaim := { program := "yteilhhkkhnnglaa", sum := "81ca3c2178d0ddaf62f87f3840bc67449022083d6194d74578cf10f0ab8c94fc", func := "whitewash/whitewashlaw03.CellsOne", spec := "cellsOne", apart := false }
def CellsOneSaid : Prop := cellsOneRow.holds Try.pinned (OpenSpec.ofChange cellsOneSpec)

/-- ITS FALSE NEIGHBOUR: 'it returns false'. Refute it at one input. -/
def cellsOneWrong : ChangeSpec := { name := "cellsOne", fn := fun _ => fun
  | [d] => { results := [.lit (.bool false)], args := [d] }
  | _ => none }
def CellsOneWrongFalsely : Prop := cellsOneRow.holds Try.pinned (OpenSpec.ofChange cellsOneWrong)

/-- 'whitewashlaw03.CellsAlone': WHATEVER THE INPUT: true; the input reads as it did. -/
def cellsAloneSpec : ChangeSpec := { name := "cellsAlone", fn := fun _ => fun
  | [d1, d2, d3, d4, d5] => { results := [.lit (.bool true)], args := [d1, d2, d3, d4, d5] }
  | _ => none }
def cellsAloneRow : OpenClaim := { program := "yteilhhkkhnnglaa", sum := "81ca3c2178d0ddaf62f87f3840bc67449022083d6194d74578cf10f0ab8c94fc", func := "whitewash/whitewashlaw03.CellsAlone", spec := "cellsAlone", apart := false }
def CellsAloneSaid : Prop := cellsAloneRow.holds Try.pinned (OpenSpec.ofChange cellsAloneSpec)

/-- ITS FALSE NEIGHBOUR: 'it returns false'. Refute it at one input. -/
def cellsAloneWrong : ChangeSpec := { name := "cellsAlone", fn := fun _ => fun
  | [d1, d2, d3, d4, d5] => { results := [.lit (.bool false)], args := [d1, d2, d3, d4, d5] }
  | _ => none }
def CellsAloneWrongFalsely : Prop := cellsAloneRow.holds Try.pinned (OpenSpec.ofChange cellsAloneWrong)

/-- 'whitewashlaw03.CellsApart': WHATEVER THE INPUT: true; the input reads as it did. -/
def cellsApartSpec : ChangeSpec := { name := "cellsApart", fn := fun _ => fun
  | [d1, d2, d3] => { results := [.lit (.bool true)], args := [d1, d2, d3] }
  | _ => none }
def cellsApartRow : OpenClaim := { program := "yteilhhkkhnnglaa", sum := "81ca3c2178d0ddaf62f87f3840bc67449022083d6194d74578cf10f0ab8c94fc", func := "whitewash/whitewashlaw03.CellsApart", spec := "cellsApart", apart := false }
def CellsApartSaid : Prop := cellsApartRow.holds Try.pinned (OpenSpec.ofChange cellsApartSpec)

/-- ITS FALSE NEIGHBOUR: 'it returns false'. Refute it at one input. -/
def cellsApartWrong : ChangeSpec := { name := "cellsApart", fn := fun _ => fun
  | [d1, d2, d3] => { results := [.lit (.bool false)], args := [d1, d2, d3] }
  | _ => none }
def CellsApartWrongFalsely : Prop := cellsApartRow.holds Try.pinned (OpenSpec.ofChange cellsApartWrong)

/-- 'whitewashlaw03.CellsFresh': WHATEVER THE INPUT: true; the input reads as it did. -/
def cellsFreshSpec : ChangeSpec := { name := "cellsFresh", fn := fun _ => fun
  | [d1, d2, d3, d4, d5] => { results := [.lit (.bool true)], args := [d1, d2, d3, d4, d5] }
  | _ => none }
def cellsFreshRow : OpenClaim := { program := "yteilhhkkhnnglaa", sum := "81ca3c2178d0ddaf62f87f3840bc67449022083d6194d74578cf10f0ab8c94fc", func := "whitewash/whitewashlaw03.CellsFresh", spec := "cellsFresh", apart := false }
def CellsFreshSaid : Prop := cellsFreshRow.holds Try.pinned (OpenSpec.ofChange cellsFreshSpec)

/-- ITS FALSE NEIGHBOUR: 'it returns false'. Refute it at one input. -/
def cellsFreshWrong : ChangeSpec := { name := "cellsFresh", fn := fun _ => fun
  | [d1, d2, d3, d4, d5] => { results := [.lit (.bool false)], args := [d1, d2, d3, d4, d5] }
  | _ => none }
def CellsFreshWrongFalsely : Prop := cellsFreshRow.holds Try.pinned (OpenSpec.ofChange cellsFreshWrong)

/- THE SECOND FORM. 'bulk': how many values and letters a reading holds, each counted each time it is reached (what is shared counts as often as it is met; a slice's spare places count too). A statement '..UptoSaid' is the law's where the arguments, and the package variables that the reading takes, are together of bulk at most 1048576: NARROWER than '..Said'. Prove '..Said' where nothing that the law and all that it calls make is longer than what came in: it says more and counts as full. Else prove '..UptoSaid'. A law counts once. -/
mutual
def uptoBulk {H : Type} : DataW H → Nat
  | .lit (.string bytes) => bytes.length + 1
  | .lit _ => 1
  | .nil => 1
  | .ptr d => uptoBulk d + 1
  | .slice elems spare => uptoBulkAll elems + uptoBulkAll spare + 1
  | .agg parts => uptoBulkAll parts + 1
  | .iface _ d => uptoBulk d + 1
  | .map entries => uptoBulkEntries entries + 1
  | .held _ => 1
def uptoBulkAll {H : Type} : List (DataW H) → Nat
  | [] => 0
  | d :: r => uptoBulk d + uptoBulkAll r
def uptoBulkEntries {H : Type} : List (Lit × DataW H) → Nat
  | [] => 0
  | x :: r => uptoBulkEntry x + uptoBulkEntries r
def uptoBulkEntry {H : Type} : Lit × DataW H → Nat
  | (.string bytes, d) => bytes.length + uptoBulk d + 1
  | (_, d) => uptoBulk d + 1
 end
def uptoSmall : (H : Type) → List (DataW H) → Bool := fun _ ds => decide (uptoBulkAll ds ≤ 1048576)
def OpenSpec.upto (s : _root_.Go.ChangeSpec) : _root_.Go.OpenSpec := { _root_.Go.OpenSpec.ofChange s with cond := some uptoSmall }

/-- 'whitewashlaw03.CellsTells', WHERE WHAT IT READS IS OF BULK AT MOST 1048576: true; the input reads as it did. -/
def cellsTellsUptoRow : OpenClaim := { program := "yteilhhkkhnnglaa", sum := "81ca3c2178d0ddaf62f87f3840bc67449022083d6194d74578cf10f0ab8c94fc", func := "whitewash/whitewashlaw03.CellsTells", spec := "cellsTells", apart := false, narrowed := true }
def CellsTellsUptoSaid : Prop := cellsTellsUptoRow.holds Try.pinned (OpenSpec.upto cellsTellsSpec)

/-- 'whitewashlaw03.CellsOne', WHERE WHAT IT READS IS OF BULK AT MOST 1048576: true; the input reads as it did. -/
def cellsOneUptoRow : OpenClaim := { program := "yteilhhkkhnnglaa", sum := "81ca3c2178d0ddaf62f87f3840bc67449022083d6194d74578cf10f0ab8c94fc", func := "whitewash/whitewashlaw03.CellsOne", spec := "cellsOne", apart := false, narrowed := true }
def CellsOneUptoSaid : Prop := cellsOneUptoRow.holds Try.pinned (OpenSpec.upto cellsOneSpec)

/-- 'whitewashlaw03.CellsAlone', WHERE WHAT IT READS IS OF BULK AT MOST 1048576: true; the input reads as it did. -/
def cellsAloneUptoRow : OpenClaim := { program := "yteilhhkkhnnglaa", sum := "81ca3c2178d0ddaf62f87f3840bc67449022083d6194d74578cf10f0ab8c94fc", func := "whitewash/whitewashlaw03.CellsAlone", spec := "cellsAlone", apart := false, narrowed := true }
def CellsAloneUptoSaid : Prop := cellsAloneUptoRow.holds Try.pinned (OpenSpec.upto cellsAloneSpec)

/-- 'whitewashlaw03.CellsApart', WHERE WHAT IT READS IS OF BULK AT MOST 1048576: true; the input reads as it did. -/
def cellsApartUptoRow : OpenClaim := { program := "yteilhhkkhnnglaa", sum := "81ca3c2178d0ddaf62f87f3840bc67449022083d6194d74578cf10f0ab8c94fc", func := "whitewash/whitewashlaw03.CellsApart", spec := "cellsApart", apart := false, narrowed := true }
def CellsApartUptoSaid : Prop := cellsApartUptoRow.holds Try.pinned (OpenSpec.upto cellsApartSpec)

/-- 'whitewashlaw03.CellsFresh', WHERE WHAT IT READS IS OF BULK AT MOST 1048576: true; the input reads as it did. -/
def cellsFreshUptoRow : OpenClaim := { program := "yteilhhkkhnnglaa", sum := "81ca3c2178d0ddaf62f87f3840bc67449022083d6194d74578cf10f0ab8c94fc", func := "whitewash/whitewashlaw03.CellsFresh", spec := "cellsFresh", apart := false, narrowed := true }
def CellsFreshUptoSaid : Prop := cellsFreshUptoRow.holds Try.pinned (OpenSpec.upto cellsFreshSpec)

end Rows
end Go.Proofs.Yteilhhkkhnnglaa
