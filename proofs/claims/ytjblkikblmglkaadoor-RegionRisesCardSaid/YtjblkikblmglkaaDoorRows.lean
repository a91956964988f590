/-
  NARROWER THAN 'FOR EVERY INPUT', by the rows' own cells (each row's printed sentence says how): RegionParts: laid · RegionRises: laid.
  DERIVED. THE GIVEN ROWS OF THIS SEAT. 2 by the template 'for every input the law returns true; each argument reads behind the call as it read before'; 0 by the template 'total and deterministic' (their statements: YtjblkikblmglkaaDoorTotals.lean).
  GIVEN WITH THE SEED: the statements are not yours to turn. If you find one false, say at which input.
  Laid BY PROGRAM, IN A SANDBOX (cutbox-rows.mjs): the forced cells as the released guide's own fill.sh prints them over the translation 0bfe39526fc7f4f4… (all of the seat's roots in one cut). By AI agents, Wed Nov 11 2026. No macro, syntax, notation, axiom, sorry.
-/
import Derived.Test.YtjblkikblmglkaaDoorChecked
import GoSem.Claim
import GoSem.ClaimJoined
import GoSem.ClaimMapViews
import Derived.JoinedTies
import Derived.KernelRfl
namespace Go.Proofs.YtjblkikblmglkaaDoor
/- THE CELL 'sum', in the pinned program and in every row, IS THE sha256 OF THE DUMP (.gsa) THAT YtjblkikblmglkaaDoorProg.lean LOADS. Nothing in Lean hashes anything: it is a label: what it is worth is what the hold of that sum in a sandbox is worth. -/
noncomputable def Tryd.pinned : Pinned := { name := "ytjblkikblmglkaadoor", sum := "0bfe39526fc7f4f46ca297d45e3d4e35b9cd7831d49a2e239b8ab8098ffb8d1f", checked := Tryd.checked }
namespace Rows
def none {H : Type} : Left H := { results := [], args := [] }

/- WHAT THE LISTED PACKAGE-LEVEL VARIABLES READ AS WHEN THE CALL BEGINS. Each datum BY PROGRAM (the guide's laid-datum.mjs) off the statement by which the dump's own 'gosem.cut.vars' lays the variable. In a bare row this is a premise. The card (YtjblkikblmglkaaDoorCards.lean) ties it to the program's text. -/
def laid_whitewash_region_objects {H : Type} : DataW H := .agg [.agg [.lit (.int .i64 0), .lit (.int .i64 0)], .agg [.lit (.int .i64 1), .lit (.int .i64 0)], .agg [.lit (.int .i64 1), .lit (.int .i64 2)], .agg [.lit (.int .i64 1), .lit (.int .i64 4)], .agg [.lit (.int .i64 2), .lit (.int .i64 4)], .agg [.lit (.int .i64 9), .lit (.int .i64 1)]]

/-- 'whitewashlaw04.RegionParts': WHATEVER THE INPUT: true; the input reads as it did. -/
def regionPartsSpec : ChangeSpec := { name := "regionParts", fn := fun _ => fun
  | [d1, d2] => { results := [.lit (.bool true)], args := [d1, d2] }
  | _ => none }
def regionPartsRow : OpenClaim := { program := "ytjblkikblmglkaadoor", sum := "0bfe39526fc7f4f46ca297d45e3d4e35b9cd7831d49a2e239b8ab8098ffb8d1f", func := "whitewash/whitewashlaw04.RegionParts", spec := "regionParts", unfollowed := true, recurses := true, named := ["whitewash/region.objects"], apart := false, laid := [("whitewash/region.objects", laid_whitewash_region_objects)] }
def RegionPartsSaid : Prop := regionPartsRow.holds Tryd.pinned (OpenSpec.ofChange regionPartsSpec)

/-- ITS FALSE NEIGHBOUR: 'it returns false'. Refute it at one input. -/
def regionPartsWrong : ChangeSpec := { name := "regionParts", fn := fun _ => fun
  | [d1, d2] => { results := [.lit (.bool false)], args := [d1, d2] }
  | _ => none }
def RegionPartsWrongFalsely : Prop := regionPartsRow.holds Tryd.pinned (OpenSpec.ofChange regionPartsWrong)

/-- 'whitewashlaw04.RegionRises': WHATEVER THE INPUT: true; the input reads as it did. -/
def regionRisesSpec : ChangeSpec := { name := "regionRises", fn := fun _ => fun
  | [d] => { results := [.lit (.bool true)], args := [d] }
  | _ => none }
def regionRisesRow : OpenClaim := { program := "ytjblkikblmglkaadoor", sum := "0bfe39526fc7f4f46ca297d45e3d4e35b9cd7831d49a2e239b8ab8098ffb8d1f", func := "whitewash/whitewashlaw04.RegionRises", spec := "regionRises", unfollowed := true, recurses := true, named := ["whitewash/region.objects"], apart := false, laid := [("whitewash/region.objects", laid_whitewash_region_objects)] }
def RegionRisesSaid : Prop := regionRisesRow.holds Tryd.pinned (OpenSpec.ofChange regionRisesSpec)

/-- ITS FALSE NEIGHBOUR: 'it returns false'. Refute it at one input. -/
def regionRisesWrong : ChangeSpec := { name := "regionRises", fn := fun _ => fun
  | [d] => { results := [.lit (.bool false)], args := [d] }
  | _ => none }
def RegionRisesWrongFalsely : Prop := regionRisesRow.holds Tryd.pinned (OpenSpec.ofChange regionRisesWrong)

/- THE SECOND FORM. 'bulk': how many values and letters a reading holds, each counted each time it is reached (what is shared counts as often as it is met; a slice's spare places count too). A statement '..UptoSaid' is the law's where the arguments, and the package variables that the reading takes, are together of bulk at most 1048576: NARROWER than '..Said'. Prove '..Said' where nothing that the law and all that it calls make is longer than what came in: it says more and counts as full. Else prove '..UptoSaid'. A law counts once. -/
mutual
def uptoBulk {H : Type} : DataW H → Nat
  | .lit (.string bytes) => bytes.length + 1
  | .lit _ => 1
  | .nil => 1
  | .ptr d => uptoBulk d + 1
  | .slice elems spare => uptoBulkAll elems + uptoBulkAll spare + 1
  | .agg parts => uptoBulkAll parts + 1
  | .iface _ d => uptoBulk d + 1
  | .map entries => uptoBulkEntries entries + 1
  | .held _ => 1
def uptoBulkAll {H : Type} : List (DataW H) → Nat
  | [] => 0
  | d :: r => uptoBulk d + uptoBulkAll r
def uptoBulkEntries {H : Type} : List (Lit × DataW H) → Nat
  | [] => 0
  | x :: r => uptoBulkEntry x + uptoBulkEntries r
def uptoBulkEntry {H : Type} : Lit × DataW H → Nat
  | (.string bytes, d) => bytes.length + uptoBulk d + 1
  | (_, d) => uptoBulk d + 1
 end
def uptoSmall : (H : Type) → List (DataW H) → Bool := fun _ ds => decide (uptoBulkAll ds ≤ 1048576)
def OpenSpec.upto (s : _root_.Go.ChangeSpec) : _root_.Go.OpenSpec := { _root_.Go.OpenSpec.ofChange s with cond := some uptoSmall }

/-- 'whitewashlaw04.RegionParts', WHERE WHAT IT READS IS OF BULK AT MOST 1048576: true; the input reads as it did. -/
def regionPartsUptoRow : OpenClaim := { program := "ytjblkikblmglkaadoor", sum := "0bfe39526fc7f4f46ca297d45e3d4e35b9cd7831d49a2e239b8ab8098ffb8d1f", func := "whitewash/whitewashlaw04.RegionParts", spec := "regionParts", unfollowed := true, recurses := true, named := ["whitewash/region.objects"], apart := false, laid := [("whitewash/region.objects", laid_whitewash_region_objects)], narrowed := true }
def RegionPartsUptoSaid : Prop := regionPartsUptoRow.holds Tryd.pinned (OpenSpec.upto regionPartsSpec)

/-- 'whitewashlaw04.RegionRises', WHERE WHAT IT READS IS OF BULK AT MOST 1048576: true; the input reads as it did. -/
def regionRisesUptoRow : OpenClaim := { program := "ytjblkikblmglkaadoor", sum := "0bfe39526fc7f4f46ca297d45e3d4e35b9cd7831d49a2e239b8ab8098ffb8d1f", func := "whitewash/whitewashlaw04.RegionRises", spec := "regionRises", unfollowed := true, recurses := true, named := ["whitewash/region.objects"], apart := false, laid := [("whitewash/region.objects", laid_whitewash_region_objects)], narrowed := true }
def RegionRisesUptoSaid : Prop := regionRisesUptoRow.holds Tryd.pinned (OpenSpec.upto regionRisesSpec)

end Rows
end Go.Proofs.YtjblkikblmglkaaDoor
