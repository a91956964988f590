/-
  NARROWER THAN 'FOR EVERY INPUT', by the rows' own cells (each row's printed sentence says how): ProcTells: laid · ProcOne: laid · ProcWhere: laid · ProcAsks: laid · ProcEnds: laid · ProcSolo: laid.
  DERIVED. THE GIVEN ROWS OF THIS SEAT. 6 by the template 'for every input the law returns true; each argument reads behind the call as it read before'; 0 by the template 'total and deterministic' (their statements: YtbpaekbjpapgeaaGreatDoorTotals.lean).
  GIVEN WITH THE SEED: the statements are not yours to turn. If you find one false, say at which input.
  Laid BY PROGRAM, IN A SANDBOX (cutbox-rows.mjs): the forced cells as the released guide's own fill.sh prints them over the translation 8548359a0c476420… (all of the seat's roots in one cut). By AI agents, Wed Nov 11 2026. No macro, syntax, notation, axiom, sorry.
-/
import Derived.Test.YtbpaekbjpapgeaaGreatDoorChecked
import GoSem.Claim
import GoSem.ClaimJoined
import GoSem.ClaimMapViews
import Derived.JoinedTies
import Derived.KernelRfl
namespace Go.Proofs.YtbpaekbjpapgeaaGreatDoor
/- THE CELL 'sum', in the pinned program and in every row, IS THE sha256 OF THE DUMP (.gsa) THAT YtbpaekbjpapgeaaGreatDoorProg.lean LOADS. Nothing in Lean hashes anything: it is a label: what it is worth is what the hold of that sum in a sandbox is worth. -/
noncomputable def Tryz.pinned : Pinned := { name := "ytbpaekbjpapgeaagreatdoor", sum := "8548359a0c476420e73cfcb59426b512de51a3b985abc16993bac9525a665468", checked := Tryz.checked }
namespace Rows
def none {H : Type} : Left H := { results := [], args := [] }

/- WHAT THE LISTED PACKAGE-LEVEL VARIABLES READ AS WHEN THE CALL BEGINS. Each datum BY PROGRAM (the guide's laid-datum.mjs) off the statement by which the dump's own 'gosem.cut.vars' lays the variable. In a bare row this is a premise. The card (YtbpaekbjpapgeaaGreatDoorCards.lean) ties it to the program's text. -/
def laid_whitewash_mix_there {H : Type} : DataW H := .agg [.agg [.lit (.int .u64 30), .lit (.int .u64 13787848793156543929)], .agg [.lit (.int .u64 27), .lit (.int .u64 10723151780598845931)], .agg [.lit (.int .u64 31), .lit (.int .u64 1)]]
def laid_whitewash_region_objects {H : Type} : DataW H := .agg [.agg [.lit (.int .i64 0), .lit (.int .i64 0)], .agg [.lit (.int .i64 1), .lit (.int .i64 0)], .agg [.lit (.int .i64 1), .lit (.int .i64 2)], .agg [.lit (.int .i64 1), .lit (.int .i64 4)], .agg [.lit (.int .i64 2), .lit (.int .i64 4)], .agg [.lit (.int .i64 9), .lit (.int .i64 1)]]

/-- 'whitewashlaw18.ProcTells': WHATEVER THE INPUT: true; the input reads as it did. -/
def procTellsSpec : ChangeSpec := { name := "procTells", fn := fun _ => fun
  | [d1, d2, d3, d4, d5, d6, d7, d8, d9] => { results := [.lit (.bool true)], args := [d1, d2, d3, d4, d5, d6, d7, d8, d9] }
  | _ => none }
def procTellsRow : OpenClaim := { program := "ytbpaekbjpapgeaagreatdoor", sum := "8548359a0c476420e73cfcb59426b512de51a3b985abc16993bac9525a665468", func := "whitewash/whitewashlaw18.ProcTells", spec := "procTells", inPlace := ["math.Float64frombits", "math.Float64bits", "slices.overlaps[whitewash/order.entry]"], unfollowed := true, recurses := true, named := ["whitewash/region.objects", "whitewash/mix.there"], apart := false, laid := [("whitewash/mix.there", laid_whitewash_mix_there), ("whitewash/region.objects", laid_whitewash_region_objects)] }
def ProcTellsSaid : Prop := procTellsRow.holds Tryz.pinned (OpenSpec.ofChange procTellsSpec)

/-- ITS FALSE NEIGHBOUR: 'it returns false'. Refute it at one input. -/
def procTellsWrong : ChangeSpec := { name := "procTells", fn := fun _ => fun
  | [d1, d2, d3, d4, d5, d6, d7, d8, d9] => { results := [.lit (.bool false)], args := [d1, d2, d3, d4, d5, d6, d7, d8, d9] }
  | _ => none }
def ProcTellsWrongFalsely : Prop := procTellsRow.holds Tryz.pinned (OpenSpec.ofChange procTellsWrong)

/-- 'whitewashlaw18.ProcOne': WHATEVER THE INPUT: true; the input reads as it did. -/
def procOneSpec : ChangeSpec := { name := "procOne", fn := fun _ => fun
  | [d1, d2, d3, d4, d5] => { results := [.lit (.bool true)], args := [d1, d2, d3, d4, d5] }
  | _ => none }
def procOneRow : OpenClaim := { program := "ytbpaekbjpapgeaagreatdoor", sum := "8548359a0c476420e73cfcb59426b512de51a3b985abc16993bac9525a665468", func := "whitewash/whitewashlaw18.ProcOne", spec := "procOne", inPlace := ["math.Float64frombits", "math.Float64bits", "slices.overlaps[whitewash/order.entry]"], unfollowed := true, recurses := true, named := ["whitewash/region.objects", "whitewash/mix.there"], apart := false, laid := [("whitewash/mix.there", laid_whitewash_mix_there), ("whitewash/region.objects", laid_whitewash_region_objects)] }
def ProcOneSaid : Prop := procOneRow.holds Tryz.pinned (OpenSpec.ofChange procOneSpec)

/-- ITS FALSE NEIGHBOUR: 'it returns false'. Refute it at one input. -/
def procOneWrong : ChangeSpec := { name := "procOne", fn := fun _ => fun
  | [d1, d2, d3, d4, d5] => { results := [.lit (.bool false)], args := [d1, d2, d3, d4, d5] }
  | _ => none }
def ProcOneWrongFalsely : Prop := procOneRow.holds Tryz.pinned (OpenSpec.ofChange procOneWrong)

/-- 'whitewashlaw18.ProcWhere': WHATEVER THE INPUT: true; the input reads as it did. -/
def procWhereSpec : ChangeSpec := { name := "procWhere", fn := fun _ => fun
  | [d1, d2, d3, d4, d5] => { results := [.lit (.bool true)], args := [d1, d2, d3, d4, d5] }
  | _ => none }
def procWhereRow : OpenClaim := { program := "ytbpaekbjpapgeaagreatdoor", sum := "8548359a0c476420e73cfcb59426b512de51a3b985abc16993bac9525a665468", func := "whitewash/whitewashlaw18.ProcWhere", spec := "procWhere", inPlace := ["math.Float64frombits", "math.Float64bits", "slices.overlaps[whitewash/order.entry]"], unfollowed := true, recurses := true, named := ["whitewash/region.objects", "whitewash/mix.there"], apart := false, laid := [("whitewash/mix.there", laid_whitewash_mix_there), ("whitewash/region.objects", laid_whitewash_region_objects)] }
def ProcWhereSaid : Prop := procWhereRow.holds Tryz.pinned (OpenSpec.ofChange procWhereSpec)

/-- ITS FALSE NEIGHBOUR: 'it returns false'. Refute it at one input. -/
def procWhereWrong : ChangeSpec := { name := "procWhere", fn := fun _ => fun
  | [d1, d2, d3, d4, d5] => { results := [.lit (.bool false)], args := [d1, d2, d3, d4, d5] }
  | _ => none }
def ProcWhereWrongFalsely : Prop := procWhereRow.holds Tryz.pinned (OpenSpec.ofChange procWhereWrong)

/-- 'whitewashlaw18.ProcAsks': WHATEVER THE INPUT: true; the input reads as it did. -/
def procAsksSpec : ChangeSpec := { name := "procAsks", fn := fun _ => fun
  | [d1, d2, d3, d4, d5] => { results := [.lit (.bool true)], args := [d1, d2, d3, d4, d5] }
  | _ => none }
def procAsksRow : OpenClaim := { program := "ytbpaekbjpapgeaagreatdoor", sum := "8548359a0c476420e73cfcb59426b512de51a3b985abc16993bac9525a665468", func := "whitewash/whitewashlaw18.ProcAsks", spec := "procAsks", inPlace := ["math.Float64frombits", "math.Float64bits", "slices.overlaps[whitewash/order.entry]"], unfollowed := true, recurses := true, named := ["whitewash/region.objects", "whitewash/mix.there"], apart := false, laid := [("whitewash/mix.there", laid_whitewash_mix_there), ("whitewash/region.objects", laid_whitewash_region_objects)] }
def ProcAsksSaid : Prop := procAsksRow.holds Tryz.pinned (OpenSpec.ofChange procAsksSpec)

/-- ITS FALSE NEIGHBOUR: 'it returns false'. Refute it at one input. -/
def procAsksWrong : ChangeSpec := { name := "procAsks", fn := fun _ => fun
  | [d1, d2, d3, d4, d5] => { results := [.lit (.bool false)], args := [d1, d2, d3, d4, d5] }
  | _ => none }
def ProcAsksWrongFalsely : Prop := procAsksRow.holds Tryz.pinned (OpenSpec.ofChange procAsksWrong)

/-- 'whitewashlaw18.ProcEnds': WHATEVER THE INPUT: true; the input reads as it did. -/
def procEndsSpec : ChangeSpec := { name := "procEnds", fn := fun _ => fun
  | [d1, d2, d3, d4, d5] => { results := [.lit (.bool true)], args := [d1, d2, d3, d4, d5] }
  | _ => none }
def procEndsRow : OpenClaim := { program := "ytbpaekbjpapgeaagreatdoor", sum := "8548359a0c476420e73cfcb59426b512de51a3b985abc16993bac9525a665468", func := "whitewash/whitewashlaw18.ProcEnds", spec := "procEnds", inPlace := ["math.Float64frombits", "math.Float64bits", "slices.overlaps[whitewash/order.entry]"], unfollowed := true, recurses := true, named := ["whitewash/region.objects", "whitewash/mix.there"], apart := false, laid := [("whitewash/mix.there", laid_whitewash_mix_there), ("whitewash/region.objects", laid_whitewash_region_objects)] }
def ProcEndsSaid : Prop := procEndsRow.holds Tryz.pinned (OpenSpec.ofChange procEndsSpec)

/-- ITS FALSE NEIGHBOUR: 'it returns false'. Refute it at one input. -/
def procEndsWrong : ChangeSpec := { name := "procEnds", fn := fun _ => fun
  | [d1, d2, d3, d4, d5] => { results := [.lit (.bool false)], args := [d1, d2, d3, d4, d5] }
  | _ => none }
def ProcEndsWrongFalsely : Prop := procEndsRow.holds Tryz.pinned (OpenSpec.ofChange procEndsWrong)

/-- 'whitewashlaw18.ProcSolo': WHATEVER THE INPUT: true; the input reads as it did. -/
def procSoloSpec : ChangeSpec := { name := "procSolo", fn := fun _ => fun
  | [d1, d2, d3, d4] => { results := [.lit (.bool true)], args := [d1, d2, d3, d4] }
  | _ => none }
def procSoloRow : OpenClaim := { program := "ytbpaekbjpapgeaagreatdoor", sum := "8548359a0c476420e73cfcb59426b512de51a3b985abc16993bac9525a665468", func := "whitewash/whitewashlaw18.ProcSolo", spec := "procSolo", inPlace := ["math.Float64frombits", "math.Float64bits", "slices.overlaps[whitewash/order.entry]"], unfollowed := true, recurses := true, named := ["whitewash/region.objects", "whitewash/mix.there"], apart := false, laid := [("whitewash/mix.there", laid_whitewash_mix_there), ("whitewash/region.objects", laid_whitewash_region_objects)] }
def ProcSoloSaid : Prop := procSoloRow.holds Tryz.pinned (OpenSpec.ofChange procSoloSpec)

/-- ITS FALSE NEIGHBOUR: 'it returns false'. Refute it at one input. -/
def procSoloWrong : ChangeSpec := { name := "procSolo", fn := fun _ => fun
  | [d1, d2, d3, d4] => { results := [.lit (.bool false)], args := [d1, d2, d3, d4] }
  | _ => none }
def ProcSoloWrongFalsely : Prop := procSoloRow.holds Tryz.pinned (OpenSpec.ofChange procSoloWrong)

/- THE SECOND FORM. 'bulk': how many values and letters a reading holds, each counted each time it is reached (what is shared counts as often as it is met; a slice's spare places count too). A statement '..UptoSaid' is the law's where the arguments, and the package variables that the reading takes, are together of bulk at most 1048576: NARROWER than '..Said'. Prove '..Said' where nothing that the law and all that it calls make is longer than what came in: it says more and counts as full. Else prove '..UptoSaid'. A law counts once. -/
mutual
def uptoBulk {H : Type} : DataW H → Nat
  | .lit (.string bytes) => bytes.length + 1
  | .lit _ => 1
  | .nil => 1
  | .ptr d => uptoBulk d + 1
  | .slice elems spare => uptoBulkAll elems + uptoBulkAll spare + 1
  | .agg parts => uptoBulkAll parts + 1
  | .iface _ d => uptoBulk d + 1
  | .map entries => uptoBulkEntries entries + 1
  | .held _ => 1
def uptoBulkAll {H : Type} : List (DataW H) → Nat
  | [] => 0
  | d :: r => uptoBulk d + uptoBulkAll r
def uptoBulkEntries {H : Type} : List (Lit × DataW H) → Nat
  | [] => 0
  | x :: r => uptoBulkEntry x + uptoBulkEntries r
def uptoBulkEntry {H : Type} : Lit × DataW H → Nat
  | (.string bytes, d) => bytes.length + uptoBulk d + 1
  | (_, d) => uptoBulk d + 1
 end
def uptoSmall : (H : Type) → List (DataW H) → Bool := fun _ ds => decide (uptoBulkAll ds ≤ 1048576)
def OpenSpec.upto (s : _root_.Go.ChangeSpec) : _root_.Go.OpenSpec := { _root_.Go.OpenSpec.ofChange s with cond := some uptoSmall }

/-- 'whitewashlaw18.ProcTells', WHERE WHAT IT READS IS OF BULK AT MOST 1048576: true; the input reads as it did. -/
def procTellsUptoRow : OpenClaim := { program := "ytbpaekbjpapgeaagreatdoor", sum := "8548359a0c476420e73cfcb59426b512de51a3b985abc16993bac9525a665468", func := "whitewash/whitewashlaw18.ProcTells", spec := "procTells", inPlace := ["math.Float64frombits", "math.Float64bits", "slices.overlaps[whitewash/order.entry]"], unfollowed := true, recurses := true, named := ["whitewash/region.objects", "whitewash/mix.there"], apart := false, laid := [("whitewash/mix.there", laid_whitewash_mix_there), ("whitewash/region.objects", laid_whitewash_region_objects)], narrowed := true }
def ProcTellsUptoSaid : Prop := procTellsUptoRow.holds Tryz.pinned (OpenSpec.upto procTellsSpec)

/-- 'whitewashlaw18.ProcOne', WHERE WHAT IT READS IS OF BULK AT MOST 1048576: true; the input reads as it did. -/
def procOneUptoRow : OpenClaim := { program := "ytbpaekbjpapgeaagreatdoor", sum := "8548359a0c476420e73cfcb59426b512de51a3b985abc16993bac9525a665468", func := "whitewash/whitewashlaw18.ProcOne", spec := "procOne", inPlace := ["math.Float64frombits", "math.Float64bits", "slices.overlaps[whitewash/order.entry]"], unfollowed := true, recurses := true, named := ["whitewash/region.objects", "whitewash/mix.there"], apart := false, laid := [("whitewash/mix.there", laid_whitewash_mix_there), ("whitewash/region.objects", laid_whitewash_region_objects)], narrowed := true }
def ProcOneUptoSaid : Prop := procOneUptoRow.holds Tryz.pinned (OpenSpec.upto procOneSpec)

/-- 'whitewashlaw18.ProcWhere', WHERE WHAT IT READS IS OF BULK AT MOST 1048576: true; the input reads as it did. -/
def procWhereUptoRow : OpenClaim := { program := "ytbpaekbjpapgeaagreatdoor", sum := "8548359a0c476420e73cfcb59426b512de51a3b985abc16993bac9525a665468", func := "whitewash/whitewashlaw18.ProcWhere", spec := "procWhere", inPlace := ["math.Float64frombits", "math.Float64bits", "slices.overlaps[whitewash/order.entry]"], unfollowed := true, recurses := true, named := ["whitewash/region.objects", "whitewash/mix.there"], apart := false, laid := [("whitewash/mix.there", laid_whitewash_mix_there), ("whitewash/region.objects", laid_whitewash_region_objects)], narrowed := true }
def ProcWhereUptoSaid : Prop := procWhereUptoRow.holds Tryz.pinned (OpenSpec.upto procWhereSpec)

/-- 'whitewashlaw18.ProcAsks', WHERE WHAT IT READS IS OF BULK AT MOST 1048576: true; the input reads as it did. -/
def procAsksUptoRow : OpenClaim := { program := "ytbpaekbjpapgeaagreatdoor", sum := "8548359a0c476420e73cfcb59426b512de51a3b985abc16993bac9525a665468", func := "whitewash/whitewashlaw18.ProcAsks", spec := "procAsks", inPlace := ["math.Float64frombits", "math.Float64bits", "slices.overlaps[whitewash/order.entry]"], unfollowed := true, recurses := true, named := ["whitewash/region.objects", "whitewash/mix.there"], apart := false, laid := [("whitewash/mix.there", laid_whitewash_mix_there), ("whitewash/region.objects", laid_whitewash_region_objects)], narrowed := true }
def ProcAsksUptoSaid : Prop := procAsksUptoRow.holds Tryz.pinned (OpenSpec.upto procAsksSpec)

/-- 'whitewashlaw18.ProcEnds', WHERE WHAT IT READS IS OF BULK AT MOST 1048576: true; the input reads as it did. -/
def procEndsUptoRow : OpenClaim := { program := "ytbpaekbjpapgeaagreatdoor", sum := "8548359a0c476420e73cfcb59426b512de51a3b985abc16993bac9525a665468", func := "whitewash/whitewashlaw18.ProcEnds", spec := "procEnds", inPlace := ["math.Float64frombits", "math.Float64bits", "slices.overlaps[whitewash/order.entry]"], unfollowed := true, recurses := true, named := ["whitewash/region.objects", "whitewash/mix.there"], apart := false, laid := [("whitewash/mix.there", laid_whitewash_mix_there), ("whitewash/region.objects", laid_whitewash_region_objects)], narrowed := true }
def ProcEndsUptoSaid : Prop := procEndsUptoRow.holds Tryz.pinned (OpenSpec.upto procEndsSpec)

/-- 'whitewashlaw18.ProcSolo', WHERE WHAT IT READS IS OF BULK AT MOST 1048576: true; the input reads as it did. -/
def procSoloUptoRow : OpenClaim := { program := "ytbpaekbjpapgeaagreatdoor", sum := "8548359a0c476420e73cfcb59426b512de51a3b985abc16993bac9525a665468", func := "whitewash/whitewashlaw18.ProcSolo", spec := "procSolo", inPlace := ["math.Float64frombits", "math.Float64bits", "slices.overlaps[whitewash/order.entry]"], unfollowed := true, recurses := true, named := ["whitewash/region.objects", "whitewash/mix.there"], apart := false, laid := [("whitewash/mix.there", laid_whitewash_mix_there), ("whitewash/region.objects", laid_whitewash_region_objects)], narrowed := true }
def ProcSoloUptoSaid : Prop := procSoloUptoRow.holds Tryz.pinned (OpenSpec.upto procSoloSpec)

end Rows
end Go.Proofs.YtbpaekbjpapgeaaGreatDoor
