/-
  NARROWER THAN 'FOR EVERY INPUT', by the rows' own cells (each row's printed sentence says how): TreapTells: laid · TreapOne: laid · TreapFinds: laid · TreapParts: laid · TreapPuts: laid.
  DERIVED. THE GIVEN ROWS OF THIS SEAT. 5 by the template 'for every input the law returns true; each argument reads behind the call as it read before'; 0 by the template 'total and deterministic' (their statements: YtlkeeckhileedaaDoorTotals.lean).
  GIVEN WITH THE SEED: the statements are not yours to turn. If you find one false, say at which input.
  Laid BY PROGRAM, IN A SANDBOX (cutbox-rows.mjs): the forced cells as the released guide's own fill.sh prints them over the translation be650707f6a16590… (all of the seat's roots in one cut). By AI agents, Wed Nov 11 2026. No macro, syntax, notation, axiom, sorry.
-/
import Derived.Test.YtlkeeckhileedaaDoorChecked
import GoSem.Claim
import GoSem.ClaimJoined
import GoSem.ClaimMapViews
import Derived.JoinedTies
import Derived.KernelRfl
namespace Go.Proofs.YtlkeeckhileedaaDoor
/- THE CELL 'sum', in the pinned program and in every row, IS THE sha256 OF THE DUMP (.gsa) THAT YtlkeeckhileedaaDoorProg.lean LOADS. Nothing in Lean hashes anything: it is a label: what it is worth is what the hold of that sum in a sandbox is worth. -/
noncomputable def Tryd.pinned : Pinned := { name := "ytlkeeckhileedaadoor", sum := "be650707f6a16590748cc65cfb9d17c956e61e1a6ad649f1418dec80bcd4d235", checked := Tryd.checked }
namespace Rows
def none {H : Type} : Left H := { results := [], args := [] }

/- WHAT THE LISTED PACKAGE-LEVEL VARIABLES READ AS WHEN THE CALL BEGINS. Each datum BY PROGRAM (the guide's laid-datum.mjs) off the statement by which the dump's own 'gosem.cut.vars' lays the variable. In a bare row this is a premise. The card (YtlkeeckhileedaaDoorCards.lean) ties it to the program's text. -/
def laid_whitewash_mix_there {H : Type} : DataW H := .agg [.agg [.lit (.int .u64 30), .lit (.int .u64 13787848793156543929)], .agg [.lit (.int .u64 27), .lit (.int .u64 10723151780598845931)], .agg [.lit (.int .u64 31), .lit (.int .u64 1)]]

/-- 'whitewashlaw08.TreapTells': WHATEVER THE INPUT: true; the input reads as it did. -/
def treapTellsSpec : ChangeSpec := { name := "treapTells", fn := fun _ => fun
  | [d1, d2, d3, d4, d5, d6] => { results := [.lit (.bool true)], args := [d1, d2, d3, d4, d5, d6] }
  | _ => none }
def treapTellsRow : OpenClaim := { program := "ytlkeeckhileedaadoor", sum := "be650707f6a16590748cc65cfb9d17c956e61e1a6ad649f1418dec80bcd4d235", func := "whitewash/whitewashlaw08.TreapTells", spec := "treapTells", unfollowed := true, recurses := true, named := ["whitewash/mix.there"], apart := false, laid := [("whitewash/mix.there", laid_whitewash_mix_there)] }
def TreapTellsSaid : Prop := treapTellsRow.holds Tryd.pinned (OpenSpec.ofChange treapTellsSpec)

/-- ITS FALSE NEIGHBOUR: 'it returns false'. Refute it at one input. -/
def treapTellsWrong : ChangeSpec := { name := "treapTells", fn := fun _ => fun
  | [d1, d2, d3, d4, d5, d6] => { results := [.lit (.bool false)], args := [d1, d2, d3, d4, d5, d6] }
  | _ => none }
def TreapTellsWrongFalsely : Prop := treapTellsRow.holds Tryd.pinned (OpenSpec.ofChange treapTellsWrong)

/-- 'whitewashlaw08.TreapOne': WHATEVER THE INPUT: true; the input reads as it did. -/
def treapOneSpec : ChangeSpec := { name := "treapOne", fn := fun _ => fun
  | [d1, d2, d3, d4, d5] => { results := [.lit (.bool true)], args := [d1, d2, d3, d4, d5] }
  | _ => none }
def treapOneRow : OpenClaim := { program := "ytlkeeckhileedaadoor", sum := "be650707f6a16590748cc65cfb9d17c956e61e1a6ad649f1418dec80bcd4d235", func := "whitewash/whitewashlaw08.TreapOne", spec := "treapOne", unfollowed := true, recurses := true, named := ["whitewash/mix.there"], apart := false, laid := [("whitewash/mix.there", laid_whitewash_mix_there)] }
def TreapOneSaid : Prop := treapOneRow.holds Tryd.pinned (OpenSpec.ofChange treapOneSpec)

/-- ITS FALSE NEIGHBOUR: 'it returns false'. Refute it at one input. -/
def treapOneWrong : ChangeSpec := { name := "treapOne", fn := fun _ => fun
  | [d1, d2, d3, d4, d5] => { results := [.lit (.bool false)], args := [d1, d2, d3, d4, d5] }
  | _ => none }
def TreapOneWrongFalsely : Prop := treapOneRow.holds Tryd.pinned (OpenSpec.ofChange treapOneWrong)

/-- 'whitewashlaw08.TreapFinds': WHATEVER THE INPUT: true; the input reads as it did. -/
def treapFindsSpec : ChangeSpec := { name := "treapFinds", fn := fun _ => fun
  | [d1, d2, d3] => { results := [.lit (.bool true)], args := [d1, d2, d3] }
  | _ => none }
def treapFindsRow : OpenClaim := { program := "ytlkeeckhileedaadoor", sum := "be650707f6a16590748cc65cfb9d17c956e61e1a6ad649f1418dec80bcd4d235", func := "whitewash/whitewashlaw08.TreapFinds", spec := "treapFinds", unfollowed := true, recurses := true, named := ["whitewash/mix.there"], apart := false, laid := [("whitewash/mix.there", laid_whitewash_mix_there)] }
def TreapFindsSaid : Prop := treapFindsRow.holds Tryd.pinned (OpenSpec.ofChange treapFindsSpec)

/-- ITS FALSE NEIGHBOUR: 'it returns false'. Refute it at one input. -/
def treapFindsWrong : ChangeSpec := { name := "treapFinds", fn := fun _ => fun
  | [d1, d2, d3] => { results := [.lit (.bool false)], args := [d1, d2, d3] }
  | _ => none }
def TreapFindsWrongFalsely : Prop := treapFindsRow.holds Tryd.pinned (OpenSpec.ofChange treapFindsWrong)

/-- 'whitewashlaw08.TreapParts': WHATEVER THE INPUT: true; the input reads as it did. -/
def treapPartsSpec : ChangeSpec := { name := "treapParts", fn := fun _ => fun
  | [d] => { results := [.lit (.bool true)], args := [d] }
  | _ => none }
def treapPartsRow : OpenClaim := { program := "ytlkeeckhileedaadoor", sum := "be650707f6a16590748cc65cfb9d17c956e61e1a6ad649f1418dec80bcd4d235", func := "whitewash/whitewashlaw08.TreapParts", spec := "treapParts", unfollowed := true, recurses := true, named := ["whitewash/mix.there"], apart := false, laid := [("whitewash/mix.there", laid_whitewash_mix_there)] }
def TreapPartsSaid : Prop := treapPartsRow.holds Tryd.pinned (OpenSpec.ofChange treapPartsSpec)

/-- ITS FALSE NEIGHBOUR: 'it returns false'. Refute it at one input. -/
def treapPartsWrong : ChangeSpec := { name := "treapParts", fn := fun _ => fun
  | [d] => { results := [.lit (.bool false)], args := [d] }
  | _ => none }
def TreapPartsWrongFalsely : Prop := treapPartsRow.holds Tryd.pinned (OpenSpec.ofChange treapPartsWrong)

/-- 'whitewashlaw08.TreapPuts': WHATEVER THE INPUT: true; the input reads as it did. -/
def treapPutsSpec : ChangeSpec := { name := "treapPuts", fn := fun _ => fun
  | [d1, d2] => { results := [.lit (.bool true)], args := [d1, d2] }
  | _ => none }
def treapPutsRow : OpenClaim := { program := "ytlkeeckhileedaadoor", sum := "be650707f6a16590748cc65cfb9d17c956e61e1a6ad649f1418dec80bcd4d235", func := "whitewash/whitewashlaw08.TreapPuts", spec := "treapPuts", unfollowed := true, recurses := true, named := ["whitewash/mix.there"], apart := false, laid := [("whitewash/mix.there", laid_whitewash_mix_there)] }
def TreapPutsSaid : Prop := treapPutsRow.holds Tryd.pinned (OpenSpec.ofChange treapPutsSpec)

/-- ITS FALSE NEIGHBOUR: 'it returns false'. Refute it at one input. -/
def treapPutsWrong : ChangeSpec := { name := "treapPuts", fn := fun _ => fun
  | [d1, d2] => { results := [.lit (.bool false)], args := [d1, d2] }
  | _ => none }
def TreapPutsWrongFalsely : Prop := treapPutsRow.holds Tryd.pinned (OpenSpec.ofChange treapPutsWrong)

/- THE SECOND FORM. 'bulk': how many values and letters a reading holds, each counted each time it is reached (what is shared counts as often as it is met; a slice's spare places count too). A statement '..UptoSaid' is the law's where the arguments, and the package variables that the reading takes, are together of bulk at most 1048576: NARROWER than '..Said'. Prove '..Said' where nothing that the law and all that it calls make is longer than what came in: it says more and counts as full. Else prove '..UptoSaid'. A law counts once. -/
mutual
def uptoBulk {H : Type} : DataW H → Nat
  | .lit (.string bytes) => bytes.length + 1
  | .lit _ => 1
  | .nil => 1
  | .ptr d => uptoBulk d + 1
  | .slice elems spare => uptoBulkAll elems + uptoBulkAll spare + 1
  | .agg parts => uptoBulkAll parts + 1
  | .iface _ d => uptoBulk d + 1
  | .map entries => uptoBulkEntries entries + 1
  | .held _ => 1
def uptoBulkAll {H : Type} : List (DataW H) → Nat
  | [] => 0
  | d :: r => uptoBulk d + uptoBulkAll r
def uptoBulkEntries {H : Type} : List (Lit × DataW H) → Nat
  | [] => 0
  | x :: r => uptoBulkEntry x + uptoBulkEntries r
def uptoBulkEntry {H : Type} : Lit × DataW H → Nat
  | (.string bytes, d) => bytes.length + uptoBulk d + 1
  | (_, d) => uptoBulk d + 1
 end
def uptoSmall : (H : Type) → List (DataW H) → Bool := fun _ ds => decide (uptoBulkAll ds ≤ 1048576)
def OpenSpec.upto (s : _root_.Go.ChangeSpec) : _root_.Go.OpenSpec := { _root_.Go.OpenSpec.ofChange s with cond := some uptoSmall }

/-- 'whitewashlaw08.TreapTells', WHERE WHAT IT READS IS OF BULK AT MOST 1048576: true; the input reads as it did. -/
def treapTellsUptoRow : OpenClaim := { program := "ytlkeeckhileedaadoor", sum := "be650707f6a16590748cc65cfb9d17c956e61e1a6ad649f1418dec80bcd4d235", func := "whitewash/whitewashlaw08.TreapTells", spec := "treapTells", unfollowed := true, recurses := true, named := ["whitewash/mix.there"], apart := false, laid := [("whitewash/mix.there", laid_whitewash_mix_there)], narrowed := true }
def TreapTellsUptoSaid : Prop := treapTellsUptoRow.holds Tryd.pinned (OpenSpec.upto treapTellsSpec)

/-- 'whitewashlaw08.TreapOne', WHERE WHAT IT READS IS OF BULK AT MOST 1048576: true; the input reads as it did. -/
def treapOneUptoRow : OpenClaim := { program := "ytlkeeckhileedaadoor", sum := "be650707f6a16590748cc65cfb9d17c956e61e1a6ad649f1418dec80bcd4d235", func := "whitewash/whitewashlaw08.TreapOne", spec := "treapOne", unfollowed := true, recurses := true, named := ["whitewash/mix.there"], apart := false, laid := [("whitewash/mix.there", laid_whitewash_mix_there)], narrowed := true }
def TreapOneUptoSaid : Prop := treapOneUptoRow.holds Tryd.pinned (OpenSpec.upto treapOneSpec)

/-- 'whitewashlaw08.TreapFinds', WHERE WHAT IT READS IS OF BULK AT MOST 1048576: true; the input reads as it did. -/
def treapFindsUptoRow : OpenClaim := { program := "ytlkeeckhileedaadoor", sum := "be650707f6a16590748cc65cfb9d17c956e61e1a6ad649f1418dec80bcd4d235", func := "whitewash/whitewashlaw08.TreapFinds", spec := "treapFinds", unfollowed := true, recurses := true, named := ["whitewash/mix.there"], apart := false, laid := [("whitewash/mix.there", laid_whitewash_mix_there)], narrowed := true }
def TreapFindsUptoSaid : Prop := treapFindsUptoRow.holds Tryd.pinned (OpenSpec.upto treapFindsSpec)

/-- 'whitewashlaw08.TreapParts', WHERE WHAT IT READS IS OF BULK AT MOST 1048576: true; the input reads as it did. -/
def treapPartsUptoRow : OpenClaim := { program := "ytlkeeckhileedaadoor", sum := "be650707f6a16590748cc65cfb9d17c956e61e1a6ad649f1418dec80bcd4d235", func := "whitewash/whitewashlaw08.TreapParts", spec := "treapParts", unfollowed := true, recurses := true, named := ["whitewash/mix.there"], apart := false, laid := [("whitewash/mix.there", laid_whitewash_mix_there)], narrowed := true }
def TreapPartsUptoSaid : Prop := treapPartsUptoRow.holds Tryd.pinned (OpenSpec.upto treapPartsSpec)

/-- 'whitewashlaw08.TreapPuts', WHERE WHAT IT READS IS OF BULK AT MOST 1048576: true; the input reads as it did. -/
def treapPutsUptoRow : OpenClaim := { program := "ytlkeeckhileedaadoor", sum := "be650707f6a16590748cc65cfb9d17c956e61e1a6ad649f1418dec80bcd4d235", func := "whitewash/whitewashlaw08.TreapPuts", spec := "treapPuts", unfollowed := true, recurses := true, named := ["whitewash/mix.there"], apart := false, laid := [("whitewash/mix.there", laid_whitewash_mix_there)], narrowed := true }
def TreapPutsUptoSaid : Prop := treapPutsUptoRow.holds Tryd.pinned (OpenSpec.upto treapPutsSpec)

end Rows
end Go.Proofs.YtlkeeckhileedaaDoor
