/- The first calls of a layer 20 statement answer true, and what an argument holds that is a slice. -/
import Derived.Test.YtkohdcjeankhkaaOwnC
set_option linter.unusedSimpArgs false
set_option linter.unusedVariables false
namespace Go.Proofs.Ytkohdcjeankhkaa
open Go.Proofs.Ytkohdcjeankhkaa.K Go.ChangeShapes Go.WideShapes Go.ChangeAt Go.RowKit
set_option maxRecDepth 100000
set_option linter.unusedSimpArgs false
set_option linter.unusedVariables false

def l0 : List Ev := [⟨0, true, 5, 1, 0, 0, 0⟩, ⟨1, true, 6, 2, 0, 0, 0⟩, ⟨0, false, 5, 1, 0, 0, 1⟩]
def d0 : List Cl := [⟨0, 5, 1, 0, 0, 1, 0, 2, true⟩, ⟨1, 6, 2, 0, 0, 0, 1, 3, false⟩]
theorem l0_fine : Fine 3 l0 := by
  intro j hj
  have hj : j < 3 := hj
  obtain rfl | rfl | rfl : j = 0 ∨ j = 1 ∨ j = 2 := by omega
  all_goals simp [cBad, cRun, cStep, l0, upd, nuw]
theorem l0_err : cErr l0 = 0 := cErr_fine (by decide) l0_fine
theorem l0_cls : cls l0 = d0 := by rw [cls_fine l0_err]; rfl
theorem l0_wid : wid l0 = 2 := by rw [wid_fine l0_err]; rfl
theorem l0_run : hRun 3 d0 2 = l0 := rfl
theorem l0_ev : hEv 3 d0 = (l0, 0) := by
  refine hEv_good (n := 3) (by omega) ⟨fun j hj => ?_, ?_, ?_⟩
  · have hj : j < 2 := hj
    obtain rfl | rfl : j = 0 ∨ j = 1 := by omega
    all_goals simp [notC, d0]
  · show cErr (hRun 3 d0 2) = 0
    rw [l0_run]; exact l0_err
  · show cls (hRun 3 d0 2) = d0
    rw [l0_run]; exact l0_cls
theorem l2_err : cErr [⟨0, false, 5, 1, 0, 0, 1⟩] = 2 := cErr_bad (by decide) fun h => h 0 (by decide) (by simp [cBad, cRun])
theorem l00_err : cErr [⟨0, true, 5, 1, 0, 0, 0⟩, ⟨0, true, 5, 1, 0, 0, 0⟩] = 2 := cErr_bad (by decide) fun h => h 1 (by decide) (by simp [cBad, cRun, cStep, upd, nuw])
theorem fr_den {B : OH} {H H' : HL} (hF : Fr H H') : ∀ r x, den H B r = some x → den H' B r = some x := fun r x h => by
  unfold den at h ⊢
  cases hb : B r with
  | some k => rw [hb] at h; exact h
  | none => rw [hb] at h; exact hF _ _ h
theorem slN_new {B : OH} {H : HL} {N : St} (hN : good B H N) {α : Type} {f : α → List Value} {sz : Nat} (L : List α) {cs : List Value} (h : cs = fl f L) {n m : Nat} (hn : n = L.length) (hm : m = L.length * sz) : SlN f sz B H ((N.n 0, .cells cs m) :: H) (.slice (some ⟨N.n 0, 0, none⟩) n n) L := by
  subst h hn hm
  exact .inr ⟨N.n 0, L.length, rfl, good_B hN 0, lk_N hN 0, Nat.le_refl _, by rw [lk_cons, beq_self_eq_true, cond_true]⟩
theorem lk_top {x : Nat} {k : KB} {H : HL} : lk ((x, k) :: H) x = some k := by rw [lk_cons, beq_self_eq_true, cond_true]
/-- whitewash/whitewashlaw20.awake -/
def L8 : FnL := ⟨(.seq (.ops [⟨(some 0), .mv (.const (.bool false)), none⟩])
 (.seq (.ops [⟨(some 15), .build [(.int .i64 0), (.int .u64 0), (.int .u64 0)] [(0, 1, (.const (.int .i64 5))), (1, 1, (.const (.int .u64 1)))], none⟩, ⟨(some 1), .alloc [(.int .i64 0), (.int .u64 0), (.int .u64 0)], none⟩, ⟨none, .store 3 (.tmp 1) (.tmp 15), none⟩])
 (.seq (.ops [⟨(some 16), .build [(.int .i64 0), (.int .u64 0), (.int .u64 0)] [(0, 1, (.const (.int .i64 6))), (1, 1, (.const (.int .u64 2)))], none⟩, ⟨(some 2), .alloc [(.int .i64 0), (.int .u64 0), (.int .u64 0)], none⟩, ⟨none, .store 3 (.tmp 2) (.tmp 16), none⟩])
 (.seq (.ops [⟨(some 17), .load true 3 (.tmp 1), none⟩, ⟨(some 18), .build [(.int .i64 0), (.bool false), (.int .i64 0), (.int .u64 0), (.int .u64 0), (.int .i64 0), (.int .u64 0)] [(0, 1, (.const (.int .i64 0))), (1, 1, (.const (.bool true))), (2, 3, (.tmp 17))], none⟩, ⟨(some 19), .load true 3 (.tmp 2), none⟩, ⟨(some 20), .build [(.int .i64 0), (.bool false), (.int .i64 0), (.int .u64 0), (.int .u64 0), (.int .i64 0), (.int .u64 0)] [(0, 1, (.const (.int .i64 1))), (1, 1, (.const (.bool true))), (2, 3, (.tmp 19))], none⟩, ⟨(some 21), .load true 3 (.tmp 1), none⟩, ⟨(some 22), .build [(.int .i64 0), (.int .u64 0)] [(1, 1, (.const (.int .u64 1)))], none⟩, ⟨(some 23), .build [(.int .i64 0), (.bool false), (.int .i64 0), (.int .u64 0), (.int .u64 0), (.int .i64 0), (.int .u64 0)] [(0, 1, (.const (.int .i64 0))), (2, 3, (.tmp 21)), (5, 2, (.tmp 22))], none⟩, ⟨(some 24), .buildS [(.int .i64 0), (.bool false), (.int .i64 0), (.int .u64 0), (.int .u64 0), (.int .i64 0), (.int .u64 0), (.int .i64 0), (.bool false), (.int .i64 0), (.int .u64 0), (.int .u64 0), (.int .i64 0), (.int .u64 0), (.int .i64 0), (.bool false), (.int .i64 0), (.int .u64 0), (.int .u64 0), (.int .i64 0), (.int .u64 0)] 3 [(0, 7, (.tmp 18)), (7, 7, (.tmp 20)), (14, 7, (.tmp 23))], none⟩, ⟨(some 3), .mv (.tmp 24), none⟩])
 (.seq (.ops [⟨(some 26), .mv (.tmp 3), none⟩, ⟨(some 27), .call (.func 11) [(.tmp 26)], none⟩, ⟨(some 25), .mv (.tmp 27), none⟩, ⟨(some 28), .ext (.tmp 25) 0, none⟩, ⟨(some 29), .ext (.tmp 25) 1, none⟩, ⟨(some 4), .mv (.tmp 28), none⟩, ⟨(some 5), .mv (.tmp 29), none⟩])
 (.seq (.ops [⟨(some 31), .mv (.tmp 3), none⟩, ⟨(some 32), .call (.func 13) [(.tmp 31)], none⟩, ⟨(some 30), .mv (.tmp 32), none⟩, ⟨(some 33), .ext (.tmp 30) 0, none⟩, ⟨(some 34), .ext (.tmp 30) 1, none⟩, ⟨(some 6), .mv (.tmp 33), none⟩, ⟨(some 7), .mv (.tmp 34), none⟩])
 (.seq (.ops [⟨(some 36), .mv (.tmp 4), none⟩, ⟨(some 37), .call (.func 19) [(.const (.int .i64 3)), (.tmp 36)], none⟩, ⟨(some 35), .mv (.tmp 37), none⟩, ⟨(some 38), .ext (.tmp 35) 0, none⟩, ⟨(some 39), .ext (.tmp 35) 1, none⟩, ⟨(some 8), .mv (.tmp 38), none⟩, ⟨(some 9), .mv (.tmp 39), none⟩])
 (.seq (.ops [⟨(some 41), .mv (.tmp 3), none⟩, ⟨(some 42), .iaddrS 7 (.tmp 41) (.const (.int .i64 2)), none⟩, ⟨(some 43), .load true 7 (.tmp 42), none⟩, ⟨(some 44), .buildS [(.int .i64 0), (.bool false), (.int .i64 0), (.int .u64 0), (.int .u64 0), (.int .i64 0), (.int .u64 0)] 1 [(0, 7, (.tmp 43))], none⟩, ⟨(some 45), .call (.func 11) [(.tmp 44)], none⟩, ⟨(some 40), .mv (.tmp 45), none⟩, ⟨(some 46), .ext (.tmp 40) 0, none⟩, ⟨(some 47), .ext (.tmp 40) 1, none⟩, ⟨(some 10), .mv (.tmp 46), none⟩, ⟨(some 11), .mv (.tmp 47), none⟩])
 (.seq (.draw [⟨⟨(some 49), .mv (.tmp 3), none⟩, []⟩, ⟨⟨(some 50), .iaddrS 7 (.tmp 49) (.const (.int .i64 0)), none⟩, []⟩, ⟨⟨(some 51), .load true 7 (.tmp 50), none⟩, []⟩, ⟨⟨(some 52), .mv (.tmp 3), none⟩, []⟩, ⟨⟨(some 53), .iaddrS 7 (.tmp 52) (.const (.int .i64 0)), none⟩, []⟩, ⟨⟨(some 54), .load true 7 (.tmp 53), none⟩, []⟩, ⟨⟨(some 55), .buildS [(.int .i64 0), (.bool false), (.int .i64 0), (.int .u64 0), (.int .u64 0), (.int .i64 0), (.int .u64 0), (.int .i64 0), (.bool false), (.int .i64 0), (.int .u64 0), (.int .u64 0), (.int .i64 0), (.int .u64 0)] 2 [(0, 7, (.tmp 51)), (7, 7, (.tmp 54))], none⟩, []⟩, ⟨⟨(some 56), .call (.func 11) [(.tmp 55)], none⟩, []⟩, ⟨⟨(some 48), .mv (.tmp 56), none⟩, []⟩, ⟨⟨(some 57), .ext (.tmp 48) 0, none⟩, []⟩, ⟨⟨(some 58), .ext (.tmp 48) 1, none⟩, []⟩, ⟨⟨(some 12), .mv (.tmp 57), none⟩, []⟩, ⟨⟨(some 13), .mv (.tmp 58), none⟩, []⟩])
 (.seq (.ops [⟨(some 59), .load true 3 (.tmp 1), none⟩, ⟨(some 60), .build [(.int .i64 0), (.int .u64 0)] [(1, 1, (.const (.int .u64 1)))], none⟩, ⟨(some 61), .build [(.int .i64 0), (.int .i64 0), (.int .u64 0), (.int .u64 0), (.int .i64 0), (.int .u64 0), (.int .i64 0), (.int .i64 0), (.bool false)] [(0, 1, (.const (.int .i64 0))), (1, 3, (.tmp 59)), (4, 2, (.tmp 60)), (7, 1, (.const (.int .i64 2))), (8, 1, (.const (.bool true)))], none⟩, ⟨(some 62), .load true 3 (.tmp 2), none⟩, ⟨(some 63), .build [(.int .i64 0), (.int .i64 0), (.int .u64 0), (.int .u64 0), (.int .i64 0), (.int .u64 0), (.int .i64 0), (.int .i64 0), (.bool false)] [(0, 1, (.const (.int .i64 1))), (1, 3, (.tmp 62)), (6, 1, (.const (.int .i64 1))), (7, 1, (.const (.int .i64 3)))], none⟩, ⟨(some 64), .buildS [(.int .i64 0), (.int .i64 0), (.int .u64 0), (.int .u64 0), (.int .i64 0), (.int .u64 0), (.int .i64 0), (.int .i64 0), (.bool false), (.int .i64 0), (.int .i64 0), (.int .u64 0), (.int .u64 0), (.int .i64 0), (.int .u64 0), (.int .i64 0), (.int .i64 0), (.bool false)] 2 [(0, 9, (.tmp 61)), (9, 9, (.tmp 63))], none⟩, ⟨(some 14), .mv (.tmp 64), none⟩])
 (.seq (.draw [⟨⟨(some 65), .mv (.tmp 5), none⟩, []⟩, ⟨⟨(some 66), .bin .eql (.tmp 65) (.const (.int .i64 0)), none⟩, []⟩, ⟨⟨(some 67), .mv (.tmp 66), none⟩, []⟩, ⟨⟨(some 68), .mv (.tmp 4), (some (67, true))⟩, []⟩, ⟨⟨(some 69), .mv (.tmp 14), (some (67, true))⟩, []⟩, ⟨⟨(some 70), .call (.func 15) [(.tmp 68), (.tmp 69)], (some (67, true))⟩, []⟩, ⟨⟨(some 71), .pick (.tmp 67) (.tmp 70) (.const (.bool false)), none⟩, []⟩, ⟨⟨(some 72), .mv (.tmp 71), none⟩, []⟩, ⟨⟨(some 73), .mv (.tmp 7), (some (72, true))⟩, []⟩, ⟨⟨(some 74), .bin .eql (.tmp 73) (.const (.int .i64 0)), (some (72, true))⟩, []⟩, ⟨⟨(some 75), .pick (.tmp 72) (.tmp 74) (.const (.bool false)), none⟩, []⟩, ⟨⟨(some 76), .mv (.tmp 75), none⟩, []⟩, ⟨⟨(some 77), .mv (.tmp 6), (some (76, true))⟩, []⟩, ⟨⟨(some 78), .bin .eql (.tmp 77) (.const (.int .i64 2)), (some (76, true))⟩, []⟩, ⟨⟨(some 79), .pick (.tmp 76) (.tmp 78) (.const (.bool false)), none⟩, []⟩, ⟨⟨(some 80), .mv (.tmp 79), none⟩, []⟩, ⟨⟨(some 81), .mv (.tmp 9), (some (80, true))⟩, []⟩, ⟨⟨(some 82), .bin .eql (.tmp 81) (.const (.int .i64 0)), (some (80, true))⟩, []⟩, ⟨⟨(some 83), .pick (.tmp 80) (.tmp 82) (.const (.bool false)), none⟩, []⟩, ⟨⟨(some 84), .mv (.tmp 83), none⟩, []⟩, ⟨⟨(some 85), .mv (.tmp 8), (some (84, true))⟩, []⟩, ⟨⟨(some 86), .mv (.tmp 3), (some (84, true))⟩, []⟩, ⟨⟨(some 87), .call (.func 16) [(.tmp 85), (.tmp 86)], (some (84, true))⟩, []⟩, ⟨⟨(some 88), .pick (.tmp 84) (.tmp 87) (.const (.bool false)), none⟩, []⟩, ⟨⟨(some 89), .mv (.tmp 88), none⟩, []⟩, ⟨⟨(some 90), .mv (.tmp 11), (some (89, true))⟩, []⟩, ⟨⟨(some 91), .bin .eql (.tmp 90) (.const (.int .i64 2)), (some (89, true))⟩, []⟩, ⟨⟨(some 92), .pick (.tmp 89) (.tmp 91) (.const (.bool false)), none⟩, []⟩, ⟨⟨(some 93), .mv (.tmp 92), none⟩, []⟩, ⟨⟨(some 94), .mv (.tmp 13), (some (93, true))⟩, []⟩, ⟨⟨(some 95), .bin .eql (.tmp 94) (.const (.int .i64 2)), (some (93, true))⟩, []⟩, ⟨⟨(some 96), .pick (.tmp 93) (.tmp 95) (.const (.bool false)), none⟩, []⟩, ⟨⟨(some 97), .mv (.tmp 96), none⟩, []⟩, ⟨⟨(some 98), .mv (.tmp 14), (some (97, true))⟩, []⟩, ⟨⟨(some 99), .iaddrS 9 (.tmp 98) (.const (.int .i64 0)), (some (97, true))⟩, []⟩, ⟨⟨(some 100), .load true 9 (.tmp 99), (some (97, true))⟩, []⟩, ⟨⟨(some 101), .mv (.tmp 14), (some (97, true))⟩, []⟩, ⟨⟨(some 102), .iaddrS 9 (.tmp 101) (.const (.int .i64 1)), (some (97, true))⟩, []⟩, ⟨⟨(some 103), .load true 9 (.tmp 102), (some (97, true))⟩, []⟩, ⟨⟨(some 104), .call (.func 21) [(.tmp 100), (.tmp 103)], (some (97, true))⟩, []⟩, ⟨⟨(some 105), .un .not (.tmp 104), (some (97, true))⟩, []⟩, ⟨⟨(some 106), .pick (.tmp 97) (.tmp 105) (.const (.bool false)), none⟩, []⟩, ⟨⟨(some 107), .mv (.tmp 106), none⟩, []⟩, ⟨⟨(some 108), .mv (.tmp 14), (some (107, true))⟩, []⟩, ⟨⟨(some 109), .iaddrS 9 (.tmp 108) (.const (.int .i64 0)), (some (107, true))⟩, []⟩, ⟨⟨(some 110), .load true 9 (.tmp 109), (some (107, true))⟩, []⟩, ⟨⟨(some 111), .build [(.int .i64 0), (.int .i64 0), (.int .u64 0), (.int .u64 0), (.int .i64 0), (.int .u64 0), (.int .i64 0), (.int .i64 0), (.bool false)] [(6, 1, (.const (.int .i64 3)))], (some (107, true))⟩, []⟩, ⟨⟨(some 112), .call (.func 21) [(.tmp 110), (.tmp 111)], (some (107, true))⟩, []⟩, ⟨⟨(some 113), .pick (.tmp 107) (.tmp 112) (.const (.bool false)), none⟩, []⟩, ⟨⟨(some 114), .mv (.tmp 113), none⟩, []⟩, ⟨⟨(some 115), .mv (.tmp 3), (some (114, true))⟩, []⟩, ⟨⟨(some 116), .call (.func 17) [(.const (.int .i64 1)), (.tmp 115)], (some (114, true))⟩, []⟩, ⟨⟨(some 117), .len false (.tmp 116), (some (114, true))⟩, []⟩, ⟨⟨(some 118), .bin .eql (.tmp 117) (.const (.int .i64 1)), (some (114, true))⟩, []⟩, ⟨⟨(some 119), .pick (.tmp 114) (.tmp 118) (.const (.bool false)), none⟩, []⟩, ⟨⟨(some 0), .mv (.tmp 119), none⟩, []⟩])
 .ret))))))))))),
 120, [.tmp 0]⟩
theorem low8 : lowerFn Try.prog Try.f8 = some L8 := by kernel_rfl
noncomputable def G8 (B : OH) : Nat → Cs
  | 11 => V11 B
  | 13 => V13 B
  | 15 => V15 B
  | 16 => V16 B
  | 17 => V17 B
  | 19 => V19 B
  | 21 => V21 B
  | _ => fun _ _ _ => none
theorem G8_11 {B : OH} : G8 B 11 = V11 B := rfl
theorem G8_13 {B : OH} : G8 B 13 = V13 B := rfl
theorem G8_15 {B : OH} : G8 B 15 = V15 B := rfl
theorem G8_16 {B : OH} : G8 B 16 = V16 B := rfl
theorem G8_17 {B : OH} : G8 B 17 = V17 B := rfl
theorem G8_19 {B : OH} : G8 B 19 = V19 B := rfl
theorem G8_21 {B : OH} : G8 B 21 = V21 B := rfl
theorem sG8 {w0 : World} {B : OH} : SoundG Try.prog w0 B { f := G8 B } := .of fun k => by
  unfold G8
  split
  · exact .inr ⟨en11, sV11⟩
  · exact .inr ⟨en13, sV13⟩
  · exact .inr ⟨en15, sV15⟩
  · exact .inr ⟨en16, sV16⟩
  · exact .inr ⟨en17, sV17⟩
  · exact .inr ⟨en19, sV19⟩
  · exact .inr ⟨en21, sV21⟩
  · exact .inl fun _ _ _ => rfl
theorem en8 : Enter Try.prog 8 := .of Try.func8 (by kernel_rfl) (by kernel_rfl)
noncomputable def T8 (B : OH) : Cs := callF B { f := G8 B } 1300 L8
theorem sT8 {w0 : World} {B : OH} : SoundC Try.prog w0 B 8 (T8 B) := callF_sound mixedOrders sG8 1300 Try.func8 low8
noncomputable def F8 (B : OH) : List Value → Option Value := kval B (T8 B)
noncomputable def V8 (B : OH) : Cs := fun a H N => pvE (F8 B a) H N
theorem V8_eq {B : OH} {a : List Value} {H : HL} {N : St} : V8 B a H N = pvE (F8 B a) H N := rfl
theorem sV8 {w0 : World} {B : OH} : SoundC Try.prog w0 B 8 (V8 B) := sT8.ofVal
set_option maxHeartbeats 8000000 in
theorem f8 {B : OH} (hG : ∃ H N, good B H N) : F8 B [] = some (.bool true) := by
  refine kval_eq hG fun H N hN => ?_
  have hB := good_B hN
  have hR := good_rdB hN
  have hI := beqN hN.1.1
  have gA := good_new (k := .cells [.int .i64 5, .int .u64 1, .int .u64 0] 3) hN
  have gB : good B ((N.n 1, .cells [.int .i64 6, .int .u64 2, .int .u64 0] 3) :: (N.n 0, .cells [.int .i64 5, .int .u64 1, .int .u64 0] 3) :: H) (sh (sh N)) := good_new gA
  have gC : good B ((N.n 2, .cells [.int .i64 0, .bool true, .int .i64 5, .int .u64 1, .int .u64 0, .int .i64 0, .int .u64 0, .int .i64 1, .bool true, .int .i64 6, .int .u64 2, .int .u64 0, .int .i64 0, .int .u64 0, .int .i64 0, .bool false, .int .i64 5, .int .u64 1, .int .u64 0, .int .i64 0, .int .u64 1] 21) :: (N.n 1, .cells [.int .i64 6, .int .u64 2, .int .u64 0] 3) :: (N.n 0, .cells [.int .i64 5, .int .u64 1, .int .u64 0] 3) :: H) (sh (sh (sh N))) := good_new gB
  have fA : Fr H ((N.n 0, .cells [.int .i64 5, .int .u64 1, .int .u64 0] 3) :: H) := fr_new hN Fr.refl 0
  have fB : Fr H ((N.n 1, .cells [.int .i64 6, .int .u64 2, .int .u64 0] 3) :: (N.n 0, .cells [.int .i64 5, .int .u64 1, .int .u64 0] 3) :: H) := fr_new gA fA 0
  have fC : Fr H ((N.n 2, .cells [.int .i64 0, .bool true, .int .i64 5, .int .u64 1, .int .u64 0, .int .i64 0, .int .u64 0, .int .i64 1, .bool true, .int .i64 6, .int .u64 2, .int .u64 0, .int .i64 0, .int .u64 0, .int .i64 0, .bool false, .int .i64 5, .int .u64 1, .int .u64 0, .int .i64 0, .int .u64 1] 21) :: (N.n 1, .cells [.int .i64 6, .int .u64 2, .int .u64 0] 3) :: (N.n 0, .cells [.int .i64 5, .int .u64 1, .int .u64 0] 3) :: H) := fr_new gB fB 0
  have k0 : lk ((N.n 2, .cells [.int .i64 0, .bool true, .int .i64 5, .int .u64 1, .int .u64 0, .int .i64 0, .int .u64 0, .int .i64 1, .bool true, .int .i64 6, .int .u64 2, .int .u64 0, .int .i64 0, .int .u64 0, .int .i64 0, .bool false, .int .i64 5, .int .u64 1, .int .u64 0, .int .i64 0, .int .u64 1] 21) :: (N.n 1, .cells [.int .i64 6, .int .u64 2, .int .u64 0] 3) :: (N.n 0, .cells [.int .i64 5, .int .u64 1, .int .u64 0] 3) :: H) (N.n 0) = some (.cells [.int .i64 5, .int .u64 1, .int .u64 0] 3) := fr_new gB (fr_new gA Fr.refl 0) 0 _ _ lk_top
  have k1 : lk ((N.n 2, .cells [.int .i64 0, .bool true, .int .i64 5, .int .u64 1, .int .u64 0, .int .i64 0, .int .u64 0, .int .i64 1, .bool true, .int .i64 6, .int .u64 2, .int .u64 0, .int .i64 0, .int .u64 0, .int .i64 0, .bool false, .int .i64 5, .int .u64 1, .int .u64 0, .int .i64 0, .int .u64 1] 21) :: (N.n 1, .cells [.int .i64 6, .int .u64 2, .int .u64 0] 3) :: (N.n 0, .cells [.int .i64 5, .int .u64 1, .int .u64 0] 3) :: H) (N.n 1) = some (.cells [.int .i64 6, .int .u64 2, .int .u64 0] 3) := fr_new gB Fr.refl 0 _ _ lk_top
  have k2 : lk ((N.n 2, .cells [.int .i64 0, .bool true, .int .i64 5, .int .u64 1, .int .u64 0, .int .i64 0, .int .u64 0, .int .i64 1, .bool true, .int .i64 6, .int .u64 2, .int .u64 0, .int .i64 0, .int .u64 0, .int .i64 0, .bool false, .int .i64 5, .int .u64 1, .int .u64 0, .int .i64 0, .int .u64 1] 21) :: (N.n 1, .cells [.int .i64 6, .int .u64 2, .int .u64 0] 3) :: (N.n 0, .cells [.int .i64 5, .int .u64 1, .int .u64 0] 3) :: H) (N.n 2) = some (.cells [.int .i64 0, .bool true, .int .i64 5, .int .u64 1, .int .u64 0, .int .i64 0, .int .u64 0, .int .i64 1, .bool true, .int .i64 6, .int .u64 2, .int .u64 0, .int .i64 0, .int .u64 0, .int .i64 0, .bool false, .int .i64 5, .int .u64 1, .int .u64 0, .int .i64 0, .int .u64 1] 21) := lk_top
  have hv : SlR ev7 7 B ((N.n 2, .cells [.int .i64 0, .bool true, .int .i64 5, .int .u64 1, .int .u64 0, .int .i64 0, .int .u64 0, .int .i64 1, .bool true, .int .i64 6, .int .u64 2, .int .u64 0, .int .i64 0, .int .u64 0, .int .i64 0, .bool false, .int .i64 5, .int .u64 1, .int .u64 0, .int .i64 0, .int .u64 1] 21) :: (N.n 1, .cells [.int .i64 6, .int .u64 2, .int .u64 0] 3) :: (N.n 0, .cells [.int .i64 5, .int .u64 1, .int .u64 0] 3) :: H) (.slice (some ⟨N.n 2, 0, none⟩) 3 3) l0 := (slN_new gB l0 rfl rfl rfl).rd ev7_len
  obtain ⟨v1, H1, N1, ec, g1, fr1, s1⟩ := calls' gC hv
  rw [l0_err] at ec
  rw [l0_cls] at s1
  obtain ⟨H2, N2, ew, g2, fr2⟩ := width g1 (hv.mono fr1)
  rw [l0_err, l0_wid] at ew
  have r1 := s1.rd cl9_len
  obtain ⟨v3, H3, N3, ee, g3, fr3, s3⟩ := events g2 (r1.mono fr2) (by decide) 3 (by omega)
  rw [l0_ev] at ee s3
  simp only at ee s3
  have fr13 := (fr1.trans fr2).trans fr3
  have k23 := fr13 _ _ k2
  have s4 := slN_new (cs := [.int .i64 0, .bool false, .int .i64 5, .int .u64 1, .int .u64 0, .int .i64 0, .int .u64 1]) (n := 1) (m := 7) (sz := 7) (f := ev7) g3 [⟨0, false, 5, 1, 0, 0, 1⟩] rfl rfl rfl
  obtain ⟨v5, H5, N5, eh, g5, fr5, _⟩ := calls' (good_new (k := .cells [.int .i64 0, .bool false, .int .i64 5, .int .u64 1, .int .u64 0, .int .i64 0, .int .u64 1] 7) g3) (s4.rd ev7_len)
  rw [l2_err] at eh
  have fr35 := (fr_new (k := .cells [.int .i64 0, .bool false, .int .i64 5, .int .u64 1, .int .u64 0, .int .i64 0, .int .u64 1] 7) g3 Fr.refl 0).trans fr5
  have k25 := fr35 _ _ k23
  have s6 := slN_new (cs := [.int .i64 0, .bool true, .int .i64 5, .int .u64 1, .int .u64 0, .int .i64 0, .int .u64 0, .int .i64 0, .bool true, .int .i64 5, .int .u64 1, .int .u64 0, .int .i64 0, .int .u64 0]) (n := 2) (m := 14) (sz := 7) (f := ev7) g5 [⟨0, true, 5, 1, 0, 0, 0⟩, ⟨0, true, 5, 1, 0, 0, 0⟩] rfl rfl rfl
  obtain ⟨v7, H7, N7, ei, g7, fr7, _⟩ := calls' (good_new (k := .cells [.int .i64 0, .bool true, .int .i64 5, .int .u64 1, .int .u64 0, .int .i64 0, .int .u64 0, .int .i64 0, .bool true, .int .i64 5, .int .u64 1, .int .u64 0, .int .i64 0, .int .u64 0] 14) g5) (s6.rd ev7_len)
  rw [l00_err] at ei
  have fr57 := (fr_new (k := .cells [.int .i64 0, .bool true, .int .i64 5, .int .u64 1, .int .u64 0, .int .i64 0, .int .u64 0, .int .i64 0, .bool true, .int .i64 5, .int .u64 1, .int .u64 0, .int .i64 0, .int .u64 0] 14) g5 Fr.refl 0).trans fr7
  have fr17 := (fr13.trans fr35).trans fr57
  have k07 := fr17 _ _ k0
  have k17 := fr17 _ _ k1
  have s8 := slN_new (cs := [.int .i64 0, .int .i64 5, .int .u64 1, .int .u64 0, .int .i64 0, .int .u64 1, .int .i64 0, .int .i64 2, .bool true, .int .i64 1, .int .i64 6, .int .u64 2, .int .u64 0, .int .i64 0, .int .u64 0, .int .i64 1, .int .i64 3, .bool false]) (n := 2) (m := 18) (sz := 9) (f := cl9) g7 d0 rfl rfl rfl
  have g8 := good_new (k := .cells [.int .i64 0, .int .i64 5, .int .u64 1, .int .u64 0, .int .i64 0, .int .u64 1, .int .i64 0, .int .i64 2, .bool true, .int .i64 1, .int .i64 6, .int .u64 2, .int .u64 0, .int .i64 0, .int .u64 0, .int .i64 1, .int .i64 3, .bool false] 18) g7
  have fr8 := fr_new (k := .cells [.int .i64 0, .int .i64 5, .int .u64 1, .int .u64 0, .int .i64 0, .int .u64 1, .int .i64 0, .int .i64 2, .bool true, .int .i64 1, .int .i64 6, .int .u64 2, .int .u64 0, .int .i64 0, .int .u64 0, .int .i64 1, .int .i64 3, .bool false] 18) g7 Fr.refl 0
  have es := same15 g8 (r1.mono (((fr2.trans fr3).trans (fr35.trans fr57)).trans fr8)) (s8.rd cl9_len) (by decide)
  rw [decide_eq_true rfl] at es
  have e6 := same16 g8 ((s3.rd ev7_len).mono ((fr35.trans fr57).trans fr8)) (hv.mono (fr17.trans fr8)) (by decide)
  rw [decide_eq_true rfl] at e6
  have a1 := f21 (B := B) hG ⟨0, 5, 1, 0, 0, 1, 0, 2, true⟩ ⟨1, 6, 2, 0, 0, 0, 1, 3, false⟩
  have a2 := f21 (B := B) hG ⟨0, 5, 1, 0, 0, 1, 0, 2, true⟩ ⟨0, 0, 0, 0, 0, 0, 3, 0, false⟩
  simp only at a1 a2
  obtain ⟨v9, H9, N9, eo, g9, fr9, s9⟩ := of17 g8 (hv.mono (fr17.trans fr8)) (by decide) 1
  have l9 := s9.len
  have fl1 : (flt l0 1).length = 1 := rfl
  rw [fl1] at l9
  have b3 := good_B g3
  have b5 := good_B g5
  have b7 := good_B g7
  have n3 := good_rdB g3
  have n5 := good_rdB g5
  have n7 := good_rdB g7
  simp -implicitDefEqProofs (maxSteps := 10000000) (disch := omega) only [T8, L8, G8_11, G8_13, G8_15, G8_16, G8_17, G8_19, G8_21, V21_eq, hB, hR, hI, lenV_sl, Int.toNat_natCast, bft, btf, gtst, st_len, ec, ew, ee, k23, eh, k25, ei, k07, k17, es, e6, a1, a2, eo, l9, b3, b5, b7, n3, n5, n7, pad, e_skip, e_ops, e_draw, d_none, d_nil, d_cons, d_ite, h_none, h_nil, h_cons, h_ite, eqS_same, lightV, e_seq, e_cond, e_block, e_exit, e_ret, s_normal, s_ret, s_exit, s_none, s_ite, b_normal, b_ret, b_exit, b_none, b_ite, c_bool, x_none, x_nil, x_cons, x_ite, p_some, p_none, p_ite, pt_some, pt_none, pv_some, pv_none, pv_ite, w_none, w_some, i_bool, i_undef, bt, bf, v_tmp, v_const, v_global, v_func, evs, f_normal, f_ret, f_none, f_ite, r_some, co_some, l_ptr, m_agg, m_one, sh_app, lk_nil, lk_cons, rd_eq, rdO_some, rdO_none, rdN_none, rdL_some, rdL_none, wrB_none, unitR_some, wr_nil, wr_here, wr_skip, k_cells, tk_zero, tk_take, tk_skip, tkC_some, call_func, gt, st, binV, arith, isSh, storeV, all1, idxAV, fieldV, faddrV, iaddrSV, iaddrAV, pickV, convV, unV, eqbV, eqpV, extV, mm2, mmV, nilckV, ress, res1, retV, Value.cells, cond_true, cond_false, Bool.true_or, Bool.false_or, Bool.or_true, Bool.or_false, beq_self_eq_true, if_true, if_false, ite_true, ite_false, decide_true, decide_false, decide_eq_true_eq, reduceIte, Nat.zero_add, Nat.add_zero, and_self, true_and, and_true, List.size_toArray, List.length_cons, List.length_nil, List.append_nil, List.nil_append, Int.toNat_zero, Bool.not_false, Bool.not_true, Bool.not_not, Bool.false_eq_true, Bool.true_eq_false, reduceCtorEq, Int.reduceLT, Int.reduceLE, Int.reduceToNat, Int.reduceAdd, Int.reduceSub, Int.reduceMul, Int.reduceNeg, Nat.reduceMul, Nat.reduceAdd, Nat.reduceSub, Nat.reduceBEq, Nat.reduceEqDiff, Nat.reduceLT, Nat.reduceLeDiff, Int.reduceBEq, Int.reduceEq, Nat.reducePow, Int.reducePow, IntWalk.i64_in, IntKind.bits, eqAV, eqL, leafEq, andO, fillV, buildSV, List.getElem?_toArray, List.getElem?_cons_zero, List.getElem?_cons_succ, List.getElem?_nil, Int.reduceGT, Int.reduceGE, Int.reduceBNe, Bool.true_and, Bool.and_true, Bool.false_and, Bool.and_false, Bool.and_self, IntWalk.u64_in, Int.cast_ofNat_Int, callF1, pad16, pad_0, pad_1, pad_2, pad_3, pad_4, pad_5, pad_6, pad_7, pad_8, pad_9, pad_10, pad_11, pad_12, pad_13, pad_14, pad_15, gc0, gc1, gc2, gc3, gc4, gc5, gc6, gc7, gc8, gc9, gc10, gc11, gc12, gc13, gc14, gc15, gcS, sc0, sc1, sc2, sc3, sc4, sc5, sc6, sc7, sc8, sc9, sc10, sc11, sc12, sc13, sc14, sc15, scS, List.drop_succ_cons, List.drop_nil, x_pan, s_pan, b_pan, pE_ret, pE_pan, pE_none, pE_ite, pvE_some, pvE_none, pvE_ite, rv_some, rv_none, rv_ite, oR_ret, t_mv, t_pick, t_alloc, t_box, t_build, t_buildS, t_load, t_store, t_nilck, t_bin, t_eqb, t_eqA, t_eqp, t_un, t_conv, t_field, t_idxA, t_faddr, t_iaddrS, t_iaddrA, t_ext, t_len, t_mm, t_call, t_ifc, t_fn, t_slc, t_slcA, t_slcT, t_tass, t_isn, t_mks, t_app, t_pan, panE_i, optE_none, optE_some, bnd_none, bnd_int, slA_none, slA_some, appR_some, appOld_cells, newsV_s, newsV_n, lenS_s, appV_nil, appV_some, mksV_i, sh_c, sh_g, f_pan, endD_ret, dfr_normal, dfr_ret, dfr_pan, restD_normal, callD1, callC1, tassV, isnV, slcV, slcAV, slcTV, slcB, appNew, Option.bind_some, Option.bind_none, d_pan, h_pan, wrH_eq, wrX_cells, wrU_some, upH_nil, upH_cons, lk_upH, effR_some, effR_none, effR_ite, Option.isNone_none, Option.isNone_some, slA_zero, call_yield, e_range, it_func, wy_same, y_call, isLp_self, beg_normal, end_normal, end_ret, end_exit, end_ite, aft_ret, aft_ready, aft_done, aft_exit, setP_cons, setP_nil, sh_r, t_mkmap, t_mlook, t_mupd, t_mdel, mapF_some, lookF_some, setM_some, lookR_t, lookR_n, lookR_f, lookR_fn, lookV, mupdV, mdelV, mkM]
  exact done2 (fr_den (((fC.trans fr17).trans fr8).trans fr9))
end Go.Proofs.Ytkohdcjeankhkaa
namespace Go.Proofs.Ytkohdcjeankhkaa
open Go.Proofs.Ytkohdcjeankhkaa.K Go.ChangeShapes Go.WideShapes Go.ChangeAt Go.RowKit
set_option maxRecDepth 100000
set_option linter.unusedSimpArgs false
set_option linter.unusedVariables false

/-- A slice of what there was at the start. -/
def SlC {α : Type} (f : α → List Value) (sz : Nat) (B : OH) (v : Value) (L : List α) : Prop :=
  ∃ a cap, v = .slice a L.length cap ∧ L.length ≤ cap ∧ (L = [] ∨ ∃ b o, a = some ⟨b, o, none⟩ ∧ rdB B b o (L.length * sz) = some (fl f L))
theorem tk_ex : ∀ (l : List Value) (o n : Nat), o + n ≤ l.length → ∃ r, tk l o n = some r
  | l, 0, 0, _ => ⟨[], by cases l <;> rfl⟩
  | [], o + 1, n, h => by simp at h
  | [], 0, n + 1, h => by simp at h
  | v :: l, 0, n + 1, h => by
    obtain ⟨r, hr⟩ := tk_ex l 0 n (by simpa using h)
    exact ⟨v :: r, by simp [tk, hr]⟩
  | _ :: l, o + 1, n, h => by
    obtain ⟨r, hr⟩ := tk_ex l o n (by simp at h; omega)
    exact ⟨r, by simpa [tk] using hr⟩
theorem SlC.rd {α : Type} {f : α → List Value} {sz : Nat} {W : World} {v : Value} {L : List α} (hf : ∀ a, (f a).length = sz) (h : SlC f sz (startB W) v L) : SlR f sz (startB W) [] v L := by
  obtain ⟨a, cap, rfl, h1, h3⟩ := h
  refine ⟨a, cap, rfl, h3.imp id ?_⟩
  rintro ⟨b, o, rfl, h4⟩
  refine ⟨b, o, rfl, ?_, fun H' _ i j n d hi hj => ?_⟩
  · unfold den
    cases hb : startB W b with
    | some k => rfl
    | none => simp [rdB, hb] at h4
  · have hm := Nat.mul_le_mul_right sz (show i + 1 ≤ L.length by omega)
    rw [Nat.succ_mul] at hm
    have h5 := rdB_sub (i := i * sz + j) (k := n) h4 (by omega)
    rw [tk_fl hf L i j n d hi hj, ← Nat.add_assoc] at h5
    obtain ⟨r, hr⟩ := tk_ex (f (L.getD i d)) j n (by rw [hf]; exact hj)
    rw [h5, hr, rdO_some]
def u64R (x : Int) : Prop := 0 ≤ x ∧ x < 18446744073709551616
def RawE (w : List Ev) : Prop := ∀ x ∈ w, i64R x.p ∧ i64R x.c ∧ u64R x.k ∧ u64R x.v ∧ i64R x.e ∧ u64R x.r
def RawC (w : List Cl) : Prop := ∀ x ∈ w, i64R x.p ∧ i64R x.c ∧ u64R x.k ∧ u64R x.v ∧ i64R x.e ∧ u64R x.r ∧ i64R x.f ∧ i64R x.t
theorem raw3_of : ∀ (L : List (List Lit)), (∀ m ∈ L, OKs [.int .i64, .int .i64, .int .i64] m) → ∃ K : List R3, K.length = L.length ∧ fl (fun m => m.map litV) L = fl r3 K ∧ RawR K
  | [], _ => ⟨[], rfl, rfl, by unfold RawR; simp⟩
  | x :: L, h => by
    obtain ⟨K, h1, h2, h3⟩ := raw3_of L fun m hm => h m (List.mem_cons_of_mem _ hm)
    have k0 := h x List.mem_cons_self
    obtain ⟨a0, m1, rfl, w0, k1⟩ := k0.int
    have b0 := i64_wf w0
    obtain ⟨a1, m2, rfl, w1, k2⟩ := k1.int
    have b1 := i64_wf w1
    obtain ⟨a2, m3, rfl, w2, k3⟩ := k2.int
    have b2 := i64_wf w2
    obtain rfl := k3.none
    refine ⟨(a0, a1, a2) :: K, by simp [h1], ?_, fun y hy => ?_⟩
    · simp only [fl, h2]; rfl
    · rcases List.mem_cons.1 hy with rfl | hy
      · exact ⟨b0, b1, b2⟩
      · exact h3 y hy
theorem raw3_open {W : World} {v : Value} (h : v = .slice none 0 0 ∨ (∃ a cap, v = .slice (some a) 0 cap) ∨ ∃ (b o cap : Nat) (L : List (List Lit)), v = .slice (some ⟨b, o, none⟩) L.length cap ∧ 0 < L.length ∧ L.length ≤ cap ∧ cap ≤ maxLen ∧ (∀ m ∈ L, OKs [.int .i64, .int .i64, .int .i64] m) ∧
      ∀ m, m ≤ L.length → rdB (startB W) b o (m * [LK.int .i64, LK.int .i64, LK.int .i64].length) = some (fl (fun m => m.map litV) (L.take m))) : ∃ K : List R3, SlC r3 3 (startB W) v K ∧ RawR K := by
  rcases h with rfl | ⟨a, cap, rfl⟩ | ⟨b, o, cap, L, rfl, h1, h2, h3, h4, h5⟩
  · exact ⟨[], ⟨none, 0, rfl, Nat.le_refl _, .inl rfl⟩, by unfold RawR; simp⟩
  · exact ⟨[], ⟨some a, cap, rfl, Nat.zero_le _, .inl rfl⟩, by unfold RawR; simp⟩
  · obtain ⟨K, e1, e2, e3⟩ := raw3_of L h4
    have h6 := h5 L.length (Nat.le_refl _)
    rw [List.take_length, e2] at h6
    refine ⟨K, ⟨some ⟨b, o, none⟩, cap, by rw [e1], by rw [e1]; exact h2, .inr ⟨b, o, rfl, ?_⟩⟩, e3⟩
    rw [e1]; exact h6
theorem evs_of : ∀ (L : List (List Lit)), (∀ m ∈ L, OKs [.int .i64, .bool, .int .i64, .int .u64, .int .u64, .int .i64, .int .u64] m) → ∃ K : List Ev, K.length = L.length ∧ fl (fun m => m.map litV) L = fl ev7 K ∧ RawE K
  | [], _ => ⟨[], rfl, rfl, by unfold RawE; simp⟩
  | x :: L, h => by
    obtain ⟨K, h1, h2, h3⟩ := evs_of L fun m hm => h m (List.mem_cons_of_mem _ hm)
    have k0 := h x List.mem_cons_self
    obtain ⟨a0, m1, rfl, w0, k1⟩ := k0.int
    have b0 := i64_wf w0
    obtain ⟨a1, m2, rfl, k2⟩ := k1.bool
    obtain ⟨a2, m3, rfl, w2, k3⟩ := k2.int
    have b2 := i64_wf w2
    obtain ⟨a3, m4, rfl, w3, k4⟩ := k3.int
    have b3 := u64_wf' w3
    obtain ⟨a4, m5, rfl, w4, k5⟩ := k4.int
    have b4 := u64_wf' w4
    obtain ⟨a5, m6, rfl, w5, k6⟩ := k5.int
    have b5 := i64_wf w5
    obtain ⟨a6, m7, rfl, w6, k7⟩ := k6.int
    have b6 := u64_wf' w6
    obtain rfl := k7.none
    refine ⟨⟨a0, a1, a2, a3, a4, a5, a6⟩ :: K, by simp [h1], ?_, fun y hy => ?_⟩
    · simp only [fl, h2]; rfl
    · rcases List.mem_cons.1 hy with rfl | hy
      · exact ⟨b0, b2, b3, b4, b5, b6⟩
      · exact h3 y hy
theorem evs_open {W : World} {v : Value} (h : v = .slice none 0 0 ∨ (∃ a cap, v = .slice (some a) 0 cap) ∨ ∃ (b o cap : Nat) (L : List (List Lit)), v = .slice (some ⟨b, o, none⟩) L.length cap ∧ 0 < L.length ∧ L.length ≤ cap ∧ cap ≤ maxLen ∧ (∀ m ∈ L, OKs [.int .i64, .bool, .int .i64, .int .u64, .int .u64, .int .i64, .int .u64] m) ∧
      ∀ m, m ≤ L.length → rdB (startB W) b o (m * [LK.int .i64, LK.bool, LK.int .i64, LK.int .u64, LK.int .u64, LK.int .i64, LK.int .u64].length) = some (fl (fun m => m.map litV) (L.take m))) : ∃ K : List Ev, SlC ev7 7 (startB W) v K ∧ RawE K := by
  rcases h with rfl | ⟨a, cap, rfl⟩ | ⟨b, o, cap, L, rfl, h1, h2, h3, h4, h5⟩
  · exact ⟨[], ⟨none, 0, rfl, Nat.le_refl _, .inl rfl⟩, by unfold RawE; simp⟩
  · exact ⟨[], ⟨some a, cap, rfl, Nat.zero_le _, .inl rfl⟩, by unfold RawE; simp⟩
  · obtain ⟨K, e1, e2, e3⟩ := evs_of L h4
    have h6 := h5 L.length (Nat.le_refl _)
    rw [List.take_length, e2] at h6
    refine ⟨K, ⟨some ⟨b, o, none⟩, cap, by rw [e1], by rw [e1]; exact h2, .inr ⟨b, o, rfl, ?_⟩⟩, e3⟩
    rw [e1]; exact h6
theorem cls9_of : ∀ (L : List (List Lit)), (∀ m ∈ L, OKs [.int .i64, .int .i64, .int .u64, .int .u64, .int .i64, .int .u64, .int .i64, .int .i64, .bool] m) → ∃ K : List Cl, K.length = L.length ∧ fl (fun m => m.map litV) L = fl cl9 K ∧ RawC K
  | [], _ => ⟨[], rfl, rfl, by unfold RawC; simp⟩
  | x :: L, h => by
    obtain ⟨K, h1, h2, h3⟩ := cls9_of L fun m hm => h m (List.mem_cons_of_mem _ hm)
    have k0 := h x List.mem_cons_self
    obtain ⟨a0, m1, rfl, w0, k1⟩ := k0.int
    have b0 := i64_wf w0
    obtain ⟨a1, m2, rfl, w1, k2⟩ := k1.int
    have b1 := i64_wf w1
    obtain ⟨a2, m3, rfl, w2, k3⟩ := k2.int
    have b2 := u64_wf' w2
    obtain ⟨a3, m4, rfl, w3, k4⟩ := k3.int
    have b3 := u64_wf' w3
    obtain ⟨a4, m5, rfl, w4, k5⟩ := k4.int
    have b4 := i64_wf w4
    obtain ⟨a5, m6, rfl, w5, k6⟩ := k5.int
    have b5 := u64_wf' w5
    obtain ⟨a6, m7, rfl, w6, k7⟩ := k6.int
    have b6 := i64_wf w6
    obtain ⟨a7, m8, rfl, w7, k8⟩ := k7.int
    have b7 := i64_wf w7
    obtain ⟨a8, m9, rfl, k9⟩ := k8.bool
    obtain rfl := k9.none
    refine ⟨⟨a0, a1, a2, a3, a4, a5, a6, a7, a8⟩ :: K, by simp [h1], ?_, fun y hy => ?_⟩
    · simp only [fl, h2]; rfl
    · rcases List.mem_cons.1 hy with rfl | hy
      · exact ⟨b0, b1, b2, b3, b4, b5, b6, b7⟩
      · exact h3 y hy
theorem cls9_open {W : World} {v : Value} (h : v = .slice none 0 0 ∨ (∃ a cap, v = .slice (some a) 0 cap) ∨ ∃ (b o cap : Nat) (L : List (List Lit)), v = .slice (some ⟨b, o, none⟩) L.length cap ∧ 0 < L.length ∧ L.length ≤ cap ∧ cap ≤ maxLen ∧ (∀ m ∈ L, OKs [.int .i64, .int .i64, .int .u64, .int .u64, .int .i64, .int .u64, .int .i64, .int .i64, .bool] m) ∧
      ∀ m, m ≤ L.length → rdB (startB W) b o (m * [LK.int .i64, LK.int .i64, LK.int .u64, LK.int .u64, LK.int .i64, LK.int .u64, LK.int .i64, LK.int .i64, LK.bool].length) = some (fl (fun m => m.map litV) (L.take m))) : ∃ K : List Cl, SlC cl9 9 (startB W) v K ∧ RawC K := by
  rcases h with rfl | ⟨a, cap, rfl⟩ | ⟨b, o, cap, L, rfl, h1, h2, h3, h4, h5⟩
  · exact ⟨[], ⟨none, 0, rfl, Nat.le_refl _, .inl rfl⟩, by unfold RawC; simp⟩
  · exact ⟨[], ⟨some a, cap, rfl, Nat.zero_le _, .inl rfl⟩, by unfold RawC; simp⟩
  · obtain ⟨K, e1, e2, e3⟩ := cls9_of L h4
    have h6 := h5 L.length (Nat.le_refl _)
    rw [List.take_length, e2] at h6
    refine ⟨K, ⟨some ⟨b, o, none⟩, cap, by rw [e1], by rw [e1]; exact h2, .inr ⟨b, o, rfl, ?_⟩⟩, e3⟩
    rw [e1]; exact h6
end Go.Proofs.Ytkohdcjeankhkaa
