/- What awake of the laws of the package treap answers; parts of trees; what a given slice holds. -/
import Derived.Test.YtlkeeckhileedaaDoorOwnB
set_option linter.unusedSimpArgs false
set_option linter.unusedVariables false
namespace Go.Proofs.YtlkeeckhileedaaDoor
open Go.Proofs.YtlkeeckhileedaaDoor.K Go.ChangeShapes Go.WideShapes Go.ChangeAt Go.RowKit
set_option maxRecDepth 100000
set_option linter.unusedSimpArgs false
set_option linter.unusedVariables false

def k07 : List Int := [0, 7]
def l07 : List P2 := [⟨0, 0⟩, ⟨1, 0⟩]
theorem f07 : fK k07 1 > fK k07 0 := by decide +kernel
theorem a07 : amx (fK k07) 0 1 = 1 := if_pos f07
theorem b07 : bErr k07 = 0 := bErr_asc (by decide) (fun i hi => by
  have : i + 1 < 2 := hi
  obtain rfl : i = 0 := by omega
  decide)
theorem T_c {f : Nat → Int} {a n : Nat} (h : n = 1) : T f a n = (a + 1, [(0, 0)]) := by
  subst h
  rw [T_succ, show amx f a 0 = a from rfl]
  simp [T_zero]
theorem t07 : T (fK k07) 0 2 = (2, [(0, 0), (1, 0)]) := by
  rw [T_succ, a07, T_c (by rfl), show 0 + 1 - 1 = 0 from rfl, T_zero]
  rfl
theorem r07 : bRoot k07 = 2 := by rw [bRoot_0 b07, show k07.length = 2 from rfl, t07]; rfl
theorem n07 : bLinks k07 = l07 := by rw [bLinks_0 b07, show k07.length = 2 from rfl, t07]; rfl
theorem e7 : bErr [7] = 0 := bErr_asc (by decide) (fun i hi => by
  have : i + 1 < 1 := hi
  omega)
theorem t7 : T (fK [7]) 0 1 = (1, [(0, 0)]) := by
  rw [T_c rfl]
theorem r7 : bRoot [7] = 1 := by rw [bRoot_0 e7, show ([7] : List Int).length = 1 from rfl, t7]; rfl
theorem n7 : bLinks [7] = [⟨0, 0⟩] := by rw [bLinks_0 e7, show ([7] : List Int).length = 1 from rfl, t7]; rfl
theorem e21 : bErr [2, 1] = 1 := bErr_not (by decide) (fun h => by
  have := h 0 (by decide)
  revert this; decide)
theorem o07 : rOk k07 2 l07 = true := by unfold rOk; rw [b07, r07, n07]; decide
theorem o071 (l : List P2) : rOk k07 1 l = false := by unfold rOk; rw [r07]; simp
theorem p0 : Pth k07 0 0 2 = [2, 1] := by
  rw [Pth_succ, a07, if_neg (by decide), if_pos (by decide), show 1 - 0 = 0 + 1 by rfl, Pth_succ, show amx (fK k07) 0 0 = 0 from rfl, if_pos (by decide)]
theorem p7 : Pth k07 7 0 2 = [2] := by
  rw [Pth_succ, a07, if_pos (by decide)]
theorem nx0 : nxt k07 2 l07 0 = 1 := by unfold nxt; rw [if_pos o07, show k07.length = 2 from rfl, p0]; decide
theorem nx7 : nxt k07 2 l07 7 = 2 := by unfold nxt; rw [if_pos o07, show k07.length = 2 from rfl, p7]; decide
theorem fn7 : fnd k07 2 l07 7 = 2 := by unfold fnd; rw [nx7]; decide
theorem u07 : U64s k07 := by intro x hx; simp [k07] at hx; rcases hx with rfl | rfl <;> (unfold u64R; omega)
theorem u7 : U64s [7] := by intro x hx; simp at hx; subst hx; unfold u64R; omega
theorem u21 : U64s [2, 1] := by intro x hx; simp at hx; rcases hx with rfl | rfl <;> (unfold u64R; omega)
theorem slc1 {b n c : Nat} : (Value.slice (some ⟨b, 0, none⟩) n c).cells = #[.slice (some ⟨b, 0, none⟩) n c] := rfl
/-- whitewash/whitewashlaw08.awake -/
def L8 : FnL := ⟨(.seq (.ops [⟨(some 0), .mv (.const (.bool false)), none⟩])
 (.seq (.ops [⟨(some 16), .buildS [(.int .u64 0), (.int .u64 0)] 2 [(0, 1, (.const (.int .u64 0))), (1, 1, (.const (.int .u64 7)))], none⟩, ⟨(some 17), .call (.func 10) [(.tmp 16)], none⟩, ⟨(some 15), .mv (.tmp 17), none⟩, ⟨(some 18), .ext (.tmp 15) 0, none⟩, ⟨(some 19), .ext (.tmp 15) 1, none⟩, ⟨(some 20), .ext (.tmp 15) 2, none⟩, ⟨(some 1), .mv (.tmp 18), none⟩, ⟨(some 2), .mv (.tmp 19), none⟩, ⟨(some 3), .mv (.tmp 20), none⟩])
 (.seq (.ops [⟨(some 22), .buildS [(.int .u64 0)] 1 [(0, 1, (.const (.int .u64 7)))], none⟩, ⟨(some 23), .call (.func 10) [(.tmp 22)], none⟩, ⟨(some 21), .mv (.tmp 23), none⟩, ⟨(some 24), .ext (.tmp 21) 0, none⟩, ⟨(some 25), .ext (.tmp 21) 1, none⟩, ⟨(some 26), .ext (.tmp 21) 2, none⟩, ⟨(some 4), .mv (.tmp 24), none⟩, ⟨(some 5), .mv (.tmp 25), none⟩, ⟨(some 6), .mv (.tmp 26), none⟩])
 (.seq (.ops [⟨(some 28), .buildS [(.int .u64 0), (.int .u64 0)] 2 [(0, 1, (.const (.int .u64 2))), (1, 1, (.const (.int .u64 1)))], none⟩, ⟨(some 29), .call (.func 10) [(.tmp 28)], none⟩, ⟨(some 27), .mv (.tmp 29), none⟩, ⟨(some 30), .ext (.tmp 27) 0, none⟩, ⟨(some 31), .ext (.tmp 27) 1, none⟩, ⟨(some 32), .ext (.tmp 27) 2, none⟩, ⟨(some 7), .mv (.tmp 30), none⟩, ⟨(some 8), .mv (.tmp 31), none⟩, ⟨(some 9), .mv (.tmp 32), none⟩])
 (.seq (.ops [⟨(some 34), .buildS [(.int .u64 0), (.int .u64 0)] 2 [(0, 1, (.const (.int .u64 0))), (1, 1, (.const (.int .u64 7)))], none⟩, ⟨(some 35), .build [(.int .i64 0), (.int .i64 0)] [(0, 1, (.const (.int .i64 0))), (1, 1, (.const (.int .i64 0)))], none⟩, ⟨(some 36), .build [(.int .i64 0), (.int .i64 0)] [(0, 1, (.const (.int .i64 1))), (1, 1, (.const (.int .i64 0)))], none⟩, ⟨(some 37), .buildS [(.int .i64 0), (.int .i64 0), (.int .i64 0), (.int .i64 0)] 2 [(0, 2, (.tmp 35)), (2, 2, (.tmp 36))], none⟩, ⟨(some 38), .call (.func 18) [(.tmp 34), (.const (.int .i64 2)), (.tmp 37), (.const (.int .u64 0))], none⟩, ⟨(some 33), .mv (.tmp 38), none⟩, ⟨(some 39), .ext (.tmp 33) 0, none⟩, ⟨(some 40), .ext (.tmp 33) 1, none⟩, ⟨(some 10), .mv (.tmp 39), none⟩, ⟨(some 11), .mv (.tmp 40), none⟩])
 (.seq (.ops [⟨(some 41), .buildS [(.int .u64 0), (.int .u64 0)] 2 [(0, 1, (.const (.int .u64 0))), (1, 1, (.const (.int .u64 7)))], none⟩, ⟨(some 42), .build [(.int .i64 0), (.int .i64 0)] [(0, 1, (.const (.int .i64 0))), (1, 1, (.const (.int .i64 0)))], none⟩, ⟨(some 43), .build [(.int .i64 0), (.int .i64 0)] [(0, 1, (.const (.int .i64 1))), (1, 1, (.const (.int .i64 0)))], none⟩, ⟨(some 44), .buildS [(.int .i64 0), (.int .i64 0), (.int .i64 0), (.int .i64 0)] 2 [(0, 2, (.tmp 42)), (2, 2, (.tmp 43))], none⟩, ⟨(some 45), .call (.func 21) [(.tmp 41), (.const (.int .i64 2)), (.tmp 44), (.const (.int .u64 0))], none⟩, ⟨(some 12), .mv (.tmp 45), none⟩])
 (.seq (.ops [⟨(some 47), .buildS [(.int .u64 0), (.int .u64 0)] 2 [(0, 1, (.const (.int .u64 0))), (1, 1, (.const (.int .u64 7)))], none⟩, ⟨(some 48), .build [(.int .i64 0), (.int .i64 0)] [(0, 1, (.const (.int .i64 0))), (1, 1, (.const (.int .i64 0)))], none⟩, ⟨(some 49), .build [(.int .i64 0), (.int .i64 0)] [(0, 1, (.const (.int .i64 1))), (1, 1, (.const (.int .i64 0)))], none⟩, ⟨(some 50), .buildS [(.int .i64 0), (.int .i64 0), (.int .i64 0), (.int .i64 0)] 2 [(0, 2, (.tmp 48)), (2, 2, (.tmp 49))], none⟩, ⟨(some 51), .call (.func 16) [(.tmp 47), (.const (.int .i64 2)), (.tmp 50), (.const (.int .u64 7))], none⟩, ⟨(some 46), .mv (.tmp 51), none⟩, ⟨(some 52), .ext (.tmp 46) 0, none⟩, ⟨(some 53), .ext (.tmp 46) 1, none⟩, ⟨(some 13), .mv (.tmp 52), none⟩, ⟨(some 14), .mv (.tmp 53), none⟩])
 (.seq (.ops [⟨(some 54), .mv (.tmp 3), none⟩, ⟨(some 55), .bin .eql (.tmp 54) (.const (.int .i64 0)), none⟩, ⟨(some 56), .mv (.tmp 55), none⟩, ⟨(some 57), .mv (.tmp 1), (some (56, true))⟩, ⟨(some 58), .bin .eql (.tmp 57) (.const (.int .i64 2)), (some (56, true))⟩, ⟨(some 59), .pick (.tmp 56) (.tmp 58) (.const (.bool false)), none⟩, ⟨(some 60), .mv (.tmp 59), none⟩, ⟨(some 61), .mv (.tmp 2), (some (60, true))⟩, ⟨(some 62), .build [(.int .i64 0), (.int .i64 0)] [(0, 1, (.const (.int .i64 0))), (1, 1, (.const (.int .i64 0)))], (some (60, true))⟩, ⟨(some 63), .build [(.int .i64 0), (.int .i64 0)] [(0, 1, (.const (.int .i64 1))), (1, 1, (.const (.int .i64 0)))], (some (60, true))⟩, ⟨(some 64), .buildS [(.int .i64 0), (.int .i64 0), (.int .i64 0), (.int .i64 0)] 2 [(0, 2, (.tmp 62)), (2, 2, (.tmp 63))], (some (60, true))⟩, ⟨(some 65), .call (.func 12) [(.tmp 61), (.tmp 64)], (some (60, true))⟩, ⟨(some 66), .pick (.tmp 60) (.tmp 65) (.const (.bool false)), none⟩, ⟨(some 67), .mv (.tmp 66), none⟩, ⟨(some 68), .mv (.tmp 6), (some (67, true))⟩, ⟨(some 69), .bin .eql (.tmp 68) (.const (.int .i64 0)), (some (67, true))⟩, ⟨(some 70), .pick (.tmp 67) (.tmp 69) (.const (.bool false)), none⟩, ⟨(some 71), .mv (.tmp 70), none⟩, ⟨(some 72), .mv (.tmp 4), (some (71, true))⟩, ⟨(some 73), .bin .eql (.tmp 72) (.const (.int .i64 1)), (some (71, true))⟩, ⟨(some 74), .pick (.tmp 71) (.tmp 73) (.const (.bool false)), none⟩, ⟨(some 75), .mv (.tmp 74), none⟩, ⟨(some 76), .mv (.tmp 5), (some (75, true))⟩, ⟨(some 77), .build [(.int .i64 0), (.int .i64 0)] [(0, 1, (.const (.int .i64 0))), (1, 1, (.const (.int .i64 0)))], (some (75, true))⟩, ⟨(some 78), .buildS [(.int .i64 0), (.int .i64 0)] 1 [(0, 2, (.tmp 77))], (some (75, true))⟩, ⟨(some 79), .call (.func 12) [(.tmp 76), (.tmp 78)], (some (75, true))⟩, ⟨(some 80), .pick (.tmp 75) (.tmp 79) (.const (.bool false)), none⟩, ⟨(some 81), .mv (.tmp 80), none⟩, ⟨(some 82), .mv (.tmp 9), (some (81, true))⟩, ⟨(some 83), .bin .eql (.tmp 82) (.const (.int .i64 1)), (some (81, true))⟩, ⟨(some 84), .pick (.tmp 81) (.tmp 83) (.const (.bool false)), none⟩, ⟨(some 85), .mv (.tmp 84), none⟩, ⟨(some 86), .mv (.tmp 10), (some (85, true))⟩, ⟨(some 87), .bin .eql (.tmp 86) (.const (.int .i64 1)), (some (85, true))⟩, ⟨(some 88), .pick (.tmp 85) (.tmp 87) (.const (.bool false)), none⟩, ⟨(some 89), .mv (.tmp 88), none⟩, ⟨(some 90), .mv (.tmp 11), (some (89, true))⟩, ⟨(some 91), .pick (.tmp 89) (.tmp 90) (.const (.bool false)), none⟩, ⟨(some 92), .mv (.tmp 91), none⟩, ⟨(some 93), .mv (.tmp 12), (some (92, true))⟩, ⟨(some 94), .buildS [(.int .i64 0), (.int .i64 0)] 2 [(0, 1, (.const (.int .i64 2))), (1, 1, (.const (.int .i64 1)))], (some (92, true))⟩, ⟨(some 95), .call (.func 20) [(.tmp 93), (.tmp 94)], (some (92, true))⟩, ⟨(some 96), .pick (.tmp 92) (.tmp 95) (.const (.bool false)), none⟩, ⟨(some 97), .mv (.tmp 96), none⟩, ⟨(some 98), .mv (.tmp 13), (some (97, true))⟩, ⟨(some 99), .bin .eql (.tmp 98) (.const (.int .i64 2)), (some (97, true))⟩, ⟨(some 100), .pick (.tmp 97) (.tmp 99) (.const (.bool false)), none⟩, ⟨(some 101), .mv (.tmp 100), none⟩, ⟨(some 102), .mv (.tmp 14), (some (101, true))⟩, ⟨(some 103), .pick (.tmp 101) (.tmp 102) (.const (.bool false)), none⟩, ⟨(some 104), .mv (.tmp 103), none⟩, ⟨(some 105), .buildS [(.int .u64 0), (.int .u64 0)] 2 [(0, 1, (.const (.int .u64 0))), (1, 1, (.const (.int .u64 7)))], (some (104, true))⟩, ⟨(some 106), .build [(.int .i64 0), (.int .i64 0)] [(0, 1, (.const (.int .i64 0))), (1, 1, (.const (.int .i64 2)))], (some (104, true))⟩, ⟨(some 107), .build [(.int .i64 0), (.int .i64 0)] [(0, 1, (.const (.int .i64 0))), (1, 1, (.const (.int .i64 0)))], (some (104, true))⟩, ⟨(some 108), .buildS [(.int .i64 0), (.int .i64 0), (.int .i64 0), (.int .i64 0)] 2 [(0, 2, (.tmp 106)), (2, 2, (.tmp 107))], (some (104, true))⟩, ⟨(some 109), .call (.func 13) [(.tmp 105), (.const (.int .i64 1)), (.tmp 108)], (some (104, true))⟩, ⟨(some 110), .un .not (.tmp 109), (some (104, true))⟩, ⟨(some 111), .pick (.tmp 104) (.tmp 110) (.const (.bool false)), none⟩, ⟨(some 0), .mv (.tmp 111), none⟩])
 .ret)))))))),
 112, [.tmp 0]⟩
theorem low8 : lowerFn Tryd.prog Tryd.f8 = some L8 := by kernel_rfl
noncomputable def G8 (B : OH) : Nat → Cs
  | 10 => V10 B
  | 12 => V12 B
  | 13 => V13 B
  | 16 => V16 B
  | 18 => V18 B
  | 20 => V20 B
  | 21 => V21 B
  | _ => fun _ _ _ => none
theorem G8_10 {B : OH} : G8 B 10 = V10 B := rfl
theorem G8_12 {B : OH} : G8 B 12 = V12 B := rfl
theorem G8_13 {B : OH} : G8 B 13 = V13 B := rfl
theorem G8_16 {B : OH} : G8 B 16 = V16 B := rfl
theorem G8_18 {B : OH} : G8 B 18 = V18 B := rfl
theorem G8_20 {B : OH} : G8 B 20 = V20 B := rfl
theorem G8_21 {B : OH} : G8 B 21 = V21 B := rfl
theorem sG8 {w0 : World} {B : OH} : SoundG Tryd.prog w0 B { f := G8 B } := .of fun k => by
  unfold G8
  split
  · exact .inr ⟨en10, sV10⟩
  · exact .inr ⟨en12, sV12⟩
  · exact .inr ⟨en13, sV13⟩
  · exact .inr ⟨en16, sV16⟩
  · exact .inr ⟨en18, sV18⟩
  · exact .inr ⟨en20, sV20⟩
  · exact .inr ⟨en21, sV21⟩
  · exact .inl fun _ _ _ => rfl
theorem en8 : Enter Tryd.prog 8 := .of Tryd.func8 (by kernel_rfl) (by kernel_rfl)
noncomputable def T8 (B : OH) : Cs := callF B { f := G8 B } 1300 L8
theorem sT8 {w0 : World} {B : OH} : SoundC Tryd.prog w0 B 8 (T8 B) := callF_sound mixedOrders sG8 1300 Tryd.func8 low8
noncomputable def V8 (B : OH) : Cs := T8 B
theorem sV8 {w0 : World} {B : OH} : SoundC Tryd.prog w0 B 8 (V8 B) := sT8
set_option maxHeartbeats 8000000 in
theorem awake8 {B : OH} {H : HL} {N : St} (hT : Tab B) (hN : good B H N) : ∃ H' N', V8 B [] H N = some (.ret (.bool true), H', N') ∧ good B H' N' ∧ Fr H H' := by
  have hB := good_B hN
  have hR := good_rdB hN
  have hI := beqN hN.1.1
  have hsA : SlR w1 1 B ((N.n 0, .cells [.int .u64 0, .int .u64 7] 2) :: H) (.slice (some ⟨N.n 0, 0, none⟩) 2 2) [0, 7] := (slN_new (cs := [.int .u64 0, .int .u64 7]) (n := 2) (m := 2) (sz := 1) (f := w1) hN [0, 7] rfl rfl rfl).rd w1_len
  have gA : good B ((N.n 0, .cells [.int .u64 0, .int .u64 7] 2) :: H) (sh N) := good_new hN
  have fnA : Fr H ((N.n 0, .cells [.int .u64 0, .int .u64 7] 2) :: H) := fr_new hN Fr.refl 0
  obtain ⟨v1, H1, N1, e1, gg1, fx1, t1⟩ := build (K := k07) hT gA hsA u07
  have hsA := hsA.mono fx1
  have hr1 := t1.rd p2_len
  have hsB : SlR w1 1 B ((N1.n 0, .cells [.int .u64 7] 1) :: H1) (.slice (some ⟨N1.n 0, 0, none⟩) 1 1) [7] := (slN_new (cs := [.int .u64 7]) (n := 1) (m := 1) (sz := 1) (f := w1) gg1 [7] rfl rfl rfl).rd w1_len
  have gB : good B ((N1.n 0, .cells [.int .u64 7] 1) :: H1) (sh N1) := good_new gg1
  have fnB : Fr H1 ((N1.n 0, .cells [.int .u64 7] 1) :: H1) := fr_new gg1 Fr.refl 0
  have hsA := hsA.mono fnB
  have hr1 := hr1.mono fnB
  obtain ⟨v2, H2, N2, e2, gg2, fx2, t2⟩ := build (K := [7]) hT gB hsB u7
  have hsA := hsA.mono fx2
  have hr1 := hr1.mono fx2
  have hsB := hsB.mono fx2
  have hr2 := t2.rd p2_len
  have hsC : SlR w1 1 B ((N2.n 0, .cells [.int .u64 2, .int .u64 1] 2) :: H2) (.slice (some ⟨N2.n 0, 0, none⟩) 2 2) [2, 1] := (slN_new (cs := [.int .u64 2, .int .u64 1]) (n := 2) (m := 2) (sz := 1) (f := w1) gg2 [2, 1] rfl rfl rfl).rd w1_len
  have gC : good B ((N2.n 0, .cells [.int .u64 2, .int .u64 1] 2) :: H2) (sh N2) := good_new gg2
  have fnC : Fr H2 ((N2.n 0, .cells [.int .u64 2, .int .u64 1] 2) :: H2) := fr_new gg2 Fr.refl 0
  have hsA := hsA.mono fnC
  have hr1 := hr1.mono fnC
  have hsB := hsB.mono fnC
  have hr2 := hr2.mono fnC
  obtain ⟨v3, H3, N3, e3, gg3, fx3, t3⟩ := build (K := [2, 1]) hT gC hsC u21
  have hsA := hsA.mono fx3
  have hr1 := hr1.mono fx3
  have hsB := hsB.mono fx3
  have hr2 := hr2.mono fx3
  have hsC := hsC.mono fx3
  have hr3 := t3.rd p2_len
  have hsD : SlR w1 1 B ((N3.n 0, .cells [.int .u64 0, .int .u64 7] 2) :: H3) (.slice (some ⟨N3.n 0, 0, none⟩) 2 2) [0, 7] := (slN_new (cs := [.int .u64 0, .int .u64 7]) (n := 2) (m := 2) (sz := 1) (f := w1) gg3 [0, 7] rfl rfl rfl).rd w1_len
  have gD : good B ((N3.n 0, .cells [.int .u64 0, .int .u64 7] 2) :: H3) (sh N3) := good_new gg3
  have fnD : Fr H3 ((N3.n 0, .cells [.int .u64 0, .int .u64 7] 2) :: H3) := fr_new gg3 Fr.refl 0
  have hsA := hsA.mono fnD
  have hr1 := hr1.mono fnD
  have hsB := hsB.mono fnD
  have hr2 := hr2.mono fnD
  have hsC := hsC.mono fnD
  have hr3 := hr3.mono fnD
  have hsE : SlR p2 2 B ((N3.n 1, .cells [.int .i64 0, .int .i64 0, .int .i64 1, .int .i64 0] 4) :: ((N3.n 0, .cells [.int .u64 0, .int .u64 7] 2) :: H3)) (.slice (some ⟨N3.n 1, 0, none⟩) 2 2) [⟨0, 0⟩, ⟨1, 0⟩] := (slN_new (cs := [.int .i64 0, .int .i64 0, .int .i64 1, .int .i64 0]) (n := 2) (m := 4) (sz := 2) (f := p2) gD [⟨0, 0⟩, ⟨1, 0⟩] rfl rfl rfl).rd p2_len
  have gE : good B ((N3.n 1, .cells [.int .i64 0, .int .i64 0, .int .i64 1, .int .i64 0] 4) :: ((N3.n 0, .cells [.int .u64 0, .int .u64 7] 2) :: H3)) (sh (sh N3)) := good_new gD
  have fnE : Fr ((N3.n 0, .cells [.int .u64 0, .int .u64 7] 2) :: H3) ((N3.n 1, .cells [.int .i64 0, .int .i64 0, .int .i64 1, .int .i64 0] 4) :: ((N3.n 0, .cells [.int .u64 0, .int .u64 7] 2) :: H3)) := fr_new gD Fr.refl 0
  have hsA := hsA.mono fnE
  have hr1 := hr1.mono fnE
  have hsB := hsB.mono fnE
  have hr2 := hr2.mono fnE
  have hsC := hsC.mono fnE
  have hr3 := hr3.mono fnE
  have hsD := hsD.mono fnE
  obtain ⟨H4, N4, e4, gg4, fx4⟩ := next18 (K := k07) (links := l07) (root := 2) (key := 0) hT gE hsD u07 hsE
  have hsA := hsA.mono fx4
  have hr1 := hr1.mono fx4
  have hsB := hsB.mono fx4
  have hr2 := hr2.mono fx4
  have hsC := hsC.mono fx4
  have hr3 := hr3.mono fx4
  have hsD := hsD.mono fx4
  have hsE := hsE.mono fx4
  have hsF : SlR w1 1 B ((N4.n 0, .cells [.int .u64 0, .int .u64 7] 2) :: H4) (.slice (some ⟨N4.n 0, 0, none⟩) 2 2) [0, 7] := (slN_new (cs := [.int .u64 0, .int .u64 7]) (n := 2) (m := 2) (sz := 1) (f := w1) gg4 [0, 7] rfl rfl rfl).rd w1_len
  have gF : good B ((N4.n 0, .cells [.int .u64 0, .int .u64 7] 2) :: H4) (sh N4) := good_new gg4
  have fnF : Fr H4 ((N4.n 0, .cells [.int .u64 0, .int .u64 7] 2) :: H4) := fr_new gg4 Fr.refl 0
  have hsA := hsA.mono fnF
  have hr1 := hr1.mono fnF
  have hsB := hsB.mono fnF
  have hr2 := hr2.mono fnF
  have hsC := hsC.mono fnF
  have hr3 := hr3.mono fnF
  have hsD := hsD.mono fnF
  have hsE := hsE.mono fnF
  have hsG : SlR p2 2 B ((N4.n 1, .cells [.int .i64 0, .int .i64 0, .int .i64 1, .int .i64 0] 4) :: ((N4.n 0, .cells [.int .u64 0, .int .u64 7] 2) :: H4)) (.slice (some ⟨N4.n 1, 0, none⟩) 2 2) [⟨0, 0⟩, ⟨1, 0⟩] := (slN_new (cs := [.int .i64 0, .int .i64 0, .int .i64 1, .int .i64 0]) (n := 2) (m := 4) (sz := 2) (f := p2) gF [⟨0, 0⟩, ⟨1, 0⟩] rfl rfl rfl).rd p2_len
  have gG : good B ((N4.n 1, .cells [.int .i64 0, .int .i64 0, .int .i64 1, .int .i64 0] 4) :: ((N4.n 0, .cells [.int .u64 0, .int .u64 7] 2) :: H4)) (sh (sh N4)) := good_new gF
  have fnG : Fr ((N4.n 0, .cells [.int .u64 0, .int .u64 7] 2) :: H4) ((N4.n 1, .cells [.int .i64 0, .int .i64 0, .int .i64 1, .int .i64 0] 4) :: ((N4.n 0, .cells [.int .u64 0, .int .u64 7] 2) :: H4)) := fr_new gF Fr.refl 0
  have hsA := hsA.mono fnG
  have hr1 := hr1.mono fnG
  have hsB := hsB.mono fnG
  have hr2 := hr2.mono fnG
  have hsC := hsC.mono fnG
  have hr3 := hr3.mono fnG
  have hsD := hsD.mono fnG
  have hsE := hsE.mono fnG
  have hsF := hsF.mono fnG
  obtain ⟨v5, H5, N5, e5, gg5, fx5, t5⟩ := path21 (K := k07) (links := l07) (root := 2) (key := 0) hT gG hsF u07 hsG rfl rfl
  have hsA := hsA.mono fx5
  have hr1 := hr1.mono fx5
  have hsB := hsB.mono fx5
  have hr2 := hr2.mono fx5
  have hsC := hsC.mono fx5
  have hr3 := hr3.mono fx5
  have hsD := hsD.mono fx5
  have hsE := hsE.mono fx5
  have hsF := hsF.mono fx5
  have hsG := hsG.mono fx5
  have hr5 := t5.rd f1_len
  have hsI : SlR w1 1 B ((N5.n 0, .cells [.int .u64 0, .int .u64 7] 2) :: H5) (.slice (some ⟨N5.n 0, 0, none⟩) 2 2) [0, 7] := (slN_new (cs := [.int .u64 0, .int .u64 7]) (n := 2) (m := 2) (sz := 1) (f := w1) gg5 [0, 7] rfl rfl rfl).rd w1_len
  have gI : good B ((N5.n 0, .cells [.int .u64 0, .int .u64 7] 2) :: H5) (sh N5) := good_new gg5
  have fnI : Fr H5 ((N5.n 0, .cells [.int .u64 0, .int .u64 7] 2) :: H5) := fr_new gg5 Fr.refl 0
  have hsA := hsA.mono fnI
  have hr1 := hr1.mono fnI
  have hsB := hsB.mono fnI
  have hr2 := hr2.mono fnI
  have hsC := hsC.mono fnI
  have hr3 := hr3.mono fnI
  have hsD := hsD.mono fnI
  have hsE := hsE.mono fnI
  have hsF := hsF.mono fnI
  have hsG := hsG.mono fnI
  have hr5 := hr5.mono fnI
  have hsJ : SlR p2 2 B ((N5.n 1, .cells [.int .i64 0, .int .i64 0, .int .i64 1, .int .i64 0] 4) :: ((N5.n 0, .cells [.int .u64 0, .int .u64 7] 2) :: H5)) (.slice (some ⟨N5.n 1, 0, none⟩) 2 2) [⟨0, 0⟩, ⟨1, 0⟩] := (slN_new (cs := [.int .i64 0, .int .i64 0, .int .i64 1, .int .i64 0]) (n := 2) (m := 4) (sz := 2) (f := p2) gI [⟨0, 0⟩, ⟨1, 0⟩] rfl rfl rfl).rd p2_len
  have gJ : good B ((N5.n 1, .cells [.int .i64 0, .int .i64 0, .int .i64 1, .int .i64 0] 4) :: ((N5.n 0, .cells [.int .u64 0, .int .u64 7] 2) :: H5)) (sh (sh N5)) := good_new gI
  have fnJ : Fr ((N5.n 0, .cells [.int .u64 0, .int .u64 7] 2) :: H5) ((N5.n 1, .cells [.int .i64 0, .int .i64 0, .int .i64 1, .int .i64 0] 4) :: ((N5.n 0, .cells [.int .u64 0, .int .u64 7] 2) :: H5)) := fr_new gI Fr.refl 0
  have hsA := hsA.mono fnJ
  have hr1 := hr1.mono fnJ
  have hsB := hsB.mono fnJ
  have hr2 := hr2.mono fnJ
  have hsC := hsC.mono fnJ
  have hr3 := hr3.mono fnJ
  have hsD := hsD.mono fnJ
  have hsE := hsE.mono fnJ
  have hsF := hsF.mono fnJ
  have hsG := hsG.mono fnJ
  have hr5 := hr5.mono fnJ
  have hsI := hsI.mono fnJ
  obtain ⟨H6, N6, e6, gg6, fx6⟩ := find16 (K := k07) (links := l07) (root := 2) (key := 7) hT gJ hsI u07 hsJ (by decide)
  have hsA := hsA.mono fx6
  have hr1 := hr1.mono fx6
  have hsB := hsB.mono fx6
  have hr2 := hr2.mono fx6
  have hsC := hsC.mono fx6
  have hr3 := hr3.mono fx6
  have hsD := hsD.mono fx6
  have hsE := hsE.mono fx6
  have hsF := hsF.mono fx6
  have hsG := hsG.mono fx6
  have hr5 := hr5.mono fx6
  have hsI := hsI.mono fx6
  have hsJ := hsJ.mono fx6
  have hsK : SlR p2 2 B ((N6.n 0, .cells [.int .i64 0, .int .i64 0, .int .i64 1, .int .i64 0] 4) :: H6) (.slice (some ⟨N6.n 0, 0, none⟩) 2 2) [⟨0, 0⟩, ⟨1, 0⟩] := (slN_new (cs := [.int .i64 0, .int .i64 0, .int .i64 1, .int .i64 0]) (n := 2) (m := 4) (sz := 2) (f := p2) gg6 [⟨0, 0⟩, ⟨1, 0⟩] rfl rfl rfl).rd p2_len
  have gK : good B ((N6.n 0, .cells [.int .i64 0, .int .i64 0, .int .i64 1, .int .i64 0] 4) :: H6) (sh N6) := good_new gg6
  have fnK : Fr H6 ((N6.n 0, .cells [.int .i64 0, .int .i64 0, .int .i64 1, .int .i64 0] 4) :: H6) := fr_new gg6 Fr.refl 0
  have hsA := hsA.mono fnK
  have hr1 := hr1.mono fnK
  have hsB := hsB.mono fnK
  have hr2 := hr2.mono fnK
  have hsC := hsC.mono fnK
  have hr3 := hr3.mono fnK
  have hsD := hsD.mono fnK
  have hsE := hsE.mono fnK
  have hsF := hsF.mono fnK
  have hsG := hsG.mono fnK
  have hr5 := hr5.mono fnK
  have hsI := hsI.mono fnK
  have hsJ := hsJ.mono fnK
  have e7a := same12 gK hr1 hsK (by rw [n07]; decide)
  have hsL : SlR p2 2 B ((N6.n 1, .cells [.int .i64 0, .int .i64 0] 2) :: ((N6.n 0, .cells [.int .i64 0, .int .i64 0, .int .i64 1, .int .i64 0] 4) :: H6)) (.slice (some ⟨N6.n 1, 0, none⟩) 1 1) [⟨0, 0⟩] := (slN_new (cs := [.int .i64 0, .int .i64 0]) (n := 1) (m := 2) (sz := 2) (f := p2) gK [⟨0, 0⟩] rfl rfl rfl).rd p2_len
  have gL : good B ((N6.n 1, .cells [.int .i64 0, .int .i64 0] 2) :: ((N6.n 0, .cells [.int .i64 0, .int .i64 0, .int .i64 1, .int .i64 0] 4) :: H6)) (sh (sh N6)) := good_new gK
  have fnL : Fr ((N6.n 0, .cells [.int .i64 0, .int .i64 0, .int .i64 1, .int .i64 0] 4) :: H6) ((N6.n 1, .cells [.int .i64 0, .int .i64 0] 2) :: ((N6.n 0, .cells [.int .i64 0, .int .i64 0, .int .i64 1, .int .i64 0] 4) :: H6)) := fr_new gK Fr.refl 0
  have hsA := hsA.mono fnL
  have hr1 := hr1.mono fnL
  have hsB := hsB.mono fnL
  have hr2 := hr2.mono fnL
  have hsC := hsC.mono fnL
  have hr3 := hr3.mono fnL
  have hsD := hsD.mono fnL
  have hsE := hsE.mono fnL
  have hsF := hsF.mono fnL
  have hsG := hsG.mono fnL
  have hr5 := hr5.mono fnL
  have hsI := hsI.mono fnL
  have hsJ := hsJ.mono fnL
  have hsK := hsK.mono fnL
  have e7b := same12 gL hr2 hsL (by rw [n7]; decide)
  have hsM : SlR f1 1 B ((N6.n 2, .cells [.int .i64 2, .int .i64 1] 2) :: ((N6.n 1, .cells [.int .i64 0, .int .i64 0] 2) :: ((N6.n 0, .cells [.int .i64 0, .int .i64 0, .int .i64 1, .int .i64 0] 4) :: H6))) (.slice (some ⟨N6.n 2, 0, none⟩) 2 2) [2, 1] := (slN_new (cs := [.int .i64 2, .int .i64 1]) (n := 2) (m := 2) (sz := 1) (f := f1) gL [2, 1] rfl rfl rfl).rd f1_len
  have gM : good B ((N6.n 2, .cells [.int .i64 2, .int .i64 1] 2) :: ((N6.n 1, .cells [.int .i64 0, .int .i64 0] 2) :: ((N6.n 0, .cells [.int .i64 0, .int .i64 0, .int .i64 1, .int .i64 0] 4) :: H6))) (sh (sh (sh N6))) := good_new gL
  have fnM : Fr ((N6.n 1, .cells [.int .i64 0, .int .i64 0] 2) :: ((N6.n 0, .cells [.int .i64 0, .int .i64 0, .int .i64 1, .int .i64 0] 4) :: H6)) ((N6.n 2, .cells [.int .i64 2, .int .i64 1] 2) :: ((N6.n 1, .cells [.int .i64 0, .int .i64 0] 2) :: ((N6.n 0, .cells [.int .i64 0, .int .i64 0, .int .i64 1, .int .i64 0] 4) :: H6))) := fr_new gL Fr.refl 0
  have hsA := hsA.mono fnM
  have hr1 := hr1.mono fnM
  have hsB := hsB.mono fnM
  have hr2 := hr2.mono fnM
  have hsC := hsC.mono fnM
  have hr3 := hr3.mono fnM
  have hsD := hsD.mono fnM
  have hsE := hsE.mono fnM
  have hsF := hsF.mono fnM
  have hsG := hsG.mono fnM
  have hr5 := hr5.mono fnM
  have hsI := hsI.mono fnM
  have hsJ := hsJ.mono fnM
  have hsK := hsK.mono fnM
  have hsL := hsL.mono fnM
  have e7c := same20 gM hr5 hsM (by rw [if_pos o07, show k07.length = 2 from rfl, p0]; decide)
  have hsO : SlR w1 1 B ((N6.n 3, .cells [.int .u64 0, .int .u64 7] 2) :: ((N6.n 2, .cells [.int .i64 2, .int .i64 1] 2) :: ((N6.n 1, .cells [.int .i64 0, .int .i64 0] 2) :: ((N6.n 0, .cells [.int .i64 0, .int .i64 0, .int .i64 1, .int .i64 0] 4) :: H6)))) (.slice (some ⟨N6.n 3, 0, none⟩) 2 2) [0, 7] := (slN_new (cs := [.int .u64 0, .int .u64 7]) (n := 2) (m := 2) (sz := 1) (f := w1) gM [0, 7] rfl rfl rfl).rd w1_len
  have gO : good B ((N6.n 3, .cells [.int .u64 0, .int .u64 7] 2) :: ((N6.n 2, .cells [.int .i64 2, .int .i64 1] 2) :: ((N6.n 1, .cells [.int .i64 0, .int .i64 0] 2) :: ((N6.n 0, .cells [.int .i64 0, .int .i64 0, .int .i64 1, .int .i64 0] 4) :: H6)))) (sh (sh (sh (sh N6)))) := good_new gM
  have fnO : Fr ((N6.n 2, .cells [.int .i64 2, .int .i64 1] 2) :: ((N6.n 1, .cells [.int .i64 0, .int .i64 0] 2) :: ((N6.n 0, .cells [.int .i64 0, .int .i64 0, .int .i64 1, .int .i64 0] 4) :: H6))) ((N6.n 3, .cells [.int .u64 0, .int .u64 7] 2) :: ((N6.n 2, .cells [.int .i64 2, .int .i64 1] 2) :: ((N6.n 1, .cells [.int .i64 0, .int .i64 0] 2) :: ((N6.n 0, .cells [.int .i64 0, .int .i64 0, .int .i64 1, .int .i64 0] 4) :: H6)))) := fr_new gM Fr.refl 0
  have hsA := hsA.mono fnO
  have hr1 := hr1.mono fnO
  have hsB := hsB.mono fnO
  have hr2 := hr2.mono fnO
  have hsC := hsC.mono fnO
  have hr3 := hr3.mono fnO
  have hsD := hsD.mono fnO
  have hsE := hsE.mono fnO
  have hsF := hsF.mono fnO
  have hsG := hsG.mono fnO
  have hr5 := hr5.mono fnO
  have hsI := hsI.mono fnO
  have hsJ := hsJ.mono fnO
  have hsK := hsK.mono fnO
  have hsL := hsL.mono fnO
  have hsM := hsM.mono fnO
  have hsP : SlR p2 2 B ((N6.n 4, .cells [.int .i64 0, .int .i64 2, .int .i64 0, .int .i64 0] 4) :: ((N6.n 3, .cells [.int .u64 0, .int .u64 7] 2) :: ((N6.n 2, .cells [.int .i64 2, .int .i64 1] 2) :: ((N6.n 1, .cells [.int .i64 0, .int .i64 0] 2) :: ((N6.n 0, .cells [.int .i64 0, .int .i64 0, .int .i64 1, .int .i64 0] 4) :: H6))))) (.slice (some ⟨N6.n 4, 0, none⟩) 2 2) [⟨0, 2⟩, ⟨0, 0⟩] := (slN_new (cs := [.int .i64 0, .int .i64 2, .int .i64 0, .int .i64 0]) (n := 2) (m := 4) (sz := 2) (f := p2) gO [⟨0, 2⟩, ⟨0, 0⟩] rfl rfl rfl).rd p2_len
  have gP : good B ((N6.n 4, .cells [.int .i64 0, .int .i64 2, .int .i64 0, .int .i64 0] 4) :: ((N6.n 3, .cells [.int .u64 0, .int .u64 7] 2) :: ((N6.n 2, .cells [.int .i64 2, .int .i64 1] 2) :: ((N6.n 1, .cells [.int .i64 0, .int .i64 0] 2) :: ((N6.n 0, .cells [.int .i64 0, .int .i64 0, .int .i64 1, .int .i64 0] 4) :: H6))))) (sh (sh (sh (sh (sh N6))))) := good_new gO
  have fnP : Fr ((N6.n 3, .cells [.int .u64 0, .int .u64 7] 2) :: ((N6.n 2, .cells [.int .i64 2, .int .i64 1] 2) :: ((N6.n 1, .cells [.int .i64 0, .int .i64 0] 2) :: ((N6.n 0, .cells [.int .i64 0, .int .i64 0, .int .i64 1, .int .i64 0] 4) :: H6)))) ((N6.n 4, .cells [.int .i64 0, .int .i64 2, .int .i64 0, .int .i64 0] 4) :: ((N6.n 3, .cells [.int .u64 0, .int .u64 7] 2) :: ((N6.n 2, .cells [.int .i64 2, .int .i64 1] 2) :: ((N6.n 1, .cells [.int .i64 0, .int .i64 0] 2) :: ((N6.n 0, .cells [.int .i64 0, .int .i64 0, .int .i64 1, .int .i64 0] 4) :: H6))))) := fr_new gO Fr.refl 0
  have hsA := hsA.mono fnP
  have hr1 := hr1.mono fnP
  have hsB := hsB.mono fnP
  have hr2 := hr2.mono fnP
  have hsC := hsC.mono fnP
  have hr3 := hr3.mono fnP
  have hsD := hsD.mono fnP
  have hsE := hsE.mono fnP
  have hsF := hsF.mono fnP
  have hsG := hsG.mono fnP
  have hr5 := hr5.mono fnP
  have hsI := hsI.mono fnP
  have hsJ := hsJ.mono fnP
  have hsK := hsK.mono fnP
  have hsL := hsL.mono fnP
  have hsM := hsM.mono fnP
  have hsO := hsO.mono fnP
  obtain ⟨H8, N8, e8, gg8, fx8⟩ := right13 (K := k07) (links := [⟨0, 2⟩, ⟨0, 0⟩]) (root := 1) hT gP hsO u07 hsP
  have hsA := hsA.mono fx8
  have hr1 := hr1.mono fx8
  have hsB := hsB.mono fx8
  have hr2 := hr2.mono fx8
  have hsC := hsC.mono fx8
  have hr3 := hr3.mono fx8
  have hsD := hsD.mono fx8
  have hsE := hsE.mono fx8
  have hsF := hsF.mono fx8
  have hsG := hsG.mono fx8
  have hr5 := hr5.mono fx8
  have hsI := hsI.mono fx8
  have hsJ := hsJ.mono fx8
  have hsK := hsK.mono fx8
  have hsL := hsL.mono fx8
  have hsM := hsM.mono fx8
  have hsO := hsO.mono fx8
  have hsP := hsP.mono fx8
  rw [r07, b07] at e1
  rw [r7, e7] at e2
  rw [e21] at e3
  rw [nx0, show decide ((1 : Nat) ≠ 0) = true from rfl] at e4
  rw [fn7, show decide ((2 : Nat) ≠ 0) = true from rfl] at e6
  rw [n07, show decide (l07 = [⟨0, 0⟩, ⟨1, 0⟩]) = true from rfl] at e7a
  rw [n7, show decide (([⟨0, 0⟩] : List P2) = [⟨0, 0⟩]) = true from rfl] at e7b
  rw [if_pos o07, show k07.length = 2 from rfl, p0, show decide (([2, 1] : List Nat).map iC = [2, 1]) = true from rfl] at e7c
  rw [o071] at e8
  simp only [Int.cast_ofNat_Int] at e4 e6
  unfold V8
  have q0 : ((2 : Int) == 2) = true := rfl
  have q1 : ((1 : Int) == 1) = true := rfl
  have q2 : ((0 : Int) == 0) = true := rfl
  simp -implicitDefEqProofs (maxSteps := 10000000) (disch := omega) only [T8, L8, G8_10, G8_12, G8_13, G8_16, G8_18, G8_20, G8_21, hB, hR, hI, lenV_sl, Int.toNat_natCast, bft, btf, gtst, st_len, e1, e2, e3, e4, e5, e6, e7a, e7b, e7c, e8, q0, q1, q2, pad, e_skip, e_ops, e_draw, e_fork, shg_n, shg_c, shg_g, shg_r, d_none, d_nil, d_cons, d_ite, h_none, h_nil, h_cons, h_ite, eqS_same, lightV, e_seq, e_cond, e_block, e_exit, e_ret, s_normal, s_ret, s_exit, s_none, s_ite, b_normal, b_ret, b_exit, b_none, b_ite, c_bool, x_none, x_nil, x_cons, x_ite, p_some, p_none, p_ite, pt_some, pt_none, pv_some, pv_none, pv_ite, w_none, w_some, i_bool, i_undef, bt, bf, v_tmp, v_const, v_global, v_func, evs, f_normal, f_ret, f_none, f_ite, r_some, co_some, l_ptr, m_agg, m_one, sh_app, lk_nil, lk_cons, rd_eq, rdO_some, rdO_none, rdN_none, rdL_some, rdL_none, wrB_none, unitR_some, wr_nil, wr_here, wr_skip, k_cells, tk_zero, tk_take, tk_skip, tkC_some, call_func, gt, st, binV, arith, isSh, storeV, all1, idxAV, fieldV, faddrV, iaddrSV, iaddrAV, pickV, convV, unV, eqbV, eqpV, extV, mm2, mmV, nilckV, ress, res1, retV, Value.cells, cond_true, cond_false, Bool.true_or, Bool.false_or, Bool.or_true, Bool.or_false, beq_self_eq_true, if_true, if_false, ite_true, ite_false, decide_true, decide_false, decide_eq_true_eq, reduceIte, Nat.zero_add, Nat.add_zero, and_self, true_and, and_true, List.size_toArray, List.length_cons, List.length_nil, List.append_nil, List.nil_append, Int.toNat_zero, Bool.not_false, Bool.not_true, Bool.not_not, Bool.false_eq_true, Bool.true_eq_false, reduceCtorEq, Int.reduceLT, Int.reduceLE, Int.reduceToNat, Int.reduceAdd, Int.reduceSub, Int.reduceMul, Int.reduceNeg, Nat.reduceMul, Nat.reduceAdd, Nat.reduceSub, Nat.reduceBEq, Nat.reduceEqDiff, Nat.reduceLT, Nat.reduceLeDiff, Int.reduceBEq, Int.reduceEq, Nat.reducePow, Int.reducePow, IntWalk.i64_in, IntKind.bits, eqAV, eqL, leafEq, andO, fillV, buildSV, List.getElem?_toArray, List.getElem?_cons_zero, List.getElem?_cons_succ, List.getElem?_nil, Int.reduceGT, Int.reduceGE, Int.reduceBNe, Bool.true_and, Bool.and_true, Bool.false_and, Bool.and_false, Bool.and_self, IntWalk.u64_in, Int.cast_ofNat_Int, callF1, pad16, pad_0, pad_1, pad_2, pad_3, pad_4, pad_5, pad_6, pad_7, pad_8, pad_9, pad_10, pad_11, pad_12, pad_13, pad_14, pad_15, gc0, gc1, gc2, gc3, gc4, gc5, gc6, gc7, gc8, gc9, gc10, gc11, gc12, gc13, gc14, gc15, gcS, sc0, sc1, sc2, sc3, sc4, sc5, sc6, sc7, sc8, sc9, sc10, sc11, sc12, sc13, sc14, sc15, scS, List.drop_succ_cons, List.drop_nil, x_pan, s_pan, b_pan, pE_ret, pE_pan, pE_none, pE_ite, pvE_some, pvE_none, pvE_ite, rv_some, rv_none, rv_ite, oR_ret, t_mv, t_pick, t_alloc, t_box, t_build, t_buildS, t_load, t_store, t_nilck, t_bin, t_eqb, t_eqA, t_eqp, t_un, t_conv, t_field, t_idxA, t_faddr, t_iaddrS, t_iaddrA, t_ext, t_len, t_mm, t_call, t_ifc, t_fn, t_slc, t_slcA, t_slcT, t_tass, t_isn, t_mks, t_app, t_pan, panE_i, optE_none, optE_some, bnd_none, bnd_int, slA_none, slA_some, appR_some, appOld_cells, newsV_s, newsV_n, lenS_s, appV_nil, appV_some, mksV_i, sh_c, sh_g, f_pan, endD_ret, dfr_normal, dfr_ret, dfr_pan, restD_normal, callD1, callC1, tassV, isnV, slcV, slcAV, slcTV, slcB, appNew, Option.bind_some, Option.bind_none, d_pan, h_pan, wrH_eq, wrX_cells, wrU_some, upH_nil, upH_cons, lk_upH, effR_some, effR_none, effR_ite, Option.isNone_none, Option.isNone_some, slA_zero, call_yield, e_range, it_func, wy_same, y_call, isLp_self, beg_normal, end_normal, end_ret, end_exit, end_ite, aft_ret, aft_ready, aft_done, aft_exit, setP_cons, setP_nil, sh_r, t_mkmap, t_mlook, t_mupd, t_mdel, mapF_some, lookF_some, setM_some, lookR_t, lookR_n, lookR_f, lookR_fn, lookV, mupdV, mdelV, mkM]
  exact ⟨_, _, rfl, gg8, ((((((((((((((((((((fnA.trans fx1).trans fnB).trans fx2).trans fnC).trans fx3).trans fnD).trans fnE).trans fx4).trans fnF).trans fnG).trans fx5).trans fnI).trans fnJ).trans fx6).trans fnK).trans fnL).trans fnM).trans fnO).trans fnP).trans fx8)⟩
end Go.Proofs.YtlkeeckhileedaaDoor
namespace Go.Proofs.YtlkeeckhileedaaDoor
open Go.Proofs.YtlkeeckhileedaaDoor.K
/-! ### Trees, moved -/
def shN (c x : Nat) : Nat := if x = 0 then 0 else x + c
def shP (c : Nat) (x : Nat × Nat) : Nat × Nat := (shN c x.1, shN c x.2)
def shI (c : Nat) (x : Int) : Int := if x = 0 then 0 else x + c
theorem amx_shift {f g : Nat → Int} {c : Nat} : ∀ (d a : Nat), (∀ i, a ≤ i → i ≤ a + d → f (c + i) = g i) → amx f (c + a) d = c + amx g a d
  | 0, a, _ => rfl
  | d + 1, a, h => by
    have ih := amx_shift d a (fun i h1 h2 => h i h1 (by omega))
    have hb := amx_b g a d
    simp only [amx]
    rw [ih, show c + a + (d + 1) = c + (a + (d + 1)) by omega, h _ (by omega) (by omega), h _ hb.1 (by omega)]
    split <;> rfl
theorem T_shift {f g : Nat → Int} {c : Nat} : ∀ (d a : Nat), (∀ i, a ≤ i → i < a + d → f (c + i) = g i) → T f (c + a) d = (shN c (T g a d).1, (T g a d).2.map (shP c)) := by
  intro d
  induction d using Nat.strongRecOn with
  | ind d ih =>
    intro a h
    cases d with
    | zero => rw [T_zero, T_zero]; rfl
    | succ e =>
      have hb := amx_b g a e
      rw [T_succ, T_succ, amx_shift e a (fun i h1 h2 => h i h1 (by omega))]
      rw [show c + amx g a e - (c + a) = amx g a e - a by omega, show c + amx g a e + 1 = c + (amx g a e + 1) by omega, show c + a + e - (c + amx g a e) = a + e - amx g a e by omega]
      rw [ih _ (by omega) a (fun i h1 h2 => h i h1 (by omega)), ih _ (by omega) (amx g a e + 1) (fun i h1 h2 => h i (by omega) (by omega))]
      simp only [List.map_append, List.map_cons, Prod.mk.injEq]
      refine ⟨?_, rfl⟩
      unfold shN
      rw [if_neg (by omega)]
      omega
theorem shN_0 (x : Nat) : shN 0 x = x := by unfold shN; split <;> omega
theorem T_congr {f g : Nat → Int} (d a : Nat) (h : ∀ i, a ≤ i → i < a + d → f i = g i) : T f a d = T g a d := by
  have := T_shift (f := f) (g := g) (c := 0) d a (fun i h1 h2 => by rw [Nat.zero_add]; exact h i h1 h2)
  rw [Nat.zero_add] at this
  rw [this, shN_0]
  have : (fun x => shP 0 x) = fun x => x := by funext x; unfold shP; rw [shN_0, shN_0]
  rw [show shP 0 = fun x => x from this, List.map_id']
theorem T_b (f : Nat → Int) : ∀ (d a : Nat), (T f a d).1 ≤ a + d ∧ ∀ x ∈ (T f a d).2, x.1 ≤ a + d ∧ x.2 ≤ a + d := by
  intro d
  induction d using Nat.strongRecOn with
  | ind d ih =>
    intro a
    cases d with
    | zero => rw [T_zero]; exact ⟨Nat.zero_le _, fun x hx => (by cases hx)⟩
    | succ e =>
      have hb := amx_b f a e
      have h1 := ih (amx f a e - a) (by omega) a
      have h2 := ih (a + e - amx f a e) (by omega) (amx f a e + 1)
      rw [T_succ]
      refine ⟨by simp only; omega, fun x hx => ?_⟩
      rcases List.mem_append.1 hx with hx | hx
      · have := h1.2 x hx; omega
      · rcases List.mem_cons.1 hx with rfl | hx
        · simp only; omega
        · have := h2.2 x hx; omega
theorem bRoot_b (K : List Int) : 0 ≤ bRoot K ∧ bRoot K ≤ K.length := by
  by_cases h : bErr K = 0
  · rw [bRoot_0 h]
    have := (T_b (fK K) K.length 0).1
    omega
  · rw [bRoot_e h]; omega
theorem bLinks_b (K : List Int) (i : Nat) : 0 ≤ ((bLinks K).getD i q0).l ∧ ((bLinks K).getD i q0).l ≤ K.length ∧ 0 ≤ ((bLinks K).getD i q0).r ∧ ((bLinks K).getD i q0).r ≤ K.length := by
  by_cases h : bErr K = 0
  · rw [bLinks_0 h]
    by_cases hi : i < (T (fK K) 0 K.length).2.length
    · rw [getD_some (l := (T (fK K) 0 K.length).2.map mp) (x := mp ((T (fK K) 0 K.length).2[i])) (by rw [List.getElem?_map, List.getElem?_eq_getElem hi]; rfl)]
      have := (T_b (fK K) K.length 0).2 _ (List.getElem_mem hi)
      simp only [mp]; omega
    · rw [List.getD_eq_getElem?_getD, List.getElem?_eq_none (by rw [List.length_map]; omega)]
      simp [q0]
  · rw [bLinks_e h]; simp [q0]
theorem getD_take {α : Type} (L : List α) (t i : Nat) (d : α) (h : i < t) : (L.take t).getD i d = L.getD i d := by
  rw [List.getD_eq_getElem?_getD, List.getElem?_take, if_pos h, ← List.getD_eq_getElem?_getD]
theorem getD_drop {α : Type} (L : List α) (t i : Nat) (d : α) : (L.drop t).getD i d = L.getD (t + i) d := by
  rw [List.getD_eq_getElem?_getD, List.getElem?_drop, ← List.getD_eq_getElem?_getD]
theorem Asc.take {K : List Int} (h : Asc K) (t : Nat) : Asc (K.take t) := fun i hi => by
  rw [List.length_take] at hi
  rw [getD_take _ _ _ _ (by omega), getD_take _ _ _ _ (by omega)]
  exact h i (by omega)
theorem Asc.drop {K : List Int} (h : Asc K) (t : Nat) : Asc (K.drop t) := fun i hi => by
  rw [List.length_drop] at hi
  rw [getD_drop, getD_drop]
  exact h (t + i) (by omega)
structure Parts (K : List Int) (t : Nat) : Prop where
  lt : t < K.length
  root : bRoot K = ((t : Int) + 1)
  e1 : bErr (K.take t) = 0
  e2 : bErr (K.drop (t + 1)) = 0
  n1 : (bLinks (K.take t)).length = t
  n2 : (bLinks (K.drop (t + 1))).length = K.length - (t + 1)
  mid : (bLinks K).getD t q0 = ⟨bRoot (K.take t), shI (t + 1) (bRoot (K.drop (t + 1)))⟩
  lo : ∀ i, i < t → (bLinks K).getD i q0 = (bLinks (K.take t)).getD i q0
  hi : ∀ i, i < K.length - (t + 1) → (bLinks K).getD (t + 1 + i) q0 = ⟨shI (t + 1) ((bLinks (K.drop (t + 1))).getD i q0).l, shI (t + 1) ((bLinks (K.drop (t + 1))).getD i q0).r⟩
theorem shI_N (c x : Nat) : ((shN c x : Nat) : Int) = shI c (x : Int) := by
  unfold shN shI
  by_cases h : x = 0
  · subst h; rfl
  · rw [if_neg h, if_neg (by omega)]; omega
theorem parts {K : List Int} (h : bErr K = 0) (hn : 0 < K.length) : ∃ t, Parts K t := by
  obtain ⟨hl, ha⟩ := bErr_0 h
  obtain ⟨e, he⟩ : ∃ e, K.length = e + 1 := ⟨K.length - 1, by omega⟩
  have hb := amx_b (fK K) 0 e
  have hr := bRoot_0 h
  have hL := bLinks_0 h
  rw [he, T_succ] at hr hL
  generalize amx (fK K) 0 e = t at hb hr hL
  have h1 : bErr (K.take t) = 0 := bErr_asc (by rw [List.length_take]; omega) (ha.take t)
  have h2 : bErr (K.drop (t + 1)) = 0 := bErr_asc (by rw [List.length_drop]; omega) (ha.drop _)
  have l1 : (K.take t).length = t := by rw [List.length_take]; omega
  have l2 : (K.drop (t + 1)).length = K.length - (t + 1) := List.length_drop
  have t1 : T (fK K) 0 (t - 0) = T (fK (K.take t)) 0 t := by
    rw [Nat.sub_zero]
    exact T_congr t 0 fun i _ hi => by unfold fK; rw [getD_take _ _ _ _ (by omega)]
  have t2 : T (fK K) (t + 1) (0 + e - t) = (shN (t + 1) (T (fK (K.drop (t + 1))) 0 (K.length - (t + 1))).1, (T (fK (K.drop (t + 1))) 0 (K.length - (t + 1))).2.map (shP (t + 1))) := by
    rw [show 0 + e - t = K.length - (t + 1) by omega]
    exact T_shift _ 0 fun i _ _ => by unfold fK; rw [getD_drop]
  rw [t1, t2] at hL
  have r1 := bRoot_0 h1
  have r2 := bRoot_0 h2
  have k1 := bLinks_0 h1
  have k2 := bLinks_0 h2
  rw [l1] at r1 k1
  rw [l2] at r2 k2
  have s1 := T_len (fK (K.take t)) t 0
  have s2 := T_len (fK (K.drop (t + 1))) (K.length - (t + 1)) 0
  generalize T (fK (K.take t)) 0 t = A at *
  generalize T (fK (K.drop (t + 1))) 0 (K.length - (t + 1)) = C at *
  simp only [List.map_append, List.map_cons] at hL
  refine ⟨t, by omega, by rw [hr]; simp only; omega, h1, h2, by rw [k1, List.length_map, s1], by rw [k2, List.length_map, s2], ?_, fun i hi => ?_, fun i hi => ?_⟩
  · refine getD_some ?_
    rw [hL, List.getElem?_append_right (by rw [List.length_map]; omega), List.length_map, s1, Nat.sub_self, List.getElem?_cons_zero, r1, r2]
    simp only [mp, shI_N]
  · rw [hL, k1, List.getD_eq_getElem?_getD, List.getD_eq_getElem?_getD, List.getElem?_append_left (by rw [List.length_map]; omega)]
  · refine getD_some ?_
    rw [hL, List.getElem?_append_right (by rw [List.length_map]; omega), List.length_map, s1, show t + 1 + i - t = i + 1 by omega, List.getElem?_cons_succ, List.getElem?_map, List.getElem?_map, List.getElem?_eq_getElem (by omega)]
    rw [k2, getD_some (l := C.2.map mp) (x := mp (C.2[i]'(by omega))) (by rw [List.getElem?_map, List.getElem?_eq_getElem (by omega)]; rfl)]
    simp only [Option.map_some, mp, shP, shI_N]
end Go.Proofs.YtlkeeckhileedaaDoor
namespace Go.Proofs.YtlkeeckhileedaaDoor
open Go.Proofs.YtlkeeckhileedaaDoor.K Go.ChangeShapes Go.WideShapes Go.ChangeAt Go.RowKit
set_option maxRecDepth 100000
set_option linter.unusedSimpArgs false
set_option linter.unusedVariables false
def P64s (w : List P2) : Prop := ∀ x ∈ w, i64R x.l ∧ i64R x.r
theorem raw_of : ∀ (L : List (List Lit)), (∀ m ∈ L, OKs [.int .i64] m) → ∃ K : List Int, K.length = L.length ∧ fl (fun m => m.map litV) L = fl f1 K ∧ I64s K
  | [], _ => ⟨[], rfl, rfl, by unfold I64s; simp⟩
  | x :: L, h => by
    obtain ⟨K, h1, h2, h3⟩ := raw_of L fun m hm => h m (List.mem_cons_of_mem _ hm)
    have k0 := h x List.mem_cons_self
    obtain ⟨a0, m1, rfl, w0, k1⟩ := k0.int
    have b0 := i64_wf w0
    obtain rfl := k1.none
    refine ⟨a0 :: K, by simp [h1], ?_, fun y hy => ?_⟩
    · simp only [fl, h2]; rfl
    · rcases List.mem_cons.1 hy with rfl | hy
      · exact b0
      · exact h3 y hy
theorem raw_open {W : World} {v : Value} (h : v = .slice none 0 0 ∨ (∃ a cap, v = .slice (some a) 0 cap) ∨ ∃ (b o cap : Nat) (L : List (List Lit)), v = .slice (some ⟨b, o, none⟩) L.length cap ∧ 0 < L.length ∧ L.length ≤ cap ∧ cap ≤ maxLen ∧ (∀ m ∈ L, OKs [.int .i64] m) ∧
      ∀ m, m ≤ L.length → rdB (startB W) b o (m * [LK.int .i64].length) = some (fl (fun m => m.map litV) (L.take m))) : ∃ K : List Int, SlC f1 1 (startB W) v K ∧ I64s K := by
  rcases h with rfl | ⟨a, cap, rfl⟩ | ⟨b, o, cap, L, rfl, h1, h2, h3, h4, h5⟩
  · exact ⟨[], ⟨none, 0, rfl, Nat.le_refl _, .inl rfl⟩, by unfold I64s; simp⟩
  · exact ⟨[], ⟨some a, cap, rfl, Nat.zero_le _, .inl rfl⟩, by unfold I64s; simp⟩
  · obtain ⟨K, e1, e2, e3⟩ := raw_of L h4
    have h6 := h5 L.length (Nat.le_refl _)
    rw [List.take_length, e2] at h6
    refine ⟨K, ⟨some ⟨b, o, none⟩, cap, by rw [e1], by rw [e1]; exact h2, .inr ⟨b, o, rfl, ?_⟩⟩, e3⟩
    rw [e1]; exact h6
theorem keys_of : ∀ (L : List (List Lit)), (∀ m ∈ L, OKs [.int .u64] m) → ∃ K : List Int, K.length = L.length ∧ fl (fun m => m.map litV) L = fl w1 K ∧ U64s K
  | [], _ => ⟨[], rfl, rfl, by unfold U64s; simp⟩
  | x :: L, h => by
    obtain ⟨K, h1, h2, h3⟩ := keys_of L fun m hm => h m (List.mem_cons_of_mem _ hm)
    have k0 := h x List.mem_cons_self
    obtain ⟨a0, m1, rfl, w0, k1⟩ := k0.int
    have b0 := u64_wf' w0
    obtain rfl := k1.none
    refine ⟨a0 :: K, by simp [h1], ?_, fun y hy => ?_⟩
    · simp only [fl, h2]; rfl
    · rcases List.mem_cons.1 hy with rfl | hy
      · exact b0
      · exact h3 y hy
theorem keys_open {W : World} {v : Value} (h : v = .slice none 0 0 ∨ (∃ a cap, v = .slice (some a) 0 cap) ∨ ∃ (b o cap : Nat) (L : List (List Lit)), v = .slice (some ⟨b, o, none⟩) L.length cap ∧ 0 < L.length ∧ L.length ≤ cap ∧ cap ≤ maxLen ∧ (∀ m ∈ L, OKs [.int .u64] m) ∧
      ∀ m, m ≤ L.length → rdB (startB W) b o (m * [LK.int .u64].length) = some (fl (fun m => m.map litV) (L.take m))) : ∃ K : List Int, SlC w1 1 (startB W) v K ∧ U64s K := by
  rcases h with rfl | ⟨a, cap, rfl⟩ | ⟨b, o, cap, L, rfl, h1, h2, h3, h4, h5⟩
  · exact ⟨[], ⟨none, 0, rfl, Nat.le_refl _, .inl rfl⟩, by unfold U64s; simp⟩
  · exact ⟨[], ⟨some a, cap, rfl, Nat.zero_le _, .inl rfl⟩, by unfold U64s; simp⟩
  · obtain ⟨K, e1, e2, e3⟩ := keys_of L h4
    have h6 := h5 L.length (Nat.le_refl _)
    rw [List.take_length, e2] at h6
    refine ⟨K, ⟨some ⟨b, o, none⟩, cap, by rw [e1], by rw [e1]; exact h2, .inr ⟨b, o, rfl, ?_⟩⟩, e3⟩
    rw [e1]; exact h6
theorem lnks_of : ∀ (L : List (List Lit)), (∀ m ∈ L, OKs [.int .i64, .int .i64] m) → ∃ K : List P2, K.length = L.length ∧ fl (fun m => m.map litV) L = fl p2 K ∧ P64s K
  | [], _ => ⟨[], rfl, rfl, by unfold P64s; simp⟩
  | x :: L, h => by
    obtain ⟨K, h1, h2, h3⟩ := lnks_of L fun m hm => h m (List.mem_cons_of_mem _ hm)
    have k0 := h x List.mem_cons_self
    obtain ⟨a0, m1, rfl, w0, k1⟩ := k0.int
    have b0 := i64_wf w0
    obtain ⟨a1, m2, rfl, w1, k2⟩ := k1.int
    have b1 := i64_wf w1
    obtain rfl := k2.none
    refine ⟨⟨a0, a1⟩ :: K, by simp [h1], ?_, fun y hy => ?_⟩
    · simp only [fl, h2]; rfl
    · rcases List.mem_cons.1 hy with rfl | hy
      · exact ⟨b0, b1⟩
      · exact h3 y hy
theorem lnks_open {W : World} {v : Value} (h : v = .slice none 0 0 ∨ (∃ a cap, v = .slice (some a) 0 cap) ∨ ∃ (b o cap : Nat) (L : List (List Lit)), v = .slice (some ⟨b, o, none⟩) L.length cap ∧ 0 < L.length ∧ L.length ≤ cap ∧ cap ≤ maxLen ∧ (∀ m ∈ L, OKs [.int .i64, .int .i64] m) ∧
      ∀ m, m ≤ L.length → rdB (startB W) b o (m * [LK.int .i64, LK.int .i64].length) = some (fl (fun m => m.map litV) (L.take m))) : ∃ K : List P2, SlC p2 2 (startB W) v K ∧ P64s K := by
  rcases h with rfl | ⟨a, cap, rfl⟩ | ⟨b, o, cap, L, rfl, h1, h2, h3, h4, h5⟩
  · exact ⟨[], ⟨none, 0, rfl, Nat.le_refl _, .inl rfl⟩, by unfold P64s; simp⟩
  · exact ⟨[], ⟨some a, cap, rfl, Nat.zero_le _, .inl rfl⟩, by unfold P64s; simp⟩
  · obtain ⟨K, e1, e2, e3⟩ := lnks_of L h4
    have h6 := h5 L.length (Nat.le_refl _)
    rw [List.take_length, e2] at h6
    refine ⟨K, ⟨some ⟨b, o, none⟩, cap, by rw [e1], by rw [e1]; exact h2, .inr ⟨b, o, rfl, ?_⟩⟩, e3⟩
    rw [e1]; exact h6
end Go.Proofs.YtlkeeckhileedaaDoor
