/- Own text: the log of writes, part TlE: contracts of the functions that the laws of the log call. -/
import Derived.Test.YtfhiplfagejfoaaDoorTlD
set_option linter.unusedSimpArgs false
set_option linter.unusedVariables false
namespace Go.Proofs.YtfhiplfagejfoaaDoor
open Go.Proofs.YtfhiplfagejfoaaDoor.K Go.ChangeShapes Go.WideShapes Go.ChangeAt Go.RowKit 
set_option maxRecDepth 100000
set_option linter.unusedSimpArgs false
set_option linter.unusedVariables false
def Llaw16pick : FnL := ⟨(.seq (.ops [⟨(some 4), .mv (.const (.int .i64 0)), none⟩])
 (.seq (.seq (.ops [⟨(some 5), .mv (.tmp 0), none⟩, ⟨(some 6), .bin .lss (.tmp 5) (.const (.int .i64 0)), none⟩])
 (.cond (.tmp 6) (.ops [⟨(some 7), .mv (.tmp 0), none⟩, ⟨(some 8), .bin .add (.tmp 7) (.const (.int .i64 1)), none⟩, ⟨(some 9), .un .neg (.tmp 8), none⟩, ⟨(some 0), .mv (.tmp 9), none⟩])
 .skip))
 (.seq (.ops [⟨(some 10), .mv (.tmp 0), none⟩, ⟨(some 11), .mv (.tmp 1), none⟩, ⟨(some 12), .bin .rem (.tmp 10) (.tmp 11), none⟩, ⟨(some 4), .mv (.tmp 12), none⟩])
 .ret))),
 13, [.tmp 4]⟩
theorem lowlaw16pick : lowerFn Tryd.prog Tryd.f12 = some Llaw16pick := by kernel_rfl
noncomputable def Glaw16pick (B : OH) : Nat → Cs
  | _ => fun _ _ _ => none
theorem sGlaw16pick {w0 : World} {B : OH} : SoundG Tryd.prog w0 B { f := Glaw16pick B } := .of fun k => by
  unfold Glaw16pick
  split
  · exact .inl fun _ _ _ => rfl
theorem enlaw16pick : Enter Tryd.prog 12 := .of Tryd.func12 (by kernel_rfl) (by kernel_rfl)
noncomputable def Tlaw16pick (B : OH) : Cs := callF B { f := Glaw16pick B } 1000000 Llaw16pick
theorem sTlaw16pick {w0 : World} {B : OH} : SoundC Tryd.prog w0 B 12 (Tlaw16pick B) := callF_sound mixedOrders sGlaw16pick 1000000 Tryd.func12 lowlaw16pick
noncomputable def Flaw16pick (B : OH) : List Value → Option Value := kval B (Tlaw16pick B)
noncomputable def Vlaw16pick (B : OH) : Cs := fun a H N => pvE (Flaw16pick B a) H N
theorem Vlaw16pick_eq {B : OH} {a : List Value} {H : HL} {N : St} : Vlaw16pick B a H N = pvE (Flaw16pick B a) H N := rfl
theorem sVlaw16pick {w0 : World} {B : OH} : SoundC Tryd.prog w0 B 12 (Vlaw16pick B) := sTlaw16pick.ofVal
theorem fpick {B : OH} (hG : ∃ H N, good B H N) (x n : Int) (hx : i64R x) (hn : 0 < n ∧ n ≤ 9223372036854775807) : Flaw16pick B [.int .i64 x, .int .i64 n] = some (.int .i64 (pk x n)) := by
  unfold i64R at hx
  refine kval_eq hG fun H N hN => ?_
  have hB := good_B hN
  have hR := good_rdB hN
  have hI := beqN hN.1.1
  have hn0 : ¬ n = 0 := by omega
  unfold pk
  by_cases h : x < 0
  · have hw : IntKind.i64.wrap (0 - (x + 1)) = -(x + 1) := by rw [IntWalk.i64_in _ (by omega)]; omega
    simp -implicitDefEqProofs (maxSteps := 10000000) (disch := omega) only [Tlaw16pick, Llaw16pick, hB, hR, hI, h, hn0, hw, bt, bf, all1, ress, res1, retV, Value.cells, reduceIte, reduceCtorEq, Int.reduceLT, Int.reduceLE, Int.reduceToNat, Int.reduceAdd, Int.reduceSub, Int.reduceMul, Int.reduceNeg, Nat.reduceMul, Nat.reduceAdd, Nat.reduceSub, Nat.reduceBEq, Nat.reduceEqDiff, Nat.reduceLT, Nat.reduceLeDiff, Int.reduceBEq, Int.reduceEq, Nat.reducePow, Int.reducePow, Int.reduceGT, Int.reduceGE, Int.reduceBNe, newsV_s, ev1, ev2, ev3, ev4]
    with_reducible refine done2 ?_
    repeat (first | refine ext_new hN ?_ | exact fun _ _ h => h)
  · simp -implicitDefEqProofs (maxSteps := 10000000) (disch := omega) only [Tlaw16pick, Llaw16pick, hB, hR, hI, h, hn0, bt, bf, all1, ress, res1, retV, Value.cells, reduceIte, reduceCtorEq, Int.reduceLT, Int.reduceLE, Int.reduceToNat, Int.reduceAdd, Int.reduceSub, Int.reduceMul, Int.reduceNeg, Nat.reduceMul, Nat.reduceAdd, Nat.reduceSub, Nat.reduceBEq, Nat.reduceEqDiff, Nat.reduceLT, Nat.reduceLeDiff, Int.reduceBEq, Int.reduceEq, Nat.reducePow, Int.reducePow, Int.reduceGT, Int.reduceGE, Int.reduceBNe, newsV_s, ev1, ev2, ev3, ev4]
    with_reducible refine done2 ?_
    repeat (first | refine ext_new hN ?_ | exact fun _ _ h => h)
def Llaw16Conf : FnL := ⟨(.seq (.ops [⟨(some 1), .box (.tmp 0), none⟩, ⟨(some 2), .alloc [(.int .i64 0), (.int .i64 0), (.int .i64 0)], none⟩])
 (.seq (.draw [⟨⟨(some 3), .iaddrA 1 3 (.tmp 1) (.const (.int .i64 0)), none⟩, []⟩, ⟨⟨(some 4), .load false 1 (.tmp 3), none⟩, []⟩, ⟨⟨(some 7), .iaddrA 1 3 (.tmp 1) (.const (.int .i64 1)), none⟩, []⟩, ⟨⟨(some 8), .load false 1 (.tmp 7), none⟩, []⟩, ⟨⟨(some 11), .iaddrA 1 3 (.tmp 1) (.const (.int .i64 2)), none⟩, []⟩, ⟨⟨(some 12), .load false 1 (.tmp 11), none⟩, []⟩, ⟨⟨(some 5), .call (.func 12) [(.tmp 4), (.const (.int .i64 5))], none⟩, [⟨(some 8), .load false 1 (.tmp 7), none⟩, ⟨(some 12), .load false 1 (.tmp 11), none⟩]⟩, ⟨⟨(some 6), .bin .add (.const (.int .i64 1)) (.tmp 5), none⟩, []⟩, ⟨⟨(some 9), .call (.func 12) [(.tmp 8), (.const (.int .i64 4))], none⟩, [⟨(some 12), .load false 1 (.tmp 11), none⟩]⟩, ⟨⟨(some 10), .bin .add (.const (.int .i64 1)) (.tmp 9), none⟩, []⟩, ⟨⟨(some 13), .call (.func 12) [(.tmp 12), (.const (.int .i64 4))], none⟩, []⟩, ⟨⟨(some 14), .bin .add (.const (.int .i64 1)) (.tmp 13), none⟩, []⟩, ⟨⟨(some 15), .build [(.int .i64 0), (.int .i64 0), (.int .i64 0)] [(0, 1, (.tmp 6)), (1, 1, (.tmp 10)), (2, 1, (.tmp 14))], none⟩, []⟩, ⟨⟨none, .store 3 (.tmp 2) (.tmp 15), none⟩, []⟩])
 .ret)),
 16, [.cell 2 true 3]⟩
theorem lowlaw16Conf : lowerFn Tryd.prog Tryd.f9 = some Llaw16Conf := by kernel_rfl
noncomputable def Glaw16Conf (B : OH) : Nat → Cs
  | 12 => Vlaw16pick B
  | _ => fun _ _ _ => none
theorem Glaw16Conf_law16pick {B : OH} : Glaw16Conf B 12 = Vlaw16pick B := rfl
theorem sGlaw16Conf {w0 : World} {B : OH} : SoundG Tryd.prog w0 B { f := Glaw16Conf B } := .of fun k => by
  unfold Glaw16Conf
  split
  · exact .inr ⟨enlaw16pick, sVlaw16pick⟩
  · exact .inl fun _ _ _ => rfl
theorem enlaw16Conf : Enter Tryd.prog 9 := .of Tryd.func9 (by kernel_rfl) (by kernel_rfl)
noncomputable def Tlaw16Conf (B : OH) : Cs := callF B { f := Glaw16Conf B } 1000000 Llaw16Conf
theorem sTlaw16Conf {w0 : World} {B : OH} : SoundC Tryd.prog w0 B 9 (Tlaw16Conf B) := callF_sound mixedOrders sGlaw16Conf 1000000 Tryd.func9 lowlaw16Conf
noncomputable def Flaw16Conf (B : OH) : List Value → Option Value := kval B (Tlaw16Conf B)
noncomputable def Vlaw16Conf (B : OH) : Cs := fun a H N => pvE (Flaw16Conf B a) H N
theorem Vlaw16Conf_eq {B : OH} {a : List Value} {H : HL} {N : St} : Vlaw16Conf B a H N = pvE (Flaw16Conf B a) H N := rfl
theorem sVlaw16Conf {w0 : World} {B : OH} : SoundC Tryd.prog w0 B 9 (Vlaw16Conf B) := sTlaw16Conf.ofVal
set_option maxHeartbeats 1000000 in
theorem fConf {B : OH} (hG : ∃ H N, good B H N) {a b c : Int} (ha : i64R a) (hb : i64R b) (hc : i64R c) : Flaw16Conf B [.agg #[.int .i64 a, .int .i64 b, .int .i64 c]] = some (.agg #[.int .i64 (1 + pk a 5), .int .i64 (1 + pk b 4), .int .i64 (1 + pk c 4)]) := by
  refine kval_eq hG fun H N hN => ?_
  have hB := good_B hN
  have hR := good_rdB hN
  have hI := beqN hN.1.1
  have ea := fpick hG a 5 ha (by omega)
  have eb := fpick hG b 4 hb (by omega)
  have ec := fpick hG c 4 hc (by omega)
  have ba := pk_b (x := a) (n := 5) (by omega)
  have bb := pk_b (x := b) (n := 4) (by omega)
  have bc := pk_b (x := c) (n := 4) (by omega)
  simp -implicitDefEqProofs (maxSteps := 10000000) (disch := omega) only [Tlaw16Conf, Llaw16Conf, Glaw16Conf_law16pick, Vlaw16pick_eq, hB, hR, hI, ea, eb, ec, bt, bf, all1, ress, res1, retV, Value.cells, reduceIte, reduceCtorEq, Int.reduceLT, Int.reduceLE, Int.reduceToNat, Int.reduceAdd, Int.reduceSub, Int.reduceMul, Int.reduceNeg, Nat.reduceMul, Nat.reduceAdd, Nat.reduceSub, Nat.reduceBEq, Nat.reduceEqDiff, Nat.reduceLT, Nat.reduceLeDiff, Int.reduceBEq, Int.reduceEq, Nat.reducePow, Int.reducePow, Int.reduceGT, Int.reduceGE, Int.reduceBNe, newsV_s, ev1, ev2, ev3, ev4]
  with_reducible refine done2 ?_
  repeat (first | refine ext_new hN ?_ | exact fun _ _ h => h)
theorem conf_cf (a b c : Int) : ∃ kk p cc h : Nat, 1 + pk a 5 = (kk : Int) ∧ 1 + pk b 4 = (p : Int) ∧ 1 + pk c 4 = (cc : Int) ∧ Cf kk p cc h ∧ p ≤ 4 ∧ cc ≤ 4 := by
  have ba := pk_b (x := a) (n := 5) (by omega)
  have bb := pk_b (x := b) (n := 4) (by omega)
  have bc := pk_b (x := c) (n := 4) (by omega)
  obtain ⟨kk, p, cc, h, e1, e2, e3, C⟩ := fit_cf (k := 1 + pk a 5) (p := 1 + pk b 4) (c := 1 + pk c 4) ⟨by omega, by omega, by omega⟩
  exact ⟨kk, p, cc, h, e1, e2, e3, C, by omega, by omega⟩
structure Q2 where
  a : Int
  b : Int
def q2 (x : Q2) : List Value := [.int .i64 x.a, .int .i64 x.b]
def q20 : Q2 := ⟨0, 0⟩
theorem q2_len (x : Q2) : (q2 x).length = 2 := rfl
structure Q3 where
  a : Int
  b : Int
  c : Int
def q3 (x : Q3) : List Value := [.int .i64 x.a, .int .i64 x.b, .int .i64 x.c]
def q30 : Q3 := ⟨0, 0, 0⟩
theorem q3_len (x : Q3) : (q3 x).length = 3 := rfl
def Q2s (l : List Q2) : Prop := ∀ x ∈ l, i64R x.a ∧ i64R x.b
def Q3s (l : List Q3) : Prop := ∀ x ∈ l, i64R x.a ∧ i64R x.b ∧ i64R x.c
def LlW : FnL := ⟨(.seq (.ops [⟨(some 2), .box (.tmp 0), none⟩, ⟨(some 4), .mv (.const (.slice none 0 0)), none⟩])
 (.seq (.ops [⟨(some 17), .load true 3 (.tmp 2), none⟩, ⟨(some 18), .call (.func 37) [(.tmp 17), (.const (.int .i64 2)), (.const (.int .i64 0))], none⟩, ⟨(some 16), .mv (.tmp 18), none⟩, ⟨(some 19), .ext (.tmp 16) 0, none⟩, ⟨(some 20), .ext (.tmp 16) 1, none⟩, ⟨(some 5), .mv (.tmp 19), none⟩, ⟨(some 6), .mv (.tmp 20), none⟩])
 (.seq (.ops [⟨(some 22), .load true 3 (.tmp 2), none⟩, ⟨(some 23), .call (.func 37) [(.tmp 22), (.const (.int .i64 4)), (.const (.int .i64 0))], none⟩, ⟨(some 21), .mv (.tmp 23), none⟩, ⟨(some 24), .ext (.tmp 21) 0, none⟩, ⟨(some 25), .ext (.tmp 21) 1, none⟩, ⟨(some 7), .mv (.tmp 24), none⟩, ⟨(some 8), .mv (.tmp 25), none⟩])
 (.seq (.ops [⟨(some 26), .load true 3 (.tmp 2), none⟩, ⟨(some 27), .call (.func 38) [(.tmp 26)], none⟩, ⟨(some 9), .mv (.tmp 27), none⟩])
 (.seq (.ops [⟨(some 10), .mv (.const (.slice none 0 0)), none⟩])
 (.seq (.seq (.ops [⟨(some 11), .mv (.const (.int .i64 0)), none⟩])
 (.block 0 (.loop (.seq (.seq (.ops [⟨(some 28), .mv (.tmp 11), none⟩, ⟨(some 29), .mv (.tmp 1), none⟩, ⟨(some 30), .len false (.tmp 29), none⟩, ⟨(some 31), .bin .lss (.tmp 28) (.tmp 30), none⟩, ⟨(some 32), .mv (.tmp 31), none⟩, ⟨(some 33), .mv (.tmp 11), (some (32, true))⟩, ⟨(some 34), .bin .lss (.tmp 33) (.const (.int .i64 14)), (some (32, true))⟩, ⟨(some 35), .pick (.tmp 32) (.tmp 34) (.const (.bool false)), none⟩])
 (.cond (.tmp 35) .skip
 (.exit 0)))
 (.seq (.block 1 (.seq (.draw [⟨⟨(some 38), .mv (.tmp 1), none⟩, []⟩, ⟨⟨(some 39), .mv (.tmp 11), none⟩, []⟩, ⟨⟨(some 40), .iaddrS 2 (.tmp 38) (.tmp 39), none⟩, []⟩, ⟨⟨(some 41), .iaddrA 1 2 (.tmp 40) (.const (.int .i64 0)), none⟩, []⟩, ⟨⟨(some 42), .load false 1 (.tmp 41), none⟩, []⟩, ⟨⟨(some 43), .faddr 1 (.tmp 2), none⟩, []⟩, ⟨⟨(some 44), .load false 1 (.tmp 43), none⟩, []⟩, ⟨⟨(some 45), .bin .mul (.const (.int .i64 2)) (.tmp 44), none⟩, []⟩, ⟨⟨(some 46), .mv (.tmp 9), none⟩, []⟩, ⟨⟨(some 47), .bin .add (.tmp 45) (.tmp 46), none⟩, []⟩, ⟨⟨(some 48), .call (.func 12) [(.tmp 42), (.tmp 47)], none⟩, []⟩, ⟨⟨(some 12), .mv (.tmp 48), none⟩, []⟩])
 (.seq (.ops [⟨(some 49), .mv (.tmp 5), none⟩, ⟨(some 50), .mv (.tmp 12), none⟩, ⟨(some 51), .bin .add (.tmp 49) (.tmp 50), none⟩, ⟨(some 52), .mv (.tmp 1), none⟩, ⟨(some 53), .mv (.tmp 11), none⟩, ⟨(some 54), .iaddrS 2 (.tmp 52) (.tmp 53), none⟩, ⟨(some 55), .iaddrA 1 2 (.tmp 54) (.const (.int .i64 1)), none⟩, ⟨(some 56), .load false 1 (.tmp 55), none⟩, ⟨(some 57), .call (.func 12) [(.tmp 56), (.const (.int .i64 20))], none⟩, ⟨(some 58), .conv .u64 (.tmp 57), none⟩, ⟨(some 59), .build [(.int .i64 0), (.int .u64 0)] [(0, 1, (.tmp 51)), (1, 1, (.tmp 58))], none⟩, ⟨(some 13), .alloc [(.int .i64 0), (.int .u64 0)], none⟩, ⟨none, .store 2 (.tmp 13) (.tmp 59), none⟩])
 (.seq (.seq (.ops [⟨(some 60), .mv (.tmp 12), none⟩, ⟨(some 61), .faddr 1 (.tmp 2), none⟩, ⟨(some 62), .load false 1 (.tmp 61), none⟩, ⟨(some 63), .bin .mul (.const (.int .i64 2)) (.tmp 62), none⟩, ⟨(some 64), .bin .geq (.tmp 60) (.tmp 63), none⟩])
 (.cond (.tmp 64) (.ops [⟨(some 65), .mv (.tmp 7), none⟩, ⟨(some 66), .mv (.tmp 12), none⟩, ⟨(some 67), .bin .add (.tmp 65) (.tmp 66), none⟩, ⟨(some 68), .faddr 1 (.tmp 2), none⟩, ⟨(some 69), .load false 1 (.tmp 68), none⟩, ⟨(some 70), .bin .mul (.const (.int .i64 2)) (.tmp 69), none⟩, ⟨(some 71), .bin .sub (.tmp 67) (.tmp 70), none⟩, ⟨(some 72), .faddr 0 (.tmp 13), none⟩, ⟨none, .store 1 (.tmp 72) (.tmp 71), none⟩])
 .skip))
 (.seq (.ops [⟨(some 14), .mv (.const (.bool false)), none⟩])
 (.seq (.seq (.ops [⟨(some 15), .mv (.const (.int .i64 0)), none⟩])
 (.block 2 (.loop (.seq (.seq (.ops [⟨(some 73), .mv (.tmp 15), none⟩, ⟨(some 74), .mv (.tmp 10), none⟩, ⟨(some 75), .len false (.tmp 74), none⟩, ⟨(some 76), .bin .lss (.tmp 73) (.tmp 75), none⟩])
 (.cond (.tmp 76) .skip
 (.exit 2)))
 (.seq (.block 3 (.draw [⟨⟨(some 79), .mv (.tmp 14), none⟩, []⟩, ⟨⟨(some 80), .mv (.tmp 79), none⟩, []⟩, ⟨⟨(some 81), .mv (.tmp 10), (some (80, false))⟩, []⟩, ⟨⟨(some 82), .mv (.tmp 15), (some (80, false))⟩, []⟩, ⟨⟨(some 83), .iaddrS 2 (.tmp 81) (.tmp 82), (some (80, false))⟩, []⟩, ⟨⟨(some 84), .faddr 0 (.tmp 83), (some (80, false))⟩, []⟩, ⟨⟨(some 85), .load false 1 (.tmp 84), (some (80, false))⟩, []⟩, ⟨⟨(some 86), .faddr 0 (.tmp 13), (some (80, false))⟩, []⟩, ⟨⟨(some 87), .load false 1 (.tmp 86), (some (80, false))⟩, []⟩, ⟨⟨(some 88), .bin .eql (.tmp 85) (.tmp 87), (some (80, false))⟩, []⟩, ⟨⟨(some 89), .pick (.tmp 80) (.const (.bool true)) (.tmp 88), none⟩, []⟩, ⟨⟨(some 14), .mv (.tmp 89), none⟩, []⟩]))
 (.ops [⟨(some 77), .mv (.tmp 15), none⟩, ⟨(some 78), .bin .add (.tmp 77) (.const (.int .i64 1)), none⟩, ⟨(some 15), .mv (.tmp 78), none⟩]))))))
 (.seq (.ops [⟨(some 90), .mv (.tmp 14), none⟩, ⟨(some 91), .un .not (.tmp 90), none⟩])
 (.cond (.tmp 91) (.ops [⟨(some 92), .mv (.tmp 10), none⟩, ⟨(some 93), .load true 2 (.tmp 13), none⟩, ⟨(some 94), .buildS [(.int .i64 0), (.int .u64 0)] 1 [(0, 2, (.tmp 93))], none⟩, ⟨(some 95), .app [(.int .i64 0), (.int .u64 0)] 16 (.tmp 92) (.tmp 94), none⟩, ⟨(some 10), .mv (.tmp 95), none⟩])
 .skip))))))))
 (.ops [⟨(some 36), .mv (.tmp 11), none⟩, ⟨(some 37), .bin .add (.tmp 36) (.const (.int .i64 1)), none⟩, ⟨(some 11), .mv (.tmp 37), none⟩]))))))
 (.seq (.ops [⟨(some 96), .mv (.tmp 10), none⟩, ⟨(some 4), .mv (.tmp 96), none⟩])
 .ret))))))),
 97, [.tmp 4]⟩
theorem lowlW : lowerFn Tryd.prog Tryd.f10 = some LlW := by kernel_rfl
noncomputable def GlW (B : OH) : Nat → Cs
  | 12 => Vlaw16pick B
  | 37 => Vref04At B
  | 38 => Vref04Home B
  | _ => fun _ _ _ => none
theorem GlW_law16pick {B : OH} : GlW B 12 = Vlaw16pick B := rfl
theorem GlW_ref04At {B : OH} : GlW B 37 = Vref04At B := rfl
theorem GlW_ref04Home {B : OH} : GlW B 38 = Vref04Home B := rfl
theorem sGlW {w0 : World} {B : OH} : SoundG Tryd.prog w0 B { f := GlW B } := .of fun k => by
  unfold GlW
  split
  · exact .inr ⟨enlaw16pick, sVlaw16pick⟩
  · exact .inr ⟨enref04At, sVref04At⟩
  · exact .inr ⟨enref04Home, sVref04Home⟩
  · exact .inl fun _ _ _ => rfl
theorem enlW : Enter Tryd.prog 10 := .of Tryd.func10 (by kernel_rfl) (by kernel_rfl)
noncomputable def TlW (B : OH) : Cs := callF B { f := GlW B } 1000000 LlW
theorem sTlW {w0 : World} {B : OH} : SoundC Tryd.prog w0 B 10 (TlW B) := callF_sound mixedOrders sGlW 1000000 Tryd.func10 lowlW
noncomputable def VlW (B : OH) : Cs := TlW B
theorem sVlW {w0 : World} {B : OH} : SoundC Tryd.prog w0 B 10 (VlW B) := sTlW
structure KWo (p h c : Nat) (vr vo : Value) (i : Nat) (ts : List Value) : Prop where
  l : ts.length = 97
  t1 : gt ts 1 = vr
  t2 : gt ts 2 = .pointer (some ⟨c, 0, none⟩)
  t5 : gt ts 5 = .int .i64 ((bs p h 2 : Nat) : Int)
  t7 : gt ts 7 = .int .i64 ((bs p h 4 : Nat) : Int)
  t9 : gt ts 9 = .int .i64 (h : Int)
  t10 : gt ts 10 = vo
  t11 : gt ts 11 = .int .i64 (i : Int)
structure KWi (p h c : Nat) (vr vo : Value) (i m : Nat) (t : Bool) (k : Nat) (ts : List Value) : Prop where
  l : ts.length = 97
  t1 : gt ts 1 = vr
  t2 : gt ts 2 = .pointer (some ⟨c, 0, none⟩)
  t5 : gt ts 5 = .int .i64 ((bs p h 2 : Nat) : Int)
  t7 : gt ts 7 = .int .i64 ((bs p h 4 : Nat) : Int)
  t9 : gt ts 9 = .int .i64 (h : Int)
  t10 : gt ts 10 = vo
  t11 : gt ts 11 = .int .i64 (i : Int)
  t13 : gt ts 13 = .pointer (some ⟨m, 0, none⟩)
  t14 : gt ts 14 = .bool t
  t15 : gt ts 15 = .int .i64 (k : Int)
def lbWo : LC := (.seq (.seq (.ops [⟨(some 28), .mv (.tmp 11), none⟩, ⟨(some 29), .mv (.tmp 1), none⟩, ⟨(some 30), .len false (.tmp 29), none⟩, ⟨(some 31), .bin .lss (.tmp 28) (.tmp 30), none⟩, ⟨(some 32), .mv (.tmp 31), none⟩, ⟨(some 33), .mv (.tmp 11), (some (32, true))⟩, ⟨(some 34), .bin .lss (.tmp 33) (.const (.int .i64 14)), (some (32, true))⟩, ⟨(some 35), .pick (.tmp 32) (.tmp 34) (.const (.bool false)), none⟩])
 (.cond (.tmp 35) .skip
 (.exit 0)))
 (.seq (.block 1 (.seq (.draw [⟨⟨(some 38), .mv (.tmp 1), none⟩, []⟩, ⟨⟨(some 39), .mv (.tmp 11), none⟩, []⟩, ⟨⟨(some 40), .iaddrS 2 (.tmp 38) (.tmp 39), none⟩, []⟩, ⟨⟨(some 41), .iaddrA 1 2 (.tmp 40) (.const (.int .i64 0)), none⟩, []⟩, ⟨⟨(some 42), .load false 1 (.tmp 41), none⟩, []⟩, ⟨⟨(some 43), .faddr 1 (.tmp 2), none⟩, []⟩, ⟨⟨(some 44), .load false 1 (.tmp 43), none⟩, []⟩, ⟨⟨(some 45), .bin .mul (.const (.int .i64 2)) (.tmp 44), none⟩, []⟩, ⟨⟨(some 46), .mv (.tmp 9), none⟩, []⟩, ⟨⟨(some 47), .bin .add (.tmp 45) (.tmp 46), none⟩, []⟩, ⟨⟨(some 48), .call (.func 12) [(.tmp 42), (.tmp 47)], none⟩, []⟩, ⟨⟨(some 12), .mv (.tmp 48), none⟩, []⟩])
 (.seq (.ops [⟨(some 49), .mv (.tmp 5), none⟩, ⟨(some 50), .mv (.tmp 12), none⟩, ⟨(some 51), .bin .add (.tmp 49) (.tmp 50), none⟩, ⟨(some 52), .mv (.tmp 1), none⟩, ⟨(some 53), .mv (.tmp 11), none⟩, ⟨(some 54), .iaddrS 2 (.tmp 52) (.tmp 53), none⟩, ⟨(some 55), .iaddrA 1 2 (.tmp 54) (.const (.int .i64 1)), none⟩, ⟨(some 56), .load false 1 (.tmp 55), none⟩, ⟨(some 57), .call (.func 12) [(.tmp 56), (.const (.int .i64 20))], none⟩, ⟨(some 58), .conv .u64 (.tmp 57), none⟩, ⟨(some 59), .build [(.int .i64 0), (.int .u64 0)] [(0, 1, (.tmp 51)), (1, 1, (.tmp 58))], none⟩, ⟨(some 13), .alloc [(.int .i64 0), (.int .u64 0)], none⟩, ⟨none, .store 2 (.tmp 13) (.tmp 59), none⟩])
 (.seq (.seq (.ops [⟨(some 60), .mv (.tmp 12), none⟩, ⟨(some 61), .faddr 1 (.tmp 2), none⟩, ⟨(some 62), .load false 1 (.tmp 61), none⟩, ⟨(some 63), .bin .mul (.const (.int .i64 2)) (.tmp 62), none⟩, ⟨(some 64), .bin .geq (.tmp 60) (.tmp 63), none⟩])
 (.cond (.tmp 64) (.ops [⟨(some 65), .mv (.tmp 7), none⟩, ⟨(some 66), .mv (.tmp 12), none⟩, ⟨(some 67), .bin .add (.tmp 65) (.tmp 66), none⟩, ⟨(some 68), .faddr 1 (.tmp 2), none⟩, ⟨(some 69), .load false 1 (.tmp 68), none⟩, ⟨(some 70), .bin .mul (.const (.int .i64 2)) (.tmp 69), none⟩, ⟨(some 71), .bin .sub (.tmp 67) (.tmp 70), none⟩, ⟨(some 72), .faddr 0 (.tmp 13), none⟩, ⟨none, .store 1 (.tmp 72) (.tmp 71), none⟩])
 .skip))
 (.seq (.ops [⟨(some 14), .mv (.const (.bool false)), none⟩])
 (.seq (.seq (.ops [⟨(some 15), .mv (.const (.int .i64 0)), none⟩])
 (.block 2 (.loop (.seq (.seq (.ops [⟨(some 73), .mv (.tmp 15), none⟩, ⟨(some 74), .mv (.tmp 10), none⟩, ⟨(some 75), .len false (.tmp 74), none⟩, ⟨(some 76), .bin .lss (.tmp 73) (.tmp 75), none⟩])
 (.cond (.tmp 76) .skip
 (.exit 2)))
 (.seq (.block 3 (.draw [⟨⟨(some 79), .mv (.tmp 14), none⟩, []⟩, ⟨⟨(some 80), .mv (.tmp 79), none⟩, []⟩, ⟨⟨(some 81), .mv (.tmp 10), (some (80, false))⟩, []⟩, ⟨⟨(some 82), .mv (.tmp 15), (some (80, false))⟩, []⟩, ⟨⟨(some 83), .iaddrS 2 (.tmp 81) (.tmp 82), (some (80, false))⟩, []⟩, ⟨⟨(some 84), .faddr 0 (.tmp 83), (some (80, false))⟩, []⟩, ⟨⟨(some 85), .load false 1 (.tmp 84), (some (80, false))⟩, []⟩, ⟨⟨(some 86), .faddr 0 (.tmp 13), (some (80, false))⟩, []⟩, ⟨⟨(some 87), .load false 1 (.tmp 86), (some (80, false))⟩, []⟩, ⟨⟨(some 88), .bin .eql (.tmp 85) (.tmp 87), (some (80, false))⟩, []⟩, ⟨⟨(some 89), .pick (.tmp 80) (.const (.bool true)) (.tmp 88), none⟩, []⟩, ⟨⟨(some 14), .mv (.tmp 89), none⟩, []⟩]))
 (.ops [⟨(some 77), .mv (.tmp 15), none⟩, ⟨(some 78), .bin .add (.tmp 77) (.const (.int .i64 1)), none⟩, ⟨(some 15), .mv (.tmp 78), none⟩]))))))
 (.seq (.ops [⟨(some 90), .mv (.tmp 14), none⟩, ⟨(some 91), .un .not (.tmp 90), none⟩])
 (.cond (.tmp 91) (.ops [⟨(some 92), .mv (.tmp 10), none⟩, ⟨(some 93), .load true 2 (.tmp 13), none⟩, ⟨(some 94), .buildS [(.int .i64 0), (.int .u64 0)] 1 [(0, 2, (.tmp 93))], none⟩, ⟨(some 95), .app [(.int .i64 0), (.int .u64 0)] 16 (.tmp 92) (.tmp 94), none⟩, ⟨(some 10), .mv (.tmp 95), none⟩])
 .skip))))))))
 (.ops [⟨(some 36), .mv (.tmp 11), none⟩, ⟨(some 37), .bin .add (.tmp 36) (.const (.int .i64 1)), none⟩, ⟨(some 11), .mv (.tmp 37), none⟩])))
def lbWi : LC := (.seq (.seq (.ops [⟨(some 73), .mv (.tmp 15), none⟩, ⟨(some 74), .mv (.tmp 10), none⟩, ⟨(some 75), .len false (.tmp 74), none⟩, ⟨(some 76), .bin .lss (.tmp 73) (.tmp 75), none⟩])
 (.cond (.tmp 76) .skip
 (.exit 2)))
 (.seq (.block 3 (.draw [⟨⟨(some 79), .mv (.tmp 14), none⟩, []⟩, ⟨⟨(some 80), .mv (.tmp 79), none⟩, []⟩, ⟨⟨(some 81), .mv (.tmp 10), (some (80, false))⟩, []⟩, ⟨⟨(some 82), .mv (.tmp 15), (some (80, false))⟩, []⟩, ⟨⟨(some 83), .iaddrS 2 (.tmp 81) (.tmp 82), (some (80, false))⟩, []⟩, ⟨⟨(some 84), .faddr 0 (.tmp 83), (some (80, false))⟩, []⟩, ⟨⟨(some 85), .load false 1 (.tmp 84), (some (80, false))⟩, []⟩, ⟨⟨(some 86), .faddr 0 (.tmp 13), (some (80, false))⟩, []⟩, ⟨⟨(some 87), .load false 1 (.tmp 86), (some (80, false))⟩, []⟩, ⟨⟨(some 88), .bin .eql (.tmp 85) (.tmp 87), (some (80, false))⟩, []⟩, ⟨⟨(some 89), .pick (.tmp 80) (.const (.bool true)) (.tmp 88), none⟩, []⟩, ⟨⟨(some 14), .mv (.tmp 89), none⟩, []⟩]))
 (.ops [⟨(some 77), .mv (.tmp 15), none⟩, ⟨(some 78), .bin .add (.tmp 77) (.const (.int .i64 1)), none⟩, ⟨(some 15), .mv (.tmp 78), none⟩])))
open Classical in
noncomputable def twB (l : List W2) (a : Int) (k : Nat) : Bool := decide (∃ j, j < k ∧ (l.getD j y2).a = a)
set_option maxHeartbeats 4000000 in
theorem loopWi {B : OH} {H : HL} {N : St} {vr vo : Value} {l : List W2} {a w : Int} {p h c i m : Nat} (ho : SlR w2 2 B H vo l) (hll : l.length ≤ 1000) (hN : good B H N) (bm : B m = none) (lm : lk H m = some (.cells [.int .i64 a, .int .u64 w] 2)) {ts : List Value} (kp : KWi p h c vr vo i m false 0 ts) {F : Nat} (hF : 100 + l.length + 1 ≤ F) :
    Ok (exec B { f := GlW B } F (LC.loop lbWi) ⟨ts, H, N⟩) (fun x s => x = .exit 2 ∧ s.H = H ∧ s.N = N ∧ KWi p h c vr vo i m (twB l a l.length) l.length s.t) := by
  have hB := good_B hN
  have hR := good_rdB hN
  have hI := beqN hN.1.1
  have hlo := ho.len
  have rm := fun o n => rdB_none (o := o) (n := n) bm
  refine loop_rule (n0 := 100) (fun q s => ∃ ts, ∃ k : Nat, s = ⟨ts, H, N⟩ ∧ KWi p h c vr vo i m (twB l a k) k ts ∧ k ≤ l.length ∧ q = l.length - k) _ ?_ l.length _ ⟨ts, 0, rfl, by rw [show twB l a 0 = false from decide_eq_false fun ⟨j, hj, _⟩ => by omega]; exact kp, by omega, rfl⟩ _ hF
  clear kp hF F ts
  rintro z q s ⟨ts, k, rfl, kp, hk, rfl⟩
  have hc1 : ((k + 1 : Nat) : Int) = (k : Int) + 1 := by omega
  by_cases hin : k < l.length
  case neg =>
    obtain rfl : k = l.length := by omega
    generalize twB l a l.length = t at *
    simp -implicitDefEqProofs (maxSteps := 10000000) (disch := omega) only [TlW, LlW, GlW_law16pick, Vlaw16pick_eq, GlW_ref04At, Vref04At_eq, GlW_ref04Home, Vref04Home_eq, hB, hR, hI, lbWi, kp.l, kp.t1, kp.t2, kp.t5, kp.t7, kp.t9, kp.t10, kp.t11, kp.t13, kp.t14, kp.t15, hlo, Int.lt_irrefl, bt, bf, all1, ress, res1, retV, Value.cells, reduceIte, reduceCtorEq, Int.reduceLT, Int.reduceLE, Int.reduceToNat, Int.reduceAdd, Int.reduceSub, Int.reduceMul, Int.reduceNeg, Nat.reduceMul, Nat.reduceAdd, Nat.reduceSub, Nat.reduceBEq, Nat.reduceEqDiff, Nat.reduceLT, Nat.reduceLeDiff, Int.reduceBEq, Int.reduceEq, Nat.reducePow, Int.reducePow, Int.reduceGT, Int.reduceGE, Int.reduceBNe, newsV_s, ev1, ev2, ev3, ev4]
    refine ok_some (.inr ⟨by simp, rfl, rfl, rfl, ⟨?_, ?_, ?_, ?_, ?_, ?_, ?_, ?_, ?_, ?_, ?_⟩⟩)
    all_goals simp (maxSteps := 10000000) (disch := omega) only [kp.l, kp.t1, kp.t2, kp.t5, kp.t7, kp.t9, kp.t10, kp.t11, kp.t13, kp.t14, kp.t15, lenV_sl, Int.toNat_natCast, bft, btf, gtst, st_len, Nat.reduceAdd, Int.cast_ofNat_Int, Nat.reduceBEq, Nat.reduceLT, decide_true, ev2]
  have hin' : (k : Int) < (l.length : Int) := by omega
  have k0 : (0 : Int) ≤ (k : Int) := by omega
  obtain ⟨bv, ov, cv, rfl, _, rv⟩ := ho.at (by omega)
  have r1 : rdO H B bv (ov + k * 2) 1 (rdB B bv (ov + k * 2) 1) = some [.int .i64 (l.getD k y2).a] := (rv H Fr.refl k 0 1 y2 hin (by omega)).trans rfl
  cases ht : twB l a k with
  | true =>
    have ht1 : twB l a (k + 1) = true := decide_eq_true (let ⟨j, hj, e⟩ := of_decide_eq_true ht; ⟨j, by omega, e⟩)
    rw [ht] at kp
    simp -implicitDefEqProofs (maxSteps := 10000000) (disch := omega) only [TlW, LlW, GlW_law16pick, Vlaw16pick_eq, GlW_ref04At, Vref04At_eq, GlW_ref04Home, Vref04Home_eq, hB, hR, hI, lbWi, kp.l, kp.t1, kp.t2, kp.t5, kp.t7, kp.t9, kp.t10, kp.t11, kp.t13, kp.t14, kp.t15, hlo, hin', hin, k0, bt, bf, all1, ress, res1, retV, Value.cells, reduceIte, reduceCtorEq, Int.reduceLT, Int.reduceLE, Int.reduceToNat, Int.reduceAdd, Int.reduceSub, Int.reduceMul, Int.reduceNeg, Nat.reduceMul, Nat.reduceAdd, Nat.reduceSub, Nat.reduceBEq, Nat.reduceEqDiff, Nat.reduceLT, Nat.reduceLeDiff, Int.reduceBEq, Int.reduceEq, Nat.reducePow, Int.reducePow, Int.reduceGT, Int.reduceGE, Int.reduceBNe, newsV_s, ev1, ev2, ev3, ev4]
    refine ok_some (.inl ⟨rfl, l.length - (k + 1), by omega, _, k + 1, rfl, ⟨?_, ?_, ?_, ?_, ?_, ?_, ?_, ?_, ?_, ?_, ?_⟩, by omega, rfl⟩)
    all_goals simp (maxSteps := 10000000) (disch := omega) only [kp.l, kp.t1, kp.t2, kp.t5, kp.t7, kp.t9, kp.t10, kp.t11, kp.t13, kp.t14, kp.t15, lenV_sl, Int.toNat_natCast, bft, btf, gtst, st_len, hc1, ht1, Nat.reduceAdd, Int.cast_ofNat_Int, Nat.reduceBEq, Nat.reduceLT, decide_true, ev2]
  | false =>
    have hno := of_decide_eq_false ht
    rw [ht] at kp
    by_cases he : (l.getD k y2).a = a
    · have ht1 : twB l a (k + 1) = true := decide_eq_true ⟨k, by omega, he⟩
      have hb : ((l.getD k y2).a == a) = true := by simpa using he
      simp -implicitDefEqProofs (maxSteps := 10000000) (disch := omega) only [TlW, LlW, GlW_law16pick, Vlaw16pick_eq, GlW_ref04At, Vref04At_eq, GlW_ref04Home, Vref04Home_eq, hB, hR, hI, lbWi, kp.l, kp.t1, kp.t2, kp.t5, kp.t7, kp.t9, kp.t10, kp.t11, kp.t13, kp.t14, kp.t15, hlo, hin', hin, k0, r1, lm, bm, rm, hb, bt, bf, all1, ress, res1, retV, Value.cells, reduceIte, reduceCtorEq, Int.reduceLT, Int.reduceLE, Int.reduceToNat, Int.reduceAdd, Int.reduceSub, Int.reduceMul, Int.reduceNeg, Nat.reduceMul, Nat.reduceAdd, Nat.reduceSub, Nat.reduceBEq, Nat.reduceEqDiff, Nat.reduceLT, Nat.reduceLeDiff, Int.reduceBEq, Int.reduceEq, Nat.reducePow, Int.reducePow, Int.reduceGT, Int.reduceGE, Int.reduceBNe, newsV_s, ev1, ev2, ev3, ev4]
      refine ok_some (.inl ⟨rfl, l.length - (k + 1), by omega, _, k + 1, rfl, ⟨?_, ?_, ?_, ?_, ?_, ?_, ?_, ?_, ?_, ?_, ?_⟩, by omega, rfl⟩)
      all_goals simp (maxSteps := 10000000) (disch := omega) only [kp.l, kp.t1, kp.t2, kp.t5, kp.t7, kp.t9, kp.t10, kp.t11, kp.t13, kp.t14, kp.t15, lenV_sl, Int.toNat_natCast, bft, btf, gtst, st_len, hc1, ht1, Nat.reduceAdd, Int.cast_ofNat_Int, Nat.reduceBEq, Nat.reduceLT, decide_true, ev2]
    · have ht1 : twB l a (k + 1) = false := decide_eq_false fun ⟨j, hj, e⟩ => by
        by_cases hjk : j = k
        · rw [hjk] at e; exact he e
        · exact hno ⟨j, by omega, e⟩
      have hb := beqI he
      simp -implicitDefEqProofs (maxSteps := 10000000) (disch := omega) only [TlW, LlW, GlW_law16pick, Vlaw16pick_eq, GlW_ref04At, Vref04At_eq, GlW_ref04Home, Vref04Home_eq, hB, hR, hI, lbWi, kp.l, kp.t1, kp.t2, kp.t5, kp.t7, kp.t9, kp.t10, kp.t11, kp.t13, kp.t14, kp.t15, hlo, hin', hin, k0, r1, lm, bm, rm, hb, bt, bf, all1, ress, res1, retV, Value.cells, reduceIte, reduceCtorEq, Int.reduceLT, Int.reduceLE, Int.reduceToNat, Int.reduceAdd, Int.reduceSub, Int.reduceMul, Int.reduceNeg, Nat.reduceMul, Nat.reduceAdd, Nat.reduceSub, Nat.reduceBEq, Nat.reduceEqDiff, Nat.reduceLT, Nat.reduceLeDiff, Int.reduceBEq, Int.reduceEq, Nat.reducePow, Int.reducePow, Int.reduceGT, Int.reduceGE, Int.reduceBNe, newsV_s, ev1, ev2, ev3, ev4]
      refine ok_some (.inl ⟨rfl, l.length - (k + 1), by omega, _, k + 1, rfl, ⟨?_, ?_, ?_, ?_, ?_, ?_, ?_, ?_, ?_, ?_, ?_⟩, by omega, rfl⟩)
      all_goals simp (maxSteps := 10000000) (disch := omega) only [kp.l, kp.t1, kp.t2, kp.t5, kp.t7, kp.t9, kp.t10, kp.t11, kp.t13, kp.t14, kp.t15, lenV_sl, Int.toNat_natCast, bft, btf, gtst, st_len, hc1, ht1, Nat.reduceAdd, Int.cast_ofNat_Int, Nat.reduceBEq, Nat.reduceLT, decide_true, ev2]
theorem okL_app {p h : Nat} {l : List W2} {x : W2} (ho : okL p h l l.length) (hx : okP p h x.a) (hn : ¬ ∃ j, j < l.length ∧ (l.getD j y2).a = x.a) : okL p h (l ++ [x]) (l ++ [x]).length := by
  have hg : ∀ i, i < l.length → (l ++ [x]).getD i y2 = l.getD i y2 := fun i hi => by
    rw [List.getD_eq_getElem?_getD, List.getElem?_append_left hi, ← List.getD_eq_getElem?_getD]
  have hl : (l ++ [x]).getD l.length y2 = x := by
    rw [List.getD_eq_getElem?_getD, List.getElem?_append_right (Nat.le_refl _), Nat.sub_self]; rfl
  intro i hi
  rw [List.length_append, List.length_singleton] at hi
  by_cases e : i = l.length
  · subst e
    rw [hl]
    refine ⟨hx, fun j hj => ?_⟩
    rw [hg j hj]
    exact fun e => hn ⟨j, hj, e⟩
  · rw [hg i (by omega)]
    refine ⟨(ho i (by omega)).1, fun j hj => ?_⟩
    rw [hg j (by omega)]
    exact (ho i (by omega)).2 j hj
set_option maxHeartbeats 8000000 in
theorem loopWo {B : OH} {H : HL} {N : St} {vr : Value} {raw : List Q2} {kk p cc h c : Nat} (C : Cf kk p cc h) (hr : SlR q2 2 B H vr raw) (hrs : Q2s raw) (hN : good B H N) (bc : B c = none) (lc : lk H c = some (.cells [.int .i64 (kk : Int), .int .i64 (p : Int), .int .i64 (cc : Int)] 3)) {ts : List Value} (kp : KWo p h c vr (.slice none 0 0) 0 ts) {F : Nat} (hF : 3000 + 14 + 1 ≤ F) :
    Ok (exec B { f := GlW B } F (LC.loop lbWo) ⟨ts, H, N⟩) (fun x s => x = .exit 0 ∧ good B s.H s.N ∧ Fr H s.H ∧ ∃ vo l i, SlM w2 2 B H s.H vo l ∧ okL p h l l.length ∧ W2s l ∧ l.length ≤ 14 ∧ KWo p h c vr vo i s.t) := by
  have hlr := hr.len
  have hcp := C.p
  have hch := C.h
  have b23 : bs p h 3 = bs p h 2 + 2 * p := by rw [bs_2, bs_3]; omega
  have b45 := bs4_5 (p := p) (h := h)
  have b5 := bs5_b C
  have b24 : bs p h 3 ≤ bs p h 4 := by rw [bs_3, bs_4]; omega
  refine loop_rule (n0 := 3000) (fun q s => ∃ ts H' N' vo l, ∃ i : Nat, s = ⟨ts, H', N'⟩ ∧ KWo p h c vr vo i ts ∧ good B H' N' ∧ Fr H H' ∧ SlM w2 2 B H H' vo l ∧ okL p h l l.length ∧ W2s l ∧ l.length ≤ i ∧ i ≤ 14 ∧ q = 14 - i) _ ?_ 14 _ ⟨ts, H, N, _, [], 0, rfl, kp, hN, Fr.refl, .inl ⟨rfl, rfl⟩, fun i hi => (by simp at hi), fun x hx => (by cases hx), by simp, by omega, rfl⟩ _ hF
  clear kp hF F ts hN N
  rintro z q s ⟨ts, H1, N1, vo, l, i, rfl, kp, g, fr, so, hok, hws, hli, hi, rfl⟩
  have hB := good_B g
  have hR := good_rdB g
  have hI := beqN g.1.1
  have hG : ∃ H N, good B H N := ⟨H1, N1, g⟩
  have lc1 := fr _ _ lc
  have nc := ne_N g lc1
  have nc' := ne_N' g lc1
  have rc := fun o n => rdB_none (o := o) (n := n) bc
  have hc1 : ((i + 1 : Nat) : Int) = (i : Int) + 1 := by omega
  by_cases hin : i < raw.length
  case neg =>
    have hn' : ¬ (i : Int) < (raw.length : Int) := by omega
    simp -implicitDefEqProofs (maxSteps := 10000000) (disch := omega) only [TlW, LlW, GlW_law16pick, Vlaw16pick_eq, GlW_ref04At, Vref04At_eq, GlW_ref04Home, Vref04Home_eq, hB, hR, hI, lbWo, kp.l, kp.t1, kp.t2, kp.t5, kp.t7, kp.t9, kp.t10, kp.t11, hlr, hn', bt, bf, all1, ress, res1, retV, Value.cells, reduceIte, reduceCtorEq, Int.reduceLT, Int.reduceLE, Int.reduceToNat, Int.reduceAdd, Int.reduceSub, Int.reduceMul, Int.reduceNeg, Nat.reduceMul, Nat.reduceAdd, Nat.reduceSub, Nat.reduceBEq, Nat.reduceEqDiff, Nat.reduceLT, Nat.reduceLeDiff, Int.reduceBEq, Int.reduceEq, Nat.reducePow, Int.reducePow, Int.reduceGT, Int.reduceGE, Int.reduceBNe, newsV_s, ev1, ev2, ev3, ev4]
    refine ok_some (.inr ⟨by simp, rfl, g, fr, vo, l, i, so, hok, hws, by omega, ⟨?_, ?_, ?_, ?_, ?_, ?_, ?_, ?_⟩⟩)
    all_goals simp (maxSteps := 10000000) (disch := omega) only [kp.l, kp.t1, kp.t2, kp.t5, kp.t7, kp.t9, kp.t10, kp.t11, lenV_sl, Int.toNat_natCast, bft, btf, gtst, st_len, Nat.reduceAdd, Int.cast_ofNat_Int, Nat.reduceBEq, Nat.reduceLT, decide_true, ev2]
  have hin' : (i : Int) < (raw.length : Int) := by omega
  by_cases h14 : i < 14
  case neg =>
    have hn' : ¬ (i : Int) < 14 := by omega
    simp -implicitDefEqProofs (maxSteps := 10000000) (disch := omega) only [TlW, LlW, GlW_law16pick, Vlaw16pick_eq, GlW_ref04At, Vref04At_eq, GlW_ref04Home, Vref04Home_eq, hB, hR, hI, lbWo, kp.l, kp.t1, kp.t2, kp.t5, kp.t7, kp.t9, kp.t10, kp.t11, hlr, hin', hn', bt, bf, all1, ress, res1, retV, Value.cells, reduceIte, reduceCtorEq, Int.reduceLT, Int.reduceLE, Int.reduceToNat, Int.reduceAdd, Int.reduceSub, Int.reduceMul, Int.reduceNeg, Nat.reduceMul, Nat.reduceAdd, Nat.reduceSub, Nat.reduceBEq, Nat.reduceEqDiff, Nat.reduceLT, Nat.reduceLeDiff, Int.reduceBEq, Int.reduceEq, Nat.reducePow, Int.reducePow, Int.reduceGT, Int.reduceGE, Int.reduceBNe, newsV_s, ev1, ev2, ev3, ev4]
    refine ok_some (.inr ⟨by simp, rfl, g, fr, vo, l, i, so, hok, hws, by omega, ⟨?_, ?_, ?_, ?_, ?_, ?_, ?_, ?_⟩⟩)
    all_goals simp (maxSteps := 10000000) (disch := omega) only [kp.l, kp.t1, kp.t2, kp.t5, kp.t7, kp.t9, kp.t10, kp.t11, lenV_sl, Int.toNat_natCast, bft, btf, gtst, st_len, Nat.reduceAdd, Int.cast_ofNat_Int, Nat.reduceBEq, Nat.reduceLT, decide_true, ev2]
  have h14' : (i : Int) < 14 := by omega
  have i0 : (0 : Int) ≤ (i : Int) := by omega
  obtain ⟨br, orr, cr, rfl, _, rr⟩ := hr.at (by omega)
  have r1 : rdO H1 B br (orr + i * 2) 1 (rdB B br (orr + i * 2) 1) = some [.int .i64 (raw.getD i q20).a] := (rr H1 fr i 0 1 q20 hin (by omega)).trans rfl
  have r2 : rdO H1 B br (orr + i * 2 + 1) 1 (rdB B br (orr + i * 2 + 1) 1) = some [.int .i64 (raw.getD i q20).b] := (rr H1 fr i 1 1 q20 hin (by omega)).trans rfl
  have hri := hrs (raw.getD i q20) (List.mem_of_getElem? (some_getD (d := q20) hin))
  generalize raw.getD i q20 = x at r1 r2 hri
  obtain ⟨xa, xb⟩ := x
  simp only at r1 r2 hri
  have e1 := fpick hG xa (2 * (p : Int) + (h : Int)) hri.1 (by omega)
  have e2 := fpick hG xb 20 hri.2 (by omega)
  have k1 := pk_b (x := xa) (n := 2 * (p : Int) + (h : Int)) (by omega)
  have k2 := pk_b (x := xb) (n := 20) (by omega)
  generalize pk xa (2 * (p : Int) + (h : Int)) = at_ at *
  generalize pk xb 20 = w at *
  have main : ∀ (a : Int), okP p h a → ∀ (ts' : List Value), KWi p h c (.slice (some ⟨br, orr, none⟩) raw.length cr) vo i (N1.n 0) false 0 ts' →
      ∀ F, 1015 ≤ F → Ok (exec B { f := GlW B } F (LC.loop lbWi) ⟨ts', (N1.n 0, .cells [.int .i64 a, .int .u64 w] 2) :: H1, sh N1⟩) (fun x s => x = .exit 2 ∧ s.H = (N1.n 0, .cells [.int .i64 a, .int .u64 w] 2) :: H1 ∧ s.N = sh N1 ∧ KWi p h c (.slice (some ⟨br, orr, none⟩) raw.length cr) vo i (N1.n 0) (twB l a l.length) l.length s.t) := fun a ha ts' kp' F hF =>
    loopWi ((so.rd w2_len).mono (fr_new g Fr.refl 0)) (by omega) (good_new g) (hB 0) lk_top kp' (by omega)
  by_cases hge : at_ ≥ 2 * (p : Int)
  · have hokp : okP p h (((bs p h 4 : Nat) : Int) + at_ - 2 * (p : Int)) := by unfold okP; omega
    simp -implicitDefEqProofs (maxSteps := 10000000) (disch := omega) only [TlW, LlW, GlW_law16pick, Vlaw16pick_eq, GlW_ref04At, Vref04At_eq, GlW_ref04Home, Vref04Home_eq, hB, hR, hI, lbWo, kp.l, kp.t1, kp.t2, kp.t5, kp.t7, kp.t9, kp.t10, kp.t11, hlr, hin, hin', h14', i0, r1, r2, e1, e2, lc1, bc, rc, nc, nc', hge, bt, bf, all1, ress, res1, retV, Value.cells, reduceIte, reduceCtorEq, Int.reduceLT, Int.reduceLE, Int.reduceToNat, Int.reduceAdd, Int.reduceSub, Int.reduceMul, Int.reduceNeg, Nat.reduceMul, Nat.reduceAdd, Nat.reduceSub, Nat.reduceBEq, Nat.reduceEqDiff, Nat.reduceLT, Nat.reduceLeDiff, Int.reduceBEq, Int.reduceEq, Nat.reducePow, Int.reducePow, Int.reduceGT, Int.reduceGE, Int.reduceBNe, newsV_s, ev1, ev2, ev3, ev4]
    generalize hX : exec B _ _ (LC.loop _) _ = o
    obtain ⟨y, ⟨ts2, H2, N2⟩, rfl, rfl, rfl, rfl, kp2⟩ := (show Ok o _ by rw [← hX]; exact main _ hokp _ (by constructor <;> simp (maxSteps := 10000000) (disch := omega) only [ kp.l, kp.t1, kp.t2, kp.t5, kp.t7, kp.t9, kp.t10, kp.t11, lenV_sl, Int.toNat_natCast, bft, btf, gtst, st_len, Nat.reduceAdd, Int.cast_ofNat_Int, Nat.reduceBEq, Nat.reduceLT, decide_true, ev2]) _ (by omega))
    simp only at kp2
    clear kp
    have kp := kp2
    have g2 : good B ((N1.n 0, .cells [.int .i64 (((bs p h 4 : Nat) : Int) + at_ - 2 * (p : Int)), .int .u64 w] 2) :: H1) (sh N1) := good_new g
    have f2 : Fr H1 ((N1.n 0, .cells [.int .i64 (((bs p h 4 : Nat) : Int) + at_ - 2 * (p : Int)), .int .u64 w] 2) :: H1) := fr_new g Fr.refl 0
    have b0 := hB 0
    have rb0 := fun o n => rdB_none (o := o) (n := n) b0
    cases ht : twB l (((bs p h 4 : Nat) : Int) + at_ - 2 * (p : Int)) l.length with
    | true =>
      rw [ht] at kp
      simp -implicitDefEqProofs (maxSteps := 10000000) (disch := omega) only [TlW, LlW, GlW_law16pick, Vlaw16pick_eq, GlW_ref04At, Vref04At_eq, GlW_ref04Home, Vref04Home_eq, hB, hR, hI, lbWo, kp.l, kp.t1, kp.t2, kp.t5, kp.t7, kp.t9, kp.t10, kp.t11, kp.t13, kp.t14, kp.t15, bt, bf, all1, ress, res1, retV, Value.cells, reduceIte, reduceCtorEq, Int.reduceLT, Int.reduceLE, Int.reduceToNat, Int.reduceAdd, Int.reduceSub, Int.reduceMul, Int.reduceNeg, Nat.reduceMul, Nat.reduceAdd, Nat.reduceSub, Nat.reduceBEq, Nat.reduceEqDiff, Nat.reduceLT, Nat.reduceLeDiff, Int.reduceBEq, Int.reduceEq, Nat.reducePow, Int.reducePow, Int.reduceGT, Int.reduceGE, Int.reduceBNe, newsV_s, ev1, ev2, ev3, ev4]
      refine ok_some (.inl ⟨rfl, 14 - (i + 1), by omega, _, _, _, vo, l, i + 1, rfl, ⟨?_, ?_, ?_, ?_, ?_, ?_, ?_, ?_⟩, g2, fr.trans f2, so.mono fun y c _ e => f2 y c e, hok, hws, by omega, by omega, rfl⟩)
      all_goals simp (maxSteps := 10000000) (disch := omega) only [kp.l, kp.t1, kp.t2, kp.t5, kp.t7, kp.t9, kp.t10, kp.t11, kp.t13, kp.t14, kp.t15, lenV_sl, Int.toNat_natCast, bft, btf, gtst, st_len, hc1, Nat.reduceAdd, Int.cast_ofNat_Int, Nat.reduceBEq, Nat.reduceLT, decide_true, ev2]
    | false =>
      rw [ht] at kp
      obtain ⟨v4, H4, N4, e4, g4, r4, _, s4, _⟩ := push_specM w2_len (bytes := 16) g2 (fr.trans f2) (so.mono fun y c _ e => f2 y c e) ⟨((bs p h 4 : Nat) : Int) + at_ - 2 * (p : Int), w⟩ rfl (by omega) (by omega)
      simp only [w2, sh_app] at e4
      have hok2 := okL_app (x := ⟨((bs p h 4 : Nat) : Int) + at_ - 2 * (p : Int), w⟩) hok hokp (of_decide_eq_false ht)
      have hws2 : W2s (l ++ [⟨((bs p h 4 : Nat) : Int) + at_ - 2 * (p : Int), w⟩]) := fun y hy => by
        rcases List.mem_append.1 hy with h' | h'
        · exact hws y h'
        · rw [List.mem_singleton.1 h']
          have := okP_b C hokp
          unfold i64R u64R; simp only; omega
      simp -implicitDefEqProofs (maxSteps := 10000000) (disch := omega) only [TlW, LlW, GlW_law16pick, Vlaw16pick_eq, GlW_ref04At, Vref04At_eq, GlW_ref04Home, Vref04Home_eq, hB, hR, hI, lbWo, kp.l, kp.t1, kp.t2, kp.t5, kp.t7, kp.t9, kp.t10, kp.t11, kp.t13, kp.t14, kp.t15, b0, rb0, e4, bt, bf, all1, ress, res1, retV, Value.cells, reduceIte, reduceCtorEq, Int.reduceLT, Int.reduceLE, Int.reduceToNat, Int.reduceAdd, Int.reduceSub, Int.reduceMul, Int.reduceNeg, Nat.reduceMul, Nat.reduceAdd, Nat.reduceSub, Nat.reduceBEq, Nat.reduceEqDiff, Nat.reduceLT, Nat.reduceLeDiff, Int.reduceBEq, Int.reduceEq, Nat.reducePow, Int.reducePow, Int.reduceGT, Int.reduceGE, Int.reduceBNe, newsV_s, ev1, ev2, ev3, ev4]
      refine ok_some (.inl ⟨rfl, 14 - (i + 1), by omega, _, H4, N4, v4, _, i + 1, rfl, ⟨?_, ?_, ?_, ?_, ?_, ?_, ?_, ?_⟩, g4, r4, s4.toM, hok2, hws2, by rw [List.length_append]; simp; omega, by omega, rfl⟩)
      all_goals simp (maxSteps := 10000000) (disch := omega) only [kp.l, kp.t1, kp.t2, kp.t5, kp.t7, kp.t9, kp.t10, kp.t11, kp.t13, kp.t14, kp.t15, lenV_sl, Int.toNat_natCast, bft, btf, gtst, st_len, hc1, Nat.reduceAdd, Int.cast_ofNat_Int, Nat.reduceBEq, Nat.reduceLT, decide_true, ev2]
  · have hokp : okP p h (((bs p h 2 : Nat) : Int) + at_) := by unfold okP; omega
    simp -implicitDefEqProofs (maxSteps := 10000000) (disch := omega) only [TlW, LlW, GlW_law16pick, Vlaw16pick_eq, GlW_ref04At, Vref04At_eq, GlW_ref04Home, Vref04Home_eq, hB, hR, hI, lbWo, kp.l, kp.t1, kp.t2, kp.t5, kp.t7, kp.t9, kp.t10, kp.t11, hlr, hin, hin', h14', i0, r1, r2, e1, e2, lc1, bc, rc, nc, nc', hge, bt, bf, all1, ress, res1, retV, Value.cells, reduceIte, reduceCtorEq, Int.reduceLT, Int.reduceLE, Int.reduceToNat, Int.reduceAdd, Int.reduceSub, Int.reduceMul, Int.reduceNeg, Nat.reduceMul, Nat.reduceAdd, Nat.reduceSub, Nat.reduceBEq, Nat.reduceEqDiff, Nat.reduceLT, Nat.reduceLeDiff, Int.reduceBEq, Int.reduceEq, Nat.reducePow, Int.reducePow, Int.reduceGT, Int.reduceGE, Int.reduceBNe, newsV_s, ev1, ev2, ev3, ev4]
    generalize hX : exec B _ _ (LC.loop _) _ = o
    obtain ⟨y, ⟨ts2, H2, N2⟩, rfl, rfl, rfl, rfl, kp2⟩ := (show Ok o _ by rw [← hX]; exact main _ hokp _ (by constructor <;> simp (maxSteps := 10000000) (disch := omega) only [ kp.l, kp.t1, kp.t2, kp.t5, kp.t7, kp.t9, kp.t10, kp.t11, lenV_sl, Int.toNat_natCast, bft, btf, gtst, st_len, Nat.reduceAdd, Int.cast_ofNat_Int, Nat.reduceBEq, Nat.reduceLT, decide_true, ev2]) _ (by omega))
    simp only at kp2
    clear kp
    have kp := kp2
    have g2 : good B ((N1.n 0, .cells [.int .i64 (((bs p h 2 : Nat) : Int) + at_), .int .u64 w] 2) :: H1) (sh N1) := good_new g
    have f2 : Fr H1 ((N1.n 0, .cells [.int .i64 (((bs p h 2 : Nat) : Int) + at_), .int .u64 w] 2) :: H1) := fr_new g Fr.refl 0
    have b0 := hB 0
    have rb0 := fun o n => rdB_none (o := o) (n := n) b0
    cases ht : twB l (((bs p h 2 : Nat) : Int) + at_) l.length with
    | true =>
      rw [ht] at kp
      simp -implicitDefEqProofs (maxSteps := 10000000) (disch := omega) only [TlW, LlW, GlW_law16pick, Vlaw16pick_eq, GlW_ref04At, Vref04At_eq, GlW_ref04Home, Vref04Home_eq, hB, hR, hI, lbWo, kp.l, kp.t1, kp.t2, kp.t5, kp.t7, kp.t9, kp.t10, kp.t11, kp.t13, kp.t14, kp.t15, bt, bf, all1, ress, res1, retV, Value.cells, reduceIte, reduceCtorEq, Int.reduceLT, Int.reduceLE, Int.reduceToNat, Int.reduceAdd, Int.reduceSub, Int.reduceMul, Int.reduceNeg, Nat.reduceMul, Nat.reduceAdd, Nat.reduceSub, Nat.reduceBEq, Nat.reduceEqDiff, Nat.reduceLT, Nat.reduceLeDiff, Int.reduceBEq, Int.reduceEq, Nat.reducePow, Int.reducePow, Int.reduceGT, Int.reduceGE, Int.reduceBNe, newsV_s, ev1, ev2, ev3, ev4]
      refine ok_some (.inl ⟨rfl, 14 - (i + 1), by omega, _, _, _, vo, l, i + 1, rfl, ⟨?_, ?_, ?_, ?_, ?_, ?_, ?_, ?_⟩, g2, fr.trans f2, so.mono fun y c _ e => f2 y c e, hok, hws, by omega, by omega, rfl⟩)
      all_goals simp (maxSteps := 10000000) (disch := omega) only [kp.l, kp.t1, kp.t2, kp.t5, kp.t7, kp.t9, kp.t10, kp.t11, kp.t13, kp.t14, kp.t15, lenV_sl, Int.toNat_natCast, bft, btf, gtst, st_len, hc1, Nat.reduceAdd, Int.cast_ofNat_Int, Nat.reduceBEq, Nat.reduceLT, decide_true, ev2]
    | false =>
      rw [ht] at kp
      obtain ⟨v4, H4, N4, e4, g4, r4, _, s4, _⟩ := push_specM w2_len (bytes := 16) g2 (fr.trans f2) (so.mono fun y c _ e => f2 y c e) ⟨((bs p h 2 : Nat) : Int) + at_, w⟩ rfl (by omega) (by omega)
      simp only [w2, sh_app] at e4
      have hok2 := okL_app (x := ⟨((bs p h 2 : Nat) : Int) + at_, w⟩) hok hokp (of_decide_eq_false ht)
      have hws2 : W2s (l ++ [⟨((bs p h 2 : Nat) : Int) + at_, w⟩]) := fun y hy => by
        rcases List.mem_append.1 hy with h' | h'
        · exact hws y h'
        · rw [List.mem_singleton.1 h']
          have := okP_b C hokp
          unfold i64R u64R; simp only; omega
      simp -implicitDefEqProofs (maxSteps := 10000000) (disch := omega) only [TlW, LlW, GlW_law16pick, Vlaw16pick_eq, GlW_ref04At, Vref04At_eq, GlW_ref04Home, Vref04Home_eq, hB, hR, hI, lbWo, kp.l, kp.t1, kp.t2, kp.t5, kp.t7, kp.t9, kp.t10, kp.t11, kp.t13, kp.t14, kp.t15, b0, rb0, e4, bt, bf, all1, ress, res1, retV, Value.cells, reduceIte, reduceCtorEq, Int.reduceLT, Int.reduceLE, Int.reduceToNat, Int.reduceAdd, Int.reduceSub, Int.reduceMul, Int.reduceNeg, Nat.reduceMul, Nat.reduceAdd, Nat.reduceSub, Nat.reduceBEq, Nat.reduceEqDiff, Nat.reduceLT, Nat.reduceLeDiff, Int.reduceBEq, Int.reduceEq, Nat.reducePow, Int.reducePow, Int.reduceGT, Int.reduceGE, Int.reduceBNe, newsV_s, ev1, ev2, ev3, ev4]
      refine ok_some (.inl ⟨rfl, 14 - (i + 1), by omega, _, H4, N4, v4, _, i + 1, rfl, ⟨?_, ?_, ?_, ?_, ?_, ?_, ?_, ?_⟩, g4, r4, s4.toM, hok2, hws2, by rw [List.length_append]; simp; omega, by omega, rfl⟩)
      all_goals simp (maxSteps := 10000000) (disch := omega) only [kp.l, kp.t1, kp.t2, kp.t5, kp.t7, kp.t9, kp.t10, kp.t11, kp.t13, kp.t14, kp.t15, lenV_sl, Int.toNat_natCast, bft, btf, gtst, st_len, hc1, Nat.reduceAdd, Int.cast_ofNat_Int, Nat.reduceBEq, Nat.reduceLT, decide_true, ev2]
end Go.Proofs.YtfhiplfagejfoaaDoor
namespace Go.Proofs.YtfhiplfagejfoaaDoor
open Go.Proofs.YtfhiplfagejfoaaDoor.K Go.ChangeShapes Go.WideShapes Go.ChangeAt Go.RowKit 
set_option maxRecDepth 100000
set_option linter.unusedSimpArgs false
set_option linter.unusedVariables false
set_option maxHeartbeats 4000000 in
theorem fWrites {B : OH} {H : HL} {N : St} {vr : Value} {raw : List Q2} {kk p cc h : Nat} (C : Cf kk p cc h) (hr : SlR q2 2 B H vr raw) (hrs : Q2s raw) (hN : good B H N) :
    ∃ vl H' N' l, VlW B [.agg #[.int .i64 (kk : Int), .int .i64 (p : Int), .int .i64 (cc : Int)], vr] H N = some (.ret vl, H', N') ∧ good B H' N' ∧ Fr H H' ∧ SlM w2 2 B H H' vl l ∧ okL p h l l.length ∧ W2s l ∧ l.length ≤ 14 := by
  have hB := good_B hN
  have hR := good_rdB hN
  have hI := beqN hN.1.1
  have hG : ∃ H N, good B H N := ⟨H, N, hN⟩
  have b0 := hB 0
  have rb0 := fun o n => rdB_none (o := o) (n := n) b0
  have e2 := rAt2 hG C
  have e4 := rAt4 hG C
  have eh := rHome hG C
  have g0 : good B ((N.n 0, .cells [.int .i64 (kk : Int), .int .i64 (p : Int), .int .i64 (cc : Int)] 3) :: H) (sh N) := good_new hN
  have f0 : Fr H ((N.n 0, .cells [.int .i64 (kk : Int), .int .i64 (p : Int), .int .i64 (cc : Int)] 3) :: H) := fr_new hN Fr.refl 0
  have q0 : lk ((N.n 0, .cells [.int .i64 (kk : Int), .int .i64 (p : Int), .int .i64 (cc : Int)] 3) :: H) (N.n 0) = some (.cells [.int .i64 (kk : Int), .int .i64 (p : Int), .int .i64 (cc : Int)] 3) := lk_top
  unfold VlW
  simp -implicitDefEqProofs (maxSteps := 10000000) (disch := omega) only [TlW, LlW, GlW_law16pick, Vlaw16pick_eq, GlW_ref04At, Vref04At_eq, GlW_ref04Home, Vref04Home_eq, hB, hR, hI, e2, e4, eh, bt, bf, all1, ress, res1, retV, Value.cells, reduceIte, reduceCtorEq, Int.reduceLT, Int.reduceLE, Int.reduceToNat, Int.reduceAdd, Int.reduceSub, Int.reduceMul, Int.reduceNeg, Nat.reduceMul, Nat.reduceAdd, Nat.reduceSub, Nat.reduceBEq, Nat.reduceEqDiff, Nat.reduceLT, Nat.reduceLeDiff, Int.reduceBEq, Int.reduceEq, Nat.reducePow, Int.reducePow, Int.reduceGT, Int.reduceGE, Int.reduceBNe, newsV_s, ev1, ev2, ev3, ev4]
  generalize hX : exec B _ _ (LC.loop _) _ = o
  obtain ⟨x, ⟨ts, H1, N1⟩, rfl, rfl, g1, f1, vo, l, i, sl, hok, hws, hll, kp⟩ := (show Ok o _ by rw [← hX]; exact loopWo (c := N.n 0) C (hr.mono f0) hrs g0 b0 q0 ⟨rfl, rfl, rfl, rfl, rfl, rfl, rfl, rfl⟩ (by omega))
  simp only at g1 f1 sl kp
  simp -implicitDefEqProofs (maxSteps := 10000000) (disch := omega) only [TlW, LlW, GlW_law16pick, Vlaw16pick_eq, GlW_ref04At, Vref04At_eq, GlW_ref04Home, Vref04Home_eq, hB, hR, hI, kp.l, kp.t1, kp.t2, kp.t5, kp.t7, kp.t9, kp.t10, kp.t11, bt, bf, all1, ress, res1, retV, Value.cells, reduceIte, reduceCtorEq, Int.reduceLT, Int.reduceLE, Int.reduceToNat, Int.reduceAdd, Int.reduceSub, Int.reduceMul, Int.reduceNeg, Nat.reduceMul, Nat.reduceAdd, Nat.reduceSub, Nat.reduceBEq, Nat.reduceEqDiff, Nat.reduceLT, Nat.reduceLeDiff, Int.reduceBEq, Int.reduceEq, Nat.reducePow, Int.reducePow, Int.reduceGT, Int.reduceGE, Int.reduceBNe, newsV_s, ev1, ev2, ev3, ev4]
  exact ⟨_, _, _, l, rfl, g1, f0.trans f1, sl.low f0.dm, hok, hws, hll⟩
theorem wr_c2w {L : List C2} {rest : List Value} {i : Nat} (x : Int) (hi : i < L.length) : wr (fl c2 L ++ rest) (i * 2) [.int .u64 x] = some (fl c2 (L.set i ⟨x, (L.getD i z2).l⟩) ++ rest) := by
  have h1 := wr_fl c2_len L i 0 [.int .u64 x] z2 ⟨x, (L.getD i z2).l⟩ hi (by simp) rfl
  rw [Nat.add_zero] at h1
  rw [wr_append_left _ _ _ _ (by rw [fl_length c2_len]; simp; omega), h1]; rfl
def withW (M : List C2) (A : Nat) (w : List Int) : Nat → List C2
  | 0 => M
  | n + 1 => (withW M A w n).set (A + n) ⟨w.getD n 0, ((withW M A w n).getD (A + n) z2).l⟩
theorem withW_len (M : List C2) (A : Nat) (w : List Int) : ∀ n, (withW M A w n).length = M.length
  | 0 => rfl
  | n + 1 => by show (List.set _ _ _).length = _; rw [List.length_set]; exact withW_len M A w n
theorem c2s_set {L : List C2} (h : C2s L) (i : Nat) {x : C2} (hx : u64R x.w ∧ i64R x.l) : C2s (L.set i x) := fun y hy => by
  rcases List.mem_or_eq_of_mem_set hy with h' | h'
  · exact h y h'
  · rw [h']; exact hx
theorem withW_s {M : List C2} (hM : C2s M) (A : Nat) {w : List Int} (hw : U64s w) : ∀ n, C2s (withW M A w n)
  | 0 => hM
  | n + 1 => c2s_set (withW_s hM A hw n) _ ⟨hw.at n, ((withW_s hM A hw n).at (A + n)).2⟩
theorem rep_c2s (n : Nat) : C2s (List.replicate n z2) := fun x hx => by
  rw [(List.mem_replicate.1 hx).2]; unfold z2 u64R i64R; simp only; omega
def LlH : FnL := ⟨(.seq (.ops [⟨(some 4), .box (.tmp 0), none⟩, ⟨(some 5), .box (.tmp 1), none⟩, ⟨(some 8), .alloc [(.slice none 0 0)], none⟩])
 (.seq (.ops [⟨(some 13), .load true 1 (.tmp 5), none⟩, ⟨(some 14), .call (.func 49) [(.tmp 13)], none⟩, ⟨(some 9), .alloc [(.slice none 0 0)], none⟩, ⟨none, .store 1 (.tmp 9) (.tmp 14), none⟩])
 (.seq (.ops [⟨(some 16), .load true 3 (.tmp 4), none⟩, ⟨(some 17), .mv (.tmp 2), none⟩, ⟨(some 18), .call (.func 37) [(.tmp 16), (.const (.int .i64 3)), (.tmp 17)], none⟩, ⟨(some 15), .mv (.tmp 18), none⟩, ⟨(some 19), .ext (.tmp 15) 0, none⟩, ⟨(some 20), .ext (.tmp 15) 1, none⟩, ⟨(some 10), .mv (.tmp 19), none⟩, ⟨(some 11), .mv (.tmp 20), none⟩])
 (.seq (.seq (.ops [⟨(some 12), .mv (.const (.int .i64 0)), none⟩])
 (.block 0 (.loop (.seq (.seq (.ops [⟨(some 21), .mv (.tmp 12), none⟩, ⟨(some 22), .mv (.tmp 3), none⟩, ⟨(some 23), .len false (.tmp 22), none⟩, ⟨(some 24), .bin .lss (.tmp 21) (.tmp 23), none⟩, ⟨(some 25), .mv (.tmp 24), none⟩, ⟨(some 26), .mv (.tmp 12), (some (25, true))⟩, ⟨(some 27), .load true 3 (.tmp 4), (some (25, true))⟩, ⟨(some 28), .call (.func 40) [(.tmp 27)], (some (25, true))⟩, ⟨(some 29), .bin .lss (.tmp 26) (.tmp 28), (some (25, true))⟩, ⟨(some 30), .pick (.tmp 25) (.tmp 29) (.const (.bool false)), none⟩])
 (.cond (.tmp 30) .skip
 (.exit 0)))
 (.seq (.block 1 (.draw [⟨⟨(some 33), .faddr 0 (.tmp 9), none⟩, []⟩, ⟨⟨(some 34), .load false 1 (.tmp 33), none⟩, []⟩, ⟨⟨(some 35), .mv (.tmp 10), none⟩, []⟩, ⟨⟨(some 36), .mv (.tmp 12), none⟩, []⟩, ⟨⟨(some 37), .bin .add (.tmp 35) (.tmp 36), none⟩, []⟩, ⟨⟨(some 38), .mv (.tmp 3), none⟩, []⟩, ⟨⟨(some 39), .mv (.tmp 12), none⟩, []⟩, ⟨⟨(some 40), .iaddrS 1 (.tmp 38) (.tmp 39), none⟩, []⟩, ⟨⟨(some 41), .load false 1 (.tmp 40), none⟩, []⟩, ⟨⟨(some 42), .iaddrS 2 (.tmp 34) (.tmp 37), none⟩, []⟩, ⟨⟨(some 43), .faddr 0 (.tmp 42), none⟩, []⟩, ⟨⟨none, .store 1 (.tmp 43) (.tmp 41), none⟩, []⟩]))
 (.ops [⟨(some 31), .mv (.tmp 12), none⟩, ⟨(some 32), .bin .add (.tmp 31) (.const (.int .i64 1)), none⟩, ⟨(some 12), .mv (.tmp 32), none⟩]))))))
 (.seq (.ops [⟨(some 44), .load true 1 (.tmp 9), none⟩, ⟨none, .store 1 (.tmp 8) (.tmp 44), none⟩])
 .ret))))),
 45, [.cell 8 true 1]⟩
theorem lowlH : lowerFn Tryd.prog Tryd.f23 = some LlH := by kernel_rfl
noncomputable def GlH (B : OH) : Nat → Cs
  | 49 => Vref03Own B
  | 37 => Vref04At B
  | 40 => VrS B
  | _ => fun _ _ _ => none
theorem GlH_ref03Own {B : OH} : GlH B 49 = Vref03Own B := rfl
theorem GlH_ref04At {B : OH} : GlH B 37 = Vref04At B := rfl
theorem GlH_rS {B : OH} : GlH B 40 = VrS B := rfl
theorem sGlH {w0 : World} {B : OH} : SoundG Tryd.prog w0 B { f := GlH B } := .of fun k => by
  unfold GlH
  split
  · exact .inr ⟨enref03Own, sVref03Own⟩
  · exact .inr ⟨enref04At, sVref04At⟩
  · exact .inr ⟨enrS, sVrS⟩
  · exact .inl fun _ _ _ => rfl
theorem enlH : Enter Tryd.prog 23 := .of Tryd.func23 (by kernel_rfl) (by kernel_rfl)
noncomputable def TlH (B : OH) : Cs := callF B { f := GlH B } 1000000 LlH
theorem sTlH {w0 : World} {B : OH} : SoundC Tryd.prog w0 B 23 (TlH B) := callF_sound mixedOrders sGlH 1000000 Tryd.func23 lowlH
noncomputable def VlH (B : OH) : Cs := TlH B
theorem sVlH {w0 : World} {B : OH} : SoundC Tryd.prog w0 B 23 (VlH B) := sTlH
structure KWt (vw : Value) (c o8 ow A i : Nat) (ts : List Value) : Prop where
  l : ts.length = 45
  t3 : gt ts 3 = vw
  t4 : gt ts 4 = .pointer (some ⟨c, 0, none⟩)
  t8 : gt ts 8 = .pointer (some ⟨o8, 0, none⟩)
  t9 : gt ts 9 = .pointer (some ⟨ow, 0, none⟩)
  t10 : gt ts 10 = .int .i64 (A : Int)
  t12 : gt ts 12 = .int .i64 (i : Int)
def lbWt : LC := (.seq (.seq (.ops [⟨(some 21), .mv (.tmp 12), none⟩, ⟨(some 22), .mv (.tmp 3), none⟩, ⟨(some 23), .len false (.tmp 22), none⟩, ⟨(some 24), .bin .lss (.tmp 21) (.tmp 23), none⟩, ⟨(some 25), .mv (.tmp 24), none⟩, ⟨(some 26), .mv (.tmp 12), (some (25, true))⟩, ⟨(some 27), .load true 3 (.tmp 4), (some (25, true))⟩, ⟨(some 28), .call (.func 40) [(.tmp 27)], (some (25, true))⟩, ⟨(some 29), .bin .lss (.tmp 26) (.tmp 28), (some (25, true))⟩, ⟨(some 30), .pick (.tmp 25) (.tmp 29) (.const (.bool false)), none⟩])
 (.cond (.tmp 30) .skip
 (.exit 0)))
 (.seq (.block 1 (.draw [⟨⟨(some 33), .faddr 0 (.tmp 9), none⟩, []⟩, ⟨⟨(some 34), .load false 1 (.tmp 33), none⟩, []⟩, ⟨⟨(some 35), .mv (.tmp 10), none⟩, []⟩, ⟨⟨(some 36), .mv (.tmp 12), none⟩, []⟩, ⟨⟨(some 37), .bin .add (.tmp 35) (.tmp 36), none⟩, []⟩, ⟨⟨(some 38), .mv (.tmp 3), none⟩, []⟩, ⟨⟨(some 39), .mv (.tmp 12), none⟩, []⟩, ⟨⟨(some 40), .iaddrS 1 (.tmp 38) (.tmp 39), none⟩, []⟩, ⟨⟨(some 41), .load false 1 (.tmp 40), none⟩, []⟩, ⟨⟨(some 42), .iaddrS 2 (.tmp 34) (.tmp 37), none⟩, []⟩, ⟨⟨(some 43), .faddr 0 (.tmp 42), none⟩, []⟩, ⟨⟨none, .store 1 (.tmp 43) (.tmp 41), none⟩, []⟩]))
 (.ops [⟨(some 31), .mv (.tmp 12), none⟩, ⟨(some 32), .bin .add (.tmp 31) (.const (.int .i64 1)), none⟩, ⟨(some 12), .mv (.tmp 32), none⟩])))
set_option maxHeartbeats 4000000 in
theorem loopWt {B : OH} {Hx H : HL} {N : St} {M : List C2} {vw : Value} {w : List Int} {rest : List Value} {kk p cc h c o8 ow A b len cap : Nat} (C : Cf kk p cc h) (hw : SlR w1 1 B Hx vw w) (hFx : Fr Hx H) (hxb : lk Hx b = none) (hlen : len = M.length) (hA : A + LG p h ≤ M.length) (hM : M.length ≤ 800000) (hN : good B H N) (bc : B c = none) (bo : B ow = none) (bb : B b = none) (lc : lk H c = some (.cells [.int .i64 (kk : Int), .int .i64 (p : Int), .int .i64 (cc : Int)] 3)) (lo : lk H ow = some (.cells [.slice (some ⟨b, 0, none⟩) len cap] 1)) (hlk : lk H b = some (.cells (fl c2 M ++ rest) (cap * 2))) (hcb : c ≠ b) (hob : ow ≠ b) {ts : List Value} (kp : KWt vw c o8 ow A 0 ts) {F : Nat} (hF : 3000 + min w.length (LG p h) + 1 ≤ F) :
    Ok (exec B { f := GlH B } F (LC.loop lbWt) ⟨ts, H, N⟩) (fun x s => x = .exit 0 ∧ good B s.H s.N ∧ (∀ y c', y ≠ b → lk H y = some c' → lk s.H y = some c') ∧ lk s.H b = some (.cells (fl c2 (withW M A w (min w.length (LG p h))) ++ rest) (cap * 2)) ∧ KWt vw c o8 ow A (min w.length (LG p h)) s.t) := by
  have hlb := LG_b C
  have hlw := hw.len
  subst hlen
  obtain ⟨n, hn⟩ : ∃ n, n = min w.length (LG p h) := ⟨_, rfl⟩
  rw [← hn] at hF ⊢
  refine loop_rule (n0 := 3000) (fun q s => ∃ ts H' N', ∃ i : Nat, s = ⟨ts, H', N'⟩ ∧ KWt vw c o8 ow A i ts ∧ good B H' N' ∧ (∀ y c', y ≠ b → lk H y = some c' → lk H' y = some c') ∧ lk H' b = some (.cells (fl c2 (withW M A w i) ++ rest) (cap * 2)) ∧ i ≤ n ∧ q = n - i) _ ?_ n _ ⟨ts, H, N, 0, rfl, kp, hN, fun _ _ _ e => e, hlk, by omega, rfl⟩ _ hF
  clear kp hF F ts hN N hlk
  rintro z q s ⟨ts, H1, N1, i, rfl, kp, g, fk, hlk, hi, rfl⟩
  have hB := good_B g
  have hR := good_rdB g
  have hI := beqN g.1.1
  have e1 := rLog ⟨H1, N1, g⟩ C
  have lc1 := fk _ _ hcb lc
  have lo1 := fk _ _ hob lo
  have rc := fun o n => rdB_none (o := o) (n := n) bc
  have ro := fun o n => rdB_none (o := o) (n := n) bo
  have hc1 : ((i + 1 : Nat) : Int) = (i : Int) + 1 := by omega
  by_cases hin : i < n
  case neg =>
    obtain rfl : i = n := by omega
    by_cases h1 : i < w.length
    · have h1' : (i : Int) < (w.length : Int) := by omega
      have h2' : ¬ (i : Int) < (LG p h : Int) := by omega
      simp -implicitDefEqProofs (maxSteps := 10000000) (disch := omega) only [TlH, LlH, GlH_ref03Own, GlH_ref04At, Vref04At_eq, GlH_rS, VrS_eq, hB, hR, hI, lbWt, kp.l, kp.t3, kp.t4, kp.t8, kp.t9, kp.t10, kp.t12, lc1, bc, rc, e1, hlw, h1', h2', bt, bf, all1, ress, res1, retV, Value.cells, reduceIte, reduceCtorEq, Int.reduceLT, Int.reduceLE, Int.reduceToNat, Int.reduceAdd, Int.reduceSub, Int.reduceMul, Int.reduceNeg, Nat.reduceMul, Nat.reduceAdd, Nat.reduceSub, Nat.reduceBEq, Nat.reduceEqDiff, Nat.reduceLT, Nat.reduceLeDiff, Int.reduceBEq, Int.reduceEq, Nat.reducePow, Int.reducePow, Int.reduceGT, Int.reduceGE, Int.reduceBNe, newsV_s, ev1, ev2, ev3, ev4]
      refine ok_some (.inr ⟨by simp, rfl, g, fk, hlk, ⟨?_, ?_, ?_, ?_, ?_, ?_, ?_⟩⟩)
      all_goals simp (maxSteps := 10000000) (disch := omega) only [kp.l, kp.t3, kp.t4, kp.t8, kp.t9, kp.t10, kp.t12, lenV_sl, Int.toNat_natCast, bft, btf, gtst, st_len, Nat.reduceAdd, Int.cast_ofNat_Int, Nat.reduceBEq, Nat.reduceLT, decide_true, ev2]
    · have h1' : ¬ (i : Int) < (w.length : Int) := by omega
      simp -implicitDefEqProofs (maxSteps := 10000000) (disch := omega) only [TlH, LlH, GlH_ref03Own, GlH_ref04At, Vref04At_eq, GlH_rS, VrS_eq, hB, hR, hI, lbWt, kp.l, kp.t3, kp.t4, kp.t8, kp.t9, kp.t10, kp.t12, lc1, bc, rc, e1, hlw, h1', bt, bf, all1, ress, res1, retV, Value.cells, reduceIte, reduceCtorEq, Int.reduceLT, Int.reduceLE, Int.reduceToNat, Int.reduceAdd, Int.reduceSub, Int.reduceMul, Int.reduceNeg, Nat.reduceMul, Nat.reduceAdd, Nat.reduceSub, Nat.reduceBEq, Nat.reduceEqDiff, Nat.reduceLT, Nat.reduceLeDiff, Int.reduceBEq, Int.reduceEq, Nat.reducePow, Int.reducePow, Int.reduceGT, Int.reduceGE, Int.reduceBNe, newsV_s, ev1, ev2, ev3, ev4]
      refine ok_some (.inr ⟨by simp, rfl, g, fk, hlk, ⟨?_, ?_, ?_, ?_, ?_, ?_, ?_⟩⟩)
      all_goals simp (maxSteps := 10000000) (disch := omega) only [kp.l, kp.t3, kp.t4, kp.t8, kp.t9, kp.t10, kp.t12, lenV_sl, Int.toNat_natCast, bft, btf, gtst, st_len, Nat.reduceAdd, Int.cast_ofNat_Int, Nat.reduceBEq, Nat.reduceLT, decide_true, ev2]
  have hin' : (i : Int) < (LG p h : Int) := by omega
  have hiw : i < w.length := by omega
  have hiw' : (i : Int) < (w.length : Int) := by omega
  have i0 : (0 : Int) ≤ (i : Int) := by omega
  have hidx : A + i < M.length := by omega
  have x1 : (A : Int) + (i : Int) = ((A + i : Nat) : Int) := by omega
  have x2 : IntKind.i64.wrap ((A + i : Nat) : Int) = ((A + i : Nat) : Int) := IntWalk.i64_in _ (by omega)
  have x3 : (0 : Int) ≤ ((A + i : Nat) : Int) := by omega
  have fx : Fr Hx H1 := fun y c e => fk y c (fun h' => by rw [h', hxb] at e; cases e) (hFx y c e)
  obtain ⟨bw, orw, cw, rfl, _, rr⟩ := hw.at (by omega)
  have r1 : rdO H1 B bw (orw + i * 1) 1 (rdB B bw (orw + i * 1) 1) = some [.int .u64 (w.getD i 0)] := by
    have := rr H1 fx i 0 1 0 hiw (by omega)
    rw [Nat.add_zero] at this
    exact this.trans rfl
  have hwr : wr (fl c2 (withW M A w i) ++ rest) ((A + i) * 2) [.int .u64 (w.getD i 0)] = some (fl c2 (withW M A w (i + 1)) ++ rest) := wr_c2w (w.getD i 0) (by rw [withW_len]; exact hidx)
  simp -implicitDefEqProofs (maxSteps := 10000000) (disch := omega) only [TlH, LlH, GlH_ref03Own, GlH_ref04At, Vref04At_eq, GlH_rS, VrS_eq, hB, hR, hI, lbWt, kp.l, kp.t3, kp.t4, kp.t8, kp.t9, kp.t10, kp.t12, lc1, bc, rc, lo1, bo, ro, e1, hlw, hin', hiw, hiw', i0, r1, hidx, x1, x2, x3, hlk, bb, hwr, bt, bf, all1, ress, res1, retV, Value.cells, reduceIte, reduceCtorEq, Int.reduceLT, Int.reduceLE, Int.reduceToNat, Int.reduceAdd, Int.reduceSub, Int.reduceMul, Int.reduceNeg, Nat.reduceMul, Nat.reduceAdd, Nat.reduceSub, Nat.reduceBEq, Nat.reduceEqDiff, Nat.reduceLT, Nat.reduceLeDiff, Int.reduceBEq, Int.reduceEq, Nat.reducePow, Int.reducePow, Int.reduceGT, Int.reduceGE, Int.reduceBNe, newsV_s, ev1, ev2, ev3, ev4]
  have gu := good_up (k := .cells (fl c2 (withW M A w (i + 1)) ++ rest) (cap * 2)) g bb hlk
  refine ok_some (.inl ⟨rfl, n - (i + 1), by omega, _, _, _, i + 1, rfl, ⟨?_, ?_, ?_, ?_, ?_, ?_, ?_⟩, gu, fun y c' h1 e => ?_, ?_, by omega, rfl⟩)
  rotate_right
  · rw [lk_upH, beq_self_eq_true, cond_true]
  rotate_right
  · rw [lk_upH, eqb h1, cond_false]; exact fk y c' h1 e
  all_goals simp (maxSteps := 10000000) (disch := omega) only [kp.l, kp.t3, kp.t4, kp.t8, kp.t9, kp.t10, kp.t12, lenV_sl, Int.toNat_natCast, bft, btf, gtst, st_len, hc1, Nat.reduceAdd, Int.cast_ofNat_Int, Nat.reduceBEq, Nat.reduceLT, decide_true, ev2]
set_option maxHeartbeats 8000000 in
theorem fWith {B : OH} {H : HL} {N : St} {vm vw : Value} {M : List C2} {w : List Int} {kk p cc h q : Nat} (C : Cf kk p cc h) (hN : good B H N) (hv : SlW c2 2 B H vm M) (hw : SlR w1 1 B H vw w) (hM : M.length = bs p h 5) (hq : q < p) :
    ∃ v' H' N', VlH B [.agg #[.int .i64 (kk : Int), .int .i64 (p : Int), .int .i64 (cc : Int)], .agg #[vm], .int .i64 (q : Int), vw] H N = some (.ret (.agg #[v']), H', N') ∧ good B H' N' ∧ Fr H H' ∧ SlM c2 2 B H H' v' (withW M (lgA p h q) w (min w.length (LG p h))) := by
  have hB := good_B hN
  have hR := good_rdB hN
  have hI := beqN hN.1.1
  have hG : ∃ H N, good B H N := ⟨H, N, hN⟩
  have b0 := hB 0
  have rb0 := fun o n => rdB_none (o := o) (n := n) b0
  have b1 := hB 1
  have rb1 := fun o n => rdB_none (o := o) (n := n) b1
  have b2 := hB 2
  have rb2 := fun o n => rdB_none (o := o) (n := n) b2
  have h5 := bs5_b C
  have hlb := LG_b C
  have hb := lgA_b (q := (q : Int)) C ⟨by omega, hM⟩
  have e3 := rAt3 hG C hq
  have hlA : bs p h 3 + LG p h * q = lgA p h (q : Int) := rfl
  rw [hlA] at e3
  generalize lgA p h (q : Int) = A at *
  obtain ⟨H0, hH0⟩ : ∃ H0, H0 = (N.n 2, KB.cells [.slice none 0 0] 1) :: (N.n 1, .cells [vm] 1) :: (N.n 0, .cells [.int .i64 (kk : Int), .int .i64 (p : Int), .int .i64 (cc : Int)] 3) :: H := ⟨_, rfl⟩
  have g0 : good B H0 (sh (sh (sh N))) := by rw [hH0]; exact good_new (good_new (good_new hN))
  have f0 : Fr H H0 := by
    rw [hH0]
    have a1 := good_new (k := .cells [.int .i64 (kk : Int), .int .i64 (p : Int), .int .i64 (cc : Int)] 3) hN
    have a2 := good_new (k := .cells [vm] 1) a1
    exact fr_new a2 (fr_new a1 (fr_new hN Fr.refl 0) 0) 0
  have q2 : lk H0 (N.n 2) = some (.cells [.slice none 0 0] 1) := by rw [hH0]; simp only [lk_cons, hI]; rfl
  have q0 : lk H0 (N.n 0) = some (.cells [.int .i64 (kk : Int), .int .i64 (p : Int), .int .i64 (cc : Int)] 3) := by rw [hH0]; simp only [lk_cons, hI]; rfl
  have q1 : lk H0 (N.n 1) = some (.cells [vm] 1) := by rw [hH0]; simp only [lk_cons, hI]; rfl
  obtain ⟨v', H1, N1, eo, g1, r1, s1⟩ := own g0 (hv.mono f0) (by omega)
  obtain ⟨b, cap, rest, rfl, bb, h0b, hle, hlk⟩ := slm_elim s1 (by omega)
  rw [hH0] at eo
  have q0' := r1 _ _ q0
  have q2' := r1 _ _ q2
  have m0 := ne_N g1 q0'
  have m2 := ne_N g1 q2'
  have mb := ne_N g1 hlk
  unfold VlH
  simp -implicitDefEqProofs (maxSteps := 10000000) (disch := omega) only [TlH, LlH, GlH_ref03Own, GlH_ref04At, Vref04At_eq, GlH_rS, VrS_eq, hB, hR, hI, e3, eo, q0', b0, rb0, m0, m2, good_B g1, good_rdB g1, bt, bf, all1, ress, res1, retV, Value.cells, reduceIte, reduceCtorEq, Int.reduceLT, Int.reduceLE, Int.reduceToNat, Int.reduceAdd, Int.reduceSub, Int.reduceMul, Int.reduceNeg, Nat.reduceMul, Nat.reduceAdd, Nat.reduceSub, Nat.reduceBEq, Nat.reduceEqDiff, Nat.reduceLT, Nat.reduceLeDiff, Int.reduceBEq, Int.reduceEq, Nat.reducePow, Int.reducePow, Int.reduceGT, Int.reduceGE, Int.reduceBNe, newsV_s, ev1, ev2, ev3, ev4]
  have g2 : good B ((N1.n 0, .cells [.slice (some ⟨b, 0, none⟩) M.length cap] 1) :: H1) (sh N1) := good_new g1
  have f2 : Fr H1 ((N1.n 0, .cells [.slice (some ⟨b, 0, none⟩) M.length cap] 1) :: H1) := fr_new g1 Fr.refl 0
  have e0b : N.n 0 ≠ b := fun e => by rw [← e, q0] at h0b; cases h0b
  have e2b : N.n 2 ≠ b := fun e => by rw [← e, q2] at h0b; cases h0b
  have eob : N1.n 0 ≠ b := fun e => by have := mb 0; rw [e] at this; simp at this
  generalize hX : exec B _ _ (LC.loop _) _ = o
  obtain ⟨x, ⟨ts, H3, N3⟩, rfl, rfl, g3, k3, l3, kp⟩ := (show Ok o _ by rw [← hX]; exact loopWt (c := N.n 0) (o8 := N.n 2) (ow := N1.n 0) (A := A) C (hw.mono f0) (r1.trans f2) h0b rfl (by omega) (by omega) g2 b0 (good_B g1 0) bb (f2 _ _ q0') lk_top (f2 _ _ hlk) e0b eob ⟨rfl, rfl, rfl, rfl, rfl, rfl, rfl⟩ (by omega))
  simp only at g3 k3 l3 kp
  have w0 := k3 _ _ eob lk_top
  have wq2 := k3 _ _ e2b (f2 _ _ q2')
  have b10 := good_B g1 0
  have rb10 := fun o n => rdB_none (o := o) (n := n) b10
  simp -implicitDefEqProofs (maxSteps := 10000000) (disch := omega) only [TlH, LlH, GlH_ref03Own, GlH_ref04At, Vref04At_eq, GlH_rS, VrS_eq, hB, hR, hI, kp.l, kp.t3, kp.t4, kp.t8, kp.t9, kp.t10, kp.t12, w0, wq2, b10, rb10, b2, rb2, bt, bf, all1, ress, res1, retV, Value.cells, reduceIte, reduceCtorEq, Int.reduceLT, Int.reduceLE, Int.reduceToNat, Int.reduceAdd, Int.reduceSub, Int.reduceMul, Int.reduceNeg, Nat.reduceMul, Nat.reduceAdd, Nat.reduceSub, Nat.reduceBEq, Nat.reduceEqDiff, Nat.reduceLT, Nat.reduceLeDiff, Int.reduceBEq, Int.reduceEq, Nat.reducePow, Int.reducePow, Int.reduceGT, Int.reduceGE, Int.reduceBNe, newsV_s, ev1, ev2, ev3, ev4]
  have g4 := good_up (k := .cells [.slice (some ⟨b, 0, none⟩) M.length cap] 1) g3 b2 wq2
  have f3 : Fr H H3 := fun y c e => k3 y c (fun h' => by rw [← h', f0 _ _ e] at h0b; cases h0b) (f2 _ _ (r1 _ _ (f0 _ _ e)))
  refine ⟨_, _, _, rfl, g4, fr_up f3 (lk_N hN 2), .inr ⟨b, cap, rest, by rw [withW_len], bb, f0.dm _ h0b, by rw [withW_len]; exact hle, ?_⟩⟩
  rw [lk_upH, eqb e2b.symm, cond_false]; exact l3
def LlM : FnL := ⟨(.seq (.ops [⟨(some 2), .box (.tmp 0), none⟩, ⟨(some 4), .alloc [(.slice none 0 0)], none⟩])
 (.seq (.ops [⟨(some 10), .load true 3 (.tmp 2), none⟩, ⟨(some 11), .call (.func 35) [(.tmp 10)], none⟩, ⟨(some 12), .call (.func 36) [(.tmp 11)], none⟩, ⟨(some 9), .mv (.tmp 12), none⟩, ⟨(some 13), .ext (.tmp 9) 0, none⟩, ⟨(some 14), .ext (.tmp 9) 1, none⟩, ⟨(some 5), .alloc [(.slice none 0 0)], none⟩, ⟨none, .store 1 (.tmp 5) (.tmp 13), none⟩, ⟨(some 6), .mv (.tmp 14), none⟩])
 (.seq (.seq (.ops [⟨(some 7), .mv (.const (.int .i64 0)), none⟩])
 (.block 0 (.loop (.seq (.seq (.ops [⟨(some 15), .mv (.tmp 7), none⟩, ⟨(some 16), .mv (.tmp 1), none⟩, ⟨(some 17), .len false (.tmp 16), none⟩, ⟨(some 18), .bin .lss (.tmp 15) (.tmp 17), none⟩, ⟨(some 19), .mv (.tmp 18), none⟩, ⟨(some 20), .mv (.tmp 7), (some (19, true))⟩, ⟨(some 21), .bin .lss (.tmp 20) (.const (.int .i64 30)), (some (19, true))⟩, ⟨(some 22), .pick (.tmp 19) (.tmp 21) (.const (.bool false)), none⟩])
 (.cond (.tmp 22) .skip
 (.exit 0)))
 (.seq (.block 1 (.seq (.draw [⟨⟨(some 25), .mv (.tmp 1), none⟩, []⟩, ⟨⟨(some 26), .mv (.tmp 7), none⟩, []⟩, ⟨⟨(some 27), .iaddrS 3 (.tmp 25) (.tmp 26), none⟩, []⟩, ⟨⟨(some 28), .iaddrA 1 3 (.tmp 27) (.const (.int .i64 0)), none⟩, []⟩, ⟨⟨(some 29), .load false 1 (.tmp 28), none⟩, []⟩, ⟨⟨(some 30), .faddr 0 (.tmp 5), none⟩, []⟩, ⟨⟨(some 31), .load false 1 (.tmp 30), none⟩, []⟩, ⟨⟨(some 32), .len false (.tmp 31), none⟩, []⟩, ⟨⟨(some 33), .call (.func 12) [(.tmp 29), (.tmp 32)], none⟩, []⟩, ⟨⟨(some 8), .mv (.tmp 33), none⟩, []⟩])
 (.draw [⟨⟨(some 34), .faddr 0 (.tmp 5), none⟩, []⟩, ⟨⟨(some 35), .load false 1 (.tmp 34), none⟩, []⟩, ⟨⟨(some 36), .mv (.tmp 8), none⟩, []⟩, ⟨⟨(some 37), .mv (.tmp 1), none⟩, []⟩, ⟨⟨(some 38), .mv (.tmp 7), none⟩, []⟩, ⟨⟨(some 39), .iaddrS 3 (.tmp 37) (.tmp 38), none⟩, []⟩, ⟨⟨(some 40), .iaddrA 1 3 (.tmp 39) (.const (.int .i64 1)), none⟩, []⟩, ⟨⟨(some 41), .load false 1 (.tmp 40), none⟩, []⟩, ⟨⟨(some 44), .mv (.tmp 1), none⟩, []⟩, ⟨⟨(some 45), .mv (.tmp 7), none⟩, []⟩, ⟨⟨(some 46), .iaddrS 3 (.tmp 44) (.tmp 45), none⟩, []⟩, ⟨⟨(some 47), .iaddrA 1 3 (.tmp 46) (.const (.int .i64 2)), none⟩, []⟩, ⟨⟨(some 48), .load false 1 (.tmp 47), none⟩, []⟩, ⟨⟨(some 49), .faddr 1 (.tmp 2), none⟩, []⟩, ⟨⟨(some 50), .load false 1 (.tmp 49), none⟩, []⟩, ⟨⟨(some 51), .bin .shl (.const (.int .i64 1)) (.tmp 50), none⟩, []⟩, ⟨⟨(some 42), .call (.func 12) [(.tmp 41), (.const (.int .i64 20))], none⟩, [⟨(some 35), .load false 1 (.tmp 34), none⟩, ⟨(some 48), .load false 1 (.tmp 47), none⟩, ⟨(some 50), .load false 1 (.tmp 49), none⟩]⟩, ⟨⟨(some 43), .conv .u64 (.tmp 42), none⟩, []⟩, ⟨⟨(some 52), .call (.func 12) [(.tmp 48), (.tmp 51)], none⟩, [⟨(some 35), .load false 1 (.tmp 34), none⟩]⟩, ⟨⟨(some 53), .build [(.int .u64 0), (.int .i64 0)] [(0, 1, (.tmp 43)), (1, 1, (.tmp 52))], none⟩, []⟩, ⟨⟨(some 54), .iaddrS 2 (.tmp 35) (.tmp 36), none⟩, []⟩, ⟨⟨none, .store 2 (.tmp 54) (.tmp 53), none⟩, []⟩])))
 (.ops [⟨(some 23), .mv (.tmp 7), none⟩, ⟨(some 24), .bin .add (.tmp 23) (.const (.int .i64 1)), none⟩, ⟨(some 7), .mv (.tmp 24), none⟩]))))))
 (.seq (.ops [⟨(some 55), .load true 1 (.tmp 5), none⟩, ⟨none, .store 1 (.tmp 4) (.tmp 55), none⟩])
 .ret)))),
 56, [.cell 4 true 1]⟩
theorem lowlM : lowerFn Tryd.prog Tryd.f13 = some LlM := by kernel_rfl
noncomputable def GlM (B : OH) : Nat → Cs
  | 12 => Vlaw16pick B
  | 36 => Vref03New B
  | 35 => Vref04Size B
  | _ => fun _ _ _ => none
theorem GlM_law16pick {B : OH} : GlM B 12 = Vlaw16pick B := rfl
theorem GlM_ref03New {B : OH} : GlM B 36 = Vref03New B := rfl
theorem GlM_ref04Size {B : OH} : GlM B 35 = Vref04Size B := rfl
theorem sGlM {w0 : World} {B : OH} : SoundG Tryd.prog w0 B { f := GlM B } := .of fun k => by
  unfold GlM
  split
  · exact .inr ⟨enlaw16pick, sVlaw16pick⟩
  · exact .inr ⟨enref03New, sVref03New⟩
  · exact .inr ⟨enref04Size, sVref04Size⟩
  · exact .inl fun _ _ _ => rfl
theorem enlM : Enter Tryd.prog 13 := .of Tryd.func13 (by kernel_rfl) (by kernel_rfl)
noncomputable def TlM (B : OH) : Cs := callF B { f := GlM B } 1000000 LlM
theorem sTlM {w0 : World} {B : OH} : SoundC Tryd.prog w0 B 13 (TlM B) := callF_sound mixedOrders sGlM 1000000 Tryd.func13 lowlM
noncomputable def VlM (B : OH) : Cs := TlM B
theorem sVlM {w0 : World} {B : OH} : SoundC Tryd.prog w0 B 13 (VlM B) := sTlM
structure KMm (vr : Value) (c o4 ow i : Nat) (ts : List Value) : Prop where
  l : ts.length = 56
  t1 : gt ts 1 = vr
  t2 : gt ts 2 = .pointer (some ⟨c, 0, none⟩)
  t4 : gt ts 4 = .pointer (some ⟨o4, 0, none⟩)
  t5 : gt ts 5 = .pointer (some ⟨ow, 0, none⟩)
  t7 : gt ts 7 = .int .i64 (i : Int)
def lbMm : LC := (.seq (.seq (.ops [⟨(some 15), .mv (.tmp 7), none⟩, ⟨(some 16), .mv (.tmp 1), none⟩, ⟨(some 17), .len false (.tmp 16), none⟩, ⟨(some 18), .bin .lss (.tmp 15) (.tmp 17), none⟩, ⟨(some 19), .mv (.tmp 18), none⟩, ⟨(some 20), .mv (.tmp 7), (some (19, true))⟩, ⟨(some 21), .bin .lss (.tmp 20) (.const (.int .i64 30)), (some (19, true))⟩, ⟨(some 22), .pick (.tmp 19) (.tmp 21) (.const (.bool false)), none⟩])
 (.cond (.tmp 22) .skip
 (.exit 0)))
 (.seq (.block 1 (.seq (.draw [⟨⟨(some 25), .mv (.tmp 1), none⟩, []⟩, ⟨⟨(some 26), .mv (.tmp 7), none⟩, []⟩, ⟨⟨(some 27), .iaddrS 3 (.tmp 25) (.tmp 26), none⟩, []⟩, ⟨⟨(some 28), .iaddrA 1 3 (.tmp 27) (.const (.int .i64 0)), none⟩, []⟩, ⟨⟨(some 29), .load false 1 (.tmp 28), none⟩, []⟩, ⟨⟨(some 30), .faddr 0 (.tmp 5), none⟩, []⟩, ⟨⟨(some 31), .load false 1 (.tmp 30), none⟩, []⟩, ⟨⟨(some 32), .len false (.tmp 31), none⟩, []⟩, ⟨⟨(some 33), .call (.func 12) [(.tmp 29), (.tmp 32)], none⟩, []⟩, ⟨⟨(some 8), .mv (.tmp 33), none⟩, []⟩])
 (.draw [⟨⟨(some 34), .faddr 0 (.tmp 5), none⟩, []⟩, ⟨⟨(some 35), .load false 1 (.tmp 34), none⟩, []⟩, ⟨⟨(some 36), .mv (.tmp 8), none⟩, []⟩, ⟨⟨(some 37), .mv (.tmp 1), none⟩, []⟩, ⟨⟨(some 38), .mv (.tmp 7), none⟩, []⟩, ⟨⟨(some 39), .iaddrS 3 (.tmp 37) (.tmp 38), none⟩, []⟩, ⟨⟨(some 40), .iaddrA 1 3 (.tmp 39) (.const (.int .i64 1)), none⟩, []⟩, ⟨⟨(some 41), .load false 1 (.tmp 40), none⟩, []⟩, ⟨⟨(some 44), .mv (.tmp 1), none⟩, []⟩, ⟨⟨(some 45), .mv (.tmp 7), none⟩, []⟩, ⟨⟨(some 46), .iaddrS 3 (.tmp 44) (.tmp 45), none⟩, []⟩, ⟨⟨(some 47), .iaddrA 1 3 (.tmp 46) (.const (.int .i64 2)), none⟩, []⟩, ⟨⟨(some 48), .load false 1 (.tmp 47), none⟩, []⟩, ⟨⟨(some 49), .faddr 1 (.tmp 2), none⟩, []⟩, ⟨⟨(some 50), .load false 1 (.tmp 49), none⟩, []⟩, ⟨⟨(some 51), .bin .shl (.const (.int .i64 1)) (.tmp 50), none⟩, []⟩, ⟨⟨(some 42), .call (.func 12) [(.tmp 41), (.const (.int .i64 20))], none⟩, [⟨(some 35), .load false 1 (.tmp 34), none⟩, ⟨(some 48), .load false 1 (.tmp 47), none⟩, ⟨(some 50), .load false 1 (.tmp 49), none⟩]⟩, ⟨⟨(some 43), .conv .u64 (.tmp 42), none⟩, []⟩, ⟨⟨(some 52), .call (.func 12) [(.tmp 48), (.tmp 51)], none⟩, [⟨(some 35), .load false 1 (.tmp 34), none⟩]⟩, ⟨⟨(some 53), .build [(.int .u64 0), (.int .i64 0)] [(0, 1, (.tmp 43)), (1, 1, (.tmp 52))], none⟩, []⟩, ⟨⟨(some 54), .iaddrS 2 (.tmp 35) (.tmp 36), none⟩, []⟩, ⟨⟨none, .store 2 (.tmp 54) (.tmp 53), none⟩, []⟩])))
 (.ops [⟨(some 23), .mv (.tmp 7), none⟩, ⟨(some 24), .bin .add (.tmp 23) (.const (.int .i64 1)), none⟩, ⟨(some 7), .mv (.tmp 24), none⟩])))
set_option maxHeartbeats 4000000 in
theorem loopMm {B : OH} {Hx H : HL} {N : St} {M : List C2} {vr : Value} {raw : List Q3} {rest : List Value} {kk p cc h c o4 ow b len cap : Nat} (C : Cf kk p cc h) (hp : p ≤ 4) (hw : SlR q3 3 B Hx vr raw) (hrs : Q3s raw) (hFx : Fr Hx H) (hxb : lk Hx b = none) (hlen : len = M.length) (hM0 : 0 < M.length) (hM : M.length ≤ 800000) (hMs : C2s M) (hN : good B H N) (bc : B c = none) (bo : B ow = none) (bb : B b = none) (lc : lk H c = some (.cells [.int .i64 (kk : Int), .int .i64 (p : Int), .int .i64 (cc : Int)] 3)) (lo : lk H ow = some (.cells [.slice (some ⟨b, 0, none⟩) len cap] 1)) (hlk : lk H b = some (.cells (fl c2 M ++ rest) (cap * 2))) (hcb : c ≠ b) (hob : ow ≠ b) {ts : List Value} (kp : KMm vr c o4 ow 0 ts) {F : Nat} (hF : 3000 + 30 + 1 ≤ F) :
    Ok (exec B { f := GlM B } F (LC.loop lbMm) ⟨ts, H, N⟩) (fun x s => x = .exit 0 ∧ good B s.H s.N ∧ (∀ y c', y ≠ b → lk H y = some c' → lk s.H y = some c') ∧ ∃ M', M'.length = M.length ∧ C2s M' ∧ lk s.H b = some (.cells (fl c2 M' ++ rest) (cap * 2)) ∧ ∃ i, KMm vr c o4 ow i s.t) := by
  have hlw := hw.len
  subst hlen
  obtain ⟨K, hK⟩ : ∃ K, K = M.length := ⟨_, rfl⟩
  rw [← hK] at lo hM hM0 ⊢
  refine loop_rule (n0 := 3000) (fun q s => ∃ ts H' N' M', ∃ i : Nat, s = ⟨ts, H', N'⟩ ∧ KMm vr c o4 ow i ts ∧ good B H' N' ∧ (∀ y c', y ≠ b → lk H y = some c' → lk H' y = some c') ∧ M'.length = K ∧ C2s M' ∧ lk H' b = some (.cells (fl c2 M' ++ rest) (cap * 2)) ∧ i ≤ 30 ∧ q = 30 - i) _ ?_ 30 _ ⟨ts, H, N, M, 0, rfl, kp, hN, fun _ _ _ e => e, hK.symm, hMs, hlk, by omega, rfl⟩ _ hF
  clear kp hF F ts hN N hlk hMs hK M
  rintro z q s ⟨ts, H1, N1, M, i, rfl, kp, g, fk, rfl, hMs, hlk, hi, rfl⟩
  have hB := good_B g
  have hR := good_rdB g
  have hI := beqN g.1.1
  have hG : ∃ H N, good B H N := ⟨H1, N1, g⟩
  have lc1 := fk _ _ hcb lc
  have lo1 := fk _ _ hob lo
  have rc := fun o n => rdB_none (o := o) (n := n) bc
  have ro := fun o n => rdB_none (o := o) (n := n) bo
  have hc1 : ((i + 1 : Nat) : Int) = (i : Int) + 1 := by omega
  by_cases hin : i < raw.length
  case neg =>
    have h1' : ¬ (i : Int) < (raw.length : Int) := by omega
    simp -implicitDefEqProofs (maxSteps := 10000000) (disch := omega) only [TlM, LlM, GlM_law16pick, Vlaw16pick_eq, GlM_ref03New, GlM_ref04Size, Vref04Size_eq, hB, hR, hI, lbMm, kp.l, kp.t1, kp.t2, kp.t4, kp.t5, kp.t7, lc1, bc, rc, hlw, h1', bt, bf, all1, ress, res1, retV, Value.cells, reduceIte, reduceCtorEq, Int.reduceLT, Int.reduceLE, Int.reduceToNat, Int.reduceAdd, Int.reduceSub, Int.reduceMul, Int.reduceNeg, Nat.reduceMul, Nat.reduceAdd, Nat.reduceSub, Nat.reduceBEq, Nat.reduceEqDiff, Nat.reduceLT, Nat.reduceLeDiff, Int.reduceBEq, Int.reduceEq, Nat.reducePow, Int.reducePow, Int.reduceGT, Int.reduceGE, Int.reduceBNe, newsV_s, ev1, ev2, ev3, ev4]
    refine ok_some (.inr ⟨by simp, rfl, g, fk, M, rfl, hMs, hlk, i, ⟨?_, ?_, ?_, ?_, ?_, ?_⟩⟩)
    all_goals simp (maxSteps := 10000000) (disch := omega) only [kp.l, kp.t1, kp.t2, kp.t4, kp.t5, kp.t7, lenV_sl, Int.toNat_natCast, bft, btf, gtst, st_len, Nat.reduceAdd, Int.cast_ofNat_Int, Nat.reduceBEq, Nat.reduceLT, decide_true, ev2]
  have hin' : (i : Int) < (raw.length : Int) := by omega
  by_cases h30 : i < 30
  case neg =>
    have h1' : ¬ (i : Int) < 30 := by omega
    simp -implicitDefEqProofs (maxSteps := 10000000) (disch := omega) only [TlM, LlM, GlM_law16pick, Vlaw16pick_eq, GlM_ref03New, GlM_ref04Size, Vref04Size_eq, hB, hR, hI, lbMm, kp.l, kp.t1, kp.t2, kp.t4, kp.t5, kp.t7, lc1, bc, rc, hlw, hin', h1', bt, bf, all1, ress, res1, retV, Value.cells, reduceIte, reduceCtorEq, Int.reduceLT, Int.reduceLE, Int.reduceToNat, Int.reduceAdd, Int.reduceSub, Int.reduceMul, Int.reduceNeg, Nat.reduceMul, Nat.reduceAdd, Nat.reduceSub, Nat.reduceBEq, Nat.reduceEqDiff, Nat.reduceLT, Nat.reduceLeDiff, Int.reduceBEq, Int.reduceEq, Nat.reducePow, Int.reducePow, Int.reduceGT, Int.reduceGE, Int.reduceBNe, newsV_s, ev1, ev2, ev3, ev4]
    refine ok_some (.inr ⟨by simp, rfl, g, fk, M, rfl, hMs, hlk, i, ⟨?_, ?_, ?_, ?_, ?_, ?_⟩⟩)
    all_goals simp (maxSteps := 10000000) (disch := omega) only [kp.l, kp.t1, kp.t2, kp.t4, kp.t5, kp.t7, lenV_sl, Int.toNat_natCast, bft, btf, gtst, st_len, Nat.reduceAdd, Int.cast_ofNat_Int, Nat.reduceBEq, Nat.reduceLT, decide_true, ev2]
  have h30' : (i : Int) < 30 := by omega
  have i0 : (0 : Int) ≤ (i : Int) := by omega
  have fx : Fr Hx H1 := fun y c e => fk y c (fun h' => by rw [h', hxb] at e; cases e) (hFx y c e)
  obtain ⟨bw, orw, cw, rfl, _, rr⟩ := hw.at (by omega)
  have r0 : rdO H1 B bw (orw + i * 3) 1 (rdB B bw (orw + i * 3) 1) = some [.int .i64 (raw.getD i q30).a] := (rr H1 fx i 0 1 q30 hin (by omega)).trans rfl
  have r1 : rdO H1 B bw (orw + i * 3 + 1) 1 (rdB B bw (orw + i * 3 + 1) 1) = some [.int .i64 (raw.getD i q30).b] := (rr H1 fx i 1 1 q30 hin (by omega)).trans rfl
  have r2 : rdO H1 B bw (orw + i * 3 + 2) 1 (rdB B bw (orw + i * 3 + 2) 1) = some [.int .i64 (raw.getD i q30).c] := (rr H1 fx i 2 1 q30 hin (by omega)).trans rfl
  have hri := hrs (raw.getD i q30) (List.mem_of_getElem? (some_getD (d := q30) hin))
  generalize raw.getD i q30 = x at r0 r1 r2 hri
  obtain ⟨xa, xb, xc⟩ := x
  simp only at r0 r1 r2 hri
  obtain ⟨s, hs, s1, s2⟩ : ∃ s : Int, s = 2 ^ p ∧ 1 ≤ s ∧ s ≤ 16 := ⟨_, rfl, by
    have : p = 0 ∨ p = 1 ∨ p = 2 ∨ p = 3 ∨ p = 4 := by omega
    rcases this with rfl | rfl | rfl | rfl | rfl <;> decide, by
    have : p = 0 ∨ p = 1 ∨ p = 2 ∨ p = 3 ∨ p = 4 := by omega
    rcases this with rfl | rfl | rfl | rfl | rfl <;> decide⟩
  have e1 := fpick hG xa (M.length : Int) hri.1 (by omega)
  have e2 := fpick hG xb 20 hri.2.1 (by omega)
  have e3 := fpick hG xc s hri.2.2 (by omega)
  have k1 := pk_b (x := xa) (n := (M.length : Int)) (by omega)
  have k2 := pk_b (x := xb) (n := 20) (by omega)
  have k3 := pk_b (x := xc) (n := s) (by omega)
  obtain ⟨at_, hat⟩ : ∃ n : Nat, pk xa (M.length : Int) = (n : Int) := ⟨_, (Int.toNat_of_nonneg k1.1).symm⟩
  rw [hat] at e1 k1
  generalize pk xb 20 = w at *
  generalize pk xc s = lnk at *
  have hatM : at_ < M.length := by omega
  have a0 : (0 : Int) ≤ (at_ : Int) := by omega
  have uw : IntKind.u64.wrap w = w := IntWalk.u64_in _ (by omega)
  have hw2 : wr (fl c2 M ++ rest) (at_ * 2) [.int .u64 w, .int .i64 lnk] = some (fl c2 (M.set at_ ⟨w, lnk⟩) ++ rest) := wr_c2 ⟨w, lnk⟩ hatM
  have p0 : ¬ (p : Int) < 0 := by omega
  have hsh : IntKind.i64.wrap (1 * 2 ^ min p 64) = s := by rw [Nat.min_eq_left (by omega), Int.one_mul, ← hs]; exact IntWalk.i64_in _ (by omega)
  simp -implicitDefEqProofs (maxSteps := 10000000) (disch := omega) only [TlM, LlM, GlM_law16pick, Vlaw16pick_eq, GlM_ref03New, GlM_ref04Size, Vref04Size_eq, hB, hR, hI, lbMm, kp.l, kp.t1, kp.t2, kp.t4, kp.t5, kp.t7, lc1, bc, rc, lo1, bo, ro, hlw, hin, hin', h30', i0, r0, r1, r2, e1, e2, e3, hatM, a0, uw, hlk, bb, hw2, p0, hsh, bt, bf, all1, ress, res1, retV, Value.cells, reduceIte, reduceCtorEq, Int.reduceLT, Int.reduceLE, Int.reduceToNat, Int.reduceAdd, Int.reduceSub, Int.reduceMul, Int.reduceNeg, Nat.reduceMul, Nat.reduceAdd, Nat.reduceSub, Nat.reduceBEq, Nat.reduceEqDiff, Nat.reduceLT, Nat.reduceLeDiff, Int.reduceBEq, Int.reduceEq, Nat.reducePow, Int.reducePow, Int.reduceGT, Int.reduceGE, Int.reduceBNe, newsV_s, ev1, ev2, ev3, ev4]
  have gu := good_up (k := .cells (fl c2 (M.set at_ ⟨w, lnk⟩) ++ rest) (cap * 2)) g bb hlk
  refine ok_some (.inl ⟨rfl, 30 - (i + 1), by omega, _, _, _, M.set at_ ⟨w, lnk⟩, i + 1, rfl, ⟨?_, ?_, ?_, ?_, ?_, ?_⟩, gu, fun y c' h1 e => ?_, List.length_set, c2s_set hMs _ (by unfold u64R i64R; simp only; omega), ?_, by omega, rfl⟩)
  rotate_right
  · rw [lk_upH, beq_self_eq_true, cond_true]
  rotate_right
  · rw [lk_upH, eqb h1, cond_false]; exact fk y c' h1 e
  all_goals simp (maxSteps := 10000000) (disch := omega) only [kp.l, kp.t1, kp.t2, kp.t4, kp.t5, kp.t7, lenV_sl, Int.toNat_natCast, bft, btf, gtst, st_len, hc1, Nat.reduceAdd, Int.cast_ofNat_Int, Nat.reduceBEq, Nat.reduceLT, decide_true, ev2]
set_option maxHeartbeats 8000000 in
theorem fMemory {B : OH} {H : HL} {N : St} {vr : Value} {raw : List Q3} {kk p cc h : Nat} (C : Cf kk p cc h) (hp : p ≤ 4) (hN : good B H N) (hw : SlR q3 3 B H vr raw) (hrs : Q3s raw) :
    ∃ v' H' N' M, VlM B [.agg #[.int .i64 (kk : Int), .int .i64 (p : Int), .int .i64 (cc : Int)], vr] H N = some (.ret (.agg #[v']), H', N') ∧ good B H' N' ∧ Fr H H' ∧ SlM c2 2 B H H' v' M ∧ M.length = bs p h 5 ∧ C2s M := by
  have hB := good_B hN
  have hR := good_rdB hN
  have hI := beqN hN.1.1
  have hG : ∃ H N, good B H N := ⟨H, N, hN⟩
  have b0 := hB 0
  have rb0 := fun o n => rdB_none (o := o) (n := n) b0
  have b1 := hB 1
  have rb1 := fun o n => rdB_none (o := o) (n := n) b1
  have h5 := bs5_b C
  have h50 : 0 < bs p h 5 := by rw [bs_5]; omega
  have es := rSize hG C
  obtain ⟨H0, hH0⟩ : ∃ H0, H0 = (N.n 1, KB.cells [.slice none 0 0] 1) :: (N.n 0, .cells [.int .i64 (kk : Int), .int .i64 (p : Int), .int .i64 (cc : Int)] 3) :: H := ⟨_, rfl⟩
  have g0 : good B H0 (sh (sh N)) := by rw [hH0]; exact good_new (good_new hN)
  have f0 : Fr H H0 := by
    rw [hH0]
    have a1 := good_new (k := .cells [.int .i64 (kk : Int), .int .i64 (p : Int), .int .i64 (cc : Int)] 3) hN
    exact fr_new a1 (fr_new hN Fr.refl 0) 0
  have q1 : lk H0 (N.n 1) = some (.cells [.slice none 0 0] 1) := by rw [hH0]; simp only [lk_cons, hI]; rfl
  have q0 : lk H0 (N.n 0) = some (.cells [.int .i64 (kk : Int), .int .i64 (p : Int), .int .i64 (cc : Int)] 3) := by rw [hH0]; simp only [lk_cons, hI]; rfl
  obtain ⟨v', H1, N1, eo, g1, r1, s1⟩ := mnew g0 (n := bs p h 5) (by omega)
  obtain ⟨b, cap, rest, rfl, bb, h0b, hle, hlk⟩ := slm_elim s1.toM (by rw [List.length_replicate]; omega)
  rw [hH0] at eo
  have q0' := r1 _ _ q0
  have q1' := r1 _ _ q1
  have m0 := ne_N g1 q0'
  have m1 := ne_N g1 q1'
  have mb := ne_N g1 hlk
  unfold VlM
  simp -implicitDefEqProofs (maxSteps := 10000000) (disch := omega) only [TlM, LlM, GlM_law16pick, Vlaw16pick_eq, GlM_ref03New, GlM_ref04Size, Vref04Size_eq, hB, hR, hI, es, eo, q0', b0, rb0, m0, m1, good_B g1, good_rdB g1, bt, bf, all1, ress, res1, retV, Value.cells, reduceIte, reduceCtorEq, Int.reduceLT, Int.reduceLE, Int.reduceToNat, Int.reduceAdd, Int.reduceSub, Int.reduceMul, Int.reduceNeg, Nat.reduceMul, Nat.reduceAdd, Nat.reduceSub, Nat.reduceBEq, Nat.reduceEqDiff, Nat.reduceLT, Nat.reduceLeDiff, Int.reduceBEq, Int.reduceEq, Nat.reducePow, Int.reducePow, Int.reduceGT, Int.reduceGE, Int.reduceBNe, newsV_s, ev1, ev2, ev3, ev4]
  have hsl : (List.replicate (bs p h 5) z2).length = bs p h 5 := List.length_replicate
  have hss := rep_c2s (bs p h 5)
  generalize List.replicate (bs p h 5) z2 = M at *
  have g2 : good B ((N1.n 0, .cells [.slice (some ⟨b, 0, none⟩) M.length cap] 1) :: H1) (sh N1) := good_new g1
  have f2 : Fr H1 ((N1.n 0, .cells [.slice (some ⟨b, 0, none⟩) M.length cap] 1) :: H1) := fr_new g1 Fr.refl 0
  have e0b : N.n 0 ≠ b := fun e => by rw [← e, q0] at h0b; cases h0b
  have e1b : N.n 1 ≠ b := fun e => by rw [← e, q1] at h0b; cases h0b
  have eob : N1.n 0 ≠ b := fun e => by have := mb 0; rw [e] at this; simp at this
  generalize hX : exec B _ _ (LC.loop _) _ = o
  obtain ⟨x, ⟨ts, H3, N3⟩, rfl, rfl, g3, k3, M', hM', hMs', l3, i, kp⟩ := (show Ok o _ by rw [← hX]; exact loopMm (c := N.n 0) (o4 := N.n 1) (ow := N1.n 0) C hp (hw.mono f0) hrs (r1.trans f2) h0b rfl (by omega) (by omega) hss g2 b0 (good_B g1 0) bb (f2 _ _ q0') lk_top (f2 _ _ hlk) e0b eob ⟨rfl, rfl, rfl, rfl, rfl, rfl⟩ (by omega))
  simp only at g3 k3 l3 kp
  have w0 := k3 _ _ eob lk_top
  have wq1 := k3 _ _ e1b (f2 _ _ q1')
  have b10 := good_B g1 0
  have rb10 := fun o n => rdB_none (o := o) (n := n) b10
  simp -implicitDefEqProofs (maxSteps := 10000000) (disch := omega) only [TlM, LlM, GlM_law16pick, Vlaw16pick_eq, GlM_ref03New, GlM_ref04Size, Vref04Size_eq, hB, hR, hI, kp.l, kp.t1, kp.t2, kp.t4, kp.t5, kp.t7, w0, wq1, b10, rb10, b1, rb1, bt, bf, all1, ress, res1, retV, Value.cells, reduceIte, reduceCtorEq, Int.reduceLT, Int.reduceLE, Int.reduceToNat, Int.reduceAdd, Int.reduceSub, Int.reduceMul, Int.reduceNeg, Nat.reduceMul, Nat.reduceAdd, Nat.reduceSub, Nat.reduceBEq, Nat.reduceEqDiff, Nat.reduceLT, Nat.reduceLeDiff, Int.reduceBEq, Int.reduceEq, Nat.reducePow, Int.reducePow, Int.reduceGT, Int.reduceGE, Int.reduceBNe, newsV_s, ev1, ev2, ev3, ev4]
  have g4 := good_up (k := .cells [.slice (some ⟨b, 0, none⟩) M.length cap] 1) g3 b1 wq1
  have f3 : Fr H H3 := fun y c e => k3 y c (fun h' => by rw [← h', f0 _ _ e] at h0b; cases h0b) (f2 _ _ (r1 _ _ (f0 _ _ e)))
  refine ⟨_, _, _, M', rfl, g4, fr_up f3 (lk_N hN 1), .inr ⟨b, cap, rest, by rw [hM'], bb, f0.dm _ h0b, by rw [hM']; exact hle, ?_⟩, by omega, hMs'⟩
  rw [lk_upH, eqb e1b.symm, cond_false]; exact l3
end Go.Proofs.YtfhiplfagejfoaaDoor
namespace Go.Proofs.YtfhiplfagejfoaaDoor
open Go.Proofs.YtfhiplfagejfoaaDoor.K Go.ChangeShapes Go.WideShapes Go.ChangeAt Go.RowKit 
set_option maxRecDepth 100000
set_option linter.unusedSimpArgs false
set_option linter.unusedVariables false
theorem cf1 : Cf 1 1 1 1 := ⟨by omega, by omega, by omega, rfl⟩
def wA : List Int := [1, 13, 5, 0, 0, 0, 0]
def wB : List Int := [1, 13, 5, 0, 0, 0, 1]
theorem wA_u : U64s wA := by unfold U64s wA u64R; decide
theorem wB_u : U64s wB := by unfold U64s wB u64R; decide
theorem okP_13 : okP 1 1 13 := by unfold okP; decide
theorem okP_12 : ¬ okP 1 1 12 := by unfold okP; decide
theorem okL_13 : okL 1 1 [⟨13, 5⟩] 1 := fun i hi => by
  obtain rfl : i = 0 := by omega
  exact ⟨okP_13, fun j hj => by omega⟩
theorem okL_12 : ¬ okL 1 1 [⟨12, 5⟩] 1 := fun h => okP_12 (h 0 (by omega)).1
theorem pE_13 : packE 1 1 [⟨13, 5⟩] = 0 := packE_ok (by decide) okL_13
theorem pE_12 : packE 1 1 [⟨12, 5⟩] = 1 := packE_bad (by decide) okL_12
theorem pW_13 : packW 1 1 [⟨13, 5⟩] = wA := rfl
theorem un_A : unOk 1 1 wA := ⟨rfl, by decide, fun i hi => by
  obtain rfl : i = 0 := by have : unN wA = 1 := rfl
                           omega
  exact okP_13, pE_13, rfl⟩
theorem un_B : ¬ unOk 1 1 wB := fun h => by
  have := h.2.2.2.2
  rw [show packW 1 1 (unL wB (unN wB)) = wA from rfl] at this
  exact absurd this (by decide)
theorem W2s1 (a w : Int) (ha : i64R a) (hw : u64R w) : W2s [⟨a, w⟩] := fun x hx => by rw [List.mem_singleton.1 hx]; exact ⟨ha, hw⟩
def mA : List C2 := withW (List.replicate 14 z2) (lgA 1 1 0) wA 7
theorem mA_ok : memOk 1 1 0 mA := ⟨by decide, rfl⟩
theorem mA_s : C2s mA := withW_s (rep_c2s 14) _ wA_u 7
theorem mA_w : wdsL mA (lgA 1 1 0) (LG 1 1) = wA := rfl
theorem unR_A : unR 1 1 wA = [⟨13, 5⟩] := (un_ok un_A).1
def xA : List C2 := lay mA [⟨13, 5⟩] 1
theorem lE_A : layE 1 1 0 mA = 0 := by unfold layE; rw [if_pos mA_ok, mA_w]; exact (un_ok un_A).2
theorem lR_A : layR 1 1 0 mA = xA := by unfold layR; rw [mA_w, if_pos ⟨mA_ok, un_A⟩, unR_A]; rfl
theorem xA_ok : memOk 1 1 0 xA := ⟨by decide, rfl⟩
def yA : List C2 := wiped xA (lgA 1 1 0) (LG 1 1)
theorem wE_A : wipE 1 1 0 xA = 0 := if_pos xA_ok
theorem wR_A : wipR 1 1 0 xA = yA := if_pos xA_ok
theorem slr_at {α : Type} {f : α → List Value} {sz : Nat} {B : OH} {H : HL} {b o n cap : Nat} {L : List α} (h : SlR f sz B H (.slice (some ⟨b, o, none⟩) n cap) L) (hL : 0 < L.length) : ∀ H', Fr H H' → ∀ i j k d, i < L.length → j + k ≤ sz → rdO H' B b (o + i * sz + j) k (rdB B b (o + i * sz + j) k) = tk (f (L.getD i d)) j k := by
  obtain ⟨b', o', c', he, _, rr⟩ := h.at hL
  simp only [Value.slice.injEq, Option.some.injEq, Addr.mk.injEq] at he
  obtain ⟨⟨rfl, rfl, _⟩, _, _⟩ := he
  exact rr
def LlA : FnL := ⟨(.seq (.ops [⟨(some 0), .mv (.const (.bool false)), none⟩])
 (.seq (.ops [⟨(some 21), .build [(.int .i64 0), (.int .i64 0), (.int .i64 0)] [(0, 1, (.const (.int .i64 1))), (1, 1, (.const (.int .i64 1))), (2, 1, (.const (.int .i64 1)))], none⟩, ⟨(some 1), .alloc [(.int .i64 0), (.int .i64 0), (.int .i64 0)], none⟩, ⟨none, .store 3 (.tmp 1) (.tmp 21), none⟩])
 (.seq (.ops [⟨(some 23), .load true 3 (.tmp 1), none⟩, ⟨(some 24), .call (.func 21) [(.tmp 23), (.const (.int .i64 0)), (.const (.int .i64 0))], none⟩, ⟨(some 22), .mv (.tmp 24), none⟩, ⟨(some 25), .ext (.tmp 22) 0, none⟩, ⟨(some 26), .ext (.tmp 22) 1, none⟩, ⟨(some 27), .ext (.tmp 22) 2, none⟩, ⟨(some 2), .mv (.tmp 25), none⟩, ⟨(some 3), .mv (.tmp 26), none⟩, ⟨(some 4), .mv (.tmp 27), none⟩])
 (.seq (.ops [⟨(some 29), .load true 3 (.tmp 1), none⟩, ⟨(some 30), .build [(.int .i64 0), (.int .u64 0)] [(0, 1, (.const (.int .i64 13))), (1, 1, (.const (.int .u64 5)))], none⟩, ⟨(some 31), .buildS [(.int .i64 0), (.int .u64 0)] 1 [(0, 2, (.tmp 30))], none⟩, ⟨(some 32), .call (.func 16) [(.tmp 29), (.tmp 31)], none⟩, ⟨(some 28), .mv (.tmp 32), none⟩, ⟨(some 33), .ext (.tmp 28) 0, none⟩, ⟨(some 34), .ext (.tmp 28) 1, none⟩, ⟨(some 5), .mv (.tmp 33), none⟩, ⟨(some 6), .mv (.tmp 34), none⟩])
 (.seq (.ops [⟨(some 36), .load true 3 (.tmp 1), none⟩, ⟨(some 37), .buildS [(.int .u64 0), (.int .u64 0), (.int .u64 0), (.int .u64 0), (.int .u64 0), (.int .u64 0), (.int .u64 0)] 7 [(0, 1, (.const (.int .u64 1))), (1, 1, (.const (.int .u64 13))), (2, 1, (.const (.int .u64 5))), (3, 1, (.const (.int .u64 0))), (4, 1, (.const (.int .u64 0))), (5, 1, (.const (.int .u64 0))), (6, 1, (.const (.int .u64 0)))], none⟩, ⟨(some 38), .call (.func 18) [(.tmp 36), (.tmp 37)], none⟩, ⟨(some 35), .mv (.tmp 38), none⟩, ⟨(some 39), .ext (.tmp 35) 0, none⟩, ⟨(some 40), .ext (.tmp 35) 1, none⟩, ⟨(some 7), .mv (.tmp 39), none⟩, ⟨(some 8), .mv (.tmp 40), none⟩])
 (.seq (.ops [⟨(some 42), .load true 3 (.tmp 1), none⟩, ⟨(some 43), .build [(.int .i64 0), (.int .u64 0)] [(0, 1, (.const (.int .i64 12))), (1, 1, (.const (.int .u64 5)))], none⟩, ⟨(some 44), .buildS [(.int .i64 0), (.int .u64 0)] 1 [(0, 2, (.tmp 43))], none⟩, ⟨(some 45), .call (.func 16) [(.tmp 42), (.tmp 44)], none⟩, ⟨(some 41), .mv (.tmp 45), none⟩, ⟨(some 46), .ext (.tmp 41) 0, none⟩, ⟨(some 47), .ext (.tmp 41) 1, none⟩, ⟨(some 9), .mv (.tmp 46), none⟩, ⟨(some 10), .mv (.tmp 47), none⟩])
 (.seq (.ops [⟨(some 49), .load true 3 (.tmp 1), none⟩, ⟨(some 50), .buildS [(.int .u64 0), (.int .u64 0), (.int .u64 0), (.int .u64 0), (.int .u64 0), (.int .u64 0), (.int .u64 0)] 7 [(0, 1, (.const (.int .u64 1))), (1, 1, (.const (.int .u64 13))), (2, 1, (.const (.int .u64 5))), (3, 1, (.const (.int .u64 0))), (4, 1, (.const (.int .u64 0))), (5, 1, (.const (.int .u64 0))), (6, 1, (.const (.int .u64 1)))], none⟩, ⟨(some 51), .call (.func 18) [(.tmp 49), (.tmp 50)], none⟩, ⟨(some 48), .mv (.tmp 51), none⟩, ⟨(some 52), .ext (.tmp 48) 0, none⟩, ⟨(some 53), .ext (.tmp 48) 1, none⟩, ⟨(some 11), .mv (.tmp 52), none⟩, ⟨(some 12), .mv (.tmp 53), none⟩])
 (.seq (.ops [⟨(some 55), .call (.func 36) [(.const (.int .i64 14))], none⟩, ⟨(some 54), .mv (.tmp 55), none⟩, ⟨(some 56), .ext (.tmp 54) 0, none⟩, ⟨(some 57), .ext (.tmp 54) 1, none⟩, ⟨(some 13), .alloc [(.slice none 0 0)], none⟩, ⟨none, .store 1 (.tmp 13) (.tmp 56), none⟩, ⟨(some 14), .mv (.tmp 57), none⟩])
 (.seq (.seq (.draw [⟨⟨(some 59), .load true 3 (.tmp 1), none⟩, []⟩, ⟨⟨(some 60), .load true 3 (.tmp 1), none⟩, []⟩, ⟨⟨(some 61), .load true 1 (.tmp 13), none⟩, []⟩, ⟨⟨(some 62), .mv (.tmp 5), none⟩, []⟩])
 (.fork (.seq (.draw [⟨⟨(some 63), .call (.func 23) [(.tmp 60), (.tmp 61), (.const (.int .i64 0)), (.tmp 62)], none⟩, [⟨(some 59), .load true 3 (.tmp 1), none⟩]⟩])
 (.fork (.draw [⟨⟨(some 64), .call (.func 24) [(.tmp 59), (.tmp 63), (.const (.int .i64 0))], none⟩, []⟩, ⟨⟨(some 58), .mv (.tmp 64), none⟩, []⟩, ⟨⟨(some 65), .ext (.tmp 58) 0, none⟩, []⟩, ⟨⟨(some 66), .ext (.tmp 58) 1, none⟩, []⟩, ⟨⟨(some 15), .alloc [(.slice none 0 0)], none⟩, []⟩, ⟨⟨none, .store 1 (.tmp 15) (.tmp 65), none⟩, []⟩, ⟨⟨(some 16), .mv (.tmp 66), none⟩, []⟩])
 (.draw [⟨⟨(some 15), .alloc [(.slice none 0 0)], none⟩, [⟨(some 59), .load true 3 (.tmp 1), none⟩]⟩, ⟨⟨(some 64), .call (.func 24) [(.tmp 59), (.tmp 63), (.const (.int .i64 0))], none⟩, []⟩, ⟨⟨(some 58), .mv (.tmp 64), none⟩, []⟩, ⟨⟨(some 65), .ext (.tmp 58) 0, none⟩, []⟩, ⟨⟨(some 66), .ext (.tmp 58) 1, none⟩, []⟩, ⟨⟨none, .store 1 (.tmp 15) (.tmp 65), none⟩, []⟩, ⟨⟨(some 16), .mv (.tmp 66), none⟩, []⟩])))
 (.draw [⟨⟨(some 15), .alloc [(.slice none 0 0)], none⟩, [⟨(some 59), .load true 3 (.tmp 1), none⟩, ⟨(some 60), .load true 3 (.tmp 1), none⟩, ⟨(some 61), .load true 1 (.tmp 13), none⟩]⟩, ⟨⟨(some 63), .call (.func 23) [(.tmp 60), (.tmp 61), (.const (.int .i64 0)), (.tmp 62)], none⟩, [⟨(some 59), .load true 3 (.tmp 1), none⟩]⟩, ⟨⟨(some 64), .call (.func 24) [(.tmp 59), (.tmp 63), (.const (.int .i64 0))], none⟩, []⟩, ⟨⟨(some 58), .mv (.tmp 64), none⟩, []⟩, ⟨⟨(some 65), .ext (.tmp 58) 0, none⟩, []⟩, ⟨⟨(some 66), .ext (.tmp 58) 1, none⟩, []⟩, ⟨⟨none, .store 1 (.tmp 15) (.tmp 65), none⟩, []⟩, ⟨⟨(some 16), .mv (.tmp 66), none⟩, []⟩])))
 (.seq (.ops [⟨(some 68), .load true 3 (.tmp 1), none⟩, ⟨(some 69), .load true 1 (.tmp 15), none⟩, ⟨(some 70), .call (.func 26) [(.tmp 68), (.tmp 69), (.const (.int .i64 0))], none⟩, ⟨(some 67), .mv (.tmp 70), none⟩, ⟨(some 71), .ext (.tmp 67) 0, none⟩, ⟨(some 72), .ext (.tmp 67) 1, none⟩, ⟨(some 17), .alloc [(.slice none 0 0)], none⟩, ⟨none, .store 1 (.tmp 17) (.tmp 71), none⟩, ⟨(some 18), .mv (.tmp 72), none⟩])
 (.seq (.ops [⟨(some 74), .load true 3 (.tmp 1), none⟩, ⟨(some 75), .call (.func 14) [(.tmp 74), (.const (.int .u64 12))], none⟩, ⟨(some 73), .mv (.tmp 75), none⟩, ⟨(some 76), .ext (.tmp 73) 0, none⟩, ⟨(some 77), .ext (.tmp 73) 1, none⟩, ⟨(some 19), .mv (.tmp 76), none⟩, ⟨(some 20), .mv (.tmp 77), none⟩])
 (.seq (.seq (.ops [⟨(some 78), .faddr 0 (.tmp 15), none⟩, ⟨(some 79), .load false 1 (.tmp 78), none⟩, ⟨(some 80), .len false (.tmp 79), none⟩, ⟨(some 81), .bin .neq (.tmp 80) (.const (.int .i64 14)), none⟩, ⟨(some 82), .mv (.tmp 81), none⟩, ⟨(some 83), .faddr 0 (.tmp 17), (some (82, false))⟩, ⟨(some 84), .load false 1 (.tmp 83), (some (82, false))⟩, ⟨(some 85), .len false (.tmp 84), (some (82, false))⟩, ⟨(some 86), .bin .neq (.tmp 85) (.const (.int .i64 14)), (some (82, false))⟩, ⟨(some 87), .pick (.tmp 82) (.const (.bool true)) (.tmp 86), none⟩])
 (.cond (.tmp 87) (.seq (.ops [⟨(some 0), .mv (.const (.bool false)), none⟩])
 .ret)
 .skip))
 (.seq (.ops [⟨(some 88), .mv (.tmp 4), none⟩, ⟨(some 89), .bin .eql (.tmp 88) (.const (.int .i64 0)), none⟩, ⟨(some 90), .mv (.tmp 89), none⟩, ⟨(some 91), .mv (.tmp 2), (some (90, true))⟩, ⟨(some 92), .bin .eql (.tmp 91) (.const (.int .i64 7)), (some (90, true))⟩, ⟨(some 93), .pick (.tmp 90) (.tmp 92) (.const (.bool false)), none⟩, ⟨(some 94), .mv (.tmp 93), none⟩, ⟨(some 95), .mv (.tmp 3), (some (94, true))⟩, ⟨(some 96), .bin .eql (.tmp 95) (.const (.int .i64 8)), (some (94, true))⟩, ⟨(some 97), .pick (.tmp 94) (.tmp 96) (.const (.bool false)), none⟩, ⟨(some 98), .mv (.tmp 97), none⟩, ⟨(some 99), .mv (.tmp 6), (some (98, true))⟩, ⟨(some 100), .bin .eql (.tmp 99) (.const (.int .i64 0)), (some (98, true))⟩, ⟨(some 101), .pick (.tmp 98) (.tmp 100) (.const (.bool false)), none⟩, ⟨(some 102), .mv (.tmp 101), none⟩, ⟨(some 103), .mv (.tmp 5), (some (102, true))⟩, ⟨(some 104), .buildS [(.int .u64 0), (.int .u64 0), (.int .u64 0), (.int .u64 0), (.int .u64 0), (.int .u64 0), (.int .u64 0)] 7 [(0, 1, (.const (.int .u64 1))), (1, 1, (.const (.int .u64 13))), (2, 1, (.const (.int .u64 5))), (3, 1, (.const (.int .u64 0))), (4, 1, (.const (.int .u64 0))), (5, 1, (.const (.int .u64 0))), (6, 1, (.const (.int .u64 0)))], (some (102, true))⟩, ⟨(some 105), .call (.func 17) [(.tmp 103), (.tmp 104)], (some (102, true))⟩, ⟨(some 106), .pick (.tmp 102) (.tmp 105) (.const (.bool false)), none⟩, ⟨(some 107), .mv (.tmp 106), none⟩, ⟨(some 108), .mv (.tmp 8), (some (107, true))⟩, ⟨(some 109), .bin .eql (.tmp 108) (.const (.int .i64 0)), (some (107, true))⟩, ⟨(some 110), .pick (.tmp 107) (.tmp 109) (.const (.bool false)), none⟩, ⟨(some 111), .mv (.tmp 110), none⟩, ⟨(some 112), .mv (.tmp 7), (some (111, true))⟩, ⟨(some 113), .build [(.int .i64 0), (.int .u64 0)] [(0, 1, (.const (.int .i64 13))), (1, 1, (.const (.int .u64 5)))], (some (111, true))⟩, ⟨(some 114), .buildS [(.int .i64 0), (.int .u64 0)] 1 [(0, 2, (.tmp 113))], (some (111, true))⟩, ⟨(some 115), .call (.func 20) [(.tmp 112), (.tmp 114)], (some (111, true))⟩, ⟨(some 116), .pick (.tmp 111) (.tmp 115) (.const (.bool false)), none⟩, ⟨(some 117), .mv (.tmp 116), none⟩, ⟨(some 118), .mv (.tmp 10), (some (117, true))⟩, ⟨(some 119), .bin .eql (.tmp 118) (.const (.int .i64 1)), (some (117, true))⟩, ⟨(some 120), .pick (.tmp 117) (.tmp 119) (.const (.bool false)), none⟩, ⟨(some 121), .mv (.tmp 120), none⟩, ⟨(some 122), .mv (.tmp 12), (some (121, true))⟩, ⟨(some 123), .bin .eql (.tmp 122) (.const (.int .i64 2)), (some (121, true))⟩, ⟨(some 124), .pick (.tmp 121) (.tmp 123) (.const (.bool false)), none⟩, ⟨(some 125), .mv (.tmp 124), none⟩, ⟨(some 126), .mv (.tmp 16), (some (125, true))⟩, ⟨(some 127), .bin .eql (.tmp 126) (.const (.int .i64 0)), (some (125, true))⟩, ⟨(some 128), .pick (.tmp 125) (.tmp 127) (.const (.bool false)), none⟩, ⟨(some 129), .mv (.tmp 128), none⟩, ⟨(some 130), .faddr 0 (.tmp 15), (some (129, true))⟩, ⟨(some 131), .load false 1 (.tmp 130), (some (129, true))⟩, ⟨(some 132), .iaddrS 2 (.tmp 131) (.const (.int .i64 13)), (some (129, true))⟩, ⟨(some 133), .faddr 0 (.tmp 132), (some (129, true))⟩, ⟨(some 134), .load false 1 (.tmp 133), (some (129, true))⟩, ⟨(some 135), .bin .eql (.tmp 134) (.const (.int .u64 5)), (some (129, true))⟩, ⟨(some 136), .pick (.tmp 129) (.tmp 135) (.const (.bool false)), none⟩, ⟨(some 137), .mv (.tmp 136), none⟩, ⟨(some 138), .faddr 0 (.tmp 15), (some (137, true))⟩, ⟨(some 139), .load false 1 (.tmp 138), (some (137, true))⟩, ⟨(some 140), .iaddrS 2 (.tmp 139) (.const (.int .i64 6)), (some (137, true))⟩, ⟨(some 141), .faddr 0 (.tmp 140), (some (137, true))⟩, ⟨(some 142), .load false 1 (.tmp 141), (some (137, true))⟩, ⟨(some 143), .bin .eql (.tmp 142) (.const (.int .u64 1)), (some (137, true))⟩, ⟨(some 144), .pick (.tmp 137) (.tmp 143) (.const (.bool false)), none⟩, ⟨(some 145), .mv (.tmp 144), none⟩, ⟨(some 146), .mv (.tmp 18), (some (145, true))⟩, ⟨(some 147), .bin .eql (.tmp 146) (.const (.int .i64 0)), (some (145, true))⟩, ⟨(some 148), .pick (.tmp 145) (.tmp 147) (.const (.bool false)), none⟩, ⟨(some 149), .mv (.tmp 148), none⟩, ⟨(some 150), .faddr 0 (.tmp 17), (some (149, true))⟩, ⟨(some 151), .load false 1 (.tmp 150), (some (149, true))⟩, ⟨(some 152), .iaddrS 2 (.tmp 151) (.const (.int .i64 13)), (some (149, true))⟩, ⟨(some 153), .faddr 0 (.tmp 152), (some (149, true))⟩, ⟨(some 154), .load false 1 (.tmp 153), (some (149, true))⟩, ⟨(some 155), .bin .eql (.tmp 154) (.const (.int .u64 5)), (some (149, true))⟩, ⟨(some 156), .pick (.tmp 149) (.tmp 155) (.const (.bool false)), none⟩, ⟨(some 157), .mv (.tmp 156), none⟩, ⟨(some 158), .faddr 0 (.tmp 17), (some (157, true))⟩, ⟨(some 159), .load false 1 (.tmp 158), (some (157, true))⟩, ⟨(some 160), .iaddrS 2 (.tmp 159) (.const (.int .i64 6)), (some (157, true))⟩, ⟨(some 161), .faddr 0 (.tmp 160), (some (157, true))⟩, ⟨(some 162), .load false 1 (.tmp 161), (some (157, true))⟩, ⟨(some 163), .bin .eql (.tmp 162) (.const (.int .u64 0)), (some (157, true))⟩, ⟨(some 164), .pick (.tmp 157) (.tmp 163) (.const (.bool false)), none⟩, ⟨(some 165), .mv (.tmp 164), none⟩, ⟨(some 166), .mv (.tmp 20), (some (165, true))⟩, ⟨(some 167), .un .not (.tmp 166), (some (165, true))⟩, ⟨(some 168), .pick (.tmp 165) (.tmp 167) (.const (.bool false)), none⟩, ⟨(some 0), .mv (.tmp 168), none⟩])
 .ret))))))))))))),
 169, [.tmp 0]⟩
theorem lowlA : lowerFn Tryd.prog Tryd.f8 = some LlA := by kernel_rfl
noncomputable def GlA (B : OH) : Nat → Cs
  | 23 => VlH B
  | 36 => Vref03New B
  | 20 => Vref05Writes B
  | 17 => Vref10Words B
  | 24 => VgL B
  | 16 => VgP B
  | 14 => VwlogPlace B
  | 21 => VwlogSpot B
  | 18 => VgU B
  | 26 => VgW B
  | _ => fun _ _ _ => none
theorem GlA_lH {B : OH} : GlA B 23 = VlH B := rfl
theorem GlA_ref03New {B : OH} : GlA B 36 = Vref03New B := rfl
theorem GlA_ref05Writes {B : OH} : GlA B 20 = Vref05Writes B := rfl
theorem GlA_ref10Words {B : OH} : GlA B 17 = Vref10Words B := rfl
theorem GlA_gL {B : OH} : GlA B 24 = VgL B := rfl
theorem GlA_gP {B : OH} : GlA B 16 = VgP B := rfl
theorem GlA_wlogPlace {B : OH} : GlA B 14 = VwlogPlace B := rfl
theorem GlA_wlogSpot {B : OH} : GlA B 21 = VwlogSpot B := rfl
theorem GlA_gU {B : OH} : GlA B 18 = VgU B := rfl
theorem GlA_gW {B : OH} : GlA B 26 = VgW B := rfl
theorem sGlA {w0 : World} {B : OH} : SoundG Tryd.prog w0 B { f := GlA B } := .of fun k => by
  unfold GlA
  split
  · exact .inr ⟨enlH, sVlH⟩
  · exact .inr ⟨enref03New, sVref03New⟩
  · exact .inr ⟨enref05Writes, sVref05Writes⟩
  · exact .inr ⟨enref10Words, sVref10Words⟩
  · exact .inr ⟨engL, sVgL⟩
  · exact .inr ⟨engP, sVgP⟩
  · exact .inr ⟨enwlogPlace, sVwlogPlace⟩
  · exact .inr ⟨enwlogSpot, sVwlogSpot⟩
  · exact .inr ⟨engU, sVgU⟩
  · exact .inr ⟨engW, sVgW⟩
  · exact .inl fun _ _ _ => rfl
theorem enlA : Enter Tryd.prog 8 := .of Tryd.func8 (by kernel_rfl) (by kernel_rfl)
noncomputable def TlA (B : OH) : Cs := callF B { f := GlA B } 1000000 LlA
theorem sTlA {w0 : World} {B : OH} : SoundC Tryd.prog w0 B 8 (TlA B) := callF_sound mixedOrders sGlA 1000000 Tryd.func8 lowlA
noncomputable def VlA (B : OH) : Cs := TlA B
theorem sVlA {w0 : World} {B : OH} : SoundC Tryd.prog w0 B 8 (VlA B) := sTlA
set_option maxHeartbeats 8000000 in
theorem fAwake {B : OH} {H : HL} {N : St} (hT : Tab B) (hN : good B H N) : ∃ H' N', VlA B [] H N = some (.ret (.bool true), H', N') ∧ good B H' N' ∧ Fr H H' := by
  have hB := good_B hN
  have hR := good_rdB hN
  have hI := beqN hN.1.1
  have hG : ∃ H N, good B H N := ⟨H, N, hN⟩
  have b0 := hB 0
  have rb0 := fun o n => rdB_none (o := o) (n := n) b0
  have eS : FwlogSpot B [.agg #[.int .i64 1, .int .i64 1, .int .i64 1], .int .i64 0, .int .i64 0] = some (.tuple #[.int .i64 7, .int .i64 8, .int .i64 0]) := (fSpot hG hT cf1 0 0).trans (by unfold spV; rw [if_pos (by decide)]; rfl)
  have eP : FwlogPlace B [.agg #[.int .i64 1, .int .i64 1, .int .i64 1], .int .u64 12] = some (.tuple #[.int .i64 0, .bool false]) := (fPlace hG hT cf1 (w := 12) (by unfold u64R; decide)).trans (by rw [plV_n okP_12])
  obtain ⟨H1, hH1⟩ : ∃ H1, H1 = (N.n 1, KB.cells [.int .i64 13, .int .u64 5] 2) :: (N.n 0, .cells [.int .i64 1, .int .i64 1, .int .i64 1] 3) :: H := ⟨_, rfl⟩
  have g0 : good B ((N.n 0, .cells [.int .i64 1, .int .i64 1, .int .i64 1] 3) :: H) (sh N) := good_new hN
  have g1 : good B H1 (sh (sh N)) := by rw [hH1]; exact good_new g0
  have f1 : Fr H H1 := by rw [hH1]; exact fr_new g0 (fr_new hN Fr.refl 0) 0
  have q1 : lk H1 (N.n 0) = some (.cells [.int .i64 1, .int .i64 1, .int .i64 1] 3) := by rw [hH1]; exact fr_new g0 Fr.refl 0 _ _ lk_top
  have s1 : SlN w2 2 B ((N.n 0, .cells [.int .i64 1, .int .i64 1, .int .i64 1] 3) :: H) H1 (.slice (some ⟨N.n 1, 0, none⟩) 1 1) [⟨13, 5⟩] := by rw [hH1]; exact slN_new (B := B) (f := w2) (sz := 2) g0 [⟨13, 5⟩] (cs := [.int .i64 13, .int .u64 5]) (n := 1) (m := 2) rfl rfl rfl
  obtain ⟨v5, H2, N2, e2, g2, f2, s5⟩ := fPack hT cf1 g1 (s1.rd w2_len) (W2s1 13 5 (by unfold i64R; decide) (by unfold u64R; decide))
  rw [pE_13, if_pos rfl, pW_13] at *
  have e2 : VgP B [.agg #[.int .i64 1, .int .i64 1, .int .i64 1], .slice (some ⟨N.n 1, 0, none⟩) 1 1] H1 (sh (sh N)) = some (.ret (.tuple #[v5, .int .i64 0]), H2, N2) := e2
  rw [hH1] at e2
  have q2 := f2 _ _ q1
  have fr2 : Fr H H2 := f1.trans f2
  -- Unpack of the good words
  have g3 : good B ((N2.n 0, .cells (fl w1 wA) 7) :: H2) (sh N2) := good_new g2
  have f3 : Fr H2 ((N2.n 0, .cells (fl w1 wA) 7) :: H2) := fr_new g2 Fr.refl 0
  have s3 := slN_new (B := B) (f := w1) (sz := 1) g2 wA (cs := fl w1 wA) (n := 7) (m := 7) rfl rfl rfl
  obtain ⟨v7, H4, N4, e4, g4, f4, s7⟩ := fUnpack hT cf1 g3 (s3.rd w1_len) wA_u (by decide)
  rw [(un_ok un_A).2, unR_A] at *
  have e4 : VgU B [.agg #[.int .i64 1, .int .i64 1, .int .i64 1], .slice (some ⟨N2.n 0, 0, none⟩) 7 7] ((N2.n 0, .cells [.int .u64 1, .int .u64 13, .int .u64 5, .int .u64 0, .int .u64 0, .int .u64 0, .int .u64 0] 7) :: H2) (sh N2) = some (.ret (.tuple #[v7, .int .i64 0]), H4, N4) := e4
  have fr4 : Fr H2 H4 := f3.trans f4
  have q4 := fr4 _ _ q2
  -- Pack of a write beside
  have g5 : good B ((N4.n 0, .cells [.int .i64 12, .int .u64 5] 2) :: H4) (sh N4) := good_new g4
  have f5 : Fr H4 ((N4.n 0, .cells [.int .i64 12, .int .u64 5] 2) :: H4) := fr_new g4 Fr.refl 0
  have s5b := slN_new (B := B) (f := w2) (sz := 2) g4 [⟨12, 5⟩] (cs := [.int .i64 12, .int .u64 5]) (n := 1) (m := 2) rfl rfl rfl
  obtain ⟨v9, H6, N6, e6, g6, f6, s9⟩ := fPack hT cf1 g5 (s5b.rd w2_len) (W2s1 12 5 (by unfold i64R; decide) (by unfold u64R; decide))
  rw [pE_12] at *
  have e6 : VgP B [.agg #[.int .i64 1, .int .i64 1, .int .i64 1], .slice (some ⟨N4.n 0, 0, none⟩) 1 1] ((N4.n 0, .cells [.int .i64 12, .int .u64 5] 2) :: H4) (sh N4) = some (.ret (.tuple #[v9, .int .i64 1]), H6, N6) := e6
  have fr6 : Fr H4 H6 := f5.trans f6
  have q6 := fr6 _ _ q4
  -- Unpack of the bad words
  have g7 : good B ((N6.n 0, .cells (fl w1 wB) 7) :: H6) (sh N6) := good_new g6
  have f7 : Fr H6 ((N6.n 0, .cells (fl w1 wB) 7) :: H6) := fr_new g6 Fr.refl 0
  have s7b := slN_new (B := B) (f := w1) (sz := 1) g6 wB (cs := fl w1 wB) (n := 7) (m := 7) rfl rfl rfl
  obtain ⟨v11, H8, N8, e8, g8, f8, s11⟩ := fUnpack hT cf1 g7 (s7b.rd w1_len) wB_u (by decide)
  rw [(un_no un_B).2] at e8
  have e8 : VgU B [.agg #[.int .i64 1, .int .i64 1, .int .i64 1], .slice (some ⟨N6.n 0, 0, none⟩) 7 7] ((N6.n 0, .cells [.int .u64 1, .int .u64 13, .int .u64 5, .int .u64 0, .int .u64 0, .int .u64 0, .int .u64 1] 7) :: H6) (sh N6) = some (.ret (.tuple #[v11, .int .i64 2]), H8, N8) := e8
  have fr8 : Fr H6 H8 := f7.trans f8
  have q8 := fr8 _ _ q6
  -- New
  obtain ⟨v13, H9, N9, e9, g9, f9, s13⟩ := mnew g8 (n := 14) (by decide)
  have e9 : Vref03New B [.int .i64 14] H8 N8 = some (.ret (.tuple #[.agg #[v13], .int .i64 0]), H9, N9) := e9
  have q9 := f9 _ _ q8
  obtain ⟨b13, c13, r13, rfl, bb13, h013, hle13, hlk13⟩ := slm_elim s13.toM (by decide)
  have e9 : Vref03New B [.int .i64 14] H8 N8 = some (.ret (.tuple #[.agg #[.slice (some ⟨b13, 0, none⟩) 14 c13], .int .i64 0]), H9, N9) := e9
  have m9 := ne_N g9 q9
  have g10 : good B ((N9.n 0, .cells [.slice (some ⟨b13, 0, none⟩) 14 c13] 1) :: H9) (sh N9) := good_new g9
  have f10 : Fr H9 ((N9.n 0, .cells [.slice (some ⟨b13, 0, none⟩) 14 c13] 1) :: H9) := fr_new g9 Fr.refl 0
  have w5 := ((s5.rd w1_len).mono (fr4.trans (fr6.trans (fr8.trans f9))))
  have b9 := good_B g9 0
  have q10 := f10 _ _ q9
  unfold VlA
  simp -implicitDefEqProofs (maxSteps := 10000000) (disch := omega) only [TlA, LlA, GlA_lH, GlA_ref03New, GlA_ref05Writes, GlA_ref10Words, GlA_gL, GlA_gP, GlA_wlogPlace, VwlogPlace_eq, GlA_wlogSpot, VwlogSpot_eq, GlA_gU, GlA_gW, hB, hR, hI, eS, e2, e4, e6, e8, e9, q2, q4, q6, q8, q9, b0, rb0, m9, good_B g9, good_rdB g9, bt, bf, all1, ress, res1, retV, Value.cells, reduceIte, reduceCtorEq, Int.reduceLT, Int.reduceLE, Int.reduceToNat, Int.reduceAdd, Int.reduceSub, Int.reduceMul, Int.reduceNeg, Nat.reduceMul, Nat.reduceAdd, Nat.reduceSub, Nat.reduceBEq, Nat.reduceEqDiff, Nat.reduceLT, Nat.reduceLeDiff, Int.reduceBEq, Int.reduceEq, Nat.reducePow, Int.reducePow, Int.reduceGT, Int.reduceGE, Int.reduceBNe, newsV_s, ev1, ev2, ev3, ev4]
  have gg : ∀ {H N}, good B H N → good B H (shg N) := fun h => h
  cases hg : N9.g 1 with
  | true =>
    obtain ⟨vM, H11, N11, e11, g11, f11, s11⟩ := fWith (q := 0) cf1 (gg g10) ((s13.toM.wh c2_len).mono f10) (w5.mono f10) rfl (by decide)
    have e11 : VlH B [.agg #[.int .i64 1, .int .i64 1, .int .i64 1], .agg #[.slice (some ⟨b13, 0, none⟩) 14 c13], .int .i64 0, v5] ((N9.n 0, .cells [.slice (some ⟨b13, 0, none⟩) 14 c13] 1) :: H9) (shg (sh N9)) = some (.ret (.agg #[vM]), H11, N11) := e11
    have s11 : SlM c2 2 B _ H11 vM mA := s11
    have q11 := f11 _ _ q10
    cases hg2 : N11.g 0 with
    | true =>
      obtain ⟨vX, H12, N12, e12, g12, f12, s12⟩ := fLay hT cf1 (gg g11) (s11.wh c2_len) (by decide) mA_s (q := 0)
      rw [lE_A, lR_A] at *
      have s12 : SlM c2 2 B H11 H12 vX xA := s12
      obtain ⟨bX, cX, rX, rfl, _, _, _, _⟩ := slm_elim s12 (by decide)
      have e12 : VgL B [.agg #[.int .i64 1, .int .i64 1, .int .i64 1], .agg #[vM], .int .i64 0] H11 (shg N11) = some (.ret (.tuple #[.agg #[.slice (some ⟨bX, 0, none⟩) 14 cX], .int .i64 0]), H12, N12) := e12
      have q12 := f12 _ _ q11
      have m12 := ne_N g12 q12
      have m12' := ne_N' g12 q12
      obtain ⟨HT, hHT⟩ : ∃ HT, HT = (N12.n 0, KB.cells [.slice (some ⟨bX, 0, none⟩) 14 cX] 1) :: H12 := ⟨_, rfl⟩
      have gT : good B HT (sh N12) := by rw [hHT]; exact good_new g12
      have fX : Fr H12 HT := by rw [hHT]; exact fr_new g12 Fr.refl 0
      have qT := fX _ _ q12
      have xT : lk HT (N12.n 0) = some (.cells [.slice (some ⟨bX, 0, none⟩) 14 cX] 1) := by rw [hHT]; exact lk_top
      have f9T : Fr H9 HT := f10.trans (f11.trans (f12.trans fX))
      have bX_ := good_B g12 0
      have rbX := fun o n => rdB_none (o := o) (n := n) bX_
      simp -implicitDefEqProofs (maxSteps := 10000000) (disch := omega) only [TlA, LlA, GlA_lH, GlA_ref03New, GlA_ref05Writes, GlA_ref10Words, GlA_gL, GlA_gP, GlA_wlogPlace, VwlogPlace_eq, GlA_wlogSpot, VwlogSpot_eq, GlA_gU, GlA_gW, hB, hR, hI, e11, e12, q11, q12, hg2, b0, rb0, m12, good_B g12, good_rdB g12, bt, bf, all1, ress, res1, retV, Value.cells, reduceIte, reduceCtorEq, Int.reduceLT, Int.reduceLE, Int.reduceToNat, Int.reduceAdd, Int.reduceSub, Int.reduceMul, Int.reduceNeg, Nat.reduceMul, Nat.reduceAdd, Nat.reduceSub, Nat.reduceBEq, Nat.reduceEqDiff, Nat.reduceLT, Nat.reduceLeDiff, Int.reduceBEq, Int.reduceEq, Nat.reducePow, Int.reducePow, Int.reduceGT, Int.reduceGE, Int.reduceBNe, newsV_s, ev1, ev2, ev3, ev4]
      obtain ⟨vY, H14, N14, e14, g14, f14, s14⟩ := fWipe hT cf1 gT (s12.wh c2_len |>.mono fX) (q := 0) (by decide)
      rw [wE_A, wR_A] at *
      have sx := (s12.rd c2_len).mono (fX.trans f14)
      have sy := s14.rd c2_len
      obtain ⟨bY, cY, rY, rfl, _, _, _, _⟩ := slm_elim s14 (by decide)
      have e14 : VgW B [.agg #[.int .i64 1, .int .i64 1, .int .i64 1], .agg #[.slice (some ⟨bX, 0, none⟩) 14 cX], .int .i64 0] HT (sh N12) = some (.ret (.tuple #[.agg #[.slice (some ⟨bY, 0, none⟩) 14 cY], .int .i64 0]), H14, N14) := e14
      have q14 := f14 _ _ qT
      have x14 := f14 _ _ xT
      have m14 := ne_N g14 q14
      have mx14 := ne_N g14 x14
      rw [hHT] at e14 qT xT
      have g15 : good B ((N14.n 0, .cells [.slice (some ⟨bY, 0, none⟩) 14 cY] 1) :: H14) (sh N14) := good_new g14
      have f15 : Fr H14 ((N14.n 0, .cells [.slice (some ⟨bY, 0, none⟩) 14 cY] 1) :: H14) := fr_new g14 Fr.refl 0
      have g16 : good B ((N14.n 1, .cells (fl w1 wA) 7) :: (N14.n 0, .cells [.slice (some ⟨bY, 0, none⟩) 14 cY] 1) :: H14) (sh (sh N14)) := good_new g15
      have f16 : Fr ((N14.n 0, .cells [.slice (some ⟨bY, 0, none⟩) 14 cY] 1) :: H14) ((N14.n 1, .cells (fl w1 wA) 7) :: (N14.n 0, .cells [.slice (some ⟨bY, 0, none⟩) 14 cY] 1) :: H14) := fr_new (N := sh N14) g15 Fr.refl 0
      have s16 : SlR w1 1 B ((N14.n 1, .cells (fl w1 wA) 7) :: (N14.n 0, .cells [.slice (some ⟨bY, 0, none⟩) 14 cY] 1) :: H14) (.slice (some ⟨N14.n 1, 0, none⟩) 7 7) wA := (slN_new (B := B) (N := sh N14) (f := w1) (sz := 1) g15 wA (cs := fl w1 wA) (n := 7) (m := 7) rfl rfl rfl).rd w1_len
      have e16 := sameref10Words g16 (w5.mono (f9T.trans (f14.trans (f15.trans f16)))) s16 (by decide)
      rw [decide_eq_true rfl] at e16
      have e16 : Vref10Words B [v5, .slice (some ⟨N14.n 1, 0, none⟩) 7 7] ((N14.n 1, .cells [.int .u64 1, .int .u64 13, .int .u64 5, .int .u64 0, .int .u64 0, .int .u64 0, .int .u64 0] 7) :: (N14.n 0, .cells [.slice (some ⟨bY, 0, none⟩) 14 cY] 1) :: H14) (sh (sh N14)) = some (.ret (.bool true), (N14.n 1, .cells [.int .u64 1, .int .u64 13, .int .u64 5, .int .u64 0, .int .u64 0, .int .u64 0, .int .u64 0] 7) :: (N14.n 0, .cells [.slice (some ⟨bY, 0, none⟩) 14 cY] 1) :: H14, sh (sh N14)) := e16
      obtain ⟨H16, hH16⟩ : ∃ H16, H16 = (N14.n 1, KB.cells (fl w1 wA) 7) :: (N14.n 0, .cells [.slice (some ⟨bY, 0, none⟩) 14 cY] 1) :: H14 := ⟨_, rfl⟩
      have g17 : good B ((N14.n 2, .cells (fl w2 [⟨13, 5⟩]) 2) :: H16) (sh (sh (sh N14))) := by rw [hH16]; exact good_new g16
      have f17 : Fr H16 ((N14.n 2, .cells (fl w2 [⟨13, 5⟩]) 2) :: H16) := by rw [hH16]; exact fr_new (N := sh (sh N14)) g16 Fr.refl 0
      have s17 : SlR w2 2 B ((N14.n 2, .cells (fl w2 [⟨13, 5⟩]) 2) :: H16) (.slice (some ⟨N14.n 2, 0, none⟩) 1 1) [⟨13, 5⟩] := by rw [hH16]; exact (slN_new (B := B) (N := sh (sh N14)) (f := w2) (sz := 2) g16 [⟨13, 5⟩] (cs := fl w2 [⟨13, 5⟩]) (n := 1) (m := 2) rfl rfl rfl).rd w2_len
      have fA : Fr H14 H16 := by rw [hH16]; exact f15.trans f16
      have e17 := sameref05Writes g17 ((s7.rd w2_len).mono (fr6.trans (fr8.trans (f9.trans (f9T.trans (f14.trans (fA.trans f17))))))) s17 (by decide)
      rw [decide_eq_true rfl, hH16] at e17
      have e17 : Vref05Writes B [v7, .slice (some ⟨N14.n 2, 0, none⟩) 1 1] ((N14.n 2, .cells [.int .i64 13, .int .u64 5] 2) :: (N14.n 1, .cells [.int .u64 1, .int .u64 13, .int .u64 5, .int .u64 0, .int .u64 0, .int .u64 0, .int .u64 0] 7) :: (N14.n 0, .cells [.slice (some ⟨bY, 0, none⟩) 14 cY] 1) :: H14) (sh (sh (sh N14))) = some (.ret (.bool true), (N14.n 2, .cells [.int .i64 13, .int .u64 5] 2) :: (N14.n 1, .cells [.int .u64 1, .int .u64 13, .int .u64 5, .int .u64 0, .int .u64 0, .int .u64 0, .int .u64 0] 7) :: (N14.n 0, .cells [.slice (some ⟨bY, 0, none⟩) 14 cY] 1) :: H14, sh (sh (sh N14))) := e17
      have rx := fun H' hf i hi => slr_at (sx.mono (fA.trans f17)) (by decide) H' hf i 0 1 z2 hi (by decide)
      have ry := fun H' hf i hi => slr_at (sy.mono (fA.trans f17)) (by decide) H' hf i 0 1 z2 hi (by decide)
      have rx13 := rx _ Fr.refl 13 (by decide)
      have rx6 := rx _ Fr.refl 6 (by decide)
      have ry13 := ry _ Fr.refl 13 (by decide)
      have ry6 := ry _ Fr.refl 6 (by decide)
      rw [show tk (c2 (xA.getD 13 z2)) 0 1 = some [.int .u64 5] from rfl, show (0 + 13 * 2 + 0) = 26 from rfl, hH16] at rx13
      rw [show tk (c2 (xA.getD 6 z2)) 0 1 = some [.int .u64 1] from rfl, show (0 + 6 * 2 + 0) = 12 from rfl, hH16] at rx6
      rw [show tk (c2 (yA.getD 13 z2)) 0 1 = some [.int .u64 5] from rfl, show (0 + 13 * 2 + 0) = 26 from rfl, hH16] at ry13
      rw [show tk (c2 (yA.getD 6 z2)) 0 1 = some [.int .u64 0] from rfl, show (0 + 6 * 2 + 0) = 12 from rfl, hH16] at ry6
      have rx13 : rdO ((N14.n 2, .cells [.int .i64 13, .int .u64 5] 2) :: (N14.n 1, .cells [.int .u64 1, .int .u64 13, .int .u64 5, .int .u64 0, .int .u64 0, .int .u64 0, .int .u64 0] 7) :: (N14.n 0, .cells [.slice (some ⟨bY, 0, none⟩) 14 cY] 1) :: H14) B bX 26 1 (rdB B bX 26 1) = some [.int .u64 5] := rx13
      have rx6 : rdO ((N14.n 2, .cells [.int .i64 13, .int .u64 5] 2) :: (N14.n 1, .cells [.int .u64 1, .int .u64 13, .int .u64 5, .int .u64 0, .int .u64 0, .int .u64 0, .int .u64 0] 7) :: (N14.n 0, .cells [.slice (some ⟨bY, 0, none⟩) 14 cY] 1) :: H14) B bX 12 1 (rdB B bX 12 1) = some [.int .u64 1] := rx6
      have ry13 : rdO ((N14.n 2, .cells [.int .i64 13, .int .u64 5] 2) :: (N14.n 1, .cells [.int .u64 1, .int .u64 13, .int .u64 5, .int .u64 0, .int .u64 0, .int .u64 0, .int .u64 0] 7) :: (N14.n 0, .cells [.slice (some ⟨bY, 0, none⟩) 14 cY] 1) :: H14) B bY 26 1 (rdB B bY 26 1) = some [.int .u64 5] := ry13
      have ry6 : rdO ((N14.n 2, .cells [.int .i64 13, .int .u64 5] 2) :: (N14.n 1, .cells [.int .u64 1, .int .u64 13, .int .u64 5, .int .u64 0, .int .u64 0, .int .u64 0, .int .u64 0] 7) :: (N14.n 0, .cells [.slice (some ⟨bY, 0, none⟩) 14 cY] 1) :: H14) B bY 12 1 (rdB B bY 12 1) = some [.int .u64 0] := ry6
      have by14 := good_B g14 0
      have hI14 := beqN g14.1.1
      simp -implicitDefEqProofs (maxSteps := 10000000) (disch := omega) only [TlA, LlA, GlA_lH, GlA_ref03New, GlA_ref05Writes, GlA_ref10Words, GlA_gL, GlA_gP, GlA_wlogPlace, VwlogPlace_eq, GlA_wlogSpot, VwlogSpot_eq, GlA_gU, GlA_gW, hB, hR, hI, e14, e16, e17, eP, qT, q14, xT, x14, b0, rb0, bX_, rbX, m14, mx14, good_B g14, good_rdB g14, bne_self_eq_false, rx13, rx6, ry13, ry6, by14, hI14, bt, bf, all1, ress, res1, retV, Value.cells, reduceIte, reduceCtorEq, Int.reduceLT, Int.reduceLE, Int.reduceToNat, Int.reduceAdd, Int.reduceSub, Int.reduceMul, Int.reduceNeg, Nat.reduceMul, Nat.reduceAdd, Nat.reduceSub, Nat.reduceBEq, Nat.reduceEqDiff, Nat.reduceLT, Nat.reduceLeDiff, Int.reduceBEq, Int.reduceEq, Nat.reducePow, Int.reducePow, Int.reduceGT, Int.reduceGE, Int.reduceBNe, newsV_s, ev1, ev2, ev3, ev4]
      rw [hH16] at g17 f17
      exact ⟨_, _, rfl, g17, fr2.trans (fr4.trans (fr6.trans (fr8.trans (f9.trans (f9T.trans (f14.trans (f15.trans (f16.trans f17))))))))⟩
    | false =>
      have gA : good B ((N11.n 0, .cells [.slice none 0 0] 1) :: H11) (sh (shg N11)) := good_new (gg g11)
      have fA : Fr H11 ((N11.n 0, .cells [.slice none 0 0] 1) :: H11) := fr_new (gg g11) Fr.refl 0
      obtain ⟨vX, H12, N12, e12, g12, f12, s12⟩ := fLay hT cf1 gA ((s11.wh c2_len).mono fA) (by decide) mA_s (q := 0)
      rw [lE_A, lR_A] at *
      have s12 : SlM c2 2 B _ H12 vX xA := s12
      obtain ⟨bX, cX, rX, rfl, _, hXn, _, _⟩ := slm_elim s12 (by decide)
      have e12 : VgL B [.agg #[.int .i64 1, .int .i64 1, .int .i64 1], .agg #[vM], .int .i64 0] ((N11.n 0, .cells [.slice none 0 0] 1) :: H11) (sh (shg N11)) = some (.ret (.tuple #[.agg #[.slice (some ⟨bX, 0, none⟩) 14 cX], .int .i64 0]), H12, N12) := e12
      have q11' := fA _ _ q11
      have q12 := f12 _ _ q11'
      have m11 := ne_N g11 q11
      have m12 := ne_N g12 q12
      have x12 := f12 _ _ (lk_top : lk ((N11.n 0, KB.cells [.slice none 0 0] 1) :: H11) (N11.n 0) = _)
      obtain ⟨HT, hHT⟩ : ∃ HT, HT = upH H12 (N11.n 0) (KB.cells [.slice (some ⟨bX, 0, none⟩) 14 cX] 1) := ⟨_, rfl⟩
      have bX_ := good_B g11 0
      have rbX := fun o n => rdB_none (o := o) (n := n) bX_
      have gT : good B HT N12 := by rw [hHT]; exact good_up g12 bX_ x12
      have n11 : (N.n 0 == N11.n 0) = false := m11 0
      have qT : lk HT (N.n 0) = some (.cells [.int .i64 1, .int .i64 1, .int .i64 1] 3) := by rw [hHT, lk_upH, n11, cond_false]; exact q12
      have xT : lk HT (N11.n 0) = some (.cells [.slice (some ⟨bX, 0, none⟩) 14 cX] 1) := by rw [hHT, lk_upH, beq_self_eq_true, cond_true]
      have s12 : SlM c2 2 B ((N11.n 0, .cells [.slice none 0 0] 1) :: H11) HT (.slice (some ⟨bX, 0, none⟩) 14 cX) xA := s12.mono fun y c e1 e2 => by
        rw [hHT, lk_upH, eqb (fun e => s12.ne lk_top (by rw [e1, e])), cond_false]; exact e2
      have fX : Fr HT HT := Fr.refl
      have f9T : Fr H9 HT := f10.trans (f11.trans (by rw [hHT]; exact fr_up (fA.trans f12) (lk_N g11 0)))
      simp -implicitDefEqProofs (maxSteps := 10000000) (disch := omega) only [TlA, LlA, GlA_lH, GlA_ref03New, GlA_ref05Writes, GlA_ref10Words, GlA_gL, GlA_gP, GlA_wlogPlace, VwlogPlace_eq, GlA_wlogSpot, VwlogSpot_eq, GlA_gU, GlA_gW, hB, hR, hI, e11, e12, q11, q11', q12, hg2, b0, rb0, m11, m12, n11, x12, bX_, rbX, good_B g11, good_rdB g11, good_B g12, good_rdB g12, bt, bf, all1, ress, res1, retV, Value.cells, reduceIte, reduceCtorEq, Int.reduceLT, Int.reduceLE, Int.reduceToNat, Int.reduceAdd, Int.reduceSub, Int.reduceMul, Int.reduceNeg, Nat.reduceMul, Nat.reduceAdd, Nat.reduceSub, Nat.reduceBEq, Nat.reduceEqDiff, Nat.reduceLT, Nat.reduceLeDiff, Int.reduceBEq, Int.reduceEq, Nat.reducePow, Int.reducePow, Int.reduceGT, Int.reduceGE, Int.reduceBNe, newsV_s, ev1, ev2, ev3, ev4]
      obtain ⟨vY, H14, N14, e14, g14, f14, s14⟩ := fWipe hT cf1 gT (s12.wh c2_len |>.mono fX) (q := 0) (by decide)
      rw [wE_A, wR_A] at *
      have sx := (s12.rd c2_len).mono (fX.trans f14)
      have sy := s14.rd c2_len
      obtain ⟨bY, cY, rY, rfl, _, _, _, _⟩ := slm_elim s14 (by decide)
      have e14 : VgW B [.agg #[.int .i64 1, .int .i64 1, .int .i64 1], .agg #[.slice (some ⟨bX, 0, none⟩) 14 cX], .int .i64 0] HT N12 = some (.ret (.tuple #[.agg #[.slice (some ⟨bY, 0, none⟩) 14 cY], .int .i64 0]), H14, N14) := e14
      have q14 := f14 _ _ qT
      have x14 := f14 _ _ xT
      have m14 := ne_N g14 q14
      have mx14 := ne_N g14 x14
      rw [hHT] at e14 qT xT
      have g15 : good B ((N14.n 0, .cells [.slice (some ⟨bY, 0, none⟩) 14 cY] 1) :: H14) (sh N14) := good_new g14
      have f15 : Fr H14 ((N14.n 0, .cells [.slice (some ⟨bY, 0, none⟩) 14 cY] 1) :: H14) := fr_new g14 Fr.refl 0
      have g16 : good B ((N14.n 1, .cells (fl w1 wA) 7) :: (N14.n 0, .cells [.slice (some ⟨bY, 0, none⟩) 14 cY] 1) :: H14) (sh (sh N14)) := good_new g15
      have f16 : Fr ((N14.n 0, .cells [.slice (some ⟨bY, 0, none⟩) 14 cY] 1) :: H14) ((N14.n 1, .cells (fl w1 wA) 7) :: (N14.n 0, .cells [.slice (some ⟨bY, 0, none⟩) 14 cY] 1) :: H14) := fr_new (N := sh N14) g15 Fr.refl 0
      have s16 : SlR w1 1 B ((N14.n 1, .cells (fl w1 wA) 7) :: (N14.n 0, .cells [.slice (some ⟨bY, 0, none⟩) 14 cY] 1) :: H14) (.slice (some ⟨N14.n 1, 0, none⟩) 7 7) wA := (slN_new (B := B) (N := sh N14) (f := w1) (sz := 1) g15 wA (cs := fl w1 wA) (n := 7) (m := 7) rfl rfl rfl).rd w1_len
      have e16 := sameref10Words g16 (w5.mono (f9T.trans (f14.trans (f15.trans f16)))) s16 (by decide)
      rw [decide_eq_true rfl] at e16
      have e16 : Vref10Words B [v5, .slice (some ⟨N14.n 1, 0, none⟩) 7 7] ((N14.n 1, .cells [.int .u64 1, .int .u64 13, .int .u64 5, .int .u64 0, .int .u64 0, .int .u64 0, .int .u64 0] 7) :: (N14.n 0, .cells [.slice (some ⟨bY, 0, none⟩) 14 cY] 1) :: H14) (sh (sh N14)) = some (.ret (.bool true), (N14.n 1, .cells [.int .u64 1, .int .u64 13, .int .u64 5, .int .u64 0, .int .u64 0, .int .u64 0, .int .u64 0] 7) :: (N14.n 0, .cells [.slice (some ⟨bY, 0, none⟩) 14 cY] 1) :: H14, sh (sh N14)) := e16
      obtain ⟨H16, hH16⟩ : ∃ H16, H16 = (N14.n 1, KB.cells (fl w1 wA) 7) :: (N14.n 0, .cells [.slice (some ⟨bY, 0, none⟩) 14 cY] 1) :: H14 := ⟨_, rfl⟩
      have g17 : good B ((N14.n 2, .cells (fl w2 [⟨13, 5⟩]) 2) :: H16) (sh (sh (sh N14))) := by rw [hH16]; exact good_new g16
      have f17 : Fr H16 ((N14.n 2, .cells (fl w2 [⟨13, 5⟩]) 2) :: H16) := by rw [hH16]; exact fr_new (N := sh (sh N14)) g16 Fr.refl 0
      have s17 : SlR w2 2 B ((N14.n 2, .cells (fl w2 [⟨13, 5⟩]) 2) :: H16) (.slice (some ⟨N14.n 2, 0, none⟩) 1 1) [⟨13, 5⟩] := by rw [hH16]; exact (slN_new (B := B) (N := sh (sh N14)) (f := w2) (sz := 2) g16 [⟨13, 5⟩] (cs := fl w2 [⟨13, 5⟩]) (n := 1) (m := 2) rfl rfl rfl).rd w2_len
      have fA : Fr H14 H16 := by rw [hH16]; exact f15.trans f16
      have e17 := sameref05Writes g17 ((s7.rd w2_len).mono (fr6.trans (fr8.trans (f9.trans (f9T.trans (f14.trans (fA.trans f17))))))) s17 (by decide)
      rw [decide_eq_true rfl, hH16] at e17
      have e17 : Vref05Writes B [v7, .slice (some ⟨N14.n 2, 0, none⟩) 1 1] ((N14.n 2, .cells [.int .i64 13, .int .u64 5] 2) :: (N14.n 1, .cells [.int .u64 1, .int .u64 13, .int .u64 5, .int .u64 0, .int .u64 0, .int .u64 0, .int .u64 0] 7) :: (N14.n 0, .cells [.slice (some ⟨bY, 0, none⟩) 14 cY] 1) :: H14) (sh (sh (sh N14))) = some (.ret (.bool true), (N14.n 2, .cells [.int .i64 13, .int .u64 5] 2) :: (N14.n 1, .cells [.int .u64 1, .int .u64 13, .int .u64 5, .int .u64 0, .int .u64 0, .int .u64 0, .int .u64 0] 7) :: (N14.n 0, .cells [.slice (some ⟨bY, 0, none⟩) 14 cY] 1) :: H14, sh (sh (sh N14))) := e17
      have rx := fun H' hf i hi => slr_at (sx.mono (fA.trans f17)) (by decide) H' hf i 0 1 z2 hi (by decide)
      have ry := fun H' hf i hi => slr_at (sy.mono (fA.trans f17)) (by decide) H' hf i 0 1 z2 hi (by decide)
      have rx13 := rx _ Fr.refl 13 (by decide)
      have rx6 := rx _ Fr.refl 6 (by decide)
      have ry13 := ry _ Fr.refl 13 (by decide)
      have ry6 := ry _ Fr.refl 6 (by decide)
      rw [show tk (c2 (xA.getD 13 z2)) 0 1 = some [.int .u64 5] from rfl, show (0 + 13 * 2 + 0) = 26 from rfl, hH16] at rx13
      rw [show tk (c2 (xA.getD 6 z2)) 0 1 = some [.int .u64 1] from rfl, show (0 + 6 * 2 + 0) = 12 from rfl, hH16] at rx6
      rw [show tk (c2 (yA.getD 13 z2)) 0 1 = some [.int .u64 5] from rfl, show (0 + 13 * 2 + 0) = 26 from rfl, hH16] at ry13
      rw [show tk (c2 (yA.getD 6 z2)) 0 1 = some [.int .u64 0] from rfl, show (0 + 6 * 2 + 0) = 12 from rfl, hH16] at ry6
      have rx13 : rdO ((N14.n 2, .cells [.int .i64 13, .int .u64 5] 2) :: (N14.n 1, .cells [.int .u64 1, .int .u64 13, .int .u64 5, .int .u64 0, .int .u64 0, .int .u64 0, .int .u64 0] 7) :: (N14.n 0, .cells [.slice (some ⟨bY, 0, none⟩) 14 cY] 1) :: H14) B bX 26 1 (rdB B bX 26 1) = some [.int .u64 5] := rx13
      have rx6 : rdO ((N14.n 2, .cells [.int .i64 13, .int .u64 5] 2) :: (N14.n 1, .cells [.int .u64 1, .int .u64 13, .int .u64 5, .int .u64 0, .int .u64 0, .int .u64 0, .int .u64 0] 7) :: (N14.n 0, .cells [.slice (some ⟨bY, 0, none⟩) 14 cY] 1) :: H14) B bX 12 1 (rdB B bX 12 1) = some [.int .u64 1] := rx6
      have ry13 : rdO ((N14.n 2, .cells [.int .i64 13, .int .u64 5] 2) :: (N14.n 1, .cells [.int .u64 1, .int .u64 13, .int .u64 5, .int .u64 0, .int .u64 0, .int .u64 0, .int .u64 0] 7) :: (N14.n 0, .cells [.slice (some ⟨bY, 0, none⟩) 14 cY] 1) :: H14) B bY 26 1 (rdB B bY 26 1) = some [.int .u64 5] := ry13
      have ry6 : rdO ((N14.n 2, .cells [.int .i64 13, .int .u64 5] 2) :: (N14.n 1, .cells [.int .u64 1, .int .u64 13, .int .u64 5, .int .u64 0, .int .u64 0, .int .u64 0, .int .u64 0] 7) :: (N14.n 0, .cells [.slice (some ⟨bY, 0, none⟩) 14 cY] 1) :: H14) B bY 12 1 (rdB B bY 12 1) = some [.int .u64 0] := ry6
      have by14 := good_B g14 0
      have hI14 := beqN g14.1.1
      simp -implicitDefEqProofs (maxSteps := 10000000) (disch := omega) only [TlA, LlA, GlA_lH, GlA_ref03New, GlA_ref05Writes, GlA_ref10Words, GlA_gL, GlA_gP, GlA_wlogPlace, VwlogPlace_eq, GlA_wlogSpot, VwlogSpot_eq, GlA_gU, GlA_gW, hB, hR, hI, e14, e16, e17, eP, qT, q14, xT, x14, b0, rb0, bX_, rbX, m14, mx14, good_B g14, good_rdB g14, bne_self_eq_false, rx13, rx6, ry13, ry6, by14, hI14, bt, bf, all1, ress, res1, retV, Value.cells, reduceIte, reduceCtorEq, Int.reduceLT, Int.reduceLE, Int.reduceToNat, Int.reduceAdd, Int.reduceSub, Int.reduceMul, Int.reduceNeg, Nat.reduceMul, Nat.reduceAdd, Nat.reduceSub, Nat.reduceBEq, Nat.reduceEqDiff, Nat.reduceLT, Nat.reduceLeDiff, Int.reduceBEq, Int.reduceEq, Nat.reducePow, Int.reducePow, Int.reduceGT, Int.reduceGE, Int.reduceBNe, newsV_s, ev1, ev2, ev3, ev4]
      rw [hH16] at g17 f17
      exact ⟨_, _, rfl, g17, fr2.trans (fr4.trans (fr6.trans (fr8.trans (f9.trans (f9T.trans (f14.trans (f15.trans (f16.trans f17))))))))⟩
  | false =>
      have gA : good B ((N9.n 1, .cells [.slice none 0 0] 1) :: (N9.n 0, .cells [.slice (some ⟨b13, 0, none⟩) 14 c13] 1) :: H9) (sh (shg (sh N9))) := good_new (gg g10)
      have fA : Fr ((N9.n 0, .cells [.slice (some ⟨b13, 0, none⟩) 14 c13] 1) :: H9) ((N9.n 1, .cells [.slice none 0 0] 1) :: (N9.n 0, .cells [.slice (some ⟨b13, 0, none⟩) 14 c13] 1) :: H9) := fr_new (gg g10) Fr.refl 0
      obtain ⟨vM, H11, N11, e11, g11, f11, s11⟩ := fWith (q := 0) cf1 gA ((s13.toM.wh c2_len).mono (f10.trans fA)) (w5.mono (f10.trans fA)) rfl (by decide)
      have e11 : VlH B [.agg #[.int .i64 1, .int .i64 1, .int .i64 1], .agg #[.slice (some ⟨b13, 0, none⟩) 14 c13], .int .i64 0, v5] ((N9.n 1, .cells [.slice none 0 0] 1) :: (N9.n 0, .cells [.slice (some ⟨b13, 0, none⟩) 14 c13] 1) :: H9) (sh (shg (sh N9))) = some (.ret (.agg #[vM]), H11, N11) := e11
      have s11 : SlM c2 2 B _ H11 vM mA := s11
      have q10' := fA _ _ q10
      have q11 := f11 _ _ q10'
      obtain ⟨vX, H12, N12, e12, g12, f12, s12⟩ := fLay hT cf1 g11 (s11.wh c2_len) (by decide) mA_s (q := 0)
      rw [lE_A, lR_A] at *
      have s12 : SlM c2 2 B H11 H12 vX xA := s12
      obtain ⟨bX, cX, rX, rfl, _, hXn, _, _⟩ := slm_elim s12 (by decide)
      have e12 : VgL B [.agg #[.int .i64 1, .int .i64 1, .int .i64 1], .agg #[vM], .int .i64 0] H11 N11 = some (.ret (.tuple #[.agg #[.slice (some ⟨bX, 0, none⟩) 14 cX], .int .i64 0]), H12, N12) := e12
      have q12 := f12 _ _ q11
      have m11 := ne_N g11 q11
      have m12 := ne_N g12 q12
      have x11 := f11 _ _ (lk_top : lk ((N9.n 1, KB.cells [.slice none 0 0] 1) :: (N9.n 0, .cells [.slice (some ⟨b13, 0, none⟩) 14 c13] 1) :: H9) (N9.n 1) = _)
      have x12 := f12 _ _ x11
      obtain ⟨HT, hHT⟩ : ∃ HT, HT = upH H12 (N9.n 1) (KB.cells [.slice (some ⟨bX, 0, none⟩) 14 cX] 1) := ⟨_, rfl⟩
      have bX_ := good_B g9 1
      have rbX := fun o n => rdB_none (o := o) (n := n) bX_
      have gT : good B HT N12 := by rw [hHT]; exact good_up g12 bX_ x12
      have n11 : (N.n 0 == N9.n 1) = false := m9 1
      have qT : lk HT (N.n 0) = some (.cells [.int .i64 1, .int .i64 1, .int .i64 1] 3) := by rw [hHT, lk_upH, n11, cond_false]; exact q12
      have xT : lk HT (N9.n 1) = some (.cells [.slice (some ⟨bX, 0, none⟩) 14 cX] 1) := by rw [hHT, lk_upH, beq_self_eq_true, cond_true]
      have s12 : SlM c2 2 B H11 HT (.slice (some ⟨bX, 0, none⟩) 14 cX) xA := s12.mono fun y c e1 e2 => by
        rw [hHT, lk_upH, eqb (fun e => s12.ne x11 (by rw [e1, e])), cond_false]; exact e2
      have fX : Fr HT HT := Fr.refl
      have f9T : Fr H9 HT := by rw [hHT]; exact fr_up ((f10.trans fA).trans (f11.trans f12)) (lk_N g9 1)
      simp -implicitDefEqProofs (maxSteps := 10000000) (disch := omega) only [TlA, LlA, GlA_lH, GlA_ref03New, GlA_ref05Writes, GlA_ref10Words, GlA_gL, GlA_gP, GlA_wlogPlace, VwlogPlace_eq, GlA_wlogSpot, VwlogSpot_eq, GlA_gU, GlA_gW, hB, hR, hI, hg, e11, e12, q10, q10', q11, q12, b0, rb0, m9, m11, m12, n11, x11, x12, bX_, rbX, good_B g11, good_rdB g11, good_B g12, good_rdB g12, good_B g9, good_rdB g9, beqN g9.1.1, bt, bf, all1, ress, res1, retV, Value.cells, reduceIte, reduceCtorEq, Int.reduceLT, Int.reduceLE, Int.reduceToNat, Int.reduceAdd, Int.reduceSub, Int.reduceMul, Int.reduceNeg, Nat.reduceMul, Nat.reduceAdd, Nat.reduceSub, Nat.reduceBEq, Nat.reduceEqDiff, Nat.reduceLT, Nat.reduceLeDiff, Int.reduceBEq, Int.reduceEq, Nat.reducePow, Int.reducePow, Int.reduceGT, Int.reduceGE, Int.reduceBNe, newsV_s, ev1, ev2, ev3, ev4]
      obtain ⟨vY, H14, N14, e14, g14, f14, s14⟩ := fWipe hT cf1 gT (s12.wh c2_len |>.mono fX) (q := 0) (by decide)
      rw [wE_A, wR_A] at *
      have sx := (s12.rd c2_len).mono (fX.trans f14)
      have sy := s14.rd c2_len
      obtain ⟨bY, cY, rY, rfl, _, _, _, _⟩ := slm_elim s14 (by decide)
      have e14 : VgW B [.agg #[.int .i64 1, .int .i64 1, .int .i64 1], .agg #[.slice (some ⟨bX, 0, none⟩) 14 cX], .int .i64 0] HT N12 = some (.ret (.tuple #[.agg #[.slice (some ⟨bY, 0, none⟩) 14 cY], .int .i64 0]), H14, N14) := e14
      have q14 := f14 _ _ qT
      have x14 := f14 _ _ xT
      have m14 := ne_N g14 q14
      have mx14 := ne_N g14 x14
      rw [hHT] at e14 qT xT
      have g15 : good B ((N14.n 0, .cells [.slice (some ⟨bY, 0, none⟩) 14 cY] 1) :: H14) (sh N14) := good_new g14
      have f15 : Fr H14 ((N14.n 0, .cells [.slice (some ⟨bY, 0, none⟩) 14 cY] 1) :: H14) := fr_new g14 Fr.refl 0
      have g16 : good B ((N14.n 1, .cells (fl w1 wA) 7) :: (N14.n 0, .cells [.slice (some ⟨bY, 0, none⟩) 14 cY] 1) :: H14) (sh (sh N14)) := good_new g15
      have f16 : Fr ((N14.n 0, .cells [.slice (some ⟨bY, 0, none⟩) 14 cY] 1) :: H14) ((N14.n 1, .cells (fl w1 wA) 7) :: (N14.n 0, .cells [.slice (some ⟨bY, 0, none⟩) 14 cY] 1) :: H14) := fr_new (N := sh N14) g15 Fr.refl 0
      have s16 : SlR w1 1 B ((N14.n 1, .cells (fl w1 wA) 7) :: (N14.n 0, .cells [.slice (some ⟨bY, 0, none⟩) 14 cY] 1) :: H14) (.slice (some ⟨N14.n 1, 0, none⟩) 7 7) wA := (slN_new (B := B) (N := sh N14) (f := w1) (sz := 1) g15 wA (cs := fl w1 wA) (n := 7) (m := 7) rfl rfl rfl).rd w1_len
      have e16 := sameref10Words g16 (w5.mono (f9T.trans (f14.trans (f15.trans f16)))) s16 (by decide)
      rw [decide_eq_true rfl] at e16
      have e16 : Vref10Words B [v5, .slice (some ⟨N14.n 1, 0, none⟩) 7 7] ((N14.n 1, .cells [.int .u64 1, .int .u64 13, .int .u64 5, .int .u64 0, .int .u64 0, .int .u64 0, .int .u64 0] 7) :: (N14.n 0, .cells [.slice (some ⟨bY, 0, none⟩) 14 cY] 1) :: H14) (sh (sh N14)) = some (.ret (.bool true), (N14.n 1, .cells [.int .u64 1, .int .u64 13, .int .u64 5, .int .u64 0, .int .u64 0, .int .u64 0, .int .u64 0] 7) :: (N14.n 0, .cells [.slice (some ⟨bY, 0, none⟩) 14 cY] 1) :: H14, sh (sh N14)) := e16
      obtain ⟨H16, hH16⟩ : ∃ H16, H16 = (N14.n 1, KB.cells (fl w1 wA) 7) :: (N14.n 0, .cells [.slice (some ⟨bY, 0, none⟩) 14 cY] 1) :: H14 := ⟨_, rfl⟩
      have g17 : good B ((N14.n 2, .cells (fl w2 [⟨13, 5⟩]) 2) :: H16) (sh (sh (sh N14))) := by rw [hH16]; exact good_new g16
      have f17 : Fr H16 ((N14.n 2, .cells (fl w2 [⟨13, 5⟩]) 2) :: H16) := by rw [hH16]; exact fr_new (N := sh (sh N14)) g16 Fr.refl 0
      have s17 : SlR w2 2 B ((N14.n 2, .cells (fl w2 [⟨13, 5⟩]) 2) :: H16) (.slice (some ⟨N14.n 2, 0, none⟩) 1 1) [⟨13, 5⟩] := by rw [hH16]; exact (slN_new (B := B) (N := sh (sh N14)) (f := w2) (sz := 2) g16 [⟨13, 5⟩] (cs := fl w2 [⟨13, 5⟩]) (n := 1) (m := 2) rfl rfl rfl).rd w2_len
      have fA : Fr H14 H16 := by rw [hH16]; exact f15.trans f16
      have e17 := sameref05Writes g17 ((s7.rd w2_len).mono (fr6.trans (fr8.trans (f9.trans (f9T.trans (f14.trans (fA.trans f17))))))) s17 (by decide)
      rw [decide_eq_true rfl, hH16] at e17
      have e17 : Vref05Writes B [v7, .slice (some ⟨N14.n 2, 0, none⟩) 1 1] ((N14.n 2, .cells [.int .i64 13, .int .u64 5] 2) :: (N14.n 1, .cells [.int .u64 1, .int .u64 13, .int .u64 5, .int .u64 0, .int .u64 0, .int .u64 0, .int .u64 0] 7) :: (N14.n 0, .cells [.slice (some ⟨bY, 0, none⟩) 14 cY] 1) :: H14) (sh (sh (sh N14))) = some (.ret (.bool true), (N14.n 2, .cells [.int .i64 13, .int .u64 5] 2) :: (N14.n 1, .cells [.int .u64 1, .int .u64 13, .int .u64 5, .int .u64 0, .int .u64 0, .int .u64 0, .int .u64 0] 7) :: (N14.n 0, .cells [.slice (some ⟨bY, 0, none⟩) 14 cY] 1) :: H14, sh (sh (sh N14))) := e17
      have rx := fun H' hf i hi => slr_at (sx.mono (fA.trans f17)) (by decide) H' hf i 0 1 z2 hi (by decide)
      have ry := fun H' hf i hi => slr_at (sy.mono (fA.trans f17)) (by decide) H' hf i 0 1 z2 hi (by decide)
      have rx13 := rx _ Fr.refl 13 (by decide)
      have rx6 := rx _ Fr.refl 6 (by decide)
      have ry13 := ry _ Fr.refl 13 (by decide)
      have ry6 := ry _ Fr.refl 6 (by decide)
      rw [show tk (c2 (xA.getD 13 z2)) 0 1 = some [.int .u64 5] from rfl, show (0 + 13 * 2 + 0) = 26 from rfl, hH16] at rx13
      rw [show tk (c2 (xA.getD 6 z2)) 0 1 = some [.int .u64 1] from rfl, show (0 + 6 * 2 + 0) = 12 from rfl, hH16] at rx6
      rw [show tk (c2 (yA.getD 13 z2)) 0 1 = some [.int .u64 5] from rfl, show (0 + 13 * 2 + 0) = 26 from rfl, hH16] at ry13
      rw [show tk (c2 (yA.getD 6 z2)) 0 1 = some [.int .u64 0] from rfl, show (0 + 6 * 2 + 0) = 12 from rfl, hH16] at ry6
      have rx13 : rdO ((N14.n 2, .cells [.int .i64 13, .int .u64 5] 2) :: (N14.n 1, .cells [.int .u64 1, .int .u64 13, .int .u64 5, .int .u64 0, .int .u64 0, .int .u64 0, .int .u64 0] 7) :: (N14.n 0, .cells [.slice (some ⟨bY, 0, none⟩) 14 cY] 1) :: H14) B bX 26 1 (rdB B bX 26 1) = some [.int .u64 5] := rx13
      have rx6 : rdO ((N14.n 2, .cells [.int .i64 13, .int .u64 5] 2) :: (N14.n 1, .cells [.int .u64 1, .int .u64 13, .int .u64 5, .int .u64 0, .int .u64 0, .int .u64 0, .int .u64 0] 7) :: (N14.n 0, .cells [.slice (some ⟨bY, 0, none⟩) 14 cY] 1) :: H14) B bX 12 1 (rdB B bX 12 1) = some [.int .u64 1] := rx6
      have ry13 : rdO ((N14.n 2, .cells [.int .i64 13, .int .u64 5] 2) :: (N14.n 1, .cells [.int .u64 1, .int .u64 13, .int .u64 5, .int .u64 0, .int .u64 0, .int .u64 0, .int .u64 0] 7) :: (N14.n 0, .cells [.slice (some ⟨bY, 0, none⟩) 14 cY] 1) :: H14) B bY 26 1 (rdB B bY 26 1) = some [.int .u64 5] := ry13
      have ry6 : rdO ((N14.n 2, .cells [.int .i64 13, .int .u64 5] 2) :: (N14.n 1, .cells [.int .u64 1, .int .u64 13, .int .u64 5, .int .u64 0, .int .u64 0, .int .u64 0, .int .u64 0] 7) :: (N14.n 0, .cells [.slice (some ⟨bY, 0, none⟩) 14 cY] 1) :: H14) B bY 12 1 (rdB B bY 12 1) = some [.int .u64 0] := ry6
      have by14 := good_B g14 0
      have hI14 := beqN g14.1.1
      simp -implicitDefEqProofs (maxSteps := 10000000) (disch := omega) only [TlA, LlA, GlA_lH, GlA_ref03New, GlA_ref05Writes, GlA_ref10Words, GlA_gL, GlA_gP, GlA_wlogPlace, VwlogPlace_eq, GlA_wlogSpot, VwlogSpot_eq, GlA_gU, GlA_gW, hB, hR, hI, e14, e16, e17, eP, qT, q14, xT, x14, b0, rb0, bX_, rbX, m14, mx14, good_B g14, good_rdB g14, bne_self_eq_false, rx13, rx6, ry13, ry6, by14, hI14, bt, bf, all1, ress, res1, retV, Value.cells, reduceIte, reduceCtorEq, Int.reduceLT, Int.reduceLE, Int.reduceToNat, Int.reduceAdd, Int.reduceSub, Int.reduceMul, Int.reduceNeg, Nat.reduceMul, Nat.reduceAdd, Nat.reduceSub, Nat.reduceBEq, Nat.reduceEqDiff, Nat.reduceLT, Nat.reduceLeDiff, Int.reduceBEq, Int.reduceEq, Nat.reducePow, Int.reducePow, Int.reduceGT, Int.reduceGE, Int.reduceBNe, newsV_s, ev1, ev2, ev3, ev4]
      rw [hH16] at g17 f17
      exact ⟨_, _, rfl, g17, fr2.trans (fr4.trans (fr6.trans (fr8.trans (f9.trans (f9T.trans (f14.trans (f15.trans (f16.trans f17))))))))⟩
end Go.Proofs.YtfhiplfagejfoaaDoor
namespace Go.Proofs.YtfhiplfagejfoaaDoor
open Go.Proofs.YtfhiplfagejfoaaDoor.K Go.ChangeShapes Go.WideShapes Go.ChangeAt Go.RowKit
set_option maxRecDepth 100000
set_option linter.unusedSimpArgs false
set_option linter.unusedVariables false
theorem keys_of : ∀ (L : List (List Lit)), (∀ m ∈ L, OKs [.int .u64] m) → ∃ K : List Int, K.length = L.length ∧ fl (fun m => m.map litV) L = fl w1 K ∧ U64s K
  | [], _ => ⟨[], rfl, rfl, by unfold U64s; simp⟩
  | x :: L, h => by
    obtain ⟨K, h1, h2, h3⟩ := keys_of L fun m hm => h m (List.mem_cons_of_mem _ hm)
    have k0 := h x List.mem_cons_self
    obtain ⟨a0, m1, rfl, w0, k1⟩ := k0.int
    have b0 := u64_wf' w0
    obtain rfl := k1.none
    refine ⟨a0 :: K, by simp [h1], ?_, fun y hy => ?_⟩
    · simp only [fl, h2]; rfl
    · rcases List.mem_cons.1 hy with rfl | hy
      · exact b0
      · exact h3 y hy
theorem keys_open {W : World} {v : Value} (h : v = .slice none 0 0 ∨ (∃ a cap, v = .slice (some a) 0 cap) ∨ ∃ (b o cap : Nat) (L : List (List Lit)), v = .slice (some ⟨b, o, none⟩) L.length cap ∧ 0 < L.length ∧ L.length ≤ cap ∧ cap ≤ maxLen ∧ (∀ m ∈ L, OKs [.int .u64] m) ∧
      ∀ m, m ≤ L.length → rdB (startB W) b o (m * [LK.int .u64].length) = some (fl (fun m => m.map litV) (L.take m))) : ∃ K : List Int, SlC w1 1 (startB W) v K ∧ U64s K := by
  rcases h with rfl | ⟨a, cap, rfl⟩ | ⟨b, o, cap, L, rfl, h1, h2, h3, h4, h5⟩
  · exact ⟨[], ⟨none, 0, rfl, Nat.le_refl _, .inl rfl⟩, by unfold U64s; simp⟩
  · exact ⟨[], ⟨some a, cap, rfl, Nat.zero_le _, .inl rfl⟩, by unfold U64s; simp⟩
  · obtain ⟨K, e1, e2, e3⟩ := keys_of L h4
    have h6 := h5 L.length (Nat.le_refl _)
    rw [List.take_length, e2] at h6
    refine ⟨K, ⟨some ⟨b, o, none⟩, cap, by rw [e1], by rw [e1]; exact h2, .inr ⟨b, o, rfl, ?_⟩⟩, e3⟩
    rw [e1]; exact h6
theorem two_of : ∀ (L : List (List Lit)), (∀ m ∈ L, OKs [.int .i64, .int .i64] m) → ∃ K : List Q2, K.length = L.length ∧ fl (fun m => m.map litV) L = fl q2 K ∧ Q2s K
  | [], _ => ⟨[], rfl, rfl, by unfold Q2s; simp⟩
  | x :: L, h => by
    obtain ⟨K, h1, h2, h3⟩ := two_of L fun m hm => h m (List.mem_cons_of_mem _ hm)
    have k0 := h x List.mem_cons_self
    obtain ⟨a0, m1, rfl, w0, k1⟩ := k0.int
    have b0 := i64_wf w0
    obtain ⟨a1, m2, rfl, w1, k2⟩ := k1.int
    have b1 := i64_wf w1
    obtain rfl := k2.none
    refine ⟨⟨a0, a1⟩ :: K, by simp [h1], ?_, fun y hy => ?_⟩
    · simp only [fl, h2]; rfl
    · rcases List.mem_cons.1 hy with rfl | hy
      · exact ⟨b0, b1⟩
      · exact h3 y hy
theorem two_open {W : World} {v : Value} (h : v = .slice none 0 0 ∨ (∃ a cap, v = .slice (some a) 0 cap) ∨ ∃ (b o cap : Nat) (L : List (List Lit)), v = .slice (some ⟨b, o, none⟩) L.length cap ∧ 0 < L.length ∧ L.length ≤ cap ∧ cap ≤ maxLen ∧ (∀ m ∈ L, OKs [.int .i64, .int .i64] m) ∧
      ∀ m, m ≤ L.length → rdB (startB W) b o (m * [LK.int .i64, LK.int .i64].length) = some (fl (fun m => m.map litV) (L.take m))) : ∃ K : List Q2, SlC q2 2 (startB W) v K ∧ Q2s K := by
  rcases h with rfl | ⟨a, cap, rfl⟩ | ⟨b, o, cap, L, rfl, h1, h2, h3, h4, h5⟩
  · exact ⟨[], ⟨none, 0, rfl, Nat.le_refl _, .inl rfl⟩, by unfold Q2s; simp⟩
  · exact ⟨[], ⟨some a, cap, rfl, Nat.zero_le _, .inl rfl⟩, by unfold Q2s; simp⟩
  · obtain ⟨K, e1, e2, e3⟩ := two_of L h4
    have h6 := h5 L.length (Nat.le_refl _)
    rw [List.take_length, e2] at h6
    refine ⟨K, ⟨some ⟨b, o, none⟩, cap, by rw [e1], by rw [e1]; exact h2, .inr ⟨b, o, rfl, ?_⟩⟩, e3⟩
    rw [e1]; exact h6
theorem three_of : ∀ (L : List (List Lit)), (∀ m ∈ L, OKs [.int .i64, .int .i64, .int .i64] m) → ∃ K : List Q3, K.length = L.length ∧ fl (fun m => m.map litV) L = fl q3 K ∧ Q3s K
  | [], _ => ⟨[], rfl, rfl, by unfold Q3s; simp⟩
  | x :: L, h => by
    obtain ⟨K, h1, h2, h3⟩ := three_of L fun m hm => h m (List.mem_cons_of_mem _ hm)
    have k0 := h x List.mem_cons_self
    obtain ⟨a0, m1, rfl, w0, k1⟩ := k0.int
    have b0 := i64_wf w0
    obtain ⟨a1, m2, rfl, w1, k2⟩ := k1.int
    have b1 := i64_wf w1
    obtain ⟨a2, m3, rfl, w2, k3⟩ := k2.int
    have b2 := i64_wf w2
    obtain rfl := k3.none
    refine ⟨⟨a0, a1, a2⟩ :: K, by simp [h1], ?_, fun y hy => ?_⟩
    · simp only [fl, h2]; rfl
    · rcases List.mem_cons.1 hy with rfl | hy
      · exact ⟨b0, b1, b2⟩
      · exact h3 y hy
theorem three_open {W : World} {v : Value} (h : v = .slice none 0 0 ∨ (∃ a cap, v = .slice (some a) 0 cap) ∨ ∃ (b o cap : Nat) (L : List (List Lit)), v = .slice (some ⟨b, o, none⟩) L.length cap ∧ 0 < L.length ∧ L.length ≤ cap ∧ cap ≤ maxLen ∧ (∀ m ∈ L, OKs [.int .i64, .int .i64, .int .i64] m) ∧
      ∀ m, m ≤ L.length → rdB (startB W) b o (m * [LK.int .i64, LK.int .i64, LK.int .i64].length) = some (fl (fun m => m.map litV) (L.take m))) : ∃ K : List Q3, SlC q3 3 (startB W) v K ∧ Q3s K := by
  rcases h with rfl | ⟨a, cap, rfl⟩ | ⟨b, o, cap, L, rfl, h1, h2, h3, h4, h5⟩
  · exact ⟨[], ⟨none, 0, rfl, Nat.le_refl _, .inl rfl⟩, by unfold Q3s; simp⟩
  · exact ⟨[], ⟨some a, cap, rfl, Nat.zero_le _, .inl rfl⟩, by unfold Q3s; simp⟩
  · obtain ⟨K, e1, e2, e3⟩ := three_of L h4
    have h6 := h5 L.length (Nat.le_refl _)
    rw [List.take_length, e2] at h6
    refine ⟨K, ⟨some ⟨b, o, none⟩, cap, by rw [e1], by rw [e1]; exact h2, .inr ⟨b, o, rfl, ?_⟩⟩, e3⟩
    rw [e1]; exact h6
theorem wrs_of : ∀ (L : List (List Lit)), (∀ m ∈ L, OKs [.int .i64, .int .u64] m) → ∃ K : List W2, K.length = L.length ∧ fl (fun m => m.map litV) L = fl w2 K ∧ W2s K
  | [], _ => ⟨[], rfl, rfl, by unfold W2s; simp⟩
  | x :: L, h => by
    obtain ⟨K, h1, h2, h3⟩ := wrs_of L fun m hm => h m (List.mem_cons_of_mem _ hm)
    have k0 := h x List.mem_cons_self
    obtain ⟨a0, m1, rfl, w0, k1⟩ := k0.int
    have b0 := i64_wf w0
    obtain ⟨a1, m2, rfl, w1, k2⟩ := k1.int
    have b1 := u64_wf' w1
    obtain rfl := k2.none
    refine ⟨⟨a0, a1⟩ :: K, by simp [h1], ?_, fun y hy => ?_⟩
    · simp only [fl, h2]; rfl
    · rcases List.mem_cons.1 hy with rfl | hy
      · exact ⟨b0, b1⟩
      · exact h3 y hy
theorem wrs_open {W : World} {v : Value} (h : v = .slice none 0 0 ∨ (∃ a cap, v = .slice (some a) 0 cap) ∨ ∃ (b o cap : Nat) (L : List (List Lit)), v = .slice (some ⟨b, o, none⟩) L.length cap ∧ 0 < L.length ∧ L.length ≤ cap ∧ cap ≤ maxLen ∧ (∀ m ∈ L, OKs [.int .i64, .int .u64] m) ∧
      ∀ m, m ≤ L.length → rdB (startB W) b o (m * [LK.int .i64, LK.int .u64].length) = some (fl (fun m => m.map litV) (L.take m))) : ∃ K : List W2, SlC w2 2 (startB W) v K ∧ W2s K := by
  rcases h with rfl | ⟨a, cap, rfl⟩ | ⟨b, o, cap, L, rfl, h1, h2, h3, h4, h5⟩
  · exact ⟨[], ⟨none, 0, rfl, Nat.le_refl _, .inl rfl⟩, by unfold W2s; simp⟩
  · exact ⟨[], ⟨some a, cap, rfl, Nat.zero_le _, .inl rfl⟩, by unfold W2s; simp⟩
  · obtain ⟨K, e1, e2, e3⟩ := wrs_of L h4
    have h6 := h5 L.length (Nat.le_refl _)
    rw [List.take_length, e2] at h6
    refine ⟨K, ⟨some ⟨b, o, none⟩, cap, by rw [e1], by rw [e1]; exact h2, .inr ⟨b, o, rfl, ?_⟩⟩, e3⟩
    rw [e1]; exact h6
theorem cls_of : ∀ (L : List (List Lit)), (∀ m ∈ L, OKs [.int .u64, .int .i64] m) → ∃ K : List C2, K.length = L.length ∧ fl (fun m => m.map litV) L = fl c2 K ∧ C2s K
  | [], _ => ⟨[], rfl, rfl, by unfold C2s; simp⟩
  | x :: L, h => by
    obtain ⟨K, h1, h2, h3⟩ := cls_of L fun m hm => h m (List.mem_cons_of_mem _ hm)
    have k0 := h x List.mem_cons_self
    obtain ⟨a0, m1, rfl, w0, k1⟩ := k0.int
    have b0 := u64_wf' w0
    obtain ⟨a1, m2, rfl, w1, k2⟩ := k1.int
    have b1 := i64_wf w1
    obtain rfl := k2.none
    refine ⟨⟨a0, a1⟩ :: K, by simp [h1], ?_, fun y hy => ?_⟩
    · simp only [fl, h2]; rfl
    · rcases List.mem_cons.1 hy with rfl | hy
      · exact ⟨b0, b1⟩
      · exact h3 y hy
theorem cls_open {W : World} {v : Value} (h : v = .slice none 0 0 ∨ (∃ a cap, v = .slice (some a) 0 cap) ∨ ∃ (b o cap : Nat) (L : List (List Lit)), v = .slice (some ⟨b, o, none⟩) L.length cap ∧ 0 < L.length ∧ L.length ≤ cap ∧ cap ≤ maxLen ∧ (∀ m ∈ L, OKs [.int .u64, .int .i64] m) ∧
      ∀ m, m ≤ L.length → rdB (startB W) b o (m * [LK.int .u64, LK.int .i64].length) = some (fl (fun m => m.map litV) (L.take m))) : ∃ K : List C2, SlC c2 2 (startB W) v K ∧ C2s K := by
  rcases h with rfl | ⟨a, cap, rfl⟩ | ⟨b, o, cap, L, rfl, h1, h2, h3, h4, h5⟩
  · exact ⟨[], ⟨none, 0, rfl, Nat.le_refl _, .inl rfl⟩, by unfold C2s; simp⟩
  · exact ⟨[], ⟨some a, cap, rfl, Nat.zero_le _, .inl rfl⟩, by unfold C2s; simp⟩
  · obtain ⟨K, e1, e2, e3⟩ := cls_of L h4
    have h6 := h5 L.length (Nat.le_refl _)
    rw [List.take_length, e2] at h6
    refine ⟨K, ⟨some ⟨b, o, none⟩, cap, by rw [e1], by rw [e1]; exact h2, .inr ⟨b, o, rfl, ?_⟩⟩, e3⟩
    rw [e1]; exact h6
end Go.Proofs.YtfhiplfagejfoaaDoor
namespace Go.Proofs.YtfhiplfagejfoaaDoor.K
open Go.ChangeShapes Go.WideShapes Go.ChangeAt Go.RowKit
section
variable {P : Program} {W : World} {H : Type} {enc : TypeId × Value → H} {sp : Nat → Bool} {held : Bool}
theorem open_flatsC {t e : TypeId} {v : Value} {d : DataW H} {ps : List MemPlace} {ls : List LK} (n : Nat) (ht : P.underlying t = some (.slice e)) (hl : leafs P n e = some ls) (hc : P.cellsOf e = ls.length) (hpos : 0 < ls.length)
    (hone : v.cells.toList = [v]) (hd : DataW.Trod enc P W 0 sp held t v d ps) :
    v = .slice none 0 0 ∨ (∃ a cap, v = .slice (some a) 0 cap) ∨ ∃ (b o cap : Nat) (L : List (List Lit)), v = .slice (some ⟨b, o, none⟩) L.length cap ∧ 0 < L.length ∧ L.length ≤ cap ∧ cap ≤ maxLen ∧ (∀ m ∈ L, OKs ls m) ∧
      ∀ m, m ≤ L.length → rdB (startB W) b o (m * ls.length) = some (fl (fun m => m.map litV) (L.take m)) := by
  obtain ⟨fuel, hf⟩ := hd
  rw [hone] at hf
  rcases Deep.open_slice ht hf with ⟨h, _⟩ | ⟨a, len, cap, m, n', D, Pl, h, _, hle, hcap, hm, _, hx⟩
  · left; simpa using h
  · right
    have hv : v = .slice (some a) len cap := by simpa using h
    by_cases h0 : len = 0
    · left; subst h0; exact ⟨a, cap, hv⟩
    · right
      have hlm : len ≤ m := by rw [hm]; split <;> omega
      have hall : ∀ i, i < len → ∃ l : List Lit, OKs ls l ∧ ∀ j, j < ls.length → W.cell? (a.add (i * ls.length + j)) = (l.map litV)[j]? := by
        intro i hi
        obtain ⟨cs', h1, h2⟩ := hx i (by omega)
        obtain ⟨g1, g2, _⟩ := (trod_flat n).1 _ _ _ _ _ hl h2
        obtain ⟨_, _, hcell⟩ := World.cells?_some h1
        refine ⟨flatL (D i), g2, fun j hj => ?_⟩
        rw [← Deep.add_add, ← hc, hcell j (by omega), g1]
      haveI : Inhabited (List Lit) := ⟨[]⟩
      obtain ⟨f, hfam⟩ := Deep.choose_lt hall
      obtain ⟨b, o, s⟩ := a
      have hcell0 := (hfam 0 (by omega)).2 0 hpos
      have hlen0 : ((f 0).map litV).length = ls.length := by rw [List.length_map]; exact ((hfam 0 (by omega)).1.length).symm
      obtain ⟨v0, hv0⟩ : ∃ v0, ((f 0).map litV)[0]? = some v0 := ⟨_, List.getElem?_eq_getElem (by omega)⟩
      rw [hv0] at hcell0
      simp only [Nat.zero_mul, Nat.add_zero] at hcell0
      rw [Addr.add_zero'] at hcell0
      have hs : s = none := by
        cases s with
        | none => rfl
        | some x =>
          unfold World.cell? at hcell0
          simp only at hcell0
          split at hcell0 <;> simp at hcell0
      subst hs
      obtain ⟨arr, ety, fr, hb⟩ : ∃ arr ety fr, W.heap[b]? = some (.cells arr ety fr) := by
        unfold World.cell? at hcell0
        simp only at hcell0
        split at hcell0
        · rename_i c e' fr' hh; exact ⟨c, e', fr', hh⟩
        · cases hcell0
      have hget : ∀ i, i < len → ∀ j, j < ls.length → arr[o + (i * ls.length + j)]? = ((f i).map litV)[j]? := by
        intro i hi j hj
        have := (hfam i hi).2 j hj
        rw [addr_add] at this
        simpa [World.cell?, hb] using this
      have hmaplen : ∀ k, ((List.range k).map f).length = k := fun k => by simp
      refine ⟨b, o, cap, (List.range len).map f, by rw [hv]; simp, by simp; omega, by simpa using hle, hcap, fun l hl' => ?_, fun k hk => ?_⟩
      · obtain ⟨i, hi, rfl⟩ := List.mem_map.1 hl'
        exact (hfam i (List.mem_range.1 hi)).1
      · rw [hmaplen] at hk
        rw [rdB_start hb]
        have htake : ((List.range len).map f).take k = (List.range k).map f := by
          rw [← List.map_take, List.take_range, Nat.min_eq_left hk]
        rw [htake]
        clear htake
        induction k with
        | zero => simp [rof, fl]
        | succ k ih =>
          have h1 := ih (by omega)
          have h2 : rof (fun i => arr[i]?) (o + k * ls.length) ls.length = some ((f k).map litV) := by
            have hlk : ((f k).map litV).length = ls.length := by rw [List.length_map]; exact ((hfam k (by omega)).1.length).symm
            have := rof_list (f := fun i => arr[i]?) ((f k).map litV) (o + k * ls.length) (fun j hj => by
              rw [Nat.add_assoc]; exact hget k (by omega) j (by omega))
            rw [hlk] at this
            exact this
          have := rof_split _ _ _ h1 h2
          rw [Nat.succ_mul, this, List.range_succ, List.map_append, fl_append]
          simp [fl]

theorem open_mem {r : Reach} {b0 : Nat} {t e : TypeId} {f0 : Field} {v : Value} {d : DataW H} {ps : List MemPlace} {ls : List LK} (n : Nat) (hs : P.underlying t = some (.struct #[f0])) (ho : f0.offset = 0) (hC : P.cellsOf t = 1) (hF : P.cellsOf f0.type = 1) (ht : P.underlying f0.type = some (.slice e)) (hl : leafs P n e = some ls) (hc : P.cellsOf e = ls.length) (hpos : 0 < ls.length)
    (hval : Value.okWide P W r b0 t v) (hd : DataW.Trod enc P W 0 sp held t v d ps) : ∃ w, v = .agg #[w] ∧ (w = .slice none 0 0 ∨ (∃ a cap, w = .slice (some a) 0 cap) ∨ ∃ (b o cap : Nat) (L : List (List Lit)), w = .slice (some ⟨b, o, none⟩) L.length cap ∧ 0 < L.length ∧ L.length ≤ cap ∧ cap ≤ maxLen ∧ (∀ m ∈ L, OKs ls m) ∧
      ∀ m, m ≤ L.length → rdB (startB W) b o (m * ls.length) = some (fl (fun m => m.map litV) (L.take m))) := by
  obtain ⟨cs, rfl, hsz⟩ := okWide_struct hs hval
  rw [hC] at hsz
  obtain ⟨l⟩ := cs
  match l, hsz with
  | [w], _ =>
    refine ⟨w, rfl, ?_⟩
    obtain ⟨fuel, hf⟩ := hd
    obtain ⟨xs, m, _, _, _, hlen, hff⟩ := DataW.trod_struct hs hf
    have h1 := hff 0 f0 rfl
    rw [ho, hF] at h1
    match xs, hlen with
    | [y0], _ =>
      have h2 : DataW.trod enc P W 0 sp held m f0.type [w] = some y0 := h1
      have hw : w.cells.toList = [w] := by
        rcases Deep.open_slice ht h2 with ⟨e, _⟩ | ⟨a, l, c, _, _, _, _, e, _⟩
        · have : w = .slice none 0 0 := by simpa using e
          rw [this]; rfl
        · have : w = .slice (some a) l c := by simpa using e
          rw [this]; rfl
      exact open_flatsC n ht hl hc hpos hw ⟨m, by rw [hw]; exact h2⟩
end
end Go.Proofs.YtfhiplfagejfoaaDoor.K
namespace Go.Proofs.YtfhiplfagejfoaaDoor
open Go.Proofs.YtfhiplfagejfoaaDoor.K Go.ChangeShapes Go.WideShapes Go.ChangeAt Go.RowKit 
set_option maxRecDepth 100000
set_option linter.unusedSimpArgs false
set_option linter.unusedVariables false
theorem all1_slw {α : Type} {f : α → List Value} {sz : Nat} {B : OH} {H : HL} {v : Value} {L : List α} (h : SlW f sz B H v L) : all1 [v] = true := by
  obtain ⟨a, c, rfl, _⟩ := id h
  rfl
end Go.Proofs.YtfhiplfagejfoaaDoor
namespace Go.Proofs.YtfhiplfagejfoaaDoor
open Go.Proofs.YtfhiplfagejfoaaDoor.K Go.ChangeShapes Go.WideShapes Go.ChangeAt Go.RowKit 
set_option maxRecDepth 100000
set_option linter.unusedSimpArgs false
set_option linter.unusedVariables false
theorem packW_l {p h : Nat} {l : List W2} (H : l.length ≤ h + 2 * p) : (packW p h l).length = LG p h := oW_len (Nat.le_refl _) (by unfold LG; omega)
theorem pkL_mem {l : List W2} {x : Int} (h : x ∈ pkL l) : ∃ y ∈ l, x = y.a ∨ x = y.w := by
  unfold pkL at h
  obtain ⟨y, hy, hx⟩ := List.mem_flatMap.1 h
  exact ⟨y, hy, by simpa using hx⟩
theorem packW_u {kk p cc h : Nat} (C : Cf kk p cc h) {l : List W2} (hw : W2s l) (ho : okL p h l l.length) (hl : l.length ≤ 1000000) : U64s (packW p h l) := fun x hx => by
  unfold packW oW at hx
  rw [List.take_length] at hx
  rcases List.mem_cons.1 hx with rfl | hx
  · unfold u64R; omega
  · rcases List.mem_append.1 hx with hx | hx
    · obtain ⟨y, hy, e⟩ := pkL_mem hx
      rcases e with rfl | rfl
      · obtain ⟨i, hi, rfl⟩ := List.getElem_of_mem hy
        have := (ho i hi).1
        rw [List.getD_eq_getElem?_getD, List.getElem?_eq_getElem hi, Option.getD_some] at this
        have := okP_b C this
        unfold u64R; omega
      · exact (hw y hy).2
    · rw [(List.mem_replicate.1 hx).2]; unfold u64R; omega
end Go.Proofs.YtfhiplfagejfoaaDoor
