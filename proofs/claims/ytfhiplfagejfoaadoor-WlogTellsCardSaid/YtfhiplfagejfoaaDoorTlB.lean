/- Own text: the log of writes, part TlB: contracts of the functions that the laws of the log call. -/
import Derived.Test.YtfhiplfagejfoaaDoorTlA
set_option linter.unusedSimpArgs false
set_option linter.unusedVariables false
namespace Go.Proofs.YtfhiplfagejfoaaDoor
open Go.Proofs.YtfhiplfagejfoaaDoor.K Go.ChangeShapes Go.WideShapes Go.ChangeAt Go.RowKit 
set_option maxRecDepth 100000
set_option linter.unusedSimpArgs false
set_option linter.unusedVariables false
structure Cf (kk p cc h : Nat) : Prop where
  k : 1 ≤ kk ∧ kk ≤ 5
  p : 1 ≤ p ∧ p ≤ 16
  c : 1 ≤ cc ∧ cc ≤ 256
  m : hm kk cc = (h : Int)
theorem Cf.h {kk p cc h : Nat} (C : Cf kk p cc h) : 1 ≤ h ∧ h ≤ 1026 := by
  have := hm_bounds (k := kk) (c := cc) (by have := C.k; omega) (by have := C.c; omega)
  rw [C.m] at this; omega
def fitI (k p c : Int) : Prop := (1 ≤ k ∧ k ≤ 5) ∧ (1 ≤ p ∧ p ≤ 16) ∧ (1 ≤ c ∧ c ≤ 256)
instance (k p c : Int) : Decidable (fitI k p c) := by unfold fitI; exact inferInstance
theorem fit_cf {k p c : Int} (h : fitI k p c) : ∃ kk pp cc hh : Nat, k = (kk : Int) ∧ p = (pp : Int) ∧ c = (cc : Int) ∧ Cf kk pp cc hh := by
  obtain ⟨h1, h2, h3⟩ := h
  have hb := hm_bounds h1 h3
  refine ⟨k.toNat, p.toNat, c.toNat, (hm k c).toNat, by omega, by omega, by omega, ⟨by omega, by omega, by omega, ?_⟩⟩
  rw [show ((k.toNat : Nat) : Int) = k by omega, show ((c.toNat : Nat) : Int) = c by omega]; omega
def LG (p h : Nat) : Nat := 1 + 2 * (h + 2 * p)
theorem LG_b {kk p cc h : Nat} (C : Cf kk p cc h) : LG p h ≤ 2117 ∧ LG p h * p ≤ 33872 ∧ 1 ≤ LG p h := by
  have h1 := C.h
  have h2 := C.p
  have h3 : LG p h ≤ 2117 := by unfold LG; omega
  refine ⟨h3, ?_, by unfold LG; omega⟩
  exact Nat.mul_le_mul h3 (by omega : p ≤ 16)
theorem bs_1 {p h : Nat} : bs p h 1 = 1 := by simp [bs, sz, mn]
theorem bs_2 {p h : Nat} : bs p h 2 = 1 + 3 * p := by simp [bs, sz, mn]
theorem bs_3 {p h : Nat} : bs p h 3 = 1 + 5 * p := by simp [bs, sz, mn]; omega
theorem bs_4 {p h : Nat} : bs p h 4 = 1 + 5 * p + LG p h * p := by simp [bs, sz, mn, LG]; omega
theorem bs_5 {p h : Nat} : bs p h 5 = 1 + 5 * p + LG p h * p + h := by simp [bs, sz, mn, LG]; omega
theorem cfit {kk p cc h : Nat} (C : Cf kk p cc h) : fitI kk p cc := ⟨by have := C.k; omega, by have := C.p; omega, by have := C.c; omega⟩
set_option maxHeartbeats 1000000 in
theorem f13n {B : OH} (hG : ∃ H N, good B H N) (k p c : Int) (h : ¬ fitI k p c) : F13 B [.agg #[.int .i64 k, .int .i64 p, .int .i64 c]] = some (.bool false) := by
  refine kval_eq hG fun H N hN => ?_
  have hB := good_B hN
  have hR := good_rdB hN
  have hI := beqN hN.1.1
  unfold fitI at h
  by_cases c1 : k ≥ 1
  case neg =>
    simp -implicitDefEqProofs (maxSteps := 10000000) (disch := omega) only [T13, L13, hB, hR, hI, c1, bt, bf, all1, ress, res1, retV, Value.cells, reduceIte, reduceCtorEq, Int.reduceLT, Int.reduceLE, Int.reduceToNat, Int.reduceAdd, Int.reduceSub, Int.reduceMul, Int.reduceNeg, Nat.reduceMul, Nat.reduceAdd, Nat.reduceSub, Nat.reduceBEq, Nat.reduceEqDiff, Nat.reduceLT, Nat.reduceLeDiff, Int.reduceBEq, Int.reduceEq, Nat.reducePow, Int.reducePow, Int.reduceGT, Int.reduceGE, Int.reduceBNe, newsV_s, ev1, ev2, ev3, ev4]
    with_reducible refine done2 ?_
    repeat (first | refine ext_new hN ?_ | exact fun _ _ h => h)
  by_cases c2 : k < 6
  case neg =>
    simp -implicitDefEqProofs (maxSteps := 10000000) (disch := omega) only [T13, L13, hB, hR, hI, c1, c2, bt, bf, all1, ress, res1, retV, Value.cells, reduceIte, reduceCtorEq, Int.reduceLT, Int.reduceLE, Int.reduceToNat, Int.reduceAdd, Int.reduceSub, Int.reduceMul, Int.reduceNeg, Nat.reduceMul, Nat.reduceAdd, Nat.reduceSub, Nat.reduceBEq, Nat.reduceEqDiff, Nat.reduceLT, Nat.reduceLeDiff, Int.reduceBEq, Int.reduceEq, Nat.reducePow, Int.reducePow, Int.reduceGT, Int.reduceGE, Int.reduceBNe, newsV_s, ev1, ev2, ev3, ev4]
    with_reducible refine done2 ?_
    repeat (first | refine ext_new hN ?_ | exact fun _ _ h => h)
  by_cases c3 : p ≥ 1
  case neg =>
    simp -implicitDefEqProofs (maxSteps := 10000000) (disch := omega) only [T13, L13, hB, hR, hI, c1, c2, c3, bt, bf, all1, ress, res1, retV, Value.cells, reduceIte, reduceCtorEq, Int.reduceLT, Int.reduceLE, Int.reduceToNat, Int.reduceAdd, Int.reduceSub, Int.reduceMul, Int.reduceNeg, Nat.reduceMul, Nat.reduceAdd, Nat.reduceSub, Nat.reduceBEq, Nat.reduceEqDiff, Nat.reduceLT, Nat.reduceLeDiff, Int.reduceBEq, Int.reduceEq, Nat.reducePow, Int.reducePow, Int.reduceGT, Int.reduceGE, Int.reduceBNe, newsV_s, ev1, ev2, ev3, ev4]
    with_reducible refine done2 ?_
    repeat (first | refine ext_new hN ?_ | exact fun _ _ h => h)
  by_cases c4 : p ≤ 16
  case neg =>
    simp -implicitDefEqProofs (maxSteps := 10000000) (disch := omega) only [T13, L13, hB, hR, hI, c1, c2, c3, c4, bt, bf, all1, ress, res1, retV, Value.cells, reduceIte, reduceCtorEq, Int.reduceLT, Int.reduceLE, Int.reduceToNat, Int.reduceAdd, Int.reduceSub, Int.reduceMul, Int.reduceNeg, Nat.reduceMul, Nat.reduceAdd, Nat.reduceSub, Nat.reduceBEq, Nat.reduceEqDiff, Nat.reduceLT, Nat.reduceLeDiff, Int.reduceBEq, Int.reduceEq, Nat.reducePow, Int.reducePow, Int.reduceGT, Int.reduceGE, Int.reduceBNe, newsV_s, ev1, ev2, ev3, ev4]
    with_reducible refine done2 ?_
    repeat (first | refine ext_new hN ?_ | exact fun _ _ h => h)
  by_cases c5 : c ≥ 1
  case neg =>
    simp -implicitDefEqProofs (maxSteps := 10000000) (disch := omega) only [T13, L13, hB, hR, hI, c1, c2, c3, c4, c5, bt, bf, all1, ress, res1, retV, Value.cells, reduceIte, reduceCtorEq, Int.reduceLT, Int.reduceLE, Int.reduceToNat, Int.reduceAdd, Int.reduceSub, Int.reduceMul, Int.reduceNeg, Nat.reduceMul, Nat.reduceAdd, Nat.reduceSub, Nat.reduceBEq, Nat.reduceEqDiff, Nat.reduceLT, Nat.reduceLeDiff, Int.reduceBEq, Int.reduceEq, Nat.reducePow, Int.reducePow, Int.reduceGT, Int.reduceGE, Int.reduceBNe, newsV_s, ev1, ev2, ev3, ev4]
    with_reducible refine done2 ?_
    repeat (first | refine ext_new hN ?_ | exact fun _ _ h => h)
  have c6 : ¬ c ≤ 256 := fun c6 => h ⟨⟨c1, by omega⟩, ⟨c3, c4⟩, c5, c6⟩
  simp -implicitDefEqProofs (maxSteps := 10000000) (disch := omega) only [T13, L13, hB, hR, hI, c1, c2, c3, c4, c5, c6, bt, bf, all1, ress, res1, retV, Value.cells, reduceIte, reduceCtorEq, Int.reduceLT, Int.reduceLE, Int.reduceToNat, Int.reduceAdd, Int.reduceSub, Int.reduceMul, Int.reduceNeg, Nat.reduceMul, Nat.reduceAdd, Nat.reduceSub, Nat.reduceBEq, Nat.reduceEqDiff, Nat.reduceLT, Nat.reduceLeDiff, Int.reduceBEq, Int.reduceEq, Nat.reducePow, Int.reducePow, Int.reduceGT, Int.reduceGE, Int.reduceBNe, newsV_s, ev1, ev2, ev3, ev4]
  with_reducible refine done2 ?_
  repeat (first | refine ext_new hN ?_ | exact fun _ _ h => h)
theorem f7n {B : OH} (hG : ∃ H N, good B H N) (k p c : Int) (h : ¬ fitI k p c) : F7 B [.agg #[.int .i64 k, .int .i64 p, .int .i64 c]] = some (.int .i64 0) := by
  refine kval_eq hG fun H N hN => ?_
  have hB := good_B hN
  have hR := good_rdB hN
  have hI := beqN hN.1.1
  have e13 := f13n hG k p c h
  simp -implicitDefEqProofs (maxSteps := 10000000) (disch := omega) only [T7, L7, G7_13, V13_eq, G7_15, V15, T15, L15, hB, hR, hI, e13, bt, bf, all1, ress, res1, retV, Value.cells, reduceIte, reduceCtorEq, Int.reduceLT, Int.reduceLE, Int.reduceToNat, Int.reduceAdd, Int.reduceSub, Int.reduceMul, Int.reduceNeg, Nat.reduceMul, Nat.reduceAdd, Nat.reduceSub, Nat.reduceBEq, Nat.reduceEqDiff, Nat.reduceLT, Nat.reduceLeDiff, Int.reduceBEq, Int.reduceEq, Nat.reducePow, Int.reducePow, Int.reduceGT, Int.reduceGE, Int.reduceBNe, newsV_s, ev1, ev2, ev3, ev4]
  with_reducible refine done2 ?_
  repeat (first | refine ext_new hN ?_ | exact fun _ _ h => h)
theorem f11c {B : OH} (hG : ∃ H N, good B H N) (hT : Tab B) {kk p cc h : Nat} (C : Cf kk p cc h) : F11 B [.agg #[.int .i64 (kk : Int), .int .i64 (p : Int), .int .i64 (cc : Int)]] = some (.int .i64 (LG p h : Int)) := by
  rw [f11 hG hT kk p cc (cfit C).1 (cfit C).2.1 (cfit C).2.2, C.m, show (1 + 2 * ((h : Int) + 2 * (p : Int))) = (LG p h : Int) by unfold LG; omega]
theorem f7c {B : OH} (hG : ∃ H N, good B H N) (hT : Tab B) {kk p cc h : Nat} (C : Cf kk p cc h) : F7 B [.agg #[.int .i64 (kk : Int), .int .i64 (p : Int), .int .i64 (cc : Int)]] = some (.int .i64 (bs p h 5 : Int)) := f7 hG hT C.k C.p C.c C.m
theorem f10o {B : OH} (hG : ∃ H N, good B H N) {kk p cc h : Nat} (C : Cf kk p cc h) (y : Int) (hy : y < 0 ∨ y ≥ (p : Int)) : F10 B [.agg #[.int .i64 (kk : Int), .int .i64 (p : Int), .int .i64 (cc : Int)], .int .i64 3, .int .i64 y] = some (.tuple #[.int .i64 0, .int .i64 1]) := by
  refine kval_eq hG fun H N hN => ?_
  have hB := good_B hN
  have hR := good_rdB hN
  have hI := beqN hN.1.1
  have e13 := f13 hG kk p cc (cfit C).1 (cfit C).2.1 (cfit C).2.2
  by_cases c1 : y < 0
  · simp -implicitDefEqProofs (maxSteps := 10000000) (disch := omega) only [T10, L10, G10_13, V13_eq, G10_15, V15, T15, L15, hB, hR, hI, e13, c1, bt, bf, all1, ress, res1, retV, Value.cells, reduceIte, reduceCtorEq, Int.reduceLT, Int.reduceLE, Int.reduceToNat, Int.reduceAdd, Int.reduceSub, Int.reduceMul, Int.reduceNeg, Nat.reduceMul, Nat.reduceAdd, Nat.reduceSub, Nat.reduceBEq, Nat.reduceEqDiff, Nat.reduceLT, Nat.reduceLeDiff, Int.reduceBEq, Int.reduceEq, Nat.reducePow, Int.reducePow, Int.reduceGT, Int.reduceGE, Int.reduceBNe, newsV_s, ev1, ev2, ev3, ev4]
    with_reducible refine done2 ?_
    repeat (first | refine ext_new hN ?_ | exact fun _ _ h => h)
  · have c2 : y ≥ (p : Int) := by omega
    simp -implicitDefEqProofs (maxSteps := 10000000) (disch := omega) only [T10, L10, G10_13, V13_eq, G10_15, V15, T15, L15, hB, hR, hI, e13, c1, c2, bt, bf, all1, ress, res1, retV, Value.cells, reduceIte, reduceCtorEq, Int.reduceLT, Int.reduceLE, Int.reduceToNat, Int.reduceAdd, Int.reduceSub, Int.reduceMul, Int.reduceNeg, Nat.reduceMul, Nat.reduceAdd, Nat.reduceSub, Nat.reduceBEq, Nat.reduceEqDiff, Nat.reduceLT, Nat.reduceLeDiff, Int.reduceBEq, Int.reduceEq, Nat.reducePow, Int.reducePow, Int.reduceGT, Int.reduceGE, Int.reduceBNe, newsV_s, ev1, ev2, ev3, ev4]
    with_reducible refine done2 ?_
    repeat (first | refine ext_new hN ?_ | exact fun _ _ h => h)
theorem f10c3 {B : OH} (hG : ∃ H N, good B H N) (hT : Tab B) {kk p cc h : Nat} (C : Cf kk p cc h) {q : Nat} (hq : q < p) : F10 B [.agg #[.int .i64 (kk : Int), .int .i64 (p : Int), .int .i64 (cc : Int)], .int .i64 3, .int .i64 (q : Int)] = some (.tuple #[.int .i64 (bs p h 3 + LG p h * q : Nat), .int .i64 0]) := by
  have := f10a (k0 := 3) (o0 := q) hG hT C.k C.p C.c C.m (by omega) (by simpa [mn] using hq) ⟨by omega, by omega⟩
  exact this
def Lref04in : FnL := ⟨(.seq (.ops [⟨(some 6), .mv (.const (.bool false)), none⟩])
 (.seq (.ops [⟨(some 7), .mv (.tmp 0), none⟩, ⟨(some 8), .mv (.tmp 1), none⟩, ⟨(some 9), .bin .geq (.tmp 7) (.tmp 8), none⟩, ⟨(some 10), .mv (.tmp 9), none⟩, ⟨(some 11), .mv (.tmp 0), (some (10, true))⟩, ⟨(some 12), .mv (.tmp 2), (some (10, true))⟩, ⟨(some 13), .bin .leq (.tmp 11) (.tmp 12), (some (10, true))⟩, ⟨(some 14), .pick (.tmp 10) (.tmp 13) (.const (.bool false)), none⟩, ⟨(some 6), .mv (.tmp 14), none⟩])
 .ret)),
 15, [.tmp 6]⟩
theorem lowref04in : lowerFn Tryd.prog Tryd.f61 = some Lref04in := by kernel_rfl
noncomputable def Gref04in (B : OH) : Nat → Cs
  | _ => fun _ _ _ => none
theorem sGref04in {w0 : World} {B : OH} : SoundG Tryd.prog w0 B { f := Gref04in B } := .of fun k => by
  unfold Gref04in
  split
  · exact .inl fun _ _ _ => rfl
theorem enref04in : Enter Tryd.prog 61 := .of Tryd.func61 (by kernel_rfl) (by kernel_rfl)
noncomputable def Tref04in (B : OH) : Cs := callF B { f := Gref04in B } 80 Lref04in
theorem sTref04in {w0 : World} {B : OH} : SoundC Tryd.prog w0 B 61 (Tref04in B) := callF_sound mixedOrders sGref04in 80 Tryd.func61 lowref04in
noncomputable def Fref04in (B : OH) : List Value → Option Value := kval B (Tref04in B)
noncomputable def Vref04in (B : OH) : Cs := fun a H N => pvE (Fref04in B a) H N
theorem Vref04in_eq {B : OH} {a : List Value} {H : HL} {N : St} : Vref04in B a H N = pvE (Fref04in B a) H N := rfl
theorem sVref04in {w0 : World} {B : OH} : SoundC Tryd.prog w0 B 61 (Vref04in B) := sTref04in.ofVal
theorem fin {B : OH} (hG : ∃ H N, good B H N) (x a b : Int) : Fref04in B [.int .i64 x, .int .i64 a, .int .i64 b] = some (.bool (decide (a ≤ x ∧ x ≤ b))) := by
  refine kval_eq hG fun H N hN => ?_
  have hB := good_B hN
  have hR := good_rdB hN
  have hI := beqN hN.1.1
  by_cases c1 : x ≥ a
  · by_cases c2 : x ≤ b
    · rw [decide_eq_true ⟨c1, c2⟩]
      simp -implicitDefEqProofs (maxSteps := 10000000) (disch := omega) only [Tref04in, Lref04in, hB, hR, hI, c1, c2, bt, bf, all1, ress, res1, retV, Value.cells, reduceIte, reduceCtorEq, Int.reduceLT, Int.reduceLE, Int.reduceToNat, Int.reduceAdd, Int.reduceSub, Int.reduceMul, Int.reduceNeg, Nat.reduceMul, Nat.reduceAdd, Nat.reduceSub, Nat.reduceBEq, Nat.reduceEqDiff, Nat.reduceLT, Nat.reduceLeDiff, Int.reduceBEq, Int.reduceEq, Nat.reducePow, Int.reducePow, Int.reduceGT, Int.reduceGE, Int.reduceBNe, newsV_s, ev1, ev2, ev3, ev4]
      with_reducible refine done2 ?_
      repeat (first | refine ext_new hN ?_ | exact fun _ _ h => h)
    · rw [decide_eq_false fun h => c2 h.2]
      simp -implicitDefEqProofs (maxSteps := 10000000) (disch := omega) only [Tref04in, Lref04in, hB, hR, hI, c1, c2, bt, bf, all1, ress, res1, retV, Value.cells, reduceIte, reduceCtorEq, Int.reduceLT, Int.reduceLE, Int.reduceToNat, Int.reduceAdd, Int.reduceSub, Int.reduceMul, Int.reduceNeg, Nat.reduceMul, Nat.reduceAdd, Nat.reduceSub, Nat.reduceBEq, Nat.reduceEqDiff, Nat.reduceLT, Nat.reduceLeDiff, Int.reduceBEq, Int.reduceEq, Nat.reducePow, Int.reducePow, Int.reduceGT, Int.reduceGE, Int.reduceBNe, newsV_s, ev1, ev2, ev3, ev4]
      with_reducible refine done2 ?_
      repeat (first | refine ext_new hN ?_ | exact fun _ _ h => h)
  · rw [decide_eq_false fun h => c1 h.1]
    simp -implicitDefEqProofs (maxSteps := 10000000) (disch := omega) only [Tref04in, Lref04in, hB, hR, hI, c1, bt, bf, all1, ress, res1, retV, Value.cells, reduceIte, reduceCtorEq, Int.reduceLT, Int.reduceLE, Int.reduceToNat, Int.reduceAdd, Int.reduceSub, Int.reduceMul, Int.reduceNeg, Nat.reduceMul, Nat.reduceAdd, Nat.reduceSub, Nat.reduceBEq, Nat.reduceEqDiff, Nat.reduceLT, Nat.reduceLeDiff, Int.reduceBEq, Int.reduceEq, Nat.reducePow, Int.reducePow, Int.reduceGT, Int.reduceGE, Int.reduceBNe, newsV_s, ev1, ev2, ev3, ev4]
    with_reducible refine done2 ?_
    repeat (first | refine ext_new hN ?_ | exact fun _ _ h => h)
def Lref04Fits : FnL := ⟨(.seq (.ops [⟨(some 1), .box (.tmp 0), none⟩, ⟨(some 2), .mv (.const (.bool false)), none⟩])
 (.seq (.ops [⟨(some 3), .faddr 0 (.tmp 1), none⟩, ⟨(some 4), .load false 1 (.tmp 3), none⟩, ⟨(some 5), .call (.func 61) [(.tmp 4), (.const (.int .i64 1)), (.const (.int .i64 5))], none⟩, ⟨(some 6), .mv (.tmp 5), none⟩, ⟨(some 7), .faddr 1 (.tmp 1), (some (6, true))⟩, ⟨(some 8), .load false 1 (.tmp 7), (some (6, true))⟩, ⟨(some 9), .call (.func 61) [(.tmp 8), (.const (.int .i64 1)), (.const (.int .i64 16))], (some (6, true))⟩, ⟨(some 10), .pick (.tmp 6) (.tmp 9) (.const (.bool false)), none⟩, ⟨(some 11), .mv (.tmp 10), none⟩, ⟨(some 12), .faddr 2 (.tmp 1), (some (11, true))⟩, ⟨(some 13), .load false 1 (.tmp 12), (some (11, true))⟩, ⟨(some 14), .call (.func 61) [(.tmp 13), (.const (.int .i64 1)), (.const (.int .i64 256))], (some (11, true))⟩, ⟨(some 15), .pick (.tmp 11) (.tmp 14) (.const (.bool false)), none⟩, ⟨(some 2), .mv (.tmp 15), none⟩])
 .ret)),
 16, [.tmp 2]⟩
theorem lowref04Fits : lowerFn Tryd.prog Tryd.f39 = some Lref04Fits := by kernel_rfl
noncomputable def Gref04Fits (B : OH) : Nat → Cs
  | 61 => Vref04in B
  | _ => fun _ _ _ => none
theorem Gref04Fits_ref04in {B : OH} : Gref04Fits B 61 = Vref04in B := rfl
theorem sGref04Fits {w0 : World} {B : OH} : SoundG Tryd.prog w0 B { f := Gref04Fits B } := .of fun k => by
  unfold Gref04Fits
  split
  · exact .inr ⟨enref04in, sVref04in⟩
  · exact .inl fun _ _ _ => rfl
theorem enref04Fits : Enter Tryd.prog 39 := .of Tryd.func39 (by kernel_rfl) (by kernel_rfl)
noncomputable def Tref04Fits (B : OH) : Cs := callF B { f := Gref04Fits B } 80 Lref04Fits
theorem sTref04Fits {w0 : World} {B : OH} : SoundC Tryd.prog w0 B 39 (Tref04Fits B) := callF_sound mixedOrders sGref04Fits 80 Tryd.func39 lowref04Fits
noncomputable def Fref04Fits (B : OH) : List Value → Option Value := kval B (Tref04Fits B)
noncomputable def Vref04Fits (B : OH) : Cs := fun a H N => pvE (Fref04Fits B a) H N
theorem Vref04Fits_eq {B : OH} {a : List Value} {H : HL} {N : St} : Vref04Fits B a H N = pvE (Fref04Fits B a) H N := rfl
theorem sVref04Fits {w0 : World} {B : OH} : SoundC Tryd.prog w0 B 39 (Vref04Fits B) := sTref04Fits.ofVal
theorem rFits {B : OH} (hG : ∃ H N, good B H N) (k p c : Int) : Fref04Fits B [.agg #[.int .i64 k, .int .i64 p, .int .i64 c]] = some (.bool (decide (fitI k p c))) := by
  refine kval_eq hG fun H N hN => ?_
  have hB := good_B hN
  have hR := good_rdB hN
  have hI := beqN hN.1.1
  have e1 := fin hG k 1 5
  have e2 := fin hG p 1 16
  have e3 := fin hG c 1 256
  by_cases c1 : 1 ≤ k ∧ k ≤ 5
  · by_cases c2 : 1 ≤ p ∧ p ≤ 16
    · by_cases c3 : 1 ≤ c ∧ c ≤ 256
      · rw [decide_eq_true (show fitI k p c from ⟨c1, c2, c3⟩)]
        rw [decide_eq_true c1] at e1; rw [decide_eq_true c2] at e2; rw [decide_eq_true c3] at e3
        simp -implicitDefEqProofs (maxSteps := 10000000) (disch := omega) only [Tref04Fits, Lref04Fits, Gref04Fits_ref04in, Vref04in_eq, hB, hR, hI, e1, e2, e3, bt, bf, all1, ress, res1, retV, Value.cells, reduceIte, reduceCtorEq, Int.reduceLT, Int.reduceLE, Int.reduceToNat, Int.reduceAdd, Int.reduceSub, Int.reduceMul, Int.reduceNeg, Nat.reduceMul, Nat.reduceAdd, Nat.reduceSub, Nat.reduceBEq, Nat.reduceEqDiff, Nat.reduceLT, Nat.reduceLeDiff, Int.reduceBEq, Int.reduceEq, Nat.reducePow, Int.reducePow, Int.reduceGT, Int.reduceGE, Int.reduceBNe, newsV_s, ev1, ev2, ev3, ev4]
        with_reducible refine done2 ?_
        repeat (first | refine ext_new hN ?_ | exact fun _ _ h => h)
      · rw [decide_eq_false (show ¬ fitI k p c from fun h => c3 h.2.2)]
        rw [decide_eq_true c1] at e1; rw [decide_eq_true c2] at e2; rw [decide_eq_false c3] at e3
        simp -implicitDefEqProofs (maxSteps := 10000000) (disch := omega) only [Tref04Fits, Lref04Fits, Gref04Fits_ref04in, Vref04in_eq, hB, hR, hI, e1, e2, e3, bt, bf, all1, ress, res1, retV, Value.cells, reduceIte, reduceCtorEq, Int.reduceLT, Int.reduceLE, Int.reduceToNat, Int.reduceAdd, Int.reduceSub, Int.reduceMul, Int.reduceNeg, Nat.reduceMul, Nat.reduceAdd, Nat.reduceSub, Nat.reduceBEq, Nat.reduceEqDiff, Nat.reduceLT, Nat.reduceLeDiff, Int.reduceBEq, Int.reduceEq, Nat.reducePow, Int.reducePow, Int.reduceGT, Int.reduceGE, Int.reduceBNe, newsV_s, ev1, ev2, ev3, ev4]
        with_reducible refine done2 ?_
        repeat (first | refine ext_new hN ?_ | exact fun _ _ h => h)
    · rw [decide_eq_false (show ¬ fitI k p c from fun h => c2 h.2.1)]
      rw [decide_eq_true c1] at e1; rw [decide_eq_false c2] at e2
      simp -implicitDefEqProofs (maxSteps := 10000000) (disch := omega) only [Tref04Fits, Lref04Fits, Gref04Fits_ref04in, Vref04in_eq, hB, hR, hI, e1, e2, bt, bf, all1, ress, res1, retV, Value.cells, reduceIte, reduceCtorEq, Int.reduceLT, Int.reduceLE, Int.reduceToNat, Int.reduceAdd, Int.reduceSub, Int.reduceMul, Int.reduceNeg, Nat.reduceMul, Nat.reduceAdd, Nat.reduceSub, Nat.reduceBEq, Nat.reduceEqDiff, Nat.reduceLT, Nat.reduceLeDiff, Int.reduceBEq, Int.reduceEq, Nat.reducePow, Int.reducePow, Int.reduceGT, Int.reduceGE, Int.reduceBNe, newsV_s, ev1, ev2, ev3, ev4]
      with_reducible refine done2 ?_
      repeat (first | refine ext_new hN ?_ | exact fun _ _ h => h)
  · rw [decide_eq_false (show ¬ fitI k p c from fun h => c1 h.1)]
    rw [decide_eq_false c1] at e1
    simp -implicitDefEqProofs (maxSteps := 10000000) (disch := omega) only [Tref04Fits, Lref04Fits, Gref04Fits_ref04in, Vref04in_eq, hB, hR, hI, e1, bt, bf, all1, ress, res1, retV, Value.cells, reduceIte, reduceCtorEq, Int.reduceLT, Int.reduceLE, Int.reduceToNat, Int.reduceAdd, Int.reduceSub, Int.reduceMul, Int.reduceNeg, Nat.reduceMul, Nat.reduceAdd, Nat.reduceSub, Nat.reduceBEq, Nat.reduceEqDiff, Nat.reduceLT, Nat.reduceLeDiff, Int.reduceBEq, Int.reduceEq, Nat.reducePow, Int.reducePow, Int.reduceGT, Int.reduceGE, Int.reduceBNe, newsV_s, ev1, ev2, ev3, ev4]
    with_reducible refine done2 ?_
    repeat (first | refine ext_new hN ?_ | exact fun _ _ h => h)
theorem rFits1 {B : OH} (hG : ∃ H N, good B H N) {kk p cc h : Nat} (C : Cf kk p cc h) : Fref04Fits B [.agg #[.int .i64 (kk : Int), .int .i64 (p : Int), .int .i64 (cc : Int)]] = some (.bool true) := by
  rw [rFits hG, decide_eq_true (cfit C)]
def Lref04Home : FnL := ⟨(.seq (.ops [⟨(some 1), .box (.tmp 0), none⟩, ⟨(some 2), .mv (.const (.int .i64 0)), none⟩])
 (.seq (.seq (.ops [⟨(some 3), .load true 3 (.tmp 1), none⟩, ⟨(some 4), .call (.func 39) [(.tmp 3)], none⟩, ⟨(some 5), .un .not (.tmp 4), none⟩])
 (.cond (.tmp 5) (.seq (.ops [⟨(some 2), .mv (.const (.int .i64 0)), none⟩])
 .ret)
 .skip))
 (.seq (.seq (.ops [⟨(some 6), .faddr 0 (.tmp 1), none⟩, ⟨(some 7), .load false 1 (.tmp 6), none⟩])
 (.block 0 (.seq (.ops [⟨(some 9), .bin .eql (.tmp 7) (.const (.int .i64 1)), none⟩, ⟨(some 8), .mv (.tmp 9), none⟩])
 (.cond (.tmp 8) (.seq (.ops [⟨(some 2), .mv (.const (.int .i64 1)), none⟩])
 .ret)
 (.seq (.ops [⟨(some 11), .bin .eql (.tmp 7) (.const (.int .i64 2)), none⟩, ⟨(some 10), .mv (.tmp 11), none⟩])
 (.cond (.tmp 10) (.seq (.ops [⟨(some 12), .faddr 2 (.tmp 1), none⟩, ⟨(some 13), .load false 1 (.tmp 12), none⟩, ⟨(some 14), .bin .mul (.const (.int .i64 2)) (.tmp 13), none⟩, ⟨(some 15), .bin .add (.const (.int .i64 1)) (.tmp 14), none⟩, ⟨(some 2), .mv (.tmp 15), none⟩])
 .ret)
 (.seq (.ops [⟨(some 17), .bin .eql (.tmp 7) (.const (.int .i64 3)), none⟩, ⟨(some 16), .mv (.tmp 17), none⟩])
 (.cond (.tmp 16) (.seq (.ops [⟨(some 18), .faddr 2 (.tmp 1), none⟩, ⟨(some 19), .load false 1 (.tmp 18), none⟩, ⟨(some 20), .bin .mul (.const (.int .i64 4)) (.tmp 19), none⟩, ⟨(some 21), .bin .add (.const (.int .i64 1)) (.tmp 20), none⟩, ⟨(some 2), .mv (.tmp 21), none⟩])
 .ret)
 (.seq (.ops [⟨(some 23), .bin .eql (.tmp 7) (.const (.int .i64 4)), none⟩, ⟨(some 22), .mv (.tmp 23), none⟩])
 (.cond (.tmp 22) (.seq (.ops [⟨(some 24), .faddr 2 (.tmp 1), none⟩, ⟨(some 25), .load false 1 (.tmp 24), none⟩, ⟨(some 26), .bin .mul (.const (.int .i64 4)) (.tmp 25), none⟩, ⟨(some 27), .bin .add (.const (.int .i64 2)) (.tmp 26), none⟩, ⟨(some 2), .mv (.tmp 27), none⟩])
 .ret)
 .skip))))))))))
 (.seq (.ops [⟨(some 28), .faddr 2 (.tmp 1), none⟩, ⟨(some 29), .load false 1 (.tmp 28), none⟩, ⟨(some 30), .bin .add (.const (.int .i64 1)) (.tmp 29), none⟩, ⟨(some 31), .bin .add (.tmp 30) (.const (.int .i64 8)), none⟩, ⟨(some 2), .mv (.tmp 31), none⟩])
 .ret)))),
 32, [.tmp 2]⟩
theorem lowref04Home : lowerFn Tryd.prog Tryd.f38 = some Lref04Home := by kernel_rfl
noncomputable def Gref04Home (B : OH) : Nat → Cs
  | 39 => Vref04Fits B
  | _ => fun _ _ _ => none
theorem Gref04Home_ref04Fits {B : OH} : Gref04Home B 39 = Vref04Fits B := rfl
theorem sGref04Home {w0 : World} {B : OH} : SoundG Tryd.prog w0 B { f := Gref04Home B } := .of fun k => by
  unfold Gref04Home
  split
  · exact .inr ⟨enref04Fits, sVref04Fits⟩
  · exact .inl fun _ _ _ => rfl
theorem enref04Home : Enter Tryd.prog 38 := .of Tryd.func38 (by kernel_rfl) (by kernel_rfl)
noncomputable def Tref04Home (B : OH) : Cs := callF B { f := Gref04Home B } 80 Lref04Home
theorem sTref04Home {w0 : World} {B : OH} : SoundC Tryd.prog w0 B 38 (Tref04Home B) := callF_sound mixedOrders sGref04Home 80 Tryd.func38 lowref04Home
noncomputable def Fref04Home (B : OH) : List Value → Option Value := kval B (Tref04Home B)
noncomputable def Vref04Home (B : OH) : Cs := fun a H N => pvE (Fref04Home B a) H N
theorem Vref04Home_eq {B : OH} {a : List Value} {H : HL} {N : St} : Vref04Home B a H N = pvE (Fref04Home B a) H N := rfl
theorem sVref04Home {w0 : World} {B : OH} : SoundC Tryd.prog w0 B 38 (Vref04Home B) := sTref04Home.ofVal
set_option maxHeartbeats 1000000 in
theorem rHome {B : OH} (hG : ∃ H N, good B H N) {kk p cc h : Nat} (C : Cf kk p cc h) : Fref04Home B [.agg #[.int .i64 (kk : Int), .int .i64 (p : Int), .int .i64 (cc : Int)]] = some (.int .i64 (h : Int)) := by
  refine kval_eq hG fun H N hN => ?_
  have hB := good_B hN
  have hR := good_rdB hN
  have hI := beqN hN.1.1
  have e := rFits1 hG C
  have hm' := C.m
  have hk := C.k
  have hc := C.c
  unfold hm at hm'
  obtain rfl | rfl | rfl | rfl | rfl : kk = 1 ∨ kk = 2 ∨ kk = 3 ∨ kk = 4 ∨ kk = 5 := by omega
  · have hh : (h : Int) = 1 := by simpa using hm'.symm
    simp only [Int.cast_ofNat_Int] at e
    simp -implicitDefEqProofs (maxSteps := 10000000) (disch := omega) only [Tref04Home, Lref04Home, Gref04Home_ref04Fits, Vref04Fits_eq, hB, hR, hI, e, hh, bt, bf, all1, ress, res1, retV, Value.cells, reduceIte, reduceCtorEq, Int.reduceLT, Int.reduceLE, Int.reduceToNat, Int.reduceAdd, Int.reduceSub, Int.reduceMul, Int.reduceNeg, Nat.reduceMul, Nat.reduceAdd, Nat.reduceSub, Nat.reduceBEq, Nat.reduceEqDiff, Nat.reduceLT, Nat.reduceLeDiff, Int.reduceBEq, Int.reduceEq, Nat.reducePow, Int.reducePow, Int.reduceGT, Int.reduceGE, Int.reduceBNe, newsV_s, ev1, ev2, ev3, ev4]
    with_reducible refine done2 ?_
    repeat (first | refine ext_new hN ?_ | exact fun _ _ h => h)
  · have hh : (h : Int) = 1 + 2 * (cc : Int) := by simpa using hm'.symm
    simp only [Int.cast_ofNat_Int] at e
    simp -implicitDefEqProofs (maxSteps := 10000000) (disch := omega) only [Tref04Home, Lref04Home, Gref04Home_ref04Fits, Vref04Fits_eq, hB, hR, hI, e, hh, bt, bf, all1, ress, res1, retV, Value.cells, reduceIte, reduceCtorEq, Int.reduceLT, Int.reduceLE, Int.reduceToNat, Int.reduceAdd, Int.reduceSub, Int.reduceMul, Int.reduceNeg, Nat.reduceMul, Nat.reduceAdd, Nat.reduceSub, Nat.reduceBEq, Nat.reduceEqDiff, Nat.reduceLT, Nat.reduceLeDiff, Int.reduceBEq, Int.reduceEq, Nat.reducePow, Int.reducePow, Int.reduceGT, Int.reduceGE, Int.reduceBNe, newsV_s, ev1, ev2, ev3, ev4]
    with_reducible refine done2 ?_
    repeat (first | refine ext_new hN ?_ | exact fun _ _ h => h)
  · have hh : (h : Int) = 1 + 4 * (cc : Int) := by simpa using hm'.symm
    simp only [Int.cast_ofNat_Int] at e
    simp -implicitDefEqProofs (maxSteps := 10000000) (disch := omega) only [Tref04Home, Lref04Home, Gref04Home_ref04Fits, Vref04Fits_eq, hB, hR, hI, e, hh, bt, bf, all1, ress, res1, retV, Value.cells, reduceIte, reduceCtorEq, Int.reduceLT, Int.reduceLE, Int.reduceToNat, Int.reduceAdd, Int.reduceSub, Int.reduceMul, Int.reduceNeg, Nat.reduceMul, Nat.reduceAdd, Nat.reduceSub, Nat.reduceBEq, Nat.reduceEqDiff, Nat.reduceLT, Nat.reduceLeDiff, Int.reduceBEq, Int.reduceEq, Nat.reducePow, Int.reducePow, Int.reduceGT, Int.reduceGE, Int.reduceBNe, newsV_s, ev1, ev2, ev3, ev4]
    with_reducible refine done2 ?_
    repeat (first | refine ext_new hN ?_ | exact fun _ _ h => h)
  · have hh : (h : Int) = 2 + 4 * (cc : Int) := by simpa using hm'.symm
    simp only [Int.cast_ofNat_Int] at e
    simp -implicitDefEqProofs (maxSteps := 10000000) (disch := omega) only [Tref04Home, Lref04Home, Gref04Home_ref04Fits, Vref04Fits_eq, hB, hR, hI, e, hh, bt, bf, all1, ress, res1, retV, Value.cells, reduceIte, reduceCtorEq, Int.reduceLT, Int.reduceLE, Int.reduceToNat, Int.reduceAdd, Int.reduceSub, Int.reduceMul, Int.reduceNeg, Nat.reduceMul, Nat.reduceAdd, Nat.reduceSub, Nat.reduceBEq, Nat.reduceEqDiff, Nat.reduceLT, Nat.reduceLeDiff, Int.reduceBEq, Int.reduceEq, Nat.reducePow, Int.reducePow, Int.reduceGT, Int.reduceGE, Int.reduceBNe, newsV_s, ev1, ev2, ev3, ev4]
    with_reducible refine done2 ?_
    repeat (first | refine ext_new hN ?_ | exact fun _ _ h => h)
  · have hh : (h : Int) = 1 + (cc : Int) + 8 := by
      have : (h : Int) = 9 + (cc : Int) := by simpa using hm'.symm
      omega
    simp only [Int.cast_ofNat_Int] at e
    simp -implicitDefEqProofs (maxSteps := 10000000) (disch := omega) only [Tref04Home, Lref04Home, Gref04Home_ref04Fits, Vref04Fits_eq, hB, hR, hI, e, hh, bt, bf, all1, ress, res1, retV, Value.cells, reduceIte, reduceCtorEq, Int.reduceLT, Int.reduceLE, Int.reduceToNat, Int.reduceAdd, Int.reduceSub, Int.reduceMul, Int.reduceNeg, Nat.reduceMul, Nat.reduceAdd, Nat.reduceSub, Nat.reduceBEq, Nat.reduceEqDiff, Nat.reduceLT, Nat.reduceLeDiff, Int.reduceBEq, Int.reduceEq, Nat.reducePow, Int.reducePow, Int.reduceGT, Int.reduceGE, Int.reduceBNe, newsV_s, ev1, ev2, ev3, ev4]
    with_reducible refine done2 ?_
    repeat (first | refine ext_new hN ?_ | exact fun _ _ h => h)
def LrS : FnL := ⟨(.seq (.ops [⟨(some 1), .box (.tmp 0), none⟩, ⟨(some 2), .mv (.const (.int .i64 0)), none⟩])
 (.seq (.seq (.ops [⟨(some 3), .load true 3 (.tmp 1), none⟩, ⟨(some 4), .call (.func 39) [(.tmp 3)], none⟩, ⟨(some 5), .un .not (.tmp 4), none⟩])
 (.cond (.tmp 5) (.seq (.ops [⟨(some 2), .mv (.const (.int .i64 0)), none⟩])
 .ret)
 .skip))
 (.seq (.draw [⟨⟨(some 6), .load true 3 (.tmp 1), none⟩, []⟩, ⟨⟨(some 8), .faddr 1 (.tmp 1), none⟩, []⟩, ⟨⟨(some 9), .load false 1 (.tmp 8), none⟩, []⟩, ⟨⟨(some 10), .bin .mul (.const (.int .i64 2)) (.tmp 9), none⟩, []⟩, ⟨⟨(some 7), .call (.func 38) [(.tmp 6)], none⟩, [⟨(some 9), .load false 1 (.tmp 8), none⟩]⟩, ⟨⟨(some 11), .bin .add (.tmp 7) (.tmp 10), none⟩, []⟩, ⟨⟨(some 12), .bin .mul (.const (.int .i64 2)) (.tmp 11), none⟩, []⟩, ⟨⟨(some 13), .bin .add (.const (.int .i64 1)) (.tmp 12), none⟩, []⟩, ⟨⟨(some 2), .mv (.tmp 13), none⟩, []⟩])
 .ret))),
 14, [.tmp 2]⟩
theorem lowrS : lowerFn Tryd.prog Tryd.f40 = some LrS := by kernel_rfl
noncomputable def GrS (B : OH) : Nat → Cs
  | 39 => Vref04Fits B
  | 38 => Vref04Home B
  | _ => fun _ _ _ => none
theorem GrS_ref04Fits {B : OH} : GrS B 39 = Vref04Fits B := rfl
theorem GrS_ref04Home {B : OH} : GrS B 38 = Vref04Home B := rfl
theorem sGrS {w0 : World} {B : OH} : SoundG Tryd.prog w0 B { f := GrS B } := .of fun k => by
  unfold GrS
  split
  · exact .inr ⟨enref04Fits, sVref04Fits⟩
  · exact .inr ⟨enref04Home, sVref04Home⟩
  · exact .inl fun _ _ _ => rfl
theorem enrS : Enter Tryd.prog 40 := .of Tryd.func40 (by kernel_rfl) (by kernel_rfl)
noncomputable def TrS (B : OH) : Cs := callF B { f := GrS B } 80 LrS
theorem sTrS {w0 : World} {B : OH} : SoundC Tryd.prog w0 B 40 (TrS B) := callF_sound mixedOrders sGrS 80 Tryd.func40 lowrS
noncomputable def FrS (B : OH) : List Value → Option Value := kval B (TrS B)
noncomputable def VrS (B : OH) : Cs := fun a H N => pvE (FrS B a) H N
theorem VrS_eq {B : OH} {a : List Value} {H : HL} {N : St} : VrS B a H N = pvE (FrS B a) H N := rfl
theorem sVrS {w0 : World} {B : OH} : SoundC Tryd.prog w0 B 40 (VrS B) := sTrS.ofVal
theorem rLog {B : OH} (hG : ∃ H N, good B H N) {kk p cc h : Nat} (C : Cf kk p cc h) : FrS B [.agg #[.int .i64 (kk : Int), .int .i64 (p : Int), .int .i64 (cc : Int)]] = some (.int .i64 (LG p h : Int)) := by
  refine kval_eq hG fun H N hN => ?_
  have hB := good_B hN
  have hR := good_rdB hN
  have hI := beqN hN.1.1
  have e := rFits1 hG C
  have e2 := rHome hG C
  have hh := C.h
  have hp := C.p
  have hl : (LG p h : Int) = 1 + 2 * ((h : Int) + 2 * (p : Int)) := by unfold LG; omega
  simp -implicitDefEqProofs (maxSteps := 10000000) (disch := omega) only [TrS, LrS, GrS_ref04Fits, Vref04Fits_eq, GrS_ref04Home, Vref04Home_eq, hB, hR, hI, e, e2, hl, bt, bf, all1, ress, res1, retV, Value.cells, reduceIte, reduceCtorEq, Int.reduceLT, Int.reduceLE, Int.reduceToNat, Int.reduceAdd, Int.reduceSub, Int.reduceMul, Int.reduceNeg, Nat.reduceMul, Nat.reduceAdd, Nat.reduceSub, Nat.reduceBEq, Nat.reduceEqDiff, Nat.reduceLT, Nat.reduceLeDiff, Int.reduceBEq, Int.reduceEq, Nat.reducePow, Int.reducePow, Int.reduceGT, Int.reduceGE, Int.reduceBNe, newsV_s, ev1, ev2, ev3, ev4]
  with_reducible refine done2 ?_
  repeat (first | refine ext_new hN ?_ | exact fun _ _ h => h)
def Lref04Size : FnL := ⟨(.seq (.ops [⟨(some 1), .box (.tmp 0), none⟩, ⟨(some 2), .mv (.const (.int .i64 0)), none⟩])
 (.seq (.seq (.ops [⟨(some 3), .load true 3 (.tmp 1), none⟩, ⟨(some 4), .call (.func 39) [(.tmp 3)], none⟩, ⟨(some 5), .un .not (.tmp 4), none⟩])
 (.cond (.tmp 5) (.seq (.ops [⟨(some 2), .mv (.const (.int .i64 0)), none⟩])
 .ret)
 .skip))
 (.seq (.draw [⟨⟨(some 6), .faddr 1 (.tmp 1), none⟩, []⟩, ⟨⟨(some 7), .load false 1 (.tmp 6), none⟩, []⟩, ⟨⟨(some 8), .load true 3 (.tmp 1), none⟩, []⟩, ⟨⟨(some 13), .load true 3 (.tmp 1), none⟩, []⟩, ⟨⟨(some 9), .call (.func 40) [(.tmp 8)], none⟩, [⟨(some 7), .load false 1 (.tmp 6), none⟩, ⟨(some 13), .load true 3 (.tmp 1), none⟩]⟩, ⟨⟨(some 10), .bin .add (.const (.int .i64 5)) (.tmp 9), none⟩, []⟩, ⟨⟨(some 11), .bin .mul (.tmp 7) (.tmp 10), none⟩, []⟩, ⟨⟨(some 12), .bin .add (.const (.int .i64 1)) (.tmp 11), none⟩, []⟩, ⟨⟨(some 14), .call (.func 38) [(.tmp 13)], none⟩, [⟨(some 7), .load false 1 (.tmp 6), none⟩]⟩, ⟨⟨(some 15), .bin .add (.tmp 12) (.tmp 14), none⟩, []⟩, ⟨⟨(some 2), .mv (.tmp 15), none⟩, []⟩])
 .ret))),
 16, [.tmp 2]⟩
theorem lowref04Size : lowerFn Tryd.prog Tryd.f35 = some Lref04Size := by kernel_rfl
noncomputable def Gref04Size (B : OH) : Nat → Cs
  | 39 => Vref04Fits B
  | 38 => Vref04Home B
  | 40 => VrS B
  | _ => fun _ _ _ => none
theorem Gref04Size_ref04Fits {B : OH} : Gref04Size B 39 = Vref04Fits B := rfl
theorem Gref04Size_ref04Home {B : OH} : Gref04Size B 38 = Vref04Home B := rfl
theorem Gref04Size_rS {B : OH} : Gref04Size B 40 = VrS B := rfl
theorem sGref04Size {w0 : World} {B : OH} : SoundG Tryd.prog w0 B { f := Gref04Size B } := .of fun k => by
  unfold Gref04Size
  split
  · exact .inr ⟨enref04Fits, sVref04Fits⟩
  · exact .inr ⟨enref04Home, sVref04Home⟩
  · exact .inr ⟨enrS, sVrS⟩
  · exact .inl fun _ _ _ => rfl
theorem enref04Size : Enter Tryd.prog 35 := .of Tryd.func35 (by kernel_rfl) (by kernel_rfl)
noncomputable def Tref04Size (B : OH) : Cs := callF B { f := Gref04Size B } 80 Lref04Size
theorem sTref04Size {w0 : World} {B : OH} : SoundC Tryd.prog w0 B 35 (Tref04Size B) := callF_sound mixedOrders sGref04Size 80 Tryd.func35 lowref04Size
noncomputable def Fref04Size (B : OH) : List Value → Option Value := kval B (Tref04Size B)
noncomputable def Vref04Size (B : OH) : Cs := fun a H N => pvE (Fref04Size B a) H N
theorem Vref04Size_eq {B : OH} {a : List Value} {H : HL} {N : St} : Vref04Size B a H N = pvE (Fref04Size B a) H N := rfl
theorem sVref04Size {w0 : World} {B : OH} : SoundC Tryd.prog w0 B 35 (Vref04Size B) := sTref04Size.ofVal
theorem rSize {B : OH} (hG : ∃ H N, good B H N) {kk p cc h : Nat} (C : Cf kk p cc h) : Fref04Size B [.agg #[.int .i64 (kk : Int), .int .i64 (p : Int), .int .i64 (cc : Int)]] = some (.int .i64 (bs p h 5 : Int)) := by
  refine kval_eq hG fun H N hN => ?_
  have hB := good_B hN
  have hR := good_rdB hN
  have hI := beqN hN.1.1
  have e := rFits1 hG C
  have e2 := rHome hG C
  have e3 := rLog hG C
  have hh := C.h
  have hp := C.p
  have hb := LG_b C
  have hm1 : (p : Int) * (5 + (LG p h : Int)) = ((5 * p + LG p h * p : Nat) : Int) := by
    rw [Int.mul_add, Int.natCast_add, Int.natCast_mul, Int.natCast_mul, Int.mul_comm (LG p h : Int)]; omega
  have hb5 : (bs p h 5 : Int) = 1 + ((5 * p + LG p h * p : Nat) : Int) + (h : Int) := by rw [bs_5]; omega
  have hw1 : IntKind.i64.wrap (5 + (LG p h : Int)) = 5 + (LG p h : Int) := IntWalk.i64_in _ (by omega)
  have hw2 : IntKind.i64.wrap ((5 * p + LG p h * p : Nat) : Int) = ((5 * p + LG p h * p : Nat) : Int) := IntWalk.i64_in _ (by omega)
  have hw3 : IntKind.i64.wrap (1 + ((5 * p + LG p h * p : Nat) : Int)) = 1 + ((5 * p + LG p h * p : Nat) : Int) := IntWalk.i64_in _ (by omega)
  have hw4 : IntKind.i64.wrap (1 + ((5 * p + LG p h * p : Nat) : Int) + (h : Int)) = 1 + ((5 * p + LG p h * p : Nat) : Int) + (h : Int) := IntWalk.i64_in _ (by omega)
  simp -implicitDefEqProofs (maxSteps := 10000000) (disch := omega) only [Tref04Size, Lref04Size, Gref04Size_ref04Fits, Vref04Fits_eq, Gref04Size_ref04Home, Vref04Home_eq, Gref04Size_rS, VrS_eq, hB, hR, hI, e, e2, e3, hm1, hb5, hw1, hw2, hw3, hw4, bt, bf, all1, ress, res1, retV, Value.cells, reduceIte, reduceCtorEq, Int.reduceLT, Int.reduceLE, Int.reduceToNat, Int.reduceAdd, Int.reduceSub, Int.reduceMul, Int.reduceNeg, Nat.reduceMul, Nat.reduceAdd, Nat.reduceSub, Nat.reduceBEq, Nat.reduceEqDiff, Nat.reduceLT, Nat.reduceLeDiff, Int.reduceBEq, Int.reduceEq, Nat.reducePow, Int.reducePow, Int.reduceGT, Int.reduceGE, Int.reduceBNe, newsV_s, ev1, ev2, ev3, ev4]
  with_reducible refine done2 ?_
  repeat (first | refine ext_new hN ?_ | exact fun _ _ h => h)
def Lref04size : FnL := ⟨(.seq (.ops [⟨(some 2), .box (.tmp 0), none⟩, ⟨(some 4), .mv (.const (.int .i64 0)), none⟩])
 (.seq (.seq (.ops [⟨(some 5), .mv (.tmp 1), none⟩])
 (.block 0 (.seq (.ops [⟨(some 7), .bin .eql (.tmp 5) (.const (.int .i64 0)), none⟩, ⟨(some 6), .mv (.tmp 7), none⟩])
 (.cond (.tmp 6) (.seq (.ops [⟨(some 4), .mv (.const (.int .i64 1)), none⟩])
 .ret)
 (.seq (.ops [⟨(some 9), .bin .eql (.tmp 5) (.const (.int .i64 1)), none⟩, ⟨(some 8), .mv (.tmp 9), none⟩])
 (.cond (.tmp 8) (.seq (.ops [⟨(some 4), .mv (.const (.int .i64 3)), none⟩])
 .ret)
 (.seq (.ops [⟨(some 11), .bin .eql (.tmp 5) (.const (.int .i64 2)), none⟩, ⟨(some 10), .mv (.tmp 11), none⟩])
 (.cond (.tmp 10) (.seq (.ops [⟨(some 4), .mv (.const (.int .i64 2)), none⟩])
 .ret)
 (.seq (.ops [⟨(some 13), .bin .eql (.tmp 5) (.const (.int .i64 3)), none⟩, ⟨(some 12), .mv (.tmp 13), none⟩])
 (.cond (.tmp 12) (.seq (.ops [⟨(some 14), .load true 3 (.tmp 2), none⟩, ⟨(some 15), .call (.func 40) [(.tmp 14)], none⟩, ⟨(some 4), .mv (.tmp 15), none⟩])
 .ret)
 .skip))))))))))
 (.seq (.ops [⟨(some 16), .load true 3 (.tmp 2), none⟩, ⟨(some 17), .call (.func 38) [(.tmp 16)], none⟩, ⟨(some 4), .mv (.tmp 17), none⟩])
 .ret))),
 18, [.tmp 4]⟩
theorem lowref04size : lowerFn Tryd.prog Tryd.f62 = some Lref04size := by kernel_rfl
noncomputable def Gref04size (B : OH) : Nat → Cs
  | 38 => Vref04Home B
  | 40 => VrS B
  | _ => fun _ _ _ => none
theorem Gref04size_ref04Home {B : OH} : Gref04size B 38 = Vref04Home B := rfl
theorem Gref04size_rS {B : OH} : Gref04size B 40 = VrS B := rfl
theorem sGref04size {w0 : World} {B : OH} : SoundG Tryd.prog w0 B { f := Gref04size B } := .of fun k => by
  unfold Gref04size
  split
  · exact .inr ⟨enref04Home, sVref04Home⟩
  · exact .inr ⟨enrS, sVrS⟩
  · exact .inl fun _ _ _ => rfl
theorem enref04size : Enter Tryd.prog 62 := .of Tryd.func62 (by kernel_rfl) (by kernel_rfl)
noncomputable def Tref04size (B : OH) : Cs := callF B { f := Gref04size B } 80 Lref04size
theorem sTref04size {w0 : World} {B : OH} : SoundC Tryd.prog w0 B 62 (Tref04size B) := callF_sound mixedOrders sGref04size 80 Tryd.func62 lowref04size
noncomputable def Fref04size (B : OH) : List Value → Option Value := kval B (Tref04size B)
noncomputable def Vref04size (B : OH) : Cs := fun a H N => pvE (Fref04size B a) H N
theorem Vref04size_eq {B : OH} {a : List Value} {H : HL} {N : St} : Vref04size B a H N = pvE (Fref04size B a) H N := rfl
theorem sVref04size {w0 : World} {B : OH} : SoundC Tryd.prog w0 B 62 (Vref04size B) := sTref04size.ofVal
theorem rsize {B : OH} (hG : ∃ H N, good B H N) {kk p cc h : Nat} (C : Cf kk p cc h) {k : Nat} (hk : k < 5) : Fref04size B [.agg #[.int .i64 (kk : Int), .int .i64 (p : Int), .int .i64 (cc : Int)], .int .i64 (k : Int)] = some (.int .i64 (sz p h k : Int)) := by
  refine kval_eq hG fun H N hN => ?_
  have hB := good_B hN
  have hR := good_rdB hN
  have hI := beqN hN.1.1
  have e2 := rHome hG C
  have e3 := rLog hG C
  obtain rfl | rfl | rfl | rfl | rfl : k = 0 ∨ k = 1 ∨ k = 2 ∨ k = 3 ∨ k = 4 := by omega
  · simp -implicitDefEqProofs (maxSteps := 10000000) (disch := omega) only [Tref04size, Lref04size, Gref04size_ref04Home, Vref04Home_eq, Gref04size_rS, VrS_eq, hB, hR, hI, sz, bt, bf, all1, ress, res1, retV, Value.cells, reduceIte, reduceCtorEq, Int.reduceLT, Int.reduceLE, Int.reduceToNat, Int.reduceAdd, Int.reduceSub, Int.reduceMul, Int.reduceNeg, Nat.reduceMul, Nat.reduceAdd, Nat.reduceSub, Nat.reduceBEq, Nat.reduceEqDiff, Nat.reduceLT, Nat.reduceLeDiff, Int.reduceBEq, Int.reduceEq, Nat.reducePow, Int.reducePow, Int.reduceGT, Int.reduceGE, Int.reduceBNe, newsV_s, ev1, ev2, ev3, ev4]
    with_reducible refine done2 ?_
    repeat (first | refine ext_new hN ?_ | exact fun _ _ h => h)
  · simp -implicitDefEqProofs (maxSteps := 10000000) (disch := omega) only [Tref04size, Lref04size, Gref04size_ref04Home, Vref04Home_eq, Gref04size_rS, VrS_eq, hB, hR, hI, sz, bt, bf, all1, ress, res1, retV, Value.cells, reduceIte, reduceCtorEq, Int.reduceLT, Int.reduceLE, Int.reduceToNat, Int.reduceAdd, Int.reduceSub, Int.reduceMul, Int.reduceNeg, Nat.reduceMul, Nat.reduceAdd, Nat.reduceSub, Nat.reduceBEq, Nat.reduceEqDiff, Nat.reduceLT, Nat.reduceLeDiff, Int.reduceBEq, Int.reduceEq, Nat.reducePow, Int.reducePow, Int.reduceGT, Int.reduceGE, Int.reduceBNe, newsV_s, ev1, ev2, ev3, ev4]
    with_reducible refine done2 ?_
    repeat (first | refine ext_new hN ?_ | exact fun _ _ h => h)
  · simp -implicitDefEqProofs (maxSteps := 10000000) (disch := omega) only [Tref04size, Lref04size, Gref04size_ref04Home, Vref04Home_eq, Gref04size_rS, VrS_eq, hB, hR, hI, sz, bt, bf, all1, ress, res1, retV, Value.cells, reduceIte, reduceCtorEq, Int.reduceLT, Int.reduceLE, Int.reduceToNat, Int.reduceAdd, Int.reduceSub, Int.reduceMul, Int.reduceNeg, Nat.reduceMul, Nat.reduceAdd, Nat.reduceSub, Nat.reduceBEq, Nat.reduceEqDiff, Nat.reduceLT, Nat.reduceLeDiff, Int.reduceBEq, Int.reduceEq, Nat.reducePow, Int.reducePow, Int.reduceGT, Int.reduceGE, Int.reduceBNe, newsV_s, ev1, ev2, ev3, ev4]
    with_reducible refine done2 ?_
    repeat (first | refine ext_new hN ?_ | exact fun _ _ h => h)
  · have hl : sz p h 3 = LG p h := rfl
    simp -implicitDefEqProofs (maxSteps := 10000000) (disch := omega) only [Tref04size, Lref04size, Gref04size_ref04Home, Vref04Home_eq, Gref04size_rS, VrS_eq, hB, hR, hI, hl, e3, bt, bf, all1, ress, res1, retV, Value.cells, reduceIte, reduceCtorEq, Int.reduceLT, Int.reduceLE, Int.reduceToNat, Int.reduceAdd, Int.reduceSub, Int.reduceMul, Int.reduceNeg, Nat.reduceMul, Nat.reduceAdd, Nat.reduceSub, Nat.reduceBEq, Nat.reduceEqDiff, Nat.reduceLT, Nat.reduceLeDiff, Int.reduceBEq, Int.reduceEq, Nat.reducePow, Int.reducePow, Int.reduceGT, Int.reduceGE, Int.reduceBNe, newsV_s, ev1, ev2, ev3, ev4]
    with_reducible refine done2 ?_
    repeat (first | refine ext_new hN ?_ | exact fun _ _ h => h)
  · have hl : sz p h 4 = h := rfl
    simp -implicitDefEqProofs (maxSteps := 10000000) (disch := omega) only [Tref04size, Lref04size, Gref04size_ref04Home, Vref04Home_eq, Gref04size_rS, VrS_eq, hB, hR, hI, hl, e2, bt, bf, all1, ress, res1, retV, Value.cells, reduceIte, reduceCtorEq, Int.reduceLT, Int.reduceLE, Int.reduceToNat, Int.reduceAdd, Int.reduceSub, Int.reduceMul, Int.reduceNeg, Nat.reduceMul, Nat.reduceAdd, Nat.reduceSub, Nat.reduceBEq, Nat.reduceEqDiff, Nat.reduceLT, Nat.reduceLeDiff, Int.reduceBEq, Int.reduceEq, Nat.reducePow, Int.reducePow, Int.reduceGT, Int.reduceGE, Int.reduceBNe, newsV_s, ev1, ev2, ev3, ev4]
    with_reducible refine done2 ?_
    repeat (first | refine ext_new hN ?_ | exact fun _ _ h => h)
def Lref04owners : FnL := ⟨(.seq (.ops [⟨(some 2), .box (.tmp 0), none⟩, ⟨(some 4), .mv (.const (.int .i64 0)), none⟩])
 (.seq (.seq (.ops [⟨(some 5), .mv (.tmp 1), none⟩, ⟨(some 6), .bin .eql (.tmp 5) (.const (.int .i64 0)), none⟩, ⟨(some 7), .mv (.tmp 6), none⟩, ⟨(some 8), .mv (.tmp 1), (some (7, false))⟩, ⟨(some 9), .bin .eql (.tmp 8) (.const (.int .i64 4)), (some (7, false))⟩, ⟨(some 10), .pick (.tmp 7) (.const (.bool true)) (.tmp 9), none⟩])
 (.cond (.tmp 10) (.seq (.ops [⟨(some 4), .mv (.const (.int .i64 1)), none⟩])
 .ret)
 .skip))
 (.seq (.ops [⟨(some 11), .faddr 1 (.tmp 2), none⟩, ⟨(some 12), .load false 1 (.tmp 11), none⟩, ⟨(some 4), .mv (.tmp 12), none⟩])
 .ret))),
 13, [.tmp 4]⟩
theorem lowref04owners : lowerFn Tryd.prog Tryd.f63 = some Lref04owners := by kernel_rfl
noncomputable def Gref04owners (B : OH) : Nat → Cs
  | _ => fun _ _ _ => none
theorem sGref04owners {w0 : World} {B : OH} : SoundG Tryd.prog w0 B { f := Gref04owners B } := .of fun k => by
  unfold Gref04owners
  split
  · exact .inl fun _ _ _ => rfl
theorem enref04owners : Enter Tryd.prog 63 := .of Tryd.func63 (by kernel_rfl) (by kernel_rfl)
noncomputable def Tref04owners (B : OH) : Cs := callF B { f := Gref04owners B } 80 Lref04owners
theorem sTref04owners {w0 : World} {B : OH} : SoundC Tryd.prog w0 B 63 (Tref04owners B) := callF_sound mixedOrders sGref04owners 80 Tryd.func63 lowref04owners
noncomputable def Fref04owners (B : OH) : List Value → Option Value := kval B (Tref04owners B)
noncomputable def Vref04owners (B : OH) : Cs := fun a H N => pvE (Fref04owners B a) H N
theorem Vref04owners_eq {B : OH} {a : List Value} {H : HL} {N : St} : Vref04owners B a H N = pvE (Fref04owners B a) H N := rfl
theorem sVref04owners {w0 : World} {B : OH} : SoundC Tryd.prog w0 B 63 (Vref04owners B) := sTref04owners.ofVal
theorem rown {B : OH} (hG : ∃ H N, good B H N) {kk p cc : Nat} {k : Nat} (hk : k < 5) : Fref04owners B [.agg #[.int .i64 (kk : Int), .int .i64 (p : Int), .int .i64 (cc : Int)], .int .i64 (k : Int)] = some (.int .i64 (mn p k : Int)) := by
  refine kval_eq hG fun H N hN => ?_
  have hB := good_B hN
  have hR := good_rdB hN
  have hI := beqN hN.1.1
  obtain rfl | rfl | rfl | rfl | rfl : k = 0 ∨ k = 1 ∨ k = 2 ∨ k = 3 ∨ k = 4 := by omega
  · simp -implicitDefEqProofs (maxSteps := 10000000) (disch := omega) only [Tref04owners, Lref04owners, hB, hR, hI, mn, bt, bf, all1, ress, res1, retV, Value.cells, reduceIte, reduceCtorEq, Int.reduceLT, Int.reduceLE, Int.reduceToNat, Int.reduceAdd, Int.reduceSub, Int.reduceMul, Int.reduceNeg, Nat.reduceMul, Nat.reduceAdd, Nat.reduceSub, Nat.reduceBEq, Nat.reduceEqDiff, Nat.reduceLT, Nat.reduceLeDiff, Int.reduceBEq, Int.reduceEq, Nat.reducePow, Int.reducePow, Int.reduceGT, Int.reduceGE, Int.reduceBNe, newsV_s, ev1, ev2, ev3, ev4]
    with_reducible refine done2 ?_
    repeat (first | refine ext_new hN ?_ | exact fun _ _ h => h)
  · simp -implicitDefEqProofs (maxSteps := 10000000) (disch := omega) only [Tref04owners, Lref04owners, hB, hR, hI, mn, bt, bf, all1, ress, res1, retV, Value.cells, reduceIte, reduceCtorEq, Int.reduceLT, Int.reduceLE, Int.reduceToNat, Int.reduceAdd, Int.reduceSub, Int.reduceMul, Int.reduceNeg, Nat.reduceMul, Nat.reduceAdd, Nat.reduceSub, Nat.reduceBEq, Nat.reduceEqDiff, Nat.reduceLT, Nat.reduceLeDiff, Int.reduceBEq, Int.reduceEq, Nat.reducePow, Int.reducePow, Int.reduceGT, Int.reduceGE, Int.reduceBNe, newsV_s, ev1, ev2, ev3, ev4]
    with_reducible refine done2 ?_
    repeat (first | refine ext_new hN ?_ | exact fun _ _ h => h)
  · simp -implicitDefEqProofs (maxSteps := 10000000) (disch := omega) only [Tref04owners, Lref04owners, hB, hR, hI, mn, bt, bf, all1, ress, res1, retV, Value.cells, reduceIte, reduceCtorEq, Int.reduceLT, Int.reduceLE, Int.reduceToNat, Int.reduceAdd, Int.reduceSub, Int.reduceMul, Int.reduceNeg, Nat.reduceMul, Nat.reduceAdd, Nat.reduceSub, Nat.reduceBEq, Nat.reduceEqDiff, Nat.reduceLT, Nat.reduceLeDiff, Int.reduceBEq, Int.reduceEq, Nat.reducePow, Int.reducePow, Int.reduceGT, Int.reduceGE, Int.reduceBNe, newsV_s, ev1, ev2, ev3, ev4]
    with_reducible refine done2 ?_
    repeat (first | refine ext_new hN ?_ | exact fun _ _ h => h)
  · simp -implicitDefEqProofs (maxSteps := 10000000) (disch := omega) only [Tref04owners, Lref04owners, hB, hR, hI, mn, bt, bf, all1, ress, res1, retV, Value.cells, reduceIte, reduceCtorEq, Int.reduceLT, Int.reduceLE, Int.reduceToNat, Int.reduceAdd, Int.reduceSub, Int.reduceMul, Int.reduceNeg, Nat.reduceMul, Nat.reduceAdd, Nat.reduceSub, Nat.reduceBEq, Nat.reduceEqDiff, Nat.reduceLT, Nat.reduceLeDiff, Int.reduceBEq, Int.reduceEq, Nat.reducePow, Int.reducePow, Int.reduceGT, Int.reduceGE, Int.reduceBNe, newsV_s, ev1, ev2, ev3, ev4]
    with_reducible refine done2 ?_
    repeat (first | refine ext_new hN ?_ | exact fun _ _ h => h)
  · simp -implicitDefEqProofs (maxSteps := 10000000) (disch := omega) only [Tref04owners, Lref04owners, hB, hR, hI, mn, bt, bf, all1, ress, res1, retV, Value.cells, reduceIte, reduceCtorEq, Int.reduceLT, Int.reduceLE, Int.reduceToNat, Int.reduceAdd, Int.reduceSub, Int.reduceMul, Int.reduceNeg, Nat.reduceMul, Nat.reduceAdd, Nat.reduceSub, Nat.reduceBEq, Nat.reduceEqDiff, Nat.reduceLT, Nat.reduceLeDiff, Int.reduceBEq, Int.reduceEq, Nat.reducePow, Int.reducePow, Int.reduceGT, Int.reduceGE, Int.reduceBNe, newsV_s, ev1, ev2, ev3, ev4]
    with_reducible refine done2 ?_
    repeat (first | refine ext_new hN ?_ | exact fun _ _ h => h)
end Go.Proofs.YtfhiplfagejfoaaDoor
namespace Go.Proofs.YtfhiplfagejfoaaDoor
open Go.Proofs.YtfhiplfagejfoaaDoor.K Go.ChangeShapes Go.WideShapes Go.ChangeAt Go.RowKit 
set_option maxRecDepth 100000
set_option linter.unusedSimpArgs false
set_option linter.unusedVariables false
def Lref04At : FnL := ⟨(.seq (.ops [⟨(some 3), .box (.tmp 0), none⟩, ⟨(some 6), .mv (.const (.int .i64 0)), none⟩, ⟨(some 7), .mv (.const (.int .i64 0)), none⟩])
 (.seq (.seq (.ops [⟨(some 10), .load true 3 (.tmp 3), none⟩, ⟨(some 11), .call (.func 39) [(.tmp 10)], none⟩, ⟨(some 12), .un .not (.tmp 11), none⟩])
 (.cond (.tmp 12) (.seq (.ops [⟨(some 6), .mv (.const (.int .i64 0)), none⟩, ⟨(some 7), .mv (.const (.int .i64 5)), none⟩])
 .ret)
 .skip))
 (.seq (.seq (.ops [⟨(some 13), .mv (.tmp 1), none⟩, ⟨(some 14), .call (.func 61) [(.tmp 13), (.const (.int .i64 0)), (.const (.int .i64 4))], none⟩, ⟨(some 15), .un .not (.tmp 14), none⟩, ⟨(some 16), .mv (.tmp 15), none⟩, ⟨(some 17), .mv (.tmp 2), (some (16, false))⟩, ⟨(some 18), .faddr 1 (.tmp 3), (some (16, false))⟩, ⟨(some 19), .load false 1 (.tmp 18), (some (16, false))⟩, ⟨(some 20), .bin .sub (.tmp 19) (.const (.int .i64 1)), (some (16, false))⟩, ⟨(some 21), .call (.func 61) [(.tmp 17), (.const (.int .i64 0)), (.tmp 20)], (some (16, false))⟩, ⟨(some 22), .un .not (.tmp 21), (some (16, false))⟩, ⟨(some 23), .pick (.tmp 16) (.const (.bool true)) (.tmp 22), none⟩])
 (.cond (.tmp 23) (.seq (.ops [⟨(some 6), .mv (.const (.int .i64 0)), none⟩, ⟨(some 7), .mv (.const (.int .i64 1)), none⟩])
 .ret)
 .skip))
 (.seq (.ops [⟨(some 8), .mv (.const (.int .i64 0)), none⟩])
 (.seq (.seq (.ops [⟨(some 9), .mv (.const (.int .i64 0)), none⟩])
 (.block 0 (.loop (.seq (.seq (.ops [⟨(some 24), .mv (.tmp 9), none⟩, ⟨(some 25), .mv (.tmp 1), none⟩, ⟨(some 26), .bin .lss (.tmp 24) (.tmp 25), none⟩])
 (.cond (.tmp 26) .skip
 (.exit 0)))
 (.seq (.block 1 (.draw [⟨⟨(some 29), .mv (.tmp 8), none⟩, []⟩, ⟨⟨(some 30), .load true 3 (.tmp 3), none⟩, []⟩, ⟨⟨(some 31), .mv (.tmp 9), none⟩, []⟩, ⟨⟨(some 33), .load true 3 (.tmp 3), none⟩, []⟩, ⟨⟨(some 34), .mv (.tmp 9), none⟩, []⟩, ⟨⟨(some 32), .call (.func 62) [(.tmp 30), (.tmp 31)], none⟩, [⟨(some 33), .load true 3 (.tmp 3), none⟩]⟩, ⟨⟨(some 35), .call (.func 63) [(.tmp 33), (.tmp 34)], none⟩, []⟩, ⟨⟨(some 36), .bin .mul (.tmp 32) (.tmp 35), none⟩, []⟩, ⟨⟨(some 37), .bin .add (.tmp 29) (.tmp 36), none⟩, []⟩, ⟨⟨(some 8), .mv (.tmp 37), none⟩, []⟩]))
 (.ops [⟨(some 27), .mv (.tmp 9), none⟩, ⟨(some 28), .bin .add (.tmp 27) (.const (.int .i64 1)), none⟩, ⟨(some 9), .mv (.tmp 28), none⟩]))))))
 (.seq (.seq (.ops [⟨(some 38), .load true 3 (.tmp 3), none⟩, ⟨(some 39), .mv (.tmp 1), none⟩, ⟨(some 40), .call (.func 63) [(.tmp 38), (.tmp 39)], none⟩, ⟨(some 41), .bin .gtr (.tmp 40) (.const (.int .i64 1)), none⟩])
 (.cond (.tmp 41) (.ops [⟨(some 42), .mv (.tmp 8), none⟩, ⟨(some 43), .mv (.tmp 2), none⟩, ⟨(some 44), .load true 3 (.tmp 3), none⟩, ⟨(some 45), .mv (.tmp 1), none⟩, ⟨(some 46), .call (.func 62) [(.tmp 44), (.tmp 45)], none⟩, ⟨(some 47), .bin .mul (.tmp 43) (.tmp 46), none⟩, ⟨(some 48), .bin .add (.tmp 42) (.tmp 47), none⟩, ⟨(some 8), .mv (.tmp 48), none⟩])
 .skip))
 (.seq (.ops [⟨(some 49), .mv (.tmp 8), none⟩, ⟨(some 6), .mv (.tmp 49), none⟩, ⟨(some 7), .mv (.const (.int .i64 0)), none⟩])
 .ret))))))),
 50, [.tmp 6, .tmp 7]⟩
theorem lowref04At : lowerFn Tryd.prog Tryd.f37 = some Lref04At := by kernel_rfl
noncomputable def Gref04At (B : OH) : Nat → Cs
  | 39 => Vref04Fits B
  | 61 => Vref04in B
  | 63 => Vref04owners B
  | 62 => Vref04size B
  | _ => fun _ _ _ => none
theorem Gref04At_ref04Fits {B : OH} : Gref04At B 39 = Vref04Fits B := rfl
theorem Gref04At_ref04in {B : OH} : Gref04At B 61 = Vref04in B := rfl
theorem Gref04At_ref04owners {B : OH} : Gref04At B 63 = Vref04owners B := rfl
theorem Gref04At_ref04size {B : OH} : Gref04At B 62 = Vref04size B := rfl
theorem sGref04At {w0 : World} {B : OH} : SoundG Tryd.prog w0 B { f := Gref04At B } := .of fun k => by
  unfold Gref04At
  split
  · exact .inr ⟨enref04Fits, sVref04Fits⟩
  · exact .inr ⟨enref04in, sVref04in⟩
  · exact .inr ⟨enref04owners, sVref04owners⟩
  · exact .inr ⟨enref04size, sVref04size⟩
  · exact .inl fun _ _ _ => rfl
theorem enref04At : Enter Tryd.prog 37 := .of Tryd.func37 (by kernel_rfl) (by kernel_rfl)
noncomputable def Tref04At (B : OH) : Cs := callF B { f := Gref04At B } 200 Lref04At
theorem sTref04At {w0 : World} {B : OH} : SoundC Tryd.prog w0 B 37 (Tref04At B) := callF_sound mixedOrders sGref04At 200 Tryd.func37 lowref04At
noncomputable def Fref04At (B : OH) : List Value → Option Value := kval B (Tref04At B)
noncomputable def Vref04At (B : OH) : Cs := fun a H N => pvE (Fref04At B a) H N
theorem Vref04At_eq {B : OH} {a : List Value} {H : HL} {N : St} : Vref04At B a H N = pvE (Fref04At B a) H N := rfl
theorem sVref04At {w0 : World} {B : OH} : SoundC Tryd.prog w0 B 37 (Vref04At B) := sTref04At.ofVal
set_option maxHeartbeats 4000000 in
theorem rAt3 {B : OH} (hG : ∃ H N, good B H N) {kk p cc h : Nat} (C : Cf kk p cc h) {q : Nat} (hq : q < p) : Fref04At B [.agg #[.int .i64 (kk : Int), .int .i64 (p : Int), .int .i64 (cc : Int)], .int .i64 3, .int .i64 (q : Int)] = some (.tuple #[.int .i64 (bs p h 3 + LG p h * q : Nat), .int .i64 0]) := by
  refine kval_eq hG fun H N hN => ?_
  have hB := good_B hN
  have hR := good_rdB hN
  have hI := beqN hN.1.1
  have e := rFits1 hG C
  have hh := C.h
  have hp := C.p
  have hb := LG_b C
  have s0 := rsize hG C (k := 0) (by omega)
  have s1 := rsize hG C (k := 1) (by omega)
  have s2 := rsize hG C (k := 2) (by omega)
  have s3 := rsize hG C (k := 3) (by omega)
  have s4 := rsize hG C (k := 4) (by omega)
  have o0 := rown hG (kk := kk) (p := p) (cc := cc) (k := 0) (by omega)
  have o1 := rown hG (kk := kk) (p := p) (cc := cc) (k := 1) (by omega)
  have o2 := rown hG (kk := kk) (p := p) (cc := cc) (k := 2) (by omega)
  have o3 := rown hG (kk := kk) (p := p) (cc := cc) (k := 3) (by omega)
  have o4 := rown hG (kk := kk) (p := p) (cc := cc) (k := 4) (by omega)
  have z3 : sz p h 3 = LG p h := rfl
  have z4 : sz p h 4 = h := rfl
  rw [z3] at s3
  rw [z4] at s4
  simp only [Int.cast_ofNat_Int, sz, mn] at s0 s1 s2 s3 s4 o0 o1 o2 o3 o4
  have a1 : (3 : Int) * (p : Int) = ((3 * p : Nat) : Int) := by omega
  have a2 : (2 : Int) * (p : Int) = ((2 * p : Nat) : Int) := by omega
  have a3 : (LG p h : Int) * (p : Int) = ((LG p h * p : Nat) : Int) := by rw [Int.natCast_mul]
  have e2 := fin hG 3 0 4
  have e3 := fin hG (q : Int) 0 ((p : Int) - 1)
  rw [decide_eq_true (by omega)] at e2 e3
  have hq2 : LG p h * q ≤ LG p h * p := Nat.mul_le_mul_left _ (by omega)
  have a4 : (q : Int) * (LG p h : Int) = ((LG p h * q : Nat) : Int) := by rw [Int.natCast_mul, Int.mul_comm]
  have b3 : ((bs p h 3 + LG p h * q : Nat) : Int) = 1 + ((3 * p : Nat) : Int) + ((2 * p : Nat) : Int) + ((LG p h * q : Nat) : Int) := by rw [bs_3]; omega
  generalize LG p h * q = X at *
  by_cases h1 : (p : Int) > 1
  · simp -implicitDefEqProofs (maxSteps := 10000000) (disch := omega) only [Tref04At, Lref04At, Gref04At_ref04Fits, Vref04Fits_eq, Gref04At_ref04in, Vref04in_eq, Gref04At_ref04owners, Vref04owners_eq, Gref04At_ref04size, Vref04size_eq, hB, hR, hI, e, s0, s1, s2, s3, s4, o0, o1, o2, o3, o4, a1, a2, a3, e_loop, e2, e3, a4, b3, h1, bt, bf, all1, ress, res1, retV, Value.cells, reduceIte, reduceCtorEq, Int.reduceLT, Int.reduceLE, Int.reduceToNat, Int.reduceAdd, Int.reduceSub, Int.reduceMul, Int.reduceNeg, Nat.reduceMul, Nat.reduceAdd, Nat.reduceSub, Nat.reduceBEq, Nat.reduceEqDiff, Nat.reduceLT, Nat.reduceLeDiff, Int.reduceBEq, Int.reduceEq, Nat.reducePow, Int.reducePow, Int.reduceGT, Int.reduceGE, Int.reduceBNe, newsV_s, ev1, ev2, ev3, ev4]
    with_reducible refine done2 ?_
    repeat (first | refine ext_new hN ?_ | exact fun _ _ h => h)
  · have x0 : (X : Int) = 0 := by
      have : q = 0 := by omega
      subst this; simp at a4; omega
    simp -implicitDefEqProofs (maxSteps := 10000000) (disch := omega) only [Tref04At, Lref04At, Gref04At_ref04Fits, Vref04Fits_eq, Gref04At_ref04in, Vref04in_eq, Gref04At_ref04owners, Vref04owners_eq, Gref04At_ref04size, Vref04size_eq, hB, hR, hI, e, s0, s1, s2, s3, s4, o0, o1, o2, o3, o4, a1, a2, a3, e_loop, e2, e3, b3, h1, x0, Int.add_zero, bt, bf, all1, ress, res1, retV, Value.cells, reduceIte, reduceCtorEq, Int.reduceLT, Int.reduceLE, Int.reduceToNat, Int.reduceAdd, Int.reduceSub, Int.reduceMul, Int.reduceNeg, Nat.reduceMul, Nat.reduceAdd, Nat.reduceSub, Nat.reduceBEq, Nat.reduceEqDiff, Nat.reduceLT, Nat.reduceLeDiff, Int.reduceBEq, Int.reduceEq, Nat.reducePow, Int.reducePow, Int.reduceGT, Int.reduceGE, Int.reduceBNe, newsV_s, ev1, ev2, ev3, ev4]
    with_reducible refine done2 ?_
    repeat (first | refine ext_new hN ?_ | exact fun _ _ h => h)
set_option maxHeartbeats 4000000 in
theorem rAt2 {B : OH} (hG : ∃ H N, good B H N) {kk p cc h : Nat} (C : Cf kk p cc h) : Fref04At B [.agg #[.int .i64 (kk : Int), .int .i64 (p : Int), .int .i64 (cc : Int)], .int .i64 2, .int .i64 0] = some (.tuple #[.int .i64 (bs p h 2 : Nat), .int .i64 0]) := by
  refine kval_eq hG fun H N hN => ?_
  have hB := good_B hN
  have hR := good_rdB hN
  have hI := beqN hN.1.1
  have e := rFits1 hG C
  have hh := C.h
  have hp := C.p
  have hb := LG_b C
  have s0 := rsize hG C (k := 0) (by omega)
  have s1 := rsize hG C (k := 1) (by omega)
  have s2 := rsize hG C (k := 2) (by omega)
  have s3 := rsize hG C (k := 3) (by omega)
  have s4 := rsize hG C (k := 4) (by omega)
  have o0 := rown hG (kk := kk) (p := p) (cc := cc) (k := 0) (by omega)
  have o1 := rown hG (kk := kk) (p := p) (cc := cc) (k := 1) (by omega)
  have o2 := rown hG (kk := kk) (p := p) (cc := cc) (k := 2) (by omega)
  have o3 := rown hG (kk := kk) (p := p) (cc := cc) (k := 3) (by omega)
  have o4 := rown hG (kk := kk) (p := p) (cc := cc) (k := 4) (by omega)
  have z3 : sz p h 3 = LG p h := rfl
  have z4 : sz p h 4 = h := rfl
  rw [z3] at s3
  rw [z4] at s4
  simp only [Int.cast_ofNat_Int, sz, mn] at s0 s1 s2 s3 s4 o0 o1 o2 o3 o4
  have a1 : (3 : Int) * (p : Int) = ((3 * p : Nat) : Int) := by omega
  have a2 : (2 : Int) * (p : Int) = ((2 * p : Nat) : Int) := by omega
  have a3 : (LG p h : Int) * (p : Int) = ((LG p h * p : Nat) : Int) := by rw [Int.natCast_mul]
  have e2 := fin hG 2 0 4
  have e3 := fin hG 0 0 ((p : Int) - 1)
  rw [decide_eq_true (by omega)] at e2 e3
  have b3 : ((bs p h 2 : Nat) : Int) = 1 + ((3 * p : Nat) : Int) := by rw [bs_2]; omega
  by_cases h1 : (p : Int) > 1
  · simp -implicitDefEqProofs (maxSteps := 10000000) (disch := omega) only [Tref04At, Lref04At, Gref04At_ref04Fits, Vref04Fits_eq, Gref04At_ref04in, Vref04in_eq, Gref04At_ref04owners, Vref04owners_eq, Gref04At_ref04size, Vref04size_eq, hB, hR, hI, e, s0, s1, s2, s3, s4, o0, o1, o2, o3, o4, a1, a2, a3, e_loop, e2, e3, b3, h1, Int.add_zero, bt, bf, all1, ress, res1, retV, Value.cells, reduceIte, reduceCtorEq, Int.reduceLT, Int.reduceLE, Int.reduceToNat, Int.reduceAdd, Int.reduceSub, Int.reduceMul, Int.reduceNeg, Nat.reduceMul, Nat.reduceAdd, Nat.reduceSub, Nat.reduceBEq, Nat.reduceEqDiff, Nat.reduceLT, Nat.reduceLeDiff, Int.reduceBEq, Int.reduceEq, Nat.reducePow, Int.reducePow, Int.reduceGT, Int.reduceGE, Int.reduceBNe, newsV_s, ev1, ev2, ev3, ev4]
    with_reducible refine done2 ?_
    repeat (first | refine ext_new hN ?_ | exact fun _ _ h => h)
  · simp -implicitDefEqProofs (maxSteps := 10000000) (disch := omega) only [Tref04At, Lref04At, Gref04At_ref04Fits, Vref04Fits_eq, Gref04At_ref04in, Vref04in_eq, Gref04At_ref04owners, Vref04owners_eq, Gref04At_ref04size, Vref04size_eq, hB, hR, hI, e, s0, s1, s2, s3, s4, o0, o1, o2, o3, o4, a1, a2, a3, e_loop, e2, e3, b3, h1, Int.add_zero, bt, bf, all1, ress, res1, retV, Value.cells, reduceIte, reduceCtorEq, Int.reduceLT, Int.reduceLE, Int.reduceToNat, Int.reduceAdd, Int.reduceSub, Int.reduceMul, Int.reduceNeg, Nat.reduceMul, Nat.reduceAdd, Nat.reduceSub, Nat.reduceBEq, Nat.reduceEqDiff, Nat.reduceLT, Nat.reduceLeDiff, Int.reduceBEq, Int.reduceEq, Nat.reducePow, Int.reducePow, Int.reduceGT, Int.reduceGE, Int.reduceBNe, newsV_s, ev1, ev2, ev3, ev4]
    with_reducible refine done2 ?_
    repeat (first | refine ext_new hN ?_ | exact fun _ _ h => h)
set_option maxHeartbeats 4000000 in
theorem rAt4 {B : OH} (hG : ∃ H N, good B H N) {kk p cc h : Nat} (C : Cf kk p cc h) : Fref04At B [.agg #[.int .i64 (kk : Int), .int .i64 (p : Int), .int .i64 (cc : Int)], .int .i64 4, .int .i64 0] = some (.tuple #[.int .i64 (bs p h 4 : Nat), .int .i64 0]) := by
  refine kval_eq hG fun H N hN => ?_
  have hB := good_B hN
  have hR := good_rdB hN
  have hI := beqN hN.1.1
  have e := rFits1 hG C
  have hh := C.h
  have hp := C.p
  have hb := LG_b C
  have s0 := rsize hG C (k := 0) (by omega)
  have s1 := rsize hG C (k := 1) (by omega)
  have s2 := rsize hG C (k := 2) (by omega)
  have s3 := rsize hG C (k := 3) (by omega)
  have s4 := rsize hG C (k := 4) (by omega)
  have o0 := rown hG (kk := kk) (p := p) (cc := cc) (k := 0) (by omega)
  have o1 := rown hG (kk := kk) (p := p) (cc := cc) (k := 1) (by omega)
  have o2 := rown hG (kk := kk) (p := p) (cc := cc) (k := 2) (by omega)
  have o3 := rown hG (kk := kk) (p := p) (cc := cc) (k := 3) (by omega)
  have o4 := rown hG (kk := kk) (p := p) (cc := cc) (k := 4) (by omega)
  have z3 : sz p h 3 = LG p h := rfl
  have z4 : sz p h 4 = h := rfl
  rw [z3] at s3
  rw [z4] at s4
  simp only [Int.cast_ofNat_Int, sz, mn] at s0 s1 s2 s3 s4 o0 o1 o2 o3 o4
  have a1 : (3 : Int) * (p : Int) = ((3 * p : Nat) : Int) := by omega
  have a2 : (2 : Int) * (p : Int) = ((2 * p : Nat) : Int) := by omega
  have a3 : (LG p h : Int) * (p : Int) = ((LG p h * p : Nat) : Int) := by rw [Int.natCast_mul]
  have e2 := fin hG 4 0 4
  have e3 := fin hG 0 0 ((p : Int) - 1)
  rw [decide_eq_true (by omega)] at e2 e3
  have b3 : ((bs p h 4 : Nat) : Int) = 1 + ((3 * p : Nat) : Int) + ((2 * p : Nat) : Int) + ((LG p h * p : Nat) : Int) := by rw [bs_4]; omega
  generalize LG p h * p = X at *
  simp -implicitDefEqProofs (maxSteps := 10000000) (disch := omega) only [Tref04At, Lref04At, Gref04At_ref04Fits, Vref04Fits_eq, Gref04At_ref04in, Vref04in_eq, Gref04At_ref04owners, Vref04owners_eq, Gref04At_ref04size, Vref04size_eq, hB, hR, hI, e, s0, s1, s2, s3, s4, o0, o1, o2, o3, o4, a1, a2, a3, e_loop, e2, e3, b3, bt, bf, all1, ress, res1, retV, Value.cells, reduceIte, reduceCtorEq, Int.reduceLT, Int.reduceLE, Int.reduceToNat, Int.reduceAdd, Int.reduceSub, Int.reduceMul, Int.reduceNeg, Nat.reduceMul, Nat.reduceAdd, Nat.reduceSub, Nat.reduceBEq, Nat.reduceEqDiff, Nat.reduceLT, Nat.reduceLeDiff, Int.reduceBEq, Int.reduceEq, Nat.reducePow, Int.reducePow, Int.reduceGT, Int.reduceGE, Int.reduceBNe, newsV_s, ev1, ev2, ev3, ev4]
  with_reducible refine done2 ?_
  repeat (first | refine ext_new hN ?_ | exact fun _ _ h => h)
theorem rAt3e {B : OH} (hG : ∃ H N, good B H N) {kk p cc h : Nat} (C : Cf kk p cc h) (y : Int) (hy : y < 0 ∨ y ≥ (p : Int)) : Fref04At B [.agg #[.int .i64 (kk : Int), .int .i64 (p : Int), .int .i64 (cc : Int)], .int .i64 3, .int .i64 y] = some (.tuple #[.int .i64 0, .int .i64 1]) := by
  refine kval_eq hG fun H N hN => ?_
  have hB := good_B hN
  have hR := good_rdB hN
  have hI := beqN hN.1.1
  have e := rFits1 hG C
  have hp := C.p
  have e2 := fin hG 3 0 4
  have e3 := fin hG y 0 ((p : Int) - 1)
  rw [decide_eq_true (by omega)] at e2
  rw [decide_eq_false (by omega)] at e3
  simp -implicitDefEqProofs (maxSteps := 10000000) (disch := omega) only [Tref04At, Lref04At, Gref04At_ref04Fits, Vref04Fits_eq, Gref04At_ref04in, Vref04in_eq, Gref04At_ref04owners, Vref04owners_eq, Gref04At_ref04size, Vref04size_eq, hB, hR, hI, e, e2, e3, bt, bf, all1, ress, res1, retV, Value.cells, reduceIte, reduceCtorEq, Int.reduceLT, Int.reduceLE, Int.reduceToNat, Int.reduceAdd, Int.reduceSub, Int.reduceMul, Int.reduceNeg, Nat.reduceMul, Nat.reduceAdd, Nat.reduceSub, Nat.reduceBEq, Nat.reduceEqDiff, Nat.reduceLT, Nat.reduceLeDiff, Int.reduceBEq, Int.reduceEq, Nat.reducePow, Int.reducePow, Int.reduceGT, Int.reduceGE, Int.reduceBNe, newsV_s, ev1, ev2, ev3, ev4]
  with_reducible refine done2 ?_
  repeat (first | refine ext_new hN ?_ | exact fun _ _ h => h)
def okP (p h : Nat) (w : Int) : Prop := ((bs p h 2 : Nat) : Int) ≤ w ∧ w < ((bs p h 3 : Nat) : Int) ∨ ((bs p h 4 : Nat) : Int) ≤ w ∧ w < ((bs p h 5 : Nat) : Int)
instance (p h : Nat) (w : Int) : Decidable (okP p h w) := by unfold okP; exact inferInstance
theorem okP_b {kk p cc h : Nat} (C : Cf kk p cc h) {w : Int} (ho : okP p h w) : 0 ≤ w ∧ w < ((bs p h 5 : Nat) : Int) ∧ bs p h 5 ≤ 35000 := by
  have hb := LG_b C
  have hh := C.h
  have hp := C.p
  unfold okP at ho
  rw [bs_2, bs_3, bs_4, bs_5] at ho
  rw [bs_5]
  omega
theorem bs5_b {kk p cc h : Nat} (C : Cf kk p cc h) : bs p h 5 ≤ 35000 := by
  have hb := LG_b C
  have hh := C.h
  have hp := C.p
  rw [bs_5]
  omega
def Lref04Where : FnL := ⟨(.seq (.ops [⟨(some 2), .box (.tmp 0), none⟩, ⟨(some 4), .mv (.const (.int .i64 0)), none⟩, ⟨(some 5), .mv (.const (.int .i64 0)), none⟩, ⟨(some 6), .mv (.const (.int .i64 0)), none⟩])
 (.seq (.seq (.ops [⟨(some 9), .load true 3 (.tmp 2), none⟩, ⟨(some 10), .call (.func 39) [(.tmp 9)], none⟩, ⟨(some 11), .un .not (.tmp 10), none⟩, ⟨(some 12), .mv (.tmp 11), none⟩, ⟨(some 13), .mv (.tmp 1), (some (12, false))⟩, ⟨(some 14), .bin .lss (.tmp 13) (.const (.int .i64 0)), (some (12, false))⟩, ⟨(some 15), .pick (.tmp 12) (.const (.bool true)) (.tmp 14), none⟩])
 (.cond (.tmp 15) (.seq (.ops [⟨(some 4), .mv (.const (.int .i64 5)), none⟩, ⟨(some 5), .mv (.const (.int .i64 0)), none⟩, ⟨(some 6), .mv (.const (.int .i64 0)), none⟩])
 .ret)
 .skip))
 (.seq (.seq (.ops [⟨(some 7), .mv (.const (.int .i64 0)), none⟩])
 (.block 0 (.loop (.seq (.seq (.ops [⟨(some 16), .mv (.tmp 7), none⟩, ⟨(some 17), .bin .leq (.tmp 16) (.const (.int .i64 4)), none⟩])
 (.cond (.tmp 17) .skip
 (.exit 0)))
 (.seq (.block 1 (.seq (.ops [⟨(some 20), .load true 3 (.tmp 2), none⟩, ⟨(some 21), .mv (.tmp 7), none⟩, ⟨(some 22), .call (.func 62) [(.tmp 20), (.tmp 21)], none⟩, ⟨(some 8), .mv (.tmp 22), none⟩])
 (.seq (.seq (.ops [⟨(some 23), .mv (.tmp 1), none⟩, ⟨(some 24), .mv (.tmp 8), none⟩, ⟨(some 25), .load true 3 (.tmp 2), none⟩, ⟨(some 26), .mv (.tmp 7), none⟩, ⟨(some 27), .call (.func 63) [(.tmp 25), (.tmp 26)], none⟩, ⟨(some 28), .bin .mul (.tmp 24) (.tmp 27), none⟩, ⟨(some 29), .bin .lss (.tmp 23) (.tmp 28), none⟩])
 (.cond (.tmp 29) (.seq (.draw [⟨⟨(some 30), .mv (.tmp 7), none⟩, []⟩, ⟨⟨(some 31), .mv (.tmp 1), none⟩, []⟩, ⟨⟨(some 32), .mv (.tmp 8), none⟩, []⟩, ⟨⟨(some 33), .bin .quo (.tmp 31) (.tmp 32), none⟩, []⟩, ⟨⟨(some 34), .mv (.tmp 1), none⟩, []⟩, ⟨⟨(some 35), .mv (.tmp 8), none⟩, []⟩, ⟨⟨(some 36), .bin .rem (.tmp 34) (.tmp 35), none⟩, []⟩, ⟨⟨(some 4), .mv (.tmp 30), none⟩, []⟩, ⟨⟨(some 5), .mv (.tmp 33), none⟩, []⟩, ⟨⟨(some 6), .mv (.tmp 36), none⟩, []⟩])
 .ret)
 .skip))
 (.ops [⟨(some 37), .mv (.tmp 1), none⟩, ⟨(some 38), .mv (.tmp 8), none⟩, ⟨(some 39), .load true 3 (.tmp 2), none⟩, ⟨(some 40), .mv (.tmp 7), none⟩, ⟨(some 41), .call (.func 63) [(.tmp 39), (.tmp 40)], none⟩, ⟨(some 42), .bin .mul (.tmp 38) (.tmp 41), none⟩, ⟨(some 43), .bin .sub (.tmp 37) (.tmp 42), none⟩, ⟨(some 1), .mv (.tmp 43), none⟩]))))
 (.ops [⟨(some 18), .mv (.tmp 7), none⟩, ⟨(some 19), .bin .add (.tmp 18) (.const (.int .i64 1)), none⟩, ⟨(some 7), .mv (.tmp 19), none⟩]))))))
 (.seq (.ops [⟨(some 4), .mv (.const (.int .i64 5)), none⟩, ⟨(some 5), .mv (.const (.int .i64 0)), none⟩, ⟨(some 6), .mv (.const (.int .i64 0)), none⟩])
 .ret)))),
 44, [.tmp 4, .tmp 5, .tmp 6]⟩
theorem lowref04Where : lowerFn Tryd.prog Tryd.f42 = some Lref04Where := by kernel_rfl
noncomputable def Gref04Where (B : OH) : Nat → Cs
  | 39 => Vref04Fits B
  | 63 => Vref04owners B
  | 62 => Vref04size B
  | _ => fun _ _ _ => none
theorem Gref04Where_ref04Fits {B : OH} : Gref04Where B 39 = Vref04Fits B := rfl
theorem Gref04Where_ref04owners {B : OH} : Gref04Where B 63 = Vref04owners B := rfl
theorem Gref04Where_ref04size {B : OH} : Gref04Where B 62 = Vref04size B := rfl
theorem sGref04Where {w0 : World} {B : OH} : SoundG Tryd.prog w0 B { f := Gref04Where B } := .of fun k => by
  unfold Gref04Where
  split
  · exact .inr ⟨enref04Fits, sVref04Fits⟩
  · exact .inr ⟨enref04owners, sVref04owners⟩
  · exact .inr ⟨enref04size, sVref04size⟩
  · exact .inl fun _ _ _ => rfl
theorem enref04Where : Enter Tryd.prog 42 := .of Tryd.func42 (by kernel_rfl) (by kernel_rfl)
noncomputable def Tref04Where (B : OH) : Cs := callF B { f := Gref04Where B } 200 Lref04Where
theorem sTref04Where {w0 : World} {B : OH} : SoundC Tryd.prog w0 B 42 (Tref04Where B) := callF_sound mixedOrders sGref04Where 200 Tryd.func42 lowref04Where
noncomputable def Fref04Where (B : OH) : List Value → Option Value := kval B (Tref04Where B)
noncomputable def Vref04Where (B : OH) : Cs := fun a H N => pvE (Fref04Where B a) H N
theorem Vref04Where_eq {B : OH} {a : List Value} {H : HL} {N : St} : Vref04Where B a H N = pvE (Fref04Where B a) H N := rfl
theorem sVref04Where {w0 : World} {B : OH} : SoundC Tryd.prog w0 B 42 (Vref04Where B) := sTref04Where.ofVal
set_option maxHeartbeats 8000000 in
theorem rWhere {B : OH} (hG : ∃ H N, good B H N) {kk p cc h : Nat} (C : Cf kk p cc h) {w : Nat} (hw : w < bs p h 5) : ∃ (k : Nat) (x y : Int), k < 5 ∧ bs p h k ≤ w ∧ w < bs p h (k + 1) ∧ Fref04Where B [.agg #[.int .i64 (kk : Int), .int .i64 (p : Int), .int .i64 (cc : Int)], .int .i64 (w : Int)] = some (.tuple #[.int .i64 (k : Int), .int .i64 x, .int .i64 y]) := by
  have b0 : bs p h 0 = 0 := rfl
  have b1 := bs_1 (p := p) (h := h)
  have b2 := bs_2 (p := p) (h := h)
  have b3 := bs_3 (p := p) (h := h)
  have b4 := bs_4 (p := p) (h := h)
  have b5 := bs_5 (p := p) (h := h)
  have hh := C.h
  have hp := C.p
  have hb := LG_b C
  have w0 : ¬ (w : Int) < 0 := by omega
  by_cases h1 : w < bs p h 1
  · refine ⟨0, (w : Int).tdiv 1, (w : Int).tmod 1, by omega, by omega, h1, ?_⟩
    refine kval_eq hG fun H N hN => ?_
    have hB := good_B hN
    have hR := good_rdB hN
    have hI := beqN hN.1.1
    have e := rFits1 hG C
    have hh := C.h
    have hp := C.p
    have hb := LG_b C
    have s0 := rsize hG C (k := 0) (by omega)
    have s1 := rsize hG C (k := 1) (by omega)
    have s2 := rsize hG C (k := 2) (by omega)
    have s3 := rsize hG C (k := 3) (by omega)
    have s4 := rsize hG C (k := 4) (by omega)
    have o0 := rown hG (kk := kk) (p := p) (cc := cc) (k := 0) (by omega)
    have o1 := rown hG (kk := kk) (p := p) (cc := cc) (k := 1) (by omega)
    have o2 := rown hG (kk := kk) (p := p) (cc := cc) (k := 2) (by omega)
    have o3 := rown hG (kk := kk) (p := p) (cc := cc) (k := 3) (by omega)
    have o4 := rown hG (kk := kk) (p := p) (cc := cc) (k := 4) (by omega)
    have z3 : sz p h 3 = LG p h := rfl
    have z4 : sz p h 4 = h := rfl
    rw [z3] at s3
    rw [z4] at s4
    simp only [Int.cast_ofNat_Int, sz, mn] at s0 s1 s2 s3 s4 o0 o1 o2 o3 o4
    have a1 : (3 : Int) * (p : Int) = ((3 * p : Nat) : Int) := by omega
    have a2 : (2 : Int) * (p : Int) = ((2 * p : Nat) : Int) := by omega
    have a3 : (LG p h : Int) * (p : Int) = ((LG p h * p : Nat) : Int) := by rw [Int.natCast_mul]
    have c1 : (w : Int) < 1 := by omega
    have q1 : IntKind.i64.wrap ((w : Int).tdiv 1) = (w : Int).tdiv 1 := IntWalk.i64_in _ (by rw [Int.tdiv_one]; omega)
    have hz : ((0 : Nat) : Int) = 0 := rfl
    rw [hz]
    simp -implicitDefEqProofs (maxSteps := 10000000) (disch := omega) only [Tref04Where, Lref04Where, Gref04Where_ref04Fits, Vref04Fits_eq, Gref04Where_ref04owners, Vref04owners_eq, Gref04Where_ref04size, Vref04size_eq, hB, hR, hI, e, s0, s1, s2, s3, s4, o0, o1, o2, o3, o4, a1, a2, a3, e_loop, w0, c1, q1, bt, bf, all1, ress, res1, retV, Value.cells, reduceIte, reduceCtorEq, Int.reduceLT, Int.reduceLE, Int.reduceToNat, Int.reduceAdd, Int.reduceSub, Int.reduceMul, Int.reduceNeg, Nat.reduceMul, Nat.reduceAdd, Nat.reduceSub, Nat.reduceBEq, Nat.reduceEqDiff, Nat.reduceLT, Nat.reduceLeDiff, Int.reduceBEq, Int.reduceEq, Nat.reducePow, Int.reducePow, Int.reduceGT, Int.reduceGE, Int.reduceBNe, newsV_s, ev1, ev2, ev3, ev4]
    with_reducible refine done2 ?_
    repeat (first | refine ext_new hN ?_ | exact fun _ _ h => h)
  by_cases h2 : w < bs p h 2
  · refine ⟨1, ((w : Int) - 1).tdiv 3, ((w : Int) - 1).tmod 3, by omega, by omega, h2, ?_⟩
    refine kval_eq hG fun H N hN => ?_
    have hB := good_B hN
    have hR := good_rdB hN
    have hI := beqN hN.1.1
    have e := rFits1 hG C
    have hh := C.h
    have hp := C.p
    have hb := LG_b C
    have s0 := rsize hG C (k := 0) (by omega)
    have s1 := rsize hG C (k := 1) (by omega)
    have s2 := rsize hG C (k := 2) (by omega)
    have s3 := rsize hG C (k := 3) (by omega)
    have s4 := rsize hG C (k := 4) (by omega)
    have o0 := rown hG (kk := kk) (p := p) (cc := cc) (k := 0) (by omega)
    have o1 := rown hG (kk := kk) (p := p) (cc := cc) (k := 1) (by omega)
    have o2 := rown hG (kk := kk) (p := p) (cc := cc) (k := 2) (by omega)
    have o3 := rown hG (kk := kk) (p := p) (cc := cc) (k := 3) (by omega)
    have o4 := rown hG (kk := kk) (p := p) (cc := cc) (k := 4) (by omega)
    have z3 : sz p h 3 = LG p h := rfl
    have z4 : sz p h 4 = h := rfl
    rw [z3] at s3
    rw [z4] at s4
    simp only [Int.cast_ofNat_Int, sz, mn] at s0 s1 s2 s3 s4 o0 o1 o2 o3 o4
    have a1 : (3 : Int) * (p : Int) = ((3 * p : Nat) : Int) := by omega
    have a2 : (2 : Int) * (p : Int) = ((2 * p : Nat) : Int) := by omega
    have a3 : (LG p h : Int) * (p : Int) = ((LG p h * p : Nat) : Int) := by rw [Int.natCast_mul]
    have c1 : ¬ (w : Int) < 1 := by omega
    have c2 : (w : Int) - 1 < ((3 * p : Nat) : Int) := by omega
    have q0 : 0 ≤ ((w : Int) - 1).tdiv 3 ∧ ((w : Int) - 1).tdiv 3 ≤ (w : Int) - 1 := ⟨Int.tdiv_nonneg (by omega) (by omega), Int.tdiv_le_self _ (by omega)⟩
    have q1 : IntKind.i64.wrap (((w : Int) - 1).tdiv 3) = ((w : Int) - 1).tdiv 3 := IntWalk.i64_in _ (by omega)
    have hz : ((1 : Nat) : Int) = 1 := rfl
    rw [hz]
    simp -implicitDefEqProofs (maxSteps := 10000000) (disch := omega) only [Tref04Where, Lref04Where, Gref04Where_ref04Fits, Vref04Fits_eq, Gref04Where_ref04owners, Vref04owners_eq, Gref04Where_ref04size, Vref04size_eq, hB, hR, hI, e, s0, s1, s2, s3, s4, o0, o1, o2, o3, o4, a1, a2, a3, e_loop, w0, c1, c2, q1, bt, bf, all1, ress, res1, retV, Value.cells, reduceIte, reduceCtorEq, Int.reduceLT, Int.reduceLE, Int.reduceToNat, Int.reduceAdd, Int.reduceSub, Int.reduceMul, Int.reduceNeg, Nat.reduceMul, Nat.reduceAdd, Nat.reduceSub, Nat.reduceBEq, Nat.reduceEqDiff, Nat.reduceLT, Nat.reduceLeDiff, Int.reduceBEq, Int.reduceEq, Nat.reducePow, Int.reducePow, Int.reduceGT, Int.reduceGE, Int.reduceBNe, newsV_s, ev1, ev2, ev3, ev4]
    with_reducible refine done2 ?_
    repeat (first | refine ext_new hN ?_ | exact fun _ _ h => h)
  by_cases h3 : w < bs p h 3
  · refine ⟨2, ((w : Int) - 1 - ((3 * p : Nat) : Int)).tdiv 2, ((w : Int) - 1 - ((3 * p : Nat) : Int)).tmod 2, by omega, by omega, h3, ?_⟩
    refine kval_eq hG fun H N hN => ?_
    have hB := good_B hN
    have hR := good_rdB hN
    have hI := beqN hN.1.1
    have e := rFits1 hG C
    have hh := C.h
    have hp := C.p
    have hb := LG_b C
    have s0 := rsize hG C (k := 0) (by omega)
    have s1 := rsize hG C (k := 1) (by omega)
    have s2 := rsize hG C (k := 2) (by omega)
    have s3 := rsize hG C (k := 3) (by omega)
    have s4 := rsize hG C (k := 4) (by omega)
    have o0 := rown hG (kk := kk) (p := p) (cc := cc) (k := 0) (by omega)
    have o1 := rown hG (kk := kk) (p := p) (cc := cc) (k := 1) (by omega)
    have o2 := rown hG (kk := kk) (p := p) (cc := cc) (k := 2) (by omega)
    have o3 := rown hG (kk := kk) (p := p) (cc := cc) (k := 3) (by omega)
    have o4 := rown hG (kk := kk) (p := p) (cc := cc) (k := 4) (by omega)
    have z3 : sz p h 3 = LG p h := rfl
    have z4 : sz p h 4 = h := rfl
    rw [z3] at s3
    rw [z4] at s4
    simp only [Int.cast_ofNat_Int, sz, mn] at s0 s1 s2 s3 s4 o0 o1 o2 o3 o4
    have a1 : (3 : Int) * (p : Int) = ((3 * p : Nat) : Int) := by omega
    have a2 : (2 : Int) * (p : Int) = ((2 * p : Nat) : Int) := by omega
    have a3 : (LG p h : Int) * (p : Int) = ((LG p h * p : Nat) : Int) := by rw [Int.natCast_mul]
    have c1 : ¬ (w : Int) < 1 := by omega
    have c2 : ¬ (w : Int) - 1 < ((3 * p : Nat) : Int) := by omega
    have c3 : (w : Int) - 1 - ((3 * p : Nat) : Int) < ((2 * p : Nat) : Int) := by omega
    have q0 : 0 ≤ ((w : Int) - 1 - ((3 * p : Nat) : Int)).tdiv 2 ∧ ((w : Int) - 1 - ((3 * p : Nat) : Int)).tdiv 2 ≤ (w : Int) - 1 - ((3 * p : Nat) : Int) := ⟨Int.tdiv_nonneg (by omega) (by omega), Int.tdiv_le_self _ (by omega)⟩
    have q1 : IntKind.i64.wrap (((w : Int) - 1 - ((3 * p : Nat) : Int)).tdiv 2) = ((w : Int) - 1 - ((3 * p : Nat) : Int)).tdiv 2 := IntWalk.i64_in _ (by omega)
    have hz : ((2 : Nat) : Int) = 2 := rfl
    rw [hz]
    simp -implicitDefEqProofs (maxSteps := 10000000) (disch := omega) only [Tref04Where, Lref04Where, Gref04Where_ref04Fits, Vref04Fits_eq, Gref04Where_ref04owners, Vref04owners_eq, Gref04Where_ref04size, Vref04size_eq, hB, hR, hI, e, s0, s1, s2, s3, s4, o0, o1, o2, o3, o4, a1, a2, a3, e_loop, w0, c1, c2, c3, q1, bt, bf, all1, ress, res1, retV, Value.cells, reduceIte, reduceCtorEq, Int.reduceLT, Int.reduceLE, Int.reduceToNat, Int.reduceAdd, Int.reduceSub, Int.reduceMul, Int.reduceNeg, Nat.reduceMul, Nat.reduceAdd, Nat.reduceSub, Nat.reduceBEq, Nat.reduceEqDiff, Nat.reduceLT, Nat.reduceLeDiff, Int.reduceBEq, Int.reduceEq, Nat.reducePow, Int.reducePow, Int.reduceGT, Int.reduceGE, Int.reduceBNe, newsV_s, ev1, ev2, ev3, ev4]
    with_reducible refine done2 ?_
    repeat (first | refine ext_new hN ?_ | exact fun _ _ h => h)
  by_cases h4 : w < bs p h 4
  · refine ⟨3, ((w : Int) - 1 - ((3 * p : Nat) : Int) - ((2 * p : Nat) : Int)).tdiv (LG p h : Int), ((w : Int) - 1 - ((3 * p : Nat) : Int) - ((2 * p : Nat) : Int)).tmod (LG p h : Int), by omega, by omega, h4, ?_⟩
    refine kval_eq hG fun H N hN => ?_
    have hB := good_B hN
    have hR := good_rdB hN
    have hI := beqN hN.1.1
    have e := rFits1 hG C
    have hh := C.h
    have hp := C.p
    have hb := LG_b C
    have s0 := rsize hG C (k := 0) (by omega)
    have s1 := rsize hG C (k := 1) (by omega)
    have s2 := rsize hG C (k := 2) (by omega)
    have s3 := rsize hG C (k := 3) (by omega)
    have s4 := rsize hG C (k := 4) (by omega)
    have o0 := rown hG (kk := kk) (p := p) (cc := cc) (k := 0) (by omega)
    have o1 := rown hG (kk := kk) (p := p) (cc := cc) (k := 1) (by omega)
    have o2 := rown hG (kk := kk) (p := p) (cc := cc) (k := 2) (by omega)
    have o3 := rown hG (kk := kk) (p := p) (cc := cc) (k := 3) (by omega)
    have o4 := rown hG (kk := kk) (p := p) (cc := cc) (k := 4) (by omega)
    have z3 : sz p h 3 = LG p h := rfl
    have z4 : sz p h 4 = h := rfl
    rw [z3] at s3
    rw [z4] at s4
    simp only [Int.cast_ofNat_Int, sz, mn] at s0 s1 s2 s3 s4 o0 o1 o2 o3 o4
    have a1 : (3 : Int) * (p : Int) = ((3 * p : Nat) : Int) := by omega
    have a2 : (2 : Int) * (p : Int) = ((2 * p : Nat) : Int) := by omega
    have a3 : (LG p h : Int) * (p : Int) = ((LG p h * p : Nat) : Int) := by rw [Int.natCast_mul]
    have c1 : ¬ (w : Int) < 1 := by omega
    have c2 : ¬ (w : Int) - 1 < ((3 * p : Nat) : Int) := by omega
    have c3 : ¬ (w : Int) - 1 - ((3 * p : Nat) : Int) < ((2 * p : Nat) : Int) := by omega
    have c4 : (w : Int) - 1 - ((3 * p : Nat) : Int) - ((2 * p : Nat) : Int) < ((LG p h * p : Nat) : Int) := by omega
    have c5 : ¬ (LG p h : Int) = 0 := by omega
    have q0 : 0 ≤ ((w : Int) - 1 - ((3 * p : Nat) : Int) - ((2 * p : Nat) : Int)).tdiv (LG p h : Int) ∧ ((w : Int) - 1 - ((3 * p : Nat) : Int) - ((2 * p : Nat) : Int)).tdiv (LG p h : Int) ≤ (w : Int) - 1 - ((3 * p : Nat) : Int) - ((2 * p : Nat) : Int) := ⟨Int.tdiv_nonneg (by omega) (by omega), Int.tdiv_le_self _ (by omega)⟩
    have q1 : IntKind.i64.wrap (((w : Int) - 1 - ((3 * p : Nat) : Int) - ((2 * p : Nat) : Int)).tdiv (LG p h : Int)) = ((w : Int) - 1 - ((3 * p : Nat) : Int) - ((2 * p : Nat) : Int)).tdiv (LG p h : Int) := IntWalk.i64_in _ (by omega)
    have hz : ((3 : Nat) : Int) = 3 := rfl
    rw [hz]
    generalize LG p h * p = X at *
    simp -implicitDefEqProofs (maxSteps := 10000000) (disch := omega) only [Tref04Where, Lref04Where, Gref04Where_ref04Fits, Vref04Fits_eq, Gref04Where_ref04owners, Vref04owners_eq, Gref04Where_ref04size, Vref04size_eq, hB, hR, hI, e, s0, s1, s2, s3, s4, o0, o1, o2, o3, o4, a1, a2, a3, e_loop, w0, c1, c2, c3, c4, c5, q1, bt, bf, all1, ress, res1, retV, Value.cells, reduceIte, reduceCtorEq, Int.reduceLT, Int.reduceLE, Int.reduceToNat, Int.reduceAdd, Int.reduceSub, Int.reduceMul, Int.reduceNeg, Nat.reduceMul, Nat.reduceAdd, Nat.reduceSub, Nat.reduceBEq, Nat.reduceEqDiff, Nat.reduceLT, Nat.reduceLeDiff, Int.reduceBEq, Int.reduceEq, Nat.reducePow, Int.reducePow, Int.reduceGT, Int.reduceGE, Int.reduceBNe, newsV_s, ev1, ev2, ev3, ev4]
    with_reducible refine done2 ?_
    repeat (first | refine ext_new hN ?_ | exact fun _ _ h => h)
  · refine ⟨4, ((w : Int) - 1 - ((3 * p : Nat) : Int) - ((2 * p : Nat) : Int) - ((LG p h * p : Nat) : Int)).tdiv (h : Int), ((w : Int) - 1 - ((3 * p : Nat) : Int) - ((2 * p : Nat) : Int) - ((LG p h * p : Nat) : Int)).tmod (h : Int), by omega, by omega, hw, ?_⟩
    refine kval_eq hG fun H N hN => ?_
    have hB := good_B hN
    have hR := good_rdB hN
    have hI := beqN hN.1.1
    have e := rFits1 hG C
    have hh := C.h
    have hp := C.p
    have hb := LG_b C
    have s0 := rsize hG C (k := 0) (by omega)
    have s1 := rsize hG C (k := 1) (by omega)
    have s2 := rsize hG C (k := 2) (by omega)
    have s3 := rsize hG C (k := 3) (by omega)
    have s4 := rsize hG C (k := 4) (by omega)
    have o0 := rown hG (kk := kk) (p := p) (cc := cc) (k := 0) (by omega)
    have o1 := rown hG (kk := kk) (p := p) (cc := cc) (k := 1) (by omega)
    have o2 := rown hG (kk := kk) (p := p) (cc := cc) (k := 2) (by omega)
    have o3 := rown hG (kk := kk) (p := p) (cc := cc) (k := 3) (by omega)
    have o4 := rown hG (kk := kk) (p := p) (cc := cc) (k := 4) (by omega)
    have z3 : sz p h 3 = LG p h := rfl
    have z4 : sz p h 4 = h := rfl
    rw [z3] at s3
    rw [z4] at s4
    simp only [Int.cast_ofNat_Int, sz, mn] at s0 s1 s2 s3 s4 o0 o1 o2 o3 o4
    have a1 : (3 : Int) * (p : Int) = ((3 * p : Nat) : Int) := by omega
    have a2 : (2 : Int) * (p : Int) = ((2 * p : Nat) : Int) := by omega
    have a3 : (LG p h : Int) * (p : Int) = ((LG p h * p : Nat) : Int) := by rw [Int.natCast_mul]
    generalize LG p h * p = X at *
    have c1 : ¬ (w : Int) < 1 := by omega
    have c2 : ¬ (w : Int) - 1 < ((3 * p : Nat) : Int) := by omega
    have c3 : ¬ (w : Int) - 1 - ((3 * p : Nat) : Int) < ((2 * p : Nat) : Int) := by omega
    have c4 : ¬ (w : Int) - 1 - ((3 * p : Nat) : Int) - ((2 * p : Nat) : Int) < (X : Int) := by omega
    have c6 : (w : Int) - 1 - ((3 * p : Nat) : Int) - ((2 * p : Nat) : Int) - (X : Int) < (h : Int) := by omega
    have c5 : ¬ (h : Int) = 0 := by omega
    have c7 : (h : Int) * 1 = (h : Int) := Int.mul_one _
    have q0 : 0 ≤ ((w : Int) - 1 - ((3 * p : Nat) : Int) - ((2 * p : Nat) : Int) - (X : Int)).tdiv (h : Int) ∧ ((w : Int) - 1 - ((3 * p : Nat) : Int) - ((2 * p : Nat) : Int) - (X : Int)).tdiv (h : Int) ≤ (w : Int) - 1 - ((3 * p : Nat) : Int) - ((2 * p : Nat) : Int) - (X : Int) := ⟨Int.tdiv_nonneg (by omega) (by omega), Int.tdiv_le_self _ (by omega)⟩
    have q1 : IntKind.i64.wrap (((w : Int) - 1 - ((3 * p : Nat) : Int) - ((2 * p : Nat) : Int) - (X : Int)).tdiv (h : Int)) = ((w : Int) - 1 - ((3 * p : Nat) : Int) - ((2 * p : Nat) : Int) - (X : Int)).tdiv (h : Int) := IntWalk.i64_in _ (by omega)
    have hz : ((4 : Nat) : Int) = 4 := rfl
    rw [hz]
    simp -implicitDefEqProofs (maxSteps := 10000000) (disch := omega) only [Tref04Where, Lref04Where, Gref04Where_ref04Fits, Vref04Fits_eq, Gref04Where_ref04owners, Vref04owners_eq, Gref04Where_ref04size, Vref04size_eq, hB, hR, hI, e, s0, s1, s2, s3, s4, o0, o1, o2, o3, o4, a1, a2, a3, e_loop, w0, c1, c2, c3, c4, c5, c6, c7, q1, bt, bf, all1, ress, res1, retV, Value.cells, reduceIte, reduceCtorEq, Int.reduceLT, Int.reduceLE, Int.reduceToNat, Int.reduceAdd, Int.reduceSub, Int.reduceMul, Int.reduceNeg, Nat.reduceMul, Nat.reduceAdd, Nat.reduceSub, Nat.reduceBEq, Nat.reduceEqDiff, Nat.reduceLT, Nat.reduceLeDiff, Int.reduceBEq, Int.reduceEq, Nat.reducePow, Int.reducePow, Int.reduceGT, Int.reduceGE, Int.reduceBNe, newsV_s, ev1, ev2, ev3, ev4]
    with_reducible refine done2 ?_
    repeat (first | refine ext_new hN ?_ | exact fun _ _ h => h)
end Go.Proofs.YtfhiplfagejfoaaDoor
namespace Go.Proofs.YtfhiplfagejfoaaDoor
open Go.Proofs.YtfhiplfagejfoaaDoor.K Go.ChangeShapes Go.WideShapes Go.ChangeAt Go.RowKit 
set_option maxRecDepth 100000
set_option linter.unusedSimpArgs false
set_option linter.unusedVariables false
def Lwlogmost : FnL := ⟨(.seq (.ops [⟨(some 1), .box (.tmp 0), none⟩, ⟨(some 2), .mv (.const (.int .i64 0)), none⟩])
 (.seq (.ops [⟨(some 3), .load true 3 (.tmp 1), none⟩, ⟨(some 4), .call (.func 30) [(.tmp 3)], none⟩, ⟨(some 5), .bin .sub (.tmp 4) (.const (.int .i64 1)), none⟩, ⟨(some 6), .bin .quo (.tmp 5) (.const (.int .i64 2)), none⟩, ⟨(some 2), .mv (.tmp 6), none⟩])
 .ret)),
 7, [.tmp 2]⟩
theorem lowwlogmost : lowerFn Tryd.prog Tryd.f47 = some Lwlogmost := by kernel_rfl
noncomputable def Gwlogmost (B : OH) : Nat → Cs
  | 30 => V11 B
  | _ => fun _ _ _ => none
theorem Gwlogmost_11 {B : OH} : Gwlogmost B 30 = V11 B := rfl
theorem sGwlogmost {w0 : World} {B : OH} : SoundG Tryd.prog w0 B { f := Gwlogmost B } := .of fun k => by
  unfold Gwlogmost
  split
  · exact .inr ⟨en11, sV11⟩
  · exact .inl fun _ _ _ => rfl
theorem enwlogmost : Enter Tryd.prog 47 := .of Tryd.func47 (by kernel_rfl) (by kernel_rfl)
noncomputable def Twlogmost (B : OH) : Cs := callF B { f := Gwlogmost B } 80 Lwlogmost
theorem sTwlogmost {w0 : World} {B : OH} : SoundC Tryd.prog w0 B 47 (Twlogmost B) := callF_sound mixedOrders sGwlogmost 80 Tryd.func47 lowwlogmost
noncomputable def Fwlogmost (B : OH) : List Value → Option Value := kval B (Twlogmost B)
noncomputable def Vwlogmost (B : OH) : Cs := fun a H N => pvE (Fwlogmost B a) H N
theorem Vwlogmost_eq {B : OH} {a : List Value} {H : HL} {N : St} : Vwlogmost B a H N = pvE (Fwlogmost B a) H N := rfl
theorem sVwlogmost {w0 : World} {B : OH} : SoundC Tryd.prog w0 B 47 (Vwlogmost B) := sTwlogmost.ofVal
theorem fmost {B : OH} (hG : ∃ H N, good B H N) (hT : Tab B) {kk p cc h : Nat} (C : Cf kk p cc h) : Fwlogmost B [.agg #[.int .i64 (kk : Int), .int .i64 (p : Int), .int .i64 (cc : Int)]] = some (.int .i64 ((h + 2 * p : Nat) : Int)) := by
  refine kval_eq hG fun H N hN => ?_
  have hB := good_B hN
  have hR := good_rdB hN
  have hI := beqN hN.1.1
  have e := f11c hG hT C
  have hb := LG_b C
  have a1 : (LG p h : Int) - 1 = ((h + 2 * p : Nat) : Int) * 2 := by unfold LG; omega
  have a2 : IntKind.i64.wrap ((LG p h : Int) - 1) = ((h + 2 * p : Nat) : Int) * 2 := by rw [IntWalk.i64_in _ (by omega), a1]
  have a3 : (((h + 2 * p : Nat) : Int) * 2).tdiv 2 = ((h + 2 * p : Nat) : Int) := Int.mul_tdiv_cancel _ (by omega)
  have a4 : IntKind.i64.wrap ((h + 2 * p : Nat) : Int) = ((h + 2 * p : Nat) : Int) := IntWalk.i64_in _ (by unfold LG at hb; omega)
  simp -implicitDefEqProofs (maxSteps := 10000000) (disch := omega) only [Twlogmost, Lwlogmost, Gwlogmost_11, V11_eq, hB, hR, hI, e, a2, a3, a4, bt, bf, all1, ress, res1, retV, Value.cells, reduceIte, reduceCtorEq, Int.reduceLT, Int.reduceLE, Int.reduceToNat, Int.reduceAdd, Int.reduceSub, Int.reduceMul, Int.reduceNeg, Nat.reduceMul, Nat.reduceAdd, Nat.reduceSub, Nat.reduceBEq, Nat.reduceEqDiff, Nat.reduceLT, Nat.reduceLeDiff, Int.reduceBEq, Int.reduceEq, Nat.reducePow, Int.reducePow, Int.reduceGT, Int.reduceGE, Int.reduceBNe, newsV_s, ev1, ev2, ev3, ev4]
  with_reducible refine done2 ?_
  repeat (first | refine ext_new hN ?_ | exact fun _ _ h => h)
def Lref16Most : FnL := ⟨(.seq (.ops [⟨(some 1), .box (.tmp 0), none⟩, ⟨(some 2), .mv (.const (.int .i64 0)), none⟩])
 (.seq (.draw [⟨⟨(some 3), .load true 3 (.tmp 1), none⟩, []⟩, ⟨⟨(some 5), .faddr 1 (.tmp 1), none⟩, []⟩, ⟨⟨(some 6), .load false 1 (.tmp 5), none⟩, []⟩, ⟨⟨(some 7), .bin .mul (.const (.int .i64 2)) (.tmp 6), none⟩, []⟩, ⟨⟨(some 4), .call (.func 38) [(.tmp 3)], none⟩, [⟨(some 6), .load false 1 (.tmp 5), none⟩]⟩, ⟨⟨(some 8), .bin .add (.tmp 4) (.tmp 7), none⟩, []⟩, ⟨⟨(some 2), .mv (.tmp 8), none⟩, []⟩])
 .ret)),
 9, [.tmp 2]⟩
theorem lowref16Most : lowerFn Tryd.prog Tryd.f29 = some Lref16Most := by kernel_rfl
noncomputable def Gref16Most (B : OH) : Nat → Cs
  | 38 => Vref04Home B
  | _ => fun _ _ _ => none
theorem Gref16Most_ref04Home {B : OH} : Gref16Most B 38 = Vref04Home B := rfl
theorem sGref16Most {w0 : World} {B : OH} : SoundG Tryd.prog w0 B { f := Gref16Most B } := .of fun k => by
  unfold Gref16Most
  split
  · exact .inr ⟨enref04Home, sVref04Home⟩
  · exact .inl fun _ _ _ => rfl
theorem enref16Most : Enter Tryd.prog 29 := .of Tryd.func29 (by kernel_rfl) (by kernel_rfl)
noncomputable def Tref16Most (B : OH) : Cs := callF B { f := Gref16Most B } 80 Lref16Most
theorem sTref16Most {w0 : World} {B : OH} : SoundC Tryd.prog w0 B 29 (Tref16Most B) := callF_sound mixedOrders sGref16Most 80 Tryd.func29 lowref16Most
noncomputable def Fref16Most (B : OH) : List Value → Option Value := kval B (Tref16Most B)
noncomputable def Vref16Most (B : OH) : Cs := fun a H N => pvE (Fref16Most B a) H N
theorem Vref16Most_eq {B : OH} {a : List Value} {H : HL} {N : St} : Vref16Most B a H N = pvE (Fref16Most B a) H N := rfl
theorem sVref16Most {w0 : World} {B : OH} : SoundC Tryd.prog w0 B 29 (Vref16Most B) := sTref16Most.ofVal
theorem rmost {B : OH} (hG : ∃ H N, good B H N) {kk p cc h : Nat} (C : Cf kk p cc h) : Fref16Most B [.agg #[.int .i64 (kk : Int), .int .i64 (p : Int), .int .i64 (cc : Int)]] = some (.int .i64 ((h + 2 * p : Nat) : Int)) := by
  refine kval_eq hG fun H N hN => ?_
  have hB := good_B hN
  have hR := good_rdB hN
  have hI := beqN hN.1.1
  have e := rHome hG C
  have hb := C.h
  have hp := C.p
  have a1 : ((h + 2 * p : Nat) : Int) = (h : Int) + 2 * (p : Int) := by omega
  simp -implicitDefEqProofs (maxSteps := 10000000) (disch := omega) only [Tref16Most, Lref16Most, Gref16Most_ref04Home, Vref04Home_eq, hB, hR, hI, e, a1, bt, bf, all1, ress, res1, retV, Value.cells, reduceIte, reduceCtorEq, Int.reduceLT, Int.reduceLE, Int.reduceToNat, Int.reduceAdd, Int.reduceSub, Int.reduceMul, Int.reduceNeg, Nat.reduceMul, Nat.reduceAdd, Nat.reduceSub, Nat.reduceBEq, Nat.reduceEqDiff, Nat.reduceLT, Nat.reduceLeDiff, Int.reduceBEq, Int.reduceEq, Nat.reducePow, Int.reducePow, Int.reduceGT, Int.reduceGE, Int.reduceBNe, newsV_s, ev1, ev2, ev3, ev4]
  with_reducible refine done2 ?_
  repeat (first | refine ext_new hN ?_ | exact fun _ _ h => h)
def plV (p h : Nat) (w : Int) : Value := if okP p h w then .tuple #[.int .i64 w, .bool true] else .tuple #[.int .i64 0, .bool false]
theorem plV_y {p h : Nat} {w : Int} (H : okP p h w) : plV p h w = .tuple #[.int .i64 w, .bool true] := if_pos H
theorem plV_n {p h : Nat} {w : Int} (H : ¬ okP p h w) : plV p h w = .tuple #[.int .i64 0, .bool false] := if_neg H
theorem okP_part {kk p cc h : Nat} (C : Cf kk p cc h) {k w : Nat} (hk : k < 5) (h1 : bs p h k ≤ w) (h2 : w < bs p h (k + 1)) : okP p h w ↔ (k = 2 ∨ k = 4) := by
  have b0 : bs p h 0 = 0 := rfl
  have b1 := bs_1 (p := p) (h := h)
  have b2 := bs_2 (p := p) (h := h)
  have b3 := bs_3 (p := p) (h := h)
  have b4 := bs_4 (p := p) (h := h)
  have b5 := bs_5 (p := p) (h := h)
  have hh := C.h
  have hp := C.p
  unfold okP
  obtain rfl | rfl | rfl | rfl | rfl : k = 0 ∨ k = 1 ∨ k = 2 ∨ k = 3 ∨ k = 4 := by omega
  all_goals (simp only [Nat.zero_add, Nat.reduceAdd] at h1 h2; omega)
def LwlogPlace : FnL := ⟨(.seq (.ops [⟨(some 2), .box (.tmp 0), none⟩, ⟨(some 4), .mv (.const (.int .i64 0)), none⟩, ⟨(some 5), .mv (.const (.bool false)), none⟩])
 (.seq (.seq (.ops [⟨(some 9), .mv (.tmp 1), none⟩, ⟨(some 10), .load true 3 (.tmp 2), none⟩, ⟨(some 11), .call (.func 41) [(.tmp 10)], none⟩, ⟨(some 12), .conv .u64 (.tmp 11), none⟩, ⟨(some 13), .bin .geq (.tmp 9) (.tmp 12), none⟩])
 (.cond (.tmp 13) (.seq (.ops [⟨(some 4), .mv (.const (.int .i64 0)), none⟩, ⟨(some 5), .mv (.const (.bool false)), none⟩])
 .ret)
 .skip))
 (.seq (.seq (.ops [⟨(some 15), .load true 3 (.tmp 2), none⟩, ⟨(some 16), .mv (.tmp 1), none⟩, ⟨(some 17), .conv .i64 (.tmp 16), none⟩, ⟨(some 18), .call (.func 32) [(.tmp 15), (.tmp 17)], none⟩, ⟨(some 14), .mv (.tmp 18), none⟩, ⟨(some 19), .ext (.tmp 14) 0, none⟩, ⟨(some 20), .ext (.tmp 14) 1, none⟩, ⟨(some 21), .ext (.tmp 14) 2, none⟩, ⟨(some 6), .mv (.tmp 19), none⟩, ⟨(some 7), .mv (.tmp 20), none⟩, ⟨(some 8), .mv (.tmp 21), none⟩])
 (.seq (.ops [⟨(some 22), .mv (.tmp 6), none⟩])
 (.block 0 (.seq (.seq (.ops [⟨(some 24), .bin .eql (.tmp 22) (.const (.int .i64 2)), none⟩, ⟨(some 23), .mv (.tmp 24), none⟩])
 (.cond (.tmp 23) .skip
 (.ops [⟨(some 25), .bin .eql (.tmp 22) (.const (.int .i64 4)), none⟩, ⟨(some 23), .mv (.tmp 25), none⟩])))
 (.cond (.tmp 23) (.seq (.ops [⟨(some 26), .mv (.tmp 1), none⟩, ⟨(some 27), .conv .i64 (.tmp 26), none⟩, ⟨(some 4), .mv (.tmp 27), none⟩, ⟨(some 5), .mv (.const (.bool true)), none⟩])
 .ret)
 .skip)))))
 (.seq (.ops [⟨(some 4), .mv (.const (.int .i64 0)), none⟩, ⟨(some 5), .mv (.const (.bool false)), none⟩])
 .ret)))),
 28, [.tmp 4, .tmp 5]⟩
theorem lowwlogPlace : lowerFn Tryd.prog Tryd.f14 = some LwlogPlace := by kernel_rfl
noncomputable def GwlogPlace (B : OH) : Nat → Cs
  | 41 => V7 B
  | 32 => V9 B
  | _ => fun _ _ _ => none
theorem GwlogPlace_7 {B : OH} : GwlogPlace B 41 = V7 B := rfl
theorem GwlogPlace_9 {B : OH} : GwlogPlace B 32 = V9 B := rfl
theorem sGwlogPlace {w0 : World} {B : OH} : SoundG Tryd.prog w0 B { f := GwlogPlace B } := .of fun k => by
  unfold GwlogPlace
  split
  · exact .inr ⟨en7, sV7⟩
  · exact .inr ⟨en9, sV9⟩
  · exact .inl fun _ _ _ => rfl
theorem enwlogPlace : Enter Tryd.prog 14 := .of Tryd.func14 (by kernel_rfl) (by kernel_rfl)
noncomputable def TwlogPlace (B : OH) : Cs := callF B { f := GwlogPlace B } 80 LwlogPlace
theorem sTwlogPlace {w0 : World} {B : OH} : SoundC Tryd.prog w0 B 14 (TwlogPlace B) := callF_sound mixedOrders sGwlogPlace 80 Tryd.func14 lowwlogPlace
noncomputable def FwlogPlace (B : OH) : List Value → Option Value := kval B (TwlogPlace B)
noncomputable def VwlogPlace (B : OH) : Cs := fun a H N => pvE (FwlogPlace B a) H N
theorem VwlogPlace_eq {B : OH} {a : List Value} {H : HL} {N : St} : VwlogPlace B a H N = pvE (FwlogPlace B a) H N := rfl
theorem sVwlogPlace {w0 : World} {B : OH} : SoundC Tryd.prog w0 B 14 (VwlogPlace B) := sTwlogPlace.ofVal
set_option maxHeartbeats 1000000 in
theorem fPlace {B : OH} (hG : ∃ H N, good B H N) (hT : Tab B) {kk p cc h : Nat} (C : Cf kk p cc h) {w : Int} (hu : u64R w) : FwlogPlace B [.agg #[.int .i64 (kk : Int), .int .i64 (p : Int), .int .i64 (cc : Int)], .int .u64 w] = some (plV p h w) := by
  refine kval_eq hG fun H N hN => ?_
  have hB := good_B hN
  have hR := good_rdB hN
  have hI := beqN hN.1.1
  have e := f7c hG hT C
  have hb5 := bs5_b C
  unfold u64R at hu
  have wz : IntKind.u64.wrap ((bs p h 5 : Nat) : Int) = ((bs p h 5 : Nat) : Int) := IntWalk.u64_in _ (by omega)
  by_cases hw : w ≥ ((bs p h 5 : Nat) : Int)
  · rw [plV_n (fun h => by have := okP_b C h; omega)]
    simp -implicitDefEqProofs (maxSteps := 10000000) (disch := omega) only [TwlogPlace, LwlogPlace, GwlogPlace_7, V7_eq, GwlogPlace_9, V9_eq, hB, hR, hI, e, wz, hw, bt, bf, all1, ress, res1, retV, Value.cells, reduceIte, reduceCtorEq, Int.reduceLT, Int.reduceLE, Int.reduceToNat, Int.reduceAdd, Int.reduceSub, Int.reduceMul, Int.reduceNeg, Nat.reduceMul, Nat.reduceAdd, Nat.reduceSub, Nat.reduceBEq, Nat.reduceEqDiff, Nat.reduceLT, Nat.reduceLeDiff, Int.reduceBEq, Int.reduceEq, Nat.reducePow, Int.reducePow, Int.reduceGT, Int.reduceGE, Int.reduceBNe, newsV_s, ev1, ev2, ev3, ev4]
    with_reducible refine done2 ?_
    repeat (first | refine ext_new hN ?_ | exact fun _ _ h => h)
  obtain ⟨n, rfl⟩ : ∃ n : Nat, w = (n : Int) := ⟨w.toNat, by omega⟩
  have hn : n < bs p h 5 := by omega
  have wn : IntKind.i64.wrap (n : Int) = (n : Int) := IntWalk.i64_in _ (by omega)
  obtain ⟨k, o, hk, ho, h1, h2⟩ := has_part (p := p) C.h.1 5 hn
  have e9 := f9 hG hT C.k C.p C.c C.m hk ho h1 h2
  have hle : bs p h k ≤ n := by unfold fr at h1; omega
  have hlt : n < bs p h (k + 1) := by
    have := fr_lt (p := p) (h := h) ho (show Lt k o (k + 1) 0 from .inl (by omega))
    rw [fr_zero] at this; omega
  have hp := okP_part C hk hle hlt
  by_cases h24 : k = 2 ∨ k = 4
  · rw [plV_y (hp.2 h24)]
    rcases h24 with rfl | rfl
    · have c1 : (((2 : Nat) : Int) == 2) = true := rfl
      simp -implicitDefEqProofs (maxSteps := 10000000) (disch := omega) only [TwlogPlace, LwlogPlace, GwlogPlace_7, V7_eq, GwlogPlace_9, V9_eq, hB, hR, hI, e, e9, wz, hw, wn, c1, bt, bf, all1, ress, res1, retV, Value.cells, reduceIte, reduceCtorEq, Int.reduceLT, Int.reduceLE, Int.reduceToNat, Int.reduceAdd, Int.reduceSub, Int.reduceMul, Int.reduceNeg, Nat.reduceMul, Nat.reduceAdd, Nat.reduceSub, Nat.reduceBEq, Nat.reduceEqDiff, Nat.reduceLT, Nat.reduceLeDiff, Int.reduceBEq, Int.reduceEq, Nat.reducePow, Int.reducePow, Int.reduceGT, Int.reduceGE, Int.reduceBNe, newsV_s, ev1, ev2, ev3, ev4]
      with_reducible refine done2 ?_
      repeat (first | refine ext_new hN ?_ | exact fun _ _ h => h)
    · have c1 : (((4 : Nat) : Int) == 2) = false := rfl
      have c2 : (((4 : Nat) : Int) == 4) = true := rfl
      simp -implicitDefEqProofs (maxSteps := 10000000) (disch := omega) only [TwlogPlace, LwlogPlace, GwlogPlace_7, V7_eq, GwlogPlace_9, V9_eq, hB, hR, hI, e, e9, wz, hw, wn, c1, c2, bt, bf, all1, ress, res1, retV, Value.cells, reduceIte, reduceCtorEq, Int.reduceLT, Int.reduceLE, Int.reduceToNat, Int.reduceAdd, Int.reduceSub, Int.reduceMul, Int.reduceNeg, Nat.reduceMul, Nat.reduceAdd, Nat.reduceSub, Nat.reduceBEq, Nat.reduceEqDiff, Nat.reduceLT, Nat.reduceLeDiff, Int.reduceBEq, Int.reduceEq, Nat.reducePow, Int.reducePow, Int.reduceGT, Int.reduceGE, Int.reduceBNe, newsV_s, ev1, ev2, ev3, ev4]
      with_reducible refine done2 ?_
      repeat (first | refine ext_new hN ?_ | exact fun _ _ h => h)
  · rw [plV_n (fun h => h24 (hp.1 h))]
    have c1 : ((k : Int) == 2) = false := beqI (by omega)
    have c2 : ((k : Int) == 4) = false := beqI (by omega)
    simp -implicitDefEqProofs (maxSteps := 10000000) (disch := omega) only [TwlogPlace, LwlogPlace, GwlogPlace_7, V7_eq, GwlogPlace_9, V9_eq, hB, hR, hI, e, e9, wz, hw, wn, c1, c2, bt, bf, all1, ress, res1, retV, Value.cells, reduceIte, reduceCtorEq, Int.reduceLT, Int.reduceLE, Int.reduceToNat, Int.reduceAdd, Int.reduceSub, Int.reduceMul, Int.reduceNeg, Nat.reduceMul, Nat.reduceAdd, Nat.reduceSub, Nat.reduceBEq, Nat.reduceEqDiff, Nat.reduceLT, Nat.reduceLeDiff, Int.reduceBEq, Int.reduceEq, Nat.reducePow, Int.reducePow, Int.reduceGT, Int.reduceGE, Int.reduceBNe, newsV_s, ev1, ev2, ev3, ev4]
    with_reducible refine done2 ?_
    repeat (first | refine ext_new hN ?_ | exact fun _ _ h => h)
theorem fPlacen {B : OH} (hG : ∃ H N, good B H N) (k p c : Int) (h : ¬ fitI k p c) {w : Int} (hu : u64R w) : FwlogPlace B [.agg #[.int .i64 k, .int .i64 p, .int .i64 c], .int .u64 w] = some (.tuple #[.int .i64 0, .bool false]) := by
  refine kval_eq hG fun H N hN => ?_
  have hB := good_B hN
  have hR := good_rdB hN
  have hI := beqN hN.1.1
  have e := f7n hG k p c h
  unfold u64R at hu
  have hw : w ≥ 0 := hu.1
  simp -implicitDefEqProofs (maxSteps := 10000000) (disch := omega) only [TwlogPlace, LwlogPlace, GwlogPlace_7, V7_eq, GwlogPlace_9, V9_eq, hB, hR, hI, e, hw, bt, bf, all1, ress, res1, retV, Value.cells, reduceIte, reduceCtorEq, Int.reduceLT, Int.reduceLE, Int.reduceToNat, Int.reduceAdd, Int.reduceSub, Int.reduceMul, Int.reduceNeg, Nat.reduceMul, Nat.reduceAdd, Nat.reduceSub, Nat.reduceBEq, Nat.reduceEqDiff, Nat.reduceLT, Nat.reduceLeDiff, Int.reduceBEq, Int.reduceEq, Nat.reducePow, Int.reducePow, Int.reduceGT, Int.reduceGE, Int.reduceBNe, newsV_s, ev1, ev2, ev3, ev4]
  with_reducible refine done2 ?_
  repeat (first | refine ext_new hN ?_ | exact fun _ _ h => h)
def Lref16Place : FnL := ⟨(.seq (.ops [⟨(some 2), .box (.tmp 0), none⟩, ⟨(some 4), .mv (.const (.int .i64 0)), none⟩, ⟨(some 5), .mv (.const (.bool false)), none⟩])
 (.seq (.seq (.ops [⟨(some 9), .load true 3 (.tmp 2), none⟩, ⟨(some 10), .call (.func 39) [(.tmp 9)], none⟩, ⟨(some 11), .un .not (.tmp 10), none⟩, ⟨(some 12), .mv (.tmp 11), none⟩, ⟨(some 13), .mv (.tmp 1), (some (12, false))⟩, ⟨(some 14), .load true 3 (.tmp 2), (some (12, false))⟩, ⟨(some 15), .call (.func 35) [(.tmp 14)], (some (12, false))⟩, ⟨(some 16), .conv .u64 (.tmp 15), (some (12, false))⟩, ⟨(some 17), .bin .geq (.tmp 13) (.tmp 16), (some (12, false))⟩, ⟨(some 18), .pick (.tmp 12) (.const (.bool true)) (.tmp 17), none⟩])
 (.cond (.tmp 18) (.seq (.ops [⟨(some 4), .mv (.const (.int .i64 0)), none⟩, ⟨(some 5), .mv (.const (.bool false)), none⟩])
 .ret)
 .skip))
 (.seq (.ops [⟨(some 20), .load true 3 (.tmp 2), none⟩, ⟨(some 21), .mv (.tmp 1), none⟩, ⟨(some 22), .conv .i64 (.tmp 21), none⟩, ⟨(some 23), .call (.func 42) [(.tmp 20), (.tmp 22)], none⟩, ⟨(some 19), .mv (.tmp 23), none⟩, ⟨(some 24), .ext (.tmp 19) 0, none⟩, ⟨(some 25), .ext (.tmp 19) 1, none⟩, ⟨(some 26), .ext (.tmp 19) 2, none⟩, ⟨(some 6), .mv (.tmp 24), none⟩, ⟨(some 7), .mv (.tmp 25), none⟩, ⟨(some 8), .mv (.tmp 26), none⟩])
 (.seq (.seq (.ops [⟨(some 27), .mv (.tmp 6), none⟩, ⟨(some 28), .bin .neq (.tmp 27) (.const (.int .i64 2)), none⟩, ⟨(some 29), .mv (.tmp 28), none⟩, ⟨(some 30), .mv (.tmp 6), (some (29, true))⟩, ⟨(some 31), .bin .neq (.tmp 30) (.const (.int .i64 4)), (some (29, true))⟩, ⟨(some 32), .pick (.tmp 29) (.tmp 31) (.const (.bool false)), none⟩])
 (.cond (.tmp 32) (.seq (.ops [⟨(some 4), .mv (.const (.int .i64 0)), none⟩, ⟨(some 5), .mv (.const (.bool false)), none⟩])
 .ret)
 .skip))
 (.seq (.ops [⟨(some 33), .mv (.tmp 1), none⟩, ⟨(some 34), .conv .i64 (.tmp 33), none⟩, ⟨(some 4), .mv (.tmp 34), none⟩, ⟨(some 5), .mv (.const (.bool true)), none⟩])
 .ret))))),
 35, [.tmp 4, .tmp 5]⟩
theorem lowref16Place : lowerFn Tryd.prog Tryd.f15 = some Lref16Place := by kernel_rfl
noncomputable def Gref16Place (B : OH) : Nat → Cs
  | 39 => Vref04Fits B
  | 35 => Vref04Size B
  | 42 => Vref04Where B
  | _ => fun _ _ _ => none
theorem Gref16Place_ref04Fits {B : OH} : Gref16Place B 39 = Vref04Fits B := rfl
theorem Gref16Place_ref04Size {B : OH} : Gref16Place B 35 = Vref04Size B := rfl
theorem Gref16Place_ref04Where {B : OH} : Gref16Place B 42 = Vref04Where B := rfl
theorem sGref16Place {w0 : World} {B : OH} : SoundG Tryd.prog w0 B { f := Gref16Place B } := .of fun k => by
  unfold Gref16Place
  split
  · exact .inr ⟨enref04Fits, sVref04Fits⟩
  · exact .inr ⟨enref04Size, sVref04Size⟩
  · exact .inr ⟨enref04Where, sVref04Where⟩
  · exact .inl fun _ _ _ => rfl
theorem enref16Place : Enter Tryd.prog 15 := .of Tryd.func15 (by kernel_rfl) (by kernel_rfl)
noncomputable def Tref16Place (B : OH) : Cs := callF B { f := Gref16Place B } 80 Lref16Place
theorem sTref16Place {w0 : World} {B : OH} : SoundC Tryd.prog w0 B 15 (Tref16Place B) := callF_sound mixedOrders sGref16Place 80 Tryd.func15 lowref16Place
noncomputable def Fref16Place (B : OH) : List Value → Option Value := kval B (Tref16Place B)
noncomputable def Vref16Place (B : OH) : Cs := fun a H N => pvE (Fref16Place B a) H N
theorem Vref16Place_eq {B : OH} {a : List Value} {H : HL} {N : St} : Vref16Place B a H N = pvE (Fref16Place B a) H N := rfl
theorem sVref16Place {w0 : World} {B : OH} : SoundC Tryd.prog w0 B 15 (Vref16Place B) := sTref16Place.ofVal
set_option maxHeartbeats 1000000 in
theorem rPlace {B : OH} (hG : ∃ H N, good B H N) {kk p cc h : Nat} (C : Cf kk p cc h) {w : Int} (hu : u64R w) : Fref16Place B [.agg #[.int .i64 (kk : Int), .int .i64 (p : Int), .int .i64 (cc : Int)], .int .u64 w] = some (plV p h w) := by
  refine kval_eq hG fun H N hN => ?_
  have hB := good_B hN
  have hR := good_rdB hN
  have hI := beqN hN.1.1
  have e := rFits1 hG C
  have e2 := rSize hG C
  have hb5 := bs5_b C
  unfold u64R at hu
  have wz : IntKind.u64.wrap ((bs p h 5 : Nat) : Int) = ((bs p h 5 : Nat) : Int) := IntWalk.u64_in _ (by omega)
  by_cases hw : w ≥ ((bs p h 5 : Nat) : Int)
  · rw [plV_n (fun h => by have := okP_b C h; omega)]
    simp -implicitDefEqProofs (maxSteps := 10000000) (disch := omega) only [Tref16Place, Lref16Place, Gref16Place_ref04Fits, Vref04Fits_eq, Gref16Place_ref04Size, Vref04Size_eq, Gref16Place_ref04Where, Vref04Where_eq, hB, hR, hI, e, e2, wz, hw, bt, bf, all1, ress, res1, retV, Value.cells, reduceIte, reduceCtorEq, Int.reduceLT, Int.reduceLE, Int.reduceToNat, Int.reduceAdd, Int.reduceSub, Int.reduceMul, Int.reduceNeg, Nat.reduceMul, Nat.reduceAdd, Nat.reduceSub, Nat.reduceBEq, Nat.reduceEqDiff, Nat.reduceLT, Nat.reduceLeDiff, Int.reduceBEq, Int.reduceEq, Nat.reducePow, Int.reducePow, Int.reduceGT, Int.reduceGE, Int.reduceBNe, newsV_s, ev1, ev2, ev3, ev4]
    with_reducible refine done2 ?_
    repeat (first | refine ext_new hN ?_ | exact fun _ _ h => h)
  obtain ⟨n, rfl⟩ : ∃ n : Nat, w = (n : Int) := ⟨w.toNat, by omega⟩
  have hn : n < bs p h 5 := by omega
  have wn : IntKind.i64.wrap (n : Int) = (n : Int) := IntWalk.i64_in _ (by omega)
  obtain ⟨k, x, y, hk, hle, hlt, e9⟩ := rWhere hG C hn
  have hp := okP_part C hk hle hlt
  by_cases h24 : k = 2 ∨ k = 4
  · rw [plV_y (hp.2 h24)]
    rcases h24 with rfl | rfl
    · have c1 : (((2 : Nat) : Int) != 2) = false := rfl
      simp -implicitDefEqProofs (maxSteps := 10000000) (disch := omega) only [Tref16Place, Lref16Place, Gref16Place_ref04Fits, Vref04Fits_eq, Gref16Place_ref04Size, Vref04Size_eq, Gref16Place_ref04Where, Vref04Where_eq, hB, hR, hI, e, e2, e9, wz, hw, wn, c1, bt, bf, all1, ress, res1, retV, Value.cells, reduceIte, reduceCtorEq, Int.reduceLT, Int.reduceLE, Int.reduceToNat, Int.reduceAdd, Int.reduceSub, Int.reduceMul, Int.reduceNeg, Nat.reduceMul, Nat.reduceAdd, Nat.reduceSub, Nat.reduceBEq, Nat.reduceEqDiff, Nat.reduceLT, Nat.reduceLeDiff, Int.reduceBEq, Int.reduceEq, Nat.reducePow, Int.reducePow, Int.reduceGT, Int.reduceGE, Int.reduceBNe, newsV_s, ev1, ev2, ev3, ev4]
      with_reducible refine done2 ?_
      repeat (first | refine ext_new hN ?_ | exact fun _ _ h => h)
    · have c1 : (((4 : Nat) : Int) != 2) = true := rfl
      have c2 : (((4 : Nat) : Int) != 4) = false := rfl
      simp -implicitDefEqProofs (maxSteps := 10000000) (disch := omega) only [Tref16Place, Lref16Place, Gref16Place_ref04Fits, Vref04Fits_eq, Gref16Place_ref04Size, Vref04Size_eq, Gref16Place_ref04Where, Vref04Where_eq, hB, hR, hI, e, e2, e9, wz, hw, wn, c1, c2, bt, bf, all1, ress, res1, retV, Value.cells, reduceIte, reduceCtorEq, Int.reduceLT, Int.reduceLE, Int.reduceToNat, Int.reduceAdd, Int.reduceSub, Int.reduceMul, Int.reduceNeg, Nat.reduceMul, Nat.reduceAdd, Nat.reduceSub, Nat.reduceBEq, Nat.reduceEqDiff, Nat.reduceLT, Nat.reduceLeDiff, Int.reduceBEq, Int.reduceEq, Nat.reducePow, Int.reducePow, Int.reduceGT, Int.reduceGE, Int.reduceBNe, newsV_s, ev1, ev2, ev3, ev4]
      with_reducible refine done2 ?_
      repeat (first | refine ext_new hN ?_ | exact fun _ _ h => h)
  · rw [plV_n (fun h => h24 (hp.1 h))]
    have c1 : ((k : Int) != 2) = true := by simp; omega
    have c2 : ((k : Int) != 4) = true := by simp; omega
    simp -implicitDefEqProofs (maxSteps := 10000000) (disch := omega) only [Tref16Place, Lref16Place, Gref16Place_ref04Fits, Vref04Fits_eq, Gref16Place_ref04Size, Vref04Size_eq, Gref16Place_ref04Where, Vref04Where_eq, hB, hR, hI, e, e2, e9, wz, hw, wn, c1, c2, bt, bf, all1, ress, res1, retV, Value.cells, reduceIte, reduceCtorEq, Int.reduceLT, Int.reduceLE, Int.reduceToNat, Int.reduceAdd, Int.reduceSub, Int.reduceMul, Int.reduceNeg, Nat.reduceMul, Nat.reduceAdd, Nat.reduceSub, Nat.reduceBEq, Nat.reduceEqDiff, Nat.reduceLT, Nat.reduceLeDiff, Int.reduceBEq, Int.reduceEq, Nat.reducePow, Int.reducePow, Int.reduceGT, Int.reduceGE, Int.reduceBNe, newsV_s, ev1, ev2, ev3, ev4]
    with_reducible refine done2 ?_
    repeat (first | refine ext_new hN ?_ | exact fun _ _ h => h)
theorem rPlacen {B : OH} (hG : ∃ H N, good B H N) (k p c : Int) (h : ¬ fitI k p c) (w : Int) : Fref16Place B [.agg #[.int .i64 k, .int .i64 p, .int .i64 c], .int .u64 w] = some (.tuple #[.int .i64 0, .bool false]) := by
  refine kval_eq hG fun H N hN => ?_
  have hB := good_B hN
  have hR := good_rdB hN
  have hI := beqN hN.1.1
  have e := rFits hG k p c
  rw [decide_eq_false h] at e
  simp -implicitDefEqProofs (maxSteps := 10000000) (disch := omega) only [Tref16Place, Lref16Place, Gref16Place_ref04Fits, Vref04Fits_eq, Gref16Place_ref04Size, Vref04Size_eq, Gref16Place_ref04Where, Vref04Where_eq, hB, hR, hI, e, bt, bf, all1, ress, res1, retV, Value.cells, reduceIte, reduceCtorEq, Int.reduceLT, Int.reduceLE, Int.reduceToNat, Int.reduceAdd, Int.reduceSub, Int.reduceMul, Int.reduceNeg, Nat.reduceMul, Nat.reduceAdd, Nat.reduceSub, Nat.reduceBEq, Nat.reduceEqDiff, Nat.reduceLT, Nat.reduceLeDiff, Int.reduceBEq, Int.reduceEq, Nat.reducePow, Int.reducePow, Int.reduceGT, Int.reduceGE, Int.reduceBNe, newsV_s, ev1, ev2, ev3, ev4]
  with_reducible refine done2 ?_
  repeat (first | refine ext_new hN ?_ | exact fun _ _ h => h)
def Lwlogcaught : FnC := ⟨(some 5), (.block 0 (.seq (.ops [⟨(some 7), .isn false (.tmp 5), none⟩])
 (.cond (.tmp 7) (.ops [⟨(some 2), .mv (.tmp 5), none⟩])
 (.seq (.ops [⟨(some 8), .tass 105 (.agg #[(.int .i64 0)]) (.tmp 5), none⟩, ⟨(some 9), .ext (.tmp 8) 1, none⟩, ⟨(some 10), .ext (.tmp 8) 0, none⟩])
 (.cond (.tmp 9) (.seq (.ops [⟨(some 3), .alloc [(.int .i64 0)], none⟩, ⟨none, .store 1 (.tmp 3) (.tmp 10), none⟩])
 (.ops [⟨(some 11), .mv (.tmp 0), none⟩, ⟨(some 12), .faddr 0 (.tmp 3), none⟩, ⟨(some 13), .load false 1 (.tmp 12), none⟩, ⟨(some 14), .nilck (.tmp 11), none⟩, ⟨none, .store 1 (.tmp 14) (.tmp 13), none⟩]))
 (.seq (.ops [⟨(some 4), .mv (.tmp 5), none⟩])
 (.ops [⟨(some 6), .mv (.tmp 4), none⟩, ⟨none, .pan (.tmp 6), none⟩]))))))),
 15, []⟩
theorem lowwlogcaught : lowerCaught Tryd.prog Tryd.f43 = some Lwlogcaught := by kernel_rfl
noncomputable def Gwlogcaught (B : OH) : Nat → Cs
  | _ => fun _ _ _ => none
theorem sGwlogcaught {w0 : World} {B : OH} : SoundG Tryd.prog w0 B { f := Gwlogcaught B } := .of fun k => by
  unfold Gwlogcaught
  split
  · exact .inl fun _ _ _ => rfl
noncomputable def Uwlogcaught (B : OH) : Ds := callC B { f := Gwlogcaught B } 80 Lwlogcaught
theorem enwlogcaught : Enter Tryd.prog 43 := .of Tryd.func43 (by kernel_rfl) (by kernel_rfl)
theorem sUwlogcaught {w0 : World} {B : OH} : SoundD Tryd.prog w0 B 43 (Uwlogcaught B) := callC_sound mixedOrders sGwlogcaught 80 Tryd.func43 lowwlogcaught
def Lwlogwant : FnL := ⟨(.seq (.ops [⟨(some 4), .mv (.tmp 0), none⟩, ⟨(some 5), .un .not (.tmp 4), none⟩])
 (.cond (.tmp 5) (.ops [⟨(some 6), .mv (.tmp 1), none⟩, ⟨(some 7), .build [(.int .i64 0)] [(0, 1, (.tmp 6))], none⟩, ⟨(some 8), .ifc 105 (.tmp 7), none⟩, ⟨none, .pan (.tmp 8), none⟩])
 .skip)),
 9, []⟩
theorem lowwlogwant : lowerFn Tryd.prog Tryd.f44 = some Lwlogwant := by kernel_rfl
noncomputable def Gwlogwant (B : OH) : Nat → Cs
  | _ => fun _ _ _ => none
theorem sGwlogwant {w0 : World} {B : OH} : SoundG Tryd.prog w0 B { f := Gwlogwant B } := .of fun k => by
  unfold Gwlogwant
  split
  · exact .inl fun _ _ _ => rfl
theorem enwlogwant : Enter Tryd.prog 44 := .of Tryd.func44 (by kernel_rfl) (by kernel_rfl)
noncomputable def Twlogwant (B : OH) : Cs := callF B { f := Gwlogwant B } 80 Lwlogwant
theorem sTwlogwant {w0 : World} {B : OH} : SoundC Tryd.prog w0 B 44 (Twlogwant B) := callF_sound mixedOrders sGwlogwant 80 Tryd.func44 lowwlogwant
noncomputable def Vwlogwant (B : OH) : Cs := Twlogwant B
theorem sVwlogwant {w0 : World} {B : OH} : SoundC Tryd.prog w0 B 44 (Vwlogwant B) := sTwlogwant
def spV (p h : Nat) (q i : Int) : Value :=
  if (0 ≤ q ∧ q < (p : Int)) ∧ (0 ≤ i ∧ i < ((h + 2 * p : Nat) : Int)) then .tuple #[.int .i64 (((bs p h 3 + LG p h * q.toNat : Nat) : Int) + 1 + 2 * i), .int .i64 (((bs p h 3 + LG p h * q.toNat : Nat) : Int) + 2 + 2 * i), .int .i64 0]
  else .tuple #[.int .i64 0, .int .i64 0, .int .i64 1]
theorem lgq_b {kk p cc h q : Nat} (C : Cf kk p cc h) (hq : q < p) : bs p h 3 + LG p h * q + LG p h ≤ bs p h 4 := by
  have h2 : LG p h * (q + 1) ≤ LG p h * p := Nat.mul_le_mul_left _ (by omega)
  rw [Nat.mul_succ] at h2
  rw [bs_3, bs_4]; omega
theorem bs4_5 {p h : Nat} : bs p h 4 + h = bs p h 5 := by rw [bs_4, bs_5]
def LwlogSpot : FnD := ⟨(.ops [⟨(some 3), .box (.tmp 0), none⟩, ⟨(some 6), .mv (.const (.int .i64 0)), none⟩, ⟨(some 7), .mv (.const (.int .i64 0)), none⟩, ⟨(some 8), .alloc [(.int .i64 0)], none⟩]), 43, [(.tmp 8)], (.seq (.ops [⟨(some 10), .load true 3 (.tmp 3), none⟩, ⟨(some 11), .call (.func 45) [(.tmp 10)], none⟩, ⟨(some 12), .call (.func 44) [(.tmp 11), (.const (.int .i64 5))], none⟩])
 (.seq (.ops [⟨(some 14), .load true 3 (.tmp 3), none⟩, ⟨(some 15), .mv (.tmp 1), none⟩, ⟨(some 16), .call (.func 31) [(.tmp 14), (.const (.int .i64 3)), (.tmp 15)], none⟩, ⟨(some 13), .mv (.tmp 16), none⟩, ⟨(some 17), .ext (.tmp 13) 0, none⟩, ⟨(some 18), .ext (.tmp 13) 1, none⟩, ⟨(some 9), .mv (.tmp 17), none⟩, ⟨none, .store 1 (.tmp 8) (.tmp 18), none⟩])
 (.seq (.ops [⟨(some 19), .load false 1 (.tmp 8), none⟩, ⟨(some 20), .bin .eql (.tmp 19) (.const (.int .i64 0)), none⟩, ⟨(some 21), .mv (.tmp 20), none⟩, ⟨(some 22), .mv (.tmp 2), (some (21, true))⟩, ⟨(some 23), .bin .geq (.tmp 22) (.const (.int .i64 0)), (some (21, true))⟩, ⟨(some 24), .pick (.tmp 21) (.tmp 23) (.const (.bool false)), none⟩, ⟨(some 25), .mv (.tmp 24), none⟩, ⟨(some 26), .mv (.tmp 2), (some (25, true))⟩, ⟨(some 27), .load true 3 (.tmp 3), (some (25, true))⟩, ⟨(some 28), .call (.func 47) [(.tmp 27)], (some (25, true))⟩, ⟨(some 29), .bin .lss (.tmp 26) (.tmp 28), (some (25, true))⟩, ⟨(some 30), .pick (.tmp 25) (.tmp 29) (.const (.bool false)), none⟩, ⟨(some 31), .call (.func 44) [(.tmp 30), (.const (.int .i64 1))], none⟩])
 (.seq (.ops [⟨(some 32), .mv (.tmp 9), none⟩, ⟨(some 33), .bin .add (.tmp 32) (.const (.int .i64 1)), none⟩, ⟨(some 34), .mv (.tmp 2), none⟩, ⟨(some 35), .bin .mul (.const (.int .i64 2)) (.tmp 34), none⟩, ⟨(some 36), .bin .add (.tmp 33) (.tmp 35), none⟩, ⟨(some 37), .mv (.tmp 9), none⟩, ⟨(some 38), .bin .add (.tmp 37) (.const (.int .i64 2)), none⟩, ⟨(some 39), .mv (.tmp 2), none⟩, ⟨(some 40), .bin .mul (.const (.int .i64 2)) (.tmp 39), none⟩, ⟨(some 41), .bin .add (.tmp 38) (.tmp 40), none⟩, ⟨(some 6), .mv (.tmp 36), none⟩, ⟨(some 7), .mv (.tmp 41), none⟩, ⟨none, .store 1 (.tmp 8) (.const (.int .i64 0)), none⟩])
 .ret)))),
 42, [.tmp 6, .tmp 7, .cell 8 false 1]⟩
theorem lowwlogSpot : lowerDfr Tryd.prog Tryd.f21 = some LwlogSpot := by kernel_rfl
noncomputable def GwlogSpot (B : OH) : Nat → Cs
  | 31 => V10 B
  | 45 => V13 B
  | 47 => Vwlogmost B
  | 44 => Vwlogwant B
  | _ => fun _ _ _ => none
theorem GwlogSpot_10 {B : OH} : GwlogSpot B 31 = V10 B := rfl
theorem GwlogSpot_13 {B : OH} : GwlogSpot B 45 = V13 B := rfl
theorem GwlogSpot_wlogmost {B : OH} : GwlogSpot B 47 = Vwlogmost B := rfl
theorem GwlogSpot_wlogwant {B : OH} : GwlogSpot B 44 = Vwlogwant B := rfl
theorem sGwlogSpot {w0 : World} {B : OH} : SoundG Tryd.prog w0 B { f := GwlogSpot B } := .of fun k => by
  unfold GwlogSpot
  split
  · exact .inr ⟨en10, sV10⟩
  · exact .inr ⟨en13, sV13⟩
  · exact .inr ⟨enwlogmost, sVwlogmost⟩
  · exact .inr ⟨enwlogwant, sVwlogwant⟩
  · exact .inl fun _ _ _ => rfl
theorem enwlogSpot : Enter Tryd.prog 21 := .of Tryd.func21 (by kernel_rfl) (by kernel_rfl)
noncomputable def DwlogSpot (B : OH) : Nat → Ds
  | 43 => Uwlogcaught B
  | _ => fun _ _ _ _ => none
theorem DwlogSpot_wlogcaught {B : OH} : DwlogSpot B 43 = Uwlogcaught B := rfl
noncomputable def TwlogSpot (B : OH) : Cs := callD B { f := GwlogSpot B } (DwlogSpot B) 80 LwlogSpot
theorem sTwlogSpot {w0 : World} {B : OH} : SoundC Tryd.prog w0 B 21 (TwlogSpot B) := callD_sound mixedOrders sGwlogSpot 80 Tryd.func21 lowwlogSpot enwlogcaught sUwlogcaught
noncomputable def FwlogSpot (B : OH) : List Value → Option Value := kval B (TwlogSpot B)
noncomputable def VwlogSpot (B : OH) : Cs := fun a H N => pvE (FwlogSpot B a) H N
theorem VwlogSpot_eq {B : OH} {a : List Value} {H : HL} {N : St} : VwlogSpot B a H N = pvE (FwlogSpot B a) H N := rfl
theorem sVwlogSpot {w0 : World} {B : OH} : SoundC Tryd.prog w0 B 21 (VwlogSpot B) := sTwlogSpot.ofVal
set_option maxHeartbeats 2000000 in
theorem fSpot {B : OH} (hG : ∃ H N, good B H N) (hT : Tab B) {kk p cc h : Nat} (C : Cf kk p cc h) (q i : Int) : FwlogSpot B [.agg #[.int .i64 (kk : Int), .int .i64 (p : Int), .int .i64 (cc : Int)], .int .i64 q, .int .i64 i] = some (spV p h q i) := by
  refine kval_eq hG fun H N hN => ?_
  have hB := good_B hN
  have hR := good_rdB hN
  have hI := beqN hN.1.1
  have e1 := f13 hG kk p cc (cfit C).1 (cfit C).2.1 (cfit C).2.2
  have e2 := fmost hG hT C
  unfold spV
  by_cases hq : 0 ≤ q ∧ q < (p : Int)
  · obtain ⟨n, rfl⟩ : ∃ n : Nat, q = (n : Int) := ⟨q.toNat, by omega⟩
    have e3 := f10c3 hG hT C (q := n) (by omega)
    have hb := lgq_b C (q := n) (by omega)
    have hb5 := bs5_b C
    have h45 := bs4_5 (p := p) (h := h)
    have hl := LG_b C
    rw [Int.toNat_natCast]
    generalize hX : bs p h 3 + LG p h * n = X at *
    by_cases c1 : i ≥ 0
    · by_cases c2 : i < ((h + 2 * p : Nat) : Int)
      · rw [if_pos ⟨hq, c1, c2⟩]
        have c3 : i ≤ 2117 := by unfold LG at hl; omega
        simp -implicitDefEqProofs (maxSteps := 10000000) (disch := omega) only [TwlogSpot, LwlogSpot, GwlogSpot_10, V10_eq, GwlogSpot_13, V13_eq, GwlogSpot_wlogmost, Vwlogmost_eq, GwlogSpot_wlogwant, Vwlogwant, Twlogwant, Lwlogwant, DwlogSpot_wlogcaught, Uwlogcaught, Lwlogcaught, hB, hR, hI, e1, e2, e3, c1, c2, bt, bf, all1, ress, res1, retV, Value.cells, reduceIte, reduceCtorEq, Int.reduceLT, Int.reduceLE, Int.reduceToNat, Int.reduceAdd, Int.reduceSub, Int.reduceMul, Int.reduceNeg, Nat.reduceMul, Nat.reduceAdd, Nat.reduceSub, Nat.reduceBEq, Nat.reduceEqDiff, Nat.reduceLT, Nat.reduceLeDiff, Int.reduceBEq, Int.reduceEq, Nat.reducePow, Int.reducePow, Int.reduceGT, Int.reduceGE, Int.reduceBNe, newsV_s, ev1, ev2, ev3, ev4]
        with_reducible refine done2 ?_
        repeat (first | refine ext_new hN ?_ | exact fun _ _ h => h)
      · rw [if_neg (fun h => c2 h.2.2)]
        simp -implicitDefEqProofs (maxSteps := 10000000) (disch := omega) only [TwlogSpot, LwlogSpot, GwlogSpot_10, V10_eq, GwlogSpot_13, V13_eq, GwlogSpot_wlogmost, Vwlogmost_eq, GwlogSpot_wlogwant, Vwlogwant, Twlogwant, Lwlogwant, DwlogSpot_wlogcaught, Uwlogcaught, Lwlogcaught, hB, hR, hI, e1, e2, e3, c1, c2, bt, bf, all1, ress, res1, retV, Value.cells, reduceIte, reduceCtorEq, Int.reduceLT, Int.reduceLE, Int.reduceToNat, Int.reduceAdd, Int.reduceSub, Int.reduceMul, Int.reduceNeg, Nat.reduceMul, Nat.reduceAdd, Nat.reduceSub, Nat.reduceBEq, Nat.reduceEqDiff, Nat.reduceLT, Nat.reduceLeDiff, Int.reduceBEq, Int.reduceEq, Nat.reducePow, Int.reducePow, Int.reduceGT, Int.reduceGE, Int.reduceBNe, newsV_s, ev1, ev2, ev3, ev4]
        with_reducible refine done2 ?_
        repeat (first | refine ext_new hN ?_ | exact fun _ _ h => h)
    · rw [if_neg (fun h => c1 h.2.1)]
      simp -implicitDefEqProofs (maxSteps := 10000000) (disch := omega) only [TwlogSpot, LwlogSpot, GwlogSpot_10, V10_eq, GwlogSpot_13, V13_eq, GwlogSpot_wlogmost, Vwlogmost_eq, GwlogSpot_wlogwant, Vwlogwant, Twlogwant, Lwlogwant, DwlogSpot_wlogcaught, Uwlogcaught, Lwlogcaught, hB, hR, hI, e1, e2, e3, c1, bt, bf, all1, ress, res1, retV, Value.cells, reduceIte, reduceCtorEq, Int.reduceLT, Int.reduceLE, Int.reduceToNat, Int.reduceAdd, Int.reduceSub, Int.reduceMul, Int.reduceNeg, Nat.reduceMul, Nat.reduceAdd, Nat.reduceSub, Nat.reduceBEq, Nat.reduceEqDiff, Nat.reduceLT, Nat.reduceLeDiff, Int.reduceBEq, Int.reduceEq, Nat.reducePow, Int.reducePow, Int.reduceGT, Int.reduceGE, Int.reduceBNe, newsV_s, ev1, ev2, ev3, ev4]
      with_reducible refine done2 ?_
      repeat (first | refine ext_new hN ?_ | exact fun _ _ h => h)
  · rw [if_neg (fun h => hq h.1)]
    have e3 := f10o hG C q (by omega)
    have c1 : ((1 : Int) == 0) = false := rfl
    simp -implicitDefEqProofs (maxSteps := 10000000) (disch := omega) only [TwlogSpot, LwlogSpot, GwlogSpot_10, V10_eq, GwlogSpot_13, V13_eq, GwlogSpot_wlogmost, Vwlogmost_eq, GwlogSpot_wlogwant, Vwlogwant, Twlogwant, Lwlogwant, DwlogSpot_wlogcaught, Uwlogcaught, Lwlogcaught, hB, hR, hI, e1, e2, e3, c1, bt, bf, all1, ress, res1, retV, Value.cells, reduceIte, reduceCtorEq, Int.reduceLT, Int.reduceLE, Int.reduceToNat, Int.reduceAdd, Int.reduceSub, Int.reduceMul, Int.reduceNeg, Nat.reduceMul, Nat.reduceAdd, Nat.reduceSub, Nat.reduceBEq, Nat.reduceEqDiff, Nat.reduceLT, Nat.reduceLeDiff, Int.reduceBEq, Int.reduceEq, Nat.reducePow, Int.reducePow, Int.reduceGT, Int.reduceGE, Int.reduceBNe, newsV_s, ev1, ev2, ev3, ev4]
    with_reducible refine done2 ?_
    repeat (first | refine ext_new hN ?_ | exact fun _ _ h => h)
set_option maxHeartbeats 1000000 in
theorem fSpotn {B : OH} (hG : ∃ H N, good B H N) (k p c q i : Int) (h : ¬ fitI k p c) : FwlogSpot B [.agg #[.int .i64 k, .int .i64 p, .int .i64 c], .int .i64 q, .int .i64 i] = some (.tuple #[.int .i64 0, .int .i64 0, .int .i64 5]) := by
  refine kval_eq hG fun H N hN => ?_
  have hB := good_B hN
  have hR := good_rdB hN
  have hI := beqN hN.1.1
  have e1 := f13n hG k p c h
  simp -implicitDefEqProofs (maxSteps := 10000000) (disch := omega) only [TwlogSpot, LwlogSpot, GwlogSpot_10, V10_eq, GwlogSpot_13, V13_eq, GwlogSpot_wlogmost, Vwlogmost_eq, GwlogSpot_wlogwant, Vwlogwant, Twlogwant, Lwlogwant, DwlogSpot_wlogcaught, Uwlogcaught, Lwlogcaught, hB, hR, hI, e1, bt, bf, all1, ress, res1, retV, Value.cells, reduceIte, reduceCtorEq, Int.reduceLT, Int.reduceLE, Int.reduceToNat, Int.reduceAdd, Int.reduceSub, Int.reduceMul, Int.reduceNeg, Nat.reduceMul, Nat.reduceAdd, Nat.reduceSub, Nat.reduceBEq, Nat.reduceEqDiff, Nat.reduceLT, Nat.reduceLeDiff, Int.reduceBEq, Int.reduceEq, Nat.reducePow, Int.reducePow, Int.reduceGT, Int.reduceGE, Int.reduceBNe, newsV_s, ev1, ev2, ev3, ev4]
  with_reducible refine done2 ?_
  repeat (first | refine ext_new hN ?_ | exact fun _ _ h => h)
def Lref16Spot : FnL := ⟨(.seq (.ops [⟨(some 3), .box (.tmp 0), none⟩, ⟨(some 6), .mv (.const (.int .i64 0)), none⟩, ⟨(some 7), .mv (.const (.int .i64 0)), none⟩, ⟨(some 8), .mv (.const (.int .i64 0)), none⟩])
 (.seq (.seq (.ops [⟨(some 11), .load true 3 (.tmp 3), none⟩, ⟨(some 12), .call (.func 39) [(.tmp 11)], none⟩, ⟨(some 13), .un .not (.tmp 12), none⟩])
 (.cond (.tmp 13) (.seq (.ops [⟨(some 6), .mv (.const (.int .i64 0)), none⟩, ⟨(some 7), .mv (.const (.int .i64 0)), none⟩, ⟨(some 8), .mv (.const (.int .i64 5)), none⟩])
 .ret)
 .skip))
 (.seq (.ops [⟨(some 15), .load true 3 (.tmp 3), none⟩, ⟨(some 16), .mv (.tmp 1), none⟩, ⟨(some 17), .call (.func 37) [(.tmp 15), (.const (.int .i64 3)), (.tmp 16)], none⟩, ⟨(some 14), .mv (.tmp 17), none⟩, ⟨(some 18), .ext (.tmp 14) 0, none⟩, ⟨(some 19), .ext (.tmp 14) 1, none⟩, ⟨(some 9), .mv (.tmp 18), none⟩, ⟨(some 10), .mv (.tmp 19), none⟩])
 (.seq (.seq (.ops [⟨(some 20), .mv (.tmp 10), none⟩, ⟨(some 21), .bin .neq (.tmp 20) (.const (.int .i64 0)), none⟩, ⟨(some 22), .mv (.tmp 21), none⟩, ⟨(some 23), .mv (.tmp 2), (some (22, false))⟩, ⟨(some 24), .bin .lss (.tmp 23) (.const (.int .i64 0)), (some (22, false))⟩, ⟨(some 25), .pick (.tmp 22) (.const (.bool true)) (.tmp 24), none⟩, ⟨(some 26), .mv (.tmp 25), none⟩, ⟨(some 27), .mv (.tmp 2), (some (26, false))⟩, ⟨(some 28), .load true 3 (.tmp 3), (some (26, false))⟩, ⟨(some 29), .call (.func 29) [(.tmp 28)], (some (26, false))⟩, ⟨(some 30), .bin .geq (.tmp 27) (.tmp 29), (some (26, false))⟩, ⟨(some 31), .pick (.tmp 26) (.const (.bool true)) (.tmp 30), none⟩])
 (.cond (.tmp 31) (.seq (.ops [⟨(some 6), .mv (.const (.int .i64 0)), none⟩, ⟨(some 7), .mv (.const (.int .i64 0)), none⟩, ⟨(some 8), .mv (.const (.int .i64 1)), none⟩])
 .ret)
 .skip))
 (.seq (.ops [⟨(some 32), .mv (.tmp 9), none⟩, ⟨(some 33), .bin .add (.tmp 32) (.const (.int .i64 1)), none⟩, ⟨(some 34), .mv (.tmp 2), none⟩, ⟨(some 35), .bin .mul (.const (.int .i64 2)) (.tmp 34), none⟩, ⟨(some 36), .bin .add (.tmp 33) (.tmp 35), none⟩, ⟨(some 37), .mv (.tmp 9), none⟩, ⟨(some 38), .bin .add (.tmp 37) (.const (.int .i64 2)), none⟩, ⟨(some 39), .mv (.tmp 2), none⟩, ⟨(some 40), .bin .mul (.const (.int .i64 2)) (.tmp 39), none⟩, ⟨(some 41), .bin .add (.tmp 38) (.tmp 40), none⟩, ⟨(some 6), .mv (.tmp 36), none⟩, ⟨(some 7), .mv (.tmp 41), none⟩, ⟨(some 8), .mv (.const (.int .i64 0)), none⟩])
 .ret))))),
 42, [.tmp 6, .tmp 7, .tmp 8]⟩
theorem lowref16Spot : lowerFn Tryd.prog Tryd.f22 = some Lref16Spot := by kernel_rfl
noncomputable def Gref16Spot (B : OH) : Nat → Cs
  | 37 => Vref04At B
  | 39 => Vref04Fits B
  | 29 => Vref16Most B
  | _ => fun _ _ _ => none
theorem Gref16Spot_ref04At {B : OH} : Gref16Spot B 37 = Vref04At B := rfl
theorem Gref16Spot_ref04Fits {B : OH} : Gref16Spot B 39 = Vref04Fits B := rfl
theorem Gref16Spot_ref16Most {B : OH} : Gref16Spot B 29 = Vref16Most B := rfl
theorem sGref16Spot {w0 : World} {B : OH} : SoundG Tryd.prog w0 B { f := Gref16Spot B } := .of fun k => by
  unfold Gref16Spot
  split
  · exact .inr ⟨enref04At, sVref04At⟩
  · exact .inr ⟨enref04Fits, sVref04Fits⟩
  · exact .inr ⟨enref16Most, sVref16Most⟩
  · exact .inl fun _ _ _ => rfl
theorem enref16Spot : Enter Tryd.prog 22 := .of Tryd.func22 (by kernel_rfl) (by kernel_rfl)
noncomputable def Tref16Spot (B : OH) : Cs := callF B { f := Gref16Spot B } 80 Lref16Spot
theorem sTref16Spot {w0 : World} {B : OH} : SoundC Tryd.prog w0 B 22 (Tref16Spot B) := callF_sound mixedOrders sGref16Spot 80 Tryd.func22 lowref16Spot
noncomputable def Fref16Spot (B : OH) : List Value → Option Value := kval B (Tref16Spot B)
noncomputable def Vref16Spot (B : OH) : Cs := fun a H N => pvE (Fref16Spot B a) H N
theorem Vref16Spot_eq {B : OH} {a : List Value} {H : HL} {N : St} : Vref16Spot B a H N = pvE (Fref16Spot B a) H N := rfl
theorem sVref16Spot {w0 : World} {B : OH} : SoundC Tryd.prog w0 B 22 (Vref16Spot B) := sTref16Spot.ofVal
set_option maxHeartbeats 2000000 in
theorem rSpot {B : OH} (hG : ∃ H N, good B H N) {kk p cc h : Nat} (C : Cf kk p cc h) (q i : Int) : Fref16Spot B [.agg #[.int .i64 (kk : Int), .int .i64 (p : Int), .int .i64 (cc : Int)], .int .i64 q, .int .i64 i] = some (spV p h q i) := by
  refine kval_eq hG fun H N hN => ?_
  have hB := good_B hN
  have hR := good_rdB hN
  have hI := beqN hN.1.1
  have e1 := rFits1 hG C
  have e2 := rmost hG C
  unfold spV
  by_cases hq : 0 ≤ q ∧ q < (p : Int)
  · obtain ⟨n, rfl⟩ : ∃ n : Nat, q = (n : Int) := ⟨q.toNat, by omega⟩
    have e3 := rAt3 hG C (q := n) (by omega)
    have hb := lgq_b C (q := n) (by omega)
    have hb5 := bs5_b C
    have h45 := bs4_5 (p := p) (h := h)
    have hl := LG_b C
    rw [Int.toNat_natCast]
    generalize hX : bs p h 3 + LG p h * n = X at *
    by_cases c1 : i < 0
    · rw [if_neg (fun h => by omega)]
      simp -implicitDefEqProofs (maxSteps := 10000000) (disch := omega) only [Tref16Spot, Lref16Spot, Gref16Spot_ref04At, Vref04At_eq, Gref16Spot_ref04Fits, Vref04Fits_eq, Gref16Spot_ref16Most, Vref16Most_eq, hB, hR, hI, e1, e2, e3, c1, bt, bf, all1, ress, res1, retV, Value.cells, reduceIte, reduceCtorEq, Int.reduceLT, Int.reduceLE, Int.reduceToNat, Int.reduceAdd, Int.reduceSub, Int.reduceMul, Int.reduceNeg, Nat.reduceMul, Nat.reduceAdd, Nat.reduceSub, Nat.reduceBEq, Nat.reduceEqDiff, Nat.reduceLT, Nat.reduceLeDiff, Int.reduceBEq, Int.reduceEq, Nat.reducePow, Int.reducePow, Int.reduceGT, Int.reduceGE, Int.reduceBNe, newsV_s, ev1, ev2, ev3, ev4]
      with_reducible refine done2 ?_
      repeat (first | refine ext_new hN ?_ | exact fun _ _ h => h)
    · by_cases c2 : i ≥ ((h + 2 * p : Nat) : Int)
      · rw [if_neg (fun h => by omega)]
        simp -implicitDefEqProofs (maxSteps := 10000000) (disch := omega) only [Tref16Spot, Lref16Spot, Gref16Spot_ref04At, Vref04At_eq, Gref16Spot_ref04Fits, Vref04Fits_eq, Gref16Spot_ref16Most, Vref16Most_eq, hB, hR, hI, e1, e2, e3, c1, c2, bt, bf, all1, ress, res1, retV, Value.cells, reduceIte, reduceCtorEq, Int.reduceLT, Int.reduceLE, Int.reduceToNat, Int.reduceAdd, Int.reduceSub, Int.reduceMul, Int.reduceNeg, Nat.reduceMul, Nat.reduceAdd, Nat.reduceSub, Nat.reduceBEq, Nat.reduceEqDiff, Nat.reduceLT, Nat.reduceLeDiff, Int.reduceBEq, Int.reduceEq, Nat.reducePow, Int.reducePow, Int.reduceGT, Int.reduceGE, Int.reduceBNe, newsV_s, ev1, ev2, ev3, ev4]
        with_reducible refine done2 ?_
        repeat (first | refine ext_new hN ?_ | exact fun _ _ h => h)
      · rw [if_pos ⟨hq, by omega, by omega⟩]
        have c3 : i ≤ 2117 := by unfold LG at hl; omega
        simp -implicitDefEqProofs (maxSteps := 10000000) (disch := omega) only [Tref16Spot, Lref16Spot, Gref16Spot_ref04At, Vref04At_eq, Gref16Spot_ref04Fits, Vref04Fits_eq, Gref16Spot_ref16Most, Vref16Most_eq, hB, hR, hI, e1, e2, e3, c1, c2, bt, bf, all1, ress, res1, retV, Value.cells, reduceIte, reduceCtorEq, Int.reduceLT, Int.reduceLE, Int.reduceToNat, Int.reduceAdd, Int.reduceSub, Int.reduceMul, Int.reduceNeg, Nat.reduceMul, Nat.reduceAdd, Nat.reduceSub, Nat.reduceBEq, Nat.reduceEqDiff, Nat.reduceLT, Nat.reduceLeDiff, Int.reduceBEq, Int.reduceEq, Nat.reducePow, Int.reducePow, Int.reduceGT, Int.reduceGE, Int.reduceBNe, newsV_s, ev1, ev2, ev3, ev4]
        with_reducible refine done2 ?_
        repeat (first | refine ext_new hN ?_ | exact fun _ _ h => h)
  · rw [if_neg (fun h => hq h.1)]
    have e3 := rAt3e hG C q (by omega)
    have c1 : ((1 : Int) != 0) = true := rfl
    simp -implicitDefEqProofs (maxSteps := 10000000) (disch := omega) only [Tref16Spot, Lref16Spot, Gref16Spot_ref04At, Vref04At_eq, Gref16Spot_ref04Fits, Vref04Fits_eq, Gref16Spot_ref16Most, Vref16Most_eq, hB, hR, hI, e1, e2, e3, c1, bt, bf, all1, ress, res1, retV, Value.cells, reduceIte, reduceCtorEq, Int.reduceLT, Int.reduceLE, Int.reduceToNat, Int.reduceAdd, Int.reduceSub, Int.reduceMul, Int.reduceNeg, Nat.reduceMul, Nat.reduceAdd, Nat.reduceSub, Nat.reduceBEq, Nat.reduceEqDiff, Nat.reduceLT, Nat.reduceLeDiff, Int.reduceBEq, Int.reduceEq, Nat.reducePow, Int.reducePow, Int.reduceGT, Int.reduceGE, Int.reduceBNe, newsV_s, ev1, ev2, ev3, ev4]
    with_reducible refine done2 ?_
    repeat (first | refine ext_new hN ?_ | exact fun _ _ h => h)
theorem rSpotn {B : OH} (hG : ∃ H N, good B H N) (k p c q i : Int) (h : ¬ fitI k p c) : Fref16Spot B [.agg #[.int .i64 k, .int .i64 p, .int .i64 c], .int .i64 q, .int .i64 i] = some (.tuple #[.int .i64 0, .int .i64 0, .int .i64 5]) := by
  refine kval_eq hG fun H N hN => ?_
  have hB := good_B hN
  have hR := good_rdB hN
  have hI := beqN hN.1.1
  have e1 := rFits hG k p c
  rw [decide_eq_false h] at e1
  simp -implicitDefEqProofs (maxSteps := 10000000) (disch := omega) only [Tref16Spot, Lref16Spot, Gref16Spot_ref04At, Vref04At_eq, Gref16Spot_ref04Fits, Vref04Fits_eq, Gref16Spot_ref16Most, Vref16Most_eq, hB, hR, hI, e1, bt, bf, all1, ress, res1, retV, Value.cells, reduceIte, reduceCtorEq, Int.reduceLT, Int.reduceLE, Int.reduceToNat, Int.reduceAdd, Int.reduceSub, Int.reduceMul, Int.reduceNeg, Nat.reduceMul, Nat.reduceAdd, Nat.reduceSub, Nat.reduceBEq, Nat.reduceEqDiff, Nat.reduceLT, Nat.reduceLeDiff, Int.reduceBEq, Int.reduceEq, Nat.reducePow, Int.reducePow, Int.reduceGT, Int.reduceGE, Int.reduceBNe, newsV_s, ev1, ev2, ev3, ev4]
  with_reducible refine done2 ?_
  repeat (first | refine ext_new hN ?_ | exact fun _ _ h => h)
end Go.Proofs.YtfhiplfagejfoaaDoor
namespace Go.Proofs.YtfhiplfagejfoaaDoor
open Go.Proofs.YtfhiplfagejfoaaDoor.K Go.ChangeShapes Go.WideShapes Go.ChangeAt Go.RowKit 
set_option maxRecDepth 100000
set_option linter.unusedSimpArgs false
set_option linter.unusedVariables false
structure C2 where
  w : Int
  l : Int
  deriving DecidableEq
def c2 (x : C2) : List Value := [.int .u64 x.w, .int .i64 x.l]
def z2 : C2 := ⟨0, 0⟩
structure W2 where
  a : Int
  w : Int
  deriving DecidableEq
def w2 (x : W2) : List Value := [.int .i64 x.a, .int .u64 x.w]
def y2 : W2 := ⟨0, 0⟩
def w1 (x : Int) : List Value := [.int .u64 x]
theorem c2_len (x : C2) : (c2 x).length = 2 := rfl
theorem w2_len (x : W2) : (w2 x).length = 2 := rfl
theorem w1_len (x : Int) : (w1 x).length = 1 := rfl
theorem all1_c2 (L : List C2) : all1 (fl c2 L) = true := by
  induction L with
  | nil => rfl
  | cons a L ih => exact ih
theorem all1_w1 (L : List Int) : all1 (fl w1 L) = true := by
  induction L with
  | nil => rfl
  | cons a L ih => exact ih
theorem rep_c2 (n : Nat) : (List.replicate n [Value.int .u64 0, .int .i64 0]).flatten = fl c2 (List.replicate n z2) := by
  induction n with
  | zero => rfl
  | succ n ih => rw [List.replicate_succ, List.replicate_succ, List.flatten_cons, ih]; rfl
theorem rep_w1 (n : Nat) : (List.replicate n [Value.int .u64 0]).flatten = fl w1 (List.replicate n 0) := by
  induction n with
  | zero => rfl
  | succ n ih => rw [List.replicate_succ, List.replicate_succ, List.flatten_cons, ih]; rfl
theorem SlR.read {α : Type} {f : α → List Value} {sz : Nat} {B : OH} {H H' : HL} {L : List α} {b o : Nat} (h : ∀ H', Fr H H' → ∀ i j n d, i < L.length → j + n ≤ sz → rdO H' B b (o + i * sz + j) n (rdB B b (o + i * sz + j) n) = tk (f (L.getD i d)) j n) (hf : ∀ a, (f a).length = sz) (hF : Fr H H') {i : Nat} (d : α) (hi : i < L.length) : rdO H' B b (o + i * sz) sz (rdB B b (o + i * sz) sz) = some (f (L.getD i d)) := by
  have := h H' hF i 0 sz d hi (by omega)
  rw [Nat.add_zero] at this
  rw [this]; exact tk_all _ _ (hf _).symm
theorem neC {a b : C2} (he : ¬ a = b) : ((a.w == b.w) && (a.l == b.l)) = false := by
  obtain ⟨aw, al⟩ := a
  obtain ⟨bw, bl⟩ := b
  simp only [C2.mk.injEq] at he
  by_cases h : aw = bw
  · have : ¬ al = bl := fun h' => he ⟨h, h'⟩
    simp [beqI this]
  · simp [beqI h]
theorem neW {a b : W2} (he : ¬ a = b) : ((a.a == b.a) && (a.w == b.w)) = false := by
  obtain ⟨aw, al⟩ := a
  obtain ⟨bw, bl⟩ := b
  simp only [W2.mk.injEq] at he
  by_cases h : aw = bw
  · have : ¬ al = bl := fun h' => he ⟨h, h'⟩
    simp [beqI this]
  · simp [beqI h]
def Lref10Words : FnL := ⟨(.seq (.ops [⟨(some 4), .mv (.const (.bool false)), none⟩])
 (.seq (.seq (.ops [⟨(some 6), .mv (.tmp 0), none⟩, ⟨(some 7), .len false (.tmp 6), none⟩, ⟨(some 8), .mv (.tmp 1), none⟩, ⟨(some 9), .len false (.tmp 8), none⟩, ⟨(some 10), .bin .neq (.tmp 7) (.tmp 9), none⟩])
 (.cond (.tmp 10) (.seq (.ops [⟨(some 4), .mv (.const (.bool false)), none⟩])
 .ret)
 .skip))
 (.seq (.seq (.ops [⟨(some 5), .mv (.const (.int .i64 0)), none⟩])
 (.block 0 (.loop (.seq (.seq (.ops [⟨(some 11), .mv (.tmp 5), none⟩, ⟨(some 12), .mv (.tmp 0), none⟩, ⟨(some 13), .len false (.tmp 12), none⟩, ⟨(some 14), .bin .lss (.tmp 11) (.tmp 13), none⟩])
 (.cond (.tmp 14) .skip
 (.exit 0)))
 (.seq (.block 1 (.seq (.draw [⟨⟨(some 17), .mv (.tmp 0), none⟩, []⟩, ⟨⟨(some 18), .mv (.tmp 5), none⟩, []⟩, ⟨⟨(some 19), .iaddrS 1 (.tmp 17) (.tmp 18), none⟩, []⟩, ⟨⟨(some 20), .load false 1 (.tmp 19), none⟩, []⟩, ⟨⟨(some 21), .mv (.tmp 1), none⟩, []⟩, ⟨⟨(some 22), .mv (.tmp 5), none⟩, []⟩, ⟨⟨(some 23), .iaddrS 1 (.tmp 21) (.tmp 22), none⟩, []⟩, ⟨⟨(some 24), .load false 1 (.tmp 23), none⟩, []⟩, ⟨⟨(some 25), .bin .neq (.tmp 20) (.tmp 24), none⟩, []⟩])
 (.cond (.tmp 25) (.seq (.ops [⟨(some 4), .mv (.const (.bool false)), none⟩])
 .ret)
 .skip)))
 (.ops [⟨(some 15), .mv (.tmp 5), none⟩, ⟨(some 16), .bin .add (.tmp 15) (.const (.int .i64 1)), none⟩, ⟨(some 5), .mv (.tmp 16), none⟩]))))))
 (.seq (.ops [⟨(some 4), .mv (.const (.bool true)), none⟩])
 .ret)))),
 26, [.tmp 4]⟩
theorem lowref10Words : lowerFn Tryd.prog Tryd.f17 = some Lref10Words := by kernel_rfl
noncomputable def Gref10Words (B : OH) : Nat → Cs
  | _ => fun _ _ _ => none
theorem sGref10Words {w0 : World} {B : OH} : SoundG Tryd.prog w0 B { f := Gref10Words B } := .of fun k => by
  unfold Gref10Words
  split
  · exact .inl fun _ _ _ => rfl
theorem enref10Words : Enter Tryd.prog 17 := .of Tryd.func17 (by kernel_rfl) (by kernel_rfl)
noncomputable def Tref10Words (B : OH) : Cs := callF B { f := Gref10Words B } 1000000 Lref10Words
theorem sTref10Words {w0 : World} {B : OH} : SoundC Tryd.prog w0 B 17 (Tref10Words B) := callF_sound mixedOrders sGref10Words 1000000 Tryd.func17 lowref10Words
noncomputable def Vref10Words (B : OH) : Cs := Tref10Words B
theorem sVref10Words {w0 : World} {B : OH} : SoundC Tryd.prog w0 B 17 (Vref10Words B) := sTref10Words
structure Kref10Words (v w : Value) (n i : Nat) (ts : List Value) : Prop where
  l : ts.length = 26
  t0 : gt ts 0 = v
  t1 : gt ts 1 = w
  t5 : gt ts 5 = .int .i64 (i : Int)
set_option maxHeartbeats 4000000 in
theorem sameref10Words {B : OH} {H : HL} {N : St} {v w : Value} {L M : List Int} (hN : good B H N) (hv : SlR w1 1 B H v L) (hw : SlR w1 1 B H w M) (hL : L.length ≤ 900000) : Vref10Words B [v, w] H N = some (.ret (.bool (decide (L = M))), H, N) := by
  have hB := good_B hN
  have hR := good_rdB hN
  have hI := beqN hN.1.1
  have hlv := hv.len
  have hlw := hw.len
  unfold Vref10Words
  by_cases hl : L.length = M.length
  case neg =>
    have hl' : ((L.length : Int) != (M.length : Int)) = true := by simp; omega
    have hd : decide (L = M) = false := decide_eq_false fun h => hl (by rw [h])
    rw [hd]
    simp -implicitDefEqProofs (maxSteps := 10000000) (disch := omega) only [Tref10Words, Lref10Words, hB, hR, hI, hlv, hlw, hl', bt, bf, all1, ress, res1, retV, Value.cells, reduceIte, reduceCtorEq, Int.reduceLT, Int.reduceLE, Int.reduceToNat, Int.reduceAdd, Int.reduceSub, Int.reduceMul, Int.reduceNeg, Nat.reduceMul, Nat.reduceAdd, Nat.reduceSub, Nat.reduceBEq, Nat.reduceEqDiff, Nat.reduceLT, Nat.reduceLeDiff, Int.reduceBEq, Int.reduceEq, Nat.reducePow, Int.reducePow, Int.reduceGT, Int.reduceGE, Int.reduceBNe, newsV_s, ev1, ev2, ev3, ev4]
  have hl' : ((L.length : Int) != (M.length : Int)) = false := by simp; omega
  simp -implicitDefEqProofs (maxSteps := 10000000) (disch := omega) only [Tref10Words, Lref10Words, hB, hR, hI, hlv, hlw, hl', bt, bf, all1, ress, res1, retV, Value.cells, reduceIte, reduceCtorEq, Int.reduceLT, Int.reduceLE, Int.reduceToNat, Int.reduceAdd, Int.reduceSub, Int.reduceMul, Int.reduceNeg, Nat.reduceMul, Nat.reduceAdd, Nat.reduceSub, Nat.reduceBEq, Nat.reduceEqDiff, Nat.reduceLT, Nat.reduceLeDiff, Int.reduceBEq, Int.reduceEq, Nat.reducePow, Int.reducePow, Int.reduceGT, Int.reduceGE, Int.reduceBNe, newsV_s, ev1, ev2, ev3, ev4]
  generalize hX : exec B _ _ (LC.loop _) _ = o
  have hO : Ok o (fun x s => s.H = H ∧ s.N = N ∧ s.t.length = 26 ∧ ((x = .exit 0 ∧ L = M) ∨ (x = .ret ∧ gt s.t 4 = .bool false ∧ L ≠ M))) := by
    rw [← hX]
    refine loop_rule (n0 := 60) (fun k s => ∃ ts, ∃ i : Nat, s = ⟨ts, H, N⟩ ∧ Kref10Words v w L.length i ts ∧ (∀ q, q < i → L.getD q 0 = M.getD q 0) ∧ i ≤ L.length ∧ k = L.length - i) _ ?_ L.length _ ⟨_, 0, rfl, ⟨rfl, rfl, rfl, rfl⟩, fun q hq => by omega, by omega, rfl⟩ _ (by omega)
    rintro n k s ⟨ts, i, rfl, kp, hq, hi, rfl⟩
    have hc1 : ((i + 1 : Nat) : Int) = (i : Int) + 1 := by omega
    by_cases h : i < L.length
    · have h' : (i : Int) < (L.length : Int) := by omega
      have hm' : i < M.length := by omega
      have i0 : (0 : Int) ≤ (i : Int) := by omega
      obtain ⟨bv, ov, cv, rfl, _, rv⟩ := hv.at (by omega)
      obtain ⟨bw, ow, cw, rfl, _, rw'⟩ := hw.at (by omega)
      have rv := SlR.read rv w1_len (Fr.refl (H := H)) 0 h
      have rw' := SlR.read rw' w1_len (Fr.refl (H := H)) 0 hm'
      by_cases he : L.getD i 0 = M.getD i 0
      · rw [← he] at rw'
        generalize L.getD i 0 = a at rv rw'
        simp only [w1, Nat.mul_one] at rv rw'
        simp -implicitDefEqProofs (maxSteps := 10000000) (disch := omega) only [Tref10Words, Lref10Words, hB, hR, hI, kp.l, kp.t0, kp.t1, kp.t5, h', h, hm', i0, hlv, hlw, rv, rw', Nat.mul_one, bne_self_eq_false, bt, bf, all1, ress, res1, retV, Value.cells, reduceIte, reduceCtorEq, Int.reduceLT, Int.reduceLE, Int.reduceToNat, Int.reduceAdd, Int.reduceSub, Int.reduceMul, Int.reduceNeg, Nat.reduceMul, Nat.reduceAdd, Nat.reduceSub, Nat.reduceBEq, Nat.reduceEqDiff, Nat.reduceLT, Nat.reduceLeDiff, Int.reduceBEq, Int.reduceEq, Nat.reducePow, Int.reducePow, Int.reduceGT, Int.reduceGE, Int.reduceBNe, newsV_s, ev1, ev2, ev3, ev4]
        refine ok_some (.inl ⟨rfl, L.length - (i + 1), by omega, _, i + 1, rfl, ⟨?_, ?_, ?_, ?_⟩, fun q hq' => ?_, by omega, rfl⟩)
        rotate_right
        · rcases Nat.lt_or_ge q i with h1 | h1
          · exact hq q h1
          · obtain rfl : q = i := by omega
            exact he
        all_goals simp (maxSteps := 10000000) (disch := omega) only [kp.l, kp.t0, kp.t1, kp.t5, lenV_sl, Int.toNat_natCast, bft, btf, gtst, st_len, hc1, Nat.reduceAdd, Int.cast_ofNat_Int, Nat.reduceBEq, Nat.reduceLT, decide_true, ev2]
      · have hne : L ≠ M := fun e => he (by rw [e])
        generalize L.getD i 0 = a at rv he
        generalize M.getD i 0 = b at rw' he
        have hab : (a != b) = true := by simpa using he
        simp only [w1, Nat.mul_one] at rv rw'
        simp -implicitDefEqProofs (maxSteps := 10000000) (disch := omega) only [Tref10Words, Lref10Words, hB, hR, hI, kp.l, kp.t0, kp.t1, kp.t5, h', h, hm', i0, hlv, hlw, rv, rw', hab, Nat.mul_one, bt, bf, all1, ress, res1, retV, Value.cells, reduceIte, reduceCtorEq, Int.reduceLT, Int.reduceLE, Int.reduceToNat, Int.reduceAdd, Int.reduceSub, Int.reduceMul, Int.reduceNeg, Nat.reduceMul, Nat.reduceAdd, Nat.reduceSub, Nat.reduceBEq, Nat.reduceEqDiff, Nat.reduceLT, Nat.reduceLeDiff, Int.reduceBEq, Int.reduceEq, Nat.reducePow, Int.reducePow, Int.reduceGT, Int.reduceGE, Int.reduceBNe, newsV_s, ev1, ev2, ev3, ev4]
        refine ok_some (.inr ⟨by simp, rfl, rfl, ?_, .inr ⟨rfl, ?_, hne⟩⟩)
        all_goals simp (maxSteps := 10000000) (disch := omega) only [kp.l, kp.t0, kp.t1, kp.t5, lenV_sl, Int.toNat_natCast, bft, btf, gtst, st_len, Nat.reduceAdd, Int.cast_ofNat_Int, Nat.reduceBEq, Nat.reduceLT, decide_true, ev2]
    · simp -implicitDefEqProofs (maxSteps := 10000000) (disch := omega) only [Tref10Words, Lref10Words, hB, hR, hI, kp.l, kp.t0, kp.t1, kp.t5, h, show ¬ (i : Int) < (L.length : Int) by omega, hlv, bt, bf, all1, ress, res1, retV, Value.cells, reduceIte, reduceCtorEq, Int.reduceLT, Int.reduceLE, Int.reduceToNat, Int.reduceAdd, Int.reduceSub, Int.reduceMul, Int.reduceNeg, Nat.reduceMul, Nat.reduceAdd, Nat.reduceSub, Nat.reduceBEq, Nat.reduceEqDiff, Nat.reduceLT, Nat.reduceLeDiff, Int.reduceBEq, Int.reduceEq, Nat.reducePow, Int.reducePow, Int.reduceGT, Int.reduceGE, Int.reduceBNe, newsV_s, ev1, ev2, ev3, ev4]
      refine ok_some (.inr ⟨by simp, rfl, rfl, ?_, .inl ⟨rfl, ?_⟩⟩)
      · simp -implicitDefEqProofs (maxSteps := 10000000) (disch := omega) only [Tref10Words, Lref10Words, hB, hR, hI, kp.l, kp.t0, kp.t1, kp.t5, bt, bf, all1, ress, res1, retV, Value.cells, reduceIte, reduceCtorEq, Int.reduceLT, Int.reduceLE, Int.reduceToNat, Int.reduceAdd, Int.reduceSub, Int.reduceMul, Int.reduceNeg, Nat.reduceMul, Nat.reduceAdd, Nat.reduceSub, Nat.reduceBEq, Nat.reduceEqDiff, Nat.reduceLT, Nat.reduceLeDiff, Int.reduceBEq, Int.reduceEq, Nat.reducePow, Int.reducePow, Int.reduceGT, Int.reduceGE, Int.reduceBNe, newsV_s, ev1, ev2, ev3, ev4]
      · refine List.ext_getElem? fun q => ?_
        rcases Nat.lt_or_ge q i with h1 | h1
        · rw [some_getD (d := 0) (by omega : q < L.length), some_getD (d := 0) (by omega : q < M.length), hq q h1]
        · rw [List.getElem?_eq_none (by omega), List.getElem?_eq_none (by omega)]
  obtain ⟨x, ⟨ts, H1, N1⟩, rfl, rfl, rfl, hl2, hr⟩ := hO
  simp only at hl2
  rcases hr with ⟨rfl, he⟩ | ⟨rfl, h4, hne⟩
  · rw [decide_eq_true he]
    simp -implicitDefEqProofs (maxSteps := 10000000) (disch := omega) only [Tref10Words, Lref10Words, hB, hR, hI, hl2, bt, bf, all1, ress, res1, retV, Value.cells, reduceIte, reduceCtorEq, Int.reduceLT, Int.reduceLE, Int.reduceToNat, Int.reduceAdd, Int.reduceSub, Int.reduceMul, Int.reduceNeg, Nat.reduceMul, Nat.reduceAdd, Nat.reduceSub, Nat.reduceBEq, Nat.reduceEqDiff, Nat.reduceLT, Nat.reduceLeDiff, Int.reduceBEq, Int.reduceEq, Nat.reducePow, Int.reducePow, Int.reduceGT, Int.reduceGE, Int.reduceBNe, newsV_s, ev1, ev2, ev3, ev4]
  · rw [decide_eq_false hne]
    simp only at h4
    simp -implicitDefEqProofs (maxSteps := 10000000) (disch := omega) only [Tref10Words, Lref10Words, hB, hR, hI, hl2, h4, bt, bf, all1, ress, res1, retV, Value.cells, reduceIte, reduceCtorEq, Int.reduceLT, Int.reduceLE, Int.reduceToNat, Int.reduceAdd, Int.reduceSub, Int.reduceMul, Int.reduceNeg, Nat.reduceMul, Nat.reduceAdd, Nat.reduceSub, Nat.reduceBEq, Nat.reduceEqDiff, Nat.reduceLT, Nat.reduceLeDiff, Int.reduceBEq, Int.reduceEq, Nat.reducePow, Int.reducePow, Int.reduceGT, Int.reduceGE, Int.reduceBNe, newsV_s, ev1, ev2, ev3, ev4]
def LsEq : FnL := ⟨(.seq (.ops [⟨(some 4), .mv (.const (.bool false)), none⟩])
 (.seq (.seq (.ops [⟨(some 6), .mv (.tmp 0), none⟩, ⟨(some 7), .len false (.tmp 6), none⟩, ⟨(some 8), .mv (.tmp 1), none⟩, ⟨(some 9), .len false (.tmp 8), none⟩, ⟨(some 10), .bin .neq (.tmp 7) (.tmp 9), none⟩])
 (.cond (.tmp 10) (.seq (.ops [⟨(some 4), .mv (.const (.bool false)), none⟩])
 .ret)
 .skip))
 (.seq (.seq (.ops [⟨(some 11), .mv (.tmp 0), none⟩, ⟨(some 12), .len false (.tmp 11), none⟩, ⟨(some 13), .mv (.const (.int .i64 0)), none⟩])
 (.block 0 (.loop (.seq (.ops [⟨(some 14), .bin .lss (.tmp 13) (.tmp 12), none⟩])
 (.seq (.cond (.tmp 14) .skip
 (.exit 0))
 (.seq (.block 1 (.seq (.ops [⟨(some 15), .mv (.tmp 13), none⟩, ⟨(some 5), .mv (.tmp 15), none⟩])
 (.seq (.draw [⟨⟨(some 16), .mv (.tmp 0), none⟩, []⟩, ⟨⟨(some 17), .mv (.tmp 5), none⟩, []⟩, ⟨⟨(some 18), .iaddrS 1 (.tmp 16) (.tmp 17), none⟩, []⟩, ⟨⟨(some 19), .load false 1 (.tmp 18), none⟩, []⟩, ⟨⟨(some 20), .mv (.tmp 1), none⟩, []⟩, ⟨⟨(some 21), .mv (.tmp 5), none⟩, []⟩, ⟨⟨(some 22), .iaddrS 1 (.tmp 20) (.tmp 21), none⟩, []⟩, ⟨⟨(some 23), .load false 1 (.tmp 22), none⟩, []⟩, ⟨⟨(some 24), .bin .neq (.tmp 19) (.tmp 23), none⟩, []⟩])
 (.cond (.tmp 24) (.seq (.ops [⟨(some 4), .mv (.const (.bool false)), none⟩])
 .ret)
 .skip))))
 (.ops [⟨(some 25), .bin .add (.tmp 13) (.const (.int .i64 1)), none⟩, ⟨(some 13), .mv (.tmp 25), none⟩])))))))
 (.seq (.ops [⟨(some 4), .mv (.const (.bool true)), none⟩])
 .ret)))),
 26, [.tmp 4]⟩
theorem lowsEq : lowerFn Tryd.prog Tryd.f48 = some LsEq := by kernel_rfl
noncomputable def GsEq (B : OH) : Nat → Cs
  | _ => fun _ _ _ => none
theorem sGsEq {w0 : World} {B : OH} : SoundG Tryd.prog w0 B { f := GsEq B } := .of fun k => by
  unfold GsEq
  split
  · exact .inl fun _ _ _ => rfl
theorem ensEq : Enter Tryd.prog 48 := .of Tryd.func48 (by kernel_rfl) (by kernel_rfl)
noncomputable def TsEq (B : OH) : Cs := callF B { f := GsEq B } 1000000 LsEq
theorem sTsEq {w0 : World} {B : OH} : SoundC Tryd.prog w0 B 48 (TsEq B) := callF_sound mixedOrders sGsEq 1000000 Tryd.func48 lowsEq
noncomputable def VsEq (B : OH) : Cs := TsEq B
theorem sVsEq {w0 : World} {B : OH} : SoundC Tryd.prog w0 B 48 (VsEq B) := sTsEq
structure KsEq (v w : Value) (n i : Nat) (ts : List Value) : Prop where
  l : ts.length = 26
  t0 : gt ts 0 = v
  t1 : gt ts 1 = w
  t11 : gt ts 11 = v
  t12 : gt ts 12 = .int .i64 (n : Int)
  t13 : gt ts 13 = .int .i64 (i : Int)
set_option maxHeartbeats 4000000 in
theorem samesEq {B : OH} {H : HL} {N : St} {v w : Value} {L M : List Int} (hN : good B H N) (hv : SlR w1 1 B H v L) (hw : SlR w1 1 B H w M) (hL : L.length ≤ 900000) : VsEq B [v, w] H N = some (.ret (.bool (decide (L = M))), H, N) := by
  have hB := good_B hN
  have hR := good_rdB hN
  have hI := beqN hN.1.1
  have hlv := hv.len
  have hlw := hw.len
  unfold VsEq
  by_cases hl : L.length = M.length
  case neg =>
    have hl' : ((L.length : Int) != (M.length : Int)) = true := by simp; omega
    have hd : decide (L = M) = false := decide_eq_false fun h => hl (by rw [h])
    rw [hd]
    simp -implicitDefEqProofs (maxSteps := 10000000) (disch := omega) only [TsEq, LsEq, hB, hR, hI, hlv, hlw, hl', bt, bf, all1, ress, res1, retV, Value.cells, reduceIte, reduceCtorEq, Int.reduceLT, Int.reduceLE, Int.reduceToNat, Int.reduceAdd, Int.reduceSub, Int.reduceMul, Int.reduceNeg, Nat.reduceMul, Nat.reduceAdd, Nat.reduceSub, Nat.reduceBEq, Nat.reduceEqDiff, Nat.reduceLT, Nat.reduceLeDiff, Int.reduceBEq, Int.reduceEq, Nat.reducePow, Int.reducePow, Int.reduceGT, Int.reduceGE, Int.reduceBNe, newsV_s, ev1, ev2, ev3, ev4]
  have hl' : ((L.length : Int) != (M.length : Int)) = false := by simp; omega
  simp -implicitDefEqProofs (maxSteps := 10000000) (disch := omega) only [TsEq, LsEq, hB, hR, hI, hlv, hlw, hl', bt, bf, all1, ress, res1, retV, Value.cells, reduceIte, reduceCtorEq, Int.reduceLT, Int.reduceLE, Int.reduceToNat, Int.reduceAdd, Int.reduceSub, Int.reduceMul, Int.reduceNeg, Nat.reduceMul, Nat.reduceAdd, Nat.reduceSub, Nat.reduceBEq, Nat.reduceEqDiff, Nat.reduceLT, Nat.reduceLeDiff, Int.reduceBEq, Int.reduceEq, Nat.reducePow, Int.reducePow, Int.reduceGT, Int.reduceGE, Int.reduceBNe, newsV_s, ev1, ev2, ev3, ev4]
  generalize hX : exec B _ _ (LC.loop _) _ = o
  have hO : Ok o (fun x s => s.H = H ∧ s.N = N ∧ s.t.length = 26 ∧ ((x = .exit 0 ∧ L = M) ∨ (x = .ret ∧ gt s.t 4 = .bool false ∧ L ≠ M))) := by
    rw [← hX]
    refine loop_rule (n0 := 60) (fun k s => ∃ ts, ∃ i : Nat, s = ⟨ts, H, N⟩ ∧ KsEq v w L.length i ts ∧ (∀ q, q < i → L.getD q 0 = M.getD q 0) ∧ i ≤ L.length ∧ k = L.length - i) _ ?_ L.length _ ⟨_, 0, rfl, ⟨rfl, rfl, rfl, rfl, rfl, rfl⟩, fun q hq => by omega, by omega, rfl⟩ _ (by omega)
    rintro n k s ⟨ts, i, rfl, kp, hq, hi, rfl⟩
    have hc1 : ((i + 1 : Nat) : Int) = (i : Int) + 1 := by omega
    by_cases h : i < L.length
    · have h' : (i : Int) < (L.length : Int) := by omega
      have hm' : i < M.length := by omega
      have i0 : (0 : Int) ≤ (i : Int) := by omega
      obtain ⟨bv, ov, cv, rfl, _, rv⟩ := hv.at (by omega)
      obtain ⟨bw, ow, cw, rfl, _, rw'⟩ := hw.at (by omega)
      have rv := SlR.read rv w1_len (Fr.refl (H := H)) 0 h
      have rw' := SlR.read rw' w1_len (Fr.refl (H := H)) 0 hm'
      by_cases he : L.getD i 0 = M.getD i 0
      · rw [← he] at rw'
        generalize L.getD i 0 = a at rv rw'
        simp only [w1, Nat.mul_one] at rv rw'
        simp -implicitDefEqProofs (maxSteps := 10000000) (disch := omega) only [TsEq, LsEq, hB, hR, hI, kp.l, kp.t0, kp.t1, kp.t11, kp.t12, kp.t13, h', h, hm', i0, hlv, hlw, rv, rw', Nat.mul_one, bne_self_eq_false, bt, bf, all1, ress, res1, retV, Value.cells, reduceIte, reduceCtorEq, Int.reduceLT, Int.reduceLE, Int.reduceToNat, Int.reduceAdd, Int.reduceSub, Int.reduceMul, Int.reduceNeg, Nat.reduceMul, Nat.reduceAdd, Nat.reduceSub, Nat.reduceBEq, Nat.reduceEqDiff, Nat.reduceLT, Nat.reduceLeDiff, Int.reduceBEq, Int.reduceEq, Nat.reducePow, Int.reducePow, Int.reduceGT, Int.reduceGE, Int.reduceBNe, newsV_s, ev1, ev2, ev3, ev4]
        refine ok_some (.inl ⟨rfl, L.length - (i + 1), by omega, _, i + 1, rfl, ⟨?_, ?_, ?_, ?_, ?_, ?_⟩, fun q hq' => ?_, by omega, rfl⟩)
        rotate_right
        · rcases Nat.lt_or_ge q i with h1 | h1
          · exact hq q h1
          · obtain rfl : q = i := by omega
            exact he
        all_goals simp (maxSteps := 10000000) (disch := omega) only [kp.l, kp.t0, kp.t1, kp.t11, kp.t12, kp.t13, lenV_sl, Int.toNat_natCast, bft, btf, gtst, st_len, hc1, Nat.reduceAdd, Int.cast_ofNat_Int, Nat.reduceBEq, Nat.reduceLT, decide_true, ev2]
      · have hne : L ≠ M := fun e => he (by rw [e])
        generalize L.getD i 0 = a at rv he
        generalize M.getD i 0 = b at rw' he
        have hab : (a != b) = true := by simpa using he
        simp only [w1, Nat.mul_one] at rv rw'
        simp -implicitDefEqProofs (maxSteps := 10000000) (disch := omega) only [TsEq, LsEq, hB, hR, hI, kp.l, kp.t0, kp.t1, kp.t11, kp.t12, kp.t13, h', h, hm', i0, hlv, hlw, rv, rw', hab, Nat.mul_one, bt, bf, all1, ress, res1, retV, Value.cells, reduceIte, reduceCtorEq, Int.reduceLT, Int.reduceLE, Int.reduceToNat, Int.reduceAdd, Int.reduceSub, Int.reduceMul, Int.reduceNeg, Nat.reduceMul, Nat.reduceAdd, Nat.reduceSub, Nat.reduceBEq, Nat.reduceEqDiff, Nat.reduceLT, Nat.reduceLeDiff, Int.reduceBEq, Int.reduceEq, Nat.reducePow, Int.reducePow, Int.reduceGT, Int.reduceGE, Int.reduceBNe, newsV_s, ev1, ev2, ev3, ev4]
        refine ok_some (.inr ⟨by simp, rfl, rfl, ?_, .inr ⟨rfl, ?_, hne⟩⟩)
        all_goals simp (maxSteps := 10000000) (disch := omega) only [kp.l, kp.t0, kp.t1, kp.t11, kp.t12, kp.t13, lenV_sl, Int.toNat_natCast, bft, btf, gtst, st_len, Nat.reduceAdd, Int.cast_ofNat_Int, Nat.reduceBEq, Nat.reduceLT, decide_true, ev2]
    · simp -implicitDefEqProofs (maxSteps := 10000000) (disch := omega) only [TsEq, LsEq, hB, hR, hI, kp.l, kp.t0, kp.t1, kp.t11, kp.t12, kp.t13, h, show ¬ (i : Int) < (L.length : Int) by omega, hlv, bt, bf, all1, ress, res1, retV, Value.cells, reduceIte, reduceCtorEq, Int.reduceLT, Int.reduceLE, Int.reduceToNat, Int.reduceAdd, Int.reduceSub, Int.reduceMul, Int.reduceNeg, Nat.reduceMul, Nat.reduceAdd, Nat.reduceSub, Nat.reduceBEq, Nat.reduceEqDiff, Nat.reduceLT, Nat.reduceLeDiff, Int.reduceBEq, Int.reduceEq, Nat.reducePow, Int.reducePow, Int.reduceGT, Int.reduceGE, Int.reduceBNe, newsV_s, ev1, ev2, ev3, ev4]
      refine ok_some (.inr ⟨by simp, rfl, rfl, ?_, .inl ⟨rfl, ?_⟩⟩)
      · simp -implicitDefEqProofs (maxSteps := 10000000) (disch := omega) only [TsEq, LsEq, hB, hR, hI, kp.l, kp.t0, kp.t1, kp.t11, kp.t12, kp.t13, bt, bf, all1, ress, res1, retV, Value.cells, reduceIte, reduceCtorEq, Int.reduceLT, Int.reduceLE, Int.reduceToNat, Int.reduceAdd, Int.reduceSub, Int.reduceMul, Int.reduceNeg, Nat.reduceMul, Nat.reduceAdd, Nat.reduceSub, Nat.reduceBEq, Nat.reduceEqDiff, Nat.reduceLT, Nat.reduceLeDiff, Int.reduceBEq, Int.reduceEq, Nat.reducePow, Int.reducePow, Int.reduceGT, Int.reduceGE, Int.reduceBNe, newsV_s, ev1, ev2, ev3, ev4]
      · refine List.ext_getElem? fun q => ?_
        rcases Nat.lt_or_ge q i with h1 | h1
        · rw [some_getD (d := 0) (by omega : q < L.length), some_getD (d := 0) (by omega : q < M.length), hq q h1]
        · rw [List.getElem?_eq_none (by omega), List.getElem?_eq_none (by omega)]
  obtain ⟨x, ⟨ts, H1, N1⟩, rfl, rfl, rfl, hl2, hr⟩ := hO
  simp only at hl2
  rcases hr with ⟨rfl, he⟩ | ⟨rfl, h4, hne⟩
  · rw [decide_eq_true he]
    simp -implicitDefEqProofs (maxSteps := 10000000) (disch := omega) only [TsEq, LsEq, hB, hR, hI, hl2, bt, bf, all1, ress, res1, retV, Value.cells, reduceIte, reduceCtorEq, Int.reduceLT, Int.reduceLE, Int.reduceToNat, Int.reduceAdd, Int.reduceSub, Int.reduceMul, Int.reduceNeg, Nat.reduceMul, Nat.reduceAdd, Nat.reduceSub, Nat.reduceBEq, Nat.reduceEqDiff, Nat.reduceLT, Nat.reduceLeDiff, Int.reduceBEq, Int.reduceEq, Nat.reducePow, Int.reducePow, Int.reduceGT, Int.reduceGE, Int.reduceBNe, newsV_s, ev1, ev2, ev3, ev4]
  · rw [decide_eq_false hne]
    simp only at h4
    simp -implicitDefEqProofs (maxSteps := 10000000) (disch := omega) only [TsEq, LsEq, hB, hR, hI, hl2, h4, bt, bf, all1, ress, res1, retV, Value.cells, reduceIte, reduceCtorEq, Int.reduceLT, Int.reduceLE, Int.reduceToNat, Int.reduceAdd, Int.reduceSub, Int.reduceMul, Int.reduceNeg, Nat.reduceMul, Nat.reduceAdd, Nat.reduceSub, Nat.reduceBEq, Nat.reduceEqDiff, Nat.reduceLT, Nat.reduceLeDiff, Int.reduceBEq, Int.reduceEq, Nat.reducePow, Int.reducePow, Int.reduceGT, Int.reduceGE, Int.reduceBNe, newsV_s, ev1, ev2, ev3, ev4]
def Lref05Writes : FnL := ⟨(.seq (.ops [⟨(some 4), .mv (.const (.bool false)), none⟩])
 (.seq (.seq (.ops [⟨(some 6), .mv (.tmp 0), none⟩, ⟨(some 7), .len false (.tmp 6), none⟩, ⟨(some 8), .mv (.tmp 1), none⟩, ⟨(some 9), .len false (.tmp 8), none⟩, ⟨(some 10), .bin .neq (.tmp 7) (.tmp 9), none⟩])
 (.cond (.tmp 10) (.seq (.ops [⟨(some 4), .mv (.const (.bool false)), none⟩])
 .ret)
 .skip))
 (.seq (.seq (.ops [⟨(some 5), .mv (.const (.int .i64 0)), none⟩])
 (.block 0 (.loop (.seq (.seq (.ops [⟨(some 11), .mv (.tmp 5), none⟩, ⟨(some 12), .mv (.tmp 0), none⟩, ⟨(some 13), .len false (.tmp 12), none⟩, ⟨(some 14), .bin .lss (.tmp 11) (.tmp 13), none⟩])
 (.cond (.tmp 14) .skip
 (.exit 0)))
 (.seq (.block 1 (.seq (.draw [⟨⟨(some 17), .mv (.tmp 0), none⟩, []⟩, ⟨⟨(some 18), .mv (.tmp 5), none⟩, []⟩, ⟨⟨(some 19), .iaddrS 2 (.tmp 17) (.tmp 18), none⟩, []⟩, ⟨⟨(some 20), .load true 2 (.tmp 19), none⟩, []⟩, ⟨⟨(some 21), .mv (.tmp 1), none⟩, []⟩, ⟨⟨(some 22), .mv (.tmp 5), none⟩, []⟩, ⟨⟨(some 23), .iaddrS 2 (.tmp 21) (.tmp 22), none⟩, []⟩, ⟨⟨(some 24), .load true 2 (.tmp 23), none⟩, []⟩, ⟨⟨(some 25), .eqA true [.int, .int] (.tmp 20) (.tmp 24), none⟩, []⟩])
 (.cond (.tmp 25) (.seq (.ops [⟨(some 4), .mv (.const (.bool false)), none⟩])
 .ret)
 .skip)))
 (.ops [⟨(some 15), .mv (.tmp 5), none⟩, ⟨(some 16), .bin .add (.tmp 15) (.const (.int .i64 1)), none⟩, ⟨(some 5), .mv (.tmp 16), none⟩]))))))
 (.seq (.ops [⟨(some 4), .mv (.const (.bool true)), none⟩])
 .ret)))),
 26, [.tmp 4]⟩
theorem lowref05Writes : lowerFn Tryd.prog Tryd.f20 = some Lref05Writes := by kernel_rfl
noncomputable def Gref05Writes (B : OH) : Nat → Cs
  | _ => fun _ _ _ => none
theorem sGref05Writes {w0 : World} {B : OH} : SoundG Tryd.prog w0 B { f := Gref05Writes B } := .of fun k => by
  unfold Gref05Writes
  split
  · exact .inl fun _ _ _ => rfl
theorem enref05Writes : Enter Tryd.prog 20 := .of Tryd.func20 (by kernel_rfl) (by kernel_rfl)
noncomputable def Tref05Writes (B : OH) : Cs := callF B { f := Gref05Writes B } 1000000 Lref05Writes
theorem sTref05Writes {w0 : World} {B : OH} : SoundC Tryd.prog w0 B 20 (Tref05Writes B) := callF_sound mixedOrders sGref05Writes 1000000 Tryd.func20 lowref05Writes
noncomputable def Vref05Writes (B : OH) : Cs := Tref05Writes B
theorem sVref05Writes {w0 : World} {B : OH} : SoundC Tryd.prog w0 B 20 (Vref05Writes B) := sTref05Writes
structure Kref05Writes (v w : Value) (n i : Nat) (ts : List Value) : Prop where
  l : ts.length = 26
  t0 : gt ts 0 = v
  t1 : gt ts 1 = w
  t5 : gt ts 5 = .int .i64 (i : Int)
set_option maxHeartbeats 4000000 in
theorem sameref05Writes {B : OH} {H : HL} {N : St} {v w : Value} {L M : List W2} (hN : good B H N) (hv : SlR w2 2 B H v L) (hw : SlR w2 2 B H w M) (hL : L.length ≤ 900000) : Vref05Writes B [v, w] H N = some (.ret (.bool (decide (L = M))), H, N) := by
  have hB := good_B hN
  have hR := good_rdB hN
  have hI := beqN hN.1.1
  have hlv := hv.len
  have hlw := hw.len
  unfold Vref05Writes
  by_cases hl : L.length = M.length
  case neg =>
    have hl' : ((L.length : Int) != (M.length : Int)) = true := by simp; omega
    have hd : decide (L = M) = false := decide_eq_false fun h => hl (by rw [h])
    rw [hd]
    simp -implicitDefEqProofs (maxSteps := 10000000) (disch := omega) only [Tref05Writes, Lref05Writes, hB, hR, hI, hlv, hlw, hl', bt, bf, all1, ress, res1, retV, Value.cells, reduceIte, reduceCtorEq, Int.reduceLT, Int.reduceLE, Int.reduceToNat, Int.reduceAdd, Int.reduceSub, Int.reduceMul, Int.reduceNeg, Nat.reduceMul, Nat.reduceAdd, Nat.reduceSub, Nat.reduceBEq, Nat.reduceEqDiff, Nat.reduceLT, Nat.reduceLeDiff, Int.reduceBEq, Int.reduceEq, Nat.reducePow, Int.reducePow, Int.reduceGT, Int.reduceGE, Int.reduceBNe, newsV_s, ev1, ev2, ev3, ev4]
  have hl' : ((L.length : Int) != (M.length : Int)) = false := by simp; omega
  simp -implicitDefEqProofs (maxSteps := 10000000) (disch := omega) only [Tref05Writes, Lref05Writes, hB, hR, hI, hlv, hlw, hl', bt, bf, all1, ress, res1, retV, Value.cells, reduceIte, reduceCtorEq, Int.reduceLT, Int.reduceLE, Int.reduceToNat, Int.reduceAdd, Int.reduceSub, Int.reduceMul, Int.reduceNeg, Nat.reduceMul, Nat.reduceAdd, Nat.reduceSub, Nat.reduceBEq, Nat.reduceEqDiff, Nat.reduceLT, Nat.reduceLeDiff, Int.reduceBEq, Int.reduceEq, Nat.reducePow, Int.reducePow, Int.reduceGT, Int.reduceGE, Int.reduceBNe, newsV_s, ev1, ev2, ev3, ev4]
  generalize hX : exec B _ _ (LC.loop _) _ = o
  have hO : Ok o (fun x s => s.H = H ∧ s.N = N ∧ s.t.length = 26 ∧ ((x = .exit 0 ∧ L = M) ∨ (x = .ret ∧ gt s.t 4 = .bool false ∧ L ≠ M))) := by
    rw [← hX]
    refine loop_rule (n0 := 60) (fun k s => ∃ ts, ∃ i : Nat, s = ⟨ts, H, N⟩ ∧ Kref05Writes v w L.length i ts ∧ (∀ q, q < i → L.getD q y2 = M.getD q y2) ∧ i ≤ L.length ∧ k = L.length - i) _ ?_ L.length _ ⟨_, 0, rfl, ⟨rfl, rfl, rfl, rfl⟩, fun q hq => by omega, by omega, rfl⟩ _ (by omega)
    rintro n k s ⟨ts, i, rfl, kp, hq, hi, rfl⟩
    have hc1 : ((i + 1 : Nat) : Int) = (i : Int) + 1 := by omega
    by_cases h : i < L.length
    · have h' : (i : Int) < (L.length : Int) := by omega
      have hm' : i < M.length := by omega
      have i0 : (0 : Int) ≤ (i : Int) := by omega
      obtain ⟨bv, ov, cv, rfl, _, rv⟩ := hv.at (by omega)
      obtain ⟨bw, ow, cw, rfl, _, rw'⟩ := hw.at (by omega)
      have rv := SlR.read rv w2_len (Fr.refl (H := H)) y2 h
      have rw' := SlR.read rw' w2_len (Fr.refl (H := H)) y2 hm'
      by_cases he : L.getD i y2 = M.getD i y2
      · rw [← he] at rw'
        generalize L.getD i y2 = a at rv rw'
        simp only [w2, Nat.mul_one] at rv rw'
        simp -implicitDefEqProofs (maxSteps := 10000000) (disch := omega) only [Tref05Writes, Lref05Writes, hB, hR, hI, kp.l, kp.t0, kp.t1, kp.t5, h', h, hm', i0, hlv, hlw, rv, rw', Nat.mul_one, bne_self_eq_false, bt, bf, all1, ress, res1, retV, Value.cells, reduceIte, reduceCtorEq, Int.reduceLT, Int.reduceLE, Int.reduceToNat, Int.reduceAdd, Int.reduceSub, Int.reduceMul, Int.reduceNeg, Nat.reduceMul, Nat.reduceAdd, Nat.reduceSub, Nat.reduceBEq, Nat.reduceEqDiff, Nat.reduceLT, Nat.reduceLeDiff, Int.reduceBEq, Int.reduceEq, Nat.reducePow, Int.reducePow, Int.reduceGT, Int.reduceGE, Int.reduceBNe, newsV_s, ev1, ev2, ev3, ev4]
        refine ok_some (.inl ⟨rfl, L.length - (i + 1), by omega, _, i + 1, rfl, ⟨?_, ?_, ?_, ?_⟩, fun q hq' => ?_, by omega, rfl⟩)
        rotate_right
        · rcases Nat.lt_or_ge q i with h1 | h1
          · exact hq q h1
          · obtain rfl : q = i := by omega
            exact he
        all_goals simp (maxSteps := 10000000) (disch := omega) only [kp.l, kp.t0, kp.t1, kp.t5, lenV_sl, Int.toNat_natCast, bft, btf, gtst, st_len, hc1, Nat.reduceAdd, Int.cast_ofNat_Int, Nat.reduceBEq, Nat.reduceLT, decide_true, ev2]
      · have hne : L ≠ M := fun e => he (by rw [e])
        generalize L.getD i y2 = a at rv he
        generalize M.getD i y2 = b at rw' he
        have hab := neW he
        simp only [w2, Nat.mul_one] at rv rw'
        simp -implicitDefEqProofs (maxSteps := 10000000) (disch := omega) only [Tref05Writes, Lref05Writes, hB, hR, hI, kp.l, kp.t0, kp.t1, kp.t5, h', h, hm', i0, hlv, hlw, rv, rw', hab, Nat.mul_one, bt, bf, all1, ress, res1, retV, Value.cells, reduceIte, reduceCtorEq, Int.reduceLT, Int.reduceLE, Int.reduceToNat, Int.reduceAdd, Int.reduceSub, Int.reduceMul, Int.reduceNeg, Nat.reduceMul, Nat.reduceAdd, Nat.reduceSub, Nat.reduceBEq, Nat.reduceEqDiff, Nat.reduceLT, Nat.reduceLeDiff, Int.reduceBEq, Int.reduceEq, Nat.reducePow, Int.reducePow, Int.reduceGT, Int.reduceGE, Int.reduceBNe, newsV_s, ev1, ev2, ev3, ev4]
        refine ok_some (.inr ⟨by simp, rfl, rfl, ?_, .inr ⟨rfl, ?_, hne⟩⟩)
        all_goals simp (maxSteps := 10000000) (disch := omega) only [kp.l, kp.t0, kp.t1, kp.t5, lenV_sl, Int.toNat_natCast, bft, btf, gtst, st_len, Nat.reduceAdd, Int.cast_ofNat_Int, Nat.reduceBEq, Nat.reduceLT, decide_true, ev2]
    · simp -implicitDefEqProofs (maxSteps := 10000000) (disch := omega) only [Tref05Writes, Lref05Writes, hB, hR, hI, kp.l, kp.t0, kp.t1, kp.t5, h, show ¬ (i : Int) < (L.length : Int) by omega, hlv, bt, bf, all1, ress, res1, retV, Value.cells, reduceIte, reduceCtorEq, Int.reduceLT, Int.reduceLE, Int.reduceToNat, Int.reduceAdd, Int.reduceSub, Int.reduceMul, Int.reduceNeg, Nat.reduceMul, Nat.reduceAdd, Nat.reduceSub, Nat.reduceBEq, Nat.reduceEqDiff, Nat.reduceLT, Nat.reduceLeDiff, Int.reduceBEq, Int.reduceEq, Nat.reducePow, Int.reducePow, Int.reduceGT, Int.reduceGE, Int.reduceBNe, newsV_s, ev1, ev2, ev3, ev4]
      refine ok_some (.inr ⟨by simp, rfl, rfl, ?_, .inl ⟨rfl, ?_⟩⟩)
      · simp -implicitDefEqProofs (maxSteps := 10000000) (disch := omega) only [Tref05Writes, Lref05Writes, hB, hR, hI, kp.l, kp.t0, kp.t1, kp.t5, bt, bf, all1, ress, res1, retV, Value.cells, reduceIte, reduceCtorEq, Int.reduceLT, Int.reduceLE, Int.reduceToNat, Int.reduceAdd, Int.reduceSub, Int.reduceMul, Int.reduceNeg, Nat.reduceMul, Nat.reduceAdd, Nat.reduceSub, Nat.reduceBEq, Nat.reduceEqDiff, Nat.reduceLT, Nat.reduceLeDiff, Int.reduceBEq, Int.reduceEq, Nat.reducePow, Int.reducePow, Int.reduceGT, Int.reduceGE, Int.reduceBNe, newsV_s, ev1, ev2, ev3, ev4]
      · refine List.ext_getElem? fun q => ?_
        rcases Nat.lt_or_ge q i with h1 | h1
        · rw [some_getD (d := y2) (by omega : q < L.length), some_getD (d := y2) (by omega : q < M.length), hq q h1]
        · rw [List.getElem?_eq_none (by omega), List.getElem?_eq_none (by omega)]
  obtain ⟨x, ⟨ts, H1, N1⟩, rfl, rfl, rfl, hl2, hr⟩ := hO
  simp only at hl2
  rcases hr with ⟨rfl, he⟩ | ⟨rfl, h4, hne⟩
  · rw [decide_eq_true he]
    simp -implicitDefEqProofs (maxSteps := 10000000) (disch := omega) only [Tref05Writes, Lref05Writes, hB, hR, hI, hl2, bt, bf, all1, ress, res1, retV, Value.cells, reduceIte, reduceCtorEq, Int.reduceLT, Int.reduceLE, Int.reduceToNat, Int.reduceAdd, Int.reduceSub, Int.reduceMul, Int.reduceNeg, Nat.reduceMul, Nat.reduceAdd, Nat.reduceSub, Nat.reduceBEq, Nat.reduceEqDiff, Nat.reduceLT, Nat.reduceLeDiff, Int.reduceBEq, Int.reduceEq, Nat.reducePow, Int.reducePow, Int.reduceGT, Int.reduceGE, Int.reduceBNe, newsV_s, ev1, ev2, ev3, ev4]
  · rw [decide_eq_false hne]
    simp only at h4
    simp -implicitDefEqProofs (maxSteps := 10000000) (disch := omega) only [Tref05Writes, Lref05Writes, hB, hR, hI, hl2, h4, bt, bf, all1, ress, res1, retV, Value.cells, reduceIte, reduceCtorEq, Int.reduceLT, Int.reduceLE, Int.reduceToNat, Int.reduceAdd, Int.reduceSub, Int.reduceMul, Int.reduceNeg, Nat.reduceMul, Nat.reduceAdd, Nat.reduceSub, Nat.reduceBEq, Nat.reduceEqDiff, Nat.reduceLT, Nat.reduceLeDiff, Int.reduceBEq, Int.reduceEq, Nat.reducePow, Int.reducePow, Int.reduceGT, Int.reduceGE, Int.reduceBNe, newsV_s, ev1, ev2, ev3, ev4]
def Lref03New : FnL := ⟨(.seq (.ops [⟨(some 2), .alloc [(.slice none 0 0)], none⟩, ⟨(some 3), .mv (.const (.int .i64 0)), none⟩])
 (.seq (.seq (.ops [⟨(some 4), .mv (.tmp 0), none⟩, ⟨(some 5), .bin .lss (.tmp 4) (.const (.int .i64 0)), none⟩, ⟨(some 6), .mv (.tmp 5), none⟩, ⟨(some 7), .mv (.tmp 0), (some (6, false))⟩, ⟨(some 8), .bin .gtr (.tmp 7) (.const (.int .i64 1048576)), (some (6, false))⟩, ⟨(some 9), .pick (.tmp 6) (.const (.bool true)) (.tmp 8), none⟩])
 (.cond (.tmp 9) (.seq (.ops [⟨(some 10), .build [(.slice none 0 0)] [], none⟩, ⟨none, .store 1 (.tmp 2) (.tmp 10), none⟩, ⟨(some 3), .mv (.const (.int .i64 1)), none⟩])
 .ret)
 .skip))
 (.seq (.ops [⟨(some 11), .mv (.tmp 0), none⟩, ⟨(some 12), .mks [(.int .u64 0), (.int .i64 0)] 16 (.tmp 11) (.tmp 11), none⟩, ⟨(some 13), .build [(.slice none 0 0)] [(0, 1, (.tmp 12))], none⟩, ⟨none, .store 1 (.tmp 2) (.tmp 13), none⟩, ⟨(some 3), .mv (.const (.int .i64 0)), none⟩])
 .ret))),
 14, [.cell 2 true 1, .tmp 3]⟩
theorem lowref03New : lowerFn Tryd.prog Tryd.f36 = some Lref03New := by kernel_rfl
noncomputable def Gref03New (B : OH) : Nat → Cs
  | _ => fun _ _ _ => none
theorem sGref03New {w0 : World} {B : OH} : SoundG Tryd.prog w0 B { f := Gref03New B } := .of fun k => by
  unfold Gref03New
  split
  · exact .inl fun _ _ _ => rfl
theorem enref03New : Enter Tryd.prog 36 := .of Tryd.func36 (by kernel_rfl) (by kernel_rfl)
noncomputable def Tref03New (B : OH) : Cs := callF B { f := Gref03New B } 1000000 Lref03New
theorem sTref03New {w0 : World} {B : OH} : SoundC Tryd.prog w0 B 36 (Tref03New B) := callF_sound mixedOrders sGref03New 1000000 Tryd.func36 lowref03New
noncomputable def Vref03New (B : OH) : Cs := Tref03New B
theorem sVref03New {w0 : World} {B : OH} : SoundC Tryd.prog w0 B 36 (Vref03New B) := sTref03New
theorem mnew {B : OH} {H : HL} {N : St} (hN : good B H N) {n : Nat} (hn : n ≤ 1048576) : ∃ v H' N', Vref03New B [.int .i64 (n : Int)] H N = some (.ret (.tuple #[.agg #[v], .int .i64 0]), H', N') ∧ good B H' N' ∧ Fr H H' ∧ SlN c2 2 B H H' v (List.replicate n z2) := by
  have hB := good_B hN
  have hR := good_rdB hN
  have hI := beqN hN.1.1
  have n1 : ¬ (n : Int) < 0 := by omega
  have n2 : ¬ (n : Int) > 1048576 := by omega
  have n3 : (0 : Int) ≤ (n : Int) := by omega
  have n4 : (n : Int) ≤ (n : Int) := Int.le_refl _
  have n5 : (n : Int) ≤ 140737488355328 := by omega
  have n6 : (16 : Int) * (n : Int) ≤ 140737488355328 := by omega
  unfold Vref03New
  simp -implicitDefEqProofs (maxSteps := 10000000) (disch := omega) only [Tref03New, Lref03New, hB, hR, hI, n1, n2, n3, n4, n5, n6, rep_c2, bt, bf, all1, ress, res1, retV, Value.cells, reduceIte, reduceCtorEq, Int.reduceLT, Int.reduceLE, Int.reduceToNat, Int.reduceAdd, Int.reduceSub, Int.reduceMul, Int.reduceNeg, Nat.reduceMul, Nat.reduceAdd, Nat.reduceSub, Nat.reduceBEq, Nat.reduceEqDiff, Nat.reduceLT, Nat.reduceLeDiff, Int.reduceBEq, Int.reduceEq, Nat.reducePow, Int.reducePow, Int.reduceGT, Int.reduceGE, Int.reduceBNe, newsV_s, ev1, ev2, ev3, ev4]
  refine ⟨_, _, _, rfl, ?_, ?_, .inr ⟨N.n 1, n, by rw [List.length_replicate], hB 1, lk_N hN 1, by rw [List.length_replicate]; exact Nat.le_refl _, ?_⟩⟩
  · exact good_new (good_new hN)
  · exact fr_new (good_new hN) (fr_new hN Fr.refl 0) 0
  · simp -implicitDefEqProofs (maxSteps := 10000000) (disch := omega) only [Tref03New, Lref03New, hB, hR, hI, hB, bt, bf, all1, ress, res1, retV, Value.cells, reduceIte, reduceCtorEq, Int.reduceLT, Int.reduceLE, Int.reduceToNat, Int.reduceAdd, Int.reduceSub, Int.reduceMul, Int.reduceNeg, Nat.reduceMul, Nat.reduceAdd, Nat.reduceSub, Nat.reduceBEq, Nat.reduceEqDiff, Nat.reduceLT, Nat.reduceLeDiff, Int.reduceBEq, Int.reduceEq, Nat.reducePow, Int.reducePow, Int.reduceGT, Int.reduceGE, Int.reduceBNe, newsV_s, ev1, ev2, ev3, ev4]
def Lref03Own : FnL := ⟨(.seq (.ops [⟨(some 1), .box (.tmp 0), none⟩, ⟨(some 2), .alloc [(.slice none 0 0)], none⟩])
 (.seq (.ops [⟨(some 3), .faddr 0 (.tmp 1), none⟩, ⟨(some 4), .load false 1 (.tmp 3), none⟩, ⟨(some 5), .app [(.int .u64 0), (.int .i64 0)] 16 (.const (.slice none 0 0)) (.tmp 4), none⟩, ⟨(some 6), .build [(.slice none 0 0)] [(0, 1, (.tmp 5))], none⟩, ⟨none, .store 1 (.tmp 2) (.tmp 6), none⟩])
 .ret)),
 7, [.cell 2 true 1]⟩
theorem lowref03Own : lowerFn Tryd.prog Tryd.f49 = some Lref03Own := by kernel_rfl
noncomputable def Gref03Own (B : OH) : Nat → Cs
  | _ => fun _ _ _ => none
theorem sGref03Own {w0 : World} {B : OH} : SoundG Tryd.prog w0 B { f := Gref03Own B } := .of fun k => by
  unfold Gref03Own
  split
  · exact .inl fun _ _ _ => rfl
theorem enref03Own : Enter Tryd.prog 49 := .of Tryd.func49 (by kernel_rfl) (by kernel_rfl)
noncomputable def Tref03Own (B : OH) : Cs := callF B { f := Gref03Own B } 1000000 Lref03Own
theorem sTref03Own {w0 : World} {B : OH} : SoundC Tryd.prog w0 B 49 (Tref03Own B) := callF_sound mixedOrders sGref03Own 1000000 Tryd.func49 lowref03Own
noncomputable def Vref03Own (B : OH) : Cs := Tref03Own B
theorem sVref03Own {w0 : World} {B : OH} : SoundC Tryd.prog w0 B 49 (Vref03Own B) := sTref03Own
theorem own {B : OH} {H : HL} {N : St} {v : Value} {L : List C2} (hN : good B H N) (hv : SlW c2 2 B H v L) (hL : L.length ≤ 900000) : ∃ v' H' N', Vref03Own B [.agg #[v]] H N = some (.ret (.agg #[v']), H', N') ∧ good B H' N' ∧ Fr H H' ∧ SlM c2 2 B H H' v' L := by
  have hB := good_B hN
  have hR := good_rdB hN
  have hI := beqN hN.1.1
  have g1 : good B ((N.n 0, .cells [v] 1) :: H) (sh N) := good_new hN
  have f1 : Fr H ((N.n 0, .cells [v] 1) :: H) := fr_new hN Fr.refl 0
  have g2 : good B (((sh N).n 0, .cells [.slice none 0 0] 1) :: (N.n 0, .cells [v] 1) :: H) (sh (sh N)) := good_new g1
  have f2 : Fr H (((sh N).n 0, .cells [.slice none 0 0] 1) :: (N.n 0, .cells [v] 1) :: H) := fr_new g1 f1 0
  obtain ⟨v4, H4, N4, e4, g4, r4, fs, s4, hb⟩ := app_many (H0 := H) (bytes := 16) (v := .slice none 0 0) (L := ([] : List C2)) c2_len (by omega) g2 f2 (.inl ⟨rfl, rfl⟩) (hv.mono f2) (all1_c2 _) (by simp only [List.length_nil]; omega) (by simp only [List.length_nil]; omega)
  rw [List.nil_append] at s4
  have l1 : lk H4 ((sh N).n 0) = some (.cells [.slice none 0 0] 1) := fs _ _ (by simp [slB]) lk_top
  obtain ⟨a, c, rfl, _⟩ := id hv
  simp only [sh_app] at e4 l1
  have hb1 := hB 1
  have rb1 := fun o n => rdB_none (o := o) (n := n) hb1
  have hw := s4.rd c2_len
  obtain ⟨a4, c4, rfl, _⟩ := id hw
  unfold Vref03Own
  simp -implicitDefEqProofs (maxSteps := 10000000) (disch := omega) only [Tref03Own, Lref03Own, hB, hR, hI, e4, l1, hb1, rb1, bt, bf, all1, ress, res1, retV, Value.cells, reduceIte, reduceCtorEq, Int.reduceLT, Int.reduceLE, Int.reduceToNat, Int.reduceAdd, Int.reduceSub, Int.reduceMul, Int.reduceNeg, Nat.reduceMul, Nat.reduceAdd, Nat.reduceSub, Nat.reduceBEq, Nat.reduceEqDiff, Nat.reduceLT, Nat.reduceLeDiff, Int.reduceBEq, Int.reduceEq, Nat.reducePow, Int.reducePow, Int.reduceGT, Int.reduceGE, Int.reduceBNe, ev1, ev2, ev3, ev4]
  have gu := good_up (k := .cells [.slice a4 L.length c4] 1) g4 hb1 l1
  have fu : Fr H (upH H4 (N.n 1) (.cells [.slice a4 L.length c4] 1)) := fr_up r4 (lk_N hN 1)
  refine ⟨_, _, _, rfl, gu, fu, s4.mono fun y c hy e => ?_⟩
  have hne : (y == N.n 1) = false := by
    cases h : y == N.n 1 with
    | false => rfl
    | true =>
      have hy1 : y = N.n 1 := by simpa using h
      have hy0 : slB (.slice a4 L.length c4) = some (N.n 1) := by rw [hy, hy1]
      rcases hb with hb | hb
      · rw [hy0] at hb; simp [slB] at hb
      · rw [hy0] at hb
        have := hI 1 2
        have h3 : N.n 1 = N.n 2 := by simpa [sh_app] using hb
        rw [h3] at this; simp at this
  rw [lk_upH, hne, cond_false]; exact e
end Go.Proofs.YtfhiplfagejfoaaDoor
