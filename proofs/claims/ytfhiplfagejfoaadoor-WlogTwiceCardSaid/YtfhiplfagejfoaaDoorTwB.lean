/- Own text: the log of writes, part TwB: contracts of the functions that the laws of the log call. -/
import Derived.Test.YtfhiplfagejfoaaDoorTwA
set_option linter.unusedSimpArgs false
set_option linter.unusedVariables false
namespace Go.Proofs.YtfhiplfagejfoaaDoor
open Go.Proofs.YtfhiplfagejfoaaDoor.K Go.ChangeShapes Go.WideShapes Go.ChangeAt Go.RowKit 
set_option maxRecDepth 100000
set_option linter.unusedSimpArgs false
set_option linter.unusedVariables false
/-- whitewash/wlog.most -/
def Lwlogmost : FnL := ⟨(.seq (.ops [⟨(some 1), .box (.tmp 0), none⟩, ⟨(some 2), .mv (.const (.int .i64 0)), none⟩])
 (.seq (.ops [⟨(some 3), .load true 3 (.tmp 1), none⟩, ⟨(some 4), .call (.func 30) [(.tmp 3)], none⟩, ⟨(some 5), .bin .sub (.tmp 4) (.const (.int .i64 1)), none⟩, ⟨(some 6), .bin .quo (.tmp 5) (.const (.int .i64 2)), none⟩, ⟨(some 2), .mv (.tmp 6), none⟩])
 .ret)),
 7, [.tmp 2]⟩
theorem lowwlogmost : lowerFn Tryd.prog Tryd.f47 = some Lwlogmost := by kernel_rfl
noncomputable def Gwlogmost (B : OH) : Nat → Cs
  | 30 => V11 B
  | _ => fun _ _ _ => none
theorem Gwlogmost_11 {B : OH} : Gwlogmost B 30 = V11 B := rfl
theorem sGwlogmost {w0 : World} {B : OH} : SoundG Tryd.prog w0 B { f := Gwlogmost B } := .of fun k => by
  unfold Gwlogmost
  split
  · exact .inr ⟨en11, sV11⟩
  · exact .inl fun _ _ _ => rfl
theorem enwlogmost : Enter Tryd.prog 47 := .of Tryd.func47 (by kernel_rfl) (by kernel_rfl)
noncomputable def Twlogmost (B : OH) : Cs := callF B { f := Gwlogmost B } 80 Lwlogmost
theorem sTwlogmost {w0 : World} {B : OH} : SoundC Tryd.prog w0 B 47 (Twlogmost B) := callF_sound mixedOrders sGwlogmost 80 Tryd.func47 lowwlogmost
noncomputable def Fwlogmost (B : OH) : List Value → Option Value := kval B (Twlogmost B)
noncomputable def Vwlogmost (B : OH) : Cs := fun a H N => pvE (Fwlogmost B a) H N
theorem Vwlogmost_eq {B : OH} {a : List Value} {H : HL} {N : St} : Vwlogmost B a H N = pvE (Fwlogmost B a) H N := rfl
theorem sVwlogmost {w0 : World} {B : OH} : SoundC Tryd.prog w0 B 47 (Vwlogmost B) := sTwlogmost.ofVal
theorem fmost {B : OH} (hG : ∃ H N, good B H N) (hT : Tab B) {kk p cc h : Nat} (C : Cf kk p cc h) : Fwlogmost B [.agg #[.int .i64 (kk : Int), .int .i64 (p : Int), .int .i64 (cc : Int)]] = some (.int .i64 ((h + 2 * p : Nat) : Int)) := by
  refine kval_eq hG fun H N hN => ?_
  have hB := good_B hN
  have hR := good_rdB hN
  have hI := beqN hN.1.1
  have e := f11c hG hT C
  have hb := LG_b C
  have a1 : (LG p h : Int) - 1 = ((h + 2 * p : Nat) : Int) * 2 := by unfold LG; omega
  have a2 : IntKind.i64.wrap ((LG p h : Int) - 1) = ((h + 2 * p : Nat) : Int) * 2 := by rw [IntWalk.i64_in _ (by omega), a1]
  have a3 : (((h + 2 * p : Nat) : Int) * 2).tdiv 2 = ((h + 2 * p : Nat) : Int) := Int.mul_tdiv_cancel _ (by omega)
  have a4 : IntKind.i64.wrap ((h + 2 * p : Nat) : Int) = ((h + 2 * p : Nat) : Int) := IntWalk.i64_in _ (by unfold LG at hb; omega)
  simp -implicitDefEqProofs (maxSteps := 10000000) (disch := omega) only [Twlogmost, Lwlogmost, Gwlogmost_11, V11_eq, hB, hR, hI, e, a2, a3, a4, pad, lightV, bt, bf, evs, gt, st, binV, arith, isSh, storeV, all1, idxAV, fieldV, faddrV, iaddrSV, iaddrAV, pickV, convV, unV, eqbV, eqpV, extV, mm2, mmV, nilckV, ress, res1, retV, Value.cells, reduceIte, reduceCtorEq, Int.reduceLT, Int.reduceLE, Int.reduceToNat, Int.reduceAdd, Int.reduceSub, Int.reduceMul, Int.reduceNeg, Nat.reduceMul, Nat.reduceAdd, Nat.reduceSub, Nat.reduceBEq, Nat.reduceEqDiff, Nat.reduceLT, Nat.reduceLeDiff, Int.reduceBEq, Int.reduceEq, Nat.reducePow, Int.reducePow, IntWalk.i64_in, IntKind.bits, eqAV, eqL, leafEq, andO, fillV, buildSV, Int.reduceGT, Int.reduceGE, Int.reduceBNe, IntWalk.u64_in, newsV_s, tassV, isnV, slcV, slcAV, slcTV, slcB, appNew, Option.bind_some, Option.bind_none, eqsV, lookV, mupdV, mdelV, mkM, ev1, ev2]
  with_reducible refine done2 ?_
  repeat (first | refine ext_new hN ?_ | exact fun _ _ h => h)
/-- whitewash/whitewashref16.Most -/
def Lref16Most : FnL := ⟨(.seq (.ops [⟨(some 1), .box (.tmp 0), none⟩, ⟨(some 2), .mv (.const (.int .i64 0)), none⟩])
 (.seq (.draw [⟨⟨(some 3), .load true 3 (.tmp 1), none⟩, []⟩, ⟨⟨(some 5), .faddr 1 (.tmp 1), none⟩, []⟩, ⟨⟨(some 6), .load false 1 (.tmp 5), none⟩, []⟩, ⟨⟨(some 7), .bin .mul (.const (.int .i64 2)) (.tmp 6), none⟩, []⟩, ⟨⟨(some 4), .call (.func 38) [(.tmp 3)], none⟩, [⟨(some 6), .load false 1 (.tmp 5), none⟩]⟩, ⟨⟨(some 8), .bin .add (.tmp 4) (.tmp 7), none⟩, []⟩, ⟨⟨(some 2), .mv (.tmp 8), none⟩, []⟩])
 .ret)),
 9, [.tmp 2]⟩
theorem lowref16Most : lowerFn Tryd.prog Tryd.f29 = some Lref16Most := by kernel_rfl
noncomputable def Gref16Most (B : OH) : Nat → Cs
  | 38 => Vref04Home B
  | _ => fun _ _ _ => none
theorem Gref16Most_ref04Home {B : OH} : Gref16Most B 38 = Vref04Home B := rfl
theorem sGref16Most {w0 : World} {B : OH} : SoundG Tryd.prog w0 B { f := Gref16Most B } := .of fun k => by
  unfold Gref16Most
  split
  · exact .inr ⟨enref04Home, sVref04Home⟩
  · exact .inl fun _ _ _ => rfl
theorem enref16Most : Enter Tryd.prog 29 := .of Tryd.func29 (by kernel_rfl) (by kernel_rfl)
noncomputable def Tref16Most (B : OH) : Cs := callF B { f := Gref16Most B } 80 Lref16Most
theorem sTref16Most {w0 : World} {B : OH} : SoundC Tryd.prog w0 B 29 (Tref16Most B) := callF_sound mixedOrders sGref16Most 80 Tryd.func29 lowref16Most
noncomputable def Fref16Most (B : OH) : List Value → Option Value := kval B (Tref16Most B)
noncomputable def Vref16Most (B : OH) : Cs := fun a H N => pvE (Fref16Most B a) H N
theorem Vref16Most_eq {B : OH} {a : List Value} {H : HL} {N : St} : Vref16Most B a H N = pvE (Fref16Most B a) H N := rfl
theorem sVref16Most {w0 : World} {B : OH} : SoundC Tryd.prog w0 B 29 (Vref16Most B) := sTref16Most.ofVal
theorem rmost {B : OH} (hG : ∃ H N, good B H N) {kk p cc h : Nat} (C : Cf kk p cc h) : Fref16Most B [.agg #[.int .i64 (kk : Int), .int .i64 (p : Int), .int .i64 (cc : Int)]] = some (.int .i64 ((h + 2 * p : Nat) : Int)) := by
  refine kval_eq hG fun H N hN => ?_
  have hB := good_B hN
  have hR := good_rdB hN
  have hI := beqN hN.1.1
  have e := rHome hG C
  have hb := C.h
  have hp := C.p
  have a1 : ((h + 2 * p : Nat) : Int) = (h : Int) + 2 * (p : Int) := by omega
  simp -implicitDefEqProofs (maxSteps := 10000000) (disch := omega) only [Tref16Most, Lref16Most, Gref16Most_ref04Home, Vref04Home_eq, hB, hR, hI, e, a1, pad, lightV, bt, bf, evs, gt, st, binV, arith, isSh, storeV, all1, idxAV, fieldV, faddrV, iaddrSV, iaddrAV, pickV, convV, unV, eqbV, eqpV, extV, mm2, mmV, nilckV, ress, res1, retV, Value.cells, reduceIte, reduceCtorEq, Int.reduceLT, Int.reduceLE, Int.reduceToNat, Int.reduceAdd, Int.reduceSub, Int.reduceMul, Int.reduceNeg, Nat.reduceMul, Nat.reduceAdd, Nat.reduceSub, Nat.reduceBEq, Nat.reduceEqDiff, Nat.reduceLT, Nat.reduceLeDiff, Int.reduceBEq, Int.reduceEq, Nat.reducePow, Int.reducePow, IntWalk.i64_in, IntKind.bits, eqAV, eqL, leafEq, andO, fillV, buildSV, Int.reduceGT, Int.reduceGE, Int.reduceBNe, IntWalk.u64_in, newsV_s, tassV, isnV, slcV, slcAV, slcTV, slcB, appNew, Option.bind_some, Option.bind_none, eqsV, lookV, mupdV, mdelV, mkM, ev1, ev2]
  with_reducible refine done2 ?_
  repeat (first | refine ext_new hN ?_ | exact fun _ _ h => h)
/-- What Place tells. -/
def plV (p h : Nat) (w : Int) : Value := if okP p h w then .tuple #[.int .i64 w, .bool true] else .tuple #[.int .i64 0, .bool false]
theorem plV_y {p h : Nat} {w : Int} (H : okP p h w) : plV p h w = .tuple #[.int .i64 w, .bool true] := if_pos H
theorem plV_n {p h : Nat} {w : Int} (H : ¬ okP p h w) : plV p h w = .tuple #[.int .i64 0, .bool false] := if_neg H
theorem okP_part {kk p cc h : Nat} (C : Cf kk p cc h) {k w : Nat} (hk : k < 5) (h1 : bs p h k ≤ w) (h2 : w < bs p h (k + 1)) : okP p h w ↔ (k = 2 ∨ k = 4) := by
  have b0 : bs p h 0 = 0 := rfl
  have b1 := bs_1 (p := p) (h := h)
  have b2 := bs_2 (p := p) (h := h)
  have b3 := bs_3 (p := p) (h := h)
  have b4 := bs_4 (p := p) (h := h)
  have b5 := bs_5 (p := p) (h := h)
  have hh := C.h
  have hp := C.p
  unfold okP
  obtain rfl | rfl | rfl | rfl | rfl : k = 0 ∨ k = 1 ∨ k = 2 ∨ k = 3 ∨ k = 4 := by omega
  all_goals (simp only [Nat.zero_add, Nat.reduceAdd] at h1 h2; omega)
/-- whitewash/wlog.Place -/
def LwlogPlace : FnL := ⟨(.seq (.ops [⟨(some 2), .box (.tmp 0), none⟩, ⟨(some 4), .mv (.const (.int .i64 0)), none⟩, ⟨(some 5), .mv (.const (.bool false)), none⟩])
 (.seq (.seq (.ops [⟨(some 9), .mv (.tmp 1), none⟩, ⟨(some 10), .load true 3 (.tmp 2), none⟩, ⟨(some 11), .call (.func 41) [(.tmp 10)], none⟩, ⟨(some 12), .conv .u64 (.tmp 11), none⟩, ⟨(some 13), .bin .geq (.tmp 9) (.tmp 12), none⟩])
 (.cond (.tmp 13) (.seq (.ops [⟨(some 4), .mv (.const (.int .i64 0)), none⟩, ⟨(some 5), .mv (.const (.bool false)), none⟩])
 .ret)
 .skip))
 (.seq (.seq (.ops [⟨(some 15), .load true 3 (.tmp 2), none⟩, ⟨(some 16), .mv (.tmp 1), none⟩, ⟨(some 17), .conv .i64 (.tmp 16), none⟩, ⟨(some 18), .call (.func 32) [(.tmp 15), (.tmp 17)], none⟩, ⟨(some 14), .mv (.tmp 18), none⟩, ⟨(some 19), .ext (.tmp 14) 0, none⟩, ⟨(some 20), .ext (.tmp 14) 1, none⟩, ⟨(some 21), .ext (.tmp 14) 2, none⟩, ⟨(some 6), .mv (.tmp 19), none⟩, ⟨(some 7), .mv (.tmp 20), none⟩, ⟨(some 8), .mv (.tmp 21), none⟩])
 (.seq (.ops [⟨(some 22), .mv (.tmp 6), none⟩])
 (.block 0 (.seq (.seq (.ops [⟨(some 24), .bin .eql (.tmp 22) (.const (.int .i64 2)), none⟩, ⟨(some 23), .mv (.tmp 24), none⟩])
 (.cond (.tmp 23) .skip
 (.ops [⟨(some 25), .bin .eql (.tmp 22) (.const (.int .i64 4)), none⟩, ⟨(some 23), .mv (.tmp 25), none⟩])))
 (.cond (.tmp 23) (.seq (.ops [⟨(some 26), .mv (.tmp 1), none⟩, ⟨(some 27), .conv .i64 (.tmp 26), none⟩, ⟨(some 4), .mv (.tmp 27), none⟩, ⟨(some 5), .mv (.const (.bool true)), none⟩])
 .ret)
 .skip)))))
 (.seq (.ops [⟨(some 4), .mv (.const (.int .i64 0)), none⟩, ⟨(some 5), .mv (.const (.bool false)), none⟩])
 .ret)))),
 28, [.tmp 4, .tmp 5]⟩
theorem lowwlogPlace : lowerFn Tryd.prog Tryd.f14 = some LwlogPlace := by kernel_rfl
noncomputable def GwlogPlace (B : OH) : Nat → Cs
  | 41 => V7 B
  | 32 => V9 B
  | _ => fun _ _ _ => none
theorem GwlogPlace_7 {B : OH} : GwlogPlace B 41 = V7 B := rfl
theorem GwlogPlace_9 {B : OH} : GwlogPlace B 32 = V9 B := rfl
theorem sGwlogPlace {w0 : World} {B : OH} : SoundG Tryd.prog w0 B { f := GwlogPlace B } := .of fun k => by
  unfold GwlogPlace
  split
  · exact .inr ⟨en7, sV7⟩
  · exact .inr ⟨en9, sV9⟩
  · exact .inl fun _ _ _ => rfl
theorem enwlogPlace : Enter Tryd.prog 14 := .of Tryd.func14 (by kernel_rfl) (by kernel_rfl)
noncomputable def TwlogPlace (B : OH) : Cs := callF B { f := GwlogPlace B } 80 LwlogPlace
theorem sTwlogPlace {w0 : World} {B : OH} : SoundC Tryd.prog w0 B 14 (TwlogPlace B) := callF_sound mixedOrders sGwlogPlace 80 Tryd.func14 lowwlogPlace
noncomputable def FwlogPlace (B : OH) : List Value → Option Value := kval B (TwlogPlace B)
noncomputable def VwlogPlace (B : OH) : Cs := fun a H N => pvE (FwlogPlace B a) H N
theorem VwlogPlace_eq {B : OH} {a : List Value} {H : HL} {N : St} : VwlogPlace B a H N = pvE (FwlogPlace B a) H N := rfl
theorem sVwlogPlace {w0 : World} {B : OH} : SoundC Tryd.prog w0 B 14 (VwlogPlace B) := sTwlogPlace.ofVal
set_option maxHeartbeats 1000000 in
theorem fPlace {B : OH} (hG : ∃ H N, good B H N) (hT : Tab B) {kk p cc h : Nat} (C : Cf kk p cc h) {w : Int} (hu : u64R w) : FwlogPlace B [.agg #[.int .i64 (kk : Int), .int .i64 (p : Int), .int .i64 (cc : Int)], .int .u64 w] = some (plV p h w) := by
  refine kval_eq hG fun H N hN => ?_
  have hB := good_B hN
  have hR := good_rdB hN
  have hI := beqN hN.1.1
  have e := f7c hG hT C
  have hb5 := bs5_b C
  unfold u64R at hu
  have wz : IntKind.u64.wrap ((bs p h 5 : Nat) : Int) = ((bs p h 5 : Nat) : Int) := IntWalk.u64_in _ (by omega)
  by_cases hw : w ≥ ((bs p h 5 : Nat) : Int)
  · rw [plV_n (fun h => by have := okP_b C h; omega)]
    simp -implicitDefEqProofs (maxSteps := 10000000) (disch := omega) only [TwlogPlace, LwlogPlace, GwlogPlace_7, V7_eq, GwlogPlace_9, V9_eq, hB, hR, hI, e, wz, hw, pad, lightV, bt, bf, evs, gt, st, binV, arith, isSh, storeV, all1, idxAV, fieldV, faddrV, iaddrSV, iaddrAV, pickV, convV, unV, eqbV, eqpV, extV, mm2, mmV, nilckV, ress, res1, retV, Value.cells, reduceIte, reduceCtorEq, Int.reduceLT, Int.reduceLE, Int.reduceToNat, Int.reduceAdd, Int.reduceSub, Int.reduceMul, Int.reduceNeg, Nat.reduceMul, Nat.reduceAdd, Nat.reduceSub, Nat.reduceBEq, Nat.reduceEqDiff, Nat.reduceLT, Nat.reduceLeDiff, Int.reduceBEq, Int.reduceEq, Nat.reducePow, Int.reducePow, IntWalk.i64_in, IntKind.bits, eqAV, eqL, leafEq, andO, fillV, buildSV, Int.reduceGT, Int.reduceGE, Int.reduceBNe, IntWalk.u64_in, newsV_s, tassV, isnV, slcV, slcAV, slcTV, slcB, appNew, Option.bind_some, Option.bind_none, eqsV, lookV, mupdV, mdelV, mkM, ev1, ev2]
    with_reducible refine done2 ?_
    repeat (first | refine ext_new hN ?_ | exact fun _ _ h => h)
  obtain ⟨n, rfl⟩ : ∃ n : Nat, w = (n : Int) := ⟨w.toNat, by omega⟩
  have hn : n < bs p h 5 := by omega
  have wn : IntKind.i64.wrap (n : Int) = (n : Int) := IntWalk.i64_in _ (by omega)
  obtain ⟨k, o, hk, ho, h1, h2⟩ := has_part (p := p) C.h.1 5 hn
  have e9 := f9 hG hT C.k C.p C.c C.m hk ho h1 h2
  have hle : bs p h k ≤ n := by unfold fr at h1; omega
  have hlt : n < bs p h (k + 1) := by
    have := fr_lt (p := p) (h := h) ho (show Lt k o (k + 1) 0 from .inl (by omega))
    rw [fr_zero] at this; omega
  have hp := okP_part C hk hle hlt
  by_cases h24 : k = 2 ∨ k = 4
  · rw [plV_y (hp.2 h24)]
    rcases h24 with rfl | rfl
    · have c1 : (((2 : Nat) : Int) == 2) = true := rfl
      simp -implicitDefEqProofs (maxSteps := 10000000) (disch := omega) only [TwlogPlace, LwlogPlace, GwlogPlace_7, V7_eq, GwlogPlace_9, V9_eq, hB, hR, hI, e, e9, wz, hw, wn, c1, pad, lightV, bt, bf, evs, gt, st, binV, arith, isSh, storeV, all1, idxAV, fieldV, faddrV, iaddrSV, iaddrAV, pickV, convV, unV, eqbV, eqpV, extV, mm2, mmV, nilckV, ress, res1, retV, Value.cells, reduceIte, reduceCtorEq, Int.reduceLT, Int.reduceLE, Int.reduceToNat, Int.reduceAdd, Int.reduceSub, Int.reduceMul, Int.reduceNeg, Nat.reduceMul, Nat.reduceAdd, Nat.reduceSub, Nat.reduceBEq, Nat.reduceEqDiff, Nat.reduceLT, Nat.reduceLeDiff, Int.reduceBEq, Int.reduceEq, Nat.reducePow, Int.reducePow, IntWalk.i64_in, IntKind.bits, eqAV, eqL, leafEq, andO, fillV, buildSV, Int.reduceGT, Int.reduceGE, Int.reduceBNe, IntWalk.u64_in, newsV_s, tassV, isnV, slcV, slcAV, slcTV, slcB, appNew, Option.bind_some, Option.bind_none, eqsV, lookV, mupdV, mdelV, mkM, ev1, ev2]
      with_reducible refine done2 ?_
      repeat (first | refine ext_new hN ?_ | exact fun _ _ h => h)
    · have c1 : (((4 : Nat) : Int) == 2) = false := rfl
      have c2 : (((4 : Nat) : Int) == 4) = true := rfl
      simp -implicitDefEqProofs (maxSteps := 10000000) (disch := omega) only [TwlogPlace, LwlogPlace, GwlogPlace_7, V7_eq, GwlogPlace_9, V9_eq, hB, hR, hI, e, e9, wz, hw, wn, c1, c2, pad, lightV, bt, bf, evs, gt, st, binV, arith, isSh, storeV, all1, idxAV, fieldV, faddrV, iaddrSV, iaddrAV, pickV, convV, unV, eqbV, eqpV, extV, mm2, mmV, nilckV, ress, res1, retV, Value.cells, reduceIte, reduceCtorEq, Int.reduceLT, Int.reduceLE, Int.reduceToNat, Int.reduceAdd, Int.reduceSub, Int.reduceMul, Int.reduceNeg, Nat.reduceMul, Nat.reduceAdd, Nat.reduceSub, Nat.reduceBEq, Nat.reduceEqDiff, Nat.reduceLT, Nat.reduceLeDiff, Int.reduceBEq, Int.reduceEq, Nat.reducePow, Int.reducePow, IntWalk.i64_in, IntKind.bits, eqAV, eqL, leafEq, andO, fillV, buildSV, Int.reduceGT, Int.reduceGE, Int.reduceBNe, IntWalk.u64_in, newsV_s, tassV, isnV, slcV, slcAV, slcTV, slcB, appNew, Option.bind_some, Option.bind_none, eqsV, lookV, mupdV, mdelV, mkM, ev1, ev2]
      with_reducible refine done2 ?_
      repeat (first | refine ext_new hN ?_ | exact fun _ _ h => h)
  · rw [plV_n (fun h => h24 (hp.1 h))]
    have c1 : ((k : Int) == 2) = false := beqI (by omega)
    have c2 : ((k : Int) == 4) = false := beqI (by omega)
    simp -implicitDefEqProofs (maxSteps := 10000000) (disch := omega) only [TwlogPlace, LwlogPlace, GwlogPlace_7, V7_eq, GwlogPlace_9, V9_eq, hB, hR, hI, e, e9, wz, hw, wn, c1, c2, pad, lightV, bt, bf, evs, gt, st, binV, arith, isSh, storeV, all1, idxAV, fieldV, faddrV, iaddrSV, iaddrAV, pickV, convV, unV, eqbV, eqpV, extV, mm2, mmV, nilckV, ress, res1, retV, Value.cells, reduceIte, reduceCtorEq, Int.reduceLT, Int.reduceLE, Int.reduceToNat, Int.reduceAdd, Int.reduceSub, Int.reduceMul, Int.reduceNeg, Nat.reduceMul, Nat.reduceAdd, Nat.reduceSub, Nat.reduceBEq, Nat.reduceEqDiff, Nat.reduceLT, Nat.reduceLeDiff, Int.reduceBEq, Int.reduceEq, Nat.reducePow, Int.reducePow, IntWalk.i64_in, IntKind.bits, eqAV, eqL, leafEq, andO, fillV, buildSV, Int.reduceGT, Int.reduceGE, Int.reduceBNe, IntWalk.u64_in, newsV_s, tassV, isnV, slcV, slcAV, slcTV, slcB, appNew, Option.bind_some, Option.bind_none, eqsV, lookV, mupdV, mdelV, mkM, ev1, ev2]
    with_reducible refine done2 ?_
    repeat (first | refine ext_new hN ?_ | exact fun _ _ h => h)
theorem fPlacen {B : OH} (hG : ∃ H N, good B H N) (k p c : Int) (h : ¬ fitI k p c) {w : Int} (hu : u64R w) : FwlogPlace B [.agg #[.int .i64 k, .int .i64 p, .int .i64 c], .int .u64 w] = some (.tuple #[.int .i64 0, .bool false]) := by
  refine kval_eq hG fun H N hN => ?_
  have hB := good_B hN
  have hR := good_rdB hN
  have hI := beqN hN.1.1
  have e := f7n hG k p c h
  unfold u64R at hu
  have hw : w ≥ 0 := hu.1
  simp -implicitDefEqProofs (maxSteps := 10000000) (disch := omega) only [TwlogPlace, LwlogPlace, GwlogPlace_7, V7_eq, GwlogPlace_9, V9_eq, hB, hR, hI, e, hw, pad, lightV, bt, bf, evs, gt, st, binV, arith, isSh, storeV, all1, idxAV, fieldV, faddrV, iaddrSV, iaddrAV, pickV, convV, unV, eqbV, eqpV, extV, mm2, mmV, nilckV, ress, res1, retV, Value.cells, reduceIte, reduceCtorEq, Int.reduceLT, Int.reduceLE, Int.reduceToNat, Int.reduceAdd, Int.reduceSub, Int.reduceMul, Int.reduceNeg, Nat.reduceMul, Nat.reduceAdd, Nat.reduceSub, Nat.reduceBEq, Nat.reduceEqDiff, Nat.reduceLT, Nat.reduceLeDiff, Int.reduceBEq, Int.reduceEq, Nat.reducePow, Int.reducePow, IntWalk.i64_in, IntKind.bits, eqAV, eqL, leafEq, andO, fillV, buildSV, Int.reduceGT, Int.reduceGE, Int.reduceBNe, IntWalk.u64_in, newsV_s, tassV, isnV, slcV, slcAV, slcTV, slcB, appNew, Option.bind_some, Option.bind_none, eqsV, lookV, mupdV, mdelV, mkM, ev1, ev2]
  with_reducible refine done2 ?_
  repeat (first | refine ext_new hN ?_ | exact fun _ _ h => h)
/-- whitewash/wlog.caught -/
def Lwlogcaught : FnC := ⟨(some 5), (.block 0 (.seq (.ops [⟨(some 7), .isn false (.tmp 5), none⟩])
 (.cond (.tmp 7) (.ops [⟨(some 2), .mv (.tmp 5), none⟩])
 (.seq (.ops [⟨(some 8), .tass 105 (.agg #[(.int .i64 0)]) (.tmp 5), none⟩, ⟨(some 9), .ext (.tmp 8) 1, none⟩, ⟨(some 10), .ext (.tmp 8) 0, none⟩])
 (.cond (.tmp 9) (.seq (.ops [⟨(some 3), .alloc [(.int .i64 0)], none⟩, ⟨none, .store 1 (.tmp 3) (.tmp 10), none⟩])
 (.ops [⟨(some 11), .mv (.tmp 0), none⟩, ⟨(some 12), .faddr 0 (.tmp 3), none⟩, ⟨(some 13), .load false 1 (.tmp 12), none⟩, ⟨(some 14), .nilck (.tmp 11), none⟩, ⟨none, .store 1 (.tmp 14) (.tmp 13), none⟩]))
 (.seq (.ops [⟨(some 4), .mv (.tmp 5), none⟩])
 (.ops [⟨(some 6), .mv (.tmp 4), none⟩, ⟨none, .pan (.tmp 6), none⟩]))))))),
 15, []⟩
theorem lowwlogcaught : lowerCaught Tryd.prog Tryd.f43 = some Lwlogcaught := by kernel_rfl
noncomputable def Gwlogcaught (B : OH) : Nat → Cs
  | _ => fun _ _ _ => none
theorem sGwlogcaught {w0 : World} {B : OH} : SoundG Tryd.prog w0 B { f := Gwlogcaught B } := .of fun k => by
  unfold Gwlogcaught
  split
  · exact .inl fun _ _ _ => rfl
noncomputable def Uwlogcaught (B : OH) : Ds := callC B { f := Gwlogcaught B } 80 Lwlogcaught
theorem enwlogcaught : Enter Tryd.prog 43 := .of Tryd.func43 (by kernel_rfl) (by kernel_rfl)
theorem sUwlogcaught {w0 : World} {B : OH} : SoundD Tryd.prog w0 B 43 (Uwlogcaught B) := callC_sound mixedOrders sGwlogcaught 80 Tryd.func43 lowwlogcaught
/-- whitewash/wlog.want -/
def Lwlogwant : FnL := ⟨(.seq (.ops [⟨(some 4), .mv (.tmp 0), none⟩, ⟨(some 5), .un .not (.tmp 4), none⟩])
 (.cond (.tmp 5) (.ops [⟨(some 6), .mv (.tmp 1), none⟩, ⟨(some 7), .build [(.int .i64 0)] [(0, 1, (.tmp 6))], none⟩, ⟨(some 8), .ifc 105 (.tmp 7), none⟩, ⟨none, .pan (.tmp 8), none⟩])
 .skip)),
 9, []⟩
theorem lowwlogwant : lowerFn Tryd.prog Tryd.f44 = some Lwlogwant := by kernel_rfl
noncomputable def Gwlogwant (B : OH) : Nat → Cs
  | _ => fun _ _ _ => none
theorem sGwlogwant {w0 : World} {B : OH} : SoundG Tryd.prog w0 B { f := Gwlogwant B } := .of fun k => by
  unfold Gwlogwant
  split
  · exact .inl fun _ _ _ => rfl
theorem enwlogwant : Enter Tryd.prog 44 := .of Tryd.func44 (by kernel_rfl) (by kernel_rfl)
noncomputable def Twlogwant (B : OH) : Cs := callF B { f := Gwlogwant B } 80 Lwlogwant
theorem sTwlogwant {w0 : World} {B : OH} : SoundC Tryd.prog w0 B 44 (Twlogwant B) := callF_sound mixedOrders sGwlogwant 80 Tryd.func44 lowwlogwant
noncomputable def Vwlogwant (B : OH) : Cs := Twlogwant B
theorem sVwlogwant {w0 : World} {B : OH} : SoundC Tryd.prog w0 B 44 (Vwlogwant B) := sTwlogwant
/-- What Spot tells. -/
def spV (p h : Nat) (q i : Int) : Value :=
  if (0 ≤ q ∧ q < (p : Int)) ∧ (0 ≤ i ∧ i < ((h + 2 * p : Nat) : Int)) then .tuple #[.int .i64 (((bs p h 3 + LG p h * q.toNat : Nat) : Int) + 1 + 2 * i), .int .i64 (((bs p h 3 + LG p h * q.toNat : Nat) : Int) + 2 + 2 * i), .int .i64 0]
  else .tuple #[.int .i64 0, .int .i64 0, .int .i64 1]
theorem lgq_b {kk p cc h q : Nat} (C : Cf kk p cc h) (hq : q < p) : bs p h 3 + LG p h * q + LG p h ≤ bs p h 4 := by
  have h2 : LG p h * (q + 1) ≤ LG p h * p := Nat.mul_le_mul_left _ (by omega)
  rw [Nat.mul_succ] at h2
  rw [bs_3, bs_4]; omega
theorem bs4_5 {p h : Nat} : bs p h 4 + h = bs p h 5 := by rw [bs_4, bs_5]
/-- whitewash/wlog.Spot -/
def LwlogSpot : FnD := ⟨(.ops [⟨(some 3), .box (.tmp 0), none⟩, ⟨(some 6), .mv (.const (.int .i64 0)), none⟩, ⟨(some 7), .mv (.const (.int .i64 0)), none⟩, ⟨(some 8), .alloc [(.int .i64 0)], none⟩]), 43, [(.tmp 8)], (.seq (.ops [⟨(some 10), .load true 3 (.tmp 3), none⟩, ⟨(some 11), .call (.func 45) [(.tmp 10)], none⟩, ⟨(some 12), .call (.func 44) [(.tmp 11), (.const (.int .i64 5))], none⟩])
 (.seq (.ops [⟨(some 14), .load true 3 (.tmp 3), none⟩, ⟨(some 15), .mv (.tmp 1), none⟩, ⟨(some 16), .call (.func 31) [(.tmp 14), (.const (.int .i64 3)), (.tmp 15)], none⟩, ⟨(some 13), .mv (.tmp 16), none⟩, ⟨(some 17), .ext (.tmp 13) 0, none⟩, ⟨(some 18), .ext (.tmp 13) 1, none⟩, ⟨(some 9), .mv (.tmp 17), none⟩, ⟨none, .store 1 (.tmp 8) (.tmp 18), none⟩])
 (.seq (.ops [⟨(some 19), .load false 1 (.tmp 8), none⟩, ⟨(some 20), .bin .eql (.tmp 19) (.const (.int .i64 0)), none⟩, ⟨(some 21), .mv (.tmp 20), none⟩, ⟨(some 22), .mv (.tmp 2), (some (21, true))⟩, ⟨(some 23), .bin .geq (.tmp 22) (.const (.int .i64 0)), (some (21, true))⟩, ⟨(some 24), .pick (.tmp 21) (.tmp 23) (.const (.bool false)), none⟩, ⟨(some 25), .mv (.tmp 24), none⟩, ⟨(some 26), .mv (.tmp 2), (some (25, true))⟩, ⟨(some 27), .load true 3 (.tmp 3), (some (25, true))⟩, ⟨(some 28), .call (.func 47) [(.tmp 27)], (some (25, true))⟩, ⟨(some 29), .bin .lss (.tmp 26) (.tmp 28), (some (25, true))⟩, ⟨(some 30), .pick (.tmp 25) (.tmp 29) (.const (.bool false)), none⟩, ⟨(some 31), .call (.func 44) [(.tmp 30), (.const (.int .i64 1))], none⟩])
 (.seq (.ops [⟨(some 32), .mv (.tmp 9), none⟩, ⟨(some 33), .bin .add (.tmp 32) (.const (.int .i64 1)), none⟩, ⟨(some 34), .mv (.tmp 2), none⟩, ⟨(some 35), .bin .mul (.const (.int .i64 2)) (.tmp 34), none⟩, ⟨(some 36), .bin .add (.tmp 33) (.tmp 35), none⟩, ⟨(some 37), .mv (.tmp 9), none⟩, ⟨(some 38), .bin .add (.tmp 37) (.const (.int .i64 2)), none⟩, ⟨(some 39), .mv (.tmp 2), none⟩, ⟨(some 40), .bin .mul (.const (.int .i64 2)) (.tmp 39), none⟩, ⟨(some 41), .bin .add (.tmp 38) (.tmp 40), none⟩, ⟨(some 6), .mv (.tmp 36), none⟩, ⟨(some 7), .mv (.tmp 41), none⟩, ⟨none, .store 1 (.tmp 8) (.const (.int .i64 0)), none⟩])
 .ret)))),
 42, [.tmp 6, .tmp 7, .cell 8 false 1]⟩
theorem lowwlogSpot : lowerDfr Tryd.prog Tryd.f21 = some LwlogSpot := by kernel_rfl
noncomputable def GwlogSpot (B : OH) : Nat → Cs
  | 31 => V10 B
  | 45 => V13 B
  | 47 => Vwlogmost B
  | 44 => Vwlogwant B
  | _ => fun _ _ _ => none
theorem GwlogSpot_10 {B : OH} : GwlogSpot B 31 = V10 B := rfl
theorem GwlogSpot_13 {B : OH} : GwlogSpot B 45 = V13 B := rfl
theorem GwlogSpot_wlogmost {B : OH} : GwlogSpot B 47 = Vwlogmost B := rfl
theorem GwlogSpot_wlogwant {B : OH} : GwlogSpot B 44 = Vwlogwant B := rfl
theorem sGwlogSpot {w0 : World} {B : OH} : SoundG Tryd.prog w0 B { f := GwlogSpot B } := .of fun k => by
  unfold GwlogSpot
  split
  · exact .inr ⟨en10, sV10⟩
  · exact .inr ⟨en13, sV13⟩
  · exact .inr ⟨enwlogmost, sVwlogmost⟩
  · exact .inr ⟨enwlogwant, sVwlogwant⟩
  · exact .inl fun _ _ _ => rfl
theorem enwlogSpot : Enter Tryd.prog 21 := .of Tryd.func21 (by kernel_rfl) (by kernel_rfl)
noncomputable def DwlogSpot (B : OH) : Nat → Ds
  | 43 => Uwlogcaught B
  | _ => fun _ _ _ _ => none
theorem DwlogSpot_wlogcaught {B : OH} : DwlogSpot B 43 = Uwlogcaught B := rfl
noncomputable def TwlogSpot (B : OH) : Cs := callD B { f := GwlogSpot B } (DwlogSpot B) 80 LwlogSpot
theorem sTwlogSpot {w0 : World} {B : OH} : SoundC Tryd.prog w0 B 21 (TwlogSpot B) := callD_sound mixedOrders sGwlogSpot 80 Tryd.func21 lowwlogSpot enwlogcaught sUwlogcaught
noncomputable def FwlogSpot (B : OH) : List Value → Option Value := kval B (TwlogSpot B)
noncomputable def VwlogSpot (B : OH) : Cs := fun a H N => pvE (FwlogSpot B a) H N
theorem VwlogSpot_eq {B : OH} {a : List Value} {H : HL} {N : St} : VwlogSpot B a H N = pvE (FwlogSpot B a) H N := rfl
theorem sVwlogSpot {w0 : World} {B : OH} : SoundC Tryd.prog w0 B 21 (VwlogSpot B) := sTwlogSpot.ofVal
set_option maxHeartbeats 2000000 in
theorem fSpot {B : OH} (hG : ∃ H N, good B H N) (hT : Tab B) {kk p cc h : Nat} (C : Cf kk p cc h) (q i : Int) : FwlogSpot B [.agg #[.int .i64 (kk : Int), .int .i64 (p : Int), .int .i64 (cc : Int)], .int .i64 q, .int .i64 i] = some (spV p h q i) := by
  refine kval_eq hG fun H N hN => ?_
  have hB := good_B hN
  have hR := good_rdB hN
  have hI := beqN hN.1.1
  have e1 := f13 hG kk p cc (cfit C).1 (cfit C).2.1 (cfit C).2.2
  have e2 := fmost hG hT C
  unfold spV
  by_cases hq : 0 ≤ q ∧ q < (p : Int)
  · obtain ⟨n, rfl⟩ : ∃ n : Nat, q = (n : Int) := ⟨q.toNat, by omega⟩
    have e3 := f10c3 hG hT C (q := n) (by omega)
    have hb := lgq_b C (q := n) (by omega)
    have hb5 := bs5_b C
    have h45 := bs4_5 (p := p) (h := h)
    have hl := LG_b C
    rw [Int.toNat_natCast]
    generalize hX : bs p h 3 + LG p h * n = X at *
    by_cases c1 : i ≥ 0
    · by_cases c2 : i < ((h + 2 * p : Nat) : Int)
      · rw [if_pos ⟨hq, c1, c2⟩]
        have c3 : i ≤ 2117 := by unfold LG at hl; omega
        simp -implicitDefEqProofs (maxSteps := 10000000) (disch := omega) only [TwlogSpot, LwlogSpot, GwlogSpot_10, V10_eq, GwlogSpot_13, V13_eq, GwlogSpot_wlogmost, Vwlogmost_eq, GwlogSpot_wlogwant, Vwlogwant, Twlogwant, Lwlogwant, DwlogSpot_wlogcaught, Uwlogcaught, Lwlogcaught, hB, hR, hI, e1, e2, e3, c1, c2, pad, lightV, bt, bf, evs, gt, st, binV, arith, isSh, storeV, all1, idxAV, fieldV, faddrV, iaddrSV, iaddrAV, pickV, convV, unV, eqbV, eqpV, extV, mm2, mmV, nilckV, ress, res1, retV, Value.cells, reduceIte, reduceCtorEq, Int.reduceLT, Int.reduceLE, Int.reduceToNat, Int.reduceAdd, Int.reduceSub, Int.reduceMul, Int.reduceNeg, Nat.reduceMul, Nat.reduceAdd, Nat.reduceSub, Nat.reduceBEq, Nat.reduceEqDiff, Nat.reduceLT, Nat.reduceLeDiff, Int.reduceBEq, Int.reduceEq, Nat.reducePow, Int.reducePow, IntWalk.i64_in, IntKind.bits, eqAV, eqL, leafEq, andO, fillV, buildSV, Int.reduceGT, Int.reduceGE, Int.reduceBNe, IntWalk.u64_in, newsV_s, tassV, isnV, slcV, slcAV, slcTV, slcB, appNew, Option.bind_some, Option.bind_none, eqsV, lookV, mupdV, mdelV, mkM, ev1, ev2]
        with_reducible refine done2 ?_
        repeat (first | refine ext_new hN ?_ | exact fun _ _ h => h)
      · rw [if_neg (fun h => c2 h.2.2)]
        simp -implicitDefEqProofs (maxSteps := 10000000) (disch := omega) only [TwlogSpot, LwlogSpot, GwlogSpot_10, V10_eq, GwlogSpot_13, V13_eq, GwlogSpot_wlogmost, Vwlogmost_eq, GwlogSpot_wlogwant, Vwlogwant, Twlogwant, Lwlogwant, DwlogSpot_wlogcaught, Uwlogcaught, Lwlogcaught, hB, hR, hI, e1, e2, e3, c1, c2, pad, lightV, bt, bf, evs, gt, st, binV, arith, isSh, storeV, all1, idxAV, fieldV, faddrV, iaddrSV, iaddrAV, pickV, convV, unV, eqbV, eqpV, extV, mm2, mmV, nilckV, ress, res1, retV, Value.cells, reduceIte, reduceCtorEq, Int.reduceLT, Int.reduceLE, Int.reduceToNat, Int.reduceAdd, Int.reduceSub, Int.reduceMul, Int.reduceNeg, Nat.reduceMul, Nat.reduceAdd, Nat.reduceSub, Nat.reduceBEq, Nat.reduceEqDiff, Nat.reduceLT, Nat.reduceLeDiff, Int.reduceBEq, Int.reduceEq, Nat.reducePow, Int.reducePow, IntWalk.i64_in, IntKind.bits, eqAV, eqL, leafEq, andO, fillV, buildSV, Int.reduceGT, Int.reduceGE, Int.reduceBNe, IntWalk.u64_in, newsV_s, tassV, isnV, slcV, slcAV, slcTV, slcB, appNew, Option.bind_some, Option.bind_none, eqsV, lookV, mupdV, mdelV, mkM, ev1, ev2]
        with_reducible refine done2 ?_
        repeat (first | refine ext_new hN ?_ | exact fun _ _ h => h)
    · rw [if_neg (fun h => c1 h.2.1)]
      simp -implicitDefEqProofs (maxSteps := 10000000) (disch := omega) only [TwlogSpot, LwlogSpot, GwlogSpot_10, V10_eq, GwlogSpot_13, V13_eq, GwlogSpot_wlogmost, Vwlogmost_eq, GwlogSpot_wlogwant, Vwlogwant, Twlogwant, Lwlogwant, DwlogSpot_wlogcaught, Uwlogcaught, Lwlogcaught, hB, hR, hI, e1, e2, e3, c1, pad, lightV, bt, bf, evs, gt, st, binV, arith, isSh, storeV, all1, idxAV, fieldV, faddrV, iaddrSV, iaddrAV, pickV, convV, unV, eqbV, eqpV, extV, mm2, mmV, nilckV, ress, res1, retV, Value.cells, reduceIte, reduceCtorEq, Int.reduceLT, Int.reduceLE, Int.reduceToNat, Int.reduceAdd, Int.reduceSub, Int.reduceMul, Int.reduceNeg, Nat.reduceMul, Nat.reduceAdd, Nat.reduceSub, Nat.reduceBEq, Nat.reduceEqDiff, Nat.reduceLT, Nat.reduceLeDiff, Int.reduceBEq, Int.reduceEq, Nat.reducePow, Int.reducePow, IntWalk.i64_in, IntKind.bits, eqAV, eqL, leafEq, andO, fillV, buildSV, Int.reduceGT, Int.reduceGE, Int.reduceBNe, IntWalk.u64_in, newsV_s, tassV, isnV, slcV, slcAV, slcTV, slcB, appNew, Option.bind_some, Option.bind_none, eqsV, lookV, mupdV, mdelV, mkM, ev1, ev2]
      with_reducible refine done2 ?_
      repeat (first | refine ext_new hN ?_ | exact fun _ _ h => h)
  · rw [if_neg (fun h => hq h.1)]
    have e3 := f10o hG C q (by omega)
    have c1 : ((1 : Int) == 0) = false := rfl
    simp -implicitDefEqProofs (maxSteps := 10000000) (disch := omega) only [TwlogSpot, LwlogSpot, GwlogSpot_10, V10_eq, GwlogSpot_13, V13_eq, GwlogSpot_wlogmost, Vwlogmost_eq, GwlogSpot_wlogwant, Vwlogwant, Twlogwant, Lwlogwant, DwlogSpot_wlogcaught, Uwlogcaught, Lwlogcaught, hB, hR, hI, e1, e2, e3, c1, pad, lightV, bt, bf, evs, gt, st, binV, arith, isSh, storeV, all1, idxAV, fieldV, faddrV, iaddrSV, iaddrAV, pickV, convV, unV, eqbV, eqpV, extV, mm2, mmV, nilckV, ress, res1, retV, Value.cells, reduceIte, reduceCtorEq, Int.reduceLT, Int.reduceLE, Int.reduceToNat, Int.reduceAdd, Int.reduceSub, Int.reduceMul, Int.reduceNeg, Nat.reduceMul, Nat.reduceAdd, Nat.reduceSub, Nat.reduceBEq, Nat.reduceEqDiff, Nat.reduceLT, Nat.reduceLeDiff, Int.reduceBEq, Int.reduceEq, Nat.reducePow, Int.reducePow, IntWalk.i64_in, IntKind.bits, eqAV, eqL, leafEq, andO, fillV, buildSV, Int.reduceGT, Int.reduceGE, Int.reduceBNe, IntWalk.u64_in, newsV_s, tassV, isnV, slcV, slcAV, slcTV, slcB, appNew, Option.bind_some, Option.bind_none, eqsV, lookV, mupdV, mdelV, mkM, ev1, ev2]
    with_reducible refine done2 ?_
    repeat (first | refine ext_new hN ?_ | exact fun _ _ h => h)
set_option maxHeartbeats 1000000 in
theorem fSpotn {B : OH} (hG : ∃ H N, good B H N) (k p c q i : Int) (h : ¬ fitI k p c) : FwlogSpot B [.agg #[.int .i64 k, .int .i64 p, .int .i64 c], .int .i64 q, .int .i64 i] = some (.tuple #[.int .i64 0, .int .i64 0, .int .i64 5]) := by
  refine kval_eq hG fun H N hN => ?_
  have hB := good_B hN
  have hR := good_rdB hN
  have hI := beqN hN.1.1
  have e1 := f13n hG k p c h
  simp -implicitDefEqProofs (maxSteps := 10000000) (disch := omega) only [TwlogSpot, LwlogSpot, GwlogSpot_10, V10_eq, GwlogSpot_13, V13_eq, GwlogSpot_wlogmost, Vwlogmost_eq, GwlogSpot_wlogwant, Vwlogwant, Twlogwant, Lwlogwant, DwlogSpot_wlogcaught, Uwlogcaught, Lwlogcaught, hB, hR, hI, e1, pad, lightV, bt, bf, evs, gt, st, binV, arith, isSh, storeV, all1, idxAV, fieldV, faddrV, iaddrSV, iaddrAV, pickV, convV, unV, eqbV, eqpV, extV, mm2, mmV, nilckV, ress, res1, retV, Value.cells, reduceIte, reduceCtorEq, Int.reduceLT, Int.reduceLE, Int.reduceToNat, Int.reduceAdd, Int.reduceSub, Int.reduceMul, Int.reduceNeg, Nat.reduceMul, Nat.reduceAdd, Nat.reduceSub, Nat.reduceBEq, Nat.reduceEqDiff, Nat.reduceLT, Nat.reduceLeDiff, Int.reduceBEq, Int.reduceEq, Nat.reducePow, Int.reducePow, IntWalk.i64_in, IntKind.bits, eqAV, eqL, leafEq, andO, fillV, buildSV, Int.reduceGT, Int.reduceGE, Int.reduceBNe, IntWalk.u64_in, newsV_s, tassV, isnV, slcV, slcAV, slcTV, slcB, appNew, Option.bind_some, Option.bind_none, eqsV, lookV, mupdV, mdelV, mkM, ev1, ev2]
  with_reducible refine done2 ?_
  repeat (first | refine ext_new hN ?_ | exact fun _ _ h => h)
end Go.Proofs.YtfhiplfagejfoaaDoor
namespace Go.Proofs.YtfhiplfagejfoaaDoor
open Go.Proofs.YtfhiplfagejfoaaDoor.K Go.ChangeShapes Go.WideShapes Go.ChangeAt Go.RowKit 
set_option maxRecDepth 100000
set_option linter.unusedSimpArgs false
set_option linter.unusedVariables false
structure C2 where
  w : Int
  l : Int
  deriving DecidableEq
def c2 (x : C2) : List Value := [.int .u64 x.w, .int .i64 x.l]
def z2 : C2 := ⟨0, 0⟩
structure W2 where
  a : Int
  w : Int
  deriving DecidableEq
def w2 (x : W2) : List Value := [.int .i64 x.a, .int .u64 x.w]
def y2 : W2 := ⟨0, 0⟩
def w1 (x : Int) : List Value := [.int .u64 x]
theorem c2_len (x : C2) : (c2 x).length = 2 := rfl
theorem w2_len (x : W2) : (w2 x).length = 2 := rfl
theorem w1_len (x : Int) : (w1 x).length = 1 := rfl
theorem all1_c2 (L : List C2) : all1 (fl c2 L) = true := by
  induction L with
  | nil => rfl
  | cons a L ih => exact ih
theorem all1_w1 (L : List Int) : all1 (fl w1 L) = true := by
  induction L with
  | nil => rfl
  | cons a L ih => exact ih
theorem rep_c2 (n : Nat) : (List.replicate n [Value.int .u64 0, .int .i64 0]).flatten = fl c2 (List.replicate n z2) := by
  induction n with
  | zero => rfl
  | succ n ih => rw [List.replicate_succ, List.replicate_succ, List.flatten_cons, ih]; rfl
theorem rep_w1 (n : Nat) : (List.replicate n [Value.int .u64 0]).flatten = fl w1 (List.replicate n 0) := by
  induction n with
  | zero => rfl
  | succ n ih => rw [List.replicate_succ, List.replicate_succ, List.flatten_cons, ih]; rfl
theorem SlR.read {α : Type} {f : α → List Value} {sz : Nat} {B : OH} {H H' : HL} {L : List α} {b o : Nat} (h : ∀ H', Fr H H' → ∀ i j n d, i < L.length → j + n ≤ sz → rdO H' B b (o + i * sz + j) n (rdB B b (o + i * sz + j) n) = tk (f (L.getD i d)) j n) (hf : ∀ a, (f a).length = sz) (hF : Fr H H') {i : Nat} (d : α) (hi : i < L.length) : rdO H' B b (o + i * sz) sz (rdB B b (o + i * sz) sz) = some (f (L.getD i d)) := by
  have := h H' hF i 0 sz d hi (by omega)
  rw [Nat.add_zero] at this
  rw [this]; exact tk_all _ _ (hf _).symm
theorem neC {a b : C2} (he : ¬ a = b) : ((a.w == b.w) && (a.l == b.l)) = false := by
  obtain ⟨aw, al⟩ := a
  obtain ⟨bw, bl⟩ := b
  simp only [C2.mk.injEq] at he
  by_cases h : aw = bw
  · have : ¬ al = bl := fun h' => he ⟨h, h'⟩
    simp [beqI this]
  · simp [beqI h]
theorem neW {a b : W2} (he : ¬ a = b) : ((a.a == b.a) && (a.w == b.w)) = false := by
  obtain ⟨aw, al⟩ := a
  obtain ⟨bw, bl⟩ := b
  simp only [W2.mk.injEq] at he
  by_cases h : aw = bw
  · have : ¬ al = bl := fun h' => he ⟨h, h'⟩
    simp [beqI this]
  · simp [beqI h]
/-- whitewash/whitewashref10.Words -/
def Lref10Words : FnL := ⟨(.seq (.ops [⟨(some 4), .mv (.const (.bool false)), none⟩])
 (.seq (.seq (.ops [⟨(some 6), .mv (.tmp 0), none⟩, ⟨(some 7), .len false (.tmp 6), none⟩, ⟨(some 8), .mv (.tmp 1), none⟩, ⟨(some 9), .len false (.tmp 8), none⟩, ⟨(some 10), .bin .neq (.tmp 7) (.tmp 9), none⟩])
 (.cond (.tmp 10) (.seq (.ops [⟨(some 4), .mv (.const (.bool false)), none⟩])
 .ret)
 .skip))
 (.seq (.seq (.ops [⟨(some 5), .mv (.const (.int .i64 0)), none⟩])
 (.block 0 (.loop (.seq (.seq (.ops [⟨(some 11), .mv (.tmp 5), none⟩, ⟨(some 12), .mv (.tmp 0), none⟩, ⟨(some 13), .len false (.tmp 12), none⟩, ⟨(some 14), .bin .lss (.tmp 11) (.tmp 13), none⟩])
 (.cond (.tmp 14) .skip
 (.exit 0)))
 (.seq (.block 1 (.seq (.draw [⟨⟨(some 17), .mv (.tmp 0), none⟩, []⟩, ⟨⟨(some 18), .mv (.tmp 5), none⟩, []⟩, ⟨⟨(some 19), .iaddrS 1 (.tmp 17) (.tmp 18), none⟩, []⟩, ⟨⟨(some 20), .load false 1 (.tmp 19), none⟩, []⟩, ⟨⟨(some 21), .mv (.tmp 1), none⟩, []⟩, ⟨⟨(some 22), .mv (.tmp 5), none⟩, []⟩, ⟨⟨(some 23), .iaddrS 1 (.tmp 21) (.tmp 22), none⟩, []⟩, ⟨⟨(some 24), .load false 1 (.tmp 23), none⟩, []⟩, ⟨⟨(some 25), .bin .neq (.tmp 20) (.tmp 24), none⟩, []⟩])
 (.cond (.tmp 25) (.seq (.ops [⟨(some 4), .mv (.const (.bool false)), none⟩])
 .ret)
 .skip)))
 (.ops [⟨(some 15), .mv (.tmp 5), none⟩, ⟨(some 16), .bin .add (.tmp 15) (.const (.int .i64 1)), none⟩, ⟨(some 5), .mv (.tmp 16), none⟩]))))))
 (.seq (.ops [⟨(some 4), .mv (.const (.bool true)), none⟩])
 .ret)))),
 26, [.tmp 4]⟩
theorem lowref10Words : lowerFn Tryd.prog Tryd.f17 = some Lref10Words := by kernel_rfl
noncomputable def Gref10Words (B : OH) : Nat → Cs
  | _ => fun _ _ _ => none
theorem sGref10Words {w0 : World} {B : OH} : SoundG Tryd.prog w0 B { f := Gref10Words B } := .of fun k => by
  unfold Gref10Words
  split
  · exact .inl fun _ _ _ => rfl
theorem enref10Words : Enter Tryd.prog 17 := .of Tryd.func17 (by kernel_rfl) (by kernel_rfl)
noncomputable def Tref10Words (B : OH) : Cs := callF B { f := Gref10Words B } 1000000 Lref10Words
theorem sTref10Words {w0 : World} {B : OH} : SoundC Tryd.prog w0 B 17 (Tref10Words B) := callF_sound mixedOrders sGref10Words 1000000 Tryd.func17 lowref10Words
noncomputable def Vref10Words (B : OH) : Cs := Tref10Words B
theorem sVref10Words {w0 : World} {B : OH} : SoundC Tryd.prog w0 B 17 (Vref10Words B) := sTref10Words
structure Kref10Words (v w : Value) (n i : Nat) (ts : List Value) : Prop where
  l : ts.length = 26
  t0 : gt ts 0 = v
  t1 : gt ts 1 = w
  t5 : gt ts 5 = .int .i64 (i : Int)
set_option maxHeartbeats 4000000 in
theorem sameref10Words {B : OH} {H : HL} {N : St} {v w : Value} {L M : List Int} (hN : good B H N) (hv : SlR w1 1 B H v L) (hw : SlR w1 1 B H w M) (hL : L.length ≤ 900000) : Vref10Words B [v, w] H N = some (.ret (.bool (decide (L = M))), H, N) := by
  have hB := good_B hN
  have hR := good_rdB hN
  have hI := beqN hN.1.1
  have hlv := hv.len
  have hlw := hw.len
  unfold Vref10Words
  by_cases hl : L.length = M.length
  case neg =>
    have hl' : ((L.length : Int) != (M.length : Int)) = true := by simp; omega
    have hd : decide (L = M) = false := decide_eq_false fun h => hl (by rw [h])
    rw [hd]
    simp -implicitDefEqProofs (maxSteps := 10000000) (disch := omega) only [Tref10Words, Lref10Words, hB, hR, hI, lenV_sl, Int.toNat_natCast, bft, btf, gtst, st_len, hlv, hlw, hl', pad, lightV, bt, bf, evs, gt, st, binV, arith, isSh, storeV, all1, idxAV, fieldV, faddrV, iaddrSV, iaddrAV, pickV, convV, unV, eqbV, eqpV, extV, mm2, mmV, nilckV, ress, res1, retV, Value.cells, reduceIte, reduceCtorEq, Int.reduceLT, Int.reduceLE, Int.reduceToNat, Int.reduceAdd, Int.reduceSub, Int.reduceMul, Int.reduceNeg, Nat.reduceMul, Nat.reduceAdd, Nat.reduceSub, Nat.reduceBEq, Nat.reduceEqDiff, Nat.reduceLT, Nat.reduceLeDiff, Int.reduceBEq, Int.reduceEq, Nat.reducePow, Int.reducePow, IntWalk.i64_in, IntKind.bits, eqAV, eqL, leafEq, andO, fillV, buildSV, Int.reduceGT, Int.reduceGE, Int.reduceBNe, IntWalk.u64_in, newsV_s, tassV, isnV, slcV, slcAV, slcTV, slcB, appNew, Option.bind_some, Option.bind_none, eqsV, lookV, mupdV, mdelV, mkM, ev1, ev2]
  have hl' : ((L.length : Int) != (M.length : Int)) = false := by simp; omega
  simp -implicitDefEqProofs (maxSteps := 10000000) (disch := omega) only [Tref10Words, Lref10Words, hB, hR, hI, lenV_sl, Int.toNat_natCast, bft, btf, gtst, st_len, hlv, hlw, hl', pad, lightV, bt, bf, evs, gt, st, binV, arith, isSh, storeV, all1, idxAV, fieldV, faddrV, iaddrSV, iaddrAV, pickV, convV, unV, eqbV, eqpV, extV, mm2, mmV, nilckV, ress, res1, retV, Value.cells, reduceIte, reduceCtorEq, Int.reduceLT, Int.reduceLE, Int.reduceToNat, Int.reduceAdd, Int.reduceSub, Int.reduceMul, Int.reduceNeg, Nat.reduceMul, Nat.reduceAdd, Nat.reduceSub, Nat.reduceBEq, Nat.reduceEqDiff, Nat.reduceLT, Nat.reduceLeDiff, Int.reduceBEq, Int.reduceEq, Nat.reducePow, Int.reducePow, IntWalk.i64_in, IntKind.bits, eqAV, eqL, leafEq, andO, fillV, buildSV, Int.reduceGT, Int.reduceGE, Int.reduceBNe, IntWalk.u64_in, newsV_s, tassV, isnV, slcV, slcAV, slcTV, slcB, appNew, Option.bind_some, Option.bind_none, eqsV, lookV, mupdV, mdelV, mkM, ev1, ev2]
  generalize hX : exec B _ _ (LC.loop _) _ = o
  have hO : Ok o (fun x s => s.H = H ∧ s.N = N ∧ s.t.length = 26 ∧ ((x = .exit 0 ∧ L = M) ∨ (x = .ret ∧ gt s.t 4 = .bool false ∧ L ≠ M))) := by
    rw [← hX]
    refine loop_rule (n0 := 60) (fun k s => ∃ ts, ∃ i : Nat, s = ⟨ts, H, N⟩ ∧ Kref10Words v w L.length i ts ∧ (∀ q, q < i → L.getD q 0 = M.getD q 0) ∧ i ≤ L.length ∧ k = L.length - i) _ ?_ L.length _ ⟨_, 0, rfl, ⟨rfl, rfl, rfl, rfl⟩, fun q hq => by omega, by omega, rfl⟩ _ (by omega)
    rintro n k s ⟨ts, i, rfl, kp, hq, hi, rfl⟩
    have hc1 : ((i + 1 : Nat) : Int) = (i : Int) + 1 := by omega
    by_cases h : i < L.length
    · have h' : (i : Int) < (L.length : Int) := by omega
      have hm' : i < M.length := by omega
      have i0 : (0 : Int) ≤ (i : Int) := by omega
      obtain ⟨bv, ov, cv, rfl, _, rv⟩ := hv.at (by omega)
      obtain ⟨bw, ow, cw, rfl, _, rw'⟩ := hw.at (by omega)
      have rv := SlR.read rv w1_len (Fr.refl (H := H)) 0 h
      have rw' := SlR.read rw' w1_len (Fr.refl (H := H)) 0 hm'
      by_cases he : L.getD i 0 = M.getD i 0
      · rw [← he] at rw'
        generalize L.getD i 0 = a at rv rw'
        simp only [w1, Nat.mul_one] at rv rw'
        simp -implicitDefEqProofs (maxSteps := 10000000) (disch := omega) only [Tref10Words, Lref10Words, hB, hR, hI, kp.l, kp.t0, kp.t1, kp.t5, lenV_sl, Int.toNat_natCast, bft, btf, gtst, st_len, h', h, hm', i0, hlv, hlw, rv, rw', Nat.mul_one, bne_self_eq_false, pad, lightV, bt, bf, evs, gt, st, binV, arith, isSh, storeV, all1, idxAV, fieldV, faddrV, iaddrSV, iaddrAV, pickV, convV, unV, eqbV, eqpV, extV, mm2, mmV, nilckV, ress, res1, retV, Value.cells, reduceIte, reduceCtorEq, Int.reduceLT, Int.reduceLE, Int.reduceToNat, Int.reduceAdd, Int.reduceSub, Int.reduceMul, Int.reduceNeg, Nat.reduceMul, Nat.reduceAdd, Nat.reduceSub, Nat.reduceBEq, Nat.reduceEqDiff, Nat.reduceLT, Nat.reduceLeDiff, Int.reduceBEq, Int.reduceEq, Nat.reducePow, Int.reducePow, IntWalk.i64_in, IntKind.bits, eqAV, eqL, leafEq, andO, fillV, buildSV, Int.reduceGT, Int.reduceGE, Int.reduceBNe, IntWalk.u64_in, newsV_s, tassV, isnV, slcV, slcAV, slcTV, slcB, appNew, Option.bind_some, Option.bind_none, eqsV, lookV, mupdV, mdelV, mkM, ev1, ev2]
        refine ok_some (.inl ⟨rfl, L.length - (i + 1), by omega, _, i + 1, rfl, ⟨?_, ?_, ?_, ?_⟩, fun q hq' => ?_, by omega, rfl⟩)
        rotate_right
        · rcases Nat.lt_or_ge q i with h1 | h1
          · exact hq q h1
          · obtain rfl : q = i := by omega
            exact he
        all_goals simp (maxSteps := 10000000) (disch := omega) only [kp.l, kp.t0, kp.t1, kp.t5, lenV_sl, Int.toNat_natCast, bft, btf, gtst, st_len, hc1, Nat.reduceAdd, Int.cast_ofNat_Int, cond_true, cond_false, Nat.reduceBEq, Nat.reduceLT, decide_true, beq_self_eq_true, if_true, if_false]
      · have hne : L ≠ M := fun e => he (by rw [e])
        generalize L.getD i 0 = a at rv he
        generalize M.getD i 0 = b at rw' he
        have hab : (a != b) = true := by simpa using he
        simp only [w1, Nat.mul_one] at rv rw'
        simp -implicitDefEqProofs (maxSteps := 10000000) (disch := omega) only [Tref10Words, Lref10Words, hB, hR, hI, kp.l, kp.t0, kp.t1, kp.t5, lenV_sl, Int.toNat_natCast, bft, btf, gtst, st_len, h', h, hm', i0, hlv, hlw, rv, rw', hab, Nat.mul_one, pad, lightV, bt, bf, evs, gt, st, binV, arith, isSh, storeV, all1, idxAV, fieldV, faddrV, iaddrSV, iaddrAV, pickV, convV, unV, eqbV, eqpV, extV, mm2, mmV, nilckV, ress, res1, retV, Value.cells, reduceIte, reduceCtorEq, Int.reduceLT, Int.reduceLE, Int.reduceToNat, Int.reduceAdd, Int.reduceSub, Int.reduceMul, Int.reduceNeg, Nat.reduceMul, Nat.reduceAdd, Nat.reduceSub, Nat.reduceBEq, Nat.reduceEqDiff, Nat.reduceLT, Nat.reduceLeDiff, Int.reduceBEq, Int.reduceEq, Nat.reducePow, Int.reducePow, IntWalk.i64_in, IntKind.bits, eqAV, eqL, leafEq, andO, fillV, buildSV, Int.reduceGT, Int.reduceGE, Int.reduceBNe, IntWalk.u64_in, newsV_s, tassV, isnV, slcV, slcAV, slcTV, slcB, appNew, Option.bind_some, Option.bind_none, eqsV, lookV, mupdV, mdelV, mkM, ev1, ev2]
        refine ok_some (.inr ⟨by simp, rfl, rfl, ?_, .inr ⟨rfl, ?_, hne⟩⟩)
        all_goals simp (maxSteps := 10000000) (disch := omega) only [kp.l, kp.t0, kp.t1, kp.t5, lenV_sl, Int.toNat_natCast, bft, btf, gtst, st_len, Nat.reduceAdd, Int.cast_ofNat_Int, cond_true, cond_false, Nat.reduceBEq, Nat.reduceLT, decide_true, beq_self_eq_true, if_true, if_false]
    · simp -implicitDefEqProofs (maxSteps := 10000000) (disch := omega) only [Tref10Words, Lref10Words, hB, hR, hI, kp.l, kp.t0, kp.t1, kp.t5, lenV_sl, Int.toNat_natCast, bft, btf, gtst, st_len, h, show ¬ (i : Int) < (L.length : Int) by omega, hlv, pad, lightV, bt, bf, evs, gt, st, binV, arith, isSh, storeV, all1, idxAV, fieldV, faddrV, iaddrSV, iaddrAV, pickV, convV, unV, eqbV, eqpV, extV, mm2, mmV, nilckV, ress, res1, retV, Value.cells, reduceIte, reduceCtorEq, Int.reduceLT, Int.reduceLE, Int.reduceToNat, Int.reduceAdd, Int.reduceSub, Int.reduceMul, Int.reduceNeg, Nat.reduceMul, Nat.reduceAdd, Nat.reduceSub, Nat.reduceBEq, Nat.reduceEqDiff, Nat.reduceLT, Nat.reduceLeDiff, Int.reduceBEq, Int.reduceEq, Nat.reducePow, Int.reducePow, IntWalk.i64_in, IntKind.bits, eqAV, eqL, leafEq, andO, fillV, buildSV, Int.reduceGT, Int.reduceGE, Int.reduceBNe, IntWalk.u64_in, newsV_s, tassV, isnV, slcV, slcAV, slcTV, slcB, appNew, Option.bind_some, Option.bind_none, eqsV, lookV, mupdV, mdelV, mkM, ev1, ev2]
      refine ok_some (.inr ⟨by simp, rfl, rfl, ?_, .inl ⟨rfl, ?_⟩⟩)
      · simp -implicitDefEqProofs (maxSteps := 10000000) (disch := omega) only [Tref10Words, Lref10Words, hB, hR, hI, kp.l, kp.t0, kp.t1, kp.t5, lenV_sl, Int.toNat_natCast, bft, btf, gtst, st_len, pad, lightV, bt, bf, evs, gt, st, binV, arith, isSh, storeV, all1, idxAV, fieldV, faddrV, iaddrSV, iaddrAV, pickV, convV, unV, eqbV, eqpV, extV, mm2, mmV, nilckV, ress, res1, retV, Value.cells, reduceIte, reduceCtorEq, Int.reduceLT, Int.reduceLE, Int.reduceToNat, Int.reduceAdd, Int.reduceSub, Int.reduceMul, Int.reduceNeg, Nat.reduceMul, Nat.reduceAdd, Nat.reduceSub, Nat.reduceBEq, Nat.reduceEqDiff, Nat.reduceLT, Nat.reduceLeDiff, Int.reduceBEq, Int.reduceEq, Nat.reducePow, Int.reducePow, IntWalk.i64_in, IntKind.bits, eqAV, eqL, leafEq, andO, fillV, buildSV, Int.reduceGT, Int.reduceGE, Int.reduceBNe, IntWalk.u64_in, newsV_s, tassV, isnV, slcV, slcAV, slcTV, slcB, appNew, Option.bind_some, Option.bind_none, eqsV, lookV, mupdV, mdelV, mkM, ev1, ev2]
      · refine List.ext_getElem? fun q => ?_
        rcases Nat.lt_or_ge q i with h1 | h1
        · rw [some_getD (d := 0) (by omega : q < L.length), some_getD (d := 0) (by omega : q < M.length), hq q h1]
        · rw [List.getElem?_eq_none (by omega), List.getElem?_eq_none (by omega)]
  obtain ⟨x, ⟨ts, H1, N1⟩, rfl, rfl, rfl, hl2, hr⟩ := hO
  simp only at hl2
  rcases hr with ⟨rfl, he⟩ | ⟨rfl, h4, hne⟩
  · rw [decide_eq_true he]
    simp -implicitDefEqProofs (maxSteps := 10000000) (disch := omega) only [Tref10Words, Lref10Words, hB, hR, hI, hl2, lenV_sl, Int.toNat_natCast, bft, btf, gtst, st_len, pad, lightV, bt, bf, evs, gt, st, binV, arith, isSh, storeV, all1, idxAV, fieldV, faddrV, iaddrSV, iaddrAV, pickV, convV, unV, eqbV, eqpV, extV, mm2, mmV, nilckV, ress, res1, retV, Value.cells, reduceIte, reduceCtorEq, Int.reduceLT, Int.reduceLE, Int.reduceToNat, Int.reduceAdd, Int.reduceSub, Int.reduceMul, Int.reduceNeg, Nat.reduceMul, Nat.reduceAdd, Nat.reduceSub, Nat.reduceBEq, Nat.reduceEqDiff, Nat.reduceLT, Nat.reduceLeDiff, Int.reduceBEq, Int.reduceEq, Nat.reducePow, Int.reducePow, IntWalk.i64_in, IntKind.bits, eqAV, eqL, leafEq, andO, fillV, buildSV, Int.reduceGT, Int.reduceGE, Int.reduceBNe, IntWalk.u64_in, newsV_s, tassV, isnV, slcV, slcAV, slcTV, slcB, appNew, Option.bind_some, Option.bind_none, eqsV, lookV, mupdV, mdelV, mkM, ev1, ev2]
  · rw [decide_eq_false hne]
    simp only at h4
    simp -implicitDefEqProofs (maxSteps := 10000000) (disch := omega) only [Tref10Words, Lref10Words, hB, hR, hI, hl2, h4, lenV_sl, Int.toNat_natCast, bft, btf, gtst, st_len, pad, lightV, bt, bf, evs, gt, st, binV, arith, isSh, storeV, all1, idxAV, fieldV, faddrV, iaddrSV, iaddrAV, pickV, convV, unV, eqbV, eqpV, extV, mm2, mmV, nilckV, ress, res1, retV, Value.cells, reduceIte, reduceCtorEq, Int.reduceLT, Int.reduceLE, Int.reduceToNat, Int.reduceAdd, Int.reduceSub, Int.reduceMul, Int.reduceNeg, Nat.reduceMul, Nat.reduceAdd, Nat.reduceSub, Nat.reduceBEq, Nat.reduceEqDiff, Nat.reduceLT, Nat.reduceLeDiff, Int.reduceBEq, Int.reduceEq, Nat.reducePow, Int.reducePow, IntWalk.i64_in, IntKind.bits, eqAV, eqL, leafEq, andO, fillV, buildSV, Int.reduceGT, Int.reduceGE, Int.reduceBNe, IntWalk.u64_in, newsV_s, tassV, isnV, slcV, slcAV, slcTV, slcB, appNew, Option.bind_some, Option.bind_none, eqsV, lookV, mupdV, mdelV, mkM, ev1, ev2]
/-- slices.Equal[[]uint64,uint64] -/
def LslicesEqual_uint64uint64 : FnL := ⟨(.seq (.ops [⟨(some 4), .mv (.const (.bool false)), none⟩])
 (.seq (.seq (.ops [⟨(some 6), .mv (.tmp 0), none⟩, ⟨(some 7), .len false (.tmp 6), none⟩, ⟨(some 8), .mv (.tmp 1), none⟩, ⟨(some 9), .len false (.tmp 8), none⟩, ⟨(some 10), .bin .neq (.tmp 7) (.tmp 9), none⟩])
 (.cond (.tmp 10) (.seq (.ops [⟨(some 4), .mv (.const (.bool false)), none⟩])
 .ret)
 .skip))
 (.seq (.seq (.ops [⟨(some 11), .mv (.tmp 0), none⟩, ⟨(some 12), .len false (.tmp 11), none⟩, ⟨(some 13), .mv (.const (.int .i64 0)), none⟩])
 (.block 0 (.loop (.seq (.ops [⟨(some 14), .bin .lss (.tmp 13) (.tmp 12), none⟩])
 (.seq (.cond (.tmp 14) .skip
 (.exit 0))
 (.seq (.block 1 (.seq (.ops [⟨(some 15), .mv (.tmp 13), none⟩, ⟨(some 5), .mv (.tmp 15), none⟩])
 (.seq (.draw [⟨⟨(some 16), .mv (.tmp 0), none⟩, []⟩, ⟨⟨(some 17), .mv (.tmp 5), none⟩, []⟩, ⟨⟨(some 18), .iaddrS 1 (.tmp 16) (.tmp 17), none⟩, []⟩, ⟨⟨(some 19), .load false 1 (.tmp 18), none⟩, []⟩, ⟨⟨(some 20), .mv (.tmp 1), none⟩, []⟩, ⟨⟨(some 21), .mv (.tmp 5), none⟩, []⟩, ⟨⟨(some 22), .iaddrS 1 (.tmp 20) (.tmp 21), none⟩, []⟩, ⟨⟨(some 23), .load false 1 (.tmp 22), none⟩, []⟩, ⟨⟨(some 24), .bin .neq (.tmp 19) (.tmp 23), none⟩, []⟩])
 (.cond (.tmp 24) (.seq (.ops [⟨(some 4), .mv (.const (.bool false)), none⟩])
 .ret)
 .skip))))
 (.ops [⟨(some 25), .bin .add (.tmp 13) (.const (.int .i64 1)), none⟩, ⟨(some 13), .mv (.tmp 25), none⟩])))))))
 (.seq (.ops [⟨(some 4), .mv (.const (.bool true)), none⟩])
 .ret)))),
 26, [.tmp 4]⟩
theorem lowslicesEqual_uint64uint64 : lowerFn Tryd.prog Tryd.f48 = some LslicesEqual_uint64uint64 := by kernel_rfl
noncomputable def GslicesEqual_uint64uint64 (B : OH) : Nat → Cs
  | _ => fun _ _ _ => none
theorem sGslicesEqual_uint64uint64 {w0 : World} {B : OH} : SoundG Tryd.prog w0 B { f := GslicesEqual_uint64uint64 B } := .of fun k => by
  unfold GslicesEqual_uint64uint64
  split
  · exact .inl fun _ _ _ => rfl
theorem enslicesEqual_uint64uint64 : Enter Tryd.prog 48 := .of Tryd.func48 (by kernel_rfl) (by kernel_rfl)
noncomputable def TslicesEqual_uint64uint64 (B : OH) : Cs := callF B { f := GslicesEqual_uint64uint64 B } 1000000 LslicesEqual_uint64uint64
theorem sTslicesEqual_uint64uint64 {w0 : World} {B : OH} : SoundC Tryd.prog w0 B 48 (TslicesEqual_uint64uint64 B) := callF_sound mixedOrders sGslicesEqual_uint64uint64 1000000 Tryd.func48 lowslicesEqual_uint64uint64
noncomputable def VslicesEqual_uint64uint64 (B : OH) : Cs := TslicesEqual_uint64uint64 B
theorem sVslicesEqual_uint64uint64 {w0 : World} {B : OH} : SoundC Tryd.prog w0 B 48 (VslicesEqual_uint64uint64 B) := sTslicesEqual_uint64uint64
structure KslicesEqual_uint64uint64 (v w : Value) (n i : Nat) (ts : List Value) : Prop where
  l : ts.length = 26
  t0 : gt ts 0 = v
  t1 : gt ts 1 = w
  t11 : gt ts 11 = v
  t12 : gt ts 12 = .int .i64 (n : Int)
  t13 : gt ts 13 = .int .i64 (i : Int)
set_option maxHeartbeats 4000000 in
theorem sameslicesEqual_uint64uint64 {B : OH} {H : HL} {N : St} {v w : Value} {L M : List Int} (hN : good B H N) (hv : SlR w1 1 B H v L) (hw : SlR w1 1 B H w M) (hL : L.length ≤ 900000) : VslicesEqual_uint64uint64 B [v, w] H N = some (.ret (.bool (decide (L = M))), H, N) := by
  have hB := good_B hN
  have hR := good_rdB hN
  have hI := beqN hN.1.1
  have hlv := hv.len
  have hlw := hw.len
  unfold VslicesEqual_uint64uint64
  by_cases hl : L.length = M.length
  case neg =>
    have hl' : ((L.length : Int) != (M.length : Int)) = true := by simp; omega
    have hd : decide (L = M) = false := decide_eq_false fun h => hl (by rw [h])
    rw [hd]
    simp -implicitDefEqProofs (maxSteps := 10000000) (disch := omega) only [TslicesEqual_uint64uint64, LslicesEqual_uint64uint64, hB, hR, hI, lenV_sl, Int.toNat_natCast, bft, btf, gtst, st_len, hlv, hlw, hl', pad, lightV, bt, bf, evs, gt, st, binV, arith, isSh, storeV, all1, idxAV, fieldV, faddrV, iaddrSV, iaddrAV, pickV, convV, unV, eqbV, eqpV, extV, mm2, mmV, nilckV, ress, res1, retV, Value.cells, reduceIte, reduceCtorEq, Int.reduceLT, Int.reduceLE, Int.reduceToNat, Int.reduceAdd, Int.reduceSub, Int.reduceMul, Int.reduceNeg, Nat.reduceMul, Nat.reduceAdd, Nat.reduceSub, Nat.reduceBEq, Nat.reduceEqDiff, Nat.reduceLT, Nat.reduceLeDiff, Int.reduceBEq, Int.reduceEq, Nat.reducePow, Int.reducePow, IntWalk.i64_in, IntKind.bits, eqAV, eqL, leafEq, andO, fillV, buildSV, Int.reduceGT, Int.reduceGE, Int.reduceBNe, IntWalk.u64_in, newsV_s, tassV, isnV, slcV, slcAV, slcTV, slcB, appNew, Option.bind_some, Option.bind_none, eqsV, lookV, mupdV, mdelV, mkM, ev1, ev2]
  have hl' : ((L.length : Int) != (M.length : Int)) = false := by simp; omega
  simp -implicitDefEqProofs (maxSteps := 10000000) (disch := omega) only [TslicesEqual_uint64uint64, LslicesEqual_uint64uint64, hB, hR, hI, lenV_sl, Int.toNat_natCast, bft, btf, gtst, st_len, hlv, hlw, hl', pad, lightV, bt, bf, evs, gt, st, binV, arith, isSh, storeV, all1, idxAV, fieldV, faddrV, iaddrSV, iaddrAV, pickV, convV, unV, eqbV, eqpV, extV, mm2, mmV, nilckV, ress, res1, retV, Value.cells, reduceIte, reduceCtorEq, Int.reduceLT, Int.reduceLE, Int.reduceToNat, Int.reduceAdd, Int.reduceSub, Int.reduceMul, Int.reduceNeg, Nat.reduceMul, Nat.reduceAdd, Nat.reduceSub, Nat.reduceBEq, Nat.reduceEqDiff, Nat.reduceLT, Nat.reduceLeDiff, Int.reduceBEq, Int.reduceEq, Nat.reducePow, Int.reducePow, IntWalk.i64_in, IntKind.bits, eqAV, eqL, leafEq, andO, fillV, buildSV, Int.reduceGT, Int.reduceGE, Int.reduceBNe, IntWalk.u64_in, newsV_s, tassV, isnV, slcV, slcAV, slcTV, slcB, appNew, Option.bind_some, Option.bind_none, eqsV, lookV, mupdV, mdelV, mkM, ev1, ev2]
  generalize hX : exec B _ _ (LC.loop _) _ = o
  have hO : Ok o (fun x s => s.H = H ∧ s.N = N ∧ s.t.length = 26 ∧ ((x = .exit 0 ∧ L = M) ∨ (x = .ret ∧ gt s.t 4 = .bool false ∧ L ≠ M))) := by
    rw [← hX]
    refine loop_rule (n0 := 60) (fun k s => ∃ ts, ∃ i : Nat, s = ⟨ts, H, N⟩ ∧ KslicesEqual_uint64uint64 v w L.length i ts ∧ (∀ q, q < i → L.getD q 0 = M.getD q 0) ∧ i ≤ L.length ∧ k = L.length - i) _ ?_ L.length _ ⟨_, 0, rfl, ⟨rfl, rfl, rfl, rfl, rfl, rfl⟩, fun q hq => by omega, by omega, rfl⟩ _ (by omega)
    rintro n k s ⟨ts, i, rfl, kp, hq, hi, rfl⟩
    have hc1 : ((i + 1 : Nat) : Int) = (i : Int) + 1 := by omega
    by_cases h : i < L.length
    · have h' : (i : Int) < (L.length : Int) := by omega
      have hm' : i < M.length := by omega
      have i0 : (0 : Int) ≤ (i : Int) := by omega
      obtain ⟨bv, ov, cv, rfl, _, rv⟩ := hv.at (by omega)
      obtain ⟨bw, ow, cw, rfl, _, rw'⟩ := hw.at (by omega)
      have rv := SlR.read rv w1_len (Fr.refl (H := H)) 0 h
      have rw' := SlR.read rw' w1_len (Fr.refl (H := H)) 0 hm'
      by_cases he : L.getD i 0 = M.getD i 0
      · rw [← he] at rw'
        generalize L.getD i 0 = a at rv rw'
        simp only [w1, Nat.mul_one] at rv rw'
        simp -implicitDefEqProofs (maxSteps := 10000000) (disch := omega) only [TslicesEqual_uint64uint64, LslicesEqual_uint64uint64, hB, hR, hI, kp.l, kp.t0, kp.t1, kp.t11, kp.t12, kp.t13, lenV_sl, Int.toNat_natCast, bft, btf, gtst, st_len, h', h, hm', i0, hlv, hlw, rv, rw', Nat.mul_one, bne_self_eq_false, pad, lightV, bt, bf, evs, gt, st, binV, arith, isSh, storeV, all1, idxAV, fieldV, faddrV, iaddrSV, iaddrAV, pickV, convV, unV, eqbV, eqpV, extV, mm2, mmV, nilckV, ress, res1, retV, Value.cells, reduceIte, reduceCtorEq, Int.reduceLT, Int.reduceLE, Int.reduceToNat, Int.reduceAdd, Int.reduceSub, Int.reduceMul, Int.reduceNeg, Nat.reduceMul, Nat.reduceAdd, Nat.reduceSub, Nat.reduceBEq, Nat.reduceEqDiff, Nat.reduceLT, Nat.reduceLeDiff, Int.reduceBEq, Int.reduceEq, Nat.reducePow, Int.reducePow, IntWalk.i64_in, IntKind.bits, eqAV, eqL, leafEq, andO, fillV, buildSV, Int.reduceGT, Int.reduceGE, Int.reduceBNe, IntWalk.u64_in, newsV_s, tassV, isnV, slcV, slcAV, slcTV, slcB, appNew, Option.bind_some, Option.bind_none, eqsV, lookV, mupdV, mdelV, mkM, ev1, ev2]
        refine ok_some (.inl ⟨rfl, L.length - (i + 1), by omega, _, i + 1, rfl, ⟨?_, ?_, ?_, ?_, ?_, ?_⟩, fun q hq' => ?_, by omega, rfl⟩)
        rotate_right
        · rcases Nat.lt_or_ge q i with h1 | h1
          · exact hq q h1
          · obtain rfl : q = i := by omega
            exact he
        all_goals simp (maxSteps := 10000000) (disch := omega) only [kp.l, kp.t0, kp.t1, kp.t11, kp.t12, kp.t13, lenV_sl, Int.toNat_natCast, bft, btf, gtst, st_len, hc1, Nat.reduceAdd, Int.cast_ofNat_Int, cond_true, cond_false, Nat.reduceBEq, Nat.reduceLT, decide_true, beq_self_eq_true, if_true, if_false]
      · have hne : L ≠ M := fun e => he (by rw [e])
        generalize L.getD i 0 = a at rv he
        generalize M.getD i 0 = b at rw' he
        have hab : (a != b) = true := by simpa using he
        simp only [w1, Nat.mul_one] at rv rw'
        simp -implicitDefEqProofs (maxSteps := 10000000) (disch := omega) only [TslicesEqual_uint64uint64, LslicesEqual_uint64uint64, hB, hR, hI, kp.l, kp.t0, kp.t1, kp.t11, kp.t12, kp.t13, lenV_sl, Int.toNat_natCast, bft, btf, gtst, st_len, h', h, hm', i0, hlv, hlw, rv, rw', hab, Nat.mul_one, pad, lightV, bt, bf, evs, gt, st, binV, arith, isSh, storeV, all1, idxAV, fieldV, faddrV, iaddrSV, iaddrAV, pickV, convV, unV, eqbV, eqpV, extV, mm2, mmV, nilckV, ress, res1, retV, Value.cells, reduceIte, reduceCtorEq, Int.reduceLT, Int.reduceLE, Int.reduceToNat, Int.reduceAdd, Int.reduceSub, Int.reduceMul, Int.reduceNeg, Nat.reduceMul, Nat.reduceAdd, Nat.reduceSub, Nat.reduceBEq, Nat.reduceEqDiff, Nat.reduceLT, Nat.reduceLeDiff, Int.reduceBEq, Int.reduceEq, Nat.reducePow, Int.reducePow, IntWalk.i64_in, IntKind.bits, eqAV, eqL, leafEq, andO, fillV, buildSV, Int.reduceGT, Int.reduceGE, Int.reduceBNe, IntWalk.u64_in, newsV_s, tassV, isnV, slcV, slcAV, slcTV, slcB, appNew, Option.bind_some, Option.bind_none, eqsV, lookV, mupdV, mdelV, mkM, ev1, ev2]
        refine ok_some (.inr ⟨by simp, rfl, rfl, ?_, .inr ⟨rfl, ?_, hne⟩⟩)
        all_goals simp (maxSteps := 10000000) (disch := omega) only [kp.l, kp.t0, kp.t1, kp.t11, kp.t12, kp.t13, lenV_sl, Int.toNat_natCast, bft, btf, gtst, st_len, Nat.reduceAdd, Int.cast_ofNat_Int, cond_true, cond_false, Nat.reduceBEq, Nat.reduceLT, decide_true, beq_self_eq_true, if_true, if_false]
    · simp -implicitDefEqProofs (maxSteps := 10000000) (disch := omega) only [TslicesEqual_uint64uint64, LslicesEqual_uint64uint64, hB, hR, hI, kp.l, kp.t0, kp.t1, kp.t11, kp.t12, kp.t13, lenV_sl, Int.toNat_natCast, bft, btf, gtst, st_len, h, show ¬ (i : Int) < (L.length : Int) by omega, hlv, pad, lightV, bt, bf, evs, gt, st, binV, arith, isSh, storeV, all1, idxAV, fieldV, faddrV, iaddrSV, iaddrAV, pickV, convV, unV, eqbV, eqpV, extV, mm2, mmV, nilckV, ress, res1, retV, Value.cells, reduceIte, reduceCtorEq, Int.reduceLT, Int.reduceLE, Int.reduceToNat, Int.reduceAdd, Int.reduceSub, Int.reduceMul, Int.reduceNeg, Nat.reduceMul, Nat.reduceAdd, Nat.reduceSub, Nat.reduceBEq, Nat.reduceEqDiff, Nat.reduceLT, Nat.reduceLeDiff, Int.reduceBEq, Int.reduceEq, Nat.reducePow, Int.reducePow, IntWalk.i64_in, IntKind.bits, eqAV, eqL, leafEq, andO, fillV, buildSV, Int.reduceGT, Int.reduceGE, Int.reduceBNe, IntWalk.u64_in, newsV_s, tassV, isnV, slcV, slcAV, slcTV, slcB, appNew, Option.bind_some, Option.bind_none, eqsV, lookV, mupdV, mdelV, mkM, ev1, ev2]
      refine ok_some (.inr ⟨by simp, rfl, rfl, ?_, .inl ⟨rfl, ?_⟩⟩)
      · simp -implicitDefEqProofs (maxSteps := 10000000) (disch := omega) only [TslicesEqual_uint64uint64, LslicesEqual_uint64uint64, hB, hR, hI, kp.l, kp.t0, kp.t1, kp.t11, kp.t12, kp.t13, lenV_sl, Int.toNat_natCast, bft, btf, gtst, st_len, pad, lightV, bt, bf, evs, gt, st, binV, arith, isSh, storeV, all1, idxAV, fieldV, faddrV, iaddrSV, iaddrAV, pickV, convV, unV, eqbV, eqpV, extV, mm2, mmV, nilckV, ress, res1, retV, Value.cells, reduceIte, reduceCtorEq, Int.reduceLT, Int.reduceLE, Int.reduceToNat, Int.reduceAdd, Int.reduceSub, Int.reduceMul, Int.reduceNeg, Nat.reduceMul, Nat.reduceAdd, Nat.reduceSub, Nat.reduceBEq, Nat.reduceEqDiff, Nat.reduceLT, Nat.reduceLeDiff, Int.reduceBEq, Int.reduceEq, Nat.reducePow, Int.reducePow, IntWalk.i64_in, IntKind.bits, eqAV, eqL, leafEq, andO, fillV, buildSV, Int.reduceGT, Int.reduceGE, Int.reduceBNe, IntWalk.u64_in, newsV_s, tassV, isnV, slcV, slcAV, slcTV, slcB, appNew, Option.bind_some, Option.bind_none, eqsV, lookV, mupdV, mdelV, mkM, ev1, ev2]
      · refine List.ext_getElem? fun q => ?_
        rcases Nat.lt_or_ge q i with h1 | h1
        · rw [some_getD (d := 0) (by omega : q < L.length), some_getD (d := 0) (by omega : q < M.length), hq q h1]
        · rw [List.getElem?_eq_none (by omega), List.getElem?_eq_none (by omega)]
  obtain ⟨x, ⟨ts, H1, N1⟩, rfl, rfl, rfl, hl2, hr⟩ := hO
  simp only at hl2
  rcases hr with ⟨rfl, he⟩ | ⟨rfl, h4, hne⟩
  · rw [decide_eq_true he]
    simp -implicitDefEqProofs (maxSteps := 10000000) (disch := omega) only [TslicesEqual_uint64uint64, LslicesEqual_uint64uint64, hB, hR, hI, hl2, lenV_sl, Int.toNat_natCast, bft, btf, gtst, st_len, pad, lightV, bt, bf, evs, gt, st, binV, arith, isSh, storeV, all1, idxAV, fieldV, faddrV, iaddrSV, iaddrAV, pickV, convV, unV, eqbV, eqpV, extV, mm2, mmV, nilckV, ress, res1, retV, Value.cells, reduceIte, reduceCtorEq, Int.reduceLT, Int.reduceLE, Int.reduceToNat, Int.reduceAdd, Int.reduceSub, Int.reduceMul, Int.reduceNeg, Nat.reduceMul, Nat.reduceAdd, Nat.reduceSub, Nat.reduceBEq, Nat.reduceEqDiff, Nat.reduceLT, Nat.reduceLeDiff, Int.reduceBEq, Int.reduceEq, Nat.reducePow, Int.reducePow, IntWalk.i64_in, IntKind.bits, eqAV, eqL, leafEq, andO, fillV, buildSV, Int.reduceGT, Int.reduceGE, Int.reduceBNe, IntWalk.u64_in, newsV_s, tassV, isnV, slcV, slcAV, slcTV, slcB, appNew, Option.bind_some, Option.bind_none, eqsV, lookV, mupdV, mdelV, mkM, ev1, ev2]
  · rw [decide_eq_false hne]
    simp only at h4
    simp -implicitDefEqProofs (maxSteps := 10000000) (disch := omega) only [TslicesEqual_uint64uint64, LslicesEqual_uint64uint64, hB, hR, hI, hl2, h4, lenV_sl, Int.toNat_natCast, bft, btf, gtst, st_len, pad, lightV, bt, bf, evs, gt, st, binV, arith, isSh, storeV, all1, idxAV, fieldV, faddrV, iaddrSV, iaddrAV, pickV, convV, unV, eqbV, eqpV, extV, mm2, mmV, nilckV, ress, res1, retV, Value.cells, reduceIte, reduceCtorEq, Int.reduceLT, Int.reduceLE, Int.reduceToNat, Int.reduceAdd, Int.reduceSub, Int.reduceMul, Int.reduceNeg, Nat.reduceMul, Nat.reduceAdd, Nat.reduceSub, Nat.reduceBEq, Nat.reduceEqDiff, Nat.reduceLT, Nat.reduceLeDiff, Int.reduceBEq, Int.reduceEq, Nat.reducePow, Int.reducePow, IntWalk.i64_in, IntKind.bits, eqAV, eqL, leafEq, andO, fillV, buildSV, Int.reduceGT, Int.reduceGE, Int.reduceBNe, IntWalk.u64_in, newsV_s, tassV, isnV, slcV, slcAV, slcTV, slcB, appNew, Option.bind_some, Option.bind_none, eqsV, lookV, mupdV, mdelV, mkM, ev1, ev2]
/-- whitewash/whitewashref05.Writes -/
def Lref05Writes : FnL := ⟨(.seq (.ops [⟨(some 4), .mv (.const (.bool false)), none⟩])
 (.seq (.seq (.ops [⟨(some 6), .mv (.tmp 0), none⟩, ⟨(some 7), .len false (.tmp 6), none⟩, ⟨(some 8), .mv (.tmp 1), none⟩, ⟨(some 9), .len false (.tmp 8), none⟩, ⟨(some 10), .bin .neq (.tmp 7) (.tmp 9), none⟩])
 (.cond (.tmp 10) (.seq (.ops [⟨(some 4), .mv (.const (.bool false)), none⟩])
 .ret)
 .skip))
 (.seq (.seq (.ops [⟨(some 5), .mv (.const (.int .i64 0)), none⟩])
 (.block 0 (.loop (.seq (.seq (.ops [⟨(some 11), .mv (.tmp 5), none⟩, ⟨(some 12), .mv (.tmp 0), none⟩, ⟨(some 13), .len false (.tmp 12), none⟩, ⟨(some 14), .bin .lss (.tmp 11) (.tmp 13), none⟩])
 (.cond (.tmp 14) .skip
 (.exit 0)))
 (.seq (.block 1 (.seq (.draw [⟨⟨(some 17), .mv (.tmp 0), none⟩, []⟩, ⟨⟨(some 18), .mv (.tmp 5), none⟩, []⟩, ⟨⟨(some 19), .iaddrS 2 (.tmp 17) (.tmp 18), none⟩, []⟩, ⟨⟨(some 20), .load true 2 (.tmp 19), none⟩, []⟩, ⟨⟨(some 21), .mv (.tmp 1), none⟩, []⟩, ⟨⟨(some 22), .mv (.tmp 5), none⟩, []⟩, ⟨⟨(some 23), .iaddrS 2 (.tmp 21) (.tmp 22), none⟩, []⟩, ⟨⟨(some 24), .load true 2 (.tmp 23), none⟩, []⟩, ⟨⟨(some 25), .eqA true [.int, .int] (.tmp 20) (.tmp 24), none⟩, []⟩])
 (.cond (.tmp 25) (.seq (.ops [⟨(some 4), .mv (.const (.bool false)), none⟩])
 .ret)
 .skip)))
 (.ops [⟨(some 15), .mv (.tmp 5), none⟩, ⟨(some 16), .bin .add (.tmp 15) (.const (.int .i64 1)), none⟩, ⟨(some 5), .mv (.tmp 16), none⟩]))))))
 (.seq (.ops [⟨(some 4), .mv (.const (.bool true)), none⟩])
 .ret)))),
 26, [.tmp 4]⟩
theorem lowref05Writes : lowerFn Tryd.prog Tryd.f20 = some Lref05Writes := by kernel_rfl
noncomputable def Gref05Writes (B : OH) : Nat → Cs
  | _ => fun _ _ _ => none
theorem sGref05Writes {w0 : World} {B : OH} : SoundG Tryd.prog w0 B { f := Gref05Writes B } := .of fun k => by
  unfold Gref05Writes
  split
  · exact .inl fun _ _ _ => rfl
theorem enref05Writes : Enter Tryd.prog 20 := .of Tryd.func20 (by kernel_rfl) (by kernel_rfl)
noncomputable def Tref05Writes (B : OH) : Cs := callF B { f := Gref05Writes B } 1000000 Lref05Writes
theorem sTref05Writes {w0 : World} {B : OH} : SoundC Tryd.prog w0 B 20 (Tref05Writes B) := callF_sound mixedOrders sGref05Writes 1000000 Tryd.func20 lowref05Writes
noncomputable def Vref05Writes (B : OH) : Cs := Tref05Writes B
theorem sVref05Writes {w0 : World} {B : OH} : SoundC Tryd.prog w0 B 20 (Vref05Writes B) := sTref05Writes
structure Kref05Writes (v w : Value) (n i : Nat) (ts : List Value) : Prop where
  l : ts.length = 26
  t0 : gt ts 0 = v
  t1 : gt ts 1 = w
  t5 : gt ts 5 = .int .i64 (i : Int)
set_option maxHeartbeats 4000000 in
theorem sameref05Writes {B : OH} {H : HL} {N : St} {v w : Value} {L M : List W2} (hN : good B H N) (hv : SlR w2 2 B H v L) (hw : SlR w2 2 B H w M) (hL : L.length ≤ 900000) : Vref05Writes B [v, w] H N = some (.ret (.bool (decide (L = M))), H, N) := by
  have hB := good_B hN
  have hR := good_rdB hN
  have hI := beqN hN.1.1
  have hlv := hv.len
  have hlw := hw.len
  unfold Vref05Writes
  by_cases hl : L.length = M.length
  case neg =>
    have hl' : ((L.length : Int) != (M.length : Int)) = true := by simp; omega
    have hd : decide (L = M) = false := decide_eq_false fun h => hl (by rw [h])
    rw [hd]
    simp -implicitDefEqProofs (maxSteps := 10000000) (disch := omega) only [Tref05Writes, Lref05Writes, hB, hR, hI, lenV_sl, Int.toNat_natCast, bft, btf, gtst, st_len, hlv, hlw, hl', pad, lightV, bt, bf, evs, gt, st, binV, arith, isSh, storeV, all1, idxAV, fieldV, faddrV, iaddrSV, iaddrAV, pickV, convV, unV, eqbV, eqpV, extV, mm2, mmV, nilckV, ress, res1, retV, Value.cells, reduceIte, reduceCtorEq, Int.reduceLT, Int.reduceLE, Int.reduceToNat, Int.reduceAdd, Int.reduceSub, Int.reduceMul, Int.reduceNeg, Nat.reduceMul, Nat.reduceAdd, Nat.reduceSub, Nat.reduceBEq, Nat.reduceEqDiff, Nat.reduceLT, Nat.reduceLeDiff, Int.reduceBEq, Int.reduceEq, Nat.reducePow, Int.reducePow, IntWalk.i64_in, IntKind.bits, eqAV, eqL, leafEq, andO, fillV, buildSV, Int.reduceGT, Int.reduceGE, Int.reduceBNe, IntWalk.u64_in, newsV_s, tassV, isnV, slcV, slcAV, slcTV, slcB, appNew, Option.bind_some, Option.bind_none, eqsV, lookV, mupdV, mdelV, mkM, ev1, ev2]
  have hl' : ((L.length : Int) != (M.length : Int)) = false := by simp; omega
  simp -implicitDefEqProofs (maxSteps := 10000000) (disch := omega) only [Tref05Writes, Lref05Writes, hB, hR, hI, lenV_sl, Int.toNat_natCast, bft, btf, gtst, st_len, hlv, hlw, hl', pad, lightV, bt, bf, evs, gt, st, binV, arith, isSh, storeV, all1, idxAV, fieldV, faddrV, iaddrSV, iaddrAV, pickV, convV, unV, eqbV, eqpV, extV, mm2, mmV, nilckV, ress, res1, retV, Value.cells, reduceIte, reduceCtorEq, Int.reduceLT, Int.reduceLE, Int.reduceToNat, Int.reduceAdd, Int.reduceSub, Int.reduceMul, Int.reduceNeg, Nat.reduceMul, Nat.reduceAdd, Nat.reduceSub, Nat.reduceBEq, Nat.reduceEqDiff, Nat.reduceLT, Nat.reduceLeDiff, Int.reduceBEq, Int.reduceEq, Nat.reducePow, Int.reducePow, IntWalk.i64_in, IntKind.bits, eqAV, eqL, leafEq, andO, fillV, buildSV, Int.reduceGT, Int.reduceGE, Int.reduceBNe, IntWalk.u64_in, newsV_s, tassV, isnV, slcV, slcAV, slcTV, slcB, appNew, Option.bind_some, Option.bind_none, eqsV, lookV, mupdV, mdelV, mkM, ev1, ev2]
  generalize hX : exec B _ _ (LC.loop _) _ = o
  have hO : Ok o (fun x s => s.H = H ∧ s.N = N ∧ s.t.length = 26 ∧ ((x = .exit 0 ∧ L = M) ∨ (x = .ret ∧ gt s.t 4 = .bool false ∧ L ≠ M))) := by
    rw [← hX]
    refine loop_rule (n0 := 60) (fun k s => ∃ ts, ∃ i : Nat, s = ⟨ts, H, N⟩ ∧ Kref05Writes v w L.length i ts ∧ (∀ q, q < i → L.getD q y2 = M.getD q y2) ∧ i ≤ L.length ∧ k = L.length - i) _ ?_ L.length _ ⟨_, 0, rfl, ⟨rfl, rfl, rfl, rfl⟩, fun q hq => by omega, by omega, rfl⟩ _ (by omega)
    rintro n k s ⟨ts, i, rfl, kp, hq, hi, rfl⟩
    have hc1 : ((i + 1 : Nat) : Int) = (i : Int) + 1 := by omega
    by_cases h : i < L.length
    · have h' : (i : Int) < (L.length : Int) := by omega
      have hm' : i < M.length := by omega
      have i0 : (0 : Int) ≤ (i : Int) := by omega
      obtain ⟨bv, ov, cv, rfl, _, rv⟩ := hv.at (by omega)
      obtain ⟨bw, ow, cw, rfl, _, rw'⟩ := hw.at (by omega)
      have rv := SlR.read rv w2_len (Fr.refl (H := H)) y2 h
      have rw' := SlR.read rw' w2_len (Fr.refl (H := H)) y2 hm'
      by_cases he : L.getD i y2 = M.getD i y2
      · rw [← he] at rw'
        generalize L.getD i y2 = a at rv rw'
        simp only [w2, Nat.mul_one] at rv rw'
        simp -implicitDefEqProofs (maxSteps := 10000000) (disch := omega) only [Tref05Writes, Lref05Writes, hB, hR, hI, kp.l, kp.t0, kp.t1, kp.t5, lenV_sl, Int.toNat_natCast, bft, btf, gtst, st_len, h', h, hm', i0, hlv, hlw, rv, rw', Nat.mul_one, bne_self_eq_false, pad, lightV, bt, bf, evs, gt, st, binV, arith, isSh, storeV, all1, idxAV, fieldV, faddrV, iaddrSV, iaddrAV, pickV, convV, unV, eqbV, eqpV, extV, mm2, mmV, nilckV, ress, res1, retV, Value.cells, reduceIte, reduceCtorEq, Int.reduceLT, Int.reduceLE, Int.reduceToNat, Int.reduceAdd, Int.reduceSub, Int.reduceMul, Int.reduceNeg, Nat.reduceMul, Nat.reduceAdd, Nat.reduceSub, Nat.reduceBEq, Nat.reduceEqDiff, Nat.reduceLT, Nat.reduceLeDiff, Int.reduceBEq, Int.reduceEq, Nat.reducePow, Int.reducePow, IntWalk.i64_in, IntKind.bits, eqAV, eqL, leafEq, andO, fillV, buildSV, Int.reduceGT, Int.reduceGE, Int.reduceBNe, IntWalk.u64_in, newsV_s, tassV, isnV, slcV, slcAV, slcTV, slcB, appNew, Option.bind_some, Option.bind_none, eqsV, lookV, mupdV, mdelV, mkM, ev1, ev2]
        refine ok_some (.inl ⟨rfl, L.length - (i + 1), by omega, _, i + 1, rfl, ⟨?_, ?_, ?_, ?_⟩, fun q hq' => ?_, by omega, rfl⟩)
        rotate_right
        · rcases Nat.lt_or_ge q i with h1 | h1
          · exact hq q h1
          · obtain rfl : q = i := by omega
            exact he
        all_goals simp (maxSteps := 10000000) (disch := omega) only [kp.l, kp.t0, kp.t1, kp.t5, lenV_sl, Int.toNat_natCast, bft, btf, gtst, st_len, hc1, Nat.reduceAdd, Int.cast_ofNat_Int, cond_true, cond_false, Nat.reduceBEq, Nat.reduceLT, decide_true, beq_self_eq_true, if_true, if_false]
      · have hne : L ≠ M := fun e => he (by rw [e])
        generalize L.getD i y2 = a at rv he
        generalize M.getD i y2 = b at rw' he
        have hab := neW he
        simp only [w2, Nat.mul_one] at rv rw'
        simp -implicitDefEqProofs (maxSteps := 10000000) (disch := omega) only [Tref05Writes, Lref05Writes, hB, hR, hI, kp.l, kp.t0, kp.t1, kp.t5, lenV_sl, Int.toNat_natCast, bft, btf, gtst, st_len, h', h, hm', i0, hlv, hlw, rv, rw', hab, Nat.mul_one, pad, lightV, bt, bf, evs, gt, st, binV, arith, isSh, storeV, all1, idxAV, fieldV, faddrV, iaddrSV, iaddrAV, pickV, convV, unV, eqbV, eqpV, extV, mm2, mmV, nilckV, ress, res1, retV, Value.cells, reduceIte, reduceCtorEq, Int.reduceLT, Int.reduceLE, Int.reduceToNat, Int.reduceAdd, Int.reduceSub, Int.reduceMul, Int.reduceNeg, Nat.reduceMul, Nat.reduceAdd, Nat.reduceSub, Nat.reduceBEq, Nat.reduceEqDiff, Nat.reduceLT, Nat.reduceLeDiff, Int.reduceBEq, Int.reduceEq, Nat.reducePow, Int.reducePow, IntWalk.i64_in, IntKind.bits, eqAV, eqL, leafEq, andO, fillV, buildSV, Int.reduceGT, Int.reduceGE, Int.reduceBNe, IntWalk.u64_in, newsV_s, tassV, isnV, slcV, slcAV, slcTV, slcB, appNew, Option.bind_some, Option.bind_none, eqsV, lookV, mupdV, mdelV, mkM, ev1, ev2]
        refine ok_some (.inr ⟨by simp, rfl, rfl, ?_, .inr ⟨rfl, ?_, hne⟩⟩)
        all_goals simp (maxSteps := 10000000) (disch := omega) only [kp.l, kp.t0, kp.t1, kp.t5, lenV_sl, Int.toNat_natCast, bft, btf, gtst, st_len, Nat.reduceAdd, Int.cast_ofNat_Int, cond_true, cond_false, Nat.reduceBEq, Nat.reduceLT, decide_true, beq_self_eq_true, if_true, if_false]
    · simp -implicitDefEqProofs (maxSteps := 10000000) (disch := omega) only [Tref05Writes, Lref05Writes, hB, hR, hI, kp.l, kp.t0, kp.t1, kp.t5, lenV_sl, Int.toNat_natCast, bft, btf, gtst, st_len, h, show ¬ (i : Int) < (L.length : Int) by omega, hlv, pad, lightV, bt, bf, evs, gt, st, binV, arith, isSh, storeV, all1, idxAV, fieldV, faddrV, iaddrSV, iaddrAV, pickV, convV, unV, eqbV, eqpV, extV, mm2, mmV, nilckV, ress, res1, retV, Value.cells, reduceIte, reduceCtorEq, Int.reduceLT, Int.reduceLE, Int.reduceToNat, Int.reduceAdd, Int.reduceSub, Int.reduceMul, Int.reduceNeg, Nat.reduceMul, Nat.reduceAdd, Nat.reduceSub, Nat.reduceBEq, Nat.reduceEqDiff, Nat.reduceLT, Nat.reduceLeDiff, Int.reduceBEq, Int.reduceEq, Nat.reducePow, Int.reducePow, IntWalk.i64_in, IntKind.bits, eqAV, eqL, leafEq, andO, fillV, buildSV, Int.reduceGT, Int.reduceGE, Int.reduceBNe, IntWalk.u64_in, newsV_s, tassV, isnV, slcV, slcAV, slcTV, slcB, appNew, Option.bind_some, Option.bind_none, eqsV, lookV, mupdV, mdelV, mkM, ev1, ev2]
      refine ok_some (.inr ⟨by simp, rfl, rfl, ?_, .inl ⟨rfl, ?_⟩⟩)
      · simp -implicitDefEqProofs (maxSteps := 10000000) (disch := omega) only [Tref05Writes, Lref05Writes, hB, hR, hI, kp.l, kp.t0, kp.t1, kp.t5, lenV_sl, Int.toNat_natCast, bft, btf, gtst, st_len, pad, lightV, bt, bf, evs, gt, st, binV, arith, isSh, storeV, all1, idxAV, fieldV, faddrV, iaddrSV, iaddrAV, pickV, convV, unV, eqbV, eqpV, extV, mm2, mmV, nilckV, ress, res1, retV, Value.cells, reduceIte, reduceCtorEq, Int.reduceLT, Int.reduceLE, Int.reduceToNat, Int.reduceAdd, Int.reduceSub, Int.reduceMul, Int.reduceNeg, Nat.reduceMul, Nat.reduceAdd, Nat.reduceSub, Nat.reduceBEq, Nat.reduceEqDiff, Nat.reduceLT, Nat.reduceLeDiff, Int.reduceBEq, Int.reduceEq, Nat.reducePow, Int.reducePow, IntWalk.i64_in, IntKind.bits, eqAV, eqL, leafEq, andO, fillV, buildSV, Int.reduceGT, Int.reduceGE, Int.reduceBNe, IntWalk.u64_in, newsV_s, tassV, isnV, slcV, slcAV, slcTV, slcB, appNew, Option.bind_some, Option.bind_none, eqsV, lookV, mupdV, mdelV, mkM, ev1, ev2]
      · refine List.ext_getElem? fun q => ?_
        rcases Nat.lt_or_ge q i with h1 | h1
        · rw [some_getD (d := y2) (by omega : q < L.length), some_getD (d := y2) (by omega : q < M.length), hq q h1]
        · rw [List.getElem?_eq_none (by omega), List.getElem?_eq_none (by omega)]
  obtain ⟨x, ⟨ts, H1, N1⟩, rfl, rfl, rfl, hl2, hr⟩ := hO
  simp only at hl2
  rcases hr with ⟨rfl, he⟩ | ⟨rfl, h4, hne⟩
  · rw [decide_eq_true he]
    simp -implicitDefEqProofs (maxSteps := 10000000) (disch := omega) only [Tref05Writes, Lref05Writes, hB, hR, hI, hl2, lenV_sl, Int.toNat_natCast, bft, btf, gtst, st_len, pad, lightV, bt, bf, evs, gt, st, binV, arith, isSh, storeV, all1, idxAV, fieldV, faddrV, iaddrSV, iaddrAV, pickV, convV, unV, eqbV, eqpV, extV, mm2, mmV, nilckV, ress, res1, retV, Value.cells, reduceIte, reduceCtorEq, Int.reduceLT, Int.reduceLE, Int.reduceToNat, Int.reduceAdd, Int.reduceSub, Int.reduceMul, Int.reduceNeg, Nat.reduceMul, Nat.reduceAdd, Nat.reduceSub, Nat.reduceBEq, Nat.reduceEqDiff, Nat.reduceLT, Nat.reduceLeDiff, Int.reduceBEq, Int.reduceEq, Nat.reducePow, Int.reducePow, IntWalk.i64_in, IntKind.bits, eqAV, eqL, leafEq, andO, fillV, buildSV, Int.reduceGT, Int.reduceGE, Int.reduceBNe, IntWalk.u64_in, newsV_s, tassV, isnV, slcV, slcAV, slcTV, slcB, appNew, Option.bind_some, Option.bind_none, eqsV, lookV, mupdV, mdelV, mkM, ev1, ev2]
  · rw [decide_eq_false hne]
    simp only at h4
    simp -implicitDefEqProofs (maxSteps := 10000000) (disch := omega) only [Tref05Writes, Lref05Writes, hB, hR, hI, hl2, h4, lenV_sl, Int.toNat_natCast, bft, btf, gtst, st_len, pad, lightV, bt, bf, evs, gt, st, binV, arith, isSh, storeV, all1, idxAV, fieldV, faddrV, iaddrSV, iaddrAV, pickV, convV, unV, eqbV, eqpV, extV, mm2, mmV, nilckV, ress, res1, retV, Value.cells, reduceIte, reduceCtorEq, Int.reduceLT, Int.reduceLE, Int.reduceToNat, Int.reduceAdd, Int.reduceSub, Int.reduceMul, Int.reduceNeg, Nat.reduceMul, Nat.reduceAdd, Nat.reduceSub, Nat.reduceBEq, Nat.reduceEqDiff, Nat.reduceLT, Nat.reduceLeDiff, Int.reduceBEq, Int.reduceEq, Nat.reducePow, Int.reducePow, IntWalk.i64_in, IntKind.bits, eqAV, eqL, leafEq, andO, fillV, buildSV, Int.reduceGT, Int.reduceGE, Int.reduceBNe, IntWalk.u64_in, newsV_s, tassV, isnV, slcV, slcAV, slcTV, slcB, appNew, Option.bind_some, Option.bind_none, eqsV, lookV, mupdV, mdelV, mkM, ev1, ev2]
/-- whitewash/whitewashref03.New -/
def Lref03New : FnL := ⟨(.seq (.ops [⟨(some 2), .alloc [(.slice none 0 0)], none⟩, ⟨(some 3), .mv (.const (.int .i64 0)), none⟩])
 (.seq (.seq (.ops [⟨(some 4), .mv (.tmp 0), none⟩, ⟨(some 5), .bin .lss (.tmp 4) (.const (.int .i64 0)), none⟩, ⟨(some 6), .mv (.tmp 5), none⟩, ⟨(some 7), .mv (.tmp 0), (some (6, false))⟩, ⟨(some 8), .bin .gtr (.tmp 7) (.const (.int .i64 1048576)), (some (6, false))⟩, ⟨(some 9), .pick (.tmp 6) (.const (.bool true)) (.tmp 8), none⟩])
 (.cond (.tmp 9) (.seq (.ops [⟨(some 10), .build [(.slice none 0 0)] [], none⟩, ⟨none, .store 1 (.tmp 2) (.tmp 10), none⟩, ⟨(some 3), .mv (.const (.int .i64 1)), none⟩])
 .ret)
 .skip))
 (.seq (.ops [⟨(some 11), .mv (.tmp 0), none⟩, ⟨(some 12), .mks [(.int .u64 0), (.int .i64 0)] 16 (.tmp 11) (.tmp 11), none⟩, ⟨(some 13), .build [(.slice none 0 0)] [(0, 1, (.tmp 12))], none⟩, ⟨none, .store 1 (.tmp 2) (.tmp 13), none⟩, ⟨(some 3), .mv (.const (.int .i64 0)), none⟩])
 .ret))),
 14, [.cell 2 true 1, .tmp 3]⟩
theorem lowref03New : lowerFn Tryd.prog Tryd.f36 = some Lref03New := by kernel_rfl
noncomputable def Gref03New (B : OH) : Nat → Cs
  | _ => fun _ _ _ => none
theorem sGref03New {w0 : World} {B : OH} : SoundG Tryd.prog w0 B { f := Gref03New B } := .of fun k => by
  unfold Gref03New
  split
  · exact .inl fun _ _ _ => rfl
theorem enref03New : Enter Tryd.prog 36 := .of Tryd.func36 (by kernel_rfl) (by kernel_rfl)
noncomputable def Tref03New (B : OH) : Cs := callF B { f := Gref03New B } 1000000 Lref03New
theorem sTref03New {w0 : World} {B : OH} : SoundC Tryd.prog w0 B 36 (Tref03New B) := callF_sound mixedOrders sGref03New 1000000 Tryd.func36 lowref03New
noncomputable def Vref03New (B : OH) : Cs := Tref03New B
theorem sVref03New {w0 : World} {B : OH} : SoundC Tryd.prog w0 B 36 (Vref03New B) := sTref03New
theorem mnew {B : OH} {H : HL} {N : St} (hN : good B H N) {n : Nat} (hn : n ≤ 1048576) : ∃ v H' N', Vref03New B [.int .i64 (n : Int)] H N = some (.ret (.tuple #[.agg #[v], .int .i64 0]), H', N') ∧ good B H' N' ∧ Fr H H' ∧ SlN c2 2 B H H' v (List.replicate n z2) := by
  have hB := good_B hN
  have hR := good_rdB hN
  have hI := beqN hN.1.1
  have n1 : ¬ (n : Int) < 0 := by omega
  have n2 : ¬ (n : Int) > 1048576 := by omega
  have n3 : (0 : Int) ≤ (n : Int) := by omega
  have n4 : (n : Int) ≤ (n : Int) := Int.le_refl _
  have n5 : (n : Int) ≤ 140737488355328 := by omega
  have n6 : (16 : Int) * (n : Int) ≤ 140737488355328 := by omega
  unfold Vref03New
  simp -implicitDefEqProofs (maxSteps := 10000000) (disch := omega) only [Tref03New, Lref03New, hB, hR, hI, lenV_sl, Int.toNat_natCast, bft, btf, gtst, st_len, n1, n2, n3, n4, n5, n6, rep_c2, pad, lightV, bt, bf, evs, gt, st, binV, arith, isSh, storeV, all1, idxAV, fieldV, faddrV, iaddrSV, iaddrAV, pickV, convV, unV, eqbV, eqpV, extV, mm2, mmV, nilckV, ress, res1, retV, Value.cells, reduceIte, reduceCtorEq, Int.reduceLT, Int.reduceLE, Int.reduceToNat, Int.reduceAdd, Int.reduceSub, Int.reduceMul, Int.reduceNeg, Nat.reduceMul, Nat.reduceAdd, Nat.reduceSub, Nat.reduceBEq, Nat.reduceEqDiff, Nat.reduceLT, Nat.reduceLeDiff, Int.reduceBEq, Int.reduceEq, Nat.reducePow, Int.reducePow, IntWalk.i64_in, IntKind.bits, eqAV, eqL, leafEq, andO, fillV, buildSV, Int.reduceGT, Int.reduceGE, Int.reduceBNe, IntWalk.u64_in, newsV_s, tassV, isnV, slcV, slcAV, slcTV, slcB, appNew, Option.bind_some, Option.bind_none, eqsV, lookV, mupdV, mdelV, mkM, ev1, ev2]
  refine ⟨_, _, _, rfl, ?_, ?_, .inr ⟨N.n 1, n, by rw [List.length_replicate], hB 1, lk_N hN 1, by rw [List.length_replicate]; exact Nat.le_refl _, ?_⟩⟩
  · exact good_new (good_new hN)
  · exact fr_new (good_new hN) (fr_new hN Fr.refl 0) 0
  · simp -implicitDefEqProofs (maxSteps := 10000000) (disch := omega) only [Tref03New, Lref03New, hB, hR, hI, hB, pad, lightV, bt, bf, evs, gt, st, binV, arith, isSh, storeV, all1, idxAV, fieldV, faddrV, iaddrSV, iaddrAV, pickV, convV, unV, eqbV, eqpV, extV, mm2, mmV, nilckV, ress, res1, retV, Value.cells, reduceIte, reduceCtorEq, Int.reduceLT, Int.reduceLE, Int.reduceToNat, Int.reduceAdd, Int.reduceSub, Int.reduceMul, Int.reduceNeg, Nat.reduceMul, Nat.reduceAdd, Nat.reduceSub, Nat.reduceBEq, Nat.reduceEqDiff, Nat.reduceLT, Nat.reduceLeDiff, Int.reduceBEq, Int.reduceEq, Nat.reducePow, Int.reducePow, IntWalk.i64_in, IntKind.bits, eqAV, eqL, leafEq, andO, fillV, buildSV, Int.reduceGT, Int.reduceGE, Int.reduceBNe, IntWalk.u64_in, newsV_s, tassV, isnV, slcV, slcAV, slcTV, slcB, appNew, Option.bind_some, Option.bind_none, eqsV, lookV, mupdV, mdelV, mkM, ev1, ev2]
/-- whitewash/whitewashref03.Own -/
def Lref03Own : FnL := ⟨(.seq (.ops [⟨(some 1), .box (.tmp 0), none⟩, ⟨(some 2), .alloc [(.slice none 0 0)], none⟩])
 (.seq (.ops [⟨(some 3), .faddr 0 (.tmp 1), none⟩, ⟨(some 4), .load false 1 (.tmp 3), none⟩, ⟨(some 5), .app [(.int .u64 0), (.int .i64 0)] 16 (.const (.slice none 0 0)) (.tmp 4), none⟩, ⟨(some 6), .build [(.slice none 0 0)] [(0, 1, (.tmp 5))], none⟩, ⟨none, .store 1 (.tmp 2) (.tmp 6), none⟩])
 .ret)),
 7, [.cell 2 true 1]⟩
theorem lowref03Own : lowerFn Tryd.prog Tryd.f49 = some Lref03Own := by kernel_rfl
noncomputable def Gref03Own (B : OH) : Nat → Cs
  | _ => fun _ _ _ => none
theorem sGref03Own {w0 : World} {B : OH} : SoundG Tryd.prog w0 B { f := Gref03Own B } := .of fun k => by
  unfold Gref03Own
  split
  · exact .inl fun _ _ _ => rfl
theorem enref03Own : Enter Tryd.prog 49 := .of Tryd.func49 (by kernel_rfl) (by kernel_rfl)
noncomputable def Tref03Own (B : OH) : Cs := callF B { f := Gref03Own B } 1000000 Lref03Own
theorem sTref03Own {w0 : World} {B : OH} : SoundC Tryd.prog w0 B 49 (Tref03Own B) := callF_sound mixedOrders sGref03Own 1000000 Tryd.func49 lowref03Own
noncomputable def Vref03Own (B : OH) : Cs := Tref03Own B
theorem sVref03Own {w0 : World} {B : OH} : SoundC Tryd.prog w0 B 49 (Vref03Own B) := sTref03Own
theorem own {B : OH} {H : HL} {N : St} {v : Value} {L : List C2} (hN : good B H N) (hv : SlW c2 2 B H v L) (hL : L.length ≤ 900000) : ∃ v' H' N', Vref03Own B [.agg #[v]] H N = some (.ret (.agg #[v']), H', N') ∧ good B H' N' ∧ Fr H H' ∧ SlM c2 2 B H H' v' L := by
  have hB := good_B hN
  have hR := good_rdB hN
  have hI := beqN hN.1.1
  have g1 : good B ((N.n 0, .cells [v] 1) :: H) (sh N) := good_new hN
  have f1 : Fr H ((N.n 0, .cells [v] 1) :: H) := fr_new hN Fr.refl 0
  have g2 : good B (((sh N).n 0, .cells [.slice none 0 0] 1) :: (N.n 0, .cells [v] 1) :: H) (sh (sh N)) := good_new g1
  have f2 : Fr H (((sh N).n 0, .cells [.slice none 0 0] 1) :: (N.n 0, .cells [v] 1) :: H) := fr_new g1 f1 0
  obtain ⟨v4, H4, N4, e4, g4, r4, fs, s4, hb⟩ := app_many (H0 := H) (bytes := 16) (v := .slice none 0 0) (L := ([] : List C2)) c2_len (by omega) g2 f2 (.inl ⟨rfl, rfl⟩) (hv.mono f2) (all1_c2 _) (by simp only [List.length_nil]; omega) (by simp only [List.length_nil]; omega)
  rw [List.nil_append] at s4
  have l1 : lk H4 ((sh N).n 0) = some (.cells [.slice none 0 0] 1) := fs _ _ (by simp [slB]) lk_top
  obtain ⟨a, c, rfl, _⟩ := id hv
  simp only [sh_app] at e4 l1
  have hb1 := hB 1
  have rb1 := fun o n => rdB_none (o := o) (n := n) hb1
  have hw := s4.rd c2_len
  obtain ⟨a4, c4, rfl, _⟩ := id hw
  unfold Vref03Own
  simp -implicitDefEqProofs (maxSteps := 10000000) (disch := omega) only [Tref03Own, Lref03Own, hB, hR, hI, lenV_sl, Int.toNat_natCast, bft, btf, gtst, st_len, e4, l1, hb1, rb1, pad, lightV, bt, bf, evs, gt, st, binV, arith, isSh, storeV, all1, idxAV, fieldV, faddrV, iaddrSV, iaddrAV, pickV, convV, unV, eqbV, eqpV, extV, mm2, mmV, nilckV, ress, res1, retV, Value.cells, reduceIte, reduceCtorEq, Int.reduceLT, Int.reduceLE, Int.reduceToNat, Int.reduceAdd, Int.reduceSub, Int.reduceMul, Int.reduceNeg, Nat.reduceMul, Nat.reduceAdd, Nat.reduceSub, Nat.reduceBEq, Nat.reduceEqDiff, Nat.reduceLT, Nat.reduceLeDiff, Int.reduceBEq, Int.reduceEq, Nat.reducePow, Int.reducePow, IntWalk.i64_in, IntKind.bits, eqAV, eqL, leafEq, andO, fillV, buildSV, Int.reduceGT, Int.reduceGE, Int.reduceBNe, IntWalk.u64_in, tassV, isnV, slcV, slcAV, slcTV, slcB, appNew, Option.bind_some, Option.bind_none, eqsV, lookV, mupdV, mdelV, mkM, ev1, ev2]
  have gu := good_up (k := .cells [.slice a4 L.length c4] 1) g4 hb1 l1
  have fu : Fr H (upH H4 (N.n 1) (.cells [.slice a4 L.length c4] 1)) := fr_up r4 (lk_N hN 1)
  refine ⟨_, _, _, rfl, gu, fu, s4.mono fun y c hy e => ?_⟩
  have hne : (y == N.n 1) = false := by
    cases h : y == N.n 1 with
    | false => rfl
    | true =>
      have hy1 : y = N.n 1 := by simpa using h
      have hy0 : slB (.slice a4 L.length c4) = some (N.n 1) := by rw [hy, hy1]
      rcases hb with hb | hb
      · rw [hy0] at hb; simp [slB] at hb
      · rw [hy0] at hb
        have := hI 1 2
        have h3 : N.n 1 = N.n 2 := by simpa [sh_app] using hb
        rw [h3] at this; simp at this
  rw [lk_upH, hne, cond_false]; exact e
end Go.Proofs.YtfhiplfagejfoaaDoor
namespace Go.Proofs.YtfhiplfagejfoaaDoor
open Go.Proofs.YtfhiplfagejfoaaDoor.K Go.ChangeShapes Go.WideShapes Go.ChangeAt Go.RowKit 
set_option maxRecDepth 100000
set_option linter.unusedSimpArgs false
set_option linter.unusedVariables false
/-- whitewash/whitewashref03.Same -/
def Lref03Same : FnL := ⟨(.seq (.ops [⟨(some 2), .box (.tmp 0), none⟩, ⟨(some 3), .box (.tmp 1), none⟩, ⟨(some 4), .mv (.const (.bool false)), none⟩])
 (.seq (.seq (.ops [⟨(some 6), .faddr 0 (.tmp 2), none⟩, ⟨(some 7), .load false 1 (.tmp 6), none⟩, ⟨(some 8), .len false (.tmp 7), none⟩, ⟨(some 9), .faddr 0 (.tmp 3), none⟩, ⟨(some 10), .load false 1 (.tmp 9), none⟩, ⟨(some 11), .len false (.tmp 10), none⟩, ⟨(some 12), .bin .neq (.tmp 8) (.tmp 11), none⟩])
 (.cond (.tmp 12) (.seq (.ops [⟨(some 4), .mv (.const (.bool false)), none⟩])
 .ret)
 .skip))
 (.seq (.seq (.ops [⟨(some 5), .mv (.const (.int .i64 0)), none⟩])
 (.block 0 (.loop (.seq (.seq (.ops [⟨(some 13), .mv (.tmp 5), none⟩, ⟨(some 14), .faddr 0 (.tmp 2), none⟩, ⟨(some 15), .load false 1 (.tmp 14), none⟩, ⟨(some 16), .len false (.tmp 15), none⟩, ⟨(some 17), .bin .lss (.tmp 13) (.tmp 16), none⟩])
 (.cond (.tmp 17) .skip
 (.exit 0)))
 (.seq (.block 1 (.seq (.draw [⟨⟨(some 20), .faddr 0 (.tmp 2), none⟩, []⟩, ⟨⟨(some 21), .load false 1 (.tmp 20), none⟩, []⟩, ⟨⟨(some 22), .mv (.tmp 5), none⟩, []⟩, ⟨⟨(some 23), .iaddrS 2 (.tmp 21) (.tmp 22), none⟩, []⟩, ⟨⟨(some 24), .load true 2 (.tmp 23), none⟩, []⟩, ⟨⟨(some 25), .faddr 0 (.tmp 3), none⟩, []⟩, ⟨⟨(some 26), .load false 1 (.tmp 25), none⟩, []⟩, ⟨⟨(some 27), .mv (.tmp 5), none⟩, []⟩, ⟨⟨(some 28), .iaddrS 2 (.tmp 26) (.tmp 27), none⟩, []⟩, ⟨⟨(some 29), .load true 2 (.tmp 28), none⟩, []⟩, ⟨⟨(some 30), .eqA true [.int, .int] (.tmp 24) (.tmp 29), none⟩, []⟩])
 (.cond (.tmp 30) (.seq (.ops [⟨(some 4), .mv (.const (.bool false)), none⟩])
 .ret)
 .skip)))
 (.ops [⟨(some 18), .mv (.tmp 5), none⟩, ⟨(some 19), .bin .add (.tmp 18) (.const (.int .i64 1)), none⟩, ⟨(some 5), .mv (.tmp 19), none⟩]))))))
 (.seq (.ops [⟨(some 4), .mv (.const (.bool true)), none⟩])
 .ret)))),
 31, [.tmp 4]⟩
theorem lowref03Same : lowerFn Tryd.prog Tryd.f28 = some Lref03Same := by kernel_rfl
noncomputable def Gref03Same (B : OH) : Nat → Cs
  | _ => fun _ _ _ => none
theorem sGref03Same {w0 : World} {B : OH} : SoundG Tryd.prog w0 B { f := Gref03Same B } := .of fun k => by
  unfold Gref03Same
  split
  · exact .inl fun _ _ _ => rfl
theorem enref03Same : Enter Tryd.prog 28 := .of Tryd.func28 (by kernel_rfl) (by kernel_rfl)
noncomputable def Tref03Same (B : OH) : Cs := callF B { f := Gref03Same B } 1000000 Lref03Same
theorem sTref03Same {w0 : World} {B : OH} : SoundC Tryd.prog w0 B 28 (Tref03Same B) := callF_sound mixedOrders sGref03Same 1000000 Tryd.func28 lowref03Same
noncomputable def Vref03Same (B : OH) : Cs := Tref03Same B
theorem sVref03Same {w0 : World} {B : OH} : SoundC Tryd.prog w0 B 28 (Vref03Same B) := sTref03Same
structure KSm (q r i : Nat) (ts : List Value) : Prop where
  l : ts.length = 31
  t2 : gt ts 2 = .pointer (some ⟨q, 0, none⟩)
  t3 : gt ts 3 = .pointer (some ⟨r, 0, none⟩)
  t5 : gt ts 5 = .int .i64 (i : Int)
def lbSm : LC := (.seq (.seq (.ops [⟨(some 13), .mv (.tmp 5), none⟩, ⟨(some 14), .faddr 0 (.tmp 2), none⟩, ⟨(some 15), .load false 1 (.tmp 14), none⟩, ⟨(some 16), .len false (.tmp 15), none⟩, ⟨(some 17), .bin .lss (.tmp 13) (.tmp 16), none⟩])
 (.cond (.tmp 17) .skip
 (.exit 0)))
 (.seq (.block 1 (.seq (.draw [⟨⟨(some 20), .faddr 0 (.tmp 2), none⟩, []⟩, ⟨⟨(some 21), .load false 1 (.tmp 20), none⟩, []⟩, ⟨⟨(some 22), .mv (.tmp 5), none⟩, []⟩, ⟨⟨(some 23), .iaddrS 2 (.tmp 21) (.tmp 22), none⟩, []⟩, ⟨⟨(some 24), .load true 2 (.tmp 23), none⟩, []⟩, ⟨⟨(some 25), .faddr 0 (.tmp 3), none⟩, []⟩, ⟨⟨(some 26), .load false 1 (.tmp 25), none⟩, []⟩, ⟨⟨(some 27), .mv (.tmp 5), none⟩, []⟩, ⟨⟨(some 28), .iaddrS 2 (.tmp 26) (.tmp 27), none⟩, []⟩, ⟨⟨(some 29), .load true 2 (.tmp 28), none⟩, []⟩, ⟨⟨(some 30), .eqA true [.int, .int] (.tmp 24) (.tmp 29), none⟩, []⟩])
 (.cond (.tmp 30) (.seq (.ops [⟨(some 4), .mv (.const (.bool false)), none⟩])
 .ret)
 .skip)))
 (.ops [⟨(some 18), .mv (.tmp 5), none⟩, ⟨(some 19), .bin .add (.tmp 18) (.const (.int .i64 1)), none⟩, ⟨(some 5), .mv (.tmp 19), none⟩])))
set_option maxHeartbeats 4000000 in
theorem loopSm {B : OH} {H : HL} {N : St} {v w : Value} {q r : Nat} {L M : List C2} (hN : good B H N) (hv : SlR c2 2 B H v L) (hw : SlR c2 2 B H w M) (hl : L.length = M.length) (hL : L.length ≤ 900000) (lq : lk H q = some (.cells [v] 1)) (lr : lk H r = some (.cells [w] 1)) (bq : B q = none) (br : B r = none) {ts : List Value} (kp : KSm q r 0 ts) {F : Nat} (hF : 60 + L.length + 1 ≤ F) :
    Ok (exec B { f := Gref03Same B } F (LC.loop lbSm) ⟨ts, H, N⟩) (fun x s => s.H = H ∧ s.N = N ∧ s.t.length = 31 ∧ ((x = .exit 0 ∧ L = M) ∨ (x = .ret ∧ gt s.t 4 = .bool false ∧ L ≠ M))) := by
  have hB := good_B hN
  have hR := good_rdB hN
  have hI := beqN hN.1.1
  have hlv := hv.len
  have hlw := hw.len
  have rq := fun o n => rdB_none (o := o) (n := n) bq
  have rr := fun o n => rdB_none (o := o) (n := n) br
  refine loop_rule (n0 := 60) (fun k s => ∃ ts, ∃ i : Nat, s = ⟨ts, H, N⟩ ∧ KSm q r i ts ∧ (∀ j, j < i → L.getD j z2 = M.getD j z2) ∧ i ≤ L.length ∧ k = L.length - i) _ ?_ L.length _ ⟨_, 0, rfl, kp, fun q hq => by omega, by omega, rfl⟩ _ hF
  clear kp hF F ts
  rintro n k s ⟨ts, i, rfl, kp, hq, hi, rfl⟩
  have hc1 : ((i + 1 : Nat) : Int) = (i : Int) + 1 := by omega
  by_cases h : i < L.length
  · have h' : (i : Int) < (L.length : Int) := by omega
    have hm' : i < M.length := by omega
    have i0 : (0 : Int) ≤ (i : Int) := by omega
    obtain ⟨bv, ov, cv, rfl, _, rv⟩ := hv.at (by omega)
    obtain ⟨bw, ow, cw, rfl, _, rw'⟩ := hw.at (by omega)
    have rv := SlR.read rv c2_len (Fr.refl (H := H)) z2 h
    have rw' := SlR.read rw' c2_len (Fr.refl (H := H)) z2 hm'
    by_cases he : L.getD i z2 = M.getD i z2
    · rw [← he] at rw'
      generalize L.getD i z2 = a at rv rw'
      simp only [c2] at rv rw'
      simp -implicitDefEqProofs (maxSteps := 10000000) (disch := omega) only [Tref03Same, Lref03Same, hB, hR, hI, lbSm, kp.l, kp.t2, kp.t3, kp.t5, lenV_sl, Int.toNat_natCast, bft, btf, gtst, st_len, h', h, hm', i0, hlv, hlw, rv, rw', lq, lr, bq, br, rq, rr, bne_self_eq_false, pad, lightV, bt, bf, evs, gt, st, binV, arith, isSh, storeV, all1, idxAV, fieldV, faddrV, iaddrSV, iaddrAV, pickV, convV, unV, eqbV, eqpV, extV, mm2, mmV, nilckV, ress, res1, retV, Value.cells, reduceIte, reduceCtorEq, Int.reduceLT, Int.reduceLE, Int.reduceToNat, Int.reduceAdd, Int.reduceSub, Int.reduceMul, Int.reduceNeg, Nat.reduceMul, Nat.reduceAdd, Nat.reduceSub, Nat.reduceBEq, Nat.reduceEqDiff, Nat.reduceLT, Nat.reduceLeDiff, Int.reduceBEq, Int.reduceEq, Nat.reducePow, Int.reducePow, IntWalk.i64_in, IntKind.bits, eqAV, eqL, leafEq, andO, fillV, buildSV, Int.reduceGT, Int.reduceGE, Int.reduceBNe, IntWalk.u64_in, newsV_s, tassV, isnV, slcV, slcAV, slcTV, slcB, appNew, Option.bind_some, Option.bind_none, eqsV, lookV, mupdV, mdelV, mkM, ev1, ev2]
      refine ok_some (.inl ⟨rfl, L.length - (i + 1), by omega, _, i + 1, rfl, ⟨?_, ?_, ?_, ?_⟩, fun q hq' => ?_, by omega, rfl⟩)
      rotate_right
      · rcases Nat.lt_or_ge q i with h1 | h1
        · exact hq q h1
        · obtain rfl : q = i := by omega
          exact he
      all_goals simp (maxSteps := 10000000) (disch := omega) only [kp.l, kp.t2, kp.t3, kp.t5, lenV_sl, Int.toNat_natCast, bft, btf, gtst, st_len, hc1, Nat.reduceAdd, Int.cast_ofNat_Int, cond_true, cond_false, Nat.reduceBEq, Nat.reduceLT, decide_true, beq_self_eq_true, if_true, if_false]
    · have hne : L ≠ M := fun e => he (by rw [e])
      generalize L.getD i z2 = a at rv he
      generalize M.getD i z2 = b at rw' he
      have hab := neC he
      simp only [c2] at rv rw'
      simp -implicitDefEqProofs (maxSteps := 10000000) (disch := omega) only [Tref03Same, Lref03Same, hB, hR, hI, lbSm, kp.l, kp.t2, kp.t3, kp.t5, lenV_sl, Int.toNat_natCast, bft, btf, gtst, st_len, h', h, hm', i0, hlv, hlw, rv, rw', lq, lr, bq, br, rq, rr, hab, pad, lightV, bt, bf, evs, gt, st, binV, arith, isSh, storeV, all1, idxAV, fieldV, faddrV, iaddrSV, iaddrAV, pickV, convV, unV, eqbV, eqpV, extV, mm2, mmV, nilckV, ress, res1, retV, Value.cells, reduceIte, reduceCtorEq, Int.reduceLT, Int.reduceLE, Int.reduceToNat, Int.reduceAdd, Int.reduceSub, Int.reduceMul, Int.reduceNeg, Nat.reduceMul, Nat.reduceAdd, Nat.reduceSub, Nat.reduceBEq, Nat.reduceEqDiff, Nat.reduceLT, Nat.reduceLeDiff, Int.reduceBEq, Int.reduceEq, Nat.reducePow, Int.reducePow, IntWalk.i64_in, IntKind.bits, eqAV, eqL, leafEq, andO, fillV, buildSV, Int.reduceGT, Int.reduceGE, Int.reduceBNe, IntWalk.u64_in, newsV_s, tassV, isnV, slcV, slcAV, slcTV, slcB, appNew, Option.bind_some, Option.bind_none, eqsV, lookV, mupdV, mdelV, mkM, ev1, ev2]
      refine ok_some (.inr ⟨by simp, rfl, rfl, ?_, .inr ⟨rfl, ?_, hne⟩⟩)
      all_goals simp (maxSteps := 10000000) (disch := omega) only [kp.l, kp.t2, kp.t3, kp.t5, lenV_sl, Int.toNat_natCast, bft, btf, gtst, st_len, Nat.reduceAdd, Int.cast_ofNat_Int, cond_true, cond_false, Nat.reduceBEq, Nat.reduceLT, decide_true, beq_self_eq_true, if_true, if_false]
  · have hvc : (v.cells) = #[v] := by obtain ⟨a, c, rfl, _⟩ := hv; rfl
    obtain ⟨a, c, rfl, _⟩ := id hv
    simp -implicitDefEqProofs (maxSteps := 10000000) (disch := omega) only [Tref03Same, Lref03Same, hB, hR, hI, lbSm, kp.l, kp.t2, kp.t3, kp.t5, lenV_sl, Int.toNat_natCast, bft, btf, gtst, st_len, h, show ¬ (i : Int) < (L.length : Int) by omega, hlv, lq, bq, rq, pad, lightV, bt, bf, evs, gt, st, binV, arith, isSh, storeV, all1, idxAV, fieldV, faddrV, iaddrSV, iaddrAV, pickV, convV, unV, eqbV, eqpV, extV, mm2, mmV, nilckV, ress, res1, retV, Value.cells, reduceIte, reduceCtorEq, Int.reduceLT, Int.reduceLE, Int.reduceToNat, Int.reduceAdd, Int.reduceSub, Int.reduceMul, Int.reduceNeg, Nat.reduceMul, Nat.reduceAdd, Nat.reduceSub, Nat.reduceBEq, Nat.reduceEqDiff, Nat.reduceLT, Nat.reduceLeDiff, Int.reduceBEq, Int.reduceEq, Nat.reducePow, Int.reducePow, IntWalk.i64_in, IntKind.bits, eqAV, eqL, leafEq, andO, fillV, buildSV, Int.reduceGT, Int.reduceGE, Int.reduceBNe, IntWalk.u64_in, newsV_s, tassV, isnV, slcV, slcAV, slcTV, slcB, appNew, Option.bind_some, Option.bind_none, eqsV, lookV, mupdV, mdelV, mkM, ev1, ev2]
    refine ok_some (.inr ⟨by simp, rfl, rfl, ?_, .inl ⟨rfl, ?_⟩⟩)
    · simp -implicitDefEqProofs (maxSteps := 10000000) (disch := omega) only [Tref03Same, Lref03Same, hB, hR, hI, lbSm, kp.l, kp.t2, kp.t3, kp.t5, lenV_sl, Int.toNat_natCast, bft, btf, gtst, st_len, pad, lightV, bt, bf, evs, gt, st, binV, arith, isSh, storeV, all1, idxAV, fieldV, faddrV, iaddrSV, iaddrAV, pickV, convV, unV, eqbV, eqpV, extV, mm2, mmV, nilckV, ress, res1, retV, Value.cells, reduceIte, reduceCtorEq, Int.reduceLT, Int.reduceLE, Int.reduceToNat, Int.reduceAdd, Int.reduceSub, Int.reduceMul, Int.reduceNeg, Nat.reduceMul, Nat.reduceAdd, Nat.reduceSub, Nat.reduceBEq, Nat.reduceEqDiff, Nat.reduceLT, Nat.reduceLeDiff, Int.reduceBEq, Int.reduceEq, Nat.reducePow, Int.reducePow, IntWalk.i64_in, IntKind.bits, eqAV, eqL, leafEq, andO, fillV, buildSV, Int.reduceGT, Int.reduceGE, Int.reduceBNe, IntWalk.u64_in, newsV_s, tassV, isnV, slcV, slcAV, slcTV, slcB, appNew, Option.bind_some, Option.bind_none, eqsV, lookV, mupdV, mdelV, mkM, ev1, ev2]
    · refine List.ext_getElem? fun q => ?_
      rcases Nat.lt_or_ge q i with h1 | h1
      · rw [some_getD (d := z2) (by omega : q < L.length), some_getD (d := z2) (by omega : q < M.length), hq q h1]
      · rw [List.getElem?_eq_none (by omega), List.getElem?_eq_none (by omega)]
set_option maxHeartbeats 4000000 in
theorem sameM {B : OH} {H : HL} {N : St} {v w : Value} {L M : List C2} (hN : good B H N) (hv : SlR c2 2 B H v L) (hw : SlR c2 2 B H w M) (hL : L.length ≤ 900000) : ∃ H' N', Vref03Same B [.agg #[v], .agg #[w]] H N = some (.ret (.bool (decide (L = M))), H', N') ∧ good B H' N' ∧ Fr H H' := by
  have hB := good_B hN
  have hR := good_rdB hN
  have hI := beqN hN.1.1
  have hlv := hv.len
  have hlw := hw.len
  obtain ⟨av, cv, rfl, _⟩ := id hv
  obtain ⟨aw, cw, rfl, _⟩ := id hw
  have g1 : good B ((N.n 0, .cells [.slice av L.length cv] 1) :: H) (sh N) := good_new hN
  have g2 : good B ((N.n 1, .cells [.slice aw M.length cw] 1) :: (N.n 0, .cells [.slice av L.length cv] 1) :: H) (sh (sh N)) := good_new g1
  have f2 : Fr H ((N.n 1, .cells [.slice aw M.length cw] 1) :: (N.n 0, .cells [.slice av L.length cv] 1) :: H) := fr_new g1 (fr_new hN Fr.refl 0) 0
  unfold Vref03Same
  by_cases hl : L.length = M.length
  case neg =>
    have hl' : ((L.length : Int) != (M.length : Int)) = true := by simp; omega
    have hd : decide (L = M) = false := decide_eq_false fun h => hl (by rw [h])
    rw [hd]
    simp -implicitDefEqProofs (maxSteps := 10000000) (disch := omega) only [Tref03Same, Lref03Same, hB, hR, hI, lenV_sl, Int.toNat_natCast, bft, btf, gtst, st_len, hl', pad, lightV, bt, bf, evs, gt, st, binV, arith, isSh, storeV, all1, idxAV, fieldV, faddrV, iaddrSV, iaddrAV, pickV, convV, unV, eqbV, eqpV, extV, mm2, mmV, nilckV, ress, res1, retV, Value.cells, reduceIte, reduceCtorEq, Int.reduceLT, Int.reduceLE, Int.reduceToNat, Int.reduceAdd, Int.reduceSub, Int.reduceMul, Int.reduceNeg, Nat.reduceMul, Nat.reduceAdd, Nat.reduceSub, Nat.reduceBEq, Nat.reduceEqDiff, Nat.reduceLT, Nat.reduceLeDiff, Int.reduceBEq, Int.reduceEq, Nat.reducePow, Int.reducePow, IntWalk.i64_in, IntKind.bits, eqAV, eqL, leafEq, andO, fillV, buildSV, Int.reduceGT, Int.reduceGE, Int.reduceBNe, IntWalk.u64_in, newsV_s, tassV, isnV, slcV, slcAV, slcTV, slcB, appNew, Option.bind_some, Option.bind_none, eqsV, lookV, mupdV, mdelV, mkM, ev1, ev2]
    exact ⟨_, _, rfl, g2, f2⟩
  have hl' : ((L.length : Int) != (M.length : Int)) = false := by simp; omega
  simp -implicitDefEqProofs (maxSteps := 10000000) (disch := omega) only [Tref03Same, Lref03Same, hB, hR, hI, lenV_sl, Int.toNat_natCast, bft, btf, gtst, st_len, hl', pad, lightV, bt, bf, evs, gt, st, binV, arith, isSh, storeV, all1, idxAV, fieldV, faddrV, iaddrSV, iaddrAV, pickV, convV, unV, eqbV, eqpV, extV, mm2, mmV, nilckV, ress, res1, retV, Value.cells, reduceIte, reduceCtorEq, Int.reduceLT, Int.reduceLE, Int.reduceToNat, Int.reduceAdd, Int.reduceSub, Int.reduceMul, Int.reduceNeg, Nat.reduceMul, Nat.reduceAdd, Nat.reduceSub, Nat.reduceBEq, Nat.reduceEqDiff, Nat.reduceLT, Nat.reduceLeDiff, Int.reduceBEq, Int.reduceEq, Nat.reducePow, Int.reducePow, IntWalk.i64_in, IntKind.bits, eqAV, eqL, leafEq, andO, fillV, buildSV, Int.reduceGT, Int.reduceGE, Int.reduceBNe, IntWalk.u64_in, newsV_s, tassV, isnV, slcV, slcAV, slcTV, slcB, appNew, Option.bind_some, Option.bind_none, eqsV, lookV, mupdV, mdelV, mkM, ev1, ev2]
  generalize hX : exec B _ _ (LC.loop _) _ = o
  obtain ⟨x, ⟨ts, H1, N1⟩, rfl, hHH, hNN, hl2, hr⟩ := (show Ok o _ by rw [← hX]; exact loopSm (L := L) (M := M) (q := N.n 0) (r := N.n 1) g2 (hv.mono f2) (hw.mono f2) hl hL (by rw [lk_cons, hI]; exact lk_top) lk_top (hB 0) (hB 1) ⟨rfl, rfl, rfl, rfl⟩ (by omega))
  simp only at hl2 hr hHH hNN
  subst hHH hNN
  rcases hr with ⟨rfl, he⟩ | ⟨rfl, h4, hne⟩
  · rw [decide_eq_true he]
    simp -implicitDefEqProofs (maxSteps := 10000000) (disch := omega) only [Tref03Same, Lref03Same, hB, hR, hI, hl2, lenV_sl, Int.toNat_natCast, bft, btf, gtst, st_len, pad, lightV, bt, bf, evs, gt, st, binV, arith, isSh, storeV, all1, idxAV, fieldV, faddrV, iaddrSV, iaddrAV, pickV, convV, unV, eqbV, eqpV, extV, mm2, mmV, nilckV, ress, res1, retV, Value.cells, reduceIte, reduceCtorEq, Int.reduceLT, Int.reduceLE, Int.reduceToNat, Int.reduceAdd, Int.reduceSub, Int.reduceMul, Int.reduceNeg, Nat.reduceMul, Nat.reduceAdd, Nat.reduceSub, Nat.reduceBEq, Nat.reduceEqDiff, Nat.reduceLT, Nat.reduceLeDiff, Int.reduceBEq, Int.reduceEq, Nat.reducePow, Int.reducePow, IntWalk.i64_in, IntKind.bits, eqAV, eqL, leafEq, andO, fillV, buildSV, Int.reduceGT, Int.reduceGE, Int.reduceBNe, IntWalk.u64_in, newsV_s, tassV, isnV, slcV, slcAV, slcTV, slcB, appNew, Option.bind_some, Option.bind_none, eqsV, lookV, mupdV, mdelV, mkM, ev1, ev2]
    exact ⟨_, _, rfl, g2, f2⟩
  · rw [decide_eq_false hne]
    simp -implicitDefEqProofs (maxSteps := 10000000) (disch := omega) only [Tref03Same, Lref03Same, hB, hR, hI, hl2, h4, lenV_sl, Int.toNat_natCast, bft, btf, gtst, st_len, pad, lightV, bt, bf, evs, gt, st, binV, arith, isSh, storeV, all1, idxAV, fieldV, faddrV, iaddrSV, iaddrAV, pickV, convV, unV, eqbV, eqpV, extV, mm2, mmV, nilckV, ress, res1, retV, Value.cells, reduceIte, reduceCtorEq, Int.reduceLT, Int.reduceLE, Int.reduceToNat, Int.reduceAdd, Int.reduceSub, Int.reduceMul, Int.reduceNeg, Nat.reduceMul, Nat.reduceAdd, Nat.reduceSub, Nat.reduceBEq, Nat.reduceEqDiff, Nat.reduceLT, Nat.reduceLeDiff, Int.reduceBEq, Int.reduceEq, Nat.reducePow, Int.reducePow, IntWalk.i64_in, IntKind.bits, eqAV, eqL, leafEq, andO, fillV, buildSV, Int.reduceGT, Int.reduceGE, Int.reduceBNe, IntWalk.u64_in, newsV_s, tassV, isnV, slcV, slcAV, slcTV, slcB, appNew, Option.bind_some, Option.bind_none, eqsV, lookV, mupdV, mdelV, mkM, ev1, ev2]
    exact ⟨_, _, rfl, g2, f2⟩
/-- slices.Clone[[]whitewash/api.Cell,whitewash/api.Cell] -/
def LslicesClone_CellCell : FnL := ⟨(.seq (.ops [⟨(some 2), .mv (.const (.slice none 0 0)), none⟩])
 (.seq (.seq (.ops [⟨(some 3), .mv (.tmp 0), none⟩, ⟨(some 4), .eqs false (.tmp 3) (.const (.slice none 0 0)), none⟩])
 (.cond (.tmp 4) (.seq (.ops [⟨(some 2), .mv (.const (.slice none 0 0)), none⟩])
 .ret)
 .skip))
 (.seq (.ops [⟨(some 5), .buildS [] 0 [], none⟩, ⟨(some 6), .mv (.tmp 0), none⟩, ⟨(some 7), .app [(.int .u64 0), (.int .i64 0)] 16 (.tmp 5) (.tmp 6), none⟩, ⟨(some 2), .mv (.tmp 7), none⟩])
 .ret))),
 8, [.tmp 2]⟩
theorem lowslicesClone_CellCell : lowerFn Tryd.prog Tryd.f50 = some LslicesClone_CellCell := by kernel_rfl
noncomputable def GslicesClone_CellCell (B : OH) : Nat → Cs
  | _ => fun _ _ _ => none
theorem sGslicesClone_CellCell {w0 : World} {B : OH} : SoundG Tryd.prog w0 B { f := GslicesClone_CellCell B } := .of fun k => by
  unfold GslicesClone_CellCell
  split
  · exact .inl fun _ _ _ => rfl
theorem enslicesClone_CellCell : Enter Tryd.prog 50 := .of Tryd.func50 (by kernel_rfl) (by kernel_rfl)
noncomputable def TslicesClone_CellCell (B : OH) : Cs := callF B { f := GslicesClone_CellCell B } 1000000 LslicesClone_CellCell
theorem sTslicesClone_CellCell {w0 : World} {B : OH} : SoundC Tryd.prog w0 B 50 (TslicesClone_CellCell B) := callF_sound mixedOrders sGslicesClone_CellCell 1000000 Tryd.func50 lowslicesClone_CellCell
noncomputable def VslicesClone_CellCell (B : OH) : Cs := TslicesClone_CellCell B
theorem sVslicesClone_CellCell {w0 : World} {B : OH} : SoundC Tryd.prog w0 B 50 (VslicesClone_CellCell B) := sTslicesClone_CellCell
theorem clone {B : OH} {H : HL} {N : St} {v : Value} {L : List C2} (hN : good B H N) (hv : SlW c2 2 B H v L) (hL : L.length ≤ 900000) : ∃ v' H' N', VslicesClone_CellCell B [v] H N = some (.ret v', H', N') ∧ good B H' N' ∧ Fr H H' ∧ SlM c2 2 B H H' v' L := by
  have hB := good_B hN
  have hR := good_rdB hN
  have hI := beqN hN.1.1
  obtain ⟨a, c, rfl, hc, hr⟩ := id hv
  unfold VslicesClone_CellCell
  cases a with
  | none =>
    have : L = [] := by
      rcases hr with h | ⟨b, o, h, _⟩
      · exact h
      · cases h
    subst this
    simp -implicitDefEqProofs (maxSteps := 10000000) (disch := omega) only [TslicesClone_CellCell, LslicesClone_CellCell, hB, hR, hI, lenV_sl, Int.toNat_natCast, bft, btf, gtst, st_len, pad, lightV, bt, bf, evs, gt, st, binV, arith, isSh, storeV, all1, idxAV, fieldV, faddrV, iaddrSV, iaddrAV, pickV, convV, unV, eqbV, eqpV, extV, mm2, mmV, nilckV, ress, res1, retV, Value.cells, reduceIte, reduceCtorEq, Int.reduceLT, Int.reduceLE, Int.reduceToNat, Int.reduceAdd, Int.reduceSub, Int.reduceMul, Int.reduceNeg, Nat.reduceMul, Nat.reduceAdd, Nat.reduceSub, Nat.reduceBEq, Nat.reduceEqDiff, Nat.reduceLT, Nat.reduceLeDiff, Int.reduceBEq, Int.reduceEq, Nat.reducePow, Int.reducePow, IntWalk.i64_in, IntKind.bits, eqAV, eqL, leafEq, andO, fillV, buildSV, Int.reduceGT, Int.reduceGE, Int.reduceBNe, IntWalk.u64_in, newsV_s, tassV, isnV, slcV, slcAV, slcTV, slcB, appNew, Option.bind_some, Option.bind_none, eqsV, lookV, mupdV, mdelV, mkM, ev1, ev2]
    exact ⟨_, _, _, rfl, hN, Fr.refl, .inl ⟨rfl, rfl⟩⟩
  | some a =>
    have g1 : good B ((N.n 0, .cells [] 0) :: H) (sh N) := good_new hN
    have f1 : Fr H ((N.n 0, .cells [] 0) :: H) := fr_new hN Fr.refl 0
    have s1 : SlM c2 2 B H ((N.n 0, .cells [] 0) :: H) (.slice (some ⟨N.n 0, 0, none⟩) 0 0) ([] : List C2) := .inr ⟨N.n 0, 0, [], rfl, hB 0, lk_N hN 0, Nat.le_refl _, lk_top⟩
    obtain ⟨v4, H4, N4, e4, g4, r4, fs, s4, hb⟩ := app_many (H0 := H) (bytes := 16) c2_len (by omega) g1 f1 s1 (hv.mono f1) (all1_c2 _) (by simp only [List.length_nil]; omega) (by simp only [List.length_nil]; omega)
    rw [List.nil_append] at s4
    simp -implicitDefEqProofs (maxSteps := 10000000) (disch := omega) only [TslicesClone_CellCell, LslicesClone_CellCell, hB, hR, hI, lenV_sl, Int.toNat_natCast, bft, btf, gtst, st_len, e4, pad, lightV, bt, bf, evs, gt, st, binV, arith, isSh, storeV, all1, idxAV, fieldV, faddrV, iaddrSV, iaddrAV, pickV, convV, unV, eqbV, eqpV, extV, mm2, mmV, nilckV, ress, res1, retV, Value.cells, reduceIte, reduceCtorEq, Int.reduceLT, Int.reduceLE, Int.reduceToNat, Int.reduceAdd, Int.reduceSub, Int.reduceMul, Int.reduceNeg, Nat.reduceMul, Nat.reduceAdd, Nat.reduceSub, Nat.reduceBEq, Nat.reduceEqDiff, Nat.reduceLT, Nat.reduceLeDiff, Int.reduceBEq, Int.reduceEq, Nat.reducePow, Int.reducePow, IntWalk.i64_in, IntKind.bits, eqAV, eqL, leafEq, andO, fillV, buildSV, Int.reduceGT, Int.reduceGE, Int.reduceBNe, IntWalk.u64_in, tassV, isnV, slcV, slcAV, slcTV, slcB, appNew, Option.bind_some, Option.bind_none, eqsV, lookV, mupdV, mdelV, mkM, ev1, ev2]
    exact ⟨_, _, _, rfl, g4, r4, s4⟩
/-- whitewash/cells.caught -/
def Lcellscaught : FnC := ⟨(some 5), (.block 0 (.seq (.ops [⟨(some 7), .isn false (.tmp 5), none⟩])
 (.cond (.tmp 7) (.ops [⟨(some 2), .mv (.tmp 5), none⟩])
 (.seq (.ops [⟨(some 8), .tass 125 (.agg #[(.int .i64 0)]) (.tmp 5), none⟩, ⟨(some 9), .ext (.tmp 8) 1, none⟩, ⟨(some 10), .ext (.tmp 8) 0, none⟩])
 (.cond (.tmp 9) (.seq (.ops [⟨(some 3), .alloc [(.int .i64 0)], none⟩, ⟨none, .store 1 (.tmp 3) (.tmp 10), none⟩])
 (.ops [⟨(some 11), .mv (.tmp 0), none⟩, ⟨(some 12), .faddr 0 (.tmp 3), none⟩, ⟨(some 13), .load false 1 (.tmp 12), none⟩, ⟨(some 14), .nilck (.tmp 11), none⟩, ⟨none, .store 1 (.tmp 14) (.tmp 13), none⟩]))
 (.seq (.ops [⟨(some 4), .mv (.tmp 5), none⟩])
 (.ops [⟨(some 6), .mv (.tmp 4), none⟩, ⟨none, .pan (.tmp 6), none⟩]))))))),
 15, []⟩
theorem lowcellscaught : lowerCaught Tryd.prog Tryd.f65 = some Lcellscaught := by kernel_rfl
noncomputable def Gcellscaught (B : OH) : Nat → Cs
  | _ => fun _ _ _ => none
theorem sGcellscaught {w0 : World} {B : OH} : SoundG Tryd.prog w0 B { f := Gcellscaught B } := .of fun k => by
  unfold Gcellscaught
  split
  · exact .inl fun _ _ _ => rfl
noncomputable def Ucellscaught (B : OH) : Ds := callC B { f := Gcellscaught B } 80 Lcellscaught
theorem encellscaught : Enter Tryd.prog 65 := .of Tryd.func65 (by kernel_rfl) (by kernel_rfl)
theorem sUcellscaught {w0 : World} {B : OH} : SoundD Tryd.prog w0 B 65 (Ucellscaught B) := callC_sound mixedOrders sGcellscaught 80 Tryd.func65 lowcellscaught
/-- whitewash/cells.place[whitewash/api.Cell] -/
def Lcellsplace_Cell : FnL := ⟨(.seq (.ops [⟨(some 4), .mv (.const (.pointer none)), none⟩])
 (.seq (.seq (.ops [⟨(some 5), .mv (.tmp 1), none⟩, ⟨(some 6), .bin .lss (.tmp 5) (.const (.int .i64 0)), none⟩, ⟨(some 7), .mv (.tmp 6), none⟩, ⟨(some 8), .mv (.tmp 1), (some (7, false))⟩, ⟨(some 9), .mv (.tmp 0), (some (7, false))⟩, ⟨(some 10), .len false (.tmp 9), (some (7, false))⟩, ⟨(some 11), .bin .geq (.tmp 8) (.tmp 10), (some (7, false))⟩, ⟨(some 12), .pick (.tmp 7) (.const (.bool true)) (.tmp 11), none⟩])
 (.cond (.tmp 12) (.ops [⟨(some 13), .build [(.int .i64 0)] [(0, 1, (.const (.int .i64 1)))], none⟩, ⟨(some 14), .ifc 125 (.tmp 13), none⟩, ⟨none, .pan (.tmp 14), none⟩])
 .skip))
 (.seq (.ops [⟨(some 15), .mv (.tmp 0), none⟩, ⟨(some 16), .mv (.tmp 1), none⟩, ⟨(some 17), .iaddrS 2 (.tmp 15) (.tmp 16), none⟩, ⟨(some 4), .mv (.tmp 17), none⟩])
 .ret))),
 18, [.tmp 4]⟩
theorem lowcellsplace_Cell : lowerFn Tryd.prog Tryd.f77 = some Lcellsplace_Cell := by kernel_rfl
noncomputable def Gcellsplace_Cell (B : OH) : Nat → Cs
  | _ => fun _ _ _ => none
theorem sGcellsplace_Cell {w0 : World} {B : OH} : SoundG Tryd.prog w0 B { f := Gcellsplace_Cell B } := .of fun k => by
  unfold Gcellsplace_Cell
  split
  · exact .inl fun _ _ _ => rfl
theorem encellsplace_Cell : Enter Tryd.prog 77 := .of Tryd.func77 (by kernel_rfl) (by kernel_rfl)
noncomputable def Tcellsplace_Cell (B : OH) : Cs := callF B { f := Gcellsplace_Cell B } 80 Lcellsplace_Cell
theorem sTcellsplace_Cell {w0 : World} {B : OH} : SoundC Tryd.prog w0 B 77 (Tcellsplace_Cell B) := callF_sound mixedOrders sGcellsplace_Cell 80 Tryd.func77 lowcellsplace_Cell
noncomputable def Vcellsplace_Cell (B : OH) : Cs := Tcellsplace_Cell B
theorem sVcellsplace_Cell {w0 : World} {B : OH} : SoundC Tryd.prog w0 B 77 (Vcellsplace_Cell B) := sTcellsplace_Cell
/-- whitewash/cells.cell -/
def Lcellscell : FnL := ⟨(.seq (.ops [⟨(some 6), .mv (.const (.pointer none)), none⟩])
 (.seq (.seq (.ops [⟨(some 7), .mv (.tmp 0), none⟩, ⟨(some 8), .eqp false (.tmp 7) (.const (.pointer none)), none⟩, ⟨(some 9), .mv (.tmp 8), none⟩, ⟨(some 10), .mv (.tmp 1), (some (9, false))⟩, ⟨(some 11), .bin .lss (.tmp 10) (.const (.int .i64 0)), (some (9, false))⟩, ⟨(some 12), .pick (.tmp 9) (.const (.bool true)) (.tmp 11), none⟩, ⟨(some 13), .mv (.tmp 12), none⟩, ⟨(some 14), .mv (.tmp 1), (some (13, false))⟩, ⟨(some 15), .bin .geq (.tmp 14) (.const (.int .i64 16)), (some (13, false))⟩, ⟨(some 16), .pick (.tmp 13) (.const (.bool true)) (.tmp 15), none⟩])
 (.cond (.tmp 16) (.ops [⟨(some 17), .build [(.int .i64 0)] [(0, 1, (.const (.int .i64 1)))], none⟩, ⟨(some 18), .ifc 125 (.tmp 17), none⟩, ⟨none, .pan (.tmp 18), none⟩])
 .skip))
 (.seq (.ops [⟨(some 19), .mv (.tmp 0), none⟩, ⟨(some 20), .nilck (.tmp 19), none⟩, ⟨(some 21), .faddr 0 (.tmp 20), none⟩, ⟨(some 22), .load false 1 (.tmp 21), none⟩, ⟨(some 23), .mv (.tmp 2), none⟩, ⟨(some 24), .call (.func 77) [(.tmp 22), (.tmp 23)], none⟩, ⟨(some 6), .mv (.tmp 24), none⟩])
 .ret))),
 25, [.tmp 6]⟩
theorem lowcellscell : lowerFn Tryd.prog Tryd.f66 = some Lcellscell := by kernel_rfl
noncomputable def Gcellscell (B : OH) : Nat → Cs
  | 77 => Vcellsplace_Cell B
  | _ => fun _ _ _ => none
theorem Gcellscell_cellsplace_Cell {B : OH} : Gcellscell B 77 = Vcellsplace_Cell B := rfl
theorem sGcellscell {w0 : World} {B : OH} : SoundG Tryd.prog w0 B { f := Gcellscell B } := .of fun k => by
  unfold Gcellscell
  split
  · exact .inr ⟨encellsplace_Cell, sVcellsplace_Cell⟩
  · exact .inl fun _ _ _ => rfl
theorem encellscell : Enter Tryd.prog 66 := .of Tryd.func66 (by kernel_rfl) (by kernel_rfl)
noncomputable def Tcellscell (B : OH) : Cs := callF B { f := Gcellscell B } 80 Lcellscell
theorem sTcellscell {w0 : World} {B : OH} : SoundC Tryd.prog w0 B 66 (Tcellscell B) := callF_sound mixedOrders sGcellscell 80 Tryd.func66 lowcellscell
noncomputable def Vcellscell (B : OH) : Cs := Tcellscell B
theorem sVcellscell {w0 : World} {B : OH} : SoundC Tryd.prog w0 B 66 (Vcellscell B) := sTcellscell
/-- whitewash/cells.Store -/
def LcellsStore : FnD := ⟨(.ops [⟨(some 6), .alloc [(.int .i64 0)], none⟩]), 65, [(.tmp 6)], (.seq (.ops [⟨(some 7), .mv (.tmp 0), none⟩, ⟨(some 8), .mv (.tmp 1), none⟩, ⟨(some 9), .call (.func 66) [(.tmp 7), (.const (.int .i64 0)), (.tmp 8)], none⟩, ⟨(some 10), .mv (.tmp 2), none⟩, ⟨(some 11), .build [(.int .u64 0), (.int .i64 0)] [(0, 1, (.tmp 10))], none⟩, ⟨(some 12), .nilck (.tmp 9), none⟩, ⟨none, .store 2 (.tmp 12) (.tmp 11), none⟩])
 (.seq (.ops [⟨none, .store 1 (.tmp 6) (.const (.int .i64 0)), none⟩])
 .ret)),
 13, [.cell 6 false 1]⟩
theorem lowcellsStore : lowerDfr Tryd.prog Tryd.f52 = some LcellsStore := by kernel_rfl
noncomputable def GcellsStore (B : OH) : Nat → Cs
  | 66 => Vcellscell B
  | _ => fun _ _ _ => none
theorem GcellsStore_cellscell {B : OH} : GcellsStore B 66 = Vcellscell B := rfl
theorem sGcellsStore {w0 : World} {B : OH} : SoundG Tryd.prog w0 B { f := GcellsStore B } := .of fun k => by
  unfold GcellsStore
  split
  · exact .inr ⟨encellscell, sVcellscell⟩
  · exact .inl fun _ _ _ => rfl
theorem encellsStore : Enter Tryd.prog 52 := .of Tryd.func52 (by kernel_rfl) (by kernel_rfl)
noncomputable def DcellsStore (B : OH) : Nat → Ds
  | 65 => Ucellscaught B
  | _ => fun _ _ _ _ => none
theorem DcellsStore_cellscaught {B : OH} : DcellsStore B 65 = Ucellscaught B := rfl
noncomputable def TcellsStore (B : OH) : Cs := callD B { f := GcellsStore B } (DcellsStore B) 1000000 LcellsStore
theorem sTcellsStore {w0 : World} {B : OH} : SoundC Tryd.prog w0 B 52 (TcellsStore B) := callD_sound mixedOrders sGcellsStore 1000000 Tryd.func52 lowcellsStore encellscaught sUcellscaught
noncomputable def VcellsStore (B : OH) : Cs := TcellsStore B
theorem sVcellsStore {w0 : World} {B : OH} : SoundC Tryd.prog w0 B 52 (VcellsStore B) := sTcellsStore
set_option maxHeartbeats 4000000 in
theorem store {B : OH} {H0 H : HL} {N : St} {v : Value} {L : List C2} {m i : Nat} {w : Int} (hN : good B H N) (hv : SlM c2 2 B H0 H v L) (lm : lk H m = some (.cells [v] 1)) (bm : B m = none) (hm : slB v ≠ some m) (hi : i < L.length) (hL : L.length ≤ 900000) :
    ∃ H' N', VcellsStore B [.pointer (some ⟨m, 0, none⟩), .int .i64 (i : Int), .int .u64 w] H N = some (.ret (.int .i64 0), H', N') ∧ good B H' N' ∧ SlM c2 2 B H0 H' v (L.set i ⟨w, 0⟩) ∧ (∀ y c, slB v ≠ some y → lk H y = some c → lk H' y = some c) := by
  have hB := good_B hN
  have hR := good_rdB hN
  have hI := beqN hN.1.1
  rcases hv with ⟨h, _⟩ | ⟨b, cap, rest, rfl, bb, h0, hle, hlk⟩
  · rw [h] at hi; simp at hi
  have hbm : (b == m) = false := eqb fun h => hm (by rw [h]; rfl)
  have hbm' : (m == b) = false := eqb fun h => hm (by rw [h]; rfl)
  have i0 : (0 : Int) ≤ (i : Int) := by omega
  have i1 : ¬ (i : Int) < 0 := by omega
  have i2 : ¬ (i : Int) ≥ (L.length : Int) := by omega
  have nb := ne_N hN hlk
  have nb' := ne_N' hN hlk
  have nm := ne_N hN lm
  have nm' := ne_N' hN lm
  have rb := fun o n => rdB_none (o := o) (n := n) bb
  have rm := fun o n => rdB_none (o := o) (n := n) bm
  have hw : wr (fl c2 L ++ rest) (i * 2) [.int .u64 w, .int .i64 0] = some (fl c2 (L.set i ⟨w, 0⟩) ++ rest) := by
    have h1 := wr_fl c2_len L i 0 [.int .u64 w, .int .i64 0] z2 ⟨w, 0⟩ hi (by simp) rfl
    rw [Nat.add_zero] at h1
    rw [wr_append_left _ _ _ _ (by rw [fl_length c2_len]; simp; omega), h1]; rfl
  unfold VcellsStore
  simp -implicitDefEqProofs (maxSteps := 10000000) (disch := omega) only [TcellsStore, LcellsStore, GcellsStore_cellscell, Vcellscell, Tcellscell, Lcellscell, Gcellscell_cellsplace_Cell, Vcellsplace_Cell, Tcellsplace_Cell, Lcellsplace_Cell, DcellsStore_cellscaught, Ucellscaught, Lcellscaught, hB, hR, hI, lenV_sl, Int.toNat_natCast, bft, btf, gtst, st_len, lm, bm, rm, nm, nm', i0, i1, i2, hi, hlk, bb, rb, nb, nb', hbm, hbm', hw, pad, lightV, bt, bf, evs, gt, st, binV, arith, isSh, storeV, all1, idxAV, fieldV, faddrV, iaddrSV, iaddrAV, pickV, convV, unV, eqbV, eqpV, extV, mm2, mmV, nilckV, ress, res1, retV, Value.cells, reduceIte, reduceCtorEq, Int.reduceLT, Int.reduceLE, Int.reduceToNat, Int.reduceAdd, Int.reduceSub, Int.reduceMul, Int.reduceNeg, Nat.reduceMul, Nat.reduceAdd, Nat.reduceSub, Nat.reduceBEq, Nat.reduceEqDiff, Nat.reduceLT, Nat.reduceLeDiff, Int.reduceBEq, Int.reduceEq, Nat.reducePow, Int.reducePow, IntWalk.i64_in, IntKind.bits, eqAV, eqL, leafEq, andO, fillV, buildSV, Int.reduceGT, Int.reduceGE, Int.reduceBNe, IntWalk.u64_in, newsV_s, tassV, isnV, slcV, slcAV, slcTV, slcB, appNew, Option.bind_some, Option.bind_none, eqsV, lookV, mupdV, mdelV, mkM, ev1, ev2]
  have gu := good_up (k := .cells (fl c2 (L.set i ⟨w, 0⟩) ++ rest) (cap * 2)) (good_new (k := .cells [.int .i64 0] 1) hN) bb (by rw [lk_cons, nb, cond_false]; exact hlk)
  refine ⟨_, _, rfl, ?_, .inr ⟨b, cap, rest, by rw [List.length_set], bb, h0, by rw [List.length_set]; exact hle, ?_⟩, fun y c hy e => ?_⟩
  · simpa only [upH_cons, nb, cond_false] using gu
  · simp -implicitDefEqProofs (maxSteps := 10000000) (disch := omega) only [TcellsStore, LcellsStore, GcellsStore_cellscell, Vcellscell, Tcellscell, Lcellscell, Gcellscell_cellsplace_Cell, Vcellsplace_Cell, Tcellsplace_Cell, Lcellsplace_Cell, DcellsStore_cellscaught, Ucellscaught, Lcellscaught, hB, hR, hI, nb, hlk, pad, lightV, bt, bf, evs, gt, st, binV, arith, isSh, storeV, all1, idxAV, fieldV, faddrV, iaddrSV, iaddrAV, pickV, convV, unV, eqbV, eqpV, extV, mm2, mmV, nilckV, ress, res1, retV, Value.cells, reduceIte, reduceCtorEq, Int.reduceLT, Int.reduceLE, Int.reduceToNat, Int.reduceAdd, Int.reduceSub, Int.reduceMul, Int.reduceNeg, Nat.reduceMul, Nat.reduceAdd, Nat.reduceSub, Nat.reduceBEq, Nat.reduceEqDiff, Nat.reduceLT, Nat.reduceLeDiff, Int.reduceBEq, Int.reduceEq, Nat.reducePow, Int.reducePow, IntWalk.i64_in, IntKind.bits, eqAV, eqL, leafEq, andO, fillV, buildSV, Int.reduceGT, Int.reduceGE, Int.reduceBNe, IntWalk.u64_in, newsV_s, tassV, isnV, slcV, slcAV, slcTV, slcB, appNew, Option.bind_some, Option.bind_none, eqsV, lookV, mupdV, mdelV, mkM, ev1, ev2]
  · have n0 := ne_N hN e 0
    have n1 : (y == b) = false := eqb fun h => hy (by rw [h]; rfl)
    simp -implicitDefEqProofs (maxSteps := 10000000) (disch := omega) only [TcellsStore, LcellsStore, GcellsStore_cellscell, Vcellscell, Tcellscell, Lcellscell, Gcellscell_cellsplace_Cell, Vcellsplace_Cell, Tcellsplace_Cell, Lcellsplace_Cell, DcellsStore_cellscaught, Ucellscaught, Lcellscaught, hB, hR, hI, n0, n1, e, pad, lightV, bt, bf, evs, gt, st, binV, arith, isSh, storeV, all1, idxAV, fieldV, faddrV, iaddrSV, iaddrAV, pickV, convV, unV, eqbV, eqpV, extV, mm2, mmV, nilckV, ress, res1, retV, Value.cells, reduceIte, reduceCtorEq, Int.reduceLT, Int.reduceLE, Int.reduceToNat, Int.reduceAdd, Int.reduceSub, Int.reduceMul, Int.reduceNeg, Nat.reduceMul, Nat.reduceAdd, Nat.reduceSub, Nat.reduceBEq, Nat.reduceEqDiff, Nat.reduceLT, Nat.reduceLeDiff, Int.reduceBEq, Int.reduceEq, Nat.reducePow, Int.reducePow, IntWalk.i64_in, IntKind.bits, eqAV, eqL, leafEq, andO, fillV, buildSV, Int.reduceGT, Int.reduceGE, Int.reduceBNe, IntWalk.u64_in, newsV_s, tassV, isnV, slcV, slcAV, slcTV, slcB, appNew, Option.bind_some, Option.bind_none, eqsV, lookV, mupdV, mdelV, mkM, ev1, ev2]
end Go.Proofs.YtfhiplfagejfoaaDoor
namespace Go.Proofs.YtfhiplfagejfoaaDoor
open Go.Proofs.YtfhiplfagejfoaaDoor.K Go.ChangeShapes Go.WideShapes Go.ChangeAt Go.RowKit 
set_option maxRecDepth 100000
set_option linter.unusedSimpArgs false
set_option linter.unusedVariables false
def pkL (l : List W2) : List Int := l.flatMap fun x => [x.a, x.w]
theorem pkL_len (l : List W2) : (pkL l).length = 2 * l.length := by
  induction l with
  | nil => rfl
  | cons a l ih => simp only [pkL, List.flatMap_cons, List.length_append, List.length_cons, List.length_nil] at ih ⊢; omega
theorem pkL_app (l m : List W2) : pkL (l ++ m) = pkL l ++ pkL m := by simp [pkL]
/-- The words, so far as they have been laid. -/
def oW (G : Nat) (l : List W2) (i : Nat) : List Int := (l.length : Int) :: (pkL (l.take i) ++ List.replicate (G - 1 - 2 * i) 0)
theorem oW_len {G : Nat} {l : List W2} {i : Nat} (hi : i ≤ l.length) (hG : 1 + 2 * l.length ≤ G) : (oW G l i).length = G := by
  simp only [oW, List.length_cons, List.length_append, pkL_len, List.length_take, List.length_replicate]; omega
theorem oW_set {G : Nat} {l : List W2} {i : Nat} (hi : i < l.length) (hG : 1 + 2 * l.length ≤ G) : ((oW G l i).set (1 + 2 * i) (l.getD i y2).a).set (2 + 2 * i) (l.getD i y2).w = oW G l (i + 1) := by
  have ht : l.take (i + 1) = l.take i ++ [l.getD i y2] := by rw [List.take_add_one, some_getD (d := y2) hi]; rfl
  have hl : (pkL (l.take i)).length = 2 * i := by rw [pkL_len, List.length_take]; omega
  unfold oW
  rw [ht, pkL_app, show pkL [l.getD i y2] = [(l.getD i y2).a, (l.getD i y2).w] from rfl]
  rw [show 1 + 2 * i = 2 * i + 1 by omega, show 2 + 2 * i = 2 * i + 1 + 1 by omega, List.set_cons_succ, List.set_cons_succ]
  congr 1
  rw [show G - 1 - 2 * i = (G - 1 - 2 * (i + 1)) + 1 + 1 by omega, List.replicate_succ, List.replicate_succ]
  rw [List.set_append_right _ _ (by omega), hl, Nat.sub_self, List.set_cons_zero, List.set_append_right _ _ (by omega), hl, show 2 * i + 1 - 2 * i = 1 by omega, List.set_cons_succ, List.set_cons_zero, List.append_assoc]
  rfl
/-- Writes that a log may have, so many of them looked at. -/
def okL (p h : Nat) (l : List W2) (n : Nat) : Prop := ∀ i, i < n → okP p h (l.getD i y2).a ∧ ∀ j, j < i → (l.getD j y2).a ≠ (l.getD i y2).a
noncomputable def packE (p h : Nat) (l : List W2) : Int := if h + 2 * p < l.length then 4 else @ite _ (okL p h l l.length) (Classical.propDecidable _) 0 1
def packW (p h : Nat) (l : List W2) : List Int := oW (LG p h) l l.length
theorem packE_long {p h : Nat} {l : List W2} (H : h + 2 * p < l.length) : packE p h l = 4 := if_pos H
theorem packE_ok {p h : Nat} {l : List W2} (H : ¬ h + 2 * p < l.length) (ho : okL p h l l.length) : packE p h l = 0 := by unfold packE; rw [if_neg H, if_pos ho]
theorem packE_bad {p h : Nat} {l : List W2} (H : ¬ h + 2 * p < l.length) (ho : ¬ okL p h l l.length) : packE p h l = 1 := by unfold packE; rw [if_neg H, if_neg ho]
theorem packE_0 {p h : Nat} {l : List W2} (H : packE p h l = 0) : l.length ≤ h + 2 * p ∧ okL p h l l.length := by
  by_cases h1 : h + 2 * p < l.length
  · rw [packE_long h1] at H; omega
  · by_cases h2 : okL p h l l.length
    · exact ⟨by omega, h2⟩
    · rw [packE_bad h1 h2] at H; omega
open Classical in
/-- The places that have been met. -/
noncomputable def mfn (l : List W2) (i : Nat) : Int → Option Value := fun a => if ∃ j, j < i ∧ (l.getD j y2).a = a then some (.agg #[]) else none
theorem mfn_0 (l : List W2) : mfn l 0 = fun _ => none := by
  funext a
  exact if_neg (fun ⟨j, hj, _⟩ => by omega)
theorem mfn_y {l : List W2} {i : Nat} {a : Int} (h : ∃ j, j < i ∧ (l.getD j y2).a = a) : mfn l i a = some (.agg #[]) := if_pos h
theorem mfn_n {l : List W2} {i : Nat} {a : Int} (h : ¬ ∃ j, j < i ∧ (l.getD j y2).a = a) : mfn l i a = none := if_neg h
theorem mfn_s (l : List W2) (i : Nat) : updF (mfn l i) (l.getD i y2).a (some (.agg #[])) = mfn l (i + 1) := by
  funext a
  unfold updF
  by_cases h : a = (l.getD i y2).a
  · rw [if_pos h, mfn_y ⟨i, by omega, h.symm⟩]
  · rw [if_neg h]
    by_cases h2 : ∃ j, j < i ∧ (l.getD j y2).a = a
    · rw [mfn_y h2, mfn_y (let ⟨j, hj, e⟩ := h2; ⟨j, by omega, e⟩)]
    · rw [mfn_n h2, mfn_n (fun ⟨j, hj, e⟩ => by
        by_cases hji : j = i
        · exact h (by rw [← e, hji])
        · exact h2 ⟨j, by omega, e⟩)]
def W2s (l : List W2) : Prop := ∀ x ∈ l, i64R x.a ∧ u64R x.w
theorem W2s.at {l : List W2} (h : W2s l) (i : Nat) : i64R (l.getD i y2).a ∧ u64R (l.getD i y2).w := by
  rcases Nat.lt_or_ge i l.length with hi | hi
  · exact h _ (List.mem_of_getElem? (some_getD (d := y2) hi))
  · rw [List.getD_eq_getElem?_getD, List.getElem?_eq_none hi]
    unfold i64R u64R; simp [y2]
theorem wrapU (x : Int) : u64R (IntKind.u64.wrap x) := by
  unfold u64R IntKind.wrap
  simp [IntKind.bits, IntKind.signed]
  have := Int.emod_nonneg x (show (18446744073709551616 : Int) ≠ 0 by decide)
  have := Int.emod_lt_of_pos x (show (0 : Int) < 18446744073709551616 by decide)
  omega
theorem wrapU_neg {x : Int} (h : i64R x) (h0 : x < 0) : IntKind.u64.wrap x = x + 18446744073709551616 := by
  unfold i64R at h
  unfold IntKind.wrap
  simp [IntKind.bits, IntKind.signed]
  omega
theorem okP_wrap {kk p cc h : Nat} (C : Cf kk p cc h) {a : Int} (ha : i64R a) : (okP p h (IntKind.u64.wrap a) ↔ okP p h a) := by
  by_cases h0 : a < 0
  · rw [wrapU_neg ha h0]
    unfold i64R at ha
    constructor
    · intro h; have := okP_b C h; omega
    · intro h; have := okP_b C h; omega
  · unfold i64R at ha
    rw [IntWalk.u64_in _ (by omega)]
/-- whitewash/wlog.pack -/
def Lwlogpack : FnL := ⟨(.seq (.ops [⟨(some 2), .box (.tmp 0), none⟩, ⟨(some 4), .mv (.const (.slice none 0 0)), none⟩])
 (.seq (.ops [⟨(some 13), .mv (.tmp 1), none⟩, ⟨(some 14), .len false (.tmp 13), none⟩, ⟨(some 15), .load true 3 (.tmp 2), none⟩, ⟨(some 16), .call (.func 47) [(.tmp 15)], none⟩, ⟨(some 17), .bin .leq (.tmp 14) (.tmp 16), none⟩, ⟨(some 18), .call (.func 44) [(.tmp 17), (.const (.int .i64 4))], none⟩])
 (.seq (.ops [⟨(some 19), .load true 3 (.tmp 2), none⟩, ⟨(some 20), .call (.func 30) [(.tmp 19)], none⟩, ⟨(some 21), .mks [(.int .u64 0)] 8 (.tmp 20) (.tmp 20), none⟩, ⟨(some 5), .mv (.tmp 21), none⟩])
 (.seq (.ops [⟨(some 22), .mv (.tmp 5), none⟩, ⟨(some 23), .mv (.tmp 1), none⟩, ⟨(some 24), .len false (.tmp 23), none⟩, ⟨(some 25), .conv .u64 (.tmp 24), none⟩, ⟨(some 26), .iaddrS 1 (.tmp 22) (.const (.int .i64 0)), none⟩, ⟨none, .store 1 (.tmp 26) (.tmp 25), none⟩])
 (.seq (.ops [⟨(some 27), .mkmap .i64, none⟩, ⟨(some 6), .mv (.tmp 27), none⟩])
 (.seq (.seq (.ops [⟨(some 28), .mv (.tmp 1), none⟩, ⟨(some 29), .len false (.tmp 28), none⟩, ⟨(some 30), .mv (.const (.int .i64 0)), none⟩])
 (.block 0 (.loop (.seq (.ops [⟨(some 31), .bin .lss (.tmp 30) (.tmp 29), none⟩])
 (.seq (.cond (.tmp 31) .skip
 (.exit 0))
 (.seq (.block 1 (.seq (.ops [⟨(some 32), .mv (.tmp 30), none⟩, ⟨(some 33), .iaddrS 2 (.tmp 28) (.tmp 30), none⟩, ⟨(some 34), .load true 2 (.tmp 33), none⟩, ⟨(some 8), .alloc [(.int .i64 0), (.int .u64 0)], none⟩, ⟨(some 7), .mv (.tmp 32), none⟩, ⟨none, .store 2 (.tmp 8) (.tmp 34), none⟩])
 (.seq (.ops [⟨(some 36), .load true 3 (.tmp 2), none⟩, ⟨(some 37), .faddr 0 (.tmp 8), none⟩, ⟨(some 38), .load false 1 (.tmp 37), none⟩, ⟨(some 39), .conv .u64 (.tmp 38), none⟩, ⟨(some 40), .call (.func 14) [(.tmp 36), (.tmp 39)], none⟩, ⟨(some 35), .mv (.tmp 40), none⟩, ⟨(some 41), .ext (.tmp 35) 0, none⟩, ⟨(some 42), .ext (.tmp 35) 1, none⟩, ⟨(some 9), .mv (.tmp 41), none⟩, ⟨(some 10), .mv (.tmp 42), none⟩])
 (.seq (.ops [⟨(some 44), .mv (.tmp 6), none⟩, ⟨(some 45), .faddr 0 (.tmp 8), none⟩, ⟨(some 46), .load false 1 (.tmp 45), none⟩, ⟨(some 47), .mlook .i64 (.agg #[]) true (.tmp 44) (.tmp 46), none⟩, ⟨(some 43), .mv (.tmp 47), none⟩, ⟨(some 48), .ext (.tmp 43) 0, none⟩, ⟨(some 49), .ext (.tmp 43) 1, none⟩, ⟨(some 11), .alloc [], none⟩, ⟨none, .store 0 (.tmp 11) (.tmp 48), none⟩, ⟨(some 12), .mv (.tmp 49), none⟩])
 (.seq (.ops [⟨(some 50), .mv (.tmp 10), none⟩, ⟨(some 51), .mv (.tmp 50), none⟩, ⟨(some 52), .mv (.tmp 12), (some (51, true))⟩, ⟨(some 53), .un .not (.tmp 52), (some (51, true))⟩, ⟨(some 54), .pick (.tmp 51) (.tmp 53) (.const (.bool false)), none⟩, ⟨(some 55), .call (.func 44) [(.tmp 54), (.const (.int .i64 1))], none⟩])
 (.seq (.ops [⟨(some 56), .mv (.tmp 6), none⟩, ⟨(some 57), .faddr 0 (.tmp 8), none⟩, ⟨(some 58), .load false 1 (.tmp 57), none⟩, ⟨(some 59), .build [] [], none⟩, ⟨none, .mupd .i64 (.tmp 56) (.tmp 58) (.tmp 59), none⟩])
 (.draw [⟨⟨(some 60), .mv (.tmp 5), none⟩, []⟩, ⟨⟨(some 61), .mv (.tmp 7), none⟩, []⟩, ⟨⟨(some 62), .bin .mul (.const (.int .i64 2)) (.tmp 61), none⟩, []⟩, ⟨⟨(some 63), .bin .add (.const (.int .i64 1)) (.tmp 62), none⟩, []⟩, ⟨⟨(some 64), .mv (.tmp 5), none⟩, []⟩, ⟨⟨(some 65), .mv (.tmp 7), none⟩, []⟩, ⟨⟨(some 66), .bin .mul (.const (.int .i64 2)) (.tmp 65), none⟩, []⟩, ⟨⟨(some 67), .bin .add (.const (.int .i64 2)) (.tmp 66), none⟩, []⟩, ⟨⟨(some 68), .faddr 0 (.tmp 8), none⟩, []⟩, ⟨⟨(some 69), .load false 1 (.tmp 68), none⟩, []⟩, ⟨⟨(some 70), .conv .u64 (.tmp 69), none⟩, []⟩, ⟨⟨(some 71), .faddr 1 (.tmp 8), none⟩, []⟩, ⟨⟨(some 72), .load false 1 (.tmp 71), none⟩, []⟩, ⟨⟨(some 73), .iaddrS 1 (.tmp 60) (.tmp 63), none⟩, []⟩, ⟨⟨none, .store 1 (.tmp 73) (.tmp 70), none⟩, [⟨(some 72), .load false 1 (.tmp 71), none⟩]⟩, ⟨⟨(some 74), .iaddrS 1 (.tmp 64) (.tmp 67), none⟩, []⟩, ⟨⟨none, .store 1 (.tmp 74) (.tmp 72), none⟩, []⟩])))))))
 (.ops [⟨(some 75), .bin .add (.tmp 30) (.const (.int .i64 1)), none⟩, ⟨(some 30), .mv (.tmp 75), none⟩])))))))
 (.seq (.ops [⟨(some 76), .mv (.tmp 5), none⟩, ⟨(some 4), .mv (.tmp 76), none⟩])
 .ret))))))),
 77, [.tmp 4]⟩
theorem lowwlogpack : lowerFn Tryd.prog Tryd.f46 = some Lwlogpack := by kernel_rfl
noncomputable def Gwlogpack (B : OH) : Nat → Cs
  | 30 => V11 B
  | 14 => VwlogPlace B
  | 47 => Vwlogmost B
  | 44 => Vwlogwant B
  | _ => fun _ _ _ => none
theorem Gwlogpack_11 {B : OH} : Gwlogpack B 30 = V11 B := rfl
theorem Gwlogpack_wlogPlace {B : OH} : Gwlogpack B 14 = VwlogPlace B := rfl
theorem Gwlogpack_wlogmost {B : OH} : Gwlogpack B 47 = Vwlogmost B := rfl
theorem Gwlogpack_wlogwant {B : OH} : Gwlogpack B 44 = Vwlogwant B := rfl
theorem sGwlogpack {w0 : World} {B : OH} : SoundG Tryd.prog w0 B { f := Gwlogpack B } := .of fun k => by
  unfold Gwlogpack
  split
  · exact .inr ⟨en11, sV11⟩
  · exact .inr ⟨enwlogPlace, sVwlogPlace⟩
  · exact .inr ⟨enwlogmost, sVwlogmost⟩
  · exact .inr ⟨enwlogwant, sVwlogwant⟩
  · exact .inl fun _ _ _ => rfl
theorem enwlogpack : Enter Tryd.prog 46 := .of Tryd.func46 (by kernel_rfl) (by kernel_rfl)
noncomputable def Twlogpack (B : OH) : Cs := callF B { f := Gwlogpack B } 1000000 Lwlogpack
theorem sTwlogpack {w0 : World} {B : OH} : SoundC Tryd.prog w0 B 46 (Twlogpack B) := callF_sound mixedOrders sGwlogpack 1000000 Tryd.func46 lowwlogpack
noncomputable def Vwlogpack (B : OH) : Cs := Twlogpack B
theorem sVwlogpack {w0 : World} {B : OH} : SoundC Tryd.prog w0 B 46 (Vwlogpack B) := sTwlogpack
structure KPk (c bo G m : Nat) (vl : Value) (n i : Nat) (ts : List Value) : Prop where
  l : ts.length = 77
  t2 : gt ts 2 = .pointer (some ⟨c, 0, none⟩)
  t5 : gt ts 5 = .slice (some ⟨bo, 0, none⟩) G G
  t6 : gt ts 6 = .map (some m)
  t28 : gt ts 28 = vl
  t29 : gt ts 29 = .int .i64 (n : Int)
  t30 : gt ts 30 = .int .i64 (i : Int)
def lbPk : LC := (.seq (.ops [⟨(some 31), .bin .lss (.tmp 30) (.tmp 29), none⟩])
 (.seq (.cond (.tmp 31) .skip
 (.exit 0))
 (.seq (.block 1 (.seq (.ops [⟨(some 32), .mv (.tmp 30), none⟩, ⟨(some 33), .iaddrS 2 (.tmp 28) (.tmp 30), none⟩, ⟨(some 34), .load true 2 (.tmp 33), none⟩, ⟨(some 8), .alloc [(.int .i64 0), (.int .u64 0)], none⟩, ⟨(some 7), .mv (.tmp 32), none⟩, ⟨none, .store 2 (.tmp 8) (.tmp 34), none⟩])
 (.seq (.ops [⟨(some 36), .load true 3 (.tmp 2), none⟩, ⟨(some 37), .faddr 0 (.tmp 8), none⟩, ⟨(some 38), .load false 1 (.tmp 37), none⟩, ⟨(some 39), .conv .u64 (.tmp 38), none⟩, ⟨(some 40), .call (.func 14) [(.tmp 36), (.tmp 39)], none⟩, ⟨(some 35), .mv (.tmp 40), none⟩, ⟨(some 41), .ext (.tmp 35) 0, none⟩, ⟨(some 42), .ext (.tmp 35) 1, none⟩, ⟨(some 9), .mv (.tmp 41), none⟩, ⟨(some 10), .mv (.tmp 42), none⟩])
 (.seq (.ops [⟨(some 44), .mv (.tmp 6), none⟩, ⟨(some 45), .faddr 0 (.tmp 8), none⟩, ⟨(some 46), .load false 1 (.tmp 45), none⟩, ⟨(some 47), .mlook .i64 (.agg #[]) true (.tmp 44) (.tmp 46), none⟩, ⟨(some 43), .mv (.tmp 47), none⟩, ⟨(some 48), .ext (.tmp 43) 0, none⟩, ⟨(some 49), .ext (.tmp 43) 1, none⟩, ⟨(some 11), .alloc [], none⟩, ⟨none, .store 0 (.tmp 11) (.tmp 48), none⟩, ⟨(some 12), .mv (.tmp 49), none⟩])
 (.seq (.ops [⟨(some 50), .mv (.tmp 10), none⟩, ⟨(some 51), .mv (.tmp 50), none⟩, ⟨(some 52), .mv (.tmp 12), (some (51, true))⟩, ⟨(some 53), .un .not (.tmp 52), (some (51, true))⟩, ⟨(some 54), .pick (.tmp 51) (.tmp 53) (.const (.bool false)), none⟩, ⟨(some 55), .call (.func 44) [(.tmp 54), (.const (.int .i64 1))], none⟩])
 (.seq (.ops [⟨(some 56), .mv (.tmp 6), none⟩, ⟨(some 57), .faddr 0 (.tmp 8), none⟩, ⟨(some 58), .load false 1 (.tmp 57), none⟩, ⟨(some 59), .build [] [], none⟩, ⟨none, .mupd .i64 (.tmp 56) (.tmp 58) (.tmp 59), none⟩])
 (.draw [⟨⟨(some 60), .mv (.tmp 5), none⟩, []⟩, ⟨⟨(some 61), .mv (.tmp 7), none⟩, []⟩, ⟨⟨(some 62), .bin .mul (.const (.int .i64 2)) (.tmp 61), none⟩, []⟩, ⟨⟨(some 63), .bin .add (.const (.int .i64 1)) (.tmp 62), none⟩, []⟩, ⟨⟨(some 64), .mv (.tmp 5), none⟩, []⟩, ⟨⟨(some 65), .mv (.tmp 7), none⟩, []⟩, ⟨⟨(some 66), .bin .mul (.const (.int .i64 2)) (.tmp 65), none⟩, []⟩, ⟨⟨(some 67), .bin .add (.const (.int .i64 2)) (.tmp 66), none⟩, []⟩, ⟨⟨(some 68), .faddr 0 (.tmp 8), none⟩, []⟩, ⟨⟨(some 69), .load false 1 (.tmp 68), none⟩, []⟩, ⟨⟨(some 70), .conv .u64 (.tmp 69), none⟩, []⟩, ⟨⟨(some 71), .faddr 1 (.tmp 8), none⟩, []⟩, ⟨⟨(some 72), .load false 1 (.tmp 71), none⟩, []⟩, ⟨⟨(some 73), .iaddrS 1 (.tmp 60) (.tmp 63), none⟩, []⟩, ⟨⟨none, .store 1 (.tmp 73) (.tmp 70), none⟩, [⟨(some 72), .load false 1 (.tmp 71), none⟩]⟩, ⟨⟨(some 74), .iaddrS 1 (.tmp 64) (.tmp 67), none⟩, []⟩, ⟨⟨none, .store 1 (.tmp 74) (.tmp 72), none⟩, []⟩])))))))
 (.ops [⟨(some 75), .bin .add (.tmp 30) (.const (.int .i64 1)), none⟩, ⟨(some 30), .mv (.tmp 75), none⟩]))))
set_option maxHeartbeats 8000000 in
theorem loopPk {B : OH} {H0 H : HL} {N : St} {vl : Value} {l : List W2} {kk p cc h c bo m : Nat} (hT : Tab B) (C : Cf kk p cc h) (hl : SlR w2 2 B H0 vl l) (hw : W2s l) (hlen : l.length ≤ h + 2 * p) (hN : good B H N) (hF0 : Fr H0 H) (bc : B c = none) (bbo : B bo = none) (bm : B m = none) (h0o : lk H0 bo = none) (h0m : lk H0 m = none) (h0c : lk H0 c = none)
    (lc : lk H c = some (.cells [.int .i64 (kk : Int), .int .i64 (p : Int), .int .i64 (cc : Int)] 3)) (lo : lk H bo = some (.cells (fl w1 (oW (LG p h) l 0)) (LG p h))) (lm : lk H m = some (.map .i64 (mfn l 0))) (hco : c ≠ bo) (hcm : c ≠ m) {ts : List Value} (kp : KPk c bo (LG p h) m vl l.length 0 ts) {F : Nat} (hF : 200 + l.length + 1 ≤ F) :
    Ok (exec B { f := Gwlogpack B } F (LC.loop lbPk) ⟨ts, H, N⟩) (fun x s => good B s.H s.N ∧ Fr H0 s.H ∧ (∀ y c', y ≠ bo → y ≠ m → lk H y = some c' → lk s.H y = some c') ∧ ((x = .exit 0 ∧ okL p h l l.length ∧ lk s.H bo = some (.cells (fl w1 (oW (LG p h) l l.length)) (LG p h)) ∧ KPk c bo (LG p h) m vl l.length l.length s.t) ∨ (x = .pan (.iface 105 (.agg #[.int .i64 1])) ∧ ¬ okL p h l l.length))) := by
  have hLG : 1 + 2 * l.length ≤ LG p h := by unfold LG; omega
  have hlb := LG_b C
  refine loop_rule (n0 := 200) (fun q s => ∃ ts H' N', ∃ i : Nat, s = ⟨ts, H', N'⟩ ∧ KPk c bo (LG p h) m vl l.length i ts ∧ good B H' N' ∧ Fr H0 H' ∧ (∀ y c', y ≠ bo → y ≠ m → lk H y = some c' → lk H' y = some c') ∧ lk H' bo = some (.cells (fl w1 (oW (LG p h) l i)) (LG p h)) ∧ lk H' m = some (.map .i64 (mfn l i)) ∧ okL p h l i ∧ i ≤ l.length ∧ q = l.length - i) _ ?_ l.length _ ⟨ts, H, N, 0, rfl, kp, hN, hF0, fun _ _ _ _ e => e, lo, lm, fun i hi => by omega, by omega, rfl⟩ _ hF
  clear kp hF F ts lo lm hN hF0 N
  rintro z q s ⟨ts, H1, N1, i, rfl, kp, g, fr, fk, lo, lm, hok, hi, rfl⟩
  have hB := good_B g
  have hR := good_rdB g
  have hI := beqN g.1.1
  have hG : ∃ H N, good B H N := ⟨H1, N1, g⟩
  have hc1 : ((i + 1 : Nat) : Int) = (i : Int) + 1 := by omega
  have hbom : bo ≠ m := fun e => by rw [e, lm] at lo; cases lo
  have lc1 := fk _ _ hco hcm lc
  have ncb : (c == bo) = false := eqb hco
  have ncm : (c == m) = false := eqb hcm
  have nbm : (bo == m) = false := eqb hbom
  have nmb : (m == bo) = false := eqb (Ne.symm hbom)
  have nbc : (bo == c) = false := eqb (Ne.symm hco)
  have nmc : (m == c) = false := eqb (Ne.symm hcm)
  have nc := ne_N g lc1
  have nc' := ne_N' g lc1
  have nb := ne_N g lo
  have nb' := ne_N' g lo
  have nm := ne_N g lm
  have nm' := ne_N' g lm
  have rc := fun o n => rdB_none (o := o) (n := n) bc
  have rb := fun o n => rdB_none (o := o) (n := n) bbo
  have rm := fun o n => rdB_none (o := o) (n := n) bm
  by_cases hin : i < l.length
  case neg =>
    obtain rfl : i = l.length := by omega
    simp -implicitDefEqProofs (maxSteps := 10000000) (disch := omega) only [Twlogpack, Lwlogpack, Gwlogpack_11, V11_eq, Gwlogpack_wlogPlace, VwlogPlace_eq, Gwlogpack_wlogmost, Vwlogmost_eq, Gwlogpack_wlogwant, Vwlogwant, Twlogwant, Lwlogwant, hB, hR, hI, lbPk, kp.l, kp.t2, kp.t5, kp.t6, kp.t28, kp.t29, kp.t30, lenV_sl, Int.toNat_natCast, bft, btf, gtst, st_len, Int.lt_irrefl, pad, lightV, bt, bf, evs, gt, st, binV, arith, isSh, storeV, all1, idxAV, fieldV, faddrV, iaddrSV, iaddrAV, pickV, convV, unV, eqbV, eqpV, extV, mm2, mmV, nilckV, ress, res1, retV, Value.cells, reduceIte, reduceCtorEq, Int.reduceLT, Int.reduceLE, Int.reduceToNat, Int.reduceAdd, Int.reduceSub, Int.reduceMul, Int.reduceNeg, Nat.reduceMul, Nat.reduceAdd, Nat.reduceSub, Nat.reduceBEq, Nat.reduceEqDiff, Nat.reduceLT, Nat.reduceLeDiff, Int.reduceBEq, Int.reduceEq, Nat.reducePow, Int.reducePow, IntWalk.i64_in, IntKind.bits, eqAV, eqL, leafEq, andO, fillV, buildSV, Int.reduceGT, Int.reduceGE, Int.reduceBNe, IntWalk.u64_in, newsV_s, tassV, isnV, slcV, slcAV, slcTV, slcB, appNew, Option.bind_some, Option.bind_none, eqsV, lookV, mupdV, mdelV, mkM, ev1, ev2]
    refine ok_some (.inr ⟨by simp, g, fr, fk, .inl ⟨rfl, hok, lo, ⟨?_, ?_, ?_, ?_, ?_, ?_, ?_⟩⟩⟩)
    all_goals simp (maxSteps := 10000000) (disch := omega) only [kp.l, kp.t2, kp.t5, kp.t6, kp.t28, kp.t29, kp.t30, lenV_sl, Int.toNat_natCast, bft, btf, gtst, st_len, Nat.reduceAdd, Int.cast_ofNat_Int, cond_true, cond_false, Nat.reduceBEq, Nat.reduceLT, decide_true, beq_self_eq_true, if_true, if_false]
  have hin' : (i : Int) < (l.length : Int) := by omega
  have i0 : (0 : Int) ≤ (i : Int) := by omega
  obtain ⟨bv, ov, cv, rfl, _, rv⟩ := hl.at (by omega)
  have rv := SlR.read rv w2_len fr y2 hin
  obtain ⟨ha, hwu⟩ := hw.at i
  have hset := oW_set (i := i) hin hLG
  have hms := mfn_s l i
  have hl0 := oW_len (l := l) (i := i) (by omega) hLG
  have hoki : okL p h l (i + 1) ↔ (okP p h (l.getD i y2).a ∧ ∀ j, j < i → (l.getD j y2).a ≠ (l.getD i y2).a) := by
    constructor
    · intro h'; exact h' i (by omega)
    · intro h' j hj
      by_cases e : j = i
      · rw [e]; exact h'
      · exact hok j (by omega)
  have hbad : ¬ okL p h l (i + 1) → ¬ okL p h l l.length := fun h1 h2 => h1 fun j hj => h2 j (by omega)
  have hex : (∃ j, j < i ∧ (l.getD j y2).a = (l.getD i y2).a) → ¬ okL p h l (i + 1) := fun ⟨j, hj, e⟩ h' => (hoki.1 h').2 j hj e
  have hgood : okP p h (l.getD i y2).a → (¬ ∃ j, j < i ∧ (l.getD j y2).a = (l.getD i y2).a) → okL p h l (i + 1) := fun h1 h2 => hoki.2 ⟨h1, fun j hj e => h2 ⟨j, hj, e⟩⟩
  have hnok : ¬ okP p h (l.getD i y2).a → ¬ okL p h l (i + 1) := fun h1 h2 => h1 (hoki.1 h2).1
  have my := fun (h' : ∃ j, j < i ∧ (l.getD j y2).a = (l.getD i y2).a) => mfn_y h'
  have mn' := fun (h' : ¬ ∃ j, j < i ∧ (l.getD j y2).a = (l.getD i y2).a) => mfn_n h'
  clear hoki hok
  generalize (∃ j, j < i ∧ (l.getD j y2).a = (l.getD i y2).a) = EX at *
  generalize l.getD i y2 = x at *
  obtain ⟨a, w⟩ := x
  simp only at rv ha hwu hset hms hgood hnok my mn'
  simp only [w2] at rv
  have ep := fPlace hG hT C (wrapU a)
  by_cases hpl : okP p h a
  case neg =>
    rw [plV_n (fun h' => hpl ((okP_wrap C ha).1 h'))] at ep
    by_cases hEX : EX
    · have hmv := my hEX
      simp -implicitDefEqProofs (maxSteps := 10000000) (disch := omega) only [Twlogpack, Lwlogpack, Gwlogpack_11, V11_eq, Gwlogpack_wlogPlace, VwlogPlace_eq, Gwlogpack_wlogmost, Vwlogmost_eq, Gwlogpack_wlogwant, Vwlogwant, Twlogwant, Lwlogwant, hB, hR, hI, lbPk, kp.l, kp.t2, kp.t5, kp.t6, kp.t28, kp.t29, kp.t30, lenV_sl, Int.toNat_natCast, bft, btf, gtst, st_len, hin, hin', i0, rv, lc1, bc, rc, lo, bbo, rb, lm, bm, rm, nc, nc', nb, nb', nm, nm', ncb, ncm, nbm, nmb, nbc, nmc, ep, hmv, pad, lightV, bt, bf, evs, gt, st, binV, arith, isSh, storeV, all1, idxAV, fieldV, faddrV, iaddrSV, iaddrAV, pickV, convV, unV, eqbV, eqpV, extV, mm2, mmV, nilckV, ress, res1, retV, Value.cells, reduceIte, reduceCtorEq, Int.reduceLT, Int.reduceLE, Int.reduceToNat, Int.reduceAdd, Int.reduceSub, Int.reduceMul, Int.reduceNeg, Nat.reduceMul, Nat.reduceAdd, Nat.reduceSub, Nat.reduceBEq, Nat.reduceEqDiff, Nat.reduceLT, Nat.reduceLeDiff, Int.reduceBEq, Int.reduceEq, Nat.reducePow, Int.reducePow, IntWalk.i64_in, IntKind.bits, eqAV, eqL, leafEq, andO, fillV, buildSV, Int.reduceGT, Int.reduceGE, Int.reduceBNe, IntWalk.u64_in, newsV_s, tassV, isnV, slcV, slcAV, slcTV, slcB, appNew, Option.bind_some, Option.bind_none, eqsV, lookV, mupdV, mdelV, mkM, ev1, ev2]
      refine ok_some (.inr ⟨by simp, good_new (good_new g), fr_new (good_new g) (fr_new g fr 0) 0, fun y c' h1 h2 e => ?_, .inr ⟨rfl, hbad (hnok hpl)⟩⟩)
      have e1 := fk _ _ h1 h2 e
      have n0 := ne_N g e1
      simp -implicitDefEqProofs (maxSteps := 10000000) (disch := omega) only [Twlogpack, Lwlogpack, Gwlogpack_11, V11_eq, Gwlogpack_wlogPlace, VwlogPlace_eq, Gwlogpack_wlogmost, Vwlogmost_eq, Gwlogpack_wlogwant, Vwlogwant, Twlogwant, Lwlogwant, hB, hR, hI, lbPk, n0, e1, pad, lightV, bt, bf, evs, gt, st, binV, arith, isSh, storeV, all1, idxAV, fieldV, faddrV, iaddrSV, iaddrAV, pickV, convV, unV, eqbV, eqpV, extV, mm2, mmV, nilckV, ress, res1, retV, Value.cells, reduceIte, reduceCtorEq, Int.reduceLT, Int.reduceLE, Int.reduceToNat, Int.reduceAdd, Int.reduceSub, Int.reduceMul, Int.reduceNeg, Nat.reduceMul, Nat.reduceAdd, Nat.reduceSub, Nat.reduceBEq, Nat.reduceEqDiff, Nat.reduceLT, Nat.reduceLeDiff, Int.reduceBEq, Int.reduceEq, Nat.reducePow, Int.reducePow, IntWalk.i64_in, IntKind.bits, eqAV, eqL, leafEq, andO, fillV, buildSV, Int.reduceGT, Int.reduceGE, Int.reduceBNe, IntWalk.u64_in, newsV_s, tassV, isnV, slcV, slcAV, slcTV, slcB, appNew, Option.bind_some, Option.bind_none, eqsV, lookV, mupdV, mdelV, mkM, ev1, ev2]
    · have hmv := mn' hEX
      simp -implicitDefEqProofs (maxSteps := 10000000) (disch := omega) only [Twlogpack, Lwlogpack, Gwlogpack_11, V11_eq, Gwlogpack_wlogPlace, VwlogPlace_eq, Gwlogpack_wlogmost, Vwlogmost_eq, Gwlogpack_wlogwant, Vwlogwant, Twlogwant, Lwlogwant, hB, hR, hI, lbPk, kp.l, kp.t2, kp.t5, kp.t6, kp.t28, kp.t29, kp.t30, lenV_sl, Int.toNat_natCast, bft, btf, gtst, st_len, hin, hin', i0, rv, lc1, bc, rc, lo, bbo, rb, lm, bm, rm, nc, nc', nb, nb', nm, nm', ncb, ncm, nbm, nmb, nbc, nmc, ep, hmv, pad, lightV, bt, bf, evs, gt, st, binV, arith, isSh, storeV, all1, idxAV, fieldV, faddrV, iaddrSV, iaddrAV, pickV, convV, unV, eqbV, eqpV, extV, mm2, mmV, nilckV, ress, res1, retV, Value.cells, reduceIte, reduceCtorEq, Int.reduceLT, Int.reduceLE, Int.reduceToNat, Int.reduceAdd, Int.reduceSub, Int.reduceMul, Int.reduceNeg, Nat.reduceMul, Nat.reduceAdd, Nat.reduceSub, Nat.reduceBEq, Nat.reduceEqDiff, Nat.reduceLT, Nat.reduceLeDiff, Int.reduceBEq, Int.reduceEq, Nat.reducePow, Int.reducePow, IntWalk.i64_in, IntKind.bits, eqAV, eqL, leafEq, andO, fillV, buildSV, Int.reduceGT, Int.reduceGE, Int.reduceBNe, IntWalk.u64_in, newsV_s, tassV, isnV, slcV, slcAV, slcTV, slcB, appNew, Option.bind_some, Option.bind_none, eqsV, lookV, mupdV, mdelV, mkM, ev1, ev2]
      refine ok_some (.inr ⟨by simp, good_new (good_new g), fr_new (good_new g) (fr_new g fr 0) 0, fun y c' h1 h2 e => ?_, .inr ⟨rfl, hbad (hnok hpl)⟩⟩)
      have e1 := fk _ _ h1 h2 e
      have n0 := ne_N g e1
      simp -implicitDefEqProofs (maxSteps := 10000000) (disch := omega) only [Twlogpack, Lwlogpack, Gwlogpack_11, V11_eq, Gwlogpack_wlogPlace, VwlogPlace_eq, Gwlogpack_wlogmost, Vwlogmost_eq, Gwlogpack_wlogwant, Vwlogwant, Twlogwant, Lwlogwant, hB, hR, hI, lbPk, n0, e1, pad, lightV, bt, bf, evs, gt, st, binV, arith, isSh, storeV, all1, idxAV, fieldV, faddrV, iaddrSV, iaddrAV, pickV, convV, unV, eqbV, eqpV, extV, mm2, mmV, nilckV, ress, res1, retV, Value.cells, reduceIte, reduceCtorEq, Int.reduceLT, Int.reduceLE, Int.reduceToNat, Int.reduceAdd, Int.reduceSub, Int.reduceMul, Int.reduceNeg, Nat.reduceMul, Nat.reduceAdd, Nat.reduceSub, Nat.reduceBEq, Nat.reduceEqDiff, Nat.reduceLT, Nat.reduceLeDiff, Int.reduceBEq, Int.reduceEq, Nat.reducePow, Int.reducePow, IntWalk.i64_in, IntKind.bits, eqAV, eqL, leafEq, andO, fillV, buildSV, Int.reduceGT, Int.reduceGE, Int.reduceBNe, IntWalk.u64_in, newsV_s, tassV, isnV, slcV, slcAV, slcTV, slcB, appNew, Option.bind_some, Option.bind_none, eqsV, lookV, mupdV, mdelV, mkM, ev1, ev2]
  have hpb := okP_b C hpl
  have wa : IntKind.u64.wrap a = a := IntWalk.u64_in _ (by omega)
  rw [plV_y ((okP_wrap C ha).2 hpl), wa] at ep
  by_cases hEX : EX
  · have hmv := my hEX
    simp -implicitDefEqProofs (maxSteps := 10000000) (disch := omega) only [Twlogpack, Lwlogpack, Gwlogpack_11, V11_eq, Gwlogpack_wlogPlace, VwlogPlace_eq, Gwlogpack_wlogmost, Vwlogmost_eq, Gwlogpack_wlogwant, Vwlogwant, Twlogwant, Lwlogwant, hB, hR, hI, lbPk, kp.l, kp.t2, kp.t5, kp.t6, kp.t28, kp.t29, kp.t30, lenV_sl, Int.toNat_natCast, bft, btf, gtst, st_len, hin, hin', i0, rv, lc1, bc, rc, lo, bbo, rb, lm, bm, rm, nc, nc', nb, nb', nm, nm', ncb, ncm, nbm, nmb, nbc, nmc, ep, hmv, pad, lightV, bt, bf, evs, gt, st, binV, arith, isSh, storeV, all1, idxAV, fieldV, faddrV, iaddrSV, iaddrAV, pickV, convV, unV, eqbV, eqpV, extV, mm2, mmV, nilckV, ress, res1, retV, Value.cells, reduceIte, reduceCtorEq, Int.reduceLT, Int.reduceLE, Int.reduceToNat, Int.reduceAdd, Int.reduceSub, Int.reduceMul, Int.reduceNeg, Nat.reduceMul, Nat.reduceAdd, Nat.reduceSub, Nat.reduceBEq, Nat.reduceEqDiff, Nat.reduceLT, Nat.reduceLeDiff, Int.reduceBEq, Int.reduceEq, Nat.reducePow, Int.reducePow, IntWalk.i64_in, IntKind.bits, eqAV, eqL, leafEq, andO, fillV, buildSV, Int.reduceGT, Int.reduceGE, Int.reduceBNe, IntWalk.u64_in, newsV_s, tassV, isnV, slcV, slcAV, slcTV, slcB, appNew, Option.bind_some, Option.bind_none, eqsV, lookV, mupdV, mdelV, mkM, ev1, ev2]
    refine ok_some (.inr ⟨by simp, good_new (good_new g), fr_new (good_new g) (fr_new g fr 0) 0, fun y c' h1 h2 e => ?_, .inr ⟨rfl, hbad (hex hEX)⟩⟩)
    have e1 := fk _ _ h1 h2 e
    have n0 := ne_N g e1
    simp -implicitDefEqProofs (maxSteps := 10000000) (disch := omega) only [Twlogpack, Lwlogpack, Gwlogpack_11, V11_eq, Gwlogpack_wlogPlace, VwlogPlace_eq, Gwlogpack_wlogmost, Vwlogmost_eq, Gwlogpack_wlogwant, Vwlogwant, Twlogwant, Lwlogwant, hB, hR, hI, lbPk, n0, e1, pad, lightV, bt, bf, evs, gt, st, binV, arith, isSh, storeV, all1, idxAV, fieldV, faddrV, iaddrSV, iaddrAV, pickV, convV, unV, eqbV, eqpV, extV, mm2, mmV, nilckV, ress, res1, retV, Value.cells, reduceIte, reduceCtorEq, Int.reduceLT, Int.reduceLE, Int.reduceToNat, Int.reduceAdd, Int.reduceSub, Int.reduceMul, Int.reduceNeg, Nat.reduceMul, Nat.reduceAdd, Nat.reduceSub, Nat.reduceBEq, Nat.reduceEqDiff, Nat.reduceLT, Nat.reduceLeDiff, Int.reduceBEq, Int.reduceEq, Nat.reducePow, Int.reducePow, IntWalk.i64_in, IntKind.bits, eqAV, eqL, leafEq, andO, fillV, buildSV, Int.reduceGT, Int.reduceGE, Int.reduceBNe, IntWalk.u64_in, newsV_s, tassV, isnV, slcV, slcAV, slcTV, slcB, appNew, Option.bind_some, Option.bind_none, eqsV, lookV, mupdV, mdelV, mkM, ev1, ev2]
  have hmv := mn' hEX
  have x0 : 1 + 2 * (i : Int) = ((1 + 2 * i : Nat) : Int) := by omega
  have x1 : 2 + 2 * (i : Int) = ((2 + 2 * i : Nat) : Int) := by omega
  have x2 : (0 : Int) ≤ ((1 + 2 * i : Nat) : Int) := by omega
  have x3 : (0 : Int) ≤ ((2 + 2 * i : Nat) : Int) := by omega
  have x4 : 1 + 2 * i < LG p h := by omega
  have x5 : 2 + 2 * i < LG p h := by omega
  have x6 : IntKind.i64.wrap ((1 + 2 * i : Nat) : Int) = ((1 + 2 * i : Nat) : Int) := IntWalk.i64_in _ (by omega)
  have x7 : IntKind.i64.wrap ((2 + 2 * i : Nat) : Int) = ((2 + 2 * i : Nat) : Int) := IntWalk.i64_in _ (by omega)
  have v1 : wr (fl w1 (oW (LG p h) l i)) (1 + 2 * i) [.int .u64 a] = some (fl w1 ((oW (LG p h) l i).set (1 + 2 * i) a)) := by
    have := wr_fl w1_len (oW (LG p h) l i) (1 + 2 * i) 0 [.int .u64 a] 0 a (by omega) (by simp) rfl
    rwa [Nat.mul_one, Nat.add_zero] at this
  have v2 : wr (fl w1 ((oW (LG p h) l i).set (1 + 2 * i) a)) (2 + 2 * i) [.int .u64 w] = some (fl w1 (oW (LG p h) l (i + 1))) := by
    have := wr_fl w1_len ((oW (LG p h) l i).set (1 + 2 * i) a) (2 + 2 * i) 0 [.int .u64 w] 0 w (by rw [List.length_set]; omega) (by simp) rfl
    rw [Nat.mul_one, Nat.add_zero, hset] at this
    exact this
  simp -implicitDefEqProofs (maxSteps := 10000000) (disch := omega) only [Twlogpack, Lwlogpack, Gwlogpack_11, V11_eq, Gwlogpack_wlogPlace, VwlogPlace_eq, Gwlogpack_wlogmost, Vwlogmost_eq, Gwlogpack_wlogwant, Vwlogwant, Twlogwant, Lwlogwant, hB, hR, hI, lbPk, kp.l, kp.t2, kp.t5, kp.t6, kp.t28, kp.t29, kp.t30, lenV_sl, Int.toNat_natCast, bft, btf, gtst, st_len, hin, hin', i0, rv, lc1, bc, rc, lo, bbo, rb, lm, bm, rm, nc, nc', nb, nb', nm, nm', ncb, ncm, nbm, nmb, nbc, nmc, ep, hmv, x0, x1, x2, x3, x4, x5, x6, x7, wa, v1, v2, hms, Nat.mul_one, pad, lightV, bt, bf, evs, gt, st, binV, arith, isSh, storeV, all1, idxAV, fieldV, faddrV, iaddrSV, iaddrAV, pickV, convV, unV, eqbV, eqpV, extV, mm2, mmV, nilckV, ress, res1, retV, Value.cells, reduceIte, reduceCtorEq, Int.reduceLT, Int.reduceLE, Int.reduceToNat, Int.reduceAdd, Int.reduceSub, Int.reduceMul, Int.reduceNeg, Nat.reduceMul, Nat.reduceAdd, Nat.reduceSub, Nat.reduceBEq, Nat.reduceEqDiff, Nat.reduceLT, Nat.reduceLeDiff, Int.reduceBEq, Int.reduceEq, Nat.reducePow, Int.reducePow, IntWalk.i64_in, IntKind.bits, eqAV, eqL, leafEq, andO, fillV, buildSV, Int.reduceGT, Int.reduceGE, Int.reduceBNe, IntWalk.u64_in, newsV_s, tassV, isnV, slcV, slcAV, slcTV, slcB, appNew, Option.bind_some, Option.bind_none, eqsV, lookV, mupdV, mdelV, mkM, ev1, ev2]
  have g2 := good_set (k := .map .i64 (mfn l (i + 1))) (good_new (k := .cells [] 0) (good_new (k := .cells [.int .i64 a, .int .u64 w] 2) g)) bm (by rw [lk_cons, sh_app, nm, cond_false, lk_cons, nm, cond_false]; exact lm)
  have l2 : lk ((m, .map .i64 (mfn l (i + 1))) :: ((sh N1).n 0, .cells [] 0) :: (N1.n 0, .cells [.int .i64 a, .int .u64 w] 2) :: H1) bo = some (.cells (fl w1 (oW (LG p h) l i)) (LG p h)) := by
    rw [lk_cons, nbm, cond_false, lk_cons, sh_app, nb, cond_false, lk_cons, nb, cond_false]; exact lo
  have g3 := good_up (k := .cells (fl w1 ((oW (LG p h) l i).set (1 + 2 * i) a)) (LG p h)) g2 bbo l2
  have g4 := good_up (k := .cells (fl w1 (oW (LG p h) l (i + 1))) (LG p h)) g3 bbo (by rw [lk_upH, beq_self_eq_true, cond_true])
  have f4 := fr_up (k := .cells (fl w1 (oW (LG p h) l (i + 1))) (LG p h)) (fr_up (k := .cells (fl w1 ((oW (LG p h) l i).set (1 + 2 * i) a)) (LG p h)) (fr_set (k := .map .i64 (mfn l (i + 1))) (fr_new (k := .cells [] 0) (good_new (k := .cells [.int .i64 a, .int .u64 w] 2) g) (fr_new (k := .cells [.int .i64 a, .int .u64 w] 2) g fr 0) 0) h0m) h0o) h0o
  simp only [upH_cons, sh_app, nbm, nb, cond_false] at g4 f4
  refine ok_some (.inl ⟨rfl, l.length - (i + 1), by omega, _, _, _, i + 1, rfl, ⟨?_, ?_, ?_, ?_, ?_, ?_, ?_⟩, g4, f4, fun y c' h1 h2 e => ?_, ?_, ?_, hgood hpl hEX, by omega, rfl⟩)
  rotate_right
  · simp -implicitDefEqProofs (maxSteps := 10000000) (disch := omega) only [Twlogpack, Lwlogpack, Gwlogpack_11, V11_eq, Gwlogpack_wlogPlace, VwlogPlace_eq, Gwlogpack_wlogmost, Vwlogmost_eq, Gwlogpack_wlogwant, Vwlogwant, Twlogwant, Lwlogwant, hB, hR, hI, lbPk, pad, lightV, bt, bf, evs, gt, st, binV, arith, isSh, storeV, all1, idxAV, fieldV, faddrV, iaddrSV, iaddrAV, pickV, convV, unV, eqbV, eqpV, extV, mm2, mmV, nilckV, ress, res1, retV, Value.cells, reduceIte, reduceCtorEq, Int.reduceLT, Int.reduceLE, Int.reduceToNat, Int.reduceAdd, Int.reduceSub, Int.reduceMul, Int.reduceNeg, Nat.reduceMul, Nat.reduceAdd, Nat.reduceSub, Nat.reduceBEq, Nat.reduceEqDiff, Nat.reduceLT, Nat.reduceLeDiff, Int.reduceBEq, Int.reduceEq, Nat.reducePow, Int.reducePow, IntWalk.i64_in, IntKind.bits, eqAV, eqL, leafEq, andO, fillV, buildSV, Int.reduceGT, Int.reduceGE, Int.reduceBNe, IntWalk.u64_in, newsV_s, tassV, isnV, slcV, slcAV, slcTV, slcB, appNew, Option.bind_some, Option.bind_none, eqsV, lookV, mupdV, mdelV, mkM, ev1, ev2]
  rotate_right
  · simp -implicitDefEqProofs (maxSteps := 10000000) (disch := omega) only [Twlogpack, Lwlogpack, Gwlogpack_11, V11_eq, Gwlogpack_wlogPlace, VwlogPlace_eq, Gwlogpack_wlogmost, Vwlogmost_eq, Gwlogpack_wlogwant, Vwlogwant, Twlogwant, Lwlogwant, hB, hR, hI, lbPk, nbm, nb, lo, pad, lightV, bt, bf, evs, gt, st, binV, arith, isSh, storeV, all1, idxAV, fieldV, faddrV, iaddrSV, iaddrAV, pickV, convV, unV, eqbV, eqpV, extV, mm2, mmV, nilckV, ress, res1, retV, Value.cells, reduceIte, reduceCtorEq, Int.reduceLT, Int.reduceLE, Int.reduceToNat, Int.reduceAdd, Int.reduceSub, Int.reduceMul, Int.reduceNeg, Nat.reduceMul, Nat.reduceAdd, Nat.reduceSub, Nat.reduceBEq, Nat.reduceEqDiff, Nat.reduceLT, Nat.reduceLeDiff, Int.reduceBEq, Int.reduceEq, Nat.reducePow, Int.reducePow, IntWalk.i64_in, IntKind.bits, eqAV, eqL, leafEq, andO, fillV, buildSV, Int.reduceGT, Int.reduceGE, Int.reduceBNe, IntWalk.u64_in, newsV_s, tassV, isnV, slcV, slcAV, slcTV, slcB, appNew, Option.bind_some, Option.bind_none, eqsV, lookV, mupdV, mdelV, mkM, ev1, ev2]
  rotate_right
  · have e1 := fk _ _ h1 h2 e
    have n0 := ne_N g e1
    have n1 : (y == m) = false := eqb h2
    have n2 : (y == bo) = false := eqb h1
    simp -implicitDefEqProofs (maxSteps := 10000000) (disch := omega) only [Twlogpack, Lwlogpack, Gwlogpack_11, V11_eq, Gwlogpack_wlogPlace, VwlogPlace_eq, Gwlogpack_wlogmost, Vwlogmost_eq, Gwlogpack_wlogwant, Vwlogwant, Twlogwant, Lwlogwant, hB, hR, hI, lbPk, n0, n1, n2, e1, pad, lightV, bt, bf, evs, gt, st, binV, arith, isSh, storeV, all1, idxAV, fieldV, faddrV, iaddrSV, iaddrAV, pickV, convV, unV, eqbV, eqpV, extV, mm2, mmV, nilckV, ress, res1, retV, Value.cells, reduceIte, reduceCtorEq, Int.reduceLT, Int.reduceLE, Int.reduceToNat, Int.reduceAdd, Int.reduceSub, Int.reduceMul, Int.reduceNeg, Nat.reduceMul, Nat.reduceAdd, Nat.reduceSub, Nat.reduceBEq, Nat.reduceEqDiff, Nat.reduceLT, Nat.reduceLeDiff, Int.reduceBEq, Int.reduceEq, Nat.reducePow, Int.reducePow, IntWalk.i64_in, IntKind.bits, eqAV, eqL, leafEq, andO, fillV, buildSV, Int.reduceGT, Int.reduceGE, Int.reduceBNe, IntWalk.u64_in, newsV_s, tassV, isnV, slcV, slcAV, slcTV, slcB, appNew, Option.bind_some, Option.bind_none, eqsV, lookV, mupdV, mdelV, mkM, ev1, ev2]
  all_goals simp (maxSteps := 10000000) (disch := omega) only [kp.l, kp.t2, kp.t5, kp.t6, kp.t28, kp.t29, kp.t30, lenV_sl, Int.toNat_natCast, bft, btf, gtst, st_len, hc1, Nat.reduceAdd, Int.cast_ofNat_Int, cond_true, cond_false, Nat.reduceBEq, Nat.reduceLT, decide_true, beq_self_eq_true, if_true, if_false]
end Go.Proofs.YtfhiplfagejfoaaDoor
namespace Go.Proofs.YtfhiplfagejfoaaDoor
open Go.Proofs.YtfhiplfagejfoaaDoor.K Go.ChangeShapes Go.WideShapes Go.ChangeAt Go.RowKit 
set_option maxRecDepth 100000
set_option linter.unusedSimpArgs false
set_option linter.unusedVariables false
theorem packW_len {p h : Nat} {l : List W2} (H : l.length ≤ h + 2 * p) : (packW p h l).length = LG p h := oW_len (Nat.le_refl _) (by unfold LG; omega)
/-- whitewash/wlog.Pack -/
def LwlogPack : FnD := ⟨(.ops [⟨(some 2), .box (.tmp 0), none⟩, ⟨(some 4), .mv (.const (.slice none 0 0)), none⟩, ⟨(some 5), .alloc [(.int .i64 0)], none⟩]), 43, [(.tmp 5)], (.seq (.ops [⟨(some 6), .load true 3 (.tmp 2), none⟩, ⟨(some 7), .call (.func 45) [(.tmp 6)], none⟩, ⟨(some 8), .call (.func 44) [(.tmp 7), (.const (.int .i64 5))], none⟩])
 (.seq (.ops [⟨(some 9), .load true 3 (.tmp 2), none⟩, ⟨(some 10), .mv (.tmp 1), none⟩, ⟨(some 11), .call (.func 46) [(.tmp 9), (.tmp 10)], none⟩, ⟨(some 4), .mv (.tmp 11), none⟩, ⟨none, .store 1 (.tmp 5) (.const (.int .i64 0)), none⟩])
 .ret)),
 12, [.tmp 4, .cell 5 false 1]⟩
theorem lowwlogPack : lowerDfr Tryd.prog Tryd.f16 = some LwlogPack := by kernel_rfl
noncomputable def GwlogPack (B : OH) : Nat → Cs
  | 45 => V13 B
  | 46 => Vwlogpack B
  | 44 => Vwlogwant B
  | _ => fun _ _ _ => none
theorem GwlogPack_13 {B : OH} : GwlogPack B 45 = V13 B := rfl
theorem GwlogPack_wlogpack {B : OH} : GwlogPack B 46 = Vwlogpack B := rfl
theorem GwlogPack_wlogwant {B : OH} : GwlogPack B 44 = Vwlogwant B := rfl
theorem sGwlogPack {w0 : World} {B : OH} : SoundG Tryd.prog w0 B { f := GwlogPack B } := .of fun k => by
  unfold GwlogPack
  split
  · exact .inr ⟨en13, sV13⟩
  · exact .inr ⟨enwlogpack, sVwlogpack⟩
  · exact .inr ⟨enwlogwant, sVwlogwant⟩
  · exact .inl fun _ _ _ => rfl
theorem enwlogPack : Enter Tryd.prog 16 := .of Tryd.func16 (by kernel_rfl) (by kernel_rfl)
noncomputable def DwlogPack (B : OH) : Nat → Ds
  | 43 => Uwlogcaught B
  | _ => fun _ _ _ _ => none
theorem DwlogPack_wlogcaught {B : OH} : DwlogPack B 43 = Uwlogcaught B := rfl
noncomputable def TwlogPack (B : OH) : Cs := callD B { f := GwlogPack B } (DwlogPack B) 1000000 LwlogPack
theorem sTwlogPack {w0 : World} {B : OH} : SoundC Tryd.prog w0 B 16 (TwlogPack B) := callD_sound mixedOrders sGwlogPack 1000000 Tryd.func16 lowwlogPack enwlogcaught sUwlogcaught
noncomputable def VwlogPack (B : OH) : Cs := TwlogPack B
theorem sVwlogPack {w0 : World} {B : OH} : SoundC Tryd.prog w0 B 16 (VwlogPack B) := sTwlogPack
set_option maxHeartbeats 8000000 in
theorem fPack {B : OH} {H : HL} {N : St} {vl : Value} {l : List W2} {kk p cc h : Nat} (hT : Tab B) (C : Cf kk p cc h) (hN : good B H N) (hl : SlR w2 2 B H vl l) (hw : W2s l) :
    ∃ v' H' N', VwlogPack B [.agg #[.int .i64 (kk : Int), .int .i64 (p : Int), .int .i64 (cc : Int)], vl] H N = some (.ret (.tuple #[v', .int .i64 (packE p h l)]), H', N') ∧ good B H' N' ∧ Fr H H' ∧ SlN w1 1 B H H' v' (if packE p h l = 0 then packW p h l else []) := by
  have hB := good_B hN
  have hR := good_rdB hN
  have hI := beqN hN.1.1
  have hG : ∃ H N, good B H N := ⟨H, N, hN⟩
  have e1 := f13 hG kk p cc (cfit C).1 (cfit C).2.1 (cfit C).2.2
  have e2 := fmost hG hT C
  have e3 := f11c hG hT C
  have hll := hl.len
  have hlb := LG_b C
  unfold VwlogPack
  by_cases hlen : l.length ≤ h + 2 * p
  case neg =>
    have c1 : ¬ (l.length : Int) ≤ ((h + 2 * p : Nat) : Int) := by omega
    have he := packE_long (p := p) (h := h) (l := l) (by omega)
    rw [he, if_neg (by decide)]
    simp -implicitDefEqProofs (maxSteps := 10000000) (disch := omega) only [TwlogPack, LwlogPack, GwlogPack_13, V13_eq, GwlogPack_wlogpack, Vwlogpack, Twlogpack, Lwlogpack, Gwlogpack_11, V11_eq, Gwlogpack_wlogPlace, VwlogPlace_eq, Gwlogpack_wlogmost, Vwlogmost_eq, Gwlogpack_wlogwant, Vwlogwant, Twlogwant, Lwlogwant, GwlogPack_wlogwant, DwlogPack_wlogcaught, Uwlogcaught, Lwlogcaught, hB, hR, hI, lenV_sl, Int.toNat_natCast, bft, btf, gtst, st_len, e1, e2, hll, c1, pad, lightV, bt, bf, evs, gt, st, binV, arith, isSh, storeV, all1, idxAV, fieldV, faddrV, iaddrSV, iaddrAV, pickV, convV, unV, eqbV, eqpV, extV, mm2, mmV, nilckV, ress, res1, retV, Value.cells, reduceIte, reduceCtorEq, Int.reduceLT, Int.reduceLE, Int.reduceToNat, Int.reduceAdd, Int.reduceSub, Int.reduceMul, Int.reduceNeg, Nat.reduceMul, Nat.reduceAdd, Nat.reduceSub, Nat.reduceBEq, Nat.reduceEqDiff, Nat.reduceLT, Nat.reduceLeDiff, Int.reduceBEq, Int.reduceEq, Nat.reducePow, Int.reducePow, IntWalk.i64_in, IntKind.bits, eqAV, eqL, leafEq, andO, fillV, buildSV, Int.reduceGT, Int.reduceGE, Int.reduceBNe, IntWalk.u64_in, newsV_s, tassV, isnV, slcV, slcAV, slcTV, slcB, appNew, Option.bind_some, Option.bind_none, eqsV, lookV, mupdV, mdelV, mkM, ev1, ev2]
    refine ⟨_, _, _, rfl, ?_, ?_, .inl ⟨rfl, rfl⟩⟩
    · exact good_new (good_new (good_new (good_new hN)))
    · exact fr_new (good_new (good_new (good_new hN))) (fr_new (good_new (good_new hN)) (fr_new (good_new hN) (fr_new hN Fr.refl 0) 0) 0) 0
  have c1 : (l.length : Int) ≤ ((h + 2 * p : Nat) : Int) := by omega
  have hLG : 1 + 2 * l.length ≤ LG p h := by unfold LG; omega
  have n3 : (0 : Int) ≤ (LG p h : Int) := by omega
  have n4 : (LG p h : Int) ≤ (LG p h : Int) := Int.le_refl _
  have n5 : (LG p h : Int) ≤ 140737488355328 := by omega
  have n6 : (8 : Int) * (LG p h : Int) ≤ 140737488355328 := by omega
  have n7 : 0 < LG p h := by omega
  have v0 : wr (fl w1 (List.replicate (LG p h) 0)) 0 [.int .u64 (l.length : Int)] = some (fl w1 (oW (LG p h) l 0)) := by
    have := wr_fl w1_len (List.replicate (LG p h) 0) 0 0 [.int .u64 (l.length : Int)] 0 (l.length : Int) (by rw [List.length_replicate]; omega) (by simp) rfl
    rw [Nat.zero_mul, Nat.add_zero] at this
    rw [this]
    congr 2
    unfold oW
    rw [show LG p h = (LG p h - 1 - 2 * 0) + 1 by omega, List.replicate_succ]
    simp [pkL]
  simp -implicitDefEqProofs (maxSteps := 10000000) (disch := omega) only [TwlogPack, LwlogPack, GwlogPack_13, V13_eq, GwlogPack_wlogpack, Vwlogpack, Twlogpack, Lwlogpack, Gwlogpack_11, V11_eq, Gwlogpack_wlogPlace, VwlogPlace_eq, Gwlogpack_wlogmost, Vwlogmost_eq, Gwlogpack_wlogwant, Vwlogwant, Twlogwant, Lwlogwant, GwlogPack_wlogwant, DwlogPack_wlogcaught, Uwlogcaught, Lwlogcaught, hB, hR, hI, lenV_sl, Int.toNat_natCast, bft, btf, gtst, st_len, e1, e2, e3, hll, c1, n3, n4, n5, n6, n7, rep_w1, v0, Nat.mul_one, pad, lightV, bt, bf, evs, gt, st, binV, arith, isSh, storeV, all1, idxAV, fieldV, faddrV, iaddrSV, iaddrAV, pickV, convV, unV, eqbV, eqpV, extV, mm2, mmV, nilckV, ress, res1, retV, Value.cells, reduceIte, reduceCtorEq, Int.reduceLT, Int.reduceLE, Int.reduceToNat, Int.reduceAdd, Int.reduceSub, Int.reduceMul, Int.reduceNeg, Nat.reduceMul, Nat.reduceAdd, Nat.reduceSub, Nat.reduceBEq, Nat.reduceEqDiff, Nat.reduceLT, Nat.reduceLeDiff, Int.reduceBEq, Int.reduceEq, Nat.reducePow, Int.reducePow, IntWalk.i64_in, IntKind.bits, eqAV, eqL, leafEq, andO, fillV, buildSV, Int.reduceGT, Int.reduceGE, Int.reduceBNe, IntWalk.u64_in, newsV_s, tassV, isnV, slcV, slcAV, slcTV, slcB, appNew, Option.bind_some, Option.bind_none, eqsV, lookV, mupdV, mdelV, mkM, ev1, ev2]
  obtain ⟨HH, hHH⟩ : ∃ HH, HH = (N.n 4, KB.map .i64 fun _ => none) :: (N.n 3, .cells (fl w1 (oW (LG p h) l 0)) (LG p h)) :: (N.n 2, .cells [.int .i64 (kk : Int), .int .i64 (p : Int), .int .i64 (cc : Int)] 3) :: (N.n 1, .cells [.int .i64 0] 1) :: (N.n 0, .cells [.int .i64 (kk : Int), .int .i64 (p : Int), .int .i64 (cc : Int)] 3) :: H := ⟨_, rfl⟩
  have gH : good B HH (sh (sh (sh (sh (sh N))))) := by rw [hHH]; exact good_new (good_new (good_new (good_new (good_new hN))))
  have fH : Fr H HH := by
    rw [hHH]
    have a1 := good_new (k := .cells [.int .i64 (kk : Int), .int .i64 (p : Int), .int .i64 (cc : Int)] 3) hN
    have a2 := good_new (k := .cells [.int .i64 0] 1) a1
    have a3 := good_new (k := .cells [.int .i64 (kk : Int), .int .i64 (p : Int), .int .i64 (cc : Int)] 3) a2
    have a4 := good_new (k := .cells (fl w1 (oW (LG p h) l 0)) (LG p h)) a3
    exact fr_new a4 (fr_new a3 (fr_new a2 (fr_new a1 (fr_new hN Fr.refl 0) 0) 0) 0) 0
  have q1 : lk HH (N.n 1) = some (.cells [.int .i64 0] 1) := by rw [hHH]; simp only [lk_cons, hI]; rfl
  have q2 : lk HH (N.n 2) = some (.cells [.int .i64 (kk : Int), .int .i64 (p : Int), .int .i64 (cc : Int)] 3) := by rw [hHH]; simp only [lk_cons, hI]; rfl
  have q3 : lk HH (N.n 3) = some (.cells (fl w1 (oW (LG p h) l 0)) (LG p h)) := by rw [hHH]; simp only [lk_cons, hI]; rfl
  have q4 : lk HH (N.n 4) = some (.map .i64 (mfn l 0)) := by rw [hHH, mfn_0]; simp only [lk_cons, hI]; rfl
  have ne : ∀ i j, i ≠ j → N.n i ≠ N.n j := fun i j hij e => by
    have := hI i j
    rw [e] at this; simp at this; exact hij this
  rw [← hHH]
  generalize hX : exec B _ _ (LC.loop _) _ = o
  obtain ⟨x, ⟨ts, H1, N1⟩, ho, g1, fr1, fk, hr⟩ := (show Ok o _ by rw [← hX]; exact loopPk (c := N.n 2) (bo := N.n 3) (m := N.n 4) hT C hl hw hlen gH fH (hB 2) (hB 3) (hB 4) (lk_N hN 3) (lk_N hN 4) (lk_N hN 2) q2 q3 q4 (ne 2 3 (by decide)) (ne 2 4 (by decide)) ⟨rfl, rfl, rfl, rfl, rfl, rfl, rfl⟩ (by omega))
  subst ho
  simp only at g1 fr1 fk hr
  have q1' := fk _ _ (ne 1 3 (by decide)) (ne 1 4 (by decide)) q1
  have b1 := hB 1
  have r1 := fun o n => rdB_none (o := o) (n := n) b1
  have gu := fun k => good_up (k := k) g1 b1 q1'
  have fu := fun k => fr_up (k := k) fr1 (lk_N hN 1)
  rcases hr with ⟨rfl, hok, lo, kp⟩ | ⟨rfl, hbad⟩
  · have he := packE_ok (by omega) hok
    rw [he, if_pos rfl]
    have n13 : (N.n 3 == N.n 1) = false := by rw [hI]; rfl
    simp -implicitDefEqProofs (maxSteps := 10000000) (disch := omega) only [TwlogPack, LwlogPack, GwlogPack_13, V13_eq, GwlogPack_wlogpack, Vwlogpack, Twlogpack, Lwlogpack, Gwlogpack_11, V11_eq, Gwlogpack_wlogPlace, VwlogPlace_eq, Gwlogpack_wlogmost, Vwlogmost_eq, Gwlogpack_wlogwant, Vwlogwant, Twlogwant, Lwlogwant, GwlogPack_wlogwant, DwlogPack_wlogcaught, Uwlogcaught, Lwlogcaught, hB, hR, hI, kp.l, kp.t2, kp.t5, kp.t6, kp.t28, kp.t29, kp.t30, lenV_sl, Int.toNat_natCast, bft, btf, gtst, st_len, q1', b1, r1, pad, lightV, bt, bf, evs, gt, st, binV, arith, isSh, storeV, all1, idxAV, fieldV, faddrV, iaddrSV, iaddrAV, pickV, convV, unV, eqbV, eqpV, extV, mm2, mmV, nilckV, ress, res1, retV, Value.cells, reduceIte, reduceCtorEq, Int.reduceLT, Int.reduceLE, Int.reduceToNat, Int.reduceAdd, Int.reduceSub, Int.reduceMul, Int.reduceNeg, Nat.reduceMul, Nat.reduceAdd, Nat.reduceSub, Nat.reduceBEq, Nat.reduceEqDiff, Nat.reduceLT, Nat.reduceLeDiff, Int.reduceBEq, Int.reduceEq, Nat.reducePow, Int.reducePow, IntWalk.i64_in, IntKind.bits, eqAV, eqL, leafEq, andO, fillV, buildSV, Int.reduceGT, Int.reduceGE, Int.reduceBNe, IntWalk.u64_in, newsV_s, tassV, isnV, slcV, slcAV, slcTV, slcB, appNew, Option.bind_some, Option.bind_none, eqsV, lookV, mupdV, mdelV, mkM, ev1, ev2]
    refine ⟨_, _, _, rfl, gu _, fu _, .inr ⟨N.n 3, LG p h, by rw [packW_len hlen], hB 3, lk_N hN 3, by rw [packW_len hlen]; exact Nat.le_refl _, ?_⟩⟩
    rw [lk_upH, n13, cond_false, Nat.mul_one]
    exact lo
  · have he := packE_bad (by omega) hbad
    rw [he, if_neg (by decide)]
    have m1 := ne_N g1 q1'
    have m1' := ne_N' g1 q1'
    simp -implicitDefEqProofs (maxSteps := 10000000) (disch := omega) only [TwlogPack, LwlogPack, GwlogPack_13, V13_eq, GwlogPack_wlogpack, Vwlogpack, Twlogpack, Lwlogpack, Gwlogpack_11, V11_eq, Gwlogpack_wlogPlace, VwlogPlace_eq, Gwlogpack_wlogmost, Vwlogmost_eq, Gwlogpack_wlogwant, Vwlogwant, Twlogwant, Lwlogwant, GwlogPack_wlogwant, DwlogPack_wlogcaught, Uwlogcaught, Lwlogcaught, hB, hR, hI, lenV_sl, Int.toNat_natCast, bft, btf, gtst, st_len, q1', b1, r1, m1, m1', good_B g1, good_rdB g1, pad, lightV, bt, bf, evs, gt, st, binV, arith, isSh, storeV, all1, idxAV, fieldV, faddrV, iaddrSV, iaddrAV, pickV, convV, unV, eqbV, eqpV, extV, mm2, mmV, nilckV, ress, res1, retV, Value.cells, reduceIte, reduceCtorEq, Int.reduceLT, Int.reduceLE, Int.reduceToNat, Int.reduceAdd, Int.reduceSub, Int.reduceMul, Int.reduceNeg, Nat.reduceMul, Nat.reduceAdd, Nat.reduceSub, Nat.reduceBEq, Nat.reduceEqDiff, Nat.reduceLT, Nat.reduceLeDiff, Int.reduceBEq, Int.reduceEq, Nat.reducePow, Int.reducePow, IntWalk.i64_in, IntKind.bits, eqAV, eqL, leafEq, andO, fillV, buildSV, Int.reduceGT, Int.reduceGE, Int.reduceBNe, IntWalk.u64_in, newsV_s, tassV, isnV, slcV, slcAV, slcTV, slcB, appNew, Option.bind_some, Option.bind_none, eqsV, lookV, mupdV, mdelV, mkM, ev1, ev2]
    refine ⟨_, _, _, rfl, ?_, ?_, .inl ⟨rfl, rfl⟩⟩
    · exact good_new (k := .cells [.int .i64 1] 1) (gu (.cells [.int .i64 1] 1)) |> fun h => by simpa only [upH_cons, m1, cond_false] using h
    · exact fr_new (k := .cells [.int .i64 1] 1) (gu (.cells [.int .i64 1] 1)) (fu (.cells [.int .i64 1] 1)) 0
theorem fPackn {B : OH} {H : HL} {N : St} {vl : Value} {k p c : Int} (hn : ¬ fitI k p c) (hN : good B H N) :
    ∃ v' H' N', VwlogPack B [.agg #[.int .i64 k, .int .i64 p, .int .i64 c], vl] H N = some (.ret (.tuple #[v', .int .i64 5]), H', N') ∧ good B H' N' ∧ Fr H H' ∧ SlN w1 1 B H H' v' ([] : List Int) := by
  have hB := good_B hN
  have hR := good_rdB hN
  have hI := beqN hN.1.1
  have hG : ∃ H N, good B H N := ⟨H, N, hN⟩
  have e1 := f13n hG k p c hn
  unfold VwlogPack
  simp -implicitDefEqProofs (maxSteps := 10000000) (disch := omega) only [TwlogPack, LwlogPack, GwlogPack_13, V13_eq, GwlogPack_wlogpack, Vwlogpack, Twlogpack, Lwlogpack, Gwlogpack_11, V11_eq, Gwlogpack_wlogPlace, VwlogPlace_eq, Gwlogpack_wlogmost, Vwlogmost_eq, Gwlogpack_wlogwant, Vwlogwant, Twlogwant, Lwlogwant, GwlogPack_wlogwant, DwlogPack_wlogcaught, Uwlogcaught, Lwlogcaught, hB, hR, hI, lenV_sl, Int.toNat_natCast, bft, btf, gtst, st_len, e1, pad, lightV, bt, bf, evs, gt, st, binV, arith, isSh, storeV, all1, idxAV, fieldV, faddrV, iaddrSV, iaddrAV, pickV, convV, unV, eqbV, eqpV, extV, mm2, mmV, nilckV, ress, res1, retV, Value.cells, reduceIte, reduceCtorEq, Int.reduceLT, Int.reduceLE, Int.reduceToNat, Int.reduceAdd, Int.reduceSub, Int.reduceMul, Int.reduceNeg, Nat.reduceMul, Nat.reduceAdd, Nat.reduceSub, Nat.reduceBEq, Nat.reduceEqDiff, Nat.reduceLT, Nat.reduceLeDiff, Int.reduceBEq, Int.reduceEq, Nat.reducePow, Int.reducePow, IntWalk.i64_in, IntKind.bits, eqAV, eqL, leafEq, andO, fillV, buildSV, Int.reduceGT, Int.reduceGE, Int.reduceBNe, IntWalk.u64_in, newsV_s, tassV, isnV, slcV, slcAV, slcTV, slcB, appNew, Option.bind_some, Option.bind_none, eqsV, lookV, mupdV, mdelV, mkM, ev1, ev2]
  refine ⟨_, _, _, rfl, ?_, ?_, .inl ⟨rfl, rfl⟩⟩
  · exact good_new (good_new (good_new hN))
  · exact fr_new (good_new (good_new hN)) (fr_new (good_new hN) (fr_new hN Fr.refl 0) 0) 0
end Go.Proofs.YtfhiplfagejfoaaDoor
