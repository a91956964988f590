/- Own text: the log of writes, part TwA: contracts of the functions that the laws of the log call. -/
import Derived.Test.YtfhiplfagejfoaaDoorOwnA
set_option linter.unusedSimpArgs false
set_option linter.unusedVariables false
namespace Go.Proofs.YtfhiplfagejfoaaDoor
open Go.Proofs.YtfhiplfagejfoaaDoor.K Go.ChangeShapes Go.WideShapes Go.ChangeAt Go.RowKit
set_option maxRecDepth 100000
set_option linter.unusedSimpArgs false
set_option linter.unusedVariables false

theorem eqbI {a b : Int} (h : ¬ a = b) : (a == b) = false := by simpa using h
set_option maxHeartbeats 2000000 in
theorem f9n {B : OH} (hG : ∃ H N, good B H N) (hT : Tab B) {kk p cc h : Nat} (hk : 1 ≤ kk ∧ kk ≤ 5) (hp : 1 ≤ p ∧ p ≤ 16) (hc : 1 ≤ cc ∧ cc ≤ 256) (hm' : hm kk cc = (h : Int)) {a : Int} (ha : a < 0 ∨ (bs p h 5 : Int) ≤ a) : F9 B [.agg #[.int .i64 (kk : Int), .int .i64 (p : Int), .int .i64 (cc : Int)], .int .i64 a] = some (.tuple #[.int .i64 5, .int .i64 0, .int .i64 0]) := by
  refine kval_eq hG fun H N hN => ?_
  have hB := good_B hN
  have hR := good_rdB hN
  have hI := beqN hN.1.1
  have e13 := f13 hG kk p cc (by omega) (by omega) (by omega)
  have hh : 1 ≤ h ∧ h ≤ 1026 := by have := hm_bounds (k := kk) (c := cc) (by omega) (by omega); omega
  simp -implicitDefEqProofs (maxSteps := 10000000) (disch := omega) only [T9, L9, G9_13, V13_eq, G9_15, V15, T15, L15, itR_17, hB, hR, hI, e13, pad, lightV, bt, bf, evs, gt, st, binV, arith, isSh, storeV, all1, idxAV, fieldV, faddrV, iaddrSV, iaddrAV, pickV, convV, unV, eqbV, eqpV, extV, lenV, mm2, mmV, nilckV, ress, res1, retV, Value.cells, reduceIte, reduceCtorEq, Int.reduceLT, Int.reduceLE, Int.reduceToNat, Int.reduceAdd, Int.reduceSub, Int.reduceMul, Int.reduceNeg, Nat.reduceMul, Nat.reduceAdd, Nat.reduceSub, Nat.reduceBEq, Nat.reduceEqDiff, Nat.reduceLT, Nat.reduceLeDiff, Int.reduceBEq, Int.reduceEq, Nat.reducePow, Int.reducePow, IntWalk.i64_in, IntKind.bits, eqAV, eqL, leafEq, andO, fillV, buildSV, Int.reduceGT, Int.reduceGE, Int.reduceBNe, IntWalk.u64_in, newsV_s, tassV, isnV, slcV, slcAV, slcTV, slcB, appNew, Option.bind_some, Option.bind_none, ev1, ev2]
  generalize hX : I17 B _ _ _ _ = o
  have hO : ∃ v H' N', o = some (.ret v, H', N') ∧ good B H' N' ∧ (∀ x, ¬ (x = N 7 ∨ x = N 1) → ∀ c, lk ((N.n 7, KB.loop (N.r 7) LSt.ready) :: (N.n 6, KB.dfr) :: (N.n 5, KB.cells [.int .i64 (kk : Int), .int .i64 (p : Int), .int .i64 (cc : Int)] 3) :: (N.n 4, KB.cells [.int .i64 0] 1) :: (N.n 3, KB.cells [.int .i64 0] 1) :: (N.n 2, KB.cells [.int .i64 0] 1) :: (N.n 1, KB.cells [.int .i64 a] 1) :: (N.n 0, KB.cells [.int .i64 (kk : Int), .int .i64 (p : Int), .int .i64 (cc : Int)] 3) :: H) x = some c → lk H' x = some c) ∧ ((lk H' (N 7) = some (.loop (N.r 7) .ready) ∧ lk H' (N 1) = some (.cells [.int .i64 a] 1)) ∨ (False)) := by
    rw [← hX]
    refine it17 (kk := kk) (cc := cc) (Own := fun x => x = N 7 ∨ x = N 1) (J := fun kx ox H' => lk H' (N 7) = some (.loop (N.r 7) .ready) ∧ lk H' (N 1) = some (.cells [.int .i64 a] 1)) (Jx := fun H' => False) hT ⟨?_, ?_, ?_, ?_⟩ hk hp hc hm' ?_ ?_ ?_ ?_ ?_
    · rintro k o H b ⟨h7, h1⟩ (rfl | rfl)
      · exact ⟨_, h7⟩
      · exact ⟨_, h1⟩
    · rintro k o H H' ⟨h7, h1⟩ g
      exact ⟨(g _ (by simp)).trans h7, (g _ (by simp)).trans h1⟩
    · rintro k H ⟨h7, h1⟩
      exact ⟨h7, h1⟩
    · rintro k o H N1 hk5 ho ⟨h7, h1⟩ hN1
      have hBo := hB
      have hB := good_B hN1
      have hR := good_rdB hN1
      have hI := beqN hN1.1.1
      have hIo := beqN hN.1.1
      have b7 := hBo 7
      have r7 := fun o n => rdB_none (o := o) (n := n) b7
      have m7 := fun j => ne_good hN1 b7 h7 j
      have w7 := fun j => ne_good' hN1 b7 h7 j
      have b1 := hBo 1
      have r1 := fun o n => rdB_none (o := o) (n := n) b1
      have m1 := fun j => ne_good hN1 b1 h1 j
      have w1 := fun j => ne_good' hN1 b1 h1 j
      have hb := fr_bnd (k := k) (o := o) hp hh hk5 ho
      have hs : (fr p h k (o + 1) : Int) = (fr p h k o : Int) + (sz p h k : Int) := by rw [fr_succ]; omega
      simp only [wy_same, y_call]
      unfold pt
      have q12 : (¬ (a ≥ (fr p h k o : Int))) ∨ (a ≥ (fr p h k o : Int) ∧ ¬ a < (fr p h k o : Int) + (sz p h k : Int)) := by
        have h1 := fr_lt (p := p) (h := h) ho (show Lt k o (k + 1) 0 from .inl (by omega))
        have h2 : bs p h (k + 1) ≤ bs p h 5 := bs_mono (by omega)
        rw [fr_zero] at h1
        omega
      rcases q12 with q1 | ⟨q1, q2⟩
      · simp -implicitDefEqProofs (maxSteps := 10000000) (disch := omega) only [T9, L9, G9_13, V13_eq, G9_15, V15, T15, L15, itR_17, hB, hR, hI, h7, b7, r7, m7, w7, h1, b1, r1, m1, w1, hIo, q1, pad, lightV, bt, bf, evs, gt, st, binV, arith, isSh, storeV, all1, idxAV, fieldV, faddrV, iaddrSV, iaddrAV, pickV, convV, unV, eqbV, eqpV, extV, lenV, mm2, mmV, nilckV, ress, res1, retV, Value.cells, reduceIte, reduceCtorEq, Int.reduceLT, Int.reduceLE, Int.reduceToNat, Int.reduceAdd, Int.reduceSub, Int.reduceMul, Int.reduceNeg, Nat.reduceMul, Nat.reduceAdd, Nat.reduceSub, Nat.reduceBEq, Nat.reduceEqDiff, Nat.reduceLT, Nat.reduceLeDiff, Int.reduceBEq, Int.reduceEq, Nat.reducePow, Int.reducePow, IntWalk.i64_in, IntKind.bits, eqAV, eqL, leafEq, andO, fillV, buildSV, Int.reduceGT, Int.reduceGE, Int.reduceBNe, IntWalk.u64_in, newsV_s, tassV, isnV, slcV, slcAV, slcTV, slcB, appNew, Option.bind_some, Option.bind_none, ev1, ev2]
        refine ⟨true, _, _, rfl, good_set (k' := .loop (N.r 7) .busy) (good_set (k' := .loop (N.r 7) .ready) (good_new hN1) b7 ?_) b7 ?_, fun x hx c hc => ?_, fun _ => ?_, fun h => (by cases h)⟩
        · simp -implicitDefEqProofs (maxSteps := 10000000) (disch := omega) only [T9, L9, G9_13, V13_eq, G9_15, V15, T15, L15, itR_17, hB, hR, hI, h7, b7, r7, m7, w7, h1, b1, r1, m1, w1, hIo, pad, lightV, bt, bf, evs, gt, st, binV, arith, isSh, storeV, all1, idxAV, fieldV, faddrV, iaddrSV, iaddrAV, pickV, convV, unV, eqbV, eqpV, extV, lenV, mm2, mmV, nilckV, ress, res1, retV, Value.cells, reduceIte, reduceCtorEq, Int.reduceLT, Int.reduceLE, Int.reduceToNat, Int.reduceAdd, Int.reduceSub, Int.reduceMul, Int.reduceNeg, Nat.reduceMul, Nat.reduceAdd, Nat.reduceSub, Nat.reduceBEq, Nat.reduceEqDiff, Nat.reduceLT, Nat.reduceLeDiff, Int.reduceBEq, Int.reduceEq, Nat.reducePow, Int.reducePow, IntWalk.i64_in, IntKind.bits, eqAV, eqL, leafEq, andO, fillV, buildSV, Int.reduceGT, Int.reduceGE, Int.reduceBNe, IntWalk.u64_in, newsV_s, tassV, isnV, slcV, slcAV, slcTV, slcB, appNew, Option.bind_some, Option.bind_none, ev1, ev2]
        · simp -implicitDefEqProofs (maxSteps := 10000000) (disch := omega) only [T9, L9, G9_13, V13_eq, G9_15, V15, T15, L15, itR_17, hB, hR, hI, h7, b7, r7, m7, w7, h1, b1, r1, m1, w1, hIo, pad, lightV, bt, bf, evs, gt, st, binV, arith, isSh, storeV, all1, idxAV, fieldV, faddrV, iaddrSV, iaddrAV, pickV, convV, unV, eqbV, eqpV, extV, lenV, mm2, mmV, nilckV, ress, res1, retV, Value.cells, reduceIte, reduceCtorEq, Int.reduceLT, Int.reduceLE, Int.reduceToNat, Int.reduceAdd, Int.reduceSub, Int.reduceMul, Int.reduceNeg, Nat.reduceMul, Nat.reduceAdd, Nat.reduceSub, Nat.reduceBEq, Nat.reduceEqDiff, Nat.reduceLT, Nat.reduceLeDiff, Int.reduceBEq, Int.reduceEq, Nat.reducePow, Int.reducePow, IntWalk.i64_in, IntKind.bits, eqAV, eqL, leafEq, andO, fillV, buildSV, Int.reduceGT, Int.reduceGE, Int.reduceBNe, IntWalk.u64_in, newsV_s, tassV, isnV, slcV, slcAV, slcTV, slcB, appNew, Option.bind_some, Option.bind_none, ev1, ev2]
        · have xn := ne_of_lk hN1 hc 0
          have x7 := eqb (fun h : x = N 7 => hx (by simp [h]))
          have x1 := eqb (fun h : x = N 1 => hx (by simp [h]))
          simp -implicitDefEqProofs (maxSteps := 10000000) (disch := omega) only [T9, L9, G9_13, V13_eq, G9_15, V15, T15, L15, itR_17, hB, hR, hI, xn, hc, x7, x1, pad, lightV, bt, bf, evs, gt, st, binV, arith, isSh, storeV, all1, idxAV, fieldV, faddrV, iaddrSV, iaddrAV, pickV, convV, unV, eqbV, eqpV, extV, lenV, mm2, mmV, nilckV, ress, res1, retV, Value.cells, reduceIte, reduceCtorEq, Int.reduceLT, Int.reduceLE, Int.reduceToNat, Int.reduceAdd, Int.reduceSub, Int.reduceMul, Int.reduceNeg, Nat.reduceMul, Nat.reduceAdd, Nat.reduceSub, Nat.reduceBEq, Nat.reduceEqDiff, Nat.reduceLT, Nat.reduceLeDiff, Int.reduceBEq, Int.reduceEq, Nat.reducePow, Int.reducePow, IntWalk.i64_in, IntKind.bits, eqAV, eqL, leafEq, andO, fillV, buildSV, Int.reduceGT, Int.reduceGE, Int.reduceBNe, IntWalk.u64_in, newsV_s, tassV, isnV, slcV, slcAV, slcTV, slcB, appNew, Option.bind_some, Option.bind_none, ev1, ev2]
        · refine ⟨?_, ?_⟩
          all_goals simp -implicitDefEqProofs (maxSteps := 10000000) (disch := omega) only [T9, L9, G9_13, V13_eq, G9_15, V15, T15, L15, itR_17, hB, hR, hI, h7, b7, r7, m7, w7, h1, b1, r1, m1, w1, hIo, pad, lightV, bt, bf, evs, gt, st, binV, arith, isSh, storeV, all1, idxAV, fieldV, faddrV, iaddrSV, iaddrAV, pickV, convV, unV, eqbV, eqpV, extV, lenV, mm2, mmV, nilckV, ress, res1, retV, Value.cells, reduceIte, reduceCtorEq, Int.reduceLT, Int.reduceLE, Int.reduceToNat, Int.reduceAdd, Int.reduceSub, Int.reduceMul, Int.reduceNeg, Nat.reduceMul, Nat.reduceAdd, Nat.reduceSub, Nat.reduceBEq, Nat.reduceEqDiff, Nat.reduceLT, Nat.reduceLeDiff, Int.reduceBEq, Int.reduceEq, Nat.reducePow, Int.reducePow, IntWalk.i64_in, IntKind.bits, eqAV, eqL, leafEq, andO, fillV, buildSV, Int.reduceGT, Int.reduceGE, Int.reduceBNe, IntWalk.u64_in, newsV_s, tassV, isnV, slcV, slcAV, slcTV, slcB, appNew, Option.bind_some, Option.bind_none, ev1, ev2]
      · simp -implicitDefEqProofs (maxSteps := 10000000) (disch := omega) only [T9, L9, G9_13, V13_eq, G9_15, V15, T15, L15, itR_17, hB, hR, hI, h7, b7, r7, m7, w7, h1, b1, r1, m1, w1, hIo, q1, q2, pad, lightV, bt, bf, evs, gt, st, binV, arith, isSh, storeV, all1, idxAV, fieldV, faddrV, iaddrSV, iaddrAV, pickV, convV, unV, eqbV, eqpV, extV, lenV, mm2, mmV, nilckV, ress, res1, retV, Value.cells, reduceIte, reduceCtorEq, Int.reduceLT, Int.reduceLE, Int.reduceToNat, Int.reduceAdd, Int.reduceSub, Int.reduceMul, Int.reduceNeg, Nat.reduceMul, Nat.reduceAdd, Nat.reduceSub, Nat.reduceBEq, Nat.reduceEqDiff, Nat.reduceLT, Nat.reduceLeDiff, Int.reduceBEq, Int.reduceEq, Nat.reducePow, Int.reducePow, IntWalk.i64_in, IntKind.bits, eqAV, eqL, leafEq, andO, fillV, buildSV, Int.reduceGT, Int.reduceGE, Int.reduceBNe, IntWalk.u64_in, newsV_s, tassV, isnV, slcV, slcAV, slcTV, slcB, appNew, Option.bind_some, Option.bind_none, ev1, ev2]
        refine ⟨true, _, _, rfl, good_set (k' := .loop (N.r 7) .busy) (good_set (k' := .loop (N.r 7) .ready) (good_new hN1) b7 ?_) b7 ?_, fun x hx c hc => ?_, fun _ => ?_, fun h => (by cases h)⟩
        · simp -implicitDefEqProofs (maxSteps := 10000000) (disch := omega) only [T9, L9, G9_13, V13_eq, G9_15, V15, T15, L15, itR_17, hB, hR, hI, h7, b7, r7, m7, w7, h1, b1, r1, m1, w1, hIo, pad, lightV, bt, bf, evs, gt, st, binV, arith, isSh, storeV, all1, idxAV, fieldV, faddrV, iaddrSV, iaddrAV, pickV, convV, unV, eqbV, eqpV, extV, lenV, mm2, mmV, nilckV, ress, res1, retV, Value.cells, reduceIte, reduceCtorEq, Int.reduceLT, Int.reduceLE, Int.reduceToNat, Int.reduceAdd, Int.reduceSub, Int.reduceMul, Int.reduceNeg, Nat.reduceMul, Nat.reduceAdd, Nat.reduceSub, Nat.reduceBEq, Nat.reduceEqDiff, Nat.reduceLT, Nat.reduceLeDiff, Int.reduceBEq, Int.reduceEq, Nat.reducePow, Int.reducePow, IntWalk.i64_in, IntKind.bits, eqAV, eqL, leafEq, andO, fillV, buildSV, Int.reduceGT, Int.reduceGE, Int.reduceBNe, IntWalk.u64_in, newsV_s, tassV, isnV, slcV, slcAV, slcTV, slcB, appNew, Option.bind_some, Option.bind_none, ev1, ev2]
        · simp -implicitDefEqProofs (maxSteps := 10000000) (disch := omega) only [T9, L9, G9_13, V13_eq, G9_15, V15, T15, L15, itR_17, hB, hR, hI, h7, b7, r7, m7, w7, h1, b1, r1, m1, w1, hIo, pad, lightV, bt, bf, evs, gt, st, binV, arith, isSh, storeV, all1, idxAV, fieldV, faddrV, iaddrSV, iaddrAV, pickV, convV, unV, eqbV, eqpV, extV, lenV, mm2, mmV, nilckV, ress, res1, retV, Value.cells, reduceIte, reduceCtorEq, Int.reduceLT, Int.reduceLE, Int.reduceToNat, Int.reduceAdd, Int.reduceSub, Int.reduceMul, Int.reduceNeg, Nat.reduceMul, Nat.reduceAdd, Nat.reduceSub, Nat.reduceBEq, Nat.reduceEqDiff, Nat.reduceLT, Nat.reduceLeDiff, Int.reduceBEq, Int.reduceEq, Nat.reducePow, Int.reducePow, IntWalk.i64_in, IntKind.bits, eqAV, eqL, leafEq, andO, fillV, buildSV, Int.reduceGT, Int.reduceGE, Int.reduceBNe, IntWalk.u64_in, newsV_s, tassV, isnV, slcV, slcAV, slcTV, slcB, appNew, Option.bind_some, Option.bind_none, ev1, ev2]
        · have xn := ne_of_lk hN1 hc 0
          have x7 := eqb (fun h : x = N 7 => hx (by simp [h]))
          have x1 := eqb (fun h : x = N 1 => hx (by simp [h]))
          simp -implicitDefEqProofs (maxSteps := 10000000) (disch := omega) only [T9, L9, G9_13, V13_eq, G9_15, V15, T15, L15, itR_17, hB, hR, hI, xn, hc, x7, x1, pad, lightV, bt, bf, evs, gt, st, binV, arith, isSh, storeV, all1, idxAV, fieldV, faddrV, iaddrSV, iaddrAV, pickV, convV, unV, eqbV, eqpV, extV, lenV, mm2, mmV, nilckV, ress, res1, retV, Value.cells, reduceIte, reduceCtorEq, Int.reduceLT, Int.reduceLE, Int.reduceToNat, Int.reduceAdd, Int.reduceSub, Int.reduceMul, Int.reduceNeg, Nat.reduceMul, Nat.reduceAdd, Nat.reduceSub, Nat.reduceBEq, Nat.reduceEqDiff, Nat.reduceLT, Nat.reduceLeDiff, Int.reduceBEq, Int.reduceEq, Nat.reducePow, Int.reducePow, IntWalk.i64_in, IntKind.bits, eqAV, eqL, leafEq, andO, fillV, buildSV, Int.reduceGT, Int.reduceGE, Int.reduceBNe, IntWalk.u64_in, newsV_s, tassV, isnV, slcV, slcAV, slcTV, slcB, appNew, Option.bind_some, Option.bind_none, ev1, ev2]
        · refine ⟨?_, ?_⟩
          all_goals simp -implicitDefEqProofs (maxSteps := 10000000) (disch := omega) only [T9, L9, G9_13, V13_eq, G9_15, V15, T15, L15, itR_17, hB, hR, hI, h7, b7, r7, m7, w7, h1, b1, r1, m1, w1, hIo, pad, lightV, bt, bf, evs, gt, st, binV, arith, isSh, storeV, all1, idxAV, fieldV, faddrV, iaddrSV, iaddrAV, pickV, convV, unV, eqbV, eqpV, extV, lenV, mm2, mmV, nilckV, ress, res1, retV, Value.cells, reduceIte, reduceCtorEq, Int.reduceLT, Int.reduceLE, Int.reduceToNat, Int.reduceAdd, Int.reduceSub, Int.reduceMul, Int.reduceNeg, Nat.reduceMul, Nat.reduceAdd, Nat.reduceSub, Nat.reduceBEq, Nat.reduceEqDiff, Nat.reduceLT, Nat.reduceLeDiff, Int.reduceBEq, Int.reduceEq, Nat.reducePow, Int.reducePow, IntWalk.i64_in, IntKind.bits, eqAV, eqL, leafEq, andO, fillV, buildSV, Int.reduceGT, Int.reduceGE, Int.reduceBNe, IntWalk.u64_in, newsV_s, tassV, isnV, slcV, slcAV, slcTV, slcB, appNew, Option.bind_some, Option.bind_none, ev1, ev2]
    · rintro (h | h)
      all_goals { have g := hI 5; simp only [h, hI] at g; have g7 := g 7; have g1 := g 1; simp [h] at g7 g1 }
    · exact (good_new (good_new (good_new (good_new (good_new (good_new (good_new (good_new hN))))))))
    · simp -implicitDefEqProofs (maxSteps := 10000000) (disch := omega) only [T9, L9, G9_13, V13_eq, G9_15, V15, T15, L15, itR_17, hB, hR, hI, pad, lightV, bt, bf, evs, gt, st, binV, arith, isSh, storeV, all1, idxAV, fieldV, faddrV, iaddrSV, iaddrAV, pickV, convV, unV, eqbV, eqpV, extV, lenV, mm2, mmV, nilckV, ress, res1, retV, Value.cells, reduceIte, reduceCtorEq, Int.reduceLT, Int.reduceLE, Int.reduceToNat, Int.reduceAdd, Int.reduceSub, Int.reduceMul, Int.reduceNeg, Nat.reduceMul, Nat.reduceAdd, Nat.reduceSub, Nat.reduceBEq, Nat.reduceEqDiff, Nat.reduceLT, Nat.reduceLeDiff, Int.reduceBEq, Int.reduceEq, Nat.reducePow, Int.reducePow, IntWalk.i64_in, IntKind.bits, eqAV, eqL, leafEq, andO, fillV, buildSV, Int.reduceGT, Int.reduceGE, Int.reduceBNe, IntWalk.u64_in, newsV_s, tassV, isnV, slcV, slcAV, slcTV, slcB, appNew, Option.bind_some, Option.bind_none, ev1, ev2]
    · exact hB 5
    · refine ⟨?_, ?_⟩
      all_goals simp -implicitDefEqProofs (maxSteps := 10000000) (disch := omega) only [T9, L9, G9_13, V13_eq, G9_15, V15, T15, L15, itR_17, hB, hR, hI, pad, lightV, bt, bf, evs, gt, st, binV, arith, isSh, storeV, all1, idxAV, fieldV, faddrV, iaddrSV, iaddrAV, pickV, convV, unV, eqbV, eqpV, extV, lenV, mm2, mmV, nilckV, ress, res1, retV, Value.cells, reduceIte, reduceCtorEq, Int.reduceLT, Int.reduceLE, Int.reduceToNat, Int.reduceAdd, Int.reduceSub, Int.reduceMul, Int.reduceNeg, Nat.reduceMul, Nat.reduceAdd, Nat.reduceSub, Nat.reduceBEq, Nat.reduceEqDiff, Nat.reduceLT, Nat.reduceLeDiff, Int.reduceBEq, Int.reduceEq, Nat.reducePow, Int.reducePow, IntWalk.i64_in, IntKind.bits, eqAV, eqL, leafEq, andO, fillV, buildSV, Int.reduceGT, Int.reduceGE, Int.reduceBNe, IntWalk.u64_in, newsV_s, tassV, isnV, slcV, slcAV, slcTV, slcB, appNew, Option.bind_some, Option.bind_none, ev1, ev2]
  obtain ⟨v, H2, N2, rfl, g2, f2, ⟨h7, h1⟩ | h⟩ := hO
  · have hE : ∀ i j, (N.n i = N.n j) = (i = j) := fun i j => propext ⟨hN.1.1 i j, fun e => e ▸ rfl⟩
    have c2 := f2 (N 2) (by simp [hE]) (.cells [.int .i64 0] 1) (by simp -implicitDefEqProofs (maxSteps := 10000000) (disch := omega) only [hI, pad, lightV, e_loop, bt, bf, evs, gt, st, binV, arith, isSh, storeV, all1, idxAV, fieldV, faddrV, iaddrSV, iaddrAV, pickV, convV, unV, eqbV, eqpV, extV, lenV, mm2, mmV, nilckV, ress, res1, retV, Value.cells, reduceIte, reduceCtorEq, Int.reduceLT, Int.reduceLE, Int.reduceToNat, Int.reduceAdd, Int.reduceSub, Int.reduceMul, Int.reduceNeg, Nat.reduceMul, Nat.reduceAdd, Nat.reduceSub, Nat.reduceBEq, Nat.reduceEqDiff, Nat.reduceLT, Nat.reduceLeDiff, Int.reduceBEq, Int.reduceEq, Nat.reducePow, Int.reducePow, IntWalk.i64_in, IntKind.bits, eqAV, eqL, leafEq, andO, fillV, buildSV, Int.reduceGT, Int.reduceGE, Int.reduceBNe, IntWalk.u64_in, newsV_s, tassV, isnV, slcV, slcAV, slcTV, slcB, appNew, Option.bind_some, Option.bind_none, ev1, ev2])
    have c3 := f2 (N 3) (by simp [hE]) (.cells [.int .i64 0] 1) (by simp -implicitDefEqProofs (maxSteps := 10000000) (disch := omega) only [hI, pad, lightV, e_loop, bt, bf, evs, gt, st, binV, arith, isSh, storeV, all1, idxAV, fieldV, faddrV, iaddrSV, iaddrAV, pickV, convV, unV, eqbV, eqpV, extV, lenV, mm2, mmV, nilckV, ress, res1, retV, Value.cells, reduceIte, reduceCtorEq, Int.reduceLT, Int.reduceLE, Int.reduceToNat, Int.reduceAdd, Int.reduceSub, Int.reduceMul, Int.reduceNeg, Nat.reduceMul, Nat.reduceAdd, Nat.reduceSub, Nat.reduceBEq, Nat.reduceEqDiff, Nat.reduceLT, Nat.reduceLeDiff, Int.reduceBEq, Int.reduceEq, Nat.reducePow, Int.reducePow, IntWalk.i64_in, IntKind.bits, eqAV, eqL, leafEq, andO, fillV, buildSV, Int.reduceGT, Int.reduceGE, Int.reduceBNe, IntWalk.u64_in, newsV_s, tassV, isnV, slcV, slcAV, slcTV, slcB, appNew, Option.bind_some, Option.bind_none, ev1, ev2])
    have c4 := f2 (N 4) (by simp [hE]) (.cells [.int .i64 0] 1) (by simp -implicitDefEqProofs (maxSteps := 10000000) (disch := omega) only [hI, pad, lightV, e_loop, bt, bf, evs, gt, st, binV, arith, isSh, storeV, all1, idxAV, fieldV, faddrV, iaddrSV, iaddrAV, pickV, convV, unV, eqbV, eqpV, extV, lenV, mm2, mmV, nilckV, ress, res1, retV, Value.cells, reduceIte, reduceCtorEq, Int.reduceLT, Int.reduceLE, Int.reduceToNat, Int.reduceAdd, Int.reduceSub, Int.reduceMul, Int.reduceNeg, Nat.reduceMul, Nat.reduceAdd, Nat.reduceSub, Nat.reduceBEq, Nat.reduceEqDiff, Nat.reduceLT, Nat.reduceLeDiff, Int.reduceBEq, Int.reduceEq, Nat.reducePow, Int.reducePow, IntWalk.i64_in, IntKind.bits, eqAV, eqL, leafEq, andO, fillV, buildSV, Int.reduceGT, Int.reduceGE, Int.reduceBNe, IntWalk.u64_in, newsV_s, tassV, isnV, slcV, slcAV, slcTV, slcB, appNew, Option.bind_some, Option.bind_none, ev1, ev2])
    simp -implicitDefEqProofs (maxSteps := 10000000) (disch := omega) only [T9, L9, G9_13, V13_eq, G9_15, V15, T15, L15, itR_17, hB, hR, hI, h7, h1, c2, c3, c4, pad, lightV, bt, bf, evs, gt, st, binV, arith, isSh, storeV, all1, idxAV, fieldV, faddrV, iaddrSV, iaddrAV, pickV, convV, unV, eqbV, eqpV, extV, lenV, mm2, mmV, nilckV, ress, res1, retV, Value.cells, reduceIte, reduceCtorEq, Int.reduceLT, Int.reduceLE, Int.reduceToNat, Int.reduceAdd, Int.reduceSub, Int.reduceMul, Int.reduceNeg, Nat.reduceMul, Nat.reduceAdd, Nat.reduceSub, Nat.reduceBEq, Nat.reduceEqDiff, Nat.reduceLT, Nat.reduceLeDiff, Int.reduceBEq, Int.reduceEq, Nat.reducePow, Int.reducePow, IntWalk.i64_in, IntKind.bits, eqAV, eqL, leafEq, andO, fillV, buildSV, Int.reduceGT, Int.reduceGE, Int.reduceBNe, IntWalk.u64_in, newsV_s, tassV, isnV, slcV, slcAV, slcTV, slcB, appNew, Option.bind_some, Option.bind_none, ev1, ev2]
    refine ⟨_, _, rfl, ext_lk fun r x hr hx => ?_⟩
    have xn := ne_of_lk hN hx
    have q := f2 r (by
      rintro (rfl | rfl)
      all_goals simp [hI] at xn) x (by simp -implicitDefEqProofs (maxSteps := 10000000) (disch := omega) only [xn, hx, pad, lightV, e_loop, bt, bf, evs, gt, st, binV, arith, isSh, storeV, all1, idxAV, fieldV, faddrV, iaddrSV, iaddrAV, pickV, convV, unV, eqbV, eqpV, extV, lenV, mm2, mmV, nilckV, ress, res1, retV, Value.cells, reduceIte, reduceCtorEq, Int.reduceLT, Int.reduceLE, Int.reduceToNat, Int.reduceAdd, Int.reduceSub, Int.reduceMul, Int.reduceNeg, Nat.reduceMul, Nat.reduceAdd, Nat.reduceSub, Nat.reduceBEq, Nat.reduceEqDiff, Nat.reduceLT, Nat.reduceLeDiff, Int.reduceBEq, Int.reduceEq, Nat.reducePow, Int.reducePow, IntWalk.i64_in, IntKind.bits, eqAV, eqL, leafEq, andO, fillV, buildSV, Int.reduceGT, Int.reduceGE, Int.reduceBNe, IntWalk.u64_in, newsV_s, tassV, isnV, slcV, slcAV, slcTV, slcB, appNew, Option.bind_some, Option.bind_none, ev1, ev2])
    simp -implicitDefEqProofs (maxSteps := 10000000) (disch := omega) only [T9, L9, G9_13, V13_eq, G9_15, V15, T15, L15, itR_17, hB, hR, hI, xn, q, pad, lightV, bt, bf, evs, gt, st, binV, arith, isSh, storeV, all1, idxAV, fieldV, faddrV, iaddrSV, iaddrAV, pickV, convV, unV, eqbV, eqpV, extV, lenV, mm2, mmV, nilckV, ress, res1, retV, Value.cells, reduceIte, reduceCtorEq, Int.reduceLT, Int.reduceLE, Int.reduceToNat, Int.reduceAdd, Int.reduceSub, Int.reduceMul, Int.reduceNeg, Nat.reduceMul, Nat.reduceAdd, Nat.reduceSub, Nat.reduceBEq, Nat.reduceEqDiff, Nat.reduceLT, Nat.reduceLeDiff, Int.reduceBEq, Int.reduceEq, Nat.reducePow, Int.reducePow, IntWalk.i64_in, IntKind.bits, eqAV, eqL, leafEq, andO, fillV, buildSV, Int.reduceGT, Int.reduceGE, Int.reduceBNe, IntWalk.u64_in, newsV_s, tassV, isnV, slcV, slcAV, slcTV, slcB, appNew, Option.bind_some, Option.bind_none, ev1, ev2]
  · exact h.elim
/-- whitewash/region.At -/
def L10 : FnL := ⟨(.seq (.ops [⟨(some 3), .box (.tmp 0), none⟩, ⟨(some 4), .box (.tmp 1), none⟩, ⟨(some 5), .box (.tmp 2), none⟩, ⟨(some 6), .alloc [(.int .i64 0)], none⟩, ⟨(some 7), .alloc [(.int .i64 0)], none⟩])
 (.seq (.block 0 (.seq (.ops [⟨(some 10), .load true 3 (.tmp 3), none⟩, ⟨(some 11), .call (.func 45) [(.tmp 10)], none⟩, ⟨(some 12), .un .not (.tmp 11), none⟩, ⟨(some 9), .mv (.tmp 12), none⟩])
 (.cond (.tmp 9) (.seq (.ops [⟨none, .store 1 (.tmp 6) (.const (.int .i64 0)), none⟩, ⟨none, .store 1 (.tmp 7) (.const (.int .i64 5)), none⟩])
 .ret)
 (.seq (.seq (.ops [⟨(some 14), .load false 1 (.tmp 4), none⟩, ⟨(some 15), .bin .lss (.tmp 14) (.const (.int .i64 0)), none⟩, ⟨(some 13), .mv (.tmp 15), none⟩])
 (.cond (.tmp 13) .skip
 (.seq (.ops [⟨(some 16), .load false 1 (.tmp 4), none⟩, ⟨(some 17), .bin .gtr (.tmp 16) (.const (.int .i64 4)), none⟩, ⟨(some 13), .mv (.tmp 17), none⟩])
 (.cond (.tmp 13) .skip
 (.seq (.ops [⟨(some 18), .load false 1 (.tmp 5), none⟩, ⟨(some 19), .bin .lss (.tmp 18) (.const (.int .i64 0)), none⟩, ⟨(some 13), .mv (.tmp 19), none⟩])
 (.cond (.tmp 13) .skip
 (.ops [⟨(some 20), .load false 1 (.tmp 5), none⟩, ⟨(some 21), .faddr 1 (.tmp 3), none⟩, ⟨(some 22), .load false 1 (.tmp 21), none⟩, ⟨(some 23), .bin .geq (.tmp 20) (.tmp 22), none⟩, ⟨(some 13), .mv (.tmp 23), none⟩])))))))
 (.cond (.tmp 13) (.seq (.ops [⟨none, .store 1 (.tmp 6) (.const (.int .i64 0)), none⟩, ⟨none, .store 1 (.tmp 7) (.const (.int .i64 1)), none⟩])
 .ret)
 (.seq (.seq (.ops [⟨(some 25), .load false 1 (.tmp 4), none⟩, ⟨(some 26), .bin .eql (.tmp 25) (.const (.int .i64 0)), none⟩, ⟨(some 24), .mv (.tmp 26), none⟩])
 (.cond (.tmp 24) .skip
 (.ops [⟨(some 27), .load false 1 (.tmp 4), none⟩, ⟨(some 28), .bin .eql (.tmp 27) (.const (.int .i64 4)), none⟩, ⟨(some 24), .mv (.tmp 28), none⟩])))
 (.cond (.tmp 24) (.ops [⟨none, .store 1 (.tmp 5) (.const (.int .i64 0)), none⟩])
 .skip)))))))
 (.seq (.seq (.ops [⟨(some 29), .load true 3 (.tmp 3), none⟩, ⟨(some 30), .call (.func 56) [(.tmp 29)], none⟩])
 (.block 1 (.range (.tmp 30) [31] (.ops [⟨(some 8), .alloc [(.int .i64 0), (.int .i64 0), (.int .i64 0), (.int .i64 0)], none⟩, ⟨none, .store 4 (.tmp 8) (.tmp 31), none⟩])
 (.block 2 (.seq (.ops [⟨(some 32), .faddr 0 (.tmp 8), none⟩, ⟨(some 33), .load false 1 (.tmp 32), none⟩, ⟨(some 34), .load false 1 (.tmp 4), none⟩, ⟨(some 35), .bin .eql (.tmp 33) (.tmp 34), none⟩, ⟨(some 36), .mv (.tmp 35), none⟩, ⟨(some 37), .faddr 1 (.tmp 8), (some (36, true))⟩, ⟨(some 38), .load false 1 (.tmp 37), (some (36, true))⟩, ⟨(some 39), .load false 1 (.tmp 5), (some (36, true))⟩, ⟨(some 40), .bin .eql (.tmp 38) (.tmp 39), (some (36, true))⟩, ⟨(some 41), .pick (.tmp 36) (.tmp 40) (.const (.bool false)), none⟩])
 (.cond (.tmp 41) (.seq (.ops [⟨(some 42), .faddr 2 (.tmp 8), none⟩, ⟨(some 43), .load false 1 (.tmp 42), none⟩, ⟨none, .store 1 (.tmp 6) (.tmp 43), none⟩, ⟨none, .store 1 (.tmp 7) (.const (.int .i64 0)), none⟩])
 .ret)
 .skip))))))
 (.seq (.ops [⟨none, .store 1 (.tmp 6) (.const (.int .i64 0)), none⟩, ⟨none, .store 1 (.tmp 7) (.const (.int .i64 1)), none⟩])
 .ret)))),
 44, [.cell 6 false 1, .cell 7 false 1]⟩
theorem low10 : lowerFn Tryd.prog Tryd.f31 = some L10 := by kernel_rfl
noncomputable def G10 (B : OH) : Nat → Cs
  | 45 => V13 B
  | 56 => V15 B
  | _ => fun _ _ _ => none
theorem G10_13 {B : OH} : G10 B 45 = V13 B := rfl
theorem G10_15 {B : OH} : G10 B 56 = V15 B := rfl
noncomputable abbrev E10 (B : OH) : Env := { f := G10 B, it := itR B }
theorem sG10 {w0 : World} {B : OH} : SoundG Tryd.prog w0 B (E10 B) :=
  ⟨fun k => by
    show (∀ args H N, G10 B k args H N = none) ∨ _
    unfold G10
    split
    · exact .inr ⟨en13, sV13⟩
    · exact .inr ⟨en15, sV15⟩
    · exact .inl fun _ _ _ => rfl, fun _ => .inl fun _ _ _ => rfl, sItR⟩
theorem en10 : Enter Tryd.prog 31 := .of Tryd.func31 (by kernel_rfl) (by kernel_rfl)
noncomputable def T10 (B : OH) : Cs := callF B (E10 B) 300 L10
theorem sT10 {w0 : World} {B : OH} : SoundC Tryd.prog w0 B 31 (T10 B) := callF_sound mixedOrders sG10 300 Tryd.func31 low10
noncomputable def F10 (B : OH) : List Value → Option Value := kval B (T10 B)
noncomputable def V10 (B : OH) : Cs := fun a H N => pvE (F10 B a) H N
theorem V10_eq {B : OH} {a : List Value} {H : HL} {N : St} : V10 B a H N = pvE (F10 B a) H N := rfl
theorem sV10 {w0 : World} {B : OH} : SoundC Tryd.prog w0 B 31 (V10 B) := sT10.ofVal
set_option maxHeartbeats 4000000 in
theorem f10a {B : OH} (hG : ∃ H N, good B H N) (hT : Tab B) {kk p cc h : Nat} (hk : 1 ≤ kk ∧ kk ≤ 5) (hp : 1 ≤ p ∧ p ≤ 16) (hc : 1 ≤ cc ∧ cc ≤ 256) (hm' : hm kk cc = (h : Int)) {k0 o0 : Nat} (hk0 : k0 < 5) (ho0 : o0 < mn p k0) (hne : k0 ≠ 0 ∧ k0 ≠ 4) : F10 B [.agg #[.int .i64 (kk : Int), .int .i64 (p : Int), .int .i64 (cc : Int)], .int .i64 (k0 : Int), .int .i64 (o0 : Int)] = some (.tuple #[.int .i64 (fr p h k0 o0 : Int), .int .i64 0]) := by
  refine kval_eq hG fun H N hN => ?_
  have hB := good_B hN
  have hR := good_rdB hN
  have hI := beqN hN.1.1
  have e13 := f13 hG kk p cc (by omega) (by omega) (by omega)
  have hh : 1 ≤ h ∧ h ≤ 1026 := by have := hm_bounds (k := kk) (c := cc) (by omega) (by omega); omega
  have hmn := mn_le (p := p) (k := k0) (by omega)
  have k1 : ¬ (k0 : Int) < 0 := by omega
  have k2 : ¬ (k0 : Int) > 4 := by omega
  have p1 : ¬ (o0 : Int) < 0 := by omega
  have p2 : ¬ (o0 : Int) ≥ (p : Int) := by omega
  have e0 : ((k0 : Int) == 0) = false := eqbI (by omega)
  have e4 : ((k0 : Int) == 4) = false := eqbI (by omega)
  have e00 : ((0 : Nat) : Int) = 0 := rfl
  simp -implicitDefEqProofs (maxSteps := 10000000) (disch := omega) only [T10, L10, G10_13, V13_eq, G10_15, V15, T15, L15, itR_17, hB, hR, hI, e13, k1, k2, p1, p2, e0, e4, e00, pad, lightV, bt, bf, evs, gt, st, binV, arith, isSh, storeV, all1, idxAV, fieldV, faddrV, iaddrSV, iaddrAV, pickV, convV, unV, eqbV, eqpV, extV, lenV, mm2, mmV, nilckV, ress, res1, retV, Value.cells, reduceIte, reduceCtorEq, Int.reduceLT, Int.reduceLE, Int.reduceToNat, Int.reduceAdd, Int.reduceSub, Int.reduceMul, Int.reduceNeg, Nat.reduceMul, Nat.reduceAdd, Nat.reduceSub, Nat.reduceBEq, Nat.reduceEqDiff, Nat.reduceLT, Nat.reduceLeDiff, Int.reduceBEq, Int.reduceEq, Nat.reducePow, Int.reducePow, IntWalk.i64_in, IntKind.bits, eqAV, eqL, leafEq, andO, fillV, buildSV, Int.reduceGT, Int.reduceGE, Int.reduceBNe, IntWalk.u64_in, newsV_s, tassV, isnV, slcV, slcAV, slcTV, slcB, appNew, Option.bind_some, Option.bind_none, ev1, ev2]
  generalize hX : I17 B _ _ _ _ = o
  have hO : ∃ v H' N', o = some (.ret v, H', N') ∧ good B H' N' ∧ (∀ x, ¬ (x = N 7 ∨ x = N 1 ∨ x = N 2 ∨ x = N 3 ∨ x = N 4) → ∀ c, lk ((N.n 7, KB.loop (N.r 7) LSt.ready) :: (N.n 6, KB.dfr) :: (N.n 5, KB.cells [.int .i64 (kk : Int), .int .i64 (p : Int), .int .i64 (cc : Int)] 3) :: (N.n 4, KB.cells [.int .i64 0] 1) :: (N.n 3, KB.cells [.int .i64 0] 1) :: (N.n 2, KB.cells [.int .i64 (o0 : Int)] 1) :: (N.n 1, KB.cells [.int .i64 (k0 : Int)] 1) :: (N.n 0, KB.cells [.int .i64 (kk : Int), .int .i64 (p : Int), .int .i64 (cc : Int)] 3) :: H) x = some c → lk H' x = some c) ∧ ((lk H' (N 7) = some (.loop (N.r 7) .ready) ∧ lk H' (N 1) = some (.cells [.int .i64 (k0 : Int)] 1) ∧ lk H' (N 2) = some (.cells [.int .i64 (o0 : Int)] 1) ∧ lk H' (N 3) = some (.cells [.int .i64 0] 1) ∧ lk H' (N 4) = some (.cells [.int .i64 0] 1) ∧ ¬ Lt k0 o0 5 0) ∨ (lk H' (N 7) = some (.loop (N.r 7) (.done none)) ∧ lk H' (N 3) = some (.cells [.int .i64 (fr p h k0 o0 : Int)] 1) ∧ lk H' (N 4) = some (.cells [.int .i64 0] 1))) := by
    rw [← hX]
    refine it17 (kk := kk) (cc := cc) (Own := fun x => x = N 7 ∨ x = N 1 ∨ x = N 2 ∨ x = N 3 ∨ x = N 4) (J := fun kx ox H' => lk H' (N 7) = some (.loop (N.r 7) .ready) ∧ lk H' (N 1) = some (.cells [.int .i64 (k0 : Int)] 1) ∧ lk H' (N 2) = some (.cells [.int .i64 (o0 : Int)] 1) ∧ lk H' (N 3) = some (.cells [.int .i64 0] 1) ∧ lk H' (N 4) = some (.cells [.int .i64 0] 1) ∧ ¬ Lt k0 o0 kx ox) (Jx := fun H' => lk H' (N 7) = some (.loop (N.r 7) (.done none)) ∧ lk H' (N 3) = some (.cells [.int .i64 (fr p h k0 o0 : Int)] 1) ∧ lk H' (N 4) = some (.cells [.int .i64 0] 1)) hT ⟨?_, ?_, ?_, ?_⟩ hk hp hc hm' ?_ ?_ ?_ ?_ ?_
    · rintro k o H b ⟨h7, h1, h2, h3, h4, hx⟩ (rfl | rfl | rfl | rfl | rfl)
      · exact ⟨_, h7⟩
      · exact ⟨_, h1⟩
      · exact ⟨_, h2⟩
      · exact ⟨_, h3⟩
      · exact ⟨_, h4⟩
    · rintro k o H H' ⟨h7, h1, h2, h3, h4, hx⟩ g
      exact ⟨(g _ (by simp)).trans h7, (g _ (by simp)).trans h1, (g _ (by simp)).trans h2, (g _ (by simp)).trans h3, (g _ (by simp)).trans h4, hx⟩
    · rintro k H ⟨h7, h1, h2, h3, h4, hx⟩
      exact ⟨h7, h1, h2, h3, h4, nextLt ho0 hx⟩
    · rintro k o H N1 hk5 ho ⟨h7, h1, h2, h3, h4, hx⟩ hN1
      have hBo := hB
      have hB := good_B hN1
      have hR := good_rdB hN1
      have hI := beqN hN1.1.1
      have hIo := beqN hN.1.1
      have b7 := hBo 7
      have r7 := fun o n => rdB_none (o := o) (n := n) b7
      have m7 := fun j => ne_good hN1 b7 h7 j
      have w7 := fun j => ne_good' hN1 b7 h7 j
      have b1 := hBo 1
      have r1 := fun o n => rdB_none (o := o) (n := n) b1
      have m1 := fun j => ne_good hN1 b1 h1 j
      have w1 := fun j => ne_good' hN1 b1 h1 j
      have b2 := hBo 2
      have r2 := fun o n => rdB_none (o := o) (n := n) b2
      have m2 := fun j => ne_good hN1 b2 h2 j
      have w2 := fun j => ne_good' hN1 b2 h2 j
      have b3 := hBo 3
      have r3 := fun o n => rdB_none (o := o) (n := n) b3
      have m3 := fun j => ne_good hN1 b3 h3 j
      have w3 := fun j => ne_good' hN1 b3 h3 j
      have b4 := hBo 4
      have r4 := fun o n => rdB_none (o := o) (n := n) b4
      have m4 := fun j => ne_good hN1 b4 h4 j
      have w4 := fun j => ne_good' hN1 b4 h4 j
      have hb := fr_bnd (k := k) (o := o) hp hh hk5 ho
      have hs : (fr p h k (o + 1) : Int) = (fr p h k o : Int) + (sz p h k : Int) := by rw [fr_succ]; omega
      simp only [wy_same, y_call]
      unfold pt
      by_cases hk' : k = k0
      · subst hk'
        by_cases ho' : o = o0
        · subst ho'
          simp -implicitDefEqProofs (maxSteps := 10000000) (disch := omega) only [T10, L10, G10_13, V13_eq, G10_15, V15, T15, L15, itR_17, hB, hR, hI, h7, b7, r7, m7, w7, h1, b1, r1, m1, w1, h2, b2, r2, m2, w2, h3, b3, r3, m3, w3, h4, b4, r4, m4, w4, hIo, pad, lightV, bt, bf, evs, gt, st, binV, arith, isSh, storeV, all1, idxAV, fieldV, faddrV, iaddrSV, iaddrAV, pickV, convV, unV, eqbV, eqpV, extV, lenV, mm2, mmV, nilckV, ress, res1, retV, Value.cells, reduceIte, reduceCtorEq, Int.reduceLT, Int.reduceLE, Int.reduceToNat, Int.reduceAdd, Int.reduceSub, Int.reduceMul, Int.reduceNeg, Nat.reduceMul, Nat.reduceAdd, Nat.reduceSub, Nat.reduceBEq, Nat.reduceEqDiff, Nat.reduceLT, Nat.reduceLeDiff, Int.reduceBEq, Int.reduceEq, Nat.reducePow, Int.reducePow, IntWalk.i64_in, IntKind.bits, eqAV, eqL, leafEq, andO, fillV, buildSV, Int.reduceGT, Int.reduceGE, Int.reduceBNe, IntWalk.u64_in, newsV_s, tassV, isnV, slcV, slcAV, slcTV, slcB, appNew, Option.bind_some, Option.bind_none, ev1, ev2]
          refine ⟨false, _, _, rfl, good_set (k' := .loop (N.r 7) .busy) (good_set (k' := .loop (N.r 7) .ready) (good_new (good_up (k' := .cells [.int .i64 0] 1) (good_up (k' := .cells [.int .i64 0] 1) hN1 b3 h3) b4 ?_)) b7 ?_) b7 ?_, fun x hx c hc => ?_, fun h => (by cases h), fun _ => ?_⟩
          · simp -implicitDefEqProofs (maxSteps := 10000000) (disch := omega) only [T10, L10, G10_13, V13_eq, G10_15, V15, T15, L15, itR_17, hB, hR, hI, h7, b7, r7, m7, w7, h1, b1, r1, m1, w1, h2, b2, r2, m2, w2, h3, b3, r3, m3, w3, h4, b4, r4, m4, w4, hIo, pad, lightV, bt, bf, evs, gt, st, binV, arith, isSh, storeV, all1, idxAV, fieldV, faddrV, iaddrSV, iaddrAV, pickV, convV, unV, eqbV, eqpV, extV, lenV, mm2, mmV, nilckV, ress, res1, retV, Value.cells, reduceIte, reduceCtorEq, Int.reduceLT, Int.reduceLE, Int.reduceToNat, Int.reduceAdd, Int.reduceSub, Int.reduceMul, Int.reduceNeg, Nat.reduceMul, Nat.reduceAdd, Nat.reduceSub, Nat.reduceBEq, Nat.reduceEqDiff, Nat.reduceLT, Nat.reduceLeDiff, Int.reduceBEq, Int.reduceEq, Nat.reducePow, Int.reducePow, IntWalk.i64_in, IntKind.bits, eqAV, eqL, leafEq, andO, fillV, buildSV, Int.reduceGT, Int.reduceGE, Int.reduceBNe, IntWalk.u64_in, newsV_s, tassV, isnV, slcV, slcAV, slcTV, slcB, appNew, Option.bind_some, Option.bind_none, ev1, ev2]
          · simp -implicitDefEqProofs (maxSteps := 10000000) (disch := omega) only [T10, L10, G10_13, V13_eq, G10_15, V15, T15, L15, itR_17, hB, hR, hI, h7, b7, r7, m7, w7, h1, b1, r1, m1, w1, h2, b2, r2, m2, w2, h3, b3, r3, m3, w3, h4, b4, r4, m4, w4, hIo, pad, lightV, bt, bf, evs, gt, st, binV, arith, isSh, storeV, all1, idxAV, fieldV, faddrV, iaddrSV, iaddrAV, pickV, convV, unV, eqbV, eqpV, extV, lenV, mm2, mmV, nilckV, ress, res1, retV, Value.cells, reduceIte, reduceCtorEq, Int.reduceLT, Int.reduceLE, Int.reduceToNat, Int.reduceAdd, Int.reduceSub, Int.reduceMul, Int.reduceNeg, Nat.reduceMul, Nat.reduceAdd, Nat.reduceSub, Nat.reduceBEq, Nat.reduceEqDiff, Nat.reduceLT, Nat.reduceLeDiff, Int.reduceBEq, Int.reduceEq, Nat.reducePow, Int.reducePow, IntWalk.i64_in, IntKind.bits, eqAV, eqL, leafEq, andO, fillV, buildSV, Int.reduceGT, Int.reduceGE, Int.reduceBNe, IntWalk.u64_in, newsV_s, tassV, isnV, slcV, slcAV, slcTV, slcB, appNew, Option.bind_some, Option.bind_none, ev1, ev2]
          · simp -implicitDefEqProofs (maxSteps := 10000000) (disch := omega) only [T10, L10, G10_13, V13_eq, G10_15, V15, T15, L15, itR_17, hB, hR, hI, h7, b7, r7, m7, w7, h1, b1, r1, m1, w1, h2, b2, r2, m2, w2, h3, b3, r3, m3, w3, h4, b4, r4, m4, w4, hIo, pad, lightV, bt, bf, evs, gt, st, binV, arith, isSh, storeV, all1, idxAV, fieldV, faddrV, iaddrSV, iaddrAV, pickV, convV, unV, eqbV, eqpV, extV, lenV, mm2, mmV, nilckV, ress, res1, retV, Value.cells, reduceIte, reduceCtorEq, Int.reduceLT, Int.reduceLE, Int.reduceToNat, Int.reduceAdd, Int.reduceSub, Int.reduceMul, Int.reduceNeg, Nat.reduceMul, Nat.reduceAdd, Nat.reduceSub, Nat.reduceBEq, Nat.reduceEqDiff, Nat.reduceLT, Nat.reduceLeDiff, Int.reduceBEq, Int.reduceEq, Nat.reducePow, Int.reducePow, IntWalk.i64_in, IntKind.bits, eqAV, eqL, leafEq, andO, fillV, buildSV, Int.reduceGT, Int.reduceGE, Int.reduceBNe, IntWalk.u64_in, newsV_s, tassV, isnV, slcV, slcAV, slcTV, slcB, appNew, Option.bind_some, Option.bind_none, ev1, ev2]
          · have xn := ne_of_lk hN1 hc 0
            have x7 := eqb (fun h : x = N 7 => hx (by simp [h]))
            have x1 := eqb (fun h : x = N 1 => hx (by simp [h]))
            have x2 := eqb (fun h : x = N 2 => hx (by simp [h]))
            have x3 := eqb (fun h : x = N 3 => hx (by simp [h]))
            have x4 := eqb (fun h : x = N 4 => hx (by simp [h]))
            simp -implicitDefEqProofs (maxSteps := 10000000) (disch := omega) only [T10, L10, G10_13, V13_eq, G10_15, V15, T15, L15, itR_17, hB, hR, hI, xn, hc, x7, x1, x2, x3, x4, pad, lightV, bt, bf, evs, gt, st, binV, arith, isSh, storeV, all1, idxAV, fieldV, faddrV, iaddrSV, iaddrAV, pickV, convV, unV, eqbV, eqpV, extV, lenV, mm2, mmV, nilckV, ress, res1, retV, Value.cells, reduceIte, reduceCtorEq, Int.reduceLT, Int.reduceLE, Int.reduceToNat, Int.reduceAdd, Int.reduceSub, Int.reduceMul, Int.reduceNeg, Nat.reduceMul, Nat.reduceAdd, Nat.reduceSub, Nat.reduceBEq, Nat.reduceEqDiff, Nat.reduceLT, Nat.reduceLeDiff, Int.reduceBEq, Int.reduceEq, Nat.reducePow, Int.reducePow, IntWalk.i64_in, IntKind.bits, eqAV, eqL, leafEq, andO, fillV, buildSV, Int.reduceGT, Int.reduceGE, Int.reduceBNe, IntWalk.u64_in, newsV_s, tassV, isnV, slcV, slcAV, slcTV, slcB, appNew, Option.bind_some, Option.bind_none, ev1, ev2]
          · refine ⟨?_, ?_, ?_⟩
            all_goals simp -implicitDefEqProofs (maxSteps := 10000000) (disch := omega) only [T10, L10, G10_13, V13_eq, G10_15, V15, T15, L15, itR_17, hB, hR, hI, h7, b7, r7, m7, w7, h1, b1, r1, m1, w1, h2, b2, r2, m2, w2, h3, b3, r3, m3, w3, h4, b4, r4, m4, w4, hIo, pad, lightV, bt, bf, evs, gt, st, binV, arith, isSh, storeV, all1, idxAV, fieldV, faddrV, iaddrSV, iaddrAV, pickV, convV, unV, eqbV, eqpV, extV, lenV, mm2, mmV, nilckV, ress, res1, retV, Value.cells, reduceIte, reduceCtorEq, Int.reduceLT, Int.reduceLE, Int.reduceToNat, Int.reduceAdd, Int.reduceSub, Int.reduceMul, Int.reduceNeg, Nat.reduceMul, Nat.reduceAdd, Nat.reduceSub, Nat.reduceBEq, Nat.reduceEqDiff, Nat.reduceLT, Nat.reduceLeDiff, Int.reduceBEq, Int.reduceEq, Nat.reducePow, Int.reducePow, IntWalk.i64_in, IntKind.bits, eqAV, eqL, leafEq, andO, fillV, buildSV, Int.reduceGT, Int.reduceGE, Int.reduceBNe, IntWalk.u64_in, newsV_s, tassV, isnV, slcV, slcAV, slcTV, slcB, appNew, Option.bind_some, Option.bind_none, ev1, ev2]
        · have q2 : ((o : Int) == (o0 : Int)) = false := eqbI (by omega)
          simp -implicitDefEqProofs (maxSteps := 10000000) (disch := omega) only [T10, L10, G10_13, V13_eq, G10_15, V15, T15, L15, itR_17, hB, hR, hI, h7, b7, r7, m7, w7, h1, b1, r1, m1, w1, h2, b2, r2, m2, w2, h3, b3, r3, m3, w3, h4, b4, r4, m4, w4, hIo, q2, pad, lightV, bt, bf, evs, gt, st, binV, arith, isSh, storeV, all1, idxAV, fieldV, faddrV, iaddrSV, iaddrAV, pickV, convV, unV, eqbV, eqpV, extV, lenV, mm2, mmV, nilckV, ress, res1, retV, Value.cells, reduceIte, reduceCtorEq, Int.reduceLT, Int.reduceLE, Int.reduceToNat, Int.reduceAdd, Int.reduceSub, Int.reduceMul, Int.reduceNeg, Nat.reduceMul, Nat.reduceAdd, Nat.reduceSub, Nat.reduceBEq, Nat.reduceEqDiff, Nat.reduceLT, Nat.reduceLeDiff, Int.reduceBEq, Int.reduceEq, Nat.reducePow, Int.reducePow, IntWalk.i64_in, IntKind.bits, eqAV, eqL, leafEq, andO, fillV, buildSV, Int.reduceGT, Int.reduceGE, Int.reduceBNe, IntWalk.u64_in, newsV_s, tassV, isnV, slcV, slcAV, slcTV, slcB, appNew, Option.bind_some, Option.bind_none, ev1, ev2]
          refine ⟨true, _, _, rfl, good_set (k' := .loop (N.r 7) .busy) (good_set (k' := .loop (N.r 7) .ready) (good_new hN1) b7 ?_) b7 ?_, fun x hx c hc => ?_, fun _ => ?_, fun h => (by cases h)⟩
          · simp -implicitDefEqProofs (maxSteps := 10000000) (disch := omega) only [T10, L10, G10_13, V13_eq, G10_15, V15, T15, L15, itR_17, hB, hR, hI, h7, b7, r7, m7, w7, h1, b1, r1, m1, w1, h2, b2, r2, m2, w2, h3, b3, r3, m3, w3, h4, b4, r4, m4, w4, hIo, pad, lightV, bt, bf, evs, gt, st, binV, arith, isSh, storeV, all1, idxAV, fieldV, faddrV, iaddrSV, iaddrAV, pickV, convV, unV, eqbV, eqpV, extV, lenV, mm2, mmV, nilckV, ress, res1, retV, Value.cells, reduceIte, reduceCtorEq, Int.reduceLT, Int.reduceLE, Int.reduceToNat, Int.reduceAdd, Int.reduceSub, Int.reduceMul, Int.reduceNeg, Nat.reduceMul, Nat.reduceAdd, Nat.reduceSub, Nat.reduceBEq, Nat.reduceEqDiff, Nat.reduceLT, Nat.reduceLeDiff, Int.reduceBEq, Int.reduceEq, Nat.reducePow, Int.reducePow, IntWalk.i64_in, IntKind.bits, eqAV, eqL, leafEq, andO, fillV, buildSV, Int.reduceGT, Int.reduceGE, Int.reduceBNe, IntWalk.u64_in, newsV_s, tassV, isnV, slcV, slcAV, slcTV, slcB, appNew, Option.bind_some, Option.bind_none, ev1, ev2]
          · simp -implicitDefEqProofs (maxSteps := 10000000) (disch := omega) only [T10, L10, G10_13, V13_eq, G10_15, V15, T15, L15, itR_17, hB, hR, hI, h7, b7, r7, m7, w7, h1, b1, r1, m1, w1, h2, b2, r2, m2, w2, h3, b3, r3, m3, w3, h4, b4, r4, m4, w4, hIo, pad, lightV, bt, bf, evs, gt, st, binV, arith, isSh, storeV, all1, idxAV, fieldV, faddrV, iaddrSV, iaddrAV, pickV, convV, unV, eqbV, eqpV, extV, lenV, mm2, mmV, nilckV, ress, res1, retV, Value.cells, reduceIte, reduceCtorEq, Int.reduceLT, Int.reduceLE, Int.reduceToNat, Int.reduceAdd, Int.reduceSub, Int.reduceMul, Int.reduceNeg, Nat.reduceMul, Nat.reduceAdd, Nat.reduceSub, Nat.reduceBEq, Nat.reduceEqDiff, Nat.reduceLT, Nat.reduceLeDiff, Int.reduceBEq, Int.reduceEq, Nat.reducePow, Int.reducePow, IntWalk.i64_in, IntKind.bits, eqAV, eqL, leafEq, andO, fillV, buildSV, Int.reduceGT, Int.reduceGE, Int.reduceBNe, IntWalk.u64_in, newsV_s, tassV, isnV, slcV, slcAV, slcTV, slcB, appNew, Option.bind_some, Option.bind_none, ev1, ev2]
          · have xn := ne_of_lk hN1 hc 0
            have x7 := eqb (fun h : x = N 7 => hx (by simp [h]))
            have x1 := eqb (fun h : x = N 1 => hx (by simp [h]))
            have x2 := eqb (fun h : x = N 2 => hx (by simp [h]))
            have x3 := eqb (fun h : x = N 3 => hx (by simp [h]))
            have x4 := eqb (fun h : x = N 4 => hx (by simp [h]))
            simp -implicitDefEqProofs (maxSteps := 10000000) (disch := omega) only [T10, L10, G10_13, V13_eq, G10_15, V15, T15, L15, itR_17, hB, hR, hI, xn, hc, x7, x1, x2, x3, x4, pad, lightV, bt, bf, evs, gt, st, binV, arith, isSh, storeV, all1, idxAV, fieldV, faddrV, iaddrSV, iaddrAV, pickV, convV, unV, eqbV, eqpV, extV, lenV, mm2, mmV, nilckV, ress, res1, retV, Value.cells, reduceIte, reduceCtorEq, Int.reduceLT, Int.reduceLE, Int.reduceToNat, Int.reduceAdd, Int.reduceSub, Int.reduceMul, Int.reduceNeg, Nat.reduceMul, Nat.reduceAdd, Nat.reduceSub, Nat.reduceBEq, Nat.reduceEqDiff, Nat.reduceLT, Nat.reduceLeDiff, Int.reduceBEq, Int.reduceEq, Nat.reducePow, Int.reducePow, IntWalk.i64_in, IntKind.bits, eqAV, eqL, leafEq, andO, fillV, buildSV, Int.reduceGT, Int.reduceGE, Int.reduceBNe, IntWalk.u64_in, newsV_s, tassV, isnV, slcV, slcAV, slcTV, slcB, appNew, Option.bind_some, Option.bind_none, ev1, ev2]
          · refine ⟨?_, ?_, ?_, ?_, ?_, by unfold Lt at *; omega⟩
            all_goals simp -implicitDefEqProofs (maxSteps := 10000000) (disch := omega) only [T10, L10, G10_13, V13_eq, G10_15, V15, T15, L15, itR_17, hB, hR, hI, h7, b7, r7, m7, w7, h1, b1, r1, m1, w1, h2, b2, r2, m2, w2, h3, b3, r3, m3, w3, h4, b4, r4, m4, w4, hIo, pad, lightV, bt, bf, evs, gt, st, binV, arith, isSh, storeV, all1, idxAV, fieldV, faddrV, iaddrSV, iaddrAV, pickV, convV, unV, eqbV, eqpV, extV, lenV, mm2, mmV, nilckV, ress, res1, retV, Value.cells, reduceIte, reduceCtorEq, Int.reduceLT, Int.reduceLE, Int.reduceToNat, Int.reduceAdd, Int.reduceSub, Int.reduceMul, Int.reduceNeg, Nat.reduceMul, Nat.reduceAdd, Nat.reduceSub, Nat.reduceBEq, Nat.reduceEqDiff, Nat.reduceLT, Nat.reduceLeDiff, Int.reduceBEq, Int.reduceEq, Nat.reducePow, Int.reducePow, IntWalk.i64_in, IntKind.bits, eqAV, eqL, leafEq, andO, fillV, buildSV, Int.reduceGT, Int.reduceGE, Int.reduceBNe, IntWalk.u64_in, newsV_s, tassV, isnV, slcV, slcAV, slcTV, slcB, appNew, Option.bind_some, Option.bind_none, ev1, ev2]
      · have q1 : ((k : Int) == (k0 : Int)) = false := eqbI (by omega)
        simp -implicitDefEqProofs (maxSteps := 10000000) (disch := omega) only [T10, L10, G10_13, V13_eq, G10_15, V15, T15, L15, itR_17, hB, hR, hI, h7, b7, r7, m7, w7, h1, b1, r1, m1, w1, h2, b2, r2, m2, w2, h3, b3, r3, m3, w3, h4, b4, r4, m4, w4, hIo, q1, pad, lightV, bt, bf, evs, gt, st, binV, arith, isSh, storeV, all1, idxAV, fieldV, faddrV, iaddrSV, iaddrAV, pickV, convV, unV, eqbV, eqpV, extV, lenV, mm2, mmV, nilckV, ress, res1, retV, Value.cells, reduceIte, reduceCtorEq, Int.reduceLT, Int.reduceLE, Int.reduceToNat, Int.reduceAdd, Int.reduceSub, Int.reduceMul, Int.reduceNeg, Nat.reduceMul, Nat.reduceAdd, Nat.reduceSub, Nat.reduceBEq, Nat.reduceEqDiff, Nat.reduceLT, Nat.reduceLeDiff, Int.reduceBEq, Int.reduceEq, Nat.reducePow, Int.reducePow, IntWalk.i64_in, IntKind.bits, eqAV, eqL, leafEq, andO, fillV, buildSV, Int.reduceGT, Int.reduceGE, Int.reduceBNe, IntWalk.u64_in, newsV_s, tassV, isnV, slcV, slcAV, slcTV, slcB, appNew, Option.bind_some, Option.bind_none, ev1, ev2]
        refine ⟨true, _, _, rfl, good_set (k' := .loop (N.r 7) .busy) (good_set (k' := .loop (N.r 7) .ready) (good_new hN1) b7 ?_) b7 ?_, fun x hx c hc => ?_, fun _ => ?_, fun h => (by cases h)⟩
        · simp -implicitDefEqProofs (maxSteps := 10000000) (disch := omega) only [T10, L10, G10_13, V13_eq, G10_15, V15, T15, L15, itR_17, hB, hR, hI, h7, b7, r7, m7, w7, h1, b1, r1, m1, w1, h2, b2, r2, m2, w2, h3, b3, r3, m3, w3, h4, b4, r4, m4, w4, hIo, pad, lightV, bt, bf, evs, gt, st, binV, arith, isSh, storeV, all1, idxAV, fieldV, faddrV, iaddrSV, iaddrAV, pickV, convV, unV, eqbV, eqpV, extV, lenV, mm2, mmV, nilckV, ress, res1, retV, Value.cells, reduceIte, reduceCtorEq, Int.reduceLT, Int.reduceLE, Int.reduceToNat, Int.reduceAdd, Int.reduceSub, Int.reduceMul, Int.reduceNeg, Nat.reduceMul, Nat.reduceAdd, Nat.reduceSub, Nat.reduceBEq, Nat.reduceEqDiff, Nat.reduceLT, Nat.reduceLeDiff, Int.reduceBEq, Int.reduceEq, Nat.reducePow, Int.reducePow, IntWalk.i64_in, IntKind.bits, eqAV, eqL, leafEq, andO, fillV, buildSV, Int.reduceGT, Int.reduceGE, Int.reduceBNe, IntWalk.u64_in, newsV_s, tassV, isnV, slcV, slcAV, slcTV, slcB, appNew, Option.bind_some, Option.bind_none, ev1, ev2]
        · simp -implicitDefEqProofs (maxSteps := 10000000) (disch := omega) only [T10, L10, G10_13, V13_eq, G10_15, V15, T15, L15, itR_17, hB, hR, hI, h7, b7, r7, m7, w7, h1, b1, r1, m1, w1, h2, b2, r2, m2, w2, h3, b3, r3, m3, w3, h4, b4, r4, m4, w4, hIo, pad, lightV, bt, bf, evs, gt, st, binV, arith, isSh, storeV, all1, idxAV, fieldV, faddrV, iaddrSV, iaddrAV, pickV, convV, unV, eqbV, eqpV, extV, lenV, mm2, mmV, nilckV, ress, res1, retV, Value.cells, reduceIte, reduceCtorEq, Int.reduceLT, Int.reduceLE, Int.reduceToNat, Int.reduceAdd, Int.reduceSub, Int.reduceMul, Int.reduceNeg, Nat.reduceMul, Nat.reduceAdd, Nat.reduceSub, Nat.reduceBEq, Nat.reduceEqDiff, Nat.reduceLT, Nat.reduceLeDiff, Int.reduceBEq, Int.reduceEq, Nat.reducePow, Int.reducePow, IntWalk.i64_in, IntKind.bits, eqAV, eqL, leafEq, andO, fillV, buildSV, Int.reduceGT, Int.reduceGE, Int.reduceBNe, IntWalk.u64_in, newsV_s, tassV, isnV, slcV, slcAV, slcTV, slcB, appNew, Option.bind_some, Option.bind_none, ev1, ev2]
        · have xn := ne_of_lk hN1 hc 0
          have x7 := eqb (fun h : x = N 7 => hx (by simp [h]))
          have x1 := eqb (fun h : x = N 1 => hx (by simp [h]))
          have x2 := eqb (fun h : x = N 2 => hx (by simp [h]))
          have x3 := eqb (fun h : x = N 3 => hx (by simp [h]))
          have x4 := eqb (fun h : x = N 4 => hx (by simp [h]))
          simp -implicitDefEqProofs (maxSteps := 10000000) (disch := omega) only [T10, L10, G10_13, V13_eq, G10_15, V15, T15, L15, itR_17, hB, hR, hI, xn, hc, x7, x1, x2, x3, x4, pad, lightV, bt, bf, evs, gt, st, binV, arith, isSh, storeV, all1, idxAV, fieldV, faddrV, iaddrSV, iaddrAV, pickV, convV, unV, eqbV, eqpV, extV, lenV, mm2, mmV, nilckV, ress, res1, retV, Value.cells, reduceIte, reduceCtorEq, Int.reduceLT, Int.reduceLE, Int.reduceToNat, Int.reduceAdd, Int.reduceSub, Int.reduceMul, Int.reduceNeg, Nat.reduceMul, Nat.reduceAdd, Nat.reduceSub, Nat.reduceBEq, Nat.reduceEqDiff, Nat.reduceLT, Nat.reduceLeDiff, Int.reduceBEq, Int.reduceEq, Nat.reducePow, Int.reducePow, IntWalk.i64_in, IntKind.bits, eqAV, eqL, leafEq, andO, fillV, buildSV, Int.reduceGT, Int.reduceGE, Int.reduceBNe, IntWalk.u64_in, newsV_s, tassV, isnV, slcV, slcAV, slcTV, slcB, appNew, Option.bind_some, Option.bind_none, ev1, ev2]
        · refine ⟨?_, ?_, ?_, ?_, ?_, by unfold Lt at *; omega⟩
          all_goals simp -implicitDefEqProofs (maxSteps := 10000000) (disch := omega) only [T10, L10, G10_13, V13_eq, G10_15, V15, T15, L15, itR_17, hB, hR, hI, h7, b7, r7, m7, w7, h1, b1, r1, m1, w1, h2, b2, r2, m2, w2, h3, b3, r3, m3, w3, h4, b4, r4, m4, w4, hIo, pad, lightV, bt, bf, evs, gt, st, binV, arith, isSh, storeV, all1, idxAV, fieldV, faddrV, iaddrSV, iaddrAV, pickV, convV, unV, eqbV, eqpV, extV, lenV, mm2, mmV, nilckV, ress, res1, retV, Value.cells, reduceIte, reduceCtorEq, Int.reduceLT, Int.reduceLE, Int.reduceToNat, Int.reduceAdd, Int.reduceSub, Int.reduceMul, Int.reduceNeg, Nat.reduceMul, Nat.reduceAdd, Nat.reduceSub, Nat.reduceBEq, Nat.reduceEqDiff, Nat.reduceLT, Nat.reduceLeDiff, Int.reduceBEq, Int.reduceEq, Nat.reducePow, Int.reducePow, IntWalk.i64_in, IntKind.bits, eqAV, eqL, leafEq, andO, fillV, buildSV, Int.reduceGT, Int.reduceGE, Int.reduceBNe, IntWalk.u64_in, newsV_s, tassV, isnV, slcV, slcAV, slcTV, slcB, appNew, Option.bind_some, Option.bind_none, ev1, ev2]
    · rintro (h | h | h | h | h)
      all_goals { have g := hI 5; simp only [h, hI] at g; have g7 := g 7; have g1 := g 1; have g2 := g 2; have g3 := g 3; have g4 := g 4; simp [h] at g7 g1 g2 g3 g4 }
    · exact (good_new (good_new (good_new (good_new (good_new (good_new (good_new (good_new hN))))))))
    · simp -implicitDefEqProofs (maxSteps := 10000000) (disch := omega) only [T10, L10, G10_13, V13_eq, G10_15, V15, T15, L15, itR_17, hB, hR, hI, pad, lightV, bt, bf, evs, gt, st, binV, arith, isSh, storeV, all1, idxAV, fieldV, faddrV, iaddrSV, iaddrAV, pickV, convV, unV, eqbV, eqpV, extV, lenV, mm2, mmV, nilckV, ress, res1, retV, Value.cells, reduceIte, reduceCtorEq, Int.reduceLT, Int.reduceLE, Int.reduceToNat, Int.reduceAdd, Int.reduceSub, Int.reduceMul, Int.reduceNeg, Nat.reduceMul, Nat.reduceAdd, Nat.reduceSub, Nat.reduceBEq, Nat.reduceEqDiff, Nat.reduceLT, Nat.reduceLeDiff, Int.reduceBEq, Int.reduceEq, Nat.reducePow, Int.reducePow, IntWalk.i64_in, IntKind.bits, eqAV, eqL, leafEq, andO, fillV, buildSV, Int.reduceGT, Int.reduceGE, Int.reduceBNe, IntWalk.u64_in, newsV_s, tassV, isnV, slcV, slcAV, slcTV, slcB, appNew, Option.bind_some, Option.bind_none, ev1, ev2]
    · exact hB 5
    · refine ⟨?_, ?_, ?_, ?_, ?_, by unfold Lt; omega⟩
      all_goals simp -implicitDefEqProofs (maxSteps := 10000000) (disch := omega) only [T10, L10, G10_13, V13_eq, G10_15, V15, T15, L15, itR_17, hB, hR, hI, e00, pad, lightV, bt, bf, evs, gt, st, binV, arith, isSh, storeV, all1, idxAV, fieldV, faddrV, iaddrSV, iaddrAV, pickV, convV, unV, eqbV, eqpV, extV, lenV, mm2, mmV, nilckV, ress, res1, retV, Value.cells, reduceIte, reduceCtorEq, Int.reduceLT, Int.reduceLE, Int.reduceToNat, Int.reduceAdd, Int.reduceSub, Int.reduceMul, Int.reduceNeg, Nat.reduceMul, Nat.reduceAdd, Nat.reduceSub, Nat.reduceBEq, Nat.reduceEqDiff, Nat.reduceLT, Nat.reduceLeDiff, Int.reduceBEq, Int.reduceEq, Nat.reducePow, Int.reducePow, IntWalk.i64_in, IntKind.bits, eqAV, eqL, leafEq, andO, fillV, buildSV, Int.reduceGT, Int.reduceGE, Int.reduceBNe, IntWalk.u64_in, newsV_s, tassV, isnV, slcV, slcAV, slcTV, slcB, appNew, Option.bind_some, Option.bind_none, ev1, ev2]
  obtain ⟨v, H2, N2, rfl, g2, f2, ⟨h7, h1, h2, h3, h4, hx⟩ | ⟨h7, h3, h4⟩⟩ := hO
  · exact (hx (by unfold Lt; omega)).elim
  · have r3 := hR 3
    have r4 := hR 4
    simp -implicitDefEqProofs (maxSteps := 10000000) (disch := omega) only [T10, L10, G10_13, V13_eq, G10_15, V15, T15, L15, itR_17, hB, hR, hI, h7, h3, h4, pad, lightV, bt, bf, evs, gt, st, binV, arith, isSh, storeV, all1, idxAV, fieldV, faddrV, iaddrSV, iaddrAV, pickV, convV, unV, eqbV, eqpV, extV, lenV, mm2, mmV, nilckV, ress, res1, retV, Value.cells, reduceIte, reduceCtorEq, Int.reduceLT, Int.reduceLE, Int.reduceToNat, Int.reduceAdd, Int.reduceSub, Int.reduceMul, Int.reduceNeg, Nat.reduceMul, Nat.reduceAdd, Nat.reduceSub, Nat.reduceBEq, Nat.reduceEqDiff, Nat.reduceLT, Nat.reduceLeDiff, Int.reduceBEq, Int.reduceEq, Nat.reducePow, Int.reducePow, IntWalk.i64_in, IntKind.bits, eqAV, eqL, leafEq, andO, fillV, buildSV, Int.reduceGT, Int.reduceGE, Int.reduceBNe, IntWalk.u64_in, newsV_s, tassV, isnV, slcV, slcAV, slcTV, slcB, appNew, Option.bind_some, Option.bind_none, ev1, ev2]
    refine ⟨_, _, rfl, ext_lk fun r x hr hx => ?_⟩
    have xn := ne_of_lk hN hx
    have q := f2 r (by
      rintro (rfl | rfl | rfl | rfl | rfl)
      all_goals simp [hI] at xn) x (by simp -implicitDefEqProofs (maxSteps := 10000000) (disch := omega) only [xn, hx, pad, lightV, e_loop, bt, bf, evs, gt, st, binV, arith, isSh, storeV, all1, idxAV, fieldV, faddrV, iaddrSV, iaddrAV, pickV, convV, unV, eqbV, eqpV, extV, lenV, mm2, mmV, nilckV, ress, res1, retV, Value.cells, reduceIte, reduceCtorEq, Int.reduceLT, Int.reduceLE, Int.reduceToNat, Int.reduceAdd, Int.reduceSub, Int.reduceMul, Int.reduceNeg, Nat.reduceMul, Nat.reduceAdd, Nat.reduceSub, Nat.reduceBEq, Nat.reduceEqDiff, Nat.reduceLT, Nat.reduceLeDiff, Int.reduceBEq, Int.reduceEq, Nat.reducePow, Int.reducePow, IntWalk.i64_in, IntKind.bits, eqAV, eqL, leafEq, andO, fillV, buildSV, Int.reduceGT, Int.reduceGE, Int.reduceBNe, IntWalk.u64_in, newsV_s, tassV, isnV, slcV, slcAV, slcTV, slcB, appNew, Option.bind_some, Option.bind_none, ev1, ev2])
    simp -implicitDefEqProofs (maxSteps := 10000000) (disch := omega) only [T10, L10, G10_13, V13_eq, G10_15, V15, T15, L15, itR_17, hB, hR, hI, xn, q, pad, lightV, bt, bf, evs, gt, st, binV, arith, isSh, storeV, all1, idxAV, fieldV, faddrV, iaddrSV, iaddrAV, pickV, convV, unV, eqbV, eqpV, extV, lenV, mm2, mmV, nilckV, ress, res1, retV, Value.cells, reduceIte, reduceCtorEq, Int.reduceLT, Int.reduceLE, Int.reduceToNat, Int.reduceAdd, Int.reduceSub, Int.reduceMul, Int.reduceNeg, Nat.reduceMul, Nat.reduceAdd, Nat.reduceSub, Nat.reduceBEq, Nat.reduceEqDiff, Nat.reduceLT, Nat.reduceLeDiff, Int.reduceBEq, Int.reduceEq, Nat.reducePow, Int.reducePow, IntWalk.i64_in, IntKind.bits, eqAV, eqL, leafEq, andO, fillV, buildSV, Int.reduceGT, Int.reduceGE, Int.reduceBNe, IntWalk.u64_in, newsV_s, tassV, isnV, slcV, slcAV, slcTV, slcB, appNew, Option.bind_some, Option.bind_none, ev1, ev2]
end Go.Proofs.YtfhiplfagejfoaaDoor
namespace Go.Proofs.YtfhiplfagejfoaaDoor
open Go.Proofs.YtfhiplfagejfoaaDoor.K Go.ChangeShapes Go.WideShapes Go.ChangeAt Go.RowKit 
set_option maxRecDepth 100000
set_option linter.unusedSimpArgs false
set_option linter.unusedVariables false
/-- A configuration that fits. -/
structure Cf (kk p cc h : Nat) : Prop where
  k : 1 ≤ kk ∧ kk ≤ 5
  p : 1 ≤ p ∧ p ≤ 16
  c : 1 ≤ cc ∧ cc ≤ 256
  m : hm kk cc = (h : Int)
theorem Cf.h {kk p cc h : Nat} (C : Cf kk p cc h) : 1 ≤ h ∧ h ≤ 1026 := by
  have := hm_bounds (k := kk) (c := cc) (by have := C.k; omega) (by have := C.c; omega)
  rw [C.m] at this; omega
def fitI (k p c : Int) : Prop := (1 ≤ k ∧ k ≤ 5) ∧ (1 ≤ p ∧ p ≤ 16) ∧ (1 ≤ c ∧ c ≤ 256)
instance (k p c : Int) : Decidable (fitI k p c) := by unfold fitI; exact inferInstance
theorem fit_cf {k p c : Int} (h : fitI k p c) : ∃ kk pp cc hh : Nat, k = (kk : Int) ∧ p = (pp : Int) ∧ c = (cc : Int) ∧ Cf kk pp cc hh := by
  obtain ⟨h1, h2, h3⟩ := h
  have hb := hm_bounds h1 h3
  refine ⟨k.toNat, p.toNat, c.toNat, (hm k c).toNat, by omega, by omega, by omega, ⟨by omega, by omega, by omega, ?_⟩⟩
  rw [show ((k.toNat : Nat) : Int) = k by omega, show ((c.toNat : Nat) : Int) = c by omega]; omega
/-- How many cells a log has. -/
def LG (p h : Nat) : Nat := 1 + 2 * (h + 2 * p)
theorem LG_b {kk p cc h : Nat} (C : Cf kk p cc h) : LG p h ≤ 2117 ∧ LG p h * p ≤ 33872 ∧ 1 ≤ LG p h := by
  have h1 := C.h
  have h2 := C.p
  have h3 : LG p h ≤ 2117 := by unfold LG; omega
  refine ⟨h3, ?_, by unfold LG; omega⟩
  exact Nat.mul_le_mul h3 (by omega : p ≤ 16)
theorem bs_1 {p h : Nat} : bs p h 1 = 1 := by simp [bs, sz, mn]
theorem bs_2 {p h : Nat} : bs p h 2 = 1 + 3 * p := by simp [bs, sz, mn]
theorem bs_3 {p h : Nat} : bs p h 3 = 1 + 5 * p := by simp [bs, sz, mn]; omega
theorem bs_4 {p h : Nat} : bs p h 4 = 1 + 5 * p + LG p h * p := by simp [bs, sz, mn, LG]; omega
theorem bs_5 {p h : Nat} : bs p h 5 = 1 + 5 * p + LG p h * p + h := by simp [bs, sz, mn, LG]; omega
theorem cfit {kk p cc h : Nat} (C : Cf kk p cc h) : fitI kk p cc := ⟨by have := C.k; omega, by have := C.p; omega, by have := C.c; omega⟩
set_option maxHeartbeats 1000000 in
theorem f13n {B : OH} (hG : ∃ H N, good B H N) (k p c : Int) (h : ¬ fitI k p c) : F13 B [.agg #[.int .i64 k, .int .i64 p, .int .i64 c]] = some (.bool false) := by
  refine kval_eq hG fun H N hN => ?_
  have hB := good_B hN
  have hR := good_rdB hN
  have hI := beqN hN.1.1
  unfold fitI at h
  by_cases c1 : k ≥ 1
  case neg =>
    simp -implicitDefEqProofs (maxSteps := 10000000) (disch := omega) only [T13, L13, hB, hR, hI, c1, pad, lightV, bt, bf, evs, gt, st, binV, arith, isSh, storeV, all1, idxAV, fieldV, faddrV, iaddrSV, iaddrAV, pickV, convV, unV, eqbV, eqpV, extV, mm2, mmV, nilckV, ress, res1, retV, Value.cells, reduceIte, reduceCtorEq, Int.reduceLT, Int.reduceLE, Int.reduceToNat, Int.reduceAdd, Int.reduceSub, Int.reduceMul, Int.reduceNeg, Nat.reduceMul, Nat.reduceAdd, Nat.reduceSub, Nat.reduceBEq, Nat.reduceEqDiff, Nat.reduceLT, Nat.reduceLeDiff, Int.reduceBEq, Int.reduceEq, Nat.reducePow, Int.reducePow, IntWalk.i64_in, IntKind.bits, eqAV, eqL, leafEq, andO, fillV, buildSV, Int.reduceGT, Int.reduceGE, Int.reduceBNe, IntWalk.u64_in, newsV_s, tassV, isnV, slcV, slcAV, slcTV, slcB, appNew, Option.bind_some, Option.bind_none, eqsV, lookV, mupdV, mdelV, mkM, ev1, ev2]
    with_reducible refine done2 ?_
    repeat (first | refine ext_new hN ?_ | exact fun _ _ h => h)
  by_cases c2 : k < 6
  case neg =>
    simp -implicitDefEqProofs (maxSteps := 10000000) (disch := omega) only [T13, L13, hB, hR, hI, c1, c2, pad, lightV, bt, bf, evs, gt, st, binV, arith, isSh, storeV, all1, idxAV, fieldV, faddrV, iaddrSV, iaddrAV, pickV, convV, unV, eqbV, eqpV, extV, mm2, mmV, nilckV, ress, res1, retV, Value.cells, reduceIte, reduceCtorEq, Int.reduceLT, Int.reduceLE, Int.reduceToNat, Int.reduceAdd, Int.reduceSub, Int.reduceMul, Int.reduceNeg, Nat.reduceMul, Nat.reduceAdd, Nat.reduceSub, Nat.reduceBEq, Nat.reduceEqDiff, Nat.reduceLT, Nat.reduceLeDiff, Int.reduceBEq, Int.reduceEq, Nat.reducePow, Int.reducePow, IntWalk.i64_in, IntKind.bits, eqAV, eqL, leafEq, andO, fillV, buildSV, Int.reduceGT, Int.reduceGE, Int.reduceBNe, IntWalk.u64_in, newsV_s, tassV, isnV, slcV, slcAV, slcTV, slcB, appNew, Option.bind_some, Option.bind_none, eqsV, lookV, mupdV, mdelV, mkM, ev1, ev2]
    with_reducible refine done2 ?_
    repeat (first | refine ext_new hN ?_ | exact fun _ _ h => h)
  by_cases c3 : p ≥ 1
  case neg =>
    simp -implicitDefEqProofs (maxSteps := 10000000) (disch := omega) only [T13, L13, hB, hR, hI, c1, c2, c3, pad, lightV, bt, bf, evs, gt, st, binV, arith, isSh, storeV, all1, idxAV, fieldV, faddrV, iaddrSV, iaddrAV, pickV, convV, unV, eqbV, eqpV, extV, mm2, mmV, nilckV, ress, res1, retV, Value.cells, reduceIte, reduceCtorEq, Int.reduceLT, Int.reduceLE, Int.reduceToNat, Int.reduceAdd, Int.reduceSub, Int.reduceMul, Int.reduceNeg, Nat.reduceMul, Nat.reduceAdd, Nat.reduceSub, Nat.reduceBEq, Nat.reduceEqDiff, Nat.reduceLT, Nat.reduceLeDiff, Int.reduceBEq, Int.reduceEq, Nat.reducePow, Int.reducePow, IntWalk.i64_in, IntKind.bits, eqAV, eqL, leafEq, andO, fillV, buildSV, Int.reduceGT, Int.reduceGE, Int.reduceBNe, IntWalk.u64_in, newsV_s, tassV, isnV, slcV, slcAV, slcTV, slcB, appNew, Option.bind_some, Option.bind_none, eqsV, lookV, mupdV, mdelV, mkM, ev1, ev2]
    with_reducible refine done2 ?_
    repeat (first | refine ext_new hN ?_ | exact fun _ _ h => h)
  by_cases c4 : p ≤ 16
  case neg =>
    simp -implicitDefEqProofs (maxSteps := 10000000) (disch := omega) only [T13, L13, hB, hR, hI, c1, c2, c3, c4, pad, lightV, bt, bf, evs, gt, st, binV, arith, isSh, storeV, all1, idxAV, fieldV, faddrV, iaddrSV, iaddrAV, pickV, convV, unV, eqbV, eqpV, extV, mm2, mmV, nilckV, ress, res1, retV, Value.cells, reduceIte, reduceCtorEq, Int.reduceLT, Int.reduceLE, Int.reduceToNat, Int.reduceAdd, Int.reduceSub, Int.reduceMul, Int.reduceNeg, Nat.reduceMul, Nat.reduceAdd, Nat.reduceSub, Nat.reduceBEq, Nat.reduceEqDiff, Nat.reduceLT, Nat.reduceLeDiff, Int.reduceBEq, Int.reduceEq, Nat.reducePow, Int.reducePow, IntWalk.i64_in, IntKind.bits, eqAV, eqL, leafEq, andO, fillV, buildSV, Int.reduceGT, Int.reduceGE, Int.reduceBNe, IntWalk.u64_in, newsV_s, tassV, isnV, slcV, slcAV, slcTV, slcB, appNew, Option.bind_some, Option.bind_none, eqsV, lookV, mupdV, mdelV, mkM, ev1, ev2]
    with_reducible refine done2 ?_
    repeat (first | refine ext_new hN ?_ | exact fun _ _ h => h)
  by_cases c5 : c ≥ 1
  case neg =>
    simp -implicitDefEqProofs (maxSteps := 10000000) (disch := omega) only [T13, L13, hB, hR, hI, c1, c2, c3, c4, c5, pad, lightV, bt, bf, evs, gt, st, binV, arith, isSh, storeV, all1, idxAV, fieldV, faddrV, iaddrSV, iaddrAV, pickV, convV, unV, eqbV, eqpV, extV, mm2, mmV, nilckV, ress, res1, retV, Value.cells, reduceIte, reduceCtorEq, Int.reduceLT, Int.reduceLE, Int.reduceToNat, Int.reduceAdd, Int.reduceSub, Int.reduceMul, Int.reduceNeg, Nat.reduceMul, Nat.reduceAdd, Nat.reduceSub, Nat.reduceBEq, Nat.reduceEqDiff, Nat.reduceLT, Nat.reduceLeDiff, Int.reduceBEq, Int.reduceEq, Nat.reducePow, Int.reducePow, IntWalk.i64_in, IntKind.bits, eqAV, eqL, leafEq, andO, fillV, buildSV, Int.reduceGT, Int.reduceGE, Int.reduceBNe, IntWalk.u64_in, newsV_s, tassV, isnV, slcV, slcAV, slcTV, slcB, appNew, Option.bind_some, Option.bind_none, eqsV, lookV, mupdV, mdelV, mkM, ev1, ev2]
    with_reducible refine done2 ?_
    repeat (first | refine ext_new hN ?_ | exact fun _ _ h => h)
  have c6 : ¬ c ≤ 256 := fun c6 => h ⟨⟨c1, by omega⟩, ⟨c3, c4⟩, c5, c6⟩
  simp -implicitDefEqProofs (maxSteps := 10000000) (disch := omega) only [T13, L13, hB, hR, hI, c1, c2, c3, c4, c5, c6, pad, lightV, bt, bf, evs, gt, st, binV, arith, isSh, storeV, all1, idxAV, fieldV, faddrV, iaddrSV, iaddrAV, pickV, convV, unV, eqbV, eqpV, extV, mm2, mmV, nilckV, ress, res1, retV, Value.cells, reduceIte, reduceCtorEq, Int.reduceLT, Int.reduceLE, Int.reduceToNat, Int.reduceAdd, Int.reduceSub, Int.reduceMul, Int.reduceNeg, Nat.reduceMul, Nat.reduceAdd, Nat.reduceSub, Nat.reduceBEq, Nat.reduceEqDiff, Nat.reduceLT, Nat.reduceLeDiff, Int.reduceBEq, Int.reduceEq, Nat.reducePow, Int.reducePow, IntWalk.i64_in, IntKind.bits, eqAV, eqL, leafEq, andO, fillV, buildSV, Int.reduceGT, Int.reduceGE, Int.reduceBNe, IntWalk.u64_in, newsV_s, tassV, isnV, slcV, slcAV, slcTV, slcB, appNew, Option.bind_some, Option.bind_none, eqsV, lookV, mupdV, mdelV, mkM, ev1, ev2]
  with_reducible refine done2 ?_
  repeat (first | refine ext_new hN ?_ | exact fun _ _ h => h)
theorem f13d {B : OH} (hG : ∃ H N, good B H N) (k p c : Int) : F13 B [.agg #[.int .i64 k, .int .i64 p, .int .i64 c]] = some (.bool (decide (fitI k p c))) := by
  by_cases h : fitI k p c
  · rw [decide_eq_true h]; exact f13 hG k p c h.1 h.2.1 h.2.2
  · rw [decide_eq_false h]; exact f13n hG k p c h
theorem f12n {B : OH} (hG : ∃ H N, good B H N) (k p c : Int) (h : ¬ fitI k p c) : F12 B [.agg #[.int .i64 k, .int .i64 p, .int .i64 c]] = some (.int .i64 0) := by
  refine kval_eq hG fun H N hN => ?_
  have hB := good_B hN
  have hR := good_rdB hN
  have hI := beqN hN.1.1
  have e13 := f13n hG k p c h
  simp -implicitDefEqProofs (maxSteps := 10000000) (disch := omega) only [T12, L12, G12_13, V13_eq, hB, hR, hI, e13, pad, lightV, bt, bf, evs, gt, st, binV, arith, isSh, storeV, all1, idxAV, fieldV, faddrV, iaddrSV, iaddrAV, pickV, convV, unV, eqbV, eqpV, extV, mm2, mmV, nilckV, ress, res1, retV, Value.cells, reduceIte, reduceCtorEq, Int.reduceLT, Int.reduceLE, Int.reduceToNat, Int.reduceAdd, Int.reduceSub, Int.reduceMul, Int.reduceNeg, Nat.reduceMul, Nat.reduceAdd, Nat.reduceSub, Nat.reduceBEq, Nat.reduceEqDiff, Nat.reduceLT, Nat.reduceLeDiff, Int.reduceBEq, Int.reduceEq, Nat.reducePow, Int.reducePow, IntWalk.i64_in, IntKind.bits, eqAV, eqL, leafEq, andO, fillV, buildSV, Int.reduceGT, Int.reduceGE, Int.reduceBNe, IntWalk.u64_in, newsV_s, tassV, isnV, slcV, slcAV, slcTV, slcB, appNew, Option.bind_some, Option.bind_none, eqsV, lookV, mupdV, mdelV, mkM, ev1, ev2]
  with_reducible refine done2 ?_
  repeat (first | refine ext_new hN ?_ | exact fun _ _ h => h)
theorem f11n {B : OH} (hG : ∃ H N, good B H N) (k p c : Int) (h : ¬ fitI k p c) : F11 B [.agg #[.int .i64 k, .int .i64 p, .int .i64 c]] = some (.int .i64 0) := by
  refine kval_eq hG fun H N hN => ?_
  have hB := good_B hN
  have hR := good_rdB hN
  have hI := beqN hN.1.1
  have e13 := f13n hG k p c h
  simp -implicitDefEqProofs (maxSteps := 10000000) (disch := omega) only [T11, L11, G11_13, V13_eq, G11_16, V16_eq, hB, hR, hI, e13, pad, lightV, bt, bf, evs, gt, st, binV, arith, isSh, storeV, all1, idxAV, fieldV, faddrV, iaddrSV, iaddrAV, pickV, convV, unV, eqbV, eqpV, extV, mm2, mmV, nilckV, ress, res1, retV, Value.cells, reduceIte, reduceCtorEq, Int.reduceLT, Int.reduceLE, Int.reduceToNat, Int.reduceAdd, Int.reduceSub, Int.reduceMul, Int.reduceNeg, Nat.reduceMul, Nat.reduceAdd, Nat.reduceSub, Nat.reduceBEq, Nat.reduceEqDiff, Nat.reduceLT, Nat.reduceLeDiff, Int.reduceBEq, Int.reduceEq, Nat.reducePow, Int.reducePow, IntWalk.i64_in, IntKind.bits, eqAV, eqL, leafEq, andO, fillV, buildSV, Int.reduceGT, Int.reduceGE, Int.reduceBNe, IntWalk.u64_in, newsV_s, tassV, isnV, slcV, slcAV, slcTV, slcB, appNew, Option.bind_some, Option.bind_none, eqsV, lookV, mupdV, mdelV, mkM, ev1, ev2]
  with_reducible refine done2 ?_
  repeat (first | refine ext_new hN ?_ | exact fun _ _ h => h)
theorem f7n {B : OH} (hG : ∃ H N, good B H N) (k p c : Int) (h : ¬ fitI k p c) : F7 B [.agg #[.int .i64 k, .int .i64 p, .int .i64 c]] = some (.int .i64 0) := by
  refine kval_eq hG fun H N hN => ?_
  have hB := good_B hN
  have hR := good_rdB hN
  have hI := beqN hN.1.1
  have e13 := f13n hG k p c h
  simp -implicitDefEqProofs (maxSteps := 10000000) (disch := omega) only [T7, L7, G7_13, V13_eq, G7_15, V15, T15, L15, hB, hR, hI, e13, pad, lightV, bt, bf, evs, gt, st, binV, arith, isSh, storeV, all1, idxAV, fieldV, faddrV, iaddrSV, iaddrAV, pickV, convV, unV, eqbV, eqpV, extV, mm2, mmV, nilckV, ress, res1, retV, Value.cells, reduceIte, reduceCtorEq, Int.reduceLT, Int.reduceLE, Int.reduceToNat, Int.reduceAdd, Int.reduceSub, Int.reduceMul, Int.reduceNeg, Nat.reduceMul, Nat.reduceAdd, Nat.reduceSub, Nat.reduceBEq, Nat.reduceEqDiff, Nat.reduceLT, Nat.reduceLeDiff, Int.reduceBEq, Int.reduceEq, Nat.reducePow, Int.reducePow, IntWalk.i64_in, IntKind.bits, eqAV, eqL, leafEq, andO, fillV, buildSV, Int.reduceGT, Int.reduceGE, Int.reduceBNe, IntWalk.u64_in, newsV_s, tassV, isnV, slcV, slcAV, slcTV, slcB, appNew, Option.bind_some, Option.bind_none, eqsV, lookV, mupdV, mdelV, mkM, ev1, ev2]
  with_reducible refine done2 ?_
  repeat (first | refine ext_new hN ?_ | exact fun _ _ h => h)
theorem f11c {B : OH} (hG : ∃ H N, good B H N) (hT : Tab B) {kk p cc h : Nat} (C : Cf kk p cc h) : F11 B [.agg #[.int .i64 (kk : Int), .int .i64 (p : Int), .int .i64 (cc : Int)]] = some (.int .i64 (LG p h : Int)) := by
  rw [f11 hG hT kk p cc (cfit C).1 (cfit C).2.1 (cfit C).2.2, C.m, show (1 + 2 * ((h : Int) + 2 * (p : Int))) = (LG p h : Int) by unfold LG; omega]
theorem f7c {B : OH} (hG : ∃ H N, good B H N) (hT : Tab B) {kk p cc h : Nat} (C : Cf kk p cc h) : F7 B [.agg #[.int .i64 (kk : Int), .int .i64 (p : Int), .int .i64 (cc : Int)]] = some (.int .i64 (bs p h 5 : Int)) := f7 hG hT C.k C.p C.c C.m
theorem f10n {B : OH} (hG : ∃ H N, good B H N) (k p c x y : Int) (h : ¬ fitI k p c) : F10 B [.agg #[.int .i64 k, .int .i64 p, .int .i64 c], .int .i64 x, .int .i64 y] = some (.tuple #[.int .i64 0, .int .i64 5]) := by
  refine kval_eq hG fun H N hN => ?_
  have hB := good_B hN
  have hR := good_rdB hN
  have hI := beqN hN.1.1
  have e13 := f13n hG k p c h
  simp -implicitDefEqProofs (maxSteps := 10000000) (disch := omega) only [T10, L10, G10_13, V13_eq, G10_15, V15, T15, L15, hB, hR, hI, e13, pad, lightV, bt, bf, evs, gt, st, binV, arith, isSh, storeV, all1, idxAV, fieldV, faddrV, iaddrSV, iaddrAV, pickV, convV, unV, eqbV, eqpV, extV, mm2, mmV, nilckV, ress, res1, retV, Value.cells, reduceIte, reduceCtorEq, Int.reduceLT, Int.reduceLE, Int.reduceToNat, Int.reduceAdd, Int.reduceSub, Int.reduceMul, Int.reduceNeg, Nat.reduceMul, Nat.reduceAdd, Nat.reduceSub, Nat.reduceBEq, Nat.reduceEqDiff, Nat.reduceLT, Nat.reduceLeDiff, Int.reduceBEq, Int.reduceEq, Nat.reducePow, Int.reducePow, IntWalk.i64_in, IntKind.bits, eqAV, eqL, leafEq, andO, fillV, buildSV, Int.reduceGT, Int.reduceGE, Int.reduceBNe, IntWalk.u64_in, newsV_s, tassV, isnV, slcV, slcAV, slcTV, slcB, appNew, Option.bind_some, Option.bind_none, eqsV, lookV, mupdV, mdelV, mkM, ev1, ev2]
  with_reducible refine done2 ?_
  repeat (first | refine ext_new hN ?_ | exact fun _ _ h => h)
theorem f10o {B : OH} (hG : ∃ H N, good B H N) {kk p cc h : Nat} (C : Cf kk p cc h) (y : Int) (hy : y < 0 ∨ y ≥ (p : Int)) : F10 B [.agg #[.int .i64 (kk : Int), .int .i64 (p : Int), .int .i64 (cc : Int)], .int .i64 3, .int .i64 y] = some (.tuple #[.int .i64 0, .int .i64 1]) := by
  refine kval_eq hG fun H N hN => ?_
  have hB := good_B hN
  have hR := good_rdB hN
  have hI := beqN hN.1.1
  have e13 := f13 hG kk p cc (cfit C).1 (cfit C).2.1 (cfit C).2.2
  by_cases c1 : y < 0
  · simp -implicitDefEqProofs (maxSteps := 10000000) (disch := omega) only [T10, L10, G10_13, V13_eq, G10_15, V15, T15, L15, hB, hR, hI, e13, c1, pad, lightV, bt, bf, evs, gt, st, binV, arith, isSh, storeV, all1, idxAV, fieldV, faddrV, iaddrSV, iaddrAV, pickV, convV, unV, eqbV, eqpV, extV, mm2, mmV, nilckV, ress, res1, retV, Value.cells, reduceIte, reduceCtorEq, Int.reduceLT, Int.reduceLE, Int.reduceToNat, Int.reduceAdd, Int.reduceSub, Int.reduceMul, Int.reduceNeg, Nat.reduceMul, Nat.reduceAdd, Nat.reduceSub, Nat.reduceBEq, Nat.reduceEqDiff, Nat.reduceLT, Nat.reduceLeDiff, Int.reduceBEq, Int.reduceEq, Nat.reducePow, Int.reducePow, IntWalk.i64_in, IntKind.bits, eqAV, eqL, leafEq, andO, fillV, buildSV, Int.reduceGT, Int.reduceGE, Int.reduceBNe, IntWalk.u64_in, newsV_s, tassV, isnV, slcV, slcAV, slcTV, slcB, appNew, Option.bind_some, Option.bind_none, eqsV, lookV, mupdV, mdelV, mkM, ev1, ev2]
    with_reducible refine done2 ?_
    repeat (first | refine ext_new hN ?_ | exact fun _ _ h => h)
  · have c2 : y ≥ (p : Int) := by omega
    simp -implicitDefEqProofs (maxSteps := 10000000) (disch := omega) only [T10, L10, G10_13, V13_eq, G10_15, V15, T15, L15, hB, hR, hI, e13, c1, c2, pad, lightV, bt, bf, evs, gt, st, binV, arith, isSh, storeV, all1, idxAV, fieldV, faddrV, iaddrSV, iaddrAV, pickV, convV, unV, eqbV, eqpV, extV, mm2, mmV, nilckV, ress, res1, retV, Value.cells, reduceIte, reduceCtorEq, Int.reduceLT, Int.reduceLE, Int.reduceToNat, Int.reduceAdd, Int.reduceSub, Int.reduceMul, Int.reduceNeg, Nat.reduceMul, Nat.reduceAdd, Nat.reduceSub, Nat.reduceBEq, Nat.reduceEqDiff, Nat.reduceLT, Nat.reduceLeDiff, Int.reduceBEq, Int.reduceEq, Nat.reducePow, Int.reducePow, IntWalk.i64_in, IntKind.bits, eqAV, eqL, leafEq, andO, fillV, buildSV, Int.reduceGT, Int.reduceGE, Int.reduceBNe, IntWalk.u64_in, newsV_s, tassV, isnV, slcV, slcAV, slcTV, slcB, appNew, Option.bind_some, Option.bind_none, eqsV, lookV, mupdV, mdelV, mkM, ev1, ev2]
    with_reducible refine done2 ?_
    repeat (first | refine ext_new hN ?_ | exact fun _ _ h => h)
theorem f10c3 {B : OH} (hG : ∃ H N, good B H N) (hT : Tab B) {kk p cc h : Nat} (C : Cf kk p cc h) {q : Nat} (hq : q < p) : F10 B [.agg #[.int .i64 (kk : Int), .int .i64 (p : Int), .int .i64 (cc : Int)], .int .i64 3, .int .i64 (q : Int)] = some (.tuple #[.int .i64 (bs p h 3 + LG p h * q : Nat), .int .i64 0]) := by
  have := f10a (k0 := 3) (o0 := q) hG hT C.k C.p C.c C.m (by omega) (by simpa [mn] using hq) ⟨by omega, by omega⟩
  exact this
/-- whitewash/whitewashref04.in -/
def Lref04in : FnL := ⟨(.seq (.ops [⟨(some 6), .mv (.const (.bool false)), none⟩])
 (.seq (.ops [⟨(some 7), .mv (.tmp 0), none⟩, ⟨(some 8), .mv (.tmp 1), none⟩, ⟨(some 9), .bin .geq (.tmp 7) (.tmp 8), none⟩, ⟨(some 10), .mv (.tmp 9), none⟩, ⟨(some 11), .mv (.tmp 0), (some (10, true))⟩, ⟨(some 12), .mv (.tmp 2), (some (10, true))⟩, ⟨(some 13), .bin .leq (.tmp 11) (.tmp 12), (some (10, true))⟩, ⟨(some 14), .pick (.tmp 10) (.tmp 13) (.const (.bool false)), none⟩, ⟨(some 6), .mv (.tmp 14), none⟩])
 .ret)),
 15, [.tmp 6]⟩
theorem lowref04in : lowerFn Tryd.prog Tryd.f61 = some Lref04in := by kernel_rfl
noncomputable def Gref04in (B : OH) : Nat → Cs
  | _ => fun _ _ _ => none
theorem sGref04in {w0 : World} {B : OH} : SoundG Tryd.prog w0 B { f := Gref04in B } := .of fun k => by
  unfold Gref04in
  split
  · exact .inl fun _ _ _ => rfl
theorem enref04in : Enter Tryd.prog 61 := .of Tryd.func61 (by kernel_rfl) (by kernel_rfl)
noncomputable def Tref04in (B : OH) : Cs := callF B { f := Gref04in B } 80 Lref04in
theorem sTref04in {w0 : World} {B : OH} : SoundC Tryd.prog w0 B 61 (Tref04in B) := callF_sound mixedOrders sGref04in 80 Tryd.func61 lowref04in
noncomputable def Fref04in (B : OH) : List Value → Option Value := kval B (Tref04in B)
noncomputable def Vref04in (B : OH) : Cs := fun a H N => pvE (Fref04in B a) H N
theorem Vref04in_eq {B : OH} {a : List Value} {H : HL} {N : St} : Vref04in B a H N = pvE (Fref04in B a) H N := rfl
theorem sVref04in {w0 : World} {B : OH} : SoundC Tryd.prog w0 B 61 (Vref04in B) := sTref04in.ofVal
theorem fin {B : OH} (hG : ∃ H N, good B H N) (x a b : Int) : Fref04in B [.int .i64 x, .int .i64 a, .int .i64 b] = some (.bool (decide (a ≤ x ∧ x ≤ b))) := by
  refine kval_eq hG fun H N hN => ?_
  have hB := good_B hN
  have hR := good_rdB hN
  have hI := beqN hN.1.1
  by_cases c1 : x ≥ a
  · by_cases c2 : x ≤ b
    · rw [decide_eq_true ⟨c1, c2⟩]
      simp -implicitDefEqProofs (maxSteps := 10000000) (disch := omega) only [Tref04in, Lref04in, hB, hR, hI, c1, c2, pad, lightV, bt, bf, evs, gt, st, binV, arith, isSh, storeV, all1, idxAV, fieldV, faddrV, iaddrSV, iaddrAV, pickV, convV, unV, eqbV, eqpV, extV, mm2, mmV, nilckV, ress, res1, retV, Value.cells, reduceIte, reduceCtorEq, Int.reduceLT, Int.reduceLE, Int.reduceToNat, Int.reduceAdd, Int.reduceSub, Int.reduceMul, Int.reduceNeg, Nat.reduceMul, Nat.reduceAdd, Nat.reduceSub, Nat.reduceBEq, Nat.reduceEqDiff, Nat.reduceLT, Nat.reduceLeDiff, Int.reduceBEq, Int.reduceEq, Nat.reducePow, Int.reducePow, IntWalk.i64_in, IntKind.bits, eqAV, eqL, leafEq, andO, fillV, buildSV, Int.reduceGT, Int.reduceGE, Int.reduceBNe, IntWalk.u64_in, newsV_s, tassV, isnV, slcV, slcAV, slcTV, slcB, appNew, Option.bind_some, Option.bind_none, eqsV, lookV, mupdV, mdelV, mkM, ev1, ev2]
      with_reducible refine done2 ?_
      repeat (first | refine ext_new hN ?_ | exact fun _ _ h => h)
    · rw [decide_eq_false fun h => c2 h.2]
      simp -implicitDefEqProofs (maxSteps := 10000000) (disch := omega) only [Tref04in, Lref04in, hB, hR, hI, c1, c2, pad, lightV, bt, bf, evs, gt, st, binV, arith, isSh, storeV, all1, idxAV, fieldV, faddrV, iaddrSV, iaddrAV, pickV, convV, unV, eqbV, eqpV, extV, mm2, mmV, nilckV, ress, res1, retV, Value.cells, reduceIte, reduceCtorEq, Int.reduceLT, Int.reduceLE, Int.reduceToNat, Int.reduceAdd, Int.reduceSub, Int.reduceMul, Int.reduceNeg, Nat.reduceMul, Nat.reduceAdd, Nat.reduceSub, Nat.reduceBEq, Nat.reduceEqDiff, Nat.reduceLT, Nat.reduceLeDiff, Int.reduceBEq, Int.reduceEq, Nat.reducePow, Int.reducePow, IntWalk.i64_in, IntKind.bits, eqAV, eqL, leafEq, andO, fillV, buildSV, Int.reduceGT, Int.reduceGE, Int.reduceBNe, IntWalk.u64_in, newsV_s, tassV, isnV, slcV, slcAV, slcTV, slcB, appNew, Option.bind_some, Option.bind_none, eqsV, lookV, mupdV, mdelV, mkM, ev1, ev2]
      with_reducible refine done2 ?_
      repeat (first | refine ext_new hN ?_ | exact fun _ _ h => h)
  · rw [decide_eq_false fun h => c1 h.1]
    simp -implicitDefEqProofs (maxSteps := 10000000) (disch := omega) only [Tref04in, Lref04in, hB, hR, hI, c1, pad, lightV, bt, bf, evs, gt, st, binV, arith, isSh, storeV, all1, idxAV, fieldV, faddrV, iaddrSV, iaddrAV, pickV, convV, unV, eqbV, eqpV, extV, mm2, mmV, nilckV, ress, res1, retV, Value.cells, reduceIte, reduceCtorEq, Int.reduceLT, Int.reduceLE, Int.reduceToNat, Int.reduceAdd, Int.reduceSub, Int.reduceMul, Int.reduceNeg, Nat.reduceMul, Nat.reduceAdd, Nat.reduceSub, Nat.reduceBEq, Nat.reduceEqDiff, Nat.reduceLT, Nat.reduceLeDiff, Int.reduceBEq, Int.reduceEq, Nat.reducePow, Int.reducePow, IntWalk.i64_in, IntKind.bits, eqAV, eqL, leafEq, andO, fillV, buildSV, Int.reduceGT, Int.reduceGE, Int.reduceBNe, IntWalk.u64_in, newsV_s, tassV, isnV, slcV, slcAV, slcTV, slcB, appNew, Option.bind_some, Option.bind_none, eqsV, lookV, mupdV, mdelV, mkM, ev1, ev2]
    with_reducible refine done2 ?_
    repeat (first | refine ext_new hN ?_ | exact fun _ _ h => h)
/-- whitewash/whitewashref04.Fits -/
def Lref04Fits : FnL := ⟨(.seq (.ops [⟨(some 1), .box (.tmp 0), none⟩, ⟨(some 2), .mv (.const (.bool false)), none⟩])
 (.seq (.ops [⟨(some 3), .faddr 0 (.tmp 1), none⟩, ⟨(some 4), .load false 1 (.tmp 3), none⟩, ⟨(some 5), .call (.func 61) [(.tmp 4), (.const (.int .i64 1)), (.const (.int .i64 5))], none⟩, ⟨(some 6), .mv (.tmp 5), none⟩, ⟨(some 7), .faddr 1 (.tmp 1), (some (6, true))⟩, ⟨(some 8), .load false 1 (.tmp 7), (some (6, true))⟩, ⟨(some 9), .call (.func 61) [(.tmp 8), (.const (.int .i64 1)), (.const (.int .i64 16))], (some (6, true))⟩, ⟨(some 10), .pick (.tmp 6) (.tmp 9) (.const (.bool false)), none⟩, ⟨(some 11), .mv (.tmp 10), none⟩, ⟨(some 12), .faddr 2 (.tmp 1), (some (11, true))⟩, ⟨(some 13), .load false 1 (.tmp 12), (some (11, true))⟩, ⟨(some 14), .call (.func 61) [(.tmp 13), (.const (.int .i64 1)), (.const (.int .i64 256))], (some (11, true))⟩, ⟨(some 15), .pick (.tmp 11) (.tmp 14) (.const (.bool false)), none⟩, ⟨(some 2), .mv (.tmp 15), none⟩])
 .ret)),
 16, [.tmp 2]⟩
theorem lowref04Fits : lowerFn Tryd.prog Tryd.f39 = some Lref04Fits := by kernel_rfl
noncomputable def Gref04Fits (B : OH) : Nat → Cs
  | 61 => Vref04in B
  | _ => fun _ _ _ => none
theorem Gref04Fits_ref04in {B : OH} : Gref04Fits B 61 = Vref04in B := rfl
theorem sGref04Fits {w0 : World} {B : OH} : SoundG Tryd.prog w0 B { f := Gref04Fits B } := .of fun k => by
  unfold Gref04Fits
  split
  · exact .inr ⟨enref04in, sVref04in⟩
  · exact .inl fun _ _ _ => rfl
theorem enref04Fits : Enter Tryd.prog 39 := .of Tryd.func39 (by kernel_rfl) (by kernel_rfl)
noncomputable def Tref04Fits (B : OH) : Cs := callF B { f := Gref04Fits B } 80 Lref04Fits
theorem sTref04Fits {w0 : World} {B : OH} : SoundC Tryd.prog w0 B 39 (Tref04Fits B) := callF_sound mixedOrders sGref04Fits 80 Tryd.func39 lowref04Fits
noncomputable def Fref04Fits (B : OH) : List Value → Option Value := kval B (Tref04Fits B)
noncomputable def Vref04Fits (B : OH) : Cs := fun a H N => pvE (Fref04Fits B a) H N
theorem Vref04Fits_eq {B : OH} {a : List Value} {H : HL} {N : St} : Vref04Fits B a H N = pvE (Fref04Fits B a) H N := rfl
theorem sVref04Fits {w0 : World} {B : OH} : SoundC Tryd.prog w0 B 39 (Vref04Fits B) := sTref04Fits.ofVal
theorem rFits {B : OH} (hG : ∃ H N, good B H N) (k p c : Int) : Fref04Fits B [.agg #[.int .i64 k, .int .i64 p, .int .i64 c]] = some (.bool (decide (fitI k p c))) := by
  refine kval_eq hG fun H N hN => ?_
  have hB := good_B hN
  have hR := good_rdB hN
  have hI := beqN hN.1.1
  have e1 := fin hG k 1 5
  have e2 := fin hG p 1 16
  have e3 := fin hG c 1 256
  by_cases c1 : 1 ≤ k ∧ k ≤ 5
  · by_cases c2 : 1 ≤ p ∧ p ≤ 16
    · by_cases c3 : 1 ≤ c ∧ c ≤ 256
      · rw [decide_eq_true (show fitI k p c from ⟨c1, c2, c3⟩)]
        rw [decide_eq_true c1] at e1; rw [decide_eq_true c2] at e2; rw [decide_eq_true c3] at e3
        simp -implicitDefEqProofs (maxSteps := 10000000) (disch := omega) only [Tref04Fits, Lref04Fits, Gref04Fits_ref04in, Vref04in_eq, hB, hR, hI, e1, e2, e3, pad, lightV, bt, bf, evs, gt, st, binV, arith, isSh, storeV, all1, idxAV, fieldV, faddrV, iaddrSV, iaddrAV, pickV, convV, unV, eqbV, eqpV, extV, mm2, mmV, nilckV, ress, res1, retV, Value.cells, reduceIte, reduceCtorEq, Int.reduceLT, Int.reduceLE, Int.reduceToNat, Int.reduceAdd, Int.reduceSub, Int.reduceMul, Int.reduceNeg, Nat.reduceMul, Nat.reduceAdd, Nat.reduceSub, Nat.reduceBEq, Nat.reduceEqDiff, Nat.reduceLT, Nat.reduceLeDiff, Int.reduceBEq, Int.reduceEq, Nat.reducePow, Int.reducePow, IntWalk.i64_in, IntKind.bits, eqAV, eqL, leafEq, andO, fillV, buildSV, Int.reduceGT, Int.reduceGE, Int.reduceBNe, IntWalk.u64_in, newsV_s, tassV, isnV, slcV, slcAV, slcTV, slcB, appNew, Option.bind_some, Option.bind_none, eqsV, lookV, mupdV, mdelV, mkM, ev1, ev2]
        with_reducible refine done2 ?_
        repeat (first | refine ext_new hN ?_ | exact fun _ _ h => h)
      · rw [decide_eq_false (show ¬ fitI k p c from fun h => c3 h.2.2)]
        rw [decide_eq_true c1] at e1; rw [decide_eq_true c2] at e2; rw [decide_eq_false c3] at e3
        simp -implicitDefEqProofs (maxSteps := 10000000) (disch := omega) only [Tref04Fits, Lref04Fits, Gref04Fits_ref04in, Vref04in_eq, hB, hR, hI, e1, e2, e3, pad, lightV, bt, bf, evs, gt, st, binV, arith, isSh, storeV, all1, idxAV, fieldV, faddrV, iaddrSV, iaddrAV, pickV, convV, unV, eqbV, eqpV, extV, mm2, mmV, nilckV, ress, res1, retV, Value.cells, reduceIte, reduceCtorEq, Int.reduceLT, Int.reduceLE, Int.reduceToNat, Int.reduceAdd, Int.reduceSub, Int.reduceMul, Int.reduceNeg, Nat.reduceMul, Nat.reduceAdd, Nat.reduceSub, Nat.reduceBEq, Nat.reduceEqDiff, Nat.reduceLT, Nat.reduceLeDiff, Int.reduceBEq, Int.reduceEq, Nat.reducePow, Int.reducePow, IntWalk.i64_in, IntKind.bits, eqAV, eqL, leafEq, andO, fillV, buildSV, Int.reduceGT, Int.reduceGE, Int.reduceBNe, IntWalk.u64_in, newsV_s, tassV, isnV, slcV, slcAV, slcTV, slcB, appNew, Option.bind_some, Option.bind_none, eqsV, lookV, mupdV, mdelV, mkM, ev1, ev2]
        with_reducible refine done2 ?_
        repeat (first | refine ext_new hN ?_ | exact fun _ _ h => h)
    · rw [decide_eq_false (show ¬ fitI k p c from fun h => c2 h.2.1)]
      rw [decide_eq_true c1] at e1; rw [decide_eq_false c2] at e2
      simp -implicitDefEqProofs (maxSteps := 10000000) (disch := omega) only [Tref04Fits, Lref04Fits, Gref04Fits_ref04in, Vref04in_eq, hB, hR, hI, e1, e2, pad, lightV, bt, bf, evs, gt, st, binV, arith, isSh, storeV, all1, idxAV, fieldV, faddrV, iaddrSV, iaddrAV, pickV, convV, unV, eqbV, eqpV, extV, mm2, mmV, nilckV, ress, res1, retV, Value.cells, reduceIte, reduceCtorEq, Int.reduceLT, Int.reduceLE, Int.reduceToNat, Int.reduceAdd, Int.reduceSub, Int.reduceMul, Int.reduceNeg, Nat.reduceMul, Nat.reduceAdd, Nat.reduceSub, Nat.reduceBEq, Nat.reduceEqDiff, Nat.reduceLT, Nat.reduceLeDiff, Int.reduceBEq, Int.reduceEq, Nat.reducePow, Int.reducePow, IntWalk.i64_in, IntKind.bits, eqAV, eqL, leafEq, andO, fillV, buildSV, Int.reduceGT, Int.reduceGE, Int.reduceBNe, IntWalk.u64_in, newsV_s, tassV, isnV, slcV, slcAV, slcTV, slcB, appNew, Option.bind_some, Option.bind_none, eqsV, lookV, mupdV, mdelV, mkM, ev1, ev2]
      with_reducible refine done2 ?_
      repeat (first | refine ext_new hN ?_ | exact fun _ _ h => h)
  · rw [decide_eq_false (show ¬ fitI k p c from fun h => c1 h.1)]
    rw [decide_eq_false c1] at e1
    simp -implicitDefEqProofs (maxSteps := 10000000) (disch := omega) only [Tref04Fits, Lref04Fits, Gref04Fits_ref04in, Vref04in_eq, hB, hR, hI, e1, pad, lightV, bt, bf, evs, gt, st, binV, arith, isSh, storeV, all1, idxAV, fieldV, faddrV, iaddrSV, iaddrAV, pickV, convV, unV, eqbV, eqpV, extV, mm2, mmV, nilckV, ress, res1, retV, Value.cells, reduceIte, reduceCtorEq, Int.reduceLT, Int.reduceLE, Int.reduceToNat, Int.reduceAdd, Int.reduceSub, Int.reduceMul, Int.reduceNeg, Nat.reduceMul, Nat.reduceAdd, Nat.reduceSub, Nat.reduceBEq, Nat.reduceEqDiff, Nat.reduceLT, Nat.reduceLeDiff, Int.reduceBEq, Int.reduceEq, Nat.reducePow, Int.reducePow, IntWalk.i64_in, IntKind.bits, eqAV, eqL, leafEq, andO, fillV, buildSV, Int.reduceGT, Int.reduceGE, Int.reduceBNe, IntWalk.u64_in, newsV_s, tassV, isnV, slcV, slcAV, slcTV, slcB, appNew, Option.bind_some, Option.bind_none, eqsV, lookV, mupdV, mdelV, mkM, ev1, ev2]
    with_reducible refine done2 ?_
    repeat (first | refine ext_new hN ?_ | exact fun _ _ h => h)
theorem rFits1 {B : OH} (hG : ∃ H N, good B H N) {kk p cc h : Nat} (C : Cf kk p cc h) : Fref04Fits B [.agg #[.int .i64 (kk : Int), .int .i64 (p : Int), .int .i64 (cc : Int)]] = some (.bool true) := by
  rw [rFits hG, decide_eq_true (cfit C)]
/-- whitewash/whitewashref04.Home -/
def Lref04Home : FnL := ⟨(.seq (.ops [⟨(some 1), .box (.tmp 0), none⟩, ⟨(some 2), .mv (.const (.int .i64 0)), none⟩])
 (.seq (.seq (.ops [⟨(some 3), .load true 3 (.tmp 1), none⟩, ⟨(some 4), .call (.func 39) [(.tmp 3)], none⟩, ⟨(some 5), .un .not (.tmp 4), none⟩])
 (.cond (.tmp 5) (.seq (.ops [⟨(some 2), .mv (.const (.int .i64 0)), none⟩])
 .ret)
 .skip))
 (.seq (.seq (.ops [⟨(some 6), .faddr 0 (.tmp 1), none⟩, ⟨(some 7), .load false 1 (.tmp 6), none⟩])
 (.block 0 (.seq (.ops [⟨(some 9), .bin .eql (.tmp 7) (.const (.int .i64 1)), none⟩, ⟨(some 8), .mv (.tmp 9), none⟩])
 (.cond (.tmp 8) (.seq (.ops [⟨(some 2), .mv (.const (.int .i64 1)), none⟩])
 .ret)
 (.seq (.ops [⟨(some 11), .bin .eql (.tmp 7) (.const (.int .i64 2)), none⟩, ⟨(some 10), .mv (.tmp 11), none⟩])
 (.cond (.tmp 10) (.seq (.ops [⟨(some 12), .faddr 2 (.tmp 1), none⟩, ⟨(some 13), .load false 1 (.tmp 12), none⟩, ⟨(some 14), .bin .mul (.const (.int .i64 2)) (.tmp 13), none⟩, ⟨(some 15), .bin .add (.const (.int .i64 1)) (.tmp 14), none⟩, ⟨(some 2), .mv (.tmp 15), none⟩])
 .ret)
 (.seq (.ops [⟨(some 17), .bin .eql (.tmp 7) (.const (.int .i64 3)), none⟩, ⟨(some 16), .mv (.tmp 17), none⟩])
 (.cond (.tmp 16) (.seq (.ops [⟨(some 18), .faddr 2 (.tmp 1), none⟩, ⟨(some 19), .load false 1 (.tmp 18), none⟩, ⟨(some 20), .bin .mul (.const (.int .i64 4)) (.tmp 19), none⟩, ⟨(some 21), .bin .add (.const (.int .i64 1)) (.tmp 20), none⟩, ⟨(some 2), .mv (.tmp 21), none⟩])
 .ret)
 (.seq (.ops [⟨(some 23), .bin .eql (.tmp 7) (.const (.int .i64 4)), none⟩, ⟨(some 22), .mv (.tmp 23), none⟩])
 (.cond (.tmp 22) (.seq (.ops [⟨(some 24), .faddr 2 (.tmp 1), none⟩, ⟨(some 25), .load false 1 (.tmp 24), none⟩, ⟨(some 26), .bin .mul (.const (.int .i64 4)) (.tmp 25), none⟩, ⟨(some 27), .bin .add (.const (.int .i64 2)) (.tmp 26), none⟩, ⟨(some 2), .mv (.tmp 27), none⟩])
 .ret)
 .skip))))))))))
 (.seq (.ops [⟨(some 28), .faddr 2 (.tmp 1), none⟩, ⟨(some 29), .load false 1 (.tmp 28), none⟩, ⟨(some 30), .bin .add (.const (.int .i64 1)) (.tmp 29), none⟩, ⟨(some 31), .bin .add (.tmp 30) (.const (.int .i64 8)), none⟩, ⟨(some 2), .mv (.tmp 31), none⟩])
 .ret)))),
 32, [.tmp 2]⟩
theorem lowref04Home : lowerFn Tryd.prog Tryd.f38 = some Lref04Home := by kernel_rfl
noncomputable def Gref04Home (B : OH) : Nat → Cs
  | 39 => Vref04Fits B
  | _ => fun _ _ _ => none
theorem Gref04Home_ref04Fits {B : OH} : Gref04Home B 39 = Vref04Fits B := rfl
theorem sGref04Home {w0 : World} {B : OH} : SoundG Tryd.prog w0 B { f := Gref04Home B } := .of fun k => by
  unfold Gref04Home
  split
  · exact .inr ⟨enref04Fits, sVref04Fits⟩
  · exact .inl fun _ _ _ => rfl
theorem enref04Home : Enter Tryd.prog 38 := .of Tryd.func38 (by kernel_rfl) (by kernel_rfl)
noncomputable def Tref04Home (B : OH) : Cs := callF B { f := Gref04Home B } 80 Lref04Home
theorem sTref04Home {w0 : World} {B : OH} : SoundC Tryd.prog w0 B 38 (Tref04Home B) := callF_sound mixedOrders sGref04Home 80 Tryd.func38 lowref04Home
noncomputable def Fref04Home (B : OH) : List Value → Option Value := kval B (Tref04Home B)
noncomputable def Vref04Home (B : OH) : Cs := fun a H N => pvE (Fref04Home B a) H N
theorem Vref04Home_eq {B : OH} {a : List Value} {H : HL} {N : St} : Vref04Home B a H N = pvE (Fref04Home B a) H N := rfl
theorem sVref04Home {w0 : World} {B : OH} : SoundC Tryd.prog w0 B 38 (Vref04Home B) := sTref04Home.ofVal
set_option maxHeartbeats 1000000 in
theorem rHome {B : OH} (hG : ∃ H N, good B H N) {kk p cc h : Nat} (C : Cf kk p cc h) : Fref04Home B [.agg #[.int .i64 (kk : Int), .int .i64 (p : Int), .int .i64 (cc : Int)]] = some (.int .i64 (h : Int)) := by
  refine kval_eq hG fun H N hN => ?_
  have hB := good_B hN
  have hR := good_rdB hN
  have hI := beqN hN.1.1
  have e := rFits1 hG C
  have hm' := C.m
  have hk := C.k
  have hc := C.c
  unfold hm at hm'
  obtain rfl | rfl | rfl | rfl | rfl : kk = 1 ∨ kk = 2 ∨ kk = 3 ∨ kk = 4 ∨ kk = 5 := by omega
  · have hh : (h : Int) = 1 := by simpa using hm'.symm
    simp only [Int.cast_ofNat_Int] at e
    simp -implicitDefEqProofs (maxSteps := 10000000) (disch := omega) only [Tref04Home, Lref04Home, Gref04Home_ref04Fits, Vref04Fits_eq, hB, hR, hI, e, hh, pad, lightV, bt, bf, evs, gt, st, binV, arith, isSh, storeV, all1, idxAV, fieldV, faddrV, iaddrSV, iaddrAV, pickV, convV, unV, eqbV, eqpV, extV, mm2, mmV, nilckV, ress, res1, retV, Value.cells, reduceIte, reduceCtorEq, Int.reduceLT, Int.reduceLE, Int.reduceToNat, Int.reduceAdd, Int.reduceSub, Int.reduceMul, Int.reduceNeg, Nat.reduceMul, Nat.reduceAdd, Nat.reduceSub, Nat.reduceBEq, Nat.reduceEqDiff, Nat.reduceLT, Nat.reduceLeDiff, Int.reduceBEq, Int.reduceEq, Nat.reducePow, Int.reducePow, IntWalk.i64_in, IntKind.bits, eqAV, eqL, leafEq, andO, fillV, buildSV, Int.reduceGT, Int.reduceGE, Int.reduceBNe, IntWalk.u64_in, newsV_s, tassV, isnV, slcV, slcAV, slcTV, slcB, appNew, Option.bind_some, Option.bind_none, eqsV, lookV, mupdV, mdelV, mkM, ev1, ev2]
    with_reducible refine done2 ?_
    repeat (first | refine ext_new hN ?_ | exact fun _ _ h => h)
  · have hh : (h : Int) = 1 + 2 * (cc : Int) := by simpa using hm'.symm
    simp only [Int.cast_ofNat_Int] at e
    simp -implicitDefEqProofs (maxSteps := 10000000) (disch := omega) only [Tref04Home, Lref04Home, Gref04Home_ref04Fits, Vref04Fits_eq, hB, hR, hI, e, hh, pad, lightV, bt, bf, evs, gt, st, binV, arith, isSh, storeV, all1, idxAV, fieldV, faddrV, iaddrSV, iaddrAV, pickV, convV, unV, eqbV, eqpV, extV, mm2, mmV, nilckV, ress, res1, retV, Value.cells, reduceIte, reduceCtorEq, Int.reduceLT, Int.reduceLE, Int.reduceToNat, Int.reduceAdd, Int.reduceSub, Int.reduceMul, Int.reduceNeg, Nat.reduceMul, Nat.reduceAdd, Nat.reduceSub, Nat.reduceBEq, Nat.reduceEqDiff, Nat.reduceLT, Nat.reduceLeDiff, Int.reduceBEq, Int.reduceEq, Nat.reducePow, Int.reducePow, IntWalk.i64_in, IntKind.bits, eqAV, eqL, leafEq, andO, fillV, buildSV, Int.reduceGT, Int.reduceGE, Int.reduceBNe, IntWalk.u64_in, newsV_s, tassV, isnV, slcV, slcAV, slcTV, slcB, appNew, Option.bind_some, Option.bind_none, eqsV, lookV, mupdV, mdelV, mkM, ev1, ev2]
    with_reducible refine done2 ?_
    repeat (first | refine ext_new hN ?_ | exact fun _ _ h => h)
  · have hh : (h : Int) = 1 + 4 * (cc : Int) := by simpa using hm'.symm
    simp only [Int.cast_ofNat_Int] at e
    simp -implicitDefEqProofs (maxSteps := 10000000) (disch := omega) only [Tref04Home, Lref04Home, Gref04Home_ref04Fits, Vref04Fits_eq, hB, hR, hI, e, hh, pad, lightV, bt, bf, evs, gt, st, binV, arith, isSh, storeV, all1, idxAV, fieldV, faddrV, iaddrSV, iaddrAV, pickV, convV, unV, eqbV, eqpV, extV, mm2, mmV, nilckV, ress, res1, retV, Value.cells, reduceIte, reduceCtorEq, Int.reduceLT, Int.reduceLE, Int.reduceToNat, Int.reduceAdd, Int.reduceSub, Int.reduceMul, Int.reduceNeg, Nat.reduceMul, Nat.reduceAdd, Nat.reduceSub, Nat.reduceBEq, Nat.reduceEqDiff, Nat.reduceLT, Nat.reduceLeDiff, Int.reduceBEq, Int.reduceEq, Nat.reducePow, Int.reducePow, IntWalk.i64_in, IntKind.bits, eqAV, eqL, leafEq, andO, fillV, buildSV, Int.reduceGT, Int.reduceGE, Int.reduceBNe, IntWalk.u64_in, newsV_s, tassV, isnV, slcV, slcAV, slcTV, slcB, appNew, Option.bind_some, Option.bind_none, eqsV, lookV, mupdV, mdelV, mkM, ev1, ev2]
    with_reducible refine done2 ?_
    repeat (first | refine ext_new hN ?_ | exact fun _ _ h => h)
  · have hh : (h : Int) = 2 + 4 * (cc : Int) := by simpa using hm'.symm
    simp only [Int.cast_ofNat_Int] at e
    simp -implicitDefEqProofs (maxSteps := 10000000) (disch := omega) only [Tref04Home, Lref04Home, Gref04Home_ref04Fits, Vref04Fits_eq, hB, hR, hI, e, hh, pad, lightV, bt, bf, evs, gt, st, binV, arith, isSh, storeV, all1, idxAV, fieldV, faddrV, iaddrSV, iaddrAV, pickV, convV, unV, eqbV, eqpV, extV, mm2, mmV, nilckV, ress, res1, retV, Value.cells, reduceIte, reduceCtorEq, Int.reduceLT, Int.reduceLE, Int.reduceToNat, Int.reduceAdd, Int.reduceSub, Int.reduceMul, Int.reduceNeg, Nat.reduceMul, Nat.reduceAdd, Nat.reduceSub, Nat.reduceBEq, Nat.reduceEqDiff, Nat.reduceLT, Nat.reduceLeDiff, Int.reduceBEq, Int.reduceEq, Nat.reducePow, Int.reducePow, IntWalk.i64_in, IntKind.bits, eqAV, eqL, leafEq, andO, fillV, buildSV, Int.reduceGT, Int.reduceGE, Int.reduceBNe, IntWalk.u64_in, newsV_s, tassV, isnV, slcV, slcAV, slcTV, slcB, appNew, Option.bind_some, Option.bind_none, eqsV, lookV, mupdV, mdelV, mkM, ev1, ev2]
    with_reducible refine done2 ?_
    repeat (first | refine ext_new hN ?_ | exact fun _ _ h => h)
  · have hh : (h : Int) = 1 + (cc : Int) + 8 := by
      have : (h : Int) = 9 + (cc : Int) := by simpa using hm'.symm
      omega
    simp only [Int.cast_ofNat_Int] at e
    simp -implicitDefEqProofs (maxSteps := 10000000) (disch := omega) only [Tref04Home, Lref04Home, Gref04Home_ref04Fits, Vref04Fits_eq, hB, hR, hI, e, hh, pad, lightV, bt, bf, evs, gt, st, binV, arith, isSh, storeV, all1, idxAV, fieldV, faddrV, iaddrSV, iaddrAV, pickV, convV, unV, eqbV, eqpV, extV, mm2, mmV, nilckV, ress, res1, retV, Value.cells, reduceIte, reduceCtorEq, Int.reduceLT, Int.reduceLE, Int.reduceToNat, Int.reduceAdd, Int.reduceSub, Int.reduceMul, Int.reduceNeg, Nat.reduceMul, Nat.reduceAdd, Nat.reduceSub, Nat.reduceBEq, Nat.reduceEqDiff, Nat.reduceLT, Nat.reduceLeDiff, Int.reduceBEq, Int.reduceEq, Nat.reducePow, Int.reducePow, IntWalk.i64_in, IntKind.bits, eqAV, eqL, leafEq, andO, fillV, buildSV, Int.reduceGT, Int.reduceGE, Int.reduceBNe, IntWalk.u64_in, newsV_s, tassV, isnV, slcV, slcAV, slcTV, slcB, appNew, Option.bind_some, Option.bind_none, eqsV, lookV, mupdV, mdelV, mkM, ev1, ev2]
    with_reducible refine done2 ?_
    repeat (first | refine ext_new hN ?_ | exact fun _ _ h => h)
/-- whitewash/whitewashref04.LogSize -/
def Lref04LogSize : FnL := ⟨(.seq (.ops [⟨(some 1), .box (.tmp 0), none⟩, ⟨(some 2), .mv (.const (.int .i64 0)), none⟩])
 (.seq (.seq (.ops [⟨(some 3), .load true 3 (.tmp 1), none⟩, ⟨(some 4), .call (.func 39) [(.tmp 3)], none⟩, ⟨(some 5), .un .not (.tmp 4), none⟩])
 (.cond (.tmp 5) (.seq (.ops [⟨(some 2), .mv (.const (.int .i64 0)), none⟩])
 .ret)
 .skip))
 (.seq (.draw [⟨⟨(some 6), .load true 3 (.tmp 1), none⟩, []⟩, ⟨⟨(some 8), .faddr 1 (.tmp 1), none⟩, []⟩, ⟨⟨(some 9), .load false 1 (.tmp 8), none⟩, []⟩, ⟨⟨(some 10), .bin .mul (.const (.int .i64 2)) (.tmp 9), none⟩, []⟩, ⟨⟨(some 7), .call (.func 38) [(.tmp 6)], none⟩, [⟨(some 9), .load false 1 (.tmp 8), none⟩]⟩, ⟨⟨(some 11), .bin .add (.tmp 7) (.tmp 10), none⟩, []⟩, ⟨⟨(some 12), .bin .mul (.const (.int .i64 2)) (.tmp 11), none⟩, []⟩, ⟨⟨(some 13), .bin .add (.const (.int .i64 1)) (.tmp 12), none⟩, []⟩, ⟨⟨(some 2), .mv (.tmp 13), none⟩, []⟩])
 .ret))),
 14, [.tmp 2]⟩
theorem lowref04LogSize : lowerFn Tryd.prog Tryd.f40 = some Lref04LogSize := by kernel_rfl
noncomputable def Gref04LogSize (B : OH) : Nat → Cs
  | 39 => Vref04Fits B
  | 38 => Vref04Home B
  | _ => fun _ _ _ => none
theorem Gref04LogSize_ref04Fits {B : OH} : Gref04LogSize B 39 = Vref04Fits B := rfl
theorem Gref04LogSize_ref04Home {B : OH} : Gref04LogSize B 38 = Vref04Home B := rfl
theorem sGref04LogSize {w0 : World} {B : OH} : SoundG Tryd.prog w0 B { f := Gref04LogSize B } := .of fun k => by
  unfold Gref04LogSize
  split
  · exact .inr ⟨enref04Fits, sVref04Fits⟩
  · exact .inr ⟨enref04Home, sVref04Home⟩
  · exact .inl fun _ _ _ => rfl
theorem enref04LogSize : Enter Tryd.prog 40 := .of Tryd.func40 (by kernel_rfl) (by kernel_rfl)
noncomputable def Tref04LogSize (B : OH) : Cs := callF B { f := Gref04LogSize B } 80 Lref04LogSize
theorem sTref04LogSize {w0 : World} {B : OH} : SoundC Tryd.prog w0 B 40 (Tref04LogSize B) := callF_sound mixedOrders sGref04LogSize 80 Tryd.func40 lowref04LogSize
noncomputable def Fref04LogSize (B : OH) : List Value → Option Value := kval B (Tref04LogSize B)
noncomputable def Vref04LogSize (B : OH) : Cs := fun a H N => pvE (Fref04LogSize B a) H N
theorem Vref04LogSize_eq {B : OH} {a : List Value} {H : HL} {N : St} : Vref04LogSize B a H N = pvE (Fref04LogSize B a) H N := rfl
theorem sVref04LogSize {w0 : World} {B : OH} : SoundC Tryd.prog w0 B 40 (Vref04LogSize B) := sTref04LogSize.ofVal
theorem rLog {B : OH} (hG : ∃ H N, good B H N) {kk p cc h : Nat} (C : Cf kk p cc h) : Fref04LogSize B [.agg #[.int .i64 (kk : Int), .int .i64 (p : Int), .int .i64 (cc : Int)]] = some (.int .i64 (LG p h : Int)) := by
  refine kval_eq hG fun H N hN => ?_
  have hB := good_B hN
  have hR := good_rdB hN
  have hI := beqN hN.1.1
  have e := rFits1 hG C
  have e2 := rHome hG C
  have hh := C.h
  have hp := C.p
  have hl : (LG p h : Int) = 1 + 2 * ((h : Int) + 2 * (p : Int)) := by unfold LG; omega
  simp -implicitDefEqProofs (maxSteps := 10000000) (disch := omega) only [Tref04LogSize, Lref04LogSize, Gref04LogSize_ref04Fits, Vref04Fits_eq, Gref04LogSize_ref04Home, Vref04Home_eq, hB, hR, hI, e, e2, hl, pad, lightV, bt, bf, evs, gt, st, binV, arith, isSh, storeV, all1, idxAV, fieldV, faddrV, iaddrSV, iaddrAV, pickV, convV, unV, eqbV, eqpV, extV, mm2, mmV, nilckV, ress, res1, retV, Value.cells, reduceIte, reduceCtorEq, Int.reduceLT, Int.reduceLE, Int.reduceToNat, Int.reduceAdd, Int.reduceSub, Int.reduceMul, Int.reduceNeg, Nat.reduceMul, Nat.reduceAdd, Nat.reduceSub, Nat.reduceBEq, Nat.reduceEqDiff, Nat.reduceLT, Nat.reduceLeDiff, Int.reduceBEq, Int.reduceEq, Nat.reducePow, Int.reducePow, IntWalk.i64_in, IntKind.bits, eqAV, eqL, leafEq, andO, fillV, buildSV, Int.reduceGT, Int.reduceGE, Int.reduceBNe, IntWalk.u64_in, newsV_s, tassV, isnV, slcV, slcAV, slcTV, slcB, appNew, Option.bind_some, Option.bind_none, eqsV, lookV, mupdV, mdelV, mkM, ev1, ev2]
  with_reducible refine done2 ?_
  repeat (first | refine ext_new hN ?_ | exact fun _ _ h => h)
/-- whitewash/whitewashref04.Size -/
def Lref04Size : FnL := ⟨(.seq (.ops [⟨(some 1), .box (.tmp 0), none⟩, ⟨(some 2), .mv (.const (.int .i64 0)), none⟩])
 (.seq (.seq (.ops [⟨(some 3), .load true 3 (.tmp 1), none⟩, ⟨(some 4), .call (.func 39) [(.tmp 3)], none⟩, ⟨(some 5), .un .not (.tmp 4), none⟩])
 (.cond (.tmp 5) (.seq (.ops [⟨(some 2), .mv (.const (.int .i64 0)), none⟩])
 .ret)
 .skip))
 (.seq (.draw [⟨⟨(some 6), .faddr 1 (.tmp 1), none⟩, []⟩, ⟨⟨(some 7), .load false 1 (.tmp 6), none⟩, []⟩, ⟨⟨(some 8), .load true 3 (.tmp 1), none⟩, []⟩, ⟨⟨(some 13), .load true 3 (.tmp 1), none⟩, []⟩, ⟨⟨(some 9), .call (.func 40) [(.tmp 8)], none⟩, [⟨(some 7), .load false 1 (.tmp 6), none⟩, ⟨(some 13), .load true 3 (.tmp 1), none⟩]⟩, ⟨⟨(some 10), .bin .add (.const (.int .i64 5)) (.tmp 9), none⟩, []⟩, ⟨⟨(some 11), .bin .mul (.tmp 7) (.tmp 10), none⟩, []⟩, ⟨⟨(some 12), .bin .add (.const (.int .i64 1)) (.tmp 11), none⟩, []⟩, ⟨⟨(some 14), .call (.func 38) [(.tmp 13)], none⟩, [⟨(some 7), .load false 1 (.tmp 6), none⟩]⟩, ⟨⟨(some 15), .bin .add (.tmp 12) (.tmp 14), none⟩, []⟩, ⟨⟨(some 2), .mv (.tmp 15), none⟩, []⟩])
 .ret))),
 16, [.tmp 2]⟩
theorem lowref04Size : lowerFn Tryd.prog Tryd.f35 = some Lref04Size := by kernel_rfl
noncomputable def Gref04Size (B : OH) : Nat → Cs
  | 39 => Vref04Fits B
  | 38 => Vref04Home B
  | 40 => Vref04LogSize B
  | _ => fun _ _ _ => none
theorem Gref04Size_ref04Fits {B : OH} : Gref04Size B 39 = Vref04Fits B := rfl
theorem Gref04Size_ref04Home {B : OH} : Gref04Size B 38 = Vref04Home B := rfl
theorem Gref04Size_ref04LogSize {B : OH} : Gref04Size B 40 = Vref04LogSize B := rfl
theorem sGref04Size {w0 : World} {B : OH} : SoundG Tryd.prog w0 B { f := Gref04Size B } := .of fun k => by
  unfold Gref04Size
  split
  · exact .inr ⟨enref04Fits, sVref04Fits⟩
  · exact .inr ⟨enref04Home, sVref04Home⟩
  · exact .inr ⟨enref04LogSize, sVref04LogSize⟩
  · exact .inl fun _ _ _ => rfl
theorem enref04Size : Enter Tryd.prog 35 := .of Tryd.func35 (by kernel_rfl) (by kernel_rfl)
noncomputable def Tref04Size (B : OH) : Cs := callF B { f := Gref04Size B } 80 Lref04Size
theorem sTref04Size {w0 : World} {B : OH} : SoundC Tryd.prog w0 B 35 (Tref04Size B) := callF_sound mixedOrders sGref04Size 80 Tryd.func35 lowref04Size
noncomputable def Fref04Size (B : OH) : List Value → Option Value := kval B (Tref04Size B)
noncomputable def Vref04Size (B : OH) : Cs := fun a H N => pvE (Fref04Size B a) H N
theorem Vref04Size_eq {B : OH} {a : List Value} {H : HL} {N : St} : Vref04Size B a H N = pvE (Fref04Size B a) H N := rfl
theorem sVref04Size {w0 : World} {B : OH} : SoundC Tryd.prog w0 B 35 (Vref04Size B) := sTref04Size.ofVal
theorem rSize {B : OH} (hG : ∃ H N, good B H N) {kk p cc h : Nat} (C : Cf kk p cc h) : Fref04Size B [.agg #[.int .i64 (kk : Int), .int .i64 (p : Int), .int .i64 (cc : Int)]] = some (.int .i64 (bs p h 5 : Int)) := by
  refine kval_eq hG fun H N hN => ?_
  have hB := good_B hN
  have hR := good_rdB hN
  have hI := beqN hN.1.1
  have e := rFits1 hG C
  have e2 := rHome hG C
  have e3 := rLog hG C
  have hh := C.h
  have hp := C.p
  have hb := LG_b C
  have hm1 : (p : Int) * (5 + (LG p h : Int)) = ((5 * p + LG p h * p : Nat) : Int) := by
    rw [Int.mul_add, Int.natCast_add, Int.natCast_mul, Int.natCast_mul, Int.mul_comm (LG p h : Int)]; omega
  have hb5 : (bs p h 5 : Int) = 1 + ((5 * p + LG p h * p : Nat) : Int) + (h : Int) := by rw [bs_5]; omega
  have hw1 : IntKind.i64.wrap (5 + (LG p h : Int)) = 5 + (LG p h : Int) := IntWalk.i64_in _ (by omega)
  have hw2 : IntKind.i64.wrap ((5 * p + LG p h * p : Nat) : Int) = ((5 * p + LG p h * p : Nat) : Int) := IntWalk.i64_in _ (by omega)
  have hw3 : IntKind.i64.wrap (1 + ((5 * p + LG p h * p : Nat) : Int)) = 1 + ((5 * p + LG p h * p : Nat) : Int) := IntWalk.i64_in _ (by omega)
  have hw4 : IntKind.i64.wrap (1 + ((5 * p + LG p h * p : Nat) : Int) + (h : Int)) = 1 + ((5 * p + LG p h * p : Nat) : Int) + (h : Int) := IntWalk.i64_in _ (by omega)
  simp -implicitDefEqProofs (maxSteps := 10000000) (disch := omega) only [Tref04Size, Lref04Size, Gref04Size_ref04Fits, Vref04Fits_eq, Gref04Size_ref04Home, Vref04Home_eq, Gref04Size_ref04LogSize, Vref04LogSize_eq, hB, hR, hI, e, e2, e3, hm1, hb5, hw1, hw2, hw3, hw4, pad, lightV, bt, bf, evs, gt, st, binV, arith, isSh, storeV, all1, idxAV, fieldV, faddrV, iaddrSV, iaddrAV, pickV, convV, unV, eqbV, eqpV, extV, mm2, mmV, nilckV, ress, res1, retV, Value.cells, reduceIte, reduceCtorEq, Int.reduceLT, Int.reduceLE, Int.reduceToNat, Int.reduceAdd, Int.reduceSub, Int.reduceMul, Int.reduceNeg, Nat.reduceMul, Nat.reduceAdd, Nat.reduceSub, Nat.reduceBEq, Nat.reduceEqDiff, Nat.reduceLT, Nat.reduceLeDiff, Int.reduceBEq, Int.reduceEq, Nat.reducePow, Int.reducePow, IntWalk.i64_in, IntKind.bits, eqAV, eqL, leafEq, andO, fillV, buildSV, Int.reduceGT, Int.reduceGE, Int.reduceBNe, IntWalk.u64_in, newsV_s, tassV, isnV, slcV, slcAV, slcTV, slcB, appNew, Option.bind_some, Option.bind_none, eqsV, lookV, mupdV, mdelV, mkM, ev1, ev2]
  with_reducible refine done2 ?_
  repeat (first | refine ext_new hN ?_ | exact fun _ _ h => h)
theorem rSizen {B : OH} (hG : ∃ H N, good B H N) (k p c : Int) (h : ¬ fitI k p c) : Fref04Size B [.agg #[.int .i64 k, .int .i64 p, .int .i64 c]] = some (.int .i64 0) := by
  refine kval_eq hG fun H N hN => ?_
  have hB := good_B hN
  have hR := good_rdB hN
  have hI := beqN hN.1.1
  have e := rFits hG k p c
  rw [decide_eq_false h] at e
  simp -implicitDefEqProofs (maxSteps := 10000000) (disch := omega) only [Tref04Size, Lref04Size, Gref04Size_ref04Fits, Vref04Fits_eq, Gref04Size_ref04Home, Vref04Home_eq, Gref04Size_ref04LogSize, Vref04LogSize_eq, hB, hR, hI, e, pad, lightV, bt, bf, evs, gt, st, binV, arith, isSh, storeV, all1, idxAV, fieldV, faddrV, iaddrSV, iaddrAV, pickV, convV, unV, eqbV, eqpV, extV, mm2, mmV, nilckV, ress, res1, retV, Value.cells, reduceIte, reduceCtorEq, Int.reduceLT, Int.reduceLE, Int.reduceToNat, Int.reduceAdd, Int.reduceSub, Int.reduceMul, Int.reduceNeg, Nat.reduceMul, Nat.reduceAdd, Nat.reduceSub, Nat.reduceBEq, Nat.reduceEqDiff, Nat.reduceLT, Nat.reduceLeDiff, Int.reduceBEq, Int.reduceEq, Nat.reducePow, Int.reducePow, IntWalk.i64_in, IntKind.bits, eqAV, eqL, leafEq, andO, fillV, buildSV, Int.reduceGT, Int.reduceGE, Int.reduceBNe, IntWalk.u64_in, newsV_s, tassV, isnV, slcV, slcAV, slcTV, slcB, appNew, Option.bind_some, Option.bind_none, eqsV, lookV, mupdV, mdelV, mkM, ev1, ev2]
  with_reducible refine done2 ?_
  repeat (first | refine ext_new hN ?_ | exact fun _ _ h => h)
/-- whitewash/whitewashref04.size -/
def Lref04size : FnL := ⟨(.seq (.ops [⟨(some 2), .box (.tmp 0), none⟩, ⟨(some 4), .mv (.const (.int .i64 0)), none⟩])
 (.seq (.seq (.ops [⟨(some 5), .mv (.tmp 1), none⟩])
 (.block 0 (.seq (.ops [⟨(some 7), .bin .eql (.tmp 5) (.const (.int .i64 0)), none⟩, ⟨(some 6), .mv (.tmp 7), none⟩])
 (.cond (.tmp 6) (.seq (.ops [⟨(some 4), .mv (.const (.int .i64 1)), none⟩])
 .ret)
 (.seq (.ops [⟨(some 9), .bin .eql (.tmp 5) (.const (.int .i64 1)), none⟩, ⟨(some 8), .mv (.tmp 9), none⟩])
 (.cond (.tmp 8) (.seq (.ops [⟨(some 4), .mv (.const (.int .i64 3)), none⟩])
 .ret)
 (.seq (.ops [⟨(some 11), .bin .eql (.tmp 5) (.const (.int .i64 2)), none⟩, ⟨(some 10), .mv (.tmp 11), none⟩])
 (.cond (.tmp 10) (.seq (.ops [⟨(some 4), .mv (.const (.int .i64 2)), none⟩])
 .ret)
 (.seq (.ops [⟨(some 13), .bin .eql (.tmp 5) (.const (.int .i64 3)), none⟩, ⟨(some 12), .mv (.tmp 13), none⟩])
 (.cond (.tmp 12) (.seq (.ops [⟨(some 14), .load true 3 (.tmp 2), none⟩, ⟨(some 15), .call (.func 40) [(.tmp 14)], none⟩, ⟨(some 4), .mv (.tmp 15), none⟩])
 .ret)
 .skip))))))))))
 (.seq (.ops [⟨(some 16), .load true 3 (.tmp 2), none⟩, ⟨(some 17), .call (.func 38) [(.tmp 16)], none⟩, ⟨(some 4), .mv (.tmp 17), none⟩])
 .ret))),
 18, [.tmp 4]⟩
theorem lowref04size : lowerFn Tryd.prog Tryd.f62 = some Lref04size := by kernel_rfl
noncomputable def Gref04size (B : OH) : Nat → Cs
  | 38 => Vref04Home B
  | 40 => Vref04LogSize B
  | _ => fun _ _ _ => none
theorem Gref04size_ref04Home {B : OH} : Gref04size B 38 = Vref04Home B := rfl
theorem Gref04size_ref04LogSize {B : OH} : Gref04size B 40 = Vref04LogSize B := rfl
theorem sGref04size {w0 : World} {B : OH} : SoundG Tryd.prog w0 B { f := Gref04size B } := .of fun k => by
  unfold Gref04size
  split
  · exact .inr ⟨enref04Home, sVref04Home⟩
  · exact .inr ⟨enref04LogSize, sVref04LogSize⟩
  · exact .inl fun _ _ _ => rfl
theorem enref04size : Enter Tryd.prog 62 := .of Tryd.func62 (by kernel_rfl) (by kernel_rfl)
noncomputable def Tref04size (B : OH) : Cs := callF B { f := Gref04size B } 80 Lref04size
theorem sTref04size {w0 : World} {B : OH} : SoundC Tryd.prog w0 B 62 (Tref04size B) := callF_sound mixedOrders sGref04size 80 Tryd.func62 lowref04size
noncomputable def Fref04size (B : OH) : List Value → Option Value := kval B (Tref04size B)
noncomputable def Vref04size (B : OH) : Cs := fun a H N => pvE (Fref04size B a) H N
theorem Vref04size_eq {B : OH} {a : List Value} {H : HL} {N : St} : Vref04size B a H N = pvE (Fref04size B a) H N := rfl
theorem sVref04size {w0 : World} {B : OH} : SoundC Tryd.prog w0 B 62 (Vref04size B) := sTref04size.ofVal
theorem rsize {B : OH} (hG : ∃ H N, good B H N) {kk p cc h : Nat} (C : Cf kk p cc h) {k : Nat} (hk : k < 5) : Fref04size B [.agg #[.int .i64 (kk : Int), .int .i64 (p : Int), .int .i64 (cc : Int)], .int .i64 (k : Int)] = some (.int .i64 (sz p h k : Int)) := by
  refine kval_eq hG fun H N hN => ?_
  have hB := good_B hN
  have hR := good_rdB hN
  have hI := beqN hN.1.1
  have e2 := rHome hG C
  have e3 := rLog hG C
  obtain rfl | rfl | rfl | rfl | rfl : k = 0 ∨ k = 1 ∨ k = 2 ∨ k = 3 ∨ k = 4 := by omega
  · simp -implicitDefEqProofs (maxSteps := 10000000) (disch := omega) only [Tref04size, Lref04size, Gref04size_ref04Home, Vref04Home_eq, Gref04size_ref04LogSize, Vref04LogSize_eq, hB, hR, hI, sz, pad, lightV, bt, bf, evs, gt, st, binV, arith, isSh, storeV, all1, idxAV, fieldV, faddrV, iaddrSV, iaddrAV, pickV, convV, unV, eqbV, eqpV, extV, mm2, mmV, nilckV, ress, res1, retV, Value.cells, reduceIte, reduceCtorEq, Int.reduceLT, Int.reduceLE, Int.reduceToNat, Int.reduceAdd, Int.reduceSub, Int.reduceMul, Int.reduceNeg, Nat.reduceMul, Nat.reduceAdd, Nat.reduceSub, Nat.reduceBEq, Nat.reduceEqDiff, Nat.reduceLT, Nat.reduceLeDiff, Int.reduceBEq, Int.reduceEq, Nat.reducePow, Int.reducePow, IntWalk.i64_in, IntKind.bits, eqAV, eqL, leafEq, andO, fillV, buildSV, Int.reduceGT, Int.reduceGE, Int.reduceBNe, IntWalk.u64_in, newsV_s, tassV, isnV, slcV, slcAV, slcTV, slcB, appNew, Option.bind_some, Option.bind_none, eqsV, lookV, mupdV, mdelV, mkM, ev1, ev2]
    with_reducible refine done2 ?_
    repeat (first | refine ext_new hN ?_ | exact fun _ _ h => h)
  · simp -implicitDefEqProofs (maxSteps := 10000000) (disch := omega) only [Tref04size, Lref04size, Gref04size_ref04Home, Vref04Home_eq, Gref04size_ref04LogSize, Vref04LogSize_eq, hB, hR, hI, sz, pad, lightV, bt, bf, evs, gt, st, binV, arith, isSh, storeV, all1, idxAV, fieldV, faddrV, iaddrSV, iaddrAV, pickV, convV, unV, eqbV, eqpV, extV, mm2, mmV, nilckV, ress, res1, retV, Value.cells, reduceIte, reduceCtorEq, Int.reduceLT, Int.reduceLE, Int.reduceToNat, Int.reduceAdd, Int.reduceSub, Int.reduceMul, Int.reduceNeg, Nat.reduceMul, Nat.reduceAdd, Nat.reduceSub, Nat.reduceBEq, Nat.reduceEqDiff, Nat.reduceLT, Nat.reduceLeDiff, Int.reduceBEq, Int.reduceEq, Nat.reducePow, Int.reducePow, IntWalk.i64_in, IntKind.bits, eqAV, eqL, leafEq, andO, fillV, buildSV, Int.reduceGT, Int.reduceGE, Int.reduceBNe, IntWalk.u64_in, newsV_s, tassV, isnV, slcV, slcAV, slcTV, slcB, appNew, Option.bind_some, Option.bind_none, eqsV, lookV, mupdV, mdelV, mkM, ev1, ev2]
    with_reducible refine done2 ?_
    repeat (first | refine ext_new hN ?_ | exact fun _ _ h => h)
  · simp -implicitDefEqProofs (maxSteps := 10000000) (disch := omega) only [Tref04size, Lref04size, Gref04size_ref04Home, Vref04Home_eq, Gref04size_ref04LogSize, Vref04LogSize_eq, hB, hR, hI, sz, pad, lightV, bt, bf, evs, gt, st, binV, arith, isSh, storeV, all1, idxAV, fieldV, faddrV, iaddrSV, iaddrAV, pickV, convV, unV, eqbV, eqpV, extV, mm2, mmV, nilckV, ress, res1, retV, Value.cells, reduceIte, reduceCtorEq, Int.reduceLT, Int.reduceLE, Int.reduceToNat, Int.reduceAdd, Int.reduceSub, Int.reduceMul, Int.reduceNeg, Nat.reduceMul, Nat.reduceAdd, Nat.reduceSub, Nat.reduceBEq, Nat.reduceEqDiff, Nat.reduceLT, Nat.reduceLeDiff, Int.reduceBEq, Int.reduceEq, Nat.reducePow, Int.reducePow, IntWalk.i64_in, IntKind.bits, eqAV, eqL, leafEq, andO, fillV, buildSV, Int.reduceGT, Int.reduceGE, Int.reduceBNe, IntWalk.u64_in, newsV_s, tassV, isnV, slcV, slcAV, slcTV, slcB, appNew, Option.bind_some, Option.bind_none, eqsV, lookV, mupdV, mdelV, mkM, ev1, ev2]
    with_reducible refine done2 ?_
    repeat (first | refine ext_new hN ?_ | exact fun _ _ h => h)
  · have hl : sz p h 3 = LG p h := rfl
    simp -implicitDefEqProofs (maxSteps := 10000000) (disch := omega) only [Tref04size, Lref04size, Gref04size_ref04Home, Vref04Home_eq, Gref04size_ref04LogSize, Vref04LogSize_eq, hB, hR, hI, hl, e3, pad, lightV, bt, bf, evs, gt, st, binV, arith, isSh, storeV, all1, idxAV, fieldV, faddrV, iaddrSV, iaddrAV, pickV, convV, unV, eqbV, eqpV, extV, mm2, mmV, nilckV, ress, res1, retV, Value.cells, reduceIte, reduceCtorEq, Int.reduceLT, Int.reduceLE, Int.reduceToNat, Int.reduceAdd, Int.reduceSub, Int.reduceMul, Int.reduceNeg, Nat.reduceMul, Nat.reduceAdd, Nat.reduceSub, Nat.reduceBEq, Nat.reduceEqDiff, Nat.reduceLT, Nat.reduceLeDiff, Int.reduceBEq, Int.reduceEq, Nat.reducePow, Int.reducePow, IntWalk.i64_in, IntKind.bits, eqAV, eqL, leafEq, andO, fillV, buildSV, Int.reduceGT, Int.reduceGE, Int.reduceBNe, IntWalk.u64_in, newsV_s, tassV, isnV, slcV, slcAV, slcTV, slcB, appNew, Option.bind_some, Option.bind_none, eqsV, lookV, mupdV, mdelV, mkM, ev1, ev2]
    with_reducible refine done2 ?_
    repeat (first | refine ext_new hN ?_ | exact fun _ _ h => h)
  · have hl : sz p h 4 = h := rfl
    simp -implicitDefEqProofs (maxSteps := 10000000) (disch := omega) only [Tref04size, Lref04size, Gref04size_ref04Home, Vref04Home_eq, Gref04size_ref04LogSize, Vref04LogSize_eq, hB, hR, hI, hl, e2, pad, lightV, bt, bf, evs, gt, st, binV, arith, isSh, storeV, all1, idxAV, fieldV, faddrV, iaddrSV, iaddrAV, pickV, convV, unV, eqbV, eqpV, extV, mm2, mmV, nilckV, ress, res1, retV, Value.cells, reduceIte, reduceCtorEq, Int.reduceLT, Int.reduceLE, Int.reduceToNat, Int.reduceAdd, Int.reduceSub, Int.reduceMul, Int.reduceNeg, Nat.reduceMul, Nat.reduceAdd, Nat.reduceSub, Nat.reduceBEq, Nat.reduceEqDiff, Nat.reduceLT, Nat.reduceLeDiff, Int.reduceBEq, Int.reduceEq, Nat.reducePow, Int.reducePow, IntWalk.i64_in, IntKind.bits, eqAV, eqL, leafEq, andO, fillV, buildSV, Int.reduceGT, Int.reduceGE, Int.reduceBNe, IntWalk.u64_in, newsV_s, tassV, isnV, slcV, slcAV, slcTV, slcB, appNew, Option.bind_some, Option.bind_none, eqsV, lookV, mupdV, mdelV, mkM, ev1, ev2]
    with_reducible refine done2 ?_
    repeat (first | refine ext_new hN ?_ | exact fun _ _ h => h)
/-- whitewash/whitewashref04.owners -/
def Lref04owners : FnL := ⟨(.seq (.ops [⟨(some 2), .box (.tmp 0), none⟩, ⟨(some 4), .mv (.const (.int .i64 0)), none⟩])
 (.seq (.seq (.ops [⟨(some 5), .mv (.tmp 1), none⟩, ⟨(some 6), .bin .eql (.tmp 5) (.const (.int .i64 0)), none⟩, ⟨(some 7), .mv (.tmp 6), none⟩, ⟨(some 8), .mv (.tmp 1), (some (7, false))⟩, ⟨(some 9), .bin .eql (.tmp 8) (.const (.int .i64 4)), (some (7, false))⟩, ⟨(some 10), .pick (.tmp 7) (.const (.bool true)) (.tmp 9), none⟩])
 (.cond (.tmp 10) (.seq (.ops [⟨(some 4), .mv (.const (.int .i64 1)), none⟩])
 .ret)
 .skip))
 (.seq (.ops [⟨(some 11), .faddr 1 (.tmp 2), none⟩, ⟨(some 12), .load false 1 (.tmp 11), none⟩, ⟨(some 4), .mv (.tmp 12), none⟩])
 .ret))),
 13, [.tmp 4]⟩
theorem lowref04owners : lowerFn Tryd.prog Tryd.f63 = some Lref04owners := by kernel_rfl
noncomputable def Gref04owners (B : OH) : Nat → Cs
  | _ => fun _ _ _ => none
theorem sGref04owners {w0 : World} {B : OH} : SoundG Tryd.prog w0 B { f := Gref04owners B } := .of fun k => by
  unfold Gref04owners
  split
  · exact .inl fun _ _ _ => rfl
theorem enref04owners : Enter Tryd.prog 63 := .of Tryd.func63 (by kernel_rfl) (by kernel_rfl)
noncomputable def Tref04owners (B : OH) : Cs := callF B { f := Gref04owners B } 80 Lref04owners
theorem sTref04owners {w0 : World} {B : OH} : SoundC Tryd.prog w0 B 63 (Tref04owners B) := callF_sound mixedOrders sGref04owners 80 Tryd.func63 lowref04owners
noncomputable def Fref04owners (B : OH) : List Value → Option Value := kval B (Tref04owners B)
noncomputable def Vref04owners (B : OH) : Cs := fun a H N => pvE (Fref04owners B a) H N
theorem Vref04owners_eq {B : OH} {a : List Value} {H : HL} {N : St} : Vref04owners B a H N = pvE (Fref04owners B a) H N := rfl
theorem sVref04owners {w0 : World} {B : OH} : SoundC Tryd.prog w0 B 63 (Vref04owners B) := sTref04owners.ofVal
theorem rown {B : OH} (hG : ∃ H N, good B H N) {kk p cc : Nat} {k : Nat} (hk : k < 5) : Fref04owners B [.agg #[.int .i64 (kk : Int), .int .i64 (p : Int), .int .i64 (cc : Int)], .int .i64 (k : Int)] = some (.int .i64 (mn p k : Int)) := by
  refine kval_eq hG fun H N hN => ?_
  have hB := good_B hN
  have hR := good_rdB hN
  have hI := beqN hN.1.1
  obtain rfl | rfl | rfl | rfl | rfl : k = 0 ∨ k = 1 ∨ k = 2 ∨ k = 3 ∨ k = 4 := by omega
  · simp -implicitDefEqProofs (maxSteps := 10000000) (disch := omega) only [Tref04owners, Lref04owners, hB, hR, hI, mn, pad, lightV, bt, bf, evs, gt, st, binV, arith, isSh, storeV, all1, idxAV, fieldV, faddrV, iaddrSV, iaddrAV, pickV, convV, unV, eqbV, eqpV, extV, mm2, mmV, nilckV, ress, res1, retV, Value.cells, reduceIte, reduceCtorEq, Int.reduceLT, Int.reduceLE, Int.reduceToNat, Int.reduceAdd, Int.reduceSub, Int.reduceMul, Int.reduceNeg, Nat.reduceMul, Nat.reduceAdd, Nat.reduceSub, Nat.reduceBEq, Nat.reduceEqDiff, Nat.reduceLT, Nat.reduceLeDiff, Int.reduceBEq, Int.reduceEq, Nat.reducePow, Int.reducePow, IntWalk.i64_in, IntKind.bits, eqAV, eqL, leafEq, andO, fillV, buildSV, Int.reduceGT, Int.reduceGE, Int.reduceBNe, IntWalk.u64_in, newsV_s, tassV, isnV, slcV, slcAV, slcTV, slcB, appNew, Option.bind_some, Option.bind_none, eqsV, lookV, mupdV, mdelV, mkM, ev1, ev2]
    with_reducible refine done2 ?_
    repeat (first | refine ext_new hN ?_ | exact fun _ _ h => h)
  · simp -implicitDefEqProofs (maxSteps := 10000000) (disch := omega) only [Tref04owners, Lref04owners, hB, hR, hI, mn, pad, lightV, bt, bf, evs, gt, st, binV, arith, isSh, storeV, all1, idxAV, fieldV, faddrV, iaddrSV, iaddrAV, pickV, convV, unV, eqbV, eqpV, extV, mm2, mmV, nilckV, ress, res1, retV, Value.cells, reduceIte, reduceCtorEq, Int.reduceLT, Int.reduceLE, Int.reduceToNat, Int.reduceAdd, Int.reduceSub, Int.reduceMul, Int.reduceNeg, Nat.reduceMul, Nat.reduceAdd, Nat.reduceSub, Nat.reduceBEq, Nat.reduceEqDiff, Nat.reduceLT, Nat.reduceLeDiff, Int.reduceBEq, Int.reduceEq, Nat.reducePow, Int.reducePow, IntWalk.i64_in, IntKind.bits, eqAV, eqL, leafEq, andO, fillV, buildSV, Int.reduceGT, Int.reduceGE, Int.reduceBNe, IntWalk.u64_in, newsV_s, tassV, isnV, slcV, slcAV, slcTV, slcB, appNew, Option.bind_some, Option.bind_none, eqsV, lookV, mupdV, mdelV, mkM, ev1, ev2]
    with_reducible refine done2 ?_
    repeat (first | refine ext_new hN ?_ | exact fun _ _ h => h)
  · simp -implicitDefEqProofs (maxSteps := 10000000) (disch := omega) only [Tref04owners, Lref04owners, hB, hR, hI, mn, pad, lightV, bt, bf, evs, gt, st, binV, arith, isSh, storeV, all1, idxAV, fieldV, faddrV, iaddrSV, iaddrAV, pickV, convV, unV, eqbV, eqpV, extV, mm2, mmV, nilckV, ress, res1, retV, Value.cells, reduceIte, reduceCtorEq, Int.reduceLT, Int.reduceLE, Int.reduceToNat, Int.reduceAdd, Int.reduceSub, Int.reduceMul, Int.reduceNeg, Nat.reduceMul, Nat.reduceAdd, Nat.reduceSub, Nat.reduceBEq, Nat.reduceEqDiff, Nat.reduceLT, Nat.reduceLeDiff, Int.reduceBEq, Int.reduceEq, Nat.reducePow, Int.reducePow, IntWalk.i64_in, IntKind.bits, eqAV, eqL, leafEq, andO, fillV, buildSV, Int.reduceGT, Int.reduceGE, Int.reduceBNe, IntWalk.u64_in, newsV_s, tassV, isnV, slcV, slcAV, slcTV, slcB, appNew, Option.bind_some, Option.bind_none, eqsV, lookV, mupdV, mdelV, mkM, ev1, ev2]
    with_reducible refine done2 ?_
    repeat (first | refine ext_new hN ?_ | exact fun _ _ h => h)
  · simp -implicitDefEqProofs (maxSteps := 10000000) (disch := omega) only [Tref04owners, Lref04owners, hB, hR, hI, mn, pad, lightV, bt, bf, evs, gt, st, binV, arith, isSh, storeV, all1, idxAV, fieldV, faddrV, iaddrSV, iaddrAV, pickV, convV, unV, eqbV, eqpV, extV, mm2, mmV, nilckV, ress, res1, retV, Value.cells, reduceIte, reduceCtorEq, Int.reduceLT, Int.reduceLE, Int.reduceToNat, Int.reduceAdd, Int.reduceSub, Int.reduceMul, Int.reduceNeg, Nat.reduceMul, Nat.reduceAdd, Nat.reduceSub, Nat.reduceBEq, Nat.reduceEqDiff, Nat.reduceLT, Nat.reduceLeDiff, Int.reduceBEq, Int.reduceEq, Nat.reducePow, Int.reducePow, IntWalk.i64_in, IntKind.bits, eqAV, eqL, leafEq, andO, fillV, buildSV, Int.reduceGT, Int.reduceGE, Int.reduceBNe, IntWalk.u64_in, newsV_s, tassV, isnV, slcV, slcAV, slcTV, slcB, appNew, Option.bind_some, Option.bind_none, eqsV, lookV, mupdV, mdelV, mkM, ev1, ev2]
    with_reducible refine done2 ?_
    repeat (first | refine ext_new hN ?_ | exact fun _ _ h => h)
  · simp -implicitDefEqProofs (maxSteps := 10000000) (disch := omega) only [Tref04owners, Lref04owners, hB, hR, hI, mn, pad, lightV, bt, bf, evs, gt, st, binV, arith, isSh, storeV, all1, idxAV, fieldV, faddrV, iaddrSV, iaddrAV, pickV, convV, unV, eqbV, eqpV, extV, mm2, mmV, nilckV, ress, res1, retV, Value.cells, reduceIte, reduceCtorEq, Int.reduceLT, Int.reduceLE, Int.reduceToNat, Int.reduceAdd, Int.reduceSub, Int.reduceMul, Int.reduceNeg, Nat.reduceMul, Nat.reduceAdd, Nat.reduceSub, Nat.reduceBEq, Nat.reduceEqDiff, Nat.reduceLT, Nat.reduceLeDiff, Int.reduceBEq, Int.reduceEq, Nat.reducePow, Int.reducePow, IntWalk.i64_in, IntKind.bits, eqAV, eqL, leafEq, andO, fillV, buildSV, Int.reduceGT, Int.reduceGE, Int.reduceBNe, IntWalk.u64_in, newsV_s, tassV, isnV, slcV, slcAV, slcTV, slcB, appNew, Option.bind_some, Option.bind_none, eqsV, lookV, mupdV, mdelV, mkM, ev1, ev2]
    with_reducible refine done2 ?_
    repeat (first | refine ext_new hN ?_ | exact fun _ _ h => h)
end Go.Proofs.YtfhiplfagejfoaaDoor
namespace Go.Proofs.YtfhiplfagejfoaaDoor
open Go.Proofs.YtfhiplfagejfoaaDoor.K Go.ChangeShapes Go.WideShapes Go.ChangeAt Go.RowKit 
set_option maxRecDepth 100000
set_option linter.unusedSimpArgs false
set_option linter.unusedVariables false
/-- whitewash/whitewashref04.At -/
def Lref04At : FnL := ⟨(.seq (.ops [⟨(some 3), .box (.tmp 0), none⟩, ⟨(some 6), .mv (.const (.int .i64 0)), none⟩, ⟨(some 7), .mv (.const (.int .i64 0)), none⟩])
 (.seq (.seq (.ops [⟨(some 10), .load true 3 (.tmp 3), none⟩, ⟨(some 11), .call (.func 39) [(.tmp 10)], none⟩, ⟨(some 12), .un .not (.tmp 11), none⟩])
 (.cond (.tmp 12) (.seq (.ops [⟨(some 6), .mv (.const (.int .i64 0)), none⟩, ⟨(some 7), .mv (.const (.int .i64 5)), none⟩])
 .ret)
 .skip))
 (.seq (.seq (.ops [⟨(some 13), .mv (.tmp 1), none⟩, ⟨(some 14), .call (.func 61) [(.tmp 13), (.const (.int .i64 0)), (.const (.int .i64 4))], none⟩, ⟨(some 15), .un .not (.tmp 14), none⟩, ⟨(some 16), .mv (.tmp 15), none⟩, ⟨(some 17), .mv (.tmp 2), (some (16, false))⟩, ⟨(some 18), .faddr 1 (.tmp 3), (some (16, false))⟩, ⟨(some 19), .load false 1 (.tmp 18), (some (16, false))⟩, ⟨(some 20), .bin .sub (.tmp 19) (.const (.int .i64 1)), (some (16, false))⟩, ⟨(some 21), .call (.func 61) [(.tmp 17), (.const (.int .i64 0)), (.tmp 20)], (some (16, false))⟩, ⟨(some 22), .un .not (.tmp 21), (some (16, false))⟩, ⟨(some 23), .pick (.tmp 16) (.const (.bool true)) (.tmp 22), none⟩])
 (.cond (.tmp 23) (.seq (.ops [⟨(some 6), .mv (.const (.int .i64 0)), none⟩, ⟨(some 7), .mv (.const (.int .i64 1)), none⟩])
 .ret)
 .skip))
 (.seq (.ops [⟨(some 8), .mv (.const (.int .i64 0)), none⟩])
 (.seq (.seq (.ops [⟨(some 9), .mv (.const (.int .i64 0)), none⟩])
 (.block 0 (.loop (.seq (.seq (.ops [⟨(some 24), .mv (.tmp 9), none⟩, ⟨(some 25), .mv (.tmp 1), none⟩, ⟨(some 26), .bin .lss (.tmp 24) (.tmp 25), none⟩])
 (.cond (.tmp 26) .skip
 (.exit 0)))
 (.seq (.block 1 (.draw [⟨⟨(some 29), .mv (.tmp 8), none⟩, []⟩, ⟨⟨(some 30), .load true 3 (.tmp 3), none⟩, []⟩, ⟨⟨(some 31), .mv (.tmp 9), none⟩, []⟩, ⟨⟨(some 33), .load true 3 (.tmp 3), none⟩, []⟩, ⟨⟨(some 34), .mv (.tmp 9), none⟩, []⟩, ⟨⟨(some 32), .call (.func 62) [(.tmp 30), (.tmp 31)], none⟩, [⟨(some 33), .load true 3 (.tmp 3), none⟩]⟩, ⟨⟨(some 35), .call (.func 63) [(.tmp 33), (.tmp 34)], none⟩, []⟩, ⟨⟨(some 36), .bin .mul (.tmp 32) (.tmp 35), none⟩, []⟩, ⟨⟨(some 37), .bin .add (.tmp 29) (.tmp 36), none⟩, []⟩, ⟨⟨(some 8), .mv (.tmp 37), none⟩, []⟩]))
 (.ops [⟨(some 27), .mv (.tmp 9), none⟩, ⟨(some 28), .bin .add (.tmp 27) (.const (.int .i64 1)), none⟩, ⟨(some 9), .mv (.tmp 28), none⟩]))))))
 (.seq (.seq (.ops [⟨(some 38), .load true 3 (.tmp 3), none⟩, ⟨(some 39), .mv (.tmp 1), none⟩, ⟨(some 40), .call (.func 63) [(.tmp 38), (.tmp 39)], none⟩, ⟨(some 41), .bin .gtr (.tmp 40) (.const (.int .i64 1)), none⟩])
 (.cond (.tmp 41) (.ops [⟨(some 42), .mv (.tmp 8), none⟩, ⟨(some 43), .mv (.tmp 2), none⟩, ⟨(some 44), .load true 3 (.tmp 3), none⟩, ⟨(some 45), .mv (.tmp 1), none⟩, ⟨(some 46), .call (.func 62) [(.tmp 44), (.tmp 45)], none⟩, ⟨(some 47), .bin .mul (.tmp 43) (.tmp 46), none⟩, ⟨(some 48), .bin .add (.tmp 42) (.tmp 47), none⟩, ⟨(some 8), .mv (.tmp 48), none⟩])
 .skip))
 (.seq (.ops [⟨(some 49), .mv (.tmp 8), none⟩, ⟨(some 6), .mv (.tmp 49), none⟩, ⟨(some 7), .mv (.const (.int .i64 0)), none⟩])
 .ret))))))),
 50, [.tmp 6, .tmp 7]⟩
theorem lowref04At : lowerFn Tryd.prog Tryd.f37 = some Lref04At := by kernel_rfl
noncomputable def Gref04At (B : OH) : Nat → Cs
  | 39 => Vref04Fits B
  | 61 => Vref04in B
  | 63 => Vref04owners B
  | 62 => Vref04size B
  | _ => fun _ _ _ => none
theorem Gref04At_ref04Fits {B : OH} : Gref04At B 39 = Vref04Fits B := rfl
theorem Gref04At_ref04in {B : OH} : Gref04At B 61 = Vref04in B := rfl
theorem Gref04At_ref04owners {B : OH} : Gref04At B 63 = Vref04owners B := rfl
theorem Gref04At_ref04size {B : OH} : Gref04At B 62 = Vref04size B := rfl
theorem sGref04At {w0 : World} {B : OH} : SoundG Tryd.prog w0 B { f := Gref04At B } := .of fun k => by
  unfold Gref04At
  split
  · exact .inr ⟨enref04Fits, sVref04Fits⟩
  · exact .inr ⟨enref04in, sVref04in⟩
  · exact .inr ⟨enref04owners, sVref04owners⟩
  · exact .inr ⟨enref04size, sVref04size⟩
  · exact .inl fun _ _ _ => rfl
theorem enref04At : Enter Tryd.prog 37 := .of Tryd.func37 (by kernel_rfl) (by kernel_rfl)
noncomputable def Tref04At (B : OH) : Cs := callF B { f := Gref04At B } 200 Lref04At
theorem sTref04At {w0 : World} {B : OH} : SoundC Tryd.prog w0 B 37 (Tref04At B) := callF_sound mixedOrders sGref04At 200 Tryd.func37 lowref04At
noncomputable def Fref04At (B : OH) : List Value → Option Value := kval B (Tref04At B)
noncomputable def Vref04At (B : OH) : Cs := fun a H N => pvE (Fref04At B a) H N
theorem Vref04At_eq {B : OH} {a : List Value} {H : HL} {N : St} : Vref04At B a H N = pvE (Fref04At B a) H N := rfl
theorem sVref04At {w0 : World} {B : OH} : SoundC Tryd.prog w0 B 37 (Vref04At B) := sTref04At.ofVal
set_option maxHeartbeats 4000000 in
theorem rAt3 {B : OH} (hG : ∃ H N, good B H N) {kk p cc h : Nat} (C : Cf kk p cc h) {q : Nat} (hq : q < p) : Fref04At B [.agg #[.int .i64 (kk : Int), .int .i64 (p : Int), .int .i64 (cc : Int)], .int .i64 3, .int .i64 (q : Int)] = some (.tuple #[.int .i64 (bs p h 3 + LG p h * q : Nat), .int .i64 0]) := by
  refine kval_eq hG fun H N hN => ?_
  have hB := good_B hN
  have hR := good_rdB hN
  have hI := beqN hN.1.1
  have e := rFits1 hG C
  have hh := C.h
  have hp := C.p
  have hb := LG_b C
  have s0 := rsize hG C (k := 0) (by omega)
  have s1 := rsize hG C (k := 1) (by omega)
  have s2 := rsize hG C (k := 2) (by omega)
  have s3 := rsize hG C (k := 3) (by omega)
  have s4 := rsize hG C (k := 4) (by omega)
  have o0 := rown hG (kk := kk) (p := p) (cc := cc) (k := 0) (by omega)
  have o1 := rown hG (kk := kk) (p := p) (cc := cc) (k := 1) (by omega)
  have o2 := rown hG (kk := kk) (p := p) (cc := cc) (k := 2) (by omega)
  have o3 := rown hG (kk := kk) (p := p) (cc := cc) (k := 3) (by omega)
  have o4 := rown hG (kk := kk) (p := p) (cc := cc) (k := 4) (by omega)
  have z3 : sz p h 3 = LG p h := rfl
  have z4 : sz p h 4 = h := rfl
  rw [z3] at s3
  rw [z4] at s4
  simp only [Int.cast_ofNat_Int, sz, mn] at s0 s1 s2 s3 s4 o0 o1 o2 o3 o4
  have a1 : (3 : Int) * (p : Int) = ((3 * p : Nat) : Int) := by omega
  have a2 : (2 : Int) * (p : Int) = ((2 * p : Nat) : Int) := by omega
  have a3 : (LG p h : Int) * (p : Int) = ((LG p h * p : Nat) : Int) := by rw [Int.natCast_mul]
  have e2 := fin hG 3 0 4
  have e3 := fin hG (q : Int) 0 ((p : Int) - 1)
  rw [decide_eq_true (by omega)] at e2 e3
  have hq2 : LG p h * q ≤ LG p h * p := Nat.mul_le_mul_left _ (by omega)
  have a4 : (q : Int) * (LG p h : Int) = ((LG p h * q : Nat) : Int) := by rw [Int.natCast_mul, Int.mul_comm]
  have b3 : ((bs p h 3 + LG p h * q : Nat) : Int) = 1 + ((3 * p : Nat) : Int) + ((2 * p : Nat) : Int) + ((LG p h * q : Nat) : Int) := by rw [bs_3]; omega
  generalize LG p h * q = X at *
  by_cases h1 : (p : Int) > 1
  · simp -implicitDefEqProofs (maxSteps := 10000000) (disch := omega) only [Tref04At, Lref04At, Gref04At_ref04Fits, Vref04Fits_eq, Gref04At_ref04in, Vref04in_eq, Gref04At_ref04owners, Vref04owners_eq, Gref04At_ref04size, Vref04size_eq, hB, hR, hI, e, s0, s1, s2, s3, s4, o0, o1, o2, o3, o4, a1, a2, a3, e_loop, e2, e3, a4, b3, h1, pad, lightV, bt, bf, evs, gt, st, binV, arith, isSh, storeV, all1, idxAV, fieldV, faddrV, iaddrSV, iaddrAV, pickV, convV, unV, eqbV, eqpV, extV, mm2, mmV, nilckV, ress, res1, retV, Value.cells, reduceIte, reduceCtorEq, Int.reduceLT, Int.reduceLE, Int.reduceToNat, Int.reduceAdd, Int.reduceSub, Int.reduceMul, Int.reduceNeg, Nat.reduceMul, Nat.reduceAdd, Nat.reduceSub, Nat.reduceBEq, Nat.reduceEqDiff, Nat.reduceLT, Nat.reduceLeDiff, Int.reduceBEq, Int.reduceEq, Nat.reducePow, Int.reducePow, IntWalk.i64_in, IntKind.bits, eqAV, eqL, leafEq, andO, fillV, buildSV, Int.reduceGT, Int.reduceGE, Int.reduceBNe, IntWalk.u64_in, newsV_s, tassV, isnV, slcV, slcAV, slcTV, slcB, appNew, Option.bind_some, Option.bind_none, eqsV, lookV, mupdV, mdelV, mkM, ev1, ev2]
    with_reducible refine done2 ?_
    repeat (first | refine ext_new hN ?_ | exact fun _ _ h => h)
  · have x0 : (X : Int) = 0 := by
      have : q = 0 := by omega
      subst this; simp at a4; omega
    simp -implicitDefEqProofs (maxSteps := 10000000) (disch := omega) only [Tref04At, Lref04At, Gref04At_ref04Fits, Vref04Fits_eq, Gref04At_ref04in, Vref04in_eq, Gref04At_ref04owners, Vref04owners_eq, Gref04At_ref04size, Vref04size_eq, hB, hR, hI, e, s0, s1, s2, s3, s4, o0, o1, o2, o3, o4, a1, a2, a3, e_loop, e2, e3, b3, h1, x0, Int.add_zero, pad, lightV, bt, bf, evs, gt, st, binV, arith, isSh, storeV, all1, idxAV, fieldV, faddrV, iaddrSV, iaddrAV, pickV, convV, unV, eqbV, eqpV, extV, mm2, mmV, nilckV, ress, res1, retV, Value.cells, reduceIte, reduceCtorEq, Int.reduceLT, Int.reduceLE, Int.reduceToNat, Int.reduceAdd, Int.reduceSub, Int.reduceMul, Int.reduceNeg, Nat.reduceMul, Nat.reduceAdd, Nat.reduceSub, Nat.reduceBEq, Nat.reduceEqDiff, Nat.reduceLT, Nat.reduceLeDiff, Int.reduceBEq, Int.reduceEq, Nat.reducePow, Int.reducePow, IntWalk.i64_in, IntKind.bits, eqAV, eqL, leafEq, andO, fillV, buildSV, Int.reduceGT, Int.reduceGE, Int.reduceBNe, IntWalk.u64_in, newsV_s, tassV, isnV, slcV, slcAV, slcTV, slcB, appNew, Option.bind_some, Option.bind_none, eqsV, lookV, mupdV, mdelV, mkM, ev1, ev2]
    with_reducible refine done2 ?_
    repeat (first | refine ext_new hN ?_ | exact fun _ _ h => h)
set_option maxHeartbeats 4000000 in
theorem rAt2 {B : OH} (hG : ∃ H N, good B H N) {kk p cc h : Nat} (C : Cf kk p cc h) : Fref04At B [.agg #[.int .i64 (kk : Int), .int .i64 (p : Int), .int .i64 (cc : Int)], .int .i64 2, .int .i64 0] = some (.tuple #[.int .i64 (bs p h 2 : Nat), .int .i64 0]) := by
  refine kval_eq hG fun H N hN => ?_
  have hB := good_B hN
  have hR := good_rdB hN
  have hI := beqN hN.1.1
  have e := rFits1 hG C
  have hh := C.h
  have hp := C.p
  have hb := LG_b C
  have s0 := rsize hG C (k := 0) (by omega)
  have s1 := rsize hG C (k := 1) (by omega)
  have s2 := rsize hG C (k := 2) (by omega)
  have s3 := rsize hG C (k := 3) (by omega)
  have s4 := rsize hG C (k := 4) (by omega)
  have o0 := rown hG (kk := kk) (p := p) (cc := cc) (k := 0) (by omega)
  have o1 := rown hG (kk := kk) (p := p) (cc := cc) (k := 1) (by omega)
  have o2 := rown hG (kk := kk) (p := p) (cc := cc) (k := 2) (by omega)
  have o3 := rown hG (kk := kk) (p := p) (cc := cc) (k := 3) (by omega)
  have o4 := rown hG (kk := kk) (p := p) (cc := cc) (k := 4) (by omega)
  have z3 : sz p h 3 = LG p h := rfl
  have z4 : sz p h 4 = h := rfl
  rw [z3] at s3
  rw [z4] at s4
  simp only [Int.cast_ofNat_Int, sz, mn] at s0 s1 s2 s3 s4 o0 o1 o2 o3 o4
  have a1 : (3 : Int) * (p : Int) = ((3 * p : Nat) : Int) := by omega
  have a2 : (2 : Int) * (p : Int) = ((2 * p : Nat) : Int) := by omega
  have a3 : (LG p h : Int) * (p : Int) = ((LG p h * p : Nat) : Int) := by rw [Int.natCast_mul]
  have e2 := fin hG 2 0 4
  have e3 := fin hG 0 0 ((p : Int) - 1)
  rw [decide_eq_true (by omega)] at e2 e3
  have b3 : ((bs p h 2 : Nat) : Int) = 1 + ((3 * p : Nat) : Int) := by rw [bs_2]; omega
  by_cases h1 : (p : Int) > 1
  · simp -implicitDefEqProofs (maxSteps := 10000000) (disch := omega) only [Tref04At, Lref04At, Gref04At_ref04Fits, Vref04Fits_eq, Gref04At_ref04in, Vref04in_eq, Gref04At_ref04owners, Vref04owners_eq, Gref04At_ref04size, Vref04size_eq, hB, hR, hI, e, s0, s1, s2, s3, s4, o0, o1, o2, o3, o4, a1, a2, a3, e_loop, e2, e3, b3, h1, Int.add_zero, pad, lightV, bt, bf, evs, gt, st, binV, arith, isSh, storeV, all1, idxAV, fieldV, faddrV, iaddrSV, iaddrAV, pickV, convV, unV, eqbV, eqpV, extV, mm2, mmV, nilckV, ress, res1, retV, Value.cells, reduceIte, reduceCtorEq, Int.reduceLT, Int.reduceLE, Int.reduceToNat, Int.reduceAdd, Int.reduceSub, Int.reduceMul, Int.reduceNeg, Nat.reduceMul, Nat.reduceAdd, Nat.reduceSub, Nat.reduceBEq, Nat.reduceEqDiff, Nat.reduceLT, Nat.reduceLeDiff, Int.reduceBEq, Int.reduceEq, Nat.reducePow, Int.reducePow, IntWalk.i64_in, IntKind.bits, eqAV, eqL, leafEq, andO, fillV, buildSV, Int.reduceGT, Int.reduceGE, Int.reduceBNe, IntWalk.u64_in, newsV_s, tassV, isnV, slcV, slcAV, slcTV, slcB, appNew, Option.bind_some, Option.bind_none, eqsV, lookV, mupdV, mdelV, mkM, ev1, ev2]
    with_reducible refine done2 ?_
    repeat (first | refine ext_new hN ?_ | exact fun _ _ h => h)
  · simp -implicitDefEqProofs (maxSteps := 10000000) (disch := omega) only [Tref04At, Lref04At, Gref04At_ref04Fits, Vref04Fits_eq, Gref04At_ref04in, Vref04in_eq, Gref04At_ref04owners, Vref04owners_eq, Gref04At_ref04size, Vref04size_eq, hB, hR, hI, e, s0, s1, s2, s3, s4, o0, o1, o2, o3, o4, a1, a2, a3, e_loop, e2, e3, b3, h1, Int.add_zero, pad, lightV, bt, bf, evs, gt, st, binV, arith, isSh, storeV, all1, idxAV, fieldV, faddrV, iaddrSV, iaddrAV, pickV, convV, unV, eqbV, eqpV, extV, mm2, mmV, nilckV, ress, res1, retV, Value.cells, reduceIte, reduceCtorEq, Int.reduceLT, Int.reduceLE, Int.reduceToNat, Int.reduceAdd, Int.reduceSub, Int.reduceMul, Int.reduceNeg, Nat.reduceMul, Nat.reduceAdd, Nat.reduceSub, Nat.reduceBEq, Nat.reduceEqDiff, Nat.reduceLT, Nat.reduceLeDiff, Int.reduceBEq, Int.reduceEq, Nat.reducePow, Int.reducePow, IntWalk.i64_in, IntKind.bits, eqAV, eqL, leafEq, andO, fillV, buildSV, Int.reduceGT, Int.reduceGE, Int.reduceBNe, IntWalk.u64_in, newsV_s, tassV, isnV, slcV, slcAV, slcTV, slcB, appNew, Option.bind_some, Option.bind_none, eqsV, lookV, mupdV, mdelV, mkM, ev1, ev2]
    with_reducible refine done2 ?_
    repeat (first | refine ext_new hN ?_ | exact fun _ _ h => h)
set_option maxHeartbeats 4000000 in
theorem rAt4 {B : OH} (hG : ∃ H N, good B H N) {kk p cc h : Nat} (C : Cf kk p cc h) : Fref04At B [.agg #[.int .i64 (kk : Int), .int .i64 (p : Int), .int .i64 (cc : Int)], .int .i64 4, .int .i64 0] = some (.tuple #[.int .i64 (bs p h 4 : Nat), .int .i64 0]) := by
  refine kval_eq hG fun H N hN => ?_
  have hB := good_B hN
  have hR := good_rdB hN
  have hI := beqN hN.1.1
  have e := rFits1 hG C
  have hh := C.h
  have hp := C.p
  have hb := LG_b C
  have s0 := rsize hG C (k := 0) (by omega)
  have s1 := rsize hG C (k := 1) (by omega)
  have s2 := rsize hG C (k := 2) (by omega)
  have s3 := rsize hG C (k := 3) (by omega)
  have s4 := rsize hG C (k := 4) (by omega)
  have o0 := rown hG (kk := kk) (p := p) (cc := cc) (k := 0) (by omega)
  have o1 := rown hG (kk := kk) (p := p) (cc := cc) (k := 1) (by omega)
  have o2 := rown hG (kk := kk) (p := p) (cc := cc) (k := 2) (by omega)
  have o3 := rown hG (kk := kk) (p := p) (cc := cc) (k := 3) (by omega)
  have o4 := rown hG (kk := kk) (p := p) (cc := cc) (k := 4) (by omega)
  have z3 : sz p h 3 = LG p h := rfl
  have z4 : sz p h 4 = h := rfl
  rw [z3] at s3
  rw [z4] at s4
  simp only [Int.cast_ofNat_Int, sz, mn] at s0 s1 s2 s3 s4 o0 o1 o2 o3 o4
  have a1 : (3 : Int) * (p : Int) = ((3 * p : Nat) : Int) := by omega
  have a2 : (2 : Int) * (p : Int) = ((2 * p : Nat) : Int) := by omega
  have a3 : (LG p h : Int) * (p : Int) = ((LG p h * p : Nat) : Int) := by rw [Int.natCast_mul]
  have e2 := fin hG 4 0 4
  have e3 := fin hG 0 0 ((p : Int) - 1)
  rw [decide_eq_true (by omega)] at e2 e3
  have b3 : ((bs p h 4 : Nat) : Int) = 1 + ((3 * p : Nat) : Int) + ((2 * p : Nat) : Int) + ((LG p h * p : Nat) : Int) := by rw [bs_4]; omega
  generalize LG p h * p = X at *
  simp -implicitDefEqProofs (maxSteps := 10000000) (disch := omega) only [Tref04At, Lref04At, Gref04At_ref04Fits, Vref04Fits_eq, Gref04At_ref04in, Vref04in_eq, Gref04At_ref04owners, Vref04owners_eq, Gref04At_ref04size, Vref04size_eq, hB, hR, hI, e, s0, s1, s2, s3, s4, o0, o1, o2, o3, o4, a1, a2, a3, e_loop, e2, e3, b3, pad, lightV, bt, bf, evs, gt, st, binV, arith, isSh, storeV, all1, idxAV, fieldV, faddrV, iaddrSV, iaddrAV, pickV, convV, unV, eqbV, eqpV, extV, mm2, mmV, nilckV, ress, res1, retV, Value.cells, reduceIte, reduceCtorEq, Int.reduceLT, Int.reduceLE, Int.reduceToNat, Int.reduceAdd, Int.reduceSub, Int.reduceMul, Int.reduceNeg, Nat.reduceMul, Nat.reduceAdd, Nat.reduceSub, Nat.reduceBEq, Nat.reduceEqDiff, Nat.reduceLT, Nat.reduceLeDiff, Int.reduceBEq, Int.reduceEq, Nat.reducePow, Int.reducePow, IntWalk.i64_in, IntKind.bits, eqAV, eqL, leafEq, andO, fillV, buildSV, Int.reduceGT, Int.reduceGE, Int.reduceBNe, IntWalk.u64_in, newsV_s, tassV, isnV, slcV, slcAV, slcTV, slcB, appNew, Option.bind_some, Option.bind_none, eqsV, lookV, mupdV, mdelV, mkM, ev1, ev2]
  with_reducible refine done2 ?_
  repeat (first | refine ext_new hN ?_ | exact fun _ _ h => h)
theorem rAt3e {B : OH} (hG : ∃ H N, good B H N) {kk p cc h : Nat} (C : Cf kk p cc h) (y : Int) (hy : y < 0 ∨ y ≥ (p : Int)) : Fref04At B [.agg #[.int .i64 (kk : Int), .int .i64 (p : Int), .int .i64 (cc : Int)], .int .i64 3, .int .i64 y] = some (.tuple #[.int .i64 0, .int .i64 1]) := by
  refine kval_eq hG fun H N hN => ?_
  have hB := good_B hN
  have hR := good_rdB hN
  have hI := beqN hN.1.1
  have e := rFits1 hG C
  have hp := C.p
  have e2 := fin hG 3 0 4
  have e3 := fin hG y 0 ((p : Int) - 1)
  rw [decide_eq_true (by omega)] at e2
  rw [decide_eq_false (by omega)] at e3
  simp -implicitDefEqProofs (maxSteps := 10000000) (disch := omega) only [Tref04At, Lref04At, Gref04At_ref04Fits, Vref04Fits_eq, Gref04At_ref04in, Vref04in_eq, Gref04At_ref04owners, Vref04owners_eq, Gref04At_ref04size, Vref04size_eq, hB, hR, hI, e, e2, e3, pad, lightV, bt, bf, evs, gt, st, binV, arith, isSh, storeV, all1, idxAV, fieldV, faddrV, iaddrSV, iaddrAV, pickV, convV, unV, eqbV, eqpV, extV, mm2, mmV, nilckV, ress, res1, retV, Value.cells, reduceIte, reduceCtorEq, Int.reduceLT, Int.reduceLE, Int.reduceToNat, Int.reduceAdd, Int.reduceSub, Int.reduceMul, Int.reduceNeg, Nat.reduceMul, Nat.reduceAdd, Nat.reduceSub, Nat.reduceBEq, Nat.reduceEqDiff, Nat.reduceLT, Nat.reduceLeDiff, Int.reduceBEq, Int.reduceEq, Nat.reducePow, Int.reducePow, IntWalk.i64_in, IntKind.bits, eqAV, eqL, leafEq, andO, fillV, buildSV, Int.reduceGT, Int.reduceGE, Int.reduceBNe, IntWalk.u64_in, newsV_s, tassV, isnV, slcV, slcAV, slcTV, slcB, appNew, Option.bind_some, Option.bind_none, eqsV, lookV, mupdV, mdelV, mkM, ev1, ev2]
  with_reducible refine done2 ?_
  repeat (first | refine ext_new hN ?_ | exact fun _ _ h => h)
theorem rAtn {B : OH} (hG : ∃ H N, good B H N) (k p c x y : Int) (h : ¬ fitI k p c) : Fref04At B [.agg #[.int .i64 k, .int .i64 p, .int .i64 c], .int .i64 x, .int .i64 y] = some (.tuple #[.int .i64 0, .int .i64 5]) := by
  refine kval_eq hG fun H N hN => ?_
  have hB := good_B hN
  have hR := good_rdB hN
  have hI := beqN hN.1.1
  have e := rFits hG k p c
  rw [decide_eq_false h] at e
  simp -implicitDefEqProofs (maxSteps := 10000000) (disch := omega) only [Tref04At, Lref04At, Gref04At_ref04Fits, Vref04Fits_eq, Gref04At_ref04in, Vref04in_eq, Gref04At_ref04owners, Vref04owners_eq, Gref04At_ref04size, Vref04size_eq, hB, hR, hI, e, pad, lightV, bt, bf, evs, gt, st, binV, arith, isSh, storeV, all1, idxAV, fieldV, faddrV, iaddrSV, iaddrAV, pickV, convV, unV, eqbV, eqpV, extV, mm2, mmV, nilckV, ress, res1, retV, Value.cells, reduceIte, reduceCtorEq, Int.reduceLT, Int.reduceLE, Int.reduceToNat, Int.reduceAdd, Int.reduceSub, Int.reduceMul, Int.reduceNeg, Nat.reduceMul, Nat.reduceAdd, Nat.reduceSub, Nat.reduceBEq, Nat.reduceEqDiff, Nat.reduceLT, Nat.reduceLeDiff, Int.reduceBEq, Int.reduceEq, Nat.reducePow, Int.reducePow, IntWalk.i64_in, IntKind.bits, eqAV, eqL, leafEq, andO, fillV, buildSV, Int.reduceGT, Int.reduceGE, Int.reduceBNe, IntWalk.u64_in, newsV_s, tassV, isnV, slcV, slcAV, slcTV, slcB, appNew, Option.bind_some, Option.bind_none, eqsV, lookV, mupdV, mdelV, mkM, ev1, ev2]
  with_reducible refine done2 ?_
  repeat (first | refine ext_new hN ?_ | exact fun _ _ h => h)
/-- A place that a log may write. -/
def okP (p h : Nat) (w : Int) : Prop := ((bs p h 2 : Nat) : Int) ≤ w ∧ w < ((bs p h 3 : Nat) : Int) ∨ ((bs p h 4 : Nat) : Int) ≤ w ∧ w < ((bs p h 5 : Nat) : Int)
instance (p h : Nat) (w : Int) : Decidable (okP p h w) := by unfold okP; exact inferInstance
theorem okP_b {kk p cc h : Nat} (C : Cf kk p cc h) {w : Int} (ho : okP p h w) : 0 ≤ w ∧ w < ((bs p h 5 : Nat) : Int) ∧ bs p h 5 ≤ 35000 := by
  have hb := LG_b C
  have hh := C.h
  have hp := C.p
  unfold okP at ho
  rw [bs_2, bs_3, bs_4, bs_5] at ho
  rw [bs_5]
  omega
theorem bs5_b {kk p cc h : Nat} (C : Cf kk p cc h) : bs p h 5 ≤ 35000 := by
  have hb := LG_b C
  have hh := C.h
  have hp := C.p
  rw [bs_5]
  omega
end Go.Proofs.YtfhiplfagejfoaaDoor
