/- Own text: the log of writes, part Twice: contracts of the functions that the laws of the log call. -/
import Derived.Test.YtfhiplfagejfoaaDoorTwE
import Derived.Test.YtfhiplfagejfoaaDoorRows
import Derived.Test.YtfhiplfagejfoaaDoorCards
import Derived.Test.YtfhiplfagejfoaaDoorTie
set_option linter.unusedSimpArgs false
set_option linter.unusedVariables false
namespace Go.Proofs.YtfhiplfagejfoaaDoor
open Go.Proofs.YtfhiplfagejfoaaDoor.K Go.ChangeShapes Go.WideShapes Go.ChangeAt Go.RowKit 
set_option maxRecDepth 100000
set_option linter.unusedSimpArgs false
set_option linter.unusedVariables false
set_option maxHeartbeats 8000000 in
theorem loopTo {B : OH} {H : HL} {N : St} {vl vm vx vu : Value} {M U : List C2} {l : List W2} {kk p cc h c q m x u : Nat} (hT : Tab B) (C : Cf kk p cc h) (hq : q < p) (hM : M.length = bs p h 5) (hok : okL p h l l.length) (hll : l.length ≤ 1000) (sl : SlR w2 2 B H vl l) (sm : SlR c2 2 B H vm M) (sx : SlR c2 2 B H vx (lay M l l.length)) (su : SlR c2 2 B H vu U) (hUl : U.length = M.length) (hUX : ∀ i, ¬ (lgA p h q ≤ i ∧ i < lgA p h q + LG p h) → (lay M l l.length).getD i z2 = U.getD i z2) (hN : good B H N) (bc : B c = none) (bm : B m = none) (bx : B x = none) (bu : B u = none) (lc : lk H c = some (.cells [.int .i64 (kk : Int), .int .i64 (p : Int), .int .i64 (cc : Int)] 3)) (lm : lk H m = some (.cells [vm] 1)) (lx : lk H x = some (.cells [vx] 1)) (lu : lk H u = some (.cells [vu] 1)) {ts : List Value} (kp : KTl c q vl m x u 0 ts) {F : Nat} (hF : 5000 + M.length + 1 ≤ F) :
    Ok (exec B { f := Glaw16WlogTwice B } F (LC.loop lbTo) ⟨ts, H, N⟩) (fun y s => y = .exit 0 ∧ ∃ i, KTl c q vl m x u i s.t) := by
  have hlm := sm.len
  have hXl := lay_len M l l.length
  have hb := lgA_b (q := (q : Int)) C (M := M) ⟨by omega, hM⟩
  have hin0 : inM M.length l := by rw [hM]; exact okL_in C hok
  have hokm := (okL_iff.1 hok).1
  refine loop_rule (n0 := 5000) (fun w s => ∃ ts H' N', ∃ i : Nat, s = ⟨ts, H', N'⟩ ∧ KTl c q vl m x u i ts ∧ good B H' N' ∧ Fr H H' ∧ i ≤ M.length ∧ w = M.length - i) _ ?_ M.length _ ⟨ts, H, N, 0, rfl, kp, hN, Fr.refl, by omega, rfl⟩ _ hF
  clear kp hF F ts hN N
  rintro z w s ⟨ts, H1, N1, i, rfl, kp, g, fk, hi, rfl⟩
  have hB := good_B g
  have hR := good_rdB g
  have hI := beqN g.1.1
  have hG : ∃ H N, good B H N := ⟨H1, N1, g⟩
  have lc1 := fk _ _ lc
  have lm1 := fk _ _ lm
  have lx1 := fk _ _ lx
  have lu1 := fk _ _ lu
  have rc := fun o n => rdB_none (o := o) (n := n) bc
  have rm := fun o n => rdB_none (o := o) (n := n) bm
  have rx := fun o n => rdB_none (o := o) (n := n) bx
  have ru := fun o n => rdB_none (o := o) (n := n) bu
  have nc := ne_N g lc1
  have nm := ne_N g lm1
  have nx := ne_N g lx1
  have nu := ne_N g lu1
  have hc1 : ((i + 1 : Nat) : Int) = (i : Int) + 1 := by omega
  by_cases hin : i < M.length
  case neg =>
    have h1' : ¬ (i : Int) < (M.length : Int) := by omega
    simp -implicitDefEqProofs (maxSteps := 10000000) (disch := omega) only [Tlaw16WlogTwice, Llaw16WlogTwice, Glaw16WlogTwice_9, V9_eq, Glaw16WlogTwice_law16Conf, Vlaw16Conf_eq, Glaw16WlogTwice_law16Memory, Glaw16WlogTwice_law16With, Glaw16WlogTwice_law16Writes, Glaw16WlogTwice_law16awake, Glaw16WlogTwice_law16pick, Vlaw16pick_eq, Glaw16WlogTwice_ref03Same, Glaw16WlogTwice_ref16Most, Vref16Most_eq, Glaw16WlogTwice_ref16Wipe, Glaw16WlogTwice_wlogLay, Glaw16WlogTwice_wlogPack, hB, hR, hI, lbTo, kp.l, kp.t11, kp.t12, kp.t13, kp.t14, kp.t22, kp.t23, kp.t27, kp.t29, lenV_sl, Int.toNat_natCast, bft, btf, gtst, st_len, lm1, bm, rm, hlm, h1', pad, lightV, bt, bf, evs, gt, st, binV, arith, isSh, storeV, all1, idxAV, fieldV, faddrV, iaddrSV, iaddrAV, pickV, convV, unV, eqbV, eqpV, extV, mm2, mmV, nilckV, ress, res1, retV, Value.cells, reduceIte, reduceCtorEq, Int.reduceLT, Int.reduceLE, Int.reduceToNat, Int.reduceAdd, Int.reduceSub, Int.reduceMul, Int.reduceNeg, Nat.reduceMul, Nat.reduceAdd, Nat.reduceSub, Nat.reduceBEq, Nat.reduceEqDiff, Nat.reduceLT, Nat.reduceLeDiff, Int.reduceBEq, Int.reduceEq, Nat.reducePow, Int.reducePow, IntWalk.i64_in, IntKind.bits, eqAV, eqL, leafEq, andO, fillV, buildSV, Int.reduceGT, Int.reduceGE, Int.reduceBNe, IntWalk.u64_in, newsV_s, tassV, isnV, slcV, slcAV, slcTV, slcB, appNew, Option.bind_some, Option.bind_none, eqsV, lookV, mupdV, mdelV, mkM, ev1, ev2]
    refine ok_some (.inr ⟨by simp, rfl, i, ⟨?_, ?_, ?_, ?_, ?_, ?_, ?_, ?_, ?_⟩⟩)
    all_goals simp (maxSteps := 10000000) (disch := omega) only [kp.l, kp.t11, kp.t12, kp.t13, kp.t14, kp.t22, kp.t23, kp.t27, kp.t29, lenV_sl, Int.toNat_natCast, bft, btf, gtst, st_len, Nat.reduceAdd, Int.cast_ofNat_Int, cond_true, cond_false, Nat.reduceBEq, Nat.reduceLT, decide_true, beq_self_eq_true, if_true, if_false]
  have hin' : (i : Int) < (M.length : Int) := by omega
  have i0 : (0 : Int) ≤ (i : Int) := by omega
  obtain ⟨ba, oa, ca, rfl, da, ra⟩ := sm.at (by omega)
  obtain ⟨bq, oq, cq, rfl, dq, rq⟩ := sx.at (by rw [hXl]; omega)
  obtain ⟨bu', ou, cu, rfl, du, ru'⟩ := su.at (by rw [hUl]; omega)
  have hinX : i < (lay M l l.length).length := by rw [hXl]; exact hin
  have hinU : i < U.length := by rw [hUl]; exact hin
  obtain ⟨k, o, y, e9, hko, hk5, hk1, hk2⟩ := where_ hG hT C hq (a := i) (by omega)
  have hnot : ¬ (k = 2 ∨ k = 4) → (lay M l l.length).getD i z2 = M.getD i z2 := fun hk => lay_not hin0 fun y hy e => by
    have hp := hokm y hy
    have := okP_b C hp
    have h2 : y.a = (i : Int) := by omega
    rw [h2] at hp
    exact hk ((okP_part C hk5 hk1 hk2).1 hp)
  have hux := hUX i
  obtain ⟨mi, hm⟩ : ∃ mi, M.getD i z2 = mi := ⟨_, rfl⟩
  obtain ⟨xi, hx⟩ : ∃ xi, (lay M l l.length).getD i z2 = xi := ⟨_, rfl⟩
  obtain ⟨ui, hu⟩ : ∃ ui, U.getD i z2 = ui := ⟨_, rfl⟩
  obtain ⟨mw, ml⟩ := mi
  obtain ⟨xw, xl⟩ := xi
  obtain ⟨uw, ul⟩ := ui
  have r1 : rdO H1 B ba (oa + i * 2) 2 (rdB B ba (oa + i * 2) 2) = some [.int .u64 mw, .int .i64 ml] := (ra H1 fk i 0 2 z2 hin (by omega)).trans (by rw [hm]; rfl)
  have rX : ∀ H', Fr H H' → rdO H' B bq (oq + i * 2) 2 (rdB B bq (oq + i * 2) 2) = some [.int .u64 xw, .int .i64 xl] := fun H' hf => (rq H' hf i 0 2 z2 hinX (by omega)).trans (by rw [hx]; rfl)
  have r2 := rX _ fk
  have r3 : rdO H1 B bu' (ou + i * 2) 2 (rdB B bu' (ou + i * 2) 2) = some [.int .u64 uw, .int .i64 ul] := (ru' H1 fk i 0 2 z2 hinU (by omega)).trans (by rw [hu]; rfl)
  have main : ∀ (ts' : List Value), KTi c q vl m x u i (N1.n 0) 0 ts' → ∀ F, 4000 ≤ F → Ok (exec B { f := Glaw16WlogTwice B } F (LC.loop lbTi) ⟨ts', (N1.n 0, .cells [.int .u64 mw, .int .i64 ml] 2) :: H1, sh N1⟩) (fun r s => r = .exit 2 ∧ good B s.H s.N ∧ Fr H1 s.H ∧ lk s.H (N1.n 0) = some (.cells (c2 (wv l i ⟨mw, ml⟩ l.length)) 2) ∧ KTi c q vl m x u i (N1.n 0) l.length s.t) := fun ts' kp' F hF =>
    loopTi (B := B) (H := H1) (N := N1) (l := l) (b := ⟨mw, ml⟩) (sl.mono fk) hll g (hB 0) (fun _ _ _ => trivial) (H1 := (N1.n 0, .cells [.int .u64 mw, .int .i64 ml] 2) :: H1) (good_new g) (fr_new g Fr.refl 0) (lk_N g 0) lk_top kp' (by omega)
  rw [hXl] at *
  rw [hx, hu] at hux
  rw [hx, hm] at hnot
  by_cases hr : lgA p h q ≤ i ∧ i < lgA p h q + LG p h
  · obtain ⟨rfl, rfl⟩ := hko.2 hr
    obtain ⟨rfl, rfl⟩ : xw = mw ∧ xl = ml := by have := hnot (by omega); simpa using this
    have c2_ : (((3 : Nat) : Int) != 2) = true := rfl
    have c3_ : (((3 : Nat) : Int) != 3) = false := rfl
    have c4_ : (((3 : Nat) : Int) != 4) = true := rfl
    simp -implicitDefEqProofs (maxSteps := 10000000) (disch := omega) only [Tlaw16WlogTwice, Llaw16WlogTwice, Glaw16WlogTwice_9, V9_eq, Glaw16WlogTwice_law16Conf, Vlaw16Conf_eq, Glaw16WlogTwice_law16Memory, Glaw16WlogTwice_law16With, Glaw16WlogTwice_law16Writes, Glaw16WlogTwice_law16awake, Glaw16WlogTwice_law16pick, Vlaw16pick_eq, Glaw16WlogTwice_ref03Same, Glaw16WlogTwice_ref16Most, Vref16Most_eq, Glaw16WlogTwice_ref16Wipe, Glaw16WlogTwice_wlogLay, Glaw16WlogTwice_wlogPack, hB, hR, hI, lbTo, kp.l, kp.t11, kp.t12, kp.t13, kp.t14, kp.t22, kp.t23, kp.t27, kp.t29, lenV_sl, Int.toNat_natCast, bft, btf, gtst, st_len, lc1, lm1, lx1, lu1, bc, rc, bm, rm, bx, rx, bu, ru, nc, nm, nx, nu, hlm, hin, hinX, hinU, hin', i0, r1, r2, r3, e9, bxx, c2_, c3_, c4_, bne_self_eq_false, pad, lightV, bt, bf, evs, gt, st, binV, arith, isSh, storeV, all1, idxAV, fieldV, faddrV, iaddrSV, iaddrAV, pickV, convV, unV, eqbV, eqpV, extV, mm2, mmV, nilckV, ress, res1, retV, Value.cells, reduceIte, reduceCtorEq, Int.reduceLT, Int.reduceLE, Int.reduceToNat, Int.reduceAdd, Int.reduceSub, Int.reduceMul, Int.reduceNeg, Nat.reduceMul, Nat.reduceAdd, Nat.reduceSub, Nat.reduceBEq, Nat.reduceEqDiff, Nat.reduceLT, Nat.reduceLeDiff, Int.reduceBEq, Int.reduceEq, Nat.reducePow, Int.reducePow, IntWalk.i64_in, IntKind.bits, eqAV, eqL, leafEq, andO, fillV, buildSV, Int.reduceGT, Int.reduceGE, Int.reduceBNe, IntWalk.u64_in, newsV_s, tassV, isnV, slcV, slcAV, slcTV, slcB, appNew, Option.bind_some, Option.bind_none, eqsV, lookV, mupdV, mdelV, mkM, ev1, ev2]
    generalize hX : exec B _ _ (LC.loop _) _ = o
    obtain ⟨y, ⟨ts2, H2, N2⟩, rfl, rfl, g2, f2, lw, kp2⟩ := (show Ok o _ by rw [← hX]; exact main _ ⟨by simp (maxSteps := 10000000) (disch := omega) only [ kp.l, kp.t11, kp.t12, kp.t13, kp.t14, kp.t22, kp.t23, kp.t27, kp.t29, lenV_sl, Int.toNat_natCast, bft, btf, gtst, st_len, Nat.reduceAdd, Int.cast_ofNat_Int, cond_true, cond_false, Nat.reduceBEq, Nat.reduceLT, decide_true, beq_self_eq_true, if_true, if_false, Int.cast_ofNat_Int], by simp (maxSteps := 10000000) (disch := omega) only [ kp.l, kp.t11, kp.t12, kp.t13, kp.t14, kp.t22, kp.t23, kp.t27, kp.t29, lenV_sl, Int.toNat_natCast, bft, btf, gtst, st_len, Nat.reduceAdd, Int.cast_ofNat_Int, cond_true, cond_false, Nat.reduceBEq, Nat.reduceLT, decide_true, beq_self_eq_true, if_true, if_false, Int.cast_ofNat_Int], by simp (maxSteps := 10000000) (disch := omega) only [ kp.l, kp.t11, kp.t12, kp.t13, kp.t14, kp.t22, kp.t23, kp.t27, kp.t29, lenV_sl, Int.toNat_natCast, bft, btf, gtst, st_len, Nat.reduceAdd, Int.cast_ofNat_Int, cond_true, cond_false, Nat.reduceBEq, Nat.reduceLT, decide_true, beq_self_eq_true, if_true, if_false, Int.cast_ofNat_Int], by simp (maxSteps := 10000000) (disch := omega) only [ kp.l, kp.t11, kp.t12, kp.t13, kp.t14, kp.t22, kp.t23, kp.t27, kp.t29, lenV_sl, Int.toNat_natCast, bft, btf, gtst, st_len, Nat.reduceAdd, Int.cast_ofNat_Int, cond_true, cond_false, Nat.reduceBEq, Nat.reduceLT, decide_true, beq_self_eq_true, if_true, if_false, Int.cast_ofNat_Int], by simp (maxSteps := 10000000) (disch := omega) only [ kp.l, kp.t11, kp.t12, kp.t13, kp.t14, kp.t22, kp.t23, kp.t27, kp.t29, lenV_sl, Int.toNat_natCast, bft, btf, gtst, st_len, Nat.reduceAdd, Int.cast_ofNat_Int, cond_true, cond_false, Nat.reduceBEq, Nat.reduceLT, decide_true, beq_self_eq_true, if_true, if_false, Int.cast_ofNat_Int], by simp (maxSteps := 10000000) (disch := omega) only [ kp.l, kp.t11, kp.t12, kp.t13, kp.t14, kp.t22, kp.t23, kp.t27, kp.t29, lenV_sl, Int.toNat_natCast, bft, btf, gtst, st_len, Nat.reduceAdd, Int.cast_ofNat_Int, cond_true, cond_false, Nat.reduceBEq, Nat.reduceLT, decide_true, beq_self_eq_true, if_true, if_false, Int.cast_ofNat_Int], by simp (maxSteps := 10000000) (disch := omega) only [ kp.l, kp.t11, kp.t12, kp.t13, kp.t14, kp.t22, kp.t23, kp.t27, kp.t29, lenV_sl, Int.toNat_natCast, bft, btf, gtst, st_len, Nat.reduceAdd, Int.cast_ofNat_Int, cond_true, cond_false, Nat.reduceBEq, Nat.reduceLT, decide_true, beq_self_eq_true, if_true, if_false, Int.cast_ofNat_Int], by simp (maxSteps := 10000000) (disch := omega) only [ kp.l, kp.t11, kp.t12, kp.t13, kp.t14, kp.t22, kp.t23, kp.t27, kp.t29, lenV_sl, Int.toNat_natCast, bft, btf, gtst, st_len, Nat.reduceAdd, Int.cast_ofNat_Int, cond_true, cond_false, Nat.reduceBEq, Nat.reduceLT, decide_true, beq_self_eq_true, if_true, if_false, Int.cast_ofNat_Int], by simp (maxSteps := 10000000) (disch := omega) only [ kp.l, kp.t11, kp.t12, kp.t13, kp.t14, kp.t22, kp.t23, kp.t27, kp.t29, lenV_sl, Int.toNat_natCast, bft, btf, gtst, st_len, Nat.reduceAdd, Int.cast_ofNat_Int, cond_true, cond_false, Nat.reduceBEq, Nat.reduceLT, decide_true, beq_self_eq_true, if_true, if_false, Int.cast_ofNat_Int], by simp (maxSteps := 10000000) (disch := omega) only [ kp.l, kp.t11, kp.t12, kp.t13, kp.t14, kp.t22, kp.t23, kp.t27, kp.t29, lenV_sl, Int.toNat_natCast, bft, btf, gtst, st_len, Nat.reduceAdd, Int.cast_ofNat_Int, cond_true, cond_false, Nat.reduceBEq, Nat.reduceLT, decide_true, beq_self_eq_true, if_true, if_false, Int.cast_ofNat_Int], by simp (maxSteps := 10000000) (disch := omega) only [ kp.l, kp.t11, kp.t12, kp.t13, kp.t14, kp.t22, kp.t23, kp.t27, kp.t29, lenV_sl, Int.toNat_natCast, bft, btf, gtst, st_len, Nat.reduceAdd, Int.cast_ofNat_Int, cond_true, cond_false, Nat.reduceBEq, Nat.reduceLT, decide_true, beq_self_eq_true, if_true, if_false, Int.cast_ofNat_Int]⟩ _ (by omega))
    simp only at g2 f2 lw kp2
    rw [← hm, wv_lay hin0 l.length (Nat.le_refl _), hx] at lw
    simp only [c2] at lw
    have lx2 := f2 _ _ lx1
    have bw := hB 0
    have rw_ := fun o n => rdB_none (o := o) (n := n) bw
    have r4 := (rX _ (fk.trans f2))
    clear kp
    have kp := kp2
    simp -implicitDefEqProofs (maxSteps := 10000000) (disch := omega) only [Tlaw16WlogTwice, Llaw16WlogTwice, Glaw16WlogTwice_9, V9_eq, Glaw16WlogTwice_law16Conf, Vlaw16Conf_eq, Glaw16WlogTwice_law16Memory, Glaw16WlogTwice_law16With, Glaw16WlogTwice_law16Writes, Glaw16WlogTwice_law16awake, Glaw16WlogTwice_law16pick, Vlaw16pick_eq, Glaw16WlogTwice_ref03Same, Glaw16WlogTwice_ref16Most, Vref16Most_eq, Glaw16WlogTwice_ref16Wipe, Glaw16WlogTwice_wlogLay, Glaw16WlogTwice_wlogPack, hB, hR, hI, lbTo, kp.l, kp.t11, kp.t12, kp.t13, kp.t14, kp.t22, kp.t23, kp.t27, kp.t29, kp.t33, kp.t34, lenV_sl, Int.toNat_natCast, bft, btf, gtst, st_len, lx2, bx, rx, hin, hinX, hin', i0, lw, bw, rw_, r4, bxx, pad, lightV, bt, bf, evs, gt, st, binV, arith, isSh, storeV, all1, idxAV, fieldV, faddrV, iaddrSV, iaddrAV, pickV, convV, unV, eqbV, eqpV, extV, mm2, mmV, nilckV, ress, res1, retV, Value.cells, reduceIte, reduceCtorEq, Int.reduceLT, Int.reduceLE, Int.reduceToNat, Int.reduceAdd, Int.reduceSub, Int.reduceMul, Int.reduceNeg, Nat.reduceMul, Nat.reduceAdd, Nat.reduceSub, Nat.reduceBEq, Nat.reduceEqDiff, Nat.reduceLT, Nat.reduceLeDiff, Int.reduceBEq, Int.reduceEq, Nat.reducePow, Int.reducePow, IntWalk.i64_in, IntKind.bits, eqAV, eqL, leafEq, andO, fillV, buildSV, Int.reduceGT, Int.reduceGE, Int.reduceBNe, IntWalk.u64_in, newsV_s, tassV, isnV, slcV, slcAV, slcTV, slcB, appNew, Option.bind_some, Option.bind_none, eqsV, lookV, mupdV, mdelV, mkM, ev1, ev2]
    refine ok_some (.inl ⟨rfl, M.length - (i + 1), by omega, _, H2, N2, i + 1, rfl, ⟨?_, ?_, ?_, ?_, ?_, ?_, ?_, ?_, ?_⟩, g2, fk.trans f2, by omega, rfl⟩)
    all_goals simp (maxSteps := 10000000) (disch := omega) only [kp.l, kp.t11, kp.t12, kp.t13, kp.t14, kp.t22, kp.t23, kp.t27, kp.t29, kp.t33, kp.t34, lenV_sl, Int.toNat_natCast, bft, btf, gtst, st_len, hc1, Nat.reduceAdd, Int.cast_ofNat_Int, cond_true, cond_false, Nat.reduceBEq, Nat.reduceLT, decide_true, beq_self_eq_true, if_true, if_false]
  obtain ⟨rfl, rfl⟩ : xw = uw ∧ xl = ul := by have := hux hr; simpa using this
  rcases (show k = 2 ∨ k = 4 ∨ k = 3 ∨ k = 0 ∨ k = 1 by omega) with rfl | rfl | rfl | rfl | rfl
  · have c2_ : (((2 : Nat) : Int) != 2) = false := rfl
    have c3_ : (((2 : Nat) : Int) != 3) = true := rfl
    simp -implicitDefEqProofs (maxSteps := 10000000) (disch := omega) only [Tlaw16WlogTwice, Llaw16WlogTwice, Glaw16WlogTwice_9, V9_eq, Glaw16WlogTwice_law16Conf, Vlaw16Conf_eq, Glaw16WlogTwice_law16Memory, Glaw16WlogTwice_law16With, Glaw16WlogTwice_law16Writes, Glaw16WlogTwice_law16awake, Glaw16WlogTwice_law16pick, Vlaw16pick_eq, Glaw16WlogTwice_ref03Same, Glaw16WlogTwice_ref16Most, Vref16Most_eq, Glaw16WlogTwice_ref16Wipe, Glaw16WlogTwice_wlogLay, Glaw16WlogTwice_wlogPack, hB, hR, hI, lbTo, kp.l, kp.t11, kp.t12, kp.t13, kp.t14, kp.t22, kp.t23, kp.t27, kp.t29, lenV_sl, Int.toNat_natCast, bft, btf, gtst, st_len, lc1, lm1, lx1, lu1, bc, rc, bm, rm, bx, rx, bu, ru, nc, nm, nx, nu, hlm, hin, hinX, hinU, hin', i0, r1, r2, r3, e9, bxx, c2_, c3_, bne_self_eq_false, pad, lightV, bt, bf, evs, gt, st, binV, arith, isSh, storeV, all1, idxAV, fieldV, faddrV, iaddrSV, iaddrAV, pickV, convV, unV, eqbV, eqpV, extV, mm2, mmV, nilckV, ress, res1, retV, Value.cells, reduceIte, reduceCtorEq, Int.reduceLT, Int.reduceLE, Int.reduceToNat, Int.reduceAdd, Int.reduceSub, Int.reduceMul, Int.reduceNeg, Nat.reduceMul, Nat.reduceAdd, Nat.reduceSub, Nat.reduceBEq, Nat.reduceEqDiff, Nat.reduceLT, Nat.reduceLeDiff, Int.reduceBEq, Int.reduceEq, Nat.reducePow, Int.reducePow, IntWalk.i64_in, IntKind.bits, eqAV, eqL, leafEq, andO, fillV, buildSV, Int.reduceGT, Int.reduceGE, Int.reduceBNe, IntWalk.u64_in, newsV_s, tassV, isnV, slcV, slcAV, slcTV, slcB, appNew, Option.bind_some, Option.bind_none, eqsV, lookV, mupdV, mdelV, mkM, ev1, ev2]
    generalize hX : exec B _ _ (LC.loop _) _ = o
    obtain ⟨y, ⟨ts2, H2, N2⟩, rfl, rfl, g2, f2, lw, kp2⟩ := (show Ok o _ by rw [← hX]; exact main _ ⟨by simp (maxSteps := 10000000) (disch := omega) only [ kp.l, kp.t11, kp.t12, kp.t13, kp.t14, kp.t22, kp.t23, kp.t27, kp.t29, lenV_sl, Int.toNat_natCast, bft, btf, gtst, st_len, Nat.reduceAdd, Int.cast_ofNat_Int, cond_true, cond_false, Nat.reduceBEq, Nat.reduceLT, decide_true, beq_self_eq_true, if_true, if_false, Int.cast_ofNat_Int], by simp (maxSteps := 10000000) (disch := omega) only [ kp.l, kp.t11, kp.t12, kp.t13, kp.t14, kp.t22, kp.t23, kp.t27, kp.t29, lenV_sl, Int.toNat_natCast, bft, btf, gtst, st_len, Nat.reduceAdd, Int.cast_ofNat_Int, cond_true, cond_false, Nat.reduceBEq, Nat.reduceLT, decide_true, beq_self_eq_true, if_true, if_false, Int.cast_ofNat_Int], by simp (maxSteps := 10000000) (disch := omega) only [ kp.l, kp.t11, kp.t12, kp.t13, kp.t14, kp.t22, kp.t23, kp.t27, kp.t29, lenV_sl, Int.toNat_natCast, bft, btf, gtst, st_len, Nat.reduceAdd, Int.cast_ofNat_Int, cond_true, cond_false, Nat.reduceBEq, Nat.reduceLT, decide_true, beq_self_eq_true, if_true, if_false, Int.cast_ofNat_Int], by simp (maxSteps := 10000000) (disch := omega) only [ kp.l, kp.t11, kp.t12, kp.t13, kp.t14, kp.t22, kp.t23, kp.t27, kp.t29, lenV_sl, Int.toNat_natCast, bft, btf, gtst, st_len, Nat.reduceAdd, Int.cast_ofNat_Int, cond_true, cond_false, Nat.reduceBEq, Nat.reduceLT, decide_true, beq_self_eq_true, if_true, if_false, Int.cast_ofNat_Int], by simp (maxSteps := 10000000) (disch := omega) only [ kp.l, kp.t11, kp.t12, kp.t13, kp.t14, kp.t22, kp.t23, kp.t27, kp.t29, lenV_sl, Int.toNat_natCast, bft, btf, gtst, st_len, Nat.reduceAdd, Int.cast_ofNat_Int, cond_true, cond_false, Nat.reduceBEq, Nat.reduceLT, decide_true, beq_self_eq_true, if_true, if_false, Int.cast_ofNat_Int], by simp (maxSteps := 10000000) (disch := omega) only [ kp.l, kp.t11, kp.t12, kp.t13, kp.t14, kp.t22, kp.t23, kp.t27, kp.t29, lenV_sl, Int.toNat_natCast, bft, btf, gtst, st_len, Nat.reduceAdd, Int.cast_ofNat_Int, cond_true, cond_false, Nat.reduceBEq, Nat.reduceLT, decide_true, beq_self_eq_true, if_true, if_false, Int.cast_ofNat_Int], by simp (maxSteps := 10000000) (disch := omega) only [ kp.l, kp.t11, kp.t12, kp.t13, kp.t14, kp.t22, kp.t23, kp.t27, kp.t29, lenV_sl, Int.toNat_natCast, bft, btf, gtst, st_len, Nat.reduceAdd, Int.cast_ofNat_Int, cond_true, cond_false, Nat.reduceBEq, Nat.reduceLT, decide_true, beq_self_eq_true, if_true, if_false, Int.cast_ofNat_Int], by simp (maxSteps := 10000000) (disch := omega) only [ kp.l, kp.t11, kp.t12, kp.t13, kp.t14, kp.t22, kp.t23, kp.t27, kp.t29, lenV_sl, Int.toNat_natCast, bft, btf, gtst, st_len, Nat.reduceAdd, Int.cast_ofNat_Int, cond_true, cond_false, Nat.reduceBEq, Nat.reduceLT, decide_true, beq_self_eq_true, if_true, if_false, Int.cast_ofNat_Int], by simp (maxSteps := 10000000) (disch := omega) only [ kp.l, kp.t11, kp.t12, kp.t13, kp.t14, kp.t22, kp.t23, kp.t27, kp.t29, lenV_sl, Int.toNat_natCast, bft, btf, gtst, st_len, Nat.reduceAdd, Int.cast_ofNat_Int, cond_true, cond_false, Nat.reduceBEq, Nat.reduceLT, decide_true, beq_self_eq_true, if_true, if_false, Int.cast_ofNat_Int], by simp (maxSteps := 10000000) (disch := omega) only [ kp.l, kp.t11, kp.t12, kp.t13, kp.t14, kp.t22, kp.t23, kp.t27, kp.t29, lenV_sl, Int.toNat_natCast, bft, btf, gtst, st_len, Nat.reduceAdd, Int.cast_ofNat_Int, cond_true, cond_false, Nat.reduceBEq, Nat.reduceLT, decide_true, beq_self_eq_true, if_true, if_false, Int.cast_ofNat_Int], by simp (maxSteps := 10000000) (disch := omega) only [ kp.l, kp.t11, kp.t12, kp.t13, kp.t14, kp.t22, kp.t23, kp.t27, kp.t29, lenV_sl, Int.toNat_natCast, bft, btf, gtst, st_len, Nat.reduceAdd, Int.cast_ofNat_Int, cond_true, cond_false, Nat.reduceBEq, Nat.reduceLT, decide_true, beq_self_eq_true, if_true, if_false, Int.cast_ofNat_Int]⟩ _ (by omega))
    simp only at g2 f2 lw kp2
    rw [← hm, wv_lay hin0 l.length (Nat.le_refl _), hx] at lw
    simp only [c2] at lw
    have lx2 := f2 _ _ lx1
    have bw := hB 0
    have rw_ := fun o n => rdB_none (o := o) (n := n) bw
    have r4 := (rX _ (fk.trans f2))
    clear kp
    have kp := kp2
    simp -implicitDefEqProofs (maxSteps := 10000000) (disch := omega) only [Tlaw16WlogTwice, Llaw16WlogTwice, Glaw16WlogTwice_9, V9_eq, Glaw16WlogTwice_law16Conf, Vlaw16Conf_eq, Glaw16WlogTwice_law16Memory, Glaw16WlogTwice_law16With, Glaw16WlogTwice_law16Writes, Glaw16WlogTwice_law16awake, Glaw16WlogTwice_law16pick, Vlaw16pick_eq, Glaw16WlogTwice_ref03Same, Glaw16WlogTwice_ref16Most, Vref16Most_eq, Glaw16WlogTwice_ref16Wipe, Glaw16WlogTwice_wlogLay, Glaw16WlogTwice_wlogPack, hB, hR, hI, lbTo, kp.l, kp.t11, kp.t12, kp.t13, kp.t14, kp.t22, kp.t23, kp.t27, kp.t29, kp.t33, kp.t34, lenV_sl, Int.toNat_natCast, bft, btf, gtst, st_len, lx2, bx, rx, hin, hinX, hin', i0, lw, bw, rw_, r4, bxx, pad, lightV, bt, bf, evs, gt, st, binV, arith, isSh, storeV, all1, idxAV, fieldV, faddrV, iaddrSV, iaddrAV, pickV, convV, unV, eqbV, eqpV, extV, mm2, mmV, nilckV, ress, res1, retV, Value.cells, reduceIte, reduceCtorEq, Int.reduceLT, Int.reduceLE, Int.reduceToNat, Int.reduceAdd, Int.reduceSub, Int.reduceMul, Int.reduceNeg, Nat.reduceMul, Nat.reduceAdd, Nat.reduceSub, Nat.reduceBEq, Nat.reduceEqDiff, Nat.reduceLT, Nat.reduceLeDiff, Int.reduceBEq, Int.reduceEq, Nat.reducePow, Int.reducePow, IntWalk.i64_in, IntKind.bits, eqAV, eqL, leafEq, andO, fillV, buildSV, Int.reduceGT, Int.reduceGE, Int.reduceBNe, IntWalk.u64_in, newsV_s, tassV, isnV, slcV, slcAV, slcTV, slcB, appNew, Option.bind_some, Option.bind_none, eqsV, lookV, mupdV, mdelV, mkM, ev1, ev2]
    refine ok_some (.inl ⟨rfl, M.length - (i + 1), by omega, _, H2, N2, i + 1, rfl, ⟨?_, ?_, ?_, ?_, ?_, ?_, ?_, ?_, ?_⟩, g2, fk.trans f2, by omega, rfl⟩)
    all_goals simp (maxSteps := 10000000) (disch := omega) only [kp.l, kp.t11, kp.t12, kp.t13, kp.t14, kp.t22, kp.t23, kp.t27, kp.t29, kp.t33, kp.t34, lenV_sl, Int.toNat_natCast, bft, btf, gtst, st_len, hc1, Nat.reduceAdd, Int.cast_ofNat_Int, cond_true, cond_false, Nat.reduceBEq, Nat.reduceLT, decide_true, beq_self_eq_true, if_true, if_false]
  · have c2_ : (((4 : Nat) : Int) != 2) = true := rfl
    have c3_ : (((4 : Nat) : Int) != 3) = true := rfl
    have c4_ : (((4 : Nat) : Int) != 4) = false := rfl
    simp -implicitDefEqProofs (maxSteps := 10000000) (disch := omega) only [Tlaw16WlogTwice, Llaw16WlogTwice, Glaw16WlogTwice_9, V9_eq, Glaw16WlogTwice_law16Conf, Vlaw16Conf_eq, Glaw16WlogTwice_law16Memory, Glaw16WlogTwice_law16With, Glaw16WlogTwice_law16Writes, Glaw16WlogTwice_law16awake, Glaw16WlogTwice_law16pick, Vlaw16pick_eq, Glaw16WlogTwice_ref03Same, Glaw16WlogTwice_ref16Most, Vref16Most_eq, Glaw16WlogTwice_ref16Wipe, Glaw16WlogTwice_wlogLay, Glaw16WlogTwice_wlogPack, hB, hR, hI, lbTo, kp.l, kp.t11, kp.t12, kp.t13, kp.t14, kp.t22, kp.t23, kp.t27, kp.t29, lenV_sl, Int.toNat_natCast, bft, btf, gtst, st_len, lc1, lm1, lx1, lu1, bc, rc, bm, rm, bx, rx, bu, ru, nc, nm, nx, nu, hlm, hin, hinX, hinU, hin', i0, r1, r2, r3, e9, bxx, c2_, c3_, c4_, bne_self_eq_false, pad, lightV, bt, bf, evs, gt, st, binV, arith, isSh, storeV, all1, idxAV, fieldV, faddrV, iaddrSV, iaddrAV, pickV, convV, unV, eqbV, eqpV, extV, mm2, mmV, nilckV, ress, res1, retV, Value.cells, reduceIte, reduceCtorEq, Int.reduceLT, Int.reduceLE, Int.reduceToNat, Int.reduceAdd, Int.reduceSub, Int.reduceMul, Int.reduceNeg, Nat.reduceMul, Nat.reduceAdd, Nat.reduceSub, Nat.reduceBEq, Nat.reduceEqDiff, Nat.reduceLT, Nat.reduceLeDiff, Int.reduceBEq, Int.reduceEq, Nat.reducePow, Int.reducePow, IntWalk.i64_in, IntKind.bits, eqAV, eqL, leafEq, andO, fillV, buildSV, Int.reduceGT, Int.reduceGE, Int.reduceBNe, IntWalk.u64_in, newsV_s, tassV, isnV, slcV, slcAV, slcTV, slcB, appNew, Option.bind_some, Option.bind_none, eqsV, lookV, mupdV, mdelV, mkM, ev1, ev2]
    generalize hX : exec B _ _ (LC.loop _) _ = o
    obtain ⟨y, ⟨ts2, H2, N2⟩, rfl, rfl, g2, f2, lw, kp2⟩ := (show Ok o _ by rw [← hX]; exact main _ ⟨by simp (maxSteps := 10000000) (disch := omega) only [ kp.l, kp.t11, kp.t12, kp.t13, kp.t14, kp.t22, kp.t23, kp.t27, kp.t29, lenV_sl, Int.toNat_natCast, bft, btf, gtst, st_len, Nat.reduceAdd, Int.cast_ofNat_Int, cond_true, cond_false, Nat.reduceBEq, Nat.reduceLT, decide_true, beq_self_eq_true, if_true, if_false, Int.cast_ofNat_Int], by simp (maxSteps := 10000000) (disch := omega) only [ kp.l, kp.t11, kp.t12, kp.t13, kp.t14, kp.t22, kp.t23, kp.t27, kp.t29, lenV_sl, Int.toNat_natCast, bft, btf, gtst, st_len, Nat.reduceAdd, Int.cast_ofNat_Int, cond_true, cond_false, Nat.reduceBEq, Nat.reduceLT, decide_true, beq_self_eq_true, if_true, if_false, Int.cast_ofNat_Int], by simp (maxSteps := 10000000) (disch := omega) only [ kp.l, kp.t11, kp.t12, kp.t13, kp.t14, kp.t22, kp.t23, kp.t27, kp.t29, lenV_sl, Int.toNat_natCast, bft, btf, gtst, st_len, Nat.reduceAdd, Int.cast_ofNat_Int, cond_true, cond_false, Nat.reduceBEq, Nat.reduceLT, decide_true, beq_self_eq_true, if_true, if_false, Int.cast_ofNat_Int], by simp (maxSteps := 10000000) (disch := omega) only [ kp.l, kp.t11, kp.t12, kp.t13, kp.t14, kp.t22, kp.t23, kp.t27, kp.t29, lenV_sl, Int.toNat_natCast, bft, btf, gtst, st_len, Nat.reduceAdd, Int.cast_ofNat_Int, cond_true, cond_false, Nat.reduceBEq, Nat.reduceLT, decide_true, beq_self_eq_true, if_true, if_false, Int.cast_ofNat_Int], by simp (maxSteps := 10000000) (disch := omega) only [ kp.l, kp.t11, kp.t12, kp.t13, kp.t14, kp.t22, kp.t23, kp.t27, kp.t29, lenV_sl, Int.toNat_natCast, bft, btf, gtst, st_len, Nat.reduceAdd, Int.cast_ofNat_Int, cond_true, cond_false, Nat.reduceBEq, Nat.reduceLT, decide_true, beq_self_eq_true, if_true, if_false, Int.cast_ofNat_Int], by simp (maxSteps := 10000000) (disch := omega) only [ kp.l, kp.t11, kp.t12, kp.t13, kp.t14, kp.t22, kp.t23, kp.t27, kp.t29, lenV_sl, Int.toNat_natCast, bft, btf, gtst, st_len, Nat.reduceAdd, Int.cast_ofNat_Int, cond_true, cond_false, Nat.reduceBEq, Nat.reduceLT, decide_true, beq_self_eq_true, if_true, if_false, Int.cast_ofNat_Int], by simp (maxSteps := 10000000) (disch := omega) only [ kp.l, kp.t11, kp.t12, kp.t13, kp.t14, kp.t22, kp.t23, kp.t27, kp.t29, lenV_sl, Int.toNat_natCast, bft, btf, gtst, st_len, Nat.reduceAdd, Int.cast_ofNat_Int, cond_true, cond_false, Nat.reduceBEq, Nat.reduceLT, decide_true, beq_self_eq_true, if_true, if_false, Int.cast_ofNat_Int], by simp (maxSteps := 10000000) (disch := omega) only [ kp.l, kp.t11, kp.t12, kp.t13, kp.t14, kp.t22, kp.t23, kp.t27, kp.t29, lenV_sl, Int.toNat_natCast, bft, btf, gtst, st_len, Nat.reduceAdd, Int.cast_ofNat_Int, cond_true, cond_false, Nat.reduceBEq, Nat.reduceLT, decide_true, beq_self_eq_true, if_true, if_false, Int.cast_ofNat_Int], by simp (maxSteps := 10000000) (disch := omega) only [ kp.l, kp.t11, kp.t12, kp.t13, kp.t14, kp.t22, kp.t23, kp.t27, kp.t29, lenV_sl, Int.toNat_natCast, bft, btf, gtst, st_len, Nat.reduceAdd, Int.cast_ofNat_Int, cond_true, cond_false, Nat.reduceBEq, Nat.reduceLT, decide_true, beq_self_eq_true, if_true, if_false, Int.cast_ofNat_Int], by simp (maxSteps := 10000000) (disch := omega) only [ kp.l, kp.t11, kp.t12, kp.t13, kp.t14, kp.t22, kp.t23, kp.t27, kp.t29, lenV_sl, Int.toNat_natCast, bft, btf, gtst, st_len, Nat.reduceAdd, Int.cast_ofNat_Int, cond_true, cond_false, Nat.reduceBEq, Nat.reduceLT, decide_true, beq_self_eq_true, if_true, if_false, Int.cast_ofNat_Int], by simp (maxSteps := 10000000) (disch := omega) only [ kp.l, kp.t11, kp.t12, kp.t13, kp.t14, kp.t22, kp.t23, kp.t27, kp.t29, lenV_sl, Int.toNat_natCast, bft, btf, gtst, st_len, Nat.reduceAdd, Int.cast_ofNat_Int, cond_true, cond_false, Nat.reduceBEq, Nat.reduceLT, decide_true, beq_self_eq_true, if_true, if_false, Int.cast_ofNat_Int]⟩ _ (by omega))
    simp only at g2 f2 lw kp2
    rw [← hm, wv_lay hin0 l.length (Nat.le_refl _), hx] at lw
    simp only [c2] at lw
    have lx2 := f2 _ _ lx1
    have bw := hB 0
    have rw_ := fun o n => rdB_none (o := o) (n := n) bw
    have r4 := (rX _ (fk.trans f2))
    clear kp
    have kp := kp2
    simp -implicitDefEqProofs (maxSteps := 10000000) (disch := omega) only [Tlaw16WlogTwice, Llaw16WlogTwice, Glaw16WlogTwice_9, V9_eq, Glaw16WlogTwice_law16Conf, Vlaw16Conf_eq, Glaw16WlogTwice_law16Memory, Glaw16WlogTwice_law16With, Glaw16WlogTwice_law16Writes, Glaw16WlogTwice_law16awake, Glaw16WlogTwice_law16pick, Vlaw16pick_eq, Glaw16WlogTwice_ref03Same, Glaw16WlogTwice_ref16Most, Vref16Most_eq, Glaw16WlogTwice_ref16Wipe, Glaw16WlogTwice_wlogLay, Glaw16WlogTwice_wlogPack, hB, hR, hI, lbTo, kp.l, kp.t11, kp.t12, kp.t13, kp.t14, kp.t22, kp.t23, kp.t27, kp.t29, kp.t33, kp.t34, lenV_sl, Int.toNat_natCast, bft, btf, gtst, st_len, lx2, bx, rx, hin, hinX, hin', i0, lw, bw, rw_, r4, bxx, pad, lightV, bt, bf, evs, gt, st, binV, arith, isSh, storeV, all1, idxAV, fieldV, faddrV, iaddrSV, iaddrAV, pickV, convV, unV, eqbV, eqpV, extV, mm2, mmV, nilckV, ress, res1, retV, Value.cells, reduceIte, reduceCtorEq, Int.reduceLT, Int.reduceLE, Int.reduceToNat, Int.reduceAdd, Int.reduceSub, Int.reduceMul, Int.reduceNeg, Nat.reduceMul, Nat.reduceAdd, Nat.reduceSub, Nat.reduceBEq, Nat.reduceEqDiff, Nat.reduceLT, Nat.reduceLeDiff, Int.reduceBEq, Int.reduceEq, Nat.reducePow, Int.reducePow, IntWalk.i64_in, IntKind.bits, eqAV, eqL, leafEq, andO, fillV, buildSV, Int.reduceGT, Int.reduceGE, Int.reduceBNe, IntWalk.u64_in, newsV_s, tassV, isnV, slcV, slcAV, slcTV, slcB, appNew, Option.bind_some, Option.bind_none, eqsV, lookV, mupdV, mdelV, mkM, ev1, ev2]
    refine ok_some (.inl ⟨rfl, M.length - (i + 1), by omega, _, H2, N2, i + 1, rfl, ⟨?_, ?_, ?_, ?_, ?_, ?_, ?_, ?_, ?_⟩, g2, fk.trans f2, by omega, rfl⟩)
    all_goals simp (maxSteps := 10000000) (disch := omega) only [kp.l, kp.t11, kp.t12, kp.t13, kp.t14, kp.t22, kp.t23, kp.t27, kp.t29, kp.t33, kp.t34, lenV_sl, Int.toNat_natCast, bft, btf, gtst, st_len, hc1, Nat.reduceAdd, Int.cast_ofNat_Int, cond_true, cond_false, Nat.reduceBEq, Nat.reduceLT, decide_true, beq_self_eq_true, if_true, if_false]
  · obtain ⟨rfl, rfl⟩ : xw = mw ∧ xl = ml := by have := hnot (by omega); simpa using this
    have c2_ : (((3 : Nat) : Int) != 2) = true := rfl
    have c3_ : (((3 : Nat) : Int) != 3) = false := rfl
    have c4_ : (((3 : Nat) : Int) != 4) = true := rfl
    have c5_ : ((o : Int) != (q : Int)) = true := by
      have : ¬ (o : Int) = (q : Int) := fun h' => hr (hko.1 ⟨rfl, by omega⟩)
      simpa using this
    simp -implicitDefEqProofs (maxSteps := 10000000) (disch := omega) only [Tlaw16WlogTwice, Llaw16WlogTwice, Glaw16WlogTwice_9, V9_eq, Glaw16WlogTwice_law16Conf, Vlaw16Conf_eq, Glaw16WlogTwice_law16Memory, Glaw16WlogTwice_law16With, Glaw16WlogTwice_law16Writes, Glaw16WlogTwice_law16awake, Glaw16WlogTwice_law16pick, Vlaw16pick_eq, Glaw16WlogTwice_ref03Same, Glaw16WlogTwice_ref16Most, Vref16Most_eq, Glaw16WlogTwice_ref16Wipe, Glaw16WlogTwice_wlogLay, Glaw16WlogTwice_wlogPack, hB, hR, hI, lbTo, kp.l, kp.t11, kp.t12, kp.t13, kp.t14, kp.t22, kp.t23, kp.t27, kp.t29, lenV_sl, Int.toNat_natCast, bft, btf, gtst, st_len, lc1, lm1, lx1, lu1, bc, rc, bm, rm, bx, rx, bu, ru, nc, nm, nx, nu, hlm, hin, hinX, hinU, hin', i0, r1, r2, r3, e9, bxx, c2_, c3_, c4_, c5_, bne_self_eq_false, pad, lightV, bt, bf, evs, gt, st, binV, arith, isSh, storeV, all1, idxAV, fieldV, faddrV, iaddrSV, iaddrAV, pickV, convV, unV, eqbV, eqpV, extV, mm2, mmV, nilckV, ress, res1, retV, Value.cells, reduceIte, reduceCtorEq, Int.reduceLT, Int.reduceLE, Int.reduceToNat, Int.reduceAdd, Int.reduceSub, Int.reduceMul, Int.reduceNeg, Nat.reduceMul, Nat.reduceAdd, Nat.reduceSub, Nat.reduceBEq, Nat.reduceEqDiff, Nat.reduceLT, Nat.reduceLeDiff, Int.reduceBEq, Int.reduceEq, Nat.reducePow, Int.reducePow, IntWalk.i64_in, IntKind.bits, eqAV, eqL, leafEq, andO, fillV, buildSV, Int.reduceGT, Int.reduceGE, Int.reduceBNe, IntWalk.u64_in, newsV_s, tassV, isnV, slcV, slcAV, slcTV, slcB, appNew, Option.bind_some, Option.bind_none, eqsV, lookV, mupdV, mdelV, mkM, ev1, ev2]
    generalize hX : exec B _ _ (LC.loop _) _ = o
    obtain ⟨y, ⟨ts2, H2, N2⟩, rfl, rfl, g2, f2, lw, kp2⟩ := (show Ok o _ by rw [← hX]; exact main _ ⟨by simp (maxSteps := 10000000) (disch := omega) only [ kp.l, kp.t11, kp.t12, kp.t13, kp.t14, kp.t22, kp.t23, kp.t27, kp.t29, lenV_sl, Int.toNat_natCast, bft, btf, gtst, st_len, Nat.reduceAdd, Int.cast_ofNat_Int, cond_true, cond_false, Nat.reduceBEq, Nat.reduceLT, decide_true, beq_self_eq_true, if_true, if_false, Int.cast_ofNat_Int], by simp (maxSteps := 10000000) (disch := omega) only [ kp.l, kp.t11, kp.t12, kp.t13, kp.t14, kp.t22, kp.t23, kp.t27, kp.t29, lenV_sl, Int.toNat_natCast, bft, btf, gtst, st_len, Nat.reduceAdd, Int.cast_ofNat_Int, cond_true, cond_false, Nat.reduceBEq, Nat.reduceLT, decide_true, beq_self_eq_true, if_true, if_false, Int.cast_ofNat_Int], by simp (maxSteps := 10000000) (disch := omega) only [ kp.l, kp.t11, kp.t12, kp.t13, kp.t14, kp.t22, kp.t23, kp.t27, kp.t29, lenV_sl, Int.toNat_natCast, bft, btf, gtst, st_len, Nat.reduceAdd, Int.cast_ofNat_Int, cond_true, cond_false, Nat.reduceBEq, Nat.reduceLT, decide_true, beq_self_eq_true, if_true, if_false, Int.cast_ofNat_Int], by simp (maxSteps := 10000000) (disch := omega) only [ kp.l, kp.t11, kp.t12, kp.t13, kp.t14, kp.t22, kp.t23, kp.t27, kp.t29, lenV_sl, Int.toNat_natCast, bft, btf, gtst, st_len, Nat.reduceAdd, Int.cast_ofNat_Int, cond_true, cond_false, Nat.reduceBEq, Nat.reduceLT, decide_true, beq_self_eq_true, if_true, if_false, Int.cast_ofNat_Int], by simp (maxSteps := 10000000) (disch := omega) only [ kp.l, kp.t11, kp.t12, kp.t13, kp.t14, kp.t22, kp.t23, kp.t27, kp.t29, lenV_sl, Int.toNat_natCast, bft, btf, gtst, st_len, Nat.reduceAdd, Int.cast_ofNat_Int, cond_true, cond_false, Nat.reduceBEq, Nat.reduceLT, decide_true, beq_self_eq_true, if_true, if_false, Int.cast_ofNat_Int], by simp (maxSteps := 10000000) (disch := omega) only [ kp.l, kp.t11, kp.t12, kp.t13, kp.t14, kp.t22, kp.t23, kp.t27, kp.t29, lenV_sl, Int.toNat_natCast, bft, btf, gtst, st_len, Nat.reduceAdd, Int.cast_ofNat_Int, cond_true, cond_false, Nat.reduceBEq, Nat.reduceLT, decide_true, beq_self_eq_true, if_true, if_false, Int.cast_ofNat_Int], by simp (maxSteps := 10000000) (disch := omega) only [ kp.l, kp.t11, kp.t12, kp.t13, kp.t14, kp.t22, kp.t23, kp.t27, kp.t29, lenV_sl, Int.toNat_natCast, bft, btf, gtst, st_len, Nat.reduceAdd, Int.cast_ofNat_Int, cond_true, cond_false, Nat.reduceBEq, Nat.reduceLT, decide_true, beq_self_eq_true, if_true, if_false, Int.cast_ofNat_Int], by simp (maxSteps := 10000000) (disch := omega) only [ kp.l, kp.t11, kp.t12, kp.t13, kp.t14, kp.t22, kp.t23, kp.t27, kp.t29, lenV_sl, Int.toNat_natCast, bft, btf, gtst, st_len, Nat.reduceAdd, Int.cast_ofNat_Int, cond_true, cond_false, Nat.reduceBEq, Nat.reduceLT, decide_true, beq_self_eq_true, if_true, if_false, Int.cast_ofNat_Int], by simp (maxSteps := 10000000) (disch := omega) only [ kp.l, kp.t11, kp.t12, kp.t13, kp.t14, kp.t22, kp.t23, kp.t27, kp.t29, lenV_sl, Int.toNat_natCast, bft, btf, gtst, st_len, Nat.reduceAdd, Int.cast_ofNat_Int, cond_true, cond_false, Nat.reduceBEq, Nat.reduceLT, decide_true, beq_self_eq_true, if_true, if_false, Int.cast_ofNat_Int], by simp (maxSteps := 10000000) (disch := omega) only [ kp.l, kp.t11, kp.t12, kp.t13, kp.t14, kp.t22, kp.t23, kp.t27, kp.t29, lenV_sl, Int.toNat_natCast, bft, btf, gtst, st_len, Nat.reduceAdd, Int.cast_ofNat_Int, cond_true, cond_false, Nat.reduceBEq, Nat.reduceLT, decide_true, beq_self_eq_true, if_true, if_false, Int.cast_ofNat_Int], by simp (maxSteps := 10000000) (disch := omega) only [ kp.l, kp.t11, kp.t12, kp.t13, kp.t14, kp.t22, kp.t23, kp.t27, kp.t29, lenV_sl, Int.toNat_natCast, bft, btf, gtst, st_len, Nat.reduceAdd, Int.cast_ofNat_Int, cond_true, cond_false, Nat.reduceBEq, Nat.reduceLT, decide_true, beq_self_eq_true, if_true, if_false, Int.cast_ofNat_Int]⟩ _ (by omega))
    simp only at g2 f2 lw kp2
    rw [← hm, wv_lay hin0 l.length (Nat.le_refl _), hx] at lw
    simp only [c2] at lw
    have lx2 := f2 _ _ lx1
    have bw := hB 0
    have rw_ := fun o n => rdB_none (o := o) (n := n) bw
    have r4 := (rX _ (fk.trans f2))
    clear kp
    have kp := kp2
    simp -implicitDefEqProofs (maxSteps := 10000000) (disch := omega) only [Tlaw16WlogTwice, Llaw16WlogTwice, Glaw16WlogTwice_9, V9_eq, Glaw16WlogTwice_law16Conf, Vlaw16Conf_eq, Glaw16WlogTwice_law16Memory, Glaw16WlogTwice_law16With, Glaw16WlogTwice_law16Writes, Glaw16WlogTwice_law16awake, Glaw16WlogTwice_law16pick, Vlaw16pick_eq, Glaw16WlogTwice_ref03Same, Glaw16WlogTwice_ref16Most, Vref16Most_eq, Glaw16WlogTwice_ref16Wipe, Glaw16WlogTwice_wlogLay, Glaw16WlogTwice_wlogPack, hB, hR, hI, lbTo, kp.l, kp.t11, kp.t12, kp.t13, kp.t14, kp.t22, kp.t23, kp.t27, kp.t29, kp.t33, kp.t34, lenV_sl, Int.toNat_natCast, bft, btf, gtst, st_len, lx2, bx, rx, hin, hinX, hin', i0, lw, bw, rw_, r4, bxx, pad, lightV, bt, bf, evs, gt, st, binV, arith, isSh, storeV, all1, idxAV, fieldV, faddrV, iaddrSV, iaddrAV, pickV, convV, unV, eqbV, eqpV, extV, mm2, mmV, nilckV, ress, res1, retV, Value.cells, reduceIte, reduceCtorEq, Int.reduceLT, Int.reduceLE, Int.reduceToNat, Int.reduceAdd, Int.reduceSub, Int.reduceMul, Int.reduceNeg, Nat.reduceMul, Nat.reduceAdd, Nat.reduceSub, Nat.reduceBEq, Nat.reduceEqDiff, Nat.reduceLT, Nat.reduceLeDiff, Int.reduceBEq, Int.reduceEq, Nat.reducePow, Int.reducePow, IntWalk.i64_in, IntKind.bits, eqAV, eqL, leafEq, andO, fillV, buildSV, Int.reduceGT, Int.reduceGE, Int.reduceBNe, IntWalk.u64_in, newsV_s, tassV, isnV, slcV, slcAV, slcTV, slcB, appNew, Option.bind_some, Option.bind_none, eqsV, lookV, mupdV, mdelV, mkM, ev1, ev2]
    refine ok_some (.inl ⟨rfl, M.length - (i + 1), by omega, _, H2, N2, i + 1, rfl, ⟨?_, ?_, ?_, ?_, ?_, ?_, ?_, ?_, ?_⟩, g2, fk.trans f2, by omega, rfl⟩)
    all_goals simp (maxSteps := 10000000) (disch := omega) only [kp.l, kp.t11, kp.t12, kp.t13, kp.t14, kp.t22, kp.t23, kp.t27, kp.t29, kp.t33, kp.t34, lenV_sl, Int.toNat_natCast, bft, btf, gtst, st_len, hc1, Nat.reduceAdd, Int.cast_ofNat_Int, cond_true, cond_false, Nat.reduceBEq, Nat.reduceLT, decide_true, beq_self_eq_true, if_true, if_false]
  · obtain ⟨rfl, rfl⟩ : xw = mw ∧ xl = ml := by have := hnot (by omega); simpa using this
    have c2_ : (((0 : Nat) : Int) != 2) = true := rfl
    have c3_ : (((0 : Nat) : Int) != 3) = true := rfl
    have c4_ : (((0 : Nat) : Int) != 4) = true := rfl
    simp -implicitDefEqProofs (maxSteps := 10000000) (disch := omega) only [Tlaw16WlogTwice, Llaw16WlogTwice, Glaw16WlogTwice_9, V9_eq, Glaw16WlogTwice_law16Conf, Vlaw16Conf_eq, Glaw16WlogTwice_law16Memory, Glaw16WlogTwice_law16With, Glaw16WlogTwice_law16Writes, Glaw16WlogTwice_law16awake, Glaw16WlogTwice_law16pick, Vlaw16pick_eq, Glaw16WlogTwice_ref03Same, Glaw16WlogTwice_ref16Most, Vref16Most_eq, Glaw16WlogTwice_ref16Wipe, Glaw16WlogTwice_wlogLay, Glaw16WlogTwice_wlogPack, hB, hR, hI, lbTo, kp.l, kp.t11, kp.t12, kp.t13, kp.t14, kp.t22, kp.t23, kp.t27, kp.t29, lenV_sl, Int.toNat_natCast, bft, btf, gtst, st_len, lc1, lm1, lx1, lu1, bc, rc, bm, rm, bx, rx, bu, ru, nc, nm, nx, nu, hlm, hin, hinX, hinU, hin', i0, r1, r2, r3, e9, bxx, c2_, c3_, c4_, bne_self_eq_false, pad, lightV, bt, bf, evs, gt, st, binV, arith, isSh, storeV, all1, idxAV, fieldV, faddrV, iaddrSV, iaddrAV, pickV, convV, unV, eqbV, eqpV, extV, mm2, mmV, nilckV, ress, res1, retV, Value.cells, reduceIte, reduceCtorEq, Int.reduceLT, Int.reduceLE, Int.reduceToNat, Int.reduceAdd, Int.reduceSub, Int.reduceMul, Int.reduceNeg, Nat.reduceMul, Nat.reduceAdd, Nat.reduceSub, Nat.reduceBEq, Nat.reduceEqDiff, Nat.reduceLT, Nat.reduceLeDiff, Int.reduceBEq, Int.reduceEq, Nat.reducePow, Int.reducePow, IntWalk.i64_in, IntKind.bits, eqAV, eqL, leafEq, andO, fillV, buildSV, Int.reduceGT, Int.reduceGE, Int.reduceBNe, IntWalk.u64_in, newsV_s, tassV, isnV, slcV, slcAV, slcTV, slcB, appNew, Option.bind_some, Option.bind_none, eqsV, lookV, mupdV, mdelV, mkM, ev1, ev2]
    generalize hX : exec B _ _ (LC.loop _) _ = o
    obtain ⟨y, ⟨ts2, H2, N2⟩, rfl, rfl, g2, f2, lw, kp2⟩ := (show Ok o _ by rw [← hX]; exact main _ ⟨by simp (maxSteps := 10000000) (disch := omega) only [ kp.l, kp.t11, kp.t12, kp.t13, kp.t14, kp.t22, kp.t23, kp.t27, kp.t29, lenV_sl, Int.toNat_natCast, bft, btf, gtst, st_len, Nat.reduceAdd, Int.cast_ofNat_Int, cond_true, cond_false, Nat.reduceBEq, Nat.reduceLT, decide_true, beq_self_eq_true, if_true, if_false, Int.cast_ofNat_Int], by simp (maxSteps := 10000000) (disch := omega) only [ kp.l, kp.t11, kp.t12, kp.t13, kp.t14, kp.t22, kp.t23, kp.t27, kp.t29, lenV_sl, Int.toNat_natCast, bft, btf, gtst, st_len, Nat.reduceAdd, Int.cast_ofNat_Int, cond_true, cond_false, Nat.reduceBEq, Nat.reduceLT, decide_true, beq_self_eq_true, if_true, if_false, Int.cast_ofNat_Int], by simp (maxSteps := 10000000) (disch := omega) only [ kp.l, kp.t11, kp.t12, kp.t13, kp.t14, kp.t22, kp.t23, kp.t27, kp.t29, lenV_sl, Int.toNat_natCast, bft, btf, gtst, st_len, Nat.reduceAdd, Int.cast_ofNat_Int, cond_true, cond_false, Nat.reduceBEq, Nat.reduceLT, decide_true, beq_self_eq_true, if_true, if_false, Int.cast_ofNat_Int], by simp (maxSteps := 10000000) (disch := omega) only [ kp.l, kp.t11, kp.t12, kp.t13, kp.t14, kp.t22, kp.t23, kp.t27, kp.t29, lenV_sl, Int.toNat_natCast, bft, btf, gtst, st_len, Nat.reduceAdd, Int.cast_ofNat_Int, cond_true, cond_false, Nat.reduceBEq, Nat.reduceLT, decide_true, beq_self_eq_true, if_true, if_false, Int.cast_ofNat_Int], by simp (maxSteps := 10000000) (disch := omega) only [ kp.l, kp.t11, kp.t12, kp.t13, kp.t14, kp.t22, kp.t23, kp.t27, kp.t29, lenV_sl, Int.toNat_natCast, bft, btf, gtst, st_len, Nat.reduceAdd, Int.cast_ofNat_Int, cond_true, cond_false, Nat.reduceBEq, Nat.reduceLT, decide_true, beq_self_eq_true, if_true, if_false, Int.cast_ofNat_Int], by simp (maxSteps := 10000000) (disch := omega) only [ kp.l, kp.t11, kp.t12, kp.t13, kp.t14, kp.t22, kp.t23, kp.t27, kp.t29, lenV_sl, Int.toNat_natCast, bft, btf, gtst, st_len, Nat.reduceAdd, Int.cast_ofNat_Int, cond_true, cond_false, Nat.reduceBEq, Nat.reduceLT, decide_true, beq_self_eq_true, if_true, if_false, Int.cast_ofNat_Int], by simp (maxSteps := 10000000) (disch := omega) only [ kp.l, kp.t11, kp.t12, kp.t13, kp.t14, kp.t22, kp.t23, kp.t27, kp.t29, lenV_sl, Int.toNat_natCast, bft, btf, gtst, st_len, Nat.reduceAdd, Int.cast_ofNat_Int, cond_true, cond_false, Nat.reduceBEq, Nat.reduceLT, decide_true, beq_self_eq_true, if_true, if_false, Int.cast_ofNat_Int], by simp (maxSteps := 10000000) (disch := omega) only [ kp.l, kp.t11, kp.t12, kp.t13, kp.t14, kp.t22, kp.t23, kp.t27, kp.t29, lenV_sl, Int.toNat_natCast, bft, btf, gtst, st_len, Nat.reduceAdd, Int.cast_ofNat_Int, cond_true, cond_false, Nat.reduceBEq, Nat.reduceLT, decide_true, beq_self_eq_true, if_true, if_false, Int.cast_ofNat_Int], by simp (maxSteps := 10000000) (disch := omega) only [ kp.l, kp.t11, kp.t12, kp.t13, kp.t14, kp.t22, kp.t23, kp.t27, kp.t29, lenV_sl, Int.toNat_natCast, bft, btf, gtst, st_len, Nat.reduceAdd, Int.cast_ofNat_Int, cond_true, cond_false, Nat.reduceBEq, Nat.reduceLT, decide_true, beq_self_eq_true, if_true, if_false, Int.cast_ofNat_Int], by simp (maxSteps := 10000000) (disch := omega) only [ kp.l, kp.t11, kp.t12, kp.t13, kp.t14, kp.t22, kp.t23, kp.t27, kp.t29, lenV_sl, Int.toNat_natCast, bft, btf, gtst, st_len, Nat.reduceAdd, Int.cast_ofNat_Int, cond_true, cond_false, Nat.reduceBEq, Nat.reduceLT, decide_true, beq_self_eq_true, if_true, if_false, Int.cast_ofNat_Int], by simp (maxSteps := 10000000) (disch := omega) only [ kp.l, kp.t11, kp.t12, kp.t13, kp.t14, kp.t22, kp.t23, kp.t27, kp.t29, lenV_sl, Int.toNat_natCast, bft, btf, gtst, st_len, Nat.reduceAdd, Int.cast_ofNat_Int, cond_true, cond_false, Nat.reduceBEq, Nat.reduceLT, decide_true, beq_self_eq_true, if_true, if_false, Int.cast_ofNat_Int]⟩ _ (by omega))
    simp only at g2 f2 lw kp2
    rw [← hm, wv_lay hin0 l.length (Nat.le_refl _), hx] at lw
    simp only [c2] at lw
    have lx2 := f2 _ _ lx1
    have bw := hB 0
    have rw_ := fun o n => rdB_none (o := o) (n := n) bw
    have r4 := (rX _ (fk.trans f2))
    clear kp
    have kp := kp2
    simp -implicitDefEqProofs (maxSteps := 10000000) (disch := omega) only [Tlaw16WlogTwice, Llaw16WlogTwice, Glaw16WlogTwice_9, V9_eq, Glaw16WlogTwice_law16Conf, Vlaw16Conf_eq, Glaw16WlogTwice_law16Memory, Glaw16WlogTwice_law16With, Glaw16WlogTwice_law16Writes, Glaw16WlogTwice_law16awake, Glaw16WlogTwice_law16pick, Vlaw16pick_eq, Glaw16WlogTwice_ref03Same, Glaw16WlogTwice_ref16Most, Vref16Most_eq, Glaw16WlogTwice_ref16Wipe, Glaw16WlogTwice_wlogLay, Glaw16WlogTwice_wlogPack, hB, hR, hI, lbTo, kp.l, kp.t11, kp.t12, kp.t13, kp.t14, kp.t22, kp.t23, kp.t27, kp.t29, kp.t33, kp.t34, lenV_sl, Int.toNat_natCast, bft, btf, gtst, st_len, lx2, bx, rx, hin, hinX, hin', i0, lw, bw, rw_, r4, bxx, pad, lightV, bt, bf, evs, gt, st, binV, arith, isSh, storeV, all1, idxAV, fieldV, faddrV, iaddrSV, iaddrAV, pickV, convV, unV, eqbV, eqpV, extV, mm2, mmV, nilckV, ress, res1, retV, Value.cells, reduceIte, reduceCtorEq, Int.reduceLT, Int.reduceLE, Int.reduceToNat, Int.reduceAdd, Int.reduceSub, Int.reduceMul, Int.reduceNeg, Nat.reduceMul, Nat.reduceAdd, Nat.reduceSub, Nat.reduceBEq, Nat.reduceEqDiff, Nat.reduceLT, Nat.reduceLeDiff, Int.reduceBEq, Int.reduceEq, Nat.reducePow, Int.reducePow, IntWalk.i64_in, IntKind.bits, eqAV, eqL, leafEq, andO, fillV, buildSV, Int.reduceGT, Int.reduceGE, Int.reduceBNe, IntWalk.u64_in, newsV_s, tassV, isnV, slcV, slcAV, slcTV, slcB, appNew, Option.bind_some, Option.bind_none, eqsV, lookV, mupdV, mdelV, mkM, ev1, ev2]
    refine ok_some (.inl ⟨rfl, M.length - (i + 1), by omega, _, H2, N2, i + 1, rfl, ⟨?_, ?_, ?_, ?_, ?_, ?_, ?_, ?_, ?_⟩, g2, fk.trans f2, by omega, rfl⟩)
    all_goals simp (maxSteps := 10000000) (disch := omega) only [kp.l, kp.t11, kp.t12, kp.t13, kp.t14, kp.t22, kp.t23, kp.t27, kp.t29, kp.t33, kp.t34, lenV_sl, Int.toNat_natCast, bft, btf, gtst, st_len, hc1, Nat.reduceAdd, Int.cast_ofNat_Int, cond_true, cond_false, Nat.reduceBEq, Nat.reduceLT, decide_true, beq_self_eq_true, if_true, if_false]
  · obtain ⟨rfl, rfl⟩ : xw = mw ∧ xl = ml := by have := hnot (by omega); simpa using this
    have c2_ : (((1 : Nat) : Int) != 2) = true := rfl
    have c3_ : (((1 : Nat) : Int) != 3) = true := rfl
    have c4_ : (((1 : Nat) : Int) != 4) = true := rfl
    simp -implicitDefEqProofs (maxSteps := 10000000) (disch := omega) only [Tlaw16WlogTwice, Llaw16WlogTwice, Glaw16WlogTwice_9, V9_eq, Glaw16WlogTwice_law16Conf, Vlaw16Conf_eq, Glaw16WlogTwice_law16Memory, Glaw16WlogTwice_law16With, Glaw16WlogTwice_law16Writes, Glaw16WlogTwice_law16awake, Glaw16WlogTwice_law16pick, Vlaw16pick_eq, Glaw16WlogTwice_ref03Same, Glaw16WlogTwice_ref16Most, Vref16Most_eq, Glaw16WlogTwice_ref16Wipe, Glaw16WlogTwice_wlogLay, Glaw16WlogTwice_wlogPack, hB, hR, hI, lbTo, kp.l, kp.t11, kp.t12, kp.t13, kp.t14, kp.t22, kp.t23, kp.t27, kp.t29, lenV_sl, Int.toNat_natCast, bft, btf, gtst, st_len, lc1, lm1, lx1, lu1, bc, rc, bm, rm, bx, rx, bu, ru, nc, nm, nx, nu, hlm, hin, hinX, hinU, hin', i0, r1, r2, r3, e9, bxx, c2_, c3_, c4_, bne_self_eq_false, pad, lightV, bt, bf, evs, gt, st, binV, arith, isSh, storeV, all1, idxAV, fieldV, faddrV, iaddrSV, iaddrAV, pickV, convV, unV, eqbV, eqpV, extV, mm2, mmV, nilckV, ress, res1, retV, Value.cells, reduceIte, reduceCtorEq, Int.reduceLT, Int.reduceLE, Int.reduceToNat, Int.reduceAdd, Int.reduceSub, Int.reduceMul, Int.reduceNeg, Nat.reduceMul, Nat.reduceAdd, Nat.reduceSub, Nat.reduceBEq, Nat.reduceEqDiff, Nat.reduceLT, Nat.reduceLeDiff, Int.reduceBEq, Int.reduceEq, Nat.reducePow, Int.reducePow, IntWalk.i64_in, IntKind.bits, eqAV, eqL, leafEq, andO, fillV, buildSV, Int.reduceGT, Int.reduceGE, Int.reduceBNe, IntWalk.u64_in, newsV_s, tassV, isnV, slcV, slcAV, slcTV, slcB, appNew, Option.bind_some, Option.bind_none, eqsV, lookV, mupdV, mdelV, mkM, ev1, ev2]
    generalize hX : exec B _ _ (LC.loop _) _ = o
    obtain ⟨y, ⟨ts2, H2, N2⟩, rfl, rfl, g2, f2, lw, kp2⟩ := (show Ok o _ by rw [← hX]; exact main _ ⟨by simp (maxSteps := 10000000) (disch := omega) only [ kp.l, kp.t11, kp.t12, kp.t13, kp.t14, kp.t22, kp.t23, kp.t27, kp.t29, lenV_sl, Int.toNat_natCast, bft, btf, gtst, st_len, Nat.reduceAdd, Int.cast_ofNat_Int, cond_true, cond_false, Nat.reduceBEq, Nat.reduceLT, decide_true, beq_self_eq_true, if_true, if_false, Int.cast_ofNat_Int], by simp (maxSteps := 10000000) (disch := omega) only [ kp.l, kp.t11, kp.t12, kp.t13, kp.t14, kp.t22, kp.t23, kp.t27, kp.t29, lenV_sl, Int.toNat_natCast, bft, btf, gtst, st_len, Nat.reduceAdd, Int.cast_ofNat_Int, cond_true, cond_false, Nat.reduceBEq, Nat.reduceLT, decide_true, beq_self_eq_true, if_true, if_false, Int.cast_ofNat_Int], by simp (maxSteps := 10000000) (disch := omega) only [ kp.l, kp.t11, kp.t12, kp.t13, kp.t14, kp.t22, kp.t23, kp.t27, kp.t29, lenV_sl, Int.toNat_natCast, bft, btf, gtst, st_len, Nat.reduceAdd, Int.cast_ofNat_Int, cond_true, cond_false, Nat.reduceBEq, Nat.reduceLT, decide_true, beq_self_eq_true, if_true, if_false, Int.cast_ofNat_Int], by simp (maxSteps := 10000000) (disch := omega) only [ kp.l, kp.t11, kp.t12, kp.t13, kp.t14, kp.t22, kp.t23, kp.t27, kp.t29, lenV_sl, Int.toNat_natCast, bft, btf, gtst, st_len, Nat.reduceAdd, Int.cast_ofNat_Int, cond_true, cond_false, Nat.reduceBEq, Nat.reduceLT, decide_true, beq_self_eq_true, if_true, if_false, Int.cast_ofNat_Int], by simp (maxSteps := 10000000) (disch := omega) only [ kp.l, kp.t11, kp.t12, kp.t13, kp.t14, kp.t22, kp.t23, kp.t27, kp.t29, lenV_sl, Int.toNat_natCast, bft, btf, gtst, st_len, Nat.reduceAdd, Int.cast_ofNat_Int, cond_true, cond_false, Nat.reduceBEq, Nat.reduceLT, decide_true, beq_self_eq_true, if_true, if_false, Int.cast_ofNat_Int], by simp (maxSteps := 10000000) (disch := omega) only [ kp.l, kp.t11, kp.t12, kp.t13, kp.t14, kp.t22, kp.t23, kp.t27, kp.t29, lenV_sl, Int.toNat_natCast, bft, btf, gtst, st_len, Nat.reduceAdd, Int.cast_ofNat_Int, cond_true, cond_false, Nat.reduceBEq, Nat.reduceLT, decide_true, beq_self_eq_true, if_true, if_false, Int.cast_ofNat_Int], by simp (maxSteps := 10000000) (disch := omega) only [ kp.l, kp.t11, kp.t12, kp.t13, kp.t14, kp.t22, kp.t23, kp.t27, kp.t29, lenV_sl, Int.toNat_natCast, bft, btf, gtst, st_len, Nat.reduceAdd, Int.cast_ofNat_Int, cond_true, cond_false, Nat.reduceBEq, Nat.reduceLT, decide_true, beq_self_eq_true, if_true, if_false, Int.cast_ofNat_Int], by simp (maxSteps := 10000000) (disch := omega) only [ kp.l, kp.t11, kp.t12, kp.t13, kp.t14, kp.t22, kp.t23, kp.t27, kp.t29, lenV_sl, Int.toNat_natCast, bft, btf, gtst, st_len, Nat.reduceAdd, Int.cast_ofNat_Int, cond_true, cond_false, Nat.reduceBEq, Nat.reduceLT, decide_true, beq_self_eq_true, if_true, if_false, Int.cast_ofNat_Int], by simp (maxSteps := 10000000) (disch := omega) only [ kp.l, kp.t11, kp.t12, kp.t13, kp.t14, kp.t22, kp.t23, kp.t27, kp.t29, lenV_sl, Int.toNat_natCast, bft, btf, gtst, st_len, Nat.reduceAdd, Int.cast_ofNat_Int, cond_true, cond_false, Nat.reduceBEq, Nat.reduceLT, decide_true, beq_self_eq_true, if_true, if_false, Int.cast_ofNat_Int], by simp (maxSteps := 10000000) (disch := omega) only [ kp.l, kp.t11, kp.t12, kp.t13, kp.t14, kp.t22, kp.t23, kp.t27, kp.t29, lenV_sl, Int.toNat_natCast, bft, btf, gtst, st_len, Nat.reduceAdd, Int.cast_ofNat_Int, cond_true, cond_false, Nat.reduceBEq, Nat.reduceLT, decide_true, beq_self_eq_true, if_true, if_false, Int.cast_ofNat_Int], by simp (maxSteps := 10000000) (disch := omega) only [ kp.l, kp.t11, kp.t12, kp.t13, kp.t14, kp.t22, kp.t23, kp.t27, kp.t29, lenV_sl, Int.toNat_natCast, bft, btf, gtst, st_len, Nat.reduceAdd, Int.cast_ofNat_Int, cond_true, cond_false, Nat.reduceBEq, Nat.reduceLT, decide_true, beq_self_eq_true, if_true, if_false, Int.cast_ofNat_Int]⟩ _ (by omega))
    simp only at g2 f2 lw kp2
    rw [← hm, wv_lay hin0 l.length (Nat.le_refl _), hx] at lw
    simp only [c2] at lw
    have lx2 := f2 _ _ lx1
    have bw := hB 0
    have rw_ := fun o n => rdB_none (o := o) (n := n) bw
    have r4 := (rX _ (fk.trans f2))
    clear kp
    have kp := kp2
    simp -implicitDefEqProofs (maxSteps := 10000000) (disch := omega) only [Tlaw16WlogTwice, Llaw16WlogTwice, Glaw16WlogTwice_9, V9_eq, Glaw16WlogTwice_law16Conf, Vlaw16Conf_eq, Glaw16WlogTwice_law16Memory, Glaw16WlogTwice_law16With, Glaw16WlogTwice_law16Writes, Glaw16WlogTwice_law16awake, Glaw16WlogTwice_law16pick, Vlaw16pick_eq, Glaw16WlogTwice_ref03Same, Glaw16WlogTwice_ref16Most, Vref16Most_eq, Glaw16WlogTwice_ref16Wipe, Glaw16WlogTwice_wlogLay, Glaw16WlogTwice_wlogPack, hB, hR, hI, lbTo, kp.l, kp.t11, kp.t12, kp.t13, kp.t14, kp.t22, kp.t23, kp.t27, kp.t29, kp.t33, kp.t34, lenV_sl, Int.toNat_natCast, bft, btf, gtst, st_len, lx2, bx, rx, hin, hinX, hin', i0, lw, bw, rw_, r4, bxx, pad, lightV, bt, bf, evs, gt, st, binV, arith, isSh, storeV, all1, idxAV, fieldV, faddrV, iaddrSV, iaddrAV, pickV, convV, unV, eqbV, eqpV, extV, mm2, mmV, nilckV, ress, res1, retV, Value.cells, reduceIte, reduceCtorEq, Int.reduceLT, Int.reduceLE, Int.reduceToNat, Int.reduceAdd, Int.reduceSub, Int.reduceMul, Int.reduceNeg, Nat.reduceMul, Nat.reduceAdd, Nat.reduceSub, Nat.reduceBEq, Nat.reduceEqDiff, Nat.reduceLT, Nat.reduceLeDiff, Int.reduceBEq, Int.reduceEq, Nat.reducePow, Int.reducePow, IntWalk.i64_in, IntKind.bits, eqAV, eqL, leafEq, andO, fillV, buildSV, Int.reduceGT, Int.reduceGE, Int.reduceBNe, IntWalk.u64_in, newsV_s, tassV, isnV, slcV, slcAV, slcTV, slcB, appNew, Option.bind_some, Option.bind_none, eqsV, lookV, mupdV, mdelV, mkM, ev1, ev2]
    refine ok_some (.inl ⟨rfl, M.length - (i + 1), by omega, _, H2, N2, i + 1, rfl, ⟨?_, ?_, ?_, ?_, ?_, ?_, ?_, ?_, ?_⟩, g2, fk.trans f2, by omega, rfl⟩)
    all_goals simp (maxSteps := 10000000) (disch := omega) only [kp.l, kp.t11, kp.t12, kp.t13, kp.t14, kp.t22, kp.t23, kp.t27, kp.t29, kp.t33, kp.t34, lenV_sl, Int.toNat_natCast, bft, btf, gtst, st_len, hc1, Nat.reduceAdd, Int.cast_ofNat_Int, cond_true, cond_false, Nat.reduceBEq, Nat.reduceLT, decide_true, beq_self_eq_true, if_true, if_false]
end Go.Proofs.YtfhiplfagejfoaaDoor
namespace Go.Proofs.YtfhiplfagejfoaaDoor
open Go.Proofs.YtfhiplfagejfoaaDoor.K Go.ChangeShapes Go.WideShapes Go.ChangeAt Go.RowKit 
set_option maxRecDepth 100000
set_option linter.unusedSimpArgs false
set_option linter.unusedVariables false
theorem all1_w2 (L : List W2) : all1 (fl w2 L) = true := by
  induction L with
  | nil => rfl
  | cons a L ih => exact ih
set_option maxHeartbeats 8000000 in
theorem lvTwice {B : OH} {H : HL} {N : St} {vr vm : Value} {raw : List Q2} {mem : List Q3} {a b c xp xt : Int} (hT : Tab B) (hN : good B H N) (hr3 : SlR q3 3 B H vm mem) (hrs3 : Q3s mem) (hr : SlR q2 2 B H vr raw) (hrs : Q2s raw) (ha : i64R a) (hb : i64R b) (hc : i64R c) (hx : i64R xp) (ht : i64R xt) : ∃ H' N', Tlaw16WlogTwice B [.agg #[.int .i64 a, .int .i64 b, .int .i64 c], vm, vr, .int .i64 xp, .int .i64 xt] H N = some (.ret (.bool true), H', N') := by
  have hB := good_B hN
  have hR := good_rdB hN
  have hI := beqN hN.1.1
  have hG : ∃ H N, good B H N := ⟨H, N, hN⟩
  obtain ⟨kk, p, cc, h, ek, ep, ec, C, hp, hcc⟩ := conf_cf a b c
  have eC := fConf hG ha hb hc
  rw [ek, ep, ec] at eC
  have ePk := fpick hG xp (p : Int) hx (by have := C.p; omega)
  have kPk := pk_b (x := xp) (n := (p : Int)) (by have := C.p; omega)
  obtain ⟨q, hq⟩ : ∃ q : Nat, pk xp (p : Int) = (q : Int) := ⟨_, (Int.toNat_of_nonneg kPk.1).symm⟩
  rw [hq] at ePk kPk
  have hqp : q < p := by omega
  have eM := rmost hG C
  have g1 : good B ((N.n 0, .cells [.int .i64 a, .int .i64 b, .int .i64 c] 3) :: H) (sh N) := good_new (N := N) hN
  have f1 : Fr H ((N.n 0, .cells [.int .i64 a, .int .i64 b, .int .i64 c] 3) :: H) := fr_new (N := N) hN Fr.refl 0
  have hr := hr.mono f1
  have hr3 := hr3.mono f1
  have q_n : lk ((N.n 0, .cells [.int .i64 a, .int .i64 b, .int .i64 c] 3) :: H) (N.n 0) = some (.cells [.int .i64 a, .int .i64 b, .int .i64 c] 3) := lk_top
  have b_n : B (N.n 0) = none := good_B hN 0
  have rb_n := fun o n => rdB_none (o := o) (n := n) b_n
  obtain ⟨H2, N2, e2, g2, f2⟩ := fAwake hT g1
  have q_n := f2 _ _ q_n
  have hr := hr.mono f2
  have hr3 := hr3.mono f2
  have q_n2 := q_n
  have m_n2 := ne_N g2 q_n2
  have hB2 := good_B g2
  have hR2 := good_rdB g2
  have hI2 := beqN g2.1.1
  have g3 : good B ((N2.n 0, .cells [.int .i64 (kk : Int), .int .i64 (p : Int), .int .i64 (cc : Int)] 3) :: H2) (sh N2) := good_new (N := N2) g2
  have f3 : Fr H2 ((N2.n 0, .cells [.int .i64 (kk : Int), .int .i64 (p : Int), .int .i64 (cc : Int)] 3) :: H2) := fr_new (N := N2) g2 Fr.refl 0
  have q_n := f3 _ _ q_n
  have hr := hr.mono f3
  have hr3 := hr3.mono f3
  have q_c : lk ((N2.n 0, .cells [.int .i64 (kk : Int), .int .i64 (p : Int), .int .i64 (cc : Int)] 3) :: H2) (N2.n 0) = some (.cells [.int .i64 (kk : Int), .int .i64 (p : Int), .int .i64 (cc : Int)] 3) := lk_top
  have b_c : B (N2.n 0) = none := good_B g2 0
  have rb_c := fun o n => rdB_none (o := o) (n := n) b_c
  obtain ⟨vl, H4, N4, l, e4, g4, f4, sl0, hok, hws, hll⟩ := fWrites C hr hrs g3
  have q_n := f4 _ _ q_n
  have q_c := f4 _ _ q_c
  have hr := hr.mono f4
  have hr3 := hr3.mono f4
  have q_n4 := q_n
  have m_n4 := ne_N g4 q_n4
  have q_c4 := q_c
  have m_c4 := ne_N g4 q_c4
  have hB4 := good_B g4
  have hR4 := good_rdB g4
  have hI4 := beqN g4.1.1
  have sl := sl0.rd w2_len
  have slw := sl0.wh w2_len
  obtain ⟨va, H5, N5, e5, g5, f5, sa⟩ := fPack hT C g4 sl hws
  have q_n := f5 _ _ q_n
  have q_c := f5 _ _ q_c
  have hr := hr.mono f5
  have hr3 := hr3.mono f5
  have sl := sl.mono f5
  have slw := slw.mono f5
  have q_n5 := q_n
  have m_n5 := ne_N g5 q_n5
  have q_c5 := q_c
  have m_c5 := ne_N g5 q_c5
  have hB5 := good_B g5
  have hR5 := good_rdB g5
  have hI5 := beqN g5.1.1
  have sa := sa.rd w1_len
  obtain ⟨al, cl, rfl, hcl, _⟩ := id slw
  have hlv := sl.len
  have eTk := fpick hG xt ((l.length : Int) + 1) ht (by omega)
  have kTk := pk_b (x := xt) (n := (l.length : Int) + 1) (by omega)
  obtain ⟨k, hk⟩ : ∃ k : Nat, pk xt ((l.length : Int) + 1) = (k : Int) := ⟨_, (Int.toNat_of_nonneg kTk.1).symm⟩
  rw [hk] at eTk kTk
  have hkl : k ≤ l.length := by omega
  have wl1 : IntKind.i64.wrap ((l.length : Int) + 1) = (l.length : Int) + 1 := IntWalk.i64_in _ (by omega)
  have k0 : (0 : Int) ≤ (k : Int) := by omega
  have kl' : (k : Int) ≤ (l.length : Int) := by omega
  have hcl' : (k : Int) ≤ (cl : Int) := by omega
  obtain ⟨a1, sp1, hp1⟩ := slw.part w2_len (i := k) (k := l.length - k) (by omega)
  have w1_ := hp1 (cl - k) (by omega)
  rw [List.take_of_length_le (by rw [List.length_drop]; omega)] at w1_
  obtain ⟨a2, sp2, hp2⟩ := slw.part w2_len (i := 0) (k := k) (by omega)
  have w2_ := hp2 cl (by omega)
  rw [List.drop_zero] at w2_
  have l1 : (l.drop k).length = l.length - k := List.length_drop
  have l2 : (l.take k).length = k := by rw [List.length_take]; omega
  obtain ⟨v91, H6, N6, e6, g6, f6, _, s91, _⟩ := app_many (bytes := 16) (L := ([] : List W2)) w2_len (by omega) g5 Fr.refl (.inl ⟨rfl, rfl⟩ : SlM w2 2 B H5 H5 (.slice none 0 0) []) w1_ (all1_w2 _) (by simp only [List.length_nil]; omega) (by simp only [List.length_nil]; omega)
  obtain ⟨v92, H7, N7, e7, g7, f7_, _, sr, _⟩ := app_many (bytes := 16) w2_len (by omega) g6 f6 s91 (w2_.mono f6) (all1_w2 _) (by rw [List.nil_append]; omega) (by rw [List.nil_append]; omega)
  rw [List.nil_append] at sr
  have q_n6 := f6 _ _ q_n
  have m_n6 := ne_N g6 q_n6
  have q_c6 := f6 _ _ q_c
  have m_c6 := ne_N g6 q_c6
  have q_n := f7_ _ _ q_n
  have q_c := f7_ _ _ q_c
  have hr := hr.mono f7_
  have hr3 := hr3.mono f7_
  have sl := sl.mono f7_
  have slw := slw.mono f7_
  have sa := sa.mono f7_
  have q_n7 := q_n
  have m_n7 := ne_N g7 q_n7
  have q_c7 := q_c
  have m_c7 := ne_N g7 q_c7
  have hB6 := good_B g6
  have hR6 := good_rdB g6
  have hB7 := good_B g7
  have hR7 := good_rdB g7
  have sr := sr.rd w2_len
  obtain ⟨vb, H8, N8, e8, g8, f8, sb⟩ := fPack hT C g7 sr (W2s_rot k hws)
  have q_n := f8 _ _ q_n
  have q_c := f8 _ _ q_c
  have hr := hr.mono f8
  have hr3 := hr3.mono f8
  have sl := sl.mono f8
  have slw := slw.mono f8
  have sa := sa.mono f8
  have sr := sr.mono f8
  have q_n8 := q_n
  have m_n8 := ne_N g8 q_n8
  have q_c8 := q_c
  have m_c8 := ne_N g8 q_c8
  have hB8 := good_B g8
  have hR8 := good_rdB g8
  have hI8 := beqN g8.1.1
  have sb := sb.rd w1_len
  have hrl := rot_len l k
  have hlb := LG_b C
  by_cases hlong : h + 2 * p < l.length
  · rw [packE_long hlong] at *
    rw [packE_long (l := l.drop k ++ l.take k) (by omega)] at *
    have c1 : (l.length : Int) > ((h + 2 * p : Nat) : Int) := by omega
    have c40 : ((4 : Int) != 0) = true := rfl
    simp -implicitDefEqProofs (maxSteps := 10000000) (disch := omega) only [Tlaw16WlogTwice, Llaw16WlogTwice, Glaw16WlogTwice_9, V9_eq, Glaw16WlogTwice_law16Conf, Vlaw16Conf_eq, Glaw16WlogTwice_law16Memory, Glaw16WlogTwice_law16With, Glaw16WlogTwice_law16Writes, Glaw16WlogTwice_law16awake, Glaw16WlogTwice_law16pick, Vlaw16pick_eq, Glaw16WlogTwice_ref03Same, Glaw16WlogTwice_ref16Most, Vref16Most_eq, Glaw16WlogTwice_ref16Wipe, Glaw16WlogTwice_wlogLay, Glaw16WlogTwice_wlogPack, hB, hR, hI, lenV_sl, Int.toNat_natCast, bft, btf, gtst, st_len, eC, ePk, eM, hlv, eTk, wl1, k0, kl', hcl', sp1, sp2, Nat.sub_zero, c1, c40, b_n, rb_n, q_n2, m_n2, e2, hB2, hR2, hI2, b_c, rb_c, q_n4, m_n4, q_c4, m_c4, e4, hB4, hR4, hI4, q_n5, m_n5, q_c5, m_c5, e5, hB5, hR5, hI5, q_n6, m_n6, q_c6, m_c6, q_n7, m_n7, q_c7, m_c7, e6, hB6, hR6, e7, hB7, hR7, q_n8, m_n8, q_c8, m_c8, e8, hB8, hR8, hI8, bne_self_eq_false, pad, lightV, bt, bf, evs, gt, st, binV, arith, isSh, storeV, all1, idxAV, fieldV, faddrV, iaddrSV, iaddrAV, pickV, convV, unV, eqbV, eqpV, extV, mm2, mmV, nilckV, ress, res1, retV, Value.cells, reduceIte, reduceCtorEq, Int.reduceLT, Int.reduceLE, Int.reduceToNat, Int.reduceAdd, Int.reduceSub, Int.reduceMul, Int.reduceNeg, Nat.reduceMul, Nat.reduceAdd, Nat.reduceSub, Nat.reduceBEq, Nat.reduceEqDiff, Nat.reduceLT, Nat.reduceLeDiff, Int.reduceBEq, Int.reduceEq, Nat.reducePow, Int.reducePow, IntWalk.i64_in, IntKind.bits, eqAV, eqL, leafEq, andO, fillV, buildSV, Int.reduceGT, Int.reduceGE, Int.reduceBNe, IntWalk.u64_in, tassV, isnV, slcV, slcAV, slcTV, slcB, appNew, Option.bind_some, Option.bind_none, eqsV, lookV, mupdV, mdelV, mkM, ev1, ev2]
    exact ⟨_, _, rfl⟩
  have hok' := okL_rot k hok
  rw [packE_ok hlong hok, if_pos rfl] at *
  rw [packE_ok (l := l.drop k ++ l.take k) (by omega) hok', if_pos rfl] at *
  simp -implicitDefEqProofs (maxSteps := 10000000) (disch := omega) only [Tlaw16WlogTwice, Llaw16WlogTwice, Glaw16WlogTwice_9, V9_eq, Glaw16WlogTwice_law16Conf, Vlaw16Conf_eq, Glaw16WlogTwice_law16Memory, Glaw16WlogTwice_law16With, Glaw16WlogTwice_law16Writes, Glaw16WlogTwice_law16awake, Glaw16WlogTwice_law16pick, Vlaw16pick_eq, Glaw16WlogTwice_ref03Same, Glaw16WlogTwice_ref16Most, Vref16Most_eq, Glaw16WlogTwice_ref16Wipe, Glaw16WlogTwice_wlogLay, Glaw16WlogTwice_wlogPack, hB, hR, hI, lenV_sl, Int.toNat_natCast, bft, btf, gtst, st_len, eC, ePk, eM, hlv, eTk, wl1, k0, kl', hcl', sp1, sp2, Nat.sub_zero, b_n, rb_n, q_n2, m_n2, e2, hB2, hR2, hI2, b_c, rb_c, q_n4, m_n4, q_c4, m_c4, e4, hB4, hR4, hI4, q_n5, m_n5, q_c5, m_c5, e5, hB5, hR5, hI5, q_n6, m_n6, q_c6, m_c6, q_n7, m_n7, q_c7, m_c7, e6, hB6, hR6, e7, hB7, hR7, q_n8, m_n8, q_c8, m_c8, e8, hB8, hR8, hI8, bne_self_eq_false, pad, e_skip, e_ops, e_draw, shg_n, shg_c, shg_g, shg_r, d_none, d_nil, d_cons, d_ite, h_none, h_nil, h_cons, h_ite, eqS_same, lightV, e_seq, e_cond, e_block, e_exit, e_ret, s_normal, s_ret, s_exit, s_none, s_ite, b_normal, b_ret, b_exit, b_none, b_ite, c_bool, x_none, x_nil, x_cons, x_ite, p_some, p_none, p_ite, pt_some, pt_none, pv_some, pv_none, pv_ite, w_none, w_some, i_bool, i_undef, bt, bf, v_tmp, v_const, v_global, v_func, evs, f_normal, f_ret, f_none, f_ite, r_some, co_some, l_ptr, m_agg, m_one, sh_app, lk_nil, lk_cons, rd_eq, rdO_some, rdO_none, rdN_none, rdL_some, rdL_none, wrB_none, unitR_some, wr_nil, wr_here, wr_skip, k_cells, tk_zero, tk_take, tk_skip, tkC_some, call_func, gt, st, binV, arith, isSh, storeV, all1, idxAV, fieldV, faddrV, iaddrSV, iaddrAV, pickV, convV, unV, eqbV, eqpV, extV, mm2, mmV, nilckV, ress, res1, retV, Value.cells, cond_true, cond_false, Bool.true_or, Bool.false_or, Bool.or_true, Bool.or_false, beq_self_eq_true, if_true, if_false, ite_true, ite_false, decide_true, decide_false, decide_eq_true_eq, reduceIte, Nat.zero_add, Nat.add_zero, and_self, true_and, and_true, List.size_toArray, List.length_cons, List.length_nil, List.append_nil, List.nil_append, Int.toNat_zero, Bool.not_false, Bool.not_true, Bool.not_not, Bool.false_eq_true, Bool.true_eq_false, reduceCtorEq, Int.reduceLT, Int.reduceLE, Int.reduceToNat, Int.reduceAdd, Int.reduceSub, Int.reduceMul, Int.reduceNeg, Nat.reduceMul, Nat.reduceAdd, Nat.reduceSub, Nat.reduceBEq, Nat.reduceEqDiff, Nat.reduceLT, Nat.reduceLeDiff, Int.reduceBEq, Int.reduceEq, Nat.reducePow, Int.reducePow, IntWalk.i64_in, IntKind.bits, eqAV, eqL, leafEq, andO, fillV, buildSV, List.getElem?_toArray, List.getElem?_cons_zero, List.getElem?_cons_succ, List.getElem?_nil, Int.reduceGT, Int.reduceGE, Int.reduceBNe, Bool.true_and, Bool.and_true, Bool.false_and, Bool.and_false, Bool.and_self, IntWalk.u64_in, Int.cast_ofNat_Int, callF1, pad16, pad_0, pad_1, pad_2, pad_3, pad_4, pad_5, pad_6, pad_7, pad_8, pad_9, pad_10, pad_11, pad_12, pad_13, pad_14, pad_15, gc0, gc1, gc2, gc3, gc4, gc5, gc6, gc7, gc8, gc9, gc10, gc11, gc12, gc13, gc14, gc15, gcS, sc0, sc1, sc2, sc3, sc4, sc5, sc6, sc7, sc8, sc9, sc10, sc11, sc12, sc13, sc14, sc15, scS, List.drop_succ_cons, List.drop_nil, x_pan, s_pan, b_pan, pE_ret, pE_pan, pE_none, pE_ite, pvE_some, pvE_none, pvE_ite, rv_some, rv_none, rv_ite, oR_ret, t_mv, t_pick, t_alloc, t_box, t_build, t_buildS, t_load, t_store, t_nilck, t_bin, t_eqb, t_eqA, t_eqp, t_un, t_conv, t_field, t_idxA, t_faddr, t_iaddrS, t_iaddrA, t_ext, t_len, t_mm, t_call, t_ifc, t_fn, t_slc, t_slcA, t_slcT, t_tass, t_isn, t_mks, t_app, t_pan, panE_i, optE_none, optE_some, bnd_none, bnd_int, slA_none, slA_some, appR_some, appOld_cells, newsV_n, lenS_s, appV_nil, appV_some, mksV_i, sh_c, sh_g, f_pan, endD_ret, dfr_normal, dfr_ret, dfr_pan, restD_normal, callD1, callC1, tassV, isnV, slcV, slcAV, slcTV, slcB, appNew, Option.bind_some, Option.bind_none, d_pan, h_pan, wrH_eq, wrX_cells, wrU_some, upH_nil, upH_cons, lk_upH, effR_some, effR_none, effR_ite, Option.isNone_none, Option.isNone_some, slA_zero, call_yield, e_range, it_func, wy_same, y_call, isLp_self, beg_normal, end_normal, end_ret, end_exit, end_ite, aft_ret, aft_ready, aft_done, aft_exit, setP_cons, setP_nil, sh_r, t_mkmap, t_mlook, t_mupd, t_mdel, t_eqs, t_appZ, t_cpy, eqsV, mapF_some, lookF_some, setM_some, lookR_t, lookR_n, lookR_f, lookR_fn, lookV, mupdV, mdelV, mkM]
  generalize hX : exec B _ _ (LC.fork _ _) _ = o
  obtain ⟨_, ⟨ts, H20, N20⟩, rfl, rfl, g20, f20, z, vz, M, kp, bz, lz, sz, hM, hMs⟩ := (show Ok o _ by rw [← hX]; exact fork1 (B := B) (H := H8) (N := N8) (vl := .slice al l.length cl) (va := va) (vb := vb) (vr := vm) (xp := xp) (xt := xt) (c := N2.n 0) (q := q) C hp hqp hr3 hrs3 g8 b_c q_c ⟨rfl, rfl, rfl, rfl, rfl, rfl, rfl, rfl, rfl, rfl, rfl, rfl, rfl, rfl⟩ (by omega))
  simp only at g20 f20 kp lz sz
  have hbA := lgA_b (q := (q : Int)) C (M := M) ⟨by omega, hM⟩
  have hZl := (wiped_len M (lgA p h (q : Int)) (LG p h)).trans hM
  have hZs := wiped_s hMs (lgA p h (q : Int)) (LG p h)
  generalize wiped M (lgA p h (q : Int)) (LG p h) = Z at *
  have h5 := bs5_b C
  have hwl := packW_l (p := p) (h := h) (l := l) (by omega)
  have hwl' := packW_l (p := p) (h := h) (l := l.drop k ++ l.take k) (by omega)
  have hmin : min (packW p h l).length (LG p h) = LG p h := by omega
  have hbZ : lgA p h (q : Int) + LG p h ≤ Z.length := by omega
  have hWl := withW_len Z (lgA p h (q : Int)) (packW p h l) (LG p h)
  have hWl' := withW_len Z (lgA p h (q : Int)) (packW p h (l.drop k ++ l.take k)) (LG p h)
  have hWs := withW_s hZs (lgA p h (q : Int)) (packW_u C hws hok (by omega)) (LG p h)
  have hWs' := withW_s hZs (lgA p h (q : Int)) (packW_u C (W2s_rot k hws) hok' (by omega)) (LG p h)
  obtain ⟨lE1, lR1⟩ := lay_ok C hqp (M := withW Z (lgA p h (q : Int)) (packW p h l) (LG p h)) (l := l) (by omega) (by omega) hok (wdsL_with hwl hbZ)
  obtain ⟨lE3, lR3⟩ := lay_ok C hqp (M := withW Z (lgA p h (q : Int)) (packW p h (l.drop k ++ l.take k)) (LG p h)) (l := l.drop k ++ l.take k) (by omega) (by omega) hok' (wdsL_with hwl' hbZ)
  have hUX := fun i hi => lay_same C hqp (Z := Z) (w := packW p h l) (w' := packW p h (l.drop k ++ l.take k)) hZl hok hok' (rot_mem l k) (i := i) hi
  have hXs := lay_s hWs hws l.length
  have hin1 : inM (withW Z (lgA p h (q : Int)) (packW p h l) (LG p h)).length l := by rw [hWl, hZl]; exact okL_in C hok
  obtain ⟨lE2, lR2⟩ := lay_ok C hqp (M := lay (withW Z (lgA p h (q : Int)) (packW p h l) (LG p h)) l l.length) (l := l) (by rw [lay_len]; omega) (by omega) hok ((lay_log C hqp (by omega) hok).trans (wdsL_with hwl hbZ))
  rw [lay_lay hin1] at lR2
  have hXl := lay_len (withW Z (lgA p h (q : Int)) (packW p h l) (LG p h)) l l.length
  have hUl := lay_len (withW Z (lgA p h (q : Int)) (packW p h (l.drop k ++ l.take k)) (LG p h)) (l.drop k ++ l.take k) (l.drop k ++ l.take k).length
  have q_c := f20 _ _ q_c
  have q_z := lz
  have b_z := bz
  have rb_z := fun o n => rdB_none (o := o) (n := n) b_z
  have sl := sl.mono f20
  have sa := sa.mono f20
  have sb := sb.mono f20
  have q_c20 := q_c
  have m_c20 := ne_N g20 q_c20
  have q_z20 := q_z
  have m_z20 := ne_N g20 q_z20
  have hB20 := good_B g20
  have hR20 := good_rdB g20
  have hI20 := beqN g20.1.1
  obtain ⟨vw, H21, N21, e21, g21, f21, sm⟩ := fWith C g20 sz sa hZl hqp
  have q_c := f21 _ _ q_c
  have q_z := f21 _ _ q_z
  have sl := sl.mono f21
  have sa := sa.mono f21
  have sb := sb.mono f21
  have sz := sz.mono f21
  have q_c21 := q_c
  have m_c21 := ne_N g21 q_c21
  have q_z21 := q_z
  have m_z21 := ne_N g21 q_z21
  have hB21 := good_B g21
  have hR21 := good_rdB g21
  have hI21 := beqN g21.1.1
  rw [hmin] at sm
  have sm := sm.wh c2_len
  have g22 : good B ((N21.n 0, .cells [vw] 1) :: H21) (sh N21) := good_new (N := N21) g21
  have f22 : Fr H21 ((N21.n 0, .cells [vw] 1) :: H21) := fr_new (N := N21) g21 Fr.refl 0
  have q_c := f22 _ _ q_c
  have q_z := f22 _ _ q_z
  have sl := sl.mono f22
  have sa := sa.mono f22
  have sb := sb.mono f22
  have sz := sz.mono f22
  have sm := sm.mono f22
  have q_m : lk ((N21.n 0, .cells [vw] 1) :: H21) (N21.n 0) = some (.cells [vw] 1) := lk_top
  have b_m : B (N21.n 0) = none := good_B g21 0
  have rb_m := fun o n => rdB_none (o := o) (n := n) b_m
  obtain ⟨vx, H23, N23, e23, g23, f23, sx⟩ := fLay hT C g22 sm (by omega) hWs (q := (q : Int))
  have q_c := f23 _ _ q_c
  have q_z := f23 _ _ q_z
  have q_m := f23 _ _ q_m
  have sl := sl.mono f23
  have sa := sa.mono f23
  have sb := sb.mono f23
  have sz := sz.mono f23
  have sm := sm.mono f23
  have q_c23 := q_c
  have m_c23 := ne_N g23 q_c23
  have q_z23 := q_z
  have m_z23 := ne_N g23 q_z23
  have q_m23 := q_m
  have m_m23 := ne_N g23 q_m23
  have hB23 := good_B g23
  have hR23 := good_rdB g23
  have hI23 := beqN g23.1.1
  rw [lE1, lR1] at *
  have sx := sx.wh c2_len
  have g24 : good B ((N23.n 0, .cells [vx] 1) :: H23) (sh N23) := good_new (N := N23) g23
  have f24 : Fr H23 ((N23.n 0, .cells [vx] 1) :: H23) := fr_new (N := N23) g23 Fr.refl 0
  have q_c := f24 _ _ q_c
  have q_z := f24 _ _ q_z
  have q_m := f24 _ _ q_m
  have sl := sl.mono f24
  have sa := sa.mono f24
  have sb := sb.mono f24
  have sz := sz.mono f24
  have sm := sm.mono f24
  have sx := sx.mono f24
  have q_x : lk ((N23.n 0, .cells [vx] 1) :: H23) (N23.n 0) = some (.cells [vx] 1) := lk_top
  have b_x : B (N23.n 0) = none := good_B g23 0
  have rb_x := fun o n => rdB_none (o := o) (n := n) b_x
  obtain ⟨vy, H25, N25, e25, g25, f25, sy⟩ := fLay hT C g24 sx (by omega) hXs (q := (q : Int))
  have q_c := f25 _ _ q_c
  have q_z := f25 _ _ q_z
  have q_m := f25 _ _ q_m
  have q_x := f25 _ _ q_x
  have sl := sl.mono f25
  have sa := sa.mono f25
  have sb := sb.mono f25
  have sz := sz.mono f25
  have sm := sm.mono f25
  have sx := sx.mono f25
  have q_c25 := q_c
  have m_c25 := ne_N g25 q_c25
  have q_z25 := q_z
  have m_z25 := ne_N g25 q_z25
  have q_m25 := q_m
  have m_m25 := ne_N g25 q_m25
  have q_x25 := q_x
  have m_x25 := ne_N g25 q_x25
  have hB25 := good_B g25
  have hR25 := good_rdB g25
  have hI25 := beqN g25.1.1
  rw [lE2, lR2] at *
  have sy := sy.wh c2_len
  have g26 : good B ((N25.n 0, .cells [vy] 1) :: H25) (sh N25) := good_new (N := N25) g25
  have f26 : Fr H25 ((N25.n 0, .cells [vy] 1) :: H25) := fr_new (N := N25) g25 Fr.refl 0
  have q_c := f26 _ _ q_c
  have q_z := f26 _ _ q_z
  have q_m := f26 _ _ q_m
  have q_x := f26 _ _ q_x
  have sl := sl.mono f26
  have sa := sa.mono f26
  have sb := sb.mono f26
  have sz := sz.mono f26
  have sm := sm.mono f26
  have sx := sx.mono f26
  have sy := sy.mono f26
  have q_y : lk ((N25.n 0, .cells [vy] 1) :: H25) (N25.n 0) = some (.cells [vy] 1) := lk_top
  have b_y : B (N25.n 0) = none := good_B g25 0
  have rb_y := fun o n => rdB_none (o := o) (n := n) b_y
  simp -implicitDefEqProofs (maxSteps := 10000000) (disch := omega) only [Tlaw16WlogTwice, Llaw16WlogTwice, Glaw16WlogTwice_9, V9_eq, Glaw16WlogTwice_law16Conf, Vlaw16Conf_eq, Glaw16WlogTwice_law16Memory, Glaw16WlogTwice_law16With, Glaw16WlogTwice_law16Writes, Glaw16WlogTwice_law16awake, Glaw16WlogTwice_law16pick, Vlaw16pick_eq, Glaw16WlogTwice_ref03Same, Glaw16WlogTwice_ref16Most, Vref16Most_eq, Glaw16WlogTwice_ref16Wipe, Glaw16WlogTwice_wlogLay, Glaw16WlogTwice_wlogPack, hB, hR, hI, kp.l, kp.t3, kp.t4, kp.t11, kp.t12, kp.t13, kp.t14, kp.t16, kp.t18, kp.t20, lenV_sl, Int.toNat_natCast, bft, btf, gtst, st_len, b_c, rb_c, b_z, rb_z, q_c20, m_c20, q_z20, m_z20, hB20, hR20, hI20, q_c21, m_c21, q_z21, m_z21, e21, hB21, hR21, hI21, b_m, rb_m, q_c23, m_c23, q_z23, m_z23, q_m23, m_m23, e23, hB23, hR23, hI23, b_x, rb_x, q_c25, m_c25, q_z25, m_z25, q_m25, m_m25, q_x25, m_x25, e25, hB25, hR25, hI25, b_y, rb_y, all1_slw sm, all1_slw sx, all1_slw sy, pad, e_skip, e_ops, e_draw, shg_n, shg_c, shg_g, shg_r, d_none, d_nil, d_cons, d_ite, h_none, h_nil, h_cons, h_ite, eqS_same, lightV, e_seq, e_cond, e_block, e_exit, e_ret, s_normal, s_ret, s_exit, s_none, s_ite, b_normal, b_ret, b_exit, b_none, b_ite, c_bool, x_none, x_nil, x_cons, x_ite, p_some, p_none, p_ite, pt_some, pt_none, pv_some, pv_none, pv_ite, w_none, w_some, i_bool, i_undef, bt, bf, v_tmp, v_const, v_global, v_func, evs, f_normal, f_ret, f_none, f_ite, r_some, co_some, l_ptr, m_agg, m_one, sh_app, lk_nil, lk_cons, rd_eq, rdO_some, rdO_none, rdN_none, rdL_some, rdL_none, wrB_none, unitR_some, wr_nil, wr_here, wr_skip, k_cells, tk_zero, tk_take, tk_skip, tkC_some, call_func, gt, st, binV, arith, isSh, storeV, all1, idxAV, fieldV, faddrV, iaddrSV, iaddrAV, pickV, convV, unV, eqbV, eqpV, extV, mm2, mmV, nilckV, ress, res1, retV, Value.cells, cond_true, cond_false, Bool.true_or, Bool.false_or, Bool.or_true, Bool.or_false, beq_self_eq_true, if_true, if_false, ite_true, ite_false, decide_true, decide_false, decide_eq_true_eq, reduceIte, Nat.zero_add, Nat.add_zero, and_self, true_and, and_true, List.size_toArray, List.length_cons, List.length_nil, List.append_nil, List.nil_append, Int.toNat_zero, Bool.not_false, Bool.not_true, Bool.not_not, Bool.false_eq_true, Bool.true_eq_false, reduceCtorEq, Int.reduceLT, Int.reduceLE, Int.reduceToNat, Int.reduceAdd, Int.reduceSub, Int.reduceMul, Int.reduceNeg, Nat.reduceMul, Nat.reduceAdd, Nat.reduceSub, Nat.reduceBEq, Nat.reduceEqDiff, Nat.reduceLT, Nat.reduceLeDiff, Int.reduceBEq, Int.reduceEq, Nat.reducePow, Int.reducePow, IntWalk.i64_in, IntKind.bits, eqAV, eqL, leafEq, andO, fillV, buildSV, List.getElem?_toArray, List.getElem?_cons_zero, List.getElem?_cons_succ, List.getElem?_nil, Int.reduceGT, Int.reduceGE, Int.reduceBNe, Bool.true_and, Bool.and_true, Bool.false_and, Bool.and_false, Bool.and_self, IntWalk.u64_in, Int.cast_ofNat_Int, callF1, pad16, pad_0, pad_1, pad_2, pad_3, pad_4, pad_5, pad_6, pad_7, pad_8, pad_9, pad_10, pad_11, pad_12, pad_13, pad_14, pad_15, gc0, gc1, gc2, gc3, gc4, gc5, gc6, gc7, gc8, gc9, gc10, gc11, gc12, gc13, gc14, gc15, gcS, sc0, sc1, sc2, sc3, sc4, sc5, sc6, sc7, sc8, sc9, sc10, sc11, sc12, sc13, sc14, sc15, scS, List.drop_succ_cons, List.drop_nil, x_pan, s_pan, b_pan, pE_ret, pE_pan, pE_none, pE_ite, pvE_some, pvE_none, pvE_ite, rv_some, rv_none, rv_ite, oR_ret, t_mv, t_pick, t_alloc, t_box, t_build, t_buildS, t_load, t_store, t_nilck, t_bin, t_eqb, t_eqA, t_eqp, t_un, t_conv, t_field, t_idxA, t_faddr, t_iaddrS, t_iaddrA, t_ext, t_len, t_mm, t_call, t_ifc, t_fn, t_slc, t_slcA, t_slcT, t_tass, t_isn, t_mks, t_app, t_pan, panE_i, optE_none, optE_some, bnd_none, bnd_int, slA_none, slA_some, appR_some, appOld_cells, newsV_n, lenS_s, appV_nil, appV_some, mksV_i, sh_c, sh_g, f_pan, endD_ret, dfr_normal, dfr_ret, dfr_pan, restD_normal, callD1, callC1, tassV, isnV, slcV, slcAV, slcTV, slcB, appNew, Option.bind_some, Option.bind_none, d_pan, h_pan, wrH_eq, wrX_cells, wrU_some, upH_nil, upH_cons, lk_upH, effR_some, effR_none, effR_ite, Option.isNone_none, Option.isNone_some, slA_zero, call_yield, e_range, it_func, wy_same, y_call, isLp_self, beg_normal, end_normal, end_ret, end_exit, end_ite, aft_ret, aft_ready, aft_done, aft_exit, setP_cons, setP_nil, sh_r, t_mkmap, t_mlook, t_mupd, t_mdel, t_eqs, t_appZ, t_cpy, eqsV, mapF_some, lookF_some, setM_some, lookR_t, lookR_n, lookR_f, lookR_fn, lookV, mupdV, mdelV, mkM]
  have main : ∀ (ts' : List Value), KTh xp xt (N2.n 0) q (.slice al l.length cl) va vb z (N21.n 0) (N23.n 0) (N25.n 0) vz kk p cc ts' → ∀ F, 1000 ≤ F → Ok (exec B { f := Glaw16WlogTwice B } F lbF2 ⟨ts', ((N25.n 0, .cells [vy] 1) :: H25), (sh N25)⟩) (fun r s => r = .normal ∧ good B s.H s.N ∧ Fr ((N25.n 0, .cells [vy] 1) :: H25) s.H ∧ ∃ u vu, KTu xp xt (N2.n 0) q (.slice al l.length cl) va vb z (N21.n 0) (N23.n 0) (N25.n 0) u s.t ∧ B u = none ∧ lk s.H u = some (.cells [vu] 1) ∧ SlW c2 2 B s.H vu (lay (withW Z (lgA p h (q : Int)) (packW p h (l.drop k ++ l.take k)) (LG p h)) (l.drop k ++ l.take k) (l.drop k ++ l.take k).length)) := fun ts' kp' F hF =>
    fork2 hT C hqp sz hZl sb hwl' hWs' lE3 lR3 g26 b_c b_z q_c q_z kp' hF
  generalize hX : exec B _ _ (LC.fork _ _) _ = o
  obtain ⟨_, ⟨ts2, H40, N40⟩, rfl, rfl, g40, f40, u, vu, kp2, bu, lu, su⟩ := (show Ok o _ by rw [← hX]; exact main _ ⟨by simp (maxSteps := 10000000) (disch := omega) only [ kp.l, kp.t3, kp.t4, kp.t11, kp.t12, kp.t13, kp.t14, kp.t16, kp.t18, kp.t20, lenV_sl, Int.toNat_natCast, bft, btf, gtst, st_len, Nat.reduceAdd, Int.cast_ofNat_Int, cond_true, cond_false, Nat.reduceBEq, Nat.reduceLT, decide_true, beq_self_eq_true, if_true, if_false, Int.cast_ofNat_Int], by simp (maxSteps := 10000000) (disch := omega) only [ kp.l, kp.t3, kp.t4, kp.t11, kp.t12, kp.t13, kp.t14, kp.t16, kp.t18, kp.t20, lenV_sl, Int.toNat_natCast, bft, btf, gtst, st_len, Nat.reduceAdd, Int.cast_ofNat_Int, cond_true, cond_false, Nat.reduceBEq, Nat.reduceLT, decide_true, beq_self_eq_true, if_true, if_false, Int.cast_ofNat_Int], by simp (maxSteps := 10000000) (disch := omega) only [ kp.l, kp.t3, kp.t4, kp.t11, kp.t12, kp.t13, kp.t14, kp.t16, kp.t18, kp.t20, lenV_sl, Int.toNat_natCast, bft, btf, gtst, st_len, Nat.reduceAdd, Int.cast_ofNat_Int, cond_true, cond_false, Nat.reduceBEq, Nat.reduceLT, decide_true, beq_self_eq_true, if_true, if_false, Int.cast_ofNat_Int], by simp (maxSteps := 10000000) (disch := omega) only [ kp.l, kp.t3, kp.t4, kp.t11, kp.t12, kp.t13, kp.t14, kp.t16, kp.t18, kp.t20, lenV_sl, Int.toNat_natCast, bft, btf, gtst, st_len, Nat.reduceAdd, Int.cast_ofNat_Int, cond_true, cond_false, Nat.reduceBEq, Nat.reduceLT, decide_true, beq_self_eq_true, if_true, if_false, Int.cast_ofNat_Int], by simp (maxSteps := 10000000) (disch := omega) only [ kp.l, kp.t3, kp.t4, kp.t11, kp.t12, kp.t13, kp.t14, kp.t16, kp.t18, kp.t20, lenV_sl, Int.toNat_natCast, bft, btf, gtst, st_len, Nat.reduceAdd, Int.cast_ofNat_Int, cond_true, cond_false, Nat.reduceBEq, Nat.reduceLT, decide_true, beq_self_eq_true, if_true, if_false, Int.cast_ofNat_Int], by simp (maxSteps := 10000000) (disch := omega) only [ kp.l, kp.t3, kp.t4, kp.t11, kp.t12, kp.t13, kp.t14, kp.t16, kp.t18, kp.t20, lenV_sl, Int.toNat_natCast, bft, btf, gtst, st_len, Nat.reduceAdd, Int.cast_ofNat_Int, cond_true, cond_false, Nat.reduceBEq, Nat.reduceLT, decide_true, beq_self_eq_true, if_true, if_false, Int.cast_ofNat_Int], by simp (maxSteps := 10000000) (disch := omega) only [ kp.l, kp.t3, kp.t4, kp.t11, kp.t12, kp.t13, kp.t14, kp.t16, kp.t18, kp.t20, lenV_sl, Int.toNat_natCast, bft, btf, gtst, st_len, Nat.reduceAdd, Int.cast_ofNat_Int, cond_true, cond_false, Nat.reduceBEq, Nat.reduceLT, decide_true, beq_self_eq_true, if_true, if_false, Int.cast_ofNat_Int], by simp (maxSteps := 10000000) (disch := omega) only [ kp.l, kp.t3, kp.t4, kp.t11, kp.t12, kp.t13, kp.t14, kp.t16, kp.t18, kp.t20, lenV_sl, Int.toNat_natCast, bft, btf, gtst, st_len, Nat.reduceAdd, Int.cast_ofNat_Int, cond_true, cond_false, Nat.reduceBEq, Nat.reduceLT, decide_true, beq_self_eq_true, if_true, if_false, Int.cast_ofNat_Int], by simp (maxSteps := 10000000) (disch := omega) only [ kp.l, kp.t3, kp.t4, kp.t11, kp.t12, kp.t13, kp.t14, kp.t16, kp.t18, kp.t20, lenV_sl, Int.toNat_natCast, bft, btf, gtst, st_len, Nat.reduceAdd, Int.cast_ofNat_Int, cond_true, cond_false, Nat.reduceBEq, Nat.reduceLT, decide_true, beq_self_eq_true, if_true, if_false, Int.cast_ofNat_Int], by simp (maxSteps := 10000000) (disch := omega) only [ kp.l, kp.t3, kp.t4, kp.t11, kp.t12, kp.t13, kp.t14, kp.t16, kp.t18, kp.t20, lenV_sl, Int.toNat_natCast, bft, btf, gtst, st_len, Nat.reduceAdd, Int.cast_ofNat_Int, cond_true, cond_false, Nat.reduceBEq, Nat.reduceLT, decide_true, beq_self_eq_true, if_true, if_false, Int.cast_ofNat_Int], by simp (maxSteps := 10000000) (disch := omega) only [ kp.l, kp.t3, kp.t4, kp.t11, kp.t12, kp.t13, kp.t14, kp.t16, kp.t18, kp.t20, lenV_sl, Int.toNat_natCast, bft, btf, gtst, st_len, Nat.reduceAdd, Int.cast_ofNat_Int, cond_true, cond_false, Nat.reduceBEq, Nat.reduceLT, decide_true, beq_self_eq_true, if_true, if_false, Int.cast_ofNat_Int], by simp (maxSteps := 10000000) (disch := omega) only [ kp.l, kp.t3, kp.t4, kp.t11, kp.t12, kp.t13, kp.t14, kp.t16, kp.t18, kp.t20, lenV_sl, Int.toNat_natCast, bft, btf, gtst, st_len, Nat.reduceAdd, Int.cast_ofNat_Int, cond_true, cond_false, Nat.reduceBEq, Nat.reduceLT, decide_true, beq_self_eq_true, if_true, if_false, Int.cast_ofNat_Int], by simp (maxSteps := 10000000) (disch := omega) only [ kp.l, kp.t3, kp.t4, kp.t11, kp.t12, kp.t13, kp.t14, kp.t16, kp.t18, kp.t20, lenV_sl, Int.toNat_natCast, bft, btf, gtst, st_len, Nat.reduceAdd, Int.cast_ofNat_Int, cond_true, cond_false, Nat.reduceBEq, Nat.reduceLT, decide_true, beq_self_eq_true, if_true, if_false, Int.cast_ofNat_Int], by simp (maxSteps := 10000000) (disch := omega) only [ kp.l, kp.t3, kp.t4, kp.t11, kp.t12, kp.t13, kp.t14, kp.t16, kp.t18, kp.t20, lenV_sl, Int.toNat_natCast, bft, btf, gtst, st_len, Nat.reduceAdd, Int.cast_ofNat_Int, cond_true, cond_false, Nat.reduceBEq, Nat.reduceLT, decide_true, beq_self_eq_true, if_true, if_false, Int.cast_ofNat_Int], by simp (maxSteps := 10000000) (disch := omega) only [ kp.l, kp.t3, kp.t4, kp.t11, kp.t12, kp.t13, kp.t14, kp.t16, kp.t18, kp.t20, lenV_sl, Int.toNat_natCast, bft, btf, gtst, st_len, Nat.reduceAdd, Int.cast_ofNat_Int, cond_true, cond_false, Nat.reduceBEq, Nat.reduceLT, decide_true, beq_self_eq_true, if_true, if_false, Int.cast_ofNat_Int], by simp (maxSteps := 10000000) (disch := omega) only [ kp.l, kp.t3, kp.t4, kp.t11, kp.t12, kp.t13, kp.t14, kp.t16, kp.t18, kp.t20, lenV_sl, Int.toNat_natCast, bft, btf, gtst, st_len, Nat.reduceAdd, Int.cast_ofNat_Int, cond_true, cond_false, Nat.reduceBEq, Nat.reduceLT, decide_true, beq_self_eq_true, if_true, if_false, Int.cast_ofNat_Int], by simp (maxSteps := 10000000) (disch := omega) only [ kp.l, kp.t3, kp.t4, kp.t11, kp.t12, kp.t13, kp.t14, kp.t16, kp.t18, kp.t20, lenV_sl, Int.toNat_natCast, bft, btf, gtst, st_len, Nat.reduceAdd, Int.cast_ofNat_Int, cond_true, cond_false, Nat.reduceBEq, Nat.reduceLT, decide_true, beq_self_eq_true, if_true, if_false, Int.cast_ofNat_Int], by simp (maxSteps := 10000000) (disch := omega) only [ kp.l, kp.t3, kp.t4, kp.t11, kp.t12, kp.t13, kp.t14, kp.t16, kp.t18, kp.t20, lenV_sl, Int.toNat_natCast, bft, btf, gtst, st_len, Nat.reduceAdd, Int.cast_ofNat_Int, cond_true, cond_false, Nat.reduceBEq, Nat.reduceLT, decide_true, beq_self_eq_true, if_true, if_false, Int.cast_ofNat_Int], by simp (maxSteps := 10000000) (disch := omega) only [ kp.l, kp.t3, kp.t4, kp.t11, kp.t12, kp.t13, kp.t14, kp.t16, kp.t18, kp.t20, lenV_sl, Int.toNat_natCast, bft, btf, gtst, st_len, Nat.reduceAdd, Int.cast_ofNat_Int, cond_true, cond_false, Nat.reduceBEq, Nat.reduceLT, decide_true, beq_self_eq_true, if_true, if_false, Int.cast_ofNat_Int], by simp (maxSteps := 10000000) (disch := omega) only [ kp.l, kp.t3, kp.t4, kp.t11, kp.t12, kp.t13, kp.t14, kp.t16, kp.t18, kp.t20, lenV_sl, Int.toNat_natCast, bft, btf, gtst, st_len, Nat.reduceAdd, Int.cast_ofNat_Int, cond_true, cond_false, Nat.reduceBEq, Nat.reduceLT, decide_true, beq_self_eq_true, if_true, if_false, Int.cast_ofNat_Int], by simp (maxSteps := 10000000) (disch := omega) only [ kp.l, kp.t3, kp.t4, kp.t11, kp.t12, kp.t13, kp.t14, kp.t16, kp.t18, kp.t20, lenV_sl, Int.toNat_natCast, bft, btf, gtst, st_len, Nat.reduceAdd, Int.cast_ofNat_Int, cond_true, cond_false, Nat.reduceBEq, Nat.reduceLT, decide_true, beq_self_eq_true, if_true, if_false, Int.cast_ofNat_Int]⟩ _ (by omega))
  simp only at g40 f40 kp2 lu su
  clear kp main
  have kp := kp2
  have q_c := f40 _ _ q_c
  have q_m := f40 _ _ q_m
  have q_x := f40 _ _ q_x
  have q_y := f40 _ _ q_y
  have q_u := lu
  have b_u := bu
  have rb_u := fun o n => rdB_none (o := o) (n := n) b_u
  have sl := sl.mono f40
  have sm := sm.mono f40
  have sx := sx.mono f40
  have sy := sy.mono f40
  have q_c40 := q_c
  have m_c40 := ne_N g40 q_c40
  have q_m40 := q_m
  have m_m40 := ne_N g40 q_m40
  have q_x40 := q_x
  have m_x40 := ne_N g40 q_x40
  have q_y40 := q_y
  have m_y40 := ne_N g40 q_y40
  have q_u40 := q_u
  have m_u40 := ne_N g40 q_u40
  have hB40 := good_B g40
  have hR40 := good_rdB g40
  obtain ⟨H41, N41, e41, g41, f41⟩ := sameM g40 (sx.rd c2_len) (sy.rd c2_len) (by omega)
  have q_c := f41 _ _ q_c
  have q_m := f41 _ _ q_m
  have q_x := f41 _ _ q_x
  have q_y := f41 _ _ q_y
  have q_u := f41 _ _ q_u
  have sl := sl.mono f41
  have sm := sm.mono f41
  have sx := sx.mono f41
  have sy := sy.mono f41
  have su := su.mono f41
  have q_c41 := q_c
  have m_c41 := ne_N g41 q_c41
  have q_m41 := q_m
  have m_m41 := ne_N g41 q_m41
  have q_x41 := q_x
  have m_x41 := ne_N g41 q_x41
  have q_y41 := q_y
  have m_y41 := ne_N g41 q_y41
  have q_u41 := q_u
  have m_u41 := ne_N g41 q_u41
  have hB41 := good_B g41
  have hR41 := good_rdB g41
  have hI41 := beqN g41.1.1
  rw [decide_eq_true rfl] at e41
  have hlx := (sx.rd c2_len).len
  have hlm := (sm.rd c2_len).len
  have hlu := (su.rd c2_len).len
  rw [hXl, hWl] at hlx
  rw [hWl] at hlm
  rw [hUl, hWl'] at hlu
  have main : ∀ (ts' : List Value), KTl (N2.n 0) q (.slice al l.length cl) (N21.n 0) (N23.n 0) u 0 ts' → ∀ F, 900000 ≤ F → Ok (exec B { f := Glaw16WlogTwice B } F (LC.loop lbTo) ⟨ts', H41, N41⟩) (fun r s => r = .exit 0 ∧ ∃ i, KTl (N2.n 0) q (.slice al l.length cl) (N21.n 0) (N23.n 0) u i s.t) := fun ts' kp' F hF =>
    loopTo hT C hqp (by omega) hok (by omega) sl (sm.rd c2_len) (sx.rd c2_len) (su.rd c2_len) (by omega) hUX g41 b_c b_m b_x b_u q_c q_m q_x q_u kp' (by omega)
  simp -implicitDefEqProofs (maxSteps := 10000000) (disch := omega) only [Tlaw16WlogTwice, Llaw16WlogTwice, Glaw16WlogTwice_9, V9_eq, Glaw16WlogTwice_law16Conf, Vlaw16Conf_eq, Glaw16WlogTwice_law16Memory, Glaw16WlogTwice_law16With, Glaw16WlogTwice_law16Writes, Glaw16WlogTwice_law16awake, Glaw16WlogTwice_law16pick, Vlaw16pick_eq, Glaw16WlogTwice_ref03Same, Glaw16WlogTwice_ref16Most, Vref16Most_eq, Glaw16WlogTwice_ref16Wipe, Glaw16WlogTwice_wlogLay, Glaw16WlogTwice_wlogPack, hB, hR, hI, kp.l, kp.t3, kp.t4, kp.t11, kp.t12, kp.t13, kp.t14, kp.t16, kp.t18, kp.t20, kp.t22, kp.t23, kp.t24, kp.t25, kp.t26, kp.t27, kp.t28, lenV_sl, Int.toNat_natCast, bft, btf, gtst, st_len, q_c40, m_c40, b_c, rb_c, q_m40, m_m40, b_m, rb_m, q_x40, m_x40, b_x, rb_x, q_y40, m_y40, b_y, rb_y, q_u40, m_u40, b_u, rb_u, hB40, hR40, q_c41, m_c41, q_m41, m_m41, q_x41, m_x41, q_y41, m_y41, q_u41, m_u41, e41, hB41, hR41, hI41, hlx, hlm, hlu, bne_self_eq_false, pad, e_skip, e_ops, e_draw, shg_n, shg_c, shg_g, shg_r, d_none, d_nil, d_cons, d_ite, h_none, h_nil, h_cons, h_ite, eqS_same, lightV, e_seq, e_cond, e_block, e_exit, e_ret, s_normal, s_ret, s_exit, s_none, s_ite, b_normal, b_ret, b_exit, b_none, b_ite, c_bool, x_none, x_nil, x_cons, x_ite, p_some, p_none, p_ite, pt_some, pt_none, pv_some, pv_none, pv_ite, w_none, w_some, i_bool, i_undef, bt, bf, v_tmp, v_const, v_global, v_func, evs, f_normal, f_ret, f_none, f_ite, r_some, co_some, l_ptr, m_agg, m_one, sh_app, lk_nil, lk_cons, rd_eq, rdO_some, rdO_none, rdN_none, rdL_some, rdL_none, wrB_none, unitR_some, wr_nil, wr_here, wr_skip, k_cells, tk_zero, tk_take, tk_skip, tkC_some, call_func, gt, st, binV, arith, isSh, storeV, all1, idxAV, fieldV, faddrV, iaddrSV, iaddrAV, pickV, convV, unV, eqbV, eqpV, extV, mm2, mmV, nilckV, ress, res1, retV, Value.cells, cond_true, cond_false, Bool.true_or, Bool.false_or, Bool.or_true, Bool.or_false, beq_self_eq_true, if_true, if_false, ite_true, ite_false, decide_true, decide_false, decide_eq_true_eq, reduceIte, Nat.zero_add, Nat.add_zero, and_self, true_and, and_true, List.size_toArray, List.length_cons, List.length_nil, List.append_nil, List.nil_append, Int.toNat_zero, Bool.not_false, Bool.not_true, Bool.not_not, Bool.false_eq_true, Bool.true_eq_false, reduceCtorEq, Int.reduceLT, Int.reduceLE, Int.reduceToNat, Int.reduceAdd, Int.reduceSub, Int.reduceMul, Int.reduceNeg, Nat.reduceMul, Nat.reduceAdd, Nat.reduceSub, Nat.reduceBEq, Nat.reduceEqDiff, Nat.reduceLT, Nat.reduceLeDiff, Int.reduceBEq, Int.reduceEq, Nat.reducePow, Int.reducePow, IntWalk.i64_in, IntKind.bits, eqAV, eqL, leafEq, andO, fillV, buildSV, List.getElem?_toArray, List.getElem?_cons_zero, List.getElem?_cons_succ, List.getElem?_nil, Int.reduceGT, Int.reduceGE, Int.reduceBNe, Bool.true_and, Bool.and_true, Bool.false_and, Bool.and_false, Bool.and_self, IntWalk.u64_in, Int.cast_ofNat_Int, callF1, pad16, pad_0, pad_1, pad_2, pad_3, pad_4, pad_5, pad_6, pad_7, pad_8, pad_9, pad_10, pad_11, pad_12, pad_13, pad_14, pad_15, gc0, gc1, gc2, gc3, gc4, gc5, gc6, gc7, gc8, gc9, gc10, gc11, gc12, gc13, gc14, gc15, gcS, sc0, sc1, sc2, sc3, sc4, sc5, sc6, sc7, sc8, sc9, sc10, sc11, sc12, sc13, sc14, sc15, scS, List.drop_succ_cons, List.drop_nil, x_pan, s_pan, b_pan, pE_ret, pE_pan, pE_none, pE_ite, pvE_some, pvE_none, pvE_ite, rv_some, rv_none, rv_ite, oR_ret, t_mv, t_pick, t_alloc, t_box, t_build, t_buildS, t_load, t_store, t_nilck, t_bin, t_eqb, t_eqA, t_eqp, t_un, t_conv, t_field, t_idxA, t_faddr, t_iaddrS, t_iaddrA, t_ext, t_len, t_mm, t_call, t_ifc, t_fn, t_slc, t_slcA, t_slcT, t_tass, t_isn, t_mks, t_app, t_pan, panE_i, optE_none, optE_some, bnd_none, bnd_int, slA_none, slA_some, appR_some, appOld_cells, newsV_n, lenS_s, appV_nil, appV_some, mksV_i, sh_c, sh_g, f_pan, endD_ret, dfr_normal, dfr_ret, dfr_pan, restD_normal, callD1, callC1, tassV, isnV, slcV, slcAV, slcTV, slcB, appNew, Option.bind_some, Option.bind_none, d_pan, h_pan, wrH_eq, wrX_cells, wrU_some, upH_nil, upH_cons, lk_upH, effR_some, effR_none, effR_ite, Option.isNone_none, Option.isNone_some, slA_zero, call_yield, e_range, it_func, wy_same, y_call, isLp_self, beg_normal, end_normal, end_ret, end_exit, end_ite, aft_ret, aft_ready, aft_done, aft_exit, setP_cons, setP_nil, sh_r, t_mkmap, t_mlook, t_mupd, t_mdel, t_eqs, t_appZ, t_cpy, eqsV, mapF_some, lookF_some, setM_some, lookR_t, lookR_n, lookR_f, lookR_fn, lookV, mupdV, mdelV, mkM]
  generalize hX : exec B _ _ (LC.loop _) _ = o
  obtain ⟨_, ⟨ts3, H50, N50⟩, rfl, rfl, i, kp3⟩ := (show Ok o _ by rw [← hX]; exact main _ ⟨by simp (maxSteps := 10000000) (disch := omega) only [ kp.l, kp.t3, kp.t4, kp.t11, kp.t12, kp.t13, kp.t14, kp.t16, kp.t18, kp.t20, kp.t22, kp.t23, kp.t24, kp.t25, kp.t26, kp.t27, kp.t28, lenV_sl, Int.toNat_natCast, bft, btf, gtst, st_len, Nat.reduceAdd, Int.cast_ofNat_Int, cond_true, cond_false, Nat.reduceBEq, Nat.reduceLT, decide_true, beq_self_eq_true, if_true, if_false, Int.cast_ofNat_Int], by simp (maxSteps := 10000000) (disch := omega) only [ kp.l, kp.t3, kp.t4, kp.t11, kp.t12, kp.t13, kp.t14, kp.t16, kp.t18, kp.t20, kp.t22, kp.t23, kp.t24, kp.t25, kp.t26, kp.t27, kp.t28, lenV_sl, Int.toNat_natCast, bft, btf, gtst, st_len, Nat.reduceAdd, Int.cast_ofNat_Int, cond_true, cond_false, Nat.reduceBEq, Nat.reduceLT, decide_true, beq_self_eq_true, if_true, if_false, Int.cast_ofNat_Int], by simp (maxSteps := 10000000) (disch := omega) only [ kp.l, kp.t3, kp.t4, kp.t11, kp.t12, kp.t13, kp.t14, kp.t16, kp.t18, kp.t20, kp.t22, kp.t23, kp.t24, kp.t25, kp.t26, kp.t27, kp.t28, lenV_sl, Int.toNat_natCast, bft, btf, gtst, st_len, Nat.reduceAdd, Int.cast_ofNat_Int, cond_true, cond_false, Nat.reduceBEq, Nat.reduceLT, decide_true, beq_self_eq_true, if_true, if_false, Int.cast_ofNat_Int], by simp (maxSteps := 10000000) (disch := omega) only [ kp.l, kp.t3, kp.t4, kp.t11, kp.t12, kp.t13, kp.t14, kp.t16, kp.t18, kp.t20, kp.t22, kp.t23, kp.t24, kp.t25, kp.t26, kp.t27, kp.t28, lenV_sl, Int.toNat_natCast, bft, btf, gtst, st_len, Nat.reduceAdd, Int.cast_ofNat_Int, cond_true, cond_false, Nat.reduceBEq, Nat.reduceLT, decide_true, beq_self_eq_true, if_true, if_false, Int.cast_ofNat_Int], by simp (maxSteps := 10000000) (disch := omega) only [ kp.l, kp.t3, kp.t4, kp.t11, kp.t12, kp.t13, kp.t14, kp.t16, kp.t18, kp.t20, kp.t22, kp.t23, kp.t24, kp.t25, kp.t26, kp.t27, kp.t28, lenV_sl, Int.toNat_natCast, bft, btf, gtst, st_len, Nat.reduceAdd, Int.cast_ofNat_Int, cond_true, cond_false, Nat.reduceBEq, Nat.reduceLT, decide_true, beq_self_eq_true, if_true, if_false, Int.cast_ofNat_Int], by simp (maxSteps := 10000000) (disch := omega) only [ kp.l, kp.t3, kp.t4, kp.t11, kp.t12, kp.t13, kp.t14, kp.t16, kp.t18, kp.t20, kp.t22, kp.t23, kp.t24, kp.t25, kp.t26, kp.t27, kp.t28, lenV_sl, Int.toNat_natCast, bft, btf, gtst, st_len, Nat.reduceAdd, Int.cast_ofNat_Int, cond_true, cond_false, Nat.reduceBEq, Nat.reduceLT, decide_true, beq_self_eq_true, if_true, if_false, Int.cast_ofNat_Int], by simp (maxSteps := 10000000) (disch := omega) only [ kp.l, kp.t3, kp.t4, kp.t11, kp.t12, kp.t13, kp.t14, kp.t16, kp.t18, kp.t20, kp.t22, kp.t23, kp.t24, kp.t25, kp.t26, kp.t27, kp.t28, lenV_sl, Int.toNat_natCast, bft, btf, gtst, st_len, Nat.reduceAdd, Int.cast_ofNat_Int, cond_true, cond_false, Nat.reduceBEq, Nat.reduceLT, decide_true, beq_self_eq_true, if_true, if_false, Int.cast_ofNat_Int], by simp (maxSteps := 10000000) (disch := omega) only [ kp.l, kp.t3, kp.t4, kp.t11, kp.t12, kp.t13, kp.t14, kp.t16, kp.t18, kp.t20, kp.t22, kp.t23, kp.t24, kp.t25, kp.t26, kp.t27, kp.t28, lenV_sl, Int.toNat_natCast, bft, btf, gtst, st_len, Nat.reduceAdd, Int.cast_ofNat_Int, cond_true, cond_false, Nat.reduceBEq, Nat.reduceLT, decide_true, beq_self_eq_true, if_true, if_false, Int.cast_ofNat_Int], by simp (maxSteps := 10000000) (disch := omega) only [ kp.l, kp.t3, kp.t4, kp.t11, kp.t12, kp.t13, kp.t14, kp.t16, kp.t18, kp.t20, kp.t22, kp.t23, kp.t24, kp.t25, kp.t26, kp.t27, kp.t28, lenV_sl, Int.toNat_natCast, bft, btf, gtst, st_len, Nat.reduceAdd, Int.cast_ofNat_Int, cond_true, cond_false, Nat.reduceBEq, Nat.reduceLT, decide_true, beq_self_eq_true, if_true, if_false, Int.cast_ofNat_Int]⟩ _ (by omega))
  simp only at kp3
  clear kp main
  have kp := kp3
  simp -implicitDefEqProofs (maxSteps := 10000000) (disch := omega) only [Tlaw16WlogTwice, Llaw16WlogTwice, Glaw16WlogTwice_9, V9_eq, Glaw16WlogTwice_law16Conf, Vlaw16Conf_eq, Glaw16WlogTwice_law16Memory, Glaw16WlogTwice_law16With, Glaw16WlogTwice_law16Writes, Glaw16WlogTwice_law16awake, Glaw16WlogTwice_law16pick, Vlaw16pick_eq, Glaw16WlogTwice_ref03Same, Glaw16WlogTwice_ref16Most, Vref16Most_eq, Glaw16WlogTwice_ref16Wipe, Glaw16WlogTwice_wlogLay, Glaw16WlogTwice_wlogPack, hB, hR, hI, kp.l, kp.t11, kp.t12, kp.t13, kp.t14, kp.t22, kp.t23, kp.t27, kp.t29, lenV_sl, Int.toNat_natCast, bft, btf, gtst, st_len, pad, lightV, bt, bf, evs, gt, st, binV, arith, isSh, storeV, all1, idxAV, fieldV, faddrV, iaddrSV, iaddrAV, pickV, convV, unV, eqbV, eqpV, extV, mm2, mmV, nilckV, ress, res1, retV, Value.cells, reduceIte, reduceCtorEq, Int.reduceLT, Int.reduceLE, Int.reduceToNat, Int.reduceAdd, Int.reduceSub, Int.reduceMul, Int.reduceNeg, Nat.reduceMul, Nat.reduceAdd, Nat.reduceSub, Nat.reduceBEq, Nat.reduceEqDiff, Nat.reduceLT, Nat.reduceLeDiff, Int.reduceBEq, Int.reduceEq, Nat.reducePow, Int.reducePow, IntWalk.i64_in, IntKind.bits, eqAV, eqL, leafEq, andO, fillV, buildSV, Int.reduceGT, Int.reduceGE, Int.reduceBNe, IntWalk.u64_in, newsV_s, tassV, isnV, slcV, slcAV, slcTV, slcB, appNew, Option.bind_some, Option.bind_none, eqsV, lookV, mupdV, mdelV, mkM, ev1, ev2]
  exact ⟨_, _, rfl⟩
end Go.Proofs.YtfhiplfagejfoaaDoor
namespace Go.Proofs.YtfhiplfagejfoaaDoor
open Go.Proofs.YtfhiplfagejfoaaDoor.K Go.ChangeShapes Go.WideShapes Go.ChangeAt Go.RowKit
set_option maxRecDepth 100000
set_option linter.unusedSimpArgs false
set_option linter.unusedVariables false

theorem gObj : Tryd.prog.globalNamed "whitewash/region.objects" = some 0 := by kernel_rfl
theorem gObjT : (Tryd.prog.globals[0]?).map (·.type) = some 129 := by kernel_rfl
theorem leafsObj : leafs Tryd.prog 12 129 = some [.int .i64, .int .i64, .int .i64, .int .i64, .int .i64, .int .i64, .int .i64, .int .i64, .int .i64, .int .i64, .int .i64, .int .i64] := by kernel_rfl
theorem tab {W : World} (h : laidMetH Tryd.prog Rows.wlogTwiceRow.laid W) : Tab (startB W) := by
  obtain ⟨ps, hv, _⟩ := laidMet_of_H (by rfl) h
  obtain ⟨a1, e1, f1, h1, l1⟩ := laid_cells hv (n := "whitewash/region.objects") (x := Rows.laid_whitewash_region_objects) (by simp [Rows.wlogTwiceRow]) 12 gObj gObjT leafsObj
  have hw : rdB (startB W) 0 0 12 = some OBJ := rdB_whole h1 l1 (by rfl)
  intro i hi
  have := rdB_sub (i := i * 2) (k := 2) hw (by omega)
  rwa [Nat.zero_add] at this
namespace wlogTwice
theorem own : ownKnob Tryd.prog.godebug = none := by kernel_rfl
theorem laidOut : laidOutB Tryd.prog = true := by kernel_rfl
theorem typesOk : (Tryd.f5.params.toList.all fun t => Tryd.prog.readableRec t && decide (t < Tryd.prog.types.size)) = true := by kernel_rfl
theorem contract (H : Type) (enc : TypeId × Value → H) (W : World) (base : Nat) (args : Array Value) (ds gs : List (DataW H)) (before : List MemPlace)
    (hval : ∀ (j : Nat) t v, Tryd.f5.params[j]? = some t → args[j]? = some v → Value.okWide Tryd.prog W .any base t v)
    (hW : DataW.Whole enc Tryd.prog Tryd.f5.params.toList Rows.wlogTwiceSpec.vars false W args.toList ds gs before) (hL : laidMetH Tryd.prog Rows.wlogTwiceRow.laid W) :
    Calls Tryd.prog 5 args W fun e W' => ∃ v, e = .returned v ∧ Rows.wlogTwiceSpec.post enc Tryd.prog Tryd.f5 false true false false W args v W' := by
  have hW' := hW
  obtain ⟨p, q, hA0, hV, hpq, hfz, hnd⟩ := hW
  have hA : DataW.TrodAll enc Tryd.prog W 0 (fun _ => true) true Tryd.f5.params.toList args.toList ds p := hA0
  rw [Tryd.params5] at hA hval
  obtain ⟨v0, vs0, d0, ds0, p0, q0, hargs, rfl, rfl, h0, r0⟩ := trodAll_cons hA
  obtain ⟨v1, vs1, d1, ds1, p1, q1, rfl, rfl, rfl, h1, r1⟩ := trodAll_cons r0
  obtain ⟨v2, vs2, d2, ds2, p2, q2, rfl, rfl, rfl, h2, r2⟩ := trodAll_cons r1
  obtain ⟨v3, vs3, d3, ds3, p3, q3, rfl, rfl, rfl, h3, r3⟩ := trodAll_cons r2
  obtain ⟨v4, vs4, d4, ds4, p4, q4, rfl, rfl, rfl, h4, r4⟩ := trodAll_cons r3
  obtain ⟨rfl, rfl, rfl⟩ := trodAll_nil r4
  obtain rfl : args = #[v0, v1, v2, v3, v4] := by apply Array.ext'; simpa using hargs
  obtain ⟨rfl, rfl⟩ := trodVars_none hV
  obtain ⟨m0, rfl, k0⟩ := open_flat (P := Tryd.prog) 20 (show aggB Tryd.prog 22 = some true by kernel_rfl) (show leafs Tryd.prog 20 22 = some [.int .i64, .int .i64, .int .i64] by kernel_rfl) (hval 0 22 v0 rfl rfl) h0
  obtain ⟨x0_0, m0_0, rfl, w0_0, k0_1⟩ := k0.int
  have b0_0 := i64_wf w0_0
  obtain ⟨x0_1, m0_1, rfl, w0_1, k0_2⟩ := k0_1.int
  have b0_1 := i64_wf w0_1
  obtain ⟨x0_2, m0_2, rfl, w0_2, k0_3⟩ := k0_2.int
  have b0_2 := i64_wf w0_2
  obtain rfl := k0_3.none
  have s1 := open_flats (P := Tryd.prog) 20 Tryd.underlying29 (show leafs Tryd.prog 20 22 = some [.int .i64, .int .i64, .int .i64] by kernel_rfl) (show Tryd.prog.cellsOf 22 = 3 by kernel_rfl) (by decide) (hval 1 29 v1 rfl rfl) h1
  have s2 := open_flats (P := Tryd.prog) 20 Tryd.underlying25 (show leafs Tryd.prog 20 51 = some [.int .i64, .int .i64] by kernel_rfl) (show Tryd.prog.cellsOf 51 = 2 by kernel_rfl) (by decide) (hval 2 25 v2 rfl rfl) h2
  obtain ⟨x3, rfl, rfl, rfl, w3⟩ := open_int Tryd.underlying3 (hval 3 3 v3 rfl rfl) h3
  have b3 := i64_wf w3
  obtain ⟨x4, rfl, rfl, rfl, w4⟩ := open_int Tryd.underlying3 (hval 4 3 v4 rfl rfl) h4
  have b4 := i64_wf w4
  refine law_post laidOut (fun t ht => by simpa using List.all_eq_true.1 typesOk t ht) rfl (show Tryd.f5.resultTypes = #[4] by rfl) Tryd.underlying4 hW' rfl rfl rfl ?_
  obtain ⟨w, hw, hb⟩ := three_open s1
  obtain ⟨w2, hw2, hb2⟩ := two_open s2
  have hs := callF_sound (w0 := W) (B := startB W) mixedOrders sGlaw16WlogTwice 1000000 Tryd.func5 lowlaw16WlogTwice
  exact law_calls hs (args := [.agg #[.int .i64 x0_0, .int .i64 x0_1, .int .i64 x0_2], v1, v2, .int .i64 x3, .int .i64 x4]) fun N hN => lvTwice (tab hL) hN (hw.rd q3_len) hb (hw2.rd q2_len) hb2 b0_0 b0_1 b0_2 b3 b4

noncomputable def laidWorld (os : Os) : World := laidW Tryd.prog os [(0, OBJ)]
theorem laid_met (os : Os) : laidMet Tryd.prog Rows.wlogTwiceRow.laid ((laidWorld os).forCall (fun _ _ => 0) ⟨#[], #[.agg #[.int .i64 0, .int .i64 0, .int .i64 0], .slice none 0 0, .slice none 0 0, .int .i64 0, .int .i64 0], []⟩).memory :=
  laidMet_of_run' 16 (by kernel_rfl) (by kernel_rfl)
theorem reads (os : Os) {H : Type} (enc : TypeId × Value → H) : ∃ places, DataW.whole enc Tryd.prog ((laidWorld os).forCall (fun _ _ => 0) ⟨#[], #[.agg #[.int .i64 0, .int .i64 0, .int .i64 0], .slice none 0 0, .slice none 0 0, .int .i64 0, .int .i64 0], []⟩).memory Tryd.f5.params.toList Rows.wlogTwiceSpec.vars false (#[.agg #[.int .i64 0, .int .i64 0, .int .i64 0], .slice none 0 0, .slice none 0 0, .int .i64 0, .int .i64 0] : Array Value).toList 16 = some ([.agg [.lit (.int .i64 0), .lit (.int .i64 0), .lit (.int .i64 0)], .nil, .nil, .lit (.int .i64 0), .lit (.int .i64 0)], [], places) :=
  ⟨[], by kernel_rfl⟩
theorem lifted (os : Os) (started : os.Started) (H : Type) (enc : TypeId × Value → H) (F : Stop.Interp) :
    ReturnsInHanded {} Tryd.checked os 5 .any ((OpenSpec.ofChange Rows.wlogTwiceSpec).preRow enc Tryd.prog Tryd.f5 Rows.wlogTwiceRow.domain false Rows.wlogTwiceRow.laid) (((OpenSpec.ofChange Rows.wlogTwiceSpec).at F).post enc Tryd.prog Tryd.f5 false true false false) := by
  obtain ⟨places, hx⟩ := reads os enc
  refine returnsInHanded_of_row (C := Tryd.checked) (s := OpenSpec.ofChange Rows.wlogTwiceSpec) own started (by kernel_rfl) Tryd.func5
    (witness_row_at (enc := enc) (C := Tryd.checked) false (laidWorld os) #[.agg #[.int .i64 0, .int .i64 0, .int .i64 0], .slice none 0 0, .slice none 0 0, .int .i64 0, .int .i64 0] rfl (by kernel_rfl) (by kernel_rfl) (by kernel_rfl)
      (OpenSpec.preRow_of_cond 16 hx (by kernel_rfl) (fun k hk => by cases hk) (by kernel_rfl) (laid_met os))) ?_
  intro W base args ds gs before hval hW _ _ _ hL _ _
  exact contract H enc W base args ds gs before hval hW hL
theorem said : Rows.WlogTwiceSaid :=
  OpenClaim.holds_of_cond 5 Tryd.f5 rfl rfl rfl rfl rfl rfl rfl ⟨rfl, rfl, rfl, rfl, rfl⟩ rfl rfl rfl rfl rfl (by kernel_rfl) Tryd.func5 (by kernel_rfl)
    (of_decide_eq_true (by kernel_rfl)) (by unfold Func.isWrapper; first | (rw [if_pos (by decide +kernel)]; kernel_rfl) | (rw [if_neg (by decide +kernel)]; exact ⟨rfl, rfl⟩))
    (fun os started H enc _ F => by rw [OpenClaim.pre_eq_preRow]; exact lifted os started H enc F)
theorem plain (f : FuncId) (fn : Func) (hf : Tryd.pinned.checked.prog.funcNamed "whitewash/whitewashlaw16.WlogTwice" = some f) (hfn : Tryd.pinned.checked.prog.funcs[f]? = some fn) :
    true = Tryd.pinned.checked.prog.looks [] ∧ ∀ (j : Nat) t, fn.params[j]? = some t → Tryd.pinned.checked.prog.wantsStandIn t = false := by
  obtain rfl : f = 5 := Option.some.inj ((show Tryd.prog.funcNamed "whitewash/whitewashlaw16.WlogTwice" = some 5 by kernel_rfl).symm.trans hf) |>.symm
  obtain rfl : fn = Tryd.f5 := (Option.some.inj (Tryd.func5.symm.trans hfn)).symm
  refine ⟨by kernel_rfl, fun j t ht => ?_⟩
  have hall : (Tryd.f5.params.toList.all fun t => !Tryd.prog.wantsStandIn t) = true := by kernel_rfl
  have := List.all_eq_true.1 hall t (by simpa using Array.mem_of_getElem? ht)
  show Tryd.prog.wantsStandIn t = false
  simpa using this
theorem card : Rows.WlogTwiceCardSaid :=
  Claim7.holds_tied_plain_at .later [] _ _ _ _ said (fun _ h => by cases h) (by kernel_rfl) (fun _ h => by cases h) wlogTwice_row_tie rfl ⟨rfl, rfl⟩ (by kernel_rfl) rfl plain (by kernel_rfl)
end wlogTwice
end Go.Proofs.YtfhiplfagejfoaaDoor
