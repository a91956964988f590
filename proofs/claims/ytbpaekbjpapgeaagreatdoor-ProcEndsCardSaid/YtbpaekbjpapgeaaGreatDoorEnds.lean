/- What is proved: the last six steps of a call lay 0 as its call, its value and its flag, the code first, the flag last; it tells what value and flag told: for every input. -/
import Derived.Test.YtbpaekbjpapgeaaGreatDoorOwnC
import Derived.Test.YtbpaekbjpapgeaaGreatDoorFacts
import Derived.Test.YtbpaekbjpapgeaaGreatDoorRows
import Derived.Test.YtbpaekbjpapgeaaGreatDoorCards
import Derived.Test.YtbpaekbjpapgeaaGreatDoorTie
set_option linter.unusedSimpArgs false
set_option linter.unusedVariables false
namespace Go.Proofs.YtbpaekbjpapgeaaGreatDoor
open Go.Proofs.YtbpaekbjpapgeaaGreatDoor.K Go.ChangeShapes Go.WideShapes Go.ChangeAt Go.RowKit 
set_option maxRecDepth 100000
set_option linter.unusedSimpArgs false
set_option linter.unusedVariables false
set_option maxHeartbeats 8000000 in
theorem loopF {B : OH} {H : HL} {N : St} {M : List C2} {m A R w x bv bw n cap cw : Nat} {rest restW : List Value} (hN : good B H N) (hn : n = M.length) (hAR : A + 3 ≤ R) (hR5 : R + 2 ≤ M.length) (hM : M.length ≤ 900000) (lm : lk H m = some (.cells [.slice (some ⟨bv, 0, none⟩) n cap] 1)) (bm : B m = none) (lw : lk H w = some (.cells [.slice (some ⟨bw, 0, none⟩) M.length cw] 1)) (bbw : B w = none) (hlk : lk H bv = some (.cells (fl c2 (LE M A R 6) ++ rest) (cap * 2))) (bb : B bv = none) (hlkW : lk H bw = some (.cells (fl c2 M ++ restW) (cw * 2))) (bbW : B bw = none) {ts : List Value} (kp : KF m A R w x 0 ts) {F : Nat} (hF : 3000 + M.length + 1 ≤ F) :
    Ok (exec B { f := Glaw18ProcEnds B } F (LC.loop lbF) ⟨ts, H, N⟩) (fun y s => y = .exit 2 ∧ ∃ ts' j, s = ⟨ts', H, N⟩ ∧ KF m A R w x j ts') := by
  refine loop_rule (n0 := 3000) (fun k s => ∃ j : Nat, j ≤ M.length ∧ k = M.length - j ∧ ∃ ts, s = ⟨ts, H, N⟩ ∧ KF m A R w x j ts) _ ?_ M.length _ ⟨0, by omega, by omega, ts, rfl, kp⟩ _ (by omega)
  clear kp hF F ts
  rintro z k s ⟨j, hj, rfl, ts, rfl, kp⟩
  obtain ⟨hB, hR, hI⟩ := gX hN
  have rm := rN bm
  have rw' := rN bbw
  have rb := rN bb
  have rbW := rN bbW
  subst hn
  have j0 : (0 : Int) ≤ (j : Int) := by omega
  have j1 : IntKind.i64.wrap ((j : Int) + 1) = ((j + 1 : Nat) : Int) := by rw [IntWalk.i64_in _ (by omega)]; omega
  have a3 : IntKind.i64.wrap ((A : Int) + 3) = (A : Int) + 3 := IntWalk.i64_in _ (by omega)
  have r1 : IntKind.i64.wrap ((R : Int) + 1) = (R : Int) + 1 := IntWalk.i64_in _ (by omega)
  by_cases hjl : j < M.length
  case neg =>
    have h1 : ¬ (j : Int) < (M.length : Int) := by omega
    simp (disch := omega) only [Tlaw18ProcEnds, Llaw18ProcEnds, Glaw18ProcEnds_10, V10_eq, Glaw18ProcEnds_law16Conf, Vlaw16Conf_eq, Glaw18ProcEnds_law16Memory, Glaw18ProcEnds_law18awake, Glaw18ProcEnds_law18pick, Vlaw18pick_eq, Glaw18ProcEnds_procStep, Glaw18ProcEnds_ref03Own, Glaw18ProcEnds_ref06Told, Vref06Told_eq, Glaw18ProcEnds_ref18Same, Vref18Same_eq, hB, hR, hI, lbF, kp.l, kp.t11, kp.t13, kp.t15, kp.t17, kp.t19, kp.t20, kp.t28, ev5, lm, bm, rm, h1, all1, ress, res1, retV, Value.cells, newsV_s, e_fork, slcV, seval, eV]
    refine ok_some (.inr ⟨by simp, rfl, _, j, rfl, ⟨?_, ?_, ?_, ?_, ?_, ?_, ?_, ?_⟩⟩)
    all_goals simp (disch := omega) only [kp.l, kp.t11, kp.t13, kp.t15, kp.t17, kp.t19, kp.t20, kp.t28, ev5, seval, Int.cast_ofNat_Int, decide_true, ev2]
  have h1 : (j : Int) < (M.length : Int) := by omega
  have hLl := LE_len (M := M) (A := A) (R := R) 6
  have rrW := c2_rr (rest := restW) hjl
  have rrM := c2_rr (L := LE M A R 6) (rest := rest) (i := j) (by rw [hLl]; exact hjl)
  rw [LE_6 hAR (by omega)] at rrM
  by_cases hA : A ≤ j ∧ j < A + 3
  · rw [if_pos (.inl hA)] at rrM
    have c1 : (j : Int) ≥ (A : Int) := by omega
    have c2 : (j : Int) < (A : Int) + 3 := by omega
    have zw : z2.w = 0 := rfl
    have zl : z2.l = 0 := rfl
    rw [zw, zl] at rrM
    simp (disch := omega) only [Tlaw18ProcEnds, Llaw18ProcEnds, Glaw18ProcEnds_10, V10_eq, Glaw18ProcEnds_law16Conf, Vlaw16Conf_eq, Glaw18ProcEnds_law16Memory, Glaw18ProcEnds_law18awake, Glaw18ProcEnds_law18pick, Vlaw18pick_eq, Glaw18ProcEnds_procStep, Glaw18ProcEnds_ref03Own, Glaw18ProcEnds_ref06Told, Vref06Told_eq, Glaw18ProcEnds_ref18Same, Vref18Same_eq, hB, hR, hI, lbF, kp.l, kp.t11, kp.t13, kp.t15, kp.t17, kp.t19, kp.t20, kp.t28, ev5, lm, bm, rm, lw, bbw, rw', hlk, bb, rb, hlkW, bbW, rbW, j0, j1, a3, r1, h1, hjl, Nat.add_zero, Int.add_zero, Option.isNone_some, Option.isNone_none, c1, c2, rrM, all1, ress, res1, retV, Value.cells, newsV_s, e_fork, slcV, seval, eV]
    refine ok_some (.inl ⟨rfl, M.length - (j + 1), by omega, j + 1, by omega, rfl, _, rfl, ⟨?_, ?_, ?_, ?_, ?_, ?_, ?_, ?_⟩⟩)
    all_goals simp (disch := omega) only [kp.l, kp.t11, kp.t13, kp.t15, kp.t17, kp.t19, kp.t20, kp.t28, ev5, seval, Int.cast_ofNat_Int, decide_true, ev2]
  by_cases hR' : j = R
  · rw [if_pos (.inr (.inl hR'))] at rrM
    have c1 : (j : Int) ≥ (A : Int) := by omega
    have c2 : ¬ (j : Int) < (A : Int) + 3 := by omega
    have c3 : ((j : Int) == (R : Int)) = true := by simp; omega
    have zw : z2.w = 0 := rfl
    have zl : z2.l = 0 := rfl
    rw [zw, zl] at rrM
    simp (disch := omega) only [Tlaw18ProcEnds, Llaw18ProcEnds, Glaw18ProcEnds_10, V10_eq, Glaw18ProcEnds_law16Conf, Vlaw16Conf_eq, Glaw18ProcEnds_law16Memory, Glaw18ProcEnds_law18awake, Glaw18ProcEnds_law18pick, Vlaw18pick_eq, Glaw18ProcEnds_procStep, Glaw18ProcEnds_ref03Own, Glaw18ProcEnds_ref06Told, Vref06Told_eq, Glaw18ProcEnds_ref18Same, Vref18Same_eq, hB, hR, hI, lbF, kp.l, kp.t11, kp.t13, kp.t15, kp.t17, kp.t19, kp.t20, kp.t28, ev5, lm, bm, rm, lw, bbw, rw', hlk, bb, rb, hlkW, bbW, rbW, j0, j1, a3, r1, h1, hjl, Nat.add_zero, Int.add_zero, Option.isNone_some, Option.isNone_none, c1, c2, c3, rrM, all1, ress, res1, retV, Value.cells, newsV_s, e_fork, slcV, seval, eV]
    refine ok_some (.inl ⟨rfl, M.length - (j + 1), by omega, j + 1, by omega, rfl, _, rfl, ⟨?_, ?_, ?_, ?_, ?_, ?_, ?_, ?_⟩⟩)
    all_goals simp (disch := omega) only [kp.l, kp.t11, kp.t13, kp.t15, kp.t17, kp.t19, kp.t20, kp.t28, ev5, seval, Int.cast_ofNat_Int, decide_true, ev2]
  have c3 : ((j : Int) == (R : Int)) = false := by simp; omega
  by_cases hR1 : j = R + 1
  · rw [if_pos (.inr (.inr hR1))] at rrM
    have c1 : (j : Int) ≥ (A : Int) := by omega
    have c2 : ¬ (j : Int) < (A : Int) + 3 := by omega
    have c4 : ((j : Int) == (R : Int) + 1) = true := by simp; omega
    have zw : z2.w = 0 := rfl
    have zl : z2.l = 0 := rfl
    rw [zw, zl] at rrM
    simp (disch := omega) only [Tlaw18ProcEnds, Llaw18ProcEnds, Glaw18ProcEnds_10, V10_eq, Glaw18ProcEnds_law16Conf, Vlaw16Conf_eq, Glaw18ProcEnds_law16Memory, Glaw18ProcEnds_law18awake, Glaw18ProcEnds_law18pick, Vlaw18pick_eq, Glaw18ProcEnds_procStep, Glaw18ProcEnds_ref03Own, Glaw18ProcEnds_ref06Told, Vref06Told_eq, Glaw18ProcEnds_ref18Same, Vref18Same_eq, hB, hR, hI, lbF, kp.l, kp.t11, kp.t13, kp.t15, kp.t17, kp.t19, kp.t20, kp.t28, ev5, lm, bm, rm, lw, bbw, rw', hlk, bb, rb, hlkW, bbW, rbW, j0, j1, a3, r1, h1, hjl, Nat.add_zero, Int.add_zero, Option.isNone_some, Option.isNone_none, c1, c2, c3, c4, rrM, all1, ress, res1, retV, Value.cells, newsV_s, e_fork, slcV, seval, eV]
    refine ok_some (.inl ⟨rfl, M.length - (j + 1), by omega, j + 1, by omega, rfl, _, rfl, ⟨?_, ?_, ?_, ?_, ?_, ?_, ?_, ?_⟩⟩)
    all_goals simp (disch := omega) only [kp.l, kp.t11, kp.t13, kp.t15, kp.t17, kp.t19, kp.t20, kp.t28, ev5, seval, Int.cast_ofNat_Int, decide_true, ev2]
  have c4 : ((j : Int) == (R : Int) + 1) = false := by simp; omega
  rw [if_neg (by omega)] at rrM
  generalize M.getD j z2 = y at rrM rrW
  by_cases hlt : j < A
  · have c1 : ¬ (j : Int) ≥ (A : Int) := by omega
    simp (disch := omega) only [Tlaw18ProcEnds, Llaw18ProcEnds, Glaw18ProcEnds_10, V10_eq, Glaw18ProcEnds_law16Conf, Vlaw16Conf_eq, Glaw18ProcEnds_law16Memory, Glaw18ProcEnds_law18awake, Glaw18ProcEnds_law18pick, Vlaw18pick_eq, Glaw18ProcEnds_procStep, Glaw18ProcEnds_ref03Own, Glaw18ProcEnds_ref06Told, Vref06Told_eq, Glaw18ProcEnds_ref18Same, Vref18Same_eq, hB, hR, hI, lbF, kp.l, kp.t11, kp.t13, kp.t15, kp.t17, kp.t19, kp.t20, kp.t28, ev5, lm, bm, rm, lw, bbw, rw', hlk, bb, rb, hlkW, bbW, rbW, j0, j1, a3, r1, h1, hjl, Nat.add_zero, Int.add_zero, Option.isNone_some, Option.isNone_none, c1, c3, c4, rrM, rrW, beq_self_eq_true, Bool.and_self, all1, ress, res1, retV, Value.cells, newsV_s, e_fork, slcV, seval, eV]
    refine ok_some (.inl ⟨rfl, M.length - (j + 1), by omega, j + 1, by omega, rfl, _, rfl, ⟨?_, ?_, ?_, ?_, ?_, ?_, ?_, ?_⟩⟩)
    all_goals simp (disch := omega) only [kp.l, kp.t11, kp.t13, kp.t15, kp.t17, kp.t19, kp.t20, kp.t28, ev5, seval, Int.cast_ofNat_Int, decide_true, ev2]
  · have c1 : (j : Int) ≥ (A : Int) := by omega
    have c2 : ¬ (j : Int) < (A : Int) + 3 := by omega
    simp (disch := omega) only [Tlaw18ProcEnds, Llaw18ProcEnds, Glaw18ProcEnds_10, V10_eq, Glaw18ProcEnds_law16Conf, Vlaw16Conf_eq, Glaw18ProcEnds_law16Memory, Glaw18ProcEnds_law18awake, Glaw18ProcEnds_law18pick, Vlaw18pick_eq, Glaw18ProcEnds_procStep, Glaw18ProcEnds_ref03Own, Glaw18ProcEnds_ref06Told, Vref06Told_eq, Glaw18ProcEnds_ref18Same, Vref18Same_eq, hB, hR, hI, lbF, kp.l, kp.t11, kp.t13, kp.t15, kp.t17, kp.t19, kp.t20, kp.t28, ev5, lm, bm, rm, lw, bbw, rw', hlk, bb, rb, hlkW, bbW, rbW, j0, j1, a3, r1, h1, hjl, Nat.add_zero, Int.add_zero, Option.isNone_some, Option.isNone_none, c1, c2, c3, c4, rrM, rrW, beq_self_eq_true, Bool.and_self, all1, ress, res1, retV, Value.cells, newsV_s, e_fork, slcV, seval, eV]
    refine ok_some (.inl ⟨rfl, M.length - (j + 1), by omega, j + 1, by omega, rfl, _, rfl, ⟨?_, ?_, ?_, ?_, ?_, ?_, ?_, ?_⟩⟩)
    all_goals simp (disch := omega) only [kp.l, kp.t11, kp.t13, kp.t15, kp.t17, kp.t19, kp.t20, kp.t28, ev5, seval, Int.cast_ofNat_Int, decide_true, ev2]

set_option maxHeartbeats 16000000 in
theorem fEnds {B : OH} {H : HL} {N : St} {vr : Value} {raw : List Q3} {n0 n1 n2 flag val who : Int} (hT : Tab B) (hN : good B H N) (hw : SlR q3 3 B H vr raw) (hrs : Q3s raw) (h0 : i64R n0) (h1 : i64R n1) (h2 : i64R n2) (hu : u64R flag) (hv : u64R val) (hwho : i64R who) :
    ∃ H' N', Vlaw18ProcEnds B [.agg #[.int .i64 n0, .int .i64 n1, .int .i64 n2], vr, .int .u64 flag, .int .u64 val, .int .i64 who] H N = some (.ret (.bool true), H', N') := by
  obtain ⟨hB, hR, hI⟩ := gX hN
  have hG : ∃ H N, good B H N := ⟨H, N, hN⟩
  obtain ⟨kk, p, cc, h, e1, e2, e3, C, hp4, _⟩ := conf_cf n0 n1 n2
  have eC : Flaw16Conf B [.agg #[.int .i64 n0, .int .i64 n1, .int .i64 n2]] = some (.agg #[.int .i64 (kk : Int), .int .i64 (p : Int), .int .i64 (cc : Int)]) := by rw [fConf hG h0 h1 h2, e1, e2, e3]
  have g1 := good_new (k := .cells [.int .i64 n0, .int .i64 n1, .int .i64 n2] 3) hN
  obtain ⟨Ha, Na, ea, ga, fa⟩ := awake18 hT g1
  have l0 : lk Ha (N.n 0) = some (.cells [.int .i64 n0, .int .i64 n1, .int .i64 n2] 3) := fa _ _ lk_top
  have g2 := good_new (k := .cells [.int .i64 (kk : Int), .int .i64 (p : Int), .int .i64 (cc : Int)] 3) ga
  have f1 : Fr H Ha := (fr_new hN Fr.refl 0).trans fa
  have f2 : Fr H ((Na.n 0, .cells [.int .i64 (kk : Int), .int .i64 (p : Int), .int .i64 (cc : Int)] 3) :: Ha) := fr_new ga f1 0
  obtain ⟨v, H2, N2, M, em, g3, f3, s3, hM, hMs⟩ := fMemory C hp4 g2 (hw.mono f2) hrs
  have hb5 := bs5_b C
  have hlen : 1 + 5 * p ≤ bs p h 5 := by rw [bs_5]; omega
  have hp := C.p
  obtain ⟨bv, cap, rest, rfl, bb, h0b, hle, hlk⟩ := slm_elim s3 (by omega)
  have lc2 : lk H2 (Na.n 0) = some (.cells [.int .i64 (kk : Int), .int .i64 (p : Int), .int .i64 (cc : Int)] 3) := f3 _ _ lk_top
  have kb := pk_b (x := who) (n := (p : Int)) (by omega)
  obtain ⟨q, hq0⟩ : ∃ q : Nat, pk who (p : Int) = (q : Int) := ⟨_, (Int.toNat_of_nonneg kb.1).symm⟩
  have hq : q < p := by omega
  have eP : Flaw18pick B [.int .i64 who, .int .i64 (p : Int)] = some (.int .i64 (q : Int)) := by rw [fpick18 hG who p hwho (by omega), hq0]
  have eA : F10 B [.agg #[.int .i64 (kk : Int), .int .i64 (p : Int), .int .i64 (cc : Int)], .int .i64 1, .int .i64 (q : Int)] = some (.tuple #[.int .i64 ((fr p h 1 q : Nat) : Int), .int .i64 0]) := f10 (k0 := 1) (o0 := q) hG hT C.k C.p C.c C.m (by omega) hq
  have eR : F10 B [.agg #[.int .i64 (kk : Int), .int .i64 (p : Int), .int .i64 (cc : Int)], .int .i64 2, .int .i64 (q : Int)] = some (.tuple #[.int .i64 ((fr p h 2 q : Nat) : Int), .int .i64 0]) := f10 (k0 := 2) (o0 := q) hG hT C.k C.p C.c C.m (by omega) hq
  have hA1 : fr p h 1 q = 1 + 3 * q := by simp [fr, bs, sz, mn]
  have hR1 : fr p h 2 q = 1 + 3 * p + 2 * q := by simp [fr, bs, sz, mn]
  have hAR : fr p h 1 q + 3 ≤ fr p h 2 q := by omega
  have hR5 : fr p h 2 q + 2 ≤ M.length := by omega
  generalize hAg : fr p h 1 q = A at *
  generalize hRg : fr p h 2 q = R at *
  have bl0 := hB 0
  have rl0 := rN bl0
  have hBa := good_B ga
  have hRa := good_rdB ga
  have hB3 := good_B g3
  have hR3 := good_rdB g3
  have na0 := ne_N ga l0
  have nc2 := ne_N g3 lc2
  have nb2 := ne_N g3 hlk
  have nb2' := ne_N' g3 hlk
  have rb := rN bb
  have cA0 : ¬ (A : Int) < 0 := by omega
  have cR0 : ¬ (R : Int) < 0 := by omega
  have wA : IntKind.i64.wrap ((A : Int) + 2) = (A : Int) + 2 := IntWalk.i64_in _ (by omega)
  have wR : IntKind.i64.wrap ((R : Int) + 1) = (R : Int) + 1 := IntWalk.i64_in _ (by omega)
  have cA2 : ¬ (A : Int) + 2 ≥ (M.length : Int) := by omega
  have cR2 : ¬ (R : Int) + 1 ≥ (M.length : Int) := by omega
  unfold Vlaw18ProcEnds
  by_cases hf0 : flag = 0
  · subst hf0
    simp (disch := omega) only [Tlaw18ProcEnds, Llaw18ProcEnds, Glaw18ProcEnds_10, V10_eq, Glaw18ProcEnds_law16Conf, Vlaw16Conf_eq, Glaw18ProcEnds_law16Memory, Glaw18ProcEnds_law18awake, Glaw18ProcEnds_law18pick, Vlaw18pick_eq, Glaw18ProcEnds_procStep, Glaw18ProcEnds_ref03Own, Glaw18ProcEnds_ref06Told, Vref06Told_eq, Glaw18ProcEnds_ref18Same, Vref18Same_eq, hB, hR, hI, ev5, ea, l0, bl0, rl0, na0, hBa, hRa, hB3, hR3, eC, em, eP, eA, eR, lc2, nc2, nb2, nb2', hlk, bb, rb, cA0, cR0, wA, wR, cA2, cR2, Option.isNone_some, Option.isNone_none, Int.add_zero, Nat.add_zero, all1, ress, res1, retV, Value.cells, newsV_s, e_fork, slcV, seval, eV]
    exact ⟨_, _, rfl⟩
  have hf : 1 ≤ flag := by unfold u64R at hu; omega
  have hfb : (flag == 0) = false := by simp; omega
  have i0 : (0 : Int) ≤ (R : Int) := by omega
  have i1 : R < M.length := by omega
  have i2 : (0 : Int) ≤ (R : Int) + 1 := by omega
  have i3 : ((R : Int) + 1).toNat < M.length := by omega
  have i4 : ((R : Int) + 1).toNat = R + 1 := by omega
  have i5 : R + 1 < M.length := by omega
  have w1 := wr_c2w (rest := rest) flag i1
  have w2 := wr_c2w (L := M.set R ⟨flag, (M.getD R z2).l⟩) (rest := rest) (i := R + 1) val (by rw [List.length_set]; omega)
  -- memory with flag and value
  obtain ⟨M0, hM0⟩ : ∃ M0, M0 = (M.set R ⟨flag, (M.getD R z2).l⟩).set (R + 1) ⟨val, ((M.set R ⟨flag, (M.getD R z2).l⟩).getD (R + 1) z2).l⟩ := ⟨_, rfl⟩
  have hM0l : M0.length = M.length := by rw [hM0]; simp only [List.length_set]
  have hMR : (M0.getD R z2).w = flag := by
    rw [hM0, getD_set _ _ _ _ _ (by rw [List.length_set]; omega), if_neg (by omega), getD_set _ _ _ _ _ (by omega), if_pos rfl]
  have hMR1 : (M0.getD (R + 1) z2).w = val := by
    rw [hM0, getD_set _ _ _ _ _ (by rw [List.length_set]; omega), if_pos rfl]
  rw [← hM0] at w2
  have u1 : lk (upH H2 bv (.cells (fl c2 (M.set R ⟨flag, (M.getD R z2).l⟩) ++ rest) (cap * 2))) bv = some (.cells (fl c2 (M.set R ⟨flag, (M.getD R z2).l⟩) ++ rest) (cap * 2)) := by rw [lk_upH, beq_self_eq_true, cond_true]
  have gu1 := good_up (k := .cells (fl c2 (M.set R ⟨flag, (M.getD R z2).l⟩) ++ rest) (cap * 2)) g3 bb hlk
  have gu2 := good_up (k := .cells (fl c2 M0 ++ rest) (cap * 2)) gu1 bb u1
  obtain ⟨H5, hH5⟩ : ∃ H5, H5 = upH (upH H2 bv (.cells (fl c2 (M.set R ⟨flag, (M.getD R z2).l⟩) ++ rest) (cap * 2))) bv (.cells (fl c2 M0 ++ rest) (cap * 2)) := ⟨_, rfl⟩
  rw [← hH5] at gu2
  have l5 : lk H5 bv = some (.cells (fl c2 M0 ++ rest) (cap * 2)) := by rw [hH5, lk_upH, beq_self_eq_true, cond_true]
  have fr5 : Fr ((Na.n 0, .cells [.int .i64 (kk : Int), .int .i64 (p : Int), .int .i64 (cc : Int)] 3) :: Ha) H5 := by rw [hH5]; exact fr_up (fr_up f3 h0b) h0b
  have g4 := good_new (k := .cells [.slice (some ⟨bv, 0, none⟩) M.length cap] 1) gu2
  have l4 : lk ((N2.n 0, .cells [.slice (some ⟨bv, 0, none⟩) M.length cap] 1) :: H5) bv = some (.cells (fl c2 M0 ++ rest) (cap * 2)) := by rw [lk_cons, ne_N gu2 l5 0, cond_false]; exact l5
  have fr4 : Fr ((Na.n 0, .cells [.int .i64 (kk : Int), .int .i64 (p : Int), .int .i64 (cc : Int)] 3) :: Ha) ((N2.n 0, .cells [.slice (some ⟨bv, 0, none⟩) M.length cap] 1) :: H5) := fr_new gu2 fr5 0
  have s4 : SlM c2 2 B ((Na.n 0, .cells [.int .i64 (kk : Int), .int .i64 (p : Int), .int .i64 (cc : Int)] 3) :: Ha) ((N2.n 0, .cells [.slice (some ⟨bv, 0, none⟩) M.length cap] 1) :: H5) (.slice (some ⟨bv, 0, none⟩) M.length cap) M0 := .inr ⟨bv, cap, rest, by rw [hM0l], bb, h0b, by rw [hM0l]; exact hle, l4⟩
  obtain ⟨vw, Ho, No, eo, go, fo, so⟩ := own g4 (s4.wh c2_len) (by omega)
  obtain ⟨bw, cw, restW, hvw, bbW, h4w, hleW, hlkW⟩ := slm_elim so (by omega)
  have lmo : lk Ho (N2.n 0) = some (.cells [.slice (some ⟨bv, 0, none⟩) M.length cap] 1) := fo _ _ lk_top
  have lbo : lk Ho bv = some (.cells (fl c2 M0 ++ rest) (cap * 2)) := fo _ _ l4
  have lco : lk Ho (Na.n 0) = some (.cells [.int .i64 (kk : Int), .int .i64 (p : Int), .int .i64 (cc : Int)] 3) := fo _ _ (fr4 _ _ lk_top)
  obtain ⟨a, b, er, eT, hab⟩ : ∃ a b er : Int, Fref06Told B [.agg #[.int .u64 flag, .int .u64 val]] = some (.tuple #[.agg #[.int .i64 a, .int .u64 b], .int .i64 er]) ∧ ((flag ≤ 256 ∧ flag - 1 = a ∧ val = b) ∨ (¬ flag ≤ 256 ∧ 0 = a ∧ 0 = b)) := by
    by_cases hf2 : flag ≤ 256
    · exact ⟨flag - 1, val, 0, ftold6a hG hf hf2, .inl ⟨hf2, rfl, rfl⟩⟩
    · exact ⟨0, 0, 2, ftold6b hG hf hf2, .inr ⟨hf2, rfl, rfl⟩⟩
  have g5 := good_new (k := .cells [vw] 1) go
  have g6 := good_new (k := .cells (XE flag val 0) 13) g5
  have g7 := good_new (k := .cells [.int .i64 a, .int .u64 b] 2) g6
  have hIo := beqN go.1.1
  have hBo := good_B go
  have hRo := good_rdB go
  have keep : ∀ y k, lk Ho y = some k → lk ((No.n 2, .cells [.int .i64 a, .int .u64 b] 2) :: (No.n 1, .cells (XE flag val 0) 13) :: (No.n 0, .cells [vw] 1) :: Ho) y = some k := fun y k e => by
    have n0 := ne_N go e
    rw [lk_cons, n0 2, cond_false, lk_cons, n0 1, cond_false, lk_cons, n0 0, cond_false]; exact e
  have nbw : bw ≠ bv := fun e => by rw [e, l4] at h4w; cases h4w
  have hHs : Hs B ((Na.n 0, .cells [.int .i64 (kk : Int), .int .i64 (p : Int), .int .i64 (cc : Int)] 3) :: Ha) ((No.n 2, .cells [.int .i64 a, .int .u64 b] 2) :: (No.n 1, .cells (XE flag val 0) 13) :: (No.n 0, .cells [vw] 1) :: Ho) kk p cc (Na.n 0) (N2.n 0) (No.n 0) (No.n 1) (No.n 2) (.slice (some ⟨bv, 0, none⟩) M.length cap) vw (LE M0 A R 0) M0 a b (XE flag val 0) :=
    { mem := ⟨keep _ _ lmo, hB3 0, .inr ⟨bv, cap, rest, by rw [← hM0l]; rfl, bb, h0b, by show M0.length ≤ cap; rw [hM0l]; exact hle, keep _ _ lbo⟩, fun e => by
        simp only [slB, Option.some.injEq] at e
        have := nb2 0; rw [e] at this; simp at this, by show M0.length ≤ 900000; omega⟩
      was := (so.low fr4.dm).mono fun y k _ e => keep y k e
      nv := fun y hy e => by
        subst hvw
        simp only [slB, Option.some.injEq] at hy e
        exact nbw (hy.trans e.symm)
      nvx := fun e => by
        subst hvw
        simp only [slB, Option.some.injEq] at e
        have := ne_N go hlkW 1; rw [e] at this; simp at this
      lc := keep _ _ lco
      lw := by rw [lk_cons, hIo, show ((0 : Nat) == 2) = false from rfl, cond_false, lk_cons, hIo, show ((0 : Nat) == 1) = false from rfl, cond_false, lk_cons, beq_self_eq_true, cond_true]
      lx := by rw [lk_cons, hIo, show ((1 : Nat) == 2) = false from rfl, cond_false, lk_cons, beq_self_eq_true, cond_true]
      lt := lk_top
      bc := hBa 0
      bw := hBo 0
      bx := hBo 1
      bt := hBo 2
      nc := fun e => by
        simp only [slB, Option.some.injEq] at e
        rw [e, lk_top] at h0b; cases h0b
      nw := fun e => by
        simp only [slB, Option.some.injEq] at e
        have := ne_N go lbo 0; rw [e] at this; simp at this
      nx := fun e => by
        simp only [slB, Option.some.injEq] at e
        have := ne_N go lbo 1; rw [e] at this; simp at this
      nt := fun e => by
        simp only [slB, Option.some.injEq] at e
        have := ne_N go lbo 2; rw [e] at this; simp at this }
  rw [hH5] at eo
  have hv1 : all1 [vw] = true := by rw [hvw]; rfl
  simp (disch := omega) only [Tlaw18ProcEnds, Llaw18ProcEnds, Glaw18ProcEnds_10, V10_eq, Glaw18ProcEnds_law16Conf, Vlaw16Conf_eq, Glaw18ProcEnds_law16Memory, Glaw18ProcEnds_law18awake, Glaw18ProcEnds_law18pick, Vlaw18pick_eq, Glaw18ProcEnds_procStep, Glaw18ProcEnds_ref03Own, Glaw18ProcEnds_ref06Told, Vref06Told_eq, Glaw18ProcEnds_ref18Same, Vref18Same_eq, hB, hR, hI, ev5, ea, l0, bl0, rl0, na0, hBa, hRa, hB3, hR3, eC, em, eP, eA, eR, lc2, nc2, nb2, nb2', hlk, bb, rb, cA0, cR0, wA, wR, cA2, cR2, Option.isNone_some, Option.isNone_none, Int.add_zero, Nat.add_zero, hfb, i0, i1, i2, i3, i4, i5, w1, w2, eo, eT, hIo, hBo, hRo, hv1, all1, ress, res1, retV, Value.cells, newsV_s, e_fork, slcV, seval, eV]
  generalize hX : exec B _ _ (LC.loop _) _ = o
  obtain ⟨x, s, rfl, rfl, ts, H8, N8, rfl, g8, h8, kp⟩ := (show Ok o _ by rw [← hX]; exact loopE (M := M0) (W := M0) (lw := 0) (c := Na.n 0) (m := N2.n 0) (w := No.n 0) (x := No.n 1) (t := No.n 2) (q := q) (A := A) (R := R) hT C hq (by rw [hM0l]; exact hM) hAR (by omega) hAg.symm hRg.symm hf hu hMR hMR1 hab hvw g7 hHs ⟨rfl, rfl, rfl, rfl, rfl, rfl, rfl, rfl, rfl, rfl, rfl⟩ (by omega))
  clear hX
  obtain ⟨hn8, bb8, h08, hle8, rest8, hlk8⟩ := h8.mem.at
  obtain ⟨bbW8, restW8, hlkW8⟩ : B bw = none ∧ ∃ rest, lk H8 bw = some (.cells (fl c2 M0 ++ rest) (cw * 2)) := by
    have hw8 := h8.was
    rw [hvw] at hw8
    rcases hw8 with ⟨_, e⟩ | ⟨b1, c1, r1, e, e1, e2, e3, e4⟩
    · cases e
    · cases e; exact ⟨e1, r1, e4⟩
  have lm8 := h8.mem.lm
  have lx8 := h8.lx
  have lw8 := h8.lw
  rw [hvw] at lw8
  have bm8 := h8.mem.bm
  have bx8 := h8.bx
  have bw8 := h8.bw
  have rx8 := rN bx8
  simp (disch := omega) only [Tlaw18ProcEnds, Llaw18ProcEnds, Glaw18ProcEnds_10, V10_eq, Glaw18ProcEnds_law16Conf, Vlaw16Conf_eq, Glaw18ProcEnds_law16Memory, Glaw18ProcEnds_law18awake, Glaw18ProcEnds_law18pick, Vlaw18pick_eq, Glaw18ProcEnds_procStep, Glaw18ProcEnds_ref03Own, Glaw18ProcEnds_ref06Told, Vref06Told_eq, Glaw18ProcEnds_ref18Same, Vref18Same_eq, hB, hR, hI, kp.l, kp.t11, kp.t12, kp.t13, kp.t14, kp.t15, kp.t17, kp.t19, kp.t20, kp.t21, kp.t23, ev5, all1, ress, res1, retV, Value.cells, newsV_s, e_fork, slcV, seval, eV]
  generalize hX : exec B _ _ (LC.loop _) _ = o
  obtain ⟨x, s, rfl, rfl, ts2, j2, rfl, kf⟩ := (show Ok o _ by
    rw [← hX]
    refine loopF (A := A) (R := R) (x := No.n 1) g8 (by rw [hM0l]) hAR (by omega) (by omega) lm8 bm8 lw8 bw8 hlk8 bb8 hlkW8 bbW8 ⟨?_, ?_, ?_, ?_, ?_, ?_, ?_, ?_⟩ (by omega)
    all_goals simp (disch := omega) only [kp.l, kp.t11, kp.t12, kp.t13, kp.t14, kp.t15, kp.t17, kp.t19, kp.t20, kp.t21, kp.t23, ev5, seval, Int.cast_ofNat_Int, decide_true, ev2])
  clear hX kp
  have kp := kf
  have eS := fsame18 hG
  have lx9 : lk H8 (No.n 1) = some (.cells [.int .i64 0, .int .i64 0, .int .u64 0, .int .u64 0, .int .u64 0, .int .i64 0, .int .i64 0, .int .i64 0, .int .i64 0, .int .i64 0, .int .u64 0, .bool false, .slice none 0 0] 13) := lx8
  simp (disch := omega) only [Tlaw18ProcEnds, Llaw18ProcEnds, Glaw18ProcEnds_10, V10_eq, Glaw18ProcEnds_law16Conf, Vlaw16Conf_eq, Glaw18ProcEnds_law16Memory, Glaw18ProcEnds_law18awake, Glaw18ProcEnds_law18pick, Vlaw18pick_eq, Glaw18ProcEnds_procStep, Glaw18ProcEnds_ref03Own, Glaw18ProcEnds_ref06Told, Vref06Told_eq, Glaw18ProcEnds_ref18Same, Vref18Same_eq, hB, hR, hI, kp.l, kp.t11, kp.t13, kp.t15, kp.t17, kp.t19, kp.t20, kp.t28, ev5, lx9, bx8, rx8, eS, all1, ress, res1, retV, Value.cells, newsV_s, e_fork, slcV, seval, eV]
  exact ⟨_, _, rfl⟩
end Go.Proofs.YtbpaekbjpapgeaaGreatDoor
namespace Go.Proofs.YtbpaekbjpapgeaaGreatDoor
open Go.Proofs.YtbpaekbjpapgeaaGreatDoor.K Go.ChangeShapes Go.WideShapes Go.ChangeAt Go.RowKit
set_option maxRecDepth 100000
set_option linter.unusedSimpArgs false
set_option linter.unusedVariables false
theorem three_of : ∀ (L : List (List Lit)), (∀ m ∈ L, OKs [.int .i64, .int .i64, .int .i64] m) → ∃ K : List Q3, K.length = L.length ∧ fl (fun m => m.map litV) L = fl q3 K ∧ Q3s K
  | [], _ => ⟨[], rfl, rfl, by unfold Q3s; simp⟩
  | x :: L, h => by
    obtain ⟨K, h1, h2, h3⟩ := three_of L fun m hm => h m (List.mem_cons_of_mem _ hm)
    have k0 := h x List.mem_cons_self
    obtain ⟨a0, m1, rfl, w0, k1⟩ := k0.int
    have b0 := i64_wf w0
    obtain ⟨a1, m2, rfl, w1, k2⟩ := k1.int
    have b1 := i64_wf w1
    obtain ⟨a2, m3, rfl, w2, k3⟩ := k2.int
    have b2 := i64_wf w2
    obtain rfl := k3.none
    refine ⟨⟨a0, a1, a2⟩ :: K, by simp [h1], ?_, fun y hy => ?_⟩
    · simp only [fl, h2]; rfl
    · rcases List.mem_cons.1 hy with rfl | hy
      · exact ⟨b0, b1, b2⟩
      · exact h3 y hy
theorem three_open {W : World} {v : Value} (h : v = .slice none 0 0 ∨ (∃ a cap, v = .slice (some a) 0 cap) ∨ ∃ (b o cap : Nat) (L : List (List Lit)), v = .slice (some ⟨b, o, none⟩) L.length cap ∧ 0 < L.length ∧ L.length ≤ cap ∧ cap ≤ maxLen ∧ (∀ m ∈ L, OKs [.int .i64, .int .i64, .int .i64] m) ∧
      ∀ m, m ≤ L.length → rdB (startB W) b o (m * [LK.int .i64, LK.int .i64, LK.int .i64].length) = some (fl (fun m => m.map litV) (L.take m))) : ∃ K : List Q3, SlC q3 3 (startB W) v K ∧ Q3s K := by
  rcases h with rfl | ⟨a, cap, rfl⟩ | ⟨b, o, cap, L, rfl, h1, h2, h3, h4, h5⟩
  · exact ⟨[], ⟨none, 0, rfl, Nat.le_refl _, .inl rfl⟩, by unfold Q3s; simp⟩
  · exact ⟨[], ⟨some a, cap, rfl, Nat.zero_le _, .inl rfl⟩, by unfold Q3s; simp⟩
  · obtain ⟨K, e1, e2, e3⟩ := three_of L h4
    have h6 := h5 L.length (Nat.le_refl _)
    rw [List.take_length, e2] at h6
    refine ⟨K, ⟨some ⟨b, o, none⟩, cap, by rw [e1], by rw [e1]; exact h2, .inr ⟨b, o, rfl, ?_⟩⟩, e3⟩
    rw [e1]; exact h6

end Go.Proofs.YtbpaekbjpapgeaaGreatDoor
namespace Go.Proofs.YtbpaekbjpapgeaaGreatDoor
open Go.Proofs.YtbpaekbjpapgeaaGreatDoor.K Go.ChangeShapes Go.WideShapes Go.ChangeAt Go.RowKit
set_option maxRecDepth 100000
set_option linter.unusedSimpArgs false
set_option linter.unusedVariables false

theorem gObj : Tryz.prog.globalNamed "whitewash/region.objects" = some 0 := by kernel_rfl
theorem gObjT : (Tryz.prog.globals[0]?).map (·.type) = some 169 := by kernel_rfl
theorem leafsObj : leafs Tryz.prog 12 169 = some [.int .i64, .int .i64, .int .i64, .int .i64, .int .i64, .int .i64, .int .i64, .int .i64, .int .i64, .int .i64, .int .i64, .int .i64] := by kernel_rfl
def THERE : List Value := [.int .u64 30, .int .u64 13787848793156543929, .int .u64 27, .int .u64 10723151780598845931, .int .u64 31, .int .u64 1]
theorem tab {W : World} (h : laidMetH Tryz.prog Rows.procEndsRow.laid W) : Tab (startB W) := by
  obtain ⟨ps, hv, _⟩ := laidMet_of_H (by rfl) h
  obtain ⟨a1, e1, f1, h1, l1⟩ := laid_cells hv (n := "whitewash/region.objects") (x := Rows.laid_whitewash_region_objects) (by simp [Rows.procEndsRow]) 12 gObj gObjT leafsObj
  have hw : rdB (startB W) 0 0 12 = some OBJ := rdB_whole h1 l1 (by rfl)
  intro i hi
  have := rdB_sub (i := i * 2) (k := 2) hw (by omega)
  rwa [Nat.zero_add] at this
namespace procEnds
theorem own : ownKnob Tryz.prog.godebug = none := by kernel_rfl
theorem laidOut : laidOutB Tryz.prog = true := by kernel_rfl
theorem typesOk : (Tryz.f7.params.toList.all fun t => Tryz.prog.readableRec t && decide (t < Tryz.prog.types.size)) = true := by kernel_rfl
theorem contract (H : Type) (enc : TypeId × Value → H) (W : World) (base : Nat) (args : Array Value) (ds gs : List (DataW H)) (before : List MemPlace)
    (hval : ∀ (j : Nat) t v, Tryz.f7.params[j]? = some t → args[j]? = some v → Value.okWide Tryz.prog W .any base t v)
    (hW : DataW.Whole enc Tryz.prog Tryz.f7.params.toList Rows.procEndsSpec.vars false W args.toList ds gs before) (hL : laidMetH Tryz.prog Rows.procEndsRow.laid W) :
    Calls Tryz.prog 7 args W fun e W' => ∃ v, e = .returned v ∧ Rows.procEndsSpec.post enc Tryz.prog Tryz.f7 false true false false W args v W' := by
  have hW' := hW
  obtain ⟨p, q, hA0, hV, hpq, hfz, hnd⟩ := hW
  have hA : DataW.TrodAll enc Tryz.prog W 0 (fun _ => true) true Tryz.f7.params.toList args.toList ds p := hA0
  rw [Tryz.params7] at hA hval
  obtain ⟨v0, vs0, d0, ds0, p0, q0, hargs, rfl, rfl, h0, r0⟩ := trodAll_cons hA
  obtain ⟨v1, vs1, d1, ds1, p1, q1, rfl, rfl, rfl, h1, r1⟩ := trodAll_cons r0
  obtain ⟨v2, vs2, d2, ds2, p2, q2, rfl, rfl, rfl, h2, r2⟩ := trodAll_cons r1
  obtain ⟨v3, vs3, d3, ds3, p3, q3, rfl, rfl, rfl, h3, r3⟩ := trodAll_cons r2
  obtain ⟨v4, vs4, d4, ds4, p4, q4, rfl, rfl, rfl, h4, r4⟩ := trodAll_cons r3
  obtain ⟨rfl, rfl, rfl⟩ := trodAll_nil r4
  obtain rfl : args = #[v0, v1, v2, v3, v4] := by apply Array.ext'; simpa using hargs
  obtain ⟨rfl, rfl⟩ := trodVars_none hV
  obtain ⟨m0, rfl, k0⟩ := open_flat (P := Tryz.prog) 20 (show aggB Tryz.prog 22 = some true by kernel_rfl) (show leafs Tryz.prog 20 22 = some [.int .i64, .int .i64, .int .i64] by kernel_rfl) (hval 0 22 v0 rfl rfl) h0
  obtain ⟨x0_0, m0_0, rfl, w0_0, k0_1⟩ := k0.int
  have b0_0 := i64_wf w0_0
  obtain ⟨x0_1, m0_1, rfl, w0_1, k0_2⟩ := k0_1.int
  have b0_1 := i64_wf w0_1
  obtain ⟨x0_2, m0_2, rfl, w0_2, k0_3⟩ := k0_2.int
  have b0_2 := i64_wf w0_2
  obtain rfl := k0_3.none
  have s1 := open_flats (P := Tryz.prog) 20 Tryz.underlying25 (show leafs Tryz.prog 20 22 = some [.int .i64, .int .i64, .int .i64] by kernel_rfl) (show Tryz.prog.cellsOf 22 = 3 by kernel_rfl) (by decide) (hval 1 25 v1 rfl rfl) h1
  obtain ⟨x2, rfl, rfl, rfl, w2⟩ := open_int Tryz.underlying27 (hval 2 27 v2 rfl rfl) h2
  have b2 := u64_wf' w2
  obtain ⟨x3, rfl, rfl, rfl, w3⟩ := open_int Tryz.underlying27 (hval 3 27 v3 rfl rfl) h3
  have b3 := u64_wf' w3
  obtain ⟨x4, rfl, rfl, rfl, w4⟩ := open_int Tryz.underlying3 (hval 4 3 v4 rfl rfl) h4
  have b4 := i64_wf w4
  refine law_post laidOut (fun t ht => by simpa using List.all_eq_true.1 typesOk t ht) rfl (show Tryz.f7.resultTypes = #[4] by rfl) Tryz.underlying4 hW' rfl rfl rfl ?_
  obtain ⟨w, hw, hb⟩ := three_open s1
  have hs := sVlaw18ProcEnds (w0 := W) (B := startB W)
  exact law_calls hs (args := [.agg #[.int .i64 x0_0, .int .i64 x0_1, .int .i64 x0_2], v1, .int .u64 x2, .int .u64 x3, .int .i64 x4]) fun N hN => fEnds (tab hL) hN (hw.rd q3_len) hb b0_0 b0_1 b0_2 b2 b3 b4

noncomputable def laidWorld (os : Os) : World := laidW Tryz.prog os [(0, OBJ), (2, THERE)]
theorem laid_met (os : Os) : laidMet Tryz.prog Rows.procEndsRow.laid ((laidWorld os).forCall (fun _ _ => 0) ⟨#[], #[.agg #[.int .i64 0, .int .i64 0, .int .i64 0], .slice none 0 0, .int .u64 0, .int .u64 0, .int .i64 0], []⟩).memory :=
  laidMet_of_run' 16 (by kernel_rfl) (by kernel_rfl)
theorem reads (os : Os) {H : Type} (enc : TypeId × Value → H) : ∃ places, DataW.whole enc Tryz.prog ((laidWorld os).forCall (fun _ _ => 0) ⟨#[], #[.agg #[.int .i64 0, .int .i64 0, .int .i64 0], .slice none 0 0, .int .u64 0, .int .u64 0, .int .i64 0], []⟩).memory Tryz.f7.params.toList Rows.procEndsSpec.vars false (#[.agg #[.int .i64 0, .int .i64 0, .int .i64 0], .slice none 0 0, .int .u64 0, .int .u64 0, .int .i64 0] : Array Value).toList 16 = some ([.agg [.lit (.int .i64 0), .lit (.int .i64 0), .lit (.int .i64 0)], .nil, .lit (.int .u64 0), .lit (.int .u64 0), .lit (.int .i64 0)], [], places) :=
  ⟨[], by kernel_rfl⟩
theorem lifted (os : Os) (started : os.Started) (H : Type) (enc : TypeId × Value → H) (F : Stop.Interp) :
    ReturnsInHanded {} Tryz.checked os 7 .any ((OpenSpec.ofChange Rows.procEndsSpec).preRow enc Tryz.prog Tryz.f7 Rows.procEndsRow.domain false Rows.procEndsRow.laid) (((OpenSpec.ofChange Rows.procEndsSpec).at F).post enc Tryz.prog Tryz.f7 false true false false) := by
  obtain ⟨places, hx⟩ := reads os enc
  refine returnsInHanded_of_row (C := Tryz.checked) (s := OpenSpec.ofChange Rows.procEndsSpec) own started (by kernel_rfl) Tryz.func7
    (witness_row_at (enc := enc) (C := Tryz.checked) false (laidWorld os) #[.agg #[.int .i64 0, .int .i64 0, .int .i64 0], .slice none 0 0, .int .u64 0, .int .u64 0, .int .i64 0] rfl (by kernel_rfl) (by kernel_rfl) (by kernel_rfl)
      (OpenSpec.preRow_of_cond 16 hx (by kernel_rfl) (fun k hk => by cases hk) (by kernel_rfl) (laid_met os))) ?_
  intro W base args ds gs before hval hW _ _ _ hL _ _
  exact contract H enc W base args ds gs before hval hW hL
theorem said : Rows.ProcEndsSaid :=
  OpenClaim.holds_of_cond 7 Tryz.f7 rfl rfl rfl rfl rfl rfl rfl ⟨rfl, rfl, rfl, rfl, rfl⟩ rfl rfl rfl rfl rfl fnamed Tryz.func7 closed
    (of_decide_eq_true (by kernel_rfl)) (by unfold Func.isWrapper; first | (rw [if_pos (by decide +kernel)]; kernel_rfl) | (rw [if_neg (by decide +kernel)]; exact ⟨rfl, rfl⟩))
    (fun os started H enc _ F => by rw [OpenClaim.pre_eq_preRow]; exact lifted os started H enc F)
theorem plain (f : FuncId) (fn : Func) (hf : Tryz.pinned.checked.prog.funcNamed "whitewash/whitewashlaw18.ProcEnds" = some f) (hfn : Tryz.pinned.checked.prog.funcs[f]? = some fn) :
    true = Tryz.pinned.checked.prog.looks [] ∧ ∀ (j : Nat) t, fn.params[j]? = some t → Tryz.pinned.checked.prog.wantsStandIn t = false := by
  obtain rfl : f = 7 := Option.some.inj ((show Tryz.prog.funcNamed "whitewash/whitewashlaw18.ProcEnds" = some 7 by kernel_rfl).symm.trans hf) |>.symm
  obtain rfl : fn = Tryz.f7 := (Option.some.inj (Tryz.func7.symm.trans hfn)).symm
  refine ⟨by kernel_rfl, fun j t ht => ?_⟩
  have hall : (Tryz.f7.params.toList.all fun t => !Tryz.prog.wantsStandIn t) = true := by kernel_rfl
  have := List.all_eq_true.1 hall t (by simpa using Array.mem_of_getElem? ht)
  show Tryz.prog.wantsStandIn t = false
  simpa using this
theorem card : Rows.ProcEndsCardSaid :=
  Claim7.holds_tied_plain_at .later [] _ _ _ _ said (fun _ h => by cases h) wfText (fun _ h => by cases h) procEnds_row_tie rfl ⟨rfl, rfl⟩ (by kernel_rfl) rfl plain goesBy
end procEnds
end Go.Proofs.YtbpaekbjpapgeaaGreatDoor
