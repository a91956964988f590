/- What Build, Right, Path, Next and Find of the program's package treap answer, and what Keys of its laws answers. -/
import Derived.Test.YtlkeeckhileedaaDoorOwn
set_option linter.unusedSimpArgs false
set_option linter.unusedVariables false
namespace Go.Proofs.YtlkeeckhileedaaDoor
open Go.Proofs.YtlkeeckhileedaaDoor.K Go.ChangeShapes Go.WideShapes Go.ChangeAt Go.RowKit
set_option maxRecDepth 100000
set_option linter.unusedSimpArgs false
set_option linter.unusedVariables false

theorem bRoot_0 {K : List Int} (h : bErr K = 0) : bRoot K = ((T (fK K) 0 K.length).1 : Int) := if_pos h
theorem bRoot_e {K : List Int} (h : ¬ bErr K = 0) : bRoot K = 0 := if_neg h
theorem bLinks_0 {K : List Int} (h : bErr K = 0) : bLinks K = (T (fK K) 0 K.length).2.map mp := if_pos h
theorem bLinks_e {K : List Int} (h : ¬ bErr K = 0) : bLinks K = [] := if_neg h
set_option maxHeartbeats 4000000 in
theorem build {B : OH} {H : HL} {N : St} {v : Value} {K : List Int} (hT : Tab B) (hN : good B H N) (hv : SlR w1 1 B H v K) (hK : U64s K) :
    ∃ v' H' N', V10 B [v] H N = some (.ret (.tuple #[.int .i64 (bRoot K), v', .int .i64 (bErr K)]), H', N') ∧ good B H' N' ∧ Fr H H' ∧ SlN p2 2 B H H' v' (bLinks K) := by
  have hB := good_B hN
  have hR := good_rdB hN
  have hI := beqN hN.1.1
  have hlv := hv.len
  unfold V10
  by_cases hl : K.length ≤ 256
  case neg =>
    have hl' : (K.length : Int) > 256 := by omega
    have he := bErr_long (K := K) (by omega)
    have hne : ¬ bErr K = 0 := by omega
    rw [he, bRoot_e hne, bLinks_e hne]
    simp -implicitDefEqProofs (maxSteps := 10000000) (disch := omega) only [T10, L10, G10_26, V26_eq, hB, hR, hI, lenV_sl, Int.toNat_natCast, bft, btf, gtst, st_len, hlv, hl', pad, e_skip, e_ops, e_draw, e_fork, shg_n, shg_c, shg_g, shg_r, d_none, d_nil, d_cons, d_ite, h_none, h_nil, h_cons, h_ite, eqS_same, lightV, e_seq, e_cond, e_block, e_exit, e_ret, s_normal, s_ret, s_exit, s_none, s_ite, b_normal, b_ret, b_exit, b_none, b_ite, c_bool, x_none, x_nil, x_cons, x_ite, p_some, p_none, p_ite, pt_some, pt_none, pv_some, pv_none, pv_ite, w_none, w_some, i_bool, i_undef, bt, bf, v_tmp, v_const, v_global, v_func, evs, f_normal, f_ret, f_none, f_ite, r_some, co_some, l_ptr, m_agg, m_one, sh_app, lk_nil, lk_cons, rd_eq, rdO_some, rdO_none, rdN_none, rdL_some, rdL_none, wrB_none, unitR_some, wr_nil, wr_here, wr_skip, k_cells, tk_zero, tk_take, tk_skip, tkC_some, call_func, gt, st, binV, arith, isSh, storeV, all1, idxAV, fieldV, faddrV, iaddrSV, iaddrAV, pickV, convV, unV, eqbV, eqpV, extV, mm2, mmV, nilckV, ress, res1, retV, Value.cells, cond_true, cond_false, Bool.true_or, Bool.false_or, Bool.or_true, Bool.or_false, beq_self_eq_true, if_true, if_false, ite_true, ite_false, decide_true, decide_false, decide_eq_true_eq, reduceIte, Nat.zero_add, Nat.add_zero, and_self, true_and, and_true, List.size_toArray, List.length_cons, List.length_nil, List.append_nil, List.nil_append, Int.toNat_zero, Bool.not_false, Bool.not_true, Bool.not_not, Bool.false_eq_true, Bool.true_eq_false, reduceCtorEq, Int.reduceLT, Int.reduceLE, Int.reduceToNat, Int.reduceAdd, Int.reduceSub, Int.reduceMul, Int.reduceNeg, Nat.reduceMul, Nat.reduceAdd, Nat.reduceSub, Nat.reduceBEq, Nat.reduceEqDiff, Nat.reduceLT, Nat.reduceLeDiff, Int.reduceBEq, Int.reduceEq, Nat.reducePow, Int.reducePow, IntWalk.i64_in, IntKind.bits, eqAV, eqL, leafEq, andO, fillV, buildSV, List.getElem?_toArray, List.getElem?_cons_zero, List.getElem?_cons_succ, List.getElem?_nil, Int.reduceGT, Int.reduceGE, Int.reduceBNe, Bool.true_and, Bool.and_true, Bool.false_and, Bool.and_false, Bool.and_self, IntWalk.u64_in, Int.cast_ofNat_Int, callF1, pad16, pad_0, pad_1, pad_2, pad_3, pad_4, pad_5, pad_6, pad_7, pad_8, pad_9, pad_10, pad_11, pad_12, pad_13, pad_14, pad_15, gc0, gc1, gc2, gc3, gc4, gc5, gc6, gc7, gc8, gc9, gc10, gc11, gc12, gc13, gc14, gc15, gcS, sc0, sc1, sc2, sc3, sc4, sc5, sc6, sc7, sc8, sc9, sc10, sc11, sc12, sc13, sc14, sc15, scS, List.drop_succ_cons, List.drop_nil, x_pan, s_pan, b_pan, pE_ret, pE_pan, pE_none, pE_ite, pvE_some, pvE_none, pvE_ite, rv_some, rv_none, rv_ite, oR_ret, t_mv, t_pick, t_alloc, t_box, t_build, t_buildS, t_load, t_store, t_nilck, t_bin, t_eqb, t_eqA, t_eqp, t_un, t_conv, t_field, t_idxA, t_faddr, t_iaddrS, t_iaddrA, t_ext, t_len, t_mm, t_call, t_ifc, t_fn, t_slc, t_slcA, t_slcT, t_tass, t_isn, t_mks, t_app, t_pan, panE_i, optE_none, optE_some, bnd_none, bnd_int, slA_none, slA_some, appR_some, appOld_cells, newsV_s, newsV_n, lenS_s, appV_nil, appV_some, mksV_i, sh_c, sh_g, f_pan, endD_ret, dfr_normal, dfr_ret, dfr_pan, restD_normal, callD1, callC1, tassV, isnV, slcV, slcAV, slcTV, slcB, appNew, Option.bind_some, Option.bind_none, d_pan, h_pan, wrH_eq, wrX_cells, wrU_some, upH_nil, upH_cons, lk_upH, effR_some, effR_none, effR_ite, Option.isNone_none, Option.isNone_some, slA_zero, call_yield, e_range, it_func, wy_same, y_call, isLp_self, beg_normal, end_normal, end_ret, end_exit, end_ite, aft_ret, aft_ready, aft_done, aft_exit, setP_cons, setP_nil, sh_r, t_mkmap, t_mlook, t_mupd, t_mdel, mapF_some, lookF_some, setM_some, lookR_t, lookR_n, lookR_f, lookR_fn, lookV, mupdV, mdelV, mkM]
    exact ⟨_, _, _, rfl, hN, Fr.refl, .inl ⟨rfl, rfl⟩⟩
  have hl' : ¬ (K.length : Int) > 256 := by omega
  have n3 : (0 : Int) ≤ (K.length : Int) := by omega
  have n4 : (K.length : Int) ≤ (K.length : Int) := Int.le_refl _
  have n5 : (K.length : Int) ≤ 140737488355328 := by omega
  have n6 : (16 : Int) * (K.length : Int) ≤ 140737488355328 := by omega
  have n6' : ((16 : Nat) : Int) * (K.length : Int) ≤ 140737488355328 := by omega
  simp -implicitDefEqProofs (maxSteps := 10000000) (disch := omega) only [T10, L10, G10_26, V26_eq, hB, hR, hI, lenV_sl, Int.toNat_natCast, bft, btf, gtst, st_len, hlv, hl', n3, n4, n5, n6, n6', rep_p2, pad, e_skip, e_ops, e_draw, e_fork, shg_n, shg_c, shg_g, shg_r, d_none, d_nil, d_cons, d_ite, h_none, h_nil, h_cons, h_ite, eqS_same, lightV, e_seq, e_cond, e_block, e_exit, e_ret, s_normal, s_ret, s_exit, s_none, s_ite, b_normal, b_ret, b_exit, b_none, b_ite, c_bool, x_none, x_nil, x_cons, x_ite, p_some, p_none, p_ite, pt_some, pt_none, pv_some, pv_none, pv_ite, w_none, w_some, i_bool, i_undef, bt, bf, v_tmp, v_const, v_global, v_func, evs, f_normal, f_ret, f_none, f_ite, r_some, co_some, l_ptr, m_agg, m_one, sh_app, lk_nil, lk_cons, rd_eq, rdO_some, rdO_none, rdN_none, rdL_some, rdL_none, wrB_none, unitR_some, wr_nil, wr_here, wr_skip, k_cells, tk_zero, tk_take, tk_skip, tkC_some, call_func, gt, st, binV, arith, isSh, storeV, all1, idxAV, fieldV, faddrV, iaddrSV, iaddrAV, pickV, convV, unV, eqbV, eqpV, extV, mm2, mmV, nilckV, ress, res1, retV, Value.cells, cond_true, cond_false, Bool.true_or, Bool.false_or, Bool.or_true, Bool.or_false, beq_self_eq_true, if_true, if_false, ite_true, ite_false, decide_true, decide_false, decide_eq_true_eq, reduceIte, Nat.zero_add, Nat.add_zero, and_self, true_and, and_true, List.size_toArray, List.length_cons, List.length_nil, List.append_nil, List.nil_append, Int.toNat_zero, Bool.not_false, Bool.not_true, Bool.not_not, Bool.false_eq_true, Bool.true_eq_false, reduceCtorEq, Int.reduceLT, Int.reduceLE, Int.reduceToNat, Int.reduceAdd, Int.reduceSub, Int.reduceMul, Int.reduceNeg, Nat.reduceMul, Nat.reduceAdd, Nat.reduceSub, Nat.reduceBEq, Nat.reduceEqDiff, Nat.reduceLT, Nat.reduceLeDiff, Int.reduceBEq, Int.reduceEq, Nat.reducePow, Int.reducePow, IntWalk.i64_in, IntKind.bits, eqAV, eqL, leafEq, andO, fillV, buildSV, List.getElem?_toArray, List.getElem?_cons_zero, List.getElem?_cons_succ, List.getElem?_nil, Int.reduceGT, Int.reduceGE, Int.reduceBNe, Bool.true_and, Bool.and_true, Bool.false_and, Bool.and_false, Bool.and_self, IntWalk.u64_in, Int.cast_ofNat_Int, callF1, pad16, pad_0, pad_1, pad_2, pad_3, pad_4, pad_5, pad_6, pad_7, pad_8, pad_9, pad_10, pad_11, pad_12, pad_13, pad_14, pad_15, gc0, gc1, gc2, gc3, gc4, gc5, gc6, gc7, gc8, gc9, gc10, gc11, gc12, gc13, gc14, gc15, gcS, sc0, sc1, sc2, sc3, sc4, sc5, sc6, sc7, sc8, sc9, sc10, sc11, sc12, sc13, sc14, sc15, scS, List.drop_succ_cons, List.drop_nil, x_pan, s_pan, b_pan, pE_ret, pE_pan, pE_none, pE_ite, pvE_some, pvE_none, pvE_ite, rv_some, rv_none, rv_ite, oR_ret, t_mv, t_pick, t_alloc, t_box, t_build, t_buildS, t_load, t_store, t_nilck, t_bin, t_eqb, t_eqA, t_eqp, t_un, t_conv, t_field, t_idxA, t_faddr, t_iaddrS, t_iaddrA, t_ext, t_len, t_mm, t_call, t_ifc, t_fn, t_slc, t_slcA, t_slcT, t_tass, t_isn, t_mks, t_app, t_pan, panE_i, optE_none, optE_some, bnd_none, bnd_int, slA_none, slA_some, appR_some, appOld_cells, newsV_s, newsV_n, lenS_s, appV_nil, appV_some, mksV_i, sh_c, sh_g, f_pan, endD_ret, dfr_normal, dfr_ret, dfr_pan, restD_normal, callD1, callC1, tassV, isnV, slcV, slcAV, slcTV, slcB, appNew, Option.bind_some, Option.bind_none, d_pan, h_pan, wrH_eq, wrX_cells, wrU_some, upH_nil, upH_cons, lk_upH, effR_some, effR_none, effR_ite, Option.isNone_none, Option.isNone_some, slA_zero, call_yield, e_range, it_func, wy_same, y_call, isLp_self, beg_normal, end_normal, end_ret, end_exit, end_ite, aft_ret, aft_ready, aft_done, aft_exit, setP_cons, setP_nil, sh_r, t_mkmap, t_mlook, t_mupd, t_mdel, mapF_some, lookF_some, setM_some, lookR_t, lookR_n, lookR_f, lookR_fn, lookV, mupdV, mdelV, mkM]
  generalize hX : exec B _ _ (LC.loop _) _ = o
  have hO : Ok o (R10 B H K v (N.n 0)) := by
    rw [← hX]
    exact loop10 hT hv hK hl (good_new hN) (fr_new hN Fr.refl 0) (hB 0) (lk_N hN 0) lk_top ⟨rfl, rfl, rfl, rfl, rfl, rfl, rfl⟩ (by omega)
  obtain ⟨x, ⟨ts, H1, N1⟩, rfl, g, f, tl, hr⟩ := hO
  simp only at g f tl hr
  have hb0 := hB 0
  have h00 := lk_N hN 0
  generalize N.n 0 = b at hb0 h00 hr
  rcases hr with ⟨rfl, ha, vs, t6, t5, hlb, hs⟩ | ⟨rfl, hna, t2, t3, t4⟩
  · have he := bErr_asc hl ha
    rw [he, bRoot_0 he, bLinks_0 he]
    have hls := hs.len
    rw [List.length_map] at hls
    cases hn : K.length with
    | zero =>
      rw [hn, rsp_zero] at hls
      have hz : (((0 : Nat) : Int) == 0) = true := rfl
      simp only [List.length_nil] at hls
      rw [T_zero]
      simp -implicitDefEqProofs (maxSteps := 10000000) (disch := omega) only [T10, L10, G10_26, V26_eq, hB, hR, hI, lenV_sl, Int.toNat_natCast, bft, btf, gtst, st_len, tl, t6, t5, hls, hz, Int.cast_ofNat_Int, pad, e_skip, e_ops, e_draw, e_fork, shg_n, shg_c, shg_g, shg_r, d_none, d_nil, d_cons, d_ite, h_none, h_nil, h_cons, h_ite, eqS_same, lightV, e_seq, e_cond, e_block, e_exit, e_ret, s_normal, s_ret, s_exit, s_none, s_ite, b_normal, b_ret, b_exit, b_none, b_ite, c_bool, x_none, x_nil, x_cons, x_ite, p_some, p_none, p_ite, pt_some, pt_none, pv_some, pv_none, pv_ite, w_none, w_some, i_bool, i_undef, bt, bf, v_tmp, v_const, v_global, v_func, evs, f_normal, f_ret, f_none, f_ite, r_some, co_some, l_ptr, m_agg, m_one, sh_app, lk_nil, lk_cons, rd_eq, rdO_some, rdO_none, rdN_none, rdL_some, rdL_none, wrB_none, unitR_some, wr_nil, wr_here, wr_skip, k_cells, tk_zero, tk_take, tk_skip, tkC_some, call_func, gt, st, binV, arith, isSh, storeV, all1, idxAV, fieldV, faddrV, iaddrSV, iaddrAV, pickV, convV, unV, eqbV, eqpV, extV, mm2, mmV, nilckV, ress, res1, retV, Value.cells, cond_true, cond_false, Bool.true_or, Bool.false_or, Bool.or_true, Bool.or_false, beq_self_eq_true, if_true, if_false, ite_true, ite_false, decide_true, decide_false, decide_eq_true_eq, reduceIte, Nat.zero_add, Nat.add_zero, and_self, true_and, and_true, List.size_toArray, List.length_cons, List.length_nil, List.append_nil, List.nil_append, Int.toNat_zero, Bool.not_false, Bool.not_true, Bool.not_not, Bool.false_eq_true, Bool.true_eq_false, reduceCtorEq, Int.reduceLT, Int.reduceLE, Int.reduceToNat, Int.reduceAdd, Int.reduceSub, Int.reduceMul, Int.reduceNeg, Nat.reduceMul, Nat.reduceAdd, Nat.reduceSub, Nat.reduceBEq, Nat.reduceEqDiff, Nat.reduceLT, Nat.reduceLeDiff, Int.reduceBEq, Int.reduceEq, Nat.reducePow, Int.reducePow, IntWalk.i64_in, IntKind.bits, eqAV, eqL, leafEq, andO, fillV, buildSV, List.getElem?_toArray, List.getElem?_cons_zero, List.getElem?_cons_succ, List.getElem?_nil, Int.reduceGT, Int.reduceGE, Int.reduceBNe, Bool.true_and, Bool.and_true, Bool.false_and, Bool.and_false, Bool.and_self, IntWalk.u64_in, Int.cast_ofNat_Int, callF1, pad16, pad_0, pad_1, pad_2, pad_3, pad_4, pad_5, pad_6, pad_7, pad_8, pad_9, pad_10, pad_11, pad_12, pad_13, pad_14, pad_15, gc0, gc1, gc2, gc3, gc4, gc5, gc6, gc7, gc8, gc9, gc10, gc11, gc12, gc13, gc14, gc15, gcS, sc0, sc1, sc2, sc3, sc4, sc5, sc6, sc7, sc8, sc9, sc10, sc11, sc12, sc13, sc14, sc15, scS, List.drop_succ_cons, List.drop_nil, x_pan, s_pan, b_pan, pE_ret, pE_pan, pE_none, pE_ite, pvE_some, pvE_none, pvE_ite, rv_some, rv_none, rv_ite, oR_ret, t_mv, t_pick, t_alloc, t_box, t_build, t_buildS, t_load, t_store, t_nilck, t_bin, t_eqb, t_eqA, t_eqp, t_un, t_conv, t_field, t_idxA, t_faddr, t_iaddrS, t_iaddrA, t_ext, t_len, t_mm, t_call, t_ifc, t_fn, t_slc, t_slcA, t_slcT, t_tass, t_isn, t_mks, t_app, t_pan, panE_i, optE_none, optE_some, bnd_none, bnd_int, slA_none, slA_some, appR_some, appOld_cells, newsV_s, newsV_n, lenS_s, appV_nil, appV_some, mksV_i, sh_c, sh_g, f_pan, endD_ret, dfr_normal, dfr_ret, dfr_pan, restD_normal, callD1, callC1, tassV, isnV, slcV, slcAV, slcTV, slcB, appNew, Option.bind_some, Option.bind_none, d_pan, h_pan, wrH_eq, wrX_cells, wrU_some, upH_nil, upH_cons, lk_upH, effR_some, effR_none, effR_ite, Option.isNone_none, Option.isNone_some, slA_zero, call_yield, e_range, it_func, wy_same, y_call, isLp_self, beg_normal, end_normal, end_ret, end_exit, end_ite, aft_ret, aft_ready, aft_done, aft_exit, setP_cons, setP_nil, sh_r, t_mkmap, t_mlook, t_mupd, t_mdel, mapF_some, lookF_some, setM_some, lookR_t, lookR_n, lookR_f, lookR_fn, lookV, mupdV, mdelV, mkM]
      exact ⟨_, _, _, rfl, g, f, .inl ⟨rfl, rfl⟩⟩
    | succ n =>
      have hhd := rsp_head (fK K) 0 (n + 1)
      rw [hn] at hls hs t5 hlb
      rw [rsp_succ] at hls hs hhd
      simp only [List.headD_cons, List.length_cons] at hhd hls
      rw [← hhd]
      have hz : ((((rsp (fK K) (amx (fK K) 0 n + 1) (0 + n - amx (fK K) 0 n)).length + 1 : Nat) : Int) == 0) = false := beqI (by omega)
      rcases hs with ⟨h, _⟩ | ⟨bs, cap, rest, rfl, hBs, h0s, hle, hlks⟩
      · simp at h
      have rs := fun o n => rdB_none (o := o) (n := n) hBs
      simp only [List.map_cons, fl] at hlks
      simp only [List.length_map, List.length_cons] at t6
      have hpos : 0 < (rsp (fK K) (amx (fK K) 0 n + 1) (0 + n - amx (fK K) 0 n)).length + 1 := by omega
      simp only [f1, List.cons_append, List.nil_append, iC] at hlks
      simp -implicitDefEqProofs (maxSteps := 10000000) (disch := omega) only [T10, L10, G10_26, V26_eq, hB, hR, hI, lenV_sl, Int.toNat_natCast, bft, btf, gtst, st_len, tl, t6, t5, hls, hz, hpos, rs, hBs, hlks, pad, e_skip, e_ops, e_draw, e_fork, shg_n, shg_c, shg_g, shg_r, d_none, d_nil, d_cons, d_ite, h_none, h_nil, h_cons, h_ite, eqS_same, lightV, e_seq, e_cond, e_block, e_exit, e_ret, s_normal, s_ret, s_exit, s_none, s_ite, b_normal, b_ret, b_exit, b_none, b_ite, c_bool, x_none, x_nil, x_cons, x_ite, p_some, p_none, p_ite, pt_some, pt_none, pv_some, pv_none, pv_ite, w_none, w_some, i_bool, i_undef, bt, bf, v_tmp, v_const, v_global, v_func, evs, f_normal, f_ret, f_none, f_ite, r_some, co_some, l_ptr, m_agg, m_one, sh_app, lk_nil, lk_cons, rd_eq, rdO_some, rdO_none, rdN_none, rdL_some, rdL_none, wrB_none, unitR_some, wr_nil, wr_here, wr_skip, k_cells, tk_zero, tk_take, tk_skip, tkC_some, call_func, gt, st, binV, arith, isSh, storeV, all1, idxAV, fieldV, faddrV, iaddrSV, iaddrAV, pickV, convV, unV, eqbV, eqpV, extV, mm2, mmV, nilckV, ress, res1, retV, Value.cells, cond_true, cond_false, Bool.true_or, Bool.false_or, Bool.or_true, Bool.or_false, beq_self_eq_true, if_true, if_false, ite_true, ite_false, decide_true, decide_false, decide_eq_true_eq, reduceIte, Nat.zero_add, Nat.add_zero, and_self, true_and, and_true, List.size_toArray, List.length_cons, List.length_nil, List.append_nil, List.nil_append, Int.toNat_zero, Bool.not_false, Bool.not_true, Bool.not_not, Bool.false_eq_true, Bool.true_eq_false, reduceCtorEq, Int.reduceLT, Int.reduceLE, Int.reduceToNat, Int.reduceAdd, Int.reduceSub, Int.reduceMul, Int.reduceNeg, Nat.reduceMul, Nat.reduceAdd, Nat.reduceSub, Nat.reduceBEq, Nat.reduceEqDiff, Nat.reduceLT, Nat.reduceLeDiff, Int.reduceBEq, Int.reduceEq, Nat.reducePow, Int.reducePow, IntWalk.i64_in, IntKind.bits, eqAV, eqL, leafEq, andO, fillV, buildSV, List.getElem?_toArray, List.getElem?_cons_zero, List.getElem?_cons_succ, List.getElem?_nil, Int.reduceGT, Int.reduceGE, Int.reduceBNe, Bool.true_and, Bool.and_true, Bool.false_and, Bool.and_false, Bool.and_self, IntWalk.u64_in, Int.cast_ofNat_Int, callF1, pad16, pad_0, pad_1, pad_2, pad_3, pad_4, pad_5, pad_6, pad_7, pad_8, pad_9, pad_10, pad_11, pad_12, pad_13, pad_14, pad_15, gc0, gc1, gc2, gc3, gc4, gc5, gc6, gc7, gc8, gc9, gc10, gc11, gc12, gc13, gc14, gc15, gcS, sc0, sc1, sc2, sc3, sc4, sc5, sc6, sc7, sc8, sc9, sc10, sc11, sc12, sc13, sc14, sc15, scS, List.drop_succ_cons, List.drop_nil, x_pan, s_pan, b_pan, pE_ret, pE_pan, pE_none, pE_ite, pvE_some, pvE_none, pvE_ite, rv_some, rv_none, rv_ite, oR_ret, t_mv, t_pick, t_alloc, t_box, t_build, t_buildS, t_load, t_store, t_nilck, t_bin, t_eqb, t_eqA, t_eqp, t_un, t_conv, t_field, t_idxA, t_faddr, t_iaddrS, t_iaddrA, t_ext, t_len, t_mm, t_call, t_ifc, t_fn, t_slc, t_slcA, t_slcT, t_tass, t_isn, t_mks, t_app, t_pan, panE_i, optE_none, optE_some, bnd_none, bnd_int, slA_none, slA_some, appR_some, appOld_cells, newsV_s, newsV_n, lenS_s, appV_nil, appV_some, mksV_i, sh_c, sh_g, f_pan, endD_ret, dfr_normal, dfr_ret, dfr_pan, restD_normal, callD1, callC1, tassV, isnV, slcV, slcAV, slcTV, slcB, appNew, Option.bind_some, Option.bind_none, d_pan, h_pan, wrH_eq, wrX_cells, wrU_some, upH_nil, upH_cons, lk_upH, effR_some, effR_none, effR_ite, Option.isNone_none, Option.isNone_some, slA_zero, call_yield, e_range, it_func, wy_same, y_call, isLp_self, beg_normal, end_normal, end_ret, end_exit, end_ite, aft_ret, aft_ready, aft_done, aft_exit, setP_cons, setP_nil, sh_r, t_mkmap, t_mlook, t_mupd, t_mdel, mapF_some, lookF_some, setM_some, lookR_t, lookR_n, lookR_f, lookR_fn, lookV, mupdV, mdelV, mkM]
      exact ⟨_, _, _, rfl, g, f, .inr ⟨b, n + 1, by rw [List.length_map, T_len], hb0, h00, by rw [List.length_map, T_len]; exact Nat.le_refl _, by rw [← hn, ← lnk_n, hn]; exact hlb⟩⟩
  · have he := bErr_not hl hna
    have hne : ¬ bErr K = 0 := by omega
    rw [he, bRoot_e hne, bLinks_e hne]
    simp -implicitDefEqProofs (maxSteps := 10000000) (disch := omega) only [T10, L10, G10_26, V26_eq, hB, hR, hI, lenV_sl, Int.toNat_natCast, bft, btf, gtst, st_len, tl, t2, t3, t4, pad, e_skip, e_ops, e_draw, e_fork, shg_n, shg_c, shg_g, shg_r, d_none, d_nil, d_cons, d_ite, h_none, h_nil, h_cons, h_ite, eqS_same, lightV, e_seq, e_cond, e_block, e_exit, e_ret, s_normal, s_ret, s_exit, s_none, s_ite, b_normal, b_ret, b_exit, b_none, b_ite, c_bool, x_none, x_nil, x_cons, x_ite, p_some, p_none, p_ite, pt_some, pt_none, pv_some, pv_none, pv_ite, w_none, w_some, i_bool, i_undef, bt, bf, v_tmp, v_const, v_global, v_func, evs, f_normal, f_ret, f_none, f_ite, r_some, co_some, l_ptr, m_agg, m_one, sh_app, lk_nil, lk_cons, rd_eq, rdO_some, rdO_none, rdN_none, rdL_some, rdL_none, wrB_none, unitR_some, wr_nil, wr_here, wr_skip, k_cells, tk_zero, tk_take, tk_skip, tkC_some, call_func, gt, st, binV, arith, isSh, storeV, all1, idxAV, fieldV, faddrV, iaddrSV, iaddrAV, pickV, convV, unV, eqbV, eqpV, extV, mm2, mmV, nilckV, ress, res1, retV, Value.cells, cond_true, cond_false, Bool.true_or, Bool.false_or, Bool.or_true, Bool.or_false, beq_self_eq_true, if_true, if_false, ite_true, ite_false, decide_true, decide_false, decide_eq_true_eq, reduceIte, Nat.zero_add, Nat.add_zero, and_self, true_and, and_true, List.size_toArray, List.length_cons, List.length_nil, List.append_nil, List.nil_append, Int.toNat_zero, Bool.not_false, Bool.not_true, Bool.not_not, Bool.false_eq_true, Bool.true_eq_false, reduceCtorEq, Int.reduceLT, Int.reduceLE, Int.reduceToNat, Int.reduceAdd, Int.reduceSub, Int.reduceMul, Int.reduceNeg, Nat.reduceMul, Nat.reduceAdd, Nat.reduceSub, Nat.reduceBEq, Nat.reduceEqDiff, Nat.reduceLT, Nat.reduceLeDiff, Int.reduceBEq, Int.reduceEq, Nat.reducePow, Int.reducePow, IntWalk.i64_in, IntKind.bits, eqAV, eqL, leafEq, andO, fillV, buildSV, List.getElem?_toArray, List.getElem?_cons_zero, List.getElem?_cons_succ, List.getElem?_nil, Int.reduceGT, Int.reduceGE, Int.reduceBNe, Bool.true_and, Bool.and_true, Bool.false_and, Bool.and_false, Bool.and_self, IntWalk.u64_in, Int.cast_ofNat_Int, callF1, pad16, pad_0, pad_1, pad_2, pad_3, pad_4, pad_5, pad_6, pad_7, pad_8, pad_9, pad_10, pad_11, pad_12, pad_13, pad_14, pad_15, gc0, gc1, gc2, gc3, gc4, gc5, gc6, gc7, gc8, gc9, gc10, gc11, gc12, gc13, gc14, gc15, gcS, sc0, sc1, sc2, sc3, sc4, sc5, sc6, sc7, sc8, sc9, sc10, sc11, sc12, sc13, sc14, sc15, scS, List.drop_succ_cons, List.drop_nil, x_pan, s_pan, b_pan, pE_ret, pE_pan, pE_none, pE_ite, pvE_some, pvE_none, pvE_ite, rv_some, rv_none, rv_ite, oR_ret, t_mv, t_pick, t_alloc, t_box, t_build, t_buildS, t_load, t_store, t_nilck, t_bin, t_eqb, t_eqA, t_eqp, t_un, t_conv, t_field, t_idxA, t_faddr, t_iaddrS, t_iaddrA, t_ext, t_len, t_mm, t_call, t_ifc, t_fn, t_slc, t_slcA, t_slcT, t_tass, t_isn, t_mks, t_app, t_pan, panE_i, optE_none, optE_some, bnd_none, bnd_int, slA_none, slA_some, appR_some, appOld_cells, newsV_s, newsV_n, lenS_s, appV_nil, appV_some, mksV_i, sh_c, sh_g, f_pan, endD_ret, dfr_normal, dfr_ret, dfr_pan, restD_normal, callD1, callC1, tassV, isnV, slcV, slcAV, slcTV, slcB, appNew, Option.bind_some, Option.bind_none, d_pan, h_pan, wrH_eq, wrX_cells, wrU_some, upH_nil, upH_cons, lk_upH, effR_some, effR_none, effR_ite, Option.isNone_none, Option.isNone_some, slA_zero, call_yield, e_range, it_func, wy_same, y_call, isLp_self, beg_normal, end_normal, end_ret, end_exit, end_ite, aft_ret, aft_ready, aft_done, aft_exit, setP_cons, setP_nil, sh_r, t_mkmap, t_mlook, t_mupd, t_mdel, mapF_some, lookF_some, setM_some, lookR_t, lookR_n, lookR_f, lookR_fn, lookV, mupdV, mdelV, mkM]
    exact ⟨_, _, _, rfl, g, f, .inl ⟨rfl, rfl⟩⟩
/-- Is a tree the one of keys? -/
noncomputable def rOk (K : List Int) (root : Int) (links : List P2) : Bool := decide (bErr K = 0) && decide (bRoot K = root) && decide (bLinks K = links)
theorem bLinks_le (K : List Int) : (bLinks K).length ≤ 256 := by
  by_cases h : bErr K = 0
  · rw [bLinks_len h]; exact (bErr_0 h).1
  · rw [bLinks_e h]; simp
/-- whitewash/treap.Right -/
def L13 : FnL := ⟨(.seq (.ops [⟨(some 6), .mv (.const (.bool false)), none⟩])
 (.seq (.ops [⟨(some 11), .mv (.tmp 0), none⟩, ⟨(some 12), .call (.func 10) [(.tmp 11)], none⟩, ⟨(some 10), .mv (.tmp 12), none⟩, ⟨(some 13), .ext (.tmp 10) 0, none⟩, ⟨(some 14), .ext (.tmp 10) 1, none⟩, ⟨(some 15), .ext (.tmp 10) 2, none⟩, ⟨(some 7), .mv (.tmp 13), none⟩, ⟨(some 8), .mv (.tmp 14), none⟩, ⟨(some 9), .mv (.tmp 15), none⟩])
 (.seq (.ops [⟨(some 16), .mv (.tmp 9), none⟩, ⟨(some 17), .bin .eql (.tmp 16) (.const (.int .i64 0)), none⟩, ⟨(some 18), .mv (.tmp 17), none⟩, ⟨(some 19), .mv (.tmp 7), (some (18, true))⟩, ⟨(some 20), .mv (.tmp 1), (some (18, true))⟩, ⟨(some 21), .bin .eql (.tmp 19) (.tmp 20), (some (18, true))⟩, ⟨(some 22), .pick (.tmp 18) (.tmp 21) (.const (.bool false)), none⟩, ⟨(some 23), .mv (.tmp 22), none⟩, ⟨(some 24), .mv (.tmp 8), (some (23, true))⟩, ⟨(some 25), .mv (.tmp 2), (some (23, true))⟩, ⟨(some 26), .call (.func 28) [(.tmp 24), (.tmp 25)], (some (23, true))⟩, ⟨(some 27), .pick (.tmp 23) (.tmp 26) (.const (.bool false)), none⟩, ⟨(some 6), .mv (.tmp 27), none⟩])
 .ret))),
 28, [.tmp 6]⟩
theorem low13 : lowerFn Tryd.prog Tryd.f13 = some L13 := by kernel_rfl
noncomputable def G13 (B : OH) : Nat → Cs
  | 10 => V10 B
  | 28 => V28 B
  | _ => fun _ _ _ => none
theorem G13_10 {B : OH} : G13 B 10 = V10 B := rfl
theorem G13_28 {B : OH} : G13 B 28 = V28 B := rfl
theorem sG13 {w0 : World} {B : OH} : SoundG Tryd.prog w0 B { f := G13 B } := .of fun k => by
  unfold G13
  split
  · exact .inr ⟨en10, sV10⟩
  · exact .inr ⟨en28, sV28⟩
  · exact .inl fun _ _ _ => rfl
theorem en13 : Enter Tryd.prog 13 := .of Tryd.func13 (by kernel_rfl) (by kernel_rfl)
noncomputable def T13 (B : OH) : Cs := callF B { f := G13 B } 1300 L13
theorem sT13 {w0 : World} {B : OH} : SoundC Tryd.prog w0 B 13 (T13 B) := callF_sound mixedOrders sG13 1300 Tryd.func13 low13
noncomputable def V13 (B : OH) : Cs := T13 B
theorem sV13 {w0 : World} {B : OH} : SoundC Tryd.prog w0 B 13 (V13 B) := sT13
set_option maxHeartbeats 4000000 in
theorem right13 {B : OH} {H : HL} {N : St} {v u : Value} {K : List Int} {root : Int} {links : List P2} (hT : Tab B) (hN : good B H N) (hv : SlR w1 1 B H v K) (hK : U64s K) (hu : SlR p2 2 B H u links) :
    ∃ H' N', V13 B [v, .int .i64 root, u] H N = some (.ret (.bool (rOk K root links)), H', N') ∧ good B H' N' ∧ Fr H H' := by
  have hB := good_B hN
  have hR := good_rdB hN
  have hI := beqN hN.1.1
  obtain ⟨v', H1, N1, eb, g1, f1', s1⟩ := build hT hN hv hK
  have es := same28 g1 (s1.rd p2_len) (hu.mono f1') (by have := bLinks_le K; omega)
  unfold V13 rOk
  by_cases he : bErr K = 0
  · rw [decide_eq_true he]
    have he' : (bErr K == 0) = true := by simpa using he
    by_cases hr : bRoot K = root
    · rw [decide_eq_true hr]
      have hr' : (bRoot K == root) = true := by simpa using hr
      simp -implicitDefEqProofs (maxSteps := 10000000) (disch := omega) only [T13, L13, G13_10, G13_28, hB, hR, hI, lenV_sl, Int.toNat_natCast, bft, btf, gtst, st_len, eb, he', hr', es, pad, e_skip, e_ops, e_draw, e_fork, shg_n, shg_c, shg_g, shg_r, d_none, d_nil, d_cons, d_ite, h_none, h_nil, h_cons, h_ite, eqS_same, lightV, e_seq, e_cond, e_block, e_exit, e_ret, s_normal, s_ret, s_exit, s_none, s_ite, b_normal, b_ret, b_exit, b_none, b_ite, c_bool, x_none, x_nil, x_cons, x_ite, p_some, p_none, p_ite, pt_some, pt_none, pv_some, pv_none, pv_ite, w_none, w_some, i_bool, i_undef, bt, bf, v_tmp, v_const, v_global, v_func, evs, f_normal, f_ret, f_none, f_ite, r_some, co_some, l_ptr, m_agg, m_one, sh_app, lk_nil, lk_cons, rd_eq, rdO_some, rdO_none, rdN_none, rdL_some, rdL_none, wrB_none, unitR_some, wr_nil, wr_here, wr_skip, k_cells, tk_zero, tk_take, tk_skip, tkC_some, call_func, gt, st, binV, arith, isSh, storeV, all1, idxAV, fieldV, faddrV, iaddrSV, iaddrAV, pickV, convV, unV, eqbV, eqpV, extV, mm2, mmV, nilckV, ress, res1, retV, Value.cells, cond_true, cond_false, Bool.true_or, Bool.false_or, Bool.or_true, Bool.or_false, beq_self_eq_true, if_true, if_false, ite_true, ite_false, decide_true, decide_false, decide_eq_true_eq, reduceIte, Nat.zero_add, Nat.add_zero, and_self, true_and, and_true, List.size_toArray, List.length_cons, List.length_nil, List.append_nil, List.nil_append, Int.toNat_zero, Bool.not_false, Bool.not_true, Bool.not_not, Bool.false_eq_true, Bool.true_eq_false, reduceCtorEq, Int.reduceLT, Int.reduceLE, Int.reduceToNat, Int.reduceAdd, Int.reduceSub, Int.reduceMul, Int.reduceNeg, Nat.reduceMul, Nat.reduceAdd, Nat.reduceSub, Nat.reduceBEq, Nat.reduceEqDiff, Nat.reduceLT, Nat.reduceLeDiff, Int.reduceBEq, Int.reduceEq, Nat.reducePow, Int.reducePow, IntWalk.i64_in, IntKind.bits, eqAV, eqL, leafEq, andO, fillV, buildSV, List.getElem?_toArray, List.getElem?_cons_zero, List.getElem?_cons_succ, List.getElem?_nil, Int.reduceGT, Int.reduceGE, Int.reduceBNe, Bool.true_and, Bool.and_true, Bool.false_and, Bool.and_false, Bool.and_self, IntWalk.u64_in, Int.cast_ofNat_Int, callF1, pad16, pad_0, pad_1, pad_2, pad_3, pad_4, pad_5, pad_6, pad_7, pad_8, pad_9, pad_10, pad_11, pad_12, pad_13, pad_14, pad_15, gc0, gc1, gc2, gc3, gc4, gc5, gc6, gc7, gc8, gc9, gc10, gc11, gc12, gc13, gc14, gc15, gcS, sc0, sc1, sc2, sc3, sc4, sc5, sc6, sc7, sc8, sc9, sc10, sc11, sc12, sc13, sc14, sc15, scS, List.drop_succ_cons, List.drop_nil, x_pan, s_pan, b_pan, pE_ret, pE_pan, pE_none, pE_ite, pvE_some, pvE_none, pvE_ite, rv_some, rv_none, rv_ite, oR_ret, t_mv, t_pick, t_alloc, t_box, t_build, t_buildS, t_load, t_store, t_nilck, t_bin, t_eqb, t_eqA, t_eqp, t_un, t_conv, t_field, t_idxA, t_faddr, t_iaddrS, t_iaddrA, t_ext, t_len, t_mm, t_call, t_ifc, t_fn, t_slc, t_slcA, t_slcT, t_tass, t_isn, t_mks, t_app, t_pan, panE_i, optE_none, optE_some, bnd_none, bnd_int, slA_none, slA_some, appR_some, appOld_cells, newsV_s, newsV_n, lenS_s, appV_nil, appV_some, mksV_i, sh_c, sh_g, f_pan, endD_ret, dfr_normal, dfr_ret, dfr_pan, restD_normal, callD1, callC1, tassV, isnV, slcV, slcAV, slcTV, slcB, appNew, Option.bind_some, Option.bind_none, d_pan, h_pan, wrH_eq, wrX_cells, wrU_some, upH_nil, upH_cons, lk_upH, effR_some, effR_none, effR_ite, Option.isNone_none, Option.isNone_some, slA_zero, call_yield, e_range, it_func, wy_same, y_call, isLp_self, beg_normal, end_normal, end_ret, end_exit, end_ite, aft_ret, aft_ready, aft_done, aft_exit, setP_cons, setP_nil, sh_r, t_mkmap, t_mlook, t_mupd, t_mdel, mapF_some, lookF_some, setM_some, lookR_t, lookR_n, lookR_f, lookR_fn, lookV, mupdV, mdelV, mkM]
      exact ⟨_, _, rfl, g1, f1'⟩
    · rw [decide_eq_false hr]
      have hr' := beqI hr
      simp -implicitDefEqProofs (maxSteps := 10000000) (disch := omega) only [T13, L13, G13_10, G13_28, hB, hR, hI, lenV_sl, Int.toNat_natCast, bft, btf, gtst, st_len, eb, he', hr', pad, e_skip, e_ops, e_draw, e_fork, shg_n, shg_c, shg_g, shg_r, d_none, d_nil, d_cons, d_ite, h_none, h_nil, h_cons, h_ite, eqS_same, lightV, e_seq, e_cond, e_block, e_exit, e_ret, s_normal, s_ret, s_exit, s_none, s_ite, b_normal, b_ret, b_exit, b_none, b_ite, c_bool, x_none, x_nil, x_cons, x_ite, p_some, p_none, p_ite, pt_some, pt_none, pv_some, pv_none, pv_ite, w_none, w_some, i_bool, i_undef, bt, bf, v_tmp, v_const, v_global, v_func, evs, f_normal, f_ret, f_none, f_ite, r_some, co_some, l_ptr, m_agg, m_one, sh_app, lk_nil, lk_cons, rd_eq, rdO_some, rdO_none, rdN_none, rdL_some, rdL_none, wrB_none, unitR_some, wr_nil, wr_here, wr_skip, k_cells, tk_zero, tk_take, tk_skip, tkC_some, call_func, gt, st, binV, arith, isSh, storeV, all1, idxAV, fieldV, faddrV, iaddrSV, iaddrAV, pickV, convV, unV, eqbV, eqpV, extV, mm2, mmV, nilckV, ress, res1, retV, Value.cells, cond_true, cond_false, Bool.true_or, Bool.false_or, Bool.or_true, Bool.or_false, beq_self_eq_true, if_true, if_false, ite_true, ite_false, decide_true, decide_false, decide_eq_true_eq, reduceIte, Nat.zero_add, Nat.add_zero, and_self, true_and, and_true, List.size_toArray, List.length_cons, List.length_nil, List.append_nil, List.nil_append, Int.toNat_zero, Bool.not_false, Bool.not_true, Bool.not_not, Bool.false_eq_true, Bool.true_eq_false, reduceCtorEq, Int.reduceLT, Int.reduceLE, Int.reduceToNat, Int.reduceAdd, Int.reduceSub, Int.reduceMul, Int.reduceNeg, Nat.reduceMul, Nat.reduceAdd, Nat.reduceSub, Nat.reduceBEq, Nat.reduceEqDiff, Nat.reduceLT, Nat.reduceLeDiff, Int.reduceBEq, Int.reduceEq, Nat.reducePow, Int.reducePow, IntWalk.i64_in, IntKind.bits, eqAV, eqL, leafEq, andO, fillV, buildSV, List.getElem?_toArray, List.getElem?_cons_zero, List.getElem?_cons_succ, List.getElem?_nil, Int.reduceGT, Int.reduceGE, Int.reduceBNe, Bool.true_and, Bool.and_true, Bool.false_and, Bool.and_false, Bool.and_self, IntWalk.u64_in, Int.cast_ofNat_Int, callF1, pad16, pad_0, pad_1, pad_2, pad_3, pad_4, pad_5, pad_6, pad_7, pad_8, pad_9, pad_10, pad_11, pad_12, pad_13, pad_14, pad_15, gc0, gc1, gc2, gc3, gc4, gc5, gc6, gc7, gc8, gc9, gc10, gc11, gc12, gc13, gc14, gc15, gcS, sc0, sc1, sc2, sc3, sc4, sc5, sc6, sc7, sc8, sc9, sc10, sc11, sc12, sc13, sc14, sc15, scS, List.drop_succ_cons, List.drop_nil, x_pan, s_pan, b_pan, pE_ret, pE_pan, pE_none, pE_ite, pvE_some, pvE_none, pvE_ite, rv_some, rv_none, rv_ite, oR_ret, t_mv, t_pick, t_alloc, t_box, t_build, t_buildS, t_load, t_store, t_nilck, t_bin, t_eqb, t_eqA, t_eqp, t_un, t_conv, t_field, t_idxA, t_faddr, t_iaddrS, t_iaddrA, t_ext, t_len, t_mm, t_call, t_ifc, t_fn, t_slc, t_slcA, t_slcT, t_tass, t_isn, t_mks, t_app, t_pan, panE_i, optE_none, optE_some, bnd_none, bnd_int, slA_none, slA_some, appR_some, appOld_cells, newsV_s, newsV_n, lenS_s, appV_nil, appV_some, mksV_i, sh_c, sh_g, f_pan, endD_ret, dfr_normal, dfr_ret, dfr_pan, restD_normal, callD1, callC1, tassV, isnV, slcV, slcAV, slcTV, slcB, appNew, Option.bind_some, Option.bind_none, d_pan, h_pan, wrH_eq, wrX_cells, wrU_some, upH_nil, upH_cons, lk_upH, effR_some, effR_none, effR_ite, Option.isNone_none, Option.isNone_some, slA_zero, call_yield, e_range, it_func, wy_same, y_call, isLp_self, beg_normal, end_normal, end_ret, end_exit, end_ite, aft_ret, aft_ready, aft_done, aft_exit, setP_cons, setP_nil, sh_r, t_mkmap, t_mlook, t_mupd, t_mdel, mapF_some, lookF_some, setM_some, lookR_t, lookR_n, lookR_f, lookR_fn, lookV, mupdV, mdelV, mkM]
      exact ⟨_, _, rfl, g1, f1'⟩
  · rw [decide_eq_false he]
    have he' := beqI he
    simp -implicitDefEqProofs (maxSteps := 10000000) (disch := omega) only [T13, L13, G13_10, G13_28, hB, hR, hI, lenV_sl, Int.toNat_natCast, bft, btf, gtst, st_len, eb, he', pad, e_skip, e_ops, e_draw, e_fork, shg_n, shg_c, shg_g, shg_r, d_none, d_nil, d_cons, d_ite, h_none, h_nil, h_cons, h_ite, eqS_same, lightV, e_seq, e_cond, e_block, e_exit, e_ret, s_normal, s_ret, s_exit, s_none, s_ite, b_normal, b_ret, b_exit, b_none, b_ite, c_bool, x_none, x_nil, x_cons, x_ite, p_some, p_none, p_ite, pt_some, pt_none, pv_some, pv_none, pv_ite, w_none, w_some, i_bool, i_undef, bt, bf, v_tmp, v_const, v_global, v_func, evs, f_normal, f_ret, f_none, f_ite, r_some, co_some, l_ptr, m_agg, m_one, sh_app, lk_nil, lk_cons, rd_eq, rdO_some, rdO_none, rdN_none, rdL_some, rdL_none, wrB_none, unitR_some, wr_nil, wr_here, wr_skip, k_cells, tk_zero, tk_take, tk_skip, tkC_some, call_func, gt, st, binV, arith, isSh, storeV, all1, idxAV, fieldV, faddrV, iaddrSV, iaddrAV, pickV, convV, unV, eqbV, eqpV, extV, mm2, mmV, nilckV, ress, res1, retV, Value.cells, cond_true, cond_false, Bool.true_or, Bool.false_or, Bool.or_true, Bool.or_false, beq_self_eq_true, if_true, if_false, ite_true, ite_false, decide_true, decide_false, decide_eq_true_eq, reduceIte, Nat.zero_add, Nat.add_zero, and_self, true_and, and_true, List.size_toArray, List.length_cons, List.length_nil, List.append_nil, List.nil_append, Int.toNat_zero, Bool.not_false, Bool.not_true, Bool.not_not, Bool.false_eq_true, Bool.true_eq_false, reduceCtorEq, Int.reduceLT, Int.reduceLE, Int.reduceToNat, Int.reduceAdd, Int.reduceSub, Int.reduceMul, Int.reduceNeg, Nat.reduceMul, Nat.reduceAdd, Nat.reduceSub, Nat.reduceBEq, Nat.reduceEqDiff, Nat.reduceLT, Nat.reduceLeDiff, Int.reduceBEq, Int.reduceEq, Nat.reducePow, Int.reducePow, IntWalk.i64_in, IntKind.bits, eqAV, eqL, leafEq, andO, fillV, buildSV, List.getElem?_toArray, List.getElem?_cons_zero, List.getElem?_cons_succ, List.getElem?_nil, Int.reduceGT, Int.reduceGE, Int.reduceBNe, Bool.true_and, Bool.and_true, Bool.false_and, Bool.and_false, Bool.and_self, IntWalk.u64_in, Int.cast_ofNat_Int, callF1, pad16, pad_0, pad_1, pad_2, pad_3, pad_4, pad_5, pad_6, pad_7, pad_8, pad_9, pad_10, pad_11, pad_12, pad_13, pad_14, pad_15, gc0, gc1, gc2, gc3, gc4, gc5, gc6, gc7, gc8, gc9, gc10, gc11, gc12, gc13, gc14, gc15, gcS, sc0, sc1, sc2, sc3, sc4, sc5, sc6, sc7, sc8, sc9, sc10, sc11, sc12, sc13, sc14, sc15, scS, List.drop_succ_cons, List.drop_nil, x_pan, s_pan, b_pan, pE_ret, pE_pan, pE_none, pE_ite, pvE_some, pvE_none, pvE_ite, rv_some, rv_none, rv_ite, oR_ret, t_mv, t_pick, t_alloc, t_box, t_build, t_buildS, t_load, t_store, t_nilck, t_bin, t_eqb, t_eqA, t_eqp, t_un, t_conv, t_field, t_idxA, t_faddr, t_iaddrS, t_iaddrA, t_ext, t_len, t_mm, t_call, t_ifc, t_fn, t_slc, t_slcA, t_slcT, t_tass, t_isn, t_mks, t_app, t_pan, panE_i, optE_none, optE_some, bnd_none, bnd_int, slA_none, slA_some, appR_some, appOld_cells, newsV_s, newsV_n, lenS_s, appV_nil, appV_some, mksV_i, sh_c, sh_g, f_pan, endD_ret, dfr_normal, dfr_ret, dfr_pan, restD_normal, callD1, callC1, tassV, isnV, slcV, slcAV, slcTV, slcB, appNew, Option.bind_some, Option.bind_none, d_pan, h_pan, wrH_eq, wrX_cells, wrU_some, upH_nil, upH_cons, lk_upH, effR_some, effR_none, effR_ite, Option.isNone_none, Option.isNone_some, slA_zero, call_yield, e_range, it_func, wy_same, y_call, isLp_self, beg_normal, end_normal, end_ret, end_exit, end_ite, aft_ret, aft_ready, aft_done, aft_exit, setP_cons, setP_nil, sh_r, t_mkmap, t_mlook, t_mupd, t_mdel, mapF_some, lookF_some, setM_some, lookR_t, lookR_n, lookR_f, lookR_fn, lookV, mupdV, mdelV, mkM]
    exact ⟨_, _, rfl, g1, f1'⟩
end Go.Proofs.YtlkeeckhileedaaDoor
namespace Go.Proofs.YtlkeeckhileedaaDoor
open Go.Proofs.YtlkeeckhileedaaDoor.K Go.ChangeShapes Go.WideShapes Go.ChangeAt Go.RowKit
set_option maxRecDepth 100000
set_option linter.unusedSimpArgs false
set_option linter.unusedVariables false

/-- What is met on the way to a key, from a on. -/
def Pth (K : List Int) (key : Int) (a d : Nat) : List Nat :=
  match d with
  | 0 => []
  | e + 1 =>
    have h := amx_b (fK K) a e
    (amx (fK K) a e + 1) :: (if K.getD (amx (fK K) a e) 0 = key then [] else if key < K.getD (amx (fK K) a e) 0 then Pth K key a (amx (fK K) a e - a) else Pth K key (amx (fK K) a e + 1) (a + e - amx (fK K) a e))
termination_by d
decreasing_by all_goals omega
theorem Pth_zero {K : List Int} {key : Int} {a : Nat} : Pth K key a 0 = [] := by rw [Pth]
theorem Pth_succ (K : List Int) (key : Int) (a e : Nat) : Pth K key a (e + 1) = (amx (fK K) a e + 1) :: (if K.getD (amx (fK K) a e) 0 = key then [] else if key < K.getD (amx (fK K) a e) 0 then Pth K key a (amx (fK K) a e - a) else Pth K key (amx (fK K) a e + 1) (a + e - amx (fK K) a e)) := by rw [Pth]
theorem Pth_len (K : List Int) (key : Int) : ∀ (d a : Nat), (Pth K key a d).length ≤ d := by
  intro d
  induction d using Nat.strongRecOn with
  | ind d ih =>
    intro a
    cases d with
    | zero => rw [Pth_zero]; exact Nat.le_refl _
    | succ e =>
      have hb := amx_b (fK K) a e
      rw [Pth_succ, List.length_cons]
      split
      · simp
      · split
        · have := ih (amx (fK K) a e - a) (by omega) a; omega
        · have := ih (a + e - amx (fK K) a e) (by omega) (amx (fK K) a e + 1); omega
/-- The links hold the tree of the keys from a on, so many. -/
def Hd (K : List Int) (links : List P2) (a d : Nat) : Prop := a + d ≤ K.length ∧ links.length = K.length ∧ ∀ i, i < d → links.getD (a + i) q0 = mp ((T (fK K) a d).2.getD i (0, 0))
theorem Hd.top {K : List Int} {links : List P2} {a e : Nat} (h : Hd K links a (e + 1)) : links.getD (amx (fK K) a e) q0 = ⟨((T (fK K) a (amx (fK K) a e - a)).1 : Nat), ((T (fK K) (amx (fK K) a e + 1) (a + e - amx (fK K) a e)).1 : Nat)⟩ := by
  have hb := amx_b (fK K) a e
  have h1 := h.2.2 (amx (fK K) a e - a) (by omega)
  rw [show a + (amx (fK K) a e - a) = amx (fK K) a e by omega, T_succ] at h1
  have hl := T_len (fK K) (amx (fK K) a e - a) a
  rw [h1]
  simp only
  rw [List.getD_eq_getElem?_getD, List.getElem?_append_right (by omega), hl, Nat.sub_self]
  rfl
theorem Hd.left {K : List Int} {links : List P2} {a e : Nat} (h : Hd K links a (e + 1)) : Hd K links a (amx (fK K) a e - a) := by
  have hb := amx_b (fK K) a e
  have hl := T_len (fK K) (amx (fK K) a e - a) a
  refine ⟨by have := h.1; omega, h.2.1, fun i hi => ?_⟩
  rw [h.2.2 i (by omega), T_succ]
  simp only
  rw [List.getD_eq_getElem?_getD, List.getElem?_append_left (by omega), ← List.getD_eq_getElem?_getD]
theorem Hd.right {K : List Int} {links : List P2} {a e : Nat} (h : Hd K links a (e + 1)) : Hd K links (amx (fK K) a e + 1) (a + e - amx (fK K) a e) := by
  have hb := amx_b (fK K) a e
  have hl := T_len (fK K) (amx (fK K) a e - a) a
  refine ⟨by have := h.1; omega, h.2.1, fun i hi => ?_⟩
  have h1 := h.2.2 (amx (fK K) a e - a + 1 + i) (by omega)
  rw [show a + (amx (fK K) a e - a + 1 + i) = amx (fK K) a e + 1 + i by omega] at h1
  rw [h1, T_succ]
  simp only
  rw [List.getD_eq_getElem?_getD, List.getElem?_append_right (by omega), hl, show amx (fK K) a e - a + 1 + i - (amx (fK K) a e - a) = i + 1 by omega, List.getElem?_cons_succ, ← List.getD_eq_getElem?_getD]
theorem Hd.all {K : List Int} (h : bErr K = 0) : Hd K (bLinks K) 0 K.length := by
  refine ⟨by omega, bLinks_len h, fun i hi => ?_⟩
  rw [bLinks_0 h, Nat.zero_add, List.getD_eq_getElem?_getD, List.getElem?_map, some_getD (d := (0, 0)) (by rw [T_len]; exact hi)]
  rfl
theorem T_root (f : Nat → Int) (a d : Nat) : (T f a d).1 = 0 ↔ d = 0 := by
  cases d with
  | zero => simp [T_zero]
  | succ e => rw [T_succ]; simp
structure YP (B : OH) (Y : Cs) (pth : List Nat) (Own : Nat → Prop) (J : Nat → HL → Prop) : Prop where
  call : ∀ {k H N}, k < pth.length → J k H → good B H N → ∃ H' N', Y [.int .i64 ((pth.getD k 0 : Nat) : Int)] H N = some (.ret (.bool true), H', N') ∧ good B H' N' ∧ (∀ x, ¬ Own x → ∀ c, lk H x = some c → lk H' x = some c) ∧ J (k + 1) H'
/-- whitewash/treap.down$1 -/
def L32 : FnL := ⟨(.seq (.ops [⟨(some 9), .load false 1 (.tmp 1), none⟩, ⟨(some 6), .mv (.tmp 9), none⟩])
 (.block 0 (.loop (.seq (.seq (.ops [⟨(some 10), .mv (.tmp 6), none⟩, ⟨(some 11), .bin .neq (.tmp 10) (.const (.int .i64 0)), none⟩])
 (.cond (.tmp 11) .skip
 (.exit 0)))
 (.block 1 (.seq (.ops [⟨(some 12), .load false 1 (.tmp 2), none⟩, ⟨(some 13), .mv (.tmp 6), none⟩, ⟨(some 14), .bin .sub (.tmp 13) (.const (.int .i64 1)), none⟩, ⟨(some 15), .iaddrS 1 (.tmp 12) (.tmp 14), none⟩, ⟨(some 16), .load false 1 (.tmp 15), none⟩, ⟨(some 7), .mv (.tmp 16), none⟩])
 (.seq (.seq (.ops [⟨(some 17), .mv (.tmp 0), none⟩, ⟨(some 18), .mv (.tmp 6), none⟩, ⟨(some 19), .call (.tmp 17) [(.tmp 18)], none⟩, ⟨(some 20), .un .not (.tmp 19), none⟩, ⟨(some 21), .mv (.tmp 20), none⟩, ⟨(some 22), .mv (.tmp 7), (some (21, false))⟩, ⟨(some 23), .load false 1 (.tmp 3), (some (21, false))⟩, ⟨(some 24), .bin .eql (.tmp 22) (.tmp 23), (some (21, false))⟩, ⟨(some 25), .pick (.tmp 21) (.const (.bool true)) (.tmp 24), none⟩])
 (.cond (.tmp 25) .ret
 .skip))
 (.seq (.ops [⟨(some 8), .mv (.const (.int .i64 1)), none⟩])
 (.seq (.seq (.ops [⟨(some 26), .load false 1 (.tmp 3), none⟩, ⟨(some 27), .mv (.tmp 7), none⟩, ⟨(some 28), .bin .lss (.tmp 26) (.tmp 27), none⟩])
 (.cond (.tmp 28) (.ops [⟨(some 8), .mv (.const (.int .i64 0)), none⟩])
 .skip))
 (.ops [⟨(some 29), .load false 1 (.tmp 4), none⟩, ⟨(some 30), .mv (.tmp 6), none⟩, ⟨(some 31), .bin .sub (.tmp 30) (.const (.int .i64 1)), none⟩, ⟨(some 32), .mv (.tmp 8), none⟩, ⟨(some 33), .iaddrS 2 (.tmp 29) (.tmp 31), none⟩, ⟨(some 34), .iaddrA 1 2 (.tmp 33) (.tmp 32), none⟩, ⟨(some 35), .load false 1 (.tmp 34), none⟩, ⟨(some 6), .mv (.tmp 35), none⟩])))))))))),
 36, []⟩
theorem low32 : lowerFn Tryd.prog Tryd.f32 = some L32 := by kernel_rfl
theorem en32 : Enter Tryd.prog 32 := .of Tryd.func32 (by kernel_rfl) (by kernel_rfl)
noncomputable def G32 (B : OH) : Nat → Cs := fun _ _ _ _ => none
noncomputable abbrev E32 (B : OH) (Y : Nat → Cs) : Env := { f := G32 B, y := Y }
noncomputable def I32 (B : OH) (Y : Nat → Cs) : Cs := callF B (E32 B Y) 1300 L32
theorem sI32 {w0 : World} {B : OH} (Y : Nat → Cs) (hY : SoundY Tryd.prog w0 B Y) : SoundC Tryd.prog w0 B 32 (I32 B Y) :=
  callF_sound mixedOrders ⟨fun k => .inl fun _ _ _ => rfl, hY, fun _ => .inl fun _ _ _ _ => rfl⟩ 1300 Tryd.func32 low32
structure K32 (lp c2 c3 c4 at_ : Nat) (ts : List Value) : Prop where
  l : ts.length = 36
  t0 : gt ts 0 = .func (.yield lp) #[] #[]
  t2 : gt ts 2 = .pointer (some ⟨c2, 0, none⟩)
  t3 : gt ts 3 = .pointer (some ⟨c3, 0, none⟩)
  t4 : gt ts 4 = .pointer (some ⟨c4, 0, none⟩)
  t6 : gt ts 6 = .int .i64 (at_ : Int)
set_option maxHeartbeats 8000000 in
theorem it32 {B : OH} {Y : Nat → Cs} {l c1 c2 c3 c4 : Nat} {Own : Nat → Prop} {J : Nat → HL → Prop} {K : List Int} {links : List P2} {key : Int} {H0 : HL} {v u : Value} (hY : YP B (Y l) (Pth K key 0 K.length) Own J)
    (hv : SlR w1 1 B H0 v K) (hu : SlR p2 2 B H0 u links) (hl : Hd K links 0 K.length) (hKl : K.length ≤ 256) (hOwn : ∀ x, Own x → lk H0 x = none)
    (n1 : ¬ Own c1) (n2 : ¬ Own c2) (n3 : ¬ Own c3) (n4 : ¬ Own c4) (b1 : B c1 = none) (b2 : B c2 = none) (b3 : B c3 = none) (b4 : B c4 = none)
    {H : HL} {N : St} (hN : good B H N) (hF : Fr H0 H) (h1 : lk H c1 = some (.cells [.int .i64 ((T (fK K) 0 K.length).1 : Int)] 1)) (h2 : lk H c2 = some (.cells [v] 1)) (h3 : lk H c3 = some (.cells [.int .u64 key] 1)) (h4 : lk H c4 = some (.cells [u] 1)) (hJ : J 0 H) :
    ∃ H' N', I32 B Y [.func (.yield l) #[] #[], .pointer (some ⟨c1, 0, none⟩), .pointer (some ⟨c2, 0, none⟩), .pointer (some ⟨c3, 0, none⟩), .pointer (some ⟨c4, 0, none⟩)] H N = some (.ret (.tuple #[]), H', N') ∧ good B H' N' ∧ (∀ x, ¬ Own x → ∀ c, lk H x = some c → lk H' x = some c) ∧ J (Pth K key 0 K.length).length H' := by
  have hB := good_B hN
  have hR := good_rdB hN
  have hI := beqN hN.1.1
  have r1 := fun o n => rdB_none (o := o) (n := n) b1
  have r2 := fun o n => rdB_none (o := o) (n := n) b2
  have r3 := fun o n => rdB_none (o := o) (n := n) b3
  have r4 := fun o n => rdB_none (o := o) (n := n) b4
  simp -implicitDefEqProofs (maxSteps := 10000000) (disch := omega) only [I32, L32, hB, hR, hI, lenV_sl, Int.toNat_natCast, bft, btf, gtst, st_len, h1, b1, r1, pad, e_skip, e_ops, e_draw, e_fork, shg_n, shg_c, shg_g, shg_r, d_none, d_nil, d_cons, d_ite, h_none, h_nil, h_cons, h_ite, eqS_same, lightV, e_seq, e_cond, e_block, e_exit, e_ret, s_normal, s_ret, s_exit, s_none, s_ite, b_normal, b_ret, b_exit, b_none, b_ite, c_bool, x_none, x_nil, x_cons, x_ite, p_some, p_none, p_ite, pt_some, pt_none, pv_some, pv_none, pv_ite, w_none, w_some, i_bool, i_undef, bt, bf, v_tmp, v_const, v_global, v_func, evs, f_normal, f_ret, f_none, f_ite, r_some, co_some, l_ptr, m_agg, m_one, sh_app, lk_nil, lk_cons, rd_eq, rdO_some, rdO_none, rdN_none, rdL_some, rdL_none, wrB_none, unitR_some, wr_nil, wr_here, wr_skip, k_cells, tk_zero, tk_take, tk_skip, tkC_some, call_func, gt, st, binV, arith, isSh, storeV, all1, idxAV, fieldV, faddrV, iaddrSV, iaddrAV, pickV, convV, unV, eqbV, eqpV, extV, mm2, mmV, nilckV, ress, res1, retV, Value.cells, cond_true, cond_false, Bool.true_or, Bool.false_or, Bool.or_true, Bool.or_false, beq_self_eq_true, if_true, if_false, ite_true, ite_false, decide_true, decide_false, decide_eq_true_eq, reduceIte, Nat.zero_add, Nat.add_zero, and_self, true_and, and_true, List.size_toArray, List.length_cons, List.length_nil, List.append_nil, List.nil_append, Int.toNat_zero, Bool.not_false, Bool.not_true, Bool.not_not, Bool.false_eq_true, Bool.true_eq_false, reduceCtorEq, Int.reduceLT, Int.reduceLE, Int.reduceToNat, Int.reduceAdd, Int.reduceSub, Int.reduceMul, Int.reduceNeg, Nat.reduceMul, Nat.reduceAdd, Nat.reduceSub, Nat.reduceBEq, Nat.reduceEqDiff, Nat.reduceLT, Nat.reduceLeDiff, Int.reduceBEq, Int.reduceEq, Nat.reducePow, Int.reducePow, IntWalk.i64_in, IntKind.bits, eqAV, eqL, leafEq, andO, fillV, buildSV, List.getElem?_toArray, List.getElem?_cons_zero, List.getElem?_cons_succ, List.getElem?_nil, Int.reduceGT, Int.reduceGE, Int.reduceBNe, Bool.true_and, Bool.and_true, Bool.false_and, Bool.and_false, Bool.and_self, IntWalk.u64_in, Int.cast_ofNat_Int, callF1, pad16, pad_0, pad_1, pad_2, pad_3, pad_4, pad_5, pad_6, pad_7, pad_8, pad_9, pad_10, pad_11, pad_12, pad_13, pad_14, pad_15, gc0, gc1, gc2, gc3, gc4, gc5, gc6, gc7, gc8, gc9, gc10, gc11, gc12, gc13, gc14, gc15, gcS, sc0, sc1, sc2, sc3, sc4, sc5, sc6, sc7, sc8, sc9, sc10, sc11, sc12, sc13, sc14, sc15, scS, List.drop_succ_cons, List.drop_nil, x_pan, s_pan, b_pan, pE_ret, pE_pan, pE_none, pE_ite, pvE_some, pvE_none, pvE_ite, rv_some, rv_none, rv_ite, oR_ret, t_mv, t_pick, t_alloc, t_box, t_build, t_buildS, t_load, t_store, t_nilck, t_bin, t_eqb, t_eqA, t_eqp, t_un, t_conv, t_field, t_idxA, t_faddr, t_iaddrS, t_iaddrA, t_ext, t_len, t_mm, t_call, t_ifc, t_fn, t_slc, t_slcA, t_slcT, t_tass, t_isn, t_mks, t_app, t_pan, panE_i, optE_none, optE_some, bnd_none, bnd_int, slA_none, slA_some, appR_some, appOld_cells, newsV_s, newsV_n, lenS_s, appV_nil, appV_some, mksV_i, sh_c, sh_g, f_pan, endD_ret, dfr_normal, dfr_ret, dfr_pan, restD_normal, callD1, callC1, tassV, isnV, slcV, slcAV, slcTV, slcB, appNew, Option.bind_some, Option.bind_none, d_pan, h_pan, wrH_eq, wrX_cells, wrU_some, upH_nil, upH_cons, lk_upH, effR_some, effR_none, effR_ite, Option.isNone_none, Option.isNone_some, slA_zero, call_yield, e_range, it_func, wy_same, y_call, isLp_self, beg_normal, end_normal, end_ret, end_exit, end_ite, aft_ret, aft_ready, aft_done, aft_exit, setP_cons, setP_nil, sh_r, t_mkmap, t_mlook, t_mupd, t_mdel, mapF_some, lookF_some, setM_some, lookR_t, lookR_n, lookR_f, lookR_fn, lookV, mupdV, mdelV, mkM]
  generalize hX : exec B _ _ (LC.loop _) _ = o
  have hO : Ok o (fun x s => (x = .exit 0 ∨ x = .ret) ∧ good B s.H s.N ∧ (∀ x, ¬ Own x → ∀ c, lk H x = some c → lk s.H x = some c) ∧ J (Pth K key 0 K.length).length s.H) := by
    rw [← hX]
    refine loop_rule (n0 := 60) (fun q s => ∃ ts H' N', ∃ k a d : Nat, s = ⟨ts, H', N'⟩ ∧ K32 l c2 c3 c4 (T (fK K) a d).1 ts ∧ good B H' N' ∧ (∀ x, ¬ Own x → ∀ c, lk H x = some c → lk H' x = some c) ∧ J k H' ∧ Hd K links a d ∧ (Pth K key 0 K.length).drop k = Pth K key a d ∧ k ≤ (Pth K key 0 K.length).length ∧ q = d) _ ?_ K.length _ ⟨_, H, N, 0, 0, K.length, rfl, ⟨rfl, rfl, rfl, rfl, rfl, rfl⟩, hN, fun _ _ _ e => e, hJ, hl, rfl, Nat.zero_le _, rfl⟩ _ (by omega)
    clear hX hB hR hI
    rintro z q s ⟨ts, H', N', k, a, d, rfl, kp, g, pr, hj, hd, hp, hkp, rfl⟩
    have hB := good_B g
    have hR := good_rdB g
    have hI := beqN g.1.1
    have fr : Fr H0 H' := fun y c e => pr y (fun ho => by rw [hOwn y ho] at e; cases e) c (hF y c e)
    cases q with
    | zero =>
      rw [T_zero] at kp
      rw [Pth_zero] at hp
      have hk : (Pth K key 0 K.length).length ≤ k := List.drop_eq_nil_iff.1 hp
      obtain rfl : k = (Pth K key 0 K.length).length := by omega
      have hz : (((0 : Nat) : Int) != 0) = false := rfl
      simp -implicitDefEqProofs (maxSteps := 10000000) (disch := omega) only [I32, L32, hB, hR, hI, kp.l, kp.t0, kp.t2, kp.t3, kp.t4, kp.t6, lenV_sl, Int.toNat_natCast, bft, btf, gtst, st_len, hz, pad, e_skip, e_ops, e_draw, e_fork, shg_n, shg_c, shg_g, shg_r, d_none, d_nil, d_cons, d_ite, h_none, h_nil, h_cons, h_ite, eqS_same, lightV, e_seq, e_cond, e_block, e_exit, e_ret, s_normal, s_ret, s_exit, s_none, s_ite, b_normal, b_ret, b_exit, b_none, b_ite, c_bool, x_none, x_nil, x_cons, x_ite, p_some, p_none, p_ite, pt_some, pt_none, pv_some, pv_none, pv_ite, w_none, w_some, i_bool, i_undef, bt, bf, v_tmp, v_const, v_global, v_func, evs, f_normal, f_ret, f_none, f_ite, r_some, co_some, l_ptr, m_agg, m_one, sh_app, lk_nil, lk_cons, rd_eq, rdO_some, rdO_none, rdN_none, rdL_some, rdL_none, wrB_none, unitR_some, wr_nil, wr_here, wr_skip, k_cells, tk_zero, tk_take, tk_skip, tkC_some, call_func, gt, st, binV, arith, isSh, storeV, all1, idxAV, fieldV, faddrV, iaddrSV, iaddrAV, pickV, convV, unV, eqbV, eqpV, extV, mm2, mmV, nilckV, ress, res1, retV, Value.cells, cond_true, cond_false, Bool.true_or, Bool.false_or, Bool.or_true, Bool.or_false, beq_self_eq_true, if_true, if_false, ite_true, ite_false, decide_true, decide_false, decide_eq_true_eq, reduceIte, Nat.zero_add, Nat.add_zero, and_self, true_and, and_true, List.size_toArray, List.length_cons, List.length_nil, List.append_nil, List.nil_append, Int.toNat_zero, Bool.not_false, Bool.not_true, Bool.not_not, Bool.false_eq_true, Bool.true_eq_false, reduceCtorEq, Int.reduceLT, Int.reduceLE, Int.reduceToNat, Int.reduceAdd, Int.reduceSub, Int.reduceMul, Int.reduceNeg, Nat.reduceMul, Nat.reduceAdd, Nat.reduceSub, Nat.reduceBEq, Nat.reduceEqDiff, Nat.reduceLT, Nat.reduceLeDiff, Int.reduceBEq, Int.reduceEq, Nat.reducePow, Int.reducePow, IntWalk.i64_in, IntKind.bits, eqAV, eqL, leafEq, andO, fillV, buildSV, List.getElem?_toArray, List.getElem?_cons_zero, List.getElem?_cons_succ, List.getElem?_nil, Int.reduceGT, Int.reduceGE, Int.reduceBNe, Bool.true_and, Bool.and_true, Bool.false_and, Bool.and_false, Bool.and_self, IntWalk.u64_in, Int.cast_ofNat_Int, callF1, pad16, pad_0, pad_1, pad_2, pad_3, pad_4, pad_5, pad_6, pad_7, pad_8, pad_9, pad_10, pad_11, pad_12, pad_13, pad_14, pad_15, gc0, gc1, gc2, gc3, gc4, gc5, gc6, gc7, gc8, gc9, gc10, gc11, gc12, gc13, gc14, gc15, gcS, sc0, sc1, sc2, sc3, sc4, sc5, sc6, sc7, sc8, sc9, sc10, sc11, sc12, sc13, sc14, sc15, scS, List.drop_succ_cons, List.drop_nil, x_pan, s_pan, b_pan, pE_ret, pE_pan, pE_none, pE_ite, pvE_some, pvE_none, pvE_ite, rv_some, rv_none, rv_ite, oR_ret, t_mv, t_pick, t_alloc, t_box, t_build, t_buildS, t_load, t_store, t_nilck, t_bin, t_eqb, t_eqA, t_eqp, t_un, t_conv, t_field, t_idxA, t_faddr, t_iaddrS, t_iaddrA, t_ext, t_len, t_mm, t_call, t_ifc, t_fn, t_slc, t_slcA, t_slcT, t_tass, t_isn, t_mks, t_app, t_pan, panE_i, optE_none, optE_some, bnd_none, bnd_int, slA_none, slA_some, appR_some, appOld_cells, newsV_s, newsV_n, lenS_s, appV_nil, appV_some, mksV_i, sh_c, sh_g, f_pan, endD_ret, dfr_normal, dfr_ret, dfr_pan, restD_normal, callD1, callC1, tassV, isnV, slcV, slcAV, slcTV, slcB, appNew, Option.bind_some, Option.bind_none, d_pan, h_pan, wrH_eq, wrX_cells, wrU_some, upH_nil, upH_cons, lk_upH, effR_some, effR_none, effR_ite, Option.isNone_none, Option.isNone_some, slA_zero, call_yield, e_range, it_func, wy_same, y_call, isLp_self, beg_normal, end_normal, end_ret, end_exit, end_ite, aft_ret, aft_ready, aft_done, aft_exit, setP_cons, setP_nil, sh_r, t_mkmap, t_mlook, t_mupd, t_mdel, mapF_some, lookF_some, setM_some, lookR_t, lookR_n, lookR_f, lookR_fn, lookV, mupdV, mdelV, mkM]
      exact ok_some (.inr ⟨by simp, .inl rfl, g, pr, hj⟩)
    | succ e =>
      have hb := amx_b (fK K) a e
      have hkl := hd.1
      rw [T_succ] at kp
      rw [Pth_succ] at hp
      have htop := hd.top
      have hleft := hd.left
      have hright := hd.right
      have hul := hd.2.1
      generalize amx (fK K) a e = t at *
      have hk : k < (Pth K key 0 K.length).length := by
        by_cases h : k < (Pth K key 0 K.length).length
        · exact h
        · rw [List.drop_eq_nil_iff.2 (by omega)] at hp; cases hp
      have hget : (Pth K key 0 K.length).getD k 0 = t + 1 := by
        have := congrArg (fun l => l[0]?) hp
        simp only [List.getElem?_drop, Nat.add_zero, List.getElem?_cons_zero] at this
        exact getD_some this
      have hplen : ((Pth K key 0 K.length).drop (k + 1)) = (if K.getD t 0 = key then [] else if key < K.getD t 0 then Pth K key a (t - a) else Pth K key (t + 1) (a + e - t)) := by
        rw [← List.tail_drop, hp]; rfl
      obtain ⟨H1, N1, ey, g1, pr1, j1⟩ := hY.call hk hj g
      rw [hget] at ey
      have pr2 : ∀ x, ¬ Own x → ∀ c, lk H x = some c → lk H1 x = some c := fun x hx c h => pr1 x hx c (pr x hx c h)
      have fr1 : Fr H0 H1 := fun y c e => pr1 y (fun ho => by rw [hOwn y ho] at e; cases e) c (fr y c e)
      have h2' := pr _ n2 _ h2
      have h3' := pr2 _ n3 _ h3
      have h4' := pr2 _ n4 _ h4
      have tl : t < K.length := by omega
      have t0 : (0 : Int) ≤ (t : Int) := by omega
      have tn : (((t + 1 : Nat) : Int) != 0) = true := by simp; omega
      have tm : ((t + 1 : Nat) : Int) - 1 = (t : Int) := by omega
      obtain ⟨bv, ov, cv, rfl, _, rv⟩ := hv.at (by omega)
      obtain ⟨bu, ou, cu, rfl, _, ru⟩ := hu.at (by omega)
      have rk : rdO H' B bv (ov + t) 1 (rdB B bv (ov + t) 1) = some [.int .u64 (K.getD t 0)] := by
        have := rv H' fr t 0 1 0 tl (by omega)
        rw [Nat.mul_one, Nat.add_zero] at this
        exact this.trans rfl
      have tul : t < links.length := by omega
      have ra : rdO H1 B bu (ou + t * 2) 1 (rdB B bu (ou + t * 2) 1) = some [.int .i64 ((T (fK K) a (t - a)).1 : Int)] := by
        have := ru H1 fr1 t 0 1 q0 tul (by omega)
        rw [htop] at this
        exact this.trans rfl
      have rb : rdO H1 B bu (ou + t * 2 + 1) 1 (rdB B bu (ou + t * 2 + 1) 1) = some [.int .i64 ((T (fK K) (t + 1) (a + e - t)).1 : Int)] := by
        have := ru H1 fr1 t 1 1 q0 tul (by omega)
        rw [htop] at this
        exact this.trans rfl
      generalize K.getD t 0 = kt at rk hplen
      by_cases hkey : kt = key
      · rw [if_pos hkey] at hplen
        have hb : (kt == key) = true := by simpa using hkey
        have hlen : k + 1 = (Pth K key 0 K.length).length := by
          have := List.drop_eq_nil_iff.1 hplen; omega
        simp -implicitDefEqProofs (maxSteps := 10000000) (disch := omega) only [I32, L32, hB, hR, hI, kp.l, kp.t0, kp.t2, kp.t3, kp.t4, kp.t6, lenV_sl, Int.toNat_natCast, bft, btf, gtst, st_len, tn, tm, t0, tl, h2', b2, r2, rk, ey, h3', b3, r3, hb, Nat.mul_one, List.nil_append, pad, e_skip, e_ops, e_draw, e_fork, shg_n, shg_c, shg_g, shg_r, d_none, d_nil, d_cons, d_ite, h_none, h_nil, h_cons, h_ite, eqS_same, lightV, e_seq, e_cond, e_block, e_exit, e_ret, s_normal, s_ret, s_exit, s_none, s_ite, b_normal, b_ret, b_exit, b_none, b_ite, c_bool, x_none, x_nil, x_cons, x_ite, p_some, p_none, p_ite, pt_some, pt_none, pv_some, pv_none, pv_ite, w_none, w_some, i_bool, i_undef, bt, bf, v_tmp, v_const, v_global, v_func, evs, f_normal, f_ret, f_none, f_ite, r_some, co_some, l_ptr, m_agg, m_one, sh_app, lk_nil, lk_cons, rd_eq, rdO_some, rdO_none, rdN_none, rdL_some, rdL_none, wrB_none, unitR_some, wr_nil, wr_here, wr_skip, k_cells, tk_zero, tk_take, tk_skip, tkC_some, call_func, gt, st, binV, arith, isSh, storeV, all1, idxAV, fieldV, faddrV, iaddrSV, iaddrAV, pickV, convV, unV, eqbV, eqpV, extV, mm2, mmV, nilckV, ress, res1, retV, Value.cells, cond_true, cond_false, Bool.true_or, Bool.false_or, Bool.or_true, Bool.or_false, beq_self_eq_true, if_true, if_false, ite_true, ite_false, decide_true, decide_false, decide_eq_true_eq, reduceIte, Nat.zero_add, Nat.add_zero, and_self, true_and, and_true, List.size_toArray, List.length_cons, List.length_nil, List.append_nil, List.nil_append, Int.toNat_zero, Bool.not_false, Bool.not_true, Bool.not_not, Bool.false_eq_true, Bool.true_eq_false, reduceCtorEq, Int.reduceLT, Int.reduceLE, Int.reduceToNat, Int.reduceAdd, Int.reduceSub, Int.reduceMul, Int.reduceNeg, Nat.reduceMul, Nat.reduceAdd, Nat.reduceSub, Nat.reduceBEq, Nat.reduceEqDiff, Nat.reduceLT, Nat.reduceLeDiff, Int.reduceBEq, Int.reduceEq, Nat.reducePow, Int.reducePow, IntWalk.i64_in, IntKind.bits, eqAV, eqL, leafEq, andO, fillV, buildSV, List.getElem?_toArray, List.getElem?_cons_zero, List.getElem?_cons_succ, List.getElem?_nil, Int.reduceGT, Int.reduceGE, Int.reduceBNe, Bool.true_and, Bool.and_true, Bool.false_and, Bool.and_false, Bool.and_self, IntWalk.u64_in, Int.cast_ofNat_Int, callF1, pad16, pad_0, pad_1, pad_2, pad_3, pad_4, pad_5, pad_6, pad_7, pad_8, pad_9, pad_10, pad_11, pad_12, pad_13, pad_14, pad_15, gc0, gc1, gc2, gc3, gc4, gc5, gc6, gc7, gc8, gc9, gc10, gc11, gc12, gc13, gc14, gc15, gcS, sc0, sc1, sc2, sc3, sc4, sc5, sc6, sc7, sc8, sc9, sc10, sc11, sc12, sc13, sc14, sc15, scS, List.drop_succ_cons, List.drop_nil, x_pan, s_pan, b_pan, pE_ret, pE_pan, pE_none, pE_ite, pvE_some, pvE_none, pvE_ite, rv_some, rv_none, rv_ite, oR_ret, t_mv, t_pick, t_alloc, t_box, t_build, t_buildS, t_load, t_store, t_nilck, t_bin, t_eqb, t_eqA, t_eqp, t_un, t_conv, t_field, t_idxA, t_faddr, t_iaddrS, t_iaddrA, t_ext, t_len, t_mm, t_call, t_ifc, t_fn, t_slc, t_slcA, t_slcT, t_tass, t_isn, t_mks, t_app, t_pan, panE_i, optE_none, optE_some, bnd_none, bnd_int, slA_none, slA_some, appR_some, appOld_cells, newsV_s, newsV_n, lenS_s, appV_nil, appV_some, mksV_i, sh_c, sh_g, f_pan, endD_ret, dfr_normal, dfr_ret, dfr_pan, restD_normal, callD1, callC1, tassV, isnV, slcV, slcAV, slcTV, slcB, appNew, Option.bind_some, Option.bind_none, d_pan, h_pan, wrH_eq, wrX_cells, wrU_some, upH_nil, upH_cons, lk_upH, effR_some, effR_none, effR_ite, Option.isNone_none, Option.isNone_some, slA_zero, call_yield, e_range, it_func, wy_same, y_call, isLp_self, beg_normal, end_normal, end_ret, end_exit, end_ite, aft_ret, aft_ready, aft_done, aft_exit, setP_cons, setP_nil, sh_r, t_mkmap, t_mlook, t_mupd, t_mdel, mapF_some, lookF_some, setM_some, lookR_t, lookR_n, lookR_f, lookR_fn, lookV, mupdV, mdelV, mkM]
        exact ok_some (.inr ⟨by simp, .inr rfl, g1, pr2, by rw [← hlen]; exact j1⟩)
      · rw [if_neg hkey] at hplen
        have hb := beqI hkey
        by_cases hlt : key < kt
        · rw [if_pos hlt] at hplen
          simp -implicitDefEqProofs (maxSteps := 10000000) (disch := omega) only [I32, L32, hB, hR, hI, kp.l, kp.t0, kp.t2, kp.t3, kp.t4, kp.t6, lenV_sl, Int.toNat_natCast, bft, btf, gtst, st_len, tn, tm, t0, tl, tul, h2', b2, r2, rk, ey, h3', b3, r3, hb, hlt, h4', b4, r4, ra, Nat.mul_one, List.nil_append, pad, e_skip, e_ops, e_draw, e_fork, shg_n, shg_c, shg_g, shg_r, d_none, d_nil, d_cons, d_ite, h_none, h_nil, h_cons, h_ite, eqS_same, lightV, e_seq, e_cond, e_block, e_exit, e_ret, s_normal, s_ret, s_exit, s_none, s_ite, b_normal, b_ret, b_exit, b_none, b_ite, c_bool, x_none, x_nil, x_cons, x_ite, p_some, p_none, p_ite, pt_some, pt_none, pv_some, pv_none, pv_ite, w_none, w_some, i_bool, i_undef, bt, bf, v_tmp, v_const, v_global, v_func, evs, f_normal, f_ret, f_none, f_ite, r_some, co_some, l_ptr, m_agg, m_one, sh_app, lk_nil, lk_cons, rd_eq, rdO_some, rdO_none, rdN_none, rdL_some, rdL_none, wrB_none, unitR_some, wr_nil, wr_here, wr_skip, k_cells, tk_zero, tk_take, tk_skip, tkC_some, call_func, gt, st, binV, arith, isSh, storeV, all1, idxAV, fieldV, faddrV, iaddrSV, iaddrAV, pickV, convV, unV, eqbV, eqpV, extV, mm2, mmV, nilckV, ress, res1, retV, Value.cells, cond_true, cond_false, Bool.true_or, Bool.false_or, Bool.or_true, Bool.or_false, beq_self_eq_true, if_true, if_false, ite_true, ite_false, decide_true, decide_false, decide_eq_true_eq, reduceIte, Nat.zero_add, Nat.add_zero, and_self, true_and, and_true, List.size_toArray, List.length_cons, List.length_nil, List.append_nil, List.nil_append, Int.toNat_zero, Bool.not_false, Bool.not_true, Bool.not_not, Bool.false_eq_true, Bool.true_eq_false, reduceCtorEq, Int.reduceLT, Int.reduceLE, Int.reduceToNat, Int.reduceAdd, Int.reduceSub, Int.reduceMul, Int.reduceNeg, Nat.reduceMul, Nat.reduceAdd, Nat.reduceSub, Nat.reduceBEq, Nat.reduceEqDiff, Nat.reduceLT, Nat.reduceLeDiff, Int.reduceBEq, Int.reduceEq, Nat.reducePow, Int.reducePow, IntWalk.i64_in, IntKind.bits, eqAV, eqL, leafEq, andO, fillV, buildSV, List.getElem?_toArray, List.getElem?_cons_zero, List.getElem?_cons_succ, List.getElem?_nil, Int.reduceGT, Int.reduceGE, Int.reduceBNe, Bool.true_and, Bool.and_true, Bool.false_and, Bool.and_false, Bool.and_self, IntWalk.u64_in, Int.cast_ofNat_Int, callF1, pad16, pad_0, pad_1, pad_2, pad_3, pad_4, pad_5, pad_6, pad_7, pad_8, pad_9, pad_10, pad_11, pad_12, pad_13, pad_14, pad_15, gc0, gc1, gc2, gc3, gc4, gc5, gc6, gc7, gc8, gc9, gc10, gc11, gc12, gc13, gc14, gc15, gcS, sc0, sc1, sc2, sc3, sc4, sc5, sc6, sc7, sc8, sc9, sc10, sc11, sc12, sc13, sc14, sc15, scS, List.drop_succ_cons, List.drop_nil, x_pan, s_pan, b_pan, pE_ret, pE_pan, pE_none, pE_ite, pvE_some, pvE_none, pvE_ite, rv_some, rv_none, rv_ite, oR_ret, t_mv, t_pick, t_alloc, t_box, t_build, t_buildS, t_load, t_store, t_nilck, t_bin, t_eqb, t_eqA, t_eqp, t_un, t_conv, t_field, t_idxA, t_faddr, t_iaddrS, t_iaddrA, t_ext, t_len, t_mm, t_call, t_ifc, t_fn, t_slc, t_slcA, t_slcT, t_tass, t_isn, t_mks, t_app, t_pan, panE_i, optE_none, optE_some, bnd_none, bnd_int, slA_none, slA_some, appR_some, appOld_cells, newsV_s, newsV_n, lenS_s, appV_nil, appV_some, mksV_i, sh_c, sh_g, f_pan, endD_ret, dfr_normal, dfr_ret, dfr_pan, restD_normal, callD1, callC1, tassV, isnV, slcV, slcAV, slcTV, slcB, appNew, Option.bind_some, Option.bind_none, d_pan, h_pan, wrH_eq, wrX_cells, wrU_some, upH_nil, upH_cons, lk_upH, effR_some, effR_none, effR_ite, Option.isNone_none, Option.isNone_some, slA_zero, call_yield, e_range, it_func, wy_same, y_call, isLp_self, beg_normal, end_normal, end_ret, end_exit, end_ite, aft_ret, aft_ready, aft_done, aft_exit, setP_cons, setP_nil, sh_r, t_mkmap, t_mlook, t_mupd, t_mdel, mapF_some, lookF_some, setM_some, lookR_t, lookR_n, lookR_f, lookR_fn, lookV, mupdV, mdelV, mkM]
          refine ok_some (.inl ⟨rfl, t - a, by omega, _, H1, N1, k + 1, a, t - a, rfl, ⟨?_, ?_, ?_, ?_, ?_, ?_⟩, g1, pr2, j1, hleft, hplen, by omega, rfl⟩)
          all_goals simp (maxSteps := 10000000) (disch := omega) only [kp.l, kp.t0, kp.t2, kp.t3, kp.t4, kp.t6, lenV_sl, Int.toNat_natCast, bft, btf, gtst, st_len, cond_true, cond_false, Nat.reduceBEq, Nat.reduceLT, decide_true, beq_self_eq_true, if_true, if_false]
        · rw [if_neg hlt] at hplen
          simp -implicitDefEqProofs (maxSteps := 10000000) (disch := omega) only [I32, L32, hB, hR, hI, kp.l, kp.t0, kp.t2, kp.t3, kp.t4, kp.t6, lenV_sl, Int.toNat_natCast, bft, btf, gtst, st_len, tn, tm, t0, tl, tul, h2', b2, r2, rk, ey, h3', b3, r3, hb, hlt, h4', b4, r4, rb, Nat.mul_one, List.nil_append, pad, e_skip, e_ops, e_draw, e_fork, shg_n, shg_c, shg_g, shg_r, d_none, d_nil, d_cons, d_ite, h_none, h_nil, h_cons, h_ite, eqS_same, lightV, e_seq, e_cond, e_block, e_exit, e_ret, s_normal, s_ret, s_exit, s_none, s_ite, b_normal, b_ret, b_exit, b_none, b_ite, c_bool, x_none, x_nil, x_cons, x_ite, p_some, p_none, p_ite, pt_some, pt_none, pv_some, pv_none, pv_ite, w_none, w_some, i_bool, i_undef, bt, bf, v_tmp, v_const, v_global, v_func, evs, f_normal, f_ret, f_none, f_ite, r_some, co_some, l_ptr, m_agg, m_one, sh_app, lk_nil, lk_cons, rd_eq, rdO_some, rdO_none, rdN_none, rdL_some, rdL_none, wrB_none, unitR_some, wr_nil, wr_here, wr_skip, k_cells, tk_zero, tk_take, tk_skip, tkC_some, call_func, gt, st, binV, arith, isSh, storeV, all1, idxAV, fieldV, faddrV, iaddrSV, iaddrAV, pickV, convV, unV, eqbV, eqpV, extV, mm2, mmV, nilckV, ress, res1, retV, Value.cells, cond_true, cond_false, Bool.true_or, Bool.false_or, Bool.or_true, Bool.or_false, beq_self_eq_true, if_true, if_false, ite_true, ite_false, decide_true, decide_false, decide_eq_true_eq, reduceIte, Nat.zero_add, Nat.add_zero, and_self, true_and, and_true, List.size_toArray, List.length_cons, List.length_nil, List.append_nil, List.nil_append, Int.toNat_zero, Bool.not_false, Bool.not_true, Bool.not_not, Bool.false_eq_true, Bool.true_eq_false, reduceCtorEq, Int.reduceLT, Int.reduceLE, Int.reduceToNat, Int.reduceAdd, Int.reduceSub, Int.reduceMul, Int.reduceNeg, Nat.reduceMul, Nat.reduceAdd, Nat.reduceSub, Nat.reduceBEq, Nat.reduceEqDiff, Nat.reduceLT, Nat.reduceLeDiff, Int.reduceBEq, Int.reduceEq, Nat.reducePow, Int.reducePow, IntWalk.i64_in, IntKind.bits, eqAV, eqL, leafEq, andO, fillV, buildSV, List.getElem?_toArray, List.getElem?_cons_zero, List.getElem?_cons_succ, List.getElem?_nil, Int.reduceGT, Int.reduceGE, Int.reduceBNe, Bool.true_and, Bool.and_true, Bool.false_and, Bool.and_false, Bool.and_self, IntWalk.u64_in, Int.cast_ofNat_Int, callF1, pad16, pad_0, pad_1, pad_2, pad_3, pad_4, pad_5, pad_6, pad_7, pad_8, pad_9, pad_10, pad_11, pad_12, pad_13, pad_14, pad_15, gc0, gc1, gc2, gc3, gc4, gc5, gc6, gc7, gc8, gc9, gc10, gc11, gc12, gc13, gc14, gc15, gcS, sc0, sc1, sc2, sc3, sc4, sc5, sc6, sc7, sc8, sc9, sc10, sc11, sc12, sc13, sc14, sc15, scS, List.drop_succ_cons, List.drop_nil, x_pan, s_pan, b_pan, pE_ret, pE_pan, pE_none, pE_ite, pvE_some, pvE_none, pvE_ite, rv_some, rv_none, rv_ite, oR_ret, t_mv, t_pick, t_alloc, t_box, t_build, t_buildS, t_load, t_store, t_nilck, t_bin, t_eqb, t_eqA, t_eqp, t_un, t_conv, t_field, t_idxA, t_faddr, t_iaddrS, t_iaddrA, t_ext, t_len, t_mm, t_call, t_ifc, t_fn, t_slc, t_slcA, t_slcT, t_tass, t_isn, t_mks, t_app, t_pan, panE_i, optE_none, optE_some, bnd_none, bnd_int, slA_none, slA_some, appR_some, appOld_cells, newsV_s, newsV_n, lenS_s, appV_nil, appV_some, mksV_i, sh_c, sh_g, f_pan, endD_ret, dfr_normal, dfr_ret, dfr_pan, restD_normal, callD1, callC1, tassV, isnV, slcV, slcAV, slcTV, slcB, appNew, Option.bind_some, Option.bind_none, d_pan, h_pan, wrH_eq, wrX_cells, wrU_some, upH_nil, upH_cons, lk_upH, effR_some, effR_none, effR_ite, Option.isNone_none, Option.isNone_some, slA_zero, call_yield, e_range, it_func, wy_same, y_call, isLp_self, beg_normal, end_normal, end_ret, end_exit, end_ite, aft_ret, aft_ready, aft_done, aft_exit, setP_cons, setP_nil, sh_r, t_mkmap, t_mlook, t_mupd, t_mdel, mapF_some, lookF_some, setM_some, lookR_t, lookR_n, lookR_f, lookR_fn, lookV, mupdV, mdelV, mkM]
          refine ok_some (.inl ⟨rfl, a + e - t, by omega, _, H1, N1, k + 1, t + 1, a + e - t, rfl, ⟨?_, ?_, ?_, ?_, ?_, ?_⟩, g1, pr2, j1, hright, hplen, by omega, rfl⟩)
          all_goals simp (maxSteps := 10000000) (disch := omega) only [kp.l, kp.t0, kp.t2, kp.t3, kp.t4, kp.t6, lenV_sl, Int.toNat_natCast, bft, btf, gtst, st_len, cond_true, cond_false, Nat.reduceBEq, Nat.reduceLT, decide_true, beq_self_eq_true, if_true, if_false]
  obtain ⟨x, ⟨ts, H1, N1⟩, rfl, hx, g1, pr1, j1⟩ := hO
  simp only at g1 pr1 j1
  rcases hx with rfl | rfl
  · simp -implicitDefEqProofs (maxSteps := 10000000) (disch := omega) only [I32, L32, hB, hR, hI, lenV_sl, Int.toNat_natCast, bft, btf, gtst, st_len, retV, pad, e_skip, e_ops, e_draw, e_fork, shg_n, shg_c, shg_g, shg_r, d_none, d_nil, d_cons, d_ite, h_none, h_nil, h_cons, h_ite, eqS_same, lightV, e_seq, e_cond, e_block, e_exit, e_ret, s_normal, s_ret, s_exit, s_none, s_ite, b_normal, b_ret, b_exit, b_none, b_ite, c_bool, x_none, x_nil, x_cons, x_ite, p_some, p_none, p_ite, pt_some, pt_none, pv_some, pv_none, pv_ite, w_none, w_some, i_bool, i_undef, bt, bf, v_tmp, v_const, v_global, v_func, evs, f_normal, f_ret, f_none, f_ite, r_some, co_some, l_ptr, m_agg, m_one, sh_app, lk_nil, lk_cons, rd_eq, rdO_some, rdO_none, rdN_none, rdL_some, rdL_none, wrB_none, unitR_some, wr_nil, wr_here, wr_skip, k_cells, tk_zero, tk_take, tk_skip, tkC_some, call_func, gt, st, binV, arith, isSh, storeV, all1, idxAV, fieldV, faddrV, iaddrSV, iaddrAV, pickV, convV, unV, eqbV, eqpV, extV, mm2, mmV, nilckV, ress, res1, retV, Value.cells, cond_true, cond_false, Bool.true_or, Bool.false_or, Bool.or_true, Bool.or_false, beq_self_eq_true, if_true, if_false, ite_true, ite_false, decide_true, decide_false, decide_eq_true_eq, reduceIte, Nat.zero_add, Nat.add_zero, and_self, true_and, and_true, List.size_toArray, List.length_cons, List.length_nil, List.append_nil, List.nil_append, Int.toNat_zero, Bool.not_false, Bool.not_true, Bool.not_not, Bool.false_eq_true, Bool.true_eq_false, reduceCtorEq, Int.reduceLT, Int.reduceLE, Int.reduceToNat, Int.reduceAdd, Int.reduceSub, Int.reduceMul, Int.reduceNeg, Nat.reduceMul, Nat.reduceAdd, Nat.reduceSub, Nat.reduceBEq, Nat.reduceEqDiff, Nat.reduceLT, Nat.reduceLeDiff, Int.reduceBEq, Int.reduceEq, Nat.reducePow, Int.reducePow, IntWalk.i64_in, IntKind.bits, eqAV, eqL, leafEq, andO, fillV, buildSV, List.getElem?_toArray, List.getElem?_cons_zero, List.getElem?_cons_succ, List.getElem?_nil, Int.reduceGT, Int.reduceGE, Int.reduceBNe, Bool.true_and, Bool.and_true, Bool.false_and, Bool.and_false, Bool.and_self, IntWalk.u64_in, Int.cast_ofNat_Int, callF1, pad16, pad_0, pad_1, pad_2, pad_3, pad_4, pad_5, pad_6, pad_7, pad_8, pad_9, pad_10, pad_11, pad_12, pad_13, pad_14, pad_15, gc0, gc1, gc2, gc3, gc4, gc5, gc6, gc7, gc8, gc9, gc10, gc11, gc12, gc13, gc14, gc15, gcS, sc0, sc1, sc2, sc3, sc4, sc5, sc6, sc7, sc8, sc9, sc10, sc11, sc12, sc13, sc14, sc15, scS, List.drop_succ_cons, List.drop_nil, x_pan, s_pan, b_pan, pE_ret, pE_pan, pE_none, pE_ite, pvE_some, pvE_none, pvE_ite, rv_some, rv_none, rv_ite, oR_ret, t_mv, t_pick, t_alloc, t_box, t_build, t_buildS, t_load, t_store, t_nilck, t_bin, t_eqb, t_eqA, t_eqp, t_un, t_conv, t_field, t_idxA, t_faddr, t_iaddrS, t_iaddrA, t_ext, t_len, t_mm, t_call, t_ifc, t_fn, t_slc, t_slcA, t_slcT, t_tass, t_isn, t_mks, t_app, t_pan, panE_i, optE_none, optE_some, bnd_none, bnd_int, slA_none, slA_some, appR_some, appOld_cells, newsV_s, newsV_n, lenS_s, appV_nil, appV_some, mksV_i, sh_c, sh_g, f_pan, endD_ret, dfr_normal, dfr_ret, dfr_pan, restD_normal, callD1, callC1, tassV, isnV, slcV, slcAV, slcTV, slcB, appNew, Option.bind_some, Option.bind_none, d_pan, h_pan, wrH_eq, wrX_cells, wrU_some, upH_nil, upH_cons, lk_upH, effR_some, effR_none, effR_ite, Option.isNone_none, Option.isNone_some, slA_zero, call_yield, e_range, it_func, wy_same, y_call, isLp_self, beg_normal, end_normal, end_ret, end_exit, end_ite, aft_ret, aft_ready, aft_done, aft_exit, setP_cons, setP_nil, sh_r, t_mkmap, t_mlook, t_mupd, t_mdel, mapF_some, lookF_some, setM_some, lookR_t, lookR_n, lookR_f, lookR_fn, lookV, mupdV, mdelV, mkM]
    exact ⟨_, _, rfl, g1, pr1, j1⟩
  · simp -implicitDefEqProofs (maxSteps := 10000000) (disch := omega) only [I32, L32, hB, hR, hI, lenV_sl, Int.toNat_natCast, bft, btf, gtst, st_len, retV, pad, e_skip, e_ops, e_draw, e_fork, shg_n, shg_c, shg_g, shg_r, d_none, d_nil, d_cons, d_ite, h_none, h_nil, h_cons, h_ite, eqS_same, lightV, e_seq, e_cond, e_block, e_exit, e_ret, s_normal, s_ret, s_exit, s_none, s_ite, b_normal, b_ret, b_exit, b_none, b_ite, c_bool, x_none, x_nil, x_cons, x_ite, p_some, p_none, p_ite, pt_some, pt_none, pv_some, pv_none, pv_ite, w_none, w_some, i_bool, i_undef, bt, bf, v_tmp, v_const, v_global, v_func, evs, f_normal, f_ret, f_none, f_ite, r_some, co_some, l_ptr, m_agg, m_one, sh_app, lk_nil, lk_cons, rd_eq, rdO_some, rdO_none, rdN_none, rdL_some, rdL_none, wrB_none, unitR_some, wr_nil, wr_here, wr_skip, k_cells, tk_zero, tk_take, tk_skip, tkC_some, call_func, gt, st, binV, arith, isSh, storeV, all1, idxAV, fieldV, faddrV, iaddrSV, iaddrAV, pickV, convV, unV, eqbV, eqpV, extV, mm2, mmV, nilckV, ress, res1, retV, Value.cells, cond_true, cond_false, Bool.true_or, Bool.false_or, Bool.or_true, Bool.or_false, beq_self_eq_true, if_true, if_false, ite_true, ite_false, decide_true, decide_false, decide_eq_true_eq, reduceIte, Nat.zero_add, Nat.add_zero, and_self, true_and, and_true, List.size_toArray, List.length_cons, List.length_nil, List.append_nil, List.nil_append, Int.toNat_zero, Bool.not_false, Bool.not_true, Bool.not_not, Bool.false_eq_true, Bool.true_eq_false, reduceCtorEq, Int.reduceLT, Int.reduceLE, Int.reduceToNat, Int.reduceAdd, Int.reduceSub, Int.reduceMul, Int.reduceNeg, Nat.reduceMul, Nat.reduceAdd, Nat.reduceSub, Nat.reduceBEq, Nat.reduceEqDiff, Nat.reduceLT, Nat.reduceLeDiff, Int.reduceBEq, Int.reduceEq, Nat.reducePow, Int.reducePow, IntWalk.i64_in, IntKind.bits, eqAV, eqL, leafEq, andO, fillV, buildSV, List.getElem?_toArray, List.getElem?_cons_zero, List.getElem?_cons_succ, List.getElem?_nil, Int.reduceGT, Int.reduceGE, Int.reduceBNe, Bool.true_and, Bool.and_true, Bool.false_and, Bool.and_false, Bool.and_self, IntWalk.u64_in, Int.cast_ofNat_Int, callF1, pad16, pad_0, pad_1, pad_2, pad_3, pad_4, pad_5, pad_6, pad_7, pad_8, pad_9, pad_10, pad_11, pad_12, pad_13, pad_14, pad_15, gc0, gc1, gc2, gc3, gc4, gc5, gc6, gc7, gc8, gc9, gc10, gc11, gc12, gc13, gc14, gc15, gcS, sc0, sc1, sc2, sc3, sc4, sc5, sc6, sc7, sc8, sc9, sc10, sc11, sc12, sc13, sc14, sc15, scS, List.drop_succ_cons, List.drop_nil, x_pan, s_pan, b_pan, pE_ret, pE_pan, pE_none, pE_ite, pvE_some, pvE_none, pvE_ite, rv_some, rv_none, rv_ite, oR_ret, t_mv, t_pick, t_alloc, t_box, t_build, t_buildS, t_load, t_store, t_nilck, t_bin, t_eqb, t_eqA, t_eqp, t_un, t_conv, t_field, t_idxA, t_faddr, t_iaddrS, t_iaddrA, t_ext, t_len, t_mm, t_call, t_ifc, t_fn, t_slc, t_slcA, t_slcT, t_tass, t_isn, t_mks, t_app, t_pan, panE_i, optE_none, optE_some, bnd_none, bnd_int, slA_none, slA_some, appR_some, appOld_cells, newsV_s, newsV_n, lenS_s, appV_nil, appV_some, mksV_i, sh_c, sh_g, f_pan, endD_ret, dfr_normal, dfr_ret, dfr_pan, restD_normal, callD1, callC1, tassV, isnV, slcV, slcAV, slcTV, slcB, appNew, Option.bind_some, Option.bind_none, d_pan, h_pan, wrH_eq, wrX_cells, wrU_some, upH_nil, upH_cons, lk_upH, effR_some, effR_none, effR_ite, Option.isNone_none, Option.isNone_some, slA_zero, call_yield, e_range, it_func, wy_same, y_call, isLp_self, beg_normal, end_normal, end_ret, end_exit, end_ite, aft_ret, aft_ready, aft_done, aft_exit, setP_cons, setP_nil, sh_r, t_mkmap, t_mlook, t_mupd, t_mdel, mapF_some, lookF_some, setM_some, lookR_t, lookR_n, lookR_f, lookR_fn, lookV, mupdV, mdelV, mkM]
    exact ⟨_, _, rfl, g1, pr1, j1⟩
end Go.Proofs.YtlkeeckhileedaaDoor
namespace Go.Proofs.YtlkeeckhileedaaDoor
open Go.Proofs.YtlkeeckhileedaaDoor.K Go.ChangeShapes Go.WideShapes Go.ChangeAt Go.RowKit
set_option maxRecDepth 100000
set_option linter.unusedSimpArgs false
set_option linter.unusedVariables false

noncomputable def itR (B : OH) : Nat → (Nat → Cs) → Cs
  | 32 => I32 B
  | _ => fun _ _ _ _ => none
theorem itR_32 {B : OH} : itR B 32 = I32 B := rfl
theorem sItR {w0 : World} {B : OH} : ∀ k, (∀ Y args H N, itR B k Y args H N = none) ∨ (Enter Tryd.prog k ∧ ∀ Y, SoundY Tryd.prog w0 B Y → SoundC Tryd.prog w0 B k (itR B k Y)) := fun k => by
  unfold itR
  split
  · exact .inr ⟨en32, sI32⟩
  · exact .inl fun _ _ _ _ => rfl
/-- whitewash/treap.down -/
def L29 : FnL := ⟨(.seq (.ops [⟨(some 4), .box (.tmp 0), none⟩, ⟨(some 5), .box (.tmp 1), none⟩, ⟨(some 6), .box (.tmp 2), none⟩, ⟨(some 7), .box (.tmp 3), none⟩, ⟨(some 8), .mv (.const .nilFunc), none⟩])
 (.seq (.ops [⟨(some 9), .fn (.func 32) [] [(.tmp 5), (.tmp 4), (.tmp 7), (.tmp 6)], none⟩, ⟨(some 8), .mv (.tmp 9), none⟩])
 .ret)),
 10, [.tmp 8]⟩
theorem low29 : lowerFn Tryd.prog Tryd.f29 = some L29 := by kernel_rfl
noncomputable def G29 (B : OH) : Nat → Cs
  | _ => fun _ _ _ => none
theorem sG29 {w0 : World} {B : OH} : SoundG Tryd.prog w0 B { f := G29 B } := .of fun k => by
  unfold G29
  split
  · exact .inl fun _ _ _ => rfl
theorem en29 : Enter Tryd.prog 29 := .of Tryd.func29 (by kernel_rfl) (by kernel_rfl)
noncomputable def T29 (B : OH) : Cs := callF B { f := G29 B } 80 L29
theorem sT29 {w0 : World} {B : OH} : SoundC Tryd.prog w0 B 29 (T29 B) := callF_sound mixedOrders sG29 80 Tryd.func29 low29
noncomputable def V29 (B : OH) : Cs := T29 B
theorem sV29 {w0 : World} {B : OH} : SoundC Tryd.prog w0 B 29 (V29 B) := sT29
/-- whitewash/treap.Path -/
def L21 : FnL := ⟨(.seq (.ops [⟨(some 8), .mv (.const (.slice none 0 0)), none⟩])
 (.seq (.seq (.ops [⟨(some 11), .mv (.tmp 0), none⟩, ⟨(some 12), .mv (.tmp 1), none⟩, ⟨(some 13), .mv (.tmp 2), none⟩, ⟨(some 14), .call (.func 13) [(.tmp 11), (.tmp 12), (.tmp 13)], none⟩, ⟨(some 15), .un .not (.tmp 14), none⟩])
 (.cond (.tmp 15) (.seq (.ops [⟨(some 8), .mv (.const (.slice none 0 0)), none⟩])
 .ret)
 .skip))
 (.seq (.ops [⟨(some 9), .alloc [(.slice none 0 0)], none⟩])
 (.seq (.seq (.ops [⟨(some 16), .mv (.tmp 0), none⟩, ⟨(some 17), .mv (.tmp 1), none⟩, ⟨(some 18), .mv (.tmp 2), none⟩, ⟨(some 19), .mv (.tmp 3), none⟩, ⟨(some 20), .call (.func 29) [(.tmp 16), (.tmp 17), (.tmp 18), (.tmp 19)], none⟩])
 (.block 0 (.range (.tmp 20) [21] (.ops [⟨(some 10), .mv (.tmp 21), none⟩])
 (.block 1 (.ops [⟨(some 22), .load false 1 (.tmp 9), none⟩, ⟨(some 23), .mv (.tmp 10), none⟩, ⟨(some 24), .buildS [(.int .i64 0)] 1 [(0, 1, (.tmp 23))], none⟩, ⟨(some 25), .app [(.int .i64 0)] 8 (.tmp 22) (.tmp 24), none⟩, ⟨none, .store 1 (.tmp 9) (.tmp 25), none⟩])))))
 (.seq (.ops [⟨(some 26), .load false 1 (.tmp 9), none⟩, ⟨(some 8), .mv (.tmp 26), none⟩])
 .ret))))),
 27, [.tmp 8]⟩
theorem low21 : lowerFn Tryd.prog Tryd.f21 = some L21 := by kernel_rfl
noncomputable def G21 (B : OH) : Nat → Cs
  | 13 => V13 B
  | 29 => V29 B
  | _ => fun _ _ _ => none
theorem G21_13 {B : OH} : G21 B 13 = V13 B := rfl
theorem G21_29 {B : OH} : G21 B 29 = V29 B := rfl
noncomputable abbrev E21 (B : OH) : Env := { f := G21 B, it := itR B }
theorem sG21 {w0 : World} {B : OH} : SoundG Tryd.prog w0 B (E21 B) :=
  ⟨fun k => by
    show (∀ args H N, G21 B k args H N = none) ∨ _
    unfold G21
    split
    · exact .inr ⟨en13, sV13⟩
    · exact .inr ⟨en29, sV29⟩
    · exact .inl fun _ _ _ => rfl, fun _ => .inl fun _ _ _ => rfl, sItR⟩
theorem en21 : Enter Tryd.prog 21 := .of Tryd.func21 (by kernel_rfl) (by kernel_rfl)
noncomputable def T21 (B : OH) : Cs := callF B (E21 B) 1300 L21
theorem sT21 {w0 : World} {B : OH} : SoundC Tryd.prog w0 B 21 (T21 B) := callF_sound mixedOrders sG21 1300 Tryd.func21 low21
noncomputable def V21 (B : OH) : Cs := T21 B
theorem sV21 {w0 : World} {B : OH} : SoundC Tryd.prog w0 B 21 (V21 B) := sT21
set_option maxHeartbeats 8000000 in
theorem path21 {B : OH} {H : HL} {N : St} {v u : Value} {K : List Int} {root key : Int} {links : List P2} (hT : Tab B) (hN : good B H N) (hv : SlR w1 1 B H v K) (hK : U64s K) (hu : SlR p2 2 B H u links) (hv1 : v.cells = #[v]) (hu1 : u.cells = #[u]) :
    ∃ v' H' N', V21 B [v, .int .i64 root, u, .int .u64 key] H N = some (.ret v', H', N') ∧ good B H' N' ∧ Fr H H' ∧ SlM f1 1 B H H' v' (if rOk K root links = true then (Pth K key 0 K.length).map iC else []) := by
  have hB := good_B hN
  have hR := good_rdB hN
  have hI := beqN hN.1.1
  obtain ⟨av, cv, rfl, _⟩ := id hv
  obtain ⟨au, cu, rfl, _⟩ := id hu
  obtain ⟨H1, N1, er, g1, fr1⟩ := right13 (root := root) hT hN hv hK hu
  unfold V21
  cases hr : rOk K root links with
  | false =>
    rw [hr] at er
    rw [if_neg (by decide)]
    simp -implicitDefEqProofs (maxSteps := 10000000) (disch := omega) only [T21, L21, G21_13, G21_29, V29, T29, L29, hB, hR, hI, lenV_sl, Int.toNat_natCast, bft, btf, gtst, st_len, er, pad, e_skip, e_ops, e_draw, e_fork, shg_n, shg_c, shg_g, shg_r, d_none, d_nil, d_cons, d_ite, h_none, h_nil, h_cons, h_ite, eqS_same, lightV, e_seq, e_cond, e_block, e_exit, e_ret, s_normal, s_ret, s_exit, s_none, s_ite, b_normal, b_ret, b_exit, b_none, b_ite, c_bool, x_none, x_nil, x_cons, x_ite, p_some, p_none, p_ite, pt_some, pt_none, pv_some, pv_none, pv_ite, w_none, w_some, i_bool, i_undef, bt, bf, v_tmp, v_const, v_global, v_func, evs, f_normal, f_ret, f_none, f_ite, r_some, co_some, l_ptr, m_agg, m_one, sh_app, lk_nil, lk_cons, rd_eq, rdO_some, rdO_none, rdN_none, rdL_some, rdL_none, wrB_none, unitR_some, wr_nil, wr_here, wr_skip, k_cells, tk_zero, tk_take, tk_skip, tkC_some, call_func, gt, st, binV, arith, isSh, storeV, all1, idxAV, fieldV, faddrV, iaddrSV, iaddrAV, pickV, convV, unV, eqbV, eqpV, extV, mm2, mmV, nilckV, ress, res1, retV, Value.cells, cond_true, cond_false, Bool.true_or, Bool.false_or, Bool.or_true, Bool.or_false, beq_self_eq_true, if_true, if_false, ite_true, ite_false, decide_true, decide_false, decide_eq_true_eq, reduceIte, Nat.zero_add, Nat.add_zero, and_self, true_and, and_true, List.size_toArray, List.length_cons, List.length_nil, List.append_nil, List.nil_append, Int.toNat_zero, Bool.not_false, Bool.not_true, Bool.not_not, Bool.false_eq_true, Bool.true_eq_false, reduceCtorEq, Int.reduceLT, Int.reduceLE, Int.reduceToNat, Int.reduceAdd, Int.reduceSub, Int.reduceMul, Int.reduceNeg, Nat.reduceMul, Nat.reduceAdd, Nat.reduceSub, Nat.reduceBEq, Nat.reduceEqDiff, Nat.reduceLT, Nat.reduceLeDiff, Int.reduceBEq, Int.reduceEq, Nat.reducePow, Int.reducePow, IntWalk.i64_in, IntKind.bits, eqAV, eqL, leafEq, andO, fillV, buildSV, List.getElem?_toArray, List.getElem?_cons_zero, List.getElem?_cons_succ, List.getElem?_nil, Int.reduceGT, Int.reduceGE, Int.reduceBNe, Bool.true_and, Bool.and_true, Bool.false_and, Bool.and_false, Bool.and_self, IntWalk.u64_in, Int.cast_ofNat_Int, callF1, pad16, pad_0, pad_1, pad_2, pad_3, pad_4, pad_5, pad_6, pad_7, pad_8, pad_9, pad_10, pad_11, pad_12, pad_13, pad_14, pad_15, gc0, gc1, gc2, gc3, gc4, gc5, gc6, gc7, gc8, gc9, gc10, gc11, gc12, gc13, gc14, gc15, gcS, sc0, sc1, sc2, sc3, sc4, sc5, sc6, sc7, sc8, sc9, sc10, sc11, sc12, sc13, sc14, sc15, scS, List.drop_succ_cons, List.drop_nil, x_pan, s_pan, b_pan, pE_ret, pE_pan, pE_none, pE_ite, pvE_some, pvE_none, pvE_ite, rv_some, rv_none, rv_ite, oR_ret, t_mv, t_pick, t_alloc, t_box, t_build, t_buildS, t_load, t_store, t_nilck, t_bin, t_eqb, t_eqA, t_eqp, t_un, t_conv, t_field, t_idxA, t_faddr, t_iaddrS, t_iaddrA, t_ext, t_len, t_mm, t_call, t_ifc, t_fn, t_slc, t_slcA, t_slcT, t_tass, t_isn, t_mks, t_app, t_pan, panE_i, optE_none, optE_some, bnd_none, bnd_int, slA_none, slA_some, appR_some, appOld_cells, newsV_s, newsV_n, lenS_s, appV_nil, appV_some, mksV_i, sh_c, sh_g, f_pan, endD_ret, dfr_normal, dfr_ret, dfr_pan, restD_normal, callD1, callC1, tassV, isnV, slcV, slcAV, slcTV, slcB, appNew, Option.bind_some, Option.bind_none, d_pan, h_pan, wrH_eq, wrX_cells, wrU_some, upH_nil, upH_cons, lk_upH, effR_some, effR_none, effR_ite, Option.isNone_none, Option.isNone_some, slA_zero, call_yield, e_range, it_func, wy_same, y_call, isLp_self, beg_normal, end_normal, end_ret, end_exit, end_ite, aft_ret, aft_ready, aft_done, aft_exit, setP_cons, setP_nil, sh_r, t_mkmap, t_mlook, t_mupd, t_mdel, mapF_some, lookF_some, setM_some, lookR_t, lookR_n, lookR_f, lookR_fn, lookV, mupdV, mdelV, mkM]
    exact ⟨_, _, _, rfl, g1, fr1, .inl ⟨rfl, rfl⟩⟩
  | true =>
    rw [hr] at er
    rw [if_pos rfl]
    unfold rOk at hr
    simp only [Bool.and_eq_true, decide_eq_true_eq] at hr
    obtain ⟨⟨hr0, hr1⟩, hr2⟩ := hr
    have hKl := (bErr_0 hr0).1
    have hHd := Hd.all hr0
    rw [hr2] at hHd
    have hroot := hr1
    rw [bRoot_0 hr0] at hroot
    have hB1 := good_B g1
    have hR1 := good_rdB g1
    have hI1 := beqN g1.1.1
    subst hroot
    simp -implicitDefEqProofs (maxSteps := 10000000) (disch := omega) only [T21, L21, G21_13, G21_29, V29, T29, L29, hB, hR, hI, lenV_sl, Int.toNat_natCast, bft, btf, gtst, st_len, itR_32, List.cons_append, List.nil_append, er, hB1, hR1, hI1, pad, e_skip, e_ops, e_draw, e_fork, shg_n, shg_c, shg_g, shg_r, d_none, d_nil, d_cons, d_ite, h_none, h_nil, h_cons, h_ite, eqS_same, lightV, e_seq, e_cond, e_block, e_exit, e_ret, s_normal, s_ret, s_exit, s_none, s_ite, b_normal, b_ret, b_exit, b_none, b_ite, c_bool, x_none, x_nil, x_cons, x_ite, p_some, p_none, p_ite, pt_some, pt_none, pv_some, pv_none, pv_ite, w_none, w_some, i_bool, i_undef, bt, bf, v_tmp, v_const, v_global, v_func, evs, f_normal, f_ret, f_none, f_ite, r_some, co_some, l_ptr, m_agg, m_one, sh_app, lk_nil, lk_cons, rd_eq, rdO_some, rdO_none, rdN_none, rdL_some, rdL_none, wrB_none, unitR_some, wr_nil, wr_here, wr_skip, k_cells, tk_zero, tk_take, tk_skip, tkC_some, call_func, gt, st, binV, arith, isSh, storeV, all1, idxAV, fieldV, faddrV, iaddrSV, iaddrAV, pickV, convV, unV, eqbV, eqpV, extV, mm2, mmV, nilckV, ress, res1, retV, Value.cells, cond_true, cond_false, Bool.true_or, Bool.false_or, Bool.or_true, Bool.or_false, beq_self_eq_true, if_true, if_false, ite_true, ite_false, decide_true, decide_false, decide_eq_true_eq, reduceIte, Nat.zero_add, Nat.add_zero, and_self, true_and, and_true, List.size_toArray, List.length_cons, List.length_nil, List.append_nil, List.nil_append, Int.toNat_zero, Bool.not_false, Bool.not_true, Bool.not_not, Bool.false_eq_true, Bool.true_eq_false, reduceCtorEq, Int.reduceLT, Int.reduceLE, Int.reduceToNat, Int.reduceAdd, Int.reduceSub, Int.reduceMul, Int.reduceNeg, Nat.reduceMul, Nat.reduceAdd, Nat.reduceSub, Nat.reduceBEq, Nat.reduceEqDiff, Nat.reduceLT, Nat.reduceLeDiff, Int.reduceBEq, Int.reduceEq, Nat.reducePow, Int.reducePow, IntWalk.i64_in, IntKind.bits, eqAV, eqL, leafEq, andO, fillV, buildSV, List.getElem?_toArray, List.getElem?_cons_zero, List.getElem?_cons_succ, List.getElem?_nil, Int.reduceGT, Int.reduceGE, Int.reduceBNe, Bool.true_and, Bool.and_true, Bool.false_and, Bool.and_false, Bool.and_self, IntWalk.u64_in, Int.cast_ofNat_Int, callF1, pad16, pad_0, pad_1, pad_2, pad_3, pad_4, pad_5, pad_6, pad_7, pad_8, pad_9, pad_10, pad_11, pad_12, pad_13, pad_14, pad_15, gc0, gc1, gc2, gc3, gc4, gc5, gc6, gc7, gc8, gc9, gc10, gc11, gc12, gc13, gc14, gc15, gcS, sc0, sc1, sc2, sc3, sc4, sc5, sc6, sc7, sc8, sc9, sc10, sc11, sc12, sc13, sc14, sc15, scS, List.drop_succ_cons, List.drop_nil, x_pan, s_pan, b_pan, pE_ret, pE_pan, pE_none, pE_ite, pvE_some, pvE_none, pvE_ite, rv_some, rv_none, rv_ite, oR_ret, t_mv, t_pick, t_alloc, t_box, t_build, t_buildS, t_load, t_store, t_nilck, t_bin, t_eqb, t_eqA, t_eqp, t_un, t_conv, t_field, t_idxA, t_faddr, t_iaddrS, t_iaddrA, t_ext, t_len, t_mm, t_call, t_ifc, t_fn, t_slc, t_slcA, t_slcT, t_tass, t_isn, t_mks, t_app, t_pan, panE_i, optE_none, optE_some, bnd_none, bnd_int, slA_none, slA_some, appR_some, appOld_cells, newsV_s, newsV_n, lenS_s, appV_nil, appV_some, mksV_i, sh_c, sh_g, f_pan, endD_ret, dfr_normal, dfr_ret, dfr_pan, restD_normal, callD1, callC1, tassV, isnV, slcV, slcAV, slcTV, slcB, appNew, Option.bind_some, Option.bind_none, d_pan, h_pan, wrH_eq, wrX_cells, wrU_some, upH_nil, upH_cons, lk_upH, effR_some, effR_none, effR_ite, Option.isNone_none, Option.isNone_some, slA_zero, call_yield, e_range, it_func, wy_same, y_call, isLp_self, beg_normal, end_normal, end_ret, end_exit, end_ite, aft_ret, aft_ready, aft_done, aft_exit, setP_cons, setP_nil, sh_r, t_mkmap, t_mlook, t_mupd, t_mdel, mapF_some, lookF_some, setM_some, lookR_t, lookR_n, lookR_f, lookR_fn, lookV, mupdV, mdelV, mkM]
    generalize hX : I32 B _ _ _ _ = o
    obtain ⟨HH, hHH⟩ : ∃ HH, HH = (N1.n 6, .loop (N1.r 6) .ready) :: (N1.n 5, .dfr) :: (N1.n 4, .cells [.int .u64 key] 1) :: (N1.n 3, .cells [.slice au links.length cu] 1) :: (N1.n 2, .cells [.int .i64 ((T (fK K) 0 K.length).1 : Int)] 1) :: (N1.n 1, .cells [.slice av K.length cv] 1) :: (N1.n 0, .cells [.slice none 0 0] 1) :: H1 := ⟨_, rfl⟩
    have gH : good B HH (sh (sh (sh (sh (sh (sh (sh N1))))))) := by rw [hHH]; exact good_new (good_new (good_new (good_new (good_new (good_new (good_new g1))))))
    have fH : Fr H1 HH := by
      rw [hHH]
      have a1 := good_new (k := .cells [.slice none 0 0] 1) g1
      have a2 := good_new (k := .cells [.slice av K.length cv] 1) a1
      have a3 := good_new (k := .cells [.int .i64 ((T (fK K) 0 K.length).1 : Int)] 1) a2
      have a4 := good_new (k := .cells [.slice au links.length cu] 1) a3
      have a5 := good_new (k := .cells [.int .u64 key] 1) a4
      have a6 := good_new (k := .dfr) a5
      exact fr_new a6 (fr_new a5 (fr_new a4 (fr_new a3 (fr_new a2 (fr_new a1 (fr_new g1 Fr.refl 0) 0) 0) 0) 0) 0) 0
    have q0' : lk HH (N1.n 0) = some (.cells [.slice none 0 0] 1) := by rw [hHH]; simp only [lk_cons, hI1]; rfl
    have q1 : lk HH (N1.n 1) = some (.cells [.slice av K.length cv] 1) := by rw [hHH]; simp only [lk_cons, hI1]; rfl
    have q2 : lk HH (N1.n 2) = some (.cells [.int .i64 ((T (fK K) 0 K.length).1 : Int)] 1) := by rw [hHH]; simp only [lk_cons, hI1]; rfl
    have q3 : lk HH (N1.n 3) = some (.cells [.slice au links.length cu] 1) := by rw [hHH]; simp only [lk_cons, hI1]; rfl
    have q4 : lk HH (N1.n 4) = some (.cells [.int .u64 key] 1) := by rw [hHH]; simp only [lk_cons, hI1]; rfl
    have q6 : lk HH (N1.n 6) = some (.loop (N1.r 6) .ready) := by rw [hHH]; simp only [lk_cons, hI1]; rfl
    have nOwn : ∀ i c, i ≠ 0 → i ≠ 6 → lk HH (N1.n i) = some c → ¬ (N1.n i = N1.n 0 ∨ N1.n i = N1.n 6 ∨ lk HH (N1.n i) = none) := fun i c h0 h6 hl h => by
      rcases h with h | h | h
      · have := hI1 i 0; rw [h] at this; simp at this; exact h0 this
      · have := hI1 i 6; rw [h] at this; simp at this; exact h6 this
      · rw [hl] at h; cases h
    have hO : ∃ H' N', o = some (.ret (.tuple #[]), H', N') ∧ good B H' N' ∧ (∀ x, ¬ (x = N1.n 0 ∨ x = N1.n 6 ∨ lk HH x = none) → ∀ c, lk HH x = some c → lk H' x = some c) ∧
        (lk H' (N1.n 6) = some (.loop (N1.r 6) .ready) ∧ (∀ x, ¬ (x = N1.n 0 ∨ x = N1.n 6 ∨ lk HH x = none) → ∀ c, lk HH x = some c → lk H' x = some c) ∧ ∃ vO, lk H' (N1.n 0) = some (.cells [vO] 1) ∧ vO.cells = #[vO] ∧ SlM f1 1 B H1 H' vO (((Pth K key 0 K.length).take (Pth K key 0 K.length).length).map iC) ∧ ∀ y c, lk HH y = some c → slB vO ≠ some y) := by
      rw [← hX, ← hHH]
      refine it32 (Own := fun x => x = N1.n 0 ∨ x = N1.n 6 ∨ lk HH x = none) (J := fun k H' => lk H' (N1.n 6) = some (.loop (N1.r 6) .ready) ∧ (∀ x, ¬ (x = N1.n 0 ∨ x = N1.n 6 ∨ lk HH x = none) → ∀ c, lk HH x = some c → lk H' x = some c) ∧ ∃ vO, lk H' (N1.n 0) = some (.cells [vO] 1) ∧ vO.cells = #[vO] ∧ SlM f1 1 B H1 H' vO (((Pth K key 0 K.length).take k).map iC) ∧ ∀ y c, lk HH y = some c → slB vO ≠ some y)
        ⟨?_⟩ (hv.mono fr1) (hu.mono fr1) hHd hKl ?_ (nOwn 2 _ (by decide) (by decide) q2) (nOwn 1 _ (by decide) (by decide) q1) (nOwn 4 _ (by decide) (by decide) q4) (nOwn 3 _ (by decide) (by decide) q3) (hB1 2) (hB1 1) (hB1 4) (hB1 3) gH fH q2 q1 q4 q3 ⟨q6, fun _ _ _ e => e, _, q0', rfl, .inl ⟨rfl, rfl⟩, fun y c _ => by simp [slB]⟩
      rotate_left
      · rintro x (rfl | rfl | h)
        · exact lk_N g1 0
        · exact lk_N g1 6
        · exact fH.dm _ h
      intro k H' N' hk hJ hN'
      obtain ⟨j6, jp, vO, j0, jc, js, jn⟩ := hJ
      have hBo := hB1
      have hB := good_B hN'
      have hR := good_rdB hN'
      have hI := beqN hN'.1.1
      have b0 := hBo 0
      have b6 := hBo 6
      have r0 := fun o n => rdB_none (o := o) (n := n) b0
      have m0 := ne_N hN' j0
      have m0' := ne_N' hN' j0
      have m6 := ne_N hN' j6
      have m6' := ne_N' hN' j6
      have x06 : (N1.n 0 == N1.n 6) = false := by rw [hI1]; rfl
      have x60 : (N1.n 6 == N1.n 0) = false := by rw [hI1]; rfl
      have gb := good_set (k := .loop (N1.r 6) .busy) hN' b6 j6
      have frb : Fr H1 ((N1.n 6, .loop (N1.r 6) .busy) :: H') := fun y c e => by
        have hyH := fH _ _ e
        have h1 : ¬ (y = N1.n 0 ∨ y = N1.n 6 ∨ lk HH y = none) := by
          rintro (rfl | rfl | h)
          · rw [lk_N g1 0] at e; cases e
          · rw [lk_N g1 6] at e; cases e
          · rw [hyH] at h; cases h
        rw [lk_cons, eqb (fun h => h1 (.inr (.inl h))), cond_false]
        exact jp y h1 c hyH
      have jsb := js.mono (H' := (N1.n 6, .loop (N1.r 6) .busy) :: H') fun y c hy e => by
        rw [lk_cons, eqb (fun h => jn _ _ q6 (by rw [← h]; exact hy)), cond_false]; exact e
      have hpl := Pth_len K key K.length 0
      obtain ⟨v2, H2, N2, hap, g4, fr4, fs4, s4, sq4⟩ := push_specM f1_len (bytes := 8) gb frb jsb (iC ((Pth K key 0 K.length).getD k 0)) rfl (by rw [List.length_map, List.length_take]; omega) (by rw [List.length_map, List.length_take]; omega)
      have jb0 : lk ((N1.n 6, .loop (N1.r 6) .busy) :: H') (N1.n 0) = some (.cells [vO] 1) := by rw [lk_cons, x06, cond_false]; exact j0
      have jb6 : lk ((N1.n 6, .loop (N1.r 6) .busy) :: H') (N1.n 6) = some (.loop (N1.r 6) .busy) := lk_top
      have k0 := fs4 _ _ (jn _ _ q0') jb0
      have k6 := fs4 _ _ (jn _ _ q6) jb6
      have nv0 := sq4 _ _ (jn _ _ q0') jb0
      have nv6 := sq4 _ _ (jn _ _ q6) jb6
      have s5 := s4.toM
      have s6 := s4.rd f1_len
      obtain ⟨a2, c2, rfl, _⟩ := id s6
      simp only [f1, iC] at hap
      have g5 := good_up (k := .cells [.slice a2 (List.map iC (List.take k (Pth K key 0 K.length)) ++ [iC ((Pth K key 0 K.length).getD k 0)]).length c2] 1) g4 b0 k0
      have g6 := good_set (k := .loop (N1.r 6) .ready) (k' := .loop (N1.r 6) .busy) g5 b6 (by rw [lk_upH, x60, cond_false]; exact k6)
      have keep : ∀ x, ¬ (x = N1.n 0 ∨ x = N1.n 6 ∨ lk HH x = none) → ∀ c, lk H' x = some c → lk ((N1.n 6, .loop (N1.r 6) .ready) :: upH H2 (N1.n 0) (.cells [.slice a2 (List.map iC (List.take k (Pth K key 0 K.length)) ++ [iC ((Pth K key 0 K.length).getD k 0)]).length c2] 1)) x = some c := fun x hx c e => by
        have hx0 : (x == N1.n 0) = false := eqb (fun h => hx (.inl h))
        have hx6 : (x == N1.n 6) = false := eqb (fun h => hx (.inr (.inl h)))
        obtain ⟨c', hc'⟩ : ∃ c', lk HH x = some c' := by
          cases h : lk HH x with
          | none => exact (hx (.inr (.inr h))).elim
          | some c' => exact ⟨c', rfl⟩
        rw [lk_cons, hx6, cond_false, lk_upH, hx0, cond_false]
        exact fs4 _ _ (jn _ _ hc') (by rw [lk_cons, hx6, cond_false]; exact e)
      have htk : (List.take (k + 1) (Pth K key 0 K.length)).map iC = List.map iC (List.take k (Pth K key 0 K.length)) ++ [iC ((Pth K key 0 K.length).getD k 0)] := by
        rw [List.take_add_one, some_getD (d := 0) hk]; simp
      simp -implicitDefEqProofs (maxSteps := 10000000) (disch := omega) only [T21, L21, G21_13, G21_29, V29, T29, L29, hB, hR, hI, lenV_sl, Int.toNat_natCast, bft, btf, gtst, st_len, itR_32, List.cons_append, List.nil_append, j6, j0, b0, b6, r0, m0, m0', m6, m6', x06, x60, hap, k0, k6, jc, pad, e_skip, e_ops, e_draw, e_fork, shg_n, shg_c, shg_g, shg_r, d_none, d_nil, d_cons, d_ite, h_none, h_nil, h_cons, h_ite, eqS_same, lightV, e_seq, e_cond, e_block, e_exit, e_ret, s_normal, s_ret, s_exit, s_none, s_ite, b_normal, b_ret, b_exit, b_none, b_ite, c_bool, x_none, x_nil, x_cons, x_ite, p_some, p_none, p_ite, pt_some, pt_none, pv_some, pv_none, pv_ite, w_none, w_some, i_bool, i_undef, bt, bf, v_tmp, v_const, v_global, v_func, evs, f_normal, f_ret, f_none, f_ite, r_some, co_some, l_ptr, m_agg, m_one, sh_app, lk_nil, lk_cons, rd_eq, rdO_some, rdO_none, rdN_none, rdL_some, rdL_none, wrB_none, unitR_some, wr_nil, wr_here, wr_skip, k_cells, tk_zero, tk_take, tk_skip, tkC_some, call_func, gt, st, binV, arith, isSh, storeV, all1, idxAV, fieldV, faddrV, iaddrSV, iaddrAV, pickV, convV, unV, eqbV, eqpV, extV, mm2, mmV, nilckV, ress, res1, retV, Value.cells, cond_true, cond_false, Bool.true_or, Bool.false_or, Bool.or_true, Bool.or_false, beq_self_eq_true, if_true, if_false, ite_true, ite_false, decide_true, decide_false, decide_eq_true_eq, reduceIte, Nat.zero_add, Nat.add_zero, and_self, true_and, and_true, List.size_toArray, List.length_cons, List.length_nil, List.append_nil, List.nil_append, Int.toNat_zero, Bool.not_false, Bool.not_true, Bool.not_not, Bool.false_eq_true, Bool.true_eq_false, reduceCtorEq, Int.reduceLT, Int.reduceLE, Int.reduceToNat, Int.reduceAdd, Int.reduceSub, Int.reduceMul, Int.reduceNeg, Nat.reduceMul, Nat.reduceAdd, Nat.reduceSub, Nat.reduceBEq, Nat.reduceEqDiff, Nat.reduceLT, Nat.reduceLeDiff, Int.reduceBEq, Int.reduceEq, Nat.reducePow, Int.reducePow, IntWalk.i64_in, IntKind.bits, eqAV, eqL, leafEq, andO, fillV, buildSV, List.getElem?_toArray, List.getElem?_cons_zero, List.getElem?_cons_succ, List.getElem?_nil, Int.reduceGT, Int.reduceGE, Int.reduceBNe, Bool.true_and, Bool.and_true, Bool.false_and, Bool.and_false, Bool.and_self, IntWalk.u64_in, Int.cast_ofNat_Int, callF1, pad16, pad_0, pad_1, pad_2, pad_3, pad_4, pad_5, pad_6, pad_7, pad_8, pad_9, pad_10, pad_11, pad_12, pad_13, pad_14, pad_15, gc0, gc1, gc2, gc3, gc4, gc5, gc6, gc7, gc8, gc9, gc10, gc11, gc12, gc13, gc14, gc15, gcS, sc0, sc1, sc2, sc3, sc4, sc5, sc6, sc7, sc8, sc9, sc10, sc11, sc12, sc13, sc14, sc15, scS, List.drop_succ_cons, List.drop_nil, x_pan, s_pan, b_pan, pE_ret, pE_pan, pE_none, pE_ite, pvE_some, pvE_none, pvE_ite, rv_some, rv_none, rv_ite, oR_ret, t_mv, t_pick, t_alloc, t_box, t_build, t_buildS, t_load, t_store, t_nilck, t_bin, t_eqb, t_eqA, t_eqp, t_un, t_conv, t_field, t_idxA, t_faddr, t_iaddrS, t_iaddrA, t_ext, t_len, t_mm, t_call, t_ifc, t_fn, t_slc, t_slcA, t_slcT, t_tass, t_isn, t_mks, t_app, t_pan, panE_i, optE_none, optE_some, bnd_none, bnd_int, slA_none, slA_some, appR_some, appOld_cells, newsV_s, newsV_n, lenS_s, appV_nil, appV_some, mksV_i, sh_c, sh_g, f_pan, endD_ret, dfr_normal, dfr_ret, dfr_pan, restD_normal, callD1, callC1, tassV, isnV, slcV, slcAV, slcTV, slcB, appNew, Option.bind_some, Option.bind_none, d_pan, h_pan, wrH_eq, wrX_cells, wrU_some, upH_nil, upH_cons, lk_upH, effR_some, effR_none, effR_ite, Option.isNone_none, Option.isNone_some, slA_zero, call_yield, e_range, it_func, wy_same, y_call, isLp_self, beg_normal, end_normal, end_ret, end_exit, end_ite, aft_ret, aft_ready, aft_done, aft_exit, setP_cons, setP_nil, sh_r, t_mkmap, t_mlook, t_mupd, t_mdel, mapF_some, lookF_some, setM_some, lookR_t, lookR_n, lookR_f, lookR_fn, lookV, mupdV, mdelV, mkM]
      refine ⟨_, _, rfl, g6, keep, lk_top, fun x hx c e => keep x hx c (jp x hx c e), .slice a2 (List.map iC (List.take k (Pth K key 0 K.length)) ++ [iC ((Pth K key 0 K.length).getD k 0)]).length c2, ?_, rfl, ?_, fun y c e => ?_⟩
      · rw [lk_cons, x06, cond_false, lk_upH, beq_self_eq_true, cond_true]
        rfl
      · rw [htk]
        refine s5.mono fun y c hy e => ?_
        rw [lk_cons, eqb (fun h => nv6 (by rw [hy, h])), cond_false, lk_upH, eqb (fun h => nv0 (by rw [hy, h])), cond_false]
        exact e
      · by_cases h0 : y = N1.n 0
        · rw [h0]; exact nv0
        · by_cases h6 : y = N1.n 6
          · rw [h6]; exact nv6
          · have hny : ¬ (y = N1.n 0 ∨ y = N1.n 6 ∨ lk HH y = none) := by
              rintro (h | h | h)
              · exact h0 h
              · exact h6 h
              · rw [e] at h; cases h
            exact sq4 _ _ (jn _ _ e) (by rw [lk_cons, eqb h6, cond_false]; exact jp y hny c e)
    obtain ⟨H', N', rfl, g2, pr2, j6, jp, vO, j0, jc, js, jn⟩ := hO
    have x06 : (N1.n 0 == N1.n 6) = false := by rw [hI1]; rfl
    have fr2 : Fr H1 ((N1.n 6, .loop (N1.r 6) .over) :: H') := fun y c e => by
      have hyH := fH _ _ e
      have h1 : ¬ (y = N1.n 0 ∨ y = N1.n 6 ∨ lk HH y = none) := by
        rintro (rfl | rfl | h)
        · rw [lk_N g1 0] at e; cases e
        · rw [lk_N g1 6] at e; cases e
        · rw [hyH] at h; cases h
      rw [lk_cons, eqb (fun h => h1 (.inr (.inl h))), cond_false]
      exact jp y h1 c hyH
    have g3 := good_set (k := .loop (N1.r 6) .over) g2 (hB1 6) j6
    have b0 := hB1 0
    have r0 := fun o n => rdB_none (o := o) (n := n) b0
    simp -implicitDefEqProofs (maxSteps := 10000000) (disch := omega) only [T21, L21, G21_13, G21_29, V29, T29, L29, hB, hR, hI, lenV_sl, Int.toNat_natCast, bft, btf, gtst, st_len, itR_32, List.cons_append, List.nil_append, j6, j0, b0, r0, x06, pad, e_skip, e_ops, e_draw, e_fork, shg_n, shg_c, shg_g, shg_r, d_none, d_nil, d_cons, d_ite, h_none, h_nil, h_cons, h_ite, eqS_same, lightV, e_seq, e_cond, e_block, e_exit, e_ret, s_normal, s_ret, s_exit, s_none, s_ite, b_normal, b_ret, b_exit, b_none, b_ite, c_bool, x_none, x_nil, x_cons, x_ite, p_some, p_none, p_ite, pt_some, pt_none, pv_some, pv_none, pv_ite, w_none, w_some, i_bool, i_undef, bt, bf, v_tmp, v_const, v_global, v_func, evs, f_normal, f_ret, f_none, f_ite, r_some, co_some, l_ptr, m_agg, m_one, sh_app, lk_nil, lk_cons, rd_eq, rdO_some, rdO_none, rdN_none, rdL_some, rdL_none, wrB_none, unitR_some, wr_nil, wr_here, wr_skip, k_cells, tk_zero, tk_take, tk_skip, tkC_some, call_func, gt, st, binV, arith, isSh, storeV, all1, idxAV, fieldV, faddrV, iaddrSV, iaddrAV, pickV, convV, unV, eqbV, eqpV, extV, mm2, mmV, nilckV, ress, res1, retV, Value.cells, cond_true, cond_false, Bool.true_or, Bool.false_or, Bool.or_true, Bool.or_false, beq_self_eq_true, if_true, if_false, ite_true, ite_false, decide_true, decide_false, decide_eq_true_eq, reduceIte, Nat.zero_add, Nat.add_zero, and_self, true_and, and_true, List.size_toArray, List.length_cons, List.length_nil, List.append_nil, List.nil_append, Int.toNat_zero, Bool.not_false, Bool.not_true, Bool.not_not, Bool.false_eq_true, Bool.true_eq_false, reduceCtorEq, Int.reduceLT, Int.reduceLE, Int.reduceToNat, Int.reduceAdd, Int.reduceSub, Int.reduceMul, Int.reduceNeg, Nat.reduceMul, Nat.reduceAdd, Nat.reduceSub, Nat.reduceBEq, Nat.reduceEqDiff, Nat.reduceLT, Nat.reduceLeDiff, Int.reduceBEq, Int.reduceEq, Nat.reducePow, Int.reducePow, IntWalk.i64_in, IntKind.bits, eqAV, eqL, leafEq, andO, fillV, buildSV, List.getElem?_toArray, List.getElem?_cons_zero, List.getElem?_cons_succ, List.getElem?_nil, Int.reduceGT, Int.reduceGE, Int.reduceBNe, Bool.true_and, Bool.and_true, Bool.false_and, Bool.and_false, Bool.and_self, IntWalk.u64_in, Int.cast_ofNat_Int, callF1, pad16, pad_0, pad_1, pad_2, pad_3, pad_4, pad_5, pad_6, pad_7, pad_8, pad_9, pad_10, pad_11, pad_12, pad_13, pad_14, pad_15, gc0, gc1, gc2, gc3, gc4, gc5, gc6, gc7, gc8, gc9, gc10, gc11, gc12, gc13, gc14, gc15, gcS, sc0, sc1, sc2, sc3, sc4, sc5, sc6, sc7, sc8, sc9, sc10, sc11, sc12, sc13, sc14, sc15, scS, List.drop_succ_cons, List.drop_nil, x_pan, s_pan, b_pan, pE_ret, pE_pan, pE_none, pE_ite, pvE_some, pvE_none, pvE_ite, rv_some, rv_none, rv_ite, oR_ret, t_mv, t_pick, t_alloc, t_box, t_build, t_buildS, t_load, t_store, t_nilck, t_bin, t_eqb, t_eqA, t_eqp, t_un, t_conv, t_field, t_idxA, t_faddr, t_iaddrS, t_iaddrA, t_ext, t_len, t_mm, t_call, t_ifc, t_fn, t_slc, t_slcA, t_slcT, t_tass, t_isn, t_mks, t_app, t_pan, panE_i, optE_none, optE_some, bnd_none, bnd_int, slA_none, slA_some, appR_some, appOld_cells, newsV_s, newsV_n, lenS_s, appV_nil, appV_some, mksV_i, sh_c, sh_g, f_pan, endD_ret, dfr_normal, dfr_ret, dfr_pan, restD_normal, callD1, callC1, tassV, isnV, slcV, slcAV, slcTV, slcB, appNew, Option.bind_some, Option.bind_none, d_pan, h_pan, wrH_eq, wrX_cells, wrU_some, upH_nil, upH_cons, lk_upH, effR_some, effR_none, effR_ite, Option.isNone_none, Option.isNone_some, slA_zero, call_yield, e_range, it_func, wy_same, y_call, isLp_self, beg_normal, end_normal, end_ret, end_exit, end_ite, aft_ret, aft_ready, aft_done, aft_exit, setP_cons, setP_nil, sh_r, t_mkmap, t_mlook, t_mupd, t_mdel, mapF_some, lookF_some, setM_some, lookR_t, lookR_n, lookR_f, lookR_fn, lookV, mupdV, mdelV, mkM]
    refine ⟨_, _, _, rfl, g3, fr1.trans fr2, ?_⟩
    rw [List.take_length] at js
    refine (js.low fr1.dm).mono fun y c hy e => ?_
    rw [lk_cons, eqb (fun h => jn _ _ q6 (by rw [← h]; exact hy)), cond_false]
    exact e
end Go.Proofs.YtlkeeckhileedaaDoor
namespace Go.Proofs.YtlkeeckhileedaaDoor
open Go.Proofs.YtlkeeckhileedaaDoor.K Go.ChangeShapes Go.WideShapes Go.ChangeAt Go.RowKit
set_option maxRecDepth 100000
set_option linter.unusedSimpArgs false
set_option linter.unusedVariables false

theorem Pth_b (K : List Int) (key : Int) : ∀ (d a : Nat), ∀ s ∈ Pth K key a d, a < s ∧ s ≤ a + d := by
  intro d
  induction d using Nat.strongRecOn with
  | ind d ih =>
    intro a s hs
    cases d with
    | zero => rw [Pth_zero] at hs; cases hs
    | succ e =>
      have hb := amx_b (fK K) a e
      rw [Pth_succ] at hs
      rcases List.mem_cons.1 hs with rfl | hs
      · omega
      · split at hs
        · cases hs
        · split at hs
          · have := ih _ (by omega) _ s hs; omega
          · have := ih _ (by omega) _ s hs; omega
theorem mapD {P : List Nat} {j : Nat} (h : j < P.length) : (P.map iC).getD j 0 = iC (P.getD j 0) := by
  refine getD_some ?_
  rw [List.getElem?_map, some_getD (d := 0) h]; rfl
/-- The last one that is met whose key is not less. -/
def bst (K : List Int) (key : Int) (P : List Nat) : Nat → Nat
  | 0 => 0
  | j + 1 => if K.getD (P.getD j 0 - 1) 0 ≥ key then P.getD j 0 else bst K key P j
noncomputable def nxt (K : List Int) (root : Int) (links : List P2) (key : Int) : Nat := if rOk K root links = true then bst K key (Pth K key 0 K.length) (Pth K key 0 K.length).length else 0
theorem bst_b {K : List Int} {key : Int} {P : List Nat} (h : ∀ s ∈ P, 1 ≤ s ∧ s ≤ K.length) : ∀ j, j ≤ P.length → bst K key P j ≤ K.length
  | 0, _ => Nat.zero_le _
  | j + 1, hj => by
    simp only [bst]
    split
    · have := h (P.getD j 0) (List.mem_of_getElem? (some_getD (d := 0) (by omega))); omega
    · exact bst_b h j (by omega)
theorem nxt_b (K : List Int) (root : Int) (links : List P2) (key : Int) : nxt K root links key ≤ K.length := by
  unfold nxt
  split
  · exact bst_b (fun s hs => by have := Pth_b K key K.length 0 s hs; omega) _ (Nat.le_refl _)
  · exact Nat.zero_le _
/-- whitewash/treap.Next -/
def L18 : FnL := ⟨(.seq (.ops [⟨(some 8), .mv (.const (.int .i64 0)), none⟩, ⟨(some 9), .mv (.const (.bool false)), none⟩])
 (.seq (.ops [⟨(some 10), .mv (.const (.int .i64 0)), none⟩])
 (.seq (.seq (.ops [⟨(some 13), .mv (.tmp 0), none⟩, ⟨(some 14), .mv (.tmp 1), none⟩, ⟨(some 15), .mv (.tmp 2), none⟩, ⟨(some 16), .mv (.tmp 3), none⟩, ⟨(some 17), .call (.func 21) [(.tmp 13), (.tmp 14), (.tmp 15), (.tmp 16)], none⟩, ⟨(some 18), .len false (.tmp 17), none⟩, ⟨(some 19), .mv (.const (.int .i64 0)), none⟩])
 (.block 0 (.loop (.seq (.ops [⟨(some 20), .bin .lss (.tmp 19) (.tmp 18), none⟩])
 (.seq (.cond (.tmp 20) .skip
 (.exit 0))
 (.seq (.block 1 (.seq (.ops [⟨(some 21), .iaddrS 1 (.tmp 17) (.tmp 19), none⟩, ⟨(some 22), .load false 1 (.tmp 21), none⟩, ⟨(some 12), .mv (.tmp 22), none⟩])
 (.seq (.ops [⟨(some 23), .mv (.tmp 0), none⟩, ⟨(some 24), .mv (.tmp 12), none⟩, ⟨(some 25), .bin .sub (.tmp 24) (.const (.int .i64 1)), none⟩, ⟨(some 26), .iaddrS 1 (.tmp 23) (.tmp 25), none⟩, ⟨(some 27), .load false 1 (.tmp 26), none⟩, ⟨(some 28), .mv (.tmp 3), none⟩, ⟨(some 29), .bin .geq (.tmp 27) (.tmp 28), none⟩])
 (.cond (.tmp 29) (.ops [⟨(some 30), .mv (.tmp 12), none⟩, ⟨(some 10), .mv (.tmp 30), none⟩])
 .skip))))
 (.ops [⟨(some 31), .bin .add (.tmp 19) (.const (.int .i64 1)), none⟩, ⟨(some 19), .mv (.tmp 31), none⟩])))))))
 (.seq (.ops [⟨(some 32), .mv (.tmp 10), none⟩, ⟨(some 33), .mv (.tmp 10), none⟩, ⟨(some 34), .bin .neq (.tmp 33) (.const (.int .i64 0)), none⟩, ⟨(some 8), .mv (.tmp 32), none⟩, ⟨(some 9), .mv (.tmp 34), none⟩])
 .ret)))),
 35, [.tmp 8, .tmp 9]⟩
theorem low18 : lowerFn Tryd.prog Tryd.f18 = some L18 := by kernel_rfl
noncomputable def G18 (B : OH) : Nat → Cs
  | 21 => V21 B
  | _ => fun _ _ _ => none
theorem G18_21 {B : OH} : G18 B 21 = V21 B := rfl
theorem sG18 {w0 : World} {B : OH} : SoundG Tryd.prog w0 B { f := G18 B } := .of fun k => by
  unfold G18
  split
  · exact .inr ⟨en21, sV21⟩
  · exact .inl fun _ _ _ => rfl
theorem en18 : Enter Tryd.prog 18 := .of Tryd.func18 (by kernel_rfl) (by kernel_rfl)
noncomputable def T18 (B : OH) : Cs := callF B { f := G18 B } 1300 L18
theorem sT18 {w0 : World} {B : OH} : SoundC Tryd.prog w0 B 18 (T18 B) := callF_sound mixedOrders sG18 1300 Tryd.func18 low18
noncomputable def V18 (B : OH) : Cs := T18 B
theorem sV18 {w0 : World} {B : OH} : SoundC Tryd.prog w0 B 18 (V18 B) := sT18
structure K18 (v vp : Value) (key : Int) (b n j : Nat) (ts : List Value) : Prop where
  l : ts.length = 35
  t0 : gt ts 0 = v
  t3 : gt ts 3 = .int .u64 key
  t10 : gt ts 10 = .int .i64 (b : Int)
  t17 : gt ts 17 = vp
  t18 : gt ts 18 = .int .i64 (n : Int)
  t19 : gt ts 19 = .int .i64 (j : Int)
set_option maxHeartbeats 8000000 in
theorem next18 {B : OH} {H : HL} {N : St} {v u : Value} {K : List Int} {root key : Int} {links : List P2} (hT : Tab B) (hN : good B H N) (hv : SlR w1 1 B H v K) (hK : U64s K) (hu : SlR p2 2 B H u links) :
    ∃ H' N', V18 B [v, .int .i64 root, u, .int .u64 key] H N = some (.ret (.tuple #[.int .i64 (nxt K root links key : Int), .bool (decide (nxt K root links key ≠ 0))]), H', N') ∧ good B H' N' ∧ Fr H H' := by
  have hB := good_B hN
  have hR := good_rdB hN
  have hI := beqN hN.1.1
  have hvc : v.cells = #[v] := by obtain ⟨a, c, rfl, _⟩ := hv; rfl
  have huc : u.cells = #[u] := by obtain ⟨a, c, rfl, _⟩ := hu; rfl
  obtain ⟨vp, H1, N1, ep, g1, f1', sp⟩ := path21 (root := root) (key := key) hT hN hv hK hu hvc huc
  obtain ⟨P, hP, hPb, hPl⟩ : ∃ P : List Nat, (if rOk K root links = true then (Pth K key 0 K.length).map iC else []) = P.map iC ∧ (∀ s ∈ P, 1 ≤ s ∧ s ≤ K.length) ∧ nxt K root links key = bst K key P P.length ∧ P.length ≤ 256 := by
    by_cases h : rOk K root links = true
    · refine ⟨Pth K key 0 K.length, by rw [if_pos h], fun s hs => by have := Pth_b K key K.length 0 s hs; omega, by unfold nxt; rw [if_pos h], ?_⟩
      have h1 := Pth_len K key K.length 0
      have h2 := h
      unfold rOk at h2
      simp only [Bool.and_eq_true, decide_eq_true_eq] at h2
      have := (bErr_0 h2.1.1).1
      omega
    · exact ⟨[], by rw [if_neg h]; rfl, fun s hs => (by cases hs), by unfold nxt; rw [if_neg h]; rfl, by simp⟩
  obtain ⟨hPn, hPl⟩ := hPl
  rw [hP] at sp
  rw [hPn]
  have rp := sp.rd f1_len
  have hlp := sp.len
  rw [List.length_map] at hlp
  unfold V18
  simp -implicitDefEqProofs (maxSteps := 10000000) (disch := omega) only [T18, L18, G18_21, hB, hR, hI, lenV_sl, Int.toNat_natCast, bft, btf, gtst, st_len, ep, hlp, pad, e_skip, e_ops, e_draw, e_fork, shg_n, shg_c, shg_g, shg_r, d_none, d_nil, d_cons, d_ite, h_none, h_nil, h_cons, h_ite, eqS_same, lightV, e_seq, e_cond, e_block, e_exit, e_ret, s_normal, s_ret, s_exit, s_none, s_ite, b_normal, b_ret, b_exit, b_none, b_ite, c_bool, x_none, x_nil, x_cons, x_ite, p_some, p_none, p_ite, pt_some, pt_none, pv_some, pv_none, pv_ite, w_none, w_some, i_bool, i_undef, bt, bf, v_tmp, v_const, v_global, v_func, evs, f_normal, f_ret, f_none, f_ite, r_some, co_some, l_ptr, m_agg, m_one, sh_app, lk_nil, lk_cons, rd_eq, rdO_some, rdO_none, rdN_none, rdL_some, rdL_none, wrB_none, unitR_some, wr_nil, wr_here, wr_skip, k_cells, tk_zero, tk_take, tk_skip, tkC_some, call_func, gt, st, binV, arith, isSh, storeV, all1, idxAV, fieldV, faddrV, iaddrSV, iaddrAV, pickV, convV, unV, eqbV, eqpV, extV, mm2, mmV, nilckV, ress, res1, retV, Value.cells, cond_true, cond_false, Bool.true_or, Bool.false_or, Bool.or_true, Bool.or_false, beq_self_eq_true, if_true, if_false, ite_true, ite_false, decide_true, decide_false, decide_eq_true_eq, reduceIte, Nat.zero_add, Nat.add_zero, and_self, true_and, and_true, List.size_toArray, List.length_cons, List.length_nil, List.append_nil, List.nil_append, Int.toNat_zero, Bool.not_false, Bool.not_true, Bool.not_not, Bool.false_eq_true, Bool.true_eq_false, reduceCtorEq, Int.reduceLT, Int.reduceLE, Int.reduceToNat, Int.reduceAdd, Int.reduceSub, Int.reduceMul, Int.reduceNeg, Nat.reduceMul, Nat.reduceAdd, Nat.reduceSub, Nat.reduceBEq, Nat.reduceEqDiff, Nat.reduceLT, Nat.reduceLeDiff, Int.reduceBEq, Int.reduceEq, Nat.reducePow, Int.reducePow, IntWalk.i64_in, IntKind.bits, eqAV, eqL, leafEq, andO, fillV, buildSV, List.getElem?_toArray, List.getElem?_cons_zero, List.getElem?_cons_succ, List.getElem?_nil, Int.reduceGT, Int.reduceGE, Int.reduceBNe, Bool.true_and, Bool.and_true, Bool.false_and, Bool.and_false, Bool.and_self, IntWalk.u64_in, Int.cast_ofNat_Int, callF1, pad16, pad_0, pad_1, pad_2, pad_3, pad_4, pad_5, pad_6, pad_7, pad_8, pad_9, pad_10, pad_11, pad_12, pad_13, pad_14, pad_15, gc0, gc1, gc2, gc3, gc4, gc5, gc6, gc7, gc8, gc9, gc10, gc11, gc12, gc13, gc14, gc15, gcS, sc0, sc1, sc2, sc3, sc4, sc5, sc6, sc7, sc8, sc9, sc10, sc11, sc12, sc13, sc14, sc15, scS, List.drop_succ_cons, List.drop_nil, x_pan, s_pan, b_pan, pE_ret, pE_pan, pE_none, pE_ite, pvE_some, pvE_none, pvE_ite, rv_some, rv_none, rv_ite, oR_ret, t_mv, t_pick, t_alloc, t_box, t_build, t_buildS, t_load, t_store, t_nilck, t_bin, t_eqb, t_eqA, t_eqp, t_un, t_conv, t_field, t_idxA, t_faddr, t_iaddrS, t_iaddrA, t_ext, t_len, t_mm, t_call, t_ifc, t_fn, t_slc, t_slcA, t_slcT, t_tass, t_isn, t_mks, t_app, t_pan, panE_i, optE_none, optE_some, bnd_none, bnd_int, slA_none, slA_some, appR_some, appOld_cells, newsV_s, newsV_n, lenS_s, appV_nil, appV_some, mksV_i, sh_c, sh_g, f_pan, endD_ret, dfr_normal, dfr_ret, dfr_pan, restD_normal, callD1, callC1, tassV, isnV, slcV, slcAV, slcTV, slcB, appNew, Option.bind_some, Option.bind_none, d_pan, h_pan, wrH_eq, wrX_cells, wrU_some, upH_nil, upH_cons, lk_upH, effR_some, effR_none, effR_ite, Option.isNone_none, Option.isNone_some, slA_zero, call_yield, e_range, it_func, wy_same, y_call, isLp_self, beg_normal, end_normal, end_ret, end_exit, end_ite, aft_ret, aft_ready, aft_done, aft_exit, setP_cons, setP_nil, sh_r, t_mkmap, t_mlook, t_mupd, t_mdel, mapF_some, lookF_some, setM_some, lookR_t, lookR_n, lookR_f, lookR_fn, lookV, mupdV, mdelV, mkM]
  generalize hX : exec B _ _ (LC.loop _) _ = o
  have hO : Ok o (fun x s => x = .exit 0 ∧ s.H = H1 ∧ s.N = N1 ∧ K18 v vp key (bst K key P P.length) P.length P.length s.t) := by
    rw [← hX]
    refine loop_rule (n0 := 60) (fun q s => ∃ ts, ∃ j : Nat, s = ⟨ts, H1, N1⟩ ∧ K18 v vp key (bst K key P j) P.length j ts ∧ j ≤ P.length ∧ q = P.length - j) _ ?_ P.length _ ⟨_, 0, rfl, ⟨rfl, rfl, rfl, rfl, rfl, rfl, rfl⟩, by omega, rfl⟩ _ (by omega)
    clear hX
    rintro z q s ⟨ts, j, rfl, kp, hj, rfl⟩
    have hB := good_B g1
    have hR := good_rdB g1
    have hI := beqN g1.1.1
    have hc1 : ((j + 1 : Nat) : Int) = (j : Int) + 1 := by omega
    by_cases hin : j < P.length
    case neg =>
      obtain rfl : j = P.length := by omega
      simp -implicitDefEqProofs (maxSteps := 10000000) (disch := omega) only [T18, L18, G18_21, hB, hR, hI, kp.l, kp.t0, kp.t3, kp.t10, kp.t17, kp.t18, kp.t19, lenV_sl, Int.toNat_natCast, bft, btf, gtst, st_len, Int.lt_irrefl, pad, e_skip, e_ops, e_draw, e_fork, shg_n, shg_c, shg_g, shg_r, d_none, d_nil, d_cons, d_ite, h_none, h_nil, h_cons, h_ite, eqS_same, lightV, e_seq, e_cond, e_block, e_exit, e_ret, s_normal, s_ret, s_exit, s_none, s_ite, b_normal, b_ret, b_exit, b_none, b_ite, c_bool, x_none, x_nil, x_cons, x_ite, p_some, p_none, p_ite, pt_some, pt_none, pv_some, pv_none, pv_ite, w_none, w_some, i_bool, i_undef, bt, bf, v_tmp, v_const, v_global, v_func, evs, f_normal, f_ret, f_none, f_ite, r_some, co_some, l_ptr, m_agg, m_one, sh_app, lk_nil, lk_cons, rd_eq, rdO_some, rdO_none, rdN_none, rdL_some, rdL_none, wrB_none, unitR_some, wr_nil, wr_here, wr_skip, k_cells, tk_zero, tk_take, tk_skip, tkC_some, call_func, gt, st, binV, arith, isSh, storeV, all1, idxAV, fieldV, faddrV, iaddrSV, iaddrAV, pickV, convV, unV, eqbV, eqpV, extV, mm2, mmV, nilckV, ress, res1, retV, Value.cells, cond_true, cond_false, Bool.true_or, Bool.false_or, Bool.or_true, Bool.or_false, beq_self_eq_true, if_true, if_false, ite_true, ite_false, decide_true, decide_false, decide_eq_true_eq, reduceIte, Nat.zero_add, Nat.add_zero, and_self, true_and, and_true, List.size_toArray, List.length_cons, List.length_nil, List.append_nil, List.nil_append, Int.toNat_zero, Bool.not_false, Bool.not_true, Bool.not_not, Bool.false_eq_true, Bool.true_eq_false, reduceCtorEq, Int.reduceLT, Int.reduceLE, Int.reduceToNat, Int.reduceAdd, Int.reduceSub, Int.reduceMul, Int.reduceNeg, Nat.reduceMul, Nat.reduceAdd, Nat.reduceSub, Nat.reduceBEq, Nat.reduceEqDiff, Nat.reduceLT, Nat.reduceLeDiff, Int.reduceBEq, Int.reduceEq, Nat.reducePow, Int.reducePow, IntWalk.i64_in, IntKind.bits, eqAV, eqL, leafEq, andO, fillV, buildSV, List.getElem?_toArray, List.getElem?_cons_zero, List.getElem?_cons_succ, List.getElem?_nil, Int.reduceGT, Int.reduceGE, Int.reduceBNe, Bool.true_and, Bool.and_true, Bool.false_and, Bool.and_false, Bool.and_self, IntWalk.u64_in, Int.cast_ofNat_Int, callF1, pad16, pad_0, pad_1, pad_2, pad_3, pad_4, pad_5, pad_6, pad_7, pad_8, pad_9, pad_10, pad_11, pad_12, pad_13, pad_14, pad_15, gc0, gc1, gc2, gc3, gc4, gc5, gc6, gc7, gc8, gc9, gc10, gc11, gc12, gc13, gc14, gc15, gcS, sc0, sc1, sc2, sc3, sc4, sc5, sc6, sc7, sc8, sc9, sc10, sc11, sc12, sc13, sc14, sc15, scS, List.drop_succ_cons, List.drop_nil, x_pan, s_pan, b_pan, pE_ret, pE_pan, pE_none, pE_ite, pvE_some, pvE_none, pvE_ite, rv_some, rv_none, rv_ite, oR_ret, t_mv, t_pick, t_alloc, t_box, t_build, t_buildS, t_load, t_store, t_nilck, t_bin, t_eqb, t_eqA, t_eqp, t_un, t_conv, t_field, t_idxA, t_faddr, t_iaddrS, t_iaddrA, t_ext, t_len, t_mm, t_call, t_ifc, t_fn, t_slc, t_slcA, t_slcT, t_tass, t_isn, t_mks, t_app, t_pan, panE_i, optE_none, optE_some, bnd_none, bnd_int, slA_none, slA_some, appR_some, appOld_cells, newsV_s, newsV_n, lenS_s, appV_nil, appV_some, mksV_i, sh_c, sh_g, f_pan, endD_ret, dfr_normal, dfr_ret, dfr_pan, restD_normal, callD1, callC1, tassV, isnV, slcV, slcAV, slcTV, slcB, appNew, Option.bind_some, Option.bind_none, d_pan, h_pan, wrH_eq, wrX_cells, wrU_some, upH_nil, upH_cons, lk_upH, effR_some, effR_none, effR_ite, Option.isNone_none, Option.isNone_some, slA_zero, call_yield, e_range, it_func, wy_same, y_call, isLp_self, beg_normal, end_normal, end_ret, end_exit, end_ite, aft_ret, aft_ready, aft_done, aft_exit, setP_cons, setP_nil, sh_r, t_mkmap, t_mlook, t_mupd, t_mdel, mapF_some, lookF_some, setM_some, lookR_t, lookR_n, lookR_f, lookR_fn, lookV, mupdV, mdelV, mkM]
      refine ok_some (.inr ⟨by simp, rfl, rfl, rfl, ⟨?_, ?_, ?_, ?_, ?_, ?_, ?_⟩⟩)
      all_goals simp (maxSteps := 10000000) (disch := omega) only [kp.l, kp.t0, kp.t3, kp.t10, kp.t17, kp.t18, kp.t19, lenV_sl, Int.toNat_natCast, bft, btf, gtst, st_len, cond_true, cond_false, Nat.reduceBEq, Nat.reduceLT, decide_true, beq_self_eq_true, if_true, if_false]
    have hin' : (j : Int) < (P.length : Int) := by omega
    have j0 : (0 : Int) ≤ (j : Int) := by omega
    have hs := hPb (P.getD j 0) (List.mem_of_getElem? (some_getD (d := 0) hin))
    obtain ⟨bp, op, cp, rfl, _, rpp⟩ := rp.at (by rw [List.length_map]; omega)
    obtain ⟨bv, ov, cv, rfl, _, rv⟩ := hv.at (by omega)
    have qp : rdO H1 B bp (op + j) 1 (rdB B bp (op + j) 1) = some [.int .i64 ((P.getD j 0 : Nat) : Int)] := by
      have := rpp H1 Fr.refl j 0 1 0 (by rw [List.length_map]; exact hin) (by omega)
      rw [Nat.mul_one, Nat.add_zero] at this
      rw [mapD hin] at this
      exact this.trans rfl
    have hbs : bst K key P (j + 1) = if K.getD (P.getD j 0 - 1) 0 ≥ key then P.getD j 0 else bst K key P j := rfl
    have hjl : j < (P.map iC).length := by rw [List.length_map]; exact hin
    generalize P.getD j 0 = t at qp hs hbs
    have rk : rdO H1 B bv (ov + (t - 1)) 1 (rdB B bv (ov + (t - 1)) 1) = some [.int .u64 (K.getD (t - 1) 0)] := by
      have := rv H1 f1' (t - 1) 0 1 0 (by omega) (by omega)
      rw [Nat.mul_one, Nat.add_zero] at this
      exact this.trans rfl
    have t1 : (t : Int) - 1 = ((t - 1 : Nat) : Int) := by omega
    have t2 : (0 : Int) ≤ ((t - 1 : Nat) : Int) := by omega
    have t3 : t - 1 < K.length := by omega
    have hKl : K.length ≤ 9223372036854775807 := by
      by_cases h : rOk K root links = true
      · unfold rOk at h
        simp only [Bool.and_eq_true, decide_eq_true_eq] at h
        have := (bErr_0 h.1.1).1; omega
      · rw [if_neg h] at hP
        have : P.length = 0 := by rw [← List.length_map (f := iC), ← hP]; rfl
        omega
    have t4 : IntKind.i64.wrap ((t : Int) - 1) = ((t - 1 : Nat) : Int) := by rw [IntWalk.i64_in _ (by omega)]; exact t1
    generalize K.getD (t - 1) 0 = kt at rk hbs
    by_cases hge : kt ≥ key
    · rw [if_pos hge] at hbs
      simp -implicitDefEqProofs (maxSteps := 10000000) (disch := omega) only [T18, L18, G18_21, hB, hR, hI, kp.l, kp.t0, kp.t3, kp.t10, kp.t17, kp.t18, kp.t19, lenV_sl, Int.toNat_natCast, bft, btf, gtst, st_len, hin, hin', hjl, j0, qp, t1, t2, t3, t4, rk, hge, Nat.mul_one, pad, e_skip, e_ops, e_draw, e_fork, shg_n, shg_c, shg_g, shg_r, d_none, d_nil, d_cons, d_ite, h_none, h_nil, h_cons, h_ite, eqS_same, lightV, e_seq, e_cond, e_block, e_exit, e_ret, s_normal, s_ret, s_exit, s_none, s_ite, b_normal, b_ret, b_exit, b_none, b_ite, c_bool, x_none, x_nil, x_cons, x_ite, p_some, p_none, p_ite, pt_some, pt_none, pv_some, pv_none, pv_ite, w_none, w_some, i_bool, i_undef, bt, bf, v_tmp, v_const, v_global, v_func, evs, f_normal, f_ret, f_none, f_ite, r_some, co_some, l_ptr, m_agg, m_one, sh_app, lk_nil, lk_cons, rd_eq, rdO_some, rdO_none, rdN_none, rdL_some, rdL_none, wrB_none, unitR_some, wr_nil, wr_here, wr_skip, k_cells, tk_zero, tk_take, tk_skip, tkC_some, call_func, gt, st, binV, arith, isSh, storeV, all1, idxAV, fieldV, faddrV, iaddrSV, iaddrAV, pickV, convV, unV, eqbV, eqpV, extV, mm2, mmV, nilckV, ress, res1, retV, Value.cells, cond_true, cond_false, Bool.true_or, Bool.false_or, Bool.or_true, Bool.or_false, beq_self_eq_true, if_true, if_false, ite_true, ite_false, decide_true, decide_false, decide_eq_true_eq, reduceIte, Nat.zero_add, Nat.add_zero, and_self, true_and, and_true, List.size_toArray, List.length_cons, List.length_nil, List.append_nil, List.nil_append, Int.toNat_zero, Bool.not_false, Bool.not_true, Bool.not_not, Bool.false_eq_true, Bool.true_eq_false, reduceCtorEq, Int.reduceLT, Int.reduceLE, Int.reduceToNat, Int.reduceAdd, Int.reduceSub, Int.reduceMul, Int.reduceNeg, Nat.reduceMul, Nat.reduceAdd, Nat.reduceSub, Nat.reduceBEq, Nat.reduceEqDiff, Nat.reduceLT, Nat.reduceLeDiff, Int.reduceBEq, Int.reduceEq, Nat.reducePow, Int.reducePow, IntWalk.i64_in, IntKind.bits, eqAV, eqL, leafEq, andO, fillV, buildSV, List.getElem?_toArray, List.getElem?_cons_zero, List.getElem?_cons_succ, List.getElem?_nil, Int.reduceGT, Int.reduceGE, Int.reduceBNe, Bool.true_and, Bool.and_true, Bool.false_and, Bool.and_false, Bool.and_self, IntWalk.u64_in, Int.cast_ofNat_Int, callF1, pad16, pad_0, pad_1, pad_2, pad_3, pad_4, pad_5, pad_6, pad_7, pad_8, pad_9, pad_10, pad_11, pad_12, pad_13, pad_14, pad_15, gc0, gc1, gc2, gc3, gc4, gc5, gc6, gc7, gc8, gc9, gc10, gc11, gc12, gc13, gc14, gc15, gcS, sc0, sc1, sc2, sc3, sc4, sc5, sc6, sc7, sc8, sc9, sc10, sc11, sc12, sc13, sc14, sc15, scS, List.drop_succ_cons, List.drop_nil, x_pan, s_pan, b_pan, pE_ret, pE_pan, pE_none, pE_ite, pvE_some, pvE_none, pvE_ite, rv_some, rv_none, rv_ite, oR_ret, t_mv, t_pick, t_alloc, t_box, t_build, t_buildS, t_load, t_store, t_nilck, t_bin, t_eqb, t_eqA, t_eqp, t_un, t_conv, t_field, t_idxA, t_faddr, t_iaddrS, t_iaddrA, t_ext, t_len, t_mm, t_call, t_ifc, t_fn, t_slc, t_slcA, t_slcT, t_tass, t_isn, t_mks, t_app, t_pan, panE_i, optE_none, optE_some, bnd_none, bnd_int, slA_none, slA_some, appR_some, appOld_cells, newsV_s, newsV_n, lenS_s, appV_nil, appV_some, mksV_i, sh_c, sh_g, f_pan, endD_ret, dfr_normal, dfr_ret, dfr_pan, restD_normal, callD1, callC1, tassV, isnV, slcV, slcAV, slcTV, slcB, appNew, Option.bind_some, Option.bind_none, d_pan, h_pan, wrH_eq, wrX_cells, wrU_some, upH_nil, upH_cons, lk_upH, effR_some, effR_none, effR_ite, Option.isNone_none, Option.isNone_some, slA_zero, call_yield, e_range, it_func, wy_same, y_call, isLp_self, beg_normal, end_normal, end_ret, end_exit, end_ite, aft_ret, aft_ready, aft_done, aft_exit, setP_cons, setP_nil, sh_r, t_mkmap, t_mlook, t_mupd, t_mdel, mapF_some, lookF_some, setM_some, lookR_t, lookR_n, lookR_f, lookR_fn, lookV, mupdV, mdelV, mkM]
      refine ok_some (.inl ⟨rfl, P.length - (j + 1), by omega, _, j + 1, rfl, ⟨?_, ?_, ?_, ?_, ?_, ?_, ?_⟩, by omega, rfl⟩)
      all_goals simp (maxSteps := 10000000) (disch := omega) only [kp.l, kp.t0, kp.t3, kp.t10, kp.t17, kp.t18, kp.t19, lenV_sl, Int.toNat_natCast, bft, btf, gtst, st_len, hc1, hbs, cond_true, cond_false, Nat.reduceBEq, Nat.reduceLT, decide_true, beq_self_eq_true, if_true, if_false]
    · rw [if_neg hge] at hbs
      simp -implicitDefEqProofs (maxSteps := 10000000) (disch := omega) only [T18, L18, G18_21, hB, hR, hI, kp.l, kp.t0, kp.t3, kp.t10, kp.t17, kp.t18, kp.t19, lenV_sl, Int.toNat_natCast, bft, btf, gtst, st_len, hin, hin', hjl, j0, qp, t1, t2, t3, t4, rk, hge, Nat.mul_one, pad, e_skip, e_ops, e_draw, e_fork, shg_n, shg_c, shg_g, shg_r, d_none, d_nil, d_cons, d_ite, h_none, h_nil, h_cons, h_ite, eqS_same, lightV, e_seq, e_cond, e_block, e_exit, e_ret, s_normal, s_ret, s_exit, s_none, s_ite, b_normal, b_ret, b_exit, b_none, b_ite, c_bool, x_none, x_nil, x_cons, x_ite, p_some, p_none, p_ite, pt_some, pt_none, pv_some, pv_none, pv_ite, w_none, w_some, i_bool, i_undef, bt, bf, v_tmp, v_const, v_global, v_func, evs, f_normal, f_ret, f_none, f_ite, r_some, co_some, l_ptr, m_agg, m_one, sh_app, lk_nil, lk_cons, rd_eq, rdO_some, rdO_none, rdN_none, rdL_some, rdL_none, wrB_none, unitR_some, wr_nil, wr_here, wr_skip, k_cells, tk_zero, tk_take, tk_skip, tkC_some, call_func, gt, st, binV, arith, isSh, storeV, all1, idxAV, fieldV, faddrV, iaddrSV, iaddrAV, pickV, convV, unV, eqbV, eqpV, extV, mm2, mmV, nilckV, ress, res1, retV, Value.cells, cond_true, cond_false, Bool.true_or, Bool.false_or, Bool.or_true, Bool.or_false, beq_self_eq_true, if_true, if_false, ite_true, ite_false, decide_true, decide_false, decide_eq_true_eq, reduceIte, Nat.zero_add, Nat.add_zero, and_self, true_and, and_true, List.size_toArray, List.length_cons, List.length_nil, List.append_nil, List.nil_append, Int.toNat_zero, Bool.not_false, Bool.not_true, Bool.not_not, Bool.false_eq_true, Bool.true_eq_false, reduceCtorEq, Int.reduceLT, Int.reduceLE, Int.reduceToNat, Int.reduceAdd, Int.reduceSub, Int.reduceMul, Int.reduceNeg, Nat.reduceMul, Nat.reduceAdd, Nat.reduceSub, Nat.reduceBEq, Nat.reduceEqDiff, Nat.reduceLT, Nat.reduceLeDiff, Int.reduceBEq, Int.reduceEq, Nat.reducePow, Int.reducePow, IntWalk.i64_in, IntKind.bits, eqAV, eqL, leafEq, andO, fillV, buildSV, List.getElem?_toArray, List.getElem?_cons_zero, List.getElem?_cons_succ, List.getElem?_nil, Int.reduceGT, Int.reduceGE, Int.reduceBNe, Bool.true_and, Bool.and_true, Bool.false_and, Bool.and_false, Bool.and_self, IntWalk.u64_in, Int.cast_ofNat_Int, callF1, pad16, pad_0, pad_1, pad_2, pad_3, pad_4, pad_5, pad_6, pad_7, pad_8, pad_9, pad_10, pad_11, pad_12, pad_13, pad_14, pad_15, gc0, gc1, gc2, gc3, gc4, gc5, gc6, gc7, gc8, gc9, gc10, gc11, gc12, gc13, gc14, gc15, gcS, sc0, sc1, sc2, sc3, sc4, sc5, sc6, sc7, sc8, sc9, sc10, sc11, sc12, sc13, sc14, sc15, scS, List.drop_succ_cons, List.drop_nil, x_pan, s_pan, b_pan, pE_ret, pE_pan, pE_none, pE_ite, pvE_some, pvE_none, pvE_ite, rv_some, rv_none, rv_ite, oR_ret, t_mv, t_pick, t_alloc, t_box, t_build, t_buildS, t_load, t_store, t_nilck, t_bin, t_eqb, t_eqA, t_eqp, t_un, t_conv, t_field, t_idxA, t_faddr, t_iaddrS, t_iaddrA, t_ext, t_len, t_mm, t_call, t_ifc, t_fn, t_slc, t_slcA, t_slcT, t_tass, t_isn, t_mks, t_app, t_pan, panE_i, optE_none, optE_some, bnd_none, bnd_int, slA_none, slA_some, appR_some, appOld_cells, newsV_s, newsV_n, lenS_s, appV_nil, appV_some, mksV_i, sh_c, sh_g, f_pan, endD_ret, dfr_normal, dfr_ret, dfr_pan, restD_normal, callD1, callC1, tassV, isnV, slcV, slcAV, slcTV, slcB, appNew, Option.bind_some, Option.bind_none, d_pan, h_pan, wrH_eq, wrX_cells, wrU_some, upH_nil, upH_cons, lk_upH, effR_some, effR_none, effR_ite, Option.isNone_none, Option.isNone_some, slA_zero, call_yield, e_range, it_func, wy_same, y_call, isLp_self, beg_normal, end_normal, end_ret, end_exit, end_ite, aft_ret, aft_ready, aft_done, aft_exit, setP_cons, setP_nil, sh_r, t_mkmap, t_mlook, t_mupd, t_mdel, mapF_some, lookF_some, setM_some, lookR_t, lookR_n, lookR_f, lookR_fn, lookV, mupdV, mdelV, mkM]
      refine ok_some (.inl ⟨rfl, P.length - (j + 1), by omega, _, j + 1, rfl, ⟨?_, ?_, ?_, ?_, ?_, ?_, ?_⟩, by omega, rfl⟩)
      all_goals simp (maxSteps := 10000000) (disch := omega) only [kp.l, kp.t0, kp.t3, kp.t10, kp.t17, kp.t18, kp.t19, lenV_sl, Int.toNat_natCast, bft, btf, gtst, st_len, hc1, hbs, cond_true, cond_false, Nat.reduceBEq, Nat.reduceLT, decide_true, beq_self_eq_true, if_true, if_false]
  obtain ⟨x, ⟨ts, H2, N2⟩, rfl, rfl, rfl, rfl, kp⟩ := hO
  simp only at kp
  generalize bst K key P P.length = b at kp
  by_cases hb : b = 0
  · subst hb
    have : decide ((0 : Nat) ≠ 0) = false := rfl
    rw [this]
    simp -implicitDefEqProofs (maxSteps := 10000000) (disch := omega) only [T18, L18, G18_21, hB, hR, hI, kp.l, kp.t0, kp.t3, kp.t10, kp.t17, kp.t18, kp.t19, lenV_sl, Int.toNat_natCast, bft, btf, gtst, st_len, Int.cast_ofNat_Int, pad, e_skip, e_ops, e_draw, e_fork, shg_n, shg_c, shg_g, shg_r, d_none, d_nil, d_cons, d_ite, h_none, h_nil, h_cons, h_ite, eqS_same, lightV, e_seq, e_cond, e_block, e_exit, e_ret, s_normal, s_ret, s_exit, s_none, s_ite, b_normal, b_ret, b_exit, b_none, b_ite, c_bool, x_none, x_nil, x_cons, x_ite, p_some, p_none, p_ite, pt_some, pt_none, pv_some, pv_none, pv_ite, w_none, w_some, i_bool, i_undef, bt, bf, v_tmp, v_const, v_global, v_func, evs, f_normal, f_ret, f_none, f_ite, r_some, co_some, l_ptr, m_agg, m_one, sh_app, lk_nil, lk_cons, rd_eq, rdO_some, rdO_none, rdN_none, rdL_some, rdL_none, wrB_none, unitR_some, wr_nil, wr_here, wr_skip, k_cells, tk_zero, tk_take, tk_skip, tkC_some, call_func, gt, st, binV, arith, isSh, storeV, all1, idxAV, fieldV, faddrV, iaddrSV, iaddrAV, pickV, convV, unV, eqbV, eqpV, extV, mm2, mmV, nilckV, ress, res1, retV, Value.cells, cond_true, cond_false, Bool.true_or, Bool.false_or, Bool.or_true, Bool.or_false, beq_self_eq_true, if_true, if_false, ite_true, ite_false, decide_true, decide_false, decide_eq_true_eq, reduceIte, Nat.zero_add, Nat.add_zero, and_self, true_and, and_true, List.size_toArray, List.length_cons, List.length_nil, List.append_nil, List.nil_append, Int.toNat_zero, Bool.not_false, Bool.not_true, Bool.not_not, Bool.false_eq_true, Bool.true_eq_false, reduceCtorEq, Int.reduceLT, Int.reduceLE, Int.reduceToNat, Int.reduceAdd, Int.reduceSub, Int.reduceMul, Int.reduceNeg, Nat.reduceMul, Nat.reduceAdd, Nat.reduceSub, Nat.reduceBEq, Nat.reduceEqDiff, Nat.reduceLT, Nat.reduceLeDiff, Int.reduceBEq, Int.reduceEq, Nat.reducePow, Int.reducePow, IntWalk.i64_in, IntKind.bits, eqAV, eqL, leafEq, andO, fillV, buildSV, List.getElem?_toArray, List.getElem?_cons_zero, List.getElem?_cons_succ, List.getElem?_nil, Int.reduceGT, Int.reduceGE, Int.reduceBNe, Bool.true_and, Bool.and_true, Bool.false_and, Bool.and_false, Bool.and_self, IntWalk.u64_in, Int.cast_ofNat_Int, callF1, pad16, pad_0, pad_1, pad_2, pad_3, pad_4, pad_5, pad_6, pad_7, pad_8, pad_9, pad_10, pad_11, pad_12, pad_13, pad_14, pad_15, gc0, gc1, gc2, gc3, gc4, gc5, gc6, gc7, gc8, gc9, gc10, gc11, gc12, gc13, gc14, gc15, gcS, sc0, sc1, sc2, sc3, sc4, sc5, sc6, sc7, sc8, sc9, sc10, sc11, sc12, sc13, sc14, sc15, scS, List.drop_succ_cons, List.drop_nil, x_pan, s_pan, b_pan, pE_ret, pE_pan, pE_none, pE_ite, pvE_some, pvE_none, pvE_ite, rv_some, rv_none, rv_ite, oR_ret, t_mv, t_pick, t_alloc, t_box, t_build, t_buildS, t_load, t_store, t_nilck, t_bin, t_eqb, t_eqA, t_eqp, t_un, t_conv, t_field, t_idxA, t_faddr, t_iaddrS, t_iaddrA, t_ext, t_len, t_mm, t_call, t_ifc, t_fn, t_slc, t_slcA, t_slcT, t_tass, t_isn, t_mks, t_app, t_pan, panE_i, optE_none, optE_some, bnd_none, bnd_int, slA_none, slA_some, appR_some, appOld_cells, newsV_s, newsV_n, lenS_s, appV_nil, appV_some, mksV_i, sh_c, sh_g, f_pan, endD_ret, dfr_normal, dfr_ret, dfr_pan, restD_normal, callD1, callC1, tassV, isnV, slcV, slcAV, slcTV, slcB, appNew, Option.bind_some, Option.bind_none, d_pan, h_pan, wrH_eq, wrX_cells, wrU_some, upH_nil, upH_cons, lk_upH, effR_some, effR_none, effR_ite, Option.isNone_none, Option.isNone_some, slA_zero, call_yield, e_range, it_func, wy_same, y_call, isLp_self, beg_normal, end_normal, end_ret, end_exit, end_ite, aft_ret, aft_ready, aft_done, aft_exit, setP_cons, setP_nil, sh_r, t_mkmap, t_mlook, t_mupd, t_mdel, mapF_some, lookF_some, setM_some, lookR_t, lookR_n, lookR_f, lookR_fn, lookV, mupdV, mdelV, mkM]
    exact ⟨_, _, rfl, g1, f1'⟩
  · have hd : decide (b ≠ 0) = true := decide_eq_true hb
    have hb' : ((b : Int) != 0) = true := by simp; omega
    rw [hd]
    simp -implicitDefEqProofs (maxSteps := 10000000) (disch := omega) only [T18, L18, G18_21, hB, hR, hI, kp.l, kp.t0, kp.t3, kp.t10, kp.t17, kp.t18, kp.t19, lenV_sl, Int.toNat_natCast, bft, btf, gtst, st_len, hb', pad, e_skip, e_ops, e_draw, e_fork, shg_n, shg_c, shg_g, shg_r, d_none, d_nil, d_cons, d_ite, h_none, h_nil, h_cons, h_ite, eqS_same, lightV, e_seq, e_cond, e_block, e_exit, e_ret, s_normal, s_ret, s_exit, s_none, s_ite, b_normal, b_ret, b_exit, b_none, b_ite, c_bool, x_none, x_nil, x_cons, x_ite, p_some, p_none, p_ite, pt_some, pt_none, pv_some, pv_none, pv_ite, w_none, w_some, i_bool, i_undef, bt, bf, v_tmp, v_const, v_global, v_func, evs, f_normal, f_ret, f_none, f_ite, r_some, co_some, l_ptr, m_agg, m_one, sh_app, lk_nil, lk_cons, rd_eq, rdO_some, rdO_none, rdN_none, rdL_some, rdL_none, wrB_none, unitR_some, wr_nil, wr_here, wr_skip, k_cells, tk_zero, tk_take, tk_skip, tkC_some, call_func, gt, st, binV, arith, isSh, storeV, all1, idxAV, fieldV, faddrV, iaddrSV, iaddrAV, pickV, convV, unV, eqbV, eqpV, extV, mm2, mmV, nilckV, ress, res1, retV, Value.cells, cond_true, cond_false, Bool.true_or, Bool.false_or, Bool.or_true, Bool.or_false, beq_self_eq_true, if_true, if_false, ite_true, ite_false, decide_true, decide_false, decide_eq_true_eq, reduceIte, Nat.zero_add, Nat.add_zero, and_self, true_and, and_true, List.size_toArray, List.length_cons, List.length_nil, List.append_nil, List.nil_append, Int.toNat_zero, Bool.not_false, Bool.not_true, Bool.not_not, Bool.false_eq_true, Bool.true_eq_false, reduceCtorEq, Int.reduceLT, Int.reduceLE, Int.reduceToNat, Int.reduceAdd, Int.reduceSub, Int.reduceMul, Int.reduceNeg, Nat.reduceMul, Nat.reduceAdd, Nat.reduceSub, Nat.reduceBEq, Nat.reduceEqDiff, Nat.reduceLT, Nat.reduceLeDiff, Int.reduceBEq, Int.reduceEq, Nat.reducePow, Int.reducePow, IntWalk.i64_in, IntKind.bits, eqAV, eqL, leafEq, andO, fillV, buildSV, List.getElem?_toArray, List.getElem?_cons_zero, List.getElem?_cons_succ, List.getElem?_nil, Int.reduceGT, Int.reduceGE, Int.reduceBNe, Bool.true_and, Bool.and_true, Bool.false_and, Bool.and_false, Bool.and_self, IntWalk.u64_in, Int.cast_ofNat_Int, callF1, pad16, pad_0, pad_1, pad_2, pad_3, pad_4, pad_5, pad_6, pad_7, pad_8, pad_9, pad_10, pad_11, pad_12, pad_13, pad_14, pad_15, gc0, gc1, gc2, gc3, gc4, gc5, gc6, gc7, gc8, gc9, gc10, gc11, gc12, gc13, gc14, gc15, gcS, sc0, sc1, sc2, sc3, sc4, sc5, sc6, sc7, sc8, sc9, sc10, sc11, sc12, sc13, sc14, sc15, scS, List.drop_succ_cons, List.drop_nil, x_pan, s_pan, b_pan, pE_ret, pE_pan, pE_none, pE_ite, pvE_some, pvE_none, pvE_ite, rv_some, rv_none, rv_ite, oR_ret, t_mv, t_pick, t_alloc, t_box, t_build, t_buildS, t_load, t_store, t_nilck, t_bin, t_eqb, t_eqA, t_eqp, t_un, t_conv, t_field, t_idxA, t_faddr, t_iaddrS, t_iaddrA, t_ext, t_len, t_mm, t_call, t_ifc, t_fn, t_slc, t_slcA, t_slcT, t_tass, t_isn, t_mks, t_app, t_pan, panE_i, optE_none, optE_some, bnd_none, bnd_int, slA_none, slA_some, appR_some, appOld_cells, newsV_s, newsV_n, lenS_s, appV_nil, appV_some, mksV_i, sh_c, sh_g, f_pan, endD_ret, dfr_normal, dfr_ret, dfr_pan, restD_normal, callD1, callC1, tassV, isnV, slcV, slcAV, slcTV, slcB, appNew, Option.bind_some, Option.bind_none, d_pan, h_pan, wrH_eq, wrX_cells, wrU_some, upH_nil, upH_cons, lk_upH, effR_some, effR_none, effR_ite, Option.isNone_none, Option.isNone_some, slA_zero, call_yield, e_range, it_func, wy_same, y_call, isLp_self, beg_normal, end_normal, end_ret, end_exit, end_ite, aft_ret, aft_ready, aft_done, aft_exit, setP_cons, setP_nil, sh_r, t_mkmap, t_mlook, t_mupd, t_mdel, mapF_some, lookF_some, setM_some, lookR_t, lookR_n, lookR_f, lookR_fn, lookV, mupdV, mdelV, mkM]
    exact ⟨_, _, rfl, g1, f1'⟩
end Go.Proofs.YtlkeeckhileedaaDoor
namespace Go.Proofs.YtlkeeckhileedaaDoor
open Go.Proofs.YtlkeeckhileedaaDoor.K Go.ChangeShapes Go.WideShapes Go.ChangeAt Go.RowKit
set_option maxRecDepth 100000
set_option linter.unusedSimpArgs false
set_option linter.unusedVariables false

/-- A key's number; none: 0. -/
noncomputable def fnd (K : List Int) (root : Int) (links : List P2) (key : Int) : Nat := if nxt K root links key ≠ 0 ∧ K.getD (nxt K root links key - 1) 0 = key then nxt K root links key else 0
/-- whitewash/treap.Find -/
def L16 : FnL := ⟨(.seq (.ops [⟨(some 8), .mv (.const (.int .i64 0)), none⟩, ⟨(some 9), .mv (.const (.bool false)), none⟩])
 (.seq (.ops [⟨(some 13), .mv (.tmp 0), none⟩, ⟨(some 14), .mv (.tmp 1), none⟩, ⟨(some 15), .mv (.tmp 2), none⟩, ⟨(some 16), .mv (.tmp 3), none⟩, ⟨(some 17), .call (.func 18) [(.tmp 13), (.tmp 14), (.tmp 15), (.tmp 16)], none⟩, ⟨(some 12), .mv (.tmp 17), none⟩, ⟨(some 18), .ext (.tmp 12) 0, none⟩, ⟨(some 19), .ext (.tmp 12) 1, none⟩, ⟨(some 10), .mv (.tmp 18), none⟩, ⟨(some 11), .mv (.tmp 19), none⟩])
 (.seq (.seq (.ops [⟨(some 20), .mv (.tmp 11), none⟩, ⟨(some 21), .un .not (.tmp 20), none⟩, ⟨(some 22), .mv (.tmp 21), none⟩, ⟨(some 23), .mv (.tmp 0), (some (22, false))⟩, ⟨(some 24), .mv (.tmp 10), (some (22, false))⟩, ⟨(some 25), .bin .sub (.tmp 24) (.const (.int .i64 1)), (some (22, false))⟩, ⟨(some 26), .iaddrS 1 (.tmp 23) (.tmp 25), (some (22, false))⟩, ⟨(some 27), .load false 1 (.tmp 26), (some (22, false))⟩, ⟨(some 28), .mv (.tmp 3), (some (22, false))⟩, ⟨(some 29), .bin .neq (.tmp 27) (.tmp 28), (some (22, false))⟩, ⟨(some 30), .pick (.tmp 22) (.const (.bool true)) (.tmp 29), none⟩])
 (.cond (.tmp 30) (.seq (.ops [⟨(some 8), .mv (.const (.int .i64 0)), none⟩, ⟨(some 9), .mv (.const (.bool false)), none⟩])
 .ret)
 .skip))
 (.seq (.ops [⟨(some 31), .mv (.tmp 10), none⟩, ⟨(some 8), .mv (.tmp 31), none⟩, ⟨(some 9), .mv (.const (.bool true)), none⟩])
 .ret)))),
 32, [.tmp 8, .tmp 9]⟩
theorem low16 : lowerFn Tryd.prog Tryd.f16 = some L16 := by kernel_rfl
noncomputable def G16 (B : OH) : Nat → Cs
  | 18 => V18 B
  | _ => fun _ _ _ => none
theorem G16_18 {B : OH} : G16 B 18 = V18 B := rfl
theorem sG16 {w0 : World} {B : OH} : SoundG Tryd.prog w0 B { f := G16 B } := .of fun k => by
  unfold G16
  split
  · exact .inr ⟨en18, sV18⟩
  · exact .inl fun _ _ _ => rfl
theorem en16 : Enter Tryd.prog 16 := .of Tryd.func16 (by kernel_rfl) (by kernel_rfl)
noncomputable def T16 (B : OH) : Cs := callF B { f := G16 B } 1300 L16
theorem sT16 {w0 : World} {B : OH} : SoundC Tryd.prog w0 B 16 (T16 B) := callF_sound mixedOrders sG16 1300 Tryd.func16 low16
noncomputable def V16 (B : OH) : Cs := T16 B
theorem sV16 {w0 : World} {B : OH} : SoundC Tryd.prog w0 B 16 (V16 B) := sT16
set_option maxHeartbeats 8000000 in
theorem find16 {B : OH} {H : HL} {N : St} {v u : Value} {K : List Int} {root key : Int} {links : List P2} (hT : Tab B) (hN : good B H N) (hv : SlR w1 1 B H v K) (hK : U64s K) (hu : SlR p2 2 B H u links) (hKl : K.length ≤ 9223372036854775807) :
    ∃ H' N', V16 B [v, .int .i64 root, u, .int .u64 key] H N = some (.ret (.tuple #[.int .i64 (fnd K root links key : Int), .bool (decide (fnd K root links key ≠ 0))]), H', N') ∧ good B H' N' ∧ Fr H H' := by
  have hB := good_B hN
  have hR := good_rdB hN
  have hI := beqN hN.1.1
  obtain ⟨H1, N1, en, g1, f1'⟩ := next18 (root := root) (key := key) hT hN hv hK hu
  have hb := nxt_b K root links key
  have hf : fnd K root links key = if nxt K root links key ≠ 0 ∧ K.getD (nxt K root links key - 1) 0 = key then nxt K root links key else 0 := rfl
  unfold V16
  generalize nxt K root links key = t at en hb hf
  rw [hf]
  by_cases ht : t = 0
  · subst ht
    have h1 : decide ((0 : Nat) ≠ 0) = false := rfl
    rw [if_neg (fun h => h.1 rfl)]
    simp only [h1] at en ⊢
    simp -implicitDefEqProofs (maxSteps := 10000000) (disch := omega) only [T16, L16, G16_18, hB, hR, hI, lenV_sl, Int.toNat_natCast, bft, btf, gtst, st_len, en, Int.cast_ofNat_Int, pad, e_skip, e_ops, e_draw, e_fork, shg_n, shg_c, shg_g, shg_r, d_none, d_nil, d_cons, d_ite, h_none, h_nil, h_cons, h_ite, eqS_same, lightV, e_seq, e_cond, e_block, e_exit, e_ret, s_normal, s_ret, s_exit, s_none, s_ite, b_normal, b_ret, b_exit, b_none, b_ite, c_bool, x_none, x_nil, x_cons, x_ite, p_some, p_none, p_ite, pt_some, pt_none, pv_some, pv_none, pv_ite, w_none, w_some, i_bool, i_undef, bt, bf, v_tmp, v_const, v_global, v_func, evs, f_normal, f_ret, f_none, f_ite, r_some, co_some, l_ptr, m_agg, m_one, sh_app, lk_nil, lk_cons, rd_eq, rdO_some, rdO_none, rdN_none, rdL_some, rdL_none, wrB_none, unitR_some, wr_nil, wr_here, wr_skip, k_cells, tk_zero, tk_take, tk_skip, tkC_some, call_func, gt, st, binV, arith, isSh, storeV, all1, idxAV, fieldV, faddrV, iaddrSV, iaddrAV, pickV, convV, unV, eqbV, eqpV, extV, mm2, mmV, nilckV, ress, res1, retV, Value.cells, cond_true, cond_false, Bool.true_or, Bool.false_or, Bool.or_true, Bool.or_false, beq_self_eq_true, if_true, if_false, ite_true, ite_false, decide_true, decide_false, decide_eq_true_eq, reduceIte, Nat.zero_add, Nat.add_zero, and_self, true_and, and_true, List.size_toArray, List.length_cons, List.length_nil, List.append_nil, List.nil_append, Int.toNat_zero, Bool.not_false, Bool.not_true, Bool.not_not, Bool.false_eq_true, Bool.true_eq_false, reduceCtorEq, Int.reduceLT, Int.reduceLE, Int.reduceToNat, Int.reduceAdd, Int.reduceSub, Int.reduceMul, Int.reduceNeg, Nat.reduceMul, Nat.reduceAdd, Nat.reduceSub, Nat.reduceBEq, Nat.reduceEqDiff, Nat.reduceLT, Nat.reduceLeDiff, Int.reduceBEq, Int.reduceEq, Nat.reducePow, Int.reducePow, IntWalk.i64_in, IntKind.bits, eqAV, eqL, leafEq, andO, fillV, buildSV, List.getElem?_toArray, List.getElem?_cons_zero, List.getElem?_cons_succ, List.getElem?_nil, Int.reduceGT, Int.reduceGE, Int.reduceBNe, Bool.true_and, Bool.and_true, Bool.false_and, Bool.and_false, Bool.and_self, IntWalk.u64_in, Int.cast_ofNat_Int, callF1, pad16, pad_0, pad_1, pad_2, pad_3, pad_4, pad_5, pad_6, pad_7, pad_8, pad_9, pad_10, pad_11, pad_12, pad_13, pad_14, pad_15, gc0, gc1, gc2, gc3, gc4, gc5, gc6, gc7, gc8, gc9, gc10, gc11, gc12, gc13, gc14, gc15, gcS, sc0, sc1, sc2, sc3, sc4, sc5, sc6, sc7, sc8, sc9, sc10, sc11, sc12, sc13, sc14, sc15, scS, List.drop_succ_cons, List.drop_nil, x_pan, s_pan, b_pan, pE_ret, pE_pan, pE_none, pE_ite, pvE_some, pvE_none, pvE_ite, rv_some, rv_none, rv_ite, oR_ret, t_mv, t_pick, t_alloc, t_box, t_build, t_buildS, t_load, t_store, t_nilck, t_bin, t_eqb, t_eqA, t_eqp, t_un, t_conv, t_field, t_idxA, t_faddr, t_iaddrS, t_iaddrA, t_ext, t_len, t_mm, t_call, t_ifc, t_fn, t_slc, t_slcA, t_slcT, t_tass, t_isn, t_mks, t_app, t_pan, panE_i, optE_none, optE_some, bnd_none, bnd_int, slA_none, slA_some, appR_some, appOld_cells, newsV_s, newsV_n, lenS_s, appV_nil, appV_some, mksV_i, sh_c, sh_g, f_pan, endD_ret, dfr_normal, dfr_ret, dfr_pan, restD_normal, callD1, callC1, tassV, isnV, slcV, slcAV, slcTV, slcB, appNew, Option.bind_some, Option.bind_none, d_pan, h_pan, wrH_eq, wrX_cells, wrU_some, upH_nil, upH_cons, lk_upH, effR_some, effR_none, effR_ite, Option.isNone_none, Option.isNone_some, slA_zero, call_yield, e_range, it_func, wy_same, y_call, isLp_self, beg_normal, end_normal, end_ret, end_exit, end_ite, aft_ret, aft_ready, aft_done, aft_exit, setP_cons, setP_nil, sh_r, t_mkmap, t_mlook, t_mupd, t_mdel, mapF_some, lookF_some, setM_some, lookR_t, lookR_n, lookR_f, lookR_fn, lookV, mupdV, mdelV, mkM]
    exact ⟨_, _, rfl, g1, f1'⟩
  · have hd : decide (t ≠ 0) = true := decide_eq_true ht
    rw [hd] at en
    obtain ⟨bv, ov, cv, rfl, _, rv⟩ := hv.at (by omega)
    have rk : rdO H1 B bv (ov + (t - 1)) 1 (rdB B bv (ov + (t - 1)) 1) = some [.int .u64 (K.getD (t - 1) 0)] := by
      have := rv H1 f1' (t - 1) 0 1 0 (by omega) (by omega)
      rw [Nat.mul_one, Nat.add_zero] at this
      exact this.trans rfl
    have t1 : (t : Int) - 1 = ((t - 1 : Nat) : Int) := by omega
    have t2 : (0 : Int) ≤ ((t - 1 : Nat) : Int) := by omega
    have t3 : t - 1 < K.length := by omega
    have t4 : IntKind.i64.wrap ((t : Int) - 1) = ((t - 1 : Nat) : Int) := by rw [IntWalk.i64_in _ (by omega)]; exact t1
    generalize K.getD (t - 1) 0 = kt at rk
    by_cases hk : kt = key
    · subst hk
      rw [if_pos ⟨ht, rfl⟩, hd]
      simp -implicitDefEqProofs (maxSteps := 10000000) (disch := omega) only [T16, L16, G16_18, hB, hR, hI, lenV_sl, Int.toNat_natCast, bft, btf, gtst, st_len, en, t1, t2, t3, t4, rk, Nat.mul_one, bne_self_eq_false, pad, e_skip, e_ops, e_draw, e_fork, shg_n, shg_c, shg_g, shg_r, d_none, d_nil, d_cons, d_ite, h_none, h_nil, h_cons, h_ite, eqS_same, lightV, e_seq, e_cond, e_block, e_exit, e_ret, s_normal, s_ret, s_exit, s_none, s_ite, b_normal, b_ret, b_exit, b_none, b_ite, c_bool, x_none, x_nil, x_cons, x_ite, p_some, p_none, p_ite, pt_some, pt_none, pv_some, pv_none, pv_ite, w_none, w_some, i_bool, i_undef, bt, bf, v_tmp, v_const, v_global, v_func, evs, f_normal, f_ret, f_none, f_ite, r_some, co_some, l_ptr, m_agg, m_one, sh_app, lk_nil, lk_cons, rd_eq, rdO_some, rdO_none, rdN_none, rdL_some, rdL_none, wrB_none, unitR_some, wr_nil, wr_here, wr_skip, k_cells, tk_zero, tk_take, tk_skip, tkC_some, call_func, gt, st, binV, arith, isSh, storeV, all1, idxAV, fieldV, faddrV, iaddrSV, iaddrAV, pickV, convV, unV, eqbV, eqpV, extV, mm2, mmV, nilckV, ress, res1, retV, Value.cells, cond_true, cond_false, Bool.true_or, Bool.false_or, Bool.or_true, Bool.or_false, beq_self_eq_true, if_true, if_false, ite_true, ite_false, decide_true, decide_false, decide_eq_true_eq, reduceIte, Nat.zero_add, Nat.add_zero, and_self, true_and, and_true, List.size_toArray, List.length_cons, List.length_nil, List.append_nil, List.nil_append, Int.toNat_zero, Bool.not_false, Bool.not_true, Bool.not_not, Bool.false_eq_true, Bool.true_eq_false, reduceCtorEq, Int.reduceLT, Int.reduceLE, Int.reduceToNat, Int.reduceAdd, Int.reduceSub, Int.reduceMul, Int.reduceNeg, Nat.reduceMul, Nat.reduceAdd, Nat.reduceSub, Nat.reduceBEq, Nat.reduceEqDiff, Nat.reduceLT, Nat.reduceLeDiff, Int.reduceBEq, Int.reduceEq, Nat.reducePow, Int.reducePow, IntWalk.i64_in, IntKind.bits, eqAV, eqL, leafEq, andO, fillV, buildSV, List.getElem?_toArray, List.getElem?_cons_zero, List.getElem?_cons_succ, List.getElem?_nil, Int.reduceGT, Int.reduceGE, Int.reduceBNe, Bool.true_and, Bool.and_true, Bool.false_and, Bool.and_false, Bool.and_self, IntWalk.u64_in, Int.cast_ofNat_Int, callF1, pad16, pad_0, pad_1, pad_2, pad_3, pad_4, pad_5, pad_6, pad_7, pad_8, pad_9, pad_10, pad_11, pad_12, pad_13, pad_14, pad_15, gc0, gc1, gc2, gc3, gc4, gc5, gc6, gc7, gc8, gc9, gc10, gc11, gc12, gc13, gc14, gc15, gcS, sc0, sc1, sc2, sc3, sc4, sc5, sc6, sc7, sc8, sc9, sc10, sc11, sc12, sc13, sc14, sc15, scS, List.drop_succ_cons, List.drop_nil, x_pan, s_pan, b_pan, pE_ret, pE_pan, pE_none, pE_ite, pvE_some, pvE_none, pvE_ite, rv_some, rv_none, rv_ite, oR_ret, t_mv, t_pick, t_alloc, t_box, t_build, t_buildS, t_load, t_store, t_nilck, t_bin, t_eqb, t_eqA, t_eqp, t_un, t_conv, t_field, t_idxA, t_faddr, t_iaddrS, t_iaddrA, t_ext, t_len, t_mm, t_call, t_ifc, t_fn, t_slc, t_slcA, t_slcT, t_tass, t_isn, t_mks, t_app, t_pan, panE_i, optE_none, optE_some, bnd_none, bnd_int, slA_none, slA_some, appR_some, appOld_cells, newsV_s, newsV_n, lenS_s, appV_nil, appV_some, mksV_i, sh_c, sh_g, f_pan, endD_ret, dfr_normal, dfr_ret, dfr_pan, restD_normal, callD1, callC1, tassV, isnV, slcV, slcAV, slcTV, slcB, appNew, Option.bind_some, Option.bind_none, d_pan, h_pan, wrH_eq, wrX_cells, wrU_some, upH_nil, upH_cons, lk_upH, effR_some, effR_none, effR_ite, Option.isNone_none, Option.isNone_some, slA_zero, call_yield, e_range, it_func, wy_same, y_call, isLp_self, beg_normal, end_normal, end_ret, end_exit, end_ite, aft_ret, aft_ready, aft_done, aft_exit, setP_cons, setP_nil, sh_r, t_mkmap, t_mlook, t_mupd, t_mdel, mapF_some, lookF_some, setM_some, lookR_t, lookR_n, lookR_f, lookR_fn, lookV, mupdV, mdelV, mkM]
      exact ⟨_, _, rfl, g1, f1'⟩
    · rw [if_neg (fun h => hk h.2)]
      have h1 : decide ((0 : Nat) ≠ 0) = false := rfl
      have hne : (kt != key) = true := by simpa using hk
      rw [h1]
      simp -implicitDefEqProofs (maxSteps := 10000000) (disch := omega) only [T16, L16, G16_18, hB, hR, hI, lenV_sl, Int.toNat_natCast, bft, btf, gtst, st_len, en, t1, t2, t3, t4, rk, Nat.mul_one, hne, Int.cast_ofNat_Int, pad, e_skip, e_ops, e_draw, e_fork, shg_n, shg_c, shg_g, shg_r, d_none, d_nil, d_cons, d_ite, h_none, h_nil, h_cons, h_ite, eqS_same, lightV, e_seq, e_cond, e_block, e_exit, e_ret, s_normal, s_ret, s_exit, s_none, s_ite, b_normal, b_ret, b_exit, b_none, b_ite, c_bool, x_none, x_nil, x_cons, x_ite, p_some, p_none, p_ite, pt_some, pt_none, pv_some, pv_none, pv_ite, w_none, w_some, i_bool, i_undef, bt, bf, v_tmp, v_const, v_global, v_func, evs, f_normal, f_ret, f_none, f_ite, r_some, co_some, l_ptr, m_agg, m_one, sh_app, lk_nil, lk_cons, rd_eq, rdO_some, rdO_none, rdN_none, rdL_some, rdL_none, wrB_none, unitR_some, wr_nil, wr_here, wr_skip, k_cells, tk_zero, tk_take, tk_skip, tkC_some, call_func, gt, st, binV, arith, isSh, storeV, all1, idxAV, fieldV, faddrV, iaddrSV, iaddrAV, pickV, convV, unV, eqbV, eqpV, extV, mm2, mmV, nilckV, ress, res1, retV, Value.cells, cond_true, cond_false, Bool.true_or, Bool.false_or, Bool.or_true, Bool.or_false, beq_self_eq_true, if_true, if_false, ite_true, ite_false, decide_true, decide_false, decide_eq_true_eq, reduceIte, Nat.zero_add, Nat.add_zero, and_self, true_and, and_true, List.size_toArray, List.length_cons, List.length_nil, List.append_nil, List.nil_append, Int.toNat_zero, Bool.not_false, Bool.not_true, Bool.not_not, Bool.false_eq_true, Bool.true_eq_false, reduceCtorEq, Int.reduceLT, Int.reduceLE, Int.reduceToNat, Int.reduceAdd, Int.reduceSub, Int.reduceMul, Int.reduceNeg, Nat.reduceMul, Nat.reduceAdd, Nat.reduceSub, Nat.reduceBEq, Nat.reduceEqDiff, Nat.reduceLT, Nat.reduceLeDiff, Int.reduceBEq, Int.reduceEq, Nat.reducePow, Int.reducePow, IntWalk.i64_in, IntKind.bits, eqAV, eqL, leafEq, andO, fillV, buildSV, List.getElem?_toArray, List.getElem?_cons_zero, List.getElem?_cons_succ, List.getElem?_nil, Int.reduceGT, Int.reduceGE, Int.reduceBNe, Bool.true_and, Bool.and_true, Bool.false_and, Bool.and_false, Bool.and_self, IntWalk.u64_in, Int.cast_ofNat_Int, callF1, pad16, pad_0, pad_1, pad_2, pad_3, pad_4, pad_5, pad_6, pad_7, pad_8, pad_9, pad_10, pad_11, pad_12, pad_13, pad_14, pad_15, gc0, gc1, gc2, gc3, gc4, gc5, gc6, gc7, gc8, gc9, gc10, gc11, gc12, gc13, gc14, gc15, gcS, sc0, sc1, sc2, sc3, sc4, sc5, sc6, sc7, sc8, sc9, sc10, sc11, sc12, sc13, sc14, sc15, scS, List.drop_succ_cons, List.drop_nil, x_pan, s_pan, b_pan, pE_ret, pE_pan, pE_none, pE_ite, pvE_some, pvE_none, pvE_ite, rv_some, rv_none, rv_ite, oR_ret, t_mv, t_pick, t_alloc, t_box, t_build, t_buildS, t_load, t_store, t_nilck, t_bin, t_eqb, t_eqA, t_eqp, t_un, t_conv, t_field, t_idxA, t_faddr, t_iaddrS, t_iaddrA, t_ext, t_len, t_mm, t_call, t_ifc, t_fn, t_slc, t_slcA, t_slcT, t_tass, t_isn, t_mks, t_app, t_pan, panE_i, optE_none, optE_some, bnd_none, bnd_int, slA_none, slA_some, appR_some, appOld_cells, newsV_s, newsV_n, lenS_s, appV_nil, appV_some, mksV_i, sh_c, sh_g, f_pan, endD_ret, dfr_normal, dfr_ret, dfr_pan, restD_normal, callD1, callC1, tassV, isnV, slcV, slcAV, slcTV, slcB, appNew, Option.bind_some, Option.bind_none, d_pan, h_pan, wrH_eq, wrX_cells, wrU_some, upH_nil, upH_cons, lk_upH, effR_some, effR_none, effR_ite, Option.isNone_none, Option.isNone_some, slA_zero, call_yield, e_range, it_func, wy_same, y_call, isLp_self, beg_normal, end_normal, end_ret, end_exit, end_ite, aft_ret, aft_ready, aft_done, aft_exit, setP_cons, setP_nil, sh_r, t_mkmap, t_mlook, t_mupd, t_mdel, mapF_some, lookF_some, setM_some, lookR_t, lookR_n, lookR_f, lookR_fn, lookV, mupdV, mdelV, mkM]
      exact ⟨_, _, rfl, g1, f1'⟩
/-! ### Keys of raw numbers -/
def posD (out : List Int) (k : Int) : Nat → Nat
  | 0 => 0
  | n + 1 => if out.getD n 0 ≥ k then posD out k n else n + 1
theorem posD_le (out : List Int) (k : Int) : ∀ n, posD out k n ≤ n
  | 0 => Nat.le_refl _
  | n + 1 => by
    have := posD_le out k n
    simp only [posD]; split <;> omega
def kIns (out : List Int) (k : Int) : List Int :=
  if posD out k out.length < out.length ∧ out.getD (posD out k out.length) 0 = k then out else out.take (posD out k out.length) ++ k :: out.drop (posD out k out.length)
def kRun (w : List Int) : Nat → List Int
  | 0 => []
  | j + 1 => kIns (kRun w j) (keyI (w.getD j 0))
def gMany (w : List Int) : Nat := min w.length 20
def gKeys (w : List Int) : List Int := kRun w (gMany w)
theorem kIns_len (out : List Int) (k : Int) : (kIns out k).length ≤ out.length + 1 := by
  unfold kIns
  split
  · omega
  · have := posD_le out k out.length
    simp; omega
theorem kRun_len (w : List Int) : ∀ j, (kRun w j).length ≤ j
  | 0 => Nat.le_refl _
  | j + 1 => by
    have h1 := kRun_len w j
    have h2 := kIns_len (kRun w j) (keyI (w.getD j 0))
    simp only [kRun]; omega
theorem kRun_u (w : List Int) : ∀ j, U64s (kRun w j)
  | 0 => fun x hx => by cases hx
  | j + 1 => fun x hx => by
    have ih := kRun_u w j
    simp only [kRun, kIns] at hx
    split at hx
    · exact ih x hx
    · rcases List.mem_append.1 hx with h | h
      · exact ih x (List.mem_of_mem_take h)
      · rcases List.mem_cons.1 h with rfl | h
        · exact keyI_u _
        · exact ih x (List.mem_of_mem_drop h)
theorem posD_spec (out : List Int) (k : Int) (ha : Asc out) : ∀ n, n ≤ out.length → (∀ i, i < posD out k n → out.getD i 0 < k) ∧ (∀ i, posD out k n ≤ i → i < n → out.getD i 0 ≥ k)
  | 0, _ => ⟨fun i h => by simp only [posD] at h; omega, fun i _ h => by omega⟩
  | n + 1, hn => by
    have ih := posD_spec out k ha n (by omega)
    simp only [posD]
    split
    · rename_i h
      refine ⟨ih.1, fun i h1 h2 => ?_⟩
      by_cases hi : i < n
      · exact ih.2 i h1 hi
      · obtain rfl : i = n := by omega
        exact h
    · rename_i h
      refine ⟨fun i hi => ?_, fun i h1 h2 => by omega⟩
      have hmono : ∀ d i, i + d < out.length → out.getD i 0 ≤ out.getD (i + d) 0 := by
        intro d
        induction d with
        | zero => intro i _; exact Int.le_refl _
        | succ d ihd =>
          intro i hi
          have h1 := ihd i (by omega)
          have h2 := ha (i + d) (by omega)
          rw [show i + (d + 1) = i + d + 1 by omega]
          omega
      have := hmono (n - i) i (by omega)
      rw [show i + (n - i) = n by omega] at this
      omega
theorem kIns_asc {out : List Int} {k : Int} (ha : Asc out) : Asc (kIns out k) := by
  unfold kIns
  obtain ⟨p1, p2⟩ := posD_spec out k ha out.length (Nat.le_refl _)
  have hle := posD_le out k out.length
  generalize posD out k out.length = p at p1 p2 hle
  split
  · exact ha
  · rename_i hne
    have hge : ∀ i, (out.take p ++ k :: out.drop p).getD i 0 = if i < p then out.getD i 0 else if i = p then k else out.getD (i - 1) 0 := fun i => by
      have hl : (out.take p).length = p := by rw [List.length_take]; omega
      by_cases h1 : i < p
      · rw [if_pos h1, List.getD_eq_getElem?_getD, List.getElem?_append_left (by omega), List.getElem?_take, if_pos h1, ← List.getD_eq_getElem?_getD]
      · rw [if_neg h1, List.getD_eq_getElem?_getD, List.getElem?_append_right (by omega), hl]
        by_cases h2 : i = p
        · rw [if_pos h2, h2, Nat.sub_self]; rfl
        · rw [if_neg h2, show i - p = (i - 1 - p) + 1 by omega, List.getElem?_cons_succ, List.getElem?_drop, show p + (i - 1 - p) = i - 1 by omega, ← List.getD_eq_getElem?_getD]
    intro i hi
    have hlen : (out.take p ++ k :: out.drop p).length = out.length + 1 := by simp; omega
    rw [hlen] at hi
    rw [hge, hge]
    by_cases h1 : i + 1 < p
    · rw [if_pos (by omega), if_pos h1]; exact ha i (by omega)
    · by_cases h2 : i + 1 = p
      · rw [if_pos (by omega), if_neg h1, if_pos h2]; exact p1 i (by omega)
      · by_cases h3 : i = p
        · rw [if_neg (by omega), if_pos h3, if_neg (by omega), if_neg (by omega)]
          have h4 := p2 p (Nat.le_refl _) (by omega)
          have h5 : out.getD p 0 ≠ k := fun e => hne ⟨by omega, e⟩
          rw [h3, Nat.add_sub_cancel]
          omega
        · rw [if_neg (by omega), if_neg h3, if_neg (by omega), if_neg (by omega)]
          have := ha (i - 1) (by omega)
          rwa [show i - 1 + 1 = i by omega] at this
theorem kRun_asc (w : List Int) : ∀ j, Asc (kRun w j)
  | 0 => fun i h => by simp [kRun] at h
  | j + 1 => kIns_asc (kRun_asc w j)
theorem gKeys_ok (w : List Int) : bErr (gKeys w) = 0 := bErr_asc (by have := kRun_len w (gMany w); unfold gKeys; unfold gMany at *; omega) (kRun_asc w _)
end Go.Proofs.YtlkeeckhileedaaDoor
namespace Go.Proofs.YtlkeeckhileedaaDoor
open Go.Proofs.YtlkeeckhileedaaDoor.K Go.ChangeShapes Go.WideShapes Go.ChangeAt Go.RowKit
set_option maxRecDepth 100000
set_option linter.unusedSimpArgs false
set_option linter.unusedVariables false

def I64s (w : List Int) : Prop := ∀ x ∈ w, i64R x
theorem I64s.at {K : List Int} (h : I64s K) (i : Nat) : i64R (K.getD i 0) := by
  rcases Nat.lt_or_ge i K.length with hi | hi
  · refine h _ ?_
    rw [List.getD_eq_getElem?_getD, List.getElem?_eq_getElem hi]
    exact List.getElem_mem hi
  · rw [List.getD_eq_getElem?_getD, List.getElem?_eq_none hi]
    unfold i64R; simp
theorem all1_w1 (L : List Int) : all1 (fl w1 L) = true := by
  induction L with
  | nil => rfl
  | cons a L ih => exact ih
theorem newsV_1 {sz : Nat} {H : HL} {B : OH} {b o c : Nat} : newsV sz H B (.slice (some ⟨b, o, none⟩) 1 c) = rdH H B b o (1 * sz) := rfl
/-- whitewash/whitewashlaw08.Keys -/
def L9 : FnL := ⟨(.seq (.ops [⟨(some 2), .mv (.const (.slice none 0 0)), none⟩])
 (.seq (.ops [⟨(some 3), .mv (.const (.slice none 0 0)), none⟩])
 (.seq (.seq (.ops [⟨(some 4), .mv (.const (.int .i64 0)), none⟩])
 (.block 0 (.loop (.seq (.seq (.ops [⟨(some 7), .mv (.tmp 4), none⟩, ⟨(some 8), .mv (.tmp 0), none⟩, ⟨(some 9), .len false (.tmp 8), none⟩, ⟨(some 10), .bin .lss (.tmp 7) (.tmp 9), none⟩, ⟨(some 11), .mv (.tmp 10), none⟩, ⟨(some 12), .mv (.tmp 4), (some (11, true))⟩, ⟨(some 13), .bin .lss (.tmp 12) (.const (.int .i64 20)), (some (11, true))⟩, ⟨(some 14), .pick (.tmp 11) (.tmp 13) (.const (.bool false)), none⟩])
 (.cond (.tmp 14) .skip
 (.exit 0)))
 (.seq (.block 1 (.seq (.ops [⟨(some 17), .mv (.tmp 0), none⟩, ⟨(some 18), .mv (.tmp 4), none⟩, ⟨(some 19), .iaddrS 1 (.tmp 17) (.tmp 18), none⟩, ⟨(some 20), .load false 1 (.tmp 19), none⟩, ⟨(some 21), .call (.func 15) [(.tmp 20)], none⟩, ⟨(some 5), .mv (.tmp 21), none⟩])
 (.seq (.ops [⟨(some 22), .mv (.tmp 3), none⟩, ⟨(some 23), .len false (.tmp 22), none⟩, ⟨(some 6), .mv (.tmp 23), none⟩])
 (.seq (.block 2 (.loop (.seq (.seq (.ops [⟨(some 24), .mv (.tmp 6), none⟩, ⟨(some 25), .bin .gtr (.tmp 24) (.const (.int .i64 0)), none⟩, ⟨(some 26), .mv (.tmp 25), none⟩, ⟨(some 27), .mv (.tmp 3), (some (26, true))⟩, ⟨(some 28), .mv (.tmp 6), (some (26, true))⟩, ⟨(some 29), .bin .sub (.tmp 28) (.const (.int .i64 1)), (some (26, true))⟩, ⟨(some 30), .iaddrS 1 (.tmp 27) (.tmp 29), (some (26, true))⟩, ⟨(some 31), .load false 1 (.tmp 30), (some (26, true))⟩, ⟨(some 32), .mv (.tmp 5), (some (26, true))⟩, ⟨(some 33), .bin .geq (.tmp 31) (.tmp 32), (some (26, true))⟩, ⟨(some 34), .pick (.tmp 26) (.tmp 33) (.const (.bool false)), none⟩])
 (.cond (.tmp 34) .skip
 (.exit 2)))
 (.block 3 (.ops [⟨(some 35), .mv (.tmp 6), none⟩, ⟨(some 36), .bin .sub (.tmp 35) (.const (.int .i64 1)), none⟩, ⟨(some 6), .mv (.tmp 36), none⟩])))))
 (.seq (.seq (.ops [⟨(some 37), .mv (.tmp 6), none⟩, ⟨(some 38), .mv (.tmp 3), none⟩, ⟨(some 39), .len false (.tmp 38), none⟩, ⟨(some 40), .bin .lss (.tmp 37) (.tmp 39), none⟩, ⟨(some 41), .mv (.tmp 40), none⟩, ⟨(some 42), .mv (.tmp 3), (some (41, true))⟩, ⟨(some 43), .mv (.tmp 6), (some (41, true))⟩, ⟨(some 44), .iaddrS 1 (.tmp 42) (.tmp 43), (some (41, true))⟩, ⟨(some 45), .load false 1 (.tmp 44), (some (41, true))⟩, ⟨(some 46), .mv (.tmp 5), (some (41, true))⟩, ⟨(some 47), .bin .eql (.tmp 45) (.tmp 46), (some (41, true))⟩, ⟨(some 48), .pick (.tmp 41) (.tmp 47) (.const (.bool false)), none⟩])
 (.cond (.tmp 48) (.exit 1)
 .skip))
 (.seq (.draw [⟨⟨(some 49), .mv (.tmp 3), none⟩, []⟩, ⟨⟨(some 50), .mv (.tmp 6), none⟩, []⟩, ⟨⟨(some 51), .slc 1 (.tmp 49) none (some (.tmp 50)) none, none⟩, []⟩, ⟨⟨(some 53), .mv (.tmp 5), none⟩, []⟩, ⟨⟨(some 56), .mv (.tmp 3), none⟩, []⟩, ⟨⟨(some 57), .mv (.tmp 6), none⟩, []⟩, ⟨⟨(some 58), .slc 1 (.tmp 56) (some (.tmp 57)) none none, none⟩, []⟩])
 (.fork (.draw [⟨⟨(some 52), .app [(.int .u64 0)] 8 (.const (.slice none 0 0)) (.tmp 51), none⟩, []⟩, ⟨⟨(some 54), .buildS [(.int .u64 0)] 1 [(0, 1, (.tmp 53))], none⟩, []⟩, ⟨⟨(some 55), .app [(.int .u64 0)] 8 (.tmp 52) (.tmp 54), none⟩, []⟩, ⟨⟨(some 59), .app [(.int .u64 0)] 8 (.tmp 55) (.tmp 58), none⟩, []⟩, ⟨⟨(some 3), .mv (.tmp 59), none⟩, []⟩])
 (.draw [⟨⟨(some 54), .buildS [(.int .u64 0)] 1 [(0, 1, (.tmp 53))], none⟩, []⟩, ⟨⟨(some 52), .app [(.int .u64 0)] 8 (.const (.slice none 0 0)) (.tmp 51), none⟩, []⟩, ⟨⟨(some 55), .app [(.int .u64 0)] 8 (.tmp 52) (.tmp 54), none⟩, []⟩, ⟨⟨(some 59), .app [(.int .u64 0)] 8 (.tmp 55) (.tmp 58), none⟩, []⟩, ⟨⟨(some 3), .mv (.tmp 59), none⟩, []⟩]))))))))
 (.ops [⟨(some 15), .mv (.tmp 4), none⟩, ⟨(some 16), .bin .add (.tmp 15) (.const (.int .i64 1)), none⟩, ⟨(some 4), .mv (.tmp 16), none⟩]))))))
 (.seq (.ops [⟨(some 60), .mv (.tmp 3), none⟩, ⟨(some 2), .mv (.tmp 60), none⟩])
 .ret)))),
 61, [.tmp 2]⟩
theorem low9 : lowerFn Tryd.prog Tryd.f9 = some L9 := by kernel_rfl
noncomputable def G9 (B : OH) : Nat → Cs
  | 15 => V15 B
  | _ => fun _ _ _ => none
theorem G9_15 {B : OH} : G9 B 15 = V15 B := rfl
theorem sG9 {w0 : World} {B : OH} : SoundG Tryd.prog w0 B { f := G9 B } := .of fun k => by
  unfold G9
  split
  · exact .inr ⟨en15, sV15⟩
  · exact .inl fun _ _ _ => rfl
theorem en9 : Enter Tryd.prog 9 := .of Tryd.func9 (by kernel_rfl) (by kernel_rfl)
noncomputable def T9 (B : OH) : Cs := callF B { f := G9 B } 1300 L9
theorem sT9 {w0 : World} {B : OH} : SoundC Tryd.prog w0 B 9 (T9 B) := callF_sound mixedOrders sG9 1300 Tryd.func9 low9
noncomputable def V9 (B : OH) : Cs := T9 B
theorem sV9 {w0 : World} {B : OH} : SoundC Tryd.prog w0 B 9 (V9 B) := sT9
structure K9 (v vo : Value) (j : Nat) (ts : List Value) : Prop where
  l : ts.length = 61
  t0 : gt ts 0 = v
  t3 : gt ts 3 = vo
  t4 : gt ts 4 = .int .i64 (j : Int)
structure K9i (v vo : Value) (j : Nat) (x : Int) (p : Nat) (ts : List Value) : Prop where
  l : ts.length = 61
  t0 : gt ts 0 = v
  t3 : gt ts 3 = vo
  t4 : gt ts 4 = .int .i64 (j : Int)
  t5 : gt ts 5 = .int .u64 x
  t6 : gt ts 6 = .int .i64 (p : Int)
def lb9i : LC := (.seq (.seq (.ops [⟨(some 24), .mv (.tmp 6), none⟩, ⟨(some 25), .bin .gtr (.tmp 24) (.const (.int .i64 0)), none⟩, ⟨(some 26), .mv (.tmp 25), none⟩, ⟨(some 27), .mv (.tmp 3), (some (26, true))⟩, ⟨(some 28), .mv (.tmp 6), (some (26, true))⟩, ⟨(some 29), .bin .sub (.tmp 28) (.const (.int .i64 1)), (some (26, true))⟩, ⟨(some 30), .iaddrS 1 (.tmp 27) (.tmp 29), (some (26, true))⟩, ⟨(some 31), .load false 1 (.tmp 30), (some (26, true))⟩, ⟨(some 32), .mv (.tmp 5), (some (26, true))⟩, ⟨(some 33), .bin .geq (.tmp 31) (.tmp 32), (some (26, true))⟩, ⟨(some 34), .pick (.tmp 26) (.tmp 33) (.const (.bool false)), none⟩])
 (.cond (.tmp 34) .skip
 (.exit 2)))
 (.block 3 (.ops [⟨(some 35), .mv (.tmp 6), none⟩, ⟨(some 36), .bin .sub (.tmp 35) (.const (.int .i64 1)), none⟩, ⟨(some 6), .mv (.tmp 36), none⟩])))
set_option maxHeartbeats 8000000 in
theorem loop9i {B : OH} {H : HL} {N : St} {v vo : Value} {O : List Int} {x : Int} {j : Nat} (hv : SlR w1 1 B H vo O) (hOl : O.length ≤ 256) (hN : good B H N) {ts : List Value} (kp : K9i v vo j x O.length ts) {F : Nat} (hF : 60 + O.length + 1 ≤ F) :
    Ok (exec B { f := G9 B } F (LC.loop lb9i) ⟨ts, H, N⟩) (fun y s => y = .exit 2 ∧ s.H = H ∧ s.N = N ∧ K9i v vo j x (posD O x O.length) s.t) := by
  have hB := good_B hN
  have hR := good_rdB hN
  have hI := beqN hN.1.1
  refine loop_rule (n0 := 60) (fun q s => ∃ ts, ∃ p : Nat, s = ⟨ts, H, N⟩ ∧ K9i v vo j x p ts ∧ posD O x p = posD O x O.length ∧ p ≤ O.length ∧ q = p) _ ?_ O.length _ ⟨ts, O.length, rfl, kp, rfl, by omega, rfl⟩ _ hF
  clear kp hF F ts
  rintro z q s ⟨ts, p, rfl, kp, hp, hpl, rfl⟩
  cases q with
  | zero =>
    simp -implicitDefEqProofs (maxSteps := 10000000) (disch := omega) only [T9, L9, G9_15, V15_eq, hB, hR, hI, lb9i, kp.l, kp.t0, kp.t3, kp.t4, kp.t5, kp.t6, lenV_sl, Int.toNat_natCast, bft, btf, gtst, st_len, show ¬ ((0 : Nat) : Int) > 0 by omega, Int.lt_irrefl, Int.cast_ofNat_Int, pad, e_skip, e_ops, e_draw, e_fork, shg_n, shg_c, shg_g, shg_r, d_none, d_nil, d_cons, d_ite, h_none, h_nil, h_cons, h_ite, eqS_same, lightV, e_seq, e_cond, e_block, e_exit, e_ret, s_normal, s_ret, s_exit, s_none, s_ite, b_normal, b_ret, b_exit, b_none, b_ite, c_bool, x_none, x_nil, x_cons, x_ite, p_some, p_none, p_ite, pt_some, pt_none, pv_some, pv_none, pv_ite, w_none, w_some, i_bool, i_undef, bt, bf, v_tmp, v_const, v_global, v_func, evs, f_normal, f_ret, f_none, f_ite, r_some, co_some, l_ptr, m_agg, m_one, sh_app, lk_nil, lk_cons, rd_eq, rdO_some, rdO_none, rdN_none, rdL_some, rdL_none, wrB_none, unitR_some, wr_nil, wr_here, wr_skip, k_cells, tk_zero, tk_take, tk_skip, tkC_some, call_func, gt, st, binV, arith, isSh, storeV, all1, idxAV, fieldV, faddrV, iaddrSV, iaddrAV, pickV, convV, unV, eqbV, eqpV, extV, mm2, mmV, nilckV, ress, res1, retV, Value.cells, cond_true, cond_false, Bool.true_or, Bool.false_or, Bool.or_true, Bool.or_false, beq_self_eq_true, if_true, if_false, ite_true, ite_false, decide_true, decide_false, decide_eq_true_eq, reduceIte, Nat.zero_add, Nat.add_zero, and_self, true_and, and_true, List.size_toArray, List.length_cons, List.length_nil, List.append_nil, List.nil_append, Int.toNat_zero, Bool.not_false, Bool.not_true, Bool.not_not, Bool.false_eq_true, Bool.true_eq_false, reduceCtorEq, Int.reduceLT, Int.reduceLE, Int.reduceToNat, Int.reduceAdd, Int.reduceSub, Int.reduceMul, Int.reduceNeg, Nat.reduceMul, Nat.reduceAdd, Nat.reduceSub, Nat.reduceBEq, Nat.reduceEqDiff, Nat.reduceLT, Nat.reduceLeDiff, Int.reduceBEq, Int.reduceEq, Nat.reducePow, Int.reducePow, IntWalk.i64_in, IntKind.bits, eqAV, eqL, leafEq, andO, fillV, buildSV, List.getElem?_toArray, List.getElem?_cons_zero, List.getElem?_cons_succ, List.getElem?_nil, Int.reduceGT, Int.reduceGE, Int.reduceBNe, Bool.true_and, Bool.and_true, Bool.false_and, Bool.and_false, Bool.and_self, IntWalk.u64_in, Int.cast_ofNat_Int, callF1, pad16, pad_0, pad_1, pad_2, pad_3, pad_4, pad_5, pad_6, pad_7, pad_8, pad_9, pad_10, pad_11, pad_12, pad_13, pad_14, pad_15, gc0, gc1, gc2, gc3, gc4, gc5, gc6, gc7, gc8, gc9, gc10, gc11, gc12, gc13, gc14, gc15, gcS, sc0, sc1, sc2, sc3, sc4, sc5, sc6, sc7, sc8, sc9, sc10, sc11, sc12, sc13, sc14, sc15, scS, List.drop_succ_cons, List.drop_nil, x_pan, s_pan, b_pan, pE_ret, pE_pan, pE_none, pE_ite, pvE_some, pvE_none, pvE_ite, rv_some, rv_none, rv_ite, oR_ret, t_mv, t_pick, t_alloc, t_box, t_build, t_buildS, t_load, t_store, t_nilck, t_bin, t_eqb, t_eqA, t_eqp, t_un, t_conv, t_field, t_idxA, t_faddr, t_iaddrS, t_iaddrA, t_ext, t_len, t_mm, t_call, t_ifc, t_fn, t_slc, t_slcA, t_slcT, t_tass, t_isn, t_mks, t_app, t_pan, panE_i, optE_none, optE_some, bnd_none, bnd_int, slA_none, slA_some, appR_some, appOld_cells, newsV_s, newsV_n, lenS_s, appV_nil, appV_some, mksV_i, sh_c, sh_g, f_pan, endD_ret, dfr_normal, dfr_ret, dfr_pan, restD_normal, callD1, callC1, tassV, isnV, slcV, slcAV, slcTV, slcB, appNew, Option.bind_some, Option.bind_none, d_pan, h_pan, wrH_eq, wrX_cells, wrU_some, upH_nil, upH_cons, lk_upH, effR_some, effR_none, effR_ite, Option.isNone_none, Option.isNone_some, slA_zero, call_yield, e_range, it_func, wy_same, y_call, isLp_self, beg_normal, end_normal, end_ret, end_exit, end_ite, aft_ret, aft_ready, aft_done, aft_exit, setP_cons, setP_nil, sh_r, t_mkmap, t_mlook, t_mupd, t_mdel, mapF_some, lookF_some, setM_some, lookR_t, lookR_n, lookR_f, lookR_fn, lookV, mupdV, mdelV, mkM]
    refine ok_some (.inr ⟨by simp, rfl, rfl, rfl, ?_⟩)
    rw [← hp]
    refine ⟨?_, ?_, ?_, ?_, ?_, ?_⟩
    all_goals simp (maxSteps := 10000000) (disch := omega) only [kp.l, kp.t0, kp.t3, kp.t4, kp.t5, kp.t6, lenV_sl, Int.toNat_natCast, bft, btf, gtst, st_len, Int.cast_ofNat_Int, posD, cond_true, cond_false, Nat.reduceBEq, Nat.reduceLT, decide_true, beq_self_eq_true, if_true, if_false]
  | succ p =>
    have c1 : ((p + 1 : Nat) : Int) > 0 := by omega
    have c2 : ((p + 1 : Nat) : Int) - 1 = (p : Int) := by omega
    have c3 : (0 : Int) ≤ (p : Int) := by omega
    have c4 : p < O.length := by omega
    obtain ⟨bv, ov, cv, rfl, _, rv⟩ := hv.at (by omega)
    have rk : rdO H B bv (ov + p) 1 (rdB B bv (ov + p) 1) = some [.int .u64 (O.getD p 0)] := by
      have := rv H Fr.refl p 0 1 0 c4 (by omega)
      rw [Nat.mul_one, Nat.add_zero] at this
      exact this.trans rfl
    have hps : posD O x (p + 1) = if O.getD p 0 ≥ x then posD O x p else p + 1 := rfl
    generalize O.getD p 0 = ot at rk hps
    by_cases hge : ot ≥ x
    · rw [if_pos hge] at hps
      simp -implicitDefEqProofs (maxSteps := 10000000) (disch := omega) only [T9, L9, G9_15, V15_eq, hB, hR, hI, lb9i, kp.l, kp.t0, kp.t3, kp.t4, kp.t5, kp.t6, lenV_sl, Int.toNat_natCast, bft, btf, gtst, st_len, c1, c2, c3, c4, rk, hge, Nat.mul_one, pad, e_skip, e_ops, e_draw, e_fork, shg_n, shg_c, shg_g, shg_r, d_none, d_nil, d_cons, d_ite, h_none, h_nil, h_cons, h_ite, eqS_same, lightV, e_seq, e_cond, e_block, e_exit, e_ret, s_normal, s_ret, s_exit, s_none, s_ite, b_normal, b_ret, b_exit, b_none, b_ite, c_bool, x_none, x_nil, x_cons, x_ite, p_some, p_none, p_ite, pt_some, pt_none, pv_some, pv_none, pv_ite, w_none, w_some, i_bool, i_undef, bt, bf, v_tmp, v_const, v_global, v_func, evs, f_normal, f_ret, f_none, f_ite, r_some, co_some, l_ptr, m_agg, m_one, sh_app, lk_nil, lk_cons, rd_eq, rdO_some, rdO_none, rdN_none, rdL_some, rdL_none, wrB_none, unitR_some, wr_nil, wr_here, wr_skip, k_cells, tk_zero, tk_take, tk_skip, tkC_some, call_func, gt, st, binV, arith, isSh, storeV, all1, idxAV, fieldV, faddrV, iaddrSV, iaddrAV, pickV, convV, unV, eqbV, eqpV, extV, mm2, mmV, nilckV, ress, res1, retV, Value.cells, cond_true, cond_false, Bool.true_or, Bool.false_or, Bool.or_true, Bool.or_false, beq_self_eq_true, if_true, if_false, ite_true, ite_false, decide_true, decide_false, decide_eq_true_eq, reduceIte, Nat.zero_add, Nat.add_zero, and_self, true_and, and_true, List.size_toArray, List.length_cons, List.length_nil, List.append_nil, List.nil_append, Int.toNat_zero, Bool.not_false, Bool.not_true, Bool.not_not, Bool.false_eq_true, Bool.true_eq_false, reduceCtorEq, Int.reduceLT, Int.reduceLE, Int.reduceToNat, Int.reduceAdd, Int.reduceSub, Int.reduceMul, Int.reduceNeg, Nat.reduceMul, Nat.reduceAdd, Nat.reduceSub, Nat.reduceBEq, Nat.reduceEqDiff, Nat.reduceLT, Nat.reduceLeDiff, Int.reduceBEq, Int.reduceEq, Nat.reducePow, Int.reducePow, IntWalk.i64_in, IntKind.bits, eqAV, eqL, leafEq, andO, fillV, buildSV, List.getElem?_toArray, List.getElem?_cons_zero, List.getElem?_cons_succ, List.getElem?_nil, Int.reduceGT, Int.reduceGE, Int.reduceBNe, Bool.true_and, Bool.and_true, Bool.false_and, Bool.and_false, Bool.and_self, IntWalk.u64_in, Int.cast_ofNat_Int, callF1, pad16, pad_0, pad_1, pad_2, pad_3, pad_4, pad_5, pad_6, pad_7, pad_8, pad_9, pad_10, pad_11, pad_12, pad_13, pad_14, pad_15, gc0, gc1, gc2, gc3, gc4, gc5, gc6, gc7, gc8, gc9, gc10, gc11, gc12, gc13, gc14, gc15, gcS, sc0, sc1, sc2, sc3, sc4, sc5, sc6, sc7, sc8, sc9, sc10, sc11, sc12, sc13, sc14, sc15, scS, List.drop_succ_cons, List.drop_nil, x_pan, s_pan, b_pan, pE_ret, pE_pan, pE_none, pE_ite, pvE_some, pvE_none, pvE_ite, rv_some, rv_none, rv_ite, oR_ret, t_mv, t_pick, t_alloc, t_box, t_build, t_buildS, t_load, t_store, t_nilck, t_bin, t_eqb, t_eqA, t_eqp, t_un, t_conv, t_field, t_idxA, t_faddr, t_iaddrS, t_iaddrA, t_ext, t_len, t_mm, t_call, t_ifc, t_fn, t_slc, t_slcA, t_slcT, t_tass, t_isn, t_mks, t_app, t_pan, panE_i, optE_none, optE_some, bnd_none, bnd_int, slA_none, slA_some, appR_some, appOld_cells, newsV_s, newsV_n, lenS_s, appV_nil, appV_some, mksV_i, sh_c, sh_g, f_pan, endD_ret, dfr_normal, dfr_ret, dfr_pan, restD_normal, callD1, callC1, tassV, isnV, slcV, slcAV, slcTV, slcB, appNew, Option.bind_some, Option.bind_none, d_pan, h_pan, wrH_eq, wrX_cells, wrU_some, upH_nil, upH_cons, lk_upH, effR_some, effR_none, effR_ite, Option.isNone_none, Option.isNone_some, slA_zero, call_yield, e_range, it_func, wy_same, y_call, isLp_self, beg_normal, end_normal, end_ret, end_exit, end_ite, aft_ret, aft_ready, aft_done, aft_exit, setP_cons, setP_nil, sh_r, t_mkmap, t_mlook, t_mupd, t_mdel, mapF_some, lookF_some, setM_some, lookR_t, lookR_n, lookR_f, lookR_fn, lookV, mupdV, mdelV, mkM]
      refine ok_some (.inl ⟨rfl, p, by omega, _, p, rfl, ⟨?_, ?_, ?_, ?_, ?_, ?_⟩, hps.symm.trans hp, by omega, rfl⟩)
      all_goals simp (maxSteps := 10000000) (disch := omega) only [kp.l, kp.t0, kp.t3, kp.t4, kp.t5, kp.t6, lenV_sl, Int.toNat_natCast, bft, btf, gtst, st_len, cond_true, cond_false, Nat.reduceBEq, Nat.reduceLT, decide_true, beq_self_eq_true, if_true, if_false]
    · rw [if_neg hge] at hps
      simp -implicitDefEqProofs (maxSteps := 10000000) (disch := omega) only [T9, L9, G9_15, V15_eq, hB, hR, hI, lb9i, kp.l, kp.t0, kp.t3, kp.t4, kp.t5, kp.t6, lenV_sl, Int.toNat_natCast, bft, btf, gtst, st_len, c1, c2, c3, c4, rk, hge, Nat.mul_one, pad, e_skip, e_ops, e_draw, e_fork, shg_n, shg_c, shg_g, shg_r, d_none, d_nil, d_cons, d_ite, h_none, h_nil, h_cons, h_ite, eqS_same, lightV, e_seq, e_cond, e_block, e_exit, e_ret, s_normal, s_ret, s_exit, s_none, s_ite, b_normal, b_ret, b_exit, b_none, b_ite, c_bool, x_none, x_nil, x_cons, x_ite, p_some, p_none, p_ite, pt_some, pt_none, pv_some, pv_none, pv_ite, w_none, w_some, i_bool, i_undef, bt, bf, v_tmp, v_const, v_global, v_func, evs, f_normal, f_ret, f_none, f_ite, r_some, co_some, l_ptr, m_agg, m_one, sh_app, lk_nil, lk_cons, rd_eq, rdO_some, rdO_none, rdN_none, rdL_some, rdL_none, wrB_none, unitR_some, wr_nil, wr_here, wr_skip, k_cells, tk_zero, tk_take, tk_skip, tkC_some, call_func, gt, st, binV, arith, isSh, storeV, all1, idxAV, fieldV, faddrV, iaddrSV, iaddrAV, pickV, convV, unV, eqbV, eqpV, extV, mm2, mmV, nilckV, ress, res1, retV, Value.cells, cond_true, cond_false, Bool.true_or, Bool.false_or, Bool.or_true, Bool.or_false, beq_self_eq_true, if_true, if_false, ite_true, ite_false, decide_true, decide_false, decide_eq_true_eq, reduceIte, Nat.zero_add, Nat.add_zero, and_self, true_and, and_true, List.size_toArray, List.length_cons, List.length_nil, List.append_nil, List.nil_append, Int.toNat_zero, Bool.not_false, Bool.not_true, Bool.not_not, Bool.false_eq_true, Bool.true_eq_false, reduceCtorEq, Int.reduceLT, Int.reduceLE, Int.reduceToNat, Int.reduceAdd, Int.reduceSub, Int.reduceMul, Int.reduceNeg, Nat.reduceMul, Nat.reduceAdd, Nat.reduceSub, Nat.reduceBEq, Nat.reduceEqDiff, Nat.reduceLT, Nat.reduceLeDiff, Int.reduceBEq, Int.reduceEq, Nat.reducePow, Int.reducePow, IntWalk.i64_in, IntKind.bits, eqAV, eqL, leafEq, andO, fillV, buildSV, List.getElem?_toArray, List.getElem?_cons_zero, List.getElem?_cons_succ, List.getElem?_nil, Int.reduceGT, Int.reduceGE, Int.reduceBNe, Bool.true_and, Bool.and_true, Bool.false_and, Bool.and_false, Bool.and_self, IntWalk.u64_in, Int.cast_ofNat_Int, callF1, pad16, pad_0, pad_1, pad_2, pad_3, pad_4, pad_5, pad_6, pad_7, pad_8, pad_9, pad_10, pad_11, pad_12, pad_13, pad_14, pad_15, gc0, gc1, gc2, gc3, gc4, gc5, gc6, gc7, gc8, gc9, gc10, gc11, gc12, gc13, gc14, gc15, gcS, sc0, sc1, sc2, sc3, sc4, sc5, sc6, sc7, sc8, sc9, sc10, sc11, sc12, sc13, sc14, sc15, scS, List.drop_succ_cons, List.drop_nil, x_pan, s_pan, b_pan, pE_ret, pE_pan, pE_none, pE_ite, pvE_some, pvE_none, pvE_ite, rv_some, rv_none, rv_ite, oR_ret, t_mv, t_pick, t_alloc, t_box, t_build, t_buildS, t_load, t_store, t_nilck, t_bin, t_eqb, t_eqA, t_eqp, t_un, t_conv, t_field, t_idxA, t_faddr, t_iaddrS, t_iaddrA, t_ext, t_len, t_mm, t_call, t_ifc, t_fn, t_slc, t_slcA, t_slcT, t_tass, t_isn, t_mks, t_app, t_pan, panE_i, optE_none, optE_some, bnd_none, bnd_int, slA_none, slA_some, appR_some, appOld_cells, newsV_s, newsV_n, lenS_s, appV_nil, appV_some, mksV_i, sh_c, sh_g, f_pan, endD_ret, dfr_normal, dfr_ret, dfr_pan, restD_normal, callD1, callC1, tassV, isnV, slcV, slcAV, slcTV, slcB, appNew, Option.bind_some, Option.bind_none, d_pan, h_pan, wrH_eq, wrX_cells, wrU_some, upH_nil, upH_cons, lk_upH, effR_some, effR_none, effR_ite, Option.isNone_none, Option.isNone_some, slA_zero, call_yield, e_range, it_func, wy_same, y_call, isLp_self, beg_normal, end_normal, end_ret, end_exit, end_ite, aft_ret, aft_ready, aft_done, aft_exit, setP_cons, setP_nil, sh_r, t_mkmap, t_mlook, t_mupd, t_mdel, mapF_some, lookF_some, setM_some, lookR_t, lookR_n, lookR_f, lookR_fn, lookV, mupdV, mdelV, mkM]
      refine ok_some (.inr ⟨by simp, rfl, rfl, rfl, ?_⟩)
      rw [← hp, hps]
      refine ⟨?_, ?_, ?_, ?_, ?_, ?_⟩
      all_goals simp (maxSteps := 10000000) (disch := omega) only [kp.l, kp.t0, kp.t3, kp.t4, kp.t5, kp.t6, lenV_sl, Int.toNat_natCast, bft, btf, gtst, st_len, cond_true, cond_false, Nat.reduceBEq, Nat.reduceLT, decide_true, beq_self_eq_true, if_true, if_false]
end Go.Proofs.YtlkeeckhileedaaDoor
namespace Go.Proofs.YtlkeeckhileedaaDoor
open Go.Proofs.YtlkeeckhileedaaDoor.K Go.ChangeShapes Go.WideShapes Go.ChangeAt Go.RowKit
set_option maxRecDepth 100000
set_option linter.unusedSimpArgs false
set_option linter.unusedVariables false

def lb9 : LC := (.seq (.seq (.ops [⟨(some 7), .mv (.tmp 4), none⟩, ⟨(some 8), .mv (.tmp 0), none⟩, ⟨(some 9), .len false (.tmp 8), none⟩, ⟨(some 10), .bin .lss (.tmp 7) (.tmp 9), none⟩, ⟨(some 11), .mv (.tmp 10), none⟩, ⟨(some 12), .mv (.tmp 4), (some (11, true))⟩, ⟨(some 13), .bin .lss (.tmp 12) (.const (.int .i64 20)), (some (11, true))⟩, ⟨(some 14), .pick (.tmp 11) (.tmp 13) (.const (.bool false)), none⟩])
 (.cond (.tmp 14) .skip
 (.exit 0)))
 (.seq (.block 1 (.seq (.ops [⟨(some 17), .mv (.tmp 0), none⟩, ⟨(some 18), .mv (.tmp 4), none⟩, ⟨(some 19), .iaddrS 1 (.tmp 17) (.tmp 18), none⟩, ⟨(some 20), .load false 1 (.tmp 19), none⟩, ⟨(some 21), .call (.func 15) [(.tmp 20)], none⟩, ⟨(some 5), .mv (.tmp 21), none⟩])
 (.seq (.ops [⟨(some 22), .mv (.tmp 3), none⟩, ⟨(some 23), .len false (.tmp 22), none⟩, ⟨(some 6), .mv (.tmp 23), none⟩])
 (.seq (.block 2 (.loop (.seq (.seq (.ops [⟨(some 24), .mv (.tmp 6), none⟩, ⟨(some 25), .bin .gtr (.tmp 24) (.const (.int .i64 0)), none⟩, ⟨(some 26), .mv (.tmp 25), none⟩, ⟨(some 27), .mv (.tmp 3), (some (26, true))⟩, ⟨(some 28), .mv (.tmp 6), (some (26, true))⟩, ⟨(some 29), .bin .sub (.tmp 28) (.const (.int .i64 1)), (some (26, true))⟩, ⟨(some 30), .iaddrS 1 (.tmp 27) (.tmp 29), (some (26, true))⟩, ⟨(some 31), .load false 1 (.tmp 30), (some (26, true))⟩, ⟨(some 32), .mv (.tmp 5), (some (26, true))⟩, ⟨(some 33), .bin .geq (.tmp 31) (.tmp 32), (some (26, true))⟩, ⟨(some 34), .pick (.tmp 26) (.tmp 33) (.const (.bool false)), none⟩])
 (.cond (.tmp 34) .skip
 (.exit 2)))
 (.block 3 (.ops [⟨(some 35), .mv (.tmp 6), none⟩, ⟨(some 36), .bin .sub (.tmp 35) (.const (.int .i64 1)), none⟩, ⟨(some 6), .mv (.tmp 36), none⟩])))))
 (.seq (.seq (.ops [⟨(some 37), .mv (.tmp 6), none⟩, ⟨(some 38), .mv (.tmp 3), none⟩, ⟨(some 39), .len false (.tmp 38), none⟩, ⟨(some 40), .bin .lss (.tmp 37) (.tmp 39), none⟩, ⟨(some 41), .mv (.tmp 40), none⟩, ⟨(some 42), .mv (.tmp 3), (some (41, true))⟩, ⟨(some 43), .mv (.tmp 6), (some (41, true))⟩, ⟨(some 44), .iaddrS 1 (.tmp 42) (.tmp 43), (some (41, true))⟩, ⟨(some 45), .load false 1 (.tmp 44), (some (41, true))⟩, ⟨(some 46), .mv (.tmp 5), (some (41, true))⟩, ⟨(some 47), .bin .eql (.tmp 45) (.tmp 46), (some (41, true))⟩, ⟨(some 48), .pick (.tmp 41) (.tmp 47) (.const (.bool false)), none⟩])
 (.cond (.tmp 48) (.exit 1)
 .skip))
 (.seq (.draw [⟨⟨(some 49), .mv (.tmp 3), none⟩, []⟩, ⟨⟨(some 50), .mv (.tmp 6), none⟩, []⟩, ⟨⟨(some 51), .slc 1 (.tmp 49) none (some (.tmp 50)) none, none⟩, []⟩, ⟨⟨(some 53), .mv (.tmp 5), none⟩, []⟩, ⟨⟨(some 56), .mv (.tmp 3), none⟩, []⟩, ⟨⟨(some 57), .mv (.tmp 6), none⟩, []⟩, ⟨⟨(some 58), .slc 1 (.tmp 56) (some (.tmp 57)) none none, none⟩, []⟩])
 (.fork (.draw [⟨⟨(some 52), .app [(.int .u64 0)] 8 (.const (.slice none 0 0)) (.tmp 51), none⟩, []⟩, ⟨⟨(some 54), .buildS [(.int .u64 0)] 1 [(0, 1, (.tmp 53))], none⟩, []⟩, ⟨⟨(some 55), .app [(.int .u64 0)] 8 (.tmp 52) (.tmp 54), none⟩, []⟩, ⟨⟨(some 59), .app [(.int .u64 0)] 8 (.tmp 55) (.tmp 58), none⟩, []⟩, ⟨⟨(some 3), .mv (.tmp 59), none⟩, []⟩])
 (.draw [⟨⟨(some 54), .buildS [(.int .u64 0)] 1 [(0, 1, (.tmp 53))], none⟩, []⟩, ⟨⟨(some 52), .app [(.int .u64 0)] 8 (.const (.slice none 0 0)) (.tmp 51), none⟩, []⟩, ⟨⟨(some 55), .app [(.int .u64 0)] 8 (.tmp 52) (.tmp 54), none⟩, []⟩, ⟨⟨(some 59), .app [(.int .u64 0)] 8 (.tmp 55) (.tmp 58), none⟩, []⟩, ⟨⟨(some 3), .mv (.tmp 59), none⟩, []⟩]))))))))
 (.ops [⟨(some 15), .mv (.tmp 4), none⟩, ⟨(some 16), .bin .add (.tmp 15) (.const (.int .i64 1)), none⟩, ⟨(some 4), .mv (.tmp 16), none⟩])))
set_option maxHeartbeats 16000000 in
theorem loop9 {B : OH} {H : HL} {N : St} {v : Value} {w : List Int} (hv : SlR f1 1 B H v w) (hw : I64s w) (hN : good B H N)
    {ts : List Value} (kp : K9 v (.slice none 0 0) 0 ts) {F : Nat} (hF : 400 + gMany w + 1 ≤ F) :
    Ok (exec B { f := G9 B } F (LC.loop lb9) ⟨ts, H, N⟩) (fun x s => x = .exit 0 ∧ good B s.H s.N ∧ Fr H s.H ∧ ∃ vo, K9 v vo (gMany w) s.t ∧ SlM w1 1 B H s.H vo (gKeys w)) := by
  have hlv := hv.len
  have hgm : gMany w ≤ 20 := by unfold gMany; omega
  have hgw : gMany w ≤ w.length := by unfold gMany; omega
  refine loop_rule (n0 := 400) (fun q s => ∃ ts H' N' vo, ∃ j : Nat, s = ⟨ts, H', N'⟩ ∧ K9 v vo j ts ∧ good B H' N' ∧ Fr H H' ∧ SlM w1 1 B H H' vo (kRun w j) ∧ j ≤ gMany w ∧ q = gMany w - j) _ ?_ _ _ ⟨ts, H, N, _, 0, rfl, kp, hN, Fr.refl, .inl ⟨rfl, rfl⟩, by omega, rfl⟩ _ hF
  clear kp hF F hN ts N
  rintro z q s ⟨ts, H1, N1, vo, j, rfl, kp, g, fr, so, hj, rfl⟩
  have hB := good_B g
  have hR := good_rdB g
  have hI := beqN g.1.1
  have hc1 : ((j + 1 : Nat) : Int) = (j : Int) + 1 := by omega
  have j0 : (0 : Int) ≤ (j : Int) := by omega
  by_cases hin : j < gMany w
  case neg =>
    obtain rfl : j = gMany w := by omega
    have hends : ¬ ((gMany w : Int) < (w.length : Int)) ∨ ((gMany w : Int) < (w.length : Int) ∧ ¬ (gMany w : Int) < 20) := by unfold gMany; omega
    rcases hends with h1 | ⟨h1, h2⟩
    · simp -implicitDefEqProofs (maxSteps := 10000000) (disch := omega) only [T9, L9, G9_15, V15_eq, hB, hR, hI, lb9, kp.l, kp.t0, kp.t3, kp.t4, lenV_sl, Int.toNat_natCast, bft, btf, gtst, st_len, hlv, h1, pad, e_skip, e_ops, e_draw, e_fork, shg_n, shg_c, shg_g, shg_r, d_none, d_nil, d_cons, d_ite, h_none, h_nil, h_cons, h_ite, eqS_same, lightV, e_seq, e_cond, e_block, e_exit, e_ret, s_normal, s_ret, s_exit, s_none, s_ite, b_normal, b_ret, b_exit, b_none, b_ite, c_bool, x_none, x_nil, x_cons, x_ite, p_some, p_none, p_ite, pt_some, pt_none, pv_some, pv_none, pv_ite, w_none, w_some, i_bool, i_undef, bt, bf, v_tmp, v_const, v_global, v_func, evs, f_normal, f_ret, f_none, f_ite, r_some, co_some, l_ptr, m_agg, m_one, sh_app, lk_nil, lk_cons, rd_eq, rdO_some, rdO_none, rdN_none, rdL_some, rdL_none, wrB_none, unitR_some, wr_nil, wr_here, wr_skip, k_cells, tk_zero, tk_take, tk_skip, tkC_some, call_func, gt, st, binV, arith, isSh, storeV, all1, idxAV, fieldV, faddrV, iaddrSV, iaddrAV, pickV, convV, unV, eqbV, eqpV, extV, mm2, mmV, nilckV, ress, res1, retV, Value.cells, cond_true, cond_false, Bool.true_or, Bool.false_or, Bool.or_true, Bool.or_false, beq_self_eq_true, if_true, if_false, ite_true, ite_false, decide_true, decide_false, decide_eq_true_eq, reduceIte, Nat.zero_add, Nat.add_zero, and_self, true_and, and_true, List.size_toArray, List.length_cons, List.length_nil, List.append_nil, List.nil_append, Int.toNat_zero, Bool.not_false, Bool.not_true, Bool.not_not, Bool.false_eq_true, Bool.true_eq_false, reduceCtorEq, Int.reduceLT, Int.reduceLE, Int.reduceToNat, Int.reduceAdd, Int.reduceSub, Int.reduceMul, Int.reduceNeg, Nat.reduceMul, Nat.reduceAdd, Nat.reduceSub, Nat.reduceBEq, Nat.reduceEqDiff, Nat.reduceLT, Nat.reduceLeDiff, Int.reduceBEq, Int.reduceEq, Nat.reducePow, Int.reducePow, IntWalk.i64_in, IntKind.bits, eqAV, eqL, leafEq, andO, fillV, buildSV, List.getElem?_toArray, List.getElem?_cons_zero, List.getElem?_cons_succ, List.getElem?_nil, Int.reduceGT, Int.reduceGE, Int.reduceBNe, Bool.true_and, Bool.and_true, Bool.false_and, Bool.and_false, Bool.and_self, IntWalk.u64_in, Int.cast_ofNat_Int, callF1, pad16, pad_0, pad_1, pad_2, pad_3, pad_4, pad_5, pad_6, pad_7, pad_8, pad_9, pad_10, pad_11, pad_12, pad_13, pad_14, pad_15, gc0, gc1, gc2, gc3, gc4, gc5, gc6, gc7, gc8, gc9, gc10, gc11, gc12, gc13, gc14, gc15, gcS, sc0, sc1, sc2, sc3, sc4, sc5, sc6, sc7, sc8, sc9, sc10, sc11, sc12, sc13, sc14, sc15, scS, List.drop_succ_cons, List.drop_nil, x_pan, s_pan, b_pan, pE_ret, pE_pan, pE_none, pE_ite, pvE_some, pvE_none, pvE_ite, rv_some, rv_none, rv_ite, oR_ret, t_mv, t_pick, t_alloc, t_box, t_build, t_buildS, t_load, t_store, t_nilck, t_bin, t_eqb, t_eqA, t_eqp, t_un, t_conv, t_field, t_idxA, t_faddr, t_iaddrS, t_iaddrA, t_ext, t_len, t_mm, t_call, t_ifc, t_fn, t_slc, t_slcA, t_slcT, t_tass, t_isn, t_mks, t_app, t_pan, panE_i, optE_none, optE_some, bnd_none, bnd_int, slA_none, slA_some, appR_some, appOld_cells, newsV_s, newsV_n, lenS_s, appV_nil, appV_some, mksV_i, sh_c, sh_g, f_pan, endD_ret, dfr_normal, dfr_ret, dfr_pan, restD_normal, callD1, callC1, tassV, isnV, slcV, slcAV, slcTV, slcB, appNew, Option.bind_some, Option.bind_none, d_pan, h_pan, wrH_eq, wrX_cells, wrU_some, upH_nil, upH_cons, lk_upH, effR_some, effR_none, effR_ite, Option.isNone_none, Option.isNone_some, slA_zero, call_yield, e_range, it_func, wy_same, y_call, isLp_self, beg_normal, end_normal, end_ret, end_exit, end_ite, aft_ret, aft_ready, aft_done, aft_exit, setP_cons, setP_nil, sh_r, t_mkmap, t_mlook, t_mupd, t_mdel, mapF_some, lookF_some, setM_some, lookR_t, lookR_n, lookR_f, lookR_fn, lookV, mupdV, mdelV, mkM]
      refine ok_some (.inr ⟨by simp, rfl, g, fr, vo, ⟨?_, ?_, ?_, ?_⟩, so⟩)
      all_goals simp (maxSteps := 10000000) (disch := omega) only [kp.l, kp.t0, kp.t3, kp.t4, lenV_sl, Int.toNat_natCast, bft, btf, gtst, st_len, cond_true, cond_false, Nat.reduceBEq, Nat.reduceLT, decide_true, beq_self_eq_true, if_true, if_false]
    · simp -implicitDefEqProofs (maxSteps := 10000000) (disch := omega) only [T9, L9, G9_15, V15_eq, hB, hR, hI, lb9, kp.l, kp.t0, kp.t3, kp.t4, lenV_sl, Int.toNat_natCast, bft, btf, gtst, st_len, hlv, h1, h2, pad, e_skip, e_ops, e_draw, e_fork, shg_n, shg_c, shg_g, shg_r, d_none, d_nil, d_cons, d_ite, h_none, h_nil, h_cons, h_ite, eqS_same, lightV, e_seq, e_cond, e_block, e_exit, e_ret, s_normal, s_ret, s_exit, s_none, s_ite, b_normal, b_ret, b_exit, b_none, b_ite, c_bool, x_none, x_nil, x_cons, x_ite, p_some, p_none, p_ite, pt_some, pt_none, pv_some, pv_none, pv_ite, w_none, w_some, i_bool, i_undef, bt, bf, v_tmp, v_const, v_global, v_func, evs, f_normal, f_ret, f_none, f_ite, r_some, co_some, l_ptr, m_agg, m_one, sh_app, lk_nil, lk_cons, rd_eq, rdO_some, rdO_none, rdN_none, rdL_some, rdL_none, wrB_none, unitR_some, wr_nil, wr_here, wr_skip, k_cells, tk_zero, tk_take, tk_skip, tkC_some, call_func, gt, st, binV, arith, isSh, storeV, all1, idxAV, fieldV, faddrV, iaddrSV, iaddrAV, pickV, convV, unV, eqbV, eqpV, extV, mm2, mmV, nilckV, ress, res1, retV, Value.cells, cond_true, cond_false, Bool.true_or, Bool.false_or, Bool.or_true, Bool.or_false, beq_self_eq_true, if_true, if_false, ite_true, ite_false, decide_true, decide_false, decide_eq_true_eq, reduceIte, Nat.zero_add, Nat.add_zero, and_self, true_and, and_true, List.size_toArray, List.length_cons, List.length_nil, List.append_nil, List.nil_append, Int.toNat_zero, Bool.not_false, Bool.not_true, Bool.not_not, Bool.false_eq_true, Bool.true_eq_false, reduceCtorEq, Int.reduceLT, Int.reduceLE, Int.reduceToNat, Int.reduceAdd, Int.reduceSub, Int.reduceMul, Int.reduceNeg, Nat.reduceMul, Nat.reduceAdd, Nat.reduceSub, Nat.reduceBEq, Nat.reduceEqDiff, Nat.reduceLT, Nat.reduceLeDiff, Int.reduceBEq, Int.reduceEq, Nat.reducePow, Int.reducePow, IntWalk.i64_in, IntKind.bits, eqAV, eqL, leafEq, andO, fillV, buildSV, List.getElem?_toArray, List.getElem?_cons_zero, List.getElem?_cons_succ, List.getElem?_nil, Int.reduceGT, Int.reduceGE, Int.reduceBNe, Bool.true_and, Bool.and_true, Bool.false_and, Bool.and_false, Bool.and_self, IntWalk.u64_in, Int.cast_ofNat_Int, callF1, pad16, pad_0, pad_1, pad_2, pad_3, pad_4, pad_5, pad_6, pad_7, pad_8, pad_9, pad_10, pad_11, pad_12, pad_13, pad_14, pad_15, gc0, gc1, gc2, gc3, gc4, gc5, gc6, gc7, gc8, gc9, gc10, gc11, gc12, gc13, gc14, gc15, gcS, sc0, sc1, sc2, sc3, sc4, sc5, sc6, sc7, sc8, sc9, sc10, sc11, sc12, sc13, sc14, sc15, scS, List.drop_succ_cons, List.drop_nil, x_pan, s_pan, b_pan, pE_ret, pE_pan, pE_none, pE_ite, pvE_some, pvE_none, pvE_ite, rv_some, rv_none, rv_ite, oR_ret, t_mv, t_pick, t_alloc, t_box, t_build, t_buildS, t_load, t_store, t_nilck, t_bin, t_eqb, t_eqA, t_eqp, t_un, t_conv, t_field, t_idxA, t_faddr, t_iaddrS, t_iaddrA, t_ext, t_len, t_mm, t_call, t_ifc, t_fn, t_slc, t_slcA, t_slcT, t_tass, t_isn, t_mks, t_app, t_pan, panE_i, optE_none, optE_some, bnd_none, bnd_int, slA_none, slA_some, appR_some, appOld_cells, newsV_s, newsV_n, lenS_s, appV_nil, appV_some, mksV_i, sh_c, sh_g, f_pan, endD_ret, dfr_normal, dfr_ret, dfr_pan, restD_normal, callD1, callC1, tassV, isnV, slcV, slcAV, slcTV, slcB, appNew, Option.bind_some, Option.bind_none, d_pan, h_pan, wrH_eq, wrX_cells, wrU_some, upH_nil, upH_cons, lk_upH, effR_some, effR_none, effR_ite, Option.isNone_none, Option.isNone_some, slA_zero, call_yield, e_range, it_func, wy_same, y_call, isLp_self, beg_normal, end_normal, end_ret, end_exit, end_ite, aft_ret, aft_ready, aft_done, aft_exit, setP_cons, setP_nil, sh_r, t_mkmap, t_mlook, t_mupd, t_mdel, mapF_some, lookF_some, setM_some, lookR_t, lookR_n, lookR_f, lookR_fn, lookV, mupdV, mdelV, mkM]
      refine ok_some (.inr ⟨by simp, rfl, g, fr, vo, ⟨?_, ?_, ?_, ?_⟩, so⟩)
      all_goals simp (maxSteps := 10000000) (disch := omega) only [kp.l, kp.t0, kp.t3, kp.t4, lenV_sl, Int.toNat_natCast, bft, btf, gtst, st_len, cond_true, cond_false, Nat.reduceBEq, Nat.reduceLT, decide_true, beq_self_eq_true, if_true, if_false]
  have hin1 : j < w.length := by omega
  have hin2 : (j : Int) < (w.length : Int) := by omega
  have hin3 : (j : Int) < 20 := by omega
  obtain ⟨bv, ov, cv, rfl, _, rv⟩ := hv.at (by omega)
  have rk : rdO H1 B bv (ov + j) 1 (rdB B bv (ov + j) 1) = some [.int .i64 (w.getD j 0)] := by
    have := rv H1 fr j 0 1 0 hin1 (by omega)
    rw [Nat.mul_one, Nat.add_zero] at this
    exact this.trans rfl
  have ek := f15 ⟨H1, N1, g⟩ (w.getD j 0) (hw.at j)
  have hku := keyI_u (w.getD j 0)
  have hkr : kRun w (j + 1) = kIns (kRun w j) (keyI (w.getD j 0)) := rfl
  have hol := kRun_len w j
  have hls := so.len
  have hW := so.wh w1_len
  have hrd := so.rd w1_len
  have hru := kRun_u w j
  unfold kIns at hkr
  generalize kRun w j = O at so hkr hol hls hW hrd hru
  generalize w.getD j 0 = wj at rk ek hku hkr
  generalize keyI wj = k at ek hku hkr
  simp -implicitDefEqProofs (maxSteps := 10000000) (disch := omega) only [T9, L9, G9_15, V15_eq, hB, hR, hI, lb9, kp.l, kp.t0, kp.t3, kp.t4, lenV_sl, Int.toNat_natCast, bft, btf, gtst, st_len, hlv, hin1, hin2, hin3, j0, rk, ek, hls, Nat.mul_one, pad, e_skip, e_ops, e_draw, e_fork, shg_n, shg_c, shg_g, shg_r, d_none, d_nil, d_cons, d_ite, h_none, h_nil, h_cons, h_ite, eqS_same, lightV, e_seq, e_cond, e_block, e_exit, e_ret, s_normal, s_ret, s_exit, s_none, s_ite, b_normal, b_ret, b_exit, b_none, b_ite, c_bool, x_none, x_nil, x_cons, x_ite, p_some, p_none, p_ite, pt_some, pt_none, pv_some, pv_none, pv_ite, w_none, w_some, i_bool, i_undef, bt, bf, v_tmp, v_const, v_global, v_func, evs, f_normal, f_ret, f_none, f_ite, r_some, co_some, l_ptr, m_agg, m_one, sh_app, lk_nil, lk_cons, rd_eq, rdO_some, rdO_none, rdN_none, rdL_some, rdL_none, wrB_none, unitR_some, wr_nil, wr_here, wr_skip, k_cells, tk_zero, tk_take, tk_skip, tkC_some, call_func, gt, st, binV, arith, isSh, storeV, all1, idxAV, fieldV, faddrV, iaddrSV, iaddrAV, pickV, convV, unV, eqbV, eqpV, extV, mm2, mmV, nilckV, ress, res1, retV, Value.cells, cond_true, cond_false, Bool.true_or, Bool.false_or, Bool.or_true, Bool.or_false, beq_self_eq_true, if_true, if_false, ite_true, ite_false, decide_true, decide_false, decide_eq_true_eq, reduceIte, Nat.zero_add, Nat.add_zero, and_self, true_and, and_true, List.size_toArray, List.length_cons, List.length_nil, List.append_nil, List.nil_append, Int.toNat_zero, Bool.not_false, Bool.not_true, Bool.not_not, Bool.false_eq_true, Bool.true_eq_false, reduceCtorEq, Int.reduceLT, Int.reduceLE, Int.reduceToNat, Int.reduceAdd, Int.reduceSub, Int.reduceMul, Int.reduceNeg, Nat.reduceMul, Nat.reduceAdd, Nat.reduceSub, Nat.reduceBEq, Nat.reduceEqDiff, Nat.reduceLT, Nat.reduceLeDiff, Int.reduceBEq, Int.reduceEq, Nat.reducePow, Int.reducePow, IntWalk.i64_in, IntKind.bits, eqAV, eqL, leafEq, andO, fillV, buildSV, List.getElem?_toArray, List.getElem?_cons_zero, List.getElem?_cons_succ, List.getElem?_nil, Int.reduceGT, Int.reduceGE, Int.reduceBNe, Bool.true_and, Bool.and_true, Bool.false_and, Bool.and_false, Bool.and_self, IntWalk.u64_in, Int.cast_ofNat_Int, callF1, pad16, pad_0, pad_1, pad_2, pad_3, pad_4, pad_5, pad_6, pad_7, pad_8, pad_9, pad_10, pad_11, pad_12, pad_13, pad_14, pad_15, gc0, gc1, gc2, gc3, gc4, gc5, gc6, gc7, gc8, gc9, gc10, gc11, gc12, gc13, gc14, gc15, gcS, sc0, sc1, sc2, sc3, sc4, sc5, sc6, sc7, sc8, sc9, sc10, sc11, sc12, sc13, sc14, sc15, scS, List.drop_succ_cons, List.drop_nil, x_pan, s_pan, b_pan, pE_ret, pE_pan, pE_none, pE_ite, pvE_some, pvE_none, pvE_ite, rv_some, rv_none, rv_ite, oR_ret, t_mv, t_pick, t_alloc, t_box, t_build, t_buildS, t_load, t_store, t_nilck, t_bin, t_eqb, t_eqA, t_eqp, t_un, t_conv, t_field, t_idxA, t_faddr, t_iaddrS, t_iaddrA, t_ext, t_len, t_mm, t_call, t_ifc, t_fn, t_slc, t_slcA, t_slcT, t_tass, t_isn, t_mks, t_app, t_pan, panE_i, optE_none, optE_some, bnd_none, bnd_int, slA_none, slA_some, appR_some, appOld_cells, newsV_s, newsV_n, lenS_s, appV_nil, appV_some, mksV_i, sh_c, sh_g, f_pan, endD_ret, dfr_normal, dfr_ret, dfr_pan, restD_normal, callD1, callC1, tassV, isnV, slcV, slcAV, slcTV, slcB, appNew, Option.bind_some, Option.bind_none, d_pan, h_pan, wrH_eq, wrX_cells, wrU_some, upH_nil, upH_cons, lk_upH, effR_some, effR_none, effR_ite, Option.isNone_none, Option.isNone_some, slA_zero, call_yield, e_range, it_func, wy_same, y_call, isLp_self, beg_normal, end_normal, end_ret, end_exit, end_ite, aft_ret, aft_ready, aft_done, aft_exit, setP_cons, setP_nil, sh_r, t_mkmap, t_mlook, t_mupd, t_mdel, mapF_some, lookF_some, setM_some, lookR_t, lookR_n, lookR_f, lookR_fn, lookV, mupdV, mdelV, mkM]
  generalize hX : exec B _ _ (LC.loop _) _ = o
  obtain ⟨x, ⟨ts2, H2, N2⟩, ho, rfl, hHH, hNN, kp2⟩ := (show Ok o _ by rw [← hX]; exact loop9i (x := k) (j := j) (v := .slice (some ⟨bv, ov, none⟩) w.length cv) hrd (by omega) g ⟨by simp (maxSteps := 10000000) (disch := omega) only [kp.l, kp.t0, kp.t3, kp.t4, lenV_sl, Int.toNat_natCast, bft, btf, gtst, st_len, cond_true, cond_false, Nat.reduceBEq, Nat.reduceLT, decide_true, beq_self_eq_true, if_true, if_false, Int.cast_ofNat_Int], by simp (maxSteps := 10000000) (disch := omega) only [kp.l, kp.t0, kp.t3, kp.t4, lenV_sl, Int.toNat_natCast, bft, btf, gtst, st_len, cond_true, cond_false, Nat.reduceBEq, Nat.reduceLT, decide_true, beq_self_eq_true, if_true, if_false, Int.cast_ofNat_Int], by simp (maxSteps := 10000000) (disch := omega) only [kp.l, kp.t0, kp.t3, kp.t4, lenV_sl, Int.toNat_natCast, bft, btf, gtst, st_len, cond_true, cond_false, Nat.reduceBEq, Nat.reduceLT, decide_true, beq_self_eq_true, if_true, if_false, Int.cast_ofNat_Int], by simp (maxSteps := 10000000) (disch := omega) only [kp.l, kp.t0, kp.t3, kp.t4, lenV_sl, Int.toNat_natCast, bft, btf, gtst, st_len, cond_true, cond_false, Nat.reduceBEq, Nat.reduceLT, decide_true, beq_self_eq_true, if_true, if_false, Int.cast_ofNat_Int], by simp (maxSteps := 10000000) (disch := omega) only [kp.l, kp.t0, kp.t3, kp.t4, lenV_sl, Int.toNat_natCast, bft, btf, gtst, st_len, cond_true, cond_false, Nat.reduceBEq, Nat.reduceLT, decide_true, beq_self_eq_true, if_true, if_false, Int.cast_ofNat_Int], by simp (maxSteps := 10000000) (disch := omega) only [kp.l, kp.t0, kp.t3, kp.t4, lenV_sl, Int.toNat_natCast, bft, btf, gtst, st_len, cond_true, cond_false, Nat.reduceBEq, Nat.reduceLT, decide_true, beq_self_eq_true, if_true, if_false, Int.cast_ofNat_Int]⟩ (by omega))
  subst ho
  simp only at kp2 hHH hNN
  obtain rfl : H1 = H2 := hHH.symm
  obtain rfl : N1 = N2 := hNN.symm
  clear kp
  have kp := kp2
  clear kp2
  have hp := posD_le O k O.length
  generalize posD O k O.length = p at kp hp hkr
  have p0 : (0 : Int) ≤ (p : Int) := by omega
  have hO : U64s O := hru
  obtain ⟨a, cap, rfl, hcap, haw⟩ := id hW
  have hsplit : ((¬ (p : Int) < (O.length : Int)) ∧ ¬ (p < O.length ∧ O.getD p 0 = k)) ∨ (p < O.length ∧ (p : Int) < (O.length : Int)) := by omega
  rcases hsplit with ⟨h1, h2⟩ | ⟨hpl, h1⟩
  · rw [if_neg h2] at hkr
    obtain ⟨a1, ea1, hp1⟩ := hW.part w1_len (i := 0) (k := p) (by omega)
    obtain ⟨a2, ea2, hp2⟩ := hW.part w1_len (i := p) (k := O.length - p) (by omega)
    have hp1 := hp1 cap (by omega)
    have hp2 := hp2 (cap - p) (by omega)
    rw [List.drop_zero] at hp1
    rw [List.take_of_length_le (by rw [List.length_drop]; exact Nat.le_refl _)] at hp2
    simp only [Nat.mul_one] at ea1 ea2
    rw [slA_ite3] at ea1
    obtain rfl := Option.some.inj ea1
    clear ea1
    skip
    have hl1 : (O.take p).length = p := by rw [List.length_take]; omega
    have hl2 : (O.drop p).length = O.length - p := List.length_drop
    have b1 : (0 : Int) ≤ (p : Int) := by omega
    have b2 : (p : Int) ≤ (O.length : Int) := by omega
    have b3 : (p : Int) ≤ (cap : Int) := by omega
    cases hg : N1.g 0 with
    | true =>
      have gs : good B H1 (shg N1) := g
      obtain ⟨v1, K1, M1, e1, g1, fr1, _, s1, _⟩ := app_many (bytes := 8) (v := .slice none 0 0) (L := ([] : List Int)) w1_len (by omega) gs (Fr.refl (H := H1)) (.inl ⟨rfl, rfl⟩) hp1 (all1_w1 _) (by simp only [hl1, List.length_nil]; omega) (by simp only [hl1, List.length_nil]; omega)
      obtain ⟨v2, K2, M2, e2, g2, fr2, _, s2, _⟩ := push_specM (bytes := 8) w1_len g1 fr1 s1 k rfl (by simp only [List.nil_append, hl1]; omega) (by simp only [List.nil_append, hl1]; omega)
      obtain ⟨v3, K3, M3, e3, g3, fr3, _, s3, _⟩ := app_many (bytes := 8) w1_len (by omega) g2 fr2 s2.toM (hp2.mono fr2) (all1_w1 _) (by simp only [List.nil_append, List.length_append, hl1, hl2, List.length_cons, List.length_nil]; omega) (by simp only [List.nil_append, List.length_append, hl1, hl2, List.length_cons, List.length_nil]; omega)
      simp only [w1] at e2
      have hR1 := good_rdB g1
      have hB1 := good_B g1
      simp -implicitDefEqProofs (maxSteps := 10000000) (disch := omega) only [T9, L9, G9_15, V15_eq, hB, hR, hI, lb9, kp.l, kp.t0, kp.t3, kp.t4, kp.t5, kp.t6, lenV_sl, Int.toNat_natCast, bft, btf, gtst, st_len, h1, p0, newsV_1, ea2, b1, b2, b3, hg, e1, e2, e3, hR1, hB1, Nat.sub_zero, slA_ite3, Nat.mul_one, pad, e_skip, e_ops, e_draw, e_fork, shg_n, shg_c, shg_g, shg_r, d_none, d_nil, d_cons, d_ite, h_none, h_nil, h_cons, h_ite, eqS_same, lightV, e_seq, e_cond, e_block, e_exit, e_ret, s_normal, s_ret, s_exit, s_none, s_ite, b_normal, b_ret, b_exit, b_none, b_ite, c_bool, x_none, x_nil, x_cons, x_ite, p_some, p_none, p_ite, pt_some, pt_none, pv_some, pv_none, pv_ite, w_none, w_some, i_bool, i_undef, bt, bf, v_tmp, v_const, v_global, v_func, evs, f_normal, f_ret, f_none, f_ite, r_some, co_some, l_ptr, m_agg, m_one, sh_app, lk_nil, lk_cons, rd_eq, rdO_some, rdO_none, rdN_none, rdL_some, rdL_none, wrB_none, unitR_some, wr_nil, wr_here, wr_skip, k_cells, tk_zero, tk_take, tk_skip, tkC_some, call_func, gt, st, binV, arith, isSh, storeV, all1, idxAV, fieldV, faddrV, iaddrSV, iaddrAV, pickV, convV, unV, eqbV, eqpV, extV, mm2, mmV, nilckV, ress, res1, retV, Value.cells, cond_true, cond_false, Bool.true_or, Bool.false_or, Bool.or_true, Bool.or_false, beq_self_eq_true, if_true, if_false, ite_true, ite_false, decide_true, decide_false, decide_eq_true_eq, reduceIte, Nat.zero_add, Nat.add_zero, and_self, true_and, and_true, List.size_toArray, List.length_cons, List.length_nil, List.append_nil, List.nil_append, Int.toNat_zero, Bool.not_false, Bool.not_true, Bool.not_not, Bool.false_eq_true, Bool.true_eq_false, reduceCtorEq, Int.reduceLT, Int.reduceLE, Int.reduceToNat, Int.reduceAdd, Int.reduceSub, Int.reduceMul, Int.reduceNeg, Nat.reduceMul, Nat.reduceAdd, Nat.reduceSub, Nat.reduceBEq, Nat.reduceEqDiff, Nat.reduceLT, Nat.reduceLeDiff, Int.reduceBEq, Int.reduceEq, Nat.reducePow, Int.reducePow, IntWalk.i64_in, IntKind.bits, eqAV, eqL, leafEq, andO, fillV, buildSV, List.getElem?_toArray, List.getElem?_cons_zero, List.getElem?_cons_succ, List.getElem?_nil, Int.reduceGT, Int.reduceGE, Int.reduceBNe, Bool.true_and, Bool.and_true, Bool.false_and, Bool.and_false, Bool.and_self, IntWalk.u64_in, Int.cast_ofNat_Int, callF1, pad16, pad_0, pad_1, pad_2, pad_3, pad_4, pad_5, pad_6, pad_7, pad_8, pad_9, pad_10, pad_11, pad_12, pad_13, pad_14, pad_15, gc0, gc1, gc2, gc3, gc4, gc5, gc6, gc7, gc8, gc9, gc10, gc11, gc12, gc13, gc14, gc15, gcS, sc0, sc1, sc2, sc3, sc4, sc5, sc6, sc7, sc8, sc9, sc10, sc11, sc12, sc13, sc14, sc15, scS, List.drop_succ_cons, List.drop_nil, x_pan, s_pan, b_pan, pE_ret, pE_pan, pE_none, pE_ite, pvE_some, pvE_none, pvE_ite, rv_some, rv_none, rv_ite, oR_ret, t_mv, t_pick, t_alloc, t_box, t_build, t_buildS, t_load, t_store, t_nilck, t_bin, t_eqb, t_eqA, t_eqp, t_un, t_conv, t_field, t_idxA, t_faddr, t_iaddrS, t_iaddrA, t_ext, t_len, t_mm, t_call, t_ifc, t_fn, t_slc, t_slcA, t_slcT, t_tass, t_isn, t_mks, t_app, t_pan, panE_i, optE_none, optE_some, bnd_none, bnd_int, slA_none, slA_some, appR_some, appOld_cells, newsV_n, lenS_s, appV_nil, appV_some, mksV_i, sh_c, sh_g, f_pan, endD_ret, dfr_normal, dfr_ret, dfr_pan, restD_normal, callD1, callC1, tassV, isnV, slcV, slcAV, slcTV, slcB, appNew, Option.bind_some, Option.bind_none, d_pan, h_pan, wrH_eq, wrX_cells, wrU_some, upH_nil, upH_cons, lk_upH, effR_some, effR_none, effR_ite, Option.isNone_none, Option.isNone_some, slA_zero, call_yield, e_range, it_func, wy_same, y_call, isLp_self, beg_normal, end_normal, end_ret, end_exit, end_ite, aft_ret, aft_ready, aft_done, aft_exit, setP_cons, setP_nil, sh_r, t_mkmap, t_mlook, t_mupd, t_mdel, mapF_some, lookF_some, setM_some, lookR_t, lookR_n, lookR_f, lookR_fn, lookV, mupdV, mdelV, mkM]
      have s3 : SlM w1 1 B H1 K3 v3 (O.take p ++ k :: O.drop p) := by simpa using s3
      refine ok_some (.inl ⟨rfl, gMany w - (j + 1), by omega, _, K3, M3, v3, j + 1, rfl, ⟨?_, ?_, ?_, ?_⟩, g3, fr.trans fr3, by rw [hkr]; exact s3.low fr.dm, by omega, rfl⟩)
      all_goals simp (maxSteps := 10000000) (disch := omega) only [kp.l, kp.t0, kp.t3, kp.t4, kp.t5, kp.t6, lenV_sl, Int.toNat_natCast, bft, btf, gtst, st_len, hc1, cond_true, cond_false, Nat.reduceBEq, Nat.reduceLT, decide_true, beq_self_eq_true, if_true, if_false]
    | false =>
      have gs : good B H1 (shg N1) := g
      have gn : good B ((N1.n 0, .cells [.int .u64 k] 1) :: H1) (sh (shg N1)) := good_new gs
      have frn : Fr H1 ((N1.n 0, .cells [.int .u64 k] 1) :: H1) := fr_new gs Fr.refl 0
      have ltop : lk ((N1.n 0, .cells [.int .u64 k] 1) :: H1) (N1.n 0) = some (.cells [.int .u64 k] 1) := lk_top
      have hBn : B (N1.n 0) = none := good_B gs 0
      have rn := fun o n => rdB_none (o := o) (n := n) hBn
      obtain ⟨v1, K1, M1, e1, g1, fr1, fs1, s1, _⟩ := app_many (bytes := 8) (v := .slice none 0 0) (L := ([] : List Int)) w1_len (by omega) gn frn (.inl ⟨rfl, rfl⟩) (hp1.mono frn) (all1_w1 _) (by simp only [hl1, List.length_nil]; omega) (by simp only [hl1, List.length_nil]; omega)
      have lt1 := fs1 _ _ (by simp [slB]) ltop
      obtain ⟨v2, K2, M2, e2, g2, d2, fs2, s2, _⟩ := app_specM (H0 := H1) (bytes := 8) w1_len g1 fr1.dm s1 k rfl (by simp only [List.nil_append, hl1]; omega) (by simp only [List.nil_append, hl1]; omega)
      have fr2 : Fr H1 K2 := fun y c hy => fs2 y c (s1.ne hy) (fr1 y c hy)
      obtain ⟨v3, K3, M3, e3, g3, fr3, _, s3, _⟩ := app_many (bytes := 8) w1_len (by omega) g2 fr2 s2.toM (hp2.mono fr2) (all1_w1 _) (by simp only [List.nil_append, List.length_append, hl1, hl2, List.length_cons, List.length_nil]; omega) (by simp only [List.nil_append, List.length_append, hl1, hl2, List.length_cons, List.length_nil]; omega)
      simp only [w1] at e2
      simp -implicitDefEqProofs (maxSteps := 10000000) (disch := omega) only [T9, L9, G9_15, V15_eq, hB, hR, hI, lb9, kp.l, kp.t0, kp.t3, kp.t4, kp.t5, kp.t6, lenV_sl, Int.toNat_natCast, bft, btf, gtst, st_len, h1, p0, newsV_1, ea2, b1, b2, b3, hg, e1, e2, e3, rn, hBn, lt1, Nat.sub_zero, slA_ite3, Nat.mul_one, pad, e_skip, e_ops, e_draw, e_fork, shg_n, shg_c, shg_g, shg_r, d_none, d_nil, d_cons, d_ite, h_none, h_nil, h_cons, h_ite, eqS_same, lightV, e_seq, e_cond, e_block, e_exit, e_ret, s_normal, s_ret, s_exit, s_none, s_ite, b_normal, b_ret, b_exit, b_none, b_ite, c_bool, x_none, x_nil, x_cons, x_ite, p_some, p_none, p_ite, pt_some, pt_none, pv_some, pv_none, pv_ite, w_none, w_some, i_bool, i_undef, bt, bf, v_tmp, v_const, v_global, v_func, evs, f_normal, f_ret, f_none, f_ite, r_some, co_some, l_ptr, m_agg, m_one, sh_app, lk_nil, lk_cons, rd_eq, rdO_some, rdO_none, rdN_none, rdL_some, rdL_none, wrB_none, unitR_some, wr_nil, wr_here, wr_skip, k_cells, tk_zero, tk_take, tk_skip, tkC_some, call_func, gt, st, binV, arith, isSh, storeV, all1, idxAV, fieldV, faddrV, iaddrSV, iaddrAV, pickV, convV, unV, eqbV, eqpV, extV, mm2, mmV, nilckV, ress, res1, retV, Value.cells, cond_true, cond_false, Bool.true_or, Bool.false_or, Bool.or_true, Bool.or_false, beq_self_eq_true, if_true, if_false, ite_true, ite_false, decide_true, decide_false, decide_eq_true_eq, reduceIte, Nat.zero_add, Nat.add_zero, and_self, true_and, and_true, List.size_toArray, List.length_cons, List.length_nil, List.append_nil, List.nil_append, Int.toNat_zero, Bool.not_false, Bool.not_true, Bool.not_not, Bool.false_eq_true, Bool.true_eq_false, reduceCtorEq, Int.reduceLT, Int.reduceLE, Int.reduceToNat, Int.reduceAdd, Int.reduceSub, Int.reduceMul, Int.reduceNeg, Nat.reduceMul, Nat.reduceAdd, Nat.reduceSub, Nat.reduceBEq, Nat.reduceEqDiff, Nat.reduceLT, Nat.reduceLeDiff, Int.reduceBEq, Int.reduceEq, Nat.reducePow, Int.reducePow, IntWalk.i64_in, IntKind.bits, eqAV, eqL, leafEq, andO, fillV, buildSV, List.getElem?_toArray, List.getElem?_cons_zero, List.getElem?_cons_succ, List.getElem?_nil, Int.reduceGT, Int.reduceGE, Int.reduceBNe, Bool.true_and, Bool.and_true, Bool.false_and, Bool.and_false, Bool.and_self, IntWalk.u64_in, Int.cast_ofNat_Int, callF1, pad16, pad_0, pad_1, pad_2, pad_3, pad_4, pad_5, pad_6, pad_7, pad_8, pad_9, pad_10, pad_11, pad_12, pad_13, pad_14, pad_15, gc0, gc1, gc2, gc3, gc4, gc5, gc6, gc7, gc8, gc9, gc10, gc11, gc12, gc13, gc14, gc15, gcS, sc0, sc1, sc2, sc3, sc4, sc5, sc6, sc7, sc8, sc9, sc10, sc11, sc12, sc13, sc14, sc15, scS, List.drop_succ_cons, List.drop_nil, x_pan, s_pan, b_pan, pE_ret, pE_pan, pE_none, pE_ite, pvE_some, pvE_none, pvE_ite, rv_some, rv_none, rv_ite, oR_ret, t_mv, t_pick, t_alloc, t_box, t_build, t_buildS, t_load, t_store, t_nilck, t_bin, t_eqb, t_eqA, t_eqp, t_un, t_conv, t_field, t_idxA, t_faddr, t_iaddrS, t_iaddrA, t_ext, t_len, t_mm, t_call, t_ifc, t_fn, t_slc, t_slcA, t_slcT, t_tass, t_isn, t_mks, t_app, t_pan, panE_i, optE_none, optE_some, bnd_none, bnd_int, slA_none, slA_some, appR_some, appOld_cells, newsV_n, lenS_s, appV_nil, appV_some, mksV_i, sh_c, sh_g, f_pan, endD_ret, dfr_normal, dfr_ret, dfr_pan, restD_normal, callD1, callC1, tassV, isnV, slcV, slcAV, slcTV, slcB, appNew, Option.bind_some, Option.bind_none, d_pan, h_pan, wrH_eq, wrX_cells, wrU_some, upH_nil, upH_cons, lk_upH, effR_some, effR_none, effR_ite, Option.isNone_none, Option.isNone_some, slA_zero, call_yield, e_range, it_func, wy_same, y_call, isLp_self, beg_normal, end_normal, end_ret, end_exit, end_ite, aft_ret, aft_ready, aft_done, aft_exit, setP_cons, setP_nil, sh_r, t_mkmap, t_mlook, t_mupd, t_mdel, mapF_some, lookF_some, setM_some, lookR_t, lookR_n, lookR_f, lookR_fn, lookV, mupdV, mdelV, mkM]
      have s3 : SlM w1 1 B H1 K3 v3 (O.take p ++ k :: O.drop p) := by simpa using s3
      refine ok_some (.inl ⟨rfl, gMany w - (j + 1), by omega, _, K3, M3, v3, j + 1, rfl, ⟨?_, ?_, ?_, ?_⟩, g3, fr.trans fr3, by rw [hkr]; exact s3.low fr.dm, by omega, rfl⟩)
      all_goals simp (maxSteps := 10000000) (disch := omega) only [kp.l, kp.t0, kp.t3, kp.t4, kp.t5, kp.t6, lenV_sl, Int.toNat_natCast, bft, btf, gtst, st_len, hc1, cond_true, cond_false, Nat.reduceBEq, Nat.reduceLT, decide_true, beq_self_eq_true, if_true, if_false]
  · obtain ⟨bo, oo, co, eo, _, ro⟩ := hrd.at (by omega)
    injection eo with eo1 eo2 eo3
    subst eo1
    have rp : rdO H1 B bo (oo + p) 1 (rdB B bo (oo + p) 1) = some [.int .u64 (O.getD p 0)] := by
      have := ro H1 Fr.refl p 0 1 0 hpl (by omega)
      rw [Nat.mul_one, Nat.add_zero] at this
      exact this.trans rfl
    by_cases he : O.getD p 0 = k
    · rw [if_pos ⟨hpl, he⟩] at hkr
      rw [he] at rp
      have hc : True := trivial
      simp -implicitDefEqProofs (maxSteps := 10000000) (disch := omega) only [T9, L9, G9_15, V15_eq, hB, hR, hI, lb9, kp.l, kp.t0, kp.t3, kp.t4, kp.t5, kp.t6, lenV_sl, Int.toNat_natCast, bft, btf, gtst, st_len, h1, hpl, p0, rp, Nat.mul_one, beq_self_eq_true, pad, e_skip, e_ops, e_draw, e_fork, shg_n, shg_c, shg_g, shg_r, d_none, d_nil, d_cons, d_ite, h_none, h_nil, h_cons, h_ite, eqS_same, lightV, e_seq, e_cond, e_block, e_exit, e_ret, s_normal, s_ret, s_exit, s_none, s_ite, b_normal, b_ret, b_exit, b_none, b_ite, c_bool, x_none, x_nil, x_cons, x_ite, p_some, p_none, p_ite, pt_some, pt_none, pv_some, pv_none, pv_ite, w_none, w_some, i_bool, i_undef, bt, bf, v_tmp, v_const, v_global, v_func, evs, f_normal, f_ret, f_none, f_ite, r_some, co_some, l_ptr, m_agg, m_one, sh_app, lk_nil, lk_cons, rd_eq, rdO_some, rdO_none, rdN_none, rdL_some, rdL_none, wrB_none, unitR_some, wr_nil, wr_here, wr_skip, k_cells, tk_zero, tk_take, tk_skip, tkC_some, call_func, gt, st, binV, arith, isSh, storeV, all1, idxAV, fieldV, faddrV, iaddrSV, iaddrAV, pickV, convV, unV, eqbV, eqpV, extV, mm2, mmV, nilckV, ress, res1, retV, Value.cells, cond_true, cond_false, Bool.true_or, Bool.false_or, Bool.or_true, Bool.or_false, beq_self_eq_true, if_true, if_false, ite_true, ite_false, decide_true, decide_false, decide_eq_true_eq, reduceIte, Nat.zero_add, Nat.add_zero, and_self, true_and, and_true, List.size_toArray, List.length_cons, List.length_nil, List.append_nil, List.nil_append, Int.toNat_zero, Bool.not_false, Bool.not_true, Bool.not_not, Bool.false_eq_true, Bool.true_eq_false, reduceCtorEq, Int.reduceLT, Int.reduceLE, Int.reduceToNat, Int.reduceAdd, Int.reduceSub, Int.reduceMul, Int.reduceNeg, Nat.reduceMul, Nat.reduceAdd, Nat.reduceSub, Nat.reduceBEq, Nat.reduceEqDiff, Nat.reduceLT, Nat.reduceLeDiff, Int.reduceBEq, Int.reduceEq, Nat.reducePow, Int.reducePow, IntWalk.i64_in, IntKind.bits, eqAV, eqL, leafEq, andO, fillV, buildSV, List.getElem?_toArray, List.getElem?_cons_zero, List.getElem?_cons_succ, List.getElem?_nil, Int.reduceGT, Int.reduceGE, Int.reduceBNe, Bool.true_and, Bool.and_true, Bool.false_and, Bool.and_false, Bool.and_self, IntWalk.u64_in, Int.cast_ofNat_Int, callF1, pad16, pad_0, pad_1, pad_2, pad_3, pad_4, pad_5, pad_6, pad_7, pad_8, pad_9, pad_10, pad_11, pad_12, pad_13, pad_14, pad_15, gc0, gc1, gc2, gc3, gc4, gc5, gc6, gc7, gc8, gc9, gc10, gc11, gc12, gc13, gc14, gc15, gcS, sc0, sc1, sc2, sc3, sc4, sc5, sc6, sc7, sc8, sc9, sc10, sc11, sc12, sc13, sc14, sc15, scS, List.drop_succ_cons, List.drop_nil, x_pan, s_pan, b_pan, pE_ret, pE_pan, pE_none, pE_ite, pvE_some, pvE_none, pvE_ite, rv_some, rv_none, rv_ite, oR_ret, t_mv, t_pick, t_alloc, t_box, t_build, t_buildS, t_load, t_store, t_nilck, t_bin, t_eqb, t_eqA, t_eqp, t_un, t_conv, t_field, t_idxA, t_faddr, t_iaddrS, t_iaddrA, t_ext, t_len, t_mm, t_call, t_ifc, t_fn, t_slc, t_slcA, t_slcT, t_tass, t_isn, t_mks, t_app, t_pan, panE_i, optE_none, optE_some, bnd_none, bnd_int, slA_none, slA_some, appR_some, appOld_cells, newsV_s, newsV_n, lenS_s, appV_nil, appV_some, mksV_i, sh_c, sh_g, f_pan, endD_ret, dfr_normal, dfr_ret, dfr_pan, restD_normal, callD1, callC1, tassV, isnV, slcV, slcAV, slcTV, slcB, appNew, Option.bind_some, Option.bind_none, d_pan, h_pan, wrH_eq, wrX_cells, wrU_some, upH_nil, upH_cons, lk_upH, effR_some, effR_none, effR_ite, Option.isNone_none, Option.isNone_some, slA_zero, call_yield, e_range, it_func, wy_same, y_call, isLp_self, beg_normal, end_normal, end_ret, end_exit, end_ite, aft_ret, aft_ready, aft_done, aft_exit, setP_cons, setP_nil, sh_r, t_mkmap, t_mlook, t_mupd, t_mdel, mapF_some, lookF_some, setM_some, lookR_t, lookR_n, lookR_f, lookR_fn, lookV, mupdV, mdelV, mkM]
      refine ok_some (.inl ⟨rfl, gMany w - (j + 1), by omega, _, H1, N1, _, j + 1, rfl, ⟨?_, ?_, ?_, ?_⟩, g, fr, by rw [hkr]; exact so, by omega, rfl⟩)
      all_goals simp (maxSteps := 10000000) (disch := omega) only [kp.l, kp.t0, kp.t3, kp.t4, kp.t5, kp.t6, lenV_sl, Int.toNat_natCast, bft, btf, gtst, st_len, hc1, cond_true, cond_false, Nat.reduceBEq, Nat.reduceLT, decide_true, beq_self_eq_true, if_true, if_false]
    · rw [if_neg (fun h => he h.2)] at hkr
      have h1f : (O.getD p 0 == k) = false := beqI he
      generalize O.getD p 0 = op at rp h1f
      have hcp : ¬ cap = p := by omega
      obtain ⟨a1, ea1, hp1⟩ := hW.part w1_len (i := 0) (k := p) (by omega)
      obtain ⟨a2, ea2, hp2⟩ := hW.part w1_len (i := p) (k := O.length - p) (by omega)
      have hp1 := hp1 cap (by omega)
      have hp2 := hp2 (cap - p) (by omega)
      rw [List.drop_zero] at hp1
      rw [List.take_of_length_le (by rw [List.length_drop]; exact Nat.le_refl _)] at hp2
      simp only [Nat.mul_one] at ea1 ea2
      rw [slA_ite3] at ea1
      obtain rfl := Option.some.inj ea1
      clear ea1
      simp only [if_neg hcp, slA_some, Option.some.injEq] at ea2; subst ea2
      have hl1 : (O.take p).length = p := by rw [List.length_take]; omega
      have hl2 : (O.drop p).length = O.length - p := List.length_drop
      have b1 : (0 : Int) ≤ (p : Int) := by omega
      have b2 : (p : Int) ≤ (O.length : Int) := by omega
      have b3 : (p : Int) ≤ (cap : Int) := by omega
      cases hg : N1.g 0 with
      | true =>
        have gs : good B H1 (shg N1) := g
        obtain ⟨v1, K1, M1, e1, g1, fr1, _, s1, _⟩ := app_many (bytes := 8) (v := .slice none 0 0) (L := ([] : List Int)) w1_len (by omega) gs (Fr.refl (H := H1)) (.inl ⟨rfl, rfl⟩) hp1 (all1_w1 _) (by simp only [hl1, List.length_nil]; omega) (by simp only [hl1, List.length_nil]; omega)
        obtain ⟨v2, K2, M2, e2, g2, fr2, _, s2, _⟩ := push_specM (bytes := 8) w1_len g1 fr1 s1 k rfl (by simp only [List.nil_append, hl1]; omega) (by simp only [List.nil_append, hl1]; omega)
        obtain ⟨v3, K3, M3, e3, g3, fr3, _, s3, _⟩ := app_many (bytes := 8) w1_len (by omega) g2 fr2 s2.toM (hp2.mono fr2) (all1_w1 _) (by simp only [List.nil_append, List.length_append, hl1, hl2, List.length_cons, List.length_nil]; omega) (by simp only [List.nil_append, List.length_append, hl1, hl2, List.length_cons, List.length_nil]; omega)
        simp only [w1] at e2
        have hR1 := good_rdB g1
        have hB1 := good_B g1
        simp -implicitDefEqProofs (maxSteps := 10000000) (disch := omega) only [T9, L9, G9_15, V15_eq, hB, hR, hI, lb9, kp.l, kp.t0, kp.t3, kp.t4, kp.t5, kp.t6, lenV_sl, Int.toNat_natCast, bft, btf, gtst, st_len, h1, h1f, hpl, p0, rp, hcp, ite_self, Nat.add_zero, newsV_1, b1, b2, b3, hg, e1, e2, e3, hR1, hB1, Nat.sub_zero, slA_ite3, Nat.mul_one, pad, e_skip, e_ops, e_draw, e_fork, shg_n, shg_c, shg_g, shg_r, d_none, d_nil, d_cons, d_ite, h_none, h_nil, h_cons, h_ite, eqS_same, lightV, e_seq, e_cond, e_block, e_exit, e_ret, s_normal, s_ret, s_exit, s_none, s_ite, b_normal, b_ret, b_exit, b_none, b_ite, c_bool, x_none, x_nil, x_cons, x_ite, p_some, p_none, p_ite, pt_some, pt_none, pv_some, pv_none, pv_ite, w_none, w_some, i_bool, i_undef, bt, bf, v_tmp, v_const, v_global, v_func, evs, f_normal, f_ret, f_none, f_ite, r_some, co_some, l_ptr, m_agg, m_one, sh_app, lk_nil, lk_cons, rd_eq, rdO_some, rdO_none, rdN_none, rdL_some, rdL_none, wrB_none, unitR_some, wr_nil, wr_here, wr_skip, k_cells, tk_zero, tk_take, tk_skip, tkC_some, call_func, gt, st, binV, arith, isSh, storeV, all1, idxAV, fieldV, faddrV, iaddrSV, iaddrAV, pickV, convV, unV, eqbV, eqpV, extV, mm2, mmV, nilckV, ress, res1, retV, Value.cells, cond_true, cond_false, Bool.true_or, Bool.false_or, Bool.or_true, Bool.or_false, beq_self_eq_true, if_true, if_false, ite_true, ite_false, decide_true, decide_false, decide_eq_true_eq, reduceIte, Nat.zero_add, Nat.add_zero, and_self, true_and, and_true, List.size_toArray, List.length_cons, List.length_nil, List.append_nil, List.nil_append, Int.toNat_zero, Bool.not_false, Bool.not_true, Bool.not_not, Bool.false_eq_true, Bool.true_eq_false, reduceCtorEq, Int.reduceLT, Int.reduceLE, Int.reduceToNat, Int.reduceAdd, Int.reduceSub, Int.reduceMul, Int.reduceNeg, Nat.reduceMul, Nat.reduceAdd, Nat.reduceSub, Nat.reduceBEq, Nat.reduceEqDiff, Nat.reduceLT, Nat.reduceLeDiff, Int.reduceBEq, Int.reduceEq, Nat.reducePow, Int.reducePow, IntWalk.i64_in, IntKind.bits, eqAV, eqL, leafEq, andO, fillV, buildSV, List.getElem?_toArray, List.getElem?_cons_zero, List.getElem?_cons_succ, List.getElem?_nil, Int.reduceGT, Int.reduceGE, Int.reduceBNe, Bool.true_and, Bool.and_true, Bool.false_and, Bool.and_false, Bool.and_self, IntWalk.u64_in, Int.cast_ofNat_Int, callF1, pad16, pad_0, pad_1, pad_2, pad_3, pad_4, pad_5, pad_6, pad_7, pad_8, pad_9, pad_10, pad_11, pad_12, pad_13, pad_14, pad_15, gc0, gc1, gc2, gc3, gc4, gc5, gc6, gc7, gc8, gc9, gc10, gc11, gc12, gc13, gc14, gc15, gcS, sc0, sc1, sc2, sc3, sc4, sc5, sc6, sc7, sc8, sc9, sc10, sc11, sc12, sc13, sc14, sc15, scS, List.drop_succ_cons, List.drop_nil, x_pan, s_pan, b_pan, pE_ret, pE_pan, pE_none, pE_ite, pvE_some, pvE_none, pvE_ite, rv_some, rv_none, rv_ite, oR_ret, t_mv, t_pick, t_alloc, t_box, t_build, t_buildS, t_load, t_store, t_nilck, t_bin, t_eqb, t_eqA, t_eqp, t_un, t_conv, t_field, t_idxA, t_faddr, t_iaddrS, t_iaddrA, t_ext, t_len, t_mm, t_call, t_ifc, t_fn, t_slc, t_slcA, t_slcT, t_tass, t_isn, t_mks, t_app, t_pan, panE_i, optE_none, optE_some, bnd_none, bnd_int, slA_none, slA_some, appR_some, appOld_cells, newsV_n, lenS_s, appV_nil, appV_some, mksV_i, sh_c, sh_g, f_pan, endD_ret, dfr_normal, dfr_ret, dfr_pan, restD_normal, callD1, callC1, tassV, isnV, slcV, slcAV, slcTV, slcB, appNew, Option.bind_some, Option.bind_none, d_pan, h_pan, wrH_eq, wrX_cells, wrU_some, upH_nil, upH_cons, lk_upH, effR_some, effR_none, effR_ite, Option.isNone_none, Option.isNone_some, slA_zero, call_yield, e_range, it_func, wy_same, y_call, isLp_self, beg_normal, end_normal, end_ret, end_exit, end_ite, aft_ret, aft_ready, aft_done, aft_exit, setP_cons, setP_nil, sh_r, t_mkmap, t_mlook, t_mupd, t_mdel, mapF_some, lookF_some, setM_some, lookR_t, lookR_n, lookR_f, lookR_fn, lookV, mupdV, mdelV, mkM]
        have s3 : SlM w1 1 B H1 K3 v3 (O.take p ++ k :: O.drop p) := by simpa using s3
        refine ok_some (.inl ⟨rfl, gMany w - (j + 1), by omega, _, K3, M3, v3, j + 1, rfl, ⟨?_, ?_, ?_, ?_⟩, g3, fr.trans fr3, by rw [hkr]; exact s3.low fr.dm, by omega, rfl⟩)
        all_goals simp (maxSteps := 10000000) (disch := omega) only [kp.l, kp.t0, kp.t3, kp.t4, kp.t5, kp.t6, lenV_sl, Int.toNat_natCast, bft, btf, gtst, st_len, hc1, cond_true, cond_false, Nat.reduceBEq, Nat.reduceLT, decide_true, beq_self_eq_true, if_true, if_false]
      | false =>
        have gs : good B H1 (shg N1) := g
        have gn : good B ((N1.n 0, .cells [.int .u64 k] 1) :: H1) (sh (shg N1)) := good_new gs
        have frn : Fr H1 ((N1.n 0, .cells [.int .u64 k] 1) :: H1) := fr_new gs Fr.refl 0
        have ltop : lk ((N1.n 0, .cells [.int .u64 k] 1) :: H1) (N1.n 0) = some (.cells [.int .u64 k] 1) := lk_top
        have hBn : B (N1.n 0) = none := good_B gs 0
        have rn := fun o n => rdB_none (o := o) (n := n) hBn
        obtain ⟨v1, K1, M1, e1, g1, fr1, fs1, s1, _⟩ := app_many (bytes := 8) (v := .slice none 0 0) (L := ([] : List Int)) w1_len (by omega) gn frn (.inl ⟨rfl, rfl⟩) (hp1.mono frn) (all1_w1 _) (by simp only [hl1, List.length_nil]; omega) (by simp only [hl1, List.length_nil]; omega)
        have lt1 := fs1 _ _ (by simp [slB]) ltop
        obtain ⟨v2, K2, M2, e2, g2, d2, fs2, s2, _⟩ := app_specM (H0 := H1) (bytes := 8) w1_len g1 fr1.dm s1 k rfl (by simp only [List.nil_append, hl1]; omega) (by simp only [List.nil_append, hl1]; omega)
        have fr2 : Fr H1 K2 := fun y c hy => fs2 y c (s1.ne hy) (fr1 y c hy)
        obtain ⟨v3, K3, M3, e3, g3, fr3, _, s3, _⟩ := app_many (bytes := 8) w1_len (by omega) g2 fr2 s2.toM (hp2.mono fr2) (all1_w1 _) (by simp only [List.nil_append, List.length_append, hl1, hl2, List.length_cons, List.length_nil]; omega) (by simp only [List.nil_append, List.length_append, hl1, hl2, List.length_cons, List.length_nil]; omega)
        simp only [w1] at e2
        simp -implicitDefEqProofs (maxSteps := 10000000) (disch := omega) only [T9, L9, G9_15, V15_eq, hB, hR, hI, lb9, kp.l, kp.t0, kp.t3, kp.t4, kp.t5, kp.t6, lenV_sl, Int.toNat_natCast, bft, btf, gtst, st_len, h1, h1f, hpl, p0, rp, hcp, ite_self, Nat.add_zero, newsV_1, b1, b2, b3, hg, e1, e2, e3, rn, hBn, lt1, Nat.sub_zero, slA_ite3, Nat.mul_one, pad, e_skip, e_ops, e_draw, e_fork, shg_n, shg_c, shg_g, shg_r, d_none, d_nil, d_cons, d_ite, h_none, h_nil, h_cons, h_ite, eqS_same, lightV, e_seq, e_cond, e_block, e_exit, e_ret, s_normal, s_ret, s_exit, s_none, s_ite, b_normal, b_ret, b_exit, b_none, b_ite, c_bool, x_none, x_nil, x_cons, x_ite, p_some, p_none, p_ite, pt_some, pt_none, pv_some, pv_none, pv_ite, w_none, w_some, i_bool, i_undef, bt, bf, v_tmp, v_const, v_global, v_func, evs, f_normal, f_ret, f_none, f_ite, r_some, co_some, l_ptr, m_agg, m_one, sh_app, lk_nil, lk_cons, rd_eq, rdO_some, rdO_none, rdN_none, rdL_some, rdL_none, wrB_none, unitR_some, wr_nil, wr_here, wr_skip, k_cells, tk_zero, tk_take, tk_skip, tkC_some, call_func, gt, st, binV, arith, isSh, storeV, all1, idxAV, fieldV, faddrV, iaddrSV, iaddrAV, pickV, convV, unV, eqbV, eqpV, extV, mm2, mmV, nilckV, ress, res1, retV, Value.cells, cond_true, cond_false, Bool.true_or, Bool.false_or, Bool.or_true, Bool.or_false, beq_self_eq_true, if_true, if_false, ite_true, ite_false, decide_true, decide_false, decide_eq_true_eq, reduceIte, Nat.zero_add, Nat.add_zero, and_self, true_and, and_true, List.size_toArray, List.length_cons, List.length_nil, List.append_nil, List.nil_append, Int.toNat_zero, Bool.not_false, Bool.not_true, Bool.not_not, Bool.false_eq_true, Bool.true_eq_false, reduceCtorEq, Int.reduceLT, Int.reduceLE, Int.reduceToNat, Int.reduceAdd, Int.reduceSub, Int.reduceMul, Int.reduceNeg, Nat.reduceMul, Nat.reduceAdd, Nat.reduceSub, Nat.reduceBEq, Nat.reduceEqDiff, Nat.reduceLT, Nat.reduceLeDiff, Int.reduceBEq, Int.reduceEq, Nat.reducePow, Int.reducePow, IntWalk.i64_in, IntKind.bits, eqAV, eqL, leafEq, andO, fillV, buildSV, List.getElem?_toArray, List.getElem?_cons_zero, List.getElem?_cons_succ, List.getElem?_nil, Int.reduceGT, Int.reduceGE, Int.reduceBNe, Bool.true_and, Bool.and_true, Bool.false_and, Bool.and_false, Bool.and_self, IntWalk.u64_in, Int.cast_ofNat_Int, callF1, pad16, pad_0, pad_1, pad_2, pad_3, pad_4, pad_5, pad_6, pad_7, pad_8, pad_9, pad_10, pad_11, pad_12, pad_13, pad_14, pad_15, gc0, gc1, gc2, gc3, gc4, gc5, gc6, gc7, gc8, gc9, gc10, gc11, gc12, gc13, gc14, gc15, gcS, sc0, sc1, sc2, sc3, sc4, sc5, sc6, sc7, sc8, sc9, sc10, sc11, sc12, sc13, sc14, sc15, scS, List.drop_succ_cons, List.drop_nil, x_pan, s_pan, b_pan, pE_ret, pE_pan, pE_none, pE_ite, pvE_some, pvE_none, pvE_ite, rv_some, rv_none, rv_ite, oR_ret, t_mv, t_pick, t_alloc, t_box, t_build, t_buildS, t_load, t_store, t_nilck, t_bin, t_eqb, t_eqA, t_eqp, t_un, t_conv, t_field, t_idxA, t_faddr, t_iaddrS, t_iaddrA, t_ext, t_len, t_mm, t_call, t_ifc, t_fn, t_slc, t_slcA, t_slcT, t_tass, t_isn, t_mks, t_app, t_pan, panE_i, optE_none, optE_some, bnd_none, bnd_int, slA_none, slA_some, appR_some, appOld_cells, newsV_n, lenS_s, appV_nil, appV_some, mksV_i, sh_c, sh_g, f_pan, endD_ret, dfr_normal, dfr_ret, dfr_pan, restD_normal, callD1, callC1, tassV, isnV, slcV, slcAV, slcTV, slcB, appNew, Option.bind_some, Option.bind_none, d_pan, h_pan, wrH_eq, wrX_cells, wrU_some, upH_nil, upH_cons, lk_upH, effR_some, effR_none, effR_ite, Option.isNone_none, Option.isNone_some, slA_zero, call_yield, e_range, it_func, wy_same, y_call, isLp_self, beg_normal, end_normal, end_ret, end_exit, end_ite, aft_ret, aft_ready, aft_done, aft_exit, setP_cons, setP_nil, sh_r, t_mkmap, t_mlook, t_mupd, t_mdel, mapF_some, lookF_some, setM_some, lookR_t, lookR_n, lookR_f, lookR_fn, lookV, mupdV, mdelV, mkM]
        have s3 : SlM w1 1 B H1 K3 v3 (O.take p ++ k :: O.drop p) := by simpa using s3
        refine ok_some (.inl ⟨rfl, gMany w - (j + 1), by omega, _, K3, M3, v3, j + 1, rfl, ⟨?_, ?_, ?_, ?_⟩, g3, fr.trans fr3, by rw [hkr]; exact s3.low fr.dm, by omega, rfl⟩)
        all_goals simp (maxSteps := 10000000) (disch := omega) only [kp.l, kp.t0, kp.t3, kp.t4, kp.t5, kp.t6, lenV_sl, Int.toNat_natCast, bft, btf, gtst, st_len, hc1, cond_true, cond_false, Nat.reduceBEq, Nat.reduceLT, decide_true, beq_self_eq_true, if_true, if_false]
set_option maxHeartbeats 4000000 in
theorem keys9 {B : OH} {H : HL} {N : St} {v : Value} {w : List Int} (hN : good B H N) (hv : SlR f1 1 B H v w) (hw : I64s w) :
    ∃ v' H' N', V9 B [v] H N = some (.ret v', H', N') ∧ good B H' N' ∧ Fr H H' ∧ SlM w1 1 B H H' v' (gKeys w) := by
  have hB := good_B hN
  have hR := good_rdB hN
  have hI := beqN hN.1.1
  have hgm : gMany w ≤ 20 := by unfold gMany; omega
  unfold V9
  simp -implicitDefEqProofs (maxSteps := 10000000) (disch := omega) only [T9, L9, G9_15, V15_eq, hB, hR, hI, lenV_sl, Int.toNat_natCast, bft, btf, gtst, st_len, pad, e_skip, e_ops, e_draw, e_fork, shg_n, shg_c, shg_g, shg_r, d_none, d_nil, d_cons, d_ite, h_none, h_nil, h_cons, h_ite, eqS_same, lightV, e_seq, e_cond, e_block, e_exit, e_ret, s_normal, s_ret, s_exit, s_none, s_ite, b_normal, b_ret, b_exit, b_none, b_ite, c_bool, x_none, x_nil, x_cons, x_ite, p_some, p_none, p_ite, pt_some, pt_none, pv_some, pv_none, pv_ite, w_none, w_some, i_bool, i_undef, bt, bf, v_tmp, v_const, v_global, v_func, evs, f_normal, f_ret, f_none, f_ite, r_some, co_some, l_ptr, m_agg, m_one, sh_app, lk_nil, lk_cons, rd_eq, rdO_some, rdO_none, rdN_none, rdL_some, rdL_none, wrB_none, unitR_some, wr_nil, wr_here, wr_skip, k_cells, tk_zero, tk_take, tk_skip, tkC_some, call_func, gt, st, binV, arith, isSh, storeV, all1, idxAV, fieldV, faddrV, iaddrSV, iaddrAV, pickV, convV, unV, eqbV, eqpV, extV, mm2, mmV, nilckV, ress, res1, retV, Value.cells, cond_true, cond_false, Bool.true_or, Bool.false_or, Bool.or_true, Bool.or_false, beq_self_eq_true, if_true, if_false, ite_true, ite_false, decide_true, decide_false, decide_eq_true_eq, reduceIte, Nat.zero_add, Nat.add_zero, and_self, true_and, and_true, List.size_toArray, List.length_cons, List.length_nil, List.append_nil, List.nil_append, Int.toNat_zero, Bool.not_false, Bool.not_true, Bool.not_not, Bool.false_eq_true, Bool.true_eq_false, reduceCtorEq, Int.reduceLT, Int.reduceLE, Int.reduceToNat, Int.reduceAdd, Int.reduceSub, Int.reduceMul, Int.reduceNeg, Nat.reduceMul, Nat.reduceAdd, Nat.reduceSub, Nat.reduceBEq, Nat.reduceEqDiff, Nat.reduceLT, Nat.reduceLeDiff, Int.reduceBEq, Int.reduceEq, Nat.reducePow, Int.reducePow, IntWalk.i64_in, IntKind.bits, eqAV, eqL, leafEq, andO, fillV, buildSV, List.getElem?_toArray, List.getElem?_cons_zero, List.getElem?_cons_succ, List.getElem?_nil, Int.reduceGT, Int.reduceGE, Int.reduceBNe, Bool.true_and, Bool.and_true, Bool.false_and, Bool.and_false, Bool.and_self, IntWalk.u64_in, Int.cast_ofNat_Int, callF1, pad16, pad_0, pad_1, pad_2, pad_3, pad_4, pad_5, pad_6, pad_7, pad_8, pad_9, pad_10, pad_11, pad_12, pad_13, pad_14, pad_15, gc0, gc1, gc2, gc3, gc4, gc5, gc6, gc7, gc8, gc9, gc10, gc11, gc12, gc13, gc14, gc15, gcS, sc0, sc1, sc2, sc3, sc4, sc5, sc6, sc7, sc8, sc9, sc10, sc11, sc12, sc13, sc14, sc15, scS, List.drop_succ_cons, List.drop_nil, x_pan, s_pan, b_pan, pE_ret, pE_pan, pE_none, pE_ite, pvE_some, pvE_none, pvE_ite, rv_some, rv_none, rv_ite, oR_ret, t_mv, t_pick, t_alloc, t_box, t_build, t_buildS, t_load, t_store, t_nilck, t_bin, t_eqb, t_eqA, t_eqp, t_un, t_conv, t_field, t_idxA, t_faddr, t_iaddrS, t_iaddrA, t_ext, t_len, t_mm, t_call, t_ifc, t_fn, t_slc, t_slcA, t_slcT, t_tass, t_isn, t_mks, t_app, t_pan, panE_i, optE_none, optE_some, bnd_none, bnd_int, slA_none, slA_some, appR_some, appOld_cells, newsV_s, newsV_n, lenS_s, appV_nil, appV_some, mksV_i, sh_c, sh_g, f_pan, endD_ret, dfr_normal, dfr_ret, dfr_pan, restD_normal, callD1, callC1, tassV, isnV, slcV, slcAV, slcTV, slcB, appNew, Option.bind_some, Option.bind_none, d_pan, h_pan, wrH_eq, wrX_cells, wrU_some, upH_nil, upH_cons, lk_upH, effR_some, effR_none, effR_ite, Option.isNone_none, Option.isNone_some, slA_zero, call_yield, e_range, it_func, wy_same, y_call, isLp_self, beg_normal, end_normal, end_ret, end_exit, end_ite, aft_ret, aft_ready, aft_done, aft_exit, setP_cons, setP_nil, sh_r, t_mkmap, t_mlook, t_mupd, t_mdel, mapF_some, lookF_some, setM_some, lookR_t, lookR_n, lookR_f, lookR_fn, lookV, mupdV, mdelV, mkM]
  generalize hX : exec B _ _ (LC.loop _) _ = o
  obtain ⟨x, ⟨ts2, H2, N2⟩, ho, rfl, g, f, vo, kp, s⟩ := (show Ok o _ by rw [← hX]; exact loop9 hv hw hN ⟨rfl, rfl, rfl, rfl⟩ (by omega))
  subst ho
  simp only at kp g f s
  simp -implicitDefEqProofs (maxSteps := 10000000) (disch := omega) only [T9, L9, G9_15, V15_eq, hB, hR, hI, kp.l, kp.t0, kp.t3, kp.t4, lenV_sl, Int.toNat_natCast, bft, btf, gtst, st_len, pad, e_skip, e_ops, e_draw, e_fork, shg_n, shg_c, shg_g, shg_r, d_none, d_nil, d_cons, d_ite, h_none, h_nil, h_cons, h_ite, eqS_same, lightV, e_seq, e_cond, e_block, e_exit, e_ret, s_normal, s_ret, s_exit, s_none, s_ite, b_normal, b_ret, b_exit, b_none, b_ite, c_bool, x_none, x_nil, x_cons, x_ite, p_some, p_none, p_ite, pt_some, pt_none, pv_some, pv_none, pv_ite, w_none, w_some, i_bool, i_undef, bt, bf, v_tmp, v_const, v_global, v_func, evs, f_normal, f_ret, f_none, f_ite, r_some, co_some, l_ptr, m_agg, m_one, sh_app, lk_nil, lk_cons, rd_eq, rdO_some, rdO_none, rdN_none, rdL_some, rdL_none, wrB_none, unitR_some, wr_nil, wr_here, wr_skip, k_cells, tk_zero, tk_take, tk_skip, tkC_some, call_func, gt, st, binV, arith, isSh, storeV, all1, idxAV, fieldV, faddrV, iaddrSV, iaddrAV, pickV, convV, unV, eqbV, eqpV, extV, mm2, mmV, nilckV, ress, res1, retV, Value.cells, cond_true, cond_false, Bool.true_or, Bool.false_or, Bool.or_true, Bool.or_false, beq_self_eq_true, if_true, if_false, ite_true, ite_false, decide_true, decide_false, decide_eq_true_eq, reduceIte, Nat.zero_add, Nat.add_zero, and_self, true_and, and_true, List.size_toArray, List.length_cons, List.length_nil, List.append_nil, List.nil_append, Int.toNat_zero, Bool.not_false, Bool.not_true, Bool.not_not, Bool.false_eq_true, Bool.true_eq_false, reduceCtorEq, Int.reduceLT, Int.reduceLE, Int.reduceToNat, Int.reduceAdd, Int.reduceSub, Int.reduceMul, Int.reduceNeg, Nat.reduceMul, Nat.reduceAdd, Nat.reduceSub, Nat.reduceBEq, Nat.reduceEqDiff, Nat.reduceLT, Nat.reduceLeDiff, Int.reduceBEq, Int.reduceEq, Nat.reducePow, Int.reducePow, IntWalk.i64_in, IntKind.bits, eqAV, eqL, leafEq, andO, fillV, buildSV, List.getElem?_toArray, List.getElem?_cons_zero, List.getElem?_cons_succ, List.getElem?_nil, Int.reduceGT, Int.reduceGE, Int.reduceBNe, Bool.true_and, Bool.and_true, Bool.false_and, Bool.and_false, Bool.and_self, IntWalk.u64_in, Int.cast_ofNat_Int, callF1, pad16, pad_0, pad_1, pad_2, pad_3, pad_4, pad_5, pad_6, pad_7, pad_8, pad_9, pad_10, pad_11, pad_12, pad_13, pad_14, pad_15, gc0, gc1, gc2, gc3, gc4, gc5, gc6, gc7, gc8, gc9, gc10, gc11, gc12, gc13, gc14, gc15, gcS, sc0, sc1, sc2, sc3, sc4, sc5, sc6, sc7, sc8, sc9, sc10, sc11, sc12, sc13, sc14, sc15, scS, List.drop_succ_cons, List.drop_nil, x_pan, s_pan, b_pan, pE_ret, pE_pan, pE_none, pE_ite, pvE_some, pvE_none, pvE_ite, rv_some, rv_none, rv_ite, oR_ret, t_mv, t_pick, t_alloc, t_box, t_build, t_buildS, t_load, t_store, t_nilck, t_bin, t_eqb, t_eqA, t_eqp, t_un, t_conv, t_field, t_idxA, t_faddr, t_iaddrS, t_iaddrA, t_ext, t_len, t_mm, t_call, t_ifc, t_fn, t_slc, t_slcA, t_slcT, t_tass, t_isn, t_mks, t_app, t_pan, panE_i, optE_none, optE_some, bnd_none, bnd_int, slA_none, slA_some, appR_some, appOld_cells, newsV_s, newsV_n, lenS_s, appV_nil, appV_some, mksV_i, sh_c, sh_g, f_pan, endD_ret, dfr_normal, dfr_ret, dfr_pan, restD_normal, callD1, callC1, tassV, isnV, slcV, slcAV, slcTV, slcB, appNew, Option.bind_some, Option.bind_none, d_pan, h_pan, wrH_eq, wrX_cells, wrU_some, upH_nil, upH_cons, lk_upH, effR_some, effR_none, effR_ite, Option.isNone_none, Option.isNone_some, slA_zero, call_yield, e_range, it_func, wy_same, y_call, isLp_self, beg_normal, end_normal, end_ret, end_exit, end_ite, aft_ret, aft_ready, aft_done, aft_exit, setP_cons, setP_nil, sh_r, t_mkmap, t_mlook, t_mupd, t_mdel, mapF_some, lookF_some, setM_some, lookR_t, lookR_n, lookR_f, lookR_fn, lookV, mupdV, mdelV, mkM]
  exact ⟨_, _, _, rfl, g, f, s⟩
end Go.Proofs.YtlkeeckhileedaaDoor
