/- Proved here, for every input: CellsFresh answers true and leaves its arguments as they were (theorem cellsFresh.said). Conditions: none. -/
import Derived.Test.YteilhhkkhnnglaaOwn
import Derived.Test.YteilhhkkhnnglaaRows
set_option linter.unusedSimpArgs false
set_option linter.unusedVariables false
namespace Go.Proofs.Yteilhhkkhnnglaa
open Go.Proofs.Yteilhhkkhnnglaa.K Go.ChangeShapes Go.WideShapes Go.ChangeAt Go.RowKit
set_option maxRecDepth 100000
set_option linter.unusedSimpArgs false
set_option linter.unusedVariables false
def pick (c n : Int) : Int := (if c < 0 then -(c + 1) else c) % n
theorem rep_fcs (n : Nat) : (List.replicate n [Value.int .u64 0, Value.int .i64 0]).flatten = fcs (List.replicate n (0, 0)) := by
  induction n with
  | zero => rfl
  | succ n ih => simp only [List.replicate_succ, List.flatten_cons, ih, fl, fc]
theorem rep2 (x : Cell) : List.replicate 2 x = [x, x] := rfl
theorem tkf0 {c : Cell} {L : List Cell} : tk (fcs (c :: L)) 0 1 = some [.int .u64 c.1] := by simp [fl, fc, tk]
theorem tkf1 {c : Cell} {L : List Cell} : tk (fcs (c :: L)) 1 1 = some [.int .i64 c.2] := by simp [fl, fc, tk]
theorem tkf2 {c : Cell} {L : List Cell} : tk (fcs (c :: L)) 0 2 = some [.int .u64 c.1, .int .i64 c.2] := by simp [fl, fc, tk]
theorem tkfs {c : Cell} {L : List Cell} {o n : Nat} : tk (fcs (c :: L)) (o + 2) n = tk (fcs L) o n := by simp [fl, fc, tk]
theorem v1 : lor 0 (shl1 3) = 8 := by decide
theorem v2 : lor 8 (shl1 5) = 40 := by decide
theorem v3 : has01 40 5 = 1 := by decide
theorem v4 : has01 0 3 = 0 := by decide
theorem okP_iff (p a n : Int) : okP p a n ↔ 0 ≤ p ∧ p ≤ 15 ∧ 0 ≤ a ∧ a < n := Iff.rfl

/-- whitewash/whitewashlaw03.pick -/
def L9 : FnL := ⟨(.seq (.ops [⟨(some 4), .mv (.const (.int .i64 0)), none⟩])
 (.seq (.seq (.ops [⟨(some 5), .mv (.tmp 0), none⟩, ⟨(some 6), .bin .lss (.tmp 5) (.const (.int .i64 0)), none⟩])
 (.cond (.tmp 6) (.ops [⟨(some 7), .mv (.tmp 0), none⟩, ⟨(some 8), .bin .add (.tmp 7) (.const (.int .i64 1)), none⟩, ⟨(some 9), .un .neg (.tmp 8), none⟩, ⟨(some 0), .mv (.tmp 9), none⟩])
 .skip))
 (.seq (.ops [⟨(some 10), .mv (.tmp 0), none⟩, ⟨(some 11), .mv (.tmp 1), none⟩, ⟨(some 12), .bin .rem (.tmp 10) (.tmp 11), none⟩, ⟨(some 4), .mv (.tmp 12), none⟩])
 .ret))),
 13, [.tmp 4]⟩
theorem low9 : lowerFn Try.prog Try.f9 = some L9 := by kernel_rfl
noncomputable def G9 (B : OH) : Nat → Cs
  | _ => fun _ _ _ => none
theorem sG9 {w0 : World} {B : OH} : SoundG Try.prog w0 B (G9 B) := fun k => by
  unfold G9
  split
  · exact .inl fun _ _ _ => rfl
theorem en9 : Enter Try.prog 9 := .of Try.func9 (by kernel_rfl) (by kernel_rfl)
noncomputable def T9 (B : OH) : Cs := callF B (G9 B) 200 L9
theorem sT9 {w0 : World} {B : OH} : SoundC Try.prog w0 B 9 (T9 B) := callF_sound mixedOrders sG9 200 Try.func9 low9
noncomputable def F9 (B : OH) : List Value → Option Value := kval B (T9 B)
noncomputable def V9 (B : OH) : Cs := fun a H N => pvE (F9 B a) H N
theorem V9_eq {B : OH} {a : List Value} {H : HL} {N : St} : V9 B a H N = pvE (F9 B a) H N := rfl
theorem sV9 {w0 : World} {B : OH} : SoundC Try.prog w0 B 9 (V9 B) := sT9.ofVal
theorem f9 {B : OH} (hG : ∃ H N, good B H N) (c n : Int) (hc : -9223372036854775808 ≤ c ∧ c ≤ 9223372036854775807) (hn : 1 ≤ n ∧ n ≤ 9223372036854775807) : F9 B [.int .i64 c, .int .i64 n] = some (.int .i64 (pick c n)) := by
  refine kval_eq hG fun H N hN => ?_
  have hB := good_B hN
  have hR := good_rdB hN
  have hI := beqN hN.1.1
  have n0 : ¬ n = 0 := by omega
  unfold pick
  by_cases h : c < 0
  · have w1 : IntKind.i64.wrap (c + 1) = c + 1 := IntWalk.i64_in _ (by omega)
    have w2 : IntKind.i64.wrap (0 - (c + 1)) = -(c + 1) := by rw [IntWalk.i64_in _ (by omega)]; omega
    have w3 : (-(c + 1)).tmod n = -(c + 1) % n := Int.tmod_eq_emod_of_nonneg (by omega)
    simp -implicitDefEqProofs (maxSteps := 10000000) (disch := omega) only [T9, L9, hB, hR, hI, h, w1, w2, w3, n0, pad, e_skip, e_ops, e_draw, d_none, d_nil, d_cons, d_ite, h_none, h_nil, h_cons, h_ite, eqS_same, lightV, e_seq, e_cond, e_block, e_loop, e_exit, e_ret, s_normal, s_ret, s_exit, s_none, s_ite, b_normal, b_ret, b_exit, b_none, b_ite, c_bool, x_none, x_nil, x_cons, x_ite, p_some, p_none, p_ite, pt_some, pt_none, pv_some, pv_none, pv_ite, w_none, w_some, i_bool, i_undef, bt, bf, v_tmp, v_const, v_global, v_func, evs, f_normal, f_ret, f_none, f_ite, r_some, co_some, l_ptr, m_agg, m_one, sh_app, lk_nil, lk_cons, rd_eq, rdO_some, rdO_none, rdN_none, rdL_some, rdL_none, wrB_none, unitR_some, wr_nil, wr_here, wr_skip, k_cells, tk_zero, tk_take, tk_skip, tkC_some, call_func, gt, st, binV, arith, isSh, storeV, all1, idxAV, fieldV, faddrV, iaddrSV, iaddrAV, pickV, convV, unV, eqbV, eqpV, extV, lenV, mm2, mmV, nilckV, ress, res1, retV, Value.cells, cond_true, cond_false, Bool.true_or, Bool.false_or, Bool.or_true, Bool.or_false, beq_self_eq_true, if_true, if_false, ite_true, ite_false, decide_true, decide_false, decide_eq_true_eq, reduceIte, Nat.zero_add, Nat.add_zero, and_self, true_and, and_true, List.size_toArray, List.length_cons, List.length_nil, List.append_nil, List.nil_append, Int.toNat_zero, Bool.not_false, Bool.not_true, Bool.not_not, Bool.false_eq_true, Bool.true_eq_false, reduceCtorEq, Int.reduceLT, Int.reduceLE, Int.reduceToNat, Int.reduceAdd, Int.reduceSub, Int.reduceMul, Int.reduceNeg, Nat.reduceMul, Nat.reduceAdd, Nat.reduceSub, Nat.reduceBEq, Nat.reduceEqDiff, Nat.reduceLT, Nat.reduceLeDiff, Int.reduceBEq, Int.reduceEq, Nat.reducePow, Int.reducePow, IntWalk.i64_in, IntKind.bits, eqAV, eqL, leafEq, andO, fillV, buildSV, List.getElem?_toArray, List.getElem?_cons_zero, List.getElem?_cons_succ, List.getElem?_nil, Int.reduceGT, Int.reduceGE, Int.reduceBNe, Bool.true_and, Bool.and_true, Bool.false_and, Bool.and_false, Bool.and_self, IntWalk.u64_in, Int.cast_ofNat_Int, callF1, pad16, pad_0, pad_1, pad_2, pad_3, pad_4, pad_5, pad_6, pad_7, pad_8, pad_9, pad_10, pad_11, pad_12, pad_13, pad_14, pad_15, gc0, gc1, gc2, gc3, gc4, gc5, gc6, gc7, gc8, gc9, gc10, gc11, gc12, gc13, gc14, gc15, gcS, sc0, sc1, sc2, sc3, sc4, sc5, sc6, sc7, sc8, sc9, sc10, sc11, sc12, sc13, sc14, sc15, scS, List.drop_succ_cons, List.drop_nil, x_pan, s_pan, b_pan, pE_ret, pE_pan, pE_none, pE_ite, pvE_some, pvE_none, pvE_ite, rv_some, rv_none, rv_ite, oR_ret, t_mv, t_pick, t_alloc, t_box, t_build, t_buildS, t_load, t_store, t_nilck, t_bin, t_eqb, t_eqA, t_eqp, t_un, t_conv, t_field, t_idxA, t_faddr, t_iaddrS, t_iaddrA, t_ext, t_len, t_mm, t_call, t_ifc, t_fn, t_slc, t_slcA, t_slcT, t_tass, t_isn, t_mks, t_app, t_pan, panE_i, optE_none, optE_some, bnd_none, bnd_int, slA_none, slA_some, appR_some, appOld_cells, newsV_s, newsV_n, lenS_s, appV_nil, appV_some, mksV_i, sh_c, sh_g, f_pan, endD_ret, dfr_normal, dfr_ret, dfr_pan, restD_normal, callD1, callC1, tassV, isnV, slcV, slcAV, slcTV, slcB, appNew, Option.bind_some, Option.bind_none, d_pan, h_pan, wrH_eq, wrX_cells, wrU_some, upH_nil, upH_cons, lk_upH, effR_some, effR_none, effR_ite, Option.isNone_none, Option.isNone_some]
    with_reducible refine done2 ?_
    repeat (first | refine ext_new hN ?_ | exact fun _ _ h => h)
  · have w3 : c.tmod n = c % n := Int.tmod_eq_emod_of_nonneg (by omega)
    simp -implicitDefEqProofs (maxSteps := 10000000) (disch := omega) only [T9, L9, hB, hR, hI, h, w3, n0, pad, e_skip, e_ops, e_draw, d_none, d_nil, d_cons, d_ite, h_none, h_nil, h_cons, h_ite, eqS_same, lightV, e_seq, e_cond, e_block, e_loop, e_exit, e_ret, s_normal, s_ret, s_exit, s_none, s_ite, b_normal, b_ret, b_exit, b_none, b_ite, c_bool, x_none, x_nil, x_cons, x_ite, p_some, p_none, p_ite, pt_some, pt_none, pv_some, pv_none, pv_ite, w_none, w_some, i_bool, i_undef, bt, bf, v_tmp, v_const, v_global, v_func, evs, f_normal, f_ret, f_none, f_ite, r_some, co_some, l_ptr, m_agg, m_one, sh_app, lk_nil, lk_cons, rd_eq, rdO_some, rdO_none, rdN_none, rdL_some, rdL_none, wrB_none, unitR_some, wr_nil, wr_here, wr_skip, k_cells, tk_zero, tk_take, tk_skip, tkC_some, call_func, gt, st, binV, arith, isSh, storeV, all1, idxAV, fieldV, faddrV, iaddrSV, iaddrAV, pickV, convV, unV, eqbV, eqpV, extV, lenV, mm2, mmV, nilckV, ress, res1, retV, Value.cells, cond_true, cond_false, Bool.true_or, Bool.false_or, Bool.or_true, Bool.or_false, beq_self_eq_true, if_true, if_false, ite_true, ite_false, decide_true, decide_false, decide_eq_true_eq, reduceIte, Nat.zero_add, Nat.add_zero, and_self, true_and, and_true, List.size_toArray, List.length_cons, List.length_nil, List.append_nil, List.nil_append, Int.toNat_zero, Bool.not_false, Bool.not_true, Bool.not_not, Bool.false_eq_true, Bool.true_eq_false, reduceCtorEq, Int.reduceLT, Int.reduceLE, Int.reduceToNat, Int.reduceAdd, Int.reduceSub, Int.reduceMul, Int.reduceNeg, Nat.reduceMul, Nat.reduceAdd, Nat.reduceSub, Nat.reduceBEq, Nat.reduceEqDiff, Nat.reduceLT, Nat.reduceLeDiff, Int.reduceBEq, Int.reduceEq, Nat.reducePow, Int.reducePow, IntWalk.i64_in, IntKind.bits, eqAV, eqL, leafEq, andO, fillV, buildSV, List.getElem?_toArray, List.getElem?_cons_zero, List.getElem?_cons_succ, List.getElem?_nil, Int.reduceGT, Int.reduceGE, Int.reduceBNe, Bool.true_and, Bool.and_true, Bool.false_and, Bool.and_false, Bool.and_self, IntWalk.u64_in, Int.cast_ofNat_Int, callF1, pad16, pad_0, pad_1, pad_2, pad_3, pad_4, pad_5, pad_6, pad_7, pad_8, pad_9, pad_10, pad_11, pad_12, pad_13, pad_14, pad_15, gc0, gc1, gc2, gc3, gc4, gc5, gc6, gc7, gc8, gc9, gc10, gc11, gc12, gc13, gc14, gc15, gcS, sc0, sc1, sc2, sc3, sc4, sc5, sc6, sc7, sc8, sc9, sc10, sc11, sc12, sc13, sc14, sc15, scS, List.drop_succ_cons, List.drop_nil, x_pan, s_pan, b_pan, pE_ret, pE_pan, pE_none, pE_ite, pvE_some, pvE_none, pvE_ite, rv_some, rv_none, rv_ite, oR_ret, t_mv, t_pick, t_alloc, t_box, t_build, t_buildS, t_load, t_store, t_nilck, t_bin, t_eqb, t_eqA, t_eqp, t_un, t_conv, t_field, t_idxA, t_faddr, t_iaddrS, t_iaddrA, t_ext, t_len, t_mm, t_call, t_ifc, t_fn, t_slc, t_slcA, t_slcT, t_tass, t_isn, t_mks, t_app, t_pan, panE_i, optE_none, optE_some, bnd_none, bnd_int, slA_none, slA_some, appR_some, appOld_cells, newsV_s, newsV_n, lenS_s, appV_nil, appV_some, mksV_i, sh_c, sh_g, f_pan, endD_ret, dfr_normal, dfr_ret, dfr_pan, restD_normal, callD1, callC1, tassV, isnV, slcV, slcAV, slcTV, slcB, appNew, Option.bind_some, Option.bind_none, d_pan, h_pan, wrH_eq, wrX_cells, wrU_some, upH_nil, upH_cons, lk_upH, effR_some, effR_none, effR_ite, Option.isNone_none, Option.isNone_some]
    with_reducible refine done2 ?_
    repeat (first | refine ext_new hN ?_ | exact fun _ _ h => h)
/-- whitewash/cells.New -/
def L10 : FnL := ⟨(.seq (.ops [⟨(some 2), .alloc [(.slice none 0 0)], none⟩, ⟨(some 3), .mv (.const (.int .i64 0)), none⟩])
 (.seq (.seq (.ops [⟨(some 4), .mv (.tmp 0), none⟩, ⟨(some 5), .bin .lss (.tmp 4) (.const (.int .i64 0)), none⟩, ⟨(some 6), .mv (.tmp 5), none⟩, ⟨(some 7), .mv (.tmp 0), (some (6, false))⟩, ⟨(some 8), .bin .gtr (.tmp 7) (.const (.int .i64 1048576)), (some (6, false))⟩, ⟨(some 9), .pick (.tmp 6) (.const (.bool true)) (.tmp 8), none⟩])
 (.cond (.tmp 9) (.seq (.ops [⟨(some 10), .build [(.slice none 0 0)] [], none⟩, ⟨none, .store 1 (.tmp 2) (.tmp 10), none⟩, ⟨(some 3), .mv (.const (.int .i64 1)), none⟩])
 .ret)
 .skip))
 (.seq (.ops [⟨(some 11), .mv (.tmp 0), none⟩, ⟨(some 12), .mks [(.int .u64 0), (.int .i64 0)] 16 (.tmp 11) (.tmp 11), none⟩, ⟨(some 13), .build [(.slice none 0 0)] [(0, 1, (.tmp 12))], none⟩, ⟨none, .store 1 (.tmp 2) (.tmp 13), none⟩, ⟨(some 3), .mv (.const (.int .i64 0)), none⟩])
 .ret))),
 14, [.cell 2 true 1, .tmp 3]⟩
theorem low10 : lowerFn Try.prog Try.f10 = some L10 := by kernel_rfl
noncomputable def G10 (B : OH) : Nat → Cs
  | _ => fun _ _ _ => none
theorem sG10 {w0 : World} {B : OH} : SoundG Try.prog w0 B (G10 B) := fun k => by
  unfold G10
  split
  · exact .inl fun _ _ _ => rfl
theorem en10 : Enter Try.prog 10 := .of Try.func10 (by kernel_rfl) (by kernel_rfl)
noncomputable def T10 (B : OH) : Cs := callF B (G10 B) 200 L10
theorem sT10 {w0 : World} {B : OH} : SoundC Try.prog w0 B 10 (T10 B) := callF_sound mixedOrders sG10 200 Try.func10 low10
noncomputable def V10 (B : OH) : Cs := T10 B
theorem sV10 {w0 : World} {B : OH} : SoundC Try.prog w0 B 10 (V10 B) := sT10
/-- whitewash/whitewashlaw03.awake -/
def L8 : FnL := ⟨(.seq (.ops [⟨(some 0), .mv (.const (.bool false)), none⟩])
 (.seq (.ops [⟨(some 22), .call (.func 10) [(.const (.int .i64 2))], none⟩, ⟨(some 21), .mv (.tmp 22), none⟩, ⟨(some 23), .ext (.tmp 21) 0, none⟩, ⟨(some 24), .ext (.tmp 21) 1, none⟩, ⟨(some 1), .alloc [(.slice none 0 0)], none⟩, ⟨none, .store 1 (.tmp 1) (.tmp 23), none⟩, ⟨(some 2), .mv (.tmp 24), none⟩])
 (.seq (.ops [⟨(some 26), .call (.func 17) [(.tmp 1), (.const (.int .i64 3)), (.const (.int .i64 1))], none⟩, ⟨(some 25), .mv (.tmp 26), none⟩, ⟨(some 27), .ext (.tmp 25) 0, none⟩, ⟨(some 28), .ext (.tmp 25) 1, none⟩, ⟨(some 3), .mv (.tmp 27), none⟩, ⟨(some 4), .mv (.tmp 28), none⟩])
 (.seq (.ops [⟨(some 30), .call (.func 17) [(.tmp 1), (.const (.int .i64 5)), (.const (.int .i64 1))], none⟩, ⟨(some 29), .mv (.tmp 30), none⟩, ⟨(some 31), .ext (.tmp 29) 0, none⟩, ⟨(some 32), .ext (.tmp 29) 1, none⟩, ⟨(some 5), .mv (.tmp 31), none⟩, ⟨(some 6), .mv (.tmp 32), none⟩])
 (.seq (.ops [⟨(some 34), .call (.func 19) [(.tmp 1), (.const (.int .i64 5)), (.const (.int .i64 1)), (.const (.int .u64 7))], none⟩, ⟨(some 33), .mv (.tmp 34), none⟩, ⟨(some 35), .ext (.tmp 33) 0, none⟩, ⟨(some 36), .ext (.tmp 33) 1, none⟩, ⟨(some 7), .mv (.tmp 35), none⟩, ⟨(some 8), .mv (.tmp 36), none⟩])
 (.seq (.ops [⟨(some 38), .call (.func 19) [(.tmp 1), (.const (.int .i64 3)), (.const (.int .i64 1)), (.const (.int .u64 8))], none⟩, ⟨(some 37), .mv (.tmp 38), none⟩, ⟨(some 39), .ext (.tmp 37) 0, none⟩, ⟨(some 40), .ext (.tmp 37) 1, none⟩, ⟨(some 9), .mv (.tmp 39), none⟩, ⟨(some 10), .mv (.tmp 40), none⟩])
 (.seq (.ops [⟨(some 42), .call (.func 15) [(.tmp 1), (.const (.int .i64 1))], none⟩, ⟨(some 41), .mv (.tmp 42), none⟩, ⟨(some 43), .ext (.tmp 41) 0, none⟩, ⟨(some 44), .ext (.tmp 41) 1, none⟩, ⟨(some 11), .mv (.tmp 43), none⟩, ⟨(some 12), .mv (.tmp 44), none⟩])
 (.seq (.ops [⟨(some 45), .call (.func 16) [(.tmp 1), (.const (.int .i64 0)), (.const (.int .u64 9))], none⟩, ⟨(some 13), .mv (.tmp 45), none⟩])
 (.seq (.ops [⟨(some 47), .call (.func 18) [(.tmp 1), (.const (.int .i64 16)), (.const (.int .i64 0))], none⟩, ⟨(some 46), .mv (.tmp 47), none⟩, ⟨(some 48), .ext (.tmp 46) 0, none⟩, ⟨(some 49), .ext (.tmp 46) 1, none⟩, ⟨(some 14), .mv (.tmp 48), none⟩, ⟨(some 15), .mv (.tmp 49), none⟩])
 (.seq (.ops [⟨(some 50), .call (.func 20) [(.tmp 1), (.const (.int .i64 0)), (.const (.int .i64 2))], none⟩, ⟨(some 16), .mv (.tmp 50), none⟩])
 (.seq (.ops [⟨(some 52), .call (.func 15) [(.const (.pointer none)), (.const (.int .i64 0))], none⟩, ⟨(some 51), .mv (.tmp 52), none⟩, ⟨(some 53), .ext (.tmp 51) 0, none⟩, ⟨(some 54), .ext (.tmp 51) 1, none⟩, ⟨(some 17), .mv (.tmp 53), none⟩, ⟨(some 18), .mv (.tmp 54), none⟩])
 (.seq (.ops [⟨(some 56), .call (.func 10) [(.const (.int .i64 (-1)))], none⟩, ⟨(some 55), .mv (.tmp 56), none⟩, ⟨(some 57), .ext (.tmp 55) 0, none⟩, ⟨(some 58), .ext (.tmp 55) 1, none⟩, ⟨(some 19), .alloc [(.slice none 0 0)], none⟩, ⟨none, .store 1 (.tmp 19) (.tmp 57), none⟩, ⟨(some 20), .mv (.tmp 58), none⟩])
 (.seq (.ops [⟨(some 59), .mv (.tmp 2), none⟩, ⟨(some 60), .bin .eql (.tmp 59) (.const (.int .i64 0)), none⟩, ⟨(some 61), .mv (.tmp 60), none⟩, ⟨(some 62), .mv (.tmp 4), (some (61, true))⟩, ⟨(some 63), .bin .eql (.tmp 62) (.const (.int .i64 0)), (some (61, true))⟩, ⟨(some 64), .pick (.tmp 61) (.tmp 63) (.const (.bool false)), none⟩, ⟨(some 65), .mv (.tmp 64), none⟩, ⟨(some 66), .mv (.tmp 5), (some (65, true))⟩, ⟨(some 67), .bin .eql (.tmp 66) (.const (.int .u64 0)), (some (65, true))⟩, ⟨(some 68), .pick (.tmp 65) (.tmp 67) (.const (.bool false)), none⟩, ⟨(some 69), .mv (.tmp 68), none⟩, ⟨(some 70), .mv (.tmp 6), (some (69, true))⟩, ⟨(some 71), .bin .eql (.tmp 70) (.const (.int .i64 0)), (some (69, true))⟩, ⟨(some 72), .pick (.tmp 69) (.tmp 71) (.const (.bool false)), none⟩, ⟨(some 73), .mv (.tmp 72), none⟩, ⟨(some 74), .mv (.tmp 7), (some (73, true))⟩, ⟨(some 75), .pick (.tmp 73) (.tmp 74) (.const (.bool false)), none⟩, ⟨(some 76), .mv (.tmp 75), none⟩, ⟨(some 77), .mv (.tmp 8), (some (76, true))⟩, ⟨(some 78), .bin .eql (.tmp 77) (.const (.int .i64 0)), (some (76, true))⟩, ⟨(some 79), .pick (.tmp 76) (.tmp 78) (.const (.bool false)), none⟩, ⟨(some 80), .mv (.tmp 79), none⟩, ⟨(some 81), .mv (.tmp 9), (some (80, true))⟩, ⟨(some 82), .un .not (.tmp 81), (some (80, true))⟩, ⟨(some 83), .pick (.tmp 80) (.tmp 82) (.const (.bool false)), none⟩, ⟨(some 84), .mv (.tmp 83), none⟩, ⟨(some 85), .mv (.tmp 10), (some (84, true))⟩, ⟨(some 86), .bin .eql (.tmp 85) (.const (.int .i64 0)), (some (84, true))⟩, ⟨(some 87), .pick (.tmp 84) (.tmp 86) (.const (.bool false)), none⟩, ⟨(some 88), .mv (.tmp 87), none⟩, ⟨(some 89), .mv (.tmp 11), (some (88, true))⟩, ⟨(some 90), .bin .eql (.tmp 89) (.const (.int .u64 7)), (some (88, true))⟩, ⟨(some 91), .pick (.tmp 88) (.tmp 90) (.const (.bool false)), none⟩, ⟨(some 92), .mv (.tmp 91), none⟩, ⟨(some 93), .mv (.tmp 12), (some (92, true))⟩, ⟨(some 94), .bin .eql (.tmp 93) (.const (.int .i64 0)), (some (92, true))⟩, ⟨(some 95), .pick (.tmp 92) (.tmp 94) (.const (.bool false)), none⟩, ⟨(some 96), .mv (.tmp 95), none⟩, ⟨(some 97), .mv (.tmp 13), (some (96, true))⟩, ⟨(some 98), .bin .eql (.tmp 97) (.const (.int .i64 0)), (some (96, true))⟩, ⟨(some 99), .pick (.tmp 96) (.tmp 98) (.const (.bool false)), none⟩, ⟨(some 100), .mv (.tmp 99), none⟩, ⟨(some 101), .faddr 0 (.tmp 1), (some (100, true))⟩, ⟨(some 102), .load false 1 (.tmp 101), (some (100, true))⟩, ⟨(some 103), .len false (.tmp 102), (some (100, true))⟩, ⟨(some 104), .bin .eql (.tmp 103) (.const (.int .i64 2)), (some (100, true))⟩, ⟨(some 105), .pick (.tmp 100) (.tmp 104) (.const (.bool false)), none⟩, ⟨(some 106), .mv (.tmp 105), none⟩, ⟨(some 107), .faddr 0 (.tmp 1), (some (106, true))⟩, ⟨(some 108), .load false 1 (.tmp 107), (some (106, true))⟩, ⟨(some 109), .iaddrS 2 (.tmp 108) (.const (.int .i64 0)), (some (106, true))⟩, ⟨(some 110), .faddr 0 (.tmp 109), (some (106, true))⟩, ⟨(some 111), .load false 1 (.tmp 110), (some (106, true))⟩, ⟨(some 112), .bin .eql (.tmp 111) (.const (.int .u64 9)), (some (106, true))⟩, ⟨(some 113), .pick (.tmp 106) (.tmp 112) (.const (.bool false)), none⟩, ⟨(some 114), .mv (.tmp 113), none⟩, ⟨(some 115), .mv (.tmp 15), (some (114, true))⟩, ⟨(some 116), .bin .eql (.tmp 115) (.const (.int .i64 1)), (some (114, true))⟩, ⟨(some 117), .pick (.tmp 114) (.tmp 116) (.const (.bool false)), none⟩, ⟨(some 118), .mv (.tmp 117), none⟩, ⟨(some 119), .mv (.tmp 16), (some (118, true))⟩, ⟨(some 120), .bin .eql (.tmp 119) (.const (.int .i64 1)), (some (118, true))⟩, ⟨(some 121), .pick (.tmp 118) (.tmp 120) (.const (.bool false)), none⟩, ⟨(some 122), .mv (.tmp 121), none⟩, ⟨(some 123), .mv (.tmp 18), (some (122, true))⟩, ⟨(some 124), .bin .eql (.tmp 123) (.const (.int .i64 1)), (some (122, true))⟩, ⟨(some 125), .pick (.tmp 122) (.tmp 124) (.const (.bool false)), none⟩, ⟨(some 126), .mv (.tmp 125), none⟩, ⟨(some 127), .mv (.tmp 20), (some (126, true))⟩, ⟨(some 128), .bin .eql (.tmp 127) (.const (.int .i64 1)), (some (126, true))⟩, ⟨(some 129), .pick (.tmp 126) (.tmp 128) (.const (.bool false)), none⟩, ⟨(some 0), .mv (.tmp 129), none⟩])
 .ret))))))))))))),
 130, [.tmp 0]⟩
theorem low8 : lowerFn Try.prog Try.f8 = some L8 := by kernel_rfl
noncomputable def G8 (B : OH) : Nat → Cs
  | 10 => V10 B
  | 15 => V15 B
  | 16 => V16 B
  | 17 => V17 B
  | 18 => V18 B
  | 19 => V19 B
  | 20 => V20 B
  | _ => fun _ _ _ => none
theorem G8_10 {B : OH} : G8 B 10 = V10 B := rfl
theorem G8_15 {B : OH} : G8 B 15 = V15 B := rfl
theorem G8_16 {B : OH} : G8 B 16 = V16 B := rfl
theorem G8_17 {B : OH} : G8 B 17 = V17 B := rfl
theorem G8_18 {B : OH} : G8 B 18 = V18 B := rfl
theorem G8_19 {B : OH} : G8 B 19 = V19 B := rfl
theorem G8_20 {B : OH} : G8 B 20 = V20 B := rfl
theorem sG8 {w0 : World} {B : OH} : SoundG Try.prog w0 B (G8 B) := fun k => by
  unfold G8
  split
  · exact .inr ⟨en10, sV10⟩
  · exact .inr ⟨en15, sV15⟩
  · exact .inr ⟨en16, sV16⟩
  · exact .inr ⟨en17, sV17⟩
  · exact .inr ⟨en18, sV18⟩
  · exact .inr ⟨en19, sV19⟩
  · exact .inr ⟨en20, sV20⟩
  · exact .inl fun _ _ _ => rfl
theorem en8 : Enter Try.prog 8 := .of Try.func8 (by kernel_rfl) (by kernel_rfl)
noncomputable def T8 (B : OH) : Cs := callF B (G8 B) 200 L8
theorem sT8 {w0 : World} {B : OH} : SoundC Try.prog w0 B 8 (T8 B) := callF_sound mixedOrders sG8 200 Try.func8 low8
noncomputable def F8 (B : OH) : List Value → Option Value := kval B (T8 B)
noncomputable def V8 (B : OH) : Cs := fun a H N => pvE (F8 B a) H N
theorem V8_eq {B : OH} {a : List Value} {H : HL} {N : St} : V8 B a H N = pvE (F8 B a) H N := rfl
theorem sV8 {w0 : World} {B : OH} : SoundC Try.prog w0 B 8 (V8 B) := sT8.ofVal
set_option maxHeartbeats 2000000 in
theorem f8 {B : OH} (hG : ∃ H N, good B H N) : F8 B [] = some (.bool true) := by
  refine kval_eq hG fun H N hN => ?_
  have hB := good_B hN
  have hR := good_rdB hN
  have hI := beqN hN.1.1
  simp -implicitDefEqProofs (maxSteps := 10000000) (disch := omega) only [T8, L8, G8_10, V10, T10, L10, G8_15, V15_eq, G8_16, V16_eq, G8_17, V17_eq, G8_18, V18_eq, G8_19, V19_eq, G8_20, V20_eq, hB, hR, hI, eLoad, eStore, eLL, eVL, eSC, eRL, look_nil, look_ptr, lookP_c, lookM_s, lookM_n, lookS_c, lookU_s, unf_fl, act_bad, act_good, gLoad, gStore, gLL, gVL, gSC, gRL, rep_fcs, rep2, v1, v2, v3, v4, okP_iff, List.length_replicate, List.set_cons_zero, List.set_cons_succ, List.getD_cons_zero, List.getD_cons_succ, tkf0, tkf1, tkf2, tkfs, pad, e_skip, e_ops, e_draw, d_none, d_nil, d_cons, d_ite, h_none, h_nil, h_cons, h_ite, eqS_same, lightV, e_seq, e_cond, e_block, e_loop, e_exit, e_ret, s_normal, s_ret, s_exit, s_none, s_ite, b_normal, b_ret, b_exit, b_none, b_ite, c_bool, x_none, x_nil, x_cons, x_ite, p_some, p_none, p_ite, pt_some, pt_none, pv_some, pv_none, pv_ite, w_none, w_some, i_bool, i_undef, bt, bf, v_tmp, v_const, v_global, v_func, evs, f_normal, f_ret, f_none, f_ite, r_some, co_some, l_ptr, m_agg, m_one, sh_app, lk_nil, lk_cons, rd_eq, rdO_some, rdO_none, rdN_none, rdL_some, rdL_none, wrB_none, unitR_some, wr_nil, wr_here, wr_skip, k_cells, tk_zero, tk_take, tk_skip, tkC_some, call_func, gt, st, binV, arith, isSh, storeV, all1, idxAV, fieldV, faddrV, iaddrSV, iaddrAV, pickV, convV, unV, eqbV, eqpV, extV, lenV, mm2, mmV, nilckV, ress, res1, retV, Value.cells, cond_true, cond_false, Bool.true_or, Bool.false_or, Bool.or_true, Bool.or_false, beq_self_eq_true, if_true, if_false, ite_true, ite_false, decide_true, decide_false, decide_eq_true_eq, reduceIte, Nat.zero_add, Nat.add_zero, and_self, true_and, and_true, List.size_toArray, List.length_cons, List.length_nil, List.append_nil, List.nil_append, Int.toNat_zero, Bool.not_false, Bool.not_true, Bool.not_not, Bool.false_eq_true, Bool.true_eq_false, reduceCtorEq, Int.reduceLT, Int.reduceLE, Int.reduceToNat, Int.reduceAdd, Int.reduceSub, Int.reduceMul, Int.reduceNeg, Nat.reduceMul, Nat.reduceAdd, Nat.reduceSub, Nat.reduceBEq, Nat.reduceEqDiff, Nat.reduceLT, Nat.reduceLeDiff, Int.reduceBEq, Int.reduceEq, Nat.reducePow, Int.reducePow, IntWalk.i64_in, IntKind.bits, eqAV, eqL, leafEq, andO, fillV, buildSV, List.getElem?_toArray, List.getElem?_cons_zero, List.getElem?_cons_succ, List.getElem?_nil, Int.reduceGT, Int.reduceGE, Int.reduceBNe, Bool.true_and, Bool.and_true, Bool.false_and, Bool.and_false, Bool.and_self, IntWalk.u64_in, Int.cast_ofNat_Int, callF1, pad16, pad_0, pad_1, pad_2, pad_3, pad_4, pad_5, pad_6, pad_7, pad_8, pad_9, pad_10, pad_11, pad_12, pad_13, pad_14, pad_15, gc0, gc1, gc2, gc3, gc4, gc5, gc6, gc7, gc8, gc9, gc10, gc11, gc12, gc13, gc14, gc15, gcS, sc0, sc1, sc2, sc3, sc4, sc5, sc6, sc7, sc8, sc9, sc10, sc11, sc12, sc13, sc14, sc15, scS, List.drop_succ_cons, List.drop_nil, x_pan, s_pan, b_pan, pE_ret, pE_pan, pE_none, pE_ite, pvE_some, pvE_none, pvE_ite, rv_some, rv_none, rv_ite, oR_ret, t_mv, t_pick, t_alloc, t_box, t_build, t_buildS, t_load, t_store, t_nilck, t_bin, t_eqb, t_eqA, t_eqp, t_un, t_conv, t_field, t_idxA, t_faddr, t_iaddrS, t_iaddrA, t_ext, t_len, t_mm, t_call, t_ifc, t_fn, t_slc, t_slcA, t_slcT, t_tass, t_isn, t_mks, t_app, t_pan, panE_i, optE_none, optE_some, bnd_none, bnd_int, slA_none, slA_some, appR_some, appOld_cells, newsV_s, newsV_n, lenS_s, appV_nil, appV_some, mksV_i, sh_c, sh_g, f_pan, endD_ret, dfr_normal, dfr_ret, dfr_pan, restD_normal, callD1, callC1, tassV, isnV, slcV, slcAV, slcTV, slcB, appNew, Option.bind_some, Option.bind_none, d_pan, h_pan, wrH_eq, wrX_cells, wrU_some, upH_nil, upH_cons, lk_upH, effR_some, effR_none, effR_ite, Option.isNone_none, Option.isNone_some]
  with_reducible refine done2 ?_
  repeat (first | refine ext_new hN ?_ | exact fun _ _ h => h)
end Go.Proofs.Yteilhhkkhnnglaa
namespace Go.Proofs.Yteilhhkkhnnglaa
open Go.Proofs.Yteilhhkkhnnglaa.K
theorem ofInt_wrap (x : Int) : BitVec.ofInt 64 (IntKind.i64.wrap x) = BitVec.ofInt 64 x := by
  apply BitVec.eq_of_toNat_eq
  rw [BitVec.toNat_ofInt, BitVec.toNat_ofInt, IntKind.wrap_i64]
  omega
def B64 (l : Int) : BitVec 64 := BitVec.ofInt 64 l
theorem B64_nat (x : BitVec 64) : BitVec.ofInt 64 (x.toNat : Int) = x := by
  apply BitVec.eq_of_toNat_eq
  rw [BitVec.toNat_ofInt]
  have := x.isLt
  omega
theorem B64_lor (l m : Int) : B64 (lor l m) = B64 l ||| B64 m := by
  unfold B64 lor
  rw [ofInt_wrap]
  exact B64_nat _
theorem B64_landn (l m : Int) : B64 (landn l m) = B64 l &&& ~~~ B64 m := by
  unfold B64 landn
  rw [ofInt_wrap]
  exact B64_nat _
theorem B64_shl1 (p : Int) (h : 0 ≤ p ∧ p < 64) : B64 (shl1 p) = BitVec.twoPow 64 p.toNat := by
  unfold B64 shl1
  rw [ofInt_wrap]
  have hm : min p.toNat IntKind.i64.bits = p.toNat := by
    have : IntKind.i64.bits = 64 := rfl
    omega
  rw [hm]
  apply BitVec.eq_of_toNat_eq
  rw [BitVec.toNat_ofInt, BitVec.toNat_twoPow]
  rw [show (1 : Int) * 2 ^ p.toNat = ((2 ^ p.toNat : Nat) : Int) by simp]
  omega
theorem and1 (x : Int) : IntKind.i64.wrap ((BitVec.ofInt 64 x &&& BitVec.ofInt 64 1).toNat : Int) = x % 2 := by
  have h1 : (BitVec.ofInt 64 x &&& BitVec.ofInt 64 1).toNat = (x % 18446744073709551616).toNat % 2 := by
    rw [BitVec.toNat_and, BitVec.toNat_ofInt, BitVec.toNat_ofInt]
    rw [show (((1 : Int) % ((2 ^ 64 : Nat) : Int)).toNat) = 2 ^ 1 - 1 from rfl, Nat.and_two_pow_sub_one_eq_mod]
    rfl
  rw [h1, IntKind.wrap_i64]
  omega
theorem has_bit (l p : Int) (h : 0 ≤ p ∧ p < 64) : has01 l p = if (B64 l).getLsbD p.toNat = true then 1 else 0 := by
  have e1 : has01 l p = (l / 2 ^ p.toNat) % 2 := by
    unfold has01
    have hm : min p.toNat IntKind.i64.bits = p.toNat := by
      have : IntKind.i64.bits = 64 := rfl
      omega
    rw [hm, Int.fdiv_eq_ediv_of_nonneg l (Int.le_of_lt (Int.pow_pos (by decide)))]
    exact and1 _
  rw [e1]
  have hk : p.toNat < 64 := by omega
  generalize p.toNat = k at hk
  have e2 : (B64 l).getLsbD k = ((l % 18446744073709551616).toNat).testBit k := by
    unfold B64
    rw [BitVec.getLsbD, BitVec.toNat_ofInt]
    rfl
  rw [e2, Nat.testBit_eq_decide_div_mod_eq]
  obtain ⟨d, hd⟩ : ∃ d, 64 = k + 1 + d := ⟨63 - k, by omega⟩
  have hpow : (18446744073709551616 : Int) = 2 ^ k * (2 * 2 ^ d) := by
    have h64 : (18446744073709551616 : Int) = 2 ^ 64 := by decide
    rw [h64, hd, Int.pow_add, Int.pow_add, Int.pow_one, Int.mul_assoc]
  have hpos : (0 : Int) < 2 ^ k := Int.pow_pos (by decide)
  have hr : l = 2 ^ k * (2 * 2 ^ d * (l / 18446744073709551616)) + l % 18446744073709551616 := by
    have := Int.mul_ediv_add_emod l 18446744073709551616
    rw [← Int.mul_assoc, ← hpow]; omega
  have hdiv : l / 2 ^ k = 2 * 2 ^ d * (l / 18446744073709551616) + (l % 18446744073709551616) / 2 ^ k := by
    conv => lhs; rw [hr]
    rw [Int.mul_add_ediv_left _ _ (by omega)]
  have hnn : 0 ≤ l % 18446744073709551616 := Int.emod_nonneg _ (by decide)
  have hcast : (((l % 18446744073709551616).toNat / 2 ^ k : Nat) : Int) = (l % 18446744073709551616) / 2 ^ k := by
    rw [Int.natCast_ediv, Int.toNat_of_nonneg hnn]; simp
  have hpar : (l / 2 ^ k) % 2 = (((l % 18446744073709551616).toNat / 2 ^ k % 2 : Nat) : Int) := by
    rw [hdiv, ← hcast, Int.mul_assoc]
    omega
  rw [hpar]
  by_cases hb : (l % 18446744073709551616).toNat / 2 ^ k % 2 = 1
  · simp [hb]
  · have h0 : (l % 18446744073709551616).toNat / 2 ^ k % 2 = 0 := by omega
    simp [h0]
theorem has_zero (p : Int) (h : 0 ≤ p ∧ p < 64) : has01 0 p = 0 := by
  rw [has_bit 0 p h]; simp [B64]
theorem has_lor (l a : Int) (h : 0 ≤ a ∧ a < 64) : has01 (lor l (shl1 a)) a = 1 := by
  rw [has_bit _ a h, B64_lor, B64_shl1 a h]
  have : a.toNat < 64 := by omega
  simp [BitVec.getLsbD_twoPow, this]
theorem has_fresh (a b : Int) (h : 0 ≤ a ∧ a < 64) (h' : 0 ≤ b ∧ b < 64) : has01 (landn (lor (lor 0 (shl1 a)) (shl1 b)) (shl1 b)) a = if a = b then 0 else 1 := by
  rw [has_bit _ a h, B64_landn, B64_lor, B64_lor, B64_shl1 a h, B64_shl1 b h']
  have h1 : a.toNat < 64 := by omega
  have h2 : b.toNat < 64 := by omega
  by_cases e : a = b
  · subst e; simp [BitVec.getLsbD_twoPow, h1]
  · have e' : ¬ b.toNat = a.toNat := by omega
    have e'' : ¬ a.toNat = b.toNat := by omega
    simp [BitVec.getLsbD_twoPow, h1, h2, e, e', e'']
theorem has_landn (l b : Int) (h : 0 ≤ b ∧ b < 64) : has01 (landn l (shl1 b)) b = 0 := by
  rw [has_bit _ b h, B64_landn, B64_shl1 b h]
  have : b.toNat < 64 := by omega
  simp [BitVec.getLsbD_twoPow, this]
end Go.Proofs.Yteilhhkkhnnglaa
namespace Go.Proofs.Yteilhhkkhnnglaa
open Go.Proofs.Yteilhhkkhnnglaa.K Go.ChangeShapes Go.WideShapes Go.ChangeAt Go.RowKit
set_option maxRecDepth 100000
set_option linter.unusedSimpArgs false
set_option linter.unusedVariables false
theorem unf1 {a b : Int} : unf [.int .u64 a, .int .i64 b] = some [(a, b)] := unf_fl (L := [(a, b)])
theorem pick_b (c n : Int) (hn : 1 ≤ n) : 0 ≤ pick c n ∧ pick c n < n := ⟨Int.emod_nonneg _ (by omega), Int.emod_lt_of_pos _ (by omega)⟩

/-- whitewash/whitewashlaw03.CellsFresh -/
def L7 : FnL := ⟨(.seq (.ops [⟨(some 5), .box (.tmp 0), none⟩, ⟨(some 10), .mv (.const (.bool false)), none⟩])
 (.seq (.ops [⟨(some 31), .call (.func 8) [], none⟩, ⟨(some 11), .mv (.tmp 31), none⟩])
 (.seq (.ops [⟨(some 32), .load true 2 (.tmp 5), none⟩, ⟨(some 33), .buildS [(.int .u64 0), (.int .i64 0)] 1 [(0, 2, (.tmp 32))], none⟩, ⟨(some 34), .build [(.slice none 0 0)] [(0, 1, (.tmp 33))], none⟩, ⟨(some 12), .alloc [(.slice none 0 0)], none⟩, ⟨none, .store 1 (.tmp 12) (.tmp 34), none⟩])
 (.seq (.ops [⟨(some 35), .mv (.tmp 1), none⟩, ⟨(some 36), .call (.func 9) [(.tmp 35), (.const (.int .i64 16))], none⟩, ⟨(some 13), .mv (.tmp 36), none⟩])
 (.seq (.ops [⟨(some 37), .mv (.tmp 2), none⟩, ⟨(some 38), .call (.func 9) [(.tmp 37), (.const (.int .i64 16))], none⟩, ⟨(some 14), .mv (.tmp 38), none⟩])
 (.seq (.seq (.ops [⟨(some 39), .mv (.tmp 4), none⟩])
 (.cond (.tmp 39) (.seq (.ops [⟨(some 40), .mv (.tmp 3), none⟩, ⟨(some 41), .call (.func 16) [(.tmp 12), (.const (.int .i64 0)), (.tmp 40)], none⟩, ⟨(some 42), .bin .neq (.tmp 41) (.const (.int .i64 0)), none⟩])
 (.cond (.tmp 42) (.seq (.ops [⟨(some 10), .mv (.const (.bool false)), none⟩])
 .ret)
 .skip))
 (.seq (.ops [⟨(some 44), .mv (.tmp 13), none⟩, ⟨(some 45), .call (.func 17) [(.tmp 12), (.tmp 44), (.const (.int .i64 0))], none⟩, ⟨(some 43), .mv (.tmp 45), none⟩, ⟨(some 46), .ext (.tmp 43) 0, none⟩, ⟨(some 47), .ext (.tmp 43) 1, none⟩, ⟨(some 15), .mv (.tmp 46), none⟩, ⟨(some 16), .mv (.tmp 47), none⟩])
 (.seq (.ops [⟨(some 49), .mv (.tmp 13), none⟩, ⟨(some 50), .mv (.tmp 3), none⟩, ⟨(some 51), .call (.func 19) [(.tmp 12), (.tmp 49), (.const (.int .i64 0)), (.tmp 50)], none⟩, ⟨(some 48), .mv (.tmp 51), none⟩, ⟨(some 52), .ext (.tmp 48) 0, none⟩, ⟨(some 53), .ext (.tmp 48) 1, none⟩, ⟨(some 17), .mv (.tmp 52), none⟩, ⟨(some 18), .mv (.tmp 53), none⟩])
 (.seq (.ops [⟨(some 54), .mv (.tmp 15), none⟩, ⟨(some 55), .faddr 0 (.tmp 5), none⟩, ⟨(some 56), .load false 1 (.tmp 55), none⟩, ⟨(some 57), .bin .neq (.tmp 54) (.tmp 56), none⟩, ⟨(some 58), .mv (.tmp 57), none⟩, ⟨(some 59), .mv (.tmp 16), (some (58, false))⟩, ⟨(some 60), .bin .neq (.tmp 59) (.const (.int .i64 0)), (some (58, false))⟩, ⟨(some 61), .pick (.tmp 58) (.const (.bool true)) (.tmp 60), none⟩, ⟨(some 62), .mv (.tmp 61), none⟩, ⟨(some 63), .mv (.tmp 17), (some (62, false))⟩, ⟨(some 64), .un .not (.tmp 63), (some (62, false))⟩, ⟨(some 65), .pick (.tmp 62) (.const (.bool true)) (.tmp 64), none⟩, ⟨(some 66), .mv (.tmp 65), none⟩, ⟨(some 67), .mv (.tmp 18), (some (66, false))⟩, ⟨(some 68), .bin .neq (.tmp 67) (.const (.int .i64 0)), (some (66, false))⟩, ⟨(some 69), .pick (.tmp 66) (.const (.bool true)) (.tmp 68), none⟩])
 (.cond (.tmp 69) (.seq (.ops [⟨(some 10), .mv (.const (.bool false)), none⟩])
 .ret)
 .skip))))))
 (.seq (.seq (.ops [⟨(some 19), .mv (.const (.int .i64 0)), none⟩])
 (.block 0 (.loop (.seq (.seq (.ops [⟨(some 70), .mv (.tmp 19), none⟩, ⟨(some 71), .bin .lss (.tmp 70) (.const (.int .i64 16)), none⟩])
 (.cond (.tmp 71) .skip
 (.exit 0)))
 (.seq (.block 1 (.seq (.ops [⟨(some 75), .mv (.tmp 19), none⟩, ⟨(some 76), .call (.func 18) [(.tmp 12), (.tmp 75), (.const (.int .i64 0))], none⟩, ⟨(some 74), .mv (.tmp 76), none⟩, ⟨(some 77), .ext (.tmp 74) 0, none⟩, ⟨(some 78), .ext (.tmp 74) 1, none⟩, ⟨(some 20), .mv (.tmp 77), none⟩, ⟨(some 21), .mv (.tmp 78), none⟩])
 (.seq (.ops [⟨(some 79), .mv (.tmp 20), none⟩, ⟨(some 80), .mv (.tmp 79), none⟩, ⟨(some 81), .mv (.tmp 21), (some (80, false))⟩, ⟨(some 82), .bin .neq (.tmp 81) (.const (.int .i64 0)), (some (80, false))⟩, ⟨(some 83), .pick (.tmp 80) (.const (.bool true)) (.tmp 82), none⟩])
 (.cond (.tmp 83) (.seq (.ops [⟨(some 10), .mv (.const (.bool false)), none⟩])
 .ret)
 .skip))))
 (.ops [⟨(some 72), .mv (.tmp 19), none⟩, ⟨(some 73), .bin .add (.tmp 72) (.const (.int .i64 1)), none⟩, ⟨(some 19), .mv (.tmp 73), none⟩]))))))
 (.seq (.ops [⟨(some 85), .mv (.tmp 13), none⟩, ⟨(some 86), .call (.func 17) [(.tmp 12), (.tmp 85), (.const (.int .i64 0))], none⟩, ⟨(some 84), .mv (.tmp 86), none⟩, ⟨(some 87), .ext (.tmp 84) 0, none⟩, ⟨(some 88), .ext (.tmp 84) 1, none⟩, ⟨(some 22), .mv (.tmp 87), none⟩, ⟨(some 23), .mv (.tmp 88), none⟩])
 (.seq (.ops [⟨(some 90), .mv (.tmp 14), none⟩, ⟨(some 91), .call (.func 17) [(.tmp 12), (.tmp 90), (.const (.int .i64 0))], none⟩, ⟨(some 89), .mv (.tmp 91), none⟩, ⟨(some 92), .ext (.tmp 89) 0, none⟩, ⟨(some 93), .ext (.tmp 89) 1, none⟩, ⟨(some 24), .mv (.tmp 92), none⟩, ⟨(some 25), .mv (.tmp 93), none⟩])
 (.seq (.ops [⟨(some 94), .mv (.tmp 14), none⟩, ⟨(some 95), .call (.func 20) [(.tmp 12), (.tmp 94), (.const (.int .i64 0))], none⟩, ⟨(some 26), .mv (.tmp 95), none⟩])
 (.seq (.ops [⟨(some 97), .mv (.tmp 13), none⟩, ⟨(some 98), .call (.func 18) [(.tmp 12), (.tmp 97), (.const (.int .i64 0))], none⟩, ⟨(some 96), .mv (.tmp 98), none⟩, ⟨(some 99), .ext (.tmp 96) 0, none⟩, ⟨(some 100), .ext (.tmp 96) 1, none⟩, ⟨(some 27), .mv (.tmp 99), none⟩, ⟨(some 28), .mv (.tmp 100), none⟩])
 (.seq (.ops [⟨(some 102), .mv (.tmp 14), none⟩, ⟨(some 103), .call (.func 18) [(.tmp 12), (.tmp 102), (.const (.int .i64 0))], none⟩, ⟨(some 101), .mv (.tmp 103), none⟩, ⟨(some 104), .ext (.tmp 101) 0, none⟩, ⟨(some 105), .ext (.tmp 101) 1, none⟩, ⟨(some 29), .mv (.tmp 104), none⟩, ⟨(some 30), .mv (.tmp 105), none⟩])
 (.seq (.ops [⟨(some 106), .mv (.tmp 11), none⟩, ⟨(some 107), .mv (.tmp 106), none⟩, ⟨(some 108), .mv (.tmp 22), (some (107, true))⟩, ⟨(some 109), .mv (.tmp 3), (some (107, true))⟩, ⟨(some 110), .bin .eql (.tmp 108) (.tmp 109), (some (107, true))⟩, ⟨(some 111), .pick (.tmp 107) (.tmp 110) (.const (.bool false)), none⟩, ⟨(some 112), .mv (.tmp 111), none⟩, ⟨(some 113), .mv (.tmp 24), (some (112, true))⟩, ⟨(some 114), .mv (.tmp 3), (some (112, true))⟩, ⟨(some 115), .bin .eql (.tmp 113) (.tmp 114), (some (112, true))⟩, ⟨(some 116), .pick (.tmp 112) (.tmp 115) (.const (.bool false)), none⟩, ⟨(some 117), .mv (.tmp 116), none⟩, ⟨(some 118), .mv (.tmp 23), (some (117, true))⟩, ⟨(some 119), .bin .eql (.tmp 118) (.const (.int .i64 0)), (some (117, true))⟩, ⟨(some 120), .pick (.tmp 117) (.tmp 119) (.const (.bool false)), none⟩, ⟨(some 121), .mv (.tmp 120), none⟩, ⟨(some 122), .mv (.tmp 25), (some (121, true))⟩, ⟨(some 123), .bin .eql (.tmp 122) (.const (.int .i64 0)), (some (121, true))⟩, ⟨(some 124), .pick (.tmp 121) (.tmp 123) (.const (.bool false)), none⟩, ⟨(some 125), .mv (.tmp 124), none⟩, ⟨(some 126), .mv (.tmp 26), (some (125, true))⟩, ⟨(some 127), .bin .eql (.tmp 126) (.const (.int .i64 0)), (some (125, true))⟩, ⟨(some 128), .pick (.tmp 125) (.tmp 127) (.const (.bool false)), none⟩, ⟨(some 129), .mv (.tmp 128), none⟩, ⟨(some 130), .mv (.tmp 28), (some (129, true))⟩, ⟨(some 131), .bin .eql (.tmp 130) (.const (.int .i64 0)), (some (129, true))⟩, ⟨(some 132), .pick (.tmp 129) (.tmp 131) (.const (.bool false)), none⟩, ⟨(some 133), .mv (.tmp 132), none⟩, ⟨(some 134), .mv (.tmp 30), (some (133, true))⟩, ⟨(some 135), .bin .eql (.tmp 134) (.const (.int .i64 0)), (some (133, true))⟩, ⟨(some 136), .pick (.tmp 133) (.tmp 135) (.const (.bool false)), none⟩, ⟨(some 137), .mv (.tmp 136), none⟩, ⟨(some 138), .mv (.tmp 27), (some (137, true))⟩, ⟨(some 139), .mv (.tmp 13), (some (137, true))⟩, ⟨(some 140), .mv (.tmp 14), (some (137, true))⟩, ⟨(some 141), .bin .neq (.tmp 139) (.tmp 140), (some (137, true))⟩, ⟨(some 142), .eqb false (.tmp 138) (.tmp 141), (some (137, true))⟩, ⟨(some 143), .pick (.tmp 137) (.tmp 142) (.const (.bool false)), none⟩, ⟨(some 144), .mv (.tmp 143), none⟩, ⟨(some 145), .mv (.tmp 29), (some (144, true))⟩, ⟨(some 146), .un .not (.tmp 145), (some (144, true))⟩, ⟨(some 147), .pick (.tmp 144) (.tmp 146) (.const (.bool false)), none⟩, ⟨(some 10), .mv (.tmp 147), none⟩])
 .ret))))))))))))),
 148, [.tmp 10]⟩
theorem low7 : lowerFn Try.prog Try.f7 = some L7 := by kernel_rfl
noncomputable def G7 (B : OH) : Nat → Cs
  | 8 => V8 B
  | 9 => V9 B
  | 16 => V16 B
  | 17 => V17 B
  | 18 => V18 B
  | 19 => V19 B
  | 20 => V20 B
  | _ => fun _ _ _ => none
theorem G7_8 {B : OH} : G7 B 8 = V8 B := rfl
theorem G7_9 {B : OH} : G7 B 9 = V9 B := rfl
theorem G7_16 {B : OH} : G7 B 16 = V16 B := rfl
theorem G7_17 {B : OH} : G7 B 17 = V17 B := rfl
theorem G7_18 {B : OH} : G7 B 18 = V18 B := rfl
theorem G7_19 {B : OH} : G7 B 19 = V19 B := rfl
theorem G7_20 {B : OH} : G7 B 20 = V20 B := rfl
theorem sG7 {w0 : World} {B : OH} : SoundG Try.prog w0 B (G7 B) := fun k => by
  unfold G7
  split
  · exact .inr ⟨en8, sV8⟩
  · exact .inr ⟨en9, sV9⟩
  · exact .inr ⟨en16, sV16⟩
  · exact .inr ⟨en17, sV17⟩
  · exact .inr ⟨en18, sV18⟩
  · exact .inr ⟨en19, sV19⟩
  · exact .inr ⟨en20, sV20⟩
  · exact .inl fun _ _ _ => rfl
theorem en7 : Enter Try.prog 7 := .of Try.func7 (by kernel_rfl) (by kernel_rfl)
noncomputable def T7 (B : OH) : Cs := callF B (G7 B) 200 L7
theorem sT7 {w0 : World} {B : OH} : SoundC Try.prog w0 B 7 (T7 B) := callF_sound mixedOrders sG7 200 Try.func7 low7
set_option maxHeartbeats 4000000 in
theorem lv7 {B : OH} (cw cl p q w : Int) (store : Bool) (hp : -9223372036854775808 ≤ p ∧ p ≤ 9223372036854775807) (hq : -9223372036854775808 ≤ q ∧ q ≤ 9223372036854775807) (H : HL) (N : St) (hN : good B H N) : ∃ H' N', T7 B [.agg #[.int .u64 cw, .int .i64 cl], .int .i64 p, .int .i64 q, .int .u64 w, .bool store] H N = some (.ret (.bool true), H', N') := by
  have hG : ∃ H N, good B H N := ⟨H, N, hN⟩
  have hB := good_B hN
  have hR := good_rdB hN
  have hI := beqN hN.1.1
  have ea := f9 (B := B) hG p 16 hp (by omega)
  have eb := f9 (B := B) hG q 16 hq (by omega)
  have ba := pick_b p 16 (by omega)
  have bb := pick_b q 16 (by omega)
  generalize pick p 16 = a at ea ba
  generalize pick q 16 = b at eb bb
  obtain ⟨a0, a1⟩ := ba
  obtain ⟨b0, b1⟩ := bb
  have a2 : a ≤ 15 := by omega
  have b2 : b ≤ 15 := by omega
  have r1 := has_lor cl a (by omega)
  have r2 := has_fresh a b (by omega) (by omega)
  have r3 := has_landn (lor (lor 0 (shl1 a)) (shl1 b)) b (by omega)
  have z0 := has_zero 0 (by omega)
  have z1 := has_zero 1 (by omega)
  have z2 := has_zero 2 (by omega)
  have z3 := has_zero 3 (by omega)
  have z4 := has_zero 4 (by omega)
  have z5 := has_zero 5 (by omega)
  have z6 := has_zero 6 (by omega)
  have z7 := has_zero 7 (by omega)
  have z8 := has_zero 8 (by omega)
  have z9 := has_zero 9 (by omega)
  have z10 := has_zero 10 (by omega)
  have z11 := has_zero 11 (by omega)
  have z12 := has_zero 12 (by omega)
  have z13 := has_zero 13 (by omega)
  have z14 := has_zero 14 (by omega)
  have z15 := has_zero 15 (by omega)
  have awk := f8 (B := B) hG
  by_cases hab : a = b
  · rw [if_pos hab] at r2
    subst hab
    cases store with
    | true =>
      simp -implicitDefEqProofs (maxSteps := 10000000) (disch := omega) only [T7, L7, G7_8, V8_eq, G7_9, V9_eq, G7_16, V16_eq, G7_17, V17_eq, G7_18, V18_eq, G7_19, V19_eq, G7_20, V20_eq, hB, hR, hI, eLoad, eStore, eLL, eVL, eSC, eRL, look_nil, look_ptr, lookP_c, lookM_s, lookM_n, lookS_c, lookU_s, unf_fl, unf1, act_bad, act_good, gLoad, gStore, gLL, gVL, gSC, gRL, okP_iff, List.set_cons_zero, List.set_cons_succ, List.getD_cons_zero, List.getD_cons_succ, ea, eb, awk, a0, a2, r1, r2, r3, bne_self_eq_false, z0, z1, z2, z3, z4, z5, z6, z7, z8, z9, z10, z11, z12, z13, z14, z15, pad, e_skip, e_ops, e_draw, d_none, d_nil, d_cons, d_ite, h_none, h_nil, h_cons, h_ite, eqS_same, lightV, e_seq, e_cond, e_block, e_loop, e_exit, e_ret, s_normal, s_ret, s_exit, s_none, s_ite, b_normal, b_ret, b_exit, b_none, b_ite, c_bool, x_none, x_nil, x_cons, x_ite, p_some, p_none, p_ite, pt_some, pt_none, pv_some, pv_none, pv_ite, w_none, w_some, i_bool, i_undef, bt, bf, v_tmp, v_const, v_global, v_func, evs, f_normal, f_ret, f_none, f_ite, r_some, co_some, l_ptr, m_agg, m_one, sh_app, lk_nil, lk_cons, rd_eq, rdO_some, rdO_none, rdN_none, rdL_some, rdL_none, wrB_none, unitR_some, wr_nil, wr_here, wr_skip, k_cells, tk_zero, tk_take, tk_skip, tkC_some, call_func, gt, st, binV, arith, isSh, storeV, all1, idxAV, fieldV, faddrV, iaddrSV, iaddrAV, pickV, convV, unV, eqbV, eqpV, extV, lenV, mm2, mmV, nilckV, ress, res1, retV, Value.cells, cond_true, cond_false, Bool.true_or, Bool.false_or, Bool.or_true, Bool.or_false, beq_self_eq_true, if_true, if_false, ite_true, ite_false, decide_true, decide_false, decide_eq_true_eq, reduceIte, Nat.zero_add, Nat.add_zero, and_self, true_and, and_true, List.size_toArray, List.length_cons, List.length_nil, List.append_nil, List.nil_append, Int.toNat_zero, Bool.not_false, Bool.not_true, Bool.not_not, Bool.false_eq_true, Bool.true_eq_false, reduceCtorEq, Int.reduceLT, Int.reduceLE, Int.reduceToNat, Int.reduceAdd, Int.reduceSub, Int.reduceMul, Int.reduceNeg, Nat.reduceMul, Nat.reduceAdd, Nat.reduceSub, Nat.reduceBEq, Nat.reduceEqDiff, Nat.reduceLT, Nat.reduceLeDiff, Int.reduceBEq, Int.reduceEq, Nat.reducePow, Int.reducePow, IntWalk.i64_in, IntKind.bits, eqAV, eqL, leafEq, andO, fillV, buildSV, List.getElem?_toArray, List.getElem?_cons_zero, List.getElem?_cons_succ, List.getElem?_nil, Int.reduceGT, Int.reduceGE, Int.reduceBNe, Bool.true_and, Bool.and_true, Bool.false_and, Bool.and_false, Bool.and_self, IntWalk.u64_in, Int.cast_ofNat_Int, callF1, pad16, pad_0, pad_1, pad_2, pad_3, pad_4, pad_5, pad_6, pad_7, pad_8, pad_9, pad_10, pad_11, pad_12, pad_13, pad_14, pad_15, gc0, gc1, gc2, gc3, gc4, gc5, gc6, gc7, gc8, gc9, gc10, gc11, gc12, gc13, gc14, gc15, gcS, sc0, sc1, sc2, sc3, sc4, sc5, sc6, sc7, sc8, sc9, sc10, sc11, sc12, sc13, sc14, sc15, scS, List.drop_succ_cons, List.drop_nil, x_pan, s_pan, b_pan, pE_ret, pE_pan, pE_none, pE_ite, pvE_some, pvE_none, pvE_ite, rv_some, rv_none, rv_ite, oR_ret, t_mv, t_pick, t_alloc, t_box, t_build, t_buildS, t_load, t_store, t_nilck, t_bin, t_eqb, t_eqA, t_eqp, t_un, t_conv, t_field, t_idxA, t_faddr, t_iaddrS, t_iaddrA, t_ext, t_len, t_mm, t_call, t_ifc, t_fn, t_slc, t_slcA, t_slcT, t_tass, t_isn, t_mks, t_app, t_pan, panE_i, optE_none, optE_some, bnd_none, bnd_int, slA_none, slA_some, appR_some, appOld_cells, newsV_s, newsV_n, lenS_s, appV_nil, appV_some, mksV_i, sh_c, sh_g, f_pan, endD_ret, dfr_normal, dfr_ret, dfr_pan, restD_normal, callD1, callC1, tassV, isnV, slcV, slcAV, slcTV, slcB, appNew, Option.bind_some, Option.bind_none, d_pan, h_pan, wrH_eq, wrX_cells, wrU_some, upH_nil, upH_cons, lk_upH, effR_some, effR_none, effR_ite, Option.isNone_none, Option.isNone_some]
      with_reducible exact done1
    | false =>
      simp -implicitDefEqProofs (maxSteps := 10000000) (disch := omega) only [T7, L7, G7_8, V8_eq, G7_9, V9_eq, G7_16, V16_eq, G7_17, V17_eq, G7_18, V18_eq, G7_19, V19_eq, G7_20, V20_eq, hB, hR, hI, eLoad, eStore, eLL, eVL, eSC, eRL, look_nil, look_ptr, lookP_c, lookM_s, lookM_n, lookS_c, lookU_s, unf_fl, unf1, act_bad, act_good, gLoad, gStore, gLL, gVL, gSC, gRL, okP_iff, List.set_cons_zero, List.set_cons_succ, List.getD_cons_zero, List.getD_cons_succ, ea, eb, awk, a0, a2, r1, r2, r3, bne_self_eq_false, z0, z1, z2, z3, z4, z5, z6, z7, z8, z9, z10, z11, z12, z13, z14, z15, pad, e_skip, e_ops, e_draw, d_none, d_nil, d_cons, d_ite, h_none, h_nil, h_cons, h_ite, eqS_same, lightV, e_seq, e_cond, e_block, e_loop, e_exit, e_ret, s_normal, s_ret, s_exit, s_none, s_ite, b_normal, b_ret, b_exit, b_none, b_ite, c_bool, x_none, x_nil, x_cons, x_ite, p_some, p_none, p_ite, pt_some, pt_none, pv_some, pv_none, pv_ite, w_none, w_some, i_bool, i_undef, bt, bf, v_tmp, v_const, v_global, v_func, evs, f_normal, f_ret, f_none, f_ite, r_some, co_some, l_ptr, m_agg, m_one, sh_app, lk_nil, lk_cons, rd_eq, rdO_some, rdO_none, rdN_none, rdL_some, rdL_none, wrB_none, unitR_some, wr_nil, wr_here, wr_skip, k_cells, tk_zero, tk_take, tk_skip, tkC_some, call_func, gt, st, binV, arith, isSh, storeV, all1, idxAV, fieldV, faddrV, iaddrSV, iaddrAV, pickV, convV, unV, eqbV, eqpV, extV, lenV, mm2, mmV, nilckV, ress, res1, retV, Value.cells, cond_true, cond_false, Bool.true_or, Bool.false_or, Bool.or_true, Bool.or_false, beq_self_eq_true, if_true, if_false, ite_true, ite_false, decide_true, decide_false, decide_eq_true_eq, reduceIte, Nat.zero_add, Nat.add_zero, and_self, true_and, and_true, List.size_toArray, List.length_cons, List.length_nil, List.append_nil, List.nil_append, Int.toNat_zero, Bool.not_false, Bool.not_true, Bool.not_not, Bool.false_eq_true, Bool.true_eq_false, reduceCtorEq, Int.reduceLT, Int.reduceLE, Int.reduceToNat, Int.reduceAdd, Int.reduceSub, Int.reduceMul, Int.reduceNeg, Nat.reduceMul, Nat.reduceAdd, Nat.reduceSub, Nat.reduceBEq, Nat.reduceEqDiff, Nat.reduceLT, Nat.reduceLeDiff, Int.reduceBEq, Int.reduceEq, Nat.reducePow, Int.reducePow, IntWalk.i64_in, IntKind.bits, eqAV, eqL, leafEq, andO, fillV, buildSV, List.getElem?_toArray, List.getElem?_cons_zero, List.getElem?_cons_succ, List.getElem?_nil, Int.reduceGT, Int.reduceGE, Int.reduceBNe, Bool.true_and, Bool.and_true, Bool.false_and, Bool.and_false, Bool.and_self, IntWalk.u64_in, Int.cast_ofNat_Int, callF1, pad16, pad_0, pad_1, pad_2, pad_3, pad_4, pad_5, pad_6, pad_7, pad_8, pad_9, pad_10, pad_11, pad_12, pad_13, pad_14, pad_15, gc0, gc1, gc2, gc3, gc4, gc5, gc6, gc7, gc8, gc9, gc10, gc11, gc12, gc13, gc14, gc15, gcS, sc0, sc1, sc2, sc3, sc4, sc5, sc6, sc7, sc8, sc9, sc10, sc11, sc12, sc13, sc14, sc15, scS, List.drop_succ_cons, List.drop_nil, x_pan, s_pan, b_pan, pE_ret, pE_pan, pE_none, pE_ite, pvE_some, pvE_none, pvE_ite, rv_some, rv_none, rv_ite, oR_ret, t_mv, t_pick, t_alloc, t_box, t_build, t_buildS, t_load, t_store, t_nilck, t_bin, t_eqb, t_eqA, t_eqp, t_un, t_conv, t_field, t_idxA, t_faddr, t_iaddrS, t_iaddrA, t_ext, t_len, t_mm, t_call, t_ifc, t_fn, t_slc, t_slcA, t_slcT, t_tass, t_isn, t_mks, t_app, t_pan, panE_i, optE_none, optE_some, bnd_none, bnd_int, slA_none, slA_some, appR_some, appOld_cells, newsV_s, newsV_n, lenS_s, appV_nil, appV_some, mksV_i, sh_c, sh_g, f_pan, endD_ret, dfr_normal, dfr_ret, dfr_pan, restD_normal, callD1, callC1, tassV, isnV, slcV, slcAV, slcTV, slcB, appNew, Option.bind_some, Option.bind_none, d_pan, h_pan, wrH_eq, wrX_cells, wrU_some, upH_nil, upH_cons, lk_upH, effR_some, effR_none, effR_ite, Option.isNone_none, Option.isNone_some]
      with_reducible exact done1
  · rw [if_neg hab] at r2
    have hab' := beq_false_of_ne hab
    have hbn : (a != b) = true := by simp [bne, hab']
    cases store with
    | true =>
      simp -implicitDefEqProofs (maxSteps := 10000000) (disch := omega) only [T7, L7, G7_8, V8_eq, G7_9, V9_eq, G7_16, V16_eq, G7_17, V17_eq, G7_18, V18_eq, G7_19, V19_eq, G7_20, V20_eq, hB, hR, hI, eLoad, eStore, eLL, eVL, eSC, eRL, look_nil, look_ptr, lookP_c, lookM_s, lookM_n, lookS_c, lookU_s, unf_fl, unf1, act_bad, act_good, gLoad, gStore, gLL, gVL, gSC, gRL, okP_iff, List.set_cons_zero, List.set_cons_succ, List.getD_cons_zero, List.getD_cons_succ, ea, eb, awk, a0, a2, b0, b2, r1, r2, r3, hab', hbn, bne_self_eq_false, z0, z1, z2, z3, z4, z5, z6, z7, z8, z9, z10, z11, z12, z13, z14, z15, pad, e_skip, e_ops, e_draw, d_none, d_nil, d_cons, d_ite, h_none, h_nil, h_cons, h_ite, eqS_same, lightV, e_seq, e_cond, e_block, e_loop, e_exit, e_ret, s_normal, s_ret, s_exit, s_none, s_ite, b_normal, b_ret, b_exit, b_none, b_ite, c_bool, x_none, x_nil, x_cons, x_ite, p_some, p_none, p_ite, pt_some, pt_none, pv_some, pv_none, pv_ite, w_none, w_some, i_bool, i_undef, bt, bf, v_tmp, v_const, v_global, v_func, evs, f_normal, f_ret, f_none, f_ite, r_some, co_some, l_ptr, m_agg, m_one, sh_app, lk_nil, lk_cons, rd_eq, rdO_some, rdO_none, rdN_none, rdL_some, rdL_none, wrB_none, unitR_some, wr_nil, wr_here, wr_skip, k_cells, tk_zero, tk_take, tk_skip, tkC_some, call_func, gt, st, binV, arith, isSh, storeV, all1, idxAV, fieldV, faddrV, iaddrSV, iaddrAV, pickV, convV, unV, eqbV, eqpV, extV, lenV, mm2, mmV, nilckV, ress, res1, retV, Value.cells, cond_true, cond_false, Bool.true_or, Bool.false_or, Bool.or_true, Bool.or_false, beq_self_eq_true, if_true, if_false, ite_true, ite_false, decide_true, decide_false, decide_eq_true_eq, reduceIte, Nat.zero_add, Nat.add_zero, and_self, true_and, and_true, List.size_toArray, List.length_cons, List.length_nil, List.append_nil, List.nil_append, Int.toNat_zero, Bool.not_false, Bool.not_true, Bool.not_not, Bool.false_eq_true, Bool.true_eq_false, reduceCtorEq, Int.reduceLT, Int.reduceLE, Int.reduceToNat, Int.reduceAdd, Int.reduceSub, Int.reduceMul, Int.reduceNeg, Nat.reduceMul, Nat.reduceAdd, Nat.reduceSub, Nat.reduceBEq, Nat.reduceEqDiff, Nat.reduceLT, Nat.reduceLeDiff, Int.reduceBEq, Int.reduceEq, Nat.reducePow, Int.reducePow, IntWalk.i64_in, IntKind.bits, eqAV, eqL, leafEq, andO, fillV, buildSV, List.getElem?_toArray, List.getElem?_cons_zero, List.getElem?_cons_succ, List.getElem?_nil, Int.reduceGT, Int.reduceGE, Int.reduceBNe, Bool.true_and, Bool.and_true, Bool.false_and, Bool.and_false, Bool.and_self, IntWalk.u64_in, Int.cast_ofNat_Int, callF1, pad16, pad_0, pad_1, pad_2, pad_3, pad_4, pad_5, pad_6, pad_7, pad_8, pad_9, pad_10, pad_11, pad_12, pad_13, pad_14, pad_15, gc0, gc1, gc2, gc3, gc4, gc5, gc6, gc7, gc8, gc9, gc10, gc11, gc12, gc13, gc14, gc15, gcS, sc0, sc1, sc2, sc3, sc4, sc5, sc6, sc7, sc8, sc9, sc10, sc11, sc12, sc13, sc14, sc15, scS, List.drop_succ_cons, List.drop_nil, x_pan, s_pan, b_pan, pE_ret, pE_pan, pE_none, pE_ite, pvE_some, pvE_none, pvE_ite, rv_some, rv_none, rv_ite, oR_ret, t_mv, t_pick, t_alloc, t_box, t_build, t_buildS, t_load, t_store, t_nilck, t_bin, t_eqb, t_eqA, t_eqp, t_un, t_conv, t_field, t_idxA, t_faddr, t_iaddrS, t_iaddrA, t_ext, t_len, t_mm, t_call, t_ifc, t_fn, t_slc, t_slcA, t_slcT, t_tass, t_isn, t_mks, t_app, t_pan, panE_i, optE_none, optE_some, bnd_none, bnd_int, slA_none, slA_some, appR_some, appOld_cells, newsV_s, newsV_n, lenS_s, appV_nil, appV_some, mksV_i, sh_c, sh_g, f_pan, endD_ret, dfr_normal, dfr_ret, dfr_pan, restD_normal, callD1, callC1, tassV, isnV, slcV, slcAV, slcTV, slcB, appNew, Option.bind_some, Option.bind_none, d_pan, h_pan, wrH_eq, wrX_cells, wrU_some, upH_nil, upH_cons, lk_upH, effR_some, effR_none, effR_ite, Option.isNone_none, Option.isNone_some]
      with_reducible exact done1
    | false =>
      simp -implicitDefEqProofs (maxSteps := 10000000) (disch := omega) only [T7, L7, G7_8, V8_eq, G7_9, V9_eq, G7_16, V16_eq, G7_17, V17_eq, G7_18, V18_eq, G7_19, V19_eq, G7_20, V20_eq, hB, hR, hI, eLoad, eStore, eLL, eVL, eSC, eRL, look_nil, look_ptr, lookP_c, lookM_s, lookM_n, lookS_c, lookU_s, unf_fl, unf1, act_bad, act_good, gLoad, gStore, gLL, gVL, gSC, gRL, okP_iff, List.set_cons_zero, List.set_cons_succ, List.getD_cons_zero, List.getD_cons_succ, ea, eb, awk, a0, a2, b0, b2, r1, r2, r3, hab', hbn, bne_self_eq_false, z0, z1, z2, z3, z4, z5, z6, z7, z8, z9, z10, z11, z12, z13, z14, z15, pad, e_skip, e_ops, e_draw, d_none, d_nil, d_cons, d_ite, h_none, h_nil, h_cons, h_ite, eqS_same, lightV, e_seq, e_cond, e_block, e_loop, e_exit, e_ret, s_normal, s_ret, s_exit, s_none, s_ite, b_normal, b_ret, b_exit, b_none, b_ite, c_bool, x_none, x_nil, x_cons, x_ite, p_some, p_none, p_ite, pt_some, pt_none, pv_some, pv_none, pv_ite, w_none, w_some, i_bool, i_undef, bt, bf, v_tmp, v_const, v_global, v_func, evs, f_normal, f_ret, f_none, f_ite, r_some, co_some, l_ptr, m_agg, m_one, sh_app, lk_nil, lk_cons, rd_eq, rdO_some, rdO_none, rdN_none, rdL_some, rdL_none, wrB_none, unitR_some, wr_nil, wr_here, wr_skip, k_cells, tk_zero, tk_take, tk_skip, tkC_some, call_func, gt, st, binV, arith, isSh, storeV, all1, idxAV, fieldV, faddrV, iaddrSV, iaddrAV, pickV, convV, unV, eqbV, eqpV, extV, lenV, mm2, mmV, nilckV, ress, res1, retV, Value.cells, cond_true, cond_false, Bool.true_or, Bool.false_or, Bool.or_true, Bool.or_false, beq_self_eq_true, if_true, if_false, ite_true, ite_false, decide_true, decide_false, decide_eq_true_eq, reduceIte, Nat.zero_add, Nat.add_zero, and_self, true_and, and_true, List.size_toArray, List.length_cons, List.length_nil, List.append_nil, List.nil_append, Int.toNat_zero, Bool.not_false, Bool.not_true, Bool.not_not, Bool.false_eq_true, Bool.true_eq_false, reduceCtorEq, Int.reduceLT, Int.reduceLE, Int.reduceToNat, Int.reduceAdd, Int.reduceSub, Int.reduceMul, Int.reduceNeg, Nat.reduceMul, Nat.reduceAdd, Nat.reduceSub, Nat.reduceBEq, Nat.reduceEqDiff, Nat.reduceLT, Nat.reduceLeDiff, Int.reduceBEq, Int.reduceEq, Nat.reducePow, Int.reducePow, IntWalk.i64_in, IntKind.bits, eqAV, eqL, leafEq, andO, fillV, buildSV, List.getElem?_toArray, List.getElem?_cons_zero, List.getElem?_cons_succ, List.getElem?_nil, Int.reduceGT, Int.reduceGE, Int.reduceBNe, Bool.true_and, Bool.and_true, Bool.false_and, Bool.and_false, Bool.and_self, IntWalk.u64_in, Int.cast_ofNat_Int, callF1, pad16, pad_0, pad_1, pad_2, pad_3, pad_4, pad_5, pad_6, pad_7, pad_8, pad_9, pad_10, pad_11, pad_12, pad_13, pad_14, pad_15, gc0, gc1, gc2, gc3, gc4, gc5, gc6, gc7, gc8, gc9, gc10, gc11, gc12, gc13, gc14, gc15, gcS, sc0, sc1, sc2, sc3, sc4, sc5, sc6, sc7, sc8, sc9, sc10, sc11, sc12, sc13, sc14, sc15, scS, List.drop_succ_cons, List.drop_nil, x_pan, s_pan, b_pan, pE_ret, pE_pan, pE_none, pE_ite, pvE_some, pvE_none, pvE_ite, rv_some, rv_none, rv_ite, oR_ret, t_mv, t_pick, t_alloc, t_box, t_build, t_buildS, t_load, t_store, t_nilck, t_bin, t_eqb, t_eqA, t_eqp, t_un, t_conv, t_field, t_idxA, t_faddr, t_iaddrS, t_iaddrA, t_ext, t_len, t_mm, t_call, t_ifc, t_fn, t_slc, t_slcA, t_slcT, t_tass, t_isn, t_mks, t_app, t_pan, panE_i, optE_none, optE_some, bnd_none, bnd_int, slA_none, slA_some, appR_some, appOld_cells, newsV_s, newsV_n, lenS_s, appV_nil, appV_some, mksV_i, sh_c, sh_g, f_pan, endD_ret, dfr_normal, dfr_ret, dfr_pan, restD_normal, callD1, callC1, tassV, isnV, slcV, slcAV, slcTV, slcB, appNew, Option.bind_some, Option.bind_none, d_pan, h_pan, wrH_eq, wrX_cells, wrU_some, upH_nil, upH_cons, lk_upH, effR_some, effR_none, effR_ite, Option.isNone_none, Option.isNone_some]
      with_reducible exact done1
end Go.Proofs.Yteilhhkkhnnglaa
namespace Go.Proofs.Yteilhhkkhnnglaa
open Go.Proofs.Yteilhhkkhnnglaa.K Go.ChangeShapes Go.WideShapes Go.ChangeAt Go.RowKit
set_option maxRecDepth 100000
set_option linter.unusedSimpArgs false
set_option linter.unusedVariables false
namespace cellsFresh
theorem own : ownKnob Try.prog.godebug = none := by kernel_rfl
theorem laidOut : laidOutB Try.prog = true := by kernel_rfl
theorem typesOk : (Try.f7.params.toList.all fun t => Try.prog.readableRec t && decide (t < Try.prog.types.size)) = true := by kernel_rfl
theorem contract (H : Type) (enc : TypeId × Value → H) (W : World) (base : Nat) (args : Array Value) (ds gs : List (DataW H)) (before : List MemPlace)
    (hval : ∀ (j : Nat) t v, Try.f7.params[j]? = some t → args[j]? = some v → Value.okWide Try.prog W .any base t v)
    (hW : DataW.Whole enc Try.prog Try.f7.params.toList Rows.cellsFreshSpec.vars false W args.toList ds gs before) (hL : laidMetH Try.prog Rows.cellsFreshRow.laid W) :
    Calls Try.prog 7 args W fun e W' => ∃ v, e = .returned v ∧ Rows.cellsFreshSpec.post enc Try.prog Try.f7 false true false false W args v W' := by
  have hW' := hW
  obtain ⟨p, q, hA0, hV, hpq, hfz, hnd⟩ := hW
  have hA : DataW.TrodAll enc Try.prog W 0 (fun _ => true) true Try.f7.params.toList args.toList ds p := hA0
  rw [Try.params7] at hA hval
  obtain ⟨v0, vs0, d0, ds0, p0, q0, hargs, rfl, rfl, h0, r0⟩ := trodAll_cons hA
  obtain ⟨v1, vs1, d1, ds1, p1, q1, rfl, rfl, rfl, h1, r1⟩ := trodAll_cons r0
  obtain ⟨v2, vs2, d2, ds2, p2, q2, rfl, rfl, rfl, h2, r2⟩ := trodAll_cons r1
  obtain ⟨v3, vs3, d3, ds3, p3, q3, rfl, rfl, rfl, h3, r3⟩ := trodAll_cons r2
  obtain ⟨v4, vs4, d4, ds4, p4, q4, rfl, rfl, rfl, h4, r4⟩ := trodAll_cons r3
  obtain ⟨rfl, rfl, rfl⟩ := trodAll_nil r4
  obtain rfl : args = #[v0, v1, v2, v3, v4] := by apply Array.ext'; simpa using hargs
  obtain ⟨rfl, rfl⟩ := trodVars_none hV
  obtain ⟨m0, rfl, k0⟩ := open_flat (P := Try.prog) 20 (show aggB Try.prog 53 = some true by kernel_rfl) (show leafs Try.prog 20 53 = some [.int .u64, .int .i64] by kernel_rfl) (hval 0 53 v0 rfl rfl) h0
  obtain ⟨x0_0, m0_0, rfl, w0_0, k0⟩ := k0.int
  have b0_0 := u64_wf' w0_0
  obtain ⟨x0_1, m0_1, rfl, w0_1, k0⟩ := k0.int
  have b0_1 := i64_wf w0_1
  obtain rfl := k0.none
  obtain ⟨x1, rfl, rfl, rfl, w1⟩ := open_int Try.underlying3 (hval 1 3 v1 rfl rfl) h1
  have b1 := i64_wf w1
  obtain ⟨x2, rfl, rfl, rfl, w2⟩ := open_int Try.underlying3 (hval 2 3 v2 rfl rfl) h2
  have b2 := i64_wf w2
  obtain ⟨x3, rfl, rfl, rfl, w3⟩ := open_int Try.underlying23 (hval 3 23 v3 rfl rfl) h3
  have b3 := u64_wf' w3
  obtain ⟨x4, rfl, rfl, rfl⟩ := open_bool Try.underlying4 (hval 4 4 v4 rfl rfl) h4
  refine law_post laidOut (fun t ht => by simpa using List.all_eq_true.1 typesOk t ht) rfl (show Try.f7.resultTypes = #[4] by rfl) Try.underlying4 hW' rfl rfl rfl ?_
  exact law_calls (sT7 (w0 := W) (B := startB W)) (args := [.agg #[.int .u64 x0_0, .int .i64 x0_1], .int .i64 x1, .int .i64 x2, .int .u64 x3, .bool x4]) fun N hN => lv7 x0_0 x0_1 x1 x2 x3 x4 b1 b2 [] N hN

noncomputable def laidWorld (os : Os) : World := laidW Try.prog os []
theorem laid_met (os : Os) : laidMet Try.prog Rows.cellsFreshRow.laid ((laidWorld os).forCall (fun _ _ => 0) ⟨#[], #[.agg #[.int .u64 0, .int .i64 0], .int .i64 0, .int .i64 0, .int .u64 0, .bool false], []⟩).memory :=
  laidMet_of_run' 16 (by kernel_rfl) (by kernel_rfl)
theorem reads (os : Os) {H : Type} (enc : TypeId × Value → H) : ∃ places, DataW.whole enc Try.prog ((laidWorld os).forCall (fun _ _ => 0) ⟨#[], #[.agg #[.int .u64 0, .int .i64 0], .int .i64 0, .int .i64 0, .int .u64 0, .bool false], []⟩).memory Try.f7.params.toList Rows.cellsFreshSpec.vars false (#[.agg #[.int .u64 0, .int .i64 0], .int .i64 0, .int .i64 0, .int .u64 0, .bool false] : Array Value).toList 16 = some ([.agg [.lit (.int .u64 0), .lit (.int .i64 0)], .lit (.int .i64 0), .lit (.int .i64 0), .lit (.int .u64 0), .lit (.bool false)], [], places) :=
  ⟨[], by kernel_rfl⟩
theorem lifted (os : Os) (started : os.Started) (H : Type) (enc : TypeId × Value → H) (F : Stop.Interp) :
    ReturnsInHanded {} Try.checked os 7 .any ((OpenSpec.ofChange Rows.cellsFreshSpec).preRow enc Try.prog Try.f7 Rows.cellsFreshRow.domain false Rows.cellsFreshRow.laid) (((OpenSpec.ofChange Rows.cellsFreshSpec).at F).post enc Try.prog Try.f7 false true false false) := by
  obtain ⟨places, hx⟩ := reads os enc
  refine returnsInHanded_of_row (C := Try.checked) (s := OpenSpec.ofChange Rows.cellsFreshSpec) own started (by kernel_rfl) Try.func7
    (witness_row_at (enc := enc) (C := Try.checked) false (laidWorld os) #[.agg #[.int .u64 0, .int .i64 0], .int .i64 0, .int .i64 0, .int .u64 0, .bool false] rfl (by kernel_rfl) (by kernel_rfl) (by kernel_rfl)
      (OpenSpec.preRow_of_cond 16 hx (by kernel_rfl) (fun k hk => by cases hk) (by kernel_rfl) (laid_met os))) ?_
  intro W base args ds gs before hval hW _ _ _ hL _ _
  exact contract H enc W base args ds gs before hval hW hL
theorem said : Rows.CellsFreshSaid :=
  OpenClaim.holds_of_cond 7 Try.f7 rfl rfl rfl rfl rfl rfl rfl ⟨rfl, rfl, rfl, rfl, rfl⟩ rfl rfl rfl rfl rfl (by kernel_rfl) Try.func7 (by kernel_rfl)
    (of_decide_eq_true (by kernel_rfl)) (by unfold Func.isWrapper; first | (rw [if_pos (by decide +kernel)]; kernel_rfl) | (rw [if_neg (by decide +kernel)]; exact ⟨rfl, rfl⟩))
    (fun os started H enc _ F => by rw [OpenClaim.pre_eq_preRow]; exact lifted os started H enc F)
end cellsFresh
end Go.Proofs.Yteilhhkkhnnglaa
