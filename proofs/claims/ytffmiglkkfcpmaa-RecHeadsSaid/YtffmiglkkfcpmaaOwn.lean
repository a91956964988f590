/- Proved here, for every input: RecTells and RecBack answer true and leave their arguments as they were (theorems recTells.said, recBack.said). Conditions: none. -/
import Derived.Test.YtffmiglkkfcpmaaK
import Derived.Test.YtffmiglkkfcpmaaRows
set_option linter.unusedSimpArgs false
set_option linter.unusedVariables false
namespace Go.Proofs.Ytffmiglkkfcpmaa
open Go.Proofs.Ytffmiglkkfcpmaa.K Go.ChangeShapes Go.WideShapes Go.ChangeAt Go.RowKit 
set_option maxRecDepth 100000
set_option linter.unusedSimpArgs false
set_option linter.unusedVariables false
def noG : Nat → Cs := fun _ _ _ _ => none
theorem sound_noG {P : Program} {w0 : World} {B : OH} : SoundG P w0 B noG := fun _ => .inl fun _ _ _ => rfl
theorem mixedOrders : Try.prog.follows .mixedOrders = true := by kernel_rfl
theorem ar1 {α : Type} (a : α) : (#[a]).toList = [a] := rfl


def askA (c x : Int) : Int := if 1 ≤ c ∧ c ≤ 255 then x else 0
def askE (c e : Int) : Int := if 1 ≤ c ∧ c ≤ 255 then 0 else e
def ansA (c x : Int) : Int := if 0 ≤ c ∧ c ≤ 255 then x else 0
def ansE (c : Int) : Int := if 0 ≤ c ∧ c ≤ 255 then 0 else 1
def tolA (c x : Int) : Int := if 1 ≤ c ∧ c ≤ 256 then x else 0
def tolE (c : Int) : Int := if 1 ≤ c ∧ c ≤ 256 then 0 else 2
def okH (s p : Int) : Prop := 0 ≤ s ∧ s ≤ 2 ∧ 0 ≤ p ∧ p ≤ 15 ∧ (s = 0 → p = 0)
instance (s p : Int) : Decidable (okH s p) := inferInstanceAs (Decidable (_ ∧ _))
def hdA (s p : Int) : Int := if okH s p then 2 * p + s else 0
def hdE (s p : Int) : Int := if okH s p then 0 else 1
def phS (w : Int) : Int := if w > 32 then 0 else if w = 0 then 0 else 1 + (w - 1) % 2
def phP (w : Int) : Int := if w > 32 then 0 else if w = 0 then 0 else (w - 1) / 2
def phE (w : Int) : Int := if w > 32 then 2 else 0
def pick (c n : Int) : Int := (if c < 0 then -(c + 1) else c) % n
theorem and_one (x : Int) (h : 0 ≤ x) (h' : x < 18446744073709551616) : IntKind.u64.wrap ((BitVec.ofInt 64 x &&& BitVec.ofInt 64 1).toNat : Int) = x % 2 := by
  have h1 : (BitVec.ofInt 64 x &&& BitVec.ofInt 64 1).toNat = x.toNat % 2 := by
    rw [BitVec.toNat_and, BitVec.toNat_ofInt, BitVec.toNat_ofInt]
    rw [show (((1 : Int) % ((2 ^ 64 : Nat) : Int)).toNat) = 2 ^ 1 - 1 from rfl, Nat.and_two_pow_sub_one_eq_mod]
    omega
  rw [h1, IntKind.wrap_u64]
  omega
theorem and_one' (x : Int) (h : 0 ≤ x) (h' : x < 18446744073709551616) : IntKind.u64.wrap ((BitVec.ofInt IntKind.u64.bits x &&& BitVec.ofInt IntKind.u64.bits 1).toNat : Int) = x % 2 := and_one x h h'
theorem min_1 : min 1 64 = 1 := rfl
theorem fdiv_two (x : Int) : x.fdiv 2 = x / 2 := Int.fdiv_eq_ediv_of_nonneg x (by omega)

/-- whitewash/rec.within[int] -/
def L21 : FnL := ⟨(.seq (.ops [⟨(some 6), .mv (.const (.bool false)), none⟩])
 (.seq (.ops [⟨(some 7), .mv (.tmp 0), none⟩, ⟨(some 8), .mv (.tmp 1), none⟩, ⟨(some 9), .bin .geq (.tmp 7) (.tmp 8), none⟩, ⟨(some 10), .mv (.tmp 9), none⟩, ⟨(some 11), .mv (.tmp 0), (some (10, true))⟩, ⟨(some 12), .mv (.tmp 2), (some (10, true))⟩, ⟨(some 13), .bin .leq (.tmp 11) (.tmp 12), (some (10, true))⟩, ⟨(some 14), .pick (.tmp 10) (.tmp 13) (.const (.bool false)), none⟩, ⟨(some 6), .mv (.tmp 14), none⟩])
 .ret)),
 15, [.tmp 6]⟩
theorem low21 : lowerFn Try.prog Try.f21 = some L21 := by kernel_rfl
noncomputable def G21 (B : OH) : Nat → Cs
  | _ => fun _ _ _ => none
theorem sG21 {w0 : World} {B : OH} : SoundG Try.prog w0 B (G21 B) := fun k => by
  unfold G21
  split
  · exact .inl fun _ _ _ => rfl
noncomputable def F21 (B : OH) : List Value → Option Value := kval B (callF B (G21 B) 80 L21)
noncomputable def V21 (B : OH) : Cs := fun a H N => pv (F21 B a) H N
theorem en21 : Enter Try.prog 21 := .of Try.func21 (by kernel_rfl) (by kernel_rfl)
theorem sV21 {w0 : World} {B : OH} : SoundC Try.prog w0 B 21 (V21 B) := (callF_sound mixedOrders sG21 80 Try.func21 low21).ofVal
set_option maxHeartbeats 1000000 in
theorem f21 {B : OH} (hG : ∃ H N, good B H N) (n l m : Int) : F21 B [.int .i64 n, .int .i64 l, .int .i64 m] = some (.bool (decide (l ≤ n ∧ n ≤ m))) := by
  refine kval_eq hG fun H N hN => ?_
  have hB := good_B hN
  have hR := good_rdB hN
  have hI := beqN hN.1
  by_cases h : l ≤ n
  · by_cases h2 : n ≤ m
    · simp -implicitDefEqProofs (maxSteps := 10000000) (disch := omega) only [L21, hB, hR, hI, h, h2, ge_iff_le, pad, e_skip, e_ops, e_draw, d_none, d_nil, d_cons, d_ite, h_none, h_nil, h_cons, h_ite, eqS_same, lightV, e_seq, e_cond, e_block, e_loop, e_exit, e_ret, s_normal, s_ret, s_exit, s_none, s_ite, b_normal, b_ret, b_exit, b_none, b_ite, c_bool, o_some, o_none, o_ite, x_none, x_nil, x_cons, x_ite, p_some, p_none, p_ite, pt_some, pt_none, pv_some, pv_none, pv_ite, w_none, w_some, i_bool, i_undef, bt, bf, v_tmp, v_const, v_global, v_func, evs, f_normal, f_ret, f_none, f_ite, r_some, co_some, l_ptr, m_agg, m_one, sh_app, lk_nil, lk_cons, rd_eq, rdO_some, rdO_none, rdN_none, rdL_some, rdL_none, wrB_none, unitR_some, wrC_some, wrK_cells, consH_some, wr_nil, wr_here, wr_skip, wrH_cons, k_cells, tk_zero, tk_take, tk_skip, tkC_some, call_func, gt, st, stepOp, newB, ptrTo, binV, arith, isSh, storeV, all1, idxAV, fieldV, faddrV, iaddrSV, iaddrAV, pickV, convV, unV, eqbV, eqpV, extV, lenV, mm2, mmV, nilckV, ress, res1, retV, Value.cells, cond_true, cond_false, Bool.true_or, Bool.false_or, Bool.or_true, Bool.or_false, beq_self_eq_true, if_true, if_false, ite_true, ite_false, decide_true, decide_false, decide_eq_true_eq, reduceIte, Nat.zero_add, Nat.add_zero, and_self, true_and, and_true, List.size_toArray, List.length_cons, List.length_nil, List.append_nil, List.nil_append, Int.toNat_zero, Bool.not_false, Bool.not_true, Bool.not_not, Bool.false_eq_true, Bool.true_eq_false, reduceCtorEq, Int.reduceLT, Int.reduceLE, Int.reduceToNat, Int.reduceAdd, Int.reduceSub, Int.reduceMul, Int.reduceNeg, Nat.reduceMul, Nat.reduceAdd, Nat.reduceSub, Nat.reduceBEq, Nat.reduceEqDiff, Nat.reduceLT, Nat.reduceLeDiff, Int.reduceBEq, Int.reduceEq, Nat.reducePow, Int.reducePow, IntWalk.i64_in, IntKind.bits, eqAV, eqL, leafEq, andO, fillV, buildSV, List.getElem?_toArray, List.getElem?_cons_zero, List.getElem?_cons_succ, List.getElem?_nil, Int.reduceGT, Int.reduceGE, Int.reduceBNe, Bool.true_and, Bool.and_true, Bool.false_and, Bool.and_false, Bool.and_self, IntWalk.u64_in, Int.cast_ofNat_Int, callF1, pad16, pad_0, pad_1, pad_2, pad_3, pad_4, pad_5, pad_6, pad_7, pad_8, pad_9, pad_10, pad_11, pad_12, pad_13, pad_14, pad_15, gc0, gc1, gc2, gc3, gc4, gc5, gc6, gc7, gc8, gc9, gc10, gc11, gc12, gc13, gc14, gc15, gcS, sc0, sc1, sc2, sc3, sc4, sc5, sc6, sc7, sc8, sc9, sc10, sc11, sc12, sc13, sc14, sc15, scS, List.drop_succ_cons, List.drop_nil]
      with_reducible refine done2 ?_
      repeat (first | refine ext_new hN ?_ | exact ext_refl)
    · simp -implicitDefEqProofs (maxSteps := 10000000) (disch := omega) only [L21, hB, hR, hI, h, h2, ge_iff_le, pad, e_skip, e_ops, e_draw, d_none, d_nil, d_cons, d_ite, h_none, h_nil, h_cons, h_ite, eqS_same, lightV, e_seq, e_cond, e_block, e_loop, e_exit, e_ret, s_normal, s_ret, s_exit, s_none, s_ite, b_normal, b_ret, b_exit, b_none, b_ite, c_bool, o_some, o_none, o_ite, x_none, x_nil, x_cons, x_ite, p_some, p_none, p_ite, pt_some, pt_none, pv_some, pv_none, pv_ite, w_none, w_some, i_bool, i_undef, bt, bf, v_tmp, v_const, v_global, v_func, evs, f_normal, f_ret, f_none, f_ite, r_some, co_some, l_ptr, m_agg, m_one, sh_app, lk_nil, lk_cons, rd_eq, rdO_some, rdO_none, rdN_none, rdL_some, rdL_none, wrB_none, unitR_some, wrC_some, wrK_cells, consH_some, wr_nil, wr_here, wr_skip, wrH_cons, k_cells, tk_zero, tk_take, tk_skip, tkC_some, call_func, gt, st, stepOp, newB, ptrTo, binV, arith, isSh, storeV, all1, idxAV, fieldV, faddrV, iaddrSV, iaddrAV, pickV, convV, unV, eqbV, eqpV, extV, lenV, mm2, mmV, nilckV, ress, res1, retV, Value.cells, cond_true, cond_false, Bool.true_or, Bool.false_or, Bool.or_true, Bool.or_false, beq_self_eq_true, if_true, if_false, ite_true, ite_false, decide_true, decide_false, decide_eq_true_eq, reduceIte, Nat.zero_add, Nat.add_zero, and_self, true_and, and_true, List.size_toArray, List.length_cons, List.length_nil, List.append_nil, List.nil_append, Int.toNat_zero, Bool.not_false, Bool.not_true, Bool.not_not, Bool.false_eq_true, Bool.true_eq_false, reduceCtorEq, Int.reduceLT, Int.reduceLE, Int.reduceToNat, Int.reduceAdd, Int.reduceSub, Int.reduceMul, Int.reduceNeg, Nat.reduceMul, Nat.reduceAdd, Nat.reduceSub, Nat.reduceBEq, Nat.reduceEqDiff, Nat.reduceLT, Nat.reduceLeDiff, Int.reduceBEq, Int.reduceEq, Nat.reducePow, Int.reducePow, IntWalk.i64_in, IntKind.bits, eqAV, eqL, leafEq, andO, fillV, buildSV, List.getElem?_toArray, List.getElem?_cons_zero, List.getElem?_cons_succ, List.getElem?_nil, Int.reduceGT, Int.reduceGE, Int.reduceBNe, Bool.true_and, Bool.and_true, Bool.false_and, Bool.and_false, Bool.and_self, IntWalk.u64_in, Int.cast_ofNat_Int, callF1, pad16, pad_0, pad_1, pad_2, pad_3, pad_4, pad_5, pad_6, pad_7, pad_8, pad_9, pad_10, pad_11, pad_12, pad_13, pad_14, pad_15, gc0, gc1, gc2, gc3, gc4, gc5, gc6, gc7, gc8, gc9, gc10, gc11, gc12, gc13, gc14, gc15, gcS, sc0, sc1, sc2, sc3, sc4, sc5, sc6, sc7, sc8, sc9, sc10, sc11, sc12, sc13, sc14, sc15, scS, List.drop_succ_cons, List.drop_nil]
      with_reducible refine done2 ?_
      repeat (first | refine ext_new hN ?_ | exact ext_refl)
  · simp -implicitDefEqProofs (maxSteps := 10000000) (disch := omega) only [L21, hB, hR, hI, h, ge_iff_le, false_and, pad, e_skip, e_ops, e_draw, d_none, d_nil, d_cons, d_ite, h_none, h_nil, h_cons, h_ite, eqS_same, lightV, e_seq, e_cond, e_block, e_loop, e_exit, e_ret, s_normal, s_ret, s_exit, s_none, s_ite, b_normal, b_ret, b_exit, b_none, b_ite, c_bool, o_some, o_none, o_ite, x_none, x_nil, x_cons, x_ite, p_some, p_none, p_ite, pt_some, pt_none, pv_some, pv_none, pv_ite, w_none, w_some, i_bool, i_undef, bt, bf, v_tmp, v_const, v_global, v_func, evs, f_normal, f_ret, f_none, f_ite, r_some, co_some, l_ptr, m_agg, m_one, sh_app, lk_nil, lk_cons, rd_eq, rdO_some, rdO_none, rdN_none, rdL_some, rdL_none, wrB_none, unitR_some, wrC_some, wrK_cells, consH_some, wr_nil, wr_here, wr_skip, wrH_cons, k_cells, tk_zero, tk_take, tk_skip, tkC_some, call_func, gt, st, stepOp, newB, ptrTo, binV, arith, isSh, storeV, all1, idxAV, fieldV, faddrV, iaddrSV, iaddrAV, pickV, convV, unV, eqbV, eqpV, extV, lenV, mm2, mmV, nilckV, ress, res1, retV, Value.cells, cond_true, cond_false, Bool.true_or, Bool.false_or, Bool.or_true, Bool.or_false, beq_self_eq_true, if_true, if_false, ite_true, ite_false, decide_true, decide_false, decide_eq_true_eq, reduceIte, Nat.zero_add, Nat.add_zero, and_self, true_and, and_true, List.size_toArray, List.length_cons, List.length_nil, List.append_nil, List.nil_append, Int.toNat_zero, Bool.not_false, Bool.not_true, Bool.not_not, Bool.false_eq_true, Bool.true_eq_false, reduceCtorEq, Int.reduceLT, Int.reduceLE, Int.reduceToNat, Int.reduceAdd, Int.reduceSub, Int.reduceMul, Int.reduceNeg, Nat.reduceMul, Nat.reduceAdd, Nat.reduceSub, Nat.reduceBEq, Nat.reduceEqDiff, Nat.reduceLT, Nat.reduceLeDiff, Int.reduceBEq, Int.reduceEq, Nat.reducePow, Int.reducePow, IntWalk.i64_in, IntKind.bits, eqAV, eqL, leafEq, andO, fillV, buildSV, List.getElem?_toArray, List.getElem?_cons_zero, List.getElem?_cons_succ, List.getElem?_nil, Int.reduceGT, Int.reduceGE, Int.reduceBNe, Bool.true_and, Bool.and_true, Bool.false_and, Bool.and_false, Bool.and_self, IntWalk.u64_in, Int.cast_ofNat_Int, callF1, pad16, pad_0, pad_1, pad_2, pad_3, pad_4, pad_5, pad_6, pad_7, pad_8, pad_9, pad_10, pad_11, pad_12, pad_13, pad_14, pad_15, gc0, gc1, gc2, gc3, gc4, gc5, gc6, gc7, gc8, gc9, gc10, gc11, gc12, gc13, gc14, gc15, gcS, sc0, sc1, sc2, sc3, sc4, sc5, sc6, sc7, sc8, sc9, sc10, sc11, sc12, sc13, sc14, sc15, scS, List.drop_succ_cons, List.drop_nil]
    with_reducible refine done2 ?_
    repeat (first | refine ext_new hN ?_ | exact ext_refl)
/-- whitewash/rec.within[whitewash/api.Errno] -/
def L22 : FnL := ⟨(.seq (.ops [⟨(some 6), .mv (.const (.bool false)), none⟩])
 (.seq (.ops [⟨(some 7), .mv (.tmp 0), none⟩, ⟨(some 8), .mv (.tmp 1), none⟩, ⟨(some 9), .bin .geq (.tmp 7) (.tmp 8), none⟩, ⟨(some 10), .mv (.tmp 9), none⟩, ⟨(some 11), .mv (.tmp 0), (some (10, true))⟩, ⟨(some 12), .mv (.tmp 2), (some (10, true))⟩, ⟨(some 13), .bin .leq (.tmp 11) (.tmp 12), (some (10, true))⟩, ⟨(some 14), .pick (.tmp 10) (.tmp 13) (.const (.bool false)), none⟩, ⟨(some 6), .mv (.tmp 14), none⟩])
 .ret)),
 15, [.tmp 6]⟩
theorem low22 : lowerFn Try.prog Try.f22 = some L22 := by kernel_rfl
noncomputable def G22 (B : OH) : Nat → Cs
  | _ => fun _ _ _ => none
theorem sG22 {w0 : World} {B : OH} : SoundG Try.prog w0 B (G22 B) := fun k => by
  unfold G22
  split
  · exact .inl fun _ _ _ => rfl
noncomputable def F22 (B : OH) : List Value → Option Value := kval B (callF B (G22 B) 80 L22)
noncomputable def V22 (B : OH) : Cs := fun a H N => pv (F22 B a) H N
theorem en22 : Enter Try.prog 22 := .of Try.func22 (by kernel_rfl) (by kernel_rfl)
theorem sV22 {w0 : World} {B : OH} : SoundC Try.prog w0 B 22 (V22 B) := (callF_sound mixedOrders sG22 80 Try.func22 low22).ofVal
set_option maxHeartbeats 1000000 in
theorem f22 {B : OH} (hG : ∃ H N, good B H N) (n l m : Int) : F22 B [.int .i64 n, .int .i64 l, .int .i64 m] = some (.bool (decide (l ≤ n ∧ n ≤ m))) := by
  refine kval_eq hG fun H N hN => ?_
  have hB := good_B hN
  have hR := good_rdB hN
  have hI := beqN hN.1
  by_cases h : l ≤ n
  · by_cases h2 : n ≤ m
    · simp -implicitDefEqProofs (maxSteps := 10000000) (disch := omega) only [L22, hB, hR, hI, h, h2, ge_iff_le, pad, e_skip, e_ops, e_draw, d_none, d_nil, d_cons, d_ite, h_none, h_nil, h_cons, h_ite, eqS_same, lightV, e_seq, e_cond, e_block, e_loop, e_exit, e_ret, s_normal, s_ret, s_exit, s_none, s_ite, b_normal, b_ret, b_exit, b_none, b_ite, c_bool, o_some, o_none, o_ite, x_none, x_nil, x_cons, x_ite, p_some, p_none, p_ite, pt_some, pt_none, pv_some, pv_none, pv_ite, w_none, w_some, i_bool, i_undef, bt, bf, v_tmp, v_const, v_global, v_func, evs, f_normal, f_ret, f_none, f_ite, r_some, co_some, l_ptr, m_agg, m_one, sh_app, lk_nil, lk_cons, rd_eq, rdO_some, rdO_none, rdN_none, rdL_some, rdL_none, wrB_none, unitR_some, wrC_some, wrK_cells, consH_some, wr_nil, wr_here, wr_skip, wrH_cons, k_cells, tk_zero, tk_take, tk_skip, tkC_some, call_func, gt, st, stepOp, newB, ptrTo, binV, arith, isSh, storeV, all1, idxAV, fieldV, faddrV, iaddrSV, iaddrAV, pickV, convV, unV, eqbV, eqpV, extV, lenV, mm2, mmV, nilckV, ress, res1, retV, Value.cells, cond_true, cond_false, Bool.true_or, Bool.false_or, Bool.or_true, Bool.or_false, beq_self_eq_true, if_true, if_false, ite_true, ite_false, decide_true, decide_false, decide_eq_true_eq, reduceIte, Nat.zero_add, Nat.add_zero, and_self, true_and, and_true, List.size_toArray, List.length_cons, List.length_nil, List.append_nil, List.nil_append, Int.toNat_zero, Bool.not_false, Bool.not_true, Bool.not_not, Bool.false_eq_true, Bool.true_eq_false, reduceCtorEq, Int.reduceLT, Int.reduceLE, Int.reduceToNat, Int.reduceAdd, Int.reduceSub, Int.reduceMul, Int.reduceNeg, Nat.reduceMul, Nat.reduceAdd, Nat.reduceSub, Nat.reduceBEq, Nat.reduceEqDiff, Nat.reduceLT, Nat.reduceLeDiff, Int.reduceBEq, Int.reduceEq, Nat.reducePow, Int.reducePow, IntWalk.i64_in, IntKind.bits, eqAV, eqL, leafEq, andO, fillV, buildSV, List.getElem?_toArray, List.getElem?_cons_zero, List.getElem?_cons_succ, List.getElem?_nil, Int.reduceGT, Int.reduceGE, Int.reduceBNe, Bool.true_and, Bool.and_true, Bool.false_and, Bool.and_false, Bool.and_self, IntWalk.u64_in, Int.cast_ofNat_Int, callF1, pad16, pad_0, pad_1, pad_2, pad_3, pad_4, pad_5, pad_6, pad_7, pad_8, pad_9, pad_10, pad_11, pad_12, pad_13, pad_14, pad_15, gc0, gc1, gc2, gc3, gc4, gc5, gc6, gc7, gc8, gc9, gc10, gc11, gc12, gc13, gc14, gc15, gcS, sc0, sc1, sc2, sc3, sc4, sc5, sc6, sc7, sc8, sc9, sc10, sc11, sc12, sc13, sc14, sc15, scS, List.drop_succ_cons, List.drop_nil]
      with_reducible refine done2 ?_
      repeat (first | refine ext_new hN ?_ | exact ext_refl)
    · simp -implicitDefEqProofs (maxSteps := 10000000) (disch := omega) only [L22, hB, hR, hI, h, h2, ge_iff_le, pad, e_skip, e_ops, e_draw, d_none, d_nil, d_cons, d_ite, h_none, h_nil, h_cons, h_ite, eqS_same, lightV, e_seq, e_cond, e_block, e_loop, e_exit, e_ret, s_normal, s_ret, s_exit, s_none, s_ite, b_normal, b_ret, b_exit, b_none, b_ite, c_bool, o_some, o_none, o_ite, x_none, x_nil, x_cons, x_ite, p_some, p_none, p_ite, pt_some, pt_none, pv_some, pv_none, pv_ite, w_none, w_some, i_bool, i_undef, bt, bf, v_tmp, v_const, v_global, v_func, evs, f_normal, f_ret, f_none, f_ite, r_some, co_some, l_ptr, m_agg, m_one, sh_app, lk_nil, lk_cons, rd_eq, rdO_some, rdO_none, rdN_none, rdL_some, rdL_none, wrB_none, unitR_some, wrC_some, wrK_cells, consH_some, wr_nil, wr_here, wr_skip, wrH_cons, k_cells, tk_zero, tk_take, tk_skip, tkC_some, call_func, gt, st, stepOp, newB, ptrTo, binV, arith, isSh, storeV, all1, idxAV, fieldV, faddrV, iaddrSV, iaddrAV, pickV, convV, unV, eqbV, eqpV, extV, lenV, mm2, mmV, nilckV, ress, res1, retV, Value.cells, cond_true, cond_false, Bool.true_or, Bool.false_or, Bool.or_true, Bool.or_false, beq_self_eq_true, if_true, if_false, ite_true, ite_false, decide_true, decide_false, decide_eq_true_eq, reduceIte, Nat.zero_add, Nat.add_zero, and_self, true_and, and_true, List.size_toArray, List.length_cons, List.length_nil, List.append_nil, List.nil_append, Int.toNat_zero, Bool.not_false, Bool.not_true, Bool.not_not, Bool.false_eq_true, Bool.true_eq_false, reduceCtorEq, Int.reduceLT, Int.reduceLE, Int.reduceToNat, Int.reduceAdd, Int.reduceSub, Int.reduceMul, Int.reduceNeg, Nat.reduceMul, Nat.reduceAdd, Nat.reduceSub, Nat.reduceBEq, Nat.reduceEqDiff, Nat.reduceLT, Nat.reduceLeDiff, Int.reduceBEq, Int.reduceEq, Nat.reducePow, Int.reducePow, IntWalk.i64_in, IntKind.bits, eqAV, eqL, leafEq, andO, fillV, buildSV, List.getElem?_toArray, List.getElem?_cons_zero, List.getElem?_cons_succ, List.getElem?_nil, Int.reduceGT, Int.reduceGE, Int.reduceBNe, Bool.true_and, Bool.and_true, Bool.false_and, Bool.and_false, Bool.and_self, IntWalk.u64_in, Int.cast_ofNat_Int, callF1, pad16, pad_0, pad_1, pad_2, pad_3, pad_4, pad_5, pad_6, pad_7, pad_8, pad_9, pad_10, pad_11, pad_12, pad_13, pad_14, pad_15, gc0, gc1, gc2, gc3, gc4, gc5, gc6, gc7, gc8, gc9, gc10, gc11, gc12, gc13, gc14, gc15, gcS, sc0, sc1, sc2, sc3, sc4, sc5, sc6, sc7, sc8, sc9, sc10, sc11, sc12, sc13, sc14, sc15, scS, List.drop_succ_cons, List.drop_nil]
      with_reducible refine done2 ?_
      repeat (first | refine ext_new hN ?_ | exact ext_refl)
  · simp -implicitDefEqProofs (maxSteps := 10000000) (disch := omega) only [L22, hB, hR, hI, h, ge_iff_le, false_and, pad, e_skip, e_ops, e_draw, d_none, d_nil, d_cons, d_ite, h_none, h_nil, h_cons, h_ite, eqS_same, lightV, e_seq, e_cond, e_block, e_loop, e_exit, e_ret, s_normal, s_ret, s_exit, s_none, s_ite, b_normal, b_ret, b_exit, b_none, b_ite, c_bool, o_some, o_none, o_ite, x_none, x_nil, x_cons, x_ite, p_some, p_none, p_ite, pt_some, pt_none, pv_some, pv_none, pv_ite, w_none, w_some, i_bool, i_undef, bt, bf, v_tmp, v_const, v_global, v_func, evs, f_normal, f_ret, f_none, f_ite, r_some, co_some, l_ptr, m_agg, m_one, sh_app, lk_nil, lk_cons, rd_eq, rdO_some, rdO_none, rdN_none, rdL_some, rdL_none, wrB_none, unitR_some, wrC_some, wrK_cells, consH_some, wr_nil, wr_here, wr_skip, wrH_cons, k_cells, tk_zero, tk_take, tk_skip, tkC_some, call_func, gt, st, stepOp, newB, ptrTo, binV, arith, isSh, storeV, all1, idxAV, fieldV, faddrV, iaddrSV, iaddrAV, pickV, convV, unV, eqbV, eqpV, extV, lenV, mm2, mmV, nilckV, ress, res1, retV, Value.cells, cond_true, cond_false, Bool.true_or, Bool.false_or, Bool.or_true, Bool.or_false, beq_self_eq_true, if_true, if_false, ite_true, ite_false, decide_true, decide_false, decide_eq_true_eq, reduceIte, Nat.zero_add, Nat.add_zero, and_self, true_and, and_true, List.size_toArray, List.length_cons, List.length_nil, List.append_nil, List.nil_append, Int.toNat_zero, Bool.not_false, Bool.not_true, Bool.not_not, Bool.false_eq_true, Bool.true_eq_false, reduceCtorEq, Int.reduceLT, Int.reduceLE, Int.reduceToNat, Int.reduceAdd, Int.reduceSub, Int.reduceMul, Int.reduceNeg, Nat.reduceMul, Nat.reduceAdd, Nat.reduceSub, Nat.reduceBEq, Nat.reduceEqDiff, Nat.reduceLT, Nat.reduceLeDiff, Int.reduceBEq, Int.reduceEq, Nat.reducePow, Int.reducePow, IntWalk.i64_in, IntKind.bits, eqAV, eqL, leafEq, andO, fillV, buildSV, List.getElem?_toArray, List.getElem?_cons_zero, List.getElem?_cons_succ, List.getElem?_nil, Int.reduceGT, Int.reduceGE, Int.reduceBNe, Bool.true_and, Bool.and_true, Bool.false_and, Bool.and_false, Bool.and_self, IntWalk.u64_in, Int.cast_ofNat_Int, callF1, pad16, pad_0, pad_1, pad_2, pad_3, pad_4, pad_5, pad_6, pad_7, pad_8, pad_9, pad_10, pad_11, pad_12, pad_13, pad_14, pad_15, gc0, gc1, gc2, gc3, gc4, gc5, gc6, gc7, gc8, gc9, gc10, gc11, gc12, gc13, gc14, gc15, gcS, sc0, sc1, sc2, sc3, sc4, sc5, sc6, sc7, sc8, sc9, sc10, sc11, sc12, sc13, sc14, sc15, scS, List.drop_succ_cons, List.drop_nil]
    with_reducible refine done2 ?_
    repeat (first | refine ext_new hN ?_ | exact ext_refl)
/-- whitewash/rec.within[uint64] -/
def L23 : FnL := ⟨(.seq (.ops [⟨(some 6), .mv (.const (.bool false)), none⟩])
 (.seq (.ops [⟨(some 7), .mv (.tmp 0), none⟩, ⟨(some 8), .mv (.tmp 1), none⟩, ⟨(some 9), .bin .geq (.tmp 7) (.tmp 8), none⟩, ⟨(some 10), .mv (.tmp 9), none⟩, ⟨(some 11), .mv (.tmp 0), (some (10, true))⟩, ⟨(some 12), .mv (.tmp 2), (some (10, true))⟩, ⟨(some 13), .bin .leq (.tmp 11) (.tmp 12), (some (10, true))⟩, ⟨(some 14), .pick (.tmp 10) (.tmp 13) (.const (.bool false)), none⟩, ⟨(some 6), .mv (.tmp 14), none⟩])
 .ret)),
 15, [.tmp 6]⟩

theorem low23 : lowerFn Try.prog Try.f23 = some L23 := by kernel_rfl
noncomputable def G23 (B : OH) : Nat → Cs
  | _ => fun _ _ _ => none
theorem sG23 {w0 : World} {B : OH} : SoundG Try.prog w0 B (G23 B) := fun k => by
  unfold G23
  split
  · exact .inl fun _ _ _ => rfl
noncomputable def F23 (B : OH) : List Value → Option Value := kval B (callF B (G23 B) 80 L23)
noncomputable def V23 (B : OH) : Cs := fun a H N => pv (F23 B a) H N
theorem en23 : Enter Try.prog 23 := .of Try.func23 (by kernel_rfl) (by kernel_rfl)
theorem sV23 {w0 : World} {B : OH} : SoundC Try.prog w0 B 23 (V23 B) := (callF_sound mixedOrders sG23 80 Try.func23 low23).ofVal
set_option maxHeartbeats 1000000 in
theorem f23 {B : OH} (hG : ∃ H N, good B H N) (n l m : Int) : F23 B [.int .u64 n, .int .u64 l, .int .u64 m] = some (.bool (decide (l ≤ n ∧ n ≤ m))) := by
  refine kval_eq hG fun H N hN => ?_
  have hB := good_B hN
  have hR := good_rdB hN
  have hI := beqN hN.1
  by_cases h : l ≤ n
  · by_cases h2 : n ≤ m
    · simp -implicitDefEqProofs (maxSteps := 10000000) (disch := omega) only [L23, hB, hR, hI, h, h2, ge_iff_le, pad, e_skip, e_ops, e_draw, d_none, d_nil, d_cons, d_ite, h_none, h_nil, h_cons, h_ite, eqS_same, lightV, e_seq, e_cond, e_block, e_loop, e_exit, e_ret, s_normal, s_ret, s_exit, s_none, s_ite, b_normal, b_ret, b_exit, b_none, b_ite, c_bool, o_some, o_none, o_ite, x_none, x_nil, x_cons, x_ite, p_some, p_none, p_ite, pt_some, pt_none, pv_some, pv_none, pv_ite, w_none, w_some, i_bool, i_undef, bt, bf, v_tmp, v_const, v_global, v_func, evs, f_normal, f_ret, f_none, f_ite, r_some, co_some, l_ptr, m_agg, m_one, sh_app, lk_nil, lk_cons, rd_eq, rdO_some, rdO_none, rdN_none, rdL_some, rdL_none, wrB_none, unitR_some, wrC_some, wrK_cells, consH_some, wr_nil, wr_here, wr_skip, wrH_cons, k_cells, tk_zero, tk_take, tk_skip, tkC_some, call_func, gt, st, stepOp, newB, ptrTo, binV, arith, isSh, storeV, all1, idxAV, fieldV, faddrV, iaddrSV, iaddrAV, pickV, convV, unV, eqbV, eqpV, extV, lenV, mm2, mmV, nilckV, ress, res1, retV, Value.cells, cond_true, cond_false, Bool.true_or, Bool.false_or, Bool.or_true, Bool.or_false, beq_self_eq_true, if_true, if_false, ite_true, ite_false, decide_true, decide_false, decide_eq_true_eq, reduceIte, Nat.zero_add, Nat.add_zero, and_self, true_and, and_true, List.size_toArray, List.length_cons, List.length_nil, List.append_nil, List.nil_append, Int.toNat_zero, Bool.not_false, Bool.not_true, Bool.not_not, Bool.false_eq_true, Bool.true_eq_false, reduceCtorEq, Int.reduceLT, Int.reduceLE, Int.reduceToNat, Int.reduceAdd, Int.reduceSub, Int.reduceMul, Int.reduceNeg, Nat.reduceMul, Nat.reduceAdd, Nat.reduceSub, Nat.reduceBEq, Nat.reduceEqDiff, Nat.reduceLT, Nat.reduceLeDiff, Int.reduceBEq, Int.reduceEq, Nat.reducePow, Int.reducePow, IntWalk.i64_in, IntKind.bits, eqAV, eqL, leafEq, andO, fillV, buildSV, List.getElem?_toArray, List.getElem?_cons_zero, List.getElem?_cons_succ, List.getElem?_nil, Int.reduceGT, Int.reduceGE, Int.reduceBNe, Bool.true_and, Bool.and_true, Bool.false_and, Bool.and_false, Bool.and_self, IntWalk.u64_in, Int.cast_ofNat_Int, callF1, pad16, pad_0, pad_1, pad_2, pad_3, pad_4, pad_5, pad_6, pad_7, pad_8, pad_9, pad_10, pad_11, pad_12, pad_13, pad_14, pad_15, gc0, gc1, gc2, gc3, gc4, gc5, gc6, gc7, gc8, gc9, gc10, gc11, gc12, gc13, gc14, gc15, gcS, sc0, sc1, sc2, sc3, sc4, sc5, sc6, sc7, sc8, sc9, sc10, sc11, sc12, sc13, sc14, sc15, scS, List.drop_succ_cons, List.drop_nil]
      with_reducible refine done2 ?_
      repeat (first | refine ext_new hN ?_ | exact ext_refl)
    · simp -implicitDefEqProofs (maxSteps := 10000000) (disch := omega) only [L23, hB, hR, hI, h, h2, ge_iff_le, pad, e_skip, e_ops, e_draw, d_none, d_nil, d_cons, d_ite, h_none, h_nil, h_cons, h_ite, eqS_same, lightV, e_seq, e_cond, e_block, e_loop, e_exit, e_ret, s_normal, s_ret, s_exit, s_none, s_ite, b_normal, b_ret, b_exit, b_none, b_ite, c_bool, o_some, o_none, o_ite, x_none, x_nil, x_cons, x_ite, p_some, p_none, p_ite, pt_some, pt_none, pv_some, pv_none, pv_ite, w_none, w_some, i_bool, i_undef, bt, bf, v_tmp, v_const, v_global, v_func, evs, f_normal, f_ret, f_none, f_ite, r_some, co_some, l_ptr, m_agg, m_one, sh_app, lk_nil, lk_cons, rd_eq, rdO_some, rdO_none, rdN_none, rdL_some, rdL_none, wrB_none, unitR_some, wrC_some, wrK_cells, consH_some, wr_nil, wr_here, wr_skip, wrH_cons, k_cells, tk_zero, tk_take, tk_skip, tkC_some, call_func, gt, st, stepOp, newB, ptrTo, binV, arith, isSh, storeV, all1, idxAV, fieldV, faddrV, iaddrSV, iaddrAV, pickV, convV, unV, eqbV, eqpV, extV, lenV, mm2, mmV, nilckV, ress, res1, retV, Value.cells, cond_true, cond_false, Bool.true_or, Bool.false_or, Bool.or_true, Bool.or_false, beq_self_eq_true, if_true, if_false, ite_true, ite_false, decide_true, decide_false, decide_eq_true_eq, reduceIte, Nat.zero_add, Nat.add_zero, and_self, true_and, and_true, List.size_toArray, List.length_cons, List.length_nil, List.append_nil, List.nil_append, Int.toNat_zero, Bool.not_false, Bool.not_true, Bool.not_not, Bool.false_eq_true, Bool.true_eq_false, reduceCtorEq, Int.reduceLT, Int.reduceLE, Int.reduceToNat, Int.reduceAdd, Int.reduceSub, Int.reduceMul, Int.reduceNeg, Nat.reduceMul, Nat.reduceAdd, Nat.reduceSub, Nat.reduceBEq, Nat.reduceEqDiff, Nat.reduceLT, Nat.reduceLeDiff, Int.reduceBEq, Int.reduceEq, Nat.reducePow, Int.reducePow, IntWalk.i64_in, IntKind.bits, eqAV, eqL, leafEq, andO, fillV, buildSV, List.getElem?_toArray, List.getElem?_cons_zero, List.getElem?_cons_succ, List.getElem?_nil, Int.reduceGT, Int.reduceGE, Int.reduceBNe, Bool.true_and, Bool.and_true, Bool.false_and, Bool.and_false, Bool.and_self, IntWalk.u64_in, Int.cast_ofNat_Int, callF1, pad16, pad_0, pad_1, pad_2, pad_3, pad_4, pad_5, pad_6, pad_7, pad_8, pad_9, pad_10, pad_11, pad_12, pad_13, pad_14, pad_15, gc0, gc1, gc2, gc3, gc4, gc5, gc6, gc7, gc8, gc9, gc10, gc11, gc12, gc13, gc14, gc15, gcS, sc0, sc1, sc2, sc3, sc4, sc5, sc6, sc7, sc8, sc9, sc10, sc11, sc12, sc13, sc14, sc15, scS, List.drop_succ_cons, List.drop_nil]
      with_reducible refine done2 ?_
      repeat (first | refine ext_new hN ?_ | exact ext_refl)
  · simp -implicitDefEqProofs (maxSteps := 10000000) (disch := omega) only [L23, hB, hR, hI, h, ge_iff_le, false_and, pad, e_skip, e_ops, e_draw, d_none, d_nil, d_cons, d_ite, h_none, h_nil, h_cons, h_ite, eqS_same, lightV, e_seq, e_cond, e_block, e_loop, e_exit, e_ret, s_normal, s_ret, s_exit, s_none, s_ite, b_normal, b_ret, b_exit, b_none, b_ite, c_bool, o_some, o_none, o_ite, x_none, x_nil, x_cons, x_ite, p_some, p_none, p_ite, pt_some, pt_none, pv_some, pv_none, pv_ite, w_none, w_some, i_bool, i_undef, bt, bf, v_tmp, v_const, v_global, v_func, evs, f_normal, f_ret, f_none, f_ite, r_some, co_some, l_ptr, m_agg, m_one, sh_app, lk_nil, lk_cons, rd_eq, rdO_some, rdO_none, rdN_none, rdL_some, rdL_none, wrB_none, unitR_some, wrC_some, wrK_cells, consH_some, wr_nil, wr_here, wr_skip, wrH_cons, k_cells, tk_zero, tk_take, tk_skip, tkC_some, call_func, gt, st, stepOp, newB, ptrTo, binV, arith, isSh, storeV, all1, idxAV, fieldV, faddrV, iaddrSV, iaddrAV, pickV, convV, unV, eqbV, eqpV, extV, lenV, mm2, mmV, nilckV, ress, res1, retV, Value.cells, cond_true, cond_false, Bool.true_or, Bool.false_or, Bool.or_true, Bool.or_false, beq_self_eq_true, if_true, if_false, ite_true, ite_false, decide_true, decide_false, decide_eq_true_eq, reduceIte, Nat.zero_add, Nat.add_zero, and_self, true_and, and_true, List.size_toArray, List.length_cons, List.length_nil, List.append_nil, List.nil_append, Int.toNat_zero, Bool.not_false, Bool.not_true, Bool.not_not, Bool.false_eq_true, Bool.true_eq_false, reduceCtorEq, Int.reduceLT, Int.reduceLE, Int.reduceToNat, Int.reduceAdd, Int.reduceSub, Int.reduceMul, Int.reduceNeg, Nat.reduceMul, Nat.reduceAdd, Nat.reduceSub, Nat.reduceBEq, Nat.reduceEqDiff, Nat.reduceLT, Nat.reduceLeDiff, Int.reduceBEq, Int.reduceEq, Nat.reducePow, Int.reducePow, IntWalk.i64_in, IntKind.bits, eqAV, eqL, leafEq, andO, fillV, buildSV, List.getElem?_toArray, List.getElem?_cons_zero, List.getElem?_cons_succ, List.getElem?_nil, Int.reduceGT, Int.reduceGE, Int.reduceBNe, Bool.true_and, Bool.and_true, Bool.false_and, Bool.and_false, Bool.and_self, IntWalk.u64_in, Int.cast_ofNat_Int, callF1, pad16, pad_0, pad_1, pad_2, pad_3, pad_4, pad_5, pad_6, pad_7, pad_8, pad_9, pad_10, pad_11, pad_12, pad_13, pad_14, pad_15, gc0, gc1, gc2, gc3, gc4, gc5, gc6, gc7, gc8, gc9, gc10, gc11, gc12, gc13, gc14, gc15, gcS, sc0, sc1, sc2, sc3, sc4, sc5, sc6, sc7, sc8, sc9, sc10, sc11, sc12, sc13, sc14, sc15, scS, List.drop_succ_cons, List.drop_nil]
    with_reducible refine done2 ?_
    repeat (first | refine ext_new hN ?_ | exact ext_refl)
/-- whitewash/rec.Ask -/
def L8 : FnL := ⟨(.seq (.ops [⟨(some 1), .box (.tmp 0), none⟩, ⟨(some 2), .alloc [(.int .u64 0), (.int .u64 0), (.int .u64 0)], none⟩, ⟨(some 3), .mv (.const (.int .i64 0)), none⟩])
 (.seq (.seq (.ops [⟨(some 4), .faddr 0 (.tmp 1), none⟩, ⟨(some 5), .load false 1 (.tmp 4), none⟩, ⟨(some 6), .call (.func 21) [(.tmp 5), (.const (.int .i64 1)), (.const (.int .i64 255))], none⟩, ⟨(some 7), .un .not (.tmp 6), none⟩])
 (.cond (.tmp 7) (.seq (.ops [⟨(some 8), .load true 3 (.tmp 2), none⟩, ⟨none, .store 3 (.tmp 2) (.tmp 8), none⟩, ⟨(some 3), .mv (.const (.int .i64 1)), none⟩])
 .ret)
 .skip))
 (.seq (.draw [⟨⟨(some 9), .faddr 0 (.tmp 1), none⟩, []⟩, ⟨⟨(some 10), .load false 1 (.tmp 9), none⟩, []⟩, ⟨⟨(some 11), .conv .u64 (.tmp 10), none⟩, []⟩, ⟨⟨(some 12), .faddr 1 (.tmp 1), none⟩, []⟩, ⟨⟨(some 13), .load false 1 (.tmp 12), none⟩, []⟩, ⟨⟨(some 14), .faddr 2 (.tmp 1), none⟩, []⟩, ⟨⟨(some 15), .load false 1 (.tmp 14), none⟩, []⟩, ⟨⟨(some 16), .iaddrA 1 3 (.tmp 2) (.const (.int .i64 0)), none⟩, []⟩, ⟨⟨none, .store 1 (.tmp 16) (.tmp 11), none⟩, [⟨(some 13), .load false 1 (.tmp 12), none⟩, ⟨(some 15), .load false 1 (.tmp 14), none⟩]⟩, ⟨⟨(some 17), .iaddrA 1 3 (.tmp 2) (.const (.int .i64 1)), none⟩, []⟩, ⟨⟨none, .store 1 (.tmp 17) (.tmp 13), none⟩, [⟨(some 15), .load false 1 (.tmp 14), none⟩]⟩, ⟨⟨(some 18), .iaddrA 1 3 (.tmp 2) (.const (.int .i64 2)), none⟩, []⟩, ⟨⟨none, .store 1 (.tmp 18) (.tmp 15), none⟩, []⟩])
 (.seq (.ops [⟨(some 19), .load true 3 (.tmp 2), none⟩, ⟨none, .store 3 (.tmp 2) (.tmp 19), none⟩, ⟨(some 3), .mv (.const (.int .i64 0)), none⟩])
 .ret)))),
 20, [.cell 2 true 3, .tmp 3]⟩
theorem low8 : lowerFn Try.prog Try.f8 = some L8 := by kernel_rfl
noncomputable def G8 (B : OH) : Nat → Cs
  | 21 => V21 B
  | _ => fun _ _ _ => none
theorem G8_21 {B : OH} : G8 B 21 = fun a H N => pv (F21 B a) H N := rfl
theorem sG8 {w0 : World} {B : OH} : SoundG Try.prog w0 B (G8 B) := fun k => by
  unfold G8
  split
  · exact .inr ⟨en21, sV21⟩
  · exact .inl fun _ _ _ => rfl
noncomputable def F8 (B : OH) : List Value → Option Value := kval B (callF B (G8 B) 80 L8)
noncomputable def V8 (B : OH) : Cs := fun a H N => pv (F8 B a) H N
theorem en8 : Enter Try.prog 8 := .of Try.func8 (by kernel_rfl) (by kernel_rfl)
theorem sV8 {w0 : World} {B : OH} : SoundC Try.prog w0 B 8 (V8 B) := (callF_sound mixedOrders sG8 80 Try.func8 low8).ofVal
set_option maxHeartbeats 1000000 in
theorem f8 {B : OH} (hG : ∃ H N, good B H N) (c k v : Int) (hc : -9223372036854775808 ≤ c ∧ c ≤ 9223372036854775807) (hk : 0 ≤ k ∧ k < 18446744073709551616) (hv : 0 ≤ v ∧ v < 18446744073709551616) : F8 B [.agg #[.int .i64 c, .int .u64 k, .int .u64 v]] = some (.tuple #[.agg #[.int .u64 (askA c c), .int .u64 (askA c k), .int .u64 (askA c v)], .int .i64 (askE c 1)]) := by
  refine kval_eq hG fun H N hN => ?_
  have hB := good_B hN
  have hR := good_rdB hN
  have hI := beqN hN.1
  by_cases h : 1 ≤ c ∧ c ≤ 255
  · rw [show askA c c = c from if_pos h, show askA c k = k from if_pos h, show askA c v = v from if_pos h, show askE c 1 = 0 from if_pos h]
    have w1 : IntKind.u64.wrap c = c := IntWalk.u64_in _ (by omega)
    have n1 : ¬ c < 1 := by omega
    have n2 : ¬ c > 255 := by omega
    simp -implicitDefEqProofs (maxSteps := 10000000) (disch := omega) only [L8, G8_21, hB, hR, hI, f21 hG, h, w1, n1, n2, pad, e_skip, e_ops, e_draw, d_none, d_nil, d_cons, d_ite, h_none, h_nil, h_cons, h_ite, eqS_same, lightV, e_seq, e_cond, e_block, e_loop, e_exit, e_ret, s_normal, s_ret, s_exit, s_none, s_ite, b_normal, b_ret, b_exit, b_none, b_ite, c_bool, o_some, o_none, o_ite, x_none, x_nil, x_cons, x_ite, p_some, p_none, p_ite, pt_some, pt_none, pv_some, pv_none, pv_ite, w_none, w_some, i_bool, i_undef, bt, bf, v_tmp, v_const, v_global, v_func, evs, f_normal, f_ret, f_none, f_ite, r_some, co_some, l_ptr, m_agg, m_one, sh_app, lk_nil, lk_cons, rd_eq, rdO_some, rdO_none, rdN_none, rdL_some, rdL_none, wrB_none, unitR_some, wrC_some, wrK_cells, consH_some, wr_nil, wr_here, wr_skip, wrH_cons, k_cells, tk_zero, tk_take, tk_skip, tkC_some, call_func, gt, st, stepOp, newB, ptrTo, binV, arith, isSh, storeV, all1, idxAV, fieldV, faddrV, iaddrSV, iaddrAV, pickV, convV, unV, eqbV, eqpV, extV, lenV, mm2, mmV, nilckV, ress, res1, retV, Value.cells, cond_true, cond_false, Bool.true_or, Bool.false_or, Bool.or_true, Bool.or_false, beq_self_eq_true, if_true, if_false, ite_true, ite_false, decide_true, decide_false, decide_eq_true_eq, reduceIte, Nat.zero_add, Nat.add_zero, and_self, true_and, and_true, List.size_toArray, List.length_cons, List.length_nil, List.append_nil, List.nil_append, Int.toNat_zero, Bool.not_false, Bool.not_true, Bool.not_not, Bool.false_eq_true, Bool.true_eq_false, reduceCtorEq, Int.reduceLT, Int.reduceLE, Int.reduceToNat, Int.reduceAdd, Int.reduceSub, Int.reduceMul, Int.reduceNeg, Nat.reduceMul, Nat.reduceAdd, Nat.reduceSub, Nat.reduceBEq, Nat.reduceEqDiff, Nat.reduceLT, Nat.reduceLeDiff, Int.reduceBEq, Int.reduceEq, Nat.reducePow, Int.reducePow, IntWalk.i64_in, IntKind.bits, eqAV, eqL, leafEq, andO, fillV, buildSV, List.getElem?_toArray, List.getElem?_cons_zero, List.getElem?_cons_succ, List.getElem?_nil, Int.reduceGT, Int.reduceGE, Int.reduceBNe, Bool.true_and, Bool.and_true, Bool.false_and, Bool.and_false, Bool.and_self, IntWalk.u64_in, Int.cast_ofNat_Int, callF1, pad16, pad_0, pad_1, pad_2, pad_3, pad_4, pad_5, pad_6, pad_7, pad_8, pad_9, pad_10, pad_11, pad_12, pad_13, pad_14, pad_15, gc0, gc1, gc2, gc3, gc4, gc5, gc6, gc7, gc8, gc9, gc10, gc11, gc12, gc13, gc14, gc15, gcS, sc0, sc1, sc2, sc3, sc4, sc5, sc6, sc7, sc8, sc9, sc10, sc11, sc12, sc13, sc14, sc15, scS, List.drop_succ_cons, List.drop_nil]
    with_reducible refine done2 ?_
    repeat (first | refine ext_new hN ?_ | exact ext_refl)
  · rw [show askA c c = 0 from if_neg h, show askA c k = 0 from if_neg h, show askA c v = 0 from if_neg h, show askE c 1 = 1 from if_neg h]
    by_cases n1 : c < 1
    · simp -implicitDefEqProofs (maxSteps := 10000000) (disch := omega) only [L8, G8_21, hB, hR, hI, f21 hG, h, n1, pad, e_skip, e_ops, e_draw, d_none, d_nil, d_cons, d_ite, h_none, h_nil, h_cons, h_ite, eqS_same, lightV, e_seq, e_cond, e_block, e_loop, e_exit, e_ret, s_normal, s_ret, s_exit, s_none, s_ite, b_normal, b_ret, b_exit, b_none, b_ite, c_bool, o_some, o_none, o_ite, x_none, x_nil, x_cons, x_ite, p_some, p_none, p_ite, pt_some, pt_none, pv_some, pv_none, pv_ite, w_none, w_some, i_bool, i_undef, bt, bf, v_tmp, v_const, v_global, v_func, evs, f_normal, f_ret, f_none, f_ite, r_some, co_some, l_ptr, m_agg, m_one, sh_app, lk_nil, lk_cons, rd_eq, rdO_some, rdO_none, rdN_none, rdL_some, rdL_none, wrB_none, unitR_some, wrC_some, wrK_cells, consH_some, wr_nil, wr_here, wr_skip, wrH_cons, k_cells, tk_zero, tk_take, tk_skip, tkC_some, call_func, gt, st, stepOp, newB, ptrTo, binV, arith, isSh, storeV, all1, idxAV, fieldV, faddrV, iaddrSV, iaddrAV, pickV, convV, unV, eqbV, eqpV, extV, lenV, mm2, mmV, nilckV, ress, res1, retV, Value.cells, cond_true, cond_false, Bool.true_or, Bool.false_or, Bool.or_true, Bool.or_false, beq_self_eq_true, if_true, if_false, ite_true, ite_false, decide_true, decide_false, decide_eq_true_eq, reduceIte, Nat.zero_add, Nat.add_zero, and_self, true_and, and_true, List.size_toArray, List.length_cons, List.length_nil, List.append_nil, List.nil_append, Int.toNat_zero, Bool.not_false, Bool.not_true, Bool.not_not, Bool.false_eq_true, Bool.true_eq_false, reduceCtorEq, Int.reduceLT, Int.reduceLE, Int.reduceToNat, Int.reduceAdd, Int.reduceSub, Int.reduceMul, Int.reduceNeg, Nat.reduceMul, Nat.reduceAdd, Nat.reduceSub, Nat.reduceBEq, Nat.reduceEqDiff, Nat.reduceLT, Nat.reduceLeDiff, Int.reduceBEq, Int.reduceEq, Nat.reducePow, Int.reducePow, IntWalk.i64_in, IntKind.bits, eqAV, eqL, leafEq, andO, fillV, buildSV, List.getElem?_toArray, List.getElem?_cons_zero, List.getElem?_cons_succ, List.getElem?_nil, Int.reduceGT, Int.reduceGE, Int.reduceBNe, Bool.true_and, Bool.and_true, Bool.false_and, Bool.and_false, Bool.and_self, IntWalk.u64_in, Int.cast_ofNat_Int, callF1, pad16, pad_0, pad_1, pad_2, pad_3, pad_4, pad_5, pad_6, pad_7, pad_8, pad_9, pad_10, pad_11, pad_12, pad_13, pad_14, pad_15, gc0, gc1, gc2, gc3, gc4, gc5, gc6, gc7, gc8, gc9, gc10, gc11, gc12, gc13, gc14, gc15, gcS, sc0, sc1, sc2, sc3, sc4, sc5, sc6, sc7, sc8, sc9, sc10, sc11, sc12, sc13, sc14, sc15, scS, List.drop_succ_cons, List.drop_nil]
      with_reducible refine done2 ?_
      repeat (first | refine ext_new hN ?_ | exact ext_refl)
    · have n2 : c > 255 := by omega
      simp -implicitDefEqProofs (maxSteps := 10000000) (disch := omega) only [L8, G8_21, hB, hR, hI, f21 hG, h, n1, n2, pad, e_skip, e_ops, e_draw, d_none, d_nil, d_cons, d_ite, h_none, h_nil, h_cons, h_ite, eqS_same, lightV, e_seq, e_cond, e_block, e_loop, e_exit, e_ret, s_normal, s_ret, s_exit, s_none, s_ite, b_normal, b_ret, b_exit, b_none, b_ite, c_bool, o_some, o_none, o_ite, x_none, x_nil, x_cons, x_ite, p_some, p_none, p_ite, pt_some, pt_none, pv_some, pv_none, pv_ite, w_none, w_some, i_bool, i_undef, bt, bf, v_tmp, v_const, v_global, v_func, evs, f_normal, f_ret, f_none, f_ite, r_some, co_some, l_ptr, m_agg, m_one, sh_app, lk_nil, lk_cons, rd_eq, rdO_some, rdO_none, rdN_none, rdL_some, rdL_none, wrB_none, unitR_some, wrC_some, wrK_cells, consH_some, wr_nil, wr_here, wr_skip, wrH_cons, k_cells, tk_zero, tk_take, tk_skip, tkC_some, call_func, gt, st, stepOp, newB, ptrTo, binV, arith, isSh, storeV, all1, idxAV, fieldV, faddrV, iaddrSV, iaddrAV, pickV, convV, unV, eqbV, eqpV, extV, lenV, mm2, mmV, nilckV, ress, res1, retV, Value.cells, cond_true, cond_false, Bool.true_or, Bool.false_or, Bool.or_true, Bool.or_false, beq_self_eq_true, if_true, if_false, ite_true, ite_false, decide_true, decide_false, decide_eq_true_eq, reduceIte, Nat.zero_add, Nat.add_zero, and_self, true_and, and_true, List.size_toArray, List.length_cons, List.length_nil, List.append_nil, List.nil_append, Int.toNat_zero, Bool.not_false, Bool.not_true, Bool.not_not, Bool.false_eq_true, Bool.true_eq_false, reduceCtorEq, Int.reduceLT, Int.reduceLE, Int.reduceToNat, Int.reduceAdd, Int.reduceSub, Int.reduceMul, Int.reduceNeg, Nat.reduceMul, Nat.reduceAdd, Nat.reduceSub, Nat.reduceBEq, Nat.reduceEqDiff, Nat.reduceLT, Nat.reduceLeDiff, Int.reduceBEq, Int.reduceEq, Nat.reducePow, Int.reducePow, IntWalk.i64_in, IntKind.bits, eqAV, eqL, leafEq, andO, fillV, buildSV, List.getElem?_toArray, List.getElem?_cons_zero, List.getElem?_cons_succ, List.getElem?_nil, Int.reduceGT, Int.reduceGE, Int.reduceBNe, Bool.true_and, Bool.and_true, Bool.false_and, Bool.and_false, Bool.and_self, IntWalk.u64_in, Int.cast_ofNat_Int, callF1, pad16, pad_0, pad_1, pad_2, pad_3, pad_4, pad_5, pad_6, pad_7, pad_8, pad_9, pad_10, pad_11, pad_12, pad_13, pad_14, pad_15, gc0, gc1, gc2, gc3, gc4, gc5, gc6, gc7, gc8, gc9, gc10, gc11, gc12, gc13, gc14, gc15, gcS, sc0, sc1, sc2, sc3, sc4, sc5, sc6, sc7, sc8, sc9, sc10, sc11, sc12, sc13, sc14, sc15, scS, List.drop_succ_cons, List.drop_nil]
      with_reducible refine done2 ?_
      repeat (first | refine ext_new hN ?_ | exact ext_refl)
/-- whitewash/whitewashref06.Ask -/
def L9 : FnL := ⟨(.seq (.ops [⟨(some 1), .box (.tmp 0), none⟩, ⟨(some 2), .alloc [(.int .u64 0), (.int .u64 0), (.int .u64 0)], none⟩, ⟨(some 3), .mv (.const (.int .i64 0)), none⟩])
 (.seq (.seq (.ops [⟨(some 4), .faddr 0 (.tmp 1), none⟩, ⟨(some 5), .load false 1 (.tmp 4), none⟩, ⟨(some 6), .bin .lss (.tmp 5) (.const (.int .i64 1)), none⟩, ⟨(some 7), .mv (.tmp 6), none⟩, ⟨(some 8), .faddr 0 (.tmp 1), (some (7, false))⟩, ⟨(some 9), .load false 1 (.tmp 8), (some (7, false))⟩, ⟨(some 10), .bin .gtr (.tmp 9) (.const (.int .i64 255)), (some (7, false))⟩, ⟨(some 11), .pick (.tmp 7) (.const (.bool true)) (.tmp 10), none⟩])
 (.cond (.tmp 11) (.seq (.ops [⟨(some 12), .build [(.int .u64 0), (.int .u64 0), (.int .u64 0)] [], none⟩, ⟨none, .store 3 (.tmp 2) (.tmp 12), none⟩, ⟨(some 3), .mv (.const (.int .i64 1)), none⟩])
 .ret)
 .skip))
 (.seq (.ops [⟨(some 13), .faddr 0 (.tmp 1), none⟩, ⟨(some 14), .load false 1 (.tmp 13), none⟩, ⟨(some 15), .conv .u64 (.tmp 14), none⟩, ⟨(some 16), .faddr 1 (.tmp 1), none⟩, ⟨(some 17), .load false 1 (.tmp 16), none⟩, ⟨(some 18), .faddr 2 (.tmp 1), none⟩, ⟨(some 19), .load false 1 (.tmp 18), none⟩, ⟨(some 20), .build [(.int .u64 0), (.int .u64 0), (.int .u64 0)] [(0, 1, (.tmp 15)), (1, 1, (.tmp 17)), (2, 1, (.tmp 19))], none⟩, ⟨none, .store 3 (.tmp 2) (.tmp 20), none⟩, ⟨(some 3), .mv (.const (.int .i64 0)), none⟩])
 .ret))),
 21, [.cell 2 true 3, .tmp 3]⟩
theorem low9 : lowerFn Try.prog Try.f9 = some L9 := by kernel_rfl
noncomputable def G9 (B : OH) : Nat → Cs
  | _ => fun _ _ _ => none
theorem sG9 {w0 : World} {B : OH} : SoundG Try.prog w0 B (G9 B) := fun k => by
  unfold G9
  split
  · exact .inl fun _ _ _ => rfl
noncomputable def F9 (B : OH) : List Value → Option Value := kval B (callF B (G9 B) 80 L9)
noncomputable def V9 (B : OH) : Cs := fun a H N => pv (F9 B a) H N
theorem en9 : Enter Try.prog 9 := .of Try.func9 (by kernel_rfl) (by kernel_rfl)
theorem sV9 {w0 : World} {B : OH} : SoundC Try.prog w0 B 9 (V9 B) := (callF_sound mixedOrders sG9 80 Try.func9 low9).ofVal
set_option maxHeartbeats 1000000 in
theorem f9 {B : OH} (hG : ∃ H N, good B H N) (c k v : Int) (hc : -9223372036854775808 ≤ c ∧ c ≤ 9223372036854775807) (hk : 0 ≤ k ∧ k < 18446744073709551616) (hv : 0 ≤ v ∧ v < 18446744073709551616) : F9 B [.agg #[.int .i64 c, .int .u64 k, .int .u64 v]] = some (.tuple #[.agg #[.int .u64 (askA c c), .int .u64 (askA c k), .int .u64 (askA c v)], .int .i64 (askE c 1)]) := by
  refine kval_eq hG fun H N hN => ?_
  have hB := good_B hN
  have hR := good_rdB hN
  have hI := beqN hN.1
  by_cases h : 1 ≤ c ∧ c ≤ 255
  · rw [show askA c c = c from if_pos h, show askA c k = k from if_pos h, show askA c v = v from if_pos h, show askE c 1 = 0 from if_pos h]
    have w1 : IntKind.u64.wrap c = c := IntWalk.u64_in _ (by omega)
    have n1 : ¬ c < 1 := by omega
    have n2 : ¬ c > 255 := by omega
    simp -implicitDefEqProofs (maxSteps := 10000000) (disch := omega) only [L9, hB, hR, hI, h, w1, n1, n2, pad, e_skip, e_ops, e_draw, d_none, d_nil, d_cons, d_ite, h_none, h_nil, h_cons, h_ite, eqS_same, lightV, e_seq, e_cond, e_block, e_loop, e_exit, e_ret, s_normal, s_ret, s_exit, s_none, s_ite, b_normal, b_ret, b_exit, b_none, b_ite, c_bool, o_some, o_none, o_ite, x_none, x_nil, x_cons, x_ite, p_some, p_none, p_ite, pt_some, pt_none, pv_some, pv_none, pv_ite, w_none, w_some, i_bool, i_undef, bt, bf, v_tmp, v_const, v_global, v_func, evs, f_normal, f_ret, f_none, f_ite, r_some, co_some, l_ptr, m_agg, m_one, sh_app, lk_nil, lk_cons, rd_eq, rdO_some, rdO_none, rdN_none, rdL_some, rdL_none, wrB_none, unitR_some, wrC_some, wrK_cells, consH_some, wr_nil, wr_here, wr_skip, wrH_cons, k_cells, tk_zero, tk_take, tk_skip, tkC_some, call_func, gt, st, stepOp, newB, ptrTo, binV, arith, isSh, storeV, all1, idxAV, fieldV, faddrV, iaddrSV, iaddrAV, pickV, convV, unV, eqbV, eqpV, extV, lenV, mm2, mmV, nilckV, ress, res1, retV, Value.cells, cond_true, cond_false, Bool.true_or, Bool.false_or, Bool.or_true, Bool.or_false, beq_self_eq_true, if_true, if_false, ite_true, ite_false, decide_true, decide_false, decide_eq_true_eq, reduceIte, Nat.zero_add, Nat.add_zero, and_self, true_and, and_true, List.size_toArray, List.length_cons, List.length_nil, List.append_nil, List.nil_append, Int.toNat_zero, Bool.not_false, Bool.not_true, Bool.not_not, Bool.false_eq_true, Bool.true_eq_false, reduceCtorEq, Int.reduceLT, Int.reduceLE, Int.reduceToNat, Int.reduceAdd, Int.reduceSub, Int.reduceMul, Int.reduceNeg, Nat.reduceMul, Nat.reduceAdd, Nat.reduceSub, Nat.reduceBEq, Nat.reduceEqDiff, Nat.reduceLT, Nat.reduceLeDiff, Int.reduceBEq, Int.reduceEq, Nat.reducePow, Int.reducePow, IntWalk.i64_in, IntKind.bits, eqAV, eqL, leafEq, andO, fillV, buildSV, List.getElem?_toArray, List.getElem?_cons_zero, List.getElem?_cons_succ, List.getElem?_nil, Int.reduceGT, Int.reduceGE, Int.reduceBNe, Bool.true_and, Bool.and_true, Bool.false_and, Bool.and_false, Bool.and_self, IntWalk.u64_in, Int.cast_ofNat_Int, callF1, pad16, pad_0, pad_1, pad_2, pad_3, pad_4, pad_5, pad_6, pad_7, pad_8, pad_9, pad_10, pad_11, pad_12, pad_13, pad_14, pad_15, gc0, gc1, gc2, gc3, gc4, gc5, gc6, gc7, gc8, gc9, gc10, gc11, gc12, gc13, gc14, gc15, gcS, sc0, sc1, sc2, sc3, sc4, sc5, sc6, sc7, sc8, sc9, sc10, sc11, sc12, sc13, sc14, sc15, scS, List.drop_succ_cons, List.drop_nil]
    with_reducible refine done2 ?_
    repeat (first | refine ext_new hN ?_ | exact ext_refl)
  · rw [show askA c c = 0 from if_neg h, show askA c k = 0 from if_neg h, show askA c v = 0 from if_neg h, show askE c 1 = 1 from if_neg h]
    by_cases n1 : c < 1
    · simp -implicitDefEqProofs (maxSteps := 10000000) (disch := omega) only [L9, hB, hR, hI, h, n1, pad, e_skip, e_ops, e_draw, d_none, d_nil, d_cons, d_ite, h_none, h_nil, h_cons, h_ite, eqS_same, lightV, e_seq, e_cond, e_block, e_loop, e_exit, e_ret, s_normal, s_ret, s_exit, s_none, s_ite, b_normal, b_ret, b_exit, b_none, b_ite, c_bool, o_some, o_none, o_ite, x_none, x_nil, x_cons, x_ite, p_some, p_none, p_ite, pt_some, pt_none, pv_some, pv_none, pv_ite, w_none, w_some, i_bool, i_undef, bt, bf, v_tmp, v_const, v_global, v_func, evs, f_normal, f_ret, f_none, f_ite, r_some, co_some, l_ptr, m_agg, m_one, sh_app, lk_nil, lk_cons, rd_eq, rdO_some, rdO_none, rdN_none, rdL_some, rdL_none, wrB_none, unitR_some, wrC_some, wrK_cells, consH_some, wr_nil, wr_here, wr_skip, wrH_cons, k_cells, tk_zero, tk_take, tk_skip, tkC_some, call_func, gt, st, stepOp, newB, ptrTo, binV, arith, isSh, storeV, all1, idxAV, fieldV, faddrV, iaddrSV, iaddrAV, pickV, convV, unV, eqbV, eqpV, extV, lenV, mm2, mmV, nilckV, ress, res1, retV, Value.cells, cond_true, cond_false, Bool.true_or, Bool.false_or, Bool.or_true, Bool.or_false, beq_self_eq_true, if_true, if_false, ite_true, ite_false, decide_true, decide_false, decide_eq_true_eq, reduceIte, Nat.zero_add, Nat.add_zero, and_self, true_and, and_true, List.size_toArray, List.length_cons, List.length_nil, List.append_nil, List.nil_append, Int.toNat_zero, Bool.not_false, Bool.not_true, Bool.not_not, Bool.false_eq_true, Bool.true_eq_false, reduceCtorEq, Int.reduceLT, Int.reduceLE, Int.reduceToNat, Int.reduceAdd, Int.reduceSub, Int.reduceMul, Int.reduceNeg, Nat.reduceMul, Nat.reduceAdd, Nat.reduceSub, Nat.reduceBEq, Nat.reduceEqDiff, Nat.reduceLT, Nat.reduceLeDiff, Int.reduceBEq, Int.reduceEq, Nat.reducePow, Int.reducePow, IntWalk.i64_in, IntKind.bits, eqAV, eqL, leafEq, andO, fillV, buildSV, List.getElem?_toArray, List.getElem?_cons_zero, List.getElem?_cons_succ, List.getElem?_nil, Int.reduceGT, Int.reduceGE, Int.reduceBNe, Bool.true_and, Bool.and_true, Bool.false_and, Bool.and_false, Bool.and_self, IntWalk.u64_in, Int.cast_ofNat_Int, callF1, pad16, pad_0, pad_1, pad_2, pad_3, pad_4, pad_5, pad_6, pad_7, pad_8, pad_9, pad_10, pad_11, pad_12, pad_13, pad_14, pad_15, gc0, gc1, gc2, gc3, gc4, gc5, gc6, gc7, gc8, gc9, gc10, gc11, gc12, gc13, gc14, gc15, gcS, sc0, sc1, sc2, sc3, sc4, sc5, sc6, sc7, sc8, sc9, sc10, sc11, sc12, sc13, sc14, sc15, scS, List.drop_succ_cons, List.drop_nil]
      with_reducible refine done2 ?_
      repeat (first | refine ext_new hN ?_ | exact ext_refl)
    · have n2 : c > 255 := by omega
      simp -implicitDefEqProofs (maxSteps := 10000000) (disch := omega) only [L9, hB, hR, hI, h, n1, n2, pad, e_skip, e_ops, e_draw, d_none, d_nil, d_cons, d_ite, h_none, h_nil, h_cons, h_ite, eqS_same, lightV, e_seq, e_cond, e_block, e_loop, e_exit, e_ret, s_normal, s_ret, s_exit, s_none, s_ite, b_normal, b_ret, b_exit, b_none, b_ite, c_bool, o_some, o_none, o_ite, x_none, x_nil, x_cons, x_ite, p_some, p_none, p_ite, pt_some, pt_none, pv_some, pv_none, pv_ite, w_none, w_some, i_bool, i_undef, bt, bf, v_tmp, v_const, v_global, v_func, evs, f_normal, f_ret, f_none, f_ite, r_some, co_some, l_ptr, m_agg, m_one, sh_app, lk_nil, lk_cons, rd_eq, rdO_some, rdO_none, rdN_none, rdL_some, rdL_none, wrB_none, unitR_some, wrC_some, wrK_cells, consH_some, wr_nil, wr_here, wr_skip, wrH_cons, k_cells, tk_zero, tk_take, tk_skip, tkC_some, call_func, gt, st, stepOp, newB, ptrTo, binV, arith, isSh, storeV, all1, idxAV, fieldV, faddrV, iaddrSV, iaddrAV, pickV, convV, unV, eqbV, eqpV, extV, lenV, mm2, mmV, nilckV, ress, res1, retV, Value.cells, cond_true, cond_false, Bool.true_or, Bool.false_or, Bool.or_true, Bool.or_false, beq_self_eq_true, if_true, if_false, ite_true, ite_false, decide_true, decide_false, decide_eq_true_eq, reduceIte, Nat.zero_add, Nat.add_zero, and_self, true_and, and_true, List.size_toArray, List.length_cons, List.length_nil, List.append_nil, List.nil_append, Int.toNat_zero, Bool.not_false, Bool.not_true, Bool.not_not, Bool.false_eq_true, Bool.true_eq_false, reduceCtorEq, Int.reduceLT, Int.reduceLE, Int.reduceToNat, Int.reduceAdd, Int.reduceSub, Int.reduceMul, Int.reduceNeg, Nat.reduceMul, Nat.reduceAdd, Nat.reduceSub, Nat.reduceBEq, Nat.reduceEqDiff, Nat.reduceLT, Nat.reduceLeDiff, Int.reduceBEq, Int.reduceEq, Nat.reducePow, Int.reducePow, IntWalk.i64_in, IntKind.bits, eqAV, eqL, leafEq, andO, fillV, buildSV, List.getElem?_toArray, List.getElem?_cons_zero, List.getElem?_cons_succ, List.getElem?_nil, Int.reduceGT, Int.reduceGE, Int.reduceBNe, Bool.true_and, Bool.and_true, Bool.false_and, Bool.and_false, Bool.and_self, IntWalk.u64_in, Int.cast_ofNat_Int, callF1, pad16, pad_0, pad_1, pad_2, pad_3, pad_4, pad_5, pad_6, pad_7, pad_8, pad_9, pad_10, pad_11, pad_12, pad_13, pad_14, pad_15, gc0, gc1, gc2, gc3, gc4, gc5, gc6, gc7, gc8, gc9, gc10, gc11, gc12, gc13, gc14, gc15, gcS, sc0, sc1, sc2, sc3, sc4, sc5, sc6, sc7, sc8, sc9, sc10, sc11, sc12, sc13, sc14, sc15, scS, List.drop_succ_cons, List.drop_nil]
      with_reducible refine done2 ?_
      repeat (first | refine ext_new hN ?_ | exact ext_refl)
/-- whitewash/rec.Answer -/
def L10 : FnL := ⟨(.seq (.ops [⟨(some 1), .box (.tmp 0), none⟩, ⟨(some 2), .alloc [(.int .u64 0), (.int .u64 0)], none⟩, ⟨(some 3), .mv (.const (.int .i64 0)), none⟩])
 (.seq (.seq (.ops [⟨(some 4), .faddr 0 (.tmp 1), none⟩, ⟨(some 5), .load false 1 (.tmp 4), none⟩, ⟨(some 6), .call (.func 22) [(.tmp 5), (.const (.int .i64 0)), (.const (.int .i64 255))], none⟩, ⟨(some 7), .un .not (.tmp 6), none⟩])
 (.cond (.tmp 7) (.seq (.ops [⟨(some 8), .build [(.int .u64 0), (.int .u64 0)] [], none⟩, ⟨none, .store 2 (.tmp 2) (.tmp 8), none⟩, ⟨(some 3), .mv (.const (.int .i64 1)), none⟩])
 .ret)
 .skip))
 (.seq (.ops [⟨(some 9), .faddr 0 (.tmp 1), none⟩, ⟨(some 10), .load false 1 (.tmp 9), none⟩, ⟨(some 11), .conv .u64 (.tmp 10), none⟩, ⟨(some 12), .bin .add (.tmp 11) (.const (.int .u64 1)), none⟩, ⟨(some 13), .faddr 1 (.tmp 1), none⟩, ⟨(some 14), .load false 1 (.tmp 13), none⟩, ⟨(some 15), .build [(.int .u64 0), (.int .u64 0)] [(0, 1, (.tmp 12)), (1, 1, (.tmp 14))], none⟩, ⟨none, .store 2 (.tmp 2) (.tmp 15), none⟩, ⟨(some 3), .mv (.const (.int .i64 0)), none⟩])
 .ret))),
 16, [.cell 2 true 2, .tmp 3]⟩
theorem low10 : lowerFn Try.prog Try.f10 = some L10 := by kernel_rfl
noncomputable def G10 (B : OH) : Nat → Cs
  | 22 => V22 B
  | _ => fun _ _ _ => none
theorem G10_22 {B : OH} : G10 B 22 = fun a H N => pv (F22 B a) H N := rfl
theorem sG10 {w0 : World} {B : OH} : SoundG Try.prog w0 B (G10 B) := fun k => by
  unfold G10
  split
  · exact .inr ⟨en22, sV22⟩
  · exact .inl fun _ _ _ => rfl
noncomputable def F10 (B : OH) : List Value → Option Value := kval B (callF B (G10 B) 80 L10)
noncomputable def V10 (B : OH) : Cs := fun a H N => pv (F10 B a) H N
theorem en10 : Enter Try.prog 10 := .of Try.func10 (by kernel_rfl) (by kernel_rfl)
theorem sV10 {w0 : World} {B : OH} : SoundC Try.prog w0 B 10 (V10 B) := (callF_sound mixedOrders sG10 80 Try.func10 low10).ofVal
set_option maxHeartbeats 1000000 in
theorem f10 {B : OH} (hG : ∃ H N, good B H N) (e v : Int) (he : -9223372036854775808 ≤ e ∧ e ≤ 9223372036854775807) (hv : 0 ≤ v ∧ v < 18446744073709551616) : F10 B [.agg #[.int .i64 e, .int .u64 v]] = some (.tuple #[.agg #[.int .u64 (ansA e (e + 1)), .int .u64 (ansA e v)], .int .i64 (ansE e)]) := by
  refine kval_eq hG fun H N hN => ?_
  have hB := good_B hN
  have hR := good_rdB hN
  have hI := beqN hN.1
  by_cases h : 0 ≤ e ∧ e ≤ 255
  · rw [show ansA e (e + 1) = e + 1 from if_pos h, show ansA e v = v from if_pos h, show ansE e = 0 from if_pos h]
    have w1 : IntKind.u64.wrap e = e := IntWalk.u64_in _ (by omega)
    have w2 : IntKind.u64.wrap (e + 1) = e + 1 := IntWalk.u64_in _ (by omega)
    have n1 : ¬ e < 0 := by omega
    have n2 : ¬ e > 255 := by omega
    simp -implicitDefEqProofs (maxSteps := 10000000) (disch := omega) only [L10, G10_22, hB, hR, hI, f22 hG, h, w1, w2, n1, n2, pad, e_skip, e_ops, e_draw, d_none, d_nil, d_cons, d_ite, h_none, h_nil, h_cons, h_ite, eqS_same, lightV, e_seq, e_cond, e_block, e_loop, e_exit, e_ret, s_normal, s_ret, s_exit, s_none, s_ite, b_normal, b_ret, b_exit, b_none, b_ite, c_bool, o_some, o_none, o_ite, x_none, x_nil, x_cons, x_ite, p_some, p_none, p_ite, pt_some, pt_none, pv_some, pv_none, pv_ite, w_none, w_some, i_bool, i_undef, bt, bf, v_tmp, v_const, v_global, v_func, evs, f_normal, f_ret, f_none, f_ite, r_some, co_some, l_ptr, m_agg, m_one, sh_app, lk_nil, lk_cons, rd_eq, rdO_some, rdO_none, rdN_none, rdL_some, rdL_none, wrB_none, unitR_some, wrC_some, wrK_cells, consH_some, wr_nil, wr_here, wr_skip, wrH_cons, k_cells, tk_zero, tk_take, tk_skip, tkC_some, call_func, gt, st, stepOp, newB, ptrTo, binV, arith, isSh, storeV, all1, idxAV, fieldV, faddrV, iaddrSV, iaddrAV, pickV, convV, unV, eqbV, eqpV, extV, lenV, mm2, mmV, nilckV, ress, res1, retV, Value.cells, cond_true, cond_false, Bool.true_or, Bool.false_or, Bool.or_true, Bool.or_false, beq_self_eq_true, if_true, if_false, ite_true, ite_false, decide_true, decide_false, decide_eq_true_eq, reduceIte, Nat.zero_add, Nat.add_zero, and_self, true_and, and_true, List.size_toArray, List.length_cons, List.length_nil, List.append_nil, List.nil_append, Int.toNat_zero, Bool.not_false, Bool.not_true, Bool.not_not, Bool.false_eq_true, Bool.true_eq_false, reduceCtorEq, Int.reduceLT, Int.reduceLE, Int.reduceToNat, Int.reduceAdd, Int.reduceSub, Int.reduceMul, Int.reduceNeg, Nat.reduceMul, Nat.reduceAdd, Nat.reduceSub, Nat.reduceBEq, Nat.reduceEqDiff, Nat.reduceLT, Nat.reduceLeDiff, Int.reduceBEq, Int.reduceEq, Nat.reducePow, Int.reducePow, IntWalk.i64_in, IntKind.bits, eqAV, eqL, leafEq, andO, fillV, buildSV, List.getElem?_toArray, List.getElem?_cons_zero, List.getElem?_cons_succ, List.getElem?_nil, Int.reduceGT, Int.reduceGE, Int.reduceBNe, Bool.true_and, Bool.and_true, Bool.false_and, Bool.and_false, Bool.and_self, IntWalk.u64_in, Int.cast_ofNat_Int, callF1, pad16, pad_0, pad_1, pad_2, pad_3, pad_4, pad_5, pad_6, pad_7, pad_8, pad_9, pad_10, pad_11, pad_12, pad_13, pad_14, pad_15, gc0, gc1, gc2, gc3, gc4, gc5, gc6, gc7, gc8, gc9, gc10, gc11, gc12, gc13, gc14, gc15, gcS, sc0, sc1, sc2, sc3, sc4, sc5, sc6, sc7, sc8, sc9, sc10, sc11, sc12, sc13, sc14, sc15, scS, List.drop_succ_cons, List.drop_nil]
    with_reducible refine done2 ?_
    repeat (first | refine ext_new hN ?_ | exact ext_refl)
  · rw [show ansA e (e + 1) = 0 from if_neg h, show ansA e v = 0 from if_neg h, show ansE e = 1 from if_neg h]
    by_cases n1 : e < 0
    · simp -implicitDefEqProofs (maxSteps := 10000000) (disch := omega) only [L10, G10_22, hB, hR, hI, f22 hG, h, n1, pad, e_skip, e_ops, e_draw, d_none, d_nil, d_cons, d_ite, h_none, h_nil, h_cons, h_ite, eqS_same, lightV, e_seq, e_cond, e_block, e_loop, e_exit, e_ret, s_normal, s_ret, s_exit, s_none, s_ite, b_normal, b_ret, b_exit, b_none, b_ite, c_bool, o_some, o_none, o_ite, x_none, x_nil, x_cons, x_ite, p_some, p_none, p_ite, pt_some, pt_none, pv_some, pv_none, pv_ite, w_none, w_some, i_bool, i_undef, bt, bf, v_tmp, v_const, v_global, v_func, evs, f_normal, f_ret, f_none, f_ite, r_some, co_some, l_ptr, m_agg, m_one, sh_app, lk_nil, lk_cons, rd_eq, rdO_some, rdO_none, rdN_none, rdL_some, rdL_none, wrB_none, unitR_some, wrC_some, wrK_cells, consH_some, wr_nil, wr_here, wr_skip, wrH_cons, k_cells, tk_zero, tk_take, tk_skip, tkC_some, call_func, gt, st, stepOp, newB, ptrTo, binV, arith, isSh, storeV, all1, idxAV, fieldV, faddrV, iaddrSV, iaddrAV, pickV, convV, unV, eqbV, eqpV, extV, lenV, mm2, mmV, nilckV, ress, res1, retV, Value.cells, cond_true, cond_false, Bool.true_or, Bool.false_or, Bool.or_true, Bool.or_false, beq_self_eq_true, if_true, if_false, ite_true, ite_false, decide_true, decide_false, decide_eq_true_eq, reduceIte, Nat.zero_add, Nat.add_zero, and_self, true_and, and_true, List.size_toArray, List.length_cons, List.length_nil, List.append_nil, List.nil_append, Int.toNat_zero, Bool.not_false, Bool.not_true, Bool.not_not, Bool.false_eq_true, Bool.true_eq_false, reduceCtorEq, Int.reduceLT, Int.reduceLE, Int.reduceToNat, Int.reduceAdd, Int.reduceSub, Int.reduceMul, Int.reduceNeg, Nat.reduceMul, Nat.reduceAdd, Nat.reduceSub, Nat.reduceBEq, Nat.reduceEqDiff, Nat.reduceLT, Nat.reduceLeDiff, Int.reduceBEq, Int.reduceEq, Nat.reducePow, Int.reducePow, IntWalk.i64_in, IntKind.bits, eqAV, eqL, leafEq, andO, fillV, buildSV, List.getElem?_toArray, List.getElem?_cons_zero, List.getElem?_cons_succ, List.getElem?_nil, Int.reduceGT, Int.reduceGE, Int.reduceBNe, Bool.true_and, Bool.and_true, Bool.false_and, Bool.and_false, Bool.and_self, IntWalk.u64_in, Int.cast_ofNat_Int, callF1, pad16, pad_0, pad_1, pad_2, pad_3, pad_4, pad_5, pad_6, pad_7, pad_8, pad_9, pad_10, pad_11, pad_12, pad_13, pad_14, pad_15, gc0, gc1, gc2, gc3, gc4, gc5, gc6, gc7, gc8, gc9, gc10, gc11, gc12, gc13, gc14, gc15, gcS, sc0, sc1, sc2, sc3, sc4, sc5, sc6, sc7, sc8, sc9, sc10, sc11, sc12, sc13, sc14, sc15, scS, List.drop_succ_cons, List.drop_nil]
      with_reducible refine done2 ?_
      repeat (first | refine ext_new hN ?_ | exact ext_refl)
    · have n2 : e > 255 := by omega
      simp -implicitDefEqProofs (maxSteps := 10000000) (disch := omega) only [L10, G10_22, hB, hR, hI, f22 hG, h, n1, n2, pad, e_skip, e_ops, e_draw, d_none, d_nil, d_cons, d_ite, h_none, h_nil, h_cons, h_ite, eqS_same, lightV, e_seq, e_cond, e_block, e_loop, e_exit, e_ret, s_normal, s_ret, s_exit, s_none, s_ite, b_normal, b_ret, b_exit, b_none, b_ite, c_bool, o_some, o_none, o_ite, x_none, x_nil, x_cons, x_ite, p_some, p_none, p_ite, pt_some, pt_none, pv_some, pv_none, pv_ite, w_none, w_some, i_bool, i_undef, bt, bf, v_tmp, v_const, v_global, v_func, evs, f_normal, f_ret, f_none, f_ite, r_some, co_some, l_ptr, m_agg, m_one, sh_app, lk_nil, lk_cons, rd_eq, rdO_some, rdO_none, rdN_none, rdL_some, rdL_none, wrB_none, unitR_some, wrC_some, wrK_cells, consH_some, wr_nil, wr_here, wr_skip, wrH_cons, k_cells, tk_zero, tk_take, tk_skip, tkC_some, call_func, gt, st, stepOp, newB, ptrTo, binV, arith, isSh, storeV, all1, idxAV, fieldV, faddrV, iaddrSV, iaddrAV, pickV, convV, unV, eqbV, eqpV, extV, lenV, mm2, mmV, nilckV, ress, res1, retV, Value.cells, cond_true, cond_false, Bool.true_or, Bool.false_or, Bool.or_true, Bool.or_false, beq_self_eq_true, if_true, if_false, ite_true, ite_false, decide_true, decide_false, decide_eq_true_eq, reduceIte, Nat.zero_add, Nat.add_zero, and_self, true_and, and_true, List.size_toArray, List.length_cons, List.length_nil, List.append_nil, List.nil_append, Int.toNat_zero, Bool.not_false, Bool.not_true, Bool.not_not, Bool.false_eq_true, Bool.true_eq_false, reduceCtorEq, Int.reduceLT, Int.reduceLE, Int.reduceToNat, Int.reduceAdd, Int.reduceSub, Int.reduceMul, Int.reduceNeg, Nat.reduceMul, Nat.reduceAdd, Nat.reduceSub, Nat.reduceBEq, Nat.reduceEqDiff, Nat.reduceLT, Nat.reduceLeDiff, Int.reduceBEq, Int.reduceEq, Nat.reducePow, Int.reducePow, IntWalk.i64_in, IntKind.bits, eqAV, eqL, leafEq, andO, fillV, buildSV, List.getElem?_toArray, List.getElem?_cons_zero, List.getElem?_cons_succ, List.getElem?_nil, Int.reduceGT, Int.reduceGE, Int.reduceBNe, Bool.true_and, Bool.and_true, Bool.false_and, Bool.and_false, Bool.and_self, IntWalk.u64_in, Int.cast_ofNat_Int, callF1, pad16, pad_0, pad_1, pad_2, pad_3, pad_4, pad_5, pad_6, pad_7, pad_8, pad_9, pad_10, pad_11, pad_12, pad_13, pad_14, pad_15, gc0, gc1, gc2, gc3, gc4, gc5, gc6, gc7, gc8, gc9, gc10, gc11, gc12, gc13, gc14, gc15, gcS, sc0, sc1, sc2, sc3, sc4, sc5, sc6, sc7, sc8, sc9, sc10, sc11, sc12, sc13, sc14, sc15, scS, List.drop_succ_cons, List.drop_nil]
      with_reducible refine done2 ?_
      repeat (first | refine ext_new hN ?_ | exact ext_refl)
/-- whitewash/whitewashref06.Answer -/
def L11 : FnL := ⟨(.seq (.ops [⟨(some 1), .box (.tmp 0), none⟩, ⟨(some 2), .alloc [(.int .u64 0), (.int .u64 0)], none⟩, ⟨(some 3), .mv (.const (.int .i64 0)), none⟩])
 (.seq (.seq (.ops [⟨(some 4), .faddr 0 (.tmp 1), none⟩, ⟨(some 5), .load false 1 (.tmp 4), none⟩, ⟨(some 6), .bin .lss (.tmp 5) (.const (.int .i64 0)), none⟩, ⟨(some 7), .mv (.tmp 6), none⟩, ⟨(some 8), .faddr 0 (.tmp 1), (some (7, false))⟩, ⟨(some 9), .load false 1 (.tmp 8), (some (7, false))⟩, ⟨(some 10), .bin .gtr (.tmp 9) (.const (.int .i64 255)), (some (7, false))⟩, ⟨(some 11), .pick (.tmp 7) (.const (.bool true)) (.tmp 10), none⟩])
 (.cond (.tmp 11) (.seq (.ops [⟨(some 12), .build [(.int .u64 0), (.int .u64 0)] [], none⟩, ⟨none, .store 2 (.tmp 2) (.tmp 12), none⟩, ⟨(some 3), .mv (.const (.int .i64 1)), none⟩])
 .ret)
 .skip))
 (.seq (.ops [⟨(some 13), .faddr 0 (.tmp 1), none⟩, ⟨(some 14), .load false 1 (.tmp 13), none⟩, ⟨(some 15), .conv .u64 (.tmp 14), none⟩, ⟨(some 16), .bin .add (.tmp 15) (.const (.int .u64 1)), none⟩, ⟨(some 17), .faddr 1 (.tmp 1), none⟩, ⟨(some 18), .load false 1 (.tmp 17), none⟩, ⟨(some 19), .build [(.int .u64 0), (.int .u64 0)] [(0, 1, (.tmp 16)), (1, 1, (.tmp 18))], none⟩, ⟨none, .store 2 (.tmp 2) (.tmp 19), none⟩, ⟨(some 3), .mv (.const (.int .i64 0)), none⟩])
 .ret))),
 20, [.cell 2 true 2, .tmp 3]⟩
theorem low11 : lowerFn Try.prog Try.f11 = some L11 := by kernel_rfl
noncomputable def G11 (B : OH) : Nat → Cs
  | _ => fun _ _ _ => none
theorem sG11 {w0 : World} {B : OH} : SoundG Try.prog w0 B (G11 B) := fun k => by
  unfold G11
  split
  · exact .inl fun _ _ _ => rfl
noncomputable def F11 (B : OH) : List Value → Option Value := kval B (callF B (G11 B) 80 L11)
noncomputable def V11 (B : OH) : Cs := fun a H N => pv (F11 B a) H N
theorem en11 : Enter Try.prog 11 := .of Try.func11 (by kernel_rfl) (by kernel_rfl)
theorem sV11 {w0 : World} {B : OH} : SoundC Try.prog w0 B 11 (V11 B) := (callF_sound mixedOrders sG11 80 Try.func11 low11).ofVal
set_option maxHeartbeats 1000000 in
theorem f11 {B : OH} (hG : ∃ H N, good B H N) (e v : Int) (he : -9223372036854775808 ≤ e ∧ e ≤ 9223372036854775807) (hv : 0 ≤ v ∧ v < 18446744073709551616) : F11 B [.agg #[.int .i64 e, .int .u64 v]] = some (.tuple #[.agg #[.int .u64 (ansA e (e + 1)), .int .u64 (ansA e v)], .int .i64 (ansE e)]) := by
  refine kval_eq hG fun H N hN => ?_
  have hB := good_B hN
  have hR := good_rdB hN
  have hI := beqN hN.1
  by_cases h : 0 ≤ e ∧ e ≤ 255
  · rw [show ansA e (e + 1) = e + 1 from if_pos h, show ansA e v = v from if_pos h, show ansE e = 0 from if_pos h]
    have w1 : IntKind.u64.wrap e = e := IntWalk.u64_in _ (by omega)
    have w2 : IntKind.u64.wrap (e + 1) = e + 1 := IntWalk.u64_in _ (by omega)
    have n1 : ¬ e < 0 := by omega
    have n2 : ¬ e > 255 := by omega
    simp -implicitDefEqProofs (maxSteps := 10000000) (disch := omega) only [L11, hB, hR, hI, h, w1, w2, n1, n2, pad, e_skip, e_ops, e_draw, d_none, d_nil, d_cons, d_ite, h_none, h_nil, h_cons, h_ite, eqS_same, lightV, e_seq, e_cond, e_block, e_loop, e_exit, e_ret, s_normal, s_ret, s_exit, s_none, s_ite, b_normal, b_ret, b_exit, b_none, b_ite, c_bool, o_some, o_none, o_ite, x_none, x_nil, x_cons, x_ite, p_some, p_none, p_ite, pt_some, pt_none, pv_some, pv_none, pv_ite, w_none, w_some, i_bool, i_undef, bt, bf, v_tmp, v_const, v_global, v_func, evs, f_normal, f_ret, f_none, f_ite, r_some, co_some, l_ptr, m_agg, m_one, sh_app, lk_nil, lk_cons, rd_eq, rdO_some, rdO_none, rdN_none, rdL_some, rdL_none, wrB_none, unitR_some, wrC_some, wrK_cells, consH_some, wr_nil, wr_here, wr_skip, wrH_cons, k_cells, tk_zero, tk_take, tk_skip, tkC_some, call_func, gt, st, stepOp, newB, ptrTo, binV, arith, isSh, storeV, all1, idxAV, fieldV, faddrV, iaddrSV, iaddrAV, pickV, convV, unV, eqbV, eqpV, extV, lenV, mm2, mmV, nilckV, ress, res1, retV, Value.cells, cond_true, cond_false, Bool.true_or, Bool.false_or, Bool.or_true, Bool.or_false, beq_self_eq_true, if_true, if_false, ite_true, ite_false, decide_true, decide_false, decide_eq_true_eq, reduceIte, Nat.zero_add, Nat.add_zero, and_self, true_and, and_true, List.size_toArray, List.length_cons, List.length_nil, List.append_nil, List.nil_append, Int.toNat_zero, Bool.not_false, Bool.not_true, Bool.not_not, Bool.false_eq_true, Bool.true_eq_false, reduceCtorEq, Int.reduceLT, Int.reduceLE, Int.reduceToNat, Int.reduceAdd, Int.reduceSub, Int.reduceMul, Int.reduceNeg, Nat.reduceMul, Nat.reduceAdd, Nat.reduceSub, Nat.reduceBEq, Nat.reduceEqDiff, Nat.reduceLT, Nat.reduceLeDiff, Int.reduceBEq, Int.reduceEq, Nat.reducePow, Int.reducePow, IntWalk.i64_in, IntKind.bits, eqAV, eqL, leafEq, andO, fillV, buildSV, List.getElem?_toArray, List.getElem?_cons_zero, List.getElem?_cons_succ, List.getElem?_nil, Int.reduceGT, Int.reduceGE, Int.reduceBNe, Bool.true_and, Bool.and_true, Bool.false_and, Bool.and_false, Bool.and_self, IntWalk.u64_in, Int.cast_ofNat_Int, callF1, pad16, pad_0, pad_1, pad_2, pad_3, pad_4, pad_5, pad_6, pad_7, pad_8, pad_9, pad_10, pad_11, pad_12, pad_13, pad_14, pad_15, gc0, gc1, gc2, gc3, gc4, gc5, gc6, gc7, gc8, gc9, gc10, gc11, gc12, gc13, gc14, gc15, gcS, sc0, sc1, sc2, sc3, sc4, sc5, sc6, sc7, sc8, sc9, sc10, sc11, sc12, sc13, sc14, sc15, scS, List.drop_succ_cons, List.drop_nil]
    with_reducible refine done2 ?_
    repeat (first | refine ext_new hN ?_ | exact ext_refl)
  · rw [show ansA e (e + 1) = 0 from if_neg h, show ansA e v = 0 from if_neg h, show ansE e = 1 from if_neg h]
    by_cases n1 : e < 0
    · simp -implicitDefEqProofs (maxSteps := 10000000) (disch := omega) only [L11, hB, hR, hI, h, n1, pad, e_skip, e_ops, e_draw, d_none, d_nil, d_cons, d_ite, h_none, h_nil, h_cons, h_ite, eqS_same, lightV, e_seq, e_cond, e_block, e_loop, e_exit, e_ret, s_normal, s_ret, s_exit, s_none, s_ite, b_normal, b_ret, b_exit, b_none, b_ite, c_bool, o_some, o_none, o_ite, x_none, x_nil, x_cons, x_ite, p_some, p_none, p_ite, pt_some, pt_none, pv_some, pv_none, pv_ite, w_none, w_some, i_bool, i_undef, bt, bf, v_tmp, v_const, v_global, v_func, evs, f_normal, f_ret, f_none, f_ite, r_some, co_some, l_ptr, m_agg, m_one, sh_app, lk_nil, lk_cons, rd_eq, rdO_some, rdO_none, rdN_none, rdL_some, rdL_none, wrB_none, unitR_some, wrC_some, wrK_cells, consH_some, wr_nil, wr_here, wr_skip, wrH_cons, k_cells, tk_zero, tk_take, tk_skip, tkC_some, call_func, gt, st, stepOp, newB, ptrTo, binV, arith, isSh, storeV, all1, idxAV, fieldV, faddrV, iaddrSV, iaddrAV, pickV, convV, unV, eqbV, eqpV, extV, lenV, mm2, mmV, nilckV, ress, res1, retV, Value.cells, cond_true, cond_false, Bool.true_or, Bool.false_or, Bool.or_true, Bool.or_false, beq_self_eq_true, if_true, if_false, ite_true, ite_false, decide_true, decide_false, decide_eq_true_eq, reduceIte, Nat.zero_add, Nat.add_zero, and_self, true_and, and_true, List.size_toArray, List.length_cons, List.length_nil, List.append_nil, List.nil_append, Int.toNat_zero, Bool.not_false, Bool.not_true, Bool.not_not, Bool.false_eq_true, Bool.true_eq_false, reduceCtorEq, Int.reduceLT, Int.reduceLE, Int.reduceToNat, Int.reduceAdd, Int.reduceSub, Int.reduceMul, Int.reduceNeg, Nat.reduceMul, Nat.reduceAdd, Nat.reduceSub, Nat.reduceBEq, Nat.reduceEqDiff, Nat.reduceLT, Nat.reduceLeDiff, Int.reduceBEq, Int.reduceEq, Nat.reducePow, Int.reducePow, IntWalk.i64_in, IntKind.bits, eqAV, eqL, leafEq, andO, fillV, buildSV, List.getElem?_toArray, List.getElem?_cons_zero, List.getElem?_cons_succ, List.getElem?_nil, Int.reduceGT, Int.reduceGE, Int.reduceBNe, Bool.true_and, Bool.and_true, Bool.false_and, Bool.and_false, Bool.and_self, IntWalk.u64_in, Int.cast_ofNat_Int, callF1, pad16, pad_0, pad_1, pad_2, pad_3, pad_4, pad_5, pad_6, pad_7, pad_8, pad_9, pad_10, pad_11, pad_12, pad_13, pad_14, pad_15, gc0, gc1, gc2, gc3, gc4, gc5, gc6, gc7, gc8, gc9, gc10, gc11, gc12, gc13, gc14, gc15, gcS, sc0, sc1, sc2, sc3, sc4, sc5, sc6, sc7, sc8, sc9, sc10, sc11, sc12, sc13, sc14, sc15, scS, List.drop_succ_cons, List.drop_nil]
      with_reducible refine done2 ?_
      repeat (first | refine ext_new hN ?_ | exact ext_refl)
    · have n2 : e > 255 := by omega
      simp -implicitDefEqProofs (maxSteps := 10000000) (disch := omega) only [L11, hB, hR, hI, h, n1, n2, pad, e_skip, e_ops, e_draw, d_none, d_nil, d_cons, d_ite, h_none, h_nil, h_cons, h_ite, eqS_same, lightV, e_seq, e_cond, e_block, e_loop, e_exit, e_ret, s_normal, s_ret, s_exit, s_none, s_ite, b_normal, b_ret, b_exit, b_none, b_ite, c_bool, o_some, o_none, o_ite, x_none, x_nil, x_cons, x_ite, p_some, p_none, p_ite, pt_some, pt_none, pv_some, pv_none, pv_ite, w_none, w_some, i_bool, i_undef, bt, bf, v_tmp, v_const, v_global, v_func, evs, f_normal, f_ret, f_none, f_ite, r_some, co_some, l_ptr, m_agg, m_one, sh_app, lk_nil, lk_cons, rd_eq, rdO_some, rdO_none, rdN_none, rdL_some, rdL_none, wrB_none, unitR_some, wrC_some, wrK_cells, consH_some, wr_nil, wr_here, wr_skip, wrH_cons, k_cells, tk_zero, tk_take, tk_skip, tkC_some, call_func, gt, st, stepOp, newB, ptrTo, binV, arith, isSh, storeV, all1, idxAV, fieldV, faddrV, iaddrSV, iaddrAV, pickV, convV, unV, eqbV, eqpV, extV, lenV, mm2, mmV, nilckV, ress, res1, retV, Value.cells, cond_true, cond_false, Bool.true_or, Bool.false_or, Bool.or_true, Bool.or_false, beq_self_eq_true, if_true, if_false, ite_true, ite_false, decide_true, decide_false, decide_eq_true_eq, reduceIte, Nat.zero_add, Nat.add_zero, and_self, true_and, and_true, List.size_toArray, List.length_cons, List.length_nil, List.append_nil, List.nil_append, Int.toNat_zero, Bool.not_false, Bool.not_true, Bool.not_not, Bool.false_eq_true, Bool.true_eq_false, reduceCtorEq, Int.reduceLT, Int.reduceLE, Int.reduceToNat, Int.reduceAdd, Int.reduceSub, Int.reduceMul, Int.reduceNeg, Nat.reduceMul, Nat.reduceAdd, Nat.reduceSub, Nat.reduceBEq, Nat.reduceEqDiff, Nat.reduceLT, Nat.reduceLeDiff, Int.reduceBEq, Int.reduceEq, Nat.reducePow, Int.reducePow, IntWalk.i64_in, IntKind.bits, eqAV, eqL, leafEq, andO, fillV, buildSV, List.getElem?_toArray, List.getElem?_cons_zero, List.getElem?_cons_succ, List.getElem?_nil, Int.reduceGT, Int.reduceGE, Int.reduceBNe, Bool.true_and, Bool.and_true, Bool.false_and, Bool.and_false, Bool.and_self, IntWalk.u64_in, Int.cast_ofNat_Int, callF1, pad16, pad_0, pad_1, pad_2, pad_3, pad_4, pad_5, pad_6, pad_7, pad_8, pad_9, pad_10, pad_11, pad_12, pad_13, pad_14, pad_15, gc0, gc1, gc2, gc3, gc4, gc5, gc6, gc7, gc8, gc9, gc10, gc11, gc12, gc13, gc14, gc15, gcS, sc0, sc1, sc2, sc3, sc4, sc5, sc6, sc7, sc8, sc9, sc10, sc11, sc12, sc13, sc14, sc15, scS, List.drop_succ_cons, List.drop_nil]
      with_reducible refine done2 ?_
      repeat (first | refine ext_new hN ?_ | exact ext_refl)
/-- whitewash/rec.Asked -/
def L12 : FnL := ⟨(.seq (.ops [⟨(some 1), .box (.tmp 0), none⟩, ⟨(some 2), .alloc [(.int .i64 0), (.int .u64 0), (.int .u64 0)], none⟩, ⟨(some 3), .mv (.const (.int .i64 0)), none⟩])
 (.seq (.ops [⟨(some 7), .iaddrA 1 3 (.tmp 1) (.const (.int .i64 0)), none⟩, ⟨(some 8), .load false 1 (.tmp 7), none⟩, ⟨(some 9), .conv .i64 (.tmp 8), none⟩, ⟨(some 10), .iaddrA 1 3 (.tmp 1) (.const (.int .i64 1)), none⟩, ⟨(some 11), .load false 1 (.tmp 10), none⟩, ⟨(some 12), .iaddrA 1 3 (.tmp 1) (.const (.int .i64 2)), none⟩, ⟨(some 13), .load false 1 (.tmp 12), none⟩, ⟨(some 14), .build [(.int .i64 0), (.int .u64 0), (.int .u64 0)] [(0, 1, (.tmp 9)), (1, 1, (.tmp 11)), (2, 1, (.tmp 13))], none⟩, ⟨(some 4), .alloc [(.int .i64 0), (.int .u64 0), (.int .u64 0)], none⟩, ⟨none, .store 3 (.tmp 4) (.tmp 14), none⟩])
 (.seq (.seq (.ops [⟨(some 16), .load true 3 (.tmp 4), none⟩, ⟨(some 17), .call (.func 8) [(.tmp 16)], none⟩, ⟨(some 15), .mv (.tmp 17), none⟩, ⟨(some 18), .ext (.tmp 15) 0, none⟩, ⟨(some 19), .ext (.tmp 15) 1, none⟩, ⟨(some 5), .alloc [(.int .u64 0), (.int .u64 0), (.int .u64 0)], none⟩, ⟨none, .store 3 (.tmp 5) (.tmp 18), none⟩, ⟨(some 6), .mv (.tmp 19), none⟩])
 (.seq (.ops [⟨(some 20), .mv (.tmp 6), none⟩, ⟨(some 21), .bin .neq (.tmp 20) (.const (.int .i64 0)), none⟩, ⟨(some 22), .mv (.tmp 21), none⟩, ⟨(some 23), .load true 3 (.tmp 5), (some (22, false))⟩, ⟨(some 24), .load true 3 (.tmp 1), (some (22, false))⟩, ⟨(some 25), .eqA true [.int, .int, .int] (.tmp 23) (.tmp 24), (some (22, false))⟩, ⟨(some 26), .pick (.tmp 22) (.const (.bool true)) (.tmp 25), none⟩])
 (.cond (.tmp 26) (.seq (.ops [⟨(some 27), .build [(.int .i64 0), (.int .u64 0), (.int .u64 0)] [], none⟩, ⟨none, .store 3 (.tmp 2) (.tmp 27), none⟩, ⟨(some 3), .mv (.const (.int .i64 2)), none⟩])
 .ret)
 .skip)))
 (.seq (.ops [⟨(some 28), .load true 3 (.tmp 4), none⟩, ⟨none, .store 3 (.tmp 2) (.tmp 28), none⟩, ⟨(some 3), .mv (.const (.int .i64 0)), none⟩])
 .ret)))),
 29, [.cell 2 true 3, .tmp 3]⟩
theorem low12 : lowerFn Try.prog Try.f12 = some L12 := by kernel_rfl
noncomputable def G12 (B : OH) : Nat → Cs
  | 8 => V8 B
  | _ => fun _ _ _ => none
theorem G12_8 {B : OH} : G12 B 8 = fun a H N => pv (F8 B a) H N := rfl
theorem sG12 {w0 : World} {B : OH} : SoundG Try.prog w0 B (G12 B) := fun k => by
  unfold G12
  split
  · exact .inr ⟨en8, sV8⟩
  · exact .inl fun _ _ _ => rfl
noncomputable def F12 (B : OH) : List Value → Option Value := kval B (callF B (G12 B) 80 L12)
noncomputable def V12 (B : OH) : Cs := fun a H N => pv (F12 B a) H N
theorem en12 : Enter Try.prog 12 := .of Try.func12 (by kernel_rfl) (by kernel_rfl)
theorem sV12 {w0 : World} {B : OH} : SoundC Try.prog w0 B 12 (V12 B) := (callF_sound mixedOrders sG12 80 Try.func12 low12).ofVal
set_option maxHeartbeats 1000000 in
theorem f12 {B : OH} (hG : ∃ H N, good B H N) (a b c : Int) (ha : 0 ≤ a ∧ a < 18446744073709551616) (hb : 0 ≤ b ∧ b < 18446744073709551616) (hc : 0 ≤ c ∧ c < 18446744073709551616) : F12 B [.agg #[.int .u64 a, .int .u64 b, .int .u64 c]] = some (.tuple #[.agg #[.int .i64 (askA a a), .int .u64 (askA a b), .int .u64 (askA a c)], .int .i64 (askE a 2)]) := by
  refine kval_eq hG fun H N hN => ?_
  have hB := good_B hN
  have hR := good_rdB hN
  have hI := beqN hN.1
  have hw := f8 hG (IntKind.i64.wrap a) b c (by rw [IntKind.wrap_i64]; omega) hb hc
  by_cases h : 1 ≤ a ∧ a ≤ 255
  · have w1 : IntKind.i64.wrap a = a := IntWalk.i64_in _ (by omega)
    rw [w1, show askA a a = a from if_pos h, show askA a b = b from if_pos h, show askA a c = c from if_pos h, show askE a 1 = 0 from if_pos h] at hw
    rw [show askA a a = a from if_pos h, show askA a b = b from if_pos h, show askA a c = c from if_pos h, show askE a 2 = 0 from if_pos h]
    simp -implicitDefEqProofs (maxSteps := 10000000) (disch := omega) only [L12, G12_8, hB, hR, hI, hw, h, w1, bne_self_eq_false, pad, e_skip, e_ops, e_draw, d_none, d_nil, d_cons, d_ite, h_none, h_nil, h_cons, h_ite, eqS_same, lightV, e_seq, e_cond, e_block, e_loop, e_exit, e_ret, s_normal, s_ret, s_exit, s_none, s_ite, b_normal, b_ret, b_exit, b_none, b_ite, c_bool, o_some, o_none, o_ite, x_none, x_nil, x_cons, x_ite, p_some, p_none, p_ite, pt_some, pt_none, pv_some, pv_none, pv_ite, w_none, w_some, i_bool, i_undef, bt, bf, v_tmp, v_const, v_global, v_func, evs, f_normal, f_ret, f_none, f_ite, r_some, co_some, l_ptr, m_agg, m_one, sh_app, lk_nil, lk_cons, rd_eq, rdO_some, rdO_none, rdN_none, rdL_some, rdL_none, wrB_none, unitR_some, wrC_some, wrK_cells, consH_some, wr_nil, wr_here, wr_skip, wrH_cons, k_cells, tk_zero, tk_take, tk_skip, tkC_some, call_func, gt, st, stepOp, newB, ptrTo, binV, arith, isSh, storeV, all1, idxAV, fieldV, faddrV, iaddrSV, iaddrAV, pickV, convV, unV, eqbV, eqpV, extV, lenV, mm2, mmV, nilckV, ress, res1, retV, Value.cells, cond_true, cond_false, Bool.true_or, Bool.false_or, Bool.or_true, Bool.or_false, beq_self_eq_true, if_true, if_false, ite_true, ite_false, decide_true, decide_false, decide_eq_true_eq, reduceIte, Nat.zero_add, Nat.add_zero, and_self, true_and, and_true, List.size_toArray, List.length_cons, List.length_nil, List.append_nil, List.nil_append, Int.toNat_zero, Bool.not_false, Bool.not_true, Bool.not_not, Bool.false_eq_true, Bool.true_eq_false, reduceCtorEq, Int.reduceLT, Int.reduceLE, Int.reduceToNat, Int.reduceAdd, Int.reduceSub, Int.reduceMul, Int.reduceNeg, Nat.reduceMul, Nat.reduceAdd, Nat.reduceSub, Nat.reduceBEq, Nat.reduceEqDiff, Nat.reduceLT, Nat.reduceLeDiff, Int.reduceBEq, Int.reduceEq, Nat.reducePow, Int.reducePow, IntWalk.i64_in, IntKind.bits, eqAV, eqL, leafEq, andO, fillV, buildSV, List.getElem?_toArray, List.getElem?_cons_zero, List.getElem?_cons_succ, List.getElem?_nil, Int.reduceGT, Int.reduceGE, Int.reduceBNe, Bool.true_and, Bool.and_true, Bool.false_and, Bool.and_false, Bool.and_self, IntWalk.u64_in, Int.cast_ofNat_Int, callF1, pad16, pad_0, pad_1, pad_2, pad_3, pad_4, pad_5, pad_6, pad_7, pad_8, pad_9, pad_10, pad_11, pad_12, pad_13, pad_14, pad_15, gc0, gc1, gc2, gc3, gc4, gc5, gc6, gc7, gc8, gc9, gc10, gc11, gc12, gc13, gc14, gc15, gcS, sc0, sc1, sc2, sc3, sc4, sc5, sc6, sc7, sc8, sc9, sc10, sc11, sc12, sc13, sc14, sc15, scS, List.drop_succ_cons, List.drop_nil]
    with_reducible refine done2 ?_
    repeat (first | refine ext_new hN ?_ | exact ext_refl)
  · rw [show askA a a = 0 from if_neg h, show askA a b = 0 from if_neg h, show askA a c = 0 from if_neg h, show askE a 2 = 2 from if_neg h]
    have h' : ¬ (1 ≤ IntKind.i64.wrap a ∧ IntKind.i64.wrap a ≤ 255) := by
      rw [IntKind.wrap_i64]; omega
    rw [show askE (IntKind.i64.wrap a) 1 = 1 from if_neg h'] at hw
    simp -implicitDefEqProofs (maxSteps := 10000000) (disch := omega) only [L12, G12_8, hB, hR, hI, hw, h, Int.reduceBNe, pad, e_skip, e_ops, e_draw, d_none, d_nil, d_cons, d_ite, h_none, h_nil, h_cons, h_ite, eqS_same, lightV, e_seq, e_cond, e_block, e_loop, e_exit, e_ret, s_normal, s_ret, s_exit, s_none, s_ite, b_normal, b_ret, b_exit, b_none, b_ite, c_bool, o_some, o_none, o_ite, x_none, x_nil, x_cons, x_ite, p_some, p_none, p_ite, pt_some, pt_none, pv_some, pv_none, pv_ite, w_none, w_some, i_bool, i_undef, bt, bf, v_tmp, v_const, v_global, v_func, evs, f_normal, f_ret, f_none, f_ite, r_some, co_some, l_ptr, m_agg, m_one, sh_app, lk_nil, lk_cons, rd_eq, rdO_some, rdO_none, rdN_none, rdL_some, rdL_none, wrB_none, unitR_some, wrC_some, wrK_cells, consH_some, wr_nil, wr_here, wr_skip, wrH_cons, k_cells, tk_zero, tk_take, tk_skip, tkC_some, call_func, gt, st, stepOp, newB, ptrTo, binV, arith, isSh, storeV, all1, idxAV, fieldV, faddrV, iaddrSV, iaddrAV, pickV, convV, unV, eqbV, eqpV, extV, lenV, mm2, mmV, nilckV, ress, res1, retV, Value.cells, cond_true, cond_false, Bool.true_or, Bool.false_or, Bool.or_true, Bool.or_false, beq_self_eq_true, if_true, if_false, ite_true, ite_false, decide_true, decide_false, decide_eq_true_eq, reduceIte, Nat.zero_add, Nat.add_zero, and_self, true_and, and_true, List.size_toArray, List.length_cons, List.length_nil, List.append_nil, List.nil_append, Int.toNat_zero, Bool.not_false, Bool.not_true, Bool.not_not, Bool.false_eq_true, Bool.true_eq_false, reduceCtorEq, Int.reduceLT, Int.reduceLE, Int.reduceToNat, Int.reduceAdd, Int.reduceSub, Int.reduceMul, Int.reduceNeg, Nat.reduceMul, Nat.reduceAdd, Nat.reduceSub, Nat.reduceBEq, Nat.reduceEqDiff, Nat.reduceLT, Nat.reduceLeDiff, Int.reduceBEq, Int.reduceEq, Nat.reducePow, Int.reducePow, IntWalk.i64_in, IntKind.bits, eqAV, eqL, leafEq, andO, fillV, buildSV, List.getElem?_toArray, List.getElem?_cons_zero, List.getElem?_cons_succ, List.getElem?_nil, Int.reduceGT, Int.reduceGE, Int.reduceBNe, Bool.true_and, Bool.and_true, Bool.false_and, Bool.and_false, Bool.and_self, IntWalk.u64_in, Int.cast_ofNat_Int, callF1, pad16, pad_0, pad_1, pad_2, pad_3, pad_4, pad_5, pad_6, pad_7, pad_8, pad_9, pad_10, pad_11, pad_12, pad_13, pad_14, pad_15, gc0, gc1, gc2, gc3, gc4, gc5, gc6, gc7, gc8, gc9, gc10, gc11, gc12, gc13, gc14, gc15, gcS, sc0, sc1, sc2, sc3, sc4, sc5, sc6, sc7, sc8, sc9, sc10, sc11, sc12, sc13, sc14, sc15, scS, List.drop_succ_cons, List.drop_nil]
    with_reducible refine done2 ?_
    repeat (first | refine ext_new hN ?_ | exact ext_refl)
/-- whitewash/whitewashref06.Asked -/
def L13 : FnL := ⟨(.seq (.ops [⟨(some 1), .box (.tmp 0), none⟩, ⟨(some 2), .alloc [(.int .i64 0), (.int .u64 0), (.int .u64 0)], none⟩, ⟨(some 3), .mv (.const (.int .i64 0)), none⟩])
 (.seq (.seq (.ops [⟨(some 4), .iaddrA 1 3 (.tmp 1) (.const (.int .i64 0)), none⟩, ⟨(some 5), .load false 1 (.tmp 4), none⟩, ⟨(some 6), .bin .lss (.tmp 5) (.const (.int .u64 1)), none⟩, ⟨(some 7), .mv (.tmp 6), none⟩, ⟨(some 8), .iaddrA 1 3 (.tmp 1) (.const (.int .i64 0)), (some (7, false))⟩, ⟨(some 9), .load false 1 (.tmp 8), (some (7, false))⟩, ⟨(some 10), .bin .gtr (.tmp 9) (.const (.int .u64 255)), (some (7, false))⟩, ⟨(some 11), .pick (.tmp 7) (.const (.bool true)) (.tmp 10), none⟩])
 (.cond (.tmp 11) (.seq (.ops [⟨(some 12), .build [(.int .i64 0), (.int .u64 0), (.int .u64 0)] [], none⟩, ⟨none, .store 3 (.tmp 2) (.tmp 12), none⟩, ⟨(some 3), .mv (.const (.int .i64 2)), none⟩])
 .ret)
 .skip))
 (.seq (.ops [⟨(some 13), .iaddrA 1 3 (.tmp 1) (.const (.int .i64 0)), none⟩, ⟨(some 14), .load false 1 (.tmp 13), none⟩, ⟨(some 15), .conv .i64 (.tmp 14), none⟩, ⟨(some 16), .iaddrA 1 3 (.tmp 1) (.const (.int .i64 1)), none⟩, ⟨(some 17), .load false 1 (.tmp 16), none⟩, ⟨(some 18), .iaddrA 1 3 (.tmp 1) (.const (.int .i64 2)), none⟩, ⟨(some 19), .load false 1 (.tmp 18), none⟩, ⟨(some 20), .build [(.int .i64 0), (.int .u64 0), (.int .u64 0)] [(0, 1, (.tmp 15)), (1, 1, (.tmp 17)), (2, 1, (.tmp 19))], none⟩, ⟨none, .store 3 (.tmp 2) (.tmp 20), none⟩, ⟨(some 3), .mv (.const (.int .i64 0)), none⟩])
 .ret))),
 21, [.cell 2 true 3, .tmp 3]⟩
theorem low13 : lowerFn Try.prog Try.f13 = some L13 := by kernel_rfl
noncomputable def G13 (B : OH) : Nat → Cs
  | _ => fun _ _ _ => none
theorem sG13 {w0 : World} {B : OH} : SoundG Try.prog w0 B (G13 B) := fun k => by
  unfold G13
  split
  · exact .inl fun _ _ _ => rfl
noncomputable def F13 (B : OH) : List Value → Option Value := kval B (callF B (G13 B) 80 L13)
noncomputable def V13 (B : OH) : Cs := fun a H N => pv (F13 B a) H N
theorem en13 : Enter Try.prog 13 := .of Try.func13 (by kernel_rfl) (by kernel_rfl)
theorem sV13 {w0 : World} {B : OH} : SoundC Try.prog w0 B 13 (V13 B) := (callF_sound mixedOrders sG13 80 Try.func13 low13).ofVal
set_option maxHeartbeats 1000000 in
theorem f13 {B : OH} (hG : ∃ H N, good B H N) (a b c : Int) (ha : 0 ≤ a ∧ a < 18446744073709551616) (hb : 0 ≤ b ∧ b < 18446744073709551616) (hc : 0 ≤ c ∧ c < 18446744073709551616) : F13 B [.agg #[.int .u64 a, .int .u64 b, .int .u64 c]] = some (.tuple #[.agg #[.int .i64 (askA a a), .int .u64 (askA a b), .int .u64 (askA a c)], .int .i64 (askE a 2)]) := by
  refine kval_eq hG fun H N hN => ?_
  have hB := good_B hN
  have hR := good_rdB hN
  have hI := beqN hN.1
  by_cases h : 1 ≤ a ∧ a ≤ 255
  · have w1 : IntKind.i64.wrap a = a := IntWalk.i64_in _ (by omega)
    rw [show askA a a = a from if_pos h, show askA a b = b from if_pos h, show askA a c = c from if_pos h, show askE a 2 = 0 from if_pos h]
    have n1 : ¬ a < 1 := by omega
    have n2 : ¬ a > 255 := by omega
    simp -implicitDefEqProofs (maxSteps := 10000000) (disch := omega) only [L13, hB, hR, hI, h, w1, n1, n2, pad, e_skip, e_ops, e_draw, d_none, d_nil, d_cons, d_ite, h_none, h_nil, h_cons, h_ite, eqS_same, lightV, e_seq, e_cond, e_block, e_loop, e_exit, e_ret, s_normal, s_ret, s_exit, s_none, s_ite, b_normal, b_ret, b_exit, b_none, b_ite, c_bool, o_some, o_none, o_ite, x_none, x_nil, x_cons, x_ite, p_some, p_none, p_ite, pt_some, pt_none, pv_some, pv_none, pv_ite, w_none, w_some, i_bool, i_undef, bt, bf, v_tmp, v_const, v_global, v_func, evs, f_normal, f_ret, f_none, f_ite, r_some, co_some, l_ptr, m_agg, m_one, sh_app, lk_nil, lk_cons, rd_eq, rdO_some, rdO_none, rdN_none, rdL_some, rdL_none, wrB_none, unitR_some, wrC_some, wrK_cells, consH_some, wr_nil, wr_here, wr_skip, wrH_cons, k_cells, tk_zero, tk_take, tk_skip, tkC_some, call_func, gt, st, stepOp, newB, ptrTo, binV, arith, isSh, storeV, all1, idxAV, fieldV, faddrV, iaddrSV, iaddrAV, pickV, convV, unV, eqbV, eqpV, extV, lenV, mm2, mmV, nilckV, ress, res1, retV, Value.cells, cond_true, cond_false, Bool.true_or, Bool.false_or, Bool.or_true, Bool.or_false, beq_self_eq_true, if_true, if_false, ite_true, ite_false, decide_true, decide_false, decide_eq_true_eq, reduceIte, Nat.zero_add, Nat.add_zero, and_self, true_and, and_true, List.size_toArray, List.length_cons, List.length_nil, List.append_nil, List.nil_append, Int.toNat_zero, Bool.not_false, Bool.not_true, Bool.not_not, Bool.false_eq_true, Bool.true_eq_false, reduceCtorEq, Int.reduceLT, Int.reduceLE, Int.reduceToNat, Int.reduceAdd, Int.reduceSub, Int.reduceMul, Int.reduceNeg, Nat.reduceMul, Nat.reduceAdd, Nat.reduceSub, Nat.reduceBEq, Nat.reduceEqDiff, Nat.reduceLT, Nat.reduceLeDiff, Int.reduceBEq, Int.reduceEq, Nat.reducePow, Int.reducePow, IntWalk.i64_in, IntKind.bits, eqAV, eqL, leafEq, andO, fillV, buildSV, List.getElem?_toArray, List.getElem?_cons_zero, List.getElem?_cons_succ, List.getElem?_nil, Int.reduceGT, Int.reduceGE, Int.reduceBNe, Bool.true_and, Bool.and_true, Bool.false_and, Bool.and_false, Bool.and_self, IntWalk.u64_in, Int.cast_ofNat_Int, callF1, pad16, pad_0, pad_1, pad_2, pad_3, pad_4, pad_5, pad_6, pad_7, pad_8, pad_9, pad_10, pad_11, pad_12, pad_13, pad_14, pad_15, gc0, gc1, gc2, gc3, gc4, gc5, gc6, gc7, gc8, gc9, gc10, gc11, gc12, gc13, gc14, gc15, gcS, sc0, sc1, sc2, sc3, sc4, sc5, sc6, sc7, sc8, sc9, sc10, sc11, sc12, sc13, sc14, sc15, scS, List.drop_succ_cons, List.drop_nil]
    with_reducible refine done2 ?_
    repeat (first | refine ext_new hN ?_ | exact ext_refl)
  · rw [show askA a a = 0 from if_neg h, show askA a b = 0 from if_neg h, show askA a c = 0 from if_neg h, show askE a 2 = 2 from if_neg h]
    by_cases n1 : a < 1
    · simp -implicitDefEqProofs (maxSteps := 10000000) (disch := omega) only [L13, hB, hR, hI, h, n1, pad, e_skip, e_ops, e_draw, d_none, d_nil, d_cons, d_ite, h_none, h_nil, h_cons, h_ite, eqS_same, lightV, e_seq, e_cond, e_block, e_loop, e_exit, e_ret, s_normal, s_ret, s_exit, s_none, s_ite, b_normal, b_ret, b_exit, b_none, b_ite, c_bool, o_some, o_none, o_ite, x_none, x_nil, x_cons, x_ite, p_some, p_none, p_ite, pt_some, pt_none, pv_some, pv_none, pv_ite, w_none, w_some, i_bool, i_undef, bt, bf, v_tmp, v_const, v_global, v_func, evs, f_normal, f_ret, f_none, f_ite, r_some, co_some, l_ptr, m_agg, m_one, sh_app, lk_nil, lk_cons, rd_eq, rdO_some, rdO_none, rdN_none, rdL_some, rdL_none, wrB_none, unitR_some, wrC_some, wrK_cells, consH_some, wr_nil, wr_here, wr_skip, wrH_cons, k_cells, tk_zero, tk_take, tk_skip, tkC_some, call_func, gt, st, stepOp, newB, ptrTo, binV, arith, isSh, storeV, all1, idxAV, fieldV, faddrV, iaddrSV, iaddrAV, pickV, convV, unV, eqbV, eqpV, extV, lenV, mm2, mmV, nilckV, ress, res1, retV, Value.cells, cond_true, cond_false, Bool.true_or, Bool.false_or, Bool.or_true, Bool.or_false, beq_self_eq_true, if_true, if_false, ite_true, ite_false, decide_true, decide_false, decide_eq_true_eq, reduceIte, Nat.zero_add, Nat.add_zero, and_self, true_and, and_true, List.size_toArray, List.length_cons, List.length_nil, List.append_nil, List.nil_append, Int.toNat_zero, Bool.not_false, Bool.not_true, Bool.not_not, Bool.false_eq_true, Bool.true_eq_false, reduceCtorEq, Int.reduceLT, Int.reduceLE, Int.reduceToNat, Int.reduceAdd, Int.reduceSub, Int.reduceMul, Int.reduceNeg, Nat.reduceMul, Nat.reduceAdd, Nat.reduceSub, Nat.reduceBEq, Nat.reduceEqDiff, Nat.reduceLT, Nat.reduceLeDiff, Int.reduceBEq, Int.reduceEq, Nat.reducePow, Int.reducePow, IntWalk.i64_in, IntKind.bits, eqAV, eqL, leafEq, andO, fillV, buildSV, List.getElem?_toArray, List.getElem?_cons_zero, List.getElem?_cons_succ, List.getElem?_nil, Int.reduceGT, Int.reduceGE, Int.reduceBNe, Bool.true_and, Bool.and_true, Bool.false_and, Bool.and_false, Bool.and_self, IntWalk.u64_in, Int.cast_ofNat_Int, callF1, pad16, pad_0, pad_1, pad_2, pad_3, pad_4, pad_5, pad_6, pad_7, pad_8, pad_9, pad_10, pad_11, pad_12, pad_13, pad_14, pad_15, gc0, gc1, gc2, gc3, gc4, gc5, gc6, gc7, gc8, gc9, gc10, gc11, gc12, gc13, gc14, gc15, gcS, sc0, sc1, sc2, sc3, sc4, sc5, sc6, sc7, sc8, sc9, sc10, sc11, sc12, sc13, sc14, sc15, scS, List.drop_succ_cons, List.drop_nil]
      with_reducible refine done2 ?_
      repeat (first | refine ext_new hN ?_ | exact ext_refl)
    · have n2 : a > 255 := by omega
      simp -implicitDefEqProofs (maxSteps := 10000000) (disch := omega) only [L13, hB, hR, hI, h, n1, n2, pad, e_skip, e_ops, e_draw, d_none, d_nil, d_cons, d_ite, h_none, h_nil, h_cons, h_ite, eqS_same, lightV, e_seq, e_cond, e_block, e_loop, e_exit, e_ret, s_normal, s_ret, s_exit, s_none, s_ite, b_normal, b_ret, b_exit, b_none, b_ite, c_bool, o_some, o_none, o_ite, x_none, x_nil, x_cons, x_ite, p_some, p_none, p_ite, pt_some, pt_none, pv_some, pv_none, pv_ite, w_none, w_some, i_bool, i_undef, bt, bf, v_tmp, v_const, v_global, v_func, evs, f_normal, f_ret, f_none, f_ite, r_some, co_some, l_ptr, m_agg, m_one, sh_app, lk_nil, lk_cons, rd_eq, rdO_some, rdO_none, rdN_none, rdL_some, rdL_none, wrB_none, unitR_some, wrC_some, wrK_cells, consH_some, wr_nil, wr_here, wr_skip, wrH_cons, k_cells, tk_zero, tk_take, tk_skip, tkC_some, call_func, gt, st, stepOp, newB, ptrTo, binV, arith, isSh, storeV, all1, idxAV, fieldV, faddrV, iaddrSV, iaddrAV, pickV, convV, unV, eqbV, eqpV, extV, lenV, mm2, mmV, nilckV, ress, res1, retV, Value.cells, cond_true, cond_false, Bool.true_or, Bool.false_or, Bool.or_true, Bool.or_false, beq_self_eq_true, if_true, if_false, ite_true, ite_false, decide_true, decide_false, decide_eq_true_eq, reduceIte, Nat.zero_add, Nat.add_zero, and_self, true_and, and_true, List.size_toArray, List.length_cons, List.length_nil, List.append_nil, List.nil_append, Int.toNat_zero, Bool.not_false, Bool.not_true, Bool.not_not, Bool.false_eq_true, Bool.true_eq_false, reduceCtorEq, Int.reduceLT, Int.reduceLE, Int.reduceToNat, Int.reduceAdd, Int.reduceSub, Int.reduceMul, Int.reduceNeg, Nat.reduceMul, Nat.reduceAdd, Nat.reduceSub, Nat.reduceBEq, Nat.reduceEqDiff, Nat.reduceLT, Nat.reduceLeDiff, Int.reduceBEq, Int.reduceEq, Nat.reducePow, Int.reducePow, IntWalk.i64_in, IntKind.bits, eqAV, eqL, leafEq, andO, fillV, buildSV, List.getElem?_toArray, List.getElem?_cons_zero, List.getElem?_cons_succ, List.getElem?_nil, Int.reduceGT, Int.reduceGE, Int.reduceBNe, Bool.true_and, Bool.and_true, Bool.false_and, Bool.and_false, Bool.and_self, IntWalk.u64_in, Int.cast_ofNat_Int, callF1, pad16, pad_0, pad_1, pad_2, pad_3, pad_4, pad_5, pad_6, pad_7, pad_8, pad_9, pad_10, pad_11, pad_12, pad_13, pad_14, pad_15, gc0, gc1, gc2, gc3, gc4, gc5, gc6, gc7, gc8, gc9, gc10, gc11, gc12, gc13, gc14, gc15, gcS, sc0, sc1, sc2, sc3, sc4, sc5, sc6, sc7, sc8, sc9, sc10, sc11, sc12, sc13, sc14, sc15, scS, List.drop_succ_cons, List.drop_nil]
      with_reducible refine done2 ?_
      repeat (first | refine ext_new hN ?_ | exact ext_refl)
/-- whitewash/rec.Told -/
def L14 : FnL := ⟨(.seq (.ops [⟨(some 1), .box (.tmp 0), none⟩, ⟨(some 2), .alloc [(.int .i64 0), (.int .u64 0)], none⟩, ⟨(some 3), .mv (.const (.int .i64 0)), none⟩])
 (.seq (.seq (.ops [⟨(some 4), .iaddrA 1 2 (.tmp 1) (.const (.int .i64 0)), none⟩, ⟨(some 5), .load false 1 (.tmp 4), none⟩, ⟨(some 6), .call (.func 23) [(.tmp 5), (.const (.int .u64 1)), (.const (.int .u64 256))], none⟩, ⟨(some 7), .un .not (.tmp 6), none⟩])
 (.cond (.tmp 7) (.seq (.ops [⟨(some 8), .build [(.int .i64 0), (.int .u64 0)] [], none⟩, ⟨none, .store 2 (.tmp 2) (.tmp 8), none⟩, ⟨(some 3), .mv (.const (.int .i64 2)), none⟩])
 .ret)
 .skip))
 (.seq (.ops [⟨(some 9), .iaddrA 1 2 (.tmp 1) (.const (.int .i64 0)), none⟩, ⟨(some 10), .load false 1 (.tmp 9), none⟩, ⟨(some 11), .bin .sub (.tmp 10) (.const (.int .u64 1)), none⟩, ⟨(some 12), .conv .i64 (.tmp 11), none⟩, ⟨(some 13), .iaddrA 1 2 (.tmp 1) (.const (.int .i64 1)), none⟩, ⟨(some 14), .load false 1 (.tmp 13), none⟩, ⟨(some 15), .build [(.int .i64 0), (.int .u64 0)] [(0, 1, (.tmp 12)), (1, 1, (.tmp 14))], none⟩, ⟨none, .store 2 (.tmp 2) (.tmp 15), none⟩, ⟨(some 3), .mv (.const (.int .i64 0)), none⟩])
 .ret))),
 16, [.cell 2 true 2, .tmp 3]⟩
theorem low14 : lowerFn Try.prog Try.f14 = some L14 := by kernel_rfl
noncomputable def G14 (B : OH) : Nat → Cs
  | 23 => V23 B
  | _ => fun _ _ _ => none
theorem G14_23 {B : OH} : G14 B 23 = fun a H N => pv (F23 B a) H N := rfl
theorem sG14 {w0 : World} {B : OH} : SoundG Try.prog w0 B (G14 B) := fun k => by
  unfold G14
  split
  · exact .inr ⟨en23, sV23⟩
  · exact .inl fun _ _ _ => rfl
noncomputable def F14 (B : OH) : List Value → Option Value := kval B (callF B (G14 B) 80 L14)
noncomputable def V14 (B : OH) : Cs := fun a H N => pv (F14 B a) H N
theorem en14 : Enter Try.prog 14 := .of Try.func14 (by kernel_rfl) (by kernel_rfl)
theorem sV14 {w0 : World} {B : OH} : SoundC Try.prog w0 B 14 (V14 B) := (callF_sound mixedOrders sG14 80 Try.func14 low14).ofVal
set_option maxHeartbeats 1000000 in
theorem f14 {B : OH} (hG : ∃ H N, good B H N) (a b : Int) (ha : 0 ≤ a ∧ a < 18446744073709551616) (hb : 0 ≤ b ∧ b < 18446744073709551616) : F14 B [.agg #[.int .u64 a, .int .u64 b]] = some (.tuple #[.agg #[.int .i64 (tolA a (a - 1)), .int .u64 (tolA a b)], .int .i64 (tolE a)]) := by
  refine kval_eq hG fun H N hN => ?_
  have hB := good_B hN
  have hR := good_rdB hN
  have hI := beqN hN.1
  by_cases h : 1 ≤ a ∧ a ≤ 256
  · rw [show tolA a (a - 1) = a - 1 from if_pos h, show tolA a b = b from if_pos h, show tolE a = 0 from if_pos h]
    have w1 : IntKind.u64.wrap (a - 1) = a - 1 := IntWalk.u64_in _ (by omega)
    have w2 : IntKind.i64.wrap (a - 1) = a - 1 := IntWalk.i64_in _ (by omega)
    have n1 : ¬ a < 1 := by omega
    have n2 : ¬ a > 256 := by omega
    simp -implicitDefEqProofs (maxSteps := 10000000) (disch := omega) only [L14, G14_23, hB, hR, hI, f23 hG, h, w1, w2, n1, n2, pad, e_skip, e_ops, e_draw, d_none, d_nil, d_cons, d_ite, h_none, h_nil, h_cons, h_ite, eqS_same, lightV, e_seq, e_cond, e_block, e_loop, e_exit, e_ret, s_normal, s_ret, s_exit, s_none, s_ite, b_normal, b_ret, b_exit, b_none, b_ite, c_bool, o_some, o_none, o_ite, x_none, x_nil, x_cons, x_ite, p_some, p_none, p_ite, pt_some, pt_none, pv_some, pv_none, pv_ite, w_none, w_some, i_bool, i_undef, bt, bf, v_tmp, v_const, v_global, v_func, evs, f_normal, f_ret, f_none, f_ite, r_some, co_some, l_ptr, m_agg, m_one, sh_app, lk_nil, lk_cons, rd_eq, rdO_some, rdO_none, rdN_none, rdL_some, rdL_none, wrB_none, unitR_some, wrC_some, wrK_cells, consH_some, wr_nil, wr_here, wr_skip, wrH_cons, k_cells, tk_zero, tk_take, tk_skip, tkC_some, call_func, gt, st, stepOp, newB, ptrTo, binV, arith, isSh, storeV, all1, idxAV, fieldV, faddrV, iaddrSV, iaddrAV, pickV, convV, unV, eqbV, eqpV, extV, lenV, mm2, mmV, nilckV, ress, res1, retV, Value.cells, cond_true, cond_false, Bool.true_or, Bool.false_or, Bool.or_true, Bool.or_false, beq_self_eq_true, if_true, if_false, ite_true, ite_false, decide_true, decide_false, decide_eq_true_eq, reduceIte, Nat.zero_add, Nat.add_zero, and_self, true_and, and_true, List.size_toArray, List.length_cons, List.length_nil, List.append_nil, List.nil_append, Int.toNat_zero, Bool.not_false, Bool.not_true, Bool.not_not, Bool.false_eq_true, Bool.true_eq_false, reduceCtorEq, Int.reduceLT, Int.reduceLE, Int.reduceToNat, Int.reduceAdd, Int.reduceSub, Int.reduceMul, Int.reduceNeg, Nat.reduceMul, Nat.reduceAdd, Nat.reduceSub, Nat.reduceBEq, Nat.reduceEqDiff, Nat.reduceLT, Nat.reduceLeDiff, Int.reduceBEq, Int.reduceEq, Nat.reducePow, Int.reducePow, IntWalk.i64_in, IntKind.bits, eqAV, eqL, leafEq, andO, fillV, buildSV, List.getElem?_toArray, List.getElem?_cons_zero, List.getElem?_cons_succ, List.getElem?_nil, Int.reduceGT, Int.reduceGE, Int.reduceBNe, Bool.true_and, Bool.and_true, Bool.false_and, Bool.and_false, Bool.and_self, IntWalk.u64_in, Int.cast_ofNat_Int, callF1, pad16, pad_0, pad_1, pad_2, pad_3, pad_4, pad_5, pad_6, pad_7, pad_8, pad_9, pad_10, pad_11, pad_12, pad_13, pad_14, pad_15, gc0, gc1, gc2, gc3, gc4, gc5, gc6, gc7, gc8, gc9, gc10, gc11, gc12, gc13, gc14, gc15, gcS, sc0, sc1, sc2, sc3, sc4, sc5, sc6, sc7, sc8, sc9, sc10, sc11, sc12, sc13, sc14, sc15, scS, List.drop_succ_cons, List.drop_nil]
    with_reducible refine done2 ?_
    repeat (first | refine ext_new hN ?_ | exact ext_refl)
  · rw [show tolA a (a - 1) = 0 from if_neg h, show tolA a b = 0 from if_neg h, show tolE a = 2 from if_neg h]
    by_cases n1 : a < 1
    · simp -implicitDefEqProofs (maxSteps := 10000000) (disch := omega) only [L14, G14_23, hB, hR, hI, f23 hG, h, n1, pad, e_skip, e_ops, e_draw, d_none, d_nil, d_cons, d_ite, h_none, h_nil, h_cons, h_ite, eqS_same, lightV, e_seq, e_cond, e_block, e_loop, e_exit, e_ret, s_normal, s_ret, s_exit, s_none, s_ite, b_normal, b_ret, b_exit, b_none, b_ite, c_bool, o_some, o_none, o_ite, x_none, x_nil, x_cons, x_ite, p_some, p_none, p_ite, pt_some, pt_none, pv_some, pv_none, pv_ite, w_none, w_some, i_bool, i_undef, bt, bf, v_tmp, v_const, v_global, v_func, evs, f_normal, f_ret, f_none, f_ite, r_some, co_some, l_ptr, m_agg, m_one, sh_app, lk_nil, lk_cons, rd_eq, rdO_some, rdO_none, rdN_none, rdL_some, rdL_none, wrB_none, unitR_some, wrC_some, wrK_cells, consH_some, wr_nil, wr_here, wr_skip, wrH_cons, k_cells, tk_zero, tk_take, tk_skip, tkC_some, call_func, gt, st, stepOp, newB, ptrTo, binV, arith, isSh, storeV, all1, idxAV, fieldV, faddrV, iaddrSV, iaddrAV, pickV, convV, unV, eqbV, eqpV, extV, lenV, mm2, mmV, nilckV, ress, res1, retV, Value.cells, cond_true, cond_false, Bool.true_or, Bool.false_or, Bool.or_true, Bool.or_false, beq_self_eq_true, if_true, if_false, ite_true, ite_false, decide_true, decide_false, decide_eq_true_eq, reduceIte, Nat.zero_add, Nat.add_zero, and_self, true_and, and_true, List.size_toArray, List.length_cons, List.length_nil, List.append_nil, List.nil_append, Int.toNat_zero, Bool.not_false, Bool.not_true, Bool.not_not, Bool.false_eq_true, Bool.true_eq_false, reduceCtorEq, Int.reduceLT, Int.reduceLE, Int.reduceToNat, Int.reduceAdd, Int.reduceSub, Int.reduceMul, Int.reduceNeg, Nat.reduceMul, Nat.reduceAdd, Nat.reduceSub, Nat.reduceBEq, Nat.reduceEqDiff, Nat.reduceLT, Nat.reduceLeDiff, Int.reduceBEq, Int.reduceEq, Nat.reducePow, Int.reducePow, IntWalk.i64_in, IntKind.bits, eqAV, eqL, leafEq, andO, fillV, buildSV, List.getElem?_toArray, List.getElem?_cons_zero, List.getElem?_cons_succ, List.getElem?_nil, Int.reduceGT, Int.reduceGE, Int.reduceBNe, Bool.true_and, Bool.and_true, Bool.false_and, Bool.and_false, Bool.and_self, IntWalk.u64_in, Int.cast_ofNat_Int, callF1, pad16, pad_0, pad_1, pad_2, pad_3, pad_4, pad_5, pad_6, pad_7, pad_8, pad_9, pad_10, pad_11, pad_12, pad_13, pad_14, pad_15, gc0, gc1, gc2, gc3, gc4, gc5, gc6, gc7, gc8, gc9, gc10, gc11, gc12, gc13, gc14, gc15, gcS, sc0, sc1, sc2, sc3, sc4, sc5, sc6, sc7, sc8, sc9, sc10, sc11, sc12, sc13, sc14, sc15, scS, List.drop_succ_cons, List.drop_nil]
      with_reducible refine done2 ?_
      repeat (first | refine ext_new hN ?_ | exact ext_refl)
    · have n2 : a > 256 := by omega
      simp -implicitDefEqProofs (maxSteps := 10000000) (disch := omega) only [L14, G14_23, hB, hR, hI, f23 hG, h, n1, n2, pad, e_skip, e_ops, e_draw, d_none, d_nil, d_cons, d_ite, h_none, h_nil, h_cons, h_ite, eqS_same, lightV, e_seq, e_cond, e_block, e_loop, e_exit, e_ret, s_normal, s_ret, s_exit, s_none, s_ite, b_normal, b_ret, b_exit, b_none, b_ite, c_bool, o_some, o_none, o_ite, x_none, x_nil, x_cons, x_ite, p_some, p_none, p_ite, pt_some, pt_none, pv_some, pv_none, pv_ite, w_none, w_some, i_bool, i_undef, bt, bf, v_tmp, v_const, v_global, v_func, evs, f_normal, f_ret, f_none, f_ite, r_some, co_some, l_ptr, m_agg, m_one, sh_app, lk_nil, lk_cons, rd_eq, rdO_some, rdO_none, rdN_none, rdL_some, rdL_none, wrB_none, unitR_some, wrC_some, wrK_cells, consH_some, wr_nil, wr_here, wr_skip, wrH_cons, k_cells, tk_zero, tk_take, tk_skip, tkC_some, call_func, gt, st, stepOp, newB, ptrTo, binV, arith, isSh, storeV, all1, idxAV, fieldV, faddrV, iaddrSV, iaddrAV, pickV, convV, unV, eqbV, eqpV, extV, lenV, mm2, mmV, nilckV, ress, res1, retV, Value.cells, cond_true, cond_false, Bool.true_or, Bool.false_or, Bool.or_true, Bool.or_false, beq_self_eq_true, if_true, if_false, ite_true, ite_false, decide_true, decide_false, decide_eq_true_eq, reduceIte, Nat.zero_add, Nat.add_zero, and_self, true_and, and_true, List.size_toArray, List.length_cons, List.length_nil, List.append_nil, List.nil_append, Int.toNat_zero, Bool.not_false, Bool.not_true, Bool.not_not, Bool.false_eq_true, Bool.true_eq_false, reduceCtorEq, Int.reduceLT, Int.reduceLE, Int.reduceToNat, Int.reduceAdd, Int.reduceSub, Int.reduceMul, Int.reduceNeg, Nat.reduceMul, Nat.reduceAdd, Nat.reduceSub, Nat.reduceBEq, Nat.reduceEqDiff, Nat.reduceLT, Nat.reduceLeDiff, Int.reduceBEq, Int.reduceEq, Nat.reducePow, Int.reducePow, IntWalk.i64_in, IntKind.bits, eqAV, eqL, leafEq, andO, fillV, buildSV, List.getElem?_toArray, List.getElem?_cons_zero, List.getElem?_cons_succ, List.getElem?_nil, Int.reduceGT, Int.reduceGE, Int.reduceBNe, Bool.true_and, Bool.and_true, Bool.false_and, Bool.and_false, Bool.and_self, IntWalk.u64_in, Int.cast_ofNat_Int, callF1, pad16, pad_0, pad_1, pad_2, pad_3, pad_4, pad_5, pad_6, pad_7, pad_8, pad_9, pad_10, pad_11, pad_12, pad_13, pad_14, pad_15, gc0, gc1, gc2, gc3, gc4, gc5, gc6, gc7, gc8, gc9, gc10, gc11, gc12, gc13, gc14, gc15, gcS, sc0, sc1, sc2, sc3, sc4, sc5, sc6, sc7, sc8, sc9, sc10, sc11, sc12, sc13, sc14, sc15, scS, List.drop_succ_cons, List.drop_nil]
      with_reducible refine done2 ?_
      repeat (first | refine ext_new hN ?_ | exact ext_refl)
/-- whitewash/whitewashref06.Told -/
def L15 : FnL := ⟨(.seq (.ops [⟨(some 1), .box (.tmp 0), none⟩, ⟨(some 2), .alloc [(.int .i64 0), (.int .u64 0)], none⟩, ⟨(some 3), .mv (.const (.int .i64 0)), none⟩])
 (.seq (.seq (.ops [⟨(some 4), .iaddrA 1 2 (.tmp 1) (.const (.int .i64 0)), none⟩, ⟨(some 5), .load false 1 (.tmp 4), none⟩, ⟨(some 6), .bin .lss (.tmp 5) (.const (.int .u64 1)), none⟩, ⟨(some 7), .mv (.tmp 6), none⟩, ⟨(some 8), .iaddrA 1 2 (.tmp 1) (.const (.int .i64 0)), (some (7, false))⟩, ⟨(some 9), .load false 1 (.tmp 8), (some (7, false))⟩, ⟨(some 10), .bin .gtr (.tmp 9) (.const (.int .u64 256)), (some (7, false))⟩, ⟨(some 11), .pick (.tmp 7) (.const (.bool true)) (.tmp 10), none⟩])
 (.cond (.tmp 11) (.seq (.ops [⟨(some 12), .build [(.int .i64 0), (.int .u64 0)] [], none⟩, ⟨none, .store 2 (.tmp 2) (.tmp 12), none⟩, ⟨(some 3), .mv (.const (.int .i64 2)), none⟩])
 .ret)
 .skip))
 (.seq (.ops [⟨(some 13), .iaddrA 1 2 (.tmp 1) (.const (.int .i64 0)), none⟩, ⟨(some 14), .load false 1 (.tmp 13), none⟩, ⟨(some 15), .bin .sub (.tmp 14) (.const (.int .u64 1)), none⟩, ⟨(some 16), .conv .i64 (.tmp 15), none⟩, ⟨(some 17), .iaddrA 1 2 (.tmp 1) (.const (.int .i64 1)), none⟩, ⟨(some 18), .load false 1 (.tmp 17), none⟩, ⟨(some 19), .build [(.int .i64 0), (.int .u64 0)] [(0, 1, (.tmp 16)), (1, 1, (.tmp 18))], none⟩, ⟨none, .store 2 (.tmp 2) (.tmp 19), none⟩, ⟨(some 3), .mv (.const (.int .i64 0)), none⟩])
 .ret))),
 20, [.cell 2 true 2, .tmp 3]⟩
theorem low15 : lowerFn Try.prog Try.f15 = some L15 := by kernel_rfl
noncomputable def G15 (B : OH) : Nat → Cs
  | _ => fun _ _ _ => none
theorem sG15 {w0 : World} {B : OH} : SoundG Try.prog w0 B (G15 B) := fun k => by
  unfold G15
  split
  · exact .inl fun _ _ _ => rfl
noncomputable def F15 (B : OH) : List Value → Option Value := kval B (callF B (G15 B) 80 L15)
noncomputable def V15 (B : OH) : Cs := fun a H N => pv (F15 B a) H N
theorem en15 : Enter Try.prog 15 := .of Try.func15 (by kernel_rfl) (by kernel_rfl)
theorem sV15 {w0 : World} {B : OH} : SoundC Try.prog w0 B 15 (V15 B) := (callF_sound mixedOrders sG15 80 Try.func15 low15).ofVal
set_option maxHeartbeats 1000000 in
theorem f15 {B : OH} (hG : ∃ H N, good B H N) (a b : Int) (ha : 0 ≤ a ∧ a < 18446744073709551616) (hb : 0 ≤ b ∧ b < 18446744073709551616) : F15 B [.agg #[.int .u64 a, .int .u64 b]] = some (.tuple #[.agg #[.int .i64 (tolA a (a - 1)), .int .u64 (tolA a b)], .int .i64 (tolE a)]) := by
  refine kval_eq hG fun H N hN => ?_
  have hB := good_B hN
  have hR := good_rdB hN
  have hI := beqN hN.1
  by_cases h : 1 ≤ a ∧ a ≤ 256
  · rw [show tolA a (a - 1) = a - 1 from if_pos h, show tolA a b = b from if_pos h, show tolE a = 0 from if_pos h]
    have w1 : IntKind.u64.wrap (a - 1) = a - 1 := IntWalk.u64_in _ (by omega)
    have w2 : IntKind.i64.wrap (a - 1) = a - 1 := IntWalk.i64_in _ (by omega)
    have n1 : ¬ a < 1 := by omega
    have n2 : ¬ a > 256 := by omega
    simp -implicitDefEqProofs (maxSteps := 10000000) (disch := omega) only [L15, hB, hR, hI, h, w1, w2, n1, n2, pad, e_skip, e_ops, e_draw, d_none, d_nil, d_cons, d_ite, h_none, h_nil, h_cons, h_ite, eqS_same, lightV, e_seq, e_cond, e_block, e_loop, e_exit, e_ret, s_normal, s_ret, s_exit, s_none, s_ite, b_normal, b_ret, b_exit, b_none, b_ite, c_bool, o_some, o_none, o_ite, x_none, x_nil, x_cons, x_ite, p_some, p_none, p_ite, pt_some, pt_none, pv_some, pv_none, pv_ite, w_none, w_some, i_bool, i_undef, bt, bf, v_tmp, v_const, v_global, v_func, evs, f_normal, f_ret, f_none, f_ite, r_some, co_some, l_ptr, m_agg, m_one, sh_app, lk_nil, lk_cons, rd_eq, rdO_some, rdO_none, rdN_none, rdL_some, rdL_none, wrB_none, unitR_some, wrC_some, wrK_cells, consH_some, wr_nil, wr_here, wr_skip, wrH_cons, k_cells, tk_zero, tk_take, tk_skip, tkC_some, call_func, gt, st, stepOp, newB, ptrTo, binV, arith, isSh, storeV, all1, idxAV, fieldV, faddrV, iaddrSV, iaddrAV, pickV, convV, unV, eqbV, eqpV, extV, lenV, mm2, mmV, nilckV, ress, res1, retV, Value.cells, cond_true, cond_false, Bool.true_or, Bool.false_or, Bool.or_true, Bool.or_false, beq_self_eq_true, if_true, if_false, ite_true, ite_false, decide_true, decide_false, decide_eq_true_eq, reduceIte, Nat.zero_add, Nat.add_zero, and_self, true_and, and_true, List.size_toArray, List.length_cons, List.length_nil, List.append_nil, List.nil_append, Int.toNat_zero, Bool.not_false, Bool.not_true, Bool.not_not, Bool.false_eq_true, Bool.true_eq_false, reduceCtorEq, Int.reduceLT, Int.reduceLE, Int.reduceToNat, Int.reduceAdd, Int.reduceSub, Int.reduceMul, Int.reduceNeg, Nat.reduceMul, Nat.reduceAdd, Nat.reduceSub, Nat.reduceBEq, Nat.reduceEqDiff, Nat.reduceLT, Nat.reduceLeDiff, Int.reduceBEq, Int.reduceEq, Nat.reducePow, Int.reducePow, IntWalk.i64_in, IntKind.bits, eqAV, eqL, leafEq, andO, fillV, buildSV, List.getElem?_toArray, List.getElem?_cons_zero, List.getElem?_cons_succ, List.getElem?_nil, Int.reduceGT, Int.reduceGE, Int.reduceBNe, Bool.true_and, Bool.and_true, Bool.false_and, Bool.and_false, Bool.and_self, IntWalk.u64_in, Int.cast_ofNat_Int, callF1, pad16, pad_0, pad_1, pad_2, pad_3, pad_4, pad_5, pad_6, pad_7, pad_8, pad_9, pad_10, pad_11, pad_12, pad_13, pad_14, pad_15, gc0, gc1, gc2, gc3, gc4, gc5, gc6, gc7, gc8, gc9, gc10, gc11, gc12, gc13, gc14, gc15, gcS, sc0, sc1, sc2, sc3, sc4, sc5, sc6, sc7, sc8, sc9, sc10, sc11, sc12, sc13, sc14, sc15, scS, List.drop_succ_cons, List.drop_nil]
    with_reducible refine done2 ?_
    repeat (first | refine ext_new hN ?_ | exact ext_refl)
  · rw [show tolA a (a - 1) = 0 from if_neg h, show tolA a b = 0 from if_neg h, show tolE a = 2 from if_neg h]
    by_cases n1 : a < 1
    · simp -implicitDefEqProofs (maxSteps := 10000000) (disch := omega) only [L15, hB, hR, hI, h, n1, pad, e_skip, e_ops, e_draw, d_none, d_nil, d_cons, d_ite, h_none, h_nil, h_cons, h_ite, eqS_same, lightV, e_seq, e_cond, e_block, e_loop, e_exit, e_ret, s_normal, s_ret, s_exit, s_none, s_ite, b_normal, b_ret, b_exit, b_none, b_ite, c_bool, o_some, o_none, o_ite, x_none, x_nil, x_cons, x_ite, p_some, p_none, p_ite, pt_some, pt_none, pv_some, pv_none, pv_ite, w_none, w_some, i_bool, i_undef, bt, bf, v_tmp, v_const, v_global, v_func, evs, f_normal, f_ret, f_none, f_ite, r_some, co_some, l_ptr, m_agg, m_one, sh_app, lk_nil, lk_cons, rd_eq, rdO_some, rdO_none, rdN_none, rdL_some, rdL_none, wrB_none, unitR_some, wrC_some, wrK_cells, consH_some, wr_nil, wr_here, wr_skip, wrH_cons, k_cells, tk_zero, tk_take, tk_skip, tkC_some, call_func, gt, st, stepOp, newB, ptrTo, binV, arith, isSh, storeV, all1, idxAV, fieldV, faddrV, iaddrSV, iaddrAV, pickV, convV, unV, eqbV, eqpV, extV, lenV, mm2, mmV, nilckV, ress, res1, retV, Value.cells, cond_true, cond_false, Bool.true_or, Bool.false_or, Bool.or_true, Bool.or_false, beq_self_eq_true, if_true, if_false, ite_true, ite_false, decide_true, decide_false, decide_eq_true_eq, reduceIte, Nat.zero_add, Nat.add_zero, and_self, true_and, and_true, List.size_toArray, List.length_cons, List.length_nil, List.append_nil, List.nil_append, Int.toNat_zero, Bool.not_false, Bool.not_true, Bool.not_not, Bool.false_eq_true, Bool.true_eq_false, reduceCtorEq, Int.reduceLT, Int.reduceLE, Int.reduceToNat, Int.reduceAdd, Int.reduceSub, Int.reduceMul, Int.reduceNeg, Nat.reduceMul, Nat.reduceAdd, Nat.reduceSub, Nat.reduceBEq, Nat.reduceEqDiff, Nat.reduceLT, Nat.reduceLeDiff, Int.reduceBEq, Int.reduceEq, Nat.reducePow, Int.reducePow, IntWalk.i64_in, IntKind.bits, eqAV, eqL, leafEq, andO, fillV, buildSV, List.getElem?_toArray, List.getElem?_cons_zero, List.getElem?_cons_succ, List.getElem?_nil, Int.reduceGT, Int.reduceGE, Int.reduceBNe, Bool.true_and, Bool.and_true, Bool.false_and, Bool.and_false, Bool.and_self, IntWalk.u64_in, Int.cast_ofNat_Int, callF1, pad16, pad_0, pad_1, pad_2, pad_3, pad_4, pad_5, pad_6, pad_7, pad_8, pad_9, pad_10, pad_11, pad_12, pad_13, pad_14, pad_15, gc0, gc1, gc2, gc3, gc4, gc5, gc6, gc7, gc8, gc9, gc10, gc11, gc12, gc13, gc14, gc15, gcS, sc0, sc1, sc2, sc3, sc4, sc5, sc6, sc7, sc8, sc9, sc10, sc11, sc12, sc13, sc14, sc15, scS, List.drop_succ_cons, List.drop_nil]
      with_reducible refine done2 ?_
      repeat (first | refine ext_new hN ?_ | exact ext_refl)
    · have n2 : a > 256 := by omega
      simp -implicitDefEqProofs (maxSteps := 10000000) (disch := omega) only [L15, hB, hR, hI, h, n1, n2, pad, e_skip, e_ops, e_draw, d_none, d_nil, d_cons, d_ite, h_none, h_nil, h_cons, h_ite, eqS_same, lightV, e_seq, e_cond, e_block, e_loop, e_exit, e_ret, s_normal, s_ret, s_exit, s_none, s_ite, b_normal, b_ret, b_exit, b_none, b_ite, c_bool, o_some, o_none, o_ite, x_none, x_nil, x_cons, x_ite, p_some, p_none, p_ite, pt_some, pt_none, pv_some, pv_none, pv_ite, w_none, w_some, i_bool, i_undef, bt, bf, v_tmp, v_const, v_global, v_func, evs, f_normal, f_ret, f_none, f_ite, r_some, co_some, l_ptr, m_agg, m_one, sh_app, lk_nil, lk_cons, rd_eq, rdO_some, rdO_none, rdN_none, rdL_some, rdL_none, wrB_none, unitR_some, wrC_some, wrK_cells, consH_some, wr_nil, wr_here, wr_skip, wrH_cons, k_cells, tk_zero, tk_take, tk_skip, tkC_some, call_func, gt, st, stepOp, newB, ptrTo, binV, arith, isSh, storeV, all1, idxAV, fieldV, faddrV, iaddrSV, iaddrAV, pickV, convV, unV, eqbV, eqpV, extV, lenV, mm2, mmV, nilckV, ress, res1, retV, Value.cells, cond_true, cond_false, Bool.true_or, Bool.false_or, Bool.or_true, Bool.or_false, beq_self_eq_true, if_true, if_false, ite_true, ite_false, decide_true, decide_false, decide_eq_true_eq, reduceIte, Nat.zero_add, Nat.add_zero, and_self, true_and, and_true, List.size_toArray, List.length_cons, List.length_nil, List.append_nil, List.nil_append, Int.toNat_zero, Bool.not_false, Bool.not_true, Bool.not_not, Bool.false_eq_true, Bool.true_eq_false, reduceCtorEq, Int.reduceLT, Int.reduceLE, Int.reduceToNat, Int.reduceAdd, Int.reduceSub, Int.reduceMul, Int.reduceNeg, Nat.reduceMul, Nat.reduceAdd, Nat.reduceSub, Nat.reduceBEq, Nat.reduceEqDiff, Nat.reduceLT, Nat.reduceLeDiff, Int.reduceBEq, Int.reduceEq, Nat.reducePow, Int.reducePow, IntWalk.i64_in, IntKind.bits, eqAV, eqL, leafEq, andO, fillV, buildSV, List.getElem?_toArray, List.getElem?_cons_zero, List.getElem?_cons_succ, List.getElem?_nil, Int.reduceGT, Int.reduceGE, Int.reduceBNe, Bool.true_and, Bool.and_true, Bool.false_and, Bool.and_false, Bool.and_self, IntWalk.u64_in, Int.cast_ofNat_Int, callF1, pad16, pad_0, pad_1, pad_2, pad_3, pad_4, pad_5, pad_6, pad_7, pad_8, pad_9, pad_10, pad_11, pad_12, pad_13, pad_14, pad_15, gc0, gc1, gc2, gc3, gc4, gc5, gc6, gc7, gc8, gc9, gc10, gc11, gc12, gc13, gc14, gc15, gcS, sc0, sc1, sc2, sc3, sc4, sc5, sc6, sc7, sc8, sc9, sc10, sc11, sc12, sc13, sc14, sc15, scS, List.drop_succ_cons, List.drop_nil]
      with_reducible refine done2 ?_
      repeat (first | refine ext_new hN ?_ | exact ext_refl)
/-- whitewash/rec.Phase -/
def L16 : FnL := ⟨(.seq (.ops [⟨(some 2), .mv (.const (.int .i64 0)), none⟩, ⟨(some 3), .mv (.const (.int .i64 0)), none⟩, ⟨(some 4), .mv (.const (.int .i64 0)), none⟩])
 (.seq (.block 0 (.seq (.ops [⟨(some 6), .mv (.tmp 0), none⟩, ⟨(some 7), .bin .gtr (.tmp 6) (.const (.int .u64 32)), none⟩, ⟨(some 5), .mv (.tmp 7), none⟩])
 (.cond (.tmp 5) (.seq (.ops [⟨(some 2), .mv (.const (.int .i64 0)), none⟩, ⟨(some 3), .mv (.const (.int .i64 0)), none⟩, ⟨(some 4), .mv (.const (.int .i64 2)), none⟩])
 .ret)
 (.seq (.ops [⟨(some 9), .mv (.tmp 0), none⟩, ⟨(some 10), .bin .eql (.tmp 9) (.const (.int .u64 0)), none⟩, ⟨(some 8), .mv (.tmp 10), none⟩])
 (.cond (.tmp 8) (.seq (.ops [⟨(some 2), .mv (.const (.int .i64 0)), none⟩, ⟨(some 3), .mv (.const (.int .i64 0)), none⟩, ⟨(some 4), .mv (.const (.int .i64 0)), none⟩])
 .ret)
 .skip)))))
 (.seq (.ops [⟨(some 11), .mv (.tmp 0), none⟩, ⟨(some 12), .bin .sub (.tmp 11) (.const (.int .u64 1)), none⟩, ⟨(some 0), .mv (.tmp 12), none⟩])
 (.seq (.ops [⟨(some 13), .mv (.tmp 0), none⟩, ⟨(some 14), .bin .and (.tmp 13) (.const (.int .u64 1)), none⟩, ⟨(some 15), .conv .i64 (.tmp 14), none⟩, ⟨(some 16), .bin .add (.const (.int .i64 1)) (.tmp 15), none⟩, ⟨(some 17), .mv (.tmp 0), none⟩, ⟨(some 18), .bin .shr (.tmp 17) (.const (.int .u64 1)), none⟩, ⟨(some 19), .conv .i64 (.tmp 18), none⟩, ⟨(some 2), .mv (.tmp 16), none⟩, ⟨(some 3), .mv (.tmp 19), none⟩, ⟨(some 4), .mv (.const (.int .i64 0)), none⟩])
 .ret)))),
 20, [.tmp 2, .tmp 3, .tmp 4]⟩
theorem low16 : lowerFn Try.prog Try.f16 = some L16 := by kernel_rfl
noncomputable def G16 (B : OH) : Nat → Cs
  | _ => fun _ _ _ => none
theorem sG16 {w0 : World} {B : OH} : SoundG Try.prog w0 B (G16 B) := fun k => by
  unfold G16
  split
  · exact .inl fun _ _ _ => rfl
noncomputable def F16 (B : OH) : List Value → Option Value := kval B (callF B (G16 B) 80 L16)
noncomputable def V16 (B : OH) : Cs := fun a H N => pv (F16 B a) H N
theorem en16 : Enter Try.prog 16 := .of Try.func16 (by kernel_rfl) (by kernel_rfl)
theorem sV16 {w0 : World} {B : OH} : SoundC Try.prog w0 B 16 (V16 B) := (callF_sound mixedOrders sG16 80 Try.func16 low16).ofVal
set_option maxHeartbeats 1000000 in
theorem f16 {B : OH} (hG : ∃ H N, good B H N) (w : Int) (hw : 0 ≤ w ∧ w < 18446744073709551616) : F16 B [.int .u64 w] = some (.tuple #[.int .i64 (phS w), .int .i64 (phP w), .int .i64 (phE w)]) := by
  refine kval_eq hG fun H N hN => ?_
  have hB := good_B hN
  have hR := good_rdB hN
  have hI := beqN hN.1
  unfold phS phP phE
  by_cases h : w > 32
  · rw [if_pos h, if_pos h, if_pos h]
    simp -implicitDefEqProofs (maxSteps := 10000000) (disch := omega) only [L16, hB, hR, hI, h, pad, e_skip, e_ops, e_draw, d_none, d_nil, d_cons, d_ite, h_none, h_nil, h_cons, h_ite, eqS_same, lightV, e_seq, e_cond, e_block, e_loop, e_exit, e_ret, s_normal, s_ret, s_exit, s_none, s_ite, b_normal, b_ret, b_exit, b_none, b_ite, c_bool, o_some, o_none, o_ite, x_none, x_nil, x_cons, x_ite, p_some, p_none, p_ite, pt_some, pt_none, pv_some, pv_none, pv_ite, w_none, w_some, i_bool, i_undef, bt, bf, v_tmp, v_const, v_global, v_func, evs, f_normal, f_ret, f_none, f_ite, r_some, co_some, l_ptr, m_agg, m_one, sh_app, lk_nil, lk_cons, rd_eq, rdO_some, rdO_none, rdN_none, rdL_some, rdL_none, wrB_none, unitR_some, wrC_some, wrK_cells, consH_some, wr_nil, wr_here, wr_skip, wrH_cons, k_cells, tk_zero, tk_take, tk_skip, tkC_some, call_func, gt, st, stepOp, newB, ptrTo, binV, arith, isSh, storeV, all1, idxAV, fieldV, faddrV, iaddrSV, iaddrAV, pickV, convV, unV, eqbV, eqpV, extV, lenV, mm2, mmV, nilckV, ress, res1, retV, Value.cells, cond_true, cond_false, Bool.true_or, Bool.false_or, Bool.or_true, Bool.or_false, beq_self_eq_true, if_true, if_false, ite_true, ite_false, decide_true, decide_false, decide_eq_true_eq, reduceIte, Nat.zero_add, Nat.add_zero, and_self, true_and, and_true, List.size_toArray, List.length_cons, List.length_nil, List.append_nil, List.nil_append, Int.toNat_zero, Bool.not_false, Bool.not_true, Bool.not_not, Bool.false_eq_true, Bool.true_eq_false, reduceCtorEq, Int.reduceLT, Int.reduceLE, Int.reduceToNat, Int.reduceAdd, Int.reduceSub, Int.reduceMul, Int.reduceNeg, Nat.reduceMul, Nat.reduceAdd, Nat.reduceSub, Nat.reduceBEq, Nat.reduceEqDiff, Nat.reduceLT, Nat.reduceLeDiff, Int.reduceBEq, Int.reduceEq, Nat.reducePow, Int.reducePow, IntWalk.i64_in, IntKind.bits, eqAV, eqL, leafEq, andO, fillV, buildSV, List.getElem?_toArray, List.getElem?_cons_zero, List.getElem?_cons_succ, List.getElem?_nil, Int.reduceGT, Int.reduceGE, Int.reduceBNe, Bool.true_and, Bool.and_true, Bool.false_and, Bool.and_false, Bool.and_self, IntWalk.u64_in, Int.cast_ofNat_Int, callF1, pad16, pad_0, pad_1, pad_2, pad_3, pad_4, pad_5, pad_6, pad_7, pad_8, pad_9, pad_10, pad_11, pad_12, pad_13, pad_14, pad_15, gc0, gc1, gc2, gc3, gc4, gc5, gc6, gc7, gc8, gc9, gc10, gc11, gc12, gc13, gc14, gc15, gcS, sc0, sc1, sc2, sc3, sc4, sc5, sc6, sc7, sc8, sc9, sc10, sc11, sc12, sc13, sc14, sc15, scS, List.drop_succ_cons, List.drop_nil]
    with_reducible refine done2 ?_
    repeat (first | refine ext_new hN ?_ | exact ext_refl)
  · rw [if_neg h, if_neg h, if_neg h]
    by_cases h0 : w = 0
    · rw [if_pos h0, if_pos h0]
      subst h0
      simp -implicitDefEqProofs (maxSteps := 10000000) (disch := omega) only [L16, hB, hR, hI, h, pad, e_skip, e_ops, e_draw, d_none, d_nil, d_cons, d_ite, h_none, h_nil, h_cons, h_ite, eqS_same, lightV, e_seq, e_cond, e_block, e_loop, e_exit, e_ret, s_normal, s_ret, s_exit, s_none, s_ite, b_normal, b_ret, b_exit, b_none, b_ite, c_bool, o_some, o_none, o_ite, x_none, x_nil, x_cons, x_ite, p_some, p_none, p_ite, pt_some, pt_none, pv_some, pv_none, pv_ite, w_none, w_some, i_bool, i_undef, bt, bf, v_tmp, v_const, v_global, v_func, evs, f_normal, f_ret, f_none, f_ite, r_some, co_some, l_ptr, m_agg, m_one, sh_app, lk_nil, lk_cons, rd_eq, rdO_some, rdO_none, rdN_none, rdL_some, rdL_none, wrB_none, unitR_some, wrC_some, wrK_cells, consH_some, wr_nil, wr_here, wr_skip, wrH_cons, k_cells, tk_zero, tk_take, tk_skip, tkC_some, call_func, gt, st, stepOp, newB, ptrTo, binV, arith, isSh, storeV, all1, idxAV, fieldV, faddrV, iaddrSV, iaddrAV, pickV, convV, unV, eqbV, eqpV, extV, lenV, mm2, mmV, nilckV, ress, res1, retV, Value.cells, cond_true, cond_false, Bool.true_or, Bool.false_or, Bool.or_true, Bool.or_false, beq_self_eq_true, if_true, if_false, ite_true, ite_false, decide_true, decide_false, decide_eq_true_eq, reduceIte, Nat.zero_add, Nat.add_zero, and_self, true_and, and_true, List.size_toArray, List.length_cons, List.length_nil, List.append_nil, List.nil_append, Int.toNat_zero, Bool.not_false, Bool.not_true, Bool.not_not, Bool.false_eq_true, Bool.true_eq_false, reduceCtorEq, Int.reduceLT, Int.reduceLE, Int.reduceToNat, Int.reduceAdd, Int.reduceSub, Int.reduceMul, Int.reduceNeg, Nat.reduceMul, Nat.reduceAdd, Nat.reduceSub, Nat.reduceBEq, Nat.reduceEqDiff, Nat.reduceLT, Nat.reduceLeDiff, Int.reduceBEq, Int.reduceEq, Nat.reducePow, Int.reducePow, IntWalk.i64_in, IntKind.bits, eqAV, eqL, leafEq, andO, fillV, buildSV, List.getElem?_toArray, List.getElem?_cons_zero, List.getElem?_cons_succ, List.getElem?_nil, Int.reduceGT, Int.reduceGE, Int.reduceBNe, Bool.true_and, Bool.and_true, Bool.false_and, Bool.and_false, Bool.and_self, IntWalk.u64_in, Int.cast_ofNat_Int, callF1, pad16, pad_0, pad_1, pad_2, pad_3, pad_4, pad_5, pad_6, pad_7, pad_8, pad_9, pad_10, pad_11, pad_12, pad_13, pad_14, pad_15, gc0, gc1, gc2, gc3, gc4, gc5, gc6, gc7, gc8, gc9, gc10, gc11, gc12, gc13, gc14, gc15, gcS, sc0, sc1, sc2, sc3, sc4, sc5, sc6, sc7, sc8, sc9, sc10, sc11, sc12, sc13, sc14, sc15, scS, List.drop_succ_cons, List.drop_nil]
      with_reducible refine done2 ?_
      repeat (first | refine ext_new hN ?_ | exact ext_refl)
    · rw [if_neg h0, if_neg h0]
      have e0 : (w == 0) = false := by simpa using h0
      have w1 : IntKind.u64.wrap (w - 1) = w - 1 := IntWalk.u64_in _ (by omega)
      have a1 := and_one' (w - 1) (by omega) (by omega)
      simp -implicitDefEqProofs only [IntKind.bits] at a1
      have w2 : IntKind.i64.wrap ((w - 1) % 2) = (w - 1) % 2 := IntWalk.i64_in _ (by omega)
      have w3 : IntKind.i64.wrap (1 + (w - 1) % 2) = 1 + (w - 1) % 2 := IntWalk.i64_in _ (by omega)
      have w4 : IntKind.i64.wrap ((w - 1) / 2) = (w - 1) / 2 := IntWalk.i64_in _ (by omega)
      simp -implicitDefEqProofs (maxSteps := 10000000) (disch := omega) only [L16, hB, hR, hI, h, e0, w1, a1, w2, w3, w4, fdiv_two, min_1, pad, e_skip, e_ops, e_draw, d_none, d_nil, d_cons, d_ite, h_none, h_nil, h_cons, h_ite, eqS_same, lightV, e_seq, e_cond, e_block, e_loop, e_exit, e_ret, s_normal, s_ret, s_exit, s_none, s_ite, b_normal, b_ret, b_exit, b_none, b_ite, c_bool, o_some, o_none, o_ite, x_none, x_nil, x_cons, x_ite, p_some, p_none, p_ite, pt_some, pt_none, pv_some, pv_none, pv_ite, w_none, w_some, i_bool, i_undef, bt, bf, v_tmp, v_const, v_global, v_func, evs, f_normal, f_ret, f_none, f_ite, r_some, co_some, l_ptr, m_agg, m_one, sh_app, lk_nil, lk_cons, rd_eq, rdO_some, rdO_none, rdN_none, rdL_some, rdL_none, wrB_none, unitR_some, wrC_some, wrK_cells, consH_some, wr_nil, wr_here, wr_skip, wrH_cons, k_cells, tk_zero, tk_take, tk_skip, tkC_some, call_func, gt, st, stepOp, newB, ptrTo, binV, arith, isSh, storeV, all1, idxAV, fieldV, faddrV, iaddrSV, iaddrAV, pickV, convV, unV, eqbV, eqpV, extV, lenV, mm2, mmV, nilckV, ress, res1, retV, Value.cells, cond_true, cond_false, Bool.true_or, Bool.false_or, Bool.or_true, Bool.or_false, beq_self_eq_true, if_true, if_false, ite_true, ite_false, decide_true, decide_false, decide_eq_true_eq, reduceIte, Nat.zero_add, Nat.add_zero, and_self, true_and, and_true, List.size_toArray, List.length_cons, List.length_nil, List.append_nil, List.nil_append, Int.toNat_zero, Bool.not_false, Bool.not_true, Bool.not_not, Bool.false_eq_true, Bool.true_eq_false, reduceCtorEq, Int.reduceLT, Int.reduceLE, Int.reduceToNat, Int.reduceAdd, Int.reduceSub, Int.reduceMul, Int.reduceNeg, Nat.reduceMul, Nat.reduceAdd, Nat.reduceSub, Nat.reduceBEq, Nat.reduceEqDiff, Nat.reduceLT, Nat.reduceLeDiff, Int.reduceBEq, Int.reduceEq, Nat.reducePow, Int.reducePow, IntWalk.i64_in, IntKind.bits, eqAV, eqL, leafEq, andO, fillV, buildSV, List.getElem?_toArray, List.getElem?_cons_zero, List.getElem?_cons_succ, List.getElem?_nil, Int.reduceGT, Int.reduceGE, Int.reduceBNe, Bool.true_and, Bool.and_true, Bool.false_and, Bool.and_false, Bool.and_self, IntWalk.u64_in, Int.cast_ofNat_Int, callF1, pad16, pad_0, pad_1, pad_2, pad_3, pad_4, pad_5, pad_6, pad_7, pad_8, pad_9, pad_10, pad_11, pad_12, pad_13, pad_14, pad_15, gc0, gc1, gc2, gc3, gc4, gc5, gc6, gc7, gc8, gc9, gc10, gc11, gc12, gc13, gc14, gc15, gcS, sc0, sc1, sc2, sc3, sc4, sc5, sc6, sc7, sc8, sc9, sc10, sc11, sc12, sc13, sc14, sc15, scS, List.drop_succ_cons, List.drop_nil]
      with_reducible refine done2 ?_
      repeat (first | refine ext_new hN ?_ | exact ext_refl)
/-- whitewash/whitewashref06.Phase -/
def L17 : FnL := ⟨(.seq (.ops [⟨(some 2), .mv (.const (.int .i64 0)), none⟩, ⟨(some 3), .mv (.const (.int .i64 0)), none⟩, ⟨(some 4), .mv (.const (.int .i64 0)), none⟩])
 (.seq (.block 0 (.seq (.ops [⟨(some 6), .mv (.tmp 0), none⟩, ⟨(some 7), .bin .gtr (.tmp 6) (.const (.int .u64 32)), none⟩, ⟨(some 5), .mv (.tmp 7), none⟩])
 (.cond (.tmp 5) (.seq (.ops [⟨(some 2), .mv (.const (.int .i64 0)), none⟩, ⟨(some 3), .mv (.const (.int .i64 0)), none⟩, ⟨(some 4), .mv (.const (.int .i64 2)), none⟩])
 .ret)
 (.seq (.ops [⟨(some 9), .mv (.tmp 0), none⟩, ⟨(some 10), .bin .eql (.tmp 9) (.const (.int .u64 0)), none⟩, ⟨(some 8), .mv (.tmp 10), none⟩])
 (.cond (.tmp 8) (.seq (.ops [⟨(some 2), .mv (.const (.int .i64 0)), none⟩, ⟨(some 3), .mv (.const (.int .i64 0)), none⟩, ⟨(some 4), .mv (.const (.int .i64 0)), none⟩])
 .ret)
 (.seq (.ops [⟨(some 12), .mv (.tmp 0), none⟩, ⟨(some 13), .bin .rem (.tmp 12) (.const (.int .u64 2)), none⟩, ⟨(some 14), .bin .eql (.tmp 13) (.const (.int .u64 1)), none⟩, ⟨(some 11), .mv (.tmp 14), none⟩])
 (.cond (.tmp 11) (.seq (.ops [⟨(some 15), .mv (.tmp 0), none⟩, ⟨(some 16), .bin .quo (.tmp 15) (.const (.int .u64 2)), none⟩, ⟨(some 17), .conv .i64 (.tmp 16), none⟩, ⟨(some 2), .mv (.const (.int .i64 1)), none⟩, ⟨(some 3), .mv (.tmp 17), none⟩, ⟨(some 4), .mv (.const (.int .i64 0)), none⟩])
 .ret)
 .skip)))))))
 (.seq (.ops [⟨(some 18), .mv (.tmp 0), none⟩, ⟨(some 19), .bin .quo (.tmp 18) (.const (.int .u64 2)), none⟩, ⟨(some 20), .conv .i64 (.tmp 19), none⟩, ⟨(some 21), .bin .sub (.tmp 20) (.const (.int .i64 1)), none⟩, ⟨(some 2), .mv (.const (.int .i64 2)), none⟩, ⟨(some 3), .mv (.tmp 21), none⟩, ⟨(some 4), .mv (.const (.int .i64 0)), none⟩])
 .ret))),
 22, [.tmp 2, .tmp 3, .tmp 4]⟩
theorem low17 : lowerFn Try.prog Try.f17 = some L17 := by kernel_rfl
noncomputable def G17 (B : OH) : Nat → Cs
  | _ => fun _ _ _ => none
theorem sG17 {w0 : World} {B : OH} : SoundG Try.prog w0 B (G17 B) := fun k => by
  unfold G17
  split
  · exact .inl fun _ _ _ => rfl
noncomputable def F17 (B : OH) : List Value → Option Value := kval B (callF B (G17 B) 80 L17)
noncomputable def V17 (B : OH) : Cs := fun a H N => pv (F17 B a) H N
theorem en17 : Enter Try.prog 17 := .of Try.func17 (by kernel_rfl) (by kernel_rfl)
theorem sV17 {w0 : World} {B : OH} : SoundC Try.prog w0 B 17 (V17 B) := (callF_sound mixedOrders sG17 80 Try.func17 low17).ofVal
set_option maxHeartbeats 1000000 in
theorem f17 {B : OH} (hG : ∃ H N, good B H N) (w : Int) (hw : 0 ≤ w ∧ w < 18446744073709551616) : F17 B [.int .u64 w] = some (.tuple #[.int .i64 (phS w), .int .i64 (phP w), .int .i64 (phE w)]) := by
  refine kval_eq hG fun H N hN => ?_
  have hB := good_B hN
  have hR := good_rdB hN
  have hI := beqN hN.1
  unfold phS phP phE
  by_cases h : w > 32
  · rw [if_pos h, if_pos h, if_pos h]
    simp -implicitDefEqProofs (maxSteps := 10000000) (disch := omega) only [L17, hB, hR, hI, h, pad, e_skip, e_ops, e_draw, d_none, d_nil, d_cons, d_ite, h_none, h_nil, h_cons, h_ite, eqS_same, lightV, e_seq, e_cond, e_block, e_loop, e_exit, e_ret, s_normal, s_ret, s_exit, s_none, s_ite, b_normal, b_ret, b_exit, b_none, b_ite, c_bool, o_some, o_none, o_ite, x_none, x_nil, x_cons, x_ite, p_some, p_none, p_ite, pt_some, pt_none, pv_some, pv_none, pv_ite, w_none, w_some, i_bool, i_undef, bt, bf, v_tmp, v_const, v_global, v_func, evs, f_normal, f_ret, f_none, f_ite, r_some, co_some, l_ptr, m_agg, m_one, sh_app, lk_nil, lk_cons, rd_eq, rdO_some, rdO_none, rdN_none, rdL_some, rdL_none, wrB_none, unitR_some, wrC_some, wrK_cells, consH_some, wr_nil, wr_here, wr_skip, wrH_cons, k_cells, tk_zero, tk_take, tk_skip, tkC_some, call_func, gt, st, stepOp, newB, ptrTo, binV, arith, isSh, storeV, all1, idxAV, fieldV, faddrV, iaddrSV, iaddrAV, pickV, convV, unV, eqbV, eqpV, extV, lenV, mm2, mmV, nilckV, ress, res1, retV, Value.cells, cond_true, cond_false, Bool.true_or, Bool.false_or, Bool.or_true, Bool.or_false, beq_self_eq_true, if_true, if_false, ite_true, ite_false, decide_true, decide_false, decide_eq_true_eq, reduceIte, Nat.zero_add, Nat.add_zero, and_self, true_and, and_true, List.size_toArray, List.length_cons, List.length_nil, List.append_nil, List.nil_append, Int.toNat_zero, Bool.not_false, Bool.not_true, Bool.not_not, Bool.false_eq_true, Bool.true_eq_false, reduceCtorEq, Int.reduceLT, Int.reduceLE, Int.reduceToNat, Int.reduceAdd, Int.reduceSub, Int.reduceMul, Int.reduceNeg, Nat.reduceMul, Nat.reduceAdd, Nat.reduceSub, Nat.reduceBEq, Nat.reduceEqDiff, Nat.reduceLT, Nat.reduceLeDiff, Int.reduceBEq, Int.reduceEq, Nat.reducePow, Int.reducePow, IntWalk.i64_in, IntKind.bits, eqAV, eqL, leafEq, andO, fillV, buildSV, List.getElem?_toArray, List.getElem?_cons_zero, List.getElem?_cons_succ, List.getElem?_nil, Int.reduceGT, Int.reduceGE, Int.reduceBNe, Bool.true_and, Bool.and_true, Bool.false_and, Bool.and_false, Bool.and_self, IntWalk.u64_in, Int.cast_ofNat_Int, callF1, pad16, pad_0, pad_1, pad_2, pad_3, pad_4, pad_5, pad_6, pad_7, pad_8, pad_9, pad_10, pad_11, pad_12, pad_13, pad_14, pad_15, gc0, gc1, gc2, gc3, gc4, gc5, gc6, gc7, gc8, gc9, gc10, gc11, gc12, gc13, gc14, gc15, gcS, sc0, sc1, sc2, sc3, sc4, sc5, sc6, sc7, sc8, sc9, sc10, sc11, sc12, sc13, sc14, sc15, scS, List.drop_succ_cons, List.drop_nil]
    with_reducible refine done2 ?_
    repeat (first | refine ext_new hN ?_ | exact ext_refl)
  · rw [if_neg h, if_neg h, if_neg h]
    by_cases h0 : w = 0
    · rw [if_pos h0, if_pos h0]
      subst h0
      simp -implicitDefEqProofs (maxSteps := 10000000) (disch := omega) only [L17, hB, hR, hI, h, pad, e_skip, e_ops, e_draw, d_none, d_nil, d_cons, d_ite, h_none, h_nil, h_cons, h_ite, eqS_same, lightV, e_seq, e_cond, e_block, e_loop, e_exit, e_ret, s_normal, s_ret, s_exit, s_none, s_ite, b_normal, b_ret, b_exit, b_none, b_ite, c_bool, o_some, o_none, o_ite, x_none, x_nil, x_cons, x_ite, p_some, p_none, p_ite, pt_some, pt_none, pv_some, pv_none, pv_ite, w_none, w_some, i_bool, i_undef, bt, bf, v_tmp, v_const, v_global, v_func, evs, f_normal, f_ret, f_none, f_ite, r_some, co_some, l_ptr, m_agg, m_one, sh_app, lk_nil, lk_cons, rd_eq, rdO_some, rdO_none, rdN_none, rdL_some, rdL_none, wrB_none, unitR_some, wrC_some, wrK_cells, consH_some, wr_nil, wr_here, wr_skip, wrH_cons, k_cells, tk_zero, tk_take, tk_skip, tkC_some, call_func, gt, st, stepOp, newB, ptrTo, binV, arith, isSh, storeV, all1, idxAV, fieldV, faddrV, iaddrSV, iaddrAV, pickV, convV, unV, eqbV, eqpV, extV, lenV, mm2, mmV, nilckV, ress, res1, retV, Value.cells, cond_true, cond_false, Bool.true_or, Bool.false_or, Bool.or_true, Bool.or_false, beq_self_eq_true, if_true, if_false, ite_true, ite_false, decide_true, decide_false, decide_eq_true_eq, reduceIte, Nat.zero_add, Nat.add_zero, and_self, true_and, and_true, List.size_toArray, List.length_cons, List.length_nil, List.append_nil, List.nil_append, Int.toNat_zero, Bool.not_false, Bool.not_true, Bool.not_not, Bool.false_eq_true, Bool.true_eq_false, reduceCtorEq, Int.reduceLT, Int.reduceLE, Int.reduceToNat, Int.reduceAdd, Int.reduceSub, Int.reduceMul, Int.reduceNeg, Nat.reduceMul, Nat.reduceAdd, Nat.reduceSub, Nat.reduceBEq, Nat.reduceEqDiff, Nat.reduceLT, Nat.reduceLeDiff, Int.reduceBEq, Int.reduceEq, Nat.reducePow, Int.reducePow, IntWalk.i64_in, IntKind.bits, eqAV, eqL, leafEq, andO, fillV, buildSV, List.getElem?_toArray, List.getElem?_cons_zero, List.getElem?_cons_succ, List.getElem?_nil, Int.reduceGT, Int.reduceGE, Int.reduceBNe, Bool.true_and, Bool.and_true, Bool.false_and, Bool.and_false, Bool.and_self, IntWalk.u64_in, Int.cast_ofNat_Int, callF1, pad16, pad_0, pad_1, pad_2, pad_3, pad_4, pad_5, pad_6, pad_7, pad_8, pad_9, pad_10, pad_11, pad_12, pad_13, pad_14, pad_15, gc0, gc1, gc2, gc3, gc4, gc5, gc6, gc7, gc8, gc9, gc10, gc11, gc12, gc13, gc14, gc15, gcS, sc0, sc1, sc2, sc3, sc4, sc5, sc6, sc7, sc8, sc9, sc10, sc11, sc12, sc13, sc14, sc15, scS, List.drop_succ_cons, List.drop_nil]
      with_reducible refine done2 ?_
      repeat (first | refine ext_new hN ?_ | exact ext_refl)
    · rw [if_neg h0, if_neg h0]
      have e0 : (w == 0) = false := by simpa using h0
      have t1 : w.tmod 2 = w % 2 := Int.tmod_eq_emod_of_nonneg (by omega)
      have t2 : w.tdiv 2 = w / 2 := Int.tdiv_eq_ediv_of_nonneg (by omega)
      have w1 : IntKind.u64.wrap (w / 2) = w / 2 := IntWalk.u64_in _ (by omega)
      have w2 : IntKind.i64.wrap (w / 2) = w / 2 := IntWalk.i64_in _ (by omega)
      by_cases h1 : w % 2 = 1
      · have e1 : (w % 2 == 1) = true := by simpa using h1
        rw [show (w - 1) / 2 = w / 2 by omega, show 1 + (w - 1) % 2 = 1 by omega]
        simp -implicitDefEqProofs (maxSteps := 10000000) (disch := omega) only [L17, hB, hR, hI, h, e0, e1, t1, t2, w1, w2, pad, e_skip, e_ops, e_draw, d_none, d_nil, d_cons, d_ite, h_none, h_nil, h_cons, h_ite, eqS_same, lightV, e_seq, e_cond, e_block, e_loop, e_exit, e_ret, s_normal, s_ret, s_exit, s_none, s_ite, b_normal, b_ret, b_exit, b_none, b_ite, c_bool, o_some, o_none, o_ite, x_none, x_nil, x_cons, x_ite, p_some, p_none, p_ite, pt_some, pt_none, pv_some, pv_none, pv_ite, w_none, w_some, i_bool, i_undef, bt, bf, v_tmp, v_const, v_global, v_func, evs, f_normal, f_ret, f_none, f_ite, r_some, co_some, l_ptr, m_agg, m_one, sh_app, lk_nil, lk_cons, rd_eq, rdO_some, rdO_none, rdN_none, rdL_some, rdL_none, wrB_none, unitR_some, wrC_some, wrK_cells, consH_some, wr_nil, wr_here, wr_skip, wrH_cons, k_cells, tk_zero, tk_take, tk_skip, tkC_some, call_func, gt, st, stepOp, newB, ptrTo, binV, arith, isSh, storeV, all1, idxAV, fieldV, faddrV, iaddrSV, iaddrAV, pickV, convV, unV, eqbV, eqpV, extV, lenV, mm2, mmV, nilckV, ress, res1, retV, Value.cells, cond_true, cond_false, Bool.true_or, Bool.false_or, Bool.or_true, Bool.or_false, beq_self_eq_true, if_true, if_false, ite_true, ite_false, decide_true, decide_false, decide_eq_true_eq, reduceIte, Nat.zero_add, Nat.add_zero, and_self, true_and, and_true, List.size_toArray, List.length_cons, List.length_nil, List.append_nil, List.nil_append, Int.toNat_zero, Bool.not_false, Bool.not_true, Bool.not_not, Bool.false_eq_true, Bool.true_eq_false, reduceCtorEq, Int.reduceLT, Int.reduceLE, Int.reduceToNat, Int.reduceAdd, Int.reduceSub, Int.reduceMul, Int.reduceNeg, Nat.reduceMul, Nat.reduceAdd, Nat.reduceSub, Nat.reduceBEq, Nat.reduceEqDiff, Nat.reduceLT, Nat.reduceLeDiff, Int.reduceBEq, Int.reduceEq, Nat.reducePow, Int.reducePow, IntWalk.i64_in, IntKind.bits, eqAV, eqL, leafEq, andO, fillV, buildSV, List.getElem?_toArray, List.getElem?_cons_zero, List.getElem?_cons_succ, List.getElem?_nil, Int.reduceGT, Int.reduceGE, Int.reduceBNe, Bool.true_and, Bool.and_true, Bool.false_and, Bool.and_false, Bool.and_self, IntWalk.u64_in, Int.cast_ofNat_Int, callF1, pad16, pad_0, pad_1, pad_2, pad_3, pad_4, pad_5, pad_6, pad_7, pad_8, pad_9, pad_10, pad_11, pad_12, pad_13, pad_14, pad_15, gc0, gc1, gc2, gc3, gc4, gc5, gc6, gc7, gc8, gc9, gc10, gc11, gc12, gc13, gc14, gc15, gcS, sc0, sc1, sc2, sc3, sc4, sc5, sc6, sc7, sc8, sc9, sc10, sc11, sc12, sc13, sc14, sc15, scS, List.drop_succ_cons, List.drop_nil]
        with_reducible refine done2 ?_
        repeat (first | refine ext_new hN ?_ | exact ext_refl)
      · have e1 : (w % 2 == 1) = false := by simpa using h1
        have w3 : IntKind.i64.wrap (w / 2 - 1) = w / 2 - 1 := IntWalk.i64_in _ (by omega)
        rw [show (w - 1) / 2 = w / 2 - 1 by omega, show 1 + (w - 1) % 2 = 2 by omega]
        simp -implicitDefEqProofs (maxSteps := 10000000) (disch := omega) only [L17, hB, hR, hI, h, e0, e1, t1, t2, w1, w2, w3, pad, e_skip, e_ops, e_draw, d_none, d_nil, d_cons, d_ite, h_none, h_nil, h_cons, h_ite, eqS_same, lightV, e_seq, e_cond, e_block, e_loop, e_exit, e_ret, s_normal, s_ret, s_exit, s_none, s_ite, b_normal, b_ret, b_exit, b_none, b_ite, c_bool, o_some, o_none, o_ite, x_none, x_nil, x_cons, x_ite, p_some, p_none, p_ite, pt_some, pt_none, pv_some, pv_none, pv_ite, w_none, w_some, i_bool, i_undef, bt, bf, v_tmp, v_const, v_global, v_func, evs, f_normal, f_ret, f_none, f_ite, r_some, co_some, l_ptr, m_agg, m_one, sh_app, lk_nil, lk_cons, rd_eq, rdO_some, rdO_none, rdN_none, rdL_some, rdL_none, wrB_none, unitR_some, wrC_some, wrK_cells, consH_some, wr_nil, wr_here, wr_skip, wrH_cons, k_cells, tk_zero, tk_take, tk_skip, tkC_some, call_func, gt, st, stepOp, newB, ptrTo, binV, arith, isSh, storeV, all1, idxAV, fieldV, faddrV, iaddrSV, iaddrAV, pickV, convV, unV, eqbV, eqpV, extV, lenV, mm2, mmV, nilckV, ress, res1, retV, Value.cells, cond_true, cond_false, Bool.true_or, Bool.false_or, Bool.or_true, Bool.or_false, beq_self_eq_true, if_true, if_false, ite_true, ite_false, decide_true, decide_false, decide_eq_true_eq, reduceIte, Nat.zero_add, Nat.add_zero, and_self, true_and, and_true, List.size_toArray, List.length_cons, List.length_nil, List.append_nil, List.nil_append, Int.toNat_zero, Bool.not_false, Bool.not_true, Bool.not_not, Bool.false_eq_true, Bool.true_eq_false, reduceCtorEq, Int.reduceLT, Int.reduceLE, Int.reduceToNat, Int.reduceAdd, Int.reduceSub, Int.reduceMul, Int.reduceNeg, Nat.reduceMul, Nat.reduceAdd, Nat.reduceSub, Nat.reduceBEq, Nat.reduceEqDiff, Nat.reduceLT, Nat.reduceLeDiff, Int.reduceBEq, Int.reduceEq, Nat.reducePow, Int.reducePow, IntWalk.i64_in, IntKind.bits, eqAV, eqL, leafEq, andO, fillV, buildSV, List.getElem?_toArray, List.getElem?_cons_zero, List.getElem?_cons_succ, List.getElem?_nil, Int.reduceGT, Int.reduceGE, Int.reduceBNe, Bool.true_and, Bool.and_true, Bool.false_and, Bool.and_false, Bool.and_self, IntWalk.u64_in, Int.cast_ofNat_Int, callF1, pad16, pad_0, pad_1, pad_2, pad_3, pad_4, pad_5, pad_6, pad_7, pad_8, pad_9, pad_10, pad_11, pad_12, pad_13, pad_14, pad_15, gc0, gc1, gc2, gc3, gc4, gc5, gc6, gc7, gc8, gc9, gc10, gc11, gc12, gc13, gc14, gc15, gcS, sc0, sc1, sc2, sc3, sc4, sc5, sc6, sc7, sc8, sc9, sc10, sc11, sc12, sc13, sc14, sc15, scS, List.drop_succ_cons, List.drop_nil]
        with_reducible refine done2 ?_
        repeat (first | refine ext_new hN ?_ | exact ext_refl)
/-- whitewash/whitewashlaw06.pick -/
def L18 : FnL := ⟨(.seq (.ops [⟨(some 4), .mv (.const (.int .i64 0)), none⟩])
 (.seq (.seq (.ops [⟨(some 5), .mv (.tmp 0), none⟩, ⟨(some 6), .bin .lss (.tmp 5) (.const (.int .i64 0)), none⟩])
 (.cond (.tmp 6) (.ops [⟨(some 7), .mv (.tmp 0), none⟩, ⟨(some 8), .bin .add (.tmp 7) (.const (.int .i64 1)), none⟩, ⟨(some 9), .un .neg (.tmp 8), none⟩, ⟨(some 0), .mv (.tmp 9), none⟩])
 .skip))
 (.seq (.ops [⟨(some 10), .mv (.tmp 0), none⟩, ⟨(some 11), .mv (.tmp 1), none⟩, ⟨(some 12), .bin .rem (.tmp 10) (.tmp 11), none⟩, ⟨(some 4), .mv (.tmp 12), none⟩])
 .ret))),
 13, [.tmp 4]⟩
theorem low18 : lowerFn Try.prog Try.f18 = some L18 := by kernel_rfl
noncomputable def G18 (B : OH) : Nat → Cs
  | _ => fun _ _ _ => none
theorem sG18 {w0 : World} {B : OH} : SoundG Try.prog w0 B (G18 B) := fun k => by
  unfold G18
  split
  · exact .inl fun _ _ _ => rfl
noncomputable def F18 (B : OH) : List Value → Option Value := kval B (callF B (G18 B) 80 L18)
noncomputable def V18 (B : OH) : Cs := fun a H N => pv (F18 B a) H N
theorem en18 : Enter Try.prog 18 := .of Try.func18 (by kernel_rfl) (by kernel_rfl)
theorem sV18 {w0 : World} {B : OH} : SoundC Try.prog w0 B 18 (V18 B) := (callF_sound mixedOrders sG18 80 Try.func18 low18).ofVal
set_option maxHeartbeats 1000000 in
theorem f18 {B : OH} (hG : ∃ H N, good B H N) (c n : Int) (hc : -9223372036854775808 ≤ c ∧ c ≤ 9223372036854775807) (hn : 1 ≤ n) : F18 B [.int .i64 c, .int .i64 n] = some (.int .i64 (pick c n)) := by
  refine kval_eq hG fun H N hN => ?_
  have hB := good_B hN
  have hR := good_rdB hN
  have hI := beqN hN.1
  have n0 : ¬ n = 0 := by omega
  unfold pick
  by_cases h : c < 0
  · rw [if_pos h]
    have w1 : IntKind.i64.wrap (c + 1) = c + 1 := IntWalk.i64_in _ (by omega)
    have w2 : IntKind.i64.wrap (0 - (c + 1)) = -(c + 1) := by rw [Int.zero_sub]; exact IntWalk.i64_in _ (by omega)
    have t1 : (-(c + 1)).tmod n = -(c + 1) % n := Int.tmod_eq_emod_of_nonneg (by omega)
    simp -implicitDefEqProofs (maxSteps := 10000000) (disch := omega) only [L18, hB, hR, hI, h, n0, w1, w2, t1, pad, e_skip, e_ops, e_draw, d_none, d_nil, d_cons, d_ite, h_none, h_nil, h_cons, h_ite, eqS_same, lightV, e_seq, e_cond, e_block, e_loop, e_exit, e_ret, s_normal, s_ret, s_exit, s_none, s_ite, b_normal, b_ret, b_exit, b_none, b_ite, c_bool, o_some, o_none, o_ite, x_none, x_nil, x_cons, x_ite, p_some, p_none, p_ite, pt_some, pt_none, pv_some, pv_none, pv_ite, w_none, w_some, i_bool, i_undef, bt, bf, v_tmp, v_const, v_global, v_func, evs, f_normal, f_ret, f_none, f_ite, r_some, co_some, l_ptr, m_agg, m_one, sh_app, lk_nil, lk_cons, rd_eq, rdO_some, rdO_none, rdN_none, rdL_some, rdL_none, wrB_none, unitR_some, wrC_some, wrK_cells, consH_some, wr_nil, wr_here, wr_skip, wrH_cons, k_cells, tk_zero, tk_take, tk_skip, tkC_some, call_func, gt, st, stepOp, newB, ptrTo, binV, arith, isSh, storeV, all1, idxAV, fieldV, faddrV, iaddrSV, iaddrAV, pickV, convV, unV, eqbV, eqpV, extV, lenV, mm2, mmV, nilckV, ress, res1, retV, Value.cells, cond_true, cond_false, Bool.true_or, Bool.false_or, Bool.or_true, Bool.or_false, beq_self_eq_true, if_true, if_false, ite_true, ite_false, decide_true, decide_false, decide_eq_true_eq, reduceIte, Nat.zero_add, Nat.add_zero, and_self, true_and, and_true, List.size_toArray, List.length_cons, List.length_nil, List.append_nil, List.nil_append, Int.toNat_zero, Bool.not_false, Bool.not_true, Bool.not_not, Bool.false_eq_true, Bool.true_eq_false, reduceCtorEq, Int.reduceLT, Int.reduceLE, Int.reduceToNat, Int.reduceAdd, Int.reduceSub, Int.reduceMul, Int.reduceNeg, Nat.reduceMul, Nat.reduceAdd, Nat.reduceSub, Nat.reduceBEq, Nat.reduceEqDiff, Nat.reduceLT, Nat.reduceLeDiff, Int.reduceBEq, Int.reduceEq, Nat.reducePow, Int.reducePow, IntWalk.i64_in, IntKind.bits, eqAV, eqL, leafEq, andO, fillV, buildSV, List.getElem?_toArray, List.getElem?_cons_zero, List.getElem?_cons_succ, List.getElem?_nil, Int.reduceGT, Int.reduceGE, Int.reduceBNe, Bool.true_and, Bool.and_true, Bool.false_and, Bool.and_false, Bool.and_self, IntWalk.u64_in, Int.cast_ofNat_Int, callF1, pad16, pad_0, pad_1, pad_2, pad_3, pad_4, pad_5, pad_6, pad_7, pad_8, pad_9, pad_10, pad_11, pad_12, pad_13, pad_14, pad_15, gc0, gc1, gc2, gc3, gc4, gc5, gc6, gc7, gc8, gc9, gc10, gc11, gc12, gc13, gc14, gc15, gcS, sc0, sc1, sc2, sc3, sc4, sc5, sc6, sc7, sc8, sc9, sc10, sc11, sc12, sc13, sc14, sc15, scS, List.drop_succ_cons, List.drop_nil]
    with_reducible refine done2 ?_
    repeat (first | refine ext_new hN ?_ | exact ext_refl)
  · rw [if_neg h]
    have t1 : c.tmod n = c % n := Int.tmod_eq_emod_of_nonneg (by omega)
    simp -implicitDefEqProofs (maxSteps := 10000000) (disch := omega) only [L18, hB, hR, hI, h, n0, t1, pad, e_skip, e_ops, e_draw, d_none, d_nil, d_cons, d_ite, h_none, h_nil, h_cons, h_ite, eqS_same, lightV, e_seq, e_cond, e_block, e_loop, e_exit, e_ret, s_normal, s_ret, s_exit, s_none, s_ite, b_normal, b_ret, b_exit, b_none, b_ite, c_bool, o_some, o_none, o_ite, x_none, x_nil, x_cons, x_ite, p_some, p_none, p_ite, pt_some, pt_none, pv_some, pv_none, pv_ite, w_none, w_some, i_bool, i_undef, bt, bf, v_tmp, v_const, v_global, v_func, evs, f_normal, f_ret, f_none, f_ite, r_some, co_some, l_ptr, m_agg, m_one, sh_app, lk_nil, lk_cons, rd_eq, rdO_some, rdO_none, rdN_none, rdL_some, rdL_none, wrB_none, unitR_some, wrC_some, wrK_cells, consH_some, wr_nil, wr_here, wr_skip, wrH_cons, k_cells, tk_zero, tk_take, tk_skip, tkC_some, call_func, gt, st, stepOp, newB, ptrTo, binV, arith, isSh, storeV, all1, idxAV, fieldV, faddrV, iaddrSV, iaddrAV, pickV, convV, unV, eqbV, eqpV, extV, lenV, mm2, mmV, nilckV, ress, res1, retV, Value.cells, cond_true, cond_false, Bool.true_or, Bool.false_or, Bool.or_true, Bool.or_false, beq_self_eq_true, if_true, if_false, ite_true, ite_false, decide_true, decide_false, decide_eq_true_eq, reduceIte, Nat.zero_add, Nat.add_zero, and_self, true_and, and_true, List.size_toArray, List.length_cons, List.length_nil, List.append_nil, List.nil_append, Int.toNat_zero, Bool.not_false, Bool.not_true, Bool.not_not, Bool.false_eq_true, Bool.true_eq_false, reduceCtorEq, Int.reduceLT, Int.reduceLE, Int.reduceToNat, Int.reduceAdd, Int.reduceSub, Int.reduceMul, Int.reduceNeg, Nat.reduceMul, Nat.reduceAdd, Nat.reduceSub, Nat.reduceBEq, Nat.reduceEqDiff, Nat.reduceLT, Nat.reduceLeDiff, Int.reduceBEq, Int.reduceEq, Nat.reducePow, Int.reducePow, IntWalk.i64_in, IntKind.bits, eqAV, eqL, leafEq, andO, fillV, buildSV, List.getElem?_toArray, List.getElem?_cons_zero, List.getElem?_cons_succ, List.getElem?_nil, Int.reduceGT, Int.reduceGE, Int.reduceBNe, Bool.true_and, Bool.and_true, Bool.false_and, Bool.and_false, Bool.and_self, IntWalk.u64_in, Int.cast_ofNat_Int, callF1, pad16, pad_0, pad_1, pad_2, pad_3, pad_4, pad_5, pad_6, pad_7, pad_8, pad_9, pad_10, pad_11, pad_12, pad_13, pad_14, pad_15, gc0, gc1, gc2, gc3, gc4, gc5, gc6, gc7, gc8, gc9, gc10, gc11, gc12, gc13, gc14, gc15, gcS, sc0, sc1, sc2, sc3, sc4, sc5, sc6, sc7, sc8, sc9, sc10, sc11, sc12, sc13, sc14, sc15, scS, List.drop_succ_cons, List.drop_nil]
    with_reducible refine done2 ?_
    repeat (first | refine ext_new hN ?_ | exact ext_refl)
/-- whitewash/rec.Head -/
def L19 : FnL := ⟨(.seq (.ops [⟨(some 4), .mv (.const (.int .u64 0)), none⟩, ⟨(some 5), .mv (.const (.int .i64 0)), none⟩])
 (.seq (.block 0 (.seq (.seq (.ops [⟨(some 7), .mv (.tmp 0), none⟩, ⟨(some 8), .call (.func 21) [(.tmp 7), (.const (.int .i64 0)), (.const (.int .i64 2))], none⟩, ⟨(some 9), .un .not (.tmp 8), none⟩, ⟨(some 6), .mv (.tmp 9), none⟩])
 (.cond (.tmp 6) .skip
 (.seq (.ops [⟨(some 10), .mv (.tmp 1), none⟩, ⟨(some 11), .call (.func 21) [(.tmp 10), (.const (.int .i64 0)), (.const (.int .i64 15))], none⟩, ⟨(some 12), .un .not (.tmp 11), none⟩, ⟨(some 6), .mv (.tmp 12), none⟩])
 (.cond (.tmp 6) .skip
 (.ops [⟨(some 13), .mv (.tmp 0), none⟩, ⟨(some 14), .bin .eql (.tmp 13) (.const (.int .i64 0)), none⟩, ⟨(some 15), .mv (.tmp 14), none⟩, ⟨(some 16), .mv (.tmp 1), (some (15, true))⟩, ⟨(some 17), .bin .neq (.tmp 16) (.const (.int .i64 0)), (some (15, true))⟩, ⟨(some 18), .pick (.tmp 15) (.tmp 17) (.const (.bool false)), none⟩, ⟨(some 6), .mv (.tmp 18), none⟩])))))
 (.cond (.tmp 6) (.seq (.ops [⟨(some 4), .mv (.const (.int .u64 0)), none⟩, ⟨(some 5), .mv (.const (.int .i64 1)), none⟩])
 .ret)
 .skip)))
 (.seq (.ops [⟨(some 19), .mv (.tmp 1), none⟩, ⟨(some 20), .bin .mul (.const (.int .i64 2)) (.tmp 19), none⟩, ⟨(some 21), .mv (.tmp 0), none⟩, ⟨(some 22), .bin .add (.tmp 20) (.tmp 21), none⟩, ⟨(some 23), .conv .u64 (.tmp 22), none⟩, ⟨(some 4), .mv (.tmp 23), none⟩, ⟨(some 5), .mv (.const (.int .i64 0)), none⟩])
 .ret))),
 24, [.tmp 4, .tmp 5]⟩
theorem low19 : lowerFn Try.prog Try.f19 = some L19 := by kernel_rfl
noncomputable def G19 (B : OH) : Nat → Cs
  | 21 => V21 B
  | _ => fun _ _ _ => none
theorem G19_21 {B : OH} : G19 B 21 = fun a H N => pv (F21 B a) H N := rfl
theorem sG19 {w0 : World} {B : OH} : SoundG Try.prog w0 B (G19 B) := fun k => by
  unfold G19
  split
  · exact .inr ⟨en21, sV21⟩
  · exact .inl fun _ _ _ => rfl
noncomputable def F19 (B : OH) : List Value → Option Value := kval B (callF B (G19 B) 80 L19)
noncomputable def V19 (B : OH) : Cs := fun a H N => pv (F19 B a) H N
theorem en19 : Enter Try.prog 19 := .of Try.func19 (by kernel_rfl) (by kernel_rfl)
theorem sV19 {w0 : World} {B : OH} : SoundC Try.prog w0 B 19 (V19 B) := (callF_sound mixedOrders sG19 80 Try.func19 low19).ofVal
set_option maxHeartbeats 1000000 in
theorem f19 {B : OH} (hG : ∃ H N, good B H N) (s p : Int) (hs : -9223372036854775808 ≤ s ∧ s ≤ 9223372036854775807) (hp : -9223372036854775808 ≤ p ∧ p ≤ 9223372036854775807) : F19 B [.int .i64 s, .int .i64 p] = some (.tuple #[.int .u64 (hdA s p), .int .i64 (hdE s p)]) := by
  refine kval_eq hG fun H N hN => ?_
  have hB := good_B hN
  have hR := good_rdB hN
  have hI := beqN hN.1
  unfold hdA hdE
  by_cases h : okH s p
  · rw [if_pos h, if_pos h]
    unfold okH at h
    have c1 : (0 ≤ s ∧ s ≤ 2) = True := eq_true ⟨h.1, h.2.1⟩
    have c2 : (0 ≤ p ∧ p ≤ 15) = True := eq_true ⟨h.2.2.1, h.2.2.2.1⟩
    have n1 : ¬ s < 0 := by omega
    have n2 : ¬ s > 2 := by omega
    have n3 : ¬ p < 0 := by omega
    have n4 : ¬ p > 15 := by omega
    have w1 : IntKind.i64.wrap (2 * p) = 2 * p := IntWalk.i64_in _ (by omega)
    have w2 : IntKind.i64.wrap (2 * p + s) = 2 * p + s := IntWalk.i64_in _ (by omega)
    have w3 : IntKind.u64.wrap (2 * p + s) = 2 * p + s := IntWalk.u64_in _ (by omega)
    by_cases h0 : s = 0
    · have hp : p = 0 := h.2.2.2.2 h0
      subst h0
      subst hp
      simp -implicitDefEqProofs (maxSteps := 10000000) (disch := omega) only [L19, G19_21, hB, hR, hI, f21 hG, bne_self_eq_false, ge_iff_le, Int.mul_zero, Int.add_zero, pad, e_skip, e_ops, e_draw, d_none, d_nil, d_cons, d_ite, h_none, h_nil, h_cons, h_ite, eqS_same, lightV, e_seq, e_cond, e_block, e_loop, e_exit, e_ret, s_normal, s_ret, s_exit, s_none, s_ite, b_normal, b_ret, b_exit, b_none, b_ite, c_bool, o_some, o_none, o_ite, x_none, x_nil, x_cons, x_ite, p_some, p_none, p_ite, pt_some, pt_none, pv_some, pv_none, pv_ite, w_none, w_some, i_bool, i_undef, bt, bf, v_tmp, v_const, v_global, v_func, evs, f_normal, f_ret, f_none, f_ite, r_some, co_some, l_ptr, m_agg, m_one, sh_app, lk_nil, lk_cons, rd_eq, rdO_some, rdO_none, rdN_none, rdL_some, rdL_none, wrB_none, unitR_some, wrC_some, wrK_cells, consH_some, wr_nil, wr_here, wr_skip, wrH_cons, k_cells, tk_zero, tk_take, tk_skip, tkC_some, call_func, gt, st, stepOp, newB, ptrTo, binV, arith, isSh, storeV, all1, idxAV, fieldV, faddrV, iaddrSV, iaddrAV, pickV, convV, unV, eqbV, eqpV, extV, lenV, mm2, mmV, nilckV, ress, res1, retV, Value.cells, cond_true, cond_false, Bool.true_or, Bool.false_or, Bool.or_true, Bool.or_false, beq_self_eq_true, if_true, if_false, ite_true, ite_false, decide_true, decide_false, decide_eq_true_eq, reduceIte, Nat.zero_add, Nat.add_zero, and_self, true_and, and_true, List.size_toArray, List.length_cons, List.length_nil, List.append_nil, List.nil_append, Int.toNat_zero, Bool.not_false, Bool.not_true, Bool.not_not, Bool.false_eq_true, Bool.true_eq_false, reduceCtorEq, Int.reduceLT, Int.reduceLE, Int.reduceToNat, Int.reduceAdd, Int.reduceSub, Int.reduceMul, Int.reduceNeg, Nat.reduceMul, Nat.reduceAdd, Nat.reduceSub, Nat.reduceBEq, Nat.reduceEqDiff, Nat.reduceLT, Nat.reduceLeDiff, Int.reduceBEq, Int.reduceEq, Nat.reducePow, Int.reducePow, IntWalk.i64_in, IntKind.bits, eqAV, eqL, leafEq, andO, fillV, buildSV, List.getElem?_toArray, List.getElem?_cons_zero, List.getElem?_cons_succ, List.getElem?_nil, Int.reduceGT, Int.reduceGE, Int.reduceBNe, Bool.true_and, Bool.and_true, Bool.false_and, Bool.and_false, Bool.and_self, IntWalk.u64_in, Int.cast_ofNat_Int, callF1, pad16, pad_0, pad_1, pad_2, pad_3, pad_4, pad_5, pad_6, pad_7, pad_8, pad_9, pad_10, pad_11, pad_12, pad_13, pad_14, pad_15, gc0, gc1, gc2, gc3, gc4, gc5, gc6, gc7, gc8, gc9, gc10, gc11, gc12, gc13, gc14, gc15, gcS, sc0, sc1, sc2, sc3, sc4, sc5, sc6, sc7, sc8, sc9, sc10, sc11, sc12, sc13, sc14, sc15, scS, List.drop_succ_cons, List.drop_nil]
      with_reducible refine done2 ?_
      repeat (first | refine ext_new hN ?_ | exact ext_refl)
    · have e0 : (s == 0) = false := by simpa using h0
      simp -implicitDefEqProofs (maxSteps := 10000000) (disch := omega) only [L19, G19_21, hB, hR, hI, f21 hG, c1, c2, n1, n2, n3, n4, w1, w2, w3, e0, pad, e_skip, e_ops, e_draw, d_none, d_nil, d_cons, d_ite, h_none, h_nil, h_cons, h_ite, eqS_same, lightV, e_seq, e_cond, e_block, e_loop, e_exit, e_ret, s_normal, s_ret, s_exit, s_none, s_ite, b_normal, b_ret, b_exit, b_none, b_ite, c_bool, o_some, o_none, o_ite, x_none, x_nil, x_cons, x_ite, p_some, p_none, p_ite, pt_some, pt_none, pv_some, pv_none, pv_ite, w_none, w_some, i_bool, i_undef, bt, bf, v_tmp, v_const, v_global, v_func, evs, f_normal, f_ret, f_none, f_ite, r_some, co_some, l_ptr, m_agg, m_one, sh_app, lk_nil, lk_cons, rd_eq, rdO_some, rdO_none, rdN_none, rdL_some, rdL_none, wrB_none, unitR_some, wrC_some, wrK_cells, consH_some, wr_nil, wr_here, wr_skip, wrH_cons, k_cells, tk_zero, tk_take, tk_skip, tkC_some, call_func, gt, st, stepOp, newB, ptrTo, binV, arith, isSh, storeV, all1, idxAV, fieldV, faddrV, iaddrSV, iaddrAV, pickV, convV, unV, eqbV, eqpV, extV, lenV, mm2, mmV, nilckV, ress, res1, retV, Value.cells, cond_true, cond_false, Bool.true_or, Bool.false_or, Bool.or_true, Bool.or_false, beq_self_eq_true, if_true, if_false, ite_true, ite_false, decide_true, decide_false, decide_eq_true_eq, reduceIte, Nat.zero_add, Nat.add_zero, and_self, true_and, and_true, List.size_toArray, List.length_cons, List.length_nil, List.append_nil, List.nil_append, Int.toNat_zero, Bool.not_false, Bool.not_true, Bool.not_not, Bool.false_eq_true, Bool.true_eq_false, reduceCtorEq, Int.reduceLT, Int.reduceLE, Int.reduceToNat, Int.reduceAdd, Int.reduceSub, Int.reduceMul, Int.reduceNeg, Nat.reduceMul, Nat.reduceAdd, Nat.reduceSub, Nat.reduceBEq, Nat.reduceEqDiff, Nat.reduceLT, Nat.reduceLeDiff, Int.reduceBEq, Int.reduceEq, Nat.reducePow, Int.reducePow, IntWalk.i64_in, IntKind.bits, eqAV, eqL, leafEq, andO, fillV, buildSV, List.getElem?_toArray, List.getElem?_cons_zero, List.getElem?_cons_succ, List.getElem?_nil, Int.reduceGT, Int.reduceGE, Int.reduceBNe, Bool.true_and, Bool.and_true, Bool.false_and, Bool.and_false, Bool.and_self, IntWalk.u64_in, Int.cast_ofNat_Int, callF1, pad16, pad_0, pad_1, pad_2, pad_3, pad_4, pad_5, pad_6, pad_7, pad_8, pad_9, pad_10, pad_11, pad_12, pad_13, pad_14, pad_15, gc0, gc1, gc2, gc3, gc4, gc5, gc6, gc7, gc8, gc9, gc10, gc11, gc12, gc13, gc14, gc15, gcS, sc0, sc1, sc2, sc3, sc4, sc5, sc6, sc7, sc8, sc9, sc10, sc11, sc12, sc13, sc14, sc15, scS, List.drop_succ_cons, List.drop_nil]
      with_reducible refine done2 ?_
      repeat (first | refine ext_new hN ?_ | exact ext_refl)
  · rw [if_neg h, if_neg h]
    unfold okH at h
    by_cases a1 : s < 0
    · have c1 : (0 ≤ s ∧ s ≤ 2) = False := eq_false (by omega)
      simp -implicitDefEqProofs (maxSteps := 10000000) (disch := omega) only [L19, G19_21, hB, hR, hI, f21 hG, a1, c1, pad, e_skip, e_ops, e_draw, d_none, d_nil, d_cons, d_ite, h_none, h_nil, h_cons, h_ite, eqS_same, lightV, e_seq, e_cond, e_block, e_loop, e_exit, e_ret, s_normal, s_ret, s_exit, s_none, s_ite, b_normal, b_ret, b_exit, b_none, b_ite, c_bool, o_some, o_none, o_ite, x_none, x_nil, x_cons, x_ite, p_some, p_none, p_ite, pt_some, pt_none, pv_some, pv_none, pv_ite, w_none, w_some, i_bool, i_undef, bt, bf, v_tmp, v_const, v_global, v_func, evs, f_normal, f_ret, f_none, f_ite, r_some, co_some, l_ptr, m_agg, m_one, sh_app, lk_nil, lk_cons, rd_eq, rdO_some, rdO_none, rdN_none, rdL_some, rdL_none, wrB_none, unitR_some, wrC_some, wrK_cells, consH_some, wr_nil, wr_here, wr_skip, wrH_cons, k_cells, tk_zero, tk_take, tk_skip, tkC_some, call_func, gt, st, stepOp, newB, ptrTo, binV, arith, isSh, storeV, all1, idxAV, fieldV, faddrV, iaddrSV, iaddrAV, pickV, convV, unV, eqbV, eqpV, extV, lenV, mm2, mmV, nilckV, ress, res1, retV, Value.cells, cond_true, cond_false, Bool.true_or, Bool.false_or, Bool.or_true, Bool.or_false, beq_self_eq_true, if_true, if_false, ite_true, ite_false, decide_true, decide_false, decide_eq_true_eq, reduceIte, Nat.zero_add, Nat.add_zero, and_self, true_and, and_true, List.size_toArray, List.length_cons, List.length_nil, List.append_nil, List.nil_append, Int.toNat_zero, Bool.not_false, Bool.not_true, Bool.not_not, Bool.false_eq_true, Bool.true_eq_false, reduceCtorEq, Int.reduceLT, Int.reduceLE, Int.reduceToNat, Int.reduceAdd, Int.reduceSub, Int.reduceMul, Int.reduceNeg, Nat.reduceMul, Nat.reduceAdd, Nat.reduceSub, Nat.reduceBEq, Nat.reduceEqDiff, Nat.reduceLT, Nat.reduceLeDiff, Int.reduceBEq, Int.reduceEq, Nat.reducePow, Int.reducePow, IntWalk.i64_in, IntKind.bits, eqAV, eqL, leafEq, andO, fillV, buildSV, List.getElem?_toArray, List.getElem?_cons_zero, List.getElem?_cons_succ, List.getElem?_nil, Int.reduceGT, Int.reduceGE, Int.reduceBNe, Bool.true_and, Bool.and_true, Bool.false_and, Bool.and_false, Bool.and_self, IntWalk.u64_in, Int.cast_ofNat_Int, callF1, pad16, pad_0, pad_1, pad_2, pad_3, pad_4, pad_5, pad_6, pad_7, pad_8, pad_9, pad_10, pad_11, pad_12, pad_13, pad_14, pad_15, gc0, gc1, gc2, gc3, gc4, gc5, gc6, gc7, gc8, gc9, gc10, gc11, gc12, gc13, gc14, gc15, gcS, sc0, sc1, sc2, sc3, sc4, sc5, sc6, sc7, sc8, sc9, sc10, sc11, sc12, sc13, sc14, sc15, scS, List.drop_succ_cons, List.drop_nil]
      with_reducible refine done2 ?_
      repeat (first | refine ext_new hN ?_ | exact ext_refl)
    · by_cases a2 : s > 2
      · have c1 : (0 ≤ s ∧ s ≤ 2) = False := eq_false (by omega)
        simp -implicitDefEqProofs (maxSteps := 10000000) (disch := omega) only [L19, G19_21, hB, hR, hI, f21 hG, a1, a2, c1, pad, e_skip, e_ops, e_draw, d_none, d_nil, d_cons, d_ite, h_none, h_nil, h_cons, h_ite, eqS_same, lightV, e_seq, e_cond, e_block, e_loop, e_exit, e_ret, s_normal, s_ret, s_exit, s_none, s_ite, b_normal, b_ret, b_exit, b_none, b_ite, c_bool, o_some, o_none, o_ite, x_none, x_nil, x_cons, x_ite, p_some, p_none, p_ite, pt_some, pt_none, pv_some, pv_none, pv_ite, w_none, w_some, i_bool, i_undef, bt, bf, v_tmp, v_const, v_global, v_func, evs, f_normal, f_ret, f_none, f_ite, r_some, co_some, l_ptr, m_agg, m_one, sh_app, lk_nil, lk_cons, rd_eq, rdO_some, rdO_none, rdN_none, rdL_some, rdL_none, wrB_none, unitR_some, wrC_some, wrK_cells, consH_some, wr_nil, wr_here, wr_skip, wrH_cons, k_cells, tk_zero, tk_take, tk_skip, tkC_some, call_func, gt, st, stepOp, newB, ptrTo, binV, arith, isSh, storeV, all1, idxAV, fieldV, faddrV, iaddrSV, iaddrAV, pickV, convV, unV, eqbV, eqpV, extV, lenV, mm2, mmV, nilckV, ress, res1, retV, Value.cells, cond_true, cond_false, Bool.true_or, Bool.false_or, Bool.or_true, Bool.or_false, beq_self_eq_true, if_true, if_false, ite_true, ite_false, decide_true, decide_false, decide_eq_true_eq, reduceIte, Nat.zero_add, Nat.add_zero, and_self, true_and, and_true, List.size_toArray, List.length_cons, List.length_nil, List.append_nil, List.nil_append, Int.toNat_zero, Bool.not_false, Bool.not_true, Bool.not_not, Bool.false_eq_true, Bool.true_eq_false, reduceCtorEq, Int.reduceLT, Int.reduceLE, Int.reduceToNat, Int.reduceAdd, Int.reduceSub, Int.reduceMul, Int.reduceNeg, Nat.reduceMul, Nat.reduceAdd, Nat.reduceSub, Nat.reduceBEq, Nat.reduceEqDiff, Nat.reduceLT, Nat.reduceLeDiff, Int.reduceBEq, Int.reduceEq, Nat.reducePow, Int.reducePow, IntWalk.i64_in, IntKind.bits, eqAV, eqL, leafEq, andO, fillV, buildSV, List.getElem?_toArray, List.getElem?_cons_zero, List.getElem?_cons_succ, List.getElem?_nil, Int.reduceGT, Int.reduceGE, Int.reduceBNe, Bool.true_and, Bool.and_true, Bool.false_and, Bool.and_false, Bool.and_self, IntWalk.u64_in, Int.cast_ofNat_Int, callF1, pad16, pad_0, pad_1, pad_2, pad_3, pad_4, pad_5, pad_6, pad_7, pad_8, pad_9, pad_10, pad_11, pad_12, pad_13, pad_14, pad_15, gc0, gc1, gc2, gc3, gc4, gc5, gc6, gc7, gc8, gc9, gc10, gc11, gc12, gc13, gc14, gc15, gcS, sc0, sc1, sc2, sc3, sc4, sc5, sc6, sc7, sc8, sc9, sc10, sc11, sc12, sc13, sc14, sc15, scS, List.drop_succ_cons, List.drop_nil]
        with_reducible refine done2 ?_
        repeat (first | refine ext_new hN ?_ | exact ext_refl)
      · have c1 : (0 ≤ s ∧ s ≤ 2) = True := eq_true (by omega)
        by_cases a3 : p < 0
        · have c2 : (0 ≤ p ∧ p ≤ 15) = False := eq_false (by omega)
          simp -implicitDefEqProofs (maxSteps := 10000000) (disch := omega) only [L19, G19_21, hB, hR, hI, f21 hG, a1, a2, a3, c1, c2, pad, e_skip, e_ops, e_draw, d_none, d_nil, d_cons, d_ite, h_none, h_nil, h_cons, h_ite, eqS_same, lightV, e_seq, e_cond, e_block, e_loop, e_exit, e_ret, s_normal, s_ret, s_exit, s_none, s_ite, b_normal, b_ret, b_exit, b_none, b_ite, c_bool, o_some, o_none, o_ite, x_none, x_nil, x_cons, x_ite, p_some, p_none, p_ite, pt_some, pt_none, pv_some, pv_none, pv_ite, w_none, w_some, i_bool, i_undef, bt, bf, v_tmp, v_const, v_global, v_func, evs, f_normal, f_ret, f_none, f_ite, r_some, co_some, l_ptr, m_agg, m_one, sh_app, lk_nil, lk_cons, rd_eq, rdO_some, rdO_none, rdN_none, rdL_some, rdL_none, wrB_none, unitR_some, wrC_some, wrK_cells, consH_some, wr_nil, wr_here, wr_skip, wrH_cons, k_cells, tk_zero, tk_take, tk_skip, tkC_some, call_func, gt, st, stepOp, newB, ptrTo, binV, arith, isSh, storeV, all1, idxAV, fieldV, faddrV, iaddrSV, iaddrAV, pickV, convV, unV, eqbV, eqpV, extV, lenV, mm2, mmV, nilckV, ress, res1, retV, Value.cells, cond_true, cond_false, Bool.true_or, Bool.false_or, Bool.or_true, Bool.or_false, beq_self_eq_true, if_true, if_false, ite_true, ite_false, decide_true, decide_false, decide_eq_true_eq, reduceIte, Nat.zero_add, Nat.add_zero, and_self, true_and, and_true, List.size_toArray, List.length_cons, List.length_nil, List.append_nil, List.nil_append, Int.toNat_zero, Bool.not_false, Bool.not_true, Bool.not_not, Bool.false_eq_true, Bool.true_eq_false, reduceCtorEq, Int.reduceLT, Int.reduceLE, Int.reduceToNat, Int.reduceAdd, Int.reduceSub, Int.reduceMul, Int.reduceNeg, Nat.reduceMul, Nat.reduceAdd, Nat.reduceSub, Nat.reduceBEq, Nat.reduceEqDiff, Nat.reduceLT, Nat.reduceLeDiff, Int.reduceBEq, Int.reduceEq, Nat.reducePow, Int.reducePow, IntWalk.i64_in, IntKind.bits, eqAV, eqL, leafEq, andO, fillV, buildSV, List.getElem?_toArray, List.getElem?_cons_zero, List.getElem?_cons_succ, List.getElem?_nil, Int.reduceGT, Int.reduceGE, Int.reduceBNe, Bool.true_and, Bool.and_true, Bool.false_and, Bool.and_false, Bool.and_self, IntWalk.u64_in, Int.cast_ofNat_Int, callF1, pad16, pad_0, pad_1, pad_2, pad_3, pad_4, pad_5, pad_6, pad_7, pad_8, pad_9, pad_10, pad_11, pad_12, pad_13, pad_14, pad_15, gc0, gc1, gc2, gc3, gc4, gc5, gc6, gc7, gc8, gc9, gc10, gc11, gc12, gc13, gc14, gc15, gcS, sc0, sc1, sc2, sc3, sc4, sc5, sc6, sc7, sc8, sc9, sc10, sc11, sc12, sc13, sc14, sc15, scS, List.drop_succ_cons, List.drop_nil]
          with_reducible refine done2 ?_
          repeat (first | refine ext_new hN ?_ | exact ext_refl)
        · by_cases a4 : p > 15
          · have c2 : (0 ≤ p ∧ p ≤ 15) = False := eq_false (by omega)
            simp -implicitDefEqProofs (maxSteps := 10000000) (disch := omega) only [L19, G19_21, hB, hR, hI, f21 hG, a1, a2, a3, a4, c1, c2, pad, e_skip, e_ops, e_draw, d_none, d_nil, d_cons, d_ite, h_none, h_nil, h_cons, h_ite, eqS_same, lightV, e_seq, e_cond, e_block, e_loop, e_exit, e_ret, s_normal, s_ret, s_exit, s_none, s_ite, b_normal, b_ret, b_exit, b_none, b_ite, c_bool, o_some, o_none, o_ite, x_none, x_nil, x_cons, x_ite, p_some, p_none, p_ite, pt_some, pt_none, pv_some, pv_none, pv_ite, w_none, w_some, i_bool, i_undef, bt, bf, v_tmp, v_const, v_global, v_func, evs, f_normal, f_ret, f_none, f_ite, r_some, co_some, l_ptr, m_agg, m_one, sh_app, lk_nil, lk_cons, rd_eq, rdO_some, rdO_none, rdN_none, rdL_some, rdL_none, wrB_none, unitR_some, wrC_some, wrK_cells, consH_some, wr_nil, wr_here, wr_skip, wrH_cons, k_cells, tk_zero, tk_take, tk_skip, tkC_some, call_func, gt, st, stepOp, newB, ptrTo, binV, arith, isSh, storeV, all1, idxAV, fieldV, faddrV, iaddrSV, iaddrAV, pickV, convV, unV, eqbV, eqpV, extV, lenV, mm2, mmV, nilckV, ress, res1, retV, Value.cells, cond_true, cond_false, Bool.true_or, Bool.false_or, Bool.or_true, Bool.or_false, beq_self_eq_true, if_true, if_false, ite_true, ite_false, decide_true, decide_false, decide_eq_true_eq, reduceIte, Nat.zero_add, Nat.add_zero, and_self, true_and, and_true, List.size_toArray, List.length_cons, List.length_nil, List.append_nil, List.nil_append, Int.toNat_zero, Bool.not_false, Bool.not_true, Bool.not_not, Bool.false_eq_true, Bool.true_eq_false, reduceCtorEq, Int.reduceLT, Int.reduceLE, Int.reduceToNat, Int.reduceAdd, Int.reduceSub, Int.reduceMul, Int.reduceNeg, Nat.reduceMul, Nat.reduceAdd, Nat.reduceSub, Nat.reduceBEq, Nat.reduceEqDiff, Nat.reduceLT, Nat.reduceLeDiff, Int.reduceBEq, Int.reduceEq, Nat.reducePow, Int.reducePow, IntWalk.i64_in, IntKind.bits, eqAV, eqL, leafEq, andO, fillV, buildSV, List.getElem?_toArray, List.getElem?_cons_zero, List.getElem?_cons_succ, List.getElem?_nil, Int.reduceGT, Int.reduceGE, Int.reduceBNe, Bool.true_and, Bool.and_true, Bool.false_and, Bool.and_false, Bool.and_self, IntWalk.u64_in, Int.cast_ofNat_Int, callF1, pad16, pad_0, pad_1, pad_2, pad_3, pad_4, pad_5, pad_6, pad_7, pad_8, pad_9, pad_10, pad_11, pad_12, pad_13, pad_14, pad_15, gc0, gc1, gc2, gc3, gc4, gc5, gc6, gc7, gc8, gc9, gc10, gc11, gc12, gc13, gc14, gc15, gcS, sc0, sc1, sc2, sc3, sc4, sc5, sc6, sc7, sc8, sc9, sc10, sc11, sc12, sc13, sc14, sc15, scS, List.drop_succ_cons, List.drop_nil]
            with_reducible refine done2 ?_
            repeat (first | refine ext_new hN ?_ | exact ext_refl)
          · have c2 : (0 ≤ p ∧ p ≤ 15) = True := eq_true (by omega)
            have e1 : (s == 0) = true := by simp; omega
            have e2 : (p != 0) = true := by simp; omega
            simp -implicitDefEqProofs (maxSteps := 10000000) (disch := omega) only [L19, G19_21, hB, hR, hI, f21 hG, a1, a2, a3, a4, c1, c2, e1, e2, pad, e_skip, e_ops, e_draw, d_none, d_nil, d_cons, d_ite, h_none, h_nil, h_cons, h_ite, eqS_same, lightV, e_seq, e_cond, e_block, e_loop, e_exit, e_ret, s_normal, s_ret, s_exit, s_none, s_ite, b_normal, b_ret, b_exit, b_none, b_ite, c_bool, o_some, o_none, o_ite, x_none, x_nil, x_cons, x_ite, p_some, p_none, p_ite, pt_some, pt_none, pv_some, pv_none, pv_ite, w_none, w_some, i_bool, i_undef, bt, bf, v_tmp, v_const, v_global, v_func, evs, f_normal, f_ret, f_none, f_ite, r_some, co_some, l_ptr, m_agg, m_one, sh_app, lk_nil, lk_cons, rd_eq, rdO_some, rdO_none, rdN_none, rdL_some, rdL_none, wrB_none, unitR_some, wrC_some, wrK_cells, consH_some, wr_nil, wr_here, wr_skip, wrH_cons, k_cells, tk_zero, tk_take, tk_skip, tkC_some, call_func, gt, st, stepOp, newB, ptrTo, binV, arith, isSh, storeV, all1, idxAV, fieldV, faddrV, iaddrSV, iaddrAV, pickV, convV, unV, eqbV, eqpV, extV, lenV, mm2, mmV, nilckV, ress, res1, retV, Value.cells, cond_true, cond_false, Bool.true_or, Bool.false_or, Bool.or_true, Bool.or_false, beq_self_eq_true, if_true, if_false, ite_true, ite_false, decide_true, decide_false, decide_eq_true_eq, reduceIte, Nat.zero_add, Nat.add_zero, and_self, true_and, and_true, List.size_toArray, List.length_cons, List.length_nil, List.append_nil, List.nil_append, Int.toNat_zero, Bool.not_false, Bool.not_true, Bool.not_not, Bool.false_eq_true, Bool.true_eq_false, reduceCtorEq, Int.reduceLT, Int.reduceLE, Int.reduceToNat, Int.reduceAdd, Int.reduceSub, Int.reduceMul, Int.reduceNeg, Nat.reduceMul, Nat.reduceAdd, Nat.reduceSub, Nat.reduceBEq, Nat.reduceEqDiff, Nat.reduceLT, Nat.reduceLeDiff, Int.reduceBEq, Int.reduceEq, Nat.reducePow, Int.reducePow, IntWalk.i64_in, IntKind.bits, eqAV, eqL, leafEq, andO, fillV, buildSV, List.getElem?_toArray, List.getElem?_cons_zero, List.getElem?_cons_succ, List.getElem?_nil, Int.reduceGT, Int.reduceGE, Int.reduceBNe, Bool.true_and, Bool.and_true, Bool.false_and, Bool.and_false, Bool.and_self, IntWalk.u64_in, Int.cast_ofNat_Int, callF1, pad16, pad_0, pad_1, pad_2, pad_3, pad_4, pad_5, pad_6, pad_7, pad_8, pad_9, pad_10, pad_11, pad_12, pad_13, pad_14, pad_15, gc0, gc1, gc2, gc3, gc4, gc5, gc6, gc7, gc8, gc9, gc10, gc11, gc12, gc13, gc14, gc15, gcS, sc0, sc1, sc2, sc3, sc4, sc5, sc6, sc7, sc8, sc9, sc10, sc11, sc12, sc13, sc14, sc15, scS, List.drop_succ_cons, List.drop_nil]
            with_reducible refine done2 ?_
            repeat (first | refine ext_new hN ?_ | exact ext_refl)
/-- whitewash/whitewashref06.Head -/
def L20 : FnL := ⟨(.seq (.ops [⟨(some 4), .mv (.const (.int .u64 0)), none⟩, ⟨(some 5), .mv (.const (.int .i64 0)), none⟩])
 (.seq (.seq (.ops [⟨(some 6), .mv (.tmp 0), none⟩, ⟨(some 7), .bin .lss (.tmp 6) (.const (.int .i64 0)), none⟩, ⟨(some 8), .mv (.tmp 7), none⟩, ⟨(some 9), .mv (.tmp 0), (some (8, false))⟩, ⟨(some 10), .bin .gtr (.tmp 9) (.const (.int .i64 2)), (some (8, false))⟩, ⟨(some 11), .pick (.tmp 8) (.const (.bool true)) (.tmp 10), none⟩, ⟨(some 12), .mv (.tmp 11), none⟩, ⟨(some 13), .mv (.tmp 1), (some (12, false))⟩, ⟨(some 14), .bin .lss (.tmp 13) (.const (.int .i64 0)), (some (12, false))⟩, ⟨(some 15), .pick (.tmp 12) (.const (.bool true)) (.tmp 14), none⟩, ⟨(some 16), .mv (.tmp 15), none⟩, ⟨(some 17), .mv (.tmp 1), (some (16, false))⟩, ⟨(some 18), .bin .gtr (.tmp 17) (.const (.int .i64 15)), (some (16, false))⟩, ⟨(some 19), .pick (.tmp 16) (.const (.bool true)) (.tmp 18), none⟩, ⟨(some 20), .mv (.tmp 19), none⟩, ⟨(some 21), .mv (.tmp 0), (some (20, false))⟩, ⟨(some 22), .bin .eql (.tmp 21) (.const (.int .i64 0)), (some (20, false))⟩, ⟨(some 23), .mv (.tmp 22), (some (20, false))⟩, ⟨(some 24), .mv (.tmp 1), (some (23, true))⟩, ⟨(some 25), .bin .neq (.tmp 24) (.const (.int .i64 0)), (some (23, true))⟩, ⟨(some 26), .pick (.tmp 23) (.tmp 25) (.const (.bool false)), (some (20, false))⟩, ⟨(some 27), .pick (.tmp 20) (.const (.bool true)) (.tmp 26), none⟩])
 (.cond (.tmp 27) (.seq (.ops [⟨(some 4), .mv (.const (.int .u64 0)), none⟩, ⟨(some 5), .mv (.const (.int .i64 1)), none⟩])
 .ret)
 .skip))
 (.seq (.seq (.ops [⟨(some 28), .mv (.tmp 0), none⟩, ⟨(some 29), .bin .eql (.tmp 28) (.const (.int .i64 0)), none⟩])
 (.cond (.tmp 29) (.seq (.ops [⟨(some 4), .mv (.const (.int .u64 0)), none⟩, ⟨(some 5), .mv (.const (.int .i64 0)), none⟩])
 .ret)
 .skip))
 (.seq (.ops [⟨(some 30), .mv (.tmp 1), none⟩, ⟨(some 31), .bin .mul (.const (.int .i64 2)) (.tmp 30), none⟩, ⟨(some 32), .mv (.tmp 0), none⟩, ⟨(some 33), .bin .add (.tmp 31) (.tmp 32), none⟩, ⟨(some 34), .conv .u64 (.tmp 33), none⟩, ⟨(some 4), .mv (.tmp 34), none⟩, ⟨(some 5), .mv (.const (.int .i64 0)), none⟩])
 .ret)))),
 35, [.tmp 4, .tmp 5]⟩
theorem low20 : lowerFn Try.prog Try.f20 = some L20 := by kernel_rfl
noncomputable def G20 (B : OH) : Nat → Cs
  | _ => fun _ _ _ => none
theorem sG20 {w0 : World} {B : OH} : SoundG Try.prog w0 B (G20 B) := fun k => by
  unfold G20
  split
  · exact .inl fun _ _ _ => rfl
noncomputable def F20 (B : OH) : List Value → Option Value := kval B (callF B (G20 B) 80 L20)
noncomputable def V20 (B : OH) : Cs := fun a H N => pv (F20 B a) H N
theorem en20 : Enter Try.prog 20 := .of Try.func20 (by kernel_rfl) (by kernel_rfl)
theorem sV20 {w0 : World} {B : OH} : SoundC Try.prog w0 B 20 (V20 B) := (callF_sound mixedOrders sG20 80 Try.func20 low20).ofVal
set_option maxHeartbeats 1000000 in
theorem f20 {B : OH} (hG : ∃ H N, good B H N) (s p : Int) (hs : -9223372036854775808 ≤ s ∧ s ≤ 9223372036854775807) (hp : -9223372036854775808 ≤ p ∧ p ≤ 9223372036854775807) : F20 B [.int .i64 s, .int .i64 p] = some (.tuple #[.int .u64 (hdA s p), .int .i64 (hdE s p)]) := by
  refine kval_eq hG fun H N hN => ?_
  have hB := good_B hN
  have hR := good_rdB hN
  have hI := beqN hN.1
  unfold hdA hdE
  by_cases h : okH s p
  · rw [if_pos h, if_pos h]
    unfold okH at h
    have c1 : (0 ≤ s ∧ s ≤ 2) = True := eq_true ⟨h.1, h.2.1⟩
    have c2 : (0 ≤ p ∧ p ≤ 15) = True := eq_true ⟨h.2.2.1, h.2.2.2.1⟩
    have n1 : ¬ s < 0 := by omega
    have n2 : ¬ s > 2 := by omega
    have n3 : ¬ p < 0 := by omega
    have n4 : ¬ p > 15 := by omega
    have w1 : IntKind.i64.wrap (2 * p) = 2 * p := IntWalk.i64_in _ (by omega)
    have w2 : IntKind.i64.wrap (2 * p + s) = 2 * p + s := IntWalk.i64_in _ (by omega)
    have w3 : IntKind.u64.wrap (2 * p + s) = 2 * p + s := IntWalk.u64_in _ (by omega)
    by_cases h0 : s = 0
    · have hp : p = 0 := h.2.2.2.2 h0
      subst h0
      subst hp
      simp -implicitDefEqProofs (maxSteps := 10000000) (disch := omega) only [L20, hB, hR, hI, bne_self_eq_false, ge_iff_le, Int.mul_zero, Int.add_zero, pad, e_skip, e_ops, e_draw, d_none, d_nil, d_cons, d_ite, h_none, h_nil, h_cons, h_ite, eqS_same, lightV, e_seq, e_cond, e_block, e_loop, e_exit, e_ret, s_normal, s_ret, s_exit, s_none, s_ite, b_normal, b_ret, b_exit, b_none, b_ite, c_bool, o_some, o_none, o_ite, x_none, x_nil, x_cons, x_ite, p_some, p_none, p_ite, pt_some, pt_none, pv_some, pv_none, pv_ite, w_none, w_some, i_bool, i_undef, bt, bf, v_tmp, v_const, v_global, v_func, evs, f_normal, f_ret, f_none, f_ite, r_some, co_some, l_ptr, m_agg, m_one, sh_app, lk_nil, lk_cons, rd_eq, rdO_some, rdO_none, rdN_none, rdL_some, rdL_none, wrB_none, unitR_some, wrC_some, wrK_cells, consH_some, wr_nil, wr_here, wr_skip, wrH_cons, k_cells, tk_zero, tk_take, tk_skip, tkC_some, call_func, gt, st, stepOp, newB, ptrTo, binV, arith, isSh, storeV, all1, idxAV, fieldV, faddrV, iaddrSV, iaddrAV, pickV, convV, unV, eqbV, eqpV, extV, lenV, mm2, mmV, nilckV, ress, res1, retV, Value.cells, cond_true, cond_false, Bool.true_or, Bool.false_or, Bool.or_true, Bool.or_false, beq_self_eq_true, if_true, if_false, ite_true, ite_false, decide_true, decide_false, decide_eq_true_eq, reduceIte, Nat.zero_add, Nat.add_zero, and_self, true_and, and_true, List.size_toArray, List.length_cons, List.length_nil, List.append_nil, List.nil_append, Int.toNat_zero, Bool.not_false, Bool.not_true, Bool.not_not, Bool.false_eq_true, Bool.true_eq_false, reduceCtorEq, Int.reduceLT, Int.reduceLE, Int.reduceToNat, Int.reduceAdd, Int.reduceSub, Int.reduceMul, Int.reduceNeg, Nat.reduceMul, Nat.reduceAdd, Nat.reduceSub, Nat.reduceBEq, Nat.reduceEqDiff, Nat.reduceLT, Nat.reduceLeDiff, Int.reduceBEq, Int.reduceEq, Nat.reducePow, Int.reducePow, IntWalk.i64_in, IntKind.bits, eqAV, eqL, leafEq, andO, fillV, buildSV, List.getElem?_toArray, List.getElem?_cons_zero, List.getElem?_cons_succ, List.getElem?_nil, Int.reduceGT, Int.reduceGE, Int.reduceBNe, Bool.true_and, Bool.and_true, Bool.false_and, Bool.and_false, Bool.and_self, IntWalk.u64_in, Int.cast_ofNat_Int, callF1, pad16, pad_0, pad_1, pad_2, pad_3, pad_4, pad_5, pad_6, pad_7, pad_8, pad_9, pad_10, pad_11, pad_12, pad_13, pad_14, pad_15, gc0, gc1, gc2, gc3, gc4, gc5, gc6, gc7, gc8, gc9, gc10, gc11, gc12, gc13, gc14, gc15, gcS, sc0, sc1, sc2, sc3, sc4, sc5, sc6, sc7, sc8, sc9, sc10, sc11, sc12, sc13, sc14, sc15, scS, List.drop_succ_cons, List.drop_nil]
      with_reducible refine done2 ?_
      repeat (first | refine ext_new hN ?_ | exact ext_refl)
    · have e0 : (s == 0) = false := by simpa using h0
      simp -implicitDefEqProofs (maxSteps := 10000000) (disch := omega) only [L20, hB, hR, hI, c1, c2, n1, n2, n3, n4, w1, w2, w3, e0, pad, e_skip, e_ops, e_draw, d_none, d_nil, d_cons, d_ite, h_none, h_nil, h_cons, h_ite, eqS_same, lightV, e_seq, e_cond, e_block, e_loop, e_exit, e_ret, s_normal, s_ret, s_exit, s_none, s_ite, b_normal, b_ret, b_exit, b_none, b_ite, c_bool, o_some, o_none, o_ite, x_none, x_nil, x_cons, x_ite, p_some, p_none, p_ite, pt_some, pt_none, pv_some, pv_none, pv_ite, w_none, w_some, i_bool, i_undef, bt, bf, v_tmp, v_const, v_global, v_func, evs, f_normal, f_ret, f_none, f_ite, r_some, co_some, l_ptr, m_agg, m_one, sh_app, lk_nil, lk_cons, rd_eq, rdO_some, rdO_none, rdN_none, rdL_some, rdL_none, wrB_none, unitR_some, wrC_some, wrK_cells, consH_some, wr_nil, wr_here, wr_skip, wrH_cons, k_cells, tk_zero, tk_take, tk_skip, tkC_some, call_func, gt, st, stepOp, newB, ptrTo, binV, arith, isSh, storeV, all1, idxAV, fieldV, faddrV, iaddrSV, iaddrAV, pickV, convV, unV, eqbV, eqpV, extV, lenV, mm2, mmV, nilckV, ress, res1, retV, Value.cells, cond_true, cond_false, Bool.true_or, Bool.false_or, Bool.or_true, Bool.or_false, beq_self_eq_true, if_true, if_false, ite_true, ite_false, decide_true, decide_false, decide_eq_true_eq, reduceIte, Nat.zero_add, Nat.add_zero, and_self, true_and, and_true, List.size_toArray, List.length_cons, List.length_nil, List.append_nil, List.nil_append, Int.toNat_zero, Bool.not_false, Bool.not_true, Bool.not_not, Bool.false_eq_true, Bool.true_eq_false, reduceCtorEq, Int.reduceLT, Int.reduceLE, Int.reduceToNat, Int.reduceAdd, Int.reduceSub, Int.reduceMul, Int.reduceNeg, Nat.reduceMul, Nat.reduceAdd, Nat.reduceSub, Nat.reduceBEq, Nat.reduceEqDiff, Nat.reduceLT, Nat.reduceLeDiff, Int.reduceBEq, Int.reduceEq, Nat.reducePow, Int.reducePow, IntWalk.i64_in, IntKind.bits, eqAV, eqL, leafEq, andO, fillV, buildSV, List.getElem?_toArray, List.getElem?_cons_zero, List.getElem?_cons_succ, List.getElem?_nil, Int.reduceGT, Int.reduceGE, Int.reduceBNe, Bool.true_and, Bool.and_true, Bool.false_and, Bool.and_false, Bool.and_self, IntWalk.u64_in, Int.cast_ofNat_Int, callF1, pad16, pad_0, pad_1, pad_2, pad_3, pad_4, pad_5, pad_6, pad_7, pad_8, pad_9, pad_10, pad_11, pad_12, pad_13, pad_14, pad_15, gc0, gc1, gc2, gc3, gc4, gc5, gc6, gc7, gc8, gc9, gc10, gc11, gc12, gc13, gc14, gc15, gcS, sc0, sc1, sc2, sc3, sc4, sc5, sc6, sc7, sc8, sc9, sc10, sc11, sc12, sc13, sc14, sc15, scS, List.drop_succ_cons, List.drop_nil]
      with_reducible refine done2 ?_
      repeat (first | refine ext_new hN ?_ | exact ext_refl)
  · rw [if_neg h, if_neg h]
    unfold okH at h
    by_cases a1 : s < 0
    · have c1 : (0 ≤ s ∧ s ≤ 2) = False := eq_false (by omega)
      simp -implicitDefEqProofs (maxSteps := 10000000) (disch := omega) only [L20, hB, hR, hI, a1, c1, pad, e_skip, e_ops, e_draw, d_none, d_nil, d_cons, d_ite, h_none, h_nil, h_cons, h_ite, eqS_same, lightV, e_seq, e_cond, e_block, e_loop, e_exit, e_ret, s_normal, s_ret, s_exit, s_none, s_ite, b_normal, b_ret, b_exit, b_none, b_ite, c_bool, o_some, o_none, o_ite, x_none, x_nil, x_cons, x_ite, p_some, p_none, p_ite, pt_some, pt_none, pv_some, pv_none, pv_ite, w_none, w_some, i_bool, i_undef, bt, bf, v_tmp, v_const, v_global, v_func, evs, f_normal, f_ret, f_none, f_ite, r_some, co_some, l_ptr, m_agg, m_one, sh_app, lk_nil, lk_cons, rd_eq, rdO_some, rdO_none, rdN_none, rdL_some, rdL_none, wrB_none, unitR_some, wrC_some, wrK_cells, consH_some, wr_nil, wr_here, wr_skip, wrH_cons, k_cells, tk_zero, tk_take, tk_skip, tkC_some, call_func, gt, st, stepOp, newB, ptrTo, binV, arith, isSh, storeV, all1, idxAV, fieldV, faddrV, iaddrSV, iaddrAV, pickV, convV, unV, eqbV, eqpV, extV, lenV, mm2, mmV, nilckV, ress, res1, retV, Value.cells, cond_true, cond_false, Bool.true_or, Bool.false_or, Bool.or_true, Bool.or_false, beq_self_eq_true, if_true, if_false, ite_true, ite_false, decide_true, decide_false, decide_eq_true_eq, reduceIte, Nat.zero_add, Nat.add_zero, and_self, true_and, and_true, List.size_toArray, List.length_cons, List.length_nil, List.append_nil, List.nil_append, Int.toNat_zero, Bool.not_false, Bool.not_true, Bool.not_not, Bool.false_eq_true, Bool.true_eq_false, reduceCtorEq, Int.reduceLT, Int.reduceLE, Int.reduceToNat, Int.reduceAdd, Int.reduceSub, Int.reduceMul, Int.reduceNeg, Nat.reduceMul, Nat.reduceAdd, Nat.reduceSub, Nat.reduceBEq, Nat.reduceEqDiff, Nat.reduceLT, Nat.reduceLeDiff, Int.reduceBEq, Int.reduceEq, Nat.reducePow, Int.reducePow, IntWalk.i64_in, IntKind.bits, eqAV, eqL, leafEq, andO, fillV, buildSV, List.getElem?_toArray, List.getElem?_cons_zero, List.getElem?_cons_succ, List.getElem?_nil, Int.reduceGT, Int.reduceGE, Int.reduceBNe, Bool.true_and, Bool.and_true, Bool.false_and, Bool.and_false, Bool.and_self, IntWalk.u64_in, Int.cast_ofNat_Int, callF1, pad16, pad_0, pad_1, pad_2, pad_3, pad_4, pad_5, pad_6, pad_7, pad_8, pad_9, pad_10, pad_11, pad_12, pad_13, pad_14, pad_15, gc0, gc1, gc2, gc3, gc4, gc5, gc6, gc7, gc8, gc9, gc10, gc11, gc12, gc13, gc14, gc15, gcS, sc0, sc1, sc2, sc3, sc4, sc5, sc6, sc7, sc8, sc9, sc10, sc11, sc12, sc13, sc14, sc15, scS, List.drop_succ_cons, List.drop_nil]
      with_reducible refine done2 ?_
      repeat (first | refine ext_new hN ?_ | exact ext_refl)
    · by_cases a2 : s > 2
      · have c1 : (0 ≤ s ∧ s ≤ 2) = False := eq_false (by omega)
        simp -implicitDefEqProofs (maxSteps := 10000000) (disch := omega) only [L20, hB, hR, hI, a1, a2, c1, pad, e_skip, e_ops, e_draw, d_none, d_nil, d_cons, d_ite, h_none, h_nil, h_cons, h_ite, eqS_same, lightV, e_seq, e_cond, e_block, e_loop, e_exit, e_ret, s_normal, s_ret, s_exit, s_none, s_ite, b_normal, b_ret, b_exit, b_none, b_ite, c_bool, o_some, o_none, o_ite, x_none, x_nil, x_cons, x_ite, p_some, p_none, p_ite, pt_some, pt_none, pv_some, pv_none, pv_ite, w_none, w_some, i_bool, i_undef, bt, bf, v_tmp, v_const, v_global, v_func, evs, f_normal, f_ret, f_none, f_ite, r_some, co_some, l_ptr, m_agg, m_one, sh_app, lk_nil, lk_cons, rd_eq, rdO_some, rdO_none, rdN_none, rdL_some, rdL_none, wrB_none, unitR_some, wrC_some, wrK_cells, consH_some, wr_nil, wr_here, wr_skip, wrH_cons, k_cells, tk_zero, tk_take, tk_skip, tkC_some, call_func, gt, st, stepOp, newB, ptrTo, binV, arith, isSh, storeV, all1, idxAV, fieldV, faddrV, iaddrSV, iaddrAV, pickV, convV, unV, eqbV, eqpV, extV, lenV, mm2, mmV, nilckV, ress, res1, retV, Value.cells, cond_true, cond_false, Bool.true_or, Bool.false_or, Bool.or_true, Bool.or_false, beq_self_eq_true, if_true, if_false, ite_true, ite_false, decide_true, decide_false, decide_eq_true_eq, reduceIte, Nat.zero_add, Nat.add_zero, and_self, true_and, and_true, List.size_toArray, List.length_cons, List.length_nil, List.append_nil, List.nil_append, Int.toNat_zero, Bool.not_false, Bool.not_true, Bool.not_not, Bool.false_eq_true, Bool.true_eq_false, reduceCtorEq, Int.reduceLT, Int.reduceLE, Int.reduceToNat, Int.reduceAdd, Int.reduceSub, Int.reduceMul, Int.reduceNeg, Nat.reduceMul, Nat.reduceAdd, Nat.reduceSub, Nat.reduceBEq, Nat.reduceEqDiff, Nat.reduceLT, Nat.reduceLeDiff, Int.reduceBEq, Int.reduceEq, Nat.reducePow, Int.reducePow, IntWalk.i64_in, IntKind.bits, eqAV, eqL, leafEq, andO, fillV, buildSV, List.getElem?_toArray, List.getElem?_cons_zero, List.getElem?_cons_succ, List.getElem?_nil, Int.reduceGT, Int.reduceGE, Int.reduceBNe, Bool.true_and, Bool.and_true, Bool.false_and, Bool.and_false, Bool.and_self, IntWalk.u64_in, Int.cast_ofNat_Int, callF1, pad16, pad_0, pad_1, pad_2, pad_3, pad_4, pad_5, pad_6, pad_7, pad_8, pad_9, pad_10, pad_11, pad_12, pad_13, pad_14, pad_15, gc0, gc1, gc2, gc3, gc4, gc5, gc6, gc7, gc8, gc9, gc10, gc11, gc12, gc13, gc14, gc15, gcS, sc0, sc1, sc2, sc3, sc4, sc5, sc6, sc7, sc8, sc9, sc10, sc11, sc12, sc13, sc14, sc15, scS, List.drop_succ_cons, List.drop_nil]
        with_reducible refine done2 ?_
        repeat (first | refine ext_new hN ?_ | exact ext_refl)
      · have c1 : (0 ≤ s ∧ s ≤ 2) = True := eq_true (by omega)
        by_cases a3 : p < 0
        · have c2 : (0 ≤ p ∧ p ≤ 15) = False := eq_false (by omega)
          simp -implicitDefEqProofs (maxSteps := 10000000) (disch := omega) only [L20, hB, hR, hI, a1, a2, a3, c1, c2, pad, e_skip, e_ops, e_draw, d_none, d_nil, d_cons, d_ite, h_none, h_nil, h_cons, h_ite, eqS_same, lightV, e_seq, e_cond, e_block, e_loop, e_exit, e_ret, s_normal, s_ret, s_exit, s_none, s_ite, b_normal, b_ret, b_exit, b_none, b_ite, c_bool, o_some, o_none, o_ite, x_none, x_nil, x_cons, x_ite, p_some, p_none, p_ite, pt_some, pt_none, pv_some, pv_none, pv_ite, w_none, w_some, i_bool, i_undef, bt, bf, v_tmp, v_const, v_global, v_func, evs, f_normal, f_ret, f_none, f_ite, r_some, co_some, l_ptr, m_agg, m_one, sh_app, lk_nil, lk_cons, rd_eq, rdO_some, rdO_none, rdN_none, rdL_some, rdL_none, wrB_none, unitR_some, wrC_some, wrK_cells, consH_some, wr_nil, wr_here, wr_skip, wrH_cons, k_cells, tk_zero, tk_take, tk_skip, tkC_some, call_func, gt, st, stepOp, newB, ptrTo, binV, arith, isSh, storeV, all1, idxAV, fieldV, faddrV, iaddrSV, iaddrAV, pickV, convV, unV, eqbV, eqpV, extV, lenV, mm2, mmV, nilckV, ress, res1, retV, Value.cells, cond_true, cond_false, Bool.true_or, Bool.false_or, Bool.or_true, Bool.or_false, beq_self_eq_true, if_true, if_false, ite_true, ite_false, decide_true, decide_false, decide_eq_true_eq, reduceIte, Nat.zero_add, Nat.add_zero, and_self, true_and, and_true, List.size_toArray, List.length_cons, List.length_nil, List.append_nil, List.nil_append, Int.toNat_zero, Bool.not_false, Bool.not_true, Bool.not_not, Bool.false_eq_true, Bool.true_eq_false, reduceCtorEq, Int.reduceLT, Int.reduceLE, Int.reduceToNat, Int.reduceAdd, Int.reduceSub, Int.reduceMul, Int.reduceNeg, Nat.reduceMul, Nat.reduceAdd, Nat.reduceSub, Nat.reduceBEq, Nat.reduceEqDiff, Nat.reduceLT, Nat.reduceLeDiff, Int.reduceBEq, Int.reduceEq, Nat.reducePow, Int.reducePow, IntWalk.i64_in, IntKind.bits, eqAV, eqL, leafEq, andO, fillV, buildSV, List.getElem?_toArray, List.getElem?_cons_zero, List.getElem?_cons_succ, List.getElem?_nil, Int.reduceGT, Int.reduceGE, Int.reduceBNe, Bool.true_and, Bool.and_true, Bool.false_and, Bool.and_false, Bool.and_self, IntWalk.u64_in, Int.cast_ofNat_Int, callF1, pad16, pad_0, pad_1, pad_2, pad_3, pad_4, pad_5, pad_6, pad_7, pad_8, pad_9, pad_10, pad_11, pad_12, pad_13, pad_14, pad_15, gc0, gc1, gc2, gc3, gc4, gc5, gc6, gc7, gc8, gc9, gc10, gc11, gc12, gc13, gc14, gc15, gcS, sc0, sc1, sc2, sc3, sc4, sc5, sc6, sc7, sc8, sc9, sc10, sc11, sc12, sc13, sc14, sc15, scS, List.drop_succ_cons, List.drop_nil]
          with_reducible refine done2 ?_
          repeat (first | refine ext_new hN ?_ | exact ext_refl)
        · by_cases a4 : p > 15
          · have c2 : (0 ≤ p ∧ p ≤ 15) = False := eq_false (by omega)
            simp -implicitDefEqProofs (maxSteps := 10000000) (disch := omega) only [L20, hB, hR, hI, a1, a2, a3, a4, c1, c2, pad, e_skip, e_ops, e_draw, d_none, d_nil, d_cons, d_ite, h_none, h_nil, h_cons, h_ite, eqS_same, lightV, e_seq, e_cond, e_block, e_loop, e_exit, e_ret, s_normal, s_ret, s_exit, s_none, s_ite, b_normal, b_ret, b_exit, b_none, b_ite, c_bool, o_some, o_none, o_ite, x_none, x_nil, x_cons, x_ite, p_some, p_none, p_ite, pt_some, pt_none, pv_some, pv_none, pv_ite, w_none, w_some, i_bool, i_undef, bt, bf, v_tmp, v_const, v_global, v_func, evs, f_normal, f_ret, f_none, f_ite, r_some, co_some, l_ptr, m_agg, m_one, sh_app, lk_nil, lk_cons, rd_eq, rdO_some, rdO_none, rdN_none, rdL_some, rdL_none, wrB_none, unitR_some, wrC_some, wrK_cells, consH_some, wr_nil, wr_here, wr_skip, wrH_cons, k_cells, tk_zero, tk_take, tk_skip, tkC_some, call_func, gt, st, stepOp, newB, ptrTo, binV, arith, isSh, storeV, all1, idxAV, fieldV, faddrV, iaddrSV, iaddrAV, pickV, convV, unV, eqbV, eqpV, extV, lenV, mm2, mmV, nilckV, ress, res1, retV, Value.cells, cond_true, cond_false, Bool.true_or, Bool.false_or, Bool.or_true, Bool.or_false, beq_self_eq_true, if_true, if_false, ite_true, ite_false, decide_true, decide_false, decide_eq_true_eq, reduceIte, Nat.zero_add, Nat.add_zero, and_self, true_and, and_true, List.size_toArray, List.length_cons, List.length_nil, List.append_nil, List.nil_append, Int.toNat_zero, Bool.not_false, Bool.not_true, Bool.not_not, Bool.false_eq_true, Bool.true_eq_false, reduceCtorEq, Int.reduceLT, Int.reduceLE, Int.reduceToNat, Int.reduceAdd, Int.reduceSub, Int.reduceMul, Int.reduceNeg, Nat.reduceMul, Nat.reduceAdd, Nat.reduceSub, Nat.reduceBEq, Nat.reduceEqDiff, Nat.reduceLT, Nat.reduceLeDiff, Int.reduceBEq, Int.reduceEq, Nat.reducePow, Int.reducePow, IntWalk.i64_in, IntKind.bits, eqAV, eqL, leafEq, andO, fillV, buildSV, List.getElem?_toArray, List.getElem?_cons_zero, List.getElem?_cons_succ, List.getElem?_nil, Int.reduceGT, Int.reduceGE, Int.reduceBNe, Bool.true_and, Bool.and_true, Bool.false_and, Bool.and_false, Bool.and_self, IntWalk.u64_in, Int.cast_ofNat_Int, callF1, pad16, pad_0, pad_1, pad_2, pad_3, pad_4, pad_5, pad_6, pad_7, pad_8, pad_9, pad_10, pad_11, pad_12, pad_13, pad_14, pad_15, gc0, gc1, gc2, gc3, gc4, gc5, gc6, gc7, gc8, gc9, gc10, gc11, gc12, gc13, gc14, gc15, gcS, sc0, sc1, sc2, sc3, sc4, sc5, sc6, sc7, sc8, sc9, sc10, sc11, sc12, sc13, sc14, sc15, scS, List.drop_succ_cons, List.drop_nil]
            with_reducible refine done2 ?_
            repeat (first | refine ext_new hN ?_ | exact ext_refl)
          · have c2 : (0 ≤ p ∧ p ≤ 15) = True := eq_true (by omega)
            have e1 : (s == 0) = true := by simp; omega
            have e2 : (p != 0) = true := by simp; omega
            simp -implicitDefEqProofs (maxSteps := 10000000) (disch := omega) only [L20, hB, hR, hI, a1, a2, a3, a4, c1, c2, e1, e2, pad, e_skip, e_ops, e_draw, d_none, d_nil, d_cons, d_ite, h_none, h_nil, h_cons, h_ite, eqS_same, lightV, e_seq, e_cond, e_block, e_loop, e_exit, e_ret, s_normal, s_ret, s_exit, s_none, s_ite, b_normal, b_ret, b_exit, b_none, b_ite, c_bool, o_some, o_none, o_ite, x_none, x_nil, x_cons, x_ite, p_some, p_none, p_ite, pt_some, pt_none, pv_some, pv_none, pv_ite, w_none, w_some, i_bool, i_undef, bt, bf, v_tmp, v_const, v_global, v_func, evs, f_normal, f_ret, f_none, f_ite, r_some, co_some, l_ptr, m_agg, m_one, sh_app, lk_nil, lk_cons, rd_eq, rdO_some, rdO_none, rdN_none, rdL_some, rdL_none, wrB_none, unitR_some, wrC_some, wrK_cells, consH_some, wr_nil, wr_here, wr_skip, wrH_cons, k_cells, tk_zero, tk_take, tk_skip, tkC_some, call_func, gt, st, stepOp, newB, ptrTo, binV, arith, isSh, storeV, all1, idxAV, fieldV, faddrV, iaddrSV, iaddrAV, pickV, convV, unV, eqbV, eqpV, extV, lenV, mm2, mmV, nilckV, ress, res1, retV, Value.cells, cond_true, cond_false, Bool.true_or, Bool.false_or, Bool.or_true, Bool.or_false, beq_self_eq_true, if_true, if_false, ite_true, ite_false, decide_true, decide_false, decide_eq_true_eq, reduceIte, Nat.zero_add, Nat.add_zero, and_self, true_and, and_true, List.size_toArray, List.length_cons, List.length_nil, List.append_nil, List.nil_append, Int.toNat_zero, Bool.not_false, Bool.not_true, Bool.not_not, Bool.false_eq_true, Bool.true_eq_false, reduceCtorEq, Int.reduceLT, Int.reduceLE, Int.reduceToNat, Int.reduceAdd, Int.reduceSub, Int.reduceMul, Int.reduceNeg, Nat.reduceMul, Nat.reduceAdd, Nat.reduceSub, Nat.reduceBEq, Nat.reduceEqDiff, Nat.reduceLT, Nat.reduceLeDiff, Int.reduceBEq, Int.reduceEq, Nat.reducePow, Int.reducePow, IntWalk.i64_in, IntKind.bits, eqAV, eqL, leafEq, andO, fillV, buildSV, List.getElem?_toArray, List.getElem?_cons_zero, List.getElem?_cons_succ, List.getElem?_nil, Int.reduceGT, Int.reduceGE, Int.reduceBNe, Bool.true_and, Bool.and_true, Bool.false_and, Bool.and_false, Bool.and_self, IntWalk.u64_in, Int.cast_ofNat_Int, callF1, pad16, pad_0, pad_1, pad_2, pad_3, pad_4, pad_5, pad_6, pad_7, pad_8, pad_9, pad_10, pad_11, pad_12, pad_13, pad_14, pad_15, gc0, gc1, gc2, gc3, gc4, gc5, gc6, gc7, gc8, gc9, gc10, gc11, gc12, gc13, gc14, gc15, gcS, sc0, sc1, sc2, sc3, sc4, sc5, sc6, sc7, sc8, sc9, sc10, sc11, sc12, sc13, sc14, sc15, scS, List.drop_succ_cons, List.drop_nil]
            with_reducible refine done2 ?_
            repeat (first | refine ext_new hN ?_ | exact ext_refl)
/-- whitewash/whitewashlaw06.awake -/
def L7 : FnL := ⟨(.seq (.ops [⟨(some 0), .mv (.const (.bool false)), none⟩])
 (.seq (.ops [⟨(some 24), .build [(.int .i64 0), (.int .u64 0)] [(0, 1, (.const (.int .i64 11)))], none⟩, ⟨(some 25), .call (.func 10) [(.tmp 24)], none⟩, ⟨(some 23), .mv (.tmp 25), none⟩, ⟨(some 26), .ext (.tmp 23) 0, none⟩, ⟨(some 27), .ext (.tmp 23) 1, none⟩, ⟨(some 1), .alloc [(.int .u64 0), (.int .u64 0)], none⟩, ⟨none, .store 2 (.tmp 1) (.tmp 26), none⟩, ⟨(some 2), .mv (.tmp 27), none⟩])
 (.seq (.ops [⟨(some 29), .call (.func 19) [(.const (.int .i64 2)), (.const (.int .i64 3))], none⟩, ⟨(some 28), .mv (.tmp 29), none⟩, ⟨(some 30), .ext (.tmp 28) 0, none⟩, ⟨(some 31), .ext (.tmp 28) 1, none⟩, ⟨(some 3), .mv (.tmp 30), none⟩, ⟨(some 4), .mv (.tmp 31), none⟩])
 (.seq (.ops [⟨(some 33), .build [(.int .i64 0), (.int .u64 0), (.int .u64 0)] [(0, 1, (.const (.int .i64 11))), (1, 1, (.const (.int .u64 5))), (2, 1, (.const (.int .u64 6)))], none⟩, ⟨(some 34), .call (.func 8) [(.tmp 33)], none⟩, ⟨(some 32), .mv (.tmp 34), none⟩, ⟨(some 35), .ext (.tmp 32) 0, none⟩, ⟨(some 36), .ext (.tmp 32) 1, none⟩, ⟨(some 5), .alloc [(.int .u64 0), (.int .u64 0), (.int .u64 0)], none⟩, ⟨none, .store 3 (.tmp 5) (.tmp 35), none⟩, ⟨(some 6), .mv (.tmp 36), none⟩])
 (.seq (.ops [⟨(some 38), .load true 3 (.tmp 5), none⟩, ⟨(some 39), .call (.func 12) [(.tmp 38)], none⟩, ⟨(some 37), .mv (.tmp 39), none⟩, ⟨(some 40), .ext (.tmp 37) 0, none⟩, ⟨(some 41), .ext (.tmp 37) 1, none⟩, ⟨(some 7), .alloc [(.int .i64 0), (.int .u64 0), (.int .u64 0)], none⟩, ⟨none, .store 3 (.tmp 7) (.tmp 40), none⟩, ⟨(some 8), .mv (.tmp 41), none⟩])
 (.seq (.ops [⟨(some 43), .load true 2 (.tmp 1), none⟩, ⟨(some 44), .call (.func 14) [(.tmp 43)], none⟩, ⟨(some 42), .mv (.tmp 44), none⟩, ⟨(some 45), .ext (.tmp 42) 0, none⟩, ⟨(some 46), .ext (.tmp 42) 1, none⟩, ⟨(some 9), .alloc [(.int .i64 0), (.int .u64 0)], none⟩, ⟨none, .store 2 (.tmp 9) (.tmp 45), none⟩, ⟨(some 10), .mv (.tmp 46), none⟩])
 (.seq (.ops [⟨(some 48), .call (.func 16) [(.const (.int .u64 8))], none⟩, ⟨(some 47), .mv (.tmp 48), none⟩, ⟨(some 49), .ext (.tmp 47) 0, none⟩, ⟨(some 50), .ext (.tmp 47) 1, none⟩, ⟨(some 51), .ext (.tmp 47) 2, none⟩, ⟨(some 11), .mv (.tmp 49), none⟩, ⟨(some 12), .mv (.tmp 50), none⟩, ⟨(some 13), .mv (.tmp 51), none⟩])
 (.seq (.ops [⟨(some 53), .build [(.int .u64 0), (.int .u64 0), (.int .u64 0)] [], none⟩, ⟨(some 54), .call (.func 12) [(.tmp 53)], none⟩, ⟨(some 52), .mv (.tmp 54), none⟩, ⟨(some 55), .ext (.tmp 52) 0, none⟩, ⟨(some 56), .ext (.tmp 52) 1, none⟩, ⟨(some 14), .alloc [(.int .i64 0), (.int .u64 0), (.int .u64 0)], none⟩, ⟨none, .store 3 (.tmp 14) (.tmp 55), none⟩, ⟨(some 15), .mv (.tmp 56), none⟩])
 (.seq (.ops [⟨(some 58), .build [(.int .u64 0), (.int .u64 0)] [], none⟩, ⟨(some 59), .call (.func 14) [(.tmp 58)], none⟩, ⟨(some 57), .mv (.tmp 59), none⟩, ⟨(some 60), .ext (.tmp 57) 0, none⟩, ⟨(some 61), .ext (.tmp 57) 1, none⟩, ⟨(some 16), .alloc [(.int .i64 0), (.int .u64 0)], none⟩, ⟨none, .store 2 (.tmp 16) (.tmp 60), none⟩, ⟨(some 17), .mv (.tmp 61), none⟩])
 (.seq (.ops [⟨(some 63), .call (.func 16) [(.const (.int .u64 33))], none⟩, ⟨(some 62), .mv (.tmp 63), none⟩, ⟨(some 64), .ext (.tmp 62) 0, none⟩, ⟨(some 65), .ext (.tmp 62) 1, none⟩, ⟨(some 66), .ext (.tmp 62) 2, none⟩, ⟨(some 18), .mv (.tmp 64), none⟩, ⟨(some 19), .mv (.tmp 65), none⟩, ⟨(some 20), .mv (.tmp 66), none⟩])
 (.seq (.ops [⟨(some 68), .call (.func 19) [(.const (.int .i64 3)), (.const (.int .i64 0))], none⟩, ⟨(some 67), .mv (.tmp 68), none⟩, ⟨(some 69), .ext (.tmp 67) 0, none⟩, ⟨(some 70), .ext (.tmp 67) 1, none⟩, ⟨(some 21), .mv (.tmp 69), none⟩, ⟨(some 22), .mv (.tmp 70), none⟩])
 (.seq (.ops [⟨(some 71), .load true 2 (.tmp 1), none⟩, ⟨(some 72), .build [(.int .u64 0), (.int .u64 0)] [(0, 1, (.const (.int .u64 12))), (1, 1, (.const (.int .u64 0)))], none⟩, ⟨(some 73), .eqA false [.int, .int] (.tmp 71) (.tmp 72), none⟩, ⟨(some 74), .mv (.tmp 73), none⟩, ⟨(some 75), .mv (.tmp 2), (some (74, true))⟩, ⟨(some 76), .bin .eql (.tmp 75) (.const (.int .i64 0)), (some (74, true))⟩, ⟨(some 77), .pick (.tmp 74) (.tmp 76) (.const (.bool false)), none⟩, ⟨(some 78), .mv (.tmp 77), none⟩, ⟨(some 79), .mv (.tmp 3), (some (78, true))⟩, ⟨(some 80), .bin .eql (.tmp 79) (.const (.int .u64 8)), (some (78, true))⟩, ⟨(some 81), .pick (.tmp 78) (.tmp 80) (.const (.bool false)), none⟩, ⟨(some 82), .mv (.tmp 81), none⟩, ⟨(some 83), .mv (.tmp 4), (some (82, true))⟩, ⟨(some 84), .bin .eql (.tmp 83) (.const (.int .i64 0)), (some (82, true))⟩, ⟨(some 85), .pick (.tmp 82) (.tmp 84) (.const (.bool false)), none⟩, ⟨(some 86), .mv (.tmp 85), none⟩, ⟨(some 87), .load true 3 (.tmp 5), (some (86, true))⟩, ⟨(some 88), .build [(.int .u64 0), (.int .u64 0), (.int .u64 0)] [(0, 1, (.const (.int .u64 11))), (1, 1, (.const (.int .u64 5))), (2, 1, (.const (.int .u64 6)))], (some (86, true))⟩, ⟨(some 89), .eqA false [.int, .int, .int] (.tmp 87) (.tmp 88), (some (86, true))⟩, ⟨(some 90), .pick (.tmp 86) (.tmp 89) (.const (.bool false)), none⟩, ⟨(some 91), .mv (.tmp 90), none⟩, ⟨(some 92), .mv (.tmp 6), (some (91, true))⟩, ⟨(some 93), .bin .eql (.tmp 92) (.const (.int .i64 0)), (some (91, true))⟩, ⟨(some 94), .pick (.tmp 91) (.tmp 93) (.const (.bool false)), none⟩, ⟨(some 95), .mv (.tmp 94), none⟩, ⟨(some 96), .load true 3 (.tmp 7), (some (95, true))⟩, ⟨(some 97), .build [(.int .i64 0), (.int .u64 0), (.int .u64 0)] [(0, 1, (.const (.int .i64 11))), (1, 1, (.const (.int .u64 5))), (2, 1, (.const (.int .u64 6)))], (some (95, true))⟩, ⟨(some 98), .eqA false [.int, .int, .int] (.tmp 96) (.tmp 97), (some (95, true))⟩, ⟨(some 99), .pick (.tmp 95) (.tmp 98) (.const (.bool false)), none⟩, ⟨(some 100), .mv (.tmp 99), none⟩, ⟨(some 101), .mv (.tmp 8), (some (100, true))⟩, ⟨(some 102), .bin .eql (.tmp 101) (.const (.int .i64 0)), (some (100, true))⟩, ⟨(some 103), .pick (.tmp 100) (.tmp 102) (.const (.bool false)), none⟩, ⟨(some 104), .mv (.tmp 103), none⟩, ⟨(some 105), .load true 2 (.tmp 9), (some (104, true))⟩, ⟨(some 106), .build [(.int .i64 0), (.int .u64 0)] [(0, 1, (.const (.int .i64 11)))], (some (104, true))⟩, ⟨(some 107), .eqA false [.int, .int] (.tmp 105) (.tmp 106), (some (104, true))⟩, ⟨(some 108), .pick (.tmp 104) (.tmp 107) (.const (.bool false)), none⟩, ⟨(some 109), .mv (.tmp 108), none⟩, ⟨(some 110), .mv (.tmp 10), (some (109, true))⟩, ⟨(some 111), .bin .eql (.tmp 110) (.const (.int .i64 0)), (some (109, true))⟩, ⟨(some 112), .pick (.tmp 109) (.tmp 111) (.const (.bool false)), none⟩, ⟨(some 113), .mv (.tmp 112), none⟩, ⟨(some 114), .mv (.tmp 11), (some (113, true))⟩, ⟨(some 115), .bin .eql (.tmp 114) (.const (.int .i64 2)), (some (113, true))⟩, ⟨(some 116), .pick (.tmp 113) (.tmp 115) (.const (.bool false)), none⟩, ⟨(some 117), .mv (.tmp 116), none⟩, ⟨(some 118), .mv (.tmp 12), (some (117, true))⟩, ⟨(some 119), .bin .eql (.tmp 118) (.const (.int .i64 3)), (some (117, true))⟩, ⟨(some 120), .pick (.tmp 117) (.tmp 119) (.const (.bool false)), none⟩, ⟨(some 121), .mv (.tmp 120), none⟩, ⟨(some 122), .mv (.tmp 13), (some (121, true))⟩, ⟨(some 123), .bin .eql (.tmp 122) (.const (.int .i64 0)), (some (121, true))⟩, ⟨(some 124), .pick (.tmp 121) (.tmp 123) (.const (.bool false)), none⟩, ⟨(some 125), .mv (.tmp 124), none⟩, ⟨(some 126), .mv (.tmp 15), (some (125, true))⟩, ⟨(some 127), .bin .eql (.tmp 126) (.const (.int .i64 2)), (some (125, true))⟩, ⟨(some 128), .pick (.tmp 125) (.tmp 127) (.const (.bool false)), none⟩, ⟨(some 129), .mv (.tmp 128), none⟩, ⟨(some 130), .mv (.tmp 17), (some (129, true))⟩, ⟨(some 131), .bin .eql (.tmp 130) (.const (.int .i64 2)), (some (129, true))⟩, ⟨(some 132), .pick (.tmp 129) (.tmp 131) (.const (.bool false)), none⟩, ⟨(some 133), .mv (.tmp 132), none⟩, ⟨(some 134), .mv (.tmp 20), (some (133, true))⟩, ⟨(some 135), .bin .eql (.tmp 134) (.const (.int .i64 2)), (some (133, true))⟩, ⟨(some 136), .pick (.tmp 133) (.tmp 135) (.const (.bool false)), none⟩, ⟨(some 137), .mv (.tmp 136), none⟩, ⟨(some 138), .mv (.tmp 22), (some (137, true))⟩, ⟨(some 139), .bin .eql (.tmp 138) (.const (.int .i64 1)), (some (137, true))⟩, ⟨(some 140), .pick (.tmp 137) (.tmp 139) (.const (.bool false)), none⟩, ⟨(some 0), .mv (.tmp 140), none⟩])
 .ret)))))))))))),
 141, [.tmp 0]⟩
theorem low7 : lowerFn Try.prog Try.f7 = some L7 := by kernel_rfl
noncomputable def G7 (B : OH) : Nat → Cs
  | 8 => V8 B
  | 10 => V10 B
  | 12 => V12 B
  | 14 => V14 B
  | 16 => V16 B
  | 19 => V19 B
  | _ => fun _ _ _ => none
theorem G7_8 {B : OH} : G7 B 8 = fun a H N => pv (F8 B a) H N := rfl
theorem G7_10 {B : OH} : G7 B 10 = fun a H N => pv (F10 B a) H N := rfl
theorem G7_12 {B : OH} : G7 B 12 = fun a H N => pv (F12 B a) H N := rfl
theorem G7_14 {B : OH} : G7 B 14 = fun a H N => pv (F14 B a) H N := rfl
theorem G7_16 {B : OH} : G7 B 16 = fun a H N => pv (F16 B a) H N := rfl
theorem G7_19 {B : OH} : G7 B 19 = fun a H N => pv (F19 B a) H N := rfl
theorem sG7 {w0 : World} {B : OH} : SoundG Try.prog w0 B (G7 B) := fun k => by
  unfold G7
  split
  · exact .inr ⟨en8, sV8⟩
  · exact .inr ⟨en10, sV10⟩
  · exact .inr ⟨en12, sV12⟩
  · exact .inr ⟨en14, sV14⟩
  · exact .inr ⟨en16, sV16⟩
  · exact .inr ⟨en19, sV19⟩
  · exact .inl fun _ _ _ => rfl
noncomputable def F7 (B : OH) : List Value → Option Value := kval B (callF B (G7 B) 80 L7)
noncomputable def V7 (B : OH) : Cs := fun a H N => pv (F7 B a) H N
theorem en7 : Enter Try.prog 7 := .of Try.func7 (by kernel_rfl) (by kernel_rfl)
theorem sV7 {w0 : World} {B : OH} : SoundC Try.prog w0 B 7 (V7 B) := (callF_sound mixedOrders sG7 80 Try.func7 low7).ofVal
theorem aw : (∀ c x, askA c x = if 1 ≤ c ∧ c ≤ 255 then x else 0) := fun _ _ => rfl
theorem q1 : askA 11 11 = 11 := by decide
theorem q2 : askA 11 5 = 5 := by decide
theorem q3 : askA 11 6 = 6 := by decide
theorem q4 : askE 11 1 = 0 := by decide
theorem q5 : ansA 11 12 = 12 := by decide
theorem q6 : ansA 11 0 = 0 := by decide
theorem q7 : ansE 11 = 0 := by decide
theorem q8 : hdA 2 3 = 8 := by decide
theorem q9 : hdE 2 3 = 0 := by decide
theorem q10 : askE 11 2 = 0 := by decide
theorem q11 : tolA 12 11 = 11 := by decide
theorem q12 : tolA 12 0 = 0 := by decide
theorem q13 : tolE 12 = 0 := by decide
theorem q14 : phS 8 = 2 := by decide
theorem q15 : phP 8 = 3 := by decide
theorem q16 : phE 8 = 0 := by decide
theorem q17 : askE 0 2 = 2 := by decide
theorem q18 : tolE 0 = 2 := by decide
theorem q19 : phE 33 = 2 := by decide
theorem q20 : hdE 3 0 = 1 := by decide
theorem q21 : askA 0 0 = 0 := by decide
theorem q22 : tolA 0 (-1) = 0 := by decide
theorem q23 : tolA 0 0 = 0 := by decide
theorem q24 : phS 33 = 0 := by decide
theorem q25 : phP 33 = 0 := by decide
theorem q26 : hdA 3 0 = 0 := by decide

set_option maxHeartbeats 1000000 in
theorem f7 {B : OH} (hG : ∃ H N, good B H N)  : F7 B [] = some (.bool true) := by
  refine kval_eq hG fun H N hN => ?_
  have hB := good_B hN
  have hR := good_rdB hN
  have hI := beqN hN.1
  simp -implicitDefEqProofs (maxSteps := 10000000) (disch := omega) only [L7, G7_8, G7_10, G7_12, G7_14, G7_16, G7_19, hB, hR, hI, f8 hG, f10 hG, f12 hG, f14 hG, f16 hG, f19 hG, q1, q2, q3, q4, q5, q6, q7, q8, q9, q10, q11, q12, q13, q14, q15, q16, q17, q18, q19, q20, q21, q22, q23, q24, q25, q26, pad, e_skip, e_ops, e_draw, d_none, d_nil, d_cons, d_ite, h_none, h_nil, h_cons, h_ite, eqS_same, lightV, e_seq, e_cond, e_block, e_loop, e_exit, e_ret, s_normal, s_ret, s_exit, s_none, s_ite, b_normal, b_ret, b_exit, b_none, b_ite, c_bool, o_some, o_none, o_ite, x_none, x_nil, x_cons, x_ite, p_some, p_none, p_ite, pt_some, pt_none, pv_some, pv_none, pv_ite, w_none, w_some, i_bool, i_undef, bt, bf, v_tmp, v_const, v_global, v_func, evs, f_normal, f_ret, f_none, f_ite, r_some, co_some, l_ptr, m_agg, m_one, sh_app, lk_nil, lk_cons, rd_eq, rdO_some, rdO_none, rdN_none, rdL_some, rdL_none, wrB_none, unitR_some, wrC_some, wrK_cells, consH_some, wr_nil, wr_here, wr_skip, wrH_cons, k_cells, tk_zero, tk_take, tk_skip, tkC_some, call_func, gt, st, stepOp, newB, ptrTo, binV, arith, isSh, storeV, all1, idxAV, fieldV, faddrV, iaddrSV, iaddrAV, pickV, convV, unV, eqbV, eqpV, extV, lenV, mm2, mmV, nilckV, ress, res1, retV, Value.cells, cond_true, cond_false, Bool.true_or, Bool.false_or, Bool.or_true, Bool.or_false, beq_self_eq_true, if_true, if_false, ite_true, ite_false, decide_true, decide_false, decide_eq_true_eq, reduceIte, Nat.zero_add, Nat.add_zero, and_self, true_and, and_true, List.size_toArray, List.length_cons, List.length_nil, List.append_nil, List.nil_append, Int.toNat_zero, Bool.not_false, Bool.not_true, Bool.not_not, Bool.false_eq_true, Bool.true_eq_false, reduceCtorEq, Int.reduceLT, Int.reduceLE, Int.reduceToNat, Int.reduceAdd, Int.reduceSub, Int.reduceMul, Int.reduceNeg, Nat.reduceMul, Nat.reduceAdd, Nat.reduceSub, Nat.reduceBEq, Nat.reduceEqDiff, Nat.reduceLT, Nat.reduceLeDiff, Int.reduceBEq, Int.reduceEq, Nat.reducePow, Int.reducePow, IntWalk.i64_in, IntKind.bits, eqAV, eqL, leafEq, andO, fillV, buildSV, List.getElem?_toArray, List.getElem?_cons_zero, List.getElem?_cons_succ, List.getElem?_nil, Int.reduceGT, Int.reduceGE, Int.reduceBNe, Bool.true_and, Bool.and_true, Bool.false_and, Bool.and_false, Bool.and_self, IntWalk.u64_in, Int.cast_ofNat_Int, callF1, pad16, pad_0, pad_1, pad_2, pad_3, pad_4, pad_5, pad_6, pad_7, pad_8, pad_9, pad_10, pad_11, pad_12, pad_13, pad_14, pad_15, gc0, gc1, gc2, gc3, gc4, gc5, gc6, gc7, gc8, gc9, gc10, gc11, gc12, gc13, gc14, gc15, gcS, sc0, sc1, sc2, sc3, sc4, sc5, sc6, sc7, sc8, sc9, sc10, sc11, sc12, sc13, sc14, sc15, scS, List.drop_succ_cons, List.drop_nil]
  with_reducible refine done2 ?_
  repeat (first | refine ext_new hN ?_ | exact ext_refl)
end Go.Proofs.Ytffmiglkkfcpmaa
namespace Go.Proofs.Ytffmiglkkfcpmaa
open Go.Proofs.Ytffmiglkkfcpmaa.K Go.ChangeShapes Go.WideShapes Go.ChangeAt Go.RowKit
set_option maxRecDepth 100000
set_option linter.unusedSimpArgs false
set_option linter.unusedVariables false
theorem pick_b (c n : Int) (hn : 1 ≤ n) : 0 ≤ pick c n ∧ pick c n < n := ⟨Int.emod_nonneg _ (by omega), Int.emod_lt_of_pos _ (by omega)⟩
theorem askA_b (c x : Int) (hx : 0 ≤ x ∧ x < 18446744073709551616) : 0 ≤ askA c x ∧ askA c x < 18446744073709551616 := by unfold askA; split <;> omega
theorem askA_c (c : Int) : 0 ≤ askA c c ∧ askA c c ≤ 255 := by unfold askA; split <;> omega
theorem mod_b (x m : Int) (hm : 1 ≤ m) (hx : 0 ≤ x ∧ x < 18446744073709551616) : x.tmod m = x % m ∧ 0 ≤ x % m ∧ x % m < 18446744073709551616 ∧ x % m < m := by
  have h1 := Int.emod_nonneg x (show m ≠ 0 by omega)
  have h2 := Int.emod_lt_of_pos x (show 0 < m by omega)
  have h3 : x % m ≤ x := by
    have := Int.mul_ediv_add_emod x m
    have h4 : 0 ≤ m * (x / m) := Int.mul_nonneg (by omega) (Int.ediv_nonneg hx.1 (by omega))
    omega
  exact ⟨Int.tmod_eq_emod_of_nonneg hx.1, h1, by omega, h2⟩

/-- whitewash/whitewashlaw06.RecTells -/
def L3 : FnL := ⟨(.seq (.ops [⟨(some 5), .box (.tmp 0), none⟩, ⟨(some 6), .box (.tmp 1), none⟩, ⟨(some 9), .box (.tmp 4), none⟩, ⟨(some 10), .mv (.const (.bool false)), none⟩])
 (.seq (.ops [⟨(some 48), .call (.func 7) [], none⟩, ⟨(some 11), .mv (.tmp 48), none⟩])
 (.seq (.ops [⟨(some 50), .load true 3 (.tmp 5), none⟩, ⟨(some 51), .call (.func 8) [(.tmp 50)], none⟩, ⟨(some 49), .mv (.tmp 51), none⟩, ⟨(some 52), .ext (.tmp 49) 0, none⟩, ⟨(some 53), .ext (.tmp 49) 1, none⟩, ⟨(some 12), .alloc [(.int .u64 0), (.int .u64 0), (.int .u64 0)], none⟩, ⟨none, .store 3 (.tmp 12) (.tmp 52), none⟩, ⟨(some 13), .mv (.tmp 53), none⟩])
 (.seq (.ops [⟨(some 55), .load true 3 (.tmp 5), none⟩, ⟨(some 56), .call (.func 9) [(.tmp 55)], none⟩, ⟨(some 54), .mv (.tmp 56), none⟩, ⟨(some 57), .ext (.tmp 54) 0, none⟩, ⟨(some 58), .ext (.tmp 54) 1, none⟩, ⟨(some 14), .alloc [(.int .u64 0), (.int .u64 0), (.int .u64 0)], none⟩, ⟨none, .store 3 (.tmp 14) (.tmp 57), none⟩, ⟨(some 15), .mv (.tmp 58), none⟩])
 (.seq (.ops [⟨(some 60), .load true 2 (.tmp 6), none⟩, ⟨(some 61), .call (.func 10) [(.tmp 60)], none⟩, ⟨(some 59), .mv (.tmp 61), none⟩, ⟨(some 62), .ext (.tmp 59) 0, none⟩, ⟨(some 63), .ext (.tmp 59) 1, none⟩, ⟨(some 16), .alloc [(.int .u64 0), (.int .u64 0)], none⟩, ⟨none, .store 2 (.tmp 16) (.tmp 62), none⟩, ⟨(some 17), .mv (.tmp 63), none⟩])
 (.seq (.ops [⟨(some 65), .load true 2 (.tmp 6), none⟩, ⟨(some 66), .call (.func 11) [(.tmp 65)], none⟩, ⟨(some 64), .mv (.tmp 66), none⟩, ⟨(some 67), .ext (.tmp 64) 0, none⟩, ⟨(some 68), .ext (.tmp 64) 1, none⟩, ⟨(some 18), .alloc [(.int .u64 0), (.int .u64 0)], none⟩, ⟨none, .store 2 (.tmp 18) (.tmp 67), none⟩, ⟨(some 19), .mv (.tmp 68), none⟩])
 (.seq (.seq (.ops [⟨(some 69), .load true 3 (.tmp 12), none⟩, ⟨(some 70), .load true 3 (.tmp 14), none⟩, ⟨(some 71), .eqA true [.int, .int, .int] (.tmp 69) (.tmp 70), none⟩, ⟨(some 72), .mv (.tmp 71), none⟩, ⟨(some 73), .mv (.tmp 13), (some (72, false))⟩, ⟨(some 74), .mv (.tmp 15), (some (72, false))⟩, ⟨(some 75), .bin .neq (.tmp 73) (.tmp 74), (some (72, false))⟩, ⟨(some 76), .pick (.tmp 72) (.const (.bool true)) (.tmp 75), none⟩, ⟨(some 77), .mv (.tmp 76), none⟩, ⟨(some 78), .load true 2 (.tmp 16), (some (77, false))⟩, ⟨(some 79), .load true 2 (.tmp 18), (some (77, false))⟩, ⟨(some 80), .eqA true [.int, .int] (.tmp 78) (.tmp 79), (some (77, false))⟩, ⟨(some 81), .pick (.tmp 77) (.const (.bool true)) (.tmp 80), none⟩, ⟨(some 82), .mv (.tmp 81), none⟩, ⟨(some 83), .mv (.tmp 17), (some (82, false))⟩, ⟨(some 84), .mv (.tmp 19), (some (82, false))⟩, ⟨(some 85), .bin .neq (.tmp 83) (.tmp 84), (some (82, false))⟩, ⟨(some 86), .pick (.tmp 82) (.const (.bool true)) (.tmp 85), none⟩])
 (.cond (.tmp 86) (.seq (.ops [⟨(some 10), .mv (.const (.bool false)), none⟩])
 .ret)
 .skip))
 (.seq (.seq (.ops [⟨(some 87), .load true 3 (.tmp 9), none⟩, ⟨(some 88), .iaddrA 1 3 (.tmp 9) (.const (.int .i64 0)), none⟩, ⟨(some 89), .load false 1 (.tmp 88), none⟩, ⟨(some 90), .bin .rem (.tmp 89) (.const (.int .u64 300)), none⟩, ⟨(some 91), .iaddrA 1 3 (.tmp 9) (.const (.int .i64 1)), none⟩, ⟨(some 92), .load false 1 (.tmp 91), none⟩, ⟨(some 93), .iaddrA 1 3 (.tmp 9) (.const (.int .i64 2)), none⟩, ⟨(some 94), .load false 1 (.tmp 93), none⟩, ⟨(some 95), .build [(.int .u64 0), (.int .u64 0), (.int .u64 0)] [(0, 1, (.tmp 90)), (1, 1, (.tmp 92)), (2, 1, (.tmp 94))], none⟩, ⟨(some 96), .load true 3 (.tmp 12), none⟩, ⟨(some 97), .buildS [(.int .u64 0), (.int .u64 0), (.int .u64 0), (.int .u64 0), (.int .u64 0), (.int .u64 0), (.int .u64 0), (.int .u64 0), (.int .u64 0)] 3 [(0, 3, (.tmp 87)), (3, 3, (.tmp 95)), (6, 3, (.tmp 96))], none⟩, ⟨(some 98), .len false (.tmp 97), none⟩, ⟨(some 99), .mv (.const (.int .i64 0)), none⟩])
 (.block 0 (.loop (.seq (.ops [⟨(some 100), .bin .lss (.tmp 99) (.tmp 98), none⟩])
 (.seq (.cond (.tmp 100) .skip
 (.exit 0))
 (.seq (.block 1 (.seq (.ops [⟨(some 101), .iaddrS 3 (.tmp 97) (.tmp 99), none⟩, ⟨(some 102), .load true 3 (.tmp 101), none⟩, ⟨(some 21), .alloc [(.int .u64 0), (.int .u64 0), (.int .u64 0)], none⟩, ⟨none, .store 3 (.tmp 21) (.tmp 102), none⟩])
 (.seq (.ops [⟨(some 104), .load true 3 (.tmp 21), none⟩, ⟨(some 105), .call (.func 12) [(.tmp 104)], none⟩, ⟨(some 103), .mv (.tmp 105), none⟩, ⟨(some 106), .ext (.tmp 103) 0, none⟩, ⟨(some 107), .ext (.tmp 103) 1, none⟩, ⟨(some 22), .alloc [(.int .i64 0), (.int .u64 0), (.int .u64 0)], none⟩, ⟨none, .store 3 (.tmp 22) (.tmp 106), none⟩, ⟨(some 23), .mv (.tmp 107), none⟩])
 (.seq (.ops [⟨(some 109), .load true 3 (.tmp 21), none⟩, ⟨(some 110), .call (.func 13) [(.tmp 109)], none⟩, ⟨(some 108), .mv (.tmp 110), none⟩, ⟨(some 111), .ext (.tmp 108) 0, none⟩, ⟨(some 112), .ext (.tmp 108) 1, none⟩, ⟨(some 24), .alloc [(.int .i64 0), (.int .u64 0), (.int .u64 0)], none⟩, ⟨none, .store 3 (.tmp 24) (.tmp 111), none⟩, ⟨(some 25), .mv (.tmp 112), none⟩])
 (.seq (.ops [⟨(some 114), .iaddrA 1 3 (.tmp 21) (.const (.int .i64 0)), none⟩, ⟨(some 115), .load false 1 (.tmp 114), none⟩, ⟨(some 116), .iaddrA 1 3 (.tmp 21) (.const (.int .i64 1)), none⟩, ⟨(some 117), .load false 1 (.tmp 116), none⟩, ⟨(some 118), .build [(.int .u64 0), (.int .u64 0)] [(0, 1, (.tmp 115)), (1, 1, (.tmp 117))], none⟩, ⟨(some 119), .call (.func 14) [(.tmp 118)], none⟩, ⟨(some 113), .mv (.tmp 119), none⟩, ⟨(some 120), .ext (.tmp 113) 0, none⟩, ⟨(some 121), .ext (.tmp 113) 1, none⟩, ⟨(some 26), .alloc [(.int .i64 0), (.int .u64 0)], none⟩, ⟨none, .store 2 (.tmp 26) (.tmp 120), none⟩, ⟨(some 27), .mv (.tmp 121), none⟩])
 (.seq (.ops [⟨(some 123), .iaddrA 1 3 (.tmp 21) (.const (.int .i64 0)), none⟩, ⟨(some 124), .load false 1 (.tmp 123), none⟩, ⟨(some 125), .iaddrA 1 3 (.tmp 21) (.const (.int .i64 1)), none⟩, ⟨(some 126), .load false 1 (.tmp 125), none⟩, ⟨(some 127), .build [(.int .u64 0), (.int .u64 0)] [(0, 1, (.tmp 124)), (1, 1, (.tmp 126))], none⟩, ⟨(some 128), .call (.func 15) [(.tmp 127)], none⟩, ⟨(some 122), .mv (.tmp 128), none⟩, ⟨(some 129), .ext (.tmp 122) 0, none⟩, ⟨(some 130), .ext (.tmp 122) 1, none⟩, ⟨(some 28), .alloc [(.int .i64 0), (.int .u64 0)], none⟩, ⟨none, .store 2 (.tmp 28) (.tmp 129), none⟩, ⟨(some 29), .mv (.tmp 130), none⟩])
 (.seq (.ops [⟨(some 132), .iaddrA 1 3 (.tmp 21) (.const (.int .i64 0)), none⟩, ⟨(some 133), .load false 1 (.tmp 132), none⟩, ⟨(some 134), .iaddrA 1 3 (.tmp 21) (.const (.int .i64 1)), none⟩, ⟨(some 135), .load false 1 (.tmp 134), none⟩, ⟨(some 136), .bin .rem (.tmp 135) (.const (.int .u64 70)), none⟩, ⟨(some 137), .bin .add (.const (.int .u64 1)) (.tmp 136), none⟩, ⟨(some 138), .bin .rem (.tmp 133) (.tmp 137), none⟩, ⟨(some 139), .call (.func 16) [(.tmp 138)], none⟩, ⟨(some 131), .mv (.tmp 139), none⟩, ⟨(some 140), .ext (.tmp 131) 0, none⟩, ⟨(some 141), .ext (.tmp 131) 1, none⟩, ⟨(some 142), .ext (.tmp 131) 2, none⟩, ⟨(some 30), .mv (.tmp 140), none⟩, ⟨(some 31), .mv (.tmp 141), none⟩, ⟨(some 32), .mv (.tmp 142), none⟩])
 (.seq (.ops [⟨(some 144), .iaddrA 1 3 (.tmp 21) (.const (.int .i64 0)), none⟩, ⟨(some 145), .load false 1 (.tmp 144), none⟩, ⟨(some 146), .iaddrA 1 3 (.tmp 21) (.const (.int .i64 1)), none⟩, ⟨(some 147), .load false 1 (.tmp 146), none⟩, ⟨(some 148), .bin .rem (.tmp 147) (.const (.int .u64 70)), none⟩, ⟨(some 149), .bin .add (.const (.int .u64 1)) (.tmp 148), none⟩, ⟨(some 150), .bin .rem (.tmp 145) (.tmp 149), none⟩, ⟨(some 151), .call (.func 17) [(.tmp 150)], none⟩, ⟨(some 143), .mv (.tmp 151), none⟩, ⟨(some 152), .ext (.tmp 143) 0, none⟩, ⟨(some 153), .ext (.tmp 143) 1, none⟩, ⟨(some 154), .ext (.tmp 143) 2, none⟩, ⟨(some 33), .mv (.tmp 152), none⟩, ⟨(some 34), .mv (.tmp 153), none⟩, ⟨(some 35), .mv (.tmp 154), none⟩])
 (.seq (.ops [⟨(some 155), .load true 3 (.tmp 22), none⟩, ⟨(some 156), .load true 3 (.tmp 24), none⟩, ⟨(some 157), .eqA true [.int, .int, .int] (.tmp 155) (.tmp 156), none⟩, ⟨(some 158), .mv (.tmp 157), none⟩, ⟨(some 159), .mv (.tmp 23), (some (158, false))⟩, ⟨(some 160), .mv (.tmp 25), (some (158, false))⟩, ⟨(some 161), .bin .neq (.tmp 159) (.tmp 160), (some (158, false))⟩, ⟨(some 162), .pick (.tmp 158) (.const (.bool true)) (.tmp 161), none⟩, ⟨(some 163), .mv (.tmp 162), none⟩, ⟨(some 164), .load true 2 (.tmp 26), (some (163, false))⟩, ⟨(some 165), .load true 2 (.tmp 28), (some (163, false))⟩, ⟨(some 166), .eqA true [.int, .int] (.tmp 164) (.tmp 165), (some (163, false))⟩, ⟨(some 167), .pick (.tmp 163) (.const (.bool true)) (.tmp 166), none⟩, ⟨(some 168), .mv (.tmp 167), none⟩, ⟨(some 169), .mv (.tmp 27), (some (168, false))⟩, ⟨(some 170), .mv (.tmp 29), (some (168, false))⟩, ⟨(some 171), .bin .neq (.tmp 169) (.tmp 170), (some (168, false))⟩, ⟨(some 172), .pick (.tmp 168) (.const (.bool true)) (.tmp 171), none⟩, ⟨(some 173), .mv (.tmp 172), none⟩, ⟨(some 174), .mv (.tmp 30), (some (173, false))⟩, ⟨(some 175), .mv (.tmp 33), (some (173, false))⟩, ⟨(some 176), .bin .neq (.tmp 174) (.tmp 175), (some (173, false))⟩, ⟨(some 177), .pick (.tmp 173) (.const (.bool true)) (.tmp 176), none⟩, ⟨(some 178), .mv (.tmp 177), none⟩, ⟨(some 179), .mv (.tmp 31), (some (178, false))⟩, ⟨(some 180), .mv (.tmp 34), (some (178, false))⟩, ⟨(some 181), .bin .neq (.tmp 179) (.tmp 180), (some (178, false))⟩, ⟨(some 182), .pick (.tmp 178) (.const (.bool true)) (.tmp 181), none⟩, ⟨(some 183), .mv (.tmp 182), none⟩, ⟨(some 184), .mv (.tmp 32), (some (183, false))⟩, ⟨(some 185), .mv (.tmp 35), (some (183, false))⟩, ⟨(some 186), .bin .neq (.tmp 184) (.tmp 185), (some (183, false))⟩, ⟨(some 187), .pick (.tmp 183) (.const (.bool true)) (.tmp 186), none⟩])
 (.cond (.tmp 187) (.seq (.ops [⟨(some 10), .mv (.const (.bool false)), none⟩])
 .ret)
 .skip))))))))))
 (.ops [⟨(some 188), .bin .add (.tmp 99) (.const (.int .i64 1)), none⟩, ⟨(some 99), .mv (.tmp 188), none⟩])))))))
 (.seq (.seq (.ops [⟨(some 189), .mv (.tmp 2), none⟩, ⟨(some 190), .mv (.tmp 3), none⟩, ⟨(some 191), .build [(.int .i64 0), (.int .i64 0)] [(0, 1, (.tmp 189)), (1, 1, (.tmp 190))], none⟩, ⟨(some 192), .mv (.tmp 2), none⟩, ⟨(some 193), .call (.func 18) [(.tmp 192), (.const (.int .i64 5))], none⟩, ⟨(some 194), .bin .sub (.tmp 193) (.const (.int .i64 1)), none⟩, ⟨(some 195), .mv (.tmp 3), none⟩, ⟨(some 196), .call (.func 18) [(.tmp 195), (.const (.int .i64 18))], none⟩, ⟨(some 197), .bin .sub (.tmp 196) (.const (.int .i64 1)), none⟩, ⟨(some 198), .build [(.int .i64 0), (.int .i64 0)] [(0, 1, (.tmp 194)), (1, 1, (.tmp 197))], none⟩, ⟨(some 199), .buildS [(.int .i64 0), (.int .i64 0), (.int .i64 0), (.int .i64 0)] 2 [(0, 2, (.tmp 191)), (2, 2, (.tmp 198))], none⟩, ⟨(some 200), .len false (.tmp 199), none⟩, ⟨(some 201), .mv (.const (.int .i64 0)), none⟩])
 (.block 2 (.loop (.seq (.ops [⟨(some 202), .bin .lss (.tmp 201) (.tmp 200), none⟩])
 (.seq (.cond (.tmp 202) .skip
 (.exit 2))
 (.seq (.block 3 (.seq (.ops [⟨(some 203), .iaddrS 2 (.tmp 199) (.tmp 201), none⟩, ⟨(some 204), .load true 2 (.tmp 203), none⟩, ⟨(some 37), .alloc [(.int .i64 0), (.int .i64 0)], none⟩, ⟨none, .store 2 (.tmp 37) (.tmp 204), none⟩])
 (.seq (.ops [⟨(some 206), .iaddrA 1 2 (.tmp 37) (.const (.int .i64 0)), none⟩, ⟨(some 207), .load false 1 (.tmp 206), none⟩, ⟨(some 208), .iaddrA 1 2 (.tmp 37) (.const (.int .i64 1)), none⟩, ⟨(some 209), .load false 1 (.tmp 208), none⟩, ⟨(some 210), .call (.func 19) [(.tmp 207), (.tmp 209)], none⟩, ⟨(some 205), .mv (.tmp 210), none⟩, ⟨(some 211), .ext (.tmp 205) 0, none⟩, ⟨(some 212), .ext (.tmp 205) 1, none⟩, ⟨(some 38), .mv (.tmp 211), none⟩, ⟨(some 39), .mv (.tmp 212), none⟩])
 (.seq (.ops [⟨(some 214), .iaddrA 1 2 (.tmp 37) (.const (.int .i64 0)), none⟩, ⟨(some 215), .load false 1 (.tmp 214), none⟩, ⟨(some 216), .iaddrA 1 2 (.tmp 37) (.const (.int .i64 1)), none⟩, ⟨(some 217), .load false 1 (.tmp 216), none⟩, ⟨(some 218), .call (.func 20) [(.tmp 215), (.tmp 217)], none⟩, ⟨(some 213), .mv (.tmp 218), none⟩, ⟨(some 219), .ext (.tmp 213) 0, none⟩, ⟨(some 220), .ext (.tmp 213) 1, none⟩, ⟨(some 40), .mv (.tmp 219), none⟩, ⟨(some 41), .mv (.tmp 220), none⟩])
 (.seq (.ops [⟨(some 221), .mv (.tmp 38), none⟩, ⟨(some 222), .mv (.tmp 40), none⟩, ⟨(some 223), .bin .neq (.tmp 221) (.tmp 222), none⟩, ⟨(some 224), .mv (.tmp 223), none⟩, ⟨(some 225), .mv (.tmp 39), (some (224, false))⟩, ⟨(some 226), .mv (.tmp 41), (some (224, false))⟩, ⟨(some 227), .bin .neq (.tmp 225) (.tmp 226), (some (224, false))⟩, ⟨(some 228), .pick (.tmp 224) (.const (.bool true)) (.tmp 227), none⟩])
 (.cond (.tmp 228) (.seq (.ops [⟨(some 10), .mv (.const (.bool false)), none⟩])
 .ret)
 .skip))))))
 (.ops [⟨(some 229), .bin .add (.tmp 201) (.const (.int .i64 1)), none⟩, ⟨(some 201), .mv (.tmp 229), none⟩])))))))
 (.seq (.ops [⟨(some 231), .iaddrA 1 3 (.tmp 9) (.const (.int .i64 0)), none⟩, ⟨(some 232), .load false 1 (.tmp 231), none⟩, ⟨(some 233), .call (.func 16) [(.tmp 232)], none⟩, ⟨(some 230), .mv (.tmp 233), none⟩, ⟨(some 234), .ext (.tmp 230) 0, none⟩, ⟨(some 235), .ext (.tmp 230) 1, none⟩, ⟨(some 236), .ext (.tmp 230) 2, none⟩, ⟨(some 42), .mv (.tmp 234), none⟩, ⟨(some 43), .mv (.tmp 235), none⟩, ⟨(some 44), .mv (.tmp 236), none⟩])
 (.seq (.ops [⟨(some 238), .iaddrA 1 3 (.tmp 9) (.const (.int .i64 0)), none⟩, ⟨(some 239), .load false 1 (.tmp 238), none⟩, ⟨(some 240), .call (.func 17) [(.tmp 239)], none⟩, ⟨(some 237), .mv (.tmp 240), none⟩, ⟨(some 241), .ext (.tmp 237) 0, none⟩, ⟨(some 242), .ext (.tmp 237) 1, none⟩, ⟨(some 243), .ext (.tmp 237) 2, none⟩, ⟨(some 45), .mv (.tmp 241), none⟩, ⟨(some 46), .mv (.tmp 242), none⟩, ⟨(some 47), .mv (.tmp 243), none⟩])
 (.seq (.ops [⟨(some 244), .mv (.tmp 11), none⟩, ⟨(some 245), .mv (.tmp 244), none⟩, ⟨(some 246), .mv (.tmp 42), (some (245, true))⟩, ⟨(some 247), .mv (.tmp 45), (some (245, true))⟩, ⟨(some 248), .bin .eql (.tmp 246) (.tmp 247), (some (245, true))⟩, ⟨(some 249), .pick (.tmp 245) (.tmp 248) (.const (.bool false)), none⟩, ⟨(some 250), .mv (.tmp 249), none⟩, ⟨(some 251), .mv (.tmp 43), (some (250, true))⟩, ⟨(some 252), .mv (.tmp 46), (some (250, true))⟩, ⟨(some 253), .bin .eql (.tmp 251) (.tmp 252), (some (250, true))⟩, ⟨(some 254), .pick (.tmp 250) (.tmp 253) (.const (.bool false)), none⟩, ⟨(some 255), .mv (.tmp 254), none⟩, ⟨(some 256), .mv (.tmp 44), (some (255, true))⟩, ⟨(some 257), .mv (.tmp 47), (some (255, true))⟩, ⟨(some 258), .bin .eql (.tmp 256) (.tmp 257), (some (255, true))⟩, ⟨(some 259), .pick (.tmp 255) (.tmp 258) (.const (.bool false)), none⟩, ⟨(some 10), .mv (.tmp 259), none⟩])
 .ret)))))))))))),
 260, [.tmp 10]⟩
theorem low3 : lowerFn Try.prog Try.f3 = some L3 := by kernel_rfl
noncomputable def G3 (B : OH) : Nat → Cs
  | 7 => V7 B
  | 8 => V8 B
  | 9 => V9 B
  | 10 => V10 B
  | 11 => V11 B
  | 12 => V12 B
  | 13 => V13 B
  | 14 => V14 B
  | 15 => V15 B
  | 16 => V16 B
  | 17 => V17 B
  | 18 => V18 B
  | 19 => V19 B
  | 20 => V20 B
  | _ => fun _ _ _ => none
theorem G3_7 {B : OH} : G3 B 7 = fun a H N => pv (F7 B a) H N := rfl
theorem G3_8 {B : OH} : G3 B 8 = fun a H N => pv (F8 B a) H N := rfl
theorem G3_9 {B : OH} : G3 B 9 = fun a H N => pv (F9 B a) H N := rfl
theorem G3_10 {B : OH} : G3 B 10 = fun a H N => pv (F10 B a) H N := rfl
theorem G3_11 {B : OH} : G3 B 11 = fun a H N => pv (F11 B a) H N := rfl
theorem G3_12 {B : OH} : G3 B 12 = fun a H N => pv (F12 B a) H N := rfl
theorem G3_13 {B : OH} : G3 B 13 = fun a H N => pv (F13 B a) H N := rfl
theorem G3_14 {B : OH} : G3 B 14 = fun a H N => pv (F14 B a) H N := rfl
theorem G3_15 {B : OH} : G3 B 15 = fun a H N => pv (F15 B a) H N := rfl
theorem G3_16 {B : OH} : G3 B 16 = fun a H N => pv (F16 B a) H N := rfl
theorem G3_17 {B : OH} : G3 B 17 = fun a H N => pv (F17 B a) H N := rfl
theorem G3_18 {B : OH} : G3 B 18 = fun a H N => pv (F18 B a) H N := rfl
theorem G3_19 {B : OH} : G3 B 19 = fun a H N => pv (F19 B a) H N := rfl
theorem G3_20 {B : OH} : G3 B 20 = fun a H N => pv (F20 B a) H N := rfl
theorem sG3 {w0 : World} {B : OH} : SoundG Try.prog w0 B (G3 B) := fun k => by
  unfold G3
  split
  · exact .inr ⟨en7, sV7⟩
  · exact .inr ⟨en8, sV8⟩
  · exact .inr ⟨en9, sV9⟩
  · exact .inr ⟨en10, sV10⟩
  · exact .inr ⟨en11, sV11⟩
  · exact .inr ⟨en12, sV12⟩
  · exact .inr ⟨en13, sV13⟩
  · exact .inr ⟨en14, sV14⟩
  · exact .inr ⟨en15, sV15⟩
  · exact .inr ⟨en16, sV16⟩
  · exact .inr ⟨en17, sV17⟩
  · exact .inr ⟨en18, sV18⟩
  · exact .inr ⟨en19, sV19⟩
  · exact .inr ⟨en20, sV20⟩
  · exact .inl fun _ _ _ => rfl
set_option maxHeartbeats 2000000 in
theorem lv3 {B : OH} (c k v e ev s p a b d : Int) (hc : -9223372036854775808 ≤ c ∧ c ≤ 9223372036854775807) (hk : 0 ≤ k ∧ k < 18446744073709551616) (hv : 0 ≤ v ∧ v < 18446744073709551616) (he : -9223372036854775808 ≤ e ∧ e ≤ 9223372036854775807) (hev : 0 ≤ ev ∧ ev < 18446744073709551616) (hs : -9223372036854775808 ≤ s ∧ s ≤ 9223372036854775807) (hp : -9223372036854775808 ≤ p ∧ p ≤ 9223372036854775807) (ha : 0 ≤ a ∧ a < 18446744073709551616) (hb : 0 ≤ b ∧ b < 18446744073709551616) (hd : 0 ≤ d ∧ d < 18446744073709551616) (H : HL) (N : St) (hN : good B H N) : ∃ H' N', callF B (G3 B) 80 L3 [.agg #[.int .i64 c, .int .u64 k, .int .u64 v], .agg #[.int .i64 e, .int .u64 ev], .int .i64 s, .int .i64 p, .agg #[.int .u64 a, .int .u64 b, .int .u64 d]] H N = some (.bool true, H', N') := by
  have hG : ∃ H N, good B H N := ⟨H, N, hN⟩
  have hB := good_B hN
  have hR := good_rdB hN
  have hI := beqN hN.1
  have r1 := askA_c c
  have r2 := askA_b c k hk
  have r3 := askA_b c v hv
  have t0 := mod_b a 300 (by omega) ha
  obtain ⟨t0, ta, tb, _⟩ := t0
  have m1 := mod_b b 70 (by omega) (by omega)
  have n1 := mod_b a (1 + b % 70) (by omega) (by omega)
  have u1 : IntKind.u64.wrap (1 + b % 70) = 1 + b % 70 := IntWalk.u64_in _ (by omega)
  have z1 : ¬ (1 + b % 70 = 0) := by omega
  obtain ⟨m1, _⟩ := m1
  obtain ⟨n1, na1, nb1, _⟩ := n1
  have m2 := mod_b b 70 (by omega) (by omega)
  have n2 := mod_b (a % 300) (1 + b % 70) (by omega) (by omega)
  have u2 : IntKind.u64.wrap (1 + b % 70) = 1 + b % 70 := IntWalk.u64_in _ (by omega)
  have z2 : ¬ (1 + b % 70 = 0) := by omega
  obtain ⟨m2, _⟩ := m2
  obtain ⟨n2, na2, nb2, _⟩ := n2
  have m3 := mod_b (askA c k) 70 (by omega) (by omega)
  have n3 := mod_b (askA c c) (1 + (askA c k) % 70) (by omega) (by omega)
  have u3 : IntKind.u64.wrap (1 + (askA c k) % 70) = 1 + (askA c k) % 70 := IntWalk.u64_in _ (by omega)
  have z3 : ¬ (1 + (askA c k) % 70 = 0) := by omega
  obtain ⟨m3, _⟩ := m3
  obtain ⟨n3, na3, nb3, _⟩ := n3
  have p1 := pick_b s 5 (by omega)
  have p2 := pick_b p 18 (by omega)
  have x1 : IntKind.i64.wrap (pick s 5 - 1) = pick s 5 - 1 := IntWalk.i64_in _ (by omega)
  have x2 : IntKind.i64.wrap (pick p 18 - 1) = pick p 18 - 1 := IntWalk.i64_in _ (by omega)
  simp -implicitDefEqProofs (maxSteps := 10000000) (disch := omega) only [L3, G3_7, G3_8, G3_9, G3_10, G3_11, G3_12, G3_13, G3_14, G3_15, G3_16, G3_17, G3_18, G3_19, G3_20, hB, hR, hI, f7 hG, f8 hG, f9 hG, f10 hG, f11 hG, f12 hG, f13 hG, f14 hG, f15 hG, f16 hG, f17 hG, f18 hG, f19 hG, f20 hG, t0, m1, n1, u1, z1, m2, n2, u2, z2, m3, n3, u3, z3, x1, x2, bne_self_eq_false, pad, e_skip, e_ops, e_draw, d_none, d_nil, d_cons, d_ite, h_none, h_nil, h_cons, h_ite, eqS_same, lightV, e_seq, e_cond, e_block, e_loop, e_exit, e_ret, s_normal, s_ret, s_exit, s_none, s_ite, b_normal, b_ret, b_exit, b_none, b_ite, c_bool, o_some, o_none, o_ite, x_none, x_nil, x_cons, x_ite, p_some, p_none, p_ite, pt_some, pt_none, pv_some, pv_none, pv_ite, w_none, w_some, i_bool, i_undef, bt, bf, v_tmp, v_const, v_global, v_func, evs, f_normal, f_ret, f_none, f_ite, r_some, co_some, l_ptr, m_agg, m_one, sh_app, lk_nil, lk_cons, rd_eq, rdO_some, rdO_none, rdN_none, rdL_some, rdL_none, wrB_none, unitR_some, wrC_some, wrK_cells, consH_some, wr_nil, wr_here, wr_skip, wrH_cons, k_cells, tk_zero, tk_take, tk_skip, tkC_some, call_func, gt, st, stepOp, newB, ptrTo, binV, arith, isSh, storeV, all1, idxAV, fieldV, faddrV, iaddrSV, iaddrAV, pickV, convV, unV, eqbV, eqpV, extV, lenV, mm2, mmV, nilckV, ress, res1, retV, Value.cells, cond_true, cond_false, Bool.true_or, Bool.false_or, Bool.or_true, Bool.or_false, beq_self_eq_true, if_true, if_false, ite_true, ite_false, decide_true, decide_false, decide_eq_true_eq, reduceIte, Nat.zero_add, Nat.add_zero, and_self, true_and, and_true, List.size_toArray, List.length_cons, List.length_nil, List.append_nil, List.nil_append, Int.toNat_zero, Bool.not_false, Bool.not_true, Bool.not_not, Bool.false_eq_true, Bool.true_eq_false, reduceCtorEq, Int.reduceLT, Int.reduceLE, Int.reduceToNat, Int.reduceAdd, Int.reduceSub, Int.reduceMul, Int.reduceNeg, Nat.reduceMul, Nat.reduceAdd, Nat.reduceSub, Nat.reduceBEq, Nat.reduceEqDiff, Nat.reduceLT, Nat.reduceLeDiff, Int.reduceBEq, Int.reduceEq, Nat.reducePow, Int.reducePow, IntWalk.i64_in, IntKind.bits, eqAV, eqL, leafEq, andO, fillV, buildSV, List.getElem?_toArray, List.getElem?_cons_zero, List.getElem?_cons_succ, List.getElem?_nil, Int.reduceGT, Int.reduceGE, Int.reduceBNe, Bool.true_and, Bool.and_true, Bool.false_and, Bool.and_false, Bool.and_self, IntWalk.u64_in, Int.cast_ofNat_Int, callF1, pad16, pad_0, pad_1, pad_2, pad_3, pad_4, pad_5, pad_6, pad_7, pad_8, pad_9, pad_10, pad_11, pad_12, pad_13, pad_14, pad_15, gc0, gc1, gc2, gc3, gc4, gc5, gc6, gc7, gc8, gc9, gc10, gc11, gc12, gc13, gc14, gc15, gcS, sc0, sc1, sc2, sc3, sc4, sc5, sc6, sc7, sc8, sc9, sc10, sc11, sc12, sc13, sc14, sc15, scS, List.drop_succ_cons, List.drop_nil]
  with_reducible exact done1
theorem ask_in {c : Int} (h : 1 ≤ c ∧ c ≤ 255) : (∀ x, askA c x = x) ∧ (∀ e, askE c e = 0) := ⟨fun _ => if_pos h, fun _ => if_pos h⟩
theorem ask_out {c : Int} (h : ¬ (1 ≤ c ∧ c ≤ 255)) : (∀ x, askA c x = 0) ∧ (∀ e, askE c e = e) := ⟨fun _ => if_neg h, fun _ => if_neg h⟩
theorem ans_in {c : Int} (h : 0 ≤ c ∧ c ≤ 255) : (∀ x, ansA c x = x) ∧ ansE c = 0 := ⟨fun _ => if_pos h, if_pos h⟩
theorem tol_in {c : Int} (h : 1 ≤ c ∧ c ≤ 256) : (∀ x, tolA c x = x) ∧ tolE c = 0 := ⟨fun _ => if_pos h, if_pos h⟩
theorem tol_out {c : Int} (h : ¬ (1 ≤ c ∧ c ≤ 256)) : (∀ x, tolA c x = 0) ∧ tolE c = 2 := ⟨fun _ => if_neg h, if_neg h⟩
theorem hd_in {s p : Int} (h : okH s p) : hdA s p = 2 * p + s ∧ hdE s p = 0 := ⟨if_pos h, if_pos h⟩
theorem hd_out {s p : Int} (h : ¬ okH s p) : hdA s p = 0 ∧ hdE s p = 1 := ⟨if_neg h, if_neg h⟩
theorem beq_f {a b : Int} (h : a ≠ b) : (a == b) = false := by simpa using h
theorem bne_t {a b : Int} (h : a ≠ b) : (a != b) = true := by simpa using h
theorem ph_of {s q : Int} (h : okH s q) : phS (2 * q + s) = s ∧ phP (2 * q + s) = q ∧ phE (2 * q + s) = 0 := by
  unfold okH at h
  unfold phS phP phE
  have h1 : ¬ 2 * q + s > 32 := by omega
  rw [if_neg h1, if_neg h1, if_neg h1]
  by_cases h0 : s = 0
  · have := h.2.2.2.2 h0
    rw [if_pos (by omega), if_pos (by omega)]
    omega
  · rw [if_neg (by omega), if_neg (by omega)]
    omega
theorem hd_of {x : Int} (h : 0 ≤ x ∧ x ≤ 32) : okH (phS x) (phP x) ∧ 2 * phP x + phS x = x ∧ phE x = 0 := by
  unfold phS phP phE okH
  have h1 : ¬ x > 32 := by omega
  rw [if_neg h1, if_neg h1, if_neg h1]
  by_cases h0 : x = 0
  · rw [if_pos h0, if_pos h0]; omega
  · rw [if_neg h0, if_neg h0]; omega
theorem ph_out {x : Int} (h : x > 32) : phS x = 0 ∧ phP x = 0 ∧ phE x = 2 := ⟨if_pos h, if_pos h, if_pos h⟩

/-- whitewash/whitewashlaw06.RecBack -/
def L4 : FnL := ⟨(.seq (.ops [⟨(some 12), .mv (.const (.bool false)), none⟩])
 (.seq (.ops [⟨(some 31), .call (.func 7) [], none⟩, ⟨(some 13), .mv (.tmp 31), none⟩])
 (.seq (.ops [⟨(some 32), .mv (.tmp 0), none⟩, ⟨(some 33), .call (.func 18) [(.tmp 32), (.const (.int .i64 255))], none⟩, ⟨(some 34), .bin .add (.const (.int .i64 1)) (.tmp 33), none⟩, ⟨(some 35), .mv (.tmp 4), none⟩, ⟨(some 36), .mv (.tmp 5), none⟩, ⟨(some 37), .build [(.int .i64 0), (.int .u64 0), (.int .u64 0)] [(0, 1, (.tmp 34)), (1, 1, (.tmp 35)), (2, 1, (.tmp 36))], none⟩, ⟨(some 14), .alloc [(.int .i64 0), (.int .u64 0), (.int .u64 0)], none⟩, ⟨none, .store 3 (.tmp 14) (.tmp 37), none⟩])
 (.seq (.ops [⟨(some 38), .mv (.tmp 1), none⟩, ⟨(some 39), .call (.func 18) [(.tmp 38), (.const (.int .i64 256))], none⟩, ⟨(some 40), .mv (.tmp 5), none⟩, ⟨(some 41), .build [(.int .i64 0), (.int .u64 0)] [(0, 1, (.tmp 39)), (1, 1, (.tmp 40))], none⟩, ⟨(some 15), .alloc [(.int .i64 0), (.int .u64 0)], none⟩, ⟨none, .store 2 (.tmp 15) (.tmp 41), none⟩])
 (.seq (.ops [⟨(some 42), .mv (.tmp 2), none⟩, ⟨(some 43), .call (.func 18) [(.tmp 42), (.const (.int .i64 3))], none⟩, ⟨(some 16), .mv (.tmp 43), none⟩])
 (.seq (.ops [⟨(some 44), .mv (.tmp 3), none⟩, ⟨(some 45), .call (.func 18) [(.tmp 44), (.const (.int .i64 16))], none⟩, ⟨(some 17), .mv (.tmp 45), none⟩])
 (.seq (.seq (.ops [⟨(some 46), .mv (.tmp 16), none⟩, ⟨(some 47), .bin .eql (.tmp 46) (.const (.int .i64 0)), none⟩])
 (.cond (.tmp 47) (.ops [⟨(some 17), .mv (.const (.int .i64 0)), none⟩])
 .skip))
 (.seq (.ops [⟨(some 49), .load true 3 (.tmp 14), none⟩, ⟨(some 50), .call (.func 8) [(.tmp 49)], none⟩, ⟨(some 48), .mv (.tmp 50), none⟩, ⟨(some 51), .ext (.tmp 48) 0, none⟩, ⟨(some 52), .ext (.tmp 48) 1, none⟩, ⟨(some 18), .alloc [(.int .u64 0), (.int .u64 0), (.int .u64 0)], none⟩, ⟨none, .store 3 (.tmp 18) (.tmp 51), none⟩, ⟨(some 19), .mv (.tmp 52), none⟩])
 (.seq (.ops [⟨(some 54), .load true 3 (.tmp 18), none⟩, ⟨(some 55), .call (.func 12) [(.tmp 54)], none⟩, ⟨(some 53), .mv (.tmp 55), none⟩, ⟨(some 56), .ext (.tmp 53) 0, none⟩, ⟨(some 57), .ext (.tmp 53) 1, none⟩, ⟨(some 20), .alloc [(.int .i64 0), (.int .u64 0), (.int .u64 0)], none⟩, ⟨none, .store 3 (.tmp 20) (.tmp 56), none⟩, ⟨(some 21), .mv (.tmp 57), none⟩])
 (.seq (.ops [⟨(some 59), .load true 2 (.tmp 15), none⟩, ⟨(some 60), .call (.func 10) [(.tmp 59)], none⟩, ⟨(some 58), .mv (.tmp 60), none⟩, ⟨(some 61), .ext (.tmp 58) 0, none⟩, ⟨(some 62), .ext (.tmp 58) 1, none⟩, ⟨(some 22), .alloc [(.int .u64 0), (.int .u64 0)], none⟩, ⟨none, .store 2 (.tmp 22) (.tmp 61), none⟩, ⟨(some 23), .mv (.tmp 62), none⟩])
 (.seq (.ops [⟨(some 64), .load true 2 (.tmp 22), none⟩, ⟨(some 65), .call (.func 14) [(.tmp 64)], none⟩, ⟨(some 63), .mv (.tmp 65), none⟩, ⟨(some 66), .ext (.tmp 63) 0, none⟩, ⟨(some 67), .ext (.tmp 63) 1, none⟩, ⟨(some 24), .alloc [(.int .i64 0), (.int .u64 0)], none⟩, ⟨none, .store 2 (.tmp 24) (.tmp 66), none⟩, ⟨(some 25), .mv (.tmp 67), none⟩])
 (.seq (.ops [⟨(some 69), .mv (.tmp 16), none⟩, ⟨(some 70), .mv (.tmp 17), none⟩, ⟨(some 71), .call (.func 19) [(.tmp 69), (.tmp 70)], none⟩, ⟨(some 68), .mv (.tmp 71), none⟩, ⟨(some 72), .ext (.tmp 68) 0, none⟩, ⟨(some 73), .ext (.tmp 68) 1, none⟩, ⟨(some 26), .mv (.tmp 72), none⟩, ⟨(some 27), .mv (.tmp 73), none⟩])
 (.seq (.ops [⟨(some 75), .mv (.tmp 26), none⟩, ⟨(some 76), .call (.func 16) [(.tmp 75)], none⟩, ⟨(some 74), .mv (.tmp 76), none⟩, ⟨(some 77), .ext (.tmp 74) 0, none⟩, ⟨(some 78), .ext (.tmp 74) 1, none⟩, ⟨(some 79), .ext (.tmp 74) 2, none⟩, ⟨(some 28), .mv (.tmp 77), none⟩, ⟨(some 29), .mv (.tmp 78), none⟩, ⟨(some 30), .mv (.tmp 79), none⟩])
 (.seq (.ops [⟨(some 80), .mv (.tmp 13), none⟩, ⟨(some 81), .mv (.tmp 80), none⟩, ⟨(some 82), .mv (.tmp 19), (some (81, true))⟩, ⟨(some 83), .bin .eql (.tmp 82) (.const (.int .i64 0)), (some (81, true))⟩, ⟨(some 84), .pick (.tmp 81) (.tmp 83) (.const (.bool false)), none⟩, ⟨(some 85), .mv (.tmp 84), none⟩, ⟨(some 86), .mv (.tmp 21), (some (85, true))⟩, ⟨(some 87), .bin .eql (.tmp 86) (.const (.int .i64 0)), (some (85, true))⟩, ⟨(some 88), .pick (.tmp 85) (.tmp 87) (.const (.bool false)), none⟩, ⟨(some 89), .mv (.tmp 88), none⟩, ⟨(some 90), .load true 3 (.tmp 20), (some (89, true))⟩, ⟨(some 91), .load true 3 (.tmp 14), (some (89, true))⟩, ⟨(some 92), .eqA false [.int, .int, .int] (.tmp 90) (.tmp 91), (some (89, true))⟩, ⟨(some 93), .pick (.tmp 89) (.tmp 92) (.const (.bool false)), none⟩, ⟨(some 94), .mv (.tmp 93), none⟩, ⟨(some 95), .iaddrA 1 3 (.tmp 18) (.const (.int .i64 0)), (some (94, true))⟩, ⟨(some 96), .load false 1 (.tmp 95), (some (94, true))⟩, ⟨(some 97), .bin .neq (.tmp 96) (.const (.int .u64 0)), (some (94, true))⟩, ⟨(some 98), .pick (.tmp 94) (.tmp 97) (.const (.bool false)), none⟩, ⟨(some 99), .mv (.tmp 98), none⟩, ⟨(some 100), .mv (.tmp 23), (some (99, true))⟩, ⟨(some 101), .bin .eql (.tmp 100) (.const (.int .i64 0)), (some (99, true))⟩, ⟨(some 102), .pick (.tmp 99) (.tmp 101) (.const (.bool false)), none⟩, ⟨(some 103), .mv (.tmp 102), none⟩, ⟨(some 104), .mv (.tmp 25), (some (103, true))⟩, ⟨(some 105), .bin .eql (.tmp 104) (.const (.int .i64 0)), (some (103, true))⟩, ⟨(some 106), .pick (.tmp 103) (.tmp 105) (.const (.bool false)), none⟩, ⟨(some 107), .mv (.tmp 106), none⟩, ⟨(some 108), .load true 2 (.tmp 24), (some (107, true))⟩, ⟨(some 109), .load true 2 (.tmp 15), (some (107, true))⟩, ⟨(some 110), .eqA false [.int, .int] (.tmp 108) (.tmp 109), (some (107, true))⟩, ⟨(some 111), .pick (.tmp 107) (.tmp 110) (.const (.bool false)), none⟩, ⟨(some 112), .mv (.tmp 111), none⟩, ⟨(some 113), .iaddrA 1 2 (.tmp 22) (.const (.int .i64 0)), (some (112, true))⟩, ⟨(some 114), .load false 1 (.tmp 113), (some (112, true))⟩, ⟨(some 115), .bin .neq (.tmp 114) (.const (.int .u64 0)), (some (112, true))⟩, ⟨(some 116), .pick (.tmp 112) (.tmp 115) (.const (.bool false)), none⟩, ⟨(some 117), .mv (.tmp 116), none⟩, ⟨(some 118), .mv (.tmp 27), (some (117, true))⟩, ⟨(some 119), .bin .eql (.tmp 118) (.const (.int .i64 0)), (some (117, true))⟩, ⟨(some 120), .pick (.tmp 117) (.tmp 119) (.const (.bool false)), none⟩, ⟨(some 121), .mv (.tmp 120), none⟩, ⟨(some 122), .mv (.tmp 30), (some (121, true))⟩, ⟨(some 123), .bin .eql (.tmp 122) (.const (.int .i64 0)), (some (121, true))⟩, ⟨(some 124), .pick (.tmp 121) (.tmp 123) (.const (.bool false)), none⟩, ⟨(some 125), .mv (.tmp 124), none⟩, ⟨(some 126), .mv (.tmp 28), (some (125, true))⟩, ⟨(some 127), .mv (.tmp 16), (some (125, true))⟩, ⟨(some 128), .bin .eql (.tmp 126) (.tmp 127), (some (125, true))⟩, ⟨(some 129), .pick (.tmp 125) (.tmp 128) (.const (.bool false)), none⟩, ⟨(some 130), .mv (.tmp 129), none⟩, ⟨(some 131), .mv (.tmp 29), (some (130, true))⟩, ⟨(some 132), .mv (.tmp 17), (some (130, true))⟩, ⟨(some 133), .bin .eql (.tmp 131) (.tmp 132), (some (130, true))⟩, ⟨(some 134), .pick (.tmp 130) (.tmp 133) (.const (.bool false)), none⟩, ⟨(some 135), .mv (.tmp 134), none⟩, ⟨(some 136), .mv (.tmp 26), (some (135, true))⟩, ⟨(some 137), .bin .eql (.tmp 136) (.const (.int .u64 0)), (some (135, true))⟩, ⟨(some 138), .mv (.tmp 16), (some (135, true))⟩, ⟨(some 139), .bin .eql (.tmp 138) (.const (.int .i64 0)), (some (135, true))⟩, ⟨(some 140), .eqb false (.tmp 137) (.tmp 139), (some (135, true))⟩, ⟨(some 141), .pick (.tmp 135) (.tmp 140) (.const (.bool false)), none⟩, ⟨(some 12), .mv (.tmp 141), none⟩])
 .ret)))))))))))))),
 142, [.tmp 12]⟩
theorem low4 : lowerFn Try.prog Try.f4 = some L4 := by kernel_rfl
noncomputable def G4 (B : OH) : Nat → Cs
  | 7 => V7 B
  | 8 => V8 B
  | 10 => V10 B
  | 12 => V12 B
  | 14 => V14 B
  | 16 => V16 B
  | 18 => V18 B
  | 19 => V19 B
  | _ => fun _ _ _ => none
theorem G4_7 {B : OH} : G4 B 7 = fun a H N => pv (F7 B a) H N := rfl
theorem G4_8 {B : OH} : G4 B 8 = fun a H N => pv (F8 B a) H N := rfl
theorem G4_10 {B : OH} : G4 B 10 = fun a H N => pv (F10 B a) H N := rfl
theorem G4_12 {B : OH} : G4 B 12 = fun a H N => pv (F12 B a) H N := rfl
theorem G4_14 {B : OH} : G4 B 14 = fun a H N => pv (F14 B a) H N := rfl
theorem G4_16 {B : OH} : G4 B 16 = fun a H N => pv (F16 B a) H N := rfl
theorem G4_18 {B : OH} : G4 B 18 = fun a H N => pv (F18 B a) H N := rfl
theorem G4_19 {B : OH} : G4 B 19 = fun a H N => pv (F19 B a) H N := rfl
theorem sG4 {w0 : World} {B : OH} : SoundG Try.prog w0 B (G4 B) := fun k => by
  unfold G4
  split
  · exact .inr ⟨en7, sV7⟩
  · exact .inr ⟨en8, sV8⟩
  · exact .inr ⟨en10, sV10⟩
  · exact .inr ⟨en12, sV12⟩
  · exact .inr ⟨en14, sV14⟩
  · exact .inr ⟨en16, sV16⟩
  · exact .inr ⟨en18, sV18⟩
  · exact .inr ⟨en19, sV19⟩
  · exact .inl fun _ _ _ => rfl
set_option maxHeartbeats 2000000 in
theorem lv4 {B : OH} (cd en ph p k v : Int) (hcd : -9223372036854775808 ≤ cd ∧ cd ≤ 9223372036854775807) (hen : -9223372036854775808 ≤ en ∧ en ≤ 9223372036854775807) (hph : -9223372036854775808 ≤ ph ∧ ph ≤ 9223372036854775807) (hp : -9223372036854775808 ≤ p ∧ p ≤ 9223372036854775807) (hk : 0 ≤ k ∧ k < 18446744073709551616) (hv : 0 ≤ v ∧ v < 18446744073709551616) (H : HL) (N : St) (hN : good B H N) : ∃ H' N', callF B (G4 B) 80 L4 [.int .i64 cd, .int .i64 en, .int .i64 ph, .int .i64 p, .int .u64 k, .int .u64 v] H N = some (.bool true, H', N') := by
  have hG : ∃ H N, good B H N := ⟨H, N, hN⟩
  have hB := good_B hN
  have hR := good_rdB hN
  have hI := beqN hN.1
  have p1 := pick_b cd 255 (by omega)
  have p2 := pick_b en 256 (by omega)
  have p3 := pick_b ph 3 (by omega)
  have p4 := pick_b p 16 (by omega)
  have w1 : IntKind.i64.wrap (1 + pick cd 255) = 1 + pick cd 255 := IntWalk.i64_in _ (by omega)
  obtain ⟨c1, c2⟩ := ask_in (c := 1 + pick cd 255) (by omega)
  obtain ⟨c3, c4⟩ := ans_in (c := pick en 256) (by omega)
  obtain ⟨c5, c6⟩ := tol_in (c := pick en 256 + 1) (by omega)
  have c7 : pick en 256 + 1 - 1 = pick en 256 := by omega
  have c8 : (1 + pick cd 255 != 0) = true := bne_t (by omega)
  have c9 : (pick en 256 + 1 != 0) = true := bne_t (by omega)
  by_cases h : pick ph 3 = 0
  · have d1 : hdA 0 0 = 0 := by decide
    have d2 : hdE 0 0 = 0 := by decide
    have d3 : phS 0 = 0 := by decide
    have d4 : phP 0 = 0 := by decide
    have d5 : phE 0 = 0 := by decide
    simp -implicitDefEqProofs (maxSteps := 10000000) (disch := omega) only [L4, G4_7, G4_8, G4_10, G4_12, G4_14, G4_16, G4_18, G4_19, hB, hR, hI, f7 hG, f8 hG, f9 hG, f10 hG, f11 hG, f12 hG, f13 hG, f14 hG, f15 hG, f16 hG, f17 hG, f18 hG, f19 hG, f20 hG, w1, c1, c2, c3, c4, c5, c6, c7, c8, c9, h, d1, d2, d3, d4, d5, Int.mul_zero, Int.add_zero, bne_self_eq_false, pad, e_skip, e_ops, e_draw, d_none, d_nil, d_cons, d_ite, h_none, h_nil, h_cons, h_ite, eqS_same, lightV, e_seq, e_cond, e_block, e_loop, e_exit, e_ret, s_normal, s_ret, s_exit, s_none, s_ite, b_normal, b_ret, b_exit, b_none, b_ite, c_bool, o_some, o_none, o_ite, x_none, x_nil, x_cons, x_ite, p_some, p_none, p_ite, pt_some, pt_none, pv_some, pv_none, pv_ite, w_none, w_some, i_bool, i_undef, bt, bf, v_tmp, v_const, v_global, v_func, evs, f_normal, f_ret, f_none, f_ite, r_some, co_some, l_ptr, m_agg, m_one, sh_app, lk_nil, lk_cons, rd_eq, rdO_some, rdO_none, rdN_none, rdL_some, rdL_none, wrB_none, unitR_some, wrC_some, wrK_cells, consH_some, wr_nil, wr_here, wr_skip, wrH_cons, k_cells, tk_zero, tk_take, tk_skip, tkC_some, call_func, gt, st, stepOp, newB, ptrTo, binV, arith, isSh, storeV, all1, idxAV, fieldV, faddrV, iaddrSV, iaddrAV, pickV, convV, unV, eqbV, eqpV, extV, lenV, mm2, mmV, nilckV, ress, res1, retV, Value.cells, cond_true, cond_false, Bool.true_or, Bool.false_or, Bool.or_true, Bool.or_false, beq_self_eq_true, if_true, if_false, ite_true, ite_false, decide_true, decide_false, decide_eq_true_eq, reduceIte, Nat.zero_add, Nat.add_zero, and_self, true_and, and_true, List.size_toArray, List.length_cons, List.length_nil, List.append_nil, List.nil_append, Int.toNat_zero, Bool.not_false, Bool.not_true, Bool.not_not, Bool.false_eq_true, Bool.true_eq_false, reduceCtorEq, Int.reduceLT, Int.reduceLE, Int.reduceToNat, Int.reduceAdd, Int.reduceSub, Int.reduceMul, Int.reduceNeg, Nat.reduceMul, Nat.reduceAdd, Nat.reduceSub, Nat.reduceBEq, Nat.reduceEqDiff, Nat.reduceLT, Nat.reduceLeDiff, Int.reduceBEq, Int.reduceEq, Nat.reducePow, Int.reducePow, IntWalk.i64_in, IntKind.bits, eqAV, eqL, leafEq, andO, fillV, buildSV, List.getElem?_toArray, List.getElem?_cons_zero, List.getElem?_cons_succ, List.getElem?_nil, Int.reduceGT, Int.reduceGE, Int.reduceBNe, Bool.true_and, Bool.and_true, Bool.false_and, Bool.and_false, Bool.and_self, IntWalk.u64_in, Int.cast_ofNat_Int, callF1, pad16, pad_0, pad_1, pad_2, pad_3, pad_4, pad_5, pad_6, pad_7, pad_8, pad_9, pad_10, pad_11, pad_12, pad_13, pad_14, pad_15, gc0, gc1, gc2, gc3, gc4, gc5, gc6, gc7, gc8, gc9, gc10, gc11, gc12, gc13, gc14, gc15, gcS, sc0, sc1, sc2, sc3, sc4, sc5, sc6, sc7, sc8, sc9, sc10, sc11, sc12, sc13, sc14, sc15, scS, List.drop_succ_cons, List.drop_nil]
    with_reducible exact done1
  · have ok : okH (pick ph 3) (pick p 16) := by unfold okH; omega
    obtain ⟨d1, d2⟩ := hd_in ok
    obtain ⟨d3, d4, d5⟩ := ph_of ok
    have d6 := beq_f h
    have d7 : (2 * pick p 16 + pick ph 3 == 0) = false := beq_f (by omega)
    simp -implicitDefEqProofs (maxSteps := 10000000) (disch := omega) only [L4, G4_7, G4_8, G4_10, G4_12, G4_14, G4_16, G4_18, G4_19, hB, hR, hI, f7 hG, f8 hG, f9 hG, f10 hG, f11 hG, f12 hG, f13 hG, f14 hG, f15 hG, f16 hG, f17 hG, f18 hG, f19 hG, f20 hG, w1, c1, c2, c3, c4, c5, c6, c7, c8, c9, d1, d2, d3, d4, d5, d6, d7, bne_self_eq_false, pad, e_skip, e_ops, e_draw, d_none, d_nil, d_cons, d_ite, h_none, h_nil, h_cons, h_ite, eqS_same, lightV, e_seq, e_cond, e_block, e_loop, e_exit, e_ret, s_normal, s_ret, s_exit, s_none, s_ite, b_normal, b_ret, b_exit, b_none, b_ite, c_bool, o_some, o_none, o_ite, x_none, x_nil, x_cons, x_ite, p_some, p_none, p_ite, pt_some, pt_none, pv_some, pv_none, pv_ite, w_none, w_some, i_bool, i_undef, bt, bf, v_tmp, v_const, v_global, v_func, evs, f_normal, f_ret, f_none, f_ite, r_some, co_some, l_ptr, m_agg, m_one, sh_app, lk_nil, lk_cons, rd_eq, rdO_some, rdO_none, rdN_none, rdL_some, rdL_none, wrB_none, unitR_some, wrC_some, wrK_cells, consH_some, wr_nil, wr_here, wr_skip, wrH_cons, k_cells, tk_zero, tk_take, tk_skip, tkC_some, call_func, gt, st, stepOp, newB, ptrTo, binV, arith, isSh, storeV, all1, idxAV, fieldV, faddrV, iaddrSV, iaddrAV, pickV, convV, unV, eqbV, eqpV, extV, lenV, mm2, mmV, nilckV, ress, res1, retV, Value.cells, cond_true, cond_false, Bool.true_or, Bool.false_or, Bool.or_true, Bool.or_false, beq_self_eq_true, if_true, if_false, ite_true, ite_false, decide_true, decide_false, decide_eq_true_eq, reduceIte, Nat.zero_add, Nat.add_zero, and_self, true_and, and_true, List.size_toArray, List.length_cons, List.length_nil, List.append_nil, List.nil_append, Int.toNat_zero, Bool.not_false, Bool.not_true, Bool.not_not, Bool.false_eq_true, Bool.true_eq_false, reduceCtorEq, Int.reduceLT, Int.reduceLE, Int.reduceToNat, Int.reduceAdd, Int.reduceSub, Int.reduceMul, Int.reduceNeg, Nat.reduceMul, Nat.reduceAdd, Nat.reduceSub, Nat.reduceBEq, Nat.reduceEqDiff, Nat.reduceLT, Nat.reduceLeDiff, Int.reduceBEq, Int.reduceEq, Nat.reducePow, Int.reducePow, IntWalk.i64_in, IntKind.bits, eqAV, eqL, leafEq, andO, fillV, buildSV, List.getElem?_toArray, List.getElem?_cons_zero, List.getElem?_cons_succ, List.getElem?_nil, Int.reduceGT, Int.reduceGE, Int.reduceBNe, Bool.true_and, Bool.and_true, Bool.false_and, Bool.and_false, Bool.and_self, IntWalk.u64_in, Int.cast_ofNat_Int, callF1, pad16, pad_0, pad_1, pad_2, pad_3, pad_4, pad_5, pad_6, pad_7, pad_8, pad_9, pad_10, pad_11, pad_12, pad_13, pad_14, pad_15, gc0, gc1, gc2, gc3, gc4, gc5, gc6, gc7, gc8, gc9, gc10, gc11, gc12, gc13, gc14, gc15, gcS, sc0, sc1, sc2, sc3, sc4, sc5, sc6, sc7, sc8, sc9, sc10, sc11, sc12, sc13, sc14, sc15, scS, List.drop_succ_cons, List.drop_nil]
    with_reducible exact done1
end Go.Proofs.Ytffmiglkkfcpmaa
namespace Go.Proofs.Ytffmiglkkfcpmaa
open Go.Proofs.Ytffmiglkkfcpmaa.K Go.ChangeShapes Go.WideShapes Go.ChangeAt Go.RowKit
set_option maxRecDepth 100000
set_option linter.unusedSimpArgs false
set_option linter.unusedVariables false
namespace recTells
theorem own : ownKnob Try.prog.godebug = none := by kernel_rfl
theorem laidOut : laidOutB Try.prog = true := by kernel_rfl
theorem typesOk : (Try.f3.params.toList.all fun t => Try.prog.readableRec t && decide (t < Try.prog.types.size)) = true := by kernel_rfl
theorem contract (H : Type) (enc : TypeId × Value → H) (W : World) (base : Nat) (args : Array Value) (ds gs : List (DataW H)) (before : List MemPlace)
    (hval : ∀ (j : Nat) t v, Try.f3.params[j]? = some t → args[j]? = some v → Value.okWide Try.prog W .any base t v)
    (hW : DataW.Whole enc Try.prog Try.f3.params.toList Rows.recTellsSpec.vars false W args.toList ds gs before) (hL : laidMetH Try.prog Rows.recTellsRow.laid W) :
    Calls Try.prog 3 args W fun e W' => ∃ v, e = .returned v ∧ Rows.recTellsSpec.post enc Try.prog Try.f3 false true false false W args v W' := by
  have hW' := hW
  obtain ⟨p, q, hA0, hV, hpq, hfz, hnd⟩ := hW
  have hA : DataW.TrodAll enc Try.prog W 0 (fun _ => true) true Try.f3.params.toList args.toList ds p := hA0
  rw [Try.params3] at hA hval
  obtain ⟨v0, vs0, d0, ds0, p0, q0, hargs, rfl, rfl, h0, r0⟩ := trodAll_cons hA
  obtain ⟨v1, vs1, d1, ds1, p1, q1, rfl, rfl, rfl, h1, r1⟩ := trodAll_cons r0
  obtain ⟨v2, vs2, d2, ds2, p2, q2, rfl, rfl, rfl, h2, r2⟩ := trodAll_cons r1
  obtain ⟨v3, vs3, d3, ds3, p3, q3, rfl, rfl, rfl, h3, r3⟩ := trodAll_cons r2
  obtain ⟨v4, vs4, d4, ds4, p4, q4, rfl, rfl, rfl, h4, r4⟩ := trodAll_cons r3
  obtain ⟨rfl, rfl, rfl⟩ := trodAll_nil r4
  obtain rfl : args = #[v0, v1, v2, v3, v4] := by apply Array.ext'; simpa using hargs
  obtain ⟨rfl, rfl⟩ := trodVars_none hV
  obtain ⟨m0, rfl, k0⟩ := open_flat (P := Try.prog) 20 (show aggB Try.prog 24 = some true by kernel_rfl) (show leafs Try.prog 20 24 = some [.int .i64, .int .u64, .int .u64] by kernel_rfl) (hval 0 24 v0 rfl rfl) h0
  obtain ⟨x0_0, m0_0, rfl, w0_0, k0⟩ := k0.int
  have b0_0 := i64_wf w0_0
  obtain ⟨x0_1, m0_1, rfl, w0_1, k0⟩ := k0.int
  have b0_1 := u64_wf' w0_1
  obtain ⟨x0_2, m0_2, rfl, w0_2, k0⟩ := k0.int
  have b0_2 := u64_wf' w0_2
  obtain rfl := k0.none
  obtain ⟨m1, rfl, k1⟩ := open_flat (P := Try.prog) 20 (show aggB Try.prog 27 = some true by kernel_rfl) (show leafs Try.prog 20 27 = some [.int .i64, .int .u64] by kernel_rfl) (hval 1 27 v1 rfl rfl) h1
  obtain ⟨x1_0, m1_0, rfl, w1_0, k1⟩ := k1.int
  have b1_0 := i64_wf w1_0
  obtain ⟨x1_1, m1_1, rfl, w1_1, k1⟩ := k1.int
  have b1_1 := u64_wf' w1_1
  obtain rfl := k1.none
  obtain ⟨x2, rfl, rfl, rfl, w2⟩ := open_int Try.underlying3 (hval 2 3 v2 rfl rfl) h2
  have b2 := i64_wf w2
  obtain ⟨x3, rfl, rfl, rfl, w3⟩ := open_int Try.underlying3 (hval 3 3 v3 rfl rfl) h3
  have b3 := i64_wf w3
  obtain ⟨m4, rfl, k4⟩ := open_flat (P := Try.prog) 20 (show aggB Try.prog 28 = some true by kernel_rfl) (show leafs Try.prog 20 28 = some [.int .u64, .int .u64, .int .u64] by kernel_rfl) (hval 4 28 v4 rfl rfl) h4
  obtain ⟨x4_0, m4_0, rfl, w4_0, k4⟩ := k4.int
  have b4_0 := u64_wf' w4_0
  obtain ⟨x4_1, m4_1, rfl, w4_1, k4⟩ := k4.int
  have b4_1 := u64_wf' w4_1
  obtain ⟨x4_2, m4_2, rfl, w4_2, k4⟩ := k4.int
  have b4_2 := u64_wf' w4_2
  obtain rfl := k4.none
  refine law_post laidOut (fun t ht => by simpa using List.all_eq_true.1 typesOk t ht) rfl (show Try.f3.resultTypes = #[4] by rfl) Try.underlying4 hW' rfl rfl rfl ?_
  have hs := callF_sound (w0 := W) (B := startB W) mixedOrders sG3 80 Try.func3 low3
  exact law_calls hs (args := [.agg #[.int .i64 x0_0, .int .u64 x0_1, .int .u64 x0_2], .agg #[.int .i64 x1_0, .int .u64 x1_1], .int .i64 x2, .int .i64 x3, .agg #[.int .u64 x4_0, .int .u64 x4_1, .int .u64 x4_2]]) fun N hN => lv3 x0_0 x0_1 x0_2 x1_0 x1_1 x2 x3 x4_0 x4_1 x4_2 b0_0 b0_1 b0_2 b1_0 b1_1 b2 b3 b4_0 b4_1 b4_2 [] N hN

noncomputable def laidWorld (os : Os) : World := laidW Try.prog os []
theorem laid_met (os : Os) : laidMet Try.prog Rows.recTellsRow.laid ((laidWorld os).forCall (fun _ _ => 0) ⟨#[], #[.agg #[.int .i64 0, .int .u64 0, .int .u64 0], .agg #[.int .i64 0, .int .u64 0], .int .i64 0, .int .i64 0, .agg #[.int .u64 0, .int .u64 0, .int .u64 0]], []⟩).memory :=
  laidMet_of_run' 16 (by kernel_rfl) (by kernel_rfl)
theorem reads (os : Os) {H : Type} (enc : TypeId × Value → H) : ∃ places, DataW.whole enc Try.prog ((laidWorld os).forCall (fun _ _ => 0) ⟨#[], #[.agg #[.int .i64 0, .int .u64 0, .int .u64 0], .agg #[.int .i64 0, .int .u64 0], .int .i64 0, .int .i64 0, .agg #[.int .u64 0, .int .u64 0, .int .u64 0]], []⟩).memory Try.f3.params.toList Rows.recTellsSpec.vars false (#[.agg #[.int .i64 0, .int .u64 0, .int .u64 0], .agg #[.int .i64 0, .int .u64 0], .int .i64 0, .int .i64 0, .agg #[.int .u64 0, .int .u64 0, .int .u64 0]] : Array Value).toList 16 = some ([.agg [.lit (.int .i64 0), .lit (.int .u64 0), .lit (.int .u64 0)], .agg [.lit (.int .i64 0), .lit (.int .u64 0)], .lit (.int .i64 0), .lit (.int .i64 0), .agg [.lit (.int .u64 0), .lit (.int .u64 0), .lit (.int .u64 0)]], [], places) :=
  ⟨[], by kernel_rfl⟩
theorem lifted (os : Os) (started : os.Started) (H : Type) (enc : TypeId × Value → H) (F : Stop.Interp) :
    ReturnsInHanded {} Try.checked os 3 .any ((OpenSpec.ofChange Rows.recTellsSpec).preRow enc Try.prog Try.f3 Rows.recTellsRow.domain false Rows.recTellsRow.laid) (((OpenSpec.ofChange Rows.recTellsSpec).at F).post enc Try.prog Try.f3 false true false false) := by
  obtain ⟨places, hx⟩ := reads os enc
  refine returnsInHanded_of_row (C := Try.checked) (s := OpenSpec.ofChange Rows.recTellsSpec) own started (by kernel_rfl) Try.func3
    (witness_row_at (enc := enc) (C := Try.checked) false (laidWorld os) #[.agg #[.int .i64 0, .int .u64 0, .int .u64 0], .agg #[.int .i64 0, .int .u64 0], .int .i64 0, .int .i64 0, .agg #[.int .u64 0, .int .u64 0, .int .u64 0]] rfl (by kernel_rfl) (by kernel_rfl) (by kernel_rfl)
      (OpenSpec.preRow_of_cond 16 hx (by kernel_rfl) (fun k hk => by cases hk) (by kernel_rfl) (laid_met os))) ?_
  intro W base args ds gs before hval hW _ _ _ hL _ _
  exact contract H enc W base args ds gs before hval hW hL
theorem said : Rows.RecTellsSaid :=
  OpenClaim.holds_of_cond 3 Try.f3 rfl rfl rfl rfl rfl rfl rfl ⟨rfl, rfl, rfl, rfl, rfl⟩ rfl rfl rfl rfl rfl (by kernel_rfl) Try.func3 (by kernel_rfl)
    (of_decide_eq_true (by kernel_rfl)) (by unfold Func.isWrapper; first | (rw [if_pos (by decide +kernel)]; kernel_rfl) | (rw [if_neg (by decide +kernel)]; exact ⟨rfl, rfl⟩))
    (fun os started H enc _ F => by rw [OpenClaim.pre_eq_preRow]; exact lifted os started H enc F)
end recTells
namespace recBack
theorem own : ownKnob Try.prog.godebug = none := by kernel_rfl
theorem laidOut : laidOutB Try.prog = true := by kernel_rfl
theorem typesOk : (Try.f4.params.toList.all fun t => Try.prog.readableRec t && decide (t < Try.prog.types.size)) = true := by kernel_rfl
theorem contract (H : Type) (enc : TypeId × Value → H) (W : World) (base : Nat) (args : Array Value) (ds gs : List (DataW H)) (before : List MemPlace)
    (hval : ∀ (j : Nat) t v, Try.f4.params[j]? = some t → args[j]? = some v → Value.okWide Try.prog W .any base t v)
    (hW : DataW.Whole enc Try.prog Try.f4.params.toList Rows.recBackSpec.vars false W args.toList ds gs before) (hL : laidMetH Try.prog Rows.recBackRow.laid W) :
    Calls Try.prog 4 args W fun e W' => ∃ v, e = .returned v ∧ Rows.recBackSpec.post enc Try.prog Try.f4 false true false false W args v W' := by
  have hW' := hW
  obtain ⟨p, q, hA0, hV, hpq, hfz, hnd⟩ := hW
  have hA : DataW.TrodAll enc Try.prog W 0 (fun _ => true) true Try.f4.params.toList args.toList ds p := hA0
  rw [Try.params4] at hA hval
  obtain ⟨v0, vs0, d0, ds0, p0, q0, hargs, rfl, rfl, h0, r0⟩ := trodAll_cons hA
  obtain ⟨v1, vs1, d1, ds1, p1, q1, rfl, rfl, rfl, h1, r1⟩ := trodAll_cons r0
  obtain ⟨v2, vs2, d2, ds2, p2, q2, rfl, rfl, rfl, h2, r2⟩ := trodAll_cons r1
  obtain ⟨v3, vs3, d3, ds3, p3, q3, rfl, rfl, rfl, h3, r3⟩ := trodAll_cons r2
  obtain ⟨v4, vs4, d4, ds4, p4, q4, rfl, rfl, rfl, h4, r4⟩ := trodAll_cons r3
  obtain ⟨v5, vs5, d5, ds5, p5, q5, rfl, rfl, rfl, h5, r5⟩ := trodAll_cons r4
  obtain ⟨rfl, rfl, rfl⟩ := trodAll_nil r5
  obtain rfl : args = #[v0, v1, v2, v3, v4, v5] := by apply Array.ext'; simpa using hargs
  obtain ⟨rfl, rfl⟩ := trodVars_none hV
  obtain ⟨x0, rfl, rfl, rfl, w0⟩ := open_int Try.underlying3 (hval 0 3 v0 rfl rfl) h0
  have b0 := i64_wf w0
  obtain ⟨x1, rfl, rfl, rfl, w1⟩ := open_int Try.underlying3 (hval 1 3 v1 rfl rfl) h1
  have b1 := i64_wf w1
  obtain ⟨x2, rfl, rfl, rfl, w2⟩ := open_int Try.underlying3 (hval 2 3 v2 rfl rfl) h2
  have b2 := i64_wf w2
  obtain ⟨x3, rfl, rfl, rfl, w3⟩ := open_int Try.underlying3 (hval 3 3 v3 rfl rfl) h3
  have b3 := i64_wf w3
  obtain ⟨x4, rfl, rfl, rfl, w4⟩ := open_int Try.underlying22 (hval 4 22 v4 rfl rfl) h4
  have b4 := u64_wf' w4
  obtain ⟨x5, rfl, rfl, rfl, w5⟩ := open_int Try.underlying22 (hval 5 22 v5 rfl rfl) h5
  have b5 := u64_wf' w5
  refine law_post laidOut (fun t ht => by simpa using List.all_eq_true.1 typesOk t ht) rfl (show Try.f4.resultTypes = #[4] by rfl) Try.underlying4 hW' rfl rfl rfl ?_
  have hs := callF_sound (w0 := W) (B := startB W) mixedOrders sG4 80 Try.func4 low4
  exact law_calls hs (args := [.int .i64 x0, .int .i64 x1, .int .i64 x2, .int .i64 x3, .int .u64 x4, .int .u64 x5]) fun N hN => lv4 x0 x1 x2 x3 x4 x5 b0 b1 b2 b3 b4 b5 [] N hN

noncomputable def laidWorld (os : Os) : World := laidW Try.prog os []
theorem laid_met (os : Os) : laidMet Try.prog Rows.recBackRow.laid ((laidWorld os).forCall (fun _ _ => 0) ⟨#[], #[.int .i64 0, .int .i64 0, .int .i64 0, .int .i64 0, .int .u64 0, .int .u64 0], []⟩).memory :=
  laidMet_of_run' 16 (by kernel_rfl) (by kernel_rfl)
theorem reads (os : Os) {H : Type} (enc : TypeId × Value → H) : ∃ places, DataW.whole enc Try.prog ((laidWorld os).forCall (fun _ _ => 0) ⟨#[], #[.int .i64 0, .int .i64 0, .int .i64 0, .int .i64 0, .int .u64 0, .int .u64 0], []⟩).memory Try.f4.params.toList Rows.recBackSpec.vars false (#[.int .i64 0, .int .i64 0, .int .i64 0, .int .i64 0, .int .u64 0, .int .u64 0] : Array Value).toList 16 = some ([.lit (.int .i64 0), .lit (.int .i64 0), .lit (.int .i64 0), .lit (.int .i64 0), .lit (.int .u64 0), .lit (.int .u64 0)], [], places) :=
  ⟨[], by kernel_rfl⟩
theorem lifted (os : Os) (started : os.Started) (H : Type) (enc : TypeId × Value → H) (F : Stop.Interp) :
    ReturnsInHanded {} Try.checked os 4 .any ((OpenSpec.ofChange Rows.recBackSpec).preRow enc Try.prog Try.f4 Rows.recBackRow.domain false Rows.recBackRow.laid) (((OpenSpec.ofChange Rows.recBackSpec).at F).post enc Try.prog Try.f4 false true false false) := by
  obtain ⟨places, hx⟩ := reads os enc
  refine returnsInHanded_of_row (C := Try.checked) (s := OpenSpec.ofChange Rows.recBackSpec) own started (by kernel_rfl) Try.func4
    (witness_row_at (enc := enc) (C := Try.checked) false (laidWorld os) #[.int .i64 0, .int .i64 0, .int .i64 0, .int .i64 0, .int .u64 0, .int .u64 0] rfl (by kernel_rfl) (by kernel_rfl) (by kernel_rfl)
      (OpenSpec.preRow_of_cond 16 hx (by kernel_rfl) (fun k hk => by cases hk) (by kernel_rfl) (laid_met os))) ?_
  intro W base args ds gs before hval hW _ _ _ hL _ _
  exact contract H enc W base args ds gs before hval hW hL
theorem said : Rows.RecBackSaid :=
  OpenClaim.holds_of_cond 4 Try.f4 rfl rfl rfl rfl rfl rfl rfl ⟨rfl, rfl, rfl, rfl, rfl⟩ rfl rfl rfl rfl rfl (by kernel_rfl) Try.func4 (by kernel_rfl)
    (of_decide_eq_true (by kernel_rfl)) (by unfold Func.isWrapper; first | (rw [if_pos (by decide +kernel)]; kernel_rfl) | (rw [if_neg (by decide +kernel)]; exact ⟨rfl, rfl⟩))
    (fun os started H enc _ F => by rw [OpenClaim.pre_eq_preRow]; exact lifted os started H enc F)
end recBack
end Go.Proofs.Ytffmiglkkfcpmaa
