/- Proved here, for every input: what one raw thing does to a cell, that two memories are the same, and what the loop of CellsOne that compares does. Conditions: none. -/
import Derived.Test.YteilhhkkhnnglaaOwn
set_option linter.unusedSimpArgs false
set_option linter.unusedVariables false
namespace Go.Proofs.Yteilhhkkhnnglaa
open Go.Proofs.Yteilhhkkhnnglaa.K Go.ChangeShapes Go.WideShapes Go.ChangeAt Go.RowKit
set_option maxRecDepth 100000
set_option linter.unusedSimpArgs false
set_option linter.unusedVariables false

/-! ### A raw thing, done to a cell -/
def oneA (op p : Int) (c : Cell) : Int := if op = 0 ∨ op = 2 then c.1 else if op = 3 ∨ op = 4 then (if has01 c.2 p = 0 then 0 else 1) else 0
def oneC (op p w : Int) (c : Cell) : Cell := if op = 0 then c else if op = 1 then (w, 0) else if op = 2 then (c.1, lor c.2 (shl1 p)) else if op = 3 then c else if op = 4 then (if has01 c.2 p = 0 then c else (w, 0)) else (c.1, landn c.2 (shl1 p))
def gOne (op p w : Int) (c : Cell) : Value × Cell := (.tuple #[.int .u64 (oneA op p c), .int .i64 0], oneC op p w c)
/-- Only where there is a cell. -/
def sure : Option Spot → Option Spot
  | some (some x) => some (some x)
  | _ => none
theorem sure_some {x} : sure (some (some x)) = some (some x) := rfl
noncomputable def eOneR (B : OH) (H : HL) (m : Value) (i : Int) : List Value → Option (E × HL)
  | [.int .i64 n0, .int .i64 n1, .int .i64 _, .int .u64 w] =>
    if -9223372036854775808 ≤ n0 ∧ n0 ≤ 9223372036854775807 ∧ -9223372036854775808 ≤ n1 ∧ n1 ≤ 9223372036854775807 then act undef (gOne (pick n0 6) (pick n1 16) w) H (sure (look B H (pick n1 16) i m)) else none
  | _ => none
noncomputable def eOne (B : OH) (a : List Value) (H : HL) : Option (E × HL) := match a with
  | [m, .agg cs, .int .i64 i] => eOneR B H m i cs.toList
  | _ => none
theorem has_01 (l p : Int) (h : 0 ≤ p ∧ p < 64) : has01 l p = 0 ∨ has01 l p = 1 := by
  rw [has_bit l p h]; split <;> simp

/-- whitewash/whitewashlaw03.one -/
def L21 : FnL := ⟨(.seq (.ops [⟨(some 4), .box (.tmp 1), none⟩, ⟨(some 6), .mv (.const (.int .u64 0)), none⟩, ⟨(some 7), .mv (.const (.int .i64 0)), none⟩])
 (.seq (.ops [⟨(some 11), .faddr 0 (.tmp 4), none⟩, ⟨(some 12), .iaddrA 1 3 (.tmp 11) (.const (.int .i64 1)), none⟩, ⟨(some 13), .load false 1 (.tmp 12), none⟩, ⟨(some 14), .call (.func 9) [(.tmp 13), (.const (.int .i64 16))], none⟩, ⟨(some 8), .mv (.tmp 14), none⟩])
 (.seq (.ops [⟨(some 9), .mv (.const (.bool false)), none⟩])
 (.seq (.ops [⟨(some 10), .mv (.const (.int .i64 0)), none⟩])
 (.seq (.seq (.ops [⟨(some 15), .faddr 0 (.tmp 4), none⟩, ⟨(some 16), .iaddrA 1 3 (.tmp 15) (.const (.int .i64 0)), none⟩, ⟨(some 17), .load false 1 (.tmp 16), none⟩, ⟨(some 18), .call (.func 9) [(.tmp 17), (.const (.int .i64 6))], none⟩])
 (.block 0 (.seq (.ops [⟨(some 24), .bin .eql (.tmp 18) (.const (.int .i64 0)), none⟩, ⟨(some 23), .mv (.tmp 24), none⟩])
 (.cond (.tmp 23) (.seq (.ops [⟨(some 25), .mv (.tmp 0), none⟩, ⟨(some 26), .mv (.tmp 2), none⟩, ⟨(some 27), .call (.func 15) [(.tmp 25), (.tmp 26)], none⟩, ⟨(some 28), .ext (.tmp 27) 0, none⟩, ⟨(some 29), .ext (.tmp 27) 1, none⟩, ⟨(some 6), .mv (.tmp 28), none⟩, ⟨(some 7), .mv (.tmp 29), none⟩])
 .ret)
 (.seq (.ops [⟨(some 31), .bin .eql (.tmp 18) (.const (.int .i64 1)), none⟩, ⟨(some 30), .mv (.tmp 31), none⟩])
 (.cond (.tmp 30) (.seq (.ops [⟨(some 32), .mv (.tmp 0), none⟩, ⟨(some 33), .mv (.tmp 2), none⟩, ⟨(some 34), .faddr 3 (.tmp 4), none⟩, ⟨(some 35), .load false 1 (.tmp 34), none⟩, ⟨(some 36), .call (.func 16) [(.tmp 32), (.tmp 33), (.tmp 35)], none⟩, ⟨(some 6), .mv (.const (.int .u64 0)), none⟩, ⟨(some 7), .mv (.tmp 36), none⟩])
 .ret)
 (.seq (.ops [⟨(some 38), .bin .eql (.tmp 18) (.const (.int .i64 2)), none⟩, ⟨(some 37), .mv (.tmp 38), none⟩])
 (.cond (.tmp 37) (.seq (.ops [⟨(some 39), .mv (.tmp 0), none⟩, ⟨(some 40), .mv (.tmp 8), none⟩, ⟨(some 41), .mv (.tmp 2), none⟩, ⟨(some 42), .call (.func 17) [(.tmp 39), (.tmp 40), (.tmp 41)], none⟩, ⟨(some 43), .ext (.tmp 42) 0, none⟩, ⟨(some 44), .ext (.tmp 42) 1, none⟩, ⟨(some 6), .mv (.tmp 43), none⟩, ⟨(some 7), .mv (.tmp 44), none⟩])
 .ret)
 (.seq (.ops [⟨(some 46), .bin .eql (.tmp 18) (.const (.int .i64 3)), none⟩, ⟨(some 45), .mv (.tmp 46), none⟩])
 (.cond (.tmp 45) (.ops [⟨(some 48), .mv (.tmp 0), none⟩, ⟨(some 49), .mv (.tmp 8), none⟩, ⟨(some 50), .mv (.tmp 2), none⟩, ⟨(some 51), .call (.func 18) [(.tmp 48), (.tmp 49), (.tmp 50)], none⟩, ⟨(some 47), .mv (.tmp 51), none⟩, ⟨(some 52), .ext (.tmp 47) 0, none⟩, ⟨(some 53), .ext (.tmp 47) 1, none⟩, ⟨(some 9), .mv (.tmp 52), none⟩, ⟨(some 10), .mv (.tmp 53), none⟩])
 (.seq (.ops [⟨(some 55), .bin .eql (.tmp 18) (.const (.int .i64 4)), none⟩, ⟨(some 54), .mv (.tmp 55), none⟩])
 (.cond (.tmp 54) (.ops [⟨(some 57), .mv (.tmp 0), none⟩, ⟨(some 58), .mv (.tmp 8), none⟩, ⟨(some 59), .mv (.tmp 2), none⟩, ⟨(some 60), .faddr 3 (.tmp 4), none⟩, ⟨(some 61), .load false 1 (.tmp 60), none⟩, ⟨(some 62), .call (.func 19) [(.tmp 57), (.tmp 58), (.tmp 59), (.tmp 61)], none⟩, ⟨(some 56), .mv (.tmp 62), none⟩, ⟨(some 63), .ext (.tmp 56) 0, none⟩, ⟨(some 64), .ext (.tmp 56) 1, none⟩, ⟨(some 9), .mv (.tmp 63), none⟩, ⟨(some 10), .mv (.tmp 64), none⟩])
 (.seq (.ops [⟨(some 19), .mv (.tmp 0), none⟩, ⟨(some 20), .mv (.tmp 8), none⟩, ⟨(some 21), .mv (.tmp 2), none⟩, ⟨(some 22), .call (.func 20) [(.tmp 19), (.tmp 20), (.tmp 21)], none⟩, ⟨(some 6), .mv (.const (.int .u64 0)), none⟩, ⟨(some 7), .mv (.tmp 22), none⟩])
 .ret)))))))))))))
 (.seq (.seq (.ops [⟨(some 65), .mv (.tmp 9), none⟩])
 (.cond (.tmp 65) (.seq (.ops [⟨(some 66), .mv (.tmp 10), none⟩, ⟨(some 6), .mv (.const (.int .u64 1)), none⟩, ⟨(some 7), .mv (.tmp 66), none⟩])
 .ret)
 .skip))
 (.seq (.ops [⟨(some 67), .mv (.tmp 10), none⟩, ⟨(some 6), .mv (.const (.int .u64 0)), none⟩, ⟨(some 7), .mv (.tmp 67), none⟩])
 .ret))))))),
 68, [.tmp 6, .tmp 7]⟩
theorem low21 : lowerFn Try.prog Try.f21 = some L21 := by kernel_rfl
noncomputable def G21 (B : OH) : Nat → Cs
  | 9 => V9 B
  | 15 => V15 B
  | 16 => V16 B
  | 17 => V17 B
  | 18 => V18 B
  | 19 => V19 B
  | 20 => V20 B
  | _ => fun _ _ _ => none
theorem G21_9 {B : OH} : G21 B 9 = V9 B := rfl
theorem G21_15 {B : OH} : G21 B 15 = V15 B := rfl
theorem G21_16 {B : OH} : G21 B 16 = V16 B := rfl
theorem G21_17 {B : OH} : G21 B 17 = V17 B := rfl
theorem G21_18 {B : OH} : G21 B 18 = V18 B := rfl
theorem G21_19 {B : OH} : G21 B 19 = V19 B := rfl
theorem G21_20 {B : OH} : G21 B 20 = V20 B := rfl
theorem sG21 {w0 : World} {B : OH} : SoundG Try.prog w0 B (G21 B) := fun k => by
  unfold G21
  split
  · exact .inr ⟨en9, sV9⟩
  · exact .inr ⟨en15, sV15⟩
  · exact .inr ⟨en16, sV16⟩
  · exact .inr ⟨en17, sV17⟩
  · exact .inr ⟨en18, sV18⟩
  · exact .inr ⟨en19, sV19⟩
  · exact .inr ⟨en20, sV20⟩
  · exact .inl fun _ _ _ => rfl
theorem en21 : Enter Try.prog 21 := .of Try.func21 (by kernel_rfl) (by kernel_rfl)
noncomputable def T21 (B : OH) : Cs := callF B (G21 B) 200 L21
theorem sT21 {w0 : World} {B : OH} : SoundC Try.prog w0 B 21 (T21 B) := callF_sound mixedOrders sG21 200 Try.func21 low21
set_option maxHeartbeats 4000000 in
theorem ev21 {B : OH} : Eff B (T21 B) (eOne B) := by
  intro args x H H1 N hf hN
  have hG : ∃ H N, good B H N := ⟨H, N, hN⟩
  have hB := good_B hN
  have hR := good_rdB hN
  have hI := beqN hN.1.1
  unfold eOne at hf
  split at hf
  rotate_left
  · cases hf
  rename_i m cs i
  unfold eOneR at hf
  split at hf
  rotate_left
  · cases hf
  rename_i n0 n1 n2 w hcs
  obtain rfl : cs = #[.int .i64 n0, .int .i64 n1, .int .i64 n2, .int .u64 w] := by apply Array.ext'; simpa using hcs
  split at hf
  rotate_left
  · cases hf
  rename_i hw
  have e0 := f9 (B := B) hG n0 6 (by omega) (by omega)
  have e1 := f9 (B := B) hG n1 16 (by omega) (by omega)
  have b0 := pick_b n0 6 (by omega)
  have b1 := pick_b n1 16 (by omega)
  generalize pick n0 6 = op at e0 b0 hf
  generalize pick n1 16 = p at e1 b1 hf
  have hs : ∃ y, look B H p i m = some (some y) := by
    cases hl : look B H p i m with
    | none => rw [hl] at hf; cases hf
    | some r => cases r with
      | none => rw [hl] at hf; cases hf
      | some y => exact ⟨y, rfl⟩
  have hf' : act undef (gOne op p w) H (look B H p i m) = some (x, H1) := by
    obtain ⟨y, hy⟩ := hs
    rw [hy] at hf ⊢
    exact hf
  obtain ⟨y, hy⟩ := hs
  rcases act_inv hf' with ⟨rfl, _, _⟩ | ⟨mm, j, rfl, hBm, hlm, _, _⟩ | ⟨mm, j, b, c, k, L, rfl, hBm, hlm, hBb, hlb, h⟩
  · cases hy
  · simp [look, hBm, hlm, lookP, lookM] at hy
  have hnm := ne_good hN hBm hlm
  have hnb := ne_good hN hBb hlb
  have hrd : rdB B mm = fun _ _ => none := by funext o n; simp [rdB, hBm]
  have hrb : rdB B b = fun _ _ => none := by funext o n; simp [rdB, hBb]
  rcases h with ⟨hok, rfl, rfl⟩ | ⟨⟨h1, h2, h3, h4⟩, rfl, rfl⟩
  · simp [look, hBm, hlm, lookP, lookM, lookS, hBb, hlb, lookU, unf_fl, hok] at hy
  have hl : i.toNat < L.length := by omega
  refine eff_up hBb ?_
  have h6 : op = 0 ∨ op = 1 ∨ op = 2 ∨ op = 3 ∨ op = 4 ∨ op = 5 := by omega
  have f0 : ((0 : Int) = 0) = True := by simp
  rcases h6 with rfl | rfl | rfl | rfl | rfl | rfl
  · simp only [gOne, oneA, oneC, Int.reduceEq, or_self, or_true, true_or, false_or, or_false, if_true, if_false, set_same]
    simp -implicitDefEqProofs (maxSteps := 10000000) (disch := omega) only [T21, L21, G21_9, V9_eq, G21_15, V15_eq, G21_16, V16_eq, G21_17, V17_eq, G21_18, V18_eq, G21_19, V19_eq, G21_20, V20_eq, hB, hR, hI, hl, hBm, hlm, hnm, hrd, hBb, hlb, hnb, hrb, h1, h2, h3, h4, e0, e1, tk_c hl, tk_c1 hl, tk_c2 hl, tk_s1 hl, tk_s2 hl, wr_c hl, wr_c2 hl, eLoad, eStore, eLL, eVL, eSC, eRL, look_nil, look_ptr, lookP_c, lookM_s, lookM_n, lookS_c, lookU_s, unf_fl, unf1, act_bad, act_good, gLoad, gStore, gLL, gVL, gSC, gRL, okP_iff, List.set_cons_zero, List.set_cons_succ, List.getD_cons_zero, List.getD_cons_succ, set_same, pad, e_skip, e_ops, e_draw, d_none, d_nil, d_cons, d_ite, h_none, h_nil, h_cons, h_ite, eqS_same, lightV, e_seq, e_cond, e_block, e_loop, e_exit, e_ret, s_normal, s_ret, s_exit, s_none, s_ite, b_normal, b_ret, b_exit, b_none, b_ite, c_bool, x_none, x_nil, x_cons, x_ite, p_some, p_none, p_ite, pt_some, pt_none, pv_some, pv_none, pv_ite, w_none, w_some, i_bool, i_undef, bt, bf, v_tmp, v_const, v_global, v_func, evs, f_normal, f_ret, f_none, f_ite, r_some, co_some, l_ptr, m_agg, m_one, sh_app, lk_nil, lk_cons, rd_eq, rdO_some, rdO_none, rdN_none, rdL_some, rdL_none, wrB_none, unitR_some, wr_nil, wr_here, wr_skip, k_cells, tk_zero, tk_take, tk_skip, tkC_some, call_func, gt, st, binV, arith, isSh, storeV, all1, idxAV, fieldV, faddrV, iaddrSV, iaddrAV, pickV, convV, unV, eqbV, eqpV, extV, lenV, mm2, mmV, nilckV, ress, res1, retV, Value.cells, cond_true, cond_false, Bool.true_or, Bool.false_or, Bool.or_true, Bool.or_false, beq_self_eq_true, if_true, if_false, ite_true, ite_false, decide_true, decide_false, decide_eq_true_eq, reduceIte, Nat.zero_add, Nat.add_zero, and_self, true_and, and_true, List.size_toArray, List.length_cons, List.length_nil, List.append_nil, List.nil_append, Int.toNat_zero, Bool.not_false, Bool.not_true, Bool.not_not, Bool.false_eq_true, Bool.true_eq_false, reduceCtorEq, Int.reduceLT, Int.reduceLE, Int.reduceToNat, Int.reduceAdd, Int.reduceSub, Int.reduceMul, Int.reduceNeg, Nat.reduceMul, Nat.reduceAdd, Nat.reduceSub, Nat.reduceBEq, Nat.reduceEqDiff, Nat.reduceLT, Nat.reduceLeDiff, Int.reduceBEq, Int.reduceEq, Nat.reducePow, Int.reducePow, IntWalk.i64_in, IntKind.bits, eqAV, eqL, leafEq, andO, fillV, buildSV, List.getElem?_toArray, List.getElem?_cons_zero, List.getElem?_cons_succ, List.getElem?_nil, Int.reduceGT, Int.reduceGE, Int.reduceBNe, Bool.true_and, Bool.and_true, Bool.false_and, Bool.and_false, Bool.and_self, IntWalk.u64_in, Int.cast_ofNat_Int, callF1, pad16, pad_0, pad_1, pad_2, pad_3, pad_4, pad_5, pad_6, pad_7, pad_8, pad_9, pad_10, pad_11, pad_12, pad_13, pad_14, pad_15, gc0, gc1, gc2, gc3, gc4, gc5, gc6, gc7, gc8, gc9, gc10, gc11, gc12, gc13, gc14, gc15, gcS, sc0, sc1, sc2, sc3, sc4, sc5, sc6, sc7, sc8, sc9, sc10, sc11, sc12, sc13, sc14, sc15, scS, List.drop_succ_cons, List.drop_nil, x_pan, s_pan, b_pan, pE_ret, pE_pan, pE_none, pE_ite, pvE_some, pvE_none, pvE_ite, rv_some, rv_none, rv_ite, oR_ret, t_mv, t_pick, t_alloc, t_box, t_build, t_buildS, t_load, t_store, t_nilck, t_bin, t_eqb, t_eqA, t_eqp, t_un, t_conv, t_field, t_idxA, t_faddr, t_iaddrS, t_iaddrA, t_ext, t_len, t_mm, t_call, t_ifc, t_fn, t_slc, t_slcA, t_slcT, t_tass, t_isn, t_mks, t_app, t_pan, panE_i, optE_none, optE_some, bnd_none, bnd_int, slA_none, slA_some, appR_some, appOld_cells, newsV_s, newsV_n, lenS_s, appV_nil, appV_some, mksV_i, sh_c, sh_g, f_pan, endD_ret, dfr_normal, dfr_ret, dfr_pan, restD_normal, callD1, callC1, tassV, isnV, slcV, slcAV, slcTV, slcB, appNew, Option.bind_some, Option.bind_none, d_pan, h_pan, wrH_eq, wrX_cells, wrU_some, upH_nil, upH_cons, lk_upH, effR_some, effR_none, effR_ite, Option.isNone_none, Option.isNone_some, slA_zero]
    with_reducible refine done2 ?_
    repeat (first | exact ext_same hBb hlb | refine ext_new' hN (up_none hBb hlb) ?_ | refine ext_new hN ?_ | exact fun _ _ h => h)
  · simp only [gOne, oneA, oneC, Int.reduceEq, or_self, or_true, true_or, false_or, or_false, if_true, if_false]
    simp -implicitDefEqProofs (maxSteps := 10000000) (disch := omega) only [T21, L21, G21_9, V9_eq, G21_15, V15_eq, G21_16, V16_eq, G21_17, V17_eq, G21_18, V18_eq, G21_19, V19_eq, G21_20, V20_eq, hB, hR, hI, hl, hBm, hlm, hnm, hrd, hBb, hlb, hnb, hrb, h1, h2, h3, h4, e0, e1, tk_c hl, tk_c1 hl, tk_c2 hl, tk_s1 hl, tk_s2 hl, wr_c hl, wr_c2 hl, eLoad, eStore, eLL, eVL, eSC, eRL, look_nil, look_ptr, lookP_c, lookM_s, lookM_n, lookS_c, lookU_s, unf_fl, unf1, act_bad, act_good, gLoad, gStore, gLL, gVL, gSC, gRL, okP_iff, List.set_cons_zero, List.set_cons_succ, List.getD_cons_zero, List.getD_cons_succ, pad, e_skip, e_ops, e_draw, d_none, d_nil, d_cons, d_ite, h_none, h_nil, h_cons, h_ite, eqS_same, lightV, e_seq, e_cond, e_block, e_loop, e_exit, e_ret, s_normal, s_ret, s_exit, s_none, s_ite, b_normal, b_ret, b_exit, b_none, b_ite, c_bool, x_none, x_nil, x_cons, x_ite, p_some, p_none, p_ite, pt_some, pt_none, pv_some, pv_none, pv_ite, w_none, w_some, i_bool, i_undef, bt, bf, v_tmp, v_const, v_global, v_func, evs, f_normal, f_ret, f_none, f_ite, r_some, co_some, l_ptr, m_agg, m_one, sh_app, lk_nil, lk_cons, rd_eq, rdO_some, rdO_none, rdN_none, rdL_some, rdL_none, wrB_none, unitR_some, wr_nil, wr_here, wr_skip, k_cells, tk_zero, tk_take, tk_skip, tkC_some, call_func, gt, st, binV, arith, isSh, storeV, all1, idxAV, fieldV, faddrV, iaddrSV, iaddrAV, pickV, convV, unV, eqbV, eqpV, extV, lenV, mm2, mmV, nilckV, ress, res1, retV, Value.cells, cond_true, cond_false, Bool.true_or, Bool.false_or, Bool.or_true, Bool.or_false, beq_self_eq_true, if_true, if_false, ite_true, ite_false, decide_true, decide_false, decide_eq_true_eq, reduceIte, Nat.zero_add, Nat.add_zero, and_self, true_and, and_true, List.size_toArray, List.length_cons, List.length_nil, List.append_nil, List.nil_append, Int.toNat_zero, Bool.not_false, Bool.not_true, Bool.not_not, Bool.false_eq_true, Bool.true_eq_false, reduceCtorEq, Int.reduceLT, Int.reduceLE, Int.reduceToNat, Int.reduceAdd, Int.reduceSub, Int.reduceMul, Int.reduceNeg, Nat.reduceMul, Nat.reduceAdd, Nat.reduceSub, Nat.reduceBEq, Nat.reduceEqDiff, Nat.reduceLT, Nat.reduceLeDiff, Int.reduceBEq, Int.reduceEq, Nat.reducePow, Int.reducePow, IntWalk.i64_in, IntKind.bits, eqAV, eqL, leafEq, andO, fillV, buildSV, List.getElem?_toArray, List.getElem?_cons_zero, List.getElem?_cons_succ, List.getElem?_nil, Int.reduceGT, Int.reduceGE, Int.reduceBNe, Bool.true_and, Bool.and_true, Bool.false_and, Bool.and_false, Bool.and_self, IntWalk.u64_in, Int.cast_ofNat_Int, callF1, pad16, pad_0, pad_1, pad_2, pad_3, pad_4, pad_5, pad_6, pad_7, pad_8, pad_9, pad_10, pad_11, pad_12, pad_13, pad_14, pad_15, gc0, gc1, gc2, gc3, gc4, gc5, gc6, gc7, gc8, gc9, gc10, gc11, gc12, gc13, gc14, gc15, gcS, sc0, sc1, sc2, sc3, sc4, sc5, sc6, sc7, sc8, sc9, sc10, sc11, sc12, sc13, sc14, sc15, scS, List.drop_succ_cons, List.drop_nil, x_pan, s_pan, b_pan, pE_ret, pE_pan, pE_none, pE_ite, pvE_some, pvE_none, pvE_ite, rv_some, rv_none, rv_ite, oR_ret, t_mv, t_pick, t_alloc, t_box, t_build, t_buildS, t_load, t_store, t_nilck, t_bin, t_eqb, t_eqA, t_eqp, t_un, t_conv, t_field, t_idxA, t_faddr, t_iaddrS, t_iaddrA, t_ext, t_len, t_mm, t_call, t_ifc, t_fn, t_slc, t_slcA, t_slcT, t_tass, t_isn, t_mks, t_app, t_pan, panE_i, optE_none, optE_some, bnd_none, bnd_int, slA_none, slA_some, appR_some, appOld_cells, newsV_s, newsV_n, lenS_s, appV_nil, appV_some, mksV_i, sh_c, sh_g, f_pan, endD_ret, dfr_normal, dfr_ret, dfr_pan, restD_normal, callD1, callC1, tassV, isnV, slcV, slcAV, slcTV, slcB, appNew, Option.bind_some, Option.bind_none, d_pan, h_pan, wrH_eq, wrX_cells, wrU_some, upH_nil, upH_cons, lk_upH, effR_some, effR_none, effR_ite, Option.isNone_none, Option.isNone_some, slA_zero]
    with_reducible refine done2 ?_
    repeat (first | exact ext_same hBb hlb | refine ext_new' hN (up_none hBb hlb) ?_ | refine ext_new hN ?_ | exact fun _ _ h => h)
  · simp only [gOne, oneA, oneC, Int.reduceEq, or_self, or_true, true_or, false_or, or_false, if_true, if_false]
    simp -implicitDefEqProofs (maxSteps := 10000000) (disch := omega) only [T21, L21, G21_9, V9_eq, G21_15, V15_eq, G21_16, V16_eq, G21_17, V17_eq, G21_18, V18_eq, G21_19, V19_eq, G21_20, V20_eq, hB, hR, hI, hl, hBm, hlm, hnm, hrd, hBb, hlb, hnb, hrb, h1, h2, h3, h4, e0, e1, tk_c hl, tk_c1 hl, tk_c2 hl, tk_s1 hl, tk_s2 hl, wr_c hl, wr_c2 hl, eLoad, eStore, eLL, eVL, eSC, eRL, look_nil, look_ptr, lookP_c, lookM_s, lookM_n, lookS_c, lookU_s, unf_fl, unf1, act_bad, act_good, gLoad, gStore, gLL, gVL, gSC, gRL, okP_iff, List.set_cons_zero, List.set_cons_succ, List.getD_cons_zero, List.getD_cons_succ, pad, e_skip, e_ops, e_draw, d_none, d_nil, d_cons, d_ite, h_none, h_nil, h_cons, h_ite, eqS_same, lightV, e_seq, e_cond, e_block, e_loop, e_exit, e_ret, s_normal, s_ret, s_exit, s_none, s_ite, b_normal, b_ret, b_exit, b_none, b_ite, c_bool, x_none, x_nil, x_cons, x_ite, p_some, p_none, p_ite, pt_some, pt_none, pv_some, pv_none, pv_ite, w_none, w_some, i_bool, i_undef, bt, bf, v_tmp, v_const, v_global, v_func, evs, f_normal, f_ret, f_none, f_ite, r_some, co_some, l_ptr, m_agg, m_one, sh_app, lk_nil, lk_cons, rd_eq, rdO_some, rdO_none, rdN_none, rdL_some, rdL_none, wrB_none, unitR_some, wr_nil, wr_here, wr_skip, k_cells, tk_zero, tk_take, tk_skip, tkC_some, call_func, gt, st, binV, arith, isSh, storeV, all1, idxAV, fieldV, faddrV, iaddrSV, iaddrAV, pickV, convV, unV, eqbV, eqpV, extV, lenV, mm2, mmV, nilckV, ress, res1, retV, Value.cells, cond_true, cond_false, Bool.true_or, Bool.false_or, Bool.or_true, Bool.or_false, beq_self_eq_true, if_true, if_false, ite_true, ite_false, decide_true, decide_false, decide_eq_true_eq, reduceIte, Nat.zero_add, Nat.add_zero, and_self, true_and, and_true, List.size_toArray, List.length_cons, List.length_nil, List.append_nil, List.nil_append, Int.toNat_zero, Bool.not_false, Bool.not_true, Bool.not_not, Bool.false_eq_true, Bool.true_eq_false, reduceCtorEq, Int.reduceLT, Int.reduceLE, Int.reduceToNat, Int.reduceAdd, Int.reduceSub, Int.reduceMul, Int.reduceNeg, Nat.reduceMul, Nat.reduceAdd, Nat.reduceSub, Nat.reduceBEq, Nat.reduceEqDiff, Nat.reduceLT, Nat.reduceLeDiff, Int.reduceBEq, Int.reduceEq, Nat.reducePow, Int.reducePow, IntWalk.i64_in, IntKind.bits, eqAV, eqL, leafEq, andO, fillV, buildSV, List.getElem?_toArray, List.getElem?_cons_zero, List.getElem?_cons_succ, List.getElem?_nil, Int.reduceGT, Int.reduceGE, Int.reduceBNe, Bool.true_and, Bool.and_true, Bool.false_and, Bool.and_false, Bool.and_self, IntWalk.u64_in, Int.cast_ofNat_Int, callF1, pad16, pad_0, pad_1, pad_2, pad_3, pad_4, pad_5, pad_6, pad_7, pad_8, pad_9, pad_10, pad_11, pad_12, pad_13, pad_14, pad_15, gc0, gc1, gc2, gc3, gc4, gc5, gc6, gc7, gc8, gc9, gc10, gc11, gc12, gc13, gc14, gc15, gcS, sc0, sc1, sc2, sc3, sc4, sc5, sc6, sc7, sc8, sc9, sc10, sc11, sc12, sc13, sc14, sc15, scS, List.drop_succ_cons, List.drop_nil, x_pan, s_pan, b_pan, pE_ret, pE_pan, pE_none, pE_ite, pvE_some, pvE_none, pvE_ite, rv_some, rv_none, rv_ite, oR_ret, t_mv, t_pick, t_alloc, t_box, t_build, t_buildS, t_load, t_store, t_nilck, t_bin, t_eqb, t_eqA, t_eqp, t_un, t_conv, t_field, t_idxA, t_faddr, t_iaddrS, t_iaddrA, t_ext, t_len, t_mm, t_call, t_ifc, t_fn, t_slc, t_slcA, t_slcT, t_tass, t_isn, t_mks, t_app, t_pan, panE_i, optE_none, optE_some, bnd_none, bnd_int, slA_none, slA_some, appR_some, appOld_cells, newsV_s, newsV_n, lenS_s, appV_nil, appV_some, mksV_i, sh_c, sh_g, f_pan, endD_ret, dfr_normal, dfr_ret, dfr_pan, restD_normal, callD1, callC1, tassV, isnV, slcV, slcAV, slcTV, slcB, appNew, Option.bind_some, Option.bind_none, d_pan, h_pan, wrH_eq, wrX_cells, wrU_some, upH_nil, upH_cons, lk_upH, effR_some, effR_none, effR_ite, Option.isNone_none, Option.isNone_some, slA_zero]
    with_reducible refine done2 ?_
    repeat (first | exact ext_same hBb hlb | refine ext_new' hN (up_none hBb hlb) ?_ | refine ext_new hN ?_ | exact fun _ _ h => h)
  · rcases has_01 (L.getD i.toNat (0, 0)).2 p (by omega) with hh | hh
    · simp only [gOne, oneA, oneC, Int.reduceEq, or_self, or_true, true_or, false_or, or_false, if_true, if_false, hh, set_same]
      simp -implicitDefEqProofs (maxSteps := 10000000) (disch := omega) only [T21, L21, G21_9, V9_eq, G21_15, V15_eq, G21_16, V16_eq, G21_17, V17_eq, G21_18, V18_eq, G21_19, V19_eq, G21_20, V20_eq, hB, hR, hI, hl, hBm, hlm, hnm, hrd, hBb, hlb, hnb, hrb, h1, h2, h3, h4, e0, e1, tk_c hl, tk_c1 hl, tk_c2 hl, tk_s1 hl, tk_s2 hl, wr_c hl, wr_c2 hl, eLoad, eStore, eLL, eVL, eSC, eRL, look_nil, look_ptr, lookP_c, lookM_s, lookM_n, lookS_c, lookU_s, unf_fl, unf1, act_bad, act_good, gLoad, gStore, gLL, gVL, gSC, gRL, okP_iff, List.set_cons_zero, List.set_cons_succ, List.getD_cons_zero, List.getD_cons_succ, hh, set_same, pad, e_skip, e_ops, e_draw, d_none, d_nil, d_cons, d_ite, h_none, h_nil, h_cons, h_ite, eqS_same, lightV, e_seq, e_cond, e_block, e_loop, e_exit, e_ret, s_normal, s_ret, s_exit, s_none, s_ite, b_normal, b_ret, b_exit, b_none, b_ite, c_bool, x_none, x_nil, x_cons, x_ite, p_some, p_none, p_ite, pt_some, pt_none, pv_some, pv_none, pv_ite, w_none, w_some, i_bool, i_undef, bt, bf, v_tmp, v_const, v_global, v_func, evs, f_normal, f_ret, f_none, f_ite, r_some, co_some, l_ptr, m_agg, m_one, sh_app, lk_nil, lk_cons, rd_eq, rdO_some, rdO_none, rdN_none, rdL_some, rdL_none, wrB_none, unitR_some, wr_nil, wr_here, wr_skip, k_cells, tk_zero, tk_take, tk_skip, tkC_some, call_func, gt, st, binV, arith, isSh, storeV, all1, idxAV, fieldV, faddrV, iaddrSV, iaddrAV, pickV, convV, unV, eqbV, eqpV, extV, lenV, mm2, mmV, nilckV, ress, res1, retV, Value.cells, cond_true, cond_false, Bool.true_or, Bool.false_or, Bool.or_true, Bool.or_false, beq_self_eq_true, if_true, if_false, ite_true, ite_false, decide_true, decide_false, decide_eq_true_eq, reduceIte, Nat.zero_add, Nat.add_zero, and_self, true_and, and_true, List.size_toArray, List.length_cons, List.length_nil, List.append_nil, List.nil_append, Int.toNat_zero, Bool.not_false, Bool.not_true, Bool.not_not, Bool.false_eq_true, Bool.true_eq_false, reduceCtorEq, Int.reduceLT, Int.reduceLE, Int.reduceToNat, Int.reduceAdd, Int.reduceSub, Int.reduceMul, Int.reduceNeg, Nat.reduceMul, Nat.reduceAdd, Nat.reduceSub, Nat.reduceBEq, Nat.reduceEqDiff, Nat.reduceLT, Nat.reduceLeDiff, Int.reduceBEq, Int.reduceEq, Nat.reducePow, Int.reducePow, IntWalk.i64_in, IntKind.bits, eqAV, eqL, leafEq, andO, fillV, buildSV, List.getElem?_toArray, List.getElem?_cons_zero, List.getElem?_cons_succ, List.getElem?_nil, Int.reduceGT, Int.reduceGE, Int.reduceBNe, Bool.true_and, Bool.and_true, Bool.false_and, Bool.and_false, Bool.and_self, IntWalk.u64_in, Int.cast_ofNat_Int, callF1, pad16, pad_0, pad_1, pad_2, pad_3, pad_4, pad_5, pad_6, pad_7, pad_8, pad_9, pad_10, pad_11, pad_12, pad_13, pad_14, pad_15, gc0, gc1, gc2, gc3, gc4, gc5, gc6, gc7, gc8, gc9, gc10, gc11, gc12, gc13, gc14, gc15, gcS, sc0, sc1, sc2, sc3, sc4, sc5, sc6, sc7, sc8, sc9, sc10, sc11, sc12, sc13, sc14, sc15, scS, List.drop_succ_cons, List.drop_nil, x_pan, s_pan, b_pan, pE_ret, pE_pan, pE_none, pE_ite, pvE_some, pvE_none, pvE_ite, rv_some, rv_none, rv_ite, oR_ret, t_mv, t_pick, t_alloc, t_box, t_build, t_buildS, t_load, t_store, t_nilck, t_bin, t_eqb, t_eqA, t_eqp, t_un, t_conv, t_field, t_idxA, t_faddr, t_iaddrS, t_iaddrA, t_ext, t_len, t_mm, t_call, t_ifc, t_fn, t_slc, t_slcA, t_slcT, t_tass, t_isn, t_mks, t_app, t_pan, panE_i, optE_none, optE_some, bnd_none, bnd_int, slA_none, slA_some, appR_some, appOld_cells, newsV_s, newsV_n, lenS_s, appV_nil, appV_some, mksV_i, sh_c, sh_g, f_pan, endD_ret, dfr_normal, dfr_ret, dfr_pan, restD_normal, callD1, callC1, tassV, isnV, slcV, slcAV, slcTV, slcB, appNew, Option.bind_some, Option.bind_none, d_pan, h_pan, wrH_eq, wrX_cells, wrU_some, upH_nil, upH_cons, lk_upH, effR_some, effR_none, effR_ite, Option.isNone_none, Option.isNone_some, slA_zero]
      with_reducible refine done2 ?_
      repeat (first | exact ext_same hBb hlb | refine ext_new' hN (up_none hBb hlb) ?_ | refine ext_new hN ?_ | exact fun _ _ h => h)
    · simp only [gOne, oneA, oneC, Int.reduceEq, or_self, or_true, true_or, false_or, or_false, if_true, if_false, hh, set_same]
      simp -implicitDefEqProofs (maxSteps := 10000000) (disch := omega) only [T21, L21, G21_9, V9_eq, G21_15, V15_eq, G21_16, V16_eq, G21_17, V17_eq, G21_18, V18_eq, G21_19, V19_eq, G21_20, V20_eq, hB, hR, hI, hl, hBm, hlm, hnm, hrd, hBb, hlb, hnb, hrb, h1, h2, h3, h4, e0, e1, tk_c hl, tk_c1 hl, tk_c2 hl, tk_s1 hl, tk_s2 hl, wr_c hl, wr_c2 hl, eLoad, eStore, eLL, eVL, eSC, eRL, look_nil, look_ptr, lookP_c, lookM_s, lookM_n, lookS_c, lookU_s, unf_fl, unf1, act_bad, act_good, gLoad, gStore, gLL, gVL, gSC, gRL, okP_iff, List.set_cons_zero, List.set_cons_succ, List.getD_cons_zero, List.getD_cons_succ, hh, set_same, pad, e_skip, e_ops, e_draw, d_none, d_nil, d_cons, d_ite, h_none, h_nil, h_cons, h_ite, eqS_same, lightV, e_seq, e_cond, e_block, e_loop, e_exit, e_ret, s_normal, s_ret, s_exit, s_none, s_ite, b_normal, b_ret, b_exit, b_none, b_ite, c_bool, x_none, x_nil, x_cons, x_ite, p_some, p_none, p_ite, pt_some, pt_none, pv_some, pv_none, pv_ite, w_none, w_some, i_bool, i_undef, bt, bf, v_tmp, v_const, v_global, v_func, evs, f_normal, f_ret, f_none, f_ite, r_some, co_some, l_ptr, m_agg, m_one, sh_app, lk_nil, lk_cons, rd_eq, rdO_some, rdO_none, rdN_none, rdL_some, rdL_none, wrB_none, unitR_some, wr_nil, wr_here, wr_skip, k_cells, tk_zero, tk_take, tk_skip, tkC_some, call_func, gt, st, binV, arith, isSh, storeV, all1, idxAV, fieldV, faddrV, iaddrSV, iaddrAV, pickV, convV, unV, eqbV, eqpV, extV, lenV, mm2, mmV, nilckV, ress, res1, retV, Value.cells, cond_true, cond_false, Bool.true_or, Bool.false_or, Bool.or_true, Bool.or_false, beq_self_eq_true, if_true, if_false, ite_true, ite_false, decide_true, decide_false, decide_eq_true_eq, reduceIte, Nat.zero_add, Nat.add_zero, and_self, true_and, and_true, List.size_toArray, List.length_cons, List.length_nil, List.append_nil, List.nil_append, Int.toNat_zero, Bool.not_false, Bool.not_true, Bool.not_not, Bool.false_eq_true, Bool.true_eq_false, reduceCtorEq, Int.reduceLT, Int.reduceLE, Int.reduceToNat, Int.reduceAdd, Int.reduceSub, Int.reduceMul, Int.reduceNeg, Nat.reduceMul, Nat.reduceAdd, Nat.reduceSub, Nat.reduceBEq, Nat.reduceEqDiff, Nat.reduceLT, Nat.reduceLeDiff, Int.reduceBEq, Int.reduceEq, Nat.reducePow, Int.reducePow, IntWalk.i64_in, IntKind.bits, eqAV, eqL, leafEq, andO, fillV, buildSV, List.getElem?_toArray, List.getElem?_cons_zero, List.getElem?_cons_succ, List.getElem?_nil, Int.reduceGT, Int.reduceGE, Int.reduceBNe, Bool.true_and, Bool.and_true, Bool.false_and, Bool.and_false, Bool.and_self, IntWalk.u64_in, Int.cast_ofNat_Int, callF1, pad16, pad_0, pad_1, pad_2, pad_3, pad_4, pad_5, pad_6, pad_7, pad_8, pad_9, pad_10, pad_11, pad_12, pad_13, pad_14, pad_15, gc0, gc1, gc2, gc3, gc4, gc5, gc6, gc7, gc8, gc9, gc10, gc11, gc12, gc13, gc14, gc15, gcS, sc0, sc1, sc2, sc3, sc4, sc5, sc6, sc7, sc8, sc9, sc10, sc11, sc12, sc13, sc14, sc15, scS, List.drop_succ_cons, List.drop_nil, x_pan, s_pan, b_pan, pE_ret, pE_pan, pE_none, pE_ite, pvE_some, pvE_none, pvE_ite, rv_some, rv_none, rv_ite, oR_ret, t_mv, t_pick, t_alloc, t_box, t_build, t_buildS, t_load, t_store, t_nilck, t_bin, t_eqb, t_eqA, t_eqp, t_un, t_conv, t_field, t_idxA, t_faddr, t_iaddrS, t_iaddrA, t_ext, t_len, t_mm, t_call, t_ifc, t_fn, t_slc, t_slcA, t_slcT, t_tass, t_isn, t_mks, t_app, t_pan, panE_i, optE_none, optE_some, bnd_none, bnd_int, slA_none, slA_some, appR_some, appOld_cells, newsV_s, newsV_n, lenS_s, appV_nil, appV_some, mksV_i, sh_c, sh_g, f_pan, endD_ret, dfr_normal, dfr_ret, dfr_pan, restD_normal, callD1, callC1, tassV, isnV, slcV, slcAV, slcTV, slcB, appNew, Option.bind_some, Option.bind_none, d_pan, h_pan, wrH_eq, wrX_cells, wrU_some, upH_nil, upH_cons, lk_upH, effR_some, effR_none, effR_ite, Option.isNone_none, Option.isNone_some, slA_zero]
      with_reducible refine done2 ?_
      repeat (first | exact ext_same hBb hlb | refine ext_new' hN (up_none hBb hlb) ?_ | refine ext_new hN ?_ | exact fun _ _ h => h)
  · rcases has_01 (L.getD i.toNat (0, 0)).2 p (by omega) with hh | hh
    · simp only [gOne, oneA, oneC, Int.reduceEq, or_self, or_true, true_or, false_or, or_false, if_true, if_false, hh, set_same]
      simp -implicitDefEqProofs (maxSteps := 10000000) (disch := omega) only [T21, L21, G21_9, V9_eq, G21_15, V15_eq, G21_16, V16_eq, G21_17, V17_eq, G21_18, V18_eq, G21_19, V19_eq, G21_20, V20_eq, hB, hR, hI, hl, hBm, hlm, hnm, hrd, hBb, hlb, hnb, hrb, h1, h2, h3, h4, e0, e1, tk_c hl, tk_c1 hl, tk_c2 hl, tk_s1 hl, tk_s2 hl, wr_c hl, wr_c2 hl, eLoad, eStore, eLL, eVL, eSC, eRL, look_nil, look_ptr, lookP_c, lookM_s, lookM_n, lookS_c, lookU_s, unf_fl, unf1, act_bad, act_good, gLoad, gStore, gLL, gVL, gSC, gRL, okP_iff, List.set_cons_zero, List.set_cons_succ, List.getD_cons_zero, List.getD_cons_succ, hh, set_same, pad, e_skip, e_ops, e_draw, d_none, d_nil, d_cons, d_ite, h_none, h_nil, h_cons, h_ite, eqS_same, lightV, e_seq, e_cond, e_block, e_loop, e_exit, e_ret, s_normal, s_ret, s_exit, s_none, s_ite, b_normal, b_ret, b_exit, b_none, b_ite, c_bool, x_none, x_nil, x_cons, x_ite, p_some, p_none, p_ite, pt_some, pt_none, pv_some, pv_none, pv_ite, w_none, w_some, i_bool, i_undef, bt, bf, v_tmp, v_const, v_global, v_func, evs, f_normal, f_ret, f_none, f_ite, r_some, co_some, l_ptr, m_agg, m_one, sh_app, lk_nil, lk_cons, rd_eq, rdO_some, rdO_none, rdN_none, rdL_some, rdL_none, wrB_none, unitR_some, wr_nil, wr_here, wr_skip, k_cells, tk_zero, tk_take, tk_skip, tkC_some, call_func, gt, st, binV, arith, isSh, storeV, all1, idxAV, fieldV, faddrV, iaddrSV, iaddrAV, pickV, convV, unV, eqbV, eqpV, extV, lenV, mm2, mmV, nilckV, ress, res1, retV, Value.cells, cond_true, cond_false, Bool.true_or, Bool.false_or, Bool.or_true, Bool.or_false, beq_self_eq_true, if_true, if_false, ite_true, ite_false, decide_true, decide_false, decide_eq_true_eq, reduceIte, Nat.zero_add, Nat.add_zero, and_self, true_and, and_true, List.size_toArray, List.length_cons, List.length_nil, List.append_nil, List.nil_append, Int.toNat_zero, Bool.not_false, Bool.not_true, Bool.not_not, Bool.false_eq_true, Bool.true_eq_false, reduceCtorEq, Int.reduceLT, Int.reduceLE, Int.reduceToNat, Int.reduceAdd, Int.reduceSub, Int.reduceMul, Int.reduceNeg, Nat.reduceMul, Nat.reduceAdd, Nat.reduceSub, Nat.reduceBEq, Nat.reduceEqDiff, Nat.reduceLT, Nat.reduceLeDiff, Int.reduceBEq, Int.reduceEq, Nat.reducePow, Int.reducePow, IntWalk.i64_in, IntKind.bits, eqAV, eqL, leafEq, andO, fillV, buildSV, List.getElem?_toArray, List.getElem?_cons_zero, List.getElem?_cons_succ, List.getElem?_nil, Int.reduceGT, Int.reduceGE, Int.reduceBNe, Bool.true_and, Bool.and_true, Bool.false_and, Bool.and_false, Bool.and_self, IntWalk.u64_in, Int.cast_ofNat_Int, callF1, pad16, pad_0, pad_1, pad_2, pad_3, pad_4, pad_5, pad_6, pad_7, pad_8, pad_9, pad_10, pad_11, pad_12, pad_13, pad_14, pad_15, gc0, gc1, gc2, gc3, gc4, gc5, gc6, gc7, gc8, gc9, gc10, gc11, gc12, gc13, gc14, gc15, gcS, sc0, sc1, sc2, sc3, sc4, sc5, sc6, sc7, sc8, sc9, sc10, sc11, sc12, sc13, sc14, sc15, scS, List.drop_succ_cons, List.drop_nil, x_pan, s_pan, b_pan, pE_ret, pE_pan, pE_none, pE_ite, pvE_some, pvE_none, pvE_ite, rv_some, rv_none, rv_ite, oR_ret, t_mv, t_pick, t_alloc, t_box, t_build, t_buildS, t_load, t_store, t_nilck, t_bin, t_eqb, t_eqA, t_eqp, t_un, t_conv, t_field, t_idxA, t_faddr, t_iaddrS, t_iaddrA, t_ext, t_len, t_mm, t_call, t_ifc, t_fn, t_slc, t_slcA, t_slcT, t_tass, t_isn, t_mks, t_app, t_pan, panE_i, optE_none, optE_some, bnd_none, bnd_int, slA_none, slA_some, appR_some, appOld_cells, newsV_s, newsV_n, lenS_s, appV_nil, appV_some, mksV_i, sh_c, sh_g, f_pan, endD_ret, dfr_normal, dfr_ret, dfr_pan, restD_normal, callD1, callC1, tassV, isnV, slcV, slcAV, slcTV, slcB, appNew, Option.bind_some, Option.bind_none, d_pan, h_pan, wrH_eq, wrX_cells, wrU_some, upH_nil, upH_cons, lk_upH, effR_some, effR_none, effR_ite, Option.isNone_none, Option.isNone_some, slA_zero]
      with_reducible refine done2 ?_
      repeat (first | exact ext_same hBb hlb | refine ext_new' hN (up_none hBb hlb) ?_ | refine ext_new hN ?_ | exact fun _ _ h => h)
    · simp only [gOne, oneA, oneC, Int.reduceEq, or_self, or_true, true_or, false_or, or_false, if_true, if_false, hh, set_same]
      simp -implicitDefEqProofs (maxSteps := 10000000) (disch := omega) only [T21, L21, G21_9, V9_eq, G21_15, V15_eq, G21_16, V16_eq, G21_17, V17_eq, G21_18, V18_eq, G21_19, V19_eq, G21_20, V20_eq, hB, hR, hI, hl, hBm, hlm, hnm, hrd, hBb, hlb, hnb, hrb, h1, h2, h3, h4, e0, e1, tk_c hl, tk_c1 hl, tk_c2 hl, tk_s1 hl, tk_s2 hl, wr_c hl, wr_c2 hl, eLoad, eStore, eLL, eVL, eSC, eRL, look_nil, look_ptr, lookP_c, lookM_s, lookM_n, lookS_c, lookU_s, unf_fl, unf1, act_bad, act_good, gLoad, gStore, gLL, gVL, gSC, gRL, okP_iff, List.set_cons_zero, List.set_cons_succ, List.getD_cons_zero, List.getD_cons_succ, hh, set_same, pad, e_skip, e_ops, e_draw, d_none, d_nil, d_cons, d_ite, h_none, h_nil, h_cons, h_ite, eqS_same, lightV, e_seq, e_cond, e_block, e_loop, e_exit, e_ret, s_normal, s_ret, s_exit, s_none, s_ite, b_normal, b_ret, b_exit, b_none, b_ite, c_bool, x_none, x_nil, x_cons, x_ite, p_some, p_none, p_ite, pt_some, pt_none, pv_some, pv_none, pv_ite, w_none, w_some, i_bool, i_undef, bt, bf, v_tmp, v_const, v_global, v_func, evs, f_normal, f_ret, f_none, f_ite, r_some, co_some, l_ptr, m_agg, m_one, sh_app, lk_nil, lk_cons, rd_eq, rdO_some, rdO_none, rdN_none, rdL_some, rdL_none, wrB_none, unitR_some, wr_nil, wr_here, wr_skip, k_cells, tk_zero, tk_take, tk_skip, tkC_some, call_func, gt, st, binV, arith, isSh, storeV, all1, idxAV, fieldV, faddrV, iaddrSV, iaddrAV, pickV, convV, unV, eqbV, eqpV, extV, lenV, mm2, mmV, nilckV, ress, res1, retV, Value.cells, cond_true, cond_false, Bool.true_or, Bool.false_or, Bool.or_true, Bool.or_false, beq_self_eq_true, if_true, if_false, ite_true, ite_false, decide_true, decide_false, decide_eq_true_eq, reduceIte, Nat.zero_add, Nat.add_zero, and_self, true_and, and_true, List.size_toArray, List.length_cons, List.length_nil, List.append_nil, List.nil_append, Int.toNat_zero, Bool.not_false, Bool.not_true, Bool.not_not, Bool.false_eq_true, Bool.true_eq_false, reduceCtorEq, Int.reduceLT, Int.reduceLE, Int.reduceToNat, Int.reduceAdd, Int.reduceSub, Int.reduceMul, Int.reduceNeg, Nat.reduceMul, Nat.reduceAdd, Nat.reduceSub, Nat.reduceBEq, Nat.reduceEqDiff, Nat.reduceLT, Nat.reduceLeDiff, Int.reduceBEq, Int.reduceEq, Nat.reducePow, Int.reducePow, IntWalk.i64_in, IntKind.bits, eqAV, eqL, leafEq, andO, fillV, buildSV, List.getElem?_toArray, List.getElem?_cons_zero, List.getElem?_cons_succ, List.getElem?_nil, Int.reduceGT, Int.reduceGE, Int.reduceBNe, Bool.true_and, Bool.and_true, Bool.false_and, Bool.and_false, Bool.and_self, IntWalk.u64_in, Int.cast_ofNat_Int, callF1, pad16, pad_0, pad_1, pad_2, pad_3, pad_4, pad_5, pad_6, pad_7, pad_8, pad_9, pad_10, pad_11, pad_12, pad_13, pad_14, pad_15, gc0, gc1, gc2, gc3, gc4, gc5, gc6, gc7, gc8, gc9, gc10, gc11, gc12, gc13, gc14, gc15, gcS, sc0, sc1, sc2, sc3, sc4, sc5, sc6, sc7, sc8, sc9, sc10, sc11, sc12, sc13, sc14, sc15, scS, List.drop_succ_cons, List.drop_nil, x_pan, s_pan, b_pan, pE_ret, pE_pan, pE_none, pE_ite, pvE_some, pvE_none, pvE_ite, rv_some, rv_none, rv_ite, oR_ret, t_mv, t_pick, t_alloc, t_box, t_build, t_buildS, t_load, t_store, t_nilck, t_bin, t_eqb, t_eqA, t_eqp, t_un, t_conv, t_field, t_idxA, t_faddr, t_iaddrS, t_iaddrA, t_ext, t_len, t_mm, t_call, t_ifc, t_fn, t_slc, t_slcA, t_slcT, t_tass, t_isn, t_mks, t_app, t_pan, panE_i, optE_none, optE_some, bnd_none, bnd_int, slA_none, slA_some, appR_some, appOld_cells, newsV_s, newsV_n, lenS_s, appV_nil, appV_some, mksV_i, sh_c, sh_g, f_pan, endD_ret, dfr_normal, dfr_ret, dfr_pan, restD_normal, callD1, callC1, tassV, isnV, slcV, slcAV, slcTV, slcB, appNew, Option.bind_some, Option.bind_none, d_pan, h_pan, wrH_eq, wrX_cells, wrU_some, upH_nil, upH_cons, lk_upH, effR_some, effR_none, effR_ite, Option.isNone_none, Option.isNone_some, slA_zero]
      with_reducible refine done2 ?_
      repeat (first | exact ext_same hBb hlb | refine ext_new' hN (up_none hBb hlb) ?_ | refine ext_new hN ?_ | exact fun _ _ h => h)
  · simp only [gOne, oneA, oneC, Int.reduceEq, or_self, or_true, true_or, false_or, or_false, if_true, if_false]
    simp -implicitDefEqProofs (maxSteps := 10000000) (disch := omega) only [T21, L21, G21_9, V9_eq, G21_15, V15_eq, G21_16, V16_eq, G21_17, V17_eq, G21_18, V18_eq, G21_19, V19_eq, G21_20, V20_eq, hB, hR, hI, hl, hBm, hlm, hnm, hrd, hBb, hlb, hnb, hrb, h1, h2, h3, h4, e0, e1, tk_c hl, tk_c1 hl, tk_c2 hl, tk_s1 hl, tk_s2 hl, wr_c hl, wr_c2 hl, eLoad, eStore, eLL, eVL, eSC, eRL, look_nil, look_ptr, lookP_c, lookM_s, lookM_n, lookS_c, lookU_s, unf_fl, unf1, act_bad, act_good, gLoad, gStore, gLL, gVL, gSC, gRL, okP_iff, List.set_cons_zero, List.set_cons_succ, List.getD_cons_zero, List.getD_cons_succ, pad, e_skip, e_ops, e_draw, d_none, d_nil, d_cons, d_ite, h_none, h_nil, h_cons, h_ite, eqS_same, lightV, e_seq, e_cond, e_block, e_loop, e_exit, e_ret, s_normal, s_ret, s_exit, s_none, s_ite, b_normal, b_ret, b_exit, b_none, b_ite, c_bool, x_none, x_nil, x_cons, x_ite, p_some, p_none, p_ite, pt_some, pt_none, pv_some, pv_none, pv_ite, w_none, w_some, i_bool, i_undef, bt, bf, v_tmp, v_const, v_global, v_func, evs, f_normal, f_ret, f_none, f_ite, r_some, co_some, l_ptr, m_agg, m_one, sh_app, lk_nil, lk_cons, rd_eq, rdO_some, rdO_none, rdN_none, rdL_some, rdL_none, wrB_none, unitR_some, wr_nil, wr_here, wr_skip, k_cells, tk_zero, tk_take, tk_skip, tkC_some, call_func, gt, st, binV, arith, isSh, storeV, all1, idxAV, fieldV, faddrV, iaddrSV, iaddrAV, pickV, convV, unV, eqbV, eqpV, extV, lenV, mm2, mmV, nilckV, ress, res1, retV, Value.cells, cond_true, cond_false, Bool.true_or, Bool.false_or, Bool.or_true, Bool.or_false, beq_self_eq_true, if_true, if_false, ite_true, ite_false, decide_true, decide_false, decide_eq_true_eq, reduceIte, Nat.zero_add, Nat.add_zero, and_self, true_and, and_true, List.size_toArray, List.length_cons, List.length_nil, List.append_nil, List.nil_append, Int.toNat_zero, Bool.not_false, Bool.not_true, Bool.not_not, Bool.false_eq_true, Bool.true_eq_false, reduceCtorEq, Int.reduceLT, Int.reduceLE, Int.reduceToNat, Int.reduceAdd, Int.reduceSub, Int.reduceMul, Int.reduceNeg, Nat.reduceMul, Nat.reduceAdd, Nat.reduceSub, Nat.reduceBEq, Nat.reduceEqDiff, Nat.reduceLT, Nat.reduceLeDiff, Int.reduceBEq, Int.reduceEq, Nat.reducePow, Int.reducePow, IntWalk.i64_in, IntKind.bits, eqAV, eqL, leafEq, andO, fillV, buildSV, List.getElem?_toArray, List.getElem?_cons_zero, List.getElem?_cons_succ, List.getElem?_nil, Int.reduceGT, Int.reduceGE, Int.reduceBNe, Bool.true_and, Bool.and_true, Bool.false_and, Bool.and_false, Bool.and_self, IntWalk.u64_in, Int.cast_ofNat_Int, callF1, pad16, pad_0, pad_1, pad_2, pad_3, pad_4, pad_5, pad_6, pad_7, pad_8, pad_9, pad_10, pad_11, pad_12, pad_13, pad_14, pad_15, gc0, gc1, gc2, gc3, gc4, gc5, gc6, gc7, gc8, gc9, gc10, gc11, gc12, gc13, gc14, gc15, gcS, sc0, sc1, sc2, sc3, sc4, sc5, sc6, sc7, sc8, sc9, sc10, sc11, sc12, sc13, sc14, sc15, scS, List.drop_succ_cons, List.drop_nil, x_pan, s_pan, b_pan, pE_ret, pE_pan, pE_none, pE_ite, pvE_some, pvE_none, pvE_ite, rv_some, rv_none, rv_ite, oR_ret, t_mv, t_pick, t_alloc, t_box, t_build, t_buildS, t_load, t_store, t_nilck, t_bin, t_eqb, t_eqA, t_eqp, t_un, t_conv, t_field, t_idxA, t_faddr, t_iaddrS, t_iaddrA, t_ext, t_len, t_mm, t_call, t_ifc, t_fn, t_slc, t_slcA, t_slcT, t_tass, t_isn, t_mks, t_app, t_pan, panE_i, optE_none, optE_some, bnd_none, bnd_int, slA_none, slA_some, appR_some, appOld_cells, newsV_s, newsV_n, lenS_s, appV_nil, appV_some, mksV_i, sh_c, sh_g, f_pan, endD_ret, dfr_normal, dfr_ret, dfr_pan, restD_normal, callD1, callC1, tassV, isnV, slcV, slcAV, slcTV, slcB, appNew, Option.bind_some, Option.bind_none, d_pan, h_pan, wrH_eq, wrX_cells, wrU_some, upH_nil, upH_cons, lk_upH, effR_some, effR_none, effR_ite, Option.isNone_none, Option.isNone_some, slA_zero]
    with_reducible refine done2 ?_
    repeat (first | exact ext_same hBb hlb | refine ext_new' hN (up_none hBb hlb) ?_ | refine ext_new hN ?_ | exact fun _ _ h => h)
noncomputable def V21 (B : OH) : Cs := effC (eOne B)
theorem V21_eq {B : OH} {a : List Value} {H : HL} {N : St} : V21 B a H N = effR (eOne B a H) N := rfl
theorem sV21 {w0 : World} {B : OH} : SoundC Try.prog w0 B 21 (V21 B) := sT21.ofEff ev21
end Go.Proofs.Yteilhhkkhnnglaa
namespace Go.Proofs.Yteilhhkkhnnglaa
open Go.Proofs.Yteilhhkkhnnglaa.K Go.ChangeShapes Go.WideShapes Go.ChangeAt Go.RowKit
set_option maxRecDepth 100000
set_option linter.unusedSimpArgs false
set_option linter.unusedVariables false

theorem ok_some {x : X} {s : S} {R : X → S → Prop} (h : R x s) : Ok (some (x, s)) R := ⟨x, s, rfl, h⟩
def listU (n : Nat) : Option (List Cell) → Option (List Cell)
  | some L => if L.length = n ∧ n ≤ 100 then some L else none
  | none => none
noncomputable def listK (n : Nat) : Option KB → Option KB → Option (List Cell)
  | none, some (.cells cs _) => listU n (unf cs)
  | _, _ => none
noncomputable def listOf (B : OH) (H : HL) : List Value → Option (List Cell)
  | [.slice (some ⟨b, 0, none⟩) n _] => listK n (B b) (lk H b)
  | _ => none
theorem listOf_s {B H b n c} : listOf B H [.slice (some ⟨b, 0, none⟩) n c] = listK n (B b) (lk H b) := rfl
theorem listK_c {n cs k} : listK n none (some (.cells cs k)) = listU n (unf cs) := rfl
theorem listU_s {n L} : listU n (some L) = if L.length = n ∧ n ≤ 100 then some L else none := rfl
theorem listOf_inv {B H vs L} (h : listOf B H vs = some L) : ∃ b c k, vs = [.slice (some ⟨b, 0, none⟩) L.length c] ∧ B b = none ∧ lk H b = some (.cells (fcs L) k) ∧ L.length ≤ 100 := by
  unfold listOf at h
  split at h
  · rename_i b n c
    unfold listK at h
    split at h
    · rename_i cs k hB hl
      unfold listU at h
      split at h
      · rename_i M hM
        split at h
        · rename_i hn
          simp only [Option.some.injEq] at h
          subst h
          exact ⟨b, c, k, by rw [hn.1], hB, by rw [hl, unf_some hM], by omega⟩
        · cases h
      · cases h
    · cases h
  · cases h
noncomputable def eSame (B : OH) (a : List Value) (H : HL) : Option (E × HL) := match a with
  | [.agg xs, .agg ys] => (listOf B H xs.toList).bind fun L => (listOf B H ys.toList).bind fun M => if L = M then some (.ret (.bool true), H) else none
  | _ => none

/-- whitewash/whitewashref03.Same -/
def L12 : FnL := ⟨(.seq (.ops [⟨(some 2), .box (.tmp 0), none⟩, ⟨(some 3), .box (.tmp 1), none⟩, ⟨(some 4), .mv (.const (.bool false)), none⟩])
 (.seq (.seq (.ops [⟨(some 6), .faddr 0 (.tmp 2), none⟩, ⟨(some 7), .load false 1 (.tmp 6), none⟩, ⟨(some 8), .len false (.tmp 7), none⟩, ⟨(some 9), .faddr 0 (.tmp 3), none⟩, ⟨(some 10), .load false 1 (.tmp 9), none⟩, ⟨(some 11), .len false (.tmp 10), none⟩, ⟨(some 12), .bin .neq (.tmp 8) (.tmp 11), none⟩])
 (.cond (.tmp 12) (.seq (.ops [⟨(some 4), .mv (.const (.bool false)), none⟩])
 .ret)
 .skip))
 (.seq (.seq (.ops [⟨(some 5), .mv (.const (.int .i64 0)), none⟩])
 (.block 0 (.loop (.seq (.seq (.ops [⟨(some 13), .mv (.tmp 5), none⟩, ⟨(some 14), .faddr 0 (.tmp 2), none⟩, ⟨(some 15), .load false 1 (.tmp 14), none⟩, ⟨(some 16), .len false (.tmp 15), none⟩, ⟨(some 17), .bin .lss (.tmp 13) (.tmp 16), none⟩])
 (.cond (.tmp 17) .skip
 (.exit 0)))
 (.seq (.block 1 (.seq (.draw [⟨⟨(some 20), .faddr 0 (.tmp 2), none⟩, []⟩, ⟨⟨(some 21), .load false 1 (.tmp 20), none⟩, []⟩, ⟨⟨(some 22), .mv (.tmp 5), none⟩, []⟩, ⟨⟨(some 23), .iaddrS 2 (.tmp 21) (.tmp 22), none⟩, []⟩, ⟨⟨(some 24), .load true 2 (.tmp 23), none⟩, []⟩, ⟨⟨(some 25), .faddr 0 (.tmp 3), none⟩, []⟩, ⟨⟨(some 26), .load false 1 (.tmp 25), none⟩, []⟩, ⟨⟨(some 27), .mv (.tmp 5), none⟩, []⟩, ⟨⟨(some 28), .iaddrS 2 (.tmp 26) (.tmp 27), none⟩, []⟩, ⟨⟨(some 29), .load true 2 (.tmp 28), none⟩, []⟩, ⟨⟨(some 30), .eqA true [.int, .int] (.tmp 24) (.tmp 29), none⟩, []⟩])
 (.cond (.tmp 30) (.seq (.ops [⟨(some 4), .mv (.const (.bool false)), none⟩])
 .ret)
 .skip)))
 (.ops [⟨(some 18), .mv (.tmp 5), none⟩, ⟨(some 19), .bin .add (.tmp 18) (.const (.int .i64 1)), none⟩, ⟨(some 5), .mv (.tmp 19), none⟩]))))))
 (.seq (.ops [⟨(some 4), .mv (.const (.bool true)), none⟩])
 .ret)))),
 31, [.tmp 4]⟩
theorem low12 : lowerFn Try.prog Try.f12 = some L12 := by kernel_rfl
noncomputable def G12 (B : OH) : Nat → Cs
  | _ => fun _ _ _ => none
theorem sG12 {w0 : World} {B : OH} : SoundG Try.prog w0 B (G12 B) := fun k => by
  unfold G12
  split
  · exact .inl fun _ _ _ => rfl
theorem en12 : Enter Try.prog 12 := .of Try.func12 (by kernel_rfl) (by kernel_rfl)
noncomputable def T12 (B : OH) : Cs := callF B (G12 B) 200 L12
theorem sT12 {w0 : World} {B : OH} : SoundC Try.prog w0 B 12 (T12 B) := callF_sound mixedOrders sG12 200 Try.func12 low12
set_option maxHeartbeats 4000000 in
theorem ev12 {B : OH} : Eff B (T12 B) (eSame B) := by
  intro args x H H1 N hf hN
  have hB := good_B hN
  have hR := good_rdB hN
  have hI := beqN hN.1.1
  unfold eSame at hf
  split at hf
  rotate_left
  · cases hf
  rename_i xs ys
  cases h1 : listOf B H xs.toList with
  | none => rw [h1] at hf; cases hf
  | some L =>
  cases h2 : listOf B H ys.toList with
  | none => rw [h1, h2] at hf; cases hf
  | some M =>
  rw [h1, h2] at hf
  simp only [Option.bind_some] at hf
  split at hf
  rotate_left
  · cases hf
  rename_i hLM
  subst hLM
  simp only [Option.some.injEq, Prod.mk.injEq] at hf
  obtain ⟨rfl, rfl⟩ := hf
  obtain ⟨b, c, k, hx, hBb, hlb, hle⟩ := listOf_inv h1
  obtain ⟨b', c', k', hy, hBc, hlc, _⟩ := listOf_inv h2
  obtain rfl : xs = #[.slice (some ⟨b, 0, none⟩) L.length c] := by apply Array.ext'; simpa using hx
  obtain rfl : ys = #[.slice (some ⟨b', 0, none⟩) L.length c'] := by apply Array.ext'; simpa using hy
  have hnb := ne_good hN hBb hlb
  have hrb : rdB B b = fun _ _ => none := by funext o n; simp [rdB, hBb]
  have hnc := ne_good hN hBc hlc
  have hrc : rdB B b' = fun _ _ => none := by funext o n; simp [rdB, hBc]
  refine eff_same ?_
  simp -implicitDefEqProofs (maxSteps := 10000000) (disch := omega) only [T12, L12, hB, hR, hI, pad, e_skip, e_ops, e_draw, d_none, d_nil, d_cons, d_ite, h_none, h_nil, h_cons, h_ite, eqS_same, lightV, e_seq, e_cond, e_block, e_exit, e_ret, s_normal, s_ret, s_exit, s_none, s_ite, b_normal, b_ret, b_exit, b_none, b_ite, c_bool, x_none, x_nil, x_cons, x_ite, p_some, p_none, p_ite, pt_some, pt_none, pv_some, pv_none, pv_ite, w_none, w_some, i_bool, i_undef, bt, bf, v_tmp, v_const, v_global, v_func, evs, f_normal, f_ret, f_none, f_ite, r_some, co_some, l_ptr, m_agg, m_one, sh_app, lk_nil, lk_cons, rd_eq, rdO_some, rdO_none, rdN_none, rdL_some, rdL_none, wrB_none, unitR_some, wr_nil, wr_here, wr_skip, k_cells, tk_zero, tk_take, tk_skip, tkC_some, call_func, gt, st, binV, arith, isSh, storeV, all1, idxAV, fieldV, faddrV, iaddrSV, iaddrAV, pickV, convV, unV, eqbV, eqpV, extV, lenV, mm2, mmV, nilckV, ress, res1, retV, Value.cells, cond_true, cond_false, Bool.true_or, Bool.false_or, Bool.or_true, Bool.or_false, beq_self_eq_true, if_true, if_false, ite_true, ite_false, decide_true, decide_false, decide_eq_true_eq, reduceIte, Nat.zero_add, Nat.add_zero, and_self, true_and, and_true, List.size_toArray, List.length_cons, List.length_nil, List.append_nil, List.nil_append, Int.toNat_zero, Bool.not_false, Bool.not_true, Bool.not_not, Bool.false_eq_true, Bool.true_eq_false, reduceCtorEq, Int.reduceLT, Int.reduceLE, Int.reduceToNat, Int.reduceAdd, Int.reduceSub, Int.reduceMul, Int.reduceNeg, Nat.reduceMul, Nat.reduceAdd, Nat.reduceSub, Nat.reduceBEq, Nat.reduceEqDiff, Nat.reduceLT, Nat.reduceLeDiff, Int.reduceBEq, Int.reduceEq, Nat.reducePow, Int.reducePow, IntWalk.i64_in, IntKind.bits, eqAV, eqL, leafEq, andO, fillV, buildSV, List.getElem?_toArray, List.getElem?_cons_zero, List.getElem?_cons_succ, List.getElem?_nil, Int.reduceGT, Int.reduceGE, Int.reduceBNe, Bool.true_and, Bool.and_true, Bool.false_and, Bool.and_false, Bool.and_self, IntWalk.u64_in, Int.cast_ofNat_Int, callF1, pad16, pad_0, pad_1, pad_2, pad_3, pad_4, pad_5, pad_6, pad_7, pad_8, pad_9, pad_10, pad_11, pad_12, pad_13, pad_14, pad_15, gc0, gc1, gc2, gc3, gc4, gc5, gc6, gc7, gc8, gc9, gc10, gc11, gc12, gc13, gc14, gc15, gcS, sc0, sc1, sc2, sc3, sc4, sc5, sc6, sc7, sc8, sc9, sc10, sc11, sc12, sc13, sc14, sc15, scS, List.drop_succ_cons, List.drop_nil, x_pan, s_pan, b_pan, pE_ret, pE_pan, pE_none, pE_ite, pvE_some, pvE_none, pvE_ite, rv_some, rv_none, rv_ite, oR_ret, t_mv, t_pick, t_alloc, t_box, t_build, t_buildS, t_load, t_store, t_nilck, t_bin, t_eqb, t_eqA, t_eqp, t_un, t_conv, t_field, t_idxA, t_faddr, t_iaddrS, t_iaddrA, t_ext, t_len, t_mm, t_call, t_ifc, t_fn, t_slc, t_slcA, t_slcT, t_tass, t_isn, t_mks, t_app, t_pan, panE_i, optE_none, optE_some, bnd_none, bnd_int, slA_none, slA_some, appR_some, appOld_cells, newsV_s, newsV_n, lenS_s, appV_nil, appV_some, mksV_i, sh_c, sh_g, f_pan, endD_ret, dfr_normal, dfr_ret, dfr_pan, restD_normal, callD1, callC1, tassV, isnV, slcV, slcAV, slcTV, slcB, appNew, Option.bind_some, Option.bind_none, d_pan, h_pan, wrH_eq, wrX_cells, wrU_some, upH_nil, upH_cons, lk_upH, effR_some, effR_none, effR_ite, Option.isNone_none, Option.isNone_some, slA_zero]
  generalize hE : exec B (G12 B) _ (LC.loop _) _ = o
  have hO : Ok o (fun x s => ∃ ts, s = ⟨ts, (N.n 1, KB.cells [.slice (some ⟨b', 0, none⟩) L.length c'] 1) :: (N.n 0, KB.cells [.slice (some ⟨b, 0, none⟩) L.length c] 1) :: H, sh (sh N)⟩ ∧ ts.length = 31 ∧ x = .exit 0) := by
    rw [← hE]
    refine loop_rule (n0 := 40) (fun k s => ∃ ts i, s = ⟨ts, (N.n 1, KB.cells [.slice (some ⟨b', 0, none⟩) L.length c'] 1) :: (N.n 0, KB.cells [.slice (some ⟨b, 0, none⟩) L.length c] 1) :: H, sh (sh N)⟩ ∧ ts.length = 31 ∧ gt ts 2 = .pointer (some ⟨N 0, 0, none⟩) ∧ gt ts 3 = .pointer (some ⟨N 1, 0, none⟩) ∧ gt ts 5 = .int .i64 i ∧ 0 ≤ i ∧ i ≤ L.length ∧ k = L.length - i.toNat) _ ?_ L.length _ ⟨_, 0, rfl, by rfl, rfl, rfl, rfl, by omega, by omega, by simp⟩ _ (by omega)
    rintro n k s ⟨ts, i, rfl, hts, t2, t3, t5, i0, i1, hk⟩
    by_cases hi : i < L.length
    · have hl : i.toNat < L.length := by omega
      simp -implicitDefEqProofs (maxSteps := 10000000) (disch := omega) only [T12, L12, hB, hR, hI, hi, hl, hts, t2, t3, t5, i0, gtst, st_len, hnb, hnc, hBb, hBc, hrb, hrc, hlb, hlc, tk_c hl, bne_self_eq_false, pad, e_skip, e_ops, e_draw, d_none, d_nil, d_cons, d_ite, h_none, h_nil, h_cons, h_ite, eqS_same, lightV, e_seq, e_cond, e_block, e_exit, e_ret, s_normal, s_ret, s_exit, s_none, s_ite, b_normal, b_ret, b_exit, b_none, b_ite, c_bool, x_none, x_nil, x_cons, x_ite, p_some, p_none, p_ite, pt_some, pt_none, pv_some, pv_none, pv_ite, w_none, w_some, i_bool, i_undef, bt, bf, v_tmp, v_const, v_global, v_func, evs, f_normal, f_ret, f_none, f_ite, r_some, co_some, l_ptr, m_agg, m_one, sh_app, lk_nil, lk_cons, rd_eq, rdO_some, rdO_none, rdN_none, rdL_some, rdL_none, wrB_none, unitR_some, wr_nil, wr_here, wr_skip, k_cells, tk_zero, tk_take, tk_skip, tkC_some, call_func, gt, st, binV, arith, isSh, storeV, all1, idxAV, fieldV, faddrV, iaddrSV, iaddrAV, pickV, convV, unV, eqbV, eqpV, extV, lenV, mm2, mmV, nilckV, ress, res1, retV, Value.cells, cond_true, cond_false, Bool.true_or, Bool.false_or, Bool.or_true, Bool.or_false, beq_self_eq_true, if_true, if_false, ite_true, ite_false, decide_true, decide_false, decide_eq_true_eq, reduceIte, Nat.zero_add, Nat.add_zero, and_self, true_and, and_true, List.size_toArray, List.length_cons, List.length_nil, List.append_nil, List.nil_append, Int.toNat_zero, Bool.not_false, Bool.not_true, Bool.not_not, Bool.false_eq_true, Bool.true_eq_false, reduceCtorEq, Int.reduceLT, Int.reduceLE, Int.reduceToNat, Int.reduceAdd, Int.reduceSub, Int.reduceMul, Int.reduceNeg, Nat.reduceMul, Nat.reduceAdd, Nat.reduceSub, Nat.reduceBEq, Nat.reduceEqDiff, Nat.reduceLT, Nat.reduceLeDiff, Int.reduceBEq, Int.reduceEq, Nat.reducePow, Int.reducePow, IntWalk.i64_in, IntKind.bits, eqAV, eqL, leafEq, andO, fillV, buildSV, List.getElem?_toArray, List.getElem?_cons_zero, List.getElem?_cons_succ, List.getElem?_nil, Int.reduceGT, Int.reduceGE, Int.reduceBNe, Bool.true_and, Bool.and_true, Bool.false_and, Bool.and_false, Bool.and_self, IntWalk.u64_in, Int.cast_ofNat_Int, callF1, pad16, pad_0, pad_1, pad_2, pad_3, pad_4, pad_5, pad_6, pad_7, pad_8, pad_9, pad_10, pad_11, pad_12, pad_13, pad_14, pad_15, gc0, gc1, gc2, gc3, gc4, gc5, gc6, gc7, gc8, gc9, gc10, gc11, gc12, gc13, gc14, gc15, gcS, sc0, sc1, sc2, sc3, sc4, sc5, sc6, sc7, sc8, sc9, sc10, sc11, sc12, sc13, sc14, sc15, scS, List.drop_succ_cons, List.drop_nil, x_pan, s_pan, b_pan, pE_ret, pE_pan, pE_none, pE_ite, pvE_some, pvE_none, pvE_ite, rv_some, rv_none, rv_ite, oR_ret, t_mv, t_pick, t_alloc, t_box, t_build, t_buildS, t_load, t_store, t_nilck, t_bin, t_eqb, t_eqA, t_eqp, t_un, t_conv, t_field, t_idxA, t_faddr, t_iaddrS, t_iaddrA, t_ext, t_len, t_mm, t_call, t_ifc, t_fn, t_slc, t_slcA, t_slcT, t_tass, t_isn, t_mks, t_app, t_pan, panE_i, optE_none, optE_some, bnd_none, bnd_int, slA_none, slA_some, appR_some, appOld_cells, newsV_s, newsV_n, lenS_s, appV_nil, appV_some, mksV_i, sh_c, sh_g, f_pan, endD_ret, dfr_normal, dfr_ret, dfr_pan, restD_normal, callD1, callC1, tassV, isnV, slcV, slcAV, slcTV, slcB, appNew, Option.bind_some, Option.bind_none, d_pan, h_pan, wrH_eq, wrX_cells, wrU_some, upH_nil, upH_cons, lk_upH, effR_some, effR_none, effR_ite, Option.isNone_none, Option.isNone_some, slA_zero]
      refine ok_some (.inl ⟨rfl, L.length - (i + 1).toNat, by omega, _, i + 1, rfl, ?_, ?_, ?_, ?_, by omega, by omega, rfl⟩
        )
      all_goals simp -implicitDefEqProofs (maxSteps := 10000000) (disch := omega) only [T12, L12, hB, hR, hI, hts, t2, t3, t5, gtst, st_len, pad, e_skip, e_ops, e_draw, d_none, d_nil, d_cons, d_ite, h_none, h_nil, h_cons, h_ite, eqS_same, lightV, e_seq, e_cond, e_block, e_exit, e_ret, s_normal, s_ret, s_exit, s_none, s_ite, b_normal, b_ret, b_exit, b_none, b_ite, c_bool, x_none, x_nil, x_cons, x_ite, p_some, p_none, p_ite, pt_some, pt_none, pv_some, pv_none, pv_ite, w_none, w_some, i_bool, i_undef, bt, bf, v_tmp, v_const, v_global, v_func, evs, f_normal, f_ret, f_none, f_ite, r_some, co_some, l_ptr, m_agg, m_one, sh_app, lk_nil, lk_cons, rd_eq, rdO_some, rdO_none, rdN_none, rdL_some, rdL_none, wrB_none, unitR_some, wr_nil, wr_here, wr_skip, k_cells, tk_zero, tk_take, tk_skip, tkC_some, call_func, gt, st, binV, arith, isSh, storeV, all1, idxAV, fieldV, faddrV, iaddrSV, iaddrAV, pickV, convV, unV, eqbV, eqpV, extV, lenV, mm2, mmV, nilckV, ress, res1, retV, Value.cells, cond_true, cond_false, Bool.true_or, Bool.false_or, Bool.or_true, Bool.or_false, beq_self_eq_true, if_true, if_false, ite_true, ite_false, decide_true, decide_false, decide_eq_true_eq, reduceIte, Nat.zero_add, Nat.add_zero, and_self, true_and, and_true, List.size_toArray, List.length_cons, List.length_nil, List.append_nil, List.nil_append, Int.toNat_zero, Bool.not_false, Bool.not_true, Bool.not_not, Bool.false_eq_true, Bool.true_eq_false, reduceCtorEq, Int.reduceLT, Int.reduceLE, Int.reduceToNat, Int.reduceAdd, Int.reduceSub, Int.reduceMul, Int.reduceNeg, Nat.reduceMul, Nat.reduceAdd, Nat.reduceSub, Nat.reduceBEq, Nat.reduceEqDiff, Nat.reduceLT, Nat.reduceLeDiff, Int.reduceBEq, Int.reduceEq, Nat.reducePow, Int.reducePow, IntWalk.i64_in, IntKind.bits, eqAV, eqL, leafEq, andO, fillV, buildSV, List.getElem?_toArray, List.getElem?_cons_zero, List.getElem?_cons_succ, List.getElem?_nil, Int.reduceGT, Int.reduceGE, Int.reduceBNe, Bool.true_and, Bool.and_true, Bool.false_and, Bool.and_false, Bool.and_self, IntWalk.u64_in, Int.cast_ofNat_Int, callF1, pad16, pad_0, pad_1, pad_2, pad_3, pad_4, pad_5, pad_6, pad_7, pad_8, pad_9, pad_10, pad_11, pad_12, pad_13, pad_14, pad_15, gc0, gc1, gc2, gc3, gc4, gc5, gc6, gc7, gc8, gc9, gc10, gc11, gc12, gc13, gc14, gc15, gcS, sc0, sc1, sc2, sc3, sc4, sc5, sc6, sc7, sc8, sc9, sc10, sc11, sc12, sc13, sc14, sc15, scS, List.drop_succ_cons, List.drop_nil, x_pan, s_pan, b_pan, pE_ret, pE_pan, pE_none, pE_ite, pvE_some, pvE_none, pvE_ite, rv_some, rv_none, rv_ite, oR_ret, t_mv, t_pick, t_alloc, t_box, t_build, t_buildS, t_load, t_store, t_nilck, t_bin, t_eqb, t_eqA, t_eqp, t_un, t_conv, t_field, t_idxA, t_faddr, t_iaddrS, t_iaddrA, t_ext, t_len, t_mm, t_call, t_ifc, t_fn, t_slc, t_slcA, t_slcT, t_tass, t_isn, t_mks, t_app, t_pan, panE_i, optE_none, optE_some, bnd_none, bnd_int, slA_none, slA_some, appR_some, appOld_cells, newsV_s, newsV_n, lenS_s, appV_nil, appV_some, mksV_i, sh_c, sh_g, f_pan, endD_ret, dfr_normal, dfr_ret, dfr_pan, restD_normal, callD1, callC1, tassV, isnV, slcV, slcAV, slcTV, slcB, appNew, Option.bind_some, Option.bind_none, d_pan, h_pan, wrH_eq, wrX_cells, wrU_some, upH_nil, upH_cons, lk_upH, effR_some, effR_none, effR_ite, Option.isNone_none, Option.isNone_some, slA_zero]
    · simp -implicitDefEqProofs (maxSteps := 10000000) (disch := omega) only [T12, L12, hB, hR, hI, hi, hts, t2, t3, t5, i0, gtst, st_len, hnb, hnc, hBb, hBc, hrb, hrc, hlb, hlc, pad, e_skip, e_ops, e_draw, d_none, d_nil, d_cons, d_ite, h_none, h_nil, h_cons, h_ite, eqS_same, lightV, e_seq, e_cond, e_block, e_exit, e_ret, s_normal, s_ret, s_exit, s_none, s_ite, b_normal, b_ret, b_exit, b_none, b_ite, c_bool, x_none, x_nil, x_cons, x_ite, p_some, p_none, p_ite, pt_some, pt_none, pv_some, pv_none, pv_ite, w_none, w_some, i_bool, i_undef, bt, bf, v_tmp, v_const, v_global, v_func, evs, f_normal, f_ret, f_none, f_ite, r_some, co_some, l_ptr, m_agg, m_one, sh_app, lk_nil, lk_cons, rd_eq, rdO_some, rdO_none, rdN_none, rdL_some, rdL_none, wrB_none, unitR_some, wr_nil, wr_here, wr_skip, k_cells, tk_zero, tk_take, tk_skip, tkC_some, call_func, gt, st, binV, arith, isSh, storeV, all1, idxAV, fieldV, faddrV, iaddrSV, iaddrAV, pickV, convV, unV, eqbV, eqpV, extV, lenV, mm2, mmV, nilckV, ress, res1, retV, Value.cells, cond_true, cond_false, Bool.true_or, Bool.false_or, Bool.or_true, Bool.or_false, beq_self_eq_true, if_true, if_false, ite_true, ite_false, decide_true, decide_false, decide_eq_true_eq, reduceIte, Nat.zero_add, Nat.add_zero, and_self, true_and, and_true, List.size_toArray, List.length_cons, List.length_nil, List.append_nil, List.nil_append, Int.toNat_zero, Bool.not_false, Bool.not_true, Bool.not_not, Bool.false_eq_true, Bool.true_eq_false, reduceCtorEq, Int.reduceLT, Int.reduceLE, Int.reduceToNat, Int.reduceAdd, Int.reduceSub, Int.reduceMul, Int.reduceNeg, Nat.reduceMul, Nat.reduceAdd, Nat.reduceSub, Nat.reduceBEq, Nat.reduceEqDiff, Nat.reduceLT, Nat.reduceLeDiff, Int.reduceBEq, Int.reduceEq, Nat.reducePow, Int.reducePow, IntWalk.i64_in, IntKind.bits, eqAV, eqL, leafEq, andO, fillV, buildSV, List.getElem?_toArray, List.getElem?_cons_zero, List.getElem?_cons_succ, List.getElem?_nil, Int.reduceGT, Int.reduceGE, Int.reduceBNe, Bool.true_and, Bool.and_true, Bool.false_and, Bool.and_false, Bool.and_self, IntWalk.u64_in, Int.cast_ofNat_Int, callF1, pad16, pad_0, pad_1, pad_2, pad_3, pad_4, pad_5, pad_6, pad_7, pad_8, pad_9, pad_10, pad_11, pad_12, pad_13, pad_14, pad_15, gc0, gc1, gc2, gc3, gc4, gc5, gc6, gc7, gc8, gc9, gc10, gc11, gc12, gc13, gc14, gc15, gcS, sc0, sc1, sc2, sc3, sc4, sc5, sc6, sc7, sc8, sc9, sc10, sc11, sc12, sc13, sc14, sc15, scS, List.drop_succ_cons, List.drop_nil, x_pan, s_pan, b_pan, pE_ret, pE_pan, pE_none, pE_ite, pvE_some, pvE_none, pvE_ite, rv_some, rv_none, rv_ite, oR_ret, t_mv, t_pick, t_alloc, t_box, t_build, t_buildS, t_load, t_store, t_nilck, t_bin, t_eqb, t_eqA, t_eqp, t_un, t_conv, t_field, t_idxA, t_faddr, t_iaddrS, t_iaddrA, t_ext, t_len, t_mm, t_call, t_ifc, t_fn, t_slc, t_slcA, t_slcT, t_tass, t_isn, t_mks, t_app, t_pan, panE_i, optE_none, optE_some, bnd_none, bnd_int, slA_none, slA_some, appR_some, appOld_cells, newsV_s, newsV_n, lenS_s, appV_nil, appV_some, mksV_i, sh_c, sh_g, f_pan, endD_ret, dfr_normal, dfr_ret, dfr_pan, restD_normal, callD1, callC1, tassV, isnV, slcV, slcAV, slcTV, slcB, appNew, Option.bind_some, Option.bind_none, d_pan, h_pan, wrH_eq, wrX_cells, wrU_some, upH_nil, upH_cons, lk_upH, effR_some, effR_none, effR_ite, Option.isNone_none, Option.isNone_some, slA_zero]
      refine ok_some (.inr ⟨by simp, _, rfl, ?_, rfl⟩)
      simp -implicitDefEqProofs (maxSteps := 10000000) (disch := omega) only [T12, L12, hB, hR, hI, hts, st_len, pad, e_skip, e_ops, e_draw, d_none, d_nil, d_cons, d_ite, h_none, h_nil, h_cons, h_ite, eqS_same, lightV, e_seq, e_cond, e_block, e_exit, e_ret, s_normal, s_ret, s_exit, s_none, s_ite, b_normal, b_ret, b_exit, b_none, b_ite, c_bool, x_none, x_nil, x_cons, x_ite, p_some, p_none, p_ite, pt_some, pt_none, pv_some, pv_none, pv_ite, w_none, w_some, i_bool, i_undef, bt, bf, v_tmp, v_const, v_global, v_func, evs, f_normal, f_ret, f_none, f_ite, r_some, co_some, l_ptr, m_agg, m_one, sh_app, lk_nil, lk_cons, rd_eq, rdO_some, rdO_none, rdN_none, rdL_some, rdL_none, wrB_none, unitR_some, wr_nil, wr_here, wr_skip, k_cells, tk_zero, tk_take, tk_skip, tkC_some, call_func, gt, st, binV, arith, isSh, storeV, all1, idxAV, fieldV, faddrV, iaddrSV, iaddrAV, pickV, convV, unV, eqbV, eqpV, extV, lenV, mm2, mmV, nilckV, ress, res1, retV, Value.cells, cond_true, cond_false, Bool.true_or, Bool.false_or, Bool.or_true, Bool.or_false, beq_self_eq_true, if_true, if_false, ite_true, ite_false, decide_true, decide_false, decide_eq_true_eq, reduceIte, Nat.zero_add, Nat.add_zero, and_self, true_and, and_true, List.size_toArray, List.length_cons, List.length_nil, List.append_nil, List.nil_append, Int.toNat_zero, Bool.not_false, Bool.not_true, Bool.not_not, Bool.false_eq_true, Bool.true_eq_false, reduceCtorEq, Int.reduceLT, Int.reduceLE, Int.reduceToNat, Int.reduceAdd, Int.reduceSub, Int.reduceMul, Int.reduceNeg, Nat.reduceMul, Nat.reduceAdd, Nat.reduceSub, Nat.reduceBEq, Nat.reduceEqDiff, Nat.reduceLT, Nat.reduceLeDiff, Int.reduceBEq, Int.reduceEq, Nat.reducePow, Int.reducePow, IntWalk.i64_in, IntKind.bits, eqAV, eqL, leafEq, andO, fillV, buildSV, List.getElem?_toArray, List.getElem?_cons_zero, List.getElem?_cons_succ, List.getElem?_nil, Int.reduceGT, Int.reduceGE, Int.reduceBNe, Bool.true_and, Bool.and_true, Bool.false_and, Bool.and_false, Bool.and_self, IntWalk.u64_in, Int.cast_ofNat_Int, callF1, pad16, pad_0, pad_1, pad_2, pad_3, pad_4, pad_5, pad_6, pad_7, pad_8, pad_9, pad_10, pad_11, pad_12, pad_13, pad_14, pad_15, gc0, gc1, gc2, gc3, gc4, gc5, gc6, gc7, gc8, gc9, gc10, gc11, gc12, gc13, gc14, gc15, gcS, sc0, sc1, sc2, sc3, sc4, sc5, sc6, sc7, sc8, sc9, sc10, sc11, sc12, sc13, sc14, sc15, scS, List.drop_succ_cons, List.drop_nil, x_pan, s_pan, b_pan, pE_ret, pE_pan, pE_none, pE_ite, pvE_some, pvE_none, pvE_ite, rv_some, rv_none, rv_ite, oR_ret, t_mv, t_pick, t_alloc, t_box, t_build, t_buildS, t_load, t_store, t_nilck, t_bin, t_eqb, t_eqA, t_eqp, t_un, t_conv, t_field, t_idxA, t_faddr, t_iaddrS, t_iaddrA, t_ext, t_len, t_mm, t_call, t_ifc, t_fn, t_slc, t_slcA, t_slcT, t_tass, t_isn, t_mks, t_app, t_pan, panE_i, optE_none, optE_some, bnd_none, bnd_int, slA_none, slA_some, appR_some, appOld_cells, newsV_s, newsV_n, lenS_s, appV_nil, appV_some, mksV_i, sh_c, sh_g, f_pan, endD_ret, dfr_normal, dfr_ret, dfr_pan, restD_normal, callD1, callC1, tassV, isnV, slcV, slcAV, slcTV, slcB, appNew, Option.bind_some, Option.bind_none, d_pan, h_pan, wrH_eq, wrX_cells, wrU_some, upH_nil, upH_cons, lk_upH, effR_some, effR_none, effR_ite, Option.isNone_none, Option.isNone_some, slA_zero]
  obtain ⟨x, s', rfl, ts, rfl, hts, rfl⟩ := hO
  simp -implicitDefEqProofs (maxSteps := 10000000) (disch := omega) only [T12, L12, hB, hR, hI, hts, gtst, st_len, bne_self_eq_false, pad, e_skip, e_ops, e_draw, d_none, d_nil, d_cons, d_ite, h_none, h_nil, h_cons, h_ite, eqS_same, lightV, e_seq, e_cond, e_block, e_exit, e_ret, s_normal, s_ret, s_exit, s_none, s_ite, b_normal, b_ret, b_exit, b_none, b_ite, c_bool, x_none, x_nil, x_cons, x_ite, p_some, p_none, p_ite, pt_some, pt_none, pv_some, pv_none, pv_ite, w_none, w_some, i_bool, i_undef, bt, bf, v_tmp, v_const, v_global, v_func, evs, f_normal, f_ret, f_none, f_ite, r_some, co_some, l_ptr, m_agg, m_one, sh_app, lk_nil, lk_cons, rd_eq, rdO_some, rdO_none, rdN_none, rdL_some, rdL_none, wrB_none, unitR_some, wr_nil, wr_here, wr_skip, k_cells, tk_zero, tk_take, tk_skip, tkC_some, call_func, gt, st, binV, arith, isSh, storeV, all1, idxAV, fieldV, faddrV, iaddrSV, iaddrAV, pickV, convV, unV, eqbV, eqpV, extV, lenV, mm2, mmV, nilckV, ress, res1, retV, Value.cells, cond_true, cond_false, Bool.true_or, Bool.false_or, Bool.or_true, Bool.or_false, beq_self_eq_true, if_true, if_false, ite_true, ite_false, decide_true, decide_false, decide_eq_true_eq, reduceIte, Nat.zero_add, Nat.add_zero, and_self, true_and, and_true, List.size_toArray, List.length_cons, List.length_nil, List.append_nil, List.nil_append, Int.toNat_zero, Bool.not_false, Bool.not_true, Bool.not_not, Bool.false_eq_true, Bool.true_eq_false, reduceCtorEq, Int.reduceLT, Int.reduceLE, Int.reduceToNat, Int.reduceAdd, Int.reduceSub, Int.reduceMul, Int.reduceNeg, Nat.reduceMul, Nat.reduceAdd, Nat.reduceSub, Nat.reduceBEq, Nat.reduceEqDiff, Nat.reduceLT, Nat.reduceLeDiff, Int.reduceBEq, Int.reduceEq, Nat.reducePow, Int.reducePow, IntWalk.i64_in, IntKind.bits, eqAV, eqL, leafEq, andO, fillV, buildSV, List.getElem?_toArray, List.getElem?_cons_zero, List.getElem?_cons_succ, List.getElem?_nil, Int.reduceGT, Int.reduceGE, Int.reduceBNe, Bool.true_and, Bool.and_true, Bool.false_and, Bool.and_false, Bool.and_self, IntWalk.u64_in, Int.cast_ofNat_Int, callF1, pad16, pad_0, pad_1, pad_2, pad_3, pad_4, pad_5, pad_6, pad_7, pad_8, pad_9, pad_10, pad_11, pad_12, pad_13, pad_14, pad_15, gc0, gc1, gc2, gc3, gc4, gc5, gc6, gc7, gc8, gc9, gc10, gc11, gc12, gc13, gc14, gc15, gcS, sc0, sc1, sc2, sc3, sc4, sc5, sc6, sc7, sc8, sc9, sc10, sc11, sc12, sc13, sc14, sc15, scS, List.drop_succ_cons, List.drop_nil, x_pan, s_pan, b_pan, pE_ret, pE_pan, pE_none, pE_ite, pvE_some, pvE_none, pvE_ite, rv_some, rv_none, rv_ite, oR_ret, t_mv, t_pick, t_alloc, t_box, t_build, t_buildS, t_load, t_store, t_nilck, t_bin, t_eqb, t_eqA, t_eqp, t_un, t_conv, t_field, t_idxA, t_faddr, t_iaddrS, t_iaddrA, t_ext, t_len, t_mm, t_call, t_ifc, t_fn, t_slc, t_slcA, t_slcT, t_tass, t_isn, t_mks, t_app, t_pan, panE_i, optE_none, optE_some, bnd_none, bnd_int, slA_none, slA_some, appR_some, appOld_cells, newsV_s, newsV_n, lenS_s, appV_nil, appV_some, mksV_i, sh_c, sh_g, f_pan, endD_ret, dfr_normal, dfr_ret, dfr_pan, restD_normal, callD1, callC1, tassV, isnV, slcV, slcAV, slcTV, slcB, appNew, Option.bind_some, Option.bind_none, d_pan, h_pan, wrH_eq, wrX_cells, wrU_some, upH_nil, upH_cons, lk_upH, effR_some, effR_none, effR_ite, Option.isNone_none, Option.isNone_some, slA_zero]
  with_reducible refine done2 ?_
  repeat (first | refine ext_new hN ?_ | exact fun _ _ h => h)
noncomputable def V12 (B : OH) : Cs := effC (eSame B)
theorem V12_eq {B : OH} {a : List Value} {H : HL} {N : St} : V12 B a H N = effR (eSame B a H) N := rfl
theorem sV12 {w0 : World} {B : OH} : SoundC Try.prog w0 B 12 (V12 B) := sT12.ofEff ev12
/-- whitewash/whitewashref03.Own -/
def L13 : FnL := ⟨(.seq (.ops [⟨(some 1), .box (.tmp 0), none⟩, ⟨(some 2), .alloc [(.slice none 0 0)], none⟩])
 (.seq (.ops [⟨(some 3), .faddr 0 (.tmp 1), none⟩, ⟨(some 4), .load false 1 (.tmp 3), none⟩, ⟨(some 5), .app [(.int .u64 0), (.int .i64 0)] 16 (.const (.slice none 0 0)) (.tmp 4), none⟩, ⟨(some 6), .build [(.slice none 0 0)] [(0, 1, (.tmp 5))], none⟩, ⟨none, .store 1 (.tmp 2) (.tmp 6), none⟩])
 .ret)),
 7, [.cell 2 true 1]⟩
theorem low13 : lowerFn Try.prog Try.f13 = some L13 := by kernel_rfl
noncomputable def G13 (B : OH) : Nat → Cs
  | _ => fun _ _ _ => none
theorem sG13 {w0 : World} {B : OH} : SoundG Try.prog w0 B (G13 B) := fun k => by
  unfold G13
  split
  · exact .inl fun _ _ _ => rfl
theorem en13 : Enter Try.prog 13 := .of Try.func13 (by kernel_rfl) (by kernel_rfl)
noncomputable def T13 (B : OH) : Cs := callF B (G13 B) 200 L13
theorem sT13 {w0 : World} {B : OH} : SoundC Try.prog w0 B 13 (T13 B) := callF_sound mixedOrders sG13 200 Try.func13 low13
noncomputable def V13 (B : OH) : Cs := T13 B
theorem sV13 {w0 : World} {B : OH} : SoundC Try.prog w0 B 13 (V13 B) := sT13
end Go.Proofs.Yteilhhkkhnnglaa
namespace Go.Proofs.Yteilhhkkhnnglaa
open Go.Proofs.Yteilhhkkhnnglaa.K
def lkf (A : Int) : Nat → Int
  | 0 => 0
  | i + 1 => if has01 A i = 1 then lor (lkf A i) (shl1 i) else lkf A i
def rlf (A G : Int) : Nat → Int
  | 0 => lkf A 16
  | i + 1 => if has01 G i = 1 then landn (rlf A G i) (shl1 i) else rlf A G i
def R64 (x : Int) : Prop := -9223372036854775808 ≤ x ∧ x ≤ 9223372036854775807
theorem wrap_R (x : Int) : R64 (IntKind.i64.wrap x) := by
  rw [IntKind.wrap_i64]; unfold R64; omega
theorem B64_inj {x y : Int} (hx : R64 x) (hy : R64 y) (h : B64 x = B64 y) : x = y := by
  have h1 : (B64 x).toNat = (B64 y).toNat := by rw [h]
  unfold B64 at h1
  rw [BitVec.toNat_ofInt, BitVec.toNat_ofInt] at h1
  unfold R64 at hx hy
  omega
theorem R_lkf (A : Int) : ∀ i, R64 (lkf A i)
  | 0 => by unfold lkf R64; omega
  | i + 1 => by
    unfold lkf
    split
    · exact wrap_R _
    · exact R_lkf A i
theorem R_rlf (A G : Int) : ∀ i, R64 (rlf A G i)
  | 0 => R_lkf A 16
  | i + 1 => by
    unfold rlf
    split
    · exact wrap_R _
    · exact R_rlf A G i
theorem bit_lkf (A : Int) : ∀ i, i ≤ 64 → ∀ j, (B64 (lkf A i)).getLsbD j = (decide (j < i) && (B64 A).getLsbD j)
  | 0, _, j => by simp [lkf, B64]
  | i + 1, h, j => by
    have ih := bit_lkf A i (by omega) j
    have hb := has_bit A (i : Int) (by omega)
    simp only [Int.toNat_natCast] at hb
    by_cases hx : (B64 A).getLsbD i = true
    · have h1 : has01 A i = 1 := by rw [hb, if_pos hx]
      simp only [lkf, h1, if_true]
      rw [B64_lor, B64_shl1 _ (by omega), BitVec.getLsbD_or, ih, Int.toNat_natCast, BitVec.getLsbD_twoPow]
      have hi : i < 64 := by omega
      by_cases hj : j = i
      · subst hj; simp [hx, hi]
      · by_cases hlt : j < i
        · simp [hlt, show j < i + 1 by omega, show ¬ i = j by omega]
        · simp [hlt, show ¬ j < i + 1 by omega, show ¬ i = j by omega]
    · have h1 : ¬ has01 A i = 1 := by rw [hb, if_neg hx]; decide
      simp only [lkf, if_neg h1]
      rw [ih]
      by_cases hj : j = i
      · subst hj; simp [hx]
      · by_cases hlt : j < i
        · simp [hlt, show j < i + 1 by omega]
        · simp [hlt, show ¬ j < i + 1 by omega]
theorem bit_rlf (A G : Int) : ∀ i, i ≤ 64 → ∀ j, (B64 (rlf A G i)).getLsbD j = ((B64 (lkf A 16)).getLsbD j && !(decide (j < i) && (B64 G).getLsbD j))
  | 0, _, j => by simp [rlf]
  | i + 1, h, j => by
    have ih := bit_rlf A G i (by omega) j
    have hb := has_bit G (i : Int) (by omega)
    simp only [Int.toNat_natCast] at hb
    have hi : i < 64 := by omega
    by_cases hx : (B64 G).getLsbD i = true
    · have h1 : has01 G i = 1 := by rw [hb, if_pos hx]
      simp only [rlf, h1, if_true]
      rw [B64_landn, B64_shl1 _ (by omega), BitVec.getLsbD_and, ih, Int.toNat_natCast]
      by_cases hj : j = i
      · subst hj; simp [hx, hi, BitVec.getLsbD_twoPow]
      · by_cases hlt : j < i
        · have hj64 : j < 64 := by omega
          simp [hlt, show j < i + 1 by omega, show ¬ i = j by omega, hj, BitVec.getLsbD_twoPow, hj64]
        · by_cases hj64 : j < 64
          · simp [hlt, show ¬ j < i + 1 by omega, show ¬ i = j by omega, hj, BitVec.getLsbD_twoPow, hj64]
          · rw [BitVec.getLsbD_of_ge _ j (by omega)]; simp
    · have h1 : ¬ has01 G i = 1 := by rw [hb, if_neg hx]; decide
      simp only [rlf, if_neg h1]
      rw [ih]
      by_cases hj : j = i
      · subst hj; simp [hx]
      · by_cases hlt : j < i
        · simp [hlt, show j < i + 1 by omega]
        · simp [hlt, show ¬ j < i + 1 by omega]
theorem bit_small (A : Int) (h : 0 ≤ A ∧ A < 65536) (j : Nat) (hj : 16 ≤ j) : (B64 A).getLsbD j = false := by
  unfold B64
  rw [BitVec.getLsbD, BitVec.toNat_ofInt]
  apply Nat.testBit_lt_two_pow
  have h1 : (A % ((2 ^ 64 : Nat) : Int)).toNat < 2 ^ 16 := by omega
  exact Nat.lt_of_lt_of_le h1 (Nat.pow_le_pow_right (by decide) hj)
theorem left_eq (A G : Int) (hA : 0 ≤ A ∧ A < 65536) : rlf A G 16 = landn A G := by
  refine B64_inj (y := landn A G) (R_rlf A G 16) (wrap_R _) ?_
  rw [B64_landn]
  apply BitVec.eq_of_getLsbD_eq
  intro j hj
  rw [bit_rlf A G 16 (by decide), bit_lkf A 16 (by decide), BitVec.getLsbD_and, BitVec.getLsbD_not]
  by_cases hlt : j < 16
  · simp [hlt, hj]
  · simp [hlt, bit_small A hA j (by omega)]
end Go.Proofs.Yteilhhkkhnnglaa
namespace Go.Proofs.Yteilhhkkhnnglaa
open Go.Proofs.Yteilhhkkhnnglaa.K
abbrev Rw := Nat → Bool
def fr (r : Rw) : List Value := [.bool (r 0), .bool (r 1), .bool (r 2), .bool (r 3), .bool (r 4), .bool (r 5), .bool (r 6), .bool (r 7), .bool (r 8), .bool (r 9), .bool (r 10), .bool (r 11), .bool (r 12), .bool (r 13), .bool (r 14), .bool (r 15)]
theorem fr_len (r : Rw) : (fr r).length = 16 := rfl
def fw (w : Int) : List Value := [.int .u64 w]
theorem fw_len (w : Int) : (fw w).length = 1 := rfl
def upd (r : Rw) (p : Nat) (v : Bool) : Rw := fun j => if j = p then v else r j
theorem tk_fr (r : Rw) : ∀ p, p < 16 → tk (fr r) p 1 = some [.bool (r p)]
  | 0, _ | 1, _ | 2, _ | 3, _ | 4, _ | 5, _ | 6, _ | 7, _ | 8, _ | 9, _ | 10, _ | 11, _ | 12, _ | 13, _ | 14, _ | 15, _ => rfl
  | n + 16, h => by omega
theorem wr_fr (r : Rw) (v : Bool) : ∀ p, p < 16 → wr (fr r) p [.bool v] = some (fr (upd r p v))
  | 0, _ | 1, _ | 2, _ | 3, _ | 4, _ | 5, _ | 6, _ | 7, _ | 8, _ | 9, _ | 10, _ | 11, _ | 12, _ | 13, _ | 14, _ | 15, _ => rfl
  | n + 16, h => by omega
def mk (r : Rw) : Nat → Int
  | 0 => 0
  | j + 1 => if r j = true then lor (mk r j) (shl1 j) else mk r j
theorem R_mk (r : Rw) : ∀ i, R64 (mk r i)
  | 0 => by unfold mk R64; omega
  | i + 1 => by
    unfold mk
    split
    · exact wrap_R _
    · exact R_mk r i
theorem bit_mk (r : Rw) : ∀ i, i ≤ 64 → ∀ j, (B64 (mk r i)).getLsbD j = (decide (j < i) && r j)
  | 0, _, j => by simp [mk, B64]
  | i + 1, h, j => by
    have ih := bit_mk r i (by omega) j
    have hi : i < 64 := by omega
    by_cases hx : r i = true
    · simp only [mk, hx, if_true]
      rw [B64_lor, B64_shl1 _ (by omega), BitVec.getLsbD_or, ih, Int.toNat_natCast, BitVec.getLsbD_twoPow]
      by_cases hj : j = i
      · subst hj; simp [hx, hi]
      · by_cases hlt : j < i
        · simp [hlt, show j < i + 1 by omega, show ¬ i = j by omega]
        · simp [hlt, show ¬ j < i + 1 by omega, show ¬ i = j by omega]
    · simp only [mk, if_neg hx]
      rw [ih]
      by_cases hj : j = i
      · subst hj; simp [hx]
      · by_cases hlt : j < i
        · simp [hlt, show j < i + 1 by omega]
        · simp [hlt, show ¬ j < i + 1 by omega]
theorem has_mk (r : Rw) (p : Int) (h : 0 ≤ p ∧ p < 16) : has01 (mk r 16) p = if r p.toNat = true then 1 else 0 := by
  rw [has_bit _ p (by omega), bit_mk r 16 (by decide)]
  have : p.toNat < 16 := by omega
  simp [this]
theorem mk_set (r : Rw) (p : Int) (h : 0 ≤ p ∧ p < 16) : lor (mk r 16) (shl1 p) = mk (upd r p.toNat true) 16 := by
  apply B64_inj (wrap_R _) (R_mk _ _)
  show B64 (lor (mk r 16) (shl1 p)) = _
  rw [B64_lor, B64_shl1 p (by omega)]
  apply BitVec.eq_of_getLsbD_eq
  intro j hj
  rw [BitVec.getLsbD_or, bit_mk r 16 (by decide), bit_mk _ 16 (by decide), BitVec.getLsbD_twoPow]
  have hp : p.toNat < 16 := by omega
  by_cases e : j = p.toNat
  · subst e; simp [upd, hp, hj]
  · have e' : ¬ p.toNat = j := fun h => e h.symm
    simp [upd, e, e']
theorem mk_clr (r : Rw) (p : Int) (h : 0 ≤ p ∧ p < 16) : landn (mk r 16) (shl1 p) = mk (upd r p.toNat false) 16 := by
  apply B64_inj (wrap_R _) (R_mk _ _)
  show B64 (landn (mk r 16) (shl1 p)) = _
  rw [B64_landn, B64_shl1 p (by omega)]
  apply BitVec.eq_of_getLsbD_eq
  intro j hj
  rw [BitVec.getLsbD_and, BitVec.getLsbD_not, bit_mk r 16 (by decide), bit_mk _ 16 (by decide), BitVec.getLsbD_twoPow]
  have hp : p.toNat < 16 := by omega
  by_cases e : j = p.toNat
  · subst e; simp [upd, hj]
  · have e' : ¬ p.toNat = j := fun h => e h.symm
    simp [upd, e, e', hj]
theorem mk_none : mk (fun _ => false) 16 = 0 := by decide
/-- What is kept of a cell: its word, and who has it linked. -/
abbrev Zc := Int × Rw
def z0 : Zc := (0, fun _ => false)
def zL (z : Zc) : Int × Int := (z.1, mk z.2 16)
theorem getD_map {α β : Type} (f : α → β) (Z : List α) (i : Nat) (d : α) (e : β) (h : i < Z.length) : (Z.map f).getD i e = f (Z.getD i d) := by
  simp [List.getD, h]
theorem map_set' {α β : Type} (f : α → β) (Z : List α) (i : Nat) (a : α) : (Z.map f).set i (f a) = (Z.set i a).map f := by
  simp [List.map_set]
theorem map_same {α β : Type} (f : α → β) (Z : List α) (i : Nat) (a d : α) (h : f a = f (Z.getD i d)) : Z.map f = (Z.set i a).map f := by
  rw [← map_set', h]
  apply List.ext_getElem?
  intro j
  by_cases e : i = j
  · subst e
    by_cases hl : i < Z.length
    · simp [hl]
    · simp [hl]
  · simp [e]
theorem tk_w {Z : List Zc} {i : Nat} (h : i < Z.length) : tk (fl fw (Z.map (·.1))) i 1 = some [.int .u64 (Z.getD i z0).1] := by
  have := tk_fl (sz := 1) fw_len (Z.map (·.1)) i 0 1 0 (by simpa using h) (by decide)
  simp only [Nat.mul_one, Nat.add_zero] at this
  rw [this, getD_map (·.1) Z i z0 0 h]
  rfl
theorem wr_w {Z : List Zc} {i : Nat} {x : Int} (h : i < Z.length) : wr (fl fw (Z.map (·.1))) i [.int .u64 x] = some (fl fw ((Z.map (·.1)).set i x)) := by
  have := wr_fl (sz := 1) fw_len (Z.map (·.1)) i 0 [.int .u64 x] 0 x (by simpa using h) (by simp) rfl
  simpa only [Nat.mul_one, Nat.add_zero] using this
theorem tk_r {Z : List Zc} {i p : Nat} (h : i < Z.length) (hp : p < 16) : tk (fl fr (Z.map (·.2))) (i * 16 + p) 1 = some [.bool ((Z.getD i z0).2 p)] := by
  rw [tk_fl (sz := 16) fr_len (Z.map (·.2)) i p 1 (fun _ => false) (by simpa using h) (by omega), getD_map (·.2) Z i z0 _ h, tk_fr _ p hp]
theorem wr_r {Z : List Zc} {i p : Nat} {v : Bool} (h : i < Z.length) (hp : p < 16) : wr (fl fr (Z.map (·.2))) (i * 16 + p) [.bool v] = some (fl fr ((Z.map (·.2)).set i (upd (Z.getD i z0).2 p v))) := by
  refine wr_fl (sz := 16) fr_len (Z.map (·.2)) i p [.bool v] (fun _ => false) _ (by simpa using h) (by simp; omega) ?_
  rw [getD_map (·.2) Z i z0 _ h, wr_fr _ v p hp]
theorem wr_rs {Z : List Zc} {i : Nat} (h : i < Z.length) : wr (fl fr (Z.map (·.2))) (i * 16) [.bool false, .bool false, .bool false, .bool false, .bool false, .bool false, .bool false, .bool false, .bool false, .bool false, .bool false, .bool false, .bool false, .bool false, .bool false, .bool false] = some (fl fr ((Z.map (·.2)).set i (fun _ => false))) := by
  have := wr_fl (sz := 16) fr_len (Z.map (·.2)) i 0 [.bool false, .bool false, .bool false, .bool false, .bool false, .bool false, .bool false, .bool false, .bool false, .bool false, .bool false, .bool false, .bool false, .bool false, .bool false, .bool false] (fun _ => false) (fun _ => false) (by simpa using h) (by simp) rfl
  simpa only [Nat.add_zero] using this
end Go.Proofs.Yteilhhkkhnnglaa
namespace Go.Proofs.Yteilhhkkhnnglaa
open Go.Proofs.Yteilhhkkhnnglaa.K Go.ChangeShapes Go.WideShapes Go.ChangeAt Go.RowKit
set_option maxRecDepth 100000
set_option linter.unusedSimpArgs false
set_option linter.unusedVariables false
theorem rep6 (x : Cell) : List.replicate 6 x = [x, x, x, x, x, x] := rfl

/-- What lasts while the loops run. -/
structure Kq (B : OH) (N : St) (ad : Option Addr) (len cap : Nat) (ts : List Value) : Prop where
  l : ts.length = 200
  t0 : gt ts 0 = .slice ad len cap
  t3 : gt ts 3 = .bool true
  t4 : gt ts 4 = .pointer (some ⟨N 2, 0, none⟩)
  t6 : gt ts 6 = .pointer (some ⟨N 3, 0, none⟩)
  t7 : gt ts 7 = .pointer (some ⟨N 4, 0, none⟩)
abbrev JH (N : St) (H : HL) (Z : List Zc) : HL := (N.n 4, KB.cells (fl fr (Z.map (·.2))) 96) :: (N.n 3, KB.cells (fl fw (Z.map (·.1))) 6) :: (N.n 2, KB.cells [Value.slice (some ⟨N.n 1, 0, none⟩) 6 6] 1) :: (N.n 1, KB.cells (fcs (Z.map zL)) 12) :: (N.n 0, KB.cells [Value.slice (some ⟨N.n 1, 0, none⟩) 6 6] 1) :: H
abbrev JN (N : St) : St := sh (sh (sh (sh (sh N))))

/-- whitewash/whitewashlaw03.CellsOne -/
def L4 : FnL := ⟨(.seq (.ops [⟨(some 2), .mv (.const (.bool false)), none⟩])
 (.seq (.ops [⟨(some 24), .call (.func 8) [], none⟩, ⟨(some 3), .mv (.tmp 24), none⟩])
 (.seq (.ops [⟨(some 26), .call (.func 10) [(.const (.int .i64 6))], none⟩, ⟨(some 25), .mv (.tmp 26), none⟩, ⟨(some 27), .ext (.tmp 25) 0, none⟩, ⟨(some 28), .ext (.tmp 25) 1, none⟩, ⟨(some 4), .alloc [(.slice none 0 0)], none⟩, ⟨none, .store 1 (.tmp 4) (.tmp 27), none⟩, ⟨(some 5), .mv (.tmp 28), none⟩])
 (.seq (.seq (.ops [⟨(some 29), .mv (.tmp 5), none⟩, ⟨(some 30), .bin .neq (.tmp 29) (.const (.int .i64 0)), none⟩, ⟨(some 31), .mv (.tmp 30), none⟩, ⟨(some 32), .faddr 0 (.tmp 4), (some (31, false))⟩, ⟨(some 33), .load false 1 (.tmp 32), (some (31, false))⟩, ⟨(some 34), .len false (.tmp 33), (some (31, false))⟩, ⟨(some 35), .bin .neq (.tmp 34) (.const (.int .i64 6)), (some (31, false))⟩, ⟨(some 36), .pick (.tmp 31) (.const (.bool true)) (.tmp 35), none⟩])
 (.cond (.tmp 36) (.seq (.ops [⟨(some 2), .mv (.const (.bool false)), none⟩])
 .ret)
 .skip))
 (.seq (.ops [⟨(some 6), .alloc [(.int .u64 0), (.int .u64 0), (.int .u64 0), (.int .u64 0), (.int .u64 0), (.int .u64 0)], none⟩])
 (.seq (.ops [⟨(some 7), .alloc [(.bool false), (.bool false), (.bool false), (.bool false), (.bool false), (.bool false), (.bool false), (.bool false), (.bool false), (.bool false), (.bool false), (.bool false), (.bool false), (.bool false), (.bool false), (.bool false), (.bool false), (.bool false), (.bool false), (.bool false), (.bool false), (.bool false), (.bool false), (.bool false), (.bool false), (.bool false), (.bool false), (.bool false), (.bool false), (.bool false), (.bool false), (.bool false), (.bool false), (.bool false), (.bool false), (.bool false), (.bool false), (.bool false), (.bool false), (.bool false), (.bool false), (.bool false), (.bool false), (.bool false), (.bool false), (.bool false), (.bool false), (.bool false), (.bool false), (.bool false), (.bool false), (.bool false), (.bool false), (.bool false), (.bool false), (.bool false), (.bool false), (.bool false), (.bool false), (.bool false), (.bool false), (.bool false), (.bool false), (.bool false), (.bool false), (.bool false), (.bool false), (.bool false), (.bool false), (.bool false), (.bool false), (.bool false), (.bool false), (.bool false), (.bool false), (.bool false), (.bool false), (.bool false), (.bool false), (.bool false), (.bool false), (.bool false), (.bool false), (.bool false), (.bool false), (.bool false), (.bool false), (.bool false), (.bool false), (.bool false), (.bool false), (.bool false), (.bool false), (.bool false), (.bool false), (.bool false)], none⟩])
 (.seq (.seq (.ops [⟨(some 8), .mv (.const (.int .i64 0)), none⟩])
 (.block 0 (.loop (.seq (.seq (.ops [⟨(some 37), .mv (.tmp 8), none⟩, ⟨(some 38), .mv (.tmp 0), none⟩, ⟨(some 39), .len false (.tmp 38), none⟩, ⟨(some 40), .bin .lss (.tmp 37) (.tmp 39), none⟩, ⟨(some 41), .mv (.tmp 40), none⟩, ⟨(some 42), .mv (.tmp 8), (some (41, true))⟩, ⟨(some 43), .bin .lss (.tmp 42) (.const (.int .i64 80)), (some (41, true))⟩, ⟨(some 44), .pick (.tmp 41) (.tmp 43) (.const (.bool false)), none⟩])
 (.cond (.tmp 44) .skip
 (.exit 0)))
 (.seq (.block 1 (.seq (.ops [⟨(some 47), .mv (.tmp 0), none⟩, ⟨(some 48), .mv (.tmp 8), none⟩, ⟨(some 49), .iaddrS 4 (.tmp 47) (.tmp 48), none⟩, ⟨(some 50), .faddr 0 (.tmp 49), none⟩, ⟨(some 51), .iaddrA 1 3 (.tmp 50) (.const (.int .i64 1)), none⟩, ⟨(some 52), .load false 1 (.tmp 51), none⟩, ⟨(some 53), .call (.func 9) [(.tmp 52), (.const (.int .i64 16))], none⟩, ⟨(some 9), .mv (.tmp 53), none⟩])
 (.seq (.ops [⟨(some 54), .mv (.tmp 0), none⟩, ⟨(some 55), .mv (.tmp 8), none⟩, ⟨(some 56), .iaddrS 4 (.tmp 54) (.tmp 55), none⟩, ⟨(some 57), .faddr 0 (.tmp 56), none⟩, ⟨(some 58), .iaddrA 1 3 (.tmp 57) (.const (.int .i64 2)), none⟩, ⟨(some 59), .load false 1 (.tmp 58), none⟩, ⟨(some 60), .call (.func 9) [(.tmp 59), (.const (.int .i64 6))], none⟩, ⟨(some 10), .mv (.tmp 60), none⟩])
 (.seq (.ops [⟨(some 61), .mv (.tmp 0), none⟩, ⟨(some 62), .mv (.tmp 8), none⟩, ⟨(some 63), .iaddrS 4 (.tmp 61) (.tmp 62), none⟩, ⟨(some 64), .faddr 3 (.tmp 63), none⟩, ⟨(some 65), .load false 1 (.tmp 64), none⟩, ⟨(some 11), .mv (.tmp 65), none⟩])
 (.seq (.ops [⟨(some 12), .mv (.const (.bool false)), none⟩])
 (.seq (.seq (.ops [⟨(some 66), .mv (.tmp 0), none⟩, ⟨(some 67), .mv (.tmp 8), none⟩, ⟨(some 68), .iaddrS 4 (.tmp 66) (.tmp 67), none⟩, ⟨(some 69), .faddr 0 (.tmp 68), none⟩, ⟨(some 70), .iaddrA 1 3 (.tmp 69) (.const (.int .i64 0)), none⟩, ⟨(some 71), .load false 1 (.tmp 70), none⟩, ⟨(some 72), .call (.func 9) [(.tmp 71), (.const (.int .i64 6))], none⟩])
 (.block 2 (.seq (.ops [⟨(some 82), .bin .eql (.tmp 72) (.const (.int .i64 0)), none⟩, ⟨(some 81), .mv (.tmp 82), none⟩])
 (.cond (.tmp 81) (.seq (.ops [⟨(some 84), .mv (.tmp 10), none⟩, ⟨(some 85), .call (.func 15) [(.tmp 4), (.tmp 84)], none⟩, ⟨(some 83), .mv (.tmp 85), none⟩, ⟨(some 86), .ext (.tmp 83) 0, none⟩, ⟨(some 87), .ext (.tmp 83) 1, none⟩, ⟨(some 13), .mv (.tmp 86), none⟩, ⟨(some 14), .mv (.tmp 87), none⟩])
 (.seq (.ops [⟨(some 88), .mv (.tmp 13), none⟩, ⟨(some 89), .mv (.tmp 10), none⟩, ⟨(some 90), .iaddrA 1 6 (.tmp 6) (.tmp 89), none⟩, ⟨(some 91), .load false 1 (.tmp 90), none⟩, ⟨(some 92), .bin .neq (.tmp 88) (.tmp 91), none⟩, ⟨(some 93), .mv (.tmp 92), none⟩, ⟨(some 94), .mv (.tmp 14), (some (93, false))⟩, ⟨(some 95), .bin .neq (.tmp 94) (.const (.int .i64 0)), (some (93, false))⟩, ⟨(some 96), .pick (.tmp 93) (.const (.bool true)) (.tmp 95), none⟩])
 (.cond (.tmp 96) (.seq (.ops [⟨(some 2), .mv (.const (.bool false)), none⟩])
 .ret)
 .skip)))
 (.seq (.ops [⟨(some 98), .bin .eql (.tmp 72) (.const (.int .i64 1)), none⟩, ⟨(some 97), .mv (.tmp 98), none⟩])
 (.cond (.tmp 97) (.seq (.seq (.ops [⟨(some 99), .mv (.tmp 10), none⟩, ⟨(some 100), .mv (.tmp 11), none⟩, ⟨(some 101), .call (.func 16) [(.tmp 4), (.tmp 99), (.tmp 100)], none⟩, ⟨(some 102), .bin .neq (.tmp 101) (.const (.int .i64 0)), none⟩])
 (.cond (.tmp 102) (.seq (.ops [⟨(some 2), .mv (.const (.bool false)), none⟩])
 .ret)
 .skip))
 (.ops [⟨(some 12), .mv (.const (.bool true)), none⟩]))
 (.seq (.ops [⟨(some 104), .bin .eql (.tmp 72) (.const (.int .i64 2)), none⟩, ⟨(some 103), .mv (.tmp 104), none⟩])
 (.cond (.tmp 103) (.seq (.ops [⟨(some 106), .mv (.tmp 9), none⟩, ⟨(some 107), .mv (.tmp 10), none⟩, ⟨(some 108), .call (.func 17) [(.tmp 4), (.tmp 106), (.tmp 107)], none⟩, ⟨(some 105), .mv (.tmp 108), none⟩, ⟨(some 109), .ext (.tmp 105) 0, none⟩, ⟨(some 110), .ext (.tmp 105) 1, none⟩, ⟨(some 15), .mv (.tmp 109), none⟩, ⟨(some 16), .mv (.tmp 110), none⟩])
 (.seq (.seq (.ops [⟨(some 111), .mv (.tmp 15), none⟩, ⟨(some 112), .mv (.tmp 10), none⟩, ⟨(some 113), .iaddrA 1 6 (.tmp 6) (.tmp 112), none⟩, ⟨(some 114), .load false 1 (.tmp 113), none⟩, ⟨(some 115), .bin .neq (.tmp 111) (.tmp 114), none⟩, ⟨(some 116), .mv (.tmp 115), none⟩, ⟨(some 117), .mv (.tmp 16), (some (116, false))⟩, ⟨(some 118), .bin .neq (.tmp 117) (.const (.int .i64 0)), (some (116, false))⟩, ⟨(some 119), .pick (.tmp 116) (.const (.bool true)) (.tmp 118), none⟩])
 (.cond (.tmp 119) (.seq (.ops [⟨(some 2), .mv (.const (.bool false)), none⟩])
 .ret)
 .skip))
 (.ops [⟨(some 120), .mv (.tmp 10), none⟩, ⟨(some 121), .mv (.tmp 9), none⟩, ⟨(some 122), .iaddrA 16 6 (.tmp 7) (.tmp 120), none⟩, ⟨(some 123), .iaddrA 1 16 (.tmp 122) (.tmp 121), none⟩, ⟨none, .store 1 (.tmp 123) (.const (.bool true)), none⟩])))
 (.seq (.ops [⟨(some 125), .bin .eql (.tmp 72) (.const (.int .i64 3)), none⟩, ⟨(some 124), .mv (.tmp 125), none⟩])
 (.cond (.tmp 124) (.seq (.ops [⟨(some 127), .mv (.tmp 9), none⟩, ⟨(some 128), .mv (.tmp 10), none⟩, ⟨(some 129), .call (.func 18) [(.tmp 4), (.tmp 127), (.tmp 128)], none⟩, ⟨(some 126), .mv (.tmp 129), none⟩, ⟨(some 130), .ext (.tmp 126) 0, none⟩, ⟨(some 131), .ext (.tmp 126) 1, none⟩, ⟨(some 17), .mv (.tmp 130), none⟩, ⟨(some 18), .mv (.tmp 131), none⟩])
 (.seq (.ops [⟨(some 132), .mv (.tmp 17), none⟩, ⟨(some 133), .mv (.tmp 10), none⟩, ⟨(some 134), .mv (.tmp 9), none⟩, ⟨(some 135), .iaddrA 16 6 (.tmp 7) (.tmp 133), none⟩, ⟨(some 136), .iaddrA 1 16 (.tmp 135) (.tmp 134), none⟩, ⟨(some 137), .load false 1 (.tmp 136), none⟩, ⟨(some 138), .eqb true (.tmp 132) (.tmp 137), none⟩, ⟨(some 139), .mv (.tmp 138), none⟩, ⟨(some 140), .mv (.tmp 18), (some (139, false))⟩, ⟨(some 141), .bin .neq (.tmp 140) (.const (.int .i64 0)), (some (139, false))⟩, ⟨(some 142), .pick (.tmp 139) (.const (.bool true)) (.tmp 141), none⟩])
 (.cond (.tmp 142) (.seq (.ops [⟨(some 2), .mv (.const (.bool false)), none⟩])
 .ret)
 .skip)))
 (.seq (.ops [⟨(some 144), .bin .eql (.tmp 72) (.const (.int .i64 4)), none⟩, ⟨(some 143), .mv (.tmp 144), none⟩])
 (.cond (.tmp 143) (.seq (.ops [⟨(some 146), .mv (.tmp 9), none⟩, ⟨(some 147), .mv (.tmp 10), none⟩, ⟨(some 148), .mv (.tmp 11), none⟩, ⟨(some 149), .call (.func 19) [(.tmp 4), (.tmp 146), (.tmp 147), (.tmp 148)], none⟩, ⟨(some 145), .mv (.tmp 149), none⟩, ⟨(some 150), .ext (.tmp 145) 0, none⟩, ⟨(some 151), .ext (.tmp 145) 1, none⟩, ⟨(some 19), .mv (.tmp 150), none⟩, ⟨(some 20), .mv (.tmp 151), none⟩])
 (.seq (.seq (.ops [⟨(some 152), .mv (.tmp 19), none⟩, ⟨(some 153), .mv (.tmp 10), none⟩, ⟨(some 154), .mv (.tmp 9), none⟩, ⟨(some 155), .iaddrA 16 6 (.tmp 7) (.tmp 153), none⟩, ⟨(some 156), .iaddrA 1 16 (.tmp 155) (.tmp 154), none⟩, ⟨(some 157), .load false 1 (.tmp 156), none⟩, ⟨(some 158), .eqb true (.tmp 152) (.tmp 157), none⟩, ⟨(some 159), .mv (.tmp 158), none⟩, ⟨(some 160), .mv (.tmp 20), (some (159, false))⟩, ⟨(some 161), .bin .neq (.tmp 160) (.const (.int .i64 0)), (some (159, false))⟩, ⟨(some 162), .pick (.tmp 159) (.const (.bool true)) (.tmp 161), none⟩])
 (.cond (.tmp 162) (.seq (.ops [⟨(some 2), .mv (.const (.bool false)), none⟩])
 .ret)
 .skip))
 (.ops [⟨(some 163), .mv (.tmp 19), none⟩, ⟨(some 12), .mv (.tmp 163), none⟩])))
 (.seq (.seq (.ops [⟨(some 73), .mv (.tmp 9), none⟩, ⟨(some 74), .mv (.tmp 10), none⟩, ⟨(some 75), .call (.func 20) [(.tmp 4), (.tmp 73), (.tmp 74)], none⟩, ⟨(some 76), .bin .neq (.tmp 75) (.const (.int .i64 0)), none⟩])
 (.cond (.tmp 76) (.seq (.ops [⟨(some 2), .mv (.const (.bool false)), none⟩])
 .ret)
 .skip))
 (.ops [⟨(some 77), .mv (.tmp 10), none⟩, ⟨(some 78), .mv (.tmp 9), none⟩, ⟨(some 79), .iaddrA 16 6 (.tmp 7) (.tmp 77), none⟩, ⟨(some 80), .iaddrA 1 16 (.tmp 79) (.tmp 78), none⟩, ⟨none, .store 1 (.tmp 80) (.const (.bool false)), none⟩]))))))))))))))
 (.seq (.seq (.ops [⟨(some 164), .mv (.tmp 12), none⟩])
 (.cond (.tmp 164) (.seq (.ops [⟨(some 165), .mv (.tmp 10), none⟩, ⟨(some 166), .mv (.tmp 11), none⟩, ⟨(some 167), .iaddrA 1 6 (.tmp 6) (.tmp 165), none⟩, ⟨none, .store 1 (.tmp 167) (.tmp 166), none⟩])
 (.ops [⟨(some 168), .mv (.tmp 10), none⟩, ⟨(some 169), .build [(.bool false), (.bool false), (.bool false), (.bool false), (.bool false), (.bool false), (.bool false), (.bool false), (.bool false), (.bool false), (.bool false), (.bool false), (.bool false), (.bool false), (.bool false), (.bool false)] [], none⟩, ⟨(some 170), .iaddrA 16 6 (.tmp 7) (.tmp 168), none⟩, ⟨none, .store 16 (.tmp 170) (.tmp 169), none⟩]))
 .skip))
 (.seq (.ops [⟨(some 21), .mv (.const (.int .i64 0)), none⟩])
 (.block 3 (.loop (.seq (.seq (.ops [⟨(some 171), .mv (.tmp 21), none⟩, ⟨(some 172), .bin .lss (.tmp 171) (.const (.int .i64 6)), none⟩])
 (.cond (.tmp 172) .skip
 (.exit 3)))
 (.seq (.block 4 (.seq (.ops [⟨(some 22), .mv (.const (.int .i64 0)), none⟩])
 (.seq (.seq (.ops [⟨(some 23), .mv (.const (.int .i64 0)), none⟩])
 (.block 5 (.loop (.seq (.seq (.ops [⟨(some 175), .mv (.tmp 23), none⟩, ⟨(some 176), .bin .lss (.tmp 175) (.const (.int .i64 16)), none⟩])
 (.cond (.tmp 176) .skip
 (.exit 5)))
 (.seq (.block 6 (.seq (.ops [⟨(some 179), .mv (.tmp 21), none⟩, ⟨(some 180), .mv (.tmp 23), none⟩, ⟨(some 181), .iaddrA 16 6 (.tmp 7) (.tmp 179), none⟩, ⟨(some 182), .iaddrA 1 16 (.tmp 181) (.tmp 180), none⟩, ⟨(some 183), .load false 1 (.tmp 182), none⟩])
 (.cond (.tmp 183) (.ops [⟨(some 184), .mv (.tmp 22), none⟩, ⟨(some 185), .mv (.tmp 23), none⟩, ⟨(some 186), .bin .shl (.const (.int .i64 1)) (.tmp 185), none⟩, ⟨(some 187), .bin .or (.tmp 184) (.tmp 186), none⟩, ⟨(some 22), .mv (.tmp 187), none⟩])
 .skip)))
 (.ops [⟨(some 177), .mv (.tmp 23), none⟩, ⟨(some 178), .bin .add (.tmp 177) (.const (.int .i64 1)), none⟩, ⟨(some 23), .mv (.tmp 178), none⟩]))))))
 (.seq (.draw [⟨⟨(some 188), .faddr 0 (.tmp 4), none⟩, []⟩, ⟨⟨(some 189), .load false 1 (.tmp 188), none⟩, []⟩, ⟨⟨(some 190), .mv (.tmp 21), none⟩, []⟩, ⟨⟨(some 191), .iaddrS 2 (.tmp 189) (.tmp 190), none⟩, []⟩, ⟨⟨(some 192), .load true 2 (.tmp 191), none⟩, []⟩, ⟨⟨(some 193), .mv (.tmp 21), none⟩, []⟩, ⟨⟨(some 194), .iaddrA 1 6 (.tmp 6) (.tmp 193), none⟩, []⟩, ⟨⟨(some 195), .load false 1 (.tmp 194), none⟩, []⟩, ⟨⟨(some 196), .mv (.tmp 22), none⟩, []⟩, ⟨⟨(some 197), .build [(.int .u64 0), (.int .i64 0)] [(0, 1, (.tmp 195)), (1, 1, (.tmp 196))], none⟩, []⟩, ⟨⟨(some 198), .eqA true [.int, .int] (.tmp 192) (.tmp 197), none⟩, []⟩])
 (.cond (.tmp 198) (.seq (.ops [⟨(some 2), .mv (.const (.bool false)), none⟩])
 .ret)
 .skip)))))
 (.ops [⟨(some 173), .mv (.tmp 21), none⟩, ⟨(some 174), .bin .add (.tmp 173) (.const (.int .i64 1)), none⟩, ⟨(some 21), .mv (.tmp 174), none⟩])))))))))))))
 (.ops [⟨(some 45), .mv (.tmp 8), none⟩, ⟨(some 46), .bin .add (.tmp 45) (.const (.int .i64 1)), none⟩, ⟨(some 8), .mv (.tmp 46), none⟩]))))))
 (.seq (.ops [⟨(some 199), .mv (.tmp 3), none⟩, ⟨(some 2), .mv (.tmp 199), none⟩])
 .ret)))))))),
 200, [.tmp 2]⟩
theorem low4 : lowerFn Try.prog Try.f4 = some L4 := by kernel_rfl
noncomputable def G4 (B : OH) : Nat → Cs
  | 8 => V8 B
  | 9 => V9 B
  | 10 => V10 B
  | 15 => V15 B
  | 16 => V16 B
  | 17 => V17 B
  | 18 => V18 B
  | 19 => V19 B
  | 20 => V20 B
  | _ => fun _ _ _ => none
theorem G4_8 {B : OH} : G4 B 8 = V8 B := rfl
theorem G4_9 {B : OH} : G4 B 9 = V9 B := rfl
theorem G4_10 {B : OH} : G4 B 10 = V10 B := rfl
theorem G4_15 {B : OH} : G4 B 15 = V15 B := rfl
theorem G4_16 {B : OH} : G4 B 16 = V16 B := rfl
theorem G4_17 {B : OH} : G4 B 17 = V17 B := rfl
theorem G4_18 {B : OH} : G4 B 18 = V18 B := rfl
theorem G4_19 {B : OH} : G4 B 19 = V19 B := rfl
theorem G4_20 {B : OH} : G4 B 20 = V20 B := rfl
theorem sG4 {w0 : World} {B : OH} : SoundG Try.prog w0 B (G4 B) := fun k => by
  unfold G4
  split
  · exact .inr ⟨en8, sV8⟩
  · exact .inr ⟨en9, sV9⟩
  · exact .inr ⟨en10, sV10⟩
  · exact .inr ⟨en15, sV15⟩
  · exact .inr ⟨en16, sV16⟩
  · exact .inr ⟨en17, sV17⟩
  · exact .inr ⟨en18, sV18⟩
  · exact .inr ⟨en19, sV19⟩
  · exact .inr ⟨en20, sV20⟩
  · exact .inl fun _ _ _ => rfl
theorem en4 : Enter Try.prog 4 := .of Try.func4 (by kernel_rfl) (by kernel_rfl)
noncomputable def T4 (B : OH) : Cs := callF B (G4 B) 400 L4
theorem sT4 {w0 : World} {B : OH} : SoundC Try.prog w0 B 4 (T4 B) := callF_sound mixedOrders sG4 400 Try.func4 low4
def KB4 : LC := (.loop (.seq (.seq (.ops [⟨(some 171), .mv (.tmp 21), none⟩, ⟨(some 172), .bin .lss (.tmp 171) (.const (.int .i64 6)), none⟩])
 (.cond (.tmp 172) .skip
 (.exit 3)))
 (.seq (.block 4 (.seq (.ops [⟨(some 22), .mv (.const (.int .i64 0)), none⟩])
 (.seq (.seq (.ops [⟨(some 23), .mv (.const (.int .i64 0)), none⟩])
 (.block 5 (.loop (.seq (.seq (.ops [⟨(some 175), .mv (.tmp 23), none⟩, ⟨(some 176), .bin .lss (.tmp 175) (.const (.int .i64 16)), none⟩])
 (.cond (.tmp 176) .skip
 (.exit 5)))
 (.seq (.block 6 (.seq (.ops [⟨(some 179), .mv (.tmp 21), none⟩, ⟨(some 180), .mv (.tmp 23), none⟩, ⟨(some 181), .iaddrA 16 6 (.tmp 7) (.tmp 179), none⟩, ⟨(some 182), .iaddrA 1 16 (.tmp 181) (.tmp 180), none⟩, ⟨(some 183), .load false 1 (.tmp 182), none⟩])
 (.cond (.tmp 183) (.ops [⟨(some 184), .mv (.tmp 22), none⟩, ⟨(some 185), .mv (.tmp 23), none⟩, ⟨(some 186), .bin .shl (.const (.int .i64 1)) (.tmp 185), none⟩, ⟨(some 187), .bin .or (.tmp 184) (.tmp 186), none⟩, ⟨(some 22), .mv (.tmp 187), none⟩])
 .skip)))
 (.ops [⟨(some 177), .mv (.tmp 23), none⟩, ⟨(some 178), .bin .add (.tmp 177) (.const (.int .i64 1)), none⟩, ⟨(some 23), .mv (.tmp 178), none⟩]))))))
 (.seq (.draw [⟨⟨(some 188), .faddr 0 (.tmp 4), none⟩, []⟩, ⟨⟨(some 189), .load false 1 (.tmp 188), none⟩, []⟩, ⟨⟨(some 190), .mv (.tmp 21), none⟩, []⟩, ⟨⟨(some 191), .iaddrS 2 (.tmp 189) (.tmp 190), none⟩, []⟩, ⟨⟨(some 192), .load true 2 (.tmp 191), none⟩, []⟩, ⟨⟨(some 193), .mv (.tmp 21), none⟩, []⟩, ⟨⟨(some 194), .iaddrA 1 6 (.tmp 6) (.tmp 193), none⟩, []⟩, ⟨⟨(some 195), .load false 1 (.tmp 194), none⟩, []⟩, ⟨⟨(some 196), .mv (.tmp 22), none⟩, []⟩, ⟨⟨(some 197), .build [(.int .u64 0), (.int .i64 0)] [(0, 1, (.tmp 195)), (1, 1, (.tmp 196))], none⟩, []⟩, ⟨⟨(some 198), .eqA true [.int, .int] (.tmp 192) (.tmp 197), none⟩, []⟩])
 (.cond (.tmp 198) (.seq (.ops [⟨(some 2), .mv (.const (.bool false)), none⟩])
 .ret)
 .skip)))))
 (.ops [⟨(some 173), .mv (.tmp 21), none⟩, ⟨(some 174), .bin .add (.tmp 173) (.const (.int .i64 1)), none⟩, ⟨(some 21), .mv (.tmp 174), none⟩]))))
set_option maxHeartbeats 8000000 in
theorem kloop {B : OH} (ad : Option Addr) (len cap : Nat) (Z : List Zc) (hZ : Z.length = 6) (ts : List Value) (i8 : Value) (H : HL) (N : St) (hN : good B H N) (kp : Kq B N ad len cap ts) (t8 : gt ts 8 = i8) (t21 : gt ts 21 = .int .i64 0) : ∀ F, 200 ≤ F → Ok (exec B (G4 B) F KB4 ⟨ts, JH N H Z, JN N⟩) (fun x s => x = .exit 3 ∧ ∃ ts, s = ⟨ts, JH N H Z, JN N⟩ ∧ Kq B N ad len cap ts ∧ gt ts 8 = i8) := by
  intro F hF
  have hG : ∃ H N, good B H N := ⟨H, N, hN⟩
  have hB := good_B hN
  have hR := good_rdB hN
  have hI := beqN hN.1.1
  unfold KB4
  refine loop_rule (n0 := 100) (fun k s => ∃ ts, ∃ i : Nat, s = ⟨ts, JH N H Z, JN N⟩ ∧ Kq B N ad len cap ts ∧ gt ts 8 = i8 ∧ gt ts 21 = .int .i64 (i : Int) ∧ i ≤ 6 ∧ k = 6 - i) _ ?_ 6 _ ⟨ts, 0, rfl, kp, t8, t21, by omega, rfl⟩ _ (by omega)
  clear t8 t21 kp ts
  rintro n k s ⟨ts, i, rfl, kp, t8, t21, hi, rfl⟩
  have hc : ((i + 1 : Nat) : Int) = (i : Int) + 1 := by omega
  by_cases h : i < 6
  · have h' : (i : Int) < 6 := by omega
    have i0 : (0 : Int) ≤ (i : Int) := by omega
    have hiZ : i < Z.length := by omega
    have hc2 : tk (fcs (Z.map zL)) (i * 2) 2 = some [.int .u64 (Z.getD i z0).1, .int .i64 (mk (Z.getD i z0).2 16)] := by
      rw [tk_c (by simpa using hiZ), getD_map zL Z i z0 _ hiZ]; rfl
    simp -implicitDefEqProofs (maxSteps := 10000000) (disch := omega) only [T4, L4, G4_8, V8_eq, G4_9, V9_eq, G4_10, V10, T10, L10, G4_15, V15_eq, G4_16, V16_eq, G4_17, V17_eq, G4_18, V18_eq, G4_19, V19_eq, G4_20, V20_eq, hB, hR, hI, kp.l, kp.t0, kp.t3, kp.t4, kp.t6, kp.t7, gtst, st_len, t8, t21, h', h, i0, pad, e_skip, e_ops, e_draw, d_none, d_nil, d_cons, d_ite, h_none, h_nil, h_cons, h_ite, eqS_same, lightV, e_seq, e_cond, e_block, e_exit, e_ret, s_normal, s_ret, s_exit, s_none, s_ite, b_normal, b_ret, b_exit, b_none, b_ite, c_bool, x_none, x_nil, x_cons, x_ite, p_some, p_none, p_ite, pt_some, pt_none, pv_some, pv_none, pv_ite, w_none, w_some, i_bool, i_undef, bt, bf, v_tmp, v_const, v_global, v_func, evs, f_normal, f_ret, f_none, f_ite, r_some, co_some, l_ptr, m_agg, m_one, sh_app, lk_nil, lk_cons, rd_eq, rdO_some, rdO_none, rdN_none, rdL_some, rdL_none, wrB_none, unitR_some, wr_nil, wr_here, wr_skip, k_cells, tk_zero, tk_take, tk_skip, tkC_some, call_func, gt, st, binV, arith, isSh, storeV, all1, idxAV, fieldV, faddrV, iaddrSV, iaddrAV, pickV, convV, unV, eqbV, eqpV, extV, lenV, mm2, mmV, nilckV, ress, res1, retV, Value.cells, cond_true, cond_false, Bool.true_or, Bool.false_or, Bool.or_true, Bool.or_false, beq_self_eq_true, if_true, if_false, ite_true, ite_false, decide_true, decide_false, decide_eq_true_eq, reduceIte, Nat.zero_add, Nat.add_zero, and_self, true_and, and_true, List.size_toArray, List.length_cons, List.length_nil, List.append_nil, List.nil_append, Int.toNat_zero, Bool.not_false, Bool.not_true, Bool.not_not, Bool.false_eq_true, Bool.true_eq_false, reduceCtorEq, Int.reduceLT, Int.reduceLE, Int.reduceToNat, Int.reduceAdd, Int.reduceSub, Int.reduceMul, Int.reduceNeg, Nat.reduceMul, Nat.reduceAdd, Nat.reduceSub, Nat.reduceBEq, Nat.reduceEqDiff, Nat.reduceLT, Nat.reduceLeDiff, Int.reduceBEq, Int.reduceEq, Nat.reducePow, Int.reducePow, IntWalk.i64_in, IntKind.bits, eqAV, eqL, leafEq, andO, fillV, buildSV, List.getElem?_toArray, List.getElem?_cons_zero, List.getElem?_cons_succ, List.getElem?_nil, Int.reduceGT, Int.reduceGE, Int.reduceBNe, Bool.true_and, Bool.and_true, Bool.false_and, Bool.and_false, Bool.and_self, IntWalk.u64_in, Int.cast_ofNat_Int, callF1, pad16, pad_0, pad_1, pad_2, pad_3, pad_4, pad_5, pad_6, pad_7, pad_8, pad_9, pad_10, pad_11, pad_12, pad_13, pad_14, pad_15, gc0, gc1, gc2, gc3, gc4, gc5, gc6, gc7, gc8, gc9, gc10, gc11, gc12, gc13, gc14, gc15, gcS, sc0, sc1, sc2, sc3, sc4, sc5, sc6, sc7, sc8, sc9, sc10, sc11, sc12, sc13, sc14, sc15, scS, List.drop_succ_cons, List.drop_nil, x_pan, s_pan, b_pan, pE_ret, pE_pan, pE_none, pE_ite, pvE_some, pvE_none, pvE_ite, rv_some, rv_none, rv_ite, oR_ret, t_mv, t_pick, t_alloc, t_box, t_build, t_buildS, t_load, t_store, t_nilck, t_bin, t_eqb, t_eqA, t_eqp, t_un, t_conv, t_field, t_idxA, t_faddr, t_iaddrS, t_iaddrA, t_ext, t_len, t_mm, t_call, t_ifc, t_fn, t_slc, t_slcA, t_slcT, t_tass, t_isn, t_mks, t_app, t_pan, panE_i, optE_none, optE_some, bnd_none, bnd_int, slA_none, slA_some, appR_some, appOld_cells, newsV_s, newsV_n, lenS_s, appV_nil, appV_some, mksV_i, sh_c, sh_g, f_pan, endD_ret, dfr_normal, dfr_ret, dfr_pan, restD_normal, callD1, callC1, tassV, isnV, slcV, slcAV, slcTV, slcB, appNew, Option.bind_some, Option.bind_none, d_pan, h_pan, wrH_eq, wrX_cells, wrU_some, upH_nil, upH_cons, lk_upH, effR_some, effR_none, effR_ite, Option.isNone_none, Option.isNone_some, slA_zero]
    generalize hX : exec B (G4 B) _ (LC.loop _) _ = o
    have hO : Ok o (fun x s => x = .exit 5 ∧ ∃ ts, s = ⟨ts, JH N H Z, JN N⟩ ∧ Kq B N ad len cap ts ∧ gt ts 8 = i8 ∧ gt ts 21 = .int .i64 (i : Int) ∧ gt ts 22 = .int .i64 (mk (Z.getD i z0).2 16)) := by
      rw [← hX]
      refine loop_rule (n0 := 50) (fun k s => ∃ ts, ∃ j : Nat, s = ⟨ts, JH N H Z, JN N⟩ ∧ Kq B N ad len cap ts ∧ gt ts 8 = i8 ∧ gt ts 21 = .int .i64 (i : Int) ∧ gt ts 22 = .int .i64 (mk (Z.getD i z0).2 j) ∧ gt ts 23 = .int .i64 (j : Int) ∧ j ≤ 16 ∧ k = 16 - j) _ ?_ 16 _ ⟨_, 0, rfl, ⟨?_, ?_, ?_, ?_, ?_, ?_⟩, ?_, ?_, ?_, ?_, by omega, rfl⟩ _ (by omega)
      rotate_left
      iterate 10 simp -implicitDefEqProofs (maxSteps := 10000000) (disch := omega) only [T4, L4, G4_8, V8_eq, G4_9, V9_eq, G4_10, V10, T10, L10, G4_15, V15_eq, G4_16, V16_eq, G4_17, V17_eq, G4_18, V18_eq, G4_19, V19_eq, G4_20, V20_eq, hB, hR, hI, kp.l, kp.t0, kp.t3, kp.t4, kp.t6, kp.t7, gtst, st_len, t8, t21, show mk (Z.getD i z0).2 0 = 0 from rfl, show ((0 : Nat) : Int) = 0 from rfl, pad, e_skip, e_ops, e_draw, d_none, d_nil, d_cons, d_ite, h_none, h_nil, h_cons, h_ite, eqS_same, lightV, e_seq, e_cond, e_block, e_exit, e_ret, s_normal, s_ret, s_exit, s_none, s_ite, b_normal, b_ret, b_exit, b_none, b_ite, c_bool, x_none, x_nil, x_cons, x_ite, p_some, p_none, p_ite, pt_some, pt_none, pv_some, pv_none, pv_ite, w_none, w_some, i_bool, i_undef, bt, bf, v_tmp, v_const, v_global, v_func, evs, f_normal, f_ret, f_none, f_ite, r_some, co_some, l_ptr, m_agg, m_one, sh_app, lk_nil, lk_cons, rd_eq, rdO_some, rdO_none, rdN_none, rdL_some, rdL_none, wrB_none, unitR_some, wr_nil, wr_here, wr_skip, k_cells, tk_zero, tk_take, tk_skip, tkC_some, call_func, gt, st, binV, arith, isSh, storeV, all1, idxAV, fieldV, faddrV, iaddrSV, iaddrAV, pickV, convV, unV, eqbV, eqpV, extV, lenV, mm2, mmV, nilckV, ress, res1, retV, Value.cells, cond_true, cond_false, Bool.true_or, Bool.false_or, Bool.or_true, Bool.or_false, beq_self_eq_true, if_true, if_false, ite_true, ite_false, decide_true, decide_false, decide_eq_true_eq, reduceIte, Nat.zero_add, Nat.add_zero, and_self, true_and, and_true, List.size_toArray, List.length_cons, List.length_nil, List.append_nil, List.nil_append, Int.toNat_zero, Bool.not_false, Bool.not_true, Bool.not_not, Bool.false_eq_true, Bool.true_eq_false, reduceCtorEq, Int.reduceLT, Int.reduceLE, Int.reduceToNat, Int.reduceAdd, Int.reduceSub, Int.reduceMul, Int.reduceNeg, Nat.reduceMul, Nat.reduceAdd, Nat.reduceSub, Nat.reduceBEq, Nat.reduceEqDiff, Nat.reduceLT, Nat.reduceLeDiff, Int.reduceBEq, Int.reduceEq, Nat.reducePow, Int.reducePow, IntWalk.i64_in, IntKind.bits, eqAV, eqL, leafEq, andO, fillV, buildSV, List.getElem?_toArray, List.getElem?_cons_zero, List.getElem?_cons_succ, List.getElem?_nil, Int.reduceGT, Int.reduceGE, Int.reduceBNe, Bool.true_and, Bool.and_true, Bool.false_and, Bool.and_false, Bool.and_self, IntWalk.u64_in, Int.cast_ofNat_Int, callF1, pad16, pad_0, pad_1, pad_2, pad_3, pad_4, pad_5, pad_6, pad_7, pad_8, pad_9, pad_10, pad_11, pad_12, pad_13, pad_14, pad_15, gc0, gc1, gc2, gc3, gc4, gc5, gc6, gc7, gc8, gc9, gc10, gc11, gc12, gc13, gc14, gc15, gcS, sc0, sc1, sc2, sc3, sc4, sc5, sc6, sc7, sc8, sc9, sc10, sc11, sc12, sc13, sc14, sc15, scS, List.drop_succ_cons, List.drop_nil, x_pan, s_pan, b_pan, pE_ret, pE_pan, pE_none, pE_ite, pvE_some, pvE_none, pvE_ite, rv_some, rv_none, rv_ite, oR_ret, t_mv, t_pick, t_alloc, t_box, t_build, t_buildS, t_load, t_store, t_nilck, t_bin, t_eqb, t_eqA, t_eqp, t_un, t_conv, t_field, t_idxA, t_faddr, t_iaddrS, t_iaddrA, t_ext, t_len, t_mm, t_call, t_ifc, t_fn, t_slc, t_slcA, t_slcT, t_tass, t_isn, t_mks, t_app, t_pan, panE_i, optE_none, optE_some, bnd_none, bnd_int, slA_none, slA_some, appR_some, appOld_cells, newsV_s, newsV_n, lenS_s, appV_nil, appV_some, mksV_i, sh_c, sh_g, f_pan, endD_ret, dfr_normal, dfr_ret, dfr_pan, restD_normal, callD1, callC1, tassV, isnV, slcV, slcAV, slcTV, slcB, appNew, Option.bind_some, Option.bind_none, d_pan, h_pan, wrH_eq, wrX_cells, wrU_some, upH_nil, upH_cons, lk_upH, effR_some, effR_none, effR_ite, Option.isNone_none, Option.isNone_some, slA_zero]
      clear kp t8 t21 hX
      rintro n k s ⟨ts, j, rfl, kp, t8, t21, t22, t23, hj, rfl⟩
      have hc : ((j + 1 : Nat) : Int) = (j : Int) + 1 := by omega
      by_cases hj' : j < 16
      · have g' : (j : Int) < 16 := by omega
        have j0 : (0 : Int) ≤ (j : Int) := by omega
        have j2 : ¬ (j : Int) < 0 := by omega
        cases hb : (Z.getD i z0).2 j with
        | false =>
          have hs : mk (Z.getD i z0).2 (j + 1) = mk (Z.getD i z0).2 j := if_neg (by rw [hb]; decide)
          simp -implicitDefEqProofs (maxSteps := 10000000) (disch := omega) only [T4, L4, G4_8, V8_eq, G4_9, V9_eq, G4_10, V10, T10, L10, G4_15, V15_eq, G4_16, V16_eq, G4_17, V17_eq, G4_18, V18_eq, G4_19, V19_eq, G4_20, V20_eq, hB, hR, hI, kp.l, kp.t0, kp.t3, kp.t4, kp.t6, kp.t7, gtst, st_len, t8, t21, t22, t23, h', h, g', hj', i0, j0, j2, tk_r hiZ hj', hb, Int.toNat_natCast, Nat.mul_one, pad, e_skip, e_ops, e_draw, d_none, d_nil, d_cons, d_ite, h_none, h_nil, h_cons, h_ite, eqS_same, lightV, e_seq, e_cond, e_block, e_exit, e_ret, s_normal, s_ret, s_exit, s_none, s_ite, b_normal, b_ret, b_exit, b_none, b_ite, c_bool, x_none, x_nil, x_cons, x_ite, p_some, p_none, p_ite, pt_some, pt_none, pv_some, pv_none, pv_ite, w_none, w_some, i_bool, i_undef, bt, bf, v_tmp, v_const, v_global, v_func, evs, f_normal, f_ret, f_none, f_ite, r_some, co_some, l_ptr, m_agg, m_one, sh_app, lk_nil, lk_cons, rd_eq, rdO_some, rdO_none, rdN_none, rdL_some, rdL_none, wrB_none, unitR_some, wr_nil, wr_here, wr_skip, k_cells, tk_zero, tk_take, tk_skip, tkC_some, call_func, gt, st, binV, arith, isSh, storeV, all1, idxAV, fieldV, faddrV, iaddrSV, iaddrAV, pickV, convV, unV, eqbV, eqpV, extV, lenV, mm2, mmV, nilckV, ress, res1, retV, Value.cells, cond_true, cond_false, Bool.true_or, Bool.false_or, Bool.or_true, Bool.or_false, beq_self_eq_true, if_true, if_false, ite_true, ite_false, decide_true, decide_false, decide_eq_true_eq, reduceIte, Nat.zero_add, Nat.add_zero, and_self, true_and, and_true, List.size_toArray, List.length_cons, List.length_nil, List.append_nil, List.nil_append, Int.toNat_zero, Bool.not_false, Bool.not_true, Bool.not_not, Bool.false_eq_true, Bool.true_eq_false, reduceCtorEq, Int.reduceLT, Int.reduceLE, Int.reduceToNat, Int.reduceAdd, Int.reduceSub, Int.reduceMul, Int.reduceNeg, Nat.reduceMul, Nat.reduceAdd, Nat.reduceSub, Nat.reduceBEq, Nat.reduceEqDiff, Nat.reduceLT, Nat.reduceLeDiff, Int.reduceBEq, Int.reduceEq, Nat.reducePow, Int.reducePow, IntWalk.i64_in, IntKind.bits, eqAV, eqL, leafEq, andO, fillV, buildSV, List.getElem?_toArray, List.getElem?_cons_zero, List.getElem?_cons_succ, List.getElem?_nil, Int.reduceGT, Int.reduceGE, Int.reduceBNe, Bool.true_and, Bool.and_true, Bool.false_and, Bool.and_false, Bool.and_self, IntWalk.u64_in, Int.cast_ofNat_Int, callF1, pad16, pad_0, pad_1, pad_2, pad_3, pad_4, pad_5, pad_6, pad_7, pad_8, pad_9, pad_10, pad_11, pad_12, pad_13, pad_14, pad_15, gc0, gc1, gc2, gc3, gc4, gc5, gc6, gc7, gc8, gc9, gc10, gc11, gc12, gc13, gc14, gc15, gcS, sc0, sc1, sc2, sc3, sc4, sc5, sc6, sc7, sc8, sc9, sc10, sc11, sc12, sc13, sc14, sc15, scS, List.drop_succ_cons, List.drop_nil, x_pan, s_pan, b_pan, pE_ret, pE_pan, pE_none, pE_ite, pvE_some, pvE_none, pvE_ite, rv_some, rv_none, rv_ite, oR_ret, t_mv, t_pick, t_alloc, t_box, t_build, t_buildS, t_load, t_store, t_nilck, t_bin, t_eqb, t_eqA, t_eqp, t_un, t_conv, t_field, t_idxA, t_faddr, t_iaddrS, t_iaddrA, t_ext, t_len, t_mm, t_call, t_ifc, t_fn, t_slc, t_slcA, t_slcT, t_tass, t_isn, t_mks, t_app, t_pan, panE_i, optE_none, optE_some, bnd_none, bnd_int, slA_none, slA_some, appR_some, appOld_cells, newsV_s, newsV_n, lenS_s, appV_nil, appV_some, mksV_i, sh_c, sh_g, f_pan, endD_ret, dfr_normal, dfr_ret, dfr_pan, restD_normal, callD1, callC1, tassV, isnV, slcV, slcAV, slcTV, slcB, appNew, Option.bind_some, Option.bind_none, d_pan, h_pan, wrH_eq, wrX_cells, wrU_some, upH_nil, upH_cons, lk_upH, effR_some, effR_none, effR_ite, Option.isNone_none, Option.isNone_some, slA_zero]
          refine ok_some (.inl ⟨rfl, 16 - (j + 1), by omega, _, j + 1, rfl, ⟨?_, ?_, ?_, ?_, ?_, ?_⟩, ?_, ?_, ?_, ?_, by omega, rfl⟩)
          all_goals simp -implicitDefEqProofs (maxSteps := 10000000) (disch := omega) only [T4, L4, G4_8, V8_eq, G4_9, V9_eq, G4_10, V10, T10, L10, G4_15, V15_eq, G4_16, V16_eq, G4_17, V17_eq, G4_18, V18_eq, G4_19, V19_eq, G4_20, V20_eq, hB, hR, hI, kp.l, kp.t0, kp.t3, kp.t4, kp.t6, kp.t7, gtst, st_len, t8, t21, t22, t23, hc, hs, pad, e_skip, e_ops, e_draw, d_none, d_nil, d_cons, d_ite, h_none, h_nil, h_cons, h_ite, eqS_same, lightV, e_seq, e_cond, e_block, e_exit, e_ret, s_normal, s_ret, s_exit, s_none, s_ite, b_normal, b_ret, b_exit, b_none, b_ite, c_bool, x_none, x_nil, x_cons, x_ite, p_some, p_none, p_ite, pt_some, pt_none, pv_some, pv_none, pv_ite, w_none, w_some, i_bool, i_undef, bt, bf, v_tmp, v_const, v_global, v_func, evs, f_normal, f_ret, f_none, f_ite, r_some, co_some, l_ptr, m_agg, m_one, sh_app, lk_nil, lk_cons, rd_eq, rdO_some, rdO_none, rdN_none, rdL_some, rdL_none, wrB_none, unitR_some, wr_nil, wr_here, wr_skip, k_cells, tk_zero, tk_take, tk_skip, tkC_some, call_func, gt, st, binV, arith, isSh, storeV, all1, idxAV, fieldV, faddrV, iaddrSV, iaddrAV, pickV, convV, unV, eqbV, eqpV, extV, lenV, mm2, mmV, nilckV, ress, res1, retV, Value.cells, cond_true, cond_false, Bool.true_or, Bool.false_or, Bool.or_true, Bool.or_false, beq_self_eq_true, if_true, if_false, ite_true, ite_false, decide_true, decide_false, decide_eq_true_eq, reduceIte, Nat.zero_add, Nat.add_zero, and_self, true_and, and_true, List.size_toArray, List.length_cons, List.length_nil, List.append_nil, List.nil_append, Int.toNat_zero, Bool.not_false, Bool.not_true, Bool.not_not, Bool.false_eq_true, Bool.true_eq_false, reduceCtorEq, Int.reduceLT, Int.reduceLE, Int.reduceToNat, Int.reduceAdd, Int.reduceSub, Int.reduceMul, Int.reduceNeg, Nat.reduceMul, Nat.reduceAdd, Nat.reduceSub, Nat.reduceBEq, Nat.reduceEqDiff, Nat.reduceLT, Nat.reduceLeDiff, Int.reduceBEq, Int.reduceEq, Nat.reducePow, Int.reducePow, IntWalk.i64_in, IntKind.bits, eqAV, eqL, leafEq, andO, fillV, buildSV, List.getElem?_toArray, List.getElem?_cons_zero, List.getElem?_cons_succ, List.getElem?_nil, Int.reduceGT, Int.reduceGE, Int.reduceBNe, Bool.true_and, Bool.and_true, Bool.false_and, Bool.and_false, Bool.and_self, IntWalk.u64_in, Int.cast_ofNat_Int, callF1, pad16, pad_0, pad_1, pad_2, pad_3, pad_4, pad_5, pad_6, pad_7, pad_8, pad_9, pad_10, pad_11, pad_12, pad_13, pad_14, pad_15, gc0, gc1, gc2, gc3, gc4, gc5, gc6, gc7, gc8, gc9, gc10, gc11, gc12, gc13, gc14, gc15, gcS, sc0, sc1, sc2, sc3, sc4, sc5, sc6, sc7, sc8, sc9, sc10, sc11, sc12, sc13, sc14, sc15, scS, List.drop_succ_cons, List.drop_nil, x_pan, s_pan, b_pan, pE_ret, pE_pan, pE_none, pE_ite, pvE_some, pvE_none, pvE_ite, rv_some, rv_none, rv_ite, oR_ret, t_mv, t_pick, t_alloc, t_box, t_build, t_buildS, t_load, t_store, t_nilck, t_bin, t_eqb, t_eqA, t_eqp, t_un, t_conv, t_field, t_idxA, t_faddr, t_iaddrS, t_iaddrA, t_ext, t_len, t_mm, t_call, t_ifc, t_fn, t_slc, t_slcA, t_slcT, t_tass, t_isn, t_mks, t_app, t_pan, panE_i, optE_none, optE_some, bnd_none, bnd_int, slA_none, slA_some, appR_some, appOld_cells, newsV_s, newsV_n, lenS_s, appV_nil, appV_some, mksV_i, sh_c, sh_g, f_pan, endD_ret, dfr_normal, dfr_ret, dfr_pan, restD_normal, callD1, callC1, tassV, isnV, slcV, slcAV, slcTV, slcB, appNew, Option.bind_some, Option.bind_none, d_pan, h_pan, wrH_eq, wrX_cells, wrU_some, upH_nil, upH_cons, lk_upH, effR_some, effR_none, effR_ite, Option.isNone_none, Option.isNone_some, slA_zero]
        | true =>
          have hs : mk (Z.getD i z0).2 (j + 1) = lor (mk (Z.getD i z0).2 j) (shl1 j) := if_pos hb
          simp only [lor, shl1, IntKind.bits, Int.toNat_natCast] at hs
          simp -implicitDefEqProofs (maxSteps := 10000000) (disch := omega) only [T4, L4, G4_8, V8_eq, G4_9, V9_eq, G4_10, V10, T10, L10, G4_15, V15_eq, G4_16, V16_eq, G4_17, V17_eq, G4_18, V18_eq, G4_19, V19_eq, G4_20, V20_eq, hB, hR, hI, kp.l, kp.t0, kp.t3, kp.t4, kp.t6, kp.t7, gtst, st_len, t8, t21, t22, t23, h', h, g', hj', i0, j0, j2, tk_r hiZ hj', hb, Int.toNat_natCast, Nat.mul_one, pad, e_skip, e_ops, e_draw, d_none, d_nil, d_cons, d_ite, h_none, h_nil, h_cons, h_ite, eqS_same, lightV, e_seq, e_cond, e_block, e_exit, e_ret, s_normal, s_ret, s_exit, s_none, s_ite, b_normal, b_ret, b_exit, b_none, b_ite, c_bool, x_none, x_nil, x_cons, x_ite, p_some, p_none, p_ite, pt_some, pt_none, pv_some, pv_none, pv_ite, w_none, w_some, i_bool, i_undef, bt, bf, v_tmp, v_const, v_global, v_func, evs, f_normal, f_ret, f_none, f_ite, r_some, co_some, l_ptr, m_agg, m_one, sh_app, lk_nil, lk_cons, rd_eq, rdO_some, rdO_none, rdN_none, rdL_some, rdL_none, wrB_none, unitR_some, wr_nil, wr_here, wr_skip, k_cells, tk_zero, tk_take, tk_skip, tkC_some, call_func, gt, st, binV, arith, isSh, storeV, all1, idxAV, fieldV, faddrV, iaddrSV, iaddrAV, pickV, convV, unV, eqbV, eqpV, extV, lenV, mm2, mmV, nilckV, ress, res1, retV, Value.cells, cond_true, cond_false, Bool.true_or, Bool.false_or, Bool.or_true, Bool.or_false, beq_self_eq_true, if_true, if_false, ite_true, ite_false, decide_true, decide_false, decide_eq_true_eq, reduceIte, Nat.zero_add, Nat.add_zero, and_self, true_and, and_true, List.size_toArray, List.length_cons, List.length_nil, List.append_nil, List.nil_append, Int.toNat_zero, Bool.not_false, Bool.not_true, Bool.not_not, Bool.false_eq_true, Bool.true_eq_false, reduceCtorEq, Int.reduceLT, Int.reduceLE, Int.reduceToNat, Int.reduceAdd, Int.reduceSub, Int.reduceMul, Int.reduceNeg, Nat.reduceMul, Nat.reduceAdd, Nat.reduceSub, Nat.reduceBEq, Nat.reduceEqDiff, Nat.reduceLT, Nat.reduceLeDiff, Int.reduceBEq, Int.reduceEq, Nat.reducePow, Int.reducePow, IntWalk.i64_in, IntKind.bits, eqAV, eqL, leafEq, andO, fillV, buildSV, List.getElem?_toArray, List.getElem?_cons_zero, List.getElem?_cons_succ, List.getElem?_nil, Int.reduceGT, Int.reduceGE, Int.reduceBNe, Bool.true_and, Bool.and_true, Bool.false_and, Bool.and_false, Bool.and_self, IntWalk.u64_in, Int.cast_ofNat_Int, callF1, pad16, pad_0, pad_1, pad_2, pad_3, pad_4, pad_5, pad_6, pad_7, pad_8, pad_9, pad_10, pad_11, pad_12, pad_13, pad_14, pad_15, gc0, gc1, gc2, gc3, gc4, gc5, gc6, gc7, gc8, gc9, gc10, gc11, gc12, gc13, gc14, gc15, gcS, sc0, sc1, sc2, sc3, sc4, sc5, sc6, sc7, sc8, sc9, sc10, sc11, sc12, sc13, sc14, sc15, scS, List.drop_succ_cons, List.drop_nil, x_pan, s_pan, b_pan, pE_ret, pE_pan, pE_none, pE_ite, pvE_some, pvE_none, pvE_ite, rv_some, rv_none, rv_ite, oR_ret, t_mv, t_pick, t_alloc, t_box, t_build, t_buildS, t_load, t_store, t_nilck, t_bin, t_eqb, t_eqA, t_eqp, t_un, t_conv, t_field, t_idxA, t_faddr, t_iaddrS, t_iaddrA, t_ext, t_len, t_mm, t_call, t_ifc, t_fn, t_slc, t_slcA, t_slcT, t_tass, t_isn, t_mks, t_app, t_pan, panE_i, optE_none, optE_some, bnd_none, bnd_int, slA_none, slA_some, appR_some, appOld_cells, newsV_s, newsV_n, lenS_s, appV_nil, appV_some, mksV_i, sh_c, sh_g, f_pan, endD_ret, dfr_normal, dfr_ret, dfr_pan, restD_normal, callD1, callC1, tassV, isnV, slcV, slcAV, slcTV, slcB, appNew, Option.bind_some, Option.bind_none, d_pan, h_pan, wrH_eq, wrX_cells, wrU_some, upH_nil, upH_cons, lk_upH, effR_some, effR_none, effR_ite, Option.isNone_none, Option.isNone_some, slA_zero]
          refine ok_some (.inl ⟨rfl, 16 - (j + 1), by omega, _, j + 1, rfl, ⟨?_, ?_, ?_, ?_, ?_, ?_⟩, ?_, ?_, ?_, ?_, by omega, rfl⟩)
          all_goals simp -implicitDefEqProofs (maxSteps := 10000000) (disch := omega) only [T4, L4, G4_8, V8_eq, G4_9, V9_eq, G4_10, V10, T10, L10, G4_15, V15_eq, G4_16, V16_eq, G4_17, V17_eq, G4_18, V18_eq, G4_19, V19_eq, G4_20, V20_eq, hB, hR, hI, kp.l, kp.t0, kp.t3, kp.t4, kp.t6, kp.t7, gtst, st_len, t8, t21, t22, t23, hc, hs, Int.toNat_natCast, pad, e_skip, e_ops, e_draw, d_none, d_nil, d_cons, d_ite, h_none, h_nil, h_cons, h_ite, eqS_same, lightV, e_seq, e_cond, e_block, e_exit, e_ret, s_normal, s_ret, s_exit, s_none, s_ite, b_normal, b_ret, b_exit, b_none, b_ite, c_bool, x_none, x_nil, x_cons, x_ite, p_some, p_none, p_ite, pt_some, pt_none, pv_some, pv_none, pv_ite, w_none, w_some, i_bool, i_undef, bt, bf, v_tmp, v_const, v_global, v_func, evs, f_normal, f_ret, f_none, f_ite, r_some, co_some, l_ptr, m_agg, m_one, sh_app, lk_nil, lk_cons, rd_eq, rdO_some, rdO_none, rdN_none, rdL_some, rdL_none, wrB_none, unitR_some, wr_nil, wr_here, wr_skip, k_cells, tk_zero, tk_take, tk_skip, tkC_some, call_func, gt, st, binV, arith, isSh, storeV, all1, idxAV, fieldV, faddrV, iaddrSV, iaddrAV, pickV, convV, unV, eqbV, eqpV, extV, lenV, mm2, mmV, nilckV, ress, res1, retV, Value.cells, cond_true, cond_false, Bool.true_or, Bool.false_or, Bool.or_true, Bool.or_false, beq_self_eq_true, if_true, if_false, ite_true, ite_false, decide_true, decide_false, decide_eq_true_eq, reduceIte, Nat.zero_add, Nat.add_zero, and_self, true_and, and_true, List.size_toArray, List.length_cons, List.length_nil, List.append_nil, List.nil_append, Int.toNat_zero, Bool.not_false, Bool.not_true, Bool.not_not, Bool.false_eq_true, Bool.true_eq_false, reduceCtorEq, Int.reduceLT, Int.reduceLE, Int.reduceToNat, Int.reduceAdd, Int.reduceSub, Int.reduceMul, Int.reduceNeg, Nat.reduceMul, Nat.reduceAdd, Nat.reduceSub, Nat.reduceBEq, Nat.reduceEqDiff, Nat.reduceLT, Nat.reduceLeDiff, Int.reduceBEq, Int.reduceEq, Nat.reducePow, Int.reducePow, IntWalk.i64_in, IntKind.bits, eqAV, eqL, leafEq, andO, fillV, buildSV, List.getElem?_toArray, List.getElem?_cons_zero, List.getElem?_cons_succ, List.getElem?_nil, Int.reduceGT, Int.reduceGE, Int.reduceBNe, Bool.true_and, Bool.and_true, Bool.false_and, Bool.and_false, Bool.and_self, IntWalk.u64_in, Int.cast_ofNat_Int, callF1, pad16, pad_0, pad_1, pad_2, pad_3, pad_4, pad_5, pad_6, pad_7, pad_8, pad_9, pad_10, pad_11, pad_12, pad_13, pad_14, pad_15, gc0, gc1, gc2, gc3, gc4, gc5, gc6, gc7, gc8, gc9, gc10, gc11, gc12, gc13, gc14, gc15, gcS, sc0, sc1, sc2, sc3, sc4, sc5, sc6, sc7, sc8, sc9, sc10, sc11, sc12, sc13, sc14, sc15, scS, List.drop_succ_cons, List.drop_nil, x_pan, s_pan, b_pan, pE_ret, pE_pan, pE_none, pE_ite, pvE_some, pvE_none, pvE_ite, rv_some, rv_none, rv_ite, oR_ret, t_mv, t_pick, t_alloc, t_box, t_build, t_buildS, t_load, t_store, t_nilck, t_bin, t_eqb, t_eqA, t_eqp, t_un, t_conv, t_field, t_idxA, t_faddr, t_iaddrS, t_iaddrA, t_ext, t_len, t_mm, t_call, t_ifc, t_fn, t_slc, t_slcA, t_slcT, t_tass, t_isn, t_mks, t_app, t_pan, panE_i, optE_none, optE_some, bnd_none, bnd_int, slA_none, slA_some, appR_some, appOld_cells, newsV_s, newsV_n, lenS_s, appV_nil, appV_some, mksV_i, sh_c, sh_g, f_pan, endD_ret, dfr_normal, dfr_ret, dfr_pan, restD_normal, callD1, callC1, tassV, isnV, slcV, slcAV, slcTV, slcB, appNew, Option.bind_some, Option.bind_none, d_pan, h_pan, wrH_eq, wrX_cells, wrU_some, upH_nil, upH_cons, lk_upH, effR_some, effR_none, effR_ite, Option.isNone_none, Option.isNone_some, slA_zero]
      · obtain rfl : j = 16 := by omega
        simp -implicitDefEqProofs (maxSteps := 10000000) (disch := omega) only [T4, L4, G4_8, V8_eq, G4_9, V9_eq, G4_10, V10, T10, L10, G4_15, V15_eq, G4_16, V16_eq, G4_17, V17_eq, G4_18, V18_eq, G4_19, V19_eq, G4_20, V20_eq, hB, hR, hI, kp.l, kp.t0, kp.t3, kp.t4, kp.t6, kp.t7, gtst, st_len, t8, t21, t22, t23, pad, e_skip, e_ops, e_draw, d_none, d_nil, d_cons, d_ite, h_none, h_nil, h_cons, h_ite, eqS_same, lightV, e_seq, e_cond, e_block, e_exit, e_ret, s_normal, s_ret, s_exit, s_none, s_ite, b_normal, b_ret, b_exit, b_none, b_ite, c_bool, x_none, x_nil, x_cons, x_ite, p_some, p_none, p_ite, pt_some, pt_none, pv_some, pv_none, pv_ite, w_none, w_some, i_bool, i_undef, bt, bf, v_tmp, v_const, v_global, v_func, evs, f_normal, f_ret, f_none, f_ite, r_some, co_some, l_ptr, m_agg, m_one, sh_app, lk_nil, lk_cons, rd_eq, rdO_some, rdO_none, rdN_none, rdL_some, rdL_none, wrB_none, unitR_some, wr_nil, wr_here, wr_skip, k_cells, tk_zero, tk_take, tk_skip, tkC_some, call_func, gt, st, binV, arith, isSh, storeV, all1, idxAV, fieldV, faddrV, iaddrSV, iaddrAV, pickV, convV, unV, eqbV, eqpV, extV, lenV, mm2, mmV, nilckV, ress, res1, retV, Value.cells, cond_true, cond_false, Bool.true_or, Bool.false_or, Bool.or_true, Bool.or_false, beq_self_eq_true, if_true, if_false, ite_true, ite_false, decide_true, decide_false, decide_eq_true_eq, reduceIte, Nat.zero_add, Nat.add_zero, and_self, true_and, and_true, List.size_toArray, List.length_cons, List.length_nil, List.append_nil, List.nil_append, Int.toNat_zero, Bool.not_false, Bool.not_true, Bool.not_not, Bool.false_eq_true, Bool.true_eq_false, reduceCtorEq, Int.reduceLT, Int.reduceLE, Int.reduceToNat, Int.reduceAdd, Int.reduceSub, Int.reduceMul, Int.reduceNeg, Nat.reduceMul, Nat.reduceAdd, Nat.reduceSub, Nat.reduceBEq, Nat.reduceEqDiff, Nat.reduceLT, Nat.reduceLeDiff, Int.reduceBEq, Int.reduceEq, Nat.reducePow, Int.reducePow, IntWalk.i64_in, IntKind.bits, eqAV, eqL, leafEq, andO, fillV, buildSV, List.getElem?_toArray, List.getElem?_cons_zero, List.getElem?_cons_succ, List.getElem?_nil, Int.reduceGT, Int.reduceGE, Int.reduceBNe, Bool.true_and, Bool.and_true, Bool.false_and, Bool.and_false, Bool.and_self, IntWalk.u64_in, Int.cast_ofNat_Int, callF1, pad16, pad_0, pad_1, pad_2, pad_3, pad_4, pad_5, pad_6, pad_7, pad_8, pad_9, pad_10, pad_11, pad_12, pad_13, pad_14, pad_15, gc0, gc1, gc2, gc3, gc4, gc5, gc6, gc7, gc8, gc9, gc10, gc11, gc12, gc13, gc14, gc15, gcS, sc0, sc1, sc2, sc3, sc4, sc5, sc6, sc7, sc8, sc9, sc10, sc11, sc12, sc13, sc14, sc15, scS, List.drop_succ_cons, List.drop_nil, x_pan, s_pan, b_pan, pE_ret, pE_pan, pE_none, pE_ite, pvE_some, pvE_none, pvE_ite, rv_some, rv_none, rv_ite, oR_ret, t_mv, t_pick, t_alloc, t_box, t_build, t_buildS, t_load, t_store, t_nilck, t_bin, t_eqb, t_eqA, t_eqp, t_un, t_conv, t_field, t_idxA, t_faddr, t_iaddrS, t_iaddrA, t_ext, t_len, t_mm, t_call, t_ifc, t_fn, t_slc, t_slcA, t_slcT, t_tass, t_isn, t_mks, t_app, t_pan, panE_i, optE_none, optE_some, bnd_none, bnd_int, slA_none, slA_some, appR_some, appOld_cells, newsV_s, newsV_n, lenS_s, appV_nil, appV_some, mksV_i, sh_c, sh_g, f_pan, endD_ret, dfr_normal, dfr_ret, dfr_pan, restD_normal, callD1, callC1, tassV, isnV, slcV, slcAV, slcTV, slcB, appNew, Option.bind_some, Option.bind_none, d_pan, h_pan, wrH_eq, wrX_cells, wrU_some, upH_nil, upH_cons, lk_upH, effR_some, effR_none, effR_ite, Option.isNone_none, Option.isNone_some, slA_zero]
        refine ok_some (.inr ⟨by simp, rfl, _, rfl, ⟨?_, ?_, ?_, ?_, ?_, ?_⟩, ?_, ?_, ?_⟩)
        all_goals simp -implicitDefEqProofs (maxSteps := 10000000) (disch := omega) only [T4, L4, G4_8, V8_eq, G4_9, V9_eq, G4_10, V10, T10, L10, G4_15, V15_eq, G4_16, V16_eq, G4_17, V17_eq, G4_18, V18_eq, G4_19, V19_eq, G4_20, V20_eq, hB, hR, hI, kp.l, kp.t0, kp.t3, kp.t4, kp.t6, kp.t7, gtst, st_len, t8, t21, t22, t23, pad, e_skip, e_ops, e_draw, d_none, d_nil, d_cons, d_ite, h_none, h_nil, h_cons, h_ite, eqS_same, lightV, e_seq, e_cond, e_block, e_exit, e_ret, s_normal, s_ret, s_exit, s_none, s_ite, b_normal, b_ret, b_exit, b_none, b_ite, c_bool, x_none, x_nil, x_cons, x_ite, p_some, p_none, p_ite, pt_some, pt_none, pv_some, pv_none, pv_ite, w_none, w_some, i_bool, i_undef, bt, bf, v_tmp, v_const, v_global, v_func, evs, f_normal, f_ret, f_none, f_ite, r_some, co_some, l_ptr, m_agg, m_one, sh_app, lk_nil, lk_cons, rd_eq, rdO_some, rdO_none, rdN_none, rdL_some, rdL_none, wrB_none, unitR_some, wr_nil, wr_here, wr_skip, k_cells, tk_zero, tk_take, tk_skip, tkC_some, call_func, gt, st, binV, arith, isSh, storeV, all1, idxAV, fieldV, faddrV, iaddrSV, iaddrAV, pickV, convV, unV, eqbV, eqpV, extV, lenV, mm2, mmV, nilckV, ress, res1, retV, Value.cells, cond_true, cond_false, Bool.true_or, Bool.false_or, Bool.or_true, Bool.or_false, beq_self_eq_true, if_true, if_false, ite_true, ite_false, decide_true, decide_false, decide_eq_true_eq, reduceIte, Nat.zero_add, Nat.add_zero, and_self, true_and, and_true, List.size_toArray, List.length_cons, List.length_nil, List.append_nil, List.nil_append, Int.toNat_zero, Bool.not_false, Bool.not_true, Bool.not_not, Bool.false_eq_true, Bool.true_eq_false, reduceCtorEq, Int.reduceLT, Int.reduceLE, Int.reduceToNat, Int.reduceAdd, Int.reduceSub, Int.reduceMul, Int.reduceNeg, Nat.reduceMul, Nat.reduceAdd, Nat.reduceSub, Nat.reduceBEq, Nat.reduceEqDiff, Nat.reduceLT, Nat.reduceLeDiff, Int.reduceBEq, Int.reduceEq, Nat.reducePow, Int.reducePow, IntWalk.i64_in, IntKind.bits, eqAV, eqL, leafEq, andO, fillV, buildSV, List.getElem?_toArray, List.getElem?_cons_zero, List.getElem?_cons_succ, List.getElem?_nil, Int.reduceGT, Int.reduceGE, Int.reduceBNe, Bool.true_and, Bool.and_true, Bool.false_and, Bool.and_false, Bool.and_self, IntWalk.u64_in, Int.cast_ofNat_Int, callF1, pad16, pad_0, pad_1, pad_2, pad_3, pad_4, pad_5, pad_6, pad_7, pad_8, pad_9, pad_10, pad_11, pad_12, pad_13, pad_14, pad_15, gc0, gc1, gc2, gc3, gc4, gc5, gc6, gc7, gc8, gc9, gc10, gc11, gc12, gc13, gc14, gc15, gcS, sc0, sc1, sc2, sc3, sc4, sc5, sc6, sc7, sc8, sc9, sc10, sc11, sc12, sc13, sc14, sc15, scS, List.drop_succ_cons, List.drop_nil, x_pan, s_pan, b_pan, pE_ret, pE_pan, pE_none, pE_ite, pvE_some, pvE_none, pvE_ite, rv_some, rv_none, rv_ite, oR_ret, t_mv, t_pick, t_alloc, t_box, t_build, t_buildS, t_load, t_store, t_nilck, t_bin, t_eqb, t_eqA, t_eqp, t_un, t_conv, t_field, t_idxA, t_faddr, t_iaddrS, t_iaddrA, t_ext, t_len, t_mm, t_call, t_ifc, t_fn, t_slc, t_slcA, t_slcT, t_tass, t_isn, t_mks, t_app, t_pan, panE_i, optE_none, optE_some, bnd_none, bnd_int, slA_none, slA_some, appR_some, appOld_cells, newsV_s, newsV_n, lenS_s, appV_nil, appV_some, mksV_i, sh_c, sh_g, f_pan, endD_ret, dfr_normal, dfr_ret, dfr_pan, restD_normal, callD1, callC1, tassV, isnV, slcV, slcAV, slcTV, slcB, appNew, Option.bind_some, Option.bind_none, d_pan, h_pan, wrH_eq, wrX_cells, wrU_some, upH_nil, upH_cons, lk_upH, effR_some, effR_none, effR_ite, Option.isNone_none, Option.isNone_some, slA_zero]
    obtain ⟨x, s', rfl, rfl, ts, rfl, kp, t8, t21, t22⟩ := hO
    simp -implicitDefEqProofs (maxSteps := 10000000) (disch := omega) only [T4, L4, G4_8, V8_eq, G4_9, V9_eq, G4_10, V10, T10, L10, G4_15, V15_eq, G4_16, V16_eq, G4_17, V17_eq, G4_18, V18_eq, G4_19, V19_eq, G4_20, V20_eq, hB, hR, hI, kp.l, kp.t0, kp.t3, kp.t4, kp.t6, kp.t7, gtst, st_len, t8, t21, t22, h', h, i0, hc2, tk_w hiZ, Int.toNat_natCast, Nat.mul_one, beq_self_eq_true, bne_self_eq_false, pad, e_skip, e_ops, e_draw, d_none, d_nil, d_cons, d_ite, h_none, h_nil, h_cons, h_ite, eqS_same, lightV, e_seq, e_cond, e_block, e_exit, e_ret, s_normal, s_ret, s_exit, s_none, s_ite, b_normal, b_ret, b_exit, b_none, b_ite, c_bool, x_none, x_nil, x_cons, x_ite, p_some, p_none, p_ite, pt_some, pt_none, pv_some, pv_none, pv_ite, w_none, w_some, i_bool, i_undef, bt, bf, v_tmp, v_const, v_global, v_func, evs, f_normal, f_ret, f_none, f_ite, r_some, co_some, l_ptr, m_agg, m_one, sh_app, lk_nil, lk_cons, rd_eq, rdO_some, rdO_none, rdN_none, rdL_some, rdL_none, wrB_none, unitR_some, wr_nil, wr_here, wr_skip, k_cells, tk_zero, tk_take, tk_skip, tkC_some, call_func, gt, st, binV, arith, isSh, storeV, all1, idxAV, fieldV, faddrV, iaddrSV, iaddrAV, pickV, convV, unV, eqbV, eqpV, extV, lenV, mm2, mmV, nilckV, ress, res1, retV, Value.cells, cond_true, cond_false, Bool.true_or, Bool.false_or, Bool.or_true, Bool.or_false, beq_self_eq_true, if_true, if_false, ite_true, ite_false, decide_true, decide_false, decide_eq_true_eq, reduceIte, Nat.zero_add, Nat.add_zero, and_self, true_and, and_true, List.size_toArray, List.length_cons, List.length_nil, List.append_nil, List.nil_append, Int.toNat_zero, Bool.not_false, Bool.not_true, Bool.not_not, Bool.false_eq_true, Bool.true_eq_false, reduceCtorEq, Int.reduceLT, Int.reduceLE, Int.reduceToNat, Int.reduceAdd, Int.reduceSub, Int.reduceMul, Int.reduceNeg, Nat.reduceMul, Nat.reduceAdd, Nat.reduceSub, Nat.reduceBEq, Nat.reduceEqDiff, Nat.reduceLT, Nat.reduceLeDiff, Int.reduceBEq, Int.reduceEq, Nat.reducePow, Int.reducePow, IntWalk.i64_in, IntKind.bits, eqAV, eqL, leafEq, andO, fillV, buildSV, List.getElem?_toArray, List.getElem?_cons_zero, List.getElem?_cons_succ, List.getElem?_nil, Int.reduceGT, Int.reduceGE, Int.reduceBNe, Bool.true_and, Bool.and_true, Bool.false_and, Bool.and_false, Bool.and_self, IntWalk.u64_in, Int.cast_ofNat_Int, callF1, pad16, pad_0, pad_1, pad_2, pad_3, pad_4, pad_5, pad_6, pad_7, pad_8, pad_9, pad_10, pad_11, pad_12, pad_13, pad_14, pad_15, gc0, gc1, gc2, gc3, gc4, gc5, gc6, gc7, gc8, gc9, gc10, gc11, gc12, gc13, gc14, gc15, gcS, sc0, sc1, sc2, sc3, sc4, sc5, sc6, sc7, sc8, sc9, sc10, sc11, sc12, sc13, sc14, sc15, scS, List.drop_succ_cons, List.drop_nil, x_pan, s_pan, b_pan, pE_ret, pE_pan, pE_none, pE_ite, pvE_some, pvE_none, pvE_ite, rv_some, rv_none, rv_ite, oR_ret, t_mv, t_pick, t_alloc, t_box, t_build, t_buildS, t_load, t_store, t_nilck, t_bin, t_eqb, t_eqA, t_eqp, t_un, t_conv, t_field, t_idxA, t_faddr, t_iaddrS, t_iaddrA, t_ext, t_len, t_mm, t_call, t_ifc, t_fn, t_slc, t_slcA, t_slcT, t_tass, t_isn, t_mks, t_app, t_pan, panE_i, optE_none, optE_some, bnd_none, bnd_int, slA_none, slA_some, appR_some, appOld_cells, newsV_s, newsV_n, lenS_s, appV_nil, appV_some, mksV_i, sh_c, sh_g, f_pan, endD_ret, dfr_normal, dfr_ret, dfr_pan, restD_normal, callD1, callC1, tassV, isnV, slcV, slcAV, slcTV, slcB, appNew, Option.bind_some, Option.bind_none, d_pan, h_pan, wrH_eq, wrX_cells, wrU_some, upH_nil, upH_cons, lk_upH, effR_some, effR_none, effR_ite, Option.isNone_none, Option.isNone_some, slA_zero]
    refine ok_some (.inl ⟨rfl, 6 - (i + 1), by omega, _, i + 1, rfl, ⟨?_, ?_, ?_, ?_, ?_, ?_⟩, ?_, ?_, by omega, rfl⟩)
    all_goals simp -implicitDefEqProofs (maxSteps := 10000000) (disch := omega) only [T4, L4, G4_8, V8_eq, G4_9, V9_eq, G4_10, V10, T10, L10, G4_15, V15_eq, G4_16, V16_eq, G4_17, V17_eq, G4_18, V18_eq, G4_19, V19_eq, G4_20, V20_eq, hB, hR, hI, kp.l, kp.t0, kp.t3, kp.t4, kp.t6, kp.t7, gtst, st_len, t8, t21, t22, hc, pad, e_skip, e_ops, e_draw, d_none, d_nil, d_cons, d_ite, h_none, h_nil, h_cons, h_ite, eqS_same, lightV, e_seq, e_cond, e_block, e_exit, e_ret, s_normal, s_ret, s_exit, s_none, s_ite, b_normal, b_ret, b_exit, b_none, b_ite, c_bool, x_none, x_nil, x_cons, x_ite, p_some, p_none, p_ite, pt_some, pt_none, pv_some, pv_none, pv_ite, w_none, w_some, i_bool, i_undef, bt, bf, v_tmp, v_const, v_global, v_func, evs, f_normal, f_ret, f_none, f_ite, r_some, co_some, l_ptr, m_agg, m_one, sh_app, lk_nil, lk_cons, rd_eq, rdO_some, rdO_none, rdN_none, rdL_some, rdL_none, wrB_none, unitR_some, wr_nil, wr_here, wr_skip, k_cells, tk_zero, tk_take, tk_skip, tkC_some, call_func, gt, st, binV, arith, isSh, storeV, all1, idxAV, fieldV, faddrV, iaddrSV, iaddrAV, pickV, convV, unV, eqbV, eqpV, extV, lenV, mm2, mmV, nilckV, ress, res1, retV, Value.cells, cond_true, cond_false, Bool.true_or, Bool.false_or, Bool.or_true, Bool.or_false, beq_self_eq_true, if_true, if_false, ite_true, ite_false, decide_true, decide_false, decide_eq_true_eq, reduceIte, Nat.zero_add, Nat.add_zero, and_self, true_and, and_true, List.size_toArray, List.length_cons, List.length_nil, List.append_nil, List.nil_append, Int.toNat_zero, Bool.not_false, Bool.not_true, Bool.not_not, Bool.false_eq_true, Bool.true_eq_false, reduceCtorEq, Int.reduceLT, Int.reduceLE, Int.reduceToNat, Int.reduceAdd, Int.reduceSub, Int.reduceMul, Int.reduceNeg, Nat.reduceMul, Nat.reduceAdd, Nat.reduceSub, Nat.reduceBEq, Nat.reduceEqDiff, Nat.reduceLT, Nat.reduceLeDiff, Int.reduceBEq, Int.reduceEq, Nat.reducePow, Int.reducePow, IntWalk.i64_in, IntKind.bits, eqAV, eqL, leafEq, andO, fillV, buildSV, List.getElem?_toArray, List.getElem?_cons_zero, List.getElem?_cons_succ, List.getElem?_nil, Int.reduceGT, Int.reduceGE, Int.reduceBNe, Bool.true_and, Bool.and_true, Bool.false_and, Bool.and_false, Bool.and_self, IntWalk.u64_in, Int.cast_ofNat_Int, callF1, pad16, pad_0, pad_1, pad_2, pad_3, pad_4, pad_5, pad_6, pad_7, pad_8, pad_9, pad_10, pad_11, pad_12, pad_13, pad_14, pad_15, gc0, gc1, gc2, gc3, gc4, gc5, gc6, gc7, gc8, gc9, gc10, gc11, gc12, gc13, gc14, gc15, gcS, sc0, sc1, sc2, sc3, sc4, sc5, sc6, sc7, sc8, sc9, sc10, sc11, sc12, sc13, sc14, sc15, scS, List.drop_succ_cons, List.drop_nil, x_pan, s_pan, b_pan, pE_ret, pE_pan, pE_none, pE_ite, pvE_some, pvE_none, pvE_ite, rv_some, rv_none, rv_ite, oR_ret, t_mv, t_pick, t_alloc, t_box, t_build, t_buildS, t_load, t_store, t_nilck, t_bin, t_eqb, t_eqA, t_eqp, t_un, t_conv, t_field, t_idxA, t_faddr, t_iaddrS, t_iaddrA, t_ext, t_len, t_mm, t_call, t_ifc, t_fn, t_slc, t_slcA, t_slcT, t_tass, t_isn, t_mks, t_app, t_pan, panE_i, optE_none, optE_some, bnd_none, bnd_int, slA_none, slA_some, appR_some, appOld_cells, newsV_s, newsV_n, lenS_s, appV_nil, appV_some, mksV_i, sh_c, sh_g, f_pan, endD_ret, dfr_normal, dfr_ret, dfr_pan, restD_normal, callD1, callC1, tassV, isnV, slcV, slcAV, slcTV, slcB, appNew, Option.bind_some, Option.bind_none, d_pan, h_pan, wrH_eq, wrX_cells, wrU_some, upH_nil, upH_cons, lk_upH, effR_some, effR_none, effR_ite, Option.isNone_none, Option.isNone_some, slA_zero]
  · obtain rfl : i = 6 := by omega
    simp -implicitDefEqProofs (maxSteps := 10000000) (disch := omega) only [T4, L4, G4_8, V8_eq, G4_9, V9_eq, G4_10, V10, T10, L10, G4_15, V15_eq, G4_16, V16_eq, G4_17, V17_eq, G4_18, V18_eq, G4_19, V19_eq, G4_20, V20_eq, hB, hR, hI, kp.l, kp.t0, kp.t3, kp.t4, kp.t6, kp.t7, gtst, st_len, t8, t21, pad, e_skip, e_ops, e_draw, d_none, d_nil, d_cons, d_ite, h_none, h_nil, h_cons, h_ite, eqS_same, lightV, e_seq, e_cond, e_block, e_exit, e_ret, s_normal, s_ret, s_exit, s_none, s_ite, b_normal, b_ret, b_exit, b_none, b_ite, c_bool, x_none, x_nil, x_cons, x_ite, p_some, p_none, p_ite, pt_some, pt_none, pv_some, pv_none, pv_ite, w_none, w_some, i_bool, i_undef, bt, bf, v_tmp, v_const, v_global, v_func, evs, f_normal, f_ret, f_none, f_ite, r_some, co_some, l_ptr, m_agg, m_one, sh_app, lk_nil, lk_cons, rd_eq, rdO_some, rdO_none, rdN_none, rdL_some, rdL_none, wrB_none, unitR_some, wr_nil, wr_here, wr_skip, k_cells, tk_zero, tk_take, tk_skip, tkC_some, call_func, gt, st, binV, arith, isSh, storeV, all1, idxAV, fieldV, faddrV, iaddrSV, iaddrAV, pickV, convV, unV, eqbV, eqpV, extV, lenV, mm2, mmV, nilckV, ress, res1, retV, Value.cells, cond_true, cond_false, Bool.true_or, Bool.false_or, Bool.or_true, Bool.or_false, beq_self_eq_true, if_true, if_false, ite_true, ite_false, decide_true, decide_false, decide_eq_true_eq, reduceIte, Nat.zero_add, Nat.add_zero, and_self, true_and, and_true, List.size_toArray, List.length_cons, List.length_nil, List.append_nil, List.nil_append, Int.toNat_zero, Bool.not_false, Bool.not_true, Bool.not_not, Bool.false_eq_true, Bool.true_eq_false, reduceCtorEq, Int.reduceLT, Int.reduceLE, Int.reduceToNat, Int.reduceAdd, Int.reduceSub, Int.reduceMul, Int.reduceNeg, Nat.reduceMul, Nat.reduceAdd, Nat.reduceSub, Nat.reduceBEq, Nat.reduceEqDiff, Nat.reduceLT, Nat.reduceLeDiff, Int.reduceBEq, Int.reduceEq, Nat.reducePow, Int.reducePow, IntWalk.i64_in, IntKind.bits, eqAV, eqL, leafEq, andO, fillV, buildSV, List.getElem?_toArray, List.getElem?_cons_zero, List.getElem?_cons_succ, List.getElem?_nil, Int.reduceGT, Int.reduceGE, Int.reduceBNe, Bool.true_and, Bool.and_true, Bool.false_and, Bool.and_false, Bool.and_self, IntWalk.u64_in, Int.cast_ofNat_Int, callF1, pad16, pad_0, pad_1, pad_2, pad_3, pad_4, pad_5, pad_6, pad_7, pad_8, pad_9, pad_10, pad_11, pad_12, pad_13, pad_14, pad_15, gc0, gc1, gc2, gc3, gc4, gc5, gc6, gc7, gc8, gc9, gc10, gc11, gc12, gc13, gc14, gc15, gcS, sc0, sc1, sc2, sc3, sc4, sc5, sc6, sc7, sc8, sc9, sc10, sc11, sc12, sc13, sc14, sc15, scS, List.drop_succ_cons, List.drop_nil, x_pan, s_pan, b_pan, pE_ret, pE_pan, pE_none, pE_ite, pvE_some, pvE_none, pvE_ite, rv_some, rv_none, rv_ite, oR_ret, t_mv, t_pick, t_alloc, t_box, t_build, t_buildS, t_load, t_store, t_nilck, t_bin, t_eqb, t_eqA, t_eqp, t_un, t_conv, t_field, t_idxA, t_faddr, t_iaddrS, t_iaddrA, t_ext, t_len, t_mm, t_call, t_ifc, t_fn, t_slc, t_slcA, t_slcT, t_tass, t_isn, t_mks, t_app, t_pan, panE_i, optE_none, optE_some, bnd_none, bnd_int, slA_none, slA_some, appR_some, appOld_cells, newsV_s, newsV_n, lenS_s, appV_nil, appV_some, mksV_i, sh_c, sh_g, f_pan, endD_ret, dfr_normal, dfr_ret, dfr_pan, restD_normal, callD1, callC1, tassV, isnV, slcV, slcAV, slcTV, slcB, appNew, Option.bind_some, Option.bind_none, d_pan, h_pan, wrH_eq, wrX_cells, wrU_some, upH_nil, upH_cons, lk_upH, effR_some, effR_none, effR_ite, Option.isNone_none, Option.isNone_some, slA_zero]
    refine ok_some (.inr ⟨by simp, rfl, _, rfl, ⟨?_, ?_, ?_, ?_, ?_, ?_⟩, ?_⟩)
    all_goals simp -implicitDefEqProofs (maxSteps := 10000000) (disch := omega) only [T4, L4, G4_8, V8_eq, G4_9, V9_eq, G4_10, V10, T10, L10, G4_15, V15_eq, G4_16, V16_eq, G4_17, V17_eq, G4_18, V18_eq, G4_19, V19_eq, G4_20, V20_eq, hB, hR, hI, kp.l, kp.t0, kp.t3, kp.t4, kp.t6, kp.t7, gtst, st_len, t8, t21, pad, e_skip, e_ops, e_draw, d_none, d_nil, d_cons, d_ite, h_none, h_nil, h_cons, h_ite, eqS_same, lightV, e_seq, e_cond, e_block, e_exit, e_ret, s_normal, s_ret, s_exit, s_none, s_ite, b_normal, b_ret, b_exit, b_none, b_ite, c_bool, x_none, x_nil, x_cons, x_ite, p_some, p_none, p_ite, pt_some, pt_none, pv_some, pv_none, pv_ite, w_none, w_some, i_bool, i_undef, bt, bf, v_tmp, v_const, v_global, v_func, evs, f_normal, f_ret, f_none, f_ite, r_some, co_some, l_ptr, m_agg, m_one, sh_app, lk_nil, lk_cons, rd_eq, rdO_some, rdO_none, rdN_none, rdL_some, rdL_none, wrB_none, unitR_some, wr_nil, wr_here, wr_skip, k_cells, tk_zero, tk_take, tk_skip, tkC_some, call_func, gt, st, binV, arith, isSh, storeV, all1, idxAV, fieldV, faddrV, iaddrSV, iaddrAV, pickV, convV, unV, eqbV, eqpV, extV, lenV, mm2, mmV, nilckV, ress, res1, retV, Value.cells, cond_true, cond_false, Bool.true_or, Bool.false_or, Bool.or_true, Bool.or_false, beq_self_eq_true, if_true, if_false, ite_true, ite_false, decide_true, decide_false, decide_eq_true_eq, reduceIte, Nat.zero_add, Nat.add_zero, and_self, true_and, and_true, List.size_toArray, List.length_cons, List.length_nil, List.append_nil, List.nil_append, Int.toNat_zero, Bool.not_false, Bool.not_true, Bool.not_not, Bool.false_eq_true, Bool.true_eq_false, reduceCtorEq, Int.reduceLT, Int.reduceLE, Int.reduceToNat, Int.reduceAdd, Int.reduceSub, Int.reduceMul, Int.reduceNeg, Nat.reduceMul, Nat.reduceAdd, Nat.reduceSub, Nat.reduceBEq, Nat.reduceEqDiff, Nat.reduceLT, Nat.reduceLeDiff, Int.reduceBEq, Int.reduceEq, Nat.reducePow, Int.reducePow, IntWalk.i64_in, IntKind.bits, eqAV, eqL, leafEq, andO, fillV, buildSV, List.getElem?_toArray, List.getElem?_cons_zero, List.getElem?_cons_succ, List.getElem?_nil, Int.reduceGT, Int.reduceGE, Int.reduceBNe, Bool.true_and, Bool.and_true, Bool.false_and, Bool.and_false, Bool.and_self, IntWalk.u64_in, Int.cast_ofNat_Int, callF1, pad16, pad_0, pad_1, pad_2, pad_3, pad_4, pad_5, pad_6, pad_7, pad_8, pad_9, pad_10, pad_11, pad_12, pad_13, pad_14, pad_15, gc0, gc1, gc2, gc3, gc4, gc5, gc6, gc7, gc8, gc9, gc10, gc11, gc12, gc13, gc14, gc15, gcS, sc0, sc1, sc2, sc3, sc4, sc5, sc6, sc7, sc8, sc9, sc10, sc11, sc12, sc13, sc14, sc15, scS, List.drop_succ_cons, List.drop_nil, x_pan, s_pan, b_pan, pE_ret, pE_pan, pE_none, pE_ite, pvE_some, pvE_none, pvE_ite, rv_some, rv_none, rv_ite, oR_ret, t_mv, t_pick, t_alloc, t_box, t_build, t_buildS, t_load, t_store, t_nilck, t_bin, t_eqb, t_eqA, t_eqp, t_un, t_conv, t_field, t_idxA, t_faddr, t_iaddrS, t_iaddrA, t_ext, t_len, t_mm, t_call, t_ifc, t_fn, t_slc, t_slcA, t_slcT, t_tass, t_isn, t_mks, t_app, t_pan, panE_i, optE_none, optE_some, bnd_none, bnd_int, slA_none, slA_some, appR_some, appOld_cells, newsV_s, newsV_n, lenS_s, appV_nil, appV_some, mksV_i, sh_c, sh_g, f_pan, endD_ret, dfr_normal, dfr_ret, dfr_pan, restD_normal, callD1, callC1, tassV, isnV, slcV, slcAV, slcTV, slcB, appNew, Option.bind_some, Option.bind_none, d_pan, h_pan, wrH_eq, wrX_cells, wrU_some, upH_nil, upH_cons, lk_upH, effR_some, effR_none, effR_ite, Option.isNone_none, Option.isNone_some, slA_zero]
end Go.Proofs.Yteilhhkkhnnglaa
