/- Proved here, for every input: CellsApart answers true and leaves its arguments as they were (theorem cellsApart.said). Conditions: none. -/
import Derived.Test.YteilhhkkhnnglaaOwn
import Derived.Test.YteilhhkkhnnglaaRows
set_option linter.unusedSimpArgs false
set_option linter.unusedVariables false
namespace Go.Proofs.Yteilhhkkhnnglaa
open Go.Proofs.Yteilhhkkhnnglaa.K Go.ChangeShapes Go.WideShapes Go.ChangeAt Go.RowKit
set_option maxRecDepth 100000
set_option linter.unusedSimpArgs false
set_option linter.unusedVariables false

/-! ### A raw thing, done to a cell -/
def oneA (op p : Int) (c : Cell) : Int := if op = 0 ∨ op = 2 then c.1 else if op = 3 ∨ op = 4 then (if has01 c.2 p = 0 then 0 else 1) else 0
def oneC (op p w : Int) (c : Cell) : Cell := if op = 0 then c else if op = 1 then (w, 0) else if op = 2 then (c.1, lor c.2 (shl1 p)) else if op = 3 then c else if op = 4 then (if has01 c.2 p = 0 then c else (w, 0)) else (c.1, landn c.2 (shl1 p))
def gOne (op p w : Int) (c : Cell) : Value × Cell := (.tuple #[.int .u64 (oneA op p c), .int .i64 0], oneC op p w c)
/-- Only where there is a cell. -/
def sure : Option Spot → Option Spot
  | some (some x) => some (some x)
  | _ => none
theorem sure_some {x} : sure (some (some x)) = some (some x) := rfl
noncomputable def eOneR (B : OH) (H : HL) (m : Value) (i : Int) : List Value → Option (E × HL)
  | [.int .i64 n0, .int .i64 n1, .int .i64 _, .int .u64 w] =>
    if -9223372036854775808 ≤ n0 ∧ n0 ≤ 9223372036854775807 ∧ -9223372036854775808 ≤ n1 ∧ n1 ≤ 9223372036854775807 then act undef (gOne (pick n0 6) (pick n1 16) w) H (sure (look B H (pick n1 16) i m)) else none
  | _ => none
noncomputable def eOne (B : OH) (a : List Value) (H : HL) : Option (E × HL) := match a with
  | [m, .agg cs, .int .i64 i] => eOneR B H m i cs.toList
  | _ => none
theorem has_01 (l p : Int) (h : 0 ≤ p ∧ p < 64) : has01 l p = 0 ∨ has01 l p = 1 := by
  rw [has_bit l p h]; split <;> simp

/-- whitewash/whitewashlaw03.one -/
def L21 : FnL := ⟨(.seq (.ops [⟨(some 4), .box (.tmp 1), none⟩, ⟨(some 6), .mv (.const (.int .u64 0)), none⟩, ⟨(some 7), .mv (.const (.int .i64 0)), none⟩])
 (.seq (.ops [⟨(some 11), .faddr 0 (.tmp 4), none⟩, ⟨(some 12), .iaddrA 1 3 (.tmp 11) (.const (.int .i64 1)), none⟩, ⟨(some 13), .load false 1 (.tmp 12), none⟩, ⟨(some 14), .call (.func 9) [(.tmp 13), (.const (.int .i64 16))], none⟩, ⟨(some 8), .mv (.tmp 14), none⟩])
 (.seq (.ops [⟨(some 9), .mv (.const (.bool false)), none⟩])
 (.seq (.ops [⟨(some 10), .mv (.const (.int .i64 0)), none⟩])
 (.seq (.seq (.ops [⟨(some 15), .faddr 0 (.tmp 4), none⟩, ⟨(some 16), .iaddrA 1 3 (.tmp 15) (.const (.int .i64 0)), none⟩, ⟨(some 17), .load false 1 (.tmp 16), none⟩, ⟨(some 18), .call (.func 9) [(.tmp 17), (.const (.int .i64 6))], none⟩])
 (.block 0 (.seq (.ops [⟨(some 24), .bin .eql (.tmp 18) (.const (.int .i64 0)), none⟩, ⟨(some 23), .mv (.tmp 24), none⟩])
 (.cond (.tmp 23) (.seq (.ops [⟨(some 25), .mv (.tmp 0), none⟩, ⟨(some 26), .mv (.tmp 2), none⟩, ⟨(some 27), .call (.func 15) [(.tmp 25), (.tmp 26)], none⟩, ⟨(some 28), .ext (.tmp 27) 0, none⟩, ⟨(some 29), .ext (.tmp 27) 1, none⟩, ⟨(some 6), .mv (.tmp 28), none⟩, ⟨(some 7), .mv (.tmp 29), none⟩])
 .ret)
 (.seq (.ops [⟨(some 31), .bin .eql (.tmp 18) (.const (.int .i64 1)), none⟩, ⟨(some 30), .mv (.tmp 31), none⟩])
 (.cond (.tmp 30) (.seq (.ops [⟨(some 32), .mv (.tmp 0), none⟩, ⟨(some 33), .mv (.tmp 2), none⟩, ⟨(some 34), .faddr 3 (.tmp 4), none⟩, ⟨(some 35), .load false 1 (.tmp 34), none⟩, ⟨(some 36), .call (.func 16) [(.tmp 32), (.tmp 33), (.tmp 35)], none⟩, ⟨(some 6), .mv (.const (.int .u64 0)), none⟩, ⟨(some 7), .mv (.tmp 36), none⟩])
 .ret)
 (.seq (.ops [⟨(some 38), .bin .eql (.tmp 18) (.const (.int .i64 2)), none⟩, ⟨(some 37), .mv (.tmp 38), none⟩])
 (.cond (.tmp 37) (.seq (.ops [⟨(some 39), .mv (.tmp 0), none⟩, ⟨(some 40), .mv (.tmp 8), none⟩, ⟨(some 41), .mv (.tmp 2), none⟩, ⟨(some 42), .call (.func 17) [(.tmp 39), (.tmp 40), (.tmp 41)], none⟩, ⟨(some 43), .ext (.tmp 42) 0, none⟩, ⟨(some 44), .ext (.tmp 42) 1, none⟩, ⟨(some 6), .mv (.tmp 43), none⟩, ⟨(some 7), .mv (.tmp 44), none⟩])
 .ret)
 (.seq (.ops [⟨(some 46), .bin .eql (.tmp 18) (.const (.int .i64 3)), none⟩, ⟨(some 45), .mv (.tmp 46), none⟩])
 (.cond (.tmp 45) (.ops [⟨(some 48), .mv (.tmp 0), none⟩, ⟨(some 49), .mv (.tmp 8), none⟩, ⟨(some 50), .mv (.tmp 2), none⟩, ⟨(some 51), .call (.func 18) [(.tmp 48), (.tmp 49), (.tmp 50)], none⟩, ⟨(some 47), .mv (.tmp 51), none⟩, ⟨(some 52), .ext (.tmp 47) 0, none⟩, ⟨(some 53), .ext (.tmp 47) 1, none⟩, ⟨(some 9), .mv (.tmp 52), none⟩, ⟨(some 10), .mv (.tmp 53), none⟩])
 (.seq (.ops [⟨(some 55), .bin .eql (.tmp 18) (.const (.int .i64 4)), none⟩, ⟨(some 54), .mv (.tmp 55), none⟩])
 (.cond (.tmp 54) (.ops [⟨(some 57), .mv (.tmp 0), none⟩, ⟨(some 58), .mv (.tmp 8), none⟩, ⟨(some 59), .mv (.tmp 2), none⟩, ⟨(some 60), .faddr 3 (.tmp 4), none⟩, ⟨(some 61), .load false 1 (.tmp 60), none⟩, ⟨(some 62), .call (.func 19) [(.tmp 57), (.tmp 58), (.tmp 59), (.tmp 61)], none⟩, ⟨(some 56), .mv (.tmp 62), none⟩, ⟨(some 63), .ext (.tmp 56) 0, none⟩, ⟨(some 64), .ext (.tmp 56) 1, none⟩, ⟨(some 9), .mv (.tmp 63), none⟩, ⟨(some 10), .mv (.tmp 64), none⟩])
 (.seq (.ops [⟨(some 19), .mv (.tmp 0), none⟩, ⟨(some 20), .mv (.tmp 8), none⟩, ⟨(some 21), .mv (.tmp 2), none⟩, ⟨(some 22), .call (.func 20) [(.tmp 19), (.tmp 20), (.tmp 21)], none⟩, ⟨(some 6), .mv (.const (.int .u64 0)), none⟩, ⟨(some 7), .mv (.tmp 22), none⟩])
 .ret)))))))))))))
 (.seq (.seq (.ops [⟨(some 65), .mv (.tmp 9), none⟩])
 (.cond (.tmp 65) (.seq (.ops [⟨(some 66), .mv (.tmp 10), none⟩, ⟨(some 6), .mv (.const (.int .u64 1)), none⟩, ⟨(some 7), .mv (.tmp 66), none⟩])
 .ret)
 .skip))
 (.seq (.ops [⟨(some 67), .mv (.tmp 10), none⟩, ⟨(some 6), .mv (.const (.int .u64 0)), none⟩, ⟨(some 7), .mv (.tmp 67), none⟩])
 .ret))))))),
 68, [.tmp 6, .tmp 7]⟩
theorem low21 : lowerFn Try.prog Try.f21 = some L21 := by kernel_rfl
noncomputable def G21 (B : OH) : Nat → Cs
  | 9 => V9 B
  | 15 => V15 B
  | 16 => V16 B
  | 17 => V17 B
  | 18 => V18 B
  | 19 => V19 B
  | 20 => V20 B
  | _ => fun _ _ _ => none
theorem G21_9 {B : OH} : G21 B 9 = V9 B := rfl
theorem G21_15 {B : OH} : G21 B 15 = V15 B := rfl
theorem G21_16 {B : OH} : G21 B 16 = V16 B := rfl
theorem G21_17 {B : OH} : G21 B 17 = V17 B := rfl
theorem G21_18 {B : OH} : G21 B 18 = V18 B := rfl
theorem G21_19 {B : OH} : G21 B 19 = V19 B := rfl
theorem G21_20 {B : OH} : G21 B 20 = V20 B := rfl
theorem sG21 {w0 : World} {B : OH} : SoundG Try.prog w0 B (G21 B) := fun k => by
  unfold G21
  split
  · exact .inr ⟨en9, sV9⟩
  · exact .inr ⟨en15, sV15⟩
  · exact .inr ⟨en16, sV16⟩
  · exact .inr ⟨en17, sV17⟩
  · exact .inr ⟨en18, sV18⟩
  · exact .inr ⟨en19, sV19⟩
  · exact .inr ⟨en20, sV20⟩
  · exact .inl fun _ _ _ => rfl
theorem en21 : Enter Try.prog 21 := .of Try.func21 (by kernel_rfl) (by kernel_rfl)
noncomputable def T21 (B : OH) : Cs := callF B (G21 B) 200 L21
theorem sT21 {w0 : World} {B : OH} : SoundC Try.prog w0 B 21 (T21 B) := callF_sound mixedOrders sG21 200 Try.func21 low21
set_option maxHeartbeats 4000000 in
theorem ev21 {B : OH} : Eff B (T21 B) (eOne B) := by
  intro args x H H1 N hf hN
  have hG : ∃ H N, good B H N := ⟨H, N, hN⟩
  have hB := good_B hN
  have hR := good_rdB hN
  have hI := beqN hN.1.1
  unfold eOne at hf
  split at hf
  rotate_left
  · cases hf
  rename_i m cs i
  unfold eOneR at hf
  split at hf
  rotate_left
  · cases hf
  rename_i n0 n1 n2 w hcs
  obtain rfl : cs = #[.int .i64 n0, .int .i64 n1, .int .i64 n2, .int .u64 w] := by apply Array.ext'; simpa using hcs
  split at hf
  rotate_left
  · cases hf
  rename_i hw
  have e0 := f9 (B := B) hG n0 6 (by omega) (by omega)
  have e1 := f9 (B := B) hG n1 16 (by omega) (by omega)
  have b0 := pick_b n0 6 (by omega)
  have b1 := pick_b n1 16 (by omega)
  generalize pick n0 6 = op at e0 b0 hf
  generalize pick n1 16 = p at e1 b1 hf
  have hs : ∃ y, look B H p i m = some (some y) := by
    cases hl : look B H p i m with
    | none => rw [hl] at hf; cases hf
    | some r => cases r with
      | none => rw [hl] at hf; cases hf
      | some y => exact ⟨y, rfl⟩
  have hf' : act undef (gOne op p w) H (look B H p i m) = some (x, H1) := by
    obtain ⟨y, hy⟩ := hs
    rw [hy] at hf ⊢
    exact hf
  obtain ⟨y, hy⟩ := hs
  rcases act_inv hf' with ⟨rfl, _, _⟩ | ⟨mm, j, rfl, hBm, hlm, _, _⟩ | ⟨mm, j, b, c, k, L, rfl, hBm, hlm, hBb, hlb, h⟩
  · cases hy
  · simp [look, hBm, hlm, lookP, lookM] at hy
  have hnm := ne_good hN hBm hlm
  have hnb := ne_good hN hBb hlb
  have hrd : rdB B mm = fun _ _ => none := by funext o n; simp [rdB, hBm]
  have hrb : rdB B b = fun _ _ => none := by funext o n; simp [rdB, hBb]
  rcases h with ⟨hok, rfl, rfl⟩ | ⟨⟨h1, h2, h3, h4⟩, rfl, rfl⟩
  · simp [look, hBm, hlm, lookP, lookM, lookS, hBb, hlb, lookU, unf_fl, hok] at hy
  have hl : i.toNat < L.length := by omega
  refine eff_up hBb ?_
  have h6 : op = 0 ∨ op = 1 ∨ op = 2 ∨ op = 3 ∨ op = 4 ∨ op = 5 := by omega
  have f0 : ((0 : Int) = 0) = True := by simp
  rcases h6 with rfl | rfl | rfl | rfl | rfl | rfl
  · simp only [gOne, oneA, oneC, Int.reduceEq, or_self, or_true, true_or, false_or, or_false, if_true, if_false, set_same]
    simp -implicitDefEqProofs (maxSteps := 10000000) (disch := omega) only [T21, L21, G21_9, V9_eq, G21_15, V15_eq, G21_16, V16_eq, G21_17, V17_eq, G21_18, V18_eq, G21_19, V19_eq, G21_20, V20_eq, hB, hR, hI, hl, hBm, hlm, hnm, hrd, hBb, hlb, hnb, hrb, h1, h2, h3, h4, e0, e1, tk_c hl, tk_c1 hl, tk_c2 hl, tk_s1 hl, tk_s2 hl, wr_c hl, wr_c2 hl, eLoad, eStore, eLL, eVL, eSC, eRL, look_nil, look_ptr, lookP_c, lookM_s, lookM_n, lookS_c, lookU_s, unf_fl, unf1, act_bad, act_good, gLoad, gStore, gLL, gVL, gSC, gRL, okP_iff, List.set_cons_zero, List.set_cons_succ, List.getD_cons_zero, List.getD_cons_succ, set_same, pad, e_skip, e_ops, e_draw, d_none, d_nil, d_cons, d_ite, h_none, h_nil, h_cons, h_ite, eqS_same, lightV, e_seq, e_cond, e_block, e_loop, e_exit, e_ret, s_normal, s_ret, s_exit, s_none, s_ite, b_normal, b_ret, b_exit, b_none, b_ite, c_bool, x_none, x_nil, x_cons, x_ite, p_some, p_none, p_ite, pt_some, pt_none, pv_some, pv_none, pv_ite, w_none, w_some, i_bool, i_undef, bt, bf, v_tmp, v_const, v_global, v_func, evs, f_normal, f_ret, f_none, f_ite, r_some, co_some, l_ptr, m_agg, m_one, sh_app, lk_nil, lk_cons, rd_eq, rdO_some, rdO_none, rdN_none, rdL_some, rdL_none, wrB_none, unitR_some, wr_nil, wr_here, wr_skip, k_cells, tk_zero, tk_take, tk_skip, tkC_some, call_func, gt, st, binV, arith, isSh, storeV, all1, idxAV, fieldV, faddrV, iaddrSV, iaddrAV, pickV, convV, unV, eqbV, eqpV, extV, lenV, mm2, mmV, nilckV, ress, res1, retV, Value.cells, cond_true, cond_false, Bool.true_or, Bool.false_or, Bool.or_true, Bool.or_false, beq_self_eq_true, if_true, if_false, ite_true, ite_false, decide_true, decide_false, decide_eq_true_eq, reduceIte, Nat.zero_add, Nat.add_zero, and_self, true_and, and_true, List.size_toArray, List.length_cons, List.length_nil, List.append_nil, List.nil_append, Int.toNat_zero, Bool.not_false, Bool.not_true, Bool.not_not, Bool.false_eq_true, Bool.true_eq_false, reduceCtorEq, Int.reduceLT, Int.reduceLE, Int.reduceToNat, Int.reduceAdd, Int.reduceSub, Int.reduceMul, Int.reduceNeg, Nat.reduceMul, Nat.reduceAdd, Nat.reduceSub, Nat.reduceBEq, Nat.reduceEqDiff, Nat.reduceLT, Nat.reduceLeDiff, Int.reduceBEq, Int.reduceEq, Nat.reducePow, Int.reducePow, IntWalk.i64_in, IntKind.bits, eqAV, eqL, leafEq, andO, fillV, buildSV, List.getElem?_toArray, List.getElem?_cons_zero, List.getElem?_cons_succ, List.getElem?_nil, Int.reduceGT, Int.reduceGE, Int.reduceBNe, Bool.true_and, Bool.and_true, Bool.false_and, Bool.and_false, Bool.and_self, IntWalk.u64_in, Int.cast_ofNat_Int, callF1, pad16, pad_0, pad_1, pad_2, pad_3, pad_4, pad_5, pad_6, pad_7, pad_8, pad_9, pad_10, pad_11, pad_12, pad_13, pad_14, pad_15, gc0, gc1, gc2, gc3, gc4, gc5, gc6, gc7, gc8, gc9, gc10, gc11, gc12, gc13, gc14, gc15, gcS, sc0, sc1, sc2, sc3, sc4, sc5, sc6, sc7, sc8, sc9, sc10, sc11, sc12, sc13, sc14, sc15, scS, List.drop_succ_cons, List.drop_nil, x_pan, s_pan, b_pan, pE_ret, pE_pan, pE_none, pE_ite, pvE_some, pvE_none, pvE_ite, rv_some, rv_none, rv_ite, oR_ret, t_mv, t_pick, t_alloc, t_box, t_build, t_buildS, t_load, t_store, t_nilck, t_bin, t_eqb, t_eqA, t_eqp, t_un, t_conv, t_field, t_idxA, t_faddr, t_iaddrS, t_iaddrA, t_ext, t_len, t_mm, t_call, t_ifc, t_fn, t_slc, t_slcA, t_slcT, t_tass, t_isn, t_mks, t_app, t_pan, panE_i, optE_none, optE_some, bnd_none, bnd_int, slA_none, slA_some, appR_some, appOld_cells, newsV_s, newsV_n, lenS_s, appV_nil, appV_some, mksV_i, sh_c, sh_g, f_pan, endD_ret, dfr_normal, dfr_ret, dfr_pan, restD_normal, callD1, callC1, tassV, isnV, slcV, slcAV, slcTV, slcB, appNew, Option.bind_some, Option.bind_none, d_pan, h_pan, wrH_eq, wrX_cells, wrU_some, upH_nil, upH_cons, lk_upH, effR_some, effR_none, effR_ite, Option.isNone_none, Option.isNone_some, slA_zero]
    with_reducible refine done2 ?_
    repeat (first | exact ext_same hBb hlb | refine ext_new' hN (up_none hBb hlb) ?_ | refine ext_new hN ?_ | exact fun _ _ h => h)
  · simp only [gOne, oneA, oneC, Int.reduceEq, or_self, or_true, true_or, false_or, or_false, if_true, if_false]
    simp -implicitDefEqProofs (maxSteps := 10000000) (disch := omega) only [T21, L21, G21_9, V9_eq, G21_15, V15_eq, G21_16, V16_eq, G21_17, V17_eq, G21_18, V18_eq, G21_19, V19_eq, G21_20, V20_eq, hB, hR, hI, hl, hBm, hlm, hnm, hrd, hBb, hlb, hnb, hrb, h1, h2, h3, h4, e0, e1, tk_c hl, tk_c1 hl, tk_c2 hl, tk_s1 hl, tk_s2 hl, wr_c hl, wr_c2 hl, eLoad, eStore, eLL, eVL, eSC, eRL, look_nil, look_ptr, lookP_c, lookM_s, lookM_n, lookS_c, lookU_s, unf_fl, unf1, act_bad, act_good, gLoad, gStore, gLL, gVL, gSC, gRL, okP_iff, List.set_cons_zero, List.set_cons_succ, List.getD_cons_zero, List.getD_cons_succ, pad, e_skip, e_ops, e_draw, d_none, d_nil, d_cons, d_ite, h_none, h_nil, h_cons, h_ite, eqS_same, lightV, e_seq, e_cond, e_block, e_loop, e_exit, e_ret, s_normal, s_ret, s_exit, s_none, s_ite, b_normal, b_ret, b_exit, b_none, b_ite, c_bool, x_none, x_nil, x_cons, x_ite, p_some, p_none, p_ite, pt_some, pt_none, pv_some, pv_none, pv_ite, w_none, w_some, i_bool, i_undef, bt, bf, v_tmp, v_const, v_global, v_func, evs, f_normal, f_ret, f_none, f_ite, r_some, co_some, l_ptr, m_agg, m_one, sh_app, lk_nil, lk_cons, rd_eq, rdO_some, rdO_none, rdN_none, rdL_some, rdL_none, wrB_none, unitR_some, wr_nil, wr_here, wr_skip, k_cells, tk_zero, tk_take, tk_skip, tkC_some, call_func, gt, st, binV, arith, isSh, storeV, all1, idxAV, fieldV, faddrV, iaddrSV, iaddrAV, pickV, convV, unV, eqbV, eqpV, extV, lenV, mm2, mmV, nilckV, ress, res1, retV, Value.cells, cond_true, cond_false, Bool.true_or, Bool.false_or, Bool.or_true, Bool.or_false, beq_self_eq_true, if_true, if_false, ite_true, ite_false, decide_true, decide_false, decide_eq_true_eq, reduceIte, Nat.zero_add, Nat.add_zero, and_self, true_and, and_true, List.size_toArray, List.length_cons, List.length_nil, List.append_nil, List.nil_append, Int.toNat_zero, Bool.not_false, Bool.not_true, Bool.not_not, Bool.false_eq_true, Bool.true_eq_false, reduceCtorEq, Int.reduceLT, Int.reduceLE, Int.reduceToNat, Int.reduceAdd, Int.reduceSub, Int.reduceMul, Int.reduceNeg, Nat.reduceMul, Nat.reduceAdd, Nat.reduceSub, Nat.reduceBEq, Nat.reduceEqDiff, Nat.reduceLT, Nat.reduceLeDiff, Int.reduceBEq, Int.reduceEq, Nat.reducePow, Int.reducePow, IntWalk.i64_in, IntKind.bits, eqAV, eqL, leafEq, andO, fillV, buildSV, List.getElem?_toArray, List.getElem?_cons_zero, List.getElem?_cons_succ, List.getElem?_nil, Int.reduceGT, Int.reduceGE, Int.reduceBNe, Bool.true_and, Bool.and_true, Bool.false_and, Bool.and_false, Bool.and_self, IntWalk.u64_in, Int.cast_ofNat_Int, callF1, pad16, pad_0, pad_1, pad_2, pad_3, pad_4, pad_5, pad_6, pad_7, pad_8, pad_9, pad_10, pad_11, pad_12, pad_13, pad_14, pad_15, gc0, gc1, gc2, gc3, gc4, gc5, gc6, gc7, gc8, gc9, gc10, gc11, gc12, gc13, gc14, gc15, gcS, sc0, sc1, sc2, sc3, sc4, sc5, sc6, sc7, sc8, sc9, sc10, sc11, sc12, sc13, sc14, sc15, scS, List.drop_succ_cons, List.drop_nil, x_pan, s_pan, b_pan, pE_ret, pE_pan, pE_none, pE_ite, pvE_some, pvE_none, pvE_ite, rv_some, rv_none, rv_ite, oR_ret, t_mv, t_pick, t_alloc, t_box, t_build, t_buildS, t_load, t_store, t_nilck, t_bin, t_eqb, t_eqA, t_eqp, t_un, t_conv, t_field, t_idxA, t_faddr, t_iaddrS, t_iaddrA, t_ext, t_len, t_mm, t_call, t_ifc, t_fn, t_slc, t_slcA, t_slcT, t_tass, t_isn, t_mks, t_app, t_pan, panE_i, optE_none, optE_some, bnd_none, bnd_int, slA_none, slA_some, appR_some, appOld_cells, newsV_s, newsV_n, lenS_s, appV_nil, appV_some, mksV_i, sh_c, sh_g, f_pan, endD_ret, dfr_normal, dfr_ret, dfr_pan, restD_normal, callD1, callC1, tassV, isnV, slcV, slcAV, slcTV, slcB, appNew, Option.bind_some, Option.bind_none, d_pan, h_pan, wrH_eq, wrX_cells, wrU_some, upH_nil, upH_cons, lk_upH, effR_some, effR_none, effR_ite, Option.isNone_none, Option.isNone_some, slA_zero]
    with_reducible refine done2 ?_
    repeat (first | exact ext_same hBb hlb | refine ext_new' hN (up_none hBb hlb) ?_ | refine ext_new hN ?_ | exact fun _ _ h => h)
  · simp only [gOne, oneA, oneC, Int.reduceEq, or_self, or_true, true_or, false_or, or_false, if_true, if_false]
    simp -implicitDefEqProofs (maxSteps := 10000000) (disch := omega) only [T21, L21, G21_9, V9_eq, G21_15, V15_eq, G21_16, V16_eq, G21_17, V17_eq, G21_18, V18_eq, G21_19, V19_eq, G21_20, V20_eq, hB, hR, hI, hl, hBm, hlm, hnm, hrd, hBb, hlb, hnb, hrb, h1, h2, h3, h4, e0, e1, tk_c hl, tk_c1 hl, tk_c2 hl, tk_s1 hl, tk_s2 hl, wr_c hl, wr_c2 hl, eLoad, eStore, eLL, eVL, eSC, eRL, look_nil, look_ptr, lookP_c, lookM_s, lookM_n, lookS_c, lookU_s, unf_fl, unf1, act_bad, act_good, gLoad, gStore, gLL, gVL, gSC, gRL, okP_iff, List.set_cons_zero, List.set_cons_succ, List.getD_cons_zero, List.getD_cons_succ, pad, e_skip, e_ops, e_draw, d_none, d_nil, d_cons, d_ite, h_none, h_nil, h_cons, h_ite, eqS_same, lightV, e_seq, e_cond, e_block, e_loop, e_exit, e_ret, s_normal, s_ret, s_exit, s_none, s_ite, b_normal, b_ret, b_exit, b_none, b_ite, c_bool, x_none, x_nil, x_cons, x_ite, p_some, p_none, p_ite, pt_some, pt_none, pv_some, pv_none, pv_ite, w_none, w_some, i_bool, i_undef, bt, bf, v_tmp, v_const, v_global, v_func, evs, f_normal, f_ret, f_none, f_ite, r_some, co_some, l_ptr, m_agg, m_one, sh_app, lk_nil, lk_cons, rd_eq, rdO_some, rdO_none, rdN_none, rdL_some, rdL_none, wrB_none, unitR_some, wr_nil, wr_here, wr_skip, k_cells, tk_zero, tk_take, tk_skip, tkC_some, call_func, gt, st, binV, arith, isSh, storeV, all1, idxAV, fieldV, faddrV, iaddrSV, iaddrAV, pickV, convV, unV, eqbV, eqpV, extV, lenV, mm2, mmV, nilckV, ress, res1, retV, Value.cells, cond_true, cond_false, Bool.true_or, Bool.false_or, Bool.or_true, Bool.or_false, beq_self_eq_true, if_true, if_false, ite_true, ite_false, decide_true, decide_false, decide_eq_true_eq, reduceIte, Nat.zero_add, Nat.add_zero, and_self, true_and, and_true, List.size_toArray, List.length_cons, List.length_nil, List.append_nil, List.nil_append, Int.toNat_zero, Bool.not_false, Bool.not_true, Bool.not_not, Bool.false_eq_true, Bool.true_eq_false, reduceCtorEq, Int.reduceLT, Int.reduceLE, Int.reduceToNat, Int.reduceAdd, Int.reduceSub, Int.reduceMul, Int.reduceNeg, Nat.reduceMul, Nat.reduceAdd, Nat.reduceSub, Nat.reduceBEq, Nat.reduceEqDiff, Nat.reduceLT, Nat.reduceLeDiff, Int.reduceBEq, Int.reduceEq, Nat.reducePow, Int.reducePow, IntWalk.i64_in, IntKind.bits, eqAV, eqL, leafEq, andO, fillV, buildSV, List.getElem?_toArray, List.getElem?_cons_zero, List.getElem?_cons_succ, List.getElem?_nil, Int.reduceGT, Int.reduceGE, Int.reduceBNe, Bool.true_and, Bool.and_true, Bool.false_and, Bool.and_false, Bool.and_self, IntWalk.u64_in, Int.cast_ofNat_Int, callF1, pad16, pad_0, pad_1, pad_2, pad_3, pad_4, pad_5, pad_6, pad_7, pad_8, pad_9, pad_10, pad_11, pad_12, pad_13, pad_14, pad_15, gc0, gc1, gc2, gc3, gc4, gc5, gc6, gc7, gc8, gc9, gc10, gc11, gc12, gc13, gc14, gc15, gcS, sc0, sc1, sc2, sc3, sc4, sc5, sc6, sc7, sc8, sc9, sc10, sc11, sc12, sc13, sc14, sc15, scS, List.drop_succ_cons, List.drop_nil, x_pan, s_pan, b_pan, pE_ret, pE_pan, pE_none, pE_ite, pvE_some, pvE_none, pvE_ite, rv_some, rv_none, rv_ite, oR_ret, t_mv, t_pick, t_alloc, t_box, t_build, t_buildS, t_load, t_store, t_nilck, t_bin, t_eqb, t_eqA, t_eqp, t_un, t_conv, t_field, t_idxA, t_faddr, t_iaddrS, t_iaddrA, t_ext, t_len, t_mm, t_call, t_ifc, t_fn, t_slc, t_slcA, t_slcT, t_tass, t_isn, t_mks, t_app, t_pan, panE_i, optE_none, optE_some, bnd_none, bnd_int, slA_none, slA_some, appR_some, appOld_cells, newsV_s, newsV_n, lenS_s, appV_nil, appV_some, mksV_i, sh_c, sh_g, f_pan, endD_ret, dfr_normal, dfr_ret, dfr_pan, restD_normal, callD1, callC1, tassV, isnV, slcV, slcAV, slcTV, slcB, appNew, Option.bind_some, Option.bind_none, d_pan, h_pan, wrH_eq, wrX_cells, wrU_some, upH_nil, upH_cons, lk_upH, effR_some, effR_none, effR_ite, Option.isNone_none, Option.isNone_some, slA_zero]
    with_reducible refine done2 ?_
    repeat (first | exact ext_same hBb hlb | refine ext_new' hN (up_none hBb hlb) ?_ | refine ext_new hN ?_ | exact fun _ _ h => h)
  · rcases has_01 (L.getD i.toNat (0, 0)).2 p (by omega) with hh | hh
    · simp only [gOne, oneA, oneC, Int.reduceEq, or_self, or_true, true_or, false_or, or_false, if_true, if_false, hh, set_same]
      simp -implicitDefEqProofs (maxSteps := 10000000) (disch := omega) only [T21, L21, G21_9, V9_eq, G21_15, V15_eq, G21_16, V16_eq, G21_17, V17_eq, G21_18, V18_eq, G21_19, V19_eq, G21_20, V20_eq, hB, hR, hI, hl, hBm, hlm, hnm, hrd, hBb, hlb, hnb, hrb, h1, h2, h3, h4, e0, e1, tk_c hl, tk_c1 hl, tk_c2 hl, tk_s1 hl, tk_s2 hl, wr_c hl, wr_c2 hl, eLoad, eStore, eLL, eVL, eSC, eRL, look_nil, look_ptr, lookP_c, lookM_s, lookM_n, lookS_c, lookU_s, unf_fl, unf1, act_bad, act_good, gLoad, gStore, gLL, gVL, gSC, gRL, okP_iff, List.set_cons_zero, List.set_cons_succ, List.getD_cons_zero, List.getD_cons_succ, hh, set_same, pad, e_skip, e_ops, e_draw, d_none, d_nil, d_cons, d_ite, h_none, h_nil, h_cons, h_ite, eqS_same, lightV, e_seq, e_cond, e_block, e_loop, e_exit, e_ret, s_normal, s_ret, s_exit, s_none, s_ite, b_normal, b_ret, b_exit, b_none, b_ite, c_bool, x_none, x_nil, x_cons, x_ite, p_some, p_none, p_ite, pt_some, pt_none, pv_some, pv_none, pv_ite, w_none, w_some, i_bool, i_undef, bt, bf, v_tmp, v_const, v_global, v_func, evs, f_normal, f_ret, f_none, f_ite, r_some, co_some, l_ptr, m_agg, m_one, sh_app, lk_nil, lk_cons, rd_eq, rdO_some, rdO_none, rdN_none, rdL_some, rdL_none, wrB_none, unitR_some, wr_nil, wr_here, wr_skip, k_cells, tk_zero, tk_take, tk_skip, tkC_some, call_func, gt, st, binV, arith, isSh, storeV, all1, idxAV, fieldV, faddrV, iaddrSV, iaddrAV, pickV, convV, unV, eqbV, eqpV, extV, lenV, mm2, mmV, nilckV, ress, res1, retV, Value.cells, cond_true, cond_false, Bool.true_or, Bool.false_or, Bool.or_true, Bool.or_false, beq_self_eq_true, if_true, if_false, ite_true, ite_false, decide_true, decide_false, decide_eq_true_eq, reduceIte, Nat.zero_add, Nat.add_zero, and_self, true_and, and_true, List.size_toArray, List.length_cons, List.length_nil, List.append_nil, List.nil_append, Int.toNat_zero, Bool.not_false, Bool.not_true, Bool.not_not, Bool.false_eq_true, Bool.true_eq_false, reduceCtorEq, Int.reduceLT, Int.reduceLE, Int.reduceToNat, Int.reduceAdd, Int.reduceSub, Int.reduceMul, Int.reduceNeg, Nat.reduceMul, Nat.reduceAdd, Nat.reduceSub, Nat.reduceBEq, Nat.reduceEqDiff, Nat.reduceLT, Nat.reduceLeDiff, Int.reduceBEq, Int.reduceEq, Nat.reducePow, Int.reducePow, IntWalk.i64_in, IntKind.bits, eqAV, eqL, leafEq, andO, fillV, buildSV, List.getElem?_toArray, List.getElem?_cons_zero, List.getElem?_cons_succ, List.getElem?_nil, Int.reduceGT, Int.reduceGE, Int.reduceBNe, Bool.true_and, Bool.and_true, Bool.false_and, Bool.and_false, Bool.and_self, IntWalk.u64_in, Int.cast_ofNat_Int, callF1, pad16, pad_0, pad_1, pad_2, pad_3, pad_4, pad_5, pad_6, pad_7, pad_8, pad_9, pad_10, pad_11, pad_12, pad_13, pad_14, pad_15, gc0, gc1, gc2, gc3, gc4, gc5, gc6, gc7, gc8, gc9, gc10, gc11, gc12, gc13, gc14, gc15, gcS, sc0, sc1, sc2, sc3, sc4, sc5, sc6, sc7, sc8, sc9, sc10, sc11, sc12, sc13, sc14, sc15, scS, List.drop_succ_cons, List.drop_nil, x_pan, s_pan, b_pan, pE_ret, pE_pan, pE_none, pE_ite, pvE_some, pvE_none, pvE_ite, rv_some, rv_none, rv_ite, oR_ret, t_mv, t_pick, t_alloc, t_box, t_build, t_buildS, t_load, t_store, t_nilck, t_bin, t_eqb, t_eqA, t_eqp, t_un, t_conv, t_field, t_idxA, t_faddr, t_iaddrS, t_iaddrA, t_ext, t_len, t_mm, t_call, t_ifc, t_fn, t_slc, t_slcA, t_slcT, t_tass, t_isn, t_mks, t_app, t_pan, panE_i, optE_none, optE_some, bnd_none, bnd_int, slA_none, slA_some, appR_some, appOld_cells, newsV_s, newsV_n, lenS_s, appV_nil, appV_some, mksV_i, sh_c, sh_g, f_pan, endD_ret, dfr_normal, dfr_ret, dfr_pan, restD_normal, callD1, callC1, tassV, isnV, slcV, slcAV, slcTV, slcB, appNew, Option.bind_some, Option.bind_none, d_pan, h_pan, wrH_eq, wrX_cells, wrU_some, upH_nil, upH_cons, lk_upH, effR_some, effR_none, effR_ite, Option.isNone_none, Option.isNone_some, slA_zero]
      with_reducible refine done2 ?_
      repeat (first | exact ext_same hBb hlb | refine ext_new' hN (up_none hBb hlb) ?_ | refine ext_new hN ?_ | exact fun _ _ h => h)
    · simp only [gOne, oneA, oneC, Int.reduceEq, or_self, or_true, true_or, false_or, or_false, if_true, if_false, hh, set_same]
      simp -implicitDefEqProofs (maxSteps := 10000000) (disch := omega) only [T21, L21, G21_9, V9_eq, G21_15, V15_eq, G21_16, V16_eq, G21_17, V17_eq, G21_18, V18_eq, G21_19, V19_eq, G21_20, V20_eq, hB, hR, hI, hl, hBm, hlm, hnm, hrd, hBb, hlb, hnb, hrb, h1, h2, h3, h4, e0, e1, tk_c hl, tk_c1 hl, tk_c2 hl, tk_s1 hl, tk_s2 hl, wr_c hl, wr_c2 hl, eLoad, eStore, eLL, eVL, eSC, eRL, look_nil, look_ptr, lookP_c, lookM_s, lookM_n, lookS_c, lookU_s, unf_fl, unf1, act_bad, act_good, gLoad, gStore, gLL, gVL, gSC, gRL, okP_iff, List.set_cons_zero, List.set_cons_succ, List.getD_cons_zero, List.getD_cons_succ, hh, set_same, pad, e_skip, e_ops, e_draw, d_none, d_nil, d_cons, d_ite, h_none, h_nil, h_cons, h_ite, eqS_same, lightV, e_seq, e_cond, e_block, e_loop, e_exit, e_ret, s_normal, s_ret, s_exit, s_none, s_ite, b_normal, b_ret, b_exit, b_none, b_ite, c_bool, x_none, x_nil, x_cons, x_ite, p_some, p_none, p_ite, pt_some, pt_none, pv_some, pv_none, pv_ite, w_none, w_some, i_bool, i_undef, bt, bf, v_tmp, v_const, v_global, v_func, evs, f_normal, f_ret, f_none, f_ite, r_some, co_some, l_ptr, m_agg, m_one, sh_app, lk_nil, lk_cons, rd_eq, rdO_some, rdO_none, rdN_none, rdL_some, rdL_none, wrB_none, unitR_some, wr_nil, wr_here, wr_skip, k_cells, tk_zero, tk_take, tk_skip, tkC_some, call_func, gt, st, binV, arith, isSh, storeV, all1, idxAV, fieldV, faddrV, iaddrSV, iaddrAV, pickV, convV, unV, eqbV, eqpV, extV, lenV, mm2, mmV, nilckV, ress, res1, retV, Value.cells, cond_true, cond_false, Bool.true_or, Bool.false_or, Bool.or_true, Bool.or_false, beq_self_eq_true, if_true, if_false, ite_true, ite_false, decide_true, decide_false, decide_eq_true_eq, reduceIte, Nat.zero_add, Nat.add_zero, and_self, true_and, and_true, List.size_toArray, List.length_cons, List.length_nil, List.append_nil, List.nil_append, Int.toNat_zero, Bool.not_false, Bool.not_true, Bool.not_not, Bool.false_eq_true, Bool.true_eq_false, reduceCtorEq, Int.reduceLT, Int.reduceLE, Int.reduceToNat, Int.reduceAdd, Int.reduceSub, Int.reduceMul, Int.reduceNeg, Nat.reduceMul, Nat.reduceAdd, Nat.reduceSub, Nat.reduceBEq, Nat.reduceEqDiff, Nat.reduceLT, Nat.reduceLeDiff, Int.reduceBEq, Int.reduceEq, Nat.reducePow, Int.reducePow, IntWalk.i64_in, IntKind.bits, eqAV, eqL, leafEq, andO, fillV, buildSV, List.getElem?_toArray, List.getElem?_cons_zero, List.getElem?_cons_succ, List.getElem?_nil, Int.reduceGT, Int.reduceGE, Int.reduceBNe, Bool.true_and, Bool.and_true, Bool.false_and, Bool.and_false, Bool.and_self, IntWalk.u64_in, Int.cast_ofNat_Int, callF1, pad16, pad_0, pad_1, pad_2, pad_3, pad_4, pad_5, pad_6, pad_7, pad_8, pad_9, pad_10, pad_11, pad_12, pad_13, pad_14, pad_15, gc0, gc1, gc2, gc3, gc4, gc5, gc6, gc7, gc8, gc9, gc10, gc11, gc12, gc13, gc14, gc15, gcS, sc0, sc1, sc2, sc3, sc4, sc5, sc6, sc7, sc8, sc9, sc10, sc11, sc12, sc13, sc14, sc15, scS, List.drop_succ_cons, List.drop_nil, x_pan, s_pan, b_pan, pE_ret, pE_pan, pE_none, pE_ite, pvE_some, pvE_none, pvE_ite, rv_some, rv_none, rv_ite, oR_ret, t_mv, t_pick, t_alloc, t_box, t_build, t_buildS, t_load, t_store, t_nilck, t_bin, t_eqb, t_eqA, t_eqp, t_un, t_conv, t_field, t_idxA, t_faddr, t_iaddrS, t_iaddrA, t_ext, t_len, t_mm, t_call, t_ifc, t_fn, t_slc, t_slcA, t_slcT, t_tass, t_isn, t_mks, t_app, t_pan, panE_i, optE_none, optE_some, bnd_none, bnd_int, slA_none, slA_some, appR_some, appOld_cells, newsV_s, newsV_n, lenS_s, appV_nil, appV_some, mksV_i, sh_c, sh_g, f_pan, endD_ret, dfr_normal, dfr_ret, dfr_pan, restD_normal, callD1, callC1, tassV, isnV, slcV, slcAV, slcTV, slcB, appNew, Option.bind_some, Option.bind_none, d_pan, h_pan, wrH_eq, wrX_cells, wrU_some, upH_nil, upH_cons, lk_upH, effR_some, effR_none, effR_ite, Option.isNone_none, Option.isNone_some, slA_zero]
      with_reducible refine done2 ?_
      repeat (first | exact ext_same hBb hlb | refine ext_new' hN (up_none hBb hlb) ?_ | refine ext_new hN ?_ | exact fun _ _ h => h)
  · rcases has_01 (L.getD i.toNat (0, 0)).2 p (by omega) with hh | hh
    · simp only [gOne, oneA, oneC, Int.reduceEq, or_self, or_true, true_or, false_or, or_false, if_true, if_false, hh, set_same]
      simp -implicitDefEqProofs (maxSteps := 10000000) (disch := omega) only [T21, L21, G21_9, V9_eq, G21_15, V15_eq, G21_16, V16_eq, G21_17, V17_eq, G21_18, V18_eq, G21_19, V19_eq, G21_20, V20_eq, hB, hR, hI, hl, hBm, hlm, hnm, hrd, hBb, hlb, hnb, hrb, h1, h2, h3, h4, e0, e1, tk_c hl, tk_c1 hl, tk_c2 hl, tk_s1 hl, tk_s2 hl, wr_c hl, wr_c2 hl, eLoad, eStore, eLL, eVL, eSC, eRL, look_nil, look_ptr, lookP_c, lookM_s, lookM_n, lookS_c, lookU_s, unf_fl, unf1, act_bad, act_good, gLoad, gStore, gLL, gVL, gSC, gRL, okP_iff, List.set_cons_zero, List.set_cons_succ, List.getD_cons_zero, List.getD_cons_succ, hh, set_same, pad, e_skip, e_ops, e_draw, d_none, d_nil, d_cons, d_ite, h_none, h_nil, h_cons, h_ite, eqS_same, lightV, e_seq, e_cond, e_block, e_loop, e_exit, e_ret, s_normal, s_ret, s_exit, s_none, s_ite, b_normal, b_ret, b_exit, b_none, b_ite, c_bool, x_none, x_nil, x_cons, x_ite, p_some, p_none, p_ite, pt_some, pt_none, pv_some, pv_none, pv_ite, w_none, w_some, i_bool, i_undef, bt, bf, v_tmp, v_const, v_global, v_func, evs, f_normal, f_ret, f_none, f_ite, r_some, co_some, l_ptr, m_agg, m_one, sh_app, lk_nil, lk_cons, rd_eq, rdO_some, rdO_none, rdN_none, rdL_some, rdL_none, wrB_none, unitR_some, wr_nil, wr_here, wr_skip, k_cells, tk_zero, tk_take, tk_skip, tkC_some, call_func, gt, st, binV, arith, isSh, storeV, all1, idxAV, fieldV, faddrV, iaddrSV, iaddrAV, pickV, convV, unV, eqbV, eqpV, extV, lenV, mm2, mmV, nilckV, ress, res1, retV, Value.cells, cond_true, cond_false, Bool.true_or, Bool.false_or, Bool.or_true, Bool.or_false, beq_self_eq_true, if_true, if_false, ite_true, ite_false, decide_true, decide_false, decide_eq_true_eq, reduceIte, Nat.zero_add, Nat.add_zero, and_self, true_and, and_true, List.size_toArray, List.length_cons, List.length_nil, List.append_nil, List.nil_append, Int.toNat_zero, Bool.not_false, Bool.not_true, Bool.not_not, Bool.false_eq_true, Bool.true_eq_false, reduceCtorEq, Int.reduceLT, Int.reduceLE, Int.reduceToNat, Int.reduceAdd, Int.reduceSub, Int.reduceMul, Int.reduceNeg, Nat.reduceMul, Nat.reduceAdd, Nat.reduceSub, Nat.reduceBEq, Nat.reduceEqDiff, Nat.reduceLT, Nat.reduceLeDiff, Int.reduceBEq, Int.reduceEq, Nat.reducePow, Int.reducePow, IntWalk.i64_in, IntKind.bits, eqAV, eqL, leafEq, andO, fillV, buildSV, List.getElem?_toArray, List.getElem?_cons_zero, List.getElem?_cons_succ, List.getElem?_nil, Int.reduceGT, Int.reduceGE, Int.reduceBNe, Bool.true_and, Bool.and_true, Bool.false_and, Bool.and_false, Bool.and_self, IntWalk.u64_in, Int.cast_ofNat_Int, callF1, pad16, pad_0, pad_1, pad_2, pad_3, pad_4, pad_5, pad_6, pad_7, pad_8, pad_9, pad_10, pad_11, pad_12, pad_13, pad_14, pad_15, gc0, gc1, gc2, gc3, gc4, gc5, gc6, gc7, gc8, gc9, gc10, gc11, gc12, gc13, gc14, gc15, gcS, sc0, sc1, sc2, sc3, sc4, sc5, sc6, sc7, sc8, sc9, sc10, sc11, sc12, sc13, sc14, sc15, scS, List.drop_succ_cons, List.drop_nil, x_pan, s_pan, b_pan, pE_ret, pE_pan, pE_none, pE_ite, pvE_some, pvE_none, pvE_ite, rv_some, rv_none, rv_ite, oR_ret, t_mv, t_pick, t_alloc, t_box, t_build, t_buildS, t_load, t_store, t_nilck, t_bin, t_eqb, t_eqA, t_eqp, t_un, t_conv, t_field, t_idxA, t_faddr, t_iaddrS, t_iaddrA, t_ext, t_len, t_mm, t_call, t_ifc, t_fn, t_slc, t_slcA, t_slcT, t_tass, t_isn, t_mks, t_app, t_pan, panE_i, optE_none, optE_some, bnd_none, bnd_int, slA_none, slA_some, appR_some, appOld_cells, newsV_s, newsV_n, lenS_s, appV_nil, appV_some, mksV_i, sh_c, sh_g, f_pan, endD_ret, dfr_normal, dfr_ret, dfr_pan, restD_normal, callD1, callC1, tassV, isnV, slcV, slcAV, slcTV, slcB, appNew, Option.bind_some, Option.bind_none, d_pan, h_pan, wrH_eq, wrX_cells, wrU_some, upH_nil, upH_cons, lk_upH, effR_some, effR_none, effR_ite, Option.isNone_none, Option.isNone_some, slA_zero]
      with_reducible refine done2 ?_
      repeat (first | exact ext_same hBb hlb | refine ext_new' hN (up_none hBb hlb) ?_ | refine ext_new hN ?_ | exact fun _ _ h => h)
    · simp only [gOne, oneA, oneC, Int.reduceEq, or_self, or_true, true_or, false_or, or_false, if_true, if_false, hh, set_same]
      simp -implicitDefEqProofs (maxSteps := 10000000) (disch := omega) only [T21, L21, G21_9, V9_eq, G21_15, V15_eq, G21_16, V16_eq, G21_17, V17_eq, G21_18, V18_eq, G21_19, V19_eq, G21_20, V20_eq, hB, hR, hI, hl, hBm, hlm, hnm, hrd, hBb, hlb, hnb, hrb, h1, h2, h3, h4, e0, e1, tk_c hl, tk_c1 hl, tk_c2 hl, tk_s1 hl, tk_s2 hl, wr_c hl, wr_c2 hl, eLoad, eStore, eLL, eVL, eSC, eRL, look_nil, look_ptr, lookP_c, lookM_s, lookM_n, lookS_c, lookU_s, unf_fl, unf1, act_bad, act_good, gLoad, gStore, gLL, gVL, gSC, gRL, okP_iff, List.set_cons_zero, List.set_cons_succ, List.getD_cons_zero, List.getD_cons_succ, hh, set_same, pad, e_skip, e_ops, e_draw, d_none, d_nil, d_cons, d_ite, h_none, h_nil, h_cons, h_ite, eqS_same, lightV, e_seq, e_cond, e_block, e_loop, e_exit, e_ret, s_normal, s_ret, s_exit, s_none, s_ite, b_normal, b_ret, b_exit, b_none, b_ite, c_bool, x_none, x_nil, x_cons, x_ite, p_some, p_none, p_ite, pt_some, pt_none, pv_some, pv_none, pv_ite, w_none, w_some, i_bool, i_undef, bt, bf, v_tmp, v_const, v_global, v_func, evs, f_normal, f_ret, f_none, f_ite, r_some, co_some, l_ptr, m_agg, m_one, sh_app, lk_nil, lk_cons, rd_eq, rdO_some, rdO_none, rdN_none, rdL_some, rdL_none, wrB_none, unitR_some, wr_nil, wr_here, wr_skip, k_cells, tk_zero, tk_take, tk_skip, tkC_some, call_func, gt, st, binV, arith, isSh, storeV, all1, idxAV, fieldV, faddrV, iaddrSV, iaddrAV, pickV, convV, unV, eqbV, eqpV, extV, lenV, mm2, mmV, nilckV, ress, res1, retV, Value.cells, cond_true, cond_false, Bool.true_or, Bool.false_or, Bool.or_true, Bool.or_false, beq_self_eq_true, if_true, if_false, ite_true, ite_false, decide_true, decide_false, decide_eq_true_eq, reduceIte, Nat.zero_add, Nat.add_zero, and_self, true_and, and_true, List.size_toArray, List.length_cons, List.length_nil, List.append_nil, List.nil_append, Int.toNat_zero, Bool.not_false, Bool.not_true, Bool.not_not, Bool.false_eq_true, Bool.true_eq_false, reduceCtorEq, Int.reduceLT, Int.reduceLE, Int.reduceToNat, Int.reduceAdd, Int.reduceSub, Int.reduceMul, Int.reduceNeg, Nat.reduceMul, Nat.reduceAdd, Nat.reduceSub, Nat.reduceBEq, Nat.reduceEqDiff, Nat.reduceLT, Nat.reduceLeDiff, Int.reduceBEq, Int.reduceEq, Nat.reducePow, Int.reducePow, IntWalk.i64_in, IntKind.bits, eqAV, eqL, leafEq, andO, fillV, buildSV, List.getElem?_toArray, List.getElem?_cons_zero, List.getElem?_cons_succ, List.getElem?_nil, Int.reduceGT, Int.reduceGE, Int.reduceBNe, Bool.true_and, Bool.and_true, Bool.false_and, Bool.and_false, Bool.and_self, IntWalk.u64_in, Int.cast_ofNat_Int, callF1, pad16, pad_0, pad_1, pad_2, pad_3, pad_4, pad_5, pad_6, pad_7, pad_8, pad_9, pad_10, pad_11, pad_12, pad_13, pad_14, pad_15, gc0, gc1, gc2, gc3, gc4, gc5, gc6, gc7, gc8, gc9, gc10, gc11, gc12, gc13, gc14, gc15, gcS, sc0, sc1, sc2, sc3, sc4, sc5, sc6, sc7, sc8, sc9, sc10, sc11, sc12, sc13, sc14, sc15, scS, List.drop_succ_cons, List.drop_nil, x_pan, s_pan, b_pan, pE_ret, pE_pan, pE_none, pE_ite, pvE_some, pvE_none, pvE_ite, rv_some, rv_none, rv_ite, oR_ret, t_mv, t_pick, t_alloc, t_box, t_build, t_buildS, t_load, t_store, t_nilck, t_bin, t_eqb, t_eqA, t_eqp, t_un, t_conv, t_field, t_idxA, t_faddr, t_iaddrS, t_iaddrA, t_ext, t_len, t_mm, t_call, t_ifc, t_fn, t_slc, t_slcA, t_slcT, t_tass, t_isn, t_mks, t_app, t_pan, panE_i, optE_none, optE_some, bnd_none, bnd_int, slA_none, slA_some, appR_some, appOld_cells, newsV_s, newsV_n, lenS_s, appV_nil, appV_some, mksV_i, sh_c, sh_g, f_pan, endD_ret, dfr_normal, dfr_ret, dfr_pan, restD_normal, callD1, callC1, tassV, isnV, slcV, slcAV, slcTV, slcB, appNew, Option.bind_some, Option.bind_none, d_pan, h_pan, wrH_eq, wrX_cells, wrU_some, upH_nil, upH_cons, lk_upH, effR_some, effR_none, effR_ite, Option.isNone_none, Option.isNone_some, slA_zero]
      with_reducible refine done2 ?_
      repeat (first | exact ext_same hBb hlb | refine ext_new' hN (up_none hBb hlb) ?_ | refine ext_new hN ?_ | exact fun _ _ h => h)
  · simp only [gOne, oneA, oneC, Int.reduceEq, or_self, or_true, true_or, false_or, or_false, if_true, if_false]
    simp -implicitDefEqProofs (maxSteps := 10000000) (disch := omega) only [T21, L21, G21_9, V9_eq, G21_15, V15_eq, G21_16, V16_eq, G21_17, V17_eq, G21_18, V18_eq, G21_19, V19_eq, G21_20, V20_eq, hB, hR, hI, hl, hBm, hlm, hnm, hrd, hBb, hlb, hnb, hrb, h1, h2, h3, h4, e0, e1, tk_c hl, tk_c1 hl, tk_c2 hl, tk_s1 hl, tk_s2 hl, wr_c hl, wr_c2 hl, eLoad, eStore, eLL, eVL, eSC, eRL, look_nil, look_ptr, lookP_c, lookM_s, lookM_n, lookS_c, lookU_s, unf_fl, unf1, act_bad, act_good, gLoad, gStore, gLL, gVL, gSC, gRL, okP_iff, List.set_cons_zero, List.set_cons_succ, List.getD_cons_zero, List.getD_cons_succ, pad, e_skip, e_ops, e_draw, d_none, d_nil, d_cons, d_ite, h_none, h_nil, h_cons, h_ite, eqS_same, lightV, e_seq, e_cond, e_block, e_loop, e_exit, e_ret, s_normal, s_ret, s_exit, s_none, s_ite, b_normal, b_ret, b_exit, b_none, b_ite, c_bool, x_none, x_nil, x_cons, x_ite, p_some, p_none, p_ite, pt_some, pt_none, pv_some, pv_none, pv_ite, w_none, w_some, i_bool, i_undef, bt, bf, v_tmp, v_const, v_global, v_func, evs, f_normal, f_ret, f_none, f_ite, r_some, co_some, l_ptr, m_agg, m_one, sh_app, lk_nil, lk_cons, rd_eq, rdO_some, rdO_none, rdN_none, rdL_some, rdL_none, wrB_none, unitR_some, wr_nil, wr_here, wr_skip, k_cells, tk_zero, tk_take, tk_skip, tkC_some, call_func, gt, st, binV, arith, isSh, storeV, all1, idxAV, fieldV, faddrV, iaddrSV, iaddrAV, pickV, convV, unV, eqbV, eqpV, extV, lenV, mm2, mmV, nilckV, ress, res1, retV, Value.cells, cond_true, cond_false, Bool.true_or, Bool.false_or, Bool.or_true, Bool.or_false, beq_self_eq_true, if_true, if_false, ite_true, ite_false, decide_true, decide_false, decide_eq_true_eq, reduceIte, Nat.zero_add, Nat.add_zero, and_self, true_and, and_true, List.size_toArray, List.length_cons, List.length_nil, List.append_nil, List.nil_append, Int.toNat_zero, Bool.not_false, Bool.not_true, Bool.not_not, Bool.false_eq_true, Bool.true_eq_false, reduceCtorEq, Int.reduceLT, Int.reduceLE, Int.reduceToNat, Int.reduceAdd, Int.reduceSub, Int.reduceMul, Int.reduceNeg, Nat.reduceMul, Nat.reduceAdd, Nat.reduceSub, Nat.reduceBEq, Nat.reduceEqDiff, Nat.reduceLT, Nat.reduceLeDiff, Int.reduceBEq, Int.reduceEq, Nat.reducePow, Int.reducePow, IntWalk.i64_in, IntKind.bits, eqAV, eqL, leafEq, andO, fillV, buildSV, List.getElem?_toArray, List.getElem?_cons_zero, List.getElem?_cons_succ, List.getElem?_nil, Int.reduceGT, Int.reduceGE, Int.reduceBNe, Bool.true_and, Bool.and_true, Bool.false_and, Bool.and_false, Bool.and_self, IntWalk.u64_in, Int.cast_ofNat_Int, callF1, pad16, pad_0, pad_1, pad_2, pad_3, pad_4, pad_5, pad_6, pad_7, pad_8, pad_9, pad_10, pad_11, pad_12, pad_13, pad_14, pad_15, gc0, gc1, gc2, gc3, gc4, gc5, gc6, gc7, gc8, gc9, gc10, gc11, gc12, gc13, gc14, gc15, gcS, sc0, sc1, sc2, sc3, sc4, sc5, sc6, sc7, sc8, sc9, sc10, sc11, sc12, sc13, sc14, sc15, scS, List.drop_succ_cons, List.drop_nil, x_pan, s_pan, b_pan, pE_ret, pE_pan, pE_none, pE_ite, pvE_some, pvE_none, pvE_ite, rv_some, rv_none, rv_ite, oR_ret, t_mv, t_pick, t_alloc, t_box, t_build, t_buildS, t_load, t_store, t_nilck, t_bin, t_eqb, t_eqA, t_eqp, t_un, t_conv, t_field, t_idxA, t_faddr, t_iaddrS, t_iaddrA, t_ext, t_len, t_mm, t_call, t_ifc, t_fn, t_slc, t_slcA, t_slcT, t_tass, t_isn, t_mks, t_app, t_pan, panE_i, optE_none, optE_some, bnd_none, bnd_int, slA_none, slA_some, appR_some, appOld_cells, newsV_s, newsV_n, lenS_s, appV_nil, appV_some, mksV_i, sh_c, sh_g, f_pan, endD_ret, dfr_normal, dfr_ret, dfr_pan, restD_normal, callD1, callC1, tassV, isnV, slcV, slcAV, slcTV, slcB, appNew, Option.bind_some, Option.bind_none, d_pan, h_pan, wrH_eq, wrX_cells, wrU_some, upH_nil, upH_cons, lk_upH, effR_some, effR_none, effR_ite, Option.isNone_none, Option.isNone_some, slA_zero]
    with_reducible refine done2 ?_
    repeat (first | exact ext_same hBb hlb | refine ext_new' hN (up_none hBb hlb) ?_ | refine ext_new hN ?_ | exact fun _ _ h => h)
noncomputable def V21 (B : OH) : Cs := effC (eOne B)
theorem V21_eq {B : OH} {a : List Value} {H : HL} {N : St} : V21 B a H N = effR (eOne B a H) N := rfl
theorem sV21 {w0 : World} {B : OH} : SoundC Try.prog w0 B 21 (V21 B) := sT21.ofEff ev21
end Go.Proofs.Yteilhhkkhnnglaa
namespace Go.Proofs.Yteilhhkkhnnglaa
open Go.Proofs.Yteilhhkkhnnglaa.K Go.ChangeShapes Go.WideShapes Go.ChangeAt Go.RowKit
set_option maxRecDepth 100000
set_option linter.unusedSimpArgs false
set_option linter.unusedVariables false

theorem ok_some {x : X} {s : S} {R : X → S → Prop} (h : R x s) : Ok (some (x, s)) R := ⟨x, s, rfl, h⟩
def listU (n : Nat) : Option (List Cell) → Option (List Cell)
  | some L => if L.length = n ∧ n ≤ 100 then some L else none
  | none => none
noncomputable def listK (n : Nat) : Option KB → Option KB → Option (List Cell)
  | none, some (.cells cs _) => listU n (unf cs)
  | _, _ => none
noncomputable def listOf (B : OH) (H : HL) : List Value → Option (List Cell)
  | [.slice (some ⟨b, 0, none⟩) n _] => listK n (B b) (lk H b)
  | _ => none
theorem listOf_s {B H b n c} : listOf B H [.slice (some ⟨b, 0, none⟩) n c] = listK n (B b) (lk H b) := rfl
theorem listK_c {n cs k} : listK n none (some (.cells cs k)) = listU n (unf cs) := rfl
theorem listU_s {n L} : listU n (some L) = if L.length = n ∧ n ≤ 100 then some L else none := rfl
theorem listOf_inv {B H vs L} (h : listOf B H vs = some L) : ∃ b c k, vs = [.slice (some ⟨b, 0, none⟩) L.length c] ∧ B b = none ∧ lk H b = some (.cells (fcs L) k) ∧ L.length ≤ 100 := by
  unfold listOf at h
  split at h
  · rename_i b n c
    unfold listK at h
    split at h
    · rename_i cs k hB hl
      unfold listU at h
      split at h
      · rename_i M hM
        split at h
        · rename_i hn
          simp only [Option.some.injEq] at h
          subst h
          exact ⟨b, c, k, by rw [hn.1], hB, by rw [hl, unf_some hM], by omega⟩
        · cases h
      · cases h
    · cases h
  · cases h
noncomputable def eSame (B : OH) (a : List Value) (H : HL) : Option (E × HL) := match a with
  | [.agg xs, .agg ys] => (listOf B H xs.toList).bind fun L => (listOf B H ys.toList).bind fun M => if L = M then some (.ret (.bool true), H) else none
  | _ => none

/-- whitewash/whitewashref03.Same -/
def L12 : FnL := ⟨(.seq (.ops [⟨(some 2), .box (.tmp 0), none⟩, ⟨(some 3), .box (.tmp 1), none⟩, ⟨(some 4), .mv (.const (.bool false)), none⟩])
 (.seq (.seq (.ops [⟨(some 6), .faddr 0 (.tmp 2), none⟩, ⟨(some 7), .load false 1 (.tmp 6), none⟩, ⟨(some 8), .len false (.tmp 7), none⟩, ⟨(some 9), .faddr 0 (.tmp 3), none⟩, ⟨(some 10), .load false 1 (.tmp 9), none⟩, ⟨(some 11), .len false (.tmp 10), none⟩, ⟨(some 12), .bin .neq (.tmp 8) (.tmp 11), none⟩])
 (.cond (.tmp 12) (.seq (.ops [⟨(some 4), .mv (.const (.bool false)), none⟩])
 .ret)
 .skip))
 (.seq (.seq (.ops [⟨(some 5), .mv (.const (.int .i64 0)), none⟩])
 (.block 0 (.loop (.seq (.seq (.ops [⟨(some 13), .mv (.tmp 5), none⟩, ⟨(some 14), .faddr 0 (.tmp 2), none⟩, ⟨(some 15), .load false 1 (.tmp 14), none⟩, ⟨(some 16), .len false (.tmp 15), none⟩, ⟨(some 17), .bin .lss (.tmp 13) (.tmp 16), none⟩])
 (.cond (.tmp 17) .skip
 (.exit 0)))
 (.seq (.block 1 (.seq (.draw [⟨⟨(some 20), .faddr 0 (.tmp 2), none⟩, []⟩, ⟨⟨(some 21), .load false 1 (.tmp 20), none⟩, []⟩, ⟨⟨(some 22), .mv (.tmp 5), none⟩, []⟩, ⟨⟨(some 23), .iaddrS 2 (.tmp 21) (.tmp 22), none⟩, []⟩, ⟨⟨(some 24), .load true 2 (.tmp 23), none⟩, []⟩, ⟨⟨(some 25), .faddr 0 (.tmp 3), none⟩, []⟩, ⟨⟨(some 26), .load false 1 (.tmp 25), none⟩, []⟩, ⟨⟨(some 27), .mv (.tmp 5), none⟩, []⟩, ⟨⟨(some 28), .iaddrS 2 (.tmp 26) (.tmp 27), none⟩, []⟩, ⟨⟨(some 29), .load true 2 (.tmp 28), none⟩, []⟩, ⟨⟨(some 30), .eqA true [.int, .int] (.tmp 24) (.tmp 29), none⟩, []⟩])
 (.cond (.tmp 30) (.seq (.ops [⟨(some 4), .mv (.const (.bool false)), none⟩])
 .ret)
 .skip)))
 (.ops [⟨(some 18), .mv (.tmp 5), none⟩, ⟨(some 19), .bin .add (.tmp 18) (.const (.int .i64 1)), none⟩, ⟨(some 5), .mv (.tmp 19), none⟩]))))))
 (.seq (.ops [⟨(some 4), .mv (.const (.bool true)), none⟩])
 .ret)))),
 31, [.tmp 4]⟩
theorem low12 : lowerFn Try.prog Try.f12 = some L12 := by kernel_rfl
noncomputable def G12 (B : OH) : Nat → Cs
  | _ => fun _ _ _ => none
theorem sG12 {w0 : World} {B : OH} : SoundG Try.prog w0 B (G12 B) := fun k => by
  unfold G12
  split
  · exact .inl fun _ _ _ => rfl
theorem en12 : Enter Try.prog 12 := .of Try.func12 (by kernel_rfl) (by kernel_rfl)
noncomputable def T12 (B : OH) : Cs := callF B (G12 B) 200 L12
theorem sT12 {w0 : World} {B : OH} : SoundC Try.prog w0 B 12 (T12 B) := callF_sound mixedOrders sG12 200 Try.func12 low12
set_option maxHeartbeats 4000000 in
theorem ev12 {B : OH} : Eff B (T12 B) (eSame B) := by
  intro args x H H1 N hf hN
  have hB := good_B hN
  have hR := good_rdB hN
  have hI := beqN hN.1.1
  unfold eSame at hf
  split at hf
  rotate_left
  · cases hf
  rename_i xs ys
  cases h1 : listOf B H xs.toList with
  | none => rw [h1] at hf; cases hf
  | some L =>
  cases h2 : listOf B H ys.toList with
  | none => rw [h1, h2] at hf; cases hf
  | some M =>
  rw [h1, h2] at hf
  simp only [Option.bind_some] at hf
  split at hf
  rotate_left
  · cases hf
  rename_i hLM
  subst hLM
  simp only [Option.some.injEq, Prod.mk.injEq] at hf
  obtain ⟨rfl, rfl⟩ := hf
  obtain ⟨b, c, k, hx, hBb, hlb, hle⟩ := listOf_inv h1
  obtain ⟨b', c', k', hy, hBc, hlc, _⟩ := listOf_inv h2
  obtain rfl : xs = #[.slice (some ⟨b, 0, none⟩) L.length c] := by apply Array.ext'; simpa using hx
  obtain rfl : ys = #[.slice (some ⟨b', 0, none⟩) L.length c'] := by apply Array.ext'; simpa using hy
  have hnb := ne_good hN hBb hlb
  have hrb : rdB B b = fun _ _ => none := by funext o n; simp [rdB, hBb]
  have hnc := ne_good hN hBc hlc
  have hrc : rdB B b' = fun _ _ => none := by funext o n; simp [rdB, hBc]
  refine eff_same ?_
  simp -implicitDefEqProofs (maxSteps := 10000000) (disch := omega) only [T12, L12, hB, hR, hI, pad, e_skip, e_ops, e_draw, d_none, d_nil, d_cons, d_ite, h_none, h_nil, h_cons, h_ite, eqS_same, lightV, e_seq, e_cond, e_block, e_exit, e_ret, s_normal, s_ret, s_exit, s_none, s_ite, b_normal, b_ret, b_exit, b_none, b_ite, c_bool, x_none, x_nil, x_cons, x_ite, p_some, p_none, p_ite, pt_some, pt_none, pv_some, pv_none, pv_ite, w_none, w_some, i_bool, i_undef, bt, bf, v_tmp, v_const, v_global, v_func, evs, f_normal, f_ret, f_none, f_ite, r_some, co_some, l_ptr, m_agg, m_one, sh_app, lk_nil, lk_cons, rd_eq, rdO_some, rdO_none, rdN_none, rdL_some, rdL_none, wrB_none, unitR_some, wr_nil, wr_here, wr_skip, k_cells, tk_zero, tk_take, tk_skip, tkC_some, call_func, gt, st, binV, arith, isSh, storeV, all1, idxAV, fieldV, faddrV, iaddrSV, iaddrAV, pickV, convV, unV, eqbV, eqpV, extV, lenV, mm2, mmV, nilckV, ress, res1, retV, Value.cells, cond_true, cond_false, Bool.true_or, Bool.false_or, Bool.or_true, Bool.or_false, beq_self_eq_true, if_true, if_false, ite_true, ite_false, decide_true, decide_false, decide_eq_true_eq, reduceIte, Nat.zero_add, Nat.add_zero, and_self, true_and, and_true, List.size_toArray, List.length_cons, List.length_nil, List.append_nil, List.nil_append, Int.toNat_zero, Bool.not_false, Bool.not_true, Bool.not_not, Bool.false_eq_true, Bool.true_eq_false, reduceCtorEq, Int.reduceLT, Int.reduceLE, Int.reduceToNat, Int.reduceAdd, Int.reduceSub, Int.reduceMul, Int.reduceNeg, Nat.reduceMul, Nat.reduceAdd, Nat.reduceSub, Nat.reduceBEq, Nat.reduceEqDiff, Nat.reduceLT, Nat.reduceLeDiff, Int.reduceBEq, Int.reduceEq, Nat.reducePow, Int.reducePow, IntWalk.i64_in, IntKind.bits, eqAV, eqL, leafEq, andO, fillV, buildSV, List.getElem?_toArray, List.getElem?_cons_zero, List.getElem?_cons_succ, List.getElem?_nil, Int.reduceGT, Int.reduceGE, Int.reduceBNe, Bool.true_and, Bool.and_true, Bool.false_and, Bool.and_false, Bool.and_self, IntWalk.u64_in, Int.cast_ofNat_Int, callF1, pad16, pad_0, pad_1, pad_2, pad_3, pad_4, pad_5, pad_6, pad_7, pad_8, pad_9, pad_10, pad_11, pad_12, pad_13, pad_14, pad_15, gc0, gc1, gc2, gc3, gc4, gc5, gc6, gc7, gc8, gc9, gc10, gc11, gc12, gc13, gc14, gc15, gcS, sc0, sc1, sc2, sc3, sc4, sc5, sc6, sc7, sc8, sc9, sc10, sc11, sc12, sc13, sc14, sc15, scS, List.drop_succ_cons, List.drop_nil, x_pan, s_pan, b_pan, pE_ret, pE_pan, pE_none, pE_ite, pvE_some, pvE_none, pvE_ite, rv_some, rv_none, rv_ite, oR_ret, t_mv, t_pick, t_alloc, t_box, t_build, t_buildS, t_load, t_store, t_nilck, t_bin, t_eqb, t_eqA, t_eqp, t_un, t_conv, t_field, t_idxA, t_faddr, t_iaddrS, t_iaddrA, t_ext, t_len, t_mm, t_call, t_ifc, t_fn, t_slc, t_slcA, t_slcT, t_tass, t_isn, t_mks, t_app, t_pan, panE_i, optE_none, optE_some, bnd_none, bnd_int, slA_none, slA_some, appR_some, appOld_cells, newsV_s, newsV_n, lenS_s, appV_nil, appV_some, mksV_i, sh_c, sh_g, f_pan, endD_ret, dfr_normal, dfr_ret, dfr_pan, restD_normal, callD1, callC1, tassV, isnV, slcV, slcAV, slcTV, slcB, appNew, Option.bind_some, Option.bind_none, d_pan, h_pan, wrH_eq, wrX_cells, wrU_some, upH_nil, upH_cons, lk_upH, effR_some, effR_none, effR_ite, Option.isNone_none, Option.isNone_some, slA_zero]
  generalize hE : exec B (G12 B) _ (LC.loop _) _ = o
  have hO : Ok o (fun x s => ∃ ts, s = ⟨ts, (N.n 1, KB.cells [.slice (some ⟨b', 0, none⟩) L.length c'] 1) :: (N.n 0, KB.cells [.slice (some ⟨b, 0, none⟩) L.length c] 1) :: H, sh (sh N)⟩ ∧ ts.length = 31 ∧ x = .exit 0) := by
    rw [← hE]
    refine loop_rule (n0 := 40) (fun k s => ∃ ts i, s = ⟨ts, (N.n 1, KB.cells [.slice (some ⟨b', 0, none⟩) L.length c'] 1) :: (N.n 0, KB.cells [.slice (some ⟨b, 0, none⟩) L.length c] 1) :: H, sh (sh N)⟩ ∧ ts.length = 31 ∧ gt ts 2 = .pointer (some ⟨N 0, 0, none⟩) ∧ gt ts 3 = .pointer (some ⟨N 1, 0, none⟩) ∧ gt ts 5 = .int .i64 i ∧ 0 ≤ i ∧ i ≤ L.length ∧ k = L.length - i.toNat) _ ?_ L.length _ ⟨_, 0, rfl, by rfl, rfl, rfl, rfl, by omega, by omega, by simp⟩ _ (by omega)
    rintro n k s ⟨ts, i, rfl, hts, t2, t3, t5, i0, i1, hk⟩
    by_cases hi : i < L.length
    · have hl : i.toNat < L.length := by omega
      simp -implicitDefEqProofs (maxSteps := 10000000) (disch := omega) only [T12, L12, hB, hR, hI, hi, hl, hts, t2, t3, t5, i0, gtst, st_len, hnb, hnc, hBb, hBc, hrb, hrc, hlb, hlc, tk_c hl, bne_self_eq_false, pad, e_skip, e_ops, e_draw, d_none, d_nil, d_cons, d_ite, h_none, h_nil, h_cons, h_ite, eqS_same, lightV, e_seq, e_cond, e_block, e_exit, e_ret, s_normal, s_ret, s_exit, s_none, s_ite, b_normal, b_ret, b_exit, b_none, b_ite, c_bool, x_none, x_nil, x_cons, x_ite, p_some, p_none, p_ite, pt_some, pt_none, pv_some, pv_none, pv_ite, w_none, w_some, i_bool, i_undef, bt, bf, v_tmp, v_const, v_global, v_func, evs, f_normal, f_ret, f_none, f_ite, r_some, co_some, l_ptr, m_agg, m_one, sh_app, lk_nil, lk_cons, rd_eq, rdO_some, rdO_none, rdN_none, rdL_some, rdL_none, wrB_none, unitR_some, wr_nil, wr_here, wr_skip, k_cells, tk_zero, tk_take, tk_skip, tkC_some, call_func, gt, st, binV, arith, isSh, storeV, all1, idxAV, fieldV, faddrV, iaddrSV, iaddrAV, pickV, convV, unV, eqbV, eqpV, extV, lenV, mm2, mmV, nilckV, ress, res1, retV, Value.cells, cond_true, cond_false, Bool.true_or, Bool.false_or, Bool.or_true, Bool.or_false, beq_self_eq_true, if_true, if_false, ite_true, ite_false, decide_true, decide_false, decide_eq_true_eq, reduceIte, Nat.zero_add, Nat.add_zero, and_self, true_and, and_true, List.size_toArray, List.length_cons, List.length_nil, List.append_nil, List.nil_append, Int.toNat_zero, Bool.not_false, Bool.not_true, Bool.not_not, Bool.false_eq_true, Bool.true_eq_false, reduceCtorEq, Int.reduceLT, Int.reduceLE, Int.reduceToNat, Int.reduceAdd, Int.reduceSub, Int.reduceMul, Int.reduceNeg, Nat.reduceMul, Nat.reduceAdd, Nat.reduceSub, Nat.reduceBEq, Nat.reduceEqDiff, Nat.reduceLT, Nat.reduceLeDiff, Int.reduceBEq, Int.reduceEq, Nat.reducePow, Int.reducePow, IntWalk.i64_in, IntKind.bits, eqAV, eqL, leafEq, andO, fillV, buildSV, List.getElem?_toArray, List.getElem?_cons_zero, List.getElem?_cons_succ, List.getElem?_nil, Int.reduceGT, Int.reduceGE, Int.reduceBNe, Bool.true_and, Bool.and_true, Bool.false_and, Bool.and_false, Bool.and_self, IntWalk.u64_in, Int.cast_ofNat_Int, callF1, pad16, pad_0, pad_1, pad_2, pad_3, pad_4, pad_5, pad_6, pad_7, pad_8, pad_9, pad_10, pad_11, pad_12, pad_13, pad_14, pad_15, gc0, gc1, gc2, gc3, gc4, gc5, gc6, gc7, gc8, gc9, gc10, gc11, gc12, gc13, gc14, gc15, gcS, sc0, sc1, sc2, sc3, sc4, sc5, sc6, sc7, sc8, sc9, sc10, sc11, sc12, sc13, sc14, sc15, scS, List.drop_succ_cons, List.drop_nil, x_pan, s_pan, b_pan, pE_ret, pE_pan, pE_none, pE_ite, pvE_some, pvE_none, pvE_ite, rv_some, rv_none, rv_ite, oR_ret, t_mv, t_pick, t_alloc, t_box, t_build, t_buildS, t_load, t_store, t_nilck, t_bin, t_eqb, t_eqA, t_eqp, t_un, t_conv, t_field, t_idxA, t_faddr, t_iaddrS, t_iaddrA, t_ext, t_len, t_mm, t_call, t_ifc, t_fn, t_slc, t_slcA, t_slcT, t_tass, t_isn, t_mks, t_app, t_pan, panE_i, optE_none, optE_some, bnd_none, bnd_int, slA_none, slA_some, appR_some, appOld_cells, newsV_s, newsV_n, lenS_s, appV_nil, appV_some, mksV_i, sh_c, sh_g, f_pan, endD_ret, dfr_normal, dfr_ret, dfr_pan, restD_normal, callD1, callC1, tassV, isnV, slcV, slcAV, slcTV, slcB, appNew, Option.bind_some, Option.bind_none, d_pan, h_pan, wrH_eq, wrX_cells, wrU_some, upH_nil, upH_cons, lk_upH, effR_some, effR_none, effR_ite, Option.isNone_none, Option.isNone_some, slA_zero]
      refine ok_some (.inl ⟨rfl, L.length - (i + 1).toNat, by omega, _, i + 1, rfl, ?_, ?_, ?_, ?_, by omega, by omega, rfl⟩
        )
      all_goals simp -implicitDefEqProofs (maxSteps := 10000000) (disch := omega) only [T12, L12, hB, hR, hI, hts, t2, t3, t5, gtst, st_len, pad, e_skip, e_ops, e_draw, d_none, d_nil, d_cons, d_ite, h_none, h_nil, h_cons, h_ite, eqS_same, lightV, e_seq, e_cond, e_block, e_exit, e_ret, s_normal, s_ret, s_exit, s_none, s_ite, b_normal, b_ret, b_exit, b_none, b_ite, c_bool, x_none, x_nil, x_cons, x_ite, p_some, p_none, p_ite, pt_some, pt_none, pv_some, pv_none, pv_ite, w_none, w_some, i_bool, i_undef, bt, bf, v_tmp, v_const, v_global, v_func, evs, f_normal, f_ret, f_none, f_ite, r_some, co_some, l_ptr, m_agg, m_one, sh_app, lk_nil, lk_cons, rd_eq, rdO_some, rdO_none, rdN_none, rdL_some, rdL_none, wrB_none, unitR_some, wr_nil, wr_here, wr_skip, k_cells, tk_zero, tk_take, tk_skip, tkC_some, call_func, gt, st, binV, arith, isSh, storeV, all1, idxAV, fieldV, faddrV, iaddrSV, iaddrAV, pickV, convV, unV, eqbV, eqpV, extV, lenV, mm2, mmV, nilckV, ress, res1, retV, Value.cells, cond_true, cond_false, Bool.true_or, Bool.false_or, Bool.or_true, Bool.or_false, beq_self_eq_true, if_true, if_false, ite_true, ite_false, decide_true, decide_false, decide_eq_true_eq, reduceIte, Nat.zero_add, Nat.add_zero, and_self, true_and, and_true, List.size_toArray, List.length_cons, List.length_nil, List.append_nil, List.nil_append, Int.toNat_zero, Bool.not_false, Bool.not_true, Bool.not_not, Bool.false_eq_true, Bool.true_eq_false, reduceCtorEq, Int.reduceLT, Int.reduceLE, Int.reduceToNat, Int.reduceAdd, Int.reduceSub, Int.reduceMul, Int.reduceNeg, Nat.reduceMul, Nat.reduceAdd, Nat.reduceSub, Nat.reduceBEq, Nat.reduceEqDiff, Nat.reduceLT, Nat.reduceLeDiff, Int.reduceBEq, Int.reduceEq, Nat.reducePow, Int.reducePow, IntWalk.i64_in, IntKind.bits, eqAV, eqL, leafEq, andO, fillV, buildSV, List.getElem?_toArray, List.getElem?_cons_zero, List.getElem?_cons_succ, List.getElem?_nil, Int.reduceGT, Int.reduceGE, Int.reduceBNe, Bool.true_and, Bool.and_true, Bool.false_and, Bool.and_false, Bool.and_self, IntWalk.u64_in, Int.cast_ofNat_Int, callF1, pad16, pad_0, pad_1, pad_2, pad_3, pad_4, pad_5, pad_6, pad_7, pad_8, pad_9, pad_10, pad_11, pad_12, pad_13, pad_14, pad_15, gc0, gc1, gc2, gc3, gc4, gc5, gc6, gc7, gc8, gc9, gc10, gc11, gc12, gc13, gc14, gc15, gcS, sc0, sc1, sc2, sc3, sc4, sc5, sc6, sc7, sc8, sc9, sc10, sc11, sc12, sc13, sc14, sc15, scS, List.drop_succ_cons, List.drop_nil, x_pan, s_pan, b_pan, pE_ret, pE_pan, pE_none, pE_ite, pvE_some, pvE_none, pvE_ite, rv_some, rv_none, rv_ite, oR_ret, t_mv, t_pick, t_alloc, t_box, t_build, t_buildS, t_load, t_store, t_nilck, t_bin, t_eqb, t_eqA, t_eqp, t_un, t_conv, t_field, t_idxA, t_faddr, t_iaddrS, t_iaddrA, t_ext, t_len, t_mm, t_call, t_ifc, t_fn, t_slc, t_slcA, t_slcT, t_tass, t_isn, t_mks, t_app, t_pan, panE_i, optE_none, optE_some, bnd_none, bnd_int, slA_none, slA_some, appR_some, appOld_cells, newsV_s, newsV_n, lenS_s, appV_nil, appV_some, mksV_i, sh_c, sh_g, f_pan, endD_ret, dfr_normal, dfr_ret, dfr_pan, restD_normal, callD1, callC1, tassV, isnV, slcV, slcAV, slcTV, slcB, appNew, Option.bind_some, Option.bind_none, d_pan, h_pan, wrH_eq, wrX_cells, wrU_some, upH_nil, upH_cons, lk_upH, effR_some, effR_none, effR_ite, Option.isNone_none, Option.isNone_some, slA_zero]
    · simp -implicitDefEqProofs (maxSteps := 10000000) (disch := omega) only [T12, L12, hB, hR, hI, hi, hts, t2, t3, t5, i0, gtst, st_len, hnb, hnc, hBb, hBc, hrb, hrc, hlb, hlc, pad, e_skip, e_ops, e_draw, d_none, d_nil, d_cons, d_ite, h_none, h_nil, h_cons, h_ite, eqS_same, lightV, e_seq, e_cond, e_block, e_exit, e_ret, s_normal, s_ret, s_exit, s_none, s_ite, b_normal, b_ret, b_exit, b_none, b_ite, c_bool, x_none, x_nil, x_cons, x_ite, p_some, p_none, p_ite, pt_some, pt_none, pv_some, pv_none, pv_ite, w_none, w_some, i_bool, i_undef, bt, bf, v_tmp, v_const, v_global, v_func, evs, f_normal, f_ret, f_none, f_ite, r_some, co_some, l_ptr, m_agg, m_one, sh_app, lk_nil, lk_cons, rd_eq, rdO_some, rdO_none, rdN_none, rdL_some, rdL_none, wrB_none, unitR_some, wr_nil, wr_here, wr_skip, k_cells, tk_zero, tk_take, tk_skip, tkC_some, call_func, gt, st, binV, arith, isSh, storeV, all1, idxAV, fieldV, faddrV, iaddrSV, iaddrAV, pickV, convV, unV, eqbV, eqpV, extV, lenV, mm2, mmV, nilckV, ress, res1, retV, Value.cells, cond_true, cond_false, Bool.true_or, Bool.false_or, Bool.or_true, Bool.or_false, beq_self_eq_true, if_true, if_false, ite_true, ite_false, decide_true, decide_false, decide_eq_true_eq, reduceIte, Nat.zero_add, Nat.add_zero, and_self, true_and, and_true, List.size_toArray, List.length_cons, List.length_nil, List.append_nil, List.nil_append, Int.toNat_zero, Bool.not_false, Bool.not_true, Bool.not_not, Bool.false_eq_true, Bool.true_eq_false, reduceCtorEq, Int.reduceLT, Int.reduceLE, Int.reduceToNat, Int.reduceAdd, Int.reduceSub, Int.reduceMul, Int.reduceNeg, Nat.reduceMul, Nat.reduceAdd, Nat.reduceSub, Nat.reduceBEq, Nat.reduceEqDiff, Nat.reduceLT, Nat.reduceLeDiff, Int.reduceBEq, Int.reduceEq, Nat.reducePow, Int.reducePow, IntWalk.i64_in, IntKind.bits, eqAV, eqL, leafEq, andO, fillV, buildSV, List.getElem?_toArray, List.getElem?_cons_zero, List.getElem?_cons_succ, List.getElem?_nil, Int.reduceGT, Int.reduceGE, Int.reduceBNe, Bool.true_and, Bool.and_true, Bool.false_and, Bool.and_false, Bool.and_self, IntWalk.u64_in, Int.cast_ofNat_Int, callF1, pad16, pad_0, pad_1, pad_2, pad_3, pad_4, pad_5, pad_6, pad_7, pad_8, pad_9, pad_10, pad_11, pad_12, pad_13, pad_14, pad_15, gc0, gc1, gc2, gc3, gc4, gc5, gc6, gc7, gc8, gc9, gc10, gc11, gc12, gc13, gc14, gc15, gcS, sc0, sc1, sc2, sc3, sc4, sc5, sc6, sc7, sc8, sc9, sc10, sc11, sc12, sc13, sc14, sc15, scS, List.drop_succ_cons, List.drop_nil, x_pan, s_pan, b_pan, pE_ret, pE_pan, pE_none, pE_ite, pvE_some, pvE_none, pvE_ite, rv_some, rv_none, rv_ite, oR_ret, t_mv, t_pick, t_alloc, t_box, t_build, t_buildS, t_load, t_store, t_nilck, t_bin, t_eqb, t_eqA, t_eqp, t_un, t_conv, t_field, t_idxA, t_faddr, t_iaddrS, t_iaddrA, t_ext, t_len, t_mm, t_call, t_ifc, t_fn, t_slc, t_slcA, t_slcT, t_tass, t_isn, t_mks, t_app, t_pan, panE_i, optE_none, optE_some, bnd_none, bnd_int, slA_none, slA_some, appR_some, appOld_cells, newsV_s, newsV_n, lenS_s, appV_nil, appV_some, mksV_i, sh_c, sh_g, f_pan, endD_ret, dfr_normal, dfr_ret, dfr_pan, restD_normal, callD1, callC1, tassV, isnV, slcV, slcAV, slcTV, slcB, appNew, Option.bind_some, Option.bind_none, d_pan, h_pan, wrH_eq, wrX_cells, wrU_some, upH_nil, upH_cons, lk_upH, effR_some, effR_none, effR_ite, Option.isNone_none, Option.isNone_some, slA_zero]
      refine ok_some (.inr ⟨by simp, _, rfl, ?_, rfl⟩)
      simp -implicitDefEqProofs (maxSteps := 10000000) (disch := omega) only [T12, L12, hB, hR, hI, hts, st_len, pad, e_skip, e_ops, e_draw, d_none, d_nil, d_cons, d_ite, h_none, h_nil, h_cons, h_ite, eqS_same, lightV, e_seq, e_cond, e_block, e_exit, e_ret, s_normal, s_ret, s_exit, s_none, s_ite, b_normal, b_ret, b_exit, b_none, b_ite, c_bool, x_none, x_nil, x_cons, x_ite, p_some, p_none, p_ite, pt_some, pt_none, pv_some, pv_none, pv_ite, w_none, w_some, i_bool, i_undef, bt, bf, v_tmp, v_const, v_global, v_func, evs, f_normal, f_ret, f_none, f_ite, r_some, co_some, l_ptr, m_agg, m_one, sh_app, lk_nil, lk_cons, rd_eq, rdO_some, rdO_none, rdN_none, rdL_some, rdL_none, wrB_none, unitR_some, wr_nil, wr_here, wr_skip, k_cells, tk_zero, tk_take, tk_skip, tkC_some, call_func, gt, st, binV, arith, isSh, storeV, all1, idxAV, fieldV, faddrV, iaddrSV, iaddrAV, pickV, convV, unV, eqbV, eqpV, extV, lenV, mm2, mmV, nilckV, ress, res1, retV, Value.cells, cond_true, cond_false, Bool.true_or, Bool.false_or, Bool.or_true, Bool.or_false, beq_self_eq_true, if_true, if_false, ite_true, ite_false, decide_true, decide_false, decide_eq_true_eq, reduceIte, Nat.zero_add, Nat.add_zero, and_self, true_and, and_true, List.size_toArray, List.length_cons, List.length_nil, List.append_nil, List.nil_append, Int.toNat_zero, Bool.not_false, Bool.not_true, Bool.not_not, Bool.false_eq_true, Bool.true_eq_false, reduceCtorEq, Int.reduceLT, Int.reduceLE, Int.reduceToNat, Int.reduceAdd, Int.reduceSub, Int.reduceMul, Int.reduceNeg, Nat.reduceMul, Nat.reduceAdd, Nat.reduceSub, Nat.reduceBEq, Nat.reduceEqDiff, Nat.reduceLT, Nat.reduceLeDiff, Int.reduceBEq, Int.reduceEq, Nat.reducePow, Int.reducePow, IntWalk.i64_in, IntKind.bits, eqAV, eqL, leafEq, andO, fillV, buildSV, List.getElem?_toArray, List.getElem?_cons_zero, List.getElem?_cons_succ, List.getElem?_nil, Int.reduceGT, Int.reduceGE, Int.reduceBNe, Bool.true_and, Bool.and_true, Bool.false_and, Bool.and_false, Bool.and_self, IntWalk.u64_in, Int.cast_ofNat_Int, callF1, pad16, pad_0, pad_1, pad_2, pad_3, pad_4, pad_5, pad_6, pad_7, pad_8, pad_9, pad_10, pad_11, pad_12, pad_13, pad_14, pad_15, gc0, gc1, gc2, gc3, gc4, gc5, gc6, gc7, gc8, gc9, gc10, gc11, gc12, gc13, gc14, gc15, gcS, sc0, sc1, sc2, sc3, sc4, sc5, sc6, sc7, sc8, sc9, sc10, sc11, sc12, sc13, sc14, sc15, scS, List.drop_succ_cons, List.drop_nil, x_pan, s_pan, b_pan, pE_ret, pE_pan, pE_none, pE_ite, pvE_some, pvE_none, pvE_ite, rv_some, rv_none, rv_ite, oR_ret, t_mv, t_pick, t_alloc, t_box, t_build, t_buildS, t_load, t_store, t_nilck, t_bin, t_eqb, t_eqA, t_eqp, t_un, t_conv, t_field, t_idxA, t_faddr, t_iaddrS, t_iaddrA, t_ext, t_len, t_mm, t_call, t_ifc, t_fn, t_slc, t_slcA, t_slcT, t_tass, t_isn, t_mks, t_app, t_pan, panE_i, optE_none, optE_some, bnd_none, bnd_int, slA_none, slA_some, appR_some, appOld_cells, newsV_s, newsV_n, lenS_s, appV_nil, appV_some, mksV_i, sh_c, sh_g, f_pan, endD_ret, dfr_normal, dfr_ret, dfr_pan, restD_normal, callD1, callC1, tassV, isnV, slcV, slcAV, slcTV, slcB, appNew, Option.bind_some, Option.bind_none, d_pan, h_pan, wrH_eq, wrX_cells, wrU_some, upH_nil, upH_cons, lk_upH, effR_some, effR_none, effR_ite, Option.isNone_none, Option.isNone_some, slA_zero]
  obtain ⟨x, s', rfl, ts, rfl, hts, rfl⟩ := hO
  simp -implicitDefEqProofs (maxSteps := 10000000) (disch := omega) only [T12, L12, hB, hR, hI, hts, gtst, st_len, bne_self_eq_false, pad, e_skip, e_ops, e_draw, d_none, d_nil, d_cons, d_ite, h_none, h_nil, h_cons, h_ite, eqS_same, lightV, e_seq, e_cond, e_block, e_exit, e_ret, s_normal, s_ret, s_exit, s_none, s_ite, b_normal, b_ret, b_exit, b_none, b_ite, c_bool, x_none, x_nil, x_cons, x_ite, p_some, p_none, p_ite, pt_some, pt_none, pv_some, pv_none, pv_ite, w_none, w_some, i_bool, i_undef, bt, bf, v_tmp, v_const, v_global, v_func, evs, f_normal, f_ret, f_none, f_ite, r_some, co_some, l_ptr, m_agg, m_one, sh_app, lk_nil, lk_cons, rd_eq, rdO_some, rdO_none, rdN_none, rdL_some, rdL_none, wrB_none, unitR_some, wr_nil, wr_here, wr_skip, k_cells, tk_zero, tk_take, tk_skip, tkC_some, call_func, gt, st, binV, arith, isSh, storeV, all1, idxAV, fieldV, faddrV, iaddrSV, iaddrAV, pickV, convV, unV, eqbV, eqpV, extV, lenV, mm2, mmV, nilckV, ress, res1, retV, Value.cells, cond_true, cond_false, Bool.true_or, Bool.false_or, Bool.or_true, Bool.or_false, beq_self_eq_true, if_true, if_false, ite_true, ite_false, decide_true, decide_false, decide_eq_true_eq, reduceIte, Nat.zero_add, Nat.add_zero, and_self, true_and, and_true, List.size_toArray, List.length_cons, List.length_nil, List.append_nil, List.nil_append, Int.toNat_zero, Bool.not_false, Bool.not_true, Bool.not_not, Bool.false_eq_true, Bool.true_eq_false, reduceCtorEq, Int.reduceLT, Int.reduceLE, Int.reduceToNat, Int.reduceAdd, Int.reduceSub, Int.reduceMul, Int.reduceNeg, Nat.reduceMul, Nat.reduceAdd, Nat.reduceSub, Nat.reduceBEq, Nat.reduceEqDiff, Nat.reduceLT, Nat.reduceLeDiff, Int.reduceBEq, Int.reduceEq, Nat.reducePow, Int.reducePow, IntWalk.i64_in, IntKind.bits, eqAV, eqL, leafEq, andO, fillV, buildSV, List.getElem?_toArray, List.getElem?_cons_zero, List.getElem?_cons_succ, List.getElem?_nil, Int.reduceGT, Int.reduceGE, Int.reduceBNe, Bool.true_and, Bool.and_true, Bool.false_and, Bool.and_false, Bool.and_self, IntWalk.u64_in, Int.cast_ofNat_Int, callF1, pad16, pad_0, pad_1, pad_2, pad_3, pad_4, pad_5, pad_6, pad_7, pad_8, pad_9, pad_10, pad_11, pad_12, pad_13, pad_14, pad_15, gc0, gc1, gc2, gc3, gc4, gc5, gc6, gc7, gc8, gc9, gc10, gc11, gc12, gc13, gc14, gc15, gcS, sc0, sc1, sc2, sc3, sc4, sc5, sc6, sc7, sc8, sc9, sc10, sc11, sc12, sc13, sc14, sc15, scS, List.drop_succ_cons, List.drop_nil, x_pan, s_pan, b_pan, pE_ret, pE_pan, pE_none, pE_ite, pvE_some, pvE_none, pvE_ite, rv_some, rv_none, rv_ite, oR_ret, t_mv, t_pick, t_alloc, t_box, t_build, t_buildS, t_load, t_store, t_nilck, t_bin, t_eqb, t_eqA, t_eqp, t_un, t_conv, t_field, t_idxA, t_faddr, t_iaddrS, t_iaddrA, t_ext, t_len, t_mm, t_call, t_ifc, t_fn, t_slc, t_slcA, t_slcT, t_tass, t_isn, t_mks, t_app, t_pan, panE_i, optE_none, optE_some, bnd_none, bnd_int, slA_none, slA_some, appR_some, appOld_cells, newsV_s, newsV_n, lenS_s, appV_nil, appV_some, mksV_i, sh_c, sh_g, f_pan, endD_ret, dfr_normal, dfr_ret, dfr_pan, restD_normal, callD1, callC1, tassV, isnV, slcV, slcAV, slcTV, slcB, appNew, Option.bind_some, Option.bind_none, d_pan, h_pan, wrH_eq, wrX_cells, wrU_some, upH_nil, upH_cons, lk_upH, effR_some, effR_none, effR_ite, Option.isNone_none, Option.isNone_some, slA_zero]
  with_reducible refine done2 ?_
  repeat (first | refine ext_new hN ?_ | exact fun _ _ h => h)
noncomputable def V12 (B : OH) : Cs := effC (eSame B)
theorem V12_eq {B : OH} {a : List Value} {H : HL} {N : St} : V12 B a H N = effR (eSame B a H) N := rfl
theorem sV12 {w0 : World} {B : OH} : SoundC Try.prog w0 B 12 (V12 B) := sT12.ofEff ev12
/-- whitewash/whitewashref03.Own -/
def L13 : FnL := ⟨(.seq (.ops [⟨(some 1), .box (.tmp 0), none⟩, ⟨(some 2), .alloc [(.slice none 0 0)], none⟩])
 (.seq (.ops [⟨(some 3), .faddr 0 (.tmp 1), none⟩, ⟨(some 4), .load false 1 (.tmp 3), none⟩, ⟨(some 5), .app [(.int .u64 0), (.int .i64 0)] 16 (.const (.slice none 0 0)) (.tmp 4), none⟩, ⟨(some 6), .build [(.slice none 0 0)] [(0, 1, (.tmp 5))], none⟩, ⟨none, .store 1 (.tmp 2) (.tmp 6), none⟩])
 .ret)),
 7, [.cell 2 true 1]⟩
theorem low13 : lowerFn Try.prog Try.f13 = some L13 := by kernel_rfl
noncomputable def G13 (B : OH) : Nat → Cs
  | _ => fun _ _ _ => none
theorem sG13 {w0 : World} {B : OH} : SoundG Try.prog w0 B (G13 B) := fun k => by
  unfold G13
  split
  · exact .inl fun _ _ _ => rfl
theorem en13 : Enter Try.prog 13 := .of Try.func13 (by kernel_rfl) (by kernel_rfl)
noncomputable def T13 (B : OH) : Cs := callF B (G13 B) 200 L13
theorem sT13 {w0 : World} {B : OH} : SoundC Try.prog w0 B 13 (T13 B) := callF_sound mixedOrders sG13 200 Try.func13 low13
noncomputable def V13 (B : OH) : Cs := T13 B
theorem sV13 {w0 : World} {B : OH} : SoundC Try.prog w0 B 13 (V13 B) := sT13
end Go.Proofs.Yteilhhkkhnnglaa
namespace Go.Proofs.Yteilhhkkhnnglaa
open Go.Proofs.Yteilhhkkhnnglaa.K Go.ChangeShapes Go.WideShapes Go.ChangeAt Go.RowKit
set_option maxRecDepth 100000
set_option linter.unusedSimpArgs false
set_option linter.unusedVariables false

/-- whitewash/whitewashlaw03.CellsApart -/
def L6 : FnL := ⟨(.seq (.ops [⟨(some 4), .box (.tmp 1), none⟩, ⟨(some 5), .box (.tmp 2), none⟩, ⟨(some 6), .mv (.const (.bool false)), none⟩])
 (.seq (.ops [⟨(some 21), .call (.func 8) [], none⟩, ⟨(some 7), .mv (.tmp 21), none⟩])
 (.seq (.ops [⟨(some 22), .mv (.tmp 0), none⟩, ⟨(some 23), .len false (.tmp 22), none⟩, ⟨(some 24), .mm false [(.tmp 23), (.const (.int .i64 60))], none⟩, ⟨(some 8), .mv (.tmp 24), none⟩])
 (.seq (.seq (.ops [⟨(some 25), .mv (.tmp 8), none⟩, ⟨(some 26), .bin .lss (.tmp 25) (.const (.int .i64 2)), none⟩])
 (.cond (.tmp 26) (.seq (.ops [⟨(some 27), .mv (.tmp 7), none⟩, ⟨(some 6), .mv (.tmp 27), none⟩])
 .ret)
 .skip))
 (.seq (.ops [⟨(some 28), .faddr 0 (.tmp 4), none⟩, ⟨(some 29), .iaddrA 1 3 (.tmp 28) (.const (.int .i64 2)), none⟩, ⟨(some 30), .load false 1 (.tmp 29), none⟩, ⟨(some 31), .mv (.tmp 8), none⟩, ⟨(some 32), .call (.func 9) [(.tmp 30), (.tmp 31)], none⟩, ⟨(some 9), .mv (.tmp 32), none⟩])
 (.seq (.ops [⟨(some 33), .mv (.tmp 9), none⟩, ⟨(some 34), .bin .add (.tmp 33) (.const (.int .i64 1)), none⟩, ⟨(some 35), .faddr 0 (.tmp 5), none⟩, ⟨(some 36), .iaddrA 1 3 (.tmp 35) (.const (.int .i64 2)), none⟩, ⟨(some 37), .load false 1 (.tmp 36), none⟩, ⟨(some 38), .mv (.tmp 8), none⟩, ⟨(some 39), .bin .sub (.tmp 38) (.const (.int .i64 1)), none⟩, ⟨(some 40), .call (.func 9) [(.tmp 37), (.tmp 39)], none⟩, ⟨(some 41), .bin .add (.tmp 34) (.tmp 40), none⟩, ⟨(some 42), .mv (.tmp 8), none⟩, ⟨(some 43), .bin .rem (.tmp 41) (.tmp 42), none⟩, ⟨(some 10), .mv (.tmp 43), none⟩])
 (.seq (.ops [⟨(some 44), .mv (.tmp 0), none⟩, ⟨(some 45), .mv (.tmp 8), none⟩, ⟨(some 46), .slc 2 (.tmp 44) none (some (.tmp 45)) none, none⟩, ⟨(some 47), .app [(.int .u64 0), (.int .i64 0)] 16 (.const (.slice none 0 0)) (.tmp 46), none⟩, ⟨(some 48), .build [(.slice none 0 0)] [(0, 1, (.tmp 47))], none⟩, ⟨(some 11), .alloc [(.slice none 0 0)], none⟩, ⟨none, .store 1 (.tmp 11) (.tmp 48), none⟩])
 (.seq (.ops [⟨(some 49), .load true 1 (.tmp 11), none⟩, ⟨(some 50), .call (.func 13) [(.tmp 49)], none⟩, ⟨(some 12), .alloc [(.slice none 0 0)], none⟩, ⟨none, .store 1 (.tmp 12) (.tmp 50), none⟩])
 (.seq (.ops [⟨(some 52), .load true 4 (.tmp 4), none⟩, ⟨(some 53), .mv (.tmp 9), none⟩, ⟨(some 54), .call (.func 21) [(.tmp 11), (.tmp 52), (.tmp 53)], none⟩, ⟨(some 51), .mv (.tmp 54), none⟩, ⟨(some 55), .ext (.tmp 51) 0, none⟩, ⟨(some 56), .ext (.tmp 51) 1, none⟩, ⟨(some 13), .mv (.tmp 55), none⟩, ⟨(some 14), .mv (.tmp 56), none⟩])
 (.seq (.ops [⟨(some 58), .load true 4 (.tmp 5), none⟩, ⟨(some 59), .mv (.tmp 10), none⟩, ⟨(some 60), .call (.func 21) [(.tmp 11), (.tmp 58), (.tmp 59)], none⟩, ⟨(some 57), .mv (.tmp 60), none⟩, ⟨(some 61), .ext (.tmp 57) 0, none⟩, ⟨(some 62), .ext (.tmp 57) 1, none⟩, ⟨(some 15), .mv (.tmp 61), none⟩, ⟨(some 16), .mv (.tmp 62), none⟩])
 (.seq (.ops [⟨(some 64), .load true 4 (.tmp 5), none⟩, ⟨(some 65), .mv (.tmp 10), none⟩, ⟨(some 66), .call (.func 21) [(.tmp 12), (.tmp 64), (.tmp 65)], none⟩, ⟨(some 63), .mv (.tmp 66), none⟩, ⟨(some 67), .ext (.tmp 63) 0, none⟩, ⟨(some 68), .ext (.tmp 63) 1, none⟩, ⟨(some 17), .mv (.tmp 67), none⟩, ⟨(some 18), .mv (.tmp 68), none⟩])
 (.seq (.ops [⟨(some 70), .load true 4 (.tmp 4), none⟩, ⟨(some 71), .mv (.tmp 9), none⟩, ⟨(some 72), .call (.func 21) [(.tmp 12), (.tmp 70), (.tmp 71)], none⟩, ⟨(some 69), .mv (.tmp 72), none⟩, ⟨(some 73), .ext (.tmp 69) 0, none⟩, ⟨(some 74), .ext (.tmp 69) 1, none⟩, ⟨(some 19), .mv (.tmp 73), none⟩, ⟨(some 20), .mv (.tmp 74), none⟩])
 (.seq (.ops [⟨(some 75), .mv (.tmp 7), none⟩, ⟨(some 76), .mv (.tmp 75), none⟩, ⟨(some 77), .mv (.tmp 13), (some (76, true))⟩, ⟨(some 78), .mv (.tmp 19), (some (76, true))⟩, ⟨(some 79), .bin .eql (.tmp 77) (.tmp 78), (some (76, true))⟩, ⟨(some 80), .pick (.tmp 76) (.tmp 79) (.const (.bool false)), none⟩, ⟨(some 81), .mv (.tmp 80), none⟩, ⟨(some 82), .mv (.tmp 14), (some (81, true))⟩, ⟨(some 83), .mv (.tmp 20), (some (81, true))⟩, ⟨(some 84), .bin .eql (.tmp 82) (.tmp 83), (some (81, true))⟩, ⟨(some 85), .pick (.tmp 81) (.tmp 84) (.const (.bool false)), none⟩, ⟨(some 86), .mv (.tmp 85), none⟩, ⟨(some 87), .mv (.tmp 15), (some (86, true))⟩, ⟨(some 88), .mv (.tmp 17), (some (86, true))⟩, ⟨(some 89), .bin .eql (.tmp 87) (.tmp 88), (some (86, true))⟩, ⟨(some 90), .pick (.tmp 86) (.tmp 89) (.const (.bool false)), none⟩, ⟨(some 91), .mv (.tmp 90), none⟩, ⟨(some 92), .mv (.tmp 16), (some (91, true))⟩, ⟨(some 93), .mv (.tmp 18), (some (91, true))⟩, ⟨(some 94), .bin .eql (.tmp 92) (.tmp 93), (some (91, true))⟩, ⟨(some 95), .pick (.tmp 91) (.tmp 94) (.const (.bool false)), none⟩, ⟨(some 96), .mv (.tmp 95), none⟩, ⟨(some 97), .load true 1 (.tmp 11), (some (96, true))⟩, ⟨(some 98), .load true 1 (.tmp 12), (some (96, true))⟩, ⟨(some 99), .call (.func 12) [(.tmp 97), (.tmp 98)], (some (96, true))⟩, ⟨(some 100), .pick (.tmp 96) (.tmp 99) (.const (.bool false)), none⟩, ⟨(some 101), .mv (.tmp 100), none⟩, ⟨(some 102), .faddr 0 (.tmp 11), (some (101, true))⟩, ⟨(some 103), .load false 1 (.tmp 102), (some (101, true))⟩, ⟨(some 104), .len false (.tmp 103), (some (101, true))⟩, ⟨(some 105), .mv (.tmp 8), (some (101, true))⟩, ⟨(some 106), .bin .eql (.tmp 104) (.tmp 105), (some (101, true))⟩, ⟨(some 107), .pick (.tmp 101) (.tmp 106) (.const (.bool false)), none⟩, ⟨(some 6), .mv (.tmp 107), none⟩])
 .ret))))))))))))),
 108, [.tmp 6]⟩
theorem low6 : lowerFn Try.prog Try.f6 = some L6 := by kernel_rfl
noncomputable def G6 (B : OH) : Nat → Cs
  | 8 => V8 B
  | 9 => V9 B
  | 12 => V12 B
  | 13 => V13 B
  | 21 => V21 B
  | _ => fun _ _ _ => none
theorem G6_8 {B : OH} : G6 B 8 = V8 B := rfl
theorem G6_9 {B : OH} : G6 B 9 = V9 B := rfl
theorem G6_12 {B : OH} : G6 B 12 = V12 B := rfl
theorem G6_13 {B : OH} : G6 B 13 = V13 B := rfl
theorem G6_21 {B : OH} : G6 B 21 = V21 B := rfl
theorem sG6 {w0 : World} {B : OH} : SoundG Try.prog w0 B (G6 B) := fun k => by
  unfold G6
  split
  · exact .inr ⟨en8, sV8⟩
  · exact .inr ⟨en9, sV9⟩
  · exact .inr ⟨en12, sV12⟩
  · exact .inr ⟨en13, sV13⟩
  · exact .inr ⟨en21, sV21⟩
  · exact .inl fun _ _ _ => rfl
theorem en6 : Enter Try.prog 6 := .of Try.func6 (by kernel_rfl) (by kernel_rfl)
noncomputable def T6 (B : OH) : Cs := callF B (G6 B) 200 L6
theorem sT6 {w0 : World} {B : OH} : SoundC Try.prog w0 B 6 (T6 B) := callF_sound mixedOrders sG6 200 Try.func6 low6
set_option maxHeartbeats 4000000 in
theorem lv6a {B : OH} (ad : Option Addr) (len cap : Nat) (hlen : len < 2) (a0 a1 a2 aw b0 b1 b2 bw : Int) (H : HL) (N : St) (hN : good B H N) : ∃ H' N', T6 B [.slice ad len cap, .agg #[.int .i64 a0, .int .i64 a1, .int .i64 a2, .int .u64 aw], .agg #[.int .i64 b0, .int .i64 b1, .int .i64 b2, .int .u64 bw]] H N = some (.ret (.bool true), H', N') := by
  have hG : ∃ H N, good B H N := ⟨H, N, hN⟩
  have hB := good_B hN
  have hR := good_rdB hN
  have hI := beqN hN.1.1
  have awk := f8 (B := B) hG
  have h1 : (if (60 : Int) < (len : Int) then (60 : Int) else (len : Int)) = (len : Int) := by rw [if_neg (by omega)]
  have h2 : (len : Int) < 2 := by omega
  simp -implicitDefEqProofs (maxSteps := 10000000) (disch := omega) only [T6, L6, G6_8, V8_eq, G6_9, V9_eq, G6_12, V12_eq, G6_13, V13, T13, L13, G6_21, V21_eq, hB, hR, hI, awk, h1, h2, pad, e_skip, e_ops, e_draw, d_none, d_nil, d_cons, d_ite, h_none, h_nil, h_cons, h_ite, eqS_same, lightV, e_seq, e_cond, e_block, e_loop, e_exit, e_ret, s_normal, s_ret, s_exit, s_none, s_ite, b_normal, b_ret, b_exit, b_none, b_ite, c_bool, x_none, x_nil, x_cons, x_ite, p_some, p_none, p_ite, pt_some, pt_none, pv_some, pv_none, pv_ite, w_none, w_some, i_bool, i_undef, bt, bf, v_tmp, v_const, v_global, v_func, evs, f_normal, f_ret, f_none, f_ite, r_some, co_some, l_ptr, m_agg, m_one, sh_app, lk_nil, lk_cons, rd_eq, rdO_some, rdO_none, rdN_none, rdL_some, rdL_none, wrB_none, unitR_some, wr_nil, wr_here, wr_skip, k_cells, tk_zero, tk_take, tk_skip, tkC_some, call_func, gt, st, binV, arith, isSh, storeV, all1, idxAV, fieldV, faddrV, iaddrSV, iaddrAV, pickV, convV, unV, eqbV, eqpV, extV, lenV, mm2, mmV, nilckV, ress, res1, retV, Value.cells, cond_true, cond_false, Bool.true_or, Bool.false_or, Bool.or_true, Bool.or_false, beq_self_eq_true, if_true, if_false, ite_true, ite_false, decide_true, decide_false, decide_eq_true_eq, reduceIte, Nat.zero_add, Nat.add_zero, and_self, true_and, and_true, List.size_toArray, List.length_cons, List.length_nil, List.append_nil, List.nil_append, Int.toNat_zero, Bool.not_false, Bool.not_true, Bool.not_not, Bool.false_eq_true, Bool.true_eq_false, reduceCtorEq, Int.reduceLT, Int.reduceLE, Int.reduceToNat, Int.reduceAdd, Int.reduceSub, Int.reduceMul, Int.reduceNeg, Nat.reduceMul, Nat.reduceAdd, Nat.reduceSub, Nat.reduceBEq, Nat.reduceEqDiff, Nat.reduceLT, Nat.reduceLeDiff, Int.reduceBEq, Int.reduceEq, Nat.reducePow, Int.reducePow, IntWalk.i64_in, IntKind.bits, eqAV, eqL, leafEq, andO, fillV, buildSV, List.getElem?_toArray, List.getElem?_cons_zero, List.getElem?_cons_succ, List.getElem?_nil, Int.reduceGT, Int.reduceGE, Int.reduceBNe, Bool.true_and, Bool.and_true, Bool.false_and, Bool.and_false, Bool.and_self, IntWalk.u64_in, Int.cast_ofNat_Int, callF1, pad16, pad_0, pad_1, pad_2, pad_3, pad_4, pad_5, pad_6, pad_7, pad_8, pad_9, pad_10, pad_11, pad_12, pad_13, pad_14, pad_15, gc0, gc1, gc2, gc3, gc4, gc5, gc6, gc7, gc8, gc9, gc10, gc11, gc12, gc13, gc14, gc15, gcS, sc0, sc1, sc2, sc3, sc4, sc5, sc6, sc7, sc8, sc9, sc10, sc11, sc12, sc13, sc14, sc15, scS, List.drop_succ_cons, List.drop_nil, x_pan, s_pan, b_pan, pE_ret, pE_pan, pE_none, pE_ite, pvE_some, pvE_none, pvE_ite, rv_some, rv_none, rv_ite, oR_ret, t_mv, t_pick, t_alloc, t_box, t_build, t_buildS, t_load, t_store, t_nilck, t_bin, t_eqb, t_eqA, t_eqp, t_un, t_conv, t_field, t_idxA, t_faddr, t_iaddrS, t_iaddrA, t_ext, t_len, t_mm, t_call, t_ifc, t_fn, t_slc, t_slcA, t_slcT, t_tass, t_isn, t_mks, t_app, t_pan, panE_i, optE_none, optE_some, bnd_none, bnd_int, slA_none, slA_some, appR_some, appOld_cells, newsV_s, newsV_n, lenS_s, appV_nil, appV_some, mksV_i, sh_c, sh_g, f_pan, endD_ret, dfr_normal, dfr_ret, dfr_pan, restD_normal, callD1, callC1, tassV, isnV, slcV, slcAV, slcTV, slcB, appNew, Option.bind_some, Option.bind_none, d_pan, h_pan, wrH_eq, wrX_cells, wrU_some, upH_nil, upH_cons, lk_upH, effR_some, effR_none, effR_ite, Option.isNone_none, Option.isNone_some, slA_zero]
  with_reducible exact done1
set_option maxHeartbeats 8000000 in
theorem lv6b {B : OH} (b o len cap nn : Nat) (K : List Cell) (hK : K.length = nn) (h2 : 2 ≤ nn) (h60 : nn ≤ 60) (hmin : (if (60 : Int) < (len : Int) then (60 : Int) else (len : Int)) = (nn : Int)) (hlc : nn ≤ cap) (hrd : rdB B b o (nn * 2) = some (fcs K)) (a0 a1 a2 aw b0 b1 b2 bw : Int) (ha0 : -9223372036854775808 ≤ a0 ∧ a0 ≤ 9223372036854775807) (ha1 : -9223372036854775808 ≤ a1 ∧ a1 ≤ 9223372036854775807) (ha2 : -9223372036854775808 ≤ a2 ∧ a2 ≤ 9223372036854775807) (hb0 : -9223372036854775808 ≤ b0 ∧ b0 ≤ 9223372036854775807) (hb1 : -9223372036854775808 ≤ b1 ∧ b1 ≤ 9223372036854775807) (hb2 : -9223372036854775808 ≤ b2 ∧ b2 ≤ 9223372036854775807) (H : HL) (N : St) (hN : good B H N) : ∃ H' N', T6 B [.slice (some ⟨b, o, none⟩) len cap, .agg #[.int .i64 a0, .int .i64 a1, .int .i64 a2, .int .u64 aw], .agg #[.int .i64 b0, .int .i64 b1, .int .i64 b2, .int .u64 bw]] H N = some (.ret (.bool true), H', N') := by
  have hG : ∃ H N, good B H N := ⟨H, N, hN⟩
  have hB := good_B hN
  have hR := good_rdB hN
  have hI := beqN hN.1.1
  have awk := f8 (B := B) hG
  have e1 := f9 (B := B) hG a2 (nn : Int) ha2 (by omega)
  have e2 := f9 (B := B) hG b2 ((nn : Int) - 1) hb2 (by omega)
  have p1 := pick_b a2 (nn : Int) (by omega)
  have p2 := pick_b b2 ((nn : Int) - 1) (by omega)
  have q1 := pick_b a1 16 (by omega)
  have q2 := pick_b b1 16 (by omega)
  generalize pick a2 (nn : Int) = i at e1 p1
  generalize pick b2 ((nn : Int) - 1) = x at e2 p2
  have w1 : IntKind.i64.wrap (i + 1) = i + 1 := IntWalk.i64_in _ (by omega)
  have w2 : IntKind.i64.wrap ((nn : Int) - 1) = (nn : Int) - 1 := IntWalk.i64_in _ (by omega)
  have w3 : IntKind.i64.wrap (i + 1 + x) = i + 1 + x := IntWalk.i64_in _ (by omega)
  have n0 : ¬ (nn : Int) = 0 := by omega
  have n1 : ¬ (nn : Int) < 2 := by omega
  have n2 : ¬ nn = 0 := by omega
  have n3 : nn * 16 ≤ 140737488355328 := by omega
  have n4 : nn ≤ 4611686018427387904 := by omega
  have n5 : (0 : Int) ≤ (nn : Int) := by omega
  have n6 : (nn : Int) ≤ (cap : Int) := by omega
  have n7 : nn ≤ 100 := by omega
  have hj : (i + 1 + x).tmod (nn : Int) = (if i + 1 + x < nn then i + 1 + x else i + 1 + x - nn) := by
    rw [Int.tmod_eq_emod_of_nonneg (by omega)]
    split
    · exact Int.emod_eq_of_lt (by omega) (by omega)
    · rw [← Int.sub_emod_right]; exact Int.emod_eq_of_lt (by omega) (by omega)
  have j0 : 0 ≤ (i + 1 + x).tmod (nn : Int) ∧ (i + 1 + x).tmod (nn : Int) < nn ∧ (i + 1 + x).tmod (nn : Int) ≠ i := by rw [hj]; split <;> omega
  generalize hjj : (i + 1 + x).tmod (nn : Int) = j at j0
  obtain ⟨i0, i1⟩ := p1
  obtain ⟨j0, j1, jn⟩ := j0
  obtain ⟨q10, q11⟩ := q1
  obtain ⟨q20, q21⟩ := q2
  have q12 : pick a1 16 ≤ 15 := by omega
  have q22 : pick b1 16 ≤ 15 := by omega
  have hij : i.toNat ≠ j.toNat := by omega
  have hT : tk (fcs K) 0 (nn * 2) = some (fcs K) := tk_all _ _ (by rw [fl_length fc_len, hK])
  have g1 : ∀ c : Cell, (K.set i.toNat c).getD j.toNat (0, 0) = K.getD j.toNat (0, 0) := fun c => by simp [List.getD, List.getElem?_set, hij]
  have g2 : ∀ c : Cell, (K.set j.toNat c).getD i.toNat (0, 0) = K.getD i.toNat (0, 0) := fun c => by simp [List.getD, List.getElem?_set, Ne.symm hij]
  have g3 : ∀ c d : Cell, (K.set j.toNat d).set i.toNat c = (K.set i.toNat c).set j.toNat d := fun c d => (List.set_comm _ _ hij).symm
  simp -implicitDefEqProofs (maxSteps := 10000000) (disch := omega) only [T6, L6, G6_8, V8_eq, G6_9, V9_eq, G6_12, V12_eq, G6_13, V13, T13, L13, G6_21, V21_eq, hB, hR, hI, awk, hmin, e1, e2, w1, w2, w3, n0, n1, n2, n3, n4, n5, n6, n7, hjj, i0, i1, j0, j1, q10, q12, q20, q22, hrd, hT, hK, g1, g2, g3, eLoad, eStore, eLL, eVL, eSC, eRL, look_nil, look_ptr, lookP_c, lookM_s, lookM_n, lookS_c, lookU_s, unf_fl, unf1, act_bad, act_good, gLoad, gStore, gLL, gVL, gSC, gRL, okP_iff, List.set_cons_zero, List.set_cons_succ, List.getD_cons_zero, List.getD_cons_succ, eOne, eOneR, gOne, sure_some, eSame, listOf_s, listK_c, listU_s, ha0, ha1, ha2, hb0, hb1, hb2, List.length_set, Int.toNat_natCast, Nat.zero_mul, ite_self, Nat.sub_zero, ne_eq, not_false_eq_true, pad, e_skip, e_ops, e_draw, d_none, d_nil, d_cons, d_ite, h_none, h_nil, h_cons, h_ite, eqS_same, lightV, e_seq, e_cond, e_block, e_loop, e_exit, e_ret, s_normal, s_ret, s_exit, s_none, s_ite, b_normal, b_ret, b_exit, b_none, b_ite, c_bool, x_none, x_nil, x_cons, x_ite, p_some, p_none, p_ite, pt_some, pt_none, pv_some, pv_none, pv_ite, w_none, w_some, i_bool, i_undef, bt, bf, v_tmp, v_const, v_global, v_func, evs, f_normal, f_ret, f_none, f_ite, r_some, co_some, l_ptr, m_agg, m_one, sh_app, lk_nil, lk_cons, rd_eq, rdO_some, rdO_none, rdN_none, rdL_some, rdL_none, wrB_none, unitR_some, wr_nil, wr_here, wr_skip, k_cells, tk_zero, tk_take, tk_skip, tkC_some, call_func, gt, st, binV, arith, isSh, storeV, all1, idxAV, fieldV, faddrV, iaddrSV, iaddrAV, pickV, convV, unV, eqbV, eqpV, extV, lenV, mm2, mmV, nilckV, ress, res1, retV, Value.cells, cond_true, cond_false, Bool.true_or, Bool.false_or, Bool.or_true, Bool.or_false, beq_self_eq_true, if_true, if_false, ite_true, ite_false, decide_true, decide_false, decide_eq_true_eq, reduceIte, Nat.zero_add, Nat.add_zero, and_self, true_and, and_true, List.size_toArray, List.length_cons, List.length_nil, List.append_nil, List.nil_append, Int.toNat_zero, Bool.not_false, Bool.not_true, Bool.not_not, Bool.false_eq_true, Bool.true_eq_false, reduceCtorEq, Int.reduceLT, Int.reduceLE, Int.reduceToNat, Int.reduceAdd, Int.reduceSub, Int.reduceMul, Int.reduceNeg, Nat.reduceMul, Nat.reduceAdd, Nat.reduceSub, Nat.reduceBEq, Nat.reduceEqDiff, Nat.reduceLT, Nat.reduceLeDiff, Int.reduceBEq, Int.reduceEq, Nat.reducePow, Int.reducePow, IntWalk.i64_in, IntKind.bits, eqAV, eqL, leafEq, andO, fillV, buildSV, List.getElem?_toArray, List.getElem?_cons_zero, List.getElem?_cons_succ, List.getElem?_nil, Int.reduceGT, Int.reduceGE, Int.reduceBNe, Bool.true_and, Bool.and_true, Bool.false_and, Bool.and_false, Bool.and_self, IntWalk.u64_in, Int.cast_ofNat_Int, callF1, pad16, pad_0, pad_1, pad_2, pad_3, pad_4, pad_5, pad_6, pad_7, pad_8, pad_9, pad_10, pad_11, pad_12, pad_13, pad_14, pad_15, gc0, gc1, gc2, gc3, gc4, gc5, gc6, gc7, gc8, gc9, gc10, gc11, gc12, gc13, gc14, gc15, gcS, sc0, sc1, sc2, sc3, sc4, sc5, sc6, sc7, sc8, sc9, sc10, sc11, sc12, sc13, sc14, sc15, scS, List.drop_succ_cons, List.drop_nil, x_pan, s_pan, b_pan, pE_ret, pE_pan, pE_none, pE_ite, pvE_some, pvE_none, pvE_ite, rv_some, rv_none, rv_ite, oR_ret, t_mv, t_pick, t_alloc, t_box, t_build, t_buildS, t_load, t_store, t_nilck, t_bin, t_eqb, t_eqA, t_eqp, t_un, t_conv, t_field, t_idxA, t_faddr, t_iaddrS, t_iaddrA, t_ext, t_len, t_mm, t_call, t_ifc, t_fn, t_slc, t_slcA, t_slcT, t_tass, t_isn, t_mks, t_app, t_pan, panE_i, optE_none, optE_some, bnd_none, bnd_int, slA_none, slA_some, appR_some, appOld_cells, newsV_s, newsV_n, lenS_s, appV_nil, appV_some, mksV_i, sh_c, sh_g, f_pan, endD_ret, dfr_normal, dfr_ret, dfr_pan, restD_normal, callD1, callC1, tassV, isnV, slcV, slcAV, slcTV, slcB, appNew, Option.bind_some, Option.bind_none, d_pan, h_pan, wrH_eq, wrX_cells, wrU_some, upH_nil, upH_cons, lk_upH, effR_some, effR_none, effR_ite, Option.isNone_none, Option.isNone_some, slA_zero]
  with_reducible exact done1
end Go.Proofs.Yteilhhkkhnnglaa
namespace Go.Proofs.Yteilhhkkhnnglaa
open Go.Proofs.Yteilhhkkhnnglaa.K Go.ChangeShapes Go.WideShapes Go.ChangeAt Go.RowKit
set_option maxRecDepth 100000
set_option linter.unusedSimpArgs false
set_option linter.unusedVariables false
theorem cells_of : ∀ (L : List (List Lit)), (∀ m ∈ L, OKs [.int .u64, .int .i64] m) → ∃ K : List Cell, K.length = L.length ∧ ∀ m, fl (fun m => m.map litV) (L.take m) = fcs (K.take m)
  | [], _ => ⟨[], rfl, fun m => by simp [fl]⟩
  | x :: L, h => by
    obtain ⟨K, h1, h2⟩ := cells_of L fun m hm => h m (List.mem_cons_of_mem _ hm)
    obtain ⟨a, m1, rfl, _, k1⟩ := (h x List.mem_cons_self).int
    obtain ⟨b, m2, rfl, _, k2⟩ := k1.int
    obtain rfl := k2.none
    refine ⟨(a, b) :: K, by simp [h1], fun m => ?_⟩
    cases m with
    | zero => simp [fl]
    | succ m => simp only [List.take_succ_cons, fl, h2]; rfl
namespace cellsApart
theorem own : ownKnob Try.prog.godebug = none := by kernel_rfl
theorem laidOut : laidOutB Try.prog = true := by kernel_rfl
theorem typesOk : (Try.f6.params.toList.all fun t => Try.prog.readableRec t && decide (t < Try.prog.types.size)) = true := by kernel_rfl
theorem contract (H : Type) (enc : TypeId × Value → H) (W : World) (base : Nat) (args : Array Value) (ds gs : List (DataW H)) (before : List MemPlace)
    (hval : ∀ (j : Nat) t v, Try.f6.params[j]? = some t → args[j]? = some v → Value.okWide Try.prog W .any base t v)
    (hW : DataW.Whole enc Try.prog Try.f6.params.toList Rows.cellsApartSpec.vars false W args.toList ds gs before) (hL : laidMetH Try.prog Rows.cellsApartRow.laid W) :
    Calls Try.prog 6 args W fun e W' => ∃ v, e = .returned v ∧ Rows.cellsApartSpec.post enc Try.prog Try.f6 false true false false W args v W' := by
  have hW' := hW
  obtain ⟨p, q, hA0, hV, hpq, hfz, hnd⟩ := hW
  have hA : DataW.TrodAll enc Try.prog W 0 (fun _ => true) true Try.f6.params.toList args.toList ds p := hA0
  rw [Try.params6] at hA hval
  obtain ⟨v0, vs0, d0, ds0, p0, q0, hargs, rfl, rfl, h0, r0⟩ := trodAll_cons hA
  obtain ⟨v1, vs1, d1, ds1, p1, q1, rfl, rfl, rfl, h1, r1⟩ := trodAll_cons r0
  obtain ⟨v2, vs2, d2, ds2, p2, q2, rfl, rfl, rfl, h2, r2⟩ := trodAll_cons r1
  obtain ⟨rfl, rfl, rfl⟩ := trodAll_nil r2
  obtain rfl : args = #[v0, v1, v2] := by apply Array.ext'; simpa using hargs
  obtain ⟨rfl, rfl⟩ := trodVars_none hV
  have s0 := open_flats (P := Try.prog) 20 Try.underlying22 (show leafs Try.prog 20 53 = some [.int .u64, .int .i64] by kernel_rfl) (show Try.prog.cellsOf 53 = 2 by kernel_rfl) (by decide) (hval 0 22 v0 rfl rfl) h0
  obtain ⟨m1, rfl, k1⟩ := open_flat (P := Try.prog) 20 (show aggB Try.prog 39 = some true by kernel_rfl) (show leafs Try.prog 20 39 = some [.int .i64, .int .i64, .int .i64, .int .u64] by kernel_rfl) (hval 1 39 v1 rfl rfl) h1
  obtain ⟨x1_0, m1_0, rfl, w1_0, k1⟩ := k1.int
  have b1_0 := i64_wf w1_0
  obtain ⟨x1_1, m1_1, rfl, w1_1, k1⟩ := k1.int
  have b1_1 := i64_wf w1_1
  obtain ⟨x1_2, m1_2, rfl, w1_2, k1⟩ := k1.int
  have b1_2 := i64_wf w1_2
  obtain ⟨x1_3, m1_3, rfl, w1_3, k1⟩ := k1.int
  have b1_3 := u64_wf' w1_3
  obtain rfl := k1.none
  obtain ⟨m2, rfl, k2⟩ := open_flat (P := Try.prog) 20 (show aggB Try.prog 39 = some true by kernel_rfl) (show leafs Try.prog 20 39 = some [.int .i64, .int .i64, .int .i64, .int .u64] by kernel_rfl) (hval 2 39 v2 rfl rfl) h2
  obtain ⟨x2_0, m2_0, rfl, w2_0, k2⟩ := k2.int
  have b2_0 := i64_wf w2_0
  obtain ⟨x2_1, m2_1, rfl, w2_1, k2⟩ := k2.int
  have b2_1 := i64_wf w2_1
  obtain ⟨x2_2, m2_2, rfl, w2_2, k2⟩ := k2.int
  have b2_2 := i64_wf w2_2
  obtain ⟨x2_3, m2_3, rfl, w2_3, k2⟩ := k2.int
  have b2_3 := u64_wf' w2_3
  obtain rfl := k2.none
  refine law_post laidOut (fun t ht => by simpa using List.all_eq_true.1 typesOk t ht) rfl (show Try.f6.resultTypes = #[4] by rfl) Try.underlying4 hW' rfl rfl rfl ?_
  rcases s0 with rfl | ⟨ad, cap, rfl⟩ | ⟨b, o, cap, L, rfl, hpos, hlc, hcap, hL, hrd⟩
  · exact law_calls (sT6 (w0 := W) (B := startB W)) (args := [.slice none 0 0, .agg #[.int .i64 x1_0, .int .i64 x1_1, .int .i64 x1_2, .int .u64 x1_3], .agg #[.int .i64 x2_0, .int .i64 x2_1, .int .i64 x2_2, .int .u64 x2_3]]) fun N hN => lv6a _ _ _ (by omega) x1_0 x1_1 x1_2 x1_3 x2_0 x2_1 x2_2 x2_3 [] N hN
  · exact law_calls (sT6 (w0 := W) (B := startB W)) (args := [.slice (some ad) 0 cap, .agg #[.int .i64 x1_0, .int .i64 x1_1, .int .i64 x1_2, .int .u64 x1_3], .agg #[.int .i64 x2_0, .int .i64 x2_1, .int .i64 x2_2, .int .u64 x2_3]]) fun N hN => lv6a _ _ _ (by omega) x1_0 x1_1 x1_2 x1_3 x2_0 x2_1 x2_2 x2_3 [] N hN
  · by_cases hlen : L.length < 2
    · exact law_calls (sT6 (w0 := W) (B := startB W)) (args := [.slice (some ⟨b, o, none⟩) L.length cap, .agg #[.int .i64 x1_0, .int .i64 x1_1, .int .i64 x1_2, .int .u64 x1_3], .agg #[.int .i64 x2_0, .int .i64 x2_1, .int .i64 x2_2, .int .u64 x2_3]]) fun N hN => lv6a _ _ _ hlen x1_0 x1_1 x1_2 x1_3 x2_0 x2_1 x2_2 x2_3 [] N hN
    · obtain ⟨K, hK, hfl⟩ := cells_of L hL
      have hr := hrd (min L.length 60) (by omega)
      rw [hfl] at hr
      exact law_calls (sT6 (w0 := W) (B := startB W)) (args := [.slice (some ⟨b, o, none⟩) L.length cap, .agg #[.int .i64 x1_0, .int .i64 x1_1, .int .i64 x1_2, .int .u64 x1_3], .agg #[.int .i64 x2_0, .int .i64 x2_1, .int .i64 x2_2, .int .u64 x2_3]]) fun N hN => lv6b b o L.length cap (min L.length 60) (K.take (min L.length 60)) (by rw [List.length_take, hK]; omega) (by omega) (by omega) (by split <;> omega) (by omega) hr x1_0 x1_1 x1_2 x1_3 x2_0 x2_1 x2_2 x2_3 b1_0 b1_1 b1_2 b2_0 b2_1 b2_2 [] N hN

noncomputable def laidWorld (os : Os) : World := laidW Try.prog os []
theorem laid_met (os : Os) : laidMet Try.prog Rows.cellsApartRow.laid ((laidWorld os).forCall (fun _ _ => 0) ⟨#[], #[.slice none 0 0, .agg #[.int .i64 0, .int .i64 0, .int .i64 0, .int .u64 0], .agg #[.int .i64 0, .int .i64 0, .int .i64 0, .int .u64 0]], []⟩).memory :=
  laidMet_of_run' 16 (by kernel_rfl) (by kernel_rfl)
theorem reads (os : Os) {H : Type} (enc : TypeId × Value → H) : ∃ places, DataW.whole enc Try.prog ((laidWorld os).forCall (fun _ _ => 0) ⟨#[], #[.slice none 0 0, .agg #[.int .i64 0, .int .i64 0, .int .i64 0, .int .u64 0], .agg #[.int .i64 0, .int .i64 0, .int .i64 0, .int .u64 0]], []⟩).memory Try.f6.params.toList Rows.cellsApartSpec.vars false (#[.slice none 0 0, .agg #[.int .i64 0, .int .i64 0, .int .i64 0, .int .u64 0], .agg #[.int .i64 0, .int .i64 0, .int .i64 0, .int .u64 0]] : Array Value).toList 16 = some ([.nil, .agg [.agg [.lit (.int .i64 0), .lit (.int .i64 0), .lit (.int .i64 0)], .lit (.int .u64 0)], .agg [.agg [.lit (.int .i64 0), .lit (.int .i64 0), .lit (.int .i64 0)], .lit (.int .u64 0)]], [], places) :=
  ⟨[], by kernel_rfl⟩
theorem lifted (os : Os) (started : os.Started) (H : Type) (enc : TypeId × Value → H) (F : Stop.Interp) :
    ReturnsInHanded {} Try.checked os 6 .any ((OpenSpec.ofChange Rows.cellsApartSpec).preRow enc Try.prog Try.f6 Rows.cellsApartRow.domain false Rows.cellsApartRow.laid) (((OpenSpec.ofChange Rows.cellsApartSpec).at F).post enc Try.prog Try.f6 false true false false) := by
  obtain ⟨places, hx⟩ := reads os enc
  refine returnsInHanded_of_row (C := Try.checked) (s := OpenSpec.ofChange Rows.cellsApartSpec) own started (by kernel_rfl) Try.func6
    (witness_row_at (enc := enc) (C := Try.checked) false (laidWorld os) #[.slice none 0 0, .agg #[.int .i64 0, .int .i64 0, .int .i64 0, .int .u64 0], .agg #[.int .i64 0, .int .i64 0, .int .i64 0, .int .u64 0]] rfl (by kernel_rfl) (by kernel_rfl) (by kernel_rfl)
      (OpenSpec.preRow_of_cond 16 hx (by kernel_rfl) (fun k hk => by cases hk) (by kernel_rfl) (laid_met os))) ?_
  intro W base args ds gs before hval hW _ _ _ hL _ _
  exact contract H enc W base args ds gs before hval hW hL
theorem said : Rows.CellsApartSaid :=
  OpenClaim.holds_of_cond 6 Try.f6 rfl rfl rfl rfl rfl rfl rfl ⟨rfl, rfl, rfl, rfl, rfl⟩ rfl rfl rfl rfl rfl (by kernel_rfl) Try.func6 (by kernel_rfl)
    (of_decide_eq_true (by kernel_rfl)) (by unfold Func.isWrapper; first | (rw [if_pos (by decide +kernel)]; kernel_rfl) | (rw [if_neg (by decide +kernel)]; exact ⟨rfl, rfl⟩))
    (fun os started H enc _ F => by rw [OpenClaim.pre_eq_preRow]; exact lifted os started H enc F)
end cellsApart
end Go.Proofs.Yteilhhkkhnnglaa
