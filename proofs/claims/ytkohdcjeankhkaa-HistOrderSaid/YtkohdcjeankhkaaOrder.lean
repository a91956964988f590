/- The statement HistOrder of layer 20: whatever the input, it answers true and leaves its input as it was. -/
import Derived.Test.YtkohdcjeankhkaaOwnD
import Derived.Test.YtkohdcjeankhkaaRows
set_option linter.unusedSimpArgs false
set_option linter.unusedVariables false
namespace Go.Proofs.Ytkohdcjeankhkaa
open Go.Proofs.Ytkohdcjeankhkaa.K Go.ChangeShapes Go.WideShapes Go.ChangeAt Go.RowKit
set_option maxRecDepth 100000
set_option linter.unusedSimpArgs false
set_option linter.unusedVariables false

theorem gMany_le (w : List R3) : gMany w ≤ 30 ∧ gMany w ≤ w.length := by unfold gMany; omega
theorem g_err (w : List R3) : cErr (gEvs w) = 0 := cErr_fine (by rw [gEvs_len]; have := gMany_le w; omega) (by rw [gEvs_len]; exact gFine w)
theorem g_cls (w : List R3) : cls (gEvs w) = gCls w := by rw [cls_fine (g_err w), gEvs_len]; rfl
theorem gCls_len (w : List R3) : (gCls w).length ≤ 30 := by
  have := cLen (gMany w) (gEvs w) (gMany w)
  have := gMany_le w
  unfold gCls; omega
theorem gCls_nil {w : List R3} (h : (gCls w).length = 0) : w.length = 0 := by
  by_cases hw : w.length = 0
  · exact hw
  · have hm : 0 < gMany w := by unfold gMany; omega
    obtain ⟨a, c, hc, _⟩ := (gInv w).al 0 hm
    have := (List.getElem?_eq_some_iff.1 hc).1
    omega
def AH (a b : Cl) : Bool := a.d && decide (a.t < b.f)
theorem AH_iff {a b : Cl} : AH a b = true ↔ a.d = true ∧ a.t < b.f := by simp [AH]
/-- whitewash/whitewashlaw20.HistOrder -/
def L5 : FnL := ⟨(.seq (.ops [⟨(some 3), .box (.tmp 1), none⟩, ⟨(some 4), .mv (.const (.bool false)), none⟩])
 (.seq (.ops [⟨(some 12), .call (.func 8) [], none⟩, ⟨(some 5), .mv (.tmp 12), none⟩])
 (.seq (.ops [⟨(some 14), .mv (.tmp 0), none⟩, ⟨(some 15), .call (.func 9) [(.tmp 14)], none⟩, ⟨(some 16), .call (.func 11) [(.tmp 15)], none⟩, ⟨(some 13), .mv (.tmp 16), none⟩, ⟨(some 17), .ext (.tmp 13) 0, none⟩, ⟨(some 18), .ext (.tmp 13) 1, none⟩, ⟨(some 6), .mv (.tmp 17), none⟩, ⟨(some 7), .mv (.tmp 18), none⟩])
 (.seq (.seq (.ops [⟨(some 19), .mv (.tmp 7), none⟩, ⟨(some 20), .bin .neq (.tmp 19) (.const (.int .i64 0)), none⟩, ⟨(some 21), .mv (.tmp 20), none⟩, ⟨(some 22), .mv (.tmp 6), (some (21, false))⟩, ⟨(some 23), .len false (.tmp 22), (some (21, false))⟩, ⟨(some 24), .bin .eql (.tmp 23) (.const (.int .i64 0)), (some (21, false))⟩, ⟨(some 25), .pick (.tmp 21) (.const (.bool true)) (.tmp 24), none⟩])
 (.cond (.tmp 25) (.seq (.ops [⟨(some 26), .mv (.tmp 5), none⟩, ⟨(some 27), .mv (.tmp 26), none⟩, ⟨(some 28), .mv (.tmp 0), (some (27, true))⟩, ⟨(some 29), .len false (.tmp 28), (some (27, true))⟩, ⟨(some 30), .bin .eql (.tmp 29) (.const (.int .i64 0)), (some (27, true))⟩, ⟨(some 31), .pick (.tmp 27) (.tmp 30) (.const (.bool false)), none⟩, ⟨(some 32), .mv (.tmp 31), none⟩, ⟨(some 33), .mv (.tmp 7), (some (32, true))⟩, ⟨(some 34), .bin .eql (.tmp 33) (.const (.int .i64 0)), (some (32, true))⟩, ⟨(some 35), .pick (.tmp 32) (.tmp 34) (.const (.bool false)), none⟩, ⟨(some 4), .mv (.tmp 35), none⟩])
 .ret)
 .skip))
 (.seq (.ops [⟨(some 36), .mv (.tmp 6), none⟩, ⟨(some 37), .iaddrA 1 4 (.tmp 3) (.const (.int .i64 0)), none⟩, ⟨(some 38), .load false 1 (.tmp 37), none⟩, ⟨(some 39), .mv (.tmp 6), none⟩, ⟨(some 40), .len false (.tmp 39), none⟩, ⟨(some 41), .call (.func 10) [(.tmp 38), (.tmp 40)], none⟩, ⟨(some 42), .iaddrS 9 (.tmp 36) (.tmp 41), none⟩, ⟨(some 43), .load true 9 (.tmp 42), none⟩, ⟨(some 8), .alloc [(.int .i64 0), (.int .i64 0), (.int .u64 0), (.int .u64 0), (.int .i64 0), (.int .u64 0), (.int .i64 0), (.int .i64 0), (.bool false)], none⟩, ⟨none, .store 9 (.tmp 8) (.tmp 43), none⟩])
 (.seq (.ops [⟨(some 44), .mv (.tmp 6), none⟩, ⟨(some 45), .iaddrA 1 4 (.tmp 3) (.const (.int .i64 1)), none⟩, ⟨(some 46), .load false 1 (.tmp 45), none⟩, ⟨(some 47), .mv (.tmp 6), none⟩, ⟨(some 48), .len false (.tmp 47), none⟩, ⟨(some 49), .call (.func 10) [(.tmp 46), (.tmp 48)], none⟩, ⟨(some 50), .iaddrS 9 (.tmp 44) (.tmp 49), none⟩, ⟨(some 51), .load true 9 (.tmp 50), none⟩, ⟨(some 9), .alloc [(.int .i64 0), (.int .i64 0), (.int .u64 0), (.int .u64 0), (.int .i64 0), (.int .u64 0), (.int .i64 0), (.int .i64 0), (.bool false)], none⟩, ⟨none, .store 9 (.tmp 9) (.tmp 51), none⟩])
 (.seq (.ops [⟨(some 52), .mv (.tmp 6), none⟩, ⟨(some 53), .iaddrA 1 4 (.tmp 3) (.const (.int .i64 2)), none⟩, ⟨(some 54), .load false 1 (.tmp 53), none⟩, ⟨(some 55), .mv (.tmp 6), none⟩, ⟨(some 56), .len false (.tmp 55), none⟩, ⟨(some 57), .call (.func 10) [(.tmp 54), (.tmp 56)], none⟩, ⟨(some 58), .iaddrS 9 (.tmp 52) (.tmp 57), none⟩, ⟨(some 59), .load true 9 (.tmp 58), none⟩, ⟨(some 10), .alloc [(.int .i64 0), (.int .i64 0), (.int .u64 0), (.int .u64 0), (.int .i64 0), (.int .u64 0), (.int .i64 0), (.int .i64 0), (.bool false)], none⟩, ⟨none, .store 9 (.tmp 10) (.tmp 59), none⟩])
 (.seq (.ops [⟨(some 60), .mv (.tmp 6), none⟩, ⟨(some 61), .iaddrA 1 4 (.tmp 3) (.const (.int .i64 3)), none⟩, ⟨(some 62), .load false 1 (.tmp 61), none⟩, ⟨(some 63), .mv (.tmp 6), none⟩, ⟨(some 64), .len false (.tmp 63), none⟩, ⟨(some 65), .call (.func 10) [(.tmp 62), (.tmp 64)], none⟩, ⟨(some 66), .iaddrS 9 (.tmp 60) (.tmp 65), none⟩, ⟨(some 67), .load true 9 (.tmp 66), none⟩, ⟨(some 11), .alloc [(.int .i64 0), (.int .i64 0), (.int .u64 0), (.int .u64 0), (.int .i64 0), (.int .u64 0), (.int .i64 0), (.int .i64 0), (.bool false)], none⟩, ⟨none, .store 9 (.tmp 11) (.tmp 67), none⟩])
 (.seq (.seq (.ops [⟨(some 68), .load true 9 (.tmp 8), none⟩, ⟨(some 69), .load true 9 (.tmp 9), none⟩, ⟨(some 70), .call (.func 21) [(.tmp 68), (.tmp 69)], none⟩, ⟨(some 71), .mv (.tmp 70), none⟩, ⟨(some 72), .load true 9 (.tmp 10), (some (71, true))⟩, ⟨(some 73), .load true 9 (.tmp 11), (some (71, true))⟩, ⟨(some 74), .call (.func 21) [(.tmp 72), (.tmp 73)], (some (71, true))⟩, ⟨(some 75), .pick (.tmp 71) (.tmp 74) (.const (.bool false)), none⟩, ⟨(some 76), .mv (.tmp 75), none⟩, ⟨(some 77), .load true 9 (.tmp 8), (some (76, true))⟩, ⟨(some 78), .load true 9 (.tmp 11), (some (76, true))⟩, ⟨(some 79), .call (.func 21) [(.tmp 77), (.tmp 78)], (some (76, true))⟩, ⟨(some 80), .un .not (.tmp 79), (some (76, true))⟩, ⟨(some 81), .pick (.tmp 76) (.tmp 80) (.const (.bool false)), none⟩, ⟨(some 82), .mv (.tmp 81), none⟩, ⟨(some 83), .load true 9 (.tmp 10), (some (82, true))⟩, ⟨(some 84), .load true 9 (.tmp 9), (some (82, true))⟩, ⟨(some 85), .call (.func 21) [(.tmp 83), (.tmp 84)], (some (82, true))⟩, ⟨(some 86), .un .not (.tmp 85), (some (82, true))⟩, ⟨(some 87), .pick (.tmp 82) (.tmp 86) (.const (.bool false)), none⟩])
 (.cond (.tmp 87) (.seq (.ops [⟨(some 4), .mv (.const (.bool false)), none⟩])
 .ret)
 .skip))
 (.seq (.ops [⟨(some 88), .mv (.tmp 5), none⟩, ⟨(some 89), .mv (.tmp 88), none⟩, ⟨(some 90), .load true 9 (.tmp 8), (some (89, true))⟩, ⟨(some 91), .load true 9 (.tmp 8), (some (89, true))⟩, ⟨(some 92), .call (.func 21) [(.tmp 90), (.tmp 91)], (some (89, true))⟩, ⟨(some 93), .un .not (.tmp 92), (some (89, true))⟩, ⟨(some 94), .pick (.tmp 89) (.tmp 93) (.const (.bool false)), none⟩, ⟨(some 95), .mv (.tmp 94), none⟩, ⟨(some 96), .load true 9 (.tmp 8), (some (95, true))⟩, ⟨(some 97), .load true 9 (.tmp 9), (some (95, true))⟩, ⟨(some 98), .call (.func 21) [(.tmp 96), (.tmp 97)], (some (95, true))⟩, ⟨(some 99), .un .not (.tmp 98), (some (95, true))⟩, ⟨(some 100), .mv (.tmp 99), (some (95, true))⟩, ⟨(some 101), .load true 9 (.tmp 9), (some (100, false))⟩, ⟨(some 102), .load true 9 (.tmp 10), (some (100, false))⟩, ⟨(some 103), .call (.func 21) [(.tmp 101), (.tmp 102)], (some (100, false))⟩, ⟨(some 104), .un .not (.tmp 103), (some (100, false))⟩, ⟨(some 105), .pick (.tmp 100) (.const (.bool true)) (.tmp 104), (some (95, true))⟩, ⟨(some 106), .mv (.tmp 105), (some (95, true))⟩, ⟨(some 107), .load true 9 (.tmp 8), (some (106, false))⟩, ⟨(some 108), .load true 9 (.tmp 10), (some (106, false))⟩, ⟨(some 109), .call (.func 21) [(.tmp 107), (.tmp 108)], (some (106, false))⟩, ⟨(some 110), .pick (.tmp 106) (.const (.bool true)) (.tmp 109), (some (95, true))⟩, ⟨(some 111), .pick (.tmp 95) (.tmp 110) (.const (.bool false)), none⟩, ⟨(some 112), .mv (.tmp 111), none⟩, ⟨(some 113), .load true 9 (.tmp 8), (some (112, true))⟩, ⟨(some 114), .load true 9 (.tmp 9), (some (112, true))⟩, ⟨(some 115), .call (.func 21) [(.tmp 113), (.tmp 114)], (some (112, true))⟩, ⟨(some 116), .un .not (.tmp 115), (some (112, true))⟩, ⟨(some 117), .mv (.tmp 116), (some (112, true))⟩, ⟨(some 118), .load true 9 (.tmp 9), (some (117, false))⟩, ⟨(some 119), .load true 9 (.tmp 8), (some (117, false))⟩, ⟨(some 120), .call (.func 21) [(.tmp 118), (.tmp 119)], (some (117, false))⟩, ⟨(some 121), .un .not (.tmp 120), (some (117, false))⟩, ⟨(some 122), .pick (.tmp 117) (.const (.bool true)) (.tmp 121), (some (112, true))⟩, ⟨(some 123), .pick (.tmp 112) (.tmp 122) (.const (.bool false)), none⟩, ⟨(some 4), .mv (.tmp 123), none⟩])
 .ret)))))))))),
 124, [.tmp 4]⟩
theorem low5 : lowerFn Try.prog Try.f5 = some L5 := by kernel_rfl
noncomputable def G5 (B : OH) : Nat → Cs
  | 8 => V8 B
  | 9 => V9 B
  | 10 => V10 B
  | 11 => V11 B
  | 21 => V21 B
  | _ => fun _ _ _ => none
theorem G5_8 {B : OH} : G5 B 8 = V8 B := rfl
theorem G5_9 {B : OH} : G5 B 9 = V9 B := rfl
theorem G5_10 {B : OH} : G5 B 10 = V10 B := rfl
theorem G5_11 {B : OH} : G5 B 11 = V11 B := rfl
theorem G5_21 {B : OH} : G5 B 21 = V21 B := rfl
theorem sG5 {w0 : World} {B : OH} : SoundG Try.prog w0 B { f := G5 B } := .of fun k => by
  unfold G5
  split
  · exact .inr ⟨en8, sV8⟩
  · exact .inr ⟨en9, sV9⟩
  · exact .inr ⟨en10, sV10⟩
  · exact .inr ⟨en11, sV11⟩
  · exact .inr ⟨en21, sV21⟩
  · exact .inl fun _ _ _ => rfl
theorem en5 : Enter Try.prog 5 := .of Try.func5 (by kernel_rfl) (by kernel_rfl)
noncomputable def T5 (B : OH) : Cs := callF B { f := G5 B } 1300 L5
theorem sT5 {w0 : World} {B : OH} : SoundC Try.prog w0 B 5 (T5 B) := callF_sound mixedOrders sG5 1300 Try.func5 low5
set_option maxHeartbeats 8000000 in
theorem lv5 {B : OH} {v : Value} {w : List R3} {n0 n1 n2 n3 : Int} (h0 : i64R n0) (h1 : i64R n1) (h2 : i64R n2) (h3 : i64R n3) (hw : RawR w) (H : HL) (N : St) (hN : good B H N) (hv : SlR r3 3 B H v w) :
    ∃ H' N', T5 B [v, .agg #[.int .i64 n0, .int .i64 n1, .int .i64 n2, .int .i64 n3]] H N = some (.ret (.bool true), H', N') := by
  have hB := good_B hN
  have hR := good_rdB hN
  have hI := beqN hN.1.1
  have hG : ∃ H N, good B H N := ⟨H, N, hN⟩
  have hlv := hv.len
  have a8 := f8 hG
  have g1 := good_new (k := .cells [.int .i64 n0, .int .i64 n1, .int .i64 n2, .int .i64 n3] 4) hN
  have f1 := fr_new (k := .cells [.int .i64 n0, .int .i64 n1, .int .i64 n2, .int .i64 n3] 4) hN Fr.refl 0
  have lk1 : lk ((N.n 0, .cells [.int .i64 n0, .int .i64 n1, .int .i64 n2, .int .i64 n3] 4) :: H) (N.n 0) = some (.cells [.int .i64 n0, .int .i64 n1, .int .i64 n2, .int .i64 n3] 4) := lk_top
  obtain ⟨v9, H9, N9, e9, g9, f9, s9⟩ := raw g1 (hv.mono f1) hw
  obtain ⟨vC, HC, NC, eC, gC, fC, sC⟩ := calls' g9 (s9.rd ev7_len)
  rw [g_err] at eC
  rw [g_cls] at sC
  have hnl := fun h => gCls_nil (w := w) h
  have hdn : ∀ (a : Nat) (c : Cl), (gCls w)[a]? = some c → c.d = true → ∃ i : Nat, c.t = i ∧ c.f < i ∧ True := fun a c h1 h2 => by
    obtain ⟨i, q1, q2, _⟩ := (gInv w).dn a c h1 h2
    exact ⟨i, q1, q2, trivial⟩
  have hle := gCls_len w
  generalize gCls w = C at sC hnl hdn hle
  have lkC : lk HC (N.n 0) = some (.cells [.int .i64 n0, .int .i64 n1, .int .i64 n2, .int .i64 n3] 4) := fC _ _ (f9 _ _ lk1)
  have hlC := sC.len
  have bC := good_B gC
  have rC := good_rdB gC
  have iC := beqN gC.1.1
  have nC := ne_N gC lkC
  have nC' := ne_N' gC lkC
  by_cases hz : C.length = 0
  · have hz1 : ((C.length : Int) == 0) = true := by simp [hz]
    have hz2 : ((w.length : Int) == 0) = true := by simp [hnl hz]
    simp -implicitDefEqProofs (maxSteps := 10000000) (disch := omega) only [T5, L5, G5_8, V8_eq, G5_9, G5_10, V10_eq, G5_11, G5_21, V21_eq, hB, hR, hI, lenV_sl, Int.toNat_natCast, bft, btf, gtst, st_len, a8, e9, eC, hlC, hlv, hz1, hz2, pad, e_skip, e_ops, e_draw, d_none, d_nil, d_cons, d_ite, h_none, h_nil, h_cons, h_ite, eqS_same, lightV, e_seq, e_cond, e_block, e_exit, e_ret, s_normal, s_ret, s_exit, s_none, s_ite, b_normal, b_ret, b_exit, b_none, b_ite, c_bool, x_none, x_nil, x_cons, x_ite, p_some, p_none, p_ite, pt_some, pt_none, pv_some, pv_none, pv_ite, w_none, w_some, i_bool, i_undef, bt, bf, v_tmp, v_const, v_global, v_func, evs, f_normal, f_ret, f_none, f_ite, r_some, co_some, l_ptr, m_agg, m_one, sh_app, lk_nil, lk_cons, rd_eq, rdO_some, rdO_none, rdN_none, rdL_some, rdL_none, wrB_none, unitR_some, wr_nil, wr_here, wr_skip, k_cells, tk_zero, tk_take, tk_skip, tkC_some, call_func, gt, st, binV, arith, isSh, storeV, all1, idxAV, fieldV, faddrV, iaddrSV, iaddrAV, pickV, convV, unV, eqbV, eqpV, extV, mm2, mmV, nilckV, ress, res1, retV, Value.cells, cond_true, cond_false, Bool.true_or, Bool.false_or, Bool.or_true, Bool.or_false, beq_self_eq_true, if_true, if_false, ite_true, ite_false, decide_true, decide_false, decide_eq_true_eq, reduceIte, Nat.zero_add, Nat.add_zero, and_self, true_and, and_true, List.size_toArray, List.length_cons, List.length_nil, List.append_nil, List.nil_append, Int.toNat_zero, Bool.not_false, Bool.not_true, Bool.not_not, Bool.false_eq_true, Bool.true_eq_false, reduceCtorEq, Int.reduceLT, Int.reduceLE, Int.reduceToNat, Int.reduceAdd, Int.reduceSub, Int.reduceMul, Int.reduceNeg, Nat.reduceMul, Nat.reduceAdd, Nat.reduceSub, Nat.reduceBEq, Nat.reduceEqDiff, Nat.reduceLT, Nat.reduceLeDiff, Int.reduceBEq, Int.reduceEq, Nat.reducePow, Int.reducePow, IntWalk.i64_in, IntKind.bits, eqAV, eqL, leafEq, andO, fillV, buildSV, List.getElem?_toArray, List.getElem?_cons_zero, List.getElem?_cons_succ, List.getElem?_nil, Int.reduceGT, Int.reduceGE, Int.reduceBNe, Bool.true_and, Bool.and_true, Bool.false_and, Bool.and_false, Bool.and_self, IntWalk.u64_in, Int.cast_ofNat_Int, callF1, pad16, pad_0, pad_1, pad_2, pad_3, pad_4, pad_5, pad_6, pad_7, pad_8, pad_9, pad_10, pad_11, pad_12, pad_13, pad_14, pad_15, gc0, gc1, gc2, gc3, gc4, gc5, gc6, gc7, gc8, gc9, gc10, gc11, gc12, gc13, gc14, gc15, gcS, sc0, sc1, sc2, sc3, sc4, sc5, sc6, sc7, sc8, sc9, sc10, sc11, sc12, sc13, sc14, sc15, scS, List.drop_succ_cons, List.drop_nil, x_pan, s_pan, b_pan, pE_ret, pE_pan, pE_none, pE_ite, pvE_some, pvE_none, pvE_ite, rv_some, rv_none, rv_ite, oR_ret, t_mv, t_pick, t_alloc, t_box, t_build, t_buildS, t_load, t_store, t_nilck, t_bin, t_eqb, t_eqA, t_eqp, t_un, t_conv, t_field, t_idxA, t_faddr, t_iaddrS, t_iaddrA, t_ext, t_len, t_mm, t_call, t_ifc, t_fn, t_slc, t_slcA, t_slcT, t_tass, t_isn, t_mks, t_app, t_pan, panE_i, optE_none, optE_some, bnd_none, bnd_int, slA_none, slA_some, appR_some, appOld_cells, newsV_s, newsV_n, lenS_s, appV_nil, appV_some, mksV_i, sh_c, sh_g, f_pan, endD_ret, dfr_normal, dfr_ret, dfr_pan, restD_normal, callD1, callC1, tassV, isnV, slcV, slcAV, slcTV, slcB, appNew, Option.bind_some, Option.bind_none, d_pan, h_pan, wrH_eq, wrX_cells, wrU_some, upH_nil, upH_cons, lk_upH, effR_some, effR_none, effR_ite, Option.isNone_none, Option.isNone_some, slA_zero, call_yield, e_range, it_func, wy_same, y_call, isLp_self, beg_normal, end_normal, end_ret, end_exit, end_ite, aft_ret, aft_ready, aft_done, aft_exit, setP_cons, setP_nil, sh_r, t_mkmap, t_mlook, t_mupd, t_mdel, mapF_some, lookF_some, setM_some, lookR_t, lookR_n, lookR_f, lookR_fn, lookV, mupdV, mdelV, mkM]
    exact ⟨_, _, rfl⟩
  have hz1 : ((C.length : Int) == 0) = false := beqI (by omega)
  rcases sC with ⟨h, _⟩ | ⟨b, cap, rfl, hBb, _, hcap, hlk⟩
  · exact absurd (by rw [h]; rfl) hz
  have rb := fun o n => rdB_none (o := o) (n := n) hBb
  have nb := ne_N gC hlk
  have nb' := ne_N' gC hlk
  have ep0 := f10 (B := B) hG n0 (C.length : Int) h0 (by omega)
  have bp0 := pk_b (x := n0) (n := (C.length : Int)) (by omega)
  obtain ⟨p0, hp0⟩ : ∃ p : Nat, pk n0 (C.length : Int) = (p : Int) := ⟨(pk n0 (C.length : Int)).toNat, by omega⟩
  rw [hp0] at ep0 bp0
  have pz0 : (0 : Int) ≤ (p0 : Int) := by omega
  have pl0 : p0 < C.length := by omega
  obtain ⟨ca, hca⟩ : ∃ c, C.getD p0 z0 = c := ⟨_, rfl⟩
  have hma : C[p0]? = some ca := by rw [← hca]; exact some_getD pl0
  have t0 : tk (fl cl9 C) (p0 * 9) 9 = some (cl9 ca) := (tk_fl cl9_len C p0 0 9 z0 pl0 (by omega)).trans (by rw [hca]; rfl)
  have da : ca.d = true → ca.f < ca.t := fun h => by obtain ⟨i, q1, q2, _⟩ := hdn p0 ca hma h; omega
  have ep1 := f10 (B := B) hG n1 (C.length : Int) h1 (by omega)
  have bp1 := pk_b (x := n1) (n := (C.length : Int)) (by omega)
  obtain ⟨p1, hp1⟩ : ∃ p : Nat, pk n1 (C.length : Int) = (p : Int) := ⟨(pk n1 (C.length : Int)).toNat, by omega⟩
  rw [hp1] at ep1 bp1
  have pz1 : (0 : Int) ≤ (p1 : Int) := by omega
  have pl1 : p1 < C.length := by omega
  obtain ⟨cb, hcb⟩ : ∃ c, C.getD p1 z0 = c := ⟨_, rfl⟩
  have hmb : C[p1]? = some cb := by rw [← hcb]; exact some_getD pl1
  have t1 : tk (fl cl9 C) (p1 * 9) 9 = some (cl9 cb) := (tk_fl cl9_len C p1 0 9 z0 pl1 (by omega)).trans (by rw [hcb]; rfl)
  have db : cb.d = true → cb.f < cb.t := fun h => by obtain ⟨i, q1, q2, _⟩ := hdn p1 cb hmb h; omega
  have ep2 := f10 (B := B) hG n2 (C.length : Int) h2 (by omega)
  have bp2 := pk_b (x := n2) (n := (C.length : Int)) (by omega)
  obtain ⟨p2, hp2⟩ : ∃ p : Nat, pk n2 (C.length : Int) = (p : Int) := ⟨(pk n2 (C.length : Int)).toNat, by omega⟩
  rw [hp2] at ep2 bp2
  have pz2 : (0 : Int) ≤ (p2 : Int) := by omega
  have pl2 : p2 < C.length := by omega
  obtain ⟨cc, hcc⟩ : ∃ c, C.getD p2 z0 = c := ⟨_, rfl⟩
  have hmc : C[p2]? = some cc := by rw [← hcc]; exact some_getD pl2
  have t2 : tk (fl cl9 C) (p2 * 9) 9 = some (cl9 cc) := (tk_fl cl9_len C p2 0 9 z0 pl2 (by omega)).trans (by rw [hcc]; rfl)
  have dc : cc.d = true → cc.f < cc.t := fun h => by obtain ⟨i, q1, q2, _⟩ := hdn p2 cc hmc h; omega
  have ep3 := f10 (B := B) hG n3 (C.length : Int) h3 (by omega)
  have bp3 := pk_b (x := n3) (n := (C.length : Int)) (by omega)
  obtain ⟨p3, hp3⟩ : ∃ p : Nat, pk n3 (C.length : Int) = (p : Int) := ⟨(pk n3 (C.length : Int)).toNat, by omega⟩
  rw [hp3] at ep3 bp3
  have pz3 : (0 : Int) ≤ (p3 : Int) := by omega
  have pl3 : p3 < C.length := by omega
  obtain ⟨cd, hcd⟩ : ∃ c, C.getD p3 z0 = c := ⟨_, rfl⟩
  have hmd : C[p3]? = some cd := by rw [← hcd]; exact some_getD pl3
  have t3 : tk (fl cl9 C) (p3 * 9) 9 = some (cl9 cd) := (tk_fl cl9_len C p3 0 9 z0 pl3 (by omega)).trans (by rw [hcd]; rfl)
  have dd : cd.d = true → cd.f < cd.t := fun h => by obtain ⟨i, q1, q2, _⟩ := hdn p3 cd hmd h; omega
  have eab : F21 B [.agg #[.int .i64 ca.p, .int .i64 ca.c, .int .u64 ca.k, .int .u64 ca.v, .int .i64 ca.e, .int .u64 ca.r, .int .i64 ca.f, .int .i64 ca.t, .bool ca.d], .agg #[.int .i64 cb.p, .int .i64 cb.c, .int .u64 cb.k, .int .u64 cb.v, .int .i64 cb.e, .int .u64 cb.r, .int .i64 cb.f, .int .i64 cb.t, .bool cb.d]] = some (.bool (AH ca cb)) := f21 hG ca cb
  have ecd : F21 B [.agg #[.int .i64 cc.p, .int .i64 cc.c, .int .u64 cc.k, .int .u64 cc.v, .int .i64 cc.e, .int .u64 cc.r, .int .i64 cc.f, .int .i64 cc.t, .bool cc.d], .agg #[.int .i64 cd.p, .int .i64 cd.c, .int .u64 cd.k, .int .u64 cd.v, .int .i64 cd.e, .int .u64 cd.r, .int .i64 cd.f, .int .i64 cd.t, .bool cd.d]] = some (.bool (AH cc cd)) := f21 hG cc cd
  have ead : F21 B [.agg #[.int .i64 ca.p, .int .i64 ca.c, .int .u64 ca.k, .int .u64 ca.v, .int .i64 ca.e, .int .u64 ca.r, .int .i64 ca.f, .int .i64 ca.t, .bool ca.d], .agg #[.int .i64 cd.p, .int .i64 cd.c, .int .u64 cd.k, .int .u64 cd.v, .int .i64 cd.e, .int .u64 cd.r, .int .i64 cd.f, .int .i64 cd.t, .bool cd.d]] = some (.bool (AH ca cd)) := f21 hG ca cd
  have ecb : F21 B [.agg #[.int .i64 cc.p, .int .i64 cc.c, .int .u64 cc.k, .int .u64 cc.v, .int .i64 cc.e, .int .u64 cc.r, .int .i64 cc.f, .int .i64 cc.t, .bool cc.d], .agg #[.int .i64 cb.p, .int .i64 cb.c, .int .u64 cb.k, .int .u64 cb.v, .int .i64 cb.e, .int .u64 cb.r, .int .i64 cb.f, .int .i64 cb.t, .bool cb.d]] = some (.bool (AH cc cb)) := f21 hG cc cb
  have eaa : F21 B [.agg #[.int .i64 ca.p, .int .i64 ca.c, .int .u64 ca.k, .int .u64 ca.v, .int .i64 ca.e, .int .u64 ca.r, .int .i64 ca.f, .int .i64 ca.t, .bool ca.d], .agg #[.int .i64 ca.p, .int .i64 ca.c, .int .u64 ca.k, .int .u64 ca.v, .int .i64 ca.e, .int .u64 ca.r, .int .i64 ca.f, .int .i64 ca.t, .bool ca.d]] = some (.bool (AH ca ca)) := f21 hG ca ca
  have ebc : F21 B [.agg #[.int .i64 cb.p, .int .i64 cb.c, .int .u64 cb.k, .int .u64 cb.v, .int .i64 cb.e, .int .u64 cb.r, .int .i64 cb.f, .int .i64 cb.t, .bool cb.d], .agg #[.int .i64 cc.p, .int .i64 cc.c, .int .u64 cc.k, .int .u64 cc.v, .int .i64 cc.e, .int .u64 cc.r, .int .i64 cc.f, .int .i64 cc.t, .bool cc.d]] = some (.bool (AH cb cc)) := f21 hG cb cc
  have eac : F21 B [.agg #[.int .i64 ca.p, .int .i64 ca.c, .int .u64 ca.k, .int .u64 ca.v, .int .i64 ca.e, .int .u64 ca.r, .int .i64 ca.f, .int .i64 ca.t, .bool ca.d], .agg #[.int .i64 cc.p, .int .i64 cc.c, .int .u64 cc.k, .int .u64 cc.v, .int .i64 cc.e, .int .u64 cc.r, .int .i64 cc.f, .int .i64 cc.t, .bool cc.d]] = some (.bool (AH ca cc)) := f21 hG ca cc
  have eba : F21 B [.agg #[.int .i64 cb.p, .int .i64 cb.c, .int .u64 cb.k, .int .u64 cb.v, .int .i64 cb.e, .int .u64 cb.r, .int .i64 cb.f, .int .i64 cb.t, .bool cb.d], .agg #[.int .i64 ca.p, .int .i64 ca.c, .int .u64 ca.k, .int .u64 ca.v, .int .i64 ca.e, .int .u64 ca.r, .int .i64 ca.f, .int .i64 ca.t, .bool ca.d]] = some (.bool (AH cb ca)) := f21 hG cb ca

  clear hdn hle hnl
  simp only [cl9] at t0 t1 t2 t3
  simp -implicitDefEqProofs (maxSteps := 10000000) (disch := omega) only [T5, L5, G5_8, V8_eq, G5_9, G5_10, V10_eq, G5_11, G5_21, V21_eq, hB, hR, hI, lenV_sl, Int.toNat_natCast, bft, btf, gtst, st_len, a8, e9, eC, hlC, hz1, lkC, bC, rC, iC, nC, nC', hBb, rb, nb, nb', hlk, ep0, ep1, ep2, ep3, pz0, pz1, pz2, pz3, pl0, pl1, pl2, pl3, t0, t1, t2, t3, pad, e_skip, e_ops, e_draw, d_none, d_nil, d_cons, d_ite, h_none, h_nil, h_cons, h_ite, eqS_same, lightV, e_seq, e_cond, e_block, e_exit, e_ret, s_normal, s_ret, s_exit, s_none, s_ite, b_normal, b_ret, b_exit, b_none, b_ite, c_bool, x_none, x_nil, x_cons, x_ite, p_some, p_none, p_ite, pt_some, pt_none, pv_some, pv_none, pv_ite, w_none, w_some, i_bool, i_undef, bt, bf, v_tmp, v_const, v_global, v_func, evs, f_normal, f_ret, f_none, f_ite, r_some, co_some, l_ptr, m_agg, m_one, sh_app, lk_nil, lk_cons, rd_eq, rdO_some, rdO_none, rdN_none, rdL_some, rdL_none, wrB_none, unitR_some, wr_nil, wr_here, wr_skip, k_cells, tk_zero, tk_take, tk_skip, tkC_some, call_func, gt, st, binV, arith, isSh, storeV, all1, idxAV, fieldV, faddrV, iaddrSV, iaddrAV, pickV, convV, unV, eqbV, eqpV, extV, mm2, mmV, nilckV, ress, res1, retV, Value.cells, cond_true, cond_false, Bool.true_or, Bool.false_or, Bool.or_true, Bool.or_false, beq_self_eq_true, if_true, if_false, ite_true, ite_false, decide_true, decide_false, decide_eq_true_eq, reduceIte, Nat.zero_add, Nat.add_zero, and_self, true_and, and_true, List.size_toArray, List.length_cons, List.length_nil, List.append_nil, List.nil_append, Int.toNat_zero, Bool.not_false, Bool.not_true, Bool.not_not, Bool.false_eq_true, Bool.true_eq_false, reduceCtorEq, Int.reduceLT, Int.reduceLE, Int.reduceToNat, Int.reduceAdd, Int.reduceSub, Int.reduceMul, Int.reduceNeg, Nat.reduceMul, Nat.reduceAdd, Nat.reduceSub, Nat.reduceBEq, Nat.reduceEqDiff, Nat.reduceLT, Nat.reduceLeDiff, Int.reduceBEq, Int.reduceEq, Nat.reducePow, Int.reducePow, IntWalk.i64_in, IntKind.bits, eqAV, eqL, leafEq, andO, fillV, buildSV, List.getElem?_toArray, List.getElem?_cons_zero, List.getElem?_cons_succ, List.getElem?_nil, Int.reduceGT, Int.reduceGE, Int.reduceBNe, Bool.true_and, Bool.and_true, Bool.false_and, Bool.and_false, Bool.and_self, IntWalk.u64_in, Int.cast_ofNat_Int, callF1, pad16, pad_0, pad_1, pad_2, pad_3, pad_4, pad_5, pad_6, pad_7, pad_8, pad_9, pad_10, pad_11, pad_12, pad_13, pad_14, pad_15, gc0, gc1, gc2, gc3, gc4, gc5, gc6, gc7, gc8, gc9, gc10, gc11, gc12, gc13, gc14, gc15, gcS, sc0, sc1, sc2, sc3, sc4, sc5, sc6, sc7, sc8, sc9, sc10, sc11, sc12, sc13, sc14, sc15, scS, List.drop_succ_cons, List.drop_nil, x_pan, s_pan, b_pan, pE_ret, pE_pan, pE_none, pE_ite, pvE_some, pvE_none, pvE_ite, rv_some, rv_none, rv_ite, oR_ret, t_mv, t_pick, t_alloc, t_box, t_build, t_buildS, t_load, t_store, t_nilck, t_bin, t_eqb, t_eqA, t_eqp, t_un, t_conv, t_field, t_idxA, t_faddr, t_iaddrS, t_iaddrA, t_ext, t_len, t_mm, t_call, t_ifc, t_fn, t_slc, t_slcA, t_slcT, t_tass, t_isn, t_mks, t_app, t_pan, panE_i, optE_none, optE_some, bnd_none, bnd_int, slA_none, slA_some, appR_some, appOld_cells, newsV_s, newsV_n, lenS_s, appV_nil, appV_some, mksV_i, sh_c, sh_g, f_pan, endD_ret, dfr_normal, dfr_ret, dfr_pan, restD_normal, callD1, callC1, tassV, isnV, slcV, slcAV, slcTV, slcB, appNew, Option.bind_some, Option.bind_none, d_pan, h_pan, wrH_eq, wrX_cells, wrU_some, upH_nil, upH_cons, lk_upH, effR_some, effR_none, effR_ite, Option.isNone_none, Option.isNone_some, slA_zero, call_yield, e_range, it_func, wy_same, y_call, isLp_self, beg_normal, end_normal, end_ret, end_exit, end_ite, aft_ret, aft_ready, aft_done, aft_exit, setP_cons, setP_nil, sh_r, t_mkmap, t_mlook, t_mupd, t_mdel, mapF_some, lookF_some, setM_some, lookR_t, lookR_n, lookR_f, lookR_fn, lookV, mupdV, mdelV, mkM]
  have haa : AH ca ca = false := by
    cases h : AH ca ca with
    | false => rfl
    | true => have h := AH_iff.1 h; have := da h.1; omega
  have x1 : AH ca cb = true → AH cc cd = true → AH ca cd = false → AH cc cb = true := fun h1 h2 h3 => by
    have h1 := AH_iff.1 h1
    have h2 := AH_iff.1 h2
    refine AH_iff.2 ⟨h2.1, ?_⟩
    have h3 : ¬ ca.t < cd.f := fun h => by rw [AH_iff.2 ⟨h1.1, h⟩] at h3; cases h3
    omega
  have x2 : AH ca cb = true → AH cb cc = true → AH ca cc = true := fun h1 h2 => by
    have h1 := AH_iff.1 h1
    have h2 := AH_iff.1 h2
    have := db h2.1
    exact AH_iff.2 ⟨h1.1, by omega⟩
  have x3 : AH ca cb = true → AH cb ca = false := fun h1 => by
    have h1 := AH_iff.1 h1
    cases h : AH cb ca with
    | false => rfl
    | true =>
      have h := AH_iff.1 h
      have := da h1.1
      have := db h.1
      omega
  rw [haa] at eaa
  clear t0 t1 t2 t3 da db dc dd
  generalize AH ca cb = ab at *
  generalize AH cc cd = cd' at *
  generalize AH ca cd = ad at *
  generalize AH cc cb = cb' at *
  generalize AH cb cc = bc at *
  generalize AH ca cc = ac at *
  generalize AH cb ca = ba at *
  cases ab with
  | false =>
    simp -implicitDefEqProofs (maxSteps := 10000000) (disch := omega) only [T5, L5, G5_8, V8_eq, G5_9, G5_10, V10_eq, G5_11, G5_21, V21_eq, hB, hR, hI, lenV_sl, Int.toNat_natCast, bft, btf, gtst, st_len, eab, ecd, ead, ecb, eaa, ebc, eac, eba, bC, rC, iC, pad, e_skip, e_ops, e_draw, d_none, d_nil, d_cons, d_ite, h_none, h_nil, h_cons, h_ite, eqS_same, lightV, e_seq, e_cond, e_block, e_exit, e_ret, s_normal, s_ret, s_exit, s_none, s_ite, b_normal, b_ret, b_exit, b_none, b_ite, c_bool, x_none, x_nil, x_cons, x_ite, p_some, p_none, p_ite, pt_some, pt_none, pv_some, pv_none, pv_ite, w_none, w_some, i_bool, i_undef, bt, bf, v_tmp, v_const, v_global, v_func, evs, f_normal, f_ret, f_none, f_ite, r_some, co_some, l_ptr, m_agg, m_one, sh_app, lk_nil, lk_cons, rd_eq, rdO_some, rdO_none, rdN_none, rdL_some, rdL_none, wrB_none, unitR_some, wr_nil, wr_here, wr_skip, k_cells, tk_zero, tk_take, tk_skip, tkC_some, call_func, gt, st, binV, arith, isSh, storeV, all1, idxAV, fieldV, faddrV, iaddrSV, iaddrAV, pickV, convV, unV, eqbV, eqpV, extV, mm2, mmV, nilckV, ress, res1, retV, Value.cells, cond_true, cond_false, Bool.true_or, Bool.false_or, Bool.or_true, Bool.or_false, beq_self_eq_true, if_true, if_false, ite_true, ite_false, decide_true, decide_false, decide_eq_true_eq, reduceIte, Nat.zero_add, Nat.add_zero, and_self, true_and, and_true, List.size_toArray, List.length_cons, List.length_nil, List.append_nil, List.nil_append, Int.toNat_zero, Bool.not_false, Bool.not_true, Bool.not_not, Bool.false_eq_true, Bool.true_eq_false, reduceCtorEq, Int.reduceLT, Int.reduceLE, Int.reduceToNat, Int.reduceAdd, Int.reduceSub, Int.reduceMul, Int.reduceNeg, Nat.reduceMul, Nat.reduceAdd, Nat.reduceSub, Nat.reduceBEq, Nat.reduceEqDiff, Nat.reduceLT, Nat.reduceLeDiff, Int.reduceBEq, Int.reduceEq, Nat.reducePow, Int.reducePow, IntWalk.i64_in, IntKind.bits, eqAV, eqL, leafEq, andO, fillV, buildSV, List.getElem?_toArray, List.getElem?_cons_zero, List.getElem?_cons_succ, List.getElem?_nil, Int.reduceGT, Int.reduceGE, Int.reduceBNe, Bool.true_and, Bool.and_true, Bool.false_and, Bool.and_false, Bool.and_self, IntWalk.u64_in, Int.cast_ofNat_Int, callF1, pad16, pad_0, pad_1, pad_2, pad_3, pad_4, pad_5, pad_6, pad_7, pad_8, pad_9, pad_10, pad_11, pad_12, pad_13, pad_14, pad_15, gc0, gc1, gc2, gc3, gc4, gc5, gc6, gc7, gc8, gc9, gc10, gc11, gc12, gc13, gc14, gc15, gcS, sc0, sc1, sc2, sc3, sc4, sc5, sc6, sc7, sc8, sc9, sc10, sc11, sc12, sc13, sc14, sc15, scS, List.drop_succ_cons, List.drop_nil, x_pan, s_pan, b_pan, pE_ret, pE_pan, pE_none, pE_ite, pvE_some, pvE_none, pvE_ite, rv_some, rv_none, rv_ite, oR_ret, t_mv, t_pick, t_alloc, t_box, t_build, t_buildS, t_load, t_store, t_nilck, t_bin, t_eqb, t_eqA, t_eqp, t_un, t_conv, t_field, t_idxA, t_faddr, t_iaddrS, t_iaddrA, t_ext, t_len, t_mm, t_call, t_ifc, t_fn, t_slc, t_slcA, t_slcT, t_tass, t_isn, t_mks, t_app, t_pan, panE_i, optE_none, optE_some, bnd_none, bnd_int, slA_none, slA_some, appR_some, appOld_cells, newsV_s, newsV_n, lenS_s, appV_nil, appV_some, mksV_i, sh_c, sh_g, f_pan, endD_ret, dfr_normal, dfr_ret, dfr_pan, restD_normal, callD1, callC1, tassV, isnV, slcV, slcAV, slcTV, slcB, appNew, Option.bind_some, Option.bind_none, d_pan, h_pan, wrH_eq, wrX_cells, wrU_some, upH_nil, upH_cons, lk_upH, effR_some, effR_none, effR_ite, Option.isNone_none, Option.isNone_some, slA_zero, call_yield, e_range, it_func, wy_same, y_call, isLp_self, beg_normal, end_normal, end_ret, end_exit, end_ite, aft_ret, aft_ready, aft_done, aft_exit, setP_cons, setP_nil, sh_r, t_mkmap, t_mlook, t_mupd, t_mdel, mapF_some, lookF_some, setM_some, lookR_t, lookR_n, lookR_f, lookR_fn, lookV, mupdV, mdelV, mkM]
    exact ⟨_, _, rfl⟩
  | true =>
    rw [x3 rfl] at eba
    have x2 := x2 rfl
    have x1 := x1 rfl
    cases bc with
    | false =>
      cases cd' with
      | false =>
        simp -implicitDefEqProofs (maxSteps := 10000000) (disch := omega) only [T5, L5, G5_8, V8_eq, G5_9, G5_10, V10_eq, G5_11, G5_21, V21_eq, hB, hR, hI, lenV_sl, Int.toNat_natCast, bft, btf, gtst, st_len, eab, ecd, ead, ecb, eaa, ebc, eac, eba, bC, rC, iC, pad, e_skip, e_ops, e_draw, d_none, d_nil, d_cons, d_ite, h_none, h_nil, h_cons, h_ite, eqS_same, lightV, e_seq, e_cond, e_block, e_exit, e_ret, s_normal, s_ret, s_exit, s_none, s_ite, b_normal, b_ret, b_exit, b_none, b_ite, c_bool, x_none, x_nil, x_cons, x_ite, p_some, p_none, p_ite, pt_some, pt_none, pv_some, pv_none, pv_ite, w_none, w_some, i_bool, i_undef, bt, bf, v_tmp, v_const, v_global, v_func, evs, f_normal, f_ret, f_none, f_ite, r_some, co_some, l_ptr, m_agg, m_one, sh_app, lk_nil, lk_cons, rd_eq, rdO_some, rdO_none, rdN_none, rdL_some, rdL_none, wrB_none, unitR_some, wr_nil, wr_here, wr_skip, k_cells, tk_zero, tk_take, tk_skip, tkC_some, call_func, gt, st, binV, arith, isSh, storeV, all1, idxAV, fieldV, faddrV, iaddrSV, iaddrAV, pickV, convV, unV, eqbV, eqpV, extV, mm2, mmV, nilckV, ress, res1, retV, Value.cells, cond_true, cond_false, Bool.true_or, Bool.false_or, Bool.or_true, Bool.or_false, beq_self_eq_true, if_true, if_false, ite_true, ite_false, decide_true, decide_false, decide_eq_true_eq, reduceIte, Nat.zero_add, Nat.add_zero, and_self, true_and, and_true, List.size_toArray, List.length_cons, List.length_nil, List.append_nil, List.nil_append, Int.toNat_zero, Bool.not_false, Bool.not_true, Bool.not_not, Bool.false_eq_true, Bool.true_eq_false, reduceCtorEq, Int.reduceLT, Int.reduceLE, Int.reduceToNat, Int.reduceAdd, Int.reduceSub, Int.reduceMul, Int.reduceNeg, Nat.reduceMul, Nat.reduceAdd, Nat.reduceSub, Nat.reduceBEq, Nat.reduceEqDiff, Nat.reduceLT, Nat.reduceLeDiff, Int.reduceBEq, Int.reduceEq, Nat.reducePow, Int.reducePow, IntWalk.i64_in, IntKind.bits, eqAV, eqL, leafEq, andO, fillV, buildSV, List.getElem?_toArray, List.getElem?_cons_zero, List.getElem?_cons_succ, List.getElem?_nil, Int.reduceGT, Int.reduceGE, Int.reduceBNe, Bool.true_and, Bool.and_true, Bool.false_and, Bool.and_false, Bool.and_self, IntWalk.u64_in, Int.cast_ofNat_Int, callF1, pad16, pad_0, pad_1, pad_2, pad_3, pad_4, pad_5, pad_6, pad_7, pad_8, pad_9, pad_10, pad_11, pad_12, pad_13, pad_14, pad_15, gc0, gc1, gc2, gc3, gc4, gc5, gc6, gc7, gc8, gc9, gc10, gc11, gc12, gc13, gc14, gc15, gcS, sc0, sc1, sc2, sc3, sc4, sc5, sc6, sc7, sc8, sc9, sc10, sc11, sc12, sc13, sc14, sc15, scS, List.drop_succ_cons, List.drop_nil, x_pan, s_pan, b_pan, pE_ret, pE_pan, pE_none, pE_ite, pvE_some, pvE_none, pvE_ite, rv_some, rv_none, rv_ite, oR_ret, t_mv, t_pick, t_alloc, t_box, t_build, t_buildS, t_load, t_store, t_nilck, t_bin, t_eqb, t_eqA, t_eqp, t_un, t_conv, t_field, t_idxA, t_faddr, t_iaddrS, t_iaddrA, t_ext, t_len, t_mm, t_call, t_ifc, t_fn, t_slc, t_slcA, t_slcT, t_tass, t_isn, t_mks, t_app, t_pan, panE_i, optE_none, optE_some, bnd_none, bnd_int, slA_none, slA_some, appR_some, appOld_cells, newsV_s, newsV_n, lenS_s, appV_nil, appV_some, mksV_i, sh_c, sh_g, f_pan, endD_ret, dfr_normal, dfr_ret, dfr_pan, restD_normal, callD1, callC1, tassV, isnV, slcV, slcAV, slcTV, slcB, appNew, Option.bind_some, Option.bind_none, d_pan, h_pan, wrH_eq, wrX_cells, wrU_some, upH_nil, upH_cons, lk_upH, effR_some, effR_none, effR_ite, Option.isNone_none, Option.isNone_some, slA_zero, call_yield, e_range, it_func, wy_same, y_call, isLp_self, beg_normal, end_normal, end_ret, end_exit, end_ite, aft_ret, aft_ready, aft_done, aft_exit, setP_cons, setP_nil, sh_r, t_mkmap, t_mlook, t_mupd, t_mdel, mapF_some, lookF_some, setM_some, lookR_t, lookR_n, lookR_f, lookR_fn, lookV, mupdV, mdelV, mkM]
        exact ⟨_, _, rfl⟩
      | true =>
        cases ad with
        | true =>
          simp -implicitDefEqProofs (maxSteps := 10000000) (disch := omega) only [T5, L5, G5_8, V8_eq, G5_9, G5_10, V10_eq, G5_11, G5_21, V21_eq, hB, hR, hI, lenV_sl, Int.toNat_natCast, bft, btf, gtst, st_len, eab, ecd, ead, ecb, eaa, ebc, eac, eba, bC, rC, iC, pad, e_skip, e_ops, e_draw, d_none, d_nil, d_cons, d_ite, h_none, h_nil, h_cons, h_ite, eqS_same, lightV, e_seq, e_cond, e_block, e_exit, e_ret, s_normal, s_ret, s_exit, s_none, s_ite, b_normal, b_ret, b_exit, b_none, b_ite, c_bool, x_none, x_nil, x_cons, x_ite, p_some, p_none, p_ite, pt_some, pt_none, pv_some, pv_none, pv_ite, w_none, w_some, i_bool, i_undef, bt, bf, v_tmp, v_const, v_global, v_func, evs, f_normal, f_ret, f_none, f_ite, r_some, co_some, l_ptr, m_agg, m_one, sh_app, lk_nil, lk_cons, rd_eq, rdO_some, rdO_none, rdN_none, rdL_some, rdL_none, wrB_none, unitR_some, wr_nil, wr_here, wr_skip, k_cells, tk_zero, tk_take, tk_skip, tkC_some, call_func, gt, st, binV, arith, isSh, storeV, all1, idxAV, fieldV, faddrV, iaddrSV, iaddrAV, pickV, convV, unV, eqbV, eqpV, extV, mm2, mmV, nilckV, ress, res1, retV, Value.cells, cond_true, cond_false, Bool.true_or, Bool.false_or, Bool.or_true, Bool.or_false, beq_self_eq_true, if_true, if_false, ite_true, ite_false, decide_true, decide_false, decide_eq_true_eq, reduceIte, Nat.zero_add, Nat.add_zero, and_self, true_and, and_true, List.size_toArray, List.length_cons, List.length_nil, List.append_nil, List.nil_append, Int.toNat_zero, Bool.not_false, Bool.not_true, Bool.not_not, Bool.false_eq_true, Bool.true_eq_false, reduceCtorEq, Int.reduceLT, Int.reduceLE, Int.reduceToNat, Int.reduceAdd, Int.reduceSub, Int.reduceMul, Int.reduceNeg, Nat.reduceMul, Nat.reduceAdd, Nat.reduceSub, Nat.reduceBEq, Nat.reduceEqDiff, Nat.reduceLT, Nat.reduceLeDiff, Int.reduceBEq, Int.reduceEq, Nat.reducePow, Int.reducePow, IntWalk.i64_in, IntKind.bits, eqAV, eqL, leafEq, andO, fillV, buildSV, List.getElem?_toArray, List.getElem?_cons_zero, List.getElem?_cons_succ, List.getElem?_nil, Int.reduceGT, Int.reduceGE, Int.reduceBNe, Bool.true_and, Bool.and_true, Bool.false_and, Bool.and_false, Bool.and_self, IntWalk.u64_in, Int.cast_ofNat_Int, callF1, pad16, pad_0, pad_1, pad_2, pad_3, pad_4, pad_5, pad_6, pad_7, pad_8, pad_9, pad_10, pad_11, pad_12, pad_13, pad_14, pad_15, gc0, gc1, gc2, gc3, gc4, gc5, gc6, gc7, gc8, gc9, gc10, gc11, gc12, gc13, gc14, gc15, gcS, sc0, sc1, sc2, sc3, sc4, sc5, sc6, sc7, sc8, sc9, sc10, sc11, sc12, sc13, sc14, sc15, scS, List.drop_succ_cons, List.drop_nil, x_pan, s_pan, b_pan, pE_ret, pE_pan, pE_none, pE_ite, pvE_some, pvE_none, pvE_ite, rv_some, rv_none, rv_ite, oR_ret, t_mv, t_pick, t_alloc, t_box, t_build, t_buildS, t_load, t_store, t_nilck, t_bin, t_eqb, t_eqA, t_eqp, t_un, t_conv, t_field, t_idxA, t_faddr, t_iaddrS, t_iaddrA, t_ext, t_len, t_mm, t_call, t_ifc, t_fn, t_slc, t_slcA, t_slcT, t_tass, t_isn, t_mks, t_app, t_pan, panE_i, optE_none, optE_some, bnd_none, bnd_int, slA_none, slA_some, appR_some, appOld_cells, newsV_s, newsV_n, lenS_s, appV_nil, appV_some, mksV_i, sh_c, sh_g, f_pan, endD_ret, dfr_normal, dfr_ret, dfr_pan, restD_normal, callD1, callC1, tassV, isnV, slcV, slcAV, slcTV, slcB, appNew, Option.bind_some, Option.bind_none, d_pan, h_pan, wrH_eq, wrX_cells, wrU_some, upH_nil, upH_cons, lk_upH, effR_some, effR_none, effR_ite, Option.isNone_none, Option.isNone_some, slA_zero, call_yield, e_range, it_func, wy_same, y_call, isLp_self, beg_normal, end_normal, end_ret, end_exit, end_ite, aft_ret, aft_ready, aft_done, aft_exit, setP_cons, setP_nil, sh_r, t_mkmap, t_mlook, t_mupd, t_mdel, mapF_some, lookF_some, setM_some, lookR_t, lookR_n, lookR_f, lookR_fn, lookV, mupdV, mdelV, mkM]
          exact ⟨_, _, rfl⟩
        | false =>
          rw [x1 rfl rfl] at ecb
          simp -implicitDefEqProofs (maxSteps := 10000000) (disch := omega) only [T5, L5, G5_8, V8_eq, G5_9, G5_10, V10_eq, G5_11, G5_21, V21_eq, hB, hR, hI, lenV_sl, Int.toNat_natCast, bft, btf, gtst, st_len, eab, ecd, ead, ecb, eaa, ebc, eac, eba, bC, rC, iC, pad, e_skip, e_ops, e_draw, d_none, d_nil, d_cons, d_ite, h_none, h_nil, h_cons, h_ite, eqS_same, lightV, e_seq, e_cond, e_block, e_exit, e_ret, s_normal, s_ret, s_exit, s_none, s_ite, b_normal, b_ret, b_exit, b_none, b_ite, c_bool, x_none, x_nil, x_cons, x_ite, p_some, p_none, p_ite, pt_some, pt_none, pv_some, pv_none, pv_ite, w_none, w_some, i_bool, i_undef, bt, bf, v_tmp, v_const, v_global, v_func, evs, f_normal, f_ret, f_none, f_ite, r_some, co_some, l_ptr, m_agg, m_one, sh_app, lk_nil, lk_cons, rd_eq, rdO_some, rdO_none, rdN_none, rdL_some, rdL_none, wrB_none, unitR_some, wr_nil, wr_here, wr_skip, k_cells, tk_zero, tk_take, tk_skip, tkC_some, call_func, gt, st, binV, arith, isSh, storeV, all1, idxAV, fieldV, faddrV, iaddrSV, iaddrAV, pickV, convV, unV, eqbV, eqpV, extV, mm2, mmV, nilckV, ress, res1, retV, Value.cells, cond_true, cond_false, Bool.true_or, Bool.false_or, Bool.or_true, Bool.or_false, beq_self_eq_true, if_true, if_false, ite_true, ite_false, decide_true, decide_false, decide_eq_true_eq, reduceIte, Nat.zero_add, Nat.add_zero, and_self, true_and, and_true, List.size_toArray, List.length_cons, List.length_nil, List.append_nil, List.nil_append, Int.toNat_zero, Bool.not_false, Bool.not_true, Bool.not_not, Bool.false_eq_true, Bool.true_eq_false, reduceCtorEq, Int.reduceLT, Int.reduceLE, Int.reduceToNat, Int.reduceAdd, Int.reduceSub, Int.reduceMul, Int.reduceNeg, Nat.reduceMul, Nat.reduceAdd, Nat.reduceSub, Nat.reduceBEq, Nat.reduceEqDiff, Nat.reduceLT, Nat.reduceLeDiff, Int.reduceBEq, Int.reduceEq, Nat.reducePow, Int.reducePow, IntWalk.i64_in, IntKind.bits, eqAV, eqL, leafEq, andO, fillV, buildSV, List.getElem?_toArray, List.getElem?_cons_zero, List.getElem?_cons_succ, List.getElem?_nil, Int.reduceGT, Int.reduceGE, Int.reduceBNe, Bool.true_and, Bool.and_true, Bool.false_and, Bool.and_false, Bool.and_self, IntWalk.u64_in, Int.cast_ofNat_Int, callF1, pad16, pad_0, pad_1, pad_2, pad_3, pad_4, pad_5, pad_6, pad_7, pad_8, pad_9, pad_10, pad_11, pad_12, pad_13, pad_14, pad_15, gc0, gc1, gc2, gc3, gc4, gc5, gc6, gc7, gc8, gc9, gc10, gc11, gc12, gc13, gc14, gc15, gcS, sc0, sc1, sc2, sc3, sc4, sc5, sc6, sc7, sc8, sc9, sc10, sc11, sc12, sc13, sc14, sc15, scS, List.drop_succ_cons, List.drop_nil, x_pan, s_pan, b_pan, pE_ret, pE_pan, pE_none, pE_ite, pvE_some, pvE_none, pvE_ite, rv_some, rv_none, rv_ite, oR_ret, t_mv, t_pick, t_alloc, t_box, t_build, t_buildS, t_load, t_store, t_nilck, t_bin, t_eqb, t_eqA, t_eqp, t_un, t_conv, t_field, t_idxA, t_faddr, t_iaddrS, t_iaddrA, t_ext, t_len, t_mm, t_call, t_ifc, t_fn, t_slc, t_slcA, t_slcT, t_tass, t_isn, t_mks, t_app, t_pan, panE_i, optE_none, optE_some, bnd_none, bnd_int, slA_none, slA_some, appR_some, appOld_cells, newsV_s, newsV_n, lenS_s, appV_nil, appV_some, mksV_i, sh_c, sh_g, f_pan, endD_ret, dfr_normal, dfr_ret, dfr_pan, restD_normal, callD1, callC1, tassV, isnV, slcV, slcAV, slcTV, slcB, appNew, Option.bind_some, Option.bind_none, d_pan, h_pan, wrH_eq, wrX_cells, wrU_some, upH_nil, upH_cons, lk_upH, effR_some, effR_none, effR_ite, Option.isNone_none, Option.isNone_some, slA_zero, call_yield, e_range, it_func, wy_same, y_call, isLp_self, beg_normal, end_normal, end_ret, end_exit, end_ite, aft_ret, aft_ready, aft_done, aft_exit, setP_cons, setP_nil, sh_r, t_mkmap, t_mlook, t_mupd, t_mdel, mapF_some, lookF_some, setM_some, lookR_t, lookR_n, lookR_f, lookR_fn, lookV, mupdV, mdelV, mkM]
          exact ⟨_, _, rfl⟩
    | true =>
      rw [x2 rfl] at eac
      cases cd' with
      | false =>
        simp -implicitDefEqProofs (maxSteps := 10000000) (disch := omega) only [T5, L5, G5_8, V8_eq, G5_9, G5_10, V10_eq, G5_11, G5_21, V21_eq, hB, hR, hI, lenV_sl, Int.toNat_natCast, bft, btf, gtst, st_len, eab, ecd, ead, ecb, eaa, ebc, eac, eba, bC, rC, iC, pad, e_skip, e_ops, e_draw, d_none, d_nil, d_cons, d_ite, h_none, h_nil, h_cons, h_ite, eqS_same, lightV, e_seq, e_cond, e_block, e_exit, e_ret, s_normal, s_ret, s_exit, s_none, s_ite, b_normal, b_ret, b_exit, b_none, b_ite, c_bool, x_none, x_nil, x_cons, x_ite, p_some, p_none, p_ite, pt_some, pt_none, pv_some, pv_none, pv_ite, w_none, w_some, i_bool, i_undef, bt, bf, v_tmp, v_const, v_global, v_func, evs, f_normal, f_ret, f_none, f_ite, r_some, co_some, l_ptr, m_agg, m_one, sh_app, lk_nil, lk_cons, rd_eq, rdO_some, rdO_none, rdN_none, rdL_some, rdL_none, wrB_none, unitR_some, wr_nil, wr_here, wr_skip, k_cells, tk_zero, tk_take, tk_skip, tkC_some, call_func, gt, st, binV, arith, isSh, storeV, all1, idxAV, fieldV, faddrV, iaddrSV, iaddrAV, pickV, convV, unV, eqbV, eqpV, extV, mm2, mmV, nilckV, ress, res1, retV, Value.cells, cond_true, cond_false, Bool.true_or, Bool.false_or, Bool.or_true, Bool.or_false, beq_self_eq_true, if_true, if_false, ite_true, ite_false, decide_true, decide_false, decide_eq_true_eq, reduceIte, Nat.zero_add, Nat.add_zero, and_self, true_and, and_true, List.size_toArray, List.length_cons, List.length_nil, List.append_nil, List.nil_append, Int.toNat_zero, Bool.not_false, Bool.not_true, Bool.not_not, Bool.false_eq_true, Bool.true_eq_false, reduceCtorEq, Int.reduceLT, Int.reduceLE, Int.reduceToNat, Int.reduceAdd, Int.reduceSub, Int.reduceMul, Int.reduceNeg, Nat.reduceMul, Nat.reduceAdd, Nat.reduceSub, Nat.reduceBEq, Nat.reduceEqDiff, Nat.reduceLT, Nat.reduceLeDiff, Int.reduceBEq, Int.reduceEq, Nat.reducePow, Int.reducePow, IntWalk.i64_in, IntKind.bits, eqAV, eqL, leafEq, andO, fillV, buildSV, List.getElem?_toArray, List.getElem?_cons_zero, List.getElem?_cons_succ, List.getElem?_nil, Int.reduceGT, Int.reduceGE, Int.reduceBNe, Bool.true_and, Bool.and_true, Bool.false_and, Bool.and_false, Bool.and_self, IntWalk.u64_in, Int.cast_ofNat_Int, callF1, pad16, pad_0, pad_1, pad_2, pad_3, pad_4, pad_5, pad_6, pad_7, pad_8, pad_9, pad_10, pad_11, pad_12, pad_13, pad_14, pad_15, gc0, gc1, gc2, gc3, gc4, gc5, gc6, gc7, gc8, gc9, gc10, gc11, gc12, gc13, gc14, gc15, gcS, sc0, sc1, sc2, sc3, sc4, sc5, sc6, sc7, sc8, sc9, sc10, sc11, sc12, sc13, sc14, sc15, scS, List.drop_succ_cons, List.drop_nil, x_pan, s_pan, b_pan, pE_ret, pE_pan, pE_none, pE_ite, pvE_some, pvE_none, pvE_ite, rv_some, rv_none, rv_ite, oR_ret, t_mv, t_pick, t_alloc, t_box, t_build, t_buildS, t_load, t_store, t_nilck, t_bin, t_eqb, t_eqA, t_eqp, t_un, t_conv, t_field, t_idxA, t_faddr, t_iaddrS, t_iaddrA, t_ext, t_len, t_mm, t_call, t_ifc, t_fn, t_slc, t_slcA, t_slcT, t_tass, t_isn, t_mks, t_app, t_pan, panE_i, optE_none, optE_some, bnd_none, bnd_int, slA_none, slA_some, appR_some, appOld_cells, newsV_s, newsV_n, lenS_s, appV_nil, appV_some, mksV_i, sh_c, sh_g, f_pan, endD_ret, dfr_normal, dfr_ret, dfr_pan, restD_normal, callD1, callC1, tassV, isnV, slcV, slcAV, slcTV, slcB, appNew, Option.bind_some, Option.bind_none, d_pan, h_pan, wrH_eq, wrX_cells, wrU_some, upH_nil, upH_cons, lk_upH, effR_some, effR_none, effR_ite, Option.isNone_none, Option.isNone_some, slA_zero, call_yield, e_range, it_func, wy_same, y_call, isLp_self, beg_normal, end_normal, end_ret, end_exit, end_ite, aft_ret, aft_ready, aft_done, aft_exit, setP_cons, setP_nil, sh_r, t_mkmap, t_mlook, t_mupd, t_mdel, mapF_some, lookF_some, setM_some, lookR_t, lookR_n, lookR_f, lookR_fn, lookV, mupdV, mdelV, mkM]
        exact ⟨_, _, rfl⟩
      | true =>
        cases ad with
        | true =>
          simp -implicitDefEqProofs (maxSteps := 10000000) (disch := omega) only [T5, L5, G5_8, V8_eq, G5_9, G5_10, V10_eq, G5_11, G5_21, V21_eq, hB, hR, hI, lenV_sl, Int.toNat_natCast, bft, btf, gtst, st_len, eab, ecd, ead, ecb, eaa, ebc, eac, eba, bC, rC, iC, pad, e_skip, e_ops, e_draw, d_none, d_nil, d_cons, d_ite, h_none, h_nil, h_cons, h_ite, eqS_same, lightV, e_seq, e_cond, e_block, e_exit, e_ret, s_normal, s_ret, s_exit, s_none, s_ite, b_normal, b_ret, b_exit, b_none, b_ite, c_bool, x_none, x_nil, x_cons, x_ite, p_some, p_none, p_ite, pt_some, pt_none, pv_some, pv_none, pv_ite, w_none, w_some, i_bool, i_undef, bt, bf, v_tmp, v_const, v_global, v_func, evs, f_normal, f_ret, f_none, f_ite, r_some, co_some, l_ptr, m_agg, m_one, sh_app, lk_nil, lk_cons, rd_eq, rdO_some, rdO_none, rdN_none, rdL_some, rdL_none, wrB_none, unitR_some, wr_nil, wr_here, wr_skip, k_cells, tk_zero, tk_take, tk_skip, tkC_some, call_func, gt, st, binV, arith, isSh, storeV, all1, idxAV, fieldV, faddrV, iaddrSV, iaddrAV, pickV, convV, unV, eqbV, eqpV, extV, mm2, mmV, nilckV, ress, res1, retV, Value.cells, cond_true, cond_false, Bool.true_or, Bool.false_or, Bool.or_true, Bool.or_false, beq_self_eq_true, if_true, if_false, ite_true, ite_false, decide_true, decide_false, decide_eq_true_eq, reduceIte, Nat.zero_add, Nat.add_zero, and_self, true_and, and_true, List.size_toArray, List.length_cons, List.length_nil, List.append_nil, List.nil_append, Int.toNat_zero, Bool.not_false, Bool.not_true, Bool.not_not, Bool.false_eq_true, Bool.true_eq_false, reduceCtorEq, Int.reduceLT, Int.reduceLE, Int.reduceToNat, Int.reduceAdd, Int.reduceSub, Int.reduceMul, Int.reduceNeg, Nat.reduceMul, Nat.reduceAdd, Nat.reduceSub, Nat.reduceBEq, Nat.reduceEqDiff, Nat.reduceLT, Nat.reduceLeDiff, Int.reduceBEq, Int.reduceEq, Nat.reducePow, Int.reducePow, IntWalk.i64_in, IntKind.bits, eqAV, eqL, leafEq, andO, fillV, buildSV, List.getElem?_toArray, List.getElem?_cons_zero, List.getElem?_cons_succ, List.getElem?_nil, Int.reduceGT, Int.reduceGE, Int.reduceBNe, Bool.true_and, Bool.and_true, Bool.false_and, Bool.and_false, Bool.and_self, IntWalk.u64_in, Int.cast_ofNat_Int, callF1, pad16, pad_0, pad_1, pad_2, pad_3, pad_4, pad_5, pad_6, pad_7, pad_8, pad_9, pad_10, pad_11, pad_12, pad_13, pad_14, pad_15, gc0, gc1, gc2, gc3, gc4, gc5, gc6, gc7, gc8, gc9, gc10, gc11, gc12, gc13, gc14, gc15, gcS, sc0, sc1, sc2, sc3, sc4, sc5, sc6, sc7, sc8, sc9, sc10, sc11, sc12, sc13, sc14, sc15, scS, List.drop_succ_cons, List.drop_nil, x_pan, s_pan, b_pan, pE_ret, pE_pan, pE_none, pE_ite, pvE_some, pvE_none, pvE_ite, rv_some, rv_none, rv_ite, oR_ret, t_mv, t_pick, t_alloc, t_box, t_build, t_buildS, t_load, t_store, t_nilck, t_bin, t_eqb, t_eqA, t_eqp, t_un, t_conv, t_field, t_idxA, t_faddr, t_iaddrS, t_iaddrA, t_ext, t_len, t_mm, t_call, t_ifc, t_fn, t_slc, t_slcA, t_slcT, t_tass, t_isn, t_mks, t_app, t_pan, panE_i, optE_none, optE_some, bnd_none, bnd_int, slA_none, slA_some, appR_some, appOld_cells, newsV_s, newsV_n, lenS_s, appV_nil, appV_some, mksV_i, sh_c, sh_g, f_pan, endD_ret, dfr_normal, dfr_ret, dfr_pan, restD_normal, callD1, callC1, tassV, isnV, slcV, slcAV, slcTV, slcB, appNew, Option.bind_some, Option.bind_none, d_pan, h_pan, wrH_eq, wrX_cells, wrU_some, upH_nil, upH_cons, lk_upH, effR_some, effR_none, effR_ite, Option.isNone_none, Option.isNone_some, slA_zero, call_yield, e_range, it_func, wy_same, y_call, isLp_self, beg_normal, end_normal, end_ret, end_exit, end_ite, aft_ret, aft_ready, aft_done, aft_exit, setP_cons, setP_nil, sh_r, t_mkmap, t_mlook, t_mupd, t_mdel, mapF_some, lookF_some, setM_some, lookR_t, lookR_n, lookR_f, lookR_fn, lookV, mupdV, mdelV, mkM]
          exact ⟨_, _, rfl⟩
        | false =>
          rw [x1 rfl rfl] at ecb
          simp -implicitDefEqProofs (maxSteps := 10000000) (disch := omega) only [T5, L5, G5_8, V8_eq, G5_9, G5_10, V10_eq, G5_11, G5_21, V21_eq, hB, hR, hI, lenV_sl, Int.toNat_natCast, bft, btf, gtst, st_len, eab, ecd, ead, ecb, eaa, ebc, eac, eba, bC, rC, iC, pad, e_skip, e_ops, e_draw, d_none, d_nil, d_cons, d_ite, h_none, h_nil, h_cons, h_ite, eqS_same, lightV, e_seq, e_cond, e_block, e_exit, e_ret, s_normal, s_ret, s_exit, s_none, s_ite, b_normal, b_ret, b_exit, b_none, b_ite, c_bool, x_none, x_nil, x_cons, x_ite, p_some, p_none, p_ite, pt_some, pt_none, pv_some, pv_none, pv_ite, w_none, w_some, i_bool, i_undef, bt, bf, v_tmp, v_const, v_global, v_func, evs, f_normal, f_ret, f_none, f_ite, r_some, co_some, l_ptr, m_agg, m_one, sh_app, lk_nil, lk_cons, rd_eq, rdO_some, rdO_none, rdN_none, rdL_some, rdL_none, wrB_none, unitR_some, wr_nil, wr_here, wr_skip, k_cells, tk_zero, tk_take, tk_skip, tkC_some, call_func, gt, st, binV, arith, isSh, storeV, all1, idxAV, fieldV, faddrV, iaddrSV, iaddrAV, pickV, convV, unV, eqbV, eqpV, extV, mm2, mmV, nilckV, ress, res1, retV, Value.cells, cond_true, cond_false, Bool.true_or, Bool.false_or, Bool.or_true, Bool.or_false, beq_self_eq_true, if_true, if_false, ite_true, ite_false, decide_true, decide_false, decide_eq_true_eq, reduceIte, Nat.zero_add, Nat.add_zero, and_self, true_and, and_true, List.size_toArray, List.length_cons, List.length_nil, List.append_nil, List.nil_append, Int.toNat_zero, Bool.not_false, Bool.not_true, Bool.not_not, Bool.false_eq_true, Bool.true_eq_false, reduceCtorEq, Int.reduceLT, Int.reduceLE, Int.reduceToNat, Int.reduceAdd, Int.reduceSub, Int.reduceMul, Int.reduceNeg, Nat.reduceMul, Nat.reduceAdd, Nat.reduceSub, Nat.reduceBEq, Nat.reduceEqDiff, Nat.reduceLT, Nat.reduceLeDiff, Int.reduceBEq, Int.reduceEq, Nat.reducePow, Int.reducePow, IntWalk.i64_in, IntKind.bits, eqAV, eqL, leafEq, andO, fillV, buildSV, List.getElem?_toArray, List.getElem?_cons_zero, List.getElem?_cons_succ, List.getElem?_nil, Int.reduceGT, Int.reduceGE, Int.reduceBNe, Bool.true_and, Bool.and_true, Bool.false_and, Bool.and_false, Bool.and_self, IntWalk.u64_in, Int.cast_ofNat_Int, callF1, pad16, pad_0, pad_1, pad_2, pad_3, pad_4, pad_5, pad_6, pad_7, pad_8, pad_9, pad_10, pad_11, pad_12, pad_13, pad_14, pad_15, gc0, gc1, gc2, gc3, gc4, gc5, gc6, gc7, gc8, gc9, gc10, gc11, gc12, gc13, gc14, gc15, gcS, sc0, sc1, sc2, sc3, sc4, sc5, sc6, sc7, sc8, sc9, sc10, sc11, sc12, sc13, sc14, sc15, scS, List.drop_succ_cons, List.drop_nil, x_pan, s_pan, b_pan, pE_ret, pE_pan, pE_none, pE_ite, pvE_some, pvE_none, pvE_ite, rv_some, rv_none, rv_ite, oR_ret, t_mv, t_pick, t_alloc, t_box, t_build, t_buildS, t_load, t_store, t_nilck, t_bin, t_eqb, t_eqA, t_eqp, t_un, t_conv, t_field, t_idxA, t_faddr, t_iaddrS, t_iaddrA, t_ext, t_len, t_mm, t_call, t_ifc, t_fn, t_slc, t_slcA, t_slcT, t_tass, t_isn, t_mks, t_app, t_pan, panE_i, optE_none, optE_some, bnd_none, bnd_int, slA_none, slA_some, appR_some, appOld_cells, newsV_s, newsV_n, lenS_s, appV_nil, appV_some, mksV_i, sh_c, sh_g, f_pan, endD_ret, dfr_normal, dfr_ret, dfr_pan, restD_normal, callD1, callC1, tassV, isnV, slcV, slcAV, slcTV, slcB, appNew, Option.bind_some, Option.bind_none, d_pan, h_pan, wrH_eq, wrX_cells, wrU_some, upH_nil, upH_cons, lk_upH, effR_some, effR_none, effR_ite, Option.isNone_none, Option.isNone_some, slA_zero, call_yield, e_range, it_func, wy_same, y_call, isLp_self, beg_normal, end_normal, end_ret, end_exit, end_ite, aft_ret, aft_ready, aft_done, aft_exit, setP_cons, setP_nil, sh_r, t_mkmap, t_mlook, t_mupd, t_mdel, mapF_some, lookF_some, setM_some, lookR_t, lookR_n, lookR_f, lookR_fn, lookV, mupdV, mdelV, mkM]
          exact ⟨_, _, rfl⟩
end Go.Proofs.Ytkohdcjeankhkaa
namespace Go.Proofs.Ytkohdcjeankhkaa
open Go.Proofs.Ytkohdcjeankhkaa.K Go.ChangeShapes Go.WideShapes Go.ChangeAt Go.RowKit
set_option maxRecDepth 100000
set_option linter.unusedSimpArgs false
set_option linter.unusedVariables false

namespace histOrder
theorem own : ownKnob Try.prog.godebug = none := by kernel_rfl
theorem laidOut : laidOutB Try.prog = true := by kernel_rfl
theorem typesOk : (Try.f5.params.toList.all fun t => Try.prog.readableRec t && decide (t < Try.prog.types.size)) = true := by kernel_rfl
theorem contract (H : Type) (enc : TypeId × Value → H) (W : World) (base : Nat) (args : Array Value) (ds gs : List (DataW H)) (before : List MemPlace)
    (hval : ∀ (j : Nat) t v, Try.f5.params[j]? = some t → args[j]? = some v → Value.okWide Try.prog W .any base t v)
    (hW : DataW.Whole enc Try.prog Try.f5.params.toList Rows.histOrderSpec.vars false W args.toList ds gs before) (hL : laidMetH Try.prog Rows.histOrderRow.laid W) :
    Calls Try.prog 5 args W fun e W' => ∃ v, e = .returned v ∧ Rows.histOrderSpec.post enc Try.prog Try.f5 false true false false W args v W' := by
  have hW' := hW
  obtain ⟨p, q, hA0, hV, hpq, hfz, hnd⟩ := hW
  have hA : DataW.TrodAll enc Try.prog W 0 (fun _ => true) true Try.f5.params.toList args.toList ds p := hA0
  rw [Try.params5] at hA hval
  obtain ⟨v0, vs0, d0, ds0, p0, q0, hargs, rfl, rfl, h0, r0⟩ := trodAll_cons hA
  obtain ⟨v1, vs1, d1, ds1, p1, q1, rfl, rfl, rfl, h1, r1⟩ := trodAll_cons r0
  obtain ⟨rfl, rfl, rfl⟩ := trodAll_nil r1
  obtain rfl : args = #[v0, v1] := by apply Array.ext'; simpa using hargs
  obtain ⟨rfl, rfl⟩ := trodVars_none hV
  have s0 := open_flats (P := Try.prog) 20 Try.underlying22 (show leafs Try.prog 20 61 = some [.int .i64, .int .i64, .int .i64] by kernel_rfl) (show Try.prog.cellsOf 61 = 3 by kernel_rfl) (by decide) (hval 0 22 v0 rfl rfl) h0
  obtain ⟨m1, rfl, k1⟩ := open_flat (P := Try.prog) 20 (show aggB Try.prog 57 = some true by kernel_rfl) (show leafs Try.prog 20 57 = some [.int .i64, .int .i64, .int .i64, .int .i64] by kernel_rfl) (hval 1 57 v1 rfl rfl) h1
  obtain ⟨x1_0, m1_0, rfl, w1_0, k1⟩ := k1.int
  have b1_0 := i64_wf w1_0
  obtain ⟨x1_1, m1_1, rfl, w1_1, k1⟩ := k1.int
  have b1_1 := i64_wf w1_1
  obtain ⟨x1_2, m1_2, rfl, w1_2, k1⟩ := k1.int
  have b1_2 := i64_wf w1_2
  obtain ⟨x1_3, m1_3, rfl, w1_3, k1⟩ := k1.int
  have b1_3 := i64_wf w1_3
  obtain rfl := k1.none
  refine law_post laidOut (fun t ht => by simpa using List.all_eq_true.1 typesOk t ht) rfl (show Try.f5.resultTypes = #[4] by rfl) Try.underlying4 hW' rfl rfl rfl ?_
  obtain ⟨w, hw, hb⟩ := raw3_open s0
  have hs := callF_sound (w0 := W) (B := startB W) mixedOrders sG5 1300 Try.func5 low5
  exact law_calls hs (args := [v0, .agg #[.int .i64 x1_0, .int .i64 x1_1, .int .i64 x1_2, .int .i64 x1_3]]) fun N hN => lv5 b1_0 b1_1 b1_2 b1_3 hb [] N hN (hw.rd r3_len)

noncomputable def laidWorld (os : Os) : World := laidW Try.prog os []
theorem laid_met (os : Os) : laidMet Try.prog Rows.histOrderRow.laid ((laidWorld os).forCall (fun _ _ => 0) ⟨#[], #[.slice none 0 0, .agg #[.int .i64 0, .int .i64 0, .int .i64 0, .int .i64 0]], []⟩).memory :=
  laidMet_of_run' 16 (by kernel_rfl) (by kernel_rfl)
theorem reads (os : Os) {H : Type} (enc : TypeId × Value → H) : ∃ places, DataW.whole enc Try.prog ((laidWorld os).forCall (fun _ _ => 0) ⟨#[], #[.slice none 0 0, .agg #[.int .i64 0, .int .i64 0, .int .i64 0, .int .i64 0]], []⟩).memory Try.f5.params.toList Rows.histOrderSpec.vars false (#[.slice none 0 0, .agg #[.int .i64 0, .int .i64 0, .int .i64 0, .int .i64 0]] : Array Value).toList 16 = some ([.nil, .agg [.lit (.int .i64 0), .lit (.int .i64 0), .lit (.int .i64 0), .lit (.int .i64 0)]], [], places) :=
  ⟨[], by kernel_rfl⟩
theorem lifted (os : Os) (started : os.Started) (H : Type) (enc : TypeId × Value → H) (F : Stop.Interp) :
    ReturnsInHanded {} Try.checked os 5 .any ((OpenSpec.ofChange Rows.histOrderSpec).preRow enc Try.prog Try.f5 Rows.histOrderRow.domain false Rows.histOrderRow.laid) (((OpenSpec.ofChange Rows.histOrderSpec).at F).post enc Try.prog Try.f5 false true false false) := by
  obtain ⟨places, hx⟩ := reads os enc
  refine returnsInHanded_of_row (C := Try.checked) (s := OpenSpec.ofChange Rows.histOrderSpec) own started (by kernel_rfl) Try.func5
    (witness_row_at (enc := enc) (C := Try.checked) false (laidWorld os) #[.slice none 0 0, .agg #[.int .i64 0, .int .i64 0, .int .i64 0, .int .i64 0]] rfl (by kernel_rfl) (by kernel_rfl) (by kernel_rfl)
      (OpenSpec.preRow_of_cond 16 hx (by kernel_rfl) (fun k hk => by cases hk) (by kernel_rfl) (laid_met os))) ?_
  intro W base args ds gs before hval hW _ _ _ hL _ _
  exact contract H enc W base args ds gs before hval hW hL
theorem said : Rows.HistOrderSaid :=
  OpenClaim.holds_of_cond 5 Try.f5 rfl rfl rfl rfl rfl rfl rfl ⟨rfl, rfl, rfl, rfl, rfl⟩ rfl rfl rfl rfl rfl (by kernel_rfl) Try.func5 (by kernel_rfl)
    (of_decide_eq_true (by kernel_rfl)) (by unfold Func.isWrapper; first | (rw [if_pos (by decide +kernel)]; kernel_rfl) | (rw [if_neg (by decide +kernel)]; exact ⟨rfl, rfl⟩))
    (fun os started H enc _ F => by rw [OpenClaim.pre_eq_preRow]; exact lifted os started H enc F)
end histOrder
end Go.Proofs.Ytkohdcjeankhkaa
