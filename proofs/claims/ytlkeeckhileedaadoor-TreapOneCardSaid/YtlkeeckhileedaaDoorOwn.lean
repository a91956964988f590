/- The mathematics of treaps, and what small functions of the laws of the package treap answer: words mixed, keys, lists compared, the loops of Build. -/
import Derived.Test.YtlkeeckhileedaaDoorKb
import Derived.Test.YtlkeeckhileedaaDoorChecked
set_option linter.unusedSimpArgs false
set_option linter.unusedVariables false
namespace Go.Proofs.YtlkeeckhileedaaDoor
open Go.Proofs.YtlkeeckhileedaaDoor.K Go.ChangeShapes Go.WideShapes Go.ChangeAt Go.RowKit
set_option maxRecDepth 100000
set_option linter.unusedSimpArgs false
set_option linter.unusedVariables false
theorem mixedOrders : Tryd.prog.follows .mixedOrders = true := by kernel_rfl
/-! ### Mixed words -/
def c1 : BitVec 64 := 0xbf58476d1ce4e5b9#64
def c2 : BitVec 64 := 0x94d049bb133111eb#64
def d1 : BitVec 64 := 0x96de1b173f119089#64
def d2 : BitVec 64 := 0x319642b2d24d8ec3#64
def fold (k : Nat) (x : BitVec 64) : BitVec 64 := x ^^^ x >>> k
def unf (k : Nat) (x : BitVec 64) : BitVec 64 := x ^^^ x >>> k ^^^ x >>> (2 * k)
def mix (x : BitVec 64) : BitVec 64 := fold 31 (fold 27 (fold 30 x * c1) * c2)
def un (x : BitVec 64) : BitVec 64 := unf 30 (unf 27 (unf 31 x * d2) * d1)
theorem unf_fold (k : Nat) (hk : 64 ≤ 3 * k) (x : BitVec 64) : unf k (fold k x) = x := by
  unfold unf fold
  ext i hi
  simp only [BitVec.getElem_xor, BitVec.getElem_ushiftRight, BitVec.getLsbD_xor, BitVec.getLsbD_ushiftRight]
  have h3 : x.getLsbD (k + (2 * k + i)) = false := BitVec.getLsbD_of_ge _ _ (by omega)
  rw [h3, show k + (k + i) = 2 * k + i by omega]
  cases x[i] <;> cases x.getLsbD (k + i) <;> cases x.getLsbD (2 * k + i) <;> rfl
theorem fold_unf (k : Nat) (hk : 64 ≤ 3 * k) (x : BitVec 64) : fold k (unf k x) = x := by
  unfold unf fold
  ext i hi
  simp only [BitVec.getElem_xor, BitVec.getElem_ushiftRight, BitVec.getLsbD_xor, BitVec.getLsbD_ushiftRight]
  have h3 : x.getLsbD (2 * k + (k + i)) = false := BitVec.getLsbD_of_ge _ _ (by omega)
  rw [h3, show k + (k + i) = 2 * k + i by omega]
  cases x[i] <;> cases x.getLsbD (k + i) <;> cases x.getLsbD (2 * k + i) <;> rfl
theorem un_mix (x : BitVec 64) : un (mix x) = x := by
  unfold un mix
  rw [unf_fold 31 (by decide), BitVec.mul_assoc, show c2 * d2 = 1#64 by decide, BitVec.mul_one, unf_fold 27 (by decide), BitVec.mul_assoc, show c1 * d1 = 1#64 by decide, BitVec.mul_one, unf_fold 30 (by decide)]
theorem mix_un (x : BitVec 64) : mix (un x) = x := by
  unfold un mix
  rw [fold_unf 30 (by decide), BitVec.mul_assoc, show d1 * c1 = 1#64 by decide, BitVec.mul_one, fold_unf 27 (by decide), BitVec.mul_assoc, show d2 * c2 = 1#64 by decide, BitVec.mul_one, fold_unf 31 (by decide)]

/-! ### From Go's numbers to words -/
theorem ofInt_toNat (x : BitVec 64) : BitVec.ofInt 64 (x.toNat : Int) = x := by simp
theorem wrap_toNat (x : BitVec 64) : IntKind.u64.wrap (x.toNat : Int) = x.toNat := by
  have := x.isLt
  rw [IntKind.wrap_u64]; omega
theorem wrap_mul (x y : BitVec 64) : IntKind.u64.wrap ((x.toNat : Int) * (y.toNat : Int)) = ((x * y).toNat : Int) := by
  rw [IntKind.wrap_u64, BitVec.toNat_mul]; rfl
theorem fdiv_shr (x : BitVec 64) (n : Nat) : (x.toNat : Int).fdiv (2 ^ n) = ((x >>> n).toNat : Int) := by
  have h : (2 : Int) ^ n = ((2 ^ n : Nat) : Int) := by simp
  rw [BitVec.toNat_ushiftRight, Nat.shiftRight_eq_div_pow, h]
  exact (Int.ofNat_fdiv _ _).symm
theorem fdiv_shr_min (x : BitVec 64) (n : Nat) : (x.toNat : Int).fdiv (2 ^ min n 64) = ((x >>> n).toNat : Int) := by
  rcases Nat.le_total n 64 with h | h
  · rw [Nat.min_eq_left h, fdiv_shr]
  · rw [Nat.min_eq_right h, fdiv_shr]
    have h1 : x >>> 64 = 0#64 := by ext i hi; simp
    have h2 : x >>> n = 0#64 := by
      ext i hi
      simp only [BitVec.getElem_ushiftRight, BitVec.getElem_zero]
      exact BitVec.getLsbD_of_ge _ _ (by omega)
    rw [h1, h2]

theorem wm1 (x : BitVec 64) : IntKind.u64.wrap ((x.toNat : Int) * 13787848793156543929) = ((x * c1).toNat : Int) := wrap_mul x c1
theorem wm2 (x : BitVec 64) : IntKind.u64.wrap ((x.toNat : Int) * 10723151780598845931) = ((x * c2).toNat : Int) := wrap_mul x c2
/-- A word, mixed. -/
def mixI (x : Int) : Int := ((mix (BitVec.ofInt 64 x)).toNat : Int)
theorem mixI_bv (x : BitVec 64) : mixI (x.toNat : Int) = ((mix x).toNat : Int) := by unfold mixI; rw [ofInt_toNat]
theorem u64_bv {x : Int} (h : u64R x) : ∃ y : BitVec 64, x = (y.toNat : Int) := ⟨BitVec.ofInt 64 x, by
  unfold u64R at h
  rw [BitVec.toNat_ofInt]
  have : (2 ^ 64 : Nat) = 18446744073709551616 := rfl
  omega⟩
theorem mixI_inj {x y : Int} (hx : u64R x) (hy : u64R y) (h : mixI x = mixI y) : x = y := by
  obtain ⟨a, rfl⟩ := u64_bv hx
  obtain ⟨b, rfl⟩ := u64_bv hy
  rw [mixI_bv, mixI_bv] at h
  have h : mix a = mix b := BitVec.eq_of_toNat_eq (by omega)
  have := congrArg un h
  rw [un_mix, un_mix] at this
  rw [this]
theorem mixI_u (x : Int) : u64R (mixI x) := by
  have := (mix (BitVec.ofInt 64 x)).isLt
  unfold u64R mixI; omega
def THERE : List Value := [.int .u64 30, .int .u64 13787848793156543929, .int .u64 27, .int .u64 10723151780598845931, .int .u64 31, .int .u64 1]
/-- The table of the rounds, as the row lays it. -/
def Tab (B : OH) : Prop := rdB B 0 0 6 = some THERE
structure P2 where
  l : Int
  r : Int
  deriving DecidableEq
def p2 (x : P2) : List Value := [.int .i64 x.l, .int .i64 x.r]
def w1 (x : Int) : List Value := [.int .u64 x]
def q0 : P2 := ⟨0, 0⟩
theorem p2_len (x : P2) : (p2 x).length = 2 := rfl
theorem w1_len (x : Int) : (w1 x).length = 1 := rfl
def pk (x n : Int) : Int := (if x < 0 then -(x + 1) else x).tmod n
theorem pk_b {x n : Int} (hn : 0 < n) : 0 ≤ pk x n ∧ pk x n < n := by
  unfold pk
  split
  · exact ⟨Int.tmod_nonneg _ (by omega), Int.tmod_lt_of_pos _ hn⟩
  · exact ⟨Int.tmod_nonneg _ (by omega), Int.tmod_lt_of_pos _ hn⟩
/-- The key of a raw number. -/
def keyI (n : Int) : Int := if pk n 40 > 30 then (pk n 40 - 30) * 2049638230412172401 else pk n 40
theorem keyI_u (n : Int) : u64R (keyI n) := by
  have := pk_b (x := n) (n := 40) (by omega)
  unfold u64R keyI; split <;> omega
/-- whitewash/whitewashref02.folded -/
def L33 : FnL := ⟨(.seq (.ops [⟨(some 4), .mv (.const (.int .u64 0)), none⟩])
 (.seq (.ops [⟨(some 5), .mv (.tmp 0), none⟩, ⟨(some 6), .mv (.tmp 0), none⟩, ⟨(some 7), .mv (.tmp 1), none⟩, ⟨(some 8), .bin .shr (.tmp 6) (.tmp 7), none⟩, ⟨(some 9), .bin .xor (.tmp 5) (.tmp 8), none⟩, ⟨(some 4), .mv (.tmp 9), none⟩])
 .ret)),
 10, [.tmp 4]⟩
theorem low33 : lowerFn Tryd.prog Tryd.f33 = some L33 := by kernel_rfl
noncomputable def G33 (B : OH) : Nat → Cs
  | _ => fun _ _ _ => none
theorem sG33 {w0 : World} {B : OH} : SoundG Tryd.prog w0 B { f := G33 B } := .of fun k => by
  unfold G33
  split
  · exact .inl fun _ _ _ => rfl
theorem en33 : Enter Tryd.prog 33 := .of Tryd.func33 (by kernel_rfl) (by kernel_rfl)
noncomputable def T33 (B : OH) : Cs := callF B { f := G33 B } 80 L33
theorem sT33 {w0 : World} {B : OH} : SoundC Tryd.prog w0 B 33 (T33 B) := callF_sound mixedOrders sG33 80 Tryd.func33 low33
noncomputable def V33 (B : OH) : Cs := T33 B
theorem sV33 {w0 : World} {B : OH} : SoundC Tryd.prog w0 B 33 (V33 B) := sT33
/-- whitewash/whitewashref02.Mix -/
def L30 : FnL := ⟨(.seq (.ops [⟨(some 2), .mv (.const (.int .u64 0)), none⟩])
 (.seq (.ops [⟨(some 3), .mv (.tmp 0), none⟩, ⟨(some 4), .call (.func 33) [(.tmp 3), (.const (.int .i64 30))], none⟩, ⟨(some 5), .bin .mul (.tmp 4) (.const (.int .u64 13787848793156543929)), none⟩, ⟨(some 6), .call (.func 33) [(.tmp 5), (.const (.int .i64 27))], none⟩, ⟨(some 7), .bin .mul (.tmp 6) (.const (.int .u64 10723151780598845931)), none⟩, ⟨(some 8), .call (.func 33) [(.tmp 7), (.const (.int .i64 31))], none⟩, ⟨(some 2), .mv (.tmp 8), none⟩])
 .ret)),
 9, [.tmp 2]⟩
theorem low30 : lowerFn Tryd.prog Tryd.f30 = some L30 := by kernel_rfl
noncomputable def G30 (B : OH) : Nat → Cs
  | 33 => V33 B
  | _ => fun _ _ _ => none
theorem G30_33 {B : OH} : G30 B 33 = V33 B := rfl
theorem sG30 {w0 : World} {B : OH} : SoundG Tryd.prog w0 B { f := G30 B } := .of fun k => by
  unfold G30
  split
  · exact .inr ⟨en33, sV33⟩
  · exact .inl fun _ _ _ => rfl
theorem en30 : Enter Tryd.prog 30 := .of Tryd.func30 (by kernel_rfl) (by kernel_rfl)
noncomputable def T30 (B : OH) : Cs := callF B { f := G30 B } 80 L30
theorem sT30 {w0 : World} {B : OH} : SoundC Tryd.prog w0 B 30 (T30 B) := callF_sound mixedOrders sG30 80 Tryd.func30 low30
noncomputable def F30 (B : OH) : List Value → Option Value := kval B (T30 B)
noncomputable def V30 (B : OH) : Cs := fun a H N => pvE (F30 B a) H N
theorem V30_eq {B : OH} {a : List Value} {H : HL} {N : St} : V30 B a H N = pvE (F30 B a) H N := rfl
theorem sV30 {w0 : World} {B : OH} : SoundC Tryd.prog w0 B 30 (V30 B) := sT30.ofVal
set_option maxHeartbeats 2000000 in
theorem f30 {B : OH} (hG : ∃ H N, good B H N) {x : Int} (hx : u64R x) : F30 B [.int .u64 x] = some (.int .u64 (mixI x)) := by
  obtain ⟨x, rfl⟩ := u64_bv hx
  rw [mixI_bv]
  refine kval_eq hG fun H N hN => ?_
  have hB := good_B hN
  have hR := good_rdB hN
  have hI := beqN hN.1.1

  simp -implicitDefEqProofs (maxSteps := 10000000) (disch := omega) only [T30, L30, G30_33, V33, T33, L33, hB, hR, hI, lenV_sl, Int.toNat_natCast, bft, btf, gtst, st_len, pad, e_skip, e_ops, e_draw, e_fork, shg_n, shg_c, shg_g, shg_r, d_none, d_nil, d_cons, d_ite, h_none, h_nil, h_cons, h_ite, eqS_same, lightV, e_seq, e_cond, e_block, e_loop, e_exit, e_ret, s_normal, s_ret, s_exit, s_none, s_ite, b_normal, b_ret, b_exit, b_none, b_ite, c_bool, x_none, x_nil, x_cons, x_ite, p_some, p_none, p_ite, pt_some, pt_none, pv_some, pv_none, pv_ite, w_none, w_some, i_bool, i_undef, bt, bf, v_tmp, v_const, v_global, v_func, evs, f_normal, f_ret, f_none, f_ite, r_some, co_some, l_ptr, m_agg, m_one, sh_app, lk_nil, lk_cons, rd_eq, rdO_some, rdO_none, rdN_none, rdL_some, rdL_none, wrB_none, unitR_some, wr_nil, wr_here, wr_skip, k_cells, tk_zero, tk_take, tk_skip, tkC_some, call_func, gt, st, binV, arith, isSh, storeV, all1, idxAV, fieldV, faddrV, iaddrSV, iaddrAV, pickV, convV, unV, eqbV, eqpV, extV, mm2, mmV, nilckV, ress, res1, retV, Value.cells, cond_true, cond_false, Bool.true_or, Bool.false_or, Bool.or_true, Bool.or_false, beq_self_eq_true, if_true, if_false, ite_true, ite_false, decide_true, decide_false, decide_eq_true_eq, reduceIte, Nat.zero_add, Nat.add_zero, and_self, true_and, and_true, List.size_toArray, List.length_cons, List.length_nil, List.append_nil, List.nil_append, Int.toNat_zero, Bool.not_false, Bool.not_true, Bool.not_not, Bool.false_eq_true, Bool.true_eq_false, reduceCtorEq, Int.reduceLT, Int.reduceLE, Int.reduceToNat, Int.reduceAdd, Int.reduceSub, Int.reduceMul, Int.reduceNeg, Nat.reduceMul, Nat.reduceAdd, Nat.reduceSub, Nat.reduceBEq, Nat.reduceEqDiff, Nat.reduceLT, Nat.reduceLeDiff, Int.reduceBEq, Int.reduceEq, Nat.reducePow, Int.reducePow, IntWalk.i64_in, IntKind.bits, eqAV, eqL, leafEq, andO, fillV, buildSV, List.getElem?_toArray, List.getElem?_cons_zero, List.getElem?_cons_succ, List.getElem?_nil, Int.reduceGT, Int.reduceGE, Int.reduceBNe, Bool.true_and, Bool.and_true, Bool.false_and, Bool.and_false, Bool.and_self, IntWalk.u64_in, Int.cast_ofNat_Int, callF1, pad16, pad_0, pad_1, pad_2, pad_3, pad_4, pad_5, pad_6, pad_7, pad_8, pad_9, pad_10, pad_11, pad_12, pad_13, pad_14, pad_15, gc0, gc1, gc2, gc3, gc4, gc5, gc6, gc7, gc8, gc9, gc10, gc11, gc12, gc13, gc14, gc15, gcS, sc0, sc1, sc2, sc3, sc4, sc5, sc6, sc7, sc8, sc9, sc10, sc11, sc12, sc13, sc14, sc15, scS, List.drop_succ_cons, List.drop_nil, x_pan, s_pan, b_pan, pE_ret, pE_pan, pE_none, pE_ite, pvE_some, pvE_none, pvE_ite, rv_some, rv_none, rv_ite, oR_ret, t_mv, t_pick, t_alloc, t_box, t_build, t_buildS, t_load, t_store, t_nilck, t_bin, t_eqb, t_eqA, t_eqp, t_un, t_conv, t_field, t_idxA, t_faddr, t_iaddrS, t_iaddrA, t_ext, t_len, t_mm, t_call, t_ifc, t_fn, t_slc, t_slcA, t_slcT, t_tass, t_isn, t_mks, t_app, t_pan, panE_i, optE_none, optE_some, bnd_none, bnd_int, slA_none, slA_some, appR_some, appOld_cells, newsV_s, newsV_n, lenS_s, appV_nil, appV_some, mksV_i, sh_c, sh_g, f_pan, endD_ret, dfr_normal, dfr_ret, dfr_pan, restD_normal, callD1, callC1, tassV, isnV, slcV, slcAV, slcTV, slcB, appNew, Option.bind_some, Option.bind_none, d_pan, h_pan, wrH_eq, wrX_cells, wrU_some, upH_nil, upH_cons, lk_upH, effR_some, effR_none, effR_ite, Option.isNone_none, Option.isNone_some, slA_zero, call_yield, e_range, it_func, wy_same, y_call, isLp_self, beg_normal, end_normal, end_ret, end_exit, end_ite, aft_ret, aft_ready, aft_done, aft_exit, setP_cons, setP_nil, sh_r, t_mkmap, t_mlook, t_mupd, t_mdel, mapF_some, lookF_some, setM_some, lookR_t, lookR_n, lookR_f, lookR_fn, lookV, mupdV, mdelV, mkM]
  simp only [ofInt_toNat, wrap_toNat, wm1, wm2, fdiv_shr_min, Int.mul_one, mix, fold]
  refine done2 ?_
  repeat (first | refine ext_new hN ?_ | exact fun _ _ h => h)
/-- whitewash/mix.Mix -/
def L31 : FnL := ⟨(.seq (.ops [⟨(some 2), .mv (.const (.int .u64 0)), none⟩])
 (.seq (.seq (.ops [⟨(some 5), .load true 6 (.global 0), none⟩, ⟨(some 6), .mv (.const (.int .i64 0)), none⟩])
 (.block 0 (.loop (.seq (.ops [⟨(some 7), .bin .lss (.tmp 6) (.const (.int .i64 3)), none⟩])
 (.seq (.cond (.tmp 7) .skip
 (.exit 0))
 (.seq (.block 1 (.seq (.ops [⟨(some 8), .idxA true 2 3 (.tmp 5) (.tmp 6), none⟩, ⟨(some 4), .alloc [(.int .u64 0), (.int .u64 0)], none⟩, ⟨none, .store 2 (.tmp 4) (.tmp 8), none⟩])
 (.ops [⟨(some 9), .mv (.tmp 0), none⟩, ⟨(some 10), .mv (.tmp 0), none⟩, ⟨(some 11), .faddr 0 (.tmp 4), none⟩, ⟨(some 12), .load false 1 (.tmp 11), none⟩, ⟨(some 13), .bin .shr (.tmp 10) (.tmp 12), none⟩, ⟨(some 14), .bin .xor (.tmp 9) (.tmp 13), none⟩, ⟨(some 15), .faddr 1 (.tmp 4), none⟩, ⟨(some 16), .load false 1 (.tmp 15), none⟩, ⟨(some 17), .bin .mul (.tmp 14) (.tmp 16), none⟩, ⟨(some 0), .mv (.tmp 17), none⟩])))
 (.ops [⟨(some 18), .bin .add (.tmp 6) (.const (.int .i64 1)), none⟩, ⟨(some 6), .mv (.tmp 18), none⟩])))))))
 (.seq (.ops [⟨(some 19), .mv (.tmp 0), none⟩, ⟨(some 2), .mv (.tmp 19), none⟩])
 .ret))),
 20, [.tmp 2]⟩
theorem low31 : lowerFn Tryd.prog Tryd.f31 = some L31 := by kernel_rfl
noncomputable def G31 (B : OH) : Nat → Cs
  | _ => fun _ _ _ => none
theorem sG31 {w0 : World} {B : OH} : SoundG Tryd.prog w0 B { f := G31 B } := .of fun k => by
  unfold G31
  split
  · exact .inl fun _ _ _ => rfl
theorem en31 : Enter Tryd.prog 31 := .of Tryd.func31 (by kernel_rfl) (by kernel_rfl)
noncomputable def T31 (B : OH) : Cs := callF B { f := G31 B } 80 L31
theorem sT31 {w0 : World} {B : OH} : SoundC Tryd.prog w0 B 31 (T31 B) := callF_sound mixedOrders sG31 80 Tryd.func31 low31
noncomputable def F31 (B : OH) : List Value → Option Value := kval B (T31 B)
noncomputable def V31 (B : OH) : Cs := fun a H N => pvE (F31 B a) H N
theorem V31_eq {B : OH} {a : List Value} {H : HL} {N : St} : V31 B a H N = pvE (F31 B a) H N := rfl
theorem sV31 {w0 : World} {B : OH} : SoundC Tryd.prog w0 B 31 (V31 B) := sT31.ofVal
set_option maxHeartbeats 2000000 in
theorem f31 {B : OH} (hG : ∃ H N, good B H N) (hT : Tab B) {x : Int} (hx : u64R x) : F31 B [.int .u64 x] = some (.int .u64 (mixI x)) := by
  obtain ⟨x, rfl⟩ := u64_bv hx
  rw [mixI_bv]
  refine kval_eq hG fun H N hN => ?_
  have hB := good_B hN
  have hR := good_rdB hN
  have hI := beqN hN.1.1
  have hg := hT
  unfold Tab THERE at hg
  simp -implicitDefEqProofs (maxSteps := 10000000) (disch := omega) only [T31, L31, hB, hR, hI, lenV_sl, Int.toNat_natCast, bft, btf, gtst, st_len, hg, pad, e_skip, e_ops, e_draw, e_fork, shg_n, shg_c, shg_g, shg_r, d_none, d_nil, d_cons, d_ite, h_none, h_nil, h_cons, h_ite, eqS_same, lightV, e_seq, e_cond, e_block, e_loop, e_exit, e_ret, s_normal, s_ret, s_exit, s_none, s_ite, b_normal, b_ret, b_exit, b_none, b_ite, c_bool, x_none, x_nil, x_cons, x_ite, p_some, p_none, p_ite, pt_some, pt_none, pv_some, pv_none, pv_ite, w_none, w_some, i_bool, i_undef, bt, bf, v_tmp, v_const, v_global, v_func, evs, f_normal, f_ret, f_none, f_ite, r_some, co_some, l_ptr, m_agg, m_one, sh_app, lk_nil, lk_cons, rd_eq, rdO_some, rdO_none, rdN_none, rdL_some, rdL_none, wrB_none, unitR_some, wr_nil, wr_here, wr_skip, k_cells, tk_zero, tk_take, tk_skip, tkC_some, call_func, gt, st, binV, arith, isSh, storeV, all1, idxAV, fieldV, faddrV, iaddrSV, iaddrAV, pickV, convV, unV, eqbV, eqpV, extV, mm2, mmV, nilckV, ress, res1, retV, Value.cells, cond_true, cond_false, Bool.true_or, Bool.false_or, Bool.or_true, Bool.or_false, beq_self_eq_true, if_true, if_false, ite_true, ite_false, decide_true, decide_false, decide_eq_true_eq, reduceIte, Nat.zero_add, Nat.add_zero, and_self, true_and, and_true, List.size_toArray, List.length_cons, List.length_nil, List.append_nil, List.nil_append, Int.toNat_zero, Bool.not_false, Bool.not_true, Bool.not_not, Bool.false_eq_true, Bool.true_eq_false, reduceCtorEq, Int.reduceLT, Int.reduceLE, Int.reduceToNat, Int.reduceAdd, Int.reduceSub, Int.reduceMul, Int.reduceNeg, Nat.reduceMul, Nat.reduceAdd, Nat.reduceSub, Nat.reduceBEq, Nat.reduceEqDiff, Nat.reduceLT, Nat.reduceLeDiff, Int.reduceBEq, Int.reduceEq, Nat.reducePow, Int.reducePow, IntWalk.i64_in, IntKind.bits, eqAV, eqL, leafEq, andO, fillV, buildSV, List.getElem?_toArray, List.getElem?_cons_zero, List.getElem?_cons_succ, List.getElem?_nil, Int.reduceGT, Int.reduceGE, Int.reduceBNe, Bool.true_and, Bool.and_true, Bool.false_and, Bool.and_false, Bool.and_self, IntWalk.u64_in, Int.cast_ofNat_Int, callF1, pad16, pad_0, pad_1, pad_2, pad_3, pad_4, pad_5, pad_6, pad_7, pad_8, pad_9, pad_10, pad_11, pad_12, pad_13, pad_14, pad_15, gc0, gc1, gc2, gc3, gc4, gc5, gc6, gc7, gc8, gc9, gc10, gc11, gc12, gc13, gc14, gc15, gcS, sc0, sc1, sc2, sc3, sc4, sc5, sc6, sc7, sc8, sc9, sc10, sc11, sc12, sc13, sc14, sc15, scS, List.drop_succ_cons, List.drop_nil, x_pan, s_pan, b_pan, pE_ret, pE_pan, pE_none, pE_ite, pvE_some, pvE_none, pvE_ite, rv_some, rv_none, rv_ite, oR_ret, t_mv, t_pick, t_alloc, t_box, t_build, t_buildS, t_load, t_store, t_nilck, t_bin, t_eqb, t_eqA, t_eqp, t_un, t_conv, t_field, t_idxA, t_faddr, t_iaddrS, t_iaddrA, t_ext, t_len, t_mm, t_call, t_ifc, t_fn, t_slc, t_slcA, t_slcT, t_tass, t_isn, t_mks, t_app, t_pan, panE_i, optE_none, optE_some, bnd_none, bnd_int, slA_none, slA_some, appR_some, appOld_cells, newsV_s, newsV_n, lenS_s, appV_nil, appV_some, mksV_i, sh_c, sh_g, f_pan, endD_ret, dfr_normal, dfr_ret, dfr_pan, restD_normal, callD1, callC1, tassV, isnV, slcV, slcAV, slcTV, slcB, appNew, Option.bind_some, Option.bind_none, d_pan, h_pan, wrH_eq, wrX_cells, wrU_some, upH_nil, upH_cons, lk_upH, effR_some, effR_none, effR_ite, Option.isNone_none, Option.isNone_some, slA_zero, call_yield, e_range, it_func, wy_same, y_call, isLp_self, beg_normal, end_normal, end_ret, end_exit, end_ite, aft_ret, aft_ready, aft_done, aft_exit, setP_cons, setP_nil, sh_r, t_mkmap, t_mlook, t_mupd, t_mdel, mapF_some, lookF_some, setM_some, lookR_t, lookR_n, lookR_f, lookR_fn, lookV, mupdV, mdelV, mkM]
  simp only [ofInt_toNat, wrap_toNat, wm1, wm2, fdiv_shr_min, Int.mul_one, mix, fold]
  refine done2 ?_
  repeat (first | refine ext_new hN ?_ | exact fun _ _ h => h)
/-- whitewash/whitewashref02.Before -/
def L25 : FnL := ⟨(.seq (.ops [⟨(some 4), .mv (.const (.bool false)), none⟩])
 (.seq (.ops [⟨(some 5), .mv (.tmp 0), none⟩, ⟨(some 6), .call (.func 30) [(.tmp 5)], none⟩, ⟨(some 7), .mv (.tmp 1), none⟩, ⟨(some 8), .call (.func 30) [(.tmp 7)], none⟩, ⟨(some 9), .bin .gtr (.tmp 6) (.tmp 8), none⟩, ⟨(some 4), .mv (.tmp 9), none⟩])
 .ret)),
 10, [.tmp 4]⟩
theorem low25 : lowerFn Tryd.prog Tryd.f25 = some L25 := by kernel_rfl
noncomputable def G25 (B : OH) : Nat → Cs
  | 30 => V30 B
  | _ => fun _ _ _ => none
theorem G25_30 {B : OH} : G25 B 30 = V30 B := rfl
theorem sG25 {w0 : World} {B : OH} : SoundG Tryd.prog w0 B { f := G25 B } := .of fun k => by
  unfold G25
  split
  · exact .inr ⟨en30, sV30⟩
  · exact .inl fun _ _ _ => rfl
theorem en25 : Enter Tryd.prog 25 := .of Tryd.func25 (by kernel_rfl) (by kernel_rfl)
noncomputable def T25 (B : OH) : Cs := callF B { f := G25 B } 80 L25
theorem sT25 {w0 : World} {B : OH} : SoundC Tryd.prog w0 B 25 (T25 B) := callF_sound mixedOrders sG25 80 Tryd.func25 low25
noncomputable def F25 (B : OH) : List Value → Option Value := kval B (T25 B)
noncomputable def V25 (B : OH) : Cs := fun a H N => pvE (F25 B a) H N
theorem V25_eq {B : OH} {a : List Value} {H : HL} {N : St} : V25 B a H N = pvE (F25 B a) H N := rfl
theorem sV25 {w0 : World} {B : OH} : SoundC Tryd.prog w0 B 25 (V25 B) := sT25.ofVal
theorem f25 {B : OH} (hG : ∃ H N, good B H N) {x y : Int} (hx : u64R x) (hy : u64R y) : F25 B [.int .u64 x, .int .u64 y] = some (.bool (decide (mixI x > mixI y))) := by
  refine kval_eq hG fun H N hN => ?_
  have hB := good_B hN
  have hR := good_rdB hN
  have hI := beqN hN.1.1
  have e1 := f30 hG hx
  have e2 := f30 hG hy
  simp -implicitDefEqProofs (maxSteps := 10000000) (disch := omega) only [T25, L25, G25_30, V30_eq, hB, hR, hI, e1, e2, lenV_sl, Int.toNat_natCast, bft, btf, gtst, st_len, pad, e_skip, e_ops, e_draw, e_fork, shg_n, shg_c, shg_g, shg_r, d_none, d_nil, d_cons, d_ite, h_none, h_nil, h_cons, h_ite, eqS_same, lightV, e_seq, e_cond, e_block, e_exit, e_ret, s_normal, s_ret, s_exit, s_none, s_ite, b_normal, b_ret, b_exit, b_none, b_ite, c_bool, x_none, x_nil, x_cons, x_ite, p_some, p_none, p_ite, pt_some, pt_none, pv_some, pv_none, pv_ite, w_none, w_some, i_bool, i_undef, bt, bf, v_tmp, v_const, v_global, v_func, evs, f_normal, f_ret, f_none, f_ite, r_some, co_some, l_ptr, m_agg, m_one, sh_app, lk_nil, lk_cons, rd_eq, rdO_some, rdO_none, rdN_none, rdL_some, rdL_none, wrB_none, unitR_some, wr_nil, wr_here, wr_skip, k_cells, tk_zero, tk_take, tk_skip, tkC_some, call_func, gt, st, binV, arith, isSh, storeV, all1, idxAV, fieldV, faddrV, iaddrSV, iaddrAV, pickV, convV, unV, eqbV, eqpV, extV, mm2, mmV, nilckV, ress, res1, retV, Value.cells, cond_true, cond_false, Bool.true_or, Bool.false_or, Bool.or_true, Bool.or_false, beq_self_eq_true, if_true, if_false, ite_true, ite_false, decide_true, decide_false, decide_eq_true_eq, reduceIte, Nat.zero_add, Nat.add_zero, and_self, true_and, and_true, List.size_toArray, List.length_cons, List.length_nil, List.append_nil, List.nil_append, Int.toNat_zero, Bool.not_false, Bool.not_true, Bool.not_not, Bool.false_eq_true, Bool.true_eq_false, reduceCtorEq, Int.reduceLT, Int.reduceLE, Int.reduceToNat, Int.reduceAdd, Int.reduceSub, Int.reduceMul, Int.reduceNeg, Nat.reduceMul, Nat.reduceAdd, Nat.reduceSub, Nat.reduceBEq, Nat.reduceEqDiff, Nat.reduceLT, Nat.reduceLeDiff, Int.reduceBEq, Int.reduceEq, Nat.reducePow, Int.reducePow, IntWalk.i64_in, IntKind.bits, eqAV, eqL, leafEq, andO, fillV, buildSV, List.getElem?_toArray, List.getElem?_cons_zero, List.getElem?_cons_succ, List.getElem?_nil, Int.reduceGT, Int.reduceGE, Int.reduceBNe, Bool.true_and, Bool.and_true, Bool.false_and, Bool.and_false, Bool.and_self, IntWalk.u64_in, Int.cast_ofNat_Int, callF1, pad16, pad_0, pad_1, pad_2, pad_3, pad_4, pad_5, pad_6, pad_7, pad_8, pad_9, pad_10, pad_11, pad_12, pad_13, pad_14, pad_15, gc0, gc1, gc2, gc3, gc4, gc5, gc6, gc7, gc8, gc9, gc10, gc11, gc12, gc13, gc14, gc15, gcS, sc0, sc1, sc2, sc3, sc4, sc5, sc6, sc7, sc8, sc9, sc10, sc11, sc12, sc13, sc14, sc15, scS, List.drop_succ_cons, List.drop_nil, x_pan, s_pan, b_pan, pE_ret, pE_pan, pE_none, pE_ite, pvE_some, pvE_none, pvE_ite, rv_some, rv_none, rv_ite, oR_ret, t_mv, t_pick, t_alloc, t_box, t_build, t_buildS, t_load, t_store, t_nilck, t_bin, t_eqb, t_eqA, t_eqp, t_un, t_conv, t_field, t_idxA, t_faddr, t_iaddrS, t_iaddrA, t_ext, t_len, t_mm, t_call, t_ifc, t_fn, t_slc, t_slcA, t_slcT, t_tass, t_isn, t_mks, t_app, t_pan, panE_i, optE_none, optE_some, bnd_none, bnd_int, slA_none, slA_some, appR_some, appOld_cells, newsV_s, newsV_n, lenS_s, appV_nil, appV_some, mksV_i, sh_c, sh_g, f_pan, endD_ret, dfr_normal, dfr_ret, dfr_pan, restD_normal, callD1, callC1, tassV, isnV, slcV, slcAV, slcTV, slcB, appNew, Option.bind_some, Option.bind_none, d_pan, h_pan, wrH_eq, wrX_cells, wrU_some, upH_nil, upH_cons, lk_upH, effR_some, effR_none, effR_ite, Option.isNone_none, Option.isNone_some, slA_zero, call_yield, e_range, it_func, wy_same, y_call, isLp_self, beg_normal, end_normal, end_ret, end_exit, end_ite, aft_ret, aft_ready, aft_done, aft_exit, setP_cons, setP_nil, sh_r, t_mkmap, t_mlook, t_mupd, t_mdel, mapF_some, lookF_some, setM_some, lookR_t, lookR_n, lookR_f, lookR_fn, lookV, mupdV, mdelV, mkM]
  with_reducible refine done2 ?_
  repeat (first | refine ext_new hN ?_ | exact fun _ _ h => h)
/-- whitewash/mix.Before -/
def L26 : FnL := ⟨(.seq (.ops [⟨(some 4), .mv (.const (.bool false)), none⟩])
 (.seq (.ops [⟨(some 5), .mv (.tmp 0), none⟩, ⟨(some 6), .call (.func 31) [(.tmp 5)], none⟩, ⟨(some 7), .mv (.tmp 1), none⟩, ⟨(some 8), .call (.func 31) [(.tmp 7)], none⟩, ⟨(some 9), .bin .gtr (.tmp 6) (.tmp 8), none⟩, ⟨(some 4), .mv (.tmp 9), none⟩])
 .ret)),
 10, [.tmp 4]⟩
theorem low26 : lowerFn Tryd.prog Tryd.f26 = some L26 := by kernel_rfl
noncomputable def G26 (B : OH) : Nat → Cs
  | 31 => V31 B
  | _ => fun _ _ _ => none
theorem G26_31 {B : OH} : G26 B 31 = V31 B := rfl
theorem sG26 {w0 : World} {B : OH} : SoundG Tryd.prog w0 B { f := G26 B } := .of fun k => by
  unfold G26
  split
  · exact .inr ⟨en31, sV31⟩
  · exact .inl fun _ _ _ => rfl
theorem en26 : Enter Tryd.prog 26 := .of Tryd.func26 (by kernel_rfl) (by kernel_rfl)
noncomputable def T26 (B : OH) : Cs := callF B { f := G26 B } 80 L26
theorem sT26 {w0 : World} {B : OH} : SoundC Tryd.prog w0 B 26 (T26 B) := callF_sound mixedOrders sG26 80 Tryd.func26 low26
noncomputable def F26 (B : OH) : List Value → Option Value := kval B (T26 B)
noncomputable def V26 (B : OH) : Cs := fun a H N => pvE (F26 B a) H N
theorem V26_eq {B : OH} {a : List Value} {H : HL} {N : St} : V26 B a H N = pvE (F26 B a) H N := rfl
theorem sV26 {w0 : World} {B : OH} : SoundC Tryd.prog w0 B 26 (V26 B) := sT26.ofVal
theorem f26 {B : OH} (hG : ∃ H N, good B H N) (hT : Tab B) {x y : Int} (hx : u64R x) (hy : u64R y) : F26 B [.int .u64 x, .int .u64 y] = some (.bool (decide (mixI x > mixI y))) := by
  refine kval_eq hG fun H N hN => ?_
  have hB := good_B hN
  have hR := good_rdB hN
  have hI := beqN hN.1.1
  have e1 := f31 hG hT hx
  have e2 := f31 hG hT hy
  simp -implicitDefEqProofs (maxSteps := 10000000) (disch := omega) only [T26, L26, G26_31, V31_eq, hB, hR, hI, e1, e2, lenV_sl, Int.toNat_natCast, bft, btf, gtst, st_len, pad, e_skip, e_ops, e_draw, e_fork, shg_n, shg_c, shg_g, shg_r, d_none, d_nil, d_cons, d_ite, h_none, h_nil, h_cons, h_ite, eqS_same, lightV, e_seq, e_cond, e_block, e_exit, e_ret, s_normal, s_ret, s_exit, s_none, s_ite, b_normal, b_ret, b_exit, b_none, b_ite, c_bool, x_none, x_nil, x_cons, x_ite, p_some, p_none, p_ite, pt_some, pt_none, pv_some, pv_none, pv_ite, w_none, w_some, i_bool, i_undef, bt, bf, v_tmp, v_const, v_global, v_func, evs, f_normal, f_ret, f_none, f_ite, r_some, co_some, l_ptr, m_agg, m_one, sh_app, lk_nil, lk_cons, rd_eq, rdO_some, rdO_none, rdN_none, rdL_some, rdL_none, wrB_none, unitR_some, wr_nil, wr_here, wr_skip, k_cells, tk_zero, tk_take, tk_skip, tkC_some, call_func, gt, st, binV, arith, isSh, storeV, all1, idxAV, fieldV, faddrV, iaddrSV, iaddrAV, pickV, convV, unV, eqbV, eqpV, extV, mm2, mmV, nilckV, ress, res1, retV, Value.cells, cond_true, cond_false, Bool.true_or, Bool.false_or, Bool.or_true, Bool.or_false, beq_self_eq_true, if_true, if_false, ite_true, ite_false, decide_true, decide_false, decide_eq_true_eq, reduceIte, Nat.zero_add, Nat.add_zero, and_self, true_and, and_true, List.size_toArray, List.length_cons, List.length_nil, List.append_nil, List.nil_append, Int.toNat_zero, Bool.not_false, Bool.not_true, Bool.not_not, Bool.false_eq_true, Bool.true_eq_false, reduceCtorEq, Int.reduceLT, Int.reduceLE, Int.reduceToNat, Int.reduceAdd, Int.reduceSub, Int.reduceMul, Int.reduceNeg, Nat.reduceMul, Nat.reduceAdd, Nat.reduceSub, Nat.reduceBEq, Nat.reduceEqDiff, Nat.reduceLT, Nat.reduceLeDiff, Int.reduceBEq, Int.reduceEq, Nat.reducePow, Int.reducePow, IntWalk.i64_in, IntKind.bits, eqAV, eqL, leafEq, andO, fillV, buildSV, List.getElem?_toArray, List.getElem?_cons_zero, List.getElem?_cons_succ, List.getElem?_nil, Int.reduceGT, Int.reduceGE, Int.reduceBNe, Bool.true_and, Bool.and_true, Bool.false_and, Bool.and_false, Bool.and_self, IntWalk.u64_in, Int.cast_ofNat_Int, callF1, pad16, pad_0, pad_1, pad_2, pad_3, pad_4, pad_5, pad_6, pad_7, pad_8, pad_9, pad_10, pad_11, pad_12, pad_13, pad_14, pad_15, gc0, gc1, gc2, gc3, gc4, gc5, gc6, gc7, gc8, gc9, gc10, gc11, gc12, gc13, gc14, gc15, gcS, sc0, sc1, sc2, sc3, sc4, sc5, sc6, sc7, sc8, sc9, sc10, sc11, sc12, sc13, sc14, sc15, scS, List.drop_succ_cons, List.drop_nil, x_pan, s_pan, b_pan, pE_ret, pE_pan, pE_none, pE_ite, pvE_some, pvE_none, pvE_ite, rv_some, rv_none, rv_ite, oR_ret, t_mv, t_pick, t_alloc, t_box, t_build, t_buildS, t_load, t_store, t_nilck, t_bin, t_eqb, t_eqA, t_eqp, t_un, t_conv, t_field, t_idxA, t_faddr, t_iaddrS, t_iaddrA, t_ext, t_len, t_mm, t_call, t_ifc, t_fn, t_slc, t_slcA, t_slcT, t_tass, t_isn, t_mks, t_app, t_pan, panE_i, optE_none, optE_some, bnd_none, bnd_int, slA_none, slA_some, appR_some, appOld_cells, newsV_s, newsV_n, lenS_s, appV_nil, appV_some, mksV_i, sh_c, sh_g, f_pan, endD_ret, dfr_normal, dfr_ret, dfr_pan, restD_normal, callD1, callC1, tassV, isnV, slcV, slcAV, slcTV, slcB, appNew, Option.bind_some, Option.bind_none, d_pan, h_pan, wrH_eq, wrX_cells, wrU_some, upH_nil, upH_cons, lk_upH, effR_some, effR_none, effR_ite, Option.isNone_none, Option.isNone_some, slA_zero, call_yield, e_range, it_func, wy_same, y_call, isLp_self, beg_normal, end_normal, end_ret, end_exit, end_ite, aft_ret, aft_ready, aft_done, aft_exit, setP_cons, setP_nil, sh_r, t_mkmap, t_mlook, t_mupd, t_mdel, mapF_some, lookF_some, setM_some, lookR_t, lookR_n, lookR_f, lookR_fn, lookV, mupdV, mdelV, mkM]
  with_reducible refine done2 ?_
  repeat (first | refine ext_new hN ?_ | exact fun _ _ h => h)
/-- whitewash/whitewashlaw08.pick -/
def L24 : FnL := ⟨(.seq (.ops [⟨(some 4), .mv (.const (.int .i64 0)), none⟩])
 (.seq (.seq (.ops [⟨(some 5), .mv (.tmp 0), none⟩, ⟨(some 6), .bin .lss (.tmp 5) (.const (.int .i64 0)), none⟩])
 (.cond (.tmp 6) (.ops [⟨(some 7), .mv (.tmp 0), none⟩, ⟨(some 8), .bin .add (.tmp 7) (.const (.int .i64 1)), none⟩, ⟨(some 9), .un .neg (.tmp 8), none⟩, ⟨(some 0), .mv (.tmp 9), none⟩])
 .skip))
 (.seq (.ops [⟨(some 10), .mv (.tmp 0), none⟩, ⟨(some 11), .mv (.tmp 1), none⟩, ⟨(some 12), .bin .rem (.tmp 10) (.tmp 11), none⟩, ⟨(some 4), .mv (.tmp 12), none⟩])
 .ret))),
 13, [.tmp 4]⟩
theorem low24 : lowerFn Tryd.prog Tryd.f24 = some L24 := by kernel_rfl
noncomputable def G24 (B : OH) : Nat → Cs
  | _ => fun _ _ _ => none
theorem sG24 {w0 : World} {B : OH} : SoundG Tryd.prog w0 B { f := G24 B } := .of fun k => by
  unfold G24
  split
  · exact .inl fun _ _ _ => rfl
theorem en24 : Enter Tryd.prog 24 := .of Tryd.func24 (by kernel_rfl) (by kernel_rfl)
noncomputable def T24 (B : OH) : Cs := callF B { f := G24 B } 80 L24
theorem sT24 {w0 : World} {B : OH} : SoundC Tryd.prog w0 B 24 (T24 B) := callF_sound mixedOrders sG24 80 Tryd.func24 low24
noncomputable def F24 (B : OH) : List Value → Option Value := kval B (T24 B)
noncomputable def V24 (B : OH) : Cs := fun a H N => pvE (F24 B a) H N
theorem V24_eq {B : OH} {a : List Value} {H : HL} {N : St} : V24 B a H N = pvE (F24 B a) H N := rfl
theorem sV24 {w0 : World} {B : OH} : SoundC Tryd.prog w0 B 24 (V24 B) := sT24.ofVal
theorem f24 {B : OH} (hG : ∃ H N, good B H N) (x n : Int) (hx : i64R x) (hn : 0 < n ∧ n ≤ 9223372036854775807) : F24 B [.int .i64 x, .int .i64 n] = some (.int .i64 (pk x n)) := by
  unfold i64R at hx
  refine kval_eq hG fun H N hN => ?_
  have hB := good_B hN
  have hR := good_rdB hN
  have hI := beqN hN.1.1
  have hn0 : ¬ n = 0 := by omega
  unfold pk
  by_cases h : x < 0
  · have hw : IntKind.i64.wrap (0 - (x + 1)) = -(x + 1) := by rw [IntWalk.i64_in _ (by omega)]; omega
    simp -implicitDefEqProofs (maxSteps := 10000000) (disch := omega) only [T24, L24, hB, hR, hI, h, hn0, hw, pad, e_skip, e_ops, e_draw, e_fork, shg_n, shg_c, shg_g, shg_r, d_none, d_nil, d_cons, d_ite, h_none, h_nil, h_cons, h_ite, eqS_same, lightV, e_seq, e_cond, e_block, e_exit, e_ret, s_normal, s_ret, s_exit, s_none, s_ite, b_normal, b_ret, b_exit, b_none, b_ite, c_bool, x_none, x_nil, x_cons, x_ite, p_some, p_none, p_ite, pt_some, pt_none, pv_some, pv_none, pv_ite, w_none, w_some, i_bool, i_undef, bt, bf, v_tmp, v_const, v_global, v_func, evs, f_normal, f_ret, f_none, f_ite, r_some, co_some, l_ptr, m_agg, m_one, sh_app, lk_nil, lk_cons, rd_eq, rdO_some, rdO_none, rdN_none, rdL_some, rdL_none, wrB_none, unitR_some, wr_nil, wr_here, wr_skip, k_cells, tk_zero, tk_take, tk_skip, tkC_some, call_func, gt, st, binV, arith, isSh, storeV, all1, idxAV, fieldV, faddrV, iaddrSV, iaddrAV, pickV, convV, unV, eqbV, eqpV, extV, mm2, mmV, nilckV, ress, res1, retV, Value.cells, cond_true, cond_false, Bool.true_or, Bool.false_or, Bool.or_true, Bool.or_false, beq_self_eq_true, if_true, if_false, ite_true, ite_false, decide_true, decide_false, decide_eq_true_eq, reduceIte, Nat.zero_add, Nat.add_zero, and_self, true_and, and_true, List.size_toArray, List.length_cons, List.length_nil, List.append_nil, List.nil_append, Int.toNat_zero, Bool.not_false, Bool.not_true, Bool.not_not, Bool.false_eq_true, Bool.true_eq_false, reduceCtorEq, Int.reduceLT, Int.reduceLE, Int.reduceToNat, Int.reduceAdd, Int.reduceSub, Int.reduceMul, Int.reduceNeg, Nat.reduceMul, Nat.reduceAdd, Nat.reduceSub, Nat.reduceBEq, Nat.reduceEqDiff, Nat.reduceLT, Nat.reduceLeDiff, Int.reduceBEq, Int.reduceEq, Nat.reducePow, Int.reducePow, IntWalk.i64_in, IntKind.bits, eqAV, eqL, leafEq, andO, fillV, buildSV, List.getElem?_toArray, List.getElem?_cons_zero, List.getElem?_cons_succ, List.getElem?_nil, Int.reduceGT, Int.reduceGE, Int.reduceBNe, Bool.true_and, Bool.and_true, Bool.false_and, Bool.and_false, Bool.and_self, IntWalk.u64_in, Int.cast_ofNat_Int, callF1, pad16, pad_0, pad_1, pad_2, pad_3, pad_4, pad_5, pad_6, pad_7, pad_8, pad_9, pad_10, pad_11, pad_12, pad_13, pad_14, pad_15, gc0, gc1, gc2, gc3, gc4, gc5, gc6, gc7, gc8, gc9, gc10, gc11, gc12, gc13, gc14, gc15, gcS, sc0, sc1, sc2, sc3, sc4, sc5, sc6, sc7, sc8, sc9, sc10, sc11, sc12, sc13, sc14, sc15, scS, List.drop_succ_cons, List.drop_nil, x_pan, s_pan, b_pan, pE_ret, pE_pan, pE_none, pE_ite, pvE_some, pvE_none, pvE_ite, rv_some, rv_none, rv_ite, oR_ret, t_mv, t_pick, t_alloc, t_box, t_build, t_buildS, t_load, t_store, t_nilck, t_bin, t_eqb, t_eqA, t_eqp, t_un, t_conv, t_field, t_idxA, t_faddr, t_iaddrS, t_iaddrA, t_ext, t_len, t_mm, t_call, t_ifc, t_fn, t_slc, t_slcA, t_slcT, t_tass, t_isn, t_mks, t_app, t_pan, panE_i, optE_none, optE_some, bnd_none, bnd_int, slA_none, slA_some, appR_some, appOld_cells, newsV_s, newsV_n, lenS_s, appV_nil, appV_some, mksV_i, sh_c, sh_g, f_pan, endD_ret, dfr_normal, dfr_ret, dfr_pan, restD_normal, callD1, callC1, tassV, isnV, slcV, slcAV, slcTV, slcB, appNew, Option.bind_some, Option.bind_none, d_pan, h_pan, wrH_eq, wrX_cells, wrU_some, upH_nil, upH_cons, lk_upH, effR_some, effR_none, effR_ite, Option.isNone_none, Option.isNone_some, slA_zero, call_yield, e_range, it_func, wy_same, y_call, isLp_self, beg_normal, end_normal, end_ret, end_exit, end_ite, aft_ret, aft_ready, aft_done, aft_exit, setP_cons, setP_nil, sh_r, t_mkmap, t_mlook, t_mupd, t_mdel, mapF_some, lookF_some, setM_some, lookR_t, lookR_n, lookR_f, lookR_fn, lookV, mupdV, mdelV, mkM]
    with_reducible refine done2 ?_
    repeat (first | refine ext_new hN ?_ | exact fun _ _ h => h)
  · simp -implicitDefEqProofs (maxSteps := 10000000) (disch := omega) only [T24, L24, hB, hR, hI, h, hn0, pad, e_skip, e_ops, e_draw, e_fork, shg_n, shg_c, shg_g, shg_r, d_none, d_nil, d_cons, d_ite, h_none, h_nil, h_cons, h_ite, eqS_same, lightV, e_seq, e_cond, e_block, e_exit, e_ret, s_normal, s_ret, s_exit, s_none, s_ite, b_normal, b_ret, b_exit, b_none, b_ite, c_bool, x_none, x_nil, x_cons, x_ite, p_some, p_none, p_ite, pt_some, pt_none, pv_some, pv_none, pv_ite, w_none, w_some, i_bool, i_undef, bt, bf, v_tmp, v_const, v_global, v_func, evs, f_normal, f_ret, f_none, f_ite, r_some, co_some, l_ptr, m_agg, m_one, sh_app, lk_nil, lk_cons, rd_eq, rdO_some, rdO_none, rdN_none, rdL_some, rdL_none, wrB_none, unitR_some, wr_nil, wr_here, wr_skip, k_cells, tk_zero, tk_take, tk_skip, tkC_some, call_func, gt, st, binV, arith, isSh, storeV, all1, idxAV, fieldV, faddrV, iaddrSV, iaddrAV, pickV, convV, unV, eqbV, eqpV, extV, mm2, mmV, nilckV, ress, res1, retV, Value.cells, cond_true, cond_false, Bool.true_or, Bool.false_or, Bool.or_true, Bool.or_false, beq_self_eq_true, if_true, if_false, ite_true, ite_false, decide_true, decide_false, decide_eq_true_eq, reduceIte, Nat.zero_add, Nat.add_zero, and_self, true_and, and_true, List.size_toArray, List.length_cons, List.length_nil, List.append_nil, List.nil_append, Int.toNat_zero, Bool.not_false, Bool.not_true, Bool.not_not, Bool.false_eq_true, Bool.true_eq_false, reduceCtorEq, Int.reduceLT, Int.reduceLE, Int.reduceToNat, Int.reduceAdd, Int.reduceSub, Int.reduceMul, Int.reduceNeg, Nat.reduceMul, Nat.reduceAdd, Nat.reduceSub, Nat.reduceBEq, Nat.reduceEqDiff, Nat.reduceLT, Nat.reduceLeDiff, Int.reduceBEq, Int.reduceEq, Nat.reducePow, Int.reducePow, IntWalk.i64_in, IntKind.bits, eqAV, eqL, leafEq, andO, fillV, buildSV, List.getElem?_toArray, List.getElem?_cons_zero, List.getElem?_cons_succ, List.getElem?_nil, Int.reduceGT, Int.reduceGE, Int.reduceBNe, Bool.true_and, Bool.and_true, Bool.false_and, Bool.and_false, Bool.and_self, IntWalk.u64_in, Int.cast_ofNat_Int, callF1, pad16, pad_0, pad_1, pad_2, pad_3, pad_4, pad_5, pad_6, pad_7, pad_8, pad_9, pad_10, pad_11, pad_12, pad_13, pad_14, pad_15, gc0, gc1, gc2, gc3, gc4, gc5, gc6, gc7, gc8, gc9, gc10, gc11, gc12, gc13, gc14, gc15, gcS, sc0, sc1, sc2, sc3, sc4, sc5, sc6, sc7, sc8, sc9, sc10, sc11, sc12, sc13, sc14, sc15, scS, List.drop_succ_cons, List.drop_nil, x_pan, s_pan, b_pan, pE_ret, pE_pan, pE_none, pE_ite, pvE_some, pvE_none, pvE_ite, rv_some, rv_none, rv_ite, oR_ret, t_mv, t_pick, t_alloc, t_box, t_build, t_buildS, t_load, t_store, t_nilck, t_bin, t_eqb, t_eqA, t_eqp, t_un, t_conv, t_field, t_idxA, t_faddr, t_iaddrS, t_iaddrA, t_ext, t_len, t_mm, t_call, t_ifc, t_fn, t_slc, t_slcA, t_slcT, t_tass, t_isn, t_mks, t_app, t_pan, panE_i, optE_none, optE_some, bnd_none, bnd_int, slA_none, slA_some, appR_some, appOld_cells, newsV_s, newsV_n, lenS_s, appV_nil, appV_some, mksV_i, sh_c, sh_g, f_pan, endD_ret, dfr_normal, dfr_ret, dfr_pan, restD_normal, callD1, callC1, tassV, isnV, slcV, slcAV, slcTV, slcB, appNew, Option.bind_some, Option.bind_none, d_pan, h_pan, wrH_eq, wrX_cells, wrU_some, upH_nil, upH_cons, lk_upH, effR_some, effR_none, effR_ite, Option.isNone_none, Option.isNone_some, slA_zero, call_yield, e_range, it_func, wy_same, y_call, isLp_self, beg_normal, end_normal, end_ret, end_exit, end_ite, aft_ret, aft_ready, aft_done, aft_exit, setP_cons, setP_nil, sh_r, t_mkmap, t_mlook, t_mupd, t_mdel, mapF_some, lookF_some, setM_some, lookR_t, lookR_n, lookR_f, lookR_fn, lookV, mupdV, mdelV, mkM]
    with_reducible refine done2 ?_
    repeat (first | refine ext_new hN ?_ | exact fun _ _ h => h)
/-- whitewash/whitewashlaw08.Key -/
def L15 : FnL := ⟨(.seq (.ops [⟨(some 2), .mv (.const (.int .u64 0)), none⟩])
 (.seq (.ops [⟨(some 4), .mv (.tmp 0), none⟩, ⟨(some 5), .call (.func 24) [(.tmp 4), (.const (.int .i64 40))], none⟩, ⟨(some 6), .conv .u64 (.tmp 5), none⟩, ⟨(some 3), .mv (.tmp 6), none⟩])
 (.seq (.seq (.ops [⟨(some 7), .mv (.tmp 3), none⟩, ⟨(some 8), .bin .gtr (.tmp 7) (.const (.int .u64 30)), none⟩])
 (.cond (.tmp 8) (.seq (.ops [⟨(some 9), .mv (.tmp 3), none⟩, ⟨(some 10), .bin .sub (.tmp 9) (.const (.int .u64 30)), none⟩, ⟨(some 11), .bin .mul (.tmp 10) (.const (.int .u64 2049638230412172401)), none⟩, ⟨(some 2), .mv (.tmp 11), none⟩])
 .ret)
 .skip))
 (.seq (.ops [⟨(some 12), .mv (.tmp 3), none⟩, ⟨(some 2), .mv (.tmp 12), none⟩])
 .ret)))),
 13, [.tmp 2]⟩
theorem low15 : lowerFn Tryd.prog Tryd.f15 = some L15 := by kernel_rfl
noncomputable def G15 (B : OH) : Nat → Cs
  | 24 => V24 B
  | _ => fun _ _ _ => none
theorem G15_24 {B : OH} : G15 B 24 = V24 B := rfl
theorem sG15 {w0 : World} {B : OH} : SoundG Tryd.prog w0 B { f := G15 B } := .of fun k => by
  unfold G15
  split
  · exact .inr ⟨en24, sV24⟩
  · exact .inl fun _ _ _ => rfl
theorem en15 : Enter Tryd.prog 15 := .of Tryd.func15 (by kernel_rfl) (by kernel_rfl)
noncomputable def T15 (B : OH) : Cs := callF B { f := G15 B } 80 L15
theorem sT15 {w0 : World} {B : OH} : SoundC Tryd.prog w0 B 15 (T15 B) := callF_sound mixedOrders sG15 80 Tryd.func15 low15
noncomputable def F15 (B : OH) : List Value → Option Value := kval B (T15 B)
noncomputable def V15 (B : OH) : Cs := fun a H N => pvE (F15 B a) H N
theorem V15_eq {B : OH} {a : List Value} {H : HL} {N : St} : V15 B a H N = pvE (F15 B a) H N := rfl
theorem sV15 {w0 : World} {B : OH} : SoundC Tryd.prog w0 B 15 (V15 B) := sT15.ofVal
theorem f15 {B : OH} (hG : ∃ H N, good B H N) (n : Int) (hn : i64R n) : F15 B [.int .i64 n] = some (.int .u64 (keyI n)) := by
  refine kval_eq hG fun H N hN => ?_
  have hB := good_B hN
  have hR := good_rdB hN
  have hI := beqN hN.1.1
  have e := f24 hG n 40 hn (by omega)
  have b := pk_b (x := n) (n := 40) (by omega)
  unfold keyI
  generalize pk n 40 = k at e b
  have hw : IntKind.u64.wrap k = k := IntWalk.u64_in _ (by omega)
  by_cases h : k > 30
  · have hw2 : IntKind.u64.wrap (k - 30) = k - 30 := IntWalk.u64_in _ (by omega)
    have hw3 : IntKind.u64.wrap ((k - 30) * 2049638230412172401) = (k - 30) * 2049638230412172401 := IntWalk.u64_in _ (by omega)
    simp -implicitDefEqProofs (maxSteps := 10000000) (disch := omega) only [T15, L15, G15_24, V24_eq, hB, hR, hI, e, h, hw, hw2, hw3, pad, e_skip, e_ops, e_draw, e_fork, shg_n, shg_c, shg_g, shg_r, d_none, d_nil, d_cons, d_ite, h_none, h_nil, h_cons, h_ite, eqS_same, lightV, e_seq, e_cond, e_block, e_exit, e_ret, s_normal, s_ret, s_exit, s_none, s_ite, b_normal, b_ret, b_exit, b_none, b_ite, c_bool, x_none, x_nil, x_cons, x_ite, p_some, p_none, p_ite, pt_some, pt_none, pv_some, pv_none, pv_ite, w_none, w_some, i_bool, i_undef, bt, bf, v_tmp, v_const, v_global, v_func, evs, f_normal, f_ret, f_none, f_ite, r_some, co_some, l_ptr, m_agg, m_one, sh_app, lk_nil, lk_cons, rd_eq, rdO_some, rdO_none, rdN_none, rdL_some, rdL_none, wrB_none, unitR_some, wr_nil, wr_here, wr_skip, k_cells, tk_zero, tk_take, tk_skip, tkC_some, call_func, gt, st, binV, arith, isSh, storeV, all1, idxAV, fieldV, faddrV, iaddrSV, iaddrAV, pickV, convV, unV, eqbV, eqpV, extV, mm2, mmV, nilckV, ress, res1, retV, Value.cells, cond_true, cond_false, Bool.true_or, Bool.false_or, Bool.or_true, Bool.or_false, beq_self_eq_true, if_true, if_false, ite_true, ite_false, decide_true, decide_false, decide_eq_true_eq, reduceIte, Nat.zero_add, Nat.add_zero, and_self, true_and, and_true, List.size_toArray, List.length_cons, List.length_nil, List.append_nil, List.nil_append, Int.toNat_zero, Bool.not_false, Bool.not_true, Bool.not_not, Bool.false_eq_true, Bool.true_eq_false, reduceCtorEq, Int.reduceLT, Int.reduceLE, Int.reduceToNat, Int.reduceAdd, Int.reduceSub, Int.reduceMul, Int.reduceNeg, Nat.reduceMul, Nat.reduceAdd, Nat.reduceSub, Nat.reduceBEq, Nat.reduceEqDiff, Nat.reduceLT, Nat.reduceLeDiff, Int.reduceBEq, Int.reduceEq, Nat.reducePow, Int.reducePow, IntWalk.i64_in, IntKind.bits, eqAV, eqL, leafEq, andO, fillV, buildSV, List.getElem?_toArray, List.getElem?_cons_zero, List.getElem?_cons_succ, List.getElem?_nil, Int.reduceGT, Int.reduceGE, Int.reduceBNe, Bool.true_and, Bool.and_true, Bool.false_and, Bool.and_false, Bool.and_self, IntWalk.u64_in, Int.cast_ofNat_Int, callF1, pad16, pad_0, pad_1, pad_2, pad_3, pad_4, pad_5, pad_6, pad_7, pad_8, pad_9, pad_10, pad_11, pad_12, pad_13, pad_14, pad_15, gc0, gc1, gc2, gc3, gc4, gc5, gc6, gc7, gc8, gc9, gc10, gc11, gc12, gc13, gc14, gc15, gcS, sc0, sc1, sc2, sc3, sc4, sc5, sc6, sc7, sc8, sc9, sc10, sc11, sc12, sc13, sc14, sc15, scS, List.drop_succ_cons, List.drop_nil, x_pan, s_pan, b_pan, pE_ret, pE_pan, pE_none, pE_ite, pvE_some, pvE_none, pvE_ite, rv_some, rv_none, rv_ite, oR_ret, t_mv, t_pick, t_alloc, t_box, t_build, t_buildS, t_load, t_store, t_nilck, t_bin, t_eqb, t_eqA, t_eqp, t_un, t_conv, t_field, t_idxA, t_faddr, t_iaddrS, t_iaddrA, t_ext, t_len, t_mm, t_call, t_ifc, t_fn, t_slc, t_slcA, t_slcT, t_tass, t_isn, t_mks, t_app, t_pan, panE_i, optE_none, optE_some, bnd_none, bnd_int, slA_none, slA_some, appR_some, appOld_cells, newsV_s, newsV_n, lenS_s, appV_nil, appV_some, mksV_i, sh_c, sh_g, f_pan, endD_ret, dfr_normal, dfr_ret, dfr_pan, restD_normal, callD1, callC1, tassV, isnV, slcV, slcAV, slcTV, slcB, appNew, Option.bind_some, Option.bind_none, d_pan, h_pan, wrH_eq, wrX_cells, wrU_some, upH_nil, upH_cons, lk_upH, effR_some, effR_none, effR_ite, Option.isNone_none, Option.isNone_some, slA_zero, call_yield, e_range, it_func, wy_same, y_call, isLp_self, beg_normal, end_normal, end_ret, end_exit, end_ite, aft_ret, aft_ready, aft_done, aft_exit, setP_cons, setP_nil, sh_r, t_mkmap, t_mlook, t_mupd, t_mdel, mapF_some, lookF_some, setM_some, lookR_t, lookR_n, lookR_f, lookR_fn, lookV, mupdV, mdelV, mkM]
    with_reducible refine done2 ?_
    repeat (first | refine ext_new hN ?_ | exact fun _ _ h => h)
  · simp -implicitDefEqProofs (maxSteps := 10000000) (disch := omega) only [T15, L15, G15_24, V24_eq, hB, hR, hI, e, h, hw, pad, e_skip, e_ops, e_draw, e_fork, shg_n, shg_c, shg_g, shg_r, d_none, d_nil, d_cons, d_ite, h_none, h_nil, h_cons, h_ite, eqS_same, lightV, e_seq, e_cond, e_block, e_exit, e_ret, s_normal, s_ret, s_exit, s_none, s_ite, b_normal, b_ret, b_exit, b_none, b_ite, c_bool, x_none, x_nil, x_cons, x_ite, p_some, p_none, p_ite, pt_some, pt_none, pv_some, pv_none, pv_ite, w_none, w_some, i_bool, i_undef, bt, bf, v_tmp, v_const, v_global, v_func, evs, f_normal, f_ret, f_none, f_ite, r_some, co_some, l_ptr, m_agg, m_one, sh_app, lk_nil, lk_cons, rd_eq, rdO_some, rdO_none, rdN_none, rdL_some, rdL_none, wrB_none, unitR_some, wr_nil, wr_here, wr_skip, k_cells, tk_zero, tk_take, tk_skip, tkC_some, call_func, gt, st, binV, arith, isSh, storeV, all1, idxAV, fieldV, faddrV, iaddrSV, iaddrAV, pickV, convV, unV, eqbV, eqpV, extV, mm2, mmV, nilckV, ress, res1, retV, Value.cells, cond_true, cond_false, Bool.true_or, Bool.false_or, Bool.or_true, Bool.or_false, beq_self_eq_true, if_true, if_false, ite_true, ite_false, decide_true, decide_false, decide_eq_true_eq, reduceIte, Nat.zero_add, Nat.add_zero, and_self, true_and, and_true, List.size_toArray, List.length_cons, List.length_nil, List.append_nil, List.nil_append, Int.toNat_zero, Bool.not_false, Bool.not_true, Bool.not_not, Bool.false_eq_true, Bool.true_eq_false, reduceCtorEq, Int.reduceLT, Int.reduceLE, Int.reduceToNat, Int.reduceAdd, Int.reduceSub, Int.reduceMul, Int.reduceNeg, Nat.reduceMul, Nat.reduceAdd, Nat.reduceSub, Nat.reduceBEq, Nat.reduceEqDiff, Nat.reduceLT, Nat.reduceLeDiff, Int.reduceBEq, Int.reduceEq, Nat.reducePow, Int.reducePow, IntWalk.i64_in, IntKind.bits, eqAV, eqL, leafEq, andO, fillV, buildSV, List.getElem?_toArray, List.getElem?_cons_zero, List.getElem?_cons_succ, List.getElem?_nil, Int.reduceGT, Int.reduceGE, Int.reduceBNe, Bool.true_and, Bool.and_true, Bool.false_and, Bool.and_false, Bool.and_self, IntWalk.u64_in, Int.cast_ofNat_Int, callF1, pad16, pad_0, pad_1, pad_2, pad_3, pad_4, pad_5, pad_6, pad_7, pad_8, pad_9, pad_10, pad_11, pad_12, pad_13, pad_14, pad_15, gc0, gc1, gc2, gc3, gc4, gc5, gc6, gc7, gc8, gc9, gc10, gc11, gc12, gc13, gc14, gc15, gcS, sc0, sc1, sc2, sc3, sc4, sc5, sc6, sc7, sc8, sc9, sc10, sc11, sc12, sc13, sc14, sc15, scS, List.drop_succ_cons, List.drop_nil, x_pan, s_pan, b_pan, pE_ret, pE_pan, pE_none, pE_ite, pvE_some, pvE_none, pvE_ite, rv_some, rv_none, rv_ite, oR_ret, t_mv, t_pick, t_alloc, t_box, t_build, t_buildS, t_load, t_store, t_nilck, t_bin, t_eqb, t_eqA, t_eqp, t_un, t_conv, t_field, t_idxA, t_faddr, t_iaddrS, t_iaddrA, t_ext, t_len, t_mm, t_call, t_ifc, t_fn, t_slc, t_slcA, t_slcT, t_tass, t_isn, t_mks, t_app, t_pan, panE_i, optE_none, optE_some, bnd_none, bnd_int, slA_none, slA_some, appR_some, appOld_cells, newsV_s, newsV_n, lenS_s, appV_nil, appV_some, mksV_i, sh_c, sh_g, f_pan, endD_ret, dfr_normal, dfr_ret, dfr_pan, restD_normal, callD1, callC1, tassV, isnV, slcV, slcAV, slcTV, slcB, appNew, Option.bind_some, Option.bind_none, d_pan, h_pan, wrH_eq, wrX_cells, wrU_some, upH_nil, upH_cons, lk_upH, effR_some, effR_none, effR_ite, Option.isNone_none, Option.isNone_some, slA_zero, call_yield, e_range, it_func, wy_same, y_call, isLp_self, beg_normal, end_normal, end_ret, end_exit, end_ite, aft_ret, aft_ready, aft_done, aft_exit, setP_cons, setP_nil, sh_r, t_mkmap, t_mlook, t_mupd, t_mdel, mapF_some, lookF_some, setM_some, lookR_t, lookR_n, lookR_f, lookR_fn, lookV, mupdV, mdelV, mkM]
    with_reducible refine done2 ?_
    repeat (first | refine ext_new hN ?_ | exact fun _ _ h => h)
/-- whitewash/whitewashlaw08.ints -/
def L20 : FnL := ⟨(.seq (.ops [⟨(some 4), .mv (.const (.bool false)), none⟩])
 (.seq (.seq (.ops [⟨(some 6), .mv (.tmp 0), none⟩, ⟨(some 7), .len false (.tmp 6), none⟩, ⟨(some 8), .mv (.tmp 1), none⟩, ⟨(some 9), .len false (.tmp 8), none⟩, ⟨(some 10), .bin .neq (.tmp 7) (.tmp 9), none⟩])
 (.cond (.tmp 10) (.seq (.ops [⟨(some 4), .mv (.const (.bool false)), none⟩])
 .ret)
 .skip))
 (.seq (.seq (.ops [⟨(some 5), .mv (.const (.int .i64 0)), none⟩])
 (.block 0 (.loop (.seq (.seq (.ops [⟨(some 11), .mv (.tmp 5), none⟩, ⟨(some 12), .mv (.tmp 0), none⟩, ⟨(some 13), .len false (.tmp 12), none⟩, ⟨(some 14), .bin .lss (.tmp 11) (.tmp 13), none⟩])
 (.cond (.tmp 14) .skip
 (.exit 0)))
 (.seq (.block 1 (.seq (.draw [⟨⟨(some 17), .mv (.tmp 0), none⟩, []⟩, ⟨⟨(some 18), .mv (.tmp 5), none⟩, []⟩, ⟨⟨(some 19), .iaddrS 1 (.tmp 17) (.tmp 18), none⟩, []⟩, ⟨⟨(some 20), .load false 1 (.tmp 19), none⟩, []⟩, ⟨⟨(some 21), .mv (.tmp 1), none⟩, []⟩, ⟨⟨(some 22), .mv (.tmp 5), none⟩, []⟩, ⟨⟨(some 23), .iaddrS 1 (.tmp 21) (.tmp 22), none⟩, []⟩, ⟨⟨(some 24), .load false 1 (.tmp 23), none⟩, []⟩, ⟨⟨(some 25), .bin .neq (.tmp 20) (.tmp 24), none⟩, []⟩])
 (.cond (.tmp 25) (.seq (.ops [⟨(some 4), .mv (.const (.bool false)), none⟩])
 .ret)
 .skip)))
 (.ops [⟨(some 15), .mv (.tmp 5), none⟩, ⟨(some 16), .bin .add (.tmp 15) (.const (.int .i64 1)), none⟩, ⟨(some 5), .mv (.tmp 16), none⟩]))))))
 (.seq (.ops [⟨(some 4), .mv (.const (.bool true)), none⟩])
 .ret)))),
 26, [.tmp 4]⟩
theorem low20 : lowerFn Tryd.prog Tryd.f20 = some L20 := by kernel_rfl
noncomputable def G20 (B : OH) : Nat → Cs
  | _ => fun _ _ _ => none
theorem sG20 {w0 : World} {B : OH} : SoundG Tryd.prog w0 B { f := G20 B } := .of fun k => by
  unfold G20
  split
  · exact .inl fun _ _ _ => rfl
theorem en20 : Enter Tryd.prog 20 := .of Tryd.func20 (by kernel_rfl) (by kernel_rfl)
noncomputable def T20 (B : OH) : Cs := callF B { f := G20 B } 1300 L20
theorem sT20 {w0 : World} {B : OH} : SoundC Tryd.prog w0 B 20 (T20 B) := callF_sound mixedOrders sG20 1300 Tryd.func20 low20
noncomputable def V20 (B : OH) : Cs := T20 B
theorem sV20 {w0 : World} {B : OH} : SoundC Tryd.prog w0 B 20 (V20 B) := sT20
structure K20 (v w : Value) (n i : Nat) (ts : List Value) : Prop where
  l : ts.length = 26
  t0 : gt ts 0 = v
  t1 : gt ts 1 = w
  t5 : gt ts 5 = .int .i64 (i : Int)
set_option maxHeartbeats 4000000 in
theorem same20 {B : OH} {H : HL} {N : St} {v w : Value} {L M : List Int} (hN : good B H N) (hv : SlR f1 1 B H v L) (hw : SlR f1 1 B H w M) (hL : L.length ≤ 1200) : V20 B [v, w] H N = some (.ret (.bool (decide (L = M))), H, N) := by
  have hB := good_B hN
  have hR := good_rdB hN
  have hI := beqN hN.1.1
  have hlv := hv.len
  have hlw := hw.len
  unfold V20
  by_cases hl : L.length = M.length
  case neg =>
    have hl' : ((L.length : Int) != (M.length : Int)) = true := by simp; omega
    have hd : decide (L = M) = false := decide_eq_false fun h => hl (by rw [h])
    rw [hd]
    simp -implicitDefEqProofs (maxSteps := 10000000) (disch := omega) only [T20, L20, hB, hR, hI, lenV_sl, Int.toNat_natCast, bft, btf, gtst, st_len, hlv, hlw, hl', pad, e_skip, e_ops, e_draw, e_fork, shg_n, shg_c, shg_g, shg_r, d_none, d_nil, d_cons, d_ite, h_none, h_nil, h_cons, h_ite, eqS_same, lightV, e_seq, e_cond, e_block, e_exit, e_ret, s_normal, s_ret, s_exit, s_none, s_ite, b_normal, b_ret, b_exit, b_none, b_ite, c_bool, x_none, x_nil, x_cons, x_ite, p_some, p_none, p_ite, pt_some, pt_none, pv_some, pv_none, pv_ite, w_none, w_some, i_bool, i_undef, bt, bf, v_tmp, v_const, v_global, v_func, evs, f_normal, f_ret, f_none, f_ite, r_some, co_some, l_ptr, m_agg, m_one, sh_app, lk_nil, lk_cons, rd_eq, rdO_some, rdO_none, rdN_none, rdL_some, rdL_none, wrB_none, unitR_some, wr_nil, wr_here, wr_skip, k_cells, tk_zero, tk_take, tk_skip, tkC_some, call_func, gt, st, binV, arith, isSh, storeV, all1, idxAV, fieldV, faddrV, iaddrSV, iaddrAV, pickV, convV, unV, eqbV, eqpV, extV, mm2, mmV, nilckV, ress, res1, retV, Value.cells, cond_true, cond_false, Bool.true_or, Bool.false_or, Bool.or_true, Bool.or_false, beq_self_eq_true, if_true, if_false, ite_true, ite_false, decide_true, decide_false, decide_eq_true_eq, reduceIte, Nat.zero_add, Nat.add_zero, and_self, true_and, and_true, List.size_toArray, List.length_cons, List.length_nil, List.append_nil, List.nil_append, Int.toNat_zero, Bool.not_false, Bool.not_true, Bool.not_not, Bool.false_eq_true, Bool.true_eq_false, reduceCtorEq, Int.reduceLT, Int.reduceLE, Int.reduceToNat, Int.reduceAdd, Int.reduceSub, Int.reduceMul, Int.reduceNeg, Nat.reduceMul, Nat.reduceAdd, Nat.reduceSub, Nat.reduceBEq, Nat.reduceEqDiff, Nat.reduceLT, Nat.reduceLeDiff, Int.reduceBEq, Int.reduceEq, Nat.reducePow, Int.reducePow, IntWalk.i64_in, IntKind.bits, eqAV, eqL, leafEq, andO, fillV, buildSV, List.getElem?_toArray, List.getElem?_cons_zero, List.getElem?_cons_succ, List.getElem?_nil, Int.reduceGT, Int.reduceGE, Int.reduceBNe, Bool.true_and, Bool.and_true, Bool.false_and, Bool.and_false, Bool.and_self, IntWalk.u64_in, Int.cast_ofNat_Int, callF1, pad16, pad_0, pad_1, pad_2, pad_3, pad_4, pad_5, pad_6, pad_7, pad_8, pad_9, pad_10, pad_11, pad_12, pad_13, pad_14, pad_15, gc0, gc1, gc2, gc3, gc4, gc5, gc6, gc7, gc8, gc9, gc10, gc11, gc12, gc13, gc14, gc15, gcS, sc0, sc1, sc2, sc3, sc4, sc5, sc6, sc7, sc8, sc9, sc10, sc11, sc12, sc13, sc14, sc15, scS, List.drop_succ_cons, List.drop_nil, x_pan, s_pan, b_pan, pE_ret, pE_pan, pE_none, pE_ite, pvE_some, pvE_none, pvE_ite, rv_some, rv_none, rv_ite, oR_ret, t_mv, t_pick, t_alloc, t_box, t_build, t_buildS, t_load, t_store, t_nilck, t_bin, t_eqb, t_eqA, t_eqp, t_un, t_conv, t_field, t_idxA, t_faddr, t_iaddrS, t_iaddrA, t_ext, t_len, t_mm, t_call, t_ifc, t_fn, t_slc, t_slcA, t_slcT, t_tass, t_isn, t_mks, t_app, t_pan, panE_i, optE_none, optE_some, bnd_none, bnd_int, slA_none, slA_some, appR_some, appOld_cells, newsV_s, newsV_n, lenS_s, appV_nil, appV_some, mksV_i, sh_c, sh_g, f_pan, endD_ret, dfr_normal, dfr_ret, dfr_pan, restD_normal, callD1, callC1, tassV, isnV, slcV, slcAV, slcTV, slcB, appNew, Option.bind_some, Option.bind_none, d_pan, h_pan, wrH_eq, wrX_cells, wrU_some, upH_nil, upH_cons, lk_upH, effR_some, effR_none, effR_ite, Option.isNone_none, Option.isNone_some, slA_zero, call_yield, e_range, it_func, wy_same, y_call, isLp_self, beg_normal, end_normal, end_ret, end_exit, end_ite, aft_ret, aft_ready, aft_done, aft_exit, setP_cons, setP_nil, sh_r, t_mkmap, t_mlook, t_mupd, t_mdel, mapF_some, lookF_some, setM_some, lookR_t, lookR_n, lookR_f, lookR_fn, lookV, mupdV, mdelV, mkM]
  have hl' : ((L.length : Int) != (M.length : Int)) = false := by simp; omega
  simp -implicitDefEqProofs (maxSteps := 10000000) (disch := omega) only [T20, L20, hB, hR, hI, lenV_sl, Int.toNat_natCast, bft, btf, gtst, st_len, hlv, hlw, hl', pad, e_skip, e_ops, e_draw, e_fork, shg_n, shg_c, shg_g, shg_r, d_none, d_nil, d_cons, d_ite, h_none, h_nil, h_cons, h_ite, eqS_same, lightV, e_seq, e_cond, e_block, e_exit, e_ret, s_normal, s_ret, s_exit, s_none, s_ite, b_normal, b_ret, b_exit, b_none, b_ite, c_bool, x_none, x_nil, x_cons, x_ite, p_some, p_none, p_ite, pt_some, pt_none, pv_some, pv_none, pv_ite, w_none, w_some, i_bool, i_undef, bt, bf, v_tmp, v_const, v_global, v_func, evs, f_normal, f_ret, f_none, f_ite, r_some, co_some, l_ptr, m_agg, m_one, sh_app, lk_nil, lk_cons, rd_eq, rdO_some, rdO_none, rdN_none, rdL_some, rdL_none, wrB_none, unitR_some, wr_nil, wr_here, wr_skip, k_cells, tk_zero, tk_take, tk_skip, tkC_some, call_func, gt, st, binV, arith, isSh, storeV, all1, idxAV, fieldV, faddrV, iaddrSV, iaddrAV, pickV, convV, unV, eqbV, eqpV, extV, mm2, mmV, nilckV, ress, res1, retV, Value.cells, cond_true, cond_false, Bool.true_or, Bool.false_or, Bool.or_true, Bool.or_false, beq_self_eq_true, if_true, if_false, ite_true, ite_false, decide_true, decide_false, decide_eq_true_eq, reduceIte, Nat.zero_add, Nat.add_zero, and_self, true_and, and_true, List.size_toArray, List.length_cons, List.length_nil, List.append_nil, List.nil_append, Int.toNat_zero, Bool.not_false, Bool.not_true, Bool.not_not, Bool.false_eq_true, Bool.true_eq_false, reduceCtorEq, Int.reduceLT, Int.reduceLE, Int.reduceToNat, Int.reduceAdd, Int.reduceSub, Int.reduceMul, Int.reduceNeg, Nat.reduceMul, Nat.reduceAdd, Nat.reduceSub, Nat.reduceBEq, Nat.reduceEqDiff, Nat.reduceLT, Nat.reduceLeDiff, Int.reduceBEq, Int.reduceEq, Nat.reducePow, Int.reducePow, IntWalk.i64_in, IntKind.bits, eqAV, eqL, leafEq, andO, fillV, buildSV, List.getElem?_toArray, List.getElem?_cons_zero, List.getElem?_cons_succ, List.getElem?_nil, Int.reduceGT, Int.reduceGE, Int.reduceBNe, Bool.true_and, Bool.and_true, Bool.false_and, Bool.and_false, Bool.and_self, IntWalk.u64_in, Int.cast_ofNat_Int, callF1, pad16, pad_0, pad_1, pad_2, pad_3, pad_4, pad_5, pad_6, pad_7, pad_8, pad_9, pad_10, pad_11, pad_12, pad_13, pad_14, pad_15, gc0, gc1, gc2, gc3, gc4, gc5, gc6, gc7, gc8, gc9, gc10, gc11, gc12, gc13, gc14, gc15, gcS, sc0, sc1, sc2, sc3, sc4, sc5, sc6, sc7, sc8, sc9, sc10, sc11, sc12, sc13, sc14, sc15, scS, List.drop_succ_cons, List.drop_nil, x_pan, s_pan, b_pan, pE_ret, pE_pan, pE_none, pE_ite, pvE_some, pvE_none, pvE_ite, rv_some, rv_none, rv_ite, oR_ret, t_mv, t_pick, t_alloc, t_box, t_build, t_buildS, t_load, t_store, t_nilck, t_bin, t_eqb, t_eqA, t_eqp, t_un, t_conv, t_field, t_idxA, t_faddr, t_iaddrS, t_iaddrA, t_ext, t_len, t_mm, t_call, t_ifc, t_fn, t_slc, t_slcA, t_slcT, t_tass, t_isn, t_mks, t_app, t_pan, panE_i, optE_none, optE_some, bnd_none, bnd_int, slA_none, slA_some, appR_some, appOld_cells, newsV_s, newsV_n, lenS_s, appV_nil, appV_some, mksV_i, sh_c, sh_g, f_pan, endD_ret, dfr_normal, dfr_ret, dfr_pan, restD_normal, callD1, callC1, tassV, isnV, slcV, slcAV, slcTV, slcB, appNew, Option.bind_some, Option.bind_none, d_pan, h_pan, wrH_eq, wrX_cells, wrU_some, upH_nil, upH_cons, lk_upH, effR_some, effR_none, effR_ite, Option.isNone_none, Option.isNone_some, slA_zero, call_yield, e_range, it_func, wy_same, y_call, isLp_self, beg_normal, end_normal, end_ret, end_exit, end_ite, aft_ret, aft_ready, aft_done, aft_exit, setP_cons, setP_nil, sh_r, t_mkmap, t_mlook, t_mupd, t_mdel, mapF_some, lookF_some, setM_some, lookR_t, lookR_n, lookR_f, lookR_fn, lookV, mupdV, mdelV, mkM]
  generalize hX : exec B _ _ (LC.loop _) _ = o
  have hO : Ok o (fun x s => s.H = H ∧ s.N = N ∧ s.t.length = 26 ∧ ((x = .exit 0 ∧ L = M) ∨ (x = .ret ∧ gt s.t 4 = .bool false ∧ L ≠ M))) := by
    rw [← hX]
    refine loop_rule (n0 := 60) (fun k s => ∃ ts, ∃ i : Nat, s = ⟨ts, H, N⟩ ∧ K20 v w L.length i ts ∧ (∀ q, q < i → L.getD q 0 = M.getD q 0) ∧ i ≤ L.length ∧ k = L.length - i) _ ?_ L.length _ ⟨_, 0, rfl, ⟨rfl, rfl, rfl, rfl⟩, fun q hq => by omega, by omega, rfl⟩ _ (by omega)
    rintro n k s ⟨ts, i, rfl, kp, hq, hi, rfl⟩
    have hc1 : ((i + 1 : Nat) : Int) = (i : Int) + 1 := by omega
    by_cases h : i < L.length
    · have h' : (i : Int) < (L.length : Int) := by omega
      have hm' : i < M.length := by omega
      have i0 : (0 : Int) ≤ (i : Int) := by omega
      obtain ⟨bv, ov, cv, rfl, _, rv⟩ := hv.at (by omega)
      obtain ⟨bw, ow, cw, rfl, _, rw'⟩ := hw.at (by omega)
      have rv : rdO H B bv (ov + i * 1) 1 (rdB B bv (ov + i * 1) 1) = some (f1 (L.getD i 0)) := (rv H Fr.refl i 0 1 0 h (by omega)).trans rfl
      have rw' : rdO H B bw (ow + i * 1) 1 (rdB B bw (ow + i * 1) 1) = some (f1 (M.getD i 0)) := (rw' H Fr.refl i 0 1 0 hm' (by omega)).trans rfl
      by_cases he : L.getD i 0 = M.getD i 0
      · rw [← he] at rw'
        generalize L.getD i 0 = a at rv rw'
        simp only [f1, Nat.mul_one] at rv rw'
        simp -implicitDefEqProofs (maxSteps := 10000000) (disch := omega) only [T20, L20, hB, hR, hI, kp.l, kp.t0, kp.t1, kp.t5, lenV_sl, Int.toNat_natCast, bft, btf, gtst, st_len, h', h, hm', i0, hlv, hlw, rv, rw', Nat.mul_one, bne_self_eq_false, pad, e_skip, e_ops, e_draw, e_fork, shg_n, shg_c, shg_g, shg_r, d_none, d_nil, d_cons, d_ite, h_none, h_nil, h_cons, h_ite, eqS_same, lightV, e_seq, e_cond, e_block, e_exit, e_ret, s_normal, s_ret, s_exit, s_none, s_ite, b_normal, b_ret, b_exit, b_none, b_ite, c_bool, x_none, x_nil, x_cons, x_ite, p_some, p_none, p_ite, pt_some, pt_none, pv_some, pv_none, pv_ite, w_none, w_some, i_bool, i_undef, bt, bf, v_tmp, v_const, v_global, v_func, evs, f_normal, f_ret, f_none, f_ite, r_some, co_some, l_ptr, m_agg, m_one, sh_app, lk_nil, lk_cons, rd_eq, rdO_some, rdO_none, rdN_none, rdL_some, rdL_none, wrB_none, unitR_some, wr_nil, wr_here, wr_skip, k_cells, tk_zero, tk_take, tk_skip, tkC_some, call_func, gt, st, binV, arith, isSh, storeV, all1, idxAV, fieldV, faddrV, iaddrSV, iaddrAV, pickV, convV, unV, eqbV, eqpV, extV, mm2, mmV, nilckV, ress, res1, retV, Value.cells, cond_true, cond_false, Bool.true_or, Bool.false_or, Bool.or_true, Bool.or_false, beq_self_eq_true, if_true, if_false, ite_true, ite_false, decide_true, decide_false, decide_eq_true_eq, reduceIte, Nat.zero_add, Nat.add_zero, and_self, true_and, and_true, List.size_toArray, List.length_cons, List.length_nil, List.append_nil, List.nil_append, Int.toNat_zero, Bool.not_false, Bool.not_true, Bool.not_not, Bool.false_eq_true, Bool.true_eq_false, reduceCtorEq, Int.reduceLT, Int.reduceLE, Int.reduceToNat, Int.reduceAdd, Int.reduceSub, Int.reduceMul, Int.reduceNeg, Nat.reduceMul, Nat.reduceAdd, Nat.reduceSub, Nat.reduceBEq, Nat.reduceEqDiff, Nat.reduceLT, Nat.reduceLeDiff, Int.reduceBEq, Int.reduceEq, Nat.reducePow, Int.reducePow, IntWalk.i64_in, IntKind.bits, eqAV, eqL, leafEq, andO, fillV, buildSV, List.getElem?_toArray, List.getElem?_cons_zero, List.getElem?_cons_succ, List.getElem?_nil, Int.reduceGT, Int.reduceGE, Int.reduceBNe, Bool.true_and, Bool.and_true, Bool.false_and, Bool.and_false, Bool.and_self, IntWalk.u64_in, Int.cast_ofNat_Int, callF1, pad16, pad_0, pad_1, pad_2, pad_3, pad_4, pad_5, pad_6, pad_7, pad_8, pad_9, pad_10, pad_11, pad_12, pad_13, pad_14, pad_15, gc0, gc1, gc2, gc3, gc4, gc5, gc6, gc7, gc8, gc9, gc10, gc11, gc12, gc13, gc14, gc15, gcS, sc0, sc1, sc2, sc3, sc4, sc5, sc6, sc7, sc8, sc9, sc10, sc11, sc12, sc13, sc14, sc15, scS, List.drop_succ_cons, List.drop_nil, x_pan, s_pan, b_pan, pE_ret, pE_pan, pE_none, pE_ite, pvE_some, pvE_none, pvE_ite, rv_some, rv_none, rv_ite, oR_ret, t_mv, t_pick, t_alloc, t_box, t_build, t_buildS, t_load, t_store, t_nilck, t_bin, t_eqb, t_eqA, t_eqp, t_un, t_conv, t_field, t_idxA, t_faddr, t_iaddrS, t_iaddrA, t_ext, t_len, t_mm, t_call, t_ifc, t_fn, t_slc, t_slcA, t_slcT, t_tass, t_isn, t_mks, t_app, t_pan, panE_i, optE_none, optE_some, bnd_none, bnd_int, slA_none, slA_some, appR_some, appOld_cells, newsV_s, newsV_n, lenS_s, appV_nil, appV_some, mksV_i, sh_c, sh_g, f_pan, endD_ret, dfr_normal, dfr_ret, dfr_pan, restD_normal, callD1, callC1, tassV, isnV, slcV, slcAV, slcTV, slcB, appNew, Option.bind_some, Option.bind_none, d_pan, h_pan, wrH_eq, wrX_cells, wrU_some, upH_nil, upH_cons, lk_upH, effR_some, effR_none, effR_ite, Option.isNone_none, Option.isNone_some, slA_zero, call_yield, e_range, it_func, wy_same, y_call, isLp_self, beg_normal, end_normal, end_ret, end_exit, end_ite, aft_ret, aft_ready, aft_done, aft_exit, setP_cons, setP_nil, sh_r, t_mkmap, t_mlook, t_mupd, t_mdel, mapF_some, lookF_some, setM_some, lookR_t, lookR_n, lookR_f, lookR_fn, lookV, mupdV, mdelV, mkM]
        refine ok_some (.inl ⟨rfl, L.length - (i + 1), by omega, _, i + 1, rfl, ⟨?_, ?_, ?_, ?_⟩, fun q hq' => ?_, by omega, rfl⟩)
        rotate_right
        · rcases Nat.lt_or_ge q i with h1 | h1
          · exact hq q h1
          · obtain rfl : q = i := by omega
            exact he
        all_goals simp (maxSteps := 10000000) (disch := omega) only [kp.l, kp.t0, kp.t1, kp.t5, lenV_sl, Int.toNat_natCast, bft, btf, gtst, st_len, hc1, cond_true, cond_false, Nat.reduceBEq, Nat.reduceLT, decide_true, beq_self_eq_true, if_true, if_false]
      · have hne : L ≠ M := fun e => he (by rw [e])
        generalize L.getD i 0 = a at rv he
        generalize M.getD i 0 = b at rw' he
        have hab : (a != b) = true := by simpa using he
        simp only [f1, Nat.mul_one] at rv rw'
        simp -implicitDefEqProofs (maxSteps := 10000000) (disch := omega) only [T20, L20, hB, hR, hI, kp.l, kp.t0, kp.t1, kp.t5, lenV_sl, Int.toNat_natCast, bft, btf, gtst, st_len, h', h, hm', i0, hlv, hlw, rv, rw', hab, Nat.mul_one, pad, e_skip, e_ops, e_draw, e_fork, shg_n, shg_c, shg_g, shg_r, d_none, d_nil, d_cons, d_ite, h_none, h_nil, h_cons, h_ite, eqS_same, lightV, e_seq, e_cond, e_block, e_exit, e_ret, s_normal, s_ret, s_exit, s_none, s_ite, b_normal, b_ret, b_exit, b_none, b_ite, c_bool, x_none, x_nil, x_cons, x_ite, p_some, p_none, p_ite, pt_some, pt_none, pv_some, pv_none, pv_ite, w_none, w_some, i_bool, i_undef, bt, bf, v_tmp, v_const, v_global, v_func, evs, f_normal, f_ret, f_none, f_ite, r_some, co_some, l_ptr, m_agg, m_one, sh_app, lk_nil, lk_cons, rd_eq, rdO_some, rdO_none, rdN_none, rdL_some, rdL_none, wrB_none, unitR_some, wr_nil, wr_here, wr_skip, k_cells, tk_zero, tk_take, tk_skip, tkC_some, call_func, gt, st, binV, arith, isSh, storeV, all1, idxAV, fieldV, faddrV, iaddrSV, iaddrAV, pickV, convV, unV, eqbV, eqpV, extV, mm2, mmV, nilckV, ress, res1, retV, Value.cells, cond_true, cond_false, Bool.true_or, Bool.false_or, Bool.or_true, Bool.or_false, beq_self_eq_true, if_true, if_false, ite_true, ite_false, decide_true, decide_false, decide_eq_true_eq, reduceIte, Nat.zero_add, Nat.add_zero, and_self, true_and, and_true, List.size_toArray, List.length_cons, List.length_nil, List.append_nil, List.nil_append, Int.toNat_zero, Bool.not_false, Bool.not_true, Bool.not_not, Bool.false_eq_true, Bool.true_eq_false, reduceCtorEq, Int.reduceLT, Int.reduceLE, Int.reduceToNat, Int.reduceAdd, Int.reduceSub, Int.reduceMul, Int.reduceNeg, Nat.reduceMul, Nat.reduceAdd, Nat.reduceSub, Nat.reduceBEq, Nat.reduceEqDiff, Nat.reduceLT, Nat.reduceLeDiff, Int.reduceBEq, Int.reduceEq, Nat.reducePow, Int.reducePow, IntWalk.i64_in, IntKind.bits, eqAV, eqL, leafEq, andO, fillV, buildSV, List.getElem?_toArray, List.getElem?_cons_zero, List.getElem?_cons_succ, List.getElem?_nil, Int.reduceGT, Int.reduceGE, Int.reduceBNe, Bool.true_and, Bool.and_true, Bool.false_and, Bool.and_false, Bool.and_self, IntWalk.u64_in, Int.cast_ofNat_Int, callF1, pad16, pad_0, pad_1, pad_2, pad_3, pad_4, pad_5, pad_6, pad_7, pad_8, pad_9, pad_10, pad_11, pad_12, pad_13, pad_14, pad_15, gc0, gc1, gc2, gc3, gc4, gc5, gc6, gc7, gc8, gc9, gc10, gc11, gc12, gc13, gc14, gc15, gcS, sc0, sc1, sc2, sc3, sc4, sc5, sc6, sc7, sc8, sc9, sc10, sc11, sc12, sc13, sc14, sc15, scS, List.drop_succ_cons, List.drop_nil, x_pan, s_pan, b_pan, pE_ret, pE_pan, pE_none, pE_ite, pvE_some, pvE_none, pvE_ite, rv_some, rv_none, rv_ite, oR_ret, t_mv, t_pick, t_alloc, t_box, t_build, t_buildS, t_load, t_store, t_nilck, t_bin, t_eqb, t_eqA, t_eqp, t_un, t_conv, t_field, t_idxA, t_faddr, t_iaddrS, t_iaddrA, t_ext, t_len, t_mm, t_call, t_ifc, t_fn, t_slc, t_slcA, t_slcT, t_tass, t_isn, t_mks, t_app, t_pan, panE_i, optE_none, optE_some, bnd_none, bnd_int, slA_none, slA_some, appR_some, appOld_cells, newsV_s, newsV_n, lenS_s, appV_nil, appV_some, mksV_i, sh_c, sh_g, f_pan, endD_ret, dfr_normal, dfr_ret, dfr_pan, restD_normal, callD1, callC1, tassV, isnV, slcV, slcAV, slcTV, slcB, appNew, Option.bind_some, Option.bind_none, d_pan, h_pan, wrH_eq, wrX_cells, wrU_some, upH_nil, upH_cons, lk_upH, effR_some, effR_none, effR_ite, Option.isNone_none, Option.isNone_some, slA_zero, call_yield, e_range, it_func, wy_same, y_call, isLp_self, beg_normal, end_normal, end_ret, end_exit, end_ite, aft_ret, aft_ready, aft_done, aft_exit, setP_cons, setP_nil, sh_r, t_mkmap, t_mlook, t_mupd, t_mdel, mapF_some, lookF_some, setM_some, lookR_t, lookR_n, lookR_f, lookR_fn, lookV, mupdV, mdelV, mkM]
        refine ok_some (.inr ⟨by simp, rfl, rfl, ?_, .inr ⟨rfl, ?_, hne⟩⟩)
        all_goals simp (maxSteps := 10000000) (disch := omega) only [kp.l, kp.t0, kp.t1, kp.t5, lenV_sl, Int.toNat_natCast, bft, btf, gtst, st_len, cond_true, cond_false, Nat.reduceBEq, Nat.reduceLT, decide_true, beq_self_eq_true, if_true, if_false]
    · simp -implicitDefEqProofs (maxSteps := 10000000) (disch := omega) only [T20, L20, hB, hR, hI, kp.l, kp.t0, kp.t1, kp.t5, lenV_sl, Int.toNat_natCast, bft, btf, gtst, st_len, h, show ¬ (i : Int) < (L.length : Int) by omega, hlv, pad, e_skip, e_ops, e_draw, e_fork, shg_n, shg_c, shg_g, shg_r, d_none, d_nil, d_cons, d_ite, h_none, h_nil, h_cons, h_ite, eqS_same, lightV, e_seq, e_cond, e_block, e_exit, e_ret, s_normal, s_ret, s_exit, s_none, s_ite, b_normal, b_ret, b_exit, b_none, b_ite, c_bool, x_none, x_nil, x_cons, x_ite, p_some, p_none, p_ite, pt_some, pt_none, pv_some, pv_none, pv_ite, w_none, w_some, i_bool, i_undef, bt, bf, v_tmp, v_const, v_global, v_func, evs, f_normal, f_ret, f_none, f_ite, r_some, co_some, l_ptr, m_agg, m_one, sh_app, lk_nil, lk_cons, rd_eq, rdO_some, rdO_none, rdN_none, rdL_some, rdL_none, wrB_none, unitR_some, wr_nil, wr_here, wr_skip, k_cells, tk_zero, tk_take, tk_skip, tkC_some, call_func, gt, st, binV, arith, isSh, storeV, all1, idxAV, fieldV, faddrV, iaddrSV, iaddrAV, pickV, convV, unV, eqbV, eqpV, extV, mm2, mmV, nilckV, ress, res1, retV, Value.cells, cond_true, cond_false, Bool.true_or, Bool.false_or, Bool.or_true, Bool.or_false, beq_self_eq_true, if_true, if_false, ite_true, ite_false, decide_true, decide_false, decide_eq_true_eq, reduceIte, Nat.zero_add, Nat.add_zero, and_self, true_and, and_true, List.size_toArray, List.length_cons, List.length_nil, List.append_nil, List.nil_append, Int.toNat_zero, Bool.not_false, Bool.not_true, Bool.not_not, Bool.false_eq_true, Bool.true_eq_false, reduceCtorEq, Int.reduceLT, Int.reduceLE, Int.reduceToNat, Int.reduceAdd, Int.reduceSub, Int.reduceMul, Int.reduceNeg, Nat.reduceMul, Nat.reduceAdd, Nat.reduceSub, Nat.reduceBEq, Nat.reduceEqDiff, Nat.reduceLT, Nat.reduceLeDiff, Int.reduceBEq, Int.reduceEq, Nat.reducePow, Int.reducePow, IntWalk.i64_in, IntKind.bits, eqAV, eqL, leafEq, andO, fillV, buildSV, List.getElem?_toArray, List.getElem?_cons_zero, List.getElem?_cons_succ, List.getElem?_nil, Int.reduceGT, Int.reduceGE, Int.reduceBNe, Bool.true_and, Bool.and_true, Bool.false_and, Bool.and_false, Bool.and_self, IntWalk.u64_in, Int.cast_ofNat_Int, callF1, pad16, pad_0, pad_1, pad_2, pad_3, pad_4, pad_5, pad_6, pad_7, pad_8, pad_9, pad_10, pad_11, pad_12, pad_13, pad_14, pad_15, gc0, gc1, gc2, gc3, gc4, gc5, gc6, gc7, gc8, gc9, gc10, gc11, gc12, gc13, gc14, gc15, gcS, sc0, sc1, sc2, sc3, sc4, sc5, sc6, sc7, sc8, sc9, sc10, sc11, sc12, sc13, sc14, sc15, scS, List.drop_succ_cons, List.drop_nil, x_pan, s_pan, b_pan, pE_ret, pE_pan, pE_none, pE_ite, pvE_some, pvE_none, pvE_ite, rv_some, rv_none, rv_ite, oR_ret, t_mv, t_pick, t_alloc, t_box, t_build, t_buildS, t_load, t_store, t_nilck, t_bin, t_eqb, t_eqA, t_eqp, t_un, t_conv, t_field, t_idxA, t_faddr, t_iaddrS, t_iaddrA, t_ext, t_len, t_mm, t_call, t_ifc, t_fn, t_slc, t_slcA, t_slcT, t_tass, t_isn, t_mks, t_app, t_pan, panE_i, optE_none, optE_some, bnd_none, bnd_int, slA_none, slA_some, appR_some, appOld_cells, newsV_s, newsV_n, lenS_s, appV_nil, appV_some, mksV_i, sh_c, sh_g, f_pan, endD_ret, dfr_normal, dfr_ret, dfr_pan, restD_normal, callD1, callC1, tassV, isnV, slcV, slcAV, slcTV, slcB, appNew, Option.bind_some, Option.bind_none, d_pan, h_pan, wrH_eq, wrX_cells, wrU_some, upH_nil, upH_cons, lk_upH, effR_some, effR_none, effR_ite, Option.isNone_none, Option.isNone_some, slA_zero, call_yield, e_range, it_func, wy_same, y_call, isLp_self, beg_normal, end_normal, end_ret, end_exit, end_ite, aft_ret, aft_ready, aft_done, aft_exit, setP_cons, setP_nil, sh_r, t_mkmap, t_mlook, t_mupd, t_mdel, mapF_some, lookF_some, setM_some, lookR_t, lookR_n, lookR_f, lookR_fn, lookV, mupdV, mdelV, mkM]
      refine ok_some (.inr ⟨by simp, rfl, rfl, ?_, .inl ⟨rfl, ?_⟩⟩)
      · simp -implicitDefEqProofs (maxSteps := 10000000) (disch := omega) only [T20, L20, hB, hR, hI, kp.l, kp.t0, kp.t1, kp.t5, lenV_sl, Int.toNat_natCast, bft, btf, gtst, st_len, pad, e_skip, e_ops, e_draw, e_fork, shg_n, shg_c, shg_g, shg_r, d_none, d_nil, d_cons, d_ite, h_none, h_nil, h_cons, h_ite, eqS_same, lightV, e_seq, e_cond, e_block, e_exit, e_ret, s_normal, s_ret, s_exit, s_none, s_ite, b_normal, b_ret, b_exit, b_none, b_ite, c_bool, x_none, x_nil, x_cons, x_ite, p_some, p_none, p_ite, pt_some, pt_none, pv_some, pv_none, pv_ite, w_none, w_some, i_bool, i_undef, bt, bf, v_tmp, v_const, v_global, v_func, evs, f_normal, f_ret, f_none, f_ite, r_some, co_some, l_ptr, m_agg, m_one, sh_app, lk_nil, lk_cons, rd_eq, rdO_some, rdO_none, rdN_none, rdL_some, rdL_none, wrB_none, unitR_some, wr_nil, wr_here, wr_skip, k_cells, tk_zero, tk_take, tk_skip, tkC_some, call_func, gt, st, binV, arith, isSh, storeV, all1, idxAV, fieldV, faddrV, iaddrSV, iaddrAV, pickV, convV, unV, eqbV, eqpV, extV, mm2, mmV, nilckV, ress, res1, retV, Value.cells, cond_true, cond_false, Bool.true_or, Bool.false_or, Bool.or_true, Bool.or_false, beq_self_eq_true, if_true, if_false, ite_true, ite_false, decide_true, decide_false, decide_eq_true_eq, reduceIte, Nat.zero_add, Nat.add_zero, and_self, true_and, and_true, List.size_toArray, List.length_cons, List.length_nil, List.append_nil, List.nil_append, Int.toNat_zero, Bool.not_false, Bool.not_true, Bool.not_not, Bool.false_eq_true, Bool.true_eq_false, reduceCtorEq, Int.reduceLT, Int.reduceLE, Int.reduceToNat, Int.reduceAdd, Int.reduceSub, Int.reduceMul, Int.reduceNeg, Nat.reduceMul, Nat.reduceAdd, Nat.reduceSub, Nat.reduceBEq, Nat.reduceEqDiff, Nat.reduceLT, Nat.reduceLeDiff, Int.reduceBEq, Int.reduceEq, Nat.reducePow, Int.reducePow, IntWalk.i64_in, IntKind.bits, eqAV, eqL, leafEq, andO, fillV, buildSV, List.getElem?_toArray, List.getElem?_cons_zero, List.getElem?_cons_succ, List.getElem?_nil, Int.reduceGT, Int.reduceGE, Int.reduceBNe, Bool.true_and, Bool.and_true, Bool.false_and, Bool.and_false, Bool.and_self, IntWalk.u64_in, Int.cast_ofNat_Int, callF1, pad16, pad_0, pad_1, pad_2, pad_3, pad_4, pad_5, pad_6, pad_7, pad_8, pad_9, pad_10, pad_11, pad_12, pad_13, pad_14, pad_15, gc0, gc1, gc2, gc3, gc4, gc5, gc6, gc7, gc8, gc9, gc10, gc11, gc12, gc13, gc14, gc15, gcS, sc0, sc1, sc2, sc3, sc4, sc5, sc6, sc7, sc8, sc9, sc10, sc11, sc12, sc13, sc14, sc15, scS, List.drop_succ_cons, List.drop_nil, x_pan, s_pan, b_pan, pE_ret, pE_pan, pE_none, pE_ite, pvE_some, pvE_none, pvE_ite, rv_some, rv_none, rv_ite, oR_ret, t_mv, t_pick, t_alloc, t_box, t_build, t_buildS, t_load, t_store, t_nilck, t_bin, t_eqb, t_eqA, t_eqp, t_un, t_conv, t_field, t_idxA, t_faddr, t_iaddrS, t_iaddrA, t_ext, t_len, t_mm, t_call, t_ifc, t_fn, t_slc, t_slcA, t_slcT, t_tass, t_isn, t_mks, t_app, t_pan, panE_i, optE_none, optE_some, bnd_none, bnd_int, slA_none, slA_some, appR_some, appOld_cells, newsV_s, newsV_n, lenS_s, appV_nil, appV_some, mksV_i, sh_c, sh_g, f_pan, endD_ret, dfr_normal, dfr_ret, dfr_pan, restD_normal, callD1, callC1, tassV, isnV, slcV, slcAV, slcTV, slcB, appNew, Option.bind_some, Option.bind_none, d_pan, h_pan, wrH_eq, wrX_cells, wrU_some, upH_nil, upH_cons, lk_upH, effR_some, effR_none, effR_ite, Option.isNone_none, Option.isNone_some, slA_zero, call_yield, e_range, it_func, wy_same, y_call, isLp_self, beg_normal, end_normal, end_ret, end_exit, end_ite, aft_ret, aft_ready, aft_done, aft_exit, setP_cons, setP_nil, sh_r, t_mkmap, t_mlook, t_mupd, t_mdel, mapF_some, lookF_some, setM_some, lookR_t, lookR_n, lookR_f, lookR_fn, lookV, mupdV, mdelV, mkM]
      · refine List.ext_getElem? fun q => ?_
        rcases Nat.lt_or_ge q i with h1 | h1
        · rw [some_getD (d := 0) (by omega : q < L.length), some_getD (d := 0) (by omega : q < M.length), hq q h1]
        · rw [List.getElem?_eq_none (by omega), List.getElem?_eq_none (by omega)]
  obtain ⟨x, ⟨ts, H1, N1⟩, rfl, rfl, rfl, hl2, hr⟩ := hO
  simp only at hl2
  rcases hr with ⟨rfl, he⟩ | ⟨rfl, h4, hne⟩
  · rw [decide_eq_true he]
    simp -implicitDefEqProofs (maxSteps := 10000000) (disch := omega) only [T20, L20, hB, hR, hI, hl2, lenV_sl, Int.toNat_natCast, bft, btf, gtst, st_len, pad, e_skip, e_ops, e_draw, e_fork, shg_n, shg_c, shg_g, shg_r, d_none, d_nil, d_cons, d_ite, h_none, h_nil, h_cons, h_ite, eqS_same, lightV, e_seq, e_cond, e_block, e_exit, e_ret, s_normal, s_ret, s_exit, s_none, s_ite, b_normal, b_ret, b_exit, b_none, b_ite, c_bool, x_none, x_nil, x_cons, x_ite, p_some, p_none, p_ite, pt_some, pt_none, pv_some, pv_none, pv_ite, w_none, w_some, i_bool, i_undef, bt, bf, v_tmp, v_const, v_global, v_func, evs, f_normal, f_ret, f_none, f_ite, r_some, co_some, l_ptr, m_agg, m_one, sh_app, lk_nil, lk_cons, rd_eq, rdO_some, rdO_none, rdN_none, rdL_some, rdL_none, wrB_none, unitR_some, wr_nil, wr_here, wr_skip, k_cells, tk_zero, tk_take, tk_skip, tkC_some, call_func, gt, st, binV, arith, isSh, storeV, all1, idxAV, fieldV, faddrV, iaddrSV, iaddrAV, pickV, convV, unV, eqbV, eqpV, extV, mm2, mmV, nilckV, ress, res1, retV, Value.cells, cond_true, cond_false, Bool.true_or, Bool.false_or, Bool.or_true, Bool.or_false, beq_self_eq_true, if_true, if_false, ite_true, ite_false, decide_true, decide_false, decide_eq_true_eq, reduceIte, Nat.zero_add, Nat.add_zero, and_self, true_and, and_true, List.size_toArray, List.length_cons, List.length_nil, List.append_nil, List.nil_append, Int.toNat_zero, Bool.not_false, Bool.not_true, Bool.not_not, Bool.false_eq_true, Bool.true_eq_false, reduceCtorEq, Int.reduceLT, Int.reduceLE, Int.reduceToNat, Int.reduceAdd, Int.reduceSub, Int.reduceMul, Int.reduceNeg, Nat.reduceMul, Nat.reduceAdd, Nat.reduceSub, Nat.reduceBEq, Nat.reduceEqDiff, Nat.reduceLT, Nat.reduceLeDiff, Int.reduceBEq, Int.reduceEq, Nat.reducePow, Int.reducePow, IntWalk.i64_in, IntKind.bits, eqAV, eqL, leafEq, andO, fillV, buildSV, List.getElem?_toArray, List.getElem?_cons_zero, List.getElem?_cons_succ, List.getElem?_nil, Int.reduceGT, Int.reduceGE, Int.reduceBNe, Bool.true_and, Bool.and_true, Bool.false_and, Bool.and_false, Bool.and_self, IntWalk.u64_in, Int.cast_ofNat_Int, callF1, pad16, pad_0, pad_1, pad_2, pad_3, pad_4, pad_5, pad_6, pad_7, pad_8, pad_9, pad_10, pad_11, pad_12, pad_13, pad_14, pad_15, gc0, gc1, gc2, gc3, gc4, gc5, gc6, gc7, gc8, gc9, gc10, gc11, gc12, gc13, gc14, gc15, gcS, sc0, sc1, sc2, sc3, sc4, sc5, sc6, sc7, sc8, sc9, sc10, sc11, sc12, sc13, sc14, sc15, scS, List.drop_succ_cons, List.drop_nil, x_pan, s_pan, b_pan, pE_ret, pE_pan, pE_none, pE_ite, pvE_some, pvE_none, pvE_ite, rv_some, rv_none, rv_ite, oR_ret, t_mv, t_pick, t_alloc, t_box, t_build, t_buildS, t_load, t_store, t_nilck, t_bin, t_eqb, t_eqA, t_eqp, t_un, t_conv, t_field, t_idxA, t_faddr, t_iaddrS, t_iaddrA, t_ext, t_len, t_mm, t_call, t_ifc, t_fn, t_slc, t_slcA, t_slcT, t_tass, t_isn, t_mks, t_app, t_pan, panE_i, optE_none, optE_some, bnd_none, bnd_int, slA_none, slA_some, appR_some, appOld_cells, newsV_s, newsV_n, lenS_s, appV_nil, appV_some, mksV_i, sh_c, sh_g, f_pan, endD_ret, dfr_normal, dfr_ret, dfr_pan, restD_normal, callD1, callC1, tassV, isnV, slcV, slcAV, slcTV, slcB, appNew, Option.bind_some, Option.bind_none, d_pan, h_pan, wrH_eq, wrX_cells, wrU_some, upH_nil, upH_cons, lk_upH, effR_some, effR_none, effR_ite, Option.isNone_none, Option.isNone_some, slA_zero, call_yield, e_range, it_func, wy_same, y_call, isLp_self, beg_normal, end_normal, end_ret, end_exit, end_ite, aft_ret, aft_ready, aft_done, aft_exit, setP_cons, setP_nil, sh_r, t_mkmap, t_mlook, t_mupd, t_mdel, mapF_some, lookF_some, setM_some, lookR_t, lookR_n, lookR_f, lookR_fn, lookV, mupdV, mdelV, mkM]
  · rw [decide_eq_false hne]
    simp only at h4
    simp -implicitDefEqProofs (maxSteps := 10000000) (disch := omega) only [T20, L20, hB, hR, hI, hl2, h4, lenV_sl, Int.toNat_natCast, bft, btf, gtst, st_len, pad, e_skip, e_ops, e_draw, e_fork, shg_n, shg_c, shg_g, shg_r, d_none, d_nil, d_cons, d_ite, h_none, h_nil, h_cons, h_ite, eqS_same, lightV, e_seq, e_cond, e_block, e_exit, e_ret, s_normal, s_ret, s_exit, s_none, s_ite, b_normal, b_ret, b_exit, b_none, b_ite, c_bool, x_none, x_nil, x_cons, x_ite, p_some, p_none, p_ite, pt_some, pt_none, pv_some, pv_none, pv_ite, w_none, w_some, i_bool, i_undef, bt, bf, v_tmp, v_const, v_global, v_func, evs, f_normal, f_ret, f_none, f_ite, r_some, co_some, l_ptr, m_agg, m_one, sh_app, lk_nil, lk_cons, rd_eq, rdO_some, rdO_none, rdN_none, rdL_some, rdL_none, wrB_none, unitR_some, wr_nil, wr_here, wr_skip, k_cells, tk_zero, tk_take, tk_skip, tkC_some, call_func, gt, st, binV, arith, isSh, storeV, all1, idxAV, fieldV, faddrV, iaddrSV, iaddrAV, pickV, convV, unV, eqbV, eqpV, extV, mm2, mmV, nilckV, ress, res1, retV, Value.cells, cond_true, cond_false, Bool.true_or, Bool.false_or, Bool.or_true, Bool.or_false, beq_self_eq_true, if_true, if_false, ite_true, ite_false, decide_true, decide_false, decide_eq_true_eq, reduceIte, Nat.zero_add, Nat.add_zero, and_self, true_and, and_true, List.size_toArray, List.length_cons, List.length_nil, List.append_nil, List.nil_append, Int.toNat_zero, Bool.not_false, Bool.not_true, Bool.not_not, Bool.false_eq_true, Bool.true_eq_false, reduceCtorEq, Int.reduceLT, Int.reduceLE, Int.reduceToNat, Int.reduceAdd, Int.reduceSub, Int.reduceMul, Int.reduceNeg, Nat.reduceMul, Nat.reduceAdd, Nat.reduceSub, Nat.reduceBEq, Nat.reduceEqDiff, Nat.reduceLT, Nat.reduceLeDiff, Int.reduceBEq, Int.reduceEq, Nat.reducePow, Int.reducePow, IntWalk.i64_in, IntKind.bits, eqAV, eqL, leafEq, andO, fillV, buildSV, List.getElem?_toArray, List.getElem?_cons_zero, List.getElem?_cons_succ, List.getElem?_nil, Int.reduceGT, Int.reduceGE, Int.reduceBNe, Bool.true_and, Bool.and_true, Bool.false_and, Bool.and_false, Bool.and_self, IntWalk.u64_in, Int.cast_ofNat_Int, callF1, pad16, pad_0, pad_1, pad_2, pad_3, pad_4, pad_5, pad_6, pad_7, pad_8, pad_9, pad_10, pad_11, pad_12, pad_13, pad_14, pad_15, gc0, gc1, gc2, gc3, gc4, gc5, gc6, gc7, gc8, gc9, gc10, gc11, gc12, gc13, gc14, gc15, gcS, sc0, sc1, sc2, sc3, sc4, sc5, sc6, sc7, sc8, sc9, sc10, sc11, sc12, sc13, sc14, sc15, scS, List.drop_succ_cons, List.drop_nil, x_pan, s_pan, b_pan, pE_ret, pE_pan, pE_none, pE_ite, pvE_some, pvE_none, pvE_ite, rv_some, rv_none, rv_ite, oR_ret, t_mv, t_pick, t_alloc, t_box, t_build, t_buildS, t_load, t_store, t_nilck, t_bin, t_eqb, t_eqA, t_eqp, t_un, t_conv, t_field, t_idxA, t_faddr, t_iaddrS, t_iaddrA, t_ext, t_len, t_mm, t_call, t_ifc, t_fn, t_slc, t_slcA, t_slcT, t_tass, t_isn, t_mks, t_app, t_pan, panE_i, optE_none, optE_some, bnd_none, bnd_int, slA_none, slA_some, appR_some, appOld_cells, newsV_s, newsV_n, lenS_s, appV_nil, appV_some, mksV_i, sh_c, sh_g, f_pan, endD_ret, dfr_normal, dfr_ret, dfr_pan, restD_normal, callD1, callC1, tassV, isnV, slcV, slcAV, slcTV, slcB, appNew, Option.bind_some, Option.bind_none, d_pan, h_pan, wrH_eq, wrX_cells, wrU_some, upH_nil, upH_cons, lk_upH, effR_some, effR_none, effR_ite, Option.isNone_none, Option.isNone_some, slA_zero, call_yield, e_range, it_func, wy_same, y_call, isLp_self, beg_normal, end_normal, end_ret, end_exit, end_ite, aft_ret, aft_ready, aft_done, aft_exit, setP_cons, setP_nil, sh_r, t_mkmap, t_mlook, t_mupd, t_mdel, mapF_some, lookF_some, setM_some, lookR_t, lookR_n, lookR_f, lookR_fn, lookV, mupdV, mdelV, mkM]
/-- whitewash/whitewashref08.Links -/
def L12 : FnL := ⟨(.seq (.ops [⟨(some 4), .mv (.const (.bool false)), none⟩])
 (.seq (.seq (.ops [⟨(some 6), .mv (.tmp 0), none⟩, ⟨(some 7), .len false (.tmp 6), none⟩, ⟨(some 8), .mv (.tmp 1), none⟩, ⟨(some 9), .len false (.tmp 8), none⟩, ⟨(some 10), .bin .neq (.tmp 7) (.tmp 9), none⟩])
 (.cond (.tmp 10) (.seq (.ops [⟨(some 4), .mv (.const (.bool false)), none⟩])
 .ret)
 .skip))
 (.seq (.seq (.ops [⟨(some 5), .mv (.const (.int .i64 0)), none⟩])
 (.block 0 (.loop (.seq (.seq (.ops [⟨(some 11), .mv (.tmp 5), none⟩, ⟨(some 12), .mv (.tmp 0), none⟩, ⟨(some 13), .len false (.tmp 12), none⟩, ⟨(some 14), .bin .lss (.tmp 11) (.tmp 13), none⟩])
 (.cond (.tmp 14) .skip
 (.exit 0)))
 (.seq (.block 1 (.seq (.draw [⟨⟨(some 17), .mv (.tmp 0), none⟩, []⟩, ⟨⟨(some 18), .mv (.tmp 5), none⟩, []⟩, ⟨⟨(some 19), .iaddrS 2 (.tmp 17) (.tmp 18), none⟩, []⟩, ⟨⟨(some 20), .load true 2 (.tmp 19), none⟩, []⟩, ⟨⟨(some 21), .mv (.tmp 1), none⟩, []⟩, ⟨⟨(some 22), .mv (.tmp 5), none⟩, []⟩, ⟨⟨(some 23), .iaddrS 2 (.tmp 21) (.tmp 22), none⟩, []⟩, ⟨⟨(some 24), .load true 2 (.tmp 23), none⟩, []⟩, ⟨⟨(some 25), .eqA true [.int, .int] (.tmp 20) (.tmp 24), none⟩, []⟩])
 (.cond (.tmp 25) (.seq (.ops [⟨(some 4), .mv (.const (.bool false)), none⟩])
 .ret)
 .skip)))
 (.ops [⟨(some 15), .mv (.tmp 5), none⟩, ⟨(some 16), .bin .add (.tmp 15) (.const (.int .i64 1)), none⟩, ⟨(some 5), .mv (.tmp 16), none⟩]))))))
 (.seq (.ops [⟨(some 4), .mv (.const (.bool true)), none⟩])
 .ret)))),
 26, [.tmp 4]⟩
theorem low12 : lowerFn Tryd.prog Tryd.f12 = some L12 := by kernel_rfl
noncomputable def G12 (B : OH) : Nat → Cs
  | _ => fun _ _ _ => none
theorem sG12 {w0 : World} {B : OH} : SoundG Tryd.prog w0 B { f := G12 B } := .of fun k => by
  unfold G12
  split
  · exact .inl fun _ _ _ => rfl
theorem en12 : Enter Tryd.prog 12 := .of Tryd.func12 (by kernel_rfl) (by kernel_rfl)
noncomputable def T12 (B : OH) : Cs := callF B { f := G12 B } 1300 L12
theorem sT12 {w0 : World} {B : OH} : SoundC Tryd.prog w0 B 12 (T12 B) := callF_sound mixedOrders sG12 1300 Tryd.func12 low12
noncomputable def V12 (B : OH) : Cs := T12 B
theorem sV12 {w0 : World} {B : OH} : SoundC Tryd.prog w0 B 12 (V12 B) := sT12
structure K12 (v w : Value) (n i : Nat) (ts : List Value) : Prop where
  l : ts.length = 26
  t0 : gt ts 0 = v
  t1 : gt ts 1 = w
  t5 : gt ts 5 = .int .i64 (i : Int)
set_option maxHeartbeats 4000000 in
theorem same12 {B : OH} {H : HL} {N : St} {v w : Value} {L M : List P2} (hN : good B H N) (hv : SlR p2 2 B H v L) (hw : SlR p2 2 B H w M) (hL : L.length ≤ 1200) : V12 B [v, w] H N = some (.ret (.bool (decide (L = M))), H, N) := by
  have hB := good_B hN
  have hR := good_rdB hN
  have hI := beqN hN.1.1
  have hlv := hv.len
  have hlw := hw.len
  unfold V12
  by_cases hl : L.length = M.length
  case neg =>
    have hl' : ((L.length : Int) != (M.length : Int)) = true := by simp; omega
    have hd : decide (L = M) = false := decide_eq_false fun h => hl (by rw [h])
    rw [hd]
    simp -implicitDefEqProofs (maxSteps := 10000000) (disch := omega) only [T12, L12, hB, hR, hI, lenV_sl, Int.toNat_natCast, bft, btf, gtst, st_len, hlv, hlw, hl', pad, e_skip, e_ops, e_draw, e_fork, shg_n, shg_c, shg_g, shg_r, d_none, d_nil, d_cons, d_ite, h_none, h_nil, h_cons, h_ite, eqS_same, lightV, e_seq, e_cond, e_block, e_exit, e_ret, s_normal, s_ret, s_exit, s_none, s_ite, b_normal, b_ret, b_exit, b_none, b_ite, c_bool, x_none, x_nil, x_cons, x_ite, p_some, p_none, p_ite, pt_some, pt_none, pv_some, pv_none, pv_ite, w_none, w_some, i_bool, i_undef, bt, bf, v_tmp, v_const, v_global, v_func, evs, f_normal, f_ret, f_none, f_ite, r_some, co_some, l_ptr, m_agg, m_one, sh_app, lk_nil, lk_cons, rd_eq, rdO_some, rdO_none, rdN_none, rdL_some, rdL_none, wrB_none, unitR_some, wr_nil, wr_here, wr_skip, k_cells, tk_zero, tk_take, tk_skip, tkC_some, call_func, gt, st, binV, arith, isSh, storeV, all1, idxAV, fieldV, faddrV, iaddrSV, iaddrAV, pickV, convV, unV, eqbV, eqpV, extV, mm2, mmV, nilckV, ress, res1, retV, Value.cells, cond_true, cond_false, Bool.true_or, Bool.false_or, Bool.or_true, Bool.or_false, beq_self_eq_true, if_true, if_false, ite_true, ite_false, decide_true, decide_false, decide_eq_true_eq, reduceIte, Nat.zero_add, Nat.add_zero, and_self, true_and, and_true, List.size_toArray, List.length_cons, List.length_nil, List.append_nil, List.nil_append, Int.toNat_zero, Bool.not_false, Bool.not_true, Bool.not_not, Bool.false_eq_true, Bool.true_eq_false, reduceCtorEq, Int.reduceLT, Int.reduceLE, Int.reduceToNat, Int.reduceAdd, Int.reduceSub, Int.reduceMul, Int.reduceNeg, Nat.reduceMul, Nat.reduceAdd, Nat.reduceSub, Nat.reduceBEq, Nat.reduceEqDiff, Nat.reduceLT, Nat.reduceLeDiff, Int.reduceBEq, Int.reduceEq, Nat.reducePow, Int.reducePow, IntWalk.i64_in, IntKind.bits, eqAV, eqL, leafEq, andO, fillV, buildSV, List.getElem?_toArray, List.getElem?_cons_zero, List.getElem?_cons_succ, List.getElem?_nil, Int.reduceGT, Int.reduceGE, Int.reduceBNe, Bool.true_and, Bool.and_true, Bool.false_and, Bool.and_false, Bool.and_self, IntWalk.u64_in, Int.cast_ofNat_Int, callF1, pad16, pad_0, pad_1, pad_2, pad_3, pad_4, pad_5, pad_6, pad_7, pad_8, pad_9, pad_10, pad_11, pad_12, pad_13, pad_14, pad_15, gc0, gc1, gc2, gc3, gc4, gc5, gc6, gc7, gc8, gc9, gc10, gc11, gc12, gc13, gc14, gc15, gcS, sc0, sc1, sc2, sc3, sc4, sc5, sc6, sc7, sc8, sc9, sc10, sc11, sc12, sc13, sc14, sc15, scS, List.drop_succ_cons, List.drop_nil, x_pan, s_pan, b_pan, pE_ret, pE_pan, pE_none, pE_ite, pvE_some, pvE_none, pvE_ite, rv_some, rv_none, rv_ite, oR_ret, t_mv, t_pick, t_alloc, t_box, t_build, t_buildS, t_load, t_store, t_nilck, t_bin, t_eqb, t_eqA, t_eqp, t_un, t_conv, t_field, t_idxA, t_faddr, t_iaddrS, t_iaddrA, t_ext, t_len, t_mm, t_call, t_ifc, t_fn, t_slc, t_slcA, t_slcT, t_tass, t_isn, t_mks, t_app, t_pan, panE_i, optE_none, optE_some, bnd_none, bnd_int, slA_none, slA_some, appR_some, appOld_cells, newsV_s, newsV_n, lenS_s, appV_nil, appV_some, mksV_i, sh_c, sh_g, f_pan, endD_ret, dfr_normal, dfr_ret, dfr_pan, restD_normal, callD1, callC1, tassV, isnV, slcV, slcAV, slcTV, slcB, appNew, Option.bind_some, Option.bind_none, d_pan, h_pan, wrH_eq, wrX_cells, wrU_some, upH_nil, upH_cons, lk_upH, effR_some, effR_none, effR_ite, Option.isNone_none, Option.isNone_some, slA_zero, call_yield, e_range, it_func, wy_same, y_call, isLp_self, beg_normal, end_normal, end_ret, end_exit, end_ite, aft_ret, aft_ready, aft_done, aft_exit, setP_cons, setP_nil, sh_r, t_mkmap, t_mlook, t_mupd, t_mdel, mapF_some, lookF_some, setM_some, lookR_t, lookR_n, lookR_f, lookR_fn, lookV, mupdV, mdelV, mkM]
  have hl' : ((L.length : Int) != (M.length : Int)) = false := by simp; omega
  simp -implicitDefEqProofs (maxSteps := 10000000) (disch := omega) only [T12, L12, hB, hR, hI, lenV_sl, Int.toNat_natCast, bft, btf, gtst, st_len, hlv, hlw, hl', pad, e_skip, e_ops, e_draw, e_fork, shg_n, shg_c, shg_g, shg_r, d_none, d_nil, d_cons, d_ite, h_none, h_nil, h_cons, h_ite, eqS_same, lightV, e_seq, e_cond, e_block, e_exit, e_ret, s_normal, s_ret, s_exit, s_none, s_ite, b_normal, b_ret, b_exit, b_none, b_ite, c_bool, x_none, x_nil, x_cons, x_ite, p_some, p_none, p_ite, pt_some, pt_none, pv_some, pv_none, pv_ite, w_none, w_some, i_bool, i_undef, bt, bf, v_tmp, v_const, v_global, v_func, evs, f_normal, f_ret, f_none, f_ite, r_some, co_some, l_ptr, m_agg, m_one, sh_app, lk_nil, lk_cons, rd_eq, rdO_some, rdO_none, rdN_none, rdL_some, rdL_none, wrB_none, unitR_some, wr_nil, wr_here, wr_skip, k_cells, tk_zero, tk_take, tk_skip, tkC_some, call_func, gt, st, binV, arith, isSh, storeV, all1, idxAV, fieldV, faddrV, iaddrSV, iaddrAV, pickV, convV, unV, eqbV, eqpV, extV, mm2, mmV, nilckV, ress, res1, retV, Value.cells, cond_true, cond_false, Bool.true_or, Bool.false_or, Bool.or_true, Bool.or_false, beq_self_eq_true, if_true, if_false, ite_true, ite_false, decide_true, decide_false, decide_eq_true_eq, reduceIte, Nat.zero_add, Nat.add_zero, and_self, true_and, and_true, List.size_toArray, List.length_cons, List.length_nil, List.append_nil, List.nil_append, Int.toNat_zero, Bool.not_false, Bool.not_true, Bool.not_not, Bool.false_eq_true, Bool.true_eq_false, reduceCtorEq, Int.reduceLT, Int.reduceLE, Int.reduceToNat, Int.reduceAdd, Int.reduceSub, Int.reduceMul, Int.reduceNeg, Nat.reduceMul, Nat.reduceAdd, Nat.reduceSub, Nat.reduceBEq, Nat.reduceEqDiff, Nat.reduceLT, Nat.reduceLeDiff, Int.reduceBEq, Int.reduceEq, Nat.reducePow, Int.reducePow, IntWalk.i64_in, IntKind.bits, eqAV, eqL, leafEq, andO, fillV, buildSV, List.getElem?_toArray, List.getElem?_cons_zero, List.getElem?_cons_succ, List.getElem?_nil, Int.reduceGT, Int.reduceGE, Int.reduceBNe, Bool.true_and, Bool.and_true, Bool.false_and, Bool.and_false, Bool.and_self, IntWalk.u64_in, Int.cast_ofNat_Int, callF1, pad16, pad_0, pad_1, pad_2, pad_3, pad_4, pad_5, pad_6, pad_7, pad_8, pad_9, pad_10, pad_11, pad_12, pad_13, pad_14, pad_15, gc0, gc1, gc2, gc3, gc4, gc5, gc6, gc7, gc8, gc9, gc10, gc11, gc12, gc13, gc14, gc15, gcS, sc0, sc1, sc2, sc3, sc4, sc5, sc6, sc7, sc8, sc9, sc10, sc11, sc12, sc13, sc14, sc15, scS, List.drop_succ_cons, List.drop_nil, x_pan, s_pan, b_pan, pE_ret, pE_pan, pE_none, pE_ite, pvE_some, pvE_none, pvE_ite, rv_some, rv_none, rv_ite, oR_ret, t_mv, t_pick, t_alloc, t_box, t_build, t_buildS, t_load, t_store, t_nilck, t_bin, t_eqb, t_eqA, t_eqp, t_un, t_conv, t_field, t_idxA, t_faddr, t_iaddrS, t_iaddrA, t_ext, t_len, t_mm, t_call, t_ifc, t_fn, t_slc, t_slcA, t_slcT, t_tass, t_isn, t_mks, t_app, t_pan, panE_i, optE_none, optE_some, bnd_none, bnd_int, slA_none, slA_some, appR_some, appOld_cells, newsV_s, newsV_n, lenS_s, appV_nil, appV_some, mksV_i, sh_c, sh_g, f_pan, endD_ret, dfr_normal, dfr_ret, dfr_pan, restD_normal, callD1, callC1, tassV, isnV, slcV, slcAV, slcTV, slcB, appNew, Option.bind_some, Option.bind_none, d_pan, h_pan, wrH_eq, wrX_cells, wrU_some, upH_nil, upH_cons, lk_upH, effR_some, effR_none, effR_ite, Option.isNone_none, Option.isNone_some, slA_zero, call_yield, e_range, it_func, wy_same, y_call, isLp_self, beg_normal, end_normal, end_ret, end_exit, end_ite, aft_ret, aft_ready, aft_done, aft_exit, setP_cons, setP_nil, sh_r, t_mkmap, t_mlook, t_mupd, t_mdel, mapF_some, lookF_some, setM_some, lookR_t, lookR_n, lookR_f, lookR_fn, lookV, mupdV, mdelV, mkM]
  generalize hX : exec B _ _ (LC.loop _) _ = o
  have hO : Ok o (fun x s => s.H = H ∧ s.N = N ∧ s.t.length = 26 ∧ ((x = .exit 0 ∧ L = M) ∨ (x = .ret ∧ gt s.t 4 = .bool false ∧ L ≠ M))) := by
    rw [← hX]
    refine loop_rule (n0 := 60) (fun k s => ∃ ts, ∃ i : Nat, s = ⟨ts, H, N⟩ ∧ K12 v w L.length i ts ∧ (∀ q, q < i → L.getD q q0 = M.getD q q0) ∧ i ≤ L.length ∧ k = L.length - i) _ ?_ L.length _ ⟨_, 0, rfl, ⟨rfl, rfl, rfl, rfl⟩, fun q hq => by omega, by omega, rfl⟩ _ (by omega)
    rintro n k s ⟨ts, i, rfl, kp, hq, hi, rfl⟩
    have hc1 : ((i + 1 : Nat) : Int) = (i : Int) + 1 := by omega
    by_cases h : i < L.length
    · have h' : (i : Int) < (L.length : Int) := by omega
      have hm' : i < M.length := by omega
      have i0 : (0 : Int) ≤ (i : Int) := by omega
      obtain ⟨bv, ov, cv, rfl, _, rv⟩ := hv.at (by omega)
      obtain ⟨bw, ow, cw, rfl, _, rw'⟩ := hw.at (by omega)
      have rv : rdO H B bv (ov + i * 2) 2 (rdB B bv (ov + i * 2) 2) = some (p2 (L.getD i q0)) := (rv H Fr.refl i 0 2 q0 h (by omega)).trans rfl
      have rw' : rdO H B bw (ow + i * 2) 2 (rdB B bw (ow + i * 2) 2) = some (p2 (M.getD i q0)) := (rw' H Fr.refl i 0 2 q0 hm' (by omega)).trans rfl
      by_cases he : L.getD i q0 = M.getD i q0
      · rw [← he] at rw'
        generalize L.getD i q0 = a at rv rw'
        simp only [p2, Nat.mul_one] at rv rw'
        simp -implicitDefEqProofs (maxSteps := 10000000) (disch := omega) only [T12, L12, hB, hR, hI, kp.l, kp.t0, kp.t1, kp.t5, lenV_sl, Int.toNat_natCast, bft, btf, gtst, st_len, h', h, hm', i0, hlv, hlw, rv, rw', Nat.mul_one, bne_self_eq_false, pad, e_skip, e_ops, e_draw, e_fork, shg_n, shg_c, shg_g, shg_r, d_none, d_nil, d_cons, d_ite, h_none, h_nil, h_cons, h_ite, eqS_same, lightV, e_seq, e_cond, e_block, e_exit, e_ret, s_normal, s_ret, s_exit, s_none, s_ite, b_normal, b_ret, b_exit, b_none, b_ite, c_bool, x_none, x_nil, x_cons, x_ite, p_some, p_none, p_ite, pt_some, pt_none, pv_some, pv_none, pv_ite, w_none, w_some, i_bool, i_undef, bt, bf, v_tmp, v_const, v_global, v_func, evs, f_normal, f_ret, f_none, f_ite, r_some, co_some, l_ptr, m_agg, m_one, sh_app, lk_nil, lk_cons, rd_eq, rdO_some, rdO_none, rdN_none, rdL_some, rdL_none, wrB_none, unitR_some, wr_nil, wr_here, wr_skip, k_cells, tk_zero, tk_take, tk_skip, tkC_some, call_func, gt, st, binV, arith, isSh, storeV, all1, idxAV, fieldV, faddrV, iaddrSV, iaddrAV, pickV, convV, unV, eqbV, eqpV, extV, mm2, mmV, nilckV, ress, res1, retV, Value.cells, cond_true, cond_false, Bool.true_or, Bool.false_or, Bool.or_true, Bool.or_false, beq_self_eq_true, if_true, if_false, ite_true, ite_false, decide_true, decide_false, decide_eq_true_eq, reduceIte, Nat.zero_add, Nat.add_zero, and_self, true_and, and_true, List.size_toArray, List.length_cons, List.length_nil, List.append_nil, List.nil_append, Int.toNat_zero, Bool.not_false, Bool.not_true, Bool.not_not, Bool.false_eq_true, Bool.true_eq_false, reduceCtorEq, Int.reduceLT, Int.reduceLE, Int.reduceToNat, Int.reduceAdd, Int.reduceSub, Int.reduceMul, Int.reduceNeg, Nat.reduceMul, Nat.reduceAdd, Nat.reduceSub, Nat.reduceBEq, Nat.reduceEqDiff, Nat.reduceLT, Nat.reduceLeDiff, Int.reduceBEq, Int.reduceEq, Nat.reducePow, Int.reducePow, IntWalk.i64_in, IntKind.bits, eqAV, eqL, leafEq, andO, fillV, buildSV, List.getElem?_toArray, List.getElem?_cons_zero, List.getElem?_cons_succ, List.getElem?_nil, Int.reduceGT, Int.reduceGE, Int.reduceBNe, Bool.true_and, Bool.and_true, Bool.false_and, Bool.and_false, Bool.and_self, IntWalk.u64_in, Int.cast_ofNat_Int, callF1, pad16, pad_0, pad_1, pad_2, pad_3, pad_4, pad_5, pad_6, pad_7, pad_8, pad_9, pad_10, pad_11, pad_12, pad_13, pad_14, pad_15, gc0, gc1, gc2, gc3, gc4, gc5, gc6, gc7, gc8, gc9, gc10, gc11, gc12, gc13, gc14, gc15, gcS, sc0, sc1, sc2, sc3, sc4, sc5, sc6, sc7, sc8, sc9, sc10, sc11, sc12, sc13, sc14, sc15, scS, List.drop_succ_cons, List.drop_nil, x_pan, s_pan, b_pan, pE_ret, pE_pan, pE_none, pE_ite, pvE_some, pvE_none, pvE_ite, rv_some, rv_none, rv_ite, oR_ret, t_mv, t_pick, t_alloc, t_box, t_build, t_buildS, t_load, t_store, t_nilck, t_bin, t_eqb, t_eqA, t_eqp, t_un, t_conv, t_field, t_idxA, t_faddr, t_iaddrS, t_iaddrA, t_ext, t_len, t_mm, t_call, t_ifc, t_fn, t_slc, t_slcA, t_slcT, t_tass, t_isn, t_mks, t_app, t_pan, panE_i, optE_none, optE_some, bnd_none, bnd_int, slA_none, slA_some, appR_some, appOld_cells, newsV_s, newsV_n, lenS_s, appV_nil, appV_some, mksV_i, sh_c, sh_g, f_pan, endD_ret, dfr_normal, dfr_ret, dfr_pan, restD_normal, callD1, callC1, tassV, isnV, slcV, slcAV, slcTV, slcB, appNew, Option.bind_some, Option.bind_none, d_pan, h_pan, wrH_eq, wrX_cells, wrU_some, upH_nil, upH_cons, lk_upH, effR_some, effR_none, effR_ite, Option.isNone_none, Option.isNone_some, slA_zero, call_yield, e_range, it_func, wy_same, y_call, isLp_self, beg_normal, end_normal, end_ret, end_exit, end_ite, aft_ret, aft_ready, aft_done, aft_exit, setP_cons, setP_nil, sh_r, t_mkmap, t_mlook, t_mupd, t_mdel, mapF_some, lookF_some, setM_some, lookR_t, lookR_n, lookR_f, lookR_fn, lookV, mupdV, mdelV, mkM]
        refine ok_some (.inl ⟨rfl, L.length - (i + 1), by omega, _, i + 1, rfl, ⟨?_, ?_, ?_, ?_⟩, fun q hq' => ?_, by omega, rfl⟩)
        rotate_right
        · rcases Nat.lt_or_ge q i with h1 | h1
          · exact hq q h1
          · obtain rfl : q = i := by omega
            exact he
        all_goals simp (maxSteps := 10000000) (disch := omega) only [kp.l, kp.t0, kp.t1, kp.t5, lenV_sl, Int.toNat_natCast, bft, btf, gtst, st_len, hc1, cond_true, cond_false, Nat.reduceBEq, Nat.reduceLT, decide_true, beq_self_eq_true, if_true, if_false]
      · have hne : L ≠ M := fun e => he (by rw [e])
        generalize L.getD i q0 = a at rv he
        generalize M.getD i q0 = b at rw' he
        have hab : ((a.l == b.l) && (a.r == b.r)) = false := by
          cases a; cases b
          simp only [Bool.and_eq_false_iff, beq_eq_false_iff_ne]
          simp only [P2.mk.injEq, not_and] at he
          exact Classical.byContradiction fun hc => by simp only [not_or, Decidable.not_not] at hc; simp_all
        simp only [p2, Nat.mul_one] at rv rw'
        simp -implicitDefEqProofs (maxSteps := 10000000) (disch := omega) only [T12, L12, hB, hR, hI, kp.l, kp.t0, kp.t1, kp.t5, lenV_sl, Int.toNat_natCast, bft, btf, gtst, st_len, h', h, hm', i0, hlv, hlw, rv, rw', hab, Nat.mul_one, pad, e_skip, e_ops, e_draw, e_fork, shg_n, shg_c, shg_g, shg_r, d_none, d_nil, d_cons, d_ite, h_none, h_nil, h_cons, h_ite, eqS_same, lightV, e_seq, e_cond, e_block, e_exit, e_ret, s_normal, s_ret, s_exit, s_none, s_ite, b_normal, b_ret, b_exit, b_none, b_ite, c_bool, x_none, x_nil, x_cons, x_ite, p_some, p_none, p_ite, pt_some, pt_none, pv_some, pv_none, pv_ite, w_none, w_some, i_bool, i_undef, bt, bf, v_tmp, v_const, v_global, v_func, evs, f_normal, f_ret, f_none, f_ite, r_some, co_some, l_ptr, m_agg, m_one, sh_app, lk_nil, lk_cons, rd_eq, rdO_some, rdO_none, rdN_none, rdL_some, rdL_none, wrB_none, unitR_some, wr_nil, wr_here, wr_skip, k_cells, tk_zero, tk_take, tk_skip, tkC_some, call_func, gt, st, binV, arith, isSh, storeV, all1, idxAV, fieldV, faddrV, iaddrSV, iaddrAV, pickV, convV, unV, eqbV, eqpV, extV, mm2, mmV, nilckV, ress, res1, retV, Value.cells, cond_true, cond_false, Bool.true_or, Bool.false_or, Bool.or_true, Bool.or_false, beq_self_eq_true, if_true, if_false, ite_true, ite_false, decide_true, decide_false, decide_eq_true_eq, reduceIte, Nat.zero_add, Nat.add_zero, and_self, true_and, and_true, List.size_toArray, List.length_cons, List.length_nil, List.append_nil, List.nil_append, Int.toNat_zero, Bool.not_false, Bool.not_true, Bool.not_not, Bool.false_eq_true, Bool.true_eq_false, reduceCtorEq, Int.reduceLT, Int.reduceLE, Int.reduceToNat, Int.reduceAdd, Int.reduceSub, Int.reduceMul, Int.reduceNeg, Nat.reduceMul, Nat.reduceAdd, Nat.reduceSub, Nat.reduceBEq, Nat.reduceEqDiff, Nat.reduceLT, Nat.reduceLeDiff, Int.reduceBEq, Int.reduceEq, Nat.reducePow, Int.reducePow, IntWalk.i64_in, IntKind.bits, eqAV, eqL, leafEq, andO, fillV, buildSV, List.getElem?_toArray, List.getElem?_cons_zero, List.getElem?_cons_succ, List.getElem?_nil, Int.reduceGT, Int.reduceGE, Int.reduceBNe, Bool.true_and, Bool.and_true, Bool.false_and, Bool.and_false, Bool.and_self, IntWalk.u64_in, Int.cast_ofNat_Int, callF1, pad16, pad_0, pad_1, pad_2, pad_3, pad_4, pad_5, pad_6, pad_7, pad_8, pad_9, pad_10, pad_11, pad_12, pad_13, pad_14, pad_15, gc0, gc1, gc2, gc3, gc4, gc5, gc6, gc7, gc8, gc9, gc10, gc11, gc12, gc13, gc14, gc15, gcS, sc0, sc1, sc2, sc3, sc4, sc5, sc6, sc7, sc8, sc9, sc10, sc11, sc12, sc13, sc14, sc15, scS, List.drop_succ_cons, List.drop_nil, x_pan, s_pan, b_pan, pE_ret, pE_pan, pE_none, pE_ite, pvE_some, pvE_none, pvE_ite, rv_some, rv_none, rv_ite, oR_ret, t_mv, t_pick, t_alloc, t_box, t_build, t_buildS, t_load, t_store, t_nilck, t_bin, t_eqb, t_eqA, t_eqp, t_un, t_conv, t_field, t_idxA, t_faddr, t_iaddrS, t_iaddrA, t_ext, t_len, t_mm, t_call, t_ifc, t_fn, t_slc, t_slcA, t_slcT, t_tass, t_isn, t_mks, t_app, t_pan, panE_i, optE_none, optE_some, bnd_none, bnd_int, slA_none, slA_some, appR_some, appOld_cells, newsV_s, newsV_n, lenS_s, appV_nil, appV_some, mksV_i, sh_c, sh_g, f_pan, endD_ret, dfr_normal, dfr_ret, dfr_pan, restD_normal, callD1, callC1, tassV, isnV, slcV, slcAV, slcTV, slcB, appNew, Option.bind_some, Option.bind_none, d_pan, h_pan, wrH_eq, wrX_cells, wrU_some, upH_nil, upH_cons, lk_upH, effR_some, effR_none, effR_ite, Option.isNone_none, Option.isNone_some, slA_zero, call_yield, e_range, it_func, wy_same, y_call, isLp_self, beg_normal, end_normal, end_ret, end_exit, end_ite, aft_ret, aft_ready, aft_done, aft_exit, setP_cons, setP_nil, sh_r, t_mkmap, t_mlook, t_mupd, t_mdel, mapF_some, lookF_some, setM_some, lookR_t, lookR_n, lookR_f, lookR_fn, lookV, mupdV, mdelV, mkM]
        refine ok_some (.inr ⟨by simp, rfl, rfl, ?_, .inr ⟨rfl, ?_, hne⟩⟩)
        all_goals simp (maxSteps := 10000000) (disch := omega) only [kp.l, kp.t0, kp.t1, kp.t5, lenV_sl, Int.toNat_natCast, bft, btf, gtst, st_len, cond_true, cond_false, Nat.reduceBEq, Nat.reduceLT, decide_true, beq_self_eq_true, if_true, if_false]
    · simp -implicitDefEqProofs (maxSteps := 10000000) (disch := omega) only [T12, L12, hB, hR, hI, kp.l, kp.t0, kp.t1, kp.t5, lenV_sl, Int.toNat_natCast, bft, btf, gtst, st_len, h, show ¬ (i : Int) < (L.length : Int) by omega, hlv, pad, e_skip, e_ops, e_draw, e_fork, shg_n, shg_c, shg_g, shg_r, d_none, d_nil, d_cons, d_ite, h_none, h_nil, h_cons, h_ite, eqS_same, lightV, e_seq, e_cond, e_block, e_exit, e_ret, s_normal, s_ret, s_exit, s_none, s_ite, b_normal, b_ret, b_exit, b_none, b_ite, c_bool, x_none, x_nil, x_cons, x_ite, p_some, p_none, p_ite, pt_some, pt_none, pv_some, pv_none, pv_ite, w_none, w_some, i_bool, i_undef, bt, bf, v_tmp, v_const, v_global, v_func, evs, f_normal, f_ret, f_none, f_ite, r_some, co_some, l_ptr, m_agg, m_one, sh_app, lk_nil, lk_cons, rd_eq, rdO_some, rdO_none, rdN_none, rdL_some, rdL_none, wrB_none, unitR_some, wr_nil, wr_here, wr_skip, k_cells, tk_zero, tk_take, tk_skip, tkC_some, call_func, gt, st, binV, arith, isSh, storeV, all1, idxAV, fieldV, faddrV, iaddrSV, iaddrAV, pickV, convV, unV, eqbV, eqpV, extV, mm2, mmV, nilckV, ress, res1, retV, Value.cells, cond_true, cond_false, Bool.true_or, Bool.false_or, Bool.or_true, Bool.or_false, beq_self_eq_true, if_true, if_false, ite_true, ite_false, decide_true, decide_false, decide_eq_true_eq, reduceIte, Nat.zero_add, Nat.add_zero, and_self, true_and, and_true, List.size_toArray, List.length_cons, List.length_nil, List.append_nil, List.nil_append, Int.toNat_zero, Bool.not_false, Bool.not_true, Bool.not_not, Bool.false_eq_true, Bool.true_eq_false, reduceCtorEq, Int.reduceLT, Int.reduceLE, Int.reduceToNat, Int.reduceAdd, Int.reduceSub, Int.reduceMul, Int.reduceNeg, Nat.reduceMul, Nat.reduceAdd, Nat.reduceSub, Nat.reduceBEq, Nat.reduceEqDiff, Nat.reduceLT, Nat.reduceLeDiff, Int.reduceBEq, Int.reduceEq, Nat.reducePow, Int.reducePow, IntWalk.i64_in, IntKind.bits, eqAV, eqL, leafEq, andO, fillV, buildSV, List.getElem?_toArray, List.getElem?_cons_zero, List.getElem?_cons_succ, List.getElem?_nil, Int.reduceGT, Int.reduceGE, Int.reduceBNe, Bool.true_and, Bool.and_true, Bool.false_and, Bool.and_false, Bool.and_self, IntWalk.u64_in, Int.cast_ofNat_Int, callF1, pad16, pad_0, pad_1, pad_2, pad_3, pad_4, pad_5, pad_6, pad_7, pad_8, pad_9, pad_10, pad_11, pad_12, pad_13, pad_14, pad_15, gc0, gc1, gc2, gc3, gc4, gc5, gc6, gc7, gc8, gc9, gc10, gc11, gc12, gc13, gc14, gc15, gcS, sc0, sc1, sc2, sc3, sc4, sc5, sc6, sc7, sc8, sc9, sc10, sc11, sc12, sc13, sc14, sc15, scS, List.drop_succ_cons, List.drop_nil, x_pan, s_pan, b_pan, pE_ret, pE_pan, pE_none, pE_ite, pvE_some, pvE_none, pvE_ite, rv_some, rv_none, rv_ite, oR_ret, t_mv, t_pick, t_alloc, t_box, t_build, t_buildS, t_load, t_store, t_nilck, t_bin, t_eqb, t_eqA, t_eqp, t_un, t_conv, t_field, t_idxA, t_faddr, t_iaddrS, t_iaddrA, t_ext, t_len, t_mm, t_call, t_ifc, t_fn, t_slc, t_slcA, t_slcT, t_tass, t_isn, t_mks, t_app, t_pan, panE_i, optE_none, optE_some, bnd_none, bnd_int, slA_none, slA_some, appR_some, appOld_cells, newsV_s, newsV_n, lenS_s, appV_nil, appV_some, mksV_i, sh_c, sh_g, f_pan, endD_ret, dfr_normal, dfr_ret, dfr_pan, restD_normal, callD1, callC1, tassV, isnV, slcV, slcAV, slcTV, slcB, appNew, Option.bind_some, Option.bind_none, d_pan, h_pan, wrH_eq, wrX_cells, wrU_some, upH_nil, upH_cons, lk_upH, effR_some, effR_none, effR_ite, Option.isNone_none, Option.isNone_some, slA_zero, call_yield, e_range, it_func, wy_same, y_call, isLp_self, beg_normal, end_normal, end_ret, end_exit, end_ite, aft_ret, aft_ready, aft_done, aft_exit, setP_cons, setP_nil, sh_r, t_mkmap, t_mlook, t_mupd, t_mdel, mapF_some, lookF_some, setM_some, lookR_t, lookR_n, lookR_f, lookR_fn, lookV, mupdV, mdelV, mkM]
      refine ok_some (.inr ⟨by simp, rfl, rfl, ?_, .inl ⟨rfl, ?_⟩⟩)
      · simp -implicitDefEqProofs (maxSteps := 10000000) (disch := omega) only [T12, L12, hB, hR, hI, kp.l, kp.t0, kp.t1, kp.t5, lenV_sl, Int.toNat_natCast, bft, btf, gtst, st_len, pad, e_skip, e_ops, e_draw, e_fork, shg_n, shg_c, shg_g, shg_r, d_none, d_nil, d_cons, d_ite, h_none, h_nil, h_cons, h_ite, eqS_same, lightV, e_seq, e_cond, e_block, e_exit, e_ret, s_normal, s_ret, s_exit, s_none, s_ite, b_normal, b_ret, b_exit, b_none, b_ite, c_bool, x_none, x_nil, x_cons, x_ite, p_some, p_none, p_ite, pt_some, pt_none, pv_some, pv_none, pv_ite, w_none, w_some, i_bool, i_undef, bt, bf, v_tmp, v_const, v_global, v_func, evs, f_normal, f_ret, f_none, f_ite, r_some, co_some, l_ptr, m_agg, m_one, sh_app, lk_nil, lk_cons, rd_eq, rdO_some, rdO_none, rdN_none, rdL_some, rdL_none, wrB_none, unitR_some, wr_nil, wr_here, wr_skip, k_cells, tk_zero, tk_take, tk_skip, tkC_some, call_func, gt, st, binV, arith, isSh, storeV, all1, idxAV, fieldV, faddrV, iaddrSV, iaddrAV, pickV, convV, unV, eqbV, eqpV, extV, mm2, mmV, nilckV, ress, res1, retV, Value.cells, cond_true, cond_false, Bool.true_or, Bool.false_or, Bool.or_true, Bool.or_false, beq_self_eq_true, if_true, if_false, ite_true, ite_false, decide_true, decide_false, decide_eq_true_eq, reduceIte, Nat.zero_add, Nat.add_zero, and_self, true_and, and_true, List.size_toArray, List.length_cons, List.length_nil, List.append_nil, List.nil_append, Int.toNat_zero, Bool.not_false, Bool.not_true, Bool.not_not, Bool.false_eq_true, Bool.true_eq_false, reduceCtorEq, Int.reduceLT, Int.reduceLE, Int.reduceToNat, Int.reduceAdd, Int.reduceSub, Int.reduceMul, Int.reduceNeg, Nat.reduceMul, Nat.reduceAdd, Nat.reduceSub, Nat.reduceBEq, Nat.reduceEqDiff, Nat.reduceLT, Nat.reduceLeDiff, Int.reduceBEq, Int.reduceEq, Nat.reducePow, Int.reducePow, IntWalk.i64_in, IntKind.bits, eqAV, eqL, leafEq, andO, fillV, buildSV, List.getElem?_toArray, List.getElem?_cons_zero, List.getElem?_cons_succ, List.getElem?_nil, Int.reduceGT, Int.reduceGE, Int.reduceBNe, Bool.true_and, Bool.and_true, Bool.false_and, Bool.and_false, Bool.and_self, IntWalk.u64_in, Int.cast_ofNat_Int, callF1, pad16, pad_0, pad_1, pad_2, pad_3, pad_4, pad_5, pad_6, pad_7, pad_8, pad_9, pad_10, pad_11, pad_12, pad_13, pad_14, pad_15, gc0, gc1, gc2, gc3, gc4, gc5, gc6, gc7, gc8, gc9, gc10, gc11, gc12, gc13, gc14, gc15, gcS, sc0, sc1, sc2, sc3, sc4, sc5, sc6, sc7, sc8, sc9, sc10, sc11, sc12, sc13, sc14, sc15, scS, List.drop_succ_cons, List.drop_nil, x_pan, s_pan, b_pan, pE_ret, pE_pan, pE_none, pE_ite, pvE_some, pvE_none, pvE_ite, rv_some, rv_none, rv_ite, oR_ret, t_mv, t_pick, t_alloc, t_box, t_build, t_buildS, t_load, t_store, t_nilck, t_bin, t_eqb, t_eqA, t_eqp, t_un, t_conv, t_field, t_idxA, t_faddr, t_iaddrS, t_iaddrA, t_ext, t_len, t_mm, t_call, t_ifc, t_fn, t_slc, t_slcA, t_slcT, t_tass, t_isn, t_mks, t_app, t_pan, panE_i, optE_none, optE_some, bnd_none, bnd_int, slA_none, slA_some, appR_some, appOld_cells, newsV_s, newsV_n, lenS_s, appV_nil, appV_some, mksV_i, sh_c, sh_g, f_pan, endD_ret, dfr_normal, dfr_ret, dfr_pan, restD_normal, callD1, callC1, tassV, isnV, slcV, slcAV, slcTV, slcB, appNew, Option.bind_some, Option.bind_none, d_pan, h_pan, wrH_eq, wrX_cells, wrU_some, upH_nil, upH_cons, lk_upH, effR_some, effR_none, effR_ite, Option.isNone_none, Option.isNone_some, slA_zero, call_yield, e_range, it_func, wy_same, y_call, isLp_self, beg_normal, end_normal, end_ret, end_exit, end_ite, aft_ret, aft_ready, aft_done, aft_exit, setP_cons, setP_nil, sh_r, t_mkmap, t_mlook, t_mupd, t_mdel, mapF_some, lookF_some, setM_some, lookR_t, lookR_n, lookR_f, lookR_fn, lookV, mupdV, mdelV, mkM]
      · refine List.ext_getElem? fun q => ?_
        rcases Nat.lt_or_ge q i with h1 | h1
        · rw [some_getD (d := q0) (by omega : q < L.length), some_getD (d := q0) (by omega : q < M.length), hq q h1]
        · rw [List.getElem?_eq_none (by omega), List.getElem?_eq_none (by omega)]
  obtain ⟨x, ⟨ts, H1, N1⟩, rfl, rfl, rfl, hl2, hr⟩ := hO
  simp only at hl2
  rcases hr with ⟨rfl, he⟩ | ⟨rfl, h4, hne⟩
  · rw [decide_eq_true he]
    simp -implicitDefEqProofs (maxSteps := 10000000) (disch := omega) only [T12, L12, hB, hR, hI, hl2, lenV_sl, Int.toNat_natCast, bft, btf, gtst, st_len, pad, e_skip, e_ops, e_draw, e_fork, shg_n, shg_c, shg_g, shg_r, d_none, d_nil, d_cons, d_ite, h_none, h_nil, h_cons, h_ite, eqS_same, lightV, e_seq, e_cond, e_block, e_exit, e_ret, s_normal, s_ret, s_exit, s_none, s_ite, b_normal, b_ret, b_exit, b_none, b_ite, c_bool, x_none, x_nil, x_cons, x_ite, p_some, p_none, p_ite, pt_some, pt_none, pv_some, pv_none, pv_ite, w_none, w_some, i_bool, i_undef, bt, bf, v_tmp, v_const, v_global, v_func, evs, f_normal, f_ret, f_none, f_ite, r_some, co_some, l_ptr, m_agg, m_one, sh_app, lk_nil, lk_cons, rd_eq, rdO_some, rdO_none, rdN_none, rdL_some, rdL_none, wrB_none, unitR_some, wr_nil, wr_here, wr_skip, k_cells, tk_zero, tk_take, tk_skip, tkC_some, call_func, gt, st, binV, arith, isSh, storeV, all1, idxAV, fieldV, faddrV, iaddrSV, iaddrAV, pickV, convV, unV, eqbV, eqpV, extV, mm2, mmV, nilckV, ress, res1, retV, Value.cells, cond_true, cond_false, Bool.true_or, Bool.false_or, Bool.or_true, Bool.or_false, beq_self_eq_true, if_true, if_false, ite_true, ite_false, decide_true, decide_false, decide_eq_true_eq, reduceIte, Nat.zero_add, Nat.add_zero, and_self, true_and, and_true, List.size_toArray, List.length_cons, List.length_nil, List.append_nil, List.nil_append, Int.toNat_zero, Bool.not_false, Bool.not_true, Bool.not_not, Bool.false_eq_true, Bool.true_eq_false, reduceCtorEq, Int.reduceLT, Int.reduceLE, Int.reduceToNat, Int.reduceAdd, Int.reduceSub, Int.reduceMul, Int.reduceNeg, Nat.reduceMul, Nat.reduceAdd, Nat.reduceSub, Nat.reduceBEq, Nat.reduceEqDiff, Nat.reduceLT, Nat.reduceLeDiff, Int.reduceBEq, Int.reduceEq, Nat.reducePow, Int.reducePow, IntWalk.i64_in, IntKind.bits, eqAV, eqL, leafEq, andO, fillV, buildSV, List.getElem?_toArray, List.getElem?_cons_zero, List.getElem?_cons_succ, List.getElem?_nil, Int.reduceGT, Int.reduceGE, Int.reduceBNe, Bool.true_and, Bool.and_true, Bool.false_and, Bool.and_false, Bool.and_self, IntWalk.u64_in, Int.cast_ofNat_Int, callF1, pad16, pad_0, pad_1, pad_2, pad_3, pad_4, pad_5, pad_6, pad_7, pad_8, pad_9, pad_10, pad_11, pad_12, pad_13, pad_14, pad_15, gc0, gc1, gc2, gc3, gc4, gc5, gc6, gc7, gc8, gc9, gc10, gc11, gc12, gc13, gc14, gc15, gcS, sc0, sc1, sc2, sc3, sc4, sc5, sc6, sc7, sc8, sc9, sc10, sc11, sc12, sc13, sc14, sc15, scS, List.drop_succ_cons, List.drop_nil, x_pan, s_pan, b_pan, pE_ret, pE_pan, pE_none, pE_ite, pvE_some, pvE_none, pvE_ite, rv_some, rv_none, rv_ite, oR_ret, t_mv, t_pick, t_alloc, t_box, t_build, t_buildS, t_load, t_store, t_nilck, t_bin, t_eqb, t_eqA, t_eqp, t_un, t_conv, t_field, t_idxA, t_faddr, t_iaddrS, t_iaddrA, t_ext, t_len, t_mm, t_call, t_ifc, t_fn, t_slc, t_slcA, t_slcT, t_tass, t_isn, t_mks, t_app, t_pan, panE_i, optE_none, optE_some, bnd_none, bnd_int, slA_none, slA_some, appR_some, appOld_cells, newsV_s, newsV_n, lenS_s, appV_nil, appV_some, mksV_i, sh_c, sh_g, f_pan, endD_ret, dfr_normal, dfr_ret, dfr_pan, restD_normal, callD1, callC1, tassV, isnV, slcV, slcAV, slcTV, slcB, appNew, Option.bind_some, Option.bind_none, d_pan, h_pan, wrH_eq, wrX_cells, wrU_some, upH_nil, upH_cons, lk_upH, effR_some, effR_none, effR_ite, Option.isNone_none, Option.isNone_some, slA_zero, call_yield, e_range, it_func, wy_same, y_call, isLp_self, beg_normal, end_normal, end_ret, end_exit, end_ite, aft_ret, aft_ready, aft_done, aft_exit, setP_cons, setP_nil, sh_r, t_mkmap, t_mlook, t_mupd, t_mdel, mapF_some, lookF_some, setM_some, lookR_t, lookR_n, lookR_f, lookR_fn, lookV, mupdV, mdelV, mkM]
  · rw [decide_eq_false hne]
    simp only at h4
    simp -implicitDefEqProofs (maxSteps := 10000000) (disch := omega) only [T12, L12, hB, hR, hI, hl2, h4, lenV_sl, Int.toNat_natCast, bft, btf, gtst, st_len, pad, e_skip, e_ops, e_draw, e_fork, shg_n, shg_c, shg_g, shg_r, d_none, d_nil, d_cons, d_ite, h_none, h_nil, h_cons, h_ite, eqS_same, lightV, e_seq, e_cond, e_block, e_exit, e_ret, s_normal, s_ret, s_exit, s_none, s_ite, b_normal, b_ret, b_exit, b_none, b_ite, c_bool, x_none, x_nil, x_cons, x_ite, p_some, p_none, p_ite, pt_some, pt_none, pv_some, pv_none, pv_ite, w_none, w_some, i_bool, i_undef, bt, bf, v_tmp, v_const, v_global, v_func, evs, f_normal, f_ret, f_none, f_ite, r_some, co_some, l_ptr, m_agg, m_one, sh_app, lk_nil, lk_cons, rd_eq, rdO_some, rdO_none, rdN_none, rdL_some, rdL_none, wrB_none, unitR_some, wr_nil, wr_here, wr_skip, k_cells, tk_zero, tk_take, tk_skip, tkC_some, call_func, gt, st, binV, arith, isSh, storeV, all1, idxAV, fieldV, faddrV, iaddrSV, iaddrAV, pickV, convV, unV, eqbV, eqpV, extV, mm2, mmV, nilckV, ress, res1, retV, Value.cells, cond_true, cond_false, Bool.true_or, Bool.false_or, Bool.or_true, Bool.or_false, beq_self_eq_true, if_true, if_false, ite_true, ite_false, decide_true, decide_false, decide_eq_true_eq, reduceIte, Nat.zero_add, Nat.add_zero, and_self, true_and, and_true, List.size_toArray, List.length_cons, List.length_nil, List.append_nil, List.nil_append, Int.toNat_zero, Bool.not_false, Bool.not_true, Bool.not_not, Bool.false_eq_true, Bool.true_eq_false, reduceCtorEq, Int.reduceLT, Int.reduceLE, Int.reduceToNat, Int.reduceAdd, Int.reduceSub, Int.reduceMul, Int.reduceNeg, Nat.reduceMul, Nat.reduceAdd, Nat.reduceSub, Nat.reduceBEq, Nat.reduceEqDiff, Nat.reduceLT, Nat.reduceLeDiff, Int.reduceBEq, Int.reduceEq, Nat.reducePow, Int.reducePow, IntWalk.i64_in, IntKind.bits, eqAV, eqL, leafEq, andO, fillV, buildSV, List.getElem?_toArray, List.getElem?_cons_zero, List.getElem?_cons_succ, List.getElem?_nil, Int.reduceGT, Int.reduceGE, Int.reduceBNe, Bool.true_and, Bool.and_true, Bool.false_and, Bool.and_false, Bool.and_self, IntWalk.u64_in, Int.cast_ofNat_Int, callF1, pad16, pad_0, pad_1, pad_2, pad_3, pad_4, pad_5, pad_6, pad_7, pad_8, pad_9, pad_10, pad_11, pad_12, pad_13, pad_14, pad_15, gc0, gc1, gc2, gc3, gc4, gc5, gc6, gc7, gc8, gc9, gc10, gc11, gc12, gc13, gc14, gc15, gcS, sc0, sc1, sc2, sc3, sc4, sc5, sc6, sc7, sc8, sc9, sc10, sc11, sc12, sc13, sc14, sc15, scS, List.drop_succ_cons, List.drop_nil, x_pan, s_pan, b_pan, pE_ret, pE_pan, pE_none, pE_ite, pvE_some, pvE_none, pvE_ite, rv_some, rv_none, rv_ite, oR_ret, t_mv, t_pick, t_alloc, t_box, t_build, t_buildS, t_load, t_store, t_nilck, t_bin, t_eqb, t_eqA, t_eqp, t_un, t_conv, t_field, t_idxA, t_faddr, t_iaddrS, t_iaddrA, t_ext, t_len, t_mm, t_call, t_ifc, t_fn, t_slc, t_slcA, t_slcT, t_tass, t_isn, t_mks, t_app, t_pan, panE_i, optE_none, optE_some, bnd_none, bnd_int, slA_none, slA_some, appR_some, appOld_cells, newsV_s, newsV_n, lenS_s, appV_nil, appV_some, mksV_i, sh_c, sh_g, f_pan, endD_ret, dfr_normal, dfr_ret, dfr_pan, restD_normal, callD1, callC1, tassV, isnV, slcV, slcAV, slcTV, slcB, appNew, Option.bind_some, Option.bind_none, d_pan, h_pan, wrH_eq, wrX_cells, wrU_some, upH_nil, upH_cons, lk_upH, effR_some, effR_none, effR_ite, Option.isNone_none, Option.isNone_some, slA_zero, call_yield, e_range, it_func, wy_same, y_call, isLp_self, beg_normal, end_normal, end_ret, end_exit, end_ite, aft_ret, aft_ready, aft_done, aft_exit, setP_cons, setP_nil, sh_r, t_mkmap, t_mlook, t_mupd, t_mdel, mapF_some, lookF_some, setM_some, lookR_t, lookR_n, lookR_f, lookR_fn, lookV, mupdV, mdelV, mkM]
/-- slices.Equal[[][2]int,[2]int] -/
def L28 : FnL := ⟨(.seq (.ops [⟨(some 4), .mv (.const (.bool false)), none⟩])
 (.seq (.seq (.ops [⟨(some 6), .mv (.tmp 0), none⟩, ⟨(some 7), .len false (.tmp 6), none⟩, ⟨(some 8), .mv (.tmp 1), none⟩, ⟨(some 9), .len false (.tmp 8), none⟩, ⟨(some 10), .bin .neq (.tmp 7) (.tmp 9), none⟩])
 (.cond (.tmp 10) (.seq (.ops [⟨(some 4), .mv (.const (.bool false)), none⟩])
 .ret)
 .skip))
 (.seq (.seq (.ops [⟨(some 11), .mv (.tmp 0), none⟩, ⟨(some 12), .len false (.tmp 11), none⟩, ⟨(some 13), .mv (.const (.int .i64 0)), none⟩])
 (.block 0 (.loop (.seq (.ops [⟨(some 14), .bin .lss (.tmp 13) (.tmp 12), none⟩])
 (.seq (.cond (.tmp 14) .skip
 (.exit 0))
 (.seq (.block 1 (.seq (.ops [⟨(some 15), .mv (.tmp 13), none⟩, ⟨(some 5), .mv (.tmp 15), none⟩])
 (.seq (.draw [⟨⟨(some 16), .mv (.tmp 0), none⟩, []⟩, ⟨⟨(some 17), .mv (.tmp 5), none⟩, []⟩, ⟨⟨(some 18), .iaddrS 2 (.tmp 16) (.tmp 17), none⟩, []⟩, ⟨⟨(some 19), .load true 2 (.tmp 18), none⟩, []⟩, ⟨⟨(some 20), .mv (.tmp 1), none⟩, []⟩, ⟨⟨(some 21), .mv (.tmp 5), none⟩, []⟩, ⟨⟨(some 22), .iaddrS 2 (.tmp 20) (.tmp 21), none⟩, []⟩, ⟨⟨(some 23), .load true 2 (.tmp 22), none⟩, []⟩, ⟨⟨(some 24), .eqA true [.int, .int] (.tmp 19) (.tmp 23), none⟩, []⟩])
 (.cond (.tmp 24) (.seq (.ops [⟨(some 4), .mv (.const (.bool false)), none⟩])
 .ret)
 .skip))))
 (.ops [⟨(some 25), .bin .add (.tmp 13) (.const (.int .i64 1)), none⟩, ⟨(some 13), .mv (.tmp 25), none⟩])))))))
 (.seq (.ops [⟨(some 4), .mv (.const (.bool true)), none⟩])
 .ret)))),
 26, [.tmp 4]⟩
theorem low28 : lowerFn Tryd.prog Tryd.f28 = some L28 := by kernel_rfl
noncomputable def G28 (B : OH) : Nat → Cs
  | _ => fun _ _ _ => none
theorem sG28 {w0 : World} {B : OH} : SoundG Tryd.prog w0 B { f := G28 B } := .of fun k => by
  unfold G28
  split
  · exact .inl fun _ _ _ => rfl
theorem en28 : Enter Tryd.prog 28 := .of Tryd.func28 (by kernel_rfl) (by kernel_rfl)
noncomputable def T28 (B : OH) : Cs := callF B { f := G28 B } 1300 L28
theorem sT28 {w0 : World} {B : OH} : SoundC Tryd.prog w0 B 28 (T28 B) := callF_sound mixedOrders sG28 1300 Tryd.func28 low28
noncomputable def V28 (B : OH) : Cs := T28 B
theorem sV28 {w0 : World} {B : OH} : SoundC Tryd.prog w0 B 28 (V28 B) := sT28
structure K28 (v w : Value) (n i : Nat) (ts : List Value) : Prop where
  l : ts.length = 26
  t0 : gt ts 0 = v
  t1 : gt ts 1 = w
  t11 : gt ts 11 = v
  t12 : gt ts 12 = .int .i64 (n : Int)
  t13 : gt ts 13 = .int .i64 (i : Int)
set_option maxHeartbeats 4000000 in
theorem same28 {B : OH} {H : HL} {N : St} {v w : Value} {L M : List P2} (hN : good B H N) (hv : SlR p2 2 B H v L) (hw : SlR p2 2 B H w M) (hL : L.length ≤ 1200) : V28 B [v, w] H N = some (.ret (.bool (decide (L = M))), H, N) := by
  have hB := good_B hN
  have hR := good_rdB hN
  have hI := beqN hN.1.1
  have hlv := hv.len
  have hlw := hw.len
  unfold V28
  by_cases hl : L.length = M.length
  case neg =>
    have hl' : ((L.length : Int) != (M.length : Int)) = true := by simp; omega
    have hd : decide (L = M) = false := decide_eq_false fun h => hl (by rw [h])
    rw [hd]
    simp -implicitDefEqProofs (maxSteps := 10000000) (disch := omega) only [T28, L28, hB, hR, hI, lenV_sl, Int.toNat_natCast, bft, btf, gtst, st_len, hlv, hlw, hl', pad, e_skip, e_ops, e_draw, e_fork, shg_n, shg_c, shg_g, shg_r, d_none, d_nil, d_cons, d_ite, h_none, h_nil, h_cons, h_ite, eqS_same, lightV, e_seq, e_cond, e_block, e_exit, e_ret, s_normal, s_ret, s_exit, s_none, s_ite, b_normal, b_ret, b_exit, b_none, b_ite, c_bool, x_none, x_nil, x_cons, x_ite, p_some, p_none, p_ite, pt_some, pt_none, pv_some, pv_none, pv_ite, w_none, w_some, i_bool, i_undef, bt, bf, v_tmp, v_const, v_global, v_func, evs, f_normal, f_ret, f_none, f_ite, r_some, co_some, l_ptr, m_agg, m_one, sh_app, lk_nil, lk_cons, rd_eq, rdO_some, rdO_none, rdN_none, rdL_some, rdL_none, wrB_none, unitR_some, wr_nil, wr_here, wr_skip, k_cells, tk_zero, tk_take, tk_skip, tkC_some, call_func, gt, st, binV, arith, isSh, storeV, all1, idxAV, fieldV, faddrV, iaddrSV, iaddrAV, pickV, convV, unV, eqbV, eqpV, extV, mm2, mmV, nilckV, ress, res1, retV, Value.cells, cond_true, cond_false, Bool.true_or, Bool.false_or, Bool.or_true, Bool.or_false, beq_self_eq_true, if_true, if_false, ite_true, ite_false, decide_true, decide_false, decide_eq_true_eq, reduceIte, Nat.zero_add, Nat.add_zero, and_self, true_and, and_true, List.size_toArray, List.length_cons, List.length_nil, List.append_nil, List.nil_append, Int.toNat_zero, Bool.not_false, Bool.not_true, Bool.not_not, Bool.false_eq_true, Bool.true_eq_false, reduceCtorEq, Int.reduceLT, Int.reduceLE, Int.reduceToNat, Int.reduceAdd, Int.reduceSub, Int.reduceMul, Int.reduceNeg, Nat.reduceMul, Nat.reduceAdd, Nat.reduceSub, Nat.reduceBEq, Nat.reduceEqDiff, Nat.reduceLT, Nat.reduceLeDiff, Int.reduceBEq, Int.reduceEq, Nat.reducePow, Int.reducePow, IntWalk.i64_in, IntKind.bits, eqAV, eqL, leafEq, andO, fillV, buildSV, List.getElem?_toArray, List.getElem?_cons_zero, List.getElem?_cons_succ, List.getElem?_nil, Int.reduceGT, Int.reduceGE, Int.reduceBNe, Bool.true_and, Bool.and_true, Bool.false_and, Bool.and_false, Bool.and_self, IntWalk.u64_in, Int.cast_ofNat_Int, callF1, pad16, pad_0, pad_1, pad_2, pad_3, pad_4, pad_5, pad_6, pad_7, pad_8, pad_9, pad_10, pad_11, pad_12, pad_13, pad_14, pad_15, gc0, gc1, gc2, gc3, gc4, gc5, gc6, gc7, gc8, gc9, gc10, gc11, gc12, gc13, gc14, gc15, gcS, sc0, sc1, sc2, sc3, sc4, sc5, sc6, sc7, sc8, sc9, sc10, sc11, sc12, sc13, sc14, sc15, scS, List.drop_succ_cons, List.drop_nil, x_pan, s_pan, b_pan, pE_ret, pE_pan, pE_none, pE_ite, pvE_some, pvE_none, pvE_ite, rv_some, rv_none, rv_ite, oR_ret, t_mv, t_pick, t_alloc, t_box, t_build, t_buildS, t_load, t_store, t_nilck, t_bin, t_eqb, t_eqA, t_eqp, t_un, t_conv, t_field, t_idxA, t_faddr, t_iaddrS, t_iaddrA, t_ext, t_len, t_mm, t_call, t_ifc, t_fn, t_slc, t_slcA, t_slcT, t_tass, t_isn, t_mks, t_app, t_pan, panE_i, optE_none, optE_some, bnd_none, bnd_int, slA_none, slA_some, appR_some, appOld_cells, newsV_s, newsV_n, lenS_s, appV_nil, appV_some, mksV_i, sh_c, sh_g, f_pan, endD_ret, dfr_normal, dfr_ret, dfr_pan, restD_normal, callD1, callC1, tassV, isnV, slcV, slcAV, slcTV, slcB, appNew, Option.bind_some, Option.bind_none, d_pan, h_pan, wrH_eq, wrX_cells, wrU_some, upH_nil, upH_cons, lk_upH, effR_some, effR_none, effR_ite, Option.isNone_none, Option.isNone_some, slA_zero, call_yield, e_range, it_func, wy_same, y_call, isLp_self, beg_normal, end_normal, end_ret, end_exit, end_ite, aft_ret, aft_ready, aft_done, aft_exit, setP_cons, setP_nil, sh_r, t_mkmap, t_mlook, t_mupd, t_mdel, mapF_some, lookF_some, setM_some, lookR_t, lookR_n, lookR_f, lookR_fn, lookV, mupdV, mdelV, mkM]
  have hl' : ((L.length : Int) != (M.length : Int)) = false := by simp; omega
  simp -implicitDefEqProofs (maxSteps := 10000000) (disch := omega) only [T28, L28, hB, hR, hI, lenV_sl, Int.toNat_natCast, bft, btf, gtst, st_len, hlv, hlw, hl', pad, e_skip, e_ops, e_draw, e_fork, shg_n, shg_c, shg_g, shg_r, d_none, d_nil, d_cons, d_ite, h_none, h_nil, h_cons, h_ite, eqS_same, lightV, e_seq, e_cond, e_block, e_exit, e_ret, s_normal, s_ret, s_exit, s_none, s_ite, b_normal, b_ret, b_exit, b_none, b_ite, c_bool, x_none, x_nil, x_cons, x_ite, p_some, p_none, p_ite, pt_some, pt_none, pv_some, pv_none, pv_ite, w_none, w_some, i_bool, i_undef, bt, bf, v_tmp, v_const, v_global, v_func, evs, f_normal, f_ret, f_none, f_ite, r_some, co_some, l_ptr, m_agg, m_one, sh_app, lk_nil, lk_cons, rd_eq, rdO_some, rdO_none, rdN_none, rdL_some, rdL_none, wrB_none, unitR_some, wr_nil, wr_here, wr_skip, k_cells, tk_zero, tk_take, tk_skip, tkC_some, call_func, gt, st, binV, arith, isSh, storeV, all1, idxAV, fieldV, faddrV, iaddrSV, iaddrAV, pickV, convV, unV, eqbV, eqpV, extV, mm2, mmV, nilckV, ress, res1, retV, Value.cells, cond_true, cond_false, Bool.true_or, Bool.false_or, Bool.or_true, Bool.or_false, beq_self_eq_true, if_true, if_false, ite_true, ite_false, decide_true, decide_false, decide_eq_true_eq, reduceIte, Nat.zero_add, Nat.add_zero, and_self, true_and, and_true, List.size_toArray, List.length_cons, List.length_nil, List.append_nil, List.nil_append, Int.toNat_zero, Bool.not_false, Bool.not_true, Bool.not_not, Bool.false_eq_true, Bool.true_eq_false, reduceCtorEq, Int.reduceLT, Int.reduceLE, Int.reduceToNat, Int.reduceAdd, Int.reduceSub, Int.reduceMul, Int.reduceNeg, Nat.reduceMul, Nat.reduceAdd, Nat.reduceSub, Nat.reduceBEq, Nat.reduceEqDiff, Nat.reduceLT, Nat.reduceLeDiff, Int.reduceBEq, Int.reduceEq, Nat.reducePow, Int.reducePow, IntWalk.i64_in, IntKind.bits, eqAV, eqL, leafEq, andO, fillV, buildSV, List.getElem?_toArray, List.getElem?_cons_zero, List.getElem?_cons_succ, List.getElem?_nil, Int.reduceGT, Int.reduceGE, Int.reduceBNe, Bool.true_and, Bool.and_true, Bool.false_and, Bool.and_false, Bool.and_self, IntWalk.u64_in, Int.cast_ofNat_Int, callF1, pad16, pad_0, pad_1, pad_2, pad_3, pad_4, pad_5, pad_6, pad_7, pad_8, pad_9, pad_10, pad_11, pad_12, pad_13, pad_14, pad_15, gc0, gc1, gc2, gc3, gc4, gc5, gc6, gc7, gc8, gc9, gc10, gc11, gc12, gc13, gc14, gc15, gcS, sc0, sc1, sc2, sc3, sc4, sc5, sc6, sc7, sc8, sc9, sc10, sc11, sc12, sc13, sc14, sc15, scS, List.drop_succ_cons, List.drop_nil, x_pan, s_pan, b_pan, pE_ret, pE_pan, pE_none, pE_ite, pvE_some, pvE_none, pvE_ite, rv_some, rv_none, rv_ite, oR_ret, t_mv, t_pick, t_alloc, t_box, t_build, t_buildS, t_load, t_store, t_nilck, t_bin, t_eqb, t_eqA, t_eqp, t_un, t_conv, t_field, t_idxA, t_faddr, t_iaddrS, t_iaddrA, t_ext, t_len, t_mm, t_call, t_ifc, t_fn, t_slc, t_slcA, t_slcT, t_tass, t_isn, t_mks, t_app, t_pan, panE_i, optE_none, optE_some, bnd_none, bnd_int, slA_none, slA_some, appR_some, appOld_cells, newsV_s, newsV_n, lenS_s, appV_nil, appV_some, mksV_i, sh_c, sh_g, f_pan, endD_ret, dfr_normal, dfr_ret, dfr_pan, restD_normal, callD1, callC1, tassV, isnV, slcV, slcAV, slcTV, slcB, appNew, Option.bind_some, Option.bind_none, d_pan, h_pan, wrH_eq, wrX_cells, wrU_some, upH_nil, upH_cons, lk_upH, effR_some, effR_none, effR_ite, Option.isNone_none, Option.isNone_some, slA_zero, call_yield, e_range, it_func, wy_same, y_call, isLp_self, beg_normal, end_normal, end_ret, end_exit, end_ite, aft_ret, aft_ready, aft_done, aft_exit, setP_cons, setP_nil, sh_r, t_mkmap, t_mlook, t_mupd, t_mdel, mapF_some, lookF_some, setM_some, lookR_t, lookR_n, lookR_f, lookR_fn, lookV, mupdV, mdelV, mkM]
  generalize hX : exec B _ _ (LC.loop _) _ = o
  have hO : Ok o (fun x s => s.H = H ∧ s.N = N ∧ s.t.length = 26 ∧ ((x = .exit 0 ∧ L = M) ∨ (x = .ret ∧ gt s.t 4 = .bool false ∧ L ≠ M))) := by
    rw [← hX]
    refine loop_rule (n0 := 60) (fun k s => ∃ ts, ∃ i : Nat, s = ⟨ts, H, N⟩ ∧ K28 v w L.length i ts ∧ (∀ q, q < i → L.getD q q0 = M.getD q q0) ∧ i ≤ L.length ∧ k = L.length - i) _ ?_ L.length _ ⟨_, 0, rfl, ⟨rfl, rfl, rfl, rfl, rfl, rfl⟩, fun q hq => by omega, by omega, rfl⟩ _ (by omega)
    rintro n k s ⟨ts, i, rfl, kp, hq, hi, rfl⟩
    have hc1 : ((i + 1 : Nat) : Int) = (i : Int) + 1 := by omega
    by_cases h : i < L.length
    · have h' : (i : Int) < (L.length : Int) := by omega
      have hm' : i < M.length := by omega
      have i0 : (0 : Int) ≤ (i : Int) := by omega
      obtain ⟨bv, ov, cv, rfl, _, rv⟩ := hv.at (by omega)
      obtain ⟨bw, ow, cw, rfl, _, rw'⟩ := hw.at (by omega)
      have rv : rdO H B bv (ov + i * 2) 2 (rdB B bv (ov + i * 2) 2) = some (p2 (L.getD i q0)) := (rv H Fr.refl i 0 2 q0 h (by omega)).trans rfl
      have rw' : rdO H B bw (ow + i * 2) 2 (rdB B bw (ow + i * 2) 2) = some (p2 (M.getD i q0)) := (rw' H Fr.refl i 0 2 q0 hm' (by omega)).trans rfl
      by_cases he : L.getD i q0 = M.getD i q0
      · rw [← he] at rw'
        generalize L.getD i q0 = a at rv rw'
        simp only [p2, Nat.mul_one] at rv rw'
        simp -implicitDefEqProofs (maxSteps := 10000000) (disch := omega) only [T28, L28, hB, hR, hI, kp.l, kp.t0, kp.t1, kp.t11, kp.t12, kp.t13, lenV_sl, Int.toNat_natCast, bft, btf, gtst, st_len, h', h, hm', i0, hlv, hlw, rv, rw', Nat.mul_one, bne_self_eq_false, pad, e_skip, e_ops, e_draw, e_fork, shg_n, shg_c, shg_g, shg_r, d_none, d_nil, d_cons, d_ite, h_none, h_nil, h_cons, h_ite, eqS_same, lightV, e_seq, e_cond, e_block, e_exit, e_ret, s_normal, s_ret, s_exit, s_none, s_ite, b_normal, b_ret, b_exit, b_none, b_ite, c_bool, x_none, x_nil, x_cons, x_ite, p_some, p_none, p_ite, pt_some, pt_none, pv_some, pv_none, pv_ite, w_none, w_some, i_bool, i_undef, bt, bf, v_tmp, v_const, v_global, v_func, evs, f_normal, f_ret, f_none, f_ite, r_some, co_some, l_ptr, m_agg, m_one, sh_app, lk_nil, lk_cons, rd_eq, rdO_some, rdO_none, rdN_none, rdL_some, rdL_none, wrB_none, unitR_some, wr_nil, wr_here, wr_skip, k_cells, tk_zero, tk_take, tk_skip, tkC_some, call_func, gt, st, binV, arith, isSh, storeV, all1, idxAV, fieldV, faddrV, iaddrSV, iaddrAV, pickV, convV, unV, eqbV, eqpV, extV, mm2, mmV, nilckV, ress, res1, retV, Value.cells, cond_true, cond_false, Bool.true_or, Bool.false_or, Bool.or_true, Bool.or_false, beq_self_eq_true, if_true, if_false, ite_true, ite_false, decide_true, decide_false, decide_eq_true_eq, reduceIte, Nat.zero_add, Nat.add_zero, and_self, true_and, and_true, List.size_toArray, List.length_cons, List.length_nil, List.append_nil, List.nil_append, Int.toNat_zero, Bool.not_false, Bool.not_true, Bool.not_not, Bool.false_eq_true, Bool.true_eq_false, reduceCtorEq, Int.reduceLT, Int.reduceLE, Int.reduceToNat, Int.reduceAdd, Int.reduceSub, Int.reduceMul, Int.reduceNeg, Nat.reduceMul, Nat.reduceAdd, Nat.reduceSub, Nat.reduceBEq, Nat.reduceEqDiff, Nat.reduceLT, Nat.reduceLeDiff, Int.reduceBEq, Int.reduceEq, Nat.reducePow, Int.reducePow, IntWalk.i64_in, IntKind.bits, eqAV, eqL, leafEq, andO, fillV, buildSV, List.getElem?_toArray, List.getElem?_cons_zero, List.getElem?_cons_succ, List.getElem?_nil, Int.reduceGT, Int.reduceGE, Int.reduceBNe, Bool.true_and, Bool.and_true, Bool.false_and, Bool.and_false, Bool.and_self, IntWalk.u64_in, Int.cast_ofNat_Int, callF1, pad16, pad_0, pad_1, pad_2, pad_3, pad_4, pad_5, pad_6, pad_7, pad_8, pad_9, pad_10, pad_11, pad_12, pad_13, pad_14, pad_15, gc0, gc1, gc2, gc3, gc4, gc5, gc6, gc7, gc8, gc9, gc10, gc11, gc12, gc13, gc14, gc15, gcS, sc0, sc1, sc2, sc3, sc4, sc5, sc6, sc7, sc8, sc9, sc10, sc11, sc12, sc13, sc14, sc15, scS, List.drop_succ_cons, List.drop_nil, x_pan, s_pan, b_pan, pE_ret, pE_pan, pE_none, pE_ite, pvE_some, pvE_none, pvE_ite, rv_some, rv_none, rv_ite, oR_ret, t_mv, t_pick, t_alloc, t_box, t_build, t_buildS, t_load, t_store, t_nilck, t_bin, t_eqb, t_eqA, t_eqp, t_un, t_conv, t_field, t_idxA, t_faddr, t_iaddrS, t_iaddrA, t_ext, t_len, t_mm, t_call, t_ifc, t_fn, t_slc, t_slcA, t_slcT, t_tass, t_isn, t_mks, t_app, t_pan, panE_i, optE_none, optE_some, bnd_none, bnd_int, slA_none, slA_some, appR_some, appOld_cells, newsV_s, newsV_n, lenS_s, appV_nil, appV_some, mksV_i, sh_c, sh_g, f_pan, endD_ret, dfr_normal, dfr_ret, dfr_pan, restD_normal, callD1, callC1, tassV, isnV, slcV, slcAV, slcTV, slcB, appNew, Option.bind_some, Option.bind_none, d_pan, h_pan, wrH_eq, wrX_cells, wrU_some, upH_nil, upH_cons, lk_upH, effR_some, effR_none, effR_ite, Option.isNone_none, Option.isNone_some, slA_zero, call_yield, e_range, it_func, wy_same, y_call, isLp_self, beg_normal, end_normal, end_ret, end_exit, end_ite, aft_ret, aft_ready, aft_done, aft_exit, setP_cons, setP_nil, sh_r, t_mkmap, t_mlook, t_mupd, t_mdel, mapF_some, lookF_some, setM_some, lookR_t, lookR_n, lookR_f, lookR_fn, lookV, mupdV, mdelV, mkM]
        refine ok_some (.inl ⟨rfl, L.length - (i + 1), by omega, _, i + 1, rfl, ⟨?_, ?_, ?_, ?_, ?_, ?_⟩, fun q hq' => ?_, by omega, rfl⟩)
        rotate_right
        · rcases Nat.lt_or_ge q i with h1 | h1
          · exact hq q h1
          · obtain rfl : q = i := by omega
            exact he
        all_goals simp (maxSteps := 10000000) (disch := omega) only [kp.l, kp.t0, kp.t1, kp.t11, kp.t12, kp.t13, lenV_sl, Int.toNat_natCast, bft, btf, gtst, st_len, hc1, cond_true, cond_false, Nat.reduceBEq, Nat.reduceLT, decide_true, beq_self_eq_true, if_true, if_false]
      · have hne : L ≠ M := fun e => he (by rw [e])
        generalize L.getD i q0 = a at rv he
        generalize M.getD i q0 = b at rw' he
        have hab : ((a.l == b.l) && (a.r == b.r)) = false := by
          cases a; cases b
          simp only [Bool.and_eq_false_iff, beq_eq_false_iff_ne]
          simp only [P2.mk.injEq, not_and] at he
          exact Classical.byContradiction fun hc => by simp only [not_or, Decidable.not_not] at hc; simp_all
        simp only [p2, Nat.mul_one] at rv rw'
        simp -implicitDefEqProofs (maxSteps := 10000000) (disch := omega) only [T28, L28, hB, hR, hI, kp.l, kp.t0, kp.t1, kp.t11, kp.t12, kp.t13, lenV_sl, Int.toNat_natCast, bft, btf, gtst, st_len, h', h, hm', i0, hlv, hlw, rv, rw', hab, Nat.mul_one, pad, e_skip, e_ops, e_draw, e_fork, shg_n, shg_c, shg_g, shg_r, d_none, d_nil, d_cons, d_ite, h_none, h_nil, h_cons, h_ite, eqS_same, lightV, e_seq, e_cond, e_block, e_exit, e_ret, s_normal, s_ret, s_exit, s_none, s_ite, b_normal, b_ret, b_exit, b_none, b_ite, c_bool, x_none, x_nil, x_cons, x_ite, p_some, p_none, p_ite, pt_some, pt_none, pv_some, pv_none, pv_ite, w_none, w_some, i_bool, i_undef, bt, bf, v_tmp, v_const, v_global, v_func, evs, f_normal, f_ret, f_none, f_ite, r_some, co_some, l_ptr, m_agg, m_one, sh_app, lk_nil, lk_cons, rd_eq, rdO_some, rdO_none, rdN_none, rdL_some, rdL_none, wrB_none, unitR_some, wr_nil, wr_here, wr_skip, k_cells, tk_zero, tk_take, tk_skip, tkC_some, call_func, gt, st, binV, arith, isSh, storeV, all1, idxAV, fieldV, faddrV, iaddrSV, iaddrAV, pickV, convV, unV, eqbV, eqpV, extV, mm2, mmV, nilckV, ress, res1, retV, Value.cells, cond_true, cond_false, Bool.true_or, Bool.false_or, Bool.or_true, Bool.or_false, beq_self_eq_true, if_true, if_false, ite_true, ite_false, decide_true, decide_false, decide_eq_true_eq, reduceIte, Nat.zero_add, Nat.add_zero, and_self, true_and, and_true, List.size_toArray, List.length_cons, List.length_nil, List.append_nil, List.nil_append, Int.toNat_zero, Bool.not_false, Bool.not_true, Bool.not_not, Bool.false_eq_true, Bool.true_eq_false, reduceCtorEq, Int.reduceLT, Int.reduceLE, Int.reduceToNat, Int.reduceAdd, Int.reduceSub, Int.reduceMul, Int.reduceNeg, Nat.reduceMul, Nat.reduceAdd, Nat.reduceSub, Nat.reduceBEq, Nat.reduceEqDiff, Nat.reduceLT, Nat.reduceLeDiff, Int.reduceBEq, Int.reduceEq, Nat.reducePow, Int.reducePow, IntWalk.i64_in, IntKind.bits, eqAV, eqL, leafEq, andO, fillV, buildSV, List.getElem?_toArray, List.getElem?_cons_zero, List.getElem?_cons_succ, List.getElem?_nil, Int.reduceGT, Int.reduceGE, Int.reduceBNe, Bool.true_and, Bool.and_true, Bool.false_and, Bool.and_false, Bool.and_self, IntWalk.u64_in, Int.cast_ofNat_Int, callF1, pad16, pad_0, pad_1, pad_2, pad_3, pad_4, pad_5, pad_6, pad_7, pad_8, pad_9, pad_10, pad_11, pad_12, pad_13, pad_14, pad_15, gc0, gc1, gc2, gc3, gc4, gc5, gc6, gc7, gc8, gc9, gc10, gc11, gc12, gc13, gc14, gc15, gcS, sc0, sc1, sc2, sc3, sc4, sc5, sc6, sc7, sc8, sc9, sc10, sc11, sc12, sc13, sc14, sc15, scS, List.drop_succ_cons, List.drop_nil, x_pan, s_pan, b_pan, pE_ret, pE_pan, pE_none, pE_ite, pvE_some, pvE_none, pvE_ite, rv_some, rv_none, rv_ite, oR_ret, t_mv, t_pick, t_alloc, t_box, t_build, t_buildS, t_load, t_store, t_nilck, t_bin, t_eqb, t_eqA, t_eqp, t_un, t_conv, t_field, t_idxA, t_faddr, t_iaddrS, t_iaddrA, t_ext, t_len, t_mm, t_call, t_ifc, t_fn, t_slc, t_slcA, t_slcT, t_tass, t_isn, t_mks, t_app, t_pan, panE_i, optE_none, optE_some, bnd_none, bnd_int, slA_none, slA_some, appR_some, appOld_cells, newsV_s, newsV_n, lenS_s, appV_nil, appV_some, mksV_i, sh_c, sh_g, f_pan, endD_ret, dfr_normal, dfr_ret, dfr_pan, restD_normal, callD1, callC1, tassV, isnV, slcV, slcAV, slcTV, slcB, appNew, Option.bind_some, Option.bind_none, d_pan, h_pan, wrH_eq, wrX_cells, wrU_some, upH_nil, upH_cons, lk_upH, effR_some, effR_none, effR_ite, Option.isNone_none, Option.isNone_some, slA_zero, call_yield, e_range, it_func, wy_same, y_call, isLp_self, beg_normal, end_normal, end_ret, end_exit, end_ite, aft_ret, aft_ready, aft_done, aft_exit, setP_cons, setP_nil, sh_r, t_mkmap, t_mlook, t_mupd, t_mdel, mapF_some, lookF_some, setM_some, lookR_t, lookR_n, lookR_f, lookR_fn, lookV, mupdV, mdelV, mkM]
        refine ok_some (.inr ⟨by simp, rfl, rfl, ?_, .inr ⟨rfl, ?_, hne⟩⟩)
        all_goals simp (maxSteps := 10000000) (disch := omega) only [kp.l, kp.t0, kp.t1, kp.t11, kp.t12, kp.t13, lenV_sl, Int.toNat_natCast, bft, btf, gtst, st_len, cond_true, cond_false, Nat.reduceBEq, Nat.reduceLT, decide_true, beq_self_eq_true, if_true, if_false]
    · simp -implicitDefEqProofs (maxSteps := 10000000) (disch := omega) only [T28, L28, hB, hR, hI, kp.l, kp.t0, kp.t1, kp.t11, kp.t12, kp.t13, lenV_sl, Int.toNat_natCast, bft, btf, gtst, st_len, h, show ¬ (i : Int) < (L.length : Int) by omega, hlv, pad, e_skip, e_ops, e_draw, e_fork, shg_n, shg_c, shg_g, shg_r, d_none, d_nil, d_cons, d_ite, h_none, h_nil, h_cons, h_ite, eqS_same, lightV, e_seq, e_cond, e_block, e_exit, e_ret, s_normal, s_ret, s_exit, s_none, s_ite, b_normal, b_ret, b_exit, b_none, b_ite, c_bool, x_none, x_nil, x_cons, x_ite, p_some, p_none, p_ite, pt_some, pt_none, pv_some, pv_none, pv_ite, w_none, w_some, i_bool, i_undef, bt, bf, v_tmp, v_const, v_global, v_func, evs, f_normal, f_ret, f_none, f_ite, r_some, co_some, l_ptr, m_agg, m_one, sh_app, lk_nil, lk_cons, rd_eq, rdO_some, rdO_none, rdN_none, rdL_some, rdL_none, wrB_none, unitR_some, wr_nil, wr_here, wr_skip, k_cells, tk_zero, tk_take, tk_skip, tkC_some, call_func, gt, st, binV, arith, isSh, storeV, all1, idxAV, fieldV, faddrV, iaddrSV, iaddrAV, pickV, convV, unV, eqbV, eqpV, extV, mm2, mmV, nilckV, ress, res1, retV, Value.cells, cond_true, cond_false, Bool.true_or, Bool.false_or, Bool.or_true, Bool.or_false, beq_self_eq_true, if_true, if_false, ite_true, ite_false, decide_true, decide_false, decide_eq_true_eq, reduceIte, Nat.zero_add, Nat.add_zero, and_self, true_and, and_true, List.size_toArray, List.length_cons, List.length_nil, List.append_nil, List.nil_append, Int.toNat_zero, Bool.not_false, Bool.not_true, Bool.not_not, Bool.false_eq_true, Bool.true_eq_false, reduceCtorEq, Int.reduceLT, Int.reduceLE, Int.reduceToNat, Int.reduceAdd, Int.reduceSub, Int.reduceMul, Int.reduceNeg, Nat.reduceMul, Nat.reduceAdd, Nat.reduceSub, Nat.reduceBEq, Nat.reduceEqDiff, Nat.reduceLT, Nat.reduceLeDiff, Int.reduceBEq, Int.reduceEq, Nat.reducePow, Int.reducePow, IntWalk.i64_in, IntKind.bits, eqAV, eqL, leafEq, andO, fillV, buildSV, List.getElem?_toArray, List.getElem?_cons_zero, List.getElem?_cons_succ, List.getElem?_nil, Int.reduceGT, Int.reduceGE, Int.reduceBNe, Bool.true_and, Bool.and_true, Bool.false_and, Bool.and_false, Bool.and_self, IntWalk.u64_in, Int.cast_ofNat_Int, callF1, pad16, pad_0, pad_1, pad_2, pad_3, pad_4, pad_5, pad_6, pad_7, pad_8, pad_9, pad_10, pad_11, pad_12, pad_13, pad_14, pad_15, gc0, gc1, gc2, gc3, gc4, gc5, gc6, gc7, gc8, gc9, gc10, gc11, gc12, gc13, gc14, gc15, gcS, sc0, sc1, sc2, sc3, sc4, sc5, sc6, sc7, sc8, sc9, sc10, sc11, sc12, sc13, sc14, sc15, scS, List.drop_succ_cons, List.drop_nil, x_pan, s_pan, b_pan, pE_ret, pE_pan, pE_none, pE_ite, pvE_some, pvE_none, pvE_ite, rv_some, rv_none, rv_ite, oR_ret, t_mv, t_pick, t_alloc, t_box, t_build, t_buildS, t_load, t_store, t_nilck, t_bin, t_eqb, t_eqA, t_eqp, t_un, t_conv, t_field, t_idxA, t_faddr, t_iaddrS, t_iaddrA, t_ext, t_len, t_mm, t_call, t_ifc, t_fn, t_slc, t_slcA, t_slcT, t_tass, t_isn, t_mks, t_app, t_pan, panE_i, optE_none, optE_some, bnd_none, bnd_int, slA_none, slA_some, appR_some, appOld_cells, newsV_s, newsV_n, lenS_s, appV_nil, appV_some, mksV_i, sh_c, sh_g, f_pan, endD_ret, dfr_normal, dfr_ret, dfr_pan, restD_normal, callD1, callC1, tassV, isnV, slcV, slcAV, slcTV, slcB, appNew, Option.bind_some, Option.bind_none, d_pan, h_pan, wrH_eq, wrX_cells, wrU_some, upH_nil, upH_cons, lk_upH, effR_some, effR_none, effR_ite, Option.isNone_none, Option.isNone_some, slA_zero, call_yield, e_range, it_func, wy_same, y_call, isLp_self, beg_normal, end_normal, end_ret, end_exit, end_ite, aft_ret, aft_ready, aft_done, aft_exit, setP_cons, setP_nil, sh_r, t_mkmap, t_mlook, t_mupd, t_mdel, mapF_some, lookF_some, setM_some, lookR_t, lookR_n, lookR_f, lookR_fn, lookV, mupdV, mdelV, mkM]
      refine ok_some (.inr ⟨by simp, rfl, rfl, ?_, .inl ⟨rfl, ?_⟩⟩)
      · simp -implicitDefEqProofs (maxSteps := 10000000) (disch := omega) only [T28, L28, hB, hR, hI, kp.l, kp.t0, kp.t1, kp.t11, kp.t12, kp.t13, lenV_sl, Int.toNat_natCast, bft, btf, gtst, st_len, pad, e_skip, e_ops, e_draw, e_fork, shg_n, shg_c, shg_g, shg_r, d_none, d_nil, d_cons, d_ite, h_none, h_nil, h_cons, h_ite, eqS_same, lightV, e_seq, e_cond, e_block, e_exit, e_ret, s_normal, s_ret, s_exit, s_none, s_ite, b_normal, b_ret, b_exit, b_none, b_ite, c_bool, x_none, x_nil, x_cons, x_ite, p_some, p_none, p_ite, pt_some, pt_none, pv_some, pv_none, pv_ite, w_none, w_some, i_bool, i_undef, bt, bf, v_tmp, v_const, v_global, v_func, evs, f_normal, f_ret, f_none, f_ite, r_some, co_some, l_ptr, m_agg, m_one, sh_app, lk_nil, lk_cons, rd_eq, rdO_some, rdO_none, rdN_none, rdL_some, rdL_none, wrB_none, unitR_some, wr_nil, wr_here, wr_skip, k_cells, tk_zero, tk_take, tk_skip, tkC_some, call_func, gt, st, binV, arith, isSh, storeV, all1, idxAV, fieldV, faddrV, iaddrSV, iaddrAV, pickV, convV, unV, eqbV, eqpV, extV, mm2, mmV, nilckV, ress, res1, retV, Value.cells, cond_true, cond_false, Bool.true_or, Bool.false_or, Bool.or_true, Bool.or_false, beq_self_eq_true, if_true, if_false, ite_true, ite_false, decide_true, decide_false, decide_eq_true_eq, reduceIte, Nat.zero_add, Nat.add_zero, and_self, true_and, and_true, List.size_toArray, List.length_cons, List.length_nil, List.append_nil, List.nil_append, Int.toNat_zero, Bool.not_false, Bool.not_true, Bool.not_not, Bool.false_eq_true, Bool.true_eq_false, reduceCtorEq, Int.reduceLT, Int.reduceLE, Int.reduceToNat, Int.reduceAdd, Int.reduceSub, Int.reduceMul, Int.reduceNeg, Nat.reduceMul, Nat.reduceAdd, Nat.reduceSub, Nat.reduceBEq, Nat.reduceEqDiff, Nat.reduceLT, Nat.reduceLeDiff, Int.reduceBEq, Int.reduceEq, Nat.reducePow, Int.reducePow, IntWalk.i64_in, IntKind.bits, eqAV, eqL, leafEq, andO, fillV, buildSV, List.getElem?_toArray, List.getElem?_cons_zero, List.getElem?_cons_succ, List.getElem?_nil, Int.reduceGT, Int.reduceGE, Int.reduceBNe, Bool.true_and, Bool.and_true, Bool.false_and, Bool.and_false, Bool.and_self, IntWalk.u64_in, Int.cast_ofNat_Int, callF1, pad16, pad_0, pad_1, pad_2, pad_3, pad_4, pad_5, pad_6, pad_7, pad_8, pad_9, pad_10, pad_11, pad_12, pad_13, pad_14, pad_15, gc0, gc1, gc2, gc3, gc4, gc5, gc6, gc7, gc8, gc9, gc10, gc11, gc12, gc13, gc14, gc15, gcS, sc0, sc1, sc2, sc3, sc4, sc5, sc6, sc7, sc8, sc9, sc10, sc11, sc12, sc13, sc14, sc15, scS, List.drop_succ_cons, List.drop_nil, x_pan, s_pan, b_pan, pE_ret, pE_pan, pE_none, pE_ite, pvE_some, pvE_none, pvE_ite, rv_some, rv_none, rv_ite, oR_ret, t_mv, t_pick, t_alloc, t_box, t_build, t_buildS, t_load, t_store, t_nilck, t_bin, t_eqb, t_eqA, t_eqp, t_un, t_conv, t_field, t_idxA, t_faddr, t_iaddrS, t_iaddrA, t_ext, t_len, t_mm, t_call, t_ifc, t_fn, t_slc, t_slcA, t_slcT, t_tass, t_isn, t_mks, t_app, t_pan, panE_i, optE_none, optE_some, bnd_none, bnd_int, slA_none, slA_some, appR_some, appOld_cells, newsV_s, newsV_n, lenS_s, appV_nil, appV_some, mksV_i, sh_c, sh_g, f_pan, endD_ret, dfr_normal, dfr_ret, dfr_pan, restD_normal, callD1, callC1, tassV, isnV, slcV, slcAV, slcTV, slcB, appNew, Option.bind_some, Option.bind_none, d_pan, h_pan, wrH_eq, wrX_cells, wrU_some, upH_nil, upH_cons, lk_upH, effR_some, effR_none, effR_ite, Option.isNone_none, Option.isNone_some, slA_zero, call_yield, e_range, it_func, wy_same, y_call, isLp_self, beg_normal, end_normal, end_ret, end_exit, end_ite, aft_ret, aft_ready, aft_done, aft_exit, setP_cons, setP_nil, sh_r, t_mkmap, t_mlook, t_mupd, t_mdel, mapF_some, lookF_some, setM_some, lookR_t, lookR_n, lookR_f, lookR_fn, lookV, mupdV, mdelV, mkM]
      · refine List.ext_getElem? fun q => ?_
        rcases Nat.lt_or_ge q i with h1 | h1
        · rw [some_getD (d := q0) (by omega : q < L.length), some_getD (d := q0) (by omega : q < M.length), hq q h1]
        · rw [List.getElem?_eq_none (by omega), List.getElem?_eq_none (by omega)]
  obtain ⟨x, ⟨ts, H1, N1⟩, rfl, rfl, rfl, hl2, hr⟩ := hO
  simp only at hl2
  rcases hr with ⟨rfl, he⟩ | ⟨rfl, h4, hne⟩
  · rw [decide_eq_true he]
    simp -implicitDefEqProofs (maxSteps := 10000000) (disch := omega) only [T28, L28, hB, hR, hI, hl2, lenV_sl, Int.toNat_natCast, bft, btf, gtst, st_len, pad, e_skip, e_ops, e_draw, e_fork, shg_n, shg_c, shg_g, shg_r, d_none, d_nil, d_cons, d_ite, h_none, h_nil, h_cons, h_ite, eqS_same, lightV, e_seq, e_cond, e_block, e_exit, e_ret, s_normal, s_ret, s_exit, s_none, s_ite, b_normal, b_ret, b_exit, b_none, b_ite, c_bool, x_none, x_nil, x_cons, x_ite, p_some, p_none, p_ite, pt_some, pt_none, pv_some, pv_none, pv_ite, w_none, w_some, i_bool, i_undef, bt, bf, v_tmp, v_const, v_global, v_func, evs, f_normal, f_ret, f_none, f_ite, r_some, co_some, l_ptr, m_agg, m_one, sh_app, lk_nil, lk_cons, rd_eq, rdO_some, rdO_none, rdN_none, rdL_some, rdL_none, wrB_none, unitR_some, wr_nil, wr_here, wr_skip, k_cells, tk_zero, tk_take, tk_skip, tkC_some, call_func, gt, st, binV, arith, isSh, storeV, all1, idxAV, fieldV, faddrV, iaddrSV, iaddrAV, pickV, convV, unV, eqbV, eqpV, extV, mm2, mmV, nilckV, ress, res1, retV, Value.cells, cond_true, cond_false, Bool.true_or, Bool.false_or, Bool.or_true, Bool.or_false, beq_self_eq_true, if_true, if_false, ite_true, ite_false, decide_true, decide_false, decide_eq_true_eq, reduceIte, Nat.zero_add, Nat.add_zero, and_self, true_and, and_true, List.size_toArray, List.length_cons, List.length_nil, List.append_nil, List.nil_append, Int.toNat_zero, Bool.not_false, Bool.not_true, Bool.not_not, Bool.false_eq_true, Bool.true_eq_false, reduceCtorEq, Int.reduceLT, Int.reduceLE, Int.reduceToNat, Int.reduceAdd, Int.reduceSub, Int.reduceMul, Int.reduceNeg, Nat.reduceMul, Nat.reduceAdd, Nat.reduceSub, Nat.reduceBEq, Nat.reduceEqDiff, Nat.reduceLT, Nat.reduceLeDiff, Int.reduceBEq, Int.reduceEq, Nat.reducePow, Int.reducePow, IntWalk.i64_in, IntKind.bits, eqAV, eqL, leafEq, andO, fillV, buildSV, List.getElem?_toArray, List.getElem?_cons_zero, List.getElem?_cons_succ, List.getElem?_nil, Int.reduceGT, Int.reduceGE, Int.reduceBNe, Bool.true_and, Bool.and_true, Bool.false_and, Bool.and_false, Bool.and_self, IntWalk.u64_in, Int.cast_ofNat_Int, callF1, pad16, pad_0, pad_1, pad_2, pad_3, pad_4, pad_5, pad_6, pad_7, pad_8, pad_9, pad_10, pad_11, pad_12, pad_13, pad_14, pad_15, gc0, gc1, gc2, gc3, gc4, gc5, gc6, gc7, gc8, gc9, gc10, gc11, gc12, gc13, gc14, gc15, gcS, sc0, sc1, sc2, sc3, sc4, sc5, sc6, sc7, sc8, sc9, sc10, sc11, sc12, sc13, sc14, sc15, scS, List.drop_succ_cons, List.drop_nil, x_pan, s_pan, b_pan, pE_ret, pE_pan, pE_none, pE_ite, pvE_some, pvE_none, pvE_ite, rv_some, rv_none, rv_ite, oR_ret, t_mv, t_pick, t_alloc, t_box, t_build, t_buildS, t_load, t_store, t_nilck, t_bin, t_eqb, t_eqA, t_eqp, t_un, t_conv, t_field, t_idxA, t_faddr, t_iaddrS, t_iaddrA, t_ext, t_len, t_mm, t_call, t_ifc, t_fn, t_slc, t_slcA, t_slcT, t_tass, t_isn, t_mks, t_app, t_pan, panE_i, optE_none, optE_some, bnd_none, bnd_int, slA_none, slA_some, appR_some, appOld_cells, newsV_s, newsV_n, lenS_s, appV_nil, appV_some, mksV_i, sh_c, sh_g, f_pan, endD_ret, dfr_normal, dfr_ret, dfr_pan, restD_normal, callD1, callC1, tassV, isnV, slcV, slcAV, slcTV, slcB, appNew, Option.bind_some, Option.bind_none, d_pan, h_pan, wrH_eq, wrX_cells, wrU_some, upH_nil, upH_cons, lk_upH, effR_some, effR_none, effR_ite, Option.isNone_none, Option.isNone_some, slA_zero, call_yield, e_range, it_func, wy_same, y_call, isLp_self, beg_normal, end_normal, end_ret, end_exit, end_ite, aft_ret, aft_ready, aft_done, aft_exit, setP_cons, setP_nil, sh_r, t_mkmap, t_mlook, t_mupd, t_mdel, mapF_some, lookF_some, setM_some, lookR_t, lookR_n, lookR_f, lookR_fn, lookV, mupdV, mdelV, mkM]
  · rw [decide_eq_false hne]
    simp only at h4
    simp -implicitDefEqProofs (maxSteps := 10000000) (disch := omega) only [T28, L28, hB, hR, hI, hl2, h4, lenV_sl, Int.toNat_natCast, bft, btf, gtst, st_len, pad, e_skip, e_ops, e_draw, e_fork, shg_n, shg_c, shg_g, shg_r, d_none, d_nil, d_cons, d_ite, h_none, h_nil, h_cons, h_ite, eqS_same, lightV, e_seq, e_cond, e_block, e_exit, e_ret, s_normal, s_ret, s_exit, s_none, s_ite, b_normal, b_ret, b_exit, b_none, b_ite, c_bool, x_none, x_nil, x_cons, x_ite, p_some, p_none, p_ite, pt_some, pt_none, pv_some, pv_none, pv_ite, w_none, w_some, i_bool, i_undef, bt, bf, v_tmp, v_const, v_global, v_func, evs, f_normal, f_ret, f_none, f_ite, r_some, co_some, l_ptr, m_agg, m_one, sh_app, lk_nil, lk_cons, rd_eq, rdO_some, rdO_none, rdN_none, rdL_some, rdL_none, wrB_none, unitR_some, wr_nil, wr_here, wr_skip, k_cells, tk_zero, tk_take, tk_skip, tkC_some, call_func, gt, st, binV, arith, isSh, storeV, all1, idxAV, fieldV, faddrV, iaddrSV, iaddrAV, pickV, convV, unV, eqbV, eqpV, extV, mm2, mmV, nilckV, ress, res1, retV, Value.cells, cond_true, cond_false, Bool.true_or, Bool.false_or, Bool.or_true, Bool.or_false, beq_self_eq_true, if_true, if_false, ite_true, ite_false, decide_true, decide_false, decide_eq_true_eq, reduceIte, Nat.zero_add, Nat.add_zero, and_self, true_and, and_true, List.size_toArray, List.length_cons, List.length_nil, List.append_nil, List.nil_append, Int.toNat_zero, Bool.not_false, Bool.not_true, Bool.not_not, Bool.false_eq_true, Bool.true_eq_false, reduceCtorEq, Int.reduceLT, Int.reduceLE, Int.reduceToNat, Int.reduceAdd, Int.reduceSub, Int.reduceMul, Int.reduceNeg, Nat.reduceMul, Nat.reduceAdd, Nat.reduceSub, Nat.reduceBEq, Nat.reduceEqDiff, Nat.reduceLT, Nat.reduceLeDiff, Int.reduceBEq, Int.reduceEq, Nat.reducePow, Int.reducePow, IntWalk.i64_in, IntKind.bits, eqAV, eqL, leafEq, andO, fillV, buildSV, List.getElem?_toArray, List.getElem?_cons_zero, List.getElem?_cons_succ, List.getElem?_nil, Int.reduceGT, Int.reduceGE, Int.reduceBNe, Bool.true_and, Bool.and_true, Bool.false_and, Bool.and_false, Bool.and_self, IntWalk.u64_in, Int.cast_ofNat_Int, callF1, pad16, pad_0, pad_1, pad_2, pad_3, pad_4, pad_5, pad_6, pad_7, pad_8, pad_9, pad_10, pad_11, pad_12, pad_13, pad_14, pad_15, gc0, gc1, gc2, gc3, gc4, gc5, gc6, gc7, gc8, gc9, gc10, gc11, gc12, gc13, gc14, gc15, gcS, sc0, sc1, sc2, sc3, sc4, sc5, sc6, sc7, sc8, sc9, sc10, sc11, sc12, sc13, sc14, sc15, scS, List.drop_succ_cons, List.drop_nil, x_pan, s_pan, b_pan, pE_ret, pE_pan, pE_none, pE_ite, pvE_some, pvE_none, pvE_ite, rv_some, rv_none, rv_ite, oR_ret, t_mv, t_pick, t_alloc, t_box, t_build, t_buildS, t_load, t_store, t_nilck, t_bin, t_eqb, t_eqA, t_eqp, t_un, t_conv, t_field, t_idxA, t_faddr, t_iaddrS, t_iaddrA, t_ext, t_len, t_mm, t_call, t_ifc, t_fn, t_slc, t_slcA, t_slcT, t_tass, t_isn, t_mks, t_app, t_pan, panE_i, optE_none, optE_some, bnd_none, bnd_int, slA_none, slA_some, appR_some, appOld_cells, newsV_s, newsV_n, lenS_s, appV_nil, appV_some, mksV_i, sh_c, sh_g, f_pan, endD_ret, dfr_normal, dfr_ret, dfr_pan, restD_normal, callD1, callC1, tassV, isnV, slcV, slcAV, slcTV, slcB, appNew, Option.bind_some, Option.bind_none, d_pan, h_pan, wrH_eq, wrX_cells, wrU_some, upH_nil, upH_cons, lk_upH, effR_some, effR_none, effR_ite, Option.isNone_none, Option.isNone_some, slA_zero, call_yield, e_range, it_func, wy_same, y_call, isLp_self, beg_normal, end_normal, end_ret, end_exit, end_ite, aft_ret, aft_ready, aft_done, aft_exit, setP_cons, setP_nil, sh_r, t_mkmap, t_mlook, t_mupd, t_mdel, mapF_some, lookF_some, setM_some, lookR_t, lookR_n, lookR_f, lookR_fn, lookV, mupdV, mdelV, mkM]
end Go.Proofs.YtlkeeckhileedaaDoor
namespace Go.Proofs.YtlkeeckhileedaaDoor
open Go.Proofs.YtlkeeckhileedaaDoor.K
/-! ### Trees -/
/-- Who goes first, of a and those behind it. -/
def amx (f : Nat → Int) (a : Nat) : Nat → Nat
  | 0 => a
  | d + 1 => if f (a + (d + 1)) > f (amx f a d) then a + (d + 1) else amx f a d
theorem amx_b (f : Nat → Int) (a : Nat) : ∀ d, a ≤ amx f a d ∧ amx f a d ≤ a + d
  | 0 => ⟨Nat.le_refl _, Nat.le_refl _⟩
  | d + 1 => by
    have := amx_b f a d
    simp only [amx]; split <;> omega
theorem amx_ge (f : Nat → Int) (a : Nat) : ∀ d i, a ≤ i → i ≤ a + d → f i ≤ f (amx f a d)
  | 0, i, h1, h2 => by
    obtain rfl : i = a := by omega
    exact Int.le_refl _
  | d + 1, i, h1, h2 => by
    simp only [amx]
    by_cases hi : i = a + (d + 1)
    · subst hi; split <;> omega
    · have := amx_ge f a d i h1 (by omega)
      split <;> omega
theorem amx_lt (f : Nat → Int) (a : Nat) : ∀ d i, a ≤ i → i < amx f a d → f i < f (amx f a d)
  | 0, i, h1, h2 => by simp only [amx] at h2; omega
  | d + 1, i, h1, h2 => by
    have hb := amx_b f a d
    simp only [amx] at h2 ⊢
    split at h2
    · rename_i h
      rw [if_pos h]
      have := amx_ge f a d i h1 (by omega)
      omega
    · rename_i h
      rw [if_neg h]
      exact amx_lt f a d i h1 h2
/-- The tree of the keys from a on, so many: its top, one more than its place, and the links. -/
def T (f : Nat → Int) (a d : Nat) : Nat × List (Nat × Nat) :=
  match d with
  | 0 => (0, [])
  | e + 1 =>
    have h := amx_b f a e
    (amx f a e + 1, (T f a (amx f a e - a)).2 ++ (((T f a (amx f a e - a)).1, (T f (amx f a e + 1) (a + e - amx f a e)).1) :: (T f (amx f a e + 1) (a + e - amx f a e)).2))
termination_by d
decreasing_by all_goals omega
theorem T_zero {f : Nat → Int} {a : Nat} : T f a 0 = (0, []) := by rw [T]
theorem T_succ (f : Nat → Int) (a e : Nat) : T f a (e + 1) = (amx f a e + 1, (T f a (amx f a e - a)).2 ++ (((T f a (amx f a e - a)).1, (T f (amx f a e + 1) (a + e - amx f a e)).1) :: (T f (amx f a e + 1) (a + e - amx f a e)).2)) := by rw [T]
theorem T_len (f : Nat → Int) : ∀ (d a : Nat), (T f a d).2.length = d := by
  intro d
  induction d using Nat.strongRecOn with
  | ind d ih =>
    intro a
    cases d with
    | zero => rw [T_zero]; rfl
    | succ e =>
      have hb := amx_b f a e
      rw [T_succ]
      simp only [List.length_append, List.length_cons]
      rw [ih _ (by omega), ih _ (by omega)]
      omega
/-- What hangs on the right, from the top on. -/
def rsp (f : Nat → Int) (a d : Nat) : List Nat :=
  match d with
  | 0 => []
  | e + 1 =>
    have h := amx_b f a e
    (amx f a e + 1) :: rsp f (amx f a e + 1) (a + e - amx f a e)
termination_by d
decreasing_by all_goals omega
theorem rsp_zero {f : Nat → Int} {a : Nat} : rsp f a 0 = [] := by rw [rsp]
theorem rsp_succ (f : Nat → Int) (a e : Nat) : rsp f a (e + 1) = (amx f a e + 1) :: rsp f (amx f a e + 1) (a + e - amx f a e) := by rw [rsp]
theorem rsp_head (f : Nat → Int) (a d : Nat) : (rsp f a d).headD 0 = (T f a d).1 := by
  cases d with
  | zero => rw [rsp_zero, T_zero]; rfl
  | succ e => rw [rsp_succ, T_succ]; rfl
theorem rsp_b (f : Nat → Int) : ∀ (d a : Nat), ∀ s ∈ rsp f a d, a < s ∧ s ≤ a + d := by
  intro d
  induction d using Nat.strongRecOn with
  | ind d ih =>
    intro a s hs
    cases d with
    | zero => rw [rsp_zero] at hs; cases hs
    | succ e =>
      have hb := amx_b f a e
      rw [rsp_succ] at hs
      rcases List.mem_cons.1 hs with rfl | hs
      · omega
      · have := ih _ (by omega) _ s hs; omega
theorem rsp_len (f : Nat → Int) : ∀ (d a : Nat), (rsp f a d).length ≤ d := by
  intro d
  induction d using Nat.strongRecOn with
  | ind d ih =>
    intro a
    cases d with
    | zero => rw [rsp_zero]; exact Nat.le_refl _
    | succ e =>
      have hb := amx_b f a e
      rw [rsp_succ, List.length_cons]
      have := ih (a + e - amx f a e) (by omega) (amx f a e + 1)
      omega
/-- One key more, that goes before all that hang on the right. -/
theorem T_all (f : Nat → Int) (a d : Nat) (h : ∀ s ∈ rsp f a d, f (a + d) > f (s - 1)) : T f a (d + 1) = (a + d + 1, (T f a d).2 ++ [((T f a d).1, 0)]) ∧ rsp f a (d + 1) = [a + d + 1] := by
  have hx : amx f a d = a + d := by
    cases d with
    | zero => rfl
    | succ e =>
      have := h (amx f a e + 1) (by rw [rsp_succ]; exact List.mem_cons_self)
      simp only [Nat.add_sub_cancel] at this
      simp only [amx]; rw [if_pos this]
  rw [T_succ, rsp_succ, hx, Nat.add_sub_cancel_left, Nat.sub_self, T_zero, rsp_zero]
  exact ⟨rfl, rfl⟩
/-- One key more, that goes not before the last that is kept. -/
theorem T_one (f : Nat → Int) : ∀ (d a : Nat) (k p : List Nat) (s : Nat), rsp f a d = k ++ s :: p → ¬ f (a + d) > f (s - 1) → (∀ x ∈ p, f (a + d) > f (x - 1)) →
    ∃ g : Nat × Nat, (T f a d).2[s - 1 - a]? = some g ∧ T f a (d + 1) = ((T f a d).1, (T f a d).2.set (s - 1 - a) (g.1, a + d + 1) ++ [(p.headD 0, 0)]) ∧ rsp f a (d + 1) = k ++ [s, a + d + 1] := by
  intro d
  induction d using Nat.strongRecOn with
  | ind d ih =>
    intro a k p s hS hs hp
    cases d with
    | zero => rw [rsp_zero] at hS; cases k <;> cases hS
    | succ e =>
      have hb := amx_b f a e
      have hge := amx_ge f a e
      rw [rsp_succ] at hS
      have hlen := T_len f (amx f a e - a) a
      have hT := T_succ f a e
      have hsplit : a + e - amx f a e + (amx f a e + 1) = a + (e + 1) := by omega
      have hnt : ¬ f (a + (e + 1)) > f (amx f a e) := by
        cases k with
        | nil =>
          simp only [List.nil_append, List.cons.injEq] at hS
          have := hS.1
          subst this
          simpa using hs
        | cons k0 k' =>
          simp only [List.cons_append, List.cons.injEq] at hS
          have hm : s ∈ rsp f (amx f a e + 1) (a + e - amx f a e) := by rw [hS.2]; simp
          have hsb := rsp_b f _ _ s hm
          have := hge (s - 1) (by omega) (by omega)
          omega
      have hx : amx f a (e + 1) = amx f a e := by simp only [amx]; rw [if_neg hnt]
      have hT2 := T_succ f a (e + 1)
      have hR2 := rsp_succ f a (e + 1)
      rw [hx, show a + (e + 1) - amx f a e = a + e - amx f a e + 1 by omega] at hT2 hR2
      generalize amx f a e = t at *
      generalize hd' : a + e - t = d' at *
      have hi : t + 1 + d' = a + (e + 1) := by omega
      cases k with
      | nil =>
        simp only [List.nil_append, List.cons.injEq] at hS
        obtain ⟨rfl, hS'⟩ := hS
        have hall := T_all f (t + 1) d' (fun x hx => by rw [hS'] at hx; rw [hi]; exact hp x hx)
        have hidx : t + 1 - 1 - a = t - a := by omega
        rw [hidx, hT, hT2, hR2, hall.1, hall.2, hi]
        refine ⟨((T f a (t - a)).1, (T f (t + 1) d').1), ?_, ?_, rfl⟩
        · simp only
          rw [List.getElem?_append_right (by omega), hlen]; simp
        · simp only [Prod.mk.injEq, true_and]
          rw [List.set_append_right _ _ (by omega), hlen, ← hS', rsp_head]
          simp
      | cons k0 k' =>
        simp only [List.cons_append, List.cons.injEq] at hS
        obtain ⟨rfl, hS'⟩ := hS
        obtain ⟨g, g1, g2, g3⟩ := ih d' (by omega) (t + 1) k' p s hS' (by rw [hi]; exact hs) (by rw [hi]; exact hp)
        have hsb := rsp_b f _ _ s (by rw [hS']; simp : s ∈ rsp f (t + 1) d')
        have hidx : s - 1 - a = (T f a (t - a)).2.length + (s - 1 - (t + 1) + 1) := by omega
        rw [hT, hT2, hR2, g2, g3, hi]
        refine ⟨g, ?_, ?_, rfl⟩
        · simp only
          rw [hidx, List.getElem?_append_right (by omega)]
          simpa using g1
        · simp only [Prod.mk.injEq, true_and]
          rw [hidx, List.set_append_right _ _ (by omega)]
          simp
/-- Priorities fall along what hangs on the right. -/
theorem rsp_fall (f : Nat → Int) : ∀ (d a : Nat) (k p : List Nat) (s : Nat), rsp f a d = k ++ s :: p → ∀ x ∈ k, f (s - 1) ≤ f (x - 1) := by
  intro d
  induction d using Nat.strongRecOn with
  | ind d ih =>
    intro a k p s hS x hx
    cases d with
    | zero => rw [rsp_zero] at hS; cases k <;> cases hS
    | succ e =>
      have hb := amx_b f a e
      rw [rsp_succ] at hS
      cases k with
      | nil => cases hx
      | cons k0 k' =>
        simp only [List.cons_append, List.cons.injEq] at hS
        obtain ⟨rfl, hS'⟩ := hS
        rcases List.mem_cons.1 hx with rfl | hx
        · have hsb := rsp_b f _ _ s (by rw [hS']; simp : s ∈ rsp f (amx f a e + 1) (a + e - amx f a e))
          exact amx_ge f a e (s - 1) (by omega) (by omega)
        · exact ih _ (by omega) _ k' p s hS' x hx
end Go.Proofs.YtlkeeckhileedaaDoor
namespace Go.Proofs.YtlkeeckhileedaaDoor
open Go.Proofs.YtlkeeckhileedaaDoor.K Go.ChangeShapes Go.WideShapes Go.ChangeAt Go.RowKit
set_option maxRecDepth 100000
set_option linter.unusedSimpArgs false
set_option linter.unusedVariables false

/-- The priorities of keys. -/
def fK (K : List Int) (i : Nat) : Int := mixI (K.getD i 0)
def mp (x : Nat × Nat) : P2 := ⟨x.1, x.2⟩
def Asc (K : List Int) : Prop := ∀ i : Nat, i + 1 < K.length → K.getD i 0 < K.getD (i + 1) 0
noncomputable def bErr (K : List Int) : Int := if 256 < K.length then 4 else @ite _ (Asc K) (Classical.propDecidable _) 0 1
noncomputable def bRoot (K : List Int) : Int := if bErr K = 0 then ((T (fK K) 0 K.length).1 : Int) else 0
noncomputable def bLinks (K : List Int) : List P2 := if bErr K = 0 then (T (fK K) 0 K.length).2.map mp else []
theorem bErr_long {K : List Int} (h : 256 < K.length) : bErr K = 4 := if_pos h
theorem bErr_asc {K : List Int} (h : K.length ≤ 256) (hf : Asc K) : bErr K = 0 := by unfold bErr; rw [if_neg (by omega), if_pos hf]
theorem bErr_not {K : List Int} (h : K.length ≤ 256) (hf : ¬ Asc K) : bErr K = 1 := by unfold bErr; rw [if_neg (by omega), if_neg hf]
theorem bErr_0 {K : List Int} (h : bErr K = 0) : K.length ≤ 256 ∧ Asc K := by
  by_cases h1 : 256 < K.length
  · rw [bErr_long h1] at h; omega
  · by_cases h2 : Asc K
    · exact ⟨by omega, h2⟩
    · rw [bErr_not (by omega) h2] at h; omega
theorem bLinks_len {K : List Int} (h : bErr K = 0) : (bLinks K).length = K.length := by unfold bLinks; rw [if_pos h, List.length_map, T_len]
def U64s (K : List Int) : Prop := ∀ x ∈ K, u64R x
theorem U64s.at {K : List Int} (h : U64s K) (i : Nat) : u64R (K.getD i 0) := by
  rcases Nat.lt_or_ge i K.length with hi | hi
  · refine h _ ?_
    rw [List.getD_eq_getElem?_getD, List.getElem?_eq_getElem hi]
    exact List.getElem_mem hi
  · rw [List.getD_eq_getElem?_getD, List.getElem?_eq_none hi]
    unfold u64R; simp
/-- The links of the first i keys, and room for the others. -/
def lnk (K : List Int) (i : Nat) : List P2 := (T (fK K) 0 i).2.map mp ++ List.replicate (K.length - i) q0
theorem lnk_len {K : List Int} {i : Nat} (hi : i ≤ K.length) : (lnk K i).length = K.length := by
  unfold lnk; rw [List.length_append, List.length_map, T_len, List.length_replicate]; omega
theorem rep_p2 (n : Nat) : (List.replicate n [Value.int .i64 0, .int .i64 0]).flatten = fl p2 (List.replicate n q0) := by
  induction n with
  | zero => rfl
  | succ n ih => rw [List.replicate_succ, List.replicate_succ, List.flatten_cons, ih]; rfl
def iC (s : Nat) : Int := (s : Int)
/-- All that hang on the right go behind. -/
theorem lnk_all {K : List Int} {i : Nat} (hi : i < K.length) (h : ∀ s ∈ rsp (fK K) 0 i, fK K i > fK K (s - 1)) : lnk K (i + 1) = (lnk K i).set i ⟨((rsp (fK K) 0 i).headD 0 : Nat), 0⟩ ∧ rsp (fK K) 0 (i + 1) = [i + 1] := by
  obtain ⟨h1, h2⟩ := T_all (fK K) 0 i (by simpa using h)
  have hl := T_len (fK K) i 0
  refine ⟨?_, by simpa using h2⟩
  unfold lnk
  rw [h1, rsp_head, List.set_append_right _ _ (by rw [List.length_map, hl]; exact Nat.le_refl _), List.length_map, hl, Nat.sub_self]
  rw [show K.length - i = K.length - (i + 1) + 1 by omega, List.replicate_succ]
  simp [mp]
theorem lnk_one {K : List Int} {i : Nat} (hi : i < K.length) {k p : List Nat} {s : Nat} (hS : rsp (fK K) 0 i = k ++ s :: p) (hs : ¬ fK K i > fK K (s - 1)) (hp : ∀ x ∈ p, fK K i > fK K (x - 1)) :
    lnk K (i + 1) = ((lnk K i).set (s - 1) ⟨((lnk K i).getD (s - 1) q0).l, ((i : Int) + 1)⟩).set i ⟨(p.headD 0 : Nat), 0⟩ ∧ rsp (fK K) 0 (i + 1) = k ++ [s, i + 1] := by
  obtain ⟨g, g1, g2, g3⟩ := T_one (fK K) i 0 k p s hS (by simpa using hs) (by simpa using hp)
  have hl := T_len (fK K) i 0
  have hsb := rsp_b (fK K) i 0 s (by rw [hS]; simp)
  refine ⟨?_, by simpa using g3⟩
  have hg : (lnk K i).getD (s - 1) q0 = mp g := by
    refine getD_some ?_
    unfold lnk
    rw [List.getElem?_append_left (by rw [List.length_map, hl]; omega), List.getElem?_map]
    simp only [Nat.sub_zero] at g1
    rw [g1]; rfl
  rw [hg]
  unfold lnk
  rw [g2]
  simp only [Nat.sub_zero, Nat.zero_add]
  rw [List.set_append_left _ _ (by rw [List.length_map, hl]; omega), List.set_append_right _ _ (by rw [List.length_set, List.length_map, hl]; exact Nat.le_refl _), List.length_set, List.length_map, hl, Nat.sub_self, List.map_append, List.map_set]
  rw [show K.length - i = K.length - (i + 1) + 1 by omega, List.replicate_succ]
  simp [mp]
/-- whitewash/treap.Build -/
def L10 : FnL := ⟨(.seq (.ops [⟨(some 2), .mv (.const (.int .i64 0)), none⟩, ⟨(some 3), .mv (.const (.slice none 0 0)), none⟩, ⟨(some 4), .mv (.const (.int .i64 0)), none⟩])
 (.seq (.seq (.ops [⟨(some 11), .mv (.tmp 0), none⟩, ⟨(some 12), .len false (.tmp 11), none⟩, ⟨(some 13), .bin .gtr (.tmp 12) (.const (.int .i64 256)), none⟩])
 (.cond (.tmp 13) (.seq (.ops [⟨(some 2), .mv (.const (.int .i64 0)), none⟩, ⟨(some 3), .mv (.const (.slice none 0 0)), none⟩, ⟨(some 4), .mv (.const (.int .i64 4)), none⟩])
 .ret)
 .skip))
 (.seq (.ops [⟨(some 14), .mv (.tmp 0), none⟩, ⟨(some 15), .len false (.tmp 14), none⟩, ⟨(some 16), .mks [(.int .i64 0), (.int .i64 0)] 16 (.tmp 15) (.tmp 15), none⟩, ⟨(some 5), .mv (.tmp 16), none⟩])
 (.seq (.ops [⟨(some 6), .mv (.const (.slice none 0 0)), none⟩])
 (.seq (.seq (.ops [⟨(some 17), .mv (.tmp 0), none⟩, ⟨(some 18), .len false (.tmp 17), none⟩, ⟨(some 19), .mv (.const (.int .i64 0)), none⟩])
 (.block 0 (.loop (.seq (.ops [⟨(some 20), .bin .lss (.tmp 19) (.tmp 18), none⟩])
 (.seq (.cond (.tmp 20) .skip
 (.exit 0))
 (.seq (.block 1 (.seq (.ops [⟨(some 21), .mv (.tmp 19), none⟩, ⟨(some 22), .iaddrS 1 (.tmp 17) (.tmp 19), none⟩, ⟨(some 23), .load false 1 (.tmp 22), none⟩, ⟨(some 7), .mv (.tmp 21), none⟩, ⟨(some 8), .mv (.tmp 23), none⟩])
 (.seq (.seq (.ops [⟨(some 24), .mv (.tmp 7), none⟩, ⟨(some 25), .bin .gtr (.tmp 24) (.const (.int .i64 0)), none⟩, ⟨(some 26), .mv (.tmp 25), none⟩, ⟨(some 27), .mv (.tmp 0), (some (26, true))⟩, ⟨(some 28), .mv (.tmp 7), (some (26, true))⟩, ⟨(some 29), .bin .sub (.tmp 28) (.const (.int .i64 1)), (some (26, true))⟩, ⟨(some 30), .iaddrS 1 (.tmp 27) (.tmp 29), (some (26, true))⟩, ⟨(some 31), .load false 1 (.tmp 30), (some (26, true))⟩, ⟨(some 32), .mv (.tmp 8), (some (26, true))⟩, ⟨(some 33), .bin .geq (.tmp 31) (.tmp 32), (some (26, true))⟩, ⟨(some 34), .pick (.tmp 26) (.tmp 33) (.const (.bool false)), none⟩])
 (.cond (.tmp 34) (.seq (.ops [⟨(some 2), .mv (.const (.int .i64 0)), none⟩, ⟨(some 3), .mv (.const (.slice none 0 0)), none⟩, ⟨(some 4), .mv (.const (.int .i64 1)), none⟩])
 .ret)
 .skip))
 (.seq (.ops [⟨(some 9), .mv (.const (.int .i64 0)), none⟩])
 (.seq (.block 2 (.loop (.seq (.seq (.ops [⟨(some 35), .mv (.tmp 6), none⟩, ⟨(some 36), .len false (.tmp 35), none⟩, ⟨(some 37), .bin .gtr (.tmp 36) (.const (.int .i64 0)), none⟩])
 (.cond (.tmp 37) .skip
 (.exit 2)))
 (.block 3 (.seq (.ops [⟨(some 38), .mv (.tmp 6), none⟩, ⟨(some 39), .mv (.tmp 6), none⟩, ⟨(some 40), .len false (.tmp 39), none⟩, ⟨(some 41), .bin .sub (.tmp 40) (.const (.int .i64 1)), none⟩, ⟨(some 42), .iaddrS 1 (.tmp 38) (.tmp 41), none⟩, ⟨(some 43), .load false 1 (.tmp 42), none⟩, ⟨(some 10), .mv (.tmp 43), none⟩])
 (.seq (.seq (.ops [⟨(some 44), .mv (.tmp 8), none⟩, ⟨(some 45), .mv (.tmp 0), none⟩, ⟨(some 46), .mv (.tmp 10), none⟩, ⟨(some 47), .bin .sub (.tmp 46) (.const (.int .i64 1)), none⟩, ⟨(some 48), .iaddrS 1 (.tmp 45) (.tmp 47), none⟩, ⟨(some 49), .load false 1 (.tmp 48), none⟩, ⟨(some 50), .call (.func 26) [(.tmp 44), (.tmp 49)], none⟩, ⟨(some 51), .un .not (.tmp 50), none⟩])
 (.cond (.tmp 51) (.seq (.ops [⟨(some 52), .mv (.tmp 5), none⟩, ⟨(some 53), .mv (.tmp 10), none⟩, ⟨(some 54), .bin .sub (.tmp 53) (.const (.int .i64 1)), none⟩, ⟨(some 55), .mv (.tmp 7), none⟩, ⟨(some 56), .bin .add (.tmp 55) (.const (.int .i64 1)), none⟩, ⟨(some 57), .iaddrS 2 (.tmp 52) (.tmp 54), none⟩, ⟨(some 58), .iaddrA 1 2 (.tmp 57) (.const (.int .i64 1)), none⟩, ⟨none, .store 1 (.tmp 58) (.tmp 56), none⟩])
 (.exit 2))
 .skip))
 (.draw [⟨⟨(some 59), .mv (.tmp 10), none⟩, []⟩, ⟨⟨(some 60), .mv (.tmp 6), none⟩, []⟩, ⟨⟨(some 61), .mv (.tmp 6), none⟩, []⟩, ⟨⟨(some 62), .len false (.tmp 61), none⟩, []⟩, ⟨⟨(some 63), .bin .sub (.tmp 62) (.const (.int .i64 1)), none⟩, []⟩, ⟨⟨(some 64), .slc 1 (.tmp 60) none (some (.tmp 63)) none, none⟩, []⟩, ⟨⟨(some 9), .mv (.tmp 59), none⟩, []⟩, ⟨⟨(some 6), .mv (.tmp 64), none⟩, []⟩])))))))
 (.seq (.ops [⟨(some 65), .mv (.tmp 5), none⟩, ⟨(some 66), .mv (.tmp 7), none⟩, ⟨(some 67), .mv (.tmp 9), none⟩, ⟨(some 68), .iaddrS 2 (.tmp 65) (.tmp 66), none⟩, ⟨(some 69), .iaddrA 1 2 (.tmp 68) (.const (.int .i64 0)), none⟩, ⟨none, .store 1 (.tmp 69) (.tmp 67), none⟩])
 (.ops [⟨(some 70), .mv (.tmp 6), none⟩, ⟨(some 71), .mv (.tmp 7), none⟩, ⟨(some 72), .bin .add (.tmp 71) (.const (.int .i64 1)), none⟩, ⟨(some 73), .buildS [(.int .i64 0)] 1 [(0, 1, (.tmp 72))], none⟩, ⟨(some 74), .app [(.int .i64 0)] 8 (.tmp 70) (.tmp 73), none⟩, ⟨(some 6), .mv (.tmp 74), none⟩])))))))
 (.ops [⟨(some 75), .bin .add (.tmp 19) (.const (.int .i64 1)), none⟩, ⟨(some 19), .mv (.tmp 75), none⟩])))))))
 (.seq (.seq (.ops [⟨(some 76), .mv (.tmp 6), none⟩, ⟨(some 77), .len false (.tmp 76), none⟩, ⟨(some 78), .bin .eql (.tmp 77) (.const (.int .i64 0)), none⟩])
 (.cond (.tmp 78) (.seq (.ops [⟨(some 2), .mv (.const (.int .i64 0)), none⟩, ⟨(some 3), .mv (.const (.slice none 0 0)), none⟩, ⟨(some 4), .mv (.const (.int .i64 0)), none⟩])
 .ret)
 .skip))
 (.seq (.ops [⟨(some 79), .mv (.tmp 6), none⟩, ⟨(some 80), .iaddrS 1 (.tmp 79) (.const (.int .i64 0)), none⟩, ⟨(some 81), .load false 1 (.tmp 80), none⟩, ⟨(some 82), .mv (.tmp 5), none⟩, ⟨(some 2), .mv (.tmp 81), none⟩, ⟨(some 3), .mv (.tmp 82), none⟩, ⟨(some 4), .mv (.const (.int .i64 0)), none⟩])
 .ret))))))),
 83, [.tmp 2, .tmp 3, .tmp 4]⟩
theorem low10 : lowerFn Tryd.prog Tryd.f10 = some L10 := by kernel_rfl
noncomputable def G10 (B : OH) : Nat → Cs
  | 26 => V26 B
  | _ => fun _ _ _ => none
theorem G10_26 {B : OH} : G10 B 26 = V26 B := rfl
theorem sG10 {w0 : World} {B : OH} : SoundG Tryd.prog w0 B { f := G10 B } := .of fun k => by
  unfold G10
  split
  · exact .inr ⟨en26, sV26⟩
  · exact .inl fun _ _ _ => rfl
theorem en10 : Enter Tryd.prog 10 := .of Tryd.func10 (by kernel_rfl) (by kernel_rfl)
noncomputable def T10 (B : OH) : Cs := callF B { f := G10 B } 1300 L10
theorem sT10 {w0 : World} {B : OH} : SoundC Tryd.prog w0 B 10 (T10 B) := callF_sound mixedOrders sG10 1300 Tryd.func10 low10
noncomputable def V10 (B : OH) : Cs := T10 B
theorem sV10 {w0 : World} {B : OH} : SoundC Tryd.prog w0 B 10 (V10 B) := sT10
structure K10 (v vs : Value) (b n i : Nat) (ts : List Value) : Prop where
  l : ts.length = 83
  t0 : gt ts 0 = v
  t5 : gt ts 5 = .slice (some ⟨b, 0, none⟩) n n
  t6 : gt ts 6 = vs
  t17 : gt ts 17 = v
  t18 : gt ts 18 = .int .i64 (n : Int)
  t19 : gt ts 19 = .int .i64 (i : Int)
structure K10i (v vs : Value) (b n i : Nat) (x : Int) (un : Nat) (ts : List Value) : Prop where
  l : ts.length = 83
  t0 : gt ts 0 = v
  t5 : gt ts 5 = .slice (some ⟨b, 0, none⟩) n n
  t6 : gt ts 6 = vs
  t17 : gt ts 17 = v
  t18 : gt ts 18 = .int .i64 (n : Int)
  t19 : gt ts 19 = .int .i64 (i : Int)
  t7 : gt ts 7 = .int .i64 (i : Int)
  t8 : gt ts 8 = .int .u64 x
  t9 : gt ts 9 = .int .i64 (un : Int)
def lb10i : LC := (.seq (.seq (.ops [⟨(some 35), .mv (.tmp 6), none⟩, ⟨(some 36), .len false (.tmp 35), none⟩, ⟨(some 37), .bin .gtr (.tmp 36) (.const (.int .i64 0)), none⟩])
 (.cond (.tmp 37) .skip
 (.exit 2)))
 (.block 3 (.seq (.ops [⟨(some 38), .mv (.tmp 6), none⟩, ⟨(some 39), .mv (.tmp 6), none⟩, ⟨(some 40), .len false (.tmp 39), none⟩, ⟨(some 41), .bin .sub (.tmp 40) (.const (.int .i64 1)), none⟩, ⟨(some 42), .iaddrS 1 (.tmp 38) (.tmp 41), none⟩, ⟨(some 43), .load false 1 (.tmp 42), none⟩, ⟨(some 10), .mv (.tmp 43), none⟩])
 (.seq (.seq (.ops [⟨(some 44), .mv (.tmp 8), none⟩, ⟨(some 45), .mv (.tmp 0), none⟩, ⟨(some 46), .mv (.tmp 10), none⟩, ⟨(some 47), .bin .sub (.tmp 46) (.const (.int .i64 1)), none⟩, ⟨(some 48), .iaddrS 1 (.tmp 45) (.tmp 47), none⟩, ⟨(some 49), .load false 1 (.tmp 48), none⟩, ⟨(some 50), .call (.func 26) [(.tmp 44), (.tmp 49)], none⟩, ⟨(some 51), .un .not (.tmp 50), none⟩])
 (.cond (.tmp 51) (.seq (.ops [⟨(some 52), .mv (.tmp 5), none⟩, ⟨(some 53), .mv (.tmp 10), none⟩, ⟨(some 54), .bin .sub (.tmp 53) (.const (.int .i64 1)), none⟩, ⟨(some 55), .mv (.tmp 7), none⟩, ⟨(some 56), .bin .add (.tmp 55) (.const (.int .i64 1)), none⟩, ⟨(some 57), .iaddrS 2 (.tmp 52) (.tmp 54), none⟩, ⟨(some 58), .iaddrA 1 2 (.tmp 57) (.const (.int .i64 1)), none⟩, ⟨none, .store 1 (.tmp 58) (.tmp 56), none⟩])
 (.exit 2))
 .skip))
 (.draw [⟨⟨(some 59), .mv (.tmp 10), none⟩, []⟩, ⟨⟨(some 60), .mv (.tmp 6), none⟩, []⟩, ⟨⟨(some 61), .mv (.tmp 6), none⟩, []⟩, ⟨⟨(some 62), .len false (.tmp 61), none⟩, []⟩, ⟨⟨(some 63), .bin .sub (.tmp 62) (.const (.int .i64 1)), none⟩, []⟩, ⟨⟨(some 64), .slc 1 (.tmp 60) none (some (.tmp 63)) none, none⟩, []⟩, ⟨⟨(some 9), .mv (.tmp 59), none⟩, []⟩, ⟨⟨(some 6), .mv (.tmp 64), none⟩, []⟩])))))
/-- How the spine is cut back. -/
def R10i (B : OH) (H0 : HL) (K : List Int) (v : Value) (b i : Nat) (H : HL) (N : St) (x : X) (s : Go.Proofs.YtlkeeckhileedaaDoor.K.S) : Prop :=
  x = .exit 2 ∧ s.N = N ∧ ∃ vs S1 p, rsp (fK K) 0 i = S1 ++ p ∧ (∀ y ∈ p, fK K i > fK K (y - 1)) ∧ SlM f1 1 B H0 H vs (S1.map iC) ∧ K10i v vs b K.length i (K.getD i 0) (p.headD 0) s.t ∧ slB vs ≠ some b ∧
    ((S1 = [] ∧ s.H = H) ∨ ∃ k t, S1 = k ++ [t] ∧ ¬ fK K i > fK K (t - 1) ∧ s.H = upH H b (.cells (fl p2 ((lnk K i).set (t - 1) ⟨((lnk K i).getD (t - 1) q0).l, ((i : Int) + 1)⟩)) (K.length * 2)))
set_option maxHeartbeats 8000000 in
theorem loop10i {B : OH} {H0 H : HL} {N : St} {v vs : Value} {K : List Int} {b i : Nat} (hT : Tab B) (hv : SlR w1 1 B H v K) (hK : U64s K) (hi : i < K.length) (hKl : K.length ≤ 256) (hN : good B H N) (hBb : B b = none) (hlb : lk H b = some (.cells (fl p2 (lnk K i)) (K.length * 2)))
    {ts : List Value} (kp : K10i v vs b K.length i (K.getD i 0) 0 ts) (hs : SlM f1 1 B H0 H vs ((rsp (fK K) 0 i).map iC)) (hsb : slB vs ≠ some b) {F : Nat} (hF : 60 + (rsp (fK K) 0 i).length + 1 ≤ F) :
    Ok (exec B { f := G10 B } F (LC.loop lb10i) ⟨ts, H, N⟩) (R10i B H0 K v b i H N) := by
  have hB := good_B hN
  have hR := good_rdB hN
  have hI := beqN hN.1.1
  have hG : ∃ H N, good B H N := ⟨H, N, hN⟩
  have hlb0 := fun o n => rdB_none (o := o) (n := n) hBb
  have hlv := hv.len
  refine loop_rule (n0 := 60) (fun q s => ∃ ts vs S1 p, s = ⟨ts, H, N⟩ ∧ rsp (fK K) 0 i = S1 ++ p ∧ (∀ y ∈ p, fK K i > fK K (y - 1)) ∧ SlM f1 1 B H0 H vs (S1.map iC) ∧ K10i v vs b K.length i (K.getD i 0) (p.headD 0) ts ∧ slB vs ≠ some b ∧ q = S1.length) _ ?_ _ _ ⟨ts, vs, rsp (fK K) 0 i, [], rfl, by rw [List.append_nil], fun y hy => (by cases hy), hs, kp, hsb, rfl⟩ _ hF
  clear kp hs hsb hF F ts vs
  rintro z q s ⟨ts, vs, S1, p, rfl, hS, hp, hs, kp, hsb, rfl⟩
  have hls := hs.len
  rw [List.length_map] at hls
  rcases List.eq_nil_or_concat S1 with rfl | ⟨k, t, rfl⟩
  · simp only [List.length_nil] at hls
    simp -implicitDefEqProofs (maxSteps := 10000000) (disch := omega) only [T10, L10, G10_26, V26_eq, hB, hR, hI, lb10i, kp.l, kp.t0, kp.t5, kp.t6, kp.t17, kp.t18, kp.t19, kp.t7, kp.t8, kp.t9, lenV_sl, Int.toNat_natCast, bft, btf, gtst, st_len, hls, Int.lt_irrefl, Int.cast_ofNat_Int, show ¬ ((0 : Nat) : Int) > 0 by omega, pad, e_skip, e_ops, e_draw, e_fork, shg_n, shg_c, shg_g, shg_r, d_none, d_nil, d_cons, d_ite, h_none, h_nil, h_cons, h_ite, eqS_same, lightV, e_seq, e_cond, e_block, e_exit, e_ret, s_normal, s_ret, s_exit, s_none, s_ite, b_normal, b_ret, b_exit, b_none, b_ite, c_bool, x_none, x_nil, x_cons, x_ite, p_some, p_none, p_ite, pt_some, pt_none, pv_some, pv_none, pv_ite, w_none, w_some, i_bool, i_undef, bt, bf, v_tmp, v_const, v_global, v_func, evs, f_normal, f_ret, f_none, f_ite, r_some, co_some, l_ptr, m_agg, m_one, sh_app, lk_nil, lk_cons, rd_eq, rdO_some, rdO_none, rdN_none, rdL_some, rdL_none, wrB_none, unitR_some, wr_nil, wr_here, wr_skip, k_cells, tk_zero, tk_take, tk_skip, tkC_some, call_func, gt, st, binV, arith, isSh, storeV, all1, idxAV, fieldV, faddrV, iaddrSV, iaddrAV, pickV, convV, unV, eqbV, eqpV, extV, mm2, mmV, nilckV, ress, res1, retV, Value.cells, cond_true, cond_false, Bool.true_or, Bool.false_or, Bool.or_true, Bool.or_false, beq_self_eq_true, if_true, if_false, ite_true, ite_false, decide_true, decide_false, decide_eq_true_eq, reduceIte, Nat.zero_add, Nat.add_zero, and_self, true_and, and_true, List.size_toArray, List.length_cons, List.length_nil, List.append_nil, List.nil_append, Int.toNat_zero, Bool.not_false, Bool.not_true, Bool.not_not, Bool.false_eq_true, Bool.true_eq_false, reduceCtorEq, Int.reduceLT, Int.reduceLE, Int.reduceToNat, Int.reduceAdd, Int.reduceSub, Int.reduceMul, Int.reduceNeg, Nat.reduceMul, Nat.reduceAdd, Nat.reduceSub, Nat.reduceBEq, Nat.reduceEqDiff, Nat.reduceLT, Nat.reduceLeDiff, Int.reduceBEq, Int.reduceEq, Nat.reducePow, Int.reducePow, IntWalk.i64_in, IntKind.bits, eqAV, eqL, leafEq, andO, fillV, buildSV, List.getElem?_toArray, List.getElem?_cons_zero, List.getElem?_cons_succ, List.getElem?_nil, Int.reduceGT, Int.reduceGE, Int.reduceBNe, Bool.true_and, Bool.and_true, Bool.false_and, Bool.and_false, Bool.and_self, IntWalk.u64_in, Int.cast_ofNat_Int, callF1, pad16, pad_0, pad_1, pad_2, pad_3, pad_4, pad_5, pad_6, pad_7, pad_8, pad_9, pad_10, pad_11, pad_12, pad_13, pad_14, pad_15, gc0, gc1, gc2, gc3, gc4, gc5, gc6, gc7, gc8, gc9, gc10, gc11, gc12, gc13, gc14, gc15, gcS, sc0, sc1, sc2, sc3, sc4, sc5, sc6, sc7, sc8, sc9, sc10, sc11, sc12, sc13, sc14, sc15, scS, List.drop_succ_cons, List.drop_nil, x_pan, s_pan, b_pan, pE_ret, pE_pan, pE_none, pE_ite, pvE_some, pvE_none, pvE_ite, rv_some, rv_none, rv_ite, oR_ret, t_mv, t_pick, t_alloc, t_box, t_build, t_buildS, t_load, t_store, t_nilck, t_bin, t_eqb, t_eqA, t_eqp, t_un, t_conv, t_field, t_idxA, t_faddr, t_iaddrS, t_iaddrA, t_ext, t_len, t_mm, t_call, t_ifc, t_fn, t_slc, t_slcA, t_slcT, t_tass, t_isn, t_mks, t_app, t_pan, panE_i, optE_none, optE_some, bnd_none, bnd_int, slA_none, slA_some, appR_some, appOld_cells, newsV_s, newsV_n, lenS_s, appV_nil, appV_some, mksV_i, sh_c, sh_g, f_pan, endD_ret, dfr_normal, dfr_ret, dfr_pan, restD_normal, callD1, callC1, tassV, isnV, slcV, slcAV, slcTV, slcB, appNew, Option.bind_some, Option.bind_none, d_pan, h_pan, wrH_eq, wrX_cells, wrU_some, upH_nil, upH_cons, lk_upH, effR_some, effR_none, effR_ite, Option.isNone_none, Option.isNone_some, slA_zero, call_yield, e_range, it_func, wy_same, y_call, isLp_self, beg_normal, end_normal, end_ret, end_exit, end_ite, aft_ret, aft_ready, aft_done, aft_exit, setP_cons, setP_nil, sh_r, t_mkmap, t_mlook, t_mupd, t_mdel, mapF_some, lookF_some, setM_some, lookR_t, lookR_n, lookR_f, lookR_fn, lookV, mupdV, mdelV, mkM]
    refine ok_some (.inr ⟨by simp, rfl, rfl, vs, [], p, hS, hp, hs, ⟨?_, ?_, ?_, ?_, ?_, ?_, ?_, ?_, ?_, ?_⟩, hsb, .inl ⟨rfl, rfl⟩⟩)
    all_goals simp (maxSteps := 10000000) (disch := omega) only [kp.l, kp.t0, kp.t5, kp.t6, kp.t17, kp.t18, kp.t19, kp.t7, kp.t8, kp.t9, lenV_sl, Int.toNat_natCast, bft, btf, gtst, st_len, cond_true, cond_false, Nat.reduceBEq, Nat.reduceLT, decide_true, beq_self_eq_true, if_true, if_false]
  · simp only [List.concat_eq_append] at *
    have htb := rsp_b (fK K) i 0 t (by rw [hS]; simp)
    have hkl : k.length ≤ 256 := by
      have := rsp_len (fK K) i 0
      rw [hS] at this
      simp at this
      omega
    simp only [List.length_append, List.length_cons, List.length_nil, Nat.zero_add] at hls ⊢
    have c1 : ((k.length + 1 : Nat) : Int) > 0 := by omega
    have c2 : ((k.length + 1 : Nat) : Int) - 1 = (k.length : Int) := by omega
    have c3 : (0 : Int) ≤ (k.length : Int) := by omega
    have c4 : k.length < k.length + 1 := by omega
    rcases hs with ⟨h, _⟩ | ⟨bs, cap, rest, rfl, hBs, h0s, hle, hlks⟩
    · simp at h
    have hsM : SlM f1 1 B H0 H (.slice (some ⟨bs, 0, none⟩) ((k ++ [t]).map iC).length cap) (k.map iC ++ [iC t]) := .inr ⟨bs, cap, rest, by simp, hBs, h0s, by simpa using hle, by simpa using hlks⟩
    have hpop := hsM.pop
    simp only [List.length_map, List.length_append, List.length_cons, List.length_nil, Nat.zero_add] at hpop hle kp ⊢
    have rs := fun o n => rdB_none (o := o) (n := n) hBs
    have ts1 : tk (fl f1 ((k ++ [t]).map iC) ++ rest) k.length 1 = some [.int .i64 (t : Int)] := by
      have := fl_read f1_len ((k ++ [t]).map iC) rest k.length 0 1 0 (by simp) (by omega)
      rw [Nat.mul_one, Nat.add_zero] at this
      rw [this]
      simp [List.getD_eq_getElem?_getD, f1, tk, iC]
    have t1 : (t : Int) - 1 = ((t - 1 : Nat) : Int) := by omega
    have t2 : (0 : Int) ≤ ((t - 1 : Nat) : Int) := by omega
    have t3 : t - 1 < K.length := by omega
    have t4 : IntKind.i64.wrap ((t : Int) - 1) = ((t - 1 : Nat) : Int) := by rw [IntWalk.i64_in _ (by omega)]; exact t1
    obtain ⟨bv, ov, cv, rfl, _, rv⟩ := hv.at (by omega)
    have rk : rdO H B bv (ov + (t - 1)) 1 (rdB B bv (ov + (t - 1)) 1) = some [.int .u64 (K.getD (t - 1) 0)] := by
      have := rv H Fr.refl (t - 1) 0 1 0 t3 (by omega)
      rw [Nat.mul_one, Nat.add_zero] at this
      exact this.trans rfl
    have eb := f26 hG hT (hK.at i) (hK.at (t - 1))
    have efk : decide (mixI (K.getD i 0) > mixI (K.getD (t - 1) 0)) = decide (fK K i > fK K (t - 1)) := rfl
    rw [efk] at eb
    generalize K.getD (t - 1) 0 = kt at rk eb
    by_cases hgt : fK K i > fK K (t - 1)
    · rw [decide_eq_true hgt] at eb
      have cc : (k.length : Int) ≤ (cap : Int) := by omega
      simp -implicitDefEqProofs (maxSteps := 10000000) (disch := omega) only [T10, L10, G10_26, V26_eq, hB, hR, hI, lb10i, kp.l, kp.t0, kp.t5, kp.t6, kp.t17, kp.t18, kp.t19, kp.t7, kp.t8, kp.t9, lenV_sl, Int.toNat_natCast, bft, btf, gtst, st_len, hls, c1, c2, c3, c4, rs, hBs, hlks, ts1, t1, t2, t3, t4, rk, eb, cc, slA_ite3, ite_self, Nat.sub_zero, Nat.mul_one, pad, e_skip, e_ops, e_draw, e_fork, shg_n, shg_c, shg_g, shg_r, d_none, d_nil, d_cons, d_ite, h_none, h_nil, h_cons, h_ite, eqS_same, lightV, e_seq, e_cond, e_block, e_exit, e_ret, s_normal, s_ret, s_exit, s_none, s_ite, b_normal, b_ret, b_exit, b_none, b_ite, c_bool, x_none, x_nil, x_cons, x_ite, p_some, p_none, p_ite, pt_some, pt_none, pv_some, pv_none, pv_ite, w_none, w_some, i_bool, i_undef, bt, bf, v_tmp, v_const, v_global, v_func, evs, f_normal, f_ret, f_none, f_ite, r_some, co_some, l_ptr, m_agg, m_one, sh_app, lk_nil, lk_cons, rd_eq, rdO_some, rdO_none, rdN_none, rdL_some, rdL_none, wrB_none, unitR_some, wr_nil, wr_here, wr_skip, k_cells, tk_zero, tk_take, tk_skip, tkC_some, call_func, gt, st, binV, arith, isSh, storeV, all1, idxAV, fieldV, faddrV, iaddrSV, iaddrAV, pickV, convV, unV, eqbV, eqpV, extV, mm2, mmV, nilckV, ress, res1, retV, Value.cells, cond_true, cond_false, Bool.true_or, Bool.false_or, Bool.or_true, Bool.or_false, beq_self_eq_true, if_true, if_false, ite_true, ite_false, decide_true, decide_false, decide_eq_true_eq, reduceIte, Nat.zero_add, Nat.add_zero, and_self, true_and, and_true, List.size_toArray, List.length_cons, List.length_nil, List.append_nil, List.nil_append, Int.toNat_zero, Bool.not_false, Bool.not_true, Bool.not_not, Bool.false_eq_true, Bool.true_eq_false, reduceCtorEq, Int.reduceLT, Int.reduceLE, Int.reduceToNat, Int.reduceAdd, Int.reduceSub, Int.reduceMul, Int.reduceNeg, Nat.reduceMul, Nat.reduceAdd, Nat.reduceSub, Nat.reduceBEq, Nat.reduceEqDiff, Nat.reduceLT, Nat.reduceLeDiff, Int.reduceBEq, Int.reduceEq, Nat.reducePow, Int.reducePow, IntWalk.i64_in, IntKind.bits, eqAV, eqL, leafEq, andO, fillV, buildSV, List.getElem?_toArray, List.getElem?_cons_zero, List.getElem?_cons_succ, List.getElem?_nil, Int.reduceGT, Int.reduceGE, Int.reduceBNe, Bool.true_and, Bool.and_true, Bool.false_and, Bool.and_false, Bool.and_self, IntWalk.u64_in, Int.cast_ofNat_Int, callF1, pad16, pad_0, pad_1, pad_2, pad_3, pad_4, pad_5, pad_6, pad_7, pad_8, pad_9, pad_10, pad_11, pad_12, pad_13, pad_14, pad_15, gc0, gc1, gc2, gc3, gc4, gc5, gc6, gc7, gc8, gc9, gc10, gc11, gc12, gc13, gc14, gc15, gcS, sc0, sc1, sc2, sc3, sc4, sc5, sc6, sc7, sc8, sc9, sc10, sc11, sc12, sc13, sc14, sc15, scS, List.drop_succ_cons, List.drop_nil, x_pan, s_pan, b_pan, pE_ret, pE_pan, pE_none, pE_ite, pvE_some, pvE_none, pvE_ite, rv_some, rv_none, rv_ite, oR_ret, t_mv, t_pick, t_alloc, t_box, t_build, t_buildS, t_load, t_store, t_nilck, t_bin, t_eqb, t_eqA, t_eqp, t_un, t_conv, t_field, t_idxA, t_faddr, t_iaddrS, t_iaddrA, t_ext, t_len, t_mm, t_call, t_ifc, t_fn, t_slc, t_slcA, t_slcT, t_tass, t_isn, t_mks, t_app, t_pan, panE_i, optE_none, optE_some, bnd_none, bnd_int, slA_none, slA_some, appR_some, appOld_cells, newsV_s, newsV_n, lenS_s, appV_nil, appV_some, mksV_i, sh_c, sh_g, f_pan, endD_ret, dfr_normal, dfr_ret, dfr_pan, restD_normal, callD1, callC1, tassV, isnV, slcV, slcAV, slcTV, slcB, appNew, Option.bind_some, Option.bind_none, d_pan, h_pan, wrH_eq, wrX_cells, wrU_some, upH_nil, upH_cons, lk_upH, effR_some, effR_none, effR_ite, Option.isNone_none, Option.isNone_some, slA_zero, call_yield, e_range, it_func, wy_same, y_call, isLp_self, beg_normal, end_normal, end_ret, end_exit, end_ite, aft_ret, aft_ready, aft_done, aft_exit, setP_cons, setP_nil, sh_r, t_mkmap, t_mlook, t_mupd, t_mdel, mapF_some, lookF_some, setM_some, lookR_t, lookR_n, lookR_f, lookR_fn, lookV, mupdV, mdelV, mkM]
      refine ok_some (.inl ⟨rfl, k.length, by omega, _, _, k, t :: p, rfl, by rw [hS]; simp, fun y hy => ?_, hpop, ⟨?_, ?_, ?_, ?_, ?_, ?_, ?_, ?_, ?_, ?_⟩, hsb, rfl⟩)
      · rcases List.mem_cons.1 hy with rfl | hy
        · exact hgt
        · exact hp y hy
      all_goals simp (maxSteps := 10000000) (disch := omega) only [kp.l, kp.t0, kp.t5, kp.t6, kp.t17, kp.t18, kp.t19, kp.t7, kp.t8, kp.t9, lenV_sl, Int.toNat_natCast, bft, btf, gtst, st_len, List.headD_cons, cond_true, cond_false, Nat.reduceBEq, Nat.reduceLT, decide_true, beq_self_eq_true, if_true, if_false]
    · rw [decide_eq_false hgt] at eb
      have hll := lnk_len (K := K) (i := i) (by omega)
      have w1' : wr (fl p2 (lnk K i)) ((t - 1) * 2 + 1) [.int .i64 ((i : Int) + 1)] = some (fl p2 ((lnk K i).set (t - 1) ⟨((lnk K i).getD (t - 1) q0).l, ((i : Int) + 1)⟩)) := wr_fl p2_len _ _ 1 _ q0 _ (by omega) (by simp) rfl
      simp -implicitDefEqProofs (maxSteps := 10000000) (disch := omega) only [T10, L10, G10_26, V26_eq, hB, hR, hI, lb10i, kp.l, kp.t0, kp.t5, kp.t6, kp.t17, kp.t18, kp.t19, kp.t7, kp.t8, kp.t9, lenV_sl, Int.toNat_natCast, bft, btf, gtst, st_len, hls, c1, c2, c3, c4, rs, hBs, hlks, ts1, t1, t2, t3, t4, rk, eb, Nat.mul_one, hlb, hlb0, hBb, w1', pad, e_skip, e_ops, e_draw, e_fork, shg_n, shg_c, shg_g, shg_r, d_none, d_nil, d_cons, d_ite, h_none, h_nil, h_cons, h_ite, eqS_same, lightV, e_seq, e_cond, e_block, e_exit, e_ret, s_normal, s_ret, s_exit, s_none, s_ite, b_normal, b_ret, b_exit, b_none, b_ite, c_bool, x_none, x_nil, x_cons, x_ite, p_some, p_none, p_ite, pt_some, pt_none, pv_some, pv_none, pv_ite, w_none, w_some, i_bool, i_undef, bt, bf, v_tmp, v_const, v_global, v_func, evs, f_normal, f_ret, f_none, f_ite, r_some, co_some, l_ptr, m_agg, m_one, sh_app, lk_nil, lk_cons, rd_eq, rdO_some, rdO_none, rdN_none, rdL_some, rdL_none, wrB_none, unitR_some, wr_nil, wr_here, wr_skip, k_cells, tk_zero, tk_take, tk_skip, tkC_some, call_func, gt, st, binV, arith, isSh, storeV, all1, idxAV, fieldV, faddrV, iaddrSV, iaddrAV, pickV, convV, unV, eqbV, eqpV, extV, mm2, mmV, nilckV, ress, res1, retV, Value.cells, cond_true, cond_false, Bool.true_or, Bool.false_or, Bool.or_true, Bool.or_false, beq_self_eq_true, if_true, if_false, ite_true, ite_false, decide_true, decide_false, decide_eq_true_eq, reduceIte, Nat.zero_add, Nat.add_zero, and_self, true_and, and_true, List.size_toArray, List.length_cons, List.length_nil, List.append_nil, List.nil_append, Int.toNat_zero, Bool.not_false, Bool.not_true, Bool.not_not, Bool.false_eq_true, Bool.true_eq_false, reduceCtorEq, Int.reduceLT, Int.reduceLE, Int.reduceToNat, Int.reduceAdd, Int.reduceSub, Int.reduceMul, Int.reduceNeg, Nat.reduceMul, Nat.reduceAdd, Nat.reduceSub, Nat.reduceBEq, Nat.reduceEqDiff, Nat.reduceLT, Nat.reduceLeDiff, Int.reduceBEq, Int.reduceEq, Nat.reducePow, Int.reducePow, IntWalk.i64_in, IntKind.bits, eqAV, eqL, leafEq, andO, fillV, buildSV, List.getElem?_toArray, List.getElem?_cons_zero, List.getElem?_cons_succ, List.getElem?_nil, Int.reduceGT, Int.reduceGE, Int.reduceBNe, Bool.true_and, Bool.and_true, Bool.false_and, Bool.and_false, Bool.and_self, IntWalk.u64_in, Int.cast_ofNat_Int, callF1, pad16, pad_0, pad_1, pad_2, pad_3, pad_4, pad_5, pad_6, pad_7, pad_8, pad_9, pad_10, pad_11, pad_12, pad_13, pad_14, pad_15, gc0, gc1, gc2, gc3, gc4, gc5, gc6, gc7, gc8, gc9, gc10, gc11, gc12, gc13, gc14, gc15, gcS, sc0, sc1, sc2, sc3, sc4, sc5, sc6, sc7, sc8, sc9, sc10, sc11, sc12, sc13, sc14, sc15, scS, List.drop_succ_cons, List.drop_nil, x_pan, s_pan, b_pan, pE_ret, pE_pan, pE_none, pE_ite, pvE_some, pvE_none, pvE_ite, rv_some, rv_none, rv_ite, oR_ret, t_mv, t_pick, t_alloc, t_box, t_build, t_buildS, t_load, t_store, t_nilck, t_bin, t_eqb, t_eqA, t_eqp, t_un, t_conv, t_field, t_idxA, t_faddr, t_iaddrS, t_iaddrA, t_ext, t_len, t_mm, t_call, t_ifc, t_fn, t_slc, t_slcA, t_slcT, t_tass, t_isn, t_mks, t_app, t_pan, panE_i, optE_none, optE_some, bnd_none, bnd_int, slA_none, slA_some, appR_some, appOld_cells, newsV_s, newsV_n, lenS_s, appV_nil, appV_some, mksV_i, sh_c, sh_g, f_pan, endD_ret, dfr_normal, dfr_ret, dfr_pan, restD_normal, callD1, callC1, tassV, isnV, slcV, slcAV, slcTV, slcB, appNew, Option.bind_some, Option.bind_none, d_pan, h_pan, wrH_eq, wrX_cells, wrU_some, upH_nil, upH_cons, lk_upH, effR_some, effR_none, effR_ite, Option.isNone_none, Option.isNone_some, slA_zero, call_yield, e_range, it_func, wy_same, y_call, isLp_self, beg_normal, end_normal, end_ret, end_exit, end_ite, aft_ret, aft_ready, aft_done, aft_exit, setP_cons, setP_nil, sh_r, t_mkmap, t_mlook, t_mupd, t_mdel, mapF_some, lookF_some, setM_some, lookR_t, lookR_n, lookR_f, lookR_fn, lookV, mupdV, mdelV, mkM]
      refine ok_some (.inr ⟨by simp, rfl, rfl, _, k ++ [t], p, hS, hp, .inr ⟨bs, cap, rest, rfl, hBs, h0s, by simpa using hle, hlks⟩, ⟨?_, ?_, ?_, ?_, ?_, ?_, ?_, ?_, ?_, ?_⟩, hsb, .inr ⟨k, t, rfl, hgt, rfl⟩⟩)
      all_goals simp (maxSteps := 10000000) (disch := omega) only [kp.l, kp.t0, kp.t5, kp.t6, kp.t17, kp.t18, kp.t19, kp.t7, kp.t8, kp.t9, lenV_sl, Int.toNat_natCast, bft, btf, gtst, st_len, List.length_map, List.length_append, List.length_cons, List.length_nil, Nat.zero_add, cond_true, cond_false, Nat.reduceBEq, Nat.reduceLT, decide_true, beq_self_eq_true, if_true, if_false]
end Go.Proofs.YtlkeeckhileedaaDoor
namespace Go.Proofs.YtlkeeckhileedaaDoor
open Go.Proofs.YtlkeeckhileedaaDoor.K Go.ChangeShapes Go.WideShapes Go.ChangeAt Go.RowKit
set_option maxRecDepth 100000
set_option linter.unusedSimpArgs false
set_option linter.unusedVariables false

def lb10 : LC := (.seq (.ops [⟨(some 20), .bin .lss (.tmp 19) (.tmp 18), none⟩])
 (.seq (.cond (.tmp 20) .skip
 (.exit 0))
 (.seq (.block 1 (.seq (.ops [⟨(some 21), .mv (.tmp 19), none⟩, ⟨(some 22), .iaddrS 1 (.tmp 17) (.tmp 19), none⟩, ⟨(some 23), .load false 1 (.tmp 22), none⟩, ⟨(some 7), .mv (.tmp 21), none⟩, ⟨(some 8), .mv (.tmp 23), none⟩])
 (.seq (.seq (.ops [⟨(some 24), .mv (.tmp 7), none⟩, ⟨(some 25), .bin .gtr (.tmp 24) (.const (.int .i64 0)), none⟩, ⟨(some 26), .mv (.tmp 25), none⟩, ⟨(some 27), .mv (.tmp 0), (some (26, true))⟩, ⟨(some 28), .mv (.tmp 7), (some (26, true))⟩, ⟨(some 29), .bin .sub (.tmp 28) (.const (.int .i64 1)), (some (26, true))⟩, ⟨(some 30), .iaddrS 1 (.tmp 27) (.tmp 29), (some (26, true))⟩, ⟨(some 31), .load false 1 (.tmp 30), (some (26, true))⟩, ⟨(some 32), .mv (.tmp 8), (some (26, true))⟩, ⟨(some 33), .bin .geq (.tmp 31) (.tmp 32), (some (26, true))⟩, ⟨(some 34), .pick (.tmp 26) (.tmp 33) (.const (.bool false)), none⟩])
 (.cond (.tmp 34) (.seq (.ops [⟨(some 2), .mv (.const (.int .i64 0)), none⟩, ⟨(some 3), .mv (.const (.slice none 0 0)), none⟩, ⟨(some 4), .mv (.const (.int .i64 1)), none⟩])
 .ret)
 .skip))
 (.seq (.ops [⟨(some 9), .mv (.const (.int .i64 0)), none⟩])
 (.seq (.block 2 (.loop (.seq (.seq (.ops [⟨(some 35), .mv (.tmp 6), none⟩, ⟨(some 36), .len false (.tmp 35), none⟩, ⟨(some 37), .bin .gtr (.tmp 36) (.const (.int .i64 0)), none⟩])
 (.cond (.tmp 37) .skip
 (.exit 2)))
 (.block 3 (.seq (.ops [⟨(some 38), .mv (.tmp 6), none⟩, ⟨(some 39), .mv (.tmp 6), none⟩, ⟨(some 40), .len false (.tmp 39), none⟩, ⟨(some 41), .bin .sub (.tmp 40) (.const (.int .i64 1)), none⟩, ⟨(some 42), .iaddrS 1 (.tmp 38) (.tmp 41), none⟩, ⟨(some 43), .load false 1 (.tmp 42), none⟩, ⟨(some 10), .mv (.tmp 43), none⟩])
 (.seq (.seq (.ops [⟨(some 44), .mv (.tmp 8), none⟩, ⟨(some 45), .mv (.tmp 0), none⟩, ⟨(some 46), .mv (.tmp 10), none⟩, ⟨(some 47), .bin .sub (.tmp 46) (.const (.int .i64 1)), none⟩, ⟨(some 48), .iaddrS 1 (.tmp 45) (.tmp 47), none⟩, ⟨(some 49), .load false 1 (.tmp 48), none⟩, ⟨(some 50), .call (.func 26) [(.tmp 44), (.tmp 49)], none⟩, ⟨(some 51), .un .not (.tmp 50), none⟩])
 (.cond (.tmp 51) (.seq (.ops [⟨(some 52), .mv (.tmp 5), none⟩, ⟨(some 53), .mv (.tmp 10), none⟩, ⟨(some 54), .bin .sub (.tmp 53) (.const (.int .i64 1)), none⟩, ⟨(some 55), .mv (.tmp 7), none⟩, ⟨(some 56), .bin .add (.tmp 55) (.const (.int .i64 1)), none⟩, ⟨(some 57), .iaddrS 2 (.tmp 52) (.tmp 54), none⟩, ⟨(some 58), .iaddrA 1 2 (.tmp 57) (.const (.int .i64 1)), none⟩, ⟨none, .store 1 (.tmp 58) (.tmp 56), none⟩])
 (.exit 2))
 .skip))
 (.draw [⟨⟨(some 59), .mv (.tmp 10), none⟩, []⟩, ⟨⟨(some 60), .mv (.tmp 6), none⟩, []⟩, ⟨⟨(some 61), .mv (.tmp 6), none⟩, []⟩, ⟨⟨(some 62), .len false (.tmp 61), none⟩, []⟩, ⟨⟨(some 63), .bin .sub (.tmp 62) (.const (.int .i64 1)), none⟩, []⟩, ⟨⟨(some 64), .slc 1 (.tmp 60) none (some (.tmp 63)) none, none⟩, []⟩, ⟨⟨(some 9), .mv (.tmp 59), none⟩, []⟩, ⟨⟨(some 6), .mv (.tmp 64), none⟩, []⟩])))))))
 (.seq (.ops [⟨(some 65), .mv (.tmp 5), none⟩, ⟨(some 66), .mv (.tmp 7), none⟩, ⟨(some 67), .mv (.tmp 9), none⟩, ⟨(some 68), .iaddrS 2 (.tmp 65) (.tmp 66), none⟩, ⟨(some 69), .iaddrA 1 2 (.tmp 68) (.const (.int .i64 0)), none⟩, ⟨none, .store 1 (.tmp 69) (.tmp 67), none⟩])
 (.ops [⟨(some 70), .mv (.tmp 6), none⟩, ⟨(some 71), .mv (.tmp 7), none⟩, ⟨(some 72), .bin .add (.tmp 71) (.const (.int .i64 1)), none⟩, ⟨(some 73), .buildS [(.int .i64 0)] 1 [(0, 1, (.tmp 72))], none⟩, ⟨(some 74), .app [(.int .i64 0)] 8 (.tmp 70) (.tmp 73), none⟩, ⟨(some 6), .mv (.tmp 74), none⟩])))))))
 (.ops [⟨(some 75), .bin .add (.tmp 19) (.const (.int .i64 1)), none⟩, ⟨(some 19), .mv (.tmp 75), none⟩]))))
theorem lnk_at {K : List Int} {i : Nat} (hi : i < K.length) : (lnk K i).getD i q0 = q0 := by
  unfold lnk
  have hl := T_len (fK K) i 0
  refine getD_some ?_
  rw [List.getElem?_append_right (by rw [List.length_map, hl]; exact Nat.le_refl _), List.length_map, hl, Nat.sub_self, List.getElem?_replicate, if_pos (by omega)]
theorem lnk_0 (K : List Int) : lnk K 0 = List.replicate K.length q0 := by unfold lnk; rw [T_zero]; simp
theorem lnk_n (K : List Int) : lnk K K.length = (T (fK K) 0 K.length).2.map mp := by unfold lnk; rw [Nat.sub_self]; simp
def R10 (B : OH) (H0 : HL) (K : List Int) (v : Value) (b : Nat) (x : X) (s : Go.Proofs.YtlkeeckhileedaaDoor.K.S) : Prop :=
  good B s.H s.N ∧ Fr H0 s.H ∧ s.t.length = 83 ∧
  ((x = .exit 0 ∧ Asc K ∧ ∃ vs, gt s.t 6 = vs ∧ gt s.t 5 = .slice (some ⟨b, 0, none⟩) K.length K.length ∧ lk s.H b = some (.cells (fl p2 (lnk K K.length)) (K.length * 2)) ∧ SlM f1 1 B H0 s.H vs ((rsp (fK K) 0 K.length).map iC)) ∨
   (x = .ret ∧ ¬ Asc K ∧ gt s.t 2 = .int .i64 0 ∧ gt s.t 3 = .slice none 0 0 ∧ gt s.t 4 = .int .i64 1))
set_option maxHeartbeats 8000000 in
theorem loop10 {B : OH} {H0 H : HL} {N : St} {v : Value} {K : List Int} {b : Nat} (hT : Tab B) (hv : SlR w1 1 B H0 v K) (hK : U64s K) (hKl : K.length ≤ 256) (hN : good B H N) (hF0 : Fr H0 H) (hBb : B b = none) (h0b : lk H0 b = none) (hlb : lk H b = some (.cells (fl p2 (List.replicate K.length q0)) (K.length * 2)))
    {ts : List Value} (kp : K10 v (.slice none 0 0) b K.length 0 ts) {F : Nat} (hF : 400 + K.length + 1 ≤ F) :
    Ok (exec B { f := G10 B } F (LC.loop lb10) ⟨ts, H, N⟩) (R10 B H0 K v b) := by
  have hlv := hv.len
  refine loop_rule (n0 := 400) (fun q s => ∃ ts H' N' vs, ∃ i : Nat, s = ⟨ts, H', N'⟩ ∧ K10 v vs b K.length i ts ∧ good B H' N' ∧ Fr H0 H' ∧ lk H' b = some (.cells (fl p2 (lnk K i)) (K.length * 2)) ∧ SlM f1 1 B H0 H' vs ((rsp (fK K) 0 i).map iC) ∧ slB vs ≠ some b ∧ (∀ j, j + 1 < i → K.getD j 0 < K.getD (j + 1) 0) ∧ i ≤ K.length ∧ q = K.length - i) _ ?_ K.length _ ⟨ts, H, N, _, 0, rfl, kp, hN, hF0, by rw [lnk_0]; exact hlb, by rw [rsp_zero]; exact .inl ⟨rfl, rfl⟩, by simp [slB], fun j hj => by omega, by omega, rfl⟩ _ hF
  clear kp hN hF0 hlb hF F ts H N
  rintro z q s ⟨ts, H', N', vs, i, rfl, kp, g, fr, hlb, hs, hsb, hasc, hi, rfl⟩
  have hB := good_B g
  have hR := good_rdB g
  have hI := beqN g.1.1
  have hc1 : ((i + 1 : Nat) : Int) = (i : Int) + 1 := by omega
  by_cases hin : i < K.length
  case neg =>
    obtain rfl : i = K.length := by omega
    simp -implicitDefEqProofs (maxSteps := 10000000) (disch := omega) only [T10, L10, G10_26, V26_eq, hB, hR, hI, lb10, kp.l, kp.t0, kp.t5, kp.t6, kp.t17, kp.t18, kp.t19, lenV_sl, Int.toNat_natCast, bft, btf, gtst, st_len, Int.lt_irrefl, pad, e_skip, e_ops, e_draw, e_fork, shg_n, shg_c, shg_g, shg_r, d_none, d_nil, d_cons, d_ite, h_none, h_nil, h_cons, h_ite, eqS_same, lightV, e_seq, e_cond, e_block, e_exit, e_ret, s_normal, s_ret, s_exit, s_none, s_ite, b_normal, b_ret, b_exit, b_none, b_ite, c_bool, x_none, x_nil, x_cons, x_ite, p_some, p_none, p_ite, pt_some, pt_none, pv_some, pv_none, pv_ite, w_none, w_some, i_bool, i_undef, bt, bf, v_tmp, v_const, v_global, v_func, evs, f_normal, f_ret, f_none, f_ite, r_some, co_some, l_ptr, m_agg, m_one, sh_app, lk_nil, lk_cons, rd_eq, rdO_some, rdO_none, rdN_none, rdL_some, rdL_none, wrB_none, unitR_some, wr_nil, wr_here, wr_skip, k_cells, tk_zero, tk_take, tk_skip, tkC_some, call_func, gt, st, binV, arith, isSh, storeV, all1, idxAV, fieldV, faddrV, iaddrSV, iaddrAV, pickV, convV, unV, eqbV, eqpV, extV, mm2, mmV, nilckV, ress, res1, retV, Value.cells, cond_true, cond_false, Bool.true_or, Bool.false_or, Bool.or_true, Bool.or_false, beq_self_eq_true, if_true, if_false, ite_true, ite_false, decide_true, decide_false, decide_eq_true_eq, reduceIte, Nat.zero_add, Nat.add_zero, and_self, true_and, and_true, List.size_toArray, List.length_cons, List.length_nil, List.append_nil, List.nil_append, Int.toNat_zero, Bool.not_false, Bool.not_true, Bool.not_not, Bool.false_eq_true, Bool.true_eq_false, reduceCtorEq, Int.reduceLT, Int.reduceLE, Int.reduceToNat, Int.reduceAdd, Int.reduceSub, Int.reduceMul, Int.reduceNeg, Nat.reduceMul, Nat.reduceAdd, Nat.reduceSub, Nat.reduceBEq, Nat.reduceEqDiff, Nat.reduceLT, Nat.reduceLeDiff, Int.reduceBEq, Int.reduceEq, Nat.reducePow, Int.reducePow, IntWalk.i64_in, IntKind.bits, eqAV, eqL, leafEq, andO, fillV, buildSV, List.getElem?_toArray, List.getElem?_cons_zero, List.getElem?_cons_succ, List.getElem?_nil, Int.reduceGT, Int.reduceGE, Int.reduceBNe, Bool.true_and, Bool.and_true, Bool.false_and, Bool.and_false, Bool.and_self, IntWalk.u64_in, Int.cast_ofNat_Int, callF1, pad16, pad_0, pad_1, pad_2, pad_3, pad_4, pad_5, pad_6, pad_7, pad_8, pad_9, pad_10, pad_11, pad_12, pad_13, pad_14, pad_15, gc0, gc1, gc2, gc3, gc4, gc5, gc6, gc7, gc8, gc9, gc10, gc11, gc12, gc13, gc14, gc15, gcS, sc0, sc1, sc2, sc3, sc4, sc5, sc6, sc7, sc8, sc9, sc10, sc11, sc12, sc13, sc14, sc15, scS, List.drop_succ_cons, List.drop_nil, x_pan, s_pan, b_pan, pE_ret, pE_pan, pE_none, pE_ite, pvE_some, pvE_none, pvE_ite, rv_some, rv_none, rv_ite, oR_ret, t_mv, t_pick, t_alloc, t_box, t_build, t_buildS, t_load, t_store, t_nilck, t_bin, t_eqb, t_eqA, t_eqp, t_un, t_conv, t_field, t_idxA, t_faddr, t_iaddrS, t_iaddrA, t_ext, t_len, t_mm, t_call, t_ifc, t_fn, t_slc, t_slcA, t_slcT, t_tass, t_isn, t_mks, t_app, t_pan, panE_i, optE_none, optE_some, bnd_none, bnd_int, slA_none, slA_some, appR_some, appOld_cells, newsV_s, newsV_n, lenS_s, appV_nil, appV_some, mksV_i, sh_c, sh_g, f_pan, endD_ret, dfr_normal, dfr_ret, dfr_pan, restD_normal, callD1, callC1, tassV, isnV, slcV, slcAV, slcTV, slcB, appNew, Option.bind_some, Option.bind_none, d_pan, h_pan, wrH_eq, wrX_cells, wrU_some, upH_nil, upH_cons, lk_upH, effR_some, effR_none, effR_ite, Option.isNone_none, Option.isNone_some, slA_zero, call_yield, e_range, it_func, wy_same, y_call, isLp_self, beg_normal, end_normal, end_ret, end_exit, end_ite, aft_ret, aft_ready, aft_done, aft_exit, setP_cons, setP_nil, sh_r, t_mkmap, t_mlook, t_mupd, t_mdel, mapF_some, lookF_some, setM_some, lookR_t, lookR_n, lookR_f, lookR_fn, lookV, mupdV, mdelV, mkM]
    refine ok_some (.inr ⟨by simp, g, fr, ?_, .inl ⟨rfl, fun j hj => hasc j hj, vs, ?_, ?_, hlb, hs⟩⟩)
    all_goals simp (maxSteps := 10000000) (disch := omega) only [kp.l, kp.t0, kp.t5, kp.t6, kp.t17, kp.t18, kp.t19, lenV_sl, Int.toNat_natCast, bft, btf, gtst, st_len, cond_true, cond_false, Nat.reduceBEq, Nat.reduceLT, decide_true, beq_self_eq_true, if_true, if_false]
  have hin' : (i : Int) < (K.length : Int) := by omega
  have i0 : (0 : Int) ≤ (i : Int) := by omega
  have hvr := hv
  obtain ⟨bv, ov, cv, rfl, _, rv⟩ := hv.at (by omega)
  have rk : rdO H' B bv (ov + i) 1 (rdB B bv (ov + i) 1) = some [.int .u64 (K.getD i 0)] := by
    have := rv H' fr i 0 1 0 hin (by omega)
    rw [Nat.mul_one, Nat.add_zero] at this
    exact this.trans rfl
  have hfirst : (¬ (i : Int) > 0) ∨ ∃ j : Nat, i = j + 1 ∧ (i : Int) > 0 ∧ (i : Int) - 1 = (j : Int) ∧ (0 : Int) ≤ (j : Int) ∧ j < K.length ∧ rdO H' B bv (ov + j) 1 (rdB B bv (ov + j) 1) = some [.int .u64 (K.getD j 0)] := by
    by_cases h : i = 0
    · left; omega
    · right
      refine ⟨i - 1, by omega, by omega, by omega, by omega, by omega, ?_⟩
      have := rv H' fr (i - 1) 0 1 0 (by omega) (by omega)
      rw [Nat.mul_one, Nat.add_zero] at this
      exact this.trans rfl
  by_cases hbad : ∃ j : Nat, i = j + 1 ∧ K.getD j 0 ≥ K.getD i 0
  · obtain ⟨j, rfl, hge⟩ := hbad
    rcases hfirst with h | ⟨j', e1, e2, e3, e4, e5, e6⟩
    · omega
    · obtain rfl : j = j' := by omega
      simp -implicitDefEqProofs (maxSteps := 10000000) (disch := omega) only [T10, L10, G10_26, V26_eq, hB, hR, hI, lb10, kp.l, kp.t0, kp.t5, kp.t6, kp.t17, kp.t18, kp.t19, lenV_sl, Int.toNat_natCast, bft, btf, gtst, st_len, hin, hin', i0, rk, e2, e3, e4, e5, e6, hge, Nat.mul_one, pad, e_skip, e_ops, e_draw, e_fork, shg_n, shg_c, shg_g, shg_r, d_none, d_nil, d_cons, d_ite, h_none, h_nil, h_cons, h_ite, eqS_same, lightV, e_seq, e_cond, e_block, e_exit, e_ret, s_normal, s_ret, s_exit, s_none, s_ite, b_normal, b_ret, b_exit, b_none, b_ite, c_bool, x_none, x_nil, x_cons, x_ite, p_some, p_none, p_ite, pt_some, pt_none, pv_some, pv_none, pv_ite, w_none, w_some, i_bool, i_undef, bt, bf, v_tmp, v_const, v_global, v_func, evs, f_normal, f_ret, f_none, f_ite, r_some, co_some, l_ptr, m_agg, m_one, sh_app, lk_nil, lk_cons, rd_eq, rdO_some, rdO_none, rdN_none, rdL_some, rdL_none, wrB_none, unitR_some, wr_nil, wr_here, wr_skip, k_cells, tk_zero, tk_take, tk_skip, tkC_some, call_func, gt, st, binV, arith, isSh, storeV, all1, idxAV, fieldV, faddrV, iaddrSV, iaddrAV, pickV, convV, unV, eqbV, eqpV, extV, mm2, mmV, nilckV, ress, res1, retV, Value.cells, cond_true, cond_false, Bool.true_or, Bool.false_or, Bool.or_true, Bool.or_false, beq_self_eq_true, if_true, if_false, ite_true, ite_false, decide_true, decide_false, decide_eq_true_eq, reduceIte, Nat.zero_add, Nat.add_zero, and_self, true_and, and_true, List.size_toArray, List.length_cons, List.length_nil, List.append_nil, List.nil_append, Int.toNat_zero, Bool.not_false, Bool.not_true, Bool.not_not, Bool.false_eq_true, Bool.true_eq_false, reduceCtorEq, Int.reduceLT, Int.reduceLE, Int.reduceToNat, Int.reduceAdd, Int.reduceSub, Int.reduceMul, Int.reduceNeg, Nat.reduceMul, Nat.reduceAdd, Nat.reduceSub, Nat.reduceBEq, Nat.reduceEqDiff, Nat.reduceLT, Nat.reduceLeDiff, Int.reduceBEq, Int.reduceEq, Nat.reducePow, Int.reducePow, IntWalk.i64_in, IntKind.bits, eqAV, eqL, leafEq, andO, fillV, buildSV, List.getElem?_toArray, List.getElem?_cons_zero, List.getElem?_cons_succ, List.getElem?_nil, Int.reduceGT, Int.reduceGE, Int.reduceBNe, Bool.true_and, Bool.and_true, Bool.false_and, Bool.and_false, Bool.and_self, IntWalk.u64_in, Int.cast_ofNat_Int, callF1, pad16, pad_0, pad_1, pad_2, pad_3, pad_4, pad_5, pad_6, pad_7, pad_8, pad_9, pad_10, pad_11, pad_12, pad_13, pad_14, pad_15, gc0, gc1, gc2, gc3, gc4, gc5, gc6, gc7, gc8, gc9, gc10, gc11, gc12, gc13, gc14, gc15, gcS, sc0, sc1, sc2, sc3, sc4, sc5, sc6, sc7, sc8, sc9, sc10, sc11, sc12, sc13, sc14, sc15, scS, List.drop_succ_cons, List.drop_nil, x_pan, s_pan, b_pan, pE_ret, pE_pan, pE_none, pE_ite, pvE_some, pvE_none, pvE_ite, rv_some, rv_none, rv_ite, oR_ret, t_mv, t_pick, t_alloc, t_box, t_build, t_buildS, t_load, t_store, t_nilck, t_bin, t_eqb, t_eqA, t_eqp, t_un, t_conv, t_field, t_idxA, t_faddr, t_iaddrS, t_iaddrA, t_ext, t_len, t_mm, t_call, t_ifc, t_fn, t_slc, t_slcA, t_slcT, t_tass, t_isn, t_mks, t_app, t_pan, panE_i, optE_none, optE_some, bnd_none, bnd_int, slA_none, slA_some, appR_some, appOld_cells, newsV_s, newsV_n, lenS_s, appV_nil, appV_some, mksV_i, sh_c, sh_g, f_pan, endD_ret, dfr_normal, dfr_ret, dfr_pan, restD_normal, callD1, callC1, tassV, isnV, slcV, slcAV, slcTV, slcB, appNew, Option.bind_some, Option.bind_none, d_pan, h_pan, wrH_eq, wrX_cells, wrU_some, upH_nil, upH_cons, lk_upH, effR_some, effR_none, effR_ite, Option.isNone_none, Option.isNone_some, slA_zero, call_yield, e_range, it_func, wy_same, y_call, isLp_self, beg_normal, end_normal, end_ret, end_exit, end_ite, aft_ret, aft_ready, aft_done, aft_exit, setP_cons, setP_nil, sh_r, t_mkmap, t_mlook, t_mupd, t_mdel, mapF_some, lookF_some, setM_some, lookR_t, lookR_n, lookR_f, lookR_fn, lookV, mupdV, mdelV, mkM]
      refine ok_some (.inr ⟨by simp, g, fr, ?_, .inr ⟨rfl, fun h => ?_, ?_, ?_, ?_⟩⟩)
      rotate_left
      · have := h j hin
        omega
      all_goals simp (maxSteps := 10000000) (disch := omega) only [kp.l, kp.t0, kp.t5, kp.t6, kp.t17, kp.t18, kp.t19, lenV_sl, Int.toNat_natCast, bft, btf, gtst, st_len, cond_true, cond_false, Nat.reduceBEq, Nat.reduceLT, decide_true, beq_self_eq_true, if_true, if_false]
  have hasc' : ∀ j, j + 1 < i + 1 → K.getD j 0 < K.getD (j + 1) 0 := fun j hj => by
    by_cases h : j + 1 < i
    · exact hasc j h
    · obtain rfl : i = j + 1 := by omega
      exact Int.not_le.1 fun h => hbad ⟨j, rfl, h⟩
  have main : ∀ (ts' : List Value) (F : Nat), 340 ≤ F → K10i (.slice (some ⟨bv, ov, none⟩) K.length cv) vs b K.length i (K.getD i 0) 0 ts' →
      Ok (exec B { f := G10 B } F (LC.loop lb10i) ⟨ts', H', N'⟩) (fun x s => x = .exit 2 ∧ s.N = N' ∧ ∃ vs S1, ∃ un : Nat, ∃ L2, K10i (.slice (some ⟨bv, ov, none⟩) K.length cv) vs b K.length i (K.getD i 0) un s.t ∧ slB vs ≠ some b ∧ SlM f1 1 B H0 s.H vs (S1.map iC) ∧ good B s.H N' ∧ Fr H0 s.H ∧ lk s.H b = some (.cells (fl p2 L2) (K.length * 2)) ∧ L2.length = K.length ∧ L2.getD i q0 = q0 ∧ lnk K (i + 1) = L2.set i ⟨(un : Int), 0⟩ ∧ rsp (fK K) 0 (i + 1) = S1 ++ [i + 1]) := fun ts' F hF kp' => by
    refine (loop10i (H0 := H0) hT (hvr.mono fr) hK hin hKl g hBb hlb kp' hs hsb (by have := rsp_len (fK K) i 0; omega)).mono fun x s hr => ?_
    obtain ⟨rfl, h2, vs', S1, p, hS, hp, hsM, kp2, hsb2, hcase⟩ := hr
    refine ⟨rfl, h2, vs', S1, p.headD 0, ?_⟩
    rcases hcase with ⟨rfl, hH⟩ | ⟨k, t, rfl, hnt, hH⟩
    · obtain ⟨h3, h4⟩ := lnk_all hin (fun s hs => by rw [hS] at hs; exact hp s (by simpa using hs))
      rw [hS] at h3
      refine ⟨lnk K i, kp2, hsb2, by rw [hH]; exact hsM, by rw [hH]; exact g, by rw [hH]; exact fr, by rw [hH]; exact hlb, lnk_len (by omega), lnk_at hin, by simpa using h3, by simpa using h4⟩
    · have hS' : rsp (fK K) 0 i = k ++ t :: p := by rw [hS]; simp
      obtain ⟨h3, h4⟩ := lnk_one hin hS' hnt hp
      have htb := rsp_b (fK K) i 0 t (by rw [hS']; simp)
      refine ⟨_, kp2, hsb2, ?_, by rw [hH]; exact good_up g hBb hlb, by rw [hH]; exact fr_up fr h0b, by rw [hH, lk_upH, beq_self_eq_true, cond_true], by rw [List.length_set]; exact lnk_len (by omega), ?_, h3, by rw [h4]; simp⟩
      · rw [hH]
        exact hsM.mono fun y c hy e => by rw [lk_upH, eqb (fun h => hsb2 (by rw [hy, h])), cond_false]; exact e
      · rw [getD_set _ _ _ _ _ (by rw [lnk_len (by omega)]; omega), if_neg (by omega)]
        exact lnk_at hin
  have tail : ∀ ts' , K10 (.slice (some ⟨bv, ov, none⟩) K.length cv) vs b K.length i ts' → True := fun _ _ => trivial
  rcases hfirst with e2 | ⟨j', e1, e2, e3, e4, e5, e6⟩
  · simp -implicitDefEqProofs (maxSteps := 10000000) (disch := omega) only [T10, L10, G10_26, V26_eq, hB, hR, hI, lb10, kp.l, kp.t0, kp.t5, kp.t6, kp.t17, kp.t18, kp.t19, lenV_sl, Int.toNat_natCast, bft, btf, gtst, st_len, hin, hin', i0, rk, e2, Nat.mul_one, pad, e_skip, e_ops, e_draw, e_fork, shg_n, shg_c, shg_g, shg_r, d_none, d_nil, d_cons, d_ite, h_none, h_nil, h_cons, h_ite, eqS_same, lightV, e_seq, e_cond, e_block, e_exit, e_ret, s_normal, s_ret, s_exit, s_none, s_ite, b_normal, b_ret, b_exit, b_none, b_ite, c_bool, x_none, x_nil, x_cons, x_ite, p_some, p_none, p_ite, pt_some, pt_none, pv_some, pv_none, pv_ite, w_none, w_some, i_bool, i_undef, bt, bf, v_tmp, v_const, v_global, v_func, evs, f_normal, f_ret, f_none, f_ite, r_some, co_some, l_ptr, m_agg, m_one, sh_app, lk_nil, lk_cons, rd_eq, rdO_some, rdO_none, rdN_none, rdL_some, rdL_none, wrB_none, unitR_some, wr_nil, wr_here, wr_skip, k_cells, tk_zero, tk_take, tk_skip, tkC_some, call_func, gt, st, binV, arith, isSh, storeV, all1, idxAV, fieldV, faddrV, iaddrSV, iaddrAV, pickV, convV, unV, eqbV, eqpV, extV, mm2, mmV, nilckV, ress, res1, retV, Value.cells, cond_true, cond_false, Bool.true_or, Bool.false_or, Bool.or_true, Bool.or_false, beq_self_eq_true, if_true, if_false, ite_true, ite_false, decide_true, decide_false, decide_eq_true_eq, reduceIte, Nat.zero_add, Nat.add_zero, and_self, true_and, and_true, List.size_toArray, List.length_cons, List.length_nil, List.append_nil, List.nil_append, Int.toNat_zero, Bool.not_false, Bool.not_true, Bool.not_not, Bool.false_eq_true, Bool.true_eq_false, reduceCtorEq, Int.reduceLT, Int.reduceLE, Int.reduceToNat, Int.reduceAdd, Int.reduceSub, Int.reduceMul, Int.reduceNeg, Nat.reduceMul, Nat.reduceAdd, Nat.reduceSub, Nat.reduceBEq, Nat.reduceEqDiff, Nat.reduceLT, Nat.reduceLeDiff, Int.reduceBEq, Int.reduceEq, Nat.reducePow, Int.reducePow, IntWalk.i64_in, IntKind.bits, eqAV, eqL, leafEq, andO, fillV, buildSV, List.getElem?_toArray, List.getElem?_cons_zero, List.getElem?_cons_succ, List.getElem?_nil, Int.reduceGT, Int.reduceGE, Int.reduceBNe, Bool.true_and, Bool.and_true, Bool.false_and, Bool.and_false, Bool.and_self, IntWalk.u64_in, Int.cast_ofNat_Int, callF1, pad16, pad_0, pad_1, pad_2, pad_3, pad_4, pad_5, pad_6, pad_7, pad_8, pad_9, pad_10, pad_11, pad_12, pad_13, pad_14, pad_15, gc0, gc1, gc2, gc3, gc4, gc5, gc6, gc7, gc8, gc9, gc10, gc11, gc12, gc13, gc14, gc15, gcS, sc0, sc1, sc2, sc3, sc4, sc5, sc6, sc7, sc8, sc9, sc10, sc11, sc12, sc13, sc14, sc15, scS, List.drop_succ_cons, List.drop_nil, x_pan, s_pan, b_pan, pE_ret, pE_pan, pE_none, pE_ite, pvE_some, pvE_none, pvE_ite, rv_some, rv_none, rv_ite, oR_ret, t_mv, t_pick, t_alloc, t_box, t_build, t_buildS, t_load, t_store, t_nilck, t_bin, t_eqb, t_eqA, t_eqp, t_un, t_conv, t_field, t_idxA, t_faddr, t_iaddrS, t_iaddrA, t_ext, t_len, t_mm, t_call, t_ifc, t_fn, t_slc, t_slcA, t_slcT, t_tass, t_isn, t_mks, t_app, t_pan, panE_i, optE_none, optE_some, bnd_none, bnd_int, slA_none, slA_some, appR_some, appOld_cells, newsV_s, newsV_n, lenS_s, appV_nil, appV_some, mksV_i, sh_c, sh_g, f_pan, endD_ret, dfr_normal, dfr_ret, dfr_pan, restD_normal, callD1, callC1, tassV, isnV, slcV, slcAV, slcTV, slcB, appNew, Option.bind_some, Option.bind_none, d_pan, h_pan, wrH_eq, wrX_cells, wrU_some, upH_nil, upH_cons, lk_upH, effR_some, effR_none, effR_ite, Option.isNone_none, Option.isNone_some, slA_zero, call_yield, e_range, it_func, wy_same, y_call, isLp_self, beg_normal, end_normal, end_ret, end_exit, end_ite, aft_ret, aft_ready, aft_done, aft_exit, setP_cons, setP_nil, sh_r, t_mkmap, t_mlook, t_mupd, t_mdel, mapF_some, lookF_some, setM_some, lookR_t, lookR_n, lookR_f, lookR_fn, lookV, mupdV, mdelV, mkM]
    generalize hX : exec B _ _ (LC.loop _) _ = o
    obtain ⟨x, ⟨ts2, H2, N2⟩, ho, rfl, rfl, vs2, S1, un, L2, kp2, hsb2, hsM, g2, fr2, hlb2, hL2, hLi, hnew, hrsp⟩ := (show Ok o _ by rw [← hX]; exact main _ _ (by omega) ⟨by simp (maxSteps := 10000000) (disch := omega) only [kp.l, kp.t0, kp.t5, kp.t6, kp.t17, kp.t18, kp.t19, lenV_sl, Int.toNat_natCast, bft, btf, gtst, st_len, cond_true, cond_false, Nat.reduceBEq, Nat.reduceLT, decide_true, beq_self_eq_true, if_true, if_false, Int.cast_ofNat_Int], by simp (maxSteps := 10000000) (disch := omega) only [kp.l, kp.t0, kp.t5, kp.t6, kp.t17, kp.t18, kp.t19, lenV_sl, Int.toNat_natCast, bft, btf, gtst, st_len, cond_true, cond_false, Nat.reduceBEq, Nat.reduceLT, decide_true, beq_self_eq_true, if_true, if_false, Int.cast_ofNat_Int], by simp (maxSteps := 10000000) (disch := omega) only [kp.l, kp.t0, kp.t5, kp.t6, kp.t17, kp.t18, kp.t19, lenV_sl, Int.toNat_natCast, bft, btf, gtst, st_len, cond_true, cond_false, Nat.reduceBEq, Nat.reduceLT, decide_true, beq_self_eq_true, if_true, if_false, Int.cast_ofNat_Int], by simp (maxSteps := 10000000) (disch := omega) only [kp.l, kp.t0, kp.t5, kp.t6, kp.t17, kp.t18, kp.t19, lenV_sl, Int.toNat_natCast, bft, btf, gtst, st_len, cond_true, cond_false, Nat.reduceBEq, Nat.reduceLT, decide_true, beq_self_eq_true, if_true, if_false, Int.cast_ofNat_Int], by simp (maxSteps := 10000000) (disch := omega) only [kp.l, kp.t0, kp.t5, kp.t6, kp.t17, kp.t18, kp.t19, lenV_sl, Int.toNat_natCast, bft, btf, gtst, st_len, cond_true, cond_false, Nat.reduceBEq, Nat.reduceLT, decide_true, beq_self_eq_true, if_true, if_false, Int.cast_ofNat_Int], by simp (maxSteps := 10000000) (disch := omega) only [kp.l, kp.t0, kp.t5, kp.t6, kp.t17, kp.t18, kp.t19, lenV_sl, Int.toNat_natCast, bft, btf, gtst, st_len, cond_true, cond_false, Nat.reduceBEq, Nat.reduceLT, decide_true, beq_self_eq_true, if_true, if_false, Int.cast_ofNat_Int], by simp (maxSteps := 10000000) (disch := omega) only [kp.l, kp.t0, kp.t5, kp.t6, kp.t17, kp.t18, kp.t19, lenV_sl, Int.toNat_natCast, bft, btf, gtst, st_len, cond_true, cond_false, Nat.reduceBEq, Nat.reduceLT, decide_true, beq_self_eq_true, if_true, if_false, Int.cast_ofNat_Int], by simp (maxSteps := 10000000) (disch := omega) only [kp.l, kp.t0, kp.t5, kp.t6, kp.t17, kp.t18, kp.t19, lenV_sl, Int.toNat_natCast, bft, btf, gtst, st_len, cond_true, cond_false, Nat.reduceBEq, Nat.reduceLT, decide_true, beq_self_eq_true, if_true, if_false, Int.cast_ofNat_Int], by simp (maxSteps := 10000000) (disch := omega) only [kp.l, kp.t0, kp.t5, kp.t6, kp.t17, kp.t18, kp.t19, lenV_sl, Int.toNat_natCast, bft, btf, gtst, st_len, cond_true, cond_false, Nat.reduceBEq, Nat.reduceLT, decide_true, beq_self_eq_true, if_true, if_false, Int.cast_ofNat_Int], by simp (maxSteps := 10000000) (disch := omega) only [kp.l, kp.t0, kp.t5, kp.t6, kp.t17, kp.t18, kp.t19, lenV_sl, Int.toNat_natCast, bft, btf, gtst, st_len, cond_true, cond_false, Nat.reduceBEq, Nat.reduceLT, decide_true, beq_self_eq_true, if_true, if_false, Int.cast_ofNat_Int]⟩)
    subst ho
    simp only at kp2 hsM g2 fr2 hlb2
    have nb := ne_N g2 hlb2
    have nb' := ne_N' g2 hlb2
    have rb := fun o n => rdB_none (o := o) (n := n) hBb
    have w1' : wr (fl p2 L2) (i * 2) [.int .i64 (un : Int)] = some (fl p2 (L2.set i ⟨(un : Int), 0⟩)) := wr_fl p2_len _ _ 0 _ q0 _ (by omega) (by simp) (by rw [hLi]; rfl)
    have g3 := good_up (k := .cells (fl p2 (L2.set i ⟨(un : Int), 0⟩)) (K.length * 2)) g2 hBb hlb2
    have fr3 := fr_up (k := .cells (fl p2 (L2.set i ⟨(un : Int), 0⟩)) (K.length * 2)) fr2 h0b
    have hl3 : lk (upH H2 b (.cells (fl p2 (L2.set i ⟨(un : Int), 0⟩)) (K.length * 2))) b = some (.cells (fl p2 (L2.set i ⟨(un : Int), 0⟩)) (K.length * 2)) := by rw [lk_upH, beq_self_eq_true, cond_true]
    have s3 := hsM.mono (H' := upH H2 b (.cells (fl p2 (L2.set i ⟨(un : Int), 0⟩)) (K.length * 2))) fun y c hy e => by rw [lk_upH, eqb (fun h => hsb2 (by rw [hy, h])), cond_false]; exact e
    have hS1 : S1.length ≤ 256 := by
      have := rsp_len (fK K) (i + 1) 0
      rw [hrsp] at this
      simp at this; omega
    obtain ⟨v4, H4, N4, hap, g4, fr4, fs4, s4, sq4⟩ := push_specM f1_len (bytes := 8) g3 fr3 s3 ((i : Int) + 1) rfl (by rw [List.length_map]; omega) (by rw [List.length_map]; omega)
    simp only [f1] at hap
    clear kp
    have kp := kp2
    simp -implicitDefEqProofs (maxSteps := 10000000) (disch := omega) only [T10, L10, G10_26, V26_eq, hB, hR, hI, lb10, kp.l, kp.t0, kp.t5, kp.t6, kp.t17, kp.t18, kp.t19, kp.t7, kp.t8, kp.t9, lenV_sl, Int.toNat_natCast, bft, btf, gtst, st_len, hin, i0, Nat.mul_one, hlb2, rb, hBb, nb, nb', w1', hap, pad, e_skip, e_ops, e_draw, e_fork, shg_n, shg_c, shg_g, shg_r, d_none, d_nil, d_cons, d_ite, h_none, h_nil, h_cons, h_ite, eqS_same, lightV, e_seq, e_cond, e_block, e_exit, e_ret, s_normal, s_ret, s_exit, s_none, s_ite, b_normal, b_ret, b_exit, b_none, b_ite, c_bool, x_none, x_nil, x_cons, x_ite, p_some, p_none, p_ite, pt_some, pt_none, pv_some, pv_none, pv_ite, w_none, w_some, i_bool, i_undef, bt, bf, v_tmp, v_const, v_global, v_func, evs, f_normal, f_ret, f_none, f_ite, r_some, co_some, l_ptr, m_agg, m_one, sh_app, lk_nil, lk_cons, rd_eq, rdO_some, rdO_none, rdN_none, rdL_some, rdL_none, wrB_none, unitR_some, wr_nil, wr_here, wr_skip, k_cells, tk_zero, tk_take, tk_skip, tkC_some, call_func, gt, st, binV, arith, isSh, storeV, all1, idxAV, fieldV, faddrV, iaddrSV, iaddrAV, pickV, convV, unV, eqbV, eqpV, extV, mm2, mmV, nilckV, ress, res1, retV, Value.cells, cond_true, cond_false, Bool.true_or, Bool.false_or, Bool.or_true, Bool.or_false, beq_self_eq_true, if_true, if_false, ite_true, ite_false, decide_true, decide_false, decide_eq_true_eq, reduceIte, Nat.zero_add, Nat.add_zero, and_self, true_and, and_true, List.size_toArray, List.length_cons, List.length_nil, List.append_nil, List.nil_append, Int.toNat_zero, Bool.not_false, Bool.not_true, Bool.not_not, Bool.false_eq_true, Bool.true_eq_false, reduceCtorEq, Int.reduceLT, Int.reduceLE, Int.reduceToNat, Int.reduceAdd, Int.reduceSub, Int.reduceMul, Int.reduceNeg, Nat.reduceMul, Nat.reduceAdd, Nat.reduceSub, Nat.reduceBEq, Nat.reduceEqDiff, Nat.reduceLT, Nat.reduceLeDiff, Int.reduceBEq, Int.reduceEq, Nat.reducePow, Int.reducePow, IntWalk.i64_in, IntKind.bits, eqAV, eqL, leafEq, andO, fillV, buildSV, List.getElem?_toArray, List.getElem?_cons_zero, List.getElem?_cons_succ, List.getElem?_nil, Int.reduceGT, Int.reduceGE, Int.reduceBNe, Bool.true_and, Bool.and_true, Bool.false_and, Bool.and_false, Bool.and_self, IntWalk.u64_in, Int.cast_ofNat_Int, callF1, pad16, pad_0, pad_1, pad_2, pad_3, pad_4, pad_5, pad_6, pad_7, pad_8, pad_9, pad_10, pad_11, pad_12, pad_13, pad_14, pad_15, gc0, gc1, gc2, gc3, gc4, gc5, gc6, gc7, gc8, gc9, gc10, gc11, gc12, gc13, gc14, gc15, gcS, sc0, sc1, sc2, sc3, sc4, sc5, sc6, sc7, sc8, sc9, sc10, sc11, sc12, sc13, sc14, sc15, scS, List.drop_succ_cons, List.drop_nil, x_pan, s_pan, b_pan, pE_ret, pE_pan, pE_none, pE_ite, pvE_some, pvE_none, pvE_ite, rv_some, rv_none, rv_ite, oR_ret, t_mv, t_pick, t_alloc, t_box, t_build, t_buildS, t_load, t_store, t_nilck, t_bin, t_eqb, t_eqA, t_eqp, t_un, t_conv, t_field, t_idxA, t_faddr, t_iaddrS, t_iaddrA, t_ext, t_len, t_mm, t_call, t_ifc, t_fn, t_slc, t_slcA, t_slcT, t_tass, t_isn, t_mks, t_app, t_pan, panE_i, optE_none, optE_some, bnd_none, bnd_int, slA_none, slA_some, appR_some, appOld_cells, newsV_s, newsV_n, lenS_s, appV_nil, appV_some, mksV_i, sh_c, sh_g, f_pan, endD_ret, dfr_normal, dfr_ret, dfr_pan, restD_normal, callD1, callC1, tassV, isnV, slcV, slcAV, slcTV, slcB, appNew, Option.bind_some, Option.bind_none, d_pan, h_pan, wrH_eq, wrX_cells, wrU_some, upH_nil, upH_cons, lk_upH, effR_some, effR_none, effR_ite, Option.isNone_none, Option.isNone_some, slA_zero, call_yield, e_range, it_func, wy_same, y_call, isLp_self, beg_normal, end_normal, end_ret, end_exit, end_ite, aft_ret, aft_ready, aft_done, aft_exit, setP_cons, setP_nil, sh_r, t_mkmap, t_mlook, t_mupd, t_mdel, mapF_some, lookF_some, setM_some, lookR_t, lookR_n, lookR_f, lookR_fn, lookV, mupdV, mdelV, mkM]
    refine ok_some (.inl ⟨rfl, K.length - (i + 1), by omega, _, H4, N4, v4, i + 1, rfl, ⟨?_, ?_, ?_, ?_, ?_, ?_, ?_⟩, g4, fr4, by rw [hnew]; exact fs4 _ _ hsb2 hl3, ?_, sq4 _ _ hsb2 hl3, hasc', by omega, rfl⟩)
    rotate_right
    · rw [hrsp]
      have : (S1 ++ [i + 1]).map iC = S1.map iC ++ [(i : Int) + 1] := by simp [iC]
      rw [this]
      exact s4.toM
    all_goals simp (maxSteps := 10000000) (disch := omega) only [kp.l, kp.t0, kp.t5, kp.t6, kp.t17, kp.t18, kp.t19, kp.t7, kp.t8, kp.t9, lenV_sl, Int.toNat_natCast, bft, btf, gtst, st_len, hc1, cond_true, cond_false, Nat.reduceBEq, Nat.reduceLT, decide_true, beq_self_eq_true, if_true, if_false]
  · have hlt : ¬ K.getD j' 0 ≥ K.getD i 0 := fun h => hbad ⟨j', e1, h⟩
    simp -implicitDefEqProofs (maxSteps := 10000000) (disch := omega) only [T10, L10, G10_26, V26_eq, hB, hR, hI, lb10, kp.l, kp.t0, kp.t5, kp.t6, kp.t17, kp.t18, kp.t19, lenV_sl, Int.toNat_natCast, bft, btf, gtst, st_len, hin, hin', i0, rk, e2, e3, e4, e5, e6, hlt, Nat.mul_one, pad, e_skip, e_ops, e_draw, e_fork, shg_n, shg_c, shg_g, shg_r, d_none, d_nil, d_cons, d_ite, h_none, h_nil, h_cons, h_ite, eqS_same, lightV, e_seq, e_cond, e_block, e_exit, e_ret, s_normal, s_ret, s_exit, s_none, s_ite, b_normal, b_ret, b_exit, b_none, b_ite, c_bool, x_none, x_nil, x_cons, x_ite, p_some, p_none, p_ite, pt_some, pt_none, pv_some, pv_none, pv_ite, w_none, w_some, i_bool, i_undef, bt, bf, v_tmp, v_const, v_global, v_func, evs, f_normal, f_ret, f_none, f_ite, r_some, co_some, l_ptr, m_agg, m_one, sh_app, lk_nil, lk_cons, rd_eq, rdO_some, rdO_none, rdN_none, rdL_some, rdL_none, wrB_none, unitR_some, wr_nil, wr_here, wr_skip, k_cells, tk_zero, tk_take, tk_skip, tkC_some, call_func, gt, st, binV, arith, isSh, storeV, all1, idxAV, fieldV, faddrV, iaddrSV, iaddrAV, pickV, convV, unV, eqbV, eqpV, extV, mm2, mmV, nilckV, ress, res1, retV, Value.cells, cond_true, cond_false, Bool.true_or, Bool.false_or, Bool.or_true, Bool.or_false, beq_self_eq_true, if_true, if_false, ite_true, ite_false, decide_true, decide_false, decide_eq_true_eq, reduceIte, Nat.zero_add, Nat.add_zero, and_self, true_and, and_true, List.size_toArray, List.length_cons, List.length_nil, List.append_nil, List.nil_append, Int.toNat_zero, Bool.not_false, Bool.not_true, Bool.not_not, Bool.false_eq_true, Bool.true_eq_false, reduceCtorEq, Int.reduceLT, Int.reduceLE, Int.reduceToNat, Int.reduceAdd, Int.reduceSub, Int.reduceMul, Int.reduceNeg, Nat.reduceMul, Nat.reduceAdd, Nat.reduceSub, Nat.reduceBEq, Nat.reduceEqDiff, Nat.reduceLT, Nat.reduceLeDiff, Int.reduceBEq, Int.reduceEq, Nat.reducePow, Int.reducePow, IntWalk.i64_in, IntKind.bits, eqAV, eqL, leafEq, andO, fillV, buildSV, List.getElem?_toArray, List.getElem?_cons_zero, List.getElem?_cons_succ, List.getElem?_nil, Int.reduceGT, Int.reduceGE, Int.reduceBNe, Bool.true_and, Bool.and_true, Bool.false_and, Bool.and_false, Bool.and_self, IntWalk.u64_in, Int.cast_ofNat_Int, callF1, pad16, pad_0, pad_1, pad_2, pad_3, pad_4, pad_5, pad_6, pad_7, pad_8, pad_9, pad_10, pad_11, pad_12, pad_13, pad_14, pad_15, gc0, gc1, gc2, gc3, gc4, gc5, gc6, gc7, gc8, gc9, gc10, gc11, gc12, gc13, gc14, gc15, gcS, sc0, sc1, sc2, sc3, sc4, sc5, sc6, sc7, sc8, sc9, sc10, sc11, sc12, sc13, sc14, sc15, scS, List.drop_succ_cons, List.drop_nil, x_pan, s_pan, b_pan, pE_ret, pE_pan, pE_none, pE_ite, pvE_some, pvE_none, pvE_ite, rv_some, rv_none, rv_ite, oR_ret, t_mv, t_pick, t_alloc, t_box, t_build, t_buildS, t_load, t_store, t_nilck, t_bin, t_eqb, t_eqA, t_eqp, t_un, t_conv, t_field, t_idxA, t_faddr, t_iaddrS, t_iaddrA, t_ext, t_len, t_mm, t_call, t_ifc, t_fn, t_slc, t_slcA, t_slcT, t_tass, t_isn, t_mks, t_app, t_pan, panE_i, optE_none, optE_some, bnd_none, bnd_int, slA_none, slA_some, appR_some, appOld_cells, newsV_s, newsV_n, lenS_s, appV_nil, appV_some, mksV_i, sh_c, sh_g, f_pan, endD_ret, dfr_normal, dfr_ret, dfr_pan, restD_normal, callD1, callC1, tassV, isnV, slcV, slcAV, slcTV, slcB, appNew, Option.bind_some, Option.bind_none, d_pan, h_pan, wrH_eq, wrX_cells, wrU_some, upH_nil, upH_cons, lk_upH, effR_some, effR_none, effR_ite, Option.isNone_none, Option.isNone_some, slA_zero, call_yield, e_range, it_func, wy_same, y_call, isLp_self, beg_normal, end_normal, end_ret, end_exit, end_ite, aft_ret, aft_ready, aft_done, aft_exit, setP_cons, setP_nil, sh_r, t_mkmap, t_mlook, t_mupd, t_mdel, mapF_some, lookF_some, setM_some, lookR_t, lookR_n, lookR_f, lookR_fn, lookV, mupdV, mdelV, mkM]
    generalize hX : exec B _ _ (LC.loop _) _ = o
    obtain ⟨x, ⟨ts2, H2, N2⟩, ho, rfl, rfl, vs2, S1, un, L2, kp2, hsb2, hsM, g2, fr2, hlb2, hL2, hLi, hnew, hrsp⟩ := (show Ok o _ by rw [← hX]; exact main _ _ (by omega) ⟨by simp (maxSteps := 10000000) (disch := omega) only [kp.l, kp.t0, kp.t5, kp.t6, kp.t17, kp.t18, kp.t19, lenV_sl, Int.toNat_natCast, bft, btf, gtst, st_len, cond_true, cond_false, Nat.reduceBEq, Nat.reduceLT, decide_true, beq_self_eq_true, if_true, if_false, Int.cast_ofNat_Int], by simp (maxSteps := 10000000) (disch := omega) only [kp.l, kp.t0, kp.t5, kp.t6, kp.t17, kp.t18, kp.t19, lenV_sl, Int.toNat_natCast, bft, btf, gtst, st_len, cond_true, cond_false, Nat.reduceBEq, Nat.reduceLT, decide_true, beq_self_eq_true, if_true, if_false, Int.cast_ofNat_Int], by simp (maxSteps := 10000000) (disch := omega) only [kp.l, kp.t0, kp.t5, kp.t6, kp.t17, kp.t18, kp.t19, lenV_sl, Int.toNat_natCast, bft, btf, gtst, st_len, cond_true, cond_false, Nat.reduceBEq, Nat.reduceLT, decide_true, beq_self_eq_true, if_true, if_false, Int.cast_ofNat_Int], by simp (maxSteps := 10000000) (disch := omega) only [kp.l, kp.t0, kp.t5, kp.t6, kp.t17, kp.t18, kp.t19, lenV_sl, Int.toNat_natCast, bft, btf, gtst, st_len, cond_true, cond_false, Nat.reduceBEq, Nat.reduceLT, decide_true, beq_self_eq_true, if_true, if_false, Int.cast_ofNat_Int], by simp (maxSteps := 10000000) (disch := omega) only [kp.l, kp.t0, kp.t5, kp.t6, kp.t17, kp.t18, kp.t19, lenV_sl, Int.toNat_natCast, bft, btf, gtst, st_len, cond_true, cond_false, Nat.reduceBEq, Nat.reduceLT, decide_true, beq_self_eq_true, if_true, if_false, Int.cast_ofNat_Int], by simp (maxSteps := 10000000) (disch := omega) only [kp.l, kp.t0, kp.t5, kp.t6, kp.t17, kp.t18, kp.t19, lenV_sl, Int.toNat_natCast, bft, btf, gtst, st_len, cond_true, cond_false, Nat.reduceBEq, Nat.reduceLT, decide_true, beq_self_eq_true, if_true, if_false, Int.cast_ofNat_Int], by simp (maxSteps := 10000000) (disch := omega) only [kp.l, kp.t0, kp.t5, kp.t6, kp.t17, kp.t18, kp.t19, lenV_sl, Int.toNat_natCast, bft, btf, gtst, st_len, cond_true, cond_false, Nat.reduceBEq, Nat.reduceLT, decide_true, beq_self_eq_true, if_true, if_false, Int.cast_ofNat_Int], by simp (maxSteps := 10000000) (disch := omega) only [kp.l, kp.t0, kp.t5, kp.t6, kp.t17, kp.t18, kp.t19, lenV_sl, Int.toNat_natCast, bft, btf, gtst, st_len, cond_true, cond_false, Nat.reduceBEq, Nat.reduceLT, decide_true, beq_self_eq_true, if_true, if_false, Int.cast_ofNat_Int], by simp (maxSteps := 10000000) (disch := omega) only [kp.l, kp.t0, kp.t5, kp.t6, kp.t17, kp.t18, kp.t19, lenV_sl, Int.toNat_natCast, bft, btf, gtst, st_len, cond_true, cond_false, Nat.reduceBEq, Nat.reduceLT, decide_true, beq_self_eq_true, if_true, if_false, Int.cast_ofNat_Int], by simp (maxSteps := 10000000) (disch := omega) only [kp.l, kp.t0, kp.t5, kp.t6, kp.t17, kp.t18, kp.t19, lenV_sl, Int.toNat_natCast, bft, btf, gtst, st_len, cond_true, cond_false, Nat.reduceBEq, Nat.reduceLT, decide_true, beq_self_eq_true, if_true, if_false, Int.cast_ofNat_Int]⟩)
    subst ho
    simp only at kp2 hsM g2 fr2 hlb2
    have nb := ne_N g2 hlb2
    have nb' := ne_N' g2 hlb2
    have rb := fun o n => rdB_none (o := o) (n := n) hBb
    have w1' : wr (fl p2 L2) (i * 2) [.int .i64 (un : Int)] = some (fl p2 (L2.set i ⟨(un : Int), 0⟩)) := wr_fl p2_len _ _ 0 _ q0 _ (by omega) (by simp) (by rw [hLi]; rfl)
    have g3 := good_up (k := .cells (fl p2 (L2.set i ⟨(un : Int), 0⟩)) (K.length * 2)) g2 hBb hlb2
    have fr3 := fr_up (k := .cells (fl p2 (L2.set i ⟨(un : Int), 0⟩)) (K.length * 2)) fr2 h0b
    have hl3 : lk (upH H2 b (.cells (fl p2 (L2.set i ⟨(un : Int), 0⟩)) (K.length * 2))) b = some (.cells (fl p2 (L2.set i ⟨(un : Int), 0⟩)) (K.length * 2)) := by rw [lk_upH, beq_self_eq_true, cond_true]
    have s3 := hsM.mono (H' := upH H2 b (.cells (fl p2 (L2.set i ⟨(un : Int), 0⟩)) (K.length * 2))) fun y c hy e => by rw [lk_upH, eqb (fun h => hsb2 (by rw [hy, h])), cond_false]; exact e
    have hS1 : S1.length ≤ 256 := by
      have := rsp_len (fK K) (i + 1) 0
      rw [hrsp] at this
      simp at this; omega
    obtain ⟨v4, H4, N4, hap, g4, fr4, fs4, s4, sq4⟩ := push_specM f1_len (bytes := 8) g3 fr3 s3 ((i : Int) + 1) rfl (by rw [List.length_map]; omega) (by rw [List.length_map]; omega)
    simp only [f1] at hap
    clear kp
    have kp := kp2
    simp -implicitDefEqProofs (maxSteps := 10000000) (disch := omega) only [T10, L10, G10_26, V26_eq, hB, hR, hI, lb10, kp.l, kp.t0, kp.t5, kp.t6, kp.t17, kp.t18, kp.t19, kp.t7, kp.t8, kp.t9, lenV_sl, Int.toNat_natCast, bft, btf, gtst, st_len, hin, i0, Nat.mul_one, hlb2, rb, hBb, nb, nb', w1', hap, pad, e_skip, e_ops, e_draw, e_fork, shg_n, shg_c, shg_g, shg_r, d_none, d_nil, d_cons, d_ite, h_none, h_nil, h_cons, h_ite, eqS_same, lightV, e_seq, e_cond, e_block, e_exit, e_ret, s_normal, s_ret, s_exit, s_none, s_ite, b_normal, b_ret, b_exit, b_none, b_ite, c_bool, x_none, x_nil, x_cons, x_ite, p_some, p_none, p_ite, pt_some, pt_none, pv_some, pv_none, pv_ite, w_none, w_some, i_bool, i_undef, bt, bf, v_tmp, v_const, v_global, v_func, evs, f_normal, f_ret, f_none, f_ite, r_some, co_some, l_ptr, m_agg, m_one, sh_app, lk_nil, lk_cons, rd_eq, rdO_some, rdO_none, rdN_none, rdL_some, rdL_none, wrB_none, unitR_some, wr_nil, wr_here, wr_skip, k_cells, tk_zero, tk_take, tk_skip, tkC_some, call_func, gt, st, binV, arith, isSh, storeV, all1, idxAV, fieldV, faddrV, iaddrSV, iaddrAV, pickV, convV, unV, eqbV, eqpV, extV, mm2, mmV, nilckV, ress, res1, retV, Value.cells, cond_true, cond_false, Bool.true_or, Bool.false_or, Bool.or_true, Bool.or_false, beq_self_eq_true, if_true, if_false, ite_true, ite_false, decide_true, decide_false, decide_eq_true_eq, reduceIte, Nat.zero_add, Nat.add_zero, and_self, true_and, and_true, List.size_toArray, List.length_cons, List.length_nil, List.append_nil, List.nil_append, Int.toNat_zero, Bool.not_false, Bool.not_true, Bool.not_not, Bool.false_eq_true, Bool.true_eq_false, reduceCtorEq, Int.reduceLT, Int.reduceLE, Int.reduceToNat, Int.reduceAdd, Int.reduceSub, Int.reduceMul, Int.reduceNeg, Nat.reduceMul, Nat.reduceAdd, Nat.reduceSub, Nat.reduceBEq, Nat.reduceEqDiff, Nat.reduceLT, Nat.reduceLeDiff, Int.reduceBEq, Int.reduceEq, Nat.reducePow, Int.reducePow, IntWalk.i64_in, IntKind.bits, eqAV, eqL, leafEq, andO, fillV, buildSV, List.getElem?_toArray, List.getElem?_cons_zero, List.getElem?_cons_succ, List.getElem?_nil, Int.reduceGT, Int.reduceGE, Int.reduceBNe, Bool.true_and, Bool.and_true, Bool.false_and, Bool.and_false, Bool.and_self, IntWalk.u64_in, Int.cast_ofNat_Int, callF1, pad16, pad_0, pad_1, pad_2, pad_3, pad_4, pad_5, pad_6, pad_7, pad_8, pad_9, pad_10, pad_11, pad_12, pad_13, pad_14, pad_15, gc0, gc1, gc2, gc3, gc4, gc5, gc6, gc7, gc8, gc9, gc10, gc11, gc12, gc13, gc14, gc15, gcS, sc0, sc1, sc2, sc3, sc4, sc5, sc6, sc7, sc8, sc9, sc10, sc11, sc12, sc13, sc14, sc15, scS, List.drop_succ_cons, List.drop_nil, x_pan, s_pan, b_pan, pE_ret, pE_pan, pE_none, pE_ite, pvE_some, pvE_none, pvE_ite, rv_some, rv_none, rv_ite, oR_ret, t_mv, t_pick, t_alloc, t_box, t_build, t_buildS, t_load, t_store, t_nilck, t_bin, t_eqb, t_eqA, t_eqp, t_un, t_conv, t_field, t_idxA, t_faddr, t_iaddrS, t_iaddrA, t_ext, t_len, t_mm, t_call, t_ifc, t_fn, t_slc, t_slcA, t_slcT, t_tass, t_isn, t_mks, t_app, t_pan, panE_i, optE_none, optE_some, bnd_none, bnd_int, slA_none, slA_some, appR_some, appOld_cells, newsV_s, newsV_n, lenS_s, appV_nil, appV_some, mksV_i, sh_c, sh_g, f_pan, endD_ret, dfr_normal, dfr_ret, dfr_pan, restD_normal, callD1, callC1, tassV, isnV, slcV, slcAV, slcTV, slcB, appNew, Option.bind_some, Option.bind_none, d_pan, h_pan, wrH_eq, wrX_cells, wrU_some, upH_nil, upH_cons, lk_upH, effR_some, effR_none, effR_ite, Option.isNone_none, Option.isNone_some, slA_zero, call_yield, e_range, it_func, wy_same, y_call, isLp_self, beg_normal, end_normal, end_ret, end_exit, end_ite, aft_ret, aft_ready, aft_done, aft_exit, setP_cons, setP_nil, sh_r, t_mkmap, t_mlook, t_mupd, t_mdel, mapF_some, lookF_some, setM_some, lookR_t, lookR_n, lookR_f, lookR_fn, lookV, mupdV, mdelV, mkM]
    refine ok_some (.inl ⟨rfl, K.length - (i + 1), by omega, _, H4, N4, v4, i + 1, rfl, ⟨?_, ?_, ?_, ?_, ?_, ?_, ?_⟩, g4, fr4, by rw [hnew]; exact fs4 _ _ hsb2 hl3, ?_, sq4 _ _ hsb2 hl3, hasc', by omega, rfl⟩)
    rotate_right
    · rw [hrsp]
      have : (S1 ++ [i + 1]).map iC = S1.map iC ++ [(i : Int) + 1] := by simp [iC]
      rw [this]
      exact s4.toM
    all_goals simp (maxSteps := 10000000) (disch := omega) only [kp.l, kp.t0, kp.t5, kp.t6, kp.t17, kp.t18, kp.t19, kp.t7, kp.t8, kp.t9, lenV_sl, Int.toNat_natCast, bft, btf, gtst, st_len, hc1, cond_true, cond_false, Nat.reduceBEq, Nat.reduceLT, decide_true, beq_self_eq_true, if_true, if_false]
end Go.Proofs.YtlkeeckhileedaaDoor
