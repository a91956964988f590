/- Own text: the log of writes, part HoH: contracts of the functions that the laws of the log call. -/
import Derived.Test.YtfhiplfagejfoaaDoorHoG
set_option linter.unusedSimpArgs false
set_option linter.unusedVariables false
namespace Go.Proofs.YtfhiplfagejfoaaDoor
open Go.Proofs.YtfhiplfagejfoaaDoor.K Go.ChangeShapes Go.WideShapes Go.ChangeAt Go.RowKit 
set_option maxRecDepth 100000
set_option linter.unusedSimpArgs false
set_option linter.unusedVariables false

/-! ### Slots that are taken -/
def cnt (M : List Int) (w : Nat) : Nat → Nat
  | 0 => 0
  | n + 1 => cnt M w n + (if M.getD (n * w) 0 = 0 then 0 else 1)
theorem set_ne {M : List Int} {p q : Nat} {x : Int} (h : p ≠ q) : (M.set p x).getD q 0 = M.getD q 0 := by
  simp only [List.getD_eq_getElem?_getD, List.getElem?_set_ne h]
theorem cnt_set {M : List Int} {w a : Nat} {x : Int} (hw : 0 < w) : ∀ n, cnt (M.set (a * w) x) w n ≤ cnt M w n + (if a < n then 1 else 0)
  | 0 => by simp [cnt]
  | n + 1 => by
    have ih := cnt_set (M := M) (a := a) (x := x) hw n
    simp only [cnt]
    by_cases h : a = n
    · subst h
      rw [if_neg (by omega : ¬ a < a)] at ih
      rw [if_pos (by omega : a < a + 1)]
      split <;> split <;> omega
    · have hne : a * w ≠ n * w := fun e => h (Nat.eq_of_mul_eq_mul_right hw e)
      rw [set_ne hne]
      by_cases h2 : a < n
      · rw [if_pos h2] at ih; rw [if_pos (by omega : a < n + 1)]; omega
      · rw [if_neg h2] at ih; rw [if_neg (by omega : ¬ a < n + 1)]; omega
theorem cnt_odd {M : List Int} {a : Nat} {x : Int} : ∀ n, cnt (M.set (a * 2 + 1) x) 2 n = cnt M 2 n
  | 0 => rfl
  | n + 1 => by
    simp only [cnt]
    rw [cnt_odd n, set_ne (by omega)]
theorem cnt_free {M : List Int} {w : Nat} : ∀ n, cnt M w n < n → ∃ j, j < n ∧ M.getD (j * w) 0 = 0
  | 0, h => by omega
  | n + 1, h => by
    simp only [cnt] at h
    by_cases h0 : M.getD (n * w) 0 = 0
    · exact ⟨n, by omega, h0⟩
    · rw [if_neg h0] at h
      obtain ⟨j, hj, e⟩ := cnt_free (M := M) (w := w) n (by omega)
      exact ⟨j, by omega, e⟩
theorem cnt_rep (m w : Nat) : ∀ n, cnt (List.replicate m 0) w n = 0
  | 0 => rfl
  | n + 1 => by simp only [cnt, cnt_rep m w n, rep_getD, if_true]
theorem tk_w1 {L : List Int} {a : Nat} (h : a < L.length) : tk (fl w1 L) a 1 = some [.int .u64 (L.getD a 0)] := by
  have := fl_read w1_len L [] a 0 1 0 h (by omega)
  rw [List.append_nil, Nat.mul_one, Nat.add_zero] at this
  exact this.trans rfl
theorem wr_w0 {L : List Int} {a : Nat} {x : Int} (h : a < L.length) : wr (fl w1 L) a [.int .u64 x] = some (fl w1 (L.set a x)) := by
  have h1 := wr_fl w1_len L a 0 [.int .u64 x] 0 x h (by simp) rfl
  rw [Nat.add_zero, Nat.mul_one] at h1
  exact h1
def lbLb : LC := (.seq (.seq (.ops [om 30 7,om 31 10,om 32 1,oa 33 (.bin .mul (ot 31) (ot 32)),oa 34 (.iaddrS 1 (ot 30) (ot 33)),ol 35 34,oa 36 (.bin .neq (ot 35) (ou 0))])
 (.cond (ot 36) .skip
 (.exit 2)))
 (.block 3 (.ops [om 37 10,oa 38 (.bin .add (ot 37) (oi 1)),om 39 0,oa 40 (.bin .rem (ot 38) (ot 39)),om 10 40])))
def lbLa : LC := (.seq (.seq (.ops [om 17 9,om 18 8,oa 19 (.len false (ot 18)),oa 20 (.bin .lss (ot 17) (ot 19))])
 (.cond (ot 20) .skip
 (.exit 0)))
 (.seq (.block 1 (.seq (.ops [om 23 8,om 24 9,oa 25 (.iaddrS 2 (ot 23) (ot 24)),oa 26 (.iaddrA 1 2 (ot 25) (oi 0)),ol 27 26,om 28 0,oa 29 (.call (.func 110) [(ot 27), (ot 28)]),om 10 29])
 (.seq (.block 2 (.loop lbLb))
 (.seq (.ops [om 41 7,om 42 10,om 43 1,oa 44 (.bin .mul (ot 42) (ot 43)),om 45 8,om 46 9,oa 47 (.iaddrS 2 (ot 45) (ot 46)),oa 48 (.iaddrA 1 2 (ot 47) (oi 0)),ol 49 48,oa 50 (.iaddrS 1 (ot 41) (ot 44)), oc (.store 1 (ot 50) (ot 49))])
 (.seq (.ops [om 51 1,oa 52 (.bin .eql (ot 51) (oi 2))])
 (.cond (ot 52) (.ops [om 53 7,om 54 10,om 55 1,oa 56 (.bin .mul (ot 54) (ot 55)),oa 57 (.bin .add (ot 56) (oi 1)),om 58 8,om 59 9,oa 60 (.iaddrS 2 (ot 58) (ot 59)),oa 61 (.iaddrA 1 2 (ot 60) (oi 1)),ol 62 61,oa 63 (.iaddrS 1 (ot 53) (ot 57)), oc (.store 1 (ot 63) (ot 62))])
 .skip))))))
 (.ops [om 21 9,oa 22 (.bin .add (ot 21) (oi 1)),om 9 22])))
def LrLd : FnL := ⟨(.seq (.ops [oa 6 (.mv (.const (.slice none 0 0)))])
 (.seq (.ops [om 11 0,om 12 1,oa 13 (.bin .mul (ot 11) (ot 12)),oa 14 (.mks [(.int .u64 0)] 8 (ot 13) (ot 13)),om 7 14])
 (.seq (.ops [om 15 2,oa 16 (.call (.func 109) [(ot 15)]),om 8 16])
 (.seq (.seq (.ops [oa 9 (.mv (oi 0))])
 (.block 0 (.loop lbLa)))
 (.seq (.ops [om 64 7,om 6 64])
 .ret))))),
 65, [.tmp 6]⟩
theorem lowrLd : lowerFn Tryd.prog Tryd.f98 = some LrLd := by kernel_rfl
noncomputable def GrLd (B : OH) : Nat → Cs
  | 110 => Vref02Slot B
  | 109 => VrAh B
  | _ => fun _ _ _ => none
theorem GrLd_ref02Slot {B : OH} : GrLd B 110 = Vref02Slot B := rfl
theorem GrLd_rAh {B : OH} : GrLd B 109 = VrAh B := rfl
theorem sGrLd {w0 : World} {B : OH} : SoundG Tryd.prog w0 B { f := GrLd B } := .of fun k => by
  unfold GrLd
  split
  · exact .inr ⟨enref02Slot, sVref02Slot⟩
  · exact .inr ⟨enrAh, sVrAh⟩
  · exact .inl fun _ _ _ => rfl
theorem enrLd : Enter Tryd.prog 98 := .of Tryd.func98 (by kernel_rfl) (by kernel_rfl)
noncomputable def TrLd (B : OH) : Cs := callF B { f := GrLd B } 1000000 LrLd
theorem sTrLd {w0 : World} {B : OH} : SoundC Tryd.prog w0 B 98 (TrLd B) := callF_sound mixedOrders sGrLd 1000000 Tryd.func98 lowrLd
noncomputable def VrLd (B : OH) : Cs := TrLd B
theorem sVrLd {w0 : World} {B : OH} : SoundC Tryd.prog w0 B 98 (VrLd B) := sTrLd
structure KLa (n w bo : Nat) (vx : Value) (i : Nat) (ts : List Value) : Prop where
  l : ts.length = 65
  t0 : gt ts 0 = .int .i64 (n : Int)
  t1 : gt ts 1 = .int .i64 (w : Int)
  t7 : gt ts 7 = .slice (some ⟨bo, 0, none⟩) (n * w) (n * w)
  t8 : gt ts 8 = vx
  t9 : gt ts 9 = .int .i64 (i : Int)
structure KLb (n w bo : Nat) (vx : Value) (i j : Nat) (ts : List Value) : Prop where
  l : ts.length = 65
  t0 : gt ts 0 = .int .i64 (n : Int)
  t1 : gt ts 1 = .int .i64 (w : Int)
  t7 : gt ts 7 = .slice (some ⟨bo, 0, none⟩) (n * w) (n * w)
  t8 : gt ts 8 = vx
  t9 : gt ts 9 = .int .i64 (i : Int)
  t10 : gt ts 10 = .int .i64 (j : Int)
theorem J101 : Said (an @TrLd.eq_1 <| an @LrLd.eq_1 <| an @GrLd_ref02Slot <| an @Vref02Slot_eq <| an @GrLd_rAh <| an @lbLb.eq_1 <| trivial) := said_ok _
set_option maxHeartbeats 4000000 in
theorem loopLb {B : OH} {H : HL} {N : St} {vx : Value} {M : List Int} {n w bo i a : Nat} (hn : 1 ≤ n ∧ n ≤ 1024) (hw : 1 ≤ w ∧ w ≤ 2) (hM : M.length = n * w) (ha : a < n) (hf : ∃ z, z < n ∧ M.getD (z * w) 0 = 0) (hN : good B H N) (bb : B bo = none) (lb : lk H bo = some (.cells (fl w1 M) (n * w))) {ts : List Value} (kp : KLb n w bo vx i a ts) {F : Nat} (hF : 3000 ≤ F) :
    Ok (exec B { f := GrLd B } F (LC.loop lbLb) ⟨ts, H, N⟩) (fun x st => x = .exit 2 ∧ st.H = H ∧ st.N = N ∧ ∃ j, j < n ∧ M.getD (j * w) 0 = 0 ∧ KLb n w bo vx i j st.t) := by
  obtain ⟨hB, hR, hI⟩ := gX hN
  have hG : ∃ H N, good B H N := ⟨H, N, hN⟩
  have rb := rN bb
  obtain ⟨z, hz, hz0⟩ := hf
  obtain ⟨q0, hq0, hq0n⟩ : ∃ q, (a + q) % n = z ∧ q < n := by
    by_cases h : a ≤ z
    · exact ⟨z - a, by rw [show a + (z - a) = z by omega, Nat.mod_eq_of_lt hz], by omega⟩
    · exact ⟨n + z - a, by rw [show a + (n + z - a) = z + n by omega, Nat.add_mod_right, Nat.mod_eq_of_lt hz], by omega⟩
  refine loop_rule (n0 := 100) (fun q st => ∃ ts, ∃ j : Nat, st = ⟨ts, H, N⟩ ∧ KLb n w bo vx i j ts ∧ j < n ∧ (j + q) % n = z) _ ?_ q0 _ ⟨ts, a, rfl, kp, ha, hq0⟩ _ (by omega)
  clear kp hF F ts hq0 hq0n q0 ha a
  rintro z_ q st ⟨ts, j, rfl, kp, hj, hq⟩
  have hjw : j * w < n * w := Nat.mul_lt_mul_of_pos_right hj (by omega)
  have hnw : n * w ≤ 2048 := by
    have := Nat.mul_le_mul hn.2 hw.2; omega
  have m1 : (j : Int) * (w : Int) = ((j * w : Nat) : Int) := by rw [Int.natCast_mul]
  have m2 : IntKind.i64.wrap ((j * w : Nat) : Int) = ((j * w : Nat) : Int) := IntWalk.i64_in _ (by omega)
  have m0 : (0 : Int) ≤ ((j * w : Nat) : Int) := by omega
  have r1 : tk (fl w1 M) (j * w) 1 = some [.int .u64 (M.getD (j * w) 0)] := tk_w1 (by omega)
  by_cases h0 : M.getD (j * w) 0 = 0
  · rw [h0] at r1
    simp (disch := omega) only [J101, hB, hR, hI, kp.l, kp.t0, kp.t1, kp.t7, kp.t8, kp.t9, kp.t10, lb, bb, rb, m1, m2, m0, hjw, r1, Nat.mul_one, bne_self_eq_false, all1, ress, res1, retV, Value.cells, newsV_s, seval, eV]
    refine ok_some (.inr ⟨by simp, rfl, rfl, rfl, j, hj, h0, ⟨?_, ?_, ?_, ?_, ?_, ?_, ?_⟩⟩)
    all_goals simp (disch := omega) only [kp.l, kp.t0, kp.t1, kp.t7, kp.t8, kp.t9, kp.t10, Int.cast_ofNat_Int, decide_true, ev2, seval, ev5]
  · have hb : (M.getD (j * w) 0 != 0) = true := by simpa using h0
    have hq1 : q ≠ 0 := fun e => by
      subst e
      rw [Nat.add_zero, Nat.mod_eq_of_lt hj] at hq
      rw [hq] at h0; exact h0 hz0
    have a1 : IntKind.i64.wrap ((j : Int) + 1) = ((j + 1 : Nat) : Int) := by rw [IntWalk.i64_in _ (by omega)]; omega
    have a2 : ((j + 1 : Nat) : Int).tmod (n : Int) = (((j + 1) % n : Nat) : Int) := rfl
    have a3 : ¬ (n : Int) = 0 := by omega
    have a4 : (j + 1) % n < n := Nat.mod_lt _ (by omega)
    generalize hj' : (j + 1) % n = j' at *
    simp (disch := omega) only [J101, hB, hR, hI, kp.l, kp.t0, kp.t1, kp.t7, kp.t8, kp.t9, kp.t10, lb, bb, rb, m1, m2, m0, hjw, r1, hb, a1, a2, a3, Nat.mul_one, all1, ress, res1, retV, Value.cells, newsV_s, seval, eV]
    refine ok_some (.inl ⟨rfl, q - 1, by omega, _, j', rfl, ⟨?_, ?_, ?_, ?_, ?_, ?_, ?_⟩, a4, ?_⟩)
    rotate_right
    · rw [← hj', Nat.mod_add_mod, show j + 1 + (q - 1) = j + q by omega]; exact hq
    all_goals simp (disch := omega) only [kp.l, kp.t0, kp.t1, kp.t7, kp.t8, kp.t9, kp.t10, Int.cast_ofNat_Int, decide_true, ev2, seval, ev5]
theorem J102 : Said (an @TrLd.eq_1 <| an @LrLd.eq_1 <| an @GrLd_ref02Slot <| an @Vref02Slot_eq <| an @GrLd_rAh <| an @lbLa.eq_1 <| trivial) := said_ok _
set_option maxHeartbeats 8000000 in
theorem loopLa {B : OH} {H0 H1 H : HL} {N : St} {vx : Value} {X : List U2} {n w bo : Nat} (hn : 1 ≤ n ∧ n ≤ 1024) (hw : w = 1 ∨ w = 2) (hx : SlM p2 2 B H0 H1 vx X) (hX : X.length ≤ n) (hu : ∀ x ∈ X, u64R x.a ∧ u64R x.b) (hN : good B H N) (bb : B bo = none) (l0 : ∃ c, lk H0 bo = some c) (hk : ∀ y c, y ≠ bo → lk H1 y = some c → lk H y = some c) {M0 : List Int} (hM0 : M0.length = n * w) (hu0 : U64s M0) (hc0 : cnt M0 w n = 0) (lb : lk H bo = some (.cells (fl w1 M0) (n * w))) {ts : List Value} (kp : KLa n w bo vx 0 ts) {F : Nat} (hF : 9000 ≤ F) :
    Ok (exec B { f := GrLd B } F (LC.loop lbLa) ⟨ts, H, N⟩) (fun x st => x = .exit 0 ∧ good B st.H st.N ∧ (∀ y c, y ≠ bo → lk H1 y = some c → lk st.H y = some c) ∧ ∃ M : List Int, M.length = n * w ∧ U64s M ∧ lk st.H bo = some (.cells (fl w1 M) (n * w)) ∧ KLa n w bo vx X.length st.t) := by
  have rb := rN bb
  obtain ⟨c0, l0⟩ := l0
  have hll := hx.len
  have hnw : n * w ≤ 2048 := by
    have := Nat.mul_le_mul hn.2 (show w ≤ 2 by omega); omega
  refine loop_rule (n0 := 4000) (fun q st => ∃ ts H' N', ∃ M : List Int, ∃ i : Nat, st = ⟨ts, H', N'⟩ ∧ KLa n w bo vx i ts ∧ good B H' N' ∧ (∀ y c, y ≠ bo → lk H1 y = some c → lk H' y = some c) ∧ M.length = n * w ∧ U64s M ∧ lk H' bo = some (.cells (fl w1 M) (n * w)) ∧ cnt M w n ≤ i ∧ i ≤ X.length ∧ q = X.length - i) _ ?_ X.length _ ⟨ts, H, N, M0, 0, rfl, kp, hN, hk, hM0, hu0, lb, by omega, by omega, rfl⟩ _ (by omega)
  clear kp hF F ts hN hk N hM0 hu0 hc0 lb M0
  rintro z q st ⟨ts, H2, N2, M, i, rfl, kp, g, hk, hM, hMu, lb, hct, hi, rfl⟩
  obtain ⟨hB, hR, hI⟩ := gX g
  have hG : ∃ H N, good B H N := ⟨H2, N2, g⟩
  have hc1 : ((i + 1 : Nat) : Int) = (i : Int) + 1 := by omega
  by_cases hin : i < X.length
  case neg =>
    obtain rfl : i = X.length := by omega
    simp (disch := omega) only [J102, hB, hR, hI, kp.l, kp.t0, kp.t1, kp.t7, kp.t8, kp.t9, hll, Int.lt_irrefl, all1, ress, res1, retV, Value.cells, newsV_s, seval, eV]
    refine ok_some (.inr ⟨by simp, rfl, g, hk, M, hM, hMu, lb, ⟨?_, ?_, ?_, ?_, ?_, ?_⟩⟩)
    all_goals simp (disch := omega) only [kp.l, kp.t0, kp.t1, kp.t7, kp.t8, kp.t9, Int.cast_ofNat_Int, decide_true, ev2, seval, ev5]
  have hin' : (i : Int) < (X.length : Int) := by omega
  have i0 : (0 : Int) ≤ (i : Int) := by omega
  have hxs : SlM p2 2 B H0 H2 vx X := hx.mono fun y c hy e => hk y c (fun e' => hx.ne l0 (by rw [hy, e'])) e
  obtain ⟨bl, ol, cl, hvx, _, rl⟩ := (hxs.rd p2_len).at (by omega)
  obtain ⟨ua, ub⟩ := hu _ (List.mem_of_getElem? (some_getD (d := p20) hin))
  have r1 : rdO H2 B bl (ol + i * 2) 1 (rdB B bl (ol + i * 2) 1) = some [.int .u64 (X.getD i p20).a] := (rl H2 Fr.refl i 0 1 p20 hin (by omega)).trans rfl
  have es := xSlot hG (X.getD i p20).a (n := n) ⟨hn.1, by omega⟩
  have hs : 0 ≤ miI (X.getD i p20).a % (n : Int) ∧ miI (X.getD i p20).a % (n : Int) < (n : Int) := ⟨Int.emod_nonneg _ (by omega), Int.emod_lt_of_pos _ (by omega)⟩
  obtain ⟨a, ha⟩ : ∃ a : Nat, miI (X.getD i p20).a % (n : Int) = (a : Int) := ⟨_, (Int.toNat_of_nonneg hs.1).symm⟩
  rw [ha] at es hs
  have hbl : (bl == bo) = false := eqb fun e => hxs.ne l0 (by rw [hvx]; simp [slB, e])
  generalize hxa : (X.getD i p20).a = xa at *
  generalize hxb : (X.getD i p20).b = xb at *
  subst hvx
  simp (disch := omega) only [J102, hB, hR, hI, kp.l, kp.t0, kp.t1, kp.t7, kp.t8, kp.t9, hll, hin, hin', i0, r1, es, all1, ress, res1, retV, Value.cells, newsV_s, seval, eV]
  generalize hX : exec B _ _ (LC.loop _) _ = o
  obtain ⟨x, ⟨ts2, H3, N3⟩, rfl, rfl, hHH, hNN, j, hj, hj0, kp2⟩ := (show Ok o _ by rw [← hX]; exact loopLb (vx := .slice (some ⟨bl, ol, none⟩) X.length cl) (n := n) (w := w) (i := i) (a := a) hn (by omega) hM (by omega) (cnt_free n (by omega)) g bb lb (by constructor <;> simp (disch := omega) only [kp.l, kp.t0, kp.t1, kp.t7, kp.t8, kp.t9, Int.cast_ofNat_Int, decide_true, ev2, seval, ev5]) (by omega))
  simp only at kp2 hHH hNN
  rw [hHH, hNN]
  clear kp
  have kp := kp2
  have hjw : j * w < n * w := Nat.mul_lt_mul_of_pos_right hj (by omega)
  have m1 : (j : Int) * (w : Int) = ((j * w : Nat) : Int) := by rw [Int.natCast_mul]
  have m2 : IntKind.i64.wrap ((j * w : Nat) : Int) = ((j * w : Nat) : Int) := IntWalk.i64_in _ (by omega)
  have m0 : (0 : Int) ≤ ((j * w : Nat) : Int) := by omega
  have hwr : wr (fl w1 M) (j * w) [.int .u64 xa] = some (fl w1 (M.set (j * w) xa)) := wr_w0 (by omega)
  have gu := good_up (k := .cells (fl w1 (M.set (j * w) xa)) (n * w)) g bb lb
  have kk1 : ∀ y c, y ≠ bo → lk H1 y = some c → lk (upH H2 bo (.cells (fl w1 (M.set (j * w) xa)) (n * w))) y = some c := fun y c h e => by rw [lk_upH, eqb h, cond_false]; exact hk y c h e
  have lb1 : lk (upH H2 bo (.cells (fl w1 (M.set (j * w) xa)) (n * w))) bo = some (.cells (fl w1 (M.set (j * w) xa)) (n * w)) := by rw [lk_upH, beq_self_eq_true, cond_true]
  have hc2 : cnt (M.set (j * w) xa) w n ≤ i + 1 := by
    have := cnt_set (M := M) (a := j) (x := xa) (show 0 < w by omega) n
    split at this <;> omega
  rcases hw with hw | hw
  · have hw2 : ((w : Int) == 2) = false := by subst hw; rfl
    simp (disch := omega) only [J102, hB, hR, hI, kp.l, kp.t0, kp.t1, kp.t7, kp.t8, kp.t9, kp.t10, m1, m2, m0, hjw, hin, i0, r1, hwr, lb, bb, rb, hw2, Nat.mul_one, all1, ress, res1, retV, Value.cells, newsV_s, seval, eV]
    refine ok_some (.inl ⟨rfl, X.length - (i + 1), by omega, _, _, _, M.set (j * w) xa, i + 1, rfl, ⟨?_, ?_, ?_, ?_, ?_, ?_⟩, gu, kk1, by rw [List.length_set]; exact hM, set_u hMu _ ua, lb1, hc2, by omega, rfl⟩)
    all_goals simp (disch := omega) only [kp.l, kp.t0, kp.t1, kp.t7, kp.t8, kp.t9, kp.t10, hc1, Int.cast_ofNat_Int, decide_true, ev2, seval, ev5]
  · have hw2 : ((w : Int) == 2) = true := by subst hw; rfl
    subst hw
    have m1 : (j : Int) * 2 = ((j * 2 : Nat) : Int) := by omega
    have m3 : IntKind.i64.wrap (((j * 2 : Nat) : Int) + 1) = ((j * 2 + 1 : Nat) : Int) := by rw [IntWalk.i64_in _ (by omega)]; omega
    have m4 : (0 : Int) ≤ ((j * 2 + 1 : Nat) : Int) := by omega
    have m5 : j * 2 + 1 < n * 2 := by omega
    have hwr2 : wr (fl w1 (M.set (j * 2) xa)) (j * 2 + 1) [.int .u64 xb] = some (fl w1 ((M.set (j * 2) xa).set (j * 2 + 1) xb)) := wr_w0 (by rw [List.length_set]; omega)
    have r2 : rdO (upH H2 bo (.cells (fl w1 (M.set (j * 2) xa)) (n * 2))) B bl (ol + i * 2 + 1) 1 (rdB B bl (ol + i * 2 + 1) 1) = some [.int .u64 xb] := by
      rw [rdO_up hbl, ← hxb]; exact (rl H2 Fr.refl i 1 1 p20 hin (by omega)).trans rfl
    have gu2 := good_up (k := .cells (fl w1 ((M.set (j * 2) xa).set (j * 2 + 1) xb)) (n * 2)) gu bb lb1
    simp (disch := omega) only [J102, hB, hR, hI, kp.l, kp.t0, kp.t1, kp.t7, kp.t8, kp.t9, kp.t10, m1, m2, m0, hjw, hin, i0, r1, hwr, lb, bb, rb, hw2, m3, m4, m5, hwr2, r2, Nat.mul_one, all1, ress, res1, retV, Value.cells, newsV_s, seval, eV]
    refine ok_some (.inl ⟨rfl, X.length - (i + 1), by omega, _, _, _, (M.set (j * 2) xa).set (j * 2 + 1) xb, i + 1, rfl, ⟨?_, ?_, ?_, ?_, ?_, ?_⟩, gu2, fun y c h e => by rw [lk_upH, eqb h, cond_false]; exact kk1 y c h e, by rw [List.length_set, List.length_set]; exact hM, set_u (set_u hMu _ ua) _ ub, by rw [lk_upH, beq_self_eq_true, cond_true], by rw [cnt_odd]; exact hc2, by omega, rfl⟩)
    all_goals simp (disch := omega) only [kp.l, kp.t0, kp.t1, kp.t7, kp.t8, kp.t9, kp.t10, hc1, Int.cast_ofNat_Int, decide_true, ev2, seval, ev5]
theorem J103 : Said (an @TrLd.eq_1 <| an @LrLd.eq_1 <| an @GrLd_ref02Slot <| an @Vref02Slot_eq <| an @GrLd_rAh <| trivial) := said_ok _
set_option maxHeartbeats 8000000 in
theorem xlaid {B : OH} {H : HL} {N : St} {vl : Value} {L : List U2} {n w : Nat} (hn : 1 ≤ n ∧ n ≤ 1024) (hw : w = 1 ∨ w = 2) (hl : SlR p2 2 B H vl L) (hL : L.length ≤ n) (hu : ∀ x ∈ L, u64R x.a ∧ u64R x.b) (hN : good B H N) : ∃ v' M H' N', VrLd B [.int .i64 (n : Int), .int .i64 (w : Int), vl] H N = some (.ret v', H', N') ∧ good B H' N' ∧ Fr H H' ∧ SlM w1 1 B H H' v' M ∧ M.length = n * w ∧ U64s M := by
  obtain ⟨hB, hR, hI⟩ := gX hN
  have hG : ∃ H N, good B H N := ⟨H, N, hN⟩
  have hnw : n * w ≤ 2048 := by
    have := Nat.mul_le_mul hn.2 (show w ≤ 2 by omega); omega
  have m1 : (n : Int) * (w : Int) = ((n * w : Nat) : Int) := by rw [Int.natCast_mul]
  have m2 : IntKind.i64.wrap ((n * w : Nat) : Int) = ((n * w : Nat) : Int) := IntWalk.i64_in _ (by omega)
  have m3 : (0 : Int) ≤ ((n * w : Nat) : Int) := by omega
  have m4 : ((n * w : Nat) : Int) ≤ ((n * w : Nat) : Int) := Int.le_refl _
  have m5 : ((n * w : Nat) : Int) ≤ 140737488355328 := by omega
  have m6 : (8 : Int) * ((n * w : Nat) : Int) ≤ 140737488355328 := by omega
  obtain ⟨H1, hH1⟩ : ∃ H1, H1 = (N.n 0, (.cells (fl w1 (List.replicate (n * w) 0)) (n * w) : KB)) :: H := ⟨_, rfl⟩
  have g1 : good B H1 (sh N) := by rw [hH1]; exact good_new hN
  have f1' : Fr H H1 := by rw [hH1]; exact fr_set Fr.refl (lk_N hN _)
  have q0 : lk H1 (N.n 0) = some (.cells (fl w1 (List.replicate (n * w) 0)) (n * w)) := by rw [hH1]; exact lk_top
  obtain ⟨vx, X, H2, N2, e2, g2, f2, s2, hX, hm⟩ := xahead (hl.mono f1') (by omega) g1
  rw [hH1] at e2
  unfold VrLd
  simp (disch := omega) only [J103, hB, hR, hI, m1, m2, m3, m4, m5, m6, rep_w1, e2, Nat.mul_one, all1, ress, res1, retV, Value.cells, newsV_s, seval, eV]
  generalize hXX : exec B _ _ (LC.loop _) _ = o
  obtain ⟨x, ⟨ts, H3, N3⟩, rfl, rfl, g3, hk, M, hM, hMu, lb, kp⟩ := (show Ok o _ by rw [← hXX]; exact loopLa (n := n) (w := w) (bo := N.n 0) (X := X) hn hw s2 (by omega) (fun x hx => hu x (hm x hx)) g2 (hB 0) ⟨_, q0⟩ (fun _ _ _ e => e) (List.length_replicate) (rep_u _) (cnt_rep _ _ _) (f2 _ _ q0) ⟨rfl, rfl, rfl, rfl, rfl, rfl⟩ (by omega))
  simp only at g3 hk lb kp
  simp (disch := omega) only [J103, hB, hR, hI, kp.l, kp.t0, kp.t1, kp.t7, kp.t8, kp.t9, all1, ress, res1, retV, Value.cells, newsV_s, seval, eV]
  refine ⟨_, M, _, _, rfl, g3, fun y c e => hk y c (fun e' => by rw [e', lk_N hN] at e; cases e) (f2 _ _ (f1' _ _ e)), .inr ⟨N.n 0, n * w, [], ?_, hB 0, lk_N hN 0, by omega, ?_⟩, hM, hMu⟩
  · rw [hM]
  · rw [List.append_nil, Nat.mul_one]; exact lb
end Go.Proofs.YtfhiplfagejfoaaDoor
namespace Go.Proofs.YtfhiplfagejfoaaDoor
open Go.Proofs.YtfhiplfagejfoaaDoor.K Go.ChangeShapes Go.WideShapes Go.ChangeAt Go.RowKit 
set_option maxRecDepth 100000
set_option linter.unusedSimpArgs false
set_option linter.unusedVariables false

def lbBv : LC := (.seq (.seq (.ops [om 48 9,om 49 8,oa 50 (.bin .lss (ot 48) (ot 49))])
 (.cond (ot 50) .skip
 (.exit 2)))
 (.seq (.block 3 (.seq (.draw [pm 53 2,pm 54 9,oe 55 (.iaddrS 2 (ot 53) (ot 54)),oe 56 (.iaddrA 1 2 (ot 55) (oi 0)),pl 57 56,pm 58 2,pm 59 8,oe 60 (.iaddrS 2 (ot 58) (ot 59)),oe 61 (.iaddrA 1 2 (ot 60) (oi 0)),pl 62 61,oe 63 (.bin .eql (ot 57) (ot 62))])
 (.cond (ot 63) (.seq (.ops [oa 6 (.mv (.const (.slice none 0 0))),oa 7 (.mv (oi 1))])
 .ret)
 .skip)))
 (.ops [om 51 9,oa 52 (.bin .add (ot 51) (oi 1)),om 9 52])))
def lbBu : LC := (.seq (.seq (.ops [om 24 8,om 25 2,oa 26 (.len false (ot 25)),oa 27 (.bin .lss (ot 24) (ot 26))])
 (.cond (ot 27) .skip
 (.exit 0)))
 (.seq (.block 1 (.seq (.seq (.ops [om 30 2,om 31 8,oa 32 (.iaddrS 2 (ot 30) (ot 31)),oa 33 (.iaddrA 1 2 (ot 32) (oi 0)),ol 34 33,oa 35 (.bin .eql (ot 34) (ou 0)),om 36 35,ob 37 (.mv (ot 1)) 36 false,ob 38 (.bin .eql (ot 37) (oi 1)) 36 false,ob 39 (.mv (ot 38)) 36 false,ob 40 (.mv (ot 2)) 39 true,ob 41 (.mv (ot 8)) 39 true,ob 42 (.iaddrS 2 (ot 40) (ot 41)) 39 true,ob 43 (.iaddrA 1 2 (ot 42) (oi 1)) 39 true,ob 44 (.load false 1 (ot 43)) 39 true,ob 45 (.bin .neq (ot 44) (ou 0)) 39 true,ob 46 (.pick (ot 39) (ot 45) (.const (.bool false))) 36 false,oa 47 (.pick (ot 36) (.const (.bool true)) (ot 46))])
 (.cond (ot 47) (.seq (.ops [oa 6 (.mv (.const (.slice none 0 0))),oa 7 (.mv (oi 1))])
 .ret)
 .skip))
 (.seq (.ops [oa 9 (.mv (oi 0))])
 (.block 2 (.loop lbBv)))))
 (.ops [om 28 8,oa 29 (.bin .add (ot 28) (oi 1)),om 8 29])))
def LrB7 : FnL := ⟨(.seq (.ops [oa 6 (.mv (.const (.slice none 0 0))),oa 7 (.mv (oi 0))])
 (.seq (.seq (.ops [om 10 0,oa 11 (.bin .lss (ot 10) (oi 1)),om 12 11,ob 13 (.mv (ot 0)) 12 false,ob 14 (.bin .gtr (ot 13) (oi 1024)) 12 false,oa 15 (.pick (ot 12) (.const (.bool true)) (ot 14)),om 16 15,ob 17 (.mv (ot 1)) 16 false,ob 18 (.bin .lss (ot 17) (oi 1)) 16 false,oa 19 (.pick (ot 16) (.const (.bool true)) (ot 18)),om 20 19,ob 21 (.mv (ot 1)) 20 false,ob 22 (.bin .gtr (ot 21) (oi 2)) 20 false,oa 23 (.pick (ot 20) (.const (.bool true)) (ot 22))])
 (.cond (ot 23) (.seq (.ops [oa 6 (.mv (.const (.slice none 0 0))),oa 7 (.mv (oi 1))])
 .ret)
 .skip))
 (.seq (.seq (.ops [oa 8 (.mv (oi 0))])
 (.block 0 (.loop lbBu)))
 (.seq (.seq (.ops [om 64 2,oa 65 (.len false (ot 64)),om 66 0,oa 67 (.bin .gtr (ot 65) (ot 66))])
 (.cond (ot 67) (.seq (.ops [oa 6 (.mv (.const (.slice none 0 0))),oa 7 (.mv (oi 11))])
 .ret)
 .skip))
 (.seq (.ops [om 68 0,om 69 1,om 70 2,oa 71 (.call (.func 98) [(ot 68), (ot 69), (ot 70)]),om 6 71,oa 7 (.mv (oi 0))])
 .ret))))),
 72, [.tmp 6, .tmp 7]⟩
theorem lowrB7 : lowerFn Tryd.prog Tryd.f82 = some LrB7 := by kernel_rfl
noncomputable def GrB7 (B : OH) : Nat → Cs
  | 98 => VrLd B
  | _ => fun _ _ _ => none
theorem GrB7_rLd {B : OH} : GrB7 B 98 = VrLd B := rfl
theorem sGrB7 {w0 : World} {B : OH} : SoundG Tryd.prog w0 B { f := GrB7 B } := .of fun k => by
  unfold GrB7
  split
  · exact .inr ⟨enrLd, sVrLd⟩
  · exact .inl fun _ _ _ => rfl
theorem enrB7 : Enter Tryd.prog 82 := .of Tryd.func82 (by kernel_rfl) (by kernel_rfl)
noncomputable def TrB7 (B : OH) : Cs := callF B { f := GrB7 B } 1000000 LrB7
theorem sTrB7 {w0 : World} {B : OH} : SoundC Tryd.prog w0 B 82 (TrB7 B) := callF_sound mixedOrders sGrB7 1000000 Tryd.func82 lowrB7
noncomputable def VrB7 (B : OH) : Cs := TrB7 B
theorem sVrB7 {w0 : World} {B : OH} : SoundC Tryd.prog w0 B 82 (VrB7 B) := sTrB7
structure KBu (n w : Nat) (vl : Value) (i : Nat) (ts : List Value) : Prop where
  l : ts.length = 72
  t0 : gt ts 0 = .int .i64 (n : Int)
  t1 : gt ts 1 = .int .i64 (w : Int)
  t2 : gt ts 2 = vl
  t8 : gt ts 8 = .int .i64 (i : Int)
structure KBv (n w : Nat) (vl : Value) (i k : Nat) (ts : List Value) : Prop where
  l : ts.length = 72
  t0 : gt ts 0 = .int .i64 (n : Int)
  t1 : gt ts 1 = .int .i64 (w : Int)
  t2 : gt ts 2 = vl
  t8 : gt ts 8 = .int .i64 (i : Int)
  t9 : gt ts 9 = .int .i64 (k : Int)
theorem J104 : Said (an @TrB7.eq_1 <| an @LrB7.eq_1 <| an @GrB7_rLd <| an @lbBv.eq_1 <| trivial) := said_ok _
set_option maxHeartbeats 4000000 in
theorem loopBv {B : OH} {H : HL} {N : St} {vl : Value} {L : List U2} {n w i : Nat} (hl : SlR p2 2 B H vl L) (hi : i < L.length) (hL : L.length ≤ 4000) (hd : ∀ k, k < i → (L.getD k p20).a ≠ (L.getD i p20).a) (hN : good B H N) {ts : List Value} (kp : KBv n w vl i 0 ts) {F : Nat} (hF : 5000 ≤ F) :
    Ok (exec B { f := GrB7 B } F (LC.loop lbBv) ⟨ts, H, N⟩) (fun x st => x = .exit 2 ∧ st.H = H ∧ st.N = N ∧ ∃ k, KBv n w vl i k st.t) := by
  obtain ⟨hB, hR, hI⟩ := gX hN
  have hG : ∃ H N, good B H N := ⟨H, N, hN⟩
  refine loop_rule (n0 := 100) (fun q st => ∃ ts, ∃ k : Nat, st = ⟨ts, H, N⟩ ∧ KBv n w vl i k ts ∧ k ≤ i ∧ q = i - k) _ ?_ i _ ⟨ts, 0, rfl, kp, by omega, rfl⟩ _ (by omega)
  clear kp hF F ts
  rintro z q st ⟨ts, k, rfl, kp, hk, rfl⟩
  have hc1 : ((k + 1 : Nat) : Int) = (k : Int) + 1 := by omega
  by_cases hin : k < i
  case neg =>
    obtain rfl : k = i := by omega
    simp (disch := omega) only [J104, hB, hR, hI, kp.l, kp.t0, kp.t1, kp.t2, kp.t8, kp.t9, Int.lt_irrefl, all1, ress, res1, retV, Value.cells, newsV_s, seval, eV]
    refine ok_some (.inr ⟨by simp, rfl, rfl, rfl, k, ⟨?_, ?_, ?_, ?_, ?_, ?_⟩⟩)
    all_goals simp (disch := omega) only [kp.l, kp.t0, kp.t1, kp.t2, kp.t8, kp.t9, Int.cast_ofNat_Int, decide_true, ev2, seval, ev5]
  have hin' : (k : Int) < (i : Int) := by omega
  have k0 : (0 : Int) ≤ (k : Int) := by omega
  have i0 : (0 : Int) ≤ (i : Int) := by omega
  have hkl : k < L.length := by omega
  obtain ⟨bl, ol, cl, rfl, _, rl⟩ := hl.at (by omega)
  have r1 : rdO H B bl (ol + k * 2) 1 (rdB B bl (ol + k * 2) 1) = some [.int .u64 (L.getD k p20).a] := (rl H Fr.refl k 0 1 p20 hkl (by omega)).trans rfl
  have r2 : rdO H B bl (ol + i * 2) 1 (rdB B bl (ol + i * 2) 1) = some [.int .u64 (L.getD i p20).a] := (rl H Fr.refl i 0 1 p20 hi (by omega)).trans rfl
  have hb := beqI (hd k hin)
  simp (disch := omega) only [J104, hB, hR, hI, kp.l, kp.t0, kp.t1, kp.t2, kp.t8, kp.t9, hin', k0, i0, hi, hkl, r1, r2, hb, all1, ress, res1, retV, Value.cells, newsV_s, seval, eV]
  refine ok_some (.inl ⟨rfl, i - (k + 1), by omega, _, k + 1, rfl, ⟨?_, ?_, ?_, ?_, ?_, ?_⟩, by omega, rfl⟩)
  all_goals simp (disch := omega) only [kp.l, kp.t0, kp.t1, kp.t2, kp.t8, kp.t9, hc1, Int.cast_ofNat_Int, decide_true, ev2, seval, ev5]
theorem J105 : Said (an @TrB7.eq_1 <| an @LrB7.eq_1 <| an @GrB7_rLd <| an @lbBu.eq_1 <| trivial) := said_ok _
set_option maxHeartbeats 4000000 in
theorem loopBu {B : OH} {H : HL} {N : St} {vl : Value} {L : List U2} {n w : Nat} (hw : w = 1 ∨ w = 2) (hl : SlR p2 2 B H vl L) (hL : L.length ≤ 4000) (hd : ∀ i, i < L.length → (L.getD i p20).a ≠ 0 ∧ (w = 1 → (L.getD i p20).b = 0) ∧ ∀ k, k < i → (L.getD k p20).a ≠ (L.getD i p20).a) (hN : good B H N) {ts : List Value} (kp : KBu n w vl 0 ts) {F : Nat} (hF : 20000 ≤ F) :
    Ok (exec B { f := GrB7 B } F (LC.loop lbBu) ⟨ts, H, N⟩) (fun x st => x = .exit 0 ∧ st.H = H ∧ st.N = N ∧ ∃ i, KBu n w vl i st.t) := by
  obtain ⟨hB, hR, hI⟩ := gX hN
  have hG : ∃ H N, good B H N := ⟨H, N, hN⟩
  have hll := hl.len
  refine loop_rule (n0 := 10000) (fun q st => ∃ ts, ∃ i : Nat, st = ⟨ts, H, N⟩ ∧ KBu n w vl i ts ∧ i ≤ L.length ∧ q = L.length - i) _ ?_ L.length _ ⟨ts, 0, rfl, kp, by omega, rfl⟩ _ (by omega)
  clear kp hF F ts
  rintro z q st ⟨ts, i, rfl, kp, hi, rfl⟩
  have hc1 : ((i + 1 : Nat) : Int) = (i : Int) + 1 := by omega
  by_cases hin : i < L.length
  case neg =>
    obtain rfl : i = L.length := by omega
    simp (disch := omega) only [J105, hB, hR, hI, kp.l, kp.t0, kp.t1, kp.t2, kp.t8, hll, Int.lt_irrefl, all1, ress, res1, retV, Value.cells, newsV_s, seval, eV]
    refine ok_some (.inr ⟨by simp, rfl, rfl, rfl, L.length, ⟨?_, ?_, ?_, ?_, ?_⟩⟩)
    all_goals simp (disch := omega) only [kp.l, kp.t0, kp.t1, kp.t2, kp.t8, Int.cast_ofNat_Int, decide_true, ev2, seval, ev5]
  have hin' : (i : Int) < (L.length : Int) := by omega
  have i0 : (0 : Int) ≤ (i : Int) := by omega
  obtain ⟨d1, d2, d3⟩ := hd i hin
  have d1 := beqI d1
  have hl' := hl
  obtain ⟨bl, ol, cl, rfl, _, rl⟩ := hl.at (by omega)
  have r1 : rdO H B bl (ol + i * 2) 1 (rdB B bl (ol + i * 2) 1) = some [.int .u64 (L.getD i p20).a] := (rl H Fr.refl i 0 1 p20 hin (by omega)).trans rfl
  have r2 : rdO H B bl (ol + i * 2 + 1) 1 (rdB B bl (ol + i * 2 + 1) 1) = some [.int .u64 (L.getD i p20).b] := (rl H Fr.refl i 1 1 p20 hin (by omega)).trans rfl
  have main : ∀ ts', KBv n w (.slice (some ⟨bl, ol, none⟩) L.length cl) i 0 ts' → ∀ F, 5000 ≤ F → Ok (exec B { f := GrB7 B } F (LC.loop lbBv) ⟨ts', H, N⟩) (fun x st => x = .exit 2 ∧ st.H = H ∧ st.N = N ∧ ∃ k, KBv n w (.slice (some ⟨bl, ol, none⟩) L.length cl) i k st.t) := fun ts' kp' F hF => loopBv hl' hin hL d3 hN kp' hF
  rcases hw with hw | hw
  · have w1b : ((w : Int) == 1) = true := by subst hw; rfl
    rw [d2 hw] at r2
    simp (disch := omega) only [J105, hB, hR, hI, kp.l, kp.t0, kp.t1, kp.t2, kp.t8, hll, hin', hin, i0, r1, r2, d1, w1b, bne_self_eq_false, all1, ress, res1, retV, Value.cells, newsV_s, seval, eV]
    generalize hX : exec B _ _ (LC.loop _) _ = o
    obtain ⟨x, ⟨ts2, H2, N2⟩, rfl, rfl, hHH, hNN, k, kp2⟩ := (show Ok o _ by rw [← hX]; exact main _ (by constructor <;> simp (disch := omega) only [kp.l, kp.t0, kp.t1, kp.t2, kp.t8, Int.cast_ofNat_Int, decide_true, ev2, seval, ev5]) _ (by omega))
    simp only at kp2 hHH hNN
    rw [hHH, hNN]
    clear kp
    have kp := kp2
    simp (disch := omega) only [J105, hB, hR, hI, kp.l, kp.t0, kp.t1, kp.t2, kp.t8, kp.t9, all1, ress, res1, retV, Value.cells, newsV_s, seval, eV]
    refine ok_some (.inl ⟨rfl, L.length - (i + 1), by omega, _, i + 1, rfl, ⟨?_, ?_, ?_, ?_, ?_⟩, by omega, rfl⟩)
    all_goals simp (disch := omega) only [kp.l, kp.t0, kp.t1, kp.t2, kp.t8, kp.t9, hc1, Int.cast_ofNat_Int, decide_true, ev2, seval, ev5]
  · have w1b : ((w : Int) == 1) = false := by subst hw; rfl
    simp (disch := omega) only [J105, hB, hR, hI, kp.l, kp.t0, kp.t1, kp.t2, kp.t8, hll, hin', hin, i0, r1, r2, d1, w1b, all1, ress, res1, retV, Value.cells, newsV_s, seval, eV]
    generalize hX : exec B _ _ (LC.loop _) _ = o
    obtain ⟨x, ⟨ts2, H2, N2⟩, rfl, rfl, hHH, hNN, k, kp2⟩ := (show Ok o _ by rw [← hX]; exact main _ (by constructor <;> simp (disch := omega) only [kp.l, kp.t0, kp.t1, kp.t2, kp.t8, Int.cast_ofNat_Int, decide_true, ev2, seval, ev5]) _ (by omega))
    simp only at kp2 hHH hNN
    rw [hHH, hNN]
    clear kp
    have kp := kp2
    simp (disch := omega) only [J105, hB, hR, hI, kp.l, kp.t0, kp.t1, kp.t2, kp.t8, kp.t9, all1, ress, res1, retV, Value.cells, newsV_s, seval, eV]
    refine ok_some (.inl ⟨rfl, L.length - (i + 1), by omega, _, i + 1, rfl, ⟨?_, ?_, ?_, ?_, ?_⟩, by omega, rfl⟩)
    all_goals simp (disch := omega) only [kp.l, kp.t0, kp.t1, kp.t2, kp.t8, kp.t9, hc1, Int.cast_ofNat_Int, decide_true, ev2, seval, ev5]
theorem J106 : Said (an @TrB7.eq_1 <| an @LrB7.eq_1 <| an @GrB7_rLd <| trivial) := said_ok _
set_option maxHeartbeats 4000000 in
theorem xBuild7 {B : OH} {H : HL} {N : St} {vl : Value} {L : List U2} {n w : Nat} (hn : 1 ≤ n ∧ n ≤ 1024) (hw : w = 1 ∨ w = 2) (hl : SlR p2 2 B H vl L) (hL : L.length ≤ n) (hu : ∀ x ∈ L, u64R x.a ∧ u64R x.b) (hd : ∀ i, i < L.length → (L.getD i p20).a ≠ 0 ∧ (w = 1 → (L.getD i p20).b = 0) ∧ ∀ k, k < i → (L.getD k p20).a ≠ (L.getD i p20).a) (hN : good B H N) : ∃ v' M H' N', VrB7 B [.int .i64 (n : Int), .int .i64 (w : Int), vl] H N = some (.ret (.tuple #[v', .int .i64 0]), H', N') ∧ good B H' N' ∧ Fr H H' ∧ SlM w1 1 B H H' v' M ∧ M.length = n * w ∧ U64s M := by
  obtain ⟨hB, hR, hI⟩ := gX hN
  have hG : ∃ H N, good B H N := ⟨H, N, hN⟩
  have hll := hl.len
  have c1 : ¬ (n : Int) < 1 := by omega
  have c2 : ¬ (n : Int) > 1024 := by omega
  have c3 : ¬ (w : Int) < 1 := by omega
  have c4 : ¬ (w : Int) > 2 := by omega
  have c5 : ¬ (L.length : Int) > (n : Int) := by omega
  obtain ⟨v2, M, H2, N2, e2, g2, f2, s2, hM, hMu⟩ := xlaid hn hw hl hL hu hN
  unfold VrB7
  simp (disch := omega) only [J106, hB, hR, hI, c1, c2, c3, c4, all1, ress, res1, retV, Value.cells, newsV_s, seval, eV]
  generalize hX : exec B _ _ (LC.loop _) _ = o
  obtain ⟨x, ⟨ts2, H1, N1⟩, rfl, rfl, hHH, hNN, k, kp⟩ := (show Ok o _ by rw [← hX]; exact loopBu (n := n) (w := w) hw hl (by omega) hd hN ⟨rfl, rfl, rfl, rfl, rfl⟩ (by omega))
  simp only at kp hHH hNN
  rw [hHH, hNN]
  simp (disch := omega) only [J106, hB, hR, hI, kp.l, kp.t0, kp.t1, kp.t2, kp.t8, hll, c5, e2, all1, ress, res1, retV, Value.cells, newsV_s, seval, eV]
  exact ⟨_, M, _, _, rfl, g2, f2, s2, hM, hMu⟩
/-! ### Tables -/
theorem getD_push (L : List U2) (x : U2) (j : Nat) : (L ++ [x]).getD j p20 = if j < L.length then L.getD j p20 else if j = L.length then x else p20 := by
  simp only [List.getD_eq_getElem?_getD]
  by_cases h : j < L.length
  · rw [if_pos h, List.getElem?_append_left h]
  · rw [if_neg h, List.getElem?_append_right (by omega)]
    by_cases h2 : j = L.length
    · rw [if_pos h2, h2, Nat.sub_self]; rfl
    · rw [if_neg h2]
      have : ¬ j - L.length = 0 := by omega
      obtain ⟨k, hk⟩ : ∃ k, j - L.length = k + 1 := ⟨j - L.length - 1, by omega⟩
      rw [hk]; rfl
def lbTa : LC := (.seq (.seq (.ops [om 10 6,og 11 1 3,ol 12 11,oa 13 (.len false (ot 12)),oa 14 (.bin .lss (ot 10) (ot 13))])
 (.cond (ot 14) .skip
 (.exit 0)))
 (.seq (.block 1 (.seq (.ops [og 17 1 3,ol 18 17,om 19 6,oa 20 (.iaddrS 1 (ot 18) (ot 19)),ol 21 20,oa 22 (.bin .add (ot 21) (ou 1)),oa 23 (.build [(.int .u64 0), (.int .u64 0)] [(0, 1, (ot 22)), (1, 1, (ou 0))]),oa 7 (.alloc [(.int .u64 0), (.int .u64 0)]), oc (.store 2 (ot 7) (ot 23))])
 (.seq (.seq (.ops [og 24 0 2,ol 25 24,oa 26 (.bin .eql (ot 25) (oi 3))])
 (.cond (ot 26) (.ops [og 27 2 3,ol 28 27,om 29 6,oa 30 (.iaddrS 1 (ot 28) (ot 29)),ol 31 30,oa 32 (.iaddrA 1 2 (ot 7) (oi 1)), oc (.store 1 (ot 32) (ot 31))])
 .skip))
 (.ops [om 33 5,oa 34 (.load true 2 (ot 7)),oa 35 (.buildS [(.int .u64 0), (.int .u64 0)] 1 [(0, 2, (ot 34))]),oa 36 (.app [(.int .u64 0), (.int .u64 0)] 16 (ot 33) (ot 35)),om 5 36]))))
 (.ops [om 15 6,oa 16 (.bin .add (ot 15) (oi 1)),om 6 16])))
def LrTb : FnL := ⟨(.seq (.ops [oa 2 (.box (ot 0)),oa 3 (.box (ot 1)),oa 4 (.mv (.const (.slice none 0 0)))])
 (.seq (.ops [oa 5 (.mv (.const (.slice none 0 0)))])
 (.seq (.seq (.ops [oa 6 (.mv (oi 0))])
 (.block 0 (.loop lbTa)))
 (.seq (.draw [pg 38 2 2,pl 39 38,oe 40 (.bin .mul (oi 2) (ot 39)),oe 41 (.load true 3 (ot 2)),pm 43 5, ⟨oa 42 (.call (.func 83) [(ot 41)]), [ol 39 38]⟩,oe 44 (.call (.func 82) [(ot 40), (ot 42), (ot 43)]),pm 37 44,oe 45 (.ext (ot 37) 0),oe 46 (.ext (ot 37) 1),pm 8 45,pm 9 46])
 (.seq (.ops [om 47 8,om 4 47])
 .ret))))),
 48, [.tmp 4]⟩
theorem lowrTb : lowerFn Tryd.prog Tryd.f70 = some LrTb := by kernel_rfl
noncomputable def GrTb (B : OH) : Nat → Cs
  | 82 => VrB7 B
  | 83 => Vref10width B
  | _ => fun _ _ _ => none
theorem GrTb_rB7 {B : OH} : GrTb B 82 = VrB7 B := rfl
theorem GrTb_ref10width {B : OH} : GrTb B 83 = Vref10width B := rfl
theorem sGrTb {w0 : World} {B : OH} : SoundG Tryd.prog w0 B { f := GrTb B } := .of fun k => by
  unfold GrTb
  split
  · exact .inr ⟨enrB7, sVrB7⟩
  · exact .inr ⟨enref10width, sVref10width⟩
  · exact .inl fun _ _ _ => rfl
theorem enrTb : Enter Tryd.prog 70 := .of Tryd.func70 (by kernel_rfl) (by kernel_rfl)
noncomputable def TrTb (B : OH) : Cs := callF B { f := GrTb B } 1000000 LrTb
theorem sTrTb {w0 : World} {B : OH} : SoundC Tryd.prog w0 B 70 (TrTb B) := callF_sound mixedOrders sGrTb 1000000 Tryd.func70 lowrTb
noncomputable def VrTb (B : OH) : Cs := TrTb B
theorem sVrTb {w0 : World} {B : OH} : SoundC Tryd.prog w0 B 70 (VrTb B) := sTrTb
structure KTa7 (cb sb : Nat) (vo : Value) (i : Nat) (ts : List Value) : Prop where
  l : ts.length = 48
  t2 : gt ts 2 = .pointer (some ⟨cb, 0, none⟩)
  t3 : gt ts 3 = .pointer (some ⟨sb, 0, none⟩)
  t5 : gt ts 5 = vo
  t6 : gt ts 6 = .int .i64 (i : Int)
def rec7 (kk : Nat) (s : S9) (j : Nat) : U2 := ⟨s.ks.getD j 0 + 1, if kk = 3 then s.vs.getD j 0 else 0⟩
theorem J107 : Said (an @TrTb.eq_1 <| an @LrTb.eq_1 <| an @GrTb_rB7 <| an @GrTb_ref10width <| an @Vref10width_eq <| an @lbTa.eq_1 <| trivial) := said_ok _
set_option maxHeartbeats 8000000 in
theorem loopTa {B : OH} {H0 H : HL} {N : St} {vk vv vt vo : Value} {s : S9} {kk p cc h cb sb : Nat} (C : Cf kk p cc h) (h23 : kk = 2 ∨ kk = 3) (R : Rt kk cc s) (hsk : SlW w1 1 B H0 vk s.ks) (hsv : SlW w1 1 B H0 vv s.vs) (hN : good B H N) (hF0 : Fr H0 H) (bc : B cb = none) (bs_ : B sb = none) (lc : lk H0 cb = some (.cells [.int .i64 (kk : Int), .int .i64 (p : Int), .int .i64 (cc : Int)] 3)) (ls : lk H0 sb = some (.cells [.int .u64 s.r, vk, vv, vt, .bool s.cl] 5)) (so : SlM p2 2 B H0 H vo []) {ts : List Value} (kp : KTa7 cb sb vo 0 ts) {F : Nat} (hF : 1000 ≤ F) :
    Ok (exec B { f := GrTb B } F (LC.loop lbTa) ⟨ts, H, N⟩) (fun x st => x = .exit 0 ∧ good B st.H st.N ∧ Fr H0 st.H ∧ ∃ vo, ∃ L : List U2, SlM p2 2 B H0 st.H vo L ∧ L.length = s.ks.length ∧ (∀ j, j < L.length → L.getD j p20 = rec7 kk s j) ∧ KTa7 cb sb vo s.ks.length st.t) := by
  have rc := rN bc
  have rs := rN bs_
  have hc := C.c
  have hkl := R.kl
  have hll := hsk.len
  refine loop_rule (n0 := 100) (fun q st => ∃ ts H' N', ∃ vo, ∃ L : List U2, ∃ i : Nat, st = ⟨ts, H', N'⟩ ∧ KTa7 cb sb vo i ts ∧ good B H' N' ∧ Fr H0 H' ∧ SlM p2 2 B H0 H' vo L ∧ L.length = i ∧ (∀ j, j < L.length → L.getD j p20 = rec7 kk s j) ∧ i ≤ s.ks.length ∧ q = s.ks.length - i) _ ?_ s.ks.length _ ⟨ts, H, N, vo, [], 0, rfl, kp, hN, hF0, so, rfl, fun j hj => by simp at hj, by omega, rfl⟩ _ (by omega)
  clear kp hF F ts so hN hF0 N vo
  rintro z q st ⟨ts, H1, N1, vo, L, i, rfl, kp, g, fr, so, hLi, hLr, hi, rfl⟩
  obtain ⟨hB, hR, hI⟩ := gX g
  have lc1 := fr _ _ lc
  have ls1 := fr _ _ ls
  have nc := ne_N g lc1
  have ns := ne_N g ls1
  have hc1 : ((i + 1 : Nat) : Int) = (i : Int) + 1 := by omega
  by_cases hin : i < s.ks.length
  case neg =>
    obtain rfl : i = s.ks.length := by omega
    simp (disch := omega) only [J107, hB, hR, hI, kp.l, kp.t2, kp.t3, kp.t5, kp.t6, ls1, bs_, rs, hll, Int.lt_irrefl, all1, ress, res1, retV, Value.cells, newsV_s, seval, eV]
    refine ok_some (.inr ⟨by simp, rfl, g, fr, vo, L, so, hLi, hLr, ⟨?_, ?_, ?_, ?_, ?_⟩⟩)
    all_goals simp (disch := omega) only [kp.l, kp.t2, kp.t3, kp.t5, kp.t6, Int.cast_ofNat_Int, decide_true, ev2, seval, ev5]
  have hin' : (i : Int) < (s.ks.length : Int) := by omega
  have i0 : (0 : Int) ≤ (i : Int) := by omega
  obtain ⟨bv, ov, cv, rfl, rr⟩ := rd_w w1_len hsk (by omega)
  have r1 := rr H1 fr i hin
  simp only [w1] at r1
  have hok := (R.ok i hin).1
  have huk := R.ku.at i
  unfold okK at hok
  unfold u64R at huk
  have wk : IntKind.u64.wrap (s.ks.getD i 0 + 1) = s.ks.getD i 0 + 1 := IntWalk.u64_in _ (by omega)
  have fin : ∀ b, b = (if kk = 3 then s.vs.getD i 0 else 0) → ∀ j, j < (L ++ [(⟨s.ks.getD i 0 + 1, b⟩ : U2)]).length → (L ++ [(⟨s.ks.getD i 0 + 1, b⟩ : U2)]).getD j p20 = rec7 kk s j := fun b hb j hj => by
    rw [getD_push]
    by_cases h : j < L.length
    · rw [if_pos h]; exact hLr j h
    · have : j = i := by simp at hj; omega
      rw [if_neg h, if_pos (by omega), this, hb]; rfl
  rcases h23 with h2 | h3
  · have k3 : ((kk : Int) == 3) = false := by subst h2; rfl
    have fin := fin 0 (by rw [if_neg (by omega)])
    have ga : good B ((N1.n 0, .cells [.int .u64 (s.ks.getD i 0 + 1), .int .u64 0] 2) :: H1) (sh N1) := good_new g
    have fa : Fr H1 ((N1.n 0, .cells [.int .u64 (s.ks.getD i 0 + 1), .int .u64 0] 2) :: H1) := fr_set Fr.refl (lk_N g _)
    obtain ⟨v4, H4, N4, e4, g4, r4, _, s4, _⟩ := push_specM p2_len (bytes := 16) ga (fr.trans fa) (so.mono fun y c _ e => fa y c e) ⟨(s.ks.getD i 0 + 1), 0⟩ rfl (by omega) (by omega)
    simp only [p2] at e4
    have e4 : appV 2 16 B ((N1.n 1, .cells [.int .u64 (s.ks.getD i 0 + 1), .int .u64 0] 2) :: (N1.n 0, .cells [.int .u64 (s.ks.getD i 0 + 1), .int .u64 0] 2) :: H1) (sh (sh N1)) vo 1 [.int .u64 (s.ks.getD i 0 + 1), .int .u64 0] = _ := e4
    simp (disch := omega) only [J107, hB, hR, hI, kp.l, kp.t2, kp.t3, kp.t5, kp.t6, lc1, ls1, bc, bs_, rc, rs, nc, ns, hin, hin', i0, r1, wk, k3, e4, Nat.mul_one, all1, ress, res1, retV, Value.cells, newsV_s, seval, eV]
    refine ok_some (.inl ⟨rfl, s.ks.length - (i + 1), by omega, _, H4, N4, v4, _, i + 1, rfl, ⟨?_, ?_, ?_, ?_, ?_⟩, g4, r4, s4.toM, by simp; omega, fin, by omega, rfl⟩)
    all_goals simp (disch := omega) only [kp.l, kp.t2, kp.t3, kp.t5, kp.t6, hc1, Int.cast_ofNat_Int, decide_true, ev2, seval, ev5]
  · have k3 : ((kk : Int) == 3) = true := by subst h3; rfl
    have hvl := R.vl (.inl h3)
    obtain ⟨bw, ow, cw, rfl, rw_⟩ := rd_w w1_len hsv (by omega)
    have fin := fin (s.vs.getD i 0) (by rw [if_pos h3])
    have hiv : i < s.vs.length := by omega
    have r2 := rw_ ((N1.n 0, .cells [.int .u64 (s.ks.getD i 0 + 1), .int .u64 0] 2) :: H1) (fr.trans (fr_set Fr.refl (lk_N g _))) i hiv
    simp only [w1] at r2
    generalize s.vs.getD i 0 = va at *
    have ga : good B ((N1.n 0, .cells [.int .u64 (s.ks.getD i 0 + 1), .int .u64 va] 2) :: H1) (sh N1) := good_new g
    have fa : Fr H1 ((N1.n 0, .cells [.int .u64 (s.ks.getD i 0 + 1), .int .u64 va] 2) :: H1) := fr_set Fr.refl (lk_N g _)
    obtain ⟨v4, H4, N4, e4, g4, r4, _, s4, _⟩ := push_specM p2_len (bytes := 16) ga (fr.trans fa) (so.mono fun y c _ e => fa y c e) ⟨(s.ks.getD i 0 + 1), va⟩ rfl (by omega) (by omega)
    simp only [p2] at e4
    have e4 : appV 2 16 B ((N1.n 1, .cells [.int .u64 (s.ks.getD i 0 + 1), .int .u64 va] 2) :: (N1.n 0, .cells [.int .u64 (s.ks.getD i 0 + 1), .int .u64 va] 2) :: H1) (sh (sh N1)) vo 1 [.int .u64 (s.ks.getD i 0 + 1), .int .u64 va] = _ := e4
    simp (disch := omega) only [J107, hB, hR, hI, kp.l, kp.t2, kp.t3, kp.t5, kp.t6, lc1, ls1, bc, bs_, rc, rs, nc, ns, hin, hin', hiv, i0, r1, r2, wk, k3, e4, Nat.mul_one, all1, ress, res1, retV, Value.cells, newsV_s, seval, eV]
    refine ok_some (.inl ⟨rfl, s.ks.length - (i + 1), by omega, _, H4, N4, v4, _, i + 1, rfl, ⟨?_, ?_, ?_, ?_, ?_⟩, g4, r4, s4.toM, by simp; omega, fin, by omega, rfl⟩)
    all_goals simp (disch := omega) only [kp.l, kp.t2, kp.t3, kp.t5, kp.t6, hc1, Int.cast_ofNat_Int, decide_true, ev2, seval, ev5]
theorem J108 : Said (an @TrTb.eq_1 <| an @LrTb.eq_1 <| an @GrTb_rB7 <| an @GrTb_ref10width <| an @Vref10width_eq <| trivial) := said_ok _
set_option maxHeartbeats 8000000 in
theorem xtable10 {B : OH} {H : HL} {N : St} {vk vv vt : Value} {s : S9} {kk p cc h : Nat} (C : Cf kk p cc h) (h23 : kk = 2 ∨ kk = 3) (R : Rt kk cc s) (hs : StW B H vk vv vt s) (hN : good B H N) : ∃ v' M H' N', VrTb B [.agg #[.int .i64 (kk : Int), .int .i64 (p : Int), .int .i64 (cc : Int)], .agg #[.int .u64 s.r, vk, vv, vt, .bool s.cl]] H N = some (.ret v', H', N') ∧ good B H' N' ∧ Fr H H' ∧ SlM w1 1 B H H' v' M ∧ M.length = 2 * cc * (if kk = 3 then 2 else 1) ∧ U64s M := by
  obtain ⟨hB, hR, hI⟩ := gX hN
  have hG : ∃ H N, good B H N := ⟨H, N, hN⟩
  have hc := C.c
  have hkl := R.kl
  have b0 := hB 0
  have rb0 := rN b0
  obtain ⟨H2, hH2⟩ : ∃ H2, H2 = (N.n 1, (.cells [.int .u64 s.r, vk, vv, vt, .bool s.cl] 5 : KB)) :: (N.n 0, (.cells [.int .i64 (kk : Int), .int .i64 (p : Int), .int .i64 (cc : Int)] 3 : KB)) :: H := ⟨_, rfl⟩
  have g2 : good B H2 (sh (sh N)) := by rw [hH2]; exact good_new (good_new hN)
  have f2 : Fr H H2 := by rw [hH2]; exact fr_set (fr_set Fr.refl (lk_N hN _)) (lk_N hN _)
  have q0 : lk H2 (N.n 0) = some (.cells [.int .i64 (kk : Int), .int .i64 (p : Int), .int .i64 (cc : Int)] 3) := by rw [hH2]; simp only [lk_cons, hI]; rfl
  have q1 : lk H2 (N.n 1) = some (.cells [.int .u64 s.r, vk, vv, vt, .bool s.cl] 5) := by rw [hH2]; simp only [lk_cons, hI]; rfl
  unfold VrTb
  simp (disch := omega) only [J108, hB, hR, hI, all1, ress, res1, retV, Value.cells, newsV_s, seval, eV]
  rw [← hH2]
  generalize hX : exec B _ _ (LC.loop _) _ = o
  obtain ⟨x, ⟨ts3, H3, N3⟩, rfl, rfl, g3, fr3, vo, L, so, hL, hrec, kp⟩ := (show Ok o _ by rw [← hX]; exact loopTa (cb := N.n 0) (sb := N.n 1) (s := s) C h23 R (hs.k.mono f2) (hs.v.mono f2) g2 Fr.refl b0 (hB 1) q0 q1 (.inl ⟨rfl, rfl⟩) ⟨rfl, rfl, rfl, rfl, rfl⟩ (by omega))
  simp only at kp g3 fr3 so
  have p0 := fr3 _ _ q0
  have ew := xwidth hG (kk : Int) (p : Int) (cc : Int)
  have hw : (if (kk : Int) = 3 then (2 : Int) else 1) = (((if kk = 3 then 2 else 1 : Nat) : Nat) : Int) := by
    rcases h23 with h | h <;> subst h <;> rfl
  rw [hw] at ew
  have hu : ∀ x ∈ L, u64R x.a ∧ u64R x.b := fun x hx => by
    obtain ⟨j, hj, hjx⟩ := List.getElem_of_mem hx
    have := hrec j hj
    rw [List.getD_eq_getElem?_getD, List.getElem?_eq_getElem hj, Option.getD_some, hjx] at this
    rw [this]
    have hok := (R.ok j (by omega)).1
    have huk := R.ku.at j
    unfold okK at hok
    refine ⟨?_, ?_⟩
    · show u64R (s.ks.getD j 0 + 1)
      unfold u64R at *; omega
    · show u64R (if kk = 3 then s.vs.getD j 0 else 0)
      split
      · exact R.vu.at j
      · unfold u64R; omega
  have hd : ∀ i, i < L.length → (L.getD i p20).a ≠ 0 ∧ ((if kk = 3 then 2 else 1) = 1 → (L.getD i p20).b = 0) ∧ ∀ k, k < i → (L.getD k p20).a ≠ (L.getD i p20).a := fun i hi => by
    have mono : ∀ b a, a < b → b < s.ks.length → s.ks.getD a 0 < s.ks.getD b 0 := by
      intro b
      induction b with
      | zero => intro a h; omega
      | succ b ih =>
        intro a h1 h2
        have := R.so b h2
        unfold kyI at this
        rw [if_neg (by omega), if_neg (by omega)] at this
        by_cases e : a = b
        · rw [e]; exact this
        · have := ih a (by omega) (by omega); omega
    rw [hrec i hi]
    have huk := R.ku.at i
    refine ⟨?_, fun h1 => ?_, fun k hk => ?_⟩
    · show s.ks.getD i 0 + 1 ≠ 0
      unfold u64R at huk; omega
    · show (if kk = 3 then s.vs.getD i 0 else 0) = 0
      rw [if_neg (fun e => by rw [if_pos e] at h1; cases h1)]
    · rw [hrec k (by omega)]
      show s.ks.getD k 0 + 1 ≠ s.ks.getD i 0 + 1
      have := mono i k hk (by omega)
      omega
  obtain ⟨v4, M, H4, N4, e4, g4, f4, s4, hM, hMu⟩ := xBuild7 (n := 2 * cc) (w := if kk = 3 then 2 else 1) (L := L) ⟨by omega, by omega⟩ (by split <;> simp) (so.rd p2_len) (by omega) hu hd g3
  have c1 : (2 : Int) * (cc : Int) = ((2 * cc : Nat) : Int) := by omega
  have c2 : IntKind.i64.wrap ((2 * cc : Nat) : Int) = ((2 * cc : Nat) : Int) := IntWalk.i64_in _ (by omega)
  simp (disch := omega) only [J108, hB, hR, hI, kp.l, kp.t2, kp.t3, kp.t5, kp.t6, p0, b0, rb0, c1, c2, ew, e4, all1, ress, res1, retV, Value.cells, newsV_s, seval, eV]
  exact ⟨_, M, _, _, rfl, g4, f2.trans (fr3.trans f4), s4.low (f2.trans fr3).dm, hM, hMu⟩
end Go.Proofs.YtfhiplfagejfoaaDoor
namespace Go.Proofs.YtfhiplfagejfoaaDoor
open Go.Proofs.YtfhiplfagejfoaaDoor.K Go.ChangeShapes Go.WideShapes Go.ChangeAt Go.RowKit 
set_option maxRecDepth 100000
set_option linter.unusedSimpArgs false
set_option linter.unusedVariables false

theorem home_k {kk p cc h : Nat} (C : Cf kk p cc h) : (kk = 1 → h = 1) ∧ (kk = 2 → h = 1 + 2 * cc) ∧ (kk = 3 → h = 1 + 4 * cc) ∧ (kk = 4 → h = 2 + 4 * cc) ∧ (kk = 5 → h = 9 + cc) := by
  have hm' := C.m
  unfold hm at hm'
  refine ⟨fun e => ?_, fun e => ?_, fun e => ?_, fun e => ?_, fun e => ?_⟩ <;> (subst e; simp at hm'; omega)
def Lref10Enc : FnL := ⟨(.seq (.ops [oa 2 (.box (ot 0)),oa 3 (.box (ot 1)),oa 4 (.mv (.const (.slice none 0 0))),oa 5 (.mv (oi 0))])
 (.seq (.seq (.ops [oa 8 (.load true 3 (ot 2)),oa 9 (.call (.func 39) [(ot 8)]),oa 10 (.un .not (ot 9))])
 (.cond (ot 10) (.seq (.ops [oa 4 (.mv (.const (.slice none 0 0))),oa 5 (.mv (oi 5))])
 .ret)
 .skip))
 (.seq (.seq (.ops [oa 11 (.load true 3 (ot 2)),oa 12 (.load true 5 (ot 3)),oa 13 (.call (.func 69) [(ot 11), (ot 12)]),oa 14 (.un .not (ot 13))])
 (.cond (ot 14) (.seq (.ops [oa 4 (.mv (.const (.slice none 0 0))),oa 5 (.mv (oi 1))])
 .ret)
 .skip))
 (.seq (.ops [og 15 1 3,ol 16 15,oa 17 (.len false (ot 16)),oa 18 (.conv .u64 (ot 17)),oa 19 (.buildS [(.int .u64 0)] 1 [(0, 1, (ot 18))]),om 6 19])
 (.seq (.seq (.ops [og 20 0 2,ol 21 20])
 (.block 0 (.seq (.ops [oa 23 (.bin .eql (ot 21) (oi 1)),om 22 23])
 (.cond (ot 22) (.seq (.ops [og 24 0 3,ol 25 24,oa 26 (.buildS [(.int .u64 0)] 1 [(0, 1, (ot 25))]),om 4 26,oa 5 (.mv (oi 0))])
 .ret)
 (.seq (.seq (.ops [oa 28 (.bin .eql (ot 21) (oi 2)),om 27 28])
 (.cond (ot 27) .skip
 (.ops [oa 29 (.bin .eql (ot 21) (oi 3)),om 27 29])))
 (.cond (ot 27) (.seq (.ops [om 30 6,oa 31 (.load true 3 (ot 2)),oa 32 (.load true 5 (ot 3)),oa 33 (.call (.func 70) [(ot 31), (ot 32)]),oa 34 (.app [(.int .u64 0)] 8 (ot 30) (ot 33)),om 4 34,oa 5 (.mv (oi 0))])
 .ret)
 (.seq (.ops [oa 36 (.bin .eql (ot 21) (oi 4)),om 35 36])
 (.cond (ot 35) (.seq (.ops [om 37 6,oa 38 (.load true 3 (ot 2)),oa 39 (.load true 5 (ot 3)),oa 40 (.call (.func 71) [(ot 38), (ot 39)]),oa 41 (.app [(.int .u64 0)] 8 (ot 37) (ot 40)),om 4 41,oa 5 (.mv (oi 0))])
 .ret)
 .skip))))))))
 (.seq (.ops [oa 7 (.mv (ou 0))])
 (.seq (.seq (.ops [og 42 4 3,ol 43 42])
 (.cond (ot 43) (.ops [oa 7 (.mv (ou 1))])
 .skip))
 (.seq (.ops [om 44 7,oa 45 (.buildS [(.int .u64 0)] 1 [(0, 1, (ot 44))]),oa 46 (.load true 5 (ot 3)),oa 47 (.call (.func 72) [(ot 46)]),oa 48 (.app [(.int .u64 0)] 8 (ot 45) (ot 47)),om 4 48,oa 5 (.mv (oi 0))])
 .ret)))))))),
 49, [.tmp 4, .tmp 5]⟩
theorem lowref10Enc : lowerFn Tryd.prog Tryd.f57 = some Lref10Enc := by kernel_rfl
noncomputable def Gref10Enc (B : OH) : Nat → Cs
  | 39 => Vref04Fits B
  | 69 => VrRi B
  | 70 => VrTb B
  | 71 => VrTr B
  | 72 => VrVt B
  | _ => fun _ _ _ => none
theorem Gref10Enc_ref04Fits {B : OH} : Gref10Enc B 39 = Vref04Fits B := rfl
theorem Gref10Enc_rRi {B : OH} : Gref10Enc B 69 = VrRi B := rfl
theorem Gref10Enc_rTb {B : OH} : Gref10Enc B 70 = VrTb B := rfl
theorem Gref10Enc_rTr {B : OH} : Gref10Enc B 71 = VrTr B := rfl
theorem Gref10Enc_rVt {B : OH} : Gref10Enc B 72 = VrVt B := rfl
theorem sGref10Enc {w0 : World} {B : OH} : SoundG Tryd.prog w0 B { f := Gref10Enc B } := .of fun k => by
  unfold Gref10Enc
  split
  · exact .inr ⟨enref04Fits, sVref04Fits⟩
  · exact .inr ⟨enrRi, sVrRi⟩
  · exact .inr ⟨enrTb, sVrTb⟩
  · exact .inr ⟨enrTr, sVrTr⟩
  · exact .inr ⟨enrVt, sVrVt⟩
  · exact .inl fun _ _ _ => rfl
theorem enref10Enc : Enter Tryd.prog 57 := .of Tryd.func57 (by kernel_rfl) (by kernel_rfl)
noncomputable def Tref10Enc (B : OH) : Cs := callF B { f := Gref10Enc B } 1000000 Lref10Enc
theorem sTref10Enc {w0 : World} {B : OH} : SoundC Tryd.prog w0 B 57 (Tref10Enc B) := callF_sound mixedOrders sGref10Enc 1000000 Tryd.func57 lowref10Enc
noncomputable def Vref10Enc (B : OH) : Cs := Tref10Enc B
theorem sVref10Enc {w0 : World} {B : OH} : SoundC Tryd.prog w0 B 57 (Vref10Enc B) := sTref10Enc
theorem J109 : Said (an @Tref10Enc.eq_1 <| an @Lref10Enc.eq_1 <| an @Gref10Enc_ref04Fits <| an @Vref04Fits_eq <| an @Gref10Enc_rRi <| an @Gref10Enc_rTb <| an @Gref10Enc_rTr <| an @Gref10Enc_rVt <| trivial) := said_ok _
set_option maxHeartbeats 16000000 in
theorem xEnc {B : OH} {H : HL} {N : St} {vk vv vt : Value} {s : S9} {kk p cc h : Nat} (C : Cf kk p cc h) (R : Rt kk cc s) (hs : StW B H vk vv vt s) (hN : good B H N) : ∃ v' M H' N', Vref10Enc B [.agg #[.int .i64 (kk : Int), .int .i64 (p : Int), .int .i64 (cc : Int)], .agg #[.int .u64 s.r, vk, vv, vt, .bool s.cl]] H N = some (.ret (.tuple #[v', .int .i64 0]), H', N') ∧ good B H' N' ∧ Fr H H' ∧ SlM w1 1 B H H' v' M ∧ M.length = h ∧ U64s M := by
  obtain ⟨hB, hR, hI⟩ := gX hN
  have hG : ∃ H N, good B H N := ⟨H, N, hN⟩
  have hc := C.c
  have hk := C.k
  have hkl := R.kl
  obtain ⟨hh1, hh2, hh3, hh4, hh5⟩ := home_k C
  have e0 := rFits1 hG C
  have lk_ := hs.k.len
  have wl : IntKind.u64.wrap (s.ks.length : Int) = (s.ks.length : Int) := IntWalk.u64_in _ (by omega)
  have ul : u64R (s.ks.length : Int) := by unfold u64R; omega
  have b0 := hB 0
  have b1 := hB 1
  have rb0 := rN b0
  have rb1 := rN b1
  obtain ⟨H2, hH2⟩ : ∃ H2, H2 = (N.n 1, (.cells [.int .u64 s.r, vk, vv, vt, .bool s.cl] 5 : KB)) :: (N.n 0, (.cells [.int .i64 (kk : Int), .int .i64 (p : Int), .int .i64 (cc : Int)] 3 : KB)) :: H := ⟨_, rfl⟩
  have g2 : good B H2 (sh (sh N)) := by rw [hH2]; exact good_new (good_new hN)
  have f2 : Fr H H2 := by rw [hH2]; exact fr_set (fr_set Fr.refl (lk_N hN _)) (lk_N hN _)
  have q0 : lk H2 (N.n 0) = some (.cells [.int .i64 (kk : Int), .int .i64 (p : Int), .int .i64 (cc : Int)] 3) := by rw [hH2]; simp only [lk_cons, hI]; rfl
  have q1 : lk H2 (N.n 1) = some (.cells [.int .u64 s.r, vk, vv, vt, .bool s.cl] 5) := by rw [hH2]; simp only [lk_cons, hI]; rfl
  obtain ⟨H3, N3, e3, g3, f3⟩ := xRight C R (hs.mono f2) g2
  rw [hH2] at e3
  have p0 := f3 _ _ q0
  have p1 := f3 _ _ q1
  have n0 := ne_N g3 p0
  have n1 := ne_N g3 p1
  have hB3 := good_B g3
  have hR3 := good_rdB g3
  have hI3 := beqN g3.1.1
  have f23 := f2.trans f3
  obtain ⟨H4, hH4⟩ : ∃ H4, H4 = (N3.n 0, (.cells [.int .u64 (s.ks.length : Int)] 1 : KB)) :: H3 := ⟨_, rfl⟩
  have g4 : good B H4 (sh N3) := by rw [hH4]; exact good_new g3
  have f4 : Fr H3 H4 := by rw [hH4]; exact fr_set Fr.refl (lk_N g3 _)
  have s4 : SlN w1 1 B H3 H4 (.slice (some ⟨N3.n 0, 0, none⟩) 1 1) [(s.ks.length : Int)] := by rw [hH4]; exact slN_new g3 [(s.ks.length : Int)] rfl rfl rfl
  have t0 := f4 _ _ p0
  have t1 := f4 _ _ p1
  have f24 := f23.trans f4
  unfold Vref10Enc
  obtain hkk | hkk | hkk | hkk | hkk : kk = 1 ∨ kk = 2 ∨ kk = 3 ∨ kk = 4 ∨ kk = 5 := by omega
  · 
    have k1 : ((kk : Int) == 1) = true := by subst hkk; rfl
    have k2 : ((kk : Int) == 2) = false := by subst hkk; rfl
    have k3 : ((kk : Int) == 3) = false := by subst hkk; rfl
    have k4 : ((kk : Int) == 4) = false := by subst hkk; rfl
    simp (disch := omega) only [J109, hB, hR, hI, e0, e3, lk_, wl, p0, p1, n0, n1, hB3, hR3, hI3, b0, b1, rb0, rb1, k1, all1, ress, res1, retV, Value.cells, newsV_s, seval, eV]
    refine ⟨_, [s.r], _, _, rfl, good_new (good_new g3), f23.trans (fr_set (fr_set Fr.refl (lk_N g3 _)) (lk_N g3 _)), ?_, by rw [hh1 hkk]; rfl, u_one R.ru⟩
    have : SlN w1 1 B H4 _ _ [s.r] := slN_new g4 [s.r] rfl rfl rfl
    rw [hH4] at this
    exact (this.toM.low (by rw [← hH4]; exact f24.dm))
  · 
    have k1 : ((kk : Int) == 1) = false := by subst hkk; rfl
    have k2 : ((kk : Int) == 2) = true := by subst hkk; rfl
    have k3 : ((kk : Int) == 3) = false := by subst hkk; rfl
    have k4 : ((kk : Int) == 4) = false := by subst hkk; rfl
    obtain ⟨v5, M, H5, N5, e5, g5, f5, s5, hM, hMu⟩ := xtable10 C (.inl hkk) R (hs.mono f24) g4
    rw [if_neg (by omega)] at hM
    obtain ⟨v6, H6, N6, e6, g6, f6, _, s6, _⟩ := app_many (H0 := H3) (bytes := 8) w1_len (by omega) g5 (f4.trans f5) (s4.toM.mono fun y c _ e => f5 y c e) (s5.wh w1_len) (all1_w1 _) (by simp; omega) (by simp; omega)
    have hB5 := good_B g5
    have hR5 := good_rdB g5
    rw [hH4] at e5
    simp (disch := omega) only [J109, hB, hR, hI, e0, e3, lk_, wl, p0, p1, n0, n1, hB3, hR3, hI3, b0, b1, rb0, rb1, k1, k2, e5, e6, hB5, hR5, all1, ress, res1, retV, Value.cells, seval, eV]
    exact ⟨_, _, _, _, rfl, g6, f23.trans f6, s6.low f23.dm, by rw [hh2 hkk]; simp; omega, u_app (u_one ul) hMu⟩
  · 
    have k1 : ((kk : Int) == 1) = false := by subst hkk; rfl
    have k2 : ((kk : Int) == 2) = false := by subst hkk; rfl
    have k3 : ((kk : Int) == 3) = true := by subst hkk; rfl
    have k4 : ((kk : Int) == 4) = false := by subst hkk; rfl
    obtain ⟨v5, M, H5, N5, e5, g5, f5, s5, hM, hMu⟩ := xtable10 C (.inr hkk) R (hs.mono f24) g4
    rw [if_pos hkk] at hM
    obtain ⟨v6, H6, N6, e6, g6, f6, _, s6, _⟩ := app_many (H0 := H3) (bytes := 8) w1_len (by omega) g5 (f4.trans f5) (s4.toM.mono fun y c _ e => f5 y c e) (s5.wh w1_len) (all1_w1 _) (by simp; omega) (by simp; omega)
    have hB5 := good_B g5
    have hR5 := good_rdB g5
    rw [hH4] at e5
    simp (disch := omega) only [J109, hB, hR, hI, e0, e3, lk_, wl, p0, p1, n0, n1, hB3, hR3, hI3, b0, b1, rb0, rb1, k1, k2, k3, e5, e6, hB5, hR5, all1, ress, res1, retV, Value.cells, seval, eV]
    exact ⟨_, _, _, _, rfl, g6, f23.trans f6, s6.low f23.dm, by rw [hh3 hkk]; simp; omega, u_app (u_one ul) hMu⟩
  · 
    have k1 : ((kk : Int) == 1) = false := by subst hkk; rfl
    have k2 : ((kk : Int) == 2) = false := by subst hkk; rfl
    have k3 : ((kk : Int) == 3) = false := by subst hkk; rfl
    have k4 : ((kk : Int) == 4) = true := by subst hkk; rfl
    obtain ⟨v5, M, H5, N5, e5, g5, f5, s5, hM, hMu⟩ := xtree10 C hkk R (hs.mono f24) g4
    obtain ⟨v6, H6, N6, e6, g6, f6, _, s6, _⟩ := app_many (H0 := H3) (bytes := 8) w1_len (by omega) g5 (f4.trans f5) (s4.toM.mono fun y c _ e => f5 y c e) (s5.wh w1_len) (all1_w1 _) (by simp; omega) (by simp; omega)
    have hB5 := good_B g5
    have hR5 := good_rdB g5
    rw [hH4] at e5
    simp (disch := omega) only [J109, hB, hR, hI, e0, e3, lk_, wl, p0, p1, n0, n1, hB3, hR3, hI3, b0, b1, rb0, rb1, k1, k2, k3, k4, e5, e6, hB5, hR5, all1, ress, res1, retV, Value.cells, seval, eV]
    exact ⟨_, _, _, _, rfl, g6, f23.trans f6, s6.low f23.dm, by rw [hh4 hkk]; simp; omega, u_app (u_one ul) hMu⟩
  · 
    have k1 : ((kk : Int) == 1) = false := by subst hkk; rfl
    have k2 : ((kk : Int) == 2) = false := by subst hkk; rfl
    have k3 : ((kk : Int) == 3) = false := by subst hkk; rfl
    have k4 : ((kk : Int) == 4) = false := by subst hkk; rfl
    have htl := R.tl hkk
    cases hcl : s.cl with
    | true =>
      obtain ⟨H4', hH4'⟩ : ∃ H4', H4' = (N3.n 1, (.cells [.int .u64 1] 1 : KB)) :: H4 := ⟨_, rfl⟩
      have g4' : good B H4' (sh (sh N3)) := by rw [hH4']; exact good_new g4
      have f4' : Fr H4 H4' := by rw [hH4']; exact fr_new g4 Fr.refl 0
      have s4' : SlN w1 1 B H4 H4' (.slice (some ⟨N3.n 1, 0, none⟩) 1 1) [1] := by rw [hH4']; exact slN_new g4 [1] rfl rfl rfl
      obtain ⟨v5, M, H5, N5, e5, g5, f5, s5, hM, hMu⟩ := xvotes10 (s := s) (by omega) (hs.mono (f24.trans f4')) g4'
      obtain ⟨v6, H6, N6, e6, g6, f6, _, s6, _⟩ := app_many (H0 := H4) (bytes := 8) w1_len (by omega) g5 (f4'.trans f5) (s4'.toM.mono fun y c _ e => f5 y c e) (s5.wh w1_len) (all1_w1 _) (by simp; omega) (by simp; omega)
      have hB5 := good_B g5
      have hR5 := good_rdB g5
      rw [hH4', hH4] at e5
      simp only [hcl] at e3 e5 p1
      simp (disch := omega) only [J109, hB, hR, hI, hcl, e0, e3, lk_, wl, p0, p1, n0, n1, hB3, hR3, hI3, b0, b1, rb0, rb1, k1, k2, k3, k4, e5, e6, hB5, hR5, all1, ress, res1, retV, Value.cells, seval, eV]
      exact ⟨_, _, _, _, rfl, g6, f24.trans f6, s6.low f24.dm, by rw [hh5 hkk]; simp; omega, u_app (u_one (by unfold u64R; omega)) hMu⟩
    | false =>
      obtain ⟨H4', hH4'⟩ : ∃ H4', H4' = (N3.n 1, (.cells [.int .u64 0] 1 : KB)) :: H4 := ⟨_, rfl⟩
      have g4' : good B H4' (sh (sh N3)) := by rw [hH4']; exact good_new g4
      have f4' : Fr H4 H4' := by rw [hH4']; exact fr_new g4 Fr.refl 0
      have s4' : SlN w1 1 B H4 H4' (.slice (some ⟨N3.n 1, 0, none⟩) 1 1) [0] := by rw [hH4']; exact slN_new g4 [0] rfl rfl rfl
      obtain ⟨v5, M, H5, N5, e5, g5, f5, s5, hM, hMu⟩ := xvotes10 (s := s) (by omega) (hs.mono (f24.trans f4')) g4'
      obtain ⟨v6, H6, N6, e6, g6, f6, _, s6, _⟩ := app_many (H0 := H4) (bytes := 8) w1_len (by omega) g5 (f4'.trans f5) (s4'.toM.mono fun y c _ e => f5 y c e) (s5.wh w1_len) (all1_w1 _) (by simp; omega) (by simp; omega)
      have hB5 := good_B g5
      have hR5 := good_rdB g5
      rw [hH4', hH4] at e5
      simp only [hcl] at e3 e5 p1
      simp (disch := omega) only [J109, hB, hR, hI, hcl, e0, e3, lk_, wl, p0, p1, n0, n1, hB3, hR3, hI3, b0, b1, rb0, rb1, k1, k2, k3, k4, e5, e6, hB5, hR5, all1, ress, res1, retV, Value.cells, seval, eV]
      exact ⟨_, _, _, _, rfl, g6, f24.trans f6, s6.low f24.dm, by rw [hh5 hkk]; simp; omega, u_app (u_one (by unfold u64R; omega)) hMu⟩
def LlWo : FnL := ⟨(.seq (.ops [oa 2 (.box (ot 0)),oa 4 (.mv (.const (.slice none 0 0)))])
 (.seq (.draw [oe 8 (.load true 3 (ot 2)),oe 9 (.load true 3 (ot 2)),pm 10 1, ⟨oa 11 (.call (.func 58) [(ot 9), (ot 10)]), [oa 8 (.load true 3 (ot 2))]⟩,oe 12 (.call (.func 57) [(ot 8), (ot 11)]),pm 7 12,oe 13 (.ext (ot 7) 0),oe 14 (.ext (ot 7) 1),pm 5 13,pm 6 14])
 (.seq (.ops [om 15 5,om 4 15])
 .ret))),
 16, [.tmp 4]⟩
theorem lowlWo : lowerFn Tryd.prog Tryd.f33 = some LlWo := by kernel_rfl
noncomputable def GlWo (B : OH) : Nat → Cs
  | 58 => VlS B
  | 57 => Vref10Enc B
  | _ => fun _ _ _ => none
theorem GlWo_lS {B : OH} : GlWo B 58 = VlS B := rfl
theorem GlWo_ref10Enc {B : OH} : GlWo B 57 = Vref10Enc B := rfl
theorem sGlWo {w0 : World} {B : OH} : SoundG Tryd.prog w0 B { f := GlWo B } := .of fun k => by
  unfold GlWo
  split
  · exact .inr ⟨enlS, sVlS⟩
  · exact .inr ⟨enref10Enc, sVref10Enc⟩
  · exact .inl fun _ _ _ => rfl
theorem enlWo : Enter Tryd.prog 33 := .of Tryd.func33 (by kernel_rfl) (by kernel_rfl)
noncomputable def TlWo (B : OH) : Cs := callF B { f := GlWo B } 1000000 LlWo
theorem sTlWo {w0 : World} {B : OH} : SoundC Tryd.prog w0 B 33 (TlWo B) := callF_sound mixedOrders sGlWo 1000000 Tryd.func33 lowlWo
noncomputable def VlWo (B : OH) : Cs := TlWo B
theorem sVlWo {w0 : World} {B : OH} : SoundC Tryd.prog w0 B 33 (VlWo B) := sTlWo
theorem J110 : Said (an @TlWo.eq_1 <| an @LlWo.eq_1 <| an @GlWo_lS <| an @GlWo_ref10Enc <| trivial) := said_ok _
set_option maxHeartbeats 4000000 in
theorem xWords {B : OH} {H : HL} {N : St} {vr : Value} {raw : List Q3} {kk p cc h : Nat} (C : Cf kk p cc h) (hr : SlR q3 3 B H vr raw) (hrs : Q3s raw) (hN : good B H N) : ∃ v' M H' N', VlWo B [.agg #[.int .i64 (kk : Int), .int .i64 (p : Int), .int .i64 (cc : Int)], vr] H N = some (.ret v', H', N') ∧ good B H' N' ∧ Fr H H' ∧ SlM w1 1 B H H' v' M ∧ M.length = h ∧ U64s M := by
  obtain ⟨hB, hR, hI⟩ := gX hN
  have hG : ∃ H N, good B H N := ⟨H, N, hN⟩
  have b0 := hB 0
  have rb0 := rN b0
  obtain ⟨H1, hH1⟩ : ∃ H1, H1 = (N.n 0, (.cells [.int .i64 (kk : Int), .int .i64 (p : Int), .int .i64 (cc : Int)] 3 : KB)) :: H := ⟨_, rfl⟩
  have g1 : good B H1 (sh N) := by rw [hH1]; exact good_new hN
  have f1' : Fr H H1 := by rw [hH1]; exact fr_set Fr.refl (lk_N hN _)
  have q0 : lk H1 (N.n 0) = some (.cells [.int .i64 (kk : Int), .int .i64 (p : Int), .int .i64 (cc : Int)] 3) := by rw [hH1]; exact lk_top
  obtain ⟨s, vk, vv, vt, H2, N2, e2, g2, f2, s2, R2⟩ := xState C (hr.mono f1') hrs g1
  have p0 := f2 _ _ q0
  obtain ⟨v3, M, H3, N3, e3, g3, f3, s3, hM, hMu⟩ := xEnc C R2 s2 g2
  rw [hH1] at e2
  unfold VlWo
  simp (disch := omega) only [J110, hB, hR, hI, e2, e3, p0, b0, rb0, all1, ress, res1, retV, Value.cells, newsV_s, seval, eV]
  have ff := f1'.trans f2
  exact ⟨_, M, _, _, rfl, g3, ff.trans f3, s3.low ff.dm, hM, hMu⟩
end Go.Proofs.YtfhiplfagejfoaaDoor
namespace Go.Proofs.YtfhiplfagejfoaaDoor
open Go.Proofs.YtfhiplfagejfoaaDoor.K Go.ChangeShapes Go.WideShapes Go.ChangeAt Go.RowKit 
set_option maxRecDepth 100000
set_option linter.unusedSimpArgs false
set_option linter.unusedVariables false

def dfL (A M : List Int) (base : Int) : Nat → List W2
  | 0 => []
  | n + 1 => if A.getD n 0 = M.getD n 0 then dfL A M base n else dfL A M base n ++ [⟨base + n, M.getD n 0⟩]
theorem dfL_len (A M : List Int) (base : Int) : ∀ n, (dfL A M base n).length ≤ n
  | 0 => Nat.le_refl _
  | n + 1 => by
    have := dfL_len A M base n
    unfold dfL; split
    · omega
    · simp; omega
def Ldiffbased : FnL := ⟨(.seq (.ops [oa 2 (.mv (.const (.bool false)))])
 (.seq (.ops [om 3 0,oa 4 (.bin .geq (ot 3) (oi 0)),om 5 4,ob 6 (.mv (ot 0)) 5 true,ob 7 (.bin .leq (ot 6) (oi 1048576)) 5 true,oa 8 (.pick (ot 5) (ot 7) (.const (.bool false))),om 2 8])
 .ret)),
 9, [.tmp 2]⟩
theorem lowdiffbased : lowerFn Tryd.prog Tryd.f59 = some Ldiffbased := by kernel_rfl
noncomputable def Gdiffbased (B : OH) : Nat → Cs
  | _ => fun _ _ _ => none
theorem sGdiffbased {w0 : World} {B : OH} : SoundG Tryd.prog w0 B { f := Gdiffbased B } := .of fun k => by
  unfold Gdiffbased
  split
  · exact .inl fun _ _ _ => rfl
theorem endiffbased : Enter Tryd.prog 59 := .of Tryd.func59 (by kernel_rfl) (by kernel_rfl)
noncomputable def Tdiffbased (B : OH) : Cs := callF B { f := Gdiffbased B } 1000000 Ldiffbased
theorem sTdiffbased {w0 : World} {B : OH} : SoundC Tryd.prog w0 B 59 (Tdiffbased B) := callF_sound mixedOrders sGdiffbased 1000000 Tryd.func59 lowdiffbased
noncomputable def Fdiffbased (B : OH) : List Value → Option Value := kval B (Tdiffbased B)
noncomputable def Vdiffbased (B : OH) : Cs := fun a H N => pvE (Fdiffbased B a) H N
theorem Vdiffbased_eq {B : OH} {a : List Value} {H : HL} {N : St} : Vdiffbased B a H N = pvE (Fdiffbased B a) H N := rfl
theorem sVdiffbased {w0 : World} {B : OH} : SoundC Tryd.prog w0 B 59 (Vdiffbased B) := sTdiffbased.ofVal
theorem J111 : Said (an @Tdiffbased.eq_1 <| an @Ldiffbased.eq_1 <| trivial) := said_ok _
theorem xbased {B : OH} (hG : ∃ H N, good B H N) {x : Int} (hx : 0 ≤ x ∧ x ≤ 1048576) : Fdiffbased B [.int .i64 x] = some (.bool true) := by
  refine kval_eq hG fun H N hN => ?_
  obtain ⟨hB, hR, hI⟩ := gX hN
  have c1 : x ≥ 0 := hx.1
  have c2 := hx.2
  simp (disch := omega) only [J111, hB, hR, hI, c1, c2, all1, ress, res1, retV, Value.cells, newsV_s, seval, eV]
  with_reducible refine done2 ?_
  repeat (first | refine ext_new hN ?_ | exact fun _ _ h => h)
def Ldiffunlike : FnL := ⟨(.seq (.ops [oa 2 (.box (ot 0)),oa 3 (.box (ot 1)),oa 4 (.mv (.const .nilFunc))])
 (.seq (.ops [oa 5 (.fn (.func 76) [] [(ot 3), (ot 2)]),om 4 5])
 .ret)),
 6, [.tmp 4]⟩
theorem lowdiffunlike : lowerFn Tryd.prog Tryd.f60 = some Ldiffunlike := by kernel_rfl
noncomputable def Gdiffunlike (B : OH) : Nat → Cs
  | _ => fun _ _ _ => none
theorem sGdiffunlike {w0 : World} {B : OH} : SoundG Tryd.prog w0 B { f := Gdiffunlike B } := .of fun k => by
  unfold Gdiffunlike
  split
  · exact .inl fun _ _ _ => rfl
theorem endiffunlike : Enter Tryd.prog 60 := .of Tryd.func60 (by kernel_rfl) (by kernel_rfl)
noncomputable def Tdiffunlike (B : OH) : Cs := callF B { f := Gdiffunlike B } 1000000 Ldiffunlike
theorem sTdiffunlike {w0 : World} {B : OH} : SoundC Tryd.prog w0 B 60 (Tdiffunlike B) := callF_sound mixedOrders sGdiffunlike 1000000 Tryd.func60 lowdiffunlike
noncomputable def Vdiffunlike (B : OH) : Cs := Tdiffunlike B
theorem sVdiffunlike {w0 : World} {B : OH} : SoundC Tryd.prog w0 B 60 (Vdiffunlike B) := sTdiffunlike
def LdU : FnL := ⟨(.seq (.ops [ol 6 1,oa 7 (.len false (ot 6)),oa 8 (.mv (oi 0))])
 (.block 0 (.loop (.seq (.ops [oa 9 (.bin .lss (ot 8) (ot 7))])
 (.seq (.cond (ot 9) .skip
 (.exit 0))
 (.seq (.block 1 (.seq (.ops [om 10 8,oa 11 (.iaddrS 1 (ot 6) (ot 8)),ol 12 11,om 4 10,om 5 12])
 (.seq (.ops [ol 13 2,om 14 4,oa 15 (.iaddrS 1 (ot 13) (ot 14)),ol 16 15,om 17 5,oa 18 (.bin .neq (ot 16) (ot 17)),om 19 18,ob 20 (.mv (ot 0)) 19 true,ob 21 (.mv (ot 4)) 19 true,ob 22 (.mv (ot 5)) 19 true,ob 23 (.call (ot 20) [(ot 21), (ot 22)]) 19 true,ob 24 (.un .not (ot 23)) 19 true,oa 25 (.pick (ot 19) (ot 24) (.const (.bool false)))])
 (.cond (ot 25) .ret
 .skip))))
 (.ops [oa 26 (.bin .add (ot 8) (oi 1)),om 8 26]))))))),
 27,[]⟩
theorem lowdU : lowerFn Tryd.prog Tryd.f76 = some LdU := by kernel_rfl
noncomputable def GdU (B : OH) : Nat → Cs
  | _ => fun _ _ _ => none
theorem endU : Enter Tryd.prog 76 := .of Tryd.func76 (by kernel_rfl) (by kernel_rfl)
noncomputable abbrev EdU (B : OH) (Y : Nat → Cs) : Env := { f := GdU B, y := Y }
noncomputable def IdU (B : OH) (Y : Nat → Cs) : Cs := callF B (EdU B Y) 1000000 LdU
theorem sIdU {w0 : World} {B : OH} (Y : Nat → Cs) (hY : SoundY Tryd.prog w0 B Y) : SoundC Tryd.prog w0 B 76 (IdU B Y) :=
  callF_sound mixedOrders ⟨fun k => by
    show (∀ args H N, GdU B k args H N = none) ∨ _
    unfold GdU
    split
    · exact .inl fun _ _ _ => rfl, hY, fun _ => .inl fun _ _ _ _ => rfl⟩ 1000000 Tryd.func76 lowdU
structure RdU (B : OH) (bb ab : Nat) (va vb : Value) (Ka Kb : List Int) (H : HL) : Prop where
  lb : lk H bb = some (.cells [vb] 1)
  la : lk H ab = some (.cells [va] 1)
  sa : SlW w1 1 B H va Ka
  sb : SlW w1 1 B H vb Kb
structure KUn (lp bb ab : Nat) (vb : Value) (n k : Nat) (ts : List Value) : Prop where
  l : ts.length = 27
  t0 : gt ts 0 = .func (.yield lp) #[] #[]
  t1 : gt ts 1 = .pointer (some ⟨bb, 0, none⟩)
  t2 : gt ts 2 = .pointer (some ⟨ab, 0, none⟩)
  t6 : gt ts 6 = vb
  t7 : gt ts 7 = .int .i64 (n : Int)
  t8 : gt ts 8 = .int .i64 (k : Int)
set_option maxHeartbeats 8000000 in
theorem itU {B : OH} {Y : Nat → Cs} {l bb ab : Nat} {va vb : Value} {Ka Kb : List Int} {J : Nat → HL → Prop} (hl : Ka.length = Kb.length) (hL : Kb.length ≤ 5000)
    (hY : ∀ k H N, k < Kb.length → Ka.getD k 0 ≠ Kb.getD k 0 → J k H → good B H N → ∃ H' N', Y l [.int .i64 (k : Int), .int .u64 (Kb.getD k 0)] H N = some (.ret (.bool true), H', N') ∧ good B H' N' ∧ J (k + 1) H')
    (hS : ∀ k H, k < Kb.length → Ka.getD k 0 = Kb.getD k 0 → J k H → J (k + 1) H)
    (hJ : ∀ k H, k ≤ Kb.length → J k H → RdU B bb ab va vb Ka Kb H)
    (b1 : B bb = none) (b2 : B ab = none) {H : HL} {N : St} (hN : good B H N) (j0 : J 0 H) :
    ∃ H' N', IdU B Y [.func (.yield l) #[] #[], .pointer (some ⟨bb, 0, none⟩), .pointer (some ⟨ab, 0, none⟩)] H N = some (.ret (.tuple #[]), H', N') ∧ good B H' N' ∧ J Kb.length H' := by
  obtain ⟨hB, hR, hI⟩ := gX hN
  have hG : ∃ H N, good B H N := ⟨H, N, hN⟩
  have rb := rN b1
  have ra := rN b2
  have q0 := hJ 0 H (by omega) j0
  have lb0 := q0.lb
  have hlv := q0.sb.len
  simp (disch := omega) only [IdU, LdU, hB, hR, hI, lb0, b1, rb, hlv, all1, ress, res1, retV, Value.cells, newsV_s, seval, eV]
  generalize hX : exec B _ _ (LC.loop _) _ = o
  have hO : Ok o (fun x s => x = .exit 0 ∧ good B s.H s.N ∧ J Kb.length s.H) := by
    rw [← hX]
    refine loop_rule (n0 := 100) (fun q s => ∃ ts H' N', ∃ k : Nat, s = ⟨ts, H', N'⟩ ∧ KUn l bb ab vb Kb.length k ts ∧ good B H' N' ∧ J k H' ∧ k ≤ Kb.length ∧ q = Kb.length - k) _ ?_ Kb.length _ ⟨_, H, N, 0, rfl, ⟨rfl, rfl, rfl, rfl, rfl, rfl, rfl⟩, hN, j0, by omega, rfl⟩ _ (by omega)
    clear hX hB hR hI
    rintro z q s ⟨ts, H1, N1, k, rfl, kp, g, j1, hk, rfl⟩
    obtain ⟨hB, hR, hI⟩ := gX g
    obtain ⟨lb, la, sa, sb⟩ := hJ k H1 hk j1
    have hc1 : ((k + 1 : Nat) : Int) = (k : Int) + 1 := by omega
    by_cases hin : k < Kb.length
    case neg =>
      obtain rfl : k = Kb.length := by omega
      simp (disch := omega) only [IdU, LdU, hB, hR, hI, kp.l, kp.t0, kp.t1, kp.t2, kp.t6, kp.t7, kp.t8, Int.lt_irrefl, all1, ress, res1, retV, Value.cells, newsV_s, seval, eV]
      exact ok_some (.inr ⟨by simp, rfl, g, j1⟩)
    have h' : (k : Int) < (Kb.length : Int) := by omega
    have i0 : (0 : Int) ≤ (k : Int) := by omega
    have hka : k < Ka.length := by omega
    obtain ⟨bv, ov, cv, hvb, r1⟩ := rd_w w1_len sb (by omega)
    obtain ⟨bw, ow, cw, hva, r2⟩ := rd_w w1_len sa (by omega)
    have r1 := r1 H1 Fr.refl k hin
    have r2 := r2 H1 Fr.refl k hka
    simp only [w1] at r1 r2
    by_cases he : Ka.getD k 0 = Kb.getD k 0
    · rw [he] at r2
      have js := hS k H1 hin he j1
      subst hvb hva
      simp (disch := omega) only [IdU, LdU, hB, hR, hI, kp.l, kp.t0, kp.t1, kp.t2, kp.t6, kp.t7, kp.t8, la, b2, ra, h', i0, hin, hka, r1, r2, Nat.mul_one, bne_self_eq_false, all1, ress, res1, retV, Value.cells, newsV_s, seval, eV]
      refine ok_some (.inl ⟨rfl, Kb.length - (k + 1), by omega, _, H1, N1, k + 1, rfl, ⟨?_, ?_, ?_, ?_, ?_, ?_, ?_⟩, g, js, by omega, rfl⟩)
      all_goals simp (disch := omega) only [kp.l, kp.t0, kp.t1, kp.t2, kp.t6, kp.t7, kp.t8, hc1, Int.cast_ofNat_Int, decide_true, ev2, seval, ev5]
    · have hb : (Ka.getD k 0 != Kb.getD k 0) = true := by simpa using he
      obtain ⟨H2, N2, ey, g2, j2⟩ := hY k H1 N1 hin he j1 g
      subst hvb hva
      simp (disch := omega) only [IdU, LdU, hB, hR, hI, kp.l, kp.t0, kp.t1, kp.t2, kp.t6, kp.t7, kp.t8, la, b2, ra, h', i0, hin, hka, r1, r2, hb, ey, Nat.mul_one, all1, ress, res1, retV, Value.cells, newsV_s, seval, eV]
      refine ok_some (.inl ⟨rfl, Kb.length - (k + 1), by omega, _, H2, N2, k + 1, rfl, ⟨?_, ?_, ?_, ?_, ?_, ?_, ?_⟩, g2, j2, by omega, rfl⟩)
      all_goals simp (disch := omega) only [kp.l, kp.t0, kp.t1, kp.t2, kp.t6, kp.t7, kp.t8, hc1, Int.cast_ofNat_Int, decide_true, ev2, seval, ev5]
  obtain ⟨x, ⟨ts, H1, N1⟩, rfl, rfl, g1, j1⟩ := hO
  simp only at g1 j1
  simp (disch := omega) only [IdU, LdU, hB, hR, hI, retV, all1, ress, res1, retV, Value.cells, newsV_s, seval, eV]
  exact ⟨_, _, rfl, g1, j1⟩
noncomputable def itU2 (B : OH) : Nat → (Nat → Cs) → Cs
  | 68 => I17 B
  | 76 => IdU B
  | _ => fun _ _ _ _ => none
theorem itU2_dU {B : OH} : itU2 B 76 = IdU B := rfl
theorem sitU2 {w0 : World} {B : OH} : ∀ k, (∀ Y args H N, itU2 B k Y args H N = none) ∨ (Enter Tryd.prog k ∧ ∀ Y, SoundY Tryd.prog w0 B Y → SoundC Tryd.prog w0 B k (itU2 B k Y)) := fun k => by
  unfold itU2
  split
  · exact .inr ⟨en17, sI17⟩
  · exact .inr ⟨endU, sIdU⟩
  · exact .inl fun _ _ _ _ => rfl
end Go.Proofs.YtfhiplfagejfoaaDoor
namespace Go.Proofs.YtfhiplfagejfoaaDoor
open Go.Proofs.YtfhiplfagejfoaaDoor.K Go.ChangeShapes Go.WideShapes Go.ChangeAt Go.RowKit 
set_option maxRecDepth 100000
set_option linter.unusedSimpArgs false
set_option linter.unusedVariables false

def LdiffOf : FnL := ⟨(.seq (.ops [oa 5 (.box (ot 2)),oa 6 (.alloc [(.slice none 0 0)]),oa 7 (.mv (oi 0))])
 (.seq (.seq (.ops [om 10 0,oa 11 (.len false (ot 10)),om 12 1,oa 13 (.len false (ot 12)),oa 14 (.bin .neq (ot 11) (ot 13)),om 15 14,ob 16 (.load false 1 (ot 5)) 15 false,ob 17 (.call (.func 59) [(ot 16)]) 15 false,ob 18 (.un .not (ot 17)) 15 false,oa 19 (.pick (ot 15) (.const (.bool true)) (ot 18))])
 (.cond (ot 19) (.seq (.ops [oc (.store 1 (ot 6) (.const (.slice none 0 0))),oa 7 (.mv (oi 1))])
 .ret)
 .skip))
 (.seq (.seq (.ops [om 20 0,om 21 1,oa 22 (.call (.func 60) [(ot 20), (ot 21)])])
 (.block 0 (.range (ot 22) [23, 24] (.seq (.ops [om 8 23])
 (.ops [om 9 24]))
 (.block 1 (.ops [ol 25 6,ol 26 5,om 27 8,oa 28 (.bin .add (ot 26) (ot 27)),om 29 9,oa 30 (.build [(.int .i64 0), (.int .u64 0)] [(0, 1, (ot 28)), (1, 1, (ot 29))]),oa 31 (.buildS [(.int .i64 0), (.int .u64 0)] 1 [(0, 2, (ot 30))]),oa 32 (.app [(.int .i64 0), (.int .u64 0)] 16 (ot 25) (ot 31)), oc (.store 1 (ot 6) (ot 32))])))))
 (.seq (.ops [ol 33 6, oc (.store 1 (ot 6) (ot 33)),oa 7 (.mv (oi 0))])
 .ret)))),
 34, [.cell 6 false 1, .tmp 7]⟩
theorem lowdiffOf : lowerFn Tryd.prog Tryd.f34 = some LdiffOf := by kernel_rfl
noncomputable def GdiffOf (B : OH) : Nat → Cs
  | 59 => Vdiffbased B
  | 60 => Vdiffunlike B
  | _ => fun _ _ _ => none
theorem GdiffOf_diffbased {B : OH} : GdiffOf B 59 = Vdiffbased B := rfl
theorem GdiffOf_diffunlike {B : OH} : GdiffOf B 60 = Vdiffunlike B := rfl
noncomputable abbrev EdiffOf (B : OH) : Env := { f := GdiffOf B, it := itU2 B }
theorem sGdiffOf {w0 : World} {B : OH} : SoundG Tryd.prog w0 B (EdiffOf B) :=
  ⟨fun k => by
    show (∀ args H N, GdiffOf B k args H N = none) ∨ _
    unfold GdiffOf
    split
    · exact .inr ⟨endiffbased, sVdiffbased⟩
    · exact .inr ⟨endiffunlike, sVdiffunlike⟩
    · exact .inl fun _ _ _ => rfl, fun _ => .inl fun _ _ _ => rfl, sitU2⟩
theorem endiffOf : Enter Tryd.prog 34 := .of Tryd.func34 (by kernel_rfl) (by kernel_rfl)
noncomputable def TdiffOf (B : OH) : Cs := callF B (EdiffOf B) 1000000 LdiffOf
theorem sTdiffOf {w0 : World} {B : OH} : SoundC Tryd.prog w0 B 34 (TdiffOf B) := callF_sound mixedOrders sGdiffOf 1000000 Tryd.func34 lowdiffOf
noncomputable def VdiffOf (B : OH) : Cs := TdiffOf B
theorem sVdiffOf {w0 : World} {B : OH} : SoundC Tryd.prog w0 B 34 (VdiffOf B) := sTdiffOf
theorem J112 : Said (an @TdiffOf.eq_1 <| an @LdiffOf.eq_1 <| an @GdiffOf_diffbased <| an @Vdiffbased_eq <| an @GdiffOf_diffunlike <| an @Vdiffunlike.eq_1 <| an @Tdiffunlike.eq_1 <| an @Ldiffunlike.eq_1 <| trivial) := said_ok _
set_option maxHeartbeats 16000000 in
theorem xOf {B : OH} {H : HL} {N : St} {va vb : Value} {Ka Kb : List Int} {x : Int} (hN : good B H N) (ha : SlW w1 1 B H va Ka) (hb : SlW w1 1 B H vb Kb) (hl : Ka.length = Kb.length) (hL : Kb.length ≤ 5000) (hx : 0 ≤ x ∧ x ≤ 1048576) :
    ∃ v' H' N', VdiffOf B [va, vb, .int .i64 x] H N = some (.ret (.tuple #[v', .int .i64 0]), H', N') ∧ good B H' N' ∧ Fr H H' ∧ SlM w2 2 B H H' v' (dfL Ka Kb x Kb.length) := by
  obtain ⟨hB, hR, hI⟩ := gX hN
  have hG : ∃ H N, good B H N := ⟨H, N, hN⟩
  have e1 := xbased hG hx
  have h1 := ha.len
  have h2 := hb.len
  have hlb : ((Ka.length : Int) != (Kb.length : Int)) = false := by rw [hl]; exact bne_self_eq_false _
  obtain ⟨a_, ca, rfl, _⟩ := id ha
  obtain ⟨b_, cb, rfl, _⟩ := id hb
  unfold VdiffOf
  simp (disch := omega) only [J112, hB, hR, hI, itU2_dU, List.cons_append, EdiffOf, e1, hlb, all1, ress, res1, retV, Value.cells, newsV_s, seval, eV]
  generalize hX : IdU B _ _ _ _ = o
  obtain ⟨HH, hHH⟩ : ∃ HH, HH = (N.n 5, KB.loop (N.r 5) .ready) :: (N.n 4, .dfr) :: (N.n 3, .cells [.slice b_ Kb.length cb] 1) :: (N.n 2, .cells [.slice a_ Ka.length ca] 1) :: (N.n 1, .cells [.slice none 0 0] 1) :: (N.n 0, .cells [.int .i64 x] 1) :: H := ⟨_, rfl⟩
  have gH : good B HH (sh (sh (sh (sh (sh (sh N)))))) := by rw [hHH]; repeat (first | exact hN | refine good_new ?_)
  have fH : Fr H HH := by rw [hHH]; repeat (first | exact Fr.refl | refine fr_set ?_ (lk_N hN _))
  have p0 : lk HH (N.n 0) = some (.cells [.int .i64 x] 1) := by rw [hHH]; simp only [lk_cons, hI]; rfl
  have p1 : lk HH (N.n 1) = some (.cells [.slice none 0 0] 1) := by rw [hHH]; simp only [lk_cons, hI]; rfl
  have p2 : lk HH (N.n 2) = some (.cells [.slice a_ Ka.length ca] 1) := by rw [hHH]; simp only [lk_cons, hI]; rfl
  have p3 : lk HH (N.n 3) = some (.cells [.slice b_ Kb.length cb] 1) := by rw [hHH]; simp only [lk_cons, hI]; rfl
  have p5 : lk HH (N.n 5) = some (.loop (N.r 5) .ready) := by rw [hHH]; simp only [lk_cons, hI]; rfl
  have ni : ∀ i j, i ≠ j → N.n i ≠ N.n j := fun i j hij e => by
    have := hI i j
    rw [e] at this; simp at this; exact hij this
  have hNi : ∀ i, lk H (N.n i) = none := fun i => lk_N hN i
  have frH : ∀ H', (∀ y c, y ≠ N.n 5 → y ≠ N.n 1 → lk HH y = some c → lk H' y = some c) → Fr H H' := fun H' jp y c e => jp y c (fun h' => by rw [h', hNi] at e; cases e) (fun h' => by rw [h', hNi] at e; cases e) (fH _ _ e)
  have hO : ∃ H' N', o = some (.ret (.tuple #[]), H', N') ∧ good B H' N' ∧ (lk H' (N.n 5) = some (.loop (N.r 5) .ready) ∧ (∀ y c, y ≠ N.n 5 → y ≠ N.n 1 → lk HH y = some c → lk H' y = some c) ∧ ∃ vO, lk H' (N.n 1) = some (.cells [vO] 1) ∧ SlM w2 2 B HH H' vO (dfL Ka Kb x Kb.length)) := by
    rw [← hX, ← hHH]
    refine itU (J := fun k H' => lk H' (N.n 5) = some (.loop (N.r 5) .ready) ∧ (∀ y c, y ≠ N.n 5 → y ≠ N.n 1 → lk HH y = some c → lk H' y = some c) ∧ ∃ vO, lk H' (N.n 1) = some (.cells [vO] 1) ∧ SlM w2 2 B HH H' vO (dfL Ka Kb x k)) (l := N.n 5) (bb := N.n 3) (ab := N.n 2) (va := .slice a_ Ka.length ca) (vb := .slice b_ Kb.length cb) hl hL ?_ ?_ ?_ (hB 3) (hB 2) gH ⟨p5, fun _ _ _ _ e => e, _, p1, .inl ⟨rfl, rfl⟩⟩
    · rintro k H2 N2 hk hne ⟨j5, jp, vO, j1, js⟩ g2
      have hBo := hB
      have hIo := hI
      obtain ⟨hB, hR, hI⟩ := gX g2
      have b5 := hBo 5
      have b1 := hBo 1
      have b0 := hBo 0
      have rb1 := rN b1
      have rb0 := rN b0
      have j0 := jp _ _ (ni 0 5 (by decide)) (ni 0 1 (by decide)) p0
      have x5 := ne_N g2 j5
      have x5' := ne_N' g2 j5
      have x1 := ne_N g2 j1
      have x1' := ne_N' g2 j1
      have x0 := ne_N g2 j0
      have x15 : (N.n 1 == N.n 5) = false := by rw [hIo]; rfl
      have x51 : (N.n 5 == N.n 1) = false := by rw [hIo]; rfl
      have x05 : (N.n 0 == N.n 5) = false := by rw [hIo]; rfl
      have gb := good_set (k := .loop (N.r 5) .busy) g2 b5 j5
      have jn := fun y c (e : lk HH y = some c) => js.ne e
      have jsb : SlM w2 2 B HH ((N.n 5, .loop (N.r 5) .busy) :: H2) vO (dfL Ka Kb x k) := js.mono fun y c hy e => by
        rw [lk_cons, eqb (fun h' => jn _ _ p5 (by rw [← h']; exact hy)), cond_false]; exact e
      have hDm : Dm HH ((N.n 5, .loop (N.r 5) .busy) :: H2) := fun y e => by
        cases hy : lk HH y with
        | none => rfl
        | some c =>
          by_cases h6 : y = N.n 5
          · rw [h6, lk_top] at e; cases e
          · rw [lk_cons, eqb h6, cond_false] at e
            by_cases h1 : y = N.n 1
            · rw [h1, j1] at e; cases e
            · rw [jp y c h6 h1 hy] at e; cases e
      have hwl := dfL_len Ka Kb x k
      have hs : dfL Ka Kb x (k + 1) = dfL Ka Kb x k ++ [⟨x + k, Kb.getD k 0⟩] := if_neg hne
      have wx : IntKind.i64.wrap (x + (k : Int)) = x + (k : Int) := IntWalk.i64_in _ (by omega)
      generalize Kb.getD k 0 = w at *
      have g3' : good B ((N2.n 0, .cells [.int .i64 (x + (k : Int)), .int .u64 w] 2) :: (N.n 5, .loop (N.r 5) .busy) :: H2) (sh N2) := good_new gb
      have fn : Fr ((N.n 5, .loop (N.r 5) .busy) :: H2) ((N2.n 0, .cells [.int .i64 (x + (k : Int)), .int .u64 w] 2) :: (N.n 5, .loop (N.r 5) .busy) :: H2) := fr_new gb Fr.refl 0
      obtain ⟨v3, H3, N3, ea, g4, d4, k4, s4, hb4⟩ := app_specM (H0 := HH) (bytes := 16) w2_len g3' (hDm.trans fn.dm) (jsb.mono fun y c _ e => fn y c e) ⟨(x + (k : Int)), w⟩ rfl (by omega) (by omega)
      simp only [w2] at ea
      have jb1 : lk ((N.n 5, .loop (N.r 5) .busy) :: H2) (N.n 1) = some (.cells [vO] 1) := by rw [lk_cons, x15, cond_false]; exact j1
      have l6 := k4 _ _ (jn _ _ p5) (fn _ _ (lk_top (x := N.n 5) (k := .loop (N.r 5) .busy) (H := H2)))
      have l1 := k4 _ _ (jn _ _ p1) (fn _ _ jb1)
      have s5 := s4.toM
      have hvc : vO.cells = #[vO] := by obtain ⟨a, c, rfl, _⟩ := js.rd w2_len; rfl
      obtain ⟨av, cv, rfl, _⟩ := id (s4.rd w2_len)
      simp (disch := omega) only [J112, hB, hR, hI, itU2_dU, List.cons_append, EdiffOf, j5, j1, j0, b5, b1, b0, rb1, rb0, x5, x5', x1, x1', x0, x15, x51, x05, wx, ea, l6, l1, hvc, all1, ress, res1, retV, Value.cells, newsV_s, seval, eV]
      have nv : ∀ y c, lk HH y = some c → slB (.slice av (dfL Ka Kb x k ++ [(⟨(x + (k : Int)), w⟩ : W2)]).length cv) ≠ some y := fun y c e => s5.ne e
      refine ⟨_, _, rfl, good_set (k' := .loop (N.r 5) .busy) (good_up (k := .cells [.slice av (dfL Ka Kb x k ++ [(⟨(x + (k : Int)), w⟩ : W2)]).length cv] 1) g4 b1 l1) b5 (by rw [lk_upH, x51, cond_false]; exact l6), lk_top, fun y c h6 h1 e => ?_, .slice av (dfL Ka Kb x k ++ [(⟨(x + (k : Int)), w⟩ : W2)]).length cv, ?_, ?_⟩
      · have y6 : (y == N.n 5) = false := eqb h6
        have y1 : (y == N.n 1) = false := eqb h1
        rw [lk_cons, y6, cond_false, lk_upH, y1, cond_false]
        exact k4 y c (jn _ _ e) (fn _ _ (by rw [lk_cons, y6, cond_false]; exact jp y c h6 h1 e))
      · rw [lk_cons, x15, cond_false, lk_upH, beq_self_eq_true, cond_true]
      · rw [hs]
        refine SlM.mono s5 fun y c hy e => ?_
        rw [lk_cons, eqb (fun h' => nv _ _ p5 (by rw [← h']; exact hy)), cond_false, lk_upH, eqb (fun h' => nv _ _ p1 (by rw [← h']; exact hy)), cond_false]
        exact e
    · rintro k H2 hk he ⟨j5, jp, vO, j1, js⟩
      exact ⟨j5, jp, vO, j1, by rw [show dfL Ka Kb x (k + 1) = dfL Ka Kb x k from if_pos he]; exact js⟩
    · rintro k H2 hk ⟨j5, jp, vO, j1, js⟩
      exact ⟨jp _ _ (ni 3 5 (by decide)) (ni 3 1 (by decide)) p3, jp _ _ (ni 2 5 (by decide)) (ni 2 1 (by decide)) p2, ha.mono (frH _ jp), hb.mono (frH _ jp)⟩
  obtain ⟨H2, N2, rfl, g2, j5, jp, vO, j1, js⟩ := hO
  have b5 := hB 5
  have b1 := hB 1
  have rb1 := rN b1
  have x15 : (N.n 1 == N.n 5) = false := by rw [hI]; rfl
  obtain ⟨ao, co, rfl, _⟩ := id (js.wh w2_len)
  have f2 := frH _ jp
  simp (disch := omega) only [J112, hB, hR, hI, itU2_dU, List.cons_append, EdiffOf, j5, j1, b5, b1, rb1, x15, all1, ress, res1, retV, Value.cells, newsV_s, seval, eV]
  have x51 : (N.n 5 == N.n 1) = false := by rw [hI]; rfl
  refine ⟨_, _, _, rfl, good_set (k' := .loop (N.r 5) .ready) (good_up g2 b1 j1) b5 (by rw [lk_upH, x51, cond_false]; exact j5), fr_set (fr_up f2 (lk_N hN 1)) (lk_N hN 5), ?_⟩
  refine SlM.low (H1 := HH) (js.mono fun y c hy e => ?_) fH.dm
  rw [lk_cons, eqb (fun h' => js.ne p5 (by rw [← h']; exact hy)), cond_false, lk_upH, eqb (fun h' => js.ne p1 (by rw [← h']; exact hy)), cond_false]; exact e
end Go.Proofs.YtfhiplfagejfoaaDoor
namespace Go.Proofs.YtfhiplfagejfoaaDoor
open Go.Proofs.YtfhiplfagejfoaaDoor.K Go.ChangeShapes Go.WideShapes Go.ChangeAt Go.RowKit 
set_option maxRecDepth 100000
set_option linter.unusedSimpArgs false
set_option linter.unusedVariables false
theorem f10c4 {B : OH} (hG : ∃ H N, good B H N) (hT : Tab B) {kk p cc h : Nat} (C : Cf kk p cc h) : F10 B [.agg #[.int .i64 (kk : Int), .int .i64 (p : Int), .int .i64 (cc : Int)], .int .i64 4, .int .i64 0] = some (.tuple #[.int .i64 (bs p h 4 : Nat), .int .i64 0]) := by
  have := f10 (k0 := 4) (o0 := 0) hG hT C.k C.p C.c C.m (by omega) (by simp [mn])
  exact this
/-! ### What the writes are -/
theorem df_mem {A M : List Int} {x : Int} {y : W2} : ∀ n, y ∈ dfL A M x n ↔ ∃ i, i < n ∧ A.getD i 0 ≠ M.getD i 0 ∧ y = ⟨x + i, M.getD i 0⟩
  | 0 => by simp [dfL]
  | n + 1 => by
    unfold dfL
    by_cases h : A.getD n 0 = M.getD n 0
    · rw [if_pos h, df_mem n]
      constructor
      · rintro ⟨i, h1, h2⟩; exact ⟨i, by omega, h2⟩
      · rintro ⟨i, h1, h2, h3⟩
        have : i ≠ n := fun e => h2 (by rw [e]; exact h)
        exact ⟨i, by omega, h2, h3⟩
    · rw [if_neg h, List.mem_append, df_mem n, List.mem_singleton]
      constructor
      · rintro (⟨i, h1, h2⟩ | h1)
        · exact ⟨i, by omega, h2⟩
        · exact ⟨n, by omega, h, h1⟩
      · rintro ⟨i, h1, h2, h3⟩
        by_cases e : i = n
        · subst e; exact .inr h3
        · exact .inl ⟨i, by omega, h2, h3⟩
theorem df_pair (A M : List Int) (x : Int) : ∀ n, (dfL A M x n).Pairwise fun u v => u.a ≠ v.a
  | 0 => List.Pairwise.nil
  | n + 1 => by
    unfold dfL
    split
    · exact df_pair A M x n
    · refine List.pairwise_append.2 ⟨df_pair A M x n, List.pairwise_singleton _ _, fun u hu v hv => ?_⟩
      obtain ⟨i, hi, _, rfl⟩ := (df_mem n).1 hu
      rw [List.mem_singleton.1 hv]
      show x + (i : Int) ≠ x + (n : Int)
      omega
theorem df_ok {kk p cc h : Nat} (C : Cf kk p cc h) (A M : List Int) : okL p h (dfL A M (bs p h 4 : Nat) h) (dfL A M (bs p h 4 : Nat) h).length := okL_iff.2 ⟨fun y hy => by
  obtain ⟨i, hi, _, rfl⟩ := (df_mem h).1 hy
  have h5 := bs_5 (p := p) (h := h)
  have h4 := bs_4 (p := p) (h := h)
  have h3 := bs_3 (p := p) (h := h)
  have h2 := bs_2 (p := p) (h := h)
  unfold okP
  show _
  simp only
  omega, df_pair A M _ h⟩
theorem df_s {kk p cc h : Nat} (C : Cf kk p cc h) {A M : List Int} (hM : U64s M) : W2s (dfL A M (bs p h 4 : Nat) h) := fun y hy => by
  obtain ⟨i, hi, _, rfl⟩ := (df_mem h).1 hy
  have h5 := bs5_b C
  have h4 := bs_5 (p := p) (h := h)
  have := C.h
  refine ⟨?_, hM.at i⟩
  show i64R ((bs p h 4 : Nat) + (i : Int))
  have h6 : bs p h 4 + h = bs p h 5 := by rw [bs_5, bs_4]
  unfold i64R
  omega
def homeM (p h : Nat) (A : List Int) : List C2 := withW (List.replicate (bs p h 5) z2) (bs p h 4) A h
theorem homeM_len (p h : Nat) (A : List Int) : (homeM p h A).length = bs p h 5 := by unfold homeM; rw [withW_len, List.length_replicate]
theorem homeM_at {p h : Nat} {A : List Int} (i : Nat) : (homeM p h A).getD i z2 = if bs p h 4 ≤ i ∧ i < bs p h 4 + h then ⟨A.getD (i - bs p h 4) 0, 0⟩ else z2 := by
  have h6 : bs p h 4 + h = bs p h 5 := by rw [bs_5, bs_4]
  unfold homeM
  rw [withW_at _ _ _ _ _ (by rw [List.length_replicate]; omega), rep_getD]; rfl
theorem lgA_home {kk p cc h q : Nat} (C : Cf kk p cc h) (hq : q < p) : lgA p h (q : Int) + LG p h ≤ bs p h 4 := by
  have h1 := lgq_b C hq
  have h2 : lgA p h (q : Int) = bs p h 3 + LG p h * q := rfl
  omega
theorem home_end {kk p cc h q : Nat} (C : Cf kk p cc h) (hq : q < p) {A M : List Int} {l : List W2} (hl : l = dfL A M (bs p h 4 : Nat) h) {w : List Int} {k : Nat} (hk : k < bs p h 5) :
    (wiped (lay (withW (homeM p h A) (lgA p h (q : Int)) w (LG p h)) l l.length) (lgA p h (q : Int)) (LG p h)).getD k z2 = ⟨if bs p h 4 ≤ k then M.getD (k - bs p h 4) 0 else 0, 0⟩ := by
  have hh := lgA_home C hq
  have h6 : bs p h 4 + h = bs p h 5 := by rw [bs_5, bs_4]
  have hXl : (lay (withW (homeM p h A) (lgA p h (q : Int)) w (LG p h)) l l.length).length = bs p h 5 := by rw [lay_len, withW_len, homeM_len]
  have hin : inM (withW (homeM p h A) (lgA p h (q : Int)) w (LG p h)).length l := by rw [withW_len, homeM_len, hl]; exact okL_in C (df_ok C A M)
  rw [wiped_at _ _ _ _ (by rw [hXl]; omega)]
  by_cases h1 : lgA p h (q : Int) ≤ k ∧ k < lgA p h (q : Int) + LG p h
  · rw [if_pos h1, if_neg (by omega)]; rfl
  rw [if_neg h1]
  by_cases h2 : bs p h 4 ≤ k
  · rw [if_pos h2]
    by_cases h3 : A.getD (k - bs p h 4) 0 = M.getD (k - bs p h 4) 0
    · rw [lay_not hin (fun y hy e => by
        rw [hl] at hy
        obtain ⟨i, hi, hne, rfl⟩ := (df_mem h).1 hy
        have : i = k - bs p h 4 := by simp only at e; omega
        exact hne (by rw [this]; exact h3)), withW_at _ _ _ _ _ (by rw [homeM_len]; omega), if_neg h1, homeM_at, if_pos (by omega), h3]
    · have hy : (⟨(bs p h 4 : Nat) + ((k - bs p h 4 : Nat) : Int), M.getD (k - bs p h 4) 0⟩ : W2) ∈ l := by
        rw [hl]; exact (df_mem h).2 ⟨k - bs p h 4, by omega, h3, rfl⟩
      have := lay_mem hin hy
      rw [show ((bs p h 4 : Nat) + ((k - bs p h 4 : Nat) : Int)).toNat = k by omega] at this
      exact this
  · rw [if_neg h2, lay_not hin (fun y hy e => by
      rw [hl] at hy
      obtain ⟨i, hi, hne, rfl⟩ := (df_mem h).1 hy
      simp only at e; omega), withW_at _ _ _ _ _ (by rw [homeM_len]; omega), if_neg h1, homeM_at, if_neg (by omega)]; rfl
end Go.Proofs.YtfhiplfagejfoaaDoor
