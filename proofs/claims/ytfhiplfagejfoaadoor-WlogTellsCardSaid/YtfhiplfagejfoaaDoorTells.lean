/- Own text: the log of writes, part Tells: contracts of the functions that the laws of the log call. -/
import Derived.Test.YtfhiplfagejfoaaDoorTlF
import Derived.Test.YtfhiplfagejfoaaDoorRows
import Derived.Test.YtfhiplfagejfoaaDoorCards
import Derived.Test.YtfhiplfagejfoaaDoorTie
set_option linter.unusedSimpArgs false
set_option linter.unusedVariables false
namespace Go.Proofs.YtfhiplfagejfoaaDoor
open Go.Proofs.YtfhiplfagejfoaaDoor.K Go.ChangeShapes Go.WideShapes Go.ChangeAt Go.RowKit 
set_option maxRecDepth 100000
set_option linter.unusedSimpArgs false
set_option linter.unusedVariables false
theorem own_s {kk p cc h : Nat} (C : Cf kk p cc h) {l : List W2} (hws : W2s l) (hok : okL p h l l.length) (hll : l.length ≤ 14) : U64s (if packE p h l = 0 then packW p h l else []) ∧ (if packE p h l = 0 then packW p h l else []).length ≤ 3000 := by
  split
  · rename_i hp
    refine ⟨packW_u C hws hok (by omega), ?_⟩
    rw [packW_l (packE_0 hp).1]
    have := LG_b C; omega
  · exact ⟨(fun x hx => by cases hx), by simp⟩
theorem slm_elim1 {B : OH} {H0 H : HL} {v : Value} {L : List Int} (h : SlM w1 1 B H0 H v L) (hL : 0 < L.length) : ∃ b cap rest, v = .slice (some ⟨b, 0, none⟩) L.length cap ∧ B b = none ∧ lk H0 b = none ∧ L.length ≤ cap ∧ lk H b = some (.cells (fl w1 L ++ rest) (cap * 1)) := by
  rcases h with ⟨h0, _⟩ | h
  · rw [h0] at hL; simp at hL
  · exact h
theorem wr_w1 {L : List Int} {rest : List Value} {i : Nat} (x : Int) (hi : i < L.length) : wr (fl w1 L ++ rest) (i * 1) [.int .u64 x] = some (fl w1 (L.set i x) ++ rest) := by
  have h1 := wr_fl w1_len L i 0 [.int .u64 x] 0 x hi (by simp) rfl
  rw [Nat.add_zero] at h1
  rw [wr_append_left _ _ _ _ (by rw [fl_length w1_len]; simp; omega), h1]; rfl
set_option maxHeartbeats 16000000 in
theorem lvTells {B : OH} {H : HL} {N : St} {vr vy vw vm3 vm : Value} {raw : List Q2} {ys : List W2} {ws : List Int} {mem : List Q3} {Mx : List C2} {a b c ko po co xat xx xp xi : Int} (hT : Tab B) (hN : good B H N) (hr : SlR q2 2 B H vr raw) (hrs : Q2s raw) (hy : SlW w2 2 B H vy ys) (hys : W2s ys) (hw : SlW w1 1 B H vw ws) (hwsu : U64s ws) (hm3 : SlR q3 3 B H vm3 mem) (hm3s : Q3s mem) (hmm : SlW c2 2 B H vm Mx) (hmms : C2s Mx) (ha : i64R a) (hb : i64R b) (hc : i64R c) (hx1 : i64R xat) (hx2 : u64R xx) (hx3 : i64R xp) (hx4 : i64R xi) : ∃ H' N', TlT B [.agg #[.int .i64 a, .int .i64 b, .int .i64 c], .agg #[.int .i64 ko, .int .i64 po, .int .i64 co], vr, vy, vw, .int .i64 xat, .int .u64 xx, .int .i64 xp, .int .i64 xi, vm3, .agg #[vm]] H N = some (.ret (.bool true), H', N') := by
  have hB := good_B hN
  have hR := good_rdB hN
  have hI := beqN hN.1.1
  have hG : ∃ H N, good B H N := ⟨H, N, hN⟩
  obtain ⟨kk, p, cc, h, ek, ep, ec, C, hp, hcc⟩ := conf_cf a b c
  have eC := fConf hG ha hb hc
  rw [ek, ep, ec] at eC
  have g0 : good B ((N.n 2, .cells [vm] 1) :: (N.n 1, .cells [.int .i64 ko, .int .i64 po, .int .i64 co] 3) :: (N.n 0, .cells [.int .i64 a, .int .i64 b, .int .i64 c] 3) :: H) (sh (sh (sh N))) := good_new (N := sh (sh N)) (good_new (N := sh N) (good_new hN))
  have f0 : Fr H ((N.n 2, .cells [vm] 1) :: (N.n 1, .cells [.int .i64 ko, .int .i64 po, .int .i64 co] 3) :: (N.n 0, .cells [.int .i64 a, .int .i64 b, .int .i64 c] 3) :: H) := fr_new (N := sh (sh N)) (good_new (N := sh N) (good_new hN)) (fr_new (N := sh N) (good_new hN) (fr_new hN Fr.refl 0) 0) 0
  have q1 : lk ((N.n 2, .cells [vm] 1) :: (N.n 1, .cells [.int .i64 ko, .int .i64 po, .int .i64 co] 3) :: (N.n 0, .cells [.int .i64 a, .int .i64 b, .int .i64 c] 3) :: H) (N.n 1) = some (.cells [.int .i64 ko, .int .i64 po, .int .i64 co] 3) := fr_new (N := sh (sh N)) (good_new (N := sh N) (good_new hN)) Fr.refl 0 _ _ lk_top
  have q2 : lk ((N.n 2, .cells [vm] 1) :: (N.n 1, .cells [.int .i64 ko, .int .i64 po, .int .i64 co] 3) :: (N.n 0, .cells [.int .i64 a, .int .i64 b, .int .i64 c] 3) :: H) (N.n 2) = some (.cells [vm] 1) := lk_top
  have q0 : lk ((N.n 2, .cells [vm] 1) :: (N.n 1, .cells [.int .i64 ko, .int .i64 po, .int .i64 co] 3) :: (N.n 0, .cells [.int .i64 a, .int .i64 b, .int .i64 c] 3) :: H) (N.n 0) = some (.cells [.int .i64 a, .int .i64 b, .int .i64 c] 3) := fr_new (N := sh (sh N)) (good_new (N := sh N) (good_new hN)) (fr_new (N := sh N) (good_new hN) Fr.refl 0) 0 _ _ lk_top
  obtain ⟨H1, N1, e1, g1, f1⟩ := fAwake hT g0
  have q0 := f1 _ _ q0
  have m0 := ne_N g1 q0
  have b_n := hB 0
  have rb_n := fun o n => rdB_none (o := o) (n := n) b_n
  have q1 := f1 _ _ q1
  have q2 := f1 _ _ q2
  have fH1 := f0.trans f1
  have am := all1_slw hmm
  have b_c := good_B g1 0
  have b_o := hB 1
  have b_m := hB 2
  have rb_c := fun o n => rdB_none (o := o) (n := n) b_c
  have rb_o := fun o n => rdB_none (o := o) (n := n) b_o
  have rb_m := fun o n => rdB_none (o := o) (n := n) b_m
  have m1 := ne_N g1 q1
  have m2 := ne_N g1 q2
  have hB1 := good_B g1
  have hR1 := good_rdB g1
  have hI1 := beqN g1.1.1
  unfold TlT
  have ePk := fpick hG xp (p : Int) hx3 (by have := C.p; omega)
  have kPk := pk_b (x := xp) (n := (p : Int)) (by have := C.p; omega)
  obtain ⟨q, hq⟩ : ∃ q : Nat, pk xp (p : Int) = (q : Int) := ⟨_, (Int.toNat_of_nonneg kPk.1).symm⟩
  rw [hq] at ePk kPk
  have hqp : q < p := by omega
  have hcase : ((co > 20 ∧ co ≤ 256 ∧ co > 20 ∧ co ≤ 256) ∨ (co > 20 ∧ ¬ co ≤ 256 ∧ po > 4 ∧ po ≤ 16) ∨ (¬ co > 20 ∧ ¬ co > 20 ∧ po > 4 ∧ po ≤ 16)) ∨ ((co > 20 ∧ ¬ co ≤ 256 ∧ po > 4 ∧ ¬ po ≤ 16) ∨ (co > 20 ∧ ¬ co ≤ 256 ∧ ¬ po > 4 ∧ ¬ po > 4) ∨ (¬ co > 20 ∧ ¬ co > 20 ∧ po > 4 ∧ ¬ po ≤ 16) ∨ (¬ co > 20 ∧ ¬ co > 20 ∧ ¬ po > 4 ∧ ¬ po > 4)) := by omega
  rcases hcase with hcase | hcase
  · rcases hcase with ⟨h1, h2, h3, h4⟩ | ⟨h1, h2, h3, h4⟩ | ⟨h1, h2, h3, h4⟩
    all_goals
      skip
      obtain ⟨HZ, hZ⟩ : ∃ HZ, HZ = (N1.n 0, .cells [.int .i64 (kk : Int), .int .i64 (p : Int), .int .i64 (cc : Int)] 3) :: upH H1 (N.n 1) (.cells [.int .i64 (kk : Int), .int .i64 (p : Int), .int .i64 (cc : Int)] 3) := ⟨_, rfl⟩
      have gU := good_up (k := .cells [.int .i64 (kk : Int), .int .i64 (p : Int), .int .i64 (cc : Int)] 3) g1 b_o q1
      have gZ : good B HZ (sh N1) := by rw [hZ]; exact good_new gU
      have fZ : Fr H HZ := by rw [hZ]; exact fr_new gU (fr_up fH1 (lk_N hN 1)) 0
      have q_c : lk HZ (N1.n 0) = some (.cells [.int .i64 (kk : Int), .int .i64 (p : Int), .int .i64 (cc : Int)] 3) := by rw [hZ]; exact lk_top
      have q_o : lk HZ (N.n 1) = some (.cells [.int .i64 (kk : Int), .int .i64 (p : Int), .int .i64 (cc : Int)] 3) := by rw [hZ]; exact fr_new gU Fr.refl 0 _ _ (by rw [lk_upH, beq_self_eq_true, cond_true])
      have q_m : lk HZ (N.n 2) = some (.cells [vm] 1) := by rw [hZ]; exact fr_new gU Fr.refl 0 _ _ (by rw [lk_upH, hI, show ((2 : Nat) == 1) = false from rfl, cond_false]; exact q2)
      obtain ⟨NZ, hNZ⟩ : ∃ NZ, NZ = sh N1 := ⟨_, rfl⟩
      rw [← hNZ] at gZ
      have hr := hr.mono fZ
      have hm3 := hm3.mono fZ
      have hy := hy.mono fZ
      have hw := hw.mono fZ
      have hmm := hmm.mono fZ
      obtain ⟨vl, H2, N2, l, e2, g2, f2, sl0, hok, hws, hll⟩ := fWrites C hr hrs gZ
      have q_c := f2 _ _ q_c
      have q_o := f2 _ _ q_o
      have q_m := f2 _ _ q_m
      have hr := hr.mono f2
      have hm3 := hm3.mono f2
      have hy := hy.mono f2
      have hw := hw.mono f2
      have hmm := hmm.mono f2
      have q_c2 := q_c
      have m_c2 := ne_N g2 q_c2
      have q_o2 := q_o
      have m_o2 := ne_N g2 q_o2
      have q_m2 := q_m
      have m_m2 := ne_N g2 q_m2
      have hB2 := good_B g2
      have hR2 := good_rdB g2
      have hI2 := beqN g2.1.1
      rw [hNZ, hZ] at e2
      have sl := sl0.rd w2_len
      obtain ⟨va, H3, N3, e3, g3, f3, sa0⟩ := rPack C g2 sl hws
      have q_c := f3 _ _ q_c
      have q_o := f3 _ _ q_o
      have q_m := f3 _ _ q_m
      have hr := hr.mono f3
      have hm3 := hm3.mono f3
      have hy := hy.mono f3
      have hw := hw.mono f3
      have hmm := hmm.mono f3
      have sl := sl.mono f3
      have q_c3 := q_c
      have m_c3 := ne_N g3 q_c3
      have q_o3 := q_o
      have m_o3 := ne_N g3 q_o3
      have q_m3 := q_m
      have m_m3 := ne_N g3 q_m3
      have hB3 := good_B g3
      have hR3 := good_rdB g3
      have hI3 := beqN g3.1.1
      have hown := own_s C hws hok hll
      have sa := sa0.wh w1_len
      clear sa0
      generalize (if packE p h l = 0 then packW p h l else []) = own at *
      obtain ⟨hou, hol⟩ := hown
      obtain ⟨ao, co_, hva, hco_, _⟩ := id sa
      obtain ⟨vt, H4, N4, e4, g4, f4, _, st0, _⟩ := app_many (bytes := 8) (L := ([] : List Int)) w1_len (by omega) g3 Fr.refl (.inl ⟨rfl, rfl⟩ : SlM w1 1 B H3 H3 (.slice none 0 0) []) sa (all1_w1 _) (by simp only [List.length_nil]; omega) (by simp only [List.length_nil]; omega)
      have q_c4 := f4 _ _ q_c
      have m_c4 := ne_N g4 q_c4
      have q_o4 := f4 _ _ q_o
      have m_o4 := ne_N g4 q_o4
      have q_m4 := f4 _ _ q_m
      have m_m4 := ne_N g4 q_m4
      have hB4 := good_B g4
      have hR4 := good_rdB g4
      rw [List.nil_append] at st0
      rw [hva] at e4
      have hlen := st0.len
      by_cases hz : own.length = 0
      · obtain ⟨HT, hT4⟩ : ∃ HT, HT = H4 := ⟨_, rfl⟩
        have gT : good B HT N4 := by rw [hT4]; exact g4
        have fT : Fr H3 HT := by rw [hT4]; exact f4
        obtain ⟨trn, htr⟩ : ∃ trn, trn = own := ⟨_, rfl⟩
        have st : SlR w1 1 B HT vt trn := by rw [hT4, htr]; exact st0.rd w1_len
        have htu : U64s trn := by rw [htr]; exact hou
        have htl : trn.length ≤ 3000 := by rw [htr]; exact hol
        have z1 : ¬ (own.length : Int) > 0 := by omega
        have hy := hy.mono fT
        have hw := hw.mono fT
        have hm3 := hm3.mono fT
        have hmm := hmm.mono fT
        have sl := sl.mono fT
        have sa := sa.mono fT
        have q_c := fT _ _ q_c
        have q_cT := q_c
        have m_cT := ne_N gT q_c
        have q_o := fT _ _ q_o
        have q_oT := q_o
        have m_oT := ne_N gT q_o
        have q_m := fT _ _ q_m
        have q_mT := q_m
        have m_mT := ne_N gT q_m
        have hBT := good_B gT
        have hRT := good_rdB gT
        obtain ⟨vA, H5, N5, A, e5, g5, f5, sA, hAl, hAs⟩ := fMemory C hp gT hm3 hm3s
        have q_c := f5 _ _ q_c
        have q_o := f5 _ _ q_o
        have q_m := f5 _ _ q_m
        have hy := hy.mono f5
        have hw := hw.mono f5
        have hm3 := hm3.mono f5
        have hmm := hmm.mono f5
        have sl := sl.mono f5
        have sa := sa.mono f5
        have st := st.mono f5
        have q_c5 := q_c
        have m_c5 := ne_N g5 q_c5
        have q_o5 := q_o
        have m_o5 := ne_N g5 q_o5
        have q_m5 := q_m
        have m_m5 := ne_N g5 q_m5
        have hB5 := good_B g5
        have hR5 := good_rdB g5
        have hI5 := beqN g5.1.1
        rw [hT4] at e5
        have sA := sA.wh c2_len
        have g6 : good B ((N5.n 0, .cells [vA] 1) :: H5) (sh N5) := good_new (N := N5) g5
        have f6 : Fr H5 ((N5.n 0, .cells [vA] 1) :: H5) := fr_new (N := N5) g5 Fr.refl 0
        have q_c := f6 _ _ q_c
        have q_o := f6 _ _ q_o
        have q_m := f6 _ _ q_m
        have hy := hy.mono f6
        have hw := hw.mono f6
        have hm3 := hm3.mono f6
        have hmm := hmm.mono f6
        have sl := sl.mono f6
        have sa := sa.mono f6
        have st := st.mono f6
        have sA := sA.mono f6
        have q_a : lk ((N5.n 0, .cells [vA] 1) :: H5) (N5.n 0) = some (.cells [vA] 1) := lk_top
        have b_a : B (N5.n 0) = none := good_B g5 0
        have rb_a := fun o n => rdB_none (o := o) (n := n) b_a
        have g7 : good B ((N5.n 1, .cells [.int .i64 (kk : Int), .int .i64 (p : Int), .int .i64 (cc : Int), .int .i64 (kk : Int), .int .i64 (p : Int), .int .i64 (cc : Int)] 6) :: (N5.n 0, .cells [vA] 1) :: H5) (sh (sh N5)) := good_new (N := (sh N5)) g6
        have f7 : Fr ((N5.n 0, .cells [vA] 1) :: H5) ((N5.n 1, .cells [.int .i64 (kk : Int), .int .i64 (p : Int), .int .i64 (cc : Int), .int .i64 (kk : Int), .int .i64 (p : Int), .int .i64 (cc : Int)] 6) :: (N5.n 0, .cells [vA] 1) :: H5) := fr_new (N := (sh N5)) g6 Fr.refl 0
        have q_c := f7 _ _ q_c
        have q_o := f7 _ _ q_o
        have q_m := f7 _ _ q_m
        have q_a := f7 _ _ q_a
        have hy := hy.mono f7
        have hw := hw.mono f7
        have hm3 := hm3.mono f7
        have hmm := hmm.mono f7
        have sl := sl.mono f7
        have sa := sa.mono f7
        have st := st.mono f7
        have sA := sA.mono f7
        have q_f : lk ((N5.n 1, .cells [.int .i64 (kk : Int), .int .i64 (p : Int), .int .i64 (cc : Int), .int .i64 (kk : Int), .int .i64 (p : Int), .int .i64 (cc : Int)] 6) :: (N5.n 0, .cells [vA] 1) :: H5) (N5.n 1) = some (.cells [.int .i64 (kk : Int), .int .i64 (p : Int), .int .i64 (cc : Int), .int .i64 (kk : Int), .int .i64 (p : Int), .int .i64 (cc : Int)] 6) := lk_top
        have b_f : B (N5.n 1) = none := good_B g5 1
        have rb_f := fun o n => rdB_none (o := o) (n := n) b_f
        have sd : SlR q3 3 B ((N5.n 1, .cells [.int .i64 (kk : Int), .int .i64 (p : Int), .int .i64 (cc : Int), .int .i64 (kk : Int), .int .i64 (p : Int), .int .i64 (cc : Int)] 6) :: (N5.n 0, .cells [vA] 1) :: H5) (.slice (some ⟨N5.n 1, 0, none⟩) 2 2) [⟨(kk : Int), (p : Int), (cc : Int)⟩, ⟨(kk : Int), (p : Int), (cc : Int)⟩] := (slN_new (B := B) (N := (sh N5)) (f := q3) (sz := 3) g6 [⟨(kk : Int), (p : Int), (cc : Int)⟩, ⟨(kk : Int), (p : Int), (cc : Int)⟩] (cs := [.int .i64 (kk : Int), .int .i64 (p : Int), .int .i64 (cc : Int), .int .i64 (kk : Int), .int .i64 (p : Int), .int .i64 (cc : Int)]) (n := 2) (m := 6) rfl rfl rfl).rd q3_len
        have T : TD B ((N5.n 1, .cells [.int .i64 (kk : Int), .int .i64 (p : Int), .int .i64 (cc : Int), .int .i64 (kk : Int), .int .i64 (p : Int), .int .i64 (cc : Int)] 6) :: (N5.n 0, .cells [vA] 1) :: H5) kk p cc h (N1.n 0) q (N5.n 0) (N.n 2) vl va vt vy vw vA vm l own trn ws ys A Mx := ⟨C, hqp, q_c, b_c, sl, hws, sa.rd w1_len, hou, by omega, st, htu, by omega, hy, hys, hw, hwsu, q_a, b_a, sA, hAl, hAs, q_m, b_m, hmm, hmms⟩
        have main : ∀ (ts' : List Value), KTt (N1.n 0) vl va vt q (N5.n 0) (N.n 2) vy vw xat xx xp xi (.slice (some ⟨N5.n 1, 0, none⟩) 2 2) 0 ts' → ∀ F, 20000 ≤ F → Ok (exec B { f := GlT B } F (LC.loop lbTd) ⟨ts', ((N5.n 1, .cells [.int .i64 (kk : Int), .int .i64 (p : Int), .int .i64 (cc : Int), .int .i64 (kk : Int), .int .i64 (p : Int), .int .i64 (cc : Int)] 6) :: (N5.n 0, .cells [vA] 1) :: H5), (sh (sh N5))⟩) (fun r s => r = .exit 0 ∧ ∃ i, KTt (N1.n 0) vl va vt q (N5.n 0) (N.n 2) vy vw xat xx xp xi (.slice (some ⟨N5.n 1, 0, none⟩) 2 2) i s.t) := fun ts' kp' F hF =>
          loopTd T hx1 hx2 hx3 hx4 sd rfl hT g7 kp' (by simp only [List.length_cons, List.length_nil]; omega)
        have aA := all1_slw sA
        simp -implicitDefEqProofs (maxSteps := 10000000) (disch := omega) only [TlT, LlT, GlT_law16Conf, Vlaw16Conf_eq, GlT_lM, GlT_lH, GlT_lW, GlT_lA, GlT_law16pick, Vlaw16pick_eq, GlT_ref03Same, GlT_ref05Writes, GlT_ref10Words, GlT_rL, GlT_rP, GlT_ref16Place, Vref16Place_eq, GlT_ref16Spot, Vref16Spot_eq, GlT_rU, GlT_rW, GlT_gL, GlT_gP, GlT_wlogPlace, VwlogPlace_eq, GlT_wlogSpot, VwlogSpot_eq, GlT_gU, GlT_gW, hB, hR, hI, e1, eC, ePk, am, q0, m0, b_n, rb_n, q1, q2, m1, m2, hB1, hR1, hI1, h1, h2, h3, h4, hva, b_c, rb_c, b_o, rb_o, b_m, rb_m, q_c2, m_c2, q_o2, m_o2, q_m2, m_m2, e2, hB2, hR2, hI2, q_c3, m_c3, q_o3, m_o3, q_m3, m_m3, e3, hB3, hR3, hI3, q_c4, m_c4, q_o4, m_o4, q_m4, m_m4, e4, hB4, hR4, q_cT, m_cT, q_oT, m_oT, q_mT, m_mT, hBT, hRT, q_c5, m_c5, q_o5, m_o5, q_m5, m_m5, e5, hB5, hR5, hI5, b_a, rb_a, b_f, rb_f, aA, hlen, z1, bt, bf, all1, ress, res1, retV, Value.cells, reduceIte, reduceCtorEq, Int.reduceLT, Int.reduceLE, Int.reduceToNat, Int.reduceAdd, Int.reduceSub, Int.reduceMul, Int.reduceNeg, Nat.reduceMul, Nat.reduceAdd, Nat.reduceSub, Nat.reduceBEq, Nat.reduceEqDiff, Nat.reduceLT, Nat.reduceLeDiff, Int.reduceBEq, Int.reduceEq, Nat.reducePow, Int.reducePow, Int.reduceGT, Int.reduceGE, Int.reduceBNe, ev1, ev2, ev3, ev4]
        generalize hX : exec B _ _ (LC.loop _) _ = o
        obtain ⟨y, ⟨ts, H9, N9⟩, rfl, rfl, i, kp⟩ := (show Ok o _ by rw [← hX]; exact main _ ⟨rfl, rfl, rfl, rfl, (by exact hva.symm), rfl, rfl, rfl, rfl, rfl, rfl, rfl, rfl, rfl, rfl, rfl, rfl, rfl⟩ _ (by omega))
        simp only at kp
        simp -implicitDefEqProofs (maxSteps := 10000000) (disch := omega) only [TlT, LlT, GlT_law16Conf, Vlaw16Conf_eq, GlT_lM, GlT_lH, GlT_lW, GlT_lA, GlT_law16pick, Vlaw16pick_eq, GlT_ref03Same, GlT_ref05Writes, GlT_ref10Words, GlT_rL, GlT_rP, GlT_ref16Place, Vref16Place_eq, GlT_ref16Spot, Vref16Spot_eq, GlT_rU, GlT_rW, GlT_gL, GlT_gP, GlT_wlogPlace, VwlogPlace_eq, GlT_wlogSpot, VwlogSpot_eq, GlT_gU, GlT_gW, hB, hR, hI, kp.l, kp.t23, kp.t24, kp.t25, kp.t26, kp.t28, kp.t29, kp.t30, kp.t21, kp.t3, kp.t4, kp.t5, kp.t6, kp.t7, kp.t8, kp.t123, kp.t124, kp.t125, bt, bf, all1, ress, res1, retV, Value.cells, reduceIte, reduceCtorEq, Int.reduceLT, Int.reduceLE, Int.reduceToNat, Int.reduceAdd, Int.reduceSub, Int.reduceMul, Int.reduceNeg, Nat.reduceMul, Nat.reduceAdd, Nat.reduceSub, Nat.reduceBEq, Nat.reduceEqDiff, Nat.reduceLT, Nat.reduceLeDiff, Int.reduceBEq, Int.reduceEq, Nat.reducePow, Int.reducePow, Int.reduceGT, Int.reduceGE, Int.reduceBNe, newsV_s, ev1, ev2, ev3, ev4]
        exact ⟨_, _, rfl⟩
      · obtain ⟨btk, capt, restt, rfl, bbt, h0t, hlet, hlkt⟩ := slm_elim1 st0 (by omega)
        have n_c : (N1.n 0 == btk) = false := eqb fun e => by rw [← e, q_c3] at h0t; cases h0t
        have n_o : (N.n 1 == btk) = false := eqb fun e => by rw [← e, q_o3] at h0t; cases h0t
        have n_m : (N.n 2 == btk) = false := eqb fun e => by rw [← e, q_m3] at h0t; cases h0t
        have ePt := fpick hG xat (own.length : Int) hx1 (by omega)
        have kPt := pk_b (x := xat) (n := (own.length : Int)) (by omega)
        obtain ⟨j, hj⟩ : ∃ j : Nat, pk xat (own.length : Int) = (j : Int) := ⟨_, (Int.toNat_of_nonneg kPt.1).symm⟩
        rw [hj] at ePt kPt
        have j0 : (0 : Int) ≤ (j : Int) := by omega
        have jl : j < own.length := by omega
        have z1 : (own.length : Int) > 0 := by omega
        have hwr := wr_w1 (rest := restt) xx jl
        obtain ⟨trn, htr⟩ : ∃ trn, trn = own.set j xx := ⟨_, rfl⟩
        rw [← htr] at hwr
        have gU := good_up (k := .cells (fl w1 trn ++ restt) (capt * 1)) g4 bbt hlkt
        obtain ⟨HT, hT4⟩ : ∃ HT, HT = upH H4 btk (.cells (fl w1 trn ++ restt) (capt * 1)) := ⟨_, rfl⟩
        have gT : good B HT N4 := by rw [hT4]; exact gU
        have fT : Fr H3 HT := by rw [hT4]; exact fr_up f4 h0t
        have htl0 : trn.length = own.length := by rw [htr, List.length_set]
        have st : SlR w1 1 B HT (.slice (some ⟨btk, 0, none⟩) own.length capt) trn := SlM.rd (H0 := H3) w1_len (.inr ⟨btk, capt, restt, by rw [htl0], bbt, h0t, by rw [htl0]; exact hlet, by rw [hT4, lk_upH, beq_self_eq_true, cond_true]⟩)
        have htl : trn.length ≤ 3000 := by omega
        have htu : U64s trn := fun x hx => by
          rw [htr] at hx
          rcases List.mem_or_eq_of_mem_set hx with h' | h'
          · exact hou x h'
          · rw [h']; exact hx2
        have hy := hy.mono fT
        have hw := hw.mono fT
        have hm3 := hm3.mono fT
        have hmm := hmm.mono fT
        have sl := sl.mono fT
        have sa := sa.mono fT
        have q_c := fT _ _ q_c
        have q_cT := q_c
        have m_cT := ne_N gT q_c
        have q_o := fT _ _ q_o
        have q_oT := q_o
        have m_oT := ne_N gT q_o
        have q_m := fT _ _ q_m
        have q_mT := q_m
        have m_mT := ne_N gT q_m
        have hBT := good_B gT
        have hRT := good_rdB gT
        obtain ⟨vA, H5, N5, A, e5, g5, f5, sA, hAl, hAs⟩ := fMemory C hp gT hm3 hm3s
        have q_c := f5 _ _ q_c
        have q_o := f5 _ _ q_o
        have q_m := f5 _ _ q_m
        have hy := hy.mono f5
        have hw := hw.mono f5
        have hm3 := hm3.mono f5
        have hmm := hmm.mono f5
        have sl := sl.mono f5
        have sa := sa.mono f5
        have st := st.mono f5
        have q_c5 := q_c
        have m_c5 := ne_N g5 q_c5
        have q_o5 := q_o
        have m_o5 := ne_N g5 q_o5
        have q_m5 := q_m
        have m_m5 := ne_N g5 q_m5
        have hB5 := good_B g5
        have hR5 := good_rdB g5
        have hI5 := beqN g5.1.1
        rw [hT4] at e5
        have sA := sA.wh c2_len
        have g6 : good B ((N5.n 0, .cells [vA] 1) :: H5) (sh N5) := good_new (N := N5) g5
        have f6 : Fr H5 ((N5.n 0, .cells [vA] 1) :: H5) := fr_new (N := N5) g5 Fr.refl 0
        have q_c := f6 _ _ q_c
        have q_o := f6 _ _ q_o
        have q_m := f6 _ _ q_m
        have hy := hy.mono f6
        have hw := hw.mono f6
        have hm3 := hm3.mono f6
        have hmm := hmm.mono f6
        have sl := sl.mono f6
        have sa := sa.mono f6
        have st := st.mono f6
        have sA := sA.mono f6
        have q_a : lk ((N5.n 0, .cells [vA] 1) :: H5) (N5.n 0) = some (.cells [vA] 1) := lk_top
        have b_a : B (N5.n 0) = none := good_B g5 0
        have rb_a := fun o n => rdB_none (o := o) (n := n) b_a
        have g7 : good B ((N5.n 1, .cells [.int .i64 (kk : Int), .int .i64 (p : Int), .int .i64 (cc : Int), .int .i64 (kk : Int), .int .i64 (p : Int), .int .i64 (cc : Int)] 6) :: (N5.n 0, .cells [vA] 1) :: H5) (sh (sh N5)) := good_new (N := (sh N5)) g6
        have f7 : Fr ((N5.n 0, .cells [vA] 1) :: H5) ((N5.n 1, .cells [.int .i64 (kk : Int), .int .i64 (p : Int), .int .i64 (cc : Int), .int .i64 (kk : Int), .int .i64 (p : Int), .int .i64 (cc : Int)] 6) :: (N5.n 0, .cells [vA] 1) :: H5) := fr_new (N := (sh N5)) g6 Fr.refl 0
        have q_c := f7 _ _ q_c
        have q_o := f7 _ _ q_o
        have q_m := f7 _ _ q_m
        have q_a := f7 _ _ q_a
        have hy := hy.mono f7
        have hw := hw.mono f7
        have hm3 := hm3.mono f7
        have hmm := hmm.mono f7
        have sl := sl.mono f7
        have sa := sa.mono f7
        have st := st.mono f7
        have sA := sA.mono f7
        have q_f : lk ((N5.n 1, .cells [.int .i64 (kk : Int), .int .i64 (p : Int), .int .i64 (cc : Int), .int .i64 (kk : Int), .int .i64 (p : Int), .int .i64 (cc : Int)] 6) :: (N5.n 0, .cells [vA] 1) :: H5) (N5.n 1) = some (.cells [.int .i64 (kk : Int), .int .i64 (p : Int), .int .i64 (cc : Int), .int .i64 (kk : Int), .int .i64 (p : Int), .int .i64 (cc : Int)] 6) := lk_top
        have b_f : B (N5.n 1) = none := good_B g5 1
        have rb_f := fun o n => rdB_none (o := o) (n := n) b_f
        have sd : SlR q3 3 B ((N5.n 1, .cells [.int .i64 (kk : Int), .int .i64 (p : Int), .int .i64 (cc : Int), .int .i64 (kk : Int), .int .i64 (p : Int), .int .i64 (cc : Int)] 6) :: (N5.n 0, .cells [vA] 1) :: H5) (.slice (some ⟨N5.n 1, 0, none⟩) 2 2) [⟨(kk : Int), (p : Int), (cc : Int)⟩, ⟨(kk : Int), (p : Int), (cc : Int)⟩] := (slN_new (B := B) (N := (sh N5)) (f := q3) (sz := 3) g6 [⟨(kk : Int), (p : Int), (cc : Int)⟩, ⟨(kk : Int), (p : Int), (cc : Int)⟩] (cs := [.int .i64 (kk : Int), .int .i64 (p : Int), .int .i64 (cc : Int), .int .i64 (kk : Int), .int .i64 (p : Int), .int .i64 (cc : Int)]) (n := 2) (m := 6) rfl rfl rfl).rd q3_len
        have T : TD B ((N5.n 1, .cells [.int .i64 (kk : Int), .int .i64 (p : Int), .int .i64 (cc : Int), .int .i64 (kk : Int), .int .i64 (p : Int), .int .i64 (cc : Int)] 6) :: (N5.n 0, .cells [vA] 1) :: H5) kk p cc h (N1.n 0) q (N5.n 0) (N.n 2) vl va (.slice (some ⟨btk, 0, none⟩) own.length capt) vy vw vA vm l own trn ws ys A Mx := ⟨C, hqp, q_c, b_c, sl, hws, sa.rd w1_len, hou, by omega, st, htu, by omega, hy, hys, hw, hwsu, q_a, b_a, sA, hAl, hAs, q_m, b_m, hmm, hmms⟩
        have main : ∀ (ts' : List Value), KTt (N1.n 0) vl va (.slice (some ⟨btk, 0, none⟩) own.length capt) q (N5.n 0) (N.n 2) vy vw xat xx xp xi (.slice (some ⟨N5.n 1, 0, none⟩) 2 2) 0 ts' → ∀ F, 20000 ≤ F → Ok (exec B { f := GlT B } F (LC.loop lbTd) ⟨ts', ((N5.n 1, .cells [.int .i64 (kk : Int), .int .i64 (p : Int), .int .i64 (cc : Int), .int .i64 (kk : Int), .int .i64 (p : Int), .int .i64 (cc : Int)] 6) :: (N5.n 0, .cells [vA] 1) :: H5), (sh (sh N5))⟩) (fun r s => r = .exit 0 ∧ ∃ i, KTt (N1.n 0) vl va (.slice (some ⟨btk, 0, none⟩) own.length capt) q (N5.n 0) (N.n 2) vy vw xat xx xp xi (.slice (some ⟨N5.n 1, 0, none⟩) 2 2) i s.t) := fun ts' kp' F hF =>
          loopTd T hx1 hx2 hx3 hx4 sd rfl hT g7 kp' (by simp only [List.length_cons, List.length_nil]; omega)
        have aA := all1_slw sA
        simp -implicitDefEqProofs (maxSteps := 10000000) (disch := omega) only [TlT, LlT, GlT_law16Conf, Vlaw16Conf_eq, GlT_lM, GlT_lH, GlT_lW, GlT_lA, GlT_law16pick, Vlaw16pick_eq, GlT_ref03Same, GlT_ref05Writes, GlT_ref10Words, GlT_rL, GlT_rP, GlT_ref16Place, Vref16Place_eq, GlT_ref16Spot, Vref16Spot_eq, GlT_rU, GlT_rW, GlT_gL, GlT_gP, GlT_wlogPlace, VwlogPlace_eq, GlT_wlogSpot, VwlogSpot_eq, GlT_gU, GlT_gW, hB, hR, hI, e1, eC, ePk, am, q0, m0, b_n, rb_n, q1, q2, m1, m2, hB1, hR1, hI1, h1, h2, h3, h4, hva, b_c, rb_c, b_o, rb_o, b_m, rb_m, q_c2, m_c2, q_o2, m_o2, q_m2, m_m2, e2, hB2, hR2, hI2, q_c3, m_c3, q_o3, m_o3, q_m3, m_m3, e3, hB3, hR3, hI3, q_c4, m_c4, q_o4, m_o4, q_m4, m_m4, e4, hB4, hR4, q_cT, m_cT, q_oT, m_oT, q_mT, m_mT, hBT, hRT, q_c5, m_c5, q_o5, m_o5, q_m5, m_m5, e5, hB5, hR5, hI5, b_a, rb_a, b_f, rb_f, aA, n_c, n_o, n_m, hlen, z1, ePt, j0, jl, hwr, hlkt, bbt, bt, bf, all1, ress, res1, retV, Value.cells, reduceIte, reduceCtorEq, Int.reduceLT, Int.reduceLE, Int.reduceToNat, Int.reduceAdd, Int.reduceSub, Int.reduceMul, Int.reduceNeg, Nat.reduceMul, Nat.reduceAdd, Nat.reduceSub, Nat.reduceBEq, Nat.reduceEqDiff, Nat.reduceLT, Nat.reduceLeDiff, Int.reduceBEq, Int.reduceEq, Nat.reducePow, Int.reducePow, Int.reduceGT, Int.reduceGE, Int.reduceBNe, ev1, ev2, ev3, ev4]
        generalize hX : exec B _ _ (LC.loop _) _ = o
        obtain ⟨y, ⟨ts, H9, N9⟩, rfl, rfl, i, kp⟩ := (show Ok o _ by rw [← hX]; exact main _ ⟨rfl, rfl, rfl, rfl, (by exact hva.symm), rfl, rfl, rfl, rfl, rfl, rfl, rfl, rfl, rfl, rfl, rfl, rfl, rfl⟩ _ (by omega))
        simp only at kp
        simp -implicitDefEqProofs (maxSteps := 10000000) (disch := omega) only [TlT, LlT, GlT_law16Conf, Vlaw16Conf_eq, GlT_lM, GlT_lH, GlT_lW, GlT_lA, GlT_law16pick, Vlaw16pick_eq, GlT_ref03Same, GlT_ref05Writes, GlT_ref10Words, GlT_rL, GlT_rP, GlT_ref16Place, Vref16Place_eq, GlT_ref16Spot, Vref16Spot_eq, GlT_rU, GlT_rW, GlT_gL, GlT_gP, GlT_wlogPlace, VwlogPlace_eq, GlT_wlogSpot, VwlogSpot_eq, GlT_gU, GlT_gW, hB, hR, hI, kp.l, kp.t23, kp.t24, kp.t25, kp.t26, kp.t28, kp.t29, kp.t30, kp.t21, kp.t3, kp.t4, kp.t5, kp.t6, kp.t7, kp.t8, kp.t123, kp.t124, kp.t125, bt, bf, all1, ress, res1, retV, Value.cells, reduceIte, reduceCtorEq, Int.reduceLT, Int.reduceLE, Int.reduceToNat, Int.reduceAdd, Int.reduceSub, Int.reduceMul, Int.reduceNeg, Nat.reduceMul, Nat.reduceAdd, Nat.reduceSub, Nat.reduceBEq, Nat.reduceEqDiff, Nat.reduceLT, Nat.reduceLeDiff, Int.reduceBEq, Int.reduceEq, Nat.reducePow, Int.reducePow, Int.reduceGT, Int.reduceGE, Int.reduceBNe, newsV_s, ev1, ev2, ev3, ev4]
        exact ⟨_, _, rfl⟩
  · rcases hcase with ⟨h1, h2, h3, h4⟩ | ⟨h1, h2, h3, h4⟩ | ⟨h1, h2, h3, h4⟩ | ⟨h1, h2, h3, h4⟩
    all_goals
      skip
      obtain ⟨HZ, hZ⟩ : ∃ HZ, HZ = (N1.n 0, .cells [.int .i64 (kk : Int), .int .i64 (p : Int), .int .i64 (cc : Int)] 3) :: H1 := ⟨_, rfl⟩
      have gZ : good B HZ (sh N1) := by rw [hZ]; exact good_new g1
      have fZ : Fr H HZ := by rw [hZ]; exact fr_new g1 fH1 0
      have q_c : lk HZ (N1.n 0) = some (.cells [.int .i64 (kk : Int), .int .i64 (p : Int), .int .i64 (cc : Int)] 3) := by rw [hZ]; exact lk_top
      have q_o : lk HZ (N.n 1) = some (.cells [.int .i64 ko, .int .i64 po, .int .i64 co] 3) := by rw [hZ]; exact fr_new g1 Fr.refl 0 _ _ q1
      have q_m : lk HZ (N.n 2) = some (.cells [vm] 1) := by rw [hZ]; exact fr_new g1 Fr.refl 0 _ _ q2
      obtain ⟨NZ, hNZ⟩ : ∃ NZ, NZ = sh N1 := ⟨_, rfl⟩
      rw [← hNZ] at gZ
      have hr := hr.mono fZ
      have hm3 := hm3.mono fZ
      have hy := hy.mono fZ
      have hw := hw.mono fZ
      have hmm := hmm.mono fZ
      obtain ⟨vl, H2, N2, l, e2, g2, f2, sl0, hok, hws, hll⟩ := fWrites C hr hrs gZ
      have q_c := f2 _ _ q_c
      have q_o := f2 _ _ q_o
      have q_m := f2 _ _ q_m
      have hr := hr.mono f2
      have hm3 := hm3.mono f2
      have hy := hy.mono f2
      have hw := hw.mono f2
      have hmm := hmm.mono f2
      have q_c2 := q_c
      have m_c2 := ne_N g2 q_c2
      have q_o2 := q_o
      have m_o2 := ne_N g2 q_o2
      have q_m2 := q_m
      have m_m2 := ne_N g2 q_m2
      have hB2 := good_B g2
      have hR2 := good_rdB g2
      have hI2 := beqN g2.1.1
      rw [hNZ, hZ] at e2
      have sl := sl0.rd w2_len
      obtain ⟨va, H3, N3, e3, g3, f3, sa0⟩ := rPack C g2 sl hws
      have q_c := f3 _ _ q_c
      have q_o := f3 _ _ q_o
      have q_m := f3 _ _ q_m
      have hr := hr.mono f3
      have hm3 := hm3.mono f3
      have hy := hy.mono f3
      have hw := hw.mono f3
      have hmm := hmm.mono f3
      have sl := sl.mono f3
      have q_c3 := q_c
      have m_c3 := ne_N g3 q_c3
      have q_o3 := q_o
      have m_o3 := ne_N g3 q_o3
      have q_m3 := q_m
      have m_m3 := ne_N g3 q_m3
      have hB3 := good_B g3
      have hR3 := good_rdB g3
      have hI3 := beqN g3.1.1
      have hown := own_s C hws hok hll
      have sa := sa0.wh w1_len
      clear sa0
      generalize (if packE p h l = 0 then packW p h l else []) = own at *
      obtain ⟨hou, hol⟩ := hown
      obtain ⟨ao, co_, hva, hco_, _⟩ := id sa
      obtain ⟨vt, H4, N4, e4, g4, f4, _, st0, _⟩ := app_many (bytes := 8) (L := ([] : List Int)) w1_len (by omega) g3 Fr.refl (.inl ⟨rfl, rfl⟩ : SlM w1 1 B H3 H3 (.slice none 0 0) []) sa (all1_w1 _) (by simp only [List.length_nil]; omega) (by simp only [List.length_nil]; omega)
      have q_c4 := f4 _ _ q_c
      have m_c4 := ne_N g4 q_c4
      have q_o4 := f4 _ _ q_o
      have m_o4 := ne_N g4 q_o4
      have q_m4 := f4 _ _ q_m
      have m_m4 := ne_N g4 q_m4
      have hB4 := good_B g4
      have hR4 := good_rdB g4
      rw [List.nil_append] at st0
      rw [hva] at e4
      have hlen := st0.len
      by_cases hz : own.length = 0
      · obtain ⟨HT, hT4⟩ : ∃ HT, HT = H4 := ⟨_, rfl⟩
        have gT : good B HT N4 := by rw [hT4]; exact g4
        have fT : Fr H3 HT := by rw [hT4]; exact f4
        obtain ⟨trn, htr⟩ : ∃ trn, trn = own := ⟨_, rfl⟩
        have st : SlR w1 1 B HT vt trn := by rw [hT4, htr]; exact st0.rd w1_len
        have htu : U64s trn := by rw [htr]; exact hou
        have htl : trn.length ≤ 3000 := by rw [htr]; exact hol
        have z1 : ¬ (own.length : Int) > 0 := by omega
        have hy := hy.mono fT
        have hw := hw.mono fT
        have hm3 := hm3.mono fT
        have hmm := hmm.mono fT
        have sl := sl.mono fT
        have sa := sa.mono fT
        have q_c := fT _ _ q_c
        have q_cT := q_c
        have m_cT := ne_N gT q_c
        have q_o := fT _ _ q_o
        have q_oT := q_o
        have m_oT := ne_N gT q_o
        have q_m := fT _ _ q_m
        have q_mT := q_m
        have m_mT := ne_N gT q_m
        have hBT := good_B gT
        have hRT := good_rdB gT
        obtain ⟨vA, H5, N5, A, e5, g5, f5, sA, hAl, hAs⟩ := fMemory C hp gT hm3 hm3s
        have q_c := f5 _ _ q_c
        have q_o := f5 _ _ q_o
        have q_m := f5 _ _ q_m
        have hy := hy.mono f5
        have hw := hw.mono f5
        have hm3 := hm3.mono f5
        have hmm := hmm.mono f5
        have sl := sl.mono f5
        have sa := sa.mono f5
        have st := st.mono f5
        have q_c5 := q_c
        have m_c5 := ne_N g5 q_c5
        have q_o5 := q_o
        have m_o5 := ne_N g5 q_o5
        have q_m5 := q_m
        have m_m5 := ne_N g5 q_m5
        have hB5 := good_B g5
        have hR5 := good_rdB g5
        have hI5 := beqN g5.1.1
        rw [hT4] at e5
        have sA := sA.wh c2_len
        have g6 : good B ((N5.n 0, .cells [vA] 1) :: H5) (sh N5) := good_new (N := N5) g5
        have f6 : Fr H5 ((N5.n 0, .cells [vA] 1) :: H5) := fr_new (N := N5) g5 Fr.refl 0
        have q_c := f6 _ _ q_c
        have q_o := f6 _ _ q_o
        have q_m := f6 _ _ q_m
        have hy := hy.mono f6
        have hw := hw.mono f6
        have hm3 := hm3.mono f6
        have hmm := hmm.mono f6
        have sl := sl.mono f6
        have sa := sa.mono f6
        have st := st.mono f6
        have sA := sA.mono f6
        have q_a : lk ((N5.n 0, .cells [vA] 1) :: H5) (N5.n 0) = some (.cells [vA] 1) := lk_top
        have b_a : B (N5.n 0) = none := good_B g5 0
        have rb_a := fun o n => rdB_none (o := o) (n := n) b_a
        have g7 : good B ((N5.n 1, .cells [.int .i64 (kk : Int), .int .i64 (p : Int), .int .i64 (cc : Int), .int .i64 ko, .int .i64 po, .int .i64 co] 6) :: (N5.n 0, .cells [vA] 1) :: H5) (sh (sh N5)) := good_new (N := (sh N5)) g6
        have f7 : Fr ((N5.n 0, .cells [vA] 1) :: H5) ((N5.n 1, .cells [.int .i64 (kk : Int), .int .i64 (p : Int), .int .i64 (cc : Int), .int .i64 ko, .int .i64 po, .int .i64 co] 6) :: (N5.n 0, .cells [vA] 1) :: H5) := fr_new (N := (sh N5)) g6 Fr.refl 0
        have q_c := f7 _ _ q_c
        have q_o := f7 _ _ q_o
        have q_m := f7 _ _ q_m
        have q_a := f7 _ _ q_a
        have hy := hy.mono f7
        have hw := hw.mono f7
        have hm3 := hm3.mono f7
        have hmm := hmm.mono f7
        have sl := sl.mono f7
        have sa := sa.mono f7
        have st := st.mono f7
        have sA := sA.mono f7
        have q_f : lk ((N5.n 1, .cells [.int .i64 (kk : Int), .int .i64 (p : Int), .int .i64 (cc : Int), .int .i64 ko, .int .i64 po, .int .i64 co] 6) :: (N5.n 0, .cells [vA] 1) :: H5) (N5.n 1) = some (.cells [.int .i64 (kk : Int), .int .i64 (p : Int), .int .i64 (cc : Int), .int .i64 ko, .int .i64 po, .int .i64 co] 6) := lk_top
        have b_f : B (N5.n 1) = none := good_B g5 1
        have rb_f := fun o n => rdB_none (o := o) (n := n) b_f
        have sd : SlR q3 3 B ((N5.n 1, .cells [.int .i64 (kk : Int), .int .i64 (p : Int), .int .i64 (cc : Int), .int .i64 ko, .int .i64 po, .int .i64 co] 6) :: (N5.n 0, .cells [vA] 1) :: H5) (.slice (some ⟨N5.n 1, 0, none⟩) 2 2) [⟨(kk : Int), (p : Int), (cc : Int)⟩, ⟨ko, po, co⟩] := (slN_new (B := B) (N := (sh N5)) (f := q3) (sz := 3) g6 [⟨(kk : Int), (p : Int), (cc : Int)⟩, ⟨ko, po, co⟩] (cs := [.int .i64 (kk : Int), .int .i64 (p : Int), .int .i64 (cc : Int), .int .i64 ko, .int .i64 po, .int .i64 co]) (n := 2) (m := 6) rfl rfl rfl).rd q3_len
        have T : TD B ((N5.n 1, .cells [.int .i64 (kk : Int), .int .i64 (p : Int), .int .i64 (cc : Int), .int .i64 ko, .int .i64 po, .int .i64 co] 6) :: (N5.n 0, .cells [vA] 1) :: H5) kk p cc h (N1.n 0) q (N5.n 0) (N.n 2) vl va vt vy vw vA vm l own trn ws ys A Mx := ⟨C, hqp, q_c, b_c, sl, hws, sa.rd w1_len, hou, by omega, st, htu, by omega, hy, hys, hw, hwsu, q_a, b_a, sA, hAl, hAs, q_m, b_m, hmm, hmms⟩
        have main : ∀ (ts' : List Value), KTt (N1.n 0) vl va vt q (N5.n 0) (N.n 2) vy vw xat xx xp xi (.slice (some ⟨N5.n 1, 0, none⟩) 2 2) 0 ts' → ∀ F, 20000 ≤ F → Ok (exec B { f := GlT B } F (LC.loop lbTd) ⟨ts', ((N5.n 1, .cells [.int .i64 (kk : Int), .int .i64 (p : Int), .int .i64 (cc : Int), .int .i64 ko, .int .i64 po, .int .i64 co] 6) :: (N5.n 0, .cells [vA] 1) :: H5), (sh (sh N5))⟩) (fun r s => r = .exit 0 ∧ ∃ i, KTt (N1.n 0) vl va vt q (N5.n 0) (N.n 2) vy vw xat xx xp xi (.slice (some ⟨N5.n 1, 0, none⟩) 2 2) i s.t) := fun ts' kp' F hF =>
          loopTd T hx1 hx2 hx3 hx4 sd rfl hT g7 kp' (by simp only [List.length_cons, List.length_nil]; omega)
        have aA := all1_slw sA
        simp -implicitDefEqProofs (maxSteps := 10000000) (disch := omega) only [TlT, LlT, GlT_law16Conf, Vlaw16Conf_eq, GlT_lM, GlT_lH, GlT_lW, GlT_lA, GlT_law16pick, Vlaw16pick_eq, GlT_ref03Same, GlT_ref05Writes, GlT_ref10Words, GlT_rL, GlT_rP, GlT_ref16Place, Vref16Place_eq, GlT_ref16Spot, Vref16Spot_eq, GlT_rU, GlT_rW, GlT_gL, GlT_gP, GlT_wlogPlace, VwlogPlace_eq, GlT_wlogSpot, VwlogSpot_eq, GlT_gU, GlT_gW, hB, hR, hI, e1, eC, ePk, am, q0, m0, b_n, rb_n, q1, q2, m1, m2, hB1, hR1, hI1, h1, h2, h3, h4, hva, b_c, rb_c, b_o, rb_o, b_m, rb_m, q_c2, m_c2, q_o2, m_o2, q_m2, m_m2, e2, hB2, hR2, hI2, q_c3, m_c3, q_o3, m_o3, q_m3, m_m3, e3, hB3, hR3, hI3, q_c4, m_c4, q_o4, m_o4, q_m4, m_m4, e4, hB4, hR4, q_cT, m_cT, q_oT, m_oT, q_mT, m_mT, hBT, hRT, q_c5, m_c5, q_o5, m_o5, q_m5, m_m5, e5, hB5, hR5, hI5, b_a, rb_a, b_f, rb_f, aA, hlen, z1, bt, bf, all1, ress, res1, retV, Value.cells, reduceIte, reduceCtorEq, Int.reduceLT, Int.reduceLE, Int.reduceToNat, Int.reduceAdd, Int.reduceSub, Int.reduceMul, Int.reduceNeg, Nat.reduceMul, Nat.reduceAdd, Nat.reduceSub, Nat.reduceBEq, Nat.reduceEqDiff, Nat.reduceLT, Nat.reduceLeDiff, Int.reduceBEq, Int.reduceEq, Nat.reducePow, Int.reducePow, Int.reduceGT, Int.reduceGE, Int.reduceBNe, ev1, ev2, ev3, ev4]
        generalize hX : exec B _ _ (LC.loop _) _ = o
        obtain ⟨y, ⟨ts, H9, N9⟩, rfl, rfl, i, kp⟩ := (show Ok o _ by rw [← hX]; exact main _ ⟨rfl, rfl, rfl, rfl, (by exact hva.symm), rfl, rfl, rfl, rfl, rfl, rfl, rfl, rfl, rfl, rfl, rfl, rfl, rfl⟩ _ (by omega))
        simp only at kp
        simp -implicitDefEqProofs (maxSteps := 10000000) (disch := omega) only [TlT, LlT, GlT_law16Conf, Vlaw16Conf_eq, GlT_lM, GlT_lH, GlT_lW, GlT_lA, GlT_law16pick, Vlaw16pick_eq, GlT_ref03Same, GlT_ref05Writes, GlT_ref10Words, GlT_rL, GlT_rP, GlT_ref16Place, Vref16Place_eq, GlT_ref16Spot, Vref16Spot_eq, GlT_rU, GlT_rW, GlT_gL, GlT_gP, GlT_wlogPlace, VwlogPlace_eq, GlT_wlogSpot, VwlogSpot_eq, GlT_gU, GlT_gW, hB, hR, hI, kp.l, kp.t23, kp.t24, kp.t25, kp.t26, kp.t28, kp.t29, kp.t30, kp.t21, kp.t3, kp.t4, kp.t5, kp.t6, kp.t7, kp.t8, kp.t123, kp.t124, kp.t125, bt, bf, all1, ress, res1, retV, Value.cells, reduceIte, reduceCtorEq, Int.reduceLT, Int.reduceLE, Int.reduceToNat, Int.reduceAdd, Int.reduceSub, Int.reduceMul, Int.reduceNeg, Nat.reduceMul, Nat.reduceAdd, Nat.reduceSub, Nat.reduceBEq, Nat.reduceEqDiff, Nat.reduceLT, Nat.reduceLeDiff, Int.reduceBEq, Int.reduceEq, Nat.reducePow, Int.reducePow, Int.reduceGT, Int.reduceGE, Int.reduceBNe, newsV_s, ev1, ev2, ev3, ev4]
        exact ⟨_, _, rfl⟩
      · obtain ⟨btk, capt, restt, rfl, bbt, h0t, hlet, hlkt⟩ := slm_elim1 st0 (by omega)
        have n_c : (N1.n 0 == btk) = false := eqb fun e => by rw [← e, q_c3] at h0t; cases h0t
        have n_o : (N.n 1 == btk) = false := eqb fun e => by rw [← e, q_o3] at h0t; cases h0t
        have n_m : (N.n 2 == btk) = false := eqb fun e => by rw [← e, q_m3] at h0t; cases h0t
        have ePt := fpick hG xat (own.length : Int) hx1 (by omega)
        have kPt := pk_b (x := xat) (n := (own.length : Int)) (by omega)
        obtain ⟨j, hj⟩ : ∃ j : Nat, pk xat (own.length : Int) = (j : Int) := ⟨_, (Int.toNat_of_nonneg kPt.1).symm⟩
        rw [hj] at ePt kPt
        have j0 : (0 : Int) ≤ (j : Int) := by omega
        have jl : j < own.length := by omega
        have z1 : (own.length : Int) > 0 := by omega
        have hwr := wr_w1 (rest := restt) xx jl
        obtain ⟨trn, htr⟩ : ∃ trn, trn = own.set j xx := ⟨_, rfl⟩
        rw [← htr] at hwr
        have gU := good_up (k := .cells (fl w1 trn ++ restt) (capt * 1)) g4 bbt hlkt
        obtain ⟨HT, hT4⟩ : ∃ HT, HT = upH H4 btk (.cells (fl w1 trn ++ restt) (capt * 1)) := ⟨_, rfl⟩
        have gT : good B HT N4 := by rw [hT4]; exact gU
        have fT : Fr H3 HT := by rw [hT4]; exact fr_up f4 h0t
        have htl0 : trn.length = own.length := by rw [htr, List.length_set]
        have st : SlR w1 1 B HT (.slice (some ⟨btk, 0, none⟩) own.length capt) trn := SlM.rd (H0 := H3) w1_len (.inr ⟨btk, capt, restt, by rw [htl0], bbt, h0t, by rw [htl0]; exact hlet, by rw [hT4, lk_upH, beq_self_eq_true, cond_true]⟩)
        have htl : trn.length ≤ 3000 := by omega
        have htu : U64s trn := fun x hx => by
          rw [htr] at hx
          rcases List.mem_or_eq_of_mem_set hx with h' | h'
          · exact hou x h'
          · rw [h']; exact hx2
        have hy := hy.mono fT
        have hw := hw.mono fT
        have hm3 := hm3.mono fT
        have hmm := hmm.mono fT
        have sl := sl.mono fT
        have sa := sa.mono fT
        have q_c := fT _ _ q_c
        have q_cT := q_c
        have m_cT := ne_N gT q_c
        have q_o := fT _ _ q_o
        have q_oT := q_o
        have m_oT := ne_N gT q_o
        have q_m := fT _ _ q_m
        have q_mT := q_m
        have m_mT := ne_N gT q_m
        have hBT := good_B gT
        have hRT := good_rdB gT
        obtain ⟨vA, H5, N5, A, e5, g5, f5, sA, hAl, hAs⟩ := fMemory C hp gT hm3 hm3s
        have q_c := f5 _ _ q_c
        have q_o := f5 _ _ q_o
        have q_m := f5 _ _ q_m
        have hy := hy.mono f5
        have hw := hw.mono f5
        have hm3 := hm3.mono f5
        have hmm := hmm.mono f5
        have sl := sl.mono f5
        have sa := sa.mono f5
        have st := st.mono f5
        have q_c5 := q_c
        have m_c5 := ne_N g5 q_c5
        have q_o5 := q_o
        have m_o5 := ne_N g5 q_o5
        have q_m5 := q_m
        have m_m5 := ne_N g5 q_m5
        have hB5 := good_B g5
        have hR5 := good_rdB g5
        have hI5 := beqN g5.1.1
        rw [hT4] at e5
        have sA := sA.wh c2_len
        have g6 : good B ((N5.n 0, .cells [vA] 1) :: H5) (sh N5) := good_new (N := N5) g5
        have f6 : Fr H5 ((N5.n 0, .cells [vA] 1) :: H5) := fr_new (N := N5) g5 Fr.refl 0
        have q_c := f6 _ _ q_c
        have q_o := f6 _ _ q_o
        have q_m := f6 _ _ q_m
        have hy := hy.mono f6
        have hw := hw.mono f6
        have hm3 := hm3.mono f6
        have hmm := hmm.mono f6
        have sl := sl.mono f6
        have sa := sa.mono f6
        have st := st.mono f6
        have sA := sA.mono f6
        have q_a : lk ((N5.n 0, .cells [vA] 1) :: H5) (N5.n 0) = some (.cells [vA] 1) := lk_top
        have b_a : B (N5.n 0) = none := good_B g5 0
        have rb_a := fun o n => rdB_none (o := o) (n := n) b_a
        have g7 : good B ((N5.n 1, .cells [.int .i64 (kk : Int), .int .i64 (p : Int), .int .i64 (cc : Int), .int .i64 ko, .int .i64 po, .int .i64 co] 6) :: (N5.n 0, .cells [vA] 1) :: H5) (sh (sh N5)) := good_new (N := (sh N5)) g6
        have f7 : Fr ((N5.n 0, .cells [vA] 1) :: H5) ((N5.n 1, .cells [.int .i64 (kk : Int), .int .i64 (p : Int), .int .i64 (cc : Int), .int .i64 ko, .int .i64 po, .int .i64 co] 6) :: (N5.n 0, .cells [vA] 1) :: H5) := fr_new (N := (sh N5)) g6 Fr.refl 0
        have q_c := f7 _ _ q_c
        have q_o := f7 _ _ q_o
        have q_m := f7 _ _ q_m
        have q_a := f7 _ _ q_a
        have hy := hy.mono f7
        have hw := hw.mono f7
        have hm3 := hm3.mono f7
        have hmm := hmm.mono f7
        have sl := sl.mono f7
        have sa := sa.mono f7
        have st := st.mono f7
        have sA := sA.mono f7
        have q_f : lk ((N5.n 1, .cells [.int .i64 (kk : Int), .int .i64 (p : Int), .int .i64 (cc : Int), .int .i64 ko, .int .i64 po, .int .i64 co] 6) :: (N5.n 0, .cells [vA] 1) :: H5) (N5.n 1) = some (.cells [.int .i64 (kk : Int), .int .i64 (p : Int), .int .i64 (cc : Int), .int .i64 ko, .int .i64 po, .int .i64 co] 6) := lk_top
        have b_f : B (N5.n 1) = none := good_B g5 1
        have rb_f := fun o n => rdB_none (o := o) (n := n) b_f
        have sd : SlR q3 3 B ((N5.n 1, .cells [.int .i64 (kk : Int), .int .i64 (p : Int), .int .i64 (cc : Int), .int .i64 ko, .int .i64 po, .int .i64 co] 6) :: (N5.n 0, .cells [vA] 1) :: H5) (.slice (some ⟨N5.n 1, 0, none⟩) 2 2) [⟨(kk : Int), (p : Int), (cc : Int)⟩, ⟨ko, po, co⟩] := (slN_new (B := B) (N := (sh N5)) (f := q3) (sz := 3) g6 [⟨(kk : Int), (p : Int), (cc : Int)⟩, ⟨ko, po, co⟩] (cs := [.int .i64 (kk : Int), .int .i64 (p : Int), .int .i64 (cc : Int), .int .i64 ko, .int .i64 po, .int .i64 co]) (n := 2) (m := 6) rfl rfl rfl).rd q3_len
        have T : TD B ((N5.n 1, .cells [.int .i64 (kk : Int), .int .i64 (p : Int), .int .i64 (cc : Int), .int .i64 ko, .int .i64 po, .int .i64 co] 6) :: (N5.n 0, .cells [vA] 1) :: H5) kk p cc h (N1.n 0) q (N5.n 0) (N.n 2) vl va (.slice (some ⟨btk, 0, none⟩) own.length capt) vy vw vA vm l own trn ws ys A Mx := ⟨C, hqp, q_c, b_c, sl, hws, sa.rd w1_len, hou, by omega, st, htu, by omega, hy, hys, hw, hwsu, q_a, b_a, sA, hAl, hAs, q_m, b_m, hmm, hmms⟩
        have main : ∀ (ts' : List Value), KTt (N1.n 0) vl va (.slice (some ⟨btk, 0, none⟩) own.length capt) q (N5.n 0) (N.n 2) vy vw xat xx xp xi (.slice (some ⟨N5.n 1, 0, none⟩) 2 2) 0 ts' → ∀ F, 20000 ≤ F → Ok (exec B { f := GlT B } F (LC.loop lbTd) ⟨ts', ((N5.n 1, .cells [.int .i64 (kk : Int), .int .i64 (p : Int), .int .i64 (cc : Int), .int .i64 ko, .int .i64 po, .int .i64 co] 6) :: (N5.n 0, .cells [vA] 1) :: H5), (sh (sh N5))⟩) (fun r s => r = .exit 0 ∧ ∃ i, KTt (N1.n 0) vl va (.slice (some ⟨btk, 0, none⟩) own.length capt) q (N5.n 0) (N.n 2) vy vw xat xx xp xi (.slice (some ⟨N5.n 1, 0, none⟩) 2 2) i s.t) := fun ts' kp' F hF =>
          loopTd T hx1 hx2 hx3 hx4 sd rfl hT g7 kp' (by simp only [List.length_cons, List.length_nil]; omega)
        have aA := all1_slw sA
        simp -implicitDefEqProofs (maxSteps := 10000000) (disch := omega) only [TlT, LlT, GlT_law16Conf, Vlaw16Conf_eq, GlT_lM, GlT_lH, GlT_lW, GlT_lA, GlT_law16pick, Vlaw16pick_eq, GlT_ref03Same, GlT_ref05Writes, GlT_ref10Words, GlT_rL, GlT_rP, GlT_ref16Place, Vref16Place_eq, GlT_ref16Spot, Vref16Spot_eq, GlT_rU, GlT_rW, GlT_gL, GlT_gP, GlT_wlogPlace, VwlogPlace_eq, GlT_wlogSpot, VwlogSpot_eq, GlT_gU, GlT_gW, hB, hR, hI, e1, eC, ePk, am, q0, m0, b_n, rb_n, q1, q2, m1, m2, hB1, hR1, hI1, h1, h2, h3, h4, hva, b_c, rb_c, b_o, rb_o, b_m, rb_m, q_c2, m_c2, q_o2, m_o2, q_m2, m_m2, e2, hB2, hR2, hI2, q_c3, m_c3, q_o3, m_o3, q_m3, m_m3, e3, hB3, hR3, hI3, q_c4, m_c4, q_o4, m_o4, q_m4, m_m4, e4, hB4, hR4, q_cT, m_cT, q_oT, m_oT, q_mT, m_mT, hBT, hRT, q_c5, m_c5, q_o5, m_o5, q_m5, m_m5, e5, hB5, hR5, hI5, b_a, rb_a, b_f, rb_f, aA, n_c, n_o, n_m, hlen, z1, ePt, j0, jl, hwr, hlkt, bbt, bt, bf, all1, ress, res1, retV, Value.cells, reduceIte, reduceCtorEq, Int.reduceLT, Int.reduceLE, Int.reduceToNat, Int.reduceAdd, Int.reduceSub, Int.reduceMul, Int.reduceNeg, Nat.reduceMul, Nat.reduceAdd, Nat.reduceSub, Nat.reduceBEq, Nat.reduceEqDiff, Nat.reduceLT, Nat.reduceLeDiff, Int.reduceBEq, Int.reduceEq, Nat.reducePow, Int.reducePow, Int.reduceGT, Int.reduceGE, Int.reduceBNe, ev1, ev2, ev3, ev4]
        generalize hX : exec B _ _ (LC.loop _) _ = o
        obtain ⟨y, ⟨ts, H9, N9⟩, rfl, rfl, i, kp⟩ := (show Ok o _ by rw [← hX]; exact main _ ⟨rfl, rfl, rfl, rfl, (by exact hva.symm), rfl, rfl, rfl, rfl, rfl, rfl, rfl, rfl, rfl, rfl, rfl, rfl, rfl⟩ _ (by omega))
        simp only at kp
        simp -implicitDefEqProofs (maxSteps := 10000000) (disch := omega) only [TlT, LlT, GlT_law16Conf, Vlaw16Conf_eq, GlT_lM, GlT_lH, GlT_lW, GlT_lA, GlT_law16pick, Vlaw16pick_eq, GlT_ref03Same, GlT_ref05Writes, GlT_ref10Words, GlT_rL, GlT_rP, GlT_ref16Place, Vref16Place_eq, GlT_ref16Spot, Vref16Spot_eq, GlT_rU, GlT_rW, GlT_gL, GlT_gP, GlT_wlogPlace, VwlogPlace_eq, GlT_wlogSpot, VwlogSpot_eq, GlT_gU, GlT_gW, hB, hR, hI, kp.l, kp.t23, kp.t24, kp.t25, kp.t26, kp.t28, kp.t29, kp.t30, kp.t21, kp.t3, kp.t4, kp.t5, kp.t6, kp.t7, kp.t8, kp.t123, kp.t124, kp.t125, bt, bf, all1, ress, res1, retV, Value.cells, reduceIte, reduceCtorEq, Int.reduceLT, Int.reduceLE, Int.reduceToNat, Int.reduceAdd, Int.reduceSub, Int.reduceMul, Int.reduceNeg, Nat.reduceMul, Nat.reduceAdd, Nat.reduceSub, Nat.reduceBEq, Nat.reduceEqDiff, Nat.reduceLT, Nat.reduceLeDiff, Int.reduceBEq, Int.reduceEq, Nat.reducePow, Int.reducePow, Int.reduceGT, Int.reduceGE, Int.reduceBNe, newsV_s, ev1, ev2, ev3, ev4]
        exact ⟨_, _, rfl⟩
end Go.Proofs.YtfhiplfagejfoaaDoor
namespace Go.Proofs.YtfhiplfagejfoaaDoor
open Go.Proofs.YtfhiplfagejfoaaDoor.K Go.ChangeShapes Go.WideShapes Go.ChangeAt Go.RowKit
set_option maxRecDepth 100000
set_option linter.unusedSimpArgs false
set_option linter.unusedVariables false

theorem gObj : Tryd.prog.globalNamed "whitewash/region.objects" = some 0 := by kernel_rfl
theorem gObjT : (Tryd.prog.globals[0]?).map (·.type) = some 129 := by kernel_rfl
theorem leafsObj : leafs Tryd.prog 12 129 = some [.int .i64, .int .i64, .int .i64, .int .i64, .int .i64, .int .i64, .int .i64, .int .i64, .int .i64, .int .i64, .int .i64, .int .i64] := by kernel_rfl
theorem tab {W : World} (h : laidMetH Tryd.prog Rows.wlogTellsRow.laid W) : Tab (startB W) := by
  obtain ⟨ps, hv, _⟩ := laidMet_of_H (by rfl) h
  obtain ⟨a1, e1, f1, h1, l1⟩ := laid_cells hv (n := "whitewash/region.objects") (x := Rows.laid_whitewash_region_objects) (by simp [Rows.wlogTellsRow]) 12 gObj gObjT leafsObj
  have hw : rdB (startB W) 0 0 12 = some OBJ := rdB_whole h1 l1 (by rfl)
  intro i hi
  have := rdB_sub (i := i * 2) (k := 2) hw (by omega)
  rwa [Nat.zero_add] at this
namespace wlogTells
theorem own : ownKnob Tryd.prog.godebug = none := by kernel_rfl
theorem laidOut : laidOutB Tryd.prog = true := by kernel_rfl
theorem typesOk : (Tryd.f3.params.toList.all fun t => Tryd.prog.readableRec t && decide (t < Tryd.prog.types.size)) = true := by kernel_rfl
theorem contract (H : Type) (enc : TypeId × Value → H) (W : World) (base : Nat) (args : Array Value) (ds gs : List (DataW H)) (before : List MemPlace)
    (hval : ∀ (j : Nat) t v, Tryd.f3.params[j]? = some t → args[j]? = some v → Value.okWide Tryd.prog W .any base t v)
    (hW : DataW.Whole enc Tryd.prog Tryd.f3.params.toList Rows.wlogTellsSpec.vars false W args.toList ds gs before) (hL : laidMetH Tryd.prog Rows.wlogTellsRow.laid W) :
    Calls Tryd.prog 3 args W fun e W' => ∃ v, e = .returned v ∧ Rows.wlogTellsSpec.post enc Tryd.prog Tryd.f3 false true false false W args v W' := by
  have hW' := hW
  obtain ⟨p, q, hA0, hV, hpq, hfz, hnd⟩ := hW
  have hA : DataW.TrodAll enc Tryd.prog W 0 (fun _ => true) true Tryd.f3.params.toList args.toList ds p := hA0
  rw [Tryd.params3] at hA hval
  obtain ⟨v0, vs0, d0, ds0, p0, q0, hargs, rfl, rfl, h0, r0⟩ := trodAll_cons hA
  obtain ⟨v1, vs1, d1, ds1, p1, q1, rfl, rfl, rfl, h1, r1⟩ := trodAll_cons r0
  obtain ⟨v2, vs2, d2, ds2, p2, q2, rfl, rfl, rfl, h2, r2⟩ := trodAll_cons r1
  obtain ⟨v3, vs3, d3, ds3, p3, q3, rfl, rfl, rfl, h3, r3⟩ := trodAll_cons r2
  obtain ⟨v4, vs4, d4, ds4, p4, q4, rfl, rfl, rfl, h4, r4⟩ := trodAll_cons r3
  obtain ⟨v5, vs5, d5, ds5, p5, q5, rfl, rfl, rfl, h5, r5⟩ := trodAll_cons r4
  obtain ⟨v6, vs6, d6, ds6, p6, q6, rfl, rfl, rfl, h6, r6⟩ := trodAll_cons r5
  obtain ⟨v7, vs7, d7, ds7, p7, q7, rfl, rfl, rfl, h7, r7⟩ := trodAll_cons r6
  obtain ⟨v8, vs8, d8, ds8, p8, q8, rfl, rfl, rfl, h8, r8⟩ := trodAll_cons r7
  obtain ⟨v9, vs9, d9, ds9, p9, q9, rfl, rfl, rfl, h9, r9⟩ := trodAll_cons r8
  obtain ⟨v10, vs10, d10, ds10, p10, q10, rfl, rfl, rfl, h10, r10⟩ := trodAll_cons r9
  obtain ⟨rfl, rfl, rfl⟩ := trodAll_nil r10
  obtain rfl : args = #[v0, v1, v2, v3, v4, v5, v6, v7, v8, v9, v10] := by apply Array.ext'; simpa using hargs
  obtain ⟨rfl, rfl⟩ := trodVars_none hV
  obtain ⟨m0, rfl, k0⟩ := open_flat (P := Tryd.prog) 20 (show aggB Tryd.prog 22 = some true by kernel_rfl) (show leafs Tryd.prog 20 22 = some [.int .i64, .int .i64, .int .i64] by kernel_rfl) (hval 0 22 v0 rfl rfl) h0
  obtain ⟨x0_0, m0_0, rfl, w0_0, k0_1⟩ := k0.int
  have b0_0 := i64_wf w0_0
  obtain ⟨x0_1, m0_1, rfl, w0_1, k0_2⟩ := k0_1.int
  have b0_1 := i64_wf w0_1
  obtain ⟨x0_2, m0_2, rfl, w0_2, k0_3⟩ := k0_2.int
  have b0_2 := i64_wf w0_2
  obtain rfl := k0_3.none
  obtain ⟨m1, rfl, k1⟩ := open_flat (P := Tryd.prog) 20 (show aggB Tryd.prog 24 = some true by kernel_rfl) (show leafs Tryd.prog 20 24 = some [.int .i64, .int .i64, .int .i64] by kernel_rfl) (hval 1 24 v1 rfl rfl) h1
  obtain ⟨x1_0, m1_0, rfl, w1_0, k1_1⟩ := k1.int
  have b1_0 := i64_wf w1_0
  obtain ⟨x1_1, m1_1, rfl, w1_1, k1_2⟩ := k1_1.int
  have b1_1 := i64_wf w1_1
  obtain ⟨x1_2, m1_2, rfl, w1_2, k1_3⟩ := k1_2.int
  have b1_2 := i64_wf w1_2
  obtain rfl := k1_3.none
  have s2 := open_flats (P := Tryd.prog) 20 Tryd.underlying25 (show leafs Tryd.prog 20 51 = some [.int .i64, .int .i64] by kernel_rfl) (show Tryd.prog.cellsOf 51 = 2 by kernel_rfl) (by decide) (hval 2 25 v2 rfl rfl) h2
  have s3 := open_flats (P := Tryd.prog) 20 Tryd.underlying26 (show leafs Tryd.prog 20 65 = some [.int .i64, .int .u64] by kernel_rfl) (show Tryd.prog.cellsOf 65 = 2 by kernel_rfl) (by decide) (hval 3 26 v3 rfl rfl) h3
  have s4 := open_flats (P := Tryd.prog) 20 Tryd.underlying27 (show leafs Tryd.prog 20 28 = some [.int .u64] by kernel_rfl) (show Tryd.prog.cellsOf 28 = 1 by kernel_rfl) (by decide) (hval 4 27 v4 rfl rfl) h4
  obtain ⟨x5, rfl, rfl, rfl, w5⟩ := open_int Tryd.underlying3 (hval 5 3 v5 rfl rfl) h5
  have b5 := i64_wf w5
  obtain ⟨x6, rfl, rfl, rfl, w6⟩ := open_int Tryd.underlying28 (hval 6 28 v6 rfl rfl) h6
  have b6 := u64_wf' w6
  obtain ⟨x7, rfl, rfl, rfl, w7⟩ := open_int Tryd.underlying3 (hval 7 3 v7 rfl rfl) h7
  have b7 := i64_wf w7
  obtain ⟨x8, rfl, rfl, rfl, w8⟩ := open_int Tryd.underlying3 (hval 8 3 v8 rfl rfl) h8
  have b8 := i64_wf w8
  have s9 := open_flats (P := Tryd.prog) 20 Tryd.underlying29 (show leafs Tryd.prog 20 22 = some [.int .i64, .int .i64, .int .i64] by kernel_rfl) (show Tryd.prog.cellsOf 22 = 3 by kernel_rfl) (by decide) (hval 9 29 v9 rfl rfl) h9
  refine law_post laidOut (fun t ht => by simpa using List.all_eq_true.1 typesOk t ht) rfl (show Tryd.f3.resultTypes = #[4] by rfl) Tryd.underlying4 hW' rfl rfl rfl ?_
  obtain ⟨w2, hw2, hb2⟩ := two_open s2
  obtain ⟨w3, hw3, hb3⟩ := wrs_open s3
  obtain ⟨w4, hw4, hb4⟩ := keys_open s4
  obtain ⟨w9, hw9, hb9⟩ := three_open s9
  obtain ⟨v11, rfl, s10⟩ := open_mem (P := Tryd.prog) 20 Tryd.underlying32 rfl (by kernel_rfl) (by kernel_rfl) Tryd.underlying30 (show leafs Tryd.prog 20 70 = some [.int .u64, .int .i64] by kernel_rfl) (show Tryd.prog.cellsOf 70 = 2 by kernel_rfl) (by decide) (hval 10 32 v10 rfl rfl) h10
  obtain ⟨w10, hw10, hb10⟩ := cls_open s10
  have hs := callF_sound (w0 := W) (B := startB W) mixedOrders sGlT 1000000 Tryd.func3 lowlT
  exact law_calls hs (args := [.agg #[.int .i64 x0_0, .int .i64 x0_1, .int .i64 x0_2], .agg #[.int .i64 x1_0, .int .i64 x1_1, .int .i64 x1_2], v2, v3, v4, .int .i64 x5, .int .u64 x6, .int .i64 x7, .int .i64 x8, v9, .agg #[v11]]) fun N hN => lvTells (tab hL) hN (hw2.rd q2_len) hb2 (hw3.wh w2_len) hb3 (hw4.wh w1_len) hb4 (hw9.rd q3_len) hb9 (hw10.wh c2_len) hb10 b0_0 b0_1 b0_2 b5 b6 b7 b8

noncomputable def laidWorld (os : Os) : World := laidW Tryd.prog os [(0, OBJ)]
theorem laid_met (os : Os) : laidMet Tryd.prog Rows.wlogTellsRow.laid ((laidWorld os).forCall (fun _ _ => 0) ⟨#[], #[.agg #[.int .i64 0, .int .i64 0, .int .i64 0], .agg #[.int .i64 0, .int .i64 0, .int .i64 0], .slice none 0 0, .slice none 0 0, .slice none 0 0, .int .i64 0, .int .u64 0, .int .i64 0, .int .i64 0, .slice none 0 0, .agg #[.slice none 0 0]], []⟩).memory :=
  laidMet_of_run' 16 (by kernel_rfl) (by kernel_rfl)
theorem reads (os : Os) {H : Type} (enc : TypeId × Value → H) : ∃ places, DataW.whole enc Tryd.prog ((laidWorld os).forCall (fun _ _ => 0) ⟨#[], #[.agg #[.int .i64 0, .int .i64 0, .int .i64 0], .agg #[.int .i64 0, .int .i64 0, .int .i64 0], .slice none 0 0, .slice none 0 0, .slice none 0 0, .int .i64 0, .int .u64 0, .int .i64 0, .int .i64 0, .slice none 0 0, .agg #[.slice none 0 0]], []⟩).memory Tryd.f3.params.toList Rows.wlogTellsSpec.vars false (#[.agg #[.int .i64 0, .int .i64 0, .int .i64 0], .agg #[.int .i64 0, .int .i64 0, .int .i64 0], .slice none 0 0, .slice none 0 0, .slice none 0 0, .int .i64 0, .int .u64 0, .int .i64 0, .int .i64 0, .slice none 0 0, .agg #[.slice none 0 0]] : Array Value).toList 16 = some ([.agg [.lit (.int .i64 0), .lit (.int .i64 0), .lit (.int .i64 0)], .agg [.lit (.int .i64 0), .lit (.int .i64 0), .lit (.int .i64 0)], .nil, .nil, .nil, .lit (.int .i64 0), .lit (.int .u64 0), .lit (.int .i64 0), .lit (.int .i64 0), .nil, .agg [.nil]], [], places) :=
  ⟨[], by kernel_rfl⟩
theorem lifted (os : Os) (started : os.Started) (H : Type) (enc : TypeId × Value → H) (F : Stop.Interp) :
    ReturnsInHanded {} Tryd.checked os 3 .any ((OpenSpec.ofChange Rows.wlogTellsSpec).preRow enc Tryd.prog Tryd.f3 Rows.wlogTellsRow.domain false Rows.wlogTellsRow.laid) (((OpenSpec.ofChange Rows.wlogTellsSpec).at F).post enc Tryd.prog Tryd.f3 false true false false) := by
  obtain ⟨places, hx⟩ := reads os enc
  refine returnsInHanded_of_row (C := Tryd.checked) (s := OpenSpec.ofChange Rows.wlogTellsSpec) own started (by kernel_rfl) Tryd.func3
    (witness_row_at (enc := enc) (C := Tryd.checked) false (laidWorld os) #[.agg #[.int .i64 0, .int .i64 0, .int .i64 0], .agg #[.int .i64 0, .int .i64 0, .int .i64 0], .slice none 0 0, .slice none 0 0, .slice none 0 0, .int .i64 0, .int .u64 0, .int .i64 0, .int .i64 0, .slice none 0 0, .agg #[.slice none 0 0]] rfl (by kernel_rfl) (by kernel_rfl) (by kernel_rfl)
      (OpenSpec.preRow_of_cond 16 hx (by kernel_rfl) (fun k hk => by cases hk) (by kernel_rfl) (laid_met os))) ?_
  intro W base args ds gs before hval hW _ _ _ hL _ _
  exact contract H enc W base args ds gs before hval hW hL
theorem said : Rows.WlogTellsSaid :=
  OpenClaim.holds_of_cond 3 Tryd.f3 rfl rfl rfl rfl rfl rfl rfl ⟨rfl, rfl, rfl, rfl, rfl⟩ rfl rfl rfl rfl rfl (by kernel_rfl) Tryd.func3 (by kernel_rfl)
    (of_decide_eq_true (by kernel_rfl)) (by unfold Func.isWrapper; first | (rw [if_pos (by decide +kernel)]; kernel_rfl) | (rw [if_neg (by decide +kernel)]; exact ⟨rfl, rfl⟩))
    (fun os started H enc _ F => by rw [OpenClaim.pre_eq_preRow]; exact lifted os started H enc F)
theorem plain (f : FuncId) (fn : Func) (hf : Tryd.pinned.checked.prog.funcNamed "whitewash/whitewashlaw16.WlogTells" = some f) (hfn : Tryd.pinned.checked.prog.funcs[f]? = some fn) :
    true = Tryd.pinned.checked.prog.looks [] ∧ ∀ (j : Nat) t, fn.params[j]? = some t → Tryd.pinned.checked.prog.wantsStandIn t = false := by
  obtain rfl : f = 3 := Option.some.inj ((show Tryd.prog.funcNamed "whitewash/whitewashlaw16.WlogTells" = some 3 by kernel_rfl).symm.trans hf) |>.symm
  obtain rfl : fn = Tryd.f3 := (Option.some.inj (Tryd.func3.symm.trans hfn)).symm
  refine ⟨by kernel_rfl, fun j t ht => ?_⟩
  have hall : (Tryd.f3.params.toList.all fun t => !Tryd.prog.wantsStandIn t) = true := by kernel_rfl
  have := List.all_eq_true.1 hall t (by simpa using Array.mem_of_getElem? ht)
  show Tryd.prog.wantsStandIn t = false
  simpa using this
theorem card : Rows.WlogTellsCardSaid :=
  Claim7.holds_tied_plain_at .later [] _ _ _ _ said (fun _ h => by cases h) (by kernel_rfl) (fun _ h => by cases h) wlogTells_row_tie rfl ⟨rfl, rfl⟩ (by kernel_rfl) rfl plain (by kernel_rfl)
end wlogTells
end Go.Proofs.YtfhiplfagejfoaaDoor
