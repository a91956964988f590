/- Own text: the log of writes, part HoD: contracts of the functions that the laws of the log call. -/
import Derived.Test.YtfhiplfagejfoaaDoorHoC
set_option linter.unusedSimpArgs false
set_option linter.unusedVariables false
namespace Go.Proofs.YtfhiplfagejfoaaDoor
open Go.Proofs.YtfhiplfagejfoaaDoor.K Go.ChangeShapes Go.WideShapes Go.ChangeAt Go.RowKit 
set_option maxRecDepth 100000
set_option linter.unusedSimpArgs false
set_option linter.unusedVariables false
theorem J33 : Said (an @TgL.eq_1 <| an @LgL.eq_1 <| an @GgL_cellsStore <| an @GgL_sCl <| an @GgL_gU <| an @GgL_wloglog <| an @Vwloglog.eq_1 <| an @Twloglog.eq_1 <| an @Lwloglog.eq_1 <| an @Gwloglog_10 <| an @V10_eq <| an @Gwloglog_13 <| an @V13_eq <| an @Gwloglog_7 <| an @V7_eq <| an @Gwloglog_wlogwant <| an @Vwlogwant.eq_1 <| an @Twlogwant.eq_1 <| an @Lwlogwant.eq_1 <| an @GgL_wlogwant <| an @DgL_wlogcaught <| an @Uwlogcaught.eq_1 <| an @Lwlogcaught.eq_1 <| trivial) := said_ok _
set_option maxHeartbeats 16000000 in
theorem fLay {B : OH} {H : HL} {N : St} {vm : Value} {M : List C2} {kk p cc h : Nat} {q : Int} (hT : Tab B) (C : Cf kk p cc h) (hN : good B H N) (hv : SlW c2 2 B H vm M) (hM : M.length ≤ 800000) (hMs : C2s M) :
    ∃ v' H' N', VgL B [.agg #[.int .i64 (kk : Int), .int .i64 (p : Int), .int .i64 (cc : Int)], .agg #[vm], .int .i64 q] H N = some (.ret (.tuple #[.agg #[v'], .int .i64 (layE p h q M)]), H', N') ∧ good B H' N' ∧ Fr H H' ∧ SlM c2 2 B H H' v' (layR p h q M) := by
  obtain ⟨hB, hR, hI⟩ := gX hN
  have hG : ∃ H N, good B H N := ⟨H, N, hN⟩
  have e1 := f13 hG kk p cc (cfit C).1 (cfit C).2.1 (cfit C).2.2
  have e2 := f7c hG hT C
  have ne : ∀ i j, i ≠ j → N.n i ≠ N.n j := fun i j hij e => by
    have := hI i j
    rw [e] at this; simp at this; exact hij this
  obtain ⟨am, cm, rfl, _⟩ := id hv
  obtain ⟨H0, hH0⟩ : ∃ H0, H0 = (N.n 3, KB.cells [.int .i64 0] 1) :: (N.n 2, .cells [.slice none 0 0] 1) :: (N.n 1, .cells [.slice am M.length cm] 1) :: (N.n 0, .cells [.int .i64 (kk : Int), .int .i64 (p : Int), .int .i64 (cc : Int)] 3) :: H := ⟨_, rfl⟩
  have g0 : good B H0 (sh (sh (sh (sh N)))) := by rw [hH0]; exact good_new (good_new (good_new (good_new hN)))
  have f0 : Fr H H0 := by
    rw [hH0]
    have a1 := good_new (k := .cells [.int .i64 (kk : Int), .int .i64 (p : Int), .int .i64 (cc : Int)] 3) hN
    have a2 := good_new (k := .cells [.slice am M.length cm] 1) a1
    have a3 := good_new (k := .cells [.slice none 0 0] 1) a2
    exact fr_new a3 (fr_new a2 (fr_new a1 (fr_new hN Fr.refl 0) 0) 0) 0
  have q2 : lk H0 (N.n 2) = some (.cells [.slice none 0 0] 1) := by rw [hH0]; simp only [lk_cons, hI]; rfl
  have q3 : lk H0 (N.n 3) = some (.cells [.int .i64 0] 1) := by rw [hH0]; simp only [lk_cons, hI]; rfl
  have q0 : lk H0 (N.n 0) = some (.cells [.int .i64 (kk : Int), .int .i64 (p : Int), .int .i64 (cc : Int)] 3) := by rw [hH0]; simp only [lk_cons, hI]; rfl
  obtain ⟨v', H1, N1, ec, g1, r1, s1⟩ := clone g0 (hv.mono f0) (by omega)
  have q2' := r1 _ _ q2
  have q3' := r1 _ _ q3
  have q0' := r1 _ _ q0
  have b0 := hB 0
  have b2 := hB 2
  have b3 := hB 3
  have rb0 := rN b0
  have rb2 := rN b2
  have rb3 := rN b3
  have hB1 := good_B g1
  have hR1 := good_rdB g1
  have hI1 := beqN g1.1.1
  have m0 := ne_N g1 q0'
  have m0' := ne_N' g1 q0'
  have m2 := ne_N g1 q2'
  have m2' := ne_N' g1 q2'
  have m3 := ne_N g1 q3'
  have m3' := ne_N' g1 q3'
  have s1l := s1.len
  obtain ⟨a1, c1, rfl, _⟩ := id (s1.rd c2_len)
  have n23 : (N.n 2 == N.n 3) = false := by rw [hI]; rfl
  have n32 : (N.n 3 == N.n 2) = false := by rw [hI]; rfl
  rw [hH0] at ec
  unfold VgL
  by_cases hok : memOk p h q M
  case neg =>
    have hE : layE p h q M = 1 := if_neg hok
    have hRR : layR p h q M = [] := if_neg (fun h' => hok h'.1)
    rw [hE, hRR]
    have z1 := good_up (k := .cells [.int .i64 1] 1) g1 b3 q3'
    have z2' := fr_up (k := .cells [.int .i64 1] 1) (f0.trans r1) (lk_N hN 3)
    by_cases hq : 0 ≤ q ∧ q < (p : Int)
    · have hl : ((M.length : Int) == ((bs p h 5 : Nat) : Int)) = false := beqI (fun e => hok ⟨hq, by omega⟩)
      obtain ⟨n, rfl⟩ : ∃ n : Nat, q = (n : Int) := ⟨q.toNat, by omega⟩
      have e3 := f10c3 hG hT C (q := n) (by omega)
      simp (disch := omega) only [J33, hB, hR, hI, itR2_wloglog1, List.cons_append, EgL, e1, e2, e3, ec, q0', q2', q3', b0, b2, b3, rb0, rb2, rb3, hB1, hR1, hI1, m0, m0', m2, m2', m3, m3', n23, n32, hl, all1, ress, res1, retV, Value.cells, newsV_s, seval, eV]
      refine ⟨_, _, _, rfl, ?_, ?_, .inl ⟨rfl, rfl⟩⟩
      · exact good_new (good_new (good_new (good_new (good_new (good_new z1)))))
      · exact fr_new (good_new (good_new (good_new (good_new (good_new z1))))) (fr_new (good_new (good_new (good_new (good_new z1)))) (fr_new (good_new (good_new (good_new z1))) (fr_new (good_new (good_new z1)) (fr_new (good_new z1) (fr_new z1 z2' 0) 0) 0) 0) 0) 0
    · have e3 := f10o hG C q (by omega)
      have h10 : ((1 : Int) == 0) = false := rfl
      simp (disch := omega) only [J33, hB, hR, hI, itR2_wloglog1, List.cons_append, EgL, e1, e2, e3, ec, q0', q2', q3', b0, b2, b3, rb0, rb2, rb3, hB1, hR1, hI1, m0, m0', m2, m2', m3, m3', n23, n32, h10, all1, ress, res1, retV, Value.cells, newsV_s, seval, eV]
      refine ⟨_, _, _, rfl, ?_, ?_, .inl ⟨rfl, rfl⟩⟩
      · exact good_new (good_new (good_new (good_new (good_new (good_new z1)))))
      · exact fr_new (good_new (good_new (good_new (good_new (good_new z1))))) (fr_new (good_new (good_new (good_new (good_new z1)))) (fr_new (good_new (good_new (good_new z1))) (fr_new (good_new (good_new z1)) (fr_new (good_new z1) (fr_new z1 z2' 0) 0) 0) 0) 0) 0
  have hE : layE p h q M = unE p h (wdsL M (lgA p h q) (LG p h)) := if_pos hok
  have hRy : unOk p h (wdsL M (lgA p h q) (LG p h)) → layR p h q M = lay M (unR p h (wdsL M (lgA p h q) (LG p h))) (unR p h (wdsL M (lgA p h q) (LG p h))).length := fun h' => if_pos ⟨hok, h'⟩
  have hRn : ¬ unOk p h (wdsL M (lgA p h q) (LG p h)) → layR p h q M = [] := fun h' => if_neg fun h2 => h' h2.2
  rw [hE]
  have hb := lgA_b C hok
  obtain ⟨n, rfl⟩ : ∃ n : Nat, q = (n : Int) := ⟨q.toNat, by have := hok.1; omega⟩
  have e3 := f10c3 hG hT C (q := n) (by have := hok.1; omega)
  have hlA : bs p h 3 + LG p h * n = lgA p h (n : Int) := rfl
  rw [hlA] at e3
  generalize lgA p h (n : Int) = A at *
  have hl : ((M.length : Int) == ((bs p h 5 : Nat) : Int)) = true := by rw [hok.2]; exact beq_self_eq_true _
  have hlb := LG_b C
  rcases s1 with ⟨h0, _⟩ | ⟨b, cap, rest, hve, bb, h0b, hle, hlk⟩
  · rw [h0] at hb; simp at hb; omega
  injection hve with hv1 hv2 hv3
  subst hv1 hv3
  simp (disch := omega) only [J33, hB, hR, hI, itR2_wloglog1, List.cons_append, EgL, e1, e2, e3, ec, q0', q2', q3', b0, b2, b3, rb0, rb2, rb3, hB1, hR1, hI1, m0, m0', m2, m2', m3, m3', n23, n32, hl, all1, ress, res1, retV, Value.cells, newsV_s, seval, eV]
  generalize hX : Iwloglog1 B _ _ _ _ = o
  obtain ⟨HH, hHH⟩ : ∃ HH, HH = (N1.n 6, KB.loop (N1.r 6) .ready) :: (N1.n 5, .dfr) :: (N1.n 4, .cells [.int .i64 (A : Int)] 1) :: (N1.n 3, .cells [.pointer (some ⟨N1.n 0, 0, none⟩)] 1) :: (N1.n 2, .cells [.int .i64 (kk : Int), .int .i64 (p : Int), .int .i64 (cc : Int)] 3) :: (N1.n 1, .cells [.slice none 0 0] 1) :: (N1.n 0, .cells [.slice (some ⟨b, 0, none⟩) M.length c1] 1) :: H1 := ⟨_, rfl⟩
  have a1 := good_new (k := .cells [.slice (some ⟨b, 0, none⟩) M.length c1] 1) g1
  have a2 := good_new (k := .cells [.slice none 0 0] 1) a1
  have a3 := good_new (k := .cells [.int .i64 (kk : Int), .int .i64 (p : Int), .int .i64 (cc : Int)] 3) a2
  have a4 := good_new (k := .cells [.pointer (some ⟨N1.n 0, 0, none⟩)] 1) a3
  have a5 := good_new (k := .cells [.int .i64 (A : Int)] 1) a4
  have a6 := good_new (k := .dfr) a5
  have gH : good B HH (sh (sh (sh (sh (sh (sh (sh N1))))))) := by rw [hHH]; exact good_new a6
  have fH : Fr H1 HH := by rw [hHH]; exact fr_new a6 (fr_new a5 (fr_new a4 (fr_new a3 (fr_new a2 (fr_new a1 (fr_new g1 Fr.refl 0) 0) 0) 0) 0) 0) 0
  have p0 : lk HH (N1.n 0) = some (.cells [.slice (some ⟨b, 0, none⟩) M.length c1] 1) := by rw [hHH]; simp only [lk_cons, hI1]; rfl
  have p1 : lk HH (N1.n 1) = some (.cells [.slice none 0 0] 1) := by rw [hHH]; simp only [lk_cons, hI1]; rfl
  have p2 : lk HH (N1.n 2) = some (.cells [.int .i64 (kk : Int), .int .i64 (p : Int), .int .i64 (cc : Int)] 3) := by rw [hHH]; simp only [lk_cons, hI1]; rfl
  have p3 : lk HH (N1.n 3) = some (.cells [.pointer (some ⟨N1.n 0, 0, none⟩)] 1) := by rw [hHH]; simp only [lk_cons, hI1]; rfl
  have p4 : lk HH (N1.n 4) = some (.cells [.int .i64 (A : Int)] 1) := by rw [hHH]; simp only [lk_cons, hI1]; rfl
  have p6 : lk HH (N1.n 6) = some (.loop (N1.r 6) .ready) := by rw [hHH]; simp only [lk_cons, hI1]; rfl
  have nb1 := ne_N g1 hlk
  have nbi : ∀ i, N1.n i ≠ b := fun i e => by have := nb1 i; rw [e] at this; simp at this
  have ni : ∀ i j, i ≠ j → N1.n i ≠ N1.n j := fun i j hij e => by
    have := hI1 i j
    rw [e] at this; simp at this; exact hij this
  have hlkH : lk HH b = some (.cells (fl c2 M ++ rest) (c1 * 2)) := fH _ _ hlk
  have hO : ∃ H' N', o = some (.ret (.tuple #[]), H', N') ∧ good B H' N' ∧ (lk H' (N1.n 6) = some (.loop (N1.r 6) .ready) ∧ (∀ y c, y ≠ N1.n 6 → y ≠ N1.n 1 → lk HH y = some c → lk H' y = some c) ∧ ∃ vO, lk H' (N1.n 1) = some (.cells [vO] 1) ∧ SlM w1 1 B HH H' vO (wdsL M A (LG p h))) := by
    rw [← hX, ← hHH]
    refine itLog (J := fun k H' => lk H' (N1.n 6) = some (.loop (N1.r 6) .ready) ∧ (∀ y c, y ≠ N1.n 6 → y ≠ N1.n 1 → lk HH y = some c → lk H' y = some c) ∧ ∃ vO, lk H' (N1.n 1) = some (.cells [vO] 1) ∧ SlM w1 1 B HH H' vO (wdsL M A k)) (kk := kk) (cc := cc) (f := A) (l := N1.n 6) (fb := N1.n 4) (cb := N1.n 2) (mb := N1.n 3) (b := b) (mm := N1.n 0) (len := M.length) (cap := c1) (wd := fun k => (M.getD (A + k) z2).w) hT C ?_ ?_ (hB1 4) (hB1 2) (hB1 3) (hB1 0) (by omega) (by omega) gH ⟨p6, fun _ _ _ _ e => e, _, p1, .inl ⟨rfl, rfl⟩⟩
    · rintro k H2 N2 hk ⟨j6, jp, vO, j1, js⟩ g2
      have hBo := hB1
      obtain ⟨hB, hR, hI⟩ := gX g2
      have b6 := hBo 6
      have b1 := hBo 1
      have rb1 := rN b1
      have x6 := ne_N g2 j6
      have x6' := ne_N' g2 j6
      have x1 := ne_N g2 j1
      have x1' := ne_N' g2 j1
      have x16 : (N1.n 1 == N1.n 6) = false := by rw [hI1]; rfl
      have x61 : (N1.n 6 == N1.n 1) = false := by rw [hI1]; rfl
      have gb := good_set (k := .loop (N1.r 6) .busy) g2 b6 j6
      have jn := fun y c (e : lk HH y = some c) => js.ne e
      have fb6 : Fr HH HH := Fr.refl
      have jsb : SlM w1 1 B HH ((N1.n 6, .loop (N1.r 6) .busy) :: H2) vO (wdsL M A k) := js.mono fun y c hy e => by
        rw [lk_cons, eqb (fun h' => jn _ _ p6 (by rw [← h']; exact hy)), cond_false]; exact e
      have hDm : Dm HH ((N1.n 6, .loop (N1.r 6) .busy) :: H2) := fun y e => by
        cases hy : lk HH y with
        | none => rfl
        | some c =>
          by_cases h6 : y = N1.n 6
          · rw [h6, lk_top] at e; cases e
          · rw [lk_cons, eqb h6, cond_false] at e
            by_cases h1 : y = N1.n 1
            · rw [h1, j1] at e; cases e
            · rw [jp y c h6 h1 hy] at e; cases e
      have hwl := wdsL_len M A k
      have g3 : good B (((sh N2).n 0, .cells [.int .u64 (M.getD (A + k) z2).w] 1) :: (N1.n 6, .loop (N1.r 6) .busy) :: H2) (sh (sh N2)) := good_new (good_sh gb)
      have g3' : good B ((N2.n 0, .cells [.int .u64 (M.getD (A + k) z2).w] 1) :: (N1.n 6, .loop (N1.r 6) .busy) :: H2) (sh N2) := good_new gb
      have fn : Fr ((N1.n 6, .loop (N1.r 6) .busy) :: H2) ((N2.n 0, .cells [.int .u64 (M.getD (A + k) z2).w] 1) :: (N1.n 6, .loop (N1.r 6) .busy) :: H2) := fr_new gb Fr.refl 0
      obtain ⟨v3, H3, N3, ea, g4, d4, k4, s4, hb4⟩ := app_specM (H0 := HH) (bytes := 8) w1_len g3' (hDm.trans fn.dm) (jsb.mono fun y c _ e => fn y c e) (M.getD (A + k) z2).w rfl (by omega) (by omega)
      simp only [w1] at ea
      have jb1 : lk ((N1.n 6, .loop (N1.r 6) .busy) :: H2) (N1.n 1) = some (.cells [vO] 1) := by rw [lk_cons, x16, cond_false]; exact j1
      have l6 := k4 _ _ (jn _ _ p6) (fn _ _ (lk_top (x := N1.n 6) (k := .loop (N1.r 6) .busy) (H := H2)))
      have l1 := k4 _ _ (jn _ _ p1) (fn _ _ jb1)
      have s5 := s4.toM
      have hvc : vO.cells = #[vO] := by obtain ⟨a, c, rfl, _⟩ := js.rd w1_len; rfl
      obtain ⟨av, cv, rfl, _⟩ := id (s4.rd w1_len)
      have hwd : wdsL M A k ++ [(M.getD (A + k) z2).w] = wdsL M A (k + 1) := rfl
      simp (disch := omega) only [J33, hB, hR, hI, itR2_wloglog1, List.cons_append, EgL, j6, j1, b6, b1, rb1, x6, x6', x1, x1', x16, x61, ea, l6, l1, hvc, all1, ress, res1, retV, Value.cells, newsV_s, seval, eV]
      have nv : ∀ y c, lk HH y = some c → slB (.slice av (wdsL M A k ++ [(M.getD (A + k) z2).w]).length cv) ≠ some y := fun y c e => s5.ne e
      refine ⟨_, _, rfl, good_set (k' := .loop (N1.r 6) .busy) (good_up g4 b1 l1) b6 (by rw [lk_upH, x61, cond_false]; exact l6), lk_top, fun y c h6 h1 e => ?_, .slice av (wdsL M A k ++ [(M.getD (A + k) z2).w]).length cv, ?_, ?_⟩
      · have y6 : (y == N1.n 6) = false := eqb h6
        have y1 : (y == N1.n 1) = false := eqb h1
        rw [lk_cons, y6, cond_false, lk_upH, y1, cond_false]
        exact k4 y c (jn _ _ e) (fn _ _ (by rw [lk_cons, y6, cond_false]; exact jp y c h6 h1 e))
      · rw [lk_cons, x16, cond_false, lk_upH, beq_self_eq_true, cond_true]
      · rw [← hwd]
        refine SlM.mono s5 fun y c hy e => ?_
        rw [lk_cons, eqb (fun h' => nv _ _ p6 (by rw [← h']; exact hy)), cond_false, lk_upH, eqb (fun h' => nv _ _ p1 (by rw [← h']; exact hy)), cond_false]
        exact e
    · rintro k H2 hk ⟨j6, jp, vO, j1, js⟩
      refine ⟨jp _ _ (ni 4 6 (by decide)) (ni 4 1 (by decide)) p4, jp _ _ (ni 2 6 (by decide)) (ni 2 1 (by decide)) p2, jp _ _ (ni 3 6 (by decide)) (ni 3 1 (by decide)) p3, jp _ _ (ni 0 6 (by decide)) (ni 0 1 (by decide)) p0, fun hk2 => ?_⟩
      have hlk2 := jp _ _ (nbi 6).symm (nbi 1).symm hlkH
      rw [rdB_none bb, rdO_none, bb, rdN_none, hlk2, rdL_some, k_cells]
      have := fl_read c2_len M rest (A + k) 0 1 z2 (by omega) (by omega)
      rw [Nat.add_zero] at this
      rw [this]; rfl
  obtain ⟨H2, N2, rfl, g2, j6, jp, vO, j1, js⟩ := hO
  have e2b : N.n 2 ≠ b := fun e => by rw [← e, q2] at h0b; cases h0b
  have e3b : N.n 3 ≠ b := fun e => by rw [← e, q3] at h0b; cases h0b
  have e0b : N.n 0 ≠ b := fun e => by rw [← e, q0] at h0b; cases h0b
  have en2 : ∀ i, N.n 2 ≠ N1.n i := fun i e => by have := m2 i; rw [e] at this; simp at this
  have en3 : ∀ i, N.n 3 ≠ N1.n i := fun i e => by have := m3 i; rw [e] at this; simp at this
  have en0 : ∀ i, N.n 0 ≠ N1.n i := fun i e => by have := m0 i; rw [e] at this; simp at this
  have b16 := hB1 6
  have gp := good_set (k := .loop (N1.r 6) .over) g2 b16 j6
  -- what lies where, behind the range
  have hp : ∀ y c, y ≠ N1.n 6 → y ≠ N1.n 1 → lk HH y = some c → lk ((N1.n 6, .loop (N1.r 6) .over) :: H2) y = some c := fun y c h6 h1 e => by
    rw [lk_cons, eqb h6, cond_false]; exact jp y c h6 h1 e
  have wq2 := hp _ _ (en2 6) (en2 1) (fH _ _ q2')
  have wq3 := hp _ _ (en3 6) (en3 1) (fH _ _ q3')
  have wc := hp _ _ (en0 6) (en0 1) (fH _ _ q0')
  have wq0 := hp _ _ (ni 0 6 (by decide)) (ni 0 1 (by decide)) p0
  have wb := hp _ _ (nbi 6).symm (nbi 1).symm hlkH
  have jsp : SlM w1 1 B HH ((N1.n 6, .loop (N1.r 6) .over) :: H2) vO (wdsL M A (LG p h)) := js.mono fun y c hy e => by
    rw [lk_cons, eqb (fun h' => js.ne p6 (by rw [← h']; exact hy)), cond_false]; exact e
  obtain ⟨v4, H4, N4, e4, g4, r4, s4⟩ := fUnpack hT C gp (jsp.rd w1_len) (wdsL_u hMs A _) (by rw [wdsL_len]; omega)
  have x16 : (N1.n 1 == N1.n 6) = false := by rw [hI1]; rfl
  have b11 := hB1 1
  have rb11 := rN b11
  have b10 := hB1 0
  have rb10 := rN b10
  have u2 := r4 _ _ wq2
  have u3 := r4 _ _ wq3
  have u0 := r4 _ _ wq0
  have ub := r4 _ _ wb
  have y06 : (N.n 0 == N1.n 6) = false := eqb (en0 6)
  have wc2 := jp _ _ (en0 6) (en0 1) (fH _ _ q0')
  have hvc : vO.cells = #[vO] := by obtain ⟨a, c, rfl, _⟩ := jsp.rd w1_len; rfl
  have k4 := ne_N g4 u3
  have k4' := ne_N' g4 u3
  have k42 := ne_N g4 u2
  have n03 : (N1.n 0 == N.n 3) = false := eqb (en3 0).symm
  have f4 : Fr H H4 := fun y c e => by
    have e0 := f0 _ _ e
    have e1 := r1 _ _ e0
    have h6 : y ≠ N1.n 6 := fun h => by have := ne_N g1 e1 6; rw [h] at this; simp at this
    have h1 : y ≠ N1.n 1 := fun h => by have := ne_N g1 e1 1; rw [h] at this; simp at this
    exact r4 _ _ (hp y c h6 h1 (fH _ _ e1))
  have gE := fun k => good_up (k := k) g4 b3 u3
  have fE := fun k => fr_up (k := k) f4 (lk_N hN 3)
  have b4 := good_B g4
  have R4 := good_rdB g4
  by_cases hu : unOk p h (wdsL M A (LG p h))
  case neg =>
    obtain ⟨t1, t2⟩ := un_no hu
    rw [hRn hu, t2]
    rw [t2] at e4
    simp (disch := omega) only [J33, hB, hR, hI, itR2_wloglog1, List.cons_append, EgL, j6, j1, b16, x16, b11, rb11, hvc, y06, wc2, b0, rb0, e4, u2, u3, b2, b3, rb2, rb3, k4, k4', k42, n23, n32, b4, R4, all1, ress, res1, retV, Value.cells, newsV_s, seval, eV]
    refine ⟨_, _, _, rfl, ?_, ?_, .inl ⟨rfl, rfl⟩⟩
    · exact good_new (k := .cells [.int .i64 2] 1) (good_up (k := .cells [.int .i64 2] 1) (gE (.cells [.int .i64 2] 1)) b3 (by rw [lk_upH, beq_self_eq_true, cond_true]))
    · exact fr_new (k := .cells [.int .i64 2] 1) (good_up (k := .cells [.int .i64 2] 1) (gE (.cells [.int .i64 2] 1)) b3 (by rw [lk_upH, beq_self_eq_true, cond_true])) (fr_up (fE (.cells [.int .i64 2] 1)) (lk_N hN 3)) 0
  obtain ⟨t1, t2⟩ := un_ok hu
  rw [hRy hu, t2]
  rw [t2] at e4
  have hin : ∀ i, i < (unR p h (wdsL M A (LG p h))).length → 0 ≤ ((unR p h (wdsL M A (LG p h))).getD i y2).a ∧ ((unR p h (wdsL M A (LG p h))).getD i y2).a < (M.length : Int) := fun i hi => by
    rw [t1] at hi ⊢
    rw [unL_len] at hi
    rw [unL_at _ _ _ hi]
    have := okP_b C (hu.2.2.1 i hi)
    have h5 := hok.2
    simp only; omega
  have hll : (unR p h (wdsL M A (LG p h))).length ≤ 800000 := by
    rw [t1, unL_len]
    have h1 := hu.2.1
    have h2 := C.h
    have h3 := C.p
    unfold unN; omega
  generalize unR p h (wdsL M A (LG p h)) = l at *
  have sl := s4.len
  have hbl : slB v4 ≠ some b := s4.ne wb
  have g5 := gE (.cells [.int .i64 0] 1)
  have sM : SlM c2 2 B H (upH H4 (N.n 3) (.cells [.int .i64 0] 1)) (.slice (some ⟨b, 0, none⟩) M.length c1) M := .inr ⟨b, c1, rest, rfl, bb, f0.dm _ h0b, hle, by rw [lk_upH, eqb e3b.symm, cond_false]; exact ub⟩
  have s5 : SlM w2 2 B ((N1.n 6, .loop (N1.r 6) .over) :: H2) (upH H4 (N.n 3) (.cells [.int .i64 0] 1)) v4 l := s4.mono fun y c hy e => by
    rw [lk_upH, eqb (fun h' => s4.ne wq3 (by rw [← h']; exact hy)), cond_false]; exact e
  simp (disch := omega) only [J33, hB, hR, hI, itR2_wloglog1, List.cons_append, EgL, j6, j1, b16, x16, b11, rb11, hvc, y06, wc2, b0, rb0, e4, u2, u3, b2, b3, rb2, rb3, k4, k4', k42, n23, n32, b4, R4, sl, all1, ress, res1, retV, Value.cells, newsV_s, seval, eV]
  clear hX
  generalize hX : exec B _ _ (LC.loop _) _ = o
  obtain ⟨x, ⟨ts6, H6, N6⟩, ho, rfl, g6, k6, s6, kp⟩ := (show Ok o _ by rw [← hX]; exact loopLy (o6 := N.n 2) (o7 := N.n 3) (ow := N1.n 0) g5 rfl sM hM s5 hbl hll hin (by rw [lk_upH, n03, cond_false]; exact u0) (hB1 0) (nbi 0) ⟨rfl, rfl, rfl, rfl, rfl, rfl, rfl⟩ (by omega))
  subst ho
  simp only at g6 k6 s6 kp
  have v0 := k6 _ _ (nbi 0) (by rw [lk_upH, n03, cond_false]; exact u0)
  have v2 := k6 _ _ e2b (by rw [lk_upH, n23, cond_false]; exact u2)
  have v3 := k6 _ _ e3b (by rw [lk_upH, beq_self_eq_true, cond_true])
  simp (disch := omega) only [J33, hB, hR, hI, itR2_wloglog1, List.cons_append, EgL, kp.l, kp.t6, kp.t7, kp.t8, kp.t37, kp.t38, kp.t39, v0, v2, v3, b10, rb10, b2, rb2, b3, rb3, n23, n32, all1, ress, res1, retV, Value.cells, newsV_s, seval, eV]
  have z2' := good_up (k := .cells [.slice (some ⟨b, 0, none⟩) M.length c1] 1) g6 b2 v2
  have z3 := good_up (k := .cells [.int .i64 0] 1) z2' b3 (by rw [lk_upH, n32, cond_false]; exact v3)
  have f6 : Fr H H6 := fun y c e => by
    have h1 : y ≠ b := fun h => by rw [← h, f0 _ _ e] at h0b; cases h0b
    exact k6 _ _ h1 (fE (.cells [.int .i64 0] 1) _ _ e)
  have fz := fr_up (k := .cells [.int .i64 0] 1) (fr_up (k := .cells [.slice (some ⟨b, 0, none⟩) M.length c1] 1) f6 (lk_N hN 2)) (lk_N hN 3)
  refine ⟨_, _, _, rfl, z3, fz, SlM.mono s6 fun y c hy e => ?_⟩
  have hyb : y = b := by simpa [slB] using hy.symm
  subst hyb
  rw [lk_upH, eqb e3b.symm, cond_false, lk_upH, eqb e2b.symm, cond_false]; exact e
end Go.Proofs.YtfhiplfagejfoaaDoor
namespace Go.Proofs.YtfhiplfagejfoaaDoor
open Go.Proofs.YtfhiplfagejfoaaDoor.K Go.ChangeShapes Go.WideShapes Go.ChangeAt Go.RowKit 
set_option maxRecDepth 100000
set_option linter.unusedSimpArgs false
set_option linter.unusedVariables false
structure KLo (c m A : Nat) (vo : Value) (i : Nat) (ts : List Value) : Prop where
  l : ts.length = 35
  t3 : gt ts 3 = .pointer (some ⟨c, 0, none⟩)
  t4 : gt ts 4 = .pointer (some ⟨m, 0, none⟩)
  t7 : gt ts 7 = .int .i64 (A : Int)
  t9 : gt ts 9 = vo
  t10 : gt ts 10 = .int .i64 (i : Int)
end Go.Proofs.YtfhiplfagejfoaaDoor
namespace Go.Proofs.YtfhiplfagejfoaaDoor
open Go.Proofs.YtfhiplfagejfoaaDoor.K Go.ChangeShapes Go.WideShapes Go.ChangeAt Go.RowKit 
set_option maxRecDepth 100000
set_option linter.unusedSimpArgs false
set_option linter.unusedVariables false
structure KRw (c o6 ow A i : Nat) (ts : List Value) : Prop where
  l : ts.length = 43
  t3 : gt ts 3 = .pointer (some ⟨c, 0, none⟩)
  t6 : gt ts 6 = .pointer (some ⟨o6, 0, none⟩)
  t9 : gt ts 9 = .pointer (some ⟨ow, 0, none⟩)
  t10 : gt ts 10 = .int .i64 (A : Int)
  t12 : gt ts 12 = .int .i64 (i : Int)
theorem slm_elim {B : OH} {H0 H : HL} {v : Value} {L : List C2} (h : SlM c2 2 B H0 H v L) (hL : 0 < L.length) : ∃ b cap rest, v = .slice (some ⟨b, 0, none⟩) L.length cap ∧ B b = none ∧ lk H0 b = none ∧ L.length ≤ cap ∧ lk H b = some (.cells (fl c2 L ++ rest) (cap * 2)) := by
  rcases h with ⟨h0, _⟩ | h
  · rw [h0] at hL; simp at hL
  · exact h
structure KRl (o6 ow : Nat) (vl : Value) (i : Nat) (ts : List Value) : Prop where
  l : ts.length = 57
  t6 : gt ts 6 = .pointer (some ⟨o6, 0, none⟩)
  t9 : gt ts 9 = vl
  t11 : gt ts 11 = .pointer (some ⟨ow, 0, none⟩)
  t12 : gt ts 12 = .int .i64 (i : Int)
end Go.Proofs.YtfhiplfagejfoaaDoor
namespace Go.Proofs.YtfhiplfagejfoaaDoor
open Go.Proofs.YtfhiplfagejfoaaDoor.K Go.ChangeShapes Go.WideShapes Go.ChangeAt Go.RowKit 
set_option maxRecDepth 100000
set_option linter.unusedSimpArgs false
set_option linter.unusedVariables false
def Llaw16pick : FnL := ⟨(.seq (.ops [oa 4 (.mv (oi 0))])
 (.seq (.seq (.ops [om 5 0,oa 6 (.bin .lss (ot 5) (oi 0))])
 (.cond (ot 6) (.ops [om 7 0,oa 8 (.bin .add (ot 7) (oi 1)),oa 9 (.un .neg (ot 8)),om 0 9])
 .skip))
 (.seq (.ops [om 10 0,om 11 1,oa 12 (.bin .rem (ot 10) (ot 11)),om 4 12])
 .ret))),
 13, [.tmp 4]⟩
theorem lowlaw16pick : lowerFn Tryd.prog Tryd.f12 = some Llaw16pick := by kernel_rfl
noncomputable def Glaw16pick (B : OH) : Nat → Cs
  | _ => fun _ _ _ => none
theorem sGlaw16pick {w0 : World} {B : OH} : SoundG Tryd.prog w0 B { f := Glaw16pick B } := .of fun k => by
  unfold Glaw16pick
  split
  · exact .inl fun _ _ _ => rfl
theorem enlaw16pick : Enter Tryd.prog 12 := .of Tryd.func12 (by kernel_rfl) (by kernel_rfl)
noncomputable def Tlaw16pick (B : OH) : Cs := callF B { f := Glaw16pick B } 1000000 Llaw16pick
theorem sTlaw16pick {w0 : World} {B : OH} : SoundC Tryd.prog w0 B 12 (Tlaw16pick B) := callF_sound mixedOrders sGlaw16pick 1000000 Tryd.func12 lowlaw16pick
noncomputable def Flaw16pick (B : OH) : List Value → Option Value := kval B (Tlaw16pick B)
noncomputable def Vlaw16pick (B : OH) : Cs := fun a H N => pvE (Flaw16pick B a) H N
theorem Vlaw16pick_eq {B : OH} {a : List Value} {H : HL} {N : St} : Vlaw16pick B a H N = pvE (Flaw16pick B a) H N := rfl
theorem sVlaw16pick {w0 : World} {B : OH} : SoundC Tryd.prog w0 B 12 (Vlaw16pick B) := sTlaw16pick.ofVal
theorem J34 : Said (an @Tlaw16pick.eq_1 <| an @Llaw16pick.eq_1 <| trivial) := said_ok _
theorem fpick {B : OH} (hG : ∃ H N, good B H N) (x n : Int) (hx : i64R x) (hn : 0 < n ∧ n ≤ 9223372036854775807) : Flaw16pick B [.int .i64 x, .int .i64 n] = some (.int .i64 (pk x n)) := by
  unfold i64R at hx
  refine kval_eq hG fun H N hN => ?_
  obtain ⟨hB, hR, hI⟩ := gX hN
  have hn0 : ¬ n = 0 := by omega
  unfold pk
  by_cases h : x < 0
  · have hw : IntKind.i64.wrap (0 - (x + 1)) = -(x + 1) := by rw [IntWalk.i64_in _ (by omega)]; omega
    simp (disch := omega) only [J34, hB, hR, hI, h, hn0, hw, all1, ress, res1, retV, Value.cells, newsV_s, seval, eV]
    with_reducible refine done2 ?_
    repeat (first | refine ext_new hN ?_ | exact fun _ _ h => h)
  · simp (disch := omega) only [J34, hB, hR, hI, h, hn0, all1, ress, res1, retV, Value.cells, newsV_s, seval, eV]
    with_reducible refine done2 ?_
    repeat (first | refine ext_new hN ?_ | exact fun _ _ h => h)
def Llaw16Conf : FnL := ⟨(.seq (.ops [oa 1 (.box (ot 0)),oa 2 (.alloc [(.int .i64 0), (.int .i64 0), (.int .i64 0)])])
 (.seq (.draw [oe 3 (.iaddrA 1 3 (ot 1) (oi 0)),pl 4 3,oe 7 (.iaddrA 1 3 (ot 1) (oi 1)),pl 8 7,oe 11 (.iaddrA 1 3 (ot 1) (oi 2)),pl 12 11, ⟨oa 5 (.call (.func 12) [(ot 4), (oi 5)]), [ol 8 7,ol 12 11]⟩,oe 6 (.bin .add (oi 1) (ot 5)), ⟨oa 9 (.call (.func 12) [(ot 8), (oi 4)]), [ol 12 11]⟩,oe 10 (.bin .add (oi 1) (ot 9)),oe 13 (.call (.func 12) [(ot 12), (oi 4)]),oe 14 (.bin .add (oi 1) (ot 13)),oe 15 (.build [(.int .i64 0), (.int .i64 0), (.int .i64 0)] [(0, 1, (ot 6)), (1, 1, (ot 10)), (2, 1, (ot 14))]), ⟨oc (.store 3 (ot 2) (ot 15)),[]⟩])
 .ret)),
 16, [.cell 2 true 3]⟩
theorem lowlaw16Conf : lowerFn Tryd.prog Tryd.f9 = some Llaw16Conf := by kernel_rfl
noncomputable def Glaw16Conf (B : OH) : Nat → Cs
  | 12 => Vlaw16pick B
  | _ => fun _ _ _ => none
theorem Glaw16Conf_law16pick {B : OH} : Glaw16Conf B 12 = Vlaw16pick B := rfl
theorem sGlaw16Conf {w0 : World} {B : OH} : SoundG Tryd.prog w0 B { f := Glaw16Conf B } := .of fun k => by
  unfold Glaw16Conf
  split
  · exact .inr ⟨enlaw16pick, sVlaw16pick⟩
  · exact .inl fun _ _ _ => rfl
theorem enlaw16Conf : Enter Tryd.prog 9 := .of Tryd.func9 (by kernel_rfl) (by kernel_rfl)
noncomputable def Tlaw16Conf (B : OH) : Cs := callF B { f := Glaw16Conf B } 1000000 Llaw16Conf
theorem sTlaw16Conf {w0 : World} {B : OH} : SoundC Tryd.prog w0 B 9 (Tlaw16Conf B) := callF_sound mixedOrders sGlaw16Conf 1000000 Tryd.func9 lowlaw16Conf
noncomputable def Flaw16Conf (B : OH) : List Value → Option Value := kval B (Tlaw16Conf B)
noncomputable def Vlaw16Conf (B : OH) : Cs := fun a H N => pvE (Flaw16Conf B a) H N
theorem Vlaw16Conf_eq {B : OH} {a : List Value} {H : HL} {N : St} : Vlaw16Conf B a H N = pvE (Flaw16Conf B a) H N := rfl
theorem sVlaw16Conf {w0 : World} {B : OH} : SoundC Tryd.prog w0 B 9 (Vlaw16Conf B) := sTlaw16Conf.ofVal
theorem J35 : Said (an @Tlaw16Conf.eq_1 <| an @Llaw16Conf.eq_1 <| an @Glaw16Conf_law16pick <| an @Vlaw16pick_eq <| trivial) := said_ok _
set_option maxHeartbeats 1000000 in
theorem fConf {B : OH} (hG : ∃ H N, good B H N) {a b c : Int} (ha : i64R a) (hb : i64R b) (hc : i64R c) : Flaw16Conf B [.agg #[.int .i64 a, .int .i64 b, .int .i64 c]] = some (.agg #[.int .i64 (1 + pk a 5), .int .i64 (1 + pk b 4), .int .i64 (1 + pk c 4)]) := by
  refine kval_eq hG fun H N hN => ?_
  obtain ⟨hB, hR, hI⟩ := gX hN
  have ea := fpick hG a 5 ha (by omega)
  have eb := fpick hG b 4 hb (by omega)
  have ec := fpick hG c 4 hc (by omega)
  have ba := pk_b (x := a) (n := 5) (by omega)
  have bb := pk_b (x := b) (n := 4) (by omega)
  have bc := pk_b (x := c) (n := 4) (by omega)
  simp (disch := omega) only [J35, hB, hR, hI, ea, eb, ec, all1, ress, res1, retV, Value.cells, newsV_s, seval, eV]
  with_reducible refine done2 ?_
  repeat (first | refine ext_new hN ?_ | exact fun _ _ h => h)
theorem conf_cf (a b c : Int) : ∃ kk p cc h : Nat, 1 + pk a 5 = (kk : Int) ∧ 1 + pk b 4 = (p : Int) ∧ 1 + pk c 4 = (cc : Int) ∧ Cf kk p cc h ∧ p ≤ 4 ∧ cc ≤ 4 := by
  have ba := pk_b (x := a) (n := 5) (by omega)
  have bb := pk_b (x := b) (n := 4) (by omega)
  have bc := pk_b (x := c) (n := 4) (by omega)
  obtain ⟨kk, p, cc, h, e1, e2, e3, C⟩ := fit_cf (k := 1 + pk a 5) (p := 1 + pk b 4) (c := 1 + pk c 4) ⟨by omega, by omega, by omega⟩
  exact ⟨kk, p, cc, h, e1, e2, e3, C, by omega, by omega⟩
structure Q2 where
  a : Int
  b : Int
def q2 (x : Q2) : List Value := [.int .i64 x.a, .int .i64 x.b]
theorem q2_len (x : Q2) : (q2 x).length = 2 := rfl
structure Q3 where
  a : Int
  b : Int
  c : Int
def q3 (x : Q3) : List Value := [.int .i64 x.a, .int .i64 x.b, .int .i64 x.c]
def q30 : Q3 := ⟨0, 0, 0⟩
theorem q3_len (x : Q3) : (q3 x).length = 3 := rfl
def Q3s (l : List Q3) : Prop := ∀ x ∈ l, i64R x.a ∧ i64R x.b ∧ i64R x.c
structure KWo (p h c : Nat) (vr vo : Value) (i : Nat) (ts : List Value) : Prop where
  l : ts.length = 97
  t1 : gt ts 1 = vr
  t2 : gt ts 2 = .pointer (some ⟨c, 0, none⟩)
  t5 : gt ts 5 = .int .i64 ((bs p h 2 : Nat) : Int)
  t7 : gt ts 7 = .int .i64 ((bs p h 4 : Nat) : Int)
  t9 : gt ts 9 = .int .i64 (h : Int)
  t10 : gt ts 10 = vo
  t11 : gt ts 11 = .int .i64 (i : Int)
structure KWi (p h c : Nat) (vr vo : Value) (i m : Nat) (t : Bool) (k : Nat) (ts : List Value) : Prop where
  l : ts.length = 97
  t1 : gt ts 1 = vr
  t2 : gt ts 2 = .pointer (some ⟨c, 0, none⟩)
  t5 : gt ts 5 = .int .i64 ((bs p h 2 : Nat) : Int)
  t7 : gt ts 7 = .int .i64 ((bs p h 4 : Nat) : Int)
  t9 : gt ts 9 = .int .i64 (h : Int)
  t10 : gt ts 10 = vo
  t11 : gt ts 11 = .int .i64 (i : Int)
  t13 : gt ts 13 = .pointer (some ⟨m, 0, none⟩)
  t14 : gt ts 14 = .bool t
  t15 : gt ts 15 = .int .i64 (k : Int)
end Go.Proofs.YtfhiplfagejfoaaDoor
namespace Go.Proofs.YtfhiplfagejfoaaDoor
open Go.Proofs.YtfhiplfagejfoaaDoor.K Go.ChangeShapes Go.WideShapes Go.ChangeAt Go.RowKit 
set_option maxRecDepth 100000
set_option linter.unusedSimpArgs false
set_option linter.unusedVariables false
theorem wr_c2w {L : List C2} {rest : List Value} {i : Nat} (x : Int) (hi : i < L.length) : wr (fl c2 L ++ rest) (i * 2) [.int .u64 x] = some (fl c2 (L.set i ⟨x, (L.getD i z2).l⟩) ++ rest) := by
  have h1 := wr_fl c2_len L i 0 [.int .u64 x] z2 ⟨x, (L.getD i z2).l⟩ hi (by simp) rfl
  rw [Nat.add_zero] at h1
  rw [wr_append_left _ _ _ _ (by rw [fl_length c2_len]; simp; omega), h1]; rfl
def withW (M : List C2) (A : Nat) (w : List Int) : Nat → List C2
  | 0 => M
  | n + 1 => (withW M A w n).set (A + n) ⟨w.getD n 0, ((withW M A w n).getD (A + n) z2).l⟩
theorem withW_len (M : List C2) (A : Nat) (w : List Int) : ∀ n, (withW M A w n).length = M.length
  | 0 => rfl
  | n + 1 => by show (List.set _ _ _).length = _; rw [List.length_set]; exact withW_len M A w n
theorem withW_at (M : List C2) (A : Nat) (w : List Int) : ∀ n i, A + n ≤ M.length → (withW M A w n).getD i z2 = if A ≤ i ∧ i < A + n then ⟨w.getD (i - A) 0, (M.getD i z2).l⟩ else M.getD i z2
  | 0, i, _ => by rw [if_neg (by omega)]; rfl
  | n + 1, i, h => by
    show (List.set _ _ _).getD i z2 = _
    rw [getD_set _ _ _ _ _ (by rw [withW_len]; omega)]
    have ih := withW_at M A w n
    by_cases e : A + n = i
    · subst e
      rw [if_pos rfl, if_pos (by omega), ih _ (by omega), if_neg (by omega), show A + n - A = n by omega]
    · rw [if_neg e, ih _ (by omega)]
      by_cases e2 : A ≤ i ∧ i < A + n
      · rw [if_pos e2, if_pos (by omega)]
      · rw [if_neg e2, if_neg (by omega)]
theorem c2s_set {L : List C2} (h : C2s L) (i : Nat) {x : C2} (hx : u64R x.w ∧ i64R x.l) : C2s (L.set i x) := fun y hy => by
  rcases List.mem_or_eq_of_mem_set hy with h' | h'
  · exact h y h'
  · rw [h']; exact hx
theorem withW_s {M : List C2} (hM : C2s M) (A : Nat) {w : List Int} (hw : U64s w) : ∀ n, C2s (withW M A w n)
  | 0 => hM
  | n + 1 => c2s_set (withW_s hM A hw n) _ ⟨hw.at n, ((withW_s hM A hw n).at (A + n)).2⟩
theorem rep_c2s (n : Nat) : C2s (List.replicate n z2) := fun x hx => by
  rw [(List.mem_replicate.1 hx).2]; unfold z2 u64R i64R; simp only; omega
def lbWt : LC := (.seq (.seq (.ops [om 21 12,om 22 3,oa 23 (.len false (ot 22)),oa 24 (.bin .lss (ot 21) (ot 23)),om 25 24,ob 26 (.mv (ot 12)) 25 true,ob 27 (.load true 3 (ot 4)) 25 true,ob 28 (.call (.func 40) [(ot 27)]) 25 true,ob 29 (.bin .lss (ot 26) (ot 28)) 25 true,oa 30 (.pick (ot 25) (ot 29) (.const (.bool false)))])
 (.cond (ot 30) .skip
 (.exit 0)))
 (.seq (.block 1 (.draw [pg 33 0 9,pl 34 33,pm 35 10,pm 36 12,oe 37 (.bin .add (ot 35) (ot 36)),pm 38 3,pm 39 12,oe 40 (.iaddrS 1 (ot 38) (ot 39)),pl 41 40,oe 42 (.iaddrS 2 (ot 34) (ot 37)),pg 43 0 42, ⟨oc (.store 1 (ot 43) (ot 41)),[]⟩]))
 (.ops [om 31 12,oa 32 (.bin .add (ot 31) (oi 1)),om 12 32])))
def LlH : FnL := ⟨(.seq (.ops [oa 4 (.box (ot 0)),oa 5 (.box (ot 1)),oa 8 (.alloc [(.slice none 0 0)])])
 (.seq (.ops [oa 13 (.load true 1 (ot 5)),oa 14 (.call (.func 49) [(ot 13)]),oa 9 (.alloc [(.slice none 0 0)]), oc (.store 1 (ot 9) (ot 14))])
 (.seq (.ops [oa 16 (.load true 3 (ot 4)),om 17 2,oa 18 (.call (.func 37) [(ot 16), (oi 3), (ot 17)]),om 15 18,oa 19 (.ext (ot 15) 0),oa 20 (.ext (ot 15) 1),om 10 19,om 11 20])
 (.seq (.seq (.ops [oa 12 (.mv (oi 0))])
 (.block 0 (.loop lbWt)))
 (.seq (.ops [oa 44 (.load true 1 (ot 9)), oc (.store 1 (ot 8) (ot 44))])
 .ret))))),
 45, [.cell 8 true 1]⟩
theorem lowlH : lowerFn Tryd.prog Tryd.f23 = some LlH := by kernel_rfl
noncomputable def GlH (B : OH) : Nat → Cs
  | 49 => Vref03Own B
  | 37 => Vref04At B
  | 40 => VrS B
  | _ => fun _ _ _ => none
theorem GlH_ref03Own {B : OH} : GlH B 49 = Vref03Own B := rfl
theorem GlH_ref04At {B : OH} : GlH B 37 = Vref04At B := rfl
theorem GlH_rS {B : OH} : GlH B 40 = VrS B := rfl
theorem sGlH {w0 : World} {B : OH} : SoundG Tryd.prog w0 B { f := GlH B } := .of fun k => by
  unfold GlH
  split
  · exact .inr ⟨enref03Own, sVref03Own⟩
  · exact .inr ⟨enref04At, sVref04At⟩
  · exact .inr ⟨enrS, sVrS⟩
  · exact .inl fun _ _ _ => rfl
theorem enlH : Enter Tryd.prog 23 := .of Tryd.func23 (by kernel_rfl) (by kernel_rfl)
noncomputable def TlH (B : OH) : Cs := callF B { f := GlH B } 1000000 LlH
theorem sTlH {w0 : World} {B : OH} : SoundC Tryd.prog w0 B 23 (TlH B) := callF_sound mixedOrders sGlH 1000000 Tryd.func23 lowlH
noncomputable def VlH (B : OH) : Cs := TlH B
theorem sVlH {w0 : World} {B : OH} : SoundC Tryd.prog w0 B 23 (VlH B) := sTlH
structure KWt (vw : Value) (c o8 ow A i : Nat) (ts : List Value) : Prop where
  l : ts.length = 45
  t3 : gt ts 3 = vw
  t4 : gt ts 4 = .pointer (some ⟨c, 0, none⟩)
  t8 : gt ts 8 = .pointer (some ⟨o8, 0, none⟩)
  t9 : gt ts 9 = .pointer (some ⟨ow, 0, none⟩)
  t10 : gt ts 10 = .int .i64 (A : Int)
  t12 : gt ts 12 = .int .i64 (i : Int)
theorem J36 : Said (an @TlH.eq_1 <| an @LlH.eq_1 <| an @GlH_ref03Own <| an @GlH_ref04At <| an @Vref04At_eq <| an @GlH_rS <| an @VrS_eq <| an @lbWt.eq_1 <| trivial) := said_ok _
set_option maxHeartbeats 4000000 in
theorem loopWt {B : OH} {Hx H : HL} {N : St} {M : List C2} {vw : Value} {w : List Int} {rest : List Value} {kk p cc h c o8 ow A b len cap : Nat} (C : Cf kk p cc h) (hw : SlR w1 1 B Hx vw w) (hFx : Fr Hx H) (hxb : lk Hx b = none) (hlen : len = M.length) (hA : A + LG p h ≤ M.length) (hM : M.length ≤ 800000) (hN : good B H N) (bc : B c = none) (bo : B ow = none) (bb : B b = none) (lc : lk H c = some (.cells [.int .i64 (kk : Int), .int .i64 (p : Int), .int .i64 (cc : Int)] 3)) (lo : lk H ow = some (.cells [.slice (some ⟨b, 0, none⟩) len cap] 1)) (hlk : lk H b = some (.cells (fl c2 M ++ rest) (cap * 2))) (hcb : c ≠ b) (hob : ow ≠ b) {ts : List Value} (kp : KWt vw c o8 ow A 0 ts) {F : Nat} (hF : 3000 + min w.length (LG p h) + 1 ≤ F) :
    Ok (exec B { f := GlH B } F (LC.loop lbWt) ⟨ts, H, N⟩) (fun x s => x = .exit 0 ∧ good B s.H s.N ∧ (∀ y c', y ≠ b → lk H y = some c' → lk s.H y = some c') ∧ lk s.H b = some (.cells (fl c2 (withW M A w (min w.length (LG p h))) ++ rest) (cap * 2)) ∧ KWt vw c o8 ow A (min w.length (LG p h)) s.t) := by
  have hlb := LG_b C
  have hlw := hw.len
  subst hlen
  obtain ⟨n, hn⟩ : ∃ n, n = min w.length (LG p h) := ⟨_, rfl⟩
  rw [← hn] at hF ⊢
  refine loop_rule (n0 := 3000) (fun q s => ∃ ts H' N', ∃ i : Nat, s = ⟨ts, H', N'⟩ ∧ KWt vw c o8 ow A i ts ∧ good B H' N' ∧ (∀ y c', y ≠ b → lk H y = some c' → lk H' y = some c') ∧ lk H' b = some (.cells (fl c2 (withW M A w i) ++ rest) (cap * 2)) ∧ i ≤ n ∧ q = n - i) _ ?_ n _ ⟨ts, H, N, 0, rfl, kp, hN, fun _ _ _ e => e, hlk, by omega, rfl⟩ _ hF
  clear kp hF F ts hN N hlk
  rintro z q s ⟨ts, H1, N1, i, rfl, kp, g, fk, hlk, hi, rfl⟩
  obtain ⟨hB, hR, hI⟩ := gX g
  have e1 := rLog ⟨H1, N1, g⟩ C
  have lc1 := fk _ _ hcb lc
  have lo1 := fk _ _ hob lo
  have rc := rN bc
  have ro := rN bo
  have hc1 : ((i + 1 : Nat) : Int) = (i : Int) + 1 := by omega
  by_cases hin : i < n
  case neg =>
    obtain rfl : i = n := by omega
    by_cases h1 : i < w.length
    · have h1' : (i : Int) < (w.length : Int) := by omega
      have h2' : ¬ (i : Int) < (LG p h : Int) := by omega
      simp (disch := omega) only [J36, hB, hR, hI, kp.l, kp.t3, kp.t4, kp.t8, kp.t9, kp.t10, kp.t12, lc1, bc, rc, e1, hlw, h1', h2', all1, ress, res1, retV, Value.cells, newsV_s, seval, eV]
      refine ok_some (.inr ⟨by simp, rfl, g, fk, hlk, ⟨?_, ?_, ?_, ?_, ?_, ?_, ?_⟩⟩)
      all_goals simp (disch := omega) only [kp.l, kp.t3, kp.t4, kp.t8, kp.t9, kp.t10, kp.t12, Int.cast_ofNat_Int, decide_true, ev2, seval, ev5]
    · have h1' : ¬ (i : Int) < (w.length : Int) := by omega
      simp (disch := omega) only [J36, hB, hR, hI, kp.l, kp.t3, kp.t4, kp.t8, kp.t9, kp.t10, kp.t12, lc1, bc, rc, e1, hlw, h1', all1, ress, res1, retV, Value.cells, newsV_s, seval, eV]
      refine ok_some (.inr ⟨by simp, rfl, g, fk, hlk, ⟨?_, ?_, ?_, ?_, ?_, ?_, ?_⟩⟩)
      all_goals simp (disch := omega) only [kp.l, kp.t3, kp.t4, kp.t8, kp.t9, kp.t10, kp.t12, Int.cast_ofNat_Int, decide_true, ev2, seval, ev5]
  have hin' : (i : Int) < (LG p h : Int) := by omega
  have hiw : i < w.length := by omega
  have hiw' : (i : Int) < (w.length : Int) := by omega
  have i0 : (0 : Int) ≤ (i : Int) := by omega
  have hidx : A + i < M.length := by omega
  have x1 : (A : Int) + (i : Int) = ((A + i : Nat) : Int) := by omega
  have x2 : IntKind.i64.wrap ((A + i : Nat) : Int) = ((A + i : Nat) : Int) := IntWalk.i64_in _ (by omega)
  have x3 : (0 : Int) ≤ ((A + i : Nat) : Int) := by omega
  have fx : Fr Hx H1 := fun y c e => fk y c (fun h' => by rw [h', hxb] at e; cases e) (hFx y c e)
  obtain ⟨bw, orw, cw, rfl, _, rr⟩ := hw.at (by omega)
  have r1 : rdO H1 B bw (orw + i * 1) 1 (rdB B bw (orw + i * 1) 1) = some [.int .u64 (w.getD i 0)] := by
    have := rr H1 fx i 0 1 0 hiw (by omega)
    rw [Nat.add_zero] at this
    exact this.trans rfl
  have hwr : wr (fl c2 (withW M A w i) ++ rest) ((A + i) * 2) [.int .u64 (w.getD i 0)] = some (fl c2 (withW M A w (i + 1)) ++ rest) := wr_c2w (w.getD i 0) (by rw [withW_len]; exact hidx)
  simp (disch := omega) only [J36, hB, hR, hI, kp.l, kp.t3, kp.t4, kp.t8, kp.t9, kp.t10, kp.t12, lc1, bc, rc, lo1, bo, ro, e1, hlw, hin', hiw, hiw', i0, r1, hidx, x1, x2, x3, hlk, bb, hwr, all1, ress, res1, retV, Value.cells, newsV_s, seval, eV]
  have gu := good_up (k := .cells (fl c2 (withW M A w (i + 1)) ++ rest) (cap * 2)) g bb hlk
  refine ok_some (.inl ⟨rfl, n - (i + 1), by omega, _, _, _, i + 1, rfl, ⟨?_, ?_, ?_, ?_, ?_, ?_, ?_⟩, gu, fun y c' h1 e => ?_, ?_, by omega, rfl⟩)
  rotate_right
  · rw [lk_upH, beq_self_eq_true, cond_true]
  rotate_right
  · rw [lk_upH, eqb h1, cond_false]; exact fk y c' h1 e
  all_goals simp (disch := omega) only [kp.l, kp.t3, kp.t4, kp.t8, kp.t9, kp.t10, kp.t12, hc1, Int.cast_ofNat_Int, decide_true, ev2, seval, ev5]
theorem J37 : Said (an @TlH.eq_1 <| an @LlH.eq_1 <| an @GlH_ref03Own <| an @GlH_ref04At <| an @Vref04At_eq <| an @GlH_rS <| an @VrS_eq <| trivial) := said_ok _
set_option maxHeartbeats 8000000 in
theorem fWith {B : OH} {H : HL} {N : St} {vm vw : Value} {M : List C2} {w : List Int} {kk p cc h q : Nat} (C : Cf kk p cc h) (hN : good B H N) (hv : SlW c2 2 B H vm M) (hw : SlR w1 1 B H vw w) (hM : M.length = bs p h 5) (hq : q < p) :
    ∃ v' H' N', VlH B [.agg #[.int .i64 (kk : Int), .int .i64 (p : Int), .int .i64 (cc : Int)], .agg #[vm], .int .i64 (q : Int), vw] H N = some (.ret (.agg #[v']), H', N') ∧ good B H' N' ∧ Fr H H' ∧ SlM c2 2 B H H' v' (withW M (lgA p h q) w (min w.length (LG p h))) := by
  obtain ⟨hB, hR, hI⟩ := gX hN
  have hG : ∃ H N, good B H N := ⟨H, N, hN⟩
  have b0 := hB 0
  have rb0 := rN b0
  have b1 := hB 1
  have rb1 := rN b1
  have b2 := hB 2
  have rb2 := rN b2
  have h5 := bs5_b C
  have hlb := LG_b C
  have hb := lgA_b (q := (q : Int)) C ⟨by omega, hM⟩
  have e3 := rAt3 hG C hq
  have hlA : bs p h 3 + LG p h * q = lgA p h (q : Int) := rfl
  rw [hlA] at e3
  generalize lgA p h (q : Int) = A at *
  obtain ⟨H0, hH0⟩ : ∃ H0, H0 = (N.n 2, KB.cells [.slice none 0 0] 1) :: (N.n 1, .cells [vm] 1) :: (N.n 0, .cells [.int .i64 (kk : Int), .int .i64 (p : Int), .int .i64 (cc : Int)] 3) :: H := ⟨_, rfl⟩
  have g0 : good B H0 (sh (sh (sh N))) := by rw [hH0]; exact good_new (good_new (good_new hN))
  have f0 : Fr H H0 := by
    rw [hH0]
    have a1 := good_new (k := .cells [.int .i64 (kk : Int), .int .i64 (p : Int), .int .i64 (cc : Int)] 3) hN
    have a2 := good_new (k := .cells [vm] 1) a1
    exact fr_new a2 (fr_new a1 (fr_new hN Fr.refl 0) 0) 0
  have q2 : lk H0 (N.n 2) = some (.cells [.slice none 0 0] 1) := by rw [hH0]; simp only [lk_cons, hI]; rfl
  have q0 : lk H0 (N.n 0) = some (.cells [.int .i64 (kk : Int), .int .i64 (p : Int), .int .i64 (cc : Int)] 3) := by rw [hH0]; simp only [lk_cons, hI]; rfl
  have q1 : lk H0 (N.n 1) = some (.cells [vm] 1) := by rw [hH0]; simp only [lk_cons, hI]; rfl
  obtain ⟨v', H1, N1, eo, g1, r1, s1⟩ := own g0 (hv.mono f0) (by omega)
  obtain ⟨b, cap, rest, rfl, bb, h0b, hle, hlk⟩ := slm_elim s1 (by omega)
  rw [hH0] at eo
  have q0' := r1 _ _ q0
  have q2' := r1 _ _ q2
  have m0 := ne_N g1 q0'
  have m2 := ne_N g1 q2'
  have mb := ne_N g1 hlk
  unfold VlH
  simp (disch := omega) only [J37, hB, hR, hI, e3, eo, q0', b0, rb0, m0, m2, good_B g1, good_rdB g1, all1, ress, res1, retV, Value.cells, newsV_s, seval, eV]
  have g2 : good B ((N1.n 0, .cells [.slice (some ⟨b, 0, none⟩) M.length cap] 1) :: H1) (sh N1) := good_new g1
  have f2 : Fr H1 ((N1.n 0, .cells [.slice (some ⟨b, 0, none⟩) M.length cap] 1) :: H1) := fr_new g1 Fr.refl 0
  have e0b : N.n 0 ≠ b := fun e => by rw [← e, q0] at h0b; cases h0b
  have e2b : N.n 2 ≠ b := fun e => by rw [← e, q2] at h0b; cases h0b
  have eob : N1.n 0 ≠ b := fun e => by have := mb 0; rw [e] at this; simp at this
  generalize hX : exec B _ _ (LC.loop _) _ = o
  obtain ⟨x, ⟨ts, H3, N3⟩, rfl, rfl, g3, k3, l3, kp⟩ := (show Ok o _ by rw [← hX]; exact loopWt (c := N.n 0) (o8 := N.n 2) (ow := N1.n 0) (A := A) C (hw.mono f0) (r1.trans f2) h0b rfl (by omega) (by omega) g2 b0 (good_B g1 0) bb (f2 _ _ q0') lk_top (f2 _ _ hlk) e0b eob ⟨rfl, rfl, rfl, rfl, rfl, rfl, rfl⟩ (by omega))
  simp only at g3 k3 l3 kp
  have w0 := k3 _ _ eob lk_top
  have wq2 := k3 _ _ e2b (f2 _ _ q2')
  have b10 := good_B g1 0
  have rb10 := rN b10
  simp (disch := omega) only [J37, hB, hR, hI, kp.l, kp.t3, kp.t4, kp.t8, kp.t9, kp.t10, kp.t12, w0, wq2, b10, rb10, b2, rb2, all1, ress, res1, retV, Value.cells, newsV_s, seval, eV]
  have g4 := good_up (k := .cells [.slice (some ⟨b, 0, none⟩) M.length cap] 1) g3 b2 wq2
  have f3 : Fr H H3 := fun y c e => k3 y c (fun h' => by rw [← h', f0 _ _ e] at h0b; cases h0b) (f2 _ _ (r1 _ _ (f0 _ _ e)))
  refine ⟨_, _, _, rfl, g4, fr_up f3 (lk_N hN 2), .inr ⟨b, cap, rest, by rw [withW_len], bb, f0.dm _ h0b, by rw [withW_len]; exact hle, ?_⟩⟩
  rw [lk_upH, eqb e2b.symm, cond_false]; exact l3
structure KMm (vr : Value) (c o4 ow i : Nat) (ts : List Value) : Prop where
  l : ts.length = 56
  t1 : gt ts 1 = vr
  t2 : gt ts 2 = .pointer (some ⟨c, 0, none⟩)
  t4 : gt ts 4 = .pointer (some ⟨o4, 0, none⟩)
  t5 : gt ts 5 = .pointer (some ⟨ow, 0, none⟩)
  t7 : gt ts 7 = .int .i64 (i : Int)
end Go.Proofs.YtfhiplfagejfoaaDoor
namespace Go.Proofs.YtfhiplfagejfoaaDoor
open Go.Proofs.YtfhiplfagejfoaaDoor.K Go.ChangeShapes Go.WideShapes Go.ChangeAt Go.RowKit 
set_option maxRecDepth 100000
set_option linter.unusedSimpArgs false
set_option linter.unusedVariables false
theorem cf1 : Cf 1 1 1 1 := ⟨by omega, by omega, by omega, rfl⟩
def wA : List Int := [1, 13, 5, 0, 0, 0, 0]
def wB : List Int := [1, 13, 5, 0, 0, 0, 1]
theorem wA_u : U64s wA := by unfold U64s wA u64R; decide
theorem wB_u : U64s wB := by unfold U64s wB u64R; decide
theorem okP_13 : okP 1 1 13 := by unfold okP; decide
theorem okP_12 : ¬ okP 1 1 12 := by unfold okP; decide
theorem okL_13 : okL 1 1 [⟨13, 5⟩] 1 := fun i hi => by
  obtain rfl : i = 0 := by omega
  exact ⟨okP_13, fun j hj => by omega⟩
theorem okL_12 : ¬ okL 1 1 [⟨12, 5⟩] 1 := fun h => okP_12 (h 0 (by omega)).1
theorem pE_13 : packE 1 1 [⟨13, 5⟩] = 0 := packE_ok (by decide) okL_13
theorem pE_12 : packE 1 1 [⟨12, 5⟩] = 1 := packE_bad (by decide) okL_12
theorem pW_13 : packW 1 1 [⟨13, 5⟩] = wA := rfl
theorem un_A : unOk 1 1 wA := ⟨rfl, by decide, fun i hi => by
  obtain rfl : i = 0 := by have : unN wA = 1 := rfl
                           omega
  exact okP_13, pE_13, rfl⟩
theorem un_B : ¬ unOk 1 1 wB := fun h => by
  have := h.2.2.2.2
  rw [show packW 1 1 (unL wB (unN wB)) = wA from rfl] at this
  exact absurd this (by decide)
theorem W2s1 (a w : Int) (ha : i64R a) (hw : u64R w) : W2s [⟨a, w⟩] := fun x hx => by rw [List.mem_singleton.1 hx]; exact ⟨ha, hw⟩
def mA : List C2 := withW (List.replicate 14 z2) (lgA 1 1 0) wA 7
theorem mA_ok : memOk 1 1 0 mA := ⟨by decide, rfl⟩
theorem mA_s : C2s mA := withW_s (rep_c2s 14) _ wA_u 7
theorem mA_w : wdsL mA (lgA 1 1 0) (LG 1 1) = wA := rfl
theorem unR_A : unR 1 1 wA = [⟨13, 5⟩] := (un_ok un_A).1
def xA : List C2 := lay mA [⟨13, 5⟩] 1
theorem lE_A : layE 1 1 0 mA = 0 := by unfold layE; rw [if_pos mA_ok, mA_w]; exact (un_ok un_A).2
theorem lR_A : layR 1 1 0 mA = xA := by unfold layR; rw [mA_w, if_pos ⟨mA_ok, un_A⟩, unR_A]; rfl
theorem xA_ok : memOk 1 1 0 xA := ⟨by decide, rfl⟩
def yA : List C2 := wiped xA (lgA 1 1 0) (LG 1 1)
theorem wE_A : wipE 1 1 0 xA = 0 := if_pos xA_ok
theorem wR_A : wipR 1 1 0 xA = yA := if_pos xA_ok
theorem slr_at {α : Type} {f : α → List Value} {sz : Nat} {B : OH} {H : HL} {b o n cap : Nat} {L : List α} (h : SlR f sz B H (.slice (some ⟨b, o, none⟩) n cap) L) (hL : 0 < L.length) : ∀ H', Fr H H' → ∀ i j k d, i < L.length → j + k ≤ sz → rdO H' B b (o + i * sz + j) k (rdB B b (o + i * sz + j) k) = tk (f (L.getD i d)) j k := by
  obtain ⟨b', o', c', he, _, rr⟩ := h.at hL
  simp only [Value.slice.injEq, Option.some.injEq, Addr.mk.injEq] at he
  obtain ⟨⟨rfl, rfl, _⟩, _, _⟩ := he
  exact rr
def LlA : FnL := ⟨(.seq (.ops [oa 0 (.mv (.const (.bool false)))])
 (.seq (.ops [oa 21 (.build [(.int .i64 0), (.int .i64 0), (.int .i64 0)] [(0, 1, (oi 1)), (1, 1, (oi 1)), (2, 1, (oi 1))]),oa 1 (.alloc [(.int .i64 0), (.int .i64 0), (.int .i64 0)]), oc (.store 3 (ot 1) (ot 21))])
 (.seq (.ops [oa 23 (.load true 3 (ot 1)),oa 24 (.call (.func 21) [(ot 23), (oi 0), (oi 0)]),om 22 24,oa 25 (.ext (ot 22) 0),oa 26 (.ext (ot 22) 1),oa 27 (.ext (ot 22) 2),om 2 25,om 3 26,om 4 27])
 (.seq (.ops [oa 29 (.load true 3 (ot 1)),oa 30 (.build [(.int .i64 0), (.int .u64 0)] [(0, 1, (oi 13)), (1, 1, (ou 5))]),oa 31 (.buildS [(.int .i64 0), (.int .u64 0)] 1 [(0, 2, (ot 30))]),oa 32 (.call (.func 16) [(ot 29), (ot 31)]),om 28 32,oa 33 (.ext (ot 28) 0),oa 34 (.ext (ot 28) 1),om 5 33,om 6 34])
 (.seq (.ops [oa 36 (.load true 3 (ot 1)),oa 37 (.buildS [(.int .u64 0), (.int .u64 0), (.int .u64 0), (.int .u64 0), (.int .u64 0), (.int .u64 0), (.int .u64 0)] 7 [(0, 1, (ou 1)), (1, 1, (ou 13)), (2, 1, (ou 5)), (3, 1, (ou 0)), (4, 1, (ou 0)), (5, 1, (ou 0)), (6, 1, (ou 0))]),oa 38 (.call (.func 18) [(ot 36), (ot 37)]),om 35 38,oa 39 (.ext (ot 35) 0),oa 40 (.ext (ot 35) 1),om 7 39,om 8 40])
 (.seq (.ops [oa 42 (.load true 3 (ot 1)),oa 43 (.build [(.int .i64 0), (.int .u64 0)] [(0, 1, (oi 12)), (1, 1, (ou 5))]),oa 44 (.buildS [(.int .i64 0), (.int .u64 0)] 1 [(0, 2, (ot 43))]),oa 45 (.call (.func 16) [(ot 42), (ot 44)]),om 41 45,oa 46 (.ext (ot 41) 0),oa 47 (.ext (ot 41) 1),om 9 46,om 10 47])
 (.seq (.ops [oa 49 (.load true 3 (ot 1)),oa 50 (.buildS [(.int .u64 0), (.int .u64 0), (.int .u64 0), (.int .u64 0), (.int .u64 0), (.int .u64 0), (.int .u64 0)] 7 [(0, 1, (ou 1)), (1, 1, (ou 13)), (2, 1, (ou 5)), (3, 1, (ou 0)), (4, 1, (ou 0)), (5, 1, (ou 0)), (6, 1, (ou 1))]),oa 51 (.call (.func 18) [(ot 49), (ot 50)]),om 48 51,oa 52 (.ext (ot 48) 0),oa 53 (.ext (ot 48) 1),om 11 52,om 12 53])
 (.seq (.ops [oa 55 (.call (.func 36) [(oi 14)]),om 54 55,oa 56 (.ext (ot 54) 0),oa 57 (.ext (ot 54) 1),oa 13 (.alloc [(.slice none 0 0)]), oc (.store 1 (ot 13) (ot 56)),om 14 57])
 (.seq (.seq (.draw [oe 59 (.load true 3 (ot 1)),oe 60 (.load true 3 (ot 1)),oe 61 (.load true 1 (ot 13)),pm 62 5])
 (.fork (.seq (.draw [⟨oa 63 (.call (.func 23) [(ot 60), (ot 61), (oi 0), (ot 62)]), [oa 59 (.load true 3 (ot 1))]⟩])
 (.fork (.draw [oe 64 (.call (.func 24) [(ot 59), (ot 63), (oi 0)]),pm 58 64,oe 65 (.ext (ot 58) 0),oe 66 (.ext (ot 58) 1),oe 15 (.alloc [(.slice none 0 0)]), ⟨oc (.store 1 (ot 15) (ot 65)),[]⟩,pm 16 66])
 (.draw [⟨oa 15 (.alloc [(.slice none 0 0)]), [oa 59 (.load true 3 (ot 1))]⟩,oe 64 (.call (.func 24) [(ot 59), (ot 63), (oi 0)]),pm 58 64,oe 65 (.ext (ot 58) 0),oe 66 (.ext (ot 58) 1), ⟨oc (.store 1 (ot 15) (ot 65)),[]⟩,pm 16 66])))
 (.draw [⟨oa 15 (.alloc [(.slice none 0 0)]), [oa 59 (.load true 3 (ot 1)),oa 60 (.load true 3 (ot 1)),oa 61 (.load true 1 (ot 13))]⟩,⟨oa 63 (.call (.func 23) [(ot 60), (ot 61), (oi 0), (ot 62)]), [oa 59 (.load true 3 (ot 1))]⟩,oe 64 (.call (.func 24) [(ot 59), (ot 63), (oi 0)]),pm 58 64,oe 65 (.ext (ot 58) 0),oe 66 (.ext (ot 58) 1), ⟨oc (.store 1 (ot 15) (ot 65)),[]⟩,pm 16 66])))
 (.seq (.ops [oa 68 (.load true 3 (ot 1)),oa 69 (.load true 1 (ot 15)),oa 70 (.call (.func 26) [(ot 68), (ot 69), (oi 0)]),om 67 70,oa 71 (.ext (ot 67) 0),oa 72 (.ext (ot 67) 1),oa 17 (.alloc [(.slice none 0 0)]), oc (.store 1 (ot 17) (ot 71)),om 18 72])
 (.seq (.ops [oa 74 (.load true 3 (ot 1)),oa 75 (.call (.func 14) [(ot 74), (ou 12)]),om 73 75,oa 76 (.ext (ot 73) 0),oa 77 (.ext (ot 73) 1),om 19 76,om 20 77])
 (.seq (.seq (.ops [og 78 0 15,ol 79 78,oa 80 (.len false (ot 79)),oa 81 (.bin .neq (ot 80) (oi 14)),om 82 81,ob 83 (.faddr 0 (ot 17)) 82 false,ob 84 (.load false 1 (ot 83)) 82 false,ob 85 (.len false (ot 84)) 82 false,ob 86 (.bin .neq (ot 85) (oi 14)) 82 false,oa 87 (.pick (ot 82) (.const (.bool true)) (ot 86))])
 (.cond (ot 87) (.seq (.ops [oa 0 (.mv (.const (.bool false)))])
 .ret)
 .skip))
 (.seq (.ops [om 88 4,oa 89 (.bin .eql (ot 88) (oi 0)),om 90 89,ob 91 (.mv (ot 2)) 90 true,ob 92 (.bin .eql (ot 91) (oi 7)) 90 true,oa 93 (.pick (ot 90) (ot 92) (.const (.bool false))),om 94 93,ob 95 (.mv (ot 3)) 94 true,ob 96 (.bin .eql (ot 95) (oi 8)) 94 true,oa 97 (.pick (ot 94) (ot 96) (.const (.bool false))),om 98 97,ob 99 (.mv (ot 6)) 98 true,ob 100 (.bin .eql (ot 99) (oi 0)) 98 true,oa 101 (.pick (ot 98) (ot 100) (.const (.bool false))),om 102 101,ob 103 (.mv (ot 5)) 102 true,ob 104 (.buildS [(.int .u64 0), (.int .u64 0), (.int .u64 0), (.int .u64 0), (.int .u64 0), (.int .u64 0), (.int .u64 0)] 7 [(0, 1, (ou 1)), (1, 1, (ou 13)), (2, 1, (ou 5)), (3, 1, (ou 0)), (4, 1, (ou 0)), (5, 1, (ou 0)), (6, 1, (ou 0))]) 102 true,ob 105 (.call (.func 17) [(ot 103), (ot 104)]) 102 true,oa 106 (.pick (ot 102) (ot 105) (.const (.bool false))),om 107 106,ob 108 (.mv (ot 8)) 107 true,ob 109 (.bin .eql (ot 108) (oi 0)) 107 true,oa 110 (.pick (ot 107) (ot 109) (.const (.bool false))),om 111 110,ob 112 (.mv (ot 7)) 111 true,ob 113 (.build [(.int .i64 0), (.int .u64 0)] [(0, 1, (oi 13)), (1, 1, (ou 5))]) 111 true,ob 114 (.buildS [(.int .i64 0), (.int .u64 0)] 1 [(0, 2, (ot 113))]) 111 true,ob 115 (.call (.func 20) [(ot 112), (ot 114)]) 111 true,oa 116 (.pick (ot 111) (ot 115) (.const (.bool false))),om 117 116,ob 118 (.mv (ot 10)) 117 true,ob 119 (.bin .eql (ot 118) (oi 1)) 117 true,oa 120 (.pick (ot 117) (ot 119) (.const (.bool false))),om 121 120,ob 122 (.mv (ot 12)) 121 true,ob 123 (.bin .eql (ot 122) (oi 2)) 121 true,oa 124 (.pick (ot 121) (ot 123) (.const (.bool false))),om 125 124,ob 126 (.mv (ot 16)) 125 true,ob 127 (.bin .eql (ot 126) (oi 0)) 125 true,oa 128 (.pick (ot 125) (ot 127) (.const (.bool false))),om 129 128,ob 130 (.faddr 0 (ot 15)) 129 true,ob 131 (.load false 1 (ot 130)) 129 true,ob 132 (.iaddrS 2 (ot 131) (oi 13)) 129 true,ob 133 (.faddr 0 (ot 132)) 129 true,ob 134 (.load false 1 (ot 133)) 129 true,ob 135 (.bin .eql (ot 134) (ou 5)) 129 true,oa 136 (.pick (ot 129) (ot 135) (.const (.bool false))),om 137 136,ob 138 (.faddr 0 (ot 15)) 137 true,ob 139 (.load false 1 (ot 138)) 137 true,ob 140 (.iaddrS 2 (ot 139) (oi 6)) 137 true,ob 141 (.faddr 0 (ot 140)) 137 true,ob 142 (.load false 1 (ot 141)) 137 true,ob 143 (.bin .eql (ot 142) (ou 1)) 137 true,oa 144 (.pick (ot 137) (ot 143) (.const (.bool false))),om 145 144,ob 146 (.mv (ot 18)) 145 true,ob 147 (.bin .eql (ot 146) (oi 0)) 145 true,oa 148 (.pick (ot 145) (ot 147) (.const (.bool false))),om 149 148,ob 150 (.faddr 0 (ot 17)) 149 true,ob 151 (.load false 1 (ot 150)) 149 true,ob 152 (.iaddrS 2 (ot 151) (oi 13)) 149 true,ob 153 (.faddr 0 (ot 152)) 149 true,ob 154 (.load false 1 (ot 153)) 149 true,ob 155 (.bin .eql (ot 154) (ou 5)) 149 true,oa 156 (.pick (ot 149) (ot 155) (.const (.bool false))),om 157 156,ob 158 (.faddr 0 (ot 17)) 157 true,ob 159 (.load false 1 (ot 158)) 157 true,ob 160 (.iaddrS 2 (ot 159) (oi 6)) 157 true,ob 161 (.faddr 0 (ot 160)) 157 true,ob 162 (.load false 1 (ot 161)) 157 true,ob 163 (.bin .eql (ot 162) (ou 0)) 157 true,oa 164 (.pick (ot 157) (ot 163) (.const (.bool false))),om 165 164,ob 166 (.mv (ot 20)) 165 true,ob 167 (.un .not (ot 166)) 165 true,oa 168 (.pick (ot 165) (ot 167) (.const (.bool false))),om 0 168])
 .ret))))))))))))),
 169, [.tmp 0]⟩
theorem lowlA : lowerFn Tryd.prog Tryd.f8 = some LlA := by kernel_rfl
noncomputable def GlA (B : OH) : Nat → Cs
  | 23 => VlH B
  | 36 => Vref03New B
  | 20 => Vref05Writes B
  | 17 => Vref10Words B
  | 24 => VgL B
  | 16 => VgP B
  | 14 => VwlogPlace B
  | 21 => VwlogSpot B
  | 18 => VgU B
  | 26 => VgW B
  | _ => fun _ _ _ => none
theorem GlA_lH {B : OH} : GlA B 23 = VlH B := rfl
theorem GlA_ref03New {B : OH} : GlA B 36 = Vref03New B := rfl
theorem GlA_ref05Writes {B : OH} : GlA B 20 = Vref05Writes B := rfl
theorem GlA_ref10Words {B : OH} : GlA B 17 = Vref10Words B := rfl
theorem GlA_gL {B : OH} : GlA B 24 = VgL B := rfl
theorem GlA_gP {B : OH} : GlA B 16 = VgP B := rfl
theorem GlA_wlogPlace {B : OH} : GlA B 14 = VwlogPlace B := rfl
theorem GlA_wlogSpot {B : OH} : GlA B 21 = VwlogSpot B := rfl
theorem GlA_gU {B : OH} : GlA B 18 = VgU B := rfl
theorem GlA_gW {B : OH} : GlA B 26 = VgW B := rfl
theorem sGlA {w0 : World} {B : OH} : SoundG Tryd.prog w0 B { f := GlA B } := .of fun k => by
  unfold GlA
  split
  · exact .inr ⟨enlH, sVlH⟩
  · exact .inr ⟨enref03New, sVref03New⟩
  · exact .inr ⟨enref05Writes, sVref05Writes⟩
  · exact .inr ⟨enref10Words, sVref10Words⟩
  · exact .inr ⟨engL, sVgL⟩
  · exact .inr ⟨engP, sVgP⟩
  · exact .inr ⟨enwlogPlace, sVwlogPlace⟩
  · exact .inr ⟨enwlogSpot, sVwlogSpot⟩
  · exact .inr ⟨engU, sVgU⟩
  · exact .inr ⟨engW, sVgW⟩
  · exact .inl fun _ _ _ => rfl
theorem enlA : Enter Tryd.prog 8 := .of Tryd.func8 (by kernel_rfl) (by kernel_rfl)
noncomputable def TlA (B : OH) : Cs := callF B { f := GlA B } 1000000 LlA
theorem sTlA {w0 : World} {B : OH} : SoundC Tryd.prog w0 B 8 (TlA B) := callF_sound mixedOrders sGlA 1000000 Tryd.func8 lowlA
noncomputable def VlA (B : OH) : Cs := TlA B
theorem sVlA {w0 : World} {B : OH} : SoundC Tryd.prog w0 B 8 (VlA B) := sTlA
theorem J38 : Said (an @TlA.eq_1 <| an @LlA.eq_1 <| an @GlA_lH <| an @GlA_ref03New <| an @GlA_ref05Writes <| an @GlA_ref10Words <| an @GlA_gL <| an @GlA_gP <| an @GlA_wlogPlace <| an @VwlogPlace_eq <| an @GlA_wlogSpot <| an @VwlogSpot_eq <| an @GlA_gU <| an @GlA_gW <| trivial) := said_ok _
set_option maxHeartbeats 8000000 in
theorem fAwake {B : OH} {H : HL} {N : St} (hT : Tab B) (hN : good B H N) : ∃ H' N', VlA B [] H N = some (.ret (.bool true), H', N') ∧ good B H' N' ∧ Fr H H' := by
  obtain ⟨hB, hR, hI⟩ := gX hN
  have hG : ∃ H N, good B H N := ⟨H, N, hN⟩
  have b0 := hB 0
  have rb0 := rN b0
  have eS : FwlogSpot B [.agg #[.int .i64 1, .int .i64 1, .int .i64 1], .int .i64 0, .int .i64 0] = some (.tuple #[.int .i64 7, .int .i64 8, .int .i64 0]) := (fSpot hG hT cf1 0 0).trans (by unfold spV; rw [if_pos (by decide)]; rfl)
  have eP : FwlogPlace B [.agg #[.int .i64 1, .int .i64 1, .int .i64 1], .int .u64 12] = some (.tuple #[.int .i64 0, .bool false]) := (fPlace hG hT cf1 (w := 12) (by unfold u64R; decide)).trans (by rw [plV_n okP_12])
  obtain ⟨H1, hH1⟩ : ∃ H1, H1 = (N.n 1, KB.cells [.int .i64 13, .int .u64 5] 2) :: (N.n 0, .cells [.int .i64 1, .int .i64 1, .int .i64 1] 3) :: H := ⟨_, rfl⟩
  have g0 : good B ((N.n 0, .cells [.int .i64 1, .int .i64 1, .int .i64 1] 3) :: H) (sh N) := good_new hN
  have g1 : good B H1 (sh (sh N)) := by rw [hH1]; exact good_new g0
  have f1 : Fr H H1 := by rw [hH1]; exact fr_new g0 (fr_new hN Fr.refl 0) 0
  have q1 : lk H1 (N.n 0) = some (.cells [.int .i64 1, .int .i64 1, .int .i64 1] 3) := by rw [hH1]; exact fr_new g0 Fr.refl 0 _ _ lk_top
  have s1 : SlN w2 2 B ((N.n 0, .cells [.int .i64 1, .int .i64 1, .int .i64 1] 3) :: H) H1 (.slice (some ⟨N.n 1, 0, none⟩) 1 1) [⟨13, 5⟩] := by rw [hH1]; exact slN_new (B := B) (f := w2) (sz := 2) g0 [⟨13, 5⟩] (cs := [.int .i64 13, .int .u64 5]) (n := 1) (m := 2) rfl rfl rfl
  obtain ⟨v5, H2, N2, e2, g2, f2, s5⟩ := fPack hT cf1 g1 (s1.rd w2_len) (W2s1 13 5 (by unfold i64R; decide) (by unfold u64R; decide))
  rw [pE_13, if_pos rfl, pW_13] at *
  have e2 : VgP B [.agg #[.int .i64 1, .int .i64 1, .int .i64 1], .slice (some ⟨N.n 1, 0, none⟩) 1 1] H1 (sh (sh N)) = some (.ret (.tuple #[v5, .int .i64 0]), H2, N2) := e2
  rw [hH1] at e2
  have q2 := f2 _ _ q1
  have fr2 : Fr H H2 := f1.trans f2
  -- Unpack of the good words
  have g3 : good B ((N2.n 0, .cells (fl w1 wA) 7) :: H2) (sh N2) := good_new g2
  have f3 : Fr H2 ((N2.n 0, .cells (fl w1 wA) 7) :: H2) := fr_new g2 Fr.refl 0
  have s3 := slN_new (B := B) (f := w1) (sz := 1) g2 wA (cs := fl w1 wA) (n := 7) (m := 7) rfl rfl rfl
  obtain ⟨v7, H4, N4, e4, g4, f4, s7⟩ := fUnpack hT cf1 g3 (s3.rd w1_len) wA_u (by decide)
  rw [(un_ok un_A).2, unR_A] at *
  have e4 : VgU B [.agg #[.int .i64 1, .int .i64 1, .int .i64 1], .slice (some ⟨N2.n 0, 0, none⟩) 7 7] ((N2.n 0, .cells [.int .u64 1, .int .u64 13, .int .u64 5, .int .u64 0, .int .u64 0, .int .u64 0, .int .u64 0] 7) :: H2) (sh N2) = some (.ret (.tuple #[v7, .int .i64 0]), H4, N4) := e4
  have fr4 : Fr H2 H4 := f3.trans f4
  have q4 := fr4 _ _ q2
  -- Pack of a write beside
  have g5 : good B ((N4.n 0, .cells [.int .i64 12, .int .u64 5] 2) :: H4) (sh N4) := good_new g4
  have f5 : Fr H4 ((N4.n 0, .cells [.int .i64 12, .int .u64 5] 2) :: H4) := fr_new g4 Fr.refl 0
  have s5b := slN_new (B := B) (f := w2) (sz := 2) g4 [⟨12, 5⟩] (cs := [.int .i64 12, .int .u64 5]) (n := 1) (m := 2) rfl rfl rfl
  obtain ⟨v9, H6, N6, e6, g6, f6, s9⟩ := fPack hT cf1 g5 (s5b.rd w2_len) (W2s1 12 5 (by unfold i64R; decide) (by unfold u64R; decide))
  rw [pE_12] at *
  have e6 : VgP B [.agg #[.int .i64 1, .int .i64 1, .int .i64 1], .slice (some ⟨N4.n 0, 0, none⟩) 1 1] ((N4.n 0, .cells [.int .i64 12, .int .u64 5] 2) :: H4) (sh N4) = some (.ret (.tuple #[v9, .int .i64 1]), H6, N6) := e6
  have fr6 : Fr H4 H6 := f5.trans f6
  have q6 := fr6 _ _ q4
  -- Unpack of the bad words
  have g7 : good B ((N6.n 0, .cells (fl w1 wB) 7) :: H6) (sh N6) := good_new g6
  have f7 : Fr H6 ((N6.n 0, .cells (fl w1 wB) 7) :: H6) := fr_new g6 Fr.refl 0
  have s7b := slN_new (B := B) (f := w1) (sz := 1) g6 wB (cs := fl w1 wB) (n := 7) (m := 7) rfl rfl rfl
  obtain ⟨v11, H8, N8, e8, g8, f8, s11⟩ := fUnpack hT cf1 g7 (s7b.rd w1_len) wB_u (by decide)
  rw [(un_no un_B).2] at e8
  have e8 : VgU B [.agg #[.int .i64 1, .int .i64 1, .int .i64 1], .slice (some ⟨N6.n 0, 0, none⟩) 7 7] ((N6.n 0, .cells [.int .u64 1, .int .u64 13, .int .u64 5, .int .u64 0, .int .u64 0, .int .u64 0, .int .u64 1] 7) :: H6) (sh N6) = some (.ret (.tuple #[v11, .int .i64 2]), H8, N8) := e8
  have fr8 : Fr H6 H8 := f7.trans f8
  have q8 := fr8 _ _ q6
  -- New
  obtain ⟨v13, H9, N9, e9, g9, f9, s13⟩ := mnew g8 (n := 14) (by decide)
  have e9 : Vref03New B [.int .i64 14] H8 N8 = some (.ret (.tuple #[.agg #[v13], .int .i64 0]), H9, N9) := e9
  have q9 := f9 _ _ q8
  obtain ⟨b13, c13, r13, rfl, bb13, h013, hle13, hlk13⟩ := slm_elim s13.toM (by decide)
  have e9 : Vref03New B [.int .i64 14] H8 N8 = some (.ret (.tuple #[.agg #[.slice (some ⟨b13, 0, none⟩) 14 c13], .int .i64 0]), H9, N9) := e9
  have m9 := ne_N g9 q9
  have g10 : good B ((N9.n 0, .cells [.slice (some ⟨b13, 0, none⟩) 14 c13] 1) :: H9) (sh N9) := good_new g9
  have f10 : Fr H9 ((N9.n 0, .cells [.slice (some ⟨b13, 0, none⟩) 14 c13] 1) :: H9) := fr_new g9 Fr.refl 0
  have w5 := ((s5.rd w1_len).mono (fr4.trans (fr6.trans (fr8.trans f9))))
  have b9 := good_B g9 0
  have q10 := f10 _ _ q9
  unfold VlA
  simp (disch := omega) only [J38, hB, hR, hI, eS, e2, e4, e6, e8, e9, q2, q4, q6, q8, q9, b0, rb0, m9, good_B g9, good_rdB g9, all1, ress, res1, retV, Value.cells, newsV_s, seval, eV]
  have gg : ∀ {H N}, good B H N → good B H (shg N) := fun h => h
  cases hg : N9.g 1 with
  | true =>
    obtain ⟨vM, H11, N11, e11, g11, f11, s11⟩ := fWith (q := 0) cf1 (gg g10) ((s13.toM.wh c2_len).mono f10) (w5.mono f10) rfl (by decide)
    have e11 : VlH B [.agg #[.int .i64 1, .int .i64 1, .int .i64 1], .agg #[.slice (some ⟨b13, 0, none⟩) 14 c13], .int .i64 0, v5] ((N9.n 0, .cells [.slice (some ⟨b13, 0, none⟩) 14 c13] 1) :: H9) (shg (sh N9)) = some (.ret (.agg #[vM]), H11, N11) := e11
    have s11 : SlM c2 2 B _ H11 vM mA := s11
    have q11 := f11 _ _ q10
    cases hg2 : N11.g 0 with
    | true =>
      obtain ⟨vX, H12, N12, e12, g12, f12, s12⟩ := fLay hT cf1 (gg g11) (s11.wh c2_len) (by decide) mA_s (q := 0)
      rw [lE_A, lR_A] at *
      have s12 : SlM c2 2 B H11 H12 vX xA := s12
      obtain ⟨bX, cX, rX, rfl, _, _, _, _⟩ := slm_elim s12 (by decide)
      have e12 : VgL B [.agg #[.int .i64 1, .int .i64 1, .int .i64 1], .agg #[vM], .int .i64 0] H11 (shg N11) = some (.ret (.tuple #[.agg #[.slice (some ⟨bX, 0, none⟩) 14 cX], .int .i64 0]), H12, N12) := e12
      have q12 := f12 _ _ q11
      have m12 := ne_N g12 q12
      have m12' := ne_N' g12 q12
      obtain ⟨HT, hHT⟩ : ∃ HT, HT = (N12.n 0, KB.cells [.slice (some ⟨bX, 0, none⟩) 14 cX] 1) :: H12 := ⟨_, rfl⟩
      have gT : good B HT (sh N12) := by rw [hHT]; exact good_new g12
      have fX : Fr H12 HT := by rw [hHT]; exact fr_new g12 Fr.refl 0
      have qT := fX _ _ q12
      have xT : lk HT (N12.n 0) = some (.cells [.slice (some ⟨bX, 0, none⟩) 14 cX] 1) := by rw [hHT]; exact lk_top
      have f9T : Fr H9 HT := f10.trans (f11.trans (f12.trans fX))
      have bX_ := good_B g12 0
      have rbX := rN bX_
      simp (disch := omega) only [J38, hB, hR, hI, e11, e12, q11, q12, hg2, b0, rb0, m12, good_B g12, good_rdB g12, all1, ress, res1, retV, Value.cells, newsV_s, seval, eV]
      obtain ⟨vY, H14, N14, e14, g14, f14, s14⟩ := fWipe hT cf1 gT (s12.wh c2_len |>.mono fX) (q := 0) (by decide)
      rw [wE_A, wR_A] at *
      have sx := (s12.rd c2_len).mono (fX.trans f14)
      have sy := s14.rd c2_len
      obtain ⟨bY, cY, rY, rfl, _, _, _, _⟩ := slm_elim s14 (by decide)
      have e14 : VgW B [.agg #[.int .i64 1, .int .i64 1, .int .i64 1], .agg #[.slice (some ⟨bX, 0, none⟩) 14 cX], .int .i64 0] HT (sh N12) = some (.ret (.tuple #[.agg #[.slice (some ⟨bY, 0, none⟩) 14 cY], .int .i64 0]), H14, N14) := e14
      have q14 := f14 _ _ qT
      have x14 := f14 _ _ xT
      have m14 := ne_N g14 q14
      have mx14 := ne_N g14 x14
      rw [hHT] at e14 qT xT
      have g15 : good B ((N14.n 0, .cells [.slice (some ⟨bY, 0, none⟩) 14 cY] 1) :: H14) (sh N14) := good_new g14
      have f15 : Fr H14 ((N14.n 0, .cells [.slice (some ⟨bY, 0, none⟩) 14 cY] 1) :: H14) := fr_new g14 Fr.refl 0
      have g16 : good B ((N14.n 1, .cells (fl w1 wA) 7) :: (N14.n 0, .cells [.slice (some ⟨bY, 0, none⟩) 14 cY] 1) :: H14) (sh (sh N14)) := good_new g15
      have f16 : Fr ((N14.n 0, .cells [.slice (some ⟨bY, 0, none⟩) 14 cY] 1) :: H14) ((N14.n 1, .cells (fl w1 wA) 7) :: (N14.n 0, .cells [.slice (some ⟨bY, 0, none⟩) 14 cY] 1) :: H14) := fr_new (N := sh N14) g15 Fr.refl 0
      have s16 : SlR w1 1 B ((N14.n 1, .cells (fl w1 wA) 7) :: (N14.n 0, .cells [.slice (some ⟨bY, 0, none⟩) 14 cY] 1) :: H14) (.slice (some ⟨N14.n 1, 0, none⟩) 7 7) wA := (slN_new (B := B) (N := sh N14) (f := w1) (sz := 1) g15 wA (cs := fl w1 wA) (n := 7) (m := 7) rfl rfl rfl).rd w1_len
      have e16 := sameref10Words g16 (w5.mono (f9T.trans (f14.trans (f15.trans f16)))) s16 (by decide)
      rw [decide_eq_true rfl] at e16
      have e16 : Vref10Words B [v5, .slice (some ⟨N14.n 1, 0, none⟩) 7 7] ((N14.n 1, .cells [.int .u64 1, .int .u64 13, .int .u64 5, .int .u64 0, .int .u64 0, .int .u64 0, .int .u64 0] 7) :: (N14.n 0, .cells [.slice (some ⟨bY, 0, none⟩) 14 cY] 1) :: H14) (sh (sh N14)) = some (.ret (.bool true), (N14.n 1, .cells [.int .u64 1, .int .u64 13, .int .u64 5, .int .u64 0, .int .u64 0, .int .u64 0, .int .u64 0] 7) :: (N14.n 0, .cells [.slice (some ⟨bY, 0, none⟩) 14 cY] 1) :: H14, sh (sh N14)) := e16
      obtain ⟨H16, hH16⟩ : ∃ H16, H16 = (N14.n 1, KB.cells (fl w1 wA) 7) :: (N14.n 0, .cells [.slice (some ⟨bY, 0, none⟩) 14 cY] 1) :: H14 := ⟨_, rfl⟩
      have g17 : good B ((N14.n 2, .cells (fl w2 [⟨13, 5⟩]) 2) :: H16) (sh (sh (sh N14))) := by rw [hH16]; exact good_new g16
      have f17 : Fr H16 ((N14.n 2, .cells (fl w2 [⟨13, 5⟩]) 2) :: H16) := by rw [hH16]; exact fr_new (N := sh (sh N14)) g16 Fr.refl 0
      have s17 : SlR w2 2 B ((N14.n 2, .cells (fl w2 [⟨13, 5⟩]) 2) :: H16) (.slice (some ⟨N14.n 2, 0, none⟩) 1 1) [⟨13, 5⟩] := by rw [hH16]; exact (slN_new (B := B) (N := sh (sh N14)) (f := w2) (sz := 2) g16 [⟨13, 5⟩] (cs := fl w2 [⟨13, 5⟩]) (n := 1) (m := 2) rfl rfl rfl).rd w2_len
      have fA : Fr H14 H16 := by rw [hH16]; exact f15.trans f16
      have e17 := sameref05Writes g17 ((s7.rd w2_len).mono (fr6.trans (fr8.trans (f9.trans (f9T.trans (f14.trans (fA.trans f17))))))) s17 (by decide)
      rw [decide_eq_true rfl, hH16] at e17
      have e17 : Vref05Writes B [v7, .slice (some ⟨N14.n 2, 0, none⟩) 1 1] ((N14.n 2, .cells [.int .i64 13, .int .u64 5] 2) :: (N14.n 1, .cells [.int .u64 1, .int .u64 13, .int .u64 5, .int .u64 0, .int .u64 0, .int .u64 0, .int .u64 0] 7) :: (N14.n 0, .cells [.slice (some ⟨bY, 0, none⟩) 14 cY] 1) :: H14) (sh (sh (sh N14))) = some (.ret (.bool true), (N14.n 2, .cells [.int .i64 13, .int .u64 5] 2) :: (N14.n 1, .cells [.int .u64 1, .int .u64 13, .int .u64 5, .int .u64 0, .int .u64 0, .int .u64 0, .int .u64 0] 7) :: (N14.n 0, .cells [.slice (some ⟨bY, 0, none⟩) 14 cY] 1) :: H14, sh (sh (sh N14))) := e17
      have rx := fun H' hf i hi => slr_at (sx.mono (fA.trans f17)) (by decide) H' hf i 0 1 z2 hi (by decide)
      have ry := fun H' hf i hi => slr_at (sy.mono (fA.trans f17)) (by decide) H' hf i 0 1 z2 hi (by decide)
      have rx13 := rx _ Fr.refl 13 (by decide)
      have rx6 := rx _ Fr.refl 6 (by decide)
      have ry13 := ry _ Fr.refl 13 (by decide)
      have ry6 := ry _ Fr.refl 6 (by decide)
      rw [show tk (c2 (xA.getD 13 z2)) 0 1 = some [.int .u64 5] from rfl, show (0 + 13 * 2 + 0) = 26 from rfl, hH16] at rx13
      rw [show tk (c2 (xA.getD 6 z2)) 0 1 = some [.int .u64 1] from rfl, show (0 + 6 * 2 + 0) = 12 from rfl, hH16] at rx6
      rw [show tk (c2 (yA.getD 13 z2)) 0 1 = some [.int .u64 5] from rfl, show (0 + 13 * 2 + 0) = 26 from rfl, hH16] at ry13
      rw [show tk (c2 (yA.getD 6 z2)) 0 1 = some [.int .u64 0] from rfl, show (0 + 6 * 2 + 0) = 12 from rfl, hH16] at ry6
      have rx13 : rdO ((N14.n 2, .cells [.int .i64 13, .int .u64 5] 2) :: (N14.n 1, .cells [.int .u64 1, .int .u64 13, .int .u64 5, .int .u64 0, .int .u64 0, .int .u64 0, .int .u64 0] 7) :: (N14.n 0, .cells [.slice (some ⟨bY, 0, none⟩) 14 cY] 1) :: H14) B bX 26 1 (rdB B bX 26 1) = some [.int .u64 5] := rx13
      have rx6 : rdO ((N14.n 2, .cells [.int .i64 13, .int .u64 5] 2) :: (N14.n 1, .cells [.int .u64 1, .int .u64 13, .int .u64 5, .int .u64 0, .int .u64 0, .int .u64 0, .int .u64 0] 7) :: (N14.n 0, .cells [.slice (some ⟨bY, 0, none⟩) 14 cY] 1) :: H14) B bX 12 1 (rdB B bX 12 1) = some [.int .u64 1] := rx6
      have ry13 : rdO ((N14.n 2, .cells [.int .i64 13, .int .u64 5] 2) :: (N14.n 1, .cells [.int .u64 1, .int .u64 13, .int .u64 5, .int .u64 0, .int .u64 0, .int .u64 0, .int .u64 0] 7) :: (N14.n 0, .cells [.slice (some ⟨bY, 0, none⟩) 14 cY] 1) :: H14) B bY 26 1 (rdB B bY 26 1) = some [.int .u64 5] := ry13
      have ry6 : rdO ((N14.n 2, .cells [.int .i64 13, .int .u64 5] 2) :: (N14.n 1, .cells [.int .u64 1, .int .u64 13, .int .u64 5, .int .u64 0, .int .u64 0, .int .u64 0, .int .u64 0] 7) :: (N14.n 0, .cells [.slice (some ⟨bY, 0, none⟩) 14 cY] 1) :: H14) B bY 12 1 (rdB B bY 12 1) = some [.int .u64 0] := ry6
      have by14 := good_B g14 0
      have hI14 := beqN g14.1.1
      simp (disch := omega) only [J38, hB, hR, hI, e14, e16, e17, eP, qT, q14, xT, x14, b0, rb0, bX_, rbX, m14, mx14, good_B g14, good_rdB g14, bne_self_eq_false, rx13, rx6, ry13, ry6, by14, hI14, all1, ress, res1, retV, Value.cells, newsV_s, seval, eV]
      rw [hH16] at g17 f17
      exact ⟨_, _, rfl, g17, fr2.trans (fr4.trans (fr6.trans (fr8.trans (f9.trans (f9T.trans (f14.trans (f15.trans (f16.trans f17))))))))⟩
    | false =>
      have gA : good B ((N11.n 0, .cells [.slice none 0 0] 1) :: H11) (sh (shg N11)) := good_new (gg g11)
      have fA : Fr H11 ((N11.n 0, .cells [.slice none 0 0] 1) :: H11) := fr_new (gg g11) Fr.refl 0
      obtain ⟨vX, H12, N12, e12, g12, f12, s12⟩ := fLay hT cf1 gA ((s11.wh c2_len).mono fA) (by decide) mA_s (q := 0)
      rw [lE_A, lR_A] at *
      have s12 : SlM c2 2 B _ H12 vX xA := s12
      obtain ⟨bX, cX, rX, rfl, _, hXn, _, _⟩ := slm_elim s12 (by decide)
      have e12 : VgL B [.agg #[.int .i64 1, .int .i64 1, .int .i64 1], .agg #[vM], .int .i64 0] ((N11.n 0, .cells [.slice none 0 0] 1) :: H11) (sh (shg N11)) = some (.ret (.tuple #[.agg #[.slice (some ⟨bX, 0, none⟩) 14 cX], .int .i64 0]), H12, N12) := e12
      have q11' := fA _ _ q11
      have q12 := f12 _ _ q11'
      have m11 := ne_N g11 q11
      have m12 := ne_N g12 q12
      have x12 := f12 _ _ (lk_top : lk ((N11.n 0, KB.cells [.slice none 0 0] 1) :: H11) (N11.n 0) = _)
      obtain ⟨HT, hHT⟩ : ∃ HT, HT = upH H12 (N11.n 0) (KB.cells [.slice (some ⟨bX, 0, none⟩) 14 cX] 1) := ⟨_, rfl⟩
      have bX_ := good_B g11 0
      have rbX := rN bX_
      have gT : good B HT N12 := by rw [hHT]; exact good_up g12 bX_ x12
      have n11 : (N.n 0 == N11.n 0) = false := m11 0
      have qT : lk HT (N.n 0) = some (.cells [.int .i64 1, .int .i64 1, .int .i64 1] 3) := by rw [hHT, lk_upH, n11, cond_false]; exact q12
      have xT : lk HT (N11.n 0) = some (.cells [.slice (some ⟨bX, 0, none⟩) 14 cX] 1) := by rw [hHT, lk_upH, beq_self_eq_true, cond_true]
      have s12 : SlM c2 2 B ((N11.n 0, .cells [.slice none 0 0] 1) :: H11) HT (.slice (some ⟨bX, 0, none⟩) 14 cX) xA := s12.mono fun y c e1 e2 => by
        rw [hHT, lk_upH, eqb (fun e => s12.ne lk_top (by rw [e1, e])), cond_false]; exact e2
      have fX : Fr HT HT := Fr.refl
      have f9T : Fr H9 HT := f10.trans (f11.trans (by rw [hHT]; exact fr_up (fA.trans f12) (lk_N g11 0)))
      simp (disch := omega) only [J38, hB, hR, hI, e11, e12, q11, q11', q12, hg2, b0, rb0, m11, m12, n11, x12, bX_, rbX, good_B g11, good_rdB g11, good_B g12, good_rdB g12, all1, ress, res1, retV, Value.cells, newsV_s, seval, eV]
      obtain ⟨vY, H14, N14, e14, g14, f14, s14⟩ := fWipe hT cf1 gT (s12.wh c2_len |>.mono fX) (q := 0) (by decide)
      rw [wE_A, wR_A] at *
      have sx := (s12.rd c2_len).mono (fX.trans f14)
      have sy := s14.rd c2_len
      obtain ⟨bY, cY, rY, rfl, _, _, _, _⟩ := slm_elim s14 (by decide)
      have e14 : VgW B [.agg #[.int .i64 1, .int .i64 1, .int .i64 1], .agg #[.slice (some ⟨bX, 0, none⟩) 14 cX], .int .i64 0] HT N12 = some (.ret (.tuple #[.agg #[.slice (some ⟨bY, 0, none⟩) 14 cY], .int .i64 0]), H14, N14) := e14
      have q14 := f14 _ _ qT
      have x14 := f14 _ _ xT
      have m14 := ne_N g14 q14
      have mx14 := ne_N g14 x14
      rw [hHT] at e14 qT xT
      have g15 : good B ((N14.n 0, .cells [.slice (some ⟨bY, 0, none⟩) 14 cY] 1) :: H14) (sh N14) := good_new g14
      have f15 : Fr H14 ((N14.n 0, .cells [.slice (some ⟨bY, 0, none⟩) 14 cY] 1) :: H14) := fr_new g14 Fr.refl 0
      have g16 : good B ((N14.n 1, .cells (fl w1 wA) 7) :: (N14.n 0, .cells [.slice (some ⟨bY, 0, none⟩) 14 cY] 1) :: H14) (sh (sh N14)) := good_new g15
      have f16 : Fr ((N14.n 0, .cells [.slice (some ⟨bY, 0, none⟩) 14 cY] 1) :: H14) ((N14.n 1, .cells (fl w1 wA) 7) :: (N14.n 0, .cells [.slice (some ⟨bY, 0, none⟩) 14 cY] 1) :: H14) := fr_new (N := sh N14) g15 Fr.refl 0
      have s16 : SlR w1 1 B ((N14.n 1, .cells (fl w1 wA) 7) :: (N14.n 0, .cells [.slice (some ⟨bY, 0, none⟩) 14 cY] 1) :: H14) (.slice (some ⟨N14.n 1, 0, none⟩) 7 7) wA := (slN_new (B := B) (N := sh N14) (f := w1) (sz := 1) g15 wA (cs := fl w1 wA) (n := 7) (m := 7) rfl rfl rfl).rd w1_len
      have e16 := sameref10Words g16 (w5.mono (f9T.trans (f14.trans (f15.trans f16)))) s16 (by decide)
      rw [decide_eq_true rfl] at e16
      have e16 : Vref10Words B [v5, .slice (some ⟨N14.n 1, 0, none⟩) 7 7] ((N14.n 1, .cells [.int .u64 1, .int .u64 13, .int .u64 5, .int .u64 0, .int .u64 0, .int .u64 0, .int .u64 0] 7) :: (N14.n 0, .cells [.slice (some ⟨bY, 0, none⟩) 14 cY] 1) :: H14) (sh (sh N14)) = some (.ret (.bool true), (N14.n 1, .cells [.int .u64 1, .int .u64 13, .int .u64 5, .int .u64 0, .int .u64 0, .int .u64 0, .int .u64 0] 7) :: (N14.n 0, .cells [.slice (some ⟨bY, 0, none⟩) 14 cY] 1) :: H14, sh (sh N14)) := e16
      obtain ⟨H16, hH16⟩ : ∃ H16, H16 = (N14.n 1, KB.cells (fl w1 wA) 7) :: (N14.n 0, .cells [.slice (some ⟨bY, 0, none⟩) 14 cY] 1) :: H14 := ⟨_, rfl⟩
      have g17 : good B ((N14.n 2, .cells (fl w2 [⟨13, 5⟩]) 2) :: H16) (sh (sh (sh N14))) := by rw [hH16]; exact good_new g16
      have f17 : Fr H16 ((N14.n 2, .cells (fl w2 [⟨13, 5⟩]) 2) :: H16) := by rw [hH16]; exact fr_new (N := sh (sh N14)) g16 Fr.refl 0
      have s17 : SlR w2 2 B ((N14.n 2, .cells (fl w2 [⟨13, 5⟩]) 2) :: H16) (.slice (some ⟨N14.n 2, 0, none⟩) 1 1) [⟨13, 5⟩] := by rw [hH16]; exact (slN_new (B := B) (N := sh (sh N14)) (f := w2) (sz := 2) g16 [⟨13, 5⟩] (cs := fl w2 [⟨13, 5⟩]) (n := 1) (m := 2) rfl rfl rfl).rd w2_len
      have fA : Fr H14 H16 := by rw [hH16]; exact f15.trans f16
      have e17 := sameref05Writes g17 ((s7.rd w2_len).mono (fr6.trans (fr8.trans (f9.trans (f9T.trans (f14.trans (fA.trans f17))))))) s17 (by decide)
      rw [decide_eq_true rfl, hH16] at e17
      have e17 : Vref05Writes B [v7, .slice (some ⟨N14.n 2, 0, none⟩) 1 1] ((N14.n 2, .cells [.int .i64 13, .int .u64 5] 2) :: (N14.n 1, .cells [.int .u64 1, .int .u64 13, .int .u64 5, .int .u64 0, .int .u64 0, .int .u64 0, .int .u64 0] 7) :: (N14.n 0, .cells [.slice (some ⟨bY, 0, none⟩) 14 cY] 1) :: H14) (sh (sh (sh N14))) = some (.ret (.bool true), (N14.n 2, .cells [.int .i64 13, .int .u64 5] 2) :: (N14.n 1, .cells [.int .u64 1, .int .u64 13, .int .u64 5, .int .u64 0, .int .u64 0, .int .u64 0, .int .u64 0] 7) :: (N14.n 0, .cells [.slice (some ⟨bY, 0, none⟩) 14 cY] 1) :: H14, sh (sh (sh N14))) := e17
      have rx := fun H' hf i hi => slr_at (sx.mono (fA.trans f17)) (by decide) H' hf i 0 1 z2 hi (by decide)
      have ry := fun H' hf i hi => slr_at (sy.mono (fA.trans f17)) (by decide) H' hf i 0 1 z2 hi (by decide)
      have rx13 := rx _ Fr.refl 13 (by decide)
      have rx6 := rx _ Fr.refl 6 (by decide)
      have ry13 := ry _ Fr.refl 13 (by decide)
      have ry6 := ry _ Fr.refl 6 (by decide)
      rw [show tk (c2 (xA.getD 13 z2)) 0 1 = some [.int .u64 5] from rfl, show (0 + 13 * 2 + 0) = 26 from rfl, hH16] at rx13
      rw [show tk (c2 (xA.getD 6 z2)) 0 1 = some [.int .u64 1] from rfl, show (0 + 6 * 2 + 0) = 12 from rfl, hH16] at rx6
      rw [show tk (c2 (yA.getD 13 z2)) 0 1 = some [.int .u64 5] from rfl, show (0 + 13 * 2 + 0) = 26 from rfl, hH16] at ry13
      rw [show tk (c2 (yA.getD 6 z2)) 0 1 = some [.int .u64 0] from rfl, show (0 + 6 * 2 + 0) = 12 from rfl, hH16] at ry6
      have rx13 : rdO ((N14.n 2, .cells [.int .i64 13, .int .u64 5] 2) :: (N14.n 1, .cells [.int .u64 1, .int .u64 13, .int .u64 5, .int .u64 0, .int .u64 0, .int .u64 0, .int .u64 0] 7) :: (N14.n 0, .cells [.slice (some ⟨bY, 0, none⟩) 14 cY] 1) :: H14) B bX 26 1 (rdB B bX 26 1) = some [.int .u64 5] := rx13
      have rx6 : rdO ((N14.n 2, .cells [.int .i64 13, .int .u64 5] 2) :: (N14.n 1, .cells [.int .u64 1, .int .u64 13, .int .u64 5, .int .u64 0, .int .u64 0, .int .u64 0, .int .u64 0] 7) :: (N14.n 0, .cells [.slice (some ⟨bY, 0, none⟩) 14 cY] 1) :: H14) B bX 12 1 (rdB B bX 12 1) = some [.int .u64 1] := rx6
      have ry13 : rdO ((N14.n 2, .cells [.int .i64 13, .int .u64 5] 2) :: (N14.n 1, .cells [.int .u64 1, .int .u64 13, .int .u64 5, .int .u64 0, .int .u64 0, .int .u64 0, .int .u64 0] 7) :: (N14.n 0, .cells [.slice (some ⟨bY, 0, none⟩) 14 cY] 1) :: H14) B bY 26 1 (rdB B bY 26 1) = some [.int .u64 5] := ry13
      have ry6 : rdO ((N14.n 2, .cells [.int .i64 13, .int .u64 5] 2) :: (N14.n 1, .cells [.int .u64 1, .int .u64 13, .int .u64 5, .int .u64 0, .int .u64 0, .int .u64 0, .int .u64 0] 7) :: (N14.n 0, .cells [.slice (some ⟨bY, 0, none⟩) 14 cY] 1) :: H14) B bY 12 1 (rdB B bY 12 1) = some [.int .u64 0] := ry6
      have by14 := good_B g14 0
      have hI14 := beqN g14.1.1
      simp (disch := omega) only [J38, hB, hR, hI, e14, e16, e17, eP, qT, q14, xT, x14, b0, rb0, bX_, rbX, m14, mx14, good_B g14, good_rdB g14, bne_self_eq_false, rx13, rx6, ry13, ry6, by14, hI14, all1, ress, res1, retV, Value.cells, newsV_s, seval, eV]
      rw [hH16] at g17 f17
      exact ⟨_, _, rfl, g17, fr2.trans (fr4.trans (fr6.trans (fr8.trans (f9.trans (f9T.trans (f14.trans (f15.trans (f16.trans f17))))))))⟩
  | false =>
      have gA : good B ((N9.n 1, .cells [.slice none 0 0] 1) :: (N9.n 0, .cells [.slice (some ⟨b13, 0, none⟩) 14 c13] 1) :: H9) (sh (shg (sh N9))) := good_new (gg g10)
      have fA : Fr ((N9.n 0, .cells [.slice (some ⟨b13, 0, none⟩) 14 c13] 1) :: H9) ((N9.n 1, .cells [.slice none 0 0] 1) :: (N9.n 0, .cells [.slice (some ⟨b13, 0, none⟩) 14 c13] 1) :: H9) := fr_new (gg g10) Fr.refl 0
      obtain ⟨vM, H11, N11, e11, g11, f11, s11⟩ := fWith (q := 0) cf1 gA ((s13.toM.wh c2_len).mono (f10.trans fA)) (w5.mono (f10.trans fA)) rfl (by decide)
      have e11 : VlH B [.agg #[.int .i64 1, .int .i64 1, .int .i64 1], .agg #[.slice (some ⟨b13, 0, none⟩) 14 c13], .int .i64 0, v5] ((N9.n 1, .cells [.slice none 0 0] 1) :: (N9.n 0, .cells [.slice (some ⟨b13, 0, none⟩) 14 c13] 1) :: H9) (sh (shg (sh N9))) = some (.ret (.agg #[vM]), H11, N11) := e11
      have s11 : SlM c2 2 B _ H11 vM mA := s11
      have q10' := fA _ _ q10
      have q11 := f11 _ _ q10'
      obtain ⟨vX, H12, N12, e12, g12, f12, s12⟩ := fLay hT cf1 g11 (s11.wh c2_len) (by decide) mA_s (q := 0)
      rw [lE_A, lR_A] at *
      have s12 : SlM c2 2 B H11 H12 vX xA := s12
      obtain ⟨bX, cX, rX, rfl, _, hXn, _, _⟩ := slm_elim s12 (by decide)
      have e12 : VgL B [.agg #[.int .i64 1, .int .i64 1, .int .i64 1], .agg #[vM], .int .i64 0] H11 N11 = some (.ret (.tuple #[.agg #[.slice (some ⟨bX, 0, none⟩) 14 cX], .int .i64 0]), H12, N12) := e12
      have q12 := f12 _ _ q11
      have m11 := ne_N g11 q11
      have m12 := ne_N g12 q12
      have x11 := f11 _ _ (lk_top : lk ((N9.n 1, KB.cells [.slice none 0 0] 1) :: (N9.n 0, .cells [.slice (some ⟨b13, 0, none⟩) 14 c13] 1) :: H9) (N9.n 1) = _)
      have x12 := f12 _ _ x11
      obtain ⟨HT, hHT⟩ : ∃ HT, HT = upH H12 (N9.n 1) (KB.cells [.slice (some ⟨bX, 0, none⟩) 14 cX] 1) := ⟨_, rfl⟩
      have bX_ := good_B g9 1
      have rbX := rN bX_
      have gT : good B HT N12 := by rw [hHT]; exact good_up g12 bX_ x12
      have n11 : (N.n 0 == N9.n 1) = false := m9 1
      have qT : lk HT (N.n 0) = some (.cells [.int .i64 1, .int .i64 1, .int .i64 1] 3) := by rw [hHT, lk_upH, n11, cond_false]; exact q12
      have xT : lk HT (N9.n 1) = some (.cells [.slice (some ⟨bX, 0, none⟩) 14 cX] 1) := by rw [hHT, lk_upH, beq_self_eq_true, cond_true]
      have s12 : SlM c2 2 B H11 HT (.slice (some ⟨bX, 0, none⟩) 14 cX) xA := s12.mono fun y c e1 e2 => by
        rw [hHT, lk_upH, eqb (fun e => s12.ne x11 (by rw [e1, e])), cond_false]; exact e2
      have fX : Fr HT HT := Fr.refl
      have f9T : Fr H9 HT := by rw [hHT]; exact fr_up ((f10.trans fA).trans (f11.trans f12)) (lk_N g9 1)
      simp (disch := omega) only [J38, hB, hR, hI, hg, e11, e12, q10, q10', q11, q12, b0, rb0, m9, m11, m12, n11, x11, x12, bX_, rbX, good_B g11, good_rdB g11, good_B g12, good_rdB g12, good_B g9, good_rdB g9, beqN g9.1.1, all1, ress, res1, retV, Value.cells, newsV_s, seval, eV]
      obtain ⟨vY, H14, N14, e14, g14, f14, s14⟩ := fWipe hT cf1 gT (s12.wh c2_len |>.mono fX) (q := 0) (by decide)
      rw [wE_A, wR_A] at *
      have sx := (s12.rd c2_len).mono (fX.trans f14)
      have sy := s14.rd c2_len
      obtain ⟨bY, cY, rY, rfl, _, _, _, _⟩ := slm_elim s14 (by decide)
      have e14 : VgW B [.agg #[.int .i64 1, .int .i64 1, .int .i64 1], .agg #[.slice (some ⟨bX, 0, none⟩) 14 cX], .int .i64 0] HT N12 = some (.ret (.tuple #[.agg #[.slice (some ⟨bY, 0, none⟩) 14 cY], .int .i64 0]), H14, N14) := e14
      have q14 := f14 _ _ qT
      have x14 := f14 _ _ xT
      have m14 := ne_N g14 q14
      have mx14 := ne_N g14 x14
      rw [hHT] at e14 qT xT
      have g15 : good B ((N14.n 0, .cells [.slice (some ⟨bY, 0, none⟩) 14 cY] 1) :: H14) (sh N14) := good_new g14
      have f15 : Fr H14 ((N14.n 0, .cells [.slice (some ⟨bY, 0, none⟩) 14 cY] 1) :: H14) := fr_new g14 Fr.refl 0
      have g16 : good B ((N14.n 1, .cells (fl w1 wA) 7) :: (N14.n 0, .cells [.slice (some ⟨bY, 0, none⟩) 14 cY] 1) :: H14) (sh (sh N14)) := good_new g15
      have f16 : Fr ((N14.n 0, .cells [.slice (some ⟨bY, 0, none⟩) 14 cY] 1) :: H14) ((N14.n 1, .cells (fl w1 wA) 7) :: (N14.n 0, .cells [.slice (some ⟨bY, 0, none⟩) 14 cY] 1) :: H14) := fr_new (N := sh N14) g15 Fr.refl 0
      have s16 : SlR w1 1 B ((N14.n 1, .cells (fl w1 wA) 7) :: (N14.n 0, .cells [.slice (some ⟨bY, 0, none⟩) 14 cY] 1) :: H14) (.slice (some ⟨N14.n 1, 0, none⟩) 7 7) wA := (slN_new (B := B) (N := sh N14) (f := w1) (sz := 1) g15 wA (cs := fl w1 wA) (n := 7) (m := 7) rfl rfl rfl).rd w1_len
      have e16 := sameref10Words g16 (w5.mono (f9T.trans (f14.trans (f15.trans f16)))) s16 (by decide)
      rw [decide_eq_true rfl] at e16
      have e16 : Vref10Words B [v5, .slice (some ⟨N14.n 1, 0, none⟩) 7 7] ((N14.n 1, .cells [.int .u64 1, .int .u64 13, .int .u64 5, .int .u64 0, .int .u64 0, .int .u64 0, .int .u64 0] 7) :: (N14.n 0, .cells [.slice (some ⟨bY, 0, none⟩) 14 cY] 1) :: H14) (sh (sh N14)) = some (.ret (.bool true), (N14.n 1, .cells [.int .u64 1, .int .u64 13, .int .u64 5, .int .u64 0, .int .u64 0, .int .u64 0, .int .u64 0] 7) :: (N14.n 0, .cells [.slice (some ⟨bY, 0, none⟩) 14 cY] 1) :: H14, sh (sh N14)) := e16
      obtain ⟨H16, hH16⟩ : ∃ H16, H16 = (N14.n 1, KB.cells (fl w1 wA) 7) :: (N14.n 0, .cells [.slice (some ⟨bY, 0, none⟩) 14 cY] 1) :: H14 := ⟨_, rfl⟩
      have g17 : good B ((N14.n 2, .cells (fl w2 [⟨13, 5⟩]) 2) :: H16) (sh (sh (sh N14))) := by rw [hH16]; exact good_new g16
      have f17 : Fr H16 ((N14.n 2, .cells (fl w2 [⟨13, 5⟩]) 2) :: H16) := by rw [hH16]; exact fr_new (N := sh (sh N14)) g16 Fr.refl 0
      have s17 : SlR w2 2 B ((N14.n 2, .cells (fl w2 [⟨13, 5⟩]) 2) :: H16) (.slice (some ⟨N14.n 2, 0, none⟩) 1 1) [⟨13, 5⟩] := by rw [hH16]; exact (slN_new (B := B) (N := sh (sh N14)) (f := w2) (sz := 2) g16 [⟨13, 5⟩] (cs := fl w2 [⟨13, 5⟩]) (n := 1) (m := 2) rfl rfl rfl).rd w2_len
      have fA : Fr H14 H16 := by rw [hH16]; exact f15.trans f16
      have e17 := sameref05Writes g17 ((s7.rd w2_len).mono (fr6.trans (fr8.trans (f9.trans (f9T.trans (f14.trans (fA.trans f17))))))) s17 (by decide)
      rw [decide_eq_true rfl, hH16] at e17
      have e17 : Vref05Writes B [v7, .slice (some ⟨N14.n 2, 0, none⟩) 1 1] ((N14.n 2, .cells [.int .i64 13, .int .u64 5] 2) :: (N14.n 1, .cells [.int .u64 1, .int .u64 13, .int .u64 5, .int .u64 0, .int .u64 0, .int .u64 0, .int .u64 0] 7) :: (N14.n 0, .cells [.slice (some ⟨bY, 0, none⟩) 14 cY] 1) :: H14) (sh (sh (sh N14))) = some (.ret (.bool true), (N14.n 2, .cells [.int .i64 13, .int .u64 5] 2) :: (N14.n 1, .cells [.int .u64 1, .int .u64 13, .int .u64 5, .int .u64 0, .int .u64 0, .int .u64 0, .int .u64 0] 7) :: (N14.n 0, .cells [.slice (some ⟨bY, 0, none⟩) 14 cY] 1) :: H14, sh (sh (sh N14))) := e17
      have rx := fun H' hf i hi => slr_at (sx.mono (fA.trans f17)) (by decide) H' hf i 0 1 z2 hi (by decide)
      have ry := fun H' hf i hi => slr_at (sy.mono (fA.trans f17)) (by decide) H' hf i 0 1 z2 hi (by decide)
      have rx13 := rx _ Fr.refl 13 (by decide)
      have rx6 := rx _ Fr.refl 6 (by decide)
      have ry13 := ry _ Fr.refl 13 (by decide)
      have ry6 := ry _ Fr.refl 6 (by decide)
      rw [show tk (c2 (xA.getD 13 z2)) 0 1 = some [.int .u64 5] from rfl, show (0 + 13 * 2 + 0) = 26 from rfl, hH16] at rx13
      rw [show tk (c2 (xA.getD 6 z2)) 0 1 = some [.int .u64 1] from rfl, show (0 + 6 * 2 + 0) = 12 from rfl, hH16] at rx6
      rw [show tk (c2 (yA.getD 13 z2)) 0 1 = some [.int .u64 5] from rfl, show (0 + 13 * 2 + 0) = 26 from rfl, hH16] at ry13
      rw [show tk (c2 (yA.getD 6 z2)) 0 1 = some [.int .u64 0] from rfl, show (0 + 6 * 2 + 0) = 12 from rfl, hH16] at ry6
      have rx13 : rdO ((N14.n 2, .cells [.int .i64 13, .int .u64 5] 2) :: (N14.n 1, .cells [.int .u64 1, .int .u64 13, .int .u64 5, .int .u64 0, .int .u64 0, .int .u64 0, .int .u64 0] 7) :: (N14.n 0, .cells [.slice (some ⟨bY, 0, none⟩) 14 cY] 1) :: H14) B bX 26 1 (rdB B bX 26 1) = some [.int .u64 5] := rx13
      have rx6 : rdO ((N14.n 2, .cells [.int .i64 13, .int .u64 5] 2) :: (N14.n 1, .cells [.int .u64 1, .int .u64 13, .int .u64 5, .int .u64 0, .int .u64 0, .int .u64 0, .int .u64 0] 7) :: (N14.n 0, .cells [.slice (some ⟨bY, 0, none⟩) 14 cY] 1) :: H14) B bX 12 1 (rdB B bX 12 1) = some [.int .u64 1] := rx6
      have ry13 : rdO ((N14.n 2, .cells [.int .i64 13, .int .u64 5] 2) :: (N14.n 1, .cells [.int .u64 1, .int .u64 13, .int .u64 5, .int .u64 0, .int .u64 0, .int .u64 0, .int .u64 0] 7) :: (N14.n 0, .cells [.slice (some ⟨bY, 0, none⟩) 14 cY] 1) :: H14) B bY 26 1 (rdB B bY 26 1) = some [.int .u64 5] := ry13
      have ry6 : rdO ((N14.n 2, .cells [.int .i64 13, .int .u64 5] 2) :: (N14.n 1, .cells [.int .u64 1, .int .u64 13, .int .u64 5, .int .u64 0, .int .u64 0, .int .u64 0, .int .u64 0] 7) :: (N14.n 0, .cells [.slice (some ⟨bY, 0, none⟩) 14 cY] 1) :: H14) B bY 12 1 (rdB B bY 12 1) = some [.int .u64 0] := ry6
      have by14 := good_B g14 0
      have hI14 := beqN g14.1.1
      simp (disch := omega) only [J38, hB, hR, hI, e14, e16, e17, eP, qT, q14, xT, x14, b0, rb0, bX_, rbX, m14, mx14, good_B g14, good_rdB g14, bne_self_eq_false, rx13, rx6, ry13, ry6, by14, hI14, all1, ress, res1, retV, Value.cells, newsV_s, seval, eV]
      rw [hH16] at g17 f17
      exact ⟨_, _, rfl, g17, fr2.trans (fr4.trans (fr6.trans (fr8.trans (f9.trans (f9T.trans (f14.trans (f15.trans (f16.trans f17))))))))⟩
end Go.Proofs.YtfhiplfagejfoaaDoor
