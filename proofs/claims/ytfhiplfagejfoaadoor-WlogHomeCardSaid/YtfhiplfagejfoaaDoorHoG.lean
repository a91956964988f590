/- Own text: the log of writes, part HoG: contracts of the functions that the laws of the log call. -/
import Derived.Test.YtfhiplfagejfoaaDoorHoF
set_option linter.unusedSimpArgs false
set_option linter.unusedVariables false
namespace Go.Proofs.YtfhiplfagejfoaaDoor
open Go.Proofs.YtfhiplfagejfoaaDoor.K Go.ChangeShapes Go.WideShapes Go.ChangeAt Go.RowKit 
set_option maxRecDepth 100000
set_option linter.unusedSimpArgs false
set_option linter.unusedVariables false

def Lref09Do : FnL := ⟨(.seq (.ops [oa 3 (.box (ot 0)),oa 4 (.box (ot 1)),oa 5 (.box (ot 2)),oa 6 (.alloc [(.int .u64 0), (.slice none 0 0), (.slice none 0 0), (.slice none 0 0), (.bool false)]),oa 7 (.alloc [(.int .i64 0), (.int .u64 0)]),oa 8 (.mv (oi 0))])
 (.seq (.seq (.ops [oa 12 (.load true 3 (ot 3)),oa 13 (.call (.func 39) [(ot 12)]),oa 14 (.un .not (ot 13))])
 (.cond (ot 14) (.seq (.ops [oa 15 (.build [(.int .u64 0), (.slice none 0 0), (.slice none 0 0), (.slice none 0 0), (.bool false)] []),oa 16 (.build [(.int .i64 0), (.int .u64 0)] []), oc (.store 5 (ot 6) (ot 15)), oc (.store 2 (ot 7) (ot 16)),oa 8 (.mv (oi 5))])
 .ret)
 .skip))
 (.seq (.seq (.ops [oa 17 (.load true 3 (ot 3)),oa 18 (.load true 5 (ot 4)),oa 19 (.call (.func 69) [(ot 17), (ot 18)]),oa 20 (.un .not (ot 19))])
 (.cond (ot 20) (.seq (.ops [oa 21 (.build [(.int .u64 0), (.slice none 0 0), (.slice none 0 0), (.slice none 0 0), (.bool false)] []),oa 22 (.build [(.int .i64 0), (.int .u64 0)] []), oc (.store 5 (ot 6) (ot 21)), oc (.store 2 (ot 7) (ot 22)),oa 8 (.mv (oi 1))])
 .ret)
 .skip))
 (.seq (.ops [oa 23 (.load true 5 (ot 4)),oa 24 (.call (.func 86) [(ot 23)]),oa 9 (.alloc [(.int .u64 0), (.slice none 0 0), (.slice none 0 0), (.slice none 0 0), (.bool false)]), oc (.store 5 (ot 9) (ot 24))])
 (.seq (.ops [oa 25 (.load true 5 (ot 9)),oa 10 (.alloc [(.int .u64 0), (.slice none 0 0), (.slice none 0 0), (.slice none 0 0), (.bool false)]), oc (.store 5 (ot 10) (ot 25))])
 (.seq (.ops [oa 26 (.build [(.int .i64 0), (.int .u64 0)] []),oa 11 (.alloc [(.int .i64 0), (.int .u64 0)]), oc (.store 2 (ot 11) (ot 26))])
 (.seq (.block 0 (.seq (.ops [og 35 0 3,ol 36 35,oa 37 (.bin .eql (ot 36) (oi 1)),om 34 37])
 (.cond (ot 34) (.ops [oa 39 (.load true 5 (ot 9)),oa 40 (.load true 3 (ot 5)),oa 41 (.call (.func 87) [(ot 39), (ot 40)]),om 38 41,oa 42 (.ext (ot 38) 0),oa 43 (.ext (ot 38) 1), oc (.store 5 (ot 10) (ot 42)), oc (.store 2 (ot 11) (ot 43))])
 (.seq (.ops [oa 45 (.load true 3 (ot 3)),oa 46 (.call (.func 78) [(ot 45)]),om 44 46])
 (.cond (ot 44) (.ops [oa 48 (.load true 3 (ot 3)),oa 49 (.load true 5 (ot 9)),oa 50 (.load true 3 (ot 5)),oa 51 (.call (.func 88) [(ot 48), (ot 49), (ot 50)]),om 47 51,oa 52 (.ext (ot 47) 0),oa 53 (.ext (ot 47) 1), oc (.store 5 (ot 10) (ot 52)), oc (.store 2 (ot 11) (ot 53))])
 (.ops [oa 28 (.load true 3 (ot 3)),oa 29 (.load true 5 (ot 9)),oa 30 (.load true 3 (ot 5)),oa 31 (.call (.func 89) [(ot 28), (ot 29), (ot 30)]),om 27 31,oa 32 (.ext (ot 27) 0),oa 33 (.ext (ot 27) 1), oc (.store 5 (ot 10) (ot 32)), oc (.store 2 (ot 11) (ot 33))]))))))
 (.seq (.draw [oe 54 (.load true 5 (ot 10)),oe 55 (.load true 2 (ot 11)), ⟨oc (.store 5 (ot 6) (ot 54)), [oa 55 (.load true 2 (ot 11))]⟩,⟨oc (.store 2 (ot 7) (ot 55)),[]⟩,oe 8 (.mv (oi 0))])
 .ret)))))))),
 56, [.cell 6 true 5, .cell 7 true 2, .tmp 8]⟩
theorem lowref09Do : lowerFn Tryd.prog Tryd.f74 = some Lref09Do := by kernel_rfl
noncomputable def Gref09Do (B : OH) : Nat → Cs
  | 39 => Vref04Fits B
  | 86 => Vref09Own B
  | 69 => VrRi B
  | 89 => VrBt B
  | 78 => Vref09keyed B
  | 87 => VrRg B
  | 88 => VrTa B
  | _ => fun _ _ _ => none
theorem Gref09Do_ref04Fits {B : OH} : Gref09Do B 39 = Vref04Fits B := rfl
theorem Gref09Do_ref09Own {B : OH} : Gref09Do B 86 = Vref09Own B := rfl
theorem Gref09Do_rRi {B : OH} : Gref09Do B 69 = VrRi B := rfl
theorem Gref09Do_rBt {B : OH} : Gref09Do B 89 = VrBt B := rfl
theorem Gref09Do_ref09keyed {B : OH} : Gref09Do B 78 = Vref09keyed B := rfl
theorem Gref09Do_rRg {B : OH} : Gref09Do B 87 = VrRg B := rfl
theorem Gref09Do_rTa {B : OH} : Gref09Do B 88 = VrTa B := rfl
theorem sGref09Do {w0 : World} {B : OH} : SoundG Tryd.prog w0 B { f := Gref09Do B } := .of fun k => by
  unfold Gref09Do
  split
  · exact .inr ⟨enref04Fits, sVref04Fits⟩
  · exact .inr ⟨enref09Own, sVref09Own⟩
  · exact .inr ⟨enrRi, sVrRi⟩
  · exact .inr ⟨enrBt, sVrBt⟩
  · exact .inr ⟨enref09keyed, sVref09keyed⟩
  · exact .inr ⟨enrRg, sVrRg⟩
  · exact .inr ⟨enrTa, sVrTa⟩
  · exact .inl fun _ _ _ => rfl
theorem enref09Do : Enter Tryd.prog 74 := .of Tryd.func74 (by kernel_rfl) (by kernel_rfl)
noncomputable def Tref09Do (B : OH) : Cs := callF B { f := Gref09Do B } 1000000 Lref09Do
theorem sTref09Do {w0 : World} {B : OH} : SoundC Tryd.prog w0 B 74 (Tref09Do B) := callF_sound mixedOrders sGref09Do 1000000 Tryd.func74 lowref09Do
noncomputable def Vref09Do (B : OH) : Cs := Tref09Do B
theorem sVref09Do {w0 : World} {B : OH} : SoundC Tryd.prog w0 B 74 (Vref09Do B) := sTref09Do
theorem J84 : Said (an @Tref09Do.eq_1 <| an @Lref09Do.eq_1 <| an @Gref09Do_ref04Fits <| an @Vref04Fits_eq <| an @Gref09Do_ref09Own <| an @Gref09Do_rRi <| an @Gref09Do_rBt <| an @Gref09Do_ref09keyed <| an @Vref09keyed_eq <| an @Gref09Do_rRg <| an @Gref09Do_rTa <| trivial) := said_ok _
set_option maxHeartbeats 16000000 in
theorem xDo {B : OH} {H : HL} {N : St} {vk vv vt : Value} {s : S9} {kk p cc h : Nat} {cd ky vl : Int} (C : Cf kk p cc h) (R : Rt kk cc s) (hs : StW B H vk vv vt s) (hky : u64R ky) (hvl : u64R vl) (hN : good B H N) :
    ∃ s', ∃ wk wv wt : Value, ∃ a b H' N', Vref09Do B [.agg #[.int .i64 (kk : Int), .int .i64 (p : Int), .int .i64 (cc : Int)], .agg #[.int .u64 s.r, vk, vv, vt, .bool s.cl], .agg #[.int .i64 cd, .int .u64 ky, .int .u64 vl]] H N = some (.ret (.tuple #[.agg #[.int .u64 s'.r, wk, wv, wt, .bool s'.cl], .agg #[.int .i64 a, .int .u64 b], .int .i64 0]), H', N') ∧ good B H' N' ∧ Fr H H' ∧ (∀ H'', Nw H H' H'' → StW B H'' wk wv wt s') ∧ Rt kk cc s' := by
  obtain ⟨hB, hR, hI⟩ := gX hN
  have hG : ∃ H N, good B H N := ⟨H, N, hN⟩
  have hc := C.c
  have hkk := C.k
  have hkl := R.kl
  have e0 := rFits1 hG C
  have ha := hs.all s.cl
  obtain ⟨H5, hH5⟩ : ∃ H5, H5 = (N.n 4, (.cells [.int .i64 0, .int .u64 0] 2 : KB)) :: (N.n 3, (.cells [.int .u64 0, .slice none 0 0, .slice none 0 0, .slice none 0 0, .bool false] 5 : KB)) :: (N.n 2, (.cells [.int .i64 cd, .int .u64 ky, .int .u64 vl] 3 : KB)) :: (N.n 1, (.cells [.int .u64 s.r, vk, vv, vt, .bool s.cl] 5 : KB)) :: (N.n 0, (.cells [.int .i64 (kk : Int), .int .i64 (p : Int), .int .i64 (cc : Int)] 3 : KB)) :: H := ⟨_, rfl⟩
  have g5 : good B H5 (sh (sh (sh (sh (sh N))))) := by rw [hH5]; repeat (first | exact hN | refine good_new ?_)
  have f5 : Fr H H5 := by rw [hH5]; repeat (first | exact Fr.refl | refine fr_set ?_ (lk_N hN _))
  have q0 : lk H5 (N.n 0) = some (.cells [.int .i64 (kk : Int), .int .i64 (p : Int), .int .i64 (cc : Int)] 3) := by rw [hH5]; simp only [lk_cons, hI]; rfl
  have q1 : lk H5 (N.n 1) = some (.cells [.int .u64 s.r, vk, vv, vt, .bool s.cl] 5) := by rw [hH5]; simp only [lk_cons, hI]; rfl
  have q2 : lk H5 (N.n 2) = some (.cells [.int .i64 cd, .int .u64 ky, .int .u64 vl] 3) := by rw [hH5]; simp only [lk_cons, hI]; rfl
  have q3 : lk H5 (N.n 3) = some (.cells [.int .u64 0, .slice none 0 0, .slice none 0 0, .slice none 0 0, .bool false] 5) := by rw [hH5]; simp only [lk_cons, hI]; rfl
  have q4 : lk H5 (N.n 4) = some (.cells [.int .i64 0, .int .u64 0] 2) := by rw [hH5]; simp only [lk_cons, hI]; rfl
  obtain ⟨H6, N6, e6, g6, f6⟩ := xRight C R (hs.mono f5) g5
  rw [hH5] at e6
  have r0 := f6 _ _ q0
  have r1 := f6 _ _ q1
  have r2 := f6 _ _ q2
  have r3 := f6 _ _ q3
  have r4 := f6 _ _ q4
  have htl : s.ts.length ≤ 300 := by
    by_cases h5 : kk = 5
    · rw [R.tl h5]; omega
    · rw [(R.t0 h5).1]; simp
  have hvl_ : s.vs.length ≤ 300 := by
    by_cases h5 : kk = 3 ∨ kk = 4
    · rw [R.vl h5]; omega
    · rw [R.v0 h5]; simp
  obtain ⟨v1, v2, v3, H7, N7, e7, g7, f7, s1, s2, s3⟩ := xOwn g6 ((hs.mono f5).mono f6) (by omega) (by omega) (by omega)
  obtain ⟨a1, k1, rfl, _⟩ := id (s1.wh w1_len)
  obtain ⟨a2, k2, rfl, _⟩ := id (s2.wh w1_len)
  obtain ⟨a3, k3, rfl, _⟩ := id (s3.wh f1_len)
  have p0 := f7 _ _ r0
  have p1 := f7 _ _ r1
  have p2 := f7 _ _ r2
  have p3 := f7 _ _ r3
  have p4 := f7 _ _ r4
  have x0 := ne_N g7 p0
  have x1 := ne_N g7 p1
  have x2 := ne_N g7 p2
  have x3 := ne_N g7 p3
  have x4 := ne_N g7 p4
  have y3 := ne_N' g7 p3
  have y4 := ne_N' g7 p4
  have hB7 := good_B g7
  have hR7 := good_rdB g7
  have hI7 := beqN g7.1.1
  have f07 : Fr H H7 := f5.trans (f6.trans f7)
  have nH : ∀ i, lk H (N7.n i) = none := fun i => f07.dm _ (lk_N g7 i)
  obtain ⟨H10, hH10⟩ : ∃ H10, H10 = (N7.n 2, (.cells [.int .i64 0, .int .u64 0] 2 : KB)) :: (N7.n 1, (.cells [.int .u64 s.r, .slice a1 s.ks.length k1, .slice a2 s.vs.length k2, .slice a3 s.ts.length k3, .bool s.cl] 5 : KB)) :: (N7.n 0, (.cells [.int .u64 s.r, .slice a1 s.ks.length k1, .slice a2 s.vs.length k2, .slice a3 s.ts.length k3, .bool s.cl] 5 : KB)) :: H7 := ⟨_, rfl⟩
  have g10 : good B H10 (sh (sh (sh N7))) := by rw [hH10]; repeat (first | exact g7 | refine good_new ?_)
  have f10 : Fr H7 H10 := by rw [hH10]; repeat (first | exact Fr.refl | refine fr_set ?_ (lk_N g7 _))
  have l0 : lk H10 (N7.n 0) = some (.cells [.int .u64 s.r, .slice a1 s.ks.length k1, .slice a2 s.vs.length k2, .slice a3 s.ts.length k3, .bool s.cl] 5) := by rw [hH10]; simp only [lk_cons, hI7]; rfl
  have l1 : lk H10 (N7.n 1) = some (.cells [.int .u64 s.r, .slice a1 s.ks.length k1, .slice a2 s.vs.length k2, .slice a3 s.ts.length k3, .bool s.cl] 5) := by rw [hH10]; simp only [lk_cons, hI7]; rfl
  have l2 : lk H10 (N7.n 2) = some (.cells [.int .i64 0, .int .u64 0] 2) := by rw [hH10]; simp only [lk_cons, hI7]; rfl
  have m0 := f10 _ _ p0
  have m1 := f10 _ _ p1
  have m2 := f10 _ _ p2
  have m3 := f10 _ _ p3
  have m4 := f10 _ _ p4
  have s10 : StW B H10 (.slice a1 s.ks.length k1) (.slice a2 s.vs.length k2) (.slice a3 s.ts.length k3) s := (⟨s1.wh w1_len, s2.wh w1_len, s3.wh f1_len⟩ : StW B H7 _ _ _ s).mono f10
  have b0 := hB 0
  have b1 := hB 1
  have b2 := hB 2
  have b3 := hB 3
  have b4 := hB 4
  have rb0 := rN b0
  have rb1 := rN b1
  have rb2 := rN b2
  have rb3 := rN b3
  have rb4 := rN b4
  have n43 : (N.n 4 == N.n 3) = false := hI 4 3
  have n34 : (N.n 3 == N.n 4) = false := hI 3 4
  have bn0 := hB7 0
  have bn1 := hB7 1
  have bn2 := hB7 2
  have rn0 := rN bn0
  have rn1 := rN bn1
  have rn2 := rN bn2
  have ek := xkeyed hG (kk : Int) (p : Int) (cc : Int)
  unfold Vref09Do
  by_cases h1 : kk = 1
  · have k1b : ((kk : Int) == 1) = true := by subst h1; rfl
    have R1 : Rt 1 cc s := by rw [← h1]; exact R
    obtain ⟨s', wk, wv, wt, a, b, H11, N11, e11, g11, f11, t11, R11⟩ := xregister (cd := cd) (ky := ky) R1 s10 hvl g10
    have u0 := f11 _ _ m0
    have u1 := f11 _ _ m1
    have u2 := f11 _ _ m2
    have u3 := f11 _ _ m3
    have u4 := f11 _ _ m4
    have v0 := f11 _ _ l0
    have v1 := f11 _ _ l1
    have v2 := f11 _ _ l2
    have K0 : all1 [wk, wv, wt, .bool s'.cl] = true := (t11 _ (((⟨s1.wh w1_len, s2.wh w1_len, s3.wh f1_len⟩ : StW B H7 _ _ _ s).mono f10).mono f11) (fun _ _ _ e => e)).all s'.cl
    have g12 := good_up (k := .cells [.int .u64 s'.r, wk, wv, wt, .bool s'.cl] 5) g11 bn1 v1
    have v2a : lk (upH H11 (N7.n 1) (.cells [.int .u64 s'.r, wk, wv, wt, .bool s'.cl] 5)) (N7.n 2) = some (.cells [.int .i64 0, .int .u64 0] 2) := by rw [lk_upH, hI7 2 1]; exact v2
    have g13 := good_up (k := .cells [.int .i64 a, .int .u64 b] 2) g12 bn2 v2a
    have w3 : lk (upH (upH H11 (N7.n 1) (.cells [.int .u64 s'.r, wk, wv, wt, .bool s'.cl] 5)) (N7.n 2) (.cells [.int .i64 a, .int .u64 b] 2)) (N.n 3) = some (.cells [.int .u64 0, .slice none 0 0, .slice none 0 0, .slice none 0 0, .bool false] 5) := by rw [lk_upH, x3 2, cond_false, lk_upH, x3 1, cond_false]; exact u3
    have g14 := good_up (k := .cells [.int .u64 s'.r, wk, wv, wt, .bool s'.cl] 5) g13 b3 w3
    have w4 : lk (upH (upH (upH H11 (N7.n 1) (.cells [.int .u64 s'.r, wk, wv, wt, .bool s'.cl] 5)) (N7.n 2) (.cells [.int .i64 a, .int .u64 b] 2)) (N.n 3) (.cells [.int .u64 s'.r, wk, wv, wt, .bool s'.cl] 5)) (N.n 4) = some (.cells [.int .i64 0, .int .u64 0] 2) := by rw [lk_upH, n43, cond_false, lk_upH, x4 2, cond_false, lk_upH, x4 1, cond_false]; exact u4
    have g15 := good_up (k := .cells [.int .i64 a, .int .u64 b] 2) g14 b4 w4
    have fr15 := fr_up (k := .cells [.int .i64 a, .int .u64 b] 2) (fr_up (k := .cells [.int .u64 s'.r, wk, wv, wt, .bool s'.cl] 5) (fr_up (k := .cells [.int .i64 a, .int .u64 b] 2) (fr_up (k := .cells [.int .u64 s'.r, wk, wv, wt, .bool s'.cl] 5) (f07.trans (f10.trans f11)) (nH 1)) (nH 2)) (lk_N hN 3)) (lk_N hN 4)
    have kp : ∀ y c, y ≠ N7.n 1 → y ≠ N7.n 2 → y ≠ N.n 3 → y ≠ N.n 4 → lk H11 y = some c → lk (upH (upH (upH (upH H11 (N7.n 1) (.cells [.int .u64 s'.r, wk, wv, wt, .bool s'.cl] 5)) (N7.n 2) (.cells [.int .i64 a, .int .u64 b] 2)) (N.n 3) (.cells [.int .u64 s'.r, wk, wv, wt, .bool s'.cl] 5)) (N.n 4) (.cells [.int .i64 a, .int .u64 b] 2)) y = some c := fun y c h1 h2 h3 h4 e => by
      rw [lk_upH, eqb h4, cond_false, lk_upH, eqb h3, cond_false, lk_upH, eqb h2, cond_false, lk_upH, eqb h1, cond_false]; exact e
    have k1_ : ∀ y c, lk H6 y = none → lk H7 y = some c → lk (upH (upH (upH (upH H11 (N7.n 1) (.cells [.int .u64 s'.r, wk, wv, wt, .bool s'.cl] 5)) (N7.n 2) (.cells [.int .i64 a, .int .u64 b] 2)) (N.n 3) (.cells [.int .u64 s'.r, wk, wv, wt, .bool s'.cl] 5)) (N.n 4) (.cells [.int .i64 a, .int .u64 b] 2)) y = some c := fun y c h1 h2 =>
      kp y c (fun e => by rw [e, lk_N g7 1] at h2; cases h2) (fun e => by rw [e, lk_N g7 2] at h2; cases h2) (fun e => by rw [e, r3] at h1; cases h1) (fun e => by rw [e, r4] at h1; cases h1) (f11 _ _ (f10 _ _ h2))
    have tF : ∀ H'', Nw H (upH (upH (upH (upH H11 (N7.n 1) (.cells [.int .u64 s'.r, wk, wv, wt, .bool s'.cl] 5)) (N7.n 2) (.cells [.int .i64 a, .int .u64 b] 2)) (N.n 3) (.cells [.int .u64 s'.r, wk, wv, wt, .bool s'.cl] 5)) (N.n 4) (.cells [.int .i64 a, .int .u64 b] 2)) H'' → StW B H'' wk wv wt s' := fun H'' nw =>
      t11 _ ⟨(slm_nw s1 (f5.trans f6) k1_ nw).wh w1_len, (slm_nw s2 (f5.trans f6) k1_ nw).wh w1_len, (slm_nw s3 (f5.trans f6) k1_ nw).wh f1_len⟩ (fun y c h1 h2 => nw y c (f07.dm _ (f10.dm _ h1)) (kp y c (fun e => by rw [e, l1] at h1; cases h1) (fun e => by rw [e, l2] at h1; cases h1) (fun e => by rw [e, m3] at h1; cases h1) (fun e => by rw [e, m4] at h1; cases h1) h2))
    rw [hH10] at e11
    simp (disch := omega) only [J84, hB, hR, hI, e0, e6, e7, e11, ha, K0, r0, r1, r2, r3, r4, p0, p1, p2, p3, p4, u0, u1, u2, u3, u4, v0, v1, v2, x0, x1, x2, x3, x4, y3, y4, hB7, hR7, hI7, b0, b1, b2, b3, b4, rb0, rb1, rb2, rb3, rb4, n43, n34, bn0, bn1, bn2, rn0, rn1, rn2, k1b, all1, ress, res1, retV, Value.cells, newsV_s, seval, eV]
    exact ⟨s', wk, wv, wt, a, b, _, _, rfl, g15, fr15, tF, by rw [h1]; exact R11⟩
  have k1b : ((kk : Int) == 1) = false := by simp; omega
  by_cases hk : isK kk
  · obtain ⟨s', wk, wv, wt, a, b, H11, N11, e11, g11, f11, t11, R11⟩ := xtable (cd := cd) (ky := ky) C hk R s10 hky hvl g10
    rw [decide_eq_true (by unfold isK at hk; omega)] at ek
    have u0 := f11 _ _ m0
    have u1 := f11 _ _ m1
    have u2 := f11 _ _ m2
    have u3 := f11 _ _ m3
    have u4 := f11 _ _ m4
    have v0 := f11 _ _ l0
    have v1 := f11 _ _ l1
    have v2 := f11 _ _ l2
    have K0 : all1 [wk, wv, wt, .bool s'.cl] = true := (t11 _ (((⟨s1.wh w1_len, s2.wh w1_len, s3.wh f1_len⟩ : StW B H7 _ _ _ s).mono f10).mono f11) (fun _ _ _ e => e)).all s'.cl
    have g12 := good_up (k := .cells [.int .u64 s'.r, wk, wv, wt, .bool s'.cl] 5) g11 bn1 v1
    have v2a : lk (upH H11 (N7.n 1) (.cells [.int .u64 s'.r, wk, wv, wt, .bool s'.cl] 5)) (N7.n 2) = some (.cells [.int .i64 0, .int .u64 0] 2) := by rw [lk_upH, hI7 2 1]; exact v2
    have g13 := good_up (k := .cells [.int .i64 a, .int .u64 b] 2) g12 bn2 v2a
    have w3 : lk (upH (upH H11 (N7.n 1) (.cells [.int .u64 s'.r, wk, wv, wt, .bool s'.cl] 5)) (N7.n 2) (.cells [.int .i64 a, .int .u64 b] 2)) (N.n 3) = some (.cells [.int .u64 0, .slice none 0 0, .slice none 0 0, .slice none 0 0, .bool false] 5) := by rw [lk_upH, x3 2, cond_false, lk_upH, x3 1, cond_false]; exact u3
    have g14 := good_up (k := .cells [.int .u64 s'.r, wk, wv, wt, .bool s'.cl] 5) g13 b3 w3
    have w4 : lk (upH (upH (upH H11 (N7.n 1) (.cells [.int .u64 s'.r, wk, wv, wt, .bool s'.cl] 5)) (N7.n 2) (.cells [.int .i64 a, .int .u64 b] 2)) (N.n 3) (.cells [.int .u64 s'.r, wk, wv, wt, .bool s'.cl] 5)) (N.n 4) = some (.cells [.int .i64 0, .int .u64 0] 2) := by rw [lk_upH, n43, cond_false, lk_upH, x4 2, cond_false, lk_upH, x4 1, cond_false]; exact u4
    have g15 := good_up (k := .cells [.int .i64 a, .int .u64 b] 2) g14 b4 w4
    have fr15 := fr_up (k := .cells [.int .i64 a, .int .u64 b] 2) (fr_up (k := .cells [.int .u64 s'.r, wk, wv, wt, .bool s'.cl] 5) (fr_up (k := .cells [.int .i64 a, .int .u64 b] 2) (fr_up (k := .cells [.int .u64 s'.r, wk, wv, wt, .bool s'.cl] 5) (f07.trans (f10.trans f11)) (nH 1)) (nH 2)) (lk_N hN 3)) (lk_N hN 4)
    have kp : ∀ y c, y ≠ N7.n 1 → y ≠ N7.n 2 → y ≠ N.n 3 → y ≠ N.n 4 → lk H11 y = some c → lk (upH (upH (upH (upH H11 (N7.n 1) (.cells [.int .u64 s'.r, wk, wv, wt, .bool s'.cl] 5)) (N7.n 2) (.cells [.int .i64 a, .int .u64 b] 2)) (N.n 3) (.cells [.int .u64 s'.r, wk, wv, wt, .bool s'.cl] 5)) (N.n 4) (.cells [.int .i64 a, .int .u64 b] 2)) y = some c := fun y c h1 h2 h3 h4 e => by
      rw [lk_upH, eqb h4, cond_false, lk_upH, eqb h3, cond_false, lk_upH, eqb h2, cond_false, lk_upH, eqb h1, cond_false]; exact e
    have k1_ : ∀ y c, lk H6 y = none → lk H7 y = some c → lk (upH (upH (upH (upH H11 (N7.n 1) (.cells [.int .u64 s'.r, wk, wv, wt, .bool s'.cl] 5)) (N7.n 2) (.cells [.int .i64 a, .int .u64 b] 2)) (N.n 3) (.cells [.int .u64 s'.r, wk, wv, wt, .bool s'.cl] 5)) (N.n 4) (.cells [.int .i64 a, .int .u64 b] 2)) y = some c := fun y c h1 h2 =>
      kp y c (fun e => by rw [e, lk_N g7 1] at h2; cases h2) (fun e => by rw [e, lk_N g7 2] at h2; cases h2) (fun e => by rw [e, r3] at h1; cases h1) (fun e => by rw [e, r4] at h1; cases h1) (f11 _ _ (f10 _ _ h2))
    have tF : ∀ H'', Nw H (upH (upH (upH (upH H11 (N7.n 1) (.cells [.int .u64 s'.r, wk, wv, wt, .bool s'.cl] 5)) (N7.n 2) (.cells [.int .i64 a, .int .u64 b] 2)) (N.n 3) (.cells [.int .u64 s'.r, wk, wv, wt, .bool s'.cl] 5)) (N.n 4) (.cells [.int .i64 a, .int .u64 b] 2)) H'' → StW B H'' wk wv wt s' := fun H'' nw =>
      t11 _ ⟨(slm_nw s1 (f5.trans f6) k1_ nw).wh w1_len, (slm_nw s2 (f5.trans f6) k1_ nw).wh w1_len, (slm_nw s3 (f5.trans f6) k1_ nw).wh f1_len⟩ (fun y c h1 h2 => nw y c (f07.dm _ (f10.dm _ h1)) (kp y c (fun e => by rw [e, l1] at h1; cases h1) (fun e => by rw [e, l2] at h1; cases h1) (fun e => by rw [e, m3] at h1; cases h1) (fun e => by rw [e, m4] at h1; cases h1) h2))
    rw [hH10] at e11
    simp (disch := omega) only [J84, hB, hR, hI, e0, e6, e7, e11, ha, K0, r0, r1, r2, r3, r4, p0, p1, p2, p3, p4, u0, u1, u2, u3, u4, v0, v1, v2, x0, x1, x2, x3, x4, y3, y4, hB7, hR7, hI7, b0, b1, b2, b3, b4, rb0, rb1, rb2, rb3, rb4, n43, n34, bn0, bn1, bn2, rn0, rn1, rn2, k1b, ek, all1, ress, res1, retV, Value.cells, newsV_s, seval, eV]
    exact ⟨s', wk, wv, wt, a, b, _, _, rfl, g15, fr15, tF, R11⟩
  · obtain ⟨s', wk, wv, wt, a, b, H11, N11, e11, g11, f11, t11, R11⟩ := xballot (cd := cd) (ky := ky) C (by unfold isK at hk; omega) R s10 hky hvl g10
    rw [decide_eq_false (by unfold isK at hk; omega)] at ek
    have u0 := f11 _ _ m0
    have u1 := f11 _ _ m1
    have u2 := f11 _ _ m2
    have u3 := f11 _ _ m3
    have u4 := f11 _ _ m4
    have v0 := f11 _ _ l0
    have v1 := f11 _ _ l1
    have v2 := f11 _ _ l2
    have K0 : all1 [wk, wv, wt, .bool s'.cl] = true := (t11 _ (((⟨s1.wh w1_len, s2.wh w1_len, s3.wh f1_len⟩ : StW B H7 _ _ _ s).mono f10).mono f11) (fun _ _ _ e => e)).all s'.cl
    have g12 := good_up (k := .cells [.int .u64 s'.r, wk, wv, wt, .bool s'.cl] 5) g11 bn1 v1
    have v2a : lk (upH H11 (N7.n 1) (.cells [.int .u64 s'.r, wk, wv, wt, .bool s'.cl] 5)) (N7.n 2) = some (.cells [.int .i64 0, .int .u64 0] 2) := by rw [lk_upH, hI7 2 1]; exact v2
    have g13 := good_up (k := .cells [.int .i64 a, .int .u64 b] 2) g12 bn2 v2a
    have w3 : lk (upH (upH H11 (N7.n 1) (.cells [.int .u64 s'.r, wk, wv, wt, .bool s'.cl] 5)) (N7.n 2) (.cells [.int .i64 a, .int .u64 b] 2)) (N.n 3) = some (.cells [.int .u64 0, .slice none 0 0, .slice none 0 0, .slice none 0 0, .bool false] 5) := by rw [lk_upH, x3 2, cond_false, lk_upH, x3 1, cond_false]; exact u3
    have g14 := good_up (k := .cells [.int .u64 s'.r, wk, wv, wt, .bool s'.cl] 5) g13 b3 w3
    have w4 : lk (upH (upH (upH H11 (N7.n 1) (.cells [.int .u64 s'.r, wk, wv, wt, .bool s'.cl] 5)) (N7.n 2) (.cells [.int .i64 a, .int .u64 b] 2)) (N.n 3) (.cells [.int .u64 s'.r, wk, wv, wt, .bool s'.cl] 5)) (N.n 4) = some (.cells [.int .i64 0, .int .u64 0] 2) := by rw [lk_upH, n43, cond_false, lk_upH, x4 2, cond_false, lk_upH, x4 1, cond_false]; exact u4
    have g15 := good_up (k := .cells [.int .i64 a, .int .u64 b] 2) g14 b4 w4
    have fr15 := fr_up (k := .cells [.int .i64 a, .int .u64 b] 2) (fr_up (k := .cells [.int .u64 s'.r, wk, wv, wt, .bool s'.cl] 5) (fr_up (k := .cells [.int .i64 a, .int .u64 b] 2) (fr_up (k := .cells [.int .u64 s'.r, wk, wv, wt, .bool s'.cl] 5) (f07.trans (f10.trans f11)) (nH 1)) (nH 2)) (lk_N hN 3)) (lk_N hN 4)
    have kp : ∀ y c, y ≠ N7.n 1 → y ≠ N7.n 2 → y ≠ N.n 3 → y ≠ N.n 4 → lk H11 y = some c → lk (upH (upH (upH (upH H11 (N7.n 1) (.cells [.int .u64 s'.r, wk, wv, wt, .bool s'.cl] 5)) (N7.n 2) (.cells [.int .i64 a, .int .u64 b] 2)) (N.n 3) (.cells [.int .u64 s'.r, wk, wv, wt, .bool s'.cl] 5)) (N.n 4) (.cells [.int .i64 a, .int .u64 b] 2)) y = some c := fun y c h1 h2 h3 h4 e => by
      rw [lk_upH, eqb h4, cond_false, lk_upH, eqb h3, cond_false, lk_upH, eqb h2, cond_false, lk_upH, eqb h1, cond_false]; exact e
    have k1_ : ∀ y c, lk H6 y = none → lk H7 y = some c → lk (upH (upH (upH (upH H11 (N7.n 1) (.cells [.int .u64 s'.r, wk, wv, wt, .bool s'.cl] 5)) (N7.n 2) (.cells [.int .i64 a, .int .u64 b] 2)) (N.n 3) (.cells [.int .u64 s'.r, wk, wv, wt, .bool s'.cl] 5)) (N.n 4) (.cells [.int .i64 a, .int .u64 b] 2)) y = some c := fun y c h1 h2 =>
      kp y c (fun e => by rw [e, lk_N g7 1] at h2; cases h2) (fun e => by rw [e, lk_N g7 2] at h2; cases h2) (fun e => by rw [e, r3] at h1; cases h1) (fun e => by rw [e, r4] at h1; cases h1) (f11 _ _ (f10 _ _ h2))
    have tF : ∀ H'', Nw H (upH (upH (upH (upH H11 (N7.n 1) (.cells [.int .u64 s'.r, wk, wv, wt, .bool s'.cl] 5)) (N7.n 2) (.cells [.int .i64 a, .int .u64 b] 2)) (N.n 3) (.cells [.int .u64 s'.r, wk, wv, wt, .bool s'.cl] 5)) (N.n 4) (.cells [.int .i64 a, .int .u64 b] 2)) H'' → StW B H'' wk wv wt s' := fun H'' nw =>
      t11 _ ⟨(slm_nw s1 (f5.trans f6) k1_ nw).wh w1_len, (slm_nw s2 (f5.trans f6) k1_ nw).wh w1_len, (slm_nw s3 (f5.trans f6) k1_ nw).wh f1_len⟩ (fun y c h1 h2 => nw y c (f07.dm _ (f10.dm _ h1)) (kp y c (fun e => by rw [e, l1] at h1; cases h1) (fun e => by rw [e, l2] at h1; cases h1) (fun e => by rw [e, m3] at h1; cases h1) (fun e => by rw [e, m4] at h1; cases h1) h2))
    rw [hH10] at e11
    simp (disch := omega) only [J84, hB, hR, hI, e0, e6, e7, e11, ha, K0, r0, r1, r2, r3, r4, p0, p1, p2, p3, p4, u0, u1, u2, u3, u4, v0, v1, v2, x0, x1, x2, x3, x4, y3, y4, hB7, hR7, hI7, b0, b1, b2, b3, b4, rb0, rb1, rb2, rb3, rb4, n43, n34, bn0, bn1, bn2, rn0, rn1, rn2, k1b, ek, all1, ress, res1, retV, Value.cells, newsV_s, seval, eV]
    exact ⟨s', wk, wv, wt, a, b, _, _, rfl, g15, fr15, tF, R11⟩
end Go.Proofs.YtfhiplfagejfoaaDoor
namespace Go.Proofs.YtfhiplfagejfoaaDoor
open Go.Proofs.YtfhiplfagejfoaaDoor.K Go.ChangeShapes Go.WideShapes Go.ChangeAt Go.RowKit 
set_option maxRecDepth 100000
set_option linter.unusedSimpArgs false
set_option linter.unusedVariables false

def RS (B : OH) (H : HL) (z sb : Nat) (vk vv vt : Value) (s : S9) : Prop := ∀ H'', (∀ y c, y ≠ z → y ≠ sb → lk H y = some c → lk H'' y = some c) → StW B H'' vk vv vt s
def lbSt : LC := (.seq (.seq (.ops [om 16 7,om 17 1,oa 18 (.len false (ot 17)),oa 19 (.bin .lss (ot 16) (ot 18)),om 20 19,ob 21 (.mv (ot 7)) 20 true,ob 22 (.bin .lss (ot 21) (oi 30)) 20 true,oa 23 (.pick (ot 20) (ot 22) (.const (.bool false)))])
 (.cond (ot 23) .skip
 (.exit 0)))
 (.seq (.block 1 (.seq (.seq (.draw [oe 27 (.load true 3 (ot 2)),oe 28 (.load true 5 (ot 5)),oe 29 (.load true 3 (ot 2)),pm 30 1,pm 31 7,oe 32 (.iaddrS 3 (ot 30) (ot 31)),oe 33 (.load true 3 (ot 32)),pm 34 7,oe 35 (.conv .u64 (ot 34))])
 (.fork (.seq (.draw [⟨oa 36 (.call (.func 75) [(ot 29), (ot 33), (ot 35)]), [oa 27 (.load true 3 (ot 2)),oa 28 (.load true 5 (ot 5))]⟩])
 (.fork (.seq (.draw [oe 37 (.call (.func 74) [(ot 27), (ot 28), (ot 36)]),pm 26 37,oe 38 (.ext (ot 26) 0),oe 39 (.ext (ot 26) 1),oe 40 (.ext (ot 26) 2)])
 (.fork (.draw [oe 8 (.alloc [(.int .u64 0), (.slice none 0 0), (.slice none 0 0), (.slice none 0 0), (.bool false)]),oe 9 (.alloc [(.int .i64 0), (.int .u64 0)]), ⟨oc (.store 5 (ot 8) (ot 38)),[]⟩,⟨oc (.store 2 (ot 9) (ot 39)),[]⟩,pm 10 40])
 (.draw [oe 9 (.alloc [(.int .i64 0), (.int .u64 0)]),oe 8 (.alloc [(.int .u64 0), (.slice none 0 0), (.slice none 0 0), (.slice none 0 0), (.bool false)]), ⟨oc (.store 5 (ot 8) (ot 38)),[]⟩,⟨oc (.store 2 (ot 9) (ot 39)),[]⟩,pm 10 40])))
 (.fork (.seq (.draw [⟨oa 8 (.alloc [(.int .u64 0), (.slice none 0 0), (.slice none 0 0), (.slice none 0 0), (.bool false)]), [oa 27 (.load true 3 (ot 2)),oa 28 (.load true 5 (ot 5))]⟩])
 (.fork (.draw [oe 37 (.call (.func 74) [(ot 27), (ot 28), (ot 36)]),pm 26 37,oe 38 (.ext (ot 26) 0),oe 39 (.ext (ot 26) 1),oe 40 (.ext (ot 26) 2),oe 9 (.alloc [(.int .i64 0), (.int .u64 0)]), ⟨oc (.store 5 (ot 8) (ot 38)),[]⟩,⟨oc (.store 2 (ot 9) (ot 39)),[]⟩,pm 10 40])
 (.draw [⟨oa 9 (.alloc [(.int .i64 0), (.int .u64 0)]), [oa 27 (.load true 3 (ot 2)),oa 28 (.load true 5 (ot 5))]⟩,oe 37 (.call (.func 74) [(ot 27), (ot 28), (ot 36)]),pm 26 37,oe 38 (.ext (ot 26) 0),oe 39 (.ext (ot 26) 1),oe 40 (.ext (ot 26) 2), ⟨oc (.store 5 (ot 8) (ot 38)),[]⟩,⟨oc (.store 2 (ot 9) (ot 39)),[]⟩,pm 10 40])))
 (.seq (.draw [⟨oa 9 (.alloc [(.int .i64 0), (.int .u64 0)]), [oa 27 (.load true 3 (ot 2)),oa 28 (.load true 5 (ot 5))]⟩])
 (.fork (.draw [oe 37 (.call (.func 74) [(ot 27), (ot 28), (ot 36)]),pm 26 37,oe 38 (.ext (ot 26) 0),oe 39 (.ext (ot 26) 1),oe 40 (.ext (ot 26) 2),oe 8 (.alloc [(.int .u64 0), (.slice none 0 0), (.slice none 0 0), (.slice none 0 0), (.bool false)]), ⟨oc (.store 5 (ot 8) (ot 38)),[]⟩,⟨oc (.store 2 (ot 9) (ot 39)),[]⟩,pm 10 40])
 (.draw [⟨oa 8 (.alloc [(.int .u64 0), (.slice none 0 0), (.slice none 0 0), (.slice none 0 0), (.bool false)]), [oa 27 (.load true 3 (ot 2)),oa 28 (.load true 5 (ot 5))]⟩,oe 37 (.call (.func 74) [(ot 27), (ot 28), (ot 36)]),pm 26 37,oe 38 (.ext (ot 26) 0),oe 39 (.ext (ot 26) 1),oe 40 (.ext (ot 26) 2), ⟨oc (.store 5 (ot 8) (ot 38)),[]⟩,⟨oc (.store 2 (ot 9) (ot 39)),[]⟩,pm 10 40]))))))
 (.fork (.seq (.draw [⟨oa 8 (.alloc [(.int .u64 0), (.slice none 0 0), (.slice none 0 0), (.slice none 0 0), (.bool false)]), [oa 27 (.load true 3 (ot 2)),oa 28 (.load true 5 (ot 5)),oa 29 (.load true 3 (ot 2)),oa 33 (.load true 3 (ot 32))]⟩])
 (.fork (.seq (.draw [⟨oa 36 (.call (.func 75) [(ot 29), (ot 33), (ot 35)]), [oa 27 (.load true 3 (ot 2)),oa 28 (.load true 5 (ot 5))]⟩])
 (.fork (.draw [oe 37 (.call (.func 74) [(ot 27), (ot 28), (ot 36)]),pm 26 37,oe 38 (.ext (ot 26) 0),oe 39 (.ext (ot 26) 1),oe 40 (.ext (ot 26) 2),oe 9 (.alloc [(.int .i64 0), (.int .u64 0)]), ⟨oc (.store 5 (ot 8) (ot 38)),[]⟩,⟨oc (.store 2 (ot 9) (ot 39)),[]⟩,pm 10 40])
 (.draw [⟨oa 9 (.alloc [(.int .i64 0), (.int .u64 0)]), [oa 27 (.load true 3 (ot 2)),oa 28 (.load true 5 (ot 5))]⟩,oe 37 (.call (.func 74) [(ot 27), (ot 28), (ot 36)]),pm 26 37,oe 38 (.ext (ot 26) 0),oe 39 (.ext (ot 26) 1),oe 40 (.ext (ot 26) 2), ⟨oc (.store 5 (ot 8) (ot 38)),[]⟩,⟨oc (.store 2 (ot 9) (ot 39)),[]⟩,pm 10 40])))
 (.draw [⟨oa 9 (.alloc [(.int .i64 0), (.int .u64 0)]), [oa 27 (.load true 3 (ot 2)),oa 28 (.load true 5 (ot 5)),oa 29 (.load true 3 (ot 2)),oa 33 (.load true 3 (ot 32))]⟩,⟨oa 36 (.call (.func 75) [(ot 29), (ot 33), (ot 35)]), [oa 27 (.load true 3 (ot 2)),oa 28 (.load true 5 (ot 5))]⟩,oe 37 (.call (.func 74) [(ot 27), (ot 28), (ot 36)]),pm 26 37,oe 38 (.ext (ot 26) 0),oe 39 (.ext (ot 26) 1),oe 40 (.ext (ot 26) 2), ⟨oc (.store 5 (ot 8) (ot 38)),[]⟩,⟨oc (.store 2 (ot 9) (ot 39)),[]⟩,pm 10 40])))
 (.seq (.draw [⟨oa 9 (.alloc [(.int .i64 0), (.int .u64 0)]), [oa 27 (.load true 3 (ot 2)),oa 28 (.load true 5 (ot 5)),oa 29 (.load true 3 (ot 2)),oa 33 (.load true 3 (ot 32))]⟩])
 (.fork (.seq (.draw [⟨oa 36 (.call (.func 75) [(ot 29), (ot 33), (ot 35)]), [oa 27 (.load true 3 (ot 2)),oa 28 (.load true 5 (ot 5))]⟩])
 (.fork (.draw [oe 37 (.call (.func 74) [(ot 27), (ot 28), (ot 36)]),pm 26 37,oe 38 (.ext (ot 26) 0),oe 39 (.ext (ot 26) 1),oe 40 (.ext (ot 26) 2),oe 8 (.alloc [(.int .u64 0), (.slice none 0 0), (.slice none 0 0), (.slice none 0 0), (.bool false)]), ⟨oc (.store 5 (ot 8) (ot 38)),[]⟩,⟨oc (.store 2 (ot 9) (ot 39)),[]⟩,pm 10 40])
 (.draw [⟨oa 8 (.alloc [(.int .u64 0), (.slice none 0 0), (.slice none 0 0), (.slice none 0 0), (.bool false)]), [oa 27 (.load true 3 (ot 2)),oa 28 (.load true 5 (ot 5))]⟩,oe 37 (.call (.func 74) [(ot 27), (ot 28), (ot 36)]),pm 26 37,oe 38 (.ext (ot 26) 0),oe 39 (.ext (ot 26) 1),oe 40 (.ext (ot 26) 2), ⟨oc (.store 5 (ot 8) (ot 38)),[]⟩,⟨oc (.store 2 (ot 9) (ot 39)),[]⟩,pm 10 40])))
 (.draw [⟨oa 8 (.alloc [(.int .u64 0), (.slice none 0 0), (.slice none 0 0), (.slice none 0 0), (.bool false)]), [oa 27 (.load true 3 (ot 2)),oa 28 (.load true 5 (ot 5)),oa 29 (.load true 3 (ot 2)),oa 33 (.load true 3 (ot 32))]⟩,⟨oa 36 (.call (.func 75) [(ot 29), (ot 33), (ot 35)]), [oa 27 (.load true 3 (ot 2)),oa 28 (.load true 5 (ot 5))]⟩,oe 37 (.call (.func 74) [(ot 27), (ot 28), (ot 36)]),pm 26 37,oe 38 (.ext (ot 26) 0),oe 39 (.ext (ot 26) 1),oe 40 (.ext (ot 26) 2), ⟨oc (.store 5 (ot 8) (ot 38)),[]⟩,⟨oc (.store 2 (ot 9) (ot 39)),[]⟩,pm 10 40]))))))
 (.seq (.ops [om 41 10,oa 42 (.bin .eql (ot 41) (oi 0))])
 (.cond (ot 42) (.ops [oa 43 (.load true 5 (ot 8)), oc (.store 5 (ot 5) (ot 43))])
 .skip))))
 (.ops [om 24 7,oa 25 (.bin .add (ot 24) (oi 1)),om 7 25])))
def LlS : FnL := ⟨(.seq (.ops [oa 2 (.box (ot 0)),oa 4 (.alloc [(.int .u64 0), (.slice none 0 0), (.slice none 0 0), (.slice none 0 0), (.bool false)])])
 (.seq (.ops [oa 12 (.load true 3 (ot 2)),oa 13 (.call (.func 73) [(ot 12)]),om 11 13,oa 14 (.ext (ot 11) 0),oa 15 (.ext (ot 11) 1),oa 5 (.alloc [(.int .u64 0), (.slice none 0 0), (.slice none 0 0), (.slice none 0 0), (.bool false)]), oc (.store 5 (ot 5) (ot 14)),om 6 15])
 (.seq (.seq (.ops [oa 7 (.mv (oi 0))])
 (.block 0 (.loop lbSt)))
 (.seq (.ops [oa 44 (.load true 5 (ot 5)), oc (.store 5 (ot 4) (ot 44))])
 .ret)))),
 45, [.cell 4 true 5]⟩
theorem lowlS : lowerFn Tryd.prog Tryd.f58 = some LlS := by kernel_rfl
noncomputable def GlS (B : OH) : Nat → Cs
  | 75 => Vlaw09Op B
  | 74 => Vref09Do B
  | 73 => Vref09New B
  | _ => fun _ _ _ => none
theorem GlS_law09Op {B : OH} : GlS B 75 = Vlaw09Op B := rfl
theorem GlS_ref09Do {B : OH} : GlS B 74 = Vref09Do B := rfl
theorem GlS_ref09New {B : OH} : GlS B 73 = Vref09New B := rfl
theorem sGlS {w0 : World} {B : OH} : SoundG Tryd.prog w0 B { f := GlS B } := .of fun k => by
  unfold GlS
  split
  · exact .inr ⟨enlaw09Op, sVlaw09Op⟩
  · exact .inr ⟨enref09Do, sVref09Do⟩
  · exact .inr ⟨enref09New, sVref09New⟩
  · exact .inl fun _ _ _ => rfl
theorem enlS : Enter Tryd.prog 58 := .of Tryd.func58 (by kernel_rfl) (by kernel_rfl)
noncomputable def TlS (B : OH) : Cs := callF B { f := GlS B } 1000000 LlS
theorem sTlS {w0 : World} {B : OH} : SoundC Tryd.prog w0 B 58 (TlS B) := callF_sound mixedOrders sGlS 1000000 Tryd.func58 lowlS
noncomputable def VlS (B : OH) : Cs := TlS B
theorem sVlS {w0 : World} {B : OH} : SoundC Tryd.prog w0 B 58 (VlS B) := sTlS
structure KSt (vr : Value) (c z sb i : Nat) (ts : List Value) : Prop where
  l : ts.length = 45
  t1 : gt ts 1 = vr
  t2 : gt ts 2 = .pointer (some ⟨c, 0, none⟩)
  t4 : gt ts 4 = .pointer (some ⟨z, 0, none⟩)
  t5 : gt ts 5 = .pointer (some ⟨sb, 0, none⟩)
  t7 : gt ts 7 = .int .i64 (i : Int)
theorem J85 : Said (an @TlS.eq_1 <| an @LlS.eq_1 <| an @GlS_law09Op <| an @Vlaw09Op_eq <| an @GlS_ref09Do <| an @GlS_ref09New <| an @lbSt.eq_1 <| trivial) := said_ok _
set_option maxHeartbeats 40000000 in
theorem loopSt {B : OH} {H0 H : HL} {N : St} {vr vk vv vt : Value} {raw : List Q3} {s : S9} {kk p cc h c z sb : Nat} (C : Cf kk p cc h) (R : Rt kk cc s) (hr : SlR q3 3 B H0 vr raw) (hrs : Q3s raw) (hs : RS B H z sb vk vv vt s) (hN : good B H N) (hF0 : Fr H0 H) (h0s : lk H0 sb = none) (bc : B c = none) (bz : B z = none) (bs_ : B sb = none) (lc : lk H c = some (.cells [.int .i64 (kk : Int), .int .i64 (p : Int), .int .i64 (cc : Int)] 3)) (lz : lk H z = some (.cells [.int .u64 0, .slice none 0 0, .slice none 0 0, .slice none 0 0, .bool false] 5)) (ls : lk H sb = some (.cells [.int .u64 s.r, vk, vv, vt, .bool s.cl] 5)) (hcs : (c == sb) = false) (hzs : (z == sb) = false) (hsc : (sb == c) = false) (hsz : (sb == z) = false) {ts : List Value} (kp : KSt vr c z sb 0 ts) {F : Nat} (hF : 1000 ≤ F) :
    Ok (exec B { f := GlS B } F (LC.loop lbSt) ⟨ts, H, N⟩) (fun x st => x = .exit 0 ∧ ∃ i, ∃ s : S9, ∃ vk vv vt : Value, good B st.H st.N ∧ Fr H0 st.H ∧ lk st.H c = some (.cells [.int .i64 (kk : Int), .int .i64 (p : Int), .int .i64 (cc : Int)] 3) ∧ lk st.H z = some (.cells [.int .u64 0, .slice none 0 0, .slice none 0 0, .slice none 0 0, .bool false] 5) ∧ lk st.H sb = some (.cells [.int .u64 s.r, vk, vv, vt, .bool s.cl] 5) ∧ RS B st.H z sb vk vv vt s ∧ Rt kk cc s ∧ KSt vr c z sb i st.t) := by
  have rc := rN bc
  have rz := rN bz
  have rs := rN bs_
  have hkk := C.k
  have hll := hr.len
  refine loop_rule (n0 := 500) (fun q st => ∃ ts H' N', ∃ i : Nat, ∃ s : S9, ∃ vk vv vt : Value, st = ⟨ts, H', N'⟩ ∧ KSt vr c z sb i ts ∧ good B H' N' ∧ Fr H0 H' ∧ lk H' c = some (.cells [.int .i64 (kk : Int), .int .i64 (p : Int), .int .i64 (cc : Int)] 3) ∧ lk H' z = some (.cells [.int .u64 0, .slice none 0 0, .slice none 0 0, .slice none 0 0, .bool false] 5) ∧ lk H' sb = some (.cells [.int .u64 s.r, vk, vv, vt, .bool s.cl] 5) ∧ RS B H' z sb vk vv vt s ∧ Rt kk cc s ∧ i ≤ 30 ∧ q = 30 - i) _ ?_ 30 _ ⟨ts, H, N, 0, s, vk, vv, vt, rfl, kp, hN, hF0, lc, lz, ls, hs, R, by omega, rfl⟩ _ (by omega)
  clear kp hF F ts hs R ls lc lz hN hF0 H N vk vv vt s
  rintro zz q st ⟨ts, H1, N1, i, s, vk, vv, vt, rfl, kp, g, fk, lc, lz, ls, hs, R, hi, rfl⟩
  obtain ⟨hB, hR, hI⟩ := gX g
  have hG : ∃ H N, good B H N := ⟨H1, N1, g⟩
  have nc := ne_N g lc
  have nz := ne_N g lz
  have ns := ne_N g ls
  have hc1 : ((i + 1 : Nat) : Int) = (i : Int) + 1 := by omega
  have hs1 := hs H1 (fun _ _ _ _ e => e)
  have ha := hs1.all s.cl
  have hn : ∀ j, lk H0 (N1.n j) = none := fun j => fk.dm _ (lk_N g j)
  by_cases hin : i < raw.length
  case neg =>
    have hin' : ¬ (i : Int) < (raw.length : Int) := by omega
    simp (disch := omega) only [J85, hB, hR, hI, kp.l, kp.t1, kp.t2, kp.t4, kp.t5, kp.t7, hll, hin', all1, ress, res1, retV, Value.cells, newsV_s, seval, eV]
    refine ok_some (.inr ⟨by simp, rfl, i, s, vk, vv, vt, g, fk, lc, lz, ls, hs, R, ⟨?_, ?_, ?_, ?_, ?_, ?_⟩⟩)
    all_goals simp (disch := omega) only [kp.l, kp.t1, kp.t2, kp.t4, kp.t5, kp.t7, Int.cast_ofNat_Int, decide_true, ev2, seval, ev5]
  have hin' : (i : Int) < (raw.length : Int) := by omega
  by_cases h30 : i < 30
  case neg =>
    have h30 : ¬ (i : Int) < 30 := by omega
    simp (disch := omega) only [J85, hB, hR, hI, kp.l, kp.t1, kp.t2, kp.t4, kp.t5, kp.t7, hll, hin', h30, all1, ress, res1, retV, Value.cells, newsV_s, seval, eV]
    refine ok_some (.inr ⟨by simp, rfl, i, s, vk, vv, vt, g, fk, lc, lz, ls, hs, R, ⟨?_, ?_, ?_, ?_, ?_, ?_⟩⟩)
    all_goals simp (disch := omega) only [kp.l, kp.t1, kp.t2, kp.t4, kp.t5, kp.t7, Int.cast_ofNat_Int, decide_true, ev2, seval, ev5]
  have h30n := h30
  have h30 : (i : Int) < 30 := by omega
  have i0 : (0 : Int) ≤ (i : Int) := by omega
  have wi : IntKind.u64.wrap (i : Int) = (i : Int) := IntWalk.u64_in _ (by omega)
  obtain ⟨bv, ov, cv, rfl, _, rv⟩ := hr.at (by omega)
  have hrd := fun (H'' : HL) (f : Fr H1 H'') => SlR.read rv q3_len (fk.trans f) q30 hin
  obtain ⟨ux, uy, uz⟩ := hrs _ (List.mem_of_getElem? (some_getD (d := q30) hin))
  generalize raw.getD i q30 = rq at *
  obtain ⟨x, y, zq⟩ := rq
  simp only [q3] at hrd ux uy uz
  have r1 := hrd H1 Fr.refl
  obtain ⟨cd, ky, vl, hcd, hky, hvl, eO⟩ := xOp (k := (kk : Int)) (p := (p : Int)) (c := (cc : Int)) (w := (i : Int)) hG (by omega) ux uy uz (by unfold u64R; omega)
  have gg : good B H1 N1 := g
  cases h0 : N1.g 0 with
  | true =>
    cases h1 : N1.g 1 with
    | true =>
      obtain ⟨Hp, hHp⟩ : ∃ Hp, Hp = H1 := ⟨_, rfl⟩
      have gp : good B Hp (shg (shg N1)) := by rw [hHp]; exact gg
      have fp : Fr H1 Hp := by rw [hHp]; repeat (first | exact Fr.refl | refine fr_set ?_ (lk_N g _))
      obtain ⟨s', wk, wv, wt, a, b, H', N', eD, g', f', tD, R'⟩ := xDo (cd := cd) (ky := ky) (vl := vl) C R (hs1.mono fp) hky hvl gp
      cases hgp : N'.g 0 with
      | true =>
        have f1 := fp.trans f'
        have lc' := f1 _ _ lc
        have lz' := f1 _ _ lz
        have ls' := f1 _ _ ls
        have nc' := ne_N g' lc'
        have nz' := ne_N g' lz'
        have ns' := ne_N g' ls'
        have hB' := good_B g'
        have hR' := good_rdB g'
        have hI' := beqN g'.1.1
        have ha' := (tD H' (fun _ _ _ e => e)).all s'.cl
        have os : lk (H') sb = some (.cells [.int .u64 s.r, vk, vv, vt, .bool s.cl] 5) := by exact ls'
        have gus := good_up (k := (.cells [.int .u64 s'.r, wk, wv, wt, .bool s'.cl] 5)) g' bs_ os
        obtain ⟨HF, hHF⟩ : ∃ HF, HF = (N'.n 1, (.cells [.int .i64 a, .int .u64 b] 2)) :: (N'.n 0, (.cells [.int .u64 s'.r, wk, wv, wt, .bool s'.cl] 5)) :: upH (H') sb (.cells [.int .u64 s'.r, wk, wv, wt, .bool s'.cl] 5) := ⟨_, rfl⟩
        have lcF : lk HF c = some (.cells [.int .i64 (kk : Int), .int .i64 (p : Int), .int .i64 (cc : Int)] 3) := by rw [hHF, lk_cons, nc' 1, cond_false, lk_cons, nc' 0, cond_false, lk_upH, hcs, cond_false]; exact lc'
        have lzF : lk HF z = some (.cells [.int .u64 0, .slice none 0 0, .slice none 0 0, .slice none 0 0, .bool false] 5) := by rw [hHF, lk_cons, nz' 1, cond_false, lk_cons, nz' 0, cond_false, lk_upH, hzs, cond_false]; exact lz'
        have lsF : lk HF sb = some (.cells [.int .u64 s'.r, wk, wv, wt, .bool s'.cl] 5) := by rw [hHF, lk_cons, ns' 1, cond_false, lk_cons, ns' 0, cond_false, lk_upH, beq_self_eq_true, cond_true]
        have nwF : Nw Hp H' HF := fun y c0 h0 h1 => by
          rw [hHF, lk_cons, ne_N g' h1 1, cond_false, lk_cons, ne_N g' h1 0, cond_false, lk_upH, eqb (fun e => by rw [e, fp _ _ ls] at h0; cases h0), cond_false]; exact h1
        have fF : Fr H0 HF := by rw [hHF]; exact fr_set (fr_set ((fr_up (k := (.cells [.int .u64 s'.r, wk, wv, wt, .bool s'.cl] 5)) (fk.trans f1) h0s)) (fk.dm _ (f1.dm _ (lk_N g' 0)))) (fk.dm _ (f1.dm _ (lk_N g' 1)))
        rw [hHp] at eD
        simp (disch := omega) only [J85, hB, hR, hI, kp.l, kp.t1, kp.t2, kp.t4, kp.t5, kp.t7, hll, lc, lz, ls, bc, bz, bs_, rc, rz, rs, nc, nz, ns, hin, hin', h30, i0, r1, wi, eO, ha, Nat.mul_one, eD, h0, h1, hgp, lc', lz', ls', nc', nz', ns', hB', hR', hI', ha', hcs, hzs, hsc, hsz, all1, ress, res1, retV, Value.cells, newsV_s, seval, eV]
        rw [← hHF]
        refine ok_some (.inl ⟨rfl, 30 - (i + 1), by omega, _, HF, _, i + 1, s', wk, wv, wt, rfl, ⟨?_, ?_, ?_, ?_, ?_, ?_⟩, by rw [hHF]; exact (good_new (good_new gus)), fF, lcF, lzF, lsF, (fun H'' hk => tD H'' (fun y c0 h0 h1 => hk y c0 (fun e => by rw [e, fp _ _ lz] at h0; cases h0) (fun e => by rw [e, fp _ _ ls] at h0; cases h0) (nwF y c0 h0 h1))), R', by omega, rfl⟩)
        all_goals simp (disch := omega) only [kp.l, kp.t1, kp.t2, kp.t4, kp.t5, kp.t7, hc1, Int.cast_ofNat_Int, decide_true, ev2, seval, ev5]
      | false =>
        have f1 := fp.trans f'
        have lc' := f1 _ _ lc
        have lz' := f1 _ _ lz
        have ls' := f1 _ _ ls
        have nc' := ne_N g' lc'
        have nz' := ne_N g' lz'
        have ns' := ne_N g' ls'
        have hB' := good_B g'
        have hR' := good_rdB g'
        have hI' := beqN g'.1.1
        have ha' := (tD H' (fun _ _ _ e => e)).all s'.cl
        have os : lk (H') sb = some (.cells [.int .u64 s.r, vk, vv, vt, .bool s.cl] 5) := by exact ls'
        have gus := good_up (k := (.cells [.int .u64 s'.r, wk, wv, wt, .bool s'.cl] 5)) g' bs_ os
        obtain ⟨HF, hHF⟩ : ∃ HF, HF = (N'.n 1, (.cells [.int .u64 s'.r, wk, wv, wt, .bool s'.cl] 5)) :: (N'.n 0, (.cells [.int .i64 a, .int .u64 b] 2)) :: upH (H') sb (.cells [.int .u64 s'.r, wk, wv, wt, .bool s'.cl] 5) := ⟨_, rfl⟩
        have lcF : lk HF c = some (.cells [.int .i64 (kk : Int), .int .i64 (p : Int), .int .i64 (cc : Int)] 3) := by rw [hHF, lk_cons, nc' 1, cond_false, lk_cons, nc' 0, cond_false, lk_upH, hcs, cond_false]; exact lc'
        have lzF : lk HF z = some (.cells [.int .u64 0, .slice none 0 0, .slice none 0 0, .slice none 0 0, .bool false] 5) := by rw [hHF, lk_cons, nz' 1, cond_false, lk_cons, nz' 0, cond_false, lk_upH, hzs, cond_false]; exact lz'
        have lsF : lk HF sb = some (.cells [.int .u64 s'.r, wk, wv, wt, .bool s'.cl] 5) := by rw [hHF, lk_cons, ns' 1, cond_false, lk_cons, ns' 0, cond_false, lk_upH, beq_self_eq_true, cond_true]
        have nwF : Nw Hp H' HF := fun y c0 h0 h1 => by
          rw [hHF, lk_cons, ne_N g' h1 1, cond_false, lk_cons, ne_N g' h1 0, cond_false, lk_upH, eqb (fun e => by rw [e, fp _ _ ls] at h0; cases h0), cond_false]; exact h1
        have fF : Fr H0 HF := by rw [hHF]; exact fr_set (fr_set ((fr_up (k := (.cells [.int .u64 s'.r, wk, wv, wt, .bool s'.cl] 5)) (fk.trans f1) h0s)) (fk.dm _ (f1.dm _ (lk_N g' 0)))) (fk.dm _ (f1.dm _ (lk_N g' 1)))
        rw [hHp] at eD
        simp (disch := omega) only [J85, hB, hR, hI, kp.l, kp.t1, kp.t2, kp.t4, kp.t5, kp.t7, hll, lc, lz, ls, bc, bz, bs_, rc, rz, rs, nc, nz, ns, hin, hin', h30, i0, r1, wi, eO, ha, Nat.mul_one, eD, h0, h1, hgp, lc', lz', ls', nc', nz', ns', hB', hR', hI', ha', hcs, hzs, hsc, hsz, all1, ress, res1, retV, Value.cells, newsV_s, seval, eV]
        rw [← hHF]
        refine ok_some (.inl ⟨rfl, 30 - (i + 1), by omega, _, HF, _, i + 1, s', wk, wv, wt, rfl, ⟨?_, ?_, ?_, ?_, ?_, ?_⟩, by rw [hHF]; exact (good_new (good_new gus)), fF, lcF, lzF, lsF, (fun H'' hk => tD H'' (fun y c0 h0 h1 => hk y c0 (fun e => by rw [e, fp _ _ lz] at h0; cases h0) (fun e => by rw [e, fp _ _ ls] at h0; cases h0) (nwF y c0 h0 h1))), R', by omega, rfl⟩)
        all_goals simp (disch := omega) only [kp.l, kp.t1, kp.t2, kp.t4, kp.t5, kp.t7, hc1, Int.cast_ofNat_Int, decide_true, ev2, seval, ev5]
    | false =>
      cases h2 : N1.g 2 with
      | true =>
        cases h4 : N1.g 4 with
        | true =>
          have rp1 := hrd ((N1.n 0, (.cells [.int .u64 0, .slice none 0 0, .slice none 0 0, .slice none 0 0, .bool false] 5 : KB)) :: H1) (by repeat (first | exact Fr.refl | refine fr_set ?_ (lk_N g _)))
          obtain ⟨Hp, hHp⟩ : ∃ Hp, Hp = (N1.n 0, (.cells [.int .u64 0, .slice none 0 0, .slice none 0 0, .slice none 0 0, .bool false] 5 : KB)) :: H1 := ⟨_, rfl⟩
          have gp : good B Hp (shg (sh (shg (shg (shg N1))))) := by rw [hHp]; exact good_new gg
          have fp : Fr H1 Hp := by rw [hHp]; repeat (first | exact Fr.refl | refine fr_set ?_ (lk_N g _))
          have l8 : lk Hp (N1.n 0) = some (.cells [.int .u64 0, .slice none 0 0, .slice none 0 0, .slice none 0 0, .bool false] 5) := by rw [hHp]; simp only [lk_cons, hI]; rfl
          obtain ⟨s', wk, wv, wt, a, b, H', N', eD, g', f', tD, R'⟩ := xDo (cd := cd) (ky := ky) (vl := vl) C R (hs1.mono fp) hky hvl gp
          have f1 := fp.trans f'
          have lc' := f1 _ _ lc
          have lz' := f1 _ _ lz
          have ls' := f1 _ _ ls
          have nc' := ne_N g' lc'
          have nz' := ne_N g' lz'
          have ns' := ne_N g' ls'
          have hB' := good_B g'
          have hR' := good_rdB g'
          have hI' := beqN g'.1.1
          have ha' := (tD H' (fun _ _ _ e => e)).all s'.cl
          have b8 := hB 0
          have r8 := rN b8
          have l8' := f' _ _ l8
          have n8' := ne_N g' l8'
          have m8' := ne_N' g' l8'
          have c8c : (N1.n 0 == c) = false := eqb fun e => by rw [← e, lk_N g] at lc; cases lc
          have c8z : (N1.n 0 == z) = false := eqb fun e => by rw [← e, lk_N g] at lz; cases lz
          have c8s : (N1.n 0 == sb) = false := eqb fun e => by rw [← e, lk_N g] at ls; cases ls
          have d8c : (c == N1.n 0) = false := nc 0
          have d8z : (z == N1.n 0) = false := nz 0
          have d8s : (sb == N1.n 0) = false := ns 0
          have o8 : lk (H') (N1.n 0) = some (.cells [.int .u64 0, .slice none 0 0, .slice none 0 0, .slice none 0 0, .bool false] 5) := by exact l8'
          have gu8 := good_up (k := (.cells [.int .u64 s'.r, wk, wv, wt, .bool s'.cl] 5)) g' b8 o8
          have os : lk (upH (H') (N1.n 0) (.cells [.int .u64 s'.r, wk, wv, wt, .bool s'.cl] 5)) sb = some (.cells [.int .u64 s.r, vk, vv, vt, .bool s.cl] 5) := by rw [lk_upH, d8s, cond_false]; exact ls'
          have gus := good_up (k := (.cells [.int .u64 s'.r, wk, wv, wt, .bool s'.cl] 5)) gu8 bs_ os
          obtain ⟨HF, hHF⟩ : ∃ HF, HF = (N'.n 0, (.cells [.int .i64 a, .int .u64 b] 2)) :: upH (upH (H') (N1.n 0) (.cells [.int .u64 s'.r, wk, wv, wt, .bool s'.cl] 5)) sb (.cells [.int .u64 s'.r, wk, wv, wt, .bool s'.cl] 5) := ⟨_, rfl⟩
          have lcF : lk HF c = some (.cells [.int .i64 (kk : Int), .int .i64 (p : Int), .int .i64 (cc : Int)] 3) := by rw [hHF, lk_cons, nc' 0, cond_false, lk_upH, hcs, cond_false, lk_upH, d8c, cond_false]; exact lc'
          have lzF : lk HF z = some (.cells [.int .u64 0, .slice none 0 0, .slice none 0 0, .slice none 0 0, .bool false] 5) := by rw [hHF, lk_cons, nz' 0, cond_false, lk_upH, hzs, cond_false, lk_upH, d8z, cond_false]; exact lz'
          have lsF : lk HF sb = some (.cells [.int .u64 s'.r, wk, wv, wt, .bool s'.cl] 5) := by rw [hHF, lk_cons, ns' 0, cond_false, lk_upH, beq_self_eq_true, cond_true]
          have nwF : Nw Hp H' HF := fun y c0 h0 h1 => by
            rw [hHF, lk_cons, ne_N g' h1 0, cond_false, lk_upH, eqb (fun e => by rw [e, fp _ _ ls] at h0; cases h0), cond_false, lk_upH, eqb (fun e => by rw [e, l8] at h0; cases h0), cond_false]; exact h1
          have fF : Fr H0 HF := by rw [hHF]; exact fr_set ((fr_up (k := (.cells [.int .u64 s'.r, wk, wv, wt, .bool s'.cl] 5)) (fr_up (k := (.cells [.int .u64 s'.r, wk, wv, wt, .bool s'.cl] 5)) (fk.trans f1) (hn 0)) h0s)) (fk.dm _ (f1.dm _ (lk_N g' 0)))
          rw [hHp] at eD
          simp (disch := omega) only [J85, hB, hR, hI, kp.l, kp.t1, kp.t2, kp.t4, kp.t5, kp.t7, hll, lc, lz, ls, bc, bz, bs_, rc, rz, rs, nc, nz, ns, hin, hin', h30, i0, r1, wi, eO, ha, Nat.mul_one, eD, h0, h1, h2, h4, rp1, b8, r8, l8', n8', m8', c8c, c8z, c8s, d8c, d8z, d8s, lc', lz', ls', nc', nz', ns', hB', hR', hI', ha', hcs, hzs, hsc, hsz, all1, ress, res1, retV, Value.cells, newsV_s, seval, eV]
          rw [← hHF]
          refine ok_some (.inl ⟨rfl, 30 - (i + 1), by omega, _, HF, _, i + 1, s', wk, wv, wt, rfl, ⟨?_, ?_, ?_, ?_, ?_, ?_⟩, by rw [hHF]; exact (good_new gus), fF, lcF, lzF, lsF, (fun H'' hk => tD H'' (fun y c0 h0 h1 => hk y c0 (fun e => by rw [e, fp _ _ lz] at h0; cases h0) (fun e => by rw [e, fp _ _ ls] at h0; cases h0) (nwF y c0 h0 h1))), R', by omega, rfl⟩)
          all_goals simp (disch := omega) only [kp.l, kp.t1, kp.t2, kp.t4, kp.t5, kp.t7, hc1, Int.cast_ofNat_Int, decide_true, ev2, seval, ev5]
        | false =>
          have rp1 := hrd ((N1.n 0, (.cells [.int .u64 0, .slice none 0 0, .slice none 0 0, .slice none 0 0, .bool false] 5 : KB)) :: H1) (by repeat (first | exact Fr.refl | refine fr_set ?_ (lk_N g _)))
          have rp2 := hrd ((N1.n 1, (.cells [.int .i64 0, .int .u64 0] 2 : KB)) :: (N1.n 0, (.cells [.int .u64 0, .slice none 0 0, .slice none 0 0, .slice none 0 0, .bool false] 5 : KB)) :: H1) (by repeat (first | exact Fr.refl | refine fr_set ?_ (lk_N g _)))
          obtain ⟨Hp, hHp⟩ : ∃ Hp, Hp = (N1.n 1, (.cells [.int .i64 0, .int .u64 0] 2 : KB)) :: (N1.n 0, (.cells [.int .u64 0, .slice none 0 0, .slice none 0 0, .slice none 0 0, .bool false] 5 : KB)) :: H1 := ⟨_, rfl⟩
          have gp : good B Hp (sh (shg (sh (shg (shg (shg N1)))))) := by rw [hHp]; exact good_new (good_new gg)
          have fp : Fr H1 Hp := by rw [hHp]; repeat (first | exact Fr.refl | refine fr_set ?_ (lk_N g _))
          have l8 : lk Hp (N1.n 0) = some (.cells [.int .u64 0, .slice none 0 0, .slice none 0 0, .slice none 0 0, .bool false] 5) := by rw [hHp]; simp only [lk_cons, hI]; rfl
          have l9 : lk Hp (N1.n 1) = some (.cells [.int .i64 0, .int .u64 0] 2) := by rw [hHp]; simp only [lk_cons, hI]; rfl
          obtain ⟨s', wk, wv, wt, a, b, H', N', eD, g', f', tD, R'⟩ := xDo (cd := cd) (ky := ky) (vl := vl) C R (hs1.mono fp) hky hvl gp
          have f1 := fp.trans f'
          have lc' := f1 _ _ lc
          have lz' := f1 _ _ lz
          have ls' := f1 _ _ ls
          have nc' := ne_N g' lc'
          have nz' := ne_N g' lz'
          have ns' := ne_N g' ls'
          have hB' := good_B g'
          have hR' := good_rdB g'
          have hI' := beqN g'.1.1
          have ha' := (tD H' (fun _ _ _ e => e)).all s'.cl
          have b8 := hB 0
          have r8 := rN b8
          have l8' := f' _ _ l8
          have n8' := ne_N g' l8'
          have m8' := ne_N' g' l8'
          have c8c : (N1.n 0 == c) = false := eqb fun e => by rw [← e, lk_N g] at lc; cases lc
          have c8z : (N1.n 0 == z) = false := eqb fun e => by rw [← e, lk_N g] at lz; cases lz
          have c8s : (N1.n 0 == sb) = false := eqb fun e => by rw [← e, lk_N g] at ls; cases ls
          have d8c : (c == N1.n 0) = false := nc 0
          have d8z : (z == N1.n 0) = false := nz 0
          have d8s : (sb == N1.n 0) = false := ns 0
          have b9 := hB 1
          have r9 := rN b9
          have l9' := f' _ _ l9
          have n9' := ne_N g' l9'
          have m9' := ne_N' g' l9'
          have c9c : (N1.n 1 == c) = false := eqb fun e => by rw [← e, lk_N g] at lc; cases lc
          have c9z : (N1.n 1 == z) = false := eqb fun e => by rw [← e, lk_N g] at lz; cases lz
          have c9s : (N1.n 1 == sb) = false := eqb fun e => by rw [← e, lk_N g] at ls; cases ls
          have d9c : (c == N1.n 1) = false := nc 1
          have d9z : (z == N1.n 1) = false := nz 1
          have d9s : (sb == N1.n 1) = false := ns 1
          have o8 : lk (H') (N1.n 0) = some (.cells [.int .u64 0, .slice none 0 0, .slice none 0 0, .slice none 0 0, .bool false] 5) := by exact l8'
          have gu8 := good_up (k := (.cells [.int .u64 s'.r, wk, wv, wt, .bool s'.cl] 5)) g' b8 o8
          have o9 : lk (upH (H') (N1.n 0) (.cells [.int .u64 s'.r, wk, wv, wt, .bool s'.cl] 5)) (N1.n 1) = some (.cells [.int .i64 0, .int .u64 0] 2) := by rw [lk_upH, hI 1 0]; exact l9'
          have gu9 := good_up (k := (.cells [.int .i64 a, .int .u64 b] 2)) gu8 b9 o9
          have os : lk (upH (upH (H') (N1.n 0) (.cells [.int .u64 s'.r, wk, wv, wt, .bool s'.cl] 5)) (N1.n 1) (.cells [.int .i64 a, .int .u64 b] 2)) sb = some (.cells [.int .u64 s.r, vk, vv, vt, .bool s.cl] 5) := by rw [lk_upH, d9s, cond_false, lk_upH, d8s, cond_false]; exact ls'
          have gus := good_up (k := (.cells [.int .u64 s'.r, wk, wv, wt, .bool s'.cl] 5)) gu9 bs_ os
          obtain ⟨HF, hHF⟩ : ∃ HF, HF = upH (upH (upH (H') (N1.n 0) (.cells [.int .u64 s'.r, wk, wv, wt, .bool s'.cl] 5)) (N1.n 1) (.cells [.int .i64 a, .int .u64 b] 2)) sb (.cells [.int .u64 s'.r, wk, wv, wt, .bool s'.cl] 5) := ⟨_, rfl⟩
          have lcF : lk HF c = some (.cells [.int .i64 (kk : Int), .int .i64 (p : Int), .int .i64 (cc : Int)] 3) := by rw [hHF, lk_upH, hcs, cond_false, lk_upH, d9c, cond_false, lk_upH, d8c, cond_false]; exact lc'
          have lzF : lk HF z = some (.cells [.int .u64 0, .slice none 0 0, .slice none 0 0, .slice none 0 0, .bool false] 5) := by rw [hHF, lk_upH, hzs, cond_false, lk_upH, d9z, cond_false, lk_upH, d8z, cond_false]; exact lz'
          have lsF : lk HF sb = some (.cells [.int .u64 s'.r, wk, wv, wt, .bool s'.cl] 5) := by rw [hHF, lk_upH, beq_self_eq_true, cond_true]
          have nwF : Nw Hp H' HF := fun y c0 h0 h1 => by
            rw [hHF, lk_upH, eqb (fun e => by rw [e, fp _ _ ls] at h0; cases h0), cond_false, lk_upH, eqb (fun e => by rw [e, l9] at h0; cases h0), cond_false, lk_upH, eqb (fun e => by rw [e, l8] at h0; cases h0), cond_false]; exact h1
          have fF : Fr H0 HF := by rw [hHF]; exact (fr_up (k := (.cells [.int .u64 s'.r, wk, wv, wt, .bool s'.cl] 5)) (fr_up (k := (.cells [.int .i64 a, .int .u64 b] 2)) (fr_up (k := (.cells [.int .u64 s'.r, wk, wv, wt, .bool s'.cl] 5)) (fk.trans f1) (hn 0)) (hn 1)) h0s)
          rw [hHp] at eD
          simp (disch := omega) only [J85, hB, hR, hI, kp.l, kp.t1, kp.t2, kp.t4, kp.t5, kp.t7, hll, lc, lz, ls, bc, bz, bs_, rc, rz, rs, nc, nz, ns, hin, hin', h30, i0, r1, wi, eO, ha, Nat.mul_one, eD, h0, h1, h2, h4, rp1, rp2, b8, r8, l8', n8', m8', c8c, c8z, c8s, d8c, d8z, d8s, b9, r9, l9', n9', m9', c9c, c9z, c9s, d9c, d9z, d9s, lc', lz', ls', nc', nz', ns', hB', hR', hI', ha', hcs, hzs, hsc, hsz, all1, ress, res1, retV, Value.cells, newsV_s, seval, eV]
          rw [← hHF]
          refine ok_some (.inl ⟨rfl, 30 - (i + 1), by omega, _, HF, _, i + 1, s', wk, wv, wt, rfl, ⟨?_, ?_, ?_, ?_, ?_, ?_⟩, by rw [hHF]; exact gus, fF, lcF, lzF, lsF, (fun H'' hk => tD H'' (fun y c0 h0 h1 => hk y c0 (fun e => by rw [e, fp _ _ lz] at h0; cases h0) (fun e => by rw [e, fp _ _ ls] at h0; cases h0) (nwF y c0 h0 h1))), R', by omega, rfl⟩)
          all_goals simp (disch := omega) only [kp.l, kp.t1, kp.t2, kp.t4, kp.t5, kp.t7, hc1, Int.cast_ofNat_Int, decide_true, ev2, seval, ev5]
      | false =>
        cases h4 : N1.g 4 with
        | true =>
          have rp1 := hrd ((N1.n 0, (.cells [.int .i64 0, .int .u64 0] 2 : KB)) :: H1) (by repeat (first | exact Fr.refl | refine fr_set ?_ (lk_N g _)))
          obtain ⟨Hp, hHp⟩ : ∃ Hp, Hp = (N1.n 0, (.cells [.int .i64 0, .int .u64 0] 2 : KB)) :: H1 := ⟨_, rfl⟩
          have gp : good B Hp (shg (sh (shg (shg (shg N1))))) := by rw [hHp]; exact good_new gg
          have fp : Fr H1 Hp := by rw [hHp]; repeat (first | exact Fr.refl | refine fr_set ?_ (lk_N g _))
          have l9 : lk Hp (N1.n 0) = some (.cells [.int .i64 0, .int .u64 0] 2) := by rw [hHp]; simp only [lk_cons, hI]; rfl
          obtain ⟨s', wk, wv, wt, a, b, H', N', eD, g', f', tD, R'⟩ := xDo (cd := cd) (ky := ky) (vl := vl) C R (hs1.mono fp) hky hvl gp
          have f1 := fp.trans f'
          have lc' := f1 _ _ lc
          have lz' := f1 _ _ lz
          have ls' := f1 _ _ ls
          have nc' := ne_N g' lc'
          have nz' := ne_N g' lz'
          have ns' := ne_N g' ls'
          have hB' := good_B g'
          have hR' := good_rdB g'
          have hI' := beqN g'.1.1
          have ha' := (tD H' (fun _ _ _ e => e)).all s'.cl
          have b9 := hB 0
          have r9 := rN b9
          have l9' := f' _ _ l9
          have n9' := ne_N g' l9'
          have m9' := ne_N' g' l9'
          have c9c : (N1.n 0 == c) = false := eqb fun e => by rw [← e, lk_N g] at lc; cases lc
          have c9z : (N1.n 0 == z) = false := eqb fun e => by rw [← e, lk_N g] at lz; cases lz
          have c9s : (N1.n 0 == sb) = false := eqb fun e => by rw [← e, lk_N g] at ls; cases ls
          have d9c : (c == N1.n 0) = false := nc 0
          have d9z : (z == N1.n 0) = false := nz 0
          have d9s : (sb == N1.n 0) = false := ns 0
          have o9 : lk (H') (N1.n 0) = some (.cells [.int .i64 0, .int .u64 0] 2) := by exact l9'
          have gu9 := good_up (k := (.cells [.int .i64 a, .int .u64 b] 2)) g' b9 o9
          have os : lk (upH (H') (N1.n 0) (.cells [.int .i64 a, .int .u64 b] 2)) sb = some (.cells [.int .u64 s.r, vk, vv, vt, .bool s.cl] 5) := by rw [lk_upH, d9s, cond_false]; exact ls'
          have gus := good_up (k := (.cells [.int .u64 s'.r, wk, wv, wt, .bool s'.cl] 5)) gu9 bs_ os
          obtain ⟨HF, hHF⟩ : ∃ HF, HF = (N'.n 0, (.cells [.int .u64 s'.r, wk, wv, wt, .bool s'.cl] 5)) :: upH (upH (H') (N1.n 0) (.cells [.int .i64 a, .int .u64 b] 2)) sb (.cells [.int .u64 s'.r, wk, wv, wt, .bool s'.cl] 5) := ⟨_, rfl⟩
          have lcF : lk HF c = some (.cells [.int .i64 (kk : Int), .int .i64 (p : Int), .int .i64 (cc : Int)] 3) := by rw [hHF, lk_cons, nc' 0, cond_false, lk_upH, hcs, cond_false, lk_upH, d9c, cond_false]; exact lc'
          have lzF : lk HF z = some (.cells [.int .u64 0, .slice none 0 0, .slice none 0 0, .slice none 0 0, .bool false] 5) := by rw [hHF, lk_cons, nz' 0, cond_false, lk_upH, hzs, cond_false, lk_upH, d9z, cond_false]; exact lz'
          have lsF : lk HF sb = some (.cells [.int .u64 s'.r, wk, wv, wt, .bool s'.cl] 5) := by rw [hHF, lk_cons, ns' 0, cond_false, lk_upH, beq_self_eq_true, cond_true]
          have nwF : Nw Hp H' HF := fun y c0 h0 h1 => by
            rw [hHF, lk_cons, ne_N g' h1 0, cond_false, lk_upH, eqb (fun e => by rw [e, fp _ _ ls] at h0; cases h0), cond_false, lk_upH, eqb (fun e => by rw [e, l9] at h0; cases h0), cond_false]; exact h1
          have fF : Fr H0 HF := by rw [hHF]; exact fr_set ((fr_up (k := (.cells [.int .u64 s'.r, wk, wv, wt, .bool s'.cl] 5)) (fr_up (k := (.cells [.int .i64 a, .int .u64 b] 2)) (fk.trans f1) (hn 0)) h0s)) (fk.dm _ (f1.dm _ (lk_N g' 0)))
          rw [hHp] at eD
          simp (disch := omega) only [J85, hB, hR, hI, kp.l, kp.t1, kp.t2, kp.t4, kp.t5, kp.t7, hll, lc, lz, ls, bc, bz, bs_, rc, rz, rs, nc, nz, ns, hin, hin', h30, i0, r1, wi, eO, ha, Nat.mul_one, eD, h0, h1, h2, h4, rp1, b9, r9, l9', n9', m9', c9c, c9z, c9s, d9c, d9z, d9s, lc', lz', ls', nc', nz', ns', hB', hR', hI', ha', hcs, hzs, hsc, hsz, all1, ress, res1, retV, Value.cells, newsV_s, seval, eV]
          rw [← hHF]
          refine ok_some (.inl ⟨rfl, 30 - (i + 1), by omega, _, HF, _, i + 1, s', wk, wv, wt, rfl, ⟨?_, ?_, ?_, ?_, ?_, ?_⟩, by rw [hHF]; exact (good_new gus), fF, lcF, lzF, lsF, (fun H'' hk => tD H'' (fun y c0 h0 h1 => hk y c0 (fun e => by rw [e, fp _ _ lz] at h0; cases h0) (fun e => by rw [e, fp _ _ ls] at h0; cases h0) (nwF y c0 h0 h1))), R', by omega, rfl⟩)
          all_goals simp (disch := omega) only [kp.l, kp.t1, kp.t2, kp.t4, kp.t5, kp.t7, hc1, Int.cast_ofNat_Int, decide_true, ev2, seval, ev5]
        | false =>
          have rp1 := hrd ((N1.n 0, (.cells [.int .i64 0, .int .u64 0] 2 : KB)) :: H1) (by repeat (first | exact Fr.refl | refine fr_set ?_ (lk_N g _)))
          have rp2 := hrd ((N1.n 1, (.cells [.int .u64 0, .slice none 0 0, .slice none 0 0, .slice none 0 0, .bool false] 5 : KB)) :: (N1.n 0, (.cells [.int .i64 0, .int .u64 0] 2 : KB)) :: H1) (by repeat (first | exact Fr.refl | refine fr_set ?_ (lk_N g _)))
          obtain ⟨Hp, hHp⟩ : ∃ Hp, Hp = (N1.n 1, (.cells [.int .u64 0, .slice none 0 0, .slice none 0 0, .slice none 0 0, .bool false] 5 : KB)) :: (N1.n 0, (.cells [.int .i64 0, .int .u64 0] 2 : KB)) :: H1 := ⟨_, rfl⟩
          have gp : good B Hp (sh (shg (sh (shg (shg (shg N1)))))) := by rw [hHp]; exact good_new (good_new gg)
          have fp : Fr H1 Hp := by rw [hHp]; repeat (first | exact Fr.refl | refine fr_set ?_ (lk_N g _))
          have l9 : lk Hp (N1.n 0) = some (.cells [.int .i64 0, .int .u64 0] 2) := by rw [hHp]; simp only [lk_cons, hI]; rfl
          have l8 : lk Hp (N1.n 1) = some (.cells [.int .u64 0, .slice none 0 0, .slice none 0 0, .slice none 0 0, .bool false] 5) := by rw [hHp]; simp only [lk_cons, hI]; rfl
          obtain ⟨s', wk, wv, wt, a, b, H', N', eD, g', f', tD, R'⟩ := xDo (cd := cd) (ky := ky) (vl := vl) C R (hs1.mono fp) hky hvl gp
          have f1 := fp.trans f'
          have lc' := f1 _ _ lc
          have lz' := f1 _ _ lz
          have ls' := f1 _ _ ls
          have nc' := ne_N g' lc'
          have nz' := ne_N g' lz'
          have ns' := ne_N g' ls'
          have hB' := good_B g'
          have hR' := good_rdB g'
          have hI' := beqN g'.1.1
          have ha' := (tD H' (fun _ _ _ e => e)).all s'.cl
          have b9 := hB 0
          have r9 := rN b9
          have l9' := f' _ _ l9
          have n9' := ne_N g' l9'
          have m9' := ne_N' g' l9'
          have c9c : (N1.n 0 == c) = false := eqb fun e => by rw [← e, lk_N g] at lc; cases lc
          have c9z : (N1.n 0 == z) = false := eqb fun e => by rw [← e, lk_N g] at lz; cases lz
          have c9s : (N1.n 0 == sb) = false := eqb fun e => by rw [← e, lk_N g] at ls; cases ls
          have d9c : (c == N1.n 0) = false := nc 0
          have d9z : (z == N1.n 0) = false := nz 0
          have d9s : (sb == N1.n 0) = false := ns 0
          have b8 := hB 1
          have r8 := rN b8
          have l8' := f' _ _ l8
          have n8' := ne_N g' l8'
          have m8' := ne_N' g' l8'
          have c8c : (N1.n 1 == c) = false := eqb fun e => by rw [← e, lk_N g] at lc; cases lc
          have c8z : (N1.n 1 == z) = false := eqb fun e => by rw [← e, lk_N g] at lz; cases lz
          have c8s : (N1.n 1 == sb) = false := eqb fun e => by rw [← e, lk_N g] at ls; cases ls
          have d8c : (c == N1.n 1) = false := nc 1
          have d8z : (z == N1.n 1) = false := nz 1
          have d8s : (sb == N1.n 1) = false := ns 1
          have o8 : lk (H') (N1.n 1) = some (.cells [.int .u64 0, .slice none 0 0, .slice none 0 0, .slice none 0 0, .bool false] 5) := by exact l8'
          have gu8 := good_up (k := (.cells [.int .u64 s'.r, wk, wv, wt, .bool s'.cl] 5)) g' b8 o8
          have o9 : lk (upH (H') (N1.n 1) (.cells [.int .u64 s'.r, wk, wv, wt, .bool s'.cl] 5)) (N1.n 0) = some (.cells [.int .i64 0, .int .u64 0] 2) := by rw [lk_upH, hI 0 1]; exact l9'
          have gu9 := good_up (k := (.cells [.int .i64 a, .int .u64 b] 2)) gu8 b9 o9
          have os : lk (upH (upH (H') (N1.n 1) (.cells [.int .u64 s'.r, wk, wv, wt, .bool s'.cl] 5)) (N1.n 0) (.cells [.int .i64 a, .int .u64 b] 2)) sb = some (.cells [.int .u64 s.r, vk, vv, vt, .bool s.cl] 5) := by rw [lk_upH, d9s, cond_false, lk_upH, d8s, cond_false]; exact ls'
          have gus := good_up (k := (.cells [.int .u64 s'.r, wk, wv, wt, .bool s'.cl] 5)) gu9 bs_ os
          obtain ⟨HF, hHF⟩ : ∃ HF, HF = upH (upH (upH (H') (N1.n 1) (.cells [.int .u64 s'.r, wk, wv, wt, .bool s'.cl] 5)) (N1.n 0) (.cells [.int .i64 a, .int .u64 b] 2)) sb (.cells [.int .u64 s'.r, wk, wv, wt, .bool s'.cl] 5) := ⟨_, rfl⟩
          have lcF : lk HF c = some (.cells [.int .i64 (kk : Int), .int .i64 (p : Int), .int .i64 (cc : Int)] 3) := by rw [hHF, lk_upH, hcs, cond_false, lk_upH, d9c, cond_false, lk_upH, d8c, cond_false]; exact lc'
          have lzF : lk HF z = some (.cells [.int .u64 0, .slice none 0 0, .slice none 0 0, .slice none 0 0, .bool false] 5) := by rw [hHF, lk_upH, hzs, cond_false, lk_upH, d9z, cond_false, lk_upH, d8z, cond_false]; exact lz'
          have lsF : lk HF sb = some (.cells [.int .u64 s'.r, wk, wv, wt, .bool s'.cl] 5) := by rw [hHF, lk_upH, beq_self_eq_true, cond_true]
          have nwF : Nw Hp H' HF := fun y c0 h0 h1 => by
            rw [hHF, lk_upH, eqb (fun e => by rw [e, fp _ _ ls] at h0; cases h0), cond_false, lk_upH, eqb (fun e => by rw [e, l9] at h0; cases h0), cond_false, lk_upH, eqb (fun e => by rw [e, l8] at h0; cases h0), cond_false]; exact h1
          have fF : Fr H0 HF := by rw [hHF]; exact (fr_up (k := (.cells [.int .u64 s'.r, wk, wv, wt, .bool s'.cl] 5)) (fr_up (k := (.cells [.int .i64 a, .int .u64 b] 2)) (fr_up (k := (.cells [.int .u64 s'.r, wk, wv, wt, .bool s'.cl] 5)) (fk.trans f1) (hn 1)) (hn 0)) h0s)
          rw [hHp] at eD
          simp (disch := omega) only [J85, hB, hR, hI, kp.l, kp.t1, kp.t2, kp.t4, kp.t5, kp.t7, hll, lc, lz, ls, bc, bz, bs_, rc, rz, rs, nc, nz, ns, hin, hin', h30, i0, r1, wi, eO, ha, Nat.mul_one, eD, h0, h1, h2, h4, rp1, rp2, b9, r9, l9', n9', m9', c9c, c9z, c9s, d9c, d9z, d9s, b8, r8, l8', n8', m8', c8c, c8z, c8s, d8c, d8z, d8s, lc', lz', ls', nc', nz', ns', hB', hR', hI', ha', hcs, hzs, hsc, hsz, all1, ress, res1, retV, Value.cells, newsV_s, seval, eV]
          rw [← hHF]
          refine ok_some (.inl ⟨rfl, 30 - (i + 1), by omega, _, HF, _, i + 1, s', wk, wv, wt, rfl, ⟨?_, ?_, ?_, ?_, ?_, ?_⟩, by rw [hHF]; exact gus, fF, lcF, lzF, lsF, (fun H'' hk => tD H'' (fun y c0 h0 h1 => hk y c0 (fun e => by rw [e, fp _ _ lz] at h0; cases h0) (fun e => by rw [e, fp _ _ ls] at h0; cases h0) (nwF y c0 h0 h1))), R', by omega, rfl⟩)
          all_goals simp (disch := omega) only [kp.l, kp.t1, kp.t2, kp.t4, kp.t5, kp.t7, hc1, Int.cast_ofNat_Int, decide_true, ev2, seval, ev5]
  | false =>
    cases h1 : N1.g 1 with
    | true =>
      cases h3 : N1.g 3 with
      | true =>
        cases h4 : N1.g 4 with
        | true =>
          have rp1 := hrd ((N1.n 0, (.cells [.int .u64 0, .slice none 0 0, .slice none 0 0, .slice none 0 0, .bool false] 5 : KB)) :: H1) (by repeat (first | exact Fr.refl | refine fr_set ?_ (lk_N g _)))
          obtain ⟨Hp, hHp⟩ : ∃ Hp, Hp = (N1.n 0, (.cells [.int .u64 0, .slice none 0 0, .slice none 0 0, .slice none 0 0, .bool false] 5 : KB)) :: H1 := ⟨_, rfl⟩
          have gp : good B Hp (shg (shg (sh (shg (shg N1))))) := by rw [hHp]; exact good_new gg
          have fp : Fr H1 Hp := by rw [hHp]; repeat (first | exact Fr.refl | refine fr_set ?_ (lk_N g _))
          have l8 : lk Hp (N1.n 0) = some (.cells [.int .u64 0, .slice none 0 0, .slice none 0 0, .slice none 0 0, .bool false] 5) := by rw [hHp]; simp only [lk_cons, hI]; rfl
          obtain ⟨s', wk, wv, wt, a, b, H', N', eD, g', f', tD, R'⟩ := xDo (cd := cd) (ky := ky) (vl := vl) C R (hs1.mono fp) hky hvl gp
          have f1 := fp.trans f'
          have lc' := f1 _ _ lc
          have lz' := f1 _ _ lz
          have ls' := f1 _ _ ls
          have nc' := ne_N g' lc'
          have nz' := ne_N g' lz'
          have ns' := ne_N g' ls'
          have hB' := good_B g'
          have hR' := good_rdB g'
          have hI' := beqN g'.1.1
          have ha' := (tD H' (fun _ _ _ e => e)).all s'.cl
          have b8 := hB 0
          have r8 := rN b8
          have l8' := f' _ _ l8
          have n8' := ne_N g' l8'
          have m8' := ne_N' g' l8'
          have c8c : (N1.n 0 == c) = false := eqb fun e => by rw [← e, lk_N g] at lc; cases lc
          have c8z : (N1.n 0 == z) = false := eqb fun e => by rw [← e, lk_N g] at lz; cases lz
          have c8s : (N1.n 0 == sb) = false := eqb fun e => by rw [← e, lk_N g] at ls; cases ls
          have d8c : (c == N1.n 0) = false := nc 0
          have d8z : (z == N1.n 0) = false := nz 0
          have d8s : (sb == N1.n 0) = false := ns 0
          have o8 : lk (H') (N1.n 0) = some (.cells [.int .u64 0, .slice none 0 0, .slice none 0 0, .slice none 0 0, .bool false] 5) := by exact l8'
          have gu8 := good_up (k := (.cells [.int .u64 s'.r, wk, wv, wt, .bool s'.cl] 5)) g' b8 o8
          have os : lk (upH (H') (N1.n 0) (.cells [.int .u64 s'.r, wk, wv, wt, .bool s'.cl] 5)) sb = some (.cells [.int .u64 s.r, vk, vv, vt, .bool s.cl] 5) := by rw [lk_upH, d8s, cond_false]; exact ls'
          have gus := good_up (k := (.cells [.int .u64 s'.r, wk, wv, wt, .bool s'.cl] 5)) gu8 bs_ os
          obtain ⟨HF, hHF⟩ : ∃ HF, HF = (N'.n 0, (.cells [.int .i64 a, .int .u64 b] 2)) :: upH (upH (H') (N1.n 0) (.cells [.int .u64 s'.r, wk, wv, wt, .bool s'.cl] 5)) sb (.cells [.int .u64 s'.r, wk, wv, wt, .bool s'.cl] 5) := ⟨_, rfl⟩
          have lcF : lk HF c = some (.cells [.int .i64 (kk : Int), .int .i64 (p : Int), .int .i64 (cc : Int)] 3) := by rw [hHF, lk_cons, nc' 0, cond_false, lk_upH, hcs, cond_false, lk_upH, d8c, cond_false]; exact lc'
          have lzF : lk HF z = some (.cells [.int .u64 0, .slice none 0 0, .slice none 0 0, .slice none 0 0, .bool false] 5) := by rw [hHF, lk_cons, nz' 0, cond_false, lk_upH, hzs, cond_false, lk_upH, d8z, cond_false]; exact lz'
          have lsF : lk HF sb = some (.cells [.int .u64 s'.r, wk, wv, wt, .bool s'.cl] 5) := by rw [hHF, lk_cons, ns' 0, cond_false, lk_upH, beq_self_eq_true, cond_true]
          have nwF : Nw Hp H' HF := fun y c0 h0 h1 => by
            rw [hHF, lk_cons, ne_N g' h1 0, cond_false, lk_upH, eqb (fun e => by rw [e, fp _ _ ls] at h0; cases h0), cond_false, lk_upH, eqb (fun e => by rw [e, l8] at h0; cases h0), cond_false]; exact h1
          have fF : Fr H0 HF := by rw [hHF]; exact fr_set ((fr_up (k := (.cells [.int .u64 s'.r, wk, wv, wt, .bool s'.cl] 5)) (fr_up (k := (.cells [.int .u64 s'.r, wk, wv, wt, .bool s'.cl] 5)) (fk.trans f1) (hn 0)) h0s)) (fk.dm _ (f1.dm _ (lk_N g' 0)))
          rw [hHp] at eD
          simp (disch := omega) only [J85, hB, hR, hI, kp.l, kp.t1, kp.t2, kp.t4, kp.t5, kp.t7, hll, lc, lz, ls, bc, bz, bs_, rc, rz, rs, nc, nz, ns, hin, hin', h30, i0, r1, wi, eO, ha, Nat.mul_one, eD, h0, h1, h3, h4, rp1, b8, r8, l8', n8', m8', c8c, c8z, c8s, d8c, d8z, d8s, lc', lz', ls', nc', nz', ns', hB', hR', hI', ha', hcs, hzs, hsc, hsz, all1, ress, res1, retV, Value.cells, newsV_s, seval, eV]
          rw [← hHF]
          refine ok_some (.inl ⟨rfl, 30 - (i + 1), by omega, _, HF, _, i + 1, s', wk, wv, wt, rfl, ⟨?_, ?_, ?_, ?_, ?_, ?_⟩, by rw [hHF]; exact (good_new gus), fF, lcF, lzF, lsF, (fun H'' hk => tD H'' (fun y c0 h0 h1 => hk y c0 (fun e => by rw [e, fp _ _ lz] at h0; cases h0) (fun e => by rw [e, fp _ _ ls] at h0; cases h0) (nwF y c0 h0 h1))), R', by omega, rfl⟩)
          all_goals simp (disch := omega) only [kp.l, kp.t1, kp.t2, kp.t4, kp.t5, kp.t7, hc1, Int.cast_ofNat_Int, decide_true, ev2, seval, ev5]
        | false =>
          have rp1 := hrd ((N1.n 0, (.cells [.int .u64 0, .slice none 0 0, .slice none 0 0, .slice none 0 0, .bool false] 5 : KB)) :: H1) (by repeat (first | exact Fr.refl | refine fr_set ?_ (lk_N g _)))
          have rp2 := hrd ((N1.n 1, (.cells [.int .i64 0, .int .u64 0] 2 : KB)) :: (N1.n 0, (.cells [.int .u64 0, .slice none 0 0, .slice none 0 0, .slice none 0 0, .bool false] 5 : KB)) :: H1) (by repeat (first | exact Fr.refl | refine fr_set ?_ (lk_N g _)))
          obtain ⟨Hp, hHp⟩ : ∃ Hp, Hp = (N1.n 1, (.cells [.int .i64 0, .int .u64 0] 2 : KB)) :: (N1.n 0, (.cells [.int .u64 0, .slice none 0 0, .slice none 0 0, .slice none 0 0, .bool false] 5 : KB)) :: H1 := ⟨_, rfl⟩
          have gp : good B Hp (sh (shg (shg (sh (shg (shg N1)))))) := by rw [hHp]; exact good_new (good_new gg)
          have fp : Fr H1 Hp := by rw [hHp]; repeat (first | exact Fr.refl | refine fr_set ?_ (lk_N g _))
          have l8 : lk Hp (N1.n 0) = some (.cells [.int .u64 0, .slice none 0 0, .slice none 0 0, .slice none 0 0, .bool false] 5) := by rw [hHp]; simp only [lk_cons, hI]; rfl
          have l9 : lk Hp (N1.n 1) = some (.cells [.int .i64 0, .int .u64 0] 2) := by rw [hHp]; simp only [lk_cons, hI]; rfl
          obtain ⟨s', wk, wv, wt, a, b, H', N', eD, g', f', tD, R'⟩ := xDo (cd := cd) (ky := ky) (vl := vl) C R (hs1.mono fp) hky hvl gp
          have f1 := fp.trans f'
          have lc' := f1 _ _ lc
          have lz' := f1 _ _ lz
          have ls' := f1 _ _ ls
          have nc' := ne_N g' lc'
          have nz' := ne_N g' lz'
          have ns' := ne_N g' ls'
          have hB' := good_B g'
          have hR' := good_rdB g'
          have hI' := beqN g'.1.1
          have ha' := (tD H' (fun _ _ _ e => e)).all s'.cl
          have b8 := hB 0
          have r8 := rN b8
          have l8' := f' _ _ l8
          have n8' := ne_N g' l8'
          have m8' := ne_N' g' l8'
          have c8c : (N1.n 0 == c) = false := eqb fun e => by rw [← e, lk_N g] at lc; cases lc
          have c8z : (N1.n 0 == z) = false := eqb fun e => by rw [← e, lk_N g] at lz; cases lz
          have c8s : (N1.n 0 == sb) = false := eqb fun e => by rw [← e, lk_N g] at ls; cases ls
          have d8c : (c == N1.n 0) = false := nc 0
          have d8z : (z == N1.n 0) = false := nz 0
          have d8s : (sb == N1.n 0) = false := ns 0
          have b9 := hB 1
          have r9 := rN b9
          have l9' := f' _ _ l9
          have n9' := ne_N g' l9'
          have m9' := ne_N' g' l9'
          have c9c : (N1.n 1 == c) = false := eqb fun e => by rw [← e, lk_N g] at lc; cases lc
          have c9z : (N1.n 1 == z) = false := eqb fun e => by rw [← e, lk_N g] at lz; cases lz
          have c9s : (N1.n 1 == sb) = false := eqb fun e => by rw [← e, lk_N g] at ls; cases ls
          have d9c : (c == N1.n 1) = false := nc 1
          have d9z : (z == N1.n 1) = false := nz 1
          have d9s : (sb == N1.n 1) = false := ns 1
          have o8 : lk (H') (N1.n 0) = some (.cells [.int .u64 0, .slice none 0 0, .slice none 0 0, .slice none 0 0, .bool false] 5) := by exact l8'
          have gu8 := good_up (k := (.cells [.int .u64 s'.r, wk, wv, wt, .bool s'.cl] 5)) g' b8 o8
          have o9 : lk (upH (H') (N1.n 0) (.cells [.int .u64 s'.r, wk, wv, wt, .bool s'.cl] 5)) (N1.n 1) = some (.cells [.int .i64 0, .int .u64 0] 2) := by rw [lk_upH, hI 1 0]; exact l9'
          have gu9 := good_up (k := (.cells [.int .i64 a, .int .u64 b] 2)) gu8 b9 o9
          have os : lk (upH (upH (H') (N1.n 0) (.cells [.int .u64 s'.r, wk, wv, wt, .bool s'.cl] 5)) (N1.n 1) (.cells [.int .i64 a, .int .u64 b] 2)) sb = some (.cells [.int .u64 s.r, vk, vv, vt, .bool s.cl] 5) := by rw [lk_upH, d9s, cond_false, lk_upH, d8s, cond_false]; exact ls'
          have gus := good_up (k := (.cells [.int .u64 s'.r, wk, wv, wt, .bool s'.cl] 5)) gu9 bs_ os
          obtain ⟨HF, hHF⟩ : ∃ HF, HF = upH (upH (upH (H') (N1.n 0) (.cells [.int .u64 s'.r, wk, wv, wt, .bool s'.cl] 5)) (N1.n 1) (.cells [.int .i64 a, .int .u64 b] 2)) sb (.cells [.int .u64 s'.r, wk, wv, wt, .bool s'.cl] 5) := ⟨_, rfl⟩
          have lcF : lk HF c = some (.cells [.int .i64 (kk : Int), .int .i64 (p : Int), .int .i64 (cc : Int)] 3) := by rw [hHF, lk_upH, hcs, cond_false, lk_upH, d9c, cond_false, lk_upH, d8c, cond_false]; exact lc'
          have lzF : lk HF z = some (.cells [.int .u64 0, .slice none 0 0, .slice none 0 0, .slice none 0 0, .bool false] 5) := by rw [hHF, lk_upH, hzs, cond_false, lk_upH, d9z, cond_false, lk_upH, d8z, cond_false]; exact lz'
          have lsF : lk HF sb = some (.cells [.int .u64 s'.r, wk, wv, wt, .bool s'.cl] 5) := by rw [hHF, lk_upH, beq_self_eq_true, cond_true]
          have nwF : Nw Hp H' HF := fun y c0 h0 h1 => by
            rw [hHF, lk_upH, eqb (fun e => by rw [e, fp _ _ ls] at h0; cases h0), cond_false, lk_upH, eqb (fun e => by rw [e, l9] at h0; cases h0), cond_false, lk_upH, eqb (fun e => by rw [e, l8] at h0; cases h0), cond_false]; exact h1
          have fF : Fr H0 HF := by rw [hHF]; exact (fr_up (k := (.cells [.int .u64 s'.r, wk, wv, wt, .bool s'.cl] 5)) (fr_up (k := (.cells [.int .i64 a, .int .u64 b] 2)) (fr_up (k := (.cells [.int .u64 s'.r, wk, wv, wt, .bool s'.cl] 5)) (fk.trans f1) (hn 0)) (hn 1)) h0s)
          rw [hHp] at eD
          simp (disch := omega) only [J85, hB, hR, hI, kp.l, kp.t1, kp.t2, kp.t4, kp.t5, kp.t7, hll, lc, lz, ls, bc, bz, bs_, rc, rz, rs, nc, nz, ns, hin, hin', h30, i0, r1, wi, eO, ha, Nat.mul_one, eD, h0, h1, h3, h4, rp1, rp2, b8, r8, l8', n8', m8', c8c, c8z, c8s, d8c, d8z, d8s, b9, r9, l9', n9', m9', c9c, c9z, c9s, d9c, d9z, d9s, lc', lz', ls', nc', nz', ns', hB', hR', hI', ha', hcs, hzs, hsc, hsz, all1, ress, res1, retV, Value.cells, newsV_s, seval, eV]
          rw [← hHF]
          refine ok_some (.inl ⟨rfl, 30 - (i + 1), by omega, _, HF, _, i + 1, s', wk, wv, wt, rfl, ⟨?_, ?_, ?_, ?_, ?_, ?_⟩, by rw [hHF]; exact gus, fF, lcF, lzF, lsF, (fun H'' hk => tD H'' (fun y c0 h0 h1 => hk y c0 (fun e => by rw [e, fp _ _ lz] at h0; cases h0) (fun e => by rw [e, fp _ _ ls] at h0; cases h0) (nwF y c0 h0 h1))), R', by omega, rfl⟩)
          all_goals simp (disch := omega) only [kp.l, kp.t1, kp.t2, kp.t4, kp.t5, kp.t7, hc1, Int.cast_ofNat_Int, decide_true, ev2, seval, ev5]
      | false =>
        have rp1 := hrd ((N1.n 0, (.cells [.int .u64 0, .slice none 0 0, .slice none 0 0, .slice none 0 0, .bool false] 5 : KB)) :: H1) (by repeat (first | exact Fr.refl | refine fr_set ?_ (lk_N g _)))
        have rp2 := hrd ((N1.n 1, (.cells [.int .i64 0, .int .u64 0] 2 : KB)) :: (N1.n 0, (.cells [.int .u64 0, .slice none 0 0, .slice none 0 0, .slice none 0 0, .bool false] 5 : KB)) :: H1) (by repeat (first | exact Fr.refl | refine fr_set ?_ (lk_N g _)))
        obtain ⟨Hp, hHp⟩ : ∃ Hp, Hp = (N1.n 1, (.cells [.int .i64 0, .int .u64 0] 2 : KB)) :: (N1.n 0, (.cells [.int .u64 0, .slice none 0 0, .slice none 0 0, .slice none 0 0, .bool false] 5 : KB)) :: H1 := ⟨_, rfl⟩
        have gp : good B Hp (sh (shg (sh (shg (shg N1))))) := by rw [hHp]; exact good_new (good_new gg)
        have fp : Fr H1 Hp := by rw [hHp]; repeat (first | exact Fr.refl | refine fr_set ?_ (lk_N g _))
        have l8 : lk Hp (N1.n 0) = some (.cells [.int .u64 0, .slice none 0 0, .slice none 0 0, .slice none 0 0, .bool false] 5) := by rw [hHp]; simp only [lk_cons, hI]; rfl
        have l9 : lk Hp (N1.n 1) = some (.cells [.int .i64 0, .int .u64 0] 2) := by rw [hHp]; simp only [lk_cons, hI]; rfl
        obtain ⟨s', wk, wv, wt, a, b, H', N', eD, g', f', tD, R'⟩ := xDo (cd := cd) (ky := ky) (vl := vl) C R (hs1.mono fp) hky hvl gp
        have f1 := fp.trans f'
        have lc' := f1 _ _ lc
        have lz' := f1 _ _ lz
        have ls' := f1 _ _ ls
        have nc' := ne_N g' lc'
        have nz' := ne_N g' lz'
        have ns' := ne_N g' ls'
        have hB' := good_B g'
        have hR' := good_rdB g'
        have hI' := beqN g'.1.1
        have ha' := (tD H' (fun _ _ _ e => e)).all s'.cl
        have b8 := hB 0
        have r8 := rN b8
        have l8' := f' _ _ l8
        have n8' := ne_N g' l8'
        have m8' := ne_N' g' l8'
        have c8c : (N1.n 0 == c) = false := eqb fun e => by rw [← e, lk_N g] at lc; cases lc
        have c8z : (N1.n 0 == z) = false := eqb fun e => by rw [← e, lk_N g] at lz; cases lz
        have c8s : (N1.n 0 == sb) = false := eqb fun e => by rw [← e, lk_N g] at ls; cases ls
        have d8c : (c == N1.n 0) = false := nc 0
        have d8z : (z == N1.n 0) = false := nz 0
        have d8s : (sb == N1.n 0) = false := ns 0
        have b9 := hB 1
        have r9 := rN b9
        have l9' := f' _ _ l9
        have n9' := ne_N g' l9'
        have m9' := ne_N' g' l9'
        have c9c : (N1.n 1 == c) = false := eqb fun e => by rw [← e, lk_N g] at lc; cases lc
        have c9z : (N1.n 1 == z) = false := eqb fun e => by rw [← e, lk_N g] at lz; cases lz
        have c9s : (N1.n 1 == sb) = false := eqb fun e => by rw [← e, lk_N g] at ls; cases ls
        have d9c : (c == N1.n 1) = false := nc 1
        have d9z : (z == N1.n 1) = false := nz 1
        have d9s : (sb == N1.n 1) = false := ns 1
        have o8 : lk (H') (N1.n 0) = some (.cells [.int .u64 0, .slice none 0 0, .slice none 0 0, .slice none 0 0, .bool false] 5) := by exact l8'
        have gu8 := good_up (k := (.cells [.int .u64 s'.r, wk, wv, wt, .bool s'.cl] 5)) g' b8 o8
        have o9 : lk (upH (H') (N1.n 0) (.cells [.int .u64 s'.r, wk, wv, wt, .bool s'.cl] 5)) (N1.n 1) = some (.cells [.int .i64 0, .int .u64 0] 2) := by rw [lk_upH, hI 1 0]; exact l9'
        have gu9 := good_up (k := (.cells [.int .i64 a, .int .u64 b] 2)) gu8 b9 o9
        have os : lk (upH (upH (H') (N1.n 0) (.cells [.int .u64 s'.r, wk, wv, wt, .bool s'.cl] 5)) (N1.n 1) (.cells [.int .i64 a, .int .u64 b] 2)) sb = some (.cells [.int .u64 s.r, vk, vv, vt, .bool s.cl] 5) := by rw [lk_upH, d9s, cond_false, lk_upH, d8s, cond_false]; exact ls'
        have gus := good_up (k := (.cells [.int .u64 s'.r, wk, wv, wt, .bool s'.cl] 5)) gu9 bs_ os
        obtain ⟨HF, hHF⟩ : ∃ HF, HF = upH (upH (upH (H') (N1.n 0) (.cells [.int .u64 s'.r, wk, wv, wt, .bool s'.cl] 5)) (N1.n 1) (.cells [.int .i64 a, .int .u64 b] 2)) sb (.cells [.int .u64 s'.r, wk, wv, wt, .bool s'.cl] 5) := ⟨_, rfl⟩
        have lcF : lk HF c = some (.cells [.int .i64 (kk : Int), .int .i64 (p : Int), .int .i64 (cc : Int)] 3) := by rw [hHF, lk_upH, hcs, cond_false, lk_upH, d9c, cond_false, lk_upH, d8c, cond_false]; exact lc'
        have lzF : lk HF z = some (.cells [.int .u64 0, .slice none 0 0, .slice none 0 0, .slice none 0 0, .bool false] 5) := by rw [hHF, lk_upH, hzs, cond_false, lk_upH, d9z, cond_false, lk_upH, d8z, cond_false]; exact lz'
        have lsF : lk HF sb = some (.cells [.int .u64 s'.r, wk, wv, wt, .bool s'.cl] 5) := by rw [hHF, lk_upH, beq_self_eq_true, cond_true]
        have nwF : Nw Hp H' HF := fun y c0 h0 h1 => by
          rw [hHF, lk_upH, eqb (fun e => by rw [e, fp _ _ ls] at h0; cases h0), cond_false, lk_upH, eqb (fun e => by rw [e, l9] at h0; cases h0), cond_false, lk_upH, eqb (fun e => by rw [e, l8] at h0; cases h0), cond_false]; exact h1
        have fF : Fr H0 HF := by rw [hHF]; exact (fr_up (k := (.cells [.int .u64 s'.r, wk, wv, wt, .bool s'.cl] 5)) (fr_up (k := (.cells [.int .i64 a, .int .u64 b] 2)) (fr_up (k := (.cells [.int .u64 s'.r, wk, wv, wt, .bool s'.cl] 5)) (fk.trans f1) (hn 0)) (hn 1)) h0s)
        rw [hHp] at eD
        simp (disch := omega) only [J85, hB, hR, hI, kp.l, kp.t1, kp.t2, kp.t4, kp.t5, kp.t7, hll, lc, lz, ls, bc, bz, bs_, rc, rz, rs, nc, nz, ns, hin, hin', h30, i0, r1, wi, eO, ha, Nat.mul_one, eD, h0, h1, h3, rp1, rp2, b8, r8, l8', n8', m8', c8c, c8z, c8s, d8c, d8z, d8s, b9, r9, l9', n9', m9', c9c, c9z, c9s, d9c, d9z, d9s, lc', lz', ls', nc', nz', ns', hB', hR', hI', ha', hcs, hzs, hsc, hsz, all1, ress, res1, retV, Value.cells, newsV_s, seval, eV]
        rw [← hHF]
        refine ok_some (.inl ⟨rfl, 30 - (i + 1), by omega, _, HF, _, i + 1, s', wk, wv, wt, rfl, ⟨?_, ?_, ?_, ?_, ?_, ?_⟩, by rw [hHF]; exact gus, fF, lcF, lzF, lsF, (fun H'' hk => tD H'' (fun y c0 h0 h1 => hk y c0 (fun e => by rw [e, fp _ _ lz] at h0; cases h0) (fun e => by rw [e, fp _ _ ls] at h0; cases h0) (nwF y c0 h0 h1))), R', by omega, rfl⟩)
        all_goals simp (disch := omega) only [kp.l, kp.t1, kp.t2, kp.t4, kp.t5, kp.t7, hc1, Int.cast_ofNat_Int, decide_true, ev2, seval, ev5]
    | false =>
      cases h3 : N1.g 3 with
      | true =>
        cases h4 : N1.g 4 with
        | true =>
          have rp1 := hrd ((N1.n 0, (.cells [.int .i64 0, .int .u64 0] 2 : KB)) :: H1) (by repeat (first | exact Fr.refl | refine fr_set ?_ (lk_N g _)))
          obtain ⟨Hp, hHp⟩ : ∃ Hp, Hp = (N1.n 0, (.cells [.int .i64 0, .int .u64 0] 2 : KB)) :: H1 := ⟨_, rfl⟩
          have gp : good B Hp (shg (shg (sh (shg (shg N1))))) := by rw [hHp]; exact good_new gg
          have fp : Fr H1 Hp := by rw [hHp]; repeat (first | exact Fr.refl | refine fr_set ?_ (lk_N g _))
          have l9 : lk Hp (N1.n 0) = some (.cells [.int .i64 0, .int .u64 0] 2) := by rw [hHp]; simp only [lk_cons, hI]; rfl
          obtain ⟨s', wk, wv, wt, a, b, H', N', eD, g', f', tD, R'⟩ := xDo (cd := cd) (ky := ky) (vl := vl) C R (hs1.mono fp) hky hvl gp
          have f1 := fp.trans f'
          have lc' := f1 _ _ lc
          have lz' := f1 _ _ lz
          have ls' := f1 _ _ ls
          have nc' := ne_N g' lc'
          have nz' := ne_N g' lz'
          have ns' := ne_N g' ls'
          have hB' := good_B g'
          have hR' := good_rdB g'
          have hI' := beqN g'.1.1
          have ha' := (tD H' (fun _ _ _ e => e)).all s'.cl
          have b9 := hB 0
          have r9 := rN b9
          have l9' := f' _ _ l9
          have n9' := ne_N g' l9'
          have m9' := ne_N' g' l9'
          have c9c : (N1.n 0 == c) = false := eqb fun e => by rw [← e, lk_N g] at lc; cases lc
          have c9z : (N1.n 0 == z) = false := eqb fun e => by rw [← e, lk_N g] at lz; cases lz
          have c9s : (N1.n 0 == sb) = false := eqb fun e => by rw [← e, lk_N g] at ls; cases ls
          have d9c : (c == N1.n 0) = false := nc 0
          have d9z : (z == N1.n 0) = false := nz 0
          have d9s : (sb == N1.n 0) = false := ns 0
          have o9 : lk (H') (N1.n 0) = some (.cells [.int .i64 0, .int .u64 0] 2) := by exact l9'
          have gu9 := good_up (k := (.cells [.int .i64 a, .int .u64 b] 2)) g' b9 o9
          have os : lk (upH (H') (N1.n 0) (.cells [.int .i64 a, .int .u64 b] 2)) sb = some (.cells [.int .u64 s.r, vk, vv, vt, .bool s.cl] 5) := by rw [lk_upH, d9s, cond_false]; exact ls'
          have gus := good_up (k := (.cells [.int .u64 s'.r, wk, wv, wt, .bool s'.cl] 5)) gu9 bs_ os
          obtain ⟨HF, hHF⟩ : ∃ HF, HF = (N'.n 0, (.cells [.int .u64 s'.r, wk, wv, wt, .bool s'.cl] 5)) :: upH (upH (H') (N1.n 0) (.cells [.int .i64 a, .int .u64 b] 2)) sb (.cells [.int .u64 s'.r, wk, wv, wt, .bool s'.cl] 5) := ⟨_, rfl⟩
          have lcF : lk HF c = some (.cells [.int .i64 (kk : Int), .int .i64 (p : Int), .int .i64 (cc : Int)] 3) := by rw [hHF, lk_cons, nc' 0, cond_false, lk_upH, hcs, cond_false, lk_upH, d9c, cond_false]; exact lc'
          have lzF : lk HF z = some (.cells [.int .u64 0, .slice none 0 0, .slice none 0 0, .slice none 0 0, .bool false] 5) := by rw [hHF, lk_cons, nz' 0, cond_false, lk_upH, hzs, cond_false, lk_upH, d9z, cond_false]; exact lz'
          have lsF : lk HF sb = some (.cells [.int .u64 s'.r, wk, wv, wt, .bool s'.cl] 5) := by rw [hHF, lk_cons, ns' 0, cond_false, lk_upH, beq_self_eq_true, cond_true]
          have nwF : Nw Hp H' HF := fun y c0 h0 h1 => by
            rw [hHF, lk_cons, ne_N g' h1 0, cond_false, lk_upH, eqb (fun e => by rw [e, fp _ _ ls] at h0; cases h0), cond_false, lk_upH, eqb (fun e => by rw [e, l9] at h0; cases h0), cond_false]; exact h1
          have fF : Fr H0 HF := by rw [hHF]; exact fr_set ((fr_up (k := (.cells [.int .u64 s'.r, wk, wv, wt, .bool s'.cl] 5)) (fr_up (k := (.cells [.int .i64 a, .int .u64 b] 2)) (fk.trans f1) (hn 0)) h0s)) (fk.dm _ (f1.dm _ (lk_N g' 0)))
          rw [hHp] at eD
          simp (disch := omega) only [J85, hB, hR, hI, kp.l, kp.t1, kp.t2, kp.t4, kp.t5, kp.t7, hll, lc, lz, ls, bc, bz, bs_, rc, rz, rs, nc, nz, ns, hin, hin', h30, i0, r1, wi, eO, ha, Nat.mul_one, eD, h0, h1, h3, h4, rp1, b9, r9, l9', n9', m9', c9c, c9z, c9s, d9c, d9z, d9s, lc', lz', ls', nc', nz', ns', hB', hR', hI', ha', hcs, hzs, hsc, hsz, all1, ress, res1, retV, Value.cells, newsV_s, seval, eV]
          rw [← hHF]
          refine ok_some (.inl ⟨rfl, 30 - (i + 1), by omega, _, HF, _, i + 1, s', wk, wv, wt, rfl, ⟨?_, ?_, ?_, ?_, ?_, ?_⟩, by rw [hHF]; exact (good_new gus), fF, lcF, lzF, lsF, (fun H'' hk => tD H'' (fun y c0 h0 h1 => hk y c0 (fun e => by rw [e, fp _ _ lz] at h0; cases h0) (fun e => by rw [e, fp _ _ ls] at h0; cases h0) (nwF y c0 h0 h1))), R', by omega, rfl⟩)
          all_goals simp (disch := omega) only [kp.l, kp.t1, kp.t2, kp.t4, kp.t5, kp.t7, hc1, Int.cast_ofNat_Int, decide_true, ev2, seval, ev5]
        | false =>
          have rp1 := hrd ((N1.n 0, (.cells [.int .i64 0, .int .u64 0] 2 : KB)) :: H1) (by repeat (first | exact Fr.refl | refine fr_set ?_ (lk_N g _)))
          have rp2 := hrd ((N1.n 1, (.cells [.int .u64 0, .slice none 0 0, .slice none 0 0, .slice none 0 0, .bool false] 5 : KB)) :: (N1.n 0, (.cells [.int .i64 0, .int .u64 0] 2 : KB)) :: H1) (by repeat (first | exact Fr.refl | refine fr_set ?_ (lk_N g _)))
          obtain ⟨Hp, hHp⟩ : ∃ Hp, Hp = (N1.n 1, (.cells [.int .u64 0, .slice none 0 0, .slice none 0 0, .slice none 0 0, .bool false] 5 : KB)) :: (N1.n 0, (.cells [.int .i64 0, .int .u64 0] 2 : KB)) :: H1 := ⟨_, rfl⟩
          have gp : good B Hp (sh (shg (shg (sh (shg (shg N1)))))) := by rw [hHp]; exact good_new (good_new gg)
          have fp : Fr H1 Hp := by rw [hHp]; repeat (first | exact Fr.refl | refine fr_set ?_ (lk_N g _))
          have l9 : lk Hp (N1.n 0) = some (.cells [.int .i64 0, .int .u64 0] 2) := by rw [hHp]; simp only [lk_cons, hI]; rfl
          have l8 : lk Hp (N1.n 1) = some (.cells [.int .u64 0, .slice none 0 0, .slice none 0 0, .slice none 0 0, .bool false] 5) := by rw [hHp]; simp only [lk_cons, hI]; rfl
          obtain ⟨s', wk, wv, wt, a, b, H', N', eD, g', f', tD, R'⟩ := xDo (cd := cd) (ky := ky) (vl := vl) C R (hs1.mono fp) hky hvl gp
          have f1 := fp.trans f'
          have lc' := f1 _ _ lc
          have lz' := f1 _ _ lz
          have ls' := f1 _ _ ls
          have nc' := ne_N g' lc'
          have nz' := ne_N g' lz'
          have ns' := ne_N g' ls'
          have hB' := good_B g'
          have hR' := good_rdB g'
          have hI' := beqN g'.1.1
          have ha' := (tD H' (fun _ _ _ e => e)).all s'.cl
          have b9 := hB 0
          have r9 := rN b9
          have l9' := f' _ _ l9
          have n9' := ne_N g' l9'
          have m9' := ne_N' g' l9'
          have c9c : (N1.n 0 == c) = false := eqb fun e => by rw [← e, lk_N g] at lc; cases lc
          have c9z : (N1.n 0 == z) = false := eqb fun e => by rw [← e, lk_N g] at lz; cases lz
          have c9s : (N1.n 0 == sb) = false := eqb fun e => by rw [← e, lk_N g] at ls; cases ls
          have d9c : (c == N1.n 0) = false := nc 0
          have d9z : (z == N1.n 0) = false := nz 0
          have d9s : (sb == N1.n 0) = false := ns 0
          have b8 := hB 1
          have r8 := rN b8
          have l8' := f' _ _ l8
          have n8' := ne_N g' l8'
          have m8' := ne_N' g' l8'
          have c8c : (N1.n 1 == c) = false := eqb fun e => by rw [← e, lk_N g] at lc; cases lc
          have c8z : (N1.n 1 == z) = false := eqb fun e => by rw [← e, lk_N g] at lz; cases lz
          have c8s : (N1.n 1 == sb) = false := eqb fun e => by rw [← e, lk_N g] at ls; cases ls
          have d8c : (c == N1.n 1) = false := nc 1
          have d8z : (z == N1.n 1) = false := nz 1
          have d8s : (sb == N1.n 1) = false := ns 1
          have o8 : lk (H') (N1.n 1) = some (.cells [.int .u64 0, .slice none 0 0, .slice none 0 0, .slice none 0 0, .bool false] 5) := by exact l8'
          have gu8 := good_up (k := (.cells [.int .u64 s'.r, wk, wv, wt, .bool s'.cl] 5)) g' b8 o8
          have o9 : lk (upH (H') (N1.n 1) (.cells [.int .u64 s'.r, wk, wv, wt, .bool s'.cl] 5)) (N1.n 0) = some (.cells [.int .i64 0, .int .u64 0] 2) := by rw [lk_upH, hI 0 1]; exact l9'
          have gu9 := good_up (k := (.cells [.int .i64 a, .int .u64 b] 2)) gu8 b9 o9
          have os : lk (upH (upH (H') (N1.n 1) (.cells [.int .u64 s'.r, wk, wv, wt, .bool s'.cl] 5)) (N1.n 0) (.cells [.int .i64 a, .int .u64 b] 2)) sb = some (.cells [.int .u64 s.r, vk, vv, vt, .bool s.cl] 5) := by rw [lk_upH, d9s, cond_false, lk_upH, d8s, cond_false]; exact ls'
          have gus := good_up (k := (.cells [.int .u64 s'.r, wk, wv, wt, .bool s'.cl] 5)) gu9 bs_ os
          obtain ⟨HF, hHF⟩ : ∃ HF, HF = upH (upH (upH (H') (N1.n 1) (.cells [.int .u64 s'.r, wk, wv, wt, .bool s'.cl] 5)) (N1.n 0) (.cells [.int .i64 a, .int .u64 b] 2)) sb (.cells [.int .u64 s'.r, wk, wv, wt, .bool s'.cl] 5) := ⟨_, rfl⟩
          have lcF : lk HF c = some (.cells [.int .i64 (kk : Int), .int .i64 (p : Int), .int .i64 (cc : Int)] 3) := by rw [hHF, lk_upH, hcs, cond_false, lk_upH, d9c, cond_false, lk_upH, d8c, cond_false]; exact lc'
          have lzF : lk HF z = some (.cells [.int .u64 0, .slice none 0 0, .slice none 0 0, .slice none 0 0, .bool false] 5) := by rw [hHF, lk_upH, hzs, cond_false, lk_upH, d9z, cond_false, lk_upH, d8z, cond_false]; exact lz'
          have lsF : lk HF sb = some (.cells [.int .u64 s'.r, wk, wv, wt, .bool s'.cl] 5) := by rw [hHF, lk_upH, beq_self_eq_true, cond_true]
          have nwF : Nw Hp H' HF := fun y c0 h0 h1 => by
            rw [hHF, lk_upH, eqb (fun e => by rw [e, fp _ _ ls] at h0; cases h0), cond_false, lk_upH, eqb (fun e => by rw [e, l9] at h0; cases h0), cond_false, lk_upH, eqb (fun e => by rw [e, l8] at h0; cases h0), cond_false]; exact h1
          have fF : Fr H0 HF := by rw [hHF]; exact (fr_up (k := (.cells [.int .u64 s'.r, wk, wv, wt, .bool s'.cl] 5)) (fr_up (k := (.cells [.int .i64 a, .int .u64 b] 2)) (fr_up (k := (.cells [.int .u64 s'.r, wk, wv, wt, .bool s'.cl] 5)) (fk.trans f1) (hn 1)) (hn 0)) h0s)
          rw [hHp] at eD
          simp (disch := omega) only [J85, hB, hR, hI, kp.l, kp.t1, kp.t2, kp.t4, kp.t5, kp.t7, hll, lc, lz, ls, bc, bz, bs_, rc, rz, rs, nc, nz, ns, hin, hin', h30, i0, r1, wi, eO, ha, Nat.mul_one, eD, h0, h1, h3, h4, rp1, rp2, b9, r9, l9', n9', m9', c9c, c9z, c9s, d9c, d9z, d9s, b8, r8, l8', n8', m8', c8c, c8z, c8s, d8c, d8z, d8s, lc', lz', ls', nc', nz', ns', hB', hR', hI', ha', hcs, hzs, hsc, hsz, all1, ress, res1, retV, Value.cells, newsV_s, seval, eV]
          rw [← hHF]
          refine ok_some (.inl ⟨rfl, 30 - (i + 1), by omega, _, HF, _, i + 1, s', wk, wv, wt, rfl, ⟨?_, ?_, ?_, ?_, ?_, ?_⟩, by rw [hHF]; exact gus, fF, lcF, lzF, lsF, (fun H'' hk => tD H'' (fun y c0 h0 h1 => hk y c0 (fun e => by rw [e, fp _ _ lz] at h0; cases h0) (fun e => by rw [e, fp _ _ ls] at h0; cases h0) (nwF y c0 h0 h1))), R', by omega, rfl⟩)
          all_goals simp (disch := omega) only [kp.l, kp.t1, kp.t2, kp.t4, kp.t5, kp.t7, hc1, Int.cast_ofNat_Int, decide_true, ev2, seval, ev5]
      | false =>
        have rp1 := hrd ((N1.n 0, (.cells [.int .i64 0, .int .u64 0] 2 : KB)) :: H1) (by repeat (first | exact Fr.refl | refine fr_set ?_ (lk_N g _)))
        have rp2 := hrd ((N1.n 1, (.cells [.int .u64 0, .slice none 0 0, .slice none 0 0, .slice none 0 0, .bool false] 5 : KB)) :: (N1.n 0, (.cells [.int .i64 0, .int .u64 0] 2 : KB)) :: H1) (by repeat (first | exact Fr.refl | refine fr_set ?_ (lk_N g _)))
        obtain ⟨Hp, hHp⟩ : ∃ Hp, Hp = (N1.n 1, (.cells [.int .u64 0, .slice none 0 0, .slice none 0 0, .slice none 0 0, .bool false] 5 : KB)) :: (N1.n 0, (.cells [.int .i64 0, .int .u64 0] 2 : KB)) :: H1 := ⟨_, rfl⟩
        have gp : good B Hp (sh (shg (sh (shg (shg N1))))) := by rw [hHp]; exact good_new (good_new gg)
        have fp : Fr H1 Hp := by rw [hHp]; repeat (first | exact Fr.refl | refine fr_set ?_ (lk_N g _))
        have l9 : lk Hp (N1.n 0) = some (.cells [.int .i64 0, .int .u64 0] 2) := by rw [hHp]; simp only [lk_cons, hI]; rfl
        have l8 : lk Hp (N1.n 1) = some (.cells [.int .u64 0, .slice none 0 0, .slice none 0 0, .slice none 0 0, .bool false] 5) := by rw [hHp]; simp only [lk_cons, hI]; rfl
        obtain ⟨s', wk, wv, wt, a, b, H', N', eD, g', f', tD, R'⟩ := xDo (cd := cd) (ky := ky) (vl := vl) C R (hs1.mono fp) hky hvl gp
        have f1 := fp.trans f'
        have lc' := f1 _ _ lc
        have lz' := f1 _ _ lz
        have ls' := f1 _ _ ls
        have nc' := ne_N g' lc'
        have nz' := ne_N g' lz'
        have ns' := ne_N g' ls'
        have hB' := good_B g'
        have hR' := good_rdB g'
        have hI' := beqN g'.1.1
        have ha' := (tD H' (fun _ _ _ e => e)).all s'.cl
        have b9 := hB 0
        have r9 := rN b9
        have l9' := f' _ _ l9
        have n9' := ne_N g' l9'
        have m9' := ne_N' g' l9'
        have c9c : (N1.n 0 == c) = false := eqb fun e => by rw [← e, lk_N g] at lc; cases lc
        have c9z : (N1.n 0 == z) = false := eqb fun e => by rw [← e, lk_N g] at lz; cases lz
        have c9s : (N1.n 0 == sb) = false := eqb fun e => by rw [← e, lk_N g] at ls; cases ls
        have d9c : (c == N1.n 0) = false := nc 0
        have d9z : (z == N1.n 0) = false := nz 0
        have d9s : (sb == N1.n 0) = false := ns 0
        have b8 := hB 1
        have r8 := rN b8
        have l8' := f' _ _ l8
        have n8' := ne_N g' l8'
        have m8' := ne_N' g' l8'
        have c8c : (N1.n 1 == c) = false := eqb fun e => by rw [← e, lk_N g] at lc; cases lc
        have c8z : (N1.n 1 == z) = false := eqb fun e => by rw [← e, lk_N g] at lz; cases lz
        have c8s : (N1.n 1 == sb) = false := eqb fun e => by rw [← e, lk_N g] at ls; cases ls
        have d8c : (c == N1.n 1) = false := nc 1
        have d8z : (z == N1.n 1) = false := nz 1
        have d8s : (sb == N1.n 1) = false := ns 1
        have o8 : lk (H') (N1.n 1) = some (.cells [.int .u64 0, .slice none 0 0, .slice none 0 0, .slice none 0 0, .bool false] 5) := by exact l8'
        have gu8 := good_up (k := (.cells [.int .u64 s'.r, wk, wv, wt, .bool s'.cl] 5)) g' b8 o8
        have o9 : lk (upH (H') (N1.n 1) (.cells [.int .u64 s'.r, wk, wv, wt, .bool s'.cl] 5)) (N1.n 0) = some (.cells [.int .i64 0, .int .u64 0] 2) := by rw [lk_upH, hI 0 1]; exact l9'
        have gu9 := good_up (k := (.cells [.int .i64 a, .int .u64 b] 2)) gu8 b9 o9
        have os : lk (upH (upH (H') (N1.n 1) (.cells [.int .u64 s'.r, wk, wv, wt, .bool s'.cl] 5)) (N1.n 0) (.cells [.int .i64 a, .int .u64 b] 2)) sb = some (.cells [.int .u64 s.r, vk, vv, vt, .bool s.cl] 5) := by rw [lk_upH, d9s, cond_false, lk_upH, d8s, cond_false]; exact ls'
        have gus := good_up (k := (.cells [.int .u64 s'.r, wk, wv, wt, .bool s'.cl] 5)) gu9 bs_ os
        obtain ⟨HF, hHF⟩ : ∃ HF, HF = upH (upH (upH (H') (N1.n 1) (.cells [.int .u64 s'.r, wk, wv, wt, .bool s'.cl] 5)) (N1.n 0) (.cells [.int .i64 a, .int .u64 b] 2)) sb (.cells [.int .u64 s'.r, wk, wv, wt, .bool s'.cl] 5) := ⟨_, rfl⟩
        have lcF : lk HF c = some (.cells [.int .i64 (kk : Int), .int .i64 (p : Int), .int .i64 (cc : Int)] 3) := by rw [hHF, lk_upH, hcs, cond_false, lk_upH, d9c, cond_false, lk_upH, d8c, cond_false]; exact lc'
        have lzF : lk HF z = some (.cells [.int .u64 0, .slice none 0 0, .slice none 0 0, .slice none 0 0, .bool false] 5) := by rw [hHF, lk_upH, hzs, cond_false, lk_upH, d9z, cond_false, lk_upH, d8z, cond_false]; exact lz'
        have lsF : lk HF sb = some (.cells [.int .u64 s'.r, wk, wv, wt, .bool s'.cl] 5) := by rw [hHF, lk_upH, beq_self_eq_true, cond_true]
        have nwF : Nw Hp H' HF := fun y c0 h0 h1 => by
          rw [hHF, lk_upH, eqb (fun e => by rw [e, fp _ _ ls] at h0; cases h0), cond_false, lk_upH, eqb (fun e => by rw [e, l9] at h0; cases h0), cond_false, lk_upH, eqb (fun e => by rw [e, l8] at h0; cases h0), cond_false]; exact h1
        have fF : Fr H0 HF := by rw [hHF]; exact (fr_up (k := (.cells [.int .u64 s'.r, wk, wv, wt, .bool s'.cl] 5)) (fr_up (k := (.cells [.int .i64 a, .int .u64 b] 2)) (fr_up (k := (.cells [.int .u64 s'.r, wk, wv, wt, .bool s'.cl] 5)) (fk.trans f1) (hn 1)) (hn 0)) h0s)
        rw [hHp] at eD
        simp (disch := omega) only [J85, hB, hR, hI, kp.l, kp.t1, kp.t2, kp.t4, kp.t5, kp.t7, hll, lc, lz, ls, bc, bz, bs_, rc, rz, rs, nc, nz, ns, hin, hin', h30, i0, r1, wi, eO, ha, Nat.mul_one, eD, h0, h1, h3, rp1, rp2, b9, r9, l9', n9', m9', c9c, c9z, c9s, d9c, d9z, d9s, b8, r8, l8', n8', m8', c8c, c8z, c8s, d8c, d8z, d8s, lc', lz', ls', nc', nz', ns', hB', hR', hI', ha', hcs, hzs, hsc, hsz, all1, ress, res1, retV, Value.cells, newsV_s, seval, eV]
        rw [← hHF]
        refine ok_some (.inl ⟨rfl, 30 - (i + 1), by omega, _, HF, _, i + 1, s', wk, wv, wt, rfl, ⟨?_, ?_, ?_, ?_, ?_, ?_⟩, by rw [hHF]; exact gus, fF, lcF, lzF, lsF, (fun H'' hk => tD H'' (fun y c0 h0 h1 => hk y c0 (fun e => by rw [e, fp _ _ lz] at h0; cases h0) (fun e => by rw [e, fp _ _ ls] at h0; cases h0) (nwF y c0 h0 h1))), R', by omega, rfl⟩)
        all_goals simp (disch := omega) only [kp.l, kp.t1, kp.t2, kp.t4, kp.t5, kp.t7, hc1, Int.cast_ofNat_Int, decide_true, ev2, seval, ev5]
theorem J86 : Said (an @TlS.eq_1 <| an @LlS.eq_1 <| an @GlS_law09Op <| an @Vlaw09Op_eq <| an @GlS_ref09Do <| an @GlS_ref09New <| trivial) := said_ok _
set_option maxHeartbeats 8000000 in
theorem xState {B : OH} {H : HL} {N : St} {vr : Value} {raw : List Q3} {kk p cc h : Nat} (C : Cf kk p cc h) (hr : SlR q3 3 B H vr raw) (hrs : Q3s raw) (hN : good B H N) : ∃ s, ∃ vk vv vt : Value, ∃ H' N', VlS B [.agg #[.int .i64 (kk : Int), .int .i64 (p : Int), .int .i64 (cc : Int)], vr] H N = some (.ret (.agg #[.int .u64 s.r, vk, vv, vt, .bool s.cl]), H', N') ∧ good B H' N' ∧ Fr H H' ∧ StW B H' vk vv vt s ∧ Rt kk cc s := by
  obtain ⟨hB, hR, hI⟩ := gX hN
  have hG : ∃ H N, good B H N := ⟨H, N, hN⟩
  have b0 := hB 0
  have b1 := hB 1
  have rb0 := rN b0
  have rb1 := rN b1
  have hkk := C.k
  have hcc := C.c
  have g2 : good B ((N.n 1, (.cells [.int .u64 0, .slice none 0 0, .slice none 0 0, .slice none 0 0, .bool false] 5 : KB)) :: (N.n 0, (.cells [.int .i64 (kk : Int), .int .i64 (p : Int), .int .i64 (cc : Int)] 3 : KB)) :: H) (sh (sh N)) := good_new (good_new hN)
  have f2 : Fr H ((N.n 1, (.cells [.int .u64 0, .slice none 0 0, .slice none 0 0, .slice none 0 0, .bool false] 5 : KB)) :: (N.n 0, (.cells [.int .i64 (kk : Int), .int .i64 (p : Int), .int .i64 (cc : Int)] 3 : KB)) :: H) := fr_set (fr_set Fr.refl (lk_N hN _)) (lk_N hN _)
  obtain ⟨H2, hH2⟩ : ∃ H2, H2 = (N.n 1, (.cells [.int .u64 0, .slice none 0 0, .slice none 0 0, .slice none 0 0, .bool false] 5 : KB)) :: (N.n 0, (.cells [.int .i64 (kk : Int), .int .i64 (p : Int), .int .i64 (cc : Int)] 3 : KB)) :: H := ⟨_, rfl⟩
  rw [← hH2] at g2 f2
  have q0 : lk H2 (N.n 0) = some (.cells [.int .i64 (kk : Int), .int .i64 (p : Int), .int .i64 (cc : Int)] 3) := by rw [hH2]; simp only [lk_cons, hI]; rfl
  have q1 : lk H2 (N.n 1) = some (.cells [.int .u64 0, .slice none 0 0, .slice none 0 0, .slice none 0 0, .bool false] 5) := by rw [hH2]; simp only [lk_cons, hI]; rfl
  obtain ⟨vt, tl, H3, N3, e3, g3, f3, s3, ht⟩ := xNew C g2
  obtain ⟨a3, k3, rfl, _⟩ := id (s3.wh f1_len)
  have p0 := f3 _ _ q0
  have p1 := f3 _ _ q1
  have n0 := ne_N g3 p0
  have n1 := ne_N g3 p1
  have n0' := ne_N' g3 p0
  have n1' := ne_N' g3 p1
  have hB3 := good_B g3
  have hR3 := good_rdB g3
  have hI3 := beqN g3.1.1
  have b3 := hB3 0
  have r3 := rN b3
  have n10 : (N.n 1 == N.n 0) = false := hI 1 0
  have n01 : (N.n 0 == N.n 1) = false := hI 0 1
  have f03 : Fr H H3 := f2.trans f3
  obtain ⟨H4, hH4⟩ : ∃ H4, H4 = (N3.n 0, (.cells [.int .u64 0, .slice none 0 0, .slice none 0 0, .slice a3 tl.length k3, .bool false] 5 : KB)) :: H3 := ⟨_, rfl⟩
  have g4 : good B H4 (sh N3) := by rw [hH4]; exact good_new g3
  have f4 : Fr H3 H4 := by rw [hH4]; exact fr_set Fr.refl (lk_N g3 _)
  have l4 : lk H4 (N3.n 0) = some (.cells [.int .u64 0, .slice none 0 0, .slice none 0 0, .slice a3 tl.length k3, .bool false] 5) := by rw [hH4]; exact lk_top
  have sN : RS B H4 (N.n 1) (N3.n 0) (.slice none 0 0) (.slice none 0 0) (.slice a3 tl.length k3) ⟨0, [], [], tl, false⟩ := fun H'' hk => ⟨⟨_, _, rfl, Nat.le_refl _, .inl rfl⟩, ⟨_, _, rfl, Nat.le_refl _, .inl rfl⟩, SlM.wh f1_len (H0 := H2) (by
    rcases s3 with s3 | ⟨b, cap, rest, h1, h2, h3, h4, h5⟩
    · exact .inl s3
    · exact .inr ⟨b, cap, rest, h1, h2, h3, h4, hk b _ (fun e => by rw [e, q1] at h3; cases h3) (fun e => by rw [e, lk_N g3 0] at h5; cases h5) (f4 _ _ h5)⟩)⟩
  have htl : kk = 5 → tl.length = cc := fun h5 => by rw [ht, if_pos h5, List.length_replicate]
  have RN : Rt kk cc ⟨0, [], [], tl, false⟩ := ⟨by unfold u64R; simp, fun x hx => by simp at hx, fun x hx => by simp at hx, fun _ => cn_0, fun _ => rfl, fun _ => rfl, fun _ => rfl, fun h5 => ⟨by show tl = []; rw [ht, if_neg h5], rfl⟩, by simp, fun _ => rfl, fun i hi => by simp at hi, fun i hi => by simp at hi, htl, fun i hi => by
    show 0 ≤ tl.getD i 0 ∧ tl.getD i 0 ≤ 8
    rw [ht]; split
    · rw [rep_getD]; omega
    · simp⟩
  rw [hH2] at e3
  unfold VlS
  simp (disch := omega) only [J86, hB, hR, hI, e3, p0, p1, n0, n1, n0', n1', hB3, hR3, hI3, b3, r3, n10, n01, all1, ress, res1, retV, Value.cells, newsV_s, seval, eV]
  rw [← hH4]
  generalize hX : exec B _ _ (LC.loop _) _ = o
  obtain ⟨r, ⟨ts, H5, N5⟩, rfl, rfl, i, s, vk, vv, vt, g5, f5, lc5, lz5, ls5, s5, R5, kp⟩ := (show Ok o _ by rw [← hX]; exact loopSt (c := N.n 0) (z := N.n 1) (sb := N3.n 0) (s := ⟨0, [], [], tl, false⟩) C RN hr hrs sN g4 (f03.trans f4) (f03.dm _ (lk_N g3 0)) b0 b1 b3 (f4 _ _ p0) (f4 _ _ p1) l4 (n0 0) (n1 0) (n0' 0) (n1' 0) ⟨rfl, rfl, rfl, rfl, rfl, rfl⟩ (by omega))
  simp only at g5 f5 lc5 lz5 ls5 s5 kp
  have ha := (s5 H5 (fun _ _ _ _ e => e)).all s.cl
  simp (disch := omega) only [J86, hB, hR, hI, kp.l, kp.t1, kp.t2, kp.t4, kp.t5, kp.t7, lc5, lz5, ls5, ha, b0, b1, b3, rb0, rb1, r3, all1, ress, res1, retV, Value.cells, newsV_s, seval, eV]
  refine ⟨s, vk, vv, vt, _, _, rfl, good_up g5 b1 lz5, fr_up f5 (lk_N hN 1), s5 _ (fun y c h1 _ e => by rw [lk_upH, eqb h1, cond_false]; exact e), R5⟩
end Go.Proofs.YtfhiplfagejfoaaDoor
namespace Go.Proofs.YtfhiplfagejfoaaDoor
open Go.Proofs.YtfhiplfagejfoaaDoor.K Go.ChangeShapes Go.WideShapes Go.ChangeAt Go.RowKit 
set_option maxRecDepth 100000
set_option linter.unusedSimpArgs false
set_option linter.unusedVariables false

theorem u_app {L M : List Int} (h : U64s L) (h' : U64s M) : U64s (L ++ M) := fun x hx => by
  rcases List.mem_append.1 hx with e | e
  · exact h x e
  · exact h' x e
theorem u_one {x : Int} (h : u64R x) : U64s [x] := fun y hy => by rw [List.mem_singleton.1 hy]; exact h
theorem rep_u (n : Nat) : U64s (List.replicate n 0) := fun x hx => by rw [(List.mem_replicate.1 hx).2]; unfold u64R; omega
def lbV1 : LC := (.seq (.seq (.ops [om 8 4,og 9 3 1,ol 10 9,oa 11 (.len false (ot 10)),oa 12 (.bin .lss (ot 8) (ot 11))])
 (.cond (ot 12) .skip
 (.exit 0)))
 (.seq (.block 1 (.ops [om 15 3,og 16 3 1,ol 17 16,om 18 4,oa 19 (.iaddrS 1 (ot 17) (ot 18)),ol 20 19,oa 21 (.conv .u64 (ot 20)),oa 22 (.buildS [(.int .u64 0)] 1 [(0, 1, (ot 21))]),oa 23 (.app [(.int .u64 0)] 8 (ot 15) (ot 22)),om 3 23]))
 (.ops [om 13 4,oa 14 (.bin .add (ot 13) (oi 1)),om 4 14])))
def lbV3 : LC := (.seq (.seq (.ops [om 28 7,og 29 3 1,ol 30 29,oa 31 (.len false (ot 30)),oa 32 (.bin .lss (ot 28) (ot 31))])
 (.cond (ot 32) .skip
 (.exit 4)))
 (.seq (.block 5 (.seq (.ops [og 35 3 1,ol 36 35,om 37 7,oa 38 (.iaddrS 1 (ot 36) (ot 37)),ol 39 38,om 40 5,oa 41 (.bin .eql (ot 39) (ot 40))])
 (.cond (ot 41) (.ops [om 42 6,oa 43 (.bin .add (ot 42) (ou 1)),om 6 43])
 .skip)))
 (.ops [om 33 7,oa 34 (.bin .add (ot 33) (oi 1)),om 7 34])))
def lbV2 : LC := (.seq (.seq (.ops [om 24 5,oa 25 (.bin .leq (ot 24) (oi 8))])
 (.cond (ot 25) .skip
 (.exit 2)))
 (.seq (.block 3 (.seq (.ops [oa 6 (.mv (ou 0))])
 (.seq (.seq (.ops [oa 7 (.mv (oi 0))])
 (.block 4 (.loop lbV3)))
 (.ops [om 44 3,om 45 6,oa 46 (.buildS [(.int .u64 0)] 1 [(0, 1, (ot 45))]),oa 47 (.app [(.int .u64 0)] 8 (ot 44) (ot 46)),om 3 47]))))
 (.ops [om 26 5,oa 27 (.bin .add (ot 26) (oi 1)),om 5 27])))
def LrVt : FnL := ⟨(.seq (.ops [oa 1 (.box (ot 0)),oa 2 (.mv (.const (.slice none 0 0)))])
 (.seq (.ops [oa 3 (.mv (.const (.slice none 0 0)))])
 (.seq (.seq (.ops [oa 4 (.mv (oi 0))])
 (.block 0 (.loop lbV1)))
 (.seq (.seq (.ops [oa 5 (.mv (oi 1))])
 (.block 2 (.loop lbV2)))
 (.seq (.ops [om 48 3,om 2 48])
 .ret))))),
 49, [.tmp 2]⟩
theorem lowrVt : lowerFn Tryd.prog Tryd.f72 = some LrVt := by kernel_rfl
noncomputable def GrVt (B : OH) : Nat → Cs
  | _ => fun _ _ _ => none
theorem sGrVt {w0 : World} {B : OH} : SoundG Tryd.prog w0 B { f := GrVt B } := .of fun k => by
  unfold GrVt
  split
  · exact .inl fun _ _ _ => rfl
theorem enrVt : Enter Tryd.prog 72 := .of Tryd.func72 (by kernel_rfl) (by kernel_rfl)
noncomputable def TrVt (B : OH) : Cs := callF B { f := GrVt B } 1000000 LrVt
theorem sTrVt {w0 : World} {B : OH} : SoundC Tryd.prog w0 B 72 (TrVt B) := callF_sound mixedOrders sGrVt 1000000 Tryd.func72 lowrVt
noncomputable def VrVt (B : OH) : Cs := TrVt B
theorem sVrVt {w0 : World} {B : OH} : SoundC Tryd.prog w0 B 72 (VrVt B) := sTrVt
structure KV1 (sb : Nat) (vo : Value) (i : Nat) (ts : List Value) : Prop where
  l : ts.length = 49
  t1 : gt ts 1 = .pointer (some ⟨sb, 0, none⟩)
  t3 : gt ts 3 = vo
  t4 : gt ts 4 = .int .i64 (i : Int)
structure KV2 (sb : Nat) (vo : Value) (i : Nat) (ts : List Value) : Prop where
  l : ts.length = 49
  t1 : gt ts 1 = .pointer (some ⟨sb, 0, none⟩)
  t3 : gt ts 3 = vo
  t5 : gt ts 5 = .int .i64 (i : Int)
structure KV3 (sb : Nat) (vo : Value) (i : Nat) (n : Int) (j : Nat) (ts : List Value) : Prop where
  l : ts.length = 49
  t1 : gt ts 1 = .pointer (some ⟨sb, 0, none⟩)
  t3 : gt ts 3 = vo
  t5 : gt ts 5 = .int .i64 (i : Int)
  t6 : gt ts 6 = .int .u64 n
  t7 : gt ts 7 = .int .i64 (j : Int)
theorem J87 : Said (an @TrVt.eq_1 <| an @LrVt.eq_1 <| an @lbV1.eq_1 <| trivial) := said_ok _
set_option maxHeartbeats 4000000 in
theorem loopV1 {B : OH} {H0 H : HL} {N : St} {vk vv vt vo : Value} {s : S9} {sb : Nat} (hl : s.ts.length ≤ 300) (hs : SlW f1 1 B H0 vt s.ts) (hN : good B H N) (hF0 : Fr H0 H) (bs_ : B sb = none) (ls : lk H0 sb = some (.cells [.int .u64 s.r, vk, vv, vt, .bool s.cl] 5)) (so : SlM w1 1 B H0 H vo []) {ts : List Value} (kp : KV1 sb vo 0 ts) {F : Nat} (hF : 1000 ≤ F) :
    Ok (exec B { f := GrVt B } F (LC.loop lbV1) ⟨ts, H, N⟩) (fun x st => x = .exit 0 ∧ good B st.H st.N ∧ Fr H0 st.H ∧ ∃ vo, ∃ L : List Int, SlM w1 1 B H0 st.H vo L ∧ L.length = s.ts.length ∧ U64s L ∧ KV1 sb vo s.ts.length st.t) := by
  have rs := rN bs_
  have hll := hs.len
  refine loop_rule (n0 := 100) (fun q st => ∃ ts H' N', ∃ vo, ∃ L : List Int, ∃ i : Nat, st = ⟨ts, H', N'⟩ ∧ KV1 sb vo i ts ∧ good B H' N' ∧ Fr H0 H' ∧ SlM w1 1 B H0 H' vo L ∧ L.length = i ∧ U64s L ∧ i ≤ s.ts.length ∧ q = s.ts.length - i) _ ?_ s.ts.length _ ⟨ts, H, N, vo, [], 0, rfl, kp, hN, hF0, so, rfl, fun x hx => by simp at hx, by omega, rfl⟩ _ (by omega)
  clear kp hF F ts so hN hF0 N vo
  rintro z q st ⟨ts, H1, N1, vo, L, i, rfl, kp, g, fr, so, hLi, hLu, hi, rfl⟩
  obtain ⟨hB, hR, hI⟩ := gX g
  have ls1 := fr _ _ ls
  have hc1 : ((i + 1 : Nat) : Int) = (i : Int) + 1 := by omega
  by_cases hin : i < s.ts.length
  case neg =>
    obtain rfl : i = s.ts.length := by omega
    simp (disch := omega) only [J87, hB, hR, hI, kp.l, kp.t1, kp.t3, kp.t4, ls1, bs_, rs, hll, Int.lt_irrefl, all1, ress, res1, retV, Value.cells, newsV_s, seval, eV]
    refine ok_some (.inr ⟨by simp, rfl, g, fr, vo, L, so, hLi, hLu, ⟨?_, ?_, ?_, ?_⟩⟩)
    all_goals simp (disch := omega) only [kp.l, kp.t1, kp.t3, kp.t4, Int.cast_ofNat_Int, decide_true, ev2, seval, ev5]
  have hin' : (i : Int) < (s.ts.length : Int) := by omega
  have i0 : (0 : Int) ≤ (i : Int) := by omega
  obtain ⟨bv, ov, cv, rfl, rr⟩ := rd_w f1_len hs (by omega)
  have r1 := rr H1 fr i hin
  simp only [f1] at r1
  obtain ⟨v4, H4, N4, e4, g4, r4, _, s4, _⟩ := push_specM w1_len (bytes := 8) g fr so (IntKind.u64.wrap (s.ts.getD i 0)) rfl (by omega) (by omega)
  simp only [w1] at e4
  simp (disch := omega) only [J87, hB, hR, hI, kp.l, kp.t1, kp.t3, kp.t4, ls1, bs_, rs, hin, hin', i0, r1, e4, Nat.mul_one, all1, ress, res1, retV, Value.cells, newsV_s, seval, eV]
  refine ok_some (.inl ⟨rfl, s.ts.length - (i + 1), by omega, _, H4, N4, v4, _, i + 1, rfl, ⟨?_, ?_, ?_, ?_⟩, g4, r4, s4.toM, by simp; omega, u_app hLu (u_one (wrap_u _)), by omega, rfl⟩)
  all_goals simp (disch := omega) only [kp.l, kp.t1, kp.t3, kp.t4, hc1, Int.cast_ofNat_Int, decide_true, ev2, seval, ev5]
theorem J88 : Said (an @TrVt.eq_1 <| an @LrVt.eq_1 <| an @lbV3.eq_1 <| trivial) := said_ok _
set_option maxHeartbeats 4000000 in
theorem loopV3 {B : OH} {H : HL} {N : St} {vk vv vt vo : Value} {s : S9} {sb i : Nat} (hl : s.ts.length ≤ 300) (hs : SlW f1 1 B H vt s.ts) (hN : good B H N) (bs_ : B sb = none) (ls : lk H sb = some (.cells [.int .u64 s.r, vk, vv, vt, .bool s.cl] 5)) {ts : List Value} (kp : KV3 sb vo i 0 0 ts) {F : Nat} (hF : 500 ≤ F) :
    Ok (exec B { f := GrVt B } F (LC.loop lbV3) ⟨ts, H, N⟩) (fun x st => x = .exit 4 ∧ st.H = H ∧ st.N = N ∧ ∃ n j, u64R n ∧ KV3 sb vo i n j st.t) := by
  obtain ⟨hB, hR, hI⟩ := gX hN
  have hG : ∃ H N, good B H N := ⟨H, N, hN⟩
  have rs := rN bs_
  have hll := hs.len
  refine loop_rule (n0 := 100) (fun q st => ∃ ts n, ∃ j : Nat, st = ⟨ts, H, N⟩ ∧ KV3 sb vo i n j ts ∧ u64R n ∧ j ≤ s.ts.length ∧ q = s.ts.length - j) _ ?_ s.ts.length _ ⟨ts, 0, 0, rfl, kp, by unfold u64R; omega, by omega, rfl⟩ _ (by omega)
  clear kp hF F ts
  rintro z q st ⟨ts, n, j, rfl, kp, hn, hj, rfl⟩
  have hc1 : ((j + 1 : Nat) : Int) = (j : Int) + 1 := by omega
  by_cases hin : j < s.ts.length
  case neg =>
    obtain rfl : j = s.ts.length := by omega
    simp (disch := omega) only [J88, hB, hR, hI, kp.l, kp.t1, kp.t3, kp.t5, kp.t6, kp.t7, ls, bs_, rs, hll, Int.lt_irrefl, all1, ress, res1, retV, Value.cells, newsV_s, seval, eV]
    refine ok_some (.inr ⟨by simp, rfl, rfl, rfl, n, s.ts.length, hn, ⟨?_, ?_, ?_, ?_, ?_, ?_⟩⟩)
    all_goals simp (disch := omega) only [kp.l, kp.t1, kp.t3, kp.t5, kp.t6, kp.t7, Int.cast_ofNat_Int, decide_true, ev2, seval, ev5]
  have hin' : (j : Int) < (s.ts.length : Int) := by omega
  have i0 : (0 : Int) ≤ (j : Int) := by omega
  obtain ⟨bv, ov, cv, rfl, rr⟩ := rd_w f1_len hs (by omega)
  have r1 := rr H Fr.refl j hin
  simp only [f1] at r1
  by_cases he : s.ts.getD j 0 = (i : Int)
  · have hb : (s.ts.getD j 0 == (i : Int)) = true := by simpa using he
    have hw := wrap_u (n + 1)
    generalize hm : IntKind.u64.wrap (n + 1) = m at hw
    simp (disch := omega) only [J88, hB, hR, hI, kp.l, kp.t1, kp.t3, kp.t5, kp.t6, kp.t7, ls, bs_, rs, hin, hin', i0, r1, hb, hm, Nat.mul_one, all1, ress, res1, retV, Value.cells, newsV_s, seval, eV]
    refine ok_some (.inl ⟨rfl, s.ts.length - (j + 1), by omega, _, m, j + 1, rfl, ⟨?_, ?_, ?_, ?_, ?_, ?_⟩, hw, by omega, rfl⟩)
    all_goals simp (disch := omega) only [kp.l, kp.t1, kp.t3, kp.t5, kp.t6, kp.t7, hc1, Int.cast_ofNat_Int, decide_true, ev2, seval, ev5]
  · have hb := beqI he
    simp (disch := omega) only [J88, hB, hR, hI, kp.l, kp.t1, kp.t3, kp.t5, kp.t6, kp.t7, ls, bs_, rs, hin, hin', i0, r1, hb, Nat.mul_one, all1, ress, res1, retV, Value.cells, newsV_s, seval, eV]
    refine ok_some (.inl ⟨rfl, s.ts.length - (j + 1), by omega, _, n, j + 1, rfl, ⟨?_, ?_, ?_, ?_, ?_, ?_⟩, hn, by omega, rfl⟩)
    all_goals simp (disch := omega) only [kp.l, kp.t1, kp.t3, kp.t5, kp.t6, kp.t7, hc1, Int.cast_ofNat_Int, decide_true, ev2, seval, ev5]
theorem J89 : Said (an @TrVt.eq_1 <| an @LrVt.eq_1 <| an @lbV2.eq_1 <| trivial) := said_ok _
set_option maxHeartbeats 4000000 in
theorem loopV2 {B : OH} {H0 H : HL} {N : St} {vk vv vt vo : Value} {s : S9} {sb m : Nat} {L0 : List Int} (hm : L0.length = m) (hm3 : m ≤ 300) (hu : U64s L0) (hl : s.ts.length ≤ 300) (hs : SlW f1 1 B H0 vt s.ts) (hN : good B H N) (hF0 : Fr H0 H) (bs_ : B sb = none) (ls : lk H0 sb = some (.cells [.int .u64 s.r, vk, vv, vt, .bool s.cl] 5)) (so : SlM w1 1 B H0 H vo L0) {ts : List Value} (kp : KV2 sb vo 1 ts) {F : Nat} (hF : 2000 ≤ F) :
    Ok (exec B { f := GrVt B } F (LC.loop lbV2) ⟨ts, H, N⟩) (fun x st => x = .exit 2 ∧ good B st.H st.N ∧ Fr H0 st.H ∧ ∃ vo, ∃ L : List Int, SlM w1 1 B H0 st.H vo L ∧ L.length = m + 8 ∧ U64s L ∧ KV2 sb vo 9 st.t) := by
  have rs := rN bs_
  refine loop_rule (n0 := 1000) (fun q st => ∃ ts H' N', ∃ vo, ∃ L : List Int, ∃ i : Nat, st = ⟨ts, H', N'⟩ ∧ KV2 sb vo i ts ∧ good B H' N' ∧ Fr H0 H' ∧ SlM w1 1 B H0 H' vo L ∧ L.length + 1 = m + i ∧ U64s L ∧ 1 ≤ i ∧ i ≤ 9 ∧ q = 9 - i) _ ?_ 8 _ ⟨ts, H, N, vo, L0, 1, rfl, kp, hN, hF0, so, by omega, hu, by omega, by omega, rfl⟩ _ (by omega)
  clear kp hF F ts so hN hF0 N vo
  rintro z q st ⟨ts, H1, N1, vo, L, i, rfl, kp, g, fr, so, hLi, hLu, h1, hi, rfl⟩
  obtain ⟨hB, hR, hI⟩ := gX g
  have ls1 := fr _ _ ls
  have hc1 : ((i + 1 : Nat) : Int) = (i : Int) + 1 := by omega
  by_cases hin : (i : Int) ≤ 8
  case neg =>
    obtain rfl : i = 9 := by omega
    simp (disch := omega) only [J89, hB, hR, hI, kp.l, kp.t1, kp.t3, kp.t5, all1, ress, res1, retV, Value.cells, newsV_s, seval, eV]
    refine ok_some (.inr ⟨by simp, rfl, g, fr, vo, L, so, by omega, hLu, ⟨?_, ?_, ?_, ?_⟩⟩)
    all_goals simp (disch := omega) only [kp.l, kp.t1, kp.t3, kp.t5, Int.cast_ofNat_Int, decide_true, ev2, seval, ev5]
  simp (disch := omega) only [J89, hB, hR, hI, kp.l, kp.t1, kp.t3, kp.t5, hin, all1, ress, res1, retV, Value.cells, newsV_s, seval, eV]
  generalize hX : exec B _ _ (LC.loop _) _ = o
  obtain ⟨x, ⟨ts2, H2, N2⟩, rfl, rfl, hHH, hNN, n, j, hn, kp⟩ := (show Ok o _ by rw [← hX]; exact loopV3 (i := i) (vo := vo) hl (hs.mono fr) g bs_ ls1 (by constructor <;> simp (disch := omega) only [kp.l, kp.t1, kp.t3, kp.t5, Int.cast_ofNat_Int, decide_true, ev2, seval, ev5]) (by omega))
  simp only at kp hHH hNN
  obtain ⟨v4, H4, N4, e4, g4, r4, _, s4, _⟩ := push_specM w1_len (bytes := 8) g fr so n rfl (by omega) (by omega)
  simp only [w1] at e4
  rw [hHH, hNN]
  simp (disch := omega) only [J89, hB, hR, hI, kp.l, kp.t1, kp.t3, kp.t5, kp.t6, kp.t7, e4, all1, ress, res1, retV, Value.cells, newsV_s, seval, eV]
  refine ok_some (.inl ⟨rfl, 9 - (i + 1), by omega, _, H4, N4, v4, _, i + 1, rfl, ⟨?_, ?_, ?_, ?_⟩, g4, r4, s4.toM, by simp; omega, u_app hLu (u_one hn), by omega, by omega, rfl⟩)
  all_goals simp (disch := omega) only [kp.l, kp.t1, kp.t3, kp.t5, kp.t6, kp.t7, hc1, Int.cast_ofNat_Int, decide_true, ev2, seval, ev5]
theorem J90 : Said (an @TrVt.eq_1 <| an @LrVt.eq_1 <| trivial) := said_ok _
set_option maxHeartbeats 4000000 in
theorem xvotes10 {B : OH} {H : HL} {N : St} {vk vv vt : Value} {s : S9} (hl : s.ts.length ≤ 256) (hs : StW B H vk vv vt s) (hN : good B H N) : ∃ v' L H' N', VrVt B [.agg #[.int .u64 s.r, vk, vv, vt, .bool s.cl]] H N = some (.ret v', H', N') ∧ good B H' N' ∧ Fr H H' ∧ SlM w1 1 B H H' v' L ∧ L.length = s.ts.length + 8 ∧ U64s L := by
  obtain ⟨hB, hR, hI⟩ := gX hN
  have hG : ∃ H N, good B H N := ⟨H, N, hN⟩
  obtain ⟨H1, hH1⟩ : ∃ H1, H1 = (N.n 0, (.cells [.int .u64 s.r, vk, vv, vt, .bool s.cl] 5 : KB)) :: H := ⟨_, rfl⟩
  have g1 : good B H1 (sh N) := by rw [hH1]; exact good_new hN
  have f1' : Fr H H1 := by rw [hH1]; exact fr_set Fr.refl (lk_N hN _)
  have q0 : lk H1 (N.n 0) = some (.cells [.int .u64 s.r, vk, vv, vt, .bool s.cl] 5) := by rw [hH1]; exact lk_top
  unfold VrVt
  simp (disch := omega) only [J90, hB, hR, hI, all1, ress, res1, retV, Value.cells, newsV_s, seval, eV]
  rw [← hH1]
  generalize hX : exec B _ _ (LC.loop _) _ = o
  obtain ⟨x, ⟨ts2, H2, N2⟩, rfl, rfl, g2, fr2, vo, L, so, hL, hu, kp⟩ := (show Ok o _ by rw [← hX]; exact loopV1 (sb := N.n 0) (s := s) (by omega) (hs.t.mono f1') g1 Fr.refl (hB 0) q0 (.inl ⟨rfl, rfl⟩) ⟨rfl, rfl, rfl, rfl⟩ (by omega))
  simp only at kp g2 fr2 so
  clear hX
  simp (disch := omega) only [J90, hB, hR, hI, kp.l, kp.t1, kp.t3, kp.t4, all1, ress, res1, retV, Value.cells, newsV_s, seval, eV]
  generalize hX : exec B _ _ (LC.loop _) _ = o
  obtain ⟨x, ⟨ts3, H3, N3⟩, rfl, rfl, g3, fr3, vo3, L3, so3, hL3, hu3, kp3⟩ := (show Ok o _ by rw [← hX]; exact loopV2 (sb := N.n 0) (s := s) hL (by omega) hu (by omega) (hs.t.mono f1') g2 fr2 (hB 0) q0 so (by constructor <;> simp (disch := omega) only [kp.l, kp.t1, kp.t3, kp.t4, Int.cast_ofNat_Int, decide_true, ev2, seval, ev5]) (by omega))
  simp only at kp3 g3 fr3 so3
  clear kp
  have kp := kp3
  simp (disch := omega) only [J90, hB, hR, hI, kp.l, kp.t1, kp.t3, kp.t5, all1, ress, res1, retV, Value.cells, newsV_s, seval, eV]
  exact ⟨_, L3, _, _, rfl, g3, f1'.trans fr3, so3.low f1'.dm, hL3, hu3⟩
end Go.Proofs.YtfhiplfagejfoaaDoor
namespace Go.Proofs.YtfhiplfagejfoaaDoor
open Go.Proofs.YtfhiplfagejfoaaDoor.K Go.ChangeShapes Go.WideShapes Go.ChangeAt Go.RowKit 
set_option maxRecDepth 100000
set_option linter.unusedSimpArgs false
set_option linter.unusedVariables false

theorem all1_q2 (L : List Q2) : all1 (fl q2 L) = true := by
  induction L with
  | nil => rfl
  | cons a L ih => exact ih
theorem newsV_1 {sz : Nat} {H : HL} {B : OH} {b o c : Nat} : newsV sz H B (.slice (some ⟨b, o, none⟩) 1 c) = rdH H B b o (1 * sz) := rfl
def Asc (K : List Int) : Prop := ∀ j, j + 1 < K.length → K.getD j 0 < K.getD (j + 1) 0
def lbTr : LC := (.seq (.seq (.ops [om 20 9,om 21 2,oa 22 (.bin .lss (ot 20) (ot 21))])
 (.cond (ot 22) .skip
 (.exit 0)))
 (.seq (.block 1 (.seq (.draw [pm 25 0,pm 26 9,oe 27 (.iaddrS 1 (ot 25) (ot 26)),pl 28 27,pm 29 0,pm 30 8,oe 31 (.iaddrS 1 (ot 29) (ot 30)),pl 32 31,oe 33 (.call (.func 111) [(ot 28), (ot 32)])])
 (.cond (ot 33) (.ops [om 34 9,om 8 34])
 .skip)))
 (.ops [om 23 9,oa 24 (.bin .add (ot 23) (oi 1)),om 9 24])))
def LrT8 : FnL := ⟨(.seq (.ops [oa 6 (.mv (oi 0)),oa 7 (.mv (.const (.slice none 0 0)))])
 (.seq (.seq (.ops [om 14 1,om 15 2,oa 16 (.bin .geq (ot 14) (ot 15))])
 (.cond (ot 16) (.seq (.ops [oa 6 (.mv (oi 0)),oa 7 (.mv (.const (.slice none 0 0)))])
 .ret)
 .skip))
 (.seq (.ops [om 17 1,om 8 17])
 (.seq (.seq (.ops [om 18 1,oa 19 (.bin .add (ot 18) (oi 1)),om 9 19])
 (.block 0 (.loop lbTr)))
 (.seq (.ops [om 36 0,om 37 1,om 38 8,oa 39 (.call (.func 99) [(ot 36), (ot 37), (ot 38)]),om 35 39,oa 40 (.ext (ot 35) 0),oa 41 (.ext (ot 35) 1),om 10 40,om 11 41])
 (.seq (.ops [om 43 0,om 44 8,oa 45 (.bin .add (ot 44) (oi 1)),om 46 2,oa 47 (.call (.func 99) [(ot 43), (ot 45), (ot 46)]),om 42 47,oa 48 (.ext (ot 42) 0),oa 49 (.ext (ot 42) 1),om 12 48,om 13 49])
 (.seq (.ops [om 50 8,oa 51 (.bin .add (ot 50) (oi 1)),om 52 11,oa 53 (.app [(.int .i64 0), (.int .i64 0)] 16 (.const (.slice none 0 0)) (ot 52)),om 54 10,om 55 12,oa 56 (.build [(.int .i64 0), (.int .i64 0)] [(0, 1, (ot 54)), (1, 1, (ot 55))]),oa 57 (.buildS [(.int .i64 0), (.int .i64 0)] 1 [(0, 2, (ot 56))]),oa 58 (.app [(.int .i64 0), (.int .i64 0)] 16 (ot 53) (ot 57)),om 59 13,oa 60 (.app [(.int .i64 0), (.int .i64 0)] 16 (ot 58) (ot 59)),om 6 51,om 7 60])
 .ret))))))),
 61, [.tmp 6, .tmp 7]⟩
theorem lowrT8 : lowerFn Tryd.prog Tryd.f99 = some LrT8 := by kernel_rfl
theorem enrT8 : Enter Tryd.prog 99 := .of Tryd.func99 (by kernel_rfl) (by kernel_rfl)
noncomputable def GrT8 (B : OH) (self : Cs) : Nat → Cs
  | 111 => VrBf B
  | 99 => self
  | _ => fun _ _ _ => none
theorem GrT8_rBf {B : OH} {s : Cs} : GrT8 B s 111 = VrBf B := rfl
theorem GrT8_rT8 {B : OH} {s : Cs} : GrT8 B s 99 = s := rfl
noncomputable def WrT8 (B : OH) : Nat → Cs
  | 0 => fun _ _ _ => none
  | n + 1 => callF B { f := GrT8 B (WrT8 B n) } 1000000 LrT8
theorem WrT8_succ {B : OH} {n : Nat} : WrT8 B (n + 1) = callF B { f := GrT8 B (WrT8 B n) } 1000000 LrT8 := rfl
theorem sGrT8 {w0 : World} {B : OH} {s : Cs} (hs : SoundC Tryd.prog w0 B 99 s) : SoundG Tryd.prog w0 B { f := GrT8 B s } := .of fun k => by
  unfold GrT8
  split
  · exact .inr ⟨enrBf, sVrBf⟩
  · exact .inr ⟨enrT8, hs⟩
  · exact .inl fun _ _ _ => rfl
theorem sWrT8 {w0 : World} {B : OH} : ∀ n, SoundC Tryd.prog w0 B 99 (WrT8 B n)
  | 0 => fun _ _ _ _ hn hq hk => (hn (hq _ (good_of hk))).elim
  | n + 1 => callF_sound mixedOrders (sGrT8 (sWrT8 n)) 1000000 Tryd.func99 lowrT8
noncomputable def VrT8 (B : OH) : Cs := WrT8 B 300
theorem sVrT8 {w0 : World} {B : OH} : SoundC Tryd.prog w0 B 99 (VrT8 B) := sWrT8 300
structure KTr (v : Value) (a e t i : Nat) (ts : List Value) : Prop where
  l : ts.length = 61
  t0 : gt ts 0 = v
  t1 : gt ts 1 = .int .i64 (a : Int)
  t2 : gt ts 2 = .int .i64 (e : Int)
  t8 : gt ts 8 = .int .i64 (t : Int)
  t9 : gt ts 9 = .int .i64 (i : Int)
theorem J91 : Said (an @WrT8_succ <| an @LrT8.eq_1 <| an @GrT8_rBf <| an @VrBf_eq <| an @GrT8_rT8 <| an @lbTr.eq_1 <| trivial) := said_ok _
set_option maxHeartbeats 4000000 in
theorem loopTr {B : OH} {H : HL} {N : St} {S : Cs} {v : Value} {K : List Int} {a d : Nat} (hv : SlR w1 1 B H v K) (hKl : K.length ≤ 256) (hd : a + d < K.length) (hN : good B H N) {ts : List Value} (kp : KTr v a (a + d + 1) a (a + 1) ts) {F : Nat} (hF : 100 + d + 1 ≤ F) :
    Ok (exec B { f := GrT8 B S } F (LC.loop lbTr) ⟨ts, H, N⟩) (fun x s => x = .exit 0 ∧ s.H = H ∧ s.N = N ∧ ∃ t, a ≤ t ∧ t ≤ a + d ∧ KTr v a (a + d + 1) t (a + d + 1) s.t) := by
  obtain ⟨hB, hR, hI⟩ := gX hN
  have hG : ∃ H N, good B H N := ⟨H, N, hN⟩
  refine loop_rule (n0 := 100) (fun q s => ∃ ts, ∃ j t : Nat, s = ⟨ts, H, N⟩ ∧ KTr v a (a + d + 1) t (a + j + 1) ts ∧ a ≤ t ∧ t ≤ a + d ∧ j ≤ d ∧ q = d - j) _ ?_ _ _ ⟨ts, 0, a, rfl, kp, by omega, by omega, by omega, rfl⟩ _ hF
  clear kp hF F ts
  rintro z q s ⟨ts, j, t, rfl, kp, h1, h2, hj, rfl⟩
  have hc1 : ((a + j + 1 + 1 : Nat) : Int) = ((a + j + 1 : Nat) : Int) + 1 := by omega
  by_cases hin : j < d
  case neg =>
    obtain rfl : j = d := by omega
    simp (disch := omega) only [J91, hB, hR, hI, kp.l, kp.t0, kp.t1, kp.t2, kp.t8, kp.t9, Int.lt_irrefl, all1, ress, res1, retV, Value.cells, newsV_s, seval, eV]
    refine ok_some (.inr ⟨by simp, rfl, rfl, rfl, t, h1, h2, ⟨?_, ?_, ?_, ?_, ?_, ?_⟩⟩)
    all_goals simp (disch := omega) only [kp.l, kp.t0, kp.t1, kp.t2, kp.t8, kp.t9, Int.cast_ofNat_Int, decide_true, ev2, seval, ev5]
  obtain ⟨bv, ov, cv, rfl, _, rv⟩ := hv.at (by omega)
  have r1 : rdO H B bv (ov + (a + j + 1)) 1 (rdB B bv (ov + (a + j + 1)) 1) = some [.int .u64 (K.getD (a + j + 1) 0)] := by
    have := rv H Fr.refl (a + j + 1) 0 1 0 (by omega) (by omega)
    rw [Nat.mul_one, Nat.add_zero] at this
    exact this.trans rfl
  have r2 : rdO H B bv (ov + t) 1 (rdB B bv (ov + t) 1) = some [.int .u64 (K.getD t 0)] := by
    have := rv H Fr.refl t 0 1 0 (by omega) (by omega)
    rw [Nat.mul_one, Nat.add_zero] at this
    exact this.trans rfl
  have eb := xBefore hG (K.getD (a + j + 1) 0) (K.getD t 0)
  have c1 : ((a + j + 1 : Nat) : Int) < ((a + d + 1 : Nat) : Int) := by omega
  have c2 : (0 : Int) ≤ ((a + j + 1 : Nat) : Int) := by omega
  have c3 : (0 : Int) ≤ (t : Int) := by omega
  have c4 : a + j + 1 < K.length := by omega
  have c5 : t < K.length := by omega
  by_cases hgt : miI (K.getD (a + j + 1) 0) > miI (K.getD t 0)
  · rw [decide_eq_true hgt] at eb
    simp (disch := omega) only [J91, hB, hR, hI, kp.l, kp.t0, kp.t1, kp.t2, kp.t8, kp.t9, c1, c2, c3, c4, c5, r1, r2, eb, Nat.mul_one, all1, ress, res1, retV, Value.cells, newsV_s, seval, eV]
    refine ok_some (.inl ⟨rfl, d - (j + 1), by omega, _, j + 1, a + j + 1, rfl, ⟨?_, ?_, ?_, ?_, ?_, ?_⟩, by omega, by omega, by omega, rfl⟩)
    all_goals simp (disch := omega) only [kp.l, kp.t0, kp.t1, kp.t2, kp.t8, kp.t9, hc1, show a + (j + 1) + 1 = a + j + 1 + 1 by omega, Int.cast_ofNat_Int, decide_true, ev2, seval, ev5]
  · rw [decide_eq_false hgt] at eb
    simp (disch := omega) only [J91, hB, hR, hI, kp.l, kp.t0, kp.t1, kp.t2, kp.t8, kp.t9, c1, c2, c3, c4, c5, r1, r2, eb, Nat.mul_one, all1, ress, res1, retV, Value.cells, newsV_s, seval, eV]
    refine ok_some (.inl ⟨rfl, d - (j + 1), by omega, _, j + 1, t, rfl, ⟨?_, ?_, ?_, ?_, ?_, ?_⟩, h1, h2, by omega, rfl⟩)
    all_goals simp (disch := omega) only [kp.l, kp.t0, kp.t1, kp.t2, kp.t8, kp.t9, hc1, show a + (j + 1) + 1 = a + j + 1 + 1 by omega, Int.cast_ofNat_Int, decide_true, ev2, seval, ev5]
theorem J92 : Said (an @WrT8_succ <| an @LrT8.eq_1 <| an @GrT8_rBf <| an @VrBf_eq <| an @GrT8_rT8 <| trivial) := said_ok _
set_option maxHeartbeats 16000000 in
theorem xtree8 {B : OH} {v : Value} {K : List Int} (hKl : K.length ≤ 256) : ∀ (d n a : Nat) {H : HL} {N : St}, d < n → a + d ≤ K.length → SlR w1 1 B H v K → good B H N →
    ∃ tp, ∃ L : List Q2, ∃ v' H' N', WrT8 B n [v, .int .i64 (a : Int), .int .i64 ((a + d : Nat) : Int)] H N = some (.ret (.tuple #[.int .i64 tp, v']), H', N') ∧ good B H' N' ∧ Fr H H' ∧ SlM q2 2 B H H' v' L ∧ L.length = d := by
  intro d
  induction d using Nat.strongRecOn with
  | ind d ih =>
    intro n a H N hn ha hv hN
    obtain ⟨hB, hR, hI⟩ := gX hN
    obtain ⟨n, rfl⟩ : ∃ m, n = m + 1 := ⟨n - 1, by omega⟩
    cases d with
    | zero =>
      simp (disch := omega) only [J92, hB, hR, hI, Int.le_refl, show (a : Int) ≥ (a : Int) from Int.le_refl _, all1, ress, res1, retV, Value.cells, newsV_s, seval, eV]
      exact ⟨_, [], _, _, _, rfl, hN, Fr.refl, .inl ⟨rfl, rfl⟩, rfl⟩
    | succ e =>
      have c1 : ¬ (a : Int) ≥ ((a + (e + 1) : Nat) : Int) := by omega
      have c2 : ((a + 1 : Nat) : Int) = (a : Int) + 1 := by omega
      simp (disch := omega) only [J92, hB, hR, hI, c1, all1, ress, res1, retV, Value.cells, newsV_s, seval, eV]
      generalize hX : exec B _ _ (LC.loop _) _ = o
      obtain ⟨x, ⟨ts1, H1, N1⟩, ho, rfl, hHH, hNN, t, h1, h2, kp⟩ := (show Ok o _ by rw [← hX]; exact loopTr (S := WrT8 B n) (a := a) (d := e) hv hKl (by omega) hN ⟨rfl, rfl, rfl, rfl, rfl, by rw [c2]; rfl⟩ (by omega))
      subst ho
      simp only at kp hHH hNN
      obtain rfl : H = H1 := hHH.symm
      obtain rfl : N = N1 := hNN.symm
      obtain ⟨tl, LL, v2, H2, N2, e2, g2, r2, s2, hlA⟩ := ih (t - a) (by omega) n a (by omega) (by omega) hv hN
      rw [show a + (t - a) = t by omega] at e2
      obtain ⟨tr, LR, v3, H3, N3, e3, g3, r3, s3, hlB⟩ := ih (a + e - t) (by omega) n (t + 1) (by omega) (by omega) (hv.mono r2) g2
      rw [show t + 1 + (a + e - t) = a + e + 1 by omega] at e3
      have w2 := (s2.mono (fun y c _ e => r3 y c e)).wh q2_len
      obtain ⟨v4, H4, N4, e4, g4, r4, _, s4, _⟩ := app_many (H0 := H3) (bytes := 16) (v := .slice none 0 0) (L := ([] : List Q2)) q2_len (by omega) g3 Fr.refl (.inl ⟨rfl, rfl⟩) w2 (all1_q2 _) (by simp only [List.length_nil]; omega) (by simp only [List.length_nil]; omega)
      rw [List.nil_append] at s4
      obtain ⟨v5, H5, N5, e5, g5, r5, _, s5, _⟩ := push_specM (bytes := 16) q2_len g4 r4 s4 ⟨tl, tr⟩ rfl (by omega) (by omega)
      obtain ⟨v6, H6, N6, e6, g6, r6, _, s6, _⟩ := app_many (bytes := 16) q2_len (by omega) g5 r5 s5.toM ((s3.wh q2_len).mono r5) (all1_q2 _) (by simp only [List.length_append, List.length_cons, List.length_nil]; omega) (by simp only [List.length_append, List.length_cons, List.length_nil]; omega)
      simp only [q2] at e5
      have c3 : ((t + 1 : Nat) : Int) = (t : Int) + 1 := by omega
      have c4 : ((a + (e + 1) : Nat) : Int) = ((a + e + 1 : Nat) : Int) := by omega
      rw [c3] at e3
      simp (disch := omega) only [J92, hB, hR, hI, kp.l, kp.t0, kp.t1, kp.t2, kp.t8, kp.t9, e2, c4, e3, e4, newsV_1, e5, e6, good_rdB g4, good_B g4, all1, ress, res1, retV, Value.cells, seval, eV]
      exact ⟨_, _, _, _, _, rfl, g6, (r2.trans r3).trans r6, s6.low (r2.trans r3).dm, by simp only [List.length_append, List.length_cons, List.length_nil]; omega⟩
def lbB8 : LC := (.seq (.seq (.ops [om 11 5,om 12 0,oa 13 (.len false (ot 12)),oa 14 (.bin .lss (ot 11) (ot 13))])
 (.cond (ot 14) .skip
 (.exit 0)))
 (.seq (.block 1 (.seq (.draw [pm 17 0,pm 18 5,oe 19 (.iaddrS 1 (ot 17) (ot 18)),pl 20 19,pm 21 0,pm 22 5,oe 23 (.bin .sub (ot 22) (oi 1)),oe 24 (.iaddrS 1 (ot 21) (ot 23)),pl 25 24,oe 26 (.bin .leq (ot 20) (ot 25))])
 (.cond (ot 26) (.seq (.ops [oa 2 (.mv (oi 0)),oa 3 (.mv (.const (.slice none 0 0))),oa 4 (.mv (oi 1))])
 .ret)
 .skip)))
 (.ops [om 15 5,oa 16 (.bin .add (ot 15) (oi 1)),om 5 16])))
def LrB8 : FnL := ⟨(.seq (.ops [oa 2 (.mv (oi 0)),oa 3 (.mv (.const (.slice none 0 0))),oa 4 (.mv (oi 0))])
 (.seq (.seq (.ops [om 8 0,oa 9 (.len false (ot 8)),oa 10 (.bin .gtr (ot 9) (oi 256))])
 (.cond (ot 10) (.seq (.ops [oa 2 (.mv (oi 0)),oa 3 (.mv (.const (.slice none 0 0))),oa 4 (.mv (oi 4))])
 .ret)
 .skip))
 (.seq (.seq (.ops [oa 5 (.mv (oi 1))])
 (.block 0 (.loop lbB8)))
 (.seq (.ops [om 28 0,om 29 0,oa 30 (.len false (ot 29)),oa 31 (.call (.func 99) [(ot 28), (oi 0), (ot 30)]),om 27 31,oa 32 (.ext (ot 27) 0),oa 33 (.ext (ot 27) 1),om 6 32,om 7 33])
 (.seq (.ops [om 34 6,om 35 7,om 2 34,om 3 35,oa 4 (.mv (oi 0))])
 .ret))))),
 36, [.tmp 2, .tmp 3, .tmp 4]⟩
theorem lowrB8 : lowerFn Tryd.prog Tryd.f85 = some LrB8 := by kernel_rfl
noncomputable def GrB8 (B : OH) : Nat → Cs
  | 99 => VrT8 B
  | _ => fun _ _ _ => none
theorem GrB8_rT8 {B : OH} : GrB8 B 99 = VrT8 B := rfl
theorem sGrB8 {w0 : World} {B : OH} : SoundG Tryd.prog w0 B { f := GrB8 B } := .of fun k => by
  unfold GrB8
  split
  · exact .inr ⟨enrT8, sVrT8⟩
  · exact .inl fun _ _ _ => rfl
theorem enrB8 : Enter Tryd.prog 85 := .of Tryd.func85 (by kernel_rfl) (by kernel_rfl)
noncomputable def TrB8 (B : OH) : Cs := callF B { f := GrB8 B } 1000000 LrB8
theorem sTrB8 {w0 : World} {B : OH} : SoundC Tryd.prog w0 B 85 (TrB8 B) := callF_sound mixedOrders sGrB8 1000000 Tryd.func85 lowrB8
noncomputable def VrB8 (B : OH) : Cs := TrB8 B
theorem sVrB8 {w0 : World} {B : OH} : SoundC Tryd.prog w0 B 85 (VrB8 B) := sTrB8
structure KB8 (v : Value) (i : Nat) (ts : List Value) : Prop where
  l : ts.length = 36
  t0 : gt ts 0 = v
  t5 : gt ts 5 = .int .i64 (i : Int)
theorem J93 : Said (an @TrB8.eq_1 <| an @LrB8.eq_1 <| an @GrB8_rT8 <| an @lbB8.eq_1 <| trivial) := said_ok _
set_option maxHeartbeats 4000000 in
theorem loopB8 {B : OH} {H : HL} {N : St} {v : Value} {K : List Int} (hv : SlR w1 1 B H v K) (hKl : K.length ≤ 256) (ha : Asc K) (hN : good B H N) {ts : List Value} (kp : KB8 v 1 ts) {F : Nat} (hF : 1000 ≤ F) :
    Ok (exec B { f := GrB8 B } F (LC.loop lbB8) ⟨ts, H, N⟩) (fun x s => x = .exit 0 ∧ s.H = H ∧ s.N = N ∧ ∃ i, KB8 v i s.t) := by
  obtain ⟨hB, hR, hI⟩ := gX hN
  have hG : ∃ H N, good B H N := ⟨H, N, hN⟩
  have hlv := hv.len
  refine loop_rule (n0 := 100) (fun q s => ∃ ts, ∃ i : Nat, s = ⟨ts, H, N⟩ ∧ KB8 v (i + 1) ts ∧ i ≤ K.length ∧ q = K.length - i) _ ?_ (K.length) _ ⟨_, 0, rfl, kp, by omega, rfl⟩ _ (by omega)
  clear kp hF F ts
  rintro z q s ⟨ts, j, rfl, kp, hj, rfl⟩
  have hc1 : ((j + 1 + 1 : Nat) : Int) = ((j + 1 : Nat) : Int) + 1 := by omega
  by_cases hin : j + 1 < K.length
  case neg =>
    have hn' : ¬ ((j + 1 : Nat) : Int) < (K.length : Int) := by omega
    simp (disch := omega) only [J93, hB, hR, hI, kp.l, kp.t0, kp.t5, hlv, hn', all1, ress, res1, retV, Value.cells, newsV_s, seval, eV]
    refine ok_some (.inr ⟨by simp, rfl, rfl, rfl, j + 1, ⟨?_, ?_, ?_⟩⟩)
    all_goals simp (disch := omega) only [kp.l, kp.t0, kp.t5, Int.cast_ofNat_Int, decide_true, ev2, seval, ev5]
  have hin' : ((j + 1 : Nat) : Int) < (K.length : Int) := by omega
  have i0 : (0 : Int) ≤ ((j + 1 : Nat) : Int) := by omega
  have j0 : (0 : Int) ≤ (j : Int) := by omega
  have hj' : j < K.length := by omega
  have hj1 : IntKind.i64.wrap (((j + 1 : Nat) : Int) - 1) = (j : Int) := by rw [IntWalk.i64_in _ (by omega)]; omega
  obtain ⟨bv, ov, cv, rfl, _, rv⟩ := hv.at (by omega)
  have r1 : rdO H B bv (ov + (j + 1)) 1 (rdB B bv (ov + (j + 1)) 1) = some [.int .u64 (K.getD (j + 1) 0)] := by
    have := rv H Fr.refl (j + 1) 0 1 0 (by omega) (by omega)
    rw [Nat.mul_one, Nat.add_zero] at this
    exact this.trans rfl
  have r2 : rdO H B bv (ov + j) 1 (rdB B bv (ov + j) 1) = some [.int .u64 (K.getD j 0)] := by
    have := rv H Fr.refl j 0 1 0 (by omega) (by omega)
    rw [Nat.mul_one, Nat.add_zero] at this
    exact this.trans rfl
  have hle : ¬ K.getD (j + 1) 0 ≤ K.getD j 0 := by have := ha j hin; omega
  simp (disch := omega) only [J93, hB, hR, hI, kp.l, kp.t0, kp.t5, hlv, hin', hin, i0, j0, hj', hj1, r1, r2, hle, Nat.mul_one, all1, ress, res1, retV, Value.cells, newsV_s, seval, eV]
  refine ok_some (.inl ⟨rfl, K.length - (j + 1), by omega, _, j + 1, rfl, ⟨?_, ?_, ?_⟩, by omega, rfl⟩)
  all_goals simp (disch := omega) only [kp.l, kp.t0, kp.t5, hc1, Int.cast_ofNat_Int, decide_true, ev2, seval, ev5]
theorem J94 : Said (an @TrB8.eq_1 <| an @LrB8.eq_1 <| an @GrB8_rT8 <| trivial) := said_ok _
set_option maxHeartbeats 4000000 in
theorem xBuild8 {B : OH} {H : HL} {N : St} {v : Value} {K : List Int} (hv : SlR w1 1 B H v K) (hKl : K.length ≤ 256) (ha : Asc K) (hN : good B H N) : ∃ tp, ∃ L : List Q2, ∃ v' H' N', VrB8 B [v] H N = some (.ret (.tuple #[.int .i64 tp, v', .int .i64 0]), H', N') ∧ good B H' N' ∧ Fr H H' ∧ SlM q2 2 B H H' v' L ∧ L.length = K.length := by
  obtain ⟨hB, hR, hI⟩ := gX hN
  have hG : ∃ H N, good B H N := ⟨H, N, hN⟩
  have hlv := hv.len
  have hl' : ¬ (K.length : Int) > 256 := by omega
  obtain ⟨tp, L, v2, H2, N2, e2, g2, f2, s2, hL⟩ := xtree8 hKl K.length 300 0 (by omega) (by omega) hv hN
  rw [Nat.zero_add] at e2
  have e2 : VrT8 B [v, .int .i64 0, .int .i64 (K.length : Int)] H N = _ := e2
  unfold VrB8
  simp (disch := omega) only [J94, hB, hR, hI, hlv, hl', all1, ress, res1, retV, Value.cells, newsV_s, seval, eV]
  generalize hX : exec B _ _ (LC.loop _) _ = o
  obtain ⟨x, ⟨ts1, H1, N1⟩, rfl, rfl, hHH, hNN, i, kp⟩ := (show Ok o _ by rw [← hX]; exact loopB8 hv hKl ha hN ⟨rfl, rfl, rfl⟩ (by omega))
  simp only at kp hHH hNN
  rw [hHH, hNN]
  simp (disch := omega) only [J94, hB, hR, hI, kp.l, kp.t0, kp.t5, hlv, e2, all1, ress, res1, retV, Value.cells, newsV_s, seval, eV]
  exact ⟨_, L, _, _, _, rfl, g2, f2, s2, hL⟩
end Go.Proofs.YtfhiplfagejfoaaDoor
namespace Go.Proofs.YtfhiplfagejfoaaDoor
open Go.Proofs.YtfhiplfagejfoaaDoor.K Go.ChangeShapes Go.WideShapes Go.ChangeAt Go.RowKit 
set_option maxRecDepth 100000
set_option linter.unusedSimpArgs false
set_option linter.unusedVariables false

def lbT1 : LC := (.seq (.seq (.ops [om 12 6,og 13 1 3,ol 14 13,oa 15 (.len false (ot 14)),oa 16 (.bin .lss (ot 12) (ot 15))])
 (.cond (ot 16) .skip
 (.exit 0)))
 (.seq (.block 1 (.ops [om 19 5,og 20 1 3,ol 21 20,om 22 6,oa 23 (.iaddrS 1 (ot 21) (ot 22)),ol 24 23,oa 25 (.call (.func 84) [(ot 24)]),oa 26 (.buildS [(.int .u64 0)] 1 [(0, 1, (ot 25))]),oa 27 (.app [(.int .u64 0)] 8 (ot 19) (ot 26)),om 5 27]))
 (.ops [om 17 6,oa 18 (.bin .add (ot 17) (oi 1)),om 6 18])))
def lbT2 : LC := (.seq (.seq (.ops [om 37 11,og 38 2 2,ol 39 38,oa 40 (.bin .lss (ot 37) (ot 39))])
 (.cond (ot 40) .skip
 (.exit 2)))
 (.seq (.block 3 (.seq (.ops [om 43 11,om 44 5,oa 45 (.len false (ot 44)),oa 46 (.bin .lss (ot 43) (ot 45))])
 (.cond (ot 46) (.draw [pm 47 10,pm 48 5,pm 49 11,oe 50 (.iaddrS 1 (ot 48) (ot 49)),pl 51 50,pg 52 2 3,pl 53 52,pm 54 11,oe 55 (.iaddrS 1 (ot 53) (ot 54)),pl 56 55,pm 57 8,pm 58 11,oe 59 (.iaddrS 2 (ot 57) (ot 58)),oe 60 (.iaddrA 1 2 (ot 59) (oi 0)),pl 61 60,oe 62 (.conv .u64 (ot 61)),pm 63 8,pm 64 11,oe 65 (.iaddrS 2 (ot 63) (ot 64)),oe 66 (.iaddrA 1 2 (ot 65) (oi 1)),pl 67 66,oe 68 (.conv .u64 (ot 67)),oe 69 (.buildS [(.int .u64 0), (.int .u64 0), (.int .u64 0), (.int .u64 0)] 4 [(0, 1, (ot 51)), (1, 1, (ot 56)), (2, 1, (ot 62)), (3, 1, (ot 68))]),oe 70 (.app [(.int .u64 0)] 8 (ot 47) (ot 69)),pm 10 70])
 (.ops [om 71 10,oa 72 (.buildS [(.int .u64 0), (.int .u64 0), (.int .u64 0), (.int .u64 0)] 4 [(0, 1, (ou 0)), (1, 1, (ou 0)), (2, 1, (ou 0)), (3, 1, (ou 0))]),oa 73 (.app [(.int .u64 0)] 8 (ot 71) (ot 72)),om 10 73]))))
 (.ops [om 41 11,oa 42 (.bin .add (ot 41) (oi 1)),om 11 42])))
def LrTr : FnL := ⟨(.seq (.ops [oa 2 (.box (ot 0)),oa 3 (.box (ot 1)),oa 4 (.mv (.const (.slice none 0 0)))])
 (.seq (.ops [oa 5 (.mv (.const (.slice none 0 0)))])
 (.seq (.seq (.ops [oa 6 (.mv (oi 0))])
 (.block 0 (.loop lbT1)))
 (.seq (.ops [om 29 5,oa 30 (.call (.func 85) [(ot 29)]),om 28 30,oa 31 (.ext (ot 28) 0),oa 32 (.ext (ot 28) 1),oa 33 (.ext (ot 28) 2),om 7 31,om 8 32,om 9 33])
 (.seq (.ops [om 34 7,oa 35 (.conv .u64 (ot 34)),oa 36 (.buildS [(.int .u64 0)] 1 [(0, 1, (ot 35))]),om 10 36])
 (.seq (.seq (.ops [oa 11 (.mv (oi 0))])
 (.block 2 (.loop lbT2)))
 (.seq (.ops [om 74 10,om 4 74])
 .ret))))))),
 75, [.tmp 4]⟩
theorem lowrTr : lowerFn Tryd.prog Tryd.f71 = some LrTr := by kernel_rfl
noncomputable def GrTr (B : OH) : Nat → Cs
  | 84 => Vref01Rank B
  | 85 => VrB8 B
  | _ => fun _ _ _ => none
theorem GrTr_ref01Rank {B : OH} : GrTr B 84 = Vref01Rank B := rfl
theorem GrTr_rB8 {B : OH} : GrTr B 85 = VrB8 B := rfl
theorem sGrTr {w0 : World} {B : OH} : SoundG Tryd.prog w0 B { f := GrTr B } := .of fun k => by
  unfold GrTr
  split
  · exact .inr ⟨enref01Rank, sVref01Rank⟩
  · exact .inr ⟨enrB8, sVrB8⟩
  · exact .inl fun _ _ _ => rfl
theorem enrTr : Enter Tryd.prog 71 := .of Tryd.func71 (by kernel_rfl) (by kernel_rfl)
noncomputable def TrTr (B : OH) : Cs := callF B { f := GrTr B } 1000000 LrTr
theorem sTrTr {w0 : World} {B : OH} : SoundC Tryd.prog w0 B 71 (TrTr B) := callF_sound mixedOrders sGrTr 1000000 Tryd.func71 lowrTr
noncomputable def VrTr (B : OH) : Cs := TrTr B
theorem sVrTr {w0 : World} {B : OH} : SoundC Tryd.prog w0 B 71 (VrTr B) := sTrTr
structure KT1 (cb sb : Nat) (vo : Value) (i : Nat) (ts : List Value) : Prop where
  l : ts.length = 75
  t2 : gt ts 2 = .pointer (some ⟨cb, 0, none⟩)
  t3 : gt ts 3 = .pointer (some ⟨sb, 0, none⟩)
  t5 : gt ts 5 = vo
  t6 : gt ts 6 = .int .i64 (i : Int)
structure KT2 (cb sb : Nat) (vr vl vo : Value) (i : Nat) (ts : List Value) : Prop where
  l : ts.length = 75
  t2 : gt ts 2 = .pointer (some ⟨cb, 0, none⟩)
  t3 : gt ts 3 = .pointer (some ⟨sb, 0, none⟩)
  t5 : gt ts 5 = vr
  t8 : gt ts 8 = vl
  t10 : gt ts 10 = vo
  t11 : gt ts 11 = .int .i64 (i : Int)
theorem J95 : Said (an @TrTr.eq_1 <| an @LrTr.eq_1 <| an @GrTr_ref01Rank <| an @Vref01Rank_eq <| an @GrTr_rB8 <| an @lbT1.eq_1 <| trivial) := said_ok _
set_option maxHeartbeats 4000000 in
theorem loopT1 {B : OH} {H0 H : HL} {N : St} {vk vv vt vo : Value} {s : S9} {cb sb : Nat} (hl : s.ks.length ≤ 256) (hu : U64s s.ks) (hs : SlW w1 1 B H0 vk s.ks) (hN : good B H N) (hF0 : Fr H0 H) (bs_ : B sb = none) (ls : lk H0 sb = some (.cells [.int .u64 s.r, vk, vv, vt, .bool s.cl] 5)) (so : SlM w1 1 B H0 H vo []) {ts : List Value} (kp : KT1 cb sb vo 0 ts) {F : Nat} (hF : 1000 ≤ F) :
    Ok (exec B { f := GrTr B } F (LC.loop lbT1) ⟨ts, H, N⟩) (fun x st => x = .exit 0 ∧ good B st.H st.N ∧ Fr H0 st.H ∧ ∃ vo, SlM w1 1 B H0 st.H vo (s.ks.map rkI) ∧ KT1 cb sb vo s.ks.length st.t) := by
  have rs := rN bs_
  have hll := hs.len
  refine loop_rule (n0 := 100) (fun q st => ∃ ts H' N', ∃ vo, ∃ i : Nat, st = ⟨ts, H', N'⟩ ∧ KT1 cb sb vo i ts ∧ good B H' N' ∧ Fr H0 H' ∧ SlM w1 1 B H0 H' vo ((s.ks.take i).map rkI) ∧ i ≤ s.ks.length ∧ q = s.ks.length - i) _ ?_ s.ks.length _ ⟨ts, H, N, vo, 0, rfl, kp, hN, hF0, so, by omega, rfl⟩ _ (by omega)
  clear kp hF F ts so hN hF0 N vo
  rintro z q st ⟨ts, H1, N1, vo, i, rfl, kp, g, fr, so, hi, rfl⟩
  obtain ⟨hB, hR, hI⟩ := gX g
  have hG : ∃ H N, good B H N := ⟨H1, N1, g⟩
  have ls1 := fr _ _ ls
  have hc1 : ((i + 1 : Nat) : Int) = (i : Int) + 1 := by omega
  by_cases hin : i < s.ks.length
  case neg =>
    obtain rfl : i = s.ks.length := by omega
    rw [List.take_length] at so
    simp (disch := omega) only [J95, hB, hR, hI, kp.l, kp.t2, kp.t3, kp.t5, kp.t6, ls1, bs_, rs, hll, Int.lt_irrefl, all1, ress, res1, retV, Value.cells, newsV_s, seval, eV]
    refine ok_some (.inr ⟨by simp, rfl, g, fr, vo, so, ⟨?_, ?_, ?_, ?_, ?_⟩⟩)
    all_goals simp (disch := omega) only [kp.l, kp.t2, kp.t3, kp.t5, kp.t6, Int.cast_ofNat_Int, decide_true, ev2, seval, ev5]
  have hin' : (i : Int) < (s.ks.length : Int) := by omega
  have i0 : (0 : Int) ≤ (i : Int) := by omega
  obtain ⟨bv, ov, cv, rfl, rr⟩ := rd_w w1_len hs (by omega)
  have r1 := rr H1 fr i hin
  simp only [w1] at r1
  have e1 := xRank hG (hu.at i)
  have hlt : ((s.ks.take i).map rkI).length = i := by rw [List.length_map, List.length_take]; omega
  obtain ⟨v4, H4, N4, e4, g4, r4, _, s4, _⟩ := push_specM w1_len (bytes := 8) g fr so (rkI (s.ks.getD i 0)) rfl (by omega) (by omega)
  have hsucc : (s.ks.take (i + 1)).map rkI = (s.ks.take i).map rkI ++ [rkI (s.ks.getD i 0)] := by
    rw [List.take_add_one, some_getD (d := 0) hin, Option.toList_some, List.map_append]; rfl
  rw [← hsucc] at s4
  simp only [w1] at e4
  simp (disch := omega) only [J95, hB, hR, hI, kp.l, kp.t2, kp.t3, kp.t5, kp.t6, ls1, bs_, rs, hin, hin', i0, r1, e1, e4, Nat.mul_one, all1, ress, res1, retV, Value.cells, newsV_s, seval, eV]
  refine ok_some (.inl ⟨rfl, s.ks.length - (i + 1), by omega, _, H4, N4, v4, i + 1, rfl, ⟨?_, ?_, ?_, ?_, ?_⟩, g4, r4, s4.toM, by omega, rfl⟩)
  all_goals simp (disch := omega) only [kp.l, kp.t2, kp.t3, kp.t5, kp.t6, hc1, Int.cast_ofNat_Int, decide_true, ev2, seval, ev5]
theorem J96 : Said (an @TrTr.eq_1 <| an @LrTr.eq_1 <| an @GrTr_ref01Rank <| an @Vref01Rank_eq <| an @GrTr_rB8 <| an @lbT2.eq_1 <| trivial) := said_ok _
set_option maxHeartbeats 4000000 in
theorem loopT2 {B : OH} {H0 H : HL} {N : St} {vk vv vt vr vl vo : Value} {s : S9} {R : List Int} {Lk : List Q2} {L0 : List Int} {kk p cc h cb sb : Nat} (C : Cf kk p cc h) (hru : U64s R) (hvu : U64s s.vs) (hkl : R.length ≤ 256) (hvl : s.vs.length = R.length) (hll : Lk.length = R.length) (hr : SlR w1 1 B H0 vr R) (hlk : SlR q2 2 B H0 vl Lk) (hs : SlW w1 1 B H0 vv s.vs) (hN : good B H N) (hF0 : Fr H0 H) (bc : B cb = none) (bs_ : B sb = none) (lc : lk H0 cb = some (.cells [.int .i64 (kk : Int), .int .i64 (p : Int), .int .i64 (cc : Int)] 3)) (ls : lk H0 sb = some (.cells [.int .u64 s.r, vk, vv, vt, .bool s.cl] 5)) (so : SlM w1 1 B H0 H vo L0) (hL0 : L0.length = 1) (hu0 : U64s L0) {ts : List Value} (kp : KT2 cb sb vr vl vo 0 ts) {F : Nat} (hF : 1000 ≤ F) :
    Ok (exec B { f := GrTr B } F (LC.loop lbT2) ⟨ts, H, N⟩) (fun x st => x = .exit 2 ∧ good B st.H st.N ∧ Fr H0 st.H ∧ ∃ vo, ∃ L : List Int, SlM w1 1 B H0 st.H vo L ∧ L.length = 1 + 4 * cc ∧ U64s L ∧ KT2 cb sb vr vl vo cc st.t) := by
  have rc := rN bc
  have rs := rN bs_
  have hc := C.c
  have hlr := hr.len
  refine loop_rule (n0 := 100) (fun q st => ∃ ts H' N', ∃ vo, ∃ L : List Int, ∃ i : Nat, st = ⟨ts, H', N'⟩ ∧ KT2 cb sb vr vl vo i ts ∧ good B H' N' ∧ Fr H0 H' ∧ SlM w1 1 B H0 H' vo L ∧ L.length = 1 + 4 * i ∧ U64s L ∧ i ≤ cc ∧ q = cc - i) _ ?_ cc _ ⟨ts, H, N, vo, L0, 0, rfl, kp, hN, hF0, so, hL0, hu0, by omega, rfl⟩ _ (by omega)
  clear kp hF F ts so hN hF0 N vo hL0 hu0 L0
  rintro z q st ⟨ts, H1, N1, vo, L, i, rfl, kp, g, fr, so, hLi, hLu, hi, rfl⟩
  obtain ⟨hB, hR, hI⟩ := gX g
  have lc1 := fr _ _ lc
  have ls1 := fr _ _ ls
  have hc1 : ((i + 1 : Nat) : Int) = (i : Int) + 1 := by omega
  by_cases hin : i < cc
  case neg =>
    obtain rfl : i = cc := by omega
    simp (disch := omega) only [J96, hB, hR, hI, kp.l, kp.t2, kp.t3, kp.t5, kp.t8, kp.t10, kp.t11, lc1, bc, rc, Int.lt_irrefl, all1, ress, res1, retV, Value.cells, newsV_s, seval, eV]
    refine ok_some (.inr ⟨by simp, rfl, g, fr, vo, L, so, hLi, hLu, ⟨?_, ?_, ?_, ?_, ?_, ?_, ?_⟩⟩)
    all_goals simp (disch := omega) only [kp.l, kp.t2, kp.t3, kp.t5, kp.t8, kp.t10, kp.t11, Int.cast_ofNat_Int, decide_true, ev2, seval, ev5]
  have hin' : (i : Int) < (cc : Int) := by omega
  have i0 : (0 : Int) ≤ (i : Int) := by omega
  by_cases hir : i < R.length
  · have hir' : (i : Int) < (R.length : Int) := by omega
    have hiv : i < s.vs.length := by omega
    have hil : i < Lk.length := by omega
    obtain ⟨bv, ov, cv, rfl, rr⟩ := rd_w w1_len hs (by omega)
    have r1 := rr H1 fr i hiv
    obtain ⟨bq, oq, cq, rfl, _, rq⟩ := hr.at (by omega)
    have r2 := SlR.read rq w1_len fr 0 hir
    obtain ⟨bl, ol, cl, rfl, _, rl⟩ := hlk.at (by omega)
    have r3 : rdO H1 B bl (ol + i * 2) 1 (rdB B bl (ol + i * 2) 1) = some [.int .i64 (Lk.getD i ⟨0, 0⟩).a] := (rl H1 fr i 0 1 ⟨0, 0⟩ hil (by omega)).trans rfl
    have r4_ : rdO H1 B bl (ol + i * 2 + 1) 1 (rdB B bl (ol + i * 2 + 1) 1) = some [.int .i64 (Lk.getD i ⟨0, 0⟩).b] := (rl H1 fr i 1 1 ⟨0, 0⟩ hil (by omega)).trans rfl
    have u1 := hru.at i
    have u2 := hvu.at i
    have u3 := wrap_u (Lk.getD i ⟨0, 0⟩).a
    have u4 := wrap_u (Lk.getD i ⟨0, 0⟩).b
    simp only [w1, Nat.mul_one] at r1 r2
    generalize (Lk.getD i ⟨0, 0⟩).a = la at *
    generalize (Lk.getD i ⟨0, 0⟩).b = lb_ at *
    generalize R.getD i 0 = ra at *
    generalize s.vs.getD i 0 = rv_ at *
    generalize hla : IntKind.u64.wrap la = wa at *
    generalize hlb : IntKind.u64.wrap lb_ = wb at *
    have gs : good B ((N1.n 0, .cells [.int .u64 ra, .int .u64 rv_, .int .u64 wa, .int .u64 wb] 4) :: H1) (sh N1) := good_new g
    have fs : Fr H1 ((N1.n 0, .cells [.int .u64 ra, .int .u64 rv_, .int .u64 wa, .int .u64 wb] 4) :: H1) := fr_new g Fr.refl 0
    have ss : SlN w1 1 B H1 ((N1.n 0, .cells [.int .u64 ra, .int .u64 rv_, .int .u64 wa, .int .u64 wb] 4) :: H1) (.slice (some ⟨N1.n 0, 0, none⟩) 4 4) [ra, rv_, wa, wb] := slN_new g [ra, rv_, wa, wb] rfl rfl rfl
    obtain ⟨v4, H4, N4, e4, g4, r4, fk, s4, hb4⟩ := app_many (H0 := H0) (bytes := 8) w1_len (by omega) gs (fr.trans fs) (so.mono fun y c _ e => fs y c e) (ss.toM.wh w1_len) (all1_w1 _) (by simp; omega) (by simp; omega)
    simp (disch := omega) only [J96, hB, hR, hI, kp.l, kp.t2, kp.t3, kp.t5, kp.t8, kp.t10, kp.t11, lc1, ls1, bc, rc, bs_, rs, hin', i0, hir, hir', hiv, hil, hlr, r1, r2, r3, r4_, hla, hlb, e4, Nat.mul_one, all1, ress, res1, retV, Value.cells, seval, eV]
    refine ok_some (.inl ⟨rfl, cc - (i + 1), by omega, _, H4, N4, v4, _, i + 1, rfl, ⟨?_, ?_, ?_, ?_, ?_, ?_, ?_⟩, g4, r4, s4, by simp; omega, u_app hLu (fun x hx => by simp only [List.mem_cons, List.not_mem_nil, or_false] at hx; rcases hx with rfl | rfl | rfl | rfl <;> assumption), by omega, rfl⟩)
    all_goals simp (disch := omega) only [kp.l, kp.t2, kp.t3, kp.t5, kp.t8, kp.t10, kp.t11, hc1, Int.cast_ofNat_Int, decide_true, ev2, seval, ev5]
  · have hir' : ¬ (i : Int) < (R.length : Int) := by omega
    have gs : good B ((N1.n 0, .cells [.int .u64 0, .int .u64 0, .int .u64 0, .int .u64 0] 4) :: H1) (sh N1) := good_new g
    have fs : Fr H1 ((N1.n 0, .cells [.int .u64 0, .int .u64 0, .int .u64 0, .int .u64 0] 4) :: H1) := fr_new g Fr.refl 0
    have ss : SlN w1 1 B H1 ((N1.n 0, .cells [.int .u64 0, .int .u64 0, .int .u64 0, .int .u64 0] 4) :: H1) (.slice (some ⟨N1.n 0, 0, none⟩) 4 4) [0, 0, 0, 0] := slN_new g [0, 0, 0, 0] rfl rfl rfl
    obtain ⟨v4, H4, N4, e4, g4, r4, fk, s4, hb4⟩ := app_many (H0 := H0) (bytes := 8) w1_len (by omega) gs (fr.trans fs) (so.mono fun y c _ e => fs y c e) (ss.toM.wh w1_len) (all1_w1 _) (by simp; omega) (by simp; omega)
    simp (disch := omega) only [J96, hB, hR, hI, kp.l, kp.t2, kp.t3, kp.t5, kp.t8, kp.t10, kp.t11, lc1, bc, rc, hin', hir', hlr, e4, all1, ress, res1, retV, Value.cells, seval, eV]
    refine ok_some (.inl ⟨rfl, cc - (i + 1), by omega, _, H4, N4, v4, _, i + 1, rfl, ⟨?_, ?_, ?_, ?_, ?_, ?_, ?_⟩, g4, r4, s4, by simp; omega, u_app hLu (rep_u 4), by omega, rfl⟩)
    all_goals simp (disch := omega) only [kp.l, kp.t2, kp.t3, kp.t5, kp.t8, kp.t10, kp.t11, hc1, Int.cast_ofNat_Int, decide_true, ev2, seval, ev5]
theorem J97 : Said (an @TrTr.eq_1 <| an @LrTr.eq_1 <| an @GrTr_ref01Rank <| an @Vref01Rank_eq <| an @GrTr_rB8 <| trivial) := said_ok _
set_option maxHeartbeats 8000000 in
theorem xtree10 {B : OH} {H : HL} {N : St} {vk vv vt : Value} {s : S9} {kk p cc h : Nat} (C : Cf kk p cc h) (h4 : kk = 4) (R : Rt kk cc s) (hs : StW B H vk vv vt s) (hN : good B H N) : ∃ v' L H' N', VrTr B [.agg #[.int .i64 (kk : Int), .int .i64 (p : Int), .int .i64 (cc : Int)], .agg #[.int .u64 s.r, vk, vv, vt, .bool s.cl]] H N = some (.ret v', H', N') ∧ good B H' N' ∧ Fr H H' ∧ SlM w1 1 B H H' v' L ∧ L.length = 1 + 4 * cc ∧ U64s L := by
  obtain ⟨hB, hR, hI⟩ := gX hN
  have hG : ∃ H N, good B H N := ⟨H, N, hN⟩
  have hc := C.c
  have hkl := R.kl
  have hvl := R.vl (by omega)
  have hru : U64s (s.ks.map rkI) := fun x hx => by
    obtain ⟨y, hy, rfl⟩ := List.mem_map.1 hx
    exact rk_u (R.ku y hy)
  have hml : (s.ks.map rkI).length = s.ks.length := List.length_map _
  have ha : Asc (s.ks.map rkI) := fun j hj => by
    rw [hml] at hj
    have h1 := R.so j hj
    have gd : ∀ i, i < s.ks.length → (s.ks.map rkI).getD i 0 = rkI (s.ks.getD i 0) := fun i hi => by
      rw [List.getD_eq_getElem?_getD, List.getElem?_map, some_getD (d := 0) hi]; rfl
    rw [gd j (by omega), gd (j + 1) hj]
    unfold kyI at h1
    rw [if_pos (by omega), if_pos (by omega)] at h1
    exact h1
  obtain ⟨H2, hH2⟩ : ∃ H2, H2 = (N.n 1, (.cells [.int .u64 s.r, vk, vv, vt, .bool s.cl] 5 : KB)) :: (N.n 0, (.cells [.int .i64 (kk : Int), .int .i64 (p : Int), .int .i64 (cc : Int)] 3 : KB)) :: H := ⟨_, rfl⟩
  have g2 : good B H2 (sh (sh N)) := by rw [hH2]; exact good_new (good_new hN)
  have f2 : Fr H H2 := by rw [hH2]; exact fr_set (fr_set Fr.refl (lk_N hN _)) (lk_N hN _)
  have q0 : lk H2 (N.n 0) = some (.cells [.int .i64 (kk : Int), .int .i64 (p : Int), .int .i64 (cc : Int)] 3) := by rw [hH2]; simp only [lk_cons, hI]; rfl
  have q1 : lk H2 (N.n 1) = some (.cells [.int .u64 s.r, vk, vv, vt, .bool s.cl] 5) := by rw [hH2]; simp only [lk_cons, hI]; rfl
  unfold VrTr
  simp (disch := omega) only [J97, hB, hR, hI, all1, ress, res1, retV, Value.cells, newsV_s, seval, eV]
  rw [← hH2]
  generalize hX : exec B _ _ (LC.loop _) _ = o
  obtain ⟨x, ⟨ts3, H3, N3⟩, rfl, rfl, g3, fr3, vo, so, kp⟩ := (show Ok o _ by rw [← hX]; exact loopT1 (cb := N.n 0) (sb := N.n 1) (s := s) (by omega) R.ku (hs.k.mono f2) g2 Fr.refl (hB 1) q1 (.inl ⟨rfl, rfl⟩) ⟨rfl, rfl, rfl, rfl, rfl⟩ (by omega))
  simp only at kp g3 fr3 so
  clear hX
  obtain ⟨tp, Lk, v4, H4, N4, e4, g4, f4, s4, hLk⟩ := xBuild8 (so.rd w1_len) (by omega) ha g3
  have wt := wrap_u tp
  generalize hwt : IntKind.u64.wrap tp = wtp at wt
  have q03 := f4 _ _ (fr3 _ _ q0)
  have q13 := f4 _ _ (fr3 _ _ q1)
  have hB4 := good_B g4
  have hR4 := good_rdB g4
  obtain ⟨H5, hH5⟩ : ∃ H5, H5 = (N4.n 0, (.cells [.int .u64 wtp] 1 : KB)) :: H4 := ⟨_, rfl⟩
  have g5 : good B H5 (sh N4) := by rw [hH5]; exact good_new g4
  have f5 : Fr H4 H5 := by rw [hH5]; exact fr_new g4 Fr.refl 0
  have s5 : SlN w1 1 B H4 H5 (.slice (some ⟨N4.n 0, 0, none⟩) 1 1) [wtp] := by rw [hH5]; exact slN_new g4 [wtp] rfl rfl rfl
  simp (disch := omega) only [J97, hB, hR, hI, kp.l, kp.t2, kp.t3, kp.t5, kp.t6, e4, hwt, hB4, hR4, all1, ress, res1, retV, Value.cells, newsV_s, seval, eV]
  rw [← hH5]
  generalize hX : exec B _ _ (LC.loop _) _ = o
  have main : ∀ ts', KT2 (N.n 0) (N.n 1) vo v4 (.slice (some ⟨N4.n 0, 0, none⟩) 1 1) 0 ts' → ∀ F, 1000 ≤ F → Ok (exec B { f := GrTr B } F (LC.loop lbT2) ⟨ts', H5, sh N4⟩) (fun x st => x = .exit 2 ∧ good B st.H st.N ∧ Fr H4 st.H ∧ ∃ vo', ∃ L : List Int, SlM w1 1 B H4 st.H vo' L ∧ L.length = 1 + 4 * cc ∧ U64s L ∧ KT2 (N.n 0) (N.n 1) vo v4 vo' cc st.t) := fun ts' kp' F hF =>
    loopT2 (H0 := H4) (s := s) C hru R.vu (by omega) (by omega) (by omega) ((so.rd w1_len).mono f4) (s4.rd q2_len) (hs.v.mono (f2.trans (fr3.trans f4))) g5 f5 (hB 0) (hB 1) q03 q13 s5.toM rfl (u_one wt) kp' hF
  obtain ⟨x, ⟨ts6, H6, N6⟩, rfl, rfl, g6, f6, vo6, L6, s6, hL6, hu6, kp6⟩ := (show Ok o _ by rw [← hX]; exact main _ (by constructor <;> simp (disch := omega) only [kp.l, kp.t2, kp.t3, kp.t5, kp.t6, Int.cast_ofNat_Int, decide_true, ev2, seval, ev5]) _ (by omega))
  simp only at kp6 g6 f6 s6
  clear kp
  have kp := kp6
  have fH := f2.trans (fr3.trans f4)
  simp (disch := omega) only [J97, hB, hR, hI, kp.l, kp.t2, kp.t3, kp.t5, kp.t8, kp.t10, kp.t11, all1, ress, res1, retV, Value.cells, newsV_s, seval, eV]
  exact ⟨_, L6, _, _, rfl, g6, fH.trans f6, s6.low fH.dm, hL6, hu6⟩
end Go.Proofs.YtfhiplfagejfoaaDoor
namespace Go.Proofs.YtfhiplfagejfoaaDoor
open Go.Proofs.YtfhiplfagejfoaaDoor.K Go.ChangeShapes Go.WideShapes Go.ChangeAt Go.RowKit 
set_option maxRecDepth 100000
set_option linter.unusedSimpArgs false
set_option linter.unusedVariables false

structure U2 where
  a : Int
  b : Int
def p2 (x : U2) : List Value := [.int .u64 x.a, .int .u64 x.b]
def p20 : U2 := ⟨0, 0⟩
theorem p2_len (x : U2) : (p2 x).length = 2 := rfl
theorem all1_p2 (L : List U2) : all1 (fl p2 L) = true := by
  induction L with
  | nil => rfl
  | cons a L ih => exact ih
def lbAi : LC := (.seq (.seq (.draw [pm 14 5,oe 15 (.bin .gtr (ot 14) (oi 0)),pm 16 15, ⟨ob 17 (.mv (ot 0)) 16 true,[]⟩,⟨ob 18 (.mv (ot 4)) 16 true,[]⟩,⟨ob 19 (.iaddrS 2 (ot 17) (ot 18)) 16 true,[]⟩,⟨ob 20 (.iaddrA 1 2 (ot 19) (oi 0)) 16 true,[]⟩,⟨ob 21 (.load false 1 (ot 20)) 16 true,[]⟩,⟨ob 22 (.mv (ot 3)) 16 true,[]⟩,⟨ob 23 (.mv (ot 5)) 16 true,[]⟩,⟨ob 24 (.bin .sub (ot 23) (oi 1)) 16 true,[]⟩,⟨ob 25 (.iaddrS 2 (ot 22) (ot 24)) 16 true,[]⟩,⟨ob 26 (.iaddrA 1 2 (ot 25) (oi 0)) 16 true,[]⟩,⟨ob 27 (.load false 1 (ot 26)) 16 true,[]⟩,⟨ob 28 (.call (.func 111) [(ot 21), (ot 27)]) 16 true,[]⟩,oe 29 (.pick (ot 16) (ot 28) (.const (.bool false)))])
 (.cond (ot 29) .skip
 (.exit 2)))
 (.block 3 (.ops [om 30 5,oa 31 (.bin .sub (ot 30) (oi 1)),om 5 31])))
def lbAh : LC := (.seq (.seq (.ops [om 6 4,om 7 0,oa 8 (.len false (ot 7)),oa 9 (.bin .lss (ot 6) (ot 8))])
 (.cond (ot 9) .skip
 (.exit 0)))
 (.seq (.block 1 (.seq (.ops [om 12 3,oa 13 (.len false (ot 12)),om 5 13])
 (.seq (.block 2 (.loop lbAi))
 (.seq (.draw [pm 32 3,pm 33 5,oe 34 (.slc 2 (ot 32) none (some (ot 33)) none),pm 36 0,pm 37 4,oe 38 (.iaddrS 2 (ot 36) (ot 37)),oe 39 (.load true 2 (ot 38)),pm 42 3,pm 43 5,oe 44 (.slc 2 (ot 42) (some (ot 43)) none none)])
 (.fork (.draw [⟨oa 35 (.app [(.int .u64 0), (.int .u64 0)] 16 (.const (.slice none 0 0)) (ot 34)), [oa 39 (.load true 2 (ot 38))]⟩,oe 40 (.buildS [(.int .u64 0), (.int .u64 0)] 1 [(0, 2, (ot 39))]),oe 41 (.app [(.int .u64 0), (.int .u64 0)] 16 (ot 35) (ot 40)),oe 45 (.app [(.int .u64 0), (.int .u64 0)] 16 (ot 41) (ot 44)),pm 3 45])
 (.draw [oe 40 (.buildS [(.int .u64 0), (.int .u64 0)] 1 [(0, 2, (ot 39))]), ⟨oa 35 (.app [(.int .u64 0), (.int .u64 0)] 16 (.const (.slice none 0 0)) (ot 34)), [oa 39 (.load true 2 (ot 38))]⟩,oe 41 (.app [(.int .u64 0), (.int .u64 0)] 16 (ot 35) (ot 40)),oe 45 (.app [(.int .u64 0), (.int .u64 0)] 16 (ot 41) (ot 44)),pm 3 45]))))))
 (.ops [om 10 4,oa 11 (.bin .add (ot 10) (oi 1)),om 4 11])))
def LrAh : FnL := ⟨(.seq (.ops [oa 2 (.mv (.const (.slice none 0 0)))])
 (.seq (.ops [oa 3 (.mv (.const (.slice none 0 0)))])
 (.seq (.seq (.ops [oa 4 (.mv (oi 0))])
 (.block 0 (.loop lbAh)))
 (.seq (.ops [om 46 3,om 2 46])
 .ret)))),
 47, [.tmp 2]⟩
theorem lowrAh : lowerFn Tryd.prog Tryd.f109 = some LrAh := by kernel_rfl
noncomputable def GrAh (B : OH) : Nat → Cs
  | 111 => VrBf B
  | _ => fun _ _ _ => none
theorem GrAh_rBf {B : OH} : GrAh B 111 = VrBf B := rfl
theorem sGrAh {w0 : World} {B : OH} : SoundG Tryd.prog w0 B { f := GrAh B } := .of fun k => by
  unfold GrAh
  split
  · exact .inr ⟨enrBf, sVrBf⟩
  · exact .inl fun _ _ _ => rfl
theorem enrAh : Enter Tryd.prog 109 := .of Tryd.func109 (by kernel_rfl) (by kernel_rfl)
noncomputable def TrAh (B : OH) : Cs := callF B { f := GrAh B } 1000000 LrAh
theorem sTrAh {w0 : World} {B : OH} : SoundC Tryd.prog w0 B 109 (TrAh B) := callF_sound mixedOrders sGrAh 1000000 Tryd.func109 lowrAh
noncomputable def VrAh (B : OH) : Cs := TrAh B
theorem sVrAh {w0 : World} {B : OH} : SoundC Tryd.prog w0 B 109 (VrAh B) := sTrAh
structure KAh (vl vo : Value) (i : Nat) (ts : List Value) : Prop where
  l : ts.length = 47
  t0 : gt ts 0 = vl
  t3 : gt ts 3 = vo
  t4 : gt ts 4 = .int .i64 (i : Int)
structure KAi (vl vo : Value) (i j : Nat) (ts : List Value) : Prop where
  l : ts.length = 47
  t0 : gt ts 0 = vl
  t3 : gt ts 3 = vo
  t4 : gt ts 4 = .int .i64 (i : Int)
  t5 : gt ts 5 = .int .i64 (j : Int)
theorem J98 : Said (an @TrAh.eq_1 <| an @LrAh.eq_1 <| an @GrAh_rBf <| an @VrBf_eq <| an @lbAi.eq_1 <| trivial) := said_ok _
set_option maxHeartbeats 4000000 in
theorem loopAi {B : OH} {H : HL} {N : St} {vl vo : Value} {L M : List U2} {i : Nat} (hl : SlR p2 2 B H vl L) (ho : SlR p2 2 B H vo M) (hi : i < L.length) (hM : M.length ≤ 5000) (hN : good B H N) {ts : List Value} (kp : KAi vl vo i M.length ts) {F : Nat} (hF : 100 + M.length + 1 ≤ F) :
    Ok (exec B { f := GrAh B } F (LC.loop lbAi) ⟨ts, H, N⟩) (fun x st => x = .exit 2 ∧ st.H = H ∧ st.N = N ∧ ∃ j, j ≤ M.length ∧ KAi vl vo i j st.t) := by
  obtain ⟨hB, hR, hI⟩ := gX hN
  have hG : ∃ H N, good B H N := ⟨H, N, hN⟩
  refine loop_rule (n0 := 100) (fun q st => ∃ ts, ∃ j : Nat, st = ⟨ts, H, N⟩ ∧ KAi vl vo i j ts ∧ j ≤ M.length ∧ q = j) _ ?_ M.length _ ⟨ts, M.length, rfl, kp, Nat.le_refl _, rfl⟩ _ hF
  clear kp hF F ts
  rintro z j st ⟨ts, _, rfl, kp, hj, rfl⟩
  by_cases h0 : j = 0
  · subst h0
    simp (disch := omega) only [J98, hB, hR, hI, kp.l, kp.t0, kp.t3, kp.t4, kp.t5, Int.lt_irrefl, show ¬ ((0 : Nat) : Int) > 0 by omega, all1, ress, res1, retV, Value.cells, newsV_s, seval, eV]
    refine ok_some (.inr ⟨by simp, rfl, rfl, rfl, 0, hj, ⟨?_, ?_, ?_, ?_, ?_⟩⟩)
    all_goals simp (disch := omega) only [kp.l, kp.t0, kp.t3, kp.t4, kp.t5, Int.cast_ofNat_Int, decide_true, ev2, seval, ev5]
  obtain ⟨j, rfl⟩ : ∃ j', j = j' + 1 := ⟨j - 1, by omega⟩
  have hjp : ((j + 1 : Nat) : Int) > 0 := by omega
  have hjw : IntKind.i64.wrap (((j + 1 : Nat) : Int) - 1) = (j : Int) := by rw [IntWalk.i64_in _ (by omega)]; omega
  have i0 : (0 : Int) ≤ (i : Int) := by omega
  have j0 : (0 : Int) ≤ (j : Int) := by omega
  have hjl : j < M.length := by omega
  obtain ⟨bl, ol, cl, rfl, _, rl⟩ := hl.at (by omega)
  obtain ⟨bo, oo, co, rfl, _, ro⟩ := ho.at (by omega)
  have r1 : rdO H B bl (ol + i * 2) 1 (rdB B bl (ol + i * 2) 1) = some [.int .u64 (L.getD i p20).a] := (rl H Fr.refl i 0 1 p20 hi (by omega)).trans rfl
  have r2 : rdO H B bo (oo + j * 2) 1 (rdB B bo (oo + j * 2) 1) = some [.int .u64 (M.getD j p20).a] := (ro H Fr.refl j 0 1 p20 hjl (by omega)).trans rfl
  have eb := xBefore hG (L.getD i p20).a (M.getD j p20).a
  by_cases hgt : miI (L.getD i p20).a > miI (M.getD j p20).a
  · rw [decide_eq_true hgt] at eb
    simp (disch := omega) only [J98, hB, hR, hI, kp.l, kp.t0, kp.t3, kp.t4, kp.t5, hjp, hjw, i0, j0, hi, hjl, r1, r2, eb, all1, ress, res1, retV, Value.cells, newsV_s, seval, eV]
    refine ok_some (.inl ⟨rfl, j, by omega, _, j, rfl, ⟨?_, ?_, ?_, ?_, ?_⟩, by omega, rfl⟩)
    all_goals simp (disch := omega) only [kp.l, kp.t0, kp.t3, kp.t4, kp.t5, hjw, Int.cast_ofNat_Int, decide_true, ev2, seval, ev5]
  · rw [decide_eq_false hgt] at eb
    simp (disch := omega) only [J98, hB, hR, hI, kp.l, kp.t0, kp.t3, kp.t4, kp.t5, hjp, hjw, i0, j0, hi, hjl, r1, r2, eb, all1, ress, res1, retV, Value.cells, newsV_s, seval, eV]
    refine ok_some (.inr ⟨by simp, rfl, rfl, rfl, j + 1, hj, ⟨?_, ?_, ?_, ?_, ?_⟩⟩)
    all_goals simp (disch := omega) only [kp.l, kp.t0, kp.t3, kp.t4, kp.t5, Int.cast_ofNat_Int, decide_true, ev2, seval, ev5]
theorem J99 : Said (an @TrAh.eq_1 <| an @LrAh.eq_1 <| an @GrAh_rBf <| an @VrBf_eq <| an @lbAh.eq_1 <| trivial) := said_ok _
set_option maxHeartbeats 8000000 in
theorem loopAh {B : OH} {H0 H : HL} {N : St} {vl vo : Value} {L : List U2} (hl : SlR p2 2 B H0 vl L) (hL : L.length ≤ 4000) (hN : good B H N) (hF0 : Fr H0 H) (so : SlM p2 2 B H0 H vo []) {ts : List Value} (kp : KAh vl vo 0 ts) {F : Nat} (hF : 20000 ≤ F) :
    Ok (exec B { f := GrAh B } F (LC.loop lbAh) ⟨ts, H, N⟩) (fun x st => x = .exit 0 ∧ good B st.H st.N ∧ Fr H0 st.H ∧ ∃ vo, ∃ M : List U2, SlM p2 2 B H0 st.H vo M ∧ M.length = L.length ∧ (∀ x ∈ M, x ∈ L) ∧ KAh vl vo L.length st.t) := by
  have hll := hl.len
  refine loop_rule (n0 := 10000) (fun q st => ∃ ts H' N', ∃ vo, ∃ M : List U2, ∃ i : Nat, st = ⟨ts, H', N'⟩ ∧ KAh vl vo i ts ∧ good B H' N' ∧ Fr H0 H' ∧ SlM p2 2 B H0 H' vo M ∧ M.length = i ∧ (∀ x ∈ M, x ∈ L) ∧ i ≤ L.length ∧ q = L.length - i) _ ?_ L.length _ ⟨ts, H, N, vo, [], 0, rfl, kp, hN, hF0, so, rfl, fun x hx => by simp at hx, by omega, rfl⟩ _ (by omega)
  clear kp hF F ts so hN hF0 N vo
  rintro z q st ⟨ts, H1, N1, vo, M, i, rfl, kp, g, fr, so, hMi, hMm, hi, rfl⟩
  obtain ⟨hB, hR, hI⟩ := gX g
  have hc1 : ((i + 1 : Nat) : Int) = (i : Int) + 1 := by omega
  by_cases hin : i < L.length
  case neg =>
    obtain rfl : i = L.length := by omega
    simp (disch := omega) only [J99, hB, hR, hI, kp.l, kp.t0, kp.t3, kp.t4, hll, Int.lt_irrefl, all1, ress, res1, retV, Value.cells, newsV_s, seval, eV]
    refine ok_some (.inr ⟨by simp, rfl, g, fr, vo, M, so, hMi, hMm, ⟨?_, ?_, ?_, ?_⟩⟩)
    all_goals simp (disch := omega) only [kp.l, kp.t0, kp.t3, kp.t4, Int.cast_ofNat_Int, decide_true, ev2, seval, ev5]
  have hin' : (i : Int) < (L.length : Int) := by omega
  have i0 : (0 : Int) ≤ (i : Int) := by omega
  have hlo := so.len
  have gg : ∀ {H N}, good B H N → good B H (shg N) := fun h => h
  simp (disch := omega) only [J99, hB, hR, hI, kp.l, kp.t0, kp.t3, kp.t4, hll, hlo, hin', all1, ress, res1, retV, Value.cells, newsV_s, seval, eV]
  generalize hX : exec B _ _ (LC.loop _) _ = o
  obtain ⟨x, ⟨ts2, H2, N2⟩, rfl, rfl, hHH, hNN, j, hj, kp2⟩ := (show Ok o _ by rw [← hX]; exact loopAi (i := i) (hl.mono fr) (so.rd p2_len) hin (by omega) g (by constructor <;> simp (disch := omega) only [kp.l, kp.t0, kp.t3, kp.t4, Int.cast_ofNat_Int, decide_true, ev2, seval, ev5]) (by omega))
  simp only at kp2 hHH hNN
  rw [hHH, hNN]
  clear kp
  have kp := kp2
  obtain ⟨bl, ol, cl, rfl, _, rl⟩ := hl.at (by omega)
  have r1 := SlR.read rl p2_len fr p20 hin
  have hmem : L.getD i p20 ∈ L := List.mem_of_getElem? (some_getD (d := p20) hin)
  generalize hxx : L.getD i p20 = xx at *
  obtain ⟨xa, xb⟩ := xx
  simp only [p2] at r1
  have sw := so.wh p2_len
  obtain ⟨u1, c1, w1_⟩ := slc_to p2_len sw (k := j) hj
  obtain ⟨u2, c2, w2_⟩ := slc_from p2_len sw (k := j) hj
  have l1 : (M.take j).length = j := by rw [List.length_take]; omega
  have l2 : (M.drop j).length = M.length - j := List.length_drop
  have hnew : (M.take j ++ [(⟨xa, xb⟩ : U2)] ++ M.drop j).length = i + 1 := by
    rw [List.length_append, List.length_append, l1, l2]; simp; omega
  have hsub : ∀ x ∈ M.take j ++ [(⟨xa, xb⟩ : U2)] ++ M.drop j, x ∈ L := fun x hx => by
    rcases List.mem_append.1 hx with h | h
    · rcases List.mem_append.1 h with h | h
      · exact hMm x (List.mem_of_mem_take h)
      · rw [List.mem_singleton.1 h]; exact hmem
    · exact hMm x (List.mem_of_mem_drop h)
  cases hg : N1.g 0 with
  | true =>
    obtain ⟨v1, H3, N3, e1, g1, f1_, s1⟩ := app_nil (bytes := 16) p2_len (by omega) (gg g) w1_ (all1_p2 _) (by omega) (by omega)
    have gs : good B ((N3.n 0, .cells [.int .u64 xa, .int .u64 xb] 2) :: H3) (sh N3) := good_new g1
    have fs : Fr H3 ((N3.n 0, .cells [.int .u64 xa, .int .u64 xb] 2) :: H3) := fr_new g1 Fr.refl 0
    have ss : SlN p2 2 B H3 ((N3.n 0, .cells [.int .u64 xa, .int .u64 xb] 2) :: H3) (.slice (some ⟨N3.n 0, 0, none⟩) 1 1) [(⟨xa, xb⟩ : U2)] := slN_new g1 [(⟨xa, xb⟩ : U2)] rfl rfl rfl
    obtain ⟨v2, H4, N4, e2, g2, f2, _, s2, _⟩ := app_many (H0 := H1) (bytes := 16) p2_len (by omega) gs (f1_.trans fs) (s1.mono fun y c _ e => fs y c e) (ss.toM.wh p2_len) (all1_p2 _) (by simp only [List.length_cons, List.length_nil]; omega) (by simp only [List.length_cons, List.length_nil]; omega)
    obtain ⟨v3, H5, N5, e3, g3, f3, _, s3, _⟩ := app_many (H0 := H1) (bytes := 16) p2_len (by omega) g2 f2 s2 (w2_.mono f2) (all1_p2 _) (by simp only [List.length_append, List.length_cons, List.length_nil]; omega) (by simp only [List.length_append, List.length_cons, List.length_nil]; omega)
    have r1b := SlR.read rl p2_len (fr.trans f1_) p20 hin
    rw [hxx] at r1b
    simp only [p2] at r1b
    have hB1 := good_B g1
    have hR1 := good_rdB g1
    have hB2 := good_B g2
    have hR2 := good_rdB g2
    simp (disch := omega) only [TrAh, LrAh, GrAh_rBf, VrBf_eq, hB, hR, hI, lbAh, kp.l, kp.t0, kp.t3, kp.t4, kp.t5, lenV_sl, Int.toNat_natCast, bft, btf, gtst, st_len, hg, c1, c2, e1, e2, e3, hB1, hR1, hB2, hR2, r1, r1b, i0, hin, pad, e_skip, e_ops, e_draw, e_fork, shg_n, shg_c, shg_g, shg_r, d_none, d_nil, d_cons, d_ite, h_none, h_nil, h_cons, h_ite, eqS_same, lightV, e_seq, e_cond, e_block, e_exit, e_ret, s_normal, s_ret, s_exit, s_none, s_ite, b_normal, b_ret, b_exit, b_none, b_ite, c_bool, x_none, x_nil, x_cons, x_ite, p_some, p_none, p_ite, pt_some, pt_none, pv_some, pv_none, pv_ite, w_none, w_some, i_bool, i_undef, bt, bf, v_tmp, v_const, v_global, v_func, evs, f_normal, f_ret, f_none, f_ite, r_some, co_some, l_ptr, m_agg, m_one, sh_app, lk_nil, lk_cons, rd_eq, rdO_some, rdO_none, rdN_none, rdL_some, rdL_none, wrB_none, unitR_some, wr_nil, wr_here, wr_skip, k_cells, tk_zero, tk_take, tk_skip, tkC_some, call_func, gt, st, binV, arith, isSh, storeV, all1, idxAV, fieldV, faddrV, iaddrSV, iaddrAV, pickV, convV, unV, eqbV, eqpV, extV, mm2, mmV, nilckV, ress, res1, retV, Value.cells, cond_true, cond_false, Bool.true_or, Bool.false_or, Bool.or_true, Bool.or_false, beq_self_eq_true, if_true, if_false, ite_true, ite_false, decide_true, decide_false, decide_eq_true_eq, Nat.zero_add, Nat.add_zero, and_self, true_and, and_true, List.size_toArray, List.length_cons, List.length_nil, List.append_nil, List.nil_append, Int.toNat_zero, Bool.not_false, Bool.not_true, Bool.not_not, Bool.false_eq_true, Bool.true_eq_false, IntWalk.i64_in, IntKind.bits, eqAV, eqL, leafEq, andO, fillV, buildSV, List.getElem?_toArray, List.getElem?_cons_zero, List.getElem?_cons_succ, List.getElem?_nil, Bool.true_and, Bool.and_true, Bool.false_and, Bool.and_false, Bool.and_self, IntWalk.u64_in, Int.cast_ofNat_Int, callF1, pad16, pad_0, pad_1, pad_2, pad_3, pad_4, pad_5, pad_6, pad_7, pad_8, pad_9, pad_10, pad_11, pad_12, pad_13, pad_14, pad_15, gc0, gc1, gc2, gc3, gc4, gc5, gc6, gc7, gc8, gc9, gc10, gc11, gc12, gc13, gc14, gc15, gcS, sc0, sc1, sc2, sc3, sc4, sc5, sc6, sc7, sc8, sc9, sc10, sc11, sc12, sc13, sc14, sc15, scS, List.drop_succ_cons, List.drop_nil, x_pan, s_pan, b_pan, pE_ret, pE_pan, pE_none, pE_ite, pvE_some, pvE_none, pvE_ite, rv_some, rv_none, rv_ite, oR_ret, t_mv, t_pick, t_alloc, t_box, t_build, t_buildS, t_load, t_store, t_nilck, t_bin, t_eqb, t_eqA, t_eqp, t_un, t_conv, t_field, t_idxA, t_faddr, t_iaddrS, t_iaddrA, t_ext, t_len, t_mm, t_call, t_ifc, t_fn, t_slc, t_slcA, t_slcT, t_tass, t_isn, t_mks, t_app, t_pan, panE_i, optE_none, optE_some, bnd_none, bnd_int, slA_none, slA_some, appR_some, appOld_cells, newsV_n, lenS_s, appV_nil, appV_some, mksV_i, sh_c, sh_g, f_pan, endD_ret, dfr_normal, dfr_ret, dfr_pan, restD_normal, callD1, callC1, tassV, isnV, slcAV, slcTV, slcB, appNew, Option.bind_some, Option.bind_none, d_pan, h_pan, wrH_eq, wrX_cells, wrU_some, upH_nil, upH_cons, lk_upH, effR_some, effR_none, effR_ite, Option.isNone_none, Option.isNone_some, slA_zero, call_yield, e_range, it_func, wy_same, y_call, isLp_self, beg_normal, end_normal, end_ret, end_exit, end_ite, aft_ret, aft_ready, aft_done, aft_exit, setP_cons, setP_nil, sh_r, t_mkmap, t_mlook, t_mupd, t_mdel, t_eqs, t_appZ, t_cpy, eqsV, mapF_some, lookF_some, setM_some, lookR_t, lookR_n, lookR_f, lookR_fn, lookV, mupdV, mdelV, mkM, seval]
    refine ok_some (.inl ⟨rfl, L.length - (i + 1), by omega, _, H5, N5, v3, _, i + 1, rfl, ⟨?_, ?_, ?_, ?_⟩, g3, fr.trans f3, s3.low fr.dm, hnew, hsub, by omega, rfl⟩)
    all_goals simp (disch := omega) only [kp.l, kp.t0, kp.t3, kp.t4, kp.t5, hc1, Int.cast_ofNat_Int, decide_true, ev2, seval, ev5]
  | false =>
    have gs : good B ((N1.n 0, .cells [.int .u64 xa, .int .u64 xb] 2) :: H1) (sh (shg N1)) := good_new (gg g)
    have fs : Fr H1 ((N1.n 0, .cells [.int .u64 xa, .int .u64 xb] 2) :: H1) := fr_new g Fr.refl 0
    have ss : SlN p2 2 B H1 ((N1.n 0, .cells [.int .u64 xa, .int .u64 xb] 2) :: H1) (.slice (some ⟨N1.n 0, 0, none⟩) 1 1) [(⟨xa, xb⟩ : U2)] := slN_new g [(⟨xa, xb⟩ : U2)] rfl rfl rfl
    obtain ⟨v1, H3, N3, e1, g1, f1_, s1⟩ := app_nil (bytes := 16) p2_len (by omega) gs (w1_.mono fs) (all1_p2 _) (by omega) (by omega)
    have s1 := s1.low fs.dm
    obtain ⟨v2, H4, N4, e2, g2, f2, _, s2, _⟩ := app_many (H0 := H1) (bytes := 16) p2_len (by omega) g1 (fs.trans f1_) s1 ((ss.toM.wh p2_len).mono f1_) (all1_p2 _) (by simp only [List.length_cons, List.length_nil]; omega) (by simp only [List.length_cons, List.length_nil]; omega)
    obtain ⟨v3, H5, N5, e3, g3, f3, _, s3, _⟩ := app_many (H0 := H1) (bytes := 16) p2_len (by omega) g2 f2 s2 (w2_.mono f2) (all1_p2 _) (by simp only [List.length_append, List.length_cons, List.length_nil]; omega) (by simp only [List.length_append, List.length_cons, List.length_nil]; omega)
    have r1b := SlR.read rl p2_len (fr.trans (fs.trans f1_)) p20 hin
    rw [hxx] at r1b
    simp only [p2] at r1b
    have hB1 := good_B g1
    have hR1 := good_rdB g1
    have hB2 := good_B g2
    have hR2 := good_rdB g2
    simp (disch := omega) only [TrAh, LrAh, GrAh_rBf, VrBf_eq, hB, hR, hI, lbAh, kp.l, kp.t0, kp.t3, kp.t4, kp.t5, lenV_sl, Int.toNat_natCast, bft, btf, gtst, st_len, hg, c1, c2, e1, e2, e3, hB1, hR1, hB2, hR2, r1, r1b, i0, hin, pad, e_skip, e_ops, e_draw, e_fork, shg_n, shg_c, shg_g, shg_r, d_none, d_nil, d_cons, d_ite, h_none, h_nil, h_cons, h_ite, eqS_same, lightV, e_seq, e_cond, e_block, e_exit, e_ret, s_normal, s_ret, s_exit, s_none, s_ite, b_normal, b_ret, b_exit, b_none, b_ite, c_bool, x_none, x_nil, x_cons, x_ite, p_some, p_none, p_ite, pt_some, pt_none, pv_some, pv_none, pv_ite, w_none, w_some, i_bool, i_undef, bt, bf, v_tmp, v_const, v_global, v_func, evs, f_normal, f_ret, f_none, f_ite, r_some, co_some, l_ptr, m_agg, m_one, sh_app, lk_nil, lk_cons, rd_eq, rdO_some, rdO_none, rdN_none, rdL_some, rdL_none, wrB_none, unitR_some, wr_nil, wr_here, wr_skip, k_cells, tk_zero, tk_take, tk_skip, tkC_some, call_func, gt, st, binV, arith, isSh, storeV, all1, idxAV, fieldV, faddrV, iaddrSV, iaddrAV, pickV, convV, unV, eqbV, eqpV, extV, mm2, mmV, nilckV, ress, res1, retV, Value.cells, cond_true, cond_false, Bool.true_or, Bool.false_or, Bool.or_true, Bool.or_false, beq_self_eq_true, if_true, if_false, ite_true, ite_false, decide_true, decide_false, decide_eq_true_eq, Nat.zero_add, Nat.add_zero, and_self, true_and, and_true, List.size_toArray, List.length_cons, List.length_nil, List.append_nil, List.nil_append, Int.toNat_zero, Bool.not_false, Bool.not_true, Bool.not_not, Bool.false_eq_true, Bool.true_eq_false, IntWalk.i64_in, IntKind.bits, eqAV, eqL, leafEq, andO, fillV, buildSV, List.getElem?_toArray, List.getElem?_cons_zero, List.getElem?_cons_succ, List.getElem?_nil, Bool.true_and, Bool.and_true, Bool.false_and, Bool.and_false, Bool.and_self, IntWalk.u64_in, Int.cast_ofNat_Int, callF1, pad16, pad_0, pad_1, pad_2, pad_3, pad_4, pad_5, pad_6, pad_7, pad_8, pad_9, pad_10, pad_11, pad_12, pad_13, pad_14, pad_15, gc0, gc1, gc2, gc3, gc4, gc5, gc6, gc7, gc8, gc9, gc10, gc11, gc12, gc13, gc14, gc15, gcS, sc0, sc1, sc2, sc3, sc4, sc5, sc6, sc7, sc8, sc9, sc10, sc11, sc12, sc13, sc14, sc15, scS, List.drop_succ_cons, List.drop_nil, x_pan, s_pan, b_pan, pE_ret, pE_pan, pE_none, pE_ite, pvE_some, pvE_none, pvE_ite, rv_some, rv_none, rv_ite, oR_ret, t_mv, t_pick, t_alloc, t_box, t_build, t_buildS, t_load, t_store, t_nilck, t_bin, t_eqb, t_eqA, t_eqp, t_un, t_conv, t_field, t_idxA, t_faddr, t_iaddrS, t_iaddrA, t_ext, t_len, t_mm, t_call, t_ifc, t_fn, t_slc, t_slcA, t_slcT, t_tass, t_isn, t_mks, t_app, t_pan, panE_i, optE_none, optE_some, bnd_none, bnd_int, slA_none, slA_some, appR_some, appOld_cells, newsV_n, lenS_s, appV_nil, appV_some, mksV_i, sh_c, sh_g, f_pan, endD_ret, dfr_normal, dfr_ret, dfr_pan, restD_normal, callD1, callC1, tassV, isnV, slcAV, slcTV, slcB, appNew, Option.bind_some, Option.bind_none, d_pan, h_pan, wrH_eq, wrX_cells, wrU_some, upH_nil, upH_cons, lk_upH, effR_some, effR_none, effR_ite, Option.isNone_none, Option.isNone_some, slA_zero, call_yield, e_range, it_func, wy_same, y_call, isLp_self, beg_normal, end_normal, end_ret, end_exit, end_ite, aft_ret, aft_ready, aft_done, aft_exit, setP_cons, setP_nil, sh_r, t_mkmap, t_mlook, t_mupd, t_mdel, t_eqs, t_appZ, t_cpy, eqsV, mapF_some, lookF_some, setM_some, lookR_t, lookR_n, lookR_f, lookR_fn, lookV, mupdV, mdelV, mkM, seval]
    refine ok_some (.inl ⟨rfl, L.length - (i + 1), by omega, _, H5, N5, v3, _, i + 1, rfl, ⟨?_, ?_, ?_, ?_⟩, g3, fr.trans f3, s3.low fr.dm, hnew, hsub, by omega, rfl⟩)
    all_goals simp (disch := omega) only [kp.l, kp.t0, kp.t3, kp.t4, kp.t5, hc1, Int.cast_ofNat_Int, decide_true, ev2, seval, ev5]
theorem J100 : Said (an @TrAh.eq_1 <| an @LrAh.eq_1 <| an @GrAh_rBf <| an @VrBf_eq <| trivial) := said_ok _
theorem xahead {B : OH} {H : HL} {N : St} {vl : Value} {L : List U2} (hl : SlR p2 2 B H vl L) (hL : L.length ≤ 4000) (hN : good B H N) : ∃ v' M H' N', VrAh B [vl] H N = some (.ret v', H', N') ∧ good B H' N' ∧ Fr H H' ∧ SlM p2 2 B H H' v' M ∧ M.length = L.length ∧ (∀ x ∈ M, x ∈ L) := by
  obtain ⟨hB, hR, hI⟩ := gX hN
  have hG : ∃ H N, good B H N := ⟨H, N, hN⟩
  unfold VrAh
  simp (disch := omega) only [J100, hB, hR, hI, all1, ress, res1, retV, Value.cells, newsV_s, seval, eV]
  generalize hX : exec B _ _ (LC.loop _) _ = o
  obtain ⟨x, ⟨ts2, H2, N2⟩, rfl, rfl, g2, f2, vo, M, so, hM, hm, kp⟩ := (show Ok o _ by rw [← hX]; exact loopAh hl hL hN Fr.refl (.inl ⟨rfl, rfl⟩) ⟨rfl, rfl, rfl, rfl⟩ (by omega))
  simp only at g2 f2 so kp
  simp (disch := omega) only [J100, hB, hR, hI, kp.l, kp.t0, kp.t3, kp.t4, all1, ress, res1, retV, Value.cells, newsV_s, seval, eV]
  exact ⟨_, M, _, _, rfl, g2, f2, so, hM, hm⟩
end Go.Proofs.YtfhiplfagejfoaaDoor
