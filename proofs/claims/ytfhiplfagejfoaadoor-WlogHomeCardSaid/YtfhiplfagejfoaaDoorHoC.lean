/- Own text: the log of writes, part HoC: contracts of the functions that the laws of the log call. -/
import Derived.Test.YtfhiplfagejfoaaDoorHoB
set_option linter.unusedSimpArgs false
set_option linter.unusedVariables false
namespace Go.Proofs.YtfhiplfagejfoaaDoor
open Go.Proofs.YtfhiplfagejfoaaDoor.K Go.ChangeShapes Go.WideShapes Go.ChangeAt Go.RowKit 
set_option maxRecDepth 100000
set_option linter.unusedSimpArgs false
set_option linter.unusedVariables false
theorem packW_len {p h : Nat} {l : List W2} (H : l.length ≤ h + 2 * p) : (packW p h l).length = LG p h := oW_len (Nat.le_refl _) (by unfold LG; omega)
def LgP : FnD := ⟨(.ops [oa 2 (.box (ot 0)),oa 4 (.mv (.const (.slice none 0 0))),oa 5 (.alloc [(.int .i64 0)])]), 43, [(ot 5)],(.seq (.ops [oa 6 (.load true 3 (ot 2)),oa 7 (.call (.func 45) [(ot 6)]),oa 8 (.call (.func 44) [(ot 7), (oi 5)])])
 (.seq (.ops [oa 9 (.load true 3 (ot 2)),om 10 1,oa 11 (.call (.func 46) [(ot 9), (ot 10)]),om 4 11, oc (.store 1 (ot 5) (oi 0))])
 .ret)),
 12, [.tmp 4, .cell 5 false 1]⟩
theorem lowgP : lowerDfr Tryd.prog Tryd.f16 = some LgP := by kernel_rfl
noncomputable def GgP (B : OH) : Nat → Cs
  | 45 => V13 B
  | 46 => Vwlogpack B
  | 44 => Vwlogwant B
  | _ => fun _ _ _ => none
theorem GgP_13 {B : OH} : GgP B 45 = V13 B := rfl
theorem GgP_wlogpack {B : OH} : GgP B 46 = Vwlogpack B := rfl
theorem GgP_wlogwant {B : OH} : GgP B 44 = Vwlogwant B := rfl
theorem sGgP {w0 : World} {B : OH} : SoundG Tryd.prog w0 B { f := GgP B } := .of fun k => by
  unfold GgP
  split
  · exact .inr ⟨en13, sV13⟩
  · exact .inr ⟨enwlogpack, sVwlogpack⟩
  · exact .inr ⟨enwlogwant, sVwlogwant⟩
  · exact .inl fun _ _ _ => rfl
theorem engP : Enter Tryd.prog 16 := .of Tryd.func16 (by kernel_rfl) (by kernel_rfl)
noncomputable def DgP (B : OH) : Nat → Ds
  | 43 => Uwlogcaught B
  | _ => fun _ _ _ _ => none
theorem DgP_wlogcaught {B : OH} : DgP B 43 = Uwlogcaught B := rfl
noncomputable def TgP (B : OH) : Cs := callD B { f := GgP B } (DgP B) 1000000 LgP
theorem sTgP {w0 : World} {B : OH} : SoundC Tryd.prog w0 B 16 (TgP B) := callD_sound mixedOrders sGgP 1000000 Tryd.func16 lowgP enwlogcaught sUwlogcaught
noncomputable def VgP (B : OH) : Cs := TgP B
theorem sVgP {w0 : World} {B : OH} : SoundC Tryd.prog w0 B 16 (VgP B) := sTgP
theorem J27 : Said (an @TgP.eq_1 <| an @LgP.eq_1 <| an @GgP_13 <| an @V13_eq <| an @GgP_wlogpack <| an @Vwlogpack.eq_1 <| an @Twlogpack.eq_1 <| an @Lwlogpack.eq_1 <| an @Gwlogpack_11 <| an @V11_eq <| an @Gwlogpack_wlogPlace <| an @VwlogPlace_eq <| an @Gwlogpack_wlogmost <| an @Vwlogmost_eq <| an @Gwlogpack_wlogwant <| an @Vwlogwant.eq_1 <| an @Twlogwant.eq_1 <| an @Lwlogwant.eq_1 <| an @GgP_wlogwant <| an @DgP_wlogcaught <| an @Uwlogcaught.eq_1 <| an @Lwlogcaught.eq_1 <| trivial) := said_ok _
set_option maxHeartbeats 8000000 in
theorem fPack {B : OH} {H : HL} {N : St} {vl : Value} {l : List W2} {kk p cc h : Nat} (hT : Tab B) (C : Cf kk p cc h) (hN : good B H N) (hl : SlR w2 2 B H vl l) (hw : W2s l) :
    ∃ v' H' N', VgP B [.agg #[.int .i64 (kk : Int), .int .i64 (p : Int), .int .i64 (cc : Int)], vl] H N = some (.ret (.tuple #[v', .int .i64 (packE p h l)]), H', N') ∧ good B H' N' ∧ Fr H H' ∧ SlN w1 1 B H H' v' (if packE p h l = 0 then packW p h l else []) := by
  obtain ⟨hB, hR, hI⟩ := gX hN
  have hG : ∃ H N, good B H N := ⟨H, N, hN⟩
  have e1 := f13 hG kk p cc (cfit C).1 (cfit C).2.1 (cfit C).2.2
  have e2 := fmost hG hT C
  have e3 := f11c hG hT C
  have hll := hl.len
  have hlb := LG_b C
  unfold VgP
  by_cases hlen : l.length ≤ h + 2 * p
  case neg =>
    have c1 : ¬ (l.length : Int) ≤ ((h + 2 * p : Nat) : Int) := by omega
    have he := packE_long (p := p) (h := h) (l := l) (by omega)
    rw [he, if_neg (by decide)]
    simp (disch := omega) only [J27, hB, hR, hI, e1, e2, hll, c1, all1, ress, res1, retV, Value.cells, newsV_s, seval, eV]
    refine ⟨_, _, _, rfl, ?_, ?_, .inl ⟨rfl, rfl⟩⟩
    · exact good_new (good_new (good_new (good_new hN)))
    · exact fr_new (good_new (good_new (good_new hN))) (fr_new (good_new (good_new hN)) (fr_new (good_new hN) (fr_new hN Fr.refl 0) 0) 0) 0
  have c1 : (l.length : Int) ≤ ((h + 2 * p : Nat) : Int) := by omega
  have hLG : 1 + 2 * l.length ≤ LG p h := by unfold LG; omega
  have n3 : (0 : Int) ≤ (LG p h : Int) := by omega
  have n4 : (LG p h : Int) ≤ (LG p h : Int) := Int.le_refl _
  have n5 : (LG p h : Int) ≤ 140737488355328 := by omega
  have n6 : (8 : Int) * (LG p h : Int) ≤ 140737488355328 := by omega
  have n7 : 0 < LG p h := by omega
  have v0 : wr (fl w1 (List.replicate (LG p h) 0)) 0 [.int .u64 (l.length : Int)] = some (fl w1 (oW (LG p h) l 0)) := by
    have := wr_fl w1_len (List.replicate (LG p h) 0) 0 0 [.int .u64 (l.length : Int)] 0 (l.length : Int) (by rw [List.length_replicate]; omega) (by simp) rfl
    rw [Nat.zero_mul, Nat.add_zero] at this
    rw [this]
    congr 2
    unfold oW
    rw [show LG p h = (LG p h - 1 - 2 * 0) + 1 by omega, List.replicate_succ]
    simp [pkL]
  simp (disch := omega) only [J27, hB, hR, hI, e1, e2, e3, hll, c1, n3, n4, n5, n6, n7, rep_w1, v0, Nat.mul_one, all1, ress, res1, retV, Value.cells, newsV_s, seval, eV]
  obtain ⟨HH, hHH⟩ : ∃ HH, HH = (N.n 4, KB.map .i64 fun _ => none) :: (N.n 3, .cells (fl w1 (oW (LG p h) l 0)) (LG p h)) :: (N.n 2, .cells [.int .i64 (kk : Int), .int .i64 (p : Int), .int .i64 (cc : Int)] 3) :: (N.n 1, .cells [.int .i64 0] 1) :: (N.n 0, .cells [.int .i64 (kk : Int), .int .i64 (p : Int), .int .i64 (cc : Int)] 3) :: H := ⟨_, rfl⟩
  have gH : good B HH (sh (sh (sh (sh (sh N))))) := by rw [hHH]; exact good_new (good_new (good_new (good_new (good_new hN))))
  have fH : Fr H HH := by
    rw [hHH]
    have a1 := good_new (k := .cells [.int .i64 (kk : Int), .int .i64 (p : Int), .int .i64 (cc : Int)] 3) hN
    have a2 := good_new (k := .cells [.int .i64 0] 1) a1
    have a3 := good_new (k := .cells [.int .i64 (kk : Int), .int .i64 (p : Int), .int .i64 (cc : Int)] 3) a2
    have a4 := good_new (k := .cells (fl w1 (oW (LG p h) l 0)) (LG p h)) a3
    exact fr_new a4 (fr_new a3 (fr_new a2 (fr_new a1 (fr_new hN Fr.refl 0) 0) 0) 0) 0
  have q1 : lk HH (N.n 1) = some (.cells [.int .i64 0] 1) := by rw [hHH]; simp only [lk_cons, hI]; rfl
  have q2 : lk HH (N.n 2) = some (.cells [.int .i64 (kk : Int), .int .i64 (p : Int), .int .i64 (cc : Int)] 3) := by rw [hHH]; simp only [lk_cons, hI]; rfl
  have q3 : lk HH (N.n 3) = some (.cells (fl w1 (oW (LG p h) l 0)) (LG p h)) := by rw [hHH]; simp only [lk_cons, hI]; rfl
  have q4 : lk HH (N.n 4) = some (.map .i64 (mfn l 0)) := by rw [hHH, mfn_0]; simp only [lk_cons, hI]; rfl
  have ne : ∀ i j, i ≠ j → N.n i ≠ N.n j := fun i j hij e => by
    have := hI i j
    rw [e] at this; simp at this; exact hij this
  rw [← hHH]
  generalize hX : exec B _ _ (LC.loop _) _ = o
  obtain ⟨x, ⟨ts, H1, N1⟩, ho, g1, fr1, fk, hr⟩ := (show Ok o _ by rw [← hX]; exact loopPk (c := N.n 2) (bo := N.n 3) (m := N.n 4) hT C hl hw hlen gH fH (hB 2) (hB 3) (hB 4) (lk_N hN 3) (lk_N hN 4) (lk_N hN 2) q2 q3 q4 (ne 2 3 (by decide)) (ne 2 4 (by decide)) ⟨rfl, rfl, rfl, rfl, rfl, rfl, rfl⟩ (by omega))
  subst ho
  simp only at g1 fr1 fk hr
  have q1' := fk _ _ (ne 1 3 (by decide)) (ne 1 4 (by decide)) q1
  have b1 := hB 1
  have r1 := rN b1
  have gu := fun k => good_up (k := k) g1 b1 q1'
  have fu := fun k => fr_up (k := k) fr1 (lk_N hN 1)
  rcases hr with ⟨rfl, hok, lo, kp⟩ | ⟨rfl, hbad⟩
  · have he := packE_ok (by omega) hok
    rw [he, if_pos rfl]
    have n13 : (N.n 3 == N.n 1) = false := by rw [hI]; rfl
    simp (disch := omega) only [J27, hB, hR, hI, kp.l, kp.t2, kp.t5, kp.t6, kp.t28, kp.t29, kp.t30, q1', b1, r1, all1, ress, res1, retV, Value.cells, newsV_s, seval, eV]
    refine ⟨_, _, _, rfl, gu _, fu _, .inr ⟨N.n 3, LG p h, by rw [packW_len hlen], hB 3, lk_N hN 3, by rw [packW_len hlen]; exact Nat.le_refl _, ?_⟩⟩
    rw [lk_upH, n13, cond_false, Nat.mul_one]
    exact lo
  · have he := packE_bad (by omega) hbad
    rw [he, if_neg (by decide)]
    have m1 := ne_N g1 q1'
    have m1' := ne_N' g1 q1'
    simp (disch := omega) only [J27, hB, hR, hI, q1', b1, r1, m1, m1', good_B g1, good_rdB g1, all1, ress, res1, retV, Value.cells, newsV_s, seval, eV]
    refine ⟨_, _, _, rfl, ?_, ?_, .inl ⟨rfl, rfl⟩⟩
    · exact good_new (k := .cells [.int .i64 1] 1) (gu (.cells [.int .i64 1] 1)) |> fun h => by simpa only [upH_cons, m1, cond_false] using h
    · exact fr_new (k := .cells [.int .i64 1] 1) (gu (.cells [.int .i64 1] 1)) (fu (.cells [.int .i64 1] 1)) 0
end Go.Proofs.YtfhiplfagejfoaaDoor
namespace Go.Proofs.YtfhiplfagejfoaaDoor.K
section
variable {α : Type} {f : α → List Value} {sz : Nat} {B : OH} {H0 H H' : HL} {N : St} {v : Value} {L M : List α}
end
end Go.Proofs.YtfhiplfagejfoaaDoor.K
namespace Go.Proofs.YtfhiplfagejfoaaDoor
open Go.Proofs.YtfhiplfagejfoaaDoor.K Go.ChangeShapes Go.WideShapes Go.ChangeAt Go.RowKit 
set_option maxRecDepth 100000
set_option linter.unusedSimpArgs false
set_option linter.unusedVariables false
structure KRp (c : Nat) (vl vo : Value) (i : Nat) (ts : List Value) : Prop where
  l : ts.length = 79
  t1 : gt ts 1 = vl
  t2 : gt ts 2 = .pointer (some ⟨c, 0, none⟩)
  t6 : gt ts 6 = vo
  t7 : gt ts 7 = .int .i64 (i : Int)
structure KRq (c : Nat) (vl vo : Value) (i : Nat) (u8 : Value) (k : Nat) (ts : List Value) : Prop where
  l : ts.length = 79
  t1 : gt ts 1 = vl
  t2 : gt ts 2 = .pointer (some ⟨c, 0, none⟩)
  t6 : gt ts 6 = vo
  t7 : gt ts 7 = .int .i64 (i : Int)
  t8 : gt ts 8 = u8
  t9 : gt ts 9 = .bool true
  t10 : gt ts 10 = .int .i64 (k : Int)
end Go.Proofs.YtfhiplfagejfoaaDoor
namespace Go.Proofs.YtfhiplfagejfoaaDoor
open Go.Proofs.YtfhiplfagejfoaaDoor.K Go.ChangeShapes Go.WideShapes Go.ChangeAt Go.RowKit 
set_option maxRecDepth 100000
set_option linter.unusedSimpArgs false
set_option linter.unusedVariables false
def U64s (K : List Int) : Prop := ∀ x ∈ K, u64R x
theorem U64s.at {K : List Int} (h : U64s K) (i : Nat) : u64R (K.getD i 0) := by
  rcases Nat.lt_or_ge i K.length with hi | hi
  · exact h _ (List.mem_of_getElem? (some_getD (d := 0) hi))
  · rw [List.getD_eq_getElem?_getD, List.getElem?_eq_none hi]
    unfold u64R; simp
def unL (w : List Int) : Nat → List W2
  | 0 => []
  | n + 1 => unL w n ++ [⟨w.getD (1 + 2 * n) 0, w.getD (2 + 2 * n) 0⟩]
theorem unL_len (w : List Int) : ∀ n, (unL w n).length = n
  | 0 => rfl
  | n + 1 => by simp [unL, unL_len w n]
def unN (w : List Int) : Nat := (w.getD 0 0).toNat
def plO (p h : Nat) (w : List Int) (n : Nat) : Prop := ∀ i, i < n → okP p h (w.getD (1 + 2 * i) 0)
def unOk (p h : Nat) (w : List Int) : Prop := w.length = LG p h ∧ w.getD 0 0 ≤ ((h + 2 * p : Nat) : Int) ∧ plO p h w (unN w) ∧ packE p h (unL w (unN w)) = 0 ∧ packW p h (unL w (unN w)) = w
open Classical in
noncomputable def unR (p h : Nat) (w : List Int) : List W2 := if unOk p h w then unL w (unN w) else []
open Classical in
noncomputable def unE (p h : Nat) (w : List Int) : Int := if unOk p h w then 0 else 2
theorem un_ok {p h : Nat} {w : List Int} (H : unOk p h w) : unR p h w = unL w (unN w) ∧ unE p h w = 0 := ⟨if_pos H, if_pos H⟩
theorem un_no {p h : Nat} {w : List Int} (H : ¬ unOk p h w) : unR p h w = [] ∧ unE p h w = 2 := ⟨if_neg H, if_neg H⟩
theorem unL_at (w : List Int) : ∀ n i, i < n → (unL w n).getD i y2 = ⟨w.getD (1 + 2 * i) 0, w.getD (2 + 2 * i) 0⟩
  | 0, i, h => by omega
  | n + 1, i, h => by
    have hl := unL_len w n
    simp only [unL]
    by_cases e : i = n
    · subst e
      rw [List.getD_eq_getElem?_getD, List.getElem?_append_right (by omega), hl, Nat.sub_self]; rfl
    · have := unL_at w n i (by omega)
      rw [List.getD_eq_getElem?_getD, List.getElem?_append_left (by omega), ← List.getD_eq_getElem?_getD, this]
theorem unL_s {kk p cc h : Nat} (C : Cf kk p cc h) {w : List Int} (hu : U64s w) {n : Nat} (ho : plO p h w n) : W2s (unL w n) := fun x hx => by
  obtain ⟨i, hi, rfl⟩ := List.getElem_of_mem hx
  rw [unL_len] at hi
  have := unL_at w n i hi
  rw [List.getD_eq_getElem?_getD, List.getElem?_eq_getElem (by rw [unL_len]; exact hi), Option.getD_some] at this
  rw [this]
  have := okP_b C (ho i hi)
  exact ⟨by unfold i64R; simp only; omega, hu.at _⟩
theorem f11c' {B : OH} (hT : Tab B) (hG : ∃ H N, good B H N) {kk p cc h : Nat} (C : Cf kk p cc h) : F11 B [.agg #[.int .i64 (kk : Int), .int .i64 (p : Int), .int .i64 (cc : Int)]] = some (.int .i64 (LG p h : Int)) := f11c hG hT C
theorem fmost' {B : OH} (hT : Tab B) (hG : ∃ H N, good B H N) {kk p cc h : Nat} (C : Cf kk p cc h) : Fwlogmost B [.agg #[.int .i64 (kk : Int), .int .i64 (p : Int), .int .i64 (cc : Int)]] = some (.int .i64 ((h + 2 * p : Nat) : Int)) := fmost hG hT C
def lbgU : LC := (.seq (.ops [oa 33 (.bin .lss (ot 32) (ot 31))])
 (.seq (.cond (ot 33) .skip
 (.exit 0))
 (.seq (.block 1 (.seq (.ops [om 34 32,om 6 34])
 (.seq (.draw [oe 36 (.load true 3 (ot 2)),pm 37 1,pm 38 6,oe 39 (.bin .mul (oi 2) (ot 38)),oe 40 (.bin .add (oi 1) (ot 39)),oe 41 (.iaddrS 1 (ot 37) (ot 40)),pl 42 41,oe 43 (.call (.func 14) [(ot 36), (ot 42)]),pm 35 43,oe 44 (.ext (ot 35) 0),oe 45 (.ext (ot 35) 1),pm 7 44,pm 8 45])
 (.seq (.seq (.ops [om 46 8,oa 47 (.un .not (ot 46))])
 (.cond (ot 47) (.seq (.ops [oa 4 (.mv (.const (.slice none 0 0))),oa 5 (.mv (oi 2))])
 .ret)
 .skip))
 (.ops [om 48 4,om 49 7,om 50 1,om 51 6,oa 52 (.bin .mul (oi 2) (ot 51)),oa 53 (.bin .add (oi 2) (ot 52)),oa 54 (.iaddrS 1 (ot 50) (ot 53)),ol 55 54,oa 56 (.build [(.int .i64 0), (.int .u64 0)] [(0, 1, (ot 49)), (1, 1, (ot 55))]),oa 57 (.buildS [(.int .i64 0), (.int .u64 0)] 1 [(0, 2, (ot 56))]),oa 58 (.app [(.int .i64 0), (.int .u64 0)] 16 (ot 48) (ot 57)),om 4 58])))))
 (.ops [oa 59 (.bin .add (ot 32) (oi 1)),om 32 59]))))
def LgU : FnL := ⟨(.seq (.ops [oa 2 (.box (ot 0)),oa 4 (.mv (.const (.slice none 0 0))),oa 5 (.mv (oi 0))])
 (.seq (.seq (.ops [oa 11 (.load true 3 (ot 2)),oa 12 (.call (.func 45) [(ot 11)]),oa 13 (.un .not (ot 12))])
 (.cond (ot 13) (.seq (.ops [oa 4 (.mv (.const (.slice none 0 0))),oa 5 (.mv (oi 5))])
 .ret)
 .skip))
 (.seq (.seq (.draw [pm 14 1,oe 15 (.len false (ot 14)),oe 16 (.load true 3 (ot 2)),oe 17 (.call (.func 30) [(ot 16)]),oe 18 (.bin .neq (ot 15) (ot 17)),pm 19 18, ⟨ob 20 (.mv (ot 1)) 19 false,[]⟩,⟨ob 21 (.iaddrS 1 (ot 20) (oi 0)) 19 false,[]⟩,⟨ob 22 (.load false 1 (ot 21)) 19 false,[]⟩,⟨ob 23 (.load true 3 (ot 2)) 19 false,[]⟩,⟨ob 24 (.call (.func 47) [(ot 23)]) 19 false, [ob 22 (.load false 1 (ot 21)) 19 false]⟩,⟨ob 25 (.conv .u64 (ot 24)) 19 false,[]⟩,⟨ob 26 (.bin .gtr (ot 22) (ot 25)) 19 false,[]⟩,oe 27 (.pick (ot 19) (.const (.bool true)) (ot 26))])
 (.cond (ot 27) (.seq (.ops [oa 4 (.mv (.const (.slice none 0 0))),oa 5 (.mv (oi 2))])
 .ret)
 .skip))
 (.seq (.seq (.ops [om 28 1,oa 29 (.iaddrS 1 (ot 28) (oi 0)),ol 30 29,oa 31 (.conv .i64 (ot 30)),oa 32 (.mv (oi 0))])
 (.block 0 (.loop lbgU)))
 (.seq (.seq (.ops [oa 61 (.load true 3 (ot 2)),om 62 4,oa 63 (.call (.func 16) [(ot 61), (ot 62)]),om 60 63,oa 64 (.ext (ot 60) 0),oa 65 (.ext (ot 60) 1),om 9 64,om 10 65])
 (.seq (.ops [om 66 10,oa 67 (.bin .neq (ot 66) (oi 0)),om 68 67,ob 69 (.mv (ot 9)) 68 false,ob 70 (.mv (ot 1)) 68 false,ob 71 (.call (.func 48) [(ot 69), (ot 70)]) 68 false,ob 72 (.un .not (ot 71)) 68 false,oa 73 (.pick (ot 68) (.const (.bool true)) (ot 72))])
 (.cond (ot 73) (.seq (.ops [oa 4 (.mv (.const (.slice none 0 0))),oa 5 (.mv (oi 2))])
 .ret)
 .skip)))
 (.seq (.ops [om 74 4,om 4 74,oa 5 (.mv (oi 0))])
 .ret)))))),
 75, [.tmp 4, .tmp 5]⟩
theorem lowgU : lowerFn Tryd.prog Tryd.f18 = some LgU := by kernel_rfl
noncomputable def GgU (B : OH) : Nat → Cs
  | 30 => V11 B
  | 45 => V13 B
  | 48 => VsEq B
  | 16 => VgP B
  | 14 => VwlogPlace B
  | 47 => Vwlogmost B
  | _ => fun _ _ _ => none
theorem GgU_11 {B : OH} : GgU B 30 = V11 B := rfl
theorem GgU_13 {B : OH} : GgU B 45 = V13 B := rfl
theorem GgU_sEq {B : OH} : GgU B 48 = VsEq B := rfl
theorem GgU_gP {B : OH} : GgU B 16 = VgP B := rfl
theorem GgU_wlogPlace {B : OH} : GgU B 14 = VwlogPlace B := rfl
theorem GgU_wlogmost {B : OH} : GgU B 47 = Vwlogmost B := rfl
theorem sGgU {w0 : World} {B : OH} : SoundG Tryd.prog w0 B { f := GgU B } := .of fun k => by
  unfold GgU
  split
  · exact .inr ⟨en11, sV11⟩
  · exact .inr ⟨en13, sV13⟩
  · exact .inr ⟨ensEq, sVsEq⟩
  · exact .inr ⟨engP, sVgP⟩
  · exact .inr ⟨enwlogPlace, sVwlogPlace⟩
  · exact .inr ⟨enwlogmost, sVwlogmost⟩
  · exact .inl fun _ _ _ => rfl
theorem engU : Enter Tryd.prog 18 := .of Tryd.func18 (by kernel_rfl) (by kernel_rfl)
noncomputable def TgU (B : OH) : Cs := callF B { f := GgU B } 1000000 LgU
theorem sTgU {w0 : World} {B : OH} : SoundC Tryd.prog w0 B 18 (TgU B) := callF_sound mixedOrders sGgU 1000000 Tryd.func18 lowgU
noncomputable def VgU (B : OH) : Cs := TgU B
theorem sVgU {w0 : World} {B : OH} : SoundC Tryd.prog w0 B 18 (VgU B) := sTgU
structure KUgU (c : Nat) (vw vo : Value) (n i : Nat) (ts : List Value) : Prop where
  l : ts.length = 75
  t1 : gt ts 1 = vw
  t2 : gt ts 2 = .pointer (some ⟨c, 0, none⟩)
  t4 : gt ts 4 = vo
  t31 : gt ts 31 = .int .i64 (n : Int)
  t32 : gt ts 32 = .int .i64 (i : Int)
theorem J28 : Said (an @TgU.eq_1 <| an @LgU.eq_1 <| an @GgU_11 <| an @V11_eq <| an @GgU_13 <| an @V13_eq <| an @GgU_sEq <| an @GgU_gP <| an @GgU_wlogPlace <| an @VwlogPlace_eq <| an @GgU_wlogmost <| an @Vwlogmost_eq <| an @lbgU.eq_1 <| trivial) := said_ok _
set_option maxHeartbeats 8000000 in
theorem loopgU {B : OH} {H0 H : HL} {N : St} {vw : Value} {w : List Int} {kk p cc h c n : Nat} (hT : Tab B) (C : Cf kk p cc h) (hv : SlR w1 1 B H0 vw w) (hu : U64s w) (hlw : w.length = LG p h) (hn : w.getD 0 0 = (n : Int)) (hnn : n ≤ h + 2 * p) (hN : good B H N) (hF0 : Fr H0 H) (bc : B c = none)
    (lc : lk H c = some (.cells [.int .i64 (kk : Int), .int .i64 (p : Int), .int .i64 (cc : Int)] 3)) {ts : List Value} (kp : KUgU c vw (.slice none 0 0) n 0 ts) {F : Nat} (hF : 300 + n + 1 ≤ F) :
    Ok (exec B { f := GgU B } F (LC.loop lbgU) ⟨ts, H, N⟩) (fun x s => good B s.H s.N ∧ Fr H0 s.H ∧ lk s.H c = lk H c ∧ ((x = .exit 0 ∧ plO p h w n ∧ ∃ vo, SlM w2 2 B H s.H vo (unL w n) ∧ KUgU c vw vo n n s.t) ∨ (x = .ret ∧ ¬ plO p h w n ∧ s.t.length = 75 ∧ gt s.t 4 = .slice none 0 0 ∧ gt s.t 5 = .int .i64 2))) := by
  have hlb := LG_b C
  have hcp := C.p
  have hch := C.h
  have hLG : LG p h = 1 + 2 * (h + 2 * p) := rfl
  refine loop_rule (n0 := 300) (fun q s => ∃ ts H' N' vo, ∃ i : Nat, s = ⟨ts, H', N'⟩ ∧ KUgU c vw vo n i ts ∧ good B H' N' ∧ Fr H H' ∧ SlM w2 2 B H H' vo (unL w i) ∧ plO p h w i ∧ i ≤ n ∧ q = n - i) _ ?_ n _ ⟨ts, H, N, _, 0, rfl, kp, hN, Fr.refl, .inl ⟨rfl, rfl⟩, fun i hi => by omega, by omega, rfl⟩ _ hF
  clear kp hF F ts hN N
  rintro z q s ⟨ts, H1, N1, vo, i, rfl, kp, g, fr, so, hok, hi, rfl⟩
  obtain ⟨hB, hR, hI⟩ := gX g
  have hG : ∃ H N, good B H N := ⟨H1, N1, g⟩
  have lc1 := fr _ _ lc
  have nc := ne_N g lc1
  have nc' := ne_N' g lc1
  have rc := rN bc
  have hc1 : ((i + 1 : Nat) : Int) = (i : Int) + 1 := by omega
  obtain ⟨bv, ov, cv, rfl, _, rv⟩ := hv.at (by omega)
  have r0 : rdO H1 B bv ov 1 (rdB B bv ov 1) = some [.int .u64 (n : Int)] := by
    have := SlR.read rv w1_len (hF0.trans fr) 0 (i := 0) (by omega)
    rw [Nat.zero_mul, Nat.add_zero, hn] at this
    exact this
  have wn : IntKind.i64.wrap (n : Int) = (n : Int) := IntWalk.i64_in _ (by omega)
  have l0 : 0 < w.length := by omega
  by_cases hin : i < n
  case neg =>
    obtain rfl : i = n := by omega
    simp (disch := omega) only [J28, hB, hR, hI, kp.l, kp.t1, kp.t2, kp.t4, kp.t31, kp.t32, Int.lt_irrefl, r0, wn, l0, Nat.zero_mul, all1, ress, res1, retV, Value.cells, newsV_s, seval, eV]
    refine ok_some (.inr ⟨by simp, g, hF0.trans fr, lc1.trans lc.symm, .inl ⟨rfl, hok, vo, so, ⟨?_, ?_, ?_, ?_, ?_, ?_⟩⟩⟩)
    all_goals simp (disch := omega) only [kp.l, kp.t1, kp.t2, kp.t4, kp.t31, kp.t32, Int.cast_ofNat_Int, decide_true, ev2, seval, ev5]
  have hin' : (i : Int) < (n : Int) := by omega
  have x0 : 1 + 2 * (i : Int) = ((1 + 2 * i : Nat) : Int) := by omega
  have x1 : 2 + 2 * (i : Int) = ((2 + 2 * i : Nat) : Int) := by omega
  have x2 : (0 : Int) ≤ ((1 + 2 * i : Nat) : Int) := by omega
  have x3 : (0 : Int) ≤ ((2 + 2 * i : Nat) : Int) := by omega
  have x4 : 1 + 2 * i < w.length := by omega
  have x5 : 2 + 2 * i < w.length := by omega
  have x6 : IntKind.i64.wrap ((1 + 2 * i : Nat) : Int) = ((1 + 2 * i : Nat) : Int) := IntWalk.i64_in _ (by omega)
  have x7 : IntKind.i64.wrap ((2 + 2 * i : Nat) : Int) = ((2 + 2 * i : Nat) : Int) := IntWalk.i64_in _ (by omega)
  have r1 := SlR.read rv w1_len (hF0.trans fr) 0 x4
  have r2 := SlR.read rv w1_len (hF0.trans fr) 0 x5
  rw [Nat.mul_one] at r1 r2
  have hu1 := hu.at (1 + 2 * i)
  have hul := unL_len w i
  have hs : unL w (i + 1) = unL w i ++ [⟨w.getD (1 + 2 * i) 0, w.getD (2 + 2 * i) 0⟩] := rfl
  have ep := fPlace hG hT C hu1
  have hyes : okP p h (w.getD (1 + 2 * i) 0) → plO p h w (i + 1) := fun h1 j hj => by
    by_cases e : j = i
    · rw [e]; exact h1
    · exact hok j (by omega)
  have hno : ¬ okP p h (w.getD (1 + 2 * i) 0) → ¬ plO p h w n := fun h1 h2 => h1 (h2 i hin)
  generalize w.getD (1 + 2 * i) 0 = a at *
  generalize w.getD (2 + 2 * i) 0 = b at *
  simp only [w1] at r1 r2
  by_cases hpl : okP p h a
  case neg =>
    rw [plV_n hpl] at ep
    simp (disch := omega) only [J28, hB, hR, hI, kp.l, kp.t1, kp.t2, kp.t4, kp.t31, kp.t32, hin', r0, wn, l0, Nat.zero_mul, x0, x1, x2, x3, x4, x5, x6, x7, r1, r2, lc1, bc, rc, ep, Nat.mul_one, all1, ress, res1, retV, Value.cells, newsV_s, seval, eV]
    refine ok_some (.inr ⟨by simp, g, hF0.trans fr, lc1.trans lc.symm, .inr ⟨rfl, hno hpl, ?_, ?_, ?_⟩⟩)
    all_goals simp (disch := omega) only [kp.l, kp.t1, kp.t2, kp.t4, kp.t31, kp.t32, Int.cast_ofNat_Int, decide_true, ev2, seval, ev5]
  rw [plV_y hpl] at ep
  obtain ⟨v4, H4, N4, e4, g4, r4, _, s4, _⟩ := push_specM w2_len (bytes := 16) g fr so ⟨a, b⟩ rfl (by omega) (by omega)
  rw [← hs] at s4
  simp only [w2] at e4
  simp (disch := omega) only [J28, hB, hR, hI, kp.l, kp.t1, kp.t2, kp.t4, kp.t31, kp.t32, hin', r0, wn, l0, Nat.zero_mul, x0, x1, x2, x3, x4, x5, x6, x7, r1, r2, lc1, bc, rc, ep, e4, Nat.mul_one, all1, ress, res1, retV, Value.cells, newsV_s, seval, eV]
  refine ok_some (.inl ⟨rfl, n - (i + 1), by omega, _, H4, N4, v4, i + 1, rfl, ⟨?_, ?_, ?_, ?_, ?_, ?_⟩, g4, r4, s4.toM, hyes hpl, by omega, rfl⟩)
  all_goals simp (disch := omega) only [kp.l, kp.t1, kp.t2, kp.t4, kp.t31, kp.t32, hc1, Int.cast_ofNat_Int, decide_true, ev2, seval, ev5]
theorem J29 : Said (an @TgU.eq_1 <| an @LgU.eq_1 <| an @GgU_11 <| an @V11_eq <| an @GgU_13 <| an @V13_eq <| an @GgU_sEq <| an @GgU_gP <| an @GgU_wlogPlace <| an @VwlogPlace_eq <| an @GgU_wlogmost <| an @Vwlogmost_eq <| trivial) := said_ok _
set_option maxHeartbeats 8000000 in
theorem fUnpack {B : OH} {H : HL} {N : St} {vw : Value} {w : List Int} {kk p cc h : Nat} (hT : Tab B) (C : Cf kk p cc h) (hN : good B H N) (hv : SlR w1 1 B H vw w) (hu : U64s w) (hlw : w.length ≤ 900000) :
    ∃ v' H' N', VgU B [.agg #[.int .i64 (kk : Int), .int .i64 (p : Int), .int .i64 (cc : Int)], vw] H N = some (.ret (.tuple #[v', .int .i64 (unE p h w)]), H', N') ∧ good B H' N' ∧ Fr H H' ∧ SlM w2 2 B H H' v' (unR p h w) := by
  obtain ⟨hB, hR, hI⟩ := gX hN
  have hG : ∃ H N, good B H N := ⟨H, N, hN⟩
  have e1 := f13 hG kk p cc (cfit C).1 (cfit C).2.1 (cfit C).2.2
  have e2 := f11c' hT hG C
  have e3 := fmost' hT hG C
  have hll := hv.len
  have hlb := LG_b C
  have hcp := C.p
  have hch := C.h
  have hLG : LG p h = 1 + 2 * (h + 2 * p) := rfl
  have g1 : good B ((N.n 0, .cells [.int .i64 (kk : Int), .int .i64 (p : Int), .int .i64 (cc : Int)] 3) :: H) (sh N) := good_new hN
  have f1 : Fr H ((N.n 0, .cells [.int .i64 (kk : Int), .int .i64 (p : Int), .int .i64 (cc : Int)] 3) :: H) := fr_new hN Fr.refl 0
  unfold VgU
  by_cases hl : w.length = LG p h
  case neg =>
    have hb : ((w.length : Int) != (LG p h : Int)) = true := by simp; omega
    obtain ⟨u1, u2⟩ := un_no (p := p) (h := h) (w := w) (fun h' => hl h'.1)
    rw [u1, u2]
    simp (disch := omega) only [J29, hB, hR, hI, e1, e2, hll, hb, all1, ress, res1, retV, Value.cells, newsV_s, seval, eV]
    exact ⟨_, _, _, rfl, g1, f1, .inl ⟨rfl, rfl⟩⟩
  have hb : ((w.length : Int) != (LG p h : Int)) = false := by simp; omega
  have h0u := hu.at 0
  have l0 : 0 < w.length := by omega
  have rz : ∀ bv ov cv, vw = .slice (some ⟨bv, ov, none⟩) w.length cv → (∀ H', Fr H H' → ∀ i j n d, i < w.length → j + n ≤ 1 → rdO H' B bv (ov + i * 1 + j) n (rdB B bv (ov + i * 1 + j) n) = tk (w1 (w.getD i d)) j n) → rdO ((N.n 0, .cells [.int .i64 (kk : Int), .int .i64 (p : Int), .int .i64 (cc : Int)] 3) :: H) B bv ov 1 (rdB B bv ov 1) = some [.int .u64 (w.getD 0 0)] := fun bv ov cv _ rv => by
    have := SlR.read rv w1_len f1 0 (i := 0) l0
    rw [Nat.zero_mul, Nat.add_zero] at this
    exact this
  have wm : IntKind.u64.wrap ((h + 2 * p : Nat) : Int) = ((h + 2 * p : Nat) : Int) := IntWalk.u64_in _ (by omega)
  obtain ⟨bv, ov, cv, hve, hde, rv⟩ := hv.at l0
  have r0 := rz _ _ _ hve rv
  clear rz
  have nv := ne_den hN hde 0
  subst hve
  by_cases hm : w.getD 0 0 > ((h + 2 * p : Nat) : Int)
  · obtain ⟨u1, u2⟩ := un_no (p := p) (h := h) (w := w) (fun h' => by have := h'.2.1; omega)
    rw [u1, u2]
    simp (disch := omega) only [J29, hB, hR, hI, e1, e2, e3, hll, hb, l0, nv, r0, wm, hm, Nat.zero_mul, all1, ress, res1, retV, Value.cells, newsV_s, seval, eV]
    exact ⟨_, _, _, rfl, g1, f1, .inl ⟨rfl, rfl⟩⟩
  unfold u64R at h0u
  obtain ⟨n, hn⟩ : ∃ n : Nat, w.getD 0 0 = (n : Int) := ⟨(w.getD 0 0).toNat, by omega⟩
  have hnn : n ≤ h + 2 * p := by omega
  have hun : unN w = n := by unfold unN; rw [hn]; rfl
  have wn : IntKind.i64.wrap (n : Int) = (n : Int) := IntWalk.i64_in _ (by omega)
  rw [hn] at r0 hm
  simp (disch := omega) only [J29, hB, hR, hI, e1, e2, e3, hll, hb, l0, nv, r0, wm, wn, hm, Nat.zero_mul, all1, ress, res1, retV, Value.cells, newsV_s, seval, eV]
  generalize hX : exec B _ _ (LC.loop _) _ = o
  obtain ⟨x, ⟨ts, H1, N1⟩, ho, g2, fr2, hlc, hr⟩ := (show Ok o _ by rw [← hX]; exact loopgU (c := N.n 0) (n := n) hT C hv hu hl hn hnn g1 f1 (hB 0) lk_top ⟨rfl, rfl, rfl, rfl, rfl, rfl⟩ (by omega))
  subst ho
  simp only at g2 fr2 hlc hr
  have lc := hlc.trans lk_top
  have b0 := hB 0
  have rb0 := rN b0
  rcases hr with ⟨rfl, hok, vo, so, kp⟩ | ⟨rfl, hbad, tl, t4, t5⟩
  · have hw2 := unL_s C hu hok
    obtain ⟨v3, H3, N3, e4, g3, r3, s3⟩ := fPack hT C g2 (so.rd w2_len) hw2
    by_cases hpe : packE p h (unL w n) = 0
    · rw [hpe] at e4
      rw [if_pos hpe] at s3
      have e5 := samesEq g3 (s3.rd w1_len) (hv.mono (fr2.trans r3)) (by rw [packW_len (packE_0 hpe).1]; omega)
      by_cases heq : packW p h (unL w n) = w
      · obtain ⟨u1, u2⟩ := un_ok (p := p) (h := h) (w := w) ⟨hl, by omega, by rw [hun]; exact hok, by rw [hun]; exact hpe, by rw [hun]; exact heq⟩
        rw [u1, u2, hun]
        rw [decide_eq_true heq] at e5
        simp (disch := omega) only [J29, hB, hR, hI, kp.l, kp.t1, kp.t2, kp.t4, kp.t31, kp.t32, lc, b0, rb0, e4, e5, bne_self_eq_false, all1, ress, res1, retV, Value.cells, newsV_s, seval, eV]
        exact ⟨_, _, _, rfl, g3, fr2.trans r3, (so.mono fun y c _ e => r3 y c e).low f1.dm⟩
      · obtain ⟨u1, u2⟩ := un_no (p := p) (h := h) (w := w) (fun h' => by have := h'.2.2.2.2; rw [hun] at this; exact heq this)
        rw [u1, u2]
        rw [decide_eq_false heq] at e5
        simp (disch := omega) only [J29, hB, hR, hI, kp.l, kp.t1, kp.t2, kp.t4, kp.t31, kp.t32, lc, b0, rb0, e4, e5, bne_self_eq_false, all1, ress, res1, retV, Value.cells, newsV_s, seval, eV]
        exact ⟨_, _, _, rfl, g3, fr2.trans r3, .inl ⟨rfl, rfl⟩⟩
    · obtain ⟨u1, u2⟩ := un_no (p := p) (h := h) (w := w) (fun h' => by have := h'.2.2.2.1; rw [hun] at this; exact hpe this)
      rw [u1, u2]
      have hb2 : (packE p h (unL w n) != 0) = true := by simpa using hpe
      simp (disch := omega) only [J29, hB, hR, hI, kp.l, kp.t1, kp.t2, kp.t4, kp.t31, kp.t32, lc, b0, rb0, e4, hb2, all1, ress, res1, retV, Value.cells, newsV_s, seval, eV]
      exact ⟨_, _, _, rfl, g3, fr2.trans r3, .inl ⟨rfl, rfl⟩⟩
  · obtain ⟨u1, u2⟩ := un_no (p := p) (h := h) (w := w) (fun h' => by have := h'.2.2.1; rw [hun] at this; exact hbad this)
    rw [u1, u2]
    simp (disch := omega) only [J29, hB, hR, hI, tl, t4, t5, all1, ress, res1, retV, Value.cells, newsV_s, seval, eV]
    exact ⟨_, _, _, rfl, g2, fr2, .inl ⟨rfl, rfl⟩⟩
structure KUrU (c : Nat) (vw vo : Value) (n i : Nat) (ts : List Value) : Prop where
  l : ts.length = 76
  t1 : gt ts 1 = vw
  t2 : gt ts 2 = .pointer (some ⟨c, 0, none⟩)
  t6 : gt ts 6 = vo
  t7 : gt ts 7 = .int .i64 (i : Int)
end Go.Proofs.YtfhiplfagejfoaaDoor
namespace Go.Proofs.YtfhiplfagejfoaaDoor
open Go.Proofs.YtfhiplfagejfoaaDoor.K Go.ChangeShapes Go.WideShapes Go.ChangeAt Go.RowKit 
set_option maxRecDepth 100000
set_option linter.unusedSimpArgs false
set_option linter.unusedVariables false
structure RdL (B : OH) (kk p cc f n : Nat) (fb cb mb mm b len cap : Nat) (wd : Nat → Int) (k : Nat) (H : HL) : Prop where
  lf : lk H fb = some (.cells [.int .i64 (f : Int)] 1)
  lc : lk H cb = some (.cells [.int .i64 (kk : Int), .int .i64 (p : Int), .int .i64 (cc : Int)] 3)
  lm : lk H mb = some (.cells [.pointer (some ⟨mm, 0, none⟩)] 1)
  lv : lk H mm = some (.cells [.slice (some ⟨b, 0, none⟩) len cap] 1)
  rd : k < n → rdO H B b ((f + k) * 2) 1 (rdB B b ((f + k) * 2) 1) = some [.int .u64 (wd k)]
def Lwloglog1 : FnL := ⟨(.seq (.ops [ol 6 1,om 5 6])
 (.block 0 (.loop (.seq (.seq (.draw [pm 7 5,pl 8 1,oe 9 (.load true 3 (ot 2)), ⟨oa 10 (.call (.func 30) [(ot 9)]), [ol 8 1]⟩,oe 11 (.bin .add (ot 8) (ot 10)),oe 12 (.bin .lss (ot 7) (ot 11))])
 (.cond (ot 12) .skip
 (.exit 0)))
 (.seq (.block 1 (.seq (.ops [om 15 0,om 16 5,ol 17 3,oa 18 (.nilck (ot 17)),og 19 0 18,ol 20 19,om 21 5,oa 22 (.iaddrS 2 (ot 20) (ot 21)),og 23 0 22,ol 24 23,oa 25 (.call (ot 15) [(ot 16), (ot 24)]),oa 26 (.un .not (ot 25))])
 (.cond (ot 26) .ret
 .skip)))
 (.ops [om 13 5,oa 14 (.bin .add (ot 13) (oi 1)),om 5 14])))))),
 27,[]⟩
theorem lowwloglog1 : lowerFn Tryd.prog Tryd.f64 = some Lwloglog1 := by kernel_rfl
noncomputable def Gwloglog1 (B : OH) : Nat → Cs
  | 30 => V11 B
  | _ => fun _ _ _ => none
theorem Gwloglog1_11 {B : OH} : Gwloglog1 B 30 = V11 B := rfl
theorem enwloglog1 : Enter Tryd.prog 64 := .of Tryd.func64 (by kernel_rfl) (by kernel_rfl)
noncomputable abbrev Ewloglog1 (B : OH) (Y : Nat → Cs) : Env := { f := Gwloglog1 B, y := Y }
noncomputable def Iwloglog1 (B : OH) (Y : Nat → Cs) : Cs := callF B (Ewloglog1 B Y) 1000000 Lwloglog1
theorem sIwloglog1 {w0 : World} {B : OH} (Y : Nat → Cs) (hY : SoundY Tryd.prog w0 B Y) : SoundC Tryd.prog w0 B 64 (Iwloglog1 B Y) :=
  callF_sound mixedOrders ⟨fun k => by
    show (∀ args H N, Gwloglog1 B k args H N = none) ∨ _
    unfold Gwloglog1
    split
    · exact .inr ⟨en11, sV11⟩
    · exact .inl fun _ _ _ => rfl, hY, fun _ => .inl fun _ _ _ _ => rfl⟩ 1000000 Tryd.func64 lowwloglog1
structure KLg (lp fb cb mb f k : Nat) (ts : List Value) : Prop where
  l : ts.length = 27
  t0 : gt ts 0 = .func (.yield lp) #[] #[]
  t1 : gt ts 1 = .pointer (some ⟨fb, 0, none⟩)
  t2 : gt ts 2 = .pointer (some ⟨cb, 0, none⟩)
  t3 : gt ts 3 = .pointer (some ⟨mb, 0, none⟩)
  t5 : gt ts 5 = .int .i64 ((f + k : Nat) : Int)
theorem J30 : Said (an @Lwloglog1.eq_1 <| an @Gwloglog1_11 <| an @V11_eq <| trivial) := said_ok _
set_option maxHeartbeats 8000000 in
theorem itLog {B : OH} {Y : Nat → Cs} {l kk p cc h f fb cb mb mm b len cap : Nat} {wd : Nat → Int} {J : Nat → HL → Prop} (hT : Tab B) (C : Cf kk p cc h)
    (hY : ∀ k H N, k < LG p h → J k H → good B H N → ∃ H' N', Y l [.int .i64 ((f + k : Nat) : Int), .int .u64 (wd k)] H N = some (.ret (.bool true), H', N') ∧ good B H' N' ∧ J (k + 1) H')
    (hJ : ∀ k H, k ≤ LG p h → J k H → RdL B kk p cc f (LG p h) fb cb mb mm b len cap wd k H)
    (bf : B fb = none) (bc : B cb = none) (bm : B mb = none) (bv : B mm = none) (hlen : f + LG p h ≤ len) (hlen2 : len ≤ 900000)
    {H : HL} {N : St} (hN : good B H N) (j0 : J 0 H) :
    ∃ H' N', Iwloglog1 B Y [.func (.yield l) #[] #[], .pointer (some ⟨fb, 0, none⟩), .pointer (some ⟨cb, 0, none⟩), .pointer (some ⟨mb, 0, none⟩)] H N = some (.ret (.tuple #[]), H', N') ∧ good B H' N' ∧ J (LG p h) H' := by
  obtain ⟨hB, hR, hI⟩ := gX hN
  have rf := rN bf
  have rc := rN bc
  have rm := rN bm
  have rv := rN bv
  have q0 := hJ 0 H (by omega) j0
  have lf0 := q0.lf
  simp (disch := omega) only [J30, Iwloglog1, hB, hR, hI, lf0, bf, rf, all1, ress, res1, retV, Value.cells, newsV_s, seval, eV]
  generalize hX : exec B _ _ (LC.loop _) _ = o
  have hO : Ok o (fun x s => x = .exit 0 ∧ good B s.H s.N ∧ J (LG p h) s.H) := by
    rw [← hX]
    refine loop_rule (n0 := 100) (fun q s => ∃ ts H' N', ∃ k : Nat, s = ⟨ts, H', N'⟩ ∧ KLg l fb cb mb f k ts ∧ good B H' N' ∧ J k H' ∧ k ≤ LG p h ∧ q = LG p h - k) _ ?_ (LG p h) _ ⟨_, H, N, 0, rfl, ⟨rfl, rfl, rfl, rfl, rfl, rfl⟩, hN, j0, by omega, rfl⟩ _ (by omega)
    clear hX hB hR hI
    rintro z q s ⟨ts, H1, N1, k, rfl, kp, g, j1, hk, rfl⟩
    obtain ⟨hB, hR, hI⟩ := gX g
    obtain ⟨lf, lc, lm, lv, rd⟩ := hJ k H1 hk j1
    have e1 := f11c ⟨H1, N1, g⟩ hT C
    have hc1 : ((f + (k + 1) : Nat) : Int) = ((f + k : Nat) : Int) + 1 := by omega
    have hw : IntKind.i64.wrap ((f : Int) + (LG p h : Int)) = (f : Int) + (LG p h : Int) := IntWalk.i64_in _ (by omega)
    by_cases hin : k < LG p h
    case neg =>
      have h' : ¬ ((f + k : Nat) : Int) < (f : Int) + (LG p h : Int) := by omega
      simp (disch := omega) only [J30, Iwloglog1, hB, hR, hI, kp.l, kp.t0, kp.t1, kp.t2, kp.t3, kp.t5, lf, lc, bf, bc, rf, rc, e1, hw, h', all1, ress, res1, retV, Value.cells, newsV_s, seval, eV]
      obtain rfl : k = LG p h := by omega
      exact ok_some (.inr ⟨by simp, rfl, g, j1⟩)
    have h' : ((f + k : Nat) : Int) < (f : Int) + (LG p h : Int) := by omega
    have rd := rd hin
    have i0 : (0 : Int) ≤ ((f + k : Nat) : Int) := by omega
    have il : f + k < len := by omega
    obtain ⟨H2, N2, ey, g2, j2⟩ := hY k H1 N1 hin j1 g
    simp (disch := omega) only [J30, Iwloglog1, hB, hR, hI, kp.l, kp.t0, kp.t1, kp.t2, kp.t3, kp.t5, lf, lc, lm, lv, bf, bc, bm, bv, rf, rc, rm, rv, e1, hw, h', i0, il, rd, ey, all1, ress, res1, retV, Value.cells, newsV_s, seval, eV]
    refine ok_some (.inl ⟨rfl, LG p h - (k + 1), by omega, _, H2, N2, k + 1, rfl, ⟨?_, ?_, ?_, ?_, ?_, ?_⟩, g2, j2, by omega, rfl⟩)
    all_goals simp (disch := omega) only [kp.l, kp.t0, kp.t1, kp.t2, kp.t3, kp.t5, hc1, Int.cast_ofNat_Int, decide_true, ev2, seval, ev5]
  obtain ⟨x, ⟨ts, H1, N1⟩, rfl, rfl, g1, j1⟩ := hO
  simp only at g1 j1
  simp (disch := omega) only [J30, Iwloglog1, hB, hR, hI, retV, all1, ress, res1, retV, Value.cells, newsV_s, seval, eV]
  exact ⟨_, _, rfl, g1, j1⟩
noncomputable def itR2 (B : OH) : Nat → (Nat → Cs) → Cs
  | 68 => I17 B
  | 64 => Iwloglog1 B
  | _ => fun _ _ _ _ => none
theorem itR2_wloglog1 {B : OH} : itR2 B 64 = Iwloglog1 B := rfl
theorem sitR2 {w0 : World} {B : OH} : ∀ k, (∀ Y args H N, itR2 B k Y args H N = none) ∨ (Enter Tryd.prog k ∧ ∀ Y, SoundY Tryd.prog w0 B Y → SoundC Tryd.prog w0 B k (itR2 B k Y)) := fun k => by
  unfold itR2
  split
  · exact .inr ⟨en17, sI17⟩
  · exact .inr ⟨enwloglog1, sIwloglog1⟩
  · exact .inl fun _ _ _ _ => rfl
end Go.Proofs.YtfhiplfagejfoaaDoor
namespace Go.Proofs.YtfhiplfagejfoaaDoor
open Go.Proofs.YtfhiplfagejfoaaDoor.K Go.ChangeShapes Go.WideShapes Go.ChangeAt Go.RowKit 
set_option maxRecDepth 100000
set_option linter.unusedSimpArgs false
set_option linter.unusedVariables false
def wiped (M : List C2) (a : Nat) : Nat → List C2
  | 0 => M
  | n + 1 => (wiped M a n).set (a + n) z2
theorem wiped_len (M : List C2) (a : Nat) : ∀ n, (wiped M a n).length = M.length
  | 0 => rfl
  | n + 1 => by simp [wiped, wiped_len M a n]
theorem wiped_at (M : List C2) (a : Nat) : ∀ n i, a + n ≤ M.length → (wiped M a n).getD i z2 = if a ≤ i ∧ i < a + n then z2 else M.getD i z2
  | 0, i, _ => by rw [if_neg (by omega)]; rfl
  | n + 1, i, h => by
    have hl := wiped_len M a n
    have ih := wiped_at M a n i (by omega)
    simp only [wiped]
    rw [getD_set _ _ _ _ _ (by omega)]
    by_cases e : a + n = i
    · rw [if_pos e, if_pos (by omega)]
    · rw [if_neg e, ih]
      by_cases h1 : a ≤ i ∧ i < a + n
      · rw [if_pos h1, if_pos (by omega)]
      · rw [if_neg h1, if_neg (by omega)]
def memOk (p h : Nat) (q : Int) (M : List C2) : Prop := (0 ≤ q ∧ q < (p : Int)) ∧ M.length = bs p h 5
instance (p h : Nat) (q : Int) (M : List C2) : Decidable (memOk p h q M) := by unfold memOk; exact inferInstance
def lgA (p h : Nat) (q : Int) : Nat := bs p h 3 + LG p h * q.toNat
theorem lgA_b {kk p cc h : Nat} (C : Cf kk p cc h) {q : Int} {M : List C2} (H : memOk p h q M) : lgA p h q + LG p h ≤ M.length ∧ M.length ≤ 35000 := by
  have h1 := lgq_b C (q := q.toNat) (by have := H.1; omega)
  have h2 := bs4_5 (p := p) (h := h)
  have h3 := bs5_b C
  have h4 := H.2
  unfold lgA; omega
def wipE (p h : Nat) (q : Int) (M : List C2) : Int := if memOk p h q M then 0 else 1
def wipR (p h : Nat) (q : Int) (M : List C2) : List C2 := if memOk p h q M then wiped M (lgA p h q) (LG p h) else []
def Lwloglog : FnL := ⟨(.seq (.ops [oa 3 (.box (ot 0)),oa 4 (.box (ot 1)),oa 6 (.mv (.const .nilFunc))])
 (.seq (.ops [oa 9 (.load true 3 (ot 3)),oa 10 (.call (.func 45) [(ot 9)]),oa 11 (.call (.func 44) [(ot 10), (oi 5)])])
 (.seq (.ops [oa 13 (.load true 3 (ot 3)),om 14 2,oa 15 (.call (.func 31) [(ot 13), (oi 3), (ot 14)]),om 12 15,oa 16 (.ext (ot 12) 0),oa 17 (.ext (ot 12) 1),oa 7 (.alloc [(.int .i64 0)]), oc (.store 1 (ot 7) (ot 16)),om 8 17])
 (.seq (.draw [pm 18 8,oe 19 (.bin .eql (ot 18) (oi 0)),pm 20 19, ⟨ob 21 (.load false 1 (ot 4)) 20 true,[]⟩,⟨ob 22 (.nilck (ot 21)) 20 true,[]⟩,⟨ob 23 (.faddr 0 (ot 22)) 20 true,[]⟩,⟨ob 24 (.load false 1 (ot 23)) 20 true,[]⟩,⟨ob 25 (.len false (ot 24)) 20 true,[]⟩,⟨ob 26 (.load true 3 (ot 3)) 20 true,[]⟩,⟨ob 27 (.call (.func 41) [(ot 26)]) 20 true, [ob 21 (.load false 1 (ot 4)) 20 true,ob 24 (.load false 1 (ot 23)) 20 true]⟩,⟨ob 28 (.bin .eql (ot 25) (ot 27)) 20 true,[]⟩,oe 29 (.pick (ot 20) (ot 28) (.const (.bool false))),oe 30 (.call (.func 44) [(ot 29), (oi 1)])])
 (.seq (.ops [oa 31 (.fn (.func 64) [] [(ot 7), (ot 3), (ot 4)]),om 6 31])
 .ret))))),
 32, [.tmp 6]⟩
theorem lowwloglog : lowerFn Tryd.prog Tryd.f51 = some Lwloglog := by kernel_rfl
noncomputable def Gwloglog (B : OH) : Nat → Cs
  | 31 => V10 B
  | 45 => V13 B
  | 41 => V7 B
  | 44 => Vwlogwant B
  | _ => fun _ _ _ => none
theorem Gwloglog_10 {B : OH} : Gwloglog B 31 = V10 B := rfl
theorem Gwloglog_13 {B : OH} : Gwloglog B 45 = V13 B := rfl
theorem Gwloglog_7 {B : OH} : Gwloglog B 41 = V7 B := rfl
theorem Gwloglog_wlogwant {B : OH} : Gwloglog B 44 = Vwlogwant B := rfl
theorem sGwloglog {w0 : World} {B : OH} : SoundG Tryd.prog w0 B { f := Gwloglog B } := .of fun k => by
  unfold Gwloglog
  split
  · exact .inr ⟨en10, sV10⟩
  · exact .inr ⟨en13, sV13⟩
  · exact .inr ⟨en7, sV7⟩
  · exact .inr ⟨enwlogwant, sVwlogwant⟩
  · exact .inl fun _ _ _ => rfl
theorem enwloglog : Enter Tryd.prog 51 := .of Tryd.func51 (by kernel_rfl) (by kernel_rfl)
noncomputable def Twloglog (B : OH) : Cs := callF B { f := Gwloglog B } 1000000 Lwloglog
theorem sTwloglog {w0 : World} {B : OH} : SoundC Tryd.prog w0 B 51 (Twloglog B) := callF_sound mixedOrders sGwloglog 1000000 Tryd.func51 lowwloglog
noncomputable def Vwloglog (B : OH) : Cs := Twloglog B
theorem sVwloglog {w0 : World} {B : OH} : SoundC Tryd.prog w0 B 51 (Vwloglog B) := sTwloglog
def LgW : FnD := ⟨(.ops [oa 3 (.box (ot 0)),oa 4 (.box (ot 1)),oa 6 (.alloc [(.slice none 0 0)]),oa 7 (.alloc [(.int .i64 0)])]), 43, [(ot 7)],(.seq (.ops [og 10 0 4,ol 11 10,oa 12 (.call (.func 50) [(ot 11)]),oa 13 (.build [(.slice none 0 0)] [(0, 1, (ot 12))]),oa 8 (.alloc [(.slice none 0 0)]), oc (.store 1 (ot 8) (ot 13))])
 (.seq (.seq (.ops [oa 14 (.load true 3 (ot 3)),om 15 2,oa 16 (.call (.func 51) [(ot 14), (ot 8), (ot 15)])])
 (.block 0 (.range (ot 16) [17, 18] (.ops [om 9 17])
 (.block 1 (.ops [om 19 9,oa 20 (.call (.func 52) [(ot 8), (ot 19), (ou 0)])])))))
 (.seq (.ops [oa 21 (.load true 1 (ot 8)), oc (.store 1 (ot 6) (ot 21)), oc (.store 1 (ot 7) (oi 0))])
 .ret))),
 22, [.cell 6 true 1, .cell 7 false 1]⟩
theorem lowgW : lowerDfr Tryd.prog Tryd.f26 = some LgW := by kernel_rfl
noncomputable def GgW (B : OH) : Nat → Cs
  | 52 => VcellsStore B
  | 50 => VsCl B
  | 51 => Vwloglog B
  | _ => fun _ _ _ => none
theorem GgW_cellsStore {B : OH} : GgW B 52 = VcellsStore B := rfl
theorem GgW_sCl {B : OH} : GgW B 50 = VsCl B := rfl
theorem GgW_wloglog {B : OH} : GgW B 51 = Vwloglog B := rfl
noncomputable abbrev EgW (B : OH) : Env := { f := GgW B, it := itR2 B }
theorem sGgW {w0 : World} {B : OH} : SoundG Tryd.prog w0 B (EgW B) :=
  ⟨fun k => by
    show (∀ args H N, GgW B k args H N = none) ∨ _
    unfold GgW
    split
    · exact .inr ⟨encellsStore, sVcellsStore⟩
    · exact .inr ⟨ensCl, sVsCl⟩
    · exact .inr ⟨enwloglog, sVwloglog⟩
    · exact .inl fun _ _ _ => rfl, fun _ => .inl fun _ _ _ => rfl, sitR2⟩
theorem engW : Enter Tryd.prog 26 := .of Tryd.func26 (by kernel_rfl) (by kernel_rfl)
noncomputable def DgW (B : OH) : Nat → Ds
  | 43 => Uwlogcaught B
  | _ => fun _ _ _ _ => none
theorem DgW_wlogcaught {B : OH} : DgW B 43 = Uwlogcaught B := rfl
noncomputable def TgW (B : OH) : Cs := callD B (EgW B) (DgW B) 1000000 LgW
theorem sTgW {w0 : World} {B : OH} : SoundC Tryd.prog w0 B 26 (TgW B) := callD_sound mixedOrders sGgW 1000000 Tryd.func26 lowgW enwlogcaught sUwlogcaught
noncomputable def VgW (B : OH) : Cs := TgW B
theorem sVgW {w0 : World} {B : OH} : SoundC Tryd.prog w0 B 26 (VgW B) := sTgW
theorem J31 : Said (an @TgW.eq_1 <| an @LgW.eq_1 <| an @GgW_cellsStore <| an @GgW_sCl <| an @GgW_wloglog <| an @Vwloglog.eq_1 <| an @Twloglog.eq_1 <| an @Lwloglog.eq_1 <| an @Gwloglog_10 <| an @V10_eq <| an @Gwloglog_13 <| an @V13_eq <| an @Gwloglog_7 <| an @V7_eq <| an @Gwloglog_wlogwant <| an @Vwlogwant.eq_1 <| an @Twlogwant.eq_1 <| an @Lwlogwant.eq_1 <| an @DgW_wlogcaught <| an @Uwlogcaught.eq_1 <| an @Lwlogcaught.eq_1 <| trivial) := said_ok _
set_option maxHeartbeats 8000000 in
theorem fWipe {B : OH} {H : HL} {N : St} {vm : Value} {M : List C2} {kk p cc h : Nat} {q : Int} (hT : Tab B) (C : Cf kk p cc h) (hN : good B H N) (hv : SlW c2 2 B H vm M) (hM : M.length ≤ 800000) :
    ∃ v' H' N', VgW B [.agg #[.int .i64 (kk : Int), .int .i64 (p : Int), .int .i64 (cc : Int)], .agg #[vm], .int .i64 q] H N = some (.ret (.tuple #[.agg #[v'], .int .i64 (wipE p h q M)]), H', N') ∧ good B H' N' ∧ Fr H H' ∧ SlM c2 2 B H H' v' (wipR p h q M) := by
  obtain ⟨hB, hR, hI⟩ := gX hN
  have hG : ∃ H N, good B H N := ⟨H, N, hN⟩
  have e1 := f13 hG kk p cc (cfit C).1 (cfit C).2.1 (cfit C).2.2
  have e2 := f7c hG hT C
  have ne : ∀ i j, i ≠ j → N.n i ≠ N.n j := fun i j hij e => by
    have := hI i j
    rw [e] at this; simp at this; exact hij this
  obtain ⟨am, cm, rfl, _⟩ := id hv
  obtain ⟨H0, hH0⟩ : ∃ H0, H0 = (N.n 3, KB.cells [.int .i64 0] 1) :: (N.n 2, .cells [.slice none 0 0] 1) :: (N.n 1, .cells [.slice am M.length cm] 1) :: (N.n 0, .cells [.int .i64 (kk : Int), .int .i64 (p : Int), .int .i64 (cc : Int)] 3) :: H := ⟨_, rfl⟩
  have g0 : good B H0 (sh (sh (sh (sh N)))) := by rw [hH0]; exact good_new (good_new (good_new (good_new hN)))
  have f0 : Fr H H0 := by
    rw [hH0]
    have a1 := good_new (k := .cells [.int .i64 (kk : Int), .int .i64 (p : Int), .int .i64 (cc : Int)] 3) hN
    have a2 := good_new (k := .cells [.slice am M.length cm] 1) a1
    have a3 := good_new (k := .cells [.slice none 0 0] 1) a2
    exact fr_new a3 (fr_new a2 (fr_new a1 (fr_new hN Fr.refl 0) 0) 0) 0
  have q2 : lk H0 (N.n 2) = some (.cells [.slice none 0 0] 1) := by rw [hH0]; simp only [lk_cons, hI]; rfl
  have q3 : lk H0 (N.n 3) = some (.cells [.int .i64 0] 1) := by rw [hH0]; simp only [lk_cons, hI]; rfl
  have q0 : lk H0 (N.n 0) = some (.cells [.int .i64 (kk : Int), .int .i64 (p : Int), .int .i64 (cc : Int)] 3) := by rw [hH0]; simp only [lk_cons, hI]; rfl
  obtain ⟨v', H1, N1, ec, g1, r1, s1⟩ := clone g0 (hv.mono f0) (by omega)
  have q2' := r1 _ _ q2
  have q3' := r1 _ _ q3
  have q0' := r1 _ _ q0
  have b0 := hB 0
  have b2 := hB 2
  have b3 := hB 3
  have rb0 := rN b0
  have rb2 := rN b2
  have rb3 := rN b3
  have hB1 := good_B g1
  have hR1 := good_rdB g1
  have hI1 := beqN g1.1.1
  have m0 := ne_N g1 q0'
  have m0' := ne_N' g1 q0'
  have m2 := ne_N g1 q2'
  have m2' := ne_N' g1 q2'
  have m3 := ne_N g1 q3'
  have m3' := ne_N' g1 q3'
  have s1l := s1.len
  obtain ⟨a1, c1, rfl, _⟩ := id (s1.rd c2_len)
  have n23 : (N.n 2 == N.n 3) = false := by rw [hI]; rfl
  have n32 : (N.n 3 == N.n 2) = false := by rw [hI]; rfl
  rw [hH0] at ec
  unfold VgW
  by_cases hok : memOk p h q M
  case neg =>
    have hE : wipE p h q M = 1 := if_neg hok
    have hRR : wipR p h q M = [] := if_neg hok
    rw [hE, hRR]
    have hfin : ∀ (w : Nat → KB), True := fun _ => trivial
    by_cases hq : 0 ≤ q ∧ q < (p : Int)
    · have hl : ((M.length : Int) == ((bs p h 5 : Nat) : Int)) = false := beqI (fun e => hok ⟨hq, by omega⟩)
      obtain ⟨n, rfl⟩ : ∃ n : Nat, q = (n : Int) := ⟨q.toNat, by omega⟩
      have e3 := f10c3 hG hT C (q := n) (by omega)
      simp (disch := omega) only [J31, hB, hR, hI, itR2_wloglog1, List.cons_append, EgW, e1, e2, e3, ec, q0', q2', q3', b0, b2, b3, rb0, rb2, rb3, hB1, hR1, hI1, m0, m0', m2, m2', m3, m3', n23, n32, hl, all1, ress, res1, retV, Value.cells, newsV_s, seval, eV]
      refine ⟨_, _, _, rfl, ?_, ?_, .inl ⟨rfl, rfl⟩⟩
      · exact (good_new (k := .cells [.int .i64 1] 1) (good_up (k := .cells [.int .i64 1] 1) (good_new (good_new (good_new (good_new g1)))) b3 (by simp only [lk_cons, sh_app, m3, cond_false]; exact q3'))) |> fun h => by simpa only [upH_cons, sh_app, m3, cond_false] using h
      · exact (fr_new (k := .cells [.int .i64 1] 1) (good_up (k := .cells [.int .i64 1] 1) (good_new (good_new (good_new (good_new g1)))) b3 (by simp only [lk_cons, sh_app, m3, cond_false]; exact q3')) (fr_up (fr_new (good_new (good_new (good_new g1))) (fr_new (good_new (good_new g1)) (fr_new (good_new g1) (fr_new g1 (f0.trans r1) 0) 0) 0) 0) (lk_N hN 3)) 0) |> fun h => by simpa only [upH_cons, sh_app, m3, cond_false] using h
    · have e3 := f10o hG C q (by omega)
      have h10 : ((1 : Int) == 0) = false := rfl
      simp (disch := omega) only [J31, hB, hR, hI, itR2_wloglog1, List.cons_append, EgW, e1, e2, e3, ec, q0', q2', q3', b0, b2, b3, rb0, rb2, rb3, hB1, hR1, hI1, m0, m0', m2, m2', m3, m3', n23, n32, h10, all1, ress, res1, retV, Value.cells, newsV_s, seval, eV]
      refine ⟨_, _, _, rfl, ?_, ?_, .inl ⟨rfl, rfl⟩⟩
      · exact (good_new (k := .cells [.int .i64 1] 1) (good_up (k := .cells [.int .i64 1] 1) (good_new (good_new (good_new (good_new g1)))) b3 (by simp only [lk_cons, sh_app, m3, cond_false]; exact q3'))) |> fun h => by simpa only [upH_cons, sh_app, m3, cond_false] using h
      · exact (fr_new (k := .cells [.int .i64 1] 1) (good_up (k := .cells [.int .i64 1] 1) (good_new (good_new (good_new (good_new g1)))) b3 (by simp only [lk_cons, sh_app, m3, cond_false]; exact q3')) (fr_up (fr_new (good_new (good_new (good_new g1))) (fr_new (good_new (good_new g1)) (fr_new (good_new g1) (fr_new g1 (f0.trans r1) 0) 0) 0) 0) (lk_N hN 3)) 0) |> fun h => by simpa only [upH_cons, sh_app, m3, cond_false] using h
  have hE : wipE p h q M = 0 := if_pos hok
  have hRR : wipR p h q M = wiped M (lgA p h q) (LG p h) := if_pos hok
  rw [hE, hRR]
  have hb := lgA_b C hok
  obtain ⟨n, rfl⟩ : ∃ n : Nat, q = (n : Int) := ⟨q.toNat, by have := hok.1; omega⟩
  have e3 := f10c3 hG hT C (q := n) (by have := hok.1; omega)
  have hlA : bs p h 3 + LG p h * n = lgA p h (n : Int) := rfl
  rw [hlA] at e3
  generalize lgA p h (n : Int) = A at *
  have hl : ((M.length : Int) == ((bs p h 5 : Nat) : Int)) = true := by rw [hok.2]; exact beq_self_eq_true _
  have hlb := LG_b C
  rcases s1 with ⟨h0, _⟩ | ⟨b, cap, rest, hve, bb, h0b, hle, hlk⟩
  · rw [h0] at hb; simp at hb; omega
  injection hve with hv1 hv2 hv3
  subst hv1 hv3
  simp (disch := omega) only [J31, hB, hR, hI, itR2_wloglog1, List.cons_append, EgW, e1, e2, e3, ec, q0', q2', q3', b0, b2, b3, rb0, rb2, rb3, hB1, hR1, hI1, m0, m0', m2, m2', m3, m3', n23, n32, hl, all1, ress, res1, retV, Value.cells, newsV_s, seval, eV]
  generalize hX : Iwloglog1 B _ _ _ _ = o
  obtain ⟨HH, hHH⟩ : ∃ HH, HH = (N1.n 5, KB.loop (N1.r 5) .ready) :: (N1.n 4, .dfr) :: (N1.n 3, .cells [.int .i64 (A : Int)] 1) :: (N1.n 2, .cells [.pointer (some ⟨N1.n 0, 0, none⟩)] 1) :: (N1.n 1, .cells [.int .i64 (kk : Int), .int .i64 (p : Int), .int .i64 (cc : Int)] 3) :: (N1.n 0, .cells [.slice (some ⟨b, 0, none⟩) M.length c1] 1) :: H1 := ⟨_, rfl⟩
  have a1 := good_new (k := .cells [.slice (some ⟨b, 0, none⟩) M.length c1] 1) g1
  have a2 := good_new (k := .cells [.int .i64 (kk : Int), .int .i64 (p : Int), .int .i64 (cc : Int)] 3) a1
  have a3 := good_new (k := .cells [.pointer (some ⟨N1.n 0, 0, none⟩)] 1) a2
  have a4 := good_new (k := .cells [.int .i64 (A : Int)] 1) a3
  have a5 := good_new (k := .dfr) a4
  have gH : good B HH (sh (sh (sh (sh (sh (sh N1)))))) := by rw [hHH]; exact good_new a5
  have fH : Fr H1 HH := by rw [hHH]; exact fr_new a5 (fr_new a4 (fr_new a3 (fr_new a2 (fr_new a1 (fr_new g1 Fr.refl 0) 0) 0) 0) 0) 0
  have p0 : lk HH (N1.n 0) = some (.cells [.slice (some ⟨b, 0, none⟩) M.length c1] 1) := by rw [hHH]; simp only [lk_cons, hI1]; rfl
  have p1 : lk HH (N1.n 1) = some (.cells [.int .i64 (kk : Int), .int .i64 (p : Int), .int .i64 (cc : Int)] 3) := by rw [hHH]; simp only [lk_cons, hI1]; rfl
  have p2 : lk HH (N1.n 2) = some (.cells [.pointer (some ⟨N1.n 0, 0, none⟩)] 1) := by rw [hHH]; simp only [lk_cons, hI1]; rfl
  have p3 : lk HH (N1.n 3) = some (.cells [.int .i64 (A : Int)] 1) := by rw [hHH]; simp only [lk_cons, hI1]; rfl
  have p5 : lk HH (N1.n 5) = some (.loop (N1.r 5) .ready) := by rw [hHH]; simp only [lk_cons, hI1]; rfl
  have nb1 := ne_N g1 hlk
  have nbi : ∀ i, N1.n i ≠ b := fun i e => by have := nb1 i; rw [e] at this; simp at this
  have ni : ∀ i j, i ≠ j → N1.n i ≠ N1.n j := fun i j hij e => by
    have := hI1 i j
    rw [e] at this; simp at this; exact hij this
  have sH : SlM c2 2 B H HH (.slice (some ⟨b, 0, none⟩) M.length c1) M := .inr ⟨b, c1, rest, rfl, bb, f0.dm _ h0b, hle, fH _ _ hlk⟩
  have hO : ∃ H' N', o = some (.ret (.tuple #[]), H', N') ∧ good B H' N' ∧ (lk H' (N1.n 5) = some (.loop (N1.r 5) .ready) ∧ (∀ y c, y ≠ N1.n 5 → y ≠ b → lk HH y = some c → lk H' y = some c) ∧ SlM c2 2 B H H' (.slice (some ⟨b, 0, none⟩) M.length c1) (wiped M A (LG p h))) := by
    rw [← hX, ← hHH]
    refine itLog (J := fun k H' => lk H' (N1.n 5) = some (.loop (N1.r 5) .ready) ∧ (∀ y c, y ≠ N1.n 5 → y ≠ b → lk HH y = some c → lk H' y = some c) ∧ SlM c2 2 B H H' (.slice (some ⟨b, 0, none⟩) M.length c1) (wiped M A k)) (kk := kk) (cc := cc) (f := A) (l := N1.n 5) (fb := N1.n 3) (cb := N1.n 1) (mb := N1.n 2) (b := b) (mm := N1.n 0) (len := M.length) (cap := c1) (wd := fun k => (M.getD (A + k) z2).w) hT C ?_ ?_ (hB1 3) (hB1 1) (hB1 2) (hB1 0) (by omega) (by omega) gH ⟨p5, fun _ _ _ _ e => e, sH⟩
    · rintro k H2 N2 hk ⟨j5, jp, js⟩ g2
      have hBo := hB1
      obtain ⟨hB, hR, hI⟩ := gX g2
      have b5 := hBo 5
      have x5 := ne_N g2 j5
      have x5' := ne_N' g2 j5
      have gb := good_set (k := .loop (N1.r 5) .busy) g2 b5 j5
      have nb5 : (b == N1.n 5) = false := eqb (Ne.symm (nbi 5))
      have nb5' : (N1.n 5 == b) = false := eqb (nbi 5)
      have jsb : SlM c2 2 B H ((N1.n 5, .loop (N1.r 5) .busy) :: H2) (.slice (some ⟨b, 0, none⟩) M.length c1) (wiped M A k) := js.mono fun y c hy e => by
        have : y = b := by simpa [slB] using hy.symm
        rw [lk_cons, this, nb5, cond_false, ← this]; exact e
      have jp0 := jp _ _ (ni 0 5 (by decide)) (nbi 0) p0
      have n05 : (N1.n 0 == N1.n 5) = false := by rw [hI1]; rfl
      have hwl := wiped_len M A k
      obtain ⟨H3, N3, es, g3, s3, k3⟩ := store (v := .slice (some ⟨b, 0, none⟩) M.length c1) (m := N1.n 0) (i := A + k) (w := 0) gb jsb (by rw [lk_cons, n05, cond_false]; exact jp0) (hBo 0) (by simpa [slB] using (nbi 0).symm) (by omega) (by omega)
      have l5 := k3 (N1.n 5) _ (by simpa [slB] using (nbi 5).symm) lk_top
      simp (disch := omega) only [J31, hB, hR, hI, itR2_wloglog1, List.cons_append, EgW, j5, b5, x5, x5', es, l5, all1, ress, res1, retV, Value.cells, newsV_s, seval, eV]
      refine ⟨_, _, rfl, good_set (k' := .loop (N1.r 5) .busy) g3 b5 l5, lk_top, fun y c h1 h2 e => ?_, ?_⟩
      · have y5 : (y == N1.n 5) = false := eqb h1
        rw [lk_cons, y5, cond_false]
        exact k3 y c (by simpa [slB] using Ne.symm h2) (by rw [lk_cons, y5, cond_false]; exact jp y c h1 h2 e)
      · refine SlM.mono s3 fun y c hy e => ?_
        have : y = b := by simpa [slB] using hy.symm
        rw [lk_cons, this, nb5, cond_false, ← this]; exact e
    · rintro k H2 hk ⟨j5, jp, js⟩
      refine ⟨jp _ _ (ni 3 5 (by decide)) (nbi 3) p3, jp _ _ (ni 1 5 (by decide)) (nbi 1) p1, jp _ _ (ni 2 5 (by decide)) (nbi 2) p2, jp _ _ (ni 0 5 (by decide)) (nbi 0) p0, fun hk2 => ?_⟩
      have hwl := wiped_len M A k
      have hwa := wiped_at M A k (A + k) (by omega)
      rw [if_neg (by omega)] at hwa
      rcases js with ⟨h0, _⟩ | ⟨b', cap', rest', he, bb', _, hle', hlk'⟩
      · rw [h0] at hwl; simp at hwl; omega
      injection he with he1 he2 he3
      injection he1 with he1
      injection he1 with he1
      subst he1
      rw [rdB_none bb', rdO_none, bb', rdN_none, hlk', rdL_some, k_cells]
      have := fl_read c2_len (wiped M A k) rest' (A + k) 0 1 z2 (by omega) (by omega)
      rw [Nat.add_zero, hwa] at this
      rw [this]; rfl
  obtain ⟨H2, N2, rfl, g2, j5, jp, js⟩ := hO
  have e2b : N.n 2 ≠ b := fun e => by rw [← e, q2] at h0b; cases h0b
  have e3b : N.n 3 ≠ b := fun e => by rw [← e, q3] at h0b; cases h0b
  have e25 : N.n 2 ≠ N1.n 5 := fun e => by have := m2 5; rw [e] at this; simp at this
  have e35 : N.n 3 ≠ N1.n 5 := fun e => by have := m3 5; rw [e] at this; simp at this
  have w2 := jp _ _ e25 e2b (fH _ _ q2')
  have w3 := jp _ _ e35 e3b (fH _ _ q3')
  have w0 := jp _ _ (ni 0 5 (by decide)) (nbi 0) p0
  have b10 := hB1 0
  have rb10 := rN b10
  have b15 := hB1 5
  have x05 : (N1.n 0 == N1.n 5) = false := by rw [hI1]; rfl
  have y2 : (N.n 2 == N1.n 5) = false := eqb e25
  have y3 : (N.n 3 == N1.n 5) = false := eqb e35
  have y2' : (N1.n 5 == N.n 2) = false := eqb e25.symm
  have y3' : (N1.n 5 == N.n 3) = false := eqb e35.symm
  simp (disch := omega) only [J31, hB, hR, hI, itR2_wloglog1, List.cons_append, EgW, j5, w0, w2, w3, b10, rb10, b15, b2, b3, rb2, rb3, x05, y2, y3, y2', y3', n23, n32, all1, ress, res1, retV, Value.cells, newsV_s, seval, eV]
  have z1 := good_set (k := .loop (N1.r 5) .over) g2 b15 j5
  have z2' := good_up (k := .cells [.slice (some ⟨b, 0, none⟩) M.length c1] 1) z1 b2 (by rw [lk_cons, y2, cond_false]; exact w2)
  have z3 := good_up (k := .cells [.int .i64 0] 1) z2' b3 (by rw [lk_upH, n32, cond_false, lk_cons, y3, cond_false]; exact w3)
  have fj : Fr H ((N1.n 5, .loop (N1.r 5) .over) :: H2) := fun y c e => by
    have e0 := f0 _ _ e
    have e1 := r1 _ _ e0
    have h1 : y ≠ N1.n 5 := fun h => by have := ne_N g1 e1 5; rw [h] at this; simp at this
    have h2 : y ≠ b := fun h => by rw [← h, e0] at h0b; cases h0b
    rw [lk_cons, eqb h1, cond_false]
    exact jp y c h1 h2 (fH _ _ e1)
  have fz := fr_up (k := .cells [.int .i64 0] 1) (fr_up (k := .cells [.slice (some ⟨b, 0, none⟩) M.length c1] 1) fj (lk_N hN 2)) (lk_N hN 3)
  simp only [upH_cons, y2, y3, cond_false] at z3 fz
  refine ⟨_, _, _, rfl, z3, fz, SlM.mono js fun y c hy e => ?_⟩
  have hyb : y = b := by simpa [slB] using hy.symm
  subst hyb
  have k5 : (y == N1.n 5) = false := eqb (nbi 5).symm
  have k2 : (y == N.n 2) = false := eqb e2b.symm
  have k3 : (y == N.n 3) = false := eqb e3b.symm
  simp (disch := omega) only [J31, hB, hR, hI, itR2_wloglog1, List.cons_append, EgW, k5, k2, k3, e, all1, ress, res1, retV, Value.cells, newsV_s, seval, eV]
end Go.Proofs.YtfhiplfagejfoaaDoor
namespace Go.Proofs.YtfhiplfagejfoaaDoor
open Go.Proofs.YtfhiplfagejfoaaDoor.K Go.ChangeShapes Go.WideShapes Go.ChangeAt Go.RowKit 
set_option maxRecDepth 100000
set_option linter.unusedSimpArgs false
set_option linter.unusedVariables false
def wdsL (M : List C2) (A : Nat) : Nat → List Int
  | 0 => []
  | n + 1 => wdsL M A n ++ [(M.getD (A + n) z2).w]
theorem wdsL_len (M : List C2) (A : Nat) : ∀ n, (wdsL M A n).length = n
  | 0 => rfl
  | n + 1 => by simp [wdsL, wdsL_len M A n]
def C2s (M : List C2) : Prop := ∀ x ∈ M, u64R x.w ∧ i64R x.l
theorem C2s.at {K : List C2} (h : C2s K) (i : Nat) : u64R (K.getD i z2).w ∧ i64R (K.getD i z2).l := by
  rcases Nat.lt_or_ge i K.length with hi | hi
  · exact h _ (List.mem_of_getElem? (some_getD (d := z2) hi))
  · rw [List.getD_eq_getElem?_getD, List.getElem?_eq_none hi]
    unfold u64R i64R; simp [z2]
theorem wdsL_u {M : List C2} (h : C2s M) (A : Nat) : ∀ n, U64s (wdsL M A n)
  | 0 => fun x hx => by cases hx
  | n + 1 => fun x hx => by
    simp only [wdsL] at hx
    rcases List.mem_append.1 hx with h' | h'
    · exact wdsL_u h A n x h'
    · rw [List.mem_singleton.1 h']; exact (h.at _).1
def lay (M : List C2) (l : List W2) : Nat → List C2
  | 0 => M
  | n + 1 => (lay M l n).set (l.getD n y2).a.toNat ⟨(l.getD n y2).w, 0⟩
theorem lay_len (M : List C2) (l : List W2) : ∀ n, (lay M l n).length = M.length
  | 0 => rfl
  | n + 1 => by simp [lay, lay_len M l n]
noncomputable def layE (p h : Nat) (q : Int) (M : List C2) : Int := if memOk p h q M then unE p h (wdsL M (lgA p h q) (LG p h)) else 1
open Classical in
noncomputable def layR (p h : Nat) (q : Int) (M : List C2) : List C2 := if memOk p h q M ∧ unOk p h (wdsL M (lgA p h q) (LG p h)) then lay M (unR p h (wdsL M (lgA p h q) (LG p h))) (unR p h (wdsL M (lgA p h q) (LG p h))).length else []
def lbLy : LC := (.seq (.ops [oa 40 (.bin .lss (ot 39) (ot 38))])
 (.seq (.cond (ot 40) .skip
 (.exit 2))
 (.seq (.block 3 (.seq (.ops [oa 41 (.iaddrS 2 (ot 37) (ot 39)),oa 42 (.load true 2 (ot 41)),oa 14 (.alloc [(.int .i64 0), (.int .u64 0)]), oc (.store 2 (ot 14) (ot 42))])
 (.ops [og 43 0 14,ol 44 43,og 45 1 14,ol 46 45,oa 47 (.call (.func 52) [(ot 8), (ot 44), (ot 46)])])))
 (.ops [oa 48 (.bin .add (ot 39) (oi 1)),om 39 48]))))
def LgL : FnD := ⟨(.ops [oa 3 (.box (ot 0)),oa 4 (.box (ot 1)),oa 6 (.alloc [(.slice none 0 0)]),oa 7 (.alloc [(.int .i64 0)])]), 43, [(ot 7)],(.seq (.ops [og 15 0 4,ol 16 15,oa 17 (.call (.func 50) [(ot 16)]),oa 18 (.build [(.slice none 0 0)] [(0, 1, (ot 17))]),oa 8 (.alloc [(.slice none 0 0)]), oc (.store 1 (ot 8) (ot 18))])
 (.seq (.ops [oa 9 (.alloc [(.slice none 0 0)])])
 (.seq (.seq (.ops [oa 19 (.load true 3 (ot 3)),om 20 2,oa 21 (.call (.func 51) [(ot 19), (ot 8), (ot 20)])])
 (.block 0 (.range (ot 21) [22, 23] (.ops [om 11 23])
 (.block 1 (.ops [ol 24 9,om 25 11,oa 26 (.buildS [(.int .u64 0)] 1 [(0, 1, (ot 25))]),oa 27 (.app [(.int .u64 0)] 8 (ot 24) (ot 26)), oc (.store 1 (ot 9) (ot 27))])))))
 (.seq (.ops [oa 29 (.load true 3 (ot 3)),ol 30 9,oa 31 (.call (.func 18) [(ot 29), (ot 30)]),om 28 31,oa 32 (.ext (ot 28) 0),oa 33 (.ext (ot 28) 1),om 12 32, oc (.store 1 (ot 7) (ot 33))])
 (.seq (.ops [ol 34 7,oa 35 (.bin .eql (ot 34) (oi 0)),oa 36 (.call (.func 44) [(ot 35), (oi 2)])])
 (.seq (.seq (.ops [om 37 12,oa 38 (.len false (ot 37)),oa 39 (.mv (oi 0))])
 (.block 2 (.loop lbLy)))
 (.seq (.ops [oa 49 (.load true 1 (ot 8)), oc (.store 1 (ot 6) (ot 49)), oc (.store 1 (ot 7) (oi 0))])
 .ret))))))),
 50, [.cell 6 true 1, .cell 7 false 1]⟩
theorem lowgL : lowerDfr Tryd.prog Tryd.f24 = some LgL := by kernel_rfl
noncomputable def GgL (B : OH) : Nat → Cs
  | 52 => VcellsStore B
  | 50 => VsCl B
  | 18 => VgU B
  | 51 => Vwloglog B
  | 44 => Vwlogwant B
  | _ => fun _ _ _ => none
theorem GgL_cellsStore {B : OH} : GgL B 52 = VcellsStore B := rfl
theorem GgL_sCl {B : OH} : GgL B 50 = VsCl B := rfl
theorem GgL_gU {B : OH} : GgL B 18 = VgU B := rfl
theorem GgL_wloglog {B : OH} : GgL B 51 = Vwloglog B := rfl
theorem GgL_wlogwant {B : OH} : GgL B 44 = Vwlogwant B := rfl
noncomputable abbrev EgL (B : OH) : Env := { f := GgL B, it := itR2 B }
theorem sGgL {w0 : World} {B : OH} : SoundG Tryd.prog w0 B (EgL B) :=
  ⟨fun k => by
    show (∀ args H N, GgL B k args H N = none) ∨ _
    unfold GgL
    split
    · exact .inr ⟨encellsStore, sVcellsStore⟩
    · exact .inr ⟨ensCl, sVsCl⟩
    · exact .inr ⟨engU, sVgU⟩
    · exact .inr ⟨enwloglog, sVwloglog⟩
    · exact .inr ⟨enwlogwant, sVwlogwant⟩
    · exact .inl fun _ _ _ => rfl, fun _ => .inl fun _ _ _ => rfl, sitR2⟩
theorem engL : Enter Tryd.prog 24 := .of Tryd.func24 (by kernel_rfl) (by kernel_rfl)
noncomputable def DgL (B : OH) : Nat → Ds
  | 43 => Uwlogcaught B
  | _ => fun _ _ _ _ => none
theorem DgL_wlogcaught {B : OH} : DgL B 43 = Uwlogcaught B := rfl
noncomputable def TgL (B : OH) : Cs := callD B (EgL B) (DgL B) 1000000 LgL
theorem sTgL {w0 : World} {B : OH} : SoundC Tryd.prog w0 B 24 (TgL B) := callD_sound mixedOrders sGgL 1000000 Tryd.func24 lowgL enwlogcaught sUwlogcaught
noncomputable def VgL (B : OH) : Cs := TgL B
theorem sVgL {w0 : World} {B : OH} : SoundC Tryd.prog w0 B 24 (VgL B) := sTgL
structure KLy (o6 o7 ow : Nat) (vl : Value) (n i : Nat) (ts : List Value) : Prop where
  l : ts.length = 50
  t6 : gt ts 6 = .pointer (some ⟨o6, 0, none⟩)
  t7 : gt ts 7 = .pointer (some ⟨o7, 0, none⟩)
  t8 : gt ts 8 = .pointer (some ⟨ow, 0, none⟩)
  t37 : gt ts 37 = vl
  t38 : gt ts 38 = .int .i64 (n : Int)
  t39 : gt ts 39 = .int .i64 (i : Int)
theorem J32 : Said (an @TgL.eq_1 <| an @LgL.eq_1 <| an @GgL_cellsStore <| an @GgL_sCl <| an @GgL_gU <| an @GgL_wloglog <| an @Vwloglog.eq_1 <| an @Twloglog.eq_1 <| an @Lwloglog.eq_1 <| an @Gwloglog_10 <| an @V10_eq <| an @Gwloglog_13 <| an @V13_eq <| an @Gwloglog_7 <| an @V7_eq <| an @Gwloglog_wlogwant <| an @Vwlogwant.eq_1 <| an @Twlogwant.eq_1 <| an @Lwlogwant.eq_1 <| an @GgL_wlogwant <| an @DgL_wlogcaught <| an @Uwlogcaught.eq_1 <| an @Lwlogcaught.eq_1 <| an @lbLy.eq_1 <| trivial) := said_ok _
set_option maxHeartbeats 8000000 in
theorem loopLy {B : OH} {H0 Hx H : HL} {N : St} {v vl : Value} {M : List C2} {l : List W2} {o6 o7 ow b len cap : Nat} (hN : good B H N) (hv : v = .slice (some ⟨b, 0, none⟩) len cap) (sM : SlM c2 2 B H0 H v M) (hM : M.length ≤ 800000) (sl : SlM w2 2 B Hx H vl l) (hb : slB vl ≠ some b) (hlb : l.length ≤ 800000) (hin : ∀ i, i < l.length → 0 ≤ (l.getD i y2).a ∧ (l.getD i y2).a < (M.length : Int)) (lo : lk H ow = some (.cells [v] 1)) (bo : B ow = none) (how : ow ≠ b) {ts : List Value} (kp : KLy o6 o7 ow vl l.length 0 ts) {F : Nat} (hF : 100 + l.length + 1 ≤ F) :
    Ok (exec B (EgL B) F (LC.loop lbLy) ⟨ts, H, N⟩) (fun x s => x = .exit 2 ∧ good B s.H s.N ∧ (∀ y c, y ≠ b → lk H y = some c → lk s.H y = some c) ∧ SlM c2 2 B H0 s.H v (lay M l l.length) ∧ KLy o6 o7 ow vl l.length l.length s.t) := by
  refine loop_rule (n0 := 100) (fun q s => ∃ ts H' N', ∃ i : Nat, s = ⟨ts, H', N'⟩ ∧ KLy o6 o7 ow vl l.length i ts ∧ good B H' N' ∧ (∀ y c, y ≠ b → lk H y = some c → lk H' y = some c) ∧ SlM c2 2 B H0 H' v (lay M l i) ∧ i ≤ l.length ∧ q = l.length - i) _ ?_ l.length _ ⟨ts, H, N, 0, rfl, kp, hN, fun _ _ _ e => e, sM, by omega, rfl⟩ _ hF
  clear kp hF F ts hN sM N
  rintro z q s ⟨ts, H1, N1, i, rfl, kp, g, fk, sM, hi, rfl⟩
  obtain ⟨hB, hR, hI⟩ := gX g
  have hc1 : ((i + 1 : Nat) : Int) = (i : Int) + 1 := by omega
  by_cases hlt : i < l.length
  case neg =>
    obtain rfl : i = l.length := by omega
    simp (disch := omega) only [J32, hB, hR, hI, kp.l, kp.t6, kp.t7, kp.t8, kp.t37, kp.t38, kp.t39, Int.lt_irrefl, all1, ress, res1, retV, Value.cells, newsV_s, seval, eV]
    refine ok_some (.inr ⟨by simp, rfl, g, fk, sM, ⟨?_, ?_, ?_, ?_, ?_, ?_, ?_⟩⟩)
    all_goals simp (disch := omega) only [kp.l, kp.t6, kp.t7, kp.t8, kp.t37, kp.t38, kp.t39, Int.cast_ofNat_Int, decide_true, ev2, seval, ev5]
  have hlt' : (i : Int) < (l.length : Int) := by omega
  have i0 : (0 : Int) ≤ (i : Int) := by omega
  have sl1 : SlM w2 2 B Hx H1 vl l := sl.mono fun y c hy e => fk y c (fun h' => hb (by rw [← h']; exact hy)) e
  obtain ⟨bv, ov, cv, rfl, _, rv⟩ := (sl1.rd w2_len).at (by omega)
  have rv := SlR.read rv w2_len (Fr.refl (H := H1)) y2 hlt
  have ha := hin i hlt
  have hs : lay M l (i + 1) = (lay M l i).set (l.getD i y2).a.toNat ⟨(l.getD i y2).w, 0⟩ := rfl
  generalize l.getD i y2 = x at *
  obtain ⟨a, w⟩ := x
  simp only [w2] at rv ha hs
  obtain ⟨n, rfl⟩ : ∃ n : Nat, a = (n : Int) := ⟨a.toNat, by omega⟩
  rw [Int.toNat_natCast] at hs
  have g2 : good B ((N1.n 0, .cells [.int .i64 (n : Int), .int .u64 w] 2) :: H1) (sh N1) := good_new g
  have f2 : Fr H1 ((N1.n 0, .cells [.int .i64 (n : Int), .int .u64 w] 2) :: H1) := fr_new g Fr.refl 0
  obtain ⟨H3, N3, es, g3, s3, k3⟩ := store (m := ow) (i := n) (w := w) g2 (sM.mono fun y c _ e => f2 y c e) (f2 _ _ (fk _ _ how lo)) bo (by rw [hv]; simpa [slB] using how.symm) (by rw [lay_len]; omega) (by rw [lay_len]; omega)
  rw [← hs] at s3
  simp (disch := omega) only [J32, hB, hR, hI, kp.l, kp.t6, kp.t7, kp.t8, kp.t37, kp.t38, kp.t39, hlt, hlt', i0, rv, es, all1, ress, res1, retV, Value.cells, newsV_s, seval, eV]
  refine ok_some (.inl ⟨rfl, l.length - (i + 1), by omega, _, H3, N3, i + 1, rfl, ⟨?_, ?_, ?_, ?_, ?_, ?_, ?_⟩, g3, fun y c h1 e => k3 y c (by rw [hv]; simpa [slB] using h1.symm) (f2 _ _ (fk y c h1 e)), s3, by omega, rfl⟩)
  all_goals simp (disch := omega) only [kp.l, kp.t6, kp.t7, kp.t8, kp.t37, kp.t38, kp.t39, hc1, Int.cast_ofNat_Int, decide_true, ev2, seval, ev5]
end Go.Proofs.YtfhiplfagejfoaaDoor
