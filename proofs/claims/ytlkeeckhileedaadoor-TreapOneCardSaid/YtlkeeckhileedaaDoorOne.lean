/- The law TreapOne: whatever the input, it returns true, and the input reads as it did. No condition. -/
import Derived.Test.YtlkeeckhileedaaDoorOwnC
import Derived.Test.YtlkeeckhileedaaDoorRows
import Derived.Test.YtlkeeckhileedaaDoorCards
import Derived.Test.YtlkeeckhileedaaDoorTie
set_option linter.unusedSimpArgs false
set_option linter.unusedVariables false
namespace Go.Proofs.YtlkeeckhileedaaDoor
open Go.Proofs.YtlkeeckhileedaaDoor.K
/-! ### What is found -/
theorem Asc.lt {K : List Int} (h : Asc K) {i : Nat} : ∀ {j : Nat}, i < j → j < K.length → K.getD i 0 < K.getD j 0
  | 0, h1, _ => by omega
  | j + 1, h1, h2 => by
    have h3 := h j h2
    by_cases e : i = j
    · rw [e]; exact h3
    · have := Asc.lt h (i := i) (j := j) (by omega) (by omega)
      omega
/-- x is the number of the first one of these whose key is not less; none: b. -/
def FrP (K : List Int) (q : Int) (a d b x : Nat) : Prop :=
  (∃ i, a ≤ i ∧ i < a + d ∧ K.getD i 0 ≥ q ∧ (∀ j, a ≤ j → j < i → K.getD j 0 < q) ∧ x = i + 1) ∨ ((∀ j, a ≤ j → j < a + d → K.getD j 0 < q) ∧ x = b)
theorem FrP.uniq {K : List Int} {q : Int} {a d b x y : Nat} (h : FrP K q a d b x) (h' : FrP K q a d b y) : x = y := by
  rcases h with ⟨i, i1, i2, i3, i4, rfl⟩ | ⟨h1, rfl⟩ <;> rcases h' with ⟨j, j1, j2, j3, j4, rfl⟩ | ⟨h2, rfl⟩
  · have c1 : ¬ i < j := fun c => by have := j4 i i1 c; omega
    have c2 : ¬ j < i := fun c => by have := i4 j j1 c; omega
    omega
  · have := h2 i i1 i2; omega
  · have := h1 j j1 j2; omega
  · rfl
def bstF (K : List Int) (q : Int) (b : Nat) (P : List Nat) : Nat := P.foldl (fun b s => if K.getD (s - 1) 0 ≥ q then s else b) b
theorem bst_F (K : List Int) (q : Int) (P : List Nat) : ∀ j, j ≤ P.length → bst K q P j = bstF K q 0 (P.take j)
  | 0, _ => by simp [bst, bstF]
  | j + 1, h => by
    have ih := bst_F K q P j (by omega)
    rw [List.take_add_one, some_getD (d := 0) (by omega : j < P.length)]
    simp only [bst, bstF, Option.toList_some, List.foldl_append, List.foldl_cons, List.foldl_nil] at ih ⊢
    rw [ih]
theorem bstF_Pth {K : List Int} {q : Int} (ha : Asc K) : ∀ (d a b : Nat), a + d ≤ K.length → FrP K q a d b (bstF K q b (Pth K q a d)) := by
  intro d
  induction d using Nat.strongRecOn with
  | ind d ih =>
    intro a b hK
    cases d with
    | zero => rw [Pth_zero]; exact .inr ⟨fun j h1 h2 => by omega, rfl⟩
    | succ e =>
      have hb := amx_b (fK K) a e
      rw [Pth_succ]
      generalize amx (fK K) a e = t at hb
      have hlt : ∀ j, j < t → K.getD j 0 < K.getD t 0 := fun j hj => ha.lt hj (by omega)
      have hstep : ∀ P, bstF K q b ((t + 1) :: P) = bstF K q (if K.getD t 0 ≥ q then t + 1 else b) P := fun P => rfl
      rw [hstep]
      by_cases h1 : K.getD t 0 = q
      · rw [if_pos h1, if_pos (by omega)]
        exact .inl ⟨t, hb.1, by omega, by omega, fun j _ hj => by have := hlt j hj; omega, rfl⟩
      · rw [if_neg h1]
        by_cases h2 : q < K.getD t 0
        · rw [if_pos h2, if_pos (by omega)]
          rcases ih (t - a) (by omega) a (t + 1) (by omega) with ⟨i, i1, i2, i3, i4, i5⟩ | ⟨h3, h4⟩
          · exact .inl ⟨i, i1, by omega, i3, i4, i5⟩
          · exact .inl ⟨t, hb.1, by omega, by omega, fun j j1 j2 => h3 j j1 (by omega), h4⟩
        · rw [if_neg h2, if_neg (by omega)]
          rcases ih (a + e - t) (by omega) (t + 1) b (by omega) with ⟨i, i1, i2, i3, i4, i5⟩ | ⟨h3, h4⟩
          · refine .inl ⟨i, by omega, by omega, i3, fun j j1 j2 => ?_, i5⟩
            by_cases hj : j ≤ t
            · by_cases hj' : j = t
              · rw [hj']; omega
              · have := hlt j (by omega); omega
            · exact i4 j (by omega) j2
          · refine .inr ⟨fun j j1 j2 => ?_, h4⟩
            by_cases hj : j ≤ t
            · by_cases hj' : j = t
              · rw [hj']; omega
              · have := hlt j (by omega); omega
            · exact h3 j (by omega) (by omega)
theorem rOk_own {K : List Int} (h : bErr K = 0) : rOk K (bRoot K) (bLinks K) = true := by unfold rOk; rw [decide_eq_true h, decide_eq_true rfl, decide_eq_true rfl]; rfl
theorem rOk_Asc {K : List Int} {root : Int} {links : List P2} (h : rOk K root links = true) : bErr K = 0 ∧ bRoot K = root ∧ bLinks K = links := by
  unfold rOk at h
  simp only [Bool.and_eq_true, decide_eq_true_eq] at h
  exact ⟨h.1.1, h.1.2, h.2⟩
theorem nxt_FrP {K : List Int} {root : Int} {links : List P2} {q : Int} (h : rOk K root links = true) : FrP K q 0 K.length 0 (nxt K root links q) := by
  unfold nxt
  rw [if_pos h, bst_F _ _ _ _ (Nat.le_refl _), List.take_length]
  exact bstF_Pth (bErr_0 (rOk_Asc h).1).2 K.length 0 0 (by omega)
/-- Where the way ends. -/
theorem Pth_last {K : List Int} {q : Int} (ha : Asc K) : ∀ (d a j : Nat), a + d ≤ K.length → a ≤ j → j < a + d → K.getD j 0 = q → (Pth K q a d).getLast? = some (j + 1) := by
  intro d
  induction d using Nat.strongRecOn with
  | ind d ih =>
    intro a j hK h1 h2 hq
    cases d with
    | zero => omega
    | succ e =>
      have hb := amx_b (fK K) a e
      rw [Pth_succ]
      generalize amx (fK K) a e = t at hb
      by_cases ht : K.getD t 0 = q
      · rw [if_pos ht]
        have : j = t := by
          rcases Nat.lt_trichotomy j t with c | c | c
          · have := ha.lt c (by omega); omega
          · exact c
          · have := ha.lt c (by omega); omega
        rw [this]; rfl
      · rw [if_neg ht]
        by_cases h3 : q < K.getD t 0
        · rw [if_pos h3]
          have : j < t := by
            rcases Nat.lt_trichotomy j t with c | c | c
            · exact c
            · rw [c] at hq; omega
            · have := ha.lt c (by omega); omega
          rw [List.getLast?_cons, ih (t - a) (by omega) a j (by omega) h1 (by omega) hq]; rfl
        · rw [if_neg h3]
          have : t < j := by
            rcases Nat.lt_trichotomy j t with c | c | c
            · have := ha.lt c (by omega); omega
            · rw [c] at hq; omega
            · exact c
          rw [List.getLast?_cons, ih (a + e - t) (by omega) (t + 1) j (by omega) (by omega) (by omega) hq]; rfl
theorem Pth_nil {K : List Int} {q : Int} {a d : Nat} (h : Pth K q a d = []) : d = 0 := by
  cases d with
  | zero => rfl
  | succ e => rw [Pth_succ] at h; cases h
/-- How far the way has been gone: so much of it is left, and there it goes on. -/
def Wk (K : List Int) (links : List P2) (q : Int) (P : List Nat) (i nx : Nat) : Prop :=
  (∃ a d, Hd K links a d ∧ P.drop i = Pth K q a d ∧ nx = (T (fK K) a d).1) ∨ (i = P.length ∧ 0 < i ∧ P.getD (i - 1) 0 = nx ∧ 1 ≤ nx ∧ nx ≤ K.length ∧ K.getD (nx - 1) 0 = q)
theorem Wk.init {K : List Int} {q : Int} (h : bErr K = 0) : Wk K (bLinks K) q (Pth K q 0 K.length) 0 (T (fK K) 0 K.length).1 := .inl ⟨0, K.length, Hd.all h, by rw [List.drop_zero], rfl⟩
theorem drop_cons' {P R : List Nat} {i x : Nat} (h : P.drop i = x :: R) : P.getD i 0 = x ∧ P.drop (i + 1) = R ∧ i < P.length := by
  have h1 : P[i]? = some x := by
    have := List.getElem?_drop (xs := P) (i := i) (j := 0)
    rw [h] at this
    simpa using this.symm
  refine ⟨getD_some h1, ?_, ?_⟩
  · have : P.drop (i + 1) = (P.drop i).drop 1 := by rw [List.drop_drop]
    rw [this, h]; rfl
  · exact (List.getElem?_eq_some_iff.1 h1).1
theorem Wk.step {K : List Int} {links : List P2} {q : Int} {P : List Nat} {i nx : Nat} (h : Wk K links q P i nx) (hi : i < P.length) :
    P.getD i 0 = nx ∧ 1 ≤ nx ∧ nx ≤ K.length ∧ (K.getD (nx - 1) 0 = q → i + 1 = P.length) ∧
    (K.getD (nx - 1) 0 > q → ∃ m : Nat, (links.getD (nx - 1) q0).l = (m : Int) ∧ Wk K links q P (i + 1) m) ∧
    (K.getD (nx - 1) 0 < q → ∃ m : Nat, (links.getD (nx - 1) q0).r = (m : Int) ∧ Wk K links q P (i + 1) m) ∧
    (K.getD (nx - 1) 0 = q → Wk K links q P (i + 1) nx) := by
  rcases h with ⟨a, d, hH, hP, rfl⟩ | ⟨h1, _⟩
  · cases d with
    | zero =>
      rw [Pth_zero] at hP
      have : P.length ≤ i := by
        have := congrArg List.length hP
        simp at this; omega
      omega
    | succ e =>
      have hb := amx_b (fK K) a e
      have ht := hH.top
      have hl := hH.left
      have hr := hH.right
      have hK := hH.1
      rw [Pth_succ] at hP
      rw [T_succ]
      simp only [Nat.add_sub_cancel]
      generalize amx (fK K) a e = t at *
      obtain ⟨d1, d2, d3⟩ := drop_cons' hP
      refine ⟨d1, by omega, by omega, fun hq => ?_, fun hq => ?_, fun hq => ?_, fun hq => ?_⟩
      · rw [if_pos hq] at d2
        have := congrArg List.length d2
        simp at this; omega
      · rw [if_neg (by omega), if_pos (by omega)] at d2
        exact ⟨_, by rw [ht], .inl ⟨a, t - a, hl, d2, rfl⟩⟩
      · rw [if_neg (by omega), if_neg (by omega)] at d2
        exact ⟨_, by rw [ht], .inl ⟨t + 1, a + e - t, hr, d2, rfl⟩⟩
      · rw [if_pos hq] at d2
        have := congrArg List.length d2
        simp at this
        exact .inr ⟨by omega, by omega, by rw [Nat.add_sub_cancel]; exact d1, by omega, by omega, by rw [Nat.add_sub_cancel]; exact hq⟩
  · omega
theorem Wk.fin {K : List Int} {links : List P2} {q : Int} {P : List Nat} {nx : Nat} (h : Wk K links q P P.length nx) (hq : ∀ j, j < K.length → K.getD j 0 ≠ q) : nx = 0 := by
  rcases h with ⟨a, d, _, hP, rfl⟩ | ⟨_, _, _, h1, h2, h3⟩
  · rw [List.drop_length] at hP
    obtain rfl := Pth_nil hP.symm
    rw [T_zero]
  · exact (hq _ (by omega) h3).elim
end Go.Proofs.YtlkeeckhileedaaDoor
namespace Go.Proofs.YtlkeeckhileedaaDoor
open Go.Proofs.YtlkeeckhileedaaDoor.K Go.ChangeShapes Go.WideShapes Go.ChangeAt Go.RowKit 
set_option maxRecDepth 100000
set_option linter.unusedSimpArgs false
set_option linter.unusedVariables false
/-- A link, by its side. -/
def sd (w : P2) (i : Nat) : Int := if i = 0 then w.l else w.r
/-- A link leads to a key that goes ahead of one. -/
def badS (K : List Int) (t : Nat) (x : Int) : Prop := 1 ≤ x ∧ x ≤ (K.length : Int) ∧ fK K (x - 1).toNat > fK K t
instance (K : List Int) (t : Nat) (x : Int) : Decidable (badS K t x) := by unfold badS; exact inferInstance
/-- What hangs at a number is a tree of the keys from a on, so many. -/
def gd (K : List Int) (W : List P2) : Nat → Nat → Nat → Int → Bool
  | 0, _, _, _ => false
  | n + 1, a, d, x => if d = 0 then decide (x = 0) else if x < (a : Int) + 1 ∨ x > (a : Int) + d then false else
      if badS K (x - 1).toNat (W.getD (x - 1).toNat q0).l ∨ badS K (x - 1).toNat (W.getD (x - 1).toNat q0).r then false else
      gd K W n a ((x - 1).toNat - a) (W.getD (x - 1).toNat q0).l && gd K W n ((x - 1).toNat + 1) (a + d - ((x - 1).toNat + 1)) (W.getD (x - 1).toNat q0).r
theorem fK_inj {K : List Int} (hK : U64s K) (ha : Asc K) {i j : Nat} (hi : i < K.length) (hj : j < K.length) (h : fK K i = fK K j) : i = j := by
  have := mixI_inj (hK.at i) (hK.at j) h
  rcases Nat.lt_trichotomy i j with c | c | c
  · have := ha.lt c hj; omega
  · exact c
  · have := ha.lt c hi; omega
/-- The links hold the tree, and the number is its top. -/
def Good (K : List Int) (W : List P2) (a d : Nat) (x : Int) : Prop := x = ((T (fK K) a d).1 : Int) ∧ ∀ i, i < d → W.getD (a + i) q0 = mp ((T (fK K) a d).2.getD i (0, 0))
theorem gd_spec {K : List Int} {W : List P2} (hK : U64s K) (hA : Asc K) : ∀ (d n a : Nat) (x : Int), d < n → a + d ≤ K.length → (gd K W n a d x = true ↔ Good K W a d x) := by
  intro d
  induction d using Nat.strongRecOn with
  | ind d ih =>
    intro n a x hn hd
    obtain ⟨n, rfl⟩ : ∃ m, n = m + 1 := ⟨n - 1, by omega⟩
    simp only [gd]
    cases d with
    | zero =>
      rw [if_pos rfl]
      unfold Good
      rw [T_zero]
      simp
    | succ e =>
      rw [if_neg (by omega)]
      have hb := amx_b (fK K) a e
      have hge := amx_ge (fK K) a e
      have hTs := T_succ (fK K) a e
      have hlL := T_len (fK K) (amx (fK K) a e - a) a
      by_cases hr : x < (a : Int) + 1 ∨ x > (a : Int) + (e + 1 : Nat)
      · rw [if_pos hr]
        refine ⟨fun h => (by cases h), fun h => ?_⟩
        have := h.1
        rw [hTs] at this
        simp only at this
        omega
      rw [if_neg hr]
      obtain ⟨t, rfl, ht1, ht2⟩ : ∃ t : Nat, x = (t : Int) + 1 ∧ a ≤ t ∧ t ≤ a + e := ⟨(x - 1).toNat, by omega, by omega, by omega⟩
      rw [show ((t : Int) + 1 - 1).toNat = t by omega, show a + (e + 1) - (t + 1) = a + e - t by omega]
      have ihL := ih (t - a) (by omega) n a (W.getD t q0).l (by omega) (by omega)
      have ihR := ih (a + e - t) (by omega) n (t + 1) (W.getD t q0).r (by omega) (by omega)
      -- where both sides are trees, no bad one: the top is the first
      have hnb : Good K W a (t - a) (W.getD t q0).l → Good K W (t + 1) (a + e - t) (W.getD t q0).r →
          ((¬ badS K t (W.getD t q0).l ∧ ¬ badS K t (W.getD t q0).r) ↔ t = amx (fK K) a e) := fun hl hr' => by
        have el := hl.1
        have er := hr'.1
        constructor
        · rintro ⟨b1, b2⟩
          have m1 : ∀ i, a ≤ i → i < t → fK K i ≤ fK K t := fun i h1 h2 => by
            obtain ⟨m, hm⟩ : ∃ m, t - a = m + 1 := ⟨t - a - 1, by omega⟩
            rw [hm, T_succ] at el
            have hb2 := amx_b (fK K) a m
            have := amx_ge (fK K) a m i h1 (by omega)
            rw [el] at b1
            unfold badS at b1
            rw [show (((amx (fK K) a m + 1 : Nat) : Int) - 1).toNat = amx (fK K) a m by omega] at b1
            have : ¬ fK K (amx (fK K) a m) > fK K t := fun h => b1 ⟨by omega, by omega, h⟩
            omega
          have m2 : ∀ i, t < i → i ≤ a + e → fK K i ≤ fK K t := fun i h1 h2 => by
            obtain ⟨m, hm⟩ : ∃ m, a + e - t = m + 1 := ⟨a + e - t - 1, by omega⟩
            rw [hm, T_succ] at er
            have hb2 := amx_b (fK K) (t + 1) m
            have := amx_ge (fK K) (t + 1) m i h1 (by omega)
            rw [er] at b2
            unfold badS at b2
            rw [show (((amx (fK K) (t + 1) m + 1 : Nat) : Int) - 1).toNat = amx (fK K) (t + 1) m by omega] at b2
            have : ¬ fK K (amx (fK K) (t + 1) m) > fK K t := fun h => b2 ⟨by omega, by omega, h⟩
            omega
          have h1 : fK K t ≤ fK K (amx (fK K) a e) := hge t ht1 ht2
          have h2 : fK K (amx (fK K) a e) ≤ fK K t := by
            rcases Nat.lt_trichotomy (amx (fK K) a e) t with c | c | c
            · exact m1 _ hb.1 c
            · rw [c]; exact Int.le_refl _
            · exact m2 _ c hb.2
          exact fK_inj hK hA (by omega) (by omega) (by omega)
        · intro htx
          refine ⟨fun hbad => ?_, fun hbad => ?_⟩
          · rw [el] at hbad
            unfold badS at hbad
            cases hm : t - a with
            | zero => rw [hm, T_zero] at hbad; simp at hbad
            | succ m =>
              rw [hm, T_succ] at hbad
              have hb2 := amx_b (fK K) a m
              have := hge (amx (fK K) a m) hb2.1 (by omega)
              rw [← htx] at this
              simp only at hbad
              rw [show (((amx (fK K) a m + 1 : Nat) : Int) - 1).toNat = amx (fK K) a m by omega] at hbad
              omega
          · rw [er] at hbad
            unfold badS at hbad
            cases hm : a + e - t with
            | zero => rw [hm, T_zero] at hbad; simp at hbad
            | succ m =>
              rw [hm, T_succ] at hbad
              have hb2 := amx_b (fK K) (t + 1) m
              have := hge (amx (fK K) (t + 1) m) (by omega) (by omega)
              rw [← htx] at this
              simp only at hbad
              rw [show (((amx (fK K) (t + 1) m + 1 : Nat) : Int) - 1).toNat = amx (fK K) (t + 1) m by omega] at hbad
              omega
      -- the whole is the top, and both sides
      have hall : Good K W a (e + 1) ((t : Int) + 1) ↔ (t = amx (fK K) a e ∧ Good K W a (t - a) (W.getD t q0).l ∧ Good K W (t + 1) (a + e - t) (W.getD t q0).r) := by
        constructor
        · intro h
          have h1 := h.1
          rw [hTs] at h1
          simp only at h1
          have htx : t = amx (fK K) a e := by omega
          have hget := h.2
          rw [hTs, ← htx] at hget
          rw [← htx] at hlL
          simp only at hget
          have hmid := hget (t - a) (by omega)
          rw [show a + (t - a) = t by omega, List.getD_eq_getElem?_getD, List.getD_eq_getElem?_getD, List.getElem?_append_right (by omega), hlL, Nat.sub_self] at hmid
          simp only [List.getElem?_cons_zero, Option.getD_some] at hmid
          rw [← List.getD_eq_getElem?_getD] at hmid
          refine ⟨htx, ⟨by rw [hmid]; rfl, fun i hi => ?_⟩, ⟨by rw [hmid]; rfl, fun i hi => ?_⟩⟩
          · rw [hget i (by omega), List.getD_eq_getElem?_getD, List.getElem?_append_left (by omega), ← List.getD_eq_getElem?_getD]
          · have h3 := hget (t - a + 1 + i) (by omega)
            rw [show a + (t - a + 1 + i) = t + 1 + i by omega] at h3
            rw [h3, List.getD_eq_getElem?_getD, List.getElem?_append_right (by omega), hlL, show t - a + 1 + i - (t - a) = i + 1 by omega, List.getElem?_cons_succ, ← List.getD_eq_getElem?_getD]
        · rintro ⟨htx, hl, hr'⟩
          rw [← htx] at hlL
          refine ⟨by rw [hTs, ← htx]; simp, fun i hi => ?_⟩
          rw [hTs, ← htx]
          simp only
          rcases Nat.lt_trichotomy (a + i) t with c | c | c
          · rw [hl.2 i (by omega), List.getD_eq_getElem?_getD, List.getD_eq_getElem?_getD, List.getElem?_append_left (by omega)]
          · rw [c, List.getD_eq_getElem?_getD (l := _ ++ _), List.getElem?_append_right (by omega), hlL, show i - (t - a) = 0 by omega]
            simp only [List.getElem?_cons_zero, Option.getD_some]
            have e1 := hl.1
            have e2 := hr'.1
            generalize W.getD t q0 = w at e1 e2
            cases w
            simp only at e1 e2
            rw [e1, e2]; rfl
          · have := hr'.2 (i - (t - a) - 1) (by omega)
            rw [show t + 1 + (i - (t - a) - 1) = a + i by omega] at this
            rw [this, List.getD_eq_getElem?_getD (l := _ ++ _), List.getElem?_append_right (by omega), hlL, show i - (t - a) = (i - (t - a) - 1) + 1 by omega, List.getElem?_cons_succ, ← List.getD_eq_getElem?_getD, Nat.add_sub_cancel]
      rw [hall]
      by_cases hbad : badS K t (W.getD t q0).l ∨ badS K t (W.getD t q0).r
      · rw [if_pos hbad]
        refine ⟨fun h => (by cases h), fun h => ?_⟩
        have := (hnb h.2.1 h.2.2).2 h.1
        rcases hbad with h' | h'
        · exact (this.1 h').elim
        · exact (this.2 h').elim
      · rw [if_neg hbad, Bool.and_eq_true, ihL, ihR]
        constructor
        · intro h
          exact ⟨(hnb h.1 h.2).1 ⟨fun h' => hbad (.inl h'), fun h' => hbad (.inr h')⟩, h.1, h.2⟩
        · intro h
          exact h.2
theorem gd_rOk {K : List Int} {W : List P2} {x : Int} (hK : U64s K) (he : bErr K = 0) (hW : W.length = K.length) {n : Nat} (hn : K.length < n) : gd K W n 0 K.length x = rOk K x W := by
  have h := gd_spec (W := W) hK (bErr_0 he).2 K.length n 0 x hn (by omega)
  have h2 : Good K W 0 K.length x ↔ rOk K x W = true := by
    unfold Good rOk
    simp only [Bool.and_eq_true, decide_eq_true_eq]
    rw [bRoot_0 he, bLinks_0 he]
    constructor
    · rintro ⟨h1, h2⟩
      refine ⟨⟨he, h1.symm⟩, List.ext_getElem? fun i => ?_⟩
      rw [List.getElem?_map]
      rcases Nat.lt_or_ge i K.length with hi | hi
      · have := h2 i hi
        rw [Nat.zero_add] at this
        rw [some_getD (d := (0, 0)) (by rw [T_len]; exact hi), some_getD (l := W) (d := q0) (by omega), this]; rfl
      · rw [List.getElem?_eq_none (by rw [T_len]; exact hi), List.getElem?_eq_none (by omega)]; rfl
    · rintro ⟨⟨_, h1⟩, rfl⟩
      refine ⟨h1.symm, fun i hi => ?_⟩
      rw [Nat.zero_add, List.getD_eq_getElem?_getD, List.getElem?_map, some_getD (d := (0, 0)) (by rw [T_len]; exact hi)]; rfl
  rw [Bool.eq_iff_iff, h, h2]
theorem rOk_root {K : List Int} (he : bErr K = 0) (x : Int) : rOk K x (bLinks K) = decide (x = bRoot K) := by
  unfold rOk
  rw [decide_eq_true he, decide_eq_true rfl, Bool.true_and, Bool.and_true]
  exact decide_eq_decide.2 ⟨fun h => h.symm, fun h => h.symm⟩
theorem rOk_set {K : List Int} (he : bErr K = 0) {k : Nat} (hk : k < K.length) (y : P2) : rOk K (bRoot K) ((bLinks K).set k y) = decide (y = (bLinks K).getD k q0) := by
  have hl := bLinks_len he
  unfold rOk
  rw [decide_eq_true he, decide_eq_true rfl, Bool.true_and, Bool.true_and]
  refine decide_eq_decide.2 ⟨fun h => ?_, fun h => ?_⟩
  · have := congrArg (fun l => l.getD k q0) h
    rw [getD_set _ _ _ _ _ (by omega), if_pos rfl] at this
    exact this.symm
  · refine List.ext_getElem? fun i => ?_
    rw [List.getElem?_set]
    by_cases e : k = i
    · subst e
      rw [if_pos rfl, if_pos (by omega), some_getD (d := q0) (by omega), h]
    · rw [if_neg e]
end Go.Proofs.YtlkeeckhileedaaDoor
namespace Go.Proofs.YtlkeeckhileedaaDoor
open Go.Proofs.YtlkeeckhileedaaDoor.K Go.ChangeShapes Go.WideShapes Go.ChangeAt Go.RowKit 
set_option maxRecDepth 100000
set_option linter.unusedSimpArgs false
set_option linter.unusedVariables false
/-- whitewash/whitewashlaw08.good -/
def L23 : FnL := ⟨(.seq (.ops [⟨(some 10), .mv (.const (.bool false)), none⟩])
 (.seq (.seq (.ops [⟨(some 13), .mv (.tmp 3), none⟩, ⟨(some 14), .mv (.tmp 4), none⟩, ⟨(some 15), .bin .gtr (.tmp 13) (.tmp 14), none⟩])
 (.cond (.tmp 15) (.seq (.ops [⟨(some 16), .mv (.tmp 2), none⟩, ⟨(some 17), .bin .eql (.tmp 16) (.const (.int .i64 0)), none⟩, ⟨(some 10), .mv (.tmp 17), none⟩])
 .ret)
 .skip))
 (.seq (.seq (.ops [⟨(some 18), .mv (.tmp 2), none⟩, ⟨(some 19), .mv (.tmp 3), none⟩, ⟨(some 20), .bin .lss (.tmp 18) (.tmp 19), none⟩, ⟨(some 21), .mv (.tmp 20), none⟩, ⟨(some 22), .mv (.tmp 2), (some (21, false))⟩, ⟨(some 23), .mv (.tmp 4), (some (21, false))⟩, ⟨(some 24), .bin .gtr (.tmp 22) (.tmp 23), (some (21, false))⟩, ⟨(some 25), .pick (.tmp 21) (.const (.bool true)) (.tmp 24), none⟩])
 (.cond (.tmp 25) (.seq (.ops [⟨(some 10), .mv (.const (.bool false)), none⟩])
 .ret)
 .skip))
 (.seq (.seq (.ops [⟨(some 11), .mv (.const (.int .i64 0)), none⟩])
 (.block 0 (.loop (.seq (.seq (.ops [⟨(some 26), .mv (.tmp 11), none⟩, ⟨(some 27), .bin .lss (.tmp 26) (.const (.int .i64 2)), none⟩])
 (.cond (.tmp 27) .skip
 (.exit 0)))
 (.seq (.block 1 (.seq (.ops [⟨(some 30), .mv (.tmp 1), none⟩, ⟨(some 31), .mv (.tmp 2), none⟩, ⟨(some 32), .bin .sub (.tmp 31) (.const (.int .i64 1)), none⟩, ⟨(some 33), .mv (.tmp 11), none⟩, ⟨(some 34), .iaddrS 2 (.tmp 30) (.tmp 32), none⟩, ⟨(some 35), .iaddrA 1 2 (.tmp 34) (.tmp 33), none⟩, ⟨(some 36), .load false 1 (.tmp 35), none⟩, ⟨(some 12), .mv (.tmp 36), none⟩])
 (.seq (.draw [⟨⟨(some 37), .mv (.tmp 12), none⟩, []⟩, ⟨⟨(some 38), .bin .geq (.tmp 37) (.const (.int .i64 1)), none⟩, []⟩, ⟨⟨(some 39), .mv (.tmp 38), none⟩, []⟩, ⟨⟨(some 40), .mv (.tmp 12), (some (39, true))⟩, []⟩, ⟨⟨(some 41), .mv (.tmp 0), (some (39, true))⟩, []⟩, ⟨⟨(some 42), .len false (.tmp 41), (some (39, true))⟩, []⟩, ⟨⟨(some 43), .bin .leq (.tmp 40) (.tmp 42), (some (39, true))⟩, []⟩, ⟨⟨(some 44), .pick (.tmp 39) (.tmp 43) (.const (.bool false)), none⟩, []⟩, ⟨⟨(some 45), .mv (.tmp 44), none⟩, []⟩, ⟨⟨(some 46), .mv (.tmp 0), (some (45, true))⟩, []⟩, ⟨⟨(some 47), .mv (.tmp 12), (some (45, true))⟩, []⟩, ⟨⟨(some 48), .bin .sub (.tmp 47) (.const (.int .i64 1)), (some (45, true))⟩, []⟩, ⟨⟨(some 49), .iaddrS 1 (.tmp 46) (.tmp 48), (some (45, true))⟩, []⟩, ⟨⟨(some 50), .load false 1 (.tmp 49), (some (45, true))⟩, []⟩, ⟨⟨(some 51), .mv (.tmp 0), (some (45, true))⟩, []⟩, ⟨⟨(some 52), .mv (.tmp 2), (some (45, true))⟩, []⟩, ⟨⟨(some 53), .bin .sub (.tmp 52) (.const (.int .i64 1)), (some (45, true))⟩, []⟩, ⟨⟨(some 54), .iaddrS 1 (.tmp 51) (.tmp 53), (some (45, true))⟩, []⟩, ⟨⟨(some 55), .load false 1 (.tmp 54), (some (45, true))⟩, []⟩, ⟨⟨(some 56), .call (.func 25) [(.tmp 50), (.tmp 55)], (some (45, true))⟩, []⟩, ⟨⟨(some 57), .pick (.tmp 45) (.tmp 56) (.const (.bool false)), none⟩, []⟩])
 (.cond (.tmp 57) (.seq (.ops [⟨(some 10), .mv (.const (.bool false)), none⟩])
 .ret)
 .skip))))
 (.ops [⟨(some 28), .mv (.tmp 11), none⟩, ⟨(some 29), .bin .add (.tmp 28) (.const (.int .i64 1)), none⟩, ⟨(some 11), .mv (.tmp 29), none⟩]))))))
 (.seq (.ops [⟨(some 58), .mv (.tmp 0), none⟩, ⟨(some 59), .mv (.tmp 1), none⟩, ⟨(some 60), .mv (.tmp 1), none⟩, ⟨(some 61), .mv (.tmp 2), none⟩, ⟨(some 62), .bin .sub (.tmp 61) (.const (.int .i64 1)), none⟩, ⟨(some 63), .iaddrS 2 (.tmp 60) (.tmp 62), none⟩, ⟨(some 64), .iaddrA 1 2 (.tmp 63) (.const (.int .i64 0)), none⟩, ⟨(some 65), .load false 1 (.tmp 64), none⟩, ⟨(some 66), .mv (.tmp 3), none⟩, ⟨(some 67), .mv (.tmp 2), none⟩, ⟨(some 68), .bin .sub (.tmp 67) (.const (.int .i64 1)), none⟩, ⟨(some 69), .call (.func 23) [(.tmp 58), (.tmp 59), (.tmp 65), (.tmp 66), (.tmp 68)], none⟩, ⟨(some 70), .mv (.tmp 69), none⟩, ⟨(some 71), .mv (.tmp 0), (some (70, true))⟩, ⟨(some 72), .mv (.tmp 1), (some (70, true))⟩, ⟨(some 73), .mv (.tmp 1), (some (70, true))⟩, ⟨(some 74), .mv (.tmp 2), (some (70, true))⟩, ⟨(some 75), .bin .sub (.tmp 74) (.const (.int .i64 1)), (some (70, true))⟩, ⟨(some 76), .iaddrS 2 (.tmp 73) (.tmp 75), (some (70, true))⟩, ⟨(some 77), .iaddrA 1 2 (.tmp 76) (.const (.int .i64 1)), (some (70, true))⟩, ⟨(some 78), .load false 1 (.tmp 77), (some (70, true))⟩, ⟨(some 79), .mv (.tmp 2), (some (70, true))⟩, ⟨(some 80), .bin .add (.tmp 79) (.const (.int .i64 1)), (some (70, true))⟩, ⟨(some 81), .mv (.tmp 4), (some (70, true))⟩, ⟨(some 82), .call (.func 23) [(.tmp 71), (.tmp 72), (.tmp 78), (.tmp 80), (.tmp 81)], (some (70, true))⟩, ⟨(some 83), .pick (.tmp 70) (.tmp 82) (.const (.bool false)), none⟩, ⟨(some 10), .mv (.tmp 83), none⟩])
 .ret))))),
 84, [.tmp 10]⟩
theorem low23 : lowerFn Tryd.prog Tryd.f23 = some L23 := by kernel_rfl
theorem en23 : Enter Tryd.prog 23 := .of Tryd.func23 (by kernel_rfl) (by kernel_rfl)
noncomputable def G23 (B : OH) (self : Cs) : Nat → Cs
  | 25 => V25 B
  | 23 => self
  | _ => fun _ _ _ => none
theorem G23_25 {B : OH} {s : Cs} : G23 B s 25 = V25 B := rfl
theorem G23_23 {B : OH} {s : Cs} : G23 B s 23 = s := rfl
noncomputable def W23 (B : OH) : Nat → Cs
  | 0 => fun _ _ _ => none
  | n + 1 => callF B { f := G23 B (W23 B n) } 1300 L23
theorem W23_succ {B : OH} {n : Nat} : W23 B (n + 1) = callF B { f := G23 B (W23 B n) } 1300 L23 := rfl
theorem sG23 {w0 : World} {B : OH} {s : Cs} (hs : SoundC Tryd.prog w0 B 23 s) : SoundG Tryd.prog w0 B { f := G23 B s } := .of fun k => by
  unfold G23
  split
  · exact .inr ⟨en25, sV25⟩
  · exact .inr ⟨en23, hs⟩
  · exact .inl fun _ _ _ => rfl
theorem sW23 {w0 : World} {B : OH} : ∀ n, SoundC Tryd.prog w0 B 23 (W23 B n)
  | 0 => fun _ _ _ _ hn hq hk => (hn (hq _ (good_of hk))).elim
  | n + 1 => callF_sound mixedOrders (sG23 (sW23 n)) 1300 Tryd.func23 low23
noncomputable def V23 (B : OH) : Cs := W23 B 300
theorem sV23 {w0 : World} {B : OH} : SoundC Tryd.prog w0 B 23 (V23 B) := sW23 300
structure K23 (v vl : Value) (t a z i : Nat) (ts : List Value) : Prop where
  l : ts.length = 84
  t0 : gt ts 0 = v
  t1 : gt ts 1 = vl
  t2 : gt ts 2 = .int .i64 ((t : Int) + 1)
  t3 : gt ts 3 = .int .i64 ((a : Int) + 1)
  t4 : gt ts 4 = .int .i64 (z : Int)
  t11 : gt ts 11 = .int .i64 (i : Int)
def lb23 : LC := (.seq (.seq (.ops [⟨(some 26), .mv (.tmp 11), none⟩, ⟨(some 27), .bin .lss (.tmp 26) (.const (.int .i64 2)), none⟩])
 (.cond (.tmp 27) .skip
 (.exit 0)))
 (.seq (.block 1 (.seq (.ops [⟨(some 30), .mv (.tmp 1), none⟩, ⟨(some 31), .mv (.tmp 2), none⟩, ⟨(some 32), .bin .sub (.tmp 31) (.const (.int .i64 1)), none⟩, ⟨(some 33), .mv (.tmp 11), none⟩, ⟨(some 34), .iaddrS 2 (.tmp 30) (.tmp 32), none⟩, ⟨(some 35), .iaddrA 1 2 (.tmp 34) (.tmp 33), none⟩, ⟨(some 36), .load false 1 (.tmp 35), none⟩, ⟨(some 12), .mv (.tmp 36), none⟩])
 (.seq (.draw [⟨⟨(some 37), .mv (.tmp 12), none⟩, []⟩, ⟨⟨(some 38), .bin .geq (.tmp 37) (.const (.int .i64 1)), none⟩, []⟩, ⟨⟨(some 39), .mv (.tmp 38), none⟩, []⟩, ⟨⟨(some 40), .mv (.tmp 12), (some (39, true))⟩, []⟩, ⟨⟨(some 41), .mv (.tmp 0), (some (39, true))⟩, []⟩, ⟨⟨(some 42), .len false (.tmp 41), (some (39, true))⟩, []⟩, ⟨⟨(some 43), .bin .leq (.tmp 40) (.tmp 42), (some (39, true))⟩, []⟩, ⟨⟨(some 44), .pick (.tmp 39) (.tmp 43) (.const (.bool false)), none⟩, []⟩, ⟨⟨(some 45), .mv (.tmp 44), none⟩, []⟩, ⟨⟨(some 46), .mv (.tmp 0), (some (45, true))⟩, []⟩, ⟨⟨(some 47), .mv (.tmp 12), (some (45, true))⟩, []⟩, ⟨⟨(some 48), .bin .sub (.tmp 47) (.const (.int .i64 1)), (some (45, true))⟩, []⟩, ⟨⟨(some 49), .iaddrS 1 (.tmp 46) (.tmp 48), (some (45, true))⟩, []⟩, ⟨⟨(some 50), .load false 1 (.tmp 49), (some (45, true))⟩, []⟩, ⟨⟨(some 51), .mv (.tmp 0), (some (45, true))⟩, []⟩, ⟨⟨(some 52), .mv (.tmp 2), (some (45, true))⟩, []⟩, ⟨⟨(some 53), .bin .sub (.tmp 52) (.const (.int .i64 1)), (some (45, true))⟩, []⟩, ⟨⟨(some 54), .iaddrS 1 (.tmp 51) (.tmp 53), (some (45, true))⟩, []⟩, ⟨⟨(some 55), .load false 1 (.tmp 54), (some (45, true))⟩, []⟩, ⟨⟨(some 56), .call (.func 25) [(.tmp 50), (.tmp 55)], (some (45, true))⟩, []⟩, ⟨⟨(some 57), .pick (.tmp 45) (.tmp 56) (.const (.bool false)), none⟩, []⟩])
 (.cond (.tmp 57) (.seq (.ops [⟨(some 10), .mv (.const (.bool false)), none⟩])
 .ret)
 .skip))))
 (.ops [⟨(some 28), .mv (.tmp 11), none⟩, ⟨(some 29), .bin .add (.tmp 28) (.const (.int .i64 1)), none⟩, ⟨(some 11), .mv (.tmp 29), none⟩])))
theorem sd_0 (w : P2) : sd w 0 = w.l := rfl
theorem sd_1 (w : P2) : sd w 1 = w.r := rfl
theorem tk_sd (w : P2) {i : Nat} (h : i < 2) : tk (p2 w) i 1 = some [.int .i64 (sd w i)] := by
  obtain rfl | rfl : i = 0 ∨ i = 1 := by omega
  · rfl
  · rfl
set_option maxHeartbeats 8000000 in
theorem loop23 {B : OH} {H : HL} {N : St} {S : Cs} {v vl : Value} {K : List Int} {W : List P2} {t a z : Nat} (hv : SlR w1 1 B H v K) (hl : SlR p2 2 B H vl W) (hK : U64s K) (hKl : K.length ≤ 256) (ht : t < K.length) (hW : W.length = K.length) (hN : good B H N) {ts : List Value} (kp : K23 v vl t a z 0 ts) {F : Nat} (hF : 200 + 2 + 1 ≤ F) :
    Ok (exec B { f := G23 B S } F (LC.loop lb23) ⟨ts, H, N⟩) (fun x s => s.H = H ∧ s.N = N ∧ ((x = .exit 0 ∧ ¬ (badS K t (W.getD t q0).l ∨ badS K t (W.getD t q0).r) ∧ K23 v vl t a z 2 s.t) ∨ (x = .ret ∧ (badS K t (W.getD t q0).l ∨ badS K t (W.getD t q0).r) ∧ s.t.length = 84 ∧ gt s.t 10 = .bool false))) := by
  have hB := good_B hN
  have hR := good_rdB hN
  have hI := beqN hN.1.1
  have hG : ∃ H N, good B H N := ⟨H, N, hN⟩
  have hlv := hv.len
  refine loop_rule (n0 := 200) (fun q s => ∃ ts, ∃ i : Nat, s = ⟨ts, H, N⟩ ∧ K23 v vl t a z i ts ∧ (∀ j, j < i → ¬ badS K t (sd (W.getD t q0) j)) ∧ i ≤ 2 ∧ q = 2 - i) _ ?_ 2 _ ⟨ts, 0, rfl, kp, fun j hj => by omega, by omega, rfl⟩ _ hF
  clear kp hF F ts
  rintro y q s ⟨ts, i, rfl, kp, hnb, hi, rfl⟩
  have hc1 : ((i + 1 : Nat) : Int) = (i : Int) + 1 := by omega
  by_cases hin : i < 2
  case neg =>
    obtain rfl : i = 2 := by omega
    simp -implicitDefEqProofs (maxSteps := 10000000) (disch := omega) only [W23_succ, L23, G23_25, V25_eq, G23_23, hB, hR, hI, lb23, kp.l, kp.t0, kp.t1, kp.t2, kp.t3, kp.t4, kp.t11, lenV_sl, Int.toNat_natCast, bft, btf, gtst, st_len, Int.cast_ofNat_Int, Int.lt_irrefl, pad, e_skip, e_ops, e_draw, e_fork, shg_n, shg_c, shg_g, shg_r, d_none, d_nil, d_cons, d_ite, h_none, h_nil, h_cons, h_ite, eqS_same, lightV, e_seq, e_cond, e_block, e_exit, e_ret, s_normal, s_ret, s_exit, s_none, s_ite, b_normal, b_ret, b_exit, b_none, b_ite, c_bool, x_none, x_nil, x_cons, x_ite, p_some, p_none, p_ite, pt_some, pt_none, pv_some, pv_none, pv_ite, w_none, w_some, i_bool, i_undef, bt, bf, v_tmp, v_const, v_global, v_func, evs, f_normal, f_ret, f_none, f_ite, r_some, co_some, l_ptr, m_agg, m_one, sh_app, lk_nil, lk_cons, rd_eq, rdO_some, rdO_none, rdN_none, rdL_some, rdL_none, wrB_none, unitR_some, wr_nil, wr_here, wr_skip, k_cells, tk_zero, tk_take, tk_skip, tkC_some, call_func, gt, st, binV, arith, isSh, storeV, all1, idxAV, fieldV, faddrV, iaddrSV, iaddrAV, pickV, convV, unV, eqbV, eqpV, extV, mm2, mmV, nilckV, ress, res1, retV, Value.cells, cond_true, cond_false, Bool.true_or, Bool.false_or, Bool.or_true, Bool.or_false, beq_self_eq_true, if_true, if_false, ite_true, ite_false, decide_true, decide_false, decide_eq_true_eq, reduceIte, Nat.zero_add, Nat.add_zero, and_self, true_and, and_true, List.size_toArray, List.length_cons, List.length_nil, List.append_nil, List.nil_append, Int.toNat_zero, Bool.not_false, Bool.not_true, Bool.not_not, Bool.false_eq_true, Bool.true_eq_false, reduceCtorEq, Int.reduceLT, Int.reduceLE, Int.reduceToNat, Int.reduceAdd, Int.reduceSub, Int.reduceMul, Int.reduceNeg, Nat.reduceMul, Nat.reduceAdd, Nat.reduceSub, Nat.reduceBEq, Nat.reduceEqDiff, Nat.reduceLT, Nat.reduceLeDiff, Int.reduceBEq, Int.reduceEq, Nat.reducePow, Int.reducePow, IntWalk.i64_in, IntKind.bits, eqAV, eqL, leafEq, andO, fillV, buildSV, List.getElem?_toArray, List.getElem?_cons_zero, List.getElem?_cons_succ, List.getElem?_nil, Int.reduceGT, Int.reduceGE, Int.reduceBNe, Bool.true_and, Bool.and_true, Bool.false_and, Bool.and_false, Bool.and_self, IntWalk.u64_in, Int.cast_ofNat_Int, callF1, pad16, pad_0, pad_1, pad_2, pad_3, pad_4, pad_5, pad_6, pad_7, pad_8, pad_9, pad_10, pad_11, pad_12, pad_13, pad_14, pad_15, gc0, gc1, gc2, gc3, gc4, gc5, gc6, gc7, gc8, gc9, gc10, gc11, gc12, gc13, gc14, gc15, gcS, sc0, sc1, sc2, sc3, sc4, sc5, sc6, sc7, sc8, sc9, sc10, sc11, sc12, sc13, sc14, sc15, scS, List.drop_succ_cons, List.drop_nil, x_pan, s_pan, b_pan, pE_ret, pE_pan, pE_none, pE_ite, pvE_some, pvE_none, pvE_ite, rv_some, rv_none, rv_ite, oR_ret, t_mv, t_pick, t_alloc, t_box, t_build, t_buildS, t_load, t_store, t_nilck, t_bin, t_eqb, t_eqA, t_eqp, t_un, t_conv, t_field, t_idxA, t_faddr, t_iaddrS, t_iaddrA, t_ext, t_len, t_mm, t_call, t_ifc, t_fn, t_slc, t_slcA, t_slcT, t_tass, t_isn, t_mks, t_app, t_pan, panE_i, optE_none, optE_some, bnd_none, bnd_int, slA_none, slA_some, appR_some, appOld_cells, newsV_s, newsV_n, lenS_s, appV_nil, appV_some, mksV_i, sh_c, sh_g, f_pan, endD_ret, dfr_normal, dfr_ret, dfr_pan, restD_normal, callD1, callC1, tassV, isnV, slcV, slcAV, slcTV, slcB, appNew, Option.bind_some, Option.bind_none, d_pan, h_pan, wrH_eq, wrX_cells, wrU_some, upH_nil, upH_cons, lk_upH, effR_some, effR_none, effR_ite, Option.isNone_none, Option.isNone_some, slA_zero, call_yield, e_range, it_func, wy_same, y_call, isLp_self, beg_normal, end_normal, end_ret, end_exit, end_ite, aft_ret, aft_ready, aft_done, aft_exit, setP_cons, setP_nil, sh_r, t_mkmap, t_mlook, t_mupd, t_mdel, mapF_some, lookF_some, setM_some, lookR_t, lookR_n, lookR_f, lookR_fn, lookV, mupdV, mdelV, mkM]
    refine ok_some (.inr ⟨by simp, rfl, rfl, .inl ⟨rfl, ?_, ⟨?_, ?_, ?_, ?_, ?_, ?_, ?_⟩⟩⟩)
    · rintro (h | h)
      · exact hnb 0 (by omega) h
      · exact hnb 1 (by omega) h
    all_goals simp (maxSteps := 10000000) (disch := omega) only [kp.l, kp.t0, kp.t1, kp.t2, kp.t3, kp.t4, kp.t11, lenV_sl, Int.toNat_natCast, bft, btf, gtst, st_len, Nat.reduceAdd, Int.cast_ofNat_Int, cond_true, cond_false, Nat.reduceBEq, Nat.reduceLT, decide_true, beq_self_eq_true, if_true, if_false]
  have hin' : (i : Int) < 2 := by omega
  have i0 : (0 : Int) ≤ (i : Int) := by omega
  have tl2 : t < W.length := by omega
  have t0 : (0 : Int) ≤ (t : Int) := by omega
  have t1 : (t : Int) + 1 - 1 = (t : Int) := by omega
  obtain ⟨bv, ov, cv, rfl, _, rv⟩ := hv.at (by omega)
  obtain ⟨bl, ol, cl, rfl, _, rl⟩ := hl.at (by omega)
  have ra : rdO H B bl (ol + t * 2 + i) 1 (rdB B bl (ol + t * 2 + i) 1) = some [.int .i64 (sd (W.getD t q0) i)] := (rl H Fr.refl t i 1 q0 tl2 (by omega)).trans (tk_sd _ hin)
  have rt : rdO H B bv (ov + t) 1 (rdB B bv (ov + t) 1) = some [.int .u64 (K.getD t 0)] := by
    have := rv H Fr.refl t 0 1 0 ht (by omega)
    rw [Nat.mul_one, Nat.add_zero] at this
    exact this.trans rfl
  have hnext : ¬ badS K t (sd (W.getD t q0) i) → ∀ j, j < i + 1 → ¬ badS K t (sd (W.getD t q0) j) := fun h j hj => by
    by_cases e : j = i
    · rw [e]; exact h
    · exact hnb j (by omega)
  have hbadO : badS K t (sd (W.getD t q0) i) → (badS K t (W.getD t q0).l ∨ badS K t (W.getD t q0).r) := fun h => by
    obtain rfl | rfl : i = 0 ∨ i = 1 := by omega
    · exact .inl h
    · exact .inr h
  generalize hs : sd (W.getD t q0) i = s at *
  by_cases h1 : s ≥ 1
  case neg =>
    simp -implicitDefEqProofs (maxSteps := 10000000) (disch := omega) only [W23_succ, L23, G23_25, V25_eq, G23_23, hB, hR, hI, lb23, kp.l, kp.t0, kp.t1, kp.t2, kp.t3, kp.t4, kp.t11, lenV_sl, Int.toNat_natCast, bft, btf, gtst, st_len, hlv, hin, hin', i0, tl2, t0, t1, ra, h1, Nat.mul_one, pad, e_skip, e_ops, e_draw, e_fork, shg_n, shg_c, shg_g, shg_r, d_none, d_nil, d_cons, d_ite, h_none, h_nil, h_cons, h_ite, eqS_same, lightV, e_seq, e_cond, e_block, e_exit, e_ret, s_normal, s_ret, s_exit, s_none, s_ite, b_normal, b_ret, b_exit, b_none, b_ite, c_bool, x_none, x_nil, x_cons, x_ite, p_some, p_none, p_ite, pt_some, pt_none, pv_some, pv_none, pv_ite, w_none, w_some, i_bool, i_undef, bt, bf, v_tmp, v_const, v_global, v_func, evs, f_normal, f_ret, f_none, f_ite, r_some, co_some, l_ptr, m_agg, m_one, sh_app, lk_nil, lk_cons, rd_eq, rdO_some, rdO_none, rdN_none, rdL_some, rdL_none, wrB_none, unitR_some, wr_nil, wr_here, wr_skip, k_cells, tk_zero, tk_take, tk_skip, tkC_some, call_func, gt, st, binV, arith, isSh, storeV, all1, idxAV, fieldV, faddrV, iaddrSV, iaddrAV, pickV, convV, unV, eqbV, eqpV, extV, mm2, mmV, nilckV, ress, res1, retV, Value.cells, cond_true, cond_false, Bool.true_or, Bool.false_or, Bool.or_true, Bool.or_false, beq_self_eq_true, if_true, if_false, ite_true, ite_false, decide_true, decide_false, decide_eq_true_eq, reduceIte, Nat.zero_add, Nat.add_zero, and_self, true_and, and_true, List.size_toArray, List.length_cons, List.length_nil, List.append_nil, List.nil_append, Int.toNat_zero, Bool.not_false, Bool.not_true, Bool.not_not, Bool.false_eq_true, Bool.true_eq_false, reduceCtorEq, Int.reduceLT, Int.reduceLE, Int.reduceToNat, Int.reduceAdd, Int.reduceSub, Int.reduceMul, Int.reduceNeg, Nat.reduceMul, Nat.reduceAdd, Nat.reduceSub, Nat.reduceBEq, Nat.reduceEqDiff, Nat.reduceLT, Nat.reduceLeDiff, Int.reduceBEq, Int.reduceEq, Nat.reducePow, Int.reducePow, IntWalk.i64_in, IntKind.bits, eqAV, eqL, leafEq, andO, fillV, buildSV, List.getElem?_toArray, List.getElem?_cons_zero, List.getElem?_cons_succ, List.getElem?_nil, Int.reduceGT, Int.reduceGE, Int.reduceBNe, Bool.true_and, Bool.and_true, Bool.false_and, Bool.and_false, Bool.and_self, IntWalk.u64_in, Int.cast_ofNat_Int, callF1, pad16, pad_0, pad_1, pad_2, pad_3, pad_4, pad_5, pad_6, pad_7, pad_8, pad_9, pad_10, pad_11, pad_12, pad_13, pad_14, pad_15, gc0, gc1, gc2, gc3, gc4, gc5, gc6, gc7, gc8, gc9, gc10, gc11, gc12, gc13, gc14, gc15, gcS, sc0, sc1, sc2, sc3, sc4, sc5, sc6, sc7, sc8, sc9, sc10, sc11, sc12, sc13, sc14, sc15, scS, List.drop_succ_cons, List.drop_nil, x_pan, s_pan, b_pan, pE_ret, pE_pan, pE_none, pE_ite, pvE_some, pvE_none, pvE_ite, rv_some, rv_none, rv_ite, oR_ret, t_mv, t_pick, t_alloc, t_box, t_build, t_buildS, t_load, t_store, t_nilck, t_bin, t_eqb, t_eqA, t_eqp, t_un, t_conv, t_field, t_idxA, t_faddr, t_iaddrS, t_iaddrA, t_ext, t_len, t_mm, t_call, t_ifc, t_fn, t_slc, t_slcA, t_slcT, t_tass, t_isn, t_mks, t_app, t_pan, panE_i, optE_none, optE_some, bnd_none, bnd_int, slA_none, slA_some, appR_some, appOld_cells, newsV_s, newsV_n, lenS_s, appV_nil, appV_some, mksV_i, sh_c, sh_g, f_pan, endD_ret, dfr_normal, dfr_ret, dfr_pan, restD_normal, callD1, callC1, tassV, isnV, slcV, slcAV, slcTV, slcB, appNew, Option.bind_some, Option.bind_none, d_pan, h_pan, wrH_eq, wrX_cells, wrU_some, upH_nil, upH_cons, lk_upH, effR_some, effR_none, effR_ite, Option.isNone_none, Option.isNone_some, slA_zero, call_yield, e_range, it_func, wy_same, y_call, isLp_self, beg_normal, end_normal, end_ret, end_exit, end_ite, aft_ret, aft_ready, aft_done, aft_exit, setP_cons, setP_nil, sh_r, t_mkmap, t_mlook, t_mupd, t_mdel, mapF_some, lookF_some, setM_some, lookR_t, lookR_n, lookR_f, lookR_fn, lookV, mupdV, mdelV, mkM]
    refine ok_some (.inl ⟨rfl, 2 - (i + 1), by omega, _, i + 1, rfl, ⟨?_, ?_, ?_, ?_, ?_, ?_, ?_⟩, hnext (fun h => h1 h.1), by omega, rfl⟩)
    all_goals simp (maxSteps := 10000000) (disch := omega) only [kp.l, kp.t0, kp.t1, kp.t2, kp.t3, kp.t4, kp.t11, lenV_sl, Int.toNat_natCast, bft, btf, gtst, st_len, hc1, Nat.reduceAdd, Int.cast_ofNat_Int, cond_true, cond_false, Nat.reduceBEq, Nat.reduceLT, decide_true, beq_self_eq_true, if_true, if_false]
  by_cases h2 : s ≤ (K.length : Int)
  case neg =>
    simp -implicitDefEqProofs (maxSteps := 10000000) (disch := omega) only [W23_succ, L23, G23_25, V25_eq, G23_23, hB, hR, hI, lb23, kp.l, kp.t0, kp.t1, kp.t2, kp.t3, kp.t4, kp.t11, lenV_sl, Int.toNat_natCast, bft, btf, gtst, st_len, hlv, hin, hin', i0, tl2, t0, t1, ra, h1, h2, Nat.mul_one, pad, e_skip, e_ops, e_draw, e_fork, shg_n, shg_c, shg_g, shg_r, d_none, d_nil, d_cons, d_ite, h_none, h_nil, h_cons, h_ite, eqS_same, lightV, e_seq, e_cond, e_block, e_exit, e_ret, s_normal, s_ret, s_exit, s_none, s_ite, b_normal, b_ret, b_exit, b_none, b_ite, c_bool, x_none, x_nil, x_cons, x_ite, p_some, p_none, p_ite, pt_some, pt_none, pv_some, pv_none, pv_ite, w_none, w_some, i_bool, i_undef, bt, bf, v_tmp, v_const, v_global, v_func, evs, f_normal, f_ret, f_none, f_ite, r_some, co_some, l_ptr, m_agg, m_one, sh_app, lk_nil, lk_cons, rd_eq, rdO_some, rdO_none, rdN_none, rdL_some, rdL_none, wrB_none, unitR_some, wr_nil, wr_here, wr_skip, k_cells, tk_zero, tk_take, tk_skip, tkC_some, call_func, gt, st, binV, arith, isSh, storeV, all1, idxAV, fieldV, faddrV, iaddrSV, iaddrAV, pickV, convV, unV, eqbV, eqpV, extV, mm2, mmV, nilckV, ress, res1, retV, Value.cells, cond_true, cond_false, Bool.true_or, Bool.false_or, Bool.or_true, Bool.or_false, beq_self_eq_true, if_true, if_false, ite_true, ite_false, decide_true, decide_false, decide_eq_true_eq, reduceIte, Nat.zero_add, Nat.add_zero, and_self, true_and, and_true, List.size_toArray, List.length_cons, List.length_nil, List.append_nil, List.nil_append, Int.toNat_zero, Bool.not_false, Bool.not_true, Bool.not_not, Bool.false_eq_true, Bool.true_eq_false, reduceCtorEq, Int.reduceLT, Int.reduceLE, Int.reduceToNat, Int.reduceAdd, Int.reduceSub, Int.reduceMul, Int.reduceNeg, Nat.reduceMul, Nat.reduceAdd, Nat.reduceSub, Nat.reduceBEq, Nat.reduceEqDiff, Nat.reduceLT, Nat.reduceLeDiff, Int.reduceBEq, Int.reduceEq, Nat.reducePow, Int.reducePow, IntWalk.i64_in, IntKind.bits, eqAV, eqL, leafEq, andO, fillV, buildSV, List.getElem?_toArray, List.getElem?_cons_zero, List.getElem?_cons_succ, List.getElem?_nil, Int.reduceGT, Int.reduceGE, Int.reduceBNe, Bool.true_and, Bool.and_true, Bool.false_and, Bool.and_false, Bool.and_self, IntWalk.u64_in, Int.cast_ofNat_Int, callF1, pad16, pad_0, pad_1, pad_2, pad_3, pad_4, pad_5, pad_6, pad_7, pad_8, pad_9, pad_10, pad_11, pad_12, pad_13, pad_14, pad_15, gc0, gc1, gc2, gc3, gc4, gc5, gc6, gc7, gc8, gc9, gc10, gc11, gc12, gc13, gc14, gc15, gcS, sc0, sc1, sc2, sc3, sc4, sc5, sc6, sc7, sc8, sc9, sc10, sc11, sc12, sc13, sc14, sc15, scS, List.drop_succ_cons, List.drop_nil, x_pan, s_pan, b_pan, pE_ret, pE_pan, pE_none, pE_ite, pvE_some, pvE_none, pvE_ite, rv_some, rv_none, rv_ite, oR_ret, t_mv, t_pick, t_alloc, t_box, t_build, t_buildS, t_load, t_store, t_nilck, t_bin, t_eqb, t_eqA, t_eqp, t_un, t_conv, t_field, t_idxA, t_faddr, t_iaddrS, t_iaddrA, t_ext, t_len, t_mm, t_call, t_ifc, t_fn, t_slc, t_slcA, t_slcT, t_tass, t_isn, t_mks, t_app, t_pan, panE_i, optE_none, optE_some, bnd_none, bnd_int, slA_none, slA_some, appR_some, appOld_cells, newsV_s, newsV_n, lenS_s, appV_nil, appV_some, mksV_i, sh_c, sh_g, f_pan, endD_ret, dfr_normal, dfr_ret, dfr_pan, restD_normal, callD1, callC1, tassV, isnV, slcV, slcAV, slcTV, slcB, appNew, Option.bind_some, Option.bind_none, d_pan, h_pan, wrH_eq, wrX_cells, wrU_some, upH_nil, upH_cons, lk_upH, effR_some, effR_none, effR_ite, Option.isNone_none, Option.isNone_some, slA_zero, call_yield, e_range, it_func, wy_same, y_call, isLp_self, beg_normal, end_normal, end_ret, end_exit, end_ite, aft_ret, aft_ready, aft_done, aft_exit, setP_cons, setP_nil, sh_r, t_mkmap, t_mlook, t_mupd, t_mdel, mapF_some, lookF_some, setM_some, lookR_t, lookR_n, lookR_f, lookR_fn, lookV, mupdV, mdelV, mkM]
    refine ok_some (.inl ⟨rfl, 2 - (i + 1), by omega, _, i + 1, rfl, ⟨?_, ?_, ?_, ?_, ?_, ?_, ?_⟩, hnext (fun h => h2 h.2.1), by omega, rfl⟩)
    all_goals simp (maxSteps := 10000000) (disch := omega) only [kp.l, kp.t0, kp.t1, kp.t2, kp.t3, kp.t4, kp.t11, lenV_sl, Int.toNat_natCast, bft, btf, gtst, st_len, hc1, Nat.reduceAdd, Int.cast_ofNat_Int, cond_true, cond_false, Nat.reduceBEq, Nat.reduceLT, decide_true, beq_self_eq_true, if_true, if_false]
  obtain ⟨m, hm⟩ : ∃ m : Nat, s = (m : Int) + 1 := ⟨(s - 1).toNat, by omega⟩
  have ml : m < K.length := by omega
  have m0 : (0 : Int) ≤ (m : Int) := by omega
  have m1 : (m : Int) + 1 - 1 = (m : Int) := by omega
  have rm : rdO H B bv (ov + m) 1 (rdB B bv (ov + m) 1) = some [.int .u64 (K.getD m 0)] := by
    have := rv H Fr.refl m 0 1 0 ml (by omega)
    rw [Nat.mul_one, Nat.add_zero] at this
    exact this.trans rfl
  have eb := f25 hG (hK.at m) (hK.at t)
  have hbs : badS K t s ↔ mixI (K.getD m 0) > mixI (K.getD t 0) := by
    unfold badS
    rw [hm, show ((m : Int) + 1 - 1).toNat = m by omega]
    constructor
    · intro h; exact h.2.2
    · intro h; exact ⟨by omega, by omega, h⟩
  rw [hm] at ra h1 h2
  by_cases h3 : mixI (K.getD m 0) > mixI (K.getD t 0)
  · rw [decide_eq_true h3] at eb
    simp -implicitDefEqProofs (maxSteps := 10000000) (disch := omega) only [W23_succ, L23, G23_25, V25_eq, G23_23, hB, hR, hI, lb23, kp.l, kp.t0, kp.t1, kp.t2, kp.t3, kp.t4, kp.t11, lenV_sl, Int.toNat_natCast, bft, btf, gtst, st_len, hlv, hin, hin', i0, tl2, t0, t1, ra, h1, h2, ml, m0, m1, rm, rt, ht, eb, Nat.mul_one, pad, e_skip, e_ops, e_draw, e_fork, shg_n, shg_c, shg_g, shg_r, d_none, d_nil, d_cons, d_ite, h_none, h_nil, h_cons, h_ite, eqS_same, lightV, e_seq, e_cond, e_block, e_exit, e_ret, s_normal, s_ret, s_exit, s_none, s_ite, b_normal, b_ret, b_exit, b_none, b_ite, c_bool, x_none, x_nil, x_cons, x_ite, p_some, p_none, p_ite, pt_some, pt_none, pv_some, pv_none, pv_ite, w_none, w_some, i_bool, i_undef, bt, bf, v_tmp, v_const, v_global, v_func, evs, f_normal, f_ret, f_none, f_ite, r_some, co_some, l_ptr, m_agg, m_one, sh_app, lk_nil, lk_cons, rd_eq, rdO_some, rdO_none, rdN_none, rdL_some, rdL_none, wrB_none, unitR_some, wr_nil, wr_here, wr_skip, k_cells, tk_zero, tk_take, tk_skip, tkC_some, call_func, gt, st, binV, arith, isSh, storeV, all1, idxAV, fieldV, faddrV, iaddrSV, iaddrAV, pickV, convV, unV, eqbV, eqpV, extV, mm2, mmV, nilckV, ress, res1, retV, Value.cells, cond_true, cond_false, Bool.true_or, Bool.false_or, Bool.or_true, Bool.or_false, beq_self_eq_true, if_true, if_false, ite_true, ite_false, decide_true, decide_false, decide_eq_true_eq, reduceIte, Nat.zero_add, Nat.add_zero, and_self, true_and, and_true, List.size_toArray, List.length_cons, List.length_nil, List.append_nil, List.nil_append, Int.toNat_zero, Bool.not_false, Bool.not_true, Bool.not_not, Bool.false_eq_true, Bool.true_eq_false, reduceCtorEq, Int.reduceLT, Int.reduceLE, Int.reduceToNat, Int.reduceAdd, Int.reduceSub, Int.reduceMul, Int.reduceNeg, Nat.reduceMul, Nat.reduceAdd, Nat.reduceSub, Nat.reduceBEq, Nat.reduceEqDiff, Nat.reduceLT, Nat.reduceLeDiff, Int.reduceBEq, Int.reduceEq, Nat.reducePow, Int.reducePow, IntWalk.i64_in, IntKind.bits, eqAV, eqL, leafEq, andO, fillV, buildSV, List.getElem?_toArray, List.getElem?_cons_zero, List.getElem?_cons_succ, List.getElem?_nil, Int.reduceGT, Int.reduceGE, Int.reduceBNe, Bool.true_and, Bool.and_true, Bool.false_and, Bool.and_false, Bool.and_self, IntWalk.u64_in, Int.cast_ofNat_Int, callF1, pad16, pad_0, pad_1, pad_2, pad_3, pad_4, pad_5, pad_6, pad_7, pad_8, pad_9, pad_10, pad_11, pad_12, pad_13, pad_14, pad_15, gc0, gc1, gc2, gc3, gc4, gc5, gc6, gc7, gc8, gc9, gc10, gc11, gc12, gc13, gc14, gc15, gcS, sc0, sc1, sc2, sc3, sc4, sc5, sc6, sc7, sc8, sc9, sc10, sc11, sc12, sc13, sc14, sc15, scS, List.drop_succ_cons, List.drop_nil, x_pan, s_pan, b_pan, pE_ret, pE_pan, pE_none, pE_ite, pvE_some, pvE_none, pvE_ite, rv_some, rv_none, rv_ite, oR_ret, t_mv, t_pick, t_alloc, t_box, t_build, t_buildS, t_load, t_store, t_nilck, t_bin, t_eqb, t_eqA, t_eqp, t_un, t_conv, t_field, t_idxA, t_faddr, t_iaddrS, t_iaddrA, t_ext, t_len, t_mm, t_call, t_ifc, t_fn, t_slc, t_slcA, t_slcT, t_tass, t_isn, t_mks, t_app, t_pan, panE_i, optE_none, optE_some, bnd_none, bnd_int, slA_none, slA_some, appR_some, appOld_cells, newsV_s, newsV_n, lenS_s, appV_nil, appV_some, mksV_i, sh_c, sh_g, f_pan, endD_ret, dfr_normal, dfr_ret, dfr_pan, restD_normal, callD1, callC1, tassV, isnV, slcV, slcAV, slcTV, slcB, appNew, Option.bind_some, Option.bind_none, d_pan, h_pan, wrH_eq, wrX_cells, wrU_some, upH_nil, upH_cons, lk_upH, effR_some, effR_none, effR_ite, Option.isNone_none, Option.isNone_some, slA_zero, call_yield, e_range, it_func, wy_same, y_call, isLp_self, beg_normal, end_normal, end_ret, end_exit, end_ite, aft_ret, aft_ready, aft_done, aft_exit, setP_cons, setP_nil, sh_r, t_mkmap, t_mlook, t_mupd, t_mdel, mapF_some, lookF_some, setM_some, lookR_t, lookR_n, lookR_f, lookR_fn, lookV, mupdV, mdelV, mkM]
    refine ok_some (.inr ⟨by simp, rfl, rfl, .inr ⟨rfl, hbadO (hbs.2 h3), ?_, ?_⟩⟩)
    all_goals simp (maxSteps := 10000000) (disch := omega) only [kp.l, kp.t0, kp.t1, kp.t2, kp.t3, kp.t4, kp.t11, lenV_sl, Int.toNat_natCast, bft, btf, gtst, st_len, Nat.reduceAdd, Int.cast_ofNat_Int, cond_true, cond_false, Nat.reduceBEq, Nat.reduceLT, decide_true, beq_self_eq_true, if_true, if_false]
  · rw [decide_eq_false h3] at eb
    simp -implicitDefEqProofs (maxSteps := 10000000) (disch := omega) only [W23_succ, L23, G23_25, V25_eq, G23_23, hB, hR, hI, lb23, kp.l, kp.t0, kp.t1, kp.t2, kp.t3, kp.t4, kp.t11, lenV_sl, Int.toNat_natCast, bft, btf, gtst, st_len, hlv, hin, hin', i0, tl2, t0, t1, ra, h1, h2, ml, m0, m1, rm, rt, ht, eb, Nat.mul_one, pad, e_skip, e_ops, e_draw, e_fork, shg_n, shg_c, shg_g, shg_r, d_none, d_nil, d_cons, d_ite, h_none, h_nil, h_cons, h_ite, eqS_same, lightV, e_seq, e_cond, e_block, e_exit, e_ret, s_normal, s_ret, s_exit, s_none, s_ite, b_normal, b_ret, b_exit, b_none, b_ite, c_bool, x_none, x_nil, x_cons, x_ite, p_some, p_none, p_ite, pt_some, pt_none, pv_some, pv_none, pv_ite, w_none, w_some, i_bool, i_undef, bt, bf, v_tmp, v_const, v_global, v_func, evs, f_normal, f_ret, f_none, f_ite, r_some, co_some, l_ptr, m_agg, m_one, sh_app, lk_nil, lk_cons, rd_eq, rdO_some, rdO_none, rdN_none, rdL_some, rdL_none, wrB_none, unitR_some, wr_nil, wr_here, wr_skip, k_cells, tk_zero, tk_take, tk_skip, tkC_some, call_func, gt, st, binV, arith, isSh, storeV, all1, idxAV, fieldV, faddrV, iaddrSV, iaddrAV, pickV, convV, unV, eqbV, eqpV, extV, mm2, mmV, nilckV, ress, res1, retV, Value.cells, cond_true, cond_false, Bool.true_or, Bool.false_or, Bool.or_true, Bool.or_false, beq_self_eq_true, if_true, if_false, ite_true, ite_false, decide_true, decide_false, decide_eq_true_eq, reduceIte, Nat.zero_add, Nat.add_zero, and_self, true_and, and_true, List.size_toArray, List.length_cons, List.length_nil, List.append_nil, List.nil_append, Int.toNat_zero, Bool.not_false, Bool.not_true, Bool.not_not, Bool.false_eq_true, Bool.true_eq_false, reduceCtorEq, Int.reduceLT, Int.reduceLE, Int.reduceToNat, Int.reduceAdd, Int.reduceSub, Int.reduceMul, Int.reduceNeg, Nat.reduceMul, Nat.reduceAdd, Nat.reduceSub, Nat.reduceBEq, Nat.reduceEqDiff, Nat.reduceLT, Nat.reduceLeDiff, Int.reduceBEq, Int.reduceEq, Nat.reducePow, Int.reducePow, IntWalk.i64_in, IntKind.bits, eqAV, eqL, leafEq, andO, fillV, buildSV, List.getElem?_toArray, List.getElem?_cons_zero, List.getElem?_cons_succ, List.getElem?_nil, Int.reduceGT, Int.reduceGE, Int.reduceBNe, Bool.true_and, Bool.and_true, Bool.false_and, Bool.and_false, Bool.and_self, IntWalk.u64_in, Int.cast_ofNat_Int, callF1, pad16, pad_0, pad_1, pad_2, pad_3, pad_4, pad_5, pad_6, pad_7, pad_8, pad_9, pad_10, pad_11, pad_12, pad_13, pad_14, pad_15, gc0, gc1, gc2, gc3, gc4, gc5, gc6, gc7, gc8, gc9, gc10, gc11, gc12, gc13, gc14, gc15, gcS, sc0, sc1, sc2, sc3, sc4, sc5, sc6, sc7, sc8, sc9, sc10, sc11, sc12, sc13, sc14, sc15, scS, List.drop_succ_cons, List.drop_nil, x_pan, s_pan, b_pan, pE_ret, pE_pan, pE_none, pE_ite, pvE_some, pvE_none, pvE_ite, rv_some, rv_none, rv_ite, oR_ret, t_mv, t_pick, t_alloc, t_box, t_build, t_buildS, t_load, t_store, t_nilck, t_bin, t_eqb, t_eqA, t_eqp, t_un, t_conv, t_field, t_idxA, t_faddr, t_iaddrS, t_iaddrA, t_ext, t_len, t_mm, t_call, t_ifc, t_fn, t_slc, t_slcA, t_slcT, t_tass, t_isn, t_mks, t_app, t_pan, panE_i, optE_none, optE_some, bnd_none, bnd_int, slA_none, slA_some, appR_some, appOld_cells, newsV_s, newsV_n, lenS_s, appV_nil, appV_some, mksV_i, sh_c, sh_g, f_pan, endD_ret, dfr_normal, dfr_ret, dfr_pan, restD_normal, callD1, callC1, tassV, isnV, slcV, slcAV, slcTV, slcB, appNew, Option.bind_some, Option.bind_none, d_pan, h_pan, wrH_eq, wrX_cells, wrU_some, upH_nil, upH_cons, lk_upH, effR_some, effR_none, effR_ite, Option.isNone_none, Option.isNone_some, slA_zero, call_yield, e_range, it_func, wy_same, y_call, isLp_self, beg_normal, end_normal, end_ret, end_exit, end_ite, aft_ret, aft_ready, aft_done, aft_exit, setP_cons, setP_nil, sh_r, t_mkmap, t_mlook, t_mupd, t_mdel, mapF_some, lookF_some, setM_some, lookR_t, lookR_n, lookR_f, lookR_fn, lookV, mupdV, mdelV, mkM]
    refine ok_some (.inl ⟨rfl, 2 - (i + 1), by omega, _, i + 1, rfl, ⟨?_, ?_, ?_, ?_, ?_, ?_, ?_⟩, hnext (fun h => h3 (hbs.1 h)), by omega, rfl⟩)
    all_goals simp (maxSteps := 10000000) (disch := omega) only [kp.l, kp.t0, kp.t1, kp.t2, kp.t3, kp.t4, kp.t11, lenV_sl, Int.toNat_natCast, bft, btf, gtst, st_len, hc1, Nat.reduceAdd, Int.cast_ofNat_Int, cond_true, cond_false, Nat.reduceBEq, Nat.reduceLT, decide_true, beq_self_eq_true, if_true, if_false]
theorem gd_succ {K : List Int} {W : List P2} {n a d : Nat} {x : Int} : gd K W (n + 1) a d x = if d = 0 then decide (x = 0) else if x < (a : Int) + 1 ∨ x > (a : Int) + d then false else
      if badS K (x - 1).toNat (W.getD (x - 1).toNat q0).l ∨ badS K (x - 1).toNat (W.getD (x - 1).toNat q0).r then false else
      gd K W n a ((x - 1).toNat - a) (W.getD (x - 1).toNat q0).l && gd K W n ((x - 1).toNat + 1) (a + d - ((x - 1).toNat + 1)) (W.getD (x - 1).toNat q0).r := rfl
set_option maxHeartbeats 16000000 in
theorem good23 {B : OH} {H : HL} {N : St} {v vl : Value} {K : List Int} {W : List P2} (hv : SlR w1 1 B H v K) (hl : SlR p2 2 B H vl W) (hK : U64s K) (hKl : K.length ≤ 256) (hW : W.length = K.length) (hN : good B H N) : ∀ (n a d : Nat) (x : Int), d < n → a + d ≤ K.length →
    W23 B n [v, vl, .int .i64 x, .int .i64 ((a : Int) + 1), .int .i64 ((a + d : Nat) : Int)] H N = some (.ret (.bool (gd K W n a d x)), H, N) := by
  have hB := good_B hN
  have hR := good_rdB hN
  have hI := beqN hN.1.1
  intro n
  induction n with
  | zero => intro a d x h; omega
  | succ n ih =>
    intro a d x hn hd
    rw [gd_succ]
    cases d with
    | zero =>
      rw [if_pos rfl]
      have c1 : (a : Int) + 1 > (a : Int) := by omega
      have c2 : (x == 0) = decide (x = 0) := by
        by_cases h : x = 0
        · subst h; rfl
        · rw [beqI h, decide_eq_false h]
      simp -implicitDefEqProofs (maxSteps := 10000000) (disch := omega) only [W23_succ, L23, G23_25, V25_eq, G23_23, hB, hR, hI, lenV_sl, Int.toNat_natCast, bft, btf, gtst, st_len, Nat.add_zero, c1, c2, pad, e_skip, e_ops, e_draw, e_fork, shg_n, shg_c, shg_g, shg_r, d_none, d_nil, d_cons, d_ite, h_none, h_nil, h_cons, h_ite, eqS_same, lightV, e_seq, e_cond, e_block, e_exit, e_ret, s_normal, s_ret, s_exit, s_none, s_ite, b_normal, b_ret, b_exit, b_none, b_ite, c_bool, x_none, x_nil, x_cons, x_ite, p_some, p_none, p_ite, pt_some, pt_none, pv_some, pv_none, pv_ite, w_none, w_some, i_bool, i_undef, bt, bf, v_tmp, v_const, v_global, v_func, evs, f_normal, f_ret, f_none, f_ite, r_some, co_some, l_ptr, m_agg, m_one, sh_app, lk_nil, lk_cons, rd_eq, rdO_some, rdO_none, rdN_none, rdL_some, rdL_none, wrB_none, unitR_some, wr_nil, wr_here, wr_skip, k_cells, tk_zero, tk_take, tk_skip, tkC_some, call_func, gt, st, binV, arith, isSh, storeV, all1, idxAV, fieldV, faddrV, iaddrSV, iaddrAV, pickV, convV, unV, eqbV, eqpV, extV, mm2, mmV, nilckV, ress, res1, retV, Value.cells, cond_true, cond_false, Bool.true_or, Bool.false_or, Bool.or_true, Bool.or_false, beq_self_eq_true, if_true, if_false, ite_true, ite_false, decide_true, decide_false, decide_eq_true_eq, reduceIte, Nat.zero_add, Nat.add_zero, and_self, true_and, and_true, List.size_toArray, List.length_cons, List.length_nil, List.append_nil, List.nil_append, Int.toNat_zero, Bool.not_false, Bool.not_true, Bool.not_not, Bool.false_eq_true, Bool.true_eq_false, reduceCtorEq, Int.reduceLT, Int.reduceLE, Int.reduceToNat, Int.reduceAdd, Int.reduceSub, Int.reduceMul, Int.reduceNeg, Nat.reduceMul, Nat.reduceAdd, Nat.reduceSub, Nat.reduceBEq, Nat.reduceEqDiff, Nat.reduceLT, Nat.reduceLeDiff, Int.reduceBEq, Int.reduceEq, Nat.reducePow, Int.reducePow, IntWalk.i64_in, IntKind.bits, eqAV, eqL, leafEq, andO, fillV, buildSV, List.getElem?_toArray, List.getElem?_cons_zero, List.getElem?_cons_succ, List.getElem?_nil, Int.reduceGT, Int.reduceGE, Int.reduceBNe, Bool.true_and, Bool.and_true, Bool.false_and, Bool.and_false, Bool.and_self, IntWalk.u64_in, Int.cast_ofNat_Int, callF1, pad16, pad_0, pad_1, pad_2, pad_3, pad_4, pad_5, pad_6, pad_7, pad_8, pad_9, pad_10, pad_11, pad_12, pad_13, pad_14, pad_15, gc0, gc1, gc2, gc3, gc4, gc5, gc6, gc7, gc8, gc9, gc10, gc11, gc12, gc13, gc14, gc15, gcS, sc0, sc1, sc2, sc3, sc4, sc5, sc6, sc7, sc8, sc9, sc10, sc11, sc12, sc13, sc14, sc15, scS, List.drop_succ_cons, List.drop_nil, x_pan, s_pan, b_pan, pE_ret, pE_pan, pE_none, pE_ite, pvE_some, pvE_none, pvE_ite, rv_some, rv_none, rv_ite, oR_ret, t_mv, t_pick, t_alloc, t_box, t_build, t_buildS, t_load, t_store, t_nilck, t_bin, t_eqb, t_eqA, t_eqp, t_un, t_conv, t_field, t_idxA, t_faddr, t_iaddrS, t_iaddrA, t_ext, t_len, t_mm, t_call, t_ifc, t_fn, t_slc, t_slcA, t_slcT, t_tass, t_isn, t_mks, t_app, t_pan, panE_i, optE_none, optE_some, bnd_none, bnd_int, slA_none, slA_some, appR_some, appOld_cells, newsV_s, newsV_n, lenS_s, appV_nil, appV_some, mksV_i, sh_c, sh_g, f_pan, endD_ret, dfr_normal, dfr_ret, dfr_pan, restD_normal, callD1, callC1, tassV, isnV, slcV, slcAV, slcTV, slcB, appNew, Option.bind_some, Option.bind_none, d_pan, h_pan, wrH_eq, wrX_cells, wrU_some, upH_nil, upH_cons, lk_upH, effR_some, effR_none, effR_ite, Option.isNone_none, Option.isNone_some, slA_zero, call_yield, e_range, it_func, wy_same, y_call, isLp_self, beg_normal, end_normal, end_ret, end_exit, end_ite, aft_ret, aft_ready, aft_done, aft_exit, setP_cons, setP_nil, sh_r, t_mkmap, t_mlook, t_mupd, t_mdel, mapF_some, lookF_some, setM_some, lookR_t, lookR_n, lookR_f, lookR_fn, lookV, mupdV, mdelV, mkM]
    | succ e =>
      rw [if_neg (by omega)]
      have c1 : ¬ (a : Int) + 1 > ((a + (e + 1) : Nat) : Int) := by omega
      by_cases h1 : x < (a : Int) + 1
      · rw [if_pos (.inl h1)]
        simp -implicitDefEqProofs (maxSteps := 10000000) (disch := omega) only [W23_succ, L23, G23_25, V25_eq, G23_23, hB, hR, hI, lenV_sl, Int.toNat_natCast, bft, btf, gtst, st_len, c1, h1, pad, e_skip, e_ops, e_draw, e_fork, shg_n, shg_c, shg_g, shg_r, d_none, d_nil, d_cons, d_ite, h_none, h_nil, h_cons, h_ite, eqS_same, lightV, e_seq, e_cond, e_block, e_exit, e_ret, s_normal, s_ret, s_exit, s_none, s_ite, b_normal, b_ret, b_exit, b_none, b_ite, c_bool, x_none, x_nil, x_cons, x_ite, p_some, p_none, p_ite, pt_some, pt_none, pv_some, pv_none, pv_ite, w_none, w_some, i_bool, i_undef, bt, bf, v_tmp, v_const, v_global, v_func, evs, f_normal, f_ret, f_none, f_ite, r_some, co_some, l_ptr, m_agg, m_one, sh_app, lk_nil, lk_cons, rd_eq, rdO_some, rdO_none, rdN_none, rdL_some, rdL_none, wrB_none, unitR_some, wr_nil, wr_here, wr_skip, k_cells, tk_zero, tk_take, tk_skip, tkC_some, call_func, gt, st, binV, arith, isSh, storeV, all1, idxAV, fieldV, faddrV, iaddrSV, iaddrAV, pickV, convV, unV, eqbV, eqpV, extV, mm2, mmV, nilckV, ress, res1, retV, Value.cells, cond_true, cond_false, Bool.true_or, Bool.false_or, Bool.or_true, Bool.or_false, beq_self_eq_true, if_true, if_false, ite_true, ite_false, decide_true, decide_false, decide_eq_true_eq, reduceIte, Nat.zero_add, Nat.add_zero, and_self, true_and, and_true, List.size_toArray, List.length_cons, List.length_nil, List.append_nil, List.nil_append, Int.toNat_zero, Bool.not_false, Bool.not_true, Bool.not_not, Bool.false_eq_true, Bool.true_eq_false, reduceCtorEq, Int.reduceLT, Int.reduceLE, Int.reduceToNat, Int.reduceAdd, Int.reduceSub, Int.reduceMul, Int.reduceNeg, Nat.reduceMul, Nat.reduceAdd, Nat.reduceSub, Nat.reduceBEq, Nat.reduceEqDiff, Nat.reduceLT, Nat.reduceLeDiff, Int.reduceBEq, Int.reduceEq, Nat.reducePow, Int.reducePow, IntWalk.i64_in, IntKind.bits, eqAV, eqL, leafEq, andO, fillV, buildSV, List.getElem?_toArray, List.getElem?_cons_zero, List.getElem?_cons_succ, List.getElem?_nil, Int.reduceGT, Int.reduceGE, Int.reduceBNe, Bool.true_and, Bool.and_true, Bool.false_and, Bool.and_false, Bool.and_self, IntWalk.u64_in, Int.cast_ofNat_Int, callF1, pad16, pad_0, pad_1, pad_2, pad_3, pad_4, pad_5, pad_6, pad_7, pad_8, pad_9, pad_10, pad_11, pad_12, pad_13, pad_14, pad_15, gc0, gc1, gc2, gc3, gc4, gc5, gc6, gc7, gc8, gc9, gc10, gc11, gc12, gc13, gc14, gc15, gcS, sc0, sc1, sc2, sc3, sc4, sc5, sc6, sc7, sc8, sc9, sc10, sc11, sc12, sc13, sc14, sc15, scS, List.drop_succ_cons, List.drop_nil, x_pan, s_pan, b_pan, pE_ret, pE_pan, pE_none, pE_ite, pvE_some, pvE_none, pvE_ite, rv_some, rv_none, rv_ite, oR_ret, t_mv, t_pick, t_alloc, t_box, t_build, t_buildS, t_load, t_store, t_nilck, t_bin, t_eqb, t_eqA, t_eqp, t_un, t_conv, t_field, t_idxA, t_faddr, t_iaddrS, t_iaddrA, t_ext, t_len, t_mm, t_call, t_ifc, t_fn, t_slc, t_slcA, t_slcT, t_tass, t_isn, t_mks, t_app, t_pan, panE_i, optE_none, optE_some, bnd_none, bnd_int, slA_none, slA_some, appR_some, appOld_cells, newsV_s, newsV_n, lenS_s, appV_nil, appV_some, mksV_i, sh_c, sh_g, f_pan, endD_ret, dfr_normal, dfr_ret, dfr_pan, restD_normal, callD1, callC1, tassV, isnV, slcV, slcAV, slcTV, slcB, appNew, Option.bind_some, Option.bind_none, d_pan, h_pan, wrH_eq, wrX_cells, wrU_some, upH_nil, upH_cons, lk_upH, effR_some, effR_none, effR_ite, Option.isNone_none, Option.isNone_some, slA_zero, call_yield, e_range, it_func, wy_same, y_call, isLp_self, beg_normal, end_normal, end_ret, end_exit, end_ite, aft_ret, aft_ready, aft_done, aft_exit, setP_cons, setP_nil, sh_r, t_mkmap, t_mlook, t_mupd, t_mdel, mapF_some, lookF_some, setM_some, lookR_t, lookR_n, lookR_f, lookR_fn, lookV, mupdV, mdelV, mkM]
      by_cases h2 : x > ((a + (e + 1) : Nat) : Int)
      · rw [if_pos (.inr (by omega))]
        simp -implicitDefEqProofs (maxSteps := 10000000) (disch := omega) only [W23_succ, L23, G23_25, V25_eq, G23_23, hB, hR, hI, lenV_sl, Int.toNat_natCast, bft, btf, gtst, st_len, c1, h1, h2, pad, e_skip, e_ops, e_draw, e_fork, shg_n, shg_c, shg_g, shg_r, d_none, d_nil, d_cons, d_ite, h_none, h_nil, h_cons, h_ite, eqS_same, lightV, e_seq, e_cond, e_block, e_exit, e_ret, s_normal, s_ret, s_exit, s_none, s_ite, b_normal, b_ret, b_exit, b_none, b_ite, c_bool, x_none, x_nil, x_cons, x_ite, p_some, p_none, p_ite, pt_some, pt_none, pv_some, pv_none, pv_ite, w_none, w_some, i_bool, i_undef, bt, bf, v_tmp, v_const, v_global, v_func, evs, f_normal, f_ret, f_none, f_ite, r_some, co_some, l_ptr, m_agg, m_one, sh_app, lk_nil, lk_cons, rd_eq, rdO_some, rdO_none, rdN_none, rdL_some, rdL_none, wrB_none, unitR_some, wr_nil, wr_here, wr_skip, k_cells, tk_zero, tk_take, tk_skip, tkC_some, call_func, gt, st, binV, arith, isSh, storeV, all1, idxAV, fieldV, faddrV, iaddrSV, iaddrAV, pickV, convV, unV, eqbV, eqpV, extV, mm2, mmV, nilckV, ress, res1, retV, Value.cells, cond_true, cond_false, Bool.true_or, Bool.false_or, Bool.or_true, Bool.or_false, beq_self_eq_true, if_true, if_false, ite_true, ite_false, decide_true, decide_false, decide_eq_true_eq, reduceIte, Nat.zero_add, Nat.add_zero, and_self, true_and, and_true, List.size_toArray, List.length_cons, List.length_nil, List.append_nil, List.nil_append, Int.toNat_zero, Bool.not_false, Bool.not_true, Bool.not_not, Bool.false_eq_true, Bool.true_eq_false, reduceCtorEq, Int.reduceLT, Int.reduceLE, Int.reduceToNat, Int.reduceAdd, Int.reduceSub, Int.reduceMul, Int.reduceNeg, Nat.reduceMul, Nat.reduceAdd, Nat.reduceSub, Nat.reduceBEq, Nat.reduceEqDiff, Nat.reduceLT, Nat.reduceLeDiff, Int.reduceBEq, Int.reduceEq, Nat.reducePow, Int.reducePow, IntWalk.i64_in, IntKind.bits, eqAV, eqL, leafEq, andO, fillV, buildSV, List.getElem?_toArray, List.getElem?_cons_zero, List.getElem?_cons_succ, List.getElem?_nil, Int.reduceGT, Int.reduceGE, Int.reduceBNe, Bool.true_and, Bool.and_true, Bool.false_and, Bool.and_false, Bool.and_self, IntWalk.u64_in, Int.cast_ofNat_Int, callF1, pad16, pad_0, pad_1, pad_2, pad_3, pad_4, pad_5, pad_6, pad_7, pad_8, pad_9, pad_10, pad_11, pad_12, pad_13, pad_14, pad_15, gc0, gc1, gc2, gc3, gc4, gc5, gc6, gc7, gc8, gc9, gc10, gc11, gc12, gc13, gc14, gc15, gcS, sc0, sc1, sc2, sc3, sc4, sc5, sc6, sc7, sc8, sc9, sc10, sc11, sc12, sc13, sc14, sc15, scS, List.drop_succ_cons, List.drop_nil, x_pan, s_pan, b_pan, pE_ret, pE_pan, pE_none, pE_ite, pvE_some, pvE_none, pvE_ite, rv_some, rv_none, rv_ite, oR_ret, t_mv, t_pick, t_alloc, t_box, t_build, t_buildS, t_load, t_store, t_nilck, t_bin, t_eqb, t_eqA, t_eqp, t_un, t_conv, t_field, t_idxA, t_faddr, t_iaddrS, t_iaddrA, t_ext, t_len, t_mm, t_call, t_ifc, t_fn, t_slc, t_slcA, t_slcT, t_tass, t_isn, t_mks, t_app, t_pan, panE_i, optE_none, optE_some, bnd_none, bnd_int, slA_none, slA_some, appR_some, appOld_cells, newsV_s, newsV_n, lenS_s, appV_nil, appV_some, mksV_i, sh_c, sh_g, f_pan, endD_ret, dfr_normal, dfr_ret, dfr_pan, restD_normal, callD1, callC1, tassV, isnV, slcV, slcAV, slcTV, slcB, appNew, Option.bind_some, Option.bind_none, d_pan, h_pan, wrH_eq, wrX_cells, wrU_some, upH_nil, upH_cons, lk_upH, effR_some, effR_none, effR_ite, Option.isNone_none, Option.isNone_some, slA_zero, call_yield, e_range, it_func, wy_same, y_call, isLp_self, beg_normal, end_normal, end_ret, end_exit, end_ite, aft_ret, aft_ready, aft_done, aft_exit, setP_cons, setP_nil, sh_r, t_mkmap, t_mlook, t_mupd, t_mdel, mapF_some, lookF_some, setM_some, lookR_t, lookR_n, lookR_f, lookR_fn, lookV, mupdV, mdelV, mkM]
      rw [if_neg (by omega)]
      obtain ⟨t, rfl, ht1, ht2⟩ : ∃ t : Nat, x = (t : Int) + 1 ∧ a ≤ t ∧ t ≤ a + e := ⟨(x - 1).toNat, by omega, by omega, by omega⟩
      rw [show ((t : Int) + 1 - 1).toNat = t by omega, show a + (e + 1) - (t + 1) = a + e - t by omega]
      simp -implicitDefEqProofs (maxSteps := 10000000) (disch := omega) only [W23_succ, L23, G23_25, V25_eq, G23_23, hB, hR, hI, lenV_sl, Int.toNat_natCast, bft, btf, gtst, st_len, c1, h1, h2, pad, e_skip, e_ops, e_draw, e_fork, shg_n, shg_c, shg_g, shg_r, d_none, d_nil, d_cons, d_ite, h_none, h_nil, h_cons, h_ite, eqS_same, lightV, e_seq, e_cond, e_block, e_exit, e_ret, s_normal, s_ret, s_exit, s_none, s_ite, b_normal, b_ret, b_exit, b_none, b_ite, c_bool, x_none, x_nil, x_cons, x_ite, p_some, p_none, p_ite, pt_some, pt_none, pv_some, pv_none, pv_ite, w_none, w_some, i_bool, i_undef, bt, bf, v_tmp, v_const, v_global, v_func, evs, f_normal, f_ret, f_none, f_ite, r_some, co_some, l_ptr, m_agg, m_one, sh_app, lk_nil, lk_cons, rd_eq, rdO_some, rdO_none, rdN_none, rdL_some, rdL_none, wrB_none, unitR_some, wr_nil, wr_here, wr_skip, k_cells, tk_zero, tk_take, tk_skip, tkC_some, call_func, gt, st, binV, arith, isSh, storeV, all1, idxAV, fieldV, faddrV, iaddrSV, iaddrAV, pickV, convV, unV, eqbV, eqpV, extV, mm2, mmV, nilckV, ress, res1, retV, Value.cells, cond_true, cond_false, Bool.true_or, Bool.false_or, Bool.or_true, Bool.or_false, beq_self_eq_true, if_true, if_false, ite_true, ite_false, decide_true, decide_false, decide_eq_true_eq, reduceIte, Nat.zero_add, Nat.add_zero, and_self, true_and, and_true, List.size_toArray, List.length_cons, List.length_nil, List.append_nil, List.nil_append, Int.toNat_zero, Bool.not_false, Bool.not_true, Bool.not_not, Bool.false_eq_true, Bool.true_eq_false, reduceCtorEq, Int.reduceLT, Int.reduceLE, Int.reduceToNat, Int.reduceAdd, Int.reduceSub, Int.reduceMul, Int.reduceNeg, Nat.reduceMul, Nat.reduceAdd, Nat.reduceSub, Nat.reduceBEq, Nat.reduceEqDiff, Nat.reduceLT, Nat.reduceLeDiff, Int.reduceBEq, Int.reduceEq, Nat.reducePow, Int.reducePow, IntWalk.i64_in, IntKind.bits, eqAV, eqL, leafEq, andO, fillV, buildSV, List.getElem?_toArray, List.getElem?_cons_zero, List.getElem?_cons_succ, List.getElem?_nil, Int.reduceGT, Int.reduceGE, Int.reduceBNe, Bool.true_and, Bool.and_true, Bool.false_and, Bool.and_false, Bool.and_self, IntWalk.u64_in, Int.cast_ofNat_Int, callF1, pad16, pad_0, pad_1, pad_2, pad_3, pad_4, pad_5, pad_6, pad_7, pad_8, pad_9, pad_10, pad_11, pad_12, pad_13, pad_14, pad_15, gc0, gc1, gc2, gc3, gc4, gc5, gc6, gc7, gc8, gc9, gc10, gc11, gc12, gc13, gc14, gc15, gcS, sc0, sc1, sc2, sc3, sc4, sc5, sc6, sc7, sc8, sc9, sc10, sc11, sc12, sc13, sc14, sc15, scS, List.drop_succ_cons, List.drop_nil, x_pan, s_pan, b_pan, pE_ret, pE_pan, pE_none, pE_ite, pvE_some, pvE_none, pvE_ite, rv_some, rv_none, rv_ite, oR_ret, t_mv, t_pick, t_alloc, t_box, t_build, t_buildS, t_load, t_store, t_nilck, t_bin, t_eqb, t_eqA, t_eqp, t_un, t_conv, t_field, t_idxA, t_faddr, t_iaddrS, t_iaddrA, t_ext, t_len, t_mm, t_call, t_ifc, t_fn, t_slc, t_slcA, t_slcT, t_tass, t_isn, t_mks, t_app, t_pan, panE_i, optE_none, optE_some, bnd_none, bnd_int, slA_none, slA_some, appR_some, appOld_cells, newsV_s, newsV_n, lenS_s, appV_nil, appV_some, mksV_i, sh_c, sh_g, f_pan, endD_ret, dfr_normal, dfr_ret, dfr_pan, restD_normal, callD1, callC1, tassV, isnV, slcV, slcAV, slcTV, slcB, appNew, Option.bind_some, Option.bind_none, d_pan, h_pan, wrH_eq, wrX_cells, wrU_some, upH_nil, upH_cons, lk_upH, effR_some, effR_none, effR_ite, Option.isNone_none, Option.isNone_some, slA_zero, call_yield, e_range, it_func, wy_same, y_call, isLp_self, beg_normal, end_normal, end_ret, end_exit, end_ite, aft_ret, aft_ready, aft_done, aft_exit, setP_cons, setP_nil, sh_r, t_mkmap, t_mlook, t_mupd, t_mdel, mapF_some, lookF_some, setM_some, lookR_t, lookR_n, lookR_f, lookR_fn, lookV, mupdV, mdelV, mkM]
      generalize hX : exec B _ _ (LC.loop _) _ = o
      obtain ⟨y, ⟨ts1, H1, N1⟩, ho, hHH, hNN, hr⟩ := (show Ok o _ by rw [← hX]; exact loop23 (S := W23 B n) (W := W) (t := t) (a := a) (z := a + (e + 1)) hv hl hK hKl (by omega) hW hN ⟨rfl, rfl, rfl, rfl, rfl, rfl, rfl⟩ (by omega))
      subst ho
      simp only at hr hHH hNN
      obtain rfl : H = H1 := hHH.symm
      obtain rfl : N = N1 := hNN.symm
      rcases hr with ⟨rfl, hnb, kp⟩ | ⟨rfl, hb, tl, t10⟩
      · rw [if_neg hnb]
        have e1 := ih a (t - a) (W.getD t q0).l (by omega) (by omega)
        rw [show a + (t - a) = t by omega] at e1
        have e2 := ih (t + 1) (a + e - t) (W.getD t q0).r (by omega) (by omega)
        rw [show t + 1 + (a + e - t) = a + (e + 1) by omega, show ((t + 1 : Nat) : Int) = (t : Int) + 1 by omega] at e2
        have tl2 : t < W.length := by omega
        have t0 : (0 : Int) ≤ (t : Int) := by omega
        have t1 : (t : Int) + 1 - 1 = (t : Int) := by omega
        obtain ⟨bl, ol, cl, rfl, _, rl⟩ := hl.at (by omega)
        have ra : rdO H B bl (ol + t * 2) 1 (rdB B bl (ol + t * 2) 1) = some [.int .i64 (W.getD t q0).l] := (rl H Fr.refl t 0 1 q0 tl2 (by omega)).trans rfl
        have rb : rdO H B bl (ol + t * 2 + 1) 1 (rdB B bl (ol + t * 2 + 1) 1) = some [.int .i64 (W.getD t q0).r] := (rl H Fr.refl t 1 1 q0 tl2 (by omega)).trans rfl
        generalize gd K W n a (t - a) (W.getD t q0).l = b1 at *
        generalize gd K W n (t + 1) (a + e - t) (W.getD t q0).r = b2 at *
        cases b1
        · simp -implicitDefEqProofs (maxSteps := 10000000) (disch := omega) only [W23_succ, L23, G23_25, V25_eq, G23_23, hB, hR, hI, kp.l, kp.t0, kp.t1, kp.t2, kp.t3, kp.t4, kp.t11, lenV_sl, Int.toNat_natCast, bft, btf, gtst, st_len, tl2, t0, t1, ra, e1, Nat.mul_one, Nat.add_zero, pad, e_skip, e_ops, e_draw, e_fork, shg_n, shg_c, shg_g, shg_r, d_none, d_nil, d_cons, d_ite, h_none, h_nil, h_cons, h_ite, eqS_same, lightV, e_seq, e_cond, e_block, e_exit, e_ret, s_normal, s_ret, s_exit, s_none, s_ite, b_normal, b_ret, b_exit, b_none, b_ite, c_bool, x_none, x_nil, x_cons, x_ite, p_some, p_none, p_ite, pt_some, pt_none, pv_some, pv_none, pv_ite, w_none, w_some, i_bool, i_undef, bt, bf, v_tmp, v_const, v_global, v_func, evs, f_normal, f_ret, f_none, f_ite, r_some, co_some, l_ptr, m_agg, m_one, sh_app, lk_nil, lk_cons, rd_eq, rdO_some, rdO_none, rdN_none, rdL_some, rdL_none, wrB_none, unitR_some, wr_nil, wr_here, wr_skip, k_cells, tk_zero, tk_take, tk_skip, tkC_some, call_func, gt, st, binV, arith, isSh, storeV, all1, idxAV, fieldV, faddrV, iaddrSV, iaddrAV, pickV, convV, unV, eqbV, eqpV, extV, mm2, mmV, nilckV, ress, res1, retV, Value.cells, cond_true, cond_false, Bool.true_or, Bool.false_or, Bool.or_true, Bool.or_false, beq_self_eq_true, if_true, if_false, ite_true, ite_false, decide_true, decide_false, decide_eq_true_eq, reduceIte, Nat.zero_add, Nat.add_zero, and_self, true_and, and_true, List.size_toArray, List.length_cons, List.length_nil, List.append_nil, List.nil_append, Int.toNat_zero, Bool.not_false, Bool.not_true, Bool.not_not, Bool.false_eq_true, Bool.true_eq_false, reduceCtorEq, Int.reduceLT, Int.reduceLE, Int.reduceToNat, Int.reduceAdd, Int.reduceSub, Int.reduceMul, Int.reduceNeg, Nat.reduceMul, Nat.reduceAdd, Nat.reduceSub, Nat.reduceBEq, Nat.reduceEqDiff, Nat.reduceLT, Nat.reduceLeDiff, Int.reduceBEq, Int.reduceEq, Nat.reducePow, Int.reducePow, IntWalk.i64_in, IntKind.bits, eqAV, eqL, leafEq, andO, fillV, buildSV, List.getElem?_toArray, List.getElem?_cons_zero, List.getElem?_cons_succ, List.getElem?_nil, Int.reduceGT, Int.reduceGE, Int.reduceBNe, Bool.true_and, Bool.and_true, Bool.false_and, Bool.and_false, Bool.and_self, IntWalk.u64_in, Int.cast_ofNat_Int, callF1, pad16, pad_0, pad_1, pad_2, pad_3, pad_4, pad_5, pad_6, pad_7, pad_8, pad_9, pad_10, pad_11, pad_12, pad_13, pad_14, pad_15, gc0, gc1, gc2, gc3, gc4, gc5, gc6, gc7, gc8, gc9, gc10, gc11, gc12, gc13, gc14, gc15, gcS, sc0, sc1, sc2, sc3, sc4, sc5, sc6, sc7, sc8, sc9, sc10, sc11, sc12, sc13, sc14, sc15, scS, List.drop_succ_cons, List.drop_nil, x_pan, s_pan, b_pan, pE_ret, pE_pan, pE_none, pE_ite, pvE_some, pvE_none, pvE_ite, rv_some, rv_none, rv_ite, oR_ret, t_mv, t_pick, t_alloc, t_box, t_build, t_buildS, t_load, t_store, t_nilck, t_bin, t_eqb, t_eqA, t_eqp, t_un, t_conv, t_field, t_idxA, t_faddr, t_iaddrS, t_iaddrA, t_ext, t_len, t_mm, t_call, t_ifc, t_fn, t_slc, t_slcA, t_slcT, t_tass, t_isn, t_mks, t_app, t_pan, panE_i, optE_none, optE_some, bnd_none, bnd_int, slA_none, slA_some, appR_some, appOld_cells, newsV_s, newsV_n, lenS_s, appV_nil, appV_some, mksV_i, sh_c, sh_g, f_pan, endD_ret, dfr_normal, dfr_ret, dfr_pan, restD_normal, callD1, callC1, tassV, isnV, slcV, slcAV, slcTV, slcB, appNew, Option.bind_some, Option.bind_none, d_pan, h_pan, wrH_eq, wrX_cells, wrU_some, upH_nil, upH_cons, lk_upH, effR_some, effR_none, effR_ite, Option.isNone_none, Option.isNone_some, slA_zero, call_yield, e_range, it_func, wy_same, y_call, isLp_self, beg_normal, end_normal, end_ret, end_exit, end_ite, aft_ret, aft_ready, aft_done, aft_exit, setP_cons, setP_nil, sh_r, t_mkmap, t_mlook, t_mupd, t_mdel, mapF_some, lookF_some, setM_some, lookR_t, lookR_n, lookR_f, lookR_fn, lookV, mupdV, mdelV, mkM]
        · simp -implicitDefEqProofs (maxSteps := 10000000) (disch := omega) only [W23_succ, L23, G23_25, V25_eq, G23_23, hB, hR, hI, kp.l, kp.t0, kp.t1, kp.t2, kp.t3, kp.t4, kp.t11, lenV_sl, Int.toNat_natCast, bft, btf, gtst, st_len, tl2, t0, t1, ra, rb, e1, e2, Nat.mul_one, Nat.add_zero, pad, e_skip, e_ops, e_draw, e_fork, shg_n, shg_c, shg_g, shg_r, d_none, d_nil, d_cons, d_ite, h_none, h_nil, h_cons, h_ite, eqS_same, lightV, e_seq, e_cond, e_block, e_exit, e_ret, s_normal, s_ret, s_exit, s_none, s_ite, b_normal, b_ret, b_exit, b_none, b_ite, c_bool, x_none, x_nil, x_cons, x_ite, p_some, p_none, p_ite, pt_some, pt_none, pv_some, pv_none, pv_ite, w_none, w_some, i_bool, i_undef, bt, bf, v_tmp, v_const, v_global, v_func, evs, f_normal, f_ret, f_none, f_ite, r_some, co_some, l_ptr, m_agg, m_one, sh_app, lk_nil, lk_cons, rd_eq, rdO_some, rdO_none, rdN_none, rdL_some, rdL_none, wrB_none, unitR_some, wr_nil, wr_here, wr_skip, k_cells, tk_zero, tk_take, tk_skip, tkC_some, call_func, gt, st, binV, arith, isSh, storeV, all1, idxAV, fieldV, faddrV, iaddrSV, iaddrAV, pickV, convV, unV, eqbV, eqpV, extV, mm2, mmV, nilckV, ress, res1, retV, Value.cells, cond_true, cond_false, Bool.true_or, Bool.false_or, Bool.or_true, Bool.or_false, beq_self_eq_true, if_true, if_false, ite_true, ite_false, decide_true, decide_false, decide_eq_true_eq, reduceIte, Nat.zero_add, Nat.add_zero, and_self, true_and, and_true, List.size_toArray, List.length_cons, List.length_nil, List.append_nil, List.nil_append, Int.toNat_zero, Bool.not_false, Bool.not_true, Bool.not_not, Bool.false_eq_true, Bool.true_eq_false, reduceCtorEq, Int.reduceLT, Int.reduceLE, Int.reduceToNat, Int.reduceAdd, Int.reduceSub, Int.reduceMul, Int.reduceNeg, Nat.reduceMul, Nat.reduceAdd, Nat.reduceSub, Nat.reduceBEq, Nat.reduceEqDiff, Nat.reduceLT, Nat.reduceLeDiff, Int.reduceBEq, Int.reduceEq, Nat.reducePow, Int.reducePow, IntWalk.i64_in, IntKind.bits, eqAV, eqL, leafEq, andO, fillV, buildSV, List.getElem?_toArray, List.getElem?_cons_zero, List.getElem?_cons_succ, List.getElem?_nil, Int.reduceGT, Int.reduceGE, Int.reduceBNe, Bool.true_and, Bool.and_true, Bool.false_and, Bool.and_false, Bool.and_self, IntWalk.u64_in, Int.cast_ofNat_Int, callF1, pad16, pad_0, pad_1, pad_2, pad_3, pad_4, pad_5, pad_6, pad_7, pad_8, pad_9, pad_10, pad_11, pad_12, pad_13, pad_14, pad_15, gc0, gc1, gc2, gc3, gc4, gc5, gc6, gc7, gc8, gc9, gc10, gc11, gc12, gc13, gc14, gc15, gcS, sc0, sc1, sc2, sc3, sc4, sc5, sc6, sc7, sc8, sc9, sc10, sc11, sc12, sc13, sc14, sc15, scS, List.drop_succ_cons, List.drop_nil, x_pan, s_pan, b_pan, pE_ret, pE_pan, pE_none, pE_ite, pvE_some, pvE_none, pvE_ite, rv_some, rv_none, rv_ite, oR_ret, t_mv, t_pick, t_alloc, t_box, t_build, t_buildS, t_load, t_store, t_nilck, t_bin, t_eqb, t_eqA, t_eqp, t_un, t_conv, t_field, t_idxA, t_faddr, t_iaddrS, t_iaddrA, t_ext, t_len, t_mm, t_call, t_ifc, t_fn, t_slc, t_slcA, t_slcT, t_tass, t_isn, t_mks, t_app, t_pan, panE_i, optE_none, optE_some, bnd_none, bnd_int, slA_none, slA_some, appR_some, appOld_cells, newsV_s, newsV_n, lenS_s, appV_nil, appV_some, mksV_i, sh_c, sh_g, f_pan, endD_ret, dfr_normal, dfr_ret, dfr_pan, restD_normal, callD1, callC1, tassV, isnV, slcV, slcAV, slcTV, slcB, appNew, Option.bind_some, Option.bind_none, d_pan, h_pan, wrH_eq, wrX_cells, wrU_some, upH_nil, upH_cons, lk_upH, effR_some, effR_none, effR_ite, Option.isNone_none, Option.isNone_some, slA_zero, call_yield, e_range, it_func, wy_same, y_call, isLp_self, beg_normal, end_normal, end_ret, end_exit, end_ite, aft_ret, aft_ready, aft_done, aft_exit, setP_cons, setP_nil, sh_r, t_mkmap, t_mlook, t_mupd, t_mdel, mapF_some, lookF_some, setM_some, lookR_t, lookR_n, lookR_f, lookR_fn, lookV, mupdV, mdelV, mkM]
      · rw [if_pos hb]
        simp -implicitDefEqProofs (maxSteps := 10000000) (disch := omega) only [W23_succ, L23, G23_25, V25_eq, G23_23, hB, hR, hI, lenV_sl, Int.toNat_natCast, bft, btf, gtst, st_len, tl, t10, pad, e_skip, e_ops, e_draw, e_fork, shg_n, shg_c, shg_g, shg_r, d_none, d_nil, d_cons, d_ite, h_none, h_nil, h_cons, h_ite, eqS_same, lightV, e_seq, e_cond, e_block, e_exit, e_ret, s_normal, s_ret, s_exit, s_none, s_ite, b_normal, b_ret, b_exit, b_none, b_ite, c_bool, x_none, x_nil, x_cons, x_ite, p_some, p_none, p_ite, pt_some, pt_none, pv_some, pv_none, pv_ite, w_none, w_some, i_bool, i_undef, bt, bf, v_tmp, v_const, v_global, v_func, evs, f_normal, f_ret, f_none, f_ite, r_some, co_some, l_ptr, m_agg, m_one, sh_app, lk_nil, lk_cons, rd_eq, rdO_some, rdO_none, rdN_none, rdL_some, rdL_none, wrB_none, unitR_some, wr_nil, wr_here, wr_skip, k_cells, tk_zero, tk_take, tk_skip, tkC_some, call_func, gt, st, binV, arith, isSh, storeV, all1, idxAV, fieldV, faddrV, iaddrSV, iaddrAV, pickV, convV, unV, eqbV, eqpV, extV, mm2, mmV, nilckV, ress, res1, retV, Value.cells, cond_true, cond_false, Bool.true_or, Bool.false_or, Bool.or_true, Bool.or_false, beq_self_eq_true, if_true, if_false, ite_true, ite_false, decide_true, decide_false, decide_eq_true_eq, reduceIte, Nat.zero_add, Nat.add_zero, and_self, true_and, and_true, List.size_toArray, List.length_cons, List.length_nil, List.append_nil, List.nil_append, Int.toNat_zero, Bool.not_false, Bool.not_true, Bool.not_not, Bool.false_eq_true, Bool.true_eq_false, reduceCtorEq, Int.reduceLT, Int.reduceLE, Int.reduceToNat, Int.reduceAdd, Int.reduceSub, Int.reduceMul, Int.reduceNeg, Nat.reduceMul, Nat.reduceAdd, Nat.reduceSub, Nat.reduceBEq, Nat.reduceEqDiff, Nat.reduceLT, Nat.reduceLeDiff, Int.reduceBEq, Int.reduceEq, Nat.reducePow, Int.reducePow, IntWalk.i64_in, IntKind.bits, eqAV, eqL, leafEq, andO, fillV, buildSV, List.getElem?_toArray, List.getElem?_cons_zero, List.getElem?_cons_succ, List.getElem?_nil, Int.reduceGT, Int.reduceGE, Int.reduceBNe, Bool.true_and, Bool.and_true, Bool.false_and, Bool.and_false, Bool.and_self, IntWalk.u64_in, Int.cast_ofNat_Int, callF1, pad16, pad_0, pad_1, pad_2, pad_3, pad_4, pad_5, pad_6, pad_7, pad_8, pad_9, pad_10, pad_11, pad_12, pad_13, pad_14, pad_15, gc0, gc1, gc2, gc3, gc4, gc5, gc6, gc7, gc8, gc9, gc10, gc11, gc12, gc13, gc14, gc15, gcS, sc0, sc1, sc2, sc3, sc4, sc5, sc6, sc7, sc8, sc9, sc10, sc11, sc12, sc13, sc14, sc15, scS, List.drop_succ_cons, List.drop_nil, x_pan, s_pan, b_pan, pE_ret, pE_pan, pE_none, pE_ite, pvE_some, pvE_none, pvE_ite, rv_some, rv_none, rv_ite, oR_ret, t_mv, t_pick, t_alloc, t_box, t_build, t_buildS, t_load, t_store, t_nilck, t_bin, t_eqb, t_eqA, t_eqp, t_un, t_conv, t_field, t_idxA, t_faddr, t_iaddrS, t_iaddrA, t_ext, t_len, t_mm, t_call, t_ifc, t_fn, t_slc, t_slcA, t_slcT, t_tass, t_isn, t_mks, t_app, t_pan, panE_i, optE_none, optE_some, bnd_none, bnd_int, slA_none, slA_some, appR_some, appOld_cells, newsV_s, newsV_n, lenS_s, appV_nil, appV_some, mksV_i, sh_c, sh_g, f_pan, endD_ret, dfr_normal, dfr_ret, dfr_pan, restD_normal, callD1, callC1, tassV, isnV, slcV, slcAV, slcTV, slcB, appNew, Option.bind_some, Option.bind_none, d_pan, h_pan, wrH_eq, wrX_cells, wrU_some, upH_nil, upH_cons, lk_upH, effR_some, effR_none, effR_ite, Option.isNone_none, Option.isNone_some, slA_zero, call_yield, e_range, it_func, wy_same, y_call, isLp_self, beg_normal, end_normal, end_ret, end_exit, end_ite, aft_ret, aft_ready, aft_done, aft_exit, setP_cons, setP_nil, sh_r, t_mkmap, t_mlook, t_mupd, t_mdel, mapF_some, lookF_some, setM_some, lookR_t, lookR_n, lookR_f, lookR_fn, lookV, mupdV, mdelV, mkM]
end Go.Proofs.YtlkeeckhileedaaDoor
namespace Go.Proofs.YtlkeeckhileedaaDoor
open Go.Proofs.YtlkeeckhileedaaDoor.K Go.ChangeShapes Go.WideShapes Go.ChangeAt Go.RowKit 
set_option maxRecDepth 100000
set_option linter.unusedSimpArgs false
set_option linter.unusedVariables false
/-- whitewash/whitewashlaw08.TreapOne -/
def L4 : FnL := ⟨(.seq (.ops [⟨(some 10), .mv (.const (.bool false)), none⟩])
 (.seq (.ops [⟨(some 24), .call (.func 8) [], none⟩, ⟨(some 11), .mv (.tmp 24), none⟩])
 (.seq (.ops [⟨(some 25), .mv (.tmp 0), none⟩, ⟨(some 26), .call (.func 9) [(.tmp 25)], none⟩, ⟨(some 12), .mv (.tmp 26), none⟩])
 (.seq (.ops [⟨(some 27), .mv (.tmp 12), none⟩, ⟨(some 28), .len false (.tmp 27), none⟩, ⟨(some 13), .mv (.tmp 28), none⟩])
 (.seq (.ops [⟨(some 30), .mv (.tmp 12), none⟩, ⟨(some 31), .call (.func 10) [(.tmp 30)], none⟩, ⟨(some 29), .mv (.tmp 31), none⟩, ⟨(some 32), .ext (.tmp 29) 0, none⟩, ⟨(some 33), .ext (.tmp 29) 1, none⟩, ⟨(some 34), .ext (.tmp 29) 2, none⟩, ⟨(some 14), .mv (.tmp 32), none⟩, ⟨(some 15), .mv (.tmp 33), none⟩, ⟨(some 16), .mv (.tmp 34), none⟩])
 (.seq (.seq (.ops [⟨(some 35), .mv (.tmp 16), none⟩, ⟨(some 36), .bin .neq (.tmp 35) (.const (.int .i64 0)), none⟩, ⟨(some 37), .mv (.tmp 36), none⟩, ⟨(some 38), .mv (.tmp 15), (some (37, false))⟩, ⟨(some 39), .len false (.tmp 38), (some (37, false))⟩, ⟨(some 40), .mv (.tmp 13), (some (37, false))⟩, ⟨(some 41), .bin .neq (.tmp 39) (.tmp 40), (some (37, false))⟩, ⟨(some 42), .pick (.tmp 37) (.const (.bool true)) (.tmp 41), none⟩, ⟨(some 43), .mv (.tmp 42), none⟩, ⟨(some 44), .mv (.tmp 12), (some (43, false))⟩, ⟨(some 45), .mv (.tmp 15), (some (43, false))⟩, ⟨(some 46), .mv (.tmp 14), (some (43, false))⟩, ⟨(some 47), .mv (.tmp 13), (some (43, false))⟩, ⟨(some 48), .call (.func 23) [(.tmp 44), (.tmp 45), (.tmp 46), (.const (.int .i64 1)), (.tmp 47)], (some (43, false))⟩, ⟨(some 49), .un .not (.tmp 48), (some (43, false))⟩, ⟨(some 50), .pick (.tmp 43) (.const (.bool true)) (.tmp 49), none⟩, ⟨(some 51), .mv (.tmp 50), none⟩, ⟨(some 52), .mv (.tmp 12), (some (51, false))⟩, ⟨(some 53), .mv (.tmp 14), (some (51, false))⟩, ⟨(some 54), .mv (.tmp 15), (some (51, false))⟩, ⟨(some 55), .call (.func 13) [(.tmp 52), (.tmp 53), (.tmp 54)], (some (51, false))⟩, ⟨(some 56), .un .not (.tmp 55), (some (51, false))⟩, ⟨(some 57), .pick (.tmp 51) (.const (.bool true)) (.tmp 56), none⟩])
 (.cond (.tmp 57) (.seq (.ops [⟨(some 10), .mv (.const (.bool false)), none⟩])
 .ret)
 .skip))
 (.seq (.ops [⟨(some 17), .mv (.const (.slice none 0 0)), none⟩])
 (.seq (.seq (.ops [⟨(some 18), .mv (.const (.int .i64 0)), none⟩])
 (.block 0 (.loop (.seq (.seq (.ops [⟨(some 58), .mv (.tmp 18), none⟩, ⟨(some 59), .mv (.tmp 13), none⟩, ⟨(some 60), .bin .lss (.tmp 58) (.tmp 59), none⟩])
 (.cond (.tmp 60) .skip
 (.exit 0)))
 (.seq (.block 1 (.seq (.ops [⟨(some 63), .build [(.int .i64 0), (.int .i64 0)] [], none⟩, ⟨(some 19), .alloc [(.int .i64 0), (.int .i64 0)], none⟩, ⟨none, .store 2 (.tmp 19) (.tmp 63), none⟩])
 (.seq (.seq (.ops [⟨(some 64), .mv (.tmp 18), none⟩, ⟨(some 65), .mv (.tmp 2), none⟩, ⟨(some 66), .len false (.tmp 65), none⟩, ⟨(some 67), .bin .lss (.tmp 64) (.tmp 66), none⟩])
 (.cond (.tmp 67) (.draw [⟨⟨(some 68), .mv (.tmp 2), none⟩, []⟩, ⟨⟨(some 69), .mv (.tmp 18), none⟩, []⟩, ⟨⟨(some 70), .iaddrS 2 (.tmp 68) (.tmp 69), none⟩, []⟩, ⟨⟨(some 71), .iaddrA 1 2 (.tmp 70) (.const (.int .i64 0)), none⟩, []⟩, ⟨⟨(some 72), .load false 1 (.tmp 71), none⟩, []⟩, ⟨⟨(some 73), .mv (.tmp 13), none⟩, []⟩, ⟨⟨(some 74), .bin .add (.tmp 73) (.const (.int .i64 1)), none⟩, []⟩, ⟨⟨(some 76), .mv (.tmp 2), none⟩, []⟩, ⟨⟨(some 77), .mv (.tmp 18), none⟩, []⟩, ⟨⟨(some 78), .iaddrS 2 (.tmp 76) (.tmp 77), none⟩, []⟩, ⟨⟨(some 79), .iaddrA 1 2 (.tmp 78) (.const (.int .i64 1)), none⟩, []⟩, ⟨⟨(some 80), .load false 1 (.tmp 79), none⟩, []⟩, ⟨⟨(some 81), .mv (.tmp 13), none⟩, []⟩, ⟨⟨(some 82), .bin .add (.tmp 81) (.const (.int .i64 1)), none⟩, []⟩, ⟨⟨(some 75), .call (.func 24) [(.tmp 72), (.tmp 74)], none⟩, [⟨(some 80), .load false 1 (.tmp 79), none⟩]⟩, ⟨⟨(some 83), .call (.func 24) [(.tmp 80), (.tmp 82)], none⟩, []⟩, ⟨⟨(some 84), .build [(.int .i64 0), (.int .i64 0)] [(0, 1, (.tmp 75)), (1, 1, (.tmp 83))], none⟩, []⟩, ⟨⟨none, .store 2 (.tmp 19) (.tmp 84), none⟩, []⟩])
 .skip))
 (.ops [⟨(some 85), .mv (.tmp 17), none⟩, ⟨(some 86), .load true 2 (.tmp 19), none⟩, ⟨(some 87), .buildS [(.int .i64 0), (.int .i64 0)] 1 [(0, 2, (.tmp 86))], none⟩, ⟨(some 88), .app [(.int .i64 0), (.int .i64 0)] 16 (.tmp 85) (.tmp 87), none⟩, ⟨(some 17), .mv (.tmp 88), none⟩]))))
 (.ops [⟨(some 61), .mv (.tmp 18), none⟩, ⟨(some 62), .bin .add (.tmp 61) (.const (.int .i64 1)), none⟩, ⟨(some 18), .mv (.tmp 62), none⟩]))))))
 (.seq (.ops [⟨(some 89), .mv (.tmp 1), none⟩, ⟨(some 90), .mv (.tmp 13), none⟩, ⟨(some 91), .bin .add (.tmp 90) (.const (.int .i64 1)), none⟩, ⟨(some 92), .call (.func 24) [(.tmp 89), (.tmp 91)], none⟩, ⟨(some 20), .mv (.tmp 92), none⟩])
 (.seq (.seq (.ops [⟨(some 93), .mv (.tmp 12), none⟩, ⟨(some 94), .mv (.tmp 20), none⟩, ⟨(some 95), .mv (.tmp 17), none⟩, ⟨(some 96), .call (.func 13) [(.tmp 93), (.tmp 94), (.tmp 95)], none⟩, ⟨(some 97), .mv (.tmp 12), none⟩, ⟨(some 98), .mv (.tmp 17), none⟩, ⟨(some 99), .mv (.tmp 20), none⟩, ⟨(some 100), .mv (.tmp 13), none⟩, ⟨(some 101), .call (.func 23) [(.tmp 97), (.tmp 98), (.tmp 99), (.const (.int .i64 1)), (.tmp 100)], none⟩, ⟨(some 102), .eqb true (.tmp 96) (.tmp 101), none⟩, ⟨(some 103), .mv (.tmp 102), none⟩, ⟨(some 104), .mv (.tmp 12), (some (103, false))⟩, ⟨(some 105), .mv (.tmp 20), (some (103, false))⟩, ⟨(some 106), .mv (.tmp 15), (some (103, false))⟩, ⟨(some 107), .call (.func 13) [(.tmp 104), (.tmp 105), (.tmp 106)], (some (103, false))⟩, ⟨(some 108), .mv (.tmp 20), (some (103, false))⟩, ⟨(some 109), .mv (.tmp 14), (some (103, false))⟩, ⟨(some 110), .bin .eql (.tmp 108) (.tmp 109), (some (103, false))⟩, ⟨(some 111), .eqb true (.tmp 107) (.tmp 110), (some (103, false))⟩, ⟨(some 112), .pick (.tmp 103) (.const (.bool true)) (.tmp 111), none⟩])
 (.cond (.tmp 112) (.seq (.ops [⟨(some 10), .mv (.const (.bool false)), none⟩])
 .ret)
 .skip))
 (.seq (.seq (.ops [⟨(some 113), .mv (.tmp 13), none⟩, ⟨(some 114), .bin .eql (.tmp 113) (.const (.int .i64 0)), none⟩])
 (.cond (.tmp 114) (.seq (.ops [⟨(some 115), .mv (.tmp 11), none⟩, ⟨(some 10), .mv (.tmp 115), none⟩])
 .ret)
 .skip))
 (.seq (.ops [⟨(some 116), .mv (.tmp 3), none⟩, ⟨(some 117), .mv (.tmp 13), none⟩, ⟨(some 118), .call (.func 24) [(.tmp 116), (.tmp 117)], none⟩, ⟨(some 21), .mv (.tmp 118), none⟩])
 (.seq (.ops [⟨(some 119), .mv (.tmp 15), none⟩, ⟨(some 120), .mv (.tmp 21), none⟩, ⟨(some 121), .iaddrS 2 (.tmp 119) (.tmp 120), none⟩, ⟨(some 122), .load true 2 (.tmp 121), none⟩, ⟨(some 22), .alloc [(.int .i64 0), (.int .i64 0)], none⟩, ⟨none, .store 2 (.tmp 22) (.tmp 122), none⟩])
 (.seq (.ops [⟨(some 123), .mv (.tmp 15), none⟩, ⟨(some 124), .app [(.int .i64 0), (.int .i64 0)] 16 (.const (.slice none 0 0)) (.tmp 123), none⟩, ⟨(some 23), .mv (.tmp 124), none⟩])
 (.seq (.draw [⟨⟨(some 125), .mv (.tmp 23), none⟩, []⟩, ⟨⟨(some 126), .mv (.tmp 21), none⟩, []⟩, ⟨⟨(some 127), .mv (.tmp 4), none⟩, []⟩, ⟨⟨(some 128), .mv (.tmp 13), none⟩, []⟩, ⟨⟨(some 129), .bin .add (.tmp 128) (.const (.int .i64 1)), none⟩, []⟩, ⟨⟨(some 131), .iaddrA 1 2 (.tmp 22) (.const (.int .i64 1)), none⟩, []⟩, ⟨⟨(some 132), .load false 1 (.tmp 131), none⟩, []⟩, ⟨⟨(some 130), .call (.func 24) [(.tmp 127), (.tmp 129)], none⟩, [⟨(some 132), .load false 1 (.tmp 131), none⟩]⟩, ⟨⟨(some 133), .build [(.int .i64 0), (.int .i64 0)] [(0, 1, (.tmp 130)), (1, 1, (.tmp 132))], none⟩, []⟩, ⟨⟨(some 134), .iaddrS 2 (.tmp 125) (.tmp 126), none⟩, []⟩, ⟨⟨none, .store 2 (.tmp 134) (.tmp 133), none⟩, []⟩])
 (.seq (.draw [⟨⟨(some 135), .mv (.tmp 11), none⟩, []⟩, ⟨⟨(some 136), .mv (.tmp 135), none⟩, []⟩, ⟨⟨(some 137), .mv (.tmp 12), (some (136, true))⟩, []⟩, ⟨⟨(some 138), .mv (.tmp 14), (some (136, true))⟩, []⟩, ⟨⟨(some 139), .mv (.tmp 23), (some (136, true))⟩, []⟩, ⟨⟨(some 141), .mv (.tmp 23), (some (136, true))⟩, []⟩, ⟨⟨(some 142), .mv (.tmp 21), (some (136, true))⟩, []⟩, ⟨⟨(some 143), .iaddrS 2 (.tmp 141) (.tmp 142), (some (136, true))⟩, []⟩, ⟨⟨(some 144), .load true 2 (.tmp 143), (some (136, true))⟩, []⟩, ⟨⟨(some 145), .load true 2 (.tmp 22), (some (136, true))⟩, []⟩, ⟨⟨(some 146), .eqA false [.int, .int] (.tmp 144) (.tmp 145), (some (136, true))⟩, []⟩, ⟨⟨(some 140), .call (.func 13) [(.tmp 137), (.tmp 138), (.tmp 139)], (some (136, true))⟩, [⟨(some 144), .load true 2 (.tmp 143), (some (136, true))⟩, ⟨(some 145), .load true 2 (.tmp 22), (some (136, true))⟩]⟩, ⟨⟨(some 147), .eqb false (.tmp 140) (.tmp 146), (some (136, true))⟩, []⟩, ⟨⟨(some 148), .pick (.tmp 136) (.tmp 147) (.const (.bool false)), none⟩, []⟩, ⟨⟨(some 10), .mv (.tmp 148), none⟩, []⟩])
 .ret)))))))))))))))),
 149, [.tmp 10]⟩
theorem low4 : lowerFn Tryd.prog Tryd.f4 = some L4 := by kernel_rfl
noncomputable def G4 (B : OH) : Nat → Cs
  | 8 => V8 B
  | 9 => V9 B
  | 10 => V10 B
  | 13 => V13 B
  | 23 => V23 B
  | 24 => V24 B
  | _ => fun _ _ _ => none
theorem G4_8 {B : OH} : G4 B 8 = V8 B := rfl
theorem G4_9 {B : OH} : G4 B 9 = V9 B := rfl
theorem G4_10 {B : OH} : G4 B 10 = V10 B := rfl
theorem G4_13 {B : OH} : G4 B 13 = V13 B := rfl
theorem G4_23 {B : OH} : G4 B 23 = V23 B := rfl
theorem G4_24 {B : OH} : G4 B 24 = V24 B := rfl
theorem sG4 {w0 : World} {B : OH} : SoundG Tryd.prog w0 B { f := G4 B } := .of fun k => by
  unfold G4
  split
  · exact .inr ⟨en8, sV8⟩
  · exact .inr ⟨en9, sV9⟩
  · exact .inr ⟨en10, sV10⟩
  · exact .inr ⟨en13, sV13⟩
  · exact .inr ⟨en23, sV23⟩
  · exact .inr ⟨en24, sV24⟩
  · exact .inl fun _ _ _ => rfl
theorem en4 : Enter Tryd.prog 4 := .of Tryd.func4 (by kernel_rfl) (by kernel_rfl)
noncomputable def T4 (B : OH) : Cs := callF B { f := G4 B } 1300 L4
theorem sT4 {w0 : World} {B : OH} : SoundC Tryd.prog w0 B 4 (T4 B) := callF_sound mixedOrders sG4 1300 Tryd.func4 low4
def yE (w : List P2) (n i : Nat) : P2 := if i < w.length then ⟨pk (w.getD i q0).l ((n : Int) + 1), pk (w.getD i q0).r ((n : Int) + 1)⟩ else q0
def yL (w : List P2) (n : Nat) : Nat → List P2
  | 0 => []
  | i + 1 => yL w n i ++ [yE w n i]
theorem yL_len (w : List P2) (n : Nat) : ∀ i, (yL w n i).length = i
  | 0 => rfl
  | i + 1 => by simp [yL, yL_len w n i]
structure K4 (root turn other r : Int) (vw v vl va : Value) (n i : Nat) (ts : List Value) : Prop where
  l : ts.length = 149
  t1 : gt ts 1 = .int .i64 root
  t2 : gt ts 2 = vw
  t3 : gt ts 3 = .int .i64 turn
  t4 : gt ts 4 = .int .i64 other
  t11 : gt ts 11 = .bool true
  t12 : gt ts 12 = v
  t13 : gt ts 13 = .int .i64 (n : Int)
  t14 : gt ts 14 = .int .i64 r
  t15 : gt ts 15 = vl
  t17 : gt ts 17 = va
  t18 : gt ts 18 = .int .i64 (i : Int)
def lb4 : LC := (.seq (.seq (.ops [⟨(some 58), .mv (.tmp 18), none⟩, ⟨(some 59), .mv (.tmp 13), none⟩, ⟨(some 60), .bin .lss (.tmp 58) (.tmp 59), none⟩])
 (.cond (.tmp 60) .skip
 (.exit 0)))
 (.seq (.block 1 (.seq (.ops [⟨(some 63), .build [(.int .i64 0), (.int .i64 0)] [], none⟩, ⟨(some 19), .alloc [(.int .i64 0), (.int .i64 0)], none⟩, ⟨none, .store 2 (.tmp 19) (.tmp 63), none⟩])
 (.seq (.seq (.ops [⟨(some 64), .mv (.tmp 18), none⟩, ⟨(some 65), .mv (.tmp 2), none⟩, ⟨(some 66), .len false (.tmp 65), none⟩, ⟨(some 67), .bin .lss (.tmp 64) (.tmp 66), none⟩])
 (.cond (.tmp 67) (.draw [⟨⟨(some 68), .mv (.tmp 2), none⟩, []⟩, ⟨⟨(some 69), .mv (.tmp 18), none⟩, []⟩, ⟨⟨(some 70), .iaddrS 2 (.tmp 68) (.tmp 69), none⟩, []⟩, ⟨⟨(some 71), .iaddrA 1 2 (.tmp 70) (.const (.int .i64 0)), none⟩, []⟩, ⟨⟨(some 72), .load false 1 (.tmp 71), none⟩, []⟩, ⟨⟨(some 73), .mv (.tmp 13), none⟩, []⟩, ⟨⟨(some 74), .bin .add (.tmp 73) (.const (.int .i64 1)), none⟩, []⟩, ⟨⟨(some 76), .mv (.tmp 2), none⟩, []⟩, ⟨⟨(some 77), .mv (.tmp 18), none⟩, []⟩, ⟨⟨(some 78), .iaddrS 2 (.tmp 76) (.tmp 77), none⟩, []⟩, ⟨⟨(some 79), .iaddrA 1 2 (.tmp 78) (.const (.int .i64 1)), none⟩, []⟩, ⟨⟨(some 80), .load false 1 (.tmp 79), none⟩, []⟩, ⟨⟨(some 81), .mv (.tmp 13), none⟩, []⟩, ⟨⟨(some 82), .bin .add (.tmp 81) (.const (.int .i64 1)), none⟩, []⟩, ⟨⟨(some 75), .call (.func 24) [(.tmp 72), (.tmp 74)], none⟩, [⟨(some 80), .load false 1 (.tmp 79), none⟩]⟩, ⟨⟨(some 83), .call (.func 24) [(.tmp 80), (.tmp 82)], none⟩, []⟩, ⟨⟨(some 84), .build [(.int .i64 0), (.int .i64 0)] [(0, 1, (.tmp 75)), (1, 1, (.tmp 83))], none⟩, []⟩, ⟨⟨none, .store 2 (.tmp 19) (.tmp 84), none⟩, []⟩])
 .skip))
 (.ops [⟨(some 85), .mv (.tmp 17), none⟩, ⟨(some 86), .load true 2 (.tmp 19), none⟩, ⟨(some 87), .buildS [(.int .i64 0), (.int .i64 0)] 1 [(0, 2, (.tmp 86))], none⟩, ⟨(some 88), .app [(.int .i64 0), (.int .i64 0)] 16 (.tmp 85) (.tmp 87), none⟩, ⟨(some 17), .mv (.tmp 88), none⟩]))))
 (.ops [⟨(some 61), .mv (.tmp 18), none⟩, ⟨(some 62), .bin .add (.tmp 61) (.const (.int .i64 1)), none⟩, ⟨(some 18), .mv (.tmp 62), none⟩])))
set_option maxHeartbeats 8000000 in
theorem loop4 {B : OH} {H : HL} {N : St} {root turn other r : Int} {vw v vl : Value} {w : List P2} {n : Nat} (hw : SlR p2 2 B H vw w) (hwb : P64s w) (hn : n ≤ 20) (hN : good B H N) {ts : List Value} (kp : K4 root turn other r vw v vl (.slice none 0 0) n 0 ts) {F : Nat} (hF : 200 + n + 1 ≤ F) :
    Ok (exec B { f := G4 B } F (LC.loop lb4) ⟨ts, H, N⟩) (fun x s => x = .exit 0 ∧ good B s.H s.N ∧ Fr H s.H ∧ ∃ va, SlM p2 2 B H s.H va (yL w n n) ∧ K4 root turn other r vw v vl va n n s.t) := by
  have hlw := hw.len
  refine loop_rule (n0 := 200) (fun q s => ∃ ts H' N' va, ∃ i : Nat, s = ⟨ts, H', N'⟩ ∧ K4 root turn other r vw v vl va n i ts ∧ good B H' N' ∧ Fr H H' ∧ SlM p2 2 B H H' va (yL w n i) ∧ i ≤ n ∧ q = n - i) _ ?_ n _ ⟨ts, H, N, _, 0, rfl, kp, hN, Fr.refl, .inl ⟨rfl, rfl⟩, by omega, rfl⟩ _ hF
  clear kp hF F ts hN N
  rintro y q s ⟨ts, H1, N1, va, i, rfl, kp, g, fr, so, hi, rfl⟩
  have hB := good_B g
  have hR := good_rdB g
  have hI := beqN g.1.1
  have hc1 : ((i + 1 : Nat) : Int) = (i : Int) + 1 := by omega
  by_cases hin : i < n
  case neg =>
    obtain rfl : i = n := by omega
    simp -implicitDefEqProofs (maxSteps := 10000000) (disch := omega) only [T4, L4, G4_8, G4_9, G4_10, G4_13, G4_23, G4_24, V24_eq, hB, hR, hI, lb4, kp.l, kp.t1, kp.t2, kp.t3, kp.t4, kp.t11, kp.t12, kp.t13, kp.t14, kp.t15, kp.t17, kp.t18, lenV_sl, Int.toNat_natCast, bft, btf, gtst, st_len, Int.lt_irrefl, pad, e_skip, e_ops, e_draw, e_fork, shg_n, shg_c, shg_g, shg_r, d_none, d_nil, d_cons, d_ite, h_none, h_nil, h_cons, h_ite, eqS_same, lightV, e_seq, e_cond, e_block, e_exit, e_ret, s_normal, s_ret, s_exit, s_none, s_ite, b_normal, b_ret, b_exit, b_none, b_ite, c_bool, x_none, x_nil, x_cons, x_ite, p_some, p_none, p_ite, pt_some, pt_none, pv_some, pv_none, pv_ite, w_none, w_some, i_bool, i_undef, bt, bf, v_tmp, v_const, v_global, v_func, evs, f_normal, f_ret, f_none, f_ite, r_some, co_some, l_ptr, m_agg, m_one, sh_app, lk_nil, lk_cons, rd_eq, rdO_some, rdO_none, rdN_none, rdL_some, rdL_none, wrB_none, unitR_some, wr_nil, wr_here, wr_skip, k_cells, tk_zero, tk_take, tk_skip, tkC_some, call_func, gt, st, binV, arith, isSh, storeV, all1, idxAV, fieldV, faddrV, iaddrSV, iaddrAV, pickV, convV, unV, eqbV, eqpV, extV, mm2, mmV, nilckV, ress, res1, retV, Value.cells, cond_true, cond_false, Bool.true_or, Bool.false_or, Bool.or_true, Bool.or_false, beq_self_eq_true, if_true, if_false, ite_true, ite_false, decide_true, decide_false, decide_eq_true_eq, reduceIte, Nat.zero_add, Nat.add_zero, and_self, true_and, and_true, List.size_toArray, List.length_cons, List.length_nil, List.append_nil, List.nil_append, Int.toNat_zero, Bool.not_false, Bool.not_true, Bool.not_not, Bool.false_eq_true, Bool.true_eq_false, reduceCtorEq, Int.reduceLT, Int.reduceLE, Int.reduceToNat, Int.reduceAdd, Int.reduceSub, Int.reduceMul, Int.reduceNeg, Nat.reduceMul, Nat.reduceAdd, Nat.reduceSub, Nat.reduceBEq, Nat.reduceEqDiff, Nat.reduceLT, Nat.reduceLeDiff, Int.reduceBEq, Int.reduceEq, Nat.reducePow, Int.reducePow, IntWalk.i64_in, IntKind.bits, eqAV, eqL, leafEq, andO, fillV, buildSV, List.getElem?_toArray, List.getElem?_cons_zero, List.getElem?_cons_succ, List.getElem?_nil, Int.reduceGT, Int.reduceGE, Int.reduceBNe, Bool.true_and, Bool.and_true, Bool.false_and, Bool.and_false, Bool.and_self, IntWalk.u64_in, Int.cast_ofNat_Int, callF1, pad16, pad_0, pad_1, pad_2, pad_3, pad_4, pad_5, pad_6, pad_7, pad_8, pad_9, pad_10, pad_11, pad_12, pad_13, pad_14, pad_15, gc0, gc1, gc2, gc3, gc4, gc5, gc6, gc7, gc8, gc9, gc10, gc11, gc12, gc13, gc14, gc15, gcS, sc0, sc1, sc2, sc3, sc4, sc5, sc6, sc7, sc8, sc9, sc10, sc11, sc12, sc13, sc14, sc15, scS, List.drop_succ_cons, List.drop_nil, x_pan, s_pan, b_pan, pE_ret, pE_pan, pE_none, pE_ite, pvE_some, pvE_none, pvE_ite, rv_some, rv_none, rv_ite, oR_ret, t_mv, t_pick, t_alloc, t_box, t_build, t_buildS, t_load, t_store, t_nilck, t_bin, t_eqb, t_eqA, t_eqp, t_un, t_conv, t_field, t_idxA, t_faddr, t_iaddrS, t_iaddrA, t_ext, t_len, t_mm, t_call, t_ifc, t_fn, t_slc, t_slcA, t_slcT, t_tass, t_isn, t_mks, t_app, t_pan, panE_i, optE_none, optE_some, bnd_none, bnd_int, slA_none, slA_some, appR_some, appOld_cells, newsV_s, newsV_n, lenS_s, appV_nil, appV_some, mksV_i, sh_c, sh_g, f_pan, endD_ret, dfr_normal, dfr_ret, dfr_pan, restD_normal, callD1, callC1, tassV, isnV, slcV, slcAV, slcTV, slcB, appNew, Option.bind_some, Option.bind_none, d_pan, h_pan, wrH_eq, wrX_cells, wrU_some, upH_nil, upH_cons, lk_upH, effR_some, effR_none, effR_ite, Option.isNone_none, Option.isNone_some, slA_zero, call_yield, e_range, it_func, wy_same, y_call, isLp_self, beg_normal, end_normal, end_ret, end_exit, end_ite, aft_ret, aft_ready, aft_done, aft_exit, setP_cons, setP_nil, sh_r, t_mkmap, t_mlook, t_mupd, t_mdel, mapF_some, lookF_some, setM_some, lookR_t, lookR_n, lookR_f, lookR_fn, lookV, mupdV, mdelV, mkM]
    refine ok_some (.inr ⟨by simp, rfl, g, fr, va, so, ⟨?_, ?_, ?_, ?_, ?_, ?_, ?_, ?_, ?_, ?_, ?_, ?_⟩⟩)
    all_goals simp (maxSteps := 10000000) (disch := omega) only [kp.l, kp.t1, kp.t2, kp.t3, kp.t4, kp.t11, kp.t12, kp.t13, kp.t14, kp.t15, kp.t17, kp.t18, lenV_sl, Int.toNat_natCast, bft, btf, gtst, st_len, Nat.reduceAdd, Int.cast_ofNat_Int, cond_true, cond_false, Nat.reduceBEq, Nat.reduceLT, decide_true, beq_self_eq_true, if_true, if_false]
  have hin' : (i : Int) < (n : Int) := by omega
  have i0 : (0 : Int) ≤ (i : Int) := by omega
  have hyl := yL_len w n i
  have hys : yL w n (i + 1) = yL w n i ++ [yE w n i] := rfl
  -- the variable is made; then its value is set; then it is appended
  have hgen : ∀ e : P2, yE w n i = e → good B ((N1.n 0, .cells (p2 e) 2) :: H1) (sh N1) ∧ ∃ v' H' N', appV 2 16 B (((sh N1).n 0, .cells (p2 e) 2) :: (N1.n 0, .cells (p2 e) 2) :: H1) (sh (sh N1)) va 1 (p2 e) = some (v', H', N') ∧ good B H' N' ∧ Fr H H' ∧ SlM p2 2 B H H' v' (yL w n (i + 1)) := fun e he => by
    have g1 : good B ((N1.n 0, .cells (p2 e) 2) :: H1) (sh N1) := good_new g
    have f1 : Fr H1 ((N1.n 0, .cells (p2 e) 2) :: H1) := fr_new g Fr.refl 0
    refine ⟨g1, ?_⟩
    obtain ⟨v4, H4, N4, hap, g4, fr4, _, s4, _⟩ := push_specM p2_len (bytes := 16) g1 (fr.trans f1) (so.mono (fun y c _ h => f1 y c h)) e rfl (by rw [hyl]; omega) (by rw [hyl]; omega)
    refine ⟨v4, H4, N4, hap, g4, fr4, ?_⟩
    rw [hys, he]
    exact s4.toM
  by_cases hiw : i < w.length
  · have hiw' : (i : Int) < (w.length : Int) := by omega
    have f1 : Fr H1 ((N1.n 0, .cells [.int .i64 0, .int .i64 0] 2) :: H1) := fr_new g Fr.refl 0
    obtain ⟨bw, ow, cw, rfl, _, rw'⟩ := hw.at (by omega)
    have ra : rdO ((N1.n 0, .cells [.int .i64 0, .int .i64 0] 2) :: H1) B bw (ow + i * 2) 1 (rdB B bw (ow + i * 2) 1) = some [.int .i64 (w.getD i q0).l] := (rw' _ (fr.trans f1) i 0 1 q0 hiw (by omega)).trans rfl
    have rb : rdO ((N1.n 0, .cells [.int .i64 0, .int .i64 0] 2) :: H1) B bw (ow + i * 2 + 1) 1 (rdB B bw (ow + i * 2 + 1) 1) = some [.int .i64 (w.getD i q0).r] := (rw' _ (fr.trans f1) i 1 1 q0 hiw (by omega)).trans rfl
    have hwi := hwb (w.getD i q0) (List.mem_of_getElem? (some_getD (d := q0) hiw))
    have hy : yE w n i = ⟨pk (w.getD i q0).l ((n : Int) + 1), pk (w.getD i q0).r ((n : Int) + 1)⟩ := if_pos hiw
    generalize w.getD i q0 = z at *
    obtain ⟨zl, zr⟩ := z
    simp only at ra rb hwi hy
    have e1 := f24 ⟨H1, N1, g⟩ zl ((n : Int) + 1) hwi.1 (by omega)
    have e2 := f24 ⟨H1, N1, g⟩ zr ((n : Int) + 1) hwi.2 (by omega)
    obtain ⟨g1, v4, H4, N4, hap, g4, fr4, s4⟩ := hgen _ hy
    simp only [p2, sh_app] at hap
    simp -implicitDefEqProofs (maxSteps := 10000000) (disch := omega) only [T4, L4, G4_8, G4_9, G4_10, G4_13, G4_23, G4_24, V24_eq, hB, hR, hI, lb4, kp.l, kp.t1, kp.t2, kp.t3, kp.t4, kp.t11, kp.t12, kp.t13, kp.t14, kp.t15, kp.t17, kp.t18, lenV_sl, Int.toNat_natCast, bft, btf, gtst, st_len, hlw, hin', hiw', hiw, i0, ra, rb, e1, e2, hap, Nat.add_zero, pad, e_skip, e_ops, e_draw, e_fork, shg_n, shg_c, shg_g, shg_r, d_none, d_nil, d_cons, d_ite, h_none, h_nil, h_cons, h_ite, eqS_same, lightV, e_seq, e_cond, e_block, e_exit, e_ret, s_normal, s_ret, s_exit, s_none, s_ite, b_normal, b_ret, b_exit, b_none, b_ite, c_bool, x_none, x_nil, x_cons, x_ite, p_some, p_none, p_ite, pt_some, pt_none, pv_some, pv_none, pv_ite, w_none, w_some, i_bool, i_undef, bt, bf, v_tmp, v_const, v_global, v_func, evs, f_normal, f_ret, f_none, f_ite, r_some, co_some, l_ptr, m_agg, m_one, sh_app, lk_nil, lk_cons, rd_eq, rdO_some, rdO_none, rdN_none, rdL_some, rdL_none, wrB_none, unitR_some, wr_nil, wr_here, wr_skip, k_cells, tk_zero, tk_take, tk_skip, tkC_some, call_func, gt, st, binV, arith, isSh, storeV, all1, idxAV, fieldV, faddrV, iaddrSV, iaddrAV, pickV, convV, unV, eqbV, eqpV, extV, mm2, mmV, nilckV, ress, res1, retV, Value.cells, cond_true, cond_false, Bool.true_or, Bool.false_or, Bool.or_true, Bool.or_false, beq_self_eq_true, if_true, if_false, ite_true, ite_false, decide_true, decide_false, decide_eq_true_eq, reduceIte, Nat.zero_add, Nat.add_zero, and_self, true_and, and_true, List.size_toArray, List.length_cons, List.length_nil, List.append_nil, List.nil_append, Int.toNat_zero, Bool.not_false, Bool.not_true, Bool.not_not, Bool.false_eq_true, Bool.true_eq_false, reduceCtorEq, Int.reduceLT, Int.reduceLE, Int.reduceToNat, Int.reduceAdd, Int.reduceSub, Int.reduceMul, Int.reduceNeg, Nat.reduceMul, Nat.reduceAdd, Nat.reduceSub, Nat.reduceBEq, Nat.reduceEqDiff, Nat.reduceLT, Nat.reduceLeDiff, Int.reduceBEq, Int.reduceEq, Nat.reducePow, Int.reducePow, IntWalk.i64_in, IntKind.bits, eqAV, eqL, leafEq, andO, fillV, buildSV, List.getElem?_toArray, List.getElem?_cons_zero, List.getElem?_cons_succ, List.getElem?_nil, Int.reduceGT, Int.reduceGE, Int.reduceBNe, Bool.true_and, Bool.and_true, Bool.false_and, Bool.and_false, Bool.and_self, IntWalk.u64_in, Int.cast_ofNat_Int, callF1, pad16, pad_0, pad_1, pad_2, pad_3, pad_4, pad_5, pad_6, pad_7, pad_8, pad_9, pad_10, pad_11, pad_12, pad_13, pad_14, pad_15, gc0, gc1, gc2, gc3, gc4, gc5, gc6, gc7, gc8, gc9, gc10, gc11, gc12, gc13, gc14, gc15, gcS, sc0, sc1, sc2, sc3, sc4, sc5, sc6, sc7, sc8, sc9, sc10, sc11, sc12, sc13, sc14, sc15, scS, List.drop_succ_cons, List.drop_nil, x_pan, s_pan, b_pan, pE_ret, pE_pan, pE_none, pE_ite, pvE_some, pvE_none, pvE_ite, rv_some, rv_none, rv_ite, oR_ret, t_mv, t_pick, t_alloc, t_box, t_build, t_buildS, t_load, t_store, t_nilck, t_bin, t_eqb, t_eqA, t_eqp, t_un, t_conv, t_field, t_idxA, t_faddr, t_iaddrS, t_iaddrA, t_ext, t_len, t_mm, t_call, t_ifc, t_fn, t_slc, t_slcA, t_slcT, t_tass, t_isn, t_mks, t_app, t_pan, panE_i, optE_none, optE_some, bnd_none, bnd_int, slA_none, slA_some, appR_some, appOld_cells, newsV_s, newsV_n, lenS_s, appV_nil, appV_some, mksV_i, sh_c, sh_g, f_pan, endD_ret, dfr_normal, dfr_ret, dfr_pan, restD_normal, callD1, callC1, tassV, isnV, slcV, slcAV, slcTV, slcB, appNew, Option.bind_some, Option.bind_none, d_pan, h_pan, wrH_eq, wrX_cells, wrU_some, upH_nil, upH_cons, lk_upH, effR_some, effR_none, effR_ite, Option.isNone_none, Option.isNone_some, slA_zero, call_yield, e_range, it_func, wy_same, y_call, isLp_self, beg_normal, end_normal, end_ret, end_exit, end_ite, aft_ret, aft_ready, aft_done, aft_exit, setP_cons, setP_nil, sh_r, t_mkmap, t_mlook, t_mupd, t_mdel, mapF_some, lookF_some, setM_some, lookR_t, lookR_n, lookR_f, lookR_fn, lookV, mupdV, mdelV, mkM]
    refine ok_some (.inl ⟨rfl, n - (i + 1), by omega, _, H4, N4, v4, i + 1, rfl, ⟨?_, ?_, ?_, ?_, ?_, ?_, ?_, ?_, ?_, ?_, ?_, ?_⟩, g4, fr4, s4, by omega, rfl⟩)
    all_goals simp (maxSteps := 10000000) (disch := omega) only [kp.l, kp.t1, kp.t2, kp.t3, kp.t4, kp.t11, kp.t12, kp.t13, kp.t14, kp.t15, kp.t17, kp.t18, lenV_sl, Int.toNat_natCast, bft, btf, gtst, st_len, hc1, Nat.reduceAdd, Int.cast_ofNat_Int, cond_true, cond_false, Nat.reduceBEq, Nat.reduceLT, decide_true, beq_self_eq_true, if_true, if_false]
  · have hiw' : ¬ (i : Int) < (w.length : Int) := by omega
    have hy : yE w n i = q0 := if_neg hiw
    obtain ⟨g1, v4, H4, N4, hap, g4, fr4, s4⟩ := hgen _ hy
    simp only [p2, q0, sh_app] at hap
    simp -implicitDefEqProofs (maxSteps := 10000000) (disch := omega) only [T4, L4, G4_8, G4_9, G4_10, G4_13, G4_23, G4_24, V24_eq, hB, hR, hI, lb4, kp.l, kp.t1, kp.t2, kp.t3, kp.t4, kp.t11, kp.t12, kp.t13, kp.t14, kp.t15, kp.t17, kp.t18, lenV_sl, Int.toNat_natCast, bft, btf, gtst, st_len, hlw, hin', hiw', i0, hap, pad, e_skip, e_ops, e_draw, e_fork, shg_n, shg_c, shg_g, shg_r, d_none, d_nil, d_cons, d_ite, h_none, h_nil, h_cons, h_ite, eqS_same, lightV, e_seq, e_cond, e_block, e_exit, e_ret, s_normal, s_ret, s_exit, s_none, s_ite, b_normal, b_ret, b_exit, b_none, b_ite, c_bool, x_none, x_nil, x_cons, x_ite, p_some, p_none, p_ite, pt_some, pt_none, pv_some, pv_none, pv_ite, w_none, w_some, i_bool, i_undef, bt, bf, v_tmp, v_const, v_global, v_func, evs, f_normal, f_ret, f_none, f_ite, r_some, co_some, l_ptr, m_agg, m_one, sh_app, lk_nil, lk_cons, rd_eq, rdO_some, rdO_none, rdN_none, rdL_some, rdL_none, wrB_none, unitR_some, wr_nil, wr_here, wr_skip, k_cells, tk_zero, tk_take, tk_skip, tkC_some, call_func, gt, st, binV, arith, isSh, storeV, all1, idxAV, fieldV, faddrV, iaddrSV, iaddrAV, pickV, convV, unV, eqbV, eqpV, extV, mm2, mmV, nilckV, ress, res1, retV, Value.cells, cond_true, cond_false, Bool.true_or, Bool.false_or, Bool.or_true, Bool.or_false, beq_self_eq_true, if_true, if_false, ite_true, ite_false, decide_true, decide_false, decide_eq_true_eq, reduceIte, Nat.zero_add, Nat.add_zero, and_self, true_and, and_true, List.size_toArray, List.length_cons, List.length_nil, List.append_nil, List.nil_append, Int.toNat_zero, Bool.not_false, Bool.not_true, Bool.not_not, Bool.false_eq_true, Bool.true_eq_false, reduceCtorEq, Int.reduceLT, Int.reduceLE, Int.reduceToNat, Int.reduceAdd, Int.reduceSub, Int.reduceMul, Int.reduceNeg, Nat.reduceMul, Nat.reduceAdd, Nat.reduceSub, Nat.reduceBEq, Nat.reduceEqDiff, Nat.reduceLT, Nat.reduceLeDiff, Int.reduceBEq, Int.reduceEq, Nat.reducePow, Int.reducePow, IntWalk.i64_in, IntKind.bits, eqAV, eqL, leafEq, andO, fillV, buildSV, List.getElem?_toArray, List.getElem?_cons_zero, List.getElem?_cons_succ, List.getElem?_nil, Int.reduceGT, Int.reduceGE, Int.reduceBNe, Bool.true_and, Bool.and_true, Bool.false_and, Bool.and_false, Bool.and_self, IntWalk.u64_in, Int.cast_ofNat_Int, callF1, pad16, pad_0, pad_1, pad_2, pad_3, pad_4, pad_5, pad_6, pad_7, pad_8, pad_9, pad_10, pad_11, pad_12, pad_13, pad_14, pad_15, gc0, gc1, gc2, gc3, gc4, gc5, gc6, gc7, gc8, gc9, gc10, gc11, gc12, gc13, gc14, gc15, gcS, sc0, sc1, sc2, sc3, sc4, sc5, sc6, sc7, sc8, sc9, sc10, sc11, sc12, sc13, sc14, sc15, scS, List.drop_succ_cons, List.drop_nil, x_pan, s_pan, b_pan, pE_ret, pE_pan, pE_none, pE_ite, pvE_some, pvE_none, pvE_ite, rv_some, rv_none, rv_ite, oR_ret, t_mv, t_pick, t_alloc, t_box, t_build, t_buildS, t_load, t_store, t_nilck, t_bin, t_eqb, t_eqA, t_eqp, t_un, t_conv, t_field, t_idxA, t_faddr, t_iaddrS, t_iaddrA, t_ext, t_len, t_mm, t_call, t_ifc, t_fn, t_slc, t_slcA, t_slcT, t_tass, t_isn, t_mks, t_app, t_pan, panE_i, optE_none, optE_some, bnd_none, bnd_int, slA_none, slA_some, appR_some, appOld_cells, newsV_s, newsV_n, lenS_s, appV_nil, appV_some, mksV_i, sh_c, sh_g, f_pan, endD_ret, dfr_normal, dfr_ret, dfr_pan, restD_normal, callD1, callC1, tassV, isnV, slcV, slcAV, slcTV, slcB, appNew, Option.bind_some, Option.bind_none, d_pan, h_pan, wrH_eq, wrX_cells, wrU_some, upH_nil, upH_cons, lk_upH, effR_some, effR_none, effR_ite, Option.isNone_none, Option.isNone_some, slA_zero, call_yield, e_range, it_func, wy_same, y_call, isLp_self, beg_normal, end_normal, end_ret, end_exit, end_ite, aft_ret, aft_ready, aft_done, aft_exit, setP_cons, setP_nil, sh_r, t_mkmap, t_mlook, t_mupd, t_mdel, mapF_some, lookF_some, setM_some, lookR_t, lookR_n, lookR_f, lookR_fn, lookV, mupdV, mdelV, mkM]
    refine ok_some (.inl ⟨rfl, n - (i + 1), by omega, _, H4, N4, v4, i + 1, rfl, ⟨?_, ?_, ?_, ?_, ?_, ?_, ?_, ?_, ?_, ?_, ?_, ?_⟩, g4, fr4, s4, by omega, rfl⟩)
    all_goals simp (maxSteps := 10000000) (disch := omega) only [kp.l, kp.t1, kp.t2, kp.t3, kp.t4, kp.t11, kp.t12, kp.t13, kp.t14, kp.t15, kp.t17, kp.t18, lenV_sl, Int.toNat_natCast, bft, btf, gtst, st_len, hc1, Nat.reduceAdd, Int.cast_ofNat_Int, cond_true, cond_false, Nat.reduceBEq, Nat.reduceLT, decide_true, beq_self_eq_true, if_true, if_false]
set_option maxHeartbeats 32000000 in
theorem lv4 {B : OH} {H : HL} {N : St} {v vw : Value} {w : List Int} {W : List P2} {root turn other : Int} (hT : Tab B) (hN : good B H N) (hv : SlR f1 1 B H v w) (hw : I64s w) (hy : SlR p2 2 B H vw W) (hWb : P64s W) (hr1 : i64R root) (hr2 : i64R turn) (hr3 : i64R other) : ∃ H' N', callF B { f := G4 B } 1300 L4 [v, .int .i64 root, vw, .int .i64 turn, .int .i64 other] H N = some (.ret (.bool true), H', N') := by
  have hB := good_B hN
  have hR := good_rdB hN
  have hI := beqN hN.1.1
  obtain ⟨H1, N1, e1, g1, r1⟩ := awake8 hT hN
  obtain ⟨v2, H2, N2, e2, g2, r2, s2⟩ := keys9 g1 (hv.mono r1) hw
  have hke := gKeys_ok w
  have hkl : (gKeys w).length ≤ 20 := by
    have := kRun_len w (gMany w)
    unfold gKeys gMany at *; omega
  have hku : U64s (gKeys w) := kRun_u w _
  have hka : Asc (gKeys w) := kRun_asc w _
  generalize gKeys w = K at *
  have hrd := s2.rd w1_len
  obtain ⟨v3, H3, N3, e3, g3, r3, s3⟩ := build hT g2 hrd hku
  have hll := bLinks_len hke
  have hl3 := s3.len
  have hl2 := s2.len
  rw [hll] at hl3
  rw [hke] at e3
  have hrl := s3.rd p2_len
  have e4 : W23 B 300 [v2, v3, .int .i64 (bRoot K), .int .i64 1, .int .i64 (K.length : Int)] H3 N3 = some (.ret (.bool (gd K (bLinks K) 300 0 K.length (bRoot K))), H3, N3) := by
    have := good23 (hrd.mono r3) hrl hku (by omega) hll g3 300 0 K.length (bRoot K) (by omega) (by omega)
    simpa using this
  rw [gd_rOk hku hke hll (by omega), rOk_own hke] at e4
  have e4 : V23 B [v2, v3, .int .i64 (bRoot K), .int .i64 1, .int .i64 (K.length : Int)] H3 N3 = _ := e4
  obtain ⟨H5, N5, e5, g5, r5⟩ := right13 (root := bRoot K) hT g3 (hrd.mono r3) hku hrl
  rw [rOk_own hke] at e5
  show ∃ H' N', T4 B [v, .int .i64 root, vw, .int .i64 turn, .int .i64 other] H N = _
  simp -implicitDefEqProofs (maxSteps := 10000000) (disch := omega) only [T4, L4, G4_8, G4_9, G4_10, G4_13, G4_23, G4_24, V24_eq, hB, hR, hI, lenV_sl, Int.toNat_natCast, bft, btf, gtst, st_len, e1, e2, e3, e4, e5, hl2, hl3, bne_self_eq_false, pad, e_skip, e_ops, e_draw, e_fork, shg_n, shg_c, shg_g, shg_r, d_none, d_nil, d_cons, d_ite, h_none, h_nil, h_cons, h_ite, eqS_same, lightV, e_seq, e_cond, e_block, e_exit, e_ret, s_normal, s_ret, s_exit, s_none, s_ite, b_normal, b_ret, b_exit, b_none, b_ite, c_bool, x_none, x_nil, x_cons, x_ite, p_some, p_none, p_ite, pt_some, pt_none, pv_some, pv_none, pv_ite, w_none, w_some, i_bool, i_undef, bt, bf, v_tmp, v_const, v_global, v_func, evs, f_normal, f_ret, f_none, f_ite, r_some, co_some, l_ptr, m_agg, m_one, sh_app, lk_nil, lk_cons, rd_eq, rdO_some, rdO_none, rdN_none, rdL_some, rdL_none, wrB_none, unitR_some, wr_nil, wr_here, wr_skip, k_cells, tk_zero, tk_take, tk_skip, tkC_some, call_func, gt, st, binV, arith, isSh, storeV, all1, idxAV, fieldV, faddrV, iaddrSV, iaddrAV, pickV, convV, unV, eqbV, eqpV, extV, mm2, mmV, nilckV, ress, res1, retV, Value.cells, cond_true, cond_false, Bool.true_or, Bool.false_or, Bool.or_true, Bool.or_false, beq_self_eq_true, if_true, if_false, ite_true, ite_false, decide_true, decide_false, decide_eq_true_eq, reduceIte, Nat.zero_add, Nat.add_zero, and_self, true_and, and_true, List.size_toArray, List.length_cons, List.length_nil, List.append_nil, List.nil_append, Int.toNat_zero, Bool.not_false, Bool.not_true, Bool.not_not, Bool.false_eq_true, Bool.true_eq_false, reduceCtorEq, Int.reduceLT, Int.reduceLE, Int.reduceToNat, Int.reduceAdd, Int.reduceSub, Int.reduceMul, Int.reduceNeg, Nat.reduceMul, Nat.reduceAdd, Nat.reduceSub, Nat.reduceBEq, Nat.reduceEqDiff, Nat.reduceLT, Nat.reduceLeDiff, Int.reduceBEq, Int.reduceEq, Nat.reducePow, Int.reducePow, IntWalk.i64_in, IntKind.bits, eqAV, eqL, leafEq, andO, fillV, buildSV, List.getElem?_toArray, List.getElem?_cons_zero, List.getElem?_cons_succ, List.getElem?_nil, Int.reduceGT, Int.reduceGE, Int.reduceBNe, Bool.true_and, Bool.and_true, Bool.false_and, Bool.and_false, Bool.and_self, IntWalk.u64_in, Int.cast_ofNat_Int, callF1, pad16, pad_0, pad_1, pad_2, pad_3, pad_4, pad_5, pad_6, pad_7, pad_8, pad_9, pad_10, pad_11, pad_12, pad_13, pad_14, pad_15, gc0, gc1, gc2, gc3, gc4, gc5, gc6, gc7, gc8, gc9, gc10, gc11, gc12, gc13, gc14, gc15, gcS, sc0, sc1, sc2, sc3, sc4, sc5, sc6, sc7, sc8, sc9, sc10, sc11, sc12, sc13, sc14, sc15, scS, List.drop_succ_cons, List.drop_nil, x_pan, s_pan, b_pan, pE_ret, pE_pan, pE_none, pE_ite, pvE_some, pvE_none, pvE_ite, rv_some, rv_none, rv_ite, oR_ret, t_mv, t_pick, t_alloc, t_box, t_build, t_buildS, t_load, t_store, t_nilck, t_bin, t_eqb, t_eqA, t_eqp, t_un, t_conv, t_field, t_idxA, t_faddr, t_iaddrS, t_iaddrA, t_ext, t_len, t_mm, t_call, t_ifc, t_fn, t_slc, t_slcA, t_slcT, t_tass, t_isn, t_mks, t_app, t_pan, panE_i, optE_none, optE_some, bnd_none, bnd_int, slA_none, slA_some, appR_some, appOld_cells, newsV_s, newsV_n, lenS_s, appV_nil, appV_some, mksV_i, sh_c, sh_g, f_pan, endD_ret, dfr_normal, dfr_ret, dfr_pan, restD_normal, callD1, callC1, tassV, isnV, slcV, slcAV, slcTV, slcB, appNew, Option.bind_some, Option.bind_none, d_pan, h_pan, wrH_eq, wrX_cells, wrU_some, upH_nil, upH_cons, lk_upH, effR_some, effR_none, effR_ite, Option.isNone_none, Option.isNone_some, slA_zero, call_yield, e_range, it_func, wy_same, y_call, isLp_self, beg_normal, end_normal, end_ret, end_exit, end_ite, aft_ret, aft_ready, aft_done, aft_exit, setP_cons, setP_nil, sh_r, t_mkmap, t_mlook, t_mupd, t_mdel, mapF_some, lookF_some, setM_some, lookR_t, lookR_n, lookR_f, lookR_fn, lookV, mupdV, mdelV, mkM]
  generalize hX : exec B _ _ (LC.loop _) _ = o
  obtain ⟨x, ⟨ts6, H6, N6⟩, ho, rfl, g6, r6, va, sa, kp⟩ := (show Ok o _ by rw [← hX]; exact loop4 (w := W) (n := K.length) (root := root) (turn := turn) (other := other) (vw := vw) (v := v2) (vl := v3) (r := bRoot K) (hy.mono (((r1.trans r2).trans r3).trans r5)) hWb (by omega) g5 ⟨rfl, rfl, rfl, rfl, rfl, rfl, rfl, rfl, rfl, rfl, rfl, rfl⟩ (by omega))
  subst ho
  simp only at g6 r6 sa kp
  have hyl := yL_len W K.length K.length
  generalize yL W K.length K.length = A at *
  have e7 := f24 ⟨H6, N6, g6⟩ root ((K.length : Int) + 1) hr1 (by omega)
  generalize pk root ((K.length : Int) + 1) = to at e7
  have hra := sa.rd p2_len
  have hrk := (hrd.mono (r3.trans r5)).mono r6
  have hrl6 := (hrl.mono r5).mono r6
  obtain ⟨H7, N7, e8, g7, r7⟩ := right13 (root := to) hT g6 hrk hku hra
  have e9 : W23 B 300 [v2, va, .int .i64 to, .int .i64 1, .int .i64 (K.length : Int)] H7 N7 = some (.ret (.bool (gd K A 300 0 K.length to)), H7, N7) := by
    have := good23 (hrk.mono r7) (hra.mono r7) hku (by omega) hyl g7 300 0 K.length to (by omega) (by omega)
    simpa using this
  rw [gd_rOk hku hke hyl (by omega)] at e9
  have e9 : V23 B [v2, va, .int .i64 to, .int .i64 1, .int .i64 (K.length : Int)] H7 N7 = _ := e9
  obtain ⟨H8, N8, e10, g8, r8⟩ := right13 (root := to) hT g7 (hrk.mono r7) hku (hrl6.mono r7)
  rw [rOk_root hke] at e10
  generalize rOk K to A = b1 at e8 e9
  have hto : (to == bRoot K) = decide (to = bRoot K) := by
    by_cases h : to = bRoot K
    · rw [decide_eq_true h]; simpa using h
    · rw [decide_eq_false h]; exact beqI h
  generalize decide (to = bRoot K) = b2 at e10 hto
  rcases Nat.eq_zero_or_pos K.length with hz | hpos
  · have z0 : ((K.length : Int) == 0) = true := by rw [hz]; rfl
    simp -implicitDefEqProofs (maxSteps := 10000000) (disch := omega) only [T4, L4, G4_8, G4_9, G4_10, G4_13, G4_23, G4_24, V24_eq, hB, hR, hI, kp.l, kp.t1, kp.t2, kp.t3, kp.t4, kp.t11, kp.t12, kp.t13, kp.t14, kp.t15, kp.t17, kp.t18, lenV_sl, Int.toNat_natCast, bft, btf, gtst, st_len, e7, e8, e9, e10, hto, bxx, z0, pad, e_skip, e_ops, e_draw, e_fork, shg_n, shg_c, shg_g, shg_r, d_none, d_nil, d_cons, d_ite, h_none, h_nil, h_cons, h_ite, eqS_same, lightV, e_seq, e_cond, e_block, e_exit, e_ret, s_normal, s_ret, s_exit, s_none, s_ite, b_normal, b_ret, b_exit, b_none, b_ite, c_bool, x_none, x_nil, x_cons, x_ite, p_some, p_none, p_ite, pt_some, pt_none, pv_some, pv_none, pv_ite, w_none, w_some, i_bool, i_undef, bt, bf, v_tmp, v_const, v_global, v_func, evs, f_normal, f_ret, f_none, f_ite, r_some, co_some, l_ptr, m_agg, m_one, sh_app, lk_nil, lk_cons, rd_eq, rdO_some, rdO_none, rdN_none, rdL_some, rdL_none, wrB_none, unitR_some, wr_nil, wr_here, wr_skip, k_cells, tk_zero, tk_take, tk_skip, tkC_some, call_func, gt, st, binV, arith, isSh, storeV, all1, idxAV, fieldV, faddrV, iaddrSV, iaddrAV, pickV, convV, unV, eqbV, eqpV, extV, mm2, mmV, nilckV, ress, res1, retV, Value.cells, cond_true, cond_false, Bool.true_or, Bool.false_or, Bool.or_true, Bool.or_false, beq_self_eq_true, if_true, if_false, ite_true, ite_false, decide_true, decide_false, decide_eq_true_eq, reduceIte, Nat.zero_add, Nat.add_zero, and_self, true_and, and_true, List.size_toArray, List.length_cons, List.length_nil, List.append_nil, List.nil_append, Int.toNat_zero, Bool.not_false, Bool.not_true, Bool.not_not, Bool.false_eq_true, Bool.true_eq_false, reduceCtorEq, Int.reduceLT, Int.reduceLE, Int.reduceToNat, Int.reduceAdd, Int.reduceSub, Int.reduceMul, Int.reduceNeg, Nat.reduceMul, Nat.reduceAdd, Nat.reduceSub, Nat.reduceBEq, Nat.reduceEqDiff, Nat.reduceLT, Nat.reduceLeDiff, Int.reduceBEq, Int.reduceEq, Nat.reducePow, Int.reducePow, IntWalk.i64_in, IntKind.bits, eqAV, eqL, leafEq, andO, fillV, buildSV, List.getElem?_toArray, List.getElem?_cons_zero, List.getElem?_cons_succ, List.getElem?_nil, Int.reduceGT, Int.reduceGE, Int.reduceBNe, Bool.true_and, Bool.and_true, Bool.false_and, Bool.and_false, Bool.and_self, IntWalk.u64_in, Int.cast_ofNat_Int, callF1, pad16, pad_0, pad_1, pad_2, pad_3, pad_4, pad_5, pad_6, pad_7, pad_8, pad_9, pad_10, pad_11, pad_12, pad_13, pad_14, pad_15, gc0, gc1, gc2, gc3, gc4, gc5, gc6, gc7, gc8, gc9, gc10, gc11, gc12, gc13, gc14, gc15, gcS, sc0, sc1, sc2, sc3, sc4, sc5, sc6, sc7, sc8, sc9, sc10, sc11, sc12, sc13, sc14, sc15, scS, List.drop_succ_cons, List.drop_nil, x_pan, s_pan, b_pan, pE_ret, pE_pan, pE_none, pE_ite, pvE_some, pvE_none, pvE_ite, rv_some, rv_none, rv_ite, oR_ret, t_mv, t_pick, t_alloc, t_box, t_build, t_buildS, t_load, t_store, t_nilck, t_bin, t_eqb, t_eqA, t_eqp, t_un, t_conv, t_field, t_idxA, t_faddr, t_iaddrS, t_iaddrA, t_ext, t_len, t_mm, t_call, t_ifc, t_fn, t_slc, t_slcA, t_slcT, t_tass, t_isn, t_mks, t_app, t_pan, panE_i, optE_none, optE_some, bnd_none, bnd_int, slA_none, slA_some, appR_some, appOld_cells, newsV_s, newsV_n, lenS_s, appV_nil, appV_some, mksV_i, sh_c, sh_g, f_pan, endD_ret, dfr_normal, dfr_ret, dfr_pan, restD_normal, callD1, callC1, tassV, isnV, slcV, slcAV, slcTV, slcB, appNew, Option.bind_some, Option.bind_none, d_pan, h_pan, wrH_eq, wrX_cells, wrU_some, upH_nil, upH_cons, lk_upH, effR_some, effR_none, effR_ite, Option.isNone_none, Option.isNone_some, slA_zero, call_yield, e_range, it_func, wy_same, y_call, isLp_self, beg_normal, end_normal, end_ret, end_exit, end_ite, aft_ret, aft_ready, aft_done, aft_exit, setP_cons, setP_nil, sh_r, t_mkmap, t_mlook, t_mupd, t_mdel, mapF_some, lookF_some, setM_some, lookR_t, lookR_n, lookR_f, lookR_fn, lookV, mupdV, mdelV, mkM]
    exact ⟨_, _, rfl⟩
  have z0 : ((K.length : Int) == 0) = false := beqI (by omega)
  have ek := f24 ⟨H8, N8, g8⟩ turn (K.length : Int) hr2 (by omega)
  have hkb := pk_b (x := turn) (n := (K.length : Int)) (by omega)
  generalize pk turn (K.length : Int) = kk at ek hkb
  obtain ⟨k, rfl⟩ : ∃ k : Nat, kk = (k : Int) := ⟨kk.toNat, by omega⟩
  have k0 : (0 : Int) ≤ (k : Int) := by omega
  have kl : k < K.length := by omega
  have klb : k < (bLinks K).length := by omega
  -- the link, and the copy
  have hrl8 := (hrl6.mono (r7.trans r8))
  obtain ⟨b3, c3, rfl, hb3, h03, hle3, hlk3⟩ : ∃ b cap, v3 = .slice (some ⟨b, 0, none⟩) (bLinks K).length cap ∧ B b = none ∧ lk H2 b = none ∧ (bLinks K).length ≤ cap ∧ lk H3 b = some (.cells (fl p2 (bLinks K)) (cap * 2)) := by
    rcases s3 with ⟨h, _⟩ | h
    · rw [h] at hll; simp at hll; omega
    · exact h
  have fr8 : Fr H3 H8 := ((r5.trans r6).trans (r7.trans r8))
  have hl8 := fr8 _ _ hlk3
  have s8 : SlN p2 2 B H2 H8 (.slice (some ⟨b3, 0, none⟩) (bLinks K).length c3) (bLinks K) := .inr ⟨b3, c3, rfl, hb3, h03, hle3, hl8⟩
  obtain ⟨was, hwas⟩ : ∃ was, (bLinks K).getD k q0 = was := ⟨_, rfl⟩
  have gw : good B ((N8.n 0, .cells (p2 was) 2) :: H8) (sh N8) := good_new g8
  have fw : Fr H8 ((N8.n 0, .cells (p2 was) 2) :: H8) := fr_new g8 Fr.refl 0
  have sw := s8.mono (H' := (N8.n 0, .cells (p2 was) 2) :: H8) (fun y c _ h => fw y c h)
  obtain ⟨v9, H9, N9, e11, g9, r9, s9⟩ := copy_spec (bytes := 16) p2_len (by omega) gw sw (by omega) (by omega)
  obtain ⟨b9, c9, rfl, hb9, h09, hle9, hlk9⟩ : ∃ b cap, v9 = .slice (some ⟨b, 0, none⟩) (bLinks K).length cap ∧ B b = none ∧ lk ((N8.n 0, .cells (p2 was) 2) :: H8) b = none ∧ (bLinks K).length ≤ cap ∧ lk H9 b = some (.cells (fl p2 (bLinks K)) (cap * 2)) := by
    rcases s9 with ⟨h, _⟩ | h
    · rw [h] at hll; simp at hll; omega
    · exact h
  have hx9 := f24 ⟨H9, N9, g9⟩ other ((K.length : Int) + 1) hr3 (by omega)
  generalize pk other ((K.length : Int) + 1) = y at hx9
  have ltw : lk H9 (N8.n 0) = some (.cells (p2 was) 2) := r9 _ _ lk_top
  have hbw : B (N8.n 0) = none := good_B g8 0
  have rw9 := fun o n => rdB_none (o := o) (n := n) hbw
  have r39 := fun o n => rdB_none (o := o) (n := n) hb3
  have rb9 := fun o n => rdB_none (o := o) (n := n) hb9
  have ne9 : (b9 == N8.n 0) = false := eqb fun h => by rw [h, lk_top] at h09; cases h09
  have ne9' : (N8.n 0 == b9) = false := eqb fun h => by rw [← h, lk_top] at h09; cases h09
  have t3 : tk (fl p2 (bLinks K)) (k * 2) 2 = some (p2 was) := by
    have := tk_fl p2_len (bLinks K) k 0 2 q0 klb (by omega)
    rw [Nat.add_zero, hwas] at this
    exact this.trans rfl
  have w9 : wr (fl p2 (bLinks K)) (k * 2) [.int .i64 y, .int .i64 was.r] = some (fl p2 ((bLinks K).set k ⟨y, was.r⟩)) := by
    have := wr_fl p2_len (bLinks K) k 0 [.int .i64 y, .int .i64 was.r] q0 ⟨y, was.r⟩ klb (by simp) rfl
    rwa [Nat.add_zero] at this
  have gu := good_up (k := .cells (fl p2 ((bLinks K).set k ⟨y, was.r⟩)) (c9 * 2)) g9 hb9 hlk9
  have hlu : lk (upH H9 b9 (.cells (fl p2 ((bLinks K).set k ⟨y, was.r⟩)) (c9 * 2))) b9 = some (.cells (fl p2 ((bLinks K).set k ⟨y, was.r⟩)) (c9 * 2)) := by rw [lk_upH, beq_self_eq_true, cond_true]
  have fu : Fr H8 (upH H9 b9 (.cells (fl p2 ((bLinks K).set k ⟨y, was.r⟩)) (c9 * 2))) := fr_up (fw.trans r9) (by
    cases h : lk H8 b9 with
    | none => rfl
    | some c => rw [fw _ _ h] at h09; cases h09)
  have sx : SlR p2 2 B (upH H9 b9 (.cells (fl p2 ((bLinks K).set k ⟨y, was.r⟩)) (c9 * 2))) (.slice (some ⟨b9, 0, none⟩) (bLinks K).length c9) ((bLinks K).set k ⟨y, was.r⟩) := by
    refine SlN.rd (H0 := H8) p2_len (.inr ⟨b9, c9, by rw [List.length_set], hb9, ?_, by rw [List.length_set]; exact hle9, hlu⟩)
    cases h : lk H8 b9 with
    | none => rfl
    | some c => rw [fw _ _ h] at h09; cases h09
  obtain ⟨H10, N10, e12, g10, r10⟩ := right13 (root := bRoot K) hT gu ((hrk.mono (r7.trans r8)).mono fu) hku sx
  rw [rOk_set hke kl, hwas] at e12
  have q1 := r10 _ _ hlu
  have q2 : lk H10 (N8.n 0) = some (.cells (p2 was) 2) := r10 _ _ (by rw [lk_upH, ne9', cond_false]; exact ltw)
  have t10 : tk (fl p2 ((bLinks K).set k ⟨y, was.r⟩)) (k * 2) 2 = some [.int .i64 y, .int .i64 was.r] := by
    have := tk_fl p2_len ((bLinks K).set k ⟨y, was.r⟩) k 0 2 q0 (by rw [List.length_set]; exact klb) (by omega)
    rw [Nat.add_zero, getD_set _ _ _ _ _ klb, if_pos rfl] at this
    exact this.trans rfl
  have hdec : decide ((⟨y, was.r⟩ : P2) = was) = (y == was.l) := by
    obtain ⟨wl, wr'⟩ := was
    by_cases h : y = wl
    · subst h; simp
    · simp only [P2.mk.injEq, and_true]
      rw [decide_eq_false h, beqI h]
  rw [hdec] at e12
  obtain ⟨wl, wr'⟩ := was
  simp only [p2] at *
  simp -implicitDefEqProofs (maxSteps := 10000000) (disch := omega) only [T4, L4, G4_8, G4_9, G4_10, G4_13, G4_23, G4_24, V24_eq, hB, hR, hI, kp.l, kp.t1, kp.t2, kp.t3, kp.t4, kp.t11, kp.t12, kp.t13, kp.t14, kp.t15, kp.t17, kp.t18, lenV_sl, Int.toNat_natCast, bft, btf, gtst, st_len, e7, e8, e9, e10, hto, bxx, z0, ek, k0, kl, klb, hl8, hb3, r39, t3, e11, hx9, ltw, hbw, rw9, rb9, hb9, hlk9, ne9, ne9', w9, e12, q1, q2, t10, hlu, good_B g8, good_rdB g8, pad, e_skip, e_ops, e_draw, e_fork, shg_n, shg_c, shg_g, shg_r, d_none, d_nil, d_cons, d_ite, h_none, h_nil, h_cons, h_ite, eqS_same, lightV, e_seq, e_cond, e_block, e_exit, e_ret, s_normal, s_ret, s_exit, s_none, s_ite, b_normal, b_ret, b_exit, b_none, b_ite, c_bool, x_none, x_nil, x_cons, x_ite, p_some, p_none, p_ite, pt_some, pt_none, pv_some, pv_none, pv_ite, w_none, w_some, i_bool, i_undef, bt, bf, v_tmp, v_const, v_global, v_func, evs, f_normal, f_ret, f_none, f_ite, r_some, co_some, l_ptr, m_agg, m_one, sh_app, lk_nil, lk_cons, rd_eq, rdO_some, rdO_none, rdN_none, rdL_some, rdL_none, wrB_none, unitR_some, wr_nil, wr_here, wr_skip, k_cells, tk_zero, tk_take, tk_skip, tkC_some, call_func, gt, st, binV, arith, isSh, storeV, all1, idxAV, fieldV, faddrV, iaddrSV, iaddrAV, pickV, convV, unV, eqbV, eqpV, extV, mm2, mmV, nilckV, ress, res1, retV, Value.cells, cond_true, cond_false, Bool.true_or, Bool.false_or, Bool.or_true, Bool.or_false, beq_self_eq_true, if_true, if_false, ite_true, ite_false, decide_true, decide_false, decide_eq_true_eq, reduceIte, Nat.zero_add, Nat.add_zero, and_self, true_and, and_true, List.size_toArray, List.length_cons, List.length_nil, List.append_nil, List.nil_append, Int.toNat_zero, Bool.not_false, Bool.not_true, Bool.not_not, Bool.false_eq_true, Bool.true_eq_false, reduceCtorEq, Int.reduceLT, Int.reduceLE, Int.reduceToNat, Int.reduceAdd, Int.reduceSub, Int.reduceMul, Int.reduceNeg, Nat.reduceMul, Nat.reduceAdd, Nat.reduceSub, Nat.reduceBEq, Nat.reduceEqDiff, Nat.reduceLT, Nat.reduceLeDiff, Int.reduceBEq, Int.reduceEq, Nat.reducePow, Int.reducePow, IntWalk.i64_in, IntKind.bits, eqAV, eqL, leafEq, andO, fillV, buildSV, List.getElem?_toArray, List.getElem?_cons_zero, List.getElem?_cons_succ, List.getElem?_nil, Int.reduceGT, Int.reduceGE, Int.reduceBNe, Bool.true_and, Bool.and_true, Bool.false_and, Bool.and_false, Bool.and_self, IntWalk.u64_in, Int.cast_ofNat_Int, callF1, pad16, pad_0, pad_1, pad_2, pad_3, pad_4, pad_5, pad_6, pad_7, pad_8, pad_9, pad_10, pad_11, pad_12, pad_13, pad_14, pad_15, gc0, gc1, gc2, gc3, gc4, gc5, gc6, gc7, gc8, gc9, gc10, gc11, gc12, gc13, gc14, gc15, gcS, sc0, sc1, sc2, sc3, sc4, sc5, sc6, sc7, sc8, sc9, sc10, sc11, sc12, sc13, sc14, sc15, scS, List.drop_succ_cons, List.drop_nil, x_pan, s_pan, b_pan, pE_ret, pE_pan, pE_none, pE_ite, pvE_some, pvE_none, pvE_ite, rv_some, rv_none, rv_ite, oR_ret, t_mv, t_pick, t_alloc, t_box, t_build, t_buildS, t_load, t_store, t_nilck, t_bin, t_eqb, t_eqA, t_eqp, t_un, t_conv, t_field, t_idxA, t_faddr, t_iaddrS, t_iaddrA, t_ext, t_len, t_mm, t_call, t_ifc, t_fn, t_slc, t_slcA, t_slcT, t_tass, t_isn, t_mks, t_app, t_pan, panE_i, optE_none, optE_some, bnd_none, bnd_int, slA_none, slA_some, appR_some, appOld_cells, newsV_n, lenS_s, appV_nil, appV_some, mksV_i, sh_c, sh_g, f_pan, endD_ret, dfr_normal, dfr_ret, dfr_pan, restD_normal, callD1, callC1, tassV, isnV, slcV, slcAV, slcTV, slcB, appNew, Option.bind_some, Option.bind_none, d_pan, h_pan, wrH_eq, wrX_cells, wrU_some, upH_nil, upH_cons, lk_upH, effR_some, effR_none, effR_ite, Option.isNone_none, Option.isNone_some, slA_zero, call_yield, e_range, it_func, wy_same, y_call, isLp_self, beg_normal, end_normal, end_ret, end_exit, end_ite, aft_ret, aft_ready, aft_done, aft_exit, setP_cons, setP_nil, sh_r, t_mkmap, t_mlook, t_mupd, t_mdel, mapF_some, lookF_some, setM_some, lookR_t, lookR_n, lookR_f, lookR_fn, lookV, mupdV, mdelV, mkM]
  exact ⟨_, _, rfl⟩
end Go.Proofs.YtlkeeckhileedaaDoor
namespace Go.Proofs.YtlkeeckhileedaaDoor
open Go.Proofs.YtlkeeckhileedaaDoor.K Go.ChangeShapes Go.WideShapes Go.ChangeAt Go.RowKit
set_option maxRecDepth 100000
set_option linter.unusedSimpArgs false
set_option linter.unusedVariables false

theorem gThere : Tryd.prog.globalNamed "whitewash/mix.there" = some 0 := by kernel_rfl
theorem gThereT : (Tryd.prog.globals[0]?).map (·.type) = some 60 := by kernel_rfl
theorem leafs60 : leafs Tryd.prog 12 60 = some [.int .u64, .int .u64, .int .u64, .int .u64, .int .u64, .int .u64] := by kernel_rfl
theorem tab {W : World} (h : laidMetH Tryd.prog Rows.treapOneRow.laid W) : Tab (startB W) := by
  obtain ⟨ps, hv, _⟩ := laidMet_of_H (by rfl) h
  obtain ⟨a1, e1, f1, h1, l1⟩ := laid_cells hv (n := "whitewash/mix.there") (x := Rows.laid_whitewash_mix_there) (by simp [Rows.treapOneRow]) 12 gThere gThereT leafs60
  exact rdB_whole h1 l1 (by rfl)
namespace treapOne
theorem own : ownKnob Tryd.prog.godebug = none := by kernel_rfl
theorem laidOut : laidOutB Tryd.prog = true := by kernel_rfl
theorem typesOk : (Tryd.f4.params.toList.all fun t => Tryd.prog.readableRec t && decide (t < Tryd.prog.types.size)) = true := by kernel_rfl
theorem contract (H : Type) (enc : TypeId × Value → H) (W : World) (base : Nat) (args : Array Value) (ds gs : List (DataW H)) (before : List MemPlace)
    (hval : ∀ (j : Nat) t v, Tryd.f4.params[j]? = some t → args[j]? = some v → Value.okWide Tryd.prog W .any base t v)
    (hW : DataW.Whole enc Tryd.prog Tryd.f4.params.toList Rows.treapOneSpec.vars false W args.toList ds gs before) (hL : laidMetH Tryd.prog Rows.treapOneRow.laid W) :
    Calls Tryd.prog 4 args W fun e W' => ∃ v, e = .returned v ∧ Rows.treapOneSpec.post enc Tryd.prog Tryd.f4 false true false false W args v W' := by
  have hW' := hW
  obtain ⟨p, q, hA0, hV, hpq, hfz, hnd⟩ := hW
  have hA : DataW.TrodAll enc Tryd.prog W 0 (fun _ => true) true Tryd.f4.params.toList args.toList ds p := hA0
  rw [Tryd.params4] at hA hval
  obtain ⟨v0, vs0, d0, ds0, p0, q0, hargs, rfl, rfl, h0, r0⟩ := trodAll_cons hA
  obtain ⟨v1, vs1, d1, ds1, p1, q1, rfl, rfl, rfl, h1, r1⟩ := trodAll_cons r0
  obtain ⟨v2, vs2, d2, ds2, p2, q2, rfl, rfl, rfl, h2, r2⟩ := trodAll_cons r1
  obtain ⟨v3, vs3, d3, ds3, p3, q3, rfl, rfl, rfl, h3, r3⟩ := trodAll_cons r2
  obtain ⟨v4, vs4, d4, ds4, p4, q4, rfl, rfl, rfl, h4, r4⟩ := trodAll_cons r3
  obtain ⟨rfl, rfl, rfl⟩ := trodAll_nil r4
  obtain rfl : args = #[v0, v1, v2, v3, v4] := by apply Array.ext'; simpa using hargs
  obtain ⟨rfl, rfl⟩ := trodVars_none hV
  have s0 := open_flats (P := Tryd.prog) 20 Tryd.underlying23 (show leafs Tryd.prog 20 3 = some [.int .i64] by kernel_rfl) (show Tryd.prog.cellsOf 3 = 1 by kernel_rfl) (by decide) (hval 0 23 v0 rfl rfl) h0
  obtain ⟨x1, rfl, rfl, rfl, w1⟩ := open_int Tryd.underlying3 (hval 1 3 v1 rfl rfl) h1
  have b1 := i64_wf w1
  have s2 := open_flats (P := Tryd.prog) 20 Tryd.underlying24 (show leafs Tryd.prog 20 42 = some [.int .i64, .int .i64] by kernel_rfl) (show Tryd.prog.cellsOf 42 = 2 by kernel_rfl) (by decide) (hval 2 24 v2 rfl rfl) h2
  obtain ⟨x3, rfl, rfl, rfl, w3⟩ := open_int Tryd.underlying3 (hval 3 3 v3 rfl rfl) h3
  have b3 := i64_wf w3
  obtain ⟨x4, rfl, rfl, rfl, w4⟩ := open_int Tryd.underlying3 (hval 4 3 v4 rfl rfl) h4
  have b4 := i64_wf w4
  refine law_post laidOut (fun t ht => by simpa using List.all_eq_true.1 typesOk t ht) rfl (show Tryd.f4.resultTypes = #[4] by rfl) Tryd.underlying4 hW' rfl rfl rfl ?_
  obtain ⟨w, hw, hb⟩ := raw_open s0
  obtain ⟨W', hW', hW0⟩ := lnks_open s2
  have hs := callF_sound (w0 := W) (B := startB W) mixedOrders sG4 1300 Tryd.func4 low4
  exact law_calls hs (args := [v0, .int .i64 x1, v2, .int .i64 x3, .int .i64 x4]) fun N hN => lv4 (tab hL) hN (hw.rd f1_len) hb (hW'.rd p2_len) hW0 b1 b3 b4

noncomputable def laidWorld (os : Os) : World := laidW Tryd.prog os [(0, THERE)]
theorem laid_met (os : Os) : laidMet Tryd.prog Rows.treapOneRow.laid ((laidWorld os).forCall (fun _ _ => 0) ⟨#[], #[.slice none 0 0, .int .i64 0, .slice none 0 0, .int .i64 0, .int .i64 0], []⟩).memory :=
  laidMet_of_run' 16 (by kernel_rfl) (by kernel_rfl)
theorem reads (os : Os) {H : Type} (enc : TypeId × Value → H) : ∃ places, DataW.whole enc Tryd.prog ((laidWorld os).forCall (fun _ _ => 0) ⟨#[], #[.slice none 0 0, .int .i64 0, .slice none 0 0, .int .i64 0, .int .i64 0], []⟩).memory Tryd.f4.params.toList Rows.treapOneSpec.vars false (#[.slice none 0 0, .int .i64 0, .slice none 0 0, .int .i64 0, .int .i64 0] : Array Value).toList 16 = some ([.nil, .lit (.int .i64 0), .nil, .lit (.int .i64 0), .lit (.int .i64 0)], [], places) :=
  ⟨[], by kernel_rfl⟩
theorem lifted (os : Os) (started : os.Started) (H : Type) (enc : TypeId × Value → H) (F : Stop.Interp) :
    ReturnsInHanded {} Tryd.checked os 4 .any ((OpenSpec.ofChange Rows.treapOneSpec).preRow enc Tryd.prog Tryd.f4 Rows.treapOneRow.domain false Rows.treapOneRow.laid) (((OpenSpec.ofChange Rows.treapOneSpec).at F).post enc Tryd.prog Tryd.f4 false true false false) := by
  obtain ⟨places, hx⟩ := reads os enc
  refine returnsInHanded_of_row (C := Tryd.checked) (s := OpenSpec.ofChange Rows.treapOneSpec) own started (by kernel_rfl) Tryd.func4
    (witness_row_at (enc := enc) (C := Tryd.checked) false (laidWorld os) #[.slice none 0 0, .int .i64 0, .slice none 0 0, .int .i64 0, .int .i64 0] rfl (by kernel_rfl) (by kernel_rfl) (by kernel_rfl)
      (OpenSpec.preRow_of_cond 16 hx (by kernel_rfl) (fun k hk => by cases hk) (by kernel_rfl) (laid_met os))) ?_
  intro W base args ds gs before hval hW _ _ _ hL _ _
  exact contract H enc W base args ds gs before hval hW hL
theorem said : Rows.TreapOneSaid :=
  OpenClaim.holds_of_cond 4 Tryd.f4 rfl rfl rfl rfl rfl rfl rfl ⟨rfl, rfl, rfl, rfl, rfl⟩ rfl rfl rfl rfl rfl (by kernel_rfl) Tryd.func4 (by kernel_rfl)
    (of_decide_eq_true (by kernel_rfl)) (by unfold Func.isWrapper; first | (rw [if_pos (by decide +kernel)]; kernel_rfl) | (rw [if_neg (by decide +kernel)]; exact ⟨rfl, rfl⟩))
    (fun os started H enc _ F => by rw [OpenClaim.pre_eq_preRow]; exact lifted os started H enc F)
theorem plain (f : FuncId) (fn : Func) (hf : Tryd.pinned.checked.prog.funcNamed "whitewash/whitewashlaw08.TreapOne" = some f) (hfn : Tryd.pinned.checked.prog.funcs[f]? = some fn) :
    false = Tryd.pinned.checked.prog.looks [] ∧ ∀ (j : Nat) t, fn.params[j]? = some t → Tryd.pinned.checked.prog.wantsStandIn t = false := by
  obtain rfl : f = 4 := Option.some.inj ((show Tryd.prog.funcNamed "whitewash/whitewashlaw08.TreapOne" = some 4 by kernel_rfl).symm.trans hf) |>.symm
  obtain rfl : fn = Tryd.f4 := (Option.some.inj (Tryd.func4.symm.trans hfn)).symm
  refine ⟨by kernel_rfl, fun j t ht => ?_⟩
  have hall : (Tryd.f4.params.toList.all fun t => !Tryd.prog.wantsStandIn t) = true := by kernel_rfl
  have := List.all_eq_true.1 hall t (by simpa using Array.mem_of_getElem? ht)
  show Tryd.prog.wantsStandIn t = false
  simpa using this
theorem card : Rows.TreapOneCardSaid :=
  Claim7.holds_tied_plain_at .later [] _ _ _ _ said (fun _ h => by cases h) (by kernel_rfl) (fun _ h => by cases h) treapOne_row_tie rfl ⟨rfl, rfl⟩ (by kernel_rfl) rfl plain (by kernel_rfl)
end treapOne
end Go.Proofs.YtlkeeckhileedaaDoor
