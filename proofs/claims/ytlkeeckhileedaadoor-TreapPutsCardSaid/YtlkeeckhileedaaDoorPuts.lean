/- The law TreapPuts: whatever the input, it returns true, and the input reads as it did. No condition. -/
import Derived.Test.YtlkeeckhileedaaDoorOwnC
import Derived.Test.YtlkeeckhileedaaDoorRows
import Derived.Test.YtlkeeckhileedaaDoorCards
import Derived.Test.YtlkeeckhileedaaDoorTie
set_option linter.unusedSimpArgs false
set_option linter.unusedVariables false
namespace Go.Proofs.YtlkeeckhileedaaDoor
open Go.Proofs.YtlkeeckhileedaaDoor.K
/-! ### What is found -/
theorem Asc.lt {K : List Int} (h : Asc K) {i : Nat} : ∀ {j : Nat}, i < j → j < K.length → K.getD i 0 < K.getD j 0
  | 0, h1, _ => by omega
  | j + 1, h1, h2 => by
    have h3 := h j h2
    by_cases e : i = j
    · rw [e]; exact h3
    · have := Asc.lt h (i := i) (j := j) (by omega) (by omega)
      omega
/-- x is the number of the first one of these whose key is not less; none: b. -/
def FrP (K : List Int) (q : Int) (a d b x : Nat) : Prop :=
  (∃ i, a ≤ i ∧ i < a + d ∧ K.getD i 0 ≥ q ∧ (∀ j, a ≤ j → j < i → K.getD j 0 < q) ∧ x = i + 1) ∨ ((∀ j, a ≤ j → j < a + d → K.getD j 0 < q) ∧ x = b)
theorem FrP.uniq {K : List Int} {q : Int} {a d b x y : Nat} (h : FrP K q a d b x) (h' : FrP K q a d b y) : x = y := by
  rcases h with ⟨i, i1, i2, i3, i4, rfl⟩ | ⟨h1, rfl⟩ <;> rcases h' with ⟨j, j1, j2, j3, j4, rfl⟩ | ⟨h2, rfl⟩
  · have c1 : ¬ i < j := fun c => by have := j4 i i1 c; omega
    have c2 : ¬ j < i := fun c => by have := i4 j j1 c; omega
    omega
  · have := h2 i i1 i2; omega
  · have := h1 j j1 j2; omega
  · rfl
def bstF (K : List Int) (q : Int) (b : Nat) (P : List Nat) : Nat := P.foldl (fun b s => if K.getD (s - 1) 0 ≥ q then s else b) b
theorem bst_F (K : List Int) (q : Int) (P : List Nat) : ∀ j, j ≤ P.length → bst K q P j = bstF K q 0 (P.take j)
  | 0, _ => by simp [bst, bstF]
  | j + 1, h => by
    have ih := bst_F K q P j (by omega)
    rw [List.take_add_one, some_getD (d := 0) (by omega : j < P.length)]
    simp only [bst, bstF, Option.toList_some, List.foldl_append, List.foldl_cons, List.foldl_nil] at ih ⊢
    rw [ih]
theorem bstF_Pth {K : List Int} {q : Int} (ha : Asc K) : ∀ (d a b : Nat), a + d ≤ K.length → FrP K q a d b (bstF K q b (Pth K q a d)) := by
  intro d
  induction d using Nat.strongRecOn with
  | ind d ih =>
    intro a b hK
    cases d with
    | zero => rw [Pth_zero]; exact .inr ⟨fun j h1 h2 => by omega, rfl⟩
    | succ e =>
      have hb := amx_b (fK K) a e
      rw [Pth_succ]
      generalize amx (fK K) a e = t at hb
      have hlt : ∀ j, j < t → K.getD j 0 < K.getD t 0 := fun j hj => ha.lt hj (by omega)
      have hstep : ∀ P, bstF K q b ((t + 1) :: P) = bstF K q (if K.getD t 0 ≥ q then t + 1 else b) P := fun P => rfl
      rw [hstep]
      by_cases h1 : K.getD t 0 = q
      · rw [if_pos h1, if_pos (by omega)]
        exact .inl ⟨t, hb.1, by omega, by omega, fun j _ hj => by have := hlt j hj; omega, rfl⟩
      · rw [if_neg h1]
        by_cases h2 : q < K.getD t 0
        · rw [if_pos h2, if_pos (by omega)]
          rcases ih (t - a) (by omega) a (t + 1) (by omega) with ⟨i, i1, i2, i3, i4, i5⟩ | ⟨h3, h4⟩
          · exact .inl ⟨i, i1, by omega, i3, i4, i5⟩
          · exact .inl ⟨t, hb.1, by omega, by omega, fun j j1 j2 => h3 j j1 (by omega), h4⟩
        · rw [if_neg h2, if_neg (by omega)]
          rcases ih (a + e - t) (by omega) (t + 1) b (by omega) with ⟨i, i1, i2, i3, i4, i5⟩ | ⟨h3, h4⟩
          · refine .inl ⟨i, by omega, by omega, i3, fun j j1 j2 => ?_, i5⟩
            by_cases hj : j ≤ t
            · by_cases hj' : j = t
              · rw [hj']; omega
              · have := hlt j (by omega); omega
            · exact i4 j (by omega) j2
          · refine .inr ⟨fun j j1 j2 => ?_, h4⟩
            by_cases hj : j ≤ t
            · by_cases hj' : j = t
              · rw [hj']; omega
              · have := hlt j (by omega); omega
            · exact h3 j (by omega) (by omega)
theorem rOk_own {K : List Int} (h : bErr K = 0) : rOk K (bRoot K) (bLinks K) = true := by unfold rOk; rw [decide_eq_true h, decide_eq_true rfl, decide_eq_true rfl]; rfl
theorem rOk_Asc {K : List Int} {root : Int} {links : List P2} (h : rOk K root links = true) : bErr K = 0 ∧ bRoot K = root ∧ bLinks K = links := by
  unfold rOk at h
  simp only [Bool.and_eq_true, decide_eq_true_eq] at h
  exact ⟨h.1.1, h.1.2, h.2⟩
theorem nxt_FrP {K : List Int} {root : Int} {links : List P2} {q : Int} (h : rOk K root links = true) : FrP K q 0 K.length 0 (nxt K root links q) := by
  unfold nxt
  rw [if_pos h, bst_F _ _ _ _ (Nat.le_refl _), List.take_length]
  exact bstF_Pth (bErr_0 (rOk_Asc h).1).2 K.length 0 0 (by omega)
/-- Where the way ends. -/
theorem Pth_last {K : List Int} {q : Int} (ha : Asc K) : ∀ (d a j : Nat), a + d ≤ K.length → a ≤ j → j < a + d → K.getD j 0 = q → (Pth K q a d).getLast? = some (j + 1) := by
  intro d
  induction d using Nat.strongRecOn with
  | ind d ih =>
    intro a j hK h1 h2 hq
    cases d with
    | zero => omega
    | succ e =>
      have hb := amx_b (fK K) a e
      rw [Pth_succ]
      generalize amx (fK K) a e = t at hb
      by_cases ht : K.getD t 0 = q
      · rw [if_pos ht]
        have : j = t := by
          rcases Nat.lt_trichotomy j t with c | c | c
          · have := ha.lt c (by omega); omega
          · exact c
          · have := ha.lt c (by omega); omega
        rw [this]; rfl
      · rw [if_neg ht]
        by_cases h3 : q < K.getD t 0
        · rw [if_pos h3]
          have : j < t := by
            rcases Nat.lt_trichotomy j t with c | c | c
            · exact c
            · rw [c] at hq; omega
            · have := ha.lt c (by omega); omega
          rw [List.getLast?_cons, ih (t - a) (by omega) a j (by omega) h1 (by omega) hq]; rfl
        · rw [if_neg h3]
          have : t < j := by
            rcases Nat.lt_trichotomy j t with c | c | c
            · have := ha.lt c (by omega); omega
            · rw [c] at hq; omega
            · exact c
          rw [List.getLast?_cons, ih (a + e - t) (by omega) (t + 1) j (by omega) (by omega) (by omega) hq]; rfl
theorem Pth_nil {K : List Int} {q : Int} {a d : Nat} (h : Pth K q a d = []) : d = 0 := by
  cases d with
  | zero => rfl
  | succ e => rw [Pth_succ] at h; cases h
/-- How far the way has been gone: so much of it is left, and there it goes on. -/
def Wk (K : List Int) (links : List P2) (q : Int) (P : List Nat) (i nx : Nat) : Prop :=
  (∃ a d, Hd K links a d ∧ P.drop i = Pth K q a d ∧ nx = (T (fK K) a d).1) ∨ (i = P.length ∧ 0 < i ∧ P.getD (i - 1) 0 = nx ∧ 1 ≤ nx ∧ nx ≤ K.length ∧ K.getD (nx - 1) 0 = q)
theorem Wk.init {K : List Int} {q : Int} (h : bErr K = 0) : Wk K (bLinks K) q (Pth K q 0 K.length) 0 (T (fK K) 0 K.length).1 := .inl ⟨0, K.length, Hd.all h, by rw [List.drop_zero], rfl⟩
theorem drop_cons' {P R : List Nat} {i x : Nat} (h : P.drop i = x :: R) : P.getD i 0 = x ∧ P.drop (i + 1) = R ∧ i < P.length := by
  have h1 : P[i]? = some x := by
    have := List.getElem?_drop (xs := P) (i := i) (j := 0)
    rw [h] at this
    simpa using this.symm
  refine ⟨getD_some h1, ?_, ?_⟩
  · have : P.drop (i + 1) = (P.drop i).drop 1 := by rw [List.drop_drop]
    rw [this, h]; rfl
  · exact (List.getElem?_eq_some_iff.1 h1).1
theorem Wk.step {K : List Int} {links : List P2} {q : Int} {P : List Nat} {i nx : Nat} (h : Wk K links q P i nx) (hi : i < P.length) :
    P.getD i 0 = nx ∧ 1 ≤ nx ∧ nx ≤ K.length ∧ (K.getD (nx - 1) 0 = q → i + 1 = P.length) ∧
    (K.getD (nx - 1) 0 > q → ∃ m : Nat, (links.getD (nx - 1) q0).l = (m : Int) ∧ Wk K links q P (i + 1) m) ∧
    (K.getD (nx - 1) 0 < q → ∃ m : Nat, (links.getD (nx - 1) q0).r = (m : Int) ∧ Wk K links q P (i + 1) m) ∧
    (K.getD (nx - 1) 0 = q → Wk K links q P (i + 1) nx) := by
  rcases h with ⟨a, d, hH, hP, rfl⟩ | ⟨h1, _⟩
  · cases d with
    | zero =>
      rw [Pth_zero] at hP
      have : P.length ≤ i := by
        have := congrArg List.length hP
        simp at this; omega
      omega
    | succ e =>
      have hb := amx_b (fK K) a e
      have ht := hH.top
      have hl := hH.left
      have hr := hH.right
      have hK := hH.1
      rw [Pth_succ] at hP
      rw [T_succ]
      simp only [Nat.add_sub_cancel]
      generalize amx (fK K) a e = t at *
      obtain ⟨d1, d2, d3⟩ := drop_cons' hP
      refine ⟨d1, by omega, by omega, fun hq => ?_, fun hq => ?_, fun hq => ?_, fun hq => ?_⟩
      · rw [if_pos hq] at d2
        have := congrArg List.length d2
        simp at this; omega
      · rw [if_neg (by omega), if_pos (by omega)] at d2
        exact ⟨_, by rw [ht], .inl ⟨a, t - a, hl, d2, rfl⟩⟩
      · rw [if_neg (by omega), if_neg (by omega)] at d2
        exact ⟨_, by rw [ht], .inl ⟨t + 1, a + e - t, hr, d2, rfl⟩⟩
      · rw [if_pos hq] at d2
        have := congrArg List.length d2
        simp at this
        exact .inr ⟨by omega, by omega, by rw [Nat.add_sub_cancel]; exact d1, by omega, by omega, by rw [Nat.add_sub_cancel]; exact hq⟩
  · omega
theorem Wk.fin {K : List Int} {links : List P2} {q : Int} {P : List Nat} {nx : Nat} (h : Wk K links q P P.length nx) (hq : ∀ j, j < K.length → K.getD j 0 ≠ q) : nx = 0 := by
  rcases h with ⟨a, d, _, hP, rfl⟩ | ⟨_, _, _, h1, h2, h3⟩
  · rw [List.drop_length] at hP
    obtain rfl := Pth_nil hP.symm
    rw [T_zero]
  · exact (hq _ (by omega) h3).elim
end Go.Proofs.YtlkeeckhileedaaDoor
namespace Go.Proofs.YtlkeeckhileedaaDoor
open Go.Proofs.YtlkeeckhileedaaDoor.K
/-! ### One key more -/
theorem asc_iff {K : List Int} : Asc K ↔ K.Pairwise (· < ·) := by
  rw [List.pairwise_iff_getElem]
  constructor
  · intro h i j hi hj hij
    have := h.lt hij hj
    rwa [List.getD_eq_getElem?_getD, List.getD_eq_getElem?_getD, List.getElem?_eq_getElem hi, List.getElem?_eq_getElem hj] at this
  · intro h i hi
    have := h i (i + 1) (by omega) hi (by omega)
    rwa [List.getD_eq_getElem?_getD, List.getD_eq_getElem?_getD, List.getElem?_eq_getElem hi, List.getElem?_eq_getElem (by omega)]
theorem amx_uniq {f : Nat → Int} {a d t : Nat} (h1 : a ≤ t) (h2 : t ≤ a + d) (h : ∀ i, a ≤ i → i ≤ a + d → i ≠ t → f i < f t) : amx f a d = t := by
  have hb := amx_b f a d
  have hg := amx_ge f a d t h1 h2
  by_cases e : amx f a d = t
  · exact e
  · have := h _ hb.1 hb.2 e
    omega
theorem fK_ne {K : List Int} (ha : Asc K) (hu : U64s K) {i j : Nat} (hi : i < K.length) (hj : j < K.length) (h : i ≠ j) : fK K i ≠ fK K j := fun e => by
  have := mixI_inj (hu.at i) (hu.at j) e
  rcases Nat.lt_or_gt_of_ne h with c | c
  · have := ha.lt c hj; omega
  · have := ha.lt c hi; omega
/-- The two ways. -/
inductive Sp (bef : Nat → Prop) (sh : Nat → Nat) (z : Nat) : List Nat → List Nat → Prop where
  | nil : Sp bef sh z [] [z]
  | stop {s R} : ¬ bef s → Sp bef sh z (s :: R) [z]
  | step {s A C} : bef s → Sp bef sh z A C → Sp bef sh z (s :: A) (sh s :: C)
def putK (K : List Int) (p : Nat) (q : Int) : List Int := K.take p ++ q :: K.drop p
theorem putK_len {K : List Int} {p : Nat} {q : Int} (hp : p ≤ K.length) : (putK K p q).length = K.length + 1 := by
  unfold putK; simp; omega
theorem putK_at {K : List Int} {p : Nat} {q : Int} (hp : p ≤ K.length) (i : Nat) : (putK K p q).getD i 0 = if i < p then K.getD i 0 else if i = p then q else K.getD (i - 1) 0 := by
  unfold putK
  have hl : (K.take p).length = p := by rw [List.length_take]; omega
  by_cases h1 : i < p
  · rw [if_pos h1, List.getD_eq_getElem?_getD, List.getElem?_append_left (by omega), List.getElem?_take, if_pos h1, ← List.getD_eq_getElem?_getD]
  · rw [if_neg h1, List.getD_eq_getElem?_getD, List.getElem?_append_right (by omega), hl]
    by_cases h2 : i = p
    · rw [if_pos h2, h2, Nat.sub_self]; rfl
    · rw [if_neg h2, show i - p = (i - 1 - p) + 1 by omega, List.getElem?_cons_succ, List.getElem?_drop, show p + (i - 1 - p) = i - 1 by omega, ← List.getD_eq_getElem?_getD]
theorem putK_asc {K : List Int} {p : Nat} {q : Int} (ha : Asc K) (hp : p ≤ K.length) (hlo : ∀ j, j < p → K.getD j 0 < q) (hhi : ∀ j, p ≤ j → j < K.length → q < K.getD j 0) : Asc (putK K p q) := by
  intro i hi
  rw [putK_len hp] at hi
  rw [putK_at hp, putK_at hp]
  by_cases h1 : i + 1 < p
  · rw [if_pos (by omega), if_pos h1]; exact ha i (by omega)
  · by_cases h2 : i + 1 = p
    · rw [if_pos (by omega), if_neg h1, if_pos h2]; exact hlo i (by omega)
    · by_cases h3 : i = p
      · rw [if_neg (by omega), if_pos h3, if_neg (by omega), if_neg (by omega), Nat.add_sub_cancel]
        exact hhi i (by omega) (by omega)
      · rw [if_neg (by omega), if_neg h3, if_neg (by omega), if_neg (by omega)]
        have := ha (i - 1) (by omega)
        rwa [show i - 1 + 1 = i by omega] at this
def shU (p n : Nat) : Nat := if n > p then n + 1 else n
def bfr (K : List Int) (q : Int) (s : Nat) : Prop := fK K (s - 1) > mixI q
theorem puts {K : List Int} {p : Nat} {q : Int} (ha : Asc K) (hu : U64s K) (hq : u64R q) (hp : p ≤ K.length) (hlo : ∀ j, j < p → K.getD j 0 < q) (hhi : ∀ j, p ≤ j → j < K.length → q < K.getD j 0) :
    ∀ (d a : Nat), a ≤ p → p ≤ a + d → a + d ≤ K.length → Sp (bfr K q) (shU p) (p + 1) (Pth K q a d) (Pth (putK K p q) q a (d + 1)) := by
  have hM : ∀ i, fK (putK K p q) i = if i < p then fK K i else if i = p then mixI q else fK K (i - 1) := fun i => by
    unfold fK; rw [putK_at hp]
    split
    · rfl
    · split <;> rfl
  have hqp : (putK K p q).getD p 0 = q := by rw [putK_at hp, if_neg (by omega), if_pos rfl]
  have hne : ∀ j, j < K.length → fK K j ≠ mixI q := fun j hj e => by
    have := mixI_inj (hu.at j) hq e
    by_cases c : j < p
    · have := hlo j c; omega
    · have := hhi j (by omega) hj; omega
  intro d
  induction d using Nat.strongRecOn with
  | ind d ih =>
    intro a h1 h2 h3
    have hstop : (∀ j, a ≤ j → j < a + d → fK K j < mixI q) → Pth (putK K p q) q a (d + 1) = [p + 1] := fun h => by
      have : amx (fK (putK K p q)) a d = p := amx_uniq h1 h2 fun i i1 i2 i3 => by
        rw [hM i, hM p, if_neg (Nat.lt_irrefl p), if_pos rfl]
        by_cases c : i < p
        · rw [if_pos c]; exact h i i1 (by omega)
        · rw [if_neg c, if_neg i3]; exact h (i - 1) (by omega) (by omega)
      rw [Pth_succ, this, if_pos hqp]
    cases d with
    | zero =>
      rw [hstop (fun j j1 j2 => by omega), Pth_zero]
      exact .nil
    | succ e =>
      have hb := amx_b (fK K) a e
      have hge := amx_ge (fK K) a e
      rw [Pth_succ K]
      generalize ht : amx (fK K) a e = t at hb hge
      by_cases hbf : fK K t > mixI q
      · have hmax : ∀ j, a ≤ j → j ≤ a + e → j ≠ t → fK K j < fK K t := fun j j1 j2 j3 => by
          have := hge j j1 j2
          have := fK_ne ha hu (i := j) (j := t) (by omega) (by omega) j3
          omega
        have hkq : K.getD t 0 ≠ q := fun e => by
          by_cases c : t < p
          · have := hlo t c; omega
          · have := hhi t (by omega) (by omega); omega
        rw [if_neg hkq]
        by_cases hlt : q < K.getD t 0
        · have hpt : p ≤ t := by
            by_cases c : t < p
            · have := hlo t c; omega
            · omega
          have hMt : fK (putK K p q) (t + 1) = fK K t := by rw [hM, if_neg (by omega), if_neg (by omega), Nat.add_sub_cancel]
          have hx : amx (fK (putK K p q)) a (e + 1) = t + 1 := amx_uniq (by omega) (by omega) fun i i1 i2 i3 => by
            rw [hMt, hM i]
            by_cases c : i < p
            · rw [if_pos c]; exact hmax i i1 (by omega) (by omega)
            · rw [if_neg c]
              by_cases c2 : i = p
              · rw [if_pos c2]; exact hbf
              · rw [if_neg c2]; exact hmax (i - 1) (by omega) (by omega) (by omega)
          have hv : (putK K p q).getD (t + 1) 0 = K.getD t 0 := by rw [putK_at hp, if_neg (by omega), if_neg (by omega), Nat.add_sub_cancel]
          rw [Pth_succ (putK K p q), hx, hv, if_neg hkq, if_pos hlt, if_pos hlt, show t + 1 - a = t - a + 1 by omega]
          have := Sp.step (bef := bfr K q) (sh := shU p) (z := p + 1) (s := t + 1) hbf (ih (t - a) (by omega) a h1 (by omega) (by omega))
          rwa [show shU p (t + 1) = t + 1 + 1 from if_pos (by omega)] at this
        · have hpt : t < p := by
            by_cases c : t < p
            · exact c
            · have := hhi t (by omega) (by omega); omega
          have hMt : fK (putK K p q) t = fK K t := by rw [hM, if_pos hpt]
          have hx : amx (fK (putK K p q)) a (e + 1) = t := amx_uniq (by omega) (by omega) fun i i1 i2 i3 => by
            rw [hMt, hM i]
            by_cases c : i < p
            · rw [if_pos c]; exact hmax i i1 (by omega) (by omega)
            · rw [if_neg c]
              by_cases c2 : i = p
              · rw [if_pos c2]; exact hbf
              · rw [if_neg c2]; exact hmax (i - 1) (by omega) (by omega) (by omega)
          have hv : (putK K p q).getD t 0 = K.getD t 0 := by rw [putK_at hp, if_pos hpt]
          rw [Pth_succ (putK K p q), hx, hv, if_neg hkq, if_neg hlt, if_neg hlt, show a + (e + 1) - t = a + e - t + 1 by omega]
          have := Sp.step (bef := bfr K q) (sh := shU p) (z := p + 1) (s := t + 1) hbf (ih (a + e - t) (by omega) (t + 1) (by omega) (by omega) (by omega))
          rwa [show shU p (t + 1) = t + 1 from if_neg (by omega)] at this
      · rw [hstop (fun j j1 j2 => by
          have := hge j j1 (by omega)
          have := hne j (by omega)
          omega)]
        exact .stop (by unfold bfr; rw [Nat.add_sub_cancel]; exact hbf)
theorem Sp.at {bef : Nat → Prop} {sh : Nat → Nat} {z : Nat} {A C : List Nat} {i : Nat} (h : Sp bef sh z (A.drop i) (C.drop i)) :
    i < C.length ∧ ((i ≥ A.length ∧ C.length = i + 1 ∧ C.getD i 0 = z) ∨ (i < A.length ∧ ¬ bef (A.getD i 0) ∧ C.length = i + 1 ∧ C.getD i 0 = z) ∨
      (i < A.length ∧ bef (A.getD i 0) ∧ C.getD i 0 = sh (A.getD i 0) ∧ Sp bef sh z (A.drop (i + 1)) (C.drop (i + 1)))) := by
  have hone : ∀ {C : List Nat}, C.drop i = [z] → i < C.length ∧ C.length = i + 1 ∧ C.getD i 0 = z := fun {C} h => by
    obtain ⟨h1, h2, h3⟩ := drop_cons' h
    have := congrArg List.length h2
    simp at this
    exact ⟨h3, by omega, h1⟩
  generalize hA : A.drop i = A' at h
  generalize hC : C.drop i = C' at h
  cases h with
  | nil =>
    obtain ⟨h1, h2, h3⟩ := hone hC
    have := congrArg List.length hA
    simp at this
    exact ⟨h1, .inl ⟨by omega, h2, h3⟩⟩
  | stop hb =>
    obtain ⟨h1, h2, h3⟩ := hone hC
    obtain ⟨a1, a2, a3⟩ := drop_cons' hA
    exact ⟨h1, .inr (.inl ⟨a3, by rw [a1]; exact hb, h2, h3⟩)⟩
  | step hb hs =>
    obtain ⟨c1, c2, c3⟩ := drop_cons' hC
    obtain ⟨a1, a2, a3⟩ := drop_cons' hA
    exact ⟨c3, .inr (.inr ⟨a3, by rw [a1]; exact hb, by rw [c1, a1], by rw [a2, c2]; exact hs⟩)⟩
/-- Without one. -/
def wo (K : List Int) (q : Int) (j : Nat) : List Int := (K.take j).filter (· ≠ q)
theorem wo_succ (K : List Int) (q : Int) (j : Nat) (h : j < K.length) : wo K q (j + 1) = if K.getD j 0 ≠ q then wo K q j ++ [K.getD j 0] else wo K q j := by
  unfold wo
  rw [List.take_add_one, some_getD (d := 0) h, List.filter_append, Option.toList_some, List.filter_cons, List.filter_nil]
  generalize K.getD j 0 = x
  by_cases e : x = q
  · simp [e]
  · simp [e]
theorem wo_len (K : List Int) (q : Int) (j : Nat) : (wo K q j).length ≤ K.length := by
  unfold wo
  have := List.length_filter_le (fun x => decide (x ≠ q)) (K.take j)
  rw [List.length_take] at this
  omega
theorem wo_asc {K : List Int} (h : Asc K) (q : Int) (j : Nat) : Asc (wo K q j) := by
  rw [asc_iff] at h ⊢
  exact (h.sublist (List.take_sublist j K)).filter _
theorem wo_u {K : List Int} (h : U64s K) (q : Int) (j : Nat) : U64s (wo K q j) := fun x hx => h x (List.mem_of_mem_take (List.mem_filter.1 hx).1)
theorem wo_ne (K : List Int) (q : Int) (j i : Nat) (hi : i < (wo K q j).length) : (wo K q j).getD i 0 ≠ q := by
  have h : (wo K q j).getD i 0 ∈ wo K q j := by
    rw [List.getD_eq_getElem?_getD, List.getElem?_eq_getElem hi]
    exact List.getElem_mem hi
  generalize (wo K q j).getD i 0 = x at h
  unfold wo at h
  simpa using (List.mem_filter.1 h).2
end Go.Proofs.YtlkeeckhileedaaDoor
namespace Go.Proofs.YtlkeeckhileedaaDoor
open Go.Proofs.YtlkeeckhileedaaDoor.K Go.ChangeShapes Go.WideShapes Go.ChangeAt Go.RowKit
set_option maxRecDepth 100000
set_option linter.unusedSimpArgs false
set_option linter.unusedVariables false

/-- whitewash/whitewashlaw08.TreapPuts -/
def L7 : FnL := ⟨(.seq (.ops [⟨(some 4), .mv (.const (.bool false)), none⟩])
 (.seq (.ops [⟨(some 22), .call (.func 8) [], none⟩, ⟨(some 5), .mv (.tmp 22), none⟩])
 (.seq (.ops [⟨(some 23), .mv (.tmp 1), none⟩, ⟨(some 24), .call (.func 15) [(.tmp 23)], none⟩, ⟨(some 6), .mv (.tmp 24), none⟩])
 (.seq (.ops [⟨(some 7), .mv (.const (.slice none 0 0)), none⟩])
 (.seq (.ops [⟨(some 25), .mv (.tmp 0), none⟩, ⟨(some 26), .call (.func 9) [(.tmp 25)], none⟩, ⟨(some 8), .mv (.tmp 26), none⟩])
 (.seq (.seq (.ops [⟨(some 9), .mv (.const (.int .i64 0)), none⟩])
 (.block 0 (.loop (.seq (.seq (.ops [⟨(some 27), .mv (.tmp 9), none⟩, ⟨(some 28), .mv (.tmp 8), none⟩, ⟨(some 29), .len false (.tmp 28), none⟩, ⟨(some 30), .bin .lss (.tmp 27) (.tmp 29), none⟩])
 (.cond (.tmp 30) .skip
 (.exit 0)))
 (.seq (.block 1 (.seq (.ops [⟨(some 33), .mv (.tmp 8), none⟩, ⟨(some 34), .mv (.tmp 9), none⟩, ⟨(some 35), .iaddrS 1 (.tmp 33) (.tmp 34), none⟩, ⟨(some 36), .load false 1 (.tmp 35), none⟩, ⟨(some 37), .mv (.tmp 6), none⟩, ⟨(some 38), .bin .neq (.tmp 36) (.tmp 37), none⟩])
 (.cond (.tmp 38) (.ops [⟨(some 39), .mv (.tmp 7), none⟩, ⟨(some 40), .mv (.tmp 8), none⟩, ⟨(some 41), .mv (.tmp 9), none⟩, ⟨(some 42), .iaddrS 1 (.tmp 40) (.tmp 41), none⟩, ⟨(some 43), .load false 1 (.tmp 42), none⟩, ⟨(some 44), .buildS [(.int .u64 0)] 1 [(0, 1, (.tmp 43))], none⟩, ⟨(some 45), .app [(.int .u64 0)] 8 (.tmp 39) (.tmp 44), none⟩, ⟨(some 7), .mv (.tmp 45), none⟩])
 .skip)))
 (.ops [⟨(some 31), .mv (.tmp 9), none⟩, ⟨(some 32), .bin .add (.tmp 31) (.const (.int .i64 1)), none⟩, ⟨(some 9), .mv (.tmp 32), none⟩]))))))
 (.seq (.ops [⟨(some 10), .mv (.const (.int .i64 0)), none⟩])
 (.seq (.block 2 (.loop (.seq (.seq (.ops [⟨(some 46), .mv (.tmp 10), none⟩, ⟨(some 47), .mv (.tmp 7), none⟩, ⟨(some 48), .len false (.tmp 47), none⟩, ⟨(some 49), .bin .lss (.tmp 46) (.tmp 48), none⟩, ⟨(some 50), .mv (.tmp 49), none⟩, ⟨(some 51), .mv (.tmp 7), (some (50, true))⟩, ⟨(some 52), .mv (.tmp 10), (some (50, true))⟩, ⟨(some 53), .iaddrS 1 (.tmp 51) (.tmp 52), (some (50, true))⟩, ⟨(some 54), .load false 1 (.tmp 53), (some (50, true))⟩, ⟨(some 55), .mv (.tmp 6), (some (50, true))⟩, ⟨(some 56), .bin .lss (.tmp 54) (.tmp 55), (some (50, true))⟩, ⟨(some 57), .pick (.tmp 50) (.tmp 56) (.const (.bool false)), none⟩])
 (.cond (.tmp 57) .skip
 (.exit 2)))
 (.block 3 (.ops [⟨(some 58), .mv (.tmp 10), none⟩, ⟨(some 59), .bin .add (.tmp 58) (.const (.int .i64 1)), none⟩, ⟨(some 10), .mv (.tmp 59), none⟩])))))
 (.seq (.seq (.draw [⟨⟨(some 60), .mv (.tmp 7), none⟩, []⟩, ⟨⟨(some 61), .mv (.tmp 10), none⟩, []⟩, ⟨⟨(some 62), .slc 1 (.tmp 60) none (some (.tmp 61)) none, none⟩, []⟩, ⟨⟨(some 64), .mv (.tmp 6), none⟩, []⟩, ⟨⟨(some 67), .mv (.tmp 7), none⟩, []⟩, ⟨⟨(some 68), .mv (.tmp 10), none⟩, []⟩, ⟨⟨(some 69), .slc 1 (.tmp 67) (some (.tmp 68)) none none, none⟩, []⟩])
 (.fork (.draw [⟨⟨(some 63), .app [(.int .u64 0)] 8 (.const (.slice none 0 0)) (.tmp 62), none⟩, []⟩, ⟨⟨(some 65), .buildS [(.int .u64 0)] 1 [(0, 1, (.tmp 64))], none⟩, []⟩, ⟨⟨(some 66), .app [(.int .u64 0)] 8 (.tmp 63) (.tmp 65), none⟩, []⟩, ⟨⟨(some 70), .app [(.int .u64 0)] 8 (.tmp 66) (.tmp 69), none⟩, []⟩, ⟨⟨(some 11), .mv (.tmp 70), none⟩, []⟩])
 (.draw [⟨⟨(some 65), .buildS [(.int .u64 0)] 1 [(0, 1, (.tmp 64))], none⟩, []⟩, ⟨⟨(some 63), .app [(.int .u64 0)] 8 (.const (.slice none 0 0)) (.tmp 62), none⟩, []⟩, ⟨⟨(some 66), .app [(.int .u64 0)] 8 (.tmp 63) (.tmp 65), none⟩, []⟩, ⟨⟨(some 70), .app [(.int .u64 0)] 8 (.tmp 66) (.tmp 69), none⟩, []⟩, ⟨⟨(some 11), .mv (.tmp 70), none⟩, []⟩])))
 (.seq (.ops [⟨(some 72), .mv (.tmp 7), none⟩, ⟨(some 73), .call (.func 10) [(.tmp 72)], none⟩, ⟨(some 71), .mv (.tmp 73), none⟩, ⟨(some 74), .ext (.tmp 71) 0, none⟩, ⟨(some 75), .ext (.tmp 71) 1, none⟩, ⟨(some 76), .ext (.tmp 71) 2, none⟩, ⟨(some 12), .mv (.tmp 74), none⟩, ⟨(some 13), .mv (.tmp 75), none⟩, ⟨(some 14), .mv (.tmp 76), none⟩])
 (.seq (.ops [⟨(some 78), .mv (.tmp 11), none⟩, ⟨(some 79), .call (.func 10) [(.tmp 78)], none⟩, ⟨(some 77), .mv (.tmp 79), none⟩, ⟨(some 80), .ext (.tmp 77) 0, none⟩, ⟨(some 81), .ext (.tmp 77) 1, none⟩, ⟨(some 82), .ext (.tmp 77) 2, none⟩, ⟨(some 15), .mv (.tmp 80), none⟩, ⟨(some 16), .mv (.tmp 81), none⟩, ⟨(some 17), .mv (.tmp 82), none⟩])
 (.seq (.seq (.ops [⟨(some 83), .mv (.tmp 14), none⟩, ⟨(some 84), .bin .neq (.tmp 83) (.const (.int .i64 0)), none⟩, ⟨(some 85), .mv (.tmp 84), none⟩, ⟨(some 86), .mv (.tmp 17), (some (85, false))⟩, ⟨(some 87), .bin .neq (.tmp 86) (.const (.int .i64 0)), (some (85, false))⟩, ⟨(some 88), .pick (.tmp 85) (.const (.bool true)) (.tmp 87), none⟩])
 (.cond (.tmp 88) (.seq (.ops [⟨(some 4), .mv (.const (.bool false)), none⟩])
 .ret)
 .skip))
 (.seq (.ops [⟨(some 89), .mv (.tmp 7), none⟩, ⟨(some 90), .mv (.tmp 12), none⟩, ⟨(some 91), .mv (.tmp 13), none⟩, ⟨(some 92), .mv (.tmp 6), none⟩, ⟨(some 93), .call (.func 21) [(.tmp 89), (.tmp 90), (.tmp 91), (.tmp 92)], none⟩, ⟨(some 18), .mv (.tmp 93), none⟩])
 (.seq (.ops [⟨(some 94), .mv (.tmp 11), none⟩, ⟨(some 95), .mv (.tmp 15), none⟩, ⟨(some 96), .mv (.tmp 16), none⟩, ⟨(some 97), .mv (.tmp 6), none⟩, ⟨(some 98), .call (.func 21) [(.tmp 94), (.tmp 95), (.tmp 96), (.tmp 97)], none⟩, ⟨(some 19), .mv (.tmp 98), none⟩])
 (.seq (.ops [⟨(some 20), .mv (.const (.int .i64 0)), none⟩])
 (.seq (.block 4 (.loop (.seq (.seq (.ops [⟨(some 99), .mv (.tmp 20), none⟩, ⟨(some 100), .mv (.tmp 18), none⟩, ⟨(some 101), .len false (.tmp 100), none⟩, ⟨(some 102), .bin .lss (.tmp 99) (.tmp 101), none⟩, ⟨(some 103), .mv (.tmp 102), none⟩, ⟨(some 104), .mv (.tmp 18), (some (103, true))⟩, ⟨(some 105), .mv (.tmp 20), (some (103, true))⟩, ⟨(some 106), .iaddrS 1 (.tmp 104) (.tmp 105), (some (103, true))⟩, ⟨(some 107), .load false 1 (.tmp 106), (some (103, true))⟩, ⟨(some 108), .bin .geq (.tmp 107) (.const (.int .i64 1)), (some (103, true))⟩, ⟨(some 109), .pick (.tmp 103) (.tmp 108) (.const (.bool false)), none⟩, ⟨(some 110), .mv (.tmp 109), none⟩, ⟨(some 111), .mv (.tmp 18), (some (110, true))⟩, ⟨(some 112), .mv (.tmp 20), (some (110, true))⟩, ⟨(some 113), .iaddrS 1 (.tmp 111) (.tmp 112), (some (110, true))⟩, ⟨(some 114), .load false 1 (.tmp 113), (some (110, true))⟩, ⟨(some 115), .mv (.tmp 7), (some (110, true))⟩, ⟨(some 116), .len false (.tmp 115), (some (110, true))⟩, ⟨(some 117), .bin .leq (.tmp 114) (.tmp 116), (some (110, true))⟩, ⟨(some 118), .pick (.tmp 110) (.tmp 117) (.const (.bool false)), none⟩, ⟨(some 119), .mv (.tmp 118), none⟩, ⟨(some 120), .mv (.tmp 7), (some (119, true))⟩, ⟨(some 121), .mv (.tmp 18), (some (119, true))⟩, ⟨(some 122), .mv (.tmp 20), (some (119, true))⟩, ⟨(some 123), .iaddrS 1 (.tmp 121) (.tmp 122), (some (119, true))⟩, ⟨(some 124), .load false 1 (.tmp 123), (some (119, true))⟩, ⟨(some 125), .bin .sub (.tmp 124) (.const (.int .i64 1)), (some (119, true))⟩, ⟨(some 126), .iaddrS 1 (.tmp 120) (.tmp 125), (some (119, true))⟩, ⟨(some 127), .load false 1 (.tmp 126), (some (119, true))⟩, ⟨(some 128), .mv (.tmp 6), (some (119, true))⟩, ⟨(some 129), .call (.func 25) [(.tmp 127), (.tmp 128)], (some (119, true))⟩, ⟨(some 130), .pick (.tmp 119) (.tmp 129) (.const (.bool false)), none⟩])
 (.cond (.tmp 130) .skip
 (.exit 4)))
 (.block 5 (.seq (.ops [⟨(some 131), .mv (.tmp 18), none⟩, ⟨(some 132), .mv (.tmp 20), none⟩, ⟨(some 133), .iaddrS 1 (.tmp 131) (.tmp 132), none⟩, ⟨(some 134), .load false 1 (.tmp 133), none⟩, ⟨(some 21), .mv (.tmp 134), none⟩])
 (.seq (.seq (.ops [⟨(some 135), .mv (.tmp 21), none⟩, ⟨(some 136), .mv (.tmp 10), none⟩, ⟨(some 137), .bin .gtr (.tmp 135) (.tmp 136), none⟩])
 (.cond (.tmp 137) (.ops [⟨(some 138), .mv (.tmp 21), none⟩, ⟨(some 139), .bin .add (.tmp 138) (.const (.int .i64 1)), none⟩, ⟨(some 21), .mv (.tmp 139), none⟩])
 .skip))
 (.seq (.seq (.ops [⟨(some 140), .mv (.tmp 20), none⟩, ⟨(some 141), .mv (.tmp 19), none⟩, ⟨(some 142), .len false (.tmp 141), none⟩, ⟨(some 143), .bin .geq (.tmp 140) (.tmp 142), none⟩, ⟨(some 144), .mv (.tmp 143), none⟩, ⟨(some 145), .mv (.tmp 19), (some (144, false))⟩, ⟨(some 146), .mv (.tmp 20), (some (144, false))⟩, ⟨(some 147), .iaddrS 1 (.tmp 145) (.tmp 146), (some (144, false))⟩, ⟨(some 148), .load false 1 (.tmp 147), (some (144, false))⟩, ⟨(some 149), .mv (.tmp 21), (some (144, false))⟩, ⟨(some 150), .bin .neq (.tmp 148) (.tmp 149), (some (144, false))⟩, ⟨(some 151), .pick (.tmp 144) (.const (.bool true)) (.tmp 150), none⟩])
 (.cond (.tmp 151) (.seq (.ops [⟨(some 4), .mv (.const (.bool false)), none⟩])
 .ret)
 .skip))
 (.ops [⟨(some 152), .mv (.tmp 20), none⟩, ⟨(some 153), .bin .add (.tmp 152) (.const (.int .i64 1)), none⟩, ⟨(some 20), .mv (.tmp 153), none⟩]))))))))
 (.seq (.ops [⟨(some 154), .mv (.tmp 5), none⟩, ⟨(some 155), .mv (.tmp 154), none⟩, ⟨(some 156), .mv (.tmp 19), (some (155, true))⟩, ⟨(some 157), .len false (.tmp 156), (some (155, true))⟩, ⟨(some 158), .mv (.tmp 20), (some (155, true))⟩, ⟨(some 159), .bin .add (.tmp 158) (.const (.int .i64 1)), (some (155, true))⟩, ⟨(some 160), .bin .eql (.tmp 157) (.tmp 159), (some (155, true))⟩, ⟨(some 161), .pick (.tmp 155) (.tmp 160) (.const (.bool false)), none⟩, ⟨(some 162), .mv (.tmp 161), none⟩, ⟨(some 163), .mv (.tmp 19), (some (162, true))⟩, ⟨(some 164), .mv (.tmp 20), (some (162, true))⟩, ⟨(some 165), .iaddrS 1 (.tmp 163) (.tmp 164), (some (162, true))⟩, ⟨(some 166), .load false 1 (.tmp 165), (some (162, true))⟩, ⟨(some 167), .mv (.tmp 10), (some (162, true))⟩, ⟨(some 168), .bin .add (.tmp 167) (.const (.int .i64 1)), (some (162, true))⟩, ⟨(some 169), .bin .eql (.tmp 166) (.tmp 168), (some (162, true))⟩, ⟨(some 170), .pick (.tmp 162) (.tmp 169) (.const (.bool false)), none⟩, ⟨(some 4), .mv (.tmp 170), none⟩])
 .ret))))))))))))))))),
 171, [.tmp 4]⟩
theorem low7 : lowerFn Tryd.prog Tryd.f7 = some L7 := by kernel_rfl
noncomputable def G7 (B : OH) : Nat → Cs
  | 8 => V8 B
  | 9 => V9 B
  | 10 => V10 B
  | 15 => V15 B
  | 21 => V21 B
  | 25 => V25 B
  | _ => fun _ _ _ => none
theorem G7_8 {B : OH} : G7 B 8 = V8 B := rfl
theorem G7_9 {B : OH} : G7 B 9 = V9 B := rfl
theorem G7_10 {B : OH} : G7 B 10 = V10 B := rfl
theorem G7_15 {B : OH} : G7 B 15 = V15 B := rfl
theorem G7_21 {B : OH} : G7 B 21 = V21 B := rfl
theorem G7_25 {B : OH} : G7 B 25 = V25 B := rfl
theorem sG7 {w0 : World} {B : OH} : SoundG Tryd.prog w0 B { f := G7 B } := .of fun k => by
  unfold G7
  split
  · exact .inr ⟨en8, sV8⟩
  · exact .inr ⟨en9, sV9⟩
  · exact .inr ⟨en10, sV10⟩
  · exact .inr ⟨en15, sV15⟩
  · exact .inr ⟨en21, sV21⟩
  · exact .inr ⟨en25, sV25⟩
  · exact .inl fun _ _ _ => rfl
theorem en7 : Enter Tryd.prog 7 := .of Tryd.func7 (by kernel_rfl) (by kernel_rfl)
noncomputable def T7 (B : OH) : Cs := callF B { f := G7 B } 1300 L7
theorem sT7 {w0 : World} {B : OH} : SoundC Tryd.prog w0 B 7 (T7 B) := callF_sound mixedOrders sG7 1300 Tryd.func7 low7
structure K7a (q : Int) (vk va : Value) (j : Nat) (ts : List Value) : Prop where
  l : ts.length = 171
  t5 : gt ts 5 = .bool true
  t6 : gt ts 6 = .int .u64 q
  t7 : gt ts 7 = vk
  t8 : gt ts 8 = va
  t9 : gt ts 9 = .int .i64 (j : Int)
structure K7c (q : Int) (vk : Value) (p : Nat) (ts : List Value) : Prop where
  l : ts.length = 171
  t5 : gt ts 5 = .bool true
  t6 : gt ts 6 = .int .u64 q
  t7 : gt ts 7 = vk
  t10 : gt ts 10 = .int .i64 (p : Int)
structure K7d (q : Int) (vk vp vr : Value) (p i : Nat) (ts : List Value) : Prop where
  l : ts.length = 171
  t5 : gt ts 5 = .bool true
  t6 : gt ts 6 = .int .u64 q
  t7 : gt ts 7 = vk
  t10 : gt ts 10 = .int .i64 (p : Int)
  t18 : gt ts 18 = vp
  t19 : gt ts 19 = vr
  t20 : gt ts 20 = .int .i64 (i : Int)
def lb7a : LC := (.seq (.seq (.ops [⟨(some 27), .mv (.tmp 9), none⟩, ⟨(some 28), .mv (.tmp 8), none⟩, ⟨(some 29), .len false (.tmp 28), none⟩, ⟨(some 30), .bin .lss (.tmp 27) (.tmp 29), none⟩])
 (.cond (.tmp 30) .skip
 (.exit 0)))
 (.seq (.block 1 (.seq (.ops [⟨(some 33), .mv (.tmp 8), none⟩, ⟨(some 34), .mv (.tmp 9), none⟩, ⟨(some 35), .iaddrS 1 (.tmp 33) (.tmp 34), none⟩, ⟨(some 36), .load false 1 (.tmp 35), none⟩, ⟨(some 37), .mv (.tmp 6), none⟩, ⟨(some 38), .bin .neq (.tmp 36) (.tmp 37), none⟩])
 (.cond (.tmp 38) (.ops [⟨(some 39), .mv (.tmp 7), none⟩, ⟨(some 40), .mv (.tmp 8), none⟩, ⟨(some 41), .mv (.tmp 9), none⟩, ⟨(some 42), .iaddrS 1 (.tmp 40) (.tmp 41), none⟩, ⟨(some 43), .load false 1 (.tmp 42), none⟩, ⟨(some 44), .buildS [(.int .u64 0)] 1 [(0, 1, (.tmp 43))], none⟩, ⟨(some 45), .app [(.int .u64 0)] 8 (.tmp 39) (.tmp 44), none⟩, ⟨(some 7), .mv (.tmp 45), none⟩])
 .skip)))
 (.ops [⟨(some 31), .mv (.tmp 9), none⟩, ⟨(some 32), .bin .add (.tmp 31) (.const (.int .i64 1)), none⟩, ⟨(some 9), .mv (.tmp 32), none⟩])))
def lb7c : LC := (.seq (.seq (.ops [⟨(some 46), .mv (.tmp 10), none⟩, ⟨(some 47), .mv (.tmp 7), none⟩, ⟨(some 48), .len false (.tmp 47), none⟩, ⟨(some 49), .bin .lss (.tmp 46) (.tmp 48), none⟩, ⟨(some 50), .mv (.tmp 49), none⟩, ⟨(some 51), .mv (.tmp 7), (some (50, true))⟩, ⟨(some 52), .mv (.tmp 10), (some (50, true))⟩, ⟨(some 53), .iaddrS 1 (.tmp 51) (.tmp 52), (some (50, true))⟩, ⟨(some 54), .load false 1 (.tmp 53), (some (50, true))⟩, ⟨(some 55), .mv (.tmp 6), (some (50, true))⟩, ⟨(some 56), .bin .lss (.tmp 54) (.tmp 55), (some (50, true))⟩, ⟨(some 57), .pick (.tmp 50) (.tmp 56) (.const (.bool false)), none⟩])
 (.cond (.tmp 57) .skip
 (.exit 2)))
 (.block 3 (.ops [⟨(some 58), .mv (.tmp 10), none⟩, ⟨(some 59), .bin .add (.tmp 58) (.const (.int .i64 1)), none⟩, ⟨(some 10), .mv (.tmp 59), none⟩])))
def lb7d : LC := (.seq (.seq (.ops [⟨(some 99), .mv (.tmp 20), none⟩, ⟨(some 100), .mv (.tmp 18), none⟩, ⟨(some 101), .len false (.tmp 100), none⟩, ⟨(some 102), .bin .lss (.tmp 99) (.tmp 101), none⟩, ⟨(some 103), .mv (.tmp 102), none⟩, ⟨(some 104), .mv (.tmp 18), (some (103, true))⟩, ⟨(some 105), .mv (.tmp 20), (some (103, true))⟩, ⟨(some 106), .iaddrS 1 (.tmp 104) (.tmp 105), (some (103, true))⟩, ⟨(some 107), .load false 1 (.tmp 106), (some (103, true))⟩, ⟨(some 108), .bin .geq (.tmp 107) (.const (.int .i64 1)), (some (103, true))⟩, ⟨(some 109), .pick (.tmp 103) (.tmp 108) (.const (.bool false)), none⟩, ⟨(some 110), .mv (.tmp 109), none⟩, ⟨(some 111), .mv (.tmp 18), (some (110, true))⟩, ⟨(some 112), .mv (.tmp 20), (some (110, true))⟩, ⟨(some 113), .iaddrS 1 (.tmp 111) (.tmp 112), (some (110, true))⟩, ⟨(some 114), .load false 1 (.tmp 113), (some (110, true))⟩, ⟨(some 115), .mv (.tmp 7), (some (110, true))⟩, ⟨(some 116), .len false (.tmp 115), (some (110, true))⟩, ⟨(some 117), .bin .leq (.tmp 114) (.tmp 116), (some (110, true))⟩, ⟨(some 118), .pick (.tmp 110) (.tmp 117) (.const (.bool false)), none⟩, ⟨(some 119), .mv (.tmp 118), none⟩, ⟨(some 120), .mv (.tmp 7), (some (119, true))⟩, ⟨(some 121), .mv (.tmp 18), (some (119, true))⟩, ⟨(some 122), .mv (.tmp 20), (some (119, true))⟩, ⟨(some 123), .iaddrS 1 (.tmp 121) (.tmp 122), (some (119, true))⟩, ⟨(some 124), .load false 1 (.tmp 123), (some (119, true))⟩, ⟨(some 125), .bin .sub (.tmp 124) (.const (.int .i64 1)), (some (119, true))⟩, ⟨(some 126), .iaddrS 1 (.tmp 120) (.tmp 125), (some (119, true))⟩, ⟨(some 127), .load false 1 (.tmp 126), (some (119, true))⟩, ⟨(some 128), .mv (.tmp 6), (some (119, true))⟩, ⟨(some 129), .call (.func 25) [(.tmp 127), (.tmp 128)], (some (119, true))⟩, ⟨(some 130), .pick (.tmp 119) (.tmp 129) (.const (.bool false)), none⟩])
 (.cond (.tmp 130) .skip
 (.exit 4)))
 (.block 5 (.seq (.ops [⟨(some 131), .mv (.tmp 18), none⟩, ⟨(some 132), .mv (.tmp 20), none⟩, ⟨(some 133), .iaddrS 1 (.tmp 131) (.tmp 132), none⟩, ⟨(some 134), .load false 1 (.tmp 133), none⟩, ⟨(some 21), .mv (.tmp 134), none⟩])
 (.seq (.seq (.ops [⟨(some 135), .mv (.tmp 21), none⟩, ⟨(some 136), .mv (.tmp 10), none⟩, ⟨(some 137), .bin .gtr (.tmp 135) (.tmp 136), none⟩])
 (.cond (.tmp 137) (.ops [⟨(some 138), .mv (.tmp 21), none⟩, ⟨(some 139), .bin .add (.tmp 138) (.const (.int .i64 1)), none⟩, ⟨(some 21), .mv (.tmp 139), none⟩])
 .skip))
 (.seq (.seq (.ops [⟨(some 140), .mv (.tmp 20), none⟩, ⟨(some 141), .mv (.tmp 19), none⟩, ⟨(some 142), .len false (.tmp 141), none⟩, ⟨(some 143), .bin .geq (.tmp 140) (.tmp 142), none⟩, ⟨(some 144), .mv (.tmp 143), none⟩, ⟨(some 145), .mv (.tmp 19), (some (144, false))⟩, ⟨(some 146), .mv (.tmp 20), (some (144, false))⟩, ⟨(some 147), .iaddrS 1 (.tmp 145) (.tmp 146), (some (144, false))⟩, ⟨(some 148), .load false 1 (.tmp 147), (some (144, false))⟩, ⟨(some 149), .mv (.tmp 21), (some (144, false))⟩, ⟨(some 150), .bin .neq (.tmp 148) (.tmp 149), (some (144, false))⟩, ⟨(some 151), .pick (.tmp 144) (.const (.bool true)) (.tmp 150), none⟩])
 (.cond (.tmp 151) (.seq (.ops [⟨(some 4), .mv (.const (.bool false)), none⟩])
 .ret)
 .skip))
 (.ops [⟨(some 152), .mv (.tmp 20), none⟩, ⟨(some 153), .bin .add (.tmp 152) (.const (.int .i64 1)), none⟩, ⟨(some 20), .mv (.tmp 153), none⟩]))))))
set_option maxHeartbeats 8000000 in
theorem loop7a {B : OH} {H : HL} {N : St} {va : Value} {q : Int} {A : List Int} (hv : SlR w1 1 B H va A) (hAl : A.length ≤ 20) (hN : good B H N) {ts : List Value} (kp : K7a q (.slice none 0 0) va 0 ts) {F : Nat} (hF : 100 + A.length + 1 ≤ F) :
    Ok (exec B { f := G7 B } F (LC.loop lb7a) ⟨ts, H, N⟩) (fun x s => x = .exit 0 ∧ good B s.H s.N ∧ Fr H s.H ∧ ∃ vk, SlM w1 1 B H s.H vk (wo A q A.length) ∧ K7a q vk va A.length s.t) := by
  have hlv := hv.len
  refine loop_rule (n0 := 100) (fun p s => ∃ ts H' N' vk, ∃ j : Nat, s = ⟨ts, H', N'⟩ ∧ K7a q vk va j ts ∧ good B H' N' ∧ Fr H H' ∧ SlM w1 1 B H H' vk (wo A q j) ∧ j ≤ A.length ∧ p = A.length - j) _ ?_ _ _ ⟨ts, H, N, _, 0, rfl, kp, hN, Fr.refl, .inl ⟨rfl, rfl⟩, by omega, rfl⟩ _ hF
  clear kp hF F hN ts N
  rintro z p s ⟨ts, H1, N1, vk, j, rfl, kp, g, fr, so, hj, rfl⟩
  have hB := good_B g
  have hR := good_rdB g
  have hI := beqN g.1.1
  have hc1 : ((j + 1 : Nat) : Int) = (j : Int) + 1 := by omega
  have j0 : (0 : Int) ≤ (j : Int) := by omega
  by_cases hin : j < A.length
  case neg =>
    obtain rfl : j = A.length := by omega
    simp -implicitDefEqProofs (maxSteps := 10000000) (disch := omega) only [T7, L7, G7_8, G7_9, G7_10, G7_15, V15_eq, G7_21, G7_25, V25_eq, hB, hR, hI, lb7a, kp.l, kp.t5, kp.t6, kp.t7, kp.t8, kp.t9, lenV_sl, Int.toNat_natCast, bft, btf, gtst, st_len, hlv, Int.lt_irrefl, pad, e_skip, e_ops, e_draw, e_fork, shg_n, shg_c, shg_g, shg_r, d_none, d_nil, d_cons, d_ite, h_none, h_nil, h_cons, h_ite, eqS_same, lightV, e_seq, e_cond, e_block, e_exit, e_ret, s_normal, s_ret, s_exit, s_none, s_ite, b_normal, b_ret, b_exit, b_none, b_ite, c_bool, x_none, x_nil, x_cons, x_ite, p_some, p_none, p_ite, pt_some, pt_none, pv_some, pv_none, pv_ite, w_none, w_some, i_bool, i_undef, bt, bf, v_tmp, v_const, v_global, v_func, evs, f_normal, f_ret, f_none, f_ite, r_some, co_some, l_ptr, m_agg, m_one, sh_app, lk_nil, lk_cons, rd_eq, rdO_some, rdO_none, rdN_none, rdL_some, rdL_none, wrB_none, unitR_some, wr_nil, wr_here, wr_skip, k_cells, tk_zero, tk_take, tk_skip, tkC_some, call_func, gt, st, binV, arith, isSh, storeV, all1, idxAV, fieldV, faddrV, iaddrSV, iaddrAV, pickV, convV, unV, eqbV, eqpV, extV, mm2, mmV, nilckV, ress, res1, retV, Value.cells, cond_true, cond_false, Bool.true_or, Bool.false_or, Bool.or_true, Bool.or_false, beq_self_eq_true, if_true, if_false, ite_true, ite_false, decide_true, decide_false, decide_eq_true_eq, reduceIte, Nat.zero_add, Nat.add_zero, and_self, true_and, and_true, List.size_toArray, List.length_cons, List.length_nil, List.append_nil, List.nil_append, Int.toNat_zero, Bool.not_false, Bool.not_true, Bool.not_not, Bool.false_eq_true, Bool.true_eq_false, reduceCtorEq, Int.reduceLT, Int.reduceLE, Int.reduceToNat, Int.reduceAdd, Int.reduceSub, Int.reduceMul, Int.reduceNeg, Nat.reduceMul, Nat.reduceAdd, Nat.reduceSub, Nat.reduceBEq, Nat.reduceEqDiff, Nat.reduceLT, Nat.reduceLeDiff, Int.reduceBEq, Int.reduceEq, Nat.reducePow, Int.reducePow, IntWalk.i64_in, IntKind.bits, eqAV, eqL, leafEq, andO, fillV, buildSV, List.getElem?_toArray, List.getElem?_cons_zero, List.getElem?_cons_succ, List.getElem?_nil, Int.reduceGT, Int.reduceGE, Int.reduceBNe, Bool.true_and, Bool.and_true, Bool.false_and, Bool.and_false, Bool.and_self, IntWalk.u64_in, Int.cast_ofNat_Int, callF1, pad16, pad_0, pad_1, pad_2, pad_3, pad_4, pad_5, pad_6, pad_7, pad_8, pad_9, pad_10, pad_11, pad_12, pad_13, pad_14, pad_15, gc0, gc1, gc2, gc3, gc4, gc5, gc6, gc7, gc8, gc9, gc10, gc11, gc12, gc13, gc14, gc15, gcS, sc0, sc1, sc2, sc3, sc4, sc5, sc6, sc7, sc8, sc9, sc10, sc11, sc12, sc13, sc14, sc15, scS, List.drop_succ_cons, List.drop_nil, x_pan, s_pan, b_pan, pE_ret, pE_pan, pE_none, pE_ite, pvE_some, pvE_none, pvE_ite, rv_some, rv_none, rv_ite, oR_ret, t_mv, t_pick, t_alloc, t_box, t_build, t_buildS, t_load, t_store, t_nilck, t_bin, t_eqb, t_eqA, t_eqp, t_un, t_conv, t_field, t_idxA, t_faddr, t_iaddrS, t_iaddrA, t_ext, t_len, t_mm, t_call, t_ifc, t_fn, t_slc, t_slcA, t_slcT, t_tass, t_isn, t_mks, t_app, t_pan, panE_i, optE_none, optE_some, bnd_none, bnd_int, slA_none, slA_some, appR_some, appOld_cells, newsV_s, newsV_n, lenS_s, appV_nil, appV_some, mksV_i, sh_c, sh_g, f_pan, endD_ret, dfr_normal, dfr_ret, dfr_pan, restD_normal, callD1, callC1, tassV, isnV, slcV, slcAV, slcTV, slcB, appNew, Option.bind_some, Option.bind_none, d_pan, h_pan, wrH_eq, wrX_cells, wrU_some, upH_nil, upH_cons, lk_upH, effR_some, effR_none, effR_ite, Option.isNone_none, Option.isNone_some, slA_zero, call_yield, e_range, it_func, wy_same, y_call, isLp_self, beg_normal, end_normal, end_ret, end_exit, end_ite, aft_ret, aft_ready, aft_done, aft_exit, setP_cons, setP_nil, sh_r, t_mkmap, t_mlook, t_mupd, t_mdel, mapF_some, lookF_some, setM_some, lookR_t, lookR_n, lookR_f, lookR_fn, lookV, mupdV, mdelV, mkM]
    refine ok_some (.inr ⟨by simp, rfl, g, fr, vk, so, ⟨?_, ?_, ?_, ?_, ?_, ?_⟩⟩)
    all_goals simp (maxSteps := 10000000) (disch := omega) only [kp.l, kp.t5, kp.t6, kp.t7, kp.t8, kp.t9, lenV_sl, Int.toNat_natCast, bft, btf, gtst, st_len, cond_true, cond_false, Nat.reduceBEq, Nat.reduceLT, decide_true, beq_self_eq_true, if_true, if_false]
  have hin' : (j : Int) < (A.length : Int) := by omega
  obtain ⟨bv, ov, cv, rfl, _, rv⟩ := hv.at (by omega)
  have rk : rdO H1 B bv (ov + j) 1 (rdB B bv (ov + j) 1) = some [.int .u64 (A.getD j 0)] := by
    have := rv H1 fr j 0 1 0 hin (by omega)
    rw [Nat.mul_one, Nat.add_zero] at this
    exact this.trans rfl
  have hwo := wo_succ A q j hin
  have hwl := wo_len A q j
  generalize A.getD j 0 = x at rk hwo
  generalize wo A q j = O at so hwo hwl
  by_cases he : x = q
  · rw [if_neg (fun h => h he)] at hwo
    subst he
    simp -implicitDefEqProofs (maxSteps := 10000000) (disch := omega) only [T7, L7, G7_8, G7_9, G7_10, G7_15, V15_eq, G7_21, G7_25, V25_eq, hB, hR, hI, lb7a, kp.l, kp.t5, kp.t6, kp.t7, kp.t8, kp.t9, lenV_sl, Int.toNat_natCast, bft, btf, gtst, st_len, hlv, hin, hin', j0, rk, Nat.mul_one, bne_self_eq_false, pad, e_skip, e_ops, e_draw, e_fork, shg_n, shg_c, shg_g, shg_r, d_none, d_nil, d_cons, d_ite, h_none, h_nil, h_cons, h_ite, eqS_same, lightV, e_seq, e_cond, e_block, e_exit, e_ret, s_normal, s_ret, s_exit, s_none, s_ite, b_normal, b_ret, b_exit, b_none, b_ite, c_bool, x_none, x_nil, x_cons, x_ite, p_some, p_none, p_ite, pt_some, pt_none, pv_some, pv_none, pv_ite, w_none, w_some, i_bool, i_undef, bt, bf, v_tmp, v_const, v_global, v_func, evs, f_normal, f_ret, f_none, f_ite, r_some, co_some, l_ptr, m_agg, m_one, sh_app, lk_nil, lk_cons, rd_eq, rdO_some, rdO_none, rdN_none, rdL_some, rdL_none, wrB_none, unitR_some, wr_nil, wr_here, wr_skip, k_cells, tk_zero, tk_take, tk_skip, tkC_some, call_func, gt, st, binV, arith, isSh, storeV, all1, idxAV, fieldV, faddrV, iaddrSV, iaddrAV, pickV, convV, unV, eqbV, eqpV, extV, mm2, mmV, nilckV, ress, res1, retV, Value.cells, cond_true, cond_false, Bool.true_or, Bool.false_or, Bool.or_true, Bool.or_false, beq_self_eq_true, if_true, if_false, ite_true, ite_false, decide_true, decide_false, decide_eq_true_eq, reduceIte, Nat.zero_add, Nat.add_zero, and_self, true_and, and_true, List.size_toArray, List.length_cons, List.length_nil, List.append_nil, List.nil_append, Int.toNat_zero, Bool.not_false, Bool.not_true, Bool.not_not, Bool.false_eq_true, Bool.true_eq_false, reduceCtorEq, Int.reduceLT, Int.reduceLE, Int.reduceToNat, Int.reduceAdd, Int.reduceSub, Int.reduceMul, Int.reduceNeg, Nat.reduceMul, Nat.reduceAdd, Nat.reduceSub, Nat.reduceBEq, Nat.reduceEqDiff, Nat.reduceLT, Nat.reduceLeDiff, Int.reduceBEq, Int.reduceEq, Nat.reducePow, Int.reducePow, IntWalk.i64_in, IntKind.bits, eqAV, eqL, leafEq, andO, fillV, buildSV, List.getElem?_toArray, List.getElem?_cons_zero, List.getElem?_cons_succ, List.getElem?_nil, Int.reduceGT, Int.reduceGE, Int.reduceBNe, Bool.true_and, Bool.and_true, Bool.false_and, Bool.and_false, Bool.and_self, IntWalk.u64_in, Int.cast_ofNat_Int, callF1, pad16, pad_0, pad_1, pad_2, pad_3, pad_4, pad_5, pad_6, pad_7, pad_8, pad_9, pad_10, pad_11, pad_12, pad_13, pad_14, pad_15, gc0, gc1, gc2, gc3, gc4, gc5, gc6, gc7, gc8, gc9, gc10, gc11, gc12, gc13, gc14, gc15, gcS, sc0, sc1, sc2, sc3, sc4, sc5, sc6, sc7, sc8, sc9, sc10, sc11, sc12, sc13, sc14, sc15, scS, List.drop_succ_cons, List.drop_nil, x_pan, s_pan, b_pan, pE_ret, pE_pan, pE_none, pE_ite, pvE_some, pvE_none, pvE_ite, rv_some, rv_none, rv_ite, oR_ret, t_mv, t_pick, t_alloc, t_box, t_build, t_buildS, t_load, t_store, t_nilck, t_bin, t_eqb, t_eqA, t_eqp, t_un, t_conv, t_field, t_idxA, t_faddr, t_iaddrS, t_iaddrA, t_ext, t_len, t_mm, t_call, t_ifc, t_fn, t_slc, t_slcA, t_slcT, t_tass, t_isn, t_mks, t_app, t_pan, panE_i, optE_none, optE_some, bnd_none, bnd_int, slA_none, slA_some, appR_some, appOld_cells, newsV_s, newsV_n, lenS_s, appV_nil, appV_some, mksV_i, sh_c, sh_g, f_pan, endD_ret, dfr_normal, dfr_ret, dfr_pan, restD_normal, callD1, callC1, tassV, isnV, slcV, slcAV, slcTV, slcB, appNew, Option.bind_some, Option.bind_none, d_pan, h_pan, wrH_eq, wrX_cells, wrU_some, upH_nil, upH_cons, lk_upH, effR_some, effR_none, effR_ite, Option.isNone_none, Option.isNone_some, slA_zero, call_yield, e_range, it_func, wy_same, y_call, isLp_self, beg_normal, end_normal, end_ret, end_exit, end_ite, aft_ret, aft_ready, aft_done, aft_exit, setP_cons, setP_nil, sh_r, t_mkmap, t_mlook, t_mupd, t_mdel, mapF_some, lookF_some, setM_some, lookR_t, lookR_n, lookR_f, lookR_fn, lookV, mupdV, mdelV, mkM]
    refine ok_some (.inl ⟨rfl, A.length - (j + 1), by omega, _, H1, N1, vk, j + 1, rfl, ⟨?_, ?_, ?_, ?_, ?_, ?_⟩, g, fr, by rw [hwo]; exact so, by omega, rfl⟩)
    all_goals simp (maxSteps := 10000000) (disch := omega) only [kp.l, kp.t5, kp.t6, kp.t7, kp.t8, kp.t9, lenV_sl, Int.toNat_natCast, bft, btf, gtst, st_len, hc1, cond_true, cond_false, Nat.reduceBEq, Nat.reduceLT, decide_true, beq_self_eq_true, if_true, if_false]
  · rw [if_pos he] at hwo
    have hne : (x != q) = true := by simpa using he
    obtain ⟨v4, H4, N4, hap, g4, fr4, _, s4, _⟩ := push_specM w1_len (bytes := 8) g fr so x rfl (by omega) (by omega)
    simp only [w1] at hap
    simp -implicitDefEqProofs (maxSteps := 10000000) (disch := omega) only [T7, L7, G7_8, G7_9, G7_10, G7_15, V15_eq, G7_21, G7_25, V25_eq, hB, hR, hI, lb7a, kp.l, kp.t5, kp.t6, kp.t7, kp.t8, kp.t9, lenV_sl, Int.toNat_natCast, bft, btf, gtst, st_len, hlv, hin, hin', j0, rk, Nat.mul_one, hne, hap, pad, e_skip, e_ops, e_draw, e_fork, shg_n, shg_c, shg_g, shg_r, d_none, d_nil, d_cons, d_ite, h_none, h_nil, h_cons, h_ite, eqS_same, lightV, e_seq, e_cond, e_block, e_exit, e_ret, s_normal, s_ret, s_exit, s_none, s_ite, b_normal, b_ret, b_exit, b_none, b_ite, c_bool, x_none, x_nil, x_cons, x_ite, p_some, p_none, p_ite, pt_some, pt_none, pv_some, pv_none, pv_ite, w_none, w_some, i_bool, i_undef, bt, bf, v_tmp, v_const, v_global, v_func, evs, f_normal, f_ret, f_none, f_ite, r_some, co_some, l_ptr, m_agg, m_one, sh_app, lk_nil, lk_cons, rd_eq, rdO_some, rdO_none, rdN_none, rdL_some, rdL_none, wrB_none, unitR_some, wr_nil, wr_here, wr_skip, k_cells, tk_zero, tk_take, tk_skip, tkC_some, call_func, gt, st, binV, arith, isSh, storeV, all1, idxAV, fieldV, faddrV, iaddrSV, iaddrAV, pickV, convV, unV, eqbV, eqpV, extV, mm2, mmV, nilckV, ress, res1, retV, Value.cells, cond_true, cond_false, Bool.true_or, Bool.false_or, Bool.or_true, Bool.or_false, beq_self_eq_true, if_true, if_false, ite_true, ite_false, decide_true, decide_false, decide_eq_true_eq, reduceIte, Nat.zero_add, Nat.add_zero, and_self, true_and, and_true, List.size_toArray, List.length_cons, List.length_nil, List.append_nil, List.nil_append, Int.toNat_zero, Bool.not_false, Bool.not_true, Bool.not_not, Bool.false_eq_true, Bool.true_eq_false, reduceCtorEq, Int.reduceLT, Int.reduceLE, Int.reduceToNat, Int.reduceAdd, Int.reduceSub, Int.reduceMul, Int.reduceNeg, Nat.reduceMul, Nat.reduceAdd, Nat.reduceSub, Nat.reduceBEq, Nat.reduceEqDiff, Nat.reduceLT, Nat.reduceLeDiff, Int.reduceBEq, Int.reduceEq, Nat.reducePow, Int.reducePow, IntWalk.i64_in, IntKind.bits, eqAV, eqL, leafEq, andO, fillV, buildSV, List.getElem?_toArray, List.getElem?_cons_zero, List.getElem?_cons_succ, List.getElem?_nil, Int.reduceGT, Int.reduceGE, Int.reduceBNe, Bool.true_and, Bool.and_true, Bool.false_and, Bool.and_false, Bool.and_self, IntWalk.u64_in, Int.cast_ofNat_Int, callF1, pad16, pad_0, pad_1, pad_2, pad_3, pad_4, pad_5, pad_6, pad_7, pad_8, pad_9, pad_10, pad_11, pad_12, pad_13, pad_14, pad_15, gc0, gc1, gc2, gc3, gc4, gc5, gc6, gc7, gc8, gc9, gc10, gc11, gc12, gc13, gc14, gc15, gcS, sc0, sc1, sc2, sc3, sc4, sc5, sc6, sc7, sc8, sc9, sc10, sc11, sc12, sc13, sc14, sc15, scS, List.drop_succ_cons, List.drop_nil, x_pan, s_pan, b_pan, pE_ret, pE_pan, pE_none, pE_ite, pvE_some, pvE_none, pvE_ite, rv_some, rv_none, rv_ite, oR_ret, t_mv, t_pick, t_alloc, t_box, t_build, t_buildS, t_load, t_store, t_nilck, t_bin, t_eqb, t_eqA, t_eqp, t_un, t_conv, t_field, t_idxA, t_faddr, t_iaddrS, t_iaddrA, t_ext, t_len, t_mm, t_call, t_ifc, t_fn, t_slc, t_slcA, t_slcT, t_tass, t_isn, t_mks, t_app, t_pan, panE_i, optE_none, optE_some, bnd_none, bnd_int, slA_none, slA_some, appR_some, appOld_cells, newsV_s, newsV_n, lenS_s, appV_nil, appV_some, mksV_i, sh_c, sh_g, f_pan, endD_ret, dfr_normal, dfr_ret, dfr_pan, restD_normal, callD1, callC1, tassV, isnV, slcV, slcAV, slcTV, slcB, appNew, Option.bind_some, Option.bind_none, d_pan, h_pan, wrH_eq, wrX_cells, wrU_some, upH_nil, upH_cons, lk_upH, effR_some, effR_none, effR_ite, Option.isNone_none, Option.isNone_some, slA_zero, call_yield, e_range, it_func, wy_same, y_call, isLp_self, beg_normal, end_normal, end_ret, end_exit, end_ite, aft_ret, aft_ready, aft_done, aft_exit, setP_cons, setP_nil, sh_r, t_mkmap, t_mlook, t_mupd, t_mdel, mapF_some, lookF_some, setM_some, lookR_t, lookR_n, lookR_f, lookR_fn, lookV, mupdV, mdelV, mkM]
    refine ok_some (.inl ⟨rfl, A.length - (j + 1), by omega, _, H4, N4, v4, j + 1, rfl, ⟨?_, ?_, ?_, ?_, ?_, ?_⟩, g4, fr4, by rw [hwo]; exact s4.toM, by omega, rfl⟩)
    all_goals simp (maxSteps := 10000000) (disch := omega) only [kp.l, kp.t5, kp.t6, kp.t7, kp.t8, kp.t9, lenV_sl, Int.toNat_natCast, bft, btf, gtst, st_len, hc1, cond_true, cond_false, Nat.reduceBEq, Nat.reduceLT, decide_true, beq_self_eq_true, if_true, if_false]
set_option maxHeartbeats 8000000 in
theorem loop7c {B : OH} {H : HL} {N : St} {vk : Value} {q : Int} {K : List Int} (hv : SlR w1 1 B H vk K) (hKl : K.length ≤ 20) (hN : good B H N) {ts : List Value} (kp : K7c q vk 0 ts) {F : Nat} (hF : 100 + K.length + 1 ≤ F) :
    Ok (exec B { f := G7 B } F (LC.loop lb7c) ⟨ts, H, N⟩) (fun x s => x = .exit 2 ∧ s.H = H ∧ s.N = N ∧ ∃ p, p ≤ K.length ∧ (∀ j, j < p → K.getD j 0 < q) ∧ (p < K.length → K.getD p 0 ≥ q) ∧ K7c q vk p s.t) := by
  have hB := good_B hN
  have hR := good_rdB hN
  have hI := beqN hN.1.1
  have hlv := hv.len
  refine loop_rule (n0 := 100) (fun m s => ∃ ts, ∃ p : Nat, s = ⟨ts, H, N⟩ ∧ K7c q vk p ts ∧ (∀ j, j < p → K.getD j 0 < q) ∧ p ≤ K.length ∧ m = K.length - p) _ ?_ _ _ ⟨ts, 0, rfl, kp, fun j hj => by omega, by omega, rfl⟩ _ hF
  clear kp hF F ts
  rintro z m s ⟨ts, p, rfl, kp, hlo, hp, rfl⟩
  have hc1 : ((p + 1 : Nat) : Int) = (p : Int) + 1 := by omega
  have p0 : (0 : Int) ≤ (p : Int) := by omega
  by_cases hin : p < K.length
  case neg =>
    obtain rfl : p = K.length := by omega
    simp -implicitDefEqProofs (maxSteps := 10000000) (disch := omega) only [T7, L7, G7_8, G7_9, G7_10, G7_15, V15_eq, G7_21, G7_25, V25_eq, hB, hR, hI, lb7c, kp.l, kp.t5, kp.t6, kp.t7, kp.t10, lenV_sl, Int.toNat_natCast, bft, btf, gtst, st_len, hlv, Int.lt_irrefl, pad, e_skip, e_ops, e_draw, e_fork, shg_n, shg_c, shg_g, shg_r, d_none, d_nil, d_cons, d_ite, h_none, h_nil, h_cons, h_ite, eqS_same, lightV, e_seq, e_cond, e_block, e_exit, e_ret, s_normal, s_ret, s_exit, s_none, s_ite, b_normal, b_ret, b_exit, b_none, b_ite, c_bool, x_none, x_nil, x_cons, x_ite, p_some, p_none, p_ite, pt_some, pt_none, pv_some, pv_none, pv_ite, w_none, w_some, i_bool, i_undef, bt, bf, v_tmp, v_const, v_global, v_func, evs, f_normal, f_ret, f_none, f_ite, r_some, co_some, l_ptr, m_agg, m_one, sh_app, lk_nil, lk_cons, rd_eq, rdO_some, rdO_none, rdN_none, rdL_some, rdL_none, wrB_none, unitR_some, wr_nil, wr_here, wr_skip, k_cells, tk_zero, tk_take, tk_skip, tkC_some, call_func, gt, st, binV, arith, isSh, storeV, all1, idxAV, fieldV, faddrV, iaddrSV, iaddrAV, pickV, convV, unV, eqbV, eqpV, extV, mm2, mmV, nilckV, ress, res1, retV, Value.cells, cond_true, cond_false, Bool.true_or, Bool.false_or, Bool.or_true, Bool.or_false, beq_self_eq_true, if_true, if_false, ite_true, ite_false, decide_true, decide_false, decide_eq_true_eq, reduceIte, Nat.zero_add, Nat.add_zero, and_self, true_and, and_true, List.size_toArray, List.length_cons, List.length_nil, List.append_nil, List.nil_append, Int.toNat_zero, Bool.not_false, Bool.not_true, Bool.not_not, Bool.false_eq_true, Bool.true_eq_false, reduceCtorEq, Int.reduceLT, Int.reduceLE, Int.reduceToNat, Int.reduceAdd, Int.reduceSub, Int.reduceMul, Int.reduceNeg, Nat.reduceMul, Nat.reduceAdd, Nat.reduceSub, Nat.reduceBEq, Nat.reduceEqDiff, Nat.reduceLT, Nat.reduceLeDiff, Int.reduceBEq, Int.reduceEq, Nat.reducePow, Int.reducePow, IntWalk.i64_in, IntKind.bits, eqAV, eqL, leafEq, andO, fillV, buildSV, List.getElem?_toArray, List.getElem?_cons_zero, List.getElem?_cons_succ, List.getElem?_nil, Int.reduceGT, Int.reduceGE, Int.reduceBNe, Bool.true_and, Bool.and_true, Bool.false_and, Bool.and_false, Bool.and_self, IntWalk.u64_in, Int.cast_ofNat_Int, callF1, pad16, pad_0, pad_1, pad_2, pad_3, pad_4, pad_5, pad_6, pad_7, pad_8, pad_9, pad_10, pad_11, pad_12, pad_13, pad_14, pad_15, gc0, gc1, gc2, gc3, gc4, gc5, gc6, gc7, gc8, gc9, gc10, gc11, gc12, gc13, gc14, gc15, gcS, sc0, sc1, sc2, sc3, sc4, sc5, sc6, sc7, sc8, sc9, sc10, sc11, sc12, sc13, sc14, sc15, scS, List.drop_succ_cons, List.drop_nil, x_pan, s_pan, b_pan, pE_ret, pE_pan, pE_none, pE_ite, pvE_some, pvE_none, pvE_ite, rv_some, rv_none, rv_ite, oR_ret, t_mv, t_pick, t_alloc, t_box, t_build, t_buildS, t_load, t_store, t_nilck, t_bin, t_eqb, t_eqA, t_eqp, t_un, t_conv, t_field, t_idxA, t_faddr, t_iaddrS, t_iaddrA, t_ext, t_len, t_mm, t_call, t_ifc, t_fn, t_slc, t_slcA, t_slcT, t_tass, t_isn, t_mks, t_app, t_pan, panE_i, optE_none, optE_some, bnd_none, bnd_int, slA_none, slA_some, appR_some, appOld_cells, newsV_s, newsV_n, lenS_s, appV_nil, appV_some, mksV_i, sh_c, sh_g, f_pan, endD_ret, dfr_normal, dfr_ret, dfr_pan, restD_normal, callD1, callC1, tassV, isnV, slcV, slcAV, slcTV, slcB, appNew, Option.bind_some, Option.bind_none, d_pan, h_pan, wrH_eq, wrX_cells, wrU_some, upH_nil, upH_cons, lk_upH, effR_some, effR_none, effR_ite, Option.isNone_none, Option.isNone_some, slA_zero, call_yield, e_range, it_func, wy_same, y_call, isLp_self, beg_normal, end_normal, end_ret, end_exit, end_ite, aft_ret, aft_ready, aft_done, aft_exit, setP_cons, setP_nil, sh_r, t_mkmap, t_mlook, t_mupd, t_mdel, mapF_some, lookF_some, setM_some, lookR_t, lookR_n, lookR_f, lookR_fn, lookV, mupdV, mdelV, mkM]
    refine ok_some (.inr ⟨by simp, rfl, rfl, rfl, K.length, by omega, hlo, fun h => by omega, ⟨?_, ?_, ?_, ?_, ?_⟩⟩)
    all_goals simp (maxSteps := 10000000) (disch := omega) only [kp.l, kp.t5, kp.t6, kp.t7, kp.t10, lenV_sl, Int.toNat_natCast, bft, btf, gtst, st_len, cond_true, cond_false, Nat.reduceBEq, Nat.reduceLT, decide_true, beq_self_eq_true, if_true, if_false]
  have hin' : (p : Int) < (K.length : Int) := by omega
  obtain ⟨bv, ov, cv, rfl, _, rv⟩ := hv.at (by omega)
  have rk : rdO H B bv (ov + p) 1 (rdB B bv (ov + p) 1) = some [.int .u64 (K.getD p 0)] := by
    have := rv H Fr.refl p 0 1 0 hin (by omega)
    rw [Nat.mul_one, Nat.add_zero] at this
    exact this.trans rfl
  by_cases hlt : K.getD p 0 < q
  · have hlo' : ∀ j, j < p + 1 → K.getD j 0 < q := fun j hj => by
      by_cases e : j = p
      · rw [e]; exact hlt
      · exact hlo j (by omega)
    generalize K.getD p 0 = x at rk hlt
    simp -implicitDefEqProofs (maxSteps := 10000000) (disch := omega) only [T7, L7, G7_8, G7_9, G7_10, G7_15, V15_eq, G7_21, G7_25, V25_eq, hB, hR, hI, lb7c, kp.l, kp.t5, kp.t6, kp.t7, kp.t10, lenV_sl, Int.toNat_natCast, bft, btf, gtst, st_len, hlv, hin, hin', p0, rk, Nat.mul_one, hlt, pad, e_skip, e_ops, e_draw, e_fork, shg_n, shg_c, shg_g, shg_r, d_none, d_nil, d_cons, d_ite, h_none, h_nil, h_cons, h_ite, eqS_same, lightV, e_seq, e_cond, e_block, e_exit, e_ret, s_normal, s_ret, s_exit, s_none, s_ite, b_normal, b_ret, b_exit, b_none, b_ite, c_bool, x_none, x_nil, x_cons, x_ite, p_some, p_none, p_ite, pt_some, pt_none, pv_some, pv_none, pv_ite, w_none, w_some, i_bool, i_undef, bt, bf, v_tmp, v_const, v_global, v_func, evs, f_normal, f_ret, f_none, f_ite, r_some, co_some, l_ptr, m_agg, m_one, sh_app, lk_nil, lk_cons, rd_eq, rdO_some, rdO_none, rdN_none, rdL_some, rdL_none, wrB_none, unitR_some, wr_nil, wr_here, wr_skip, k_cells, tk_zero, tk_take, tk_skip, tkC_some, call_func, gt, st, binV, arith, isSh, storeV, all1, idxAV, fieldV, faddrV, iaddrSV, iaddrAV, pickV, convV, unV, eqbV, eqpV, extV, mm2, mmV, nilckV, ress, res1, retV, Value.cells, cond_true, cond_false, Bool.true_or, Bool.false_or, Bool.or_true, Bool.or_false, beq_self_eq_true, if_true, if_false, ite_true, ite_false, decide_true, decide_false, decide_eq_true_eq, reduceIte, Nat.zero_add, Nat.add_zero, and_self, true_and, and_true, List.size_toArray, List.length_cons, List.length_nil, List.append_nil, List.nil_append, Int.toNat_zero, Bool.not_false, Bool.not_true, Bool.not_not, Bool.false_eq_true, Bool.true_eq_false, reduceCtorEq, Int.reduceLT, Int.reduceLE, Int.reduceToNat, Int.reduceAdd, Int.reduceSub, Int.reduceMul, Int.reduceNeg, Nat.reduceMul, Nat.reduceAdd, Nat.reduceSub, Nat.reduceBEq, Nat.reduceEqDiff, Nat.reduceLT, Nat.reduceLeDiff, Int.reduceBEq, Int.reduceEq, Nat.reducePow, Int.reducePow, IntWalk.i64_in, IntKind.bits, eqAV, eqL, leafEq, andO, fillV, buildSV, List.getElem?_toArray, List.getElem?_cons_zero, List.getElem?_cons_succ, List.getElem?_nil, Int.reduceGT, Int.reduceGE, Int.reduceBNe, Bool.true_and, Bool.and_true, Bool.false_and, Bool.and_false, Bool.and_self, IntWalk.u64_in, Int.cast_ofNat_Int, callF1, pad16, pad_0, pad_1, pad_2, pad_3, pad_4, pad_5, pad_6, pad_7, pad_8, pad_9, pad_10, pad_11, pad_12, pad_13, pad_14, pad_15, gc0, gc1, gc2, gc3, gc4, gc5, gc6, gc7, gc8, gc9, gc10, gc11, gc12, gc13, gc14, gc15, gcS, sc0, sc1, sc2, sc3, sc4, sc5, sc6, sc7, sc8, sc9, sc10, sc11, sc12, sc13, sc14, sc15, scS, List.drop_succ_cons, List.drop_nil, x_pan, s_pan, b_pan, pE_ret, pE_pan, pE_none, pE_ite, pvE_some, pvE_none, pvE_ite, rv_some, rv_none, rv_ite, oR_ret, t_mv, t_pick, t_alloc, t_box, t_build, t_buildS, t_load, t_store, t_nilck, t_bin, t_eqb, t_eqA, t_eqp, t_un, t_conv, t_field, t_idxA, t_faddr, t_iaddrS, t_iaddrA, t_ext, t_len, t_mm, t_call, t_ifc, t_fn, t_slc, t_slcA, t_slcT, t_tass, t_isn, t_mks, t_app, t_pan, panE_i, optE_none, optE_some, bnd_none, bnd_int, slA_none, slA_some, appR_some, appOld_cells, newsV_s, newsV_n, lenS_s, appV_nil, appV_some, mksV_i, sh_c, sh_g, f_pan, endD_ret, dfr_normal, dfr_ret, dfr_pan, restD_normal, callD1, callC1, tassV, isnV, slcV, slcAV, slcTV, slcB, appNew, Option.bind_some, Option.bind_none, d_pan, h_pan, wrH_eq, wrX_cells, wrU_some, upH_nil, upH_cons, lk_upH, effR_some, effR_none, effR_ite, Option.isNone_none, Option.isNone_some, slA_zero, call_yield, e_range, it_func, wy_same, y_call, isLp_self, beg_normal, end_normal, end_ret, end_exit, end_ite, aft_ret, aft_ready, aft_done, aft_exit, setP_cons, setP_nil, sh_r, t_mkmap, t_mlook, t_mupd, t_mdel, mapF_some, lookF_some, setM_some, lookR_t, lookR_n, lookR_f, lookR_fn, lookV, mupdV, mdelV, mkM]
    refine ok_some (.inl ⟨rfl, K.length - (p + 1), by omega, _, p + 1, rfl, ⟨?_, ?_, ?_, ?_, ?_⟩, hlo', by omega, rfl⟩)
    all_goals simp (maxSteps := 10000000) (disch := omega) only [kp.l, kp.t5, kp.t6, kp.t7, kp.t10, lenV_sl, Int.toNat_natCast, bft, btf, gtst, st_len, hc1, cond_true, cond_false, Nat.reduceBEq, Nat.reduceLT, decide_true, beq_self_eq_true, if_true, if_false]
  · have hge : K.getD p 0 ≥ q := by omega
    have hge' := fun _ : p < K.length => hge
    generalize hx : K.getD p 0 = x at rk hlt
    simp -implicitDefEqProofs (maxSteps := 10000000) (disch := omega) only [T7, L7, G7_8, G7_9, G7_10, G7_15, V15_eq, G7_21, G7_25, V25_eq, hB, hR, hI, lb7c, kp.l, kp.t5, kp.t6, kp.t7, kp.t10, lenV_sl, Int.toNat_natCast, bft, btf, gtst, st_len, hlv, hin, hin', p0, rk, Nat.mul_one, hlt, pad, e_skip, e_ops, e_draw, e_fork, shg_n, shg_c, shg_g, shg_r, d_none, d_nil, d_cons, d_ite, h_none, h_nil, h_cons, h_ite, eqS_same, lightV, e_seq, e_cond, e_block, e_exit, e_ret, s_normal, s_ret, s_exit, s_none, s_ite, b_normal, b_ret, b_exit, b_none, b_ite, c_bool, x_none, x_nil, x_cons, x_ite, p_some, p_none, p_ite, pt_some, pt_none, pv_some, pv_none, pv_ite, w_none, w_some, i_bool, i_undef, bt, bf, v_tmp, v_const, v_global, v_func, evs, f_normal, f_ret, f_none, f_ite, r_some, co_some, l_ptr, m_agg, m_one, sh_app, lk_nil, lk_cons, rd_eq, rdO_some, rdO_none, rdN_none, rdL_some, rdL_none, wrB_none, unitR_some, wr_nil, wr_here, wr_skip, k_cells, tk_zero, tk_take, tk_skip, tkC_some, call_func, gt, st, binV, arith, isSh, storeV, all1, idxAV, fieldV, faddrV, iaddrSV, iaddrAV, pickV, convV, unV, eqbV, eqpV, extV, mm2, mmV, nilckV, ress, res1, retV, Value.cells, cond_true, cond_false, Bool.true_or, Bool.false_or, Bool.or_true, Bool.or_false, beq_self_eq_true, if_true, if_false, ite_true, ite_false, decide_true, decide_false, decide_eq_true_eq, reduceIte, Nat.zero_add, Nat.add_zero, and_self, true_and, and_true, List.size_toArray, List.length_cons, List.length_nil, List.append_nil, List.nil_append, Int.toNat_zero, Bool.not_false, Bool.not_true, Bool.not_not, Bool.false_eq_true, Bool.true_eq_false, reduceCtorEq, Int.reduceLT, Int.reduceLE, Int.reduceToNat, Int.reduceAdd, Int.reduceSub, Int.reduceMul, Int.reduceNeg, Nat.reduceMul, Nat.reduceAdd, Nat.reduceSub, Nat.reduceBEq, Nat.reduceEqDiff, Nat.reduceLT, Nat.reduceLeDiff, Int.reduceBEq, Int.reduceEq, Nat.reducePow, Int.reducePow, IntWalk.i64_in, IntKind.bits, eqAV, eqL, leafEq, andO, fillV, buildSV, List.getElem?_toArray, List.getElem?_cons_zero, List.getElem?_cons_succ, List.getElem?_nil, Int.reduceGT, Int.reduceGE, Int.reduceBNe, Bool.true_and, Bool.and_true, Bool.false_and, Bool.and_false, Bool.and_self, IntWalk.u64_in, Int.cast_ofNat_Int, callF1, pad16, pad_0, pad_1, pad_2, pad_3, pad_4, pad_5, pad_6, pad_7, pad_8, pad_9, pad_10, pad_11, pad_12, pad_13, pad_14, pad_15, gc0, gc1, gc2, gc3, gc4, gc5, gc6, gc7, gc8, gc9, gc10, gc11, gc12, gc13, gc14, gc15, gcS, sc0, sc1, sc2, sc3, sc4, sc5, sc6, sc7, sc8, sc9, sc10, sc11, sc12, sc13, sc14, sc15, scS, List.drop_succ_cons, List.drop_nil, x_pan, s_pan, b_pan, pE_ret, pE_pan, pE_none, pE_ite, pvE_some, pvE_none, pvE_ite, rv_some, rv_none, rv_ite, oR_ret, t_mv, t_pick, t_alloc, t_box, t_build, t_buildS, t_load, t_store, t_nilck, t_bin, t_eqb, t_eqA, t_eqp, t_un, t_conv, t_field, t_idxA, t_faddr, t_iaddrS, t_iaddrA, t_ext, t_len, t_mm, t_call, t_ifc, t_fn, t_slc, t_slcA, t_slcT, t_tass, t_isn, t_mks, t_app, t_pan, panE_i, optE_none, optE_some, bnd_none, bnd_int, slA_none, slA_some, appR_some, appOld_cells, newsV_s, newsV_n, lenS_s, appV_nil, appV_some, mksV_i, sh_c, sh_g, f_pan, endD_ret, dfr_normal, dfr_ret, dfr_pan, restD_normal, callD1, callC1, tassV, isnV, slcV, slcAV, slcTV, slcB, appNew, Option.bind_some, Option.bind_none, d_pan, h_pan, wrH_eq, wrX_cells, wrU_some, upH_nil, upH_cons, lk_upH, effR_some, effR_none, effR_ite, Option.isNone_none, Option.isNone_some, slA_zero, call_yield, e_range, it_func, wy_same, y_call, isLp_self, beg_normal, end_normal, end_ret, end_exit, end_ite, aft_ret, aft_ready, aft_done, aft_exit, setP_cons, setP_nil, sh_r, t_mkmap, t_mlook, t_mupd, t_mdel, mapF_some, lookF_some, setM_some, lookR_t, lookR_n, lookR_f, lookR_fn, lookV, mupdV, mdelV, mkM]
    refine ok_some (.inr ⟨by simp, rfl, rfl, rfl, p, by omega, hlo, hge', ⟨?_, ?_, ?_, ?_, ?_⟩⟩)
    all_goals simp (maxSteps := 10000000) (disch := omega) only [kp.l, kp.t5, kp.t6, kp.t7, kp.t10, lenV_sl, Int.toNat_natCast, bft, btf, gtst, st_len, cond_true, cond_false, Nat.reduceBEq, Nat.reduceLT, decide_true, beq_self_eq_true, if_true, if_false]
set_option maxHeartbeats 16000000 in
theorem loop7d {B : OH} {H : HL} {N : St} {vk vp vr : Value} {q : Int} {K : List Int} {p : Nat} {P C : List Nat} (hv : SlR w1 1 B H vk K) (hKu : U64s K) (hqu : u64R q) (hKl : K.length ≤ 20) (hp : p ≤ K.length) (hP : SlR f1 1 B H vp (P.map iC)) (hC : SlR f1 1 B H vr (C.map iC)) (hPb : ∀ s ∈ P, 1 ≤ s ∧ s ≤ K.length) (hPl : P.length ≤ 256) (hs : Sp (bfr K q) (shU p) (p + 1) P C) (hN : good B H N) {ts : List Value} (kp : K7d q vk vp vr p 0 ts) {F : Nat} (hF : 200 + P.length + 1 ≤ F) :
    Ok (exec B { f := G7 B } F (LC.loop lb7d) ⟨ts, H, N⟩) (fun x s => x = .exit 4 ∧ s.H = H ∧ s.N = N ∧ ∃ i, i ≤ P.length ∧ C.length = i + 1 ∧ C.getD i 0 = p + 1 ∧ K7d q vk vp vr p i s.t) := by
  have hB := good_B hN
  have hR := good_rdB hN
  have hI := beqN hN.1.1
  have hG : ∃ H N, good B H N := ⟨H, N, hN⟩
  have hlv := hv.len
  have hlP := hP.len
  have hlC := hC.len
  rw [List.length_map] at hlP hlC
  refine loop_rule (n0 := 200) (fun m s => ∃ ts, ∃ i : Nat, s = ⟨ts, H, N⟩ ∧ K7d q vk vp vr p i ts ∧ Sp (bfr K q) (shU p) (p + 1) (P.drop i) (C.drop i) ∧ i ≤ P.length ∧ m = P.length - i) _ ?_ _ _ ⟨ts, 0, rfl, kp, by rw [List.drop_zero, List.drop_zero]; exact hs, by omega, rfl⟩ _ hF
  clear kp hF F ts hs
  rintro z m s ⟨ts, i, rfl, kp, hs, hi, rfl⟩
  have hc1 : ((i + 1 : Nat) : Int) = (i : Int) + 1 := by omega
  have i0 : (0 : Int) ≤ (i : Int) := by omega
  obtain ⟨hiC, hcase⟩ := hs.at
  by_cases hin : i < P.length
  case neg =>
    obtain rfl : i = P.length := by omega
    have hfin : C.length = P.length + 1 ∧ C.getD P.length 0 = p + 1 := by
      rcases hcase with ⟨_, h1, h2⟩ | ⟨h, _⟩ | ⟨h, _⟩
      · exact ⟨h1, h2⟩
      · omega
      · omega
    simp -implicitDefEqProofs (maxSteps := 10000000) (disch := omega) only [T7, L7, G7_8, G7_9, G7_10, G7_15, V15_eq, G7_21, G7_25, V25_eq, hB, hR, hI, lb7d, kp.l, kp.t5, kp.t6, kp.t7, kp.t10, kp.t18, kp.t19, kp.t20, lenV_sl, Int.toNat_natCast, bft, btf, gtst, st_len, hlP, Int.lt_irrefl, pad, e_skip, e_ops, e_draw, e_fork, shg_n, shg_c, shg_g, shg_r, d_none, d_nil, d_cons, d_ite, h_none, h_nil, h_cons, h_ite, eqS_same, lightV, e_seq, e_cond, e_block, e_exit, e_ret, s_normal, s_ret, s_exit, s_none, s_ite, b_normal, b_ret, b_exit, b_none, b_ite, c_bool, x_none, x_nil, x_cons, x_ite, p_some, p_none, p_ite, pt_some, pt_none, pv_some, pv_none, pv_ite, w_none, w_some, i_bool, i_undef, bt, bf, v_tmp, v_const, v_global, v_func, evs, f_normal, f_ret, f_none, f_ite, r_some, co_some, l_ptr, m_agg, m_one, sh_app, lk_nil, lk_cons, rd_eq, rdO_some, rdO_none, rdN_none, rdL_some, rdL_none, wrB_none, unitR_some, wr_nil, wr_here, wr_skip, k_cells, tk_zero, tk_take, tk_skip, tkC_some, call_func, gt, st, binV, arith, isSh, storeV, all1, idxAV, fieldV, faddrV, iaddrSV, iaddrAV, pickV, convV, unV, eqbV, eqpV, extV, mm2, mmV, nilckV, ress, res1, retV, Value.cells, cond_true, cond_false, Bool.true_or, Bool.false_or, Bool.or_true, Bool.or_false, beq_self_eq_true, if_true, if_false, ite_true, ite_false, decide_true, decide_false, decide_eq_true_eq, reduceIte, Nat.zero_add, Nat.add_zero, and_self, true_and, and_true, List.size_toArray, List.length_cons, List.length_nil, List.append_nil, List.nil_append, Int.toNat_zero, Bool.not_false, Bool.not_true, Bool.not_not, Bool.false_eq_true, Bool.true_eq_false, reduceCtorEq, Int.reduceLT, Int.reduceLE, Int.reduceToNat, Int.reduceAdd, Int.reduceSub, Int.reduceMul, Int.reduceNeg, Nat.reduceMul, Nat.reduceAdd, Nat.reduceSub, Nat.reduceBEq, Nat.reduceEqDiff, Nat.reduceLT, Nat.reduceLeDiff, Int.reduceBEq, Int.reduceEq, Nat.reducePow, Int.reducePow, IntWalk.i64_in, IntKind.bits, eqAV, eqL, leafEq, andO, fillV, buildSV, List.getElem?_toArray, List.getElem?_cons_zero, List.getElem?_cons_succ, List.getElem?_nil, Int.reduceGT, Int.reduceGE, Int.reduceBNe, Bool.true_and, Bool.and_true, Bool.false_and, Bool.and_false, Bool.and_self, IntWalk.u64_in, Int.cast_ofNat_Int, callF1, pad16, pad_0, pad_1, pad_2, pad_3, pad_4, pad_5, pad_6, pad_7, pad_8, pad_9, pad_10, pad_11, pad_12, pad_13, pad_14, pad_15, gc0, gc1, gc2, gc3, gc4, gc5, gc6, gc7, gc8, gc9, gc10, gc11, gc12, gc13, gc14, gc15, gcS, sc0, sc1, sc2, sc3, sc4, sc5, sc6, sc7, sc8, sc9, sc10, sc11, sc12, sc13, sc14, sc15, scS, List.drop_succ_cons, List.drop_nil, x_pan, s_pan, b_pan, pE_ret, pE_pan, pE_none, pE_ite, pvE_some, pvE_none, pvE_ite, rv_some, rv_none, rv_ite, oR_ret, t_mv, t_pick, t_alloc, t_box, t_build, t_buildS, t_load, t_store, t_nilck, t_bin, t_eqb, t_eqA, t_eqp, t_un, t_conv, t_field, t_idxA, t_faddr, t_iaddrS, t_iaddrA, t_ext, t_len, t_mm, t_call, t_ifc, t_fn, t_slc, t_slcA, t_slcT, t_tass, t_isn, t_mks, t_app, t_pan, panE_i, optE_none, optE_some, bnd_none, bnd_int, slA_none, slA_some, appR_some, appOld_cells, newsV_s, newsV_n, lenS_s, appV_nil, appV_some, mksV_i, sh_c, sh_g, f_pan, endD_ret, dfr_normal, dfr_ret, dfr_pan, restD_normal, callD1, callC1, tassV, isnV, slcV, slcAV, slcTV, slcB, appNew, Option.bind_some, Option.bind_none, d_pan, h_pan, wrH_eq, wrX_cells, wrU_some, upH_nil, upH_cons, lk_upH, effR_some, effR_none, effR_ite, Option.isNone_none, Option.isNone_some, slA_zero, call_yield, e_range, it_func, wy_same, y_call, isLp_self, beg_normal, end_normal, end_ret, end_exit, end_ite, aft_ret, aft_ready, aft_done, aft_exit, setP_cons, setP_nil, sh_r, t_mkmap, t_mlook, t_mupd, t_mdel, mapF_some, lookF_some, setM_some, lookR_t, lookR_n, lookR_f, lookR_fn, lookV, mupdV, mdelV, mkM]
    refine ok_some (.inr ⟨by simp, rfl, rfl, rfl, P.length, by omega, hfin.1, hfin.2, ⟨?_, ?_, ?_, ?_, ?_, ?_, ?_, ?_⟩⟩)
    all_goals simp (maxSteps := 10000000) (disch := omega) only [kp.l, kp.t5, kp.t6, kp.t7, kp.t10, kp.t18, kp.t19, kp.t20, lenV_sl, Int.toNat_natCast, bft, btf, gtst, st_len, cond_true, cond_false, Nat.reduceBEq, Nat.reduceLT, decide_true, beq_self_eq_true, if_true, if_false]
  have hin' : (i : Int) < (P.length : Int) := by omega
  have hil : i < (P.map iC).length := by rw [List.length_map]; exact hin
  have hib : i < (C.map iC).length := by rw [List.length_map]; exact hiC
  have hsb := hPb (P.getD i 0) (List.mem_of_getElem? (some_getD (d := 0) hin))
  obtain ⟨bp, op, cp, rfl, _, rp⟩ := hP.at (by omega)
  obtain ⟨bv, ov, cv, rfl, _, rv⟩ := hv.at (by omega)
  obtain ⟨bc, oc, cc, rfl, _, rc⟩ := hC.at (by omega)
  have qp : rdO H B bp (op + i) 1 (rdB B bp (op + i) 1) = some [.int .i64 ((P.getD i 0 : Nat) : Int)] := by
    have := rp H Fr.refl i 0 1 0 hil (by omega)
    rw [Nat.mul_one, Nat.add_zero, mapD hin] at this
    exact this.trans rfl
  have qc : rdO H B bc (oc + i) 1 (rdB B bc (oc + i) 1) = some [.int .i64 ((C.getD i 0 : Nat) : Int)] := by
    have := rc H Fr.refl i 0 1 0 hib (by omega)
    rw [Nat.mul_one, Nat.add_zero, mapD hiC] at this
    exact this.trans rfl
  generalize P.getD i 0 = s at *
  have rk : rdO H B bv (ov + (s - 1)) 1 (rdB B bv (ov + (s - 1)) 1) = some [.int .u64 (K.getD (s - 1) 0)] := by
    have := rv H Fr.refl (s - 1) 0 1 0 (by omega) (by omega)
    rw [Nat.mul_one, Nat.add_zero] at this
    exact this.trans rfl
  have eb := f25 hG (hKu.at (s - 1)) hqu
  have hbf : bfr K q s ↔ mixI (K.getD (s - 1) 0) > mixI q := Iff.rfl
  generalize K.getD (s - 1) 0 = ks at rk eb hbf
  have t1 : (s : Int) - 1 = ((s - 1 : Nat) : Int) := by omega
  have t2 : (0 : Int) ≤ ((s - 1 : Nat) : Int) := by omega
  have t3 : s - 1 < K.length := by omega
  have t4 : IntKind.i64.wrap ((s : Int) - 1) = ((s - 1 : Nat) : Int) := by rw [IntWalk.i64_in _ (by omega)]; exact t1
  have t5 : (s : Int) ≥ 1 := by omega
  have t6 : (s : Int) ≤ (K.length : Int) := by omega
  rcases hcase with ⟨h, _⟩ | ⟨_, hnb, h1, h2⟩ | ⟨_, hb, h1, h2⟩
  · omega
  · rw [decide_eq_false (fun h => hnb (hbf.2 h))] at eb
    simp -implicitDefEqProofs (maxSteps := 10000000) (disch := omega) only [T7, L7, G7_8, G7_9, G7_10, G7_15, V15_eq, G7_21, G7_25, V25_eq, hB, hR, hI, lb7d, kp.l, kp.t5, kp.t6, kp.t7, kp.t10, kp.t18, kp.t19, kp.t20, lenV_sl, Int.toNat_natCast, bft, btf, gtst, st_len, hlP, hlv, hin, hin', hil, i0, qp, rk, t1, t2, t3, t4, t5, t6, eb, Nat.mul_one, pad, e_skip, e_ops, e_draw, e_fork, shg_n, shg_c, shg_g, shg_r, d_none, d_nil, d_cons, d_ite, h_none, h_nil, h_cons, h_ite, eqS_same, lightV, e_seq, e_cond, e_block, e_exit, e_ret, s_normal, s_ret, s_exit, s_none, s_ite, b_normal, b_ret, b_exit, b_none, b_ite, c_bool, x_none, x_nil, x_cons, x_ite, p_some, p_none, p_ite, pt_some, pt_none, pv_some, pv_none, pv_ite, w_none, w_some, i_bool, i_undef, bt, bf, v_tmp, v_const, v_global, v_func, evs, f_normal, f_ret, f_none, f_ite, r_some, co_some, l_ptr, m_agg, m_one, sh_app, lk_nil, lk_cons, rd_eq, rdO_some, rdO_none, rdN_none, rdL_some, rdL_none, wrB_none, unitR_some, wr_nil, wr_here, wr_skip, k_cells, tk_zero, tk_take, tk_skip, tkC_some, call_func, gt, st, binV, arith, isSh, storeV, all1, idxAV, fieldV, faddrV, iaddrSV, iaddrAV, pickV, convV, unV, eqbV, eqpV, extV, mm2, mmV, nilckV, ress, res1, retV, Value.cells, cond_true, cond_false, Bool.true_or, Bool.false_or, Bool.or_true, Bool.or_false, beq_self_eq_true, if_true, if_false, ite_true, ite_false, decide_true, decide_false, decide_eq_true_eq, reduceIte, Nat.zero_add, Nat.add_zero, and_self, true_and, and_true, List.size_toArray, List.length_cons, List.length_nil, List.append_nil, List.nil_append, Int.toNat_zero, Bool.not_false, Bool.not_true, Bool.not_not, Bool.false_eq_true, Bool.true_eq_false, reduceCtorEq, Int.reduceLT, Int.reduceLE, Int.reduceToNat, Int.reduceAdd, Int.reduceSub, Int.reduceMul, Int.reduceNeg, Nat.reduceMul, Nat.reduceAdd, Nat.reduceSub, Nat.reduceBEq, Nat.reduceEqDiff, Nat.reduceLT, Nat.reduceLeDiff, Int.reduceBEq, Int.reduceEq, Nat.reducePow, Int.reducePow, IntWalk.i64_in, IntKind.bits, eqAV, eqL, leafEq, andO, fillV, buildSV, List.getElem?_toArray, List.getElem?_cons_zero, List.getElem?_cons_succ, List.getElem?_nil, Int.reduceGT, Int.reduceGE, Int.reduceBNe, Bool.true_and, Bool.and_true, Bool.false_and, Bool.and_false, Bool.and_self, IntWalk.u64_in, Int.cast_ofNat_Int, callF1, pad16, pad_0, pad_1, pad_2, pad_3, pad_4, pad_5, pad_6, pad_7, pad_8, pad_9, pad_10, pad_11, pad_12, pad_13, pad_14, pad_15, gc0, gc1, gc2, gc3, gc4, gc5, gc6, gc7, gc8, gc9, gc10, gc11, gc12, gc13, gc14, gc15, gcS, sc0, sc1, sc2, sc3, sc4, sc5, sc6, sc7, sc8, sc9, sc10, sc11, sc12, sc13, sc14, sc15, scS, List.drop_succ_cons, List.drop_nil, x_pan, s_pan, b_pan, pE_ret, pE_pan, pE_none, pE_ite, pvE_some, pvE_none, pvE_ite, rv_some, rv_none, rv_ite, oR_ret, t_mv, t_pick, t_alloc, t_box, t_build, t_buildS, t_load, t_store, t_nilck, t_bin, t_eqb, t_eqA, t_eqp, t_un, t_conv, t_field, t_idxA, t_faddr, t_iaddrS, t_iaddrA, t_ext, t_len, t_mm, t_call, t_ifc, t_fn, t_slc, t_slcA, t_slcT, t_tass, t_isn, t_mks, t_app, t_pan, panE_i, optE_none, optE_some, bnd_none, bnd_int, slA_none, slA_some, appR_some, appOld_cells, newsV_s, newsV_n, lenS_s, appV_nil, appV_some, mksV_i, sh_c, sh_g, f_pan, endD_ret, dfr_normal, dfr_ret, dfr_pan, restD_normal, callD1, callC1, tassV, isnV, slcV, slcAV, slcTV, slcB, appNew, Option.bind_some, Option.bind_none, d_pan, h_pan, wrH_eq, wrX_cells, wrU_some, upH_nil, upH_cons, lk_upH, effR_some, effR_none, effR_ite, Option.isNone_none, Option.isNone_some, slA_zero, call_yield, e_range, it_func, wy_same, y_call, isLp_self, beg_normal, end_normal, end_ret, end_exit, end_ite, aft_ret, aft_ready, aft_done, aft_exit, setP_cons, setP_nil, sh_r, t_mkmap, t_mlook, t_mupd, t_mdel, mapF_some, lookF_some, setM_some, lookR_t, lookR_n, lookR_f, lookR_fn, lookV, mupdV, mdelV, mkM]
    refine ok_some (.inr ⟨by simp, rfl, rfl, rfl, i, by omega, h1, h2, ⟨?_, ?_, ?_, ?_, ?_, ?_, ?_, ?_⟩⟩)
    all_goals simp (maxSteps := 10000000) (disch := omega) only [kp.l, kp.t5, kp.t6, kp.t7, kp.t10, kp.t18, kp.t19, kp.t20, lenV_sl, Int.toNat_natCast, bft, btf, gtst, st_len, cond_true, cond_false, Nat.reduceBEq, Nat.reduceLT, decide_true, beq_self_eq_true, if_true, if_false]
  · rw [decide_eq_true (hbf.1 hb)] at eb
    rw [h1] at qc
    have u0 : ¬ (i : Int) ≥ (C.length : Int) := by omega
    have t7 : IntKind.i64.wrap ((s : Int) + 1) = (s : Int) + 1 := IntWalk.i64_in _ (by omega)
    by_cases hsp : s > p
    · rw [show shU p s = s + 1 from if_pos hsp] at qc
      have u1 : (s : Int) > (p : Int) := by omega
      have u2 : ((s + 1 : Nat) : Int) = (s : Int) + 1 := by omega
      rw [u2] at qc
      simp -implicitDefEqProofs (maxSteps := 10000000) (disch := omega) only [T7, L7, G7_8, G7_9, G7_10, G7_15, V15_eq, G7_21, G7_25, V25_eq, hB, hR, hI, lb7d, kp.l, kp.t5, kp.t6, kp.t7, kp.t10, kp.t18, kp.t19, kp.t20, lenV_sl, Int.toNat_natCast, bft, btf, gtst, st_len, hlP, hlC, hlv, hin, hin', hil, hib, i0, qp, qc, rk, t1, t2, t3, t4, t5, t6, t7, u0, u1, eb, Nat.mul_one, bne_self_eq_false, pad, e_skip, e_ops, e_draw, e_fork, shg_n, shg_c, shg_g, shg_r, d_none, d_nil, d_cons, d_ite, h_none, h_nil, h_cons, h_ite, eqS_same, lightV, e_seq, e_cond, e_block, e_exit, e_ret, s_normal, s_ret, s_exit, s_none, s_ite, b_normal, b_ret, b_exit, b_none, b_ite, c_bool, x_none, x_nil, x_cons, x_ite, p_some, p_none, p_ite, pt_some, pt_none, pv_some, pv_none, pv_ite, w_none, w_some, i_bool, i_undef, bt, bf, v_tmp, v_const, v_global, v_func, evs, f_normal, f_ret, f_none, f_ite, r_some, co_some, l_ptr, m_agg, m_one, sh_app, lk_nil, lk_cons, rd_eq, rdO_some, rdO_none, rdN_none, rdL_some, rdL_none, wrB_none, unitR_some, wr_nil, wr_here, wr_skip, k_cells, tk_zero, tk_take, tk_skip, tkC_some, call_func, gt, st, binV, arith, isSh, storeV, all1, idxAV, fieldV, faddrV, iaddrSV, iaddrAV, pickV, convV, unV, eqbV, eqpV, extV, mm2, mmV, nilckV, ress, res1, retV, Value.cells, cond_true, cond_false, Bool.true_or, Bool.false_or, Bool.or_true, Bool.or_false, beq_self_eq_true, if_true, if_false, ite_true, ite_false, decide_true, decide_false, decide_eq_true_eq, reduceIte, Nat.zero_add, Nat.add_zero, and_self, true_and, and_true, List.size_toArray, List.length_cons, List.length_nil, List.append_nil, List.nil_append, Int.toNat_zero, Bool.not_false, Bool.not_true, Bool.not_not, Bool.false_eq_true, Bool.true_eq_false, reduceCtorEq, Int.reduceLT, Int.reduceLE, Int.reduceToNat, Int.reduceAdd, Int.reduceSub, Int.reduceMul, Int.reduceNeg, Nat.reduceMul, Nat.reduceAdd, Nat.reduceSub, Nat.reduceBEq, Nat.reduceEqDiff, Nat.reduceLT, Nat.reduceLeDiff, Int.reduceBEq, Int.reduceEq, Nat.reducePow, Int.reducePow, IntWalk.i64_in, IntKind.bits, eqAV, eqL, leafEq, andO, fillV, buildSV, List.getElem?_toArray, List.getElem?_cons_zero, List.getElem?_cons_succ, List.getElem?_nil, Int.reduceGT, Int.reduceGE, Int.reduceBNe, Bool.true_and, Bool.and_true, Bool.false_and, Bool.and_false, Bool.and_self, IntWalk.u64_in, Int.cast_ofNat_Int, callF1, pad16, pad_0, pad_1, pad_2, pad_3, pad_4, pad_5, pad_6, pad_7, pad_8, pad_9, pad_10, pad_11, pad_12, pad_13, pad_14, pad_15, gc0, gc1, gc2, gc3, gc4, gc5, gc6, gc7, gc8, gc9, gc10, gc11, gc12, gc13, gc14, gc15, gcS, sc0, sc1, sc2, sc3, sc4, sc5, sc6, sc7, sc8, sc9, sc10, sc11, sc12, sc13, sc14, sc15, scS, List.drop_succ_cons, List.drop_nil, x_pan, s_pan, b_pan, pE_ret, pE_pan, pE_none, pE_ite, pvE_some, pvE_none, pvE_ite, rv_some, rv_none, rv_ite, oR_ret, t_mv, t_pick, t_alloc, t_box, t_build, t_buildS, t_load, t_store, t_nilck, t_bin, t_eqb, t_eqA, t_eqp, t_un, t_conv, t_field, t_idxA, t_faddr, t_iaddrS, t_iaddrA, t_ext, t_len, t_mm, t_call, t_ifc, t_fn, t_slc, t_slcA, t_slcT, t_tass, t_isn, t_mks, t_app, t_pan, panE_i, optE_none, optE_some, bnd_none, bnd_int, slA_none, slA_some, appR_some, appOld_cells, newsV_s, newsV_n, lenS_s, appV_nil, appV_some, mksV_i, sh_c, sh_g, f_pan, endD_ret, dfr_normal, dfr_ret, dfr_pan, restD_normal, callD1, callC1, tassV, isnV, slcV, slcAV, slcTV, slcB, appNew, Option.bind_some, Option.bind_none, d_pan, h_pan, wrH_eq, wrX_cells, wrU_some, upH_nil, upH_cons, lk_upH, effR_some, effR_none, effR_ite, Option.isNone_none, Option.isNone_some, slA_zero, call_yield, e_range, it_func, wy_same, y_call, isLp_self, beg_normal, end_normal, end_ret, end_exit, end_ite, aft_ret, aft_ready, aft_done, aft_exit, setP_cons, setP_nil, sh_r, t_mkmap, t_mlook, t_mupd, t_mdel, mapF_some, lookF_some, setM_some, lookR_t, lookR_n, lookR_f, lookR_fn, lookV, mupdV, mdelV, mkM]
      refine ok_some (.inl ⟨rfl, P.length - (i + 1), by omega, _, i + 1, rfl, ⟨?_, ?_, ?_, ?_, ?_, ?_, ?_, ?_⟩, h2, by omega, rfl⟩)
      all_goals simp (maxSteps := 10000000) (disch := omega) only [kp.l, kp.t5, kp.t6, kp.t7, kp.t10, kp.t18, kp.t19, kp.t20, lenV_sl, Int.toNat_natCast, bft, btf, gtst, st_len, hc1, cond_true, cond_false, Nat.reduceBEq, Nat.reduceLT, decide_true, beq_self_eq_true, if_true, if_false]
    · rw [show shU p s = s from if_neg hsp] at qc
      have u1 : ¬ (s : Int) > (p : Int) := by omega
      simp -implicitDefEqProofs (maxSteps := 10000000) (disch := omega) only [T7, L7, G7_8, G7_9, G7_10, G7_15, V15_eq, G7_21, G7_25, V25_eq, hB, hR, hI, lb7d, kp.l, kp.t5, kp.t6, kp.t7, kp.t10, kp.t18, kp.t19, kp.t20, lenV_sl, Int.toNat_natCast, bft, btf, gtst, st_len, hlP, hlC, hlv, hin, hin', hil, hib, i0, qp, qc, rk, t1, t2, t3, t4, t5, t6, u0, u1, eb, Nat.mul_one, bne_self_eq_false, pad, e_skip, e_ops, e_draw, e_fork, shg_n, shg_c, shg_g, shg_r, d_none, d_nil, d_cons, d_ite, h_none, h_nil, h_cons, h_ite, eqS_same, lightV, e_seq, e_cond, e_block, e_exit, e_ret, s_normal, s_ret, s_exit, s_none, s_ite, b_normal, b_ret, b_exit, b_none, b_ite, c_bool, x_none, x_nil, x_cons, x_ite, p_some, p_none, p_ite, pt_some, pt_none, pv_some, pv_none, pv_ite, w_none, w_some, i_bool, i_undef, bt, bf, v_tmp, v_const, v_global, v_func, evs, f_normal, f_ret, f_none, f_ite, r_some, co_some, l_ptr, m_agg, m_one, sh_app, lk_nil, lk_cons, rd_eq, rdO_some, rdO_none, rdN_none, rdL_some, rdL_none, wrB_none, unitR_some, wr_nil, wr_here, wr_skip, k_cells, tk_zero, tk_take, tk_skip, tkC_some, call_func, gt, st, binV, arith, isSh, storeV, all1, idxAV, fieldV, faddrV, iaddrSV, iaddrAV, pickV, convV, unV, eqbV, eqpV, extV, mm2, mmV, nilckV, ress, res1, retV, Value.cells, cond_true, cond_false, Bool.true_or, Bool.false_or, Bool.or_true, Bool.or_false, beq_self_eq_true, if_true, if_false, ite_true, ite_false, decide_true, decide_false, decide_eq_true_eq, reduceIte, Nat.zero_add, Nat.add_zero, and_self, true_and, and_true, List.size_toArray, List.length_cons, List.length_nil, List.append_nil, List.nil_append, Int.toNat_zero, Bool.not_false, Bool.not_true, Bool.not_not, Bool.false_eq_true, Bool.true_eq_false, reduceCtorEq, Int.reduceLT, Int.reduceLE, Int.reduceToNat, Int.reduceAdd, Int.reduceSub, Int.reduceMul, Int.reduceNeg, Nat.reduceMul, Nat.reduceAdd, Nat.reduceSub, Nat.reduceBEq, Nat.reduceEqDiff, Nat.reduceLT, Nat.reduceLeDiff, Int.reduceBEq, Int.reduceEq, Nat.reducePow, Int.reducePow, IntWalk.i64_in, IntKind.bits, eqAV, eqL, leafEq, andO, fillV, buildSV, List.getElem?_toArray, List.getElem?_cons_zero, List.getElem?_cons_succ, List.getElem?_nil, Int.reduceGT, Int.reduceGE, Int.reduceBNe, Bool.true_and, Bool.and_true, Bool.false_and, Bool.and_false, Bool.and_self, IntWalk.u64_in, Int.cast_ofNat_Int, callF1, pad16, pad_0, pad_1, pad_2, pad_3, pad_4, pad_5, pad_6, pad_7, pad_8, pad_9, pad_10, pad_11, pad_12, pad_13, pad_14, pad_15, gc0, gc1, gc2, gc3, gc4, gc5, gc6, gc7, gc8, gc9, gc10, gc11, gc12, gc13, gc14, gc15, gcS, sc0, sc1, sc2, sc3, sc4, sc5, sc6, sc7, sc8, sc9, sc10, sc11, sc12, sc13, sc14, sc15, scS, List.drop_succ_cons, List.drop_nil, x_pan, s_pan, b_pan, pE_ret, pE_pan, pE_none, pE_ite, pvE_some, pvE_none, pvE_ite, rv_some, rv_none, rv_ite, oR_ret, t_mv, t_pick, t_alloc, t_box, t_build, t_buildS, t_load, t_store, t_nilck, t_bin, t_eqb, t_eqA, t_eqp, t_un, t_conv, t_field, t_idxA, t_faddr, t_iaddrS, t_iaddrA, t_ext, t_len, t_mm, t_call, t_ifc, t_fn, t_slc, t_slcA, t_slcT, t_tass, t_isn, t_mks, t_app, t_pan, panE_i, optE_none, optE_some, bnd_none, bnd_int, slA_none, slA_some, appR_some, appOld_cells, newsV_s, newsV_n, lenS_s, appV_nil, appV_some, mksV_i, sh_c, sh_g, f_pan, endD_ret, dfr_normal, dfr_ret, dfr_pan, restD_normal, callD1, callC1, tassV, isnV, slcV, slcAV, slcTV, slcB, appNew, Option.bind_some, Option.bind_none, d_pan, h_pan, wrH_eq, wrX_cells, wrU_some, upH_nil, upH_cons, lk_upH, effR_some, effR_none, effR_ite, Option.isNone_none, Option.isNone_some, slA_zero, call_yield, e_range, it_func, wy_same, y_call, isLp_self, beg_normal, end_normal, end_ret, end_exit, end_ite, aft_ret, aft_ready, aft_done, aft_exit, setP_cons, setP_nil, sh_r, t_mkmap, t_mlook, t_mupd, t_mdel, mapF_some, lookF_some, setM_some, lookR_t, lookR_n, lookR_f, lookR_fn, lookV, mupdV, mdelV, mkM]
      refine ok_some (.inl ⟨rfl, P.length - (i + 1), by omega, _, i + 1, rfl, ⟨?_, ?_, ?_, ?_, ?_, ?_, ?_, ?_⟩, h2, by omega, rfl⟩)
      all_goals simp (maxSteps := 10000000) (disch := omega) only [kp.l, kp.t5, kp.t6, kp.t7, kp.t10, kp.t18, kp.t19, kp.t20, lenV_sl, Int.toNat_natCast, bft, btf, gtst, st_len, hc1, cond_true, cond_false, Nat.reduceBEq, Nat.reduceLT, decide_true, beq_self_eq_true, if_true, if_false]
end Go.Proofs.YtlkeeckhileedaaDoor
namespace Go.Proofs.YtlkeeckhileedaaDoor
open Go.Proofs.YtlkeeckhileedaaDoor.K Go.ChangeShapes Go.WideShapes Go.ChangeAt Go.RowKit
set_option maxRecDepth 100000
set_option linter.unusedSimpArgs false
set_option linter.unusedVariables false

set_option maxHeartbeats 32000000 in
theorem lv7 {B : OH} {H : HL} {N : St} {v : Value} {w : List Int} {k : Int} (hT : Tab B) (hN : good B H N) (hv : SlR f1 1 B H v w) (hw : I64s w) (hk2 : i64R k) : ∃ H' N', callF B { f := G7 B } 1300 L7 [v, .int .i64 k] H N = some (.ret (.bool true), H', N') := by
  have hB := good_B hN
  have hR := good_rdB hN
  have hI := beqN hN.1.1
  obtain ⟨H1, N1, e1, g1, r1⟩ := awake8 hT hN
  obtain ⟨v2, H2, N2, e2, g2, r2, s2⟩ := keys9 g1 (hv.mono r1) hw
  have hke := gKeys_ok w
  have hkl : (gKeys w).length ≤ 20 := by
    have := kRun_len w (gMany w)
    unfold gKeys gMany at *; omega
  have hku : U64s (gKeys w) := kRun_u w _
  have hka : Asc (gKeys w) := kRun_asc w _
  generalize gKeys w = A at *
  have hrd2 := s2.rd w1_len
  have hl2 := s2.len
  show ∃ H' N', T7 B [v, .int .i64 k] H N = _
  have e4 := f15 ⟨H1, N1, g1⟩ k hk2
  have hqu := keyI_u k
  generalize keyI k = q at e4 hqu
  simp -implicitDefEqProofs (maxSteps := 10000000) (disch := omega) only [T7, L7, G7_8, G7_9, G7_10, G7_15, V15_eq, G7_21, G7_25, V25_eq, hB, hR, hI, lenV_sl, Int.toNat_natCast, bft, btf, gtst, st_len, e1, e2, e4, hl2, pad, e_skip, e_ops, e_draw, e_fork, shg_n, shg_c, shg_g, shg_r, d_none, d_nil, d_cons, d_ite, h_none, h_nil, h_cons, h_ite, eqS_same, lightV, e_seq, e_cond, e_block, e_exit, e_ret, s_normal, s_ret, s_exit, s_none, s_ite, b_normal, b_ret, b_exit, b_none, b_ite, c_bool, x_none, x_nil, x_cons, x_ite, p_some, p_none, p_ite, pt_some, pt_none, pv_some, pv_none, pv_ite, w_none, w_some, i_bool, i_undef, bt, bf, v_tmp, v_const, v_global, v_func, evs, f_normal, f_ret, f_none, f_ite, r_some, co_some, l_ptr, m_agg, m_one, sh_app, lk_nil, lk_cons, rd_eq, rdO_some, rdO_none, rdN_none, rdL_some, rdL_none, wrB_none, unitR_some, wr_nil, wr_here, wr_skip, k_cells, tk_zero, tk_take, tk_skip, tkC_some, call_func, gt, st, binV, arith, isSh, storeV, all1, idxAV, fieldV, faddrV, iaddrSV, iaddrAV, pickV, convV, unV, eqbV, eqpV, extV, mm2, mmV, nilckV, ress, res1, retV, Value.cells, cond_true, cond_false, Bool.true_or, Bool.false_or, Bool.or_true, Bool.or_false, beq_self_eq_true, if_true, if_false, ite_true, ite_false, decide_true, decide_false, decide_eq_true_eq, reduceIte, Nat.zero_add, Nat.add_zero, and_self, true_and, and_true, List.size_toArray, List.length_cons, List.length_nil, List.append_nil, List.nil_append, Int.toNat_zero, Bool.not_false, Bool.not_true, Bool.not_not, Bool.false_eq_true, Bool.true_eq_false, reduceCtorEq, Int.reduceLT, Int.reduceLE, Int.reduceToNat, Int.reduceAdd, Int.reduceSub, Int.reduceMul, Int.reduceNeg, Nat.reduceMul, Nat.reduceAdd, Nat.reduceSub, Nat.reduceBEq, Nat.reduceEqDiff, Nat.reduceLT, Nat.reduceLeDiff, Int.reduceBEq, Int.reduceEq, Nat.reducePow, Int.reducePow, IntWalk.i64_in, IntKind.bits, eqAV, eqL, leafEq, andO, fillV, buildSV, List.getElem?_toArray, List.getElem?_cons_zero, List.getElem?_cons_succ, List.getElem?_nil, Int.reduceGT, Int.reduceGE, Int.reduceBNe, Bool.true_and, Bool.and_true, Bool.false_and, Bool.and_false, Bool.and_self, IntWalk.u64_in, Int.cast_ofNat_Int, callF1, pad16, pad_0, pad_1, pad_2, pad_3, pad_4, pad_5, pad_6, pad_7, pad_8, pad_9, pad_10, pad_11, pad_12, pad_13, pad_14, pad_15, gc0, gc1, gc2, gc3, gc4, gc5, gc6, gc7, gc8, gc9, gc10, gc11, gc12, gc13, gc14, gc15, gcS, sc0, sc1, sc2, sc3, sc4, sc5, sc6, sc7, sc8, sc9, sc10, sc11, sc12, sc13, sc14, sc15, scS, List.drop_succ_cons, List.drop_nil, x_pan, s_pan, b_pan, pE_ret, pE_pan, pE_none, pE_ite, pvE_some, pvE_none, pvE_ite, rv_some, rv_none, rv_ite, oR_ret, t_mv, t_pick, t_alloc, t_box, t_build, t_buildS, t_load, t_store, t_nilck, t_bin, t_eqb, t_eqA, t_eqp, t_un, t_conv, t_field, t_idxA, t_faddr, t_iaddrS, t_iaddrA, t_ext, t_len, t_mm, t_call, t_ifc, t_fn, t_slc, t_slcA, t_slcT, t_tass, t_isn, t_mks, t_app, t_pan, panE_i, optE_none, optE_some, bnd_none, bnd_int, slA_none, slA_some, appR_some, appOld_cells, newsV_s, newsV_n, lenS_s, appV_nil, appV_some, mksV_i, sh_c, sh_g, f_pan, endD_ret, dfr_normal, dfr_ret, dfr_pan, restD_normal, callD1, callC1, tassV, isnV, slcV, slcAV, slcTV, slcB, appNew, Option.bind_some, Option.bind_none, d_pan, h_pan, wrH_eq, wrX_cells, wrU_some, upH_nil, upH_cons, lk_upH, effR_some, effR_none, effR_ite, Option.isNone_none, Option.isNone_some, slA_zero, call_yield, e_range, it_func, wy_same, y_call, isLp_self, beg_normal, end_normal, end_ret, end_exit, end_ite, aft_ret, aft_ready, aft_done, aft_exit, setP_cons, setP_nil, sh_r, t_mkmap, t_mlook, t_mupd, t_mdel, mapF_some, lookF_some, setM_some, lookR_t, lookR_n, lookR_f, lookR_fn, lookV, mupdV, mdelV, mkM]
  generalize hX : exec B _ _ (LC.loop _) _ = o
  obtain ⟨x, ⟨ts4, H4, N4⟩, ho, rfl, g4, r4, vk, sk, kp⟩ := (show Ok o _ by rw [← hX]; exact loop7a (q := q) (va := v2) hrd2 hkl g2 ⟨rfl, rfl, rfl, rfl, rfl, rfl⟩ (by omega))
  subst ho
  simp only at kp g4 r4 sk
  have hkl2 : (wo A q A.length).length ≤ 20 := by have := wo_len A q A.length; omega
  have hKa := wo_asc hka q A.length
  have hKu := wo_u hku q A.length
  have hKn := wo_ne A q A.length
  generalize wo A q A.length = K at *
  have hke2 : bErr K = 0 := bErr_asc (by omega) hKa
  have hW := sk.wh w1_len
  have hrd := sk.rd w1_len
  have hlk := sk.len
  clear hB hR hI
  have hB := good_B g4
  have hR := good_rdB g4
  have hI := beqN g4.1.1
  simp -implicitDefEqProofs (maxSteps := 10000000) (disch := omega) only [T7, L7, G7_8, G7_9, G7_10, G7_15, V15_eq, G7_21, G7_25, V25_eq, hB, hR, hI, kp.l, kp.t5, kp.t6, kp.t7, kp.t8, kp.t9, lenV_sl, Int.toNat_natCast, bft, btf, gtst, st_len, pad, e_skip, e_ops, e_draw, e_fork, shg_n, shg_c, shg_g, shg_r, d_none, d_nil, d_cons, d_ite, h_none, h_nil, h_cons, h_ite, eqS_same, lightV, e_seq, e_cond, e_block, e_exit, e_ret, s_normal, s_ret, s_exit, s_none, s_ite, b_normal, b_ret, b_exit, b_none, b_ite, c_bool, x_none, x_nil, x_cons, x_ite, p_some, p_none, p_ite, pt_some, pt_none, pv_some, pv_none, pv_ite, w_none, w_some, i_bool, i_undef, bt, bf, v_tmp, v_const, v_global, v_func, evs, f_normal, f_ret, f_none, f_ite, r_some, co_some, l_ptr, m_agg, m_one, sh_app, lk_nil, lk_cons, rd_eq, rdO_some, rdO_none, rdN_none, rdL_some, rdL_none, wrB_none, unitR_some, wr_nil, wr_here, wr_skip, k_cells, tk_zero, tk_take, tk_skip, tkC_some, call_func, gt, st, binV, arith, isSh, storeV, all1, idxAV, fieldV, faddrV, iaddrSV, iaddrAV, pickV, convV, unV, eqbV, eqpV, extV, mm2, mmV, nilckV, ress, res1, retV, Value.cells, cond_true, cond_false, Bool.true_or, Bool.false_or, Bool.or_true, Bool.or_false, beq_self_eq_true, if_true, if_false, ite_true, ite_false, decide_true, decide_false, decide_eq_true_eq, reduceIte, Nat.zero_add, Nat.add_zero, and_self, true_and, and_true, List.size_toArray, List.length_cons, List.length_nil, List.append_nil, List.nil_append, Int.toNat_zero, Bool.not_false, Bool.not_true, Bool.not_not, Bool.false_eq_true, Bool.true_eq_false, reduceCtorEq, Int.reduceLT, Int.reduceLE, Int.reduceToNat, Int.reduceAdd, Int.reduceSub, Int.reduceMul, Int.reduceNeg, Nat.reduceMul, Nat.reduceAdd, Nat.reduceSub, Nat.reduceBEq, Nat.reduceEqDiff, Nat.reduceLT, Nat.reduceLeDiff, Int.reduceBEq, Int.reduceEq, Nat.reducePow, Int.reducePow, IntWalk.i64_in, IntKind.bits, eqAV, eqL, leafEq, andO, fillV, buildSV, List.getElem?_toArray, List.getElem?_cons_zero, List.getElem?_cons_succ, List.getElem?_nil, Int.reduceGT, Int.reduceGE, Int.reduceBNe, Bool.true_and, Bool.and_true, Bool.false_and, Bool.and_false, Bool.and_self, IntWalk.u64_in, Int.cast_ofNat_Int, callF1, pad16, pad_0, pad_1, pad_2, pad_3, pad_4, pad_5, pad_6, pad_7, pad_8, pad_9, pad_10, pad_11, pad_12, pad_13, pad_14, pad_15, gc0, gc1, gc2, gc3, gc4, gc5, gc6, gc7, gc8, gc9, gc10, gc11, gc12, gc13, gc14, gc15, gcS, sc0, sc1, sc2, sc3, sc4, sc5, sc6, sc7, sc8, sc9, sc10, sc11, sc12, sc13, sc14, sc15, scS, List.drop_succ_cons, List.drop_nil, x_pan, s_pan, b_pan, pE_ret, pE_pan, pE_none, pE_ite, pvE_some, pvE_none, pvE_ite, rv_some, rv_none, rv_ite, oR_ret, t_mv, t_pick, t_alloc, t_box, t_build, t_buildS, t_load, t_store, t_nilck, t_bin, t_eqb, t_eqA, t_eqp, t_un, t_conv, t_field, t_idxA, t_faddr, t_iaddrS, t_iaddrA, t_ext, t_len, t_mm, t_call, t_ifc, t_fn, t_slc, t_slcA, t_slcT, t_tass, t_isn, t_mks, t_app, t_pan, panE_i, optE_none, optE_some, bnd_none, bnd_int, slA_none, slA_some, appR_some, appOld_cells, newsV_s, newsV_n, lenS_s, appV_nil, appV_some, mksV_i, sh_c, sh_g, f_pan, endD_ret, dfr_normal, dfr_ret, dfr_pan, restD_normal, callD1, callC1, tassV, isnV, slcV, slcAV, slcTV, slcB, appNew, Option.bind_some, Option.bind_none, d_pan, h_pan, wrH_eq, wrX_cells, wrU_some, upH_nil, upH_cons, lk_upH, effR_some, effR_none, effR_ite, Option.isNone_none, Option.isNone_some, slA_zero, call_yield, e_range, it_func, wy_same, y_call, isLp_self, beg_normal, end_normal, end_ret, end_exit, end_ite, aft_ret, aft_ready, aft_done, aft_exit, setP_cons, setP_nil, sh_r, t_mkmap, t_mlook, t_mupd, t_mdel, mapF_some, lookF_some, setM_some, lookR_t, lookR_n, lookR_f, lookR_fn, lookV, mupdV, mdelV, mkM]
  clear hX
  generalize hX : exec B _ _ (LC.loop _) _ = o
  obtain ⟨x, ⟨ts5, H5, N5⟩, ho, rfl, hHH, hNN, p, hp, hlo, hpk, kq⟩ := (show Ok o _ by rw [← hX]; exact loop7c (q := q) (vk := vk) hrd hkl2 g4 ⟨by simp (maxSteps := 10000000) (disch := omega) only [kp.l, kp.t5, kp.t6, kp.t7, kp.t8, kp.t9, lenV_sl, Int.toNat_natCast, bft, btf, gtst, st_len, cond_true, cond_false, Nat.reduceBEq, Nat.reduceLT, decide_true, beq_self_eq_true, if_true, if_false, Int.cast_ofNat_Int], by simp (maxSteps := 10000000) (disch := omega) only [kp.l, kp.t5, kp.t6, kp.t7, kp.t8, kp.t9, lenV_sl, Int.toNat_natCast, bft, btf, gtst, st_len, cond_true, cond_false, Nat.reduceBEq, Nat.reduceLT, decide_true, beq_self_eq_true, if_true, if_false, Int.cast_ofNat_Int], by simp (maxSteps := 10000000) (disch := omega) only [kp.l, kp.t5, kp.t6, kp.t7, kp.t8, kp.t9, lenV_sl, Int.toNat_natCast, bft, btf, gtst, st_len, cond_true, cond_false, Nat.reduceBEq, Nat.reduceLT, decide_true, beq_self_eq_true, if_true, if_false, Int.cast_ofNat_Int], by simp (maxSteps := 10000000) (disch := omega) only [kp.l, kp.t5, kp.t6, kp.t7, kp.t8, kp.t9, lenV_sl, Int.toNat_natCast, bft, btf, gtst, st_len, cond_true, cond_false, Nat.reduceBEq, Nat.reduceLT, decide_true, beq_self_eq_true, if_true, if_false, Int.cast_ofNat_Int], by simp (maxSteps := 10000000) (disch := omega) only [kp.l, kp.t5, kp.t6, kp.t7, kp.t8, kp.t9, lenV_sl, Int.toNat_natCast, bft, btf, gtst, st_len, cond_true, cond_false, Nat.reduceBEq, Nat.reduceLT, decide_true, beq_self_eq_true, if_true, if_false, Int.cast_ofNat_Int]⟩ (by omega))
  subst ho
  simp only at kq hHH hNN
  obtain rfl : H4 = H5 := hHH.symm
  obtain rfl : N4 = N5 := hNN.symm
  clear kp
  have kp := kq
  have hhi : ∀ j, p ≤ j → j < K.length → q < K.getD j 0 := fun j j1 j2 => by
    have h1 := hpk (by omega)
    have h2 := hKn j j2
    by_cases e : j = p
    · rw [e] at h2 ⊢; omega
    · have := hKa.lt (i := p) (j := j) (by omega) j2
      omega
  obtain ⟨a, cap, rfl, hcap, _⟩ := id hW
  have hvkc : (Value.slice a K.length cap).cells = #[.slice a K.length cap] := rfl
  obtain ⟨a1, ea1, hp1⟩ := hW.part w1_len (i := 0) (k := p) (by omega)
  obtain ⟨a2, ea2, hp2⟩ := hW.part w1_len (i := p) (k := K.length - p) (by omega)
  have hp1 := hp1 cap (by omega)
  have hp2 := hp2 (cap - p) (by omega)
  rw [List.drop_zero] at hp1
  rw [List.take_of_length_le (by rw [List.length_drop]; exact Nat.le_refl _)] at hp2
  simp only [Nat.mul_one] at ea1 ea2
  rw [slA_ite3] at ea1
  obtain rfl := Option.some.inj ea1
  clear ea1
  skip
  have hl1 : (K.take p).length = p := by rw [List.length_take]; omega
  have hl2 : (K.drop p).length = K.length - p := List.length_drop
  have b1 : (0 : Int) ≤ (p : Int) := by omega
  have b2 : (p : Int) ≤ (K.length : Int) := by omega
  have b3 : (p : Int) ≤ (cap : Int) := by omega
  cases hg : N4.g 0 with
  | true =>
    have gs : good B H4 (shg N4) := g4
    obtain ⟨v1, K1, M1, e1, g1, fr1, _, s1, _⟩ := app_many (bytes := 8) (v := .slice none 0 0) (L := ([] : List Int)) w1_len (by omega) gs (Fr.refl (H := H4)) (.inl ⟨rfl, rfl⟩) hp1 (all1_w1 _) (by simp only [hl1, List.length_nil]; omega) (by simp only [hl1, List.length_nil]; omega)
    obtain ⟨v2, K2, M2, e2, g2, fr2, _, s2, _⟩ := push_specM (bytes := 8) w1_len g1 fr1 s1 q rfl (by simp only [List.nil_append, hl1]; omega) (by simp only [List.nil_append, hl1]; omega)
    obtain ⟨v3, K3, M3, e3, g3, fr3, _, s3, _⟩ := app_many (bytes := 8) w1_len (by omega) g2 fr2 s2.toM (hp2.mono fr2) (all1_w1 _) (by simp only [List.nil_append, List.length_append, hl1, hl2, List.length_cons, List.length_nil]; omega) (by simp only [List.nil_append, List.length_append, hl1, hl2, List.length_cons, List.length_nil]; omega)
    simp only [w1] at e2
    have hR1 := good_rdB g1
    have hB1 := good_B g1
    have s3 : SlM w1 1 B H4 K3 v3 (K.take p ++ q :: K.drop p) := by simpa using s3
    have s3m : SlM w1 1 B H4 K3 v3 (putK K p q) := s3
    have r3 := fr3
    have hml : (putK K p q).length = K.length + 1 := putK_len hp
    have hmu : U64s (putK K p q) := fun x hx => by
      unfold putK at hx
      rcases List.mem_append.1 hx with h | h
      · exact hKu x (List.mem_of_mem_take h)
      · rcases List.mem_cons.1 h with rfl | h
        · exact hqu
        · exact hKu x (List.mem_of_mem_drop h)
    have hma : Asc (putK K p q) := putK_asc hKa hp hlo hhi
    have hme : bErr (putK K p q) = 0 := bErr_asc (by omega) hma
    have hsp := puts hKa hKu hqu hp hlo hhi K.length 0 (by omega) (by omega) (by omega)
    have rm := s3m.rd w1_len
    obtain ⟨v5, H5, N5, e5, g5, r5, s5⟩ := build hT g3 (hrd.mono r3) hKu
    obtain ⟨v6, H6, N6, e6, g6, r6, s6⟩ := build hT g5 (rm.mono r5) hmu
    rw [hke2] at e5
    rw [hme] at e6
    have rl5 := s5.rd p2_len
    have rl6 := s6.rd p2_len
    obtain ⟨v7, H7, N7, e7, g7, r7, s7⟩ := path21 (root := bRoot K) (key := q) hT g6 (hrd.mono ((r3.trans r5).trans r6)) hKu (rl5.mono r6) hvkc (by obtain ⟨a, c, rfl, _⟩ := rl5; rfl)
    obtain ⟨v8, H8, N8, e8, g8, r8, s8⟩ := path21 (root := bRoot (putK K p q)) (key := q) hT g7 (rm.mono ((r5.trans r6).trans r7)) hmu (rl6.mono r7) (by obtain ⟨a, c, rfl, _⟩ := rm; rfl) (by obtain ⟨a, c, rfl, _⟩ := rl6; rfl)
    rw [if_pos (rOk_own hke2)] at s7
    rw [if_pos (rOk_own hme), hml] at s8
    have rp7 := s7.rd f1_len
    have rp8 := s8.rd f1_len
    have hPb : ∀ s ∈ Pth K q 0 K.length, 1 ≤ s ∧ s ≤ K.length := fun s hs => by have := Pth_b K q K.length 0 s hs; omega
    have hPl : (Pth K q 0 K.length).length ≤ 256 := by have := Pth_len K q K.length 0; omega
    have hCl : (Pth (putK K p q) q 0 (K.length + 1)).length ≤ 256 := by have := Pth_len (putK K p q) q (K.length + 1) 0; omega
    have hl7 := s7.len
    have hl8 := s8.len
    rw [List.length_map] at hl7 hl8
    generalize Pth K q 0 K.length = P at *
    generalize Pth (putK K p q) q 0 (K.length + 1) = C at *
    simp -implicitDefEqProofs (maxSteps := 10000000) (disch := omega) only [T7, L7, G7_8, G7_9, G7_10, G7_15, V15_eq, G7_21, G7_25, V25_eq, hB, hR, hI, kp.l, kp.t5, kp.t6, kp.t7, kp.t10, lenV_sl, Int.toNat_natCast, bft, btf, gtst, st_len, newsV_1, ea2, b1, b2, b3, hg, e1, e2, e3, hR1, hB1, Nat.sub_zero, slA_ite3, Nat.mul_one, e5, e6, e7, e8, bne_self_eq_false, pad, e_skip, e_ops, e_draw, e_fork, shg_n, shg_c, shg_g, shg_r, d_none, d_nil, d_cons, d_ite, h_none, h_nil, h_cons, h_ite, eqS_same, lightV, e_seq, e_cond, e_block, e_exit, e_ret, s_normal, s_ret, s_exit, s_none, s_ite, b_normal, b_ret, b_exit, b_none, b_ite, c_bool, x_none, x_nil, x_cons, x_ite, p_some, p_none, p_ite, pt_some, pt_none, pv_some, pv_none, pv_ite, w_none, w_some, i_bool, i_undef, bt, bf, v_tmp, v_const, v_global, v_func, evs, f_normal, f_ret, f_none, f_ite, r_some, co_some, l_ptr, m_agg, m_one, sh_app, lk_nil, lk_cons, rd_eq, rdO_some, rdO_none, rdN_none, rdL_some, rdL_none, wrB_none, unitR_some, wr_nil, wr_here, wr_skip, k_cells, tk_zero, tk_take, tk_skip, tkC_some, call_func, gt, st, binV, arith, isSh, storeV, all1, idxAV, fieldV, faddrV, iaddrSV, iaddrAV, pickV, convV, unV, eqbV, eqpV, extV, mm2, mmV, nilckV, ress, res1, retV, Value.cells, cond_true, cond_false, Bool.true_or, Bool.false_or, Bool.or_true, Bool.or_false, beq_self_eq_true, if_true, if_false, ite_true, ite_false, decide_true, decide_false, decide_eq_true_eq, reduceIte, Nat.zero_add, Nat.add_zero, and_self, true_and, and_true, List.size_toArray, List.length_cons, List.length_nil, List.append_nil, List.nil_append, Int.toNat_zero, Bool.not_false, Bool.not_true, Bool.not_not, Bool.false_eq_true, Bool.true_eq_false, reduceCtorEq, Int.reduceLT, Int.reduceLE, Int.reduceToNat, Int.reduceAdd, Int.reduceSub, Int.reduceMul, Int.reduceNeg, Nat.reduceMul, Nat.reduceAdd, Nat.reduceSub, Nat.reduceBEq, Nat.reduceEqDiff, Nat.reduceLT, Nat.reduceLeDiff, Int.reduceBEq, Int.reduceEq, Nat.reducePow, Int.reducePow, IntWalk.i64_in, IntKind.bits, eqAV, eqL, leafEq, andO, fillV, buildSV, List.getElem?_toArray, List.getElem?_cons_zero, List.getElem?_cons_succ, List.getElem?_nil, Int.reduceGT, Int.reduceGE, Int.reduceBNe, Bool.true_and, Bool.and_true, Bool.false_and, Bool.and_false, Bool.and_self, IntWalk.u64_in, Int.cast_ofNat_Int, callF1, pad16, pad_0, pad_1, pad_2, pad_3, pad_4, pad_5, pad_6, pad_7, pad_8, pad_9, pad_10, pad_11, pad_12, pad_13, pad_14, pad_15, gc0, gc1, gc2, gc3, gc4, gc5, gc6, gc7, gc8, gc9, gc10, gc11, gc12, gc13, gc14, gc15, gcS, sc0, sc1, sc2, sc3, sc4, sc5, sc6, sc7, sc8, sc9, sc10, sc11, sc12, sc13, sc14, sc15, scS, List.drop_succ_cons, List.drop_nil, x_pan, s_pan, b_pan, pE_ret, pE_pan, pE_none, pE_ite, pvE_some, pvE_none, pvE_ite, rv_some, rv_none, rv_ite, oR_ret, t_mv, t_pick, t_alloc, t_box, t_build, t_buildS, t_load, t_store, t_nilck, t_bin, t_eqb, t_eqA, t_eqp, t_un, t_conv, t_field, t_idxA, t_faddr, t_iaddrS, t_iaddrA, t_ext, t_len, t_mm, t_call, t_ifc, t_fn, t_slc, t_slcA, t_slcT, t_tass, t_isn, t_mks, t_app, t_pan, panE_i, optE_none, optE_some, bnd_none, bnd_int, slA_none, slA_some, appR_some, appOld_cells, newsV_n, lenS_s, appV_nil, appV_some, mksV_i, sh_c, sh_g, f_pan, endD_ret, dfr_normal, dfr_ret, dfr_pan, restD_normal, callD1, callC1, tassV, isnV, slcV, slcAV, slcTV, slcB, appNew, Option.bind_some, Option.bind_none, d_pan, h_pan, wrH_eq, wrX_cells, wrU_some, upH_nil, upH_cons, lk_upH, effR_some, effR_none, effR_ite, Option.isNone_none, Option.isNone_some, slA_zero, call_yield, e_range, it_func, wy_same, y_call, isLp_self, beg_normal, end_normal, end_ret, end_exit, end_ite, aft_ret, aft_ready, aft_done, aft_exit, setP_cons, setP_nil, sh_r, t_mkmap, t_mlook, t_mupd, t_mdel, mapF_some, lookF_some, setM_some, lookR_t, lookR_n, lookR_f, lookR_fn, lookV, mupdV, mdelV, mkM]
    clear hX
    generalize hX : exec B _ _ (LC.loop _) _ = o
    obtain ⟨x, ⟨ts9, H9, N9⟩, ho, rfl, hHH, hNN, i, hi, hC1, hC2, kr⟩ := (show Ok o _ by rw [← hX]; exact loop7d (q := q) (p := p) (vk := .slice a K.length cap) (hrd.mono (((r3.trans r5).trans r6).trans (r7.trans r8))) hKu hqu hkl2 hp (rp7.mono r8) rp8 hPb hPl hsp g8 ⟨by simp (maxSteps := 10000000) (disch := omega) only [kp.l, kp.t5, kp.t6, kp.t7, kp.t10, lenV_sl, Int.toNat_natCast, bft, btf, gtst, st_len, cond_true, cond_false, Nat.reduceBEq, Nat.reduceLT, decide_true, beq_self_eq_true, if_true, if_false, Int.cast_ofNat_Int], by simp (maxSteps := 10000000) (disch := omega) only [kp.l, kp.t5, kp.t6, kp.t7, kp.t10, lenV_sl, Int.toNat_natCast, bft, btf, gtst, st_len, cond_true, cond_false, Nat.reduceBEq, Nat.reduceLT, decide_true, beq_self_eq_true, if_true, if_false, Int.cast_ofNat_Int], by simp (maxSteps := 10000000) (disch := omega) only [kp.l, kp.t5, kp.t6, kp.t7, kp.t10, lenV_sl, Int.toNat_natCast, bft, btf, gtst, st_len, cond_true, cond_false, Nat.reduceBEq, Nat.reduceLT, decide_true, beq_self_eq_true, if_true, if_false, Int.cast_ofNat_Int], by simp (maxSteps := 10000000) (disch := omega) only [kp.l, kp.t5, kp.t6, kp.t7, kp.t10, lenV_sl, Int.toNat_natCast, bft, btf, gtst, st_len, cond_true, cond_false, Nat.reduceBEq, Nat.reduceLT, decide_true, beq_self_eq_true, if_true, if_false, Int.cast_ofNat_Int], by simp (maxSteps := 10000000) (disch := omega) only [kp.l, kp.t5, kp.t6, kp.t7, kp.t10, lenV_sl, Int.toNat_natCast, bft, btf, gtst, st_len, cond_true, cond_false, Nat.reduceBEq, Nat.reduceLT, decide_true, beq_self_eq_true, if_true, if_false, Int.cast_ofNat_Int], by simp (maxSteps := 10000000) (disch := omega) only [kp.l, kp.t5, kp.t6, kp.t7, kp.t10, lenV_sl, Int.toNat_natCast, bft, btf, gtst, st_len, cond_true, cond_false, Nat.reduceBEq, Nat.reduceLT, decide_true, beq_self_eq_true, if_true, if_false, Int.cast_ofNat_Int], by simp (maxSteps := 10000000) (disch := omega) only [kp.l, kp.t5, kp.t6, kp.t7, kp.t10, lenV_sl, Int.toNat_natCast, bft, btf, gtst, st_len, cond_true, cond_false, Nat.reduceBEq, Nat.reduceLT, decide_true, beq_self_eq_true, if_true, if_false, Int.cast_ofNat_Int], by simp (maxSteps := 10000000) (disch := omega) only [kp.l, kp.t5, kp.t6, kp.t7, kp.t10, lenV_sl, Int.toNat_natCast, bft, btf, gtst, st_len, cond_true, cond_false, Nat.reduceBEq, Nat.reduceLT, decide_true, beq_self_eq_true, if_true, if_false, Int.cast_ofNat_Int]⟩ (by omega))
    subst ho
    simp only at kr hHH hNN
    obtain rfl : H8 = H9 := hHH.symm
    obtain rfl : N8 = N9 := hNN.symm
    clear kp kq
    have kp := kr
    have w1' : ((C.length : Int) == (i : Int) + 1) = true := by simp; omega
    have w2' : IntKind.i64.wrap ((i : Int) + 1) = (i : Int) + 1 := IntWalk.i64_in _ (by omega)
    have w3' : IntKind.i64.wrap ((p : Int) + 1) = (p : Int) + 1 := IntWalk.i64_in _ (by omega)
    have hiC : i < C.length := by omega
    have hib : i < (C.map iC).length := by rw [List.length_map]; exact hiC
    have i0 : (0 : Int) ≤ (i : Int) := by omega
    obtain ⟨bc, oc, cc, hce, _, rc⟩ := rp8.at (by omega)
    subst hce
    have qc : rdO H8 B bc (oc + i) 1 (rdB B bc (oc + i) 1) = some [.int .i64 ((p : Int) + 1)] := by
      have := rc H8 Fr.refl i 0 1 0 hib (by omega)
      rw [Nat.mul_one, Nat.add_zero, mapD hiC, hC2] at this
      exact this.trans rfl
    simp -implicitDefEqProofs (maxSteps := 10000000) (disch := omega) only [T7, L7, G7_8, G7_9, G7_10, G7_15, V15_eq, G7_21, G7_25, V25_eq, hB, hR, hI, kp.l, kp.t5, kp.t6, kp.t7, kp.t10, kp.t18, kp.t19, kp.t20, lenV_sl, Int.toNat_natCast, bft, btf, gtst, st_len, hl8, w1', w2', w3', hiC, hib, i0, qc, Nat.mul_one, beq_self_eq_true, pad, e_skip, e_ops, e_draw, e_fork, shg_n, shg_c, shg_g, shg_r, d_none, d_nil, d_cons, d_ite, h_none, h_nil, h_cons, h_ite, eqS_same, lightV, e_seq, e_cond, e_block, e_exit, e_ret, s_normal, s_ret, s_exit, s_none, s_ite, b_normal, b_ret, b_exit, b_none, b_ite, c_bool, x_none, x_nil, x_cons, x_ite, p_some, p_none, p_ite, pt_some, pt_none, pv_some, pv_none, pv_ite, w_none, w_some, i_bool, i_undef, bt, bf, v_tmp, v_const, v_global, v_func, evs, f_normal, f_ret, f_none, f_ite, r_some, co_some, l_ptr, m_agg, m_one, sh_app, lk_nil, lk_cons, rd_eq, rdO_some, rdO_none, rdN_none, rdL_some, rdL_none, wrB_none, unitR_some, wr_nil, wr_here, wr_skip, k_cells, tk_zero, tk_take, tk_skip, tkC_some, call_func, gt, st, binV, arith, isSh, storeV, all1, idxAV, fieldV, faddrV, iaddrSV, iaddrAV, pickV, convV, unV, eqbV, eqpV, extV, mm2, mmV, nilckV, ress, res1, retV, Value.cells, cond_true, cond_false, Bool.true_or, Bool.false_or, Bool.or_true, Bool.or_false, beq_self_eq_true, if_true, if_false, ite_true, ite_false, decide_true, decide_false, decide_eq_true_eq, reduceIte, Nat.zero_add, Nat.add_zero, and_self, true_and, and_true, List.size_toArray, List.length_cons, List.length_nil, List.append_nil, List.nil_append, Int.toNat_zero, Bool.not_false, Bool.not_true, Bool.not_not, Bool.false_eq_true, Bool.true_eq_false, reduceCtorEq, Int.reduceLT, Int.reduceLE, Int.reduceToNat, Int.reduceAdd, Int.reduceSub, Int.reduceMul, Int.reduceNeg, Nat.reduceMul, Nat.reduceAdd, Nat.reduceSub, Nat.reduceBEq, Nat.reduceEqDiff, Nat.reduceLT, Nat.reduceLeDiff, Int.reduceBEq, Int.reduceEq, Nat.reducePow, Int.reducePow, IntWalk.i64_in, IntKind.bits, eqAV, eqL, leafEq, andO, fillV, buildSV, List.getElem?_toArray, List.getElem?_cons_zero, List.getElem?_cons_succ, List.getElem?_nil, Int.reduceGT, Int.reduceGE, Int.reduceBNe, Bool.true_and, Bool.and_true, Bool.false_and, Bool.and_false, Bool.and_self, IntWalk.u64_in, Int.cast_ofNat_Int, callF1, pad16, pad_0, pad_1, pad_2, pad_3, pad_4, pad_5, pad_6, pad_7, pad_8, pad_9, pad_10, pad_11, pad_12, pad_13, pad_14, pad_15, gc0, gc1, gc2, gc3, gc4, gc5, gc6, gc7, gc8, gc9, gc10, gc11, gc12, gc13, gc14, gc15, gcS, sc0, sc1, sc2, sc3, sc4, sc5, sc6, sc7, sc8, sc9, sc10, sc11, sc12, sc13, sc14, sc15, scS, List.drop_succ_cons, List.drop_nil, x_pan, s_pan, b_pan, pE_ret, pE_pan, pE_none, pE_ite, pvE_some, pvE_none, pvE_ite, rv_some, rv_none, rv_ite, oR_ret, t_mv, t_pick, t_alloc, t_box, t_build, t_buildS, t_load, t_store, t_nilck, t_bin, t_eqb, t_eqA, t_eqp, t_un, t_conv, t_field, t_idxA, t_faddr, t_iaddrS, t_iaddrA, t_ext, t_len, t_mm, t_call, t_ifc, t_fn, t_slc, t_slcA, t_slcT, t_tass, t_isn, t_mks, t_app, t_pan, panE_i, optE_none, optE_some, bnd_none, bnd_int, slA_none, slA_some, appR_some, appOld_cells, newsV_s, newsV_n, lenS_s, appV_nil, appV_some, mksV_i, sh_c, sh_g, f_pan, endD_ret, dfr_normal, dfr_ret, dfr_pan, restD_normal, callD1, callC1, tassV, isnV, slcV, slcAV, slcTV, slcB, appNew, Option.bind_some, Option.bind_none, d_pan, h_pan, wrH_eq, wrX_cells, wrU_some, upH_nil, upH_cons, lk_upH, effR_some, effR_none, effR_ite, Option.isNone_none, Option.isNone_some, slA_zero, call_yield, e_range, it_func, wy_same, y_call, isLp_self, beg_normal, end_normal, end_ret, end_exit, end_ite, aft_ret, aft_ready, aft_done, aft_exit, setP_cons, setP_nil, sh_r, t_mkmap, t_mlook, t_mupd, t_mdel, mapF_some, lookF_some, setM_some, lookR_t, lookR_n, lookR_f, lookR_fn, lookV, mupdV, mdelV, mkM]
    exact ⟨_, _, rfl⟩
  | false =>
    have gs : good B H4 (shg N4) := g4
    have gn : good B ((N4.n 0, .cells [.int .u64 q] 1) :: H4) (sh (shg N4)) := good_new gs
    have frn : Fr H4 ((N4.n 0, .cells [.int .u64 q] 1) :: H4) := fr_new gs Fr.refl 0
    have ltop : lk ((N4.n 0, .cells [.int .u64 q] 1) :: H4) (N4.n 0) = some (.cells [.int .u64 q] 1) := lk_top
    have hBn : B (N4.n 0) = none := good_B gs 0
    have rn := fun o n => rdB_none (o := o) (n := n) hBn
    obtain ⟨v1, K1, M1, e1, g1, fr1, fs1, s1, _⟩ := app_many (bytes := 8) (v := .slice none 0 0) (L := ([] : List Int)) w1_len (by omega) gn frn (.inl ⟨rfl, rfl⟩) (hp1.mono frn) (all1_w1 _) (by simp only [hl1, List.length_nil]; omega) (by simp only [hl1, List.length_nil]; omega)
    have lt1 := fs1 _ _ (by simp [slB]) ltop
    obtain ⟨v2, K2, M2, e2, g2, d2, fs2, s2, _⟩ := app_specM (H0 := H4) (bytes := 8) w1_len g1 fr1.dm s1 q rfl (by simp only [List.nil_append, hl1]; omega) (by simp only [List.nil_append, hl1]; omega)
    have fr2 : Fr H4 K2 := fun y c hy => fs2 y c (s1.ne hy) (fr1 y c hy)
    obtain ⟨v3, K3, M3, e3, g3, fr3, _, s3, _⟩ := app_many (bytes := 8) w1_len (by omega) g2 fr2 s2.toM (hp2.mono fr2) (all1_w1 _) (by simp only [List.nil_append, List.length_append, hl1, hl2, List.length_cons, List.length_nil]; omega) (by simp only [List.nil_append, List.length_append, hl1, hl2, List.length_cons, List.length_nil]; omega)
    simp only [w1] at e2
    have s3 : SlM w1 1 B H4 K3 v3 (K.take p ++ q :: K.drop p) := by simpa using s3
    have s3m : SlM w1 1 B H4 K3 v3 (putK K p q) := s3
    have r3 := fr3
    have hml : (putK K p q).length = K.length + 1 := putK_len hp
    have hmu : U64s (putK K p q) := fun x hx => by
      unfold putK at hx
      rcases List.mem_append.1 hx with h | h
      · exact hKu x (List.mem_of_mem_take h)
      · rcases List.mem_cons.1 h with rfl | h
        · exact hqu
        · exact hKu x (List.mem_of_mem_drop h)
    have hma : Asc (putK K p q) := putK_asc hKa hp hlo hhi
    have hme : bErr (putK K p q) = 0 := bErr_asc (by omega) hma
    have hsp := puts hKa hKu hqu hp hlo hhi K.length 0 (by omega) (by omega) (by omega)
    have rm := s3m.rd w1_len
    obtain ⟨v5, H5, N5, e5, g5, r5, s5⟩ := build hT g3 (hrd.mono r3) hKu
    obtain ⟨v6, H6, N6, e6, g6, r6, s6⟩ := build hT g5 (rm.mono r5) hmu
    rw [hke2] at e5
    rw [hme] at e6
    have rl5 := s5.rd p2_len
    have rl6 := s6.rd p2_len
    obtain ⟨v7, H7, N7, e7, g7, r7, s7⟩ := path21 (root := bRoot K) (key := q) hT g6 (hrd.mono ((r3.trans r5).trans r6)) hKu (rl5.mono r6) hvkc (by obtain ⟨a, c, rfl, _⟩ := rl5; rfl)
    obtain ⟨v8, H8, N8, e8, g8, r8, s8⟩ := path21 (root := bRoot (putK K p q)) (key := q) hT g7 (rm.mono ((r5.trans r6).trans r7)) hmu (rl6.mono r7) (by obtain ⟨a, c, rfl, _⟩ := rm; rfl) (by obtain ⟨a, c, rfl, _⟩ := rl6; rfl)
    rw [if_pos (rOk_own hke2)] at s7
    rw [if_pos (rOk_own hme), hml] at s8
    have rp7 := s7.rd f1_len
    have rp8 := s8.rd f1_len
    have hPb : ∀ s ∈ Pth K q 0 K.length, 1 ≤ s ∧ s ≤ K.length := fun s hs => by have := Pth_b K q K.length 0 s hs; omega
    have hPl : (Pth K q 0 K.length).length ≤ 256 := by have := Pth_len K q K.length 0; omega
    have hCl : (Pth (putK K p q) q 0 (K.length + 1)).length ≤ 256 := by have := Pth_len (putK K p q) q (K.length + 1) 0; omega
    have hl7 := s7.len
    have hl8 := s8.len
    rw [List.length_map] at hl7 hl8
    generalize Pth K q 0 K.length = P at *
    generalize Pth (putK K p q) q 0 (K.length + 1) = C at *
    simp -implicitDefEqProofs (maxSteps := 10000000) (disch := omega) only [T7, L7, G7_8, G7_9, G7_10, G7_15, V15_eq, G7_21, G7_25, V25_eq, hB, hR, hI, kp.l, kp.t5, kp.t6, kp.t7, kp.t10, lenV_sl, Int.toNat_natCast, bft, btf, gtst, st_len, newsV_1, ea2, b1, b2, b3, hg, e1, e2, e3, rn, hBn, lt1, Nat.sub_zero, slA_ite3, Nat.mul_one, e5, e6, e7, e8, bne_self_eq_false, pad, e_skip, e_ops, e_draw, e_fork, shg_n, shg_c, shg_g, shg_r, d_none, d_nil, d_cons, d_ite, h_none, h_nil, h_cons, h_ite, eqS_same, lightV, e_seq, e_cond, e_block, e_exit, e_ret, s_normal, s_ret, s_exit, s_none, s_ite, b_normal, b_ret, b_exit, b_none, b_ite, c_bool, x_none, x_nil, x_cons, x_ite, p_some, p_none, p_ite, pt_some, pt_none, pv_some, pv_none, pv_ite, w_none, w_some, i_bool, i_undef, bt, bf, v_tmp, v_const, v_global, v_func, evs, f_normal, f_ret, f_none, f_ite, r_some, co_some, l_ptr, m_agg, m_one, sh_app, lk_nil, lk_cons, rd_eq, rdO_some, rdO_none, rdN_none, rdL_some, rdL_none, wrB_none, unitR_some, wr_nil, wr_here, wr_skip, k_cells, tk_zero, tk_take, tk_skip, tkC_some, call_func, gt, st, binV, arith, isSh, storeV, all1, idxAV, fieldV, faddrV, iaddrSV, iaddrAV, pickV, convV, unV, eqbV, eqpV, extV, mm2, mmV, nilckV, ress, res1, retV, Value.cells, cond_true, cond_false, Bool.true_or, Bool.false_or, Bool.or_true, Bool.or_false, beq_self_eq_true, if_true, if_false, ite_true, ite_false, decide_true, decide_false, decide_eq_true_eq, reduceIte, Nat.zero_add, Nat.add_zero, and_self, true_and, and_true, List.size_toArray, List.length_cons, List.length_nil, List.append_nil, List.nil_append, Int.toNat_zero, Bool.not_false, Bool.not_true, Bool.not_not, Bool.false_eq_true, Bool.true_eq_false, reduceCtorEq, Int.reduceLT, Int.reduceLE, Int.reduceToNat, Int.reduceAdd, Int.reduceSub, Int.reduceMul, Int.reduceNeg, Nat.reduceMul, Nat.reduceAdd, Nat.reduceSub, Nat.reduceBEq, Nat.reduceEqDiff, Nat.reduceLT, Nat.reduceLeDiff, Int.reduceBEq, Int.reduceEq, Nat.reducePow, Int.reducePow, IntWalk.i64_in, IntKind.bits, eqAV, eqL, leafEq, andO, fillV, buildSV, List.getElem?_toArray, List.getElem?_cons_zero, List.getElem?_cons_succ, List.getElem?_nil, Int.reduceGT, Int.reduceGE, Int.reduceBNe, Bool.true_and, Bool.and_true, Bool.false_and, Bool.and_false, Bool.and_self, IntWalk.u64_in, Int.cast_ofNat_Int, callF1, pad16, pad_0, pad_1, pad_2, pad_3, pad_4, pad_5, pad_6, pad_7, pad_8, pad_9, pad_10, pad_11, pad_12, pad_13, pad_14, pad_15, gc0, gc1, gc2, gc3, gc4, gc5, gc6, gc7, gc8, gc9, gc10, gc11, gc12, gc13, gc14, gc15, gcS, sc0, sc1, sc2, sc3, sc4, sc5, sc6, sc7, sc8, sc9, sc10, sc11, sc12, sc13, sc14, sc15, scS, List.drop_succ_cons, List.drop_nil, x_pan, s_pan, b_pan, pE_ret, pE_pan, pE_none, pE_ite, pvE_some, pvE_none, pvE_ite, rv_some, rv_none, rv_ite, oR_ret, t_mv, t_pick, t_alloc, t_box, t_build, t_buildS, t_load, t_store, t_nilck, t_bin, t_eqb, t_eqA, t_eqp, t_un, t_conv, t_field, t_idxA, t_faddr, t_iaddrS, t_iaddrA, t_ext, t_len, t_mm, t_call, t_ifc, t_fn, t_slc, t_slcA, t_slcT, t_tass, t_isn, t_mks, t_app, t_pan, panE_i, optE_none, optE_some, bnd_none, bnd_int, slA_none, slA_some, appR_some, appOld_cells, newsV_n, lenS_s, appV_nil, appV_some, mksV_i, sh_c, sh_g, f_pan, endD_ret, dfr_normal, dfr_ret, dfr_pan, restD_normal, callD1, callC1, tassV, isnV, slcV, slcAV, slcTV, slcB, appNew, Option.bind_some, Option.bind_none, d_pan, h_pan, wrH_eq, wrX_cells, wrU_some, upH_nil, upH_cons, lk_upH, effR_some, effR_none, effR_ite, Option.isNone_none, Option.isNone_some, slA_zero, call_yield, e_range, it_func, wy_same, y_call, isLp_self, beg_normal, end_normal, end_ret, end_exit, end_ite, aft_ret, aft_ready, aft_done, aft_exit, setP_cons, setP_nil, sh_r, t_mkmap, t_mlook, t_mupd, t_mdel, mapF_some, lookF_some, setM_some, lookR_t, lookR_n, lookR_f, lookR_fn, lookV, mupdV, mdelV, mkM]
    clear hX
    generalize hX : exec B _ _ (LC.loop _) _ = o
    obtain ⟨x, ⟨ts9, H9, N9⟩, ho, rfl, hHH, hNN, i, hi, hC1, hC2, kr⟩ := (show Ok o _ by rw [← hX]; exact loop7d (q := q) (p := p) (vk := .slice a K.length cap) (hrd.mono (((r3.trans r5).trans r6).trans (r7.trans r8))) hKu hqu hkl2 hp (rp7.mono r8) rp8 hPb hPl hsp g8 ⟨by simp (maxSteps := 10000000) (disch := omega) only [kp.l, kp.t5, kp.t6, kp.t7, kp.t10, lenV_sl, Int.toNat_natCast, bft, btf, gtst, st_len, cond_true, cond_false, Nat.reduceBEq, Nat.reduceLT, decide_true, beq_self_eq_true, if_true, if_false, Int.cast_ofNat_Int], by simp (maxSteps := 10000000) (disch := omega) only [kp.l, kp.t5, kp.t6, kp.t7, kp.t10, lenV_sl, Int.toNat_natCast, bft, btf, gtst, st_len, cond_true, cond_false, Nat.reduceBEq, Nat.reduceLT, decide_true, beq_self_eq_true, if_true, if_false, Int.cast_ofNat_Int], by simp (maxSteps := 10000000) (disch := omega) only [kp.l, kp.t5, kp.t6, kp.t7, kp.t10, lenV_sl, Int.toNat_natCast, bft, btf, gtst, st_len, cond_true, cond_false, Nat.reduceBEq, Nat.reduceLT, decide_true, beq_self_eq_true, if_true, if_false, Int.cast_ofNat_Int], by simp (maxSteps := 10000000) (disch := omega) only [kp.l, kp.t5, kp.t6, kp.t7, kp.t10, lenV_sl, Int.toNat_natCast, bft, btf, gtst, st_len, cond_true, cond_false, Nat.reduceBEq, Nat.reduceLT, decide_true, beq_self_eq_true, if_true, if_false, Int.cast_ofNat_Int], by simp (maxSteps := 10000000) (disch := omega) only [kp.l, kp.t5, kp.t6, kp.t7, kp.t10, lenV_sl, Int.toNat_natCast, bft, btf, gtst, st_len, cond_true, cond_false, Nat.reduceBEq, Nat.reduceLT, decide_true, beq_self_eq_true, if_true, if_false, Int.cast_ofNat_Int], by simp (maxSteps := 10000000) (disch := omega) only [kp.l, kp.t5, kp.t6, kp.t7, kp.t10, lenV_sl, Int.toNat_natCast, bft, btf, gtst, st_len, cond_true, cond_false, Nat.reduceBEq, Nat.reduceLT, decide_true, beq_self_eq_true, if_true, if_false, Int.cast_ofNat_Int], by simp (maxSteps := 10000000) (disch := omega) only [kp.l, kp.t5, kp.t6, kp.t7, kp.t10, lenV_sl, Int.toNat_natCast, bft, btf, gtst, st_len, cond_true, cond_false, Nat.reduceBEq, Nat.reduceLT, decide_true, beq_self_eq_true, if_true, if_false, Int.cast_ofNat_Int], by simp (maxSteps := 10000000) (disch := omega) only [kp.l, kp.t5, kp.t6, kp.t7, kp.t10, lenV_sl, Int.toNat_natCast, bft, btf, gtst, st_len, cond_true, cond_false, Nat.reduceBEq, Nat.reduceLT, decide_true, beq_self_eq_true, if_true, if_false, Int.cast_ofNat_Int]⟩ (by omega))
    subst ho
    simp only at kr hHH hNN
    obtain rfl : H8 = H9 := hHH.symm
    obtain rfl : N8 = N9 := hNN.symm
    clear kp kq
    have kp := kr
    have w1' : ((C.length : Int) == (i : Int) + 1) = true := by simp; omega
    have w2' : IntKind.i64.wrap ((i : Int) + 1) = (i : Int) + 1 := IntWalk.i64_in _ (by omega)
    have w3' : IntKind.i64.wrap ((p : Int) + 1) = (p : Int) + 1 := IntWalk.i64_in _ (by omega)
    have hiC : i < C.length := by omega
    have hib : i < (C.map iC).length := by rw [List.length_map]; exact hiC
    have i0 : (0 : Int) ≤ (i : Int) := by omega
    obtain ⟨bc, oc, cc, hce, _, rc⟩ := rp8.at (by omega)
    subst hce
    have qc : rdO H8 B bc (oc + i) 1 (rdB B bc (oc + i) 1) = some [.int .i64 ((p : Int) + 1)] := by
      have := rc H8 Fr.refl i 0 1 0 hib (by omega)
      rw [Nat.mul_one, Nat.add_zero, mapD hiC, hC2] at this
      exact this.trans rfl
    simp -implicitDefEqProofs (maxSteps := 10000000) (disch := omega) only [T7, L7, G7_8, G7_9, G7_10, G7_15, V15_eq, G7_21, G7_25, V25_eq, hB, hR, hI, kp.l, kp.t5, kp.t6, kp.t7, kp.t10, kp.t18, kp.t19, kp.t20, lenV_sl, Int.toNat_natCast, bft, btf, gtst, st_len, hl8, w1', w2', w3', hiC, hib, i0, qc, Nat.mul_one, beq_self_eq_true, pad, e_skip, e_ops, e_draw, e_fork, shg_n, shg_c, shg_g, shg_r, d_none, d_nil, d_cons, d_ite, h_none, h_nil, h_cons, h_ite, eqS_same, lightV, e_seq, e_cond, e_block, e_exit, e_ret, s_normal, s_ret, s_exit, s_none, s_ite, b_normal, b_ret, b_exit, b_none, b_ite, c_bool, x_none, x_nil, x_cons, x_ite, p_some, p_none, p_ite, pt_some, pt_none, pv_some, pv_none, pv_ite, w_none, w_some, i_bool, i_undef, bt, bf, v_tmp, v_const, v_global, v_func, evs, f_normal, f_ret, f_none, f_ite, r_some, co_some, l_ptr, m_agg, m_one, sh_app, lk_nil, lk_cons, rd_eq, rdO_some, rdO_none, rdN_none, rdL_some, rdL_none, wrB_none, unitR_some, wr_nil, wr_here, wr_skip, k_cells, tk_zero, tk_take, tk_skip, tkC_some, call_func, gt, st, binV, arith, isSh, storeV, all1, idxAV, fieldV, faddrV, iaddrSV, iaddrAV, pickV, convV, unV, eqbV, eqpV, extV, mm2, mmV, nilckV, ress, res1, retV, Value.cells, cond_true, cond_false, Bool.true_or, Bool.false_or, Bool.or_true, Bool.or_false, beq_self_eq_true, if_true, if_false, ite_true, ite_false, decide_true, decide_false, decide_eq_true_eq, reduceIte, Nat.zero_add, Nat.add_zero, and_self, true_and, and_true, List.size_toArray, List.length_cons, List.length_nil, List.append_nil, List.nil_append, Int.toNat_zero, Bool.not_false, Bool.not_true, Bool.not_not, Bool.false_eq_true, Bool.true_eq_false, reduceCtorEq, Int.reduceLT, Int.reduceLE, Int.reduceToNat, Int.reduceAdd, Int.reduceSub, Int.reduceMul, Int.reduceNeg, Nat.reduceMul, Nat.reduceAdd, Nat.reduceSub, Nat.reduceBEq, Nat.reduceEqDiff, Nat.reduceLT, Nat.reduceLeDiff, Int.reduceBEq, Int.reduceEq, Nat.reducePow, Int.reducePow, IntWalk.i64_in, IntKind.bits, eqAV, eqL, leafEq, andO, fillV, buildSV, List.getElem?_toArray, List.getElem?_cons_zero, List.getElem?_cons_succ, List.getElem?_nil, Int.reduceGT, Int.reduceGE, Int.reduceBNe, Bool.true_and, Bool.and_true, Bool.false_and, Bool.and_false, Bool.and_self, IntWalk.u64_in, Int.cast_ofNat_Int, callF1, pad16, pad_0, pad_1, pad_2, pad_3, pad_4, pad_5, pad_6, pad_7, pad_8, pad_9, pad_10, pad_11, pad_12, pad_13, pad_14, pad_15, gc0, gc1, gc2, gc3, gc4, gc5, gc6, gc7, gc8, gc9, gc10, gc11, gc12, gc13, gc14, gc15, gcS, sc0, sc1, sc2, sc3, sc4, sc5, sc6, sc7, sc8, sc9, sc10, sc11, sc12, sc13, sc14, sc15, scS, List.drop_succ_cons, List.drop_nil, x_pan, s_pan, b_pan, pE_ret, pE_pan, pE_none, pE_ite, pvE_some, pvE_none, pvE_ite, rv_some, rv_none, rv_ite, oR_ret, t_mv, t_pick, t_alloc, t_box, t_build, t_buildS, t_load, t_store, t_nilck, t_bin, t_eqb, t_eqA, t_eqp, t_un, t_conv, t_field, t_idxA, t_faddr, t_iaddrS, t_iaddrA, t_ext, t_len, t_mm, t_call, t_ifc, t_fn, t_slc, t_slcA, t_slcT, t_tass, t_isn, t_mks, t_app, t_pan, panE_i, optE_none, optE_some, bnd_none, bnd_int, slA_none, slA_some, appR_some, appOld_cells, newsV_s, newsV_n, lenS_s, appV_nil, appV_some, mksV_i, sh_c, sh_g, f_pan, endD_ret, dfr_normal, dfr_ret, dfr_pan, restD_normal, callD1, callC1, tassV, isnV, slcV, slcAV, slcTV, slcB, appNew, Option.bind_some, Option.bind_none, d_pan, h_pan, wrH_eq, wrX_cells, wrU_some, upH_nil, upH_cons, lk_upH, effR_some, effR_none, effR_ite, Option.isNone_none, Option.isNone_some, slA_zero, call_yield, e_range, it_func, wy_same, y_call, isLp_self, beg_normal, end_normal, end_ret, end_exit, end_ite, aft_ret, aft_ready, aft_done, aft_exit, setP_cons, setP_nil, sh_r, t_mkmap, t_mlook, t_mupd, t_mdel, mapF_some, lookF_some, setM_some, lookR_t, lookR_n, lookR_f, lookR_fn, lookV, mupdV, mdelV, mkM]
    exact ⟨_, _, rfl⟩
end Go.Proofs.YtlkeeckhileedaaDoor
namespace Go.Proofs.YtlkeeckhileedaaDoor
open Go.Proofs.YtlkeeckhileedaaDoor.K Go.ChangeShapes Go.WideShapes Go.ChangeAt Go.RowKit
set_option maxRecDepth 100000
set_option linter.unusedSimpArgs false
set_option linter.unusedVariables false

theorem gThere : Tryd.prog.globalNamed "whitewash/mix.there" = some 0 := by kernel_rfl
theorem gThereT : (Tryd.prog.globals[0]?).map (·.type) = some 60 := by kernel_rfl
theorem leafs60 : leafs Tryd.prog 12 60 = some [.int .u64, .int .u64, .int .u64, .int .u64, .int .u64, .int .u64] := by kernel_rfl
theorem tab {W : World} (h : laidMetH Tryd.prog Rows.treapPutsRow.laid W) : Tab (startB W) := by
  obtain ⟨ps, hv, _⟩ := laidMet_of_H (by rfl) h
  obtain ⟨a1, e1, f1, h1, l1⟩ := laid_cells hv (n := "whitewash/mix.there") (x := Rows.laid_whitewash_mix_there) (by simp [Rows.treapPutsRow]) 12 gThere gThereT leafs60
  exact rdB_whole h1 l1 (by rfl)
namespace treapPuts
theorem own : ownKnob Tryd.prog.godebug = none := by kernel_rfl
theorem laidOut : laidOutB Tryd.prog = true := by kernel_rfl
theorem typesOk : (Tryd.f7.params.toList.all fun t => Tryd.prog.readableRec t && decide (t < Tryd.prog.types.size)) = true := by kernel_rfl
theorem contract (H : Type) (enc : TypeId × Value → H) (W : World) (base : Nat) (args : Array Value) (ds gs : List (DataW H)) (before : List MemPlace)
    (hval : ∀ (j : Nat) t v, Tryd.f7.params[j]? = some t → args[j]? = some v → Value.okWide Tryd.prog W .any base t v)
    (hW : DataW.Whole enc Tryd.prog Tryd.f7.params.toList Rows.treapPutsSpec.vars false W args.toList ds gs before) (hL : laidMetH Tryd.prog Rows.treapPutsRow.laid W) :
    Calls Tryd.prog 7 args W fun e W' => ∃ v, e = .returned v ∧ Rows.treapPutsSpec.post enc Tryd.prog Tryd.f7 false true false false W args v W' := by
  have hW' := hW
  obtain ⟨p, q, hA0, hV, hpq, hfz, hnd⟩ := hW
  have hA : DataW.TrodAll enc Tryd.prog W 0 (fun _ => true) true Tryd.f7.params.toList args.toList ds p := hA0
  rw [Tryd.params7] at hA hval
  obtain ⟨v0, vs0, d0, ds0, p0, q0, hargs, rfl, rfl, h0, r0⟩ := trodAll_cons hA
  obtain ⟨v1, vs1, d1, ds1, p1, q1, rfl, rfl, rfl, h1, r1⟩ := trodAll_cons r0
  obtain ⟨rfl, rfl, rfl⟩ := trodAll_nil r1
  obtain rfl : args = #[v0, v1] := by apply Array.ext'; simpa using hargs
  obtain ⟨rfl, rfl⟩ := trodVars_none hV
  have s0 := open_flats (P := Tryd.prog) 20 Tryd.underlying23 (show leafs Tryd.prog 20 3 = some [.int .i64] by kernel_rfl) (show Tryd.prog.cellsOf 3 = 1 by kernel_rfl) (by decide) (hval 0 23 v0 rfl rfl) h0
  obtain ⟨x1, rfl, rfl, rfl, w1⟩ := open_int Tryd.underlying3 (hval 1 3 v1 rfl rfl) h1
  have b1 := i64_wf w1
  refine law_post laidOut (fun t ht => by simpa using List.all_eq_true.1 typesOk t ht) rfl (show Tryd.f7.resultTypes = #[4] by rfl) Tryd.underlying4 hW' rfl rfl rfl ?_
  obtain ⟨w, hw, hb⟩ := raw_open s0
  have hs := callF_sound (w0 := W) (B := startB W) mixedOrders sG7 1300 Tryd.func7 low7
  exact law_calls hs (args := [v0, .int .i64 x1]) fun N hN => lv7 (tab hL) hN (hw.rd f1_len) hb b1

noncomputable def laidWorld (os : Os) : World := laidW Tryd.prog os [(0, THERE)]
theorem laid_met (os : Os) : laidMet Tryd.prog Rows.treapPutsRow.laid ((laidWorld os).forCall (fun _ _ => 0) ⟨#[], #[.slice none 0 0, .int .i64 0], []⟩).memory :=
  laidMet_of_run' 16 (by kernel_rfl) (by kernel_rfl)
theorem reads (os : Os) {H : Type} (enc : TypeId × Value → H) : ∃ places, DataW.whole enc Tryd.prog ((laidWorld os).forCall (fun _ _ => 0) ⟨#[], #[.slice none 0 0, .int .i64 0], []⟩).memory Tryd.f7.params.toList Rows.treapPutsSpec.vars false (#[.slice none 0 0, .int .i64 0] : Array Value).toList 16 = some ([.nil, .lit (.int .i64 0)], [], places) :=
  ⟨[], by kernel_rfl⟩
theorem lifted (os : Os) (started : os.Started) (H : Type) (enc : TypeId × Value → H) (F : Stop.Interp) :
    ReturnsInHanded {} Tryd.checked os 7 .any ((OpenSpec.ofChange Rows.treapPutsSpec).preRow enc Tryd.prog Tryd.f7 Rows.treapPutsRow.domain false Rows.treapPutsRow.laid) (((OpenSpec.ofChange Rows.treapPutsSpec).at F).post enc Tryd.prog Tryd.f7 false true false false) := by
  obtain ⟨places, hx⟩ := reads os enc
  refine returnsInHanded_of_row (C := Tryd.checked) (s := OpenSpec.ofChange Rows.treapPutsSpec) own started (by kernel_rfl) Tryd.func7
    (witness_row_at (enc := enc) (C := Tryd.checked) false (laidWorld os) #[.slice none 0 0, .int .i64 0] rfl (by kernel_rfl) (by kernel_rfl) (by kernel_rfl)
      (OpenSpec.preRow_of_cond 16 hx (by kernel_rfl) (fun k hk => by cases hk) (by kernel_rfl) (laid_met os))) ?_
  intro W base args ds gs before hval hW _ _ _ hL _ _
  exact contract H enc W base args ds gs before hval hW hL
theorem said : Rows.TreapPutsSaid :=
  OpenClaim.holds_of_cond 7 Tryd.f7 rfl rfl rfl rfl rfl rfl rfl ⟨rfl, rfl, rfl, rfl, rfl⟩ rfl rfl rfl rfl rfl (by kernel_rfl) Tryd.func7 (by kernel_rfl)
    (of_decide_eq_true (by kernel_rfl)) (by unfold Func.isWrapper; first | (rw [if_pos (by decide +kernel)]; kernel_rfl) | (rw [if_neg (by decide +kernel)]; exact ⟨rfl, rfl⟩))
    (fun os started H enc _ F => by rw [OpenClaim.pre_eq_preRow]; exact lifted os started H enc F)
theorem plain (f : FuncId) (fn : Func) (hf : Tryd.pinned.checked.prog.funcNamed "whitewash/whitewashlaw08.TreapPuts" = some f) (hfn : Tryd.pinned.checked.prog.funcs[f]? = some fn) :
    false = Tryd.pinned.checked.prog.looks [] ∧ ∀ (j : Nat) t, fn.params[j]? = some t → Tryd.pinned.checked.prog.wantsStandIn t = false := by
  obtain rfl : f = 7 := Option.some.inj ((show Tryd.prog.funcNamed "whitewash/whitewashlaw08.TreapPuts" = some 7 by kernel_rfl).symm.trans hf) |>.symm
  obtain rfl : fn = Tryd.f7 := (Option.some.inj (Tryd.func7.symm.trans hfn)).symm
  refine ⟨by kernel_rfl, fun j t ht => ?_⟩
  have hall : (Tryd.f7.params.toList.all fun t => !Tryd.prog.wantsStandIn t) = true := by kernel_rfl
  have := List.all_eq_true.1 hall t (by simpa using Array.mem_of_getElem? ht)
  show Tryd.prog.wantsStandIn t = false
  simpa using this
theorem card : Rows.TreapPutsCardSaid :=
  Claim7.holds_tied_plain_at .later [] _ _ _ _ said (fun _ h => by cases h) (by kernel_rfl) (fun _ h => by cases h) treapPuts_row_tie rfl ⟨rfl, rfl⟩ (by kernel_rfl) rfl plain (by kernel_rfl)
end treapPuts
end Go.Proofs.YtlkeeckhileedaaDoor
