/- The mathematics of histories, and what the function Calls of the program's package hist answers: the loop that it runs. -/
import Derived.Test.YtkohdcjeankhkaaKb
import Derived.Test.YtkohdcjeankhkaaChecked
set_option linter.unusedSimpArgs false
set_option linter.unusedVariables false
namespace Go.Proofs.Ytkohdcjeankhkaa
/-! ### Plain mathematics of histories -/
/-- An event: whose, whether it begins, code, key, value, error, value told. -/
structure Ev where
  p : Int
  b : Bool
  c : Int
  k : Int
  v : Int
  e : Int
  r : Int
  deriving DecidableEq
/-- A call: whose, code, key, value, error, value told, from, to, done. -/
structure Cl where
  p : Int
  c : Int
  k : Int
  v : Int
  e : Int
  r : Int
  f : Int
  t : Int
  d : Bool
  deriving DecidableEq
abbrev Om := Int → Option Nat
def upd (o : Om) (p : Int) (x : Option Nat) : Om := fun q => if q = p then x else o q
def z0 : Cl := ⟨0, 0, 0, 0, 0, 0, 0, 0, false⟩
def e0 : Ev := ⟨0, false, 0, 0, 0, 0, 0⟩
def fin (i : Nat) (x : Ev) (c : Cl) : Cl := { c with e := x.e, r := x.r, t := i, d := true }
def nuw (n i : Nat) (x : Ev) : Cl := ⟨x.p, x.c, x.k, x.v, 0, 0, i, n, false⟩
def cBad (o : Om) (C : List Cl) (x : Ev) : Prop :=
  x.p < 0 ∨ 16 ≤ x.p ∨ (o x.p).isSome = x.b ∨ (x.b = true ∧ ¬ (x.e = 0 ∧ x.r = 0)) ∨ ∃ a, o x.p = some a ∧ ¬ ((C.getD a z0).c = x.c ∧ (C.getD a z0).k = x.k ∧ (C.getD a z0).v = x.v)
def cStep (n i : Nat) (x : Ev) (s : Om × List Cl) : Om × List Cl :=
  match s.1 x.p with
  | some a => (upd s.1 x.p none, s.2.set a (fin i x (s.2.getD a z0)))
  | none => (upd s.1 x.p (some s.2.length), s.2 ++ [nuw n i x])
def cRun (n : Nat) (l : List Ev) : Nat → Om × List Cl
  | 0 => (fun _ => none, [])
  | j + 1 => cStep n j (l.getD j e0) (cRun n l j)
def Fine (n : Nat) (l : List Ev) : Prop := ∀ j, j < l.length → ¬ cBad (cRun n l j).1 (cRun n l j).2 (l.getD j e0)

structure Inv (n : Nat) (l : List Ev) (j : Nat) (o : Om) (C : List Cl) : Prop where
  fr : ∀ (a : Nat) (c : Cl), C[a]? = some c → ∃ i : Nat, c.f = i ∧ i < j ∧ l[i]? = some ⟨c.p, true, c.c, c.k, c.v, 0, 0⟩
  nd : ∀ (a : Nat) (c : Cl), C[a]? = some c → c.d = false → c.t = n ∧ c.e = 0 ∧ c.r = 0
  dn : ∀ (a : Nat) (c : Cl), C[a]? = some c → c.d = true → ∃ i : Nat, c.t = i ∧ c.f < i ∧ i < j ∧ l[i]? = some ⟨c.p, false, c.c, c.k, c.v, c.e, c.r⟩
  op : ∀ p a, o p = some a ↔ ∃ c : Cl, C[a]? = some c ∧ c.p = p ∧ c.d = false
  mo : ∀ (a b : Nat) (c d : Cl), C[a]? = some c → C[b]? = some d → a < b → c.f < d.f
  se : ∀ (a b : Nat) (c d : Cl), C[a]? = some c → C[b]? = some d → a < b → c.p = d.p → c.d = true ∧ c.t < d.f
  al : ∀ i : Nat, i < j → ∃ (a : Nat) (c : Cl), C[a]? = some c ∧ (c.f = i ∨ (c.d = true ∧ c.t = i))

theorem getD_some {α : Type} {l : List α} {i : Nat} {d x : α} (h : l[i]? = some x) : l.getD i d = x := by
  simp [List.getD_eq_getElem?_getD, h]
theorem some_getD {α : Type} {l : List α} {i : Nat} {d : α} (h : i < l.length) : l[i]? = some (l.getD i d) := by
  simp [List.getD_eq_getElem?_getD, h]
theorem push_get {α : Type} {C : List α} {y x : α} {a : Nat} (h : (C ++ [y])[a]? = some x) : C[a]? = some x ∨ (a = C.length ∧ x = y) := by
  rcases Nat.lt_trichotomy a C.length with h' | h' | h'
  · left; rwa [List.getElem?_append_left h'] at h
  · right; subst h'; simp at h; exact ⟨rfl, h.symm⟩
  · rw [List.getElem?_eq_none (by simp; omega)] at h; cases h
theorem get_push {α : Type} {C : List α} {y x : α} {a : Nat} (h : C[a]? = some x) : (C ++ [y])[a]? = some x := by
  rw [List.getElem?_append_left (List.getElem?_eq_some_iff.1 h).1]; exact h
theorem set_get {α : Type} {C : List α} {y x : α} {a b : Nat} (h : (C.set a y)[b]? = some x) : (b ≠ a ∧ C[b]? = some x) ∨ (b = a ∧ x = y ∧ a < C.length) := by
  rw [List.getElem?_set] at h
  split at h
  · rename_i e
    subst e
    split at h
    · rename_i h'
      right; exact ⟨rfl, (Option.some.inj h).symm, h'⟩
    · cases h
  · rename_i e
    left; exact ⟨Ne.symm e, h⟩
theorem get_set {α : Type} {C : List α} {y x : α} {a b : Nat} (hb : b ≠ a) (h : C[b]? = some x) : (C.set a y)[b]? = some x := by
  rw [List.getElem?_set, if_neg (Ne.symm hb)]; exact h

theorem Inv.zero {n : Nat} {l : List Ev} : Inv n l 0 (fun _ => none) [] :=
  ⟨by simp, by simp, by simp, by simp, by simp, by simp, by simp⟩
theorem Inv.push {n : Nat} {l : List Ev} {j : Nat} {o : Om} {C : List Cl} (h : Inv n l j o C) {x : Ev} (hx : l[j]? = some x) (hb : x.b = true) (he : x.e = 0 ∧ x.r = 0) (ho : o x.p = none) :
    Inv n l (j + 1) (upd o x.p (some C.length)) (C ++ [nuw n j x]) := by
  have hno : ∀ (a : Nat) (c : Cl), C[a]? = some c → c.p = x.p → c.d = true := fun a c hc hp => by
    cases hd : c.d with
    | true => rfl
    | false => have := (h.op x.p a).2 ⟨c, hc, hp, hd⟩; rw [ho] at this; cases this
  have hxe : x = ⟨x.p, true, x.c, x.k, x.v, 0, 0⟩ := by cases x; simp only at hb he; simp [hb, he.1, he.2]
  constructor
  · intro a c hc
    rcases push_get hc with hc | ⟨rfl, rfl⟩
    · obtain ⟨i, h1, h2, h3⟩ := h.fr a c hc; exact ⟨i, h1, by omega, h3⟩
    · exact ⟨j, rfl, by omega, by rw [hx]; exact congrArg some hxe⟩
  · intro a c hc hd
    rcases push_get hc with hc | ⟨rfl, rfl⟩
    · exact h.nd a c hc hd
    · exact ⟨rfl, rfl, rfl⟩
  · intro a c hc hd
    rcases push_get hc with hc | ⟨rfl, rfl⟩
    · obtain ⟨i, h1, h2, h3, h4⟩ := h.dn a c hc hd; exact ⟨i, h1, h2, by omega, h4⟩
    · cases hd
  · intro p a
    unfold upd
    constructor
    · intro hp
      split at hp
      · rename_i e
        subst e
        obtain rfl := Option.some.inj hp
        exact ⟨nuw n j x, by simp, rfl, rfl⟩
      · obtain ⟨c, hc, h1⟩ := (h.op p a).1 hp
        exact ⟨c, get_push hc, h1⟩
    · rintro ⟨c, hc, h1, h2⟩
      rcases push_get hc with hc | ⟨rfl, rfl⟩
      · have hne : ¬ p = x.p := fun e => by have := hno a c hc (h1.trans e); rw [this] at h2; cases h2
        rw [if_neg hne]; exact (h.op p a).2 ⟨c, hc, h1, h2⟩
      · rw [if_pos (show p = x.p from h1.symm)]
  · intro a b c d hc hd hab
    rcases push_get hd with hd | ⟨rfl, rfl⟩
    · rcases push_get hc with hc | ⟨rfl, rfl⟩
      · exact h.mo a b c d hc hd hab
      · have := (List.getElem?_eq_some_iff.1 hd).1; omega
    · rcases push_get hc with hc | ⟨rfl, rfl⟩
      · obtain ⟨i, h1, h2, _⟩ := h.fr a c hc; simp only [nuw]; omega
      · omega
  · intro a b c d hc hd hab hp
    rcases push_get hd with hd | ⟨rfl, rfl⟩
    · rcases push_get hc with hc | ⟨rfl, rfl⟩
      · exact h.se a b c d hc hd hab hp
      · have := (List.getElem?_eq_some_iff.1 hd).1; omega
    · rcases push_get hc with hc | ⟨rfl, rfl⟩
      · have h1 := hno a c hc hp
        obtain ⟨i, h2, h3, h4, _⟩ := h.dn a c hc h1
        exact ⟨h1, by simp only [nuw]; omega⟩
      · omega
  · intro i hi
    by_cases hij : i = j
    · exact ⟨C.length, nuw n j x, by simp, .inl (by simp [nuw, hij])⟩
    · obtain ⟨a, c, hc, h1⟩ := h.al i (by omega)
      exact ⟨a, c, get_push hc, h1⟩
theorem Inv.close {n : Nat} {l : List Ev} {j : Nat} {o : Om} {C : List Cl} (h : Inv n l j o C) {x : Ev} (hx : l[j]? = some x) (hb : x.b = false) {a0 : Nat} (ho : o x.p = some a0)
    (he : (C.getD a0 z0).c = x.c ∧ (C.getD a0 z0).k = x.k ∧ (C.getD a0 z0).v = x.v) : Inv n l (j + 1) (upd o x.p none) (C.set a0 (fin j x (C.getD a0 z0))) := by
  obtain ⟨c0, hc0, hp0, hd0⟩ := (h.op x.p a0).1 ho
  rw [getD_some hc0] at he ⊢
  have hlt := (List.getElem?_eq_some_iff.1 hc0).1
  obtain ⟨i0, f1, f2, f3⟩ := h.fr a0 c0 hc0
  constructor
  · intro a c hc
    rcases set_get hc with ⟨_, hc⟩ | ⟨rfl, rfl, _⟩
    · obtain ⟨i, h1, h2, h3⟩ := h.fr a c hc; exact ⟨i, h1, by omega, h3⟩
    · exact ⟨i0, f1, by omega, f3⟩
  · intro a c hc hd
    rcases set_get hc with ⟨_, hc⟩ | ⟨rfl, rfl, _⟩
    · exact h.nd a c hc hd
    · cases hd
  · intro a c hc hd
    rcases set_get hc with ⟨_, hc⟩ | ⟨rfl, rfl, _⟩
    · obtain ⟨i, h1, h2, h3, h4⟩ := h.dn a c hc hd; exact ⟨i, h1, h2, by omega, h4⟩
    · refine ⟨j, rfl, ?_, by omega, ?_⟩
      · simp only [fin]; omega
      · rw [hx]; cases x; simp only at hb he hp0; simp [fin, hb, he.1, he.2.1, he.2.2, hp0]
  · intro p a
    unfold upd
    constructor
    · intro hp
      split at hp
      · cases hp
      · rename_i hne
        obtain ⟨c, hc, h1, h2⟩ := (h.op p a).1 hp
        refine ⟨c, get_set (fun e => ?_) hc, h1, h2⟩
        subst e
        rw [hc0] at hc
        obtain rfl := Option.some.inj hc
        exact hne (h1.symm.trans hp0)
    · rintro ⟨c, hc, h1, h2⟩
      rcases set_get hc with ⟨hne, hc⟩ | ⟨rfl, rfl, _⟩
      · have : ¬ p = x.p := fun e => by
          have h3 := (h.op p a).2 ⟨c, hc, h1, h2⟩
          rw [e, ho] at h3
          exact hne (Option.some.inj h3).symm
        rw [if_neg this]; exact (h.op p a).2 ⟨c, hc, h1, h2⟩
      · cases h2
  · intro a b c d hc hd hab
    rcases set_get hc with ⟨_, hc'⟩ | ⟨rfl, rfl, _⟩
    · rcases set_get hd with ⟨_, hd'⟩ | ⟨rfl, rfl, _⟩
      · exact h.mo a b c d hc' hd' hab
      · exact h.mo a b c c0 hc' hc0 hab
    · rcases set_get hd with ⟨_, hd'⟩ | ⟨rfl, rfl, _⟩
      · exact h.mo a b c0 d hc0 hd' hab
      · omega
  · intro a b c d hc hd hab hp
    rcases set_get hc with ⟨_, hc'⟩ | ⟨rfl, rfl, _⟩
    · rcases set_get hd with ⟨_, hd'⟩ | ⟨rfl, rfl, _⟩
      · exact h.se a b c d hc' hd' hab hp
      · exact h.se a b c c0 hc' hc0 hab hp
    · rcases set_get hd with ⟨_, hd'⟩ | ⟨rfl, rfl, _⟩
      · have := (h.se a b c0 d hc0 hd' hab hp).1; rw [hd0] at this; cases this
      · omega
  · intro i hi
    by_cases hij : i = j
    · exact ⟨a0, fin j x c0, by simp [hlt], .inr ⟨rfl, by simp [fin, hij]⟩⟩
    · obtain ⟨a, c, hc, h1⟩ := h.al i (by omega)
      by_cases ha : a = a0
      · subst ha
        rw [hc0] at hc
        obtain rfl := Option.some.inj hc
        rcases h1 with h1 | ⟨h1, _⟩
        · exact ⟨a, fin j x c0, by simp [hlt], .inl (by simpa [fin] using h1)⟩
        · rw [hd0] at h1; cases h1
      · exact ⟨a, c, get_set ha hc, h1⟩
theorem Inv.pre {n : Nat} {l : List Ev} : ∀ j, j ≤ l.length → (∀ i, i < j → ¬ cBad (cRun n l i).1 (cRun n l i).2 (l.getD i e0)) → Inv n l j (cRun n l j).1 (cRun n l j).2 := by
  intro j
  induction j with
  | zero => intro _ _; exact Inv.zero
  | succ j ih =>
    intro hj hf
    have h := ih (by omega) fun i hi => hf i (by omega)
    have hb := hf j (by omega)
    have hx : l[j]? = some (l.getD j e0) := some_getD (by omega)
    simp only [cRun]
    generalize cRun n l j = s at h hb
    generalize l.getD j e0 = x at hx hb
    obtain ⟨o, C⟩ := s
    simp only at h hb
    unfold cBad at hb
    cases ho : o x.p with
    | none =>
      have hbt : x.b = true := by
        cases hb' : x.b with
        | true => rfl
        | false => exact (hb (.inr (.inr (.inl (by simp [ho, hb']))))).elim
      simp only [cStep, ho]
      exact h.push hx hbt (Decidable.byContradiction fun hc => hb (.inr (.inr (.inr (.inl ⟨hbt, hc⟩))))) ho
    | some a =>
      have hbf : x.b = false := by
        cases hb' : x.b with
        | false => rfl
        | true => exact (hb (.inr (.inr (.inl (by simp [ho, hb']))))).elim
      simp only [cStep, ho]
      exact h.close hx hbf ho (Decidable.byContradiction fun hc => hb (.inr (.inr (.inr (.inr ⟨a, ho, hc⟩)))))
theorem Inv.run {n : Nat} {l : List Ev} (hf : Fine n l) (j : Nat) (hj : j ≤ l.length) : Inv n l j (cRun n l j).1 (cRun n l j).2 := Inv.pre j hj fun i hi => hf i (by omega)
/-! ### Histories of raw numbers -/
def pk (x n : Int) : Int := (if x < 0 then -(x + 1) else x).tmod n
theorem pk_b {x n : Int} (hn : 0 < n) : 0 ≤ pk x n ∧ pk x n < n := by
  unfold pk
  split
  · exact ⟨Int.tmod_nonneg _ (by omega), Int.tmod_lt_of_pos _ hn⟩
  · exact ⟨Int.tmod_nonneg _ (by omega), Int.tmod_lt_of_pos _ hn⟩
/-- Code, key, value of a call. -/
abbrev O3 := Int × Int × Int
def o0 : O3 := (0, 0, 0)
abbrev R3 := Int × Int × Int
def gOpn (O : List O3) (x : R3) : O3 := O.getD (pk x.1 5).toNat o0
def gOp (x : R3) : O3 := (1 + pk x.2.1 16, pk x.2.2 4, 0)
def gEnd (O : List O3) (x : R3) : Ev := ⟨pk x.1 5, false, (gOpn O x).1, (gOpn O x).2.1, (gOpn O x).2.2, pk x.2.1 3, pk x.2.2 3⟩
def gBeg (x : R3) : Ev := ⟨pk x.1 5, true, (gOp x).1, (gOp x).2.1, (gOp x).2.2, 0, 0⟩
def gStep (x : R3) (s : List O3 × List Ev) : List O3 × List Ev :=
  if (gOpn s.1 x).1 ≠ 0 then (s.1.set (pk x.1 5).toNat o0, s.2 ++ [gEnd s.1 x]) else (s.1.set (pk x.1 5).toNat (gOp x), s.2 ++ [gBeg x])
def gRun (w : List R3) : Nat → List O3 × List Ev
  | 0 => (List.replicate 5 o0, [])
  | j + 1 => gStep (w.getD j (0, 0, 0)) (gRun w j)
def gMany (w : List R3) : Nat := min w.length 30
def gEvs (w : List R3) : List Ev := (gRun w (gMany w)).2
theorem gRun_len (w : List R3) : ∀ j, (gRun w j).1.length = 5 ∧ (gRun w j).2.length = j
  | 0 => ⟨rfl, rfl⟩
  | j + 1 => by
    obtain ⟨h1, h2⟩ := gRun_len w j
    simp only [gRun, gStep]
    split <;> simp [h1, h2]
theorem gRun_pre (w : List R3) : ∀ (d j : Nat), ∀ (i : Nat) (x : Ev), (gRun w j).2[i]? = some x → (gRun w (j + d)).2[i]? = some x
  | 0, j, i, x, h => h
  | d + 1, j, i, x, h => by
    have := gRun_pre w d j i x h
    show (gStep _ (gRun w (j + d))).2[i]? = some x
    unfold gStep
    split
    · exact get_push this
    · exact get_push this
theorem rep_getD {α : Type} (n q : Nat) (d : α) : (List.replicate n d).getD q d = d := by
  rw [List.getD_eq_getElem?_getD, List.getElem?_replicate]; split <;> rfl
theorem gEvs_len (w : List R3) : (gEvs w).length = gMany w := (gRun_len w _).2
/-- The calls of a raw history are found. -/
structure Rel (O : List O3) (o : Om) (C : List Cl) : Prop where
  a : ∀ q : Nat, q < 5 → ((O.getD q o0).1 ≠ 0 ↔ (o q).isSome = true)
  b : ∀ (q : Nat) (i : Nat), q < 5 → o q = some i → ((C.getD i z0).c, (C.getD i z0).k, (C.getD i z0).v) = O.getD q o0
  c : ∀ (p : Int) (i : Nat), o p = some i → i < C.length
theorem getD_set {α : Type} (l : List α) (i j : Nat) (x d : α) (hi : i < l.length) : (l.set i x).getD j d = if i = j then x else l.getD j d := by
  simp only [List.getD_eq_getElem?_getD, List.getElem?_set]
  split
  · rename_i h; subst h; simp [hi]
  · rfl
theorem gEvs_at (w : List R3) (j : Nat) (hj : j < gMany w) : (gEvs w).getD j e0 = if (gOpn (gRun w j).1 (w.getD j (0, 0, 0))).1 ≠ 0 then gEnd (gRun w j).1 (w.getD j (0, 0, 0)) else gBeg (w.getD j (0, 0, 0)) := by
  have hlen := gRun_len w j
  refine getD_some ?_
  have : (gRun w (j + 1)).2[j]? = some (if (gOpn (gRun w j).1 (w.getD j (0, 0, 0))).1 ≠ 0 then gEnd (gRun w j).1 (w.getD j (0, 0, 0)) else gBeg (w.getD j (0, 0, 0))) := by
    simp only [gRun, gStep]
    split
    · rw [List.getElem?_append_right (by omega)]; simp [hlen.2]
    · rw [List.getElem?_append_right (by omega)]; simp [hlen.2]
  have h2 := gRun_pre w (gMany w - (j + 1)) (j + 1) j _ this
  rw [show j + 1 + (gMany w - (j + 1)) = gMany w by omega] at h2
  exact h2
theorem rel_run (w : List R3) : ∀ j, j ≤ gMany w → Rel (gRun w j).1 (cRun (gMany w) (gEvs w) j).1 (cRun (gMany w) (gEvs w) j).2 ∧ ∀ i, i < j → ¬ cBad (cRun (gMany w) (gEvs w) i).1 (cRun (gMany w) (gEvs w) i).2 ((gEvs w).getD i e0) := by
  intro j
  induction j with
  | zero => intro _; exact ⟨⟨fun q hq => by simp only [gRun, cRun, rep_getD]; simp [o0], fun q i _ h => (by cases h), fun q i h => (by cases h)⟩, fun i hi => by omega⟩
  | succ j ih =>
    intro hj
    obtain ⟨hR, hB⟩ := ih (by omega)
    have hlen := (gRun_len w j).1
    have hev := gEvs_at w j (by omega)
    have hg : (gRun w (j + 1)).1 = (gStep (w.getD j (0, 0, 0)) (gRun w j)).1 := rfl
    have hc : cRun (gMany w) (gEvs w) (j + 1) = cStep (gMany w) j ((gEvs w).getD j e0) (cRun (gMany w) (gEvs w) j) := rfl
    rw [hg, hc]
    suffices hh : ¬ cBad (cRun (gMany w) (gEvs w) j).1 (cRun (gMany w) (gEvs w) j).2 ((gEvs w).getD j e0) ∧ Rel (gStep (w.getD j (0, 0, 0)) (gRun w j)).1 (cStep (gMany w) j ((gEvs w).getD j e0) (cRun (gMany w) (gEvs w) j)).1 (cStep (gMany w) j ((gEvs w).getD j e0) (cRun (gMany w) (gEvs w) j)).2 by
      refine ⟨hh.2, fun i hi => ?_⟩
      rcases Nat.lt_or_ge i j with h | h
      · exact hB i h
      · obtain rfl : i = j := by omega
        exact hh.1
    rw [hev]
    clear hev hg hc hB ih
    generalize w.getD j (0, 0, 0) = x
    generalize cRun (gMany w) (gEvs w) j = s at hR ⊢
    generalize gRun w j = g at hR hlen ⊢
    obtain ⟨o, C⟩ := s
    obtain ⟨O, L⟩ := g
    simp only at hR hlen ⊢
    have hb := pk_b (x := x.1) (n := 5) (by omega)
    obtain ⟨q, hq⟩ : ∃ q : Nat, pk x.1 5 = (q : Int) := ⟨(pk x.1 5).toNat, by omega⟩
    have hq5 : q < 5 := by omega
    have hqt : (pk x.1 5).toNat = q := by omega
    have hopn : gOpn O x = O.getD q o0 := by unfold gOpn; rw [hqt]
    by_cases h0 : (gOpn O x).1 ≠ 0
    · rw [if_pos h0]
      rw [hopn] at h0
      have hs := (hR.a q hq5).1 h0
      obtain ⟨i, hi⟩ := Option.isSome_iff_exists.1 hs
      have hop : o (gEnd O x).p = some i := by show o (pk x.1 5) = _; rw [hq]; exact hi
      have hbb := hR.b q i hq5 hi
      constructor
      · unfold cBad
        rw [hop]
        rintro (h | h | h | h | ⟨a, ha, h⟩)
        · have : (gEnd O x).p = pk x.1 5 := rfl
          omega
        · have : (gEnd O x).p = pk x.1 5 := rfl
          omega
        · cases h
        · cases h.1
        · obtain rfl := Option.some.inj ha
          refine h ?_
          simp only [gEnd, hopn, ← hbb]
          exact ⟨trivial, trivial, trivial⟩
      · have e1 : (cStep (gMany w) j (gEnd O x) (o, C)) = (upd o (gEnd O x).p none, C.set i (fin j (gEnd O x) (C.getD i z0))) := by simp only [cStep, hop]
        have e2 : (gStep x (O, L)).1 = O.set q o0 := by simp only [gStep, hqt]; rw [if_pos (by rw [hopn]; exact h0)]
        rw [e1, e2]
        have hp : (gEnd O x).p = (q : Int) := hq
        rw [hp]
        have hil := hR.c _ i hi
        simp only
        refine ⟨fun q' hq' => ?_, fun q' i' hq' h => ?_, fun p i' h => ?_⟩
        · rw [getD_set _ _ _ _ _ (by omega)]
          unfold upd
          by_cases e : q = q'
          · subst e; simp [o0]
          · rw [if_neg e, if_neg (by omega)]; exact hR.a q' hq'
        · unfold upd at h
          split at h
          · cases h
          · rename_i e
            rw [getD_set _ _ _ _ _ (by omega : q < O.length), if_neg (by omega), ← hR.b q' i' hq' h, getD_set _ _ _ _ _ hil]
            split
            · rename_i e'; subst e'; rfl
            · rfl
        · unfold upd at h
          split at h
          · cases h
          · simpa using hR.c p i' h
    · rw [if_neg h0]
      rw [hopn] at h0
      have hn : o q = none := by
        cases ho : o q with
        | none => rfl
        | some i => exact (h0 ((hR.a q hq5).2 (by rw [ho]; rfl))).elim
      have hop : o (gBeg x).p = none := by show o (pk x.1 5) = _; rw [hq]; exact hn
      constructor
      · unfold cBad
        rw [hop]
        rintro (h | h | h | h | ⟨a, ha, h⟩)
        · have : (gBeg x).p = pk x.1 5 := rfl
          omega
        · have : (gBeg x).p = pk x.1 5 := rfl
          omega
        · cases h
        · exact h.2 ⟨rfl, rfl⟩
        · cases ha
      · have e1 : (cStep (gMany w) j (gBeg x) (o, C)) = (upd o (gBeg x).p (some C.length), C ++ [nuw (gMany w) j (gBeg x)]) := by simp only [cStep, hop]
        have e2 : (gStep x (O, L)).1 = O.set q (gOp x) := by simp only [gStep, hqt]; rw [if_neg (by rw [hopn]; exact h0)]
        rw [e1, e2]
        have hp : (gBeg x).p = (q : Int) := hq
        rw [hp]
        simp only
        have h16 := pk_b (x := x.2.1) (n := 16) (by omega)
        refine ⟨fun q' hq' => ?_, fun q' i' hq' h => ?_, fun p i' h => ?_⟩
        · rw [getD_set _ _ _ _ _ (by omega)]
          unfold upd
          by_cases e : q = q'
          · subst e; simp only [if_true, gOp, Option.isSome_some, iff_true]; omega
          · rw [if_neg e, if_neg (by omega)]; exact hR.a q' hq'
        · rw [getD_set _ _ _ _ _ (by omega : q < O.length)]
          unfold upd at h
          split at h
          · rename_i e
            obtain rfl := Option.some.inj h
            rw [if_pos (by omega)]
            simp [nuw, gBeg, List.getD_eq_getElem?_getD]
          · rename_i e
            have hl := hR.c _ i' h
            rw [if_neg (by omega), ← hR.b q' i' hq' h]
            have : (C ++ [nuw (gMany w) j (gBeg x)]).getD i' z0 = C.getD i' z0 := by simp [List.getD_eq_getElem?_getD, List.getElem?_append_left hl]
            rw [this]
        · unfold upd at h
          split at h
          · obtain rfl := Option.some.inj h; simp
          · have := hR.c p i' h; simp; omega
theorem gFine (w : List R3) : Fine (gMany w) (gEvs w) := fun j hj => (rel_run w (gMany w) (Nat.le_refl _)).2 j (by rw [gEvs_len] at hj; exact hj)
/-- The calls of a raw history. -/
def gCls (w : List R3) : List Cl := (cRun (gMany w) (gEvs w) (gMany w)).2
theorem gInv (w : List R3) : Inv (gMany w) (gEvs w) (gMany w) (cRun (gMany w) (gEvs w) (gMany w)).1 (gCls w) := Inv.run (gFine w) _ (by rw [gEvs_len]; exact Nat.le_refl _)
end Go.Proofs.Ytkohdcjeankhkaa
namespace Go.Proofs.Ytkohdcjeankhkaa
open Go.Proofs.Ytkohdcjeankhkaa.K
/-! ### Slices of one's own -/
def slB : Value → Option Nat
  | .slice (some a) _ _ => some a.block
  | _ => none
/-- A slice that has been made since. -/
def SlN {α : Type} (f : α → List Value) (sz : Nat) (B : OH) (H0 H : HL) (v : Value) (L : List α) : Prop :=
  (L = [] ∧ v = .slice none 0 0) ∨ ∃ b cap, v = .slice (some ⟨b, 0, none⟩) L.length cap ∧ B b = none ∧ lk H0 b = none ∧ L.length ≤ cap ∧ lk H b = some (.cells (fl f L) (cap * sz))
def Fr (H H' : HL) : Prop := ∀ y c, lk H y = some c → lk H' y = some c
def Dm (H H' : HL) : Prop := ∀ y, lk H' y = none → lk H y = none
/-- A slice that may be read. -/
def SlR {α : Type} (f : α → List Value) (sz : Nat) (B : OH) (H : HL) (v : Value) (L : List α) : Prop :=
  ∃ a cap, v = .slice a L.length cap ∧ (L = [] ∨ ∃ b o, a = some ⟨b, o, none⟩ ∧ (den H B b).isSome = true ∧ ∀ H', Fr H H' → ∀ i j n d, i < L.length → j + n ≤ sz → rdO H' B b (o + i * sz + j) n (rdB B b (o + i * sz + j) n) = tk (f (L.getD i d)) j n)
theorem Fr.refl {H : HL} : Fr H H := fun _ _ h => h
theorem Fr.trans {H H' H'' : HL} (h : Fr H H') (h' : Fr H' H'') : Fr H H'' := fun y c e => h' y c (h y c e)
theorem Fr.dm {H H' : HL} (h : Fr H H') : Dm H H' := fun y e => by
  cases e' : lk H y with
  | none => rfl
  | some c => rw [h y c e'] at e; cases e
theorem Dm.refl {H : HL} : Dm H H := fun _ h => h
theorem Dm.trans {H H' H'' : HL} (h : Dm H H') (h' : Dm H' H'') : Dm H H'' := fun y e => h y (h' y e)
variable {α : Type} {f : α → List Value} {sz : Nat} {B : OH} {H0 H H' : HL} {N : St} {v : Value} {L : List α}
theorem SlN.ne {y : Nat} {c : KB} (h : SlN f sz B H0 H v L) (hy : lk H0 y = some c) : slB v ≠ some y := by
  rcases h with ⟨_, rfl⟩ | ⟨b, cap, rfl, _, h3, _, _⟩
  · simp [slB]
  · intro e
    simp only [slB, Option.some.injEq] at e
    subst e
    rw [h3] at hy; cases hy
theorem SlN.len (h : SlN f sz B H0 H v L) : lenV false v = some (.int .i64 (L.length : Int)) := by
  rcases h with ⟨rfl, rfl⟩ | ⟨b, cap, rfl, _⟩ <;> rfl
theorem SlN.mono (h : SlN f sz B H0 H v L) (hF : ∀ y c, slB v = some y → lk H y = some c → lk H' y = some c) : SlN f sz B H0 H' v L := by
  rcases h with h | ⟨b, cap, rfl, h2, h3, h4, h5⟩
  · exact .inl h
  · exact .inr ⟨b, cap, rfl, h2, h3, h4, hF _ _ rfl h5⟩
theorem fl_read (hf : ∀ a, (f a).length = sz) (L : List α) (rest : List Value) (i j n : Nat) (d : α) (hi : i < L.length) (hj : j + n ≤ sz) : tk (fl f L ++ rest) (i * sz + j) n = tk (f (L.getD i d)) j n := by
  rw [tk_append_left _ _ _ _ (by rw [fl_length hf]; have := Nat.mul_le_mul_right sz (show i + 1 ≤ L.length by omega); rw [Nat.succ_mul] at this; omega)]
  exact tk_fl hf L i j n d hi hj
theorem SlR.len (h : SlR f sz B H v L) : lenV false v = some (.int .i64 (L.length : Int)) := by
  obtain ⟨a, cap, rfl, _⟩ := h; rfl
theorem SlR.mono (h : SlR f sz B H v L) (hF : Fr H H') : SlR f sz B H' v L := by
  obtain ⟨a, cap, h1, h2⟩ := h
  refine ⟨a, cap, h1, h2.imp id ?_⟩
  rintro ⟨b, o, h3, h4, h5⟩
  refine ⟨b, o, h3, ?_, fun H'' hF' => h5 H'' (hF.trans hF')⟩
  unfold den at h4 ⊢
  cases hb : B b with
  | some k => rfl
  | none =>
    rw [hb] at h4
    obtain ⟨k, hk⟩ := Option.isSome_iff_exists.1 h4
    simp [hF _ _ hk]
theorem SlN.rd (hf : ∀ a, (f a).length = sz) (h : SlN f sz B H0 H v L) : SlR f sz B H v L := by
  rcases h with ⟨rfl, rfl⟩ | ⟨b, cap, rfl, h2, _, _, h4⟩
  · exact ⟨_, _, rfl, .inl rfl⟩
  · refine ⟨_, _, rfl, .inr ⟨b, 0, rfl, by simp [den, h2, h4], fun H' hF i j n d hi hj => ?_⟩⟩
    have hr : rdB B b (0 + i * sz + j) n = none := by simp [rdB, h2]
    rw [hr, rdO_none, h2, rdN_none, hF _ _ h4, rdL_some, k_cells, Nat.zero_add]
    exact tk_fl hf L i j n d hi hj
theorem SlR.at (h : SlR f sz B H v L) (hL : 0 < L.length) : ∃ b o cap, v = .slice (some ⟨b, o, none⟩) L.length cap ∧ (den H B b).isSome = true ∧ ∀ H', Fr H H' → ∀ i j n d, i < L.length → j + n ≤ sz → rdO H' B b (o + i * sz + j) n (rdB B b (o + i * sz + j) n) = tk (f (L.getD i d)) j n := by
  obtain ⟨a, cap, rfl, h2⟩ := h
  rcases h2 with rfl | ⟨b, o, rfl, h3, h4⟩
  · simp at hL
  · exact ⟨b, o, cap, rfl, h3, h4⟩
theorem ne_den {b : Nat} (hN : good B H N) (hb : (den H B b).isSome = true) (i : Nat) : (b == N i) = false := by
  cases e : b == N i with
  | false => rfl
  | true => rw [show b = N i by simpa using e, hN.2 i] at hb; cases hb
theorem lk_N (hN : good B H N) (i : Nat) : lk H (N i) = none := by
  have := hN.2 i
  simpa [den, good_B hN i] using this
theorem ne_N {y : Nat} {c : KB} (hN : good B H N) (hy : lk H y = some c) (i : Nat) : (y == N i) = false := by
  cases e : y == N i with
  | false => rfl
  | true => rw [show y = N i by simpa using e, lk_N hN i] at hy; cases hy
theorem good_set {b : Nat} {k k' : KB} (hN : good B H N) (hB : B b = none) (hl : lk H b = some k') : good B ((b, k) :: H) N := by
  have hd : ∀ r, den H B r = none → den ((b, k) :: H) B r = none := fun r hr => by
    unfold den
    cases hr' : B r with
    | some x => simp [den, hr'] at hr
    | none =>
      have h1 : lk H r = none := by simpa [den, hr'] using hr
      have h2 : (r == b) = false := by
        cases e : r == b with
        | false => rfl
        | true => rw [show r = b by simpa using e, hl] at h1; cases h1
      simp [lk, h2, h1]
  obtain ⟨⟨h1, f, f1, f2, f3⟩, h2⟩ := hN
  exact ⟨⟨h1, f, f1, fun i => hd _ (f2 i), f3⟩, fun i => hd _ (h2 i)⟩
theorem good_sh (hN : good B H N) : good B H (sh N) :=
  good_less (fun y hy => by
    rw [den_cons (hN.2 0)] at hy
    split at hy
    · cases hy
    · exact hy) (good_new (k := .dfr) hN)
theorem dm_cons {y : Nat} {k : KB} : Dm H ((y, k) :: H) := fun z e => by
  simp only [lk] at e
  cases h : z == y with
  | true => simp [h] at e
  | false => simpa [h] using e
theorem eqb {a b : Nat} (h : ¬ a = b) : (a == b) = false := by simpa using h
/-- Something is appended to a slice of one's own. -/
theorem app_spec (hf : ∀ a, (f a).length = sz) {bytes : Nat} (hN : good B H N) (hD : Dm H0 H) (hS : SlN f sz B H0 H v L) (x : α) (h1 : all1 (f x) = true) (hb : (L.length + 1) * bytes ≤ 140737488355328) (hb2 : L.length + 1 ≤ 4611686018427387904) :
    ∃ v' H' N', appV sz bytes B H N v 1 (f x) = some (v', H', N') ∧ good B H' N' ∧ Dm H H' ∧ (∀ y c, slB v ≠ some y → lk H y = some c → lk H' y = some c) ∧ SlN f sz B H0 H' v' (L ++ [x]) ∧ (slB v' = slB v ∨ slB v' = some (N 0)) := by
  have hBN := good_B hN
  have hl0 := lk_N hN 0
  have hfx : fl f (L ++ [x]) = fl f L ++ f x := by rw [fl_append]; simp [fl]
  have hnew : ∀ (b : Nat) (cs : List Value), b = N 0 → cs = fl f (L ++ [x]) → SlN f sz B H0 ((b, .cells cs ((L.length + 1 + N.c 0) * sz)) :: H) (.slice (some ⟨b, 0, none⟩) (L.length + 1) (L.length + 1 + N.c 0)) (L ++ [x]) := fun b cs hb hcs => by
    subst hb hcs
    exact .inr ⟨N 0, L.length + 1 + N.c 0, by simp, hBN 0, hD _ hl0, by simp, by simp [lk]⟩
  rcases hS with ⟨rfl, rfl⟩ | ⟨b, cap, rfl, hB, h0, hle, hlk⟩
  · refine ⟨.slice (some ⟨N 0, 0, none⟩) 1 (1 + N.c 0), (N 0, .cells (f x) ((1 + N.c 0) * sz)) :: H, sh N, ?_, good_new hN, dm_cons, ?_, by have := hnew (N 0) (f x) rfl (by simp [fl]); simpa using this, .inr rfl⟩
    · simp only [appV]
      rw [if_neg (by omega), if_pos ⟨by simpa using hb, by omega⟩]
      rfl
    · intro y c _ hy
      simp only [lk, ne_N hN hy 0, cond_false]; exact hy
  · have htk : tk (fl f L) 0 (L.length * sz) = some (fl f L) := tk_all _ _ (by rw [fl_length hf])
    have hold : appV sz bytes B H N (.slice (some ⟨b, 0, none⟩) L.length cap) 1 (f x) = appNew (bif N.g 0 then b else N 0) sz (L.length + 1) H N (fl f L ++ f x) := by
      simp only [appV]
      rw [if_neg (by omega), if_pos ⟨hb, hb2⟩, hlk]
      simp only [appOld, hB, Option.isNone_none, h1, hle, and_self, if_true, htk, Option.bind_some]
    rw [hold]
    cases hg : N.g 0 with
    | false =>
      refine ⟨_, _, _, rfl, good_new hN, dm_cons, ?_, hnew (N 0) _ rfl hfx.symm, .inr rfl⟩
      intro y c _ hy
      simp only [cond_false, lk, ne_N hN hy 0]; exact hy
    | true =>
      refine ⟨_, _, _, rfl, ?_, dm_cons, ?_, ?_, .inl rfl⟩
      · exact good_sh (good_set (k := KB.cells (fl f L ++ f x) ((L.length + 1 + N.c 0) * sz)) hN hB hlk)
      · intro y c hne hy
        have : (y == b) = false := eqb (fun e => hne (by rw [e]; rfl))
        simp only [cond_true, lk, this, cond_false]; exact hy
      · exact .inr ⟨b, L.length + 1 + N.c 0, by simp, hB, h0, by simp, by simp [lk, hfx]⟩
theorem SlN.low {H1 : HL} (h : SlN f sz B H1 H v L) (hD : Dm H0 H1) : SlN f sz B H0 H v L := by
  rcases h with h | ⟨b, cap, h1, h2, h3, h4, h5⟩
  · exact .inl h
  · exact .inr ⟨b, cap, h1, h2, hD _ h3, h4, h5⟩
/-- One more is appended, out of a new block. -/
theorem push_spec (hf : ∀ a, (f a).length = sz) {bytes : Nat} (hN : good B H N) (hF : Fr H0 H) (hS : SlN f sz B H0 H v L) (x : α) (h1 : all1 (f x) = true) (hb : (L.length + 1) * bytes ≤ 140737488355328) (hb2 : L.length + 1 ≤ 4611686018427387904) :
    ∃ v' H' N', appV sz bytes B ((N.n 0, .cells (f x) sz) :: H) (sh N) v 1 (f x) = some (v', H', N') ∧ good B H' N' ∧ Fr H0 H' ∧ (∀ y c, slB v ≠ some y → lk H y = some c → lk H' y = some c) ∧ SlN f sz B H0 H' v' (L ++ [x]) ∧ (∀ y c, slB v ≠ some y → lk H y = some c → slB v' ≠ some y) := by
  have g1 : good B ((N.n 0, .cells (f x) sz) :: H) (sh N) := good_new hN
  have fr1 : ∀ y c, lk H y = some c → lk ((N.n 0, .cells (f x) sz) :: H) y = some c := fun y c e => by
    rw [lk_cons, ne_N hN e 0, cond_false]; exact e
  have s1 := hS.mono (H' := (N.n 0, .cells (f x) sz) :: H) (fun y c _ e => fr1 y c e)
  have d1 : Dm H0 ((N.n 0, .cells (f x) sz) :: H) := Fr.dm fun y c e => fr1 _ _ (hF y c e)
  obtain ⟨v', H', N', e, g, d, fr, s, hb⟩ := app_spec hf g1 d1 s1 x h1 hb hb2
  refine ⟨v', H', N', e, g, fun y c hy => fr _ _ (hS.ne hy) (fr1 _ _ (hF _ _ hy)), fun y c hy hc => fr _ _ hy (fr1 _ _ hc), s, fun y c hy hc => ?_⟩
  rcases hb with hb | hb
  · rw [hb]; exact hy
  · rw [hb]
    intro e'
    have := ne_N g1 (fr1 _ _ hc) 0
    rw [← Option.some.inj e'] at this
    simp at this
end Go.Proofs.Ytkohdcjeankhkaa
namespace Go.Proofs.Ytkohdcjeankhkaa
open Go.Proofs.Ytkohdcjeankhkaa.K Go.ChangeShapes Go.WideShapes Go.ChangeAt Go.RowKit
set_option maxRecDepth 100000
set_option linter.unusedSimpArgs false
set_option linter.unusedVariables false
theorem mixedOrders : Try.prog.follows .mixedOrders = true := by kernel_rfl
/-- The cells of an event. -/
def ev7 (x : Ev) : List Value := [.int .i64 x.p, .bool x.b, .int .i64 x.c, .int .u64 x.k, .int .u64 x.v, .int .i64 x.e, .int .u64 x.r]
/-- The cells of a call. -/
def cl9 (c : Cl) : List Value := [.int .i64 c.p, .int .i64 c.c, .int .u64 c.k, .int .u64 c.v, .int .i64 c.e, .int .u64 c.r, .int .i64 c.f, .int .i64 c.t, .bool c.d]
theorem ev7_len (x : Ev) : (ev7 x).length = 7 := rfl
theorem cl9_len (x : Cl) : (cl9 x).length = 9 := rfl
theorem lenV_sl {a n c} : lenV false (.slice a n c) = some (.int .i64 (n : Int)) := rfl
theorem bft : (false == true) = false := rfl
theorem btf : (true == false) = false := rfl
theorem beqI {a b : Int} (h : ¬ a = b) : (a == b) = false := by simpa using h
theorem rdB_none {B : OH} {b o n : Nat} (h : B b = none) : rdB B b o n = none := by simp [rdB, h]
theorem ok_some {x : X} {s : Go.Proofs.Ytkohdcjeankhkaa.K.S} {R : X → Go.Proofs.Ytkohdcjeankhkaa.K.S → Prop} (h : R x s) : Ok (some (x, s)) R := ⟨x, s, rfl, h⟩
/-- What the map holds. -/
def mf (o : Om) : Int → Option Value := fun p => match o p with | some a => some (.int .i64 (a : Int)) | none => none
theorem mf_some {o : Om} {p : Int} {a : Nat} (h : o p = some a) : mf o p = some (.int .i64 (a : Int)) := by simp [mf, h]
theorem mf_none {o : Om} {p : Int} (h : o p = none) : mf o p = none := by simp [mf, h]
theorem mf_zero : mf (fun _ => none) = fun _ => none := rfl
theorem mf_set (o : Om) (p : Int) (a : Nat) : updF (mf o) p (some (.int .i64 (a : Int))) = mf (upd o p (some a)) := by
  funext q; simp only [updF, mf, upd]; split <;> rfl
theorem mf_del (o : Om) (p : Int) : updF (mf o) p none = mf (upd o p none) := by
  funext q; simp only [updF, mf, upd]; split <;> rfl
theorem ne_N' {B : OH} {H : HL} {N : St} {y : Nat} {c : KB} (hN : good B H N) (hy : lk H y = some c) (i : Nat) : (N i == y) = false := by
  have := ne_N hN hy i
  cases e : N i == y with
  | false => rfl
  | true => rw [show N i = y by simpa using e] at this; simp at this
theorem fr_new {B : OH} {H0 H : HL} {N : St} {k : KB} (hN : good B H N) (hF : Fr H0 H) (i : Nat) : Fr H0 ((N i, k) :: H) := fun y c e => by
  rw [lk_cons, ne_N hN (hF _ _ e) i, cond_false]; exact hF _ _ e
theorem fr_up {H0 H : HL} {b : Nat} {k : KB} (hF : Fr H0 H) (h0 : lk H0 b = none) : Fr H0 (upH H b k) := fun y c e => by
  rw [lk_upH]
  cases h : y == b with
  | false => exact hF _ _ e
  | true => rw [show y = b by simpa using h, h0] at e; cases e
theorem fr_set {H0 H : HL} {b : Nat} {k : KB} (hF : Fr H0 H) (h0 : lk H0 b = none) : Fr H0 ((b, k) :: H) := fun y c e => by
  rw [lk_cons]
  cases h : y == b with
  | false => exact hF _ _ e
  | true => rw [show y = b by simpa using h, h0] at e; cases e
/-- What lasts of the temporaries. -/
structure Kc (v : Value) (m n : Nat) (vO : Value) (j : Nat) (ts : List Value) : Prop where
  l : ts.length = 96
  t0 : gt ts 0 = v
  t2 : gt ts 2 = vO
  t3 : gt ts 3 = .int .i64 0
  t4 : gt ts 4 = .map (some m)
  t13 : gt ts 13 = v
  t14 : gt ts 14 = .int .i64 (n : Int)
  t15 : gt ts 15 = .int .i64 (j : Int)
/-- What holds of memory. -/
structure Mc (B : OH) (H0 : HL) (m : Nat) (vO : Value) (o : Om) (C : List Cl) (H : HL) (N : St) : Prop where
  g : good B H N
  f : Fr H0 H
  lm : lk H m = some (.map .i64 (mf o))
  mB : B m = none
  m0 : lk H0 m = none
  s : SlN cl9 9 B H0 H vO C
  sm : slB vO ≠ some m
def Rc (B : OH) (H0 : HL) (m : Nat) (n : Nat) (l : List Ev) (v : Value) (x : X) (s : Go.Proofs.Ytkohdcjeankhkaa.K.S) : Prop :=
  (x = .exit 0 ∧ ∃ vO, Kc v m n vO n s.t ∧ Mc B H0 m vO (cRun n l n).1 (cRun n l n).2 s.H s.N ∧ ∀ i, i < n → ¬ cBad (cRun n l i).1 (cRun n l i).2 (l.getD i e0)) ∨
  (x = .ret ∧ s.t.length = 96 ∧ gt s.t 2 = .slice none 0 0 ∧ gt s.t 3 = .int .i64 2 ∧ good B s.H s.N ∧ Fr H0 s.H ∧ ∃ i, i < n ∧ cBad (cRun n l i).1 (cRun n l i).2 (l.getD i e0))

/-- whitewash/hist.Calls -/
def L11 : FnL := ⟨(.seq (.ops [⟨(some 2), .mv (.const (.slice none 0 0)), none⟩, ⟨(some 3), .mv (.const (.int .i64 0)), none⟩])
 (.seq (.seq (.ops [⟨(some 9), .mv (.tmp 0), none⟩, ⟨(some 10), .len false (.tmp 9), none⟩, ⟨(some 11), .bin .gtr (.tmp 10) (.const (.int .i64 1000)), none⟩])
 (.cond (.tmp 11) (.seq (.ops [⟨(some 2), .mv (.const (.slice none 0 0)), none⟩, ⟨(some 3), .mv (.const (.int .i64 4)), none⟩])
 .ret)
 .skip))
 (.seq (.ops [⟨(some 12), .mkmap .i64, none⟩, ⟨(some 4), .mv (.tmp 12), none⟩])
 (.seq (.seq (.ops [⟨(some 13), .mv (.tmp 0), none⟩, ⟨(some 14), .len false (.tmp 13), none⟩, ⟨(some 15), .mv (.const (.int .i64 0)), none⟩])
 (.block 0 (.loop (.seq (.ops [⟨(some 16), .bin .lss (.tmp 15) (.tmp 14), none⟩])
 (.seq (.cond (.tmp 16) .skip
 (.exit 0))
 (.seq (.block 1 (.seq (.ops [⟨(some 17), .mv (.tmp 15), none⟩, ⟨(some 18), .iaddrS 7 (.tmp 13) (.tmp 15), none⟩, ⟨(some 19), .load true 7 (.tmp 18), none⟩, ⟨(some 6), .alloc [(.int .i64 0), (.bool false), (.int .i64 0), (.int .u64 0), (.int .u64 0), (.int .i64 0), (.int .u64 0)], none⟩, ⟨(some 5), .mv (.tmp 17), none⟩, ⟨none, .store 7 (.tmp 6) (.tmp 19), none⟩])
 (.seq (.ops [⟨(some 21), .mv (.tmp 4), none⟩, ⟨(some 22), .faddr 0 (.tmp 6), none⟩, ⟨(some 23), .load false 1 (.tmp 22), none⟩, ⟨(some 24), .mlook .i64 (.int .i64 0) true (.tmp 21) (.tmp 23), none⟩, ⟨(some 20), .mv (.tmp 24), none⟩, ⟨(some 25), .ext (.tmp 20) 0, none⟩, ⟨(some 26), .ext (.tmp 20) 1, none⟩, ⟨(some 7), .mv (.tmp 25), none⟩, ⟨(some 8), .mv (.tmp 26), none⟩])
 (.block 2 (.seq (.seq (.ops [⟨(some 44), .faddr 0 (.tmp 6), none⟩, ⟨(some 45), .load false 1 (.tmp 44), none⟩, ⟨(some 46), .bin .lss (.tmp 45) (.const (.int .i64 0)), none⟩, ⟨(some 43), .mv (.tmp 46), none⟩])
 (.cond (.tmp 43) .skip
 (.seq (.ops [⟨(some 47), .faddr 0 (.tmp 6), none⟩, ⟨(some 48), .load false 1 (.tmp 47), none⟩, ⟨(some 49), .bin .geq (.tmp 48) (.const (.int .i64 16)), none⟩, ⟨(some 43), .mv (.tmp 49), none⟩])
 (.cond (.tmp 43) .skip
 (.ops [⟨(some 50), .mv (.tmp 8), none⟩, ⟨(some 51), .faddr 1 (.tmp 6), none⟩, ⟨(some 52), .load false 1 (.tmp 51), none⟩, ⟨(some 53), .eqb false (.tmp 50) (.tmp 52), none⟩, ⟨(some 43), .mv (.tmp 53), none⟩])))))
 (.cond (.tmp 43) (.seq (.ops [⟨(some 2), .mv (.const (.slice none 0 0)), none⟩, ⟨(some 3), .mv (.const (.int .i64 2)), none⟩])
 .ret)
 (.seq (.seq (.ops [⟨(some 55), .faddr 1 (.tmp 6), none⟩, ⟨(some 56), .load false 1 (.tmp 55), none⟩, ⟨(some 57), .mv (.tmp 56), none⟩, ⟨(some 58), .faddr 5 (.tmp 6), (some (57, true))⟩, ⟨(some 59), .load true 2 (.tmp 58), (some (57, true))⟩, ⟨(some 60), .build [(.int .i64 0), (.int .u64 0)] [], (some (57, true))⟩, ⟨(some 61), .eqA true [.int, .int] (.tmp 59) (.tmp 60), (some (57, true))⟩, ⟨(some 62), .pick (.tmp 57) (.tmp 61) (.const (.bool false)), none⟩, ⟨(some 54), .mv (.tmp 62), none⟩])
 (.cond (.tmp 54) .skip
 (.draw [⟨⟨(some 63), .mv (.tmp 8), none⟩, []⟩, ⟨⟨(some 64), .mv (.tmp 63), none⟩, []⟩, ⟨⟨(some 65), .mv (.tmp 2), (some (64, true))⟩, []⟩, ⟨⟨(some 66), .mv (.tmp 7), (some (64, true))⟩, []⟩, ⟨⟨(some 67), .iaddrS 9 (.tmp 65) (.tmp 66), (some (64, true))⟩, []⟩, ⟨⟨(some 68), .faddr 1 (.tmp 67), (some (64, true))⟩, []⟩, ⟨⟨(some 69), .load true 3 (.tmp 68), (some (64, true))⟩, []⟩, ⟨⟨(some 70), .faddr 2 (.tmp 6), (some (64, true))⟩, []⟩, ⟨⟨(some 71), .load true 3 (.tmp 70), (some (64, true))⟩, []⟩, ⟨⟨(some 72), .eqA true [.int, .int, .int] (.tmp 69) (.tmp 71), (some (64, true))⟩, []⟩, ⟨⟨(some 73), .pick (.tmp 64) (.tmp 72) (.const (.bool false)), none⟩, []⟩, ⟨⟨(some 54), .mv (.tmp 73), none⟩, []⟩])))
 (.cond (.tmp 54) (.seq (.ops [⟨(some 2), .mv (.const (.slice none 0 0)), none⟩, ⟨(some 3), .mv (.const (.int .i64 2)), none⟩])
 .ret)
 (.seq (.ops [⟨(some 75), .mv (.tmp 8), none⟩, ⟨(some 74), .mv (.tmp 75), none⟩])
 (.cond (.tmp 74) (.seq (.ops [⟨(some 76), .mv (.tmp 2), none⟩, ⟨(some 77), .mv (.tmp 7), none⟩, ⟨(some 78), .mv (.tmp 2), none⟩, ⟨(some 79), .mv (.tmp 7), none⟩, ⟨(some 80), .mv (.tmp 2), none⟩, ⟨(some 81), .mv (.tmp 7), none⟩, ⟨(some 82), .faddr 5 (.tmp 6), none⟩, ⟨(some 83), .load true 2 (.tmp 82), none⟩, ⟨(some 84), .mv (.tmp 5), none⟩, ⟨(some 85), .iaddrS 9 (.tmp 76) (.tmp 77), none⟩, ⟨(some 86), .faddr 4 (.tmp 85), none⟩, ⟨none, .store 2 (.tmp 86) (.tmp 83), none⟩, ⟨(some 87), .iaddrS 9 (.tmp 78) (.tmp 79), none⟩, ⟨(some 88), .faddr 7 (.tmp 87), none⟩, ⟨none, .store 1 (.tmp 88) (.tmp 84), none⟩, ⟨(some 89), .iaddrS 9 (.tmp 80) (.tmp 81), none⟩, ⟨(some 90), .faddr 8 (.tmp 89), none⟩, ⟨none, .store 1 (.tmp 90) (.const (.bool true)), none⟩])
 (.ops [⟨(some 91), .mv (.tmp 4), none⟩, ⟨(some 92), .faddr 0 (.tmp 6), none⟩, ⟨(some 93), .load false 1 (.tmp 92), none⟩, ⟨none, .mdel .i64 (.tmp 91) (.tmp 93), none⟩]))
 (.seq (.ops [⟨(some 27), .mv (.tmp 4), none⟩, ⟨(some 28), .faddr 0 (.tmp 6), none⟩, ⟨(some 29), .load false 1 (.tmp 28), none⟩, ⟨(some 30), .mv (.tmp 2), none⟩, ⟨(some 31), .len false (.tmp 30), none⟩, ⟨none, .mupd .i64 (.tmp 27) (.tmp 29) (.tmp 31), none⟩])
 (.ops [⟨(some 32), .mv (.tmp 2), none⟩, ⟨(some 33), .faddr 0 (.tmp 6), none⟩, ⟨(some 34), .load false 1 (.tmp 33), none⟩, ⟨(some 35), .faddr 2 (.tmp 6), none⟩, ⟨(some 36), .load true 3 (.tmp 35), none⟩, ⟨(some 37), .mv (.tmp 5), none⟩, ⟨(some 38), .mv (.tmp 0), none⟩, ⟨(some 39), .len false (.tmp 38), none⟩, ⟨(some 40), .build [(.int .i64 0), (.int .i64 0), (.int .u64 0), (.int .u64 0), (.int .i64 0), (.int .u64 0), (.int .i64 0), (.int .i64 0), (.bool false)] [(0, 1, (.tmp 34)), (1, 3, (.tmp 36)), (6, 1, (.tmp 37)), (7, 1, (.tmp 39))], none⟩, ⟨(some 41), .buildS [(.int .i64 0), (.int .i64 0), (.int .u64 0), (.int .u64 0), (.int .i64 0), (.int .u64 0), (.int .i64 0), (.int .i64 0), (.bool false)] 1 [(0, 9, (.tmp 40))], none⟩, ⟨(some 42), .app [(.int .i64 0), (.int .i64 0), (.int .u64 0), (.int .u64 0), (.int .i64 0), (.int .u64 0), (.int .i64 0), (.int .i64 0), (.bool false)] 72 (.tmp 32) (.tmp 41), none⟩, ⟨(some 2), .mv (.tmp 42), none⟩]))))))))))))
 (.ops [⟨(some 94), .bin .add (.tmp 15) (.const (.int .i64 1)), none⟩, ⟨(some 15), .mv (.tmp 94), none⟩])))))))
 (.seq (.ops [⟨(some 95), .mv (.tmp 2), none⟩, ⟨(some 2), .mv (.tmp 95), none⟩, ⟨(some 3), .mv (.const (.int .i64 0)), none⟩])
 .ret))))),
 96, [.tmp 2, .tmp 3]⟩
theorem low11 : lowerFn Try.prog Try.f11 = some L11 := by kernel_rfl
noncomputable def G11 (B : OH) : Nat → Cs
  | _ => fun _ _ _ => none
theorem sG11 {w0 : World} {B : OH} : SoundG Try.prog w0 B { f := G11 B } := .of fun k => by
  unfold G11
  split
  · exact .inl fun _ _ _ => rfl
theorem en11 : Enter Try.prog 11 := .of Try.func11 (by kernel_rfl) (by kernel_rfl)
noncomputable def T11 (B : OH) : Cs := callF B { f := G11 B } 1200 L11
theorem sT11 {w0 : World} {B : OH} : SoundC Try.prog w0 B 11 (T11 B) := callF_sound mixedOrders sG11 1200 Try.func11 low11
def lb11 : LC := (.seq (.ops [⟨(some 16), .bin .lss (.tmp 15) (.tmp 14), none⟩])
 (.seq (.cond (.tmp 16) .skip
 (.exit 0))
 (.seq (.block 1 (.seq (.ops [⟨(some 17), .mv (.tmp 15), none⟩, ⟨(some 18), .iaddrS 7 (.tmp 13) (.tmp 15), none⟩, ⟨(some 19), .load true 7 (.tmp 18), none⟩, ⟨(some 6), .alloc [(.int .i64 0), (.bool false), (.int .i64 0), (.int .u64 0), (.int .u64 0), (.int .i64 0), (.int .u64 0)], none⟩, ⟨(some 5), .mv (.tmp 17), none⟩, ⟨none, .store 7 (.tmp 6) (.tmp 19), none⟩])
 (.seq (.ops [⟨(some 21), .mv (.tmp 4), none⟩, ⟨(some 22), .faddr 0 (.tmp 6), none⟩, ⟨(some 23), .load false 1 (.tmp 22), none⟩, ⟨(some 24), .mlook .i64 (.int .i64 0) true (.tmp 21) (.tmp 23), none⟩, ⟨(some 20), .mv (.tmp 24), none⟩, ⟨(some 25), .ext (.tmp 20) 0, none⟩, ⟨(some 26), .ext (.tmp 20) 1, none⟩, ⟨(some 7), .mv (.tmp 25), none⟩, ⟨(some 8), .mv (.tmp 26), none⟩])
 (.block 2 (.seq (.seq (.ops [⟨(some 44), .faddr 0 (.tmp 6), none⟩, ⟨(some 45), .load false 1 (.tmp 44), none⟩, ⟨(some 46), .bin .lss (.tmp 45) (.const (.int .i64 0)), none⟩, ⟨(some 43), .mv (.tmp 46), none⟩])
 (.cond (.tmp 43) .skip
 (.seq (.ops [⟨(some 47), .faddr 0 (.tmp 6), none⟩, ⟨(some 48), .load false 1 (.tmp 47), none⟩, ⟨(some 49), .bin .geq (.tmp 48) (.const (.int .i64 16)), none⟩, ⟨(some 43), .mv (.tmp 49), none⟩])
 (.cond (.tmp 43) .skip
 (.ops [⟨(some 50), .mv (.tmp 8), none⟩, ⟨(some 51), .faddr 1 (.tmp 6), none⟩, ⟨(some 52), .load false 1 (.tmp 51), none⟩, ⟨(some 53), .eqb false (.tmp 50) (.tmp 52), none⟩, ⟨(some 43), .mv (.tmp 53), none⟩])))))
 (.cond (.tmp 43) (.seq (.ops [⟨(some 2), .mv (.const (.slice none 0 0)), none⟩, ⟨(some 3), .mv (.const (.int .i64 2)), none⟩])
 .ret)
 (.seq (.seq (.ops [⟨(some 55), .faddr 1 (.tmp 6), none⟩, ⟨(some 56), .load false 1 (.tmp 55), none⟩, ⟨(some 57), .mv (.tmp 56), none⟩, ⟨(some 58), .faddr 5 (.tmp 6), (some (57, true))⟩, ⟨(some 59), .load true 2 (.tmp 58), (some (57, true))⟩, ⟨(some 60), .build [(.int .i64 0), (.int .u64 0)] [], (some (57, true))⟩, ⟨(some 61), .eqA true [.int, .int] (.tmp 59) (.tmp 60), (some (57, true))⟩, ⟨(some 62), .pick (.tmp 57) (.tmp 61) (.const (.bool false)), none⟩, ⟨(some 54), .mv (.tmp 62), none⟩])
 (.cond (.tmp 54) .skip
 (.draw [⟨⟨(some 63), .mv (.tmp 8), none⟩, []⟩, ⟨⟨(some 64), .mv (.tmp 63), none⟩, []⟩, ⟨⟨(some 65), .mv (.tmp 2), (some (64, true))⟩, []⟩, ⟨⟨(some 66), .mv (.tmp 7), (some (64, true))⟩, []⟩, ⟨⟨(some 67), .iaddrS 9 (.tmp 65) (.tmp 66), (some (64, true))⟩, []⟩, ⟨⟨(some 68), .faddr 1 (.tmp 67), (some (64, true))⟩, []⟩, ⟨⟨(some 69), .load true 3 (.tmp 68), (some (64, true))⟩, []⟩, ⟨⟨(some 70), .faddr 2 (.tmp 6), (some (64, true))⟩, []⟩, ⟨⟨(some 71), .load true 3 (.tmp 70), (some (64, true))⟩, []⟩, ⟨⟨(some 72), .eqA true [.int, .int, .int] (.tmp 69) (.tmp 71), (some (64, true))⟩, []⟩, ⟨⟨(some 73), .pick (.tmp 64) (.tmp 72) (.const (.bool false)), none⟩, []⟩, ⟨⟨(some 54), .mv (.tmp 73), none⟩, []⟩])))
 (.cond (.tmp 54) (.seq (.ops [⟨(some 2), .mv (.const (.slice none 0 0)), none⟩, ⟨(some 3), .mv (.const (.int .i64 2)), none⟩])
 .ret)
 (.seq (.ops [⟨(some 75), .mv (.tmp 8), none⟩, ⟨(some 74), .mv (.tmp 75), none⟩])
 (.cond (.tmp 74) (.seq (.ops [⟨(some 76), .mv (.tmp 2), none⟩, ⟨(some 77), .mv (.tmp 7), none⟩, ⟨(some 78), .mv (.tmp 2), none⟩, ⟨(some 79), .mv (.tmp 7), none⟩, ⟨(some 80), .mv (.tmp 2), none⟩, ⟨(some 81), .mv (.tmp 7), none⟩, ⟨(some 82), .faddr 5 (.tmp 6), none⟩, ⟨(some 83), .load true 2 (.tmp 82), none⟩, ⟨(some 84), .mv (.tmp 5), none⟩, ⟨(some 85), .iaddrS 9 (.tmp 76) (.tmp 77), none⟩, ⟨(some 86), .faddr 4 (.tmp 85), none⟩, ⟨none, .store 2 (.tmp 86) (.tmp 83), none⟩, ⟨(some 87), .iaddrS 9 (.tmp 78) (.tmp 79), none⟩, ⟨(some 88), .faddr 7 (.tmp 87), none⟩, ⟨none, .store 1 (.tmp 88) (.tmp 84), none⟩, ⟨(some 89), .iaddrS 9 (.tmp 80) (.tmp 81), none⟩, ⟨(some 90), .faddr 8 (.tmp 89), none⟩, ⟨none, .store 1 (.tmp 90) (.const (.bool true)), none⟩])
 (.ops [⟨(some 91), .mv (.tmp 4), none⟩, ⟨(some 92), .faddr 0 (.tmp 6), none⟩, ⟨(some 93), .load false 1 (.tmp 92), none⟩, ⟨none, .mdel .i64 (.tmp 91) (.tmp 93), none⟩]))
 (.seq (.ops [⟨(some 27), .mv (.tmp 4), none⟩, ⟨(some 28), .faddr 0 (.tmp 6), none⟩, ⟨(some 29), .load false 1 (.tmp 28), none⟩, ⟨(some 30), .mv (.tmp 2), none⟩, ⟨(some 31), .len false (.tmp 30), none⟩, ⟨none, .mupd .i64 (.tmp 27) (.tmp 29) (.tmp 31), none⟩])
 (.ops [⟨(some 32), .mv (.tmp 2), none⟩, ⟨(some 33), .faddr 0 (.tmp 6), none⟩, ⟨(some 34), .load false 1 (.tmp 33), none⟩, ⟨(some 35), .faddr 2 (.tmp 6), none⟩, ⟨(some 36), .load true 3 (.tmp 35), none⟩, ⟨(some 37), .mv (.tmp 5), none⟩, ⟨(some 38), .mv (.tmp 0), none⟩, ⟨(some 39), .len false (.tmp 38), none⟩, ⟨(some 40), .build [(.int .i64 0), (.int .i64 0), (.int .u64 0), (.int .u64 0), (.int .i64 0), (.int .u64 0), (.int .i64 0), (.int .i64 0), (.bool false)] [(0, 1, (.tmp 34)), (1, 3, (.tmp 36)), (6, 1, (.tmp 37)), (7, 1, (.tmp 39))], none⟩, ⟨(some 41), .buildS [(.int .i64 0), (.int .i64 0), (.int .u64 0), (.int .u64 0), (.int .i64 0), (.int .u64 0), (.int .i64 0), (.int .i64 0), (.bool false)] 1 [(0, 9, (.tmp 40))], none⟩, ⟨(some 42), .app [(.int .i64 0), (.int .i64 0), (.int .u64 0), (.int .u64 0), (.int .i64 0), (.int .u64 0), (.int .i64 0), (.int .i64 0), (.bool false)] 72 (.tmp 32) (.tmp 41), none⟩, ⟨(some 2), .mv (.tmp 42), none⟩]))))))))))))
 (.ops [⟨(some 94), .bin .add (.tmp 15) (.const (.int .i64 1)), none⟩, ⟨(some 15), .mv (.tmp 94), none⟩]))))
set_option maxHeartbeats 8000000 in
theorem loop11 {B : OH} {H0 : HL} {m : Nat} {v : Value} {l : List Ev} (hv : SlR ev7 7 B H0 v l) (hl : l.length ≤ 1000) {ts : List Value} {H : HL} {N : St} {vO : Value} (kp : Kc v m l.length vO 0 ts) (mc : Mc B H0 m vO (fun _ => none) [] H N) {F : Nat} (hF : 60 + l.length + 1 ≤ F) :
    Ok (exec B { f := G11 B } F (LC.loop lb11) ⟨ts, H, N⟩) (Rc B H0 m l.length l v) := by
  refine loop_rule (n0 := 60) (fun k s => ∃ ts H N vO, ∃ j : Nat, s = ⟨ts, H, N⟩ ∧ Kc v m l.length vO j ts ∧ Mc B H0 m vO (cRun l.length l j).1 (cRun l.length l j).2 H N ∧ (∀ i, i < j → ¬ cBad (cRun l.length l i).1 (cRun l.length l i).2 (l.getD i e0)) ∧ j ≤ l.length ∧ k = l.length - j) _ ?_ l.length _ ⟨_, _, _, _, 0, rfl, kp, mc, fun i hi => by omega, by omega, rfl⟩ _ hF
  clear kp mc hF F ts H N vO
  rintro n k s ⟨ts, H, N, vO, j, rfl, kp, mc, hgd, hjn, rfl⟩
  have hN := mc.g
  have hB := good_B hN
  have hR := good_rdB hN
  have hI := beqN hN.1.1
  by_cases hj : j < l.length
  case neg =>
    obtain rfl : j = l.length := by omega
    simp -implicitDefEqProofs (maxSteps := 10000000) (disch := omega) only [T11, L11, hB, hR, hI, lb11, kp.l, kp.t0, kp.t2, kp.t3, kp.t4, kp.t13, kp.t14, kp.t15, gtst, st_len, lenV_sl, Int.toNat_natCast, bft, btf, Int.lt_irrefl, pad, e_skip, e_ops, e_draw, d_none, d_nil, d_cons, d_ite, h_none, h_nil, h_cons, h_ite, eqS_same, lightV, e_seq, e_cond, e_block, e_exit, e_ret, s_normal, s_ret, s_exit, s_none, s_ite, b_normal, b_ret, b_exit, b_none, b_ite, c_bool, x_none, x_nil, x_cons, x_ite, p_some, p_none, p_ite, pt_some, pt_none, pv_some, pv_none, pv_ite, w_none, w_some, i_bool, i_undef, bt, bf, v_tmp, v_const, v_global, v_func, evs, f_normal, f_ret, f_none, f_ite, r_some, co_some, l_ptr, m_agg, m_one, sh_app, lk_nil, lk_cons, rd_eq, rdO_some, rdO_none, rdN_none, rdL_some, rdL_none, wrB_none, unitR_some, wr_nil, wr_here, wr_skip, k_cells, tk_zero, tk_take, tk_skip, tkC_some, call_func, gt, st, binV, arith, isSh, storeV, all1, idxAV, fieldV, faddrV, iaddrSV, iaddrAV, pickV, convV, unV, eqbV, eqpV, extV, mm2, mmV, nilckV, ress, res1, retV, Value.cells, cond_true, cond_false, Bool.true_or, Bool.false_or, Bool.or_true, Bool.or_false, beq_self_eq_true, if_true, if_false, ite_true, ite_false, decide_true, decide_false, decide_eq_true_eq, reduceIte, Nat.zero_add, Nat.add_zero, and_self, true_and, and_true, List.size_toArray, List.length_cons, List.length_nil, List.append_nil, List.nil_append, Int.toNat_zero, Bool.not_false, Bool.not_true, Bool.not_not, Bool.false_eq_true, Bool.true_eq_false, reduceCtorEq, Int.reduceLT, Int.reduceLE, Int.reduceToNat, Int.reduceAdd, Int.reduceSub, Int.reduceMul, Int.reduceNeg, Nat.reduceMul, Nat.reduceAdd, Nat.reduceSub, Nat.reduceBEq, Nat.reduceEqDiff, Nat.reduceLT, Nat.reduceLeDiff, Int.reduceBEq, Int.reduceEq, Nat.reducePow, Int.reducePow, IntWalk.i64_in, IntKind.bits, eqAV, eqL, leafEq, andO, fillV, buildSV, List.getElem?_toArray, List.getElem?_cons_zero, List.getElem?_cons_succ, List.getElem?_nil, Int.reduceGT, Int.reduceGE, Int.reduceBNe, Bool.true_and, Bool.and_true, Bool.false_and, Bool.and_false, Bool.and_self, IntWalk.u64_in, Int.cast_ofNat_Int, callF1, pad16, pad_0, pad_1, pad_2, pad_3, pad_4, pad_5, pad_6, pad_7, pad_8, pad_9, pad_10, pad_11, pad_12, pad_13, pad_14, pad_15, gc0, gc1, gc2, gc3, gc4, gc5, gc6, gc7, gc8, gc9, gc10, gc11, gc12, gc13, gc14, gc15, gcS, sc0, sc1, sc2, sc3, sc4, sc5, sc6, sc7, sc8, sc9, sc10, sc11, sc12, sc13, sc14, sc15, scS, List.drop_succ_cons, List.drop_nil, x_pan, s_pan, b_pan, pE_ret, pE_pan, pE_none, pE_ite, pvE_some, pvE_none, pvE_ite, rv_some, rv_none, rv_ite, oR_ret, t_mv, t_pick, t_alloc, t_box, t_build, t_buildS, t_load, t_store, t_nilck, t_bin, t_eqb, t_eqA, t_eqp, t_un, t_conv, t_field, t_idxA, t_faddr, t_iaddrS, t_iaddrA, t_ext, t_len, t_mm, t_call, t_ifc, t_fn, t_slc, t_slcA, t_slcT, t_tass, t_isn, t_mks, t_app, t_pan, panE_i, optE_none, optE_some, bnd_none, bnd_int, slA_none, slA_some, appR_some, appOld_cells, newsV_s, newsV_n, lenS_s, appV_nil, appV_some, mksV_i, sh_c, sh_g, f_pan, endD_ret, dfr_normal, dfr_ret, dfr_pan, restD_normal, callD1, callC1, tassV, isnV, slcV, slcAV, slcTV, slcB, appNew, Option.bind_some, Option.bind_none, d_pan, h_pan, wrH_eq, wrX_cells, wrU_some, upH_nil, upH_cons, lk_upH, effR_some, effR_none, effR_ite, Option.isNone_none, Option.isNone_some, slA_zero, call_yield, e_range, it_func, wy_same, y_call, isLp_self, beg_normal, end_normal, end_ret, end_exit, end_ite, aft_ret, aft_ready, aft_done, aft_exit, setP_cons, setP_nil, sh_r, t_mkmap, t_mlook, t_mupd, t_mdel, mapF_some, lookF_some, setM_some, lookR_t, lookR_n, lookR_f, lookR_fn, lookV, mupdV, mdelV, mkM]
    refine ok_some (.inr ⟨by simp, .inl ⟨rfl, vO, ⟨?_, ?_, ?_, ?_, ?_, ?_, ?_, ?_⟩, mc, hgd⟩⟩)
    all_goals simp -implicitDefEqProofs (maxSteps := 10000000) (disch := omega) only [T11, L11, hB, hR, hI, lb11, kp.l, kp.t0, kp.t2, kp.t3, kp.t4, kp.t13, kp.t14, kp.t15, gtst, st_len, lenV_sl, Int.toNat_natCast, bft, btf, pad, e_skip, e_ops, e_draw, d_none, d_nil, d_cons, d_ite, h_none, h_nil, h_cons, h_ite, eqS_same, lightV, e_seq, e_cond, e_block, e_exit, e_ret, s_normal, s_ret, s_exit, s_none, s_ite, b_normal, b_ret, b_exit, b_none, b_ite, c_bool, x_none, x_nil, x_cons, x_ite, p_some, p_none, p_ite, pt_some, pt_none, pv_some, pv_none, pv_ite, w_none, w_some, i_bool, i_undef, bt, bf, v_tmp, v_const, v_global, v_func, evs, f_normal, f_ret, f_none, f_ite, r_some, co_some, l_ptr, m_agg, m_one, sh_app, lk_nil, lk_cons, rd_eq, rdO_some, rdO_none, rdN_none, rdL_some, rdL_none, wrB_none, unitR_some, wr_nil, wr_here, wr_skip, k_cells, tk_zero, tk_take, tk_skip, tkC_some, call_func, gt, st, binV, arith, isSh, storeV, all1, idxAV, fieldV, faddrV, iaddrSV, iaddrAV, pickV, convV, unV, eqbV, eqpV, extV, mm2, mmV, nilckV, ress, res1, retV, Value.cells, cond_true, cond_false, Bool.true_or, Bool.false_or, Bool.or_true, Bool.or_false, beq_self_eq_true, if_true, if_false, ite_true, ite_false, decide_true, decide_false, decide_eq_true_eq, reduceIte, Nat.zero_add, Nat.add_zero, and_self, true_and, and_true, List.size_toArray, List.length_cons, List.length_nil, List.append_nil, List.nil_append, Int.toNat_zero, Bool.not_false, Bool.not_true, Bool.not_not, Bool.false_eq_true, Bool.true_eq_false, reduceCtorEq, Int.reduceLT, Int.reduceLE, Int.reduceToNat, Int.reduceAdd, Int.reduceSub, Int.reduceMul, Int.reduceNeg, Nat.reduceMul, Nat.reduceAdd, Nat.reduceSub, Nat.reduceBEq, Nat.reduceEqDiff, Nat.reduceLT, Nat.reduceLeDiff, Int.reduceBEq, Int.reduceEq, Nat.reducePow, Int.reducePow, IntWalk.i64_in, IntKind.bits, eqAV, eqL, leafEq, andO, fillV, buildSV, List.getElem?_toArray, List.getElem?_cons_zero, List.getElem?_cons_succ, List.getElem?_nil, Int.reduceGT, Int.reduceGE, Int.reduceBNe, Bool.true_and, Bool.and_true, Bool.false_and, Bool.and_false, Bool.and_self, IntWalk.u64_in, Int.cast_ofNat_Int, callF1, pad16, pad_0, pad_1, pad_2, pad_3, pad_4, pad_5, pad_6, pad_7, pad_8, pad_9, pad_10, pad_11, pad_12, pad_13, pad_14, pad_15, gc0, gc1, gc2, gc3, gc4, gc5, gc6, gc7, gc8, gc9, gc10, gc11, gc12, gc13, gc14, gc15, gcS, sc0, sc1, sc2, sc3, sc4, sc5, sc6, sc7, sc8, sc9, sc10, sc11, sc12, sc13, sc14, sc15, scS, List.drop_succ_cons, List.drop_nil, x_pan, s_pan, b_pan, pE_ret, pE_pan, pE_none, pE_ite, pvE_some, pvE_none, pvE_ite, rv_some, rv_none, rv_ite, oR_ret, t_mv, t_pick, t_alloc, t_box, t_build, t_buildS, t_load, t_store, t_nilck, t_bin, t_eqb, t_eqA, t_eqp, t_un, t_conv, t_field, t_idxA, t_faddr, t_iaddrS, t_iaddrA, t_ext, t_len, t_mm, t_call, t_ifc, t_fn, t_slc, t_slcA, t_slcT, t_tass, t_isn, t_mks, t_app, t_pan, panE_i, optE_none, optE_some, bnd_none, bnd_int, slA_none, slA_some, appR_some, appOld_cells, newsV_s, newsV_n, lenS_s, appV_nil, appV_some, mksV_i, sh_c, sh_g, f_pan, endD_ret, dfr_normal, dfr_ret, dfr_pan, restD_normal, callD1, callC1, tassV, isnV, slcV, slcAV, slcTV, slcB, appNew, Option.bind_some, Option.bind_none, d_pan, h_pan, wrH_eq, wrX_cells, wrU_some, upH_nil, upH_cons, lk_upH, effR_some, effR_none, effR_ite, Option.isNone_none, Option.isNone_some, slA_zero, call_yield, e_range, it_func, wy_same, y_call, isLp_self, beg_normal, end_normal, end_ret, end_exit, end_ite, aft_ret, aft_ready, aft_done, aft_exit, setP_cons, setP_nil, sh_r, t_mkmap, t_mlook, t_mupd, t_mdel, mapF_some, lookF_some, setM_some, lookR_t, lookR_n, lookR_f, lookR_fn, lookV, mupdV, mdelV, mkM]
  have hjI : (j : Int) < (l.length : Int) := by omega
  have j0 : (0 : Int) ≤ (j : Int) := by omega
  have hc1 : ((j + 1 : Nat) : Int) = (j : Int) + 1 := by omega
  obtain ⟨b, o, cap, rfl, hb, hrd⟩ := hv.at (by omega)
  have hrd : rdO H B b (o + j * 7) 7 (rdB B b (o + j * 7) 7) = some (ev7 (l.getD j e0)) := (hrd H mc.f j 0 7 e0 hj (by omega)).trans rfl
  have nm := ne_N mc.g mc.lm
  have nm' := ne_N' mc.g mc.lm
  have hlen : (cRun l.length l j).2.length ≤ j := by
    have : ∀ j, (cRun l.length l j).2.length ≤ j := by
      intro j
      induction j with
      | zero => exact Nat.le_refl _
      | succ j ih => simp only [cRun, cStep]; split <;> simp <;> omega
    exact this j
  have hinv := Inv.pre (n := l.length) (l := l) j hjn hgd
  have hgd' : ¬ cBad (cRun l.length l j).1 (cRun l.length l j).2 (l.getD j e0) → ∀ i, i < j + 1 → ¬ cBad (cRun l.length l i).1 (cRun l.length l i).2 (l.getD i e0) := fun h i hi => by
    rcases Nat.lt_or_ge i j with h' | h'
    · exact hgd i h'
    · obtain rfl : i = j := by omega
      exact h
  have hrun : cRun l.length l (j + 1) = cStep l.length j (l.getD j e0) (cRun l.length l j) := rfl
  generalize hs : cRun l.length l j = sj at mc hlen hinv hgd' hrun
  generalize hx : l.getD j e0 = x at hrd hgd' hrun
  obtain ⟨om, C⟩ := sj
  obtain ⟨p, bb, c, k, w, e, r⟩ := x
  simp only at mc hlen hinv hgd' hrun
  simp only [ev7] at hrd
  cases ho : om p with
  | none =>
    have hp := mf_none ho
    by_cases p0 : p < 0
    · have hbad : cBad (cRun l.length l j).1 (cRun l.length l j).2 (l.getD j e0) := by
        unfold cBad
        exact by rw [hs, hx]; exact .inl p0
      simp -implicitDefEqProofs (maxSteps := 10000000) (disch := omega) only [T11, L11, hB, hR, hI, lb11, kp.l, kp.t0, kp.t2, kp.t3, kp.t4, kp.t13, kp.t14, kp.t15, gtst, st_len, lenV_sl, Int.toNat_natCast, bft, btf, mc.lm, mc.mB, nm, nm', hrd, hp, mapF_some, hjI, hj, j0, p0, pad, e_skip, e_ops, e_draw, d_none, d_nil, d_cons, d_ite, h_none, h_nil, h_cons, h_ite, eqS_same, lightV, e_seq, e_cond, e_block, e_exit, e_ret, s_normal, s_ret, s_exit, s_none, s_ite, b_normal, b_ret, b_exit, b_none, b_ite, c_bool, x_none, x_nil, x_cons, x_ite, p_some, p_none, p_ite, pt_some, pt_none, pv_some, pv_none, pv_ite, w_none, w_some, i_bool, i_undef, bt, bf, v_tmp, v_const, v_global, v_func, evs, f_normal, f_ret, f_none, f_ite, r_some, co_some, l_ptr, m_agg, m_one, sh_app, lk_nil, lk_cons, rd_eq, rdO_some, rdO_none, rdN_none, rdL_some, rdL_none, wrB_none, unitR_some, wr_nil, wr_here, wr_skip, k_cells, tk_zero, tk_take, tk_skip, tkC_some, call_func, gt, st, binV, arith, isSh, storeV, all1, idxAV, fieldV, faddrV, iaddrSV, iaddrAV, pickV, convV, unV, eqbV, eqpV, extV, mm2, mmV, nilckV, ress, res1, retV, Value.cells, cond_true, cond_false, Bool.true_or, Bool.false_or, Bool.or_true, Bool.or_false, beq_self_eq_true, if_true, if_false, ite_true, ite_false, decide_true, decide_false, decide_eq_true_eq, reduceIte, Nat.zero_add, Nat.add_zero, and_self, true_and, and_true, List.size_toArray, List.length_cons, List.length_nil, List.append_nil, List.nil_append, Int.toNat_zero, Bool.not_false, Bool.not_true, Bool.not_not, Bool.false_eq_true, Bool.true_eq_false, reduceCtorEq, Int.reduceLT, Int.reduceLE, Int.reduceToNat, Int.reduceAdd, Int.reduceSub, Int.reduceMul, Int.reduceNeg, Nat.reduceMul, Nat.reduceAdd, Nat.reduceSub, Nat.reduceBEq, Nat.reduceEqDiff, Nat.reduceLT, Nat.reduceLeDiff, Int.reduceBEq, Int.reduceEq, Nat.reducePow, Int.reducePow, IntWalk.i64_in, IntKind.bits, eqAV, eqL, leafEq, andO, fillV, buildSV, List.getElem?_toArray, List.getElem?_cons_zero, List.getElem?_cons_succ, List.getElem?_nil, Int.reduceGT, Int.reduceGE, Int.reduceBNe, Bool.true_and, Bool.and_true, Bool.false_and, Bool.and_false, Bool.and_self, IntWalk.u64_in, Int.cast_ofNat_Int, callF1, pad16, pad_0, pad_1, pad_2, pad_3, pad_4, pad_5, pad_6, pad_7, pad_8, pad_9, pad_10, pad_11, pad_12, pad_13, pad_14, pad_15, gc0, gc1, gc2, gc3, gc4, gc5, gc6, gc7, gc8, gc9, gc10, gc11, gc12, gc13, gc14, gc15, gcS, sc0, sc1, sc2, sc3, sc4, sc5, sc6, sc7, sc8, sc9, sc10, sc11, sc12, sc13, sc14, sc15, scS, List.drop_succ_cons, List.drop_nil, x_pan, s_pan, b_pan, pE_ret, pE_pan, pE_none, pE_ite, pvE_some, pvE_none, pvE_ite, rv_some, rv_none, rv_ite, oR_ret, t_mv, t_pick, t_alloc, t_box, t_build, t_buildS, t_load, t_store, t_nilck, t_bin, t_eqb, t_eqA, t_eqp, t_un, t_conv, t_field, t_idxA, t_faddr, t_iaddrS, t_iaddrA, t_ext, t_len, t_mm, t_call, t_ifc, t_fn, t_slc, t_slcA, t_slcT, t_tass, t_isn, t_mks, t_app, t_pan, panE_i, optE_none, optE_some, bnd_none, bnd_int, slA_none, slA_some, appR_some, appOld_cells, newsV_s, newsV_n, lenS_s, appV_nil, appV_some, mksV_i, sh_c, sh_g, f_pan, endD_ret, dfr_normal, dfr_ret, dfr_pan, restD_normal, callD1, callC1, tassV, isnV, slcV, slcAV, slcTV, slcB, appNew, Option.bind_some, Option.bind_none, d_pan, h_pan, wrH_eq, wrX_cells, wrU_some, upH_nil, upH_cons, lk_upH, effR_some, effR_none, effR_ite, Option.isNone_none, Option.isNone_some, slA_zero, call_yield, e_range, it_func, wy_same, y_call, isLp_self, beg_normal, end_normal, end_ret, end_exit, end_ite, aft_ret, aft_ready, aft_done, aft_exit, setP_cons, setP_nil, sh_r, t_mkmap, t_mlook, t_mupd, t_mdel, mapF_some, lookF_some, setM_some, lookR_t, lookR_n, lookR_f, lookR_fn, lookV, mupdV, mdelV, mkM]
      refine ok_some (.inr ⟨by simp, .inr ⟨rfl, ?_, ?_, ?_, good_new mc.g, fr_new mc.g mc.f 0, j, hj, hbad⟩⟩)
      all_goals simp -implicitDefEqProofs (maxSteps := 10000000) (disch := omega) only [T11, L11, hB, hR, hI, lb11, kp.l, kp.t0, kp.t2, kp.t3, kp.t4, kp.t13, kp.t14, kp.t15, gtst, st_len, lenV_sl, Int.toNat_natCast, bft, btf, mc.lm, mc.mB, nm, nm', hrd, hp, mapF_some, hjI, hj, j0, p0, pad, e_skip, e_ops, e_draw, d_none, d_nil, d_cons, d_ite, h_none, h_nil, h_cons, h_ite, eqS_same, lightV, e_seq, e_cond, e_block, e_exit, e_ret, s_normal, s_ret, s_exit, s_none, s_ite, b_normal, b_ret, b_exit, b_none, b_ite, c_bool, x_none, x_nil, x_cons, x_ite, p_some, p_none, p_ite, pt_some, pt_none, pv_some, pv_none, pv_ite, w_none, w_some, i_bool, i_undef, bt, bf, v_tmp, v_const, v_global, v_func, evs, f_normal, f_ret, f_none, f_ite, r_some, co_some, l_ptr, m_agg, m_one, sh_app, lk_nil, lk_cons, rd_eq, rdO_some, rdO_none, rdN_none, rdL_some, rdL_none, wrB_none, unitR_some, wr_nil, wr_here, wr_skip, k_cells, tk_zero, tk_take, tk_skip, tkC_some, call_func, gt, st, binV, arith, isSh, storeV, all1, idxAV, fieldV, faddrV, iaddrSV, iaddrAV, pickV, convV, unV, eqbV, eqpV, extV, mm2, mmV, nilckV, ress, res1, retV, Value.cells, cond_true, cond_false, Bool.true_or, Bool.false_or, Bool.or_true, Bool.or_false, beq_self_eq_true, if_true, if_false, ite_true, ite_false, decide_true, decide_false, decide_eq_true_eq, reduceIte, Nat.zero_add, Nat.add_zero, and_self, true_and, and_true, List.size_toArray, List.length_cons, List.length_nil, List.append_nil, List.nil_append, Int.toNat_zero, Bool.not_false, Bool.not_true, Bool.not_not, Bool.false_eq_true, Bool.true_eq_false, reduceCtorEq, Int.reduceLT, Int.reduceLE, Int.reduceToNat, Int.reduceAdd, Int.reduceSub, Int.reduceMul, Int.reduceNeg, Nat.reduceMul, Nat.reduceAdd, Nat.reduceSub, Nat.reduceBEq, Nat.reduceEqDiff, Nat.reduceLT, Nat.reduceLeDiff, Int.reduceBEq, Int.reduceEq, Nat.reducePow, Int.reducePow, IntWalk.i64_in, IntKind.bits, eqAV, eqL, leafEq, andO, fillV, buildSV, List.getElem?_toArray, List.getElem?_cons_zero, List.getElem?_cons_succ, List.getElem?_nil, Int.reduceGT, Int.reduceGE, Int.reduceBNe, Bool.true_and, Bool.and_true, Bool.false_and, Bool.and_false, Bool.and_self, IntWalk.u64_in, Int.cast_ofNat_Int, callF1, pad16, pad_0, pad_1, pad_2, pad_3, pad_4, pad_5, pad_6, pad_7, pad_8, pad_9, pad_10, pad_11, pad_12, pad_13, pad_14, pad_15, gc0, gc1, gc2, gc3, gc4, gc5, gc6, gc7, gc8, gc9, gc10, gc11, gc12, gc13, gc14, gc15, gcS, sc0, sc1, sc2, sc3, sc4, sc5, sc6, sc7, sc8, sc9, sc10, sc11, sc12, sc13, sc14, sc15, scS, List.drop_succ_cons, List.drop_nil, x_pan, s_pan, b_pan, pE_ret, pE_pan, pE_none, pE_ite, pvE_some, pvE_none, pvE_ite, rv_some, rv_none, rv_ite, oR_ret, t_mv, t_pick, t_alloc, t_box, t_build, t_buildS, t_load, t_store, t_nilck, t_bin, t_eqb, t_eqA, t_eqp, t_un, t_conv, t_field, t_idxA, t_faddr, t_iaddrS, t_iaddrA, t_ext, t_len, t_mm, t_call, t_ifc, t_fn, t_slc, t_slcA, t_slcT, t_tass, t_isn, t_mks, t_app, t_pan, panE_i, optE_none, optE_some, bnd_none, bnd_int, slA_none, slA_some, appR_some, appOld_cells, newsV_s, newsV_n, lenS_s, appV_nil, appV_some, mksV_i, sh_c, sh_g, f_pan, endD_ret, dfr_normal, dfr_ret, dfr_pan, restD_normal, callD1, callC1, tassV, isnV, slcV, slcAV, slcTV, slcB, appNew, Option.bind_some, Option.bind_none, d_pan, h_pan, wrH_eq, wrX_cells, wrU_some, upH_nil, upH_cons, lk_upH, effR_some, effR_none, effR_ite, Option.isNone_none, Option.isNone_some, slA_zero, call_yield, e_range, it_func, wy_same, y_call, isLp_self, beg_normal, end_normal, end_ret, end_exit, end_ite, aft_ret, aft_ready, aft_done, aft_exit, setP_cons, setP_nil, sh_r, t_mkmap, t_mlook, t_mupd, t_mdel, mapF_some, lookF_some, setM_some, lookR_t, lookR_n, lookR_f, lookR_fn, lookV, mupdV, mdelV, mkM]
    by_cases p16 : p ≥ 16
    · have hbad : cBad (cRun l.length l j).1 (cRun l.length l j).2 (l.getD j e0) := by
        unfold cBad
        exact by rw [hs, hx]; exact .inr (.inl p16)
      simp -implicitDefEqProofs (maxSteps := 10000000) (disch := omega) only [T11, L11, hB, hR, hI, lb11, kp.l, kp.t0, kp.t2, kp.t3, kp.t4, kp.t13, kp.t14, kp.t15, gtst, st_len, lenV_sl, Int.toNat_natCast, bft, btf, mc.lm, mc.mB, nm, nm', hrd, hp, mapF_some, hjI, hj, j0, p0, p16, pad, e_skip, e_ops, e_draw, d_none, d_nil, d_cons, d_ite, h_none, h_nil, h_cons, h_ite, eqS_same, lightV, e_seq, e_cond, e_block, e_exit, e_ret, s_normal, s_ret, s_exit, s_none, s_ite, b_normal, b_ret, b_exit, b_none, b_ite, c_bool, x_none, x_nil, x_cons, x_ite, p_some, p_none, p_ite, pt_some, pt_none, pv_some, pv_none, pv_ite, w_none, w_some, i_bool, i_undef, bt, bf, v_tmp, v_const, v_global, v_func, evs, f_normal, f_ret, f_none, f_ite, r_some, co_some, l_ptr, m_agg, m_one, sh_app, lk_nil, lk_cons, rd_eq, rdO_some, rdO_none, rdN_none, rdL_some, rdL_none, wrB_none, unitR_some, wr_nil, wr_here, wr_skip, k_cells, tk_zero, tk_take, tk_skip, tkC_some, call_func, gt, st, binV, arith, isSh, storeV, all1, idxAV, fieldV, faddrV, iaddrSV, iaddrAV, pickV, convV, unV, eqbV, eqpV, extV, mm2, mmV, nilckV, ress, res1, retV, Value.cells, cond_true, cond_false, Bool.true_or, Bool.false_or, Bool.or_true, Bool.or_false, beq_self_eq_true, if_true, if_false, ite_true, ite_false, decide_true, decide_false, decide_eq_true_eq, reduceIte, Nat.zero_add, Nat.add_zero, and_self, true_and, and_true, List.size_toArray, List.length_cons, List.length_nil, List.append_nil, List.nil_append, Int.toNat_zero, Bool.not_false, Bool.not_true, Bool.not_not, Bool.false_eq_true, Bool.true_eq_false, reduceCtorEq, Int.reduceLT, Int.reduceLE, Int.reduceToNat, Int.reduceAdd, Int.reduceSub, Int.reduceMul, Int.reduceNeg, Nat.reduceMul, Nat.reduceAdd, Nat.reduceSub, Nat.reduceBEq, Nat.reduceEqDiff, Nat.reduceLT, Nat.reduceLeDiff, Int.reduceBEq, Int.reduceEq, Nat.reducePow, Int.reducePow, IntWalk.i64_in, IntKind.bits, eqAV, eqL, leafEq, andO, fillV, buildSV, List.getElem?_toArray, List.getElem?_cons_zero, List.getElem?_cons_succ, List.getElem?_nil, Int.reduceGT, Int.reduceGE, Int.reduceBNe, Bool.true_and, Bool.and_true, Bool.false_and, Bool.and_false, Bool.and_self, IntWalk.u64_in, Int.cast_ofNat_Int, callF1, pad16, pad_0, pad_1, pad_2, pad_3, pad_4, pad_5, pad_6, pad_7, pad_8, pad_9, pad_10, pad_11, pad_12, pad_13, pad_14, pad_15, gc0, gc1, gc2, gc3, gc4, gc5, gc6, gc7, gc8, gc9, gc10, gc11, gc12, gc13, gc14, gc15, gcS, sc0, sc1, sc2, sc3, sc4, sc5, sc6, sc7, sc8, sc9, sc10, sc11, sc12, sc13, sc14, sc15, scS, List.drop_succ_cons, List.drop_nil, x_pan, s_pan, b_pan, pE_ret, pE_pan, pE_none, pE_ite, pvE_some, pvE_none, pvE_ite, rv_some, rv_none, rv_ite, oR_ret, t_mv, t_pick, t_alloc, t_box, t_build, t_buildS, t_load, t_store, t_nilck, t_bin, t_eqb, t_eqA, t_eqp, t_un, t_conv, t_field, t_idxA, t_faddr, t_iaddrS, t_iaddrA, t_ext, t_len, t_mm, t_call, t_ifc, t_fn, t_slc, t_slcA, t_slcT, t_tass, t_isn, t_mks, t_app, t_pan, panE_i, optE_none, optE_some, bnd_none, bnd_int, slA_none, slA_some, appR_some, appOld_cells, newsV_s, newsV_n, lenS_s, appV_nil, appV_some, mksV_i, sh_c, sh_g, f_pan, endD_ret, dfr_normal, dfr_ret, dfr_pan, restD_normal, callD1, callC1, tassV, isnV, slcV, slcAV, slcTV, slcB, appNew, Option.bind_some, Option.bind_none, d_pan, h_pan, wrH_eq, wrX_cells, wrU_some, upH_nil, upH_cons, lk_upH, effR_some, effR_none, effR_ite, Option.isNone_none, Option.isNone_some, slA_zero, call_yield, e_range, it_func, wy_same, y_call, isLp_self, beg_normal, end_normal, end_ret, end_exit, end_ite, aft_ret, aft_ready, aft_done, aft_exit, setP_cons, setP_nil, sh_r, t_mkmap, t_mlook, t_mupd, t_mdel, mapF_some, lookF_some, setM_some, lookR_t, lookR_n, lookR_f, lookR_fn, lookV, mupdV, mdelV, mkM]
      refine ok_some (.inr ⟨by simp, .inr ⟨rfl, ?_, ?_, ?_, good_new mc.g, fr_new mc.g mc.f 0, j, hj, hbad⟩⟩)
      all_goals simp -implicitDefEqProofs (maxSteps := 10000000) (disch := omega) only [T11, L11, hB, hR, hI, lb11, kp.l, kp.t0, kp.t2, kp.t3, kp.t4, kp.t13, kp.t14, kp.t15, gtst, st_len, lenV_sl, Int.toNat_natCast, bft, btf, mc.lm, mc.mB, nm, nm', hrd, hp, mapF_some, hjI, hj, j0, p0, p16, pad, e_skip, e_ops, e_draw, d_none, d_nil, d_cons, d_ite, h_none, h_nil, h_cons, h_ite, eqS_same, lightV, e_seq, e_cond, e_block, e_exit, e_ret, s_normal, s_ret, s_exit, s_none, s_ite, b_normal, b_ret, b_exit, b_none, b_ite, c_bool, x_none, x_nil, x_cons, x_ite, p_some, p_none, p_ite, pt_some, pt_none, pv_some, pv_none, pv_ite, w_none, w_some, i_bool, i_undef, bt, bf, v_tmp, v_const, v_global, v_func, evs, f_normal, f_ret, f_none, f_ite, r_some, co_some, l_ptr, m_agg, m_one, sh_app, lk_nil, lk_cons, rd_eq, rdO_some, rdO_none, rdN_none, rdL_some, rdL_none, wrB_none, unitR_some, wr_nil, wr_here, wr_skip, k_cells, tk_zero, tk_take, tk_skip, tkC_some, call_func, gt, st, binV, arith, isSh, storeV, all1, idxAV, fieldV, faddrV, iaddrSV, iaddrAV, pickV, convV, unV, eqbV, eqpV, extV, mm2, mmV, nilckV, ress, res1, retV, Value.cells, cond_true, cond_false, Bool.true_or, Bool.false_or, Bool.or_true, Bool.or_false, beq_self_eq_true, if_true, if_false, ite_true, ite_false, decide_true, decide_false, decide_eq_true_eq, reduceIte, Nat.zero_add, Nat.add_zero, and_self, true_and, and_true, List.size_toArray, List.length_cons, List.length_nil, List.append_nil, List.nil_append, Int.toNat_zero, Bool.not_false, Bool.not_true, Bool.not_not, Bool.false_eq_true, Bool.true_eq_false, reduceCtorEq, Int.reduceLT, Int.reduceLE, Int.reduceToNat, Int.reduceAdd, Int.reduceSub, Int.reduceMul, Int.reduceNeg, Nat.reduceMul, Nat.reduceAdd, Nat.reduceSub, Nat.reduceBEq, Nat.reduceEqDiff, Nat.reduceLT, Nat.reduceLeDiff, Int.reduceBEq, Int.reduceEq, Nat.reducePow, Int.reducePow, IntWalk.i64_in, IntKind.bits, eqAV, eqL, leafEq, andO, fillV, buildSV, List.getElem?_toArray, List.getElem?_cons_zero, List.getElem?_cons_succ, List.getElem?_nil, Int.reduceGT, Int.reduceGE, Int.reduceBNe, Bool.true_and, Bool.and_true, Bool.false_and, Bool.and_false, Bool.and_self, IntWalk.u64_in, Int.cast_ofNat_Int, callF1, pad16, pad_0, pad_1, pad_2, pad_3, pad_4, pad_5, pad_6, pad_7, pad_8, pad_9, pad_10, pad_11, pad_12, pad_13, pad_14, pad_15, gc0, gc1, gc2, gc3, gc4, gc5, gc6, gc7, gc8, gc9, gc10, gc11, gc12, gc13, gc14, gc15, gcS, sc0, sc1, sc2, sc3, sc4, sc5, sc6, sc7, sc8, sc9, sc10, sc11, sc12, sc13, sc14, sc15, scS, List.drop_succ_cons, List.drop_nil, x_pan, s_pan, b_pan, pE_ret, pE_pan, pE_none, pE_ite, pvE_some, pvE_none, pvE_ite, rv_some, rv_none, rv_ite, oR_ret, t_mv, t_pick, t_alloc, t_box, t_build, t_buildS, t_load, t_store, t_nilck, t_bin, t_eqb, t_eqA, t_eqp, t_un, t_conv, t_field, t_idxA, t_faddr, t_iaddrS, t_iaddrA, t_ext, t_len, t_mm, t_call, t_ifc, t_fn, t_slc, t_slcA, t_slcT, t_tass, t_isn, t_mks, t_app, t_pan, panE_i, optE_none, optE_some, bnd_none, bnd_int, slA_none, slA_some, appR_some, appOld_cells, newsV_s, newsV_n, lenS_s, appV_nil, appV_some, mksV_i, sh_c, sh_g, f_pan, endD_ret, dfr_normal, dfr_ret, dfr_pan, restD_normal, callD1, callC1, tassV, isnV, slcV, slcAV, slcTV, slcB, appNew, Option.bind_some, Option.bind_none, d_pan, h_pan, wrH_eq, wrX_cells, wrU_some, upH_nil, upH_cons, lk_upH, effR_some, effR_none, effR_ite, Option.isNone_none, Option.isNone_some, slA_zero, call_yield, e_range, it_func, wy_same, y_call, isLp_self, beg_normal, end_normal, end_ret, end_exit, end_ite, aft_ret, aft_ready, aft_done, aft_exit, setP_cons, setP_nil, sh_r, t_mkmap, t_mlook, t_mupd, t_mdel, mapF_some, lookF_some, setM_some, lookR_t, lookR_n, lookR_f, lookR_fn, lookV, mupdV, mdelV, mkM]
    cases bb with
    | false =>
      have hbad : cBad (cRun l.length l j).1 (cRun l.length l j).2 (l.getD j e0) := by
        unfold cBad
        exact by rw [hs, hx]; exact .inr (.inr (.inl (by simp [ho])))
      simp -implicitDefEqProofs (maxSteps := 10000000) (disch := omega) only [T11, L11, hB, hR, hI, lb11, kp.l, kp.t0, kp.t2, kp.t3, kp.t4, kp.t13, kp.t14, kp.t15, gtst, st_len, lenV_sl, Int.toNat_natCast, bft, btf, mc.lm, mc.mB, nm, nm', hrd, hp, mapF_some, hjI, hj, j0, p0, p16, pad, e_skip, e_ops, e_draw, d_none, d_nil, d_cons, d_ite, h_none, h_nil, h_cons, h_ite, eqS_same, lightV, e_seq, e_cond, e_block, e_exit, e_ret, s_normal, s_ret, s_exit, s_none, s_ite, b_normal, b_ret, b_exit, b_none, b_ite, c_bool, x_none, x_nil, x_cons, x_ite, p_some, p_none, p_ite, pt_some, pt_none, pv_some, pv_none, pv_ite, w_none, w_some, i_bool, i_undef, bt, bf, v_tmp, v_const, v_global, v_func, evs, f_normal, f_ret, f_none, f_ite, r_some, co_some, l_ptr, m_agg, m_one, sh_app, lk_nil, lk_cons, rd_eq, rdO_some, rdO_none, rdN_none, rdL_some, rdL_none, wrB_none, unitR_some, wr_nil, wr_here, wr_skip, k_cells, tk_zero, tk_take, tk_skip, tkC_some, call_func, gt, st, binV, arith, isSh, storeV, all1, idxAV, fieldV, faddrV, iaddrSV, iaddrAV, pickV, convV, unV, eqbV, eqpV, extV, mm2, mmV, nilckV, ress, res1, retV, Value.cells, cond_true, cond_false, Bool.true_or, Bool.false_or, Bool.or_true, Bool.or_false, beq_self_eq_true, if_true, if_false, ite_true, ite_false, decide_true, decide_false, decide_eq_true_eq, reduceIte, Nat.zero_add, Nat.add_zero, and_self, true_and, and_true, List.size_toArray, List.length_cons, List.length_nil, List.append_nil, List.nil_append, Int.toNat_zero, Bool.not_false, Bool.not_true, Bool.not_not, Bool.false_eq_true, Bool.true_eq_false, reduceCtorEq, Int.reduceLT, Int.reduceLE, Int.reduceToNat, Int.reduceAdd, Int.reduceSub, Int.reduceMul, Int.reduceNeg, Nat.reduceMul, Nat.reduceAdd, Nat.reduceSub, Nat.reduceBEq, Nat.reduceEqDiff, Nat.reduceLT, Nat.reduceLeDiff, Int.reduceBEq, Int.reduceEq, Nat.reducePow, Int.reducePow, IntWalk.i64_in, IntKind.bits, eqAV, eqL, leafEq, andO, fillV, buildSV, List.getElem?_toArray, List.getElem?_cons_zero, List.getElem?_cons_succ, List.getElem?_nil, Int.reduceGT, Int.reduceGE, Int.reduceBNe, Bool.true_and, Bool.and_true, Bool.false_and, Bool.and_false, Bool.and_self, IntWalk.u64_in, Int.cast_ofNat_Int, callF1, pad16, pad_0, pad_1, pad_2, pad_3, pad_4, pad_5, pad_6, pad_7, pad_8, pad_9, pad_10, pad_11, pad_12, pad_13, pad_14, pad_15, gc0, gc1, gc2, gc3, gc4, gc5, gc6, gc7, gc8, gc9, gc10, gc11, gc12, gc13, gc14, gc15, gcS, sc0, sc1, sc2, sc3, sc4, sc5, sc6, sc7, sc8, sc9, sc10, sc11, sc12, sc13, sc14, sc15, scS, List.drop_succ_cons, List.drop_nil, x_pan, s_pan, b_pan, pE_ret, pE_pan, pE_none, pE_ite, pvE_some, pvE_none, pvE_ite, rv_some, rv_none, rv_ite, oR_ret, t_mv, t_pick, t_alloc, t_box, t_build, t_buildS, t_load, t_store, t_nilck, t_bin, t_eqb, t_eqA, t_eqp, t_un, t_conv, t_field, t_idxA, t_faddr, t_iaddrS, t_iaddrA, t_ext, t_len, t_mm, t_call, t_ifc, t_fn, t_slc, t_slcA, t_slcT, t_tass, t_isn, t_mks, t_app, t_pan, panE_i, optE_none, optE_some, bnd_none, bnd_int, slA_none, slA_some, appR_some, appOld_cells, newsV_s, newsV_n, lenS_s, appV_nil, appV_some, mksV_i, sh_c, sh_g, f_pan, endD_ret, dfr_normal, dfr_ret, dfr_pan, restD_normal, callD1, callC1, tassV, isnV, slcV, slcAV, slcTV, slcB, appNew, Option.bind_some, Option.bind_none, d_pan, h_pan, wrH_eq, wrX_cells, wrU_some, upH_nil, upH_cons, lk_upH, effR_some, effR_none, effR_ite, Option.isNone_none, Option.isNone_some, slA_zero, call_yield, e_range, it_func, wy_same, y_call, isLp_self, beg_normal, end_normal, end_ret, end_exit, end_ite, aft_ret, aft_ready, aft_done, aft_exit, setP_cons, setP_nil, sh_r, t_mkmap, t_mlook, t_mupd, t_mdel, mapF_some, lookF_some, setM_some, lookR_t, lookR_n, lookR_f, lookR_fn, lookV, mupdV, mdelV, mkM]
      refine ok_some (.inr ⟨by simp, .inr ⟨rfl, ?_, ?_, ?_, good_new mc.g, fr_new mc.g mc.f 0, j, hj, hbad⟩⟩)
      all_goals simp -implicitDefEqProofs (maxSteps := 10000000) (disch := omega) only [T11, L11, hB, hR, hI, lb11, kp.l, kp.t0, kp.t2, kp.t3, kp.t4, kp.t13, kp.t14, kp.t15, gtst, st_len, lenV_sl, Int.toNat_natCast, bft, btf, mc.lm, mc.mB, nm, nm', hrd, hp, mapF_some, hjI, hj, j0, p0, p16, pad, e_skip, e_ops, e_draw, d_none, d_nil, d_cons, d_ite, h_none, h_nil, h_cons, h_ite, eqS_same, lightV, e_seq, e_cond, e_block, e_exit, e_ret, s_normal, s_ret, s_exit, s_none, s_ite, b_normal, b_ret, b_exit, b_none, b_ite, c_bool, x_none, x_nil, x_cons, x_ite, p_some, p_none, p_ite, pt_some, pt_none, pv_some, pv_none, pv_ite, w_none, w_some, i_bool, i_undef, bt, bf, v_tmp, v_const, v_global, v_func, evs, f_normal, f_ret, f_none, f_ite, r_some, co_some, l_ptr, m_agg, m_one, sh_app, lk_nil, lk_cons, rd_eq, rdO_some, rdO_none, rdN_none, rdL_some, rdL_none, wrB_none, unitR_some, wr_nil, wr_here, wr_skip, k_cells, tk_zero, tk_take, tk_skip, tkC_some, call_func, gt, st, binV, arith, isSh, storeV, all1, idxAV, fieldV, faddrV, iaddrSV, iaddrAV, pickV, convV, unV, eqbV, eqpV, extV, mm2, mmV, nilckV, ress, res1, retV, Value.cells, cond_true, cond_false, Bool.true_or, Bool.false_or, Bool.or_true, Bool.or_false, beq_self_eq_true, if_true, if_false, ite_true, ite_false, decide_true, decide_false, decide_eq_true_eq, reduceIte, Nat.zero_add, Nat.add_zero, and_self, true_and, and_true, List.size_toArray, List.length_cons, List.length_nil, List.append_nil, List.nil_append, Int.toNat_zero, Bool.not_false, Bool.not_true, Bool.not_not, Bool.false_eq_true, Bool.true_eq_false, reduceCtorEq, Int.reduceLT, Int.reduceLE, Int.reduceToNat, Int.reduceAdd, Int.reduceSub, Int.reduceMul, Int.reduceNeg, Nat.reduceMul, Nat.reduceAdd, Nat.reduceSub, Nat.reduceBEq, Nat.reduceEqDiff, Nat.reduceLT, Nat.reduceLeDiff, Int.reduceBEq, Int.reduceEq, Nat.reducePow, Int.reducePow, IntWalk.i64_in, IntKind.bits, eqAV, eqL, leafEq, andO, fillV, buildSV, List.getElem?_toArray, List.getElem?_cons_zero, List.getElem?_cons_succ, List.getElem?_nil, Int.reduceGT, Int.reduceGE, Int.reduceBNe, Bool.true_and, Bool.and_true, Bool.false_and, Bool.and_false, Bool.and_self, IntWalk.u64_in, Int.cast_ofNat_Int, callF1, pad16, pad_0, pad_1, pad_2, pad_3, pad_4, pad_5, pad_6, pad_7, pad_8, pad_9, pad_10, pad_11, pad_12, pad_13, pad_14, pad_15, gc0, gc1, gc2, gc3, gc4, gc5, gc6, gc7, gc8, gc9, gc10, gc11, gc12, gc13, gc14, gc15, gcS, sc0, sc1, sc2, sc3, sc4, sc5, sc6, sc7, sc8, sc9, sc10, sc11, sc12, sc13, sc14, sc15, scS, List.drop_succ_cons, List.drop_nil, x_pan, s_pan, b_pan, pE_ret, pE_pan, pE_none, pE_ite, pvE_some, pvE_none, pvE_ite, rv_some, rv_none, rv_ite, oR_ret, t_mv, t_pick, t_alloc, t_box, t_build, t_buildS, t_load, t_store, t_nilck, t_bin, t_eqb, t_eqA, t_eqp, t_un, t_conv, t_field, t_idxA, t_faddr, t_iaddrS, t_iaddrA, t_ext, t_len, t_mm, t_call, t_ifc, t_fn, t_slc, t_slcA, t_slcT, t_tass, t_isn, t_mks, t_app, t_pan, panE_i, optE_none, optE_some, bnd_none, bnd_int, slA_none, slA_some, appR_some, appOld_cells, newsV_s, newsV_n, lenS_s, appV_nil, appV_some, mksV_i, sh_c, sh_g, f_pan, endD_ret, dfr_normal, dfr_ret, dfr_pan, restD_normal, callD1, callC1, tassV, isnV, slcV, slcAV, slcTV, slcB, appNew, Option.bind_some, Option.bind_none, d_pan, h_pan, wrH_eq, wrX_cells, wrU_some, upH_nil, upH_cons, lk_upH, effR_some, effR_none, effR_ite, Option.isNone_none, Option.isNone_some, slA_zero, call_yield, e_range, it_func, wy_same, y_call, isLp_self, beg_normal, end_normal, end_ret, end_exit, end_ite, aft_ret, aft_ready, aft_done, aft_exit, setP_cons, setP_nil, sh_r, t_mkmap, t_mlook, t_mupd, t_mdel, mapF_some, lookF_some, setM_some, lookR_t, lookR_n, lookR_f, lookR_fn, lookV, mupdV, mdelV, mkM]
    | true =>
      by_cases e1 : e = 0
      case neg =>
        have e1' := beqI e1
        have hbad : cBad (cRun l.length l j).1 (cRun l.length l j).2 (l.getD j e0) := by
          unfold cBad
          exact by rw [hs, hx]; exact .inr (.inr (.inr (.inl ⟨rfl, fun h => e1 h.1⟩)))
        simp -implicitDefEqProofs (maxSteps := 10000000) (disch := omega) only [T11, L11, hB, hR, hI, lb11, kp.l, kp.t0, kp.t2, kp.t3, kp.t4, kp.t13, kp.t14, kp.t15, gtst, st_len, lenV_sl, Int.toNat_natCast, bft, btf, mc.lm, mc.mB, nm, nm', hrd, hp, mapF_some, hjI, hj, j0, p0, p16, e1', pad, e_skip, e_ops, e_draw, d_none, d_nil, d_cons, d_ite, h_none, h_nil, h_cons, h_ite, eqS_same, lightV, e_seq, e_cond, e_block, e_exit, e_ret, s_normal, s_ret, s_exit, s_none, s_ite, b_normal, b_ret, b_exit, b_none, b_ite, c_bool, x_none, x_nil, x_cons, x_ite, p_some, p_none, p_ite, pt_some, pt_none, pv_some, pv_none, pv_ite, w_none, w_some, i_bool, i_undef, bt, bf, v_tmp, v_const, v_global, v_func, evs, f_normal, f_ret, f_none, f_ite, r_some, co_some, l_ptr, m_agg, m_one, sh_app, lk_nil, lk_cons, rd_eq, rdO_some, rdO_none, rdN_none, rdL_some, rdL_none, wrB_none, unitR_some, wr_nil, wr_here, wr_skip, k_cells, tk_zero, tk_take, tk_skip, tkC_some, call_func, gt, st, binV, arith, isSh, storeV, all1, idxAV, fieldV, faddrV, iaddrSV, iaddrAV, pickV, convV, unV, eqbV, eqpV, extV, mm2, mmV, nilckV, ress, res1, retV, Value.cells, cond_true, cond_false, Bool.true_or, Bool.false_or, Bool.or_true, Bool.or_false, beq_self_eq_true, if_true, if_false, ite_true, ite_false, decide_true, decide_false, decide_eq_true_eq, reduceIte, Nat.zero_add, Nat.add_zero, and_self, true_and, and_true, List.size_toArray, List.length_cons, List.length_nil, List.append_nil, List.nil_append, Int.toNat_zero, Bool.not_false, Bool.not_true, Bool.not_not, Bool.false_eq_true, Bool.true_eq_false, reduceCtorEq, Int.reduceLT, Int.reduceLE, Int.reduceToNat, Int.reduceAdd, Int.reduceSub, Int.reduceMul, Int.reduceNeg, Nat.reduceMul, Nat.reduceAdd, Nat.reduceSub, Nat.reduceBEq, Nat.reduceEqDiff, Nat.reduceLT, Nat.reduceLeDiff, Int.reduceBEq, Int.reduceEq, Nat.reducePow, Int.reducePow, IntWalk.i64_in, IntKind.bits, eqAV, eqL, leafEq, andO, fillV, buildSV, List.getElem?_toArray, List.getElem?_cons_zero, List.getElem?_cons_succ, List.getElem?_nil, Int.reduceGT, Int.reduceGE, Int.reduceBNe, Bool.true_and, Bool.and_true, Bool.false_and, Bool.and_false, Bool.and_self, IntWalk.u64_in, Int.cast_ofNat_Int, callF1, pad16, pad_0, pad_1, pad_2, pad_3, pad_4, pad_5, pad_6, pad_7, pad_8, pad_9, pad_10, pad_11, pad_12, pad_13, pad_14, pad_15, gc0, gc1, gc2, gc3, gc4, gc5, gc6, gc7, gc8, gc9, gc10, gc11, gc12, gc13, gc14, gc15, gcS, sc0, sc1, sc2, sc3, sc4, sc5, sc6, sc7, sc8, sc9, sc10, sc11, sc12, sc13, sc14, sc15, scS, List.drop_succ_cons, List.drop_nil, x_pan, s_pan, b_pan, pE_ret, pE_pan, pE_none, pE_ite, pvE_some, pvE_none, pvE_ite, rv_some, rv_none, rv_ite, oR_ret, t_mv, t_pick, t_alloc, t_box, t_build, t_buildS, t_load, t_store, t_nilck, t_bin, t_eqb, t_eqA, t_eqp, t_un, t_conv, t_field, t_idxA, t_faddr, t_iaddrS, t_iaddrA, t_ext, t_len, t_mm, t_call, t_ifc, t_fn, t_slc, t_slcA, t_slcT, t_tass, t_isn, t_mks, t_app, t_pan, panE_i, optE_none, optE_some, bnd_none, bnd_int, slA_none, slA_some, appR_some, appOld_cells, newsV_s, newsV_n, lenS_s, appV_nil, appV_some, mksV_i, sh_c, sh_g, f_pan, endD_ret, dfr_normal, dfr_ret, dfr_pan, restD_normal, callD1, callC1, tassV, isnV, slcV, slcAV, slcTV, slcB, appNew, Option.bind_some, Option.bind_none, d_pan, h_pan, wrH_eq, wrX_cells, wrU_some, upH_nil, upH_cons, lk_upH, effR_some, effR_none, effR_ite, Option.isNone_none, Option.isNone_some, slA_zero, call_yield, e_range, it_func, wy_same, y_call, isLp_self, beg_normal, end_normal, end_ret, end_exit, end_ite, aft_ret, aft_ready, aft_done, aft_exit, setP_cons, setP_nil, sh_r, t_mkmap, t_mlook, t_mupd, t_mdel, mapF_some, lookF_some, setM_some, lookR_t, lookR_n, lookR_f, lookR_fn, lookV, mupdV, mdelV, mkM]
        refine ok_some (.inr ⟨by simp, .inr ⟨rfl, ?_, ?_, ?_, good_new mc.g, fr_new mc.g mc.f 0, j, hj, hbad⟩⟩)
        all_goals simp -implicitDefEqProofs (maxSteps := 10000000) (disch := omega) only [T11, L11, hB, hR, hI, lb11, kp.l, kp.t0, kp.t2, kp.t3, kp.t4, kp.t13, kp.t14, kp.t15, gtst, st_len, lenV_sl, Int.toNat_natCast, bft, btf, mc.lm, mc.mB, nm, nm', hrd, hp, mapF_some, hjI, hj, j0, p0, p16, e1', pad, e_skip, e_ops, e_draw, d_none, d_nil, d_cons, d_ite, h_none, h_nil, h_cons, h_ite, eqS_same, lightV, e_seq, e_cond, e_block, e_exit, e_ret, s_normal, s_ret, s_exit, s_none, s_ite, b_normal, b_ret, b_exit, b_none, b_ite, c_bool, x_none, x_nil, x_cons, x_ite, p_some, p_none, p_ite, pt_some, pt_none, pv_some, pv_none, pv_ite, w_none, w_some, i_bool, i_undef, bt, bf, v_tmp, v_const, v_global, v_func, evs, f_normal, f_ret, f_none, f_ite, r_some, co_some, l_ptr, m_agg, m_one, sh_app, lk_nil, lk_cons, rd_eq, rdO_some, rdO_none, rdN_none, rdL_some, rdL_none, wrB_none, unitR_some, wr_nil, wr_here, wr_skip, k_cells, tk_zero, tk_take, tk_skip, tkC_some, call_func, gt, st, binV, arith, isSh, storeV, all1, idxAV, fieldV, faddrV, iaddrSV, iaddrAV, pickV, convV, unV, eqbV, eqpV, extV, mm2, mmV, nilckV, ress, res1, retV, Value.cells, cond_true, cond_false, Bool.true_or, Bool.false_or, Bool.or_true, Bool.or_false, beq_self_eq_true, if_true, if_false, ite_true, ite_false, decide_true, decide_false, decide_eq_true_eq, reduceIte, Nat.zero_add, Nat.add_zero, and_self, true_and, and_true, List.size_toArray, List.length_cons, List.length_nil, List.append_nil, List.nil_append, Int.toNat_zero, Bool.not_false, Bool.not_true, Bool.not_not, Bool.false_eq_true, Bool.true_eq_false, reduceCtorEq, Int.reduceLT, Int.reduceLE, Int.reduceToNat, Int.reduceAdd, Int.reduceSub, Int.reduceMul, Int.reduceNeg, Nat.reduceMul, Nat.reduceAdd, Nat.reduceSub, Nat.reduceBEq, Nat.reduceEqDiff, Nat.reduceLT, Nat.reduceLeDiff, Int.reduceBEq, Int.reduceEq, Nat.reducePow, Int.reducePow, IntWalk.i64_in, IntKind.bits, eqAV, eqL, leafEq, andO, fillV, buildSV, List.getElem?_toArray, List.getElem?_cons_zero, List.getElem?_cons_succ, List.getElem?_nil, Int.reduceGT, Int.reduceGE, Int.reduceBNe, Bool.true_and, Bool.and_true, Bool.false_and, Bool.and_false, Bool.and_self, IntWalk.u64_in, Int.cast_ofNat_Int, callF1, pad16, pad_0, pad_1, pad_2, pad_3, pad_4, pad_5, pad_6, pad_7, pad_8, pad_9, pad_10, pad_11, pad_12, pad_13, pad_14, pad_15, gc0, gc1, gc2, gc3, gc4, gc5, gc6, gc7, gc8, gc9, gc10, gc11, gc12, gc13, gc14, gc15, gcS, sc0, sc1, sc2, sc3, sc4, sc5, sc6, sc7, sc8, sc9, sc10, sc11, sc12, sc13, sc14, sc15, scS, List.drop_succ_cons, List.drop_nil, x_pan, s_pan, b_pan, pE_ret, pE_pan, pE_none, pE_ite, pvE_some, pvE_none, pvE_ite, rv_some, rv_none, rv_ite, oR_ret, t_mv, t_pick, t_alloc, t_box, t_build, t_buildS, t_load, t_store, t_nilck, t_bin, t_eqb, t_eqA, t_eqp, t_un, t_conv, t_field, t_idxA, t_faddr, t_iaddrS, t_iaddrA, t_ext, t_len, t_mm, t_call, t_ifc, t_fn, t_slc, t_slcA, t_slcT, t_tass, t_isn, t_mks, t_app, t_pan, panE_i, optE_none, optE_some, bnd_none, bnd_int, slA_none, slA_some, appR_some, appOld_cells, newsV_s, newsV_n, lenS_s, appV_nil, appV_some, mksV_i, sh_c, sh_g, f_pan, endD_ret, dfr_normal, dfr_ret, dfr_pan, restD_normal, callD1, callC1, tassV, isnV, slcV, slcAV, slcTV, slcB, appNew, Option.bind_some, Option.bind_none, d_pan, h_pan, wrH_eq, wrX_cells, wrU_some, upH_nil, upH_cons, lk_upH, effR_some, effR_none, effR_ite, Option.isNone_none, Option.isNone_some, slA_zero, call_yield, e_range, it_func, wy_same, y_call, isLp_self, beg_normal, end_normal, end_ret, end_exit, end_ite, aft_ret, aft_ready, aft_done, aft_exit, setP_cons, setP_nil, sh_r, t_mkmap, t_mlook, t_mupd, t_mdel, mapF_some, lookF_some, setM_some, lookR_t, lookR_n, lookR_f, lookR_fn, lookV, mupdV, mdelV, mkM]
      by_cases r1 : r = 0
      case neg =>
        have r1' := beqI r1
        have hbad : cBad (cRun l.length l j).1 (cRun l.length l j).2 (l.getD j e0) := by
          unfold cBad
          exact by rw [hs, hx]; exact .inr (.inr (.inr (.inl ⟨rfl, fun h => r1 h.2⟩)))
        simp -implicitDefEqProofs (maxSteps := 10000000) (disch := omega) only [T11, L11, hB, hR, hI, lb11, kp.l, kp.t0, kp.t2, kp.t3, kp.t4, kp.t13, kp.t14, kp.t15, gtst, st_len, lenV_sl, Int.toNat_natCast, bft, btf, mc.lm, mc.mB, nm, nm', hrd, hp, mapF_some, hjI, hj, j0, p0, p16, e1, r1', pad, e_skip, e_ops, e_draw, d_none, d_nil, d_cons, d_ite, h_none, h_nil, h_cons, h_ite, eqS_same, lightV, e_seq, e_cond, e_block, e_exit, e_ret, s_normal, s_ret, s_exit, s_none, s_ite, b_normal, b_ret, b_exit, b_none, b_ite, c_bool, x_none, x_nil, x_cons, x_ite, p_some, p_none, p_ite, pt_some, pt_none, pv_some, pv_none, pv_ite, w_none, w_some, i_bool, i_undef, bt, bf, v_tmp, v_const, v_global, v_func, evs, f_normal, f_ret, f_none, f_ite, r_some, co_some, l_ptr, m_agg, m_one, sh_app, lk_nil, lk_cons, rd_eq, rdO_some, rdO_none, rdN_none, rdL_some, rdL_none, wrB_none, unitR_some, wr_nil, wr_here, wr_skip, k_cells, tk_zero, tk_take, tk_skip, tkC_some, call_func, gt, st, binV, arith, isSh, storeV, all1, idxAV, fieldV, faddrV, iaddrSV, iaddrAV, pickV, convV, unV, eqbV, eqpV, extV, mm2, mmV, nilckV, ress, res1, retV, Value.cells, cond_true, cond_false, Bool.true_or, Bool.false_or, Bool.or_true, Bool.or_false, beq_self_eq_true, if_true, if_false, ite_true, ite_false, decide_true, decide_false, decide_eq_true_eq, reduceIte, Nat.zero_add, Nat.add_zero, and_self, true_and, and_true, List.size_toArray, List.length_cons, List.length_nil, List.append_nil, List.nil_append, Int.toNat_zero, Bool.not_false, Bool.not_true, Bool.not_not, Bool.false_eq_true, Bool.true_eq_false, reduceCtorEq, Int.reduceLT, Int.reduceLE, Int.reduceToNat, Int.reduceAdd, Int.reduceSub, Int.reduceMul, Int.reduceNeg, Nat.reduceMul, Nat.reduceAdd, Nat.reduceSub, Nat.reduceBEq, Nat.reduceEqDiff, Nat.reduceLT, Nat.reduceLeDiff, Int.reduceBEq, Int.reduceEq, Nat.reducePow, Int.reducePow, IntWalk.i64_in, IntKind.bits, eqAV, eqL, leafEq, andO, fillV, buildSV, List.getElem?_toArray, List.getElem?_cons_zero, List.getElem?_cons_succ, List.getElem?_nil, Int.reduceGT, Int.reduceGE, Int.reduceBNe, Bool.true_and, Bool.and_true, Bool.false_and, Bool.and_false, Bool.and_self, IntWalk.u64_in, Int.cast_ofNat_Int, callF1, pad16, pad_0, pad_1, pad_2, pad_3, pad_4, pad_5, pad_6, pad_7, pad_8, pad_9, pad_10, pad_11, pad_12, pad_13, pad_14, pad_15, gc0, gc1, gc2, gc3, gc4, gc5, gc6, gc7, gc8, gc9, gc10, gc11, gc12, gc13, gc14, gc15, gcS, sc0, sc1, sc2, sc3, sc4, sc5, sc6, sc7, sc8, sc9, sc10, sc11, sc12, sc13, sc14, sc15, scS, List.drop_succ_cons, List.drop_nil, x_pan, s_pan, b_pan, pE_ret, pE_pan, pE_none, pE_ite, pvE_some, pvE_none, pvE_ite, rv_some, rv_none, rv_ite, oR_ret, t_mv, t_pick, t_alloc, t_box, t_build, t_buildS, t_load, t_store, t_nilck, t_bin, t_eqb, t_eqA, t_eqp, t_un, t_conv, t_field, t_idxA, t_faddr, t_iaddrS, t_iaddrA, t_ext, t_len, t_mm, t_call, t_ifc, t_fn, t_slc, t_slcA, t_slcT, t_tass, t_isn, t_mks, t_app, t_pan, panE_i, optE_none, optE_some, bnd_none, bnd_int, slA_none, slA_some, appR_some, appOld_cells, newsV_s, newsV_n, lenS_s, appV_nil, appV_some, mksV_i, sh_c, sh_g, f_pan, endD_ret, dfr_normal, dfr_ret, dfr_pan, restD_normal, callD1, callC1, tassV, isnV, slcV, slcAV, slcTV, slcB, appNew, Option.bind_some, Option.bind_none, d_pan, h_pan, wrH_eq, wrX_cells, wrU_some, upH_nil, upH_cons, lk_upH, effR_some, effR_none, effR_ite, Option.isNone_none, Option.isNone_some, slA_zero, call_yield, e_range, it_func, wy_same, y_call, isLp_self, beg_normal, end_normal, end_ret, end_exit, end_ite, aft_ret, aft_ready, aft_done, aft_exit, setP_cons, setP_nil, sh_r, t_mkmap, t_mlook, t_mupd, t_mdel, mapF_some, lookF_some, setM_some, lookR_t, lookR_n, lookR_f, lookR_fn, lookV, mupdV, mdelV, mkM]
        refine ok_some (.inr ⟨by simp, .inr ⟨rfl, ?_, ?_, ?_, good_new mc.g, fr_new mc.g mc.f 0, j, hj, hbad⟩⟩)
        all_goals simp -implicitDefEqProofs (maxSteps := 10000000) (disch := omega) only [T11, L11, hB, hR, hI, lb11, kp.l, kp.t0, kp.t2, kp.t3, kp.t4, kp.t13, kp.t14, kp.t15, gtst, st_len, lenV_sl, Int.toNat_natCast, bft, btf, mc.lm, mc.mB, nm, nm', hrd, hp, mapF_some, hjI, hj, j0, p0, p16, e1, r1', pad, e_skip, e_ops, e_draw, d_none, d_nil, d_cons, d_ite, h_none, h_nil, h_cons, h_ite, eqS_same, lightV, e_seq, e_cond, e_block, e_exit, e_ret, s_normal, s_ret, s_exit, s_none, s_ite, b_normal, b_ret, b_exit, b_none, b_ite, c_bool, x_none, x_nil, x_cons, x_ite, p_some, p_none, p_ite, pt_some, pt_none, pv_some, pv_none, pv_ite, w_none, w_some, i_bool, i_undef, bt, bf, v_tmp, v_const, v_global, v_func, evs, f_normal, f_ret, f_none, f_ite, r_some, co_some, l_ptr, m_agg, m_one, sh_app, lk_nil, lk_cons, rd_eq, rdO_some, rdO_none, rdN_none, rdL_some, rdL_none, wrB_none, unitR_some, wr_nil, wr_here, wr_skip, k_cells, tk_zero, tk_take, tk_skip, tkC_some, call_func, gt, st, binV, arith, isSh, storeV, all1, idxAV, fieldV, faddrV, iaddrSV, iaddrAV, pickV, convV, unV, eqbV, eqpV, extV, mm2, mmV, nilckV, ress, res1, retV, Value.cells, cond_true, cond_false, Bool.true_or, Bool.false_or, Bool.or_true, Bool.or_false, beq_self_eq_true, if_true, if_false, ite_true, ite_false, decide_true, decide_false, decide_eq_true_eq, reduceIte, Nat.zero_add, Nat.add_zero, and_self, true_and, and_true, List.size_toArray, List.length_cons, List.length_nil, List.append_nil, List.nil_append, Int.toNat_zero, Bool.not_false, Bool.not_true, Bool.not_not, Bool.false_eq_true, Bool.true_eq_false, reduceCtorEq, Int.reduceLT, Int.reduceLE, Int.reduceToNat, Int.reduceAdd, Int.reduceSub, Int.reduceMul, Int.reduceNeg, Nat.reduceMul, Nat.reduceAdd, Nat.reduceSub, Nat.reduceBEq, Nat.reduceEqDiff, Nat.reduceLT, Nat.reduceLeDiff, Int.reduceBEq, Int.reduceEq, Nat.reducePow, Int.reducePow, IntWalk.i64_in, IntKind.bits, eqAV, eqL, leafEq, andO, fillV, buildSV, List.getElem?_toArray, List.getElem?_cons_zero, List.getElem?_cons_succ, List.getElem?_nil, Int.reduceGT, Int.reduceGE, Int.reduceBNe, Bool.true_and, Bool.and_true, Bool.false_and, Bool.and_false, Bool.and_self, IntWalk.u64_in, Int.cast_ofNat_Int, callF1, pad16, pad_0, pad_1, pad_2, pad_3, pad_4, pad_5, pad_6, pad_7, pad_8, pad_9, pad_10, pad_11, pad_12, pad_13, pad_14, pad_15, gc0, gc1, gc2, gc3, gc4, gc5, gc6, gc7, gc8, gc9, gc10, gc11, gc12, gc13, gc14, gc15, gcS, sc0, sc1, sc2, sc3, sc4, sc5, sc6, sc7, sc8, sc9, sc10, sc11, sc12, sc13, sc14, sc15, scS, List.drop_succ_cons, List.drop_nil, x_pan, s_pan, b_pan, pE_ret, pE_pan, pE_none, pE_ite, pvE_some, pvE_none, pvE_ite, rv_some, rv_none, rv_ite, oR_ret, t_mv, t_pick, t_alloc, t_box, t_build, t_buildS, t_load, t_store, t_nilck, t_bin, t_eqb, t_eqA, t_eqp, t_un, t_conv, t_field, t_idxA, t_faddr, t_iaddrS, t_iaddrA, t_ext, t_len, t_mm, t_call, t_ifc, t_fn, t_slc, t_slcA, t_slcT, t_tass, t_isn, t_mks, t_app, t_pan, panE_i, optE_none, optE_some, bnd_none, bnd_int, slA_none, slA_some, appR_some, appOld_cells, newsV_s, newsV_n, lenS_s, appV_nil, appV_some, mksV_i, sh_c, sh_g, f_pan, endD_ret, dfr_normal, dfr_ret, dfr_pan, restD_normal, callD1, callC1, tassV, isnV, slcV, slcAV, slcTV, slcB, appNew, Option.bind_some, Option.bind_none, d_pan, h_pan, wrH_eq, wrX_cells, wrU_some, upH_nil, upH_cons, lk_upH, effR_some, effR_none, effR_ite, Option.isNone_none, Option.isNone_some, slA_zero, call_yield, e_range, it_func, wy_same, y_call, isLp_self, beg_normal, end_normal, end_ret, end_exit, end_ite, aft_ret, aft_ready, aft_done, aft_exit, setP_cons, setP_nil, sh_r, t_mkmap, t_mlook, t_mupd, t_mdel, mapF_some, lookF_some, setM_some, lookR_t, lookR_n, lookR_f, lookR_fn, lookV, mupdV, mdelV, mkM]
      subst e1 r1
      have hnb : ¬ cBad om C ⟨p, true, c, k, w, 0, 0⟩ := by
        unfold cBad
        rintro (h | h | h | h | ⟨a, h, _⟩)
        · exact p0 h
        · exact p16 h
        · simp [ho] at h
        · exact h.2 ⟨rfl, rfl⟩
        · simp only [ho] at h; cases h
      have hrun : cRun l.length l (j + 1) = (upd om p (some C.length), C ++ [nuw l.length j ⟨p, true, c, k, w, 0, 0⟩]) := by rw [hrun]; simp only [cStep, ho]
      have hOl := mc.s.len
      simp -implicitDefEqProofs (maxSteps := 10000000) (disch := omega) only [T11, L11, hB, hR, hI, lb11, kp.l, kp.t0, kp.t2, kp.t3, kp.t4, kp.t13, kp.t14, kp.t15, gtst, st_len, lenV_sl, Int.toNat_natCast, bft, btf, mc.lm, mc.mB, nm, nm', hrd, hp, mapF_some, hjI, hj, j0, p0, p16, hOl, pad, e_skip, e_ops, e_draw, d_none, d_nil, d_cons, d_ite, h_none, h_nil, h_cons, h_ite, eqS_same, lightV, e_seq, e_cond, e_block, e_exit, e_ret, s_normal, s_ret, s_exit, s_none, s_ite, b_normal, b_ret, b_exit, b_none, b_ite, c_bool, x_none, x_nil, x_cons, x_ite, p_some, p_none, p_ite, pt_some, pt_none, pv_some, pv_none, pv_ite, w_none, w_some, i_bool, i_undef, bt, bf, v_tmp, v_const, v_global, v_func, evs, f_normal, f_ret, f_none, f_ite, r_some, co_some, l_ptr, m_agg, m_one, sh_app, lk_nil, lk_cons, rd_eq, rdO_some, rdO_none, rdN_none, rdL_some, rdL_none, wrB_none, unitR_some, wr_nil, wr_here, wr_skip, k_cells, tk_zero, tk_take, tk_skip, tkC_some, call_func, gt, st, binV, arith, isSh, storeV, all1, idxAV, fieldV, faddrV, iaddrSV, iaddrAV, pickV, convV, unV, eqbV, eqpV, extV, mm2, mmV, nilckV, ress, res1, retV, Value.cells, cond_true, cond_false, Bool.true_or, Bool.false_or, Bool.or_true, Bool.or_false, beq_self_eq_true, if_true, if_false, ite_true, ite_false, decide_true, decide_false, decide_eq_true_eq, reduceIte, Nat.zero_add, Nat.add_zero, and_self, true_and, and_true, List.size_toArray, List.length_cons, List.length_nil, List.append_nil, List.nil_append, Int.toNat_zero, Bool.not_false, Bool.not_true, Bool.not_not, Bool.false_eq_true, Bool.true_eq_false, reduceCtorEq, Int.reduceLT, Int.reduceLE, Int.reduceToNat, Int.reduceAdd, Int.reduceSub, Int.reduceMul, Int.reduceNeg, Nat.reduceMul, Nat.reduceAdd, Nat.reduceSub, Nat.reduceBEq, Nat.reduceEqDiff, Nat.reduceLT, Nat.reduceLeDiff, Int.reduceBEq, Int.reduceEq, Nat.reducePow, Int.reducePow, IntWalk.i64_in, IntKind.bits, eqAV, eqL, leafEq, andO, fillV, buildSV, List.getElem?_toArray, List.getElem?_cons_zero, List.getElem?_cons_succ, List.getElem?_nil, Int.reduceGT, Int.reduceGE, Int.reduceBNe, Bool.true_and, Bool.and_true, Bool.false_and, Bool.and_false, Bool.and_self, IntWalk.u64_in, Int.cast_ofNat_Int, callF1, pad16, pad_0, pad_1, pad_2, pad_3, pad_4, pad_5, pad_6, pad_7, pad_8, pad_9, pad_10, pad_11, pad_12, pad_13, pad_14, pad_15, gc0, gc1, gc2, gc3, gc4, gc5, gc6, gc7, gc8, gc9, gc10, gc11, gc12, gc13, gc14, gc15, gcS, sc0, sc1, sc2, sc3, sc4, sc5, sc6, sc7, sc8, sc9, sc10, sc11, sc12, sc13, sc14, sc15, scS, List.drop_succ_cons, List.drop_nil, x_pan, s_pan, b_pan, pE_ret, pE_pan, pE_none, pE_ite, pvE_some, pvE_none, pvE_ite, rv_some, rv_none, rv_ite, oR_ret, t_mv, t_pick, t_alloc, t_box, t_build, t_buildS, t_load, t_store, t_nilck, t_bin, t_eqb, t_eqA, t_eqp, t_un, t_conv, t_field, t_idxA, t_faddr, t_iaddrS, t_iaddrA, t_ext, t_len, t_mm, t_call, t_ifc, t_fn, t_slc, t_slcA, t_slcT, t_tass, t_isn, t_mks, t_app, t_pan, panE_i, optE_none, optE_some, bnd_none, bnd_int, slA_none, slA_some, appR_some, appOld_cells, newsV_s, newsV_n, lenS_s, appV_nil, appV_some, mksV_i, sh_c, sh_g, f_pan, endD_ret, dfr_normal, dfr_ret, dfr_pan, restD_normal, callD1, callC1, tassV, isnV, slcV, slcAV, slcTV, slcB, appNew, Option.bind_some, Option.bind_none, d_pan, h_pan, wrH_eq, wrX_cells, wrU_some, upH_nil, upH_cons, lk_upH, effR_some, effR_none, effR_ite, Option.isNone_none, Option.isNone_some, slA_zero, call_yield, e_range, it_func, wy_same, y_call, isLp_self, beg_normal, end_normal, end_ret, end_exit, end_ite, aft_ret, aft_ready, aft_done, aft_exit, setP_cons, setP_nil, sh_r, t_mkmap, t_mlook, t_mupd, t_mdel, mapF_some, lookF_some, setM_some, lookR_t, lookR_n, lookR_f, lookR_fn, lookV, mupdV, mdelV, mkM]
      generalize hA : appV 9 72 B _ _ vO 1 _ = AA
      have e9 : [.int .i64 p, .int .i64 c, .int .u64 k, .int .u64 w, .int .i64 0, .int .u64 0, .int .i64 (j : Int), .int .i64 (l.length : Int), .bool false] = cl9 (nuw l.length j ⟨p, true, c, k, w, 0, 0⟩) := rfl
      rw [e9] at hA
      have g1 := good_new (k := .cells [.int .i64 p, .bool true, .int .i64 c, .int .u64 k, .int .u64 w, .int .i64 0, .int .u64 0] 7) hN
      have lm1 : lk ((N.n 0, .cells [.int .i64 p, .bool true, .int .i64 c, .int .u64 k, .int .u64 w, .int .i64 0, .int .u64 0] 7) :: H) m = some (.map .i64 (mf om)) := by rw [lk_cons, nm, cond_false]; exact mc.lm
      have f1 := fr_new (k := .cells [.int .i64 p, .bool true, .int .i64 c, .int .u64 k, .int .u64 w, .int .i64 0, .int .u64 0] 7) hN mc.f 0
      have g2 := good_set (k := .map .i64 (updF (mf om) p (some (.int .i64 (C.length : Int))))) g1 mc.mB lm1
      have f2 := fr_set (k := .map .i64 (updF (mf om) p (some (.int .i64 (C.length : Int))))) f1 mc.m0
      have g3 := good_new (k := .cells (cl9 (nuw l.length j ⟨p, true, c, k, w, 0, 0⟩)) 9) g2
      have f3 := fr_new (k := .cells (cl9 (nuw l.length j ⟨p, true, c, k, w, 0, 0⟩)) 9) g2 f2 0
      have s3 := mc.s.mono (H' := ((sh N).n 0, .cells (cl9 (nuw l.length j ⟨p, true, c, k, w, 0, 0⟩)) 9) :: (m, .map .i64 (updF (mf om) p (some (.int .i64 (C.length : Int))))) :: (N.n 0, .cells [.int .i64 p, .bool true, .int .i64 c, .int .u64 k, .int .u64 w, .int .i64 0, .int .u64 0] 7) :: H) (fun y c' hy hc => by
        have n0 := ne_N hN hc 0
        have n1 := ne_N hN hc 1
        have n2 : (y == m) = false := eqb fun h => mc.sm (by rw [hy, h])
        rw [lk_cons, sh_app, n1, cond_false, lk_cons, n2, cond_false, lk_cons, n0, cond_false]
        exact hc)
      obtain ⟨v2, H2, N2, hap, g4, d4, fr4, s4, sb4⟩ := app_spec cl9_len (bytes := 72) g3 f3.dm s3 (nuw l.length j ⟨p, true, c, k, w, 0, 0⟩) rfl (by omega) (by omega)
      have hap' := hA.symm.trans hap
      subst hap'
      have lm3 : lk (((sh N).n 0, .cells (cl9 (nuw l.length j ⟨p, true, c, k, w, 0, 0⟩)) 9) :: (m, .map .i64 (updF (mf om) p (some (.int .i64 (C.length : Int))))) :: (N.n 0, .cells [.int .i64 p, .bool true, .int .i64 c, .int .u64 k, .int .u64 w, .int .i64 0, .int .u64 0] 7) :: H) m = some (.map .i64 (mf (upd om p (some C.length)))) := by
        rw [lk_cons, sh_app, nm, cond_false, lk_cons, beq_self_eq_true, cond_true, mf_set]
      have m4 : Mc B H0 m v2 (upd om p (some C.length)) (C ++ [nuw l.length j ⟨p, true, c, k, w, 0, 0⟩]) H2 N2 := by
        refine ⟨g4, fun y c' hy => ?_, fr4 _ _ mc.sm lm3, mc.mB, mc.m0, s4, ?_⟩
        · exact fr4 _ _ (mc.s.ne hy) (f3 _ _ hy)
        · rcases sb4 with h | h
          · rw [h]; exact mc.sm
          · rw [h]
            intro e
            have := ne_N g3 lm3 0
            rw [← Option.some.inj e] at this
            simp at this
      simp -implicitDefEqProofs (maxSteps := 10000000) (disch := omega) only [T11, L11, hB, hR, hI, lb11, kp.l, kp.t0, kp.t2, kp.t3, kp.t4, kp.t13, kp.t14, kp.t15, gtst, st_len, lenV_sl, Int.toNat_natCast, bft, btf, pad, e_skip, e_ops, e_draw, d_none, d_nil, d_cons, d_ite, h_none, h_nil, h_cons, h_ite, eqS_same, lightV, e_seq, e_cond, e_block, e_exit, e_ret, s_normal, s_ret, s_exit, s_none, s_ite, b_normal, b_ret, b_exit, b_none, b_ite, c_bool, x_none, x_nil, x_cons, x_ite, p_some, p_none, p_ite, pt_some, pt_none, pv_some, pv_none, pv_ite, w_none, w_some, i_bool, i_undef, bt, bf, v_tmp, v_const, v_global, v_func, evs, f_normal, f_ret, f_none, f_ite, r_some, co_some, l_ptr, m_agg, m_one, sh_app, lk_nil, lk_cons, rd_eq, rdO_some, rdO_none, rdN_none, rdL_some, rdL_none, wrB_none, unitR_some, wr_nil, wr_here, wr_skip, k_cells, tk_zero, tk_take, tk_skip, tkC_some, call_func, gt, st, binV, arith, isSh, storeV, all1, idxAV, fieldV, faddrV, iaddrSV, iaddrAV, pickV, convV, unV, eqbV, eqpV, extV, mm2, mmV, nilckV, ress, res1, retV, Value.cells, cond_true, cond_false, Bool.true_or, Bool.false_or, Bool.or_true, Bool.or_false, beq_self_eq_true, if_true, if_false, ite_true, ite_false, decide_true, decide_false, decide_eq_true_eq, reduceIte, Nat.zero_add, Nat.add_zero, and_self, true_and, and_true, List.size_toArray, List.length_cons, List.length_nil, List.append_nil, List.nil_append, Int.toNat_zero, Bool.not_false, Bool.not_true, Bool.not_not, Bool.false_eq_true, Bool.true_eq_false, reduceCtorEq, Int.reduceLT, Int.reduceLE, Int.reduceToNat, Int.reduceAdd, Int.reduceSub, Int.reduceMul, Int.reduceNeg, Nat.reduceMul, Nat.reduceAdd, Nat.reduceSub, Nat.reduceBEq, Nat.reduceEqDiff, Nat.reduceLT, Nat.reduceLeDiff, Int.reduceBEq, Int.reduceEq, Nat.reducePow, Int.reducePow, IntWalk.i64_in, IntKind.bits, eqAV, eqL, leafEq, andO, fillV, buildSV, List.getElem?_toArray, List.getElem?_cons_zero, List.getElem?_cons_succ, List.getElem?_nil, Int.reduceGT, Int.reduceGE, Int.reduceBNe, Bool.true_and, Bool.and_true, Bool.false_and, Bool.and_false, Bool.and_self, IntWalk.u64_in, Int.cast_ofNat_Int, callF1, pad16, pad_0, pad_1, pad_2, pad_3, pad_4, pad_5, pad_6, pad_7, pad_8, pad_9, pad_10, pad_11, pad_12, pad_13, pad_14, pad_15, gc0, gc1, gc2, gc3, gc4, gc5, gc6, gc7, gc8, gc9, gc10, gc11, gc12, gc13, gc14, gc15, gcS, sc0, sc1, sc2, sc3, sc4, sc5, sc6, sc7, sc8, sc9, sc10, sc11, sc12, sc13, sc14, sc15, scS, List.drop_succ_cons, List.drop_nil, x_pan, s_pan, b_pan, pE_ret, pE_pan, pE_none, pE_ite, pvE_some, pvE_none, pvE_ite, rv_some, rv_none, rv_ite, oR_ret, t_mv, t_pick, t_alloc, t_box, t_build, t_buildS, t_load, t_store, t_nilck, t_bin, t_eqb, t_eqA, t_eqp, t_un, t_conv, t_field, t_idxA, t_faddr, t_iaddrS, t_iaddrA, t_ext, t_len, t_mm, t_call, t_ifc, t_fn, t_slc, t_slcA, t_slcT, t_tass, t_isn, t_mks, t_app, t_pan, panE_i, optE_none, optE_some, bnd_none, bnd_int, slA_none, slA_some, appR_some, appOld_cells, newsV_s, newsV_n, lenS_s, appV_nil, appV_some, mksV_i, sh_c, sh_g, f_pan, endD_ret, dfr_normal, dfr_ret, dfr_pan, restD_normal, callD1, callC1, tassV, isnV, slcV, slcAV, slcTV, slcB, appNew, Option.bind_some, Option.bind_none, d_pan, h_pan, wrH_eq, wrX_cells, wrU_some, upH_nil, upH_cons, lk_upH, effR_some, effR_none, effR_ite, Option.isNone_none, Option.isNone_some, slA_zero, call_yield, e_range, it_func, wy_same, y_call, isLp_self, beg_normal, end_normal, end_ret, end_exit, end_ite, aft_ret, aft_ready, aft_done, aft_exit, setP_cons, setP_nil, sh_r, t_mkmap, t_mlook, t_mupd, t_mdel, mapF_some, lookF_some, setM_some, lookR_t, lookR_n, lookR_f, lookR_fn, lookV, mupdV, mdelV, mkM]
      refine ok_some (.inl ⟨rfl, l.length - (j + 1), by omega, _, H2, N2, v2, j + 1, rfl, ⟨?_, ?_, ?_, ?_, ?_, ?_, ?_, ?_⟩, by rw [hrun]; exact m4, hgd' hnb, by omega, rfl⟩)
      all_goals simp -implicitDefEqProofs (maxSteps := 10000000) (disch := omega) only [T11, L11, hB, hR, hI, lb11, kp.l, kp.t0, kp.t2, kp.t3, kp.t4, kp.t13, kp.t14, kp.t15, gtst, st_len, lenV_sl, Int.toNat_natCast, bft, btf, hc1, pad, e_skip, e_ops, e_draw, d_none, d_nil, d_cons, d_ite, h_none, h_nil, h_cons, h_ite, eqS_same, lightV, e_seq, e_cond, e_block, e_exit, e_ret, s_normal, s_ret, s_exit, s_none, s_ite, b_normal, b_ret, b_exit, b_none, b_ite, c_bool, x_none, x_nil, x_cons, x_ite, p_some, p_none, p_ite, pt_some, pt_none, pv_some, pv_none, pv_ite, w_none, w_some, i_bool, i_undef, bt, bf, v_tmp, v_const, v_global, v_func, evs, f_normal, f_ret, f_none, f_ite, r_some, co_some, l_ptr, m_agg, m_one, sh_app, lk_nil, lk_cons, rd_eq, rdO_some, rdO_none, rdN_none, rdL_some, rdL_none, wrB_none, unitR_some, wr_nil, wr_here, wr_skip, k_cells, tk_zero, tk_take, tk_skip, tkC_some, call_func, gt, st, binV, arith, isSh, storeV, all1, idxAV, fieldV, faddrV, iaddrSV, iaddrAV, pickV, convV, unV, eqbV, eqpV, extV, mm2, mmV, nilckV, ress, res1, retV, Value.cells, cond_true, cond_false, Bool.true_or, Bool.false_or, Bool.or_true, Bool.or_false, beq_self_eq_true, if_true, if_false, ite_true, ite_false, decide_true, decide_false, decide_eq_true_eq, reduceIte, Nat.zero_add, Nat.add_zero, and_self, true_and, and_true, List.size_toArray, List.length_cons, List.length_nil, List.append_nil, List.nil_append, Int.toNat_zero, Bool.not_false, Bool.not_true, Bool.not_not, Bool.false_eq_true, Bool.true_eq_false, reduceCtorEq, Int.reduceLT, Int.reduceLE, Int.reduceToNat, Int.reduceAdd, Int.reduceSub, Int.reduceMul, Int.reduceNeg, Nat.reduceMul, Nat.reduceAdd, Nat.reduceSub, Nat.reduceBEq, Nat.reduceEqDiff, Nat.reduceLT, Nat.reduceLeDiff, Int.reduceBEq, Int.reduceEq, Nat.reducePow, Int.reducePow, IntWalk.i64_in, IntKind.bits, eqAV, eqL, leafEq, andO, fillV, buildSV, List.getElem?_toArray, List.getElem?_cons_zero, List.getElem?_cons_succ, List.getElem?_nil, Int.reduceGT, Int.reduceGE, Int.reduceBNe, Bool.true_and, Bool.and_true, Bool.false_and, Bool.and_false, Bool.and_self, IntWalk.u64_in, Int.cast_ofNat_Int, callF1, pad16, pad_0, pad_1, pad_2, pad_3, pad_4, pad_5, pad_6, pad_7, pad_8, pad_9, pad_10, pad_11, pad_12, pad_13, pad_14, pad_15, gc0, gc1, gc2, gc3, gc4, gc5, gc6, gc7, gc8, gc9, gc10, gc11, gc12, gc13, gc14, gc15, gcS, sc0, sc1, sc2, sc3, sc4, sc5, sc6, sc7, sc8, sc9, sc10, sc11, sc12, sc13, sc14, sc15, scS, List.drop_succ_cons, List.drop_nil, x_pan, s_pan, b_pan, pE_ret, pE_pan, pE_none, pE_ite, pvE_some, pvE_none, pvE_ite, rv_some, rv_none, rv_ite, oR_ret, t_mv, t_pick, t_alloc, t_box, t_build, t_buildS, t_load, t_store, t_nilck, t_bin, t_eqb, t_eqA, t_eqp, t_un, t_conv, t_field, t_idxA, t_faddr, t_iaddrS, t_iaddrA, t_ext, t_len, t_mm, t_call, t_ifc, t_fn, t_slc, t_slcA, t_slcT, t_tass, t_isn, t_mks, t_app, t_pan, panE_i, optE_none, optE_some, bnd_none, bnd_int, slA_none, slA_some, appR_some, appOld_cells, newsV_s, newsV_n, lenS_s, appV_nil, appV_some, mksV_i, sh_c, sh_g, f_pan, endD_ret, dfr_normal, dfr_ret, dfr_pan, restD_normal, callD1, callC1, tassV, isnV, slcV, slcAV, slcTV, slcB, appNew, Option.bind_some, Option.bind_none, d_pan, h_pan, wrH_eq, wrX_cells, wrU_some, upH_nil, upH_cons, lk_upH, effR_some, effR_none, effR_ite, Option.isNone_none, Option.isNone_some, slA_zero, call_yield, e_range, it_func, wy_same, y_call, isLp_self, beg_normal, end_normal, end_ret, end_exit, end_ite, aft_ret, aft_ready, aft_done, aft_exit, setP_cons, setP_nil, sh_r, t_mkmap, t_mlook, t_mupd, t_mdel, mapF_some, lookF_some, setM_some, lookR_t, lookR_n, lookR_f, lookR_fn, lookV, mupdV, mdelV, mkM]
  | some a =>
    have hp := mf_some ho
    by_cases p0 : p < 0
    · have hbad : cBad (cRun l.length l j).1 (cRun l.length l j).2 (l.getD j e0) := by
        unfold cBad
        exact by rw [hs, hx]; exact .inl p0
      simp -implicitDefEqProofs (maxSteps := 10000000) (disch := omega) only [T11, L11, hB, hR, hI, lb11, kp.l, kp.t0, kp.t2, kp.t3, kp.t4, kp.t13, kp.t14, kp.t15, gtst, st_len, lenV_sl, Int.toNat_natCast, bft, btf, mc.lm, mc.mB, nm, nm', hrd, hp, mapF_some, hjI, hj, j0, p0, pad, e_skip, e_ops, e_draw, d_none, d_nil, d_cons, d_ite, h_none, h_nil, h_cons, h_ite, eqS_same, lightV, e_seq, e_cond, e_block, e_exit, e_ret, s_normal, s_ret, s_exit, s_none, s_ite, b_normal, b_ret, b_exit, b_none, b_ite, c_bool, x_none, x_nil, x_cons, x_ite, p_some, p_none, p_ite, pt_some, pt_none, pv_some, pv_none, pv_ite, w_none, w_some, i_bool, i_undef, bt, bf, v_tmp, v_const, v_global, v_func, evs, f_normal, f_ret, f_none, f_ite, r_some, co_some, l_ptr, m_agg, m_one, sh_app, lk_nil, lk_cons, rd_eq, rdO_some, rdO_none, rdN_none, rdL_some, rdL_none, wrB_none, unitR_some, wr_nil, wr_here, wr_skip, k_cells, tk_zero, tk_take, tk_skip, tkC_some, call_func, gt, st, binV, arith, isSh, storeV, all1, idxAV, fieldV, faddrV, iaddrSV, iaddrAV, pickV, convV, unV, eqbV, eqpV, extV, mm2, mmV, nilckV, ress, res1, retV, Value.cells, cond_true, cond_false, Bool.true_or, Bool.false_or, Bool.or_true, Bool.or_false, beq_self_eq_true, if_true, if_false, ite_true, ite_false, decide_true, decide_false, decide_eq_true_eq, reduceIte, Nat.zero_add, Nat.add_zero, and_self, true_and, and_true, List.size_toArray, List.length_cons, List.length_nil, List.append_nil, List.nil_append, Int.toNat_zero, Bool.not_false, Bool.not_true, Bool.not_not, Bool.false_eq_true, Bool.true_eq_false, reduceCtorEq, Int.reduceLT, Int.reduceLE, Int.reduceToNat, Int.reduceAdd, Int.reduceSub, Int.reduceMul, Int.reduceNeg, Nat.reduceMul, Nat.reduceAdd, Nat.reduceSub, Nat.reduceBEq, Nat.reduceEqDiff, Nat.reduceLT, Nat.reduceLeDiff, Int.reduceBEq, Int.reduceEq, Nat.reducePow, Int.reducePow, IntWalk.i64_in, IntKind.bits, eqAV, eqL, leafEq, andO, fillV, buildSV, List.getElem?_toArray, List.getElem?_cons_zero, List.getElem?_cons_succ, List.getElem?_nil, Int.reduceGT, Int.reduceGE, Int.reduceBNe, Bool.true_and, Bool.and_true, Bool.false_and, Bool.and_false, Bool.and_self, IntWalk.u64_in, Int.cast_ofNat_Int, callF1, pad16, pad_0, pad_1, pad_2, pad_3, pad_4, pad_5, pad_6, pad_7, pad_8, pad_9, pad_10, pad_11, pad_12, pad_13, pad_14, pad_15, gc0, gc1, gc2, gc3, gc4, gc5, gc6, gc7, gc8, gc9, gc10, gc11, gc12, gc13, gc14, gc15, gcS, sc0, sc1, sc2, sc3, sc4, sc5, sc6, sc7, sc8, sc9, sc10, sc11, sc12, sc13, sc14, sc15, scS, List.drop_succ_cons, List.drop_nil, x_pan, s_pan, b_pan, pE_ret, pE_pan, pE_none, pE_ite, pvE_some, pvE_none, pvE_ite, rv_some, rv_none, rv_ite, oR_ret, t_mv, t_pick, t_alloc, t_box, t_build, t_buildS, t_load, t_store, t_nilck, t_bin, t_eqb, t_eqA, t_eqp, t_un, t_conv, t_field, t_idxA, t_faddr, t_iaddrS, t_iaddrA, t_ext, t_len, t_mm, t_call, t_ifc, t_fn, t_slc, t_slcA, t_slcT, t_tass, t_isn, t_mks, t_app, t_pan, panE_i, optE_none, optE_some, bnd_none, bnd_int, slA_none, slA_some, appR_some, appOld_cells, newsV_s, newsV_n, lenS_s, appV_nil, appV_some, mksV_i, sh_c, sh_g, f_pan, endD_ret, dfr_normal, dfr_ret, dfr_pan, restD_normal, callD1, callC1, tassV, isnV, slcV, slcAV, slcTV, slcB, appNew, Option.bind_some, Option.bind_none, d_pan, h_pan, wrH_eq, wrX_cells, wrU_some, upH_nil, upH_cons, lk_upH, effR_some, effR_none, effR_ite, Option.isNone_none, Option.isNone_some, slA_zero, call_yield, e_range, it_func, wy_same, y_call, isLp_self, beg_normal, end_normal, end_ret, end_exit, end_ite, aft_ret, aft_ready, aft_done, aft_exit, setP_cons, setP_nil, sh_r, t_mkmap, t_mlook, t_mupd, t_mdel, mapF_some, lookF_some, setM_some, lookR_t, lookR_n, lookR_f, lookR_fn, lookV, mupdV, mdelV, mkM]
      refine ok_some (.inr ⟨by simp, .inr ⟨rfl, ?_, ?_, ?_, good_new mc.g, fr_new mc.g mc.f 0, j, hj, hbad⟩⟩)
      all_goals simp -implicitDefEqProofs (maxSteps := 10000000) (disch := omega) only [T11, L11, hB, hR, hI, lb11, kp.l, kp.t0, kp.t2, kp.t3, kp.t4, kp.t13, kp.t14, kp.t15, gtst, st_len, lenV_sl, Int.toNat_natCast, bft, btf, mc.lm, mc.mB, nm, nm', hrd, hp, mapF_some, hjI, hj, j0, p0, pad, e_skip, e_ops, e_draw, d_none, d_nil, d_cons, d_ite, h_none, h_nil, h_cons, h_ite, eqS_same, lightV, e_seq, e_cond, e_block, e_exit, e_ret, s_normal, s_ret, s_exit, s_none, s_ite, b_normal, b_ret, b_exit, b_none, b_ite, c_bool, x_none, x_nil, x_cons, x_ite, p_some, p_none, p_ite, pt_some, pt_none, pv_some, pv_none, pv_ite, w_none, w_some, i_bool, i_undef, bt, bf, v_tmp, v_const, v_global, v_func, evs, f_normal, f_ret, f_none, f_ite, r_some, co_some, l_ptr, m_agg, m_one, sh_app, lk_nil, lk_cons, rd_eq, rdO_some, rdO_none, rdN_none, rdL_some, rdL_none, wrB_none, unitR_some, wr_nil, wr_here, wr_skip, k_cells, tk_zero, tk_take, tk_skip, tkC_some, call_func, gt, st, binV, arith, isSh, storeV, all1, idxAV, fieldV, faddrV, iaddrSV, iaddrAV, pickV, convV, unV, eqbV, eqpV, extV, mm2, mmV, nilckV, ress, res1, retV, Value.cells, cond_true, cond_false, Bool.true_or, Bool.false_or, Bool.or_true, Bool.or_false, beq_self_eq_true, if_true, if_false, ite_true, ite_false, decide_true, decide_false, decide_eq_true_eq, reduceIte, Nat.zero_add, Nat.add_zero, and_self, true_and, and_true, List.size_toArray, List.length_cons, List.length_nil, List.append_nil, List.nil_append, Int.toNat_zero, Bool.not_false, Bool.not_true, Bool.not_not, Bool.false_eq_true, Bool.true_eq_false, reduceCtorEq, Int.reduceLT, Int.reduceLE, Int.reduceToNat, Int.reduceAdd, Int.reduceSub, Int.reduceMul, Int.reduceNeg, Nat.reduceMul, Nat.reduceAdd, Nat.reduceSub, Nat.reduceBEq, Nat.reduceEqDiff, Nat.reduceLT, Nat.reduceLeDiff, Int.reduceBEq, Int.reduceEq, Nat.reducePow, Int.reducePow, IntWalk.i64_in, IntKind.bits, eqAV, eqL, leafEq, andO, fillV, buildSV, List.getElem?_toArray, List.getElem?_cons_zero, List.getElem?_cons_succ, List.getElem?_nil, Int.reduceGT, Int.reduceGE, Int.reduceBNe, Bool.true_and, Bool.and_true, Bool.false_and, Bool.and_false, Bool.and_self, IntWalk.u64_in, Int.cast_ofNat_Int, callF1, pad16, pad_0, pad_1, pad_2, pad_3, pad_4, pad_5, pad_6, pad_7, pad_8, pad_9, pad_10, pad_11, pad_12, pad_13, pad_14, pad_15, gc0, gc1, gc2, gc3, gc4, gc5, gc6, gc7, gc8, gc9, gc10, gc11, gc12, gc13, gc14, gc15, gcS, sc0, sc1, sc2, sc3, sc4, sc5, sc6, sc7, sc8, sc9, sc10, sc11, sc12, sc13, sc14, sc15, scS, List.drop_succ_cons, List.drop_nil, x_pan, s_pan, b_pan, pE_ret, pE_pan, pE_none, pE_ite, pvE_some, pvE_none, pvE_ite, rv_some, rv_none, rv_ite, oR_ret, t_mv, t_pick, t_alloc, t_box, t_build, t_buildS, t_load, t_store, t_nilck, t_bin, t_eqb, t_eqA, t_eqp, t_un, t_conv, t_field, t_idxA, t_faddr, t_iaddrS, t_iaddrA, t_ext, t_len, t_mm, t_call, t_ifc, t_fn, t_slc, t_slcA, t_slcT, t_tass, t_isn, t_mks, t_app, t_pan, panE_i, optE_none, optE_some, bnd_none, bnd_int, slA_none, slA_some, appR_some, appOld_cells, newsV_s, newsV_n, lenS_s, appV_nil, appV_some, mksV_i, sh_c, sh_g, f_pan, endD_ret, dfr_normal, dfr_ret, dfr_pan, restD_normal, callD1, callC1, tassV, isnV, slcV, slcAV, slcTV, slcB, appNew, Option.bind_some, Option.bind_none, d_pan, h_pan, wrH_eq, wrX_cells, wrU_some, upH_nil, upH_cons, lk_upH, effR_some, effR_none, effR_ite, Option.isNone_none, Option.isNone_some, slA_zero, call_yield, e_range, it_func, wy_same, y_call, isLp_self, beg_normal, end_normal, end_ret, end_exit, end_ite, aft_ret, aft_ready, aft_done, aft_exit, setP_cons, setP_nil, sh_r, t_mkmap, t_mlook, t_mupd, t_mdel, mapF_some, lookF_some, setM_some, lookR_t, lookR_n, lookR_f, lookR_fn, lookV, mupdV, mdelV, mkM]
    by_cases p16 : p ≥ 16
    · have hbad : cBad (cRun l.length l j).1 (cRun l.length l j).2 (l.getD j e0) := by
        unfold cBad
        exact by rw [hs, hx]; exact .inr (.inl p16)
      simp -implicitDefEqProofs (maxSteps := 10000000) (disch := omega) only [T11, L11, hB, hR, hI, lb11, kp.l, kp.t0, kp.t2, kp.t3, kp.t4, kp.t13, kp.t14, kp.t15, gtst, st_len, lenV_sl, Int.toNat_natCast, bft, btf, mc.lm, mc.mB, nm, nm', hrd, hp, mapF_some, hjI, hj, j0, p0, p16, pad, e_skip, e_ops, e_draw, d_none, d_nil, d_cons, d_ite, h_none, h_nil, h_cons, h_ite, eqS_same, lightV, e_seq, e_cond, e_block, e_exit, e_ret, s_normal, s_ret, s_exit, s_none, s_ite, b_normal, b_ret, b_exit, b_none, b_ite, c_bool, x_none, x_nil, x_cons, x_ite, p_some, p_none, p_ite, pt_some, pt_none, pv_some, pv_none, pv_ite, w_none, w_some, i_bool, i_undef, bt, bf, v_tmp, v_const, v_global, v_func, evs, f_normal, f_ret, f_none, f_ite, r_some, co_some, l_ptr, m_agg, m_one, sh_app, lk_nil, lk_cons, rd_eq, rdO_some, rdO_none, rdN_none, rdL_some, rdL_none, wrB_none, unitR_some, wr_nil, wr_here, wr_skip, k_cells, tk_zero, tk_take, tk_skip, tkC_some, call_func, gt, st, binV, arith, isSh, storeV, all1, idxAV, fieldV, faddrV, iaddrSV, iaddrAV, pickV, convV, unV, eqbV, eqpV, extV, mm2, mmV, nilckV, ress, res1, retV, Value.cells, cond_true, cond_false, Bool.true_or, Bool.false_or, Bool.or_true, Bool.or_false, beq_self_eq_true, if_true, if_false, ite_true, ite_false, decide_true, decide_false, decide_eq_true_eq, reduceIte, Nat.zero_add, Nat.add_zero, and_self, true_and, and_true, List.size_toArray, List.length_cons, List.length_nil, List.append_nil, List.nil_append, Int.toNat_zero, Bool.not_false, Bool.not_true, Bool.not_not, Bool.false_eq_true, Bool.true_eq_false, reduceCtorEq, Int.reduceLT, Int.reduceLE, Int.reduceToNat, Int.reduceAdd, Int.reduceSub, Int.reduceMul, Int.reduceNeg, Nat.reduceMul, Nat.reduceAdd, Nat.reduceSub, Nat.reduceBEq, Nat.reduceEqDiff, Nat.reduceLT, Nat.reduceLeDiff, Int.reduceBEq, Int.reduceEq, Nat.reducePow, Int.reducePow, IntWalk.i64_in, IntKind.bits, eqAV, eqL, leafEq, andO, fillV, buildSV, List.getElem?_toArray, List.getElem?_cons_zero, List.getElem?_cons_succ, List.getElem?_nil, Int.reduceGT, Int.reduceGE, Int.reduceBNe, Bool.true_and, Bool.and_true, Bool.false_and, Bool.and_false, Bool.and_self, IntWalk.u64_in, Int.cast_ofNat_Int, callF1, pad16, pad_0, pad_1, pad_2, pad_3, pad_4, pad_5, pad_6, pad_7, pad_8, pad_9, pad_10, pad_11, pad_12, pad_13, pad_14, pad_15, gc0, gc1, gc2, gc3, gc4, gc5, gc6, gc7, gc8, gc9, gc10, gc11, gc12, gc13, gc14, gc15, gcS, sc0, sc1, sc2, sc3, sc4, sc5, sc6, sc7, sc8, sc9, sc10, sc11, sc12, sc13, sc14, sc15, scS, List.drop_succ_cons, List.drop_nil, x_pan, s_pan, b_pan, pE_ret, pE_pan, pE_none, pE_ite, pvE_some, pvE_none, pvE_ite, rv_some, rv_none, rv_ite, oR_ret, t_mv, t_pick, t_alloc, t_box, t_build, t_buildS, t_load, t_store, t_nilck, t_bin, t_eqb, t_eqA, t_eqp, t_un, t_conv, t_field, t_idxA, t_faddr, t_iaddrS, t_iaddrA, t_ext, t_len, t_mm, t_call, t_ifc, t_fn, t_slc, t_slcA, t_slcT, t_tass, t_isn, t_mks, t_app, t_pan, panE_i, optE_none, optE_some, bnd_none, bnd_int, slA_none, slA_some, appR_some, appOld_cells, newsV_s, newsV_n, lenS_s, appV_nil, appV_some, mksV_i, sh_c, sh_g, f_pan, endD_ret, dfr_normal, dfr_ret, dfr_pan, restD_normal, callD1, callC1, tassV, isnV, slcV, slcAV, slcTV, slcB, appNew, Option.bind_some, Option.bind_none, d_pan, h_pan, wrH_eq, wrX_cells, wrU_some, upH_nil, upH_cons, lk_upH, effR_some, effR_none, effR_ite, Option.isNone_none, Option.isNone_some, slA_zero, call_yield, e_range, it_func, wy_same, y_call, isLp_self, beg_normal, end_normal, end_ret, end_exit, end_ite, aft_ret, aft_ready, aft_done, aft_exit, setP_cons, setP_nil, sh_r, t_mkmap, t_mlook, t_mupd, t_mdel, mapF_some, lookF_some, setM_some, lookR_t, lookR_n, lookR_f, lookR_fn, lookV, mupdV, mdelV, mkM]
      refine ok_some (.inr ⟨by simp, .inr ⟨rfl, ?_, ?_, ?_, good_new mc.g, fr_new mc.g mc.f 0, j, hj, hbad⟩⟩)
      all_goals simp -implicitDefEqProofs (maxSteps := 10000000) (disch := omega) only [T11, L11, hB, hR, hI, lb11, kp.l, kp.t0, kp.t2, kp.t3, kp.t4, kp.t13, kp.t14, kp.t15, gtst, st_len, lenV_sl, Int.toNat_natCast, bft, btf, mc.lm, mc.mB, nm, nm', hrd, hp, mapF_some, hjI, hj, j0, p0, p16, pad, e_skip, e_ops, e_draw, d_none, d_nil, d_cons, d_ite, h_none, h_nil, h_cons, h_ite, eqS_same, lightV, e_seq, e_cond, e_block, e_exit, e_ret, s_normal, s_ret, s_exit, s_none, s_ite, b_normal, b_ret, b_exit, b_none, b_ite, c_bool, x_none, x_nil, x_cons, x_ite, p_some, p_none, p_ite, pt_some, pt_none, pv_some, pv_none, pv_ite, w_none, w_some, i_bool, i_undef, bt, bf, v_tmp, v_const, v_global, v_func, evs, f_normal, f_ret, f_none, f_ite, r_some, co_some, l_ptr, m_agg, m_one, sh_app, lk_nil, lk_cons, rd_eq, rdO_some, rdO_none, rdN_none, rdL_some, rdL_none, wrB_none, unitR_some, wr_nil, wr_here, wr_skip, k_cells, tk_zero, tk_take, tk_skip, tkC_some, call_func, gt, st, binV, arith, isSh, storeV, all1, idxAV, fieldV, faddrV, iaddrSV, iaddrAV, pickV, convV, unV, eqbV, eqpV, extV, mm2, mmV, nilckV, ress, res1, retV, Value.cells, cond_true, cond_false, Bool.true_or, Bool.false_or, Bool.or_true, Bool.or_false, beq_self_eq_true, if_true, if_false, ite_true, ite_false, decide_true, decide_false, decide_eq_true_eq, reduceIte, Nat.zero_add, Nat.add_zero, and_self, true_and, and_true, List.size_toArray, List.length_cons, List.length_nil, List.append_nil, List.nil_append, Int.toNat_zero, Bool.not_false, Bool.not_true, Bool.not_not, Bool.false_eq_true, Bool.true_eq_false, reduceCtorEq, Int.reduceLT, Int.reduceLE, Int.reduceToNat, Int.reduceAdd, Int.reduceSub, Int.reduceMul, Int.reduceNeg, Nat.reduceMul, Nat.reduceAdd, Nat.reduceSub, Nat.reduceBEq, Nat.reduceEqDiff, Nat.reduceLT, Nat.reduceLeDiff, Int.reduceBEq, Int.reduceEq, Nat.reducePow, Int.reducePow, IntWalk.i64_in, IntKind.bits, eqAV, eqL, leafEq, andO, fillV, buildSV, List.getElem?_toArray, List.getElem?_cons_zero, List.getElem?_cons_succ, List.getElem?_nil, Int.reduceGT, Int.reduceGE, Int.reduceBNe, Bool.true_and, Bool.and_true, Bool.false_and, Bool.and_false, Bool.and_self, IntWalk.u64_in, Int.cast_ofNat_Int, callF1, pad16, pad_0, pad_1, pad_2, pad_3, pad_4, pad_5, pad_6, pad_7, pad_8, pad_9, pad_10, pad_11, pad_12, pad_13, pad_14, pad_15, gc0, gc1, gc2, gc3, gc4, gc5, gc6, gc7, gc8, gc9, gc10, gc11, gc12, gc13, gc14, gc15, gcS, sc0, sc1, sc2, sc3, sc4, sc5, sc6, sc7, sc8, sc9, sc10, sc11, sc12, sc13, sc14, sc15, scS, List.drop_succ_cons, List.drop_nil, x_pan, s_pan, b_pan, pE_ret, pE_pan, pE_none, pE_ite, pvE_some, pvE_none, pvE_ite, rv_some, rv_none, rv_ite, oR_ret, t_mv, t_pick, t_alloc, t_box, t_build, t_buildS, t_load, t_store, t_nilck, t_bin, t_eqb, t_eqA, t_eqp, t_un, t_conv, t_field, t_idxA, t_faddr, t_iaddrS, t_iaddrA, t_ext, t_len, t_mm, t_call, t_ifc, t_fn, t_slc, t_slcA, t_slcT, t_tass, t_isn, t_mks, t_app, t_pan, panE_i, optE_none, optE_some, bnd_none, bnd_int, slA_none, slA_some, appR_some, appOld_cells, newsV_s, newsV_n, lenS_s, appV_nil, appV_some, mksV_i, sh_c, sh_g, f_pan, endD_ret, dfr_normal, dfr_ret, dfr_pan, restD_normal, callD1, callC1, tassV, isnV, slcV, slcAV, slcTV, slcB, appNew, Option.bind_some, Option.bind_none, d_pan, h_pan, wrH_eq, wrX_cells, wrU_some, upH_nil, upH_cons, lk_upH, effR_some, effR_none, effR_ite, Option.isNone_none, Option.isNone_some, slA_zero, call_yield, e_range, it_func, wy_same, y_call, isLp_self, beg_normal, end_normal, end_ret, end_exit, end_ite, aft_ret, aft_ready, aft_done, aft_exit, setP_cons, setP_nil, sh_r, t_mkmap, t_mlook, t_mupd, t_mdel, mapF_some, lookF_some, setM_some, lookR_t, lookR_n, lookR_f, lookR_fn, lookV, mupdV, mdelV, mkM]
    cases bb with
    | true =>
      have hbad : cBad (cRun l.length l j).1 (cRun l.length l j).2 (l.getD j e0) := by
        unfold cBad
        exact by rw [hs, hx]; exact .inr (.inr (.inl (by simp [ho])))
      simp -implicitDefEqProofs (maxSteps := 10000000) (disch := omega) only [T11, L11, hB, hR, hI, lb11, kp.l, kp.t0, kp.t2, kp.t3, kp.t4, kp.t13, kp.t14, kp.t15, gtst, st_len, lenV_sl, Int.toNat_natCast, bft, btf, mc.lm, mc.mB, nm, nm', hrd, hp, mapF_some, hjI, hj, j0, p0, p16, pad, e_skip, e_ops, e_draw, d_none, d_nil, d_cons, d_ite, h_none, h_nil, h_cons, h_ite, eqS_same, lightV, e_seq, e_cond, e_block, e_exit, e_ret, s_normal, s_ret, s_exit, s_none, s_ite, b_normal, b_ret, b_exit, b_none, b_ite, c_bool, x_none, x_nil, x_cons, x_ite, p_some, p_none, p_ite, pt_some, pt_none, pv_some, pv_none, pv_ite, w_none, w_some, i_bool, i_undef, bt, bf, v_tmp, v_const, v_global, v_func, evs, f_normal, f_ret, f_none, f_ite, r_some, co_some, l_ptr, m_agg, m_one, sh_app, lk_nil, lk_cons, rd_eq, rdO_some, rdO_none, rdN_none, rdL_some, rdL_none, wrB_none, unitR_some, wr_nil, wr_here, wr_skip, k_cells, tk_zero, tk_take, tk_skip, tkC_some, call_func, gt, st, binV, arith, isSh, storeV, all1, idxAV, fieldV, faddrV, iaddrSV, iaddrAV, pickV, convV, unV, eqbV, eqpV, extV, mm2, mmV, nilckV, ress, res1, retV, Value.cells, cond_true, cond_false, Bool.true_or, Bool.false_or, Bool.or_true, Bool.or_false, beq_self_eq_true, if_true, if_false, ite_true, ite_false, decide_true, decide_false, decide_eq_true_eq, reduceIte, Nat.zero_add, Nat.add_zero, and_self, true_and, and_true, List.size_toArray, List.length_cons, List.length_nil, List.append_nil, List.nil_append, Int.toNat_zero, Bool.not_false, Bool.not_true, Bool.not_not, Bool.false_eq_true, Bool.true_eq_false, reduceCtorEq, Int.reduceLT, Int.reduceLE, Int.reduceToNat, Int.reduceAdd, Int.reduceSub, Int.reduceMul, Int.reduceNeg, Nat.reduceMul, Nat.reduceAdd, Nat.reduceSub, Nat.reduceBEq, Nat.reduceEqDiff, Nat.reduceLT, Nat.reduceLeDiff, Int.reduceBEq, Int.reduceEq, Nat.reducePow, Int.reducePow, IntWalk.i64_in, IntKind.bits, eqAV, eqL, leafEq, andO, fillV, buildSV, List.getElem?_toArray, List.getElem?_cons_zero, List.getElem?_cons_succ, List.getElem?_nil, Int.reduceGT, Int.reduceGE, Int.reduceBNe, Bool.true_and, Bool.and_true, Bool.false_and, Bool.and_false, Bool.and_self, IntWalk.u64_in, Int.cast_ofNat_Int, callF1, pad16, pad_0, pad_1, pad_2, pad_3, pad_4, pad_5, pad_6, pad_7, pad_8, pad_9, pad_10, pad_11, pad_12, pad_13, pad_14, pad_15, gc0, gc1, gc2, gc3, gc4, gc5, gc6, gc7, gc8, gc9, gc10, gc11, gc12, gc13, gc14, gc15, gcS, sc0, sc1, sc2, sc3, sc4, sc5, sc6, sc7, sc8, sc9, sc10, sc11, sc12, sc13, sc14, sc15, scS, List.drop_succ_cons, List.drop_nil, x_pan, s_pan, b_pan, pE_ret, pE_pan, pE_none, pE_ite, pvE_some, pvE_none, pvE_ite, rv_some, rv_none, rv_ite, oR_ret, t_mv, t_pick, t_alloc, t_box, t_build, t_buildS, t_load, t_store, t_nilck, t_bin, t_eqb, t_eqA, t_eqp, t_un, t_conv, t_field, t_idxA, t_faddr, t_iaddrS, t_iaddrA, t_ext, t_len, t_mm, t_call, t_ifc, t_fn, t_slc, t_slcA, t_slcT, t_tass, t_isn, t_mks, t_app, t_pan, panE_i, optE_none, optE_some, bnd_none, bnd_int, slA_none, slA_some, appR_some, appOld_cells, newsV_s, newsV_n, lenS_s, appV_nil, appV_some, mksV_i, sh_c, sh_g, f_pan, endD_ret, dfr_normal, dfr_ret, dfr_pan, restD_normal, callD1, callC1, tassV, isnV, slcV, slcAV, slcTV, slcB, appNew, Option.bind_some, Option.bind_none, d_pan, h_pan, wrH_eq, wrX_cells, wrU_some, upH_nil, upH_cons, lk_upH, effR_some, effR_none, effR_ite, Option.isNone_none, Option.isNone_some, slA_zero, call_yield, e_range, it_func, wy_same, y_call, isLp_self, beg_normal, end_normal, end_ret, end_exit, end_ite, aft_ret, aft_ready, aft_done, aft_exit, setP_cons, setP_nil, sh_r, t_mkmap, t_mlook, t_mupd, t_mdel, mapF_some, lookF_some, setM_some, lookR_t, lookR_n, lookR_f, lookR_fn, lookV, mupdV, mdelV, mkM]
      refine ok_some (.inr ⟨by simp, .inr ⟨rfl, ?_, ?_, ?_, good_new mc.g, fr_new mc.g mc.f 0, j, hj, hbad⟩⟩)
      all_goals simp -implicitDefEqProofs (maxSteps := 10000000) (disch := omega) only [T11, L11, hB, hR, hI, lb11, kp.l, kp.t0, kp.t2, kp.t3, kp.t4, kp.t13, kp.t14, kp.t15, gtst, st_len, lenV_sl, Int.toNat_natCast, bft, btf, mc.lm, mc.mB, nm, nm', hrd, hp, mapF_some, hjI, hj, j0, p0, p16, pad, e_skip, e_ops, e_draw, d_none, d_nil, d_cons, d_ite, h_none, h_nil, h_cons, h_ite, eqS_same, lightV, e_seq, e_cond, e_block, e_exit, e_ret, s_normal, s_ret, s_exit, s_none, s_ite, b_normal, b_ret, b_exit, b_none, b_ite, c_bool, x_none, x_nil, x_cons, x_ite, p_some, p_none, p_ite, pt_some, pt_none, pv_some, pv_none, pv_ite, w_none, w_some, i_bool, i_undef, bt, bf, v_tmp, v_const, v_global, v_func, evs, f_normal, f_ret, f_none, f_ite, r_some, co_some, l_ptr, m_agg, m_one, sh_app, lk_nil, lk_cons, rd_eq, rdO_some, rdO_none, rdN_none, rdL_some, rdL_none, wrB_none, unitR_some, wr_nil, wr_here, wr_skip, k_cells, tk_zero, tk_take, tk_skip, tkC_some, call_func, gt, st, binV, arith, isSh, storeV, all1, idxAV, fieldV, faddrV, iaddrSV, iaddrAV, pickV, convV, unV, eqbV, eqpV, extV, mm2, mmV, nilckV, ress, res1, retV, Value.cells, cond_true, cond_false, Bool.true_or, Bool.false_or, Bool.or_true, Bool.or_false, beq_self_eq_true, if_true, if_false, ite_true, ite_false, decide_true, decide_false, decide_eq_true_eq, reduceIte, Nat.zero_add, Nat.add_zero, and_self, true_and, and_true, List.size_toArray, List.length_cons, List.length_nil, List.append_nil, List.nil_append, Int.toNat_zero, Bool.not_false, Bool.not_true, Bool.not_not, Bool.false_eq_true, Bool.true_eq_false, reduceCtorEq, Int.reduceLT, Int.reduceLE, Int.reduceToNat, Int.reduceAdd, Int.reduceSub, Int.reduceMul, Int.reduceNeg, Nat.reduceMul, Nat.reduceAdd, Nat.reduceSub, Nat.reduceBEq, Nat.reduceEqDiff, Nat.reduceLT, Nat.reduceLeDiff, Int.reduceBEq, Int.reduceEq, Nat.reducePow, Int.reducePow, IntWalk.i64_in, IntKind.bits, eqAV, eqL, leafEq, andO, fillV, buildSV, List.getElem?_toArray, List.getElem?_cons_zero, List.getElem?_cons_succ, List.getElem?_nil, Int.reduceGT, Int.reduceGE, Int.reduceBNe, Bool.true_and, Bool.and_true, Bool.false_and, Bool.and_false, Bool.and_self, IntWalk.u64_in, Int.cast_ofNat_Int, callF1, pad16, pad_0, pad_1, pad_2, pad_3, pad_4, pad_5, pad_6, pad_7, pad_8, pad_9, pad_10, pad_11, pad_12, pad_13, pad_14, pad_15, gc0, gc1, gc2, gc3, gc4, gc5, gc6, gc7, gc8, gc9, gc10, gc11, gc12, gc13, gc14, gc15, gcS, sc0, sc1, sc2, sc3, sc4, sc5, sc6, sc7, sc8, sc9, sc10, sc11, sc12, sc13, sc14, sc15, scS, List.drop_succ_cons, List.drop_nil, x_pan, s_pan, b_pan, pE_ret, pE_pan, pE_none, pE_ite, pvE_some, pvE_none, pvE_ite, rv_some, rv_none, rv_ite, oR_ret, t_mv, t_pick, t_alloc, t_box, t_build, t_buildS, t_load, t_store, t_nilck, t_bin, t_eqb, t_eqA, t_eqp, t_un, t_conv, t_field, t_idxA, t_faddr, t_iaddrS, t_iaddrA, t_ext, t_len, t_mm, t_call, t_ifc, t_fn, t_slc, t_slcA, t_slcT, t_tass, t_isn, t_mks, t_app, t_pan, panE_i, optE_none, optE_some, bnd_none, bnd_int, slA_none, slA_some, appR_some, appOld_cells, newsV_s, newsV_n, lenS_s, appV_nil, appV_some, mksV_i, sh_c, sh_g, f_pan, endD_ret, dfr_normal, dfr_ret, dfr_pan, restD_normal, callD1, callC1, tassV, isnV, slcV, slcAV, slcTV, slcB, appNew, Option.bind_some, Option.bind_none, d_pan, h_pan, wrH_eq, wrX_cells, wrU_some, upH_nil, upH_cons, lk_upH, effR_some, effR_none, effR_ite, Option.isNone_none, Option.isNone_some, slA_zero, call_yield, e_range, it_func, wy_same, y_call, isLp_self, beg_normal, end_normal, end_ret, end_exit, end_ite, aft_ret, aft_ready, aft_done, aft_exit, setP_cons, setP_nil, sh_r, t_mkmap, t_mlook, t_mupd, t_mdel, mapF_some, lookF_some, setM_some, lookR_t, lookR_n, lookR_f, lookR_fn, lookV, mupdV, mdelV, mkM]
    | false =>
      obtain ⟨ca, hca, hcp, hcd⟩ := (hinv.op p a).1 ho
      have hac := (List.getElem?_eq_some_iff.1 hca).1
      have hz : C.getD a z0 = ca := getD_some hca
      rcases mc.s with ⟨h0, _⟩ | ⟨bo, co, rfl, hBo, h0o, hle, hlk⟩
      · rw [h0] at hac; simp at hac
      have nb := ne_N mc.g hlk
      have nb' := ne_N' mc.g hlk
      have rN := fun o n => rdB_none (o := o) (n := n) hBo
      have nbm : (m == bo) = false := eqb fun h => mc.sm (by rw [h]; rfl)
      have nbm' : (bo == m) = false := eqb fun h => mc.sm (by rw [h]; rfl)
      have aI : (0 : Int) ≤ (a : Int) := by omega
      have aC : (a : Int) < (C.length : Int) := by omega
      have hr2 : tk (fl cl9 C) (a * 9 + 1) 3 = some [.int .i64 ca.c, .int .u64 ca.k, .int .u64 ca.v] := by rw [tk_fl cl9_len C a 1 3 z0 hac (by omega), hz]; rfl
      by_cases q1 : ca.c = c
      case neg =>
        have q1' := beqI q1
        have hbad : cBad (cRun l.length l j).1 (cRun l.length l j).2 (l.getD j e0) := by
          unfold cBad
          exact by rw [hs, hx]; exact .inr (.inr (.inr (.inr ⟨a, ho, by simp only [hz]; exact fun h => q1 h.1⟩)))
        simp -implicitDefEqProofs (maxSteps := 10000000) (disch := omega) only [T11, L11, hB, hR, hI, lb11, kp.l, kp.t0, kp.t2, kp.t3, kp.t4, kp.t13, kp.t14, kp.t15, gtst, st_len, lenV_sl, Int.toNat_natCast, bft, btf, mc.lm, mc.mB, nm, nm', hrd, hp, mapF_some, hjI, hj, j0, p0, p16, aI, hac, aC, hr2, hlk, q1', rN, hBo, nb, nb', nbm, nbm', pad, e_skip, e_ops, e_draw, d_none, d_nil, d_cons, d_ite, h_none, h_nil, h_cons, h_ite, eqS_same, lightV, e_seq, e_cond, e_block, e_exit, e_ret, s_normal, s_ret, s_exit, s_none, s_ite, b_normal, b_ret, b_exit, b_none, b_ite, c_bool, x_none, x_nil, x_cons, x_ite, p_some, p_none, p_ite, pt_some, pt_none, pv_some, pv_none, pv_ite, w_none, w_some, i_bool, i_undef, bt, bf, v_tmp, v_const, v_global, v_func, evs, f_normal, f_ret, f_none, f_ite, r_some, co_some, l_ptr, m_agg, m_one, sh_app, lk_nil, lk_cons, rd_eq, rdO_some, rdO_none, rdN_none, rdL_some, rdL_none, wrB_none, unitR_some, wr_nil, wr_here, wr_skip, k_cells, tk_zero, tk_take, tk_skip, tkC_some, call_func, gt, st, binV, arith, isSh, storeV, all1, idxAV, fieldV, faddrV, iaddrSV, iaddrAV, pickV, convV, unV, eqbV, eqpV, extV, mm2, mmV, nilckV, ress, res1, retV, Value.cells, cond_true, cond_false, Bool.true_or, Bool.false_or, Bool.or_true, Bool.or_false, beq_self_eq_true, if_true, if_false, ite_true, ite_false, decide_true, decide_false, decide_eq_true_eq, reduceIte, Nat.zero_add, Nat.add_zero, and_self, true_and, and_true, List.size_toArray, List.length_cons, List.length_nil, List.append_nil, List.nil_append, Int.toNat_zero, Bool.not_false, Bool.not_true, Bool.not_not, Bool.false_eq_true, Bool.true_eq_false, reduceCtorEq, Int.reduceLT, Int.reduceLE, Int.reduceToNat, Int.reduceAdd, Int.reduceSub, Int.reduceMul, Int.reduceNeg, Nat.reduceMul, Nat.reduceAdd, Nat.reduceSub, Nat.reduceBEq, Nat.reduceEqDiff, Nat.reduceLT, Nat.reduceLeDiff, Int.reduceBEq, Int.reduceEq, Nat.reducePow, Int.reducePow, IntWalk.i64_in, IntKind.bits, eqAV, eqL, leafEq, andO, fillV, buildSV, List.getElem?_toArray, List.getElem?_cons_zero, List.getElem?_cons_succ, List.getElem?_nil, Int.reduceGT, Int.reduceGE, Int.reduceBNe, Bool.true_and, Bool.and_true, Bool.false_and, Bool.and_false, Bool.and_self, IntWalk.u64_in, Int.cast_ofNat_Int, callF1, pad16, pad_0, pad_1, pad_2, pad_3, pad_4, pad_5, pad_6, pad_7, pad_8, pad_9, pad_10, pad_11, pad_12, pad_13, pad_14, pad_15, gc0, gc1, gc2, gc3, gc4, gc5, gc6, gc7, gc8, gc9, gc10, gc11, gc12, gc13, gc14, gc15, gcS, sc0, sc1, sc2, sc3, sc4, sc5, sc6, sc7, sc8, sc9, sc10, sc11, sc12, sc13, sc14, sc15, scS, List.drop_succ_cons, List.drop_nil, x_pan, s_pan, b_pan, pE_ret, pE_pan, pE_none, pE_ite, pvE_some, pvE_none, pvE_ite, rv_some, rv_none, rv_ite, oR_ret, t_mv, t_pick, t_alloc, t_box, t_build, t_buildS, t_load, t_store, t_nilck, t_bin, t_eqb, t_eqA, t_eqp, t_un, t_conv, t_field, t_idxA, t_faddr, t_iaddrS, t_iaddrA, t_ext, t_len, t_mm, t_call, t_ifc, t_fn, t_slc, t_slcA, t_slcT, t_tass, t_isn, t_mks, t_app, t_pan, panE_i, optE_none, optE_some, bnd_none, bnd_int, slA_none, slA_some, appR_some, appOld_cells, newsV_s, newsV_n, lenS_s, appV_nil, appV_some, mksV_i, sh_c, sh_g, f_pan, endD_ret, dfr_normal, dfr_ret, dfr_pan, restD_normal, callD1, callC1, tassV, isnV, slcV, slcAV, slcTV, slcB, appNew, Option.bind_some, Option.bind_none, d_pan, h_pan, wrH_eq, wrX_cells, wrU_some, upH_nil, upH_cons, lk_upH, effR_some, effR_none, effR_ite, Option.isNone_none, Option.isNone_some, slA_zero, call_yield, e_range, it_func, wy_same, y_call, isLp_self, beg_normal, end_normal, end_ret, end_exit, end_ite, aft_ret, aft_ready, aft_done, aft_exit, setP_cons, setP_nil, sh_r, t_mkmap, t_mlook, t_mupd, t_mdel, mapF_some, lookF_some, setM_some, lookR_t, lookR_n, lookR_f, lookR_fn, lookV, mupdV, mdelV, mkM]
        refine ok_some (.inr ⟨by simp, .inr ⟨rfl, ?_, ?_, ?_, good_new mc.g, fr_new mc.g mc.f 0, j, hj, hbad⟩⟩)
        all_goals simp -implicitDefEqProofs (maxSteps := 10000000) (disch := omega) only [T11, L11, hB, hR, hI, lb11, kp.l, kp.t0, kp.t2, kp.t3, kp.t4, kp.t13, kp.t14, kp.t15, gtst, st_len, lenV_sl, Int.toNat_natCast, bft, btf, mc.lm, mc.mB, nm, nm', hrd, hp, mapF_some, hjI, hj, j0, p0, p16, aI, hac, aC, hr2, hlk, q1', rN, hBo, nb, nb', nbm, nbm', pad, e_skip, e_ops, e_draw, d_none, d_nil, d_cons, d_ite, h_none, h_nil, h_cons, h_ite, eqS_same, lightV, e_seq, e_cond, e_block, e_exit, e_ret, s_normal, s_ret, s_exit, s_none, s_ite, b_normal, b_ret, b_exit, b_none, b_ite, c_bool, x_none, x_nil, x_cons, x_ite, p_some, p_none, p_ite, pt_some, pt_none, pv_some, pv_none, pv_ite, w_none, w_some, i_bool, i_undef, bt, bf, v_tmp, v_const, v_global, v_func, evs, f_normal, f_ret, f_none, f_ite, r_some, co_some, l_ptr, m_agg, m_one, sh_app, lk_nil, lk_cons, rd_eq, rdO_some, rdO_none, rdN_none, rdL_some, rdL_none, wrB_none, unitR_some, wr_nil, wr_here, wr_skip, k_cells, tk_zero, tk_take, tk_skip, tkC_some, call_func, gt, st, binV, arith, isSh, storeV, all1, idxAV, fieldV, faddrV, iaddrSV, iaddrAV, pickV, convV, unV, eqbV, eqpV, extV, mm2, mmV, nilckV, ress, res1, retV, Value.cells, cond_true, cond_false, Bool.true_or, Bool.false_or, Bool.or_true, Bool.or_false, beq_self_eq_true, if_true, if_false, ite_true, ite_false, decide_true, decide_false, decide_eq_true_eq, reduceIte, Nat.zero_add, Nat.add_zero, and_self, true_and, and_true, List.size_toArray, List.length_cons, List.length_nil, List.append_nil, List.nil_append, Int.toNat_zero, Bool.not_false, Bool.not_true, Bool.not_not, Bool.false_eq_true, Bool.true_eq_false, reduceCtorEq, Int.reduceLT, Int.reduceLE, Int.reduceToNat, Int.reduceAdd, Int.reduceSub, Int.reduceMul, Int.reduceNeg, Nat.reduceMul, Nat.reduceAdd, Nat.reduceSub, Nat.reduceBEq, Nat.reduceEqDiff, Nat.reduceLT, Nat.reduceLeDiff, Int.reduceBEq, Int.reduceEq, Nat.reducePow, Int.reducePow, IntWalk.i64_in, IntKind.bits, eqAV, eqL, leafEq, andO, fillV, buildSV, List.getElem?_toArray, List.getElem?_cons_zero, List.getElem?_cons_succ, List.getElem?_nil, Int.reduceGT, Int.reduceGE, Int.reduceBNe, Bool.true_and, Bool.and_true, Bool.false_and, Bool.and_false, Bool.and_self, IntWalk.u64_in, Int.cast_ofNat_Int, callF1, pad16, pad_0, pad_1, pad_2, pad_3, pad_4, pad_5, pad_6, pad_7, pad_8, pad_9, pad_10, pad_11, pad_12, pad_13, pad_14, pad_15, gc0, gc1, gc2, gc3, gc4, gc5, gc6, gc7, gc8, gc9, gc10, gc11, gc12, gc13, gc14, gc15, gcS, sc0, sc1, sc2, sc3, sc4, sc5, sc6, sc7, sc8, sc9, sc10, sc11, sc12, sc13, sc14, sc15, scS, List.drop_succ_cons, List.drop_nil, x_pan, s_pan, b_pan, pE_ret, pE_pan, pE_none, pE_ite, pvE_some, pvE_none, pvE_ite, rv_some, rv_none, rv_ite, oR_ret, t_mv, t_pick, t_alloc, t_box, t_build, t_buildS, t_load, t_store, t_nilck, t_bin, t_eqb, t_eqA, t_eqp, t_un, t_conv, t_field, t_idxA, t_faddr, t_iaddrS, t_iaddrA, t_ext, t_len, t_mm, t_call, t_ifc, t_fn, t_slc, t_slcA, t_slcT, t_tass, t_isn, t_mks, t_app, t_pan, panE_i, optE_none, optE_some, bnd_none, bnd_int, slA_none, slA_some, appR_some, appOld_cells, newsV_s, newsV_n, lenS_s, appV_nil, appV_some, mksV_i, sh_c, sh_g, f_pan, endD_ret, dfr_normal, dfr_ret, dfr_pan, restD_normal, callD1, callC1, tassV, isnV, slcV, slcAV, slcTV, slcB, appNew, Option.bind_some, Option.bind_none, d_pan, h_pan, wrH_eq, wrX_cells, wrU_some, upH_nil, upH_cons, lk_upH, effR_some, effR_none, effR_ite, Option.isNone_none, Option.isNone_some, slA_zero, call_yield, e_range, it_func, wy_same, y_call, isLp_self, beg_normal, end_normal, end_ret, end_exit, end_ite, aft_ret, aft_ready, aft_done, aft_exit, setP_cons, setP_nil, sh_r, t_mkmap, t_mlook, t_mupd, t_mdel, mapF_some, lookF_some, setM_some, lookR_t, lookR_n, lookR_f, lookR_fn, lookV, mupdV, mdelV, mkM]
      by_cases q2 : ca.k = k
      case neg =>
        have q2' := beqI q2
        have hbad : cBad (cRun l.length l j).1 (cRun l.length l j).2 (l.getD j e0) := by
          unfold cBad
          exact by rw [hs, hx]; exact .inr (.inr (.inr (.inr ⟨a, ho, by simp only [hz]; exact fun h => q2 h.2.1⟩)))
        simp -implicitDefEqProofs (maxSteps := 10000000) (disch := omega) only [T11, L11, hB, hR, hI, lb11, kp.l, kp.t0, kp.t2, kp.t3, kp.t4, kp.t13, kp.t14, kp.t15, gtst, st_len, lenV_sl, Int.toNat_natCast, bft, btf, mc.lm, mc.mB, nm, nm', hrd, hp, mapF_some, hjI, hj, j0, p0, p16, aI, hac, aC, hr2, hlk, q1, q2', rN, hBo, nb, nb', nbm, nbm', pad, e_skip, e_ops, e_draw, d_none, d_nil, d_cons, d_ite, h_none, h_nil, h_cons, h_ite, eqS_same, lightV, e_seq, e_cond, e_block, e_exit, e_ret, s_normal, s_ret, s_exit, s_none, s_ite, b_normal, b_ret, b_exit, b_none, b_ite, c_bool, x_none, x_nil, x_cons, x_ite, p_some, p_none, p_ite, pt_some, pt_none, pv_some, pv_none, pv_ite, w_none, w_some, i_bool, i_undef, bt, bf, v_tmp, v_const, v_global, v_func, evs, f_normal, f_ret, f_none, f_ite, r_some, co_some, l_ptr, m_agg, m_one, sh_app, lk_nil, lk_cons, rd_eq, rdO_some, rdO_none, rdN_none, rdL_some, rdL_none, wrB_none, unitR_some, wr_nil, wr_here, wr_skip, k_cells, tk_zero, tk_take, tk_skip, tkC_some, call_func, gt, st, binV, arith, isSh, storeV, all1, idxAV, fieldV, faddrV, iaddrSV, iaddrAV, pickV, convV, unV, eqbV, eqpV, extV, mm2, mmV, nilckV, ress, res1, retV, Value.cells, cond_true, cond_false, Bool.true_or, Bool.false_or, Bool.or_true, Bool.or_false, beq_self_eq_true, if_true, if_false, ite_true, ite_false, decide_true, decide_false, decide_eq_true_eq, reduceIte, Nat.zero_add, Nat.add_zero, and_self, true_and, and_true, List.size_toArray, List.length_cons, List.length_nil, List.append_nil, List.nil_append, Int.toNat_zero, Bool.not_false, Bool.not_true, Bool.not_not, Bool.false_eq_true, Bool.true_eq_false, reduceCtorEq, Int.reduceLT, Int.reduceLE, Int.reduceToNat, Int.reduceAdd, Int.reduceSub, Int.reduceMul, Int.reduceNeg, Nat.reduceMul, Nat.reduceAdd, Nat.reduceSub, Nat.reduceBEq, Nat.reduceEqDiff, Nat.reduceLT, Nat.reduceLeDiff, Int.reduceBEq, Int.reduceEq, Nat.reducePow, Int.reducePow, IntWalk.i64_in, IntKind.bits, eqAV, eqL, leafEq, andO, fillV, buildSV, List.getElem?_toArray, List.getElem?_cons_zero, List.getElem?_cons_succ, List.getElem?_nil, Int.reduceGT, Int.reduceGE, Int.reduceBNe, Bool.true_and, Bool.and_true, Bool.false_and, Bool.and_false, Bool.and_self, IntWalk.u64_in, Int.cast_ofNat_Int, callF1, pad16, pad_0, pad_1, pad_2, pad_3, pad_4, pad_5, pad_6, pad_7, pad_8, pad_9, pad_10, pad_11, pad_12, pad_13, pad_14, pad_15, gc0, gc1, gc2, gc3, gc4, gc5, gc6, gc7, gc8, gc9, gc10, gc11, gc12, gc13, gc14, gc15, gcS, sc0, sc1, sc2, sc3, sc4, sc5, sc6, sc7, sc8, sc9, sc10, sc11, sc12, sc13, sc14, sc15, scS, List.drop_succ_cons, List.drop_nil, x_pan, s_pan, b_pan, pE_ret, pE_pan, pE_none, pE_ite, pvE_some, pvE_none, pvE_ite, rv_some, rv_none, rv_ite, oR_ret, t_mv, t_pick, t_alloc, t_box, t_build, t_buildS, t_load, t_store, t_nilck, t_bin, t_eqb, t_eqA, t_eqp, t_un, t_conv, t_field, t_idxA, t_faddr, t_iaddrS, t_iaddrA, t_ext, t_len, t_mm, t_call, t_ifc, t_fn, t_slc, t_slcA, t_slcT, t_tass, t_isn, t_mks, t_app, t_pan, panE_i, optE_none, optE_some, bnd_none, bnd_int, slA_none, slA_some, appR_some, appOld_cells, newsV_s, newsV_n, lenS_s, appV_nil, appV_some, mksV_i, sh_c, sh_g, f_pan, endD_ret, dfr_normal, dfr_ret, dfr_pan, restD_normal, callD1, callC1, tassV, isnV, slcV, slcAV, slcTV, slcB, appNew, Option.bind_some, Option.bind_none, d_pan, h_pan, wrH_eq, wrX_cells, wrU_some, upH_nil, upH_cons, lk_upH, effR_some, effR_none, effR_ite, Option.isNone_none, Option.isNone_some, slA_zero, call_yield, e_range, it_func, wy_same, y_call, isLp_self, beg_normal, end_normal, end_ret, end_exit, end_ite, aft_ret, aft_ready, aft_done, aft_exit, setP_cons, setP_nil, sh_r, t_mkmap, t_mlook, t_mupd, t_mdel, mapF_some, lookF_some, setM_some, lookR_t, lookR_n, lookR_f, lookR_fn, lookV, mupdV, mdelV, mkM]
        refine ok_some (.inr ⟨by simp, .inr ⟨rfl, ?_, ?_, ?_, good_new mc.g, fr_new mc.g mc.f 0, j, hj, hbad⟩⟩)
        all_goals simp -implicitDefEqProofs (maxSteps := 10000000) (disch := omega) only [T11, L11, hB, hR, hI, lb11, kp.l, kp.t0, kp.t2, kp.t3, kp.t4, kp.t13, kp.t14, kp.t15, gtst, st_len, lenV_sl, Int.toNat_natCast, bft, btf, mc.lm, mc.mB, nm, nm', hrd, hp, mapF_some, hjI, hj, j0, p0, p16, aI, hac, aC, hr2, hlk, q1, q2', rN, hBo, nb, nb', nbm, nbm', pad, e_skip, e_ops, e_draw, d_none, d_nil, d_cons, d_ite, h_none, h_nil, h_cons, h_ite, eqS_same, lightV, e_seq, e_cond, e_block, e_exit, e_ret, s_normal, s_ret, s_exit, s_none, s_ite, b_normal, b_ret, b_exit, b_none, b_ite, c_bool, x_none, x_nil, x_cons, x_ite, p_some, p_none, p_ite, pt_some, pt_none, pv_some, pv_none, pv_ite, w_none, w_some, i_bool, i_undef, bt, bf, v_tmp, v_const, v_global, v_func, evs, f_normal, f_ret, f_none, f_ite, r_some, co_some, l_ptr, m_agg, m_one, sh_app, lk_nil, lk_cons, rd_eq, rdO_some, rdO_none, rdN_none, rdL_some, rdL_none, wrB_none, unitR_some, wr_nil, wr_here, wr_skip, k_cells, tk_zero, tk_take, tk_skip, tkC_some, call_func, gt, st, binV, arith, isSh, storeV, all1, idxAV, fieldV, faddrV, iaddrSV, iaddrAV, pickV, convV, unV, eqbV, eqpV, extV, mm2, mmV, nilckV, ress, res1, retV, Value.cells, cond_true, cond_false, Bool.true_or, Bool.false_or, Bool.or_true, Bool.or_false, beq_self_eq_true, if_true, if_false, ite_true, ite_false, decide_true, decide_false, decide_eq_true_eq, reduceIte, Nat.zero_add, Nat.add_zero, and_self, true_and, and_true, List.size_toArray, List.length_cons, List.length_nil, List.append_nil, List.nil_append, Int.toNat_zero, Bool.not_false, Bool.not_true, Bool.not_not, Bool.false_eq_true, Bool.true_eq_false, reduceCtorEq, Int.reduceLT, Int.reduceLE, Int.reduceToNat, Int.reduceAdd, Int.reduceSub, Int.reduceMul, Int.reduceNeg, Nat.reduceMul, Nat.reduceAdd, Nat.reduceSub, Nat.reduceBEq, Nat.reduceEqDiff, Nat.reduceLT, Nat.reduceLeDiff, Int.reduceBEq, Int.reduceEq, Nat.reducePow, Int.reducePow, IntWalk.i64_in, IntKind.bits, eqAV, eqL, leafEq, andO, fillV, buildSV, List.getElem?_toArray, List.getElem?_cons_zero, List.getElem?_cons_succ, List.getElem?_nil, Int.reduceGT, Int.reduceGE, Int.reduceBNe, Bool.true_and, Bool.and_true, Bool.false_and, Bool.and_false, Bool.and_self, IntWalk.u64_in, Int.cast_ofNat_Int, callF1, pad16, pad_0, pad_1, pad_2, pad_3, pad_4, pad_5, pad_6, pad_7, pad_8, pad_9, pad_10, pad_11, pad_12, pad_13, pad_14, pad_15, gc0, gc1, gc2, gc3, gc4, gc5, gc6, gc7, gc8, gc9, gc10, gc11, gc12, gc13, gc14, gc15, gcS, sc0, sc1, sc2, sc3, sc4, sc5, sc6, sc7, sc8, sc9, sc10, sc11, sc12, sc13, sc14, sc15, scS, List.drop_succ_cons, List.drop_nil, x_pan, s_pan, b_pan, pE_ret, pE_pan, pE_none, pE_ite, pvE_some, pvE_none, pvE_ite, rv_some, rv_none, rv_ite, oR_ret, t_mv, t_pick, t_alloc, t_box, t_build, t_buildS, t_load, t_store, t_nilck, t_bin, t_eqb, t_eqA, t_eqp, t_un, t_conv, t_field, t_idxA, t_faddr, t_iaddrS, t_iaddrA, t_ext, t_len, t_mm, t_call, t_ifc, t_fn, t_slc, t_slcA, t_slcT, t_tass, t_isn, t_mks, t_app, t_pan, panE_i, optE_none, optE_some, bnd_none, bnd_int, slA_none, slA_some, appR_some, appOld_cells, newsV_s, newsV_n, lenS_s, appV_nil, appV_some, mksV_i, sh_c, sh_g, f_pan, endD_ret, dfr_normal, dfr_ret, dfr_pan, restD_normal, callD1, callC1, tassV, isnV, slcV, slcAV, slcTV, slcB, appNew, Option.bind_some, Option.bind_none, d_pan, h_pan, wrH_eq, wrX_cells, wrU_some, upH_nil, upH_cons, lk_upH, effR_some, effR_none, effR_ite, Option.isNone_none, Option.isNone_some, slA_zero, call_yield, e_range, it_func, wy_same, y_call, isLp_self, beg_normal, end_normal, end_ret, end_exit, end_ite, aft_ret, aft_ready, aft_done, aft_exit, setP_cons, setP_nil, sh_r, t_mkmap, t_mlook, t_mupd, t_mdel, mapF_some, lookF_some, setM_some, lookR_t, lookR_n, lookR_f, lookR_fn, lookV, mupdV, mdelV, mkM]
      by_cases q3 : ca.v = w
      case neg =>
        have q3' := beqI q3
        have hbad : cBad (cRun l.length l j).1 (cRun l.length l j).2 (l.getD j e0) := by
          unfold cBad
          exact by rw [hs, hx]; exact .inr (.inr (.inr (.inr ⟨a, ho, by simp only [hz]; exact fun h => q3 h.2.2⟩)))
        simp -implicitDefEqProofs (maxSteps := 10000000) (disch := omega) only [T11, L11, hB, hR, hI, lb11, kp.l, kp.t0, kp.t2, kp.t3, kp.t4, kp.t13, kp.t14, kp.t15, gtst, st_len, lenV_sl, Int.toNat_natCast, bft, btf, mc.lm, mc.mB, nm, nm', hrd, hp, mapF_some, hjI, hj, j0, p0, p16, aI, hac, aC, hr2, hlk, q1, q2, q3', rN, hBo, nb, nb', nbm, nbm', pad, e_skip, e_ops, e_draw, d_none, d_nil, d_cons, d_ite, h_none, h_nil, h_cons, h_ite, eqS_same, lightV, e_seq, e_cond, e_block, e_exit, e_ret, s_normal, s_ret, s_exit, s_none, s_ite, b_normal, b_ret, b_exit, b_none, b_ite, c_bool, x_none, x_nil, x_cons, x_ite, p_some, p_none, p_ite, pt_some, pt_none, pv_some, pv_none, pv_ite, w_none, w_some, i_bool, i_undef, bt, bf, v_tmp, v_const, v_global, v_func, evs, f_normal, f_ret, f_none, f_ite, r_some, co_some, l_ptr, m_agg, m_one, sh_app, lk_nil, lk_cons, rd_eq, rdO_some, rdO_none, rdN_none, rdL_some, rdL_none, wrB_none, unitR_some, wr_nil, wr_here, wr_skip, k_cells, tk_zero, tk_take, tk_skip, tkC_some, call_func, gt, st, binV, arith, isSh, storeV, all1, idxAV, fieldV, faddrV, iaddrSV, iaddrAV, pickV, convV, unV, eqbV, eqpV, extV, mm2, mmV, nilckV, ress, res1, retV, Value.cells, cond_true, cond_false, Bool.true_or, Bool.false_or, Bool.or_true, Bool.or_false, beq_self_eq_true, if_true, if_false, ite_true, ite_false, decide_true, decide_false, decide_eq_true_eq, reduceIte, Nat.zero_add, Nat.add_zero, and_self, true_and, and_true, List.size_toArray, List.length_cons, List.length_nil, List.append_nil, List.nil_append, Int.toNat_zero, Bool.not_false, Bool.not_true, Bool.not_not, Bool.false_eq_true, Bool.true_eq_false, reduceCtorEq, Int.reduceLT, Int.reduceLE, Int.reduceToNat, Int.reduceAdd, Int.reduceSub, Int.reduceMul, Int.reduceNeg, Nat.reduceMul, Nat.reduceAdd, Nat.reduceSub, Nat.reduceBEq, Nat.reduceEqDiff, Nat.reduceLT, Nat.reduceLeDiff, Int.reduceBEq, Int.reduceEq, Nat.reducePow, Int.reducePow, IntWalk.i64_in, IntKind.bits, eqAV, eqL, leafEq, andO, fillV, buildSV, List.getElem?_toArray, List.getElem?_cons_zero, List.getElem?_cons_succ, List.getElem?_nil, Int.reduceGT, Int.reduceGE, Int.reduceBNe, Bool.true_and, Bool.and_true, Bool.false_and, Bool.and_false, Bool.and_self, IntWalk.u64_in, Int.cast_ofNat_Int, callF1, pad16, pad_0, pad_1, pad_2, pad_3, pad_4, pad_5, pad_6, pad_7, pad_8, pad_9, pad_10, pad_11, pad_12, pad_13, pad_14, pad_15, gc0, gc1, gc2, gc3, gc4, gc5, gc6, gc7, gc8, gc9, gc10, gc11, gc12, gc13, gc14, gc15, gcS, sc0, sc1, sc2, sc3, sc4, sc5, sc6, sc7, sc8, sc9, sc10, sc11, sc12, sc13, sc14, sc15, scS, List.drop_succ_cons, List.drop_nil, x_pan, s_pan, b_pan, pE_ret, pE_pan, pE_none, pE_ite, pvE_some, pvE_none, pvE_ite, rv_some, rv_none, rv_ite, oR_ret, t_mv, t_pick, t_alloc, t_box, t_build, t_buildS, t_load, t_store, t_nilck, t_bin, t_eqb, t_eqA, t_eqp, t_un, t_conv, t_field, t_idxA, t_faddr, t_iaddrS, t_iaddrA, t_ext, t_len, t_mm, t_call, t_ifc, t_fn, t_slc, t_slcA, t_slcT, t_tass, t_isn, t_mks, t_app, t_pan, panE_i, optE_none, optE_some, bnd_none, bnd_int, slA_none, slA_some, appR_some, appOld_cells, newsV_s, newsV_n, lenS_s, appV_nil, appV_some, mksV_i, sh_c, sh_g, f_pan, endD_ret, dfr_normal, dfr_ret, dfr_pan, restD_normal, callD1, callC1, tassV, isnV, slcV, slcAV, slcTV, slcB, appNew, Option.bind_some, Option.bind_none, d_pan, h_pan, wrH_eq, wrX_cells, wrU_some, upH_nil, upH_cons, lk_upH, effR_some, effR_none, effR_ite, Option.isNone_none, Option.isNone_some, slA_zero, call_yield, e_range, it_func, wy_same, y_call, isLp_self, beg_normal, end_normal, end_ret, end_exit, end_ite, aft_ret, aft_ready, aft_done, aft_exit, setP_cons, setP_nil, sh_r, t_mkmap, t_mlook, t_mupd, t_mdel, mapF_some, lookF_some, setM_some, lookR_t, lookR_n, lookR_f, lookR_fn, lookV, mupdV, mdelV, mkM]
        refine ok_some (.inr ⟨by simp, .inr ⟨rfl, ?_, ?_, ?_, good_new mc.g, fr_new mc.g mc.f 0, j, hj, hbad⟩⟩)
        all_goals simp -implicitDefEqProofs (maxSteps := 10000000) (disch := omega) only [T11, L11, hB, hR, hI, lb11, kp.l, kp.t0, kp.t2, kp.t3, kp.t4, kp.t13, kp.t14, kp.t15, gtst, st_len, lenV_sl, Int.toNat_natCast, bft, btf, mc.lm, mc.mB, nm, nm', hrd, hp, mapF_some, hjI, hj, j0, p0, p16, aI, hac, aC, hr2, hlk, q1, q2, q3', rN, hBo, nb, nb', nbm, nbm', pad, e_skip, e_ops, e_draw, d_none, d_nil, d_cons, d_ite, h_none, h_nil, h_cons, h_ite, eqS_same, lightV, e_seq, e_cond, e_block, e_exit, e_ret, s_normal, s_ret, s_exit, s_none, s_ite, b_normal, b_ret, b_exit, b_none, b_ite, c_bool, x_none, x_nil, x_cons, x_ite, p_some, p_none, p_ite, pt_some, pt_none, pv_some, pv_none, pv_ite, w_none, w_some, i_bool, i_undef, bt, bf, v_tmp, v_const, v_global, v_func, evs, f_normal, f_ret, f_none, f_ite, r_some, co_some, l_ptr, m_agg, m_one, sh_app, lk_nil, lk_cons, rd_eq, rdO_some, rdO_none, rdN_none, rdL_some, rdL_none, wrB_none, unitR_some, wr_nil, wr_here, wr_skip, k_cells, tk_zero, tk_take, tk_skip, tkC_some, call_func, gt, st, binV, arith, isSh, storeV, all1, idxAV, fieldV, faddrV, iaddrSV, iaddrAV, pickV, convV, unV, eqbV, eqpV, extV, mm2, mmV, nilckV, ress, res1, retV, Value.cells, cond_true, cond_false, Bool.true_or, Bool.false_or, Bool.or_true, Bool.or_false, beq_self_eq_true, if_true, if_false, ite_true, ite_false, decide_true, decide_false, decide_eq_true_eq, reduceIte, Nat.zero_add, Nat.add_zero, and_self, true_and, and_true, List.size_toArray, List.length_cons, List.length_nil, List.append_nil, List.nil_append, Int.toNat_zero, Bool.not_false, Bool.not_true, Bool.not_not, Bool.false_eq_true, Bool.true_eq_false, reduceCtorEq, Int.reduceLT, Int.reduceLE, Int.reduceToNat, Int.reduceAdd, Int.reduceSub, Int.reduceMul, Int.reduceNeg, Nat.reduceMul, Nat.reduceAdd, Nat.reduceSub, Nat.reduceBEq, Nat.reduceEqDiff, Nat.reduceLT, Nat.reduceLeDiff, Int.reduceBEq, Int.reduceEq, Nat.reducePow, Int.reducePow, IntWalk.i64_in, IntKind.bits, eqAV, eqL, leafEq, andO, fillV, buildSV, List.getElem?_toArray, List.getElem?_cons_zero, List.getElem?_cons_succ, List.getElem?_nil, Int.reduceGT, Int.reduceGE, Int.reduceBNe, Bool.true_and, Bool.and_true, Bool.false_and, Bool.and_false, Bool.and_self, IntWalk.u64_in, Int.cast_ofNat_Int, callF1, pad16, pad_0, pad_1, pad_2, pad_3, pad_4, pad_5, pad_6, pad_7, pad_8, pad_9, pad_10, pad_11, pad_12, pad_13, pad_14, pad_15, gc0, gc1, gc2, gc3, gc4, gc5, gc6, gc7, gc8, gc9, gc10, gc11, gc12, gc13, gc14, gc15, gcS, sc0, sc1, sc2, sc3, sc4, sc5, sc6, sc7, sc8, sc9, sc10, sc11, sc12, sc13, sc14, sc15, scS, List.drop_succ_cons, List.drop_nil, x_pan, s_pan, b_pan, pE_ret, pE_pan, pE_none, pE_ite, pvE_some, pvE_none, pvE_ite, rv_some, rv_none, rv_ite, oR_ret, t_mv, t_pick, t_alloc, t_box, t_build, t_buildS, t_load, t_store, t_nilck, t_bin, t_eqb, t_eqA, t_eqp, t_un, t_conv, t_field, t_idxA, t_faddr, t_iaddrS, t_iaddrA, t_ext, t_len, t_mm, t_call, t_ifc, t_fn, t_slc, t_slcA, t_slcT, t_tass, t_isn, t_mks, t_app, t_pan, panE_i, optE_none, optE_some, bnd_none, bnd_int, slA_none, slA_some, appR_some, appOld_cells, newsV_s, newsV_n, lenS_s, appV_nil, appV_some, mksV_i, sh_c, sh_g, f_pan, endD_ret, dfr_normal, dfr_ret, dfr_pan, restD_normal, callD1, callC1, tassV, isnV, slcV, slcAV, slcTV, slcB, appNew, Option.bind_some, Option.bind_none, d_pan, h_pan, wrH_eq, wrX_cells, wrU_some, upH_nil, upH_cons, lk_upH, effR_some, effR_none, effR_ite, Option.isNone_none, Option.isNone_some, slA_zero, call_yield, e_range, it_func, wy_same, y_call, isLp_self, beg_normal, end_normal, end_ret, end_exit, end_ite, aft_ret, aft_ready, aft_done, aft_exit, setP_cons, setP_nil, sh_r, t_mkmap, t_mlook, t_mupd, t_mdel, mapF_some, lookF_some, setM_some, lookR_t, lookR_n, lookR_f, lookR_fn, lookV, mupdV, mdelV, mkM]
      subst q1 q2 q3
      have hnb : ¬ cBad om C ⟨p, false, ca.c, ca.k, ca.v, e, r⟩ := by
        unfold cBad
        rintro (h | h | h | h | ⟨a', h, h'⟩)
        · exact p0 h
        · exact p16 h
        · simp [ho] at h
        · cases h.1
        · simp only [ho] at h
          obtain rfl := Option.some.inj h
          exact h' (by simp only [hz]; exact ⟨trivial, trivial, trivial⟩)
      have hrun : cRun l.length l (j + 1) = (upd om p none, C.set a (fin j ⟨p, false, ca.c, ca.k, ca.v, e, r⟩ ca)) := by rw [hrun]; simp only [cStep, ho, hz]
      have w1 : wr (fl cl9 C) (a * 9 + 4) [.int .i64 e, .int .u64 r] = some (fl cl9 (C.set a { ca with e := e, r := r })) := wr_fl cl9_len C a 4 _ z0 _ hac (by simp) (by rw [hz]; rfl)
      have w2 : wr (fl cl9 (C.set a { ca with e := e, r := r })) (a * 9 + 7) [.int .i64 (j : Int)] = some (fl cl9 (C.set a { ca with e := e, r := r, t := (j : Int) })) := by
        rw [wr_fl cl9_len (C.set a { ca with e := e, r := r }) a 7 _ z0 { ca with e := e, r := r, t := (j : Int) } (by simpa using hac) (by simp) (by rw [getD_set _ _ _ _ _ hac, if_pos rfl]; rfl), List.set_set]
      have w3 : wr (fl cl9 (C.set a { ca with e := e, r := r, t := (j : Int) })) (a * 9 + 8) [.bool true] = some (fl cl9 (C.set a (fin j ⟨p, false, ca.c, ca.k, ca.v, e, r⟩ ca))) := by
        rw [wr_fl cl9_len (C.set a { ca with e := e, r := r, t := (j : Int) }) a 8 _ z0 (fin j ⟨p, false, ca.c, ca.k, ca.v, e, r⟩ ca) (by simpa using hac) (by simp) (by rw [getD_set _ _ _ _ _ hac, if_pos rfl]; rfl), List.set_set]
      simp -implicitDefEqProofs (maxSteps := 10000000) (disch := omega) only [T11, L11, hB, hR, hI, lb11, kp.l, kp.t0, kp.t2, kp.t3, kp.t4, kp.t13, kp.t14, kp.t15, gtst, st_len, lenV_sl, Int.toNat_natCast, bft, btf, mc.lm, mc.mB, nm, nm', hrd, hp, mapF_some, hjI, hj, j0, p0, p16, aI, hac, aC, hr2, hlk, rN, hBo, nb, nb', nbm, nbm', w1, w2, w3, pad, e_skip, e_ops, e_draw, d_none, d_nil, d_cons, d_ite, h_none, h_nil, h_cons, h_ite, eqS_same, lightV, e_seq, e_cond, e_block, e_exit, e_ret, s_normal, s_ret, s_exit, s_none, s_ite, b_normal, b_ret, b_exit, b_none, b_ite, c_bool, x_none, x_nil, x_cons, x_ite, p_some, p_none, p_ite, pt_some, pt_none, pv_some, pv_none, pv_ite, w_none, w_some, i_bool, i_undef, bt, bf, v_tmp, v_const, v_global, v_func, evs, f_normal, f_ret, f_none, f_ite, r_some, co_some, l_ptr, m_agg, m_one, sh_app, lk_nil, lk_cons, rd_eq, rdO_some, rdO_none, rdN_none, rdL_some, rdL_none, wrB_none, unitR_some, wr_nil, wr_here, wr_skip, k_cells, tk_zero, tk_take, tk_skip, tkC_some, call_func, gt, st, binV, arith, isSh, storeV, all1, idxAV, fieldV, faddrV, iaddrSV, iaddrAV, pickV, convV, unV, eqbV, eqpV, extV, mm2, mmV, nilckV, ress, res1, retV, Value.cells, cond_true, cond_false, Bool.true_or, Bool.false_or, Bool.or_true, Bool.or_false, beq_self_eq_true, if_true, if_false, ite_true, ite_false, decide_true, decide_false, decide_eq_true_eq, reduceIte, Nat.zero_add, Nat.add_zero, and_self, true_and, and_true, List.size_toArray, List.length_cons, List.length_nil, List.append_nil, List.nil_append, Int.toNat_zero, Bool.not_false, Bool.not_true, Bool.not_not, Bool.false_eq_true, Bool.true_eq_false, reduceCtorEq, Int.reduceLT, Int.reduceLE, Int.reduceToNat, Int.reduceAdd, Int.reduceSub, Int.reduceMul, Int.reduceNeg, Nat.reduceMul, Nat.reduceAdd, Nat.reduceSub, Nat.reduceBEq, Nat.reduceEqDiff, Nat.reduceLT, Nat.reduceLeDiff, Int.reduceBEq, Int.reduceEq, Nat.reducePow, Int.reducePow, IntWalk.i64_in, IntKind.bits, eqAV, eqL, leafEq, andO, fillV, buildSV, List.getElem?_toArray, List.getElem?_cons_zero, List.getElem?_cons_succ, List.getElem?_nil, Int.reduceGT, Int.reduceGE, Int.reduceBNe, Bool.true_and, Bool.and_true, Bool.false_and, Bool.and_false, Bool.and_self, IntWalk.u64_in, Int.cast_ofNat_Int, callF1, pad16, pad_0, pad_1, pad_2, pad_3, pad_4, pad_5, pad_6, pad_7, pad_8, pad_9, pad_10, pad_11, pad_12, pad_13, pad_14, pad_15, gc0, gc1, gc2, gc3, gc4, gc5, gc6, gc7, gc8, gc9, gc10, gc11, gc12, gc13, gc14, gc15, gcS, sc0, sc1, sc2, sc3, sc4, sc5, sc6, sc7, sc8, sc9, sc10, sc11, sc12, sc13, sc14, sc15, scS, List.drop_succ_cons, List.drop_nil, x_pan, s_pan, b_pan, pE_ret, pE_pan, pE_none, pE_ite, pvE_some, pvE_none, pvE_ite, rv_some, rv_none, rv_ite, oR_ret, t_mv, t_pick, t_alloc, t_box, t_build, t_buildS, t_load, t_store, t_nilck, t_bin, t_eqb, t_eqA, t_eqp, t_un, t_conv, t_field, t_idxA, t_faddr, t_iaddrS, t_iaddrA, t_ext, t_len, t_mm, t_call, t_ifc, t_fn, t_slc, t_slcA, t_slcT, t_tass, t_isn, t_mks, t_app, t_pan, panE_i, optE_none, optE_some, bnd_none, bnd_int, slA_none, slA_some, appR_some, appOld_cells, newsV_s, newsV_n, lenS_s, appV_nil, appV_some, mksV_i, sh_c, sh_g, f_pan, endD_ret, dfr_normal, dfr_ret, dfr_pan, restD_normal, callD1, callC1, tassV, isnV, slcV, slcAV, slcTV, slcB, appNew, Option.bind_some, Option.bind_none, d_pan, h_pan, wrH_eq, wrX_cells, wrU_some, upH_nil, upH_cons, lk_upH, effR_some, effR_none, effR_ite, Option.isNone_none, Option.isNone_some, slA_zero, call_yield, e_range, it_func, wy_same, y_call, isLp_self, beg_normal, end_normal, end_ret, end_exit, end_ite, aft_ret, aft_ready, aft_done, aft_exit, setP_cons, setP_nil, sh_r, t_mkmap, t_mlook, t_mupd, t_mdel, mapF_some, lookF_some, setM_some, lookR_t, lookR_n, lookR_f, lookR_fn, lookV, mupdV, mdelV, mkM]
      have hfx : ∀ c', c' = (fin j ⟨p, false, ca.c, ca.k, ca.v, e, r⟩ ca) → SlN cl9 9 B H0 ((m, .map .i64 (mf (upd om p none))) :: (N.n 0, .cells [.int .i64 p, .bool false, .int .i64 ca.c, .int .u64 ca.k, .int .u64 ca.v, .int .i64 e, .int .u64 r] 7) :: upH (upH (upH H bo (.cells (fl cl9 (C.set a { ca with e := e, r := r })) (co * 9))) bo (.cells (fl cl9 (C.set a { ca with e := e, r := r, t := (j : Int) })) (co * 9))) bo (.cells (fl cl9 (C.set a c')) (co * 9))) (.slice (some ⟨bo, 0, none⟩) C.length co) (C.set a c') := fun c' _ => by
        refine .inr ⟨bo, co, by rw [List.length_set], hBo, h0o, by rw [List.length_set]; exact hle, ?_⟩
        rw [lk_cons, nbm', cond_false, lk_cons, nb, cond_false, lk_upH, beq_self_eq_true, cond_true]
      have m4 := hfx _ rfl
      rw [mf_del]
      have u0 : lk H bo = some (.cells (fl cl9 C) (co * 9)) := hlk
      have g1 := good_new (k := .cells [.int .i64 p, .bool false, .int .i64 ca.c, .int .u64 ca.k, .int .u64 ca.v, .int .i64 e, .int .u64 r] 7) hN
      refine ok_some (.inl ⟨rfl, l.length - (j + 1), by omega, _, _, _, .slice (some ⟨bo, 0, none⟩) C.length co, j + 1, rfl, ⟨?_, ?_, ?_, ?_, ?_, ?_, ?_, ?_⟩, ?_, hgd' hnb, by omega, rfl⟩)
      iterate 8 simp -implicitDefEqProofs (maxSteps := 10000000) (disch := omega) only [T11, L11, hB, hR, hI, lb11, kp.l, kp.t0, kp.t2, kp.t3, kp.t4, kp.t13, kp.t14, kp.t15, gtst, st_len, lenV_sl, Int.toNat_natCast, bft, btf, hc1, pad, e_skip, e_ops, e_draw, d_none, d_nil, d_cons, d_ite, h_none, h_nil, h_cons, h_ite, eqS_same, lightV, e_seq, e_cond, e_block, e_exit, e_ret, s_normal, s_ret, s_exit, s_none, s_ite, b_normal, b_ret, b_exit, b_none, b_ite, c_bool, x_none, x_nil, x_cons, x_ite, p_some, p_none, p_ite, pt_some, pt_none, pv_some, pv_none, pv_ite, w_none, w_some, i_bool, i_undef, bt, bf, v_tmp, v_const, v_global, v_func, evs, f_normal, f_ret, f_none, f_ite, r_some, co_some, l_ptr, m_agg, m_one, sh_app, lk_nil, lk_cons, rd_eq, rdO_some, rdO_none, rdN_none, rdL_some, rdL_none, wrB_none, unitR_some, wr_nil, wr_here, wr_skip, k_cells, tk_zero, tk_take, tk_skip, tkC_some, call_func, gt, st, binV, arith, isSh, storeV, all1, idxAV, fieldV, faddrV, iaddrSV, iaddrAV, pickV, convV, unV, eqbV, eqpV, extV, mm2, mmV, nilckV, ress, res1, retV, Value.cells, cond_true, cond_false, Bool.true_or, Bool.false_or, Bool.or_true, Bool.or_false, beq_self_eq_true, if_true, if_false, ite_true, ite_false, decide_true, decide_false, decide_eq_true_eq, reduceIte, Nat.zero_add, Nat.add_zero, and_self, true_and, and_true, List.size_toArray, List.length_cons, List.length_nil, List.append_nil, List.nil_append, Int.toNat_zero, Bool.not_false, Bool.not_true, Bool.not_not, Bool.false_eq_true, Bool.true_eq_false, reduceCtorEq, Int.reduceLT, Int.reduceLE, Int.reduceToNat, Int.reduceAdd, Int.reduceSub, Int.reduceMul, Int.reduceNeg, Nat.reduceMul, Nat.reduceAdd, Nat.reduceSub, Nat.reduceBEq, Nat.reduceEqDiff, Nat.reduceLT, Nat.reduceLeDiff, Int.reduceBEq, Int.reduceEq, Nat.reducePow, Int.reducePow, IntWalk.i64_in, IntKind.bits, eqAV, eqL, leafEq, andO, fillV, buildSV, List.getElem?_toArray, List.getElem?_cons_zero, List.getElem?_cons_succ, List.getElem?_nil, Int.reduceGT, Int.reduceGE, Int.reduceBNe, Bool.true_and, Bool.and_true, Bool.false_and, Bool.and_false, Bool.and_self, IntWalk.u64_in, Int.cast_ofNat_Int, callF1, pad16, pad_0, pad_1, pad_2, pad_3, pad_4, pad_5, pad_6, pad_7, pad_8, pad_9, pad_10, pad_11, pad_12, pad_13, pad_14, pad_15, gc0, gc1, gc2, gc3, gc4, gc5, gc6, gc7, gc8, gc9, gc10, gc11, gc12, gc13, gc14, gc15, gcS, sc0, sc1, sc2, sc3, sc4, sc5, sc6, sc7, sc8, sc9, sc10, sc11, sc12, sc13, sc14, sc15, scS, List.drop_succ_cons, List.drop_nil, x_pan, s_pan, b_pan, pE_ret, pE_pan, pE_none, pE_ite, pvE_some, pvE_none, pvE_ite, rv_some, rv_none, rv_ite, oR_ret, t_mv, t_pick, t_alloc, t_box, t_build, t_buildS, t_load, t_store, t_nilck, t_bin, t_eqb, t_eqA, t_eqp, t_un, t_conv, t_field, t_idxA, t_faddr, t_iaddrS, t_iaddrA, t_ext, t_len, t_mm, t_call, t_ifc, t_fn, t_slc, t_slcA, t_slcT, t_tass, t_isn, t_mks, t_app, t_pan, panE_i, optE_none, optE_some, bnd_none, bnd_int, slA_none, slA_some, appR_some, appOld_cells, newsV_s, newsV_n, lenS_s, appV_nil, appV_some, mksV_i, sh_c, sh_g, f_pan, endD_ret, dfr_normal, dfr_ret, dfr_pan, restD_normal, callD1, callC1, tassV, isnV, slcV, slcAV, slcTV, slcB, appNew, Option.bind_some, Option.bind_none, d_pan, h_pan, wrH_eq, wrX_cells, wrU_some, upH_nil, upH_cons, lk_upH, effR_some, effR_none, effR_ite, Option.isNone_none, Option.isNone_some, slA_zero, call_yield, e_range, it_func, wy_same, y_call, isLp_self, beg_normal, end_normal, end_ret, end_exit, end_ite, aft_ret, aft_ready, aft_done, aft_exit, setP_cons, setP_nil, sh_r, t_mkmap, t_mlook, t_mupd, t_mdel, mapF_some, lookF_some, setM_some, lookR_t, lookR_n, lookR_f, lookR_fn, lookV, mupdV, mdelV, mkM]
      rw [hrun]
      have hin : ∀ k1 k2 k3 : KB, ((N.n 0, KB.cells [.int .i64 p, .bool false, .int .i64 ca.c, .int .u64 ca.k, .int .u64 ca.v, .int .i64 e, .int .u64 r] 7) :: upH (upH (upH H bo k1) bo k2) bo k3) = upH (upH (upH ((N.n 0, KB.cells [.int .i64 p, .bool false, .int .i64 ca.c, .int .u64 ca.k, .int .u64 ca.v, .int .i64 e, .int .u64 r] 7) :: H) bo k1) bo k2) bo k3 := fun k1 k2 k3 => by simp only [upH_cons, nb, cond_false]
      refine ⟨?_, ?_, by rw [lk_cons, beq_self_eq_true, cond_true], mc.mB, mc.m0, m4, fun h => by rw [show bo = m from Option.some.inj h] at nbm; simp at nbm⟩
      · rw [hin]
        refine good_set (good_up (good_up (good_up g1 hBo (by rw [lk_cons, nb, cond_false]; exact hlk)) hBo (by rw [lk_upH, beq_self_eq_true, cond_true])) hBo (by rw [lk_upH, beq_self_eq_true, cond_true])) mc.mB (k' := .map .i64 (mf om)) ?_
        simp only [lk_upH, nbm, cond_false, lk_cons, nm]
        exact mc.lm
      · exact fr_set (by rw [hin]; exact fr_up (fr_up (fr_up (fr_new hN mc.f 0) h0o) h0o) h0o) mc.m0
end Go.Proofs.Ytkohdcjeankhkaa
