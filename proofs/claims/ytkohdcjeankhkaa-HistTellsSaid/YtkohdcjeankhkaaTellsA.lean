/- The statement HistTells of layer 20: whatever the input, it answers true and leaves its input as it was. First the mathematics, and what the document's Calls answers. -/
import Derived.Test.YtkohdcjeankhkaaOwnD
set_option linter.unusedSimpArgs false
set_option linter.unusedVariables false
namespace Go.Proofs.Ytkohdcjeankhkaa
open Go.Proofs.Ytkohdcjeankhkaa.K
/-! ### More about raw histories -/
theorem gMany_le (w : List R3) : gMany w ≤ 30 ∧ gMany w ≤ w.length := by unfold gMany; omega
theorem g_err (w : List R3) : cErr (gEvs w) = 0 := cErr_fine (by rw [gEvs_len]; have := gMany_le w; omega) (by rw [gEvs_len]; exact gFine w)
theorem g_cls (w : List R3) : cls (gEvs w) = gCls w := by rw [cls_fine (g_err w), gEvs_len]; rfl
theorem gCls_len (w : List R3) : (gCls w).length ≤ 30 := by
  have := cLen (gMany w) (gEvs w) (gMany w)
  have := gMany_le w
  unfold gCls; omega
theorem gEvs_p {w : List R3} {i : Nat} {x : Ev} (h : (gEvs w)[i]? = some x) : 0 ≤ x.p ∧ x.p < 5 := by
  have hi : i < gMany w := by have := (List.getElem?_eq_some_iff.1 h).1; rwa [gEvs_len] at this
  have hb := pk_b (x := (w.getD i (0, 0, 0)).1) (n := 5) (by omega)
  have := gEvs_at w i hi
  rw [getD_some h] at this
  split at this <;> (subst this; exact hb)
/-! ### How many are under way -/
def unw (i : Int) (c : Cl) : Bool := decide (c.f ≤ i) && decide (i < c.t)
def cnt (C : List Cl) (i : Int) : Nat := C.countP (unw i)
theorem countP_one {α : Type} {p q : α → Bool} : ∀ {l : List α} {a : Nat} {c : α}, l[a]? = some c → p c = false → q c = true → (∀ b d, b ≠ a → l[b]? = some d → p d = q d) → l.countP q = l.countP p + 1
  | x :: l, 0, c, h, hp, hq, ho => by
    obtain rfl : x = c := by simpa using h
    have : l.countP q = l.countP p := List.countP_congr fun d hd => by
      obtain ⟨b, hb⟩ := List.getElem?_of_mem hd
      rw [ho (b + 1) d (by omega) (by simpa using hb)]
    simp [List.countP_cons, hp, hq, this]
  | x :: l, a + 1, c, h, hp, hq, ho => by
    have ih := countP_one (l := l) (a := a) (c := c) (by simpa using h) hp hq (fun b d hb hd => ho (b + 1) d (by omega) (by simpa using hd))
    have hx := ho 0 x (by omega) rfl
    simp only [List.countP_cons, ih, hx]; omega
  | [], a, c, h, _, _, _ => by simp at h
section
variable {n : Nat} {l : List Ev} {o : Om} {C : List Cl}
theorem Inv.f_inj {j : Nat} (h : Inv n l j o C) {a b : Nat} {c d : Cl} (hc : C[a]? = some c) (hd : C[b]? = some d) (e : c.f = d.f) : a = b := by
  rcases Nat.lt_trichotomy a b with h' | h' | h'
  · have := h.mo a b c d hc hd h'; omega
  · exact h'
  · have := h.mo b a d c hd hc h'; omega
theorem Inv.t_inj {j : Nat} (h : Inv n l j o C) {a b : Nat} {c d : Cl} (hc : C[a]? = some c) (hd : C[b]? = some d) (dc : c.d = true) (dd : d.d = true) (e : c.t = d.t) : a = b := by
  obtain ⟨i, e1, e2, e3, e4⟩ := h.dn a c hc dc
  obtain ⟨i', f1, f2, f3, f4⟩ := h.dn b d hd dd
  obtain rfl : i = i' := by omega
  rw [e4] at f4
  have hp : c.p = d.p := by injection f4 with f4; injection f4
  rcases Nat.lt_trichotomy a b with h' | h' | h'
  · have := (h.se a b c d hc hd h' hp).2; omega
  · exact h'
  · have := (h.se b a d c hd hc h' hp.symm).2; omega
theorem Inv.f_ne {j : Nat} (h : Inv n l j o C) {a b : Nat} {c d : Cl} (hc : C[a]? = some c) (hd : C[b]? = some d) (dd : d.d = true) : c.f ≠ d.t := fun e => by
  obtain ⟨i, e1, e2, e4⟩ := h.fr a c hc
  obtain ⟨i', f1, f2, f3, f4⟩ := h.dn b d hd dd
  obtain rfl : i = i' := by omega
  rw [e4] at f4
  injection f4 with f4
  injection f4 with _ f5
  cases f5
theorem cnt_step (h : Inv n l n o C) (i : Nat) (hi : i < n) : (cnt C (i : Int) : Int) = (cnt C ((i : Int) - 1) : Int) + (if (l.getD i e0).b = true then 1 else -1) := by
  obtain ⟨a, c, hc, h1⟩ := h.al i hi
  obtain ⟨q, q1, q2, q3⟩ := h.fr a c hc
  rcases h1 with h1 | ⟨hd, h1⟩
  · obtain rfl : q = i := by omega
    rw [getD_some q3]
    have ht : c.t > q := by
      cases hd : c.d with
      | true => obtain ⟨i', e1, e2, _⟩ := h.dn a c hc hd; omega
      | false => have := (h.nd a c hc hd).1; omega
    have := countP_one (p := unw ((q : Int) - 1)) (q := unw (q : Int)) hc (by simp [unw]; omega) (by simp [unw]; omega) (fun b d hb hd => by
      have f1 : d.f ≠ q := fun e => hb (h.f_inj hd hc (by omega))
      have t1 : d.t ≠ q := fun e => by
        cases dd : d.d with
        | true => exact h.f_ne hc hd dd (by omega)
        | false => have := (h.nd b d hd dd).1; omega
      have e1 : decide (d.f ≤ (q : Int) - 1) = decide (d.f ≤ q) := by rw [decide_eq_decide]; omega
      have e2 : decide ((q : Int) - 1 < d.t) = decide ((q : Int) < d.t) := by rw [decide_eq_decide]; omega
      simp only [unw, e1, e2])
    unfold cnt
    simp only [if_true]
    omega
  · obtain ⟨i', e1, e2, e3, e4⟩ := h.dn a c hc hd
    obtain rfl : i' = i := by omega
    rw [getD_some e4]
    have := countP_one (p := unw (i' : Int)) (q := unw ((i' : Int) - 1)) hc (by simp [unw]; omega) (by simp [unw]; omega) (fun b d hb hd' => by
      have f1 : d.f ≠ i' := fun e => h.f_ne hd' hc hd (by omega)
      have t1 : d.t ≠ i' := fun e => by
        cases dd : d.d with
        | true => exact hb (h.t_inj hd' hc dd hd (by omega))
        | false => have := (h.nd b d hd' dd).1; omega
      have e1 : decide (d.f ≤ (i' : Int) - 1) = decide (d.f ≤ i') := by rw [decide_eq_decide]; omega
      have e2 : decide ((i' : Int) - 1 < d.t) = decide ((i' : Int) < d.t) := by rw [decide_eq_decide]; omega
      simp only [unw, e1, e2])
    unfold cnt
    simp only [Bool.false_eq_true, if_false]
    omega
theorem cnt_run (h : Inv n l n o C) : ∀ j, j ≤ n → (wRun l j).1 = (cnt C ((j : Int) - 1) : Int)
  | 0, _ => by
    have : cnt C ((0 : Nat) - 1 : Int) = 0 := by
      unfold cnt
      rw [List.countP_eq_zero]
      intro c hc
      obtain ⟨a, ha⟩ := List.getElem?_of_mem hc
      obtain ⟨i, e1, _⟩ := h.fr a c ha
      simp [unw]; omega
    rw [this]; rfl
  | j + 1, hj => by
    have ih := cnt_run h j (by omega)
    have hs := cnt_step h j (by omega)
    have e : ((j + 1 : Nat) : Int) - 1 = j := by omega
    rw [e, hs, ← ih]
    simp only [wRun]
    split <;> rfl
theorem wid_step (h : Inv n l n o C) (j : Nat) (hj : j < n) : (wRun l (j + 1)).2 = if (cnt C (j : Int) : Int) > (wRun l j).2 then (cnt C (j : Int) : Int) else (wRun l j).2 := by
  have := cnt_run h (j + 1) (by omega)
  rw [show ((j + 1 : Nat) : Int) - 1 = j by omega] at this
  rw [← this]; rfl
theorem wRun_mono (l : List Ev) (j : Nat) : ∀ d, (wRun l j).2 ≤ (wRun l (j + d)).2
  | 0 => by simp
  | d + 1 => by
    have := wRun_mono l j d
    show _ ≤ (wRun l (j + d + 1)).2
    simp only [wRun]
    split <;> split <;> omega
theorem wRun_take (l : List Ev) (k : Nat) : ∀ j, j ≤ k → wRun (l.take k) j = wRun l j
  | 0, _ => rfl
  | j + 1, h => by
    have ih := wRun_take l k j (by omega)
    have : (l.take k).getD j e0 = l.getD j e0 := by
      rw [List.getD_eq_getElem?_getD, List.getD_eq_getElem?_getD, List.getElem?_take, if_pos (by omega)]
    simp only [wRun, ih, this]
end
theorem pig : ∀ (m : Nat) (L : List Nat), L.Nodup → (∀ x ∈ L, x < m) → L.length ≤ m
  | 0, L, _, h => by
    cases L with
    | nil => simp
    | cons x L => have := h x List.mem_cons_self; omega
  | m + 1, L, hn, h => by
    by_cases hm : m ∈ L
    · have h1 := pig m (L.erase m) (hn.erase m) (fun x hx => by
        have h2 := h x (List.mem_of_mem_erase hx)
        have hne : x ≠ m := (hn.mem_erase_iff.1 hx).1
        omega)
      rw [List.length_erase_of_mem hm] at h1; omega
    · have := pig m L hn (fun x hx => by
        have h1 := h x hx
        have h2 : x ≠ m := fun e => hm (e ▸ hx)
        omega)
      omega
theorem cnt_five {w : List R3} (i : Int) : cnt (gCls w) i ≤ 5 := by
  have h := gInv w
  have hp : ∀ c ∈ gCls w, 0 ≤ c.p ∧ c.p < 5 := fun c hc => by
    obtain ⟨a, ha⟩ := List.getElem?_of_mem hc
    obtain ⟨i, _, _, e⟩ := h.fr a c ha
    exact gEvs_p e
  unfold cnt
  rw [List.countP_eq_length_filter]
  have := pig 5 (((gCls w).filter (unw i)).map fun c => c.p.toNat) ?_ ?_
  · simpa using this
  · unfold List.Nodup
    rw [List.pairwise_map, List.pairwise_filter, List.pairwise_iff_getElem]
    intro a b ha hb hab u1 u2 e
    have p1 := hp _ (List.getElem_mem ha)
    have p2 := hp _ (List.getElem_mem hb)
    have := (h.se a b _ _ (List.getElem?_eq_getElem ha) (List.getElem?_eq_getElem hb) hab (by omega)).2
    simp only [unw, Bool.and_eq_true, decide_eq_true_eq] at u1 u2
    omega
  · intro x hx
    obtain ⟨c, hc, rfl⟩ := List.mem_map.1 hx
    have := hp c (List.mem_filter.1 hc).1
    omega
theorem g_wid (w : List R3) : wid (gEvs w) = (wRun (gEvs w) (gMany w)).2 := by rw [wid_fine (g_err w), gEvs_len]
theorem g_wid_step (w : List R3) (j : Nat) (hj : j < gMany w) : (wRun (gEvs w) (j + 1)).2 = if (cnt (gCls w) (j : Int) : Int) > (wRun (gEvs w) j).2 then (cnt (gCls w) (j : Int) : Int) else (wRun (gEvs w) j).2 := wid_step (gInv w) j hj
theorem g_wid5 (w : List R3) : ∀ j, j ≤ gMany w → 0 ≤ (wRun (gEvs w) j).2 ∧ (wRun (gEvs w) j).2 ≤ 5
  | 0, _ => by simp [wRun]
  | j + 1, hj => by
    have := g_wid5 w j (by omega)
    have h5 := cnt_five (w := w) (j : Int)
    rw [g_wid_step w j (by omega)]
    split <;> omega
theorem g_wid0 (w : List R3) : wid (gEvs w) = 0 ↔ gMany w = 0 := by
  constructor
  · intro h
    by_cases hm : gMany w = 0
    · exact hm
    · have h1 := g_wid_step w 0 (by omega)
      obtain ⟨a, c, hc, h2⟩ := (gInv w).al 0 (by omega)
      obtain ⟨q, q1, q2, _⟩ := (gInv w).fr a c hc
      have hf : c.f = 0 ∧ 0 < c.t := by
        cases hd : c.d with
        | true =>
          obtain ⟨i', e1, e2, _⟩ := (gInv w).dn a c hc hd
          rcases h2 with h2 | ⟨_, h2⟩ <;> omega
        | false =>
          have := ((gInv w).nd a c hc hd).1
          rcases h2 with h2 | ⟨h3, h2⟩
          · omega
          · rw [hd] at h3; cases h3
      have hpos : 0 < cnt (gCls w) 0 := by
        unfold cnt
        rw [List.countP_pos_iff]
        exact ⟨c, List.mem_of_getElem? hc, by simp [unw]; omega⟩
      have hm' := wRun_mono (gEvs w) 1 (gMany w - 1)
      rw [show 1 + (gMany w - 1) = gMany w by omega, ← g_wid, h] at hm'
      have z : (wRun (gEvs w) 0).2 = 0 := rfl
      rw [z, if_pos (by simpa using hpos)] at h1
      simp only [Nat.zero_add] at h1
      rw [h1] at hm'
      simp at hm'; omega
  · intro h
    rw [g_wid, h]; rfl
theorem gRun_take (w : List R3) (k : Nat) : ∀ j, j ≤ k → gRun (w.take k) j = gRun w j
  | 0, _ => rfl
  | j + 1, h => by
    have ih := gRun_take w k j (by omega)
    have : (w.take k).getD j (0, 0, 0) = w.getD j (0, 0, 0) := by
      rw [List.getD_eq_getElem?_getD, List.getD_eq_getElem?_getD, List.getElem?_take, if_pos (by omega)]
    simp only [gRun, ih, this]
theorem gEvs_take (w : List R3) (k : Nat) (hk : k ≤ gMany w) : (gEvs w).take k = gEvs (w.take k) := by
  have hm : gMany (w.take k) = k := by unfold gMany at hk ⊢; rw [List.length_take]; omega
  unfold gEvs
  rw [hm, gRun_take w k k (Nat.le_refl _)]
  have hl := gRun_len w k
  refine List.ext_getElem? fun i => ?_
  rcases Nat.lt_or_ge i k with h | h
  · rw [List.getElem?_take, if_pos h]
    have := gRun_pre w (gMany w - k) k i ((gRun w k).2.getD i e0) (some_getD (by omega))
    rw [show k + (gMany w - k) = gMany w by omega] at this
    rw [this]; exact (some_getD (by omega)).symm
  · rw [List.getElem?_eq_none (by rw [List.length_take]; omega), List.getElem?_eq_none (by omega)]
theorem g_wid_take (w : List R3) (k : Nat) (hk : k ≤ gMany w) : cErr ((gEvs w).take k) = 0 ∧ wid ((gEvs w).take k) ≤ wid (gEvs w) := by
  have he : cErr ((gEvs w).take k) = 0 := by rw [gEvs_take w k hk]; exact g_err _
  refine ⟨he, ?_⟩
  have hl : ((gEvs w).take k).length = k := by rw [List.length_take, gEvs_len]; omega
  rw [wid_fine he, hl, wRun_take _ _ _ (Nat.le_refl _), g_wid]
  have := wRun_mono (gEvs w) k (gMany w - k)
  rwa [show k + (gMany w - k) = gMany w by omega] at this
theorem cnt_take {C : List Cl} {q : Cl → Bool} {k : Nat} (h : k < C.length) : (C.take (k + 1)).countP q = if q (C.getD k z0) = true then (C.take k).countP q + 1 else (C.take k).countP q := by
  have : C.take (k + 1) = C.take k ++ [C.getD k z0] := by rw [List.take_add_one, some_getD (d := z0) h]; rfl
  rw [this, List.countP_append]
  generalize C.getD k z0 = x
  split <;> simp_all
theorem cnt_take_le {C : List Cl} {q : Cl → Bool} {k : Nat} : (C.take k).countP q ≤ k := by
  have h1 := List.countP_le_length (p := q) (l := C.take k)
  rw [List.length_take] at h1
  omega
theorem SlR.take {α : Type} {f : α → List Value} {sz : Nat} {B : OH} {H : HL} {a : Option Addr} {n cap k : Nat} {L : List α} (h : SlR f sz B H (.slice a n cap) L) (hk : k ≤ L.length) : SlR f sz B H (.slice a k cap) (L.take k) := by
  obtain ⟨a', cap', e, h2⟩ := h
  injection e with e1 e2 e3
  subst e1 e2 e3
  have hl : (L.take k).length = k := by rw [List.length_take]; omega
  refine ⟨a, cap, by rw [hl], h2.imp (fun h => by subst h; simp) ?_⟩
  rintro ⟨b, o, h3, h4, h5⟩
  refine ⟨b, o, h3, h4, fun H' hF i j n d hi hj => ?_⟩
  rw [h5 H' hF i j n d (by omega) hj]
  have : (L.take k).getD i d = L.getD i d := by
    rw [List.getD_eq_getElem?_getD, List.getD_eq_getElem?_getD, List.getElem?_take, if_pos (by omega)]
  rw [this]
end Go.Proofs.Ytkohdcjeankhkaa
namespace Go.Proofs.Ytkohdcjeankhkaa
open Go.Proofs.Ytkohdcjeankhkaa.K
/-! ### Events undoes Calls -/
def Cov (C : List Cl) (j i : Nat) : Prop := ∃ (a : Nat) (c : Cl), a < j ∧ C[a]? = some c ∧ (c.f = (i : Int) ∨ (c.d = true ∧ c.t = (i : Int)))
section
variable {n : Nat} {l : List Ev} {o : Om} {C : List Cl}
theorem Cov.succ {C : List Cl} {j i : Nat} {c : Cl} (hc : C[j]? = some c) : Cov C (j + 1) i ↔ Cov C j i ∨ c.f = (i : Int) ∨ (c.d = true ∧ c.t = (i : Int)) := by
  constructor
  · rintro ⟨a, d, h1, h2, h3⟩
    rcases Nat.lt_or_ge a j with h | h
    · exact .inl ⟨a, d, h, h2, h3⟩
    · obtain rfl : a = j := by omega
      rw [hc] at h2
      obtain rfl := Option.some.inj h2
      exact .inr h3
  · rintro (⟨a, d, h1, h2, h3⟩ | h)
    · exact ⟨a, d, by omega, h2, h3⟩
    · exact ⟨j, c, by omega, hc, h⟩
theorem Inv.begE (h : Inv n l n o C) {a : Nat} {c : Cl} (hc : C[a]? = some c) : ∃ i : Nat, c.f = i ∧ i < n ∧ l[i]? = some (begE c) := h.fr a c hc
theorem Inv.endE (h : Inv n l n o C) {a : Nat} {c : Cl} (hc : C[a]? = some c) (hd : c.d = true) : ∃ i : Nat, c.t = i ∧ c.f < i ∧ i < n ∧ l[i]? = some (endE c) := h.dn a c hc hd
theorem Inv.notC (h : Inv n l n o C) {a : Nat} {c : Cl} (hc : C[a]? = some c) : ¬ notC (n : Int) c := by
  obtain ⟨i, e1, e2, _⟩ := h.fr a c hc
  unfold Go.Proofs.Ytkohdcjeankhkaa.notC
  cases hd : c.d with
  | true =>
    obtain ⟨i', f1, f2, f3, _⟩ := h.dn a c hc hd
    rintro (h | h | h | h | ⟨_, h⟩) <;> omega
  | false =>
    have := (h.nd a c hc hd).1
    rintro (h | h | h | h | ⟨h, _⟩)
    · omega
    · omega
    · omega
    · omega
    · cases h
theorem hRun_cov (h : Inv n l n o C) (hl : l.length = n) : ∀ j, j ≤ C.length → ∀ i, i < n → Cov C j i → (hRun n C j).getD i e0 = l.getD i e0
  | 0, _, i, _, hc => by obtain ⟨a, c, h1, _⟩ := hc; omega
  | j + 1, hj, i, hi, hc => by
    have hcj : C[j]? = some (C.getD j z0) := some_getD (by omega)
    have ih := hRun_cov h hl j (by omega) i hi
    rw [Cov.succ hcj] at hc
    obtain ⟨a, a1, a2, a3⟩ := h.begE hcj
    have hlen := hRun_len n C j
    have hr : hRun n C (j + 1) = putC (hRun n C j) (C.getD j z0) := rfl
    rw [hr]
    generalize hRun n C j = O at ih hlen ⊢
    generalize C.getD j z0 = c at hcj hc a1 a3 ⊢
    have hft : c.f.toNat = a := by omega
    unfold putC
    cases hd : c.d with
    | true =>
      obtain ⟨b, b1, b2, b3, b4⟩ := h.endE hcj hd
      have htt : c.t.toNat = b := by omega
      rw [if_pos rfl, hft, htt, getD_set _ _ _ _ _ (by rw [List.length_set]; omega), getD_set _ _ _ _ _ (by omega)]
      by_cases hb : b = i
      · subst hb; rw [if_pos rfl, getD_some b4]
      · rw [if_neg hb]
        by_cases ha : a = i
        · subst ha; rw [if_pos rfl, getD_some a3]
        · rw [if_neg ha]
          refine ih (hc.resolve_right ?_)
          rintro (h | ⟨_, h⟩) <;> omega
    | false =>
      rw [if_neg (by decide), hft, getD_set _ _ _ _ _ (by omega)]
      by_cases ha : a = i
      · subst ha; rw [if_pos rfl, getD_some a3]
      · rw [if_neg ha]
        refine ih (hc.resolve_right ?_)
        rintro (h | ⟨h, _⟩)
        · omega
        · rw [hd] at h; cases h
theorem hRun_all (h : Inv n l n o C) (hl : l.length = n) : hRun n C C.length = l := by
  have hlen := hRun_len n C C.length
  refine List.ext_getElem? fun i => ?_
  rcases Nat.lt_or_ge i n with hi | hi
  · have hc : Cov C C.length i := by
      obtain ⟨a, c, h1, h2⟩ := h.al i hi
      exact ⟨a, c, (List.getElem?_eq_some_iff.1 h1).1, h1, h2⟩
    have := hRun_cov h hl C.length (Nat.le_refl _) i hi hc
    rw [some_getD (d := e0) (by omega), some_getD (d := e0) (by omega), this]
  · rw [List.getElem?_eq_none (by omega), List.getElem?_eq_none (by omega)]
end
theorem cls_inv {l : List Ev} (he : cErr l = 0) : Inv l.length l l.length (cRun l.length l l.length).1 (cls l) := by
  rw [cls_fine he]
  exact Inv.run (cErr_0 he).2 _ (Nat.le_refl _)
theorem hEv_cls {l : List Ev} (he : cErr l = 0) : hEv (l.length : Int) (cls l) = (l, 0) := by
  have h := cls_inv he
  have hr := hRun_all h rfl
  rw [hEv_good (cErr_0 he).1 ⟨fun j hj => h.notC (some_getD hj), by rw [hr]; exact he, by rw [hr]⟩, hr]
/-! ### Each event is one's -/
def hadC (L : List Int) (c : Cl) : List Int :=
  if c.d = true then (L.set c.f.toNat (L.getD c.f.toNat 0 + 1)).set c.t.toNat ((L.set c.f.toNat (L.getD c.f.toNat 0 + 1)).getD c.t.toNat 0 + 1) else L.set c.f.toNat (L.getD c.f.toNat 0 + 1)
def hadL (n : Nat) (C : List Cl) : Nat → List Int
  | 0 => List.replicate n 0
  | j + 1 => hadC (hadL n C j) (C.getD j z0)
theorem hadL_len (n : Nat) (C : List Cl) : ∀ j, (hadL n C j).length = n
  | 0 => by simp [hadL]
  | j + 1 => by
    have := hadL_len n C j
    simp only [hadL, hadC]
    split <;> simp [this]
theorem hadL_cov {n : Nat} {l : List Ev} {o : Om} {C : List Cl} (h : Inv n l n o C) : ∀ j, j ≤ C.length → ∀ i, i < n → (Cov C j i → (hadL n C j).getD i 0 = 1) ∧ (¬ Cov C j i → (hadL n C j).getD i 0 = 0)
  | 0, _, i, _ => ⟨fun hc => by obtain ⟨a, c, h1, _⟩ := hc; omega, fun _ => by simp only [hadL, rep_getD]⟩
  | j + 1, hj, i, hi => by
    have hcj : C[j]? = some (C.getD j z0) := some_getD (by omega)
    have ih := hadL_cov h j (by omega)
    rw [Cov.succ hcj]
    obtain ⟨a, a1, a2, a3⟩ := h.begE hcj
    have hlen := hadL_len n C j
    have hna : ¬ Cov C j a := by
      rintro ⟨b, d, b1, b2, b3 | ⟨b3, b4⟩⟩
      · have := h.f_inj b2 hcj (by omega); omega
      · exact h.f_ne hcj b2 b3 (by omega)
    have hnb : (C.getD j z0).d = true → ∀ b : Nat, (C.getD j z0).t = (b : Int) → ¬ Cov C j b := by
      rintro hd b hb ⟨b', d, b1, b2, b3 | ⟨b3, b4⟩⟩
      · exact h.f_ne b2 hcj hd (by omega)
      · have := h.t_inj b2 hcj b3 hd (by omega); omega
    have hr : hadL n C (j + 1) = hadC (hadL n C j) (C.getD j z0) := rfl
    have iha := (ih a a2).2 hna
    have ihi := ih i hi
    rw [hr]
    have ihb := fun b hb => (ih b hb).2
    clear ih hr
    generalize hadL n C j = O at ihi iha ihb hlen ⊢
    generalize C.getD j z0 = c at hcj a1 a3 hnb ⊢
    have hft : c.f.toNat = a := by omega
    unfold hadC
    cases hd : c.d with
    | true =>
      obtain ⟨b, b1, b2, b3, b4⟩ := h.endE hcj hd
      have htt : c.t.toNat = b := by omega
      have hb0 := ihb b b3 (hnb hd b b1)
      have v1 : (O.set a (O.getD a 0 + 1)).getD b 0 + 1 = 1 := by rw [getD_set _ _ _ _ _ (by omega), if_neg (by omega), hb0]; rfl
      rw [if_pos rfl, hft, htt, v1, getD_set _ _ _ _ _ (by rw [List.length_set]; omega), getD_set _ _ _ _ _ (by omega), iha]
      by_cases hb : b = i
      · subst hb
        rw [if_pos rfl]
        exact ⟨fun _ => rfl, fun hc => (hc (.inr (.inr ⟨rfl, b1⟩))).elim⟩
      · rw [if_neg hb]
        by_cases ha : a = i
        · subst ha
          rw [if_pos rfl]
          exact ⟨fun _ => rfl, fun hc => (hc (.inr (.inl a1))).elim⟩
        · rw [if_neg ha]
          refine ⟨fun hc => ihi.1 (hc.resolve_right ?_), fun hc => ihi.2 fun h => hc (.inl h)⟩
          rintro (h | ⟨_, h⟩) <;> omega
    | false =>
      rw [if_neg (by decide), hft, getD_set _ _ _ _ _ (by omega), iha]
      by_cases ha : a = i
      · subst ha
        rw [if_pos rfl]
        exact ⟨fun _ => rfl, fun hc => (hc (.inr (.inl a1))).elim⟩
      · rw [if_neg ha]
        refine ⟨fun hc => ihi.1 (hc.resolve_right ?_), fun hc => ihi.2 fun h => hc (.inl h)⟩
        rintro (h | ⟨h, _⟩)
        · omega
        · cases h
theorem hadL_all {n : Nat} {l : List Ev} {o : Om} {C : List Cl} (h : Inv n l n o C) (i : Nat) (hi : i < n) : (hadL n C C.length).getD i 0 = 1 := by
  refine (hadL_cov h C.length (Nat.le_refl _) i hi).1 ?_
  obtain ⟨a, c, h1, h2⟩ := h.al i hi
  exact ⟨a, c, (List.getElem?_eq_some_iff.1 h1).1, h1, h2⟩
theorem hadL_le {n : Nat} {l : List Ev} {o : Om} {C : List Cl} (h : Inv n l n o C) (j : Nat) (hj : j ≤ C.length) (i : Nat) (hi : i < n) : 0 ≤ (hadL n C j).getD i 0 ∧ (hadL n C j).getD i 0 ≤ 1 := by
  have := hadL_cov h j hj i hi
  by_cases hc : Cov C j i
  · rw [this.1 hc]; omega
  · rw [this.2 hc]; omega
end Go.Proofs.Ytkohdcjeankhkaa
namespace Go.Proofs.Ytkohdcjeankhkaa
open Go.Proofs.Ytkohdcjeankhkaa.K Go.ChangeShapes Go.WideShapes Go.ChangeAt Go.RowKit
set_option maxRecDepth 100000
set_option linter.unusedSimpArgs false
set_option linter.unusedVariables false

/-- The last call of a process. -/
def LastP (C : List Cl) (p : Int) (k : Nat) (x : Int) : Prop := (x = -1 ∧ ∀ a, a < k → (C.getD a z0).p ≠ p) ∨ ∃ a : Nat, x = (a : Int) ∧ a < k ∧ (C.getD a z0).p = p ∧ ∀ b, a < b → b < k → (C.getD b z0).p ≠ p
theorem LastP.zero {C : List Cl} {p : Int} : LastP C p 0 (-1) := .inl ⟨rfl, fun a h => by omega⟩
theorem LastP.hit {C : List Cl} {p : Int} {k : Nat} (h : (C.getD k z0).p = p) : LastP C p (k + 1) (k : Int) := .inr ⟨k, rfl, by omega, h, fun b h1 h2 => by omega⟩
theorem LastP.miss {C : List Cl} {p : Int} {k : Nat} {x : Int} (hl : LastP C p k x) (h : (C.getD k z0).p ≠ p) : LastP C p (k + 1) x := by
  rcases hl with ⟨h1, h2⟩ | ⟨a, h1, h2, h3, h4⟩
  · refine .inl ⟨h1, fun a ha => ?_⟩
    rcases Nat.lt_or_ge a k with h' | h'
    · exact h2 a h'
    · obtain rfl : a = k := by omega
      exact h
  · refine .inr ⟨a, h1, by omega, h3, fun b hb hb' => ?_⟩
    rcases Nat.lt_or_ge b k with h' | h'
    · exact h4 b hb h'
    · obtain rfl : b = k := by omega
      exact h
theorem LastP.bnd {C : List Cl} {p : Int} {k : Nat} {x : Int} (hl : LastP C p k x) : -1 ≤ x ∧ x < k ∨ x = -1 := by
  rcases hl with ⟨h1, _⟩ | ⟨a, h1, h2, _⟩ <;> omega
theorem LastP.some {n : Nat} {l : List Ev} {j : Nat} {o : Om} {C : List Cl} {p : Int} {x : Int} {a : Nat} (hl : LastP C p C.length x) (hI : Inv n l j o C) (ho : o p = some a) : x = (a : Int) ∧ a < C.length ∧ (C.getD a z0).d = false := by
  obtain ⟨c, hc, hp, hd⟩ := (hI.op p a).1 ho
  have hal := (List.getElem?_eq_some_iff.1 hc).1
  have hg : C.getD a z0 = c := getD_some hc
  rcases hl with ⟨_, h2⟩ | ⟨b, h1, h2, h3, h4⟩
  · exact absurd (by rw [hg]; exact hp) (h2 a hal)
  · rcases Nat.lt_trichotomy a b with h | h | h
    · have := (hI.se a b c _ hc (some_getD h2) h (by rw [hp, h3])).1
      rw [hd] at this; cases this
    · subst h; exact ⟨h1, hal, by rw [hg]; exact hd⟩
    · exact absurd (by rw [hg]; exact hp) (h4 a h hal)
theorem LastP.none {n : Nat} {l : List Ev} {j : Nat} {o : Om} {C : List Cl} {p : Int} {x : Int} (hl : LastP C p C.length x) (hI : Inv n l j o C) (ho : o p = none) : x = -1 ∨ ∃ a : Nat, x = (a : Int) ∧ a < C.length ∧ (C.getD a z0).d = true := by
  rcases hl with ⟨h1, _⟩ | ⟨b, h1, h2, h3, h4⟩
  · exact .inl h1
  · refine .inr ⟨b, h1, h2, ?_⟩
    cases hd : (C.getD b z0).d with
    | true => rfl
    | false =>
      have := (hI.op p b).2 ⟨_, some_getD (d := z0) h2, h3, hd⟩
      rw [ho] at this; cases this
theorem cRun_len (n : Nat) (l : List Ev) (j : Nat) : (cRun n l j).2.length ≤ j := cLen n l j
/-- whitewash/whitewashref20.Calls -/
def L12 : FnL := ⟨(.seq (.ops [⟨(some 2), .mv (.const (.slice none 0 0)), none⟩, ⟨(some 3), .mv (.const (.int .i64 0)), none⟩])
 (.seq (.seq (.ops [⟨(some 10), .mv (.tmp 0), none⟩, ⟨(some 11), .len false (.tmp 10), none⟩, ⟨(some 12), .bin .gtr (.tmp 11) (.const (.int .i64 1000)), none⟩])
 (.cond (.tmp 12) (.seq (.ops [⟨(some 2), .mv (.const (.slice none 0 0)), none⟩, ⟨(some 3), .mv (.const (.int .i64 4)), none⟩])
 .ret)
 .skip))
 (.seq (.ops [⟨(some 4), .mv (.const (.slice none 0 0)), none⟩])
 (.seq (.seq (.ops [⟨(some 5), .mv (.const (.int .i64 0)), none⟩])
 (.block 0 (.loop (.seq (.seq (.ops [⟨(some 13), .mv (.tmp 5), none⟩, ⟨(some 14), .mv (.tmp 0), none⟩, ⟨(some 15), .len false (.tmp 14), none⟩, ⟨(some 16), .bin .lss (.tmp 13) (.tmp 15), none⟩])
 (.cond (.tmp 16) .skip
 (.exit 0)))
 (.seq (.block 1 (.seq (.ops [⟨(some 19), .mv (.tmp 0), none⟩, ⟨(some 20), .mv (.tmp 5), none⟩, ⟨(some 21), .iaddrS 7 (.tmp 19) (.tmp 20), none⟩, ⟨(some 22), .faddr 0 (.tmp 21), none⟩, ⟨(some 23), .load false 1 (.tmp 22), none⟩, ⟨(some 6), .mv (.tmp 23), none⟩])
 (.seq (.seq (.ops [⟨(some 24), .mv (.tmp 6), none⟩, ⟨(some 25), .bin .lss (.tmp 24) (.const (.int .i64 0)), none⟩, ⟨(some 26), .mv (.tmp 25), none⟩, ⟨(some 27), .mv (.tmp 6), (some (26, false))⟩, ⟨(some 28), .bin .gtr (.tmp 27) (.const (.int .i64 15)), (some (26, false))⟩, ⟨(some 29), .pick (.tmp 26) (.const (.bool true)) (.tmp 28), none⟩])
 (.cond (.tmp 29) (.seq (.ops [⟨(some 2), .mv (.const (.slice none 0 0)), none⟩, ⟨(some 3), .mv (.const (.int .i64 2)), none⟩])
 .ret)
 .skip))
 (.seq (.ops [⟨(some 7), .mv (.const (.int .i64 (-1))), none⟩])
 (.seq (.seq (.ops [⟨(some 8), .mv (.const (.int .i64 0)), none⟩])
 (.block 2 (.loop (.seq (.seq (.ops [⟨(some 30), .mv (.tmp 8), none⟩, ⟨(some 31), .mv (.tmp 4), none⟩, ⟨(some 32), .len false (.tmp 31), none⟩, ⟨(some 33), .bin .lss (.tmp 30) (.tmp 32), none⟩])
 (.cond (.tmp 33) .skip
 (.exit 2)))
 (.seq (.block 3 (.seq (.ops [⟨(some 36), .mv (.tmp 4), none⟩, ⟨(some 37), .mv (.tmp 8), none⟩, ⟨(some 38), .iaddrS 9 (.tmp 36) (.tmp 37), none⟩, ⟨(some 39), .faddr 0 (.tmp 38), none⟩, ⟨(some 40), .load false 1 (.tmp 39), none⟩, ⟨(some 41), .mv (.tmp 6), none⟩, ⟨(some 42), .bin .eql (.tmp 40) (.tmp 41), none⟩])
 (.cond (.tmp 42) (.ops [⟨(some 43), .mv (.tmp 8), none⟩, ⟨(some 7), .mv (.tmp 43), none⟩])
 .skip)))
 (.ops [⟨(some 34), .mv (.tmp 8), none⟩, ⟨(some 35), .bin .add (.tmp 34) (.const (.int .i64 1)), none⟩, ⟨(some 8), .mv (.tmp 35), none⟩]))))))
 (.seq (.ops [⟨(some 44), .mv (.tmp 7), none⟩, ⟨(some 45), .bin .geq (.tmp 44) (.const (.int .i64 0)), none⟩, ⟨(some 46), .mv (.tmp 45), none⟩, ⟨(some 47), .mv (.tmp 4), (some (46, true))⟩, ⟨(some 48), .mv (.tmp 7), (some (46, true))⟩, ⟨(some 49), .iaddrS 9 (.tmp 47) (.tmp 48), (some (46, true))⟩, ⟨(some 50), .faddr 8 (.tmp 49), (some (46, true))⟩, ⟨(some 51), .load false 1 (.tmp 50), (some (46, true))⟩, ⟨(some 52), .un .not (.tmp 51), (some (46, true))⟩, ⟨(some 53), .pick (.tmp 46) (.tmp 52) (.const (.bool false)), none⟩, ⟨(some 9), .mv (.tmp 53), none⟩])
 (.seq (.seq (.ops [⟨(some 54), .mv (.tmp 9), none⟩, ⟨(some 55), .mv (.tmp 0), none⟩, ⟨(some 56), .mv (.tmp 5), none⟩, ⟨(some 57), .iaddrS 7 (.tmp 55) (.tmp 56), none⟩, ⟨(some 58), .faddr 1 (.tmp 57), none⟩, ⟨(some 59), .load false 1 (.tmp 58), none⟩, ⟨(some 60), .eqb false (.tmp 54) (.tmp 59), none⟩])
 (.cond (.tmp 60) (.seq (.ops [⟨(some 2), .mv (.const (.slice none 0 0)), none⟩, ⟨(some 3), .mv (.const (.int .i64 2)), none⟩])
 .ret)
 .skip))
 (.seq (.seq (.ops [⟨(some 61), .mv (.tmp 0), none⟩, ⟨(some 62), .mv (.tmp 5), none⟩, ⟨(some 63), .iaddrS 7 (.tmp 61) (.tmp 62), none⟩, ⟨(some 64), .faddr 1 (.tmp 63), none⟩, ⟨(some 65), .load false 1 (.tmp 64), none⟩])
 (.cond (.tmp 65) (.seq (.seq (.ops [⟨(some 66), .mv (.tmp 0), none⟩, ⟨(some 67), .mv (.tmp 5), none⟩, ⟨(some 68), .iaddrS 7 (.tmp 66) (.tmp 67), none⟩, ⟨(some 69), .faddr 5 (.tmp 68), none⟩, ⟨(some 70), .faddr 0 (.tmp 69), none⟩, ⟨(some 71), .load false 1 (.tmp 70), none⟩, ⟨(some 72), .bin .neq (.tmp 71) (.const (.int .i64 0)), none⟩, ⟨(some 73), .mv (.tmp 72), none⟩, ⟨(some 74), .mv (.tmp 0), (some (73, false))⟩, ⟨(some 75), .mv (.tmp 5), (some (73, false))⟩, ⟨(some 76), .iaddrS 7 (.tmp 74) (.tmp 75), (some (73, false))⟩, ⟨(some 77), .faddr 5 (.tmp 76), (some (73, false))⟩, ⟨(some 78), .faddr 1 (.tmp 77), (some (73, false))⟩, ⟨(some 79), .load false 1 (.tmp 78), (some (73, false))⟩, ⟨(some 80), .bin .neq (.tmp 79) (.const (.int .u64 0)), (some (73, false))⟩, ⟨(some 81), .pick (.tmp 73) (.const (.bool true)) (.tmp 80), none⟩])
 (.cond (.tmp 81) (.seq (.ops [⟨(some 2), .mv (.const (.slice none 0 0)), none⟩, ⟨(some 3), .mv (.const (.int .i64 2)), none⟩])
 .ret)
 .skip))
 (.seq (.ops [⟨(some 82), .mv (.tmp 4), none⟩, ⟨(some 83), .mv (.tmp 6), none⟩, ⟨(some 84), .mv (.tmp 0), none⟩, ⟨(some 85), .mv (.tmp 5), none⟩, ⟨(some 86), .iaddrS 7 (.tmp 84) (.tmp 85), none⟩, ⟨(some 87), .faddr 2 (.tmp 86), none⟩, ⟨(some 88), .load true 3 (.tmp 87), none⟩, ⟨(some 89), .mv (.tmp 5), none⟩, ⟨(some 90), .mv (.tmp 0), none⟩, ⟨(some 91), .len false (.tmp 90), none⟩, ⟨(some 92), .build [(.int .i64 0), (.int .i64 0), (.int .u64 0), (.int .u64 0), (.int .i64 0), (.int .u64 0), (.int .i64 0), (.int .i64 0), (.bool false)] [(0, 1, (.tmp 83)), (1, 3, (.tmp 88)), (6, 1, (.tmp 89)), (7, 1, (.tmp 91))], none⟩, ⟨(some 93), .buildS [(.int .i64 0), (.int .i64 0), (.int .u64 0), (.int .u64 0), (.int .i64 0), (.int .u64 0), (.int .i64 0), (.int .i64 0), (.bool false)] 1 [(0, 9, (.tmp 92))], none⟩, ⟨(some 94), .app [(.int .i64 0), (.int .i64 0), (.int .u64 0), (.int .u64 0), (.int .i64 0), (.int .u64 0), (.int .i64 0), (.int .i64 0), (.bool false)] 72 (.tmp 82) (.tmp 93), none⟩, ⟨(some 4), .mv (.tmp 94), none⟩])
 (.exit 1)))
 .skip))
 (.seq (.seq (.draw [⟨⟨(some 95), .mv (.tmp 4), none⟩, []⟩, ⟨⟨(some 96), .mv (.tmp 7), none⟩, []⟩, ⟨⟨(some 97), .iaddrS 9 (.tmp 95) (.tmp 96), none⟩, []⟩, ⟨⟨(some 98), .faddr 1 (.tmp 97), none⟩, []⟩, ⟨⟨(some 99), .load true 3 (.tmp 98), none⟩, []⟩, ⟨⟨(some 100), .mv (.tmp 0), none⟩, []⟩, ⟨⟨(some 101), .mv (.tmp 5), none⟩, []⟩, ⟨⟨(some 102), .iaddrS 7 (.tmp 100) (.tmp 101), none⟩, []⟩, ⟨⟨(some 103), .faddr 2 (.tmp 102), none⟩, []⟩, ⟨⟨(some 104), .load true 3 (.tmp 103), none⟩, []⟩, ⟨⟨(some 105), .eqA true [.int, .int, .int] (.tmp 99) (.tmp 104), none⟩, []⟩])
 (.cond (.tmp 105) (.seq (.ops [⟨(some 2), .mv (.const (.slice none 0 0)), none⟩, ⟨(some 3), .mv (.const (.int .i64 2)), none⟩])
 .ret)
 .skip))
 (.seq (.ops [⟨(some 106), .mv (.tmp 4), none⟩, ⟨(some 107), .mv (.tmp 7), none⟩, ⟨(some 108), .iaddrS 9 (.tmp 106) (.tmp 107), none⟩, ⟨(some 109), .faddr 8 (.tmp 108), none⟩, ⟨none, .store 1 (.tmp 109) (.const (.bool true)), none⟩])
 (.seq (.ops [⟨(some 110), .mv (.tmp 4), none⟩, ⟨(some 111), .mv (.tmp 7), none⟩, ⟨(some 112), .mv (.tmp 5), none⟩, ⟨(some 113), .iaddrS 9 (.tmp 110) (.tmp 111), none⟩, ⟨(some 114), .faddr 7 (.tmp 113), none⟩, ⟨none, .store 1 (.tmp 114) (.tmp 112), none⟩])
 (.ops [⟨(some 115), .mv (.tmp 4), none⟩, ⟨(some 116), .mv (.tmp 7), none⟩, ⟨(some 117), .mv (.tmp 0), none⟩, ⟨(some 118), .mv (.tmp 5), none⟩, ⟨(some 119), .iaddrS 7 (.tmp 117) (.tmp 118), none⟩, ⟨(some 120), .faddr 5 (.tmp 119), none⟩, ⟨(some 121), .load true 2 (.tmp 120), none⟩, ⟨(some 122), .iaddrS 9 (.tmp 115) (.tmp 116), none⟩, ⟨(some 123), .faddr 4 (.tmp 122), none⟩, ⟨none, .store 2 (.tmp 123) (.tmp 121), none⟩]))))))))))))
 (.ops [⟨(some 17), .mv (.tmp 5), none⟩, ⟨(some 18), .bin .add (.tmp 17) (.const (.int .i64 1)), none⟩, ⟨(some 5), .mv (.tmp 18), none⟩]))))))
 (.seq (.ops [⟨(some 124), .mv (.tmp 4), none⟩, ⟨(some 2), .mv (.tmp 124), none⟩, ⟨(some 3), .mv (.const (.int .i64 0)), none⟩])
 .ret))))),
 125, [.tmp 2, .tmp 3]⟩
theorem low12 : lowerFn Try.prog Try.f12 = some L12 := by kernel_rfl
noncomputable def G12 (B : OH) : Nat → Cs
  | _ => fun _ _ _ => none
theorem sG12 {w0 : World} {B : OH} : SoundG Try.prog w0 B { f := G12 B } := .of fun k => by
  unfold G12
  split
  · exact .inl fun _ _ _ => rfl
theorem en12 : Enter Try.prog 12 := .of Try.func12 (by kernel_rfl) (by kernel_rfl)
noncomputable def T12 (B : OH) : Cs := callF B { f := G12 B } 2400 L12
theorem sT12 {w0 : World} {B : OH} : SoundC Try.prog w0 B 12 (T12 B) := callF_sound mixedOrders sG12 2400 Try.func12 low12
noncomputable def V12 (B : OH) : Cs := T12 B
theorem sV12 {w0 : World} {B : OH} : SoundC Try.prog w0 B 12 (V12 B) := sT12
structure K12 (v vO : Value) (j : Nat) (ts : List Value) : Prop where
  l : ts.length = 125
  t0 : gt ts 0 = v
  t4 : gt ts 4 = vO
  t5 : gt ts 5 = .int .i64 (j : Int)
structure K12i (v vO : Value) (j : Nat) (p last : Int) (k : Nat) (ts : List Value) : Prop where
  l : ts.length = 125
  t0 : gt ts 0 = v
  t4 : gt ts 4 = vO
  t5 : gt ts 5 = .int .i64 (j : Int)
  t6 : gt ts 6 = .int .i64 p
  t7 : gt ts 7 = .int .i64 last
  t8 : gt ts 8 = .int .i64 (k : Int)
def R12 (B : OH) (H0 : HL) (l : List Ev) (v : Value) (x : X) (s : Go.Proofs.Ytkohdcjeankhkaa.K.S) : Prop :=
  (x = .exit 0 ∧ ∃ vO, K12 v vO l.length s.t ∧ good B s.H s.N ∧ Fr H0 s.H ∧ SlN cl9 9 B H0 s.H vO (cRun l.length l l.length).2 ∧ Fine l.length l) ∨
  (x = .ret ∧ s.t.length = 125 ∧ gt s.t 2 = .slice none 0 0 ∧ gt s.t 3 = .int .i64 2 ∧ good B s.H s.N ∧ Fr H0 s.H ∧ ¬ Fine l.length l)
def lb12 : LC := (.seq (.seq (.ops [⟨(some 13), .mv (.tmp 5), none⟩, ⟨(some 14), .mv (.tmp 0), none⟩, ⟨(some 15), .len false (.tmp 14), none⟩, ⟨(some 16), .bin .lss (.tmp 13) (.tmp 15), none⟩])
 (.cond (.tmp 16) .skip
 (.exit 0)))
 (.seq (.block 1 (.seq (.ops [⟨(some 19), .mv (.tmp 0), none⟩, ⟨(some 20), .mv (.tmp 5), none⟩, ⟨(some 21), .iaddrS 7 (.tmp 19) (.tmp 20), none⟩, ⟨(some 22), .faddr 0 (.tmp 21), none⟩, ⟨(some 23), .load false 1 (.tmp 22), none⟩, ⟨(some 6), .mv (.tmp 23), none⟩])
 (.seq (.seq (.ops [⟨(some 24), .mv (.tmp 6), none⟩, ⟨(some 25), .bin .lss (.tmp 24) (.const (.int .i64 0)), none⟩, ⟨(some 26), .mv (.tmp 25), none⟩, ⟨(some 27), .mv (.tmp 6), (some (26, false))⟩, ⟨(some 28), .bin .gtr (.tmp 27) (.const (.int .i64 15)), (some (26, false))⟩, ⟨(some 29), .pick (.tmp 26) (.const (.bool true)) (.tmp 28), none⟩])
 (.cond (.tmp 29) (.seq (.ops [⟨(some 2), .mv (.const (.slice none 0 0)), none⟩, ⟨(some 3), .mv (.const (.int .i64 2)), none⟩])
 .ret)
 .skip))
 (.seq (.ops [⟨(some 7), .mv (.const (.int .i64 (-1))), none⟩])
 (.seq (.seq (.ops [⟨(some 8), .mv (.const (.int .i64 0)), none⟩])
 (.block 2 (.loop (.seq (.seq (.ops [⟨(some 30), .mv (.tmp 8), none⟩, ⟨(some 31), .mv (.tmp 4), none⟩, ⟨(some 32), .len false (.tmp 31), none⟩, ⟨(some 33), .bin .lss (.tmp 30) (.tmp 32), none⟩])
 (.cond (.tmp 33) .skip
 (.exit 2)))
 (.seq (.block 3 (.seq (.ops [⟨(some 36), .mv (.tmp 4), none⟩, ⟨(some 37), .mv (.tmp 8), none⟩, ⟨(some 38), .iaddrS 9 (.tmp 36) (.tmp 37), none⟩, ⟨(some 39), .faddr 0 (.tmp 38), none⟩, ⟨(some 40), .load false 1 (.tmp 39), none⟩, ⟨(some 41), .mv (.tmp 6), none⟩, ⟨(some 42), .bin .eql (.tmp 40) (.tmp 41), none⟩])
 (.cond (.tmp 42) (.ops [⟨(some 43), .mv (.tmp 8), none⟩, ⟨(some 7), .mv (.tmp 43), none⟩])
 .skip)))
 (.ops [⟨(some 34), .mv (.tmp 8), none⟩, ⟨(some 35), .bin .add (.tmp 34) (.const (.int .i64 1)), none⟩, ⟨(some 8), .mv (.tmp 35), none⟩]))))))
 (.seq (.ops [⟨(some 44), .mv (.tmp 7), none⟩, ⟨(some 45), .bin .geq (.tmp 44) (.const (.int .i64 0)), none⟩, ⟨(some 46), .mv (.tmp 45), none⟩, ⟨(some 47), .mv (.tmp 4), (some (46, true))⟩, ⟨(some 48), .mv (.tmp 7), (some (46, true))⟩, ⟨(some 49), .iaddrS 9 (.tmp 47) (.tmp 48), (some (46, true))⟩, ⟨(some 50), .faddr 8 (.tmp 49), (some (46, true))⟩, ⟨(some 51), .load false 1 (.tmp 50), (some (46, true))⟩, ⟨(some 52), .un .not (.tmp 51), (some (46, true))⟩, ⟨(some 53), .pick (.tmp 46) (.tmp 52) (.const (.bool false)), none⟩, ⟨(some 9), .mv (.tmp 53), none⟩])
 (.seq (.seq (.ops [⟨(some 54), .mv (.tmp 9), none⟩, ⟨(some 55), .mv (.tmp 0), none⟩, ⟨(some 56), .mv (.tmp 5), none⟩, ⟨(some 57), .iaddrS 7 (.tmp 55) (.tmp 56), none⟩, ⟨(some 58), .faddr 1 (.tmp 57), none⟩, ⟨(some 59), .load false 1 (.tmp 58), none⟩, ⟨(some 60), .eqb false (.tmp 54) (.tmp 59), none⟩])
 (.cond (.tmp 60) (.seq (.ops [⟨(some 2), .mv (.const (.slice none 0 0)), none⟩, ⟨(some 3), .mv (.const (.int .i64 2)), none⟩])
 .ret)
 .skip))
 (.seq (.seq (.ops [⟨(some 61), .mv (.tmp 0), none⟩, ⟨(some 62), .mv (.tmp 5), none⟩, ⟨(some 63), .iaddrS 7 (.tmp 61) (.tmp 62), none⟩, ⟨(some 64), .faddr 1 (.tmp 63), none⟩, ⟨(some 65), .load false 1 (.tmp 64), none⟩])
 (.cond (.tmp 65) (.seq (.seq (.ops [⟨(some 66), .mv (.tmp 0), none⟩, ⟨(some 67), .mv (.tmp 5), none⟩, ⟨(some 68), .iaddrS 7 (.tmp 66) (.tmp 67), none⟩, ⟨(some 69), .faddr 5 (.tmp 68), none⟩, ⟨(some 70), .faddr 0 (.tmp 69), none⟩, ⟨(some 71), .load false 1 (.tmp 70), none⟩, ⟨(some 72), .bin .neq (.tmp 71) (.const (.int .i64 0)), none⟩, ⟨(some 73), .mv (.tmp 72), none⟩, ⟨(some 74), .mv (.tmp 0), (some (73, false))⟩, ⟨(some 75), .mv (.tmp 5), (some (73, false))⟩, ⟨(some 76), .iaddrS 7 (.tmp 74) (.tmp 75), (some (73, false))⟩, ⟨(some 77), .faddr 5 (.tmp 76), (some (73, false))⟩, ⟨(some 78), .faddr 1 (.tmp 77), (some (73, false))⟩, ⟨(some 79), .load false 1 (.tmp 78), (some (73, false))⟩, ⟨(some 80), .bin .neq (.tmp 79) (.const (.int .u64 0)), (some (73, false))⟩, ⟨(some 81), .pick (.tmp 73) (.const (.bool true)) (.tmp 80), none⟩])
 (.cond (.tmp 81) (.seq (.ops [⟨(some 2), .mv (.const (.slice none 0 0)), none⟩, ⟨(some 3), .mv (.const (.int .i64 2)), none⟩])
 .ret)
 .skip))
 (.seq (.ops [⟨(some 82), .mv (.tmp 4), none⟩, ⟨(some 83), .mv (.tmp 6), none⟩, ⟨(some 84), .mv (.tmp 0), none⟩, ⟨(some 85), .mv (.tmp 5), none⟩, ⟨(some 86), .iaddrS 7 (.tmp 84) (.tmp 85), none⟩, ⟨(some 87), .faddr 2 (.tmp 86), none⟩, ⟨(some 88), .load true 3 (.tmp 87), none⟩, ⟨(some 89), .mv (.tmp 5), none⟩, ⟨(some 90), .mv (.tmp 0), none⟩, ⟨(some 91), .len false (.tmp 90), none⟩, ⟨(some 92), .build [(.int .i64 0), (.int .i64 0), (.int .u64 0), (.int .u64 0), (.int .i64 0), (.int .u64 0), (.int .i64 0), (.int .i64 0), (.bool false)] [(0, 1, (.tmp 83)), (1, 3, (.tmp 88)), (6, 1, (.tmp 89)), (7, 1, (.tmp 91))], none⟩, ⟨(some 93), .buildS [(.int .i64 0), (.int .i64 0), (.int .u64 0), (.int .u64 0), (.int .i64 0), (.int .u64 0), (.int .i64 0), (.int .i64 0), (.bool false)] 1 [(0, 9, (.tmp 92))], none⟩, ⟨(some 94), .app [(.int .i64 0), (.int .i64 0), (.int .u64 0), (.int .u64 0), (.int .i64 0), (.int .u64 0), (.int .i64 0), (.int .i64 0), (.bool false)] 72 (.tmp 82) (.tmp 93), none⟩, ⟨(some 4), .mv (.tmp 94), none⟩])
 (.exit 1)))
 .skip))
 (.seq (.seq (.draw [⟨⟨(some 95), .mv (.tmp 4), none⟩, []⟩, ⟨⟨(some 96), .mv (.tmp 7), none⟩, []⟩, ⟨⟨(some 97), .iaddrS 9 (.tmp 95) (.tmp 96), none⟩, []⟩, ⟨⟨(some 98), .faddr 1 (.tmp 97), none⟩, []⟩, ⟨⟨(some 99), .load true 3 (.tmp 98), none⟩, []⟩, ⟨⟨(some 100), .mv (.tmp 0), none⟩, []⟩, ⟨⟨(some 101), .mv (.tmp 5), none⟩, []⟩, ⟨⟨(some 102), .iaddrS 7 (.tmp 100) (.tmp 101), none⟩, []⟩, ⟨⟨(some 103), .faddr 2 (.tmp 102), none⟩, []⟩, ⟨⟨(some 104), .load true 3 (.tmp 103), none⟩, []⟩, ⟨⟨(some 105), .eqA true [.int, .int, .int] (.tmp 99) (.tmp 104), none⟩, []⟩])
 (.cond (.tmp 105) (.seq (.ops [⟨(some 2), .mv (.const (.slice none 0 0)), none⟩, ⟨(some 3), .mv (.const (.int .i64 2)), none⟩])
 .ret)
 .skip))
 (.seq (.ops [⟨(some 106), .mv (.tmp 4), none⟩, ⟨(some 107), .mv (.tmp 7), none⟩, ⟨(some 108), .iaddrS 9 (.tmp 106) (.tmp 107), none⟩, ⟨(some 109), .faddr 8 (.tmp 108), none⟩, ⟨none, .store 1 (.tmp 109) (.const (.bool true)), none⟩])
 (.seq (.ops [⟨(some 110), .mv (.tmp 4), none⟩, ⟨(some 111), .mv (.tmp 7), none⟩, ⟨(some 112), .mv (.tmp 5), none⟩, ⟨(some 113), .iaddrS 9 (.tmp 110) (.tmp 111), none⟩, ⟨(some 114), .faddr 7 (.tmp 113), none⟩, ⟨none, .store 1 (.tmp 114) (.tmp 112), none⟩])
 (.ops [⟨(some 115), .mv (.tmp 4), none⟩, ⟨(some 116), .mv (.tmp 7), none⟩, ⟨(some 117), .mv (.tmp 0), none⟩, ⟨(some 118), .mv (.tmp 5), none⟩, ⟨(some 119), .iaddrS 7 (.tmp 117) (.tmp 118), none⟩, ⟨(some 120), .faddr 5 (.tmp 119), none⟩, ⟨(some 121), .load true 2 (.tmp 120), none⟩, ⟨(some 122), .iaddrS 9 (.tmp 115) (.tmp 116), none⟩, ⟨(some 123), .faddr 4 (.tmp 122), none⟩, ⟨none, .store 2 (.tmp 123) (.tmp 121), none⟩]))))))))))))
 (.ops [⟨(some 17), .mv (.tmp 5), none⟩, ⟨(some 18), .bin .add (.tmp 17) (.const (.int .i64 1)), none⟩, ⟨(some 5), .mv (.tmp 18), none⟩])))
set_option maxHeartbeats 16000000 in
theorem loop12 {B : OH} {H0 : HL} {v : Value} {l : List Ev} (hv : SlR ev7 7 B H0 v l) (hl : l.length ≤ 1000) {ts : List Value} {N : St} (kp : K12 v (.slice none 0 0) 0 ts) (g : good B H0 N) {F : Nat} (hF : 1100 + l.length + 1 ≤ F) :
    Ok (exec B { f := G12 B } F (LC.loop lb12) ⟨ts, H0, N⟩) (R12 B H0 l v) := by
  refine loop_rule (n0 := 1100) (fun k s => ∃ ts H N vO, ∃ j : Nat, s = ⟨ts, H, N⟩ ∧ K12 v vO j ts ∧ good B H N ∧ Fr H0 H ∧ SlN cl9 9 B H0 H vO (cRun l.length l j).2 ∧ (∀ i, i < j → ¬ cBad (cRun l.length l i).1 (cRun l.length l i).2 (l.getD i e0)) ∧ j ≤ l.length ∧ k = l.length - j) _ ?_ l.length _ ⟨_, _, _, _, 0, rfl, kp, g, Fr.refl, .inl ⟨rfl, rfl⟩, fun i hi => by omega, by omega, rfl⟩ _ hF
  clear kp g hF F ts N
  rintro n k s ⟨ts, H, N, vO, j, rfl, kp, g, fr, sO, hgd, hjn, rfl⟩
  have hB := good_B g
  have hR := good_rdB g
  have hI := beqN g.1.1
  have hlv := hv.len
  by_cases hj : j < l.length
  case neg =>
    obtain rfl : j = l.length := by omega
    simp -implicitDefEqProofs (maxSteps := 10000000) (disch := omega) only [T12, L12, hB, hR, hI, lb12, kp.l, kp.t0, kp.t4, kp.t5, lenV_sl, Int.toNat_natCast, bft, btf, gtst, st_len, hlv, Int.lt_irrefl, pad, e_skip, e_ops, e_draw, d_none, d_nil, d_cons, d_ite, h_none, h_nil, h_cons, h_ite, eqS_same, lightV, e_seq, e_cond, e_block, e_exit, e_ret, s_normal, s_ret, s_exit, s_none, s_ite, b_normal, b_ret, b_exit, b_none, b_ite, c_bool, x_none, x_nil, x_cons, x_ite, p_some, p_none, p_ite, pt_some, pt_none, pv_some, pv_none, pv_ite, w_none, w_some, i_bool, i_undef, bt, bf, v_tmp, v_const, v_global, v_func, evs, f_normal, f_ret, f_none, f_ite, r_some, co_some, l_ptr, m_agg, m_one, sh_app, lk_nil, lk_cons, rd_eq, rdO_some, rdO_none, rdN_none, rdL_some, rdL_none, wrB_none, unitR_some, wr_nil, wr_here, wr_skip, k_cells, tk_zero, tk_take, tk_skip, tkC_some, call_func, gt, st, binV, arith, isSh, storeV, all1, idxAV, fieldV, faddrV, iaddrSV, iaddrAV, pickV, convV, unV, eqbV, eqpV, extV, mm2, mmV, nilckV, ress, res1, retV, Value.cells, cond_true, cond_false, Bool.true_or, Bool.false_or, Bool.or_true, Bool.or_false, beq_self_eq_true, if_true, if_false, ite_true, ite_false, decide_true, decide_false, decide_eq_true_eq, reduceIte, Nat.zero_add, Nat.add_zero, and_self, true_and, and_true, List.size_toArray, List.length_cons, List.length_nil, List.append_nil, List.nil_append, Int.toNat_zero, Bool.not_false, Bool.not_true, Bool.not_not, Bool.false_eq_true, Bool.true_eq_false, reduceCtorEq, Int.reduceLT, Int.reduceLE, Int.reduceToNat, Int.reduceAdd, Int.reduceSub, Int.reduceMul, Int.reduceNeg, Nat.reduceMul, Nat.reduceAdd, Nat.reduceSub, Nat.reduceBEq, Nat.reduceEqDiff, Nat.reduceLT, Nat.reduceLeDiff, Int.reduceBEq, Int.reduceEq, Nat.reducePow, Int.reducePow, IntWalk.i64_in, IntKind.bits, eqAV, eqL, leafEq, andO, fillV, buildSV, List.getElem?_toArray, List.getElem?_cons_zero, List.getElem?_cons_succ, List.getElem?_nil, Int.reduceGT, Int.reduceGE, Int.reduceBNe, Bool.true_and, Bool.and_true, Bool.false_and, Bool.and_false, Bool.and_self, IntWalk.u64_in, Int.cast_ofNat_Int, callF1, pad16, pad_0, pad_1, pad_2, pad_3, pad_4, pad_5, pad_6, pad_7, pad_8, pad_9, pad_10, pad_11, pad_12, pad_13, pad_14, pad_15, gc0, gc1, gc2, gc3, gc4, gc5, gc6, gc7, gc8, gc9, gc10, gc11, gc12, gc13, gc14, gc15, gcS, sc0, sc1, sc2, sc3, sc4, sc5, sc6, sc7, sc8, sc9, sc10, sc11, sc12, sc13, sc14, sc15, scS, List.drop_succ_cons, List.drop_nil, x_pan, s_pan, b_pan, pE_ret, pE_pan, pE_none, pE_ite, pvE_some, pvE_none, pvE_ite, rv_some, rv_none, rv_ite, oR_ret, t_mv, t_pick, t_alloc, t_box, t_build, t_buildS, t_load, t_store, t_nilck, t_bin, t_eqb, t_eqA, t_eqp, t_un, t_conv, t_field, t_idxA, t_faddr, t_iaddrS, t_iaddrA, t_ext, t_len, t_mm, t_call, t_ifc, t_fn, t_slc, t_slcA, t_slcT, t_tass, t_isn, t_mks, t_app, t_pan, panE_i, optE_none, optE_some, bnd_none, bnd_int, slA_none, slA_some, appR_some, appOld_cells, newsV_s, newsV_n, lenS_s, appV_nil, appV_some, mksV_i, sh_c, sh_g, f_pan, endD_ret, dfr_normal, dfr_ret, dfr_pan, restD_normal, callD1, callC1, tassV, isnV, slcV, slcAV, slcTV, slcB, appNew, Option.bind_some, Option.bind_none, d_pan, h_pan, wrH_eq, wrX_cells, wrU_some, upH_nil, upH_cons, lk_upH, effR_some, effR_none, effR_ite, Option.isNone_none, Option.isNone_some, slA_zero, call_yield, e_range, it_func, wy_same, y_call, isLp_self, beg_normal, end_normal, end_ret, end_exit, end_ite, aft_ret, aft_ready, aft_done, aft_exit, setP_cons, setP_nil, sh_r, t_mkmap, t_mlook, t_mupd, t_mdel, mapF_some, lookF_some, setM_some, lookR_t, lookR_n, lookR_f, lookR_fn, lookV, mupdV, mdelV, mkM]
    refine ok_some (.inr ⟨by simp, .inl ⟨rfl, vO, ⟨?_, ?_, ?_, ?_⟩, g, fr, sO, fun i hi => hgd i hi⟩⟩)
    all_goals simp (maxSteps := 10000000) (disch := omega) only [kp.l, kp.t0, kp.t4, kp.t5, lenV_sl, Int.toNat_natCast, bft, btf, gtst, st_len, cond_true, cond_false, Nat.reduceBEq, Nat.reduceLT, decide_true, beq_self_eq_true, if_true, if_false]
  have hjI : (j : Int) < (l.length : Int) := by omega
  have j0 : (0 : Int) ≤ (j : Int) := by omega
  have hc1 : ((j + 1 : Nat) : Int) = (j : Int) + 1 := by omega
  obtain ⟨b, o, cap, rfl, hb, rv⟩ := hv.at (by omega)
  have q0 : rdO H B b (o + j * 7) 1 (rdB B b (o + j * 7) 1) = some [.int .i64 (l.getD j e0).p] := (rv H fr j 0 1 e0 hj (by omega)).trans rfl
  have q1 : rdO H B b (o + j * 7 + 1) 1 (rdB B b (o + j * 7 + 1) 1) = some [.bool (l.getD j e0).b] := (rv H fr j 1 1 e0 hj (by omega)).trans rfl
  have q2 : rdO H B b (o + j * 7 + 2) 3 (rdB B b (o + j * 7 + 2) 3) = some [.int .i64 (l.getD j e0).c, .int .u64 (l.getD j e0).k, .int .u64 (l.getD j e0).v] := (rv H fr j 2 3 e0 hj (by omega)).trans rfl
  have q50 : rdO H B b (o + j * 7 + 5) 1 (rdB B b (o + j * 7 + 5) 1) = some [.int .i64 (l.getD j e0).e] := (rv H fr j 5 1 e0 hj (by omega)).trans rfl
  have q51 : rdO H B b (o + j * 7 + 5 + 1) 1 (rdB B b (o + j * 7 + 5 + 1) 1) = some [.int .u64 (l.getD j e0).r] := (rv H fr j 6 1 e0 hj (by omega)).trans rfl
  have q52' : ∀ H', Fr H0 H' → rdO H' B b (o + j * 7 + 5) 2 (rdB B b (o + j * 7 + 5) 2) = some [.int .i64 (l.getD j e0).e, .int .u64 (l.getD j e0).r] := fun H' fr => (rv H' fr j 5 2 e0 hj (by omega)).trans rfl
  have q52 := q52' H fr
  have hlen : (cRun l.length l j).2.length ≤ j := cLen _ _ j
  have hinv := Inv.pre (n := l.length) (l := l) j hjn hgd
  have hgd' : ¬ cBad (cRun l.length l j).1 (cRun l.length l j).2 (l.getD j e0) → ∀ i, i < j + 1 → ¬ cBad (cRun l.length l i).1 (cRun l.length l i).2 (l.getD i e0) := fun h i hi => by
    rcases Nat.lt_or_ge i j with h' | h'
    · exact hgd i h'
    · obtain rfl : i = j := by omega
      exact h
  have hrun : cRun l.length l (j + 1) = cStep l.length j (l.getD j e0) (cRun l.length l j) := rfl
  generalize hs : cRun l.length l j = sj at sO hlen hinv hgd' hrun
  generalize hx : l.getD j e0 = x at q0 q1 q2 q50 q51 q52 q52' hgd' hrun
  obtain ⟨om, C⟩ := sj
  obtain ⟨p, bb, c, k, w, e, r⟩ := x
  simp only at sO hlen hinv hgd' hrun q0 q1 q2 q50 q51 q52 q52'
  have hOl := sO.len
  have hCj : C.length ≤ 1000 := by omega
  by_cases p0 : p < 0
  · have hbad : ¬ Fine l.length l := fun hf => hf j hj (by rw [hs, hx]; unfold cBad; exact .inl p0)
    simp -implicitDefEqProofs (maxSteps := 10000000) (disch := omega) only [T12, L12, hB, hR, hI, lb12, kp.l, kp.t0, kp.t4, kp.t5, lenV_sl, Int.toNat_natCast, bft, btf, gtst, st_len, hlv, hjI, hj, j0, q0, p0, pad, e_skip, e_ops, e_draw, d_none, d_nil, d_cons, d_ite, h_none, h_nil, h_cons, h_ite, eqS_same, lightV, e_seq, e_cond, e_block, e_exit, e_ret, s_normal, s_ret, s_exit, s_none, s_ite, b_normal, b_ret, b_exit, b_none, b_ite, c_bool, x_none, x_nil, x_cons, x_ite, p_some, p_none, p_ite, pt_some, pt_none, pv_some, pv_none, pv_ite, w_none, w_some, i_bool, i_undef, bt, bf, v_tmp, v_const, v_global, v_func, evs, f_normal, f_ret, f_none, f_ite, r_some, co_some, l_ptr, m_agg, m_one, sh_app, lk_nil, lk_cons, rd_eq, rdO_some, rdO_none, rdN_none, rdL_some, rdL_none, wrB_none, unitR_some, wr_nil, wr_here, wr_skip, k_cells, tk_zero, tk_take, tk_skip, tkC_some, call_func, gt, st, binV, arith, isSh, storeV, all1, idxAV, fieldV, faddrV, iaddrSV, iaddrAV, pickV, convV, unV, eqbV, eqpV, extV, mm2, mmV, nilckV, ress, res1, retV, Value.cells, cond_true, cond_false, Bool.true_or, Bool.false_or, Bool.or_true, Bool.or_false, beq_self_eq_true, if_true, if_false, ite_true, ite_false, decide_true, decide_false, decide_eq_true_eq, reduceIte, Nat.zero_add, Nat.add_zero, and_self, true_and, and_true, List.size_toArray, List.length_cons, List.length_nil, List.append_nil, List.nil_append, Int.toNat_zero, Bool.not_false, Bool.not_true, Bool.not_not, Bool.false_eq_true, Bool.true_eq_false, reduceCtorEq, Int.reduceLT, Int.reduceLE, Int.reduceToNat, Int.reduceAdd, Int.reduceSub, Int.reduceMul, Int.reduceNeg, Nat.reduceMul, Nat.reduceAdd, Nat.reduceSub, Nat.reduceBEq, Nat.reduceEqDiff, Nat.reduceLT, Nat.reduceLeDiff, Int.reduceBEq, Int.reduceEq, Nat.reducePow, Int.reducePow, IntWalk.i64_in, IntKind.bits, eqAV, eqL, leafEq, andO, fillV, buildSV, List.getElem?_toArray, List.getElem?_cons_zero, List.getElem?_cons_succ, List.getElem?_nil, Int.reduceGT, Int.reduceGE, Int.reduceBNe, Bool.true_and, Bool.and_true, Bool.false_and, Bool.and_false, Bool.and_self, IntWalk.u64_in, Int.cast_ofNat_Int, callF1, pad16, pad_0, pad_1, pad_2, pad_3, pad_4, pad_5, pad_6, pad_7, pad_8, pad_9, pad_10, pad_11, pad_12, pad_13, pad_14, pad_15, gc0, gc1, gc2, gc3, gc4, gc5, gc6, gc7, gc8, gc9, gc10, gc11, gc12, gc13, gc14, gc15, gcS, sc0, sc1, sc2, sc3, sc4, sc5, sc6, sc7, sc8, sc9, sc10, sc11, sc12, sc13, sc14, sc15, scS, List.drop_succ_cons, List.drop_nil, x_pan, s_pan, b_pan, pE_ret, pE_pan, pE_none, pE_ite, pvE_some, pvE_none, pvE_ite, rv_some, rv_none, rv_ite, oR_ret, t_mv, t_pick, t_alloc, t_box, t_build, t_buildS, t_load, t_store, t_nilck, t_bin, t_eqb, t_eqA, t_eqp, t_un, t_conv, t_field, t_idxA, t_faddr, t_iaddrS, t_iaddrA, t_ext, t_len, t_mm, t_call, t_ifc, t_fn, t_slc, t_slcA, t_slcT, t_tass, t_isn, t_mks, t_app, t_pan, panE_i, optE_none, optE_some, bnd_none, bnd_int, slA_none, slA_some, appR_some, appOld_cells, newsV_s, newsV_n, lenS_s, appV_nil, appV_some, mksV_i, sh_c, sh_g, f_pan, endD_ret, dfr_normal, dfr_ret, dfr_pan, restD_normal, callD1, callC1, tassV, isnV, slcV, slcAV, slcTV, slcB, appNew, Option.bind_some, Option.bind_none, d_pan, h_pan, wrH_eq, wrX_cells, wrU_some, upH_nil, upH_cons, lk_upH, effR_some, effR_none, effR_ite, Option.isNone_none, Option.isNone_some, slA_zero, call_yield, e_range, it_func, wy_same, y_call, isLp_self, beg_normal, end_normal, end_ret, end_exit, end_ite, aft_ret, aft_ready, aft_done, aft_exit, setP_cons, setP_nil, sh_r, t_mkmap, t_mlook, t_mupd, t_mdel, mapF_some, lookF_some, setM_some, lookR_t, lookR_n, lookR_f, lookR_fn, lookV, mupdV, mdelV, mkM]
    refine ok_some (.inr ⟨by simp, .inr ⟨rfl, ?_, ?_, ?_, g, fr, hbad⟩⟩)
    all_goals simp (maxSteps := 10000000) (disch := omega) only [kp.l, kp.t0, kp.t4, kp.t5, lenV_sl, Int.toNat_natCast, bft, btf, gtst, st_len, hlv, hjI, hj, j0, q0, p0, cond_true, cond_false, Nat.reduceBEq, Nat.reduceLT, decide_true, beq_self_eq_true, if_true, if_false]
  by_cases p16 : p > 15
  · have hbad : ¬ Fine l.length l := fun hf => hf j hj (by rw [hs, hx]; unfold cBad; exact .inr (.inl (by simp only; omega)))
    simp -implicitDefEqProofs (maxSteps := 10000000) (disch := omega) only [T12, L12, hB, hR, hI, lb12, kp.l, kp.t0, kp.t4, kp.t5, lenV_sl, Int.toNat_natCast, bft, btf, gtst, st_len, hlv, hjI, hj, j0, q0, p0, p16, pad, e_skip, e_ops, e_draw, d_none, d_nil, d_cons, d_ite, h_none, h_nil, h_cons, h_ite, eqS_same, lightV, e_seq, e_cond, e_block, e_exit, e_ret, s_normal, s_ret, s_exit, s_none, s_ite, b_normal, b_ret, b_exit, b_none, b_ite, c_bool, x_none, x_nil, x_cons, x_ite, p_some, p_none, p_ite, pt_some, pt_none, pv_some, pv_none, pv_ite, w_none, w_some, i_bool, i_undef, bt, bf, v_tmp, v_const, v_global, v_func, evs, f_normal, f_ret, f_none, f_ite, r_some, co_some, l_ptr, m_agg, m_one, sh_app, lk_nil, lk_cons, rd_eq, rdO_some, rdO_none, rdN_none, rdL_some, rdL_none, wrB_none, unitR_some, wr_nil, wr_here, wr_skip, k_cells, tk_zero, tk_take, tk_skip, tkC_some, call_func, gt, st, binV, arith, isSh, storeV, all1, idxAV, fieldV, faddrV, iaddrSV, iaddrAV, pickV, convV, unV, eqbV, eqpV, extV, mm2, mmV, nilckV, ress, res1, retV, Value.cells, cond_true, cond_false, Bool.true_or, Bool.false_or, Bool.or_true, Bool.or_false, beq_self_eq_true, if_true, if_false, ite_true, ite_false, decide_true, decide_false, decide_eq_true_eq, reduceIte, Nat.zero_add, Nat.add_zero, and_self, true_and, and_true, List.size_toArray, List.length_cons, List.length_nil, List.append_nil, List.nil_append, Int.toNat_zero, Bool.not_false, Bool.not_true, Bool.not_not, Bool.false_eq_true, Bool.true_eq_false, reduceCtorEq, Int.reduceLT, Int.reduceLE, Int.reduceToNat, Int.reduceAdd, Int.reduceSub, Int.reduceMul, Int.reduceNeg, Nat.reduceMul, Nat.reduceAdd, Nat.reduceSub, Nat.reduceBEq, Nat.reduceEqDiff, Nat.reduceLT, Nat.reduceLeDiff, Int.reduceBEq, Int.reduceEq, Nat.reducePow, Int.reducePow, IntWalk.i64_in, IntKind.bits, eqAV, eqL, leafEq, andO, fillV, buildSV, List.getElem?_toArray, List.getElem?_cons_zero, List.getElem?_cons_succ, List.getElem?_nil, Int.reduceGT, Int.reduceGE, Int.reduceBNe, Bool.true_and, Bool.and_true, Bool.false_and, Bool.and_false, Bool.and_self, IntWalk.u64_in, Int.cast_ofNat_Int, callF1, pad16, pad_0, pad_1, pad_2, pad_3, pad_4, pad_5, pad_6, pad_7, pad_8, pad_9, pad_10, pad_11, pad_12, pad_13, pad_14, pad_15, gc0, gc1, gc2, gc3, gc4, gc5, gc6, gc7, gc8, gc9, gc10, gc11, gc12, gc13, gc14, gc15, gcS, sc0, sc1, sc2, sc3, sc4, sc5, sc6, sc7, sc8, sc9, sc10, sc11, sc12, sc13, sc14, sc15, scS, List.drop_succ_cons, List.drop_nil, x_pan, s_pan, b_pan, pE_ret, pE_pan, pE_none, pE_ite, pvE_some, pvE_none, pvE_ite, rv_some, rv_none, rv_ite, oR_ret, t_mv, t_pick, t_alloc, t_box, t_build, t_buildS, t_load, t_store, t_nilck, t_bin, t_eqb, t_eqA, t_eqp, t_un, t_conv, t_field, t_idxA, t_faddr, t_iaddrS, t_iaddrA, t_ext, t_len, t_mm, t_call, t_ifc, t_fn, t_slc, t_slcA, t_slcT, t_tass, t_isn, t_mks, t_app, t_pan, panE_i, optE_none, optE_some, bnd_none, bnd_int, slA_none, slA_some, appR_some, appOld_cells, newsV_s, newsV_n, lenS_s, appV_nil, appV_some, mksV_i, sh_c, sh_g, f_pan, endD_ret, dfr_normal, dfr_ret, dfr_pan, restD_normal, callD1, callC1, tassV, isnV, slcV, slcAV, slcTV, slcB, appNew, Option.bind_some, Option.bind_none, d_pan, h_pan, wrH_eq, wrX_cells, wrU_some, upH_nil, upH_cons, lk_upH, effR_some, effR_none, effR_ite, Option.isNone_none, Option.isNone_some, slA_zero, call_yield, e_range, it_func, wy_same, y_call, isLp_self, beg_normal, end_normal, end_ret, end_exit, end_ite, aft_ret, aft_ready, aft_done, aft_exit, setP_cons, setP_nil, sh_r, t_mkmap, t_mlook, t_mupd, t_mdel, mapF_some, lookF_some, setM_some, lookR_t, lookR_n, lookR_f, lookR_fn, lookV, mupdV, mdelV, mkM]
    refine ok_some (.inr ⟨by simp, .inr ⟨rfl, ?_, ?_, ?_, g, fr, hbad⟩⟩)
    all_goals simp (maxSteps := 10000000) (disch := omega) only [kp.l, kp.t0, kp.t4, kp.t5, lenV_sl, Int.toNat_natCast, bft, btf, gtst, st_len, hlv, hjI, hj, j0, q0, p0, p16, cond_true, cond_false, Nat.reduceBEq, Nat.reduceLT, decide_true, beq_self_eq_true, if_true, if_false]
  simp -implicitDefEqProofs (maxSteps := 10000000) (disch := omega) only [T12, L12, hB, hR, hI, lb12, kp.l, kp.t0, kp.t4, kp.t5, lenV_sl, Int.toNat_natCast, bft, btf, gtst, st_len, hlv, hjI, hj, j0, q0, p0, p16, pad, e_skip, e_ops, e_draw, d_none, d_nil, d_cons, d_ite, h_none, h_nil, h_cons, h_ite, eqS_same, lightV, e_seq, e_cond, e_block, e_exit, e_ret, s_normal, s_ret, s_exit, s_none, s_ite, b_normal, b_ret, b_exit, b_none, b_ite, c_bool, x_none, x_nil, x_cons, x_ite, p_some, p_none, p_ite, pt_some, pt_none, pv_some, pv_none, pv_ite, w_none, w_some, i_bool, i_undef, bt, bf, v_tmp, v_const, v_global, v_func, evs, f_normal, f_ret, f_none, f_ite, r_some, co_some, l_ptr, m_agg, m_one, sh_app, lk_nil, lk_cons, rd_eq, rdO_some, rdO_none, rdN_none, rdL_some, rdL_none, wrB_none, unitR_some, wr_nil, wr_here, wr_skip, k_cells, tk_zero, tk_take, tk_skip, tkC_some, call_func, gt, st, binV, arith, isSh, storeV, all1, idxAV, fieldV, faddrV, iaddrSV, iaddrAV, pickV, convV, unV, eqbV, eqpV, extV, mm2, mmV, nilckV, ress, res1, retV, Value.cells, cond_true, cond_false, Bool.true_or, Bool.false_or, Bool.or_true, Bool.or_false, beq_self_eq_true, if_true, if_false, ite_true, ite_false, decide_true, decide_false, decide_eq_true_eq, reduceIte, Nat.zero_add, Nat.add_zero, and_self, true_and, and_true, List.size_toArray, List.length_cons, List.length_nil, List.append_nil, List.nil_append, Int.toNat_zero, Bool.not_false, Bool.not_true, Bool.not_not, Bool.false_eq_true, Bool.true_eq_false, reduceCtorEq, Int.reduceLT, Int.reduceLE, Int.reduceToNat, Int.reduceAdd, Int.reduceSub, Int.reduceMul, Int.reduceNeg, Nat.reduceMul, Nat.reduceAdd, Nat.reduceSub, Nat.reduceBEq, Nat.reduceEqDiff, Nat.reduceLT, Nat.reduceLeDiff, Int.reduceBEq, Int.reduceEq, Nat.reducePow, Int.reducePow, IntWalk.i64_in, IntKind.bits, eqAV, eqL, leafEq, andO, fillV, buildSV, List.getElem?_toArray, List.getElem?_cons_zero, List.getElem?_cons_succ, List.getElem?_nil, Int.reduceGT, Int.reduceGE, Int.reduceBNe, Bool.true_and, Bool.and_true, Bool.false_and, Bool.and_false, Bool.and_self, IntWalk.u64_in, Int.cast_ofNat_Int, callF1, pad16, pad_0, pad_1, pad_2, pad_3, pad_4, pad_5, pad_6, pad_7, pad_8, pad_9, pad_10, pad_11, pad_12, pad_13, pad_14, pad_15, gc0, gc1, gc2, gc3, gc4, gc5, gc6, gc7, gc8, gc9, gc10, gc11, gc12, gc13, gc14, gc15, gcS, sc0, sc1, sc2, sc3, sc4, sc5, sc6, sc7, sc8, sc9, sc10, sc11, sc12, sc13, sc14, sc15, scS, List.drop_succ_cons, List.drop_nil, x_pan, s_pan, b_pan, pE_ret, pE_pan, pE_none, pE_ite, pvE_some, pvE_none, pvE_ite, rv_some, rv_none, rv_ite, oR_ret, t_mv, t_pick, t_alloc, t_box, t_build, t_buildS, t_load, t_store, t_nilck, t_bin, t_eqb, t_eqA, t_eqp, t_un, t_conv, t_field, t_idxA, t_faddr, t_iaddrS, t_iaddrA, t_ext, t_len, t_mm, t_call, t_ifc, t_fn, t_slc, t_slcA, t_slcT, t_tass, t_isn, t_mks, t_app, t_pan, panE_i, optE_none, optE_some, bnd_none, bnd_int, slA_none, slA_some, appR_some, appOld_cells, newsV_s, newsV_n, lenS_s, appV_nil, appV_some, mksV_i, sh_c, sh_g, f_pan, endD_ret, dfr_normal, dfr_ret, dfr_pan, restD_normal, callD1, callC1, tassV, isnV, slcV, slcAV, slcTV, slcB, appNew, Option.bind_some, Option.bind_none, d_pan, h_pan, wrH_eq, wrX_cells, wrU_some, upH_nil, upH_cons, lk_upH, effR_some, effR_none, effR_ite, Option.isNone_none, Option.isNone_some, slA_zero, call_yield, e_range, it_func, wy_same, y_call, isLp_self, beg_normal, end_normal, end_ret, end_exit, end_ite, aft_ret, aft_ready, aft_done, aft_exit, setP_cons, setP_nil, sh_r, t_mkmap, t_mlook, t_mupd, t_mdel, mapF_some, lookF_some, setM_some, lookR_t, lookR_n, lookR_f, lookR_fn, lookV, mupdV, mdelV, mkM]
  generalize hX : exec B _ _ (LC.loop _) _ = oo
  have hO : Ok oo (fun x s => x = .exit 2 ∧ s.H = H ∧ s.N = N ∧ ∃ last, LastP C p C.length last ∧ K12i (.slice (some ⟨b, o, none⟩) l.length cap) vO j p last C.length s.t) := by
    rw [← hX]
    refine loop_rule (n0 := 60) (fun q s => ∃ ts last, ∃ k : Nat, s = ⟨ts, H, N⟩ ∧ LastP C p k last ∧ K12i (.slice (some ⟨b, o, none⟩) l.length cap) vO j p last k ts ∧ k ≤ C.length ∧ q = C.length - k) _ ?_ C.length _ ⟨_, _, 0, rfl, LastP.zero, ⟨?_, ?_, ?_, ?_, ?_, ?_, ?_⟩, by omega, rfl⟩ _ (by omega)
    rotate_left
    iterate 7 simp -implicitDefEqProofs (maxSteps := 10000000) (disch := omega) only [T12, L12, hB, hR, hI, lb12, kp.l, kp.t0, kp.t4, kp.t5, lenV_sl, Int.toNat_natCast, bft, btf, gtst, st_len, pad, e_skip, e_ops, e_draw, d_none, d_nil, d_cons, d_ite, h_none, h_nil, h_cons, h_ite, eqS_same, lightV, e_seq, e_cond, e_block, e_exit, e_ret, s_normal, s_ret, s_exit, s_none, s_ite, b_normal, b_ret, b_exit, b_none, b_ite, c_bool, x_none, x_nil, x_cons, x_ite, p_some, p_none, p_ite, pt_some, pt_none, pv_some, pv_none, pv_ite, w_none, w_some, i_bool, i_undef, bt, bf, v_tmp, v_const, v_global, v_func, evs, f_normal, f_ret, f_none, f_ite, r_some, co_some, l_ptr, m_agg, m_one, sh_app, lk_nil, lk_cons, rd_eq, rdO_some, rdO_none, rdN_none, rdL_some, rdL_none, wrB_none, unitR_some, wr_nil, wr_here, wr_skip, k_cells, tk_zero, tk_take, tk_skip, tkC_some, call_func, gt, st, binV, arith, isSh, storeV, all1, idxAV, fieldV, faddrV, iaddrSV, iaddrAV, pickV, convV, unV, eqbV, eqpV, extV, mm2, mmV, nilckV, ress, res1, retV, Value.cells, cond_true, cond_false, Bool.true_or, Bool.false_or, Bool.or_true, Bool.or_false, beq_self_eq_true, if_true, if_false, ite_true, ite_false, decide_true, decide_false, decide_eq_true_eq, reduceIte, Nat.zero_add, Nat.add_zero, and_self, true_and, and_true, List.size_toArray, List.length_cons, List.length_nil, List.append_nil, List.nil_append, Int.toNat_zero, Bool.not_false, Bool.not_true, Bool.not_not, Bool.false_eq_true, Bool.true_eq_false, reduceCtorEq, Int.reduceLT, Int.reduceLE, Int.reduceToNat, Int.reduceAdd, Int.reduceSub, Int.reduceMul, Int.reduceNeg, Nat.reduceMul, Nat.reduceAdd, Nat.reduceSub, Nat.reduceBEq, Nat.reduceEqDiff, Nat.reduceLT, Nat.reduceLeDiff, Int.reduceBEq, Int.reduceEq, Nat.reducePow, Int.reducePow, IntWalk.i64_in, IntKind.bits, eqAV, eqL, leafEq, andO, fillV, buildSV, List.getElem?_toArray, List.getElem?_cons_zero, List.getElem?_cons_succ, List.getElem?_nil, Int.reduceGT, Int.reduceGE, Int.reduceBNe, Bool.true_and, Bool.and_true, Bool.false_and, Bool.and_false, Bool.and_self, IntWalk.u64_in, Int.cast_ofNat_Int, callF1, pad16, pad_0, pad_1, pad_2, pad_3, pad_4, pad_5, pad_6, pad_7, pad_8, pad_9, pad_10, pad_11, pad_12, pad_13, pad_14, pad_15, gc0, gc1, gc2, gc3, gc4, gc5, gc6, gc7, gc8, gc9, gc10, gc11, gc12, gc13, gc14, gc15, gcS, sc0, sc1, sc2, sc3, sc4, sc5, sc6, sc7, sc8, sc9, sc10, sc11, sc12, sc13, sc14, sc15, scS, List.drop_succ_cons, List.drop_nil, x_pan, s_pan, b_pan, pE_ret, pE_pan, pE_none, pE_ite, pvE_some, pvE_none, pvE_ite, rv_some, rv_none, rv_ite, oR_ret, t_mv, t_pick, t_alloc, t_box, t_build, t_buildS, t_load, t_store, t_nilck, t_bin, t_eqb, t_eqA, t_eqp, t_un, t_conv, t_field, t_idxA, t_faddr, t_iaddrS, t_iaddrA, t_ext, t_len, t_mm, t_call, t_ifc, t_fn, t_slc, t_slcA, t_slcT, t_tass, t_isn, t_mks, t_app, t_pan, panE_i, optE_none, optE_some, bnd_none, bnd_int, slA_none, slA_some, appR_some, appOld_cells, newsV_s, newsV_n, lenS_s, appV_nil, appV_some, mksV_i, sh_c, sh_g, f_pan, endD_ret, dfr_normal, dfr_ret, dfr_pan, restD_normal, callD1, callC1, tassV, isnV, slcV, slcAV, slcTV, slcB, appNew, Option.bind_some, Option.bind_none, d_pan, h_pan, wrH_eq, wrX_cells, wrU_some, upH_nil, upH_cons, lk_upH, effR_some, effR_none, effR_ite, Option.isNone_none, Option.isNone_some, slA_zero, call_yield, e_range, it_func, wy_same, y_call, isLp_self, beg_normal, end_normal, end_ret, end_exit, end_ite, aft_ret, aft_ready, aft_done, aft_exit, setP_cons, setP_nil, sh_r, t_mkmap, t_mlook, t_mupd, t_mdel, mapF_some, lookF_some, setM_some, lookR_t, lookR_n, lookR_f, lookR_fn, lookV, mupdV, mdelV, mkM]
    clear hX kp ts
    rintro n q s ⟨ts, last, k, rfl, hla, kp, hk, rfl⟩
    have hc2 : ((k + 1 : Nat) : Int) = (k : Int) + 1 := by omega
    by_cases hkn : k < C.length
    case neg =>
      obtain rfl : k = C.length := by omega
      simp -implicitDefEqProofs (maxSteps := 10000000) (disch := omega) only [T12, L12, hB, hR, hI, lb12, kp.l, kp.t0, kp.t4, kp.t5, kp.t6, kp.t7, kp.t8, lenV_sl, Int.toNat_natCast, bft, btf, gtst, st_len, hOl, Int.lt_irrefl, pad, e_skip, e_ops, e_draw, d_none, d_nil, d_cons, d_ite, h_none, h_nil, h_cons, h_ite, eqS_same, lightV, e_seq, e_cond, e_block, e_exit, e_ret, s_normal, s_ret, s_exit, s_none, s_ite, b_normal, b_ret, b_exit, b_none, b_ite, c_bool, x_none, x_nil, x_cons, x_ite, p_some, p_none, p_ite, pt_some, pt_none, pv_some, pv_none, pv_ite, w_none, w_some, i_bool, i_undef, bt, bf, v_tmp, v_const, v_global, v_func, evs, f_normal, f_ret, f_none, f_ite, r_some, co_some, l_ptr, m_agg, m_one, sh_app, lk_nil, lk_cons, rd_eq, rdO_some, rdO_none, rdN_none, rdL_some, rdL_none, wrB_none, unitR_some, wr_nil, wr_here, wr_skip, k_cells, tk_zero, tk_take, tk_skip, tkC_some, call_func, gt, st, binV, arith, isSh, storeV, all1, idxAV, fieldV, faddrV, iaddrSV, iaddrAV, pickV, convV, unV, eqbV, eqpV, extV, mm2, mmV, nilckV, ress, res1, retV, Value.cells, cond_true, cond_false, Bool.true_or, Bool.false_or, Bool.or_true, Bool.or_false, beq_self_eq_true, if_true, if_false, ite_true, ite_false, decide_true, decide_false, decide_eq_true_eq, reduceIte, Nat.zero_add, Nat.add_zero, and_self, true_and, and_true, List.size_toArray, List.length_cons, List.length_nil, List.append_nil, List.nil_append, Int.toNat_zero, Bool.not_false, Bool.not_true, Bool.not_not, Bool.false_eq_true, Bool.true_eq_false, reduceCtorEq, Int.reduceLT, Int.reduceLE, Int.reduceToNat, Int.reduceAdd, Int.reduceSub, Int.reduceMul, Int.reduceNeg, Nat.reduceMul, Nat.reduceAdd, Nat.reduceSub, Nat.reduceBEq, Nat.reduceEqDiff, Nat.reduceLT, Nat.reduceLeDiff, Int.reduceBEq, Int.reduceEq, Nat.reducePow, Int.reducePow, IntWalk.i64_in, IntKind.bits, eqAV, eqL, leafEq, andO, fillV, buildSV, List.getElem?_toArray, List.getElem?_cons_zero, List.getElem?_cons_succ, List.getElem?_nil, Int.reduceGT, Int.reduceGE, Int.reduceBNe, Bool.true_and, Bool.and_true, Bool.false_and, Bool.and_false, Bool.and_self, IntWalk.u64_in, Int.cast_ofNat_Int, callF1, pad16, pad_0, pad_1, pad_2, pad_3, pad_4, pad_5, pad_6, pad_7, pad_8, pad_9, pad_10, pad_11, pad_12, pad_13, pad_14, pad_15, gc0, gc1, gc2, gc3, gc4, gc5, gc6, gc7, gc8, gc9, gc10, gc11, gc12, gc13, gc14, gc15, gcS, sc0, sc1, sc2, sc3, sc4, sc5, sc6, sc7, sc8, sc9, sc10, sc11, sc12, sc13, sc14, sc15, scS, List.drop_succ_cons, List.drop_nil, x_pan, s_pan, b_pan, pE_ret, pE_pan, pE_none, pE_ite, pvE_some, pvE_none, pvE_ite, rv_some, rv_none, rv_ite, oR_ret, t_mv, t_pick, t_alloc, t_box, t_build, t_buildS, t_load, t_store, t_nilck, t_bin, t_eqb, t_eqA, t_eqp, t_un, t_conv, t_field, t_idxA, t_faddr, t_iaddrS, t_iaddrA, t_ext, t_len, t_mm, t_call, t_ifc, t_fn, t_slc, t_slcA, t_slcT, t_tass, t_isn, t_mks, t_app, t_pan, panE_i, optE_none, optE_some, bnd_none, bnd_int, slA_none, slA_some, appR_some, appOld_cells, newsV_s, newsV_n, lenS_s, appV_nil, appV_some, mksV_i, sh_c, sh_g, f_pan, endD_ret, dfr_normal, dfr_ret, dfr_pan, restD_normal, callD1, callC1, tassV, isnV, slcV, slcAV, slcTV, slcB, appNew, Option.bind_some, Option.bind_none, d_pan, h_pan, wrH_eq, wrX_cells, wrU_some, upH_nil, upH_cons, lk_upH, effR_some, effR_none, effR_ite, Option.isNone_none, Option.isNone_some, slA_zero, call_yield, e_range, it_func, wy_same, y_call, isLp_self, beg_normal, end_normal, end_ret, end_exit, end_ite, aft_ret, aft_ready, aft_done, aft_exit, setP_cons, setP_nil, sh_r, t_mkmap, t_mlook, t_mupd, t_mdel, mapF_some, lookF_some, setM_some, lookR_t, lookR_n, lookR_f, lookR_fn, lookV, mupdV, mdelV, mkM]
      refine ok_some (.inr ⟨by simp, rfl, rfl, rfl, last, hla, ⟨?_, ?_, ?_, ?_, ?_, ?_, ?_⟩⟩)
      all_goals simp (maxSteps := 10000000) (disch := omega) only [kp.l, kp.t0, kp.t4, kp.t5, kp.t6, kp.t7, kp.t8, lenV_sl, Int.toNat_natCast, bft, btf, gtst, st_len, cond_true, cond_false, Nat.reduceBEq, Nat.reduceLT, decide_true, beq_self_eq_true, if_true, if_false]
    have hkn' : (k : Int) < (C.length : Int) := by omega
    have k0 : (0 : Int) ≤ (k : Int) := by omega
    obtain ⟨bv, ov, cv, rfl, _, rc⟩ := (sO.rd cl9_len).at (by omega)
    have u0 : rdO H B bv (ov + k * 9) 1 (rdB B bv (ov + k * 9) 1) = some [.int .i64 (C.getD k z0).p] := (rc H Fr.refl k 0 1 z0 hkn (by omega)).trans rfl
    by_cases hp : (C.getD k z0).p = p
    · have hla' := LastP.hit (k := k) hp
      have hpb : ((C.getD k z0).p == p) = true := by simpa using hp
      simp -implicitDefEqProofs (maxSteps := 10000000) (disch := omega) only [T12, L12, hB, hR, hI, lb12, kp.l, kp.t0, kp.t4, kp.t5, kp.t6, kp.t7, kp.t8, lenV_sl, Int.toNat_natCast, bft, btf, gtst, st_len, hOl, hkn', hkn, k0, u0, hpb, pad, e_skip, e_ops, e_draw, d_none, d_nil, d_cons, d_ite, h_none, h_nil, h_cons, h_ite, eqS_same, lightV, e_seq, e_cond, e_block, e_exit, e_ret, s_normal, s_ret, s_exit, s_none, s_ite, b_normal, b_ret, b_exit, b_none, b_ite, c_bool, x_none, x_nil, x_cons, x_ite, p_some, p_none, p_ite, pt_some, pt_none, pv_some, pv_none, pv_ite, w_none, w_some, i_bool, i_undef, bt, bf, v_tmp, v_const, v_global, v_func, evs, f_normal, f_ret, f_none, f_ite, r_some, co_some, l_ptr, m_agg, m_one, sh_app, lk_nil, lk_cons, rd_eq, rdO_some, rdO_none, rdN_none, rdL_some, rdL_none, wrB_none, unitR_some, wr_nil, wr_here, wr_skip, k_cells, tk_zero, tk_take, tk_skip, tkC_some, call_func, gt, st, binV, arith, isSh, storeV, all1, idxAV, fieldV, faddrV, iaddrSV, iaddrAV, pickV, convV, unV, eqbV, eqpV, extV, mm2, mmV, nilckV, ress, res1, retV, Value.cells, cond_true, cond_false, Bool.true_or, Bool.false_or, Bool.or_true, Bool.or_false, beq_self_eq_true, if_true, if_false, ite_true, ite_false, decide_true, decide_false, decide_eq_true_eq, reduceIte, Nat.zero_add, Nat.add_zero, and_self, true_and, and_true, List.size_toArray, List.length_cons, List.length_nil, List.append_nil, List.nil_append, Int.toNat_zero, Bool.not_false, Bool.not_true, Bool.not_not, Bool.false_eq_true, Bool.true_eq_false, reduceCtorEq, Int.reduceLT, Int.reduceLE, Int.reduceToNat, Int.reduceAdd, Int.reduceSub, Int.reduceMul, Int.reduceNeg, Nat.reduceMul, Nat.reduceAdd, Nat.reduceSub, Nat.reduceBEq, Nat.reduceEqDiff, Nat.reduceLT, Nat.reduceLeDiff, Int.reduceBEq, Int.reduceEq, Nat.reducePow, Int.reducePow, IntWalk.i64_in, IntKind.bits, eqAV, eqL, leafEq, andO, fillV, buildSV, List.getElem?_toArray, List.getElem?_cons_zero, List.getElem?_cons_succ, List.getElem?_nil, Int.reduceGT, Int.reduceGE, Int.reduceBNe, Bool.true_and, Bool.and_true, Bool.false_and, Bool.and_false, Bool.and_self, IntWalk.u64_in, Int.cast_ofNat_Int, callF1, pad16, pad_0, pad_1, pad_2, pad_3, pad_4, pad_5, pad_6, pad_7, pad_8, pad_9, pad_10, pad_11, pad_12, pad_13, pad_14, pad_15, gc0, gc1, gc2, gc3, gc4, gc5, gc6, gc7, gc8, gc9, gc10, gc11, gc12, gc13, gc14, gc15, gcS, sc0, sc1, sc2, sc3, sc4, sc5, sc6, sc7, sc8, sc9, sc10, sc11, sc12, sc13, sc14, sc15, scS, List.drop_succ_cons, List.drop_nil, x_pan, s_pan, b_pan, pE_ret, pE_pan, pE_none, pE_ite, pvE_some, pvE_none, pvE_ite, rv_some, rv_none, rv_ite, oR_ret, t_mv, t_pick, t_alloc, t_box, t_build, t_buildS, t_load, t_store, t_nilck, t_bin, t_eqb, t_eqA, t_eqp, t_un, t_conv, t_field, t_idxA, t_faddr, t_iaddrS, t_iaddrA, t_ext, t_len, t_mm, t_call, t_ifc, t_fn, t_slc, t_slcA, t_slcT, t_tass, t_isn, t_mks, t_app, t_pan, panE_i, optE_none, optE_some, bnd_none, bnd_int, slA_none, slA_some, appR_some, appOld_cells, newsV_s, newsV_n, lenS_s, appV_nil, appV_some, mksV_i, sh_c, sh_g, f_pan, endD_ret, dfr_normal, dfr_ret, dfr_pan, restD_normal, callD1, callC1, tassV, isnV, slcV, slcAV, slcTV, slcB, appNew, Option.bind_some, Option.bind_none, d_pan, h_pan, wrH_eq, wrX_cells, wrU_some, upH_nil, upH_cons, lk_upH, effR_some, effR_none, effR_ite, Option.isNone_none, Option.isNone_some, slA_zero, call_yield, e_range, it_func, wy_same, y_call, isLp_self, beg_normal, end_normal, end_ret, end_exit, end_ite, aft_ret, aft_ready, aft_done, aft_exit, setP_cons, setP_nil, sh_r, t_mkmap, t_mlook, t_mupd, t_mdel, mapF_some, lookF_some, setM_some, lookR_t, lookR_n, lookR_f, lookR_fn, lookV, mupdV, mdelV, mkM]
      refine ok_some (.inl ⟨rfl, C.length - (k + 1), by omega, _, _, k + 1, rfl, hla', ⟨?_, ?_, ?_, ?_, ?_, ?_, ?_⟩, by omega, rfl⟩)
      all_goals simp (maxSteps := 10000000) (disch := omega) only [kp.l, kp.t0, kp.t4, kp.t5, kp.t6, kp.t7, kp.t8, lenV_sl, Int.toNat_natCast, bft, btf, gtst, st_len, hc2, cond_true, cond_false, Nat.reduceBEq, Nat.reduceLT, decide_true, beq_self_eq_true, if_true, if_false]
    · have hla' := hla.miss hp
      have hpb := beqI hp
      simp -implicitDefEqProofs (maxSteps := 10000000) (disch := omega) only [T12, L12, hB, hR, hI, lb12, kp.l, kp.t0, kp.t4, kp.t5, kp.t6, kp.t7, kp.t8, lenV_sl, Int.toNat_natCast, bft, btf, gtst, st_len, hOl, hkn', hkn, k0, u0, hpb, pad, e_skip, e_ops, e_draw, d_none, d_nil, d_cons, d_ite, h_none, h_nil, h_cons, h_ite, eqS_same, lightV, e_seq, e_cond, e_block, e_exit, e_ret, s_normal, s_ret, s_exit, s_none, s_ite, b_normal, b_ret, b_exit, b_none, b_ite, c_bool, x_none, x_nil, x_cons, x_ite, p_some, p_none, p_ite, pt_some, pt_none, pv_some, pv_none, pv_ite, w_none, w_some, i_bool, i_undef, bt, bf, v_tmp, v_const, v_global, v_func, evs, f_normal, f_ret, f_none, f_ite, r_some, co_some, l_ptr, m_agg, m_one, sh_app, lk_nil, lk_cons, rd_eq, rdO_some, rdO_none, rdN_none, rdL_some, rdL_none, wrB_none, unitR_some, wr_nil, wr_here, wr_skip, k_cells, tk_zero, tk_take, tk_skip, tkC_some, call_func, gt, st, binV, arith, isSh, storeV, all1, idxAV, fieldV, faddrV, iaddrSV, iaddrAV, pickV, convV, unV, eqbV, eqpV, extV, mm2, mmV, nilckV, ress, res1, retV, Value.cells, cond_true, cond_false, Bool.true_or, Bool.false_or, Bool.or_true, Bool.or_false, beq_self_eq_true, if_true, if_false, ite_true, ite_false, decide_true, decide_false, decide_eq_true_eq, reduceIte, Nat.zero_add, Nat.add_zero, and_self, true_and, and_true, List.size_toArray, List.length_cons, List.length_nil, List.append_nil, List.nil_append, Int.toNat_zero, Bool.not_false, Bool.not_true, Bool.not_not, Bool.false_eq_true, Bool.true_eq_false, reduceCtorEq, Int.reduceLT, Int.reduceLE, Int.reduceToNat, Int.reduceAdd, Int.reduceSub, Int.reduceMul, Int.reduceNeg, Nat.reduceMul, Nat.reduceAdd, Nat.reduceSub, Nat.reduceBEq, Nat.reduceEqDiff, Nat.reduceLT, Nat.reduceLeDiff, Int.reduceBEq, Int.reduceEq, Nat.reducePow, Int.reducePow, IntWalk.i64_in, IntKind.bits, eqAV, eqL, leafEq, andO, fillV, buildSV, List.getElem?_toArray, List.getElem?_cons_zero, List.getElem?_cons_succ, List.getElem?_nil, Int.reduceGT, Int.reduceGE, Int.reduceBNe, Bool.true_and, Bool.and_true, Bool.false_and, Bool.and_false, Bool.and_self, IntWalk.u64_in, Int.cast_ofNat_Int, callF1, pad16, pad_0, pad_1, pad_2, pad_3, pad_4, pad_5, pad_6, pad_7, pad_8, pad_9, pad_10, pad_11, pad_12, pad_13, pad_14, pad_15, gc0, gc1, gc2, gc3, gc4, gc5, gc6, gc7, gc8, gc9, gc10, gc11, gc12, gc13, gc14, gc15, gcS, sc0, sc1, sc2, sc3, sc4, sc5, sc6, sc7, sc8, sc9, sc10, sc11, sc12, sc13, sc14, sc15, scS, List.drop_succ_cons, List.drop_nil, x_pan, s_pan, b_pan, pE_ret, pE_pan, pE_none, pE_ite, pvE_some, pvE_none, pvE_ite, rv_some, rv_none, rv_ite, oR_ret, t_mv, t_pick, t_alloc, t_box, t_build, t_buildS, t_load, t_store, t_nilck, t_bin, t_eqb, t_eqA, t_eqp, t_un, t_conv, t_field, t_idxA, t_faddr, t_iaddrS, t_iaddrA, t_ext, t_len, t_mm, t_call, t_ifc, t_fn, t_slc, t_slcA, t_slcT, t_tass, t_isn, t_mks, t_app, t_pan, panE_i, optE_none, optE_some, bnd_none, bnd_int, slA_none, slA_some, appR_some, appOld_cells, newsV_s, newsV_n, lenS_s, appV_nil, appV_some, mksV_i, sh_c, sh_g, f_pan, endD_ret, dfr_normal, dfr_ret, dfr_pan, restD_normal, callD1, callC1, tassV, isnV, slcV, slcAV, slcTV, slcB, appNew, Option.bind_some, Option.bind_none, d_pan, h_pan, wrH_eq, wrX_cells, wrU_some, upH_nil, upH_cons, lk_upH, effR_some, effR_none, effR_ite, Option.isNone_none, Option.isNone_some, slA_zero, call_yield, e_range, it_func, wy_same, y_call, isLp_self, beg_normal, end_normal, end_ret, end_exit, end_ite, aft_ret, aft_ready, aft_done, aft_exit, setP_cons, setP_nil, sh_r, t_mkmap, t_mlook, t_mupd, t_mdel, mapF_some, lookF_some, setM_some, lookR_t, lookR_n, lookR_f, lookR_fn, lookV, mupdV, mdelV, mkM]
      refine ok_some (.inl ⟨rfl, C.length - (k + 1), by omega, _, _, k + 1, rfl, hla', ⟨?_, ?_, ?_, ?_, ?_, ?_, ?_⟩, by omega, rfl⟩)
      all_goals simp (maxSteps := 10000000) (disch := omega) only [kp.l, kp.t0, kp.t4, kp.t5, kp.t6, kp.t7, kp.t8, lenV_sl, Int.toNat_natCast, bft, btf, gtst, st_len, hc2, cond_true, cond_false, Nat.reduceBEq, Nat.reduceLT, decide_true, beq_self_eq_true, if_true, if_false]
  obtain ⟨x, ⟨ts, H1, N1⟩, rfl, rfl, rfl, rfl, last, hla, kp⟩ := hO
  simp only at kp
  cases ho : om p with
  | none =>
    have hU : (last = -1) ∨ (0 ≤ last ∧ last.toNat < C.length ∧ ∃ bo oc cap', vO = .slice (some ⟨bo, oc, none⟩) C.length cap' ∧ rdO H1 B bo (oc + last.toNat * 9 + 8) 1 (rdB B bo (oc + last.toNat * 9 + 8) 1) = some [.bool true]) := by
      rcases hla.none hinv ho with h | ⟨a, rfl, ha, hd⟩
      · exact .inl h
      · refine .inr ⟨by omega, by omega, ?_⟩
        obtain ⟨bv, ov, cv, rfl, _, rc⟩ := (sO.rd cl9_len).at (by omega)
        refine ⟨bv, ov, cv, rfl, ?_⟩
        rw [Int.toNat_natCast]
        exact (rc H1 Fr.refl a 8 1 z0 ha (by omega)).trans (by rw [← hd]; rfl)
    cases bb with
    | false =>
      have hbad : ¬ Fine l.length l := fun hf => hf j hj (by rw [hs, hx]; unfold cBad; exact .inr (.inr (.inl (by simp [ho]))))
      rcases hU with rfl | ⟨u1, u2, bo, oc, cap', rfl, u3⟩
      · simp -implicitDefEqProofs (maxSteps := 10000000) (disch := omega) only [T12, L12, hB, hR, hI, lb12, kp.l, kp.t0, kp.t4, kp.t5, kp.t6, kp.t7, kp.t8, lenV_sl, Int.toNat_natCast, bft, btf, gtst, st_len, hlv, hjI, hj, j0, q0, q1, pad, e_skip, e_ops, e_draw, d_none, d_nil, d_cons, d_ite, h_none, h_nil, h_cons, h_ite, eqS_same, lightV, e_seq, e_cond, e_block, e_exit, e_ret, s_normal, s_ret, s_exit, s_none, s_ite, b_normal, b_ret, b_exit, b_none, b_ite, c_bool, x_none, x_nil, x_cons, x_ite, p_some, p_none, p_ite, pt_some, pt_none, pv_some, pv_none, pv_ite, w_none, w_some, i_bool, i_undef, bt, bf, v_tmp, v_const, v_global, v_func, evs, f_normal, f_ret, f_none, f_ite, r_some, co_some, l_ptr, m_agg, m_one, sh_app, lk_nil, lk_cons, rd_eq, rdO_some, rdO_none, rdN_none, rdL_some, rdL_none, wrB_none, unitR_some, wr_nil, wr_here, wr_skip, k_cells, tk_zero, tk_take, tk_skip, tkC_some, call_func, gt, st, binV, arith, isSh, storeV, all1, idxAV, fieldV, faddrV, iaddrSV, iaddrAV, pickV, convV, unV, eqbV, eqpV, extV, mm2, mmV, nilckV, ress, res1, retV, Value.cells, cond_true, cond_false, Bool.true_or, Bool.false_or, Bool.or_true, Bool.or_false, beq_self_eq_true, if_true, if_false, ite_true, ite_false, decide_true, decide_false, decide_eq_true_eq, reduceIte, Nat.zero_add, Nat.add_zero, and_self, true_and, and_true, List.size_toArray, List.length_cons, List.length_nil, List.append_nil, List.nil_append, Int.toNat_zero, Bool.not_false, Bool.not_true, Bool.not_not, Bool.false_eq_true, Bool.true_eq_false, reduceCtorEq, Int.reduceLT, Int.reduceLE, Int.reduceToNat, Int.reduceAdd, Int.reduceSub, Int.reduceMul, Int.reduceNeg, Nat.reduceMul, Nat.reduceAdd, Nat.reduceSub, Nat.reduceBEq, Nat.reduceEqDiff, Nat.reduceLT, Nat.reduceLeDiff, Int.reduceBEq, Int.reduceEq, Nat.reducePow, Int.reducePow, IntWalk.i64_in, IntKind.bits, eqAV, eqL, leafEq, andO, fillV, buildSV, List.getElem?_toArray, List.getElem?_cons_zero, List.getElem?_cons_succ, List.getElem?_nil, Int.reduceGT, Int.reduceGE, Int.reduceBNe, Bool.true_and, Bool.and_true, Bool.false_and, Bool.and_false, Bool.and_self, IntWalk.u64_in, Int.cast_ofNat_Int, callF1, pad16, pad_0, pad_1, pad_2, pad_3, pad_4, pad_5, pad_6, pad_7, pad_8, pad_9, pad_10, pad_11, pad_12, pad_13, pad_14, pad_15, gc0, gc1, gc2, gc3, gc4, gc5, gc6, gc7, gc8, gc9, gc10, gc11, gc12, gc13, gc14, gc15, gcS, sc0, sc1, sc2, sc3, sc4, sc5, sc6, sc7, sc8, sc9, sc10, sc11, sc12, sc13, sc14, sc15, scS, List.drop_succ_cons, List.drop_nil, x_pan, s_pan, b_pan, pE_ret, pE_pan, pE_none, pE_ite, pvE_some, pvE_none, pvE_ite, rv_some, rv_none, rv_ite, oR_ret, t_mv, t_pick, t_alloc, t_box, t_build, t_buildS, t_load, t_store, t_nilck, t_bin, t_eqb, t_eqA, t_eqp, t_un, t_conv, t_field, t_idxA, t_faddr, t_iaddrS, t_iaddrA, t_ext, t_len, t_mm, t_call, t_ifc, t_fn, t_slc, t_slcA, t_slcT, t_tass, t_isn, t_mks, t_app, t_pan, panE_i, optE_none, optE_some, bnd_none, bnd_int, slA_none, slA_some, appR_some, appOld_cells, newsV_s, newsV_n, lenS_s, appV_nil, appV_some, mksV_i, sh_c, sh_g, f_pan, endD_ret, dfr_normal, dfr_ret, dfr_pan, restD_normal, callD1, callC1, tassV, isnV, slcV, slcAV, slcTV, slcB, appNew, Option.bind_some, Option.bind_none, d_pan, h_pan, wrH_eq, wrX_cells, wrU_some, upH_nil, upH_cons, lk_upH, effR_some, effR_none, effR_ite, Option.isNone_none, Option.isNone_some, slA_zero, call_yield, e_range, it_func, wy_same, y_call, isLp_self, beg_normal, end_normal, end_ret, end_exit, end_ite, aft_ret, aft_ready, aft_done, aft_exit, setP_cons, setP_nil, sh_r, t_mkmap, t_mlook, t_mupd, t_mdel, mapF_some, lookF_some, setM_some, lookR_t, lookR_n, lookR_f, lookR_fn, lookV, mupdV, mdelV, mkM]
        refine ok_some (.inr ⟨by simp, .inr ⟨rfl, ?_, ?_, ?_, g, fr, hbad⟩⟩)
        all_goals simp (maxSteps := 10000000) (disch := omega) only [kp.l, kp.t0, kp.t4, kp.t5, kp.t6, kp.t7, kp.t8, lenV_sl, Int.toNat_natCast, bft, btf, gtst, st_len, cond_true, cond_false, Nat.reduceBEq, Nat.reduceLT, decide_true, beq_self_eq_true, if_true, if_false]
      · have u4 : last ≥ 0 := u1
        simp -implicitDefEqProofs (maxSteps := 10000000) (disch := omega) only [T12, L12, hB, hR, hI, lb12, kp.l, kp.t0, kp.t4, kp.t5, kp.t6, kp.t7, kp.t8, lenV_sl, Int.toNat_natCast, bft, btf, gtst, st_len, hlv, hjI, hj, j0, q0, q1, u1, u2, u3, u4, pad, e_skip, e_ops, e_draw, d_none, d_nil, d_cons, d_ite, h_none, h_nil, h_cons, h_ite, eqS_same, lightV, e_seq, e_cond, e_block, e_exit, e_ret, s_normal, s_ret, s_exit, s_none, s_ite, b_normal, b_ret, b_exit, b_none, b_ite, c_bool, x_none, x_nil, x_cons, x_ite, p_some, p_none, p_ite, pt_some, pt_none, pv_some, pv_none, pv_ite, w_none, w_some, i_bool, i_undef, bt, bf, v_tmp, v_const, v_global, v_func, evs, f_normal, f_ret, f_none, f_ite, r_some, co_some, l_ptr, m_agg, m_one, sh_app, lk_nil, lk_cons, rd_eq, rdO_some, rdO_none, rdN_none, rdL_some, rdL_none, wrB_none, unitR_some, wr_nil, wr_here, wr_skip, k_cells, tk_zero, tk_take, tk_skip, tkC_some, call_func, gt, st, binV, arith, isSh, storeV, all1, idxAV, fieldV, faddrV, iaddrSV, iaddrAV, pickV, convV, unV, eqbV, eqpV, extV, mm2, mmV, nilckV, ress, res1, retV, Value.cells, cond_true, cond_false, Bool.true_or, Bool.false_or, Bool.or_true, Bool.or_false, beq_self_eq_true, if_true, if_false, ite_true, ite_false, decide_true, decide_false, decide_eq_true_eq, reduceIte, Nat.zero_add, Nat.add_zero, and_self, true_and, and_true, List.size_toArray, List.length_cons, List.length_nil, List.append_nil, List.nil_append, Int.toNat_zero, Bool.not_false, Bool.not_true, Bool.not_not, Bool.false_eq_true, Bool.true_eq_false, reduceCtorEq, Int.reduceLT, Int.reduceLE, Int.reduceToNat, Int.reduceAdd, Int.reduceSub, Int.reduceMul, Int.reduceNeg, Nat.reduceMul, Nat.reduceAdd, Nat.reduceSub, Nat.reduceBEq, Nat.reduceEqDiff, Nat.reduceLT, Nat.reduceLeDiff, Int.reduceBEq, Int.reduceEq, Nat.reducePow, Int.reducePow, IntWalk.i64_in, IntKind.bits, eqAV, eqL, leafEq, andO, fillV, buildSV, List.getElem?_toArray, List.getElem?_cons_zero, List.getElem?_cons_succ, List.getElem?_nil, Int.reduceGT, Int.reduceGE, Int.reduceBNe, Bool.true_and, Bool.and_true, Bool.false_and, Bool.and_false, Bool.and_self, IntWalk.u64_in, Int.cast_ofNat_Int, callF1, pad16, pad_0, pad_1, pad_2, pad_3, pad_4, pad_5, pad_6, pad_7, pad_8, pad_9, pad_10, pad_11, pad_12, pad_13, pad_14, pad_15, gc0, gc1, gc2, gc3, gc4, gc5, gc6, gc7, gc8, gc9, gc10, gc11, gc12, gc13, gc14, gc15, gcS, sc0, sc1, sc2, sc3, sc4, sc5, sc6, sc7, sc8, sc9, sc10, sc11, sc12, sc13, sc14, sc15, scS, List.drop_succ_cons, List.drop_nil, x_pan, s_pan, b_pan, pE_ret, pE_pan, pE_none, pE_ite, pvE_some, pvE_none, pvE_ite, rv_some, rv_none, rv_ite, oR_ret, t_mv, t_pick, t_alloc, t_box, t_build, t_buildS, t_load, t_store, t_nilck, t_bin, t_eqb, t_eqA, t_eqp, t_un, t_conv, t_field, t_idxA, t_faddr, t_iaddrS, t_iaddrA, t_ext, t_len, t_mm, t_call, t_ifc, t_fn, t_slc, t_slcA, t_slcT, t_tass, t_isn, t_mks, t_app, t_pan, panE_i, optE_none, optE_some, bnd_none, bnd_int, slA_none, slA_some, appR_some, appOld_cells, newsV_s, newsV_n, lenS_s, appV_nil, appV_some, mksV_i, sh_c, sh_g, f_pan, endD_ret, dfr_normal, dfr_ret, dfr_pan, restD_normal, callD1, callC1, tassV, isnV, slcV, slcAV, slcTV, slcB, appNew, Option.bind_some, Option.bind_none, d_pan, h_pan, wrH_eq, wrX_cells, wrU_some, upH_nil, upH_cons, lk_upH, effR_some, effR_none, effR_ite, Option.isNone_none, Option.isNone_some, slA_zero, call_yield, e_range, it_func, wy_same, y_call, isLp_self, beg_normal, end_normal, end_ret, end_exit, end_ite, aft_ret, aft_ready, aft_done, aft_exit, setP_cons, setP_nil, sh_r, t_mkmap, t_mlook, t_mupd, t_mdel, mapF_some, lookF_some, setM_some, lookR_t, lookR_n, lookR_f, lookR_fn, lookV, mupdV, mdelV, mkM]
        refine ok_some (.inr ⟨by simp, .inr ⟨rfl, ?_, ?_, ?_, g, fr, hbad⟩⟩)
        all_goals simp (maxSteps := 10000000) (disch := omega) only [kp.l, kp.t0, kp.t4, kp.t5, kp.t6, kp.t7, kp.t8, lenV_sl, Int.toNat_natCast, bft, btf, gtst, st_len, cond_true, cond_false, Nat.reduceBEq, Nat.reduceLT, decide_true, beq_self_eq_true, if_true, if_false]
    | true =>
      by_cases he : e = 0 ∧ r = 0
      case neg =>
        have hbad : ¬ Fine l.length l := fun hf => hf j hj (by rw [hs, hx]; unfold cBad; exact .inr (.inr (.inr (.inl ⟨rfl, he⟩))))
        have hcase : (e != 0) = true ∨ ((e != 0) = false ∧ (r != 0) = true) := by
          by_cases h : e = 0
          · right; exact ⟨by simpa using h, by simpa using fun hr => he ⟨h, hr⟩⟩
          · left; simpa using h
        rcases hU with rfl | ⟨u1, u2, bo, oc, cap', rfl, u3⟩
        · rcases hcase with h1 | ⟨h1, h2⟩
          · simp -implicitDefEqProofs (maxSteps := 10000000) (disch := omega) only [T12, L12, hB, hR, hI, lb12, kp.l, kp.t0, kp.t4, kp.t5, kp.t6, kp.t7, kp.t8, lenV_sl, Int.toNat_natCast, bft, btf, gtst, st_len, hlv, hjI, hj, j0, q0, q1, q50, q51, h1, pad, e_skip, e_ops, e_draw, d_none, d_nil, d_cons, d_ite, h_none, h_nil, h_cons, h_ite, eqS_same, lightV, e_seq, e_cond, e_block, e_exit, e_ret, s_normal, s_ret, s_exit, s_none, s_ite, b_normal, b_ret, b_exit, b_none, b_ite, c_bool, x_none, x_nil, x_cons, x_ite, p_some, p_none, p_ite, pt_some, pt_none, pv_some, pv_none, pv_ite, w_none, w_some, i_bool, i_undef, bt, bf, v_tmp, v_const, v_global, v_func, evs, f_normal, f_ret, f_none, f_ite, r_some, co_some, l_ptr, m_agg, m_one, sh_app, lk_nil, lk_cons, rd_eq, rdO_some, rdO_none, rdN_none, rdL_some, rdL_none, wrB_none, unitR_some, wr_nil, wr_here, wr_skip, k_cells, tk_zero, tk_take, tk_skip, tkC_some, call_func, gt, st, binV, arith, isSh, storeV, all1, idxAV, fieldV, faddrV, iaddrSV, iaddrAV, pickV, convV, unV, eqbV, eqpV, extV, mm2, mmV, nilckV, ress, res1, retV, Value.cells, cond_true, cond_false, Bool.true_or, Bool.false_or, Bool.or_true, Bool.or_false, beq_self_eq_true, if_true, if_false, ite_true, ite_false, decide_true, decide_false, decide_eq_true_eq, reduceIte, Nat.zero_add, Nat.add_zero, and_self, true_and, and_true, List.size_toArray, List.length_cons, List.length_nil, List.append_nil, List.nil_append, Int.toNat_zero, Bool.not_false, Bool.not_true, Bool.not_not, Bool.false_eq_true, Bool.true_eq_false, reduceCtorEq, Int.reduceLT, Int.reduceLE, Int.reduceToNat, Int.reduceAdd, Int.reduceSub, Int.reduceMul, Int.reduceNeg, Nat.reduceMul, Nat.reduceAdd, Nat.reduceSub, Nat.reduceBEq, Nat.reduceEqDiff, Nat.reduceLT, Nat.reduceLeDiff, Int.reduceBEq, Int.reduceEq, Nat.reducePow, Int.reducePow, IntWalk.i64_in, IntKind.bits, eqAV, eqL, leafEq, andO, fillV, buildSV, List.getElem?_toArray, List.getElem?_cons_zero, List.getElem?_cons_succ, List.getElem?_nil, Int.reduceGT, Int.reduceGE, Int.reduceBNe, Bool.true_and, Bool.and_true, Bool.false_and, Bool.and_false, Bool.and_self, IntWalk.u64_in, Int.cast_ofNat_Int, callF1, pad16, pad_0, pad_1, pad_2, pad_3, pad_4, pad_5, pad_6, pad_7, pad_8, pad_9, pad_10, pad_11, pad_12, pad_13, pad_14, pad_15, gc0, gc1, gc2, gc3, gc4, gc5, gc6, gc7, gc8, gc9, gc10, gc11, gc12, gc13, gc14, gc15, gcS, sc0, sc1, sc2, sc3, sc4, sc5, sc6, sc7, sc8, sc9, sc10, sc11, sc12, sc13, sc14, sc15, scS, List.drop_succ_cons, List.drop_nil, x_pan, s_pan, b_pan, pE_ret, pE_pan, pE_none, pE_ite, pvE_some, pvE_none, pvE_ite, rv_some, rv_none, rv_ite, oR_ret, t_mv, t_pick, t_alloc, t_box, t_build, t_buildS, t_load, t_store, t_nilck, t_bin, t_eqb, t_eqA, t_eqp, t_un, t_conv, t_field, t_idxA, t_faddr, t_iaddrS, t_iaddrA, t_ext, t_len, t_mm, t_call, t_ifc, t_fn, t_slc, t_slcA, t_slcT, t_tass, t_isn, t_mks, t_app, t_pan, panE_i, optE_none, optE_some, bnd_none, bnd_int, slA_none, slA_some, appR_some, appOld_cells, newsV_s, newsV_n, lenS_s, appV_nil, appV_some, mksV_i, sh_c, sh_g, f_pan, endD_ret, dfr_normal, dfr_ret, dfr_pan, restD_normal, callD1, callC1, tassV, isnV, slcV, slcAV, slcTV, slcB, appNew, Option.bind_some, Option.bind_none, d_pan, h_pan, wrH_eq, wrX_cells, wrU_some, upH_nil, upH_cons, lk_upH, effR_some, effR_none, effR_ite, Option.isNone_none, Option.isNone_some, slA_zero, call_yield, e_range, it_func, wy_same, y_call, isLp_self, beg_normal, end_normal, end_ret, end_exit, end_ite, aft_ret, aft_ready, aft_done, aft_exit, setP_cons, setP_nil, sh_r, t_mkmap, t_mlook, t_mupd, t_mdel, mapF_some, lookF_some, setM_some, lookR_t, lookR_n, lookR_f, lookR_fn, lookV, mupdV, mdelV, mkM]
            refine ok_some (.inr ⟨by simp, .inr ⟨rfl, ?_, ?_, ?_, g, fr, hbad⟩⟩)
            all_goals simp (maxSteps := 10000000) (disch := omega) only [kp.l, kp.t0, kp.t4, kp.t5, kp.t6, kp.t7, kp.t8, lenV_sl, Int.toNat_natCast, bft, btf, gtst, st_len, cond_true, cond_false, Nat.reduceBEq, Nat.reduceLT, decide_true, beq_self_eq_true, if_true, if_false]
          · simp -implicitDefEqProofs (maxSteps := 10000000) (disch := omega) only [T12, L12, hB, hR, hI, lb12, kp.l, kp.t0, kp.t4, kp.t5, kp.t6, kp.t7, kp.t8, lenV_sl, Int.toNat_natCast, bft, btf, gtst, st_len, hlv, hjI, hj, j0, q0, q1, q50, q51, h1, h2, pad, e_skip, e_ops, e_draw, d_none, d_nil, d_cons, d_ite, h_none, h_nil, h_cons, h_ite, eqS_same, lightV, e_seq, e_cond, e_block, e_exit, e_ret, s_normal, s_ret, s_exit, s_none, s_ite, b_normal, b_ret, b_exit, b_none, b_ite, c_bool, x_none, x_nil, x_cons, x_ite, p_some, p_none, p_ite, pt_some, pt_none, pv_some, pv_none, pv_ite, w_none, w_some, i_bool, i_undef, bt, bf, v_tmp, v_const, v_global, v_func, evs, f_normal, f_ret, f_none, f_ite, r_some, co_some, l_ptr, m_agg, m_one, sh_app, lk_nil, lk_cons, rd_eq, rdO_some, rdO_none, rdN_none, rdL_some, rdL_none, wrB_none, unitR_some, wr_nil, wr_here, wr_skip, k_cells, tk_zero, tk_take, tk_skip, tkC_some, call_func, gt, st, binV, arith, isSh, storeV, all1, idxAV, fieldV, faddrV, iaddrSV, iaddrAV, pickV, convV, unV, eqbV, eqpV, extV, mm2, mmV, nilckV, ress, res1, retV, Value.cells, cond_true, cond_false, Bool.true_or, Bool.false_or, Bool.or_true, Bool.or_false, beq_self_eq_true, if_true, if_false, ite_true, ite_false, decide_true, decide_false, decide_eq_true_eq, reduceIte, Nat.zero_add, Nat.add_zero, and_self, true_and, and_true, List.size_toArray, List.length_cons, List.length_nil, List.append_nil, List.nil_append, Int.toNat_zero, Bool.not_false, Bool.not_true, Bool.not_not, Bool.false_eq_true, Bool.true_eq_false, reduceCtorEq, Int.reduceLT, Int.reduceLE, Int.reduceToNat, Int.reduceAdd, Int.reduceSub, Int.reduceMul, Int.reduceNeg, Nat.reduceMul, Nat.reduceAdd, Nat.reduceSub, Nat.reduceBEq, Nat.reduceEqDiff, Nat.reduceLT, Nat.reduceLeDiff, Int.reduceBEq, Int.reduceEq, Nat.reducePow, Int.reducePow, IntWalk.i64_in, IntKind.bits, eqAV, eqL, leafEq, andO, fillV, buildSV, List.getElem?_toArray, List.getElem?_cons_zero, List.getElem?_cons_succ, List.getElem?_nil, Int.reduceGT, Int.reduceGE, Int.reduceBNe, Bool.true_and, Bool.and_true, Bool.false_and, Bool.and_false, Bool.and_self, IntWalk.u64_in, Int.cast_ofNat_Int, callF1, pad16, pad_0, pad_1, pad_2, pad_3, pad_4, pad_5, pad_6, pad_7, pad_8, pad_9, pad_10, pad_11, pad_12, pad_13, pad_14, pad_15, gc0, gc1, gc2, gc3, gc4, gc5, gc6, gc7, gc8, gc9, gc10, gc11, gc12, gc13, gc14, gc15, gcS, sc0, sc1, sc2, sc3, sc4, sc5, sc6, sc7, sc8, sc9, sc10, sc11, sc12, sc13, sc14, sc15, scS, List.drop_succ_cons, List.drop_nil, x_pan, s_pan, b_pan, pE_ret, pE_pan, pE_none, pE_ite, pvE_some, pvE_none, pvE_ite, rv_some, rv_none, rv_ite, oR_ret, t_mv, t_pick, t_alloc, t_box, t_build, t_buildS, t_load, t_store, t_nilck, t_bin, t_eqb, t_eqA, t_eqp, t_un, t_conv, t_field, t_idxA, t_faddr, t_iaddrS, t_iaddrA, t_ext, t_len, t_mm, t_call, t_ifc, t_fn, t_slc, t_slcA, t_slcT, t_tass, t_isn, t_mks, t_app, t_pan, panE_i, optE_none, optE_some, bnd_none, bnd_int, slA_none, slA_some, appR_some, appOld_cells, newsV_s, newsV_n, lenS_s, appV_nil, appV_some, mksV_i, sh_c, sh_g, f_pan, endD_ret, dfr_normal, dfr_ret, dfr_pan, restD_normal, callD1, callC1, tassV, isnV, slcV, slcAV, slcTV, slcB, appNew, Option.bind_some, Option.bind_none, d_pan, h_pan, wrH_eq, wrX_cells, wrU_some, upH_nil, upH_cons, lk_upH, effR_some, effR_none, effR_ite, Option.isNone_none, Option.isNone_some, slA_zero, call_yield, e_range, it_func, wy_same, y_call, isLp_self, beg_normal, end_normal, end_ret, end_exit, end_ite, aft_ret, aft_ready, aft_done, aft_exit, setP_cons, setP_nil, sh_r, t_mkmap, t_mlook, t_mupd, t_mdel, mapF_some, lookF_some, setM_some, lookR_t, lookR_n, lookR_f, lookR_fn, lookV, mupdV, mdelV, mkM]
            refine ok_some (.inr ⟨by simp, .inr ⟨rfl, ?_, ?_, ?_, g, fr, hbad⟩⟩)
            all_goals simp (maxSteps := 10000000) (disch := omega) only [kp.l, kp.t0, kp.t4, kp.t5, kp.t6, kp.t7, kp.t8, lenV_sl, Int.toNat_natCast, bft, btf, gtst, st_len, cond_true, cond_false, Nat.reduceBEq, Nat.reduceLT, decide_true, beq_self_eq_true, if_true, if_false]
        · have u4 : last ≥ 0 := u1
          rcases hcase with h1 | ⟨h1, h2⟩
          · simp -implicitDefEqProofs (maxSteps := 10000000) (disch := omega) only [T12, L12, hB, hR, hI, lb12, kp.l, kp.t0, kp.t4, kp.t5, kp.t6, kp.t7, kp.t8, lenV_sl, Int.toNat_natCast, bft, btf, gtst, st_len, hlv, hjI, hj, j0, q0, q1, q50, q51, h1, u1, u2, u3, u4, pad, e_skip, e_ops, e_draw, d_none, d_nil, d_cons, d_ite, h_none, h_nil, h_cons, h_ite, eqS_same, lightV, e_seq, e_cond, e_block, e_exit, e_ret, s_normal, s_ret, s_exit, s_none, s_ite, b_normal, b_ret, b_exit, b_none, b_ite, c_bool, x_none, x_nil, x_cons, x_ite, p_some, p_none, p_ite, pt_some, pt_none, pv_some, pv_none, pv_ite, w_none, w_some, i_bool, i_undef, bt, bf, v_tmp, v_const, v_global, v_func, evs, f_normal, f_ret, f_none, f_ite, r_some, co_some, l_ptr, m_agg, m_one, sh_app, lk_nil, lk_cons, rd_eq, rdO_some, rdO_none, rdN_none, rdL_some, rdL_none, wrB_none, unitR_some, wr_nil, wr_here, wr_skip, k_cells, tk_zero, tk_take, tk_skip, tkC_some, call_func, gt, st, binV, arith, isSh, storeV, all1, idxAV, fieldV, faddrV, iaddrSV, iaddrAV, pickV, convV, unV, eqbV, eqpV, extV, mm2, mmV, nilckV, ress, res1, retV, Value.cells, cond_true, cond_false, Bool.true_or, Bool.false_or, Bool.or_true, Bool.or_false, beq_self_eq_true, if_true, if_false, ite_true, ite_false, decide_true, decide_false, decide_eq_true_eq, reduceIte, Nat.zero_add, Nat.add_zero, and_self, true_and, and_true, List.size_toArray, List.length_cons, List.length_nil, List.append_nil, List.nil_append, Int.toNat_zero, Bool.not_false, Bool.not_true, Bool.not_not, Bool.false_eq_true, Bool.true_eq_false, reduceCtorEq, Int.reduceLT, Int.reduceLE, Int.reduceToNat, Int.reduceAdd, Int.reduceSub, Int.reduceMul, Int.reduceNeg, Nat.reduceMul, Nat.reduceAdd, Nat.reduceSub, Nat.reduceBEq, Nat.reduceEqDiff, Nat.reduceLT, Nat.reduceLeDiff, Int.reduceBEq, Int.reduceEq, Nat.reducePow, Int.reducePow, IntWalk.i64_in, IntKind.bits, eqAV, eqL, leafEq, andO, fillV, buildSV, List.getElem?_toArray, List.getElem?_cons_zero, List.getElem?_cons_succ, List.getElem?_nil, Int.reduceGT, Int.reduceGE, Int.reduceBNe, Bool.true_and, Bool.and_true, Bool.false_and, Bool.and_false, Bool.and_self, IntWalk.u64_in, Int.cast_ofNat_Int, callF1, pad16, pad_0, pad_1, pad_2, pad_3, pad_4, pad_5, pad_6, pad_7, pad_8, pad_9, pad_10, pad_11, pad_12, pad_13, pad_14, pad_15, gc0, gc1, gc2, gc3, gc4, gc5, gc6, gc7, gc8, gc9, gc10, gc11, gc12, gc13, gc14, gc15, gcS, sc0, sc1, sc2, sc3, sc4, sc5, sc6, sc7, sc8, sc9, sc10, sc11, sc12, sc13, sc14, sc15, scS, List.drop_succ_cons, List.drop_nil, x_pan, s_pan, b_pan, pE_ret, pE_pan, pE_none, pE_ite, pvE_some, pvE_none, pvE_ite, rv_some, rv_none, rv_ite, oR_ret, t_mv, t_pick, t_alloc, t_box, t_build, t_buildS, t_load, t_store, t_nilck, t_bin, t_eqb, t_eqA, t_eqp, t_un, t_conv, t_field, t_idxA, t_faddr, t_iaddrS, t_iaddrA, t_ext, t_len, t_mm, t_call, t_ifc, t_fn, t_slc, t_slcA, t_slcT, t_tass, t_isn, t_mks, t_app, t_pan, panE_i, optE_none, optE_some, bnd_none, bnd_int, slA_none, slA_some, appR_some, appOld_cells, newsV_s, newsV_n, lenS_s, appV_nil, appV_some, mksV_i, sh_c, sh_g, f_pan, endD_ret, dfr_normal, dfr_ret, dfr_pan, restD_normal, callD1, callC1, tassV, isnV, slcV, slcAV, slcTV, slcB, appNew, Option.bind_some, Option.bind_none, d_pan, h_pan, wrH_eq, wrX_cells, wrU_some, upH_nil, upH_cons, lk_upH, effR_some, effR_none, effR_ite, Option.isNone_none, Option.isNone_some, slA_zero, call_yield, e_range, it_func, wy_same, y_call, isLp_self, beg_normal, end_normal, end_ret, end_exit, end_ite, aft_ret, aft_ready, aft_done, aft_exit, setP_cons, setP_nil, sh_r, t_mkmap, t_mlook, t_mupd, t_mdel, mapF_some, lookF_some, setM_some, lookR_t, lookR_n, lookR_f, lookR_fn, lookV, mupdV, mdelV, mkM]
            refine ok_some (.inr ⟨by simp, .inr ⟨rfl, ?_, ?_, ?_, g, fr, hbad⟩⟩)
            all_goals simp (maxSteps := 10000000) (disch := omega) only [kp.l, kp.t0, kp.t4, kp.t5, kp.t6, kp.t7, kp.t8, lenV_sl, Int.toNat_natCast, bft, btf, gtst, st_len, cond_true, cond_false, Nat.reduceBEq, Nat.reduceLT, decide_true, beq_self_eq_true, if_true, if_false]
          · simp -implicitDefEqProofs (maxSteps := 10000000) (disch := omega) only [T12, L12, hB, hR, hI, lb12, kp.l, kp.t0, kp.t4, kp.t5, kp.t6, kp.t7, kp.t8, lenV_sl, Int.toNat_natCast, bft, btf, gtst, st_len, hlv, hjI, hj, j0, q0, q1, q50, q51, h1, h2, u1, u2, u3, u4, pad, e_skip, e_ops, e_draw, d_none, d_nil, d_cons, d_ite, h_none, h_nil, h_cons, h_ite, eqS_same, lightV, e_seq, e_cond, e_block, e_exit, e_ret, s_normal, s_ret, s_exit, s_none, s_ite, b_normal, b_ret, b_exit, b_none, b_ite, c_bool, x_none, x_nil, x_cons, x_ite, p_some, p_none, p_ite, pt_some, pt_none, pv_some, pv_none, pv_ite, w_none, w_some, i_bool, i_undef, bt, bf, v_tmp, v_const, v_global, v_func, evs, f_normal, f_ret, f_none, f_ite, r_some, co_some, l_ptr, m_agg, m_one, sh_app, lk_nil, lk_cons, rd_eq, rdO_some, rdO_none, rdN_none, rdL_some, rdL_none, wrB_none, unitR_some, wr_nil, wr_here, wr_skip, k_cells, tk_zero, tk_take, tk_skip, tkC_some, call_func, gt, st, binV, arith, isSh, storeV, all1, idxAV, fieldV, faddrV, iaddrSV, iaddrAV, pickV, convV, unV, eqbV, eqpV, extV, mm2, mmV, nilckV, ress, res1, retV, Value.cells, cond_true, cond_false, Bool.true_or, Bool.false_or, Bool.or_true, Bool.or_false, beq_self_eq_true, if_true, if_false, ite_true, ite_false, decide_true, decide_false, decide_eq_true_eq, reduceIte, Nat.zero_add, Nat.add_zero, and_self, true_and, and_true, List.size_toArray, List.length_cons, List.length_nil, List.append_nil, List.nil_append, Int.toNat_zero, Bool.not_false, Bool.not_true, Bool.not_not, Bool.false_eq_true, Bool.true_eq_false, reduceCtorEq, Int.reduceLT, Int.reduceLE, Int.reduceToNat, Int.reduceAdd, Int.reduceSub, Int.reduceMul, Int.reduceNeg, Nat.reduceMul, Nat.reduceAdd, Nat.reduceSub, Nat.reduceBEq, Nat.reduceEqDiff, Nat.reduceLT, Nat.reduceLeDiff, Int.reduceBEq, Int.reduceEq, Nat.reducePow, Int.reducePow, IntWalk.i64_in, IntKind.bits, eqAV, eqL, leafEq, andO, fillV, buildSV, List.getElem?_toArray, List.getElem?_cons_zero, List.getElem?_cons_succ, List.getElem?_nil, Int.reduceGT, Int.reduceGE, Int.reduceBNe, Bool.true_and, Bool.and_true, Bool.false_and, Bool.and_false, Bool.and_self, IntWalk.u64_in, Int.cast_ofNat_Int, callF1, pad16, pad_0, pad_1, pad_2, pad_3, pad_4, pad_5, pad_6, pad_7, pad_8, pad_9, pad_10, pad_11, pad_12, pad_13, pad_14, pad_15, gc0, gc1, gc2, gc3, gc4, gc5, gc6, gc7, gc8, gc9, gc10, gc11, gc12, gc13, gc14, gc15, gcS, sc0, sc1, sc2, sc3, sc4, sc5, sc6, sc7, sc8, sc9, sc10, sc11, sc12, sc13, sc14, sc15, scS, List.drop_succ_cons, List.drop_nil, x_pan, s_pan, b_pan, pE_ret, pE_pan, pE_none, pE_ite, pvE_some, pvE_none, pvE_ite, rv_some, rv_none, rv_ite, oR_ret, t_mv, t_pick, t_alloc, t_box, t_build, t_buildS, t_load, t_store, t_nilck, t_bin, t_eqb, t_eqA, t_eqp, t_un, t_conv, t_field, t_idxA, t_faddr, t_iaddrS, t_iaddrA, t_ext, t_len, t_mm, t_call, t_ifc, t_fn, t_slc, t_slcA, t_slcT, t_tass, t_isn, t_mks, t_app, t_pan, panE_i, optE_none, optE_some, bnd_none, bnd_int, slA_none, slA_some, appR_some, appOld_cells, newsV_s, newsV_n, lenS_s, appV_nil, appV_some, mksV_i, sh_c, sh_g, f_pan, endD_ret, dfr_normal, dfr_ret, dfr_pan, restD_normal, callD1, callC1, tassV, isnV, slcV, slcAV, slcTV, slcB, appNew, Option.bind_some, Option.bind_none, d_pan, h_pan, wrH_eq, wrX_cells, wrU_some, upH_nil, upH_cons, lk_upH, effR_some, effR_none, effR_ite, Option.isNone_none, Option.isNone_some, slA_zero, call_yield, e_range, it_func, wy_same, y_call, isLp_self, beg_normal, end_normal, end_ret, end_exit, end_ite, aft_ret, aft_ready, aft_done, aft_exit, setP_cons, setP_nil, sh_r, t_mkmap, t_mlook, t_mupd, t_mdel, mapF_some, lookF_some, setM_some, lookR_t, lookR_n, lookR_f, lookR_fn, lookV, mupdV, mdelV, mkM]
            refine ok_some (.inr ⟨by simp, .inr ⟨rfl, ?_, ?_, ?_, g, fr, hbad⟩⟩)
            all_goals simp (maxSteps := 10000000) (disch := omega) only [kp.l, kp.t0, kp.t4, kp.t5, kp.t6, kp.t7, kp.t8, lenV_sl, Int.toNat_natCast, bft, btf, gtst, st_len, cond_true, cond_false, Nat.reduceBEq, Nat.reduceLT, decide_true, beq_self_eq_true, if_true, if_false]
      obtain ⟨rfl, rfl⟩ := he
      have hnb : ¬ cBad om C ⟨p, true, c, k, w, 0, 0⟩ := by
        unfold cBad
        rintro (h | h | h | h | ⟨a, h, _⟩)
        · exact p0 h
        · simp only at h; omega
        · simp [ho] at h
        · exact h.2 ⟨rfl, rfl⟩
        · simp only [ho] at h; cases h
      have hrun : cRun l.length l (j + 1) = (upd om p (some C.length), C ++ [nuw l.length j ⟨p, true, c, k, w, 0, 0⟩]) := by rw [hrun]; simp only [cStep, ho]
      obtain ⟨v2, H2, N2, hap, g4, fr4, _, s4, _⟩ := push_spec cl9_len (bytes := 72) g fr sO (nuw l.length j ⟨p, true, c, k, w, 0, 0⟩) rfl (by omega) (by omega)
      simp only [cl9, nuw] at hap
      rcases hU with rfl | ⟨u1, u2, bo, oc, cap', rfl, u3⟩
      · simp -implicitDefEqProofs (maxSteps := 10000000) (disch := omega) only [T12, L12, hB, hR, hI, lb12, kp.l, kp.t0, kp.t4, kp.t5, kp.t6, kp.t7, kp.t8, lenV_sl, Int.toNat_natCast, bft, btf, gtst, st_len, hlv, hjI, hj, j0, q0, q1, q2, q50, q51, hap, bne_self_eq_false, pad, e_skip, e_ops, e_draw, d_none, d_nil, d_cons, d_ite, h_none, h_nil, h_cons, h_ite, eqS_same, lightV, e_seq, e_cond, e_block, e_exit, e_ret, s_normal, s_ret, s_exit, s_none, s_ite, b_normal, b_ret, b_exit, b_none, b_ite, c_bool, x_none, x_nil, x_cons, x_ite, p_some, p_none, p_ite, pt_some, pt_none, pv_some, pv_none, pv_ite, w_none, w_some, i_bool, i_undef, bt, bf, v_tmp, v_const, v_global, v_func, evs, f_normal, f_ret, f_none, f_ite, r_some, co_some, l_ptr, m_agg, m_one, sh_app, lk_nil, lk_cons, rd_eq, rdO_some, rdO_none, rdN_none, rdL_some, rdL_none, wrB_none, unitR_some, wr_nil, wr_here, wr_skip, k_cells, tk_zero, tk_take, tk_skip, tkC_some, call_func, gt, st, binV, arith, isSh, storeV, all1, idxAV, fieldV, faddrV, iaddrSV, iaddrAV, pickV, convV, unV, eqbV, eqpV, extV, mm2, mmV, nilckV, ress, res1, retV, Value.cells, cond_true, cond_false, Bool.true_or, Bool.false_or, Bool.or_true, Bool.or_false, beq_self_eq_true, if_true, if_false, ite_true, ite_false, decide_true, decide_false, decide_eq_true_eq, reduceIte, Nat.zero_add, Nat.add_zero, and_self, true_and, and_true, List.size_toArray, List.length_cons, List.length_nil, List.append_nil, List.nil_append, Int.toNat_zero, Bool.not_false, Bool.not_true, Bool.not_not, Bool.false_eq_true, Bool.true_eq_false, reduceCtorEq, Int.reduceLT, Int.reduceLE, Int.reduceToNat, Int.reduceAdd, Int.reduceSub, Int.reduceMul, Int.reduceNeg, Nat.reduceMul, Nat.reduceAdd, Nat.reduceSub, Nat.reduceBEq, Nat.reduceEqDiff, Nat.reduceLT, Nat.reduceLeDiff, Int.reduceBEq, Int.reduceEq, Nat.reducePow, Int.reducePow, IntWalk.i64_in, IntKind.bits, eqAV, eqL, leafEq, andO, fillV, buildSV, List.getElem?_toArray, List.getElem?_cons_zero, List.getElem?_cons_succ, List.getElem?_nil, Int.reduceGT, Int.reduceGE, Int.reduceBNe, Bool.true_and, Bool.and_true, Bool.false_and, Bool.and_false, Bool.and_self, IntWalk.u64_in, Int.cast_ofNat_Int, callF1, pad16, pad_0, pad_1, pad_2, pad_3, pad_4, pad_5, pad_6, pad_7, pad_8, pad_9, pad_10, pad_11, pad_12, pad_13, pad_14, pad_15, gc0, gc1, gc2, gc3, gc4, gc5, gc6, gc7, gc8, gc9, gc10, gc11, gc12, gc13, gc14, gc15, gcS, sc0, sc1, sc2, sc3, sc4, sc5, sc6, sc7, sc8, sc9, sc10, sc11, sc12, sc13, sc14, sc15, scS, List.drop_succ_cons, List.drop_nil, x_pan, s_pan, b_pan, pE_ret, pE_pan, pE_none, pE_ite, pvE_some, pvE_none, pvE_ite, rv_some, rv_none, rv_ite, oR_ret, t_mv, t_pick, t_alloc, t_box, t_build, t_buildS, t_load, t_store, t_nilck, t_bin, t_eqb, t_eqA, t_eqp, t_un, t_conv, t_field, t_idxA, t_faddr, t_iaddrS, t_iaddrA, t_ext, t_len, t_mm, t_call, t_ifc, t_fn, t_slc, t_slcA, t_slcT, t_tass, t_isn, t_mks, t_app, t_pan, panE_i, optE_none, optE_some, bnd_none, bnd_int, slA_none, slA_some, appR_some, appOld_cells, newsV_s, newsV_n, lenS_s, appV_nil, appV_some, mksV_i, sh_c, sh_g, f_pan, endD_ret, dfr_normal, dfr_ret, dfr_pan, restD_normal, callD1, callC1, tassV, isnV, slcV, slcAV, slcTV, slcB, appNew, Option.bind_some, Option.bind_none, d_pan, h_pan, wrH_eq, wrX_cells, wrU_some, upH_nil, upH_cons, lk_upH, effR_some, effR_none, effR_ite, Option.isNone_none, Option.isNone_some, slA_zero, call_yield, e_range, it_func, wy_same, y_call, isLp_self, beg_normal, end_normal, end_ret, end_exit, end_ite, aft_ret, aft_ready, aft_done, aft_exit, setP_cons, setP_nil, sh_r, t_mkmap, t_mlook, t_mupd, t_mdel, mapF_some, lookF_some, setM_some, lookR_t, lookR_n, lookR_f, lookR_fn, lookV, mupdV, mdelV, mkM]
        refine ok_some (.inl ⟨rfl, l.length - (j + 1), by omega, _, H2, N2, v2, j + 1, rfl, ⟨?_, ?_, ?_, ?_⟩, g4, fr4, by rw [hrun]; exact s4, hgd' hnb, by omega, rfl⟩)
        all_goals simp (maxSteps := 10000000) (disch := omega) only [kp.l, kp.t0, kp.t4, kp.t5, kp.t6, kp.t7, kp.t8, lenV_sl, Int.toNat_natCast, bft, btf, gtst, st_len, hc1, cond_true, cond_false, Nat.reduceBEq, Nat.reduceLT, decide_true, beq_self_eq_true, if_true, if_false]
      · have u4 : last ≥ 0 := u1
        simp -implicitDefEqProofs (maxSteps := 10000000) (disch := omega) only [T12, L12, hB, hR, hI, lb12, kp.l, kp.t0, kp.t4, kp.t5, kp.t6, kp.t7, kp.t8, lenV_sl, Int.toNat_natCast, bft, btf, gtst, st_len, hlv, hjI, hj, j0, q0, q1, q2, q50, q51, hap, u1, u2, u3, u4, bne_self_eq_false, pad, e_skip, e_ops, e_draw, d_none, d_nil, d_cons, d_ite, h_none, h_nil, h_cons, h_ite, eqS_same, lightV, e_seq, e_cond, e_block, e_exit, e_ret, s_normal, s_ret, s_exit, s_none, s_ite, b_normal, b_ret, b_exit, b_none, b_ite, c_bool, x_none, x_nil, x_cons, x_ite, p_some, p_none, p_ite, pt_some, pt_none, pv_some, pv_none, pv_ite, w_none, w_some, i_bool, i_undef, bt, bf, v_tmp, v_const, v_global, v_func, evs, f_normal, f_ret, f_none, f_ite, r_some, co_some, l_ptr, m_agg, m_one, sh_app, lk_nil, lk_cons, rd_eq, rdO_some, rdO_none, rdN_none, rdL_some, rdL_none, wrB_none, unitR_some, wr_nil, wr_here, wr_skip, k_cells, tk_zero, tk_take, tk_skip, tkC_some, call_func, gt, st, binV, arith, isSh, storeV, all1, idxAV, fieldV, faddrV, iaddrSV, iaddrAV, pickV, convV, unV, eqbV, eqpV, extV, mm2, mmV, nilckV, ress, res1, retV, Value.cells, cond_true, cond_false, Bool.true_or, Bool.false_or, Bool.or_true, Bool.or_false, beq_self_eq_true, if_true, if_false, ite_true, ite_false, decide_true, decide_false, decide_eq_true_eq, reduceIte, Nat.zero_add, Nat.add_zero, and_self, true_and, and_true, List.size_toArray, List.length_cons, List.length_nil, List.append_nil, List.nil_append, Int.toNat_zero, Bool.not_false, Bool.not_true, Bool.not_not, Bool.false_eq_true, Bool.true_eq_false, reduceCtorEq, Int.reduceLT, Int.reduceLE, Int.reduceToNat, Int.reduceAdd, Int.reduceSub, Int.reduceMul, Int.reduceNeg, Nat.reduceMul, Nat.reduceAdd, Nat.reduceSub, Nat.reduceBEq, Nat.reduceEqDiff, Nat.reduceLT, Nat.reduceLeDiff, Int.reduceBEq, Int.reduceEq, Nat.reducePow, Int.reducePow, IntWalk.i64_in, IntKind.bits, eqAV, eqL, leafEq, andO, fillV, buildSV, List.getElem?_toArray, List.getElem?_cons_zero, List.getElem?_cons_succ, List.getElem?_nil, Int.reduceGT, Int.reduceGE, Int.reduceBNe, Bool.true_and, Bool.and_true, Bool.false_and, Bool.and_false, Bool.and_self, IntWalk.u64_in, Int.cast_ofNat_Int, callF1, pad16, pad_0, pad_1, pad_2, pad_3, pad_4, pad_5, pad_6, pad_7, pad_8, pad_9, pad_10, pad_11, pad_12, pad_13, pad_14, pad_15, gc0, gc1, gc2, gc3, gc4, gc5, gc6, gc7, gc8, gc9, gc10, gc11, gc12, gc13, gc14, gc15, gcS, sc0, sc1, sc2, sc3, sc4, sc5, sc6, sc7, sc8, sc9, sc10, sc11, sc12, sc13, sc14, sc15, scS, List.drop_succ_cons, List.drop_nil, x_pan, s_pan, b_pan, pE_ret, pE_pan, pE_none, pE_ite, pvE_some, pvE_none, pvE_ite, rv_some, rv_none, rv_ite, oR_ret, t_mv, t_pick, t_alloc, t_box, t_build, t_buildS, t_load, t_store, t_nilck, t_bin, t_eqb, t_eqA, t_eqp, t_un, t_conv, t_field, t_idxA, t_faddr, t_iaddrS, t_iaddrA, t_ext, t_len, t_mm, t_call, t_ifc, t_fn, t_slc, t_slcA, t_slcT, t_tass, t_isn, t_mks, t_app, t_pan, panE_i, optE_none, optE_some, bnd_none, bnd_int, slA_none, slA_some, appR_some, appOld_cells, newsV_s, newsV_n, lenS_s, appV_nil, appV_some, mksV_i, sh_c, sh_g, f_pan, endD_ret, dfr_normal, dfr_ret, dfr_pan, restD_normal, callD1, callC1, tassV, isnV, slcV, slcAV, slcTV, slcB, appNew, Option.bind_some, Option.bind_none, d_pan, h_pan, wrH_eq, wrX_cells, wrU_some, upH_nil, upH_cons, lk_upH, effR_some, effR_none, effR_ite, Option.isNone_none, Option.isNone_some, slA_zero, call_yield, e_range, it_func, wy_same, y_call, isLp_self, beg_normal, end_normal, end_ret, end_exit, end_ite, aft_ret, aft_ready, aft_done, aft_exit, setP_cons, setP_nil, sh_r, t_mkmap, t_mlook, t_mupd, t_mdel, mapF_some, lookF_some, setM_some, lookR_t, lookR_n, lookR_f, lookR_fn, lookV, mupdV, mdelV, mkM]
        refine ok_some (.inl ⟨rfl, l.length - (j + 1), by omega, _, H2, N2, v2, j + 1, rfl, ⟨?_, ?_, ?_, ?_⟩, g4, fr4, by rw [hrun]; exact s4, hgd' hnb, by omega, rfl⟩)
        all_goals simp (maxSteps := 10000000) (disch := omega) only [kp.l, kp.t0, kp.t4, kp.t5, kp.t6, kp.t7, kp.t8, lenV_sl, Int.toNat_natCast, bft, btf, gtst, st_len, hc1, cond_true, cond_false, Nat.reduceBEq, Nat.reduceLT, decide_true, beq_self_eq_true, if_true, if_false]
  | some a =>
    obtain ⟨rfl, hac, had⟩ := hla.some hinv ho
    generalize hz : C.getD a z0 = ca at had
    have aI : (a : Int) ≥ 0 := by omega
    have aI' : (0 : Int) ≤ (a : Int) := by omega
    rcases sO with ⟨h0, _⟩ | ⟨bo, co, rfl, hBo, h0o, hle, hlk⟩
    · rw [h0] at hac; simp at hac
    have rN := fun o n => rdB_none (o := o) (n := n) hBo
    have r8 : tk (fl cl9 C) (a * 9 + 8) 1 = some [.bool false] := by rw [tk_fl cl9_len C a 8 1 z0 hac (by omega), hz, ← had]; rfl
    have r2 : tk (fl cl9 C) (a * 9 + 1) 3 = some [.int .i64 ca.c, .int .u64 ca.k, .int .u64 ca.v] := by rw [tk_fl cl9_len C a 1 3 z0 hac (by omega), hz]; rfl
    cases bb with
    | true =>
      have hbad : ¬ Fine l.length l := fun hf => hf j hj (by rw [hs, hx]; unfold cBad; exact .inr (.inr (.inl (by simp [ho]))))
      simp -implicitDefEqProofs (maxSteps := 10000000) (disch := omega) only [T12, L12, hB, hR, hI, lb12, kp.l, kp.t0, kp.t4, kp.t5, kp.t6, kp.t7, kp.t8, lenV_sl, Int.toNat_natCast, bft, btf, gtst, st_len, hlv, hjI, hj, j0, q0, q1, aI, aI', hac, hlk, rN, hBo, r8, pad, e_skip, e_ops, e_draw, d_none, d_nil, d_cons, d_ite, h_none, h_nil, h_cons, h_ite, eqS_same, lightV, e_seq, e_cond, e_block, e_exit, e_ret, s_normal, s_ret, s_exit, s_none, s_ite, b_normal, b_ret, b_exit, b_none, b_ite, c_bool, x_none, x_nil, x_cons, x_ite, p_some, p_none, p_ite, pt_some, pt_none, pv_some, pv_none, pv_ite, w_none, w_some, i_bool, i_undef, bt, bf, v_tmp, v_const, v_global, v_func, evs, f_normal, f_ret, f_none, f_ite, r_some, co_some, l_ptr, m_agg, m_one, sh_app, lk_nil, lk_cons, rd_eq, rdO_some, rdO_none, rdN_none, rdL_some, rdL_none, wrB_none, unitR_some, wr_nil, wr_here, wr_skip, k_cells, tk_zero, tk_take, tk_skip, tkC_some, call_func, gt, st, binV, arith, isSh, storeV, all1, idxAV, fieldV, faddrV, iaddrSV, iaddrAV, pickV, convV, unV, eqbV, eqpV, extV, mm2, mmV, nilckV, ress, res1, retV, Value.cells, cond_true, cond_false, Bool.true_or, Bool.false_or, Bool.or_true, Bool.or_false, beq_self_eq_true, if_true, if_false, ite_true, ite_false, decide_true, decide_false, decide_eq_true_eq, reduceIte, Nat.zero_add, Nat.add_zero, and_self, true_and, and_true, List.size_toArray, List.length_cons, List.length_nil, List.append_nil, List.nil_append, Int.toNat_zero, Bool.not_false, Bool.not_true, Bool.not_not, Bool.false_eq_true, Bool.true_eq_false, reduceCtorEq, Int.reduceLT, Int.reduceLE, Int.reduceToNat, Int.reduceAdd, Int.reduceSub, Int.reduceMul, Int.reduceNeg, Nat.reduceMul, Nat.reduceAdd, Nat.reduceSub, Nat.reduceBEq, Nat.reduceEqDiff, Nat.reduceLT, Nat.reduceLeDiff, Int.reduceBEq, Int.reduceEq, Nat.reducePow, Int.reducePow, IntWalk.i64_in, IntKind.bits, eqAV, eqL, leafEq, andO, fillV, buildSV, List.getElem?_toArray, List.getElem?_cons_zero, List.getElem?_cons_succ, List.getElem?_nil, Int.reduceGT, Int.reduceGE, Int.reduceBNe, Bool.true_and, Bool.and_true, Bool.false_and, Bool.and_false, Bool.and_self, IntWalk.u64_in, Int.cast_ofNat_Int, callF1, pad16, pad_0, pad_1, pad_2, pad_3, pad_4, pad_5, pad_6, pad_7, pad_8, pad_9, pad_10, pad_11, pad_12, pad_13, pad_14, pad_15, gc0, gc1, gc2, gc3, gc4, gc5, gc6, gc7, gc8, gc9, gc10, gc11, gc12, gc13, gc14, gc15, gcS, sc0, sc1, sc2, sc3, sc4, sc5, sc6, sc7, sc8, sc9, sc10, sc11, sc12, sc13, sc14, sc15, scS, List.drop_succ_cons, List.drop_nil, x_pan, s_pan, b_pan, pE_ret, pE_pan, pE_none, pE_ite, pvE_some, pvE_none, pvE_ite, rv_some, rv_none, rv_ite, oR_ret, t_mv, t_pick, t_alloc, t_box, t_build, t_buildS, t_load, t_store, t_nilck, t_bin, t_eqb, t_eqA, t_eqp, t_un, t_conv, t_field, t_idxA, t_faddr, t_iaddrS, t_iaddrA, t_ext, t_len, t_mm, t_call, t_ifc, t_fn, t_slc, t_slcA, t_slcT, t_tass, t_isn, t_mks, t_app, t_pan, panE_i, optE_none, optE_some, bnd_none, bnd_int, slA_none, slA_some, appR_some, appOld_cells, newsV_s, newsV_n, lenS_s, appV_nil, appV_some, mksV_i, sh_c, sh_g, f_pan, endD_ret, dfr_normal, dfr_ret, dfr_pan, restD_normal, callD1, callC1, tassV, isnV, slcV, slcAV, slcTV, slcB, appNew, Option.bind_some, Option.bind_none, d_pan, h_pan, wrH_eq, wrX_cells, wrU_some, upH_nil, upH_cons, lk_upH, effR_some, effR_none, effR_ite, Option.isNone_none, Option.isNone_some, slA_zero, call_yield, e_range, it_func, wy_same, y_call, isLp_self, beg_normal, end_normal, end_ret, end_exit, end_ite, aft_ret, aft_ready, aft_done, aft_exit, setP_cons, setP_nil, sh_r, t_mkmap, t_mlook, t_mupd, t_mdel, mapF_some, lookF_some, setM_some, lookR_t, lookR_n, lookR_f, lookR_fn, lookV, mupdV, mdelV, mkM]
      refine ok_some (.inr ⟨by simp, .inr ⟨rfl, ?_, ?_, ?_, g, fr, hbad⟩⟩)
      all_goals simp (maxSteps := 10000000) (disch := omega) only [kp.l, kp.t0, kp.t4, kp.t5, kp.t6, kp.t7, kp.t8, lenV_sl, Int.toNat_natCast, bft, btf, gtst, st_len, cond_true, cond_false, Nat.reduceBEq, Nat.reduceLT, decide_true, beq_self_eq_true, if_true, if_false]
    | false =>
      by_cases he : ca.c = c ∧ ca.k = k ∧ ca.v = w
      case neg =>
        have hbad : ¬ Fine l.length l := fun hf => hf j hj (by rw [hs, hx]; unfold cBad; exact .inr (.inr (.inr (.inr ⟨a, ho, by simp only [hz]; exact he⟩))))
        have hne : ((ca.c == c) && ((ca.k == k) && (ca.v == w))) = false := by
          simp only [Bool.and_eq_false_iff, beq_eq_false_iff_ne]
          exact Classical.byContradiction fun hc => by simp only [not_or, Decidable.not_not] at hc; exact he hc
        simp -implicitDefEqProofs (maxSteps := 10000000) (disch := omega) only [T12, L12, hB, hR, hI, lb12, kp.l, kp.t0, kp.t4, kp.t5, kp.t6, kp.t7, kp.t8, lenV_sl, Int.toNat_natCast, bft, btf, gtst, st_len, hlv, hjI, hj, j0, q0, q1, q2, aI, aI', hac, hlk, rN, hBo, r8, r2, hne, pad, e_skip, e_ops, e_draw, d_none, d_nil, d_cons, d_ite, h_none, h_nil, h_cons, h_ite, eqS_same, lightV, e_seq, e_cond, e_block, e_exit, e_ret, s_normal, s_ret, s_exit, s_none, s_ite, b_normal, b_ret, b_exit, b_none, b_ite, c_bool, x_none, x_nil, x_cons, x_ite, p_some, p_none, p_ite, pt_some, pt_none, pv_some, pv_none, pv_ite, w_none, w_some, i_bool, i_undef, bt, bf, v_tmp, v_const, v_global, v_func, evs, f_normal, f_ret, f_none, f_ite, r_some, co_some, l_ptr, m_agg, m_one, sh_app, lk_nil, lk_cons, rd_eq, rdO_some, rdO_none, rdN_none, rdL_some, rdL_none, wrB_none, unitR_some, wr_nil, wr_here, wr_skip, k_cells, tk_zero, tk_take, tk_skip, tkC_some, call_func, gt, st, binV, arith, isSh, storeV, all1, idxAV, fieldV, faddrV, iaddrSV, iaddrAV, pickV, convV, unV, eqbV, eqpV, extV, mm2, mmV, nilckV, ress, res1, retV, Value.cells, cond_true, cond_false, Bool.true_or, Bool.false_or, Bool.or_true, Bool.or_false, beq_self_eq_true, if_true, if_false, ite_true, ite_false, decide_true, decide_false, decide_eq_true_eq, reduceIte, Nat.zero_add, Nat.add_zero, and_self, true_and, and_true, List.size_toArray, List.length_cons, List.length_nil, List.append_nil, List.nil_append, Int.toNat_zero, Bool.not_false, Bool.not_true, Bool.not_not, Bool.false_eq_true, Bool.true_eq_false, reduceCtorEq, Int.reduceLT, Int.reduceLE, Int.reduceToNat, Int.reduceAdd, Int.reduceSub, Int.reduceMul, Int.reduceNeg, Nat.reduceMul, Nat.reduceAdd, Nat.reduceSub, Nat.reduceBEq, Nat.reduceEqDiff, Nat.reduceLT, Nat.reduceLeDiff, Int.reduceBEq, Int.reduceEq, Nat.reducePow, Int.reducePow, IntWalk.i64_in, IntKind.bits, eqAV, eqL, leafEq, andO, fillV, buildSV, List.getElem?_toArray, List.getElem?_cons_zero, List.getElem?_cons_succ, List.getElem?_nil, Int.reduceGT, Int.reduceGE, Int.reduceBNe, Bool.true_and, Bool.and_true, Bool.false_and, Bool.and_false, Bool.and_self, IntWalk.u64_in, Int.cast_ofNat_Int, callF1, pad16, pad_0, pad_1, pad_2, pad_3, pad_4, pad_5, pad_6, pad_7, pad_8, pad_9, pad_10, pad_11, pad_12, pad_13, pad_14, pad_15, gc0, gc1, gc2, gc3, gc4, gc5, gc6, gc7, gc8, gc9, gc10, gc11, gc12, gc13, gc14, gc15, gcS, sc0, sc1, sc2, sc3, sc4, sc5, sc6, sc7, sc8, sc9, sc10, sc11, sc12, sc13, sc14, sc15, scS, List.drop_succ_cons, List.drop_nil, x_pan, s_pan, b_pan, pE_ret, pE_pan, pE_none, pE_ite, pvE_some, pvE_none, pvE_ite, rv_some, rv_none, rv_ite, oR_ret, t_mv, t_pick, t_alloc, t_box, t_build, t_buildS, t_load, t_store, t_nilck, t_bin, t_eqb, t_eqA, t_eqp, t_un, t_conv, t_field, t_idxA, t_faddr, t_iaddrS, t_iaddrA, t_ext, t_len, t_mm, t_call, t_ifc, t_fn, t_slc, t_slcA, t_slcT, t_tass, t_isn, t_mks, t_app, t_pan, panE_i, optE_none, optE_some, bnd_none, bnd_int, slA_none, slA_some, appR_some, appOld_cells, newsV_s, newsV_n, lenS_s, appV_nil, appV_some, mksV_i, sh_c, sh_g, f_pan, endD_ret, dfr_normal, dfr_ret, dfr_pan, restD_normal, callD1, callC1, tassV, isnV, slcV, slcAV, slcTV, slcB, appNew, Option.bind_some, Option.bind_none, d_pan, h_pan, wrH_eq, wrX_cells, wrU_some, upH_nil, upH_cons, lk_upH, effR_some, effR_none, effR_ite, Option.isNone_none, Option.isNone_some, slA_zero, call_yield, e_range, it_func, wy_same, y_call, isLp_self, beg_normal, end_normal, end_ret, end_exit, end_ite, aft_ret, aft_ready, aft_done, aft_exit, setP_cons, setP_nil, sh_r, t_mkmap, t_mlook, t_mupd, t_mdel, mapF_some, lookF_some, setM_some, lookR_t, lookR_n, lookR_f, lookR_fn, lookV, mupdV, mdelV, mkM]
        refine ok_some (.inr ⟨by simp, .inr ⟨rfl, ?_, ?_, ?_, g, fr, hbad⟩⟩)
        all_goals simp (maxSteps := 10000000) (disch := omega) only [kp.l, kp.t0, kp.t4, kp.t5, kp.t6, kp.t7, kp.t8, lenV_sl, Int.toNat_natCast, bft, btf, gtst, st_len, cond_true, cond_false, Nat.reduceBEq, Nat.reduceLT, decide_true, beq_self_eq_true, if_true, if_false]
      obtain ⟨rfl, rfl, rfl⟩ := he
      have hnb : ¬ cBad om C ⟨p, false, ca.c, ca.k, ca.v, e, r⟩ := by
        unfold cBad
        rintro (h | h | h | h | ⟨a', h, h'⟩)
        · exact p0 h
        · simp only at h; omega
        · simp [ho] at h
        · cases h.1
        · simp only [ho] at h
          obtain rfl := Option.some.inj h
          exact h' (by simp only [hz]; exact ⟨trivial, trivial, trivial⟩)
      have hrun : cRun l.length l (j + 1) = (upd om p none, C.set a (fin j ⟨p, false, ca.c, ca.k, ca.v, e, r⟩ ca)) := by rw [hrun]; simp only [cStep, ho, hz]
      have w1 : wr (fl cl9 C) (a * 9 + 8) [.bool true] = some (fl cl9 (C.set a { ca with d := true })) := wr_fl cl9_len C a 8 _ z0 _ hac (by simp) (by rw [hz]; rfl)
      have w2 : wr (fl cl9 (C.set a { ca with d := true })) (a * 9 + 7) [.int .i64 (j : Int)] = some (fl cl9 (C.set a { ca with d := true, t := (j : Int) })) := by
        rw [wr_fl cl9_len (C.set a { ca with d := true }) a 7 _ z0 { ca with d := true, t := (j : Int) } (by simpa using hac) (by simp) (by rw [getD_set _ _ _ _ _ hac, if_pos rfl]; rfl), List.set_set]
      have w3 : wr (fl cl9 (C.set a { ca with d := true, t := (j : Int) })) (a * 9 + 4) [.int .i64 e, .int .u64 r] = some (fl cl9 (C.set a (fin j ⟨p, false, ca.c, ca.k, ca.v, e, r⟩ ca))) := by
        rw [wr_fl cl9_len (C.set a { ca with d := true, t := (j : Int) }) a 4 _ z0 (fin j ⟨p, false, ca.c, ca.k, ca.v, e, r⟩ ca) (by simpa using hac) (by simp) (by rw [getD_set _ _ _ _ _ hac, if_pos rfl]; rfl), List.set_set]
      have fu1 := fr_up (k := .cells (fl cl9 (C.set a { ca with d := true })) (co * 9)) fr h0o
      have fu2 := fr_up (k := .cells (fl cl9 (C.set a { ca with d := true, t := (j : Int) })) (co * 9)) fu1 h0o
      have fu3 := fr_up (k := .cells (fl cl9 (C.set a (fin j ⟨p, false, ca.c, ca.k, ca.v, e, r⟩ ca))) (co * 9)) fu2 h0o
      have gu1 := good_up (k := .cells (fl cl9 (C.set a { ca with d := true })) (co * 9)) g hBo hlk
      have gu2 := good_up (k := .cells (fl cl9 (C.set a { ca with d := true, t := (j : Int) })) (co * 9)) gu1 hBo (k' := .cells (fl cl9 (C.set a { ca with d := true })) (co * 9)) (by rw [lk_upH, beq_self_eq_true, cond_true])
      have gu3 := good_up (k := .cells (fl cl9 (C.set a (fin j ⟨p, false, ca.c, ca.k, ca.v, e, r⟩ ca))) (co * 9)) gu2 hBo (k' := .cells (fl cl9 (C.set a { ca with d := true, t := (j : Int) })) (co * 9)) (by rw [lk_upH, beq_self_eq_true, cond_true])
      have q53 := q52' _ fu2
      simp -implicitDefEqProofs (maxSteps := 10000000) (disch := omega) only [T12, L12, hB, hR, hI, lb12, kp.l, kp.t0, kp.t4, kp.t5, kp.t6, kp.t7, kp.t8, lenV_sl, Int.toNat_natCast, bft, btf, gtst, st_len, hlv, hjI, hj, j0, q0, q1, q2, aI, aI', hac, hlk, rN, hBo, r8, r2, w1, w2, w3, q53, pad, e_skip, e_ops, e_draw, d_none, d_nil, d_cons, d_ite, h_none, h_nil, h_cons, h_ite, eqS_same, lightV, e_seq, e_cond, e_block, e_exit, e_ret, s_normal, s_ret, s_exit, s_none, s_ite, b_normal, b_ret, b_exit, b_none, b_ite, c_bool, x_none, x_nil, x_cons, x_ite, p_some, p_none, p_ite, pt_some, pt_none, pv_some, pv_none, pv_ite, w_none, w_some, i_bool, i_undef, bt, bf, v_tmp, v_const, v_global, v_func, evs, f_normal, f_ret, f_none, f_ite, r_some, co_some, l_ptr, m_agg, m_one, sh_app, lk_nil, lk_cons, rd_eq, rdO_some, rdO_none, rdN_none, rdL_some, rdL_none, wrB_none, unitR_some, wr_nil, wr_here, wr_skip, k_cells, tk_zero, tk_take, tk_skip, tkC_some, call_func, gt, st, binV, arith, isSh, storeV, all1, idxAV, fieldV, faddrV, iaddrSV, iaddrAV, pickV, convV, unV, eqbV, eqpV, extV, mm2, mmV, nilckV, ress, res1, retV, Value.cells, cond_true, cond_false, Bool.true_or, Bool.false_or, Bool.or_true, Bool.or_false, beq_self_eq_true, if_true, if_false, ite_true, ite_false, decide_true, decide_false, decide_eq_true_eq, reduceIte, Nat.zero_add, Nat.add_zero, and_self, true_and, and_true, List.size_toArray, List.length_cons, List.length_nil, List.append_nil, List.nil_append, Int.toNat_zero, Bool.not_false, Bool.not_true, Bool.not_not, Bool.false_eq_true, Bool.true_eq_false, reduceCtorEq, Int.reduceLT, Int.reduceLE, Int.reduceToNat, Int.reduceAdd, Int.reduceSub, Int.reduceMul, Int.reduceNeg, Nat.reduceMul, Nat.reduceAdd, Nat.reduceSub, Nat.reduceBEq, Nat.reduceEqDiff, Nat.reduceLT, Nat.reduceLeDiff, Int.reduceBEq, Int.reduceEq, Nat.reducePow, Int.reducePow, IntWalk.i64_in, IntKind.bits, eqAV, eqL, leafEq, andO, fillV, buildSV, List.getElem?_toArray, List.getElem?_cons_zero, List.getElem?_cons_succ, List.getElem?_nil, Int.reduceGT, Int.reduceGE, Int.reduceBNe, Bool.true_and, Bool.and_true, Bool.false_and, Bool.and_false, Bool.and_self, IntWalk.u64_in, Int.cast_ofNat_Int, callF1, pad16, pad_0, pad_1, pad_2, pad_3, pad_4, pad_5, pad_6, pad_7, pad_8, pad_9, pad_10, pad_11, pad_12, pad_13, pad_14, pad_15, gc0, gc1, gc2, gc3, gc4, gc5, gc6, gc7, gc8, gc9, gc10, gc11, gc12, gc13, gc14, gc15, gcS, sc0, sc1, sc2, sc3, sc4, sc5, sc6, sc7, sc8, sc9, sc10, sc11, sc12, sc13, sc14, sc15, scS, List.drop_succ_cons, List.drop_nil, x_pan, s_pan, b_pan, pE_ret, pE_pan, pE_none, pE_ite, pvE_some, pvE_none, pvE_ite, rv_some, rv_none, rv_ite, oR_ret, t_mv, t_pick, t_alloc, t_box, t_build, t_buildS, t_load, t_store, t_nilck, t_bin, t_eqb, t_eqA, t_eqp, t_un, t_conv, t_field, t_idxA, t_faddr, t_iaddrS, t_iaddrA, t_ext, t_len, t_mm, t_call, t_ifc, t_fn, t_slc, t_slcA, t_slcT, t_tass, t_isn, t_mks, t_app, t_pan, panE_i, optE_none, optE_some, bnd_none, bnd_int, slA_none, slA_some, appR_some, appOld_cells, newsV_s, newsV_n, lenS_s, appV_nil, appV_some, mksV_i, sh_c, sh_g, f_pan, endD_ret, dfr_normal, dfr_ret, dfr_pan, restD_normal, callD1, callC1, tassV, isnV, slcV, slcAV, slcTV, slcB, appNew, Option.bind_some, Option.bind_none, d_pan, h_pan, wrH_eq, wrX_cells, wrU_some, upH_nil, upH_cons, lk_upH, effR_some, effR_none, effR_ite, Option.isNone_none, Option.isNone_some, slA_zero, call_yield, e_range, it_func, wy_same, y_call, isLp_self, beg_normal, end_normal, end_ret, end_exit, end_ite, aft_ret, aft_ready, aft_done, aft_exit, setP_cons, setP_nil, sh_r, t_mkmap, t_mlook, t_mupd, t_mdel, mapF_some, lookF_some, setM_some, lookR_t, lookR_n, lookR_f, lookR_fn, lookV, mupdV, mdelV, mkM]
      refine ok_some (.inl ⟨rfl, l.length - (j + 1), by omega, _, _, _, .slice (some ⟨bo, 0, none⟩) C.length co, j + 1, rfl, ⟨?_, ?_, ?_, ?_⟩, gu3, fu3, ?_, hgd' hnb, by omega, rfl⟩)
      rotate_right
      · rw [hrun]
        exact .inr ⟨bo, co, by simp, hBo, h0o, by simpa using hle, by rw [lk_upH, beq_self_eq_true, cond_true]⟩
      all_goals simp (maxSteps := 10000000) (disch := omega) only [kp.l, kp.t0, kp.t4, kp.t5, kp.t6, kp.t7, kp.t8, lenV_sl, Int.toNat_natCast, bft, btf, gtst, st_len, hc1, cond_true, cond_false, Nat.reduceBEq, Nat.reduceLT, decide_true, beq_self_eq_true, if_true, if_false]
set_option maxHeartbeats 4000000 in
theorem calls12 {B : OH} {H : HL} {N : St} {v : Value} {l : List Ev} (hN : good B H N) (hv : SlR ev7 7 B H v l) (hs : l.length ≤ 1000) : ∃ v' H' N', V12 B [v] H N = some (.ret (.tuple #[v', .int .i64 (cErr l)]), H', N') ∧ good B H' N' ∧ Fr H H' ∧ SlN cl9 9 B H H' v' (cls l) := by
  have hB := good_B hN
  have hR := good_rdB hN
  have hI := beqN hN.1.1
  have hlen := hv.len
  unfold V12
  have hl' : ¬ (l.length : Int) > 1000 := by omega
  simp -implicitDefEqProofs (maxSteps := 10000000) (disch := omega) only [T12, L12, hB, hR, hI, lenV_sl, Int.toNat_natCast, bft, btf, gtst, st_len, hlen, hl', pad, e_skip, e_ops, e_draw, d_none, d_nil, d_cons, d_ite, h_none, h_nil, h_cons, h_ite, eqS_same, lightV, e_seq, e_cond, e_block, e_exit, e_ret, s_normal, s_ret, s_exit, s_none, s_ite, b_normal, b_ret, b_exit, b_none, b_ite, c_bool, x_none, x_nil, x_cons, x_ite, p_some, p_none, p_ite, pt_some, pt_none, pv_some, pv_none, pv_ite, w_none, w_some, i_bool, i_undef, bt, bf, v_tmp, v_const, v_global, v_func, evs, f_normal, f_ret, f_none, f_ite, r_some, co_some, l_ptr, m_agg, m_one, sh_app, lk_nil, lk_cons, rd_eq, rdO_some, rdO_none, rdN_none, rdL_some, rdL_none, wrB_none, unitR_some, wr_nil, wr_here, wr_skip, k_cells, tk_zero, tk_take, tk_skip, tkC_some, call_func, gt, st, binV, arith, isSh, storeV, all1, idxAV, fieldV, faddrV, iaddrSV, iaddrAV, pickV, convV, unV, eqbV, eqpV, extV, mm2, mmV, nilckV, ress, res1, retV, Value.cells, cond_true, cond_false, Bool.true_or, Bool.false_or, Bool.or_true, Bool.or_false, beq_self_eq_true, if_true, if_false, ite_true, ite_false, decide_true, decide_false, decide_eq_true_eq, reduceIte, Nat.zero_add, Nat.add_zero, and_self, true_and, and_true, List.size_toArray, List.length_cons, List.length_nil, List.append_nil, List.nil_append, Int.toNat_zero, Bool.not_false, Bool.not_true, Bool.not_not, Bool.false_eq_true, Bool.true_eq_false, reduceCtorEq, Int.reduceLT, Int.reduceLE, Int.reduceToNat, Int.reduceAdd, Int.reduceSub, Int.reduceMul, Int.reduceNeg, Nat.reduceMul, Nat.reduceAdd, Nat.reduceSub, Nat.reduceBEq, Nat.reduceEqDiff, Nat.reduceLT, Nat.reduceLeDiff, Int.reduceBEq, Int.reduceEq, Nat.reducePow, Int.reducePow, IntWalk.i64_in, IntKind.bits, eqAV, eqL, leafEq, andO, fillV, buildSV, List.getElem?_toArray, List.getElem?_cons_zero, List.getElem?_cons_succ, List.getElem?_nil, Int.reduceGT, Int.reduceGE, Int.reduceBNe, Bool.true_and, Bool.and_true, Bool.false_and, Bool.and_false, Bool.and_self, IntWalk.u64_in, Int.cast_ofNat_Int, callF1, pad16, pad_0, pad_1, pad_2, pad_3, pad_4, pad_5, pad_6, pad_7, pad_8, pad_9, pad_10, pad_11, pad_12, pad_13, pad_14, pad_15, gc0, gc1, gc2, gc3, gc4, gc5, gc6, gc7, gc8, gc9, gc10, gc11, gc12, gc13, gc14, gc15, gcS, sc0, sc1, sc2, sc3, sc4, sc5, sc6, sc7, sc8, sc9, sc10, sc11, sc12, sc13, sc14, sc15, scS, List.drop_succ_cons, List.drop_nil, x_pan, s_pan, b_pan, pE_ret, pE_pan, pE_none, pE_ite, pvE_some, pvE_none, pvE_ite, rv_some, rv_none, rv_ite, oR_ret, t_mv, t_pick, t_alloc, t_box, t_build, t_buildS, t_load, t_store, t_nilck, t_bin, t_eqb, t_eqA, t_eqp, t_un, t_conv, t_field, t_idxA, t_faddr, t_iaddrS, t_iaddrA, t_ext, t_len, t_mm, t_call, t_ifc, t_fn, t_slc, t_slcA, t_slcT, t_tass, t_isn, t_mks, t_app, t_pan, panE_i, optE_none, optE_some, bnd_none, bnd_int, slA_none, slA_some, appR_some, appOld_cells, newsV_s, newsV_n, lenS_s, appV_nil, appV_some, mksV_i, sh_c, sh_g, f_pan, endD_ret, dfr_normal, dfr_ret, dfr_pan, restD_normal, callD1, callC1, tassV, isnV, slcV, slcAV, slcTV, slcB, appNew, Option.bind_some, Option.bind_none, d_pan, h_pan, wrH_eq, wrX_cells, wrU_some, upH_nil, upH_cons, lk_upH, effR_some, effR_none, effR_ite, Option.isNone_none, Option.isNone_some, slA_zero, call_yield, e_range, it_func, wy_same, y_call, isLp_self, beg_normal, end_normal, end_ret, end_exit, end_ite, aft_ret, aft_ready, aft_done, aft_exit, setP_cons, setP_nil, sh_r, t_mkmap, t_mlook, t_mupd, t_mdel, mapF_some, lookF_some, setM_some, lookR_t, lookR_n, lookR_f, lookR_fn, lookV, mupdV, mdelV, mkM]
  generalize hX : exec B _ _ (LC.loop _) _ = o
  have hO : Ok o (R12 B H l v) := by
    rw [← hX]
    exact loop12 hv hs ⟨rfl, rfl, rfl, rfl⟩ hN (by omega)
  obtain ⟨x, ⟨ts, H1, N1⟩, rfl, hr⟩ := hO
  rcases hr with ⟨rfl, vO, kp, g, f, s, hf⟩ | ⟨rfl, t0, t2, t3, g, f, hb⟩
  · simp only at kp
    have he := cErr_fine hs hf
    simp -implicitDefEqProofs (maxSteps := 10000000) (disch := omega) only [T12, L12, hB, hR, hI, kp.l, kp.t4, lenV_sl, Int.toNat_natCast, bft, btf, gtst, st_len, pad, e_skip, e_ops, e_draw, d_none, d_nil, d_cons, d_ite, h_none, h_nil, h_cons, h_ite, eqS_same, lightV, e_seq, e_cond, e_block, e_exit, e_ret, s_normal, s_ret, s_exit, s_none, s_ite, b_normal, b_ret, b_exit, b_none, b_ite, c_bool, x_none, x_nil, x_cons, x_ite, p_some, p_none, p_ite, pt_some, pt_none, pv_some, pv_none, pv_ite, w_none, w_some, i_bool, i_undef, bt, bf, v_tmp, v_const, v_global, v_func, evs, f_normal, f_ret, f_none, f_ite, r_some, co_some, l_ptr, m_agg, m_one, sh_app, lk_nil, lk_cons, rd_eq, rdO_some, rdO_none, rdN_none, rdL_some, rdL_none, wrB_none, unitR_some, wr_nil, wr_here, wr_skip, k_cells, tk_zero, tk_take, tk_skip, tkC_some, call_func, gt, st, binV, arith, isSh, storeV, all1, idxAV, fieldV, faddrV, iaddrSV, iaddrAV, pickV, convV, unV, eqbV, eqpV, extV, mm2, mmV, nilckV, ress, res1, retV, Value.cells, cond_true, cond_false, Bool.true_or, Bool.false_or, Bool.or_true, Bool.or_false, beq_self_eq_true, if_true, if_false, ite_true, ite_false, decide_true, decide_false, decide_eq_true_eq, reduceIte, Nat.zero_add, Nat.add_zero, and_self, true_and, and_true, List.size_toArray, List.length_cons, List.length_nil, List.append_nil, List.nil_append, Int.toNat_zero, Bool.not_false, Bool.not_true, Bool.not_not, Bool.false_eq_true, Bool.true_eq_false, reduceCtorEq, Int.reduceLT, Int.reduceLE, Int.reduceToNat, Int.reduceAdd, Int.reduceSub, Int.reduceMul, Int.reduceNeg, Nat.reduceMul, Nat.reduceAdd, Nat.reduceSub, Nat.reduceBEq, Nat.reduceEqDiff, Nat.reduceLT, Nat.reduceLeDiff, Int.reduceBEq, Int.reduceEq, Nat.reducePow, Int.reducePow, IntWalk.i64_in, IntKind.bits, eqAV, eqL, leafEq, andO, fillV, buildSV, List.getElem?_toArray, List.getElem?_cons_zero, List.getElem?_cons_succ, List.getElem?_nil, Int.reduceGT, Int.reduceGE, Int.reduceBNe, Bool.true_and, Bool.and_true, Bool.false_and, Bool.and_false, Bool.and_self, IntWalk.u64_in, Int.cast_ofNat_Int, callF1, pad16, pad_0, pad_1, pad_2, pad_3, pad_4, pad_5, pad_6, pad_7, pad_8, pad_9, pad_10, pad_11, pad_12, pad_13, pad_14, pad_15, gc0, gc1, gc2, gc3, gc4, gc5, gc6, gc7, gc8, gc9, gc10, gc11, gc12, gc13, gc14, gc15, gcS, sc0, sc1, sc2, sc3, sc4, sc5, sc6, sc7, sc8, sc9, sc10, sc11, sc12, sc13, sc14, sc15, scS, List.drop_succ_cons, List.drop_nil, x_pan, s_pan, b_pan, pE_ret, pE_pan, pE_none, pE_ite, pvE_some, pvE_none, pvE_ite, rv_some, rv_none, rv_ite, oR_ret, t_mv, t_pick, t_alloc, t_box, t_build, t_buildS, t_load, t_store, t_nilck, t_bin, t_eqb, t_eqA, t_eqp, t_un, t_conv, t_field, t_idxA, t_faddr, t_iaddrS, t_iaddrA, t_ext, t_len, t_mm, t_call, t_ifc, t_fn, t_slc, t_slcA, t_slcT, t_tass, t_isn, t_mks, t_app, t_pan, panE_i, optE_none, optE_some, bnd_none, bnd_int, slA_none, slA_some, appR_some, appOld_cells, newsV_s, newsV_n, lenS_s, appV_nil, appV_some, mksV_i, sh_c, sh_g, f_pan, endD_ret, dfr_normal, dfr_ret, dfr_pan, restD_normal, callD1, callC1, tassV, isnV, slcV, slcAV, slcTV, slcB, appNew, Option.bind_some, Option.bind_none, d_pan, h_pan, wrH_eq, wrX_cells, wrU_some, upH_nil, upH_cons, lk_upH, effR_some, effR_none, effR_ite, Option.isNone_none, Option.isNone_some, slA_zero, call_yield, e_range, it_func, wy_same, y_call, isLp_self, beg_normal, end_normal, end_ret, end_exit, end_ite, aft_ret, aft_ready, aft_done, aft_exit, setP_cons, setP_nil, sh_r, t_mkmap, t_mlook, t_mupd, t_mdel, mapF_some, lookF_some, setM_some, lookR_t, lookR_n, lookR_f, lookR_fn, lookV, mupdV, mdelV, mkM]
    exact ⟨_, _, _, by rw [he], g, f, by rw [cls_fine he]; exact s⟩
  · simp only at t0 t2 t3
    have he := cErr_bad hs hb
    simp -implicitDefEqProofs (maxSteps := 10000000) (disch := omega) only [T12, L12, hB, hR, hI, t0, t2, t3, lenV_sl, Int.toNat_natCast, bft, btf, gtst, st_len, pad, e_skip, e_ops, e_draw, d_none, d_nil, d_cons, d_ite, h_none, h_nil, h_cons, h_ite, eqS_same, lightV, e_seq, e_cond, e_block, e_exit, e_ret, s_normal, s_ret, s_exit, s_none, s_ite, b_normal, b_ret, b_exit, b_none, b_ite, c_bool, x_none, x_nil, x_cons, x_ite, p_some, p_none, p_ite, pt_some, pt_none, pv_some, pv_none, pv_ite, w_none, w_some, i_bool, i_undef, bt, bf, v_tmp, v_const, v_global, v_func, evs, f_normal, f_ret, f_none, f_ite, r_some, co_some, l_ptr, m_agg, m_one, sh_app, lk_nil, lk_cons, rd_eq, rdO_some, rdO_none, rdN_none, rdL_some, rdL_none, wrB_none, unitR_some, wr_nil, wr_here, wr_skip, k_cells, tk_zero, tk_take, tk_skip, tkC_some, call_func, gt, st, binV, arith, isSh, storeV, all1, idxAV, fieldV, faddrV, iaddrSV, iaddrAV, pickV, convV, unV, eqbV, eqpV, extV, mm2, mmV, nilckV, ress, res1, retV, Value.cells, cond_true, cond_false, Bool.true_or, Bool.false_or, Bool.or_true, Bool.or_false, beq_self_eq_true, if_true, if_false, ite_true, ite_false, decide_true, decide_false, decide_eq_true_eq, reduceIte, Nat.zero_add, Nat.add_zero, and_self, true_and, and_true, List.size_toArray, List.length_cons, List.length_nil, List.append_nil, List.nil_append, Int.toNat_zero, Bool.not_false, Bool.not_true, Bool.not_not, Bool.false_eq_true, Bool.true_eq_false, reduceCtorEq, Int.reduceLT, Int.reduceLE, Int.reduceToNat, Int.reduceAdd, Int.reduceSub, Int.reduceMul, Int.reduceNeg, Nat.reduceMul, Nat.reduceAdd, Nat.reduceSub, Nat.reduceBEq, Nat.reduceEqDiff, Nat.reduceLT, Nat.reduceLeDiff, Int.reduceBEq, Int.reduceEq, Nat.reducePow, Int.reducePow, IntWalk.i64_in, IntKind.bits, eqAV, eqL, leafEq, andO, fillV, buildSV, List.getElem?_toArray, List.getElem?_cons_zero, List.getElem?_cons_succ, List.getElem?_nil, Int.reduceGT, Int.reduceGE, Int.reduceBNe, Bool.true_and, Bool.and_true, Bool.false_and, Bool.and_false, Bool.and_self, IntWalk.u64_in, Int.cast_ofNat_Int, callF1, pad16, pad_0, pad_1, pad_2, pad_3, pad_4, pad_5, pad_6, pad_7, pad_8, pad_9, pad_10, pad_11, pad_12, pad_13, pad_14, pad_15, gc0, gc1, gc2, gc3, gc4, gc5, gc6, gc7, gc8, gc9, gc10, gc11, gc12, gc13, gc14, gc15, gcS, sc0, sc1, sc2, sc3, sc4, sc5, sc6, sc7, sc8, sc9, sc10, sc11, sc12, sc13, sc14, sc15, scS, List.drop_succ_cons, List.drop_nil, x_pan, s_pan, b_pan, pE_ret, pE_pan, pE_none, pE_ite, pvE_some, pvE_none, pvE_ite, rv_some, rv_none, rv_ite, oR_ret, t_mv, t_pick, t_alloc, t_box, t_build, t_buildS, t_load, t_store, t_nilck, t_bin, t_eqb, t_eqA, t_eqp, t_un, t_conv, t_field, t_idxA, t_faddr, t_iaddrS, t_iaddrA, t_ext, t_len, t_mm, t_call, t_ifc, t_fn, t_slc, t_slcA, t_slcT, t_tass, t_isn, t_mks, t_app, t_pan, panE_i, optE_none, optE_some, bnd_none, bnd_int, slA_none, slA_some, appR_some, appOld_cells, newsV_s, newsV_n, lenS_s, appV_nil, appV_some, mksV_i, sh_c, sh_g, f_pan, endD_ret, dfr_normal, dfr_ret, dfr_pan, restD_normal, callD1, callC1, tassV, isnV, slcV, slcAV, slcTV, slcB, appNew, Option.bind_some, Option.bind_none, d_pan, h_pan, wrH_eq, wrX_cells, wrU_some, upH_nil, upH_cons, lk_upH, effR_some, effR_none, effR_ite, Option.isNone_none, Option.isNone_some, slA_zero, call_yield, e_range, it_func, wy_same, y_call, isLp_self, beg_normal, end_normal, end_ret, end_exit, end_ite, aft_ret, aft_ready, aft_done, aft_exit, setP_cons, setP_nil, sh_r, t_mkmap, t_mlook, t_mupd, t_mdel, mapF_some, lookF_some, setM_some, lookR_t, lookR_n, lookR_f, lookR_fn, lookV, mupdV, mdelV, mkM]
    exact ⟨_, _, _, by rw [he], g, f, .inl ⟨cls_bad (by omega), rfl⟩⟩
end Go.Proofs.Ytkohdcjeankhkaa
