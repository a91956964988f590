/- The statement HistBack of layer 20: whatever the input, it answers true and leaves its input as it was. -/
import Derived.Test.YtkohdcjeankhkaaOwnD
import Derived.Test.YtkohdcjeankhkaaRows
set_option linter.unusedSimpArgs false
set_option linter.unusedVariables false
namespace Go.Proofs.Ytkohdcjeankhkaa
open Go.Proofs.Ytkohdcjeankhkaa.K
/-! ### More about raw histories -/
theorem gMany_le (w : List R3) : gMany w ≤ 30 ∧ gMany w ≤ w.length := by unfold gMany; omega
theorem g_err (w : List R3) : cErr (gEvs w) = 0 := cErr_fine (by rw [gEvs_len]; have := gMany_le w; omega) (by rw [gEvs_len]; exact gFine w)
theorem g_cls (w : List R3) : cls (gEvs w) = gCls w := by rw [cls_fine (g_err w), gEvs_len]; rfl
theorem gCls_len (w : List R3) : (gCls w).length ≤ 30 := by
  have := cLen (gMany w) (gEvs w) (gMany w)
  have := gMany_le w
  unfold gCls; omega
theorem gEvs_p {w : List R3} {i : Nat} {x : Ev} (h : (gEvs w)[i]? = some x) : 0 ≤ x.p ∧ x.p < 5 := by
  have hi : i < gMany w := by have := (List.getElem?_eq_some_iff.1 h).1; rwa [gEvs_len] at this
  have hb := pk_b (x := (w.getD i (0, 0, 0)).1) (n := 5) (by omega)
  have := gEvs_at w i hi
  rw [getD_some h] at this
  split at this <;> (subst this; exact hb)
/-! ### How many are under way -/
def unw (i : Int) (c : Cl) : Bool := decide (c.f ≤ i) && decide (i < c.t)
def cnt (C : List Cl) (i : Int) : Nat := C.countP (unw i)
theorem countP_one {α : Type} {p q : α → Bool} : ∀ {l : List α} {a : Nat} {c : α}, l[a]? = some c → p c = false → q c = true → (∀ b d, b ≠ a → l[b]? = some d → p d = q d) → l.countP q = l.countP p + 1
  | x :: l, 0, c, h, hp, hq, ho => by
    obtain rfl : x = c := by simpa using h
    have : l.countP q = l.countP p := List.countP_congr fun d hd => by
      obtain ⟨b, hb⟩ := List.getElem?_of_mem hd
      rw [ho (b + 1) d (by omega) (by simpa using hb)]
    simp [List.countP_cons, hp, hq, this]
  | x :: l, a + 1, c, h, hp, hq, ho => by
    have ih := countP_one (l := l) (a := a) (c := c) (by simpa using h) hp hq (fun b d hb hd => ho (b + 1) d (by omega) (by simpa using hd))
    have hx := ho 0 x (by omega) rfl
    simp only [List.countP_cons, ih, hx]; omega
  | [], a, c, h, _, _, _ => by simp at h
section
variable {n : Nat} {l : List Ev} {o : Om} {C : List Cl}
theorem Inv.f_inj {j : Nat} (h : Inv n l j o C) {a b : Nat} {c d : Cl} (hc : C[a]? = some c) (hd : C[b]? = some d) (e : c.f = d.f) : a = b := by
  rcases Nat.lt_trichotomy a b with h' | h' | h'
  · have := h.mo a b c d hc hd h'; omega
  · exact h'
  · have := h.mo b a d c hd hc h'; omega
theorem Inv.t_inj {j : Nat} (h : Inv n l j o C) {a b : Nat} {c d : Cl} (hc : C[a]? = some c) (hd : C[b]? = some d) (dc : c.d = true) (dd : d.d = true) (e : c.t = d.t) : a = b := by
  obtain ⟨i, e1, e2, e3, e4⟩ := h.dn a c hc dc
  obtain ⟨i', f1, f2, f3, f4⟩ := h.dn b d hd dd
  obtain rfl : i = i' := by omega
  rw [e4] at f4
  have hp : c.p = d.p := by injection f4 with f4; injection f4
  rcases Nat.lt_trichotomy a b with h' | h' | h'
  · have := (h.se a b c d hc hd h' hp).2; omega
  · exact h'
  · have := (h.se b a d c hd hc h' hp.symm).2; omega
theorem Inv.f_ne {j : Nat} (h : Inv n l j o C) {a b : Nat} {c d : Cl} (hc : C[a]? = some c) (hd : C[b]? = some d) (dd : d.d = true) : c.f ≠ d.t := fun e => by
  obtain ⟨i, e1, e2, e4⟩ := h.fr a c hc
  obtain ⟨i', f1, f2, f3, f4⟩ := h.dn b d hd dd
  obtain rfl : i = i' := by omega
  rw [e4] at f4
  injection f4 with f4
  injection f4 with _ f5
  cases f5
theorem cnt_step (h : Inv n l n o C) (i : Nat) (hi : i < n) : (cnt C (i : Int) : Int) = (cnt C ((i : Int) - 1) : Int) + (if (l.getD i e0).b = true then 1 else -1) := by
  obtain ⟨a, c, hc, h1⟩ := h.al i hi
  obtain ⟨q, q1, q2, q3⟩ := h.fr a c hc
  rcases h1 with h1 | ⟨hd, h1⟩
  · obtain rfl : q = i := by omega
    rw [getD_some q3]
    have ht : c.t > q := by
      cases hd : c.d with
      | true => obtain ⟨i', e1, e2, _⟩ := h.dn a c hc hd; omega
      | false => have := (h.nd a c hc hd).1; omega
    have := countP_one (p := unw ((q : Int) - 1)) (q := unw (q : Int)) hc (by simp [unw]; omega) (by simp [unw]; omega) (fun b d hb hd => by
      have f1 : d.f ≠ q := fun e => hb (h.f_inj hd hc (by omega))
      have t1 : d.t ≠ q := fun e => by
        cases dd : d.d with
        | true => exact h.f_ne hc hd dd (by omega)
        | false => have := (h.nd b d hd dd).1; omega
      have e1 : decide (d.f ≤ (q : Int) - 1) = decide (d.f ≤ q) := by rw [decide_eq_decide]; omega
      have e2 : decide ((q : Int) - 1 < d.t) = decide ((q : Int) < d.t) := by rw [decide_eq_decide]; omega
      simp only [unw, e1, e2])
    unfold cnt
    simp only [if_true]
    omega
  · obtain ⟨i', e1, e2, e3, e4⟩ := h.dn a c hc hd
    obtain rfl : i' = i := by omega
    rw [getD_some e4]
    have := countP_one (p := unw (i' : Int)) (q := unw ((i' : Int) - 1)) hc (by simp [unw]; omega) (by simp [unw]; omega) (fun b d hb hd' => by
      have f1 : d.f ≠ i' := fun e => h.f_ne hd' hc hd (by omega)
      have t1 : d.t ≠ i' := fun e => by
        cases dd : d.d with
        | true => exact hb (h.t_inj hd' hc dd hd (by omega))
        | false => have := (h.nd b d hd' dd).1; omega
      have e1 : decide (d.f ≤ (i' : Int) - 1) = decide (d.f ≤ i') := by rw [decide_eq_decide]; omega
      have e2 : decide ((i' : Int) - 1 < d.t) = decide ((i' : Int) < d.t) := by rw [decide_eq_decide]; omega
      simp only [unw, e1, e2])
    unfold cnt
    simp only [Bool.false_eq_true, if_false]
    omega
theorem cnt_run (h : Inv n l n o C) : ∀ j, j ≤ n → (wRun l j).1 = (cnt C ((j : Int) - 1) : Int)
  | 0, _ => by
    have : cnt C ((0 : Nat) - 1 : Int) = 0 := by
      unfold cnt
      rw [List.countP_eq_zero]
      intro c hc
      obtain ⟨a, ha⟩ := List.getElem?_of_mem hc
      obtain ⟨i, e1, _⟩ := h.fr a c ha
      simp [unw]; omega
    rw [this]; rfl
  | j + 1, hj => by
    have ih := cnt_run h j (by omega)
    have hs := cnt_step h j (by omega)
    have e : ((j + 1 : Nat) : Int) - 1 = j := by omega
    rw [e, hs, ← ih]
    simp only [wRun]
    split <;> rfl
theorem wid_step (h : Inv n l n o C) (j : Nat) (hj : j < n) : (wRun l (j + 1)).2 = if (cnt C (j : Int) : Int) > (wRun l j).2 then (cnt C (j : Int) : Int) else (wRun l j).2 := by
  have := cnt_run h (j + 1) (by omega)
  rw [show ((j + 1 : Nat) : Int) - 1 = j by omega] at this
  rw [← this]; rfl
theorem wRun_mono (l : List Ev) (j : Nat) : ∀ d, (wRun l j).2 ≤ (wRun l (j + d)).2
  | 0 => by simp
  | d + 1 => by
    have := wRun_mono l j d
    show _ ≤ (wRun l (j + d + 1)).2
    simp only [wRun]
    split <;> split <;> omega
theorem wRun_take (l : List Ev) (k : Nat) : ∀ j, j ≤ k → wRun (l.take k) j = wRun l j
  | 0, _ => rfl
  | j + 1, h => by
    have ih := wRun_take l k j (by omega)
    have : (l.take k).getD j e0 = l.getD j e0 := by
      rw [List.getD_eq_getElem?_getD, List.getD_eq_getElem?_getD, List.getElem?_take, if_pos (by omega)]
    simp only [wRun, ih, this]
end
theorem pig : ∀ (m : Nat) (L : List Nat), L.Nodup → (∀ x ∈ L, x < m) → L.length ≤ m
  | 0, L, _, h => by
    cases L with
    | nil => simp
    | cons x L => have := h x List.mem_cons_self; omega
  | m + 1, L, hn, h => by
    by_cases hm : m ∈ L
    · have h1 := pig m (L.erase m) (hn.erase m) (fun x hx => by
        have h2 := h x (List.mem_of_mem_erase hx)
        have hne : x ≠ m := (hn.mem_erase_iff.1 hx).1
        omega)
      rw [List.length_erase_of_mem hm] at h1; omega
    · have := pig m L hn (fun x hx => by
        have h1 := h x hx
        have h2 : x ≠ m := fun e => hm (e ▸ hx)
        omega)
      omega
theorem cnt_five {w : List R3} (i : Int) : cnt (gCls w) i ≤ 5 := by
  have h := gInv w
  have hp : ∀ c ∈ gCls w, 0 ≤ c.p ∧ c.p < 5 := fun c hc => by
    obtain ⟨a, ha⟩ := List.getElem?_of_mem hc
    obtain ⟨i, _, _, e⟩ := h.fr a c ha
    exact gEvs_p e
  unfold cnt
  rw [List.countP_eq_length_filter]
  have := pig 5 (((gCls w).filter (unw i)).map fun c => c.p.toNat) ?_ ?_
  · simpa using this
  · unfold List.Nodup
    rw [List.pairwise_map, List.pairwise_filter, List.pairwise_iff_getElem]
    intro a b ha hb hab u1 u2 e
    have p1 := hp _ (List.getElem_mem ha)
    have p2 := hp _ (List.getElem_mem hb)
    have := (h.se a b _ _ (List.getElem?_eq_getElem ha) (List.getElem?_eq_getElem hb) hab (by omega)).2
    simp only [unw, Bool.and_eq_true, decide_eq_true_eq] at u1 u2
    omega
  · intro x hx
    obtain ⟨c, hc, rfl⟩ := List.mem_map.1 hx
    have := hp c (List.mem_filter.1 hc).1
    omega
theorem g_wid (w : List R3) : wid (gEvs w) = (wRun (gEvs w) (gMany w)).2 := by rw [wid_fine (g_err w), gEvs_len]
theorem g_wid_step (w : List R3) (j : Nat) (hj : j < gMany w) : (wRun (gEvs w) (j + 1)).2 = if (cnt (gCls w) (j : Int) : Int) > (wRun (gEvs w) j).2 then (cnt (gCls w) (j : Int) : Int) else (wRun (gEvs w) j).2 := wid_step (gInv w) j hj
theorem g_wid5 (w : List R3) : ∀ j, j ≤ gMany w → 0 ≤ (wRun (gEvs w) j).2 ∧ (wRun (gEvs w) j).2 ≤ 5
  | 0, _ => by simp [wRun]
  | j + 1, hj => by
    have := g_wid5 w j (by omega)
    have h5 := cnt_five (w := w) (j : Int)
    rw [g_wid_step w j (by omega)]
    split <;> omega
theorem g_wid0 (w : List R3) : wid (gEvs w) = 0 ↔ gMany w = 0 := by
  constructor
  · intro h
    by_cases hm : gMany w = 0
    · exact hm
    · have h1 := g_wid_step w 0 (by omega)
      obtain ⟨a, c, hc, h2⟩ := (gInv w).al 0 (by omega)
      obtain ⟨q, q1, q2, _⟩ := (gInv w).fr a c hc
      have hf : c.f = 0 ∧ 0 < c.t := by
        cases hd : c.d with
        | true =>
          obtain ⟨i', e1, e2, _⟩ := (gInv w).dn a c hc hd
          rcases h2 with h2 | ⟨_, h2⟩ <;> omega
        | false =>
          have := ((gInv w).nd a c hc hd).1
          rcases h2 with h2 | ⟨h3, h2⟩
          · omega
          · rw [hd] at h3; cases h3
      have hpos : 0 < cnt (gCls w) 0 := by
        unfold cnt
        rw [List.countP_pos_iff]
        exact ⟨c, List.mem_of_getElem? hc, by simp [unw]; omega⟩
      have hm' := wRun_mono (gEvs w) 1 (gMany w - 1)
      rw [show 1 + (gMany w - 1) = gMany w by omega, ← g_wid, h] at hm'
      have z : (wRun (gEvs w) 0).2 = 0 := rfl
      rw [z, if_pos (by simpa using hpos)] at h1
      simp only [Nat.zero_add] at h1
      rw [h1] at hm'
      simp at hm'; omega
  · intro h
    rw [g_wid, h]; rfl
theorem gRun_take (w : List R3) (k : Nat) : ∀ j, j ≤ k → gRun (w.take k) j = gRun w j
  | 0, _ => rfl
  | j + 1, h => by
    have ih := gRun_take w k j (by omega)
    have : (w.take k).getD j (0, 0, 0) = w.getD j (0, 0, 0) := by
      rw [List.getD_eq_getElem?_getD, List.getD_eq_getElem?_getD, List.getElem?_take, if_pos (by omega)]
    simp only [gRun, ih, this]
theorem gEvs_take (w : List R3) (k : Nat) (hk : k ≤ gMany w) : (gEvs w).take k = gEvs (w.take k) := by
  have hm : gMany (w.take k) = k := by unfold gMany at hk ⊢; rw [List.length_take]; omega
  unfold gEvs
  rw [hm, gRun_take w k k (Nat.le_refl _)]
  have hl := gRun_len w k
  refine List.ext_getElem? fun i => ?_
  rcases Nat.lt_or_ge i k with h | h
  · rw [List.getElem?_take, if_pos h]
    have := gRun_pre w (gMany w - k) k i ((gRun w k).2.getD i e0) (some_getD (by omega))
    rw [show k + (gMany w - k) = gMany w by omega] at this
    rw [this]; exact (some_getD (by omega)).symm
  · rw [List.getElem?_eq_none (by rw [List.length_take]; omega), List.getElem?_eq_none (by omega)]
theorem g_wid_take (w : List R3) (k : Nat) (hk : k ≤ gMany w) : cErr ((gEvs w).take k) = 0 ∧ wid ((gEvs w).take k) ≤ wid (gEvs w) := by
  have he : cErr ((gEvs w).take k) = 0 := by rw [gEvs_take w k hk]; exact g_err _
  refine ⟨he, ?_⟩
  have hl : ((gEvs w).take k).length = k := by rw [List.length_take, gEvs_len]; omega
  rw [wid_fine he, hl, wRun_take _ _ _ (Nat.le_refl _), g_wid]
  have := wRun_mono (gEvs w) k (gMany w - k)
  rwa [show k + (gMany w - k) = gMany w by omega] at this
theorem cnt_take {C : List Cl} {q : Cl → Bool} {k : Nat} (h : k < C.length) : (C.take (k + 1)).countP q = if q (C.getD k z0) = true then (C.take k).countP q + 1 else (C.take k).countP q := by
  have : C.take (k + 1) = C.take k ++ [C.getD k z0] := by rw [List.take_add_one, some_getD (d := z0) h]; rfl
  rw [this, List.countP_append]
  generalize C.getD k z0 = x
  split <;> simp_all
theorem cnt_take_le {C : List Cl} {q : Cl → Bool} {k : Nat} : (C.take k).countP q ≤ k := by
  have h1 := List.countP_le_length (p := q) (l := C.take k)
  rw [List.length_take] at h1
  omega
theorem SlR.take {α : Type} {f : α → List Value} {sz : Nat} {B : OH} {H : HL} {a : Option Addr} {n cap k : Nat} {L : List α} (h : SlR f sz B H (.slice a n cap) L) (hk : k ≤ L.length) : SlR f sz B H (.slice a k cap) (L.take k) := by
  obtain ⟨a', cap', e, h2⟩ := h
  injection e with e1 e2 e3
  subst e1 e2 e3
  have hl : (L.take k).length = k := by rw [List.length_take]; omega
  refine ⟨a, cap, by rw [hl], h2.imp (fun h => by subst h; simp) ?_⟩
  rintro ⟨b, o, h3, h4, h5⟩
  refine ⟨b, o, h3, h4, fun H' hF i j n d hi hj => ?_⟩
  rw [h5 H' hF i j n d (by omega) hj]
  have : (L.take k).getD i d = L.getD i d := by
    rw [List.getD_eq_getElem?_getD, List.getD_eq_getElem?_getD, List.getElem?_take, if_pos (by omega)]
  rw [this]
end Go.Proofs.Ytkohdcjeankhkaa
namespace Go.Proofs.Ytkohdcjeankhkaa
open Go.Proofs.Ytkohdcjeankhkaa.K
/-! ### Events undoes Calls -/
def Cov (C : List Cl) (j i : Nat) : Prop := ∃ (a : Nat) (c : Cl), a < j ∧ C[a]? = some c ∧ (c.f = (i : Int) ∨ (c.d = true ∧ c.t = (i : Int)))
section
variable {n : Nat} {l : List Ev} {o : Om} {C : List Cl}
theorem Cov.succ {C : List Cl} {j i : Nat} {c : Cl} (hc : C[j]? = some c) : Cov C (j + 1) i ↔ Cov C j i ∨ c.f = (i : Int) ∨ (c.d = true ∧ c.t = (i : Int)) := by
  constructor
  · rintro ⟨a, d, h1, h2, h3⟩
    rcases Nat.lt_or_ge a j with h | h
    · exact .inl ⟨a, d, h, h2, h3⟩
    · obtain rfl : a = j := by omega
      rw [hc] at h2
      obtain rfl := Option.some.inj h2
      exact .inr h3
  · rintro (⟨a, d, h1, h2, h3⟩ | h)
    · exact ⟨a, d, by omega, h2, h3⟩
    · exact ⟨j, c, by omega, hc, h⟩
theorem Inv.begE (h : Inv n l n o C) {a : Nat} {c : Cl} (hc : C[a]? = some c) : ∃ i : Nat, c.f = i ∧ i < n ∧ l[i]? = some (begE c) := h.fr a c hc
theorem Inv.endE (h : Inv n l n o C) {a : Nat} {c : Cl} (hc : C[a]? = some c) (hd : c.d = true) : ∃ i : Nat, c.t = i ∧ c.f < i ∧ i < n ∧ l[i]? = some (endE c) := h.dn a c hc hd
theorem Inv.notC (h : Inv n l n o C) {a : Nat} {c : Cl} (hc : C[a]? = some c) : ¬ notC (n : Int) c := by
  obtain ⟨i, e1, e2, _⟩ := h.fr a c hc
  unfold Go.Proofs.Ytkohdcjeankhkaa.notC
  cases hd : c.d with
  | true =>
    obtain ⟨i', f1, f2, f3, _⟩ := h.dn a c hc hd
    rintro (h | h | h | h | ⟨_, h⟩) <;> omega
  | false =>
    have := (h.nd a c hc hd).1
    rintro (h | h | h | h | ⟨h, _⟩)
    · omega
    · omega
    · omega
    · omega
    · cases h
theorem hRun_cov (h : Inv n l n o C) (hl : l.length = n) : ∀ j, j ≤ C.length → ∀ i, i < n → Cov C j i → (hRun n C j).getD i e0 = l.getD i e0
  | 0, _, i, _, hc => by obtain ⟨a, c, h1, _⟩ := hc; omega
  | j + 1, hj, i, hi, hc => by
    have hcj : C[j]? = some (C.getD j z0) := some_getD (by omega)
    have ih := hRun_cov h hl j (by omega) i hi
    rw [Cov.succ hcj] at hc
    obtain ⟨a, a1, a2, a3⟩ := h.begE hcj
    have hlen := hRun_len n C j
    have hr : hRun n C (j + 1) = putC (hRun n C j) (C.getD j z0) := rfl
    rw [hr]
    generalize hRun n C j = O at ih hlen ⊢
    generalize C.getD j z0 = c at hcj hc a1 a3 ⊢
    have hft : c.f.toNat = a := by omega
    unfold putC
    cases hd : c.d with
    | true =>
      obtain ⟨b, b1, b2, b3, b4⟩ := h.endE hcj hd
      have htt : c.t.toNat = b := by omega
      rw [if_pos rfl, hft, htt, getD_set _ _ _ _ _ (by rw [List.length_set]; omega), getD_set _ _ _ _ _ (by omega)]
      by_cases hb : b = i
      · subst hb; rw [if_pos rfl, getD_some b4]
      · rw [if_neg hb]
        by_cases ha : a = i
        · subst ha; rw [if_pos rfl, getD_some a3]
        · rw [if_neg ha]
          refine ih (hc.resolve_right ?_)
          rintro (h | ⟨_, h⟩) <;> omega
    | false =>
      rw [if_neg (by decide), hft, getD_set _ _ _ _ _ (by omega)]
      by_cases ha : a = i
      · subst ha; rw [if_pos rfl, getD_some a3]
      · rw [if_neg ha]
        refine ih (hc.resolve_right ?_)
        rintro (h | ⟨h, _⟩)
        · omega
        · rw [hd] at h; cases h
theorem hRun_all (h : Inv n l n o C) (hl : l.length = n) : hRun n C C.length = l := by
  have hlen := hRun_len n C C.length
  refine List.ext_getElem? fun i => ?_
  rcases Nat.lt_or_ge i n with hi | hi
  · have hc : Cov C C.length i := by
      obtain ⟨a, c, h1, h2⟩ := h.al i hi
      exact ⟨a, c, (List.getElem?_eq_some_iff.1 h1).1, h1, h2⟩
    have := hRun_cov h hl C.length (Nat.le_refl _) i hi hc
    rw [some_getD (d := e0) (by omega), some_getD (d := e0) (by omega), this]
  · rw [List.getElem?_eq_none (by omega), List.getElem?_eq_none (by omega)]
end
theorem cls_inv {l : List Ev} (he : cErr l = 0) : Inv l.length l l.length (cRun l.length l l.length).1 (cls l) := by
  rw [cls_fine he]
  exact Inv.run (cErr_0 he).2 _ (Nat.le_refl _)
theorem hEv_cls {l : List Ev} (he : cErr l = 0) : hEv (l.length : Int) (cls l) = (l, 0) := by
  have h := cls_inv he
  have hr := hRun_all h rfl
  rw [hEv_good (cErr_0 he).1 ⟨fun j hj => h.notC (some_getD hj), by rw [hr]; exact he, by rw [hr]⟩, hr]
/-! ### Each event is one's -/
def hadC (L : List Int) (c : Cl) : List Int :=
  if c.d = true then (L.set c.f.toNat (L.getD c.f.toNat 0 + 1)).set c.t.toNat ((L.set c.f.toNat (L.getD c.f.toNat 0 + 1)).getD c.t.toNat 0 + 1) else L.set c.f.toNat (L.getD c.f.toNat 0 + 1)
def hadL (n : Nat) (C : List Cl) : Nat → List Int
  | 0 => List.replicate n 0
  | j + 1 => hadC (hadL n C j) (C.getD j z0)
theorem hadL_len (n : Nat) (C : List Cl) : ∀ j, (hadL n C j).length = n
  | 0 => by simp [hadL]
  | j + 1 => by
    have := hadL_len n C j
    simp only [hadL, hadC]
    split <;> simp [this]
theorem hadL_cov {n : Nat} {l : List Ev} {o : Om} {C : List Cl} (h : Inv n l n o C) : ∀ j, j ≤ C.length → ∀ i, i < n → (Cov C j i → (hadL n C j).getD i 0 = 1) ∧ (¬ Cov C j i → (hadL n C j).getD i 0 = 0)
  | 0, _, i, _ => ⟨fun hc => by obtain ⟨a, c, h1, _⟩ := hc; omega, fun _ => by simp only [hadL, rep_getD]⟩
  | j + 1, hj, i, hi => by
    have hcj : C[j]? = some (C.getD j z0) := some_getD (by omega)
    have ih := hadL_cov h j (by omega)
    rw [Cov.succ hcj]
    obtain ⟨a, a1, a2, a3⟩ := h.begE hcj
    have hlen := hadL_len n C j
    have hna : ¬ Cov C j a := by
      rintro ⟨b, d, b1, b2, b3 | ⟨b3, b4⟩⟩
      · have := h.f_inj b2 hcj (by omega); omega
      · exact h.f_ne hcj b2 b3 (by omega)
    have hnb : (C.getD j z0).d = true → ∀ b : Nat, (C.getD j z0).t = (b : Int) → ¬ Cov C j b := by
      rintro hd b hb ⟨b', d, b1, b2, b3 | ⟨b3, b4⟩⟩
      · exact h.f_ne b2 hcj hd (by omega)
      · have := h.t_inj b2 hcj b3 hd (by omega); omega
    have hr : hadL n C (j + 1) = hadC (hadL n C j) (C.getD j z0) := rfl
    have iha := (ih a a2).2 hna
    have ihi := ih i hi
    rw [hr]
    have ihb := fun b hb => (ih b hb).2
    clear ih hr
    generalize hadL n C j = O at ihi iha ihb hlen ⊢
    generalize C.getD j z0 = c at hcj a1 a3 hnb ⊢
    have hft : c.f.toNat = a := by omega
    unfold hadC
    cases hd : c.d with
    | true =>
      obtain ⟨b, b1, b2, b3, b4⟩ := h.endE hcj hd
      have htt : c.t.toNat = b := by omega
      have hb0 := ihb b b3 (hnb hd b b1)
      have v1 : (O.set a (O.getD a 0 + 1)).getD b 0 + 1 = 1 := by rw [getD_set _ _ _ _ _ (by omega), if_neg (by omega), hb0]; rfl
      rw [if_pos rfl, hft, htt, v1, getD_set _ _ _ _ _ (by rw [List.length_set]; omega), getD_set _ _ _ _ _ (by omega), iha]
      by_cases hb : b = i
      · subst hb
        rw [if_pos rfl]
        exact ⟨fun _ => rfl, fun hc => (hc (.inr (.inr ⟨rfl, b1⟩))).elim⟩
      · rw [if_neg hb]
        by_cases ha : a = i
        · subst ha
          rw [if_pos rfl]
          exact ⟨fun _ => rfl, fun hc => (hc (.inr (.inl a1))).elim⟩
        · rw [if_neg ha]
          refine ⟨fun hc => ihi.1 (hc.resolve_right ?_), fun hc => ihi.2 fun h => hc (.inl h)⟩
          rintro (h | ⟨_, h⟩) <;> omega
    | false =>
      rw [if_neg (by decide), hft, getD_set _ _ _ _ _ (by omega), iha]
      by_cases ha : a = i
      · subst ha
        rw [if_pos rfl]
        exact ⟨fun _ => rfl, fun hc => (hc (.inr (.inl a1))).elim⟩
      · rw [if_neg ha]
        refine ⟨fun hc => ihi.1 (hc.resolve_right ?_), fun hc => ihi.2 fun h => hc (.inl h)⟩
        rintro (h | ⟨h, _⟩)
        · omega
        · cases h
theorem hadL_all {n : Nat} {l : List Ev} {o : Om} {C : List Cl} (h : Inv n l n o C) (i : Nat) (hi : i < n) : (hadL n C C.length).getD i 0 = 1 := by
  refine (hadL_cov h C.length (Nat.le_refl _) i hi).1 ?_
  obtain ⟨a, c, h1, h2⟩ := h.al i hi
  exact ⟨a, c, (List.getElem?_eq_some_iff.1 h1).1, h1, h2⟩
theorem hadL_le {n : Nat} {l : List Ev} {o : Om} {C : List Cl} (h : Inv n l n o C) (j : Nat) (hj : j ≤ C.length) (i : Nat) (hi : i < n) : 0 ≤ (hadL n C j).getD i 0 ∧ (hadL n C j).getD i 0 ≤ 1 := by
  have := hadL_cov h j hj i hi
  by_cases hc : Cov C j i
  · rw [this.1 hc]; omega
  · rw [this.2 hc]; omega
end Go.Proofs.Ytkohdcjeankhkaa
namespace Go.Proofs.Ytkohdcjeankhkaa
open Go.Proofs.Ytkohdcjeankhkaa.K Go.ChangeShapes Go.WideShapes Go.ChangeAt Go.RowKit
set_option maxRecDepth 100000
set_option linter.unusedSimpArgs false
set_option linter.unusedVariables false

def f1 (x : Int) : List Value := [.int .i64 x]
theorem f1_len (x : Int) : (f1 x).length = 1 := rfl
theorem rep_f1 (n : Nat) : (List.replicate n [Value.int .i64 0]).flatten = fl f1 (List.replicate n 0) := by
  induction n with
  | zero => rfl
  | succ n ih => rw [List.replicate_succ, List.replicate_succ, List.flatten_cons, ih]; rfl
theorem rdO_cons {x : Nat} {k : KB} {H : HL} {B : OH} {b o n : Nat} {r : Option (List Value)} (h : (b == x) = false) : rdO ((x, k) :: H) B b o n r = rdO H B b o n r := by
  cases r with
  | some r => rfl
  | none => simp only [rdO, rdN]; cases B b with
    | some k => rfl
    | none => simp only [rdN, lk_cons, h, cond_false]
theorem rdO_up {x : Nat} {k : KB} {H : HL} {B : OH} {b o n : Nat} {r : Option (List Value)} (h : (b == x) = false) : rdO (upH H x k) B b o n r = rdO H B b o n r := by
  cases r with
  | some r => rfl
  | none => simp only [rdO, rdN]; cases B b with
    | some k => rfl
    | none => simp only [rdN, lk_upH, h, cond_false]
theorem ne_of_den {H : HL} {B : OH} {b q : Nat} (hb : (den H B b).isSome = true) (hB : B q = none) (hl : lk H q = none) : (b == q) = false := by
  cases e : b == q with
  | false => rfl
  | true => rw [show b = q by simpa using e, den, hB, hl] at hb; cases hb
theorem tk_f1 {L : List Int} {a : Nat} (h : a < L.length) : tk (fl f1 L) a 1 = some [.int .i64 (L.getD a 0)] := by
  have := tk_fl f1_len L a 0 1 0 h (by omega)
  simpa [f1, tk] using this
theorem wr_f1 {L : List Int} {a : Nat} {x : Int} (h : a < L.length) : wr (fl f1 L) a [.int .i64 x] = some (fl f1 (L.set a x)) := by
  have := wr_fl f1_len L a 0 [.int .i64 x] 0 x h (by simp) rfl
  simpa using this
/-- whitewash/whitewashlaw20.HistBack -/
def L4 : FnL := ⟨(.seq (.ops [⟨(some 2), .mv (.const (.bool false)), none⟩])
 (.seq (.ops [⟨(some 14), .call (.func 8) [], none⟩, ⟨(some 3), .mv (.tmp 14), none⟩])
 (.seq (.ops [⟨(some 15), .mv (.tmp 0), none⟩, ⟨(some 16), .call (.func 9) [(.tmp 15)], none⟩, ⟨(some 4), .mv (.tmp 16), none⟩])
 (.seq (.ops [⟨(some 18), .mv (.tmp 4), none⟩, ⟨(some 19), .call (.func 11) [(.tmp 18)], none⟩, ⟨(some 17), .mv (.tmp 19), none⟩, ⟨(some 20), .ext (.tmp 17) 0, none⟩, ⟨(some 21), .ext (.tmp 17) 1, none⟩, ⟨(some 5), .mv (.tmp 20), none⟩, ⟨(some 6), .mv (.tmp 21), none⟩])
 (.seq (.ops [⟨(some 23), .mv (.tmp 4), none⟩, ⟨(some 24), .len false (.tmp 23), none⟩, ⟨(some 25), .mv (.tmp 5), none⟩, ⟨(some 26), .call (.func 19) [(.tmp 24), (.tmp 25)], none⟩, ⟨(some 22), .mv (.tmp 26), none⟩, ⟨(some 27), .ext (.tmp 22) 0, none⟩, ⟨(some 28), .ext (.tmp 22) 1, none⟩, ⟨(some 7), .mv (.tmp 27), none⟩, ⟨(some 8), .mv (.tmp 28), none⟩])
 (.seq (.seq (.ops [⟨(some 29), .mv (.tmp 6), none⟩, ⟨(some 30), .bin .neq (.tmp 29) (.const (.int .i64 0)), none⟩, ⟨(some 31), .mv (.tmp 30), none⟩, ⟨(some 32), .mv (.tmp 8), (some (31, false))⟩, ⟨(some 33), .bin .neq (.tmp 32) (.const (.int .i64 0)), (some (31, false))⟩, ⟨(some 34), .pick (.tmp 31) (.const (.bool true)) (.tmp 33), none⟩, ⟨(some 35), .mv (.tmp 34), none⟩, ⟨(some 36), .mv (.tmp 7), (some (35, false))⟩, ⟨(some 37), .mv (.tmp 4), (some (35, false))⟩, ⟨(some 38), .call (.func 16) [(.tmp 36), (.tmp 37)], (some (35, false))⟩, ⟨(some 39), .un .not (.tmp 38), (some (35, false))⟩, ⟨(some 40), .pick (.tmp 35) (.const (.bool true)) (.tmp 39), none⟩])
 (.cond (.tmp 40) (.seq (.ops [⟨(some 2), .mv (.const (.bool false)), none⟩])
 .ret)
 .skip))
 (.seq (.ops [⟨(some 41), .mv (.tmp 4), none⟩, ⟨(some 42), .len false (.tmp 41), none⟩, ⟨(some 43), .mks [(.int .i64 0)] 8 (.tmp 42) (.tmp 42), none⟩, ⟨(some 9), .mv (.tmp 43), none⟩])
 (.seq (.seq (.ops [⟨(some 10), .mv (.const (.int .i64 0)), none⟩])
 (.block 0 (.loop (.seq (.seq (.ops [⟨(some 44), .mv (.tmp 10), none⟩, ⟨(some 45), .mv (.tmp 5), none⟩, ⟨(some 46), .len false (.tmp 45), none⟩, ⟨(some 47), .bin .lss (.tmp 44) (.tmp 46), none⟩])
 (.cond (.tmp 47) .skip
 (.exit 0)))
 (.seq (.block 1 (.seq (.seq (.draw [⟨⟨(some 50), .mv (.tmp 5), none⟩, []⟩, ⟨⟨(some 51), .mv (.tmp 10), none⟩, []⟩, ⟨⟨(some 52), .iaddrS 9 (.tmp 50) (.tmp 51), none⟩, []⟩, ⟨⟨(some 53), .faddr 6 (.tmp 52), none⟩, []⟩, ⟨⟨(some 54), .load false 1 (.tmp 53), none⟩, []⟩, ⟨⟨(some 55), .bin .lss (.tmp 54) (.const (.int .i64 0)), none⟩, []⟩, ⟨⟨(some 56), .mv (.tmp 55), none⟩, []⟩, ⟨⟨(some 57), .mv (.tmp 5), (some (56, false))⟩, []⟩, ⟨⟨(some 58), .mv (.tmp 10), (some (56, false))⟩, []⟩, ⟨⟨(some 59), .iaddrS 9 (.tmp 57) (.tmp 58), (some (56, false))⟩, []⟩, ⟨⟨(some 60), .faddr 6 (.tmp 59), (some (56, false))⟩, []⟩, ⟨⟨(some 61), .load false 1 (.tmp 60), (some (56, false))⟩, []⟩, ⟨⟨(some 62), .mv (.tmp 4), (some (56, false))⟩, []⟩, ⟨⟨(some 63), .len false (.tmp 62), (some (56, false))⟩, []⟩, ⟨⟨(some 64), .bin .geq (.tmp 61) (.tmp 63), (some (56, false))⟩, []⟩, ⟨⟨(some 65), .pick (.tmp 56) (.const (.bool true)) (.tmp 64), none⟩, []⟩, ⟨⟨(some 66), .mv (.tmp 65), none⟩, []⟩, ⟨⟨(some 67), .mv (.tmp 5), (some (66, false))⟩, []⟩, ⟨⟨(some 68), .mv (.tmp 10), (some (66, false))⟩, []⟩, ⟨⟨(some 69), .iaddrS 9 (.tmp 67) (.tmp 68), (some (66, false))⟩, []⟩, ⟨⟨(some 70), .faddr 7 (.tmp 69), (some (66, false))⟩, []⟩, ⟨⟨(some 71), .load false 1 (.tmp 70), (some (66, false))⟩, []⟩, ⟨⟨(some 72), .mv (.tmp 5), (some (66, false))⟩, []⟩, ⟨⟨(some 73), .mv (.tmp 10), (some (66, false))⟩, []⟩, ⟨⟨(some 74), .iaddrS 9 (.tmp 72) (.tmp 73), (some (66, false))⟩, []⟩, ⟨⟨(some 75), .faddr 6 (.tmp 74), (some (66, false))⟩, []⟩, ⟨⟨(some 76), .load false 1 (.tmp 75), (some (66, false))⟩, []⟩, ⟨⟨(some 77), .bin .leq (.tmp 71) (.tmp 76), (some (66, false))⟩, []⟩, ⟨⟨(some 78), .pick (.tmp 66) (.const (.bool true)) (.tmp 77), none⟩, []⟩, ⟨⟨(some 79), .mv (.tmp 78), none⟩, []⟩, ⟨⟨(some 80), .mv (.tmp 5), (some (79, false))⟩, []⟩, ⟨⟨(some 81), .mv (.tmp 10), (some (79, false))⟩, []⟩, ⟨⟨(some 82), .iaddrS 9 (.tmp 80) (.tmp 81), (some (79, false))⟩, []⟩, ⟨⟨(some 83), .faddr 7 (.tmp 82), (some (79, false))⟩, []⟩, ⟨⟨(some 84), .load false 1 (.tmp 83), (some (79, false))⟩, []⟩, ⟨⟨(some 85), .mv (.tmp 4), (some (79, false))⟩, []⟩, ⟨⟨(some 86), .len false (.tmp 85), (some (79, false))⟩, []⟩, ⟨⟨(some 87), .bin .gtr (.tmp 84) (.tmp 86), (some (79, false))⟩, []⟩, ⟨⟨(some 88), .pick (.tmp 79) (.const (.bool true)) (.tmp 87), none⟩, []⟩, ⟨⟨(some 89), .mv (.tmp 88), none⟩, []⟩, ⟨⟨(some 90), .mv (.tmp 5), (some (89, false))⟩, []⟩, ⟨⟨(some 91), .mv (.tmp 10), (some (89, false))⟩, []⟩, ⟨⟨(some 92), .iaddrS 9 (.tmp 90) (.tmp 91), (some (89, false))⟩, []⟩, ⟨⟨(some 93), .faddr 8 (.tmp 92), (some (89, false))⟩, []⟩, ⟨⟨(some 94), .load false 1 (.tmp 93), (some (89, false))⟩, []⟩, ⟨⟨(some 95), .mv (.tmp 5), (some (89, false))⟩, []⟩, ⟨⟨(some 96), .mv (.tmp 10), (some (89, false))⟩, []⟩, ⟨⟨(some 97), .iaddrS 9 (.tmp 95) (.tmp 96), (some (89, false))⟩, []⟩, ⟨⟨(some 98), .faddr 7 (.tmp 97), (some (89, false))⟩, []⟩, ⟨⟨(some 99), .load false 1 (.tmp 98), (some (89, false))⟩, []⟩, ⟨⟨(some 100), .mv (.tmp 4), (some (89, false))⟩, []⟩, ⟨⟨(some 101), .len false (.tmp 100), (some (89, false))⟩, []⟩, ⟨⟨(some 102), .bin .lss (.tmp 99) (.tmp 101), (some (89, false))⟩, []⟩, ⟨⟨(some 103), .eqb true (.tmp 94) (.tmp 102), (some (89, false))⟩, []⟩, ⟨⟨(some 104), .pick (.tmp 89) (.const (.bool true)) (.tmp 103), none⟩, []⟩, ⟨⟨(some 105), .mv (.tmp 104), none⟩, []⟩, ⟨⟨(some 106), .mv (.tmp 10), (some (105, false))⟩, []⟩, ⟨⟨(some 107), .bin .gtr (.tmp 106) (.const (.int .i64 0)), (some (105, false))⟩, []⟩, ⟨⟨(some 108), .mv (.tmp 107), (some (105, false))⟩, []⟩, ⟨⟨(some 109), .mv (.tmp 5), (some (108, true))⟩, []⟩, ⟨⟨(some 110), .mv (.tmp 10), (some (108, true))⟩, []⟩, ⟨⟨(some 111), .bin .sub (.tmp 110) (.const (.int .i64 1)), (some (108, true))⟩, []⟩, ⟨⟨(some 112), .iaddrS 9 (.tmp 109) (.tmp 111), (some (108, true))⟩, []⟩, ⟨⟨(some 113), .faddr 6 (.tmp 112), (some (108, true))⟩, []⟩, ⟨⟨(some 114), .load false 1 (.tmp 113), (some (108, true))⟩, []⟩, ⟨⟨(some 115), .mv (.tmp 5), (some (108, true))⟩, []⟩, ⟨⟨(some 116), .mv (.tmp 10), (some (108, true))⟩, []⟩, ⟨⟨(some 117), .iaddrS 9 (.tmp 115) (.tmp 116), (some (108, true))⟩, []⟩, ⟨⟨(some 118), .faddr 6 (.tmp 117), (some (108, true))⟩, []⟩, ⟨⟨(some 119), .load false 1 (.tmp 118), (some (108, true))⟩, []⟩, ⟨⟨(some 120), .bin .geq (.tmp 114) (.tmp 119), (some (108, true))⟩, []⟩, ⟨⟨(some 121), .pick (.tmp 108) (.tmp 120) (.const (.bool false)), (some (105, false))⟩, []⟩, ⟨⟨(some 122), .pick (.tmp 105) (.const (.bool true)) (.tmp 121), none⟩, []⟩])
 (.cond (.tmp 122) (.seq (.ops [⟨(some 2), .mv (.const (.bool false)), none⟩])
 .ret)
 .skip))
 (.seq (.ops [⟨(some 123), .mv (.tmp 4), none⟩, ⟨(some 124), .mv (.tmp 5), none⟩, ⟨(some 125), .mv (.tmp 10), none⟩, ⟨(some 126), .iaddrS 9 (.tmp 124) (.tmp 125), none⟩, ⟨(some 127), .faddr 6 (.tmp 126), none⟩, ⟨(some 128), .load false 1 (.tmp 127), none⟩, ⟨(some 129), .iaddrS 7 (.tmp 123) (.tmp 128), none⟩, ⟨(some 130), .load true 7 (.tmp 129), none⟩, ⟨(some 11), .alloc [(.int .i64 0), (.bool false), (.int .i64 0), (.int .u64 0), (.int .u64 0), (.int .i64 0), (.int .u64 0)], none⟩, ⟨none, .store 7 (.tmp 11) (.tmp 130), none⟩])
 (.seq (.ops [⟨(some 131), .mv (.tmp 9), none⟩, ⟨(some 132), .mv (.tmp 5), none⟩, ⟨(some 133), .mv (.tmp 10), none⟩, ⟨(some 134), .iaddrS 9 (.tmp 132) (.tmp 133), none⟩, ⟨(some 135), .faddr 6 (.tmp 134), none⟩, ⟨(some 136), .load false 1 (.tmp 135), none⟩, ⟨(some 137), .iaddrS 1 (.tmp 131) (.tmp 136), none⟩, ⟨(some 138), .load false 1 (.tmp 137), none⟩, ⟨(some 139), .bin .add (.tmp 138) (.const (.int .i64 1)), none⟩, ⟨(some 140), .iaddrS 1 (.tmp 131) (.tmp 136), none⟩, ⟨none, .store 1 (.tmp 140) (.tmp 139), none⟩])
 (.seq (.seq (.draw [⟨⟨(some 141), .faddr 1 (.tmp 11), none⟩, []⟩, ⟨⟨(some 142), .load false 1 (.tmp 141), none⟩, []⟩, ⟨⟨(some 143), .un .not (.tmp 142), none⟩, []⟩, ⟨⟨(some 144), .mv (.tmp 143), none⟩, []⟩, ⟨⟨(some 145), .faddr 0 (.tmp 11), (some (144, false))⟩, []⟩, ⟨⟨(some 146), .load false 1 (.tmp 145), (some (144, false))⟩, []⟩, ⟨⟨(some 147), .mv (.tmp 5), (some (144, false))⟩, []⟩, ⟨⟨(some 148), .mv (.tmp 10), (some (144, false))⟩, []⟩, ⟨⟨(some 149), .iaddrS 9 (.tmp 147) (.tmp 148), (some (144, false))⟩, []⟩, ⟨⟨(some 150), .faddr 0 (.tmp 149), (some (144, false))⟩, []⟩, ⟨⟨(some 151), .load false 1 (.tmp 150), (some (144, false))⟩, []⟩, ⟨⟨(some 152), .bin .neq (.tmp 146) (.tmp 151), (some (144, false))⟩, []⟩, ⟨⟨(some 153), .pick (.tmp 144) (.const (.bool true)) (.tmp 152), none⟩, []⟩, ⟨⟨(some 154), .mv (.tmp 153), none⟩, []⟩, ⟨⟨(some 155), .faddr 2 (.tmp 11), (some (154, false))⟩, []⟩, ⟨⟨(some 156), .load true 3 (.tmp 155), (some (154, false))⟩, []⟩, ⟨⟨(some 157), .mv (.tmp 5), (some (154, false))⟩, []⟩, ⟨⟨(some 158), .mv (.tmp 10), (some (154, false))⟩, []⟩, ⟨⟨(some 159), .iaddrS 9 (.tmp 157) (.tmp 158), (some (154, false))⟩, []⟩, ⟨⟨(some 160), .faddr 1 (.tmp 159), (some (154, false))⟩, []⟩, ⟨⟨(some 161), .load true 3 (.tmp 160), (some (154, false))⟩, []⟩, ⟨⟨(some 162), .eqA true [.int, .int, .int] (.tmp 156) (.tmp 161), (some (154, false))⟩, []⟩, ⟨⟨(some 163), .pick (.tmp 154) (.const (.bool true)) (.tmp 162), none⟩, []⟩])
 (.cond (.tmp 163) (.seq (.ops [⟨(some 2), .mv (.const (.bool false)), none⟩])
 .ret)
 .skip))
 (.seq (.seq (.ops [⟨(some 164), .mv (.tmp 5), none⟩, ⟨(some 165), .mv (.tmp 10), none⟩, ⟨(some 166), .iaddrS 9 (.tmp 164) (.tmp 165), none⟩, ⟨(some 167), .faddr 8 (.tmp 166), none⟩, ⟨(some 168), .load false 1 (.tmp 167), none⟩, ⟨(some 169), .un .not (.tmp 168), none⟩])
 (.cond (.tmp 169) (.seq (.seq (.ops [⟨(some 170), .mv (.tmp 5), none⟩, ⟨(some 171), .mv (.tmp 10), none⟩, ⟨(some 172), .iaddrS 9 (.tmp 170) (.tmp 171), none⟩, ⟨(some 173), .faddr 4 (.tmp 172), none⟩, ⟨(some 174), .load true 2 (.tmp 173), none⟩, ⟨(some 175), .build [(.int .i64 0), (.int .u64 0)] [], none⟩, ⟨(some 176), .eqA true [.int, .int] (.tmp 174) (.tmp 175), none⟩])
 (.cond (.tmp 176) (.seq (.ops [⟨(some 2), .mv (.const (.bool false)), none⟩])
 .ret)
 .skip))
 (.exit 1))
 .skip))
 (.seq (.ops [⟨(some 177), .mv (.tmp 4), none⟩, ⟨(some 178), .mv (.tmp 5), none⟩, ⟨(some 179), .mv (.tmp 10), none⟩, ⟨(some 180), .iaddrS 9 (.tmp 178) (.tmp 179), none⟩, ⟨(some 181), .faddr 7 (.tmp 180), none⟩, ⟨(some 182), .load false 1 (.tmp 181), none⟩, ⟨(some 183), .iaddrS 7 (.tmp 177) (.tmp 182), none⟩, ⟨(some 184), .load true 7 (.tmp 183), none⟩, ⟨(some 12), .alloc [(.int .i64 0), (.bool false), (.int .i64 0), (.int .u64 0), (.int .u64 0), (.int .i64 0), (.int .u64 0)], none⟩, ⟨none, .store 7 (.tmp 12) (.tmp 184), none⟩])
 (.seq (.ops [⟨(some 185), .mv (.tmp 9), none⟩, ⟨(some 186), .mv (.tmp 5), none⟩, ⟨(some 187), .mv (.tmp 10), none⟩, ⟨(some 188), .iaddrS 9 (.tmp 186) (.tmp 187), none⟩, ⟨(some 189), .faddr 7 (.tmp 188), none⟩, ⟨(some 190), .load false 1 (.tmp 189), none⟩, ⟨(some 191), .iaddrS 1 (.tmp 185) (.tmp 190), none⟩, ⟨(some 192), .load false 1 (.tmp 191), none⟩, ⟨(some 193), .bin .add (.tmp 192) (.const (.int .i64 1)), none⟩, ⟨(some 194), .iaddrS 1 (.tmp 185) (.tmp 190), none⟩, ⟨none, .store 1 (.tmp 194) (.tmp 193), none⟩])
 (.seq (.draw [⟨⟨(some 195), .faddr 1 (.tmp 12), none⟩, []⟩, ⟨⟨(some 196), .load false 1 (.tmp 195), none⟩, []⟩, ⟨⟨(some 197), .mv (.tmp 196), none⟩, []⟩, ⟨⟨(some 198), .faddr 0 (.tmp 12), (some (197, false))⟩, []⟩, ⟨⟨(some 199), .load false 1 (.tmp 198), (some (197, false))⟩, []⟩, ⟨⟨(some 200), .mv (.tmp 5), (some (197, false))⟩, []⟩, ⟨⟨(some 201), .mv (.tmp 10), (some (197, false))⟩, []⟩, ⟨⟨(some 202), .iaddrS 9 (.tmp 200) (.tmp 201), (some (197, false))⟩, []⟩, ⟨⟨(some 203), .faddr 0 (.tmp 202), (some (197, false))⟩, []⟩, ⟨⟨(some 204), .load false 1 (.tmp 203), (some (197, false))⟩, []⟩, ⟨⟨(some 205), .bin .neq (.tmp 199) (.tmp 204), (some (197, false))⟩, []⟩, ⟨⟨(some 206), .pick (.tmp 197) (.const (.bool true)) (.tmp 205), none⟩, []⟩, ⟨⟨(some 207), .mv (.tmp 206), none⟩, []⟩, ⟨⟨(some 208), .faddr 2 (.tmp 12), (some (207, false))⟩, []⟩, ⟨⟨(some 209), .load true 3 (.tmp 208), (some (207, false))⟩, []⟩, ⟨⟨(some 210), .mv (.tmp 5), (some (207, false))⟩, []⟩, ⟨⟨(some 211), .mv (.tmp 10), (some (207, false))⟩, []⟩, ⟨⟨(some 212), .iaddrS 9 (.tmp 210) (.tmp 211), (some (207, false))⟩, []⟩, ⟨⟨(some 213), .faddr 1 (.tmp 212), (some (207, false))⟩, []⟩, ⟨⟨(some 214), .load true 3 (.tmp 213), (some (207, false))⟩, []⟩, ⟨⟨(some 215), .eqA true [.int, .int, .int] (.tmp 209) (.tmp 214), (some (207, false))⟩, []⟩, ⟨⟨(some 216), .pick (.tmp 207) (.const (.bool true)) (.tmp 215), none⟩, []⟩, ⟨⟨(some 217), .mv (.tmp 216), none⟩, []⟩, ⟨⟨(some 218), .faddr 5 (.tmp 12), (some (217, false))⟩, []⟩, ⟨⟨(some 219), .load true 2 (.tmp 218), (some (217, false))⟩, []⟩, ⟨⟨(some 220), .mv (.tmp 5), (some (217, false))⟩, []⟩, ⟨⟨(some 221), .mv (.tmp 10), (some (217, false))⟩, []⟩, ⟨⟨(some 222), .iaddrS 9 (.tmp 220) (.tmp 221), (some (217, false))⟩, []⟩, ⟨⟨(some 223), .faddr 4 (.tmp 222), (some (217, false))⟩, []⟩, ⟨⟨(some 224), .load true 2 (.tmp 223), (some (217, false))⟩, []⟩, ⟨⟨(some 225), .eqA true [.int, .int] (.tmp 219) (.tmp 224), (some (217, false))⟩, []⟩, ⟨⟨(some 226), .pick (.tmp 217) (.const (.bool true)) (.tmp 225), none⟩, []⟩])
 (.cond (.tmp 226) (.seq (.ops [⟨(some 2), .mv (.const (.bool false)), none⟩])
 .ret)
 .skip))))))))))
 (.ops [⟨(some 48), .mv (.tmp 10), none⟩, ⟨(some 49), .bin .add (.tmp 48) (.const (.int .i64 1)), none⟩, ⟨(some 10), .mv (.tmp 49), none⟩]))))))
 (.seq (.seq (.ops [⟨(some 13), .mv (.const (.int .i64 0)), none⟩])
 (.block 2 (.loop (.seq (.seq (.ops [⟨(some 227), .mv (.tmp 13), none⟩, ⟨(some 228), .mv (.tmp 9), none⟩, ⟨(some 229), .len false (.tmp 228), none⟩, ⟨(some 230), .bin .lss (.tmp 227) (.tmp 229), none⟩])
 (.cond (.tmp 230) .skip
 (.exit 2)))
 (.seq (.block 3 (.seq (.ops [⟨(some 233), .mv (.tmp 9), none⟩, ⟨(some 234), .mv (.tmp 13), none⟩, ⟨(some 235), .iaddrS 1 (.tmp 233) (.tmp 234), none⟩, ⟨(some 236), .load false 1 (.tmp 235), none⟩, ⟨(some 237), .bin .neq (.tmp 236) (.const (.int .i64 1)), none⟩])
 (.cond (.tmp 237) (.seq (.ops [⟨(some 2), .mv (.const (.bool false)), none⟩])
 .ret)
 .skip)))
 (.ops [⟨(some 231), .mv (.tmp 13), none⟩, ⟨(some 232), .bin .add (.tmp 231) (.const (.int .i64 1)), none⟩, ⟨(some 13), .mv (.tmp 232), none⟩]))))))
 (.seq (.ops [⟨(some 238), .mv (.tmp 3), none⟩, ⟨(some 2), .mv (.tmp 238), none⟩])
 .ret)))))))))),
 239, [.tmp 2]⟩
theorem low4 : lowerFn Try.prog Try.f4 = some L4 := by kernel_rfl
noncomputable def G4 (B : OH) : Nat → Cs
  | 8 => V8 B
  | 9 => V9 B
  | 11 => V11 B
  | 16 => V16 B
  | 19 => V19 B
  | _ => fun _ _ _ => none
theorem G4_8 {B : OH} : G4 B 8 = V8 B := rfl
theorem G4_9 {B : OH} : G4 B 9 = V9 B := rfl
theorem G4_11 {B : OH} : G4 B 11 = V11 B := rfl
theorem G4_16 {B : OH} : G4 B 16 = V16 B := rfl
theorem G4_19 {B : OH} : G4 B 19 = V19 B := rfl
theorem sG4 {w0 : World} {B : OH} : SoundG Try.prog w0 B { f := G4 B } := .of fun k => by
  unfold G4
  split
  · exact .inr ⟨en8, sV8⟩
  · exact .inr ⟨en9, sV9⟩
  · exact .inr ⟨en11, sV11⟩
  · exact .inr ⟨en16, sV16⟩
  · exact .inr ⟨en19, sV19⟩
  · exact .inl fun _ _ _ => rfl
theorem en4 : Enter Try.prog 4 := .of Try.func4 (by kernel_rfl) (by kernel_rfl)
noncomputable def T4 (B : OH) : Cs := callF B { f := G4 B } 1300 L4
theorem sT4 {w0 : World} {B : OH} : SoundC Try.prog w0 B 4 (T4 B) := callF_sound mixedOrders sG4 1300 Try.func4 low4
structure K4 (vl vc : Value) (q n j : Nat) (ts : List Value) : Prop where
  l : ts.length = 239
  t3 : gt ts 3 = .bool true
  t4 : gt ts 4 = vl
  t5 : gt ts 5 = vc
  t9 : gt ts 9 = .slice (some ⟨q, 0, none⟩) n n
  t10 : gt ts 10 = .int .i64 (j : Int)
structure K4b (q n j : Nat) (ts : List Value) : Prop where
  l : ts.length = 239
  t3 : gt ts 3 = .bool true
  t9 : gt ts 9 = .slice (some ⟨q, 0, none⟩) n n
  t13 : gt ts 13 = .int .i64 (j : Int)
set_option maxHeartbeats 8000000 in
theorem lv4 {B : OH} {v : Value} {w : List R3} (hw : RawR w) (H : HL) (N : St) (hN : good B H N) (hv : SlR r3 3 B H v w) :
    ∃ H' N', T4 B [v] H N = some (.ret (.bool true), H', N') := by
  have hB := good_B hN
  have hR := good_rdB hN
  have hI := beqN hN.1.1
  have hG : ∃ H N, good B H N := ⟨H, N, hN⟩
  have hlv := hv.len
  have a8 := f8 hG
  obtain ⟨v9, H9, N9, e9, g9, f9, s9⟩ := raw hN hv hw
  have r9 := s9.rd ev7_len
  obtain ⟨vC, HC, NC, eC, gC, fC, sC⟩ := calls' g9 r9
  rw [g_err] at eC
  rw [g_cls] at sC
  have rC0 := sC.rd cl9_len
  have hcl := gCls_len w
  have hml := gMany_le w
  obtain ⟨vE, HE, NE, eE, gE, fE, sE⟩ := events gC rC0 (by omega) (gMany w : Int) (by omega)
  have hev : hEv (gMany w : Int) (gCls w) = (gEvs w, 0) := by
    have := hEv_cls (g_err w)
    rwa [gEvs_len, g_cls] at this
  rw [hev] at eE sE
  simp only at eE sE
  have rC := rC0.mono fE
  have rL := r9.mono (fC.trans fE)
  have hlC := rC.len
  have hlL := rL.len
  rw [gEvs_len] at hlL
  have eS := same16 gE (sE.rd ev7_len) rL (by rw [gEvs_len]; omega)
  rw [decide_eq_true rfl] at eS
  have hI' := gInv w
  have m0 : (0 : Int) ≤ (gMany w : Int) := by omega
  have m1 : (gMany w : Int) ≤ 140737488355328 := by omega
  have m2 : (8 : Int) * (gMany w : Int) ≤ 140737488355328 := by omega
  have m3 : ((8 : Nat) : Int) * (gMany w : Int) ≤ 140737488355328 := by omega
  have m4 : (gMany w : Int) ≤ (gMany w : Int) := Int.le_refl _
  have hB := good_B gE
  have hR := good_rdB gE
  have hI := beqN gE.1.1
  simp -implicitDefEqProofs (maxSteps := 10000000) (disch := omega) only [T4, L4, G4_8, V8_eq, G4_9, G4_11, G4_16, G4_19, hB, hR, hI, lenV_sl, Int.toNat_natCast, bft, btf, gtst, st_len, a8, e9, eC, eE, hlL, eS, m0, m1, m2, m3, m4, rep_f1, Nat.mul_one, pad, e_skip, e_ops, e_draw, d_none, d_nil, d_cons, d_ite, h_none, h_nil, h_cons, h_ite, eqS_same, lightV, e_seq, e_cond, e_block, e_exit, e_ret, s_normal, s_ret, s_exit, s_none, s_ite, b_normal, b_ret, b_exit, b_none, b_ite, c_bool, x_none, x_nil, x_cons, x_ite, p_some, p_none, p_ite, pt_some, pt_none, pv_some, pv_none, pv_ite, w_none, w_some, i_bool, i_undef, bt, bf, v_tmp, v_const, v_global, v_func, evs, f_normal, f_ret, f_none, f_ite, r_some, co_some, l_ptr, m_agg, m_one, sh_app, lk_nil, lk_cons, rd_eq, rdO_some, rdO_none, rdN_none, rdL_some, rdL_none, wrB_none, unitR_some, wr_nil, wr_here, wr_skip, k_cells, tk_zero, tk_take, tk_skip, tkC_some, call_func, gt, st, binV, arith, isSh, storeV, all1, idxAV, fieldV, faddrV, iaddrSV, iaddrAV, pickV, convV, unV, eqbV, eqpV, extV, mm2, mmV, nilckV, ress, res1, retV, Value.cells, cond_true, cond_false, Bool.true_or, Bool.false_or, Bool.or_true, Bool.or_false, beq_self_eq_true, if_true, if_false, ite_true, ite_false, decide_true, decide_false, decide_eq_true_eq, reduceIte, Nat.zero_add, Nat.add_zero, and_self, true_and, and_true, List.size_toArray, List.length_cons, List.length_nil, List.append_nil, List.nil_append, Int.toNat_zero, Bool.not_false, Bool.not_true, Bool.not_not, Bool.false_eq_true, Bool.true_eq_false, reduceCtorEq, Int.reduceLT, Int.reduceLE, Int.reduceToNat, Int.reduceAdd, Int.reduceSub, Int.reduceMul, Int.reduceNeg, Nat.reduceMul, Nat.reduceAdd, Nat.reduceSub, Nat.reduceBEq, Nat.reduceEqDiff, Nat.reduceLT, Nat.reduceLeDiff, Int.reduceBEq, Int.reduceEq, Nat.reducePow, Int.reducePow, IntWalk.i64_in, IntKind.bits, eqAV, eqL, leafEq, andO, fillV, buildSV, List.getElem?_toArray, List.getElem?_cons_zero, List.getElem?_cons_succ, List.getElem?_nil, Int.reduceGT, Int.reduceGE, Int.reduceBNe, Bool.true_and, Bool.and_true, Bool.false_and, Bool.and_false, Bool.and_self, IntWalk.u64_in, Int.cast_ofNat_Int, callF1, pad16, pad_0, pad_1, pad_2, pad_3, pad_4, pad_5, pad_6, pad_7, pad_8, pad_9, pad_10, pad_11, pad_12, pad_13, pad_14, pad_15, gc0, gc1, gc2, gc3, gc4, gc5, gc6, gc7, gc8, gc9, gc10, gc11, gc12, gc13, gc14, gc15, gcS, sc0, sc1, sc2, sc3, sc4, sc5, sc6, sc7, sc8, sc9, sc10, sc11, sc12, sc13, sc14, sc15, scS, List.drop_succ_cons, List.drop_nil, x_pan, s_pan, b_pan, pE_ret, pE_pan, pE_none, pE_ite, pvE_some, pvE_none, pvE_ite, rv_some, rv_none, rv_ite, oR_ret, t_mv, t_pick, t_alloc, t_box, t_build, t_buildS, t_load, t_store, t_nilck, t_bin, t_eqb, t_eqA, t_eqp, t_un, t_conv, t_field, t_idxA, t_faddr, t_iaddrS, t_iaddrA, t_ext, t_len, t_mm, t_call, t_ifc, t_fn, t_slc, t_slcA, t_slcT, t_tass, t_isn, t_mks, t_app, t_pan, panE_i, optE_none, optE_some, bnd_none, bnd_int, slA_none, slA_some, appR_some, appOld_cells, newsV_s, newsV_n, lenS_s, appV_nil, appV_some, mksV_i, sh_c, sh_g, f_pan, endD_ret, dfr_normal, dfr_ret, dfr_pan, restD_normal, callD1, callC1, tassV, isnV, slcV, slcAV, slcTV, slcB, appNew, Option.bind_some, Option.bind_none, d_pan, h_pan, wrH_eq, wrX_cells, wrU_some, upH_nil, upH_cons, lk_upH, effR_some, effR_none, effR_ite, Option.isNone_none, Option.isNone_some, slA_zero, call_yield, e_range, it_func, wy_same, y_call, isLp_self, beg_normal, end_normal, end_ret, end_exit, end_ite, aft_ret, aft_ready, aft_done, aft_exit, setP_cons, setP_nil, sh_r, t_mkmap, t_mlook, t_mupd, t_mdel, mapF_some, lookF_some, setM_some, lookR_t, lookR_n, lookR_f, lookR_fn, lookV, mupdV, mdelV, mkM]
  generalize hX : exec B _ _ (LC.loop _) _ = o
  have hO : Ok o (fun x s => x = .exit 0 ∧ good B s.H s.N ∧ lk s.H (NE.n 0) = some (.cells (fl f1 (hadL (gMany w) (gCls w) (gCls w).length)) (gMany w)) ∧ ∃ j, K4 v9 vC (NE.n 0) (gMany w) j s.t) := by
    rw [← hX]
    refine loop_rule (n0 := 100) (fun k s => ∃ ts H' N', ∃ j : Nat, s = ⟨ts, H', N'⟩ ∧ K4 v9 vC (NE.n 0) (gMany w) j ts ∧ good B H' N' ∧ Fr HE H' ∧ lk H' (NE.n 0) = some (.cells (fl f1 (hadL (gMany w) (gCls w) j)) (gMany w)) ∧ j ≤ (gCls w).length ∧ k = (gCls w).length - j) _ ?_ (gCls w).length _ ⟨_, _, _, 0, rfl, ⟨rfl, rfl, rfl, rfl, rfl, rfl⟩, good_new gE, fr_new gE Fr.refl 0, lk_top, by omega, rfl⟩ _ (by omega)
    clear hX eS eE eC e9 a8
    have hBq := hB 0
    have h0q := lk_N gE 0
    generalize NE.n 0 = q at hBq h0q ⊢
    clear hB hR hI
    rintro n0 k0 s ⟨ts, H', N', j, rfl, kp, g, fr, hlq, hjl, rfl⟩
    have hB := good_B g
    have hR := good_rdB g
    have hI := beqN g.1.1
    have hc1 : ((j + 1 : Nat) : Int) = (j : Int) + 1 := by omega
    have hqr := fun o n => rdB_none (o := o) (n := n) hBq
    have nq := ne_N g hlq
    have nq' := ne_N' g hlq
    by_cases hj : j < (gCls w).length
    case neg =>
      obtain rfl : j = (gCls w).length := by omega
      simp -implicitDefEqProofs (maxSteps := 10000000) (disch := omega) only [T4, L4, G4_8, V8_eq, G4_9, G4_11, G4_16, G4_19, hB, hR, hI, kp.l, kp.t3, kp.t4, kp.t5, kp.t9, kp.t10, lenV_sl, Int.toNat_natCast, bft, btf, gtst, st_len, hlC, Int.lt_irrefl, pad, e_skip, e_ops, e_draw, d_none, d_nil, d_cons, d_ite, h_none, h_nil, h_cons, h_ite, eqS_same, lightV, e_seq, e_cond, e_block, e_exit, e_ret, s_normal, s_ret, s_exit, s_none, s_ite, b_normal, b_ret, b_exit, b_none, b_ite, c_bool, x_none, x_nil, x_cons, x_ite, p_some, p_none, p_ite, pt_some, pt_none, pv_some, pv_none, pv_ite, w_none, w_some, i_bool, i_undef, bt, bf, v_tmp, v_const, v_global, v_func, evs, f_normal, f_ret, f_none, f_ite, r_some, co_some, l_ptr, m_agg, m_one, sh_app, lk_nil, lk_cons, rd_eq, rdO_some, rdO_none, rdN_none, rdL_some, rdL_none, wrB_none, unitR_some, wr_nil, wr_here, wr_skip, k_cells, tk_zero, tk_take, tk_skip, tkC_some, call_func, gt, st, binV, arith, isSh, storeV, all1, idxAV, fieldV, faddrV, iaddrSV, iaddrAV, pickV, convV, unV, eqbV, eqpV, extV, mm2, mmV, nilckV, ress, res1, retV, Value.cells, cond_true, cond_false, Bool.true_or, Bool.false_or, Bool.or_true, Bool.or_false, beq_self_eq_true, if_true, if_false, ite_true, ite_false, decide_true, decide_false, decide_eq_true_eq, reduceIte, Nat.zero_add, Nat.add_zero, and_self, true_and, and_true, List.size_toArray, List.length_cons, List.length_nil, List.append_nil, List.nil_append, Int.toNat_zero, Bool.not_false, Bool.not_true, Bool.not_not, Bool.false_eq_true, Bool.true_eq_false, reduceCtorEq, Int.reduceLT, Int.reduceLE, Int.reduceToNat, Int.reduceAdd, Int.reduceSub, Int.reduceMul, Int.reduceNeg, Nat.reduceMul, Nat.reduceAdd, Nat.reduceSub, Nat.reduceBEq, Nat.reduceEqDiff, Nat.reduceLT, Nat.reduceLeDiff, Int.reduceBEq, Int.reduceEq, Nat.reducePow, Int.reducePow, IntWalk.i64_in, IntKind.bits, eqAV, eqL, leafEq, andO, fillV, buildSV, List.getElem?_toArray, List.getElem?_cons_zero, List.getElem?_cons_succ, List.getElem?_nil, Int.reduceGT, Int.reduceGE, Int.reduceBNe, Bool.true_and, Bool.and_true, Bool.false_and, Bool.and_false, Bool.and_self, IntWalk.u64_in, Int.cast_ofNat_Int, callF1, pad16, pad_0, pad_1, pad_2, pad_3, pad_4, pad_5, pad_6, pad_7, pad_8, pad_9, pad_10, pad_11, pad_12, pad_13, pad_14, pad_15, gc0, gc1, gc2, gc3, gc4, gc5, gc6, gc7, gc8, gc9, gc10, gc11, gc12, gc13, gc14, gc15, gcS, sc0, sc1, sc2, sc3, sc4, sc5, sc6, sc7, sc8, sc9, sc10, sc11, sc12, sc13, sc14, sc15, scS, List.drop_succ_cons, List.drop_nil, x_pan, s_pan, b_pan, pE_ret, pE_pan, pE_none, pE_ite, pvE_some, pvE_none, pvE_ite, rv_some, rv_none, rv_ite, oR_ret, t_mv, t_pick, t_alloc, t_box, t_build, t_buildS, t_load, t_store, t_nilck, t_bin, t_eqb, t_eqA, t_eqp, t_un, t_conv, t_field, t_idxA, t_faddr, t_iaddrS, t_iaddrA, t_ext, t_len, t_mm, t_call, t_ifc, t_fn, t_slc, t_slcA, t_slcT, t_tass, t_isn, t_mks, t_app, t_pan, panE_i, optE_none, optE_some, bnd_none, bnd_int, slA_none, slA_some, appR_some, appOld_cells, newsV_s, newsV_n, lenS_s, appV_nil, appV_some, mksV_i, sh_c, sh_g, f_pan, endD_ret, dfr_normal, dfr_ret, dfr_pan, restD_normal, callD1, callC1, tassV, isnV, slcV, slcAV, slcTV, slcB, appNew, Option.bind_some, Option.bind_none, d_pan, h_pan, wrH_eq, wrX_cells, wrU_some, upH_nil, upH_cons, lk_upH, effR_some, effR_none, effR_ite, Option.isNone_none, Option.isNone_some, slA_zero, call_yield, e_range, it_func, wy_same, y_call, isLp_self, beg_normal, end_normal, end_ret, end_exit, end_ite, aft_ret, aft_ready, aft_done, aft_exit, setP_cons, setP_nil, sh_r, t_mkmap, t_mlook, t_mupd, t_mdel, mapF_some, lookF_some, setM_some, lookR_t, lookR_n, lookR_f, lookR_fn, lookV, mupdV, mdelV, mkM]
      refine ok_some (.inr ⟨by simp, rfl, g, hlq, (gCls w).length, ⟨?_, ?_, ?_, ?_, ?_, ?_⟩⟩)
      all_goals simp -implicitDefEqProofs (maxSteps := 10000000) (disch := omega) only [T4, L4, G4_8, V8_eq, G4_9, G4_11, G4_16, G4_19, hB, hR, hI, kp.l, kp.t3, kp.t4, kp.t5, kp.t9, kp.t10, lenV_sl, Int.toNat_natCast, bft, btf, gtst, st_len, pad, e_skip, e_ops, e_draw, d_none, d_nil, d_cons, d_ite, h_none, h_nil, h_cons, h_ite, eqS_same, lightV, e_seq, e_cond, e_block, e_exit, e_ret, s_normal, s_ret, s_exit, s_none, s_ite, b_normal, b_ret, b_exit, b_none, b_ite, c_bool, x_none, x_nil, x_cons, x_ite, p_some, p_none, p_ite, pt_some, pt_none, pv_some, pv_none, pv_ite, w_none, w_some, i_bool, i_undef, bt, bf, v_tmp, v_const, v_global, v_func, evs, f_normal, f_ret, f_none, f_ite, r_some, co_some, l_ptr, m_agg, m_one, sh_app, lk_nil, lk_cons, rd_eq, rdO_some, rdO_none, rdN_none, rdL_some, rdL_none, wrB_none, unitR_some, wr_nil, wr_here, wr_skip, k_cells, tk_zero, tk_take, tk_skip, tkC_some, call_func, gt, st, binV, arith, isSh, storeV, all1, idxAV, fieldV, faddrV, iaddrSV, iaddrAV, pickV, convV, unV, eqbV, eqpV, extV, mm2, mmV, nilckV, ress, res1, retV, Value.cells, cond_true, cond_false, Bool.true_or, Bool.false_or, Bool.or_true, Bool.or_false, beq_self_eq_true, if_true, if_false, ite_true, ite_false, decide_true, decide_false, decide_eq_true_eq, reduceIte, Nat.zero_add, Nat.add_zero, and_self, true_and, and_true, List.size_toArray, List.length_cons, List.length_nil, List.append_nil, List.nil_append, Int.toNat_zero, Bool.not_false, Bool.not_true, Bool.not_not, Bool.false_eq_true, Bool.true_eq_false, reduceCtorEq, Int.reduceLT, Int.reduceLE, Int.reduceToNat, Int.reduceAdd, Int.reduceSub, Int.reduceMul, Int.reduceNeg, Nat.reduceMul, Nat.reduceAdd, Nat.reduceSub, Nat.reduceBEq, Nat.reduceEqDiff, Nat.reduceLT, Nat.reduceLeDiff, Int.reduceBEq, Int.reduceEq, Nat.reducePow, Int.reducePow, IntWalk.i64_in, IntKind.bits, eqAV, eqL, leafEq, andO, fillV, buildSV, List.getElem?_toArray, List.getElem?_cons_zero, List.getElem?_cons_succ, List.getElem?_nil, Int.reduceGT, Int.reduceGE, Int.reduceBNe, Bool.true_and, Bool.and_true, Bool.false_and, Bool.and_false, Bool.and_self, IntWalk.u64_in, Int.cast_ofNat_Int, callF1, pad16, pad_0, pad_1, pad_2, pad_3, pad_4, pad_5, pad_6, pad_7, pad_8, pad_9, pad_10, pad_11, pad_12, pad_13, pad_14, pad_15, gc0, gc1, gc2, gc3, gc4, gc5, gc6, gc7, gc8, gc9, gc10, gc11, gc12, gc13, gc14, gc15, gcS, sc0, sc1, sc2, sc3, sc4, sc5, sc6, sc7, sc8, sc9, sc10, sc11, sc12, sc13, sc14, sc15, scS, List.drop_succ_cons, List.drop_nil, x_pan, s_pan, b_pan, pE_ret, pE_pan, pE_none, pE_ite, pvE_some, pvE_none, pvE_ite, rv_some, rv_none, rv_ite, oR_ret, t_mv, t_pick, t_alloc, t_box, t_build, t_buildS, t_load, t_store, t_nilck, t_bin, t_eqb, t_eqA, t_eqp, t_un, t_conv, t_field, t_idxA, t_faddr, t_iaddrS, t_iaddrA, t_ext, t_len, t_mm, t_call, t_ifc, t_fn, t_slc, t_slcA, t_slcT, t_tass, t_isn, t_mks, t_app, t_pan, panE_i, optE_none, optE_some, bnd_none, bnd_int, slA_none, slA_some, appR_some, appOld_cells, newsV_s, newsV_n, lenS_s, appV_nil, appV_some, mksV_i, sh_c, sh_g, f_pan, endD_ret, dfr_normal, dfr_ret, dfr_pan, restD_normal, callD1, callC1, tassV, isnV, slcV, slcAV, slcTV, slcB, appNew, Option.bind_some, Option.bind_none, d_pan, h_pan, wrH_eq, wrX_cells, wrU_some, upH_nil, upH_cons, lk_upH, effR_some, effR_none, effR_ite, Option.isNone_none, Option.isNone_some, slA_zero, call_yield, e_range, it_func, wy_same, y_call, isLp_self, beg_normal, end_normal, end_ret, end_exit, end_ite, aft_ret, aft_ready, aft_done, aft_exit, setP_cons, setP_nil, sh_r, t_mkmap, t_mlook, t_mupd, t_mdel, mapF_some, lookF_some, setM_some, lookR_t, lookR_n, lookR_f, lookR_fn, lookV, mupdV, mdelV, mkM]
    have hj' : (j : Int) < ((gCls w).length : Int) := by omega
    have j0 : (0 : Int) ≤ (j : Int) := by omega
    have hcj : (gCls w)[j]? = some ((gCls w).getD j z0) := some_getD hj
    have hgpos : 0 < (gEvs w).length := by
      obtain ⟨i, _, h, _⟩ := hI'.begE hcj
      rw [gEvs_len]; omega
    obtain ⟨bc, oc, cc0, rfl, dc, rc⟩ := rC.at (by omega)
    obtain ⟨bl, ol, cl0, rfl, dl, rl⟩ := rL.at hgpos
    have uCn := ne_den g (by
      have := dc
      unfold den at this ⊢
      cases hb : B bc with
      | some k => rfl
      | none => rw [hb] at this; obtain ⟨k, hk⟩ := Option.isSome_iff_exists.1 this; simp [fr _ _ hk]) (b := bc)
    have uLn := ne_den g (by
      have := dl
      unfold den at this ⊢
      cases hb : B bl with
      | some k => rfl
      | none => rw [hb] at this; obtain ⟨k, hk⟩ := Option.isSome_iff_exists.1 this; simp [fr _ _ hk]) (b := bl)
    have uC : ∀ i k H o n r, rdO ((N'.n i, k) :: H) B bc o n r = rdO H B bc o n r := fun i _ _ _ _ _ => rdO_cons (uCn i)
    have uL : ∀ i k H o n r, rdO ((N'.n i, k) :: H) B bl o n r = rdO H B bl o n r := fun i _ _ _ _ _ => rdO_cons (uLn i)
    have uCq : ∀ k H o n r, rdO (upH H q k) B bc o n r = rdO H B bc o n r := fun _ _ _ _ _ => rdO_up (ne_of_den dc hBq h0q)
    have uLq : ∀ k H o n r, rdO (upH H q k) B bl o n r = rdO H B bl o n r := fun _ _ _ _ _ => rdO_up (ne_of_den dl hBq h0q)
    have q0 : rdO H' B bc (oc + j * 9) 1 (rdB B bc (oc + j * 9) 1) = some [.int .i64 ((gCls w).getD j z0).p] := (rc H' fr j 0 1 z0 hj (by omega)).trans rfl
    have q1 : rdO H' B bc (oc + j * 9 + 1) 3 (rdB B bc (oc + j * 9 + 1) 3) = some [.int .i64 ((gCls w).getD j z0).c, .int .u64 ((gCls w).getD j z0).k, .int .u64 ((gCls w).getD j z0).v] := (rc H' fr j 1 3 z0 hj (by omega)).trans rfl
    have q4 : rdO H' B bc (oc + j * 9 + 4) 2 (rdB B bc (oc + j * 9 + 4) 2) = some [.int .i64 ((gCls w).getD j z0).e, .int .u64 ((gCls w).getD j z0).r] := (rc H' fr j 4 2 z0 hj (by omega)).trans rfl
    have q6 : rdO H' B bc (oc + j * 9 + 6) 1 (rdB B bc (oc + j * 9 + 6) 1) = some [.int .i64 ((gCls w).getD j z0).f] := (rc H' fr j 6 1 z0 hj (by omega)).trans rfl
    have q7 : rdO H' B bc (oc + j * 9 + 7) 1 (rdB B bc (oc + j * 9 + 7) 1) = some [.int .i64 ((gCls w).getD j z0).t] := (rc H' fr j 7 1 z0 hj (by omega)).trans rfl
    have q8 : rdO H' B bc (oc + j * 9 + 8) 1 (rdB B bc (oc + j * 9 + 8) 1) = some [.bool ((gCls w).getD j z0).d] := (rc H' fr j 8 1 z0 hj (by omega)).trans rfl
    have qp : ∀ jj : Nat, j = jj + 1 → rdO H' B bc (oc + jj * 9 + 6) 1 (rdB B bc (oc + jj * 9 + 6) 1) = some [.int .i64 ((gCls w).getD jj z0).f] ∧ ¬ ((gCls w).getD jj z0).f ≥ ((gCls w).getD j z0).f := fun jj e => ⟨(rc H' fr jj 6 1 z0 (by omega) (by omega)).trans rfl, by
      have := hI'.mo jj j _ _ (some_getD (d := z0) (by omega)) hcj (by omega)
      omega⟩
    have qL : ∀ a x, (gEvs w)[a]? = some x → rdO H' B bl (ol + a * 7) 7 (rdB B bl (ol + a * 7) 7) = some (ev7 x) := fun a x hx => (rl H' (fr) a 0 7 e0 ((List.getElem?_eq_some_iff.1 hx).1) (by omega)).trans (by rw [getD_some hx]; rfl)
    have hhl := hadL_len (gMany w) (gCls w) j
    have hhb := hadL_le hI' j (by omega)
    have hrun : hadL (gMany w) (gCls w) (j + 1) = hadC (hadL (gMany w) (gCls w) j) ((gCls w).getD j z0) := rfl
    obtain ⟨a, a1, a2, a3⟩ := hI'.begE hcj
    have hfin : ((gCls w).getD j z0).d = true → ∃ i : Nat, ((gCls w).getD j z0).t = i ∧ ((gCls w).getD j z0).f < i ∧ i < gMany w ∧ (gEvs w)[i]? = some (endE ((gCls w).getD j z0)) := fun h => hI'.endE hcj h
    have hopn : ((gCls w).getD j z0).d = false → ((gCls w).getD j z0).t = gMany w ∧ ((gCls w).getD j z0).e = 0 ∧ ((gCls w).getD j z0).r = 0 := fun h => hI'.nd j _ hcj h
    generalize hadL (gMany w) (gCls w) j = O at hlq hhl hhb hrun
    generalize (gCls w).getD j z0 = c at q0 q1 q4 q6 q7 q8 qp a1 a3 hfin hopn hrun
    obtain ⟨p, cc, kk, vv, e, r, f, t, d⟩ := c
    simp only at q0 q1 q4 q6 q7 q8 qp a1 a3 hfin hopn
    subst a1
    have ql := qL a _ a3
    simp only [ev7, begE] at ql
    have a0 : (0 : Int) ≤ (a : Int) := by omega
    have an := a2
    have t1 := tk_f1 (L := O) (a := a) (by omega)
    have w1 := wr_f1 (L := O) (a := a) (x := O.getD a 0 + 1) (by omega)
    have hha := hhb a a2
    have c1 : ¬ (a : Int) < 0 := by omega
    have c2 : ¬ (a : Int) ≥ (gMany w : Int) := by omega
    have gg1 : good B ((N'.n 0, .cells [.int .i64 p, .bool true, .int .i64 cc, .int .u64 kk, .int .u64 vv, .int .i64 0, .int .u64 0] 7) :: H') (sh N') := good_new g
    have hl1 : lk ((N'.n 0, .cells [.int .i64 p, .bool true, .int .i64 cc, .int .u64 kk, .int .u64 vv, .int .i64 0, .int .u64 0] 7) :: H') q = some (.cells (fl f1 O) (gMany w)) := by rw [lk_cons, nq, cond_false]; exact hlq
    have gg2 := good_up (k := .cells (fl f1 (O.set a (O.getD a 0 + 1))) (gMany w)) gg1 hBq hl1
    have ff2 := fr_up (k := .cells (fl f1 (O.set a (O.getD a 0 + 1))) (gMany w)) (fr_new (k := .cells [.int .i64 p, .bool true, .int .i64 cc, .int .u64 kk, .int .u64 vv, .int .i64 0, .int .u64 0] 7) g fr 0) h0q
    simp only [upH_cons, nq, cond_false] at gg2 ff2
    have hl2 : lk ((N'.n 0, .cells [.int .i64 p, .bool true, .int .i64 cc, .int .u64 kk, .int .u64 vv, .int .i64 0, .int .u64 0] 7) :: upH H' q (.cells (fl f1 (O.set a (O.getD a 0 + 1))) (gMany w))) q = some (.cells (fl f1 (O.set a (O.getD a 0 + 1))) (gMany w)) := by rw [lk_cons, nq, cond_false, lk_upH, beq_self_eq_true, cond_true]
    cases d with
    | true =>
      obtain ⟨b, b1, b2, b3, b4⟩ := hfin rfl
      subst b1
      have qm := qL b _ b4
      simp only [ev7, endE] at qm
      have b0 : (0 : Int) ≤ (b : Int) := by omega
      have c3 : ¬ (b : Int) ≤ (a : Int) := by omega
      have c4 : ¬ (b : Int) > (gMany w : Int) := by omega
      have c5 : (b : Int) < (gMany w : Int) := by omega
      have hv2 : (O.set a (O.getD a 0 + 1)).getD b 0 = O.getD b 0 := by rw [getD_set _ _ _ _ _ (by omega), if_neg (by omega)]
      have t2 := tk_f1 (L := O.set a (O.getD a 0 + 1)) (a := b) (by rw [List.length_set]; omega)
      rw [hv2] at t2
      have w2 := wr_f1 (L := O.set a (O.getD a 0 + 1)) (a := b) (x := O.getD b 0 + 1) (by rw [List.length_set]; omega)
      have hhbb := hhb b b3
      have hrun' : hadL (gMany w) (gCls w) (j + 1) = (O.set a (O.getD a 0 + 1)).set b (O.getD b 0 + 1) := by rw [hrun]; simp only [hadC, if_true, Int.toNat_natCast, hv2]
      have gg3 := good_new (k := .cells [.int .i64 p, .bool false, .int .i64 cc, .int .u64 kk, .int .u64 vv, .int .i64 e, .int .u64 r] 7) gg2
      have ff3 := fr_new (k := .cells [.int .i64 p, .bool false, .int .i64 cc, .int .u64 kk, .int .u64 vv, .int .i64 e, .int .u64 r] 7) gg2 ff2 0
      have hl3 := (fr_new (k := .cells [.int .i64 p, .bool false, .int .i64 cc, .int .u64 kk, .int .u64 vv, .int .i64 e, .int .u64 r] 7) gg2 Fr.refl 0) _ _ hl2
      have gg4 := good_up (k := .cells (fl f1 ((O.set a (O.getD a 0 + 1)).set b (O.getD b 0 + 1))) (gMany w)) gg3 hBq hl3
      have ff4 := fr_up (k := .cells (fl f1 ((O.set a (O.getD a 0 + 1)).set b (O.getD b 0 + 1))) (gMany w)) ff3 h0q
      simp only [upH_cons, nq, sh_app, cond_false, Nat.zero_add] at gg4 ff4
      by_cases jz : (j : Int) > 0
      · obtain ⟨jj, hjj⟩ : ∃ jj, j = jj + 1 := ⟨j - 1, by omega⟩
        obtain ⟨p1, p2⟩ := qp jj hjj
        have p3 : (j : Int) - 1 = (jj : Int) := by omega
        have p4 : jj < (gCls w).length := by omega
        have p5 : (0 : Int) ≤ (jj : Int) := by omega
        simp -implicitDefEqProofs (maxSteps := 10000000) (disch := omega) only [T4, L4, G4_8, V8_eq, G4_9, G4_11, G4_16, G4_19, hB, hR, hI, kp.l, kp.t3, kp.t4, kp.t5, kp.t9, kp.t10, lenV_sl, Int.toNat_natCast, bft, btf, gtst, st_len, Nat.mul_one, hlL, hlC, hj', hj, j0, q0, q1, q4, q6, q7, q8, ql, a0, an, hlq, hBq, hqr, nq, nq', uC, uCq, uL, uLq, t1, w1, c1, c2, c3, c4, c5, beq_self_eq_true, bne_self_eq_false, gEvs_len, jz, p1, p2, p3, p4, p5, qm, b0, b3, t2, w2, pad, e_skip, e_ops, e_draw, d_none, d_nil, d_cons, d_ite, h_none, h_nil, h_cons, h_ite, eqS_same, lightV, e_seq, e_cond, e_block, e_exit, e_ret, s_normal, s_ret, s_exit, s_none, s_ite, b_normal, b_ret, b_exit, b_none, b_ite, c_bool, x_none, x_nil, x_cons, x_ite, p_some, p_none, p_ite, pt_some, pt_none, pv_some, pv_none, pv_ite, w_none, w_some, i_bool, i_undef, bt, bf, v_tmp, v_const, v_global, v_func, evs, f_normal, f_ret, f_none, f_ite, r_some, co_some, l_ptr, m_agg, m_one, sh_app, lk_nil, lk_cons, rd_eq, rdO_some, rdO_none, rdN_none, rdL_some, rdL_none, wrB_none, unitR_some, wr_nil, wr_here, wr_skip, k_cells, tk_zero, tk_take, tk_skip, tkC_some, call_func, gt, st, binV, arith, isSh, storeV, all1, idxAV, fieldV, faddrV, iaddrSV, iaddrAV, pickV, convV, unV, eqbV, eqpV, extV, mm2, mmV, nilckV, ress, res1, retV, Value.cells, cond_true, cond_false, Bool.true_or, Bool.false_or, Bool.or_true, Bool.or_false, beq_self_eq_true, if_true, if_false, ite_true, ite_false, decide_true, decide_false, decide_eq_true_eq, reduceIte, Nat.zero_add, Nat.add_zero, and_self, true_and, and_true, List.size_toArray, List.length_cons, List.length_nil, List.append_nil, List.nil_append, Int.toNat_zero, Bool.not_false, Bool.not_true, Bool.not_not, Bool.false_eq_true, Bool.true_eq_false, reduceCtorEq, Int.reduceLT, Int.reduceLE, Int.reduceToNat, Int.reduceAdd, Int.reduceSub, Int.reduceMul, Int.reduceNeg, Nat.reduceMul, Nat.reduceAdd, Nat.reduceSub, Nat.reduceBEq, Nat.reduceEqDiff, Nat.reduceLT, Nat.reduceLeDiff, Int.reduceBEq, Int.reduceEq, Nat.reducePow, Int.reducePow, IntWalk.i64_in, IntKind.bits, eqAV, eqL, leafEq, andO, fillV, buildSV, List.getElem?_toArray, List.getElem?_cons_zero, List.getElem?_cons_succ, List.getElem?_nil, Int.reduceGT, Int.reduceGE, Int.reduceBNe, Bool.true_and, Bool.and_true, Bool.false_and, Bool.and_false, Bool.and_self, IntWalk.u64_in, Int.cast_ofNat_Int, callF1, pad16, pad_0, pad_1, pad_2, pad_3, pad_4, pad_5, pad_6, pad_7, pad_8, pad_9, pad_10, pad_11, pad_12, pad_13, pad_14, pad_15, gc0, gc1, gc2, gc3, gc4, gc5, gc6, gc7, gc8, gc9, gc10, gc11, gc12, gc13, gc14, gc15, gcS, sc0, sc1, sc2, sc3, sc4, sc5, sc6, sc7, sc8, sc9, sc10, sc11, sc12, sc13, sc14, sc15, scS, List.drop_succ_cons, List.drop_nil, x_pan, s_pan, b_pan, pE_ret, pE_pan, pE_none, pE_ite, pvE_some, pvE_none, pvE_ite, rv_some, rv_none, rv_ite, oR_ret, t_mv, t_pick, t_alloc, t_box, t_build, t_buildS, t_load, t_store, t_nilck, t_bin, t_eqb, t_eqA, t_eqp, t_un, t_conv, t_field, t_idxA, t_faddr, t_iaddrS, t_iaddrA, t_ext, t_len, t_mm, t_call, t_ifc, t_fn, t_slc, t_slcA, t_slcT, t_tass, t_isn, t_mks, t_app, t_pan, panE_i, optE_none, optE_some, bnd_none, bnd_int, slA_none, slA_some, appR_some, appOld_cells, newsV_s, newsV_n, lenS_s, appV_nil, appV_some, mksV_i, sh_c, sh_g, f_pan, endD_ret, dfr_normal, dfr_ret, dfr_pan, restD_normal, callD1, callC1, tassV, isnV, slcV, slcAV, slcTV, slcB, appNew, Option.bind_some, Option.bind_none, d_pan, h_pan, wrH_eq, wrX_cells, wrU_some, upH_nil, upH_cons, lk_upH, effR_some, effR_none, effR_ite, Option.isNone_none, Option.isNone_some, slA_zero, call_yield, e_range, it_func, wy_same, y_call, isLp_self, beg_normal, end_normal, end_ret, end_exit, end_ite, aft_ret, aft_ready, aft_done, aft_exit, setP_cons, setP_nil, sh_r, t_mkmap, t_mlook, t_mupd, t_mdel, mapF_some, lookF_some, setM_some, lookR_t, lookR_n, lookR_f, lookR_fn, lookV, mupdV, mdelV, mkM]
        refine ok_some (.inl ⟨rfl, (gCls w).length - (j + 1), by omega, _, _, _, j + 1, rfl, ⟨?_, ?_, ?_, ?_, ?_, ?_⟩, gg4, ff4, ?_, by omega, rfl⟩)
        rotate_right
        · rw [hrun', lk_cons, nq, cond_false, lk_cons, nq, cond_false, lk_upH, beq_self_eq_true, cond_true]
        all_goals simp -implicitDefEqProofs (maxSteps := 10000000) (disch := omega) only [T4, L4, G4_8, V8_eq, G4_9, G4_11, G4_16, G4_19, hB, hR, hI, kp.l, kp.t3, kp.t4, kp.t5, kp.t9, kp.t10, lenV_sl, Int.toNat_natCast, bft, btf, gtst, st_len, hc1, gEvs_len, pad, e_skip, e_ops, e_draw, d_none, d_nil, d_cons, d_ite, h_none, h_nil, h_cons, h_ite, eqS_same, lightV, e_seq, e_cond, e_block, e_exit, e_ret, s_normal, s_ret, s_exit, s_none, s_ite, b_normal, b_ret, b_exit, b_none, b_ite, c_bool, x_none, x_nil, x_cons, x_ite, p_some, p_none, p_ite, pt_some, pt_none, pv_some, pv_none, pv_ite, w_none, w_some, i_bool, i_undef, bt, bf, v_tmp, v_const, v_global, v_func, evs, f_normal, f_ret, f_none, f_ite, r_some, co_some, l_ptr, m_agg, m_one, sh_app, lk_nil, lk_cons, rd_eq, rdO_some, rdO_none, rdN_none, rdL_some, rdL_none, wrB_none, unitR_some, wr_nil, wr_here, wr_skip, k_cells, tk_zero, tk_take, tk_skip, tkC_some, call_func, gt, st, binV, arith, isSh, storeV, all1, idxAV, fieldV, faddrV, iaddrSV, iaddrAV, pickV, convV, unV, eqbV, eqpV, extV, mm2, mmV, nilckV, ress, res1, retV, Value.cells, cond_true, cond_false, Bool.true_or, Bool.false_or, Bool.or_true, Bool.or_false, beq_self_eq_true, if_true, if_false, ite_true, ite_false, decide_true, decide_false, decide_eq_true_eq, reduceIte, Nat.zero_add, Nat.add_zero, and_self, true_and, and_true, List.size_toArray, List.length_cons, List.length_nil, List.append_nil, List.nil_append, Int.toNat_zero, Bool.not_false, Bool.not_true, Bool.not_not, Bool.false_eq_true, Bool.true_eq_false, reduceCtorEq, Int.reduceLT, Int.reduceLE, Int.reduceToNat, Int.reduceAdd, Int.reduceSub, Int.reduceMul, Int.reduceNeg, Nat.reduceMul, Nat.reduceAdd, Nat.reduceSub, Nat.reduceBEq, Nat.reduceEqDiff, Nat.reduceLT, Nat.reduceLeDiff, Int.reduceBEq, Int.reduceEq, Nat.reducePow, Int.reducePow, IntWalk.i64_in, IntKind.bits, eqAV, eqL, leafEq, andO, fillV, buildSV, List.getElem?_toArray, List.getElem?_cons_zero, List.getElem?_cons_succ, List.getElem?_nil, Int.reduceGT, Int.reduceGE, Int.reduceBNe, Bool.true_and, Bool.and_true, Bool.false_and, Bool.and_false, Bool.and_self, IntWalk.u64_in, Int.cast_ofNat_Int, callF1, pad16, pad_0, pad_1, pad_2, pad_3, pad_4, pad_5, pad_6, pad_7, pad_8, pad_9, pad_10, pad_11, pad_12, pad_13, pad_14, pad_15, gc0, gc1, gc2, gc3, gc4, gc5, gc6, gc7, gc8, gc9, gc10, gc11, gc12, gc13, gc14, gc15, gcS, sc0, sc1, sc2, sc3, sc4, sc5, sc6, sc7, sc8, sc9, sc10, sc11, sc12, sc13, sc14, sc15, scS, List.drop_succ_cons, List.drop_nil, x_pan, s_pan, b_pan, pE_ret, pE_pan, pE_none, pE_ite, pvE_some, pvE_none, pvE_ite, rv_some, rv_none, rv_ite, oR_ret, t_mv, t_pick, t_alloc, t_box, t_build, t_buildS, t_load, t_store, t_nilck, t_bin, t_eqb, t_eqA, t_eqp, t_un, t_conv, t_field, t_idxA, t_faddr, t_iaddrS, t_iaddrA, t_ext, t_len, t_mm, t_call, t_ifc, t_fn, t_slc, t_slcA, t_slcT, t_tass, t_isn, t_mks, t_app, t_pan, panE_i, optE_none, optE_some, bnd_none, bnd_int, slA_none, slA_some, appR_some, appOld_cells, newsV_s, newsV_n, lenS_s, appV_nil, appV_some, mksV_i, sh_c, sh_g, f_pan, endD_ret, dfr_normal, dfr_ret, dfr_pan, restD_normal, callD1, callC1, tassV, isnV, slcV, slcAV, slcTV, slcB, appNew, Option.bind_some, Option.bind_none, d_pan, h_pan, wrH_eq, wrX_cells, wrU_some, upH_nil, upH_cons, lk_upH, effR_some, effR_none, effR_ite, Option.isNone_none, Option.isNone_some, slA_zero, call_yield, e_range, it_func, wy_same, y_call, isLp_self, beg_normal, end_normal, end_ret, end_exit, end_ite, aft_ret, aft_ready, aft_done, aft_exit, setP_cons, setP_nil, sh_r, t_mkmap, t_mlook, t_mupd, t_mdel, mapF_some, lookF_some, setM_some, lookR_t, lookR_n, lookR_f, lookR_fn, lookV, mupdV, mdelV, mkM]
      · simp -implicitDefEqProofs (maxSteps := 10000000) (disch := omega) only [T4, L4, G4_8, V8_eq, G4_9, G4_11, G4_16, G4_19, hB, hR, hI, kp.l, kp.t3, kp.t4, kp.t5, kp.t9, kp.t10, lenV_sl, Int.toNat_natCast, bft, btf, gtst, st_len, Nat.mul_one, hlL, hlC, hj', hj, j0, q0, q1, q4, q6, q7, q8, ql, a0, an, hlq, hBq, hqr, nq, nq', uC, uCq, uL, uLq, t1, w1, c1, c2, c3, c4, c5, beq_self_eq_true, bne_self_eq_false, gEvs_len, jz, qm, b0, b3, t2, w2, pad, e_skip, e_ops, e_draw, d_none, d_nil, d_cons, d_ite, h_none, h_nil, h_cons, h_ite, eqS_same, lightV, e_seq, e_cond, e_block, e_exit, e_ret, s_normal, s_ret, s_exit, s_none, s_ite, b_normal, b_ret, b_exit, b_none, b_ite, c_bool, x_none, x_nil, x_cons, x_ite, p_some, p_none, p_ite, pt_some, pt_none, pv_some, pv_none, pv_ite, w_none, w_some, i_bool, i_undef, bt, bf, v_tmp, v_const, v_global, v_func, evs, f_normal, f_ret, f_none, f_ite, r_some, co_some, l_ptr, m_agg, m_one, sh_app, lk_nil, lk_cons, rd_eq, rdO_some, rdO_none, rdN_none, rdL_some, rdL_none, wrB_none, unitR_some, wr_nil, wr_here, wr_skip, k_cells, tk_zero, tk_take, tk_skip, tkC_some, call_func, gt, st, binV, arith, isSh, storeV, all1, idxAV, fieldV, faddrV, iaddrSV, iaddrAV, pickV, convV, unV, eqbV, eqpV, extV, mm2, mmV, nilckV, ress, res1, retV, Value.cells, cond_true, cond_false, Bool.true_or, Bool.false_or, Bool.or_true, Bool.or_false, beq_self_eq_true, if_true, if_false, ite_true, ite_false, decide_true, decide_false, decide_eq_true_eq, reduceIte, Nat.zero_add, Nat.add_zero, and_self, true_and, and_true, List.size_toArray, List.length_cons, List.length_nil, List.append_nil, List.nil_append, Int.toNat_zero, Bool.not_false, Bool.not_true, Bool.not_not, Bool.false_eq_true, Bool.true_eq_false, reduceCtorEq, Int.reduceLT, Int.reduceLE, Int.reduceToNat, Int.reduceAdd, Int.reduceSub, Int.reduceMul, Int.reduceNeg, Nat.reduceMul, Nat.reduceAdd, Nat.reduceSub, Nat.reduceBEq, Nat.reduceEqDiff, Nat.reduceLT, Nat.reduceLeDiff, Int.reduceBEq, Int.reduceEq, Nat.reducePow, Int.reducePow, IntWalk.i64_in, IntKind.bits, eqAV, eqL, leafEq, andO, fillV, buildSV, List.getElem?_toArray, List.getElem?_cons_zero, List.getElem?_cons_succ, List.getElem?_nil, Int.reduceGT, Int.reduceGE, Int.reduceBNe, Bool.true_and, Bool.and_true, Bool.false_and, Bool.and_false, Bool.and_self, IntWalk.u64_in, Int.cast_ofNat_Int, callF1, pad16, pad_0, pad_1, pad_2, pad_3, pad_4, pad_5, pad_6, pad_7, pad_8, pad_9, pad_10, pad_11, pad_12, pad_13, pad_14, pad_15, gc0, gc1, gc2, gc3, gc4, gc5, gc6, gc7, gc8, gc9, gc10, gc11, gc12, gc13, gc14, gc15, gcS, sc0, sc1, sc2, sc3, sc4, sc5, sc6, sc7, sc8, sc9, sc10, sc11, sc12, sc13, sc14, sc15, scS, List.drop_succ_cons, List.drop_nil, x_pan, s_pan, b_pan, pE_ret, pE_pan, pE_none, pE_ite, pvE_some, pvE_none, pvE_ite, rv_some, rv_none, rv_ite, oR_ret, t_mv, t_pick, t_alloc, t_box, t_build, t_buildS, t_load, t_store, t_nilck, t_bin, t_eqb, t_eqA, t_eqp, t_un, t_conv, t_field, t_idxA, t_faddr, t_iaddrS, t_iaddrA, t_ext, t_len, t_mm, t_call, t_ifc, t_fn, t_slc, t_slcA, t_slcT, t_tass, t_isn, t_mks, t_app, t_pan, panE_i, optE_none, optE_some, bnd_none, bnd_int, slA_none, slA_some, appR_some, appOld_cells, newsV_s, newsV_n, lenS_s, appV_nil, appV_some, mksV_i, sh_c, sh_g, f_pan, endD_ret, dfr_normal, dfr_ret, dfr_pan, restD_normal, callD1, callC1, tassV, isnV, slcV, slcAV, slcTV, slcB, appNew, Option.bind_some, Option.bind_none, d_pan, h_pan, wrH_eq, wrX_cells, wrU_some, upH_nil, upH_cons, lk_upH, effR_some, effR_none, effR_ite, Option.isNone_none, Option.isNone_some, slA_zero, call_yield, e_range, it_func, wy_same, y_call, isLp_self, beg_normal, end_normal, end_ret, end_exit, end_ite, aft_ret, aft_ready, aft_done, aft_exit, setP_cons, setP_nil, sh_r, t_mkmap, t_mlook, t_mupd, t_mdel, mapF_some, lookF_some, setM_some, lookR_t, lookR_n, lookR_f, lookR_fn, lookV, mupdV, mdelV, mkM]
        refine ok_some (.inl ⟨rfl, (gCls w).length - (j + 1), by omega, _, _, _, j + 1, rfl, ⟨?_, ?_, ?_, ?_, ?_, ?_⟩, gg4, ff4, ?_, by omega, rfl⟩)
        rotate_right
        · rw [hrun', lk_cons, nq, cond_false, lk_cons, nq, cond_false, lk_upH, beq_self_eq_true, cond_true]
        all_goals simp -implicitDefEqProofs (maxSteps := 10000000) (disch := omega) only [T4, L4, G4_8, V8_eq, G4_9, G4_11, G4_16, G4_19, hB, hR, hI, kp.l, kp.t3, kp.t4, kp.t5, kp.t9, kp.t10, lenV_sl, Int.toNat_natCast, bft, btf, gtst, st_len, hc1, gEvs_len, pad, e_skip, e_ops, e_draw, d_none, d_nil, d_cons, d_ite, h_none, h_nil, h_cons, h_ite, eqS_same, lightV, e_seq, e_cond, e_block, e_exit, e_ret, s_normal, s_ret, s_exit, s_none, s_ite, b_normal, b_ret, b_exit, b_none, b_ite, c_bool, x_none, x_nil, x_cons, x_ite, p_some, p_none, p_ite, pt_some, pt_none, pv_some, pv_none, pv_ite, w_none, w_some, i_bool, i_undef, bt, bf, v_tmp, v_const, v_global, v_func, evs, f_normal, f_ret, f_none, f_ite, r_some, co_some, l_ptr, m_agg, m_one, sh_app, lk_nil, lk_cons, rd_eq, rdO_some, rdO_none, rdN_none, rdL_some, rdL_none, wrB_none, unitR_some, wr_nil, wr_here, wr_skip, k_cells, tk_zero, tk_take, tk_skip, tkC_some, call_func, gt, st, binV, arith, isSh, storeV, all1, idxAV, fieldV, faddrV, iaddrSV, iaddrAV, pickV, convV, unV, eqbV, eqpV, extV, mm2, mmV, nilckV, ress, res1, retV, Value.cells, cond_true, cond_false, Bool.true_or, Bool.false_or, Bool.or_true, Bool.or_false, beq_self_eq_true, if_true, if_false, ite_true, ite_false, decide_true, decide_false, decide_eq_true_eq, reduceIte, Nat.zero_add, Nat.add_zero, and_self, true_and, and_true, List.size_toArray, List.length_cons, List.length_nil, List.append_nil, List.nil_append, Int.toNat_zero, Bool.not_false, Bool.not_true, Bool.not_not, Bool.false_eq_true, Bool.true_eq_false, reduceCtorEq, Int.reduceLT, Int.reduceLE, Int.reduceToNat, Int.reduceAdd, Int.reduceSub, Int.reduceMul, Int.reduceNeg, Nat.reduceMul, Nat.reduceAdd, Nat.reduceSub, Nat.reduceBEq, Nat.reduceEqDiff, Nat.reduceLT, Nat.reduceLeDiff, Int.reduceBEq, Int.reduceEq, Nat.reducePow, Int.reducePow, IntWalk.i64_in, IntKind.bits, eqAV, eqL, leafEq, andO, fillV, buildSV, List.getElem?_toArray, List.getElem?_cons_zero, List.getElem?_cons_succ, List.getElem?_nil, Int.reduceGT, Int.reduceGE, Int.reduceBNe, Bool.true_and, Bool.and_true, Bool.false_and, Bool.and_false, Bool.and_self, IntWalk.u64_in, Int.cast_ofNat_Int, callF1, pad16, pad_0, pad_1, pad_2, pad_3, pad_4, pad_5, pad_6, pad_7, pad_8, pad_9, pad_10, pad_11, pad_12, pad_13, pad_14, pad_15, gc0, gc1, gc2, gc3, gc4, gc5, gc6, gc7, gc8, gc9, gc10, gc11, gc12, gc13, gc14, gc15, gcS, sc0, sc1, sc2, sc3, sc4, sc5, sc6, sc7, sc8, sc9, sc10, sc11, sc12, sc13, sc14, sc15, scS, List.drop_succ_cons, List.drop_nil, x_pan, s_pan, b_pan, pE_ret, pE_pan, pE_none, pE_ite, pvE_some, pvE_none, pvE_ite, rv_some, rv_none, rv_ite, oR_ret, t_mv, t_pick, t_alloc, t_box, t_build, t_buildS, t_load, t_store, t_nilck, t_bin, t_eqb, t_eqA, t_eqp, t_un, t_conv, t_field, t_idxA, t_faddr, t_iaddrS, t_iaddrA, t_ext, t_len, t_mm, t_call, t_ifc, t_fn, t_slc, t_slcA, t_slcT, t_tass, t_isn, t_mks, t_app, t_pan, panE_i, optE_none, optE_some, bnd_none, bnd_int, slA_none, slA_some, appR_some, appOld_cells, newsV_s, newsV_n, lenS_s, appV_nil, appV_some, mksV_i, sh_c, sh_g, f_pan, endD_ret, dfr_normal, dfr_ret, dfr_pan, restD_normal, callD1, callC1, tassV, isnV, slcV, slcAV, slcTV, slcB, appNew, Option.bind_some, Option.bind_none, d_pan, h_pan, wrH_eq, wrX_cells, wrU_some, upH_nil, upH_cons, lk_upH, effR_some, effR_none, effR_ite, Option.isNone_none, Option.isNone_some, slA_zero, call_yield, e_range, it_func, wy_same, y_call, isLp_self, beg_normal, end_normal, end_ret, end_exit, end_ite, aft_ret, aft_ready, aft_done, aft_exit, setP_cons, setP_nil, sh_r, t_mkmap, t_mlook, t_mupd, t_mdel, mapF_some, lookF_some, setM_some, lookR_t, lookR_n, lookR_f, lookR_fn, lookV, mupdV, mdelV, mkM]
    | false =>
      obtain ⟨rfl, rfl, rfl⟩ := hopn rfl
      have c3 : ¬ (gMany w : Int) ≤ (a : Int) := by omega
      have c4 : ¬ (gMany w : Int) > (gMany w : Int) := by omega
      have c5 : ¬ (gMany w : Int) < (gMany w : Int) := by omega
      have hrun' : hadL (gMany w) (gCls w) (j + 1) = O.set a (O.getD a 0 + 1) := by rw [hrun]; simp only [hadC, Bool.false_eq_true, if_false, Int.toNat_natCast]
      by_cases jz : (j : Int) > 0
      · obtain ⟨jj, hjj⟩ : ∃ jj, j = jj + 1 := ⟨j - 1, by omega⟩
        obtain ⟨p1, p2⟩ := qp jj hjj
        have p3 : (j : Int) - 1 = (jj : Int) := by omega
        have p4 : jj < (gCls w).length := by omega
        have p5 : (0 : Int) ≤ (jj : Int) := by omega
        simp -implicitDefEqProofs (maxSteps := 10000000) (disch := omega) only [T4, L4, G4_8, V8_eq, G4_9, G4_11, G4_16, G4_19, hB, hR, hI, kp.l, kp.t3, kp.t4, kp.t5, kp.t9, kp.t10, lenV_sl, Int.toNat_natCast, bft, btf, gtst, st_len, Nat.mul_one, hlL, hlC, hj', hj, j0, q0, q1, q4, q6, q7, q8, ql, a0, an, hlq, hBq, hqr, nq, nq', uC, uCq, uL, uLq, t1, w1, c1, c2, c3, c4, c5, beq_self_eq_true, bne_self_eq_false, gEvs_len, jz, p1, p2, p3, p4, p5, pad, e_skip, e_ops, e_draw, d_none, d_nil, d_cons, d_ite, h_none, h_nil, h_cons, h_ite, eqS_same, lightV, e_seq, e_cond, e_block, e_exit, e_ret, s_normal, s_ret, s_exit, s_none, s_ite, b_normal, b_ret, b_exit, b_none, b_ite, c_bool, x_none, x_nil, x_cons, x_ite, p_some, p_none, p_ite, pt_some, pt_none, pv_some, pv_none, pv_ite, w_none, w_some, i_bool, i_undef, bt, bf, v_tmp, v_const, v_global, v_func, evs, f_normal, f_ret, f_none, f_ite, r_some, co_some, l_ptr, m_agg, m_one, sh_app, lk_nil, lk_cons, rd_eq, rdO_some, rdO_none, rdN_none, rdL_some, rdL_none, wrB_none, unitR_some, wr_nil, wr_here, wr_skip, k_cells, tk_zero, tk_take, tk_skip, tkC_some, call_func, gt, st, binV, arith, isSh, storeV, all1, idxAV, fieldV, faddrV, iaddrSV, iaddrAV, pickV, convV, unV, eqbV, eqpV, extV, mm2, mmV, nilckV, ress, res1, retV, Value.cells, cond_true, cond_false, Bool.true_or, Bool.false_or, Bool.or_true, Bool.or_false, beq_self_eq_true, if_true, if_false, ite_true, ite_false, decide_true, decide_false, decide_eq_true_eq, reduceIte, Nat.zero_add, Nat.add_zero, and_self, true_and, and_true, List.size_toArray, List.length_cons, List.length_nil, List.append_nil, List.nil_append, Int.toNat_zero, Bool.not_false, Bool.not_true, Bool.not_not, Bool.false_eq_true, Bool.true_eq_false, reduceCtorEq, Int.reduceLT, Int.reduceLE, Int.reduceToNat, Int.reduceAdd, Int.reduceSub, Int.reduceMul, Int.reduceNeg, Nat.reduceMul, Nat.reduceAdd, Nat.reduceSub, Nat.reduceBEq, Nat.reduceEqDiff, Nat.reduceLT, Nat.reduceLeDiff, Int.reduceBEq, Int.reduceEq, Nat.reducePow, Int.reducePow, IntWalk.i64_in, IntKind.bits, eqAV, eqL, leafEq, andO, fillV, buildSV, List.getElem?_toArray, List.getElem?_cons_zero, List.getElem?_cons_succ, List.getElem?_nil, Int.reduceGT, Int.reduceGE, Int.reduceBNe, Bool.true_and, Bool.and_true, Bool.false_and, Bool.and_false, Bool.and_self, IntWalk.u64_in, Int.cast_ofNat_Int, callF1, pad16, pad_0, pad_1, pad_2, pad_3, pad_4, pad_5, pad_6, pad_7, pad_8, pad_9, pad_10, pad_11, pad_12, pad_13, pad_14, pad_15, gc0, gc1, gc2, gc3, gc4, gc5, gc6, gc7, gc8, gc9, gc10, gc11, gc12, gc13, gc14, gc15, gcS, sc0, sc1, sc2, sc3, sc4, sc5, sc6, sc7, sc8, sc9, sc10, sc11, sc12, sc13, sc14, sc15, scS, List.drop_succ_cons, List.drop_nil, x_pan, s_pan, b_pan, pE_ret, pE_pan, pE_none, pE_ite, pvE_some, pvE_none, pvE_ite, rv_some, rv_none, rv_ite, oR_ret, t_mv, t_pick, t_alloc, t_box, t_build, t_buildS, t_load, t_store, t_nilck, t_bin, t_eqb, t_eqA, t_eqp, t_un, t_conv, t_field, t_idxA, t_faddr, t_iaddrS, t_iaddrA, t_ext, t_len, t_mm, t_call, t_ifc, t_fn, t_slc, t_slcA, t_slcT, t_tass, t_isn, t_mks, t_app, t_pan, panE_i, optE_none, optE_some, bnd_none, bnd_int, slA_none, slA_some, appR_some, appOld_cells, newsV_s, newsV_n, lenS_s, appV_nil, appV_some, mksV_i, sh_c, sh_g, f_pan, endD_ret, dfr_normal, dfr_ret, dfr_pan, restD_normal, callD1, callC1, tassV, isnV, slcV, slcAV, slcTV, slcB, appNew, Option.bind_some, Option.bind_none, d_pan, h_pan, wrH_eq, wrX_cells, wrU_some, upH_nil, upH_cons, lk_upH, effR_some, effR_none, effR_ite, Option.isNone_none, Option.isNone_some, slA_zero, call_yield, e_range, it_func, wy_same, y_call, isLp_self, beg_normal, end_normal, end_ret, end_exit, end_ite, aft_ret, aft_ready, aft_done, aft_exit, setP_cons, setP_nil, sh_r, t_mkmap, t_mlook, t_mupd, t_mdel, mapF_some, lookF_some, setM_some, lookR_t, lookR_n, lookR_f, lookR_fn, lookV, mupdV, mdelV, mkM]
        refine ok_some (.inl ⟨rfl, (gCls w).length - (j + 1), by omega, _, _, _, j + 1, rfl, ⟨?_, ?_, ?_, ?_, ?_, ?_⟩, gg2, ff2, ?_, by omega, rfl⟩)
        rotate_right
        · rw [hrun', lk_cons, nq, cond_false, lk_upH, beq_self_eq_true, cond_true]
        all_goals simp -implicitDefEqProofs (maxSteps := 10000000) (disch := omega) only [T4, L4, G4_8, V8_eq, G4_9, G4_11, G4_16, G4_19, hB, hR, hI, kp.l, kp.t3, kp.t4, kp.t5, kp.t9, kp.t10, lenV_sl, Int.toNat_natCast, bft, btf, gtst, st_len, hc1, gEvs_len, pad, e_skip, e_ops, e_draw, d_none, d_nil, d_cons, d_ite, h_none, h_nil, h_cons, h_ite, eqS_same, lightV, e_seq, e_cond, e_block, e_exit, e_ret, s_normal, s_ret, s_exit, s_none, s_ite, b_normal, b_ret, b_exit, b_none, b_ite, c_bool, x_none, x_nil, x_cons, x_ite, p_some, p_none, p_ite, pt_some, pt_none, pv_some, pv_none, pv_ite, w_none, w_some, i_bool, i_undef, bt, bf, v_tmp, v_const, v_global, v_func, evs, f_normal, f_ret, f_none, f_ite, r_some, co_some, l_ptr, m_agg, m_one, sh_app, lk_nil, lk_cons, rd_eq, rdO_some, rdO_none, rdN_none, rdL_some, rdL_none, wrB_none, unitR_some, wr_nil, wr_here, wr_skip, k_cells, tk_zero, tk_take, tk_skip, tkC_some, call_func, gt, st, binV, arith, isSh, storeV, all1, idxAV, fieldV, faddrV, iaddrSV, iaddrAV, pickV, convV, unV, eqbV, eqpV, extV, mm2, mmV, nilckV, ress, res1, retV, Value.cells, cond_true, cond_false, Bool.true_or, Bool.false_or, Bool.or_true, Bool.or_false, beq_self_eq_true, if_true, if_false, ite_true, ite_false, decide_true, decide_false, decide_eq_true_eq, reduceIte, Nat.zero_add, Nat.add_zero, and_self, true_and, and_true, List.size_toArray, List.length_cons, List.length_nil, List.append_nil, List.nil_append, Int.toNat_zero, Bool.not_false, Bool.not_true, Bool.not_not, Bool.false_eq_true, Bool.true_eq_false, reduceCtorEq, Int.reduceLT, Int.reduceLE, Int.reduceToNat, Int.reduceAdd, Int.reduceSub, Int.reduceMul, Int.reduceNeg, Nat.reduceMul, Nat.reduceAdd, Nat.reduceSub, Nat.reduceBEq, Nat.reduceEqDiff, Nat.reduceLT, Nat.reduceLeDiff, Int.reduceBEq, Int.reduceEq, Nat.reducePow, Int.reducePow, IntWalk.i64_in, IntKind.bits, eqAV, eqL, leafEq, andO, fillV, buildSV, List.getElem?_toArray, List.getElem?_cons_zero, List.getElem?_cons_succ, List.getElem?_nil, Int.reduceGT, Int.reduceGE, Int.reduceBNe, Bool.true_and, Bool.and_true, Bool.false_and, Bool.and_false, Bool.and_self, IntWalk.u64_in, Int.cast_ofNat_Int, callF1, pad16, pad_0, pad_1, pad_2, pad_3, pad_4, pad_5, pad_6, pad_7, pad_8, pad_9, pad_10, pad_11, pad_12, pad_13, pad_14, pad_15, gc0, gc1, gc2, gc3, gc4, gc5, gc6, gc7, gc8, gc9, gc10, gc11, gc12, gc13, gc14, gc15, gcS, sc0, sc1, sc2, sc3, sc4, sc5, sc6, sc7, sc8, sc9, sc10, sc11, sc12, sc13, sc14, sc15, scS, List.drop_succ_cons, List.drop_nil, x_pan, s_pan, b_pan, pE_ret, pE_pan, pE_none, pE_ite, pvE_some, pvE_none, pvE_ite, rv_some, rv_none, rv_ite, oR_ret, t_mv, t_pick, t_alloc, t_box, t_build, t_buildS, t_load, t_store, t_nilck, t_bin, t_eqb, t_eqA, t_eqp, t_un, t_conv, t_field, t_idxA, t_faddr, t_iaddrS, t_iaddrA, t_ext, t_len, t_mm, t_call, t_ifc, t_fn, t_slc, t_slcA, t_slcT, t_tass, t_isn, t_mks, t_app, t_pan, panE_i, optE_none, optE_some, bnd_none, bnd_int, slA_none, slA_some, appR_some, appOld_cells, newsV_s, newsV_n, lenS_s, appV_nil, appV_some, mksV_i, sh_c, sh_g, f_pan, endD_ret, dfr_normal, dfr_ret, dfr_pan, restD_normal, callD1, callC1, tassV, isnV, slcV, slcAV, slcTV, slcB, appNew, Option.bind_some, Option.bind_none, d_pan, h_pan, wrH_eq, wrX_cells, wrU_some, upH_nil, upH_cons, lk_upH, effR_some, effR_none, effR_ite, Option.isNone_none, Option.isNone_some, slA_zero, call_yield, e_range, it_func, wy_same, y_call, isLp_self, beg_normal, end_normal, end_ret, end_exit, end_ite, aft_ret, aft_ready, aft_done, aft_exit, setP_cons, setP_nil, sh_r, t_mkmap, t_mlook, t_mupd, t_mdel, mapF_some, lookF_some, setM_some, lookR_t, lookR_n, lookR_f, lookR_fn, lookV, mupdV, mdelV, mkM]
      · simp -implicitDefEqProofs (maxSteps := 10000000) (disch := omega) only [T4, L4, G4_8, V8_eq, G4_9, G4_11, G4_16, G4_19, hB, hR, hI, kp.l, kp.t3, kp.t4, kp.t5, kp.t9, kp.t10, lenV_sl, Int.toNat_natCast, bft, btf, gtst, st_len, Nat.mul_one, hlL, hlC, hj', hj, j0, q0, q1, q4, q6, q7, q8, ql, a0, an, hlq, hBq, hqr, nq, nq', uC, uCq, uL, uLq, t1, w1, c1, c2, c3, c4, c5, beq_self_eq_true, bne_self_eq_false, gEvs_len, jz, pad, e_skip, e_ops, e_draw, d_none, d_nil, d_cons, d_ite, h_none, h_nil, h_cons, h_ite, eqS_same, lightV, e_seq, e_cond, e_block, e_exit, e_ret, s_normal, s_ret, s_exit, s_none, s_ite, b_normal, b_ret, b_exit, b_none, b_ite, c_bool, x_none, x_nil, x_cons, x_ite, p_some, p_none, p_ite, pt_some, pt_none, pv_some, pv_none, pv_ite, w_none, w_some, i_bool, i_undef, bt, bf, v_tmp, v_const, v_global, v_func, evs, f_normal, f_ret, f_none, f_ite, r_some, co_some, l_ptr, m_agg, m_one, sh_app, lk_nil, lk_cons, rd_eq, rdO_some, rdO_none, rdN_none, rdL_some, rdL_none, wrB_none, unitR_some, wr_nil, wr_here, wr_skip, k_cells, tk_zero, tk_take, tk_skip, tkC_some, call_func, gt, st, binV, arith, isSh, storeV, all1, idxAV, fieldV, faddrV, iaddrSV, iaddrAV, pickV, convV, unV, eqbV, eqpV, extV, mm2, mmV, nilckV, ress, res1, retV, Value.cells, cond_true, cond_false, Bool.true_or, Bool.false_or, Bool.or_true, Bool.or_false, beq_self_eq_true, if_true, if_false, ite_true, ite_false, decide_true, decide_false, decide_eq_true_eq, reduceIte, Nat.zero_add, Nat.add_zero, and_self, true_and, and_true, List.size_toArray, List.length_cons, List.length_nil, List.append_nil, List.nil_append, Int.toNat_zero, Bool.not_false, Bool.not_true, Bool.not_not, Bool.false_eq_true, Bool.true_eq_false, reduceCtorEq, Int.reduceLT, Int.reduceLE, Int.reduceToNat, Int.reduceAdd, Int.reduceSub, Int.reduceMul, Int.reduceNeg, Nat.reduceMul, Nat.reduceAdd, Nat.reduceSub, Nat.reduceBEq, Nat.reduceEqDiff, Nat.reduceLT, Nat.reduceLeDiff, Int.reduceBEq, Int.reduceEq, Nat.reducePow, Int.reducePow, IntWalk.i64_in, IntKind.bits, eqAV, eqL, leafEq, andO, fillV, buildSV, List.getElem?_toArray, List.getElem?_cons_zero, List.getElem?_cons_succ, List.getElem?_nil, Int.reduceGT, Int.reduceGE, Int.reduceBNe, Bool.true_and, Bool.and_true, Bool.false_and, Bool.and_false, Bool.and_self, IntWalk.u64_in, Int.cast_ofNat_Int, callF1, pad16, pad_0, pad_1, pad_2, pad_3, pad_4, pad_5, pad_6, pad_7, pad_8, pad_9, pad_10, pad_11, pad_12, pad_13, pad_14, pad_15, gc0, gc1, gc2, gc3, gc4, gc5, gc6, gc7, gc8, gc9, gc10, gc11, gc12, gc13, gc14, gc15, gcS, sc0, sc1, sc2, sc3, sc4, sc5, sc6, sc7, sc8, sc9, sc10, sc11, sc12, sc13, sc14, sc15, scS, List.drop_succ_cons, List.drop_nil, x_pan, s_pan, b_pan, pE_ret, pE_pan, pE_none, pE_ite, pvE_some, pvE_none, pvE_ite, rv_some, rv_none, rv_ite, oR_ret, t_mv, t_pick, t_alloc, t_box, t_build, t_buildS, t_load, t_store, t_nilck, t_bin, t_eqb, t_eqA, t_eqp, t_un, t_conv, t_field, t_idxA, t_faddr, t_iaddrS, t_iaddrA, t_ext, t_len, t_mm, t_call, t_ifc, t_fn, t_slc, t_slcA, t_slcT, t_tass, t_isn, t_mks, t_app, t_pan, panE_i, optE_none, optE_some, bnd_none, bnd_int, slA_none, slA_some, appR_some, appOld_cells, newsV_s, newsV_n, lenS_s, appV_nil, appV_some, mksV_i, sh_c, sh_g, f_pan, endD_ret, dfr_normal, dfr_ret, dfr_pan, restD_normal, callD1, callC1, tassV, isnV, slcV, slcAV, slcTV, slcB, appNew, Option.bind_some, Option.bind_none, d_pan, h_pan, wrH_eq, wrX_cells, wrU_some, upH_nil, upH_cons, lk_upH, effR_some, effR_none, effR_ite, Option.isNone_none, Option.isNone_some, slA_zero, call_yield, e_range, it_func, wy_same, y_call, isLp_self, beg_normal, end_normal, end_ret, end_exit, end_ite, aft_ret, aft_ready, aft_done, aft_exit, setP_cons, setP_nil, sh_r, t_mkmap, t_mlook, t_mupd, t_mdel, mapF_some, lookF_some, setM_some, lookR_t, lookR_n, lookR_f, lookR_fn, lookV, mupdV, mdelV, mkM]
        refine ok_some (.inl ⟨rfl, (gCls w).length - (j + 1), by omega, _, _, _, j + 1, rfl, ⟨?_, ?_, ?_, ?_, ?_, ?_⟩, gg2, ff2, ?_, by omega, rfl⟩)
        rotate_right
        · rw [hrun', lk_cons, nq, cond_false, lk_upH, beq_self_eq_true, cond_true]
        all_goals simp -implicitDefEqProofs (maxSteps := 10000000) (disch := omega) only [T4, L4, G4_8, V8_eq, G4_9, G4_11, G4_16, G4_19, hB, hR, hI, kp.l, kp.t3, kp.t4, kp.t5, kp.t9, kp.t10, lenV_sl, Int.toNat_natCast, bft, btf, gtst, st_len, hc1, gEvs_len, pad, e_skip, e_ops, e_draw, d_none, d_nil, d_cons, d_ite, h_none, h_nil, h_cons, h_ite, eqS_same, lightV, e_seq, e_cond, e_block, e_exit, e_ret, s_normal, s_ret, s_exit, s_none, s_ite, b_normal, b_ret, b_exit, b_none, b_ite, c_bool, x_none, x_nil, x_cons, x_ite, p_some, p_none, p_ite, pt_some, pt_none, pv_some, pv_none, pv_ite, w_none, w_some, i_bool, i_undef, bt, bf, v_tmp, v_const, v_global, v_func, evs, f_normal, f_ret, f_none, f_ite, r_some, co_some, l_ptr, m_agg, m_one, sh_app, lk_nil, lk_cons, rd_eq, rdO_some, rdO_none, rdN_none, rdL_some, rdL_none, wrB_none, unitR_some, wr_nil, wr_here, wr_skip, k_cells, tk_zero, tk_take, tk_skip, tkC_some, call_func, gt, st, binV, arith, isSh, storeV, all1, idxAV, fieldV, faddrV, iaddrSV, iaddrAV, pickV, convV, unV, eqbV, eqpV, extV, mm2, mmV, nilckV, ress, res1, retV, Value.cells, cond_true, cond_false, Bool.true_or, Bool.false_or, Bool.or_true, Bool.or_false, beq_self_eq_true, if_true, if_false, ite_true, ite_false, decide_true, decide_false, decide_eq_true_eq, reduceIte, Nat.zero_add, Nat.add_zero, and_self, true_and, and_true, List.size_toArray, List.length_cons, List.length_nil, List.append_nil, List.nil_append, Int.toNat_zero, Bool.not_false, Bool.not_true, Bool.not_not, Bool.false_eq_true, Bool.true_eq_false, reduceCtorEq, Int.reduceLT, Int.reduceLE, Int.reduceToNat, Int.reduceAdd, Int.reduceSub, Int.reduceMul, Int.reduceNeg, Nat.reduceMul, Nat.reduceAdd, Nat.reduceSub, Nat.reduceBEq, Nat.reduceEqDiff, Nat.reduceLT, Nat.reduceLeDiff, Int.reduceBEq, Int.reduceEq, Nat.reducePow, Int.reducePow, IntWalk.i64_in, IntKind.bits, eqAV, eqL, leafEq, andO, fillV, buildSV, List.getElem?_toArray, List.getElem?_cons_zero, List.getElem?_cons_succ, List.getElem?_nil, Int.reduceGT, Int.reduceGE, Int.reduceBNe, Bool.true_and, Bool.and_true, Bool.false_and, Bool.and_false, Bool.and_self, IntWalk.u64_in, Int.cast_ofNat_Int, callF1, pad16, pad_0, pad_1, pad_2, pad_3, pad_4, pad_5, pad_6, pad_7, pad_8, pad_9, pad_10, pad_11, pad_12, pad_13, pad_14, pad_15, gc0, gc1, gc2, gc3, gc4, gc5, gc6, gc7, gc8, gc9, gc10, gc11, gc12, gc13, gc14, gc15, gcS, sc0, sc1, sc2, sc3, sc4, sc5, sc6, sc7, sc8, sc9, sc10, sc11, sc12, sc13, sc14, sc15, scS, List.drop_succ_cons, List.drop_nil, x_pan, s_pan, b_pan, pE_ret, pE_pan, pE_none, pE_ite, pvE_some, pvE_none, pvE_ite, rv_some, rv_none, rv_ite, oR_ret, t_mv, t_pick, t_alloc, t_box, t_build, t_buildS, t_load, t_store, t_nilck, t_bin, t_eqb, t_eqA, t_eqp, t_un, t_conv, t_field, t_idxA, t_faddr, t_iaddrS, t_iaddrA, t_ext, t_len, t_mm, t_call, t_ifc, t_fn, t_slc, t_slcA, t_slcT, t_tass, t_isn, t_mks, t_app, t_pan, panE_i, optE_none, optE_some, bnd_none, bnd_int, slA_none, slA_some, appR_some, appOld_cells, newsV_s, newsV_n, lenS_s, appV_nil, appV_some, mksV_i, sh_c, sh_g, f_pan, endD_ret, dfr_normal, dfr_ret, dfr_pan, restD_normal, callD1, callC1, tassV, isnV, slcV, slcAV, slcTV, slcB, appNew, Option.bind_some, Option.bind_none, d_pan, h_pan, wrH_eq, wrX_cells, wrU_some, upH_nil, upH_cons, lk_upH, effR_some, effR_none, effR_ite, Option.isNone_none, Option.isNone_some, slA_zero, call_yield, e_range, it_func, wy_same, y_call, isLp_self, beg_normal, end_normal, end_ret, end_exit, end_ite, aft_ret, aft_ready, aft_done, aft_exit, setP_cons, setP_nil, sh_r, t_mkmap, t_mlook, t_mupd, t_mdel, mapF_some, lookF_some, setM_some, lookR_t, lookR_n, lookR_f, lookR_fn, lookV, mupdV, mdelV, mkM]
  obtain ⟨x, ⟨ts, H2, N2⟩, rfl, rfl, g2, hl2, j2, kp⟩ := hO
  simp only at g2 hl2 kp
  have hBq := hB 0
  generalize NE.n 0 = q at hBq kp hl2
  have hqr := fun o n => rdB_none (o := o) (n := n) hBq
  simp -implicitDefEqProofs (maxSteps := 10000000) (disch := omega) only [T4, L4, G4_8, V8_eq, G4_9, G4_11, G4_16, G4_19, hB, hR, hI, kp.l, kp.t3, kp.t4, kp.t5, kp.t9, kp.t10, lenV_sl, Int.toNat_natCast, bft, btf, gtst, st_len, pad, e_skip, e_ops, e_draw, d_none, d_nil, d_cons, d_ite, h_none, h_nil, h_cons, h_ite, eqS_same, lightV, e_seq, e_cond, e_block, e_exit, e_ret, s_normal, s_ret, s_exit, s_none, s_ite, b_normal, b_ret, b_exit, b_none, b_ite, c_bool, x_none, x_nil, x_cons, x_ite, p_some, p_none, p_ite, pt_some, pt_none, pv_some, pv_none, pv_ite, w_none, w_some, i_bool, i_undef, bt, bf, v_tmp, v_const, v_global, v_func, evs, f_normal, f_ret, f_none, f_ite, r_some, co_some, l_ptr, m_agg, m_one, sh_app, lk_nil, lk_cons, rd_eq, rdO_some, rdO_none, rdN_none, rdL_some, rdL_none, wrB_none, unitR_some, wr_nil, wr_here, wr_skip, k_cells, tk_zero, tk_take, tk_skip, tkC_some, call_func, gt, st, binV, arith, isSh, storeV, all1, idxAV, fieldV, faddrV, iaddrSV, iaddrAV, pickV, convV, unV, eqbV, eqpV, extV, mm2, mmV, nilckV, ress, res1, retV, Value.cells, cond_true, cond_false, Bool.true_or, Bool.false_or, Bool.or_true, Bool.or_false, beq_self_eq_true, if_true, if_false, ite_true, ite_false, decide_true, decide_false, decide_eq_true_eq, reduceIte, Nat.zero_add, Nat.add_zero, and_self, true_and, and_true, List.size_toArray, List.length_cons, List.length_nil, List.append_nil, List.nil_append, Int.toNat_zero, Bool.not_false, Bool.not_true, Bool.not_not, Bool.false_eq_true, Bool.true_eq_false, reduceCtorEq, Int.reduceLT, Int.reduceLE, Int.reduceToNat, Int.reduceAdd, Int.reduceSub, Int.reduceMul, Int.reduceNeg, Nat.reduceMul, Nat.reduceAdd, Nat.reduceSub, Nat.reduceBEq, Nat.reduceEqDiff, Nat.reduceLT, Nat.reduceLeDiff, Int.reduceBEq, Int.reduceEq, Nat.reducePow, Int.reducePow, IntWalk.i64_in, IntKind.bits, eqAV, eqL, leafEq, andO, fillV, buildSV, List.getElem?_toArray, List.getElem?_cons_zero, List.getElem?_cons_succ, List.getElem?_nil, Int.reduceGT, Int.reduceGE, Int.reduceBNe, Bool.true_and, Bool.and_true, Bool.false_and, Bool.and_false, Bool.and_self, IntWalk.u64_in, Int.cast_ofNat_Int, callF1, pad16, pad_0, pad_1, pad_2, pad_3, pad_4, pad_5, pad_6, pad_7, pad_8, pad_9, pad_10, pad_11, pad_12, pad_13, pad_14, pad_15, gc0, gc1, gc2, gc3, gc4, gc5, gc6, gc7, gc8, gc9, gc10, gc11, gc12, gc13, gc14, gc15, gcS, sc0, sc1, sc2, sc3, sc4, sc5, sc6, sc7, sc8, sc9, sc10, sc11, sc12, sc13, sc14, sc15, scS, List.drop_succ_cons, List.drop_nil, x_pan, s_pan, b_pan, pE_ret, pE_pan, pE_none, pE_ite, pvE_some, pvE_none, pvE_ite, rv_some, rv_none, rv_ite, oR_ret, t_mv, t_pick, t_alloc, t_box, t_build, t_buildS, t_load, t_store, t_nilck, t_bin, t_eqb, t_eqA, t_eqp, t_un, t_conv, t_field, t_idxA, t_faddr, t_iaddrS, t_iaddrA, t_ext, t_len, t_mm, t_call, t_ifc, t_fn, t_slc, t_slcA, t_slcT, t_tass, t_isn, t_mks, t_app, t_pan, panE_i, optE_none, optE_some, bnd_none, bnd_int, slA_none, slA_some, appR_some, appOld_cells, newsV_s, newsV_n, lenS_s, appV_nil, appV_some, mksV_i, sh_c, sh_g, f_pan, endD_ret, dfr_normal, dfr_ret, dfr_pan, restD_normal, callD1, callC1, tassV, isnV, slcV, slcAV, slcTV, slcB, appNew, Option.bind_some, Option.bind_none, d_pan, h_pan, wrH_eq, wrX_cells, wrU_some, upH_nil, upH_cons, lk_upH, effR_some, effR_none, effR_ite, Option.isNone_none, Option.isNone_some, slA_zero, call_yield, e_range, it_func, wy_same, y_call, isLp_self, beg_normal, end_normal, end_ret, end_exit, end_ite, aft_ret, aft_ready, aft_done, aft_exit, setP_cons, setP_nil, sh_r, t_mkmap, t_mlook, t_mupd, t_mdel, mapF_some, lookF_some, setM_some, lookR_t, lookR_n, lookR_f, lookR_fn, lookV, mupdV, mdelV, mkM]
  generalize hX : exec B _ _ (LC.loop _) _ = o
  have hO : Ok o (fun x s => x = .exit 2 ∧ ∃ j, K4b q (gMany w) j s.t) := by
    rw [← hX]
    refine loop_rule (n0 := 100) (fun k s => ∃ ts, ∃ j : Nat, s = ⟨ts, H2, N2⟩ ∧ K4b q (gMany w) j ts ∧ j ≤ gMany w ∧ k = gMany w - j) _ ?_ (gMany w) _ ⟨_, 0, rfl, ⟨?_, ?_, ?_, ?_⟩, by omega, rfl⟩ _ (by omega)
    rotate_left
    iterate 4 simp -implicitDefEqProofs (maxSteps := 10000000) (disch := omega) only [T4, L4, G4_8, V8_eq, G4_9, G4_11, G4_16, G4_19, hB, hR, hI, kp.l, kp.t3, kp.t4, kp.t5, kp.t9, kp.t10, lenV_sl, Int.toNat_natCast, bft, btf, gtst, st_len, pad, e_skip, e_ops, e_draw, d_none, d_nil, d_cons, d_ite, h_none, h_nil, h_cons, h_ite, eqS_same, lightV, e_seq, e_cond, e_block, e_exit, e_ret, s_normal, s_ret, s_exit, s_none, s_ite, b_normal, b_ret, b_exit, b_none, b_ite, c_bool, x_none, x_nil, x_cons, x_ite, p_some, p_none, p_ite, pt_some, pt_none, pv_some, pv_none, pv_ite, w_none, w_some, i_bool, i_undef, bt, bf, v_tmp, v_const, v_global, v_func, evs, f_normal, f_ret, f_none, f_ite, r_some, co_some, l_ptr, m_agg, m_one, sh_app, lk_nil, lk_cons, rd_eq, rdO_some, rdO_none, rdN_none, rdL_some, rdL_none, wrB_none, unitR_some, wr_nil, wr_here, wr_skip, k_cells, tk_zero, tk_take, tk_skip, tkC_some, call_func, gt, st, binV, arith, isSh, storeV, all1, idxAV, fieldV, faddrV, iaddrSV, iaddrAV, pickV, convV, unV, eqbV, eqpV, extV, mm2, mmV, nilckV, ress, res1, retV, Value.cells, cond_true, cond_false, Bool.true_or, Bool.false_or, Bool.or_true, Bool.or_false, beq_self_eq_true, if_true, if_false, ite_true, ite_false, decide_true, decide_false, decide_eq_true_eq, reduceIte, Nat.zero_add, Nat.add_zero, and_self, true_and, and_true, List.size_toArray, List.length_cons, List.length_nil, List.append_nil, List.nil_append, Int.toNat_zero, Bool.not_false, Bool.not_true, Bool.not_not, Bool.false_eq_true, Bool.true_eq_false, reduceCtorEq, Int.reduceLT, Int.reduceLE, Int.reduceToNat, Int.reduceAdd, Int.reduceSub, Int.reduceMul, Int.reduceNeg, Nat.reduceMul, Nat.reduceAdd, Nat.reduceSub, Nat.reduceBEq, Nat.reduceEqDiff, Nat.reduceLT, Nat.reduceLeDiff, Int.reduceBEq, Int.reduceEq, Nat.reducePow, Int.reducePow, IntWalk.i64_in, IntKind.bits, eqAV, eqL, leafEq, andO, fillV, buildSV, List.getElem?_toArray, List.getElem?_cons_zero, List.getElem?_cons_succ, List.getElem?_nil, Int.reduceGT, Int.reduceGE, Int.reduceBNe, Bool.true_and, Bool.and_true, Bool.false_and, Bool.and_false, Bool.and_self, IntWalk.u64_in, Int.cast_ofNat_Int, callF1, pad16, pad_0, pad_1, pad_2, pad_3, pad_4, pad_5, pad_6, pad_7, pad_8, pad_9, pad_10, pad_11, pad_12, pad_13, pad_14, pad_15, gc0, gc1, gc2, gc3, gc4, gc5, gc6, gc7, gc8, gc9, gc10, gc11, gc12, gc13, gc14, gc15, gcS, sc0, sc1, sc2, sc3, sc4, sc5, sc6, sc7, sc8, sc9, sc10, sc11, sc12, sc13, sc14, sc15, scS, List.drop_succ_cons, List.drop_nil, x_pan, s_pan, b_pan, pE_ret, pE_pan, pE_none, pE_ite, pvE_some, pvE_none, pvE_ite, rv_some, rv_none, rv_ite, oR_ret, t_mv, t_pick, t_alloc, t_box, t_build, t_buildS, t_load, t_store, t_nilck, t_bin, t_eqb, t_eqA, t_eqp, t_un, t_conv, t_field, t_idxA, t_faddr, t_iaddrS, t_iaddrA, t_ext, t_len, t_mm, t_call, t_ifc, t_fn, t_slc, t_slcA, t_slcT, t_tass, t_isn, t_mks, t_app, t_pan, panE_i, optE_none, optE_some, bnd_none, bnd_int, slA_none, slA_some, appR_some, appOld_cells, newsV_s, newsV_n, lenS_s, appV_nil, appV_some, mksV_i, sh_c, sh_g, f_pan, endD_ret, dfr_normal, dfr_ret, dfr_pan, restD_normal, callD1, callC1, tassV, isnV, slcV, slcAV, slcTV, slcB, appNew, Option.bind_some, Option.bind_none, d_pan, h_pan, wrH_eq, wrX_cells, wrU_some, upH_nil, upH_cons, lk_upH, effR_some, effR_none, effR_ite, Option.isNone_none, Option.isNone_some, slA_zero, call_yield, e_range, it_func, wy_same, y_call, isLp_self, beg_normal, end_normal, end_ret, end_exit, end_ite, aft_ret, aft_ready, aft_done, aft_exit, setP_cons, setP_nil, sh_r, t_mkmap, t_mlook, t_mupd, t_mdel, mapF_some, lookF_some, setM_some, lookR_t, lookR_n, lookR_f, lookR_fn, lookV, mupdV, mdelV, mkM]
    clear hX kp
    rintro n0 k0 s ⟨ts, j, rfl, kp, hjl, rfl⟩
    have hc1 : ((j + 1 : Nat) : Int) = (j : Int) + 1 := by omega
    by_cases hj : j < gMany w
    case neg =>
      obtain rfl : j = gMany w := by omega
      simp -implicitDefEqProofs (maxSteps := 10000000) (disch := omega) only [T4, L4, G4_8, V8_eq, G4_9, G4_11, G4_16, G4_19, hB, hR, hI, kp.l, kp.t3, kp.t9, kp.t13, lenV_sl, Int.toNat_natCast, bft, btf, gtst, st_len, Int.lt_irrefl, pad, e_skip, e_ops, e_draw, d_none, d_nil, d_cons, d_ite, h_none, h_nil, h_cons, h_ite, eqS_same, lightV, e_seq, e_cond, e_block, e_exit, e_ret, s_normal, s_ret, s_exit, s_none, s_ite, b_normal, b_ret, b_exit, b_none, b_ite, c_bool, x_none, x_nil, x_cons, x_ite, p_some, p_none, p_ite, pt_some, pt_none, pv_some, pv_none, pv_ite, w_none, w_some, i_bool, i_undef, bt, bf, v_tmp, v_const, v_global, v_func, evs, f_normal, f_ret, f_none, f_ite, r_some, co_some, l_ptr, m_agg, m_one, sh_app, lk_nil, lk_cons, rd_eq, rdO_some, rdO_none, rdN_none, rdL_some, rdL_none, wrB_none, unitR_some, wr_nil, wr_here, wr_skip, k_cells, tk_zero, tk_take, tk_skip, tkC_some, call_func, gt, st, binV, arith, isSh, storeV, all1, idxAV, fieldV, faddrV, iaddrSV, iaddrAV, pickV, convV, unV, eqbV, eqpV, extV, mm2, mmV, nilckV, ress, res1, retV, Value.cells, cond_true, cond_false, Bool.true_or, Bool.false_or, Bool.or_true, Bool.or_false, beq_self_eq_true, if_true, if_false, ite_true, ite_false, decide_true, decide_false, decide_eq_true_eq, reduceIte, Nat.zero_add, Nat.add_zero, and_self, true_and, and_true, List.size_toArray, List.length_cons, List.length_nil, List.append_nil, List.nil_append, Int.toNat_zero, Bool.not_false, Bool.not_true, Bool.not_not, Bool.false_eq_true, Bool.true_eq_false, reduceCtorEq, Int.reduceLT, Int.reduceLE, Int.reduceToNat, Int.reduceAdd, Int.reduceSub, Int.reduceMul, Int.reduceNeg, Nat.reduceMul, Nat.reduceAdd, Nat.reduceSub, Nat.reduceBEq, Nat.reduceEqDiff, Nat.reduceLT, Nat.reduceLeDiff, Int.reduceBEq, Int.reduceEq, Nat.reducePow, Int.reducePow, IntWalk.i64_in, IntKind.bits, eqAV, eqL, leafEq, andO, fillV, buildSV, List.getElem?_toArray, List.getElem?_cons_zero, List.getElem?_cons_succ, List.getElem?_nil, Int.reduceGT, Int.reduceGE, Int.reduceBNe, Bool.true_and, Bool.and_true, Bool.false_and, Bool.and_false, Bool.and_self, IntWalk.u64_in, Int.cast_ofNat_Int, callF1, pad16, pad_0, pad_1, pad_2, pad_3, pad_4, pad_5, pad_6, pad_7, pad_8, pad_9, pad_10, pad_11, pad_12, pad_13, pad_14, pad_15, gc0, gc1, gc2, gc3, gc4, gc5, gc6, gc7, gc8, gc9, gc10, gc11, gc12, gc13, gc14, gc15, gcS, sc0, sc1, sc2, sc3, sc4, sc5, sc6, sc7, sc8, sc9, sc10, sc11, sc12, sc13, sc14, sc15, scS, List.drop_succ_cons, List.drop_nil, x_pan, s_pan, b_pan, pE_ret, pE_pan, pE_none, pE_ite, pvE_some, pvE_none, pvE_ite, rv_some, rv_none, rv_ite, oR_ret, t_mv, t_pick, t_alloc, t_box, t_build, t_buildS, t_load, t_store, t_nilck, t_bin, t_eqb, t_eqA, t_eqp, t_un, t_conv, t_field, t_idxA, t_faddr, t_iaddrS, t_iaddrA, t_ext, t_len, t_mm, t_call, t_ifc, t_fn, t_slc, t_slcA, t_slcT, t_tass, t_isn, t_mks, t_app, t_pan, panE_i, optE_none, optE_some, bnd_none, bnd_int, slA_none, slA_some, appR_some, appOld_cells, newsV_s, newsV_n, lenS_s, appV_nil, appV_some, mksV_i, sh_c, sh_g, f_pan, endD_ret, dfr_normal, dfr_ret, dfr_pan, restD_normal, callD1, callC1, tassV, isnV, slcV, slcAV, slcTV, slcB, appNew, Option.bind_some, Option.bind_none, d_pan, h_pan, wrH_eq, wrX_cells, wrU_some, upH_nil, upH_cons, lk_upH, effR_some, effR_none, effR_ite, Option.isNone_none, Option.isNone_some, slA_zero, call_yield, e_range, it_func, wy_same, y_call, isLp_self, beg_normal, end_normal, end_ret, end_exit, end_ite, aft_ret, aft_ready, aft_done, aft_exit, setP_cons, setP_nil, sh_r, t_mkmap, t_mlook, t_mupd, t_mdel, mapF_some, lookF_some, setM_some, lookR_t, lookR_n, lookR_f, lookR_fn, lookV, mupdV, mdelV, mkM]
      refine ok_some (.inr ⟨by simp, rfl, gMany w, ⟨?_, ?_, ?_, ?_⟩⟩)
      all_goals simp -implicitDefEqProofs (maxSteps := 10000000) (disch := omega) only [T4, L4, G4_8, V8_eq, G4_9, G4_11, G4_16, G4_19, hB, hR, hI, kp.l, kp.t3, kp.t9, kp.t13, lenV_sl, Int.toNat_natCast, bft, btf, gtst, st_len, pad, e_skip, e_ops, e_draw, d_none, d_nil, d_cons, d_ite, h_none, h_nil, h_cons, h_ite, eqS_same, lightV, e_seq, e_cond, e_block, e_exit, e_ret, s_normal, s_ret, s_exit, s_none, s_ite, b_normal, b_ret, b_exit, b_none, b_ite, c_bool, x_none, x_nil, x_cons, x_ite, p_some, p_none, p_ite, pt_some, pt_none, pv_some, pv_none, pv_ite, w_none, w_some, i_bool, i_undef, bt, bf, v_tmp, v_const, v_global, v_func, evs, f_normal, f_ret, f_none, f_ite, r_some, co_some, l_ptr, m_agg, m_one, sh_app, lk_nil, lk_cons, rd_eq, rdO_some, rdO_none, rdN_none, rdL_some, rdL_none, wrB_none, unitR_some, wr_nil, wr_here, wr_skip, k_cells, tk_zero, tk_take, tk_skip, tkC_some, call_func, gt, st, binV, arith, isSh, storeV, all1, idxAV, fieldV, faddrV, iaddrSV, iaddrAV, pickV, convV, unV, eqbV, eqpV, extV, mm2, mmV, nilckV, ress, res1, retV, Value.cells, cond_true, cond_false, Bool.true_or, Bool.false_or, Bool.or_true, Bool.or_false, beq_self_eq_true, if_true, if_false, ite_true, ite_false, decide_true, decide_false, decide_eq_true_eq, reduceIte, Nat.zero_add, Nat.add_zero, and_self, true_and, and_true, List.size_toArray, List.length_cons, List.length_nil, List.append_nil, List.nil_append, Int.toNat_zero, Bool.not_false, Bool.not_true, Bool.not_not, Bool.false_eq_true, Bool.true_eq_false, reduceCtorEq, Int.reduceLT, Int.reduceLE, Int.reduceToNat, Int.reduceAdd, Int.reduceSub, Int.reduceMul, Int.reduceNeg, Nat.reduceMul, Nat.reduceAdd, Nat.reduceSub, Nat.reduceBEq, Nat.reduceEqDiff, Nat.reduceLT, Nat.reduceLeDiff, Int.reduceBEq, Int.reduceEq, Nat.reducePow, Int.reducePow, IntWalk.i64_in, IntKind.bits, eqAV, eqL, leafEq, andO, fillV, buildSV, List.getElem?_toArray, List.getElem?_cons_zero, List.getElem?_cons_succ, List.getElem?_nil, Int.reduceGT, Int.reduceGE, Int.reduceBNe, Bool.true_and, Bool.and_true, Bool.false_and, Bool.and_false, Bool.and_self, IntWalk.u64_in, Int.cast_ofNat_Int, callF1, pad16, pad_0, pad_1, pad_2, pad_3, pad_4, pad_5, pad_6, pad_7, pad_8, pad_9, pad_10, pad_11, pad_12, pad_13, pad_14, pad_15, gc0, gc1, gc2, gc3, gc4, gc5, gc6, gc7, gc8, gc9, gc10, gc11, gc12, gc13, gc14, gc15, gcS, sc0, sc1, sc2, sc3, sc4, sc5, sc6, sc7, sc8, sc9, sc10, sc11, sc12, sc13, sc14, sc15, scS, List.drop_succ_cons, List.drop_nil, x_pan, s_pan, b_pan, pE_ret, pE_pan, pE_none, pE_ite, pvE_some, pvE_none, pvE_ite, rv_some, rv_none, rv_ite, oR_ret, t_mv, t_pick, t_alloc, t_box, t_build, t_buildS, t_load, t_store, t_nilck, t_bin, t_eqb, t_eqA, t_eqp, t_un, t_conv, t_field, t_idxA, t_faddr, t_iaddrS, t_iaddrA, t_ext, t_len, t_mm, t_call, t_ifc, t_fn, t_slc, t_slcA, t_slcT, t_tass, t_isn, t_mks, t_app, t_pan, panE_i, optE_none, optE_some, bnd_none, bnd_int, slA_none, slA_some, appR_some, appOld_cells, newsV_s, newsV_n, lenS_s, appV_nil, appV_some, mksV_i, sh_c, sh_g, f_pan, endD_ret, dfr_normal, dfr_ret, dfr_pan, restD_normal, callD1, callC1, tassV, isnV, slcV, slcAV, slcTV, slcB, appNew, Option.bind_some, Option.bind_none, d_pan, h_pan, wrH_eq, wrX_cells, wrU_some, upH_nil, upH_cons, lk_upH, effR_some, effR_none, effR_ite, Option.isNone_none, Option.isNone_some, slA_zero, call_yield, e_range, it_func, wy_same, y_call, isLp_self, beg_normal, end_normal, end_ret, end_exit, end_ite, aft_ret, aft_ready, aft_done, aft_exit, setP_cons, setP_nil, sh_r, t_mkmap, t_mlook, t_mupd, t_mdel, mapF_some, lookF_some, setM_some, lookR_t, lookR_n, lookR_f, lookR_fn, lookV, mupdV, mdelV, mkM]
    have hj' : (j : Int) < (gMany w : Int) := by omega
    have j0 : (0 : Int) ≤ (j : Int) := by omega
    have t1 := tk_f1 (L := hadL (gMany w) (gCls w) (gCls w).length) (a := j) (by rw [hadL_len]; exact hj)
    rw [hadL_all hI' j hj] at t1
    simp -implicitDefEqProofs (maxSteps := 10000000) (disch := omega) only [T4, L4, G4_8, V8_eq, G4_9, G4_11, G4_16, G4_19, hB, hR, hI, kp.l, kp.t3, kp.t9, kp.t13, lenV_sl, Int.toNat_natCast, bft, btf, gtst, st_len, hj', hj, j0, Nat.mul_one, hl2, hBq, hqr, t1, pad, e_skip, e_ops, e_draw, d_none, d_nil, d_cons, d_ite, h_none, h_nil, h_cons, h_ite, eqS_same, lightV, e_seq, e_cond, e_block, e_exit, e_ret, s_normal, s_ret, s_exit, s_none, s_ite, b_normal, b_ret, b_exit, b_none, b_ite, c_bool, x_none, x_nil, x_cons, x_ite, p_some, p_none, p_ite, pt_some, pt_none, pv_some, pv_none, pv_ite, w_none, w_some, i_bool, i_undef, bt, bf, v_tmp, v_const, v_global, v_func, evs, f_normal, f_ret, f_none, f_ite, r_some, co_some, l_ptr, m_agg, m_one, sh_app, lk_nil, lk_cons, rd_eq, rdO_some, rdO_none, rdN_none, rdL_some, rdL_none, wrB_none, unitR_some, wr_nil, wr_here, wr_skip, k_cells, tk_zero, tk_take, tk_skip, tkC_some, call_func, gt, st, binV, arith, isSh, storeV, all1, idxAV, fieldV, faddrV, iaddrSV, iaddrAV, pickV, convV, unV, eqbV, eqpV, extV, mm2, mmV, nilckV, ress, res1, retV, Value.cells, cond_true, cond_false, Bool.true_or, Bool.false_or, Bool.or_true, Bool.or_false, beq_self_eq_true, if_true, if_false, ite_true, ite_false, decide_true, decide_false, decide_eq_true_eq, reduceIte, Nat.zero_add, Nat.add_zero, and_self, true_and, and_true, List.size_toArray, List.length_cons, List.length_nil, List.append_nil, List.nil_append, Int.toNat_zero, Bool.not_false, Bool.not_true, Bool.not_not, Bool.false_eq_true, Bool.true_eq_false, reduceCtorEq, Int.reduceLT, Int.reduceLE, Int.reduceToNat, Int.reduceAdd, Int.reduceSub, Int.reduceMul, Int.reduceNeg, Nat.reduceMul, Nat.reduceAdd, Nat.reduceSub, Nat.reduceBEq, Nat.reduceEqDiff, Nat.reduceLT, Nat.reduceLeDiff, Int.reduceBEq, Int.reduceEq, Nat.reducePow, Int.reducePow, IntWalk.i64_in, IntKind.bits, eqAV, eqL, leafEq, andO, fillV, buildSV, List.getElem?_toArray, List.getElem?_cons_zero, List.getElem?_cons_succ, List.getElem?_nil, Int.reduceGT, Int.reduceGE, Int.reduceBNe, Bool.true_and, Bool.and_true, Bool.false_and, Bool.and_false, Bool.and_self, IntWalk.u64_in, Int.cast_ofNat_Int, callF1, pad16, pad_0, pad_1, pad_2, pad_3, pad_4, pad_5, pad_6, pad_7, pad_8, pad_9, pad_10, pad_11, pad_12, pad_13, pad_14, pad_15, gc0, gc1, gc2, gc3, gc4, gc5, gc6, gc7, gc8, gc9, gc10, gc11, gc12, gc13, gc14, gc15, gcS, sc0, sc1, sc2, sc3, sc4, sc5, sc6, sc7, sc8, sc9, sc10, sc11, sc12, sc13, sc14, sc15, scS, List.drop_succ_cons, List.drop_nil, x_pan, s_pan, b_pan, pE_ret, pE_pan, pE_none, pE_ite, pvE_some, pvE_none, pvE_ite, rv_some, rv_none, rv_ite, oR_ret, t_mv, t_pick, t_alloc, t_box, t_build, t_buildS, t_load, t_store, t_nilck, t_bin, t_eqb, t_eqA, t_eqp, t_un, t_conv, t_field, t_idxA, t_faddr, t_iaddrS, t_iaddrA, t_ext, t_len, t_mm, t_call, t_ifc, t_fn, t_slc, t_slcA, t_slcT, t_tass, t_isn, t_mks, t_app, t_pan, panE_i, optE_none, optE_some, bnd_none, bnd_int, slA_none, slA_some, appR_some, appOld_cells, newsV_s, newsV_n, lenS_s, appV_nil, appV_some, mksV_i, sh_c, sh_g, f_pan, endD_ret, dfr_normal, dfr_ret, dfr_pan, restD_normal, callD1, callC1, tassV, isnV, slcV, slcAV, slcTV, slcB, appNew, Option.bind_some, Option.bind_none, d_pan, h_pan, wrH_eq, wrX_cells, wrU_some, upH_nil, upH_cons, lk_upH, effR_some, effR_none, effR_ite, Option.isNone_none, Option.isNone_some, slA_zero, call_yield, e_range, it_func, wy_same, y_call, isLp_self, beg_normal, end_normal, end_ret, end_exit, end_ite, aft_ret, aft_ready, aft_done, aft_exit, setP_cons, setP_nil, sh_r, t_mkmap, t_mlook, t_mupd, t_mdel, mapF_some, lookF_some, setM_some, lookR_t, lookR_n, lookR_f, lookR_fn, lookV, mupdV, mdelV, mkM]
    refine ok_some (.inl ⟨rfl, gMany w - (j + 1), by omega, _, j + 1, rfl, ⟨?_, ?_, ?_, ?_⟩, by omega, rfl⟩)
    all_goals simp -implicitDefEqProofs (maxSteps := 10000000) (disch := omega) only [T4, L4, G4_8, V8_eq, G4_9, G4_11, G4_16, G4_19, hB, hR, hI, kp.l, kp.t3, kp.t9, kp.t13, lenV_sl, Int.toNat_natCast, bft, btf, gtst, st_len, hc1, pad, e_skip, e_ops, e_draw, d_none, d_nil, d_cons, d_ite, h_none, h_nil, h_cons, h_ite, eqS_same, lightV, e_seq, e_cond, e_block, e_exit, e_ret, s_normal, s_ret, s_exit, s_none, s_ite, b_normal, b_ret, b_exit, b_none, b_ite, c_bool, x_none, x_nil, x_cons, x_ite, p_some, p_none, p_ite, pt_some, pt_none, pv_some, pv_none, pv_ite, w_none, w_some, i_bool, i_undef, bt, bf, v_tmp, v_const, v_global, v_func, evs, f_normal, f_ret, f_none, f_ite, r_some, co_some, l_ptr, m_agg, m_one, sh_app, lk_nil, lk_cons, rd_eq, rdO_some, rdO_none, rdN_none, rdL_some, rdL_none, wrB_none, unitR_some, wr_nil, wr_here, wr_skip, k_cells, tk_zero, tk_take, tk_skip, tkC_some, call_func, gt, st, binV, arith, isSh, storeV, all1, idxAV, fieldV, faddrV, iaddrSV, iaddrAV, pickV, convV, unV, eqbV, eqpV, extV, mm2, mmV, nilckV, ress, res1, retV, Value.cells, cond_true, cond_false, Bool.true_or, Bool.false_or, Bool.or_true, Bool.or_false, beq_self_eq_true, if_true, if_false, ite_true, ite_false, decide_true, decide_false, decide_eq_true_eq, reduceIte, Nat.zero_add, Nat.add_zero, and_self, true_and, and_true, List.size_toArray, List.length_cons, List.length_nil, List.append_nil, List.nil_append, Int.toNat_zero, Bool.not_false, Bool.not_true, Bool.not_not, Bool.false_eq_true, Bool.true_eq_false, reduceCtorEq, Int.reduceLT, Int.reduceLE, Int.reduceToNat, Int.reduceAdd, Int.reduceSub, Int.reduceMul, Int.reduceNeg, Nat.reduceMul, Nat.reduceAdd, Nat.reduceSub, Nat.reduceBEq, Nat.reduceEqDiff, Nat.reduceLT, Nat.reduceLeDiff, Int.reduceBEq, Int.reduceEq, Nat.reducePow, Int.reducePow, IntWalk.i64_in, IntKind.bits, eqAV, eqL, leafEq, andO, fillV, buildSV, List.getElem?_toArray, List.getElem?_cons_zero, List.getElem?_cons_succ, List.getElem?_nil, Int.reduceGT, Int.reduceGE, Int.reduceBNe, Bool.true_and, Bool.and_true, Bool.false_and, Bool.and_false, Bool.and_self, IntWalk.u64_in, Int.cast_ofNat_Int, callF1, pad16, pad_0, pad_1, pad_2, pad_3, pad_4, pad_5, pad_6, pad_7, pad_8, pad_9, pad_10, pad_11, pad_12, pad_13, pad_14, pad_15, gc0, gc1, gc2, gc3, gc4, gc5, gc6, gc7, gc8, gc9, gc10, gc11, gc12, gc13, gc14, gc15, gcS, sc0, sc1, sc2, sc3, sc4, sc5, sc6, sc7, sc8, sc9, sc10, sc11, sc12, sc13, sc14, sc15, scS, List.drop_succ_cons, List.drop_nil, x_pan, s_pan, b_pan, pE_ret, pE_pan, pE_none, pE_ite, pvE_some, pvE_none, pvE_ite, rv_some, rv_none, rv_ite, oR_ret, t_mv, t_pick, t_alloc, t_box, t_build, t_buildS, t_load, t_store, t_nilck, t_bin, t_eqb, t_eqA, t_eqp, t_un, t_conv, t_field, t_idxA, t_faddr, t_iaddrS, t_iaddrA, t_ext, t_len, t_mm, t_call, t_ifc, t_fn, t_slc, t_slcA, t_slcT, t_tass, t_isn, t_mks, t_app, t_pan, panE_i, optE_none, optE_some, bnd_none, bnd_int, slA_none, slA_some, appR_some, appOld_cells, newsV_s, newsV_n, lenS_s, appV_nil, appV_some, mksV_i, sh_c, sh_g, f_pan, endD_ret, dfr_normal, dfr_ret, dfr_pan, restD_normal, callD1, callC1, tassV, isnV, slcV, slcAV, slcTV, slcB, appNew, Option.bind_some, Option.bind_none, d_pan, h_pan, wrH_eq, wrX_cells, wrU_some, upH_nil, upH_cons, lk_upH, effR_some, effR_none, effR_ite, Option.isNone_none, Option.isNone_some, slA_zero, call_yield, e_range, it_func, wy_same, y_call, isLp_self, beg_normal, end_normal, end_ret, end_exit, end_ite, aft_ret, aft_ready, aft_done, aft_exit, setP_cons, setP_nil, sh_r, t_mkmap, t_mlook, t_mupd, t_mdel, mapF_some, lookF_some, setM_some, lookR_t, lookR_n, lookR_f, lookR_fn, lookV, mupdV, mdelV, mkM]
  obtain ⟨x, ⟨ts, H3, N3⟩, rfl, rfl, j3, kp⟩ := hO
  simp only at kp
  simp -implicitDefEqProofs (maxSteps := 10000000) (disch := omega) only [T4, L4, G4_8, V8_eq, G4_9, G4_11, G4_16, G4_19, hB, hR, hI, kp.l, kp.t3, kp.t9, kp.t13, lenV_sl, Int.toNat_natCast, bft, btf, gtst, st_len, pad, e_skip, e_ops, e_draw, d_none, d_nil, d_cons, d_ite, h_none, h_nil, h_cons, h_ite, eqS_same, lightV, e_seq, e_cond, e_block, e_exit, e_ret, s_normal, s_ret, s_exit, s_none, s_ite, b_normal, b_ret, b_exit, b_none, b_ite, c_bool, x_none, x_nil, x_cons, x_ite, p_some, p_none, p_ite, pt_some, pt_none, pv_some, pv_none, pv_ite, w_none, w_some, i_bool, i_undef, bt, bf, v_tmp, v_const, v_global, v_func, evs, f_normal, f_ret, f_none, f_ite, r_some, co_some, l_ptr, m_agg, m_one, sh_app, lk_nil, lk_cons, rd_eq, rdO_some, rdO_none, rdN_none, rdL_some, rdL_none, wrB_none, unitR_some, wr_nil, wr_here, wr_skip, k_cells, tk_zero, tk_take, tk_skip, tkC_some, call_func, gt, st, binV, arith, isSh, storeV, all1, idxAV, fieldV, faddrV, iaddrSV, iaddrAV, pickV, convV, unV, eqbV, eqpV, extV, mm2, mmV, nilckV, ress, res1, retV, Value.cells, cond_true, cond_false, Bool.true_or, Bool.false_or, Bool.or_true, Bool.or_false, beq_self_eq_true, if_true, if_false, ite_true, ite_false, decide_true, decide_false, decide_eq_true_eq, reduceIte, Nat.zero_add, Nat.add_zero, and_self, true_and, and_true, List.size_toArray, List.length_cons, List.length_nil, List.append_nil, List.nil_append, Int.toNat_zero, Bool.not_false, Bool.not_true, Bool.not_not, Bool.false_eq_true, Bool.true_eq_false, reduceCtorEq, Int.reduceLT, Int.reduceLE, Int.reduceToNat, Int.reduceAdd, Int.reduceSub, Int.reduceMul, Int.reduceNeg, Nat.reduceMul, Nat.reduceAdd, Nat.reduceSub, Nat.reduceBEq, Nat.reduceEqDiff, Nat.reduceLT, Nat.reduceLeDiff, Int.reduceBEq, Int.reduceEq, Nat.reducePow, Int.reducePow, IntWalk.i64_in, IntKind.bits, eqAV, eqL, leafEq, andO, fillV, buildSV, List.getElem?_toArray, List.getElem?_cons_zero, List.getElem?_cons_succ, List.getElem?_nil, Int.reduceGT, Int.reduceGE, Int.reduceBNe, Bool.true_and, Bool.and_true, Bool.false_and, Bool.and_false, Bool.and_self, IntWalk.u64_in, Int.cast_ofNat_Int, callF1, pad16, pad_0, pad_1, pad_2, pad_3, pad_4, pad_5, pad_6, pad_7, pad_8, pad_9, pad_10, pad_11, pad_12, pad_13, pad_14, pad_15, gc0, gc1, gc2, gc3, gc4, gc5, gc6, gc7, gc8, gc9, gc10, gc11, gc12, gc13, gc14, gc15, gcS, sc0, sc1, sc2, sc3, sc4, sc5, sc6, sc7, sc8, sc9, sc10, sc11, sc12, sc13, sc14, sc15, scS, List.drop_succ_cons, List.drop_nil, x_pan, s_pan, b_pan, pE_ret, pE_pan, pE_none, pE_ite, pvE_some, pvE_none, pvE_ite, rv_some, rv_none, rv_ite, oR_ret, t_mv, t_pick, t_alloc, t_box, t_build, t_buildS, t_load, t_store, t_nilck, t_bin, t_eqb, t_eqA, t_eqp, t_un, t_conv, t_field, t_idxA, t_faddr, t_iaddrS, t_iaddrA, t_ext, t_len, t_mm, t_call, t_ifc, t_fn, t_slc, t_slcA, t_slcT, t_tass, t_isn, t_mks, t_app, t_pan, panE_i, optE_none, optE_some, bnd_none, bnd_int, slA_none, slA_some, appR_some, appOld_cells, newsV_s, newsV_n, lenS_s, appV_nil, appV_some, mksV_i, sh_c, sh_g, f_pan, endD_ret, dfr_normal, dfr_ret, dfr_pan, restD_normal, callD1, callC1, tassV, isnV, slcV, slcAV, slcTV, slcB, appNew, Option.bind_some, Option.bind_none, d_pan, h_pan, wrH_eq, wrX_cells, wrU_some, upH_nil, upH_cons, lk_upH, effR_some, effR_none, effR_ite, Option.isNone_none, Option.isNone_some, slA_zero, call_yield, e_range, it_func, wy_same, y_call, isLp_self, beg_normal, end_normal, end_ret, end_exit, end_ite, aft_ret, aft_ready, aft_done, aft_exit, setP_cons, setP_nil, sh_r, t_mkmap, t_mlook, t_mupd, t_mdel, mapF_some, lookF_some, setM_some, lookR_t, lookR_n, lookR_f, lookR_fn, lookV, mupdV, mdelV, mkM]
  exact ⟨_, _, rfl⟩
end Go.Proofs.Ytkohdcjeankhkaa
namespace Go.Proofs.Ytkohdcjeankhkaa
open Go.Proofs.Ytkohdcjeankhkaa.K Go.ChangeShapes Go.WideShapes Go.ChangeAt Go.RowKit
set_option maxRecDepth 100000
set_option linter.unusedSimpArgs false
set_option linter.unusedVariables false

namespace histBack
theorem own : ownKnob Try.prog.godebug = none := by kernel_rfl
theorem laidOut : laidOutB Try.prog = true := by kernel_rfl
theorem typesOk : (Try.f4.params.toList.all fun t => Try.prog.readableRec t && decide (t < Try.prog.types.size)) = true := by kernel_rfl
theorem contract (H : Type) (enc : TypeId × Value → H) (W : World) (base : Nat) (args : Array Value) (ds gs : List (DataW H)) (before : List MemPlace)
    (hval : ∀ (j : Nat) t v, Try.f4.params[j]? = some t → args[j]? = some v → Value.okWide Try.prog W .any base t v)
    (hW : DataW.Whole enc Try.prog Try.f4.params.toList Rows.histBackSpec.vars false W args.toList ds gs before) (hL : laidMetH Try.prog Rows.histBackRow.laid W) :
    Calls Try.prog 4 args W fun e W' => ∃ v, e = .returned v ∧ Rows.histBackSpec.post enc Try.prog Try.f4 false true false false W args v W' := by
  have hW' := hW
  obtain ⟨p, q, hA0, hV, hpq, hfz, hnd⟩ := hW
  have hA : DataW.TrodAll enc Try.prog W 0 (fun _ => true) true Try.f4.params.toList args.toList ds p := hA0
  rw [Try.params4] at hA hval
  obtain ⟨v0, vs0, d0, ds0, p0, q0, hargs, rfl, rfl, h0, r0⟩ := trodAll_cons hA
  obtain ⟨rfl, rfl, rfl⟩ := trodAll_nil r0
  obtain rfl : args = #[v0] := by apply Array.ext'; simpa using hargs
  obtain ⟨rfl, rfl⟩ := trodVars_none hV
  have s0 := open_flats (P := Try.prog) 20 Try.underlying22 (show leafs Try.prog 20 61 = some [.int .i64, .int .i64, .int .i64] by kernel_rfl) (show Try.prog.cellsOf 61 = 3 by kernel_rfl) (by decide) (hval 0 22 v0 rfl rfl) h0
  refine law_post laidOut (fun t ht => by simpa using List.all_eq_true.1 typesOk t ht) rfl (show Try.f4.resultTypes = #[4] by rfl) Try.underlying4 hW' rfl rfl rfl ?_
  obtain ⟨w, hw, hb⟩ := raw3_open s0
  have hs := callF_sound (w0 := W) (B := startB W) mixedOrders sG4 1300 Try.func4 low4
  exact law_calls hs (args := [v0]) fun N hN => lv4 hb [] N hN (hw.rd r3_len)

noncomputable def laidWorld (os : Os) : World := laidW Try.prog os []
theorem laid_met (os : Os) : laidMet Try.prog Rows.histBackRow.laid ((laidWorld os).forCall (fun _ _ => 0) ⟨#[], #[.slice none 0 0], []⟩).memory :=
  laidMet_of_run' 16 (by kernel_rfl) (by kernel_rfl)
theorem reads (os : Os) {H : Type} (enc : TypeId × Value → H) : ∃ places, DataW.whole enc Try.prog ((laidWorld os).forCall (fun _ _ => 0) ⟨#[], #[.slice none 0 0], []⟩).memory Try.f4.params.toList Rows.histBackSpec.vars false (#[.slice none 0 0] : Array Value).toList 16 = some ([.nil], [], places) :=
  ⟨[], by kernel_rfl⟩
theorem lifted (os : Os) (started : os.Started) (H : Type) (enc : TypeId × Value → H) (F : Stop.Interp) :
    ReturnsInHanded {} Try.checked os 4 .any ((OpenSpec.ofChange Rows.histBackSpec).preRow enc Try.prog Try.f4 Rows.histBackRow.domain false Rows.histBackRow.laid) (((OpenSpec.ofChange Rows.histBackSpec).at F).post enc Try.prog Try.f4 false true false false) := by
  obtain ⟨places, hx⟩ := reads os enc
  refine returnsInHanded_of_row (C := Try.checked) (s := OpenSpec.ofChange Rows.histBackSpec) own started (by kernel_rfl) Try.func4
    (witness_row_at (enc := enc) (C := Try.checked) false (laidWorld os) #[.slice none 0 0] rfl (by kernel_rfl) (by kernel_rfl) (by kernel_rfl)
      (OpenSpec.preRow_of_cond 16 hx (by kernel_rfl) (fun k hk => by cases hk) (by kernel_rfl) (laid_met os))) ?_
  intro W base args ds gs before hval hW _ _ _ hL _ _
  exact contract H enc W base args ds gs before hval hW hL
theorem said : Rows.HistBackSaid :=
  OpenClaim.holds_of_cond 4 Try.f4 rfl rfl rfl rfl rfl rfl rfl ⟨rfl, rfl, rfl, rfl, rfl⟩ rfl rfl rfl rfl rfl (by kernel_rfl) Try.func4 (by kernel_rfl)
    (of_decide_eq_true (by kernel_rfl)) (by unfold Func.isWrapper; first | (rw [if_pos (by decide +kernel)]; kernel_rfl) | (rw [if_neg (by decide +kernel)]; exact ⟨rfl, rfl⟩))
    (fun os started H enc _ F => by rw [OpenClaim.pre_eq_preRow]; exact lifted os started H enc F)
end histBack
end Go.Proofs.Ytkohdcjeankhkaa
