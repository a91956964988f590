/- The statement HistOne (its texts begin with the mathematics of HistWidth) of layer 20: whatever the input, it answers true and leaves its input as it was. -/
import Derived.Test.YtkohdcjeankhkaaOwnD
import Derived.Test.YtkohdcjeankhkaaRows
set_option linter.unusedSimpArgs false
set_option linter.unusedVariables false
namespace Go.Proofs.Ytkohdcjeankhkaa
open Go.Proofs.Ytkohdcjeankhkaa.K
/-! ### More about raw histories -/
theorem gMany_le (w : List R3) : gMany w ≤ 30 ∧ gMany w ≤ w.length := by unfold gMany; omega
theorem g_err (w : List R3) : cErr (gEvs w) = 0 := cErr_fine (by rw [gEvs_len]; have := gMany_le w; omega) (by rw [gEvs_len]; exact gFine w)
theorem g_cls (w : List R3) : cls (gEvs w) = gCls w := by rw [cls_fine (g_err w), gEvs_len]; rfl
theorem gCls_len (w : List R3) : (gCls w).length ≤ 30 := by
  have := cLen (gMany w) (gEvs w) (gMany w)
  have := gMany_le w
  unfold gCls; omega
theorem gEvs_p {w : List R3} {i : Nat} {x : Ev} (h : (gEvs w)[i]? = some x) : 0 ≤ x.p ∧ x.p < 5 := by
  have hi : i < gMany w := by have := (List.getElem?_eq_some_iff.1 h).1; rwa [gEvs_len] at this
  have hb := pk_b (x := (w.getD i (0, 0, 0)).1) (n := 5) (by omega)
  have := gEvs_at w i hi
  rw [getD_some h] at this
  split at this <;> (subst this; exact hb)
/-! ### How many are under way -/
def unw (i : Int) (c : Cl) : Bool := decide (c.f ≤ i) && decide (i < c.t)
def cnt (C : List Cl) (i : Int) : Nat := C.countP (unw i)
theorem countP_one {α : Type} {p q : α → Bool} : ∀ {l : List α} {a : Nat} {c : α}, l[a]? = some c → p c = false → q c = true → (∀ b d, b ≠ a → l[b]? = some d → p d = q d) → l.countP q = l.countP p + 1
  | x :: l, 0, c, h, hp, hq, ho => by
    obtain rfl : x = c := by simpa using h
    have : l.countP q = l.countP p := List.countP_congr fun d hd => by
      obtain ⟨b, hb⟩ := List.getElem?_of_mem hd
      rw [ho (b + 1) d (by omega) (by simpa using hb)]
    simp [List.countP_cons, hp, hq, this]
  | x :: l, a + 1, c, h, hp, hq, ho => by
    have ih := countP_one (l := l) (a := a) (c := c) (by simpa using h) hp hq (fun b d hb hd => ho (b + 1) d (by omega) (by simpa using hd))
    have hx := ho 0 x (by omega) rfl
    simp only [List.countP_cons, ih, hx]; omega
  | [], a, c, h, _, _, _ => by simp at h
section
variable {n : Nat} {l : List Ev} {o : Om} {C : List Cl}
theorem Inv.f_inj {j : Nat} (h : Inv n l j o C) {a b : Nat} {c d : Cl} (hc : C[a]? = some c) (hd : C[b]? = some d) (e : c.f = d.f) : a = b := by
  rcases Nat.lt_trichotomy a b with h' | h' | h'
  · have := h.mo a b c d hc hd h'; omega
  · exact h'
  · have := h.mo b a d c hd hc h'; omega
theorem Inv.t_inj {j : Nat} (h : Inv n l j o C) {a b : Nat} {c d : Cl} (hc : C[a]? = some c) (hd : C[b]? = some d) (dc : c.d = true) (dd : d.d = true) (e : c.t = d.t) : a = b := by
  obtain ⟨i, e1, e2, e3, e4⟩ := h.dn a c hc dc
  obtain ⟨i', f1, f2, f3, f4⟩ := h.dn b d hd dd
  obtain rfl : i = i' := by omega
  rw [e4] at f4
  have hp : c.p = d.p := by injection f4 with f4; injection f4
  rcases Nat.lt_trichotomy a b with h' | h' | h'
  · have := (h.se a b c d hc hd h' hp).2; omega
  · exact h'
  · have := (h.se b a d c hd hc h' hp.symm).2; omega
theorem Inv.f_ne {j : Nat} (h : Inv n l j o C) {a b : Nat} {c d : Cl} (hc : C[a]? = some c) (hd : C[b]? = some d) (dd : d.d = true) : c.f ≠ d.t := fun e => by
  obtain ⟨i, e1, e2, e4⟩ := h.fr a c hc
  obtain ⟨i', f1, f2, f3, f4⟩ := h.dn b d hd dd
  obtain rfl : i = i' := by omega
  rw [e4] at f4
  injection f4 with f4
  injection f4 with _ f5
  cases f5
theorem cnt_step (h : Inv n l n o C) (i : Nat) (hi : i < n) : (cnt C (i : Int) : Int) = (cnt C ((i : Int) - 1) : Int) + (if (l.getD i e0).b = true then 1 else -1) := by
  obtain ⟨a, c, hc, h1⟩ := h.al i hi
  obtain ⟨q, q1, q2, q3⟩ := h.fr a c hc
  rcases h1 with h1 | ⟨hd, h1⟩
  · obtain rfl : q = i := by omega
    rw [getD_some q3]
    have ht : c.t > q := by
      cases hd : c.d with
      | true => obtain ⟨i', e1, e2, _⟩ := h.dn a c hc hd; omega
      | false => have := (h.nd a c hc hd).1; omega
    have := countP_one (p := unw ((q : Int) - 1)) (q := unw (q : Int)) hc (by simp [unw]; omega) (by simp [unw]; omega) (fun b d hb hd => by
      have f1 : d.f ≠ q := fun e => hb (h.f_inj hd hc (by omega))
      have t1 : d.t ≠ q := fun e => by
        cases dd : d.d with
        | true => exact h.f_ne hc hd dd (by omega)
        | false => have := (h.nd b d hd dd).1; omega
      have e1 : decide (d.f ≤ (q : Int) - 1) = decide (d.f ≤ q) := by rw [decide_eq_decide]; omega
      have e2 : decide ((q : Int) - 1 < d.t) = decide ((q : Int) < d.t) := by rw [decide_eq_decide]; omega
      simp only [unw, e1, e2])
    unfold cnt
    simp only [if_true]
    omega
  · obtain ⟨i', e1, e2, e3, e4⟩ := h.dn a c hc hd
    obtain rfl : i' = i := by omega
    rw [getD_some e4]
    have := countP_one (p := unw (i' : Int)) (q := unw ((i' : Int) - 1)) hc (by simp [unw]; omega) (by simp [unw]; omega) (fun b d hb hd' => by
      have f1 : d.f ≠ i' := fun e => h.f_ne hd' hc hd (by omega)
      have t1 : d.t ≠ i' := fun e => by
        cases dd : d.d with
        | true => exact hb (h.t_inj hd' hc dd hd (by omega))
        | false => have := (h.nd b d hd' dd).1; omega
      have e1 : decide (d.f ≤ (i' : Int) - 1) = decide (d.f ≤ i') := by rw [decide_eq_decide]; omega
      have e2 : decide ((i' : Int) - 1 < d.t) = decide ((i' : Int) < d.t) := by rw [decide_eq_decide]; omega
      simp only [unw, e1, e2])
    unfold cnt
    simp only [Bool.false_eq_true, if_false]
    omega
theorem cnt_run (h : Inv n l n o C) : ∀ j, j ≤ n → (wRun l j).1 = (cnt C ((j : Int) - 1) : Int)
  | 0, _ => by
    have : cnt C ((0 : Nat) - 1 : Int) = 0 := by
      unfold cnt
      rw [List.countP_eq_zero]
      intro c hc
      obtain ⟨a, ha⟩ := List.getElem?_of_mem hc
      obtain ⟨i, e1, _⟩ := h.fr a c ha
      simp [unw]; omega
    rw [this]; rfl
  | j + 1, hj => by
    have ih := cnt_run h j (by omega)
    have hs := cnt_step h j (by omega)
    have e : ((j + 1 : Nat) : Int) - 1 = j := by omega
    rw [e, hs, ← ih]
    simp only [wRun]
    split <;> rfl
theorem wid_step (h : Inv n l n o C) (j : Nat) (hj : j < n) : (wRun l (j + 1)).2 = if (cnt C (j : Int) : Int) > (wRun l j).2 then (cnt C (j : Int) : Int) else (wRun l j).2 := by
  have := cnt_run h (j + 1) (by omega)
  rw [show ((j + 1 : Nat) : Int) - 1 = j by omega] at this
  rw [← this]; rfl
theorem wRun_mono (l : List Ev) (j : Nat) : ∀ d, (wRun l j).2 ≤ (wRun l (j + d)).2
  | 0 => by simp
  | d + 1 => by
    have := wRun_mono l j d
    show _ ≤ (wRun l (j + d + 1)).2
    simp only [wRun]
    split <;> split <;> omega
theorem wRun_take (l : List Ev) (k : Nat) : ∀ j, j ≤ k → wRun (l.take k) j = wRun l j
  | 0, _ => rfl
  | j + 1, h => by
    have ih := wRun_take l k j (by omega)
    have : (l.take k).getD j e0 = l.getD j e0 := by
      rw [List.getD_eq_getElem?_getD, List.getD_eq_getElem?_getD, List.getElem?_take, if_pos (by omega)]
    simp only [wRun, ih, this]
end
theorem pig : ∀ (m : Nat) (L : List Nat), L.Nodup → (∀ x ∈ L, x < m) → L.length ≤ m
  | 0, L, _, h => by
    cases L with
    | nil => simp
    | cons x L => have := h x List.mem_cons_self; omega
  | m + 1, L, hn, h => by
    by_cases hm : m ∈ L
    · have h1 := pig m (L.erase m) (hn.erase m) (fun x hx => by
        have h2 := h x (List.mem_of_mem_erase hx)
        have hne : x ≠ m := (hn.mem_erase_iff.1 hx).1
        omega)
      rw [List.length_erase_of_mem hm] at h1; omega
    · have := pig m L hn (fun x hx => by
        have h1 := h x hx
        have h2 : x ≠ m := fun e => hm (e ▸ hx)
        omega)
      omega
theorem cnt_five {w : List R3} (i : Int) : cnt (gCls w) i ≤ 5 := by
  have h := gInv w
  have hp : ∀ c ∈ gCls w, 0 ≤ c.p ∧ c.p < 5 := fun c hc => by
    obtain ⟨a, ha⟩ := List.getElem?_of_mem hc
    obtain ⟨i, _, _, e⟩ := h.fr a c ha
    exact gEvs_p e
  unfold cnt
  rw [List.countP_eq_length_filter]
  have := pig 5 (((gCls w).filter (unw i)).map fun c => c.p.toNat) ?_ ?_
  · simpa using this
  · unfold List.Nodup
    rw [List.pairwise_map, List.pairwise_filter, List.pairwise_iff_getElem]
    intro a b ha hb hab u1 u2 e
    have p1 := hp _ (List.getElem_mem ha)
    have p2 := hp _ (List.getElem_mem hb)
    have := (h.se a b _ _ (List.getElem?_eq_getElem ha) (List.getElem?_eq_getElem hb) hab (by omega)).2
    simp only [unw, Bool.and_eq_true, decide_eq_true_eq] at u1 u2
    omega
  · intro x hx
    obtain ⟨c, hc, rfl⟩ := List.mem_map.1 hx
    have := hp c (List.mem_filter.1 hc).1
    omega
theorem g_wid (w : List R3) : wid (gEvs w) = (wRun (gEvs w) (gMany w)).2 := by rw [wid_fine (g_err w), gEvs_len]
theorem g_wid_step (w : List R3) (j : Nat) (hj : j < gMany w) : (wRun (gEvs w) (j + 1)).2 = if (cnt (gCls w) (j : Int) : Int) > (wRun (gEvs w) j).2 then (cnt (gCls w) (j : Int) : Int) else (wRun (gEvs w) j).2 := wid_step (gInv w) j hj
theorem g_wid5 (w : List R3) : ∀ j, j ≤ gMany w → 0 ≤ (wRun (gEvs w) j).2 ∧ (wRun (gEvs w) j).2 ≤ 5
  | 0, _ => by simp [wRun]
  | j + 1, hj => by
    have := g_wid5 w j (by omega)
    have h5 := cnt_five (w := w) (j : Int)
    rw [g_wid_step w j (by omega)]
    split <;> omega
theorem g_wid0 (w : List R3) : wid (gEvs w) = 0 ↔ gMany w = 0 := by
  constructor
  · intro h
    by_cases hm : gMany w = 0
    · exact hm
    · have h1 := g_wid_step w 0 (by omega)
      obtain ⟨a, c, hc, h2⟩ := (gInv w).al 0 (by omega)
      obtain ⟨q, q1, q2, _⟩ := (gInv w).fr a c hc
      have hf : c.f = 0 ∧ 0 < c.t := by
        cases hd : c.d with
        | true =>
          obtain ⟨i', e1, e2, _⟩ := (gInv w).dn a c hc hd
          rcases h2 with h2 | ⟨_, h2⟩ <;> omega
        | false =>
          have := ((gInv w).nd a c hc hd).1
          rcases h2 with h2 | ⟨h3, h2⟩
          · omega
          · rw [hd] at h3; cases h3
      have hpos : 0 < cnt (gCls w) 0 := by
        unfold cnt
        rw [List.countP_pos_iff]
        exact ⟨c, List.mem_of_getElem? hc, by simp [unw]; omega⟩
      have hm' := wRun_mono (gEvs w) 1 (gMany w - 1)
      rw [show 1 + (gMany w - 1) = gMany w by omega, ← g_wid, h] at hm'
      have z : (wRun (gEvs w) 0).2 = 0 := rfl
      rw [z, if_pos (by simpa using hpos)] at h1
      simp only [Nat.zero_add] at h1
      rw [h1] at hm'
      simp at hm'; omega
  · intro h
    rw [g_wid, h]; rfl
theorem gRun_take (w : List R3) (k : Nat) : ∀ j, j ≤ k → gRun (w.take k) j = gRun w j
  | 0, _ => rfl
  | j + 1, h => by
    have ih := gRun_take w k j (by omega)
    have : (w.take k).getD j (0, 0, 0) = w.getD j (0, 0, 0) := by
      rw [List.getD_eq_getElem?_getD, List.getD_eq_getElem?_getD, List.getElem?_take, if_pos (by omega)]
    simp only [gRun, ih, this]
theorem gEvs_take (w : List R3) (k : Nat) (hk : k ≤ gMany w) : (gEvs w).take k = gEvs (w.take k) := by
  have hm : gMany (w.take k) = k := by unfold gMany at hk ⊢; rw [List.length_take]; omega
  unfold gEvs
  rw [hm, gRun_take w k k (Nat.le_refl _)]
  have hl := gRun_len w k
  refine List.ext_getElem? fun i => ?_
  rcases Nat.lt_or_ge i k with h | h
  · rw [List.getElem?_take, if_pos h]
    have := gRun_pre w (gMany w - k) k i ((gRun w k).2.getD i e0) (some_getD (by omega))
    rw [show k + (gMany w - k) = gMany w by omega] at this
    rw [this]; exact (some_getD (by omega)).symm
  · rw [List.getElem?_eq_none (by rw [List.length_take]; omega), List.getElem?_eq_none (by omega)]
theorem g_wid_take (w : List R3) (k : Nat) (hk : k ≤ gMany w) : cErr ((gEvs w).take k) = 0 ∧ wid ((gEvs w).take k) ≤ wid (gEvs w) := by
  have he : cErr ((gEvs w).take k) = 0 := by rw [gEvs_take w k hk]; exact g_err _
  refine ⟨he, ?_⟩
  have hl : ((gEvs w).take k).length = k := by rw [List.length_take, gEvs_len]; omega
  rw [wid_fine he, hl, wRun_take _ _ _ (Nat.le_refl _), g_wid]
  have := wRun_mono (gEvs w) k (gMany w - k)
  rwa [show k + (gMany w - k) = gMany w by omega] at this
theorem cnt_take {C : List Cl} {q : Cl → Bool} {k : Nat} (h : k < C.length) : (C.take (k + 1)).countP q = if q (C.getD k z0) = true then (C.take k).countP q + 1 else (C.take k).countP q := by
  have : C.take (k + 1) = C.take k ++ [C.getD k z0] := by rw [List.take_add_one, some_getD (d := z0) h]; rfl
  rw [this, List.countP_append]
  generalize C.getD k z0 = x
  split <;> simp_all
theorem cnt_take_le {C : List Cl} {q : Cl → Bool} {k : Nat} : (C.take k).countP q ≤ k := by
  have h1 := List.countP_le_length (p := q) (l := C.take k)
  rw [List.length_take] at h1
  omega
theorem SlR.take {α : Type} {f : α → List Value} {sz : Nat} {B : OH} {H : HL} {a : Option Addr} {n cap k : Nat} {L : List α} (h : SlR f sz B H (.slice a n cap) L) (hk : k ≤ L.length) : SlR f sz B H (.slice a k cap) (L.take k) := by
  obtain ⟨a', cap', e, h2⟩ := h
  injection e with e1 e2 e3
  subst e1 e2 e3
  have hl : (L.take k).length = k := by rw [List.length_take]; omega
  refine ⟨a, cap, by rw [hl], h2.imp (fun h => by subst h; simp) ?_⟩
  rintro ⟨b, o, h3, h4, h5⟩
  refine ⟨b, o, h3, h4, fun H' hF i j n d hi hj => ?_⟩
  rw [h5 H' hF i j n d (by omega) hj]
  have : (L.take k).getD i d = L.getD i d := by
    rw [List.getD_eq_getElem?_getD, List.getD_eq_getElem?_getD, List.getElem?_take, if_pos (by omega)]
  rw [this]
end Go.Proofs.Ytkohdcjeankhkaa
namespace Go.Proofs.Ytkohdcjeankhkaa
open Go.Proofs.Ytkohdcjeankhkaa.K
/-! ### The events of one process -/
def isP (p : Int) (c : Cl) : Bool := c.p == p
theorem countP_set {α : Type} {q : α → Bool} : ∀ {l : List α} {a : Nat} {c y : α}, l[a]? = some c → q y = q c → (l.set a y).countP q = l.countP q
  | x :: l, 0, c, y, h, hq => by
    obtain rfl : x = c := by simpa using h
    simp [List.countP_cons, hq]
  | x :: l, a + 1, c, y, h, hq => by
    have := countP_set (l := l) (a := a) (c := c) (y := y) (by simpa using h) hq
    simp [List.countP_cons, this]
  | [], a, c, y, h, _ => by simp at h
theorem flt_at {l : List Ev} {p : Int} {j : Nat} (h : j < l.length) (hp : (l.getD j e0).p = p) : (flt l p)[(flt (l.take j) p).length]? = some (l.getD j e0) := by
  have h1 : flt l p = flt (l.take (j + 1)) p ++ flt (l.drop (j + 1)) p := by
    unfold flt
    rw [← List.filter_append, List.take_append_drop]
  rw [h1, flt_succ h, if_pos hp, List.append_assoc, List.getElem?_append_right (Nat.le_refl _)]
  simp
structure RelP (p : Int) (S S' : Om × List Cl) (ww : Int × Int) : Prop where
  a : ∀ q, q ≠ p → S'.1 q = none
  b : (S'.1 p).isSome = (S.1 p).isSome
  c : ∀ a a', S.1 p = some a → S'.1 p = some a' → (S.2.getD a z0).c = (S'.2.getD a' z0).c ∧ (S.2.getD a z0).k = (S'.2.getD a' z0).k ∧ (S.2.getD a z0).v = (S'.2.getD a' z0).v
  d : S'.2.length = S.2.countP (isP p)
  e : ∀ a', S'.1 p = some a' → a' < S'.2.length
  f : ww.1 = if (S'.1 p).isSome = true then 1 else 0
  g : ww.2 = if 1 < S'.2.length then 1 else (S'.2.length : Int)
  h : ∀ a, S.1 p = some a → a < S.2.length ∧ (S.2.getD a z0).p = p
theorem flt_rel (l : List Ev) (p : Int) (hf : Fine l.length l) : ∀ j, j ≤ l.length → RelP p (cRun l.length l j) (cRun (flt l p).length (flt l p) (flt (l.take j) p).length) (wRun (flt l p) (flt (l.take j) p).length) ∧
    ∀ i, i < (flt (l.take j) p).length → ¬ cBad (cRun (flt l p).length (flt l p) i).1 (cRun (flt l p).length (flt l p) i).2 ((flt l p).getD i e0) := by
  intro j
  induction j with
  | zero =>
    intro _
    refine ⟨⟨fun _ _ => rfl, rfl, fun a a' h => (by cases h), rfl, fun a h => (by cases h), rfl, rfl, fun a h => (by cases h)⟩, fun i hi => ?_⟩
    simp [flt] at hi
  | succ j ih =>
    intro hj
    obtain ⟨hR, hB⟩ := ih (by omega)
    have hbad := hf j (by omega)
    have hI := Inv.run hf j (by omega)
    have hI' := Inv.run hf (j + 1) (by omega)
    have hs := flt_succ (l := l) (p := p) (j := j) (by omega)
    have hrun : cRun l.length l (j + 1) = cStep l.length j (l.getD j e0) (cRun l.length l j) := rfl
    have hH : ∀ a, (cRun l.length l (j + 1)).1 p = some a → a < (cRun l.length l (j + 1)).2.length ∧ ((cRun l.length l (j + 1)).2.getD a z0).p = p := fun a ha => by
      obtain ⟨c, hc, h1, _⟩ := (hI'.op p a).1 ha
      exact ⟨(List.getElem?_eq_some_iff.1 hc).1, by rw [getD_some hc]; exact h1⟩
    by_cases hp : (l.getD j e0).p = p
    · rw [if_pos hp] at hs
      have hat := flt_at (l := l) (j := j) (by omega) hp
      have hlen : (flt (l.take (j + 1)) p).length = (flt (l.take j) p).length + 1 := by rw [hs]; simp
      rw [hlen]
      have hrun' : cRun (flt l p).length (flt l p) ((flt (l.take j) p).length + 1) = cStep (flt l p).length (flt (l.take j) p).length (l.getD j e0) (cRun (flt l p).length (flt l p) (flt (l.take j) p).length) := by
        show cStep _ _ ((flt l p).getD _ e0) _ = _
        rw [getD_some hat]
      have hw : wRun (flt l p) ((flt (l.take j) p).length + 1) = ((if (l.getD j e0).b = true then (wRun (flt l p) (flt (l.take j) p).length).1 + 1 else (wRun (flt l p) (flt (l.take j) p).length).1 - 1), (if (if (l.getD j e0).b = true then (wRun (flt l p) (flt (l.take j) p).length).1 + 1 else (wRun (flt l p) (flt (l.take j) p).length).1 - 1) > (wRun (flt l p) (flt (l.take j) p).length).2 then (if (l.getD j e0).b = true then (wRun (flt l p) (flt (l.take j) p).length).1 + 1 else (wRun (flt l p) (flt (l.take j) p).length).1 - 1) else (wRun (flt l p) (flt (l.take j) p).length).2)) := by
        simp only [wRun, getD_some hat]
      have hnb : ¬ cBad (cRun (flt l p).length (flt l p) (flt (l.take j) p).length).1 (cRun (flt l p).length (flt l p) (flt (l.take j) p).length).2 (l.getD j e0) := by
        unfold cBad at hbad ⊢
        rw [hp] at hbad ⊢
        rintro (h | h | h | h | ⟨a', ha', h⟩)
        · exact hbad (.inl h)
        · exact hbad (.inr (.inl h))
        · exact hbad (.inr (.inr (.inl (by rw [← hR.b]; exact h))))
        · exact hbad (.inr (.inr (.inr (.inl h))))
        · have hsm : ((cRun l.length l j).1 p).isSome = true := by rw [← hR.b, ha']; rfl
          obtain ⟨a, ha⟩ := Option.isSome_iff_exists.1 hsm
          obtain ⟨c1, c2, c3⟩ := hR.c a a' ha ha'
          exact hbad (.inr (.inr (.inr (.inr ⟨a, ha, by rw [c1, c2, c3]; exact h⟩))))
      refine ⟨?_, fun i hi => ?_⟩
      · rw [hrun', hw]
        rw [hrun] at hH ⊢
        unfold cBad at hbad
        rw [hp] at hbad
        generalize cRun l.length l j = S at hR hbad hH ⊢
        generalize cRun (flt l p).length (flt l p) (flt (l.take j) p).length = S' at hR ⊢
        generalize wRun (flt l p) (flt (l.take j) p).length = W at hR ⊢
        generalize l.getD j e0 = x at hp hbad hH ⊢
        obtain ⟨o, C⟩ := S
        obtain ⟨o', C'⟩ := S'
        obtain ⟨w1, w2⟩ := W
        obtain ⟨ra, rb, rc, rd, re, rf, rg, rh⟩ := hR
        simp only at ra rb rc rd re rf rg rh hbad ⊢
        subst hp
        cases ho : o x.p with
        | none =>
          have ho' : o' x.p = none := by
            cases h : o' x.p with
            | none => rfl
            | some a => rw [h, ho] at rb; cases rb
          have hxb : x.b = true := by
            cases hb : x.b with
            | true => rfl
            | false => exact (hbad (.inr (.inr (.inl (by rw [ho, hb]; rfl))))).elim
          simp only [cStep, ho] at hH
          simp only [cStep, ho, ho']
          simp only [ho', Option.isSome_none, Bool.false_eq_true, if_false] at rf
          subst rf
          refine ⟨fun q hq => ?_, ?_, fun a a' h h' => ?_, ?_, fun a' h => ?_, ?_, ?_, hH⟩
          · simp only [upd, if_neg hq]; exact ra q hq
          · simp [upd]
          · simp only [upd, if_true, Option.some.injEq] at h h'
            subst h h'
            simp [List.getD_eq_getElem?_getD, nuw]
          · rw [List.length_append, List.countP_append, rd]
            simp [List.countP_cons, isP, nuw]
          · simp only [upd, if_true, Option.some.injEq] at h
            subst h; simp
          · simp [upd, hxb]
          · simp only [hxb, if_true, List.length_append, List.length_cons, List.length_nil]
            rw [rg]
            split <;> split <;> split <;> omega
        | some a0 =>
          obtain ⟨a1, ho'⟩ : ∃ a1, o' x.p = some a1 := Option.isSome_iff_exists.1 (by rw [rb, ho]; rfl)
          have hxb : x.b = false := by
            cases hb : x.b with
            | false => rfl
            | true => exact (hbad (.inr (.inr (.inl (by rw [ho, hb]; rfl))))).elim
          have h1 := rh a0 ho
          simp only [cStep, ho] at hH
          simp only [cStep, ho, ho']
          simp only [ho', Option.isSome_some, if_true] at rf
          subst rf
          refine ⟨fun q hq => ?_, ?_, fun a a' h h' => ?_, ?_, fun a' h => ?_, ?_, ?_, hH⟩
          · simp only [upd, if_neg hq]; exact ra q hq
          · simp [upd]
          · simp only [upd, if_true] at h; cases h
          · rw [List.length_set, rd]
            exact (countP_set (some_getD (d := z0) h1.1) (by simp [isP, fin])).symm
          · simp only [upd, if_true] at h; cases h
          · simp [upd, hxb]
          · simp only [hxb, Bool.false_eq_true, if_false, List.length_set]
            rw [rg]
            split <;> split <;> omega
      · rcases Nat.lt_or_ge i (flt (l.take j) p).length with h | h
        · exact hB i h
        · obtain rfl : i = (flt (l.take j) p).length := by omega
          rw [getD_some hat]
          exact hnb
    · rw [if_neg hp] at hs
      rw [hs]
      refine ⟨?_, hB⟩
      rw [hrun] at hH ⊢
      unfold cBad at hbad
      have hop := hI.op
      generalize cRun l.length l j = S at hR hbad hH hop ⊢
      generalize cRun (flt l p).length (flt l p) (flt (l.take j) p).length = S' at hR ⊢
      generalize wRun (flt l p) (flt (l.take j) p).length = W at hR ⊢
      generalize l.getD j e0 = x at hp hbad hH ⊢
      obtain ⟨o, C⟩ := S
      obtain ⟨o', C'⟩ := S'
      obtain ⟨w1, w2⟩ := W
      obtain ⟨ra, rb, rc, rd, re, rf, rg, rh⟩ := hR
      simp only at ra rb rc rd re rf rg rh hbad hop ⊢
      have hne : ¬ p = x.p := fun e => hp e.symm
      cases ho : o x.p with
      | none =>
        simp only [cStep, ho] at hH
        simp only [cStep, ho]
        refine ⟨ra, ?_, fun a a' h h' => ?_, ?_, re, rf, rg, hH⟩
        · simp only [upd, if_neg hne]; exact rb
        · simp only [upd, if_neg hne] at h
          have h1 := rh a h
          have : (C ++ [nuw l.length j x]).getD a z0 = C.getD a z0 := by simp [List.getD_eq_getElem?_getD, List.getElem?_append_left h1.1]
          rw [this]; exact rc a a' h h'
        · rw [List.countP_append, rd]
          simp [List.countP_cons, isP, nuw, hp]
      | some a0 =>
        obtain ⟨c0, hc0, hp0, _⟩ := (hop x.p a0).1 ho
        simp only [cStep, ho] at hH
        simp only [cStep, ho]
        refine ⟨ra, ?_, fun a a' h h' => ?_, ?_, re, rf, rg, hH⟩
        · simp only [upd, if_neg hne]; exact rb
        · simp only [upd, if_neg hne] at h
          have h1 := rh a h
          have hna : ¬ a0 = a := fun e => by
            subst e
            rw [getD_some hc0] at h1
            exact hp (hp0.symm.trans h1.2)
          rw [getD_set _ _ _ _ _ ((List.getElem?_eq_some_iff.1 hc0).1), if_neg hna]
          exact rc a a' h h'
        · rw [rd]
          exact (countP_set hc0 (by rw [getD_some hc0]; simp [isP, fin])).symm
/-- A process' events alone are a history, of one call at once. -/
theorem flt_hist {l : List Ev} (p : Int) (he : cErr l = 0) : cErr (flt l p) = 0 ∧ (cls (flt l p)).length = (cls l).countP (isP p) ∧ wid (flt l p) = if (1 : Int) < ((cls l).countP (isP p) : Int) then 1 else ((cls l).countP (isP p) : Int) := by
  obtain ⟨hl, hf⟩ := cErr_0 he
  obtain ⟨hR, hB⟩ := flt_rel l p hf l.length (Nat.le_refl _)
  rw [List.take_length] at hR hB
  have hfl : (flt l p).length ≤ l.length := List.length_filter_le _ _
  have he' : cErr (flt l p) = 0 := cErr_fine (by omega) fun i hi => hB i hi
  refine ⟨he', ?_, ?_⟩
  · rw [cls_fine he', cls_fine he]; exact hR.d
  · rw [wid_fine he', cls_fine he, hR.g, hR.d]
    split <;> split <;> omega
end Go.Proofs.Ytkohdcjeankhkaa
namespace Go.Proofs.Ytkohdcjeankhkaa
open Go.Proofs.Ytkohdcjeankhkaa.K Go.ChangeShapes Go.WideShapes Go.ChangeAt Go.RowKit
set_option maxRecDepth 100000
set_option linter.unusedSimpArgs false
set_option linter.unusedVariables false

theorem cls_pair {w : List R3} {k i : Nat} {c d : Cl} (hc : (gCls w)[k]? = some c) (hd : (gCls w)[i]? = some d) (hki : k < i) (hp : c.p = d.p) : (c.d && decide (c.t < d.f)) = true ∧ (d.d && decide (d.t < c.f)) = false := by
  have h := gInv w
  obtain ⟨h1, h2⟩ := h.se k i c d hc hd hki hp
  refine ⟨by simp [h1, h2], ?_⟩
  cases hd' : d.d with
  | false => rfl
  | true =>
    obtain ⟨j, e1, e2, _⟩ := h.dn i d hd hd'
    obtain ⟨j', f1, f2, _⟩ := h.dn k c hc h1
    simp only [Bool.true_and, decide_eq_false_iff_not]
    omega
/-- whitewash/whitewashlaw20.HistOne -/
def L6 : FnL := ⟨(.seq (.ops [⟨(some 4), .mv (.const (.bool false)), none⟩])
 (.seq (.ops [⟨(some 19), .call (.func 8) [], none⟩, ⟨(some 5), .mv (.tmp 19), none⟩])
 (.seq (.ops [⟨(some 20), .mv (.tmp 0), none⟩, ⟨(some 21), .call (.func 9) [(.tmp 20)], none⟩, ⟨(some 6), .mv (.tmp 21), none⟩])
 (.seq (.ops [⟨(some 23), .mv (.tmp 6), none⟩, ⟨(some 24), .call (.func 11) [(.tmp 23)], none⟩, ⟨(some 22), .mv (.tmp 24), none⟩, ⟨(some 25), .ext (.tmp 22) 0, none⟩, ⟨(some 26), .ext (.tmp 22) 1, none⟩, ⟨(some 7), .mv (.tmp 25), none⟩, ⟨(some 8), .mv (.tmp 26), none⟩])
 (.seq (.seq (.ops [⟨(some 27), .mv (.tmp 8), none⟩, ⟨(some 28), .bin .neq (.tmp 27) (.const (.int .i64 0)), none⟩])
 (.cond (.tmp 28) (.seq (.ops [⟨(some 4), .mv (.const (.bool false)), none⟩])
 .ret)
 .skip))
 (.seq (.seq (.ops [⟨(some 9), .mv (.const (.int .i64 0)), none⟩])
 (.block 0 (.loop (.seq (.seq (.ops [⟨(some 29), .mv (.tmp 9), none⟩, ⟨(some 30), .mv (.tmp 7), none⟩, ⟨(some 31), .len false (.tmp 30), none⟩, ⟨(some 32), .bin .lss (.tmp 29) (.tmp 31), none⟩])
 (.cond (.tmp 32) .skip
 (.exit 0)))
 (.seq (.block 1 (.seq (.ops [⟨(some 10), .mv (.const (.int .i64 0)), none⟩])
 (.block 2 (.loop (.seq (.seq (.ops [⟨(some 35), .mv (.tmp 10), none⟩, ⟨(some 36), .mv (.tmp 9), none⟩, ⟨(some 37), .bin .lss (.tmp 35) (.tmp 36), none⟩])
 (.cond (.tmp 37) .skip
 (.exit 2)))
 (.seq (.block 3 (.seq (.draw [⟨⟨(some 40), .mv (.tmp 7), none⟩, []⟩, ⟨⟨(some 41), .mv (.tmp 10), none⟩, []⟩, ⟨⟨(some 42), .iaddrS 9 (.tmp 40) (.tmp 41), none⟩, []⟩, ⟨⟨(some 43), .faddr 0 (.tmp 42), none⟩, []⟩, ⟨⟨(some 44), .load false 1 (.tmp 43), none⟩, []⟩, ⟨⟨(some 45), .mv (.tmp 7), none⟩, []⟩, ⟨⟨(some 46), .mv (.tmp 9), none⟩, []⟩, ⟨⟨(some 47), .iaddrS 9 (.tmp 45) (.tmp 46), none⟩, []⟩, ⟨⟨(some 48), .faddr 0 (.tmp 47), none⟩, []⟩, ⟨⟨(some 49), .load false 1 (.tmp 48), none⟩, []⟩, ⟨⟨(some 50), .bin .eql (.tmp 44) (.tmp 49), none⟩, []⟩, ⟨⟨(some 51), .mv (.tmp 50), none⟩, []⟩, ⟨⟨(some 52), .mv (.tmp 7), (some (51, true))⟩, []⟩, ⟨⟨(some 53), .mv (.tmp 10), (some (51, true))⟩, []⟩, ⟨⟨(some 54), .iaddrS 9 (.tmp 52) (.tmp 53), (some (51, true))⟩, []⟩, ⟨⟨(some 55), .load true 9 (.tmp 54), (some (51, true))⟩, []⟩, ⟨⟨(some 56), .mv (.tmp 7), (some (51, true))⟩, []⟩, ⟨⟨(some 57), .mv (.tmp 9), (some (51, true))⟩, []⟩, ⟨⟨(some 58), .iaddrS 9 (.tmp 56) (.tmp 57), (some (51, true))⟩, []⟩, ⟨⟨(some 59), .load true 9 (.tmp 58), (some (51, true))⟩, []⟩, ⟨⟨(some 60), .call (.func 21) [(.tmp 55), (.tmp 59)], (some (51, true))⟩, []⟩, ⟨⟨(some 61), .un .not (.tmp 60), (some (51, true))⟩, []⟩, ⟨⟨(some 62), .mv (.tmp 61), (some (51, true))⟩, []⟩, ⟨⟨(some 63), .mv (.tmp 7), (some (62, false))⟩, []⟩, ⟨⟨(some 64), .mv (.tmp 9), (some (62, false))⟩, []⟩, ⟨⟨(some 65), .iaddrS 9 (.tmp 63) (.tmp 64), (some (62, false))⟩, []⟩, ⟨⟨(some 66), .load true 9 (.tmp 65), (some (62, false))⟩, []⟩, ⟨⟨(some 67), .mv (.tmp 7), (some (62, false))⟩, []⟩, ⟨⟨(some 68), .mv (.tmp 10), (some (62, false))⟩, []⟩, ⟨⟨(some 69), .iaddrS 9 (.tmp 67) (.tmp 68), (some (62, false))⟩, []⟩, ⟨⟨(some 70), .load true 9 (.tmp 69), (some (62, false))⟩, []⟩, ⟨⟨(some 71), .call (.func 21) [(.tmp 66), (.tmp 70)], (some (62, false))⟩, []⟩, ⟨⟨(some 72), .pick (.tmp 62) (.const (.bool true)) (.tmp 71), (some (51, true))⟩, []⟩, ⟨⟨(some 73), .pick (.tmp 51) (.tmp 72) (.const (.bool false)), none⟩, []⟩])
 (.cond (.tmp 73) (.seq (.ops [⟨(some 4), .mv (.const (.bool false)), none⟩])
 .ret)
 .skip)))
 (.ops [⟨(some 38), .mv (.tmp 10), none⟩, ⟨(some 39), .bin .add (.tmp 38) (.const (.int .i64 1)), none⟩, ⟨(some 10), .mv (.tmp 39), none⟩])))))))
 (.ops [⟨(some 33), .mv (.tmp 9), none⟩, ⟨(some 34), .bin .add (.tmp 33) (.const (.int .i64 1)), none⟩, ⟨(some 9), .mv (.tmp 34), none⟩]))))))
 (.seq (.ops [⟨(some 74), .mv (.tmp 1), none⟩, ⟨(some 75), .call (.func 10) [(.tmp 74), (.const (.int .i64 5))], none⟩, ⟨(some 11), .mv (.tmp 75), none⟩])
 (.seq (.ops [⟨(some 76), .mv (.tmp 11), none⟩, ⟨(some 77), .mv (.tmp 6), none⟩, ⟨(some 78), .call (.func 17) [(.tmp 76), (.tmp 77)], none⟩, ⟨(some 12), .mv (.tmp 78), none⟩])
 (.seq (.ops [⟨(some 80), .mv (.tmp 12), none⟩, ⟨(some 81), .call (.func 13) [(.tmp 80)], none⟩, ⟨(some 79), .mv (.tmp 81), none⟩, ⟨(some 82), .ext (.tmp 79) 0, none⟩, ⟨(some 83), .ext (.tmp 79) 1, none⟩, ⟨(some 13), .mv (.tmp 82), none⟩, ⟨(some 14), .mv (.tmp 83), none⟩])
 (.seq (.ops [⟨(some 85), .mv (.tmp 12), none⟩, ⟨(some 86), .call (.func 11) [(.tmp 85)], none⟩, ⟨(some 84), .mv (.tmp 86), none⟩, ⟨(some 87), .ext (.tmp 84) 0, none⟩, ⟨(some 88), .ext (.tmp 84) 1, none⟩, ⟨(some 15), .mv (.tmp 87), none⟩, ⟨(some 16), .mv (.tmp 88), none⟩])
 (.seq (.ops [⟨(some 17), .mv (.const (.int .i64 0)), none⟩])
 (.seq (.seq (.ops [⟨(some 18), .mv (.const (.int .i64 0)), none⟩])
 (.block 4 (.loop (.seq (.seq (.ops [⟨(some 89), .mv (.tmp 18), none⟩, ⟨(some 90), .mv (.tmp 7), none⟩, ⟨(some 91), .len false (.tmp 90), none⟩, ⟨(some 92), .bin .lss (.tmp 89) (.tmp 91), none⟩])
 (.cond (.tmp 92) .skip
 (.exit 4)))
 (.seq (.block 5 (.seq (.ops [⟨(some 95), .mv (.tmp 7), none⟩, ⟨(some 96), .mv (.tmp 18), none⟩, ⟨(some 97), .iaddrS 9 (.tmp 95) (.tmp 96), none⟩, ⟨(some 98), .faddr 0 (.tmp 97), none⟩, ⟨(some 99), .load false 1 (.tmp 98), none⟩, ⟨(some 100), .mv (.tmp 11), none⟩, ⟨(some 101), .bin .eql (.tmp 99) (.tmp 100), none⟩])
 (.cond (.tmp 101) (.ops [⟨(some 102), .mv (.tmp 17), none⟩, ⟨(some 103), .bin .add (.tmp 102) (.const (.int .i64 1)), none⟩, ⟨(some 17), .mv (.tmp 103), none⟩])
 .skip)))
 (.ops [⟨(some 93), .mv (.tmp 18), none⟩, ⟨(some 94), .bin .add (.tmp 93) (.const (.int .i64 1)), none⟩, ⟨(some 18), .mv (.tmp 94), none⟩]))))))
 (.seq (.ops [⟨(some 104), .mv (.tmp 5), none⟩, ⟨(some 105), .mv (.tmp 104), none⟩, ⟨(some 106), .mv (.tmp 14), (some (105, true))⟩, ⟨(some 107), .bin .eql (.tmp 106) (.const (.int .i64 0)), (some (105, true))⟩, ⟨(some 108), .pick (.tmp 105) (.tmp 107) (.const (.bool false)), none⟩, ⟨(some 109), .mv (.tmp 108), none⟩, ⟨(some 110), .mv (.tmp 16), (some (109, true))⟩, ⟨(some 111), .bin .eql (.tmp 110) (.const (.int .i64 0)), (some (109, true))⟩, ⟨(some 112), .pick (.tmp 109) (.tmp 111) (.const (.bool false)), none⟩, ⟨(some 113), .mv (.tmp 112), none⟩, ⟨(some 114), .mv (.tmp 13), (some (113, true))⟩, ⟨(some 115), .mv (.tmp 17), (some (113, true))⟩, ⟨(some 116), .mm false [(.tmp 115), (.const (.int .i64 1))], (some (113, true))⟩, ⟨(some 117), .bin .eql (.tmp 114) (.tmp 116), (some (113, true))⟩, ⟨(some 118), .pick (.tmp 113) (.tmp 117) (.const (.bool false)), none⟩, ⟨(some 119), .mv (.tmp 118), none⟩, ⟨(some 120), .mv (.tmp 15), (some (119, true))⟩, ⟨(some 121), .len false (.tmp 120), (some (119, true))⟩, ⟨(some 122), .mv (.tmp 17), (some (119, true))⟩, ⟨(some 123), .bin .eql (.tmp 121) (.tmp 122), (some (119, true))⟩, ⟨(some 124), .pick (.tmp 119) (.tmp 123) (.const (.bool false)), none⟩, ⟨(some 4), .mv (.tmp 124), none⟩])
 .ret))))))))))))),
 125, [.tmp 4]⟩
theorem low6 : lowerFn Try.prog Try.f6 = some L6 := by kernel_rfl
noncomputable def G6 (B : OH) : Nat → Cs
  | 8 => V8 B
  | 9 => V9 B
  | 10 => V10 B
  | 11 => V11 B
  | 13 => V13 B
  | 17 => V17 B
  | 21 => V21 B
  | _ => fun _ _ _ => none
theorem G6_8 {B : OH} : G6 B 8 = V8 B := rfl
theorem G6_9 {B : OH} : G6 B 9 = V9 B := rfl
theorem G6_10 {B : OH} : G6 B 10 = V10 B := rfl
theorem G6_11 {B : OH} : G6 B 11 = V11 B := rfl
theorem G6_13 {B : OH} : G6 B 13 = V13 B := rfl
theorem G6_17 {B : OH} : G6 B 17 = V17 B := rfl
theorem G6_21 {B : OH} : G6 B 21 = V21 B := rfl
theorem sG6 {w0 : World} {B : OH} : SoundG Try.prog w0 B { f := G6 B } := .of fun k => by
  unfold G6
  split
  · exact .inr ⟨en8, sV8⟩
  · exact .inr ⟨en9, sV9⟩
  · exact .inr ⟨en10, sV10⟩
  · exact .inr ⟨en11, sV11⟩
  · exact .inr ⟨en13, sV13⟩
  · exact .inr ⟨en17, sV17⟩
  · exact .inr ⟨en21, sV21⟩
  · exact .inl fun _ _ _ => rfl
theorem en6 : Enter Try.prog 6 := .of Try.func6 (by kernel_rfl) (by kernel_rfl)
noncomputable def T6 (B : OH) : Cs := callF B { f := G6 B } 1300 L6
theorem sT6 {w0 : World} {B : OH} : SoundC Try.prog w0 B 6 (T6 B) := callF_sound mixedOrders sG6 1300 Try.func6 low6
structure K6o (who : Int) (vl vc : Value) (i : Nat) (ts : List Value) : Prop where
  l : ts.length = 125
  t1 : gt ts 1 = .int .i64 who
  t5 : gt ts 5 = .bool true
  t6 : gt ts 6 = vl
  t7 : gt ts 7 = vc
  t9 : gt ts 9 = .int .i64 (i : Int)
structure K6i (who : Int) (vl vc : Value) (i k : Nat) (ts : List Value) : Prop where
  l : ts.length = 125
  t1 : gt ts 1 = .int .i64 who
  t5 : gt ts 5 = .bool true
  t6 : gt ts 6 = vl
  t7 : gt ts 7 = vc
  t9 : gt ts 9 = .int .i64 (i : Int)
  t10 : gt ts 10 = .int .i64 (k : Int)
structure K6m (vc vd : Value) (p wd : Int) (many k : Nat) (ts : List Value) : Prop where
  l : ts.length = 125
  t5 : gt ts 5 = .bool true
  t7 : gt ts 7 = vc
  t11 : gt ts 11 = .int .i64 p
  t13 : gt ts 13 = .int .i64 wd
  t14 : gt ts 14 = .int .i64 0
  t15 : gt ts 15 = vd
  t16 : gt ts 16 = .int .i64 0
  t17 : gt ts 17 = .int .i64 (many : Int)
  t18 : gt ts 18 = .int .i64 (k : Int)
set_option maxHeartbeats 8000000 in
theorem lv6 {B : OH} {v : Value} {w : List R3} {who : Int} (hat : i64R who) (hw : RawR w) (H : HL) (N : St) (hN : good B H N) (hv : SlR r3 3 B H v w) :
    ∃ H' N', T6 B [v, .int .i64 who] H N = some (.ret (.bool true), H', N') := by
  have hB := good_B hN
  have hR := good_rdB hN
  have hI := beqN hN.1.1
  have hG : ∃ H N, good B H N := ⟨H, N, hN⟩
  have hlv := hv.len
  have a8 := f8 hG
  obtain ⟨v9, H9, N9, e9, g9, f9, s9⟩ := raw hN hv hw
  have r9 := s9.rd ev7_len
  obtain ⟨vC, HC, NC, eC, gC, fC, sC⟩ := calls' g9 r9
  rw [g_err] at eC
  rw [g_cls] at sC
  have rC := sC.rd cl9_len
  have rL := r9.mono fC
  have hlC := rC.len
  have hcl := gCls_len w
  simp -implicitDefEqProofs (maxSteps := 10000000) (disch := omega) only [T6, L6, G6_8, V8_eq, G6_9, G6_10, V10_eq, G6_11, G6_13, G6_17, G6_21, V21_eq, hB, hR, hI, lenV_sl, Int.toNat_natCast, bft, btf, gtst, st_len, a8, e9, eC, pad, e_skip, e_ops, e_draw, d_none, d_nil, d_cons, d_ite, h_none, h_nil, h_cons, h_ite, eqS_same, lightV, e_seq, e_cond, e_block, e_exit, e_ret, s_normal, s_ret, s_exit, s_none, s_ite, b_normal, b_ret, b_exit, b_none, b_ite, c_bool, x_none, x_nil, x_cons, x_ite, p_some, p_none, p_ite, pt_some, pt_none, pv_some, pv_none, pv_ite, w_none, w_some, i_bool, i_undef, bt, bf, v_tmp, v_const, v_global, v_func, evs, f_normal, f_ret, f_none, f_ite, r_some, co_some, l_ptr, m_agg, m_one, sh_app, lk_nil, lk_cons, rd_eq, rdO_some, rdO_none, rdN_none, rdL_some, rdL_none, wrB_none, unitR_some, wr_nil, wr_here, wr_skip, k_cells, tk_zero, tk_take, tk_skip, tkC_some, call_func, gt, st, binV, arith, isSh, storeV, all1, idxAV, fieldV, faddrV, iaddrSV, iaddrAV, pickV, convV, unV, eqbV, eqpV, extV, mm2, mmV, nilckV, ress, res1, retV, Value.cells, cond_true, cond_false, Bool.true_or, Bool.false_or, Bool.or_true, Bool.or_false, beq_self_eq_true, if_true, if_false, ite_true, ite_false, decide_true, decide_false, decide_eq_true_eq, reduceIte, Nat.zero_add, Nat.add_zero, and_self, true_and, and_true, List.size_toArray, List.length_cons, List.length_nil, List.append_nil, List.nil_append, Int.toNat_zero, Bool.not_false, Bool.not_true, Bool.not_not, Bool.false_eq_true, Bool.true_eq_false, reduceCtorEq, Int.reduceLT, Int.reduceLE, Int.reduceToNat, Int.reduceAdd, Int.reduceSub, Int.reduceMul, Int.reduceNeg, Nat.reduceMul, Nat.reduceAdd, Nat.reduceSub, Nat.reduceBEq, Nat.reduceEqDiff, Nat.reduceLT, Nat.reduceLeDiff, Int.reduceBEq, Int.reduceEq, Nat.reducePow, Int.reducePow, IntWalk.i64_in, IntKind.bits, eqAV, eqL, leafEq, andO, fillV, buildSV, List.getElem?_toArray, List.getElem?_cons_zero, List.getElem?_cons_succ, List.getElem?_nil, Int.reduceGT, Int.reduceGE, Int.reduceBNe, Bool.true_and, Bool.and_true, Bool.false_and, Bool.and_false, Bool.and_self, IntWalk.u64_in, Int.cast_ofNat_Int, callF1, pad16, pad_0, pad_1, pad_2, pad_3, pad_4, pad_5, pad_6, pad_7, pad_8, pad_9, pad_10, pad_11, pad_12, pad_13, pad_14, pad_15, gc0, gc1, gc2, gc3, gc4, gc5, gc6, gc7, gc8, gc9, gc10, gc11, gc12, gc13, gc14, gc15, gcS, sc0, sc1, sc2, sc3, sc4, sc5, sc6, sc7, sc8, sc9, sc10, sc11, sc12, sc13, sc14, sc15, scS, List.drop_succ_cons, List.drop_nil, x_pan, s_pan, b_pan, pE_ret, pE_pan, pE_none, pE_ite, pvE_some, pvE_none, pvE_ite, rv_some, rv_none, rv_ite, oR_ret, t_mv, t_pick, t_alloc, t_box, t_build, t_buildS, t_load, t_store, t_nilck, t_bin, t_eqb, t_eqA, t_eqp, t_un, t_conv, t_field, t_idxA, t_faddr, t_iaddrS, t_iaddrA, t_ext, t_len, t_mm, t_call, t_ifc, t_fn, t_slc, t_slcA, t_slcT, t_tass, t_isn, t_mks, t_app, t_pan, panE_i, optE_none, optE_some, bnd_none, bnd_int, slA_none, slA_some, appR_some, appOld_cells, newsV_s, newsV_n, lenS_s, appV_nil, appV_some, mksV_i, sh_c, sh_g, f_pan, endD_ret, dfr_normal, dfr_ret, dfr_pan, restD_normal, callD1, callC1, tassV, isnV, slcV, slcAV, slcTV, slcB, appNew, Option.bind_some, Option.bind_none, d_pan, h_pan, wrH_eq, wrX_cells, wrU_some, upH_nil, upH_cons, lk_upH, effR_some, effR_none, effR_ite, Option.isNone_none, Option.isNone_some, slA_zero, call_yield, e_range, it_func, wy_same, y_call, isLp_self, beg_normal, end_normal, end_ret, end_exit, end_ite, aft_ret, aft_ready, aft_done, aft_exit, setP_cons, setP_nil, sh_r, t_mkmap, t_mlook, t_mupd, t_mdel, mapF_some, lookF_some, setM_some, lookR_t, lookR_n, lookR_f, lookR_fn, lookV, mupdV, mdelV, mkM]
  generalize hX : exec B _ _ (LC.loop _) _ = o
  have hO : Ok o (fun x s => x = .exit 0 ∧ s.H = HC ∧ s.N = NC ∧ K6o who v9 vC (gCls w).length s.t) := by
    rw [← hX]
    refine loop_rule (n0 := 100) (fun k s => ∃ ts, ∃ i : Nat, s = ⟨ts, HC, NC⟩ ∧ K6o who v9 vC i ts ∧ i ≤ (gCls w).length ∧ k = (gCls w).length - i) _ ?_ (gCls w).length _ ⟨_, 0, rfl, ⟨rfl, rfl, rfl, rfl, rfl, rfl⟩, by omega, rfl⟩ _ (by omega)
    clear hX
    rintro n k s ⟨ts, i, rfl, kp, hi, rfl⟩
    have hB := good_B gC
    have hR := good_rdB gC
    have hI := beqN gC.1.1
    have hc1 : ((i + 1 : Nat) : Int) = (i : Int) + 1 := by omega
    by_cases hin : i < (gCls w).length
    case neg =>
      obtain rfl : i = (gCls w).length := by omega
      simp -implicitDefEqProofs (maxSteps := 10000000) (disch := omega) only [T6, L6, G6_8, V8_eq, G6_9, G6_10, V10_eq, G6_11, G6_13, G6_17, G6_21, V21_eq, hB, hR, hI, kp.l, kp.t1, kp.t5, kp.t6, kp.t7, kp.t9, lenV_sl, Int.toNat_natCast, bft, btf, gtst, st_len, hlC, Int.lt_irrefl, pad, e_skip, e_ops, e_draw, d_none, d_nil, d_cons, d_ite, h_none, h_nil, h_cons, h_ite, eqS_same, lightV, e_seq, e_cond, e_block, e_exit, e_ret, s_normal, s_ret, s_exit, s_none, s_ite, b_normal, b_ret, b_exit, b_none, b_ite, c_bool, x_none, x_nil, x_cons, x_ite, p_some, p_none, p_ite, pt_some, pt_none, pv_some, pv_none, pv_ite, w_none, w_some, i_bool, i_undef, bt, bf, v_tmp, v_const, v_global, v_func, evs, f_normal, f_ret, f_none, f_ite, r_some, co_some, l_ptr, m_agg, m_one, sh_app, lk_nil, lk_cons, rd_eq, rdO_some, rdO_none, rdN_none, rdL_some, rdL_none, wrB_none, unitR_some, wr_nil, wr_here, wr_skip, k_cells, tk_zero, tk_take, tk_skip, tkC_some, call_func, gt, st, binV, arith, isSh, storeV, all1, idxAV, fieldV, faddrV, iaddrSV, iaddrAV, pickV, convV, unV, eqbV, eqpV, extV, mm2, mmV, nilckV, ress, res1, retV, Value.cells, cond_true, cond_false, Bool.true_or, Bool.false_or, Bool.or_true, Bool.or_false, beq_self_eq_true, if_true, if_false, ite_true, ite_false, decide_true, decide_false, decide_eq_true_eq, reduceIte, Nat.zero_add, Nat.add_zero, and_self, true_and, and_true, List.size_toArray, List.length_cons, List.length_nil, List.append_nil, List.nil_append, Int.toNat_zero, Bool.not_false, Bool.not_true, Bool.not_not, Bool.false_eq_true, Bool.true_eq_false, reduceCtorEq, Int.reduceLT, Int.reduceLE, Int.reduceToNat, Int.reduceAdd, Int.reduceSub, Int.reduceMul, Int.reduceNeg, Nat.reduceMul, Nat.reduceAdd, Nat.reduceSub, Nat.reduceBEq, Nat.reduceEqDiff, Nat.reduceLT, Nat.reduceLeDiff, Int.reduceBEq, Int.reduceEq, Nat.reducePow, Int.reducePow, IntWalk.i64_in, IntKind.bits, eqAV, eqL, leafEq, andO, fillV, buildSV, List.getElem?_toArray, List.getElem?_cons_zero, List.getElem?_cons_succ, List.getElem?_nil, Int.reduceGT, Int.reduceGE, Int.reduceBNe, Bool.true_and, Bool.and_true, Bool.false_and, Bool.and_false, Bool.and_self, IntWalk.u64_in, Int.cast_ofNat_Int, callF1, pad16, pad_0, pad_1, pad_2, pad_3, pad_4, pad_5, pad_6, pad_7, pad_8, pad_9, pad_10, pad_11, pad_12, pad_13, pad_14, pad_15, gc0, gc1, gc2, gc3, gc4, gc5, gc6, gc7, gc8, gc9, gc10, gc11, gc12, gc13, gc14, gc15, gcS, sc0, sc1, sc2, sc3, sc4, sc5, sc6, sc7, sc8, sc9, sc10, sc11, sc12, sc13, sc14, sc15, scS, List.drop_succ_cons, List.drop_nil, x_pan, s_pan, b_pan, pE_ret, pE_pan, pE_none, pE_ite, pvE_some, pvE_none, pvE_ite, rv_some, rv_none, rv_ite, oR_ret, t_mv, t_pick, t_alloc, t_box, t_build, t_buildS, t_load, t_store, t_nilck, t_bin, t_eqb, t_eqA, t_eqp, t_un, t_conv, t_field, t_idxA, t_faddr, t_iaddrS, t_iaddrA, t_ext, t_len, t_mm, t_call, t_ifc, t_fn, t_slc, t_slcA, t_slcT, t_tass, t_isn, t_mks, t_app, t_pan, panE_i, optE_none, optE_some, bnd_none, bnd_int, slA_none, slA_some, appR_some, appOld_cells, newsV_s, newsV_n, lenS_s, appV_nil, appV_some, mksV_i, sh_c, sh_g, f_pan, endD_ret, dfr_normal, dfr_ret, dfr_pan, restD_normal, callD1, callC1, tassV, isnV, slcV, slcAV, slcTV, slcB, appNew, Option.bind_some, Option.bind_none, d_pan, h_pan, wrH_eq, wrX_cells, wrU_some, upH_nil, upH_cons, lk_upH, effR_some, effR_none, effR_ite, Option.isNone_none, Option.isNone_some, slA_zero, call_yield, e_range, it_func, wy_same, y_call, isLp_self, beg_normal, end_normal, end_ret, end_exit, end_ite, aft_ret, aft_ready, aft_done, aft_exit, setP_cons, setP_nil, sh_r, t_mkmap, t_mlook, t_mupd, t_mdel, mapF_some, lookF_some, setM_some, lookR_t, lookR_n, lookR_f, lookR_fn, lookV, mupdV, mdelV, mkM]
      refine ok_some (.inr ⟨by simp, rfl, rfl, rfl, ⟨?_, ?_, ?_, ?_, ?_, ?_⟩⟩)
      all_goals simp -implicitDefEqProofs (maxSteps := 10000000) (disch := omega) only [T6, L6, G6_8, V8_eq, G6_9, G6_10, V10_eq, G6_11, G6_13, G6_17, G6_21, V21_eq, hB, hR, hI, kp.l, kp.t1, kp.t5, kp.t6, kp.t7, kp.t9, lenV_sl, Int.toNat_natCast, bft, btf, gtst, st_len, pad, e_skip, e_ops, e_draw, d_none, d_nil, d_cons, d_ite, h_none, h_nil, h_cons, h_ite, eqS_same, lightV, e_seq, e_cond, e_block, e_exit, e_ret, s_normal, s_ret, s_exit, s_none, s_ite, b_normal, b_ret, b_exit, b_none, b_ite, c_bool, x_none, x_nil, x_cons, x_ite, p_some, p_none, p_ite, pt_some, pt_none, pv_some, pv_none, pv_ite, w_none, w_some, i_bool, i_undef, bt, bf, v_tmp, v_const, v_global, v_func, evs, f_normal, f_ret, f_none, f_ite, r_some, co_some, l_ptr, m_agg, m_one, sh_app, lk_nil, lk_cons, rd_eq, rdO_some, rdO_none, rdN_none, rdL_some, rdL_none, wrB_none, unitR_some, wr_nil, wr_here, wr_skip, k_cells, tk_zero, tk_take, tk_skip, tkC_some, call_func, gt, st, binV, arith, isSh, storeV, all1, idxAV, fieldV, faddrV, iaddrSV, iaddrAV, pickV, convV, unV, eqbV, eqpV, extV, mm2, mmV, nilckV, ress, res1, retV, Value.cells, cond_true, cond_false, Bool.true_or, Bool.false_or, Bool.or_true, Bool.or_false, beq_self_eq_true, if_true, if_false, ite_true, ite_false, decide_true, decide_false, decide_eq_true_eq, reduceIte, Nat.zero_add, Nat.add_zero, and_self, true_and, and_true, List.size_toArray, List.length_cons, List.length_nil, List.append_nil, List.nil_append, Int.toNat_zero, Bool.not_false, Bool.not_true, Bool.not_not, Bool.false_eq_true, Bool.true_eq_false, reduceCtorEq, Int.reduceLT, Int.reduceLE, Int.reduceToNat, Int.reduceAdd, Int.reduceSub, Int.reduceMul, Int.reduceNeg, Nat.reduceMul, Nat.reduceAdd, Nat.reduceSub, Nat.reduceBEq, Nat.reduceEqDiff, Nat.reduceLT, Nat.reduceLeDiff, Int.reduceBEq, Int.reduceEq, Nat.reducePow, Int.reducePow, IntWalk.i64_in, IntKind.bits, eqAV, eqL, leafEq, andO, fillV, buildSV, List.getElem?_toArray, List.getElem?_cons_zero, List.getElem?_cons_succ, List.getElem?_nil, Int.reduceGT, Int.reduceGE, Int.reduceBNe, Bool.true_and, Bool.and_true, Bool.false_and, Bool.and_false, Bool.and_self, IntWalk.u64_in, Int.cast_ofNat_Int, callF1, pad16, pad_0, pad_1, pad_2, pad_3, pad_4, pad_5, pad_6, pad_7, pad_8, pad_9, pad_10, pad_11, pad_12, pad_13, pad_14, pad_15, gc0, gc1, gc2, gc3, gc4, gc5, gc6, gc7, gc8, gc9, gc10, gc11, gc12, gc13, gc14, gc15, gcS, sc0, sc1, sc2, sc3, sc4, sc5, sc6, sc7, sc8, sc9, sc10, sc11, sc12, sc13, sc14, sc15, scS, List.drop_succ_cons, List.drop_nil, x_pan, s_pan, b_pan, pE_ret, pE_pan, pE_none, pE_ite, pvE_some, pvE_none, pvE_ite, rv_some, rv_none, rv_ite, oR_ret, t_mv, t_pick, t_alloc, t_box, t_build, t_buildS, t_load, t_store, t_nilck, t_bin, t_eqb, t_eqA, t_eqp, t_un, t_conv, t_field, t_idxA, t_faddr, t_iaddrS, t_iaddrA, t_ext, t_len, t_mm, t_call, t_ifc, t_fn, t_slc, t_slcA, t_slcT, t_tass, t_isn, t_mks, t_app, t_pan, panE_i, optE_none, optE_some, bnd_none, bnd_int, slA_none, slA_some, appR_some, appOld_cells, newsV_s, newsV_n, lenS_s, appV_nil, appV_some, mksV_i, sh_c, sh_g, f_pan, endD_ret, dfr_normal, dfr_ret, dfr_pan, restD_normal, callD1, callC1, tassV, isnV, slcV, slcAV, slcTV, slcB, appNew, Option.bind_some, Option.bind_none, d_pan, h_pan, wrH_eq, wrX_cells, wrU_some, upH_nil, upH_cons, lk_upH, effR_some, effR_none, effR_ite, Option.isNone_none, Option.isNone_some, slA_zero, call_yield, e_range, it_func, wy_same, y_call, isLp_self, beg_normal, end_normal, end_ret, end_exit, end_ite, aft_ret, aft_ready, aft_done, aft_exit, setP_cons, setP_nil, sh_r, t_mkmap, t_mlook, t_mupd, t_mdel, mapF_some, lookF_some, setM_some, lookR_t, lookR_n, lookR_f, lookR_fn, lookV, mupdV, mdelV, mkM]
    have hin' : (i : Int) < ((gCls w).length : Int) := by omega
    have i0 : (0 : Int) ≤ (i : Int) := by omega
    simp -implicitDefEqProofs (maxSteps := 10000000) (disch := omega) only [T6, L6, G6_8, V8_eq, G6_9, G6_10, V10_eq, G6_11, G6_13, G6_17, G6_21, V21_eq, hB, hR, hI, kp.l, kp.t1, kp.t5, kp.t6, kp.t7, kp.t9, lenV_sl, Int.toNat_natCast, bft, btf, gtst, st_len, hlC, hin', pad, e_skip, e_ops, e_draw, d_none, d_nil, d_cons, d_ite, h_none, h_nil, h_cons, h_ite, eqS_same, lightV, e_seq, e_cond, e_block, e_exit, e_ret, s_normal, s_ret, s_exit, s_none, s_ite, b_normal, b_ret, b_exit, b_none, b_ite, c_bool, x_none, x_nil, x_cons, x_ite, p_some, p_none, p_ite, pt_some, pt_none, pv_some, pv_none, pv_ite, w_none, w_some, i_bool, i_undef, bt, bf, v_tmp, v_const, v_global, v_func, evs, f_normal, f_ret, f_none, f_ite, r_some, co_some, l_ptr, m_agg, m_one, sh_app, lk_nil, lk_cons, rd_eq, rdO_some, rdO_none, rdN_none, rdL_some, rdL_none, wrB_none, unitR_some, wr_nil, wr_here, wr_skip, k_cells, tk_zero, tk_take, tk_skip, tkC_some, call_func, gt, st, binV, arith, isSh, storeV, all1, idxAV, fieldV, faddrV, iaddrSV, iaddrAV, pickV, convV, unV, eqbV, eqpV, extV, mm2, mmV, nilckV, ress, res1, retV, Value.cells, cond_true, cond_false, Bool.true_or, Bool.false_or, Bool.or_true, Bool.or_false, beq_self_eq_true, if_true, if_false, ite_true, ite_false, decide_true, decide_false, decide_eq_true_eq, reduceIte, Nat.zero_add, Nat.add_zero, and_self, true_and, and_true, List.size_toArray, List.length_cons, List.length_nil, List.append_nil, List.nil_append, Int.toNat_zero, Bool.not_false, Bool.not_true, Bool.not_not, Bool.false_eq_true, Bool.true_eq_false, reduceCtorEq, Int.reduceLT, Int.reduceLE, Int.reduceToNat, Int.reduceAdd, Int.reduceSub, Int.reduceMul, Int.reduceNeg, Nat.reduceMul, Nat.reduceAdd, Nat.reduceSub, Nat.reduceBEq, Nat.reduceEqDiff, Nat.reduceLT, Nat.reduceLeDiff, Int.reduceBEq, Int.reduceEq, Nat.reducePow, Int.reducePow, IntWalk.i64_in, IntKind.bits, eqAV, eqL, leafEq, andO, fillV, buildSV, List.getElem?_toArray, List.getElem?_cons_zero, List.getElem?_cons_succ, List.getElem?_nil, Int.reduceGT, Int.reduceGE, Int.reduceBNe, Bool.true_and, Bool.and_true, Bool.false_and, Bool.and_false, Bool.and_self, IntWalk.u64_in, Int.cast_ofNat_Int, callF1, pad16, pad_0, pad_1, pad_2, pad_3, pad_4, pad_5, pad_6, pad_7, pad_8, pad_9, pad_10, pad_11, pad_12, pad_13, pad_14, pad_15, gc0, gc1, gc2, gc3, gc4, gc5, gc6, gc7, gc8, gc9, gc10, gc11, gc12, gc13, gc14, gc15, gcS, sc0, sc1, sc2, sc3, sc4, sc5, sc6, sc7, sc8, sc9, sc10, sc11, sc12, sc13, sc14, sc15, scS, List.drop_succ_cons, List.drop_nil, x_pan, s_pan, b_pan, pE_ret, pE_pan, pE_none, pE_ite, pvE_some, pvE_none, pvE_ite, rv_some, rv_none, rv_ite, oR_ret, t_mv, t_pick, t_alloc, t_box, t_build, t_buildS, t_load, t_store, t_nilck, t_bin, t_eqb, t_eqA, t_eqp, t_un, t_conv, t_field, t_idxA, t_faddr, t_iaddrS, t_iaddrA, t_ext, t_len, t_mm, t_call, t_ifc, t_fn, t_slc, t_slcA, t_slcT, t_tass, t_isn, t_mks, t_app, t_pan, panE_i, optE_none, optE_some, bnd_none, bnd_int, slA_none, slA_some, appR_some, appOld_cells, newsV_s, newsV_n, lenS_s, appV_nil, appV_some, mksV_i, sh_c, sh_g, f_pan, endD_ret, dfr_normal, dfr_ret, dfr_pan, restD_normal, callD1, callC1, tassV, isnV, slcV, slcAV, slcTV, slcB, appNew, Option.bind_some, Option.bind_none, d_pan, h_pan, wrH_eq, wrX_cells, wrU_some, upH_nil, upH_cons, lk_upH, effR_some, effR_none, effR_ite, Option.isNone_none, Option.isNone_some, slA_zero, call_yield, e_range, it_func, wy_same, y_call, isLp_self, beg_normal, end_normal, end_ret, end_exit, end_ite, aft_ret, aft_ready, aft_done, aft_exit, setP_cons, setP_nil, sh_r, t_mkmap, t_mlook, t_mupd, t_mdel, mapF_some, lookF_some, setM_some, lookR_t, lookR_n, lookR_f, lookR_fn, lookV, mupdV, mdelV, mkM]
    generalize hX : exec B _ _ (LC.loop _) _ = o
    have hO : Ok o (fun x s => x = .exit 2 ∧ s.H = HC ∧ s.N = NC ∧ K6i who v9 vC i i s.t) := by
      rw [← hX]
      refine loop_rule (n0 := 60) (fun q s => ∃ ts, ∃ k : Nat, s = ⟨ts, HC, NC⟩ ∧ K6i who v9 vC i k ts ∧ k ≤ i ∧ q = i - k) _ ?_ i _ ⟨_, 0, rfl, ⟨?_, ?_, ?_, ?_, ?_, ?_, ?_⟩, by omega, rfl⟩ _ (by omega)
      rotate_left
      iterate 7 simp -implicitDefEqProofs (maxSteps := 10000000) (disch := omega) only [T6, L6, G6_8, V8_eq, G6_9, G6_10, V10_eq, G6_11, G6_13, G6_17, G6_21, V21_eq, hB, hR, hI, kp.l, kp.t1, kp.t5, kp.t6, kp.t7, kp.t9, lenV_sl, Int.toNat_natCast, bft, btf, gtst, st_len, pad, e_skip, e_ops, e_draw, d_none, d_nil, d_cons, d_ite, h_none, h_nil, h_cons, h_ite, eqS_same, lightV, e_seq, e_cond, e_block, e_exit, e_ret, s_normal, s_ret, s_exit, s_none, s_ite, b_normal, b_ret, b_exit, b_none, b_ite, c_bool, x_none, x_nil, x_cons, x_ite, p_some, p_none, p_ite, pt_some, pt_none, pv_some, pv_none, pv_ite, w_none, w_some, i_bool, i_undef, bt, bf, v_tmp, v_const, v_global, v_func, evs, f_normal, f_ret, f_none, f_ite, r_some, co_some, l_ptr, m_agg, m_one, sh_app, lk_nil, lk_cons, rd_eq, rdO_some, rdO_none, rdN_none, rdL_some, rdL_none, wrB_none, unitR_some, wr_nil, wr_here, wr_skip, k_cells, tk_zero, tk_take, tk_skip, tkC_some, call_func, gt, st, binV, arith, isSh, storeV, all1, idxAV, fieldV, faddrV, iaddrSV, iaddrAV, pickV, convV, unV, eqbV, eqpV, extV, mm2, mmV, nilckV, ress, res1, retV, Value.cells, cond_true, cond_false, Bool.true_or, Bool.false_or, Bool.or_true, Bool.or_false, beq_self_eq_true, if_true, if_false, ite_true, ite_false, decide_true, decide_false, decide_eq_true_eq, reduceIte, Nat.zero_add, Nat.add_zero, and_self, true_and, and_true, List.size_toArray, List.length_cons, List.length_nil, List.append_nil, List.nil_append, Int.toNat_zero, Bool.not_false, Bool.not_true, Bool.not_not, Bool.false_eq_true, Bool.true_eq_false, reduceCtorEq, Int.reduceLT, Int.reduceLE, Int.reduceToNat, Int.reduceAdd, Int.reduceSub, Int.reduceMul, Int.reduceNeg, Nat.reduceMul, Nat.reduceAdd, Nat.reduceSub, Nat.reduceBEq, Nat.reduceEqDiff, Nat.reduceLT, Nat.reduceLeDiff, Int.reduceBEq, Int.reduceEq, Nat.reducePow, Int.reducePow, IntWalk.i64_in, IntKind.bits, eqAV, eqL, leafEq, andO, fillV, buildSV, List.getElem?_toArray, List.getElem?_cons_zero, List.getElem?_cons_succ, List.getElem?_nil, Int.reduceGT, Int.reduceGE, Int.reduceBNe, Bool.true_and, Bool.and_true, Bool.false_and, Bool.and_false, Bool.and_self, IntWalk.u64_in, Int.cast_ofNat_Int, callF1, pad16, pad_0, pad_1, pad_2, pad_3, pad_4, pad_5, pad_6, pad_7, pad_8, pad_9, pad_10, pad_11, pad_12, pad_13, pad_14, pad_15, gc0, gc1, gc2, gc3, gc4, gc5, gc6, gc7, gc8, gc9, gc10, gc11, gc12, gc13, gc14, gc15, gcS, sc0, sc1, sc2, sc3, sc4, sc5, sc6, sc7, sc8, sc9, sc10, sc11, sc12, sc13, sc14, sc15, scS, List.drop_succ_cons, List.drop_nil, x_pan, s_pan, b_pan, pE_ret, pE_pan, pE_none, pE_ite, pvE_some, pvE_none, pvE_ite, rv_some, rv_none, rv_ite, oR_ret, t_mv, t_pick, t_alloc, t_box, t_build, t_buildS, t_load, t_store, t_nilck, t_bin, t_eqb, t_eqA, t_eqp, t_un, t_conv, t_field, t_idxA, t_faddr, t_iaddrS, t_iaddrA, t_ext, t_len, t_mm, t_call, t_ifc, t_fn, t_slc, t_slcA, t_slcT, t_tass, t_isn, t_mks, t_app, t_pan, panE_i, optE_none, optE_some, bnd_none, bnd_int, slA_none, slA_some, appR_some, appOld_cells, newsV_s, newsV_n, lenS_s, appV_nil, appV_some, mksV_i, sh_c, sh_g, f_pan, endD_ret, dfr_normal, dfr_ret, dfr_pan, restD_normal, callD1, callC1, tassV, isnV, slcV, slcAV, slcTV, slcB, appNew, Option.bind_some, Option.bind_none, d_pan, h_pan, wrH_eq, wrX_cells, wrU_some, upH_nil, upH_cons, lk_upH, effR_some, effR_none, effR_ite, Option.isNone_none, Option.isNone_some, slA_zero, call_yield, e_range, it_func, wy_same, y_call, isLp_self, beg_normal, end_normal, end_ret, end_exit, end_ite, aft_ret, aft_ready, aft_done, aft_exit, setP_cons, setP_nil, sh_r, t_mkmap, t_mlook, t_mupd, t_mdel, mapF_some, lookF_some, setM_some, lookR_t, lookR_n, lookR_f, lookR_fn, lookV, mupdV, mdelV, mkM]
      clear hX kp ts
      rintro n q s ⟨ts, k, rfl, kp, hk, rfl⟩
      have hc2 : ((k + 1 : Nat) : Int) = (k : Int) + 1 := by omega
      by_cases hkn : k < i
      case neg =>
        obtain rfl : k = i := by omega
        simp -implicitDefEqProofs (maxSteps := 10000000) (disch := omega) only [T6, L6, G6_8, V8_eq, G6_9, G6_10, V10_eq, G6_11, G6_13, G6_17, G6_21, V21_eq, hB, hR, hI, kp.l, kp.t1, kp.t5, kp.t6, kp.t7, kp.t9, kp.t10, lenV_sl, Int.toNat_natCast, bft, btf, gtst, st_len, Int.lt_irrefl, pad, e_skip, e_ops, e_draw, d_none, d_nil, d_cons, d_ite, h_none, h_nil, h_cons, h_ite, eqS_same, lightV, e_seq, e_cond, e_block, e_exit, e_ret, s_normal, s_ret, s_exit, s_none, s_ite, b_normal, b_ret, b_exit, b_none, b_ite, c_bool, x_none, x_nil, x_cons, x_ite, p_some, p_none, p_ite, pt_some, pt_none, pv_some, pv_none, pv_ite, w_none, w_some, i_bool, i_undef, bt, bf, v_tmp, v_const, v_global, v_func, evs, f_normal, f_ret, f_none, f_ite, r_some, co_some, l_ptr, m_agg, m_one, sh_app, lk_nil, lk_cons, rd_eq, rdO_some, rdO_none, rdN_none, rdL_some, rdL_none, wrB_none, unitR_some, wr_nil, wr_here, wr_skip, k_cells, tk_zero, tk_take, tk_skip, tkC_some, call_func, gt, st, binV, arith, isSh, storeV, all1, idxAV, fieldV, faddrV, iaddrSV, iaddrAV, pickV, convV, unV, eqbV, eqpV, extV, mm2, mmV, nilckV, ress, res1, retV, Value.cells, cond_true, cond_false, Bool.true_or, Bool.false_or, Bool.or_true, Bool.or_false, beq_self_eq_true, if_true, if_false, ite_true, ite_false, decide_true, decide_false, decide_eq_true_eq, reduceIte, Nat.zero_add, Nat.add_zero, and_self, true_and, and_true, List.size_toArray, List.length_cons, List.length_nil, List.append_nil, List.nil_append, Int.toNat_zero, Bool.not_false, Bool.not_true, Bool.not_not, Bool.false_eq_true, Bool.true_eq_false, reduceCtorEq, Int.reduceLT, Int.reduceLE, Int.reduceToNat, Int.reduceAdd, Int.reduceSub, Int.reduceMul, Int.reduceNeg, Nat.reduceMul, Nat.reduceAdd, Nat.reduceSub, Nat.reduceBEq, Nat.reduceEqDiff, Nat.reduceLT, Nat.reduceLeDiff, Int.reduceBEq, Int.reduceEq, Nat.reducePow, Int.reducePow, IntWalk.i64_in, IntKind.bits, eqAV, eqL, leafEq, andO, fillV, buildSV, List.getElem?_toArray, List.getElem?_cons_zero, List.getElem?_cons_succ, List.getElem?_nil, Int.reduceGT, Int.reduceGE, Int.reduceBNe, Bool.true_and, Bool.and_true, Bool.false_and, Bool.and_false, Bool.and_self, IntWalk.u64_in, Int.cast_ofNat_Int, callF1, pad16, pad_0, pad_1, pad_2, pad_3, pad_4, pad_5, pad_6, pad_7, pad_8, pad_9, pad_10, pad_11, pad_12, pad_13, pad_14, pad_15, gc0, gc1, gc2, gc3, gc4, gc5, gc6, gc7, gc8, gc9, gc10, gc11, gc12, gc13, gc14, gc15, gcS, sc0, sc1, sc2, sc3, sc4, sc5, sc6, sc7, sc8, sc9, sc10, sc11, sc12, sc13, sc14, sc15, scS, List.drop_succ_cons, List.drop_nil, x_pan, s_pan, b_pan, pE_ret, pE_pan, pE_none, pE_ite, pvE_some, pvE_none, pvE_ite, rv_some, rv_none, rv_ite, oR_ret, t_mv, t_pick, t_alloc, t_box, t_build, t_buildS, t_load, t_store, t_nilck, t_bin, t_eqb, t_eqA, t_eqp, t_un, t_conv, t_field, t_idxA, t_faddr, t_iaddrS, t_iaddrA, t_ext, t_len, t_mm, t_call, t_ifc, t_fn, t_slc, t_slcA, t_slcT, t_tass, t_isn, t_mks, t_app, t_pan, panE_i, optE_none, optE_some, bnd_none, bnd_int, slA_none, slA_some, appR_some, appOld_cells, newsV_s, newsV_n, lenS_s, appV_nil, appV_some, mksV_i, sh_c, sh_g, f_pan, endD_ret, dfr_normal, dfr_ret, dfr_pan, restD_normal, callD1, callC1, tassV, isnV, slcV, slcAV, slcTV, slcB, appNew, Option.bind_some, Option.bind_none, d_pan, h_pan, wrH_eq, wrX_cells, wrU_some, upH_nil, upH_cons, lk_upH, effR_some, effR_none, effR_ite, Option.isNone_none, Option.isNone_some, slA_zero, call_yield, e_range, it_func, wy_same, y_call, isLp_self, beg_normal, end_normal, end_ret, end_exit, end_ite, aft_ret, aft_ready, aft_done, aft_exit, setP_cons, setP_nil, sh_r, t_mkmap, t_mlook, t_mupd, t_mdel, mapF_some, lookF_some, setM_some, lookR_t, lookR_n, lookR_f, lookR_fn, lookV, mupdV, mdelV, mkM]
        refine ok_some (.inr ⟨by simp, rfl, rfl, rfl, ⟨?_, ?_, ?_, ?_, ?_, ?_, ?_⟩⟩)
        all_goals simp -implicitDefEqProofs (maxSteps := 10000000) (disch := omega) only [T6, L6, G6_8, V8_eq, G6_9, G6_10, V10_eq, G6_11, G6_13, G6_17, G6_21, V21_eq, hB, hR, hI, kp.l, kp.t1, kp.t5, kp.t6, kp.t7, kp.t9, kp.t10, lenV_sl, Int.toNat_natCast, bft, btf, gtst, st_len, pad, e_skip, e_ops, e_draw, d_none, d_nil, d_cons, d_ite, h_none, h_nil, h_cons, h_ite, eqS_same, lightV, e_seq, e_cond, e_block, e_exit, e_ret, s_normal, s_ret, s_exit, s_none, s_ite, b_normal, b_ret, b_exit, b_none, b_ite, c_bool, x_none, x_nil, x_cons, x_ite, p_some, p_none, p_ite, pt_some, pt_none, pv_some, pv_none, pv_ite, w_none, w_some, i_bool, i_undef, bt, bf, v_tmp, v_const, v_global, v_func, evs, f_normal, f_ret, f_none, f_ite, r_some, co_some, l_ptr, m_agg, m_one, sh_app, lk_nil, lk_cons, rd_eq, rdO_some, rdO_none, rdN_none, rdL_some, rdL_none, wrB_none, unitR_some, wr_nil, wr_here, wr_skip, k_cells, tk_zero, tk_take, tk_skip, tkC_some, call_func, gt, st, binV, arith, isSh, storeV, all1, idxAV, fieldV, faddrV, iaddrSV, iaddrAV, pickV, convV, unV, eqbV, eqpV, extV, mm2, mmV, nilckV, ress, res1, retV, Value.cells, cond_true, cond_false, Bool.true_or, Bool.false_or, Bool.or_true, Bool.or_false, beq_self_eq_true, if_true, if_false, ite_true, ite_false, decide_true, decide_false, decide_eq_true_eq, reduceIte, Nat.zero_add, Nat.add_zero, and_self, true_and, and_true, List.size_toArray, List.length_cons, List.length_nil, List.append_nil, List.nil_append, Int.toNat_zero, Bool.not_false, Bool.not_true, Bool.not_not, Bool.false_eq_true, Bool.true_eq_false, reduceCtorEq, Int.reduceLT, Int.reduceLE, Int.reduceToNat, Int.reduceAdd, Int.reduceSub, Int.reduceMul, Int.reduceNeg, Nat.reduceMul, Nat.reduceAdd, Nat.reduceSub, Nat.reduceBEq, Nat.reduceEqDiff, Nat.reduceLT, Nat.reduceLeDiff, Int.reduceBEq, Int.reduceEq, Nat.reducePow, Int.reducePow, IntWalk.i64_in, IntKind.bits, eqAV, eqL, leafEq, andO, fillV, buildSV, List.getElem?_toArray, List.getElem?_cons_zero, List.getElem?_cons_succ, List.getElem?_nil, Int.reduceGT, Int.reduceGE, Int.reduceBNe, Bool.true_and, Bool.and_true, Bool.false_and, Bool.and_false, Bool.and_self, IntWalk.u64_in, Int.cast_ofNat_Int, callF1, pad16, pad_0, pad_1, pad_2, pad_3, pad_4, pad_5, pad_6, pad_7, pad_8, pad_9, pad_10, pad_11, pad_12, pad_13, pad_14, pad_15, gc0, gc1, gc2, gc3, gc4, gc5, gc6, gc7, gc8, gc9, gc10, gc11, gc12, gc13, gc14, gc15, gcS, sc0, sc1, sc2, sc3, sc4, sc5, sc6, sc7, sc8, sc9, sc10, sc11, sc12, sc13, sc14, sc15, scS, List.drop_succ_cons, List.drop_nil, x_pan, s_pan, b_pan, pE_ret, pE_pan, pE_none, pE_ite, pvE_some, pvE_none, pvE_ite, rv_some, rv_none, rv_ite, oR_ret, t_mv, t_pick, t_alloc, t_box, t_build, t_buildS, t_load, t_store, t_nilck, t_bin, t_eqb, t_eqA, t_eqp, t_un, t_conv, t_field, t_idxA, t_faddr, t_iaddrS, t_iaddrA, t_ext, t_len, t_mm, t_call, t_ifc, t_fn, t_slc, t_slcA, t_slcT, t_tass, t_isn, t_mks, t_app, t_pan, panE_i, optE_none, optE_some, bnd_none, bnd_int, slA_none, slA_some, appR_some, appOld_cells, newsV_s, newsV_n, lenS_s, appV_nil, appV_some, mksV_i, sh_c, sh_g, f_pan, endD_ret, dfr_normal, dfr_ret, dfr_pan, restD_normal, callD1, callC1, tassV, isnV, slcV, slcAV, slcTV, slcB, appNew, Option.bind_some, Option.bind_none, d_pan, h_pan, wrH_eq, wrX_cells, wrU_some, upH_nil, upH_cons, lk_upH, effR_some, effR_none, effR_ite, Option.isNone_none, Option.isNone_some, slA_zero, call_yield, e_range, it_func, wy_same, y_call, isLp_self, beg_normal, end_normal, end_ret, end_exit, end_ite, aft_ret, aft_ready, aft_done, aft_exit, setP_cons, setP_nil, sh_r, t_mkmap, t_mlook, t_mupd, t_mdel, mapF_some, lookF_some, setM_some, lookR_t, lookR_n, lookR_f, lookR_fn, lookV, mupdV, mdelV, mkM]
      have hkn' : (k : Int) < (i : Int) := by omega
      have hkl : k < (gCls w).length := by omega
      have k0 : (0 : Int) ≤ (k : Int) := by omega
      obtain ⟨bv, ov, cv, rfl, _, rv⟩ := rC.at (by omega)
      have q0 : rdO HC B bv (ov + k * 9) 1 (rdB B bv (ov + k * 9) 1) = some [.int .i64 ((gCls w).getD k z0).p] := (rv HC Fr.refl k 0 1 z0 hkl (by omega)).trans rfl
      have q1 : rdO HC B bv (ov + i * 9) 1 (rdB B bv (ov + i * 9) 1) = some [.int .i64 ((gCls w).getD i z0).p] := (rv HC Fr.refl i 0 1 z0 hin (by omega)).trans rfl
      have q2 : rdO HC B bv (ov + k * 9) 9 (rdB B bv (ov + k * 9) 9) = some (cl9 ((gCls w).getD k z0)) := (rv HC Fr.refl k 0 9 z0 hkl (by omega)).trans rfl
      have q3 : rdO HC B bv (ov + i * 9) 9 (rdB B bv (ov + i * 9) 9) = some (cl9 ((gCls w).getD i z0)) := (rv HC Fr.refl i 0 9 z0 hin (by omega)).trans rfl
      have hpair := cls_pair (w := w) (some_getD (d := z0) hkl) (some_getD (d := z0) hin) hkn
      have A1 := f21 hG ((gCls w).getD k z0) ((gCls w).getD i z0)
      have A2 := f21 hG ((gCls w).getD i z0) ((gCls w).getD k z0)
      generalize (gCls w).getD k z0 = c at q0 q2 hpair A1 A2
      generalize (gCls w).getD i z0 = d at q1 q3 hpair A1 A2
      simp only [cl9] at q2 q3
      by_cases hp : c.p = d.p
      · obtain ⟨h1, h2⟩ := hpair hp
        rw [h1] at A1
        rw [h2] at A2
        have hpb : (c.p == d.p) = true := by simpa using hp
        simp -implicitDefEqProofs (maxSteps := 10000000) (disch := omega) only [T6, L6, G6_8, V8_eq, G6_9, G6_10, V10_eq, G6_11, G6_13, G6_17, G6_21, V21_eq, hB, hR, hI, kp.l, kp.t1, kp.t5, kp.t6, kp.t7, kp.t9, kp.t10, lenV_sl, Int.toNat_natCast, bft, btf, gtst, st_len, hkn', hkn, hkl, hin, k0, i0, q0, q1, q2, q3, hpb, A1, A2, pad, e_skip, e_ops, e_draw, d_none, d_nil, d_cons, d_ite, h_none, h_nil, h_cons, h_ite, eqS_same, lightV, e_seq, e_cond, e_block, e_exit, e_ret, s_normal, s_ret, s_exit, s_none, s_ite, b_normal, b_ret, b_exit, b_none, b_ite, c_bool, x_none, x_nil, x_cons, x_ite, p_some, p_none, p_ite, pt_some, pt_none, pv_some, pv_none, pv_ite, w_none, w_some, i_bool, i_undef, bt, bf, v_tmp, v_const, v_global, v_func, evs, f_normal, f_ret, f_none, f_ite, r_some, co_some, l_ptr, m_agg, m_one, sh_app, lk_nil, lk_cons, rd_eq, rdO_some, rdO_none, rdN_none, rdL_some, rdL_none, wrB_none, unitR_some, wr_nil, wr_here, wr_skip, k_cells, tk_zero, tk_take, tk_skip, tkC_some, call_func, gt, st, binV, arith, isSh, storeV, all1, idxAV, fieldV, faddrV, iaddrSV, iaddrAV, pickV, convV, unV, eqbV, eqpV, extV, mm2, mmV, nilckV, ress, res1, retV, Value.cells, cond_true, cond_false, Bool.true_or, Bool.false_or, Bool.or_true, Bool.or_false, beq_self_eq_true, if_true, if_false, ite_true, ite_false, decide_true, decide_false, decide_eq_true_eq, reduceIte, Nat.zero_add, Nat.add_zero, and_self, true_and, and_true, List.size_toArray, List.length_cons, List.length_nil, List.append_nil, List.nil_append, Int.toNat_zero, Bool.not_false, Bool.not_true, Bool.not_not, Bool.false_eq_true, Bool.true_eq_false, reduceCtorEq, Int.reduceLT, Int.reduceLE, Int.reduceToNat, Int.reduceAdd, Int.reduceSub, Int.reduceMul, Int.reduceNeg, Nat.reduceMul, Nat.reduceAdd, Nat.reduceSub, Nat.reduceBEq, Nat.reduceEqDiff, Nat.reduceLT, Nat.reduceLeDiff, Int.reduceBEq, Int.reduceEq, Nat.reducePow, Int.reducePow, IntWalk.i64_in, IntKind.bits, eqAV, eqL, leafEq, andO, fillV, buildSV, List.getElem?_toArray, List.getElem?_cons_zero, List.getElem?_cons_succ, List.getElem?_nil, Int.reduceGT, Int.reduceGE, Int.reduceBNe, Bool.true_and, Bool.and_true, Bool.false_and, Bool.and_false, Bool.and_self, IntWalk.u64_in, Int.cast_ofNat_Int, callF1, pad16, pad_0, pad_1, pad_2, pad_3, pad_4, pad_5, pad_6, pad_7, pad_8, pad_9, pad_10, pad_11, pad_12, pad_13, pad_14, pad_15, gc0, gc1, gc2, gc3, gc4, gc5, gc6, gc7, gc8, gc9, gc10, gc11, gc12, gc13, gc14, gc15, gcS, sc0, sc1, sc2, sc3, sc4, sc5, sc6, sc7, sc8, sc9, sc10, sc11, sc12, sc13, sc14, sc15, scS, List.drop_succ_cons, List.drop_nil, x_pan, s_pan, b_pan, pE_ret, pE_pan, pE_none, pE_ite, pvE_some, pvE_none, pvE_ite, rv_some, rv_none, rv_ite, oR_ret, t_mv, t_pick, t_alloc, t_box, t_build, t_buildS, t_load, t_store, t_nilck, t_bin, t_eqb, t_eqA, t_eqp, t_un, t_conv, t_field, t_idxA, t_faddr, t_iaddrS, t_iaddrA, t_ext, t_len, t_mm, t_call, t_ifc, t_fn, t_slc, t_slcA, t_slcT, t_tass, t_isn, t_mks, t_app, t_pan, panE_i, optE_none, optE_some, bnd_none, bnd_int, slA_none, slA_some, appR_some, appOld_cells, newsV_s, newsV_n, lenS_s, appV_nil, appV_some, mksV_i, sh_c, sh_g, f_pan, endD_ret, dfr_normal, dfr_ret, dfr_pan, restD_normal, callD1, callC1, tassV, isnV, slcV, slcAV, slcTV, slcB, appNew, Option.bind_some, Option.bind_none, d_pan, h_pan, wrH_eq, wrX_cells, wrU_some, upH_nil, upH_cons, lk_upH, effR_some, effR_none, effR_ite, Option.isNone_none, Option.isNone_some, slA_zero, call_yield, e_range, it_func, wy_same, y_call, isLp_self, beg_normal, end_normal, end_ret, end_exit, end_ite, aft_ret, aft_ready, aft_done, aft_exit, setP_cons, setP_nil, sh_r, t_mkmap, t_mlook, t_mupd, t_mdel, mapF_some, lookF_some, setM_some, lookR_t, lookR_n, lookR_f, lookR_fn, lookV, mupdV, mdelV, mkM]
        refine ok_some (.inl ⟨rfl, i - (k + 1), by omega, _, k + 1, rfl, ⟨?_, ?_, ?_, ?_, ?_, ?_, ?_⟩, by omega, rfl⟩)
        all_goals simp -implicitDefEqProofs (maxSteps := 10000000) (disch := omega) only [T6, L6, G6_8, V8_eq, G6_9, G6_10, V10_eq, G6_11, G6_13, G6_17, G6_21, V21_eq, hB, hR, hI, kp.l, kp.t1, kp.t5, kp.t6, kp.t7, kp.t9, kp.t10, lenV_sl, Int.toNat_natCast, bft, btf, gtst, st_len, hc2, pad, e_skip, e_ops, e_draw, d_none, d_nil, d_cons, d_ite, h_none, h_nil, h_cons, h_ite, eqS_same, lightV, e_seq, e_cond, e_block, e_exit, e_ret, s_normal, s_ret, s_exit, s_none, s_ite, b_normal, b_ret, b_exit, b_none, b_ite, c_bool, x_none, x_nil, x_cons, x_ite, p_some, p_none, p_ite, pt_some, pt_none, pv_some, pv_none, pv_ite, w_none, w_some, i_bool, i_undef, bt, bf, v_tmp, v_const, v_global, v_func, evs, f_normal, f_ret, f_none, f_ite, r_some, co_some, l_ptr, m_agg, m_one, sh_app, lk_nil, lk_cons, rd_eq, rdO_some, rdO_none, rdN_none, rdL_some, rdL_none, wrB_none, unitR_some, wr_nil, wr_here, wr_skip, k_cells, tk_zero, tk_take, tk_skip, tkC_some, call_func, gt, st, binV, arith, isSh, storeV, all1, idxAV, fieldV, faddrV, iaddrSV, iaddrAV, pickV, convV, unV, eqbV, eqpV, extV, mm2, mmV, nilckV, ress, res1, retV, Value.cells, cond_true, cond_false, Bool.true_or, Bool.false_or, Bool.or_true, Bool.or_false, beq_self_eq_true, if_true, if_false, ite_true, ite_false, decide_true, decide_false, decide_eq_true_eq, reduceIte, Nat.zero_add, Nat.add_zero, and_self, true_and, and_true, List.size_toArray, List.length_cons, List.length_nil, List.append_nil, List.nil_append, Int.toNat_zero, Bool.not_false, Bool.not_true, Bool.not_not, Bool.false_eq_true, Bool.true_eq_false, reduceCtorEq, Int.reduceLT, Int.reduceLE, Int.reduceToNat, Int.reduceAdd, Int.reduceSub, Int.reduceMul, Int.reduceNeg, Nat.reduceMul, Nat.reduceAdd, Nat.reduceSub, Nat.reduceBEq, Nat.reduceEqDiff, Nat.reduceLT, Nat.reduceLeDiff, Int.reduceBEq, Int.reduceEq, Nat.reducePow, Int.reducePow, IntWalk.i64_in, IntKind.bits, eqAV, eqL, leafEq, andO, fillV, buildSV, List.getElem?_toArray, List.getElem?_cons_zero, List.getElem?_cons_succ, List.getElem?_nil, Int.reduceGT, Int.reduceGE, Int.reduceBNe, Bool.true_and, Bool.and_true, Bool.false_and, Bool.and_false, Bool.and_self, IntWalk.u64_in, Int.cast_ofNat_Int, callF1, pad16, pad_0, pad_1, pad_2, pad_3, pad_4, pad_5, pad_6, pad_7, pad_8, pad_9, pad_10, pad_11, pad_12, pad_13, pad_14, pad_15, gc0, gc1, gc2, gc3, gc4, gc5, gc6, gc7, gc8, gc9, gc10, gc11, gc12, gc13, gc14, gc15, gcS, sc0, sc1, sc2, sc3, sc4, sc5, sc6, sc7, sc8, sc9, sc10, sc11, sc12, sc13, sc14, sc15, scS, List.drop_succ_cons, List.drop_nil, x_pan, s_pan, b_pan, pE_ret, pE_pan, pE_none, pE_ite, pvE_some, pvE_none, pvE_ite, rv_some, rv_none, rv_ite, oR_ret, t_mv, t_pick, t_alloc, t_box, t_build, t_buildS, t_load, t_store, t_nilck, t_bin, t_eqb, t_eqA, t_eqp, t_un, t_conv, t_field, t_idxA, t_faddr, t_iaddrS, t_iaddrA, t_ext, t_len, t_mm, t_call, t_ifc, t_fn, t_slc, t_slcA, t_slcT, t_tass, t_isn, t_mks, t_app, t_pan, panE_i, optE_none, optE_some, bnd_none, bnd_int, slA_none, slA_some, appR_some, appOld_cells, newsV_s, newsV_n, lenS_s, appV_nil, appV_some, mksV_i, sh_c, sh_g, f_pan, endD_ret, dfr_normal, dfr_ret, dfr_pan, restD_normal, callD1, callC1, tassV, isnV, slcV, slcAV, slcTV, slcB, appNew, Option.bind_some, Option.bind_none, d_pan, h_pan, wrH_eq, wrX_cells, wrU_some, upH_nil, upH_cons, lk_upH, effR_some, effR_none, effR_ite, Option.isNone_none, Option.isNone_some, slA_zero, call_yield, e_range, it_func, wy_same, y_call, isLp_self, beg_normal, end_normal, end_ret, end_exit, end_ite, aft_ret, aft_ready, aft_done, aft_exit, setP_cons, setP_nil, sh_r, t_mkmap, t_mlook, t_mupd, t_mdel, mapF_some, lookF_some, setM_some, lookR_t, lookR_n, lookR_f, lookR_fn, lookV, mupdV, mdelV, mkM]
      · have hpb := beqI hp
        simp -implicitDefEqProofs (maxSteps := 10000000) (disch := omega) only [T6, L6, G6_8, V8_eq, G6_9, G6_10, V10_eq, G6_11, G6_13, G6_17, G6_21, V21_eq, hB, hR, hI, kp.l, kp.t1, kp.t5, kp.t6, kp.t7, kp.t9, kp.t10, lenV_sl, Int.toNat_natCast, bft, btf, gtst, st_len, hkn', hkn, hkl, hin, k0, i0, q0, q1, q2, q3, hpb, pad, e_skip, e_ops, e_draw, d_none, d_nil, d_cons, d_ite, h_none, h_nil, h_cons, h_ite, eqS_same, lightV, e_seq, e_cond, e_block, e_exit, e_ret, s_normal, s_ret, s_exit, s_none, s_ite, b_normal, b_ret, b_exit, b_none, b_ite, c_bool, x_none, x_nil, x_cons, x_ite, p_some, p_none, p_ite, pt_some, pt_none, pv_some, pv_none, pv_ite, w_none, w_some, i_bool, i_undef, bt, bf, v_tmp, v_const, v_global, v_func, evs, f_normal, f_ret, f_none, f_ite, r_some, co_some, l_ptr, m_agg, m_one, sh_app, lk_nil, lk_cons, rd_eq, rdO_some, rdO_none, rdN_none, rdL_some, rdL_none, wrB_none, unitR_some, wr_nil, wr_here, wr_skip, k_cells, tk_zero, tk_take, tk_skip, tkC_some, call_func, gt, st, binV, arith, isSh, storeV, all1, idxAV, fieldV, faddrV, iaddrSV, iaddrAV, pickV, convV, unV, eqbV, eqpV, extV, mm2, mmV, nilckV, ress, res1, retV, Value.cells, cond_true, cond_false, Bool.true_or, Bool.false_or, Bool.or_true, Bool.or_false, beq_self_eq_true, if_true, if_false, ite_true, ite_false, decide_true, decide_false, decide_eq_true_eq, reduceIte, Nat.zero_add, Nat.add_zero, and_self, true_and, and_true, List.size_toArray, List.length_cons, List.length_nil, List.append_nil, List.nil_append, Int.toNat_zero, Bool.not_false, Bool.not_true, Bool.not_not, Bool.false_eq_true, Bool.true_eq_false, reduceCtorEq, Int.reduceLT, Int.reduceLE, Int.reduceToNat, Int.reduceAdd, Int.reduceSub, Int.reduceMul, Int.reduceNeg, Nat.reduceMul, Nat.reduceAdd, Nat.reduceSub, Nat.reduceBEq, Nat.reduceEqDiff, Nat.reduceLT, Nat.reduceLeDiff, Int.reduceBEq, Int.reduceEq, Nat.reducePow, Int.reducePow, IntWalk.i64_in, IntKind.bits, eqAV, eqL, leafEq, andO, fillV, buildSV, List.getElem?_toArray, List.getElem?_cons_zero, List.getElem?_cons_succ, List.getElem?_nil, Int.reduceGT, Int.reduceGE, Int.reduceBNe, Bool.true_and, Bool.and_true, Bool.false_and, Bool.and_false, Bool.and_self, IntWalk.u64_in, Int.cast_ofNat_Int, callF1, pad16, pad_0, pad_1, pad_2, pad_3, pad_4, pad_5, pad_6, pad_7, pad_8, pad_9, pad_10, pad_11, pad_12, pad_13, pad_14, pad_15, gc0, gc1, gc2, gc3, gc4, gc5, gc6, gc7, gc8, gc9, gc10, gc11, gc12, gc13, gc14, gc15, gcS, sc0, sc1, sc2, sc3, sc4, sc5, sc6, sc7, sc8, sc9, sc10, sc11, sc12, sc13, sc14, sc15, scS, List.drop_succ_cons, List.drop_nil, x_pan, s_pan, b_pan, pE_ret, pE_pan, pE_none, pE_ite, pvE_some, pvE_none, pvE_ite, rv_some, rv_none, rv_ite, oR_ret, t_mv, t_pick, t_alloc, t_box, t_build, t_buildS, t_load, t_store, t_nilck, t_bin, t_eqb, t_eqA, t_eqp, t_un, t_conv, t_field, t_idxA, t_faddr, t_iaddrS, t_iaddrA, t_ext, t_len, t_mm, t_call, t_ifc, t_fn, t_slc, t_slcA, t_slcT, t_tass, t_isn, t_mks, t_app, t_pan, panE_i, optE_none, optE_some, bnd_none, bnd_int, slA_none, slA_some, appR_some, appOld_cells, newsV_s, newsV_n, lenS_s, appV_nil, appV_some, mksV_i, sh_c, sh_g, f_pan, endD_ret, dfr_normal, dfr_ret, dfr_pan, restD_normal, callD1, callC1, tassV, isnV, slcV, slcAV, slcTV, slcB, appNew, Option.bind_some, Option.bind_none, d_pan, h_pan, wrH_eq, wrX_cells, wrU_some, upH_nil, upH_cons, lk_upH, effR_some, effR_none, effR_ite, Option.isNone_none, Option.isNone_some, slA_zero, call_yield, e_range, it_func, wy_same, y_call, isLp_self, beg_normal, end_normal, end_ret, end_exit, end_ite, aft_ret, aft_ready, aft_done, aft_exit, setP_cons, setP_nil, sh_r, t_mkmap, t_mlook, t_mupd, t_mdel, mapF_some, lookF_some, setM_some, lookR_t, lookR_n, lookR_f, lookR_fn, lookV, mupdV, mdelV, mkM]
        refine ok_some (.inl ⟨rfl, i - (k + 1), by omega, _, k + 1, rfl, ⟨?_, ?_, ?_, ?_, ?_, ?_, ?_⟩, by omega, rfl⟩)
        all_goals simp -implicitDefEqProofs (maxSteps := 10000000) (disch := omega) only [T6, L6, G6_8, V8_eq, G6_9, G6_10, V10_eq, G6_11, G6_13, G6_17, G6_21, V21_eq, hB, hR, hI, kp.l, kp.t1, kp.t5, kp.t6, kp.t7, kp.t9, kp.t10, lenV_sl, Int.toNat_natCast, bft, btf, gtst, st_len, hc2, pad, e_skip, e_ops, e_draw, d_none, d_nil, d_cons, d_ite, h_none, h_nil, h_cons, h_ite, eqS_same, lightV, e_seq, e_cond, e_block, e_exit, e_ret, s_normal, s_ret, s_exit, s_none, s_ite, b_normal, b_ret, b_exit, b_none, b_ite, c_bool, x_none, x_nil, x_cons, x_ite, p_some, p_none, p_ite, pt_some, pt_none, pv_some, pv_none, pv_ite, w_none, w_some, i_bool, i_undef, bt, bf, v_tmp, v_const, v_global, v_func, evs, f_normal, f_ret, f_none, f_ite, r_some, co_some, l_ptr, m_agg, m_one, sh_app, lk_nil, lk_cons, rd_eq, rdO_some, rdO_none, rdN_none, rdL_some, rdL_none, wrB_none, unitR_some, wr_nil, wr_here, wr_skip, k_cells, tk_zero, tk_take, tk_skip, tkC_some, call_func, gt, st, binV, arith, isSh, storeV, all1, idxAV, fieldV, faddrV, iaddrSV, iaddrAV, pickV, convV, unV, eqbV, eqpV, extV, mm2, mmV, nilckV, ress, res1, retV, Value.cells, cond_true, cond_false, Bool.true_or, Bool.false_or, Bool.or_true, Bool.or_false, beq_self_eq_true, if_true, if_false, ite_true, ite_false, decide_true, decide_false, decide_eq_true_eq, reduceIte, Nat.zero_add, Nat.add_zero, and_self, true_and, and_true, List.size_toArray, List.length_cons, List.length_nil, List.append_nil, List.nil_append, Int.toNat_zero, Bool.not_false, Bool.not_true, Bool.not_not, Bool.false_eq_true, Bool.true_eq_false, reduceCtorEq, Int.reduceLT, Int.reduceLE, Int.reduceToNat, Int.reduceAdd, Int.reduceSub, Int.reduceMul, Int.reduceNeg, Nat.reduceMul, Nat.reduceAdd, Nat.reduceSub, Nat.reduceBEq, Nat.reduceEqDiff, Nat.reduceLT, Nat.reduceLeDiff, Int.reduceBEq, Int.reduceEq, Nat.reducePow, Int.reducePow, IntWalk.i64_in, IntKind.bits, eqAV, eqL, leafEq, andO, fillV, buildSV, List.getElem?_toArray, List.getElem?_cons_zero, List.getElem?_cons_succ, List.getElem?_nil, Int.reduceGT, Int.reduceGE, Int.reduceBNe, Bool.true_and, Bool.and_true, Bool.false_and, Bool.and_false, Bool.and_self, IntWalk.u64_in, Int.cast_ofNat_Int, callF1, pad16, pad_0, pad_1, pad_2, pad_3, pad_4, pad_5, pad_6, pad_7, pad_8, pad_9, pad_10, pad_11, pad_12, pad_13, pad_14, pad_15, gc0, gc1, gc2, gc3, gc4, gc5, gc6, gc7, gc8, gc9, gc10, gc11, gc12, gc13, gc14, gc15, gcS, sc0, sc1, sc2, sc3, sc4, sc5, sc6, sc7, sc8, sc9, sc10, sc11, sc12, sc13, sc14, sc15, scS, List.drop_succ_cons, List.drop_nil, x_pan, s_pan, b_pan, pE_ret, pE_pan, pE_none, pE_ite, pvE_some, pvE_none, pvE_ite, rv_some, rv_none, rv_ite, oR_ret, t_mv, t_pick, t_alloc, t_box, t_build, t_buildS, t_load, t_store, t_nilck, t_bin, t_eqb, t_eqA, t_eqp, t_un, t_conv, t_field, t_idxA, t_faddr, t_iaddrS, t_iaddrA, t_ext, t_len, t_mm, t_call, t_ifc, t_fn, t_slc, t_slcA, t_slcT, t_tass, t_isn, t_mks, t_app, t_pan, panE_i, optE_none, optE_some, bnd_none, bnd_int, slA_none, slA_some, appR_some, appOld_cells, newsV_s, newsV_n, lenS_s, appV_nil, appV_some, mksV_i, sh_c, sh_g, f_pan, endD_ret, dfr_normal, dfr_ret, dfr_pan, restD_normal, callD1, callC1, tassV, isnV, slcV, slcAV, slcTV, slcB, appNew, Option.bind_some, Option.bind_none, d_pan, h_pan, wrH_eq, wrX_cells, wrU_some, upH_nil, upH_cons, lk_upH, effR_some, effR_none, effR_ite, Option.isNone_none, Option.isNone_some, slA_zero, call_yield, e_range, it_func, wy_same, y_call, isLp_self, beg_normal, end_normal, end_ret, end_exit, end_ite, aft_ret, aft_ready, aft_done, aft_exit, setP_cons, setP_nil, sh_r, t_mkmap, t_mlook, t_mupd, t_mdel, mapF_some, lookF_some, setM_some, lookR_t, lookR_n, lookR_f, lookR_fn, lookV, mupdV, mdelV, mkM]
    obtain ⟨x, ⟨ts, H1, N1⟩, rfl, rfl, rfl, rfl, kp⟩ := hO
    simp only at kp
    simp -implicitDefEqProofs (maxSteps := 10000000) (disch := omega) only [T6, L6, G6_8, V8_eq, G6_9, G6_10, V10_eq, G6_11, G6_13, G6_17, G6_21, V21_eq, hB, hR, hI, kp.l, kp.t1, kp.t5, kp.t6, kp.t7, kp.t9, kp.t10, lenV_sl, Int.toNat_natCast, bft, btf, gtst, st_len, pad, e_skip, e_ops, e_draw, d_none, d_nil, d_cons, d_ite, h_none, h_nil, h_cons, h_ite, eqS_same, lightV, e_seq, e_cond, e_block, e_exit, e_ret, s_normal, s_ret, s_exit, s_none, s_ite, b_normal, b_ret, b_exit, b_none, b_ite, c_bool, x_none, x_nil, x_cons, x_ite, p_some, p_none, p_ite, pt_some, pt_none, pv_some, pv_none, pv_ite, w_none, w_some, i_bool, i_undef, bt, bf, v_tmp, v_const, v_global, v_func, evs, f_normal, f_ret, f_none, f_ite, r_some, co_some, l_ptr, m_agg, m_one, sh_app, lk_nil, lk_cons, rd_eq, rdO_some, rdO_none, rdN_none, rdL_some, rdL_none, wrB_none, unitR_some, wr_nil, wr_here, wr_skip, k_cells, tk_zero, tk_take, tk_skip, tkC_some, call_func, gt, st, binV, arith, isSh, storeV, all1, idxAV, fieldV, faddrV, iaddrSV, iaddrAV, pickV, convV, unV, eqbV, eqpV, extV, mm2, mmV, nilckV, ress, res1, retV, Value.cells, cond_true, cond_false, Bool.true_or, Bool.false_or, Bool.or_true, Bool.or_false, beq_self_eq_true, if_true, if_false, ite_true, ite_false, decide_true, decide_false, decide_eq_true_eq, reduceIte, Nat.zero_add, Nat.add_zero, and_self, true_and, and_true, List.size_toArray, List.length_cons, List.length_nil, List.append_nil, List.nil_append, Int.toNat_zero, Bool.not_false, Bool.not_true, Bool.not_not, Bool.false_eq_true, Bool.true_eq_false, reduceCtorEq, Int.reduceLT, Int.reduceLE, Int.reduceToNat, Int.reduceAdd, Int.reduceSub, Int.reduceMul, Int.reduceNeg, Nat.reduceMul, Nat.reduceAdd, Nat.reduceSub, Nat.reduceBEq, Nat.reduceEqDiff, Nat.reduceLT, Nat.reduceLeDiff, Int.reduceBEq, Int.reduceEq, Nat.reducePow, Int.reducePow, IntWalk.i64_in, IntKind.bits, eqAV, eqL, leafEq, andO, fillV, buildSV, List.getElem?_toArray, List.getElem?_cons_zero, List.getElem?_cons_succ, List.getElem?_nil, Int.reduceGT, Int.reduceGE, Int.reduceBNe, Bool.true_and, Bool.and_true, Bool.false_and, Bool.and_false, Bool.and_self, IntWalk.u64_in, Int.cast_ofNat_Int, callF1, pad16, pad_0, pad_1, pad_2, pad_3, pad_4, pad_5, pad_6, pad_7, pad_8, pad_9, pad_10, pad_11, pad_12, pad_13, pad_14, pad_15, gc0, gc1, gc2, gc3, gc4, gc5, gc6, gc7, gc8, gc9, gc10, gc11, gc12, gc13, gc14, gc15, gcS, sc0, sc1, sc2, sc3, sc4, sc5, sc6, sc7, sc8, sc9, sc10, sc11, sc12, sc13, sc14, sc15, scS, List.drop_succ_cons, List.drop_nil, x_pan, s_pan, b_pan, pE_ret, pE_pan, pE_none, pE_ite, pvE_some, pvE_none, pvE_ite, rv_some, rv_none, rv_ite, oR_ret, t_mv, t_pick, t_alloc, t_box, t_build, t_buildS, t_load, t_store, t_nilck, t_bin, t_eqb, t_eqA, t_eqp, t_un, t_conv, t_field, t_idxA, t_faddr, t_iaddrS, t_iaddrA, t_ext, t_len, t_mm, t_call, t_ifc, t_fn, t_slc, t_slcA, t_slcT, t_tass, t_isn, t_mks, t_app, t_pan, panE_i, optE_none, optE_some, bnd_none, bnd_int, slA_none, slA_some, appR_some, appOld_cells, newsV_s, newsV_n, lenS_s, appV_nil, appV_some, mksV_i, sh_c, sh_g, f_pan, endD_ret, dfr_normal, dfr_ret, dfr_pan, restD_normal, callD1, callC1, tassV, isnV, slcV, slcAV, slcTV, slcB, appNew, Option.bind_some, Option.bind_none, d_pan, h_pan, wrH_eq, wrX_cells, wrU_some, upH_nil, upH_cons, lk_upH, effR_some, effR_none, effR_ite, Option.isNone_none, Option.isNone_some, slA_zero, call_yield, e_range, it_func, wy_same, y_call, isLp_self, beg_normal, end_normal, end_ret, end_exit, end_ite, aft_ret, aft_ready, aft_done, aft_exit, setP_cons, setP_nil, sh_r, t_mkmap, t_mlook, t_mupd, t_mdel, mapF_some, lookF_some, setM_some, lookR_t, lookR_n, lookR_f, lookR_fn, lookV, mupdV, mdelV, mkM]
    refine ok_some (.inl ⟨rfl, (gCls w).length - (i + 1), by omega, _, i + 1, rfl, ⟨?_, ?_, ?_, ?_, ?_, ?_⟩, by omega, rfl⟩)
    all_goals simp -implicitDefEqProofs (maxSteps := 10000000) (disch := omega) only [T6, L6, G6_8, V8_eq, G6_9, G6_10, V10_eq, G6_11, G6_13, G6_17, G6_21, V21_eq, hB, hR, hI, kp.l, kp.t1, kp.t5, kp.t6, kp.t7, kp.t9, kp.t10, lenV_sl, Int.toNat_natCast, bft, btf, gtst, st_len, hc1, pad, e_skip, e_ops, e_draw, d_none, d_nil, d_cons, d_ite, h_none, h_nil, h_cons, h_ite, eqS_same, lightV, e_seq, e_cond, e_block, e_exit, e_ret, s_normal, s_ret, s_exit, s_none, s_ite, b_normal, b_ret, b_exit, b_none, b_ite, c_bool, x_none, x_nil, x_cons, x_ite, p_some, p_none, p_ite, pt_some, pt_none, pv_some, pv_none, pv_ite, w_none, w_some, i_bool, i_undef, bt, bf, v_tmp, v_const, v_global, v_func, evs, f_normal, f_ret, f_none, f_ite, r_some, co_some, l_ptr, m_agg, m_one, sh_app, lk_nil, lk_cons, rd_eq, rdO_some, rdO_none, rdN_none, rdL_some, rdL_none, wrB_none, unitR_some, wr_nil, wr_here, wr_skip, k_cells, tk_zero, tk_take, tk_skip, tkC_some, call_func, gt, st, binV, arith, isSh, storeV, all1, idxAV, fieldV, faddrV, iaddrSV, iaddrAV, pickV, convV, unV, eqbV, eqpV, extV, mm2, mmV, nilckV, ress, res1, retV, Value.cells, cond_true, cond_false, Bool.true_or, Bool.false_or, Bool.or_true, Bool.or_false, beq_self_eq_true, if_true, if_false, ite_true, ite_false, decide_true, decide_false, decide_eq_true_eq, reduceIte, Nat.zero_add, Nat.add_zero, and_self, true_and, and_true, List.size_toArray, List.length_cons, List.length_nil, List.append_nil, List.nil_append, Int.toNat_zero, Bool.not_false, Bool.not_true, Bool.not_not, Bool.false_eq_true, Bool.true_eq_false, reduceCtorEq, Int.reduceLT, Int.reduceLE, Int.reduceToNat, Int.reduceAdd, Int.reduceSub, Int.reduceMul, Int.reduceNeg, Nat.reduceMul, Nat.reduceAdd, Nat.reduceSub, Nat.reduceBEq, Nat.reduceEqDiff, Nat.reduceLT, Nat.reduceLeDiff, Int.reduceBEq, Int.reduceEq, Nat.reducePow, Int.reducePow, IntWalk.i64_in, IntKind.bits, eqAV, eqL, leafEq, andO, fillV, buildSV, List.getElem?_toArray, List.getElem?_cons_zero, List.getElem?_cons_succ, List.getElem?_nil, Int.reduceGT, Int.reduceGE, Int.reduceBNe, Bool.true_and, Bool.and_true, Bool.false_and, Bool.and_false, Bool.and_self, IntWalk.u64_in, Int.cast_ofNat_Int, callF1, pad16, pad_0, pad_1, pad_2, pad_3, pad_4, pad_5, pad_6, pad_7, pad_8, pad_9, pad_10, pad_11, pad_12, pad_13, pad_14, pad_15, gc0, gc1, gc2, gc3, gc4, gc5, gc6, gc7, gc8, gc9, gc10, gc11, gc12, gc13, gc14, gc15, gcS, sc0, sc1, sc2, sc3, sc4, sc5, sc6, sc7, sc8, sc9, sc10, sc11, sc12, sc13, sc14, sc15, scS, List.drop_succ_cons, List.drop_nil, x_pan, s_pan, b_pan, pE_ret, pE_pan, pE_none, pE_ite, pvE_some, pvE_none, pvE_ite, rv_some, rv_none, rv_ite, oR_ret, t_mv, t_pick, t_alloc, t_box, t_build, t_buildS, t_load, t_store, t_nilck, t_bin, t_eqb, t_eqA, t_eqp, t_un, t_conv, t_field, t_idxA, t_faddr, t_iaddrS, t_iaddrA, t_ext, t_len, t_mm, t_call, t_ifc, t_fn, t_slc, t_slcA, t_slcT, t_tass, t_isn, t_mks, t_app, t_pan, panE_i, optE_none, optE_some, bnd_none, bnd_int, slA_none, slA_some, appR_some, appOld_cells, newsV_s, newsV_n, lenS_s, appV_nil, appV_some, mksV_i, sh_c, sh_g, f_pan, endD_ret, dfr_normal, dfr_ret, dfr_pan, restD_normal, callD1, callC1, tassV, isnV, slcV, slcAV, slcTV, slcB, appNew, Option.bind_some, Option.bind_none, d_pan, h_pan, wrH_eq, wrX_cells, wrU_some, upH_nil, upH_cons, lk_upH, effR_some, effR_none, effR_ite, Option.isNone_none, Option.isNone_some, slA_zero, call_yield, e_range, it_func, wy_same, y_call, isLp_self, beg_normal, end_normal, end_ret, end_exit, end_ite, aft_ret, aft_ready, aft_done, aft_exit, setP_cons, setP_nil, sh_r, t_mkmap, t_mlook, t_mupd, t_mdel, mapF_some, lookF_some, setM_some, lookR_t, lookR_n, lookR_f, lookR_fn, lookV, mupdV, mdelV, mkM]
  obtain ⟨x, ⟨ts, H1, N1⟩, rfl, rfl, rfl, rfl, kp⟩ := hO
  simp only at kp
  have eP := f10 (B := B) hG who 5 hat (by omega)
  generalize pk who 5 = p at eP
  have hgl : (gEvs w).length ≤ 1200 := by rw [gEvs_len]; have := gMany_le w; omega
  obtain ⟨vO, HO', NO, eO, gO, fO, sO⟩ := of17 gC rL hgl p
  have rO := sO.rd ev7_len
  obtain ⟨HW, NW, eW, gW, fW⟩ := width gO rO
  obtain ⟨vD, HD, ND, eD, gD, fD, sD⟩ := calls' gW (rO.mono fW)
  obtain ⟨t1, t2, t3⟩ := flt_hist p (g_err w)
  rw [g_cls] at t2 t3
  rw [t1, t3] at eW
  rw [t1] at eD
  have hlD := sD.len
  rw [t2] at hlD
  have rCD := rC.mono ((fO.trans fW).trans fD)
  simp -implicitDefEqProofs (maxSteps := 10000000) (disch := omega) only [T6, L6, G6_8, V8_eq, G6_9, G6_10, V10_eq, G6_11, G6_13, G6_17, G6_21, V21_eq, hB, hR, hI, kp.l, kp.t1, kp.t5, kp.t6, kp.t7, kp.t9, lenV_sl, Int.toNat_natCast, bft, btf, gtst, st_len, eP, eO, eW, eD, pad, e_skip, e_ops, e_draw, d_none, d_nil, d_cons, d_ite, h_none, h_nil, h_cons, h_ite, eqS_same, lightV, e_seq, e_cond, e_block, e_exit, e_ret, s_normal, s_ret, s_exit, s_none, s_ite, b_normal, b_ret, b_exit, b_none, b_ite, c_bool, x_none, x_nil, x_cons, x_ite, p_some, p_none, p_ite, pt_some, pt_none, pv_some, pv_none, pv_ite, w_none, w_some, i_bool, i_undef, bt, bf, v_tmp, v_const, v_global, v_func, evs, f_normal, f_ret, f_none, f_ite, r_some, co_some, l_ptr, m_agg, m_one, sh_app, lk_nil, lk_cons, rd_eq, rdO_some, rdO_none, rdN_none, rdL_some, rdL_none, wrB_none, unitR_some, wr_nil, wr_here, wr_skip, k_cells, tk_zero, tk_take, tk_skip, tkC_some, call_func, gt, st, binV, arith, isSh, storeV, all1, idxAV, fieldV, faddrV, iaddrSV, iaddrAV, pickV, convV, unV, eqbV, eqpV, extV, mm2, mmV, nilckV, ress, res1, retV, Value.cells, cond_true, cond_false, Bool.true_or, Bool.false_or, Bool.or_true, Bool.or_false, beq_self_eq_true, if_true, if_false, ite_true, ite_false, decide_true, decide_false, decide_eq_true_eq, reduceIte, Nat.zero_add, Nat.add_zero, and_self, true_and, and_true, List.size_toArray, List.length_cons, List.length_nil, List.append_nil, List.nil_append, Int.toNat_zero, Bool.not_false, Bool.not_true, Bool.not_not, Bool.false_eq_true, Bool.true_eq_false, reduceCtorEq, Int.reduceLT, Int.reduceLE, Int.reduceToNat, Int.reduceAdd, Int.reduceSub, Int.reduceMul, Int.reduceNeg, Nat.reduceMul, Nat.reduceAdd, Nat.reduceSub, Nat.reduceBEq, Nat.reduceEqDiff, Nat.reduceLT, Nat.reduceLeDiff, Int.reduceBEq, Int.reduceEq, Nat.reducePow, Int.reducePow, IntWalk.i64_in, IntKind.bits, eqAV, eqL, leafEq, andO, fillV, buildSV, List.getElem?_toArray, List.getElem?_cons_zero, List.getElem?_cons_succ, List.getElem?_nil, Int.reduceGT, Int.reduceGE, Int.reduceBNe, Bool.true_and, Bool.and_true, Bool.false_and, Bool.and_false, Bool.and_self, IntWalk.u64_in, Int.cast_ofNat_Int, callF1, pad16, pad_0, pad_1, pad_2, pad_3, pad_4, pad_5, pad_6, pad_7, pad_8, pad_9, pad_10, pad_11, pad_12, pad_13, pad_14, pad_15, gc0, gc1, gc2, gc3, gc4, gc5, gc6, gc7, gc8, gc9, gc10, gc11, gc12, gc13, gc14, gc15, gcS, sc0, sc1, sc2, sc3, sc4, sc5, sc6, sc7, sc8, sc9, sc10, sc11, sc12, sc13, sc14, sc15, scS, List.drop_succ_cons, List.drop_nil, x_pan, s_pan, b_pan, pE_ret, pE_pan, pE_none, pE_ite, pvE_some, pvE_none, pvE_ite, rv_some, rv_none, rv_ite, oR_ret, t_mv, t_pick, t_alloc, t_box, t_build, t_buildS, t_load, t_store, t_nilck, t_bin, t_eqb, t_eqA, t_eqp, t_un, t_conv, t_field, t_idxA, t_faddr, t_iaddrS, t_iaddrA, t_ext, t_len, t_mm, t_call, t_ifc, t_fn, t_slc, t_slcA, t_slcT, t_tass, t_isn, t_mks, t_app, t_pan, panE_i, optE_none, optE_some, bnd_none, bnd_int, slA_none, slA_some, appR_some, appOld_cells, newsV_s, newsV_n, lenS_s, appV_nil, appV_some, mksV_i, sh_c, sh_g, f_pan, endD_ret, dfr_normal, dfr_ret, dfr_pan, restD_normal, callD1, callC1, tassV, isnV, slcV, slcAV, slcTV, slcB, appNew, Option.bind_some, Option.bind_none, d_pan, h_pan, wrH_eq, wrX_cells, wrU_some, upH_nil, upH_cons, lk_upH, effR_some, effR_none, effR_ite, Option.isNone_none, Option.isNone_some, slA_zero, call_yield, e_range, it_func, wy_same, y_call, isLp_self, beg_normal, end_normal, end_ret, end_exit, end_ite, aft_ret, aft_ready, aft_done, aft_exit, setP_cons, setP_nil, sh_r, t_mkmap, t_mlook, t_mupd, t_mdel, mapF_some, lookF_some, setM_some, lookR_t, lookR_n, lookR_f, lookR_fn, lookV, mupdV, mdelV, mkM]
  generalize hX : exec B _ _ (LC.loop _) _ = o
  have hO : Ok o (fun x s => x = .exit 4 ∧ s.H = HD ∧ s.N = ND ∧ K6m vC vD p (if (1 : Int) < ((gCls w).countP (isP p) : Int) then 1 else ((gCls w).countP (isP p) : Int)) ((gCls w).countP (isP p)) (gCls w).length s.t) := by
    rw [← hX]
    refine loop_rule (n0 := 60) (fun q s => ∃ ts, ∃ k : Nat, s = ⟨ts, HD, ND⟩ ∧ K6m vC vD p (if (1 : Int) < ((gCls w).countP (isP p) : Int) then 1 else ((gCls w).countP (isP p) : Int)) (((gCls w).take k).countP (isP p)) k ts ∧ k ≤ (gCls w).length ∧ q = (gCls w).length - k) _ ?_ (gCls w).length _ ⟨_, 0, rfl, ⟨?_, ?_, ?_, ?_, ?_, ?_, ?_, ?_, ?_, ?_⟩, by omega, rfl⟩ _ (by omega)
    rotate_left
    iterate 10 simp -implicitDefEqProofs (maxSteps := 10000000) (disch := omega) only [T6, L6, G6_8, V8_eq, G6_9, G6_10, V10_eq, G6_11, G6_13, G6_17, G6_21, V21_eq, hB, hR, hI, kp.l, kp.t1, kp.t5, kp.t6, kp.t7, kp.t9, lenV_sl, Int.toNat_natCast, bft, btf, gtst, st_len, List.take_zero, List.countP_nil, pad, e_skip, e_ops, e_draw, d_none, d_nil, d_cons, d_ite, h_none, h_nil, h_cons, h_ite, eqS_same, lightV, e_seq, e_cond, e_block, e_exit, e_ret, s_normal, s_ret, s_exit, s_none, s_ite, b_normal, b_ret, b_exit, b_none, b_ite, c_bool, x_none, x_nil, x_cons, x_ite, p_some, p_none, p_ite, pt_some, pt_none, pv_some, pv_none, pv_ite, w_none, w_some, i_bool, i_undef, bt, bf, v_tmp, v_const, v_global, v_func, evs, f_normal, f_ret, f_none, f_ite, r_some, co_some, l_ptr, m_agg, m_one, sh_app, lk_nil, lk_cons, rd_eq, rdO_some, rdO_none, rdN_none, rdL_some, rdL_none, wrB_none, unitR_some, wr_nil, wr_here, wr_skip, k_cells, tk_zero, tk_take, tk_skip, tkC_some, call_func, gt, st, binV, arith, isSh, storeV, all1, idxAV, fieldV, faddrV, iaddrSV, iaddrAV, pickV, convV, unV, eqbV, eqpV, extV, mm2, mmV, nilckV, ress, res1, retV, Value.cells, cond_true, cond_false, Bool.true_or, Bool.false_or, Bool.or_true, Bool.or_false, beq_self_eq_true, if_true, if_false, ite_true, ite_false, decide_true, decide_false, decide_eq_true_eq, reduceIte, Nat.zero_add, Nat.add_zero, and_self, true_and, and_true, List.size_toArray, List.length_cons, List.length_nil, List.append_nil, List.nil_append, Int.toNat_zero, Bool.not_false, Bool.not_true, Bool.not_not, Bool.false_eq_true, Bool.true_eq_false, reduceCtorEq, Int.reduceLT, Int.reduceLE, Int.reduceToNat, Int.reduceAdd, Int.reduceSub, Int.reduceMul, Int.reduceNeg, Nat.reduceMul, Nat.reduceAdd, Nat.reduceSub, Nat.reduceBEq, Nat.reduceEqDiff, Nat.reduceLT, Nat.reduceLeDiff, Int.reduceBEq, Int.reduceEq, Nat.reducePow, Int.reducePow, IntWalk.i64_in, IntKind.bits, eqAV, eqL, leafEq, andO, fillV, buildSV, List.getElem?_toArray, List.getElem?_cons_zero, List.getElem?_cons_succ, List.getElem?_nil, Int.reduceGT, Int.reduceGE, Int.reduceBNe, Bool.true_and, Bool.and_true, Bool.false_and, Bool.and_false, Bool.and_self, IntWalk.u64_in, Int.cast_ofNat_Int, callF1, pad16, pad_0, pad_1, pad_2, pad_3, pad_4, pad_5, pad_6, pad_7, pad_8, pad_9, pad_10, pad_11, pad_12, pad_13, pad_14, pad_15, gc0, gc1, gc2, gc3, gc4, gc5, gc6, gc7, gc8, gc9, gc10, gc11, gc12, gc13, gc14, gc15, gcS, sc0, sc1, sc2, sc3, sc4, sc5, sc6, sc7, sc8, sc9, sc10, sc11, sc12, sc13, sc14, sc15, scS, List.drop_succ_cons, List.drop_nil, x_pan, s_pan, b_pan, pE_ret, pE_pan, pE_none, pE_ite, pvE_some, pvE_none, pvE_ite, rv_some, rv_none, rv_ite, oR_ret, t_mv, t_pick, t_alloc, t_box, t_build, t_buildS, t_load, t_store, t_nilck, t_bin, t_eqb, t_eqA, t_eqp, t_un, t_conv, t_field, t_idxA, t_faddr, t_iaddrS, t_iaddrA, t_ext, t_len, t_mm, t_call, t_ifc, t_fn, t_slc, t_slcA, t_slcT, t_tass, t_isn, t_mks, t_app, t_pan, panE_i, optE_none, optE_some, bnd_none, bnd_int, slA_none, slA_some, appR_some, appOld_cells, newsV_s, newsV_n, lenS_s, appV_nil, appV_some, mksV_i, sh_c, sh_g, f_pan, endD_ret, dfr_normal, dfr_ret, dfr_pan, restD_normal, callD1, callC1, tassV, isnV, slcV, slcAV, slcTV, slcB, appNew, Option.bind_some, Option.bind_none, d_pan, h_pan, wrH_eq, wrX_cells, wrU_some, upH_nil, upH_cons, lk_upH, effR_some, effR_none, effR_ite, Option.isNone_none, Option.isNone_some, slA_zero, call_yield, e_range, it_func, wy_same, y_call, isLp_self, beg_normal, end_normal, end_ret, end_exit, end_ite, aft_ret, aft_ready, aft_done, aft_exit, setP_cons, setP_nil, sh_r, t_mkmap, t_mlook, t_mupd, t_mdel, mapF_some, lookF_some, setM_some, lookR_t, lookR_n, lookR_f, lookR_fn, lookV, mupdV, mdelV, mkM]
    clear hX kp
    rintro n q s ⟨ts, k, rfl, kp, hk, rfl⟩
    have hB := good_B gD
    have hR := good_rdB gD
    have hI := beqN gD.1.1
    have hc2 : ((k + 1 : Nat) : Int) = (k : Int) + 1 := by omega
    generalize (if (1 : Int) < ((gCls w).countP (isP p) : Int) then 1 else ((gCls w).countP (isP p) : Int)) = WD at kp ⊢
    by_cases hkn : k < (gCls w).length
    case neg =>
      obtain rfl : k = (gCls w).length := by omega
      rw [List.take_length] at kp
      simp -implicitDefEqProofs (maxSteps := 10000000) (disch := omega) only [T6, L6, G6_8, V8_eq, G6_9, G6_10, V10_eq, G6_11, G6_13, G6_17, G6_21, V21_eq, hB, hR, hI, kp.l, kp.t5, kp.t7, kp.t11, kp.t13, kp.t14, kp.t15, kp.t16, kp.t17, kp.t18, lenV_sl, Int.toNat_natCast, bft, btf, gtst, st_len, hlC, Int.lt_irrefl, pad, e_skip, e_ops, e_draw, d_none, d_nil, d_cons, d_ite, h_none, h_nil, h_cons, h_ite, eqS_same, lightV, e_seq, e_cond, e_block, e_exit, e_ret, s_normal, s_ret, s_exit, s_none, s_ite, b_normal, b_ret, b_exit, b_none, b_ite, c_bool, x_none, x_nil, x_cons, x_ite, p_some, p_none, p_ite, pt_some, pt_none, pv_some, pv_none, pv_ite, w_none, w_some, i_bool, i_undef, bt, bf, v_tmp, v_const, v_global, v_func, evs, f_normal, f_ret, f_none, f_ite, r_some, co_some, l_ptr, m_agg, m_one, sh_app, lk_nil, lk_cons, rd_eq, rdO_some, rdO_none, rdN_none, rdL_some, rdL_none, wrB_none, unitR_some, wr_nil, wr_here, wr_skip, k_cells, tk_zero, tk_take, tk_skip, tkC_some, call_func, gt, st, binV, arith, isSh, storeV, all1, idxAV, fieldV, faddrV, iaddrSV, iaddrAV, pickV, convV, unV, eqbV, eqpV, extV, mm2, mmV, nilckV, ress, res1, retV, Value.cells, cond_true, cond_false, Bool.true_or, Bool.false_or, Bool.or_true, Bool.or_false, beq_self_eq_true, if_true, if_false, ite_true, ite_false, decide_true, decide_false, decide_eq_true_eq, reduceIte, Nat.zero_add, Nat.add_zero, and_self, true_and, and_true, List.size_toArray, List.length_cons, List.length_nil, List.append_nil, List.nil_append, Int.toNat_zero, Bool.not_false, Bool.not_true, Bool.not_not, Bool.false_eq_true, Bool.true_eq_false, reduceCtorEq, Int.reduceLT, Int.reduceLE, Int.reduceToNat, Int.reduceAdd, Int.reduceSub, Int.reduceMul, Int.reduceNeg, Nat.reduceMul, Nat.reduceAdd, Nat.reduceSub, Nat.reduceBEq, Nat.reduceEqDiff, Nat.reduceLT, Nat.reduceLeDiff, Int.reduceBEq, Int.reduceEq, Nat.reducePow, Int.reducePow, IntWalk.i64_in, IntKind.bits, eqAV, eqL, leafEq, andO, fillV, buildSV, List.getElem?_toArray, List.getElem?_cons_zero, List.getElem?_cons_succ, List.getElem?_nil, Int.reduceGT, Int.reduceGE, Int.reduceBNe, Bool.true_and, Bool.and_true, Bool.false_and, Bool.and_false, Bool.and_self, IntWalk.u64_in, Int.cast_ofNat_Int, callF1, pad16, pad_0, pad_1, pad_2, pad_3, pad_4, pad_5, pad_6, pad_7, pad_8, pad_9, pad_10, pad_11, pad_12, pad_13, pad_14, pad_15, gc0, gc1, gc2, gc3, gc4, gc5, gc6, gc7, gc8, gc9, gc10, gc11, gc12, gc13, gc14, gc15, gcS, sc0, sc1, sc2, sc3, sc4, sc5, sc6, sc7, sc8, sc9, sc10, sc11, sc12, sc13, sc14, sc15, scS, List.drop_succ_cons, List.drop_nil, x_pan, s_pan, b_pan, pE_ret, pE_pan, pE_none, pE_ite, pvE_some, pvE_none, pvE_ite, rv_some, rv_none, rv_ite, oR_ret, t_mv, t_pick, t_alloc, t_box, t_build, t_buildS, t_load, t_store, t_nilck, t_bin, t_eqb, t_eqA, t_eqp, t_un, t_conv, t_field, t_idxA, t_faddr, t_iaddrS, t_iaddrA, t_ext, t_len, t_mm, t_call, t_ifc, t_fn, t_slc, t_slcA, t_slcT, t_tass, t_isn, t_mks, t_app, t_pan, panE_i, optE_none, optE_some, bnd_none, bnd_int, slA_none, slA_some, appR_some, appOld_cells, newsV_s, newsV_n, lenS_s, appV_nil, appV_some, mksV_i, sh_c, sh_g, f_pan, endD_ret, dfr_normal, dfr_ret, dfr_pan, restD_normal, callD1, callC1, tassV, isnV, slcV, slcAV, slcTV, slcB, appNew, Option.bind_some, Option.bind_none, d_pan, h_pan, wrH_eq, wrX_cells, wrU_some, upH_nil, upH_cons, lk_upH, effR_some, effR_none, effR_ite, Option.isNone_none, Option.isNone_some, slA_zero, call_yield, e_range, it_func, wy_same, y_call, isLp_self, beg_normal, end_normal, end_ret, end_exit, end_ite, aft_ret, aft_ready, aft_done, aft_exit, setP_cons, setP_nil, sh_r, t_mkmap, t_mlook, t_mupd, t_mdel, mapF_some, lookF_some, setM_some, lookR_t, lookR_n, lookR_f, lookR_fn, lookV, mupdV, mdelV, mkM]
      refine ok_some (.inr ⟨by simp, rfl, rfl, rfl, ⟨?_, ?_, ?_, ?_, ?_, ?_, ?_, ?_, ?_, ?_⟩⟩)
      all_goals simp -implicitDefEqProofs (maxSteps := 10000000) (disch := omega) only [T6, L6, G6_8, V8_eq, G6_9, G6_10, V10_eq, G6_11, G6_13, G6_17, G6_21, V21_eq, hB, hR, hI, kp.l, kp.t5, kp.t7, kp.t11, kp.t13, kp.t14, kp.t15, kp.t16, kp.t17, kp.t18, lenV_sl, Int.toNat_natCast, bft, btf, gtst, st_len, pad, e_skip, e_ops, e_draw, d_none, d_nil, d_cons, d_ite, h_none, h_nil, h_cons, h_ite, eqS_same, lightV, e_seq, e_cond, e_block, e_exit, e_ret, s_normal, s_ret, s_exit, s_none, s_ite, b_normal, b_ret, b_exit, b_none, b_ite, c_bool, x_none, x_nil, x_cons, x_ite, p_some, p_none, p_ite, pt_some, pt_none, pv_some, pv_none, pv_ite, w_none, w_some, i_bool, i_undef, bt, bf, v_tmp, v_const, v_global, v_func, evs, f_normal, f_ret, f_none, f_ite, r_some, co_some, l_ptr, m_agg, m_one, sh_app, lk_nil, lk_cons, rd_eq, rdO_some, rdO_none, rdN_none, rdL_some, rdL_none, wrB_none, unitR_some, wr_nil, wr_here, wr_skip, k_cells, tk_zero, tk_take, tk_skip, tkC_some, call_func, gt, st, binV, arith, isSh, storeV, all1, idxAV, fieldV, faddrV, iaddrSV, iaddrAV, pickV, convV, unV, eqbV, eqpV, extV, mm2, mmV, nilckV, ress, res1, retV, Value.cells, cond_true, cond_false, Bool.true_or, Bool.false_or, Bool.or_true, Bool.or_false, beq_self_eq_true, if_true, if_false, ite_true, ite_false, decide_true, decide_false, decide_eq_true_eq, reduceIte, Nat.zero_add, Nat.add_zero, and_self, true_and, and_true, List.size_toArray, List.length_cons, List.length_nil, List.append_nil, List.nil_append, Int.toNat_zero, Bool.not_false, Bool.not_true, Bool.not_not, Bool.false_eq_true, Bool.true_eq_false, reduceCtorEq, Int.reduceLT, Int.reduceLE, Int.reduceToNat, Int.reduceAdd, Int.reduceSub, Int.reduceMul, Int.reduceNeg, Nat.reduceMul, Nat.reduceAdd, Nat.reduceSub, Nat.reduceBEq, Nat.reduceEqDiff, Nat.reduceLT, Nat.reduceLeDiff, Int.reduceBEq, Int.reduceEq, Nat.reducePow, Int.reducePow, IntWalk.i64_in, IntKind.bits, eqAV, eqL, leafEq, andO, fillV, buildSV, List.getElem?_toArray, List.getElem?_cons_zero, List.getElem?_cons_succ, List.getElem?_nil, Int.reduceGT, Int.reduceGE, Int.reduceBNe, Bool.true_and, Bool.and_true, Bool.false_and, Bool.and_false, Bool.and_self, IntWalk.u64_in, Int.cast_ofNat_Int, callF1, pad16, pad_0, pad_1, pad_2, pad_3, pad_4, pad_5, pad_6, pad_7, pad_8, pad_9, pad_10, pad_11, pad_12, pad_13, pad_14, pad_15, gc0, gc1, gc2, gc3, gc4, gc5, gc6, gc7, gc8, gc9, gc10, gc11, gc12, gc13, gc14, gc15, gcS, sc0, sc1, sc2, sc3, sc4, sc5, sc6, sc7, sc8, sc9, sc10, sc11, sc12, sc13, sc14, sc15, scS, List.drop_succ_cons, List.drop_nil, x_pan, s_pan, b_pan, pE_ret, pE_pan, pE_none, pE_ite, pvE_some, pvE_none, pvE_ite, rv_some, rv_none, rv_ite, oR_ret, t_mv, t_pick, t_alloc, t_box, t_build, t_buildS, t_load, t_store, t_nilck, t_bin, t_eqb, t_eqA, t_eqp, t_un, t_conv, t_field, t_idxA, t_faddr, t_iaddrS, t_iaddrA, t_ext, t_len, t_mm, t_call, t_ifc, t_fn, t_slc, t_slcA, t_slcT, t_tass, t_isn, t_mks, t_app, t_pan, panE_i, optE_none, optE_some, bnd_none, bnd_int, slA_none, slA_some, appR_some, appOld_cells, newsV_s, newsV_n, lenS_s, appV_nil, appV_some, mksV_i, sh_c, sh_g, f_pan, endD_ret, dfr_normal, dfr_ret, dfr_pan, restD_normal, callD1, callC1, tassV, isnV, slcV, slcAV, slcTV, slcB, appNew, Option.bind_some, Option.bind_none, d_pan, h_pan, wrH_eq, wrX_cells, wrU_some, upH_nil, upH_cons, lk_upH, effR_some, effR_none, effR_ite, Option.isNone_none, Option.isNone_some, slA_zero, call_yield, e_range, it_func, wy_same, y_call, isLp_self, beg_normal, end_normal, end_ret, end_exit, end_ite, aft_ret, aft_ready, aft_done, aft_exit, setP_cons, setP_nil, sh_r, t_mkmap, t_mlook, t_mupd, t_mdel, mapF_some, lookF_some, setM_some, lookR_t, lookR_n, lookR_f, lookR_fn, lookV, mupdV, mdelV, mkM]
    have hkn' : (k : Int) < ((gCls w).length : Int) := by omega
    have k0 : (0 : Int) ≤ (k : Int) := by omega
    obtain ⟨bv, ov, cv, rfl, _, rv⟩ := rCD.at (by omega)
    have q0 : rdO HD B bv (ov + k * 9) 1 (rdB B bv (ov + k * 9) 1) = some [.int .i64 ((gCls w).getD k z0).p] := (rv HD Fr.refl k 0 1 z0 hkn (by omega)).trans rfl
    have hct := cnt_take (q := isP p) hkn
    have hcl' := cnt_take_le (C := gCls w) (q := isP p) (k := k)
    generalize (gCls w).getD k z0 = c at q0 hct
    generalize ((gCls w).take k).countP (isP p) = many at kp hct hcl'
    by_cases hp : c.p = p
    · have hpb : (c.p == p) = true := by simpa using hp
      have hc3 : ((many + 1 : Nat) : Int) = (many : Int) + 1 := by omega
      rw [show isP p c = true from hpb, if_pos rfl] at hct
      simp -implicitDefEqProofs (maxSteps := 10000000) (disch := omega) only [T6, L6, G6_8, V8_eq, G6_9, G6_10, V10_eq, G6_11, G6_13, G6_17, G6_21, V21_eq, hB, hR, hI, kp.l, kp.t5, kp.t7, kp.t11, kp.t13, kp.t14, kp.t15, kp.t16, kp.t17, kp.t18, lenV_sl, Int.toNat_natCast, bft, btf, gtst, st_len, hlC, hkn', hkn, k0, q0, hpb, pad, e_skip, e_ops, e_draw, d_none, d_nil, d_cons, d_ite, h_none, h_nil, h_cons, h_ite, eqS_same, lightV, e_seq, e_cond, e_block, e_exit, e_ret, s_normal, s_ret, s_exit, s_none, s_ite, b_normal, b_ret, b_exit, b_none, b_ite, c_bool, x_none, x_nil, x_cons, x_ite, p_some, p_none, p_ite, pt_some, pt_none, pv_some, pv_none, pv_ite, w_none, w_some, i_bool, i_undef, bt, bf, v_tmp, v_const, v_global, v_func, evs, f_normal, f_ret, f_none, f_ite, r_some, co_some, l_ptr, m_agg, m_one, sh_app, lk_nil, lk_cons, rd_eq, rdO_some, rdO_none, rdN_none, rdL_some, rdL_none, wrB_none, unitR_some, wr_nil, wr_here, wr_skip, k_cells, tk_zero, tk_take, tk_skip, tkC_some, call_func, gt, st, binV, arith, isSh, storeV, all1, idxAV, fieldV, faddrV, iaddrSV, iaddrAV, pickV, convV, unV, eqbV, eqpV, extV, mm2, mmV, nilckV, ress, res1, retV, Value.cells, cond_true, cond_false, Bool.true_or, Bool.false_or, Bool.or_true, Bool.or_false, beq_self_eq_true, if_true, if_false, ite_true, ite_false, decide_true, decide_false, decide_eq_true_eq, reduceIte, Nat.zero_add, Nat.add_zero, and_self, true_and, and_true, List.size_toArray, List.length_cons, List.length_nil, List.append_nil, List.nil_append, Int.toNat_zero, Bool.not_false, Bool.not_true, Bool.not_not, Bool.false_eq_true, Bool.true_eq_false, reduceCtorEq, Int.reduceLT, Int.reduceLE, Int.reduceToNat, Int.reduceAdd, Int.reduceSub, Int.reduceMul, Int.reduceNeg, Nat.reduceMul, Nat.reduceAdd, Nat.reduceSub, Nat.reduceBEq, Nat.reduceEqDiff, Nat.reduceLT, Nat.reduceLeDiff, Int.reduceBEq, Int.reduceEq, Nat.reducePow, Int.reducePow, IntWalk.i64_in, IntKind.bits, eqAV, eqL, leafEq, andO, fillV, buildSV, List.getElem?_toArray, List.getElem?_cons_zero, List.getElem?_cons_succ, List.getElem?_nil, Int.reduceGT, Int.reduceGE, Int.reduceBNe, Bool.true_and, Bool.and_true, Bool.false_and, Bool.and_false, Bool.and_self, IntWalk.u64_in, Int.cast_ofNat_Int, callF1, pad16, pad_0, pad_1, pad_2, pad_3, pad_4, pad_5, pad_6, pad_7, pad_8, pad_9, pad_10, pad_11, pad_12, pad_13, pad_14, pad_15, gc0, gc1, gc2, gc3, gc4, gc5, gc6, gc7, gc8, gc9, gc10, gc11, gc12, gc13, gc14, gc15, gcS, sc0, sc1, sc2, sc3, sc4, sc5, sc6, sc7, sc8, sc9, sc10, sc11, sc12, sc13, sc14, sc15, scS, List.drop_succ_cons, List.drop_nil, x_pan, s_pan, b_pan, pE_ret, pE_pan, pE_none, pE_ite, pvE_some, pvE_none, pvE_ite, rv_some, rv_none, rv_ite, oR_ret, t_mv, t_pick, t_alloc, t_box, t_build, t_buildS, t_load, t_store, t_nilck, t_bin, t_eqb, t_eqA, t_eqp, t_un, t_conv, t_field, t_idxA, t_faddr, t_iaddrS, t_iaddrA, t_ext, t_len, t_mm, t_call, t_ifc, t_fn, t_slc, t_slcA, t_slcT, t_tass, t_isn, t_mks, t_app, t_pan, panE_i, optE_none, optE_some, bnd_none, bnd_int, slA_none, slA_some, appR_some, appOld_cells, newsV_s, newsV_n, lenS_s, appV_nil, appV_some, mksV_i, sh_c, sh_g, f_pan, endD_ret, dfr_normal, dfr_ret, dfr_pan, restD_normal, callD1, callC1, tassV, isnV, slcV, slcAV, slcTV, slcB, appNew, Option.bind_some, Option.bind_none, d_pan, h_pan, wrH_eq, wrX_cells, wrU_some, upH_nil, upH_cons, lk_upH, effR_some, effR_none, effR_ite, Option.isNone_none, Option.isNone_some, slA_zero, call_yield, e_range, it_func, wy_same, y_call, isLp_self, beg_normal, end_normal, end_ret, end_exit, end_ite, aft_ret, aft_ready, aft_done, aft_exit, setP_cons, setP_nil, sh_r, t_mkmap, t_mlook, t_mupd, t_mdel, mapF_some, lookF_some, setM_some, lookR_t, lookR_n, lookR_f, lookR_fn, lookV, mupdV, mdelV, mkM]
      refine ok_some (.inl ⟨rfl, (gCls w).length - (k + 1), by omega, _, k + 1, rfl, ⟨?_, ?_, ?_, ?_, ?_, ?_, ?_, ?_, ?_, ?_⟩, by omega, rfl⟩)
      all_goals simp -implicitDefEqProofs (maxSteps := 10000000) (disch := omega) only [T6, L6, G6_8, V8_eq, G6_9, G6_10, V10_eq, G6_11, G6_13, G6_17, G6_21, V21_eq, hB, hR, hI, kp.l, kp.t5, kp.t7, kp.t11, kp.t13, kp.t14, kp.t15, kp.t16, kp.t17, kp.t18, lenV_sl, Int.toNat_natCast, bft, btf, gtst, st_len, hc2, hct, hc3, pad, e_skip, e_ops, e_draw, d_none, d_nil, d_cons, d_ite, h_none, h_nil, h_cons, h_ite, eqS_same, lightV, e_seq, e_cond, e_block, e_exit, e_ret, s_normal, s_ret, s_exit, s_none, s_ite, b_normal, b_ret, b_exit, b_none, b_ite, c_bool, x_none, x_nil, x_cons, x_ite, p_some, p_none, p_ite, pt_some, pt_none, pv_some, pv_none, pv_ite, w_none, w_some, i_bool, i_undef, bt, bf, v_tmp, v_const, v_global, v_func, evs, f_normal, f_ret, f_none, f_ite, r_some, co_some, l_ptr, m_agg, m_one, sh_app, lk_nil, lk_cons, rd_eq, rdO_some, rdO_none, rdN_none, rdL_some, rdL_none, wrB_none, unitR_some, wr_nil, wr_here, wr_skip, k_cells, tk_zero, tk_take, tk_skip, tkC_some, call_func, gt, st, binV, arith, isSh, storeV, all1, idxAV, fieldV, faddrV, iaddrSV, iaddrAV, pickV, convV, unV, eqbV, eqpV, extV, mm2, mmV, nilckV, ress, res1, retV, Value.cells, cond_true, cond_false, Bool.true_or, Bool.false_or, Bool.or_true, Bool.or_false, beq_self_eq_true, if_true, if_false, ite_true, ite_false, decide_true, decide_false, decide_eq_true_eq, reduceIte, Nat.zero_add, Nat.add_zero, and_self, true_and, and_true, List.size_toArray, List.length_cons, List.length_nil, List.append_nil, List.nil_append, Int.toNat_zero, Bool.not_false, Bool.not_true, Bool.not_not, Bool.false_eq_true, Bool.true_eq_false, reduceCtorEq, Int.reduceLT, Int.reduceLE, Int.reduceToNat, Int.reduceAdd, Int.reduceSub, Int.reduceMul, Int.reduceNeg, Nat.reduceMul, Nat.reduceAdd, Nat.reduceSub, Nat.reduceBEq, Nat.reduceEqDiff, Nat.reduceLT, Nat.reduceLeDiff, Int.reduceBEq, Int.reduceEq, Nat.reducePow, Int.reducePow, IntWalk.i64_in, IntKind.bits, eqAV, eqL, leafEq, andO, fillV, buildSV, List.getElem?_toArray, List.getElem?_cons_zero, List.getElem?_cons_succ, List.getElem?_nil, Int.reduceGT, Int.reduceGE, Int.reduceBNe, Bool.true_and, Bool.and_true, Bool.false_and, Bool.and_false, Bool.and_self, IntWalk.u64_in, Int.cast_ofNat_Int, callF1, pad16, pad_0, pad_1, pad_2, pad_3, pad_4, pad_5, pad_6, pad_7, pad_8, pad_9, pad_10, pad_11, pad_12, pad_13, pad_14, pad_15, gc0, gc1, gc2, gc3, gc4, gc5, gc6, gc7, gc8, gc9, gc10, gc11, gc12, gc13, gc14, gc15, gcS, sc0, sc1, sc2, sc3, sc4, sc5, sc6, sc7, sc8, sc9, sc10, sc11, sc12, sc13, sc14, sc15, scS, List.drop_succ_cons, List.drop_nil, x_pan, s_pan, b_pan, pE_ret, pE_pan, pE_none, pE_ite, pvE_some, pvE_none, pvE_ite, rv_some, rv_none, rv_ite, oR_ret, t_mv, t_pick, t_alloc, t_box, t_build, t_buildS, t_load, t_store, t_nilck, t_bin, t_eqb, t_eqA, t_eqp, t_un, t_conv, t_field, t_idxA, t_faddr, t_iaddrS, t_iaddrA, t_ext, t_len, t_mm, t_call, t_ifc, t_fn, t_slc, t_slcA, t_slcT, t_tass, t_isn, t_mks, t_app, t_pan, panE_i, optE_none, optE_some, bnd_none, bnd_int, slA_none, slA_some, appR_some, appOld_cells, newsV_s, newsV_n, lenS_s, appV_nil, appV_some, mksV_i, sh_c, sh_g, f_pan, endD_ret, dfr_normal, dfr_ret, dfr_pan, restD_normal, callD1, callC1, tassV, isnV, slcV, slcAV, slcTV, slcB, appNew, Option.bind_some, Option.bind_none, d_pan, h_pan, wrH_eq, wrX_cells, wrU_some, upH_nil, upH_cons, lk_upH, effR_some, effR_none, effR_ite, Option.isNone_none, Option.isNone_some, slA_zero, call_yield, e_range, it_func, wy_same, y_call, isLp_self, beg_normal, end_normal, end_ret, end_exit, end_ite, aft_ret, aft_ready, aft_done, aft_exit, setP_cons, setP_nil, sh_r, t_mkmap, t_mlook, t_mupd, t_mdel, mapF_some, lookF_some, setM_some, lookR_t, lookR_n, lookR_f, lookR_fn, lookV, mupdV, mdelV, mkM]
    · have hpb := beqI hp
      rw [show isP p c = false from hpb, if_neg (by decide)] at hct
      simp -implicitDefEqProofs (maxSteps := 10000000) (disch := omega) only [T6, L6, G6_8, V8_eq, G6_9, G6_10, V10_eq, G6_11, G6_13, G6_17, G6_21, V21_eq, hB, hR, hI, kp.l, kp.t5, kp.t7, kp.t11, kp.t13, kp.t14, kp.t15, kp.t16, kp.t17, kp.t18, lenV_sl, Int.toNat_natCast, bft, btf, gtst, st_len, hlC, hkn', hkn, k0, q0, hpb, pad, e_skip, e_ops, e_draw, d_none, d_nil, d_cons, d_ite, h_none, h_nil, h_cons, h_ite, eqS_same, lightV, e_seq, e_cond, e_block, e_exit, e_ret, s_normal, s_ret, s_exit, s_none, s_ite, b_normal, b_ret, b_exit, b_none, b_ite, c_bool, x_none, x_nil, x_cons, x_ite, p_some, p_none, p_ite, pt_some, pt_none, pv_some, pv_none, pv_ite, w_none, w_some, i_bool, i_undef, bt, bf, v_tmp, v_const, v_global, v_func, evs, f_normal, f_ret, f_none, f_ite, r_some, co_some, l_ptr, m_agg, m_one, sh_app, lk_nil, lk_cons, rd_eq, rdO_some, rdO_none, rdN_none, rdL_some, rdL_none, wrB_none, unitR_some, wr_nil, wr_here, wr_skip, k_cells, tk_zero, tk_take, tk_skip, tkC_some, call_func, gt, st, binV, arith, isSh, storeV, all1, idxAV, fieldV, faddrV, iaddrSV, iaddrAV, pickV, convV, unV, eqbV, eqpV, extV, mm2, mmV, nilckV, ress, res1, retV, Value.cells, cond_true, cond_false, Bool.true_or, Bool.false_or, Bool.or_true, Bool.or_false, beq_self_eq_true, if_true, if_false, ite_true, ite_false, decide_true, decide_false, decide_eq_true_eq, reduceIte, Nat.zero_add, Nat.add_zero, and_self, true_and, and_true, List.size_toArray, List.length_cons, List.length_nil, List.append_nil, List.nil_append, Int.toNat_zero, Bool.not_false, Bool.not_true, Bool.not_not, Bool.false_eq_true, Bool.true_eq_false, reduceCtorEq, Int.reduceLT, Int.reduceLE, Int.reduceToNat, Int.reduceAdd, Int.reduceSub, Int.reduceMul, Int.reduceNeg, Nat.reduceMul, Nat.reduceAdd, Nat.reduceSub, Nat.reduceBEq, Nat.reduceEqDiff, Nat.reduceLT, Nat.reduceLeDiff, Int.reduceBEq, Int.reduceEq, Nat.reducePow, Int.reducePow, IntWalk.i64_in, IntKind.bits, eqAV, eqL, leafEq, andO, fillV, buildSV, List.getElem?_toArray, List.getElem?_cons_zero, List.getElem?_cons_succ, List.getElem?_nil, Int.reduceGT, Int.reduceGE, Int.reduceBNe, Bool.true_and, Bool.and_true, Bool.false_and, Bool.and_false, Bool.and_self, IntWalk.u64_in, Int.cast_ofNat_Int, callF1, pad16, pad_0, pad_1, pad_2, pad_3, pad_4, pad_5, pad_6, pad_7, pad_8, pad_9, pad_10, pad_11, pad_12, pad_13, pad_14, pad_15, gc0, gc1, gc2, gc3, gc4, gc5, gc6, gc7, gc8, gc9, gc10, gc11, gc12, gc13, gc14, gc15, gcS, sc0, sc1, sc2, sc3, sc4, sc5, sc6, sc7, sc8, sc9, sc10, sc11, sc12, sc13, sc14, sc15, scS, List.drop_succ_cons, List.drop_nil, x_pan, s_pan, b_pan, pE_ret, pE_pan, pE_none, pE_ite, pvE_some, pvE_none, pvE_ite, rv_some, rv_none, rv_ite, oR_ret, t_mv, t_pick, t_alloc, t_box, t_build, t_buildS, t_load, t_store, t_nilck, t_bin, t_eqb, t_eqA, t_eqp, t_un, t_conv, t_field, t_idxA, t_faddr, t_iaddrS, t_iaddrA, t_ext, t_len, t_mm, t_call, t_ifc, t_fn, t_slc, t_slcA, t_slcT, t_tass, t_isn, t_mks, t_app, t_pan, panE_i, optE_none, optE_some, bnd_none, bnd_int, slA_none, slA_some, appR_some, appOld_cells, newsV_s, newsV_n, lenS_s, appV_nil, appV_some, mksV_i, sh_c, sh_g, f_pan, endD_ret, dfr_normal, dfr_ret, dfr_pan, restD_normal, callD1, callC1, tassV, isnV, slcV, slcAV, slcTV, slcB, appNew, Option.bind_some, Option.bind_none, d_pan, h_pan, wrH_eq, wrX_cells, wrU_some, upH_nil, upH_cons, lk_upH, effR_some, effR_none, effR_ite, Option.isNone_none, Option.isNone_some, slA_zero, call_yield, e_range, it_func, wy_same, y_call, isLp_self, beg_normal, end_normal, end_ret, end_exit, end_ite, aft_ret, aft_ready, aft_done, aft_exit, setP_cons, setP_nil, sh_r, t_mkmap, t_mlook, t_mupd, t_mdel, mapF_some, lookF_some, setM_some, lookR_t, lookR_n, lookR_f, lookR_fn, lookV, mupdV, mdelV, mkM]
      refine ok_some (.inl ⟨rfl, (gCls w).length - (k + 1), by omega, _, k + 1, rfl, ⟨?_, ?_, ?_, ?_, ?_, ?_, ?_, ?_, ?_, ?_⟩, by omega, rfl⟩)
      all_goals simp -implicitDefEqProofs (maxSteps := 10000000) (disch := omega) only [T6, L6, G6_8, V8_eq, G6_9, G6_10, V10_eq, G6_11, G6_13, G6_17, G6_21, V21_eq, hB, hR, hI, kp.l, kp.t5, kp.t7, kp.t11, kp.t13, kp.t14, kp.t15, kp.t16, kp.t17, kp.t18, lenV_sl, Int.toNat_natCast, bft, btf, gtst, st_len, hc2, hct, pad, e_skip, e_ops, e_draw, d_none, d_nil, d_cons, d_ite, h_none, h_nil, h_cons, h_ite, eqS_same, lightV, e_seq, e_cond, e_block, e_exit, e_ret, s_normal, s_ret, s_exit, s_none, s_ite, b_normal, b_ret, b_exit, b_none, b_ite, c_bool, x_none, x_nil, x_cons, x_ite, p_some, p_none, p_ite, pt_some, pt_none, pv_some, pv_none, pv_ite, w_none, w_some, i_bool, i_undef, bt, bf, v_tmp, v_const, v_global, v_func, evs, f_normal, f_ret, f_none, f_ite, r_some, co_some, l_ptr, m_agg, m_one, sh_app, lk_nil, lk_cons, rd_eq, rdO_some, rdO_none, rdN_none, rdL_some, rdL_none, wrB_none, unitR_some, wr_nil, wr_here, wr_skip, k_cells, tk_zero, tk_take, tk_skip, tkC_some, call_func, gt, st, binV, arith, isSh, storeV, all1, idxAV, fieldV, faddrV, iaddrSV, iaddrAV, pickV, convV, unV, eqbV, eqpV, extV, mm2, mmV, nilckV, ress, res1, retV, Value.cells, cond_true, cond_false, Bool.true_or, Bool.false_or, Bool.or_true, Bool.or_false, beq_self_eq_true, if_true, if_false, ite_true, ite_false, decide_true, decide_false, decide_eq_true_eq, reduceIte, Nat.zero_add, Nat.add_zero, and_self, true_and, and_true, List.size_toArray, List.length_cons, List.length_nil, List.append_nil, List.nil_append, Int.toNat_zero, Bool.not_false, Bool.not_true, Bool.not_not, Bool.false_eq_true, Bool.true_eq_false, reduceCtorEq, Int.reduceLT, Int.reduceLE, Int.reduceToNat, Int.reduceAdd, Int.reduceSub, Int.reduceMul, Int.reduceNeg, Nat.reduceMul, Nat.reduceAdd, Nat.reduceSub, Nat.reduceBEq, Nat.reduceEqDiff, Nat.reduceLT, Nat.reduceLeDiff, Int.reduceBEq, Int.reduceEq, Nat.reducePow, Int.reducePow, IntWalk.i64_in, IntKind.bits, eqAV, eqL, leafEq, andO, fillV, buildSV, List.getElem?_toArray, List.getElem?_cons_zero, List.getElem?_cons_succ, List.getElem?_nil, Int.reduceGT, Int.reduceGE, Int.reduceBNe, Bool.true_and, Bool.and_true, Bool.false_and, Bool.and_false, Bool.and_self, IntWalk.u64_in, Int.cast_ofNat_Int, callF1, pad16, pad_0, pad_1, pad_2, pad_3, pad_4, pad_5, pad_6, pad_7, pad_8, pad_9, pad_10, pad_11, pad_12, pad_13, pad_14, pad_15, gc0, gc1, gc2, gc3, gc4, gc5, gc6, gc7, gc8, gc9, gc10, gc11, gc12, gc13, gc14, gc15, gcS, sc0, sc1, sc2, sc3, sc4, sc5, sc6, sc7, sc8, sc9, sc10, sc11, sc12, sc13, sc14, sc15, scS, List.drop_succ_cons, List.drop_nil, x_pan, s_pan, b_pan, pE_ret, pE_pan, pE_none, pE_ite, pvE_some, pvE_none, pvE_ite, rv_some, rv_none, rv_ite, oR_ret, t_mv, t_pick, t_alloc, t_box, t_build, t_buildS, t_load, t_store, t_nilck, t_bin, t_eqb, t_eqA, t_eqp, t_un, t_conv, t_field, t_idxA, t_faddr, t_iaddrS, t_iaddrA, t_ext, t_len, t_mm, t_call, t_ifc, t_fn, t_slc, t_slcA, t_slcT, t_tass, t_isn, t_mks, t_app, t_pan, panE_i, optE_none, optE_some, bnd_none, bnd_int, slA_none, slA_some, appR_some, appOld_cells, newsV_s, newsV_n, lenS_s, appV_nil, appV_some, mksV_i, sh_c, sh_g, f_pan, endD_ret, dfr_normal, dfr_ret, dfr_pan, restD_normal, callD1, callC1, tassV, isnV, slcV, slcAV, slcTV, slcB, appNew, Option.bind_some, Option.bind_none, d_pan, h_pan, wrH_eq, wrX_cells, wrU_some, upH_nil, upH_cons, lk_upH, effR_some, effR_none, effR_ite, Option.isNone_none, Option.isNone_some, slA_zero, call_yield, e_range, it_func, wy_same, y_call, isLp_self, beg_normal, end_normal, end_ret, end_exit, end_ite, aft_ret, aft_ready, aft_done, aft_exit, setP_cons, setP_nil, sh_r, t_mkmap, t_mlook, t_mupd, t_mdel, mapF_some, lookF_some, setM_some, lookR_t, lookR_n, lookR_f, lookR_fn, lookV, mupdV, mdelV, mkM]
  obtain ⟨x, ⟨ts, H2, N2⟩, rfl, rfl, rfl, rfl, kp⟩ := hO
  simp only at kp
  have hbq : ∀ x : Int, (x == x) = true := fun x => by simp
  simp -implicitDefEqProofs (maxSteps := 10000000) (disch := omega) only [T6, L6, G6_8, V8_eq, G6_9, G6_10, V10_eq, G6_11, G6_13, G6_17, G6_21, V21_eq, hB, hR, hI, kp.l, kp.t5, kp.t7, kp.t11, kp.t13, kp.t14, kp.t15, kp.t16, kp.t17, kp.t18, lenV_sl, Int.toNat_natCast, bft, btf, gtst, st_len, hlD, hbq, pad, e_skip, e_ops, e_draw, d_none, d_nil, d_cons, d_ite, h_none, h_nil, h_cons, h_ite, eqS_same, lightV, e_seq, e_cond, e_block, e_exit, e_ret, s_normal, s_ret, s_exit, s_none, s_ite, b_normal, b_ret, b_exit, b_none, b_ite, c_bool, x_none, x_nil, x_cons, x_ite, p_some, p_none, p_ite, pt_some, pt_none, pv_some, pv_none, pv_ite, w_none, w_some, i_bool, i_undef, bt, bf, v_tmp, v_const, v_global, v_func, evs, f_normal, f_ret, f_none, f_ite, r_some, co_some, l_ptr, m_agg, m_one, sh_app, lk_nil, lk_cons, rd_eq, rdO_some, rdO_none, rdN_none, rdL_some, rdL_none, wrB_none, unitR_some, wr_nil, wr_here, wr_skip, k_cells, tk_zero, tk_take, tk_skip, tkC_some, call_func, gt, st, binV, arith, isSh, storeV, all1, idxAV, fieldV, faddrV, iaddrSV, iaddrAV, pickV, convV, unV, eqbV, eqpV, extV, mm2, mmV, nilckV, ress, res1, retV, Value.cells, cond_true, cond_false, Bool.true_or, Bool.false_or, Bool.or_true, Bool.or_false, beq_self_eq_true, if_true, if_false, ite_true, ite_false, decide_true, decide_false, decide_eq_true_eq, reduceIte, Nat.zero_add, Nat.add_zero, and_self, true_and, and_true, List.size_toArray, List.length_cons, List.length_nil, List.append_nil, List.nil_append, Int.toNat_zero, Bool.not_false, Bool.not_true, Bool.not_not, Bool.false_eq_true, Bool.true_eq_false, reduceCtorEq, Int.reduceLT, Int.reduceLE, Int.reduceToNat, Int.reduceAdd, Int.reduceSub, Int.reduceMul, Int.reduceNeg, Nat.reduceMul, Nat.reduceAdd, Nat.reduceSub, Nat.reduceBEq, Nat.reduceEqDiff, Nat.reduceLT, Nat.reduceLeDiff, Int.reduceBEq, Int.reduceEq, Nat.reducePow, Int.reducePow, IntWalk.i64_in, IntKind.bits, eqAV, eqL, leafEq, andO, fillV, buildSV, List.getElem?_toArray, List.getElem?_cons_zero, List.getElem?_cons_succ, List.getElem?_nil, Int.reduceGT, Int.reduceGE, Int.reduceBNe, Bool.true_and, Bool.and_true, Bool.false_and, Bool.and_false, Bool.and_self, IntWalk.u64_in, Int.cast_ofNat_Int, callF1, pad16, pad_0, pad_1, pad_2, pad_3, pad_4, pad_5, pad_6, pad_7, pad_8, pad_9, pad_10, pad_11, pad_12, pad_13, pad_14, pad_15, gc0, gc1, gc2, gc3, gc4, gc5, gc6, gc7, gc8, gc9, gc10, gc11, gc12, gc13, gc14, gc15, gcS, sc0, sc1, sc2, sc3, sc4, sc5, sc6, sc7, sc8, sc9, sc10, sc11, sc12, sc13, sc14, sc15, scS, List.drop_succ_cons, List.drop_nil, x_pan, s_pan, b_pan, pE_ret, pE_pan, pE_none, pE_ite, pvE_some, pvE_none, pvE_ite, rv_some, rv_none, rv_ite, oR_ret, t_mv, t_pick, t_alloc, t_box, t_build, t_buildS, t_load, t_store, t_nilck, t_bin, t_eqb, t_eqA, t_eqp, t_un, t_conv, t_field, t_idxA, t_faddr, t_iaddrS, t_iaddrA, t_ext, t_len, t_mm, t_call, t_ifc, t_fn, t_slc, t_slcA, t_slcT, t_tass, t_isn, t_mks, t_app, t_pan, panE_i, optE_none, optE_some, bnd_none, bnd_int, slA_none, slA_some, appR_some, appOld_cells, newsV_s, newsV_n, lenS_s, appV_nil, appV_some, mksV_i, sh_c, sh_g, f_pan, endD_ret, dfr_normal, dfr_ret, dfr_pan, restD_normal, callD1, callC1, tassV, isnV, slcV, slcAV, slcTV, slcB, appNew, Option.bind_some, Option.bind_none, d_pan, h_pan, wrH_eq, wrX_cells, wrU_some, upH_nil, upH_cons, lk_upH, effR_some, effR_none, effR_ite, Option.isNone_none, Option.isNone_some, slA_zero, call_yield, e_range, it_func, wy_same, y_call, isLp_self, beg_normal, end_normal, end_ret, end_exit, end_ite, aft_ret, aft_ready, aft_done, aft_exit, setP_cons, setP_nil, sh_r, t_mkmap, t_mlook, t_mupd, t_mdel, mapF_some, lookF_some, setM_some, lookR_t, lookR_n, lookR_f, lookR_fn, lookV, mupdV, mdelV, mkM]
  exact ⟨_, _, rfl⟩
end Go.Proofs.Ytkohdcjeankhkaa
namespace Go.Proofs.Ytkohdcjeankhkaa
open Go.Proofs.Ytkohdcjeankhkaa.K Go.ChangeShapes Go.WideShapes Go.ChangeAt Go.RowKit
set_option maxRecDepth 100000
set_option linter.unusedSimpArgs false
set_option linter.unusedVariables false

namespace histOne
theorem own : ownKnob Try.prog.godebug = none := by kernel_rfl
theorem laidOut : laidOutB Try.prog = true := by kernel_rfl
theorem typesOk : (Try.f6.params.toList.all fun t => Try.prog.readableRec t && decide (t < Try.prog.types.size)) = true := by kernel_rfl
theorem contract (H : Type) (enc : TypeId × Value → H) (W : World) (base : Nat) (args : Array Value) (ds gs : List (DataW H)) (before : List MemPlace)
    (hval : ∀ (j : Nat) t v, Try.f6.params[j]? = some t → args[j]? = some v → Value.okWide Try.prog W .any base t v)
    (hW : DataW.Whole enc Try.prog Try.f6.params.toList Rows.histOneSpec.vars false W args.toList ds gs before) (hL : laidMetH Try.prog Rows.histOneRow.laid W) :
    Calls Try.prog 6 args W fun e W' => ∃ v, e = .returned v ∧ Rows.histOneSpec.post enc Try.prog Try.f6 false true false false W args v W' := by
  have hW' := hW
  obtain ⟨p, q, hA0, hV, hpq, hfz, hnd⟩ := hW
  have hA : DataW.TrodAll enc Try.prog W 0 (fun _ => true) true Try.f6.params.toList args.toList ds p := hA0
  rw [Try.params6] at hA hval
  obtain ⟨v0, vs0, d0, ds0, p0, q0, hargs, rfl, rfl, h0, r0⟩ := trodAll_cons hA
  obtain ⟨v1, vs1, d1, ds1, p1, q1, rfl, rfl, rfl, h1, r1⟩ := trodAll_cons r0
  obtain ⟨rfl, rfl, rfl⟩ := trodAll_nil r1
  obtain rfl : args = #[v0, v1] := by apply Array.ext'; simpa using hargs
  obtain ⟨rfl, rfl⟩ := trodVars_none hV
  have s0 := open_flats (P := Try.prog) 20 Try.underlying22 (show leafs Try.prog 20 61 = some [.int .i64, .int .i64, .int .i64] by kernel_rfl) (show Try.prog.cellsOf 61 = 3 by kernel_rfl) (by decide) (hval 0 22 v0 rfl rfl) h0
  obtain ⟨x1, rfl, rfl, rfl, w1⟩ := open_int Try.underlying3 (hval 1 3 v1 rfl rfl) h1
  have b1 := i64_wf w1
  refine law_post laidOut (fun t ht => by simpa using List.all_eq_true.1 typesOk t ht) rfl (show Try.f6.resultTypes = #[4] by rfl) Try.underlying4 hW' rfl rfl rfl ?_
  obtain ⟨w, hw, hb⟩ := raw3_open s0
  have hs := callF_sound (w0 := W) (B := startB W) mixedOrders sG6 1300 Try.func6 low6
  exact law_calls hs (args := [v0, .int .i64 x1]) fun N hN => lv6 b1 hb [] N hN (hw.rd r3_len)

noncomputable def laidWorld (os : Os) : World := laidW Try.prog os []
theorem laid_met (os : Os) : laidMet Try.prog Rows.histOneRow.laid ((laidWorld os).forCall (fun _ _ => 0) ⟨#[], #[.slice none 0 0, .int .i64 0], []⟩).memory :=
  laidMet_of_run' 16 (by kernel_rfl) (by kernel_rfl)
theorem reads (os : Os) {H : Type} (enc : TypeId × Value → H) : ∃ places, DataW.whole enc Try.prog ((laidWorld os).forCall (fun _ _ => 0) ⟨#[], #[.slice none 0 0, .int .i64 0], []⟩).memory Try.f6.params.toList Rows.histOneSpec.vars false (#[.slice none 0 0, .int .i64 0] : Array Value).toList 16 = some ([.nil, .lit (.int .i64 0)], [], places) :=
  ⟨[], by kernel_rfl⟩
theorem lifted (os : Os) (started : os.Started) (H : Type) (enc : TypeId × Value → H) (F : Stop.Interp) :
    ReturnsInHanded {} Try.checked os 6 .any ((OpenSpec.ofChange Rows.histOneSpec).preRow enc Try.prog Try.f6 Rows.histOneRow.domain false Rows.histOneRow.laid) (((OpenSpec.ofChange Rows.histOneSpec).at F).post enc Try.prog Try.f6 false true false false) := by
  obtain ⟨places, hx⟩ := reads os enc
  refine returnsInHanded_of_row (C := Try.checked) (s := OpenSpec.ofChange Rows.histOneSpec) own started (by kernel_rfl) Try.func6
    (witness_row_at (enc := enc) (C := Try.checked) false (laidWorld os) #[.slice none 0 0, .int .i64 0] rfl (by kernel_rfl) (by kernel_rfl) (by kernel_rfl)
      (OpenSpec.preRow_of_cond 16 hx (by kernel_rfl) (fun k hk => by cases hk) (by kernel_rfl) (laid_met os))) ?_
  intro W base args ds gs before hval hW _ _ _ hL _ _
  exact contract H enc W base args ds gs before hval hW hL
theorem said : Rows.HistOneSaid :=
  OpenClaim.holds_of_cond 6 Try.f6 rfl rfl rfl rfl rfl rfl rfl ⟨rfl, rfl, rfl, rfl, rfl⟩ rfl rfl rfl rfl rfl (by kernel_rfl) Try.func6 (by kernel_rfl)
    (of_decide_eq_true (by kernel_rfl)) (by unfold Func.isWrapper; first | (rw [if_pos (by decide +kernel)]; kernel_rfl) | (rw [if_neg (by decide +kernel)]; exact ⟨rfl, rfl⟩))
    (fun os started H enc _ F => by rw [OpenClaim.pre_eq_preRow]; exact lifted os started H enc F)
end histOne
end Go.Proofs.Ytkohdcjeankhkaa
