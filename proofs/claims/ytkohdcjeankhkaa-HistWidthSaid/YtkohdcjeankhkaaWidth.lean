/- The statement HistWidth of layer 20: whatever the input, it answers true and leaves its input as it was. -/
import Derived.Test.YtkohdcjeankhkaaOwnD
import Derived.Test.YtkohdcjeankhkaaRows
set_option linter.unusedSimpArgs false
set_option linter.unusedVariables false
namespace Go.Proofs.Ytkohdcjeankhkaa
open Go.Proofs.Ytkohdcjeankhkaa.K
/-! ### More about raw histories -/
theorem gMany_le (w : List R3) : gMany w ≤ 30 ∧ gMany w ≤ w.length := by unfold gMany; omega
theorem g_err (w : List R3) : cErr (gEvs w) = 0 := cErr_fine (by rw [gEvs_len]; have := gMany_le w; omega) (by rw [gEvs_len]; exact gFine w)
theorem g_cls (w : List R3) : cls (gEvs w) = gCls w := by rw [cls_fine (g_err w), gEvs_len]; rfl
theorem gCls_len (w : List R3) : (gCls w).length ≤ 30 := by
  have := cLen (gMany w) (gEvs w) (gMany w)
  have := gMany_le w
  unfold gCls; omega
theorem gEvs_p {w : List R3} {i : Nat} {x : Ev} (h : (gEvs w)[i]? = some x) : 0 ≤ x.p ∧ x.p < 5 := by
  have hi : i < gMany w := by have := (List.getElem?_eq_some_iff.1 h).1; rwa [gEvs_len] at this
  have hb := pk_b (x := (w.getD i (0, 0, 0)).1) (n := 5) (by omega)
  have := gEvs_at w i hi
  rw [getD_some h] at this
  split at this <;> (subst this; exact hb)
/-! ### How many are under way -/
def unw (i : Int) (c : Cl) : Bool := decide (c.f ≤ i) && decide (i < c.t)
def cnt (C : List Cl) (i : Int) : Nat := C.countP (unw i)
theorem countP_one {α : Type} {p q : α → Bool} : ∀ {l : List α} {a : Nat} {c : α}, l[a]? = some c → p c = false → q c = true → (∀ b d, b ≠ a → l[b]? = some d → p d = q d) → l.countP q = l.countP p + 1
  | x :: l, 0, c, h, hp, hq, ho => by
    obtain rfl : x = c := by simpa using h
    have : l.countP q = l.countP p := List.countP_congr fun d hd => by
      obtain ⟨b, hb⟩ := List.getElem?_of_mem hd
      rw [ho (b + 1) d (by omega) (by simpa using hb)]
    simp [List.countP_cons, hp, hq, this]
  | x :: l, a + 1, c, h, hp, hq, ho => by
    have ih := countP_one (l := l) (a := a) (c := c) (by simpa using h) hp hq (fun b d hb hd => ho (b + 1) d (by omega) (by simpa using hd))
    have hx := ho 0 x (by omega) rfl
    simp only [List.countP_cons, ih, hx]; omega
  | [], a, c, h, _, _, _ => by simp at h
section
variable {n : Nat} {l : List Ev} {o : Om} {C : List Cl}
theorem Inv.f_inj {j : Nat} (h : Inv n l j o C) {a b : Nat} {c d : Cl} (hc : C[a]? = some c) (hd : C[b]? = some d) (e : c.f = d.f) : a = b := by
  rcases Nat.lt_trichotomy a b with h' | h' | h'
  · have := h.mo a b c d hc hd h'; omega
  · exact h'
  · have := h.mo b a d c hd hc h'; omega
theorem Inv.t_inj {j : Nat} (h : Inv n l j o C) {a b : Nat} {c d : Cl} (hc : C[a]? = some c) (hd : C[b]? = some d) (dc : c.d = true) (dd : d.d = true) (e : c.t = d.t) : a = b := by
  obtain ⟨i, e1, e2, e3, e4⟩ := h.dn a c hc dc
  obtain ⟨i', f1, f2, f3, f4⟩ := h.dn b d hd dd
  obtain rfl : i = i' := by omega
  rw [e4] at f4
  have hp : c.p = d.p := by injection f4 with f4; injection f4
  rcases Nat.lt_trichotomy a b with h' | h' | h'
  · have := (h.se a b c d hc hd h' hp).2; omega
  · exact h'
  · have := (h.se b a d c hd hc h' hp.symm).2; omega
theorem Inv.f_ne {j : Nat} (h : Inv n l j o C) {a b : Nat} {c d : Cl} (hc : C[a]? = some c) (hd : C[b]? = some d) (dd : d.d = true) : c.f ≠ d.t := fun e => by
  obtain ⟨i, e1, e2, e4⟩ := h.fr a c hc
  obtain ⟨i', f1, f2, f3, f4⟩ := h.dn b d hd dd
  obtain rfl : i = i' := by omega
  rw [e4] at f4
  injection f4 with f4
  injection f4 with _ f5
  cases f5
theorem cnt_step (h : Inv n l n o C) (i : Nat) (hi : i < n) : (cnt C (i : Int) : Int) = (cnt C ((i : Int) - 1) : Int) + (if (l.getD i e0).b = true then 1 else -1) := by
  obtain ⟨a, c, hc, h1⟩ := h.al i hi
  obtain ⟨q, q1, q2, q3⟩ := h.fr a c hc
  rcases h1 with h1 | ⟨hd, h1⟩
  · obtain rfl : q = i := by omega
    rw [getD_some q3]
    have ht : c.t > q := by
      cases hd : c.d with
      | true => obtain ⟨i', e1, e2, _⟩ := h.dn a c hc hd; omega
      | false => have := (h.nd a c hc hd).1; omega
    have := countP_one (p := unw ((q : Int) - 1)) (q := unw (q : Int)) hc (by simp [unw]; omega) (by simp [unw]; omega) (fun b d hb hd => by
      have f1 : d.f ≠ q := fun e => hb (h.f_inj hd hc (by omega))
      have t1 : d.t ≠ q := fun e => by
        cases dd : d.d with
        | true => exact h.f_ne hc hd dd (by omega)
        | false => have := (h.nd b d hd dd).1; omega
      have e1 : decide (d.f ≤ (q : Int) - 1) = decide (d.f ≤ q) := by rw [decide_eq_decide]; omega
      have e2 : decide ((q : Int) - 1 < d.t) = decide ((q : Int) < d.t) := by rw [decide_eq_decide]; omega
      simp only [unw, e1, e2])
    unfold cnt
    simp only [if_true]
    omega
  · obtain ⟨i', e1, e2, e3, e4⟩ := h.dn a c hc hd
    obtain rfl : i' = i := by omega
    rw [getD_some e4]
    have := countP_one (p := unw (i' : Int)) (q := unw ((i' : Int) - 1)) hc (by simp [unw]; omega) (by simp [unw]; omega) (fun b d hb hd' => by
      have f1 : d.f ≠ i' := fun e => h.f_ne hd' hc hd (by omega)
      have t1 : d.t ≠ i' := fun e => by
        cases dd : d.d with
        | true => exact hb (h.t_inj hd' hc dd hd (by omega))
        | false => have := (h.nd b d hd' dd).1; omega
      have e1 : decide (d.f ≤ (i' : Int) - 1) = decide (d.f ≤ i') := by rw [decide_eq_decide]; omega
      have e2 : decide ((i' : Int) - 1 < d.t) = decide ((i' : Int) < d.t) := by rw [decide_eq_decide]; omega
      simp only [unw, e1, e2])
    unfold cnt
    simp only [Bool.false_eq_true, if_false]
    omega
theorem cnt_run (h : Inv n l n o C) : ∀ j, j ≤ n → (wRun l j).1 = (cnt C ((j : Int) - 1) : Int)
  | 0, _ => by
    have : cnt C ((0 : Nat) - 1 : Int) = 0 := by
      unfold cnt
      rw [List.countP_eq_zero]
      intro c hc
      obtain ⟨a, ha⟩ := List.getElem?_of_mem hc
      obtain ⟨i, e1, _⟩ := h.fr a c ha
      simp [unw]; omega
    rw [this]; rfl
  | j + 1, hj => by
    have ih := cnt_run h j (by omega)
    have hs := cnt_step h j (by omega)
    have e : ((j + 1 : Nat) : Int) - 1 = j := by omega
    rw [e, hs, ← ih]
    simp only [wRun]
    split <;> rfl
theorem wid_step (h : Inv n l n o C) (j : Nat) (hj : j < n) : (wRun l (j + 1)).2 = if (cnt C (j : Int) : Int) > (wRun l j).2 then (cnt C (j : Int) : Int) else (wRun l j).2 := by
  have := cnt_run h (j + 1) (by omega)
  rw [show ((j + 1 : Nat) : Int) - 1 = j by omega] at this
  rw [← this]; rfl
theorem wRun_mono (l : List Ev) (j : Nat) : ∀ d, (wRun l j).2 ≤ (wRun l (j + d)).2
  | 0 => by simp
  | d + 1 => by
    have := wRun_mono l j d
    show _ ≤ (wRun l (j + d + 1)).2
    simp only [wRun]
    split <;> split <;> omega
theorem wRun_take (l : List Ev) (k : Nat) : ∀ j, j ≤ k → wRun (l.take k) j = wRun l j
  | 0, _ => rfl
  | j + 1, h => by
    have ih := wRun_take l k j (by omega)
    have : (l.take k).getD j e0 = l.getD j e0 := by
      rw [List.getD_eq_getElem?_getD, List.getD_eq_getElem?_getD, List.getElem?_take, if_pos (by omega)]
    simp only [wRun, ih, this]
end
theorem pig : ∀ (m : Nat) (L : List Nat), L.Nodup → (∀ x ∈ L, x < m) → L.length ≤ m
  | 0, L, _, h => by
    cases L with
    | nil => simp
    | cons x L => have := h x List.mem_cons_self; omega
  | m + 1, L, hn, h => by
    by_cases hm : m ∈ L
    · have h1 := pig m (L.erase m) (hn.erase m) (fun x hx => by
        have h2 := h x (List.mem_of_mem_erase hx)
        have hne : x ≠ m := (hn.mem_erase_iff.1 hx).1
        omega)
      rw [List.length_erase_of_mem hm] at h1; omega
    · have := pig m L hn (fun x hx => by
        have h1 := h x hx
        have h2 : x ≠ m := fun e => hm (e ▸ hx)
        omega)
      omega
theorem cnt_five {w : List R3} (i : Int) : cnt (gCls w) i ≤ 5 := by
  have h := gInv w
  have hp : ∀ c ∈ gCls w, 0 ≤ c.p ∧ c.p < 5 := fun c hc => by
    obtain ⟨a, ha⟩ := List.getElem?_of_mem hc
    obtain ⟨i, _, _, e⟩ := h.fr a c ha
    exact gEvs_p e
  unfold cnt
  rw [List.countP_eq_length_filter]
  have := pig 5 (((gCls w).filter (unw i)).map fun c => c.p.toNat) ?_ ?_
  · simpa using this
  · unfold List.Nodup
    rw [List.pairwise_map, List.pairwise_filter, List.pairwise_iff_getElem]
    intro a b ha hb hab u1 u2 e
    have p1 := hp _ (List.getElem_mem ha)
    have p2 := hp _ (List.getElem_mem hb)
    have := (h.se a b _ _ (List.getElem?_eq_getElem ha) (List.getElem?_eq_getElem hb) hab (by omega)).2
    simp only [unw, Bool.and_eq_true, decide_eq_true_eq] at u1 u2
    omega
  · intro x hx
    obtain ⟨c, hc, rfl⟩ := List.mem_map.1 hx
    have := hp c (List.mem_filter.1 hc).1
    omega
theorem g_wid (w : List R3) : wid (gEvs w) = (wRun (gEvs w) (gMany w)).2 := by rw [wid_fine (g_err w), gEvs_len]
theorem g_wid_step (w : List R3) (j : Nat) (hj : j < gMany w) : (wRun (gEvs w) (j + 1)).2 = if (cnt (gCls w) (j : Int) : Int) > (wRun (gEvs w) j).2 then (cnt (gCls w) (j : Int) : Int) else (wRun (gEvs w) j).2 := wid_step (gInv w) j hj
theorem g_wid5 (w : List R3) : ∀ j, j ≤ gMany w → 0 ≤ (wRun (gEvs w) j).2 ∧ (wRun (gEvs w) j).2 ≤ 5
  | 0, _ => by simp [wRun]
  | j + 1, hj => by
    have := g_wid5 w j (by omega)
    have h5 := cnt_five (w := w) (j : Int)
    rw [g_wid_step w j (by omega)]
    split <;> omega
theorem g_wid0 (w : List R3) : wid (gEvs w) = 0 ↔ gMany w = 0 := by
  constructor
  · intro h
    by_cases hm : gMany w = 0
    · exact hm
    · have h1 := g_wid_step w 0 (by omega)
      obtain ⟨a, c, hc, h2⟩ := (gInv w).al 0 (by omega)
      obtain ⟨q, q1, q2, _⟩ := (gInv w).fr a c hc
      have hf : c.f = 0 ∧ 0 < c.t := by
        cases hd : c.d with
        | true =>
          obtain ⟨i', e1, e2, _⟩ := (gInv w).dn a c hc hd
          rcases h2 with h2 | ⟨_, h2⟩ <;> omega
        | false =>
          have := ((gInv w).nd a c hc hd).1
          rcases h2 with h2 | ⟨h3, h2⟩
          · omega
          · rw [hd] at h3; cases h3
      have hpos : 0 < cnt (gCls w) 0 := by
        unfold cnt
        rw [List.countP_pos_iff]
        exact ⟨c, List.mem_of_getElem? hc, by simp [unw]; omega⟩
      have hm' := wRun_mono (gEvs w) 1 (gMany w - 1)
      rw [show 1 + (gMany w - 1) = gMany w by omega, ← g_wid, h] at hm'
      have z : (wRun (gEvs w) 0).2 = 0 := rfl
      rw [z, if_pos (by simpa using hpos)] at h1
      simp only [Nat.zero_add] at h1
      rw [h1] at hm'
      simp at hm'; omega
  · intro h
    rw [g_wid, h]; rfl
theorem gRun_take (w : List R3) (k : Nat) : ∀ j, j ≤ k → gRun (w.take k) j = gRun w j
  | 0, _ => rfl
  | j + 1, h => by
    have ih := gRun_take w k j (by omega)
    have : (w.take k).getD j (0, 0, 0) = w.getD j (0, 0, 0) := by
      rw [List.getD_eq_getElem?_getD, List.getD_eq_getElem?_getD, List.getElem?_take, if_pos (by omega)]
    simp only [gRun, ih, this]
theorem gEvs_take (w : List R3) (k : Nat) (hk : k ≤ gMany w) : (gEvs w).take k = gEvs (w.take k) := by
  have hm : gMany (w.take k) = k := by unfold gMany at hk ⊢; rw [List.length_take]; omega
  unfold gEvs
  rw [hm, gRun_take w k k (Nat.le_refl _)]
  have hl := gRun_len w k
  refine List.ext_getElem? fun i => ?_
  rcases Nat.lt_or_ge i k with h | h
  · rw [List.getElem?_take, if_pos h]
    have := gRun_pre w (gMany w - k) k i ((gRun w k).2.getD i e0) (some_getD (by omega))
    rw [show k + (gMany w - k) = gMany w by omega] at this
    rw [this]; exact (some_getD (by omega)).symm
  · rw [List.getElem?_eq_none (by rw [List.length_take]; omega), List.getElem?_eq_none (by omega)]
theorem g_wid_take (w : List R3) (k : Nat) (hk : k ≤ gMany w) : cErr ((gEvs w).take k) = 0 ∧ wid ((gEvs w).take k) ≤ wid (gEvs w) := by
  have he : cErr ((gEvs w).take k) = 0 := by rw [gEvs_take w k hk]; exact g_err _
  refine ⟨he, ?_⟩
  have hl : ((gEvs w).take k).length = k := by rw [List.length_take, gEvs_len]; omega
  rw [wid_fine he, hl, wRun_take _ _ _ (Nat.le_refl _), g_wid]
  have := wRun_mono (gEvs w) k (gMany w - k)
  rwa [show k + (gMany w - k) = gMany w by omega] at this
theorem cnt_take {C : List Cl} {q : Cl → Bool} {k : Nat} (h : k < C.length) : (C.take (k + 1)).countP q = if q (C.getD k z0) = true then (C.take k).countP q + 1 else (C.take k).countP q := by
  have : C.take (k + 1) = C.take k ++ [C.getD k z0] := by rw [List.take_add_one, some_getD (d := z0) h]; rfl
  rw [this, List.countP_append]
  generalize C.getD k z0 = x
  split <;> simp_all
theorem cnt_take_le {C : List Cl} {q : Cl → Bool} {k : Nat} : (C.take k).countP q ≤ k := by
  have h1 := List.countP_le_length (p := q) (l := C.take k)
  rw [List.length_take] at h1
  omega
theorem SlR.take {α : Type} {f : α → List Value} {sz : Nat} {B : OH} {H : HL} {a : Option Addr} {n cap k : Nat} {L : List α} (h : SlR f sz B H (.slice a n cap) L) (hk : k ≤ L.length) : SlR f sz B H (.slice a k cap) (L.take k) := by
  obtain ⟨a', cap', e, h2⟩ := h
  injection e with e1 e2 e3
  subst e1 e2 e3
  have hl : (L.take k).length = k := by rw [List.length_take]; omega
  refine ⟨a, cap, by rw [hl], h2.imp (fun h => by subst h; simp) ?_⟩
  rintro ⟨b, o, h3, h4, h5⟩
  refine ⟨b, o, h3, h4, fun H' hF i j n d hi hj => ?_⟩
  rw [h5 H' hF i j n d (by omega) hj]
  have : (L.take k).getD i d = L.getD i d := by
    rw [List.getD_eq_getElem?_getD, List.getD_eq_getElem?_getD, List.getElem?_take, if_pos (by omega)]
  rw [this]
end Go.Proofs.Ytkohdcjeankhkaa
namespace Go.Proofs.Ytkohdcjeankhkaa
open Go.Proofs.Ytkohdcjeankhkaa.K Go.ChangeShapes Go.WideShapes Go.ChangeAt Go.RowKit
set_option maxRecDepth 100000
set_option linter.unusedSimpArgs false
set_option linter.unusedVariables false

theorem slA_ite {a : Option Addr} {c : Prop} [Decidable c] : slA a (if c then 0 else 0) = some a := by split <;> cases a <;> rfl
/-- whitewash/whitewashlaw20.HistWidth -/
def L7 : FnL := ⟨(.seq (.ops [⟨(some 4), .mv (.const (.bool false)), none⟩])
 (.seq (.ops [⟨(some 17), .call (.func 8) [], none⟩, ⟨(some 5), .mv (.tmp 17), none⟩])
 (.seq (.ops [⟨(some 18), .mv (.tmp 0), none⟩, ⟨(some 19), .call (.func 9) [(.tmp 18)], none⟩, ⟨(some 6), .mv (.tmp 19), none⟩])
 (.seq (.ops [⟨(some 21), .mv (.tmp 6), none⟩, ⟨(some 22), .call (.func 13) [(.tmp 21)], none⟩, ⟨(some 20), .mv (.tmp 22), none⟩, ⟨(some 23), .ext (.tmp 20) 0, none⟩, ⟨(some 24), .ext (.tmp 20) 1, none⟩, ⟨(some 7), .mv (.tmp 23), none⟩, ⟨(some 8), .mv (.tmp 24), none⟩])
 (.seq (.ops [⟨(some 26), .mv (.tmp 6), none⟩, ⟨(some 27), .call (.func 11) [(.tmp 26)], none⟩, ⟨(some 25), .mv (.tmp 27), none⟩, ⟨(some 28), .ext (.tmp 25) 0, none⟩, ⟨(some 29), .ext (.tmp 25) 1, none⟩, ⟨(some 9), .mv (.tmp 28), none⟩, ⟨(some 10), .mv (.tmp 29), none⟩])
 (.seq (.seq (.ops [⟨(some 30), .mv (.tmp 8), none⟩, ⟨(some 31), .bin .neq (.tmp 30) (.const (.int .i64 0)), none⟩, ⟨(some 32), .mv (.tmp 31), none⟩, ⟨(some 33), .mv (.tmp 10), (some (32, false))⟩, ⟨(some 34), .bin .neq (.tmp 33) (.const (.int .i64 0)), (some (32, false))⟩, ⟨(some 35), .pick (.tmp 32) (.const (.bool true)) (.tmp 34), none⟩, ⟨(some 36), .mv (.tmp 35), none⟩, ⟨(some 37), .mv (.tmp 7), (some (36, false))⟩, ⟨(some 38), .bin .lss (.tmp 37) (.const (.int .i64 0)), (some (36, false))⟩, ⟨(some 39), .pick (.tmp 36) (.const (.bool true)) (.tmp 38), none⟩, ⟨(some 40), .mv (.tmp 39), none⟩, ⟨(some 41), .mv (.tmp 7), (some (40, false))⟩, ⟨(some 42), .bin .gtr (.tmp 41) (.const (.int .i64 5)), (some (40, false))⟩, ⟨(some 43), .pick (.tmp 40) (.const (.bool true)) (.tmp 42), none⟩, ⟨(some 44), .mv (.tmp 43), none⟩, ⟨(some 45), .mv (.tmp 7), (some (44, false))⟩, ⟨(some 46), .bin .eql (.tmp 45) (.const (.int .i64 0)), (some (44, false))⟩, ⟨(some 47), .mv (.tmp 6), (some (44, false))⟩, ⟨(some 48), .len false (.tmp 47), (some (44, false))⟩, ⟨(some 49), .bin .eql (.tmp 48) (.const (.int .i64 0)), (some (44, false))⟩, ⟨(some 50), .eqb true (.tmp 46) (.tmp 49), (some (44, false))⟩, ⟨(some 51), .pick (.tmp 44) (.const (.bool true)) (.tmp 50), none⟩])
 (.cond (.tmp 51) (.seq (.ops [⟨(some 4), .mv (.const (.bool false)), none⟩])
 .ret)
 .skip))
 (.seq (.ops [⟨(some 11), .mv (.const (.int .i64 0)), none⟩])
 (.seq (.seq (.ops [⟨(some 12), .mv (.const (.int .i64 0)), none⟩])
 (.block 0 (.loop (.seq (.seq (.ops [⟨(some 52), .mv (.tmp 12), none⟩, ⟨(some 53), .mv (.tmp 6), none⟩, ⟨(some 54), .len false (.tmp 53), none⟩, ⟨(some 55), .bin .lss (.tmp 52) (.tmp 54), none⟩])
 (.cond (.tmp 55) .skip
 (.exit 0)))
 (.seq (.block 1 (.seq (.ops [⟨(some 13), .mv (.const (.int .i64 0)), none⟩])
 (.seq (.seq (.ops [⟨(some 14), .mv (.const (.int .i64 0)), none⟩])
 (.block 2 (.loop (.seq (.seq (.ops [⟨(some 58), .mv (.tmp 14), none⟩, ⟨(some 59), .mv (.tmp 9), none⟩, ⟨(some 60), .len false (.tmp 59), none⟩, ⟨(some 61), .bin .lss (.tmp 58) (.tmp 60), none⟩])
 (.cond (.tmp 61) .skip
 (.exit 2)))
 (.seq (.block 3 (.seq (.ops [⟨(some 64), .mv (.tmp 9), none⟩, ⟨(some 65), .mv (.tmp 14), none⟩, ⟨(some 66), .iaddrS 9 (.tmp 64) (.tmp 65), none⟩, ⟨(some 67), .faddr 6 (.tmp 66), none⟩, ⟨(some 68), .load false 1 (.tmp 67), none⟩, ⟨(some 69), .mv (.tmp 12), none⟩, ⟨(some 70), .bin .leq (.tmp 68) (.tmp 69), none⟩, ⟨(some 71), .mv (.tmp 70), none⟩, ⟨(some 72), .mv (.tmp 12), (some (71, true))⟩, ⟨(some 73), .mv (.tmp 9), (some (71, true))⟩, ⟨(some 74), .mv (.tmp 14), (some (71, true))⟩, ⟨(some 75), .iaddrS 9 (.tmp 73) (.tmp 74), (some (71, true))⟩, ⟨(some 76), .faddr 7 (.tmp 75), (some (71, true))⟩, ⟨(some 77), .load false 1 (.tmp 76), (some (71, true))⟩, ⟨(some 78), .bin .lss (.tmp 72) (.tmp 77), (some (71, true))⟩, ⟨(some 79), .pick (.tmp 71) (.tmp 78) (.const (.bool false)), none⟩])
 (.cond (.tmp 79) (.ops [⟨(some 80), .mv (.tmp 13), none⟩, ⟨(some 81), .bin .add (.tmp 80) (.const (.int .i64 1)), none⟩, ⟨(some 13), .mv (.tmp 81), none⟩])
 .skip)))
 (.ops [⟨(some 62), .mv (.tmp 14), none⟩, ⟨(some 63), .bin .add (.tmp 62) (.const (.int .i64 1)), none⟩, ⟨(some 14), .mv (.tmp 63), none⟩]))))))
 (.ops [⟨(some 82), .mv (.tmp 11), none⟩, ⟨(some 83), .mv (.tmp 13), none⟩, ⟨(some 84), .mm true [(.tmp 82), (.tmp 83)], none⟩, ⟨(some 11), .mv (.tmp 84), none⟩]))))
 (.ops [⟨(some 56), .mv (.tmp 12), none⟩, ⟨(some 57), .bin .add (.tmp 56) (.const (.int .i64 1)), none⟩, ⟨(some 12), .mv (.tmp 57), none⟩]))))))
 (.seq (.ops [⟨(some 86), .mv (.tmp 6), none⟩, ⟨(some 87), .mv (.tmp 1), none⟩, ⟨(some 88), .mv (.tmp 6), none⟩, ⟨(some 89), .len false (.tmp 88), none⟩, ⟨(some 90), .bin .add (.tmp 89) (.const (.int .i64 1)), none⟩, ⟨(some 91), .call (.func 10) [(.tmp 87), (.tmp 90)], none⟩, ⟨(some 92), .slc 7 (.tmp 86) none (some (.tmp 91)) none, none⟩, ⟨(some 93), .call (.func 13) [(.tmp 92)], none⟩, ⟨(some 85), .mv (.tmp 93), none⟩, ⟨(some 94), .ext (.tmp 85) 0, none⟩, ⟨(some 95), .ext (.tmp 85) 1, none⟩, ⟨(some 15), .mv (.tmp 94), none⟩, ⟨(some 16), .mv (.tmp 95), none⟩])
 (.seq (.ops [⟨(some 96), .mv (.tmp 5), none⟩, ⟨(some 97), .mv (.tmp 96), none⟩, ⟨(some 98), .mv (.tmp 16), (some (97, true))⟩, ⟨(some 99), .bin .eql (.tmp 98) (.const (.int .i64 0)), (some (97, true))⟩, ⟨(some 100), .pick (.tmp 97) (.tmp 99) (.const (.bool false)), none⟩, ⟨(some 101), .mv (.tmp 100), none⟩, ⟨(some 102), .mv (.tmp 15), (some (101, true))⟩, ⟨(some 103), .mv (.tmp 7), (some (101, true))⟩, ⟨(some 104), .bin .leq (.tmp 102) (.tmp 103), (some (101, true))⟩, ⟨(some 105), .pick (.tmp 101) (.tmp 104) (.const (.bool false)), none⟩, ⟨(some 106), .mv (.tmp 105), none⟩, ⟨(some 107), .mv (.tmp 11), (some (106, true))⟩, ⟨(some 108), .mv (.tmp 7), (some (106, true))⟩, ⟨(some 109), .bin .eql (.tmp 107) (.tmp 108), (some (106, true))⟩, ⟨(some 110), .pick (.tmp 106) (.tmp 109) (.const (.bool false)), none⟩, ⟨(some 4), .mv (.tmp 110), none⟩])
 .ret)))))))))),
 111, [.tmp 4]⟩
theorem low7 : lowerFn Try.prog Try.f7 = some L7 := by kernel_rfl
noncomputable def G7 (B : OH) : Nat → Cs
  | 8 => V8 B
  | 9 => V9 B
  | 10 => V10 B
  | 11 => V11 B
  | 13 => V13 B
  | _ => fun _ _ _ => none
theorem G7_8 {B : OH} : G7 B 8 = V8 B := rfl
theorem G7_9 {B : OH} : G7 B 9 = V9 B := rfl
theorem G7_10 {B : OH} : G7 B 10 = V10 B := rfl
theorem G7_11 {B : OH} : G7 B 11 = V11 B := rfl
theorem G7_13 {B : OH} : G7 B 13 = V13 B := rfl
theorem sG7 {w0 : World} {B : OH} : SoundG Try.prog w0 B { f := G7 B } := .of fun k => by
  unfold G7
  split
  · exact .inr ⟨en8, sV8⟩
  · exact .inr ⟨en9, sV9⟩
  · exact .inr ⟨en10, sV10⟩
  · exact .inr ⟨en11, sV11⟩
  · exact .inr ⟨en13, sV13⟩
  · exact .inl fun _ _ _ => rfl
theorem en7 : Enter Try.prog 7 := .of Try.func7 (by kernel_rfl) (by kernel_rfl)
noncomputable def T7 (B : OH) : Cs := callF B { f := G7 B } 1300 L7
theorem sT7 {w0 : World} {B : OH} : SoundC Try.prog w0 B 7 (T7 B) := callF_sound mixedOrders sG7 1300 Try.func7 low7
structure K7o (at_ : Int) (vl vc : Value) (wd most : Int) (i : Nat) (ts : List Value) : Prop where
  l : ts.length = 111
  t1 : gt ts 1 = .int .i64 at_
  t5 : gt ts 5 = .bool true
  t6 : gt ts 6 = vl
  t7 : gt ts 7 = .int .i64 wd
  t9 : gt ts 9 = vc
  t11 : gt ts 11 = .int .i64 most
  t12 : gt ts 12 = .int .i64 (i : Int)
structure K7i (at_ : Int) (vl vc : Value) (wd most : Int) (i many k : Nat) (ts : List Value) : Prop where
  l : ts.length = 111
  t1 : gt ts 1 = .int .i64 at_
  t5 : gt ts 5 = .bool true
  t6 : gt ts 6 = vl
  t7 : gt ts 7 = .int .i64 wd
  t9 : gt ts 9 = vc
  t11 : gt ts 11 = .int .i64 most
  t12 : gt ts 12 = .int .i64 (i : Int)
  t13 : gt ts 13 = .int .i64 (many : Int)
  t14 : gt ts 14 = .int .i64 (k : Int)
set_option maxHeartbeats 8000000 in
theorem lv7 {B : OH} {v : Value} {w : List R3} {at_ : Int} (hat : i64R at_) (hw : RawR w) (H : HL) (N : St) (hN : good B H N) (hv : SlR r3 3 B H v w) :
    ∃ H' N', T7 B [v, .int .i64 at_] H N = some (.ret (.bool true), H', N') := by
  have hB := good_B hN
  have hR := good_rdB hN
  have hI := beqN hN.1.1
  have hG : ∃ H N, good B H N := ⟨H, N, hN⟩
  have hlv := hv.len
  have a8 := f8 hG
  obtain ⟨v9, H9, N9, e9, g9, f9, s9⟩ := raw hN hv hw
  have r9 := s9.rd ev7_len
  obtain ⟨HW, NW, eW, gW, fW⟩ := width g9 r9
  obtain ⟨vC, HC, NC, eC, gC, fC, sC⟩ := calls' gW (r9.mono fW)
  rw [g_err] at eC eW
  rw [g_cls] at sC
  have rC := sC.rd cl9_len
  have rL := r9.mono (fW.trans fC)
  have hlC := rC.len
  have hlL := rL.len
  have hml := gMany_le w
  have hcl := gCls_len w
  have hw5 := g_wid5 w (gMany w) (Nat.le_refl _)
  have hw0 := g_wid0 w
  rw [← g_wid] at hw5
  rw [gEvs_len] at hlL
  have b1 : ¬ wid (gEvs w) < 0 := by omega
  have b2 : ¬ wid (gEvs w) > 5 := by omega
  have b3 : ((wid (gEvs w) == 0) == ((gMany w : Int) == 0)) = true := by
    by_cases h : gMany w = 0
    · have h1 := hw0.2 h
      rw [h1, h]; rfl
    · have h1 : ¬ wid (gEvs w) = 0 := fun e => h (hw0.1 e)
      rw [beqI h1, beqI (show ¬ (gMany w : Int) = 0 by omega)]; rfl
  simp -implicitDefEqProofs (maxSteps := 10000000) (disch := omega) only [T7, L7, G7_8, V8_eq, G7_9, G7_10, V10_eq, G7_11, G7_13, hB, hR, hI, lenV_sl, Int.toNat_natCast, bft, btf, gtst, st_len, a8, e9, eW, eC, hlL, b1, b2, b3, pad, e_skip, e_ops, e_draw, d_none, d_nil, d_cons, d_ite, h_none, h_nil, h_cons, h_ite, eqS_same, lightV, e_seq, e_cond, e_block, e_exit, e_ret, s_normal, s_ret, s_exit, s_none, s_ite, b_normal, b_ret, b_exit, b_none, b_ite, c_bool, x_none, x_nil, x_cons, x_ite, p_some, p_none, p_ite, pt_some, pt_none, pv_some, pv_none, pv_ite, w_none, w_some, i_bool, i_undef, bt, bf, v_tmp, v_const, v_global, v_func, evs, f_normal, f_ret, f_none, f_ite, r_some, co_some, l_ptr, m_agg, m_one, sh_app, lk_nil, lk_cons, rd_eq, rdO_some, rdO_none, rdN_none, rdL_some, rdL_none, wrB_none, unitR_some, wr_nil, wr_here, wr_skip, k_cells, tk_zero, tk_take, tk_skip, tkC_some, call_func, gt, st, binV, arith, isSh, storeV, all1, idxAV, fieldV, faddrV, iaddrSV, iaddrAV, pickV, convV, unV, eqbV, eqpV, extV, mm2, mmV, nilckV, ress, res1, retV, Value.cells, cond_true, cond_false, Bool.true_or, Bool.false_or, Bool.or_true, Bool.or_false, beq_self_eq_true, if_true, if_false, ite_true, ite_false, decide_true, decide_false, decide_eq_true_eq, reduceIte, Nat.zero_add, Nat.add_zero, and_self, true_and, and_true, List.size_toArray, List.length_cons, List.length_nil, List.append_nil, List.nil_append, Int.toNat_zero, Bool.not_false, Bool.not_true, Bool.not_not, Bool.false_eq_true, Bool.true_eq_false, reduceCtorEq, Int.reduceLT, Int.reduceLE, Int.reduceToNat, Int.reduceAdd, Int.reduceSub, Int.reduceMul, Int.reduceNeg, Nat.reduceMul, Nat.reduceAdd, Nat.reduceSub, Nat.reduceBEq, Nat.reduceEqDiff, Nat.reduceLT, Nat.reduceLeDiff, Int.reduceBEq, Int.reduceEq, Nat.reducePow, Int.reducePow, IntWalk.i64_in, IntKind.bits, eqAV, eqL, leafEq, andO, fillV, buildSV, List.getElem?_toArray, List.getElem?_cons_zero, List.getElem?_cons_succ, List.getElem?_nil, Int.reduceGT, Int.reduceGE, Int.reduceBNe, Bool.true_and, Bool.and_true, Bool.false_and, Bool.and_false, Bool.and_self, IntWalk.u64_in, Int.cast_ofNat_Int, callF1, pad16, pad_0, pad_1, pad_2, pad_3, pad_4, pad_5, pad_6, pad_7, pad_8, pad_9, pad_10, pad_11, pad_12, pad_13, pad_14, pad_15, gc0, gc1, gc2, gc3, gc4, gc5, gc6, gc7, gc8, gc9, gc10, gc11, gc12, gc13, gc14, gc15, gcS, sc0, sc1, sc2, sc3, sc4, sc5, sc6, sc7, sc8, sc9, sc10, sc11, sc12, sc13, sc14, sc15, scS, List.drop_succ_cons, List.drop_nil, x_pan, s_pan, b_pan, pE_ret, pE_pan, pE_none, pE_ite, pvE_some, pvE_none, pvE_ite, rv_some, rv_none, rv_ite, oR_ret, t_mv, t_pick, t_alloc, t_box, t_build, t_buildS, t_load, t_store, t_nilck, t_bin, t_eqb, t_eqA, t_eqp, t_un, t_conv, t_field, t_idxA, t_faddr, t_iaddrS, t_iaddrA, t_ext, t_len, t_mm, t_call, t_ifc, t_fn, t_slc, t_slcA, t_slcT, t_tass, t_isn, t_mks, t_app, t_pan, panE_i, optE_none, optE_some, bnd_none, bnd_int, slA_none, slA_some, appR_some, appOld_cells, newsV_s, newsV_n, lenS_s, appV_nil, appV_some, mksV_i, sh_c, sh_g, f_pan, endD_ret, dfr_normal, dfr_ret, dfr_pan, restD_normal, callD1, callC1, tassV, isnV, slcV, slcAV, slcTV, slcB, appNew, Option.bind_some, Option.bind_none, d_pan, h_pan, wrH_eq, wrX_cells, wrU_some, upH_nil, upH_cons, lk_upH, effR_some, effR_none, effR_ite, Option.isNone_none, Option.isNone_some, slA_zero, call_yield, e_range, it_func, wy_same, y_call, isLp_self, beg_normal, end_normal, end_ret, end_exit, end_ite, aft_ret, aft_ready, aft_done, aft_exit, setP_cons, setP_nil, sh_r, t_mkmap, t_mlook, t_mupd, t_mdel, mapF_some, lookF_some, setM_some, lookR_t, lookR_n, lookR_f, lookR_fn, lookV, mupdV, mdelV, mkM]
  generalize hX : exec B _ _ (LC.loop _) _ = o
  have hO : Ok o (fun x s => x = .exit 0 ∧ s.H = HC ∧ s.N = NC ∧ K7o at_ v9 vC (wid (gEvs w)) (wRun (gEvs w) (gMany w)).2 (gMany w) s.t) := by
    rw [← hX]
    refine loop_rule (n0 := 100) (fun k s => ∃ ts, ∃ i : Nat, s = ⟨ts, HC, NC⟩ ∧ K7o at_ v9 vC (wid (gEvs w)) (wRun (gEvs w) i).2 i ts ∧ i ≤ gMany w ∧ k = gMany w - i) _ ?_ (gMany w) _ ⟨_, 0, rfl, ⟨rfl, rfl, rfl, rfl, rfl, rfl, rfl, rfl⟩, by omega, rfl⟩ _ (by omega)
    clear hX
    rintro n k s ⟨ts, i, rfl, kp, hi, rfl⟩
    have hB := good_B gC
    have hR := good_rdB gC
    have hI := beqN gC.1.1
    have hc1 : ((i + 1 : Nat) : Int) = (i : Int) + 1 := by omega
    by_cases hin : i < gMany w
    case neg =>
      obtain rfl : i = gMany w := by omega
      simp -implicitDefEqProofs (maxSteps := 10000000) (disch := omega) only [T7, L7, G7_8, V8_eq, G7_9, G7_10, V10_eq, G7_11, G7_13, hB, hR, hI, kp.l, kp.t1, kp.t5, kp.t6, kp.t7, kp.t9, kp.t11, kp.t12, lenV_sl, Int.toNat_natCast, bft, btf, gtst, st_len, hlL, Int.lt_irrefl, pad, e_skip, e_ops, e_draw, d_none, d_nil, d_cons, d_ite, h_none, h_nil, h_cons, h_ite, eqS_same, lightV, e_seq, e_cond, e_block, e_exit, e_ret, s_normal, s_ret, s_exit, s_none, s_ite, b_normal, b_ret, b_exit, b_none, b_ite, c_bool, x_none, x_nil, x_cons, x_ite, p_some, p_none, p_ite, pt_some, pt_none, pv_some, pv_none, pv_ite, w_none, w_some, i_bool, i_undef, bt, bf, v_tmp, v_const, v_global, v_func, evs, f_normal, f_ret, f_none, f_ite, r_some, co_some, l_ptr, m_agg, m_one, sh_app, lk_nil, lk_cons, rd_eq, rdO_some, rdO_none, rdN_none, rdL_some, rdL_none, wrB_none, unitR_some, wr_nil, wr_here, wr_skip, k_cells, tk_zero, tk_take, tk_skip, tkC_some, call_func, gt, st, binV, arith, isSh, storeV, all1, idxAV, fieldV, faddrV, iaddrSV, iaddrAV, pickV, convV, unV, eqbV, eqpV, extV, mm2, mmV, nilckV, ress, res1, retV, Value.cells, cond_true, cond_false, Bool.true_or, Bool.false_or, Bool.or_true, Bool.or_false, beq_self_eq_true, if_true, if_false, ite_true, ite_false, decide_true, decide_false, decide_eq_true_eq, reduceIte, Nat.zero_add, Nat.add_zero, and_self, true_and, and_true, List.size_toArray, List.length_cons, List.length_nil, List.append_nil, List.nil_append, Int.toNat_zero, Bool.not_false, Bool.not_true, Bool.not_not, Bool.false_eq_true, Bool.true_eq_false, reduceCtorEq, Int.reduceLT, Int.reduceLE, Int.reduceToNat, Int.reduceAdd, Int.reduceSub, Int.reduceMul, Int.reduceNeg, Nat.reduceMul, Nat.reduceAdd, Nat.reduceSub, Nat.reduceBEq, Nat.reduceEqDiff, Nat.reduceLT, Nat.reduceLeDiff, Int.reduceBEq, Int.reduceEq, Nat.reducePow, Int.reducePow, IntWalk.i64_in, IntKind.bits, eqAV, eqL, leafEq, andO, fillV, buildSV, List.getElem?_toArray, List.getElem?_cons_zero, List.getElem?_cons_succ, List.getElem?_nil, Int.reduceGT, Int.reduceGE, Int.reduceBNe, Bool.true_and, Bool.and_true, Bool.false_and, Bool.and_false, Bool.and_self, IntWalk.u64_in, Int.cast_ofNat_Int, callF1, pad16, pad_0, pad_1, pad_2, pad_3, pad_4, pad_5, pad_6, pad_7, pad_8, pad_9, pad_10, pad_11, pad_12, pad_13, pad_14, pad_15, gc0, gc1, gc2, gc3, gc4, gc5, gc6, gc7, gc8, gc9, gc10, gc11, gc12, gc13, gc14, gc15, gcS, sc0, sc1, sc2, sc3, sc4, sc5, sc6, sc7, sc8, sc9, sc10, sc11, sc12, sc13, sc14, sc15, scS, List.drop_succ_cons, List.drop_nil, x_pan, s_pan, b_pan, pE_ret, pE_pan, pE_none, pE_ite, pvE_some, pvE_none, pvE_ite, rv_some, rv_none, rv_ite, oR_ret, t_mv, t_pick, t_alloc, t_box, t_build, t_buildS, t_load, t_store, t_nilck, t_bin, t_eqb, t_eqA, t_eqp, t_un, t_conv, t_field, t_idxA, t_faddr, t_iaddrS, t_iaddrA, t_ext, t_len, t_mm, t_call, t_ifc, t_fn, t_slc, t_slcA, t_slcT, t_tass, t_isn, t_mks, t_app, t_pan, panE_i, optE_none, optE_some, bnd_none, bnd_int, slA_none, slA_some, appR_some, appOld_cells, newsV_s, newsV_n, lenS_s, appV_nil, appV_some, mksV_i, sh_c, sh_g, f_pan, endD_ret, dfr_normal, dfr_ret, dfr_pan, restD_normal, callD1, callC1, tassV, isnV, slcV, slcAV, slcTV, slcB, appNew, Option.bind_some, Option.bind_none, d_pan, h_pan, wrH_eq, wrX_cells, wrU_some, upH_nil, upH_cons, lk_upH, effR_some, effR_none, effR_ite, Option.isNone_none, Option.isNone_some, slA_zero, call_yield, e_range, it_func, wy_same, y_call, isLp_self, beg_normal, end_normal, end_ret, end_exit, end_ite, aft_ret, aft_ready, aft_done, aft_exit, setP_cons, setP_nil, sh_r, t_mkmap, t_mlook, t_mupd, t_mdel, mapF_some, lookF_some, setM_some, lookR_t, lookR_n, lookR_f, lookR_fn, lookV, mupdV, mdelV, mkM]
      refine ok_some (.inr ⟨by simp, rfl, rfl, rfl, ⟨?_, ?_, ?_, ?_, ?_, ?_, ?_, ?_⟩⟩)
      all_goals simp -implicitDefEqProofs (maxSteps := 10000000) (disch := omega) only [T7, L7, G7_8, V8_eq, G7_9, G7_10, V10_eq, G7_11, G7_13, hB, hR, hI, kp.l, kp.t1, kp.t5, kp.t6, kp.t7, kp.t9, kp.t11, kp.t12, lenV_sl, Int.toNat_natCast, bft, btf, gtst, st_len, pad, e_skip, e_ops, e_draw, d_none, d_nil, d_cons, d_ite, h_none, h_nil, h_cons, h_ite, eqS_same, lightV, e_seq, e_cond, e_block, e_exit, e_ret, s_normal, s_ret, s_exit, s_none, s_ite, b_normal, b_ret, b_exit, b_none, b_ite, c_bool, x_none, x_nil, x_cons, x_ite, p_some, p_none, p_ite, pt_some, pt_none, pv_some, pv_none, pv_ite, w_none, w_some, i_bool, i_undef, bt, bf, v_tmp, v_const, v_global, v_func, evs, f_normal, f_ret, f_none, f_ite, r_some, co_some, l_ptr, m_agg, m_one, sh_app, lk_nil, lk_cons, rd_eq, rdO_some, rdO_none, rdN_none, rdL_some, rdL_none, wrB_none, unitR_some, wr_nil, wr_here, wr_skip, k_cells, tk_zero, tk_take, tk_skip, tkC_some, call_func, gt, st, binV, arith, isSh, storeV, all1, idxAV, fieldV, faddrV, iaddrSV, iaddrAV, pickV, convV, unV, eqbV, eqpV, extV, mm2, mmV, nilckV, ress, res1, retV, Value.cells, cond_true, cond_false, Bool.true_or, Bool.false_or, Bool.or_true, Bool.or_false, beq_self_eq_true, if_true, if_false, ite_true, ite_false, decide_true, decide_false, decide_eq_true_eq, reduceIte, Nat.zero_add, Nat.add_zero, and_self, true_and, and_true, List.size_toArray, List.length_cons, List.length_nil, List.append_nil, List.nil_append, Int.toNat_zero, Bool.not_false, Bool.not_true, Bool.not_not, Bool.false_eq_true, Bool.true_eq_false, reduceCtorEq, Int.reduceLT, Int.reduceLE, Int.reduceToNat, Int.reduceAdd, Int.reduceSub, Int.reduceMul, Int.reduceNeg, Nat.reduceMul, Nat.reduceAdd, Nat.reduceSub, Nat.reduceBEq, Nat.reduceEqDiff, Nat.reduceLT, Nat.reduceLeDiff, Int.reduceBEq, Int.reduceEq, Nat.reducePow, Int.reducePow, IntWalk.i64_in, IntKind.bits, eqAV, eqL, leafEq, andO, fillV, buildSV, List.getElem?_toArray, List.getElem?_cons_zero, List.getElem?_cons_succ, List.getElem?_nil, Int.reduceGT, Int.reduceGE, Int.reduceBNe, Bool.true_and, Bool.and_true, Bool.false_and, Bool.and_false, Bool.and_self, IntWalk.u64_in, Int.cast_ofNat_Int, callF1, pad16, pad_0, pad_1, pad_2, pad_3, pad_4, pad_5, pad_6, pad_7, pad_8, pad_9, pad_10, pad_11, pad_12, pad_13, pad_14, pad_15, gc0, gc1, gc2, gc3, gc4, gc5, gc6, gc7, gc8, gc9, gc10, gc11, gc12, gc13, gc14, gc15, gcS, sc0, sc1, sc2, sc3, sc4, sc5, sc6, sc7, sc8, sc9, sc10, sc11, sc12, sc13, sc14, sc15, scS, List.drop_succ_cons, List.drop_nil, x_pan, s_pan, b_pan, pE_ret, pE_pan, pE_none, pE_ite, pvE_some, pvE_none, pvE_ite, rv_some, rv_none, rv_ite, oR_ret, t_mv, t_pick, t_alloc, t_box, t_build, t_buildS, t_load, t_store, t_nilck, t_bin, t_eqb, t_eqA, t_eqp, t_un, t_conv, t_field, t_idxA, t_faddr, t_iaddrS, t_iaddrA, t_ext, t_len, t_mm, t_call, t_ifc, t_fn, t_slc, t_slcA, t_slcT, t_tass, t_isn, t_mks, t_app, t_pan, panE_i, optE_none, optE_some, bnd_none, bnd_int, slA_none, slA_some, appR_some, appOld_cells, newsV_s, newsV_n, lenS_s, appV_nil, appV_some, mksV_i, sh_c, sh_g, f_pan, endD_ret, dfr_normal, dfr_ret, dfr_pan, restD_normal, callD1, callC1, tassV, isnV, slcV, slcAV, slcTV, slcB, appNew, Option.bind_some, Option.bind_none, d_pan, h_pan, wrH_eq, wrX_cells, wrU_some, upH_nil, upH_cons, lk_upH, effR_some, effR_none, effR_ite, Option.isNone_none, Option.isNone_some, slA_zero, call_yield, e_range, it_func, wy_same, y_call, isLp_self, beg_normal, end_normal, end_ret, end_exit, end_ite, aft_ret, aft_ready, aft_done, aft_exit, setP_cons, setP_nil, sh_r, t_mkmap, t_mlook, t_mupd, t_mdel, mapF_some, lookF_some, setM_some, lookR_t, lookR_n, lookR_f, lookR_fn, lookV, mupdV, mdelV, mkM]
    have hin' : (i : Int) < (gMany w : Int) := by omega
    simp -implicitDefEqProofs (maxSteps := 10000000) (disch := omega) only [T7, L7, G7_8, V8_eq, G7_9, G7_10, V10_eq, G7_11, G7_13, hB, hR, hI, kp.l, kp.t1, kp.t5, kp.t6, kp.t7, kp.t9, kp.t11, kp.t12, lenV_sl, Int.toNat_natCast, bft, btf, gtst, st_len, hlL, hin', pad, e_skip, e_ops, e_draw, d_none, d_nil, d_cons, d_ite, h_none, h_nil, h_cons, h_ite, eqS_same, lightV, e_seq, e_cond, e_block, e_exit, e_ret, s_normal, s_ret, s_exit, s_none, s_ite, b_normal, b_ret, b_exit, b_none, b_ite, c_bool, x_none, x_nil, x_cons, x_ite, p_some, p_none, p_ite, pt_some, pt_none, pv_some, pv_none, pv_ite, w_none, w_some, i_bool, i_undef, bt, bf, v_tmp, v_const, v_global, v_func, evs, f_normal, f_ret, f_none, f_ite, r_some, co_some, l_ptr, m_agg, m_one, sh_app, lk_nil, lk_cons, rd_eq, rdO_some, rdO_none, rdN_none, rdL_some, rdL_none, wrB_none, unitR_some, wr_nil, wr_here, wr_skip, k_cells, tk_zero, tk_take, tk_skip, tkC_some, call_func, gt, st, binV, arith, isSh, storeV, all1, idxAV, fieldV, faddrV, iaddrSV, iaddrAV, pickV, convV, unV, eqbV, eqpV, extV, mm2, mmV, nilckV, ress, res1, retV, Value.cells, cond_true, cond_false, Bool.true_or, Bool.false_or, Bool.or_true, Bool.or_false, beq_self_eq_true, if_true, if_false, ite_true, ite_false, decide_true, decide_false, decide_eq_true_eq, reduceIte, Nat.zero_add, Nat.add_zero, and_self, true_and, and_true, List.size_toArray, List.length_cons, List.length_nil, List.append_nil, List.nil_append, Int.toNat_zero, Bool.not_false, Bool.not_true, Bool.not_not, Bool.false_eq_true, Bool.true_eq_false, reduceCtorEq, Int.reduceLT, Int.reduceLE, Int.reduceToNat, Int.reduceAdd, Int.reduceSub, Int.reduceMul, Int.reduceNeg, Nat.reduceMul, Nat.reduceAdd, Nat.reduceSub, Nat.reduceBEq, Nat.reduceEqDiff, Nat.reduceLT, Nat.reduceLeDiff, Int.reduceBEq, Int.reduceEq, Nat.reducePow, Int.reducePow, IntWalk.i64_in, IntKind.bits, eqAV, eqL, leafEq, andO, fillV, buildSV, List.getElem?_toArray, List.getElem?_cons_zero, List.getElem?_cons_succ, List.getElem?_nil, Int.reduceGT, Int.reduceGE, Int.reduceBNe, Bool.true_and, Bool.and_true, Bool.false_and, Bool.and_false, Bool.and_self, IntWalk.u64_in, Int.cast_ofNat_Int, callF1, pad16, pad_0, pad_1, pad_2, pad_3, pad_4, pad_5, pad_6, pad_7, pad_8, pad_9, pad_10, pad_11, pad_12, pad_13, pad_14, pad_15, gc0, gc1, gc2, gc3, gc4, gc5, gc6, gc7, gc8, gc9, gc10, gc11, gc12, gc13, gc14, gc15, gcS, sc0, sc1, sc2, sc3, sc4, sc5, sc6, sc7, sc8, sc9, sc10, sc11, sc12, sc13, sc14, sc15, scS, List.drop_succ_cons, List.drop_nil, x_pan, s_pan, b_pan, pE_ret, pE_pan, pE_none, pE_ite, pvE_some, pvE_none, pvE_ite, rv_some, rv_none, rv_ite, oR_ret, t_mv, t_pick, t_alloc, t_box, t_build, t_buildS, t_load, t_store, t_nilck, t_bin, t_eqb, t_eqA, t_eqp, t_un, t_conv, t_field, t_idxA, t_faddr, t_iaddrS, t_iaddrA, t_ext, t_len, t_mm, t_call, t_ifc, t_fn, t_slc, t_slcA, t_slcT, t_tass, t_isn, t_mks, t_app, t_pan, panE_i, optE_none, optE_some, bnd_none, bnd_int, slA_none, slA_some, appR_some, appOld_cells, newsV_s, newsV_n, lenS_s, appV_nil, appV_some, mksV_i, sh_c, sh_g, f_pan, endD_ret, dfr_normal, dfr_ret, dfr_pan, restD_normal, callD1, callC1, tassV, isnV, slcV, slcAV, slcTV, slcB, appNew, Option.bind_some, Option.bind_none, d_pan, h_pan, wrH_eq, wrX_cells, wrU_some, upH_nil, upH_cons, lk_upH, effR_some, effR_none, effR_ite, Option.isNone_none, Option.isNone_some, slA_zero, call_yield, e_range, it_func, wy_same, y_call, isLp_self, beg_normal, end_normal, end_ret, end_exit, end_ite, aft_ret, aft_ready, aft_done, aft_exit, setP_cons, setP_nil, sh_r, t_mkmap, t_mlook, t_mupd, t_mdel, mapF_some, lookF_some, setM_some, lookR_t, lookR_n, lookR_f, lookR_fn, lookV, mupdV, mdelV, mkM]
    generalize hX : exec B _ _ (LC.loop _) _ = o
    have hO : Ok o (fun x s => x = .exit 2 ∧ s.H = HC ∧ s.N = NC ∧ K7i at_ v9 vC (wid (gEvs w)) (wRun (gEvs w) i).2 i (cnt (gCls w) i) (gCls w).length s.t) := by
      rw [← hX]
      refine loop_rule (n0 := 60) (fun q s => ∃ ts, ∃ k : Nat, s = ⟨ts, HC, NC⟩ ∧ K7i at_ v9 vC (wid (gEvs w)) (wRun (gEvs w) i).2 i (((gCls w).take k).countP (unw i)) k ts ∧ k ≤ (gCls w).length ∧ q = (gCls w).length - k) _ ?_ (gCls w).length _ ⟨_, 0, rfl, ⟨?_, ?_, ?_, ?_, ?_, ?_, ?_, ?_, ?_, ?_⟩, by omega, rfl⟩ _ (by omega)
      rotate_left
      iterate 10 simp -implicitDefEqProofs (maxSteps := 10000000) (disch := omega) only [T7, L7, G7_8, V8_eq, G7_9, G7_10, V10_eq, G7_11, G7_13, hB, hR, hI, kp.l, kp.t1, kp.t5, kp.t6, kp.t7, kp.t9, kp.t11, kp.t12, lenV_sl, Int.toNat_natCast, bft, btf, gtst, st_len, List.take_zero, List.countP_nil, pad, e_skip, e_ops, e_draw, d_none, d_nil, d_cons, d_ite, h_none, h_nil, h_cons, h_ite, eqS_same, lightV, e_seq, e_cond, e_block, e_exit, e_ret, s_normal, s_ret, s_exit, s_none, s_ite, b_normal, b_ret, b_exit, b_none, b_ite, c_bool, x_none, x_nil, x_cons, x_ite, p_some, p_none, p_ite, pt_some, pt_none, pv_some, pv_none, pv_ite, w_none, w_some, i_bool, i_undef, bt, bf, v_tmp, v_const, v_global, v_func, evs, f_normal, f_ret, f_none, f_ite, r_some, co_some, l_ptr, m_agg, m_one, sh_app, lk_nil, lk_cons, rd_eq, rdO_some, rdO_none, rdN_none, rdL_some, rdL_none, wrB_none, unitR_some, wr_nil, wr_here, wr_skip, k_cells, tk_zero, tk_take, tk_skip, tkC_some, call_func, gt, st, binV, arith, isSh, storeV, all1, idxAV, fieldV, faddrV, iaddrSV, iaddrAV, pickV, convV, unV, eqbV, eqpV, extV, mm2, mmV, nilckV, ress, res1, retV, Value.cells, cond_true, cond_false, Bool.true_or, Bool.false_or, Bool.or_true, Bool.or_false, beq_self_eq_true, if_true, if_false, ite_true, ite_false, decide_true, decide_false, decide_eq_true_eq, reduceIte, Nat.zero_add, Nat.add_zero, and_self, true_and, and_true, List.size_toArray, List.length_cons, List.length_nil, List.append_nil, List.nil_append, Int.toNat_zero, Bool.not_false, Bool.not_true, Bool.not_not, Bool.false_eq_true, Bool.true_eq_false, reduceCtorEq, Int.reduceLT, Int.reduceLE, Int.reduceToNat, Int.reduceAdd, Int.reduceSub, Int.reduceMul, Int.reduceNeg, Nat.reduceMul, Nat.reduceAdd, Nat.reduceSub, Nat.reduceBEq, Nat.reduceEqDiff, Nat.reduceLT, Nat.reduceLeDiff, Int.reduceBEq, Int.reduceEq, Nat.reducePow, Int.reducePow, IntWalk.i64_in, IntKind.bits, eqAV, eqL, leafEq, andO, fillV, buildSV, List.getElem?_toArray, List.getElem?_cons_zero, List.getElem?_cons_succ, List.getElem?_nil, Int.reduceGT, Int.reduceGE, Int.reduceBNe, Bool.true_and, Bool.and_true, Bool.false_and, Bool.and_false, Bool.and_self, IntWalk.u64_in, Int.cast_ofNat_Int, callF1, pad16, pad_0, pad_1, pad_2, pad_3, pad_4, pad_5, pad_6, pad_7, pad_8, pad_9, pad_10, pad_11, pad_12, pad_13, pad_14, pad_15, gc0, gc1, gc2, gc3, gc4, gc5, gc6, gc7, gc8, gc9, gc10, gc11, gc12, gc13, gc14, gc15, gcS, sc0, sc1, sc2, sc3, sc4, sc5, sc6, sc7, sc8, sc9, sc10, sc11, sc12, sc13, sc14, sc15, scS, List.drop_succ_cons, List.drop_nil, x_pan, s_pan, b_pan, pE_ret, pE_pan, pE_none, pE_ite, pvE_some, pvE_none, pvE_ite, rv_some, rv_none, rv_ite, oR_ret, t_mv, t_pick, t_alloc, t_box, t_build, t_buildS, t_load, t_store, t_nilck, t_bin, t_eqb, t_eqA, t_eqp, t_un, t_conv, t_field, t_idxA, t_faddr, t_iaddrS, t_iaddrA, t_ext, t_len, t_mm, t_call, t_ifc, t_fn, t_slc, t_slcA, t_slcT, t_tass, t_isn, t_mks, t_app, t_pan, panE_i, optE_none, optE_some, bnd_none, bnd_int, slA_none, slA_some, appR_some, appOld_cells, newsV_s, newsV_n, lenS_s, appV_nil, appV_some, mksV_i, sh_c, sh_g, f_pan, endD_ret, dfr_normal, dfr_ret, dfr_pan, restD_normal, callD1, callC1, tassV, isnV, slcV, slcAV, slcTV, slcB, appNew, Option.bind_some, Option.bind_none, d_pan, h_pan, wrH_eq, wrX_cells, wrU_some, upH_nil, upH_cons, lk_upH, effR_some, effR_none, effR_ite, Option.isNone_none, Option.isNone_some, slA_zero, call_yield, e_range, it_func, wy_same, y_call, isLp_self, beg_normal, end_normal, end_ret, end_exit, end_ite, aft_ret, aft_ready, aft_done, aft_exit, setP_cons, setP_nil, sh_r, t_mkmap, t_mlook, t_mupd, t_mdel, mapF_some, lookF_some, setM_some, lookR_t, lookR_n, lookR_f, lookR_fn, lookV, mupdV, mdelV, mkM]
      clear hX kp ts
      rintro n q s ⟨ts, k, rfl, kp, hk, rfl⟩
      have hc2 : ((k + 1 : Nat) : Int) = (k : Int) + 1 := by omega
      by_cases hkn : k < (gCls w).length
      case neg =>
        obtain rfl : k = (gCls w).length := by omega
        simp -implicitDefEqProofs (maxSteps := 10000000) (disch := omega) only [T7, L7, G7_8, V8_eq, G7_9, G7_10, V10_eq, G7_11, G7_13, hB, hR, hI, kp.l, kp.t1, kp.t5, kp.t6, kp.t7, kp.t9, kp.t11, kp.t12, kp.t13, kp.t14, lenV_sl, Int.toNat_natCast, bft, btf, gtst, st_len, hlC, Int.lt_irrefl, pad, e_skip, e_ops, e_draw, d_none, d_nil, d_cons, d_ite, h_none, h_nil, h_cons, h_ite, eqS_same, lightV, e_seq, e_cond, e_block, e_exit, e_ret, s_normal, s_ret, s_exit, s_none, s_ite, b_normal, b_ret, b_exit, b_none, b_ite, c_bool, x_none, x_nil, x_cons, x_ite, p_some, p_none, p_ite, pt_some, pt_none, pv_some, pv_none, pv_ite, w_none, w_some, i_bool, i_undef, bt, bf, v_tmp, v_const, v_global, v_func, evs, f_normal, f_ret, f_none, f_ite, r_some, co_some, l_ptr, m_agg, m_one, sh_app, lk_nil, lk_cons, rd_eq, rdO_some, rdO_none, rdN_none, rdL_some, rdL_none, wrB_none, unitR_some, wr_nil, wr_here, wr_skip, k_cells, tk_zero, tk_take, tk_skip, tkC_some, call_func, gt, st, binV, arith, isSh, storeV, all1, idxAV, fieldV, faddrV, iaddrSV, iaddrAV, pickV, convV, unV, eqbV, eqpV, extV, mm2, mmV, nilckV, ress, res1, retV, Value.cells, cond_true, cond_false, Bool.true_or, Bool.false_or, Bool.or_true, Bool.or_false, beq_self_eq_true, if_true, if_false, ite_true, ite_false, decide_true, decide_false, decide_eq_true_eq, reduceIte, Nat.zero_add, Nat.add_zero, and_self, true_and, and_true, List.size_toArray, List.length_cons, List.length_nil, List.append_nil, List.nil_append, Int.toNat_zero, Bool.not_false, Bool.not_true, Bool.not_not, Bool.false_eq_true, Bool.true_eq_false, reduceCtorEq, Int.reduceLT, Int.reduceLE, Int.reduceToNat, Int.reduceAdd, Int.reduceSub, Int.reduceMul, Int.reduceNeg, Nat.reduceMul, Nat.reduceAdd, Nat.reduceSub, Nat.reduceBEq, Nat.reduceEqDiff, Nat.reduceLT, Nat.reduceLeDiff, Int.reduceBEq, Int.reduceEq, Nat.reducePow, Int.reducePow, IntWalk.i64_in, IntKind.bits, eqAV, eqL, leafEq, andO, fillV, buildSV, List.getElem?_toArray, List.getElem?_cons_zero, List.getElem?_cons_succ, List.getElem?_nil, Int.reduceGT, Int.reduceGE, Int.reduceBNe, Bool.true_and, Bool.and_true, Bool.false_and, Bool.and_false, Bool.and_self, IntWalk.u64_in, Int.cast_ofNat_Int, callF1, pad16, pad_0, pad_1, pad_2, pad_3, pad_4, pad_5, pad_6, pad_7, pad_8, pad_9, pad_10, pad_11, pad_12, pad_13, pad_14, pad_15, gc0, gc1, gc2, gc3, gc4, gc5, gc6, gc7, gc8, gc9, gc10, gc11, gc12, gc13, gc14, gc15, gcS, sc0, sc1, sc2, sc3, sc4, sc5, sc6, sc7, sc8, sc9, sc10, sc11, sc12, sc13, sc14, sc15, scS, List.drop_succ_cons, List.drop_nil, x_pan, s_pan, b_pan, pE_ret, pE_pan, pE_none, pE_ite, pvE_some, pvE_none, pvE_ite, rv_some, rv_none, rv_ite, oR_ret, t_mv, t_pick, t_alloc, t_box, t_build, t_buildS, t_load, t_store, t_nilck, t_bin, t_eqb, t_eqA, t_eqp, t_un, t_conv, t_field, t_idxA, t_faddr, t_iaddrS, t_iaddrA, t_ext, t_len, t_mm, t_call, t_ifc, t_fn, t_slc, t_slcA, t_slcT, t_tass, t_isn, t_mks, t_app, t_pan, panE_i, optE_none, optE_some, bnd_none, bnd_int, slA_none, slA_some, appR_some, appOld_cells, newsV_s, newsV_n, lenS_s, appV_nil, appV_some, mksV_i, sh_c, sh_g, f_pan, endD_ret, dfr_normal, dfr_ret, dfr_pan, restD_normal, callD1, callC1, tassV, isnV, slcV, slcAV, slcTV, slcB, appNew, Option.bind_some, Option.bind_none, d_pan, h_pan, wrH_eq, wrX_cells, wrU_some, upH_nil, upH_cons, lk_upH, effR_some, effR_none, effR_ite, Option.isNone_none, Option.isNone_some, slA_zero, call_yield, e_range, it_func, wy_same, y_call, isLp_self, beg_normal, end_normal, end_ret, end_exit, end_ite, aft_ret, aft_ready, aft_done, aft_exit, setP_cons, setP_nil, sh_r, t_mkmap, t_mlook, t_mupd, t_mdel, mapF_some, lookF_some, setM_some, lookR_t, lookR_n, lookR_f, lookR_fn, lookV, mupdV, mdelV, mkM]
        refine ok_some (.inr ⟨by simp, rfl, rfl, rfl, ⟨?_, ?_, ?_, ?_, ?_, ?_, ?_, ?_, ?_, ?_⟩⟩)
        iterate 8 simp -implicitDefEqProofs (maxSteps := 10000000) (disch := omega) only [T7, L7, G7_8, V8_eq, G7_9, G7_10, V10_eq, G7_11, G7_13, hB, hR, hI, kp.l, kp.t1, kp.t5, kp.t6, kp.t7, kp.t9, kp.t11, kp.t12, kp.t13, kp.t14, lenV_sl, Int.toNat_natCast, bft, btf, gtst, st_len, pad, e_skip, e_ops, e_draw, d_none, d_nil, d_cons, d_ite, h_none, h_nil, h_cons, h_ite, eqS_same, lightV, e_seq, e_cond, e_block, e_exit, e_ret, s_normal, s_ret, s_exit, s_none, s_ite, b_normal, b_ret, b_exit, b_none, b_ite, c_bool, x_none, x_nil, x_cons, x_ite, p_some, p_none, p_ite, pt_some, pt_none, pv_some, pv_none, pv_ite, w_none, w_some, i_bool, i_undef, bt, bf, v_tmp, v_const, v_global, v_func, evs, f_normal, f_ret, f_none, f_ite, r_some, co_some, l_ptr, m_agg, m_one, sh_app, lk_nil, lk_cons, rd_eq, rdO_some, rdO_none, rdN_none, rdL_some, rdL_none, wrB_none, unitR_some, wr_nil, wr_here, wr_skip, k_cells, tk_zero, tk_take, tk_skip, tkC_some, call_func, gt, st, binV, arith, isSh, storeV, all1, idxAV, fieldV, faddrV, iaddrSV, iaddrAV, pickV, convV, unV, eqbV, eqpV, extV, mm2, mmV, nilckV, ress, res1, retV, Value.cells, cond_true, cond_false, Bool.true_or, Bool.false_or, Bool.or_true, Bool.or_false, beq_self_eq_true, if_true, if_false, ite_true, ite_false, decide_true, decide_false, decide_eq_true_eq, reduceIte, Nat.zero_add, Nat.add_zero, and_self, true_and, and_true, List.size_toArray, List.length_cons, List.length_nil, List.append_nil, List.nil_append, Int.toNat_zero, Bool.not_false, Bool.not_true, Bool.not_not, Bool.false_eq_true, Bool.true_eq_false, reduceCtorEq, Int.reduceLT, Int.reduceLE, Int.reduceToNat, Int.reduceAdd, Int.reduceSub, Int.reduceMul, Int.reduceNeg, Nat.reduceMul, Nat.reduceAdd, Nat.reduceSub, Nat.reduceBEq, Nat.reduceEqDiff, Nat.reduceLT, Nat.reduceLeDiff, Int.reduceBEq, Int.reduceEq, Nat.reducePow, Int.reducePow, IntWalk.i64_in, IntKind.bits, eqAV, eqL, leafEq, andO, fillV, buildSV, List.getElem?_toArray, List.getElem?_cons_zero, List.getElem?_cons_succ, List.getElem?_nil, Int.reduceGT, Int.reduceGE, Int.reduceBNe, Bool.true_and, Bool.and_true, Bool.false_and, Bool.and_false, Bool.and_self, IntWalk.u64_in, Int.cast_ofNat_Int, callF1, pad16, pad_0, pad_1, pad_2, pad_3, pad_4, pad_5, pad_6, pad_7, pad_8, pad_9, pad_10, pad_11, pad_12, pad_13, pad_14, pad_15, gc0, gc1, gc2, gc3, gc4, gc5, gc6, gc7, gc8, gc9, gc10, gc11, gc12, gc13, gc14, gc15, gcS, sc0, sc1, sc2, sc3, sc4, sc5, sc6, sc7, sc8, sc9, sc10, sc11, sc12, sc13, sc14, sc15, scS, List.drop_succ_cons, List.drop_nil, x_pan, s_pan, b_pan, pE_ret, pE_pan, pE_none, pE_ite, pvE_some, pvE_none, pvE_ite, rv_some, rv_none, rv_ite, oR_ret, t_mv, t_pick, t_alloc, t_box, t_build, t_buildS, t_load, t_store, t_nilck, t_bin, t_eqb, t_eqA, t_eqp, t_un, t_conv, t_field, t_idxA, t_faddr, t_iaddrS, t_iaddrA, t_ext, t_len, t_mm, t_call, t_ifc, t_fn, t_slc, t_slcA, t_slcT, t_tass, t_isn, t_mks, t_app, t_pan, panE_i, optE_none, optE_some, bnd_none, bnd_int, slA_none, slA_some, appR_some, appOld_cells, newsV_s, newsV_n, lenS_s, appV_nil, appV_some, mksV_i, sh_c, sh_g, f_pan, endD_ret, dfr_normal, dfr_ret, dfr_pan, restD_normal, callD1, callC1, tassV, isnV, slcV, slcAV, slcTV, slcB, appNew, Option.bind_some, Option.bind_none, d_pan, h_pan, wrH_eq, wrX_cells, wrU_some, upH_nil, upH_cons, lk_upH, effR_some, effR_none, effR_ite, Option.isNone_none, Option.isNone_some, slA_zero, call_yield, e_range, it_func, wy_same, y_call, isLp_self, beg_normal, end_normal, end_ret, end_exit, end_ite, aft_ret, aft_ready, aft_done, aft_exit, setP_cons, setP_nil, sh_r, t_mkmap, t_mlook, t_mupd, t_mdel, mapF_some, lookF_some, setM_some, lookR_t, lookR_n, lookR_f, lookR_fn, lookV, mupdV, mdelV, mkM]
        · simp -implicitDefEqProofs (maxSteps := 10000000) (disch := omega) only [T7, L7, G7_8, V8_eq, G7_9, G7_10, V10_eq, G7_11, G7_13, hB, hR, hI, kp.l, kp.t1, kp.t5, kp.t6, kp.t7, kp.t9, kp.t11, kp.t12, kp.t13, kp.t14, lenV_sl, Int.toNat_natCast, bft, btf, gtst, st_len, List.take_length, cnt, pad, e_skip, e_ops, e_draw, d_none, d_nil, d_cons, d_ite, h_none, h_nil, h_cons, h_ite, eqS_same, lightV, e_seq, e_cond, e_block, e_exit, e_ret, s_normal, s_ret, s_exit, s_none, s_ite, b_normal, b_ret, b_exit, b_none, b_ite, c_bool, x_none, x_nil, x_cons, x_ite, p_some, p_none, p_ite, pt_some, pt_none, pv_some, pv_none, pv_ite, w_none, w_some, i_bool, i_undef, bt, bf, v_tmp, v_const, v_global, v_func, evs, f_normal, f_ret, f_none, f_ite, r_some, co_some, l_ptr, m_agg, m_one, sh_app, lk_nil, lk_cons, rd_eq, rdO_some, rdO_none, rdN_none, rdL_some, rdL_none, wrB_none, unitR_some, wr_nil, wr_here, wr_skip, k_cells, tk_zero, tk_take, tk_skip, tkC_some, call_func, gt, st, binV, arith, isSh, storeV, all1, idxAV, fieldV, faddrV, iaddrSV, iaddrAV, pickV, convV, unV, eqbV, eqpV, extV, mm2, mmV, nilckV, ress, res1, retV, Value.cells, cond_true, cond_false, Bool.true_or, Bool.false_or, Bool.or_true, Bool.or_false, beq_self_eq_true, if_true, if_false, ite_true, ite_false, decide_true, decide_false, decide_eq_true_eq, reduceIte, Nat.zero_add, Nat.add_zero, and_self, true_and, and_true, List.size_toArray, List.length_cons, List.length_nil, List.append_nil, List.nil_append, Int.toNat_zero, Bool.not_false, Bool.not_true, Bool.not_not, Bool.false_eq_true, Bool.true_eq_false, reduceCtorEq, Int.reduceLT, Int.reduceLE, Int.reduceToNat, Int.reduceAdd, Int.reduceSub, Int.reduceMul, Int.reduceNeg, Nat.reduceMul, Nat.reduceAdd, Nat.reduceSub, Nat.reduceBEq, Nat.reduceEqDiff, Nat.reduceLT, Nat.reduceLeDiff, Int.reduceBEq, Int.reduceEq, Nat.reducePow, Int.reducePow, IntWalk.i64_in, IntKind.bits, eqAV, eqL, leafEq, andO, fillV, buildSV, List.getElem?_toArray, List.getElem?_cons_zero, List.getElem?_cons_succ, List.getElem?_nil, Int.reduceGT, Int.reduceGE, Int.reduceBNe, Bool.true_and, Bool.and_true, Bool.false_and, Bool.and_false, Bool.and_self, IntWalk.u64_in, Int.cast_ofNat_Int, callF1, pad16, pad_0, pad_1, pad_2, pad_3, pad_4, pad_5, pad_6, pad_7, pad_8, pad_9, pad_10, pad_11, pad_12, pad_13, pad_14, pad_15, gc0, gc1, gc2, gc3, gc4, gc5, gc6, gc7, gc8, gc9, gc10, gc11, gc12, gc13, gc14, gc15, gcS, sc0, sc1, sc2, sc3, sc4, sc5, sc6, sc7, sc8, sc9, sc10, sc11, sc12, sc13, sc14, sc15, scS, List.drop_succ_cons, List.drop_nil, x_pan, s_pan, b_pan, pE_ret, pE_pan, pE_none, pE_ite, pvE_some, pvE_none, pvE_ite, rv_some, rv_none, rv_ite, oR_ret, t_mv, t_pick, t_alloc, t_box, t_build, t_buildS, t_load, t_store, t_nilck, t_bin, t_eqb, t_eqA, t_eqp, t_un, t_conv, t_field, t_idxA, t_faddr, t_iaddrS, t_iaddrA, t_ext, t_len, t_mm, t_call, t_ifc, t_fn, t_slc, t_slcA, t_slcT, t_tass, t_isn, t_mks, t_app, t_pan, panE_i, optE_none, optE_some, bnd_none, bnd_int, slA_none, slA_some, appR_some, appOld_cells, newsV_s, newsV_n, lenS_s, appV_nil, appV_some, mksV_i, sh_c, sh_g, f_pan, endD_ret, dfr_normal, dfr_ret, dfr_pan, restD_normal, callD1, callC1, tassV, isnV, slcV, slcAV, slcTV, slcB, appNew, Option.bind_some, Option.bind_none, d_pan, h_pan, wrH_eq, wrX_cells, wrU_some, upH_nil, upH_cons, lk_upH, effR_some, effR_none, effR_ite, Option.isNone_none, Option.isNone_some, slA_zero, call_yield, e_range, it_func, wy_same, y_call, isLp_self, beg_normal, end_normal, end_ret, end_exit, end_ite, aft_ret, aft_ready, aft_done, aft_exit, setP_cons, setP_nil, sh_r, t_mkmap, t_mlook, t_mupd, t_mdel, mapF_some, lookF_some, setM_some, lookR_t, lookR_n, lookR_f, lookR_fn, lookV, mupdV, mdelV, mkM]
        · simp -implicitDefEqProofs (maxSteps := 10000000) (disch := omega) only [T7, L7, G7_8, V8_eq, G7_9, G7_10, V10_eq, G7_11, G7_13, hB, hR, hI, kp.l, kp.t1, kp.t5, kp.t6, kp.t7, kp.t9, kp.t11, kp.t12, kp.t13, kp.t14, lenV_sl, Int.toNat_natCast, bft, btf, gtst, st_len, pad, e_skip, e_ops, e_draw, d_none, d_nil, d_cons, d_ite, h_none, h_nil, h_cons, h_ite, eqS_same, lightV, e_seq, e_cond, e_block, e_exit, e_ret, s_normal, s_ret, s_exit, s_none, s_ite, b_normal, b_ret, b_exit, b_none, b_ite, c_bool, x_none, x_nil, x_cons, x_ite, p_some, p_none, p_ite, pt_some, pt_none, pv_some, pv_none, pv_ite, w_none, w_some, i_bool, i_undef, bt, bf, v_tmp, v_const, v_global, v_func, evs, f_normal, f_ret, f_none, f_ite, r_some, co_some, l_ptr, m_agg, m_one, sh_app, lk_nil, lk_cons, rd_eq, rdO_some, rdO_none, rdN_none, rdL_some, rdL_none, wrB_none, unitR_some, wr_nil, wr_here, wr_skip, k_cells, tk_zero, tk_take, tk_skip, tkC_some, call_func, gt, st, binV, arith, isSh, storeV, all1, idxAV, fieldV, faddrV, iaddrSV, iaddrAV, pickV, convV, unV, eqbV, eqpV, extV, mm2, mmV, nilckV, ress, res1, retV, Value.cells, cond_true, cond_false, Bool.true_or, Bool.false_or, Bool.or_true, Bool.or_false, beq_self_eq_true, if_true, if_false, ite_true, ite_false, decide_true, decide_false, decide_eq_true_eq, reduceIte, Nat.zero_add, Nat.add_zero, and_self, true_and, and_true, List.size_toArray, List.length_cons, List.length_nil, List.append_nil, List.nil_append, Int.toNat_zero, Bool.not_false, Bool.not_true, Bool.not_not, Bool.false_eq_true, Bool.true_eq_false, reduceCtorEq, Int.reduceLT, Int.reduceLE, Int.reduceToNat, Int.reduceAdd, Int.reduceSub, Int.reduceMul, Int.reduceNeg, Nat.reduceMul, Nat.reduceAdd, Nat.reduceSub, Nat.reduceBEq, Nat.reduceEqDiff, Nat.reduceLT, Nat.reduceLeDiff, Int.reduceBEq, Int.reduceEq, Nat.reducePow, Int.reducePow, IntWalk.i64_in, IntKind.bits, eqAV, eqL, leafEq, andO, fillV, buildSV, List.getElem?_toArray, List.getElem?_cons_zero, List.getElem?_cons_succ, List.getElem?_nil, Int.reduceGT, Int.reduceGE, Int.reduceBNe, Bool.true_and, Bool.and_true, Bool.false_and, Bool.and_false, Bool.and_self, IntWalk.u64_in, Int.cast_ofNat_Int, callF1, pad16, pad_0, pad_1, pad_2, pad_3, pad_4, pad_5, pad_6, pad_7, pad_8, pad_9, pad_10, pad_11, pad_12, pad_13, pad_14, pad_15, gc0, gc1, gc2, gc3, gc4, gc5, gc6, gc7, gc8, gc9, gc10, gc11, gc12, gc13, gc14, gc15, gcS, sc0, sc1, sc2, sc3, sc4, sc5, sc6, sc7, sc8, sc9, sc10, sc11, sc12, sc13, sc14, sc15, scS, List.drop_succ_cons, List.drop_nil, x_pan, s_pan, b_pan, pE_ret, pE_pan, pE_none, pE_ite, pvE_some, pvE_none, pvE_ite, rv_some, rv_none, rv_ite, oR_ret, t_mv, t_pick, t_alloc, t_box, t_build, t_buildS, t_load, t_store, t_nilck, t_bin, t_eqb, t_eqA, t_eqp, t_un, t_conv, t_field, t_idxA, t_faddr, t_iaddrS, t_iaddrA, t_ext, t_len, t_mm, t_call, t_ifc, t_fn, t_slc, t_slcA, t_slcT, t_tass, t_isn, t_mks, t_app, t_pan, panE_i, optE_none, optE_some, bnd_none, bnd_int, slA_none, slA_some, appR_some, appOld_cells, newsV_s, newsV_n, lenS_s, appV_nil, appV_some, mksV_i, sh_c, sh_g, f_pan, endD_ret, dfr_normal, dfr_ret, dfr_pan, restD_normal, callD1, callC1, tassV, isnV, slcV, slcAV, slcTV, slcB, appNew, Option.bind_some, Option.bind_none, d_pan, h_pan, wrH_eq, wrX_cells, wrU_some, upH_nil, upH_cons, lk_upH, effR_some, effR_none, effR_ite, Option.isNone_none, Option.isNone_some, slA_zero, call_yield, e_range, it_func, wy_same, y_call, isLp_self, beg_normal, end_normal, end_ret, end_exit, end_ite, aft_ret, aft_ready, aft_done, aft_exit, setP_cons, setP_nil, sh_r, t_mkmap, t_mlook, t_mupd, t_mdel, mapF_some, lookF_some, setM_some, lookR_t, lookR_n, lookR_f, lookR_fn, lookV, mupdV, mdelV, mkM]
      have hkn' : (k : Int) < ((gCls w).length : Int) := by omega
      have k0 : (0 : Int) ≤ (k : Int) := by omega
      obtain ⟨bv, ov, cv, rfl, _, rv⟩ := rC.at (by omega)
      have r6 : rdO HC B bv (ov + k * 9 + 6) 1 (rdB B bv (ov + k * 9 + 6) 1) = some [.int .i64 ((gCls w).getD k z0).f] := (rv HC Fr.refl k 6 1 z0 hkn (by omega)).trans rfl
      have r7 : rdO HC B bv (ov + k * 9 + 7) 1 (rdB B bv (ov + k * 9 + 7) 1) = some [.int .i64 ((gCls w).getD k z0).t] := (rv HC Fr.refl k 7 1 z0 hkn (by omega)).trans rfl
      have hct := cnt_take (q := unw i) hkn
      have hcl' := cnt_take_le (C := gCls w) (q := unw i) (k := k)
      generalize (gCls w).getD k z0 = c at r6 r7 hct
      generalize ((gCls w).take k).countP (unw i) = many at kp hct hcl'
      by_cases u1 : c.f ≤ (i : Int)
      case neg =>
        have hu : unw i c = false := by simp [unw, u1]
        rw [hu, if_neg (by decide)] at hct
        simp -implicitDefEqProofs (maxSteps := 10000000) (disch := omega) only [T7, L7, G7_8, V8_eq, G7_9, G7_10, V10_eq, G7_11, G7_13, hB, hR, hI, kp.l, kp.t1, kp.t5, kp.t6, kp.t7, kp.t9, kp.t11, kp.t12, kp.t13, kp.t14, lenV_sl, Int.toNat_natCast, bft, btf, gtst, st_len, hlC, hkn, hkn', k0, r6, r7, u1, pad, e_skip, e_ops, e_draw, d_none, d_nil, d_cons, d_ite, h_none, h_nil, h_cons, h_ite, eqS_same, lightV, e_seq, e_cond, e_block, e_exit, e_ret, s_normal, s_ret, s_exit, s_none, s_ite, b_normal, b_ret, b_exit, b_none, b_ite, c_bool, x_none, x_nil, x_cons, x_ite, p_some, p_none, p_ite, pt_some, pt_none, pv_some, pv_none, pv_ite, w_none, w_some, i_bool, i_undef, bt, bf, v_tmp, v_const, v_global, v_func, evs, f_normal, f_ret, f_none, f_ite, r_some, co_some, l_ptr, m_agg, m_one, sh_app, lk_nil, lk_cons, rd_eq, rdO_some, rdO_none, rdN_none, rdL_some, rdL_none, wrB_none, unitR_some, wr_nil, wr_here, wr_skip, k_cells, tk_zero, tk_take, tk_skip, tkC_some, call_func, gt, st, binV, arith, isSh, storeV, all1, idxAV, fieldV, faddrV, iaddrSV, iaddrAV, pickV, convV, unV, eqbV, eqpV, extV, mm2, mmV, nilckV, ress, res1, retV, Value.cells, cond_true, cond_false, Bool.true_or, Bool.false_or, Bool.or_true, Bool.or_false, beq_self_eq_true, if_true, if_false, ite_true, ite_false, decide_true, decide_false, decide_eq_true_eq, reduceIte, Nat.zero_add, Nat.add_zero, and_self, true_and, and_true, List.size_toArray, List.length_cons, List.length_nil, List.append_nil, List.nil_append, Int.toNat_zero, Bool.not_false, Bool.not_true, Bool.not_not, Bool.false_eq_true, Bool.true_eq_false, reduceCtorEq, Int.reduceLT, Int.reduceLE, Int.reduceToNat, Int.reduceAdd, Int.reduceSub, Int.reduceMul, Int.reduceNeg, Nat.reduceMul, Nat.reduceAdd, Nat.reduceSub, Nat.reduceBEq, Nat.reduceEqDiff, Nat.reduceLT, Nat.reduceLeDiff, Int.reduceBEq, Int.reduceEq, Nat.reducePow, Int.reducePow, IntWalk.i64_in, IntKind.bits, eqAV, eqL, leafEq, andO, fillV, buildSV, List.getElem?_toArray, List.getElem?_cons_zero, List.getElem?_cons_succ, List.getElem?_nil, Int.reduceGT, Int.reduceGE, Int.reduceBNe, Bool.true_and, Bool.and_true, Bool.false_and, Bool.and_false, Bool.and_self, IntWalk.u64_in, Int.cast_ofNat_Int, callF1, pad16, pad_0, pad_1, pad_2, pad_3, pad_4, pad_5, pad_6, pad_7, pad_8, pad_9, pad_10, pad_11, pad_12, pad_13, pad_14, pad_15, gc0, gc1, gc2, gc3, gc4, gc5, gc6, gc7, gc8, gc9, gc10, gc11, gc12, gc13, gc14, gc15, gcS, sc0, sc1, sc2, sc3, sc4, sc5, sc6, sc7, sc8, sc9, sc10, sc11, sc12, sc13, sc14, sc15, scS, List.drop_succ_cons, List.drop_nil, x_pan, s_pan, b_pan, pE_ret, pE_pan, pE_none, pE_ite, pvE_some, pvE_none, pvE_ite, rv_some, rv_none, rv_ite, oR_ret, t_mv, t_pick, t_alloc, t_box, t_build, t_buildS, t_load, t_store, t_nilck, t_bin, t_eqb, t_eqA, t_eqp, t_un, t_conv, t_field, t_idxA, t_faddr, t_iaddrS, t_iaddrA, t_ext, t_len, t_mm, t_call, t_ifc, t_fn, t_slc, t_slcA, t_slcT, t_tass, t_isn, t_mks, t_app, t_pan, panE_i, optE_none, optE_some, bnd_none, bnd_int, slA_none, slA_some, appR_some, appOld_cells, newsV_s, newsV_n, lenS_s, appV_nil, appV_some, mksV_i, sh_c, sh_g, f_pan, endD_ret, dfr_normal, dfr_ret, dfr_pan, restD_normal, callD1, callC1, tassV, isnV, slcV, slcAV, slcTV, slcB, appNew, Option.bind_some, Option.bind_none, d_pan, h_pan, wrH_eq, wrX_cells, wrU_some, upH_nil, upH_cons, lk_upH, effR_some, effR_none, effR_ite, Option.isNone_none, Option.isNone_some, slA_zero, call_yield, e_range, it_func, wy_same, y_call, isLp_self, beg_normal, end_normal, end_ret, end_exit, end_ite, aft_ret, aft_ready, aft_done, aft_exit, setP_cons, setP_nil, sh_r, t_mkmap, t_mlook, t_mupd, t_mdel, mapF_some, lookF_some, setM_some, lookR_t, lookR_n, lookR_f, lookR_fn, lookV, mupdV, mdelV, mkM]
        refine ok_some (.inl ⟨rfl, (gCls w).length - (k + 1), by omega, _, k + 1, rfl, ⟨?_, ?_, ?_, ?_, ?_, ?_, ?_, ?_, ?_, ?_⟩, by omega, rfl⟩)
        all_goals simp -implicitDefEqProofs (maxSteps := 10000000) (disch := omega) only [T7, L7, G7_8, V8_eq, G7_9, G7_10, V10_eq, G7_11, G7_13, hB, hR, hI, kp.l, kp.t1, kp.t5, kp.t6, kp.t7, kp.t9, kp.t11, kp.t12, kp.t13, kp.t14, lenV_sl, Int.toNat_natCast, bft, btf, gtst, st_len, hc2, hct, pad, e_skip, e_ops, e_draw, d_none, d_nil, d_cons, d_ite, h_none, h_nil, h_cons, h_ite, eqS_same, lightV, e_seq, e_cond, e_block, e_exit, e_ret, s_normal, s_ret, s_exit, s_none, s_ite, b_normal, b_ret, b_exit, b_none, b_ite, c_bool, x_none, x_nil, x_cons, x_ite, p_some, p_none, p_ite, pt_some, pt_none, pv_some, pv_none, pv_ite, w_none, w_some, i_bool, i_undef, bt, bf, v_tmp, v_const, v_global, v_func, evs, f_normal, f_ret, f_none, f_ite, r_some, co_some, l_ptr, m_agg, m_one, sh_app, lk_nil, lk_cons, rd_eq, rdO_some, rdO_none, rdN_none, rdL_some, rdL_none, wrB_none, unitR_some, wr_nil, wr_here, wr_skip, k_cells, tk_zero, tk_take, tk_skip, tkC_some, call_func, gt, st, binV, arith, isSh, storeV, all1, idxAV, fieldV, faddrV, iaddrSV, iaddrAV, pickV, convV, unV, eqbV, eqpV, extV, mm2, mmV, nilckV, ress, res1, retV, Value.cells, cond_true, cond_false, Bool.true_or, Bool.false_or, Bool.or_true, Bool.or_false, beq_self_eq_true, if_true, if_false, ite_true, ite_false, decide_true, decide_false, decide_eq_true_eq, reduceIte, Nat.zero_add, Nat.add_zero, and_self, true_and, and_true, List.size_toArray, List.length_cons, List.length_nil, List.append_nil, List.nil_append, Int.toNat_zero, Bool.not_false, Bool.not_true, Bool.not_not, Bool.false_eq_true, Bool.true_eq_false, reduceCtorEq, Int.reduceLT, Int.reduceLE, Int.reduceToNat, Int.reduceAdd, Int.reduceSub, Int.reduceMul, Int.reduceNeg, Nat.reduceMul, Nat.reduceAdd, Nat.reduceSub, Nat.reduceBEq, Nat.reduceEqDiff, Nat.reduceLT, Nat.reduceLeDiff, Int.reduceBEq, Int.reduceEq, Nat.reducePow, Int.reducePow, IntWalk.i64_in, IntKind.bits, eqAV, eqL, leafEq, andO, fillV, buildSV, List.getElem?_toArray, List.getElem?_cons_zero, List.getElem?_cons_succ, List.getElem?_nil, Int.reduceGT, Int.reduceGE, Int.reduceBNe, Bool.true_and, Bool.and_true, Bool.false_and, Bool.and_false, Bool.and_self, IntWalk.u64_in, Int.cast_ofNat_Int, callF1, pad16, pad_0, pad_1, pad_2, pad_3, pad_4, pad_5, pad_6, pad_7, pad_8, pad_9, pad_10, pad_11, pad_12, pad_13, pad_14, pad_15, gc0, gc1, gc2, gc3, gc4, gc5, gc6, gc7, gc8, gc9, gc10, gc11, gc12, gc13, gc14, gc15, gcS, sc0, sc1, sc2, sc3, sc4, sc5, sc6, sc7, sc8, sc9, sc10, sc11, sc12, sc13, sc14, sc15, scS, List.drop_succ_cons, List.drop_nil, x_pan, s_pan, b_pan, pE_ret, pE_pan, pE_none, pE_ite, pvE_some, pvE_none, pvE_ite, rv_some, rv_none, rv_ite, oR_ret, t_mv, t_pick, t_alloc, t_box, t_build, t_buildS, t_load, t_store, t_nilck, t_bin, t_eqb, t_eqA, t_eqp, t_un, t_conv, t_field, t_idxA, t_faddr, t_iaddrS, t_iaddrA, t_ext, t_len, t_mm, t_call, t_ifc, t_fn, t_slc, t_slcA, t_slcT, t_tass, t_isn, t_mks, t_app, t_pan, panE_i, optE_none, optE_some, bnd_none, bnd_int, slA_none, slA_some, appR_some, appOld_cells, newsV_s, newsV_n, lenS_s, appV_nil, appV_some, mksV_i, sh_c, sh_g, f_pan, endD_ret, dfr_normal, dfr_ret, dfr_pan, restD_normal, callD1, callC1, tassV, isnV, slcV, slcAV, slcTV, slcB, appNew, Option.bind_some, Option.bind_none, d_pan, h_pan, wrH_eq, wrX_cells, wrU_some, upH_nil, upH_cons, lk_upH, effR_some, effR_none, effR_ite, Option.isNone_none, Option.isNone_some, slA_zero, call_yield, e_range, it_func, wy_same, y_call, isLp_self, beg_normal, end_normal, end_ret, end_exit, end_ite, aft_ret, aft_ready, aft_done, aft_exit, setP_cons, setP_nil, sh_r, t_mkmap, t_mlook, t_mupd, t_mdel, mapF_some, lookF_some, setM_some, lookR_t, lookR_n, lookR_f, lookR_fn, lookV, mupdV, mdelV, mkM]
      by_cases u2 : (i : Int) < c.t
      case neg =>
        have hu : unw i c = false := by simp [unw, u2]
        rw [hu, if_neg (by decide)] at hct
        simp -implicitDefEqProofs (maxSteps := 10000000) (disch := omega) only [T7, L7, G7_8, V8_eq, G7_9, G7_10, V10_eq, G7_11, G7_13, hB, hR, hI, kp.l, kp.t1, kp.t5, kp.t6, kp.t7, kp.t9, kp.t11, kp.t12, kp.t13, kp.t14, lenV_sl, Int.toNat_natCast, bft, btf, gtst, st_len, hlC, hkn, hkn', k0, r6, r7, u1, u2, pad, e_skip, e_ops, e_draw, d_none, d_nil, d_cons, d_ite, h_none, h_nil, h_cons, h_ite, eqS_same, lightV, e_seq, e_cond, e_block, e_exit, e_ret, s_normal, s_ret, s_exit, s_none, s_ite, b_normal, b_ret, b_exit, b_none, b_ite, c_bool, x_none, x_nil, x_cons, x_ite, p_some, p_none, p_ite, pt_some, pt_none, pv_some, pv_none, pv_ite, w_none, w_some, i_bool, i_undef, bt, bf, v_tmp, v_const, v_global, v_func, evs, f_normal, f_ret, f_none, f_ite, r_some, co_some, l_ptr, m_agg, m_one, sh_app, lk_nil, lk_cons, rd_eq, rdO_some, rdO_none, rdN_none, rdL_some, rdL_none, wrB_none, unitR_some, wr_nil, wr_here, wr_skip, k_cells, tk_zero, tk_take, tk_skip, tkC_some, call_func, gt, st, binV, arith, isSh, storeV, all1, idxAV, fieldV, faddrV, iaddrSV, iaddrAV, pickV, convV, unV, eqbV, eqpV, extV, mm2, mmV, nilckV, ress, res1, retV, Value.cells, cond_true, cond_false, Bool.true_or, Bool.false_or, Bool.or_true, Bool.or_false, beq_self_eq_true, if_true, if_false, ite_true, ite_false, decide_true, decide_false, decide_eq_true_eq, reduceIte, Nat.zero_add, Nat.add_zero, and_self, true_and, and_true, List.size_toArray, List.length_cons, List.length_nil, List.append_nil, List.nil_append, Int.toNat_zero, Bool.not_false, Bool.not_true, Bool.not_not, Bool.false_eq_true, Bool.true_eq_false, reduceCtorEq, Int.reduceLT, Int.reduceLE, Int.reduceToNat, Int.reduceAdd, Int.reduceSub, Int.reduceMul, Int.reduceNeg, Nat.reduceMul, Nat.reduceAdd, Nat.reduceSub, Nat.reduceBEq, Nat.reduceEqDiff, Nat.reduceLT, Nat.reduceLeDiff, Int.reduceBEq, Int.reduceEq, Nat.reducePow, Int.reducePow, IntWalk.i64_in, IntKind.bits, eqAV, eqL, leafEq, andO, fillV, buildSV, List.getElem?_toArray, List.getElem?_cons_zero, List.getElem?_cons_succ, List.getElem?_nil, Int.reduceGT, Int.reduceGE, Int.reduceBNe, Bool.true_and, Bool.and_true, Bool.false_and, Bool.and_false, Bool.and_self, IntWalk.u64_in, Int.cast_ofNat_Int, callF1, pad16, pad_0, pad_1, pad_2, pad_3, pad_4, pad_5, pad_6, pad_7, pad_8, pad_9, pad_10, pad_11, pad_12, pad_13, pad_14, pad_15, gc0, gc1, gc2, gc3, gc4, gc5, gc6, gc7, gc8, gc9, gc10, gc11, gc12, gc13, gc14, gc15, gcS, sc0, sc1, sc2, sc3, sc4, sc5, sc6, sc7, sc8, sc9, sc10, sc11, sc12, sc13, sc14, sc15, scS, List.drop_succ_cons, List.drop_nil, x_pan, s_pan, b_pan, pE_ret, pE_pan, pE_none, pE_ite, pvE_some, pvE_none, pvE_ite, rv_some, rv_none, rv_ite, oR_ret, t_mv, t_pick, t_alloc, t_box, t_build, t_buildS, t_load, t_store, t_nilck, t_bin, t_eqb, t_eqA, t_eqp, t_un, t_conv, t_field, t_idxA, t_faddr, t_iaddrS, t_iaddrA, t_ext, t_len, t_mm, t_call, t_ifc, t_fn, t_slc, t_slcA, t_slcT, t_tass, t_isn, t_mks, t_app, t_pan, panE_i, optE_none, optE_some, bnd_none, bnd_int, slA_none, slA_some, appR_some, appOld_cells, newsV_s, newsV_n, lenS_s, appV_nil, appV_some, mksV_i, sh_c, sh_g, f_pan, endD_ret, dfr_normal, dfr_ret, dfr_pan, restD_normal, callD1, callC1, tassV, isnV, slcV, slcAV, slcTV, slcB, appNew, Option.bind_some, Option.bind_none, d_pan, h_pan, wrH_eq, wrX_cells, wrU_some, upH_nil, upH_cons, lk_upH, effR_some, effR_none, effR_ite, Option.isNone_none, Option.isNone_some, slA_zero, call_yield, e_range, it_func, wy_same, y_call, isLp_self, beg_normal, end_normal, end_ret, end_exit, end_ite, aft_ret, aft_ready, aft_done, aft_exit, setP_cons, setP_nil, sh_r, t_mkmap, t_mlook, t_mupd, t_mdel, mapF_some, lookF_some, setM_some, lookR_t, lookR_n, lookR_f, lookR_fn, lookV, mupdV, mdelV, mkM]
        refine ok_some (.inl ⟨rfl, (gCls w).length - (k + 1), by omega, _, k + 1, rfl, ⟨?_, ?_, ?_, ?_, ?_, ?_, ?_, ?_, ?_, ?_⟩, by omega, rfl⟩)
        all_goals simp -implicitDefEqProofs (maxSteps := 10000000) (disch := omega) only [T7, L7, G7_8, V8_eq, G7_9, G7_10, V10_eq, G7_11, G7_13, hB, hR, hI, kp.l, kp.t1, kp.t5, kp.t6, kp.t7, kp.t9, kp.t11, kp.t12, kp.t13, kp.t14, lenV_sl, Int.toNat_natCast, bft, btf, gtst, st_len, hc2, hct, pad, e_skip, e_ops, e_draw, d_none, d_nil, d_cons, d_ite, h_none, h_nil, h_cons, h_ite, eqS_same, lightV, e_seq, e_cond, e_block, e_exit, e_ret, s_normal, s_ret, s_exit, s_none, s_ite, b_normal, b_ret, b_exit, b_none, b_ite, c_bool, x_none, x_nil, x_cons, x_ite, p_some, p_none, p_ite, pt_some, pt_none, pv_some, pv_none, pv_ite, w_none, w_some, i_bool, i_undef, bt, bf, v_tmp, v_const, v_global, v_func, evs, f_normal, f_ret, f_none, f_ite, r_some, co_some, l_ptr, m_agg, m_one, sh_app, lk_nil, lk_cons, rd_eq, rdO_some, rdO_none, rdN_none, rdL_some, rdL_none, wrB_none, unitR_some, wr_nil, wr_here, wr_skip, k_cells, tk_zero, tk_take, tk_skip, tkC_some, call_func, gt, st, binV, arith, isSh, storeV, all1, idxAV, fieldV, faddrV, iaddrSV, iaddrAV, pickV, convV, unV, eqbV, eqpV, extV, mm2, mmV, nilckV, ress, res1, retV, Value.cells, cond_true, cond_false, Bool.true_or, Bool.false_or, Bool.or_true, Bool.or_false, beq_self_eq_true, if_true, if_false, ite_true, ite_false, decide_true, decide_false, decide_eq_true_eq, reduceIte, Nat.zero_add, Nat.add_zero, and_self, true_and, and_true, List.size_toArray, List.length_cons, List.length_nil, List.append_nil, List.nil_append, Int.toNat_zero, Bool.not_false, Bool.not_true, Bool.not_not, Bool.false_eq_true, Bool.true_eq_false, reduceCtorEq, Int.reduceLT, Int.reduceLE, Int.reduceToNat, Int.reduceAdd, Int.reduceSub, Int.reduceMul, Int.reduceNeg, Nat.reduceMul, Nat.reduceAdd, Nat.reduceSub, Nat.reduceBEq, Nat.reduceEqDiff, Nat.reduceLT, Nat.reduceLeDiff, Int.reduceBEq, Int.reduceEq, Nat.reducePow, Int.reducePow, IntWalk.i64_in, IntKind.bits, eqAV, eqL, leafEq, andO, fillV, buildSV, List.getElem?_toArray, List.getElem?_cons_zero, List.getElem?_cons_succ, List.getElem?_nil, Int.reduceGT, Int.reduceGE, Int.reduceBNe, Bool.true_and, Bool.and_true, Bool.false_and, Bool.and_false, Bool.and_self, IntWalk.u64_in, Int.cast_ofNat_Int, callF1, pad16, pad_0, pad_1, pad_2, pad_3, pad_4, pad_5, pad_6, pad_7, pad_8, pad_9, pad_10, pad_11, pad_12, pad_13, pad_14, pad_15, gc0, gc1, gc2, gc3, gc4, gc5, gc6, gc7, gc8, gc9, gc10, gc11, gc12, gc13, gc14, gc15, gcS, sc0, sc1, sc2, sc3, sc4, sc5, sc6, sc7, sc8, sc9, sc10, sc11, sc12, sc13, sc14, sc15, scS, List.drop_succ_cons, List.drop_nil, x_pan, s_pan, b_pan, pE_ret, pE_pan, pE_none, pE_ite, pvE_some, pvE_none, pvE_ite, rv_some, rv_none, rv_ite, oR_ret, t_mv, t_pick, t_alloc, t_box, t_build, t_buildS, t_load, t_store, t_nilck, t_bin, t_eqb, t_eqA, t_eqp, t_un, t_conv, t_field, t_idxA, t_faddr, t_iaddrS, t_iaddrA, t_ext, t_len, t_mm, t_call, t_ifc, t_fn, t_slc, t_slcA, t_slcT, t_tass, t_isn, t_mks, t_app, t_pan, panE_i, optE_none, optE_some, bnd_none, bnd_int, slA_none, slA_some, appR_some, appOld_cells, newsV_s, newsV_n, lenS_s, appV_nil, appV_some, mksV_i, sh_c, sh_g, f_pan, endD_ret, dfr_normal, dfr_ret, dfr_pan, restD_normal, callD1, callC1, tassV, isnV, slcV, slcAV, slcTV, slcB, appNew, Option.bind_some, Option.bind_none, d_pan, h_pan, wrH_eq, wrX_cells, wrU_some, upH_nil, upH_cons, lk_upH, effR_some, effR_none, effR_ite, Option.isNone_none, Option.isNone_some, slA_zero, call_yield, e_range, it_func, wy_same, y_call, isLp_self, beg_normal, end_normal, end_ret, end_exit, end_ite, aft_ret, aft_ready, aft_done, aft_exit, setP_cons, setP_nil, sh_r, t_mkmap, t_mlook, t_mupd, t_mdel, mapF_some, lookF_some, setM_some, lookR_t, lookR_n, lookR_f, lookR_fn, lookV, mupdV, mdelV, mkM]
      have hu : unw i c = true := by simp [unw, u1, u2]
      rw [hu, if_pos rfl] at hct
      have hc3 : ((many + 1 : Nat) : Int) = (many : Int) + 1 := by omega
      simp -implicitDefEqProofs (maxSteps := 10000000) (disch := omega) only [T7, L7, G7_8, V8_eq, G7_9, G7_10, V10_eq, G7_11, G7_13, hB, hR, hI, kp.l, kp.t1, kp.t5, kp.t6, kp.t7, kp.t9, kp.t11, kp.t12, kp.t13, kp.t14, lenV_sl, Int.toNat_natCast, bft, btf, gtst, st_len, hlC, hkn, hkn', k0, r6, r7, u1, u2, pad, e_skip, e_ops, e_draw, d_none, d_nil, d_cons, d_ite, h_none, h_nil, h_cons, h_ite, eqS_same, lightV, e_seq, e_cond, e_block, e_exit, e_ret, s_normal, s_ret, s_exit, s_none, s_ite, b_normal, b_ret, b_exit, b_none, b_ite, c_bool, x_none, x_nil, x_cons, x_ite, p_some, p_none, p_ite, pt_some, pt_none, pv_some, pv_none, pv_ite, w_none, w_some, i_bool, i_undef, bt, bf, v_tmp, v_const, v_global, v_func, evs, f_normal, f_ret, f_none, f_ite, r_some, co_some, l_ptr, m_agg, m_one, sh_app, lk_nil, lk_cons, rd_eq, rdO_some, rdO_none, rdN_none, rdL_some, rdL_none, wrB_none, unitR_some, wr_nil, wr_here, wr_skip, k_cells, tk_zero, tk_take, tk_skip, tkC_some, call_func, gt, st, binV, arith, isSh, storeV, all1, idxAV, fieldV, faddrV, iaddrSV, iaddrAV, pickV, convV, unV, eqbV, eqpV, extV, mm2, mmV, nilckV, ress, res1, retV, Value.cells, cond_true, cond_false, Bool.true_or, Bool.false_or, Bool.or_true, Bool.or_false, beq_self_eq_true, if_true, if_false, ite_true, ite_false, decide_true, decide_false, decide_eq_true_eq, reduceIte, Nat.zero_add, Nat.add_zero, and_self, true_and, and_true, List.size_toArray, List.length_cons, List.length_nil, List.append_nil, List.nil_append, Int.toNat_zero, Bool.not_false, Bool.not_true, Bool.not_not, Bool.false_eq_true, Bool.true_eq_false, reduceCtorEq, Int.reduceLT, Int.reduceLE, Int.reduceToNat, Int.reduceAdd, Int.reduceSub, Int.reduceMul, Int.reduceNeg, Nat.reduceMul, Nat.reduceAdd, Nat.reduceSub, Nat.reduceBEq, Nat.reduceEqDiff, Nat.reduceLT, Nat.reduceLeDiff, Int.reduceBEq, Int.reduceEq, Nat.reducePow, Int.reducePow, IntWalk.i64_in, IntKind.bits, eqAV, eqL, leafEq, andO, fillV, buildSV, List.getElem?_toArray, List.getElem?_cons_zero, List.getElem?_cons_succ, List.getElem?_nil, Int.reduceGT, Int.reduceGE, Int.reduceBNe, Bool.true_and, Bool.and_true, Bool.false_and, Bool.and_false, Bool.and_self, IntWalk.u64_in, Int.cast_ofNat_Int, callF1, pad16, pad_0, pad_1, pad_2, pad_3, pad_4, pad_5, pad_6, pad_7, pad_8, pad_9, pad_10, pad_11, pad_12, pad_13, pad_14, pad_15, gc0, gc1, gc2, gc3, gc4, gc5, gc6, gc7, gc8, gc9, gc10, gc11, gc12, gc13, gc14, gc15, gcS, sc0, sc1, sc2, sc3, sc4, sc5, sc6, sc7, sc8, sc9, sc10, sc11, sc12, sc13, sc14, sc15, scS, List.drop_succ_cons, List.drop_nil, x_pan, s_pan, b_pan, pE_ret, pE_pan, pE_none, pE_ite, pvE_some, pvE_none, pvE_ite, rv_some, rv_none, rv_ite, oR_ret, t_mv, t_pick, t_alloc, t_box, t_build, t_buildS, t_load, t_store, t_nilck, t_bin, t_eqb, t_eqA, t_eqp, t_un, t_conv, t_field, t_idxA, t_faddr, t_iaddrS, t_iaddrA, t_ext, t_len, t_mm, t_call, t_ifc, t_fn, t_slc, t_slcA, t_slcT, t_tass, t_isn, t_mks, t_app, t_pan, panE_i, optE_none, optE_some, bnd_none, bnd_int, slA_none, slA_some, appR_some, appOld_cells, newsV_s, newsV_n, lenS_s, appV_nil, appV_some, mksV_i, sh_c, sh_g, f_pan, endD_ret, dfr_normal, dfr_ret, dfr_pan, restD_normal, callD1, callC1, tassV, isnV, slcV, slcAV, slcTV, slcB, appNew, Option.bind_some, Option.bind_none, d_pan, h_pan, wrH_eq, wrX_cells, wrU_some, upH_nil, upH_cons, lk_upH, effR_some, effR_none, effR_ite, Option.isNone_none, Option.isNone_some, slA_zero, call_yield, e_range, it_func, wy_same, y_call, isLp_self, beg_normal, end_normal, end_ret, end_exit, end_ite, aft_ret, aft_ready, aft_done, aft_exit, setP_cons, setP_nil, sh_r, t_mkmap, t_mlook, t_mupd, t_mdel, mapF_some, lookF_some, setM_some, lookR_t, lookR_n, lookR_f, lookR_fn, lookV, mupdV, mdelV, mkM]
      refine ok_some (.inl ⟨rfl, (gCls w).length - (k + 1), by omega, _, k + 1, rfl, ⟨?_, ?_, ?_, ?_, ?_, ?_, ?_, ?_, ?_, ?_⟩, by omega, rfl⟩)
      all_goals simp -implicitDefEqProofs (maxSteps := 10000000) (disch := omega) only [T7, L7, G7_8, V8_eq, G7_9, G7_10, V10_eq, G7_11, G7_13, hB, hR, hI, kp.l, kp.t1, kp.t5, kp.t6, kp.t7, kp.t9, kp.t11, kp.t12, kp.t13, kp.t14, lenV_sl, Int.toNat_natCast, bft, btf, gtst, st_len, hc2, hct, hc3, pad, e_skip, e_ops, e_draw, d_none, d_nil, d_cons, d_ite, h_none, h_nil, h_cons, h_ite, eqS_same, lightV, e_seq, e_cond, e_block, e_exit, e_ret, s_normal, s_ret, s_exit, s_none, s_ite, b_normal, b_ret, b_exit, b_none, b_ite, c_bool, x_none, x_nil, x_cons, x_ite, p_some, p_none, p_ite, pt_some, pt_none, pv_some, pv_none, pv_ite, w_none, w_some, i_bool, i_undef, bt, bf, v_tmp, v_const, v_global, v_func, evs, f_normal, f_ret, f_none, f_ite, r_some, co_some, l_ptr, m_agg, m_one, sh_app, lk_nil, lk_cons, rd_eq, rdO_some, rdO_none, rdN_none, rdL_some, rdL_none, wrB_none, unitR_some, wr_nil, wr_here, wr_skip, k_cells, tk_zero, tk_take, tk_skip, tkC_some, call_func, gt, st, binV, arith, isSh, storeV, all1, idxAV, fieldV, faddrV, iaddrSV, iaddrAV, pickV, convV, unV, eqbV, eqpV, extV, mm2, mmV, nilckV, ress, res1, retV, Value.cells, cond_true, cond_false, Bool.true_or, Bool.false_or, Bool.or_true, Bool.or_false, beq_self_eq_true, if_true, if_false, ite_true, ite_false, decide_true, decide_false, decide_eq_true_eq, reduceIte, Nat.zero_add, Nat.add_zero, and_self, true_and, and_true, List.size_toArray, List.length_cons, List.length_nil, List.append_nil, List.nil_append, Int.toNat_zero, Bool.not_false, Bool.not_true, Bool.not_not, Bool.false_eq_true, Bool.true_eq_false, reduceCtorEq, Int.reduceLT, Int.reduceLE, Int.reduceToNat, Int.reduceAdd, Int.reduceSub, Int.reduceMul, Int.reduceNeg, Nat.reduceMul, Nat.reduceAdd, Nat.reduceSub, Nat.reduceBEq, Nat.reduceEqDiff, Nat.reduceLT, Nat.reduceLeDiff, Int.reduceBEq, Int.reduceEq, Nat.reducePow, Int.reducePow, IntWalk.i64_in, IntKind.bits, eqAV, eqL, leafEq, andO, fillV, buildSV, List.getElem?_toArray, List.getElem?_cons_zero, List.getElem?_cons_succ, List.getElem?_nil, Int.reduceGT, Int.reduceGE, Int.reduceBNe, Bool.true_and, Bool.and_true, Bool.false_and, Bool.and_false, Bool.and_self, IntWalk.u64_in, Int.cast_ofNat_Int, callF1, pad16, pad_0, pad_1, pad_2, pad_3, pad_4, pad_5, pad_6, pad_7, pad_8, pad_9, pad_10, pad_11, pad_12, pad_13, pad_14, pad_15, gc0, gc1, gc2, gc3, gc4, gc5, gc6, gc7, gc8, gc9, gc10, gc11, gc12, gc13, gc14, gc15, gcS, sc0, sc1, sc2, sc3, sc4, sc5, sc6, sc7, sc8, sc9, sc10, sc11, sc12, sc13, sc14, sc15, scS, List.drop_succ_cons, List.drop_nil, x_pan, s_pan, b_pan, pE_ret, pE_pan, pE_none, pE_ite, pvE_some, pvE_none, pvE_ite, rv_some, rv_none, rv_ite, oR_ret, t_mv, t_pick, t_alloc, t_box, t_build, t_buildS, t_load, t_store, t_nilck, t_bin, t_eqb, t_eqA, t_eqp, t_un, t_conv, t_field, t_idxA, t_faddr, t_iaddrS, t_iaddrA, t_ext, t_len, t_mm, t_call, t_ifc, t_fn, t_slc, t_slcA, t_slcT, t_tass, t_isn, t_mks, t_app, t_pan, panE_i, optE_none, optE_some, bnd_none, bnd_int, slA_none, slA_some, appR_some, appOld_cells, newsV_s, newsV_n, lenS_s, appV_nil, appV_some, mksV_i, sh_c, sh_g, f_pan, endD_ret, dfr_normal, dfr_ret, dfr_pan, restD_normal, callD1, callC1, tassV, isnV, slcV, slcAV, slcTV, slcB, appNew, Option.bind_some, Option.bind_none, d_pan, h_pan, wrH_eq, wrX_cells, wrU_some, upH_nil, upH_cons, lk_upH, effR_some, effR_none, effR_ite, Option.isNone_none, Option.isNone_some, slA_zero, call_yield, e_range, it_func, wy_same, y_call, isLp_self, beg_normal, end_normal, end_ret, end_exit, end_ite, aft_ret, aft_ready, aft_done, aft_exit, setP_cons, setP_nil, sh_r, t_mkmap, t_mlook, t_mupd, t_mdel, mapF_some, lookF_some, setM_some, lookR_t, lookR_n, lookR_f, lookR_fn, lookV, mupdV, mdelV, mkM]
    obtain ⟨x, ⟨ts, H1, N1⟩, rfl, rfl, rfl, rfl, kp⟩ := hO
    simp only at kp
    have hws := g_wid_step w i hin
    have h5 := cnt_five (w := w) (i : Int)
    simp -implicitDefEqProofs (maxSteps := 10000000) (disch := omega) only [T7, L7, G7_8, V8_eq, G7_9, G7_10, V10_eq, G7_11, G7_13, hB, hR, hI, kp.l, kp.t1, kp.t5, kp.t6, kp.t7, kp.t9, kp.t11, kp.t12, kp.t13, kp.t14, lenV_sl, Int.toNat_natCast, bft, btf, gtst, st_len, pad, e_skip, e_ops, e_draw, d_none, d_nil, d_cons, d_ite, h_none, h_nil, h_cons, h_ite, eqS_same, lightV, e_seq, e_cond, e_block, e_exit, e_ret, s_normal, s_ret, s_exit, s_none, s_ite, b_normal, b_ret, b_exit, b_none, b_ite, c_bool, x_none, x_nil, x_cons, x_ite, p_some, p_none, p_ite, pt_some, pt_none, pv_some, pv_none, pv_ite, w_none, w_some, i_bool, i_undef, bt, bf, v_tmp, v_const, v_global, v_func, evs, f_normal, f_ret, f_none, f_ite, r_some, co_some, l_ptr, m_agg, m_one, sh_app, lk_nil, lk_cons, rd_eq, rdO_some, rdO_none, rdN_none, rdL_some, rdL_none, wrB_none, unitR_some, wr_nil, wr_here, wr_skip, k_cells, tk_zero, tk_take, tk_skip, tkC_some, call_func, gt, st, binV, arith, isSh, storeV, all1, idxAV, fieldV, faddrV, iaddrSV, iaddrAV, pickV, convV, unV, eqbV, eqpV, extV, mm2, mmV, nilckV, ress, res1, retV, Value.cells, cond_true, cond_false, Bool.true_or, Bool.false_or, Bool.or_true, Bool.or_false, beq_self_eq_true, if_true, if_false, ite_true, ite_false, decide_true, decide_false, decide_eq_true_eq, reduceIte, Nat.zero_add, Nat.add_zero, and_self, true_and, and_true, List.size_toArray, List.length_cons, List.length_nil, List.append_nil, List.nil_append, Int.toNat_zero, Bool.not_false, Bool.not_true, Bool.not_not, Bool.false_eq_true, Bool.true_eq_false, reduceCtorEq, Int.reduceLT, Int.reduceLE, Int.reduceToNat, Int.reduceAdd, Int.reduceSub, Int.reduceMul, Int.reduceNeg, Nat.reduceMul, Nat.reduceAdd, Nat.reduceSub, Nat.reduceBEq, Nat.reduceEqDiff, Nat.reduceLT, Nat.reduceLeDiff, Int.reduceBEq, Int.reduceEq, Nat.reducePow, Int.reducePow, IntWalk.i64_in, IntKind.bits, eqAV, eqL, leafEq, andO, fillV, buildSV, List.getElem?_toArray, List.getElem?_cons_zero, List.getElem?_cons_succ, List.getElem?_nil, Int.reduceGT, Int.reduceGE, Int.reduceBNe, Bool.true_and, Bool.and_true, Bool.false_and, Bool.and_false, Bool.and_self, IntWalk.u64_in, Int.cast_ofNat_Int, callF1, pad16, pad_0, pad_1, pad_2, pad_3, pad_4, pad_5, pad_6, pad_7, pad_8, pad_9, pad_10, pad_11, pad_12, pad_13, pad_14, pad_15, gc0, gc1, gc2, gc3, gc4, gc5, gc6, gc7, gc8, gc9, gc10, gc11, gc12, gc13, gc14, gc15, gcS, sc0, sc1, sc2, sc3, sc4, sc5, sc6, sc7, sc8, sc9, sc10, sc11, sc12, sc13, sc14, sc15, scS, List.drop_succ_cons, List.drop_nil, x_pan, s_pan, b_pan, pE_ret, pE_pan, pE_none, pE_ite, pvE_some, pvE_none, pvE_ite, rv_some, rv_none, rv_ite, oR_ret, t_mv, t_pick, t_alloc, t_box, t_build, t_buildS, t_load, t_store, t_nilck, t_bin, t_eqb, t_eqA, t_eqp, t_un, t_conv, t_field, t_idxA, t_faddr, t_iaddrS, t_iaddrA, t_ext, t_len, t_mm, t_call, t_ifc, t_fn, t_slc, t_slcA, t_slcT, t_tass, t_isn, t_mks, t_app, t_pan, panE_i, optE_none, optE_some, bnd_none, bnd_int, slA_none, slA_some, appR_some, appOld_cells, newsV_s, newsV_n, lenS_s, appV_nil, appV_some, mksV_i, sh_c, sh_g, f_pan, endD_ret, dfr_normal, dfr_ret, dfr_pan, restD_normal, callD1, callC1, tassV, isnV, slcV, slcAV, slcTV, slcB, appNew, Option.bind_some, Option.bind_none, d_pan, h_pan, wrH_eq, wrX_cells, wrU_some, upH_nil, upH_cons, lk_upH, effR_some, effR_none, effR_ite, Option.isNone_none, Option.isNone_some, slA_zero, call_yield, e_range, it_func, wy_same, y_call, isLp_self, beg_normal, end_normal, end_ret, end_exit, end_ite, aft_ret, aft_ready, aft_done, aft_exit, setP_cons, setP_nil, sh_r, t_mkmap, t_mlook, t_mupd, t_mdel, mapF_some, lookF_some, setM_some, lookR_t, lookR_n, lookR_f, lookR_fn, lookV, mupdV, mdelV, mkM]
    refine ok_some (.inl ⟨rfl, gMany w - (i + 1), by omega, _, i + 1, rfl, ⟨?_, ?_, ?_, ?_, ?_, ?_, ?_, ?_⟩, by omega, rfl⟩)
    all_goals simp -implicitDefEqProofs (maxSteps := 10000000) (disch := omega) only [T7, L7, G7_8, V8_eq, G7_9, G7_10, V10_eq, G7_11, G7_13, hB, hR, hI, kp.l, kp.t1, kp.t5, kp.t6, kp.t7, kp.t9, kp.t11, kp.t12, kp.t13, kp.t14, lenV_sl, Int.toNat_natCast, bft, btf, gtst, st_len, hc1, hws, pad, e_skip, e_ops, e_draw, d_none, d_nil, d_cons, d_ite, h_none, h_nil, h_cons, h_ite, eqS_same, lightV, e_seq, e_cond, e_block, e_exit, e_ret, s_normal, s_ret, s_exit, s_none, s_ite, b_normal, b_ret, b_exit, b_none, b_ite, c_bool, x_none, x_nil, x_cons, x_ite, p_some, p_none, p_ite, pt_some, pt_none, pv_some, pv_none, pv_ite, w_none, w_some, i_bool, i_undef, bt, bf, v_tmp, v_const, v_global, v_func, evs, f_normal, f_ret, f_none, f_ite, r_some, co_some, l_ptr, m_agg, m_one, sh_app, lk_nil, lk_cons, rd_eq, rdO_some, rdO_none, rdN_none, rdL_some, rdL_none, wrB_none, unitR_some, wr_nil, wr_here, wr_skip, k_cells, tk_zero, tk_take, tk_skip, tkC_some, call_func, gt, st, binV, arith, isSh, storeV, all1, idxAV, fieldV, faddrV, iaddrSV, iaddrAV, pickV, convV, unV, eqbV, eqpV, extV, mm2, mmV, nilckV, ress, res1, retV, Value.cells, cond_true, cond_false, Bool.true_or, Bool.false_or, Bool.or_true, Bool.or_false, beq_self_eq_true, if_true, if_false, ite_true, ite_false, decide_true, decide_false, decide_eq_true_eq, reduceIte, Nat.zero_add, Nat.add_zero, and_self, true_and, and_true, List.size_toArray, List.length_cons, List.length_nil, List.append_nil, List.nil_append, Int.toNat_zero, Bool.not_false, Bool.not_true, Bool.not_not, Bool.false_eq_true, Bool.true_eq_false, reduceCtorEq, Int.reduceLT, Int.reduceLE, Int.reduceToNat, Int.reduceAdd, Int.reduceSub, Int.reduceMul, Int.reduceNeg, Nat.reduceMul, Nat.reduceAdd, Nat.reduceSub, Nat.reduceBEq, Nat.reduceEqDiff, Nat.reduceLT, Nat.reduceLeDiff, Int.reduceBEq, Int.reduceEq, Nat.reducePow, Int.reducePow, IntWalk.i64_in, IntKind.bits, eqAV, eqL, leafEq, andO, fillV, buildSV, List.getElem?_toArray, List.getElem?_cons_zero, List.getElem?_cons_succ, List.getElem?_nil, Int.reduceGT, Int.reduceGE, Int.reduceBNe, Bool.true_and, Bool.and_true, Bool.false_and, Bool.and_false, Bool.and_self, IntWalk.u64_in, Int.cast_ofNat_Int, callF1, pad16, pad_0, pad_1, pad_2, pad_3, pad_4, pad_5, pad_6, pad_7, pad_8, pad_9, pad_10, pad_11, pad_12, pad_13, pad_14, pad_15, gc0, gc1, gc2, gc3, gc4, gc5, gc6, gc7, gc8, gc9, gc10, gc11, gc12, gc13, gc14, gc15, gcS, sc0, sc1, sc2, sc3, sc4, sc5, sc6, sc7, sc8, sc9, sc10, sc11, sc12, sc13, sc14, sc15, scS, List.drop_succ_cons, List.drop_nil, x_pan, s_pan, b_pan, pE_ret, pE_pan, pE_none, pE_ite, pvE_some, pvE_none, pvE_ite, rv_some, rv_none, rv_ite, oR_ret, t_mv, t_pick, t_alloc, t_box, t_build, t_buildS, t_load, t_store, t_nilck, t_bin, t_eqb, t_eqA, t_eqp, t_un, t_conv, t_field, t_idxA, t_faddr, t_iaddrS, t_iaddrA, t_ext, t_len, t_mm, t_call, t_ifc, t_fn, t_slc, t_slcA, t_slcT, t_tass, t_isn, t_mks, t_app, t_pan, panE_i, optE_none, optE_some, bnd_none, bnd_int, slA_none, slA_some, appR_some, appOld_cells, newsV_s, newsV_n, lenS_s, appV_nil, appV_some, mksV_i, sh_c, sh_g, f_pan, endD_ret, dfr_normal, dfr_ret, dfr_pan, restD_normal, callD1, callC1, tassV, isnV, slcV, slcAV, slcTV, slcB, appNew, Option.bind_some, Option.bind_none, d_pan, h_pan, wrH_eq, wrX_cells, wrU_some, upH_nil, upH_cons, lk_upH, effR_some, effR_none, effR_ite, Option.isNone_none, Option.isNone_some, slA_zero, call_yield, e_range, it_func, wy_same, y_call, isLp_self, beg_normal, end_normal, end_ret, end_exit, end_ite, aft_ret, aft_ready, aft_done, aft_exit, setP_cons, setP_nil, sh_r, t_mkmap, t_mlook, t_mupd, t_mdel, mapF_some, lookF_some, setM_some, lookR_t, lookR_n, lookR_f, lookR_fn, lookV, mupdV, mdelV, mkM]
  obtain ⟨x, ⟨ts, H1, N1⟩, rfl, rfl, rfl, rfl, kp⟩ := hO
  simp only at kp
  have eP := f10 (B := B) hG at_ ((gMany w : Int) + 1) hat (by omega)
  have bP := pk_b (x := at_) (n := (gMany w : Int) + 1) (by omega)
  obtain ⟨p, hp⟩ : ∃ p : Nat, pk at_ ((gMany w : Int) + 1) = (p : Int) := ⟨(pk at_ ((gMany w : Int) + 1)).toNat, by omega⟩
  rw [hp] at eP bP
  obtain ⟨t1, t2⟩ := g_wid_take w p (by omega)
  obtain ⟨a, cap, rfl, hcapL, rT⟩ : ∃ a cap, v9 = .slice a (gMany w) cap ∧ gMany w ≤ cap ∧ SlR ev7 7 B H1 (.slice a p cap) ((gEvs w).take p) := by
    rcases s9 with ⟨h, rfl⟩ | ⟨b, cap, rfl, _, _, hc, _⟩
    · have hz : gMany w = 0 := by rw [← gEvs_len, h]; rfl
      refine ⟨none, 0, by rw [hz], by omega, ?_⟩
      exact SlR.take rL (by rw [h]; simp; omega)
    · rw [gEvs_len] at hc
      exact ⟨_, cap, by rw [gEvs_len], hc, SlR.take rL (by rw [gEvs_len]; omega)⟩
  obtain ⟨H2, N2, e2, g2, f2⟩ := width gC rT
  rw [t1] at e2
  have p0 : (0 : Int) ≤ (p : Int) := by omega
  have pc : (p : Int) ≤ (cap : Int) := by omega
  have hww := g_wid w
  rw [← hww] at kp
  have hbq : (wid (gEvs w) == wid (gEvs w)) = true := by simp
  simp -implicitDefEqProofs (maxSteps := 10000000) (disch := omega) only [T7, L7, G7_8, V8_eq, G7_9, G7_10, V10_eq, G7_11, G7_13, hB, hR, hI, kp.l, kp.t1, kp.t5, kp.t6, kp.t7, kp.t9, kp.t11, kp.t12, lenV_sl, Int.toNat_natCast, bft, btf, gtst, st_len, hlL, eP, p0, pc, e2, t2, Nat.sub_zero, slA_ite, pad, e_skip, e_ops, e_draw, d_none, d_nil, d_cons, d_ite, h_none, h_nil, h_cons, h_ite, eqS_same, lightV, e_seq, e_cond, e_block, e_exit, e_ret, s_normal, s_ret, s_exit, s_none, s_ite, b_normal, b_ret, b_exit, b_none, b_ite, c_bool, x_none, x_nil, x_cons, x_ite, p_some, p_none, p_ite, pt_some, pt_none, pv_some, pv_none, pv_ite, w_none, w_some, i_bool, i_undef, bt, bf, v_tmp, v_const, v_global, v_func, evs, f_normal, f_ret, f_none, f_ite, r_some, co_some, l_ptr, m_agg, m_one, sh_app, lk_nil, lk_cons, rd_eq, rdO_some, rdO_none, rdN_none, rdL_some, rdL_none, wrB_none, unitR_some, wr_nil, wr_here, wr_skip, k_cells, tk_zero, tk_take, tk_skip, tkC_some, call_func, gt, st, binV, arith, isSh, storeV, all1, idxAV, fieldV, faddrV, iaddrSV, iaddrAV, pickV, convV, unV, eqbV, eqpV, extV, mm2, mmV, nilckV, ress, res1, retV, Value.cells, cond_true, cond_false, Bool.true_or, Bool.false_or, Bool.or_true, Bool.or_false, beq_self_eq_true, if_true, if_false, ite_true, ite_false, decide_true, decide_false, decide_eq_true_eq, reduceIte, Nat.zero_add, Nat.add_zero, and_self, true_and, and_true, List.size_toArray, List.length_cons, List.length_nil, List.append_nil, List.nil_append, Int.toNat_zero, Bool.not_false, Bool.not_true, Bool.not_not, Bool.false_eq_true, Bool.true_eq_false, reduceCtorEq, Int.reduceLT, Int.reduceLE, Int.reduceToNat, Int.reduceAdd, Int.reduceSub, Int.reduceMul, Int.reduceNeg, Nat.reduceMul, Nat.reduceAdd, Nat.reduceSub, Nat.reduceBEq, Nat.reduceEqDiff, Nat.reduceLT, Nat.reduceLeDiff, Int.reduceBEq, Int.reduceEq, Nat.reducePow, Int.reducePow, IntWalk.i64_in, IntKind.bits, eqAV, eqL, leafEq, andO, fillV, buildSV, List.getElem?_toArray, List.getElem?_cons_zero, List.getElem?_cons_succ, List.getElem?_nil, Int.reduceGT, Int.reduceGE, Int.reduceBNe, Bool.true_and, Bool.and_true, Bool.false_and, Bool.and_false, Bool.and_self, IntWalk.u64_in, Int.cast_ofNat_Int, callF1, pad16, pad_0, pad_1, pad_2, pad_3, pad_4, pad_5, pad_6, pad_7, pad_8, pad_9, pad_10, pad_11, pad_12, pad_13, pad_14, pad_15, gc0, gc1, gc2, gc3, gc4, gc5, gc6, gc7, gc8, gc9, gc10, gc11, gc12, gc13, gc14, gc15, gcS, sc0, sc1, sc2, sc3, sc4, sc5, sc6, sc7, sc8, sc9, sc10, sc11, sc12, sc13, sc14, sc15, scS, List.drop_succ_cons, List.drop_nil, x_pan, s_pan, b_pan, pE_ret, pE_pan, pE_none, pE_ite, pvE_some, pvE_none, pvE_ite, rv_some, rv_none, rv_ite, oR_ret, t_mv, t_pick, t_alloc, t_box, t_build, t_buildS, t_load, t_store, t_nilck, t_bin, t_eqb, t_eqA, t_eqp, t_un, t_conv, t_field, t_idxA, t_faddr, t_iaddrS, t_iaddrA, t_ext, t_len, t_mm, t_call, t_ifc, t_fn, t_slc, t_slcA, t_slcT, t_tass, t_isn, t_mks, t_app, t_pan, panE_i, optE_none, optE_some, bnd_none, bnd_int, slA_none, slA_some, appR_some, appOld_cells, newsV_s, newsV_n, lenS_s, appV_nil, appV_some, mksV_i, sh_c, sh_g, f_pan, endD_ret, dfr_normal, dfr_ret, dfr_pan, restD_normal, callD1, callC1, tassV, isnV, slcV, slcAV, slcTV, slcB, appNew, Option.bind_some, Option.bind_none, d_pan, h_pan, wrH_eq, wrX_cells, wrU_some, upH_nil, upH_cons, lk_upH, effR_some, effR_none, effR_ite, Option.isNone_none, Option.isNone_some, slA_zero, call_yield, e_range, it_func, wy_same, y_call, isLp_self, beg_normal, end_normal, end_ret, end_exit, end_ite, aft_ret, aft_ready, aft_done, aft_exit, setP_cons, setP_nil, sh_r, t_mkmap, t_mlook, t_mupd, t_mdel, mapF_some, lookF_some, setM_some, lookR_t, lookR_n, lookR_f, lookR_fn, lookV, mupdV, mdelV, mkM]
  exact ⟨_, _, rfl⟩
end Go.Proofs.Ytkohdcjeankhkaa
namespace Go.Proofs.Ytkohdcjeankhkaa
open Go.Proofs.Ytkohdcjeankhkaa.K Go.ChangeShapes Go.WideShapes Go.ChangeAt Go.RowKit
set_option maxRecDepth 100000
set_option linter.unusedSimpArgs false
set_option linter.unusedVariables false

namespace histWidth
theorem own : ownKnob Try.prog.godebug = none := by kernel_rfl
theorem laidOut : laidOutB Try.prog = true := by kernel_rfl
theorem typesOk : (Try.f7.params.toList.all fun t => Try.prog.readableRec t && decide (t < Try.prog.types.size)) = true := by kernel_rfl
theorem contract (H : Type) (enc : TypeId × Value → H) (W : World) (base : Nat) (args : Array Value) (ds gs : List (DataW H)) (before : List MemPlace)
    (hval : ∀ (j : Nat) t v, Try.f7.params[j]? = some t → args[j]? = some v → Value.okWide Try.prog W .any base t v)
    (hW : DataW.Whole enc Try.prog Try.f7.params.toList Rows.histWidthSpec.vars false W args.toList ds gs before) (hL : laidMetH Try.prog Rows.histWidthRow.laid W) :
    Calls Try.prog 7 args W fun e W' => ∃ v, e = .returned v ∧ Rows.histWidthSpec.post enc Try.prog Try.f7 false true false false W args v W' := by
  have hW' := hW
  obtain ⟨p, q, hA0, hV, hpq, hfz, hnd⟩ := hW
  have hA : DataW.TrodAll enc Try.prog W 0 (fun _ => true) true Try.f7.params.toList args.toList ds p := hA0
  rw [Try.params7] at hA hval
  obtain ⟨v0, vs0, d0, ds0, p0, q0, hargs, rfl, rfl, h0, r0⟩ := trodAll_cons hA
  obtain ⟨v1, vs1, d1, ds1, p1, q1, rfl, rfl, rfl, h1, r1⟩ := trodAll_cons r0
  obtain ⟨rfl, rfl, rfl⟩ := trodAll_nil r1
  obtain rfl : args = #[v0, v1] := by apply Array.ext'; simpa using hargs
  obtain ⟨rfl, rfl⟩ := trodVars_none hV
  have s0 := open_flats (P := Try.prog) 20 Try.underlying22 (show leafs Try.prog 20 61 = some [.int .i64, .int .i64, .int .i64] by kernel_rfl) (show Try.prog.cellsOf 61 = 3 by kernel_rfl) (by decide) (hval 0 22 v0 rfl rfl) h0
  obtain ⟨x1, rfl, rfl, rfl, w1⟩ := open_int Try.underlying3 (hval 1 3 v1 rfl rfl) h1
  have b1 := i64_wf w1
  refine law_post laidOut (fun t ht => by simpa using List.all_eq_true.1 typesOk t ht) rfl (show Try.f7.resultTypes = #[4] by rfl) Try.underlying4 hW' rfl rfl rfl ?_
  obtain ⟨w, hw, hb⟩ := raw3_open s0
  have hs := callF_sound (w0 := W) (B := startB W) mixedOrders sG7 1300 Try.func7 low7
  exact law_calls hs (args := [v0, .int .i64 x1]) fun N hN => lv7 b1 hb [] N hN (hw.rd r3_len)

noncomputable def laidWorld (os : Os) : World := laidW Try.prog os []
theorem laid_met (os : Os) : laidMet Try.prog Rows.histWidthRow.laid ((laidWorld os).forCall (fun _ _ => 0) ⟨#[], #[.slice none 0 0, .int .i64 0], []⟩).memory :=
  laidMet_of_run' 16 (by kernel_rfl) (by kernel_rfl)
theorem reads (os : Os) {H : Type} (enc : TypeId × Value → H) : ∃ places, DataW.whole enc Try.prog ((laidWorld os).forCall (fun _ _ => 0) ⟨#[], #[.slice none 0 0, .int .i64 0], []⟩).memory Try.f7.params.toList Rows.histWidthSpec.vars false (#[.slice none 0 0, .int .i64 0] : Array Value).toList 16 = some ([.nil, .lit (.int .i64 0)], [], places) :=
  ⟨[], by kernel_rfl⟩
theorem lifted (os : Os) (started : os.Started) (H : Type) (enc : TypeId × Value → H) (F : Stop.Interp) :
    ReturnsInHanded {} Try.checked os 7 .any ((OpenSpec.ofChange Rows.histWidthSpec).preRow enc Try.prog Try.f7 Rows.histWidthRow.domain false Rows.histWidthRow.laid) (((OpenSpec.ofChange Rows.histWidthSpec).at F).post enc Try.prog Try.f7 false true false false) := by
  obtain ⟨places, hx⟩ := reads os enc
  refine returnsInHanded_of_row (C := Try.checked) (s := OpenSpec.ofChange Rows.histWidthSpec) own started (by kernel_rfl) Try.func7
    (witness_row_at (enc := enc) (C := Try.checked) false (laidWorld os) #[.slice none 0 0, .int .i64 0] rfl (by kernel_rfl) (by kernel_rfl) (by kernel_rfl)
      (OpenSpec.preRow_of_cond 16 hx (by kernel_rfl) (fun k hk => by cases hk) (by kernel_rfl) (laid_met os))) ?_
  intro W base args ds gs before hval hW _ _ _ hL _ _
  exact contract H enc W base args ds gs before hval hW hL
theorem said : Rows.HistWidthSaid :=
  OpenClaim.holds_of_cond 7 Try.f7 rfl rfl rfl rfl rfl rfl rfl ⟨rfl, rfl, rfl, rfl, rfl⟩ rfl rfl rfl rfl rfl (by kernel_rfl) Try.func7 (by kernel_rfl)
    (of_decide_eq_true (by kernel_rfl)) (by unfold Func.isWrapper; first | (rw [if_pos (by decide +kernel)]; kernel_rfl) | (rw [if_neg (by decide +kernel)]; exact ⟨rfl, rfl⟩))
    (fun os started H enc _ F => by rw [OpenClaim.pre_eq_preRow]; exact lifted os started H enc F)
end histWidth
end Go.Proofs.Ytkohdcjeankhkaa
