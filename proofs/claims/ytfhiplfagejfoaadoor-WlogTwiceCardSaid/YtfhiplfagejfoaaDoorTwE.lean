/- Own text: the log of writes, part TwE: contracts of the functions that the laws of the log call. -/
import Derived.Test.YtfhiplfagejfoaaDoorTwD
set_option linter.unusedSimpArgs false
set_option linter.unusedVariables false
namespace Go.Proofs.YtfhiplfagejfoaaDoor
open Go.Proofs.YtfhiplfagejfoaaDoor.K Go.ChangeShapes Go.WideShapes Go.ChangeAt Go.RowKit 
set_option maxRecDepth 100000
set_option linter.unusedSimpArgs false
set_option linter.unusedVariables false
theorem all1_slw {α : Type} {f : α → List Value} {sz : Nat} {B : OH} {H : HL} {v : Value} {L : List α} (h : SlW f sz B H v L) : all1 [v] = true := by
  obtain ⟨a, c, rfl, _⟩ := id h
  rfl
theorem ext_c2 {L M : List C2} (hl : L.length = M.length) (h : ∀ i, i < L.length → L.getD i z2 = M.getD i z2) : L = M := by
  apply List.ext_getElem hl
  intro i h1 h2
  have := h i h1
  rwa [List.getD_eq_getElem?_getD, List.getD_eq_getElem?_getD, List.getElem?_eq_getElem h1, List.getElem?_eq_getElem h2] at this
theorem wiped_wiped {M : List C2} {A n : Nat} (h : A + n ≤ M.length) : wiped (wiped M A n) A n = wiped M A n := ext_c2 (by rw [wiped_len]) fun i hi => by
  rw [wiped_at _ _ _ _ (by rw [wiped_len]; exact h), wiped_at _ _ _ _ h]
  split <;> rfl
theorem wdsL_at (M : List C2) (A : Nat) : ∀ n i, i < n → (wdsL M A n).getD i 0 = (M.getD (A + i) z2).w
  | 0, i, h => by omega
  | n + 1, i, h => by
    simp only [wdsL]
    by_cases e : i = n
    · subst e
      rw [List.getD_eq_getElem?_getD, List.getElem?_append_right (by rw [wdsL_len]; omega), wdsL_len, Nat.sub_self]; rfl
    · rw [List.getD_eq_getElem?_getD, List.getElem?_append_left (by rw [wdsL_len]; omega), ← List.getD_eq_getElem?_getD, wdsL_at M A n i (by omega)]
theorem ext_i {L M : List Int} (hl : L.length = M.length) (h : ∀ i, i < L.length → L.getD i 0 = M.getD i 0) : L = M := by
  apply List.ext_getElem hl
  intro i h1 h2
  have := h i h1
  rwa [List.getD_eq_getElem?_getD, List.getD_eq_getElem?_getD, List.getElem?_eq_getElem h1, List.getElem?_eq_getElem h2] at this
theorem wdsL_wiped {M : List C2} {A n : Nat} (h : A + n ≤ M.length) : wdsL (wiped M A n) A n = List.replicate n 0 := ext_i (by rw [wdsL_len, List.length_replicate]) fun i hi => by
  rw [wdsL_len] at hi
  rw [wdsL_at _ _ _ _ hi, wiped_at _ _ _ _ h, if_pos (by omega), rep_getD]; rfl
theorem unN_zero (n : Nat) : unN (List.replicate n 0) = 0 := by unfold unN; rw [rep_getD]; rfl
theorem un_zero (p h : Nat) : unOk p h (List.replicate (LG p h) 0) := by
  refine ⟨List.length_replicate, by rw [rep_getD]; omega, ?_, ?_, ?_⟩
  · rw [unN_zero]; intro i hi; omega
  · rw [unN_zero]; exact packE_ok (by simp [unL]) (fun i hi => by simp [unL] at hi)
  · rw [unN_zero]
    show oW (LG p h) [] 0 = _
    unfold oW LG
    rw [show 1 + 2 * (h + 2 * p) - 1 - 2 * 0 = 2 * (h + 2 * p) by omega, show 1 + 2 * (h + 2 * p) = 2 * (h + 2 * p) + 1 by omega, List.replicate_succ]
    simp [pkL]
theorem unR_zero (p h : Nat) : unR p h (List.replicate (LG p h) 0) = [] := by rw [(un_ok (un_zero p h)).1, unN_zero]; rfl
theorem lay_wiped {p h : Nat} {q : Int} {M : List C2} (hok : memOk p h q M) (hA : lgA p h q + LG p h ≤ M.length) : layE p h q (wiped M (lgA p h q) (LG p h)) = 0 ∧ layR p h q (wiped M (lgA p h q) (LG p h)) = wiped M (lgA p h q) (LG p h) := by
  have hok2 : memOk p h q (wiped M (lgA p h q) (LG p h)) := ⟨hok.1, by rw [wiped_len]; exact hok.2⟩
  unfold layE layR
  rw [wdsL_wiped hA, if_pos hok2, if_pos ⟨hok2, un_zero p h⟩, unR_zero]
  exact ⟨(un_ok (un_zero p h)).2, rfl⟩
theorem wipe_2 {p h : Nat} {q : Int} {M : List C2} (hok : memOk p h q M) (hA : lgA p h q + LG p h ≤ M.length) : wipE p h q M = 0 ∧ wipR p h q M = wiped M (lgA p h q) (LG p h) ∧ wipE p h q (wiped M (lgA p h q) (LG p h)) = 0 ∧ wipR p h q (wiped M (lgA p h q) (LG p h)) = wiped M (lgA p h q) (LG p h) := by
  have hok2 : memOk p h q (wiped M (lgA p h q) (LG p h)) := ⟨hok.1, by rw [wiped_len]; exact hok.2⟩
  refine ⟨if_pos hok, if_pos hok, if_pos hok2, ?_⟩
  unfold wipR
  rw [if_pos hok2, wiped_wiped hA]
theorem wiped_s {M : List C2} (hM : C2s M) (A : Nat) : ∀ n, C2s (wiped M A n)
  | 0 => hM
  | n + 1 => c2s_set (wiped_s hM A n) _ (by unfold z2 u64R i64R; simp only; omega)
/-- Where a cell is, and whether it is of that log. -/
theorem where_ {B : OH} (hG : ∃ H N, good B H N) (hT : Tab B) {kk p cc h : Nat} (C : Cf kk p cc h) {q a : Nat} (hq : q < p) (ha : a < bs p h 5) : ∃ k o : Nat, ∃ y : Int, F9 B [.agg #[.int .i64 (kk : Int), .int .i64 (p : Int), .int .i64 (cc : Int)], .int .i64 (a : Int)] = some (.tuple #[.int .i64 (k : Int), .int .i64 (o : Int), .int .i64 y]) ∧ ((k = 3 ∧ o = q) ↔ (lgA p h q ≤ a ∧ a < lgA p h q + LG p h)) ∧ k < 5 ∧ bs p h k ≤ a ∧ a < bs p h (k + 1) := by
  have hfr : fr p h 3 q = lgA p h q := rfl
  have hsz : sz p h 3 = LG p h := rfl
  have fin : ∀ k o, k < 5 → o < mn p k → fr p h k o ≤ a → a < fr p h k o + sz p h k → bs p h k ≤ a ∧ a < bs p h (k + 1) := fun k o hk ho h1 h2 => ⟨by unfold fr at h1; omega, by
    have := fr_lt (p := p) (h := h) ho (show Lt k o (k + 1) 0 from .inl (by omega))
    rw [fr_zero] at this; omega⟩
  by_cases hr : lgA p h q ≤ a ∧ a < lgA p h q + LG p h
  · rw [← hfr, ← hsz] at hr
    exact ⟨3, q, _, f9 hG hT C.k C.p C.c C.m (by omega) hq hr.1 hr.2, iff_of_true ⟨rfl, rfl⟩ hr, by omega, fin 3 q (by omega) hq hr.1 hr.2⟩
  · obtain ⟨k, o, hk, ho, h1, h2⟩ := has_part (p := p) C.h.1 5 ha
    refine ⟨k, o, _, f9 hG hT C.k C.p C.c C.m hk ho h1 h2, iff_of_false ?_ hr, hk, fin k o hk ho h1 h2⟩
    rintro ⟨rfl, rfl⟩
    exact hr ⟨h1, h2⟩
end Go.Proofs.YtfhiplfagejfoaaDoor
namespace Go.Proofs.YtfhiplfagejfoaaDoor
open Go.Proofs.YtfhiplfagejfoaaDoor.K Go.ChangeShapes Go.WideShapes Go.ChangeAt Go.RowKit 
set_option maxRecDepth 100000
set_option linter.unusedSimpArgs false
set_option linter.unusedVariables false
theorem pkL_at : ∀ (l : List W2) (i : Nat), i < l.length → (pkL l).getD (2 * i) 0 = (l.getD i y2).a ∧ (pkL l).getD (2 * i + 1) 0 = (l.getD i y2).w
  | [], i, h => by simp at h
  | x :: l, 0, _ => ⟨rfl, rfl⟩
  | x :: l, i + 1, h => by
    have := pkL_at l i (by simpa using h)
    rw [show 2 * (i + 1) = 2 * i + 1 + 1 by omega, show 2 * i + 1 + 1 + 1 = (2 * i + 1) + 1 + 1 by omega]
    exact this
theorem packW_at {p h : Nat} {l : List W2} {i : Nat} (hi : i < l.length) : (packW p h l).getD (1 + 2 * i) 0 = (l.getD i y2).a ∧ (packW p h l).getD (2 + 2 * i) 0 = (l.getD i y2).w := by
  have hp := pkL_at l i hi
  have hl := pkL_len l
  unfold packW oW
  rw [List.take_length, show 1 + 2 * i = 2 * i + 1 by omega, show 2 + 2 * i = (2 * i + 1) + 1 by omega]
  refine ⟨?_, ?_⟩
  · rw [List.getD_eq_getElem?_getD, List.getElem?_cons_succ, List.getElem?_append_left (by omega), ← List.getD_eq_getElem?_getD]; exact hp.1
  · rw [List.getD_eq_getElem?_getD, List.getElem?_cons_succ, List.getElem?_append_left (by omega), ← List.getD_eq_getElem?_getD]; exact hp.2
theorem ext_w2 {L M : List W2} (hl : L.length = M.length) (h : ∀ i, i < L.length → L.getD i y2 = M.getD i y2) : L = M := by
  apply List.ext_getElem hl
  intro i h1 h2
  have := h i h1
  rwa [List.getD_eq_getElem?_getD, List.getD_eq_getElem?_getD, List.getElem?_eq_getElem h1, List.getElem?_eq_getElem h2] at this
theorem unL_pack {p h : Nat} {l : List W2} : unL (packW p h l) l.length = l := ext_w2 (unL_len _ _) fun i hi => by
  rw [unL_len] at hi
  rw [unL_at _ _ _ hi, (packW_at hi).1, (packW_at hi).2]
theorem unN_pack {p h : Nat} {l : List W2} : unN (packW p h l) = l.length := rfl
theorem packW_l {p h : Nat} {l : List W2} (H : l.length ≤ h + 2 * p) : (packW p h l).length = LG p h := oW_len (Nat.le_refl _) (by unfold LG; omega)
theorem un_pack {p h : Nat} {l : List W2} (H : l.length ≤ h + 2 * p) (ho : okL p h l l.length) : unOk p h (packW p h l) ∧ unR p h (packW p h l) = l := by
  have : unOk p h (packW p h l) := by
    refine ⟨packW_l H, ?_, ?_, ?_, ?_⟩
    · show (l.length : Int) ≤ _
      omega
    · rw [unN_pack]; intro i hi; rw [(packW_at hi).1]; exact (ho i hi).1
    · rw [unN_pack, unL_pack]; exact packE_ok (by omega) ho
    · rw [unN_pack, unL_pack]
  exact ⟨this, by rw [(un_ok this).1, unN_pack, unL_pack]⟩
theorem pkL_mem {l : List W2} {x : Int} (h : x ∈ pkL l) : ∃ y ∈ l, x = y.a ∨ x = y.w := by
  unfold pkL at h
  obtain ⟨y, hy, hx⟩ := List.mem_flatMap.1 h
  exact ⟨y, hy, by simpa using hx⟩
theorem packW_u {kk p cc h : Nat} (C : Cf kk p cc h) {l : List W2} (hw : W2s l) (ho : okL p h l l.length) (hl : l.length ≤ 1000000) : U64s (packW p h l) := fun x hx => by
  unfold packW oW at hx
  rw [List.take_length] at hx
  rcases List.mem_cons.1 hx with rfl | hx
  · unfold u64R; omega
  · rcases List.mem_append.1 hx with hx | hx
    · obtain ⟨y, hy, e⟩ := pkL_mem hx
      rcases e with rfl | rfl
      · obtain ⟨i, hi, rfl⟩ := List.getElem_of_mem hy
        have := (ho i hi).1
        rw [List.getD_eq_getElem?_getD, List.getElem?_eq_getElem hi, Option.getD_some] at this
        have := okP_b C this
        unfold u64R; omega
      · exact (hw y hy).2
    · rw [(List.mem_replicate.1 hx).2]; unfold u64R; omega
end Go.Proofs.YtfhiplfagejfoaaDoor
namespace Go.Proofs.YtfhiplfagejfoaaDoor
open Go.Proofs.YtfhiplfagejfoaaDoor.K Go.ChangeShapes Go.WideShapes Go.ChangeAt Go.RowKit 
set_option maxRecDepth 100000
set_option linter.unusedSimpArgs false
set_option linter.unusedVariables false
theorem okL_iff {p h : Nat} {l : List W2} : okL p h l l.length ↔ (∀ y ∈ l, okP p h y.a) ∧ l.Pairwise (fun x y => x.a ≠ y.a) := by
  have hg : ∀ i (hi : i < l.length), l.getD i y2 = l[i] := fun i hi => by
    rw [List.getD_eq_getElem?_getD, List.getElem?_eq_getElem hi, Option.getD_some]
  refine ⟨fun ho => ⟨fun y hy => ?_, ?_⟩, fun ⟨h1, h2⟩ i hi => ?_⟩
  · obtain ⟨i, hi, rfl⟩ := List.getElem_of_mem hy
    have := (ho i hi).1
    rwa [hg i hi] at this
  · rw [List.pairwise_iff_getElem]
    intro i j hi hj hij
    have := (ho j hj).2 i hij
    rwa [hg i hi, hg j hj] at this
  · rw [hg i hi]
    refine ⟨h1 _ (List.getElem_mem hi), fun j hj => ?_⟩
    rw [hg j (by omega)]
    exact (List.pairwise_iff_getElem.1 h2) j i (by omega) hi hj
theorem rot_mem {α : Type} (l : List α) (k : Nat) (y : α) : y ∈ l.drop k ++ l.take k ↔ y ∈ l := by
  conv => rhs; rw [← List.take_append_drop k l]
  rw [List.mem_append, List.mem_append, or_comm]
theorem rot_len {α : Type} (l : List α) (k : Nat) : (l.drop k ++ l.take k).length = l.length := by
  rw [List.length_append, List.length_drop, List.length_take]; omega
theorem okL_rot {p h : Nat} {l : List W2} (k : Nat) (ho : okL p h l l.length) : okL p h (l.drop k ++ l.take k) (l.drop k ++ l.take k).length := by
  obtain ⟨h1, h2⟩ := okL_iff.1 ho
  refine okL_iff.2 ⟨fun y hy => h1 y ((rot_mem l k y).1 hy), ?_⟩
  have hp : (l.take k ++ l.drop k).Perm (l.drop k ++ l.take k) := List.perm_append_comm
  rw [List.take_append_drop] at hp
  exact (hp.pairwise_iff (fun h => Ne.symm h)).1 h2
theorem W2s_rot {l : List W2} (k : Nat) (hw : W2s l) : W2s (l.drop k ++ l.take k) := fun y hy => hw y ((rot_mem l k y).1 hy)
/-- Writes whose places lie in a memory, each place once. -/
def inM (n : Nat) (l : List W2) : Prop := (∀ y ∈ l, 0 ≤ y.a ∧ y.a < (n : Int)) ∧ l.Pairwise (fun x y => x.a ≠ y.a)
theorem getD_mem {l : List W2} {i : Nat} (hi : i < l.length) : l.getD i y2 ∈ l := List.mem_of_getElem? (some_getD (d := y2) hi)
theorem inM_ne {n : Nat} {l : List W2} (h : inM n l) {i j : Nat} (hi : i < l.length) (hj : j < l.length) (hij : i ≠ j) : (l.getD i y2).a.toNat ≠ (l.getD j y2).a.toNat := by
  have hg : ∀ i (hi : i < l.length), l.getD i y2 = l[i] := fun i hi => by
    rw [List.getD_eq_getElem?_getD, List.getElem?_eq_getElem hi, Option.getD_some]
  have a1 := h.1 _ (getD_mem hi)
  have a2 := h.1 _ (getD_mem hj)
  have : (l.getD i y2).a ≠ (l.getD j y2).a := by
    rw [hg i hi, hg j hj]
    rcases Nat.lt_or_gt_of_ne hij with h' | h'
    · exact (List.pairwise_iff_getElem.1 h.2) i j hi hj h'
    · exact ((List.pairwise_iff_getElem.1 h.2) j i hj hi h').symm
  omega
theorem lay_hit {M : List C2} {l : List W2} (h : inM M.length l) : ∀ n j, n ≤ l.length → j < n → (lay M l n).getD (l.getD j y2).a.toNat z2 = ⟨(l.getD j y2).w, 0⟩
  | 0, j, _, hj => by omega
  | n + 1, j, hn, hj => by
    have hin := h.1 _ (getD_mem (l := l) (i := n) (by omega))
    simp only [lay]
    rw [getD_set _ _ _ _ _ (by rw [lay_len]; omega)]
    by_cases e : j = n
    · subst e; rw [if_pos rfl]
    · rw [if_neg (inM_ne h (by omega) (by omega) (Ne.symm e)), lay_hit h n j (by omega) (by omega)]
theorem lay_miss {M : List C2} {l : List W2} (h : inM M.length l) {i : Nat} : ∀ n, n ≤ l.length → (∀ j, j < n → (l.getD j y2).a.toNat ≠ i) → (lay M l n).getD i z2 = M.getD i z2
  | 0, _, _ => rfl
  | n + 1, hn, hj => by
    have hin := h.1 _ (getD_mem (l := l) (i := n) (by omega))
    simp only [lay]
    rw [getD_set _ _ _ _ _ (by rw [lay_len]; omega), if_neg (hj n (by omega)), lay_miss h n (by omega) fun j hj' => hj j (by omega)]
theorem lay_mem {M : List C2} {l : List W2} (h : inM M.length l) {y : W2} (hy : y ∈ l) : (lay M l l.length).getD y.a.toNat z2 = ⟨y.w, 0⟩ := by
  obtain ⟨i, hi, e⟩ := List.getElem_of_mem hy
  have := lay_hit h l.length i (Nat.le_refl _) hi
  rw [List.getD_eq_getElem?_getD (l := l), List.getElem?_eq_getElem hi, Option.getD_some, e] at this
  exact this
theorem lay_not {M : List C2} {l : List W2} (h : inM M.length l) {i : Nat} (hn : ∀ y ∈ l, y.a.toNat ≠ i) : (lay M l l.length).getD i z2 = M.getD i z2 :=
  lay_miss h l.length (Nat.le_refl _) fun j hj => hn _ (getD_mem hj)
theorem lay_lay {M : List C2} {l : List W2} (h : inM M.length l) : lay (lay M l l.length) l l.length = lay M l l.length := ext_c2 (by rw [lay_len]) fun i hi => by
  have h' : inM (lay M l l.length).length l := by rw [lay_len]; exact h
  by_cases e : ∃ y ∈ l, y.a.toNat = i
  · obtain ⟨y, hy, rfl⟩ := e
    rw [lay_mem h' hy, lay_mem h hy]
  · rw [lay_not h' fun y hy e' => e ⟨y, hy, e'⟩]
theorem lay_s {M : List C2} {l : List W2} (hM : C2s M) (hl : W2s l) : ∀ n, C2s (lay M l n)
  | 0 => hM
  | n + 1 => c2s_set (lay_s hM hl n) _ ⟨(hl.at n).2, by unfold i64R; simp only; omega⟩
theorem wdsL_with {M : List C2} {A : Nat} {w : List Int} {n : Nat} (hw : w.length = n) (hA : A + n ≤ M.length) : wdsL (withW M A w n) A n = w := ext_i (by rw [wdsL_len, hw]) fun i hi => by
  rw [wdsL_len] at hi
  rw [wdsL_at _ _ _ _ hi, withW_at _ _ _ _ _ hA, if_pos (by omega), show A + i - A = i by omega]
theorem wdsL_lay {M : List C2} {l : List W2} (h : inM M.length l) {A n : Nat} (hd : ∀ y ∈ l, ¬ (A ≤ y.a.toNat ∧ y.a.toNat < A + n)) : wdsL (lay M l l.length) A n = wdsL M A n := ext_i (by rw [wdsL_len, wdsL_len]) fun i hi => by
  rw [wdsL_len] at hi
  rw [wdsL_at _ _ _ _ hi, wdsL_at _ _ _ _ hi, lay_not h fun y hy e => hd y hy (by omega)]
theorem okP_log {kk p cc h q : Nat} (C : Cf kk p cc h) (hq : q < p) {a : Int} (ho : okP p h a) : ¬ (lgA p h q ≤ a.toNat ∧ a.toNat < lgA p h q + LG p h) := by
  have h1 := lgq_b C hq
  have h2 : lgA p h (q : Int) = bs p h 3 + LG p h * q := rfl
  have h3 := bs4_5 (p := p) (h := h)
  unfold okP at ho
  omega
theorem okL_in {kk p cc h : Nat} (C : Cf kk p cc h) {l : List W2} (ho : okL p h l l.length) : inM (bs p h 5) l := by
  obtain ⟨h1, h2⟩ := okL_iff.1 ho
  exact ⟨fun y hy => by have := okP_b C (h1 y hy); omega, h2⟩
/-- What Lay answers where the log has these writes. -/
theorem lay_ok {kk p cc h q : Nat} (C : Cf kk p cc h) (hq : q < p) {M : List C2} {l : List W2} (hM : M.length = bs p h 5) (hl : l.length ≤ h + 2 * p) (ho : okL p h l l.length) (hw : wdsL M (lgA p h q) (LG p h) = packW p h l) : layE p h q M = 0 ∧ layR p h q M = lay M l l.length := by
  have hok : memOk p h q M := ⟨by omega, hM⟩
  obtain ⟨h1, h2⟩ := un_pack hl ho
  unfold layE layR
  rw [hw, if_pos hok, if_pos ⟨hok, h1⟩, h2]
  exact ⟨(un_ok h1).2, rfl⟩
theorem lay_log {kk p cc h q : Nat} (C : Cf kk p cc h) (hq : q < p) {M : List C2} {l : List W2} (hM : M.length = bs p h 5) (ho : okL p h l l.length) : wdsL (lay M l l.length) (lgA p h q) (LG p h) = wdsL M (lgA p h q) (LG p h) :=
  wdsL_lay (by rw [hM]; exact okL_in C ho) fun y hy => okP_log C hq ((okL_iff.1 ho).1 y hy)
/-- Two logs that have the same writes do the same, beside themselves. -/
theorem lay_same {kk p cc h q : Nat} (C : Cf kk p cc h) (hq : q < p) {Z : List C2} {l l' : List W2} {w w' : List Int} (hZ : Z.length = bs p h 5) (ho : okL p h l l.length) (ho' : okL p h l' l'.length) (hm : ∀ y, y ∈ l' ↔ y ∈ l) {i : Nat} (hi : ¬ (lgA p h q ≤ i ∧ i < lgA p h q + LG p h)) : (lay (withW Z (lgA p h q) w (LG p h)) l l.length).getD i z2 = (lay (withW Z (lgA p h q) w' (LG p h)) l' l'.length).getD i z2 := by
  have hb := lgA_b (q := (q : Int)) C (M := Z) ⟨by omega, hZ⟩
  have i1 : inM (withW Z (lgA p h q) w (LG p h)).length l := by rw [withW_len, hZ]; exact okL_in C ho
  have i2 : inM (withW Z (lgA p h q) w' (LG p h)).length l' := by rw [withW_len, hZ]; exact okL_in C ho'
  by_cases e : ∃ y ∈ l, y.a.toNat = i
  · obtain ⟨y, hy, rfl⟩ := e
    rw [lay_mem i1 hy, lay_mem i2 ((hm y).2 hy)]
  · rw [lay_not i1 fun y hy e' => e ⟨y, hy, e'⟩, lay_not i2 fun y hy e' => e ⟨y, (hm y).1 hy, e'⟩, withW_at _ _ _ _ _ hb.1, withW_at _ _ _ _ _ hb.1, if_neg hi, if_neg hi]
end Go.Proofs.YtfhiplfagejfoaaDoor
namespace Go.Proofs.YtfhiplfagejfoaaDoor
open Go.Proofs.YtfhiplfagejfoaaDoor.K Go.ChangeShapes Go.WideShapes Go.ChangeAt Go.RowKit 
set_option maxRecDepth 100000
set_option linter.unusedSimpArgs false
set_option linter.unusedVariables false
/-- whitewash/whitewashlaw16.WlogTwice -/
def Llaw16WlogTwice : FnL := ⟨(.seq (.ops [⟨(some 5), .box (.tmp 0), none⟩, ⟨(some 10), .mv (.const (.bool false)), none⟩])
 (.seq (.ops [⟨(some 35), .call (.func 8) [], none⟩, ⟨(some 11), .mv (.tmp 35), none⟩])
 (.seq (.ops [⟨(some 36), .load true 3 (.tmp 5), none⟩, ⟨(some 37), .call (.func 9) [(.tmp 36)], none⟩, ⟨(some 12), .alloc [(.int .i64 0), (.int .i64 0), (.int .i64 0)], none⟩, ⟨none, .store 3 (.tmp 12) (.tmp 37), none⟩])
 (.seq (.ops [⟨(some 38), .mv (.tmp 3), none⟩, ⟨(some 39), .faddr 1 (.tmp 12), none⟩, ⟨(some 40), .load false 1 (.tmp 39), none⟩, ⟨(some 41), .call (.func 12) [(.tmp 38), (.tmp 40)], none⟩, ⟨(some 13), .mv (.tmp 41), none⟩])
 (.seq (.ops [⟨(some 42), .load true 3 (.tmp 12), none⟩, ⟨(some 43), .mv (.tmp 2), none⟩, ⟨(some 44), .call (.func 10) [(.tmp 42), (.tmp 43)], none⟩, ⟨(some 14), .mv (.tmp 44), none⟩])
 (.seq (.ops [⟨(some 45), .mv (.tmp 4), none⟩, ⟨(some 46), .mv (.tmp 14), none⟩, ⟨(some 47), .len false (.tmp 46), none⟩, ⟨(some 48), .bin .add (.tmp 47) (.const (.int .i64 1)), none⟩, ⟨(some 49), .call (.func 12) [(.tmp 45), (.tmp 48)], none⟩, ⟨(some 15), .mv (.tmp 49), none⟩])
 (.seq (.ops [⟨(some 51), .load true 3 (.tmp 12), none⟩, ⟨(some 52), .mv (.tmp 14), none⟩, ⟨(some 53), .call (.func 16) [(.tmp 51), (.tmp 52)], none⟩, ⟨(some 50), .mv (.tmp 53), none⟩, ⟨(some 54), .ext (.tmp 50) 0, none⟩, ⟨(some 55), .ext (.tmp 50) 1, none⟩, ⟨(some 16), .mv (.tmp 54), none⟩, ⟨(some 17), .mv (.tmp 55), none⟩])
 (.seq (.draw [⟨⟨(some 57), .load true 3 (.tmp 12), none⟩, []⟩, ⟨⟨(some 58), .mv (.tmp 14), none⟩, []⟩, ⟨⟨(some 59), .mv (.tmp 15), none⟩, []⟩, ⟨⟨(some 60), .slc 2 (.tmp 58) (some (.tmp 59)) none none, none⟩, []⟩, ⟨⟨(some 62), .mv (.tmp 14), none⟩, []⟩, ⟨⟨(some 63), .mv (.tmp 15), none⟩, []⟩, ⟨⟨(some 64), .slc 2 (.tmp 62) none (some (.tmp 63)) none, none⟩, []⟩, ⟨⟨(some 61), .app [(.int .i64 0), (.int .u64 0)] 16 (.const (.slice none 0 0)) (.tmp 60), none⟩, [⟨(some 57), .load true 3 (.tmp 12), none⟩]⟩, ⟨⟨(some 65), .app [(.int .i64 0), (.int .u64 0)] 16 (.tmp 61) (.tmp 64), none⟩, [⟨(some 57), .load true 3 (.tmp 12), none⟩]⟩, ⟨⟨(some 66), .call (.func 16) [(.tmp 57), (.tmp 65)], none⟩, []⟩, ⟨⟨(some 56), .mv (.tmp 66), none⟩, []⟩, ⟨⟨(some 67), .ext (.tmp 56) 0, none⟩, []⟩, ⟨⟨(some 68), .ext (.tmp 56) 1, none⟩, []⟩, ⟨⟨(some 18), .mv (.tmp 67), none⟩, []⟩, ⟨⟨(some 19), .mv (.tmp 68), none⟩, []⟩])
 (.seq (.seq (.ops [⟨(some 69), .mv (.tmp 17), none⟩, ⟨(some 70), .bin .neq (.tmp 69) (.const (.int .i64 0)), none⟩, ⟨(some 71), .mv (.tmp 70), none⟩, ⟨(some 72), .mv (.tmp 19), (some (71, false))⟩, ⟨(some 73), .bin .neq (.tmp 72) (.const (.int .i64 0)), (some (71, false))⟩, ⟨(some 74), .pick (.tmp 71) (.const (.bool true)) (.tmp 73), none⟩])
 (.cond (.tmp 74) (.seq (.ops [⟨(some 75), .mv (.tmp 11), none⟩, ⟨(some 76), .mv (.tmp 75), none⟩, ⟨(some 77), .mv (.tmp 17), (some (76, true))⟩, ⟨(some 78), .mv (.tmp 19), (some (76, true))⟩, ⟨(some 79), .bin .eql (.tmp 77) (.tmp 78), (some (76, true))⟩, ⟨(some 80), .pick (.tmp 76) (.tmp 79) (.const (.bool false)), none⟩, ⟨(some 81), .mv (.tmp 80), none⟩, ⟨(some 82), .mv (.tmp 14), (some (81, true))⟩, ⟨(some 83), .len false (.tmp 82), (some (81, true))⟩, ⟨(some 84), .load true 3 (.tmp 12), (some (81, true))⟩, ⟨(some 85), .call (.func 29) [(.tmp 84)], (some (81, true))⟩, ⟨(some 86), .bin .gtr (.tmp 83) (.tmp 85), (some (81, true))⟩, ⟨(some 87), .pick (.tmp 81) (.tmp 86) (.const (.bool false)), none⟩, ⟨(some 10), .mv (.tmp 87), none⟩])
 .ret)
 .skip))
 (.seq (.seq (.draw [⟨⟨(some 89), .load true 3 (.tmp 12), none⟩, []⟩, ⟨⟨(some 90), .load true 3 (.tmp 12), none⟩, []⟩, ⟨⟨(some 91), .mv (.tmp 1), none⟩, []⟩, ⟨⟨(some 93), .mv (.tmp 13), none⟩, []⟩])
 (.fork (.seq (.draw [⟨⟨(some 92), .call (.func 13) [(.tmp 90), (.tmp 91)], none⟩, [⟨(some 89), .load true 3 (.tmp 12), none⟩]⟩])
 (.fork (.draw [⟨⟨(some 94), .call (.func 27) [(.tmp 89), (.tmp 92), (.tmp 93)], none⟩, []⟩, ⟨⟨(some 88), .mv (.tmp 94), none⟩, []⟩, ⟨⟨(some 95), .ext (.tmp 88) 0, none⟩, []⟩, ⟨⟨(some 96), .ext (.tmp 88) 1, none⟩, []⟩, ⟨⟨(some 20), .alloc [(.slice none 0 0)], none⟩, []⟩, ⟨⟨none, .store 1 (.tmp 20) (.tmp 95), none⟩, []⟩, ⟨⟨(some 21), .mv (.tmp 96), none⟩, []⟩])
 (.draw [⟨⟨(some 20), .alloc [(.slice none 0 0)], none⟩, [⟨(some 89), .load true 3 (.tmp 12), none⟩]⟩, ⟨⟨(some 94), .call (.func 27) [(.tmp 89), (.tmp 92), (.tmp 93)], none⟩, []⟩, ⟨⟨(some 88), .mv (.tmp 94), none⟩, []⟩, ⟨⟨(some 95), .ext (.tmp 88) 0, none⟩, []⟩, ⟨⟨(some 96), .ext (.tmp 88) 1, none⟩, []⟩, ⟨⟨none, .store 1 (.tmp 20) (.tmp 95), none⟩, []⟩, ⟨⟨(some 21), .mv (.tmp 96), none⟩, []⟩])))
 (.draw [⟨⟨(some 20), .alloc [(.slice none 0 0)], none⟩, [⟨(some 89), .load true 3 (.tmp 12), none⟩, ⟨(some 90), .load true 3 (.tmp 12), none⟩]⟩, ⟨⟨(some 92), .call (.func 13) [(.tmp 90), (.tmp 91)], none⟩, [⟨(some 89), .load true 3 (.tmp 12), none⟩]⟩, ⟨⟨(some 94), .call (.func 27) [(.tmp 89), (.tmp 92), (.tmp 93)], none⟩, []⟩, ⟨⟨(some 88), .mv (.tmp 94), none⟩, []⟩, ⟨⟨(some 95), .ext (.tmp 88) 0, none⟩, []⟩, ⟨⟨(some 96), .ext (.tmp 88) 1, none⟩, []⟩, ⟨⟨none, .store 1 (.tmp 20) (.tmp 95), none⟩, []⟩, ⟨⟨(some 21), .mv (.tmp 96), none⟩, []⟩])))
 (.seq (.ops [⟨(some 97), .load true 3 (.tmp 12), none⟩, ⟨(some 98), .load true 1 (.tmp 20), none⟩, ⟨(some 99), .mv (.tmp 13), none⟩, ⟨(some 100), .mv (.tmp 16), none⟩, ⟨(some 101), .call (.func 23) [(.tmp 97), (.tmp 98), (.tmp 99), (.tmp 100)], none⟩, ⟨(some 22), .alloc [(.slice none 0 0)], none⟩, ⟨none, .store 1 (.tmp 22) (.tmp 101), none⟩])
 (.seq (.ops [⟨(some 103), .load true 3 (.tmp 12), none⟩, ⟨(some 104), .load true 1 (.tmp 22), none⟩, ⟨(some 105), .mv (.tmp 13), none⟩, ⟨(some 106), .call (.func 24) [(.tmp 103), (.tmp 104), (.tmp 105)], none⟩, ⟨(some 102), .mv (.tmp 106), none⟩, ⟨(some 107), .ext (.tmp 102) 0, none⟩, ⟨(some 108), .ext (.tmp 102) 1, none⟩, ⟨(some 23), .alloc [(.slice none 0 0)], none⟩, ⟨none, .store 1 (.tmp 23) (.tmp 107), none⟩, ⟨(some 24), .mv (.tmp 108), none⟩])
 (.seq (.ops [⟨(some 110), .load true 3 (.tmp 12), none⟩, ⟨(some 111), .load true 1 (.tmp 23), none⟩, ⟨(some 112), .mv (.tmp 13), none⟩, ⟨(some 113), .call (.func 24) [(.tmp 110), (.tmp 111), (.tmp 112)], none⟩, ⟨(some 109), .mv (.tmp 113), none⟩, ⟨(some 114), .ext (.tmp 109) 0, none⟩, ⟨(some 115), .ext (.tmp 109) 1, none⟩, ⟨(some 25), .alloc [(.slice none 0 0)], none⟩, ⟨none, .store 1 (.tmp 25) (.tmp 114), none⟩, ⟨(some 26), .mv (.tmp 115), none⟩])
 (.seq (.seq (.draw [⟨⟨(some 117), .load true 3 (.tmp 12), none⟩, []⟩, ⟨⟨(some 118), .load true 3 (.tmp 12), none⟩, []⟩, ⟨⟨(some 119), .load true 1 (.tmp 20), none⟩, []⟩, ⟨⟨(some 120), .mv (.tmp 13), none⟩, []⟩, ⟨⟨(some 121), .mv (.tmp 18), none⟩, []⟩, ⟨⟨(some 123), .mv (.tmp 13), none⟩, []⟩])
 (.fork (.seq (.draw [⟨⟨(some 122), .call (.func 23) [(.tmp 118), (.tmp 119), (.tmp 120), (.tmp 121)], none⟩, [⟨(some 117), .load true 3 (.tmp 12), none⟩]⟩])
 (.fork (.draw [⟨⟨(some 124), .call (.func 24) [(.tmp 117), (.tmp 122), (.tmp 123)], none⟩, []⟩, ⟨⟨(some 116), .mv (.tmp 124), none⟩, []⟩, ⟨⟨(some 125), .ext (.tmp 116) 0, none⟩, []⟩, ⟨⟨(some 126), .ext (.tmp 116) 1, none⟩, []⟩, ⟨⟨(some 27), .alloc [(.slice none 0 0)], none⟩, []⟩, ⟨⟨none, .store 1 (.tmp 27) (.tmp 125), none⟩, []⟩, ⟨⟨(some 28), .mv (.tmp 126), none⟩, []⟩])
 (.draw [⟨⟨(some 27), .alloc [(.slice none 0 0)], none⟩, [⟨(some 117), .load true 3 (.tmp 12), none⟩]⟩, ⟨⟨(some 124), .call (.func 24) [(.tmp 117), (.tmp 122), (.tmp 123)], none⟩, []⟩, ⟨⟨(some 116), .mv (.tmp 124), none⟩, []⟩, ⟨⟨(some 125), .ext (.tmp 116) 0, none⟩, []⟩, ⟨⟨(some 126), .ext (.tmp 116) 1, none⟩, []⟩, ⟨⟨none, .store 1 (.tmp 27) (.tmp 125), none⟩, []⟩, ⟨⟨(some 28), .mv (.tmp 126), none⟩, []⟩])))
 (.draw [⟨⟨(some 27), .alloc [(.slice none 0 0)], none⟩, [⟨(some 117), .load true 3 (.tmp 12), none⟩, ⟨(some 118), .load true 3 (.tmp 12), none⟩, ⟨(some 119), .load true 1 (.tmp 20), none⟩]⟩, ⟨⟨(some 122), .call (.func 23) [(.tmp 118), (.tmp 119), (.tmp 120), (.tmp 121)], none⟩, [⟨(some 117), .load true 3 (.tmp 12), none⟩]⟩, ⟨⟨(some 124), .call (.func 24) [(.tmp 117), (.tmp 122), (.tmp 123)], none⟩, []⟩, ⟨⟨(some 116), .mv (.tmp 124), none⟩, []⟩, ⟨⟨(some 125), .ext (.tmp 116) 0, none⟩, []⟩, ⟨⟨(some 126), .ext (.tmp 116) 1, none⟩, []⟩, ⟨⟨none, .store 1 (.tmp 27) (.tmp 125), none⟩, []⟩, ⟨⟨(some 28), .mv (.tmp 126), none⟩, []⟩])))
 (.seq (.seq (.ops [⟨(some 127), .mv (.tmp 24), none⟩, ⟨(some 128), .bin .neq (.tmp 127) (.const (.int .i64 0)), none⟩, ⟨(some 129), .mv (.tmp 128), none⟩, ⟨(some 130), .mv (.tmp 26), (some (129, false))⟩, ⟨(some 131), .bin .neq (.tmp 130) (.const (.int .i64 0)), (some (129, false))⟩, ⟨(some 132), .pick (.tmp 129) (.const (.bool true)) (.tmp 131), none⟩, ⟨(some 133), .mv (.tmp 132), none⟩, ⟨(some 134), .mv (.tmp 28), (some (133, false))⟩, ⟨(some 135), .bin .neq (.tmp 134) (.const (.int .i64 0)), (some (133, false))⟩, ⟨(some 136), .pick (.tmp 133) (.const (.bool true)) (.tmp 135), none⟩, ⟨(some 137), .mv (.tmp 136), none⟩, ⟨(some 138), .load true 1 (.tmp 23), (some (137, false))⟩, ⟨(some 139), .load true 1 (.tmp 25), (some (137, false))⟩, ⟨(some 140), .call (.func 28) [(.tmp 138), (.tmp 139)], (some (137, false))⟩, ⟨(some 141), .un .not (.tmp 140), (some (137, false))⟩, ⟨(some 142), .pick (.tmp 137) (.const (.bool true)) (.tmp 141), none⟩, ⟨(some 143), .mv (.tmp 142), none⟩, ⟨(some 144), .faddr 0 (.tmp 23), (some (143, false))⟩, ⟨(some 145), .load false 1 (.tmp 144), (some (143, false))⟩, ⟨(some 146), .len false (.tmp 145), (some (143, false))⟩, ⟨(some 147), .faddr 0 (.tmp 22), (some (143, false))⟩, ⟨(some 148), .load false 1 (.tmp 147), (some (143, false))⟩, ⟨(some 149), .len false (.tmp 148), (some (143, false))⟩, ⟨(some 150), .bin .neq (.tmp 146) (.tmp 149), (some (143, false))⟩, ⟨(some 151), .pick (.tmp 143) (.const (.bool true)) (.tmp 150), none⟩, ⟨(some 152), .mv (.tmp 151), none⟩, ⟨(some 153), .faddr 0 (.tmp 27), (some (152, false))⟩, ⟨(some 154), .load false 1 (.tmp 153), (some (152, false))⟩, ⟨(some 155), .len false (.tmp 154), (some (152, false))⟩, ⟨(some 156), .faddr 0 (.tmp 22), (some (152, false))⟩, ⟨(some 157), .load false 1 (.tmp 156), (some (152, false))⟩, ⟨(some 158), .len false (.tmp 157), (some (152, false))⟩, ⟨(some 159), .bin .neq (.tmp 155) (.tmp 158), (some (152, false))⟩, ⟨(some 160), .pick (.tmp 152) (.const (.bool true)) (.tmp 159), none⟩])
 (.cond (.tmp 160) (.seq (.ops [⟨(some 10), .mv (.const (.bool false)), none⟩])
 .ret)
 .skip))
 (.seq (.seq (.ops [⟨(some 29), .mv (.const (.int .i64 0)), none⟩])
 (.block 0 (.loop (.seq (.seq (.ops [⟨(some 161), .mv (.tmp 29), none⟩, ⟨(some 162), .faddr 0 (.tmp 22), none⟩, ⟨(some 163), .load false 1 (.tmp 162), none⟩, ⟨(some 164), .len false (.tmp 163), none⟩, ⟨(some 165), .bin .lss (.tmp 161) (.tmp 164), none⟩])
 (.cond (.tmp 165) .skip
 (.exit 0)))
 (.seq (.block 1 (.seq (.ops [⟨(some 169), .load true 3 (.tmp 12), none⟩, ⟨(some 170), .mv (.tmp 29), none⟩, ⟨(some 171), .call (.func 32) [(.tmp 169), (.tmp 170)], none⟩, ⟨(some 168), .mv (.tmp 171), none⟩, ⟨(some 172), .ext (.tmp 168) 0, none⟩, ⟨(some 173), .ext (.tmp 168) 1, none⟩, ⟨(some 174), .ext (.tmp 168) 2, none⟩, ⟨(some 30), .mv (.tmp 172), none⟩, ⟨(some 31), .mv (.tmp 173), none⟩, ⟨(some 32), .mv (.tmp 174), none⟩])
 (.seq (.seq (.draw [⟨⟨(some 175), .mv (.tmp 30), none⟩, []⟩, ⟨⟨(some 176), .bin .neq (.tmp 175) (.const (.int .i64 3)), none⟩, []⟩, ⟨⟨(some 177), .mv (.tmp 176), none⟩, []⟩, ⟨⟨(some 178), .mv (.tmp 31), (some (177, false))⟩, []⟩, ⟨⟨(some 179), .mv (.tmp 13), (some (177, false))⟩, []⟩, ⟨⟨(some 180), .bin .neq (.tmp 178) (.tmp 179), (some (177, false))⟩, []⟩, ⟨⟨(some 181), .pick (.tmp 177) (.const (.bool true)) (.tmp 180), none⟩, []⟩, ⟨⟨(some 182), .mv (.tmp 181), none⟩, []⟩, ⟨⟨(some 183), .faddr 0 (.tmp 23), (some (182, true))⟩, []⟩, ⟨⟨(some 184), .load false 1 (.tmp 183), (some (182, true))⟩, []⟩, ⟨⟨(some 185), .mv (.tmp 29), (some (182, true))⟩, []⟩, ⟨⟨(some 186), .iaddrS 2 (.tmp 184) (.tmp 185), (some (182, true))⟩, []⟩, ⟨⟨(some 187), .load true 2 (.tmp 186), (some (182, true))⟩, []⟩, ⟨⟨(some 188), .faddr 0 (.tmp 27), (some (182, true))⟩, []⟩, ⟨⟨(some 189), .load false 1 (.tmp 188), (some (182, true))⟩, []⟩, ⟨⟨(some 190), .mv (.tmp 29), (some (182, true))⟩, []⟩, ⟨⟨(some 191), .iaddrS 2 (.tmp 189) (.tmp 190), (some (182, true))⟩, []⟩, ⟨⟨(some 192), .load true 2 (.tmp 191), (some (182, true))⟩, []⟩, ⟨⟨(some 193), .eqA true [.int, .int] (.tmp 187) (.tmp 192), (some (182, true))⟩, []⟩, ⟨⟨(some 194), .pick (.tmp 182) (.tmp 193) (.const (.bool false)), none⟩, []⟩])
 (.cond (.tmp 194) (.seq (.ops [⟨(some 10), .mv (.const (.bool false)), none⟩])
 .ret)
 .skip))
 (.seq (.seq (.draw [⟨⟨(some 195), .mv (.tmp 30), none⟩, []⟩, ⟨⟨(some 196), .bin .neq (.tmp 195) (.const (.int .i64 2)), none⟩, []⟩, ⟨⟨(some 197), .mv (.tmp 196), none⟩, []⟩, ⟨⟨(some 198), .mv (.tmp 30), (some (197, true))⟩, []⟩, ⟨⟨(some 199), .bin .neq (.tmp 198) (.const (.int .i64 4)), (some (197, true))⟩, []⟩, ⟨⟨(some 200), .pick (.tmp 197) (.tmp 199) (.const (.bool false)), none⟩, []⟩, ⟨⟨(some 201), .mv (.tmp 200), none⟩, []⟩, ⟨⟨(some 202), .faddr 0 (.tmp 23), (some (201, true))⟩, []⟩, ⟨⟨(some 203), .load false 1 (.tmp 202), (some (201, true))⟩, []⟩, ⟨⟨(some 204), .mv (.tmp 29), (some (201, true))⟩, []⟩, ⟨⟨(some 205), .iaddrS 2 (.tmp 203) (.tmp 204), (some (201, true))⟩, []⟩, ⟨⟨(some 206), .load true 2 (.tmp 205), (some (201, true))⟩, []⟩, ⟨⟨(some 207), .faddr 0 (.tmp 22), (some (201, true))⟩, []⟩, ⟨⟨(some 208), .load false 1 (.tmp 207), (some (201, true))⟩, []⟩, ⟨⟨(some 209), .mv (.tmp 29), (some (201, true))⟩, []⟩, ⟨⟨(some 210), .iaddrS 2 (.tmp 208) (.tmp 209), (some (201, true))⟩, []⟩, ⟨⟨(some 211), .load true 2 (.tmp 210), (some (201, true))⟩, []⟩, ⟨⟨(some 212), .eqA true [.int, .int] (.tmp 206) (.tmp 211), (some (201, true))⟩, []⟩, ⟨⟨(some 213), .pick (.tmp 201) (.tmp 212) (.const (.bool false)), none⟩, []⟩])
 (.cond (.tmp 213) (.seq (.ops [⟨(some 10), .mv (.const (.bool false)), none⟩])
 .ret)
 .skip))
 (.seq (.ops [⟨(some 214), .faddr 0 (.tmp 22), none⟩, ⟨(some 215), .load false 1 (.tmp 214), none⟩, ⟨(some 216), .mv (.tmp 29), none⟩, ⟨(some 217), .iaddrS 2 (.tmp 215) (.tmp 216), none⟩, ⟨(some 218), .load true 2 (.tmp 217), none⟩, ⟨(some 33), .alloc [(.int .u64 0), (.int .i64 0)], none⟩, ⟨none, .store 2 (.tmp 33) (.tmp 218), none⟩])
 (.seq (.seq (.ops [⟨(some 34), .mv (.const (.int .i64 0)), none⟩])
 (.block 2 (.loop (.seq (.seq (.ops [⟨(some 219), .mv (.tmp 34), none⟩, ⟨(some 220), .mv (.tmp 14), none⟩, ⟨(some 221), .len false (.tmp 220), none⟩, ⟨(some 222), .bin .lss (.tmp 219) (.tmp 221), none⟩])
 (.cond (.tmp 222) .skip
 (.exit 2)))
 (.seq (.block 3 (.seq (.ops [⟨(some 225), .mv (.tmp 14), none⟩, ⟨(some 226), .mv (.tmp 34), none⟩, ⟨(some 227), .iaddrS 2 (.tmp 225) (.tmp 226), none⟩, ⟨(some 228), .faddr 0 (.tmp 227), none⟩, ⟨(some 229), .load false 1 (.tmp 228), none⟩, ⟨(some 230), .mv (.tmp 29), none⟩, ⟨(some 231), .bin .eql (.tmp 229) (.tmp 230), none⟩])
 (.cond (.tmp 231) (.ops [⟨(some 232), .mv (.tmp 14), none⟩, ⟨(some 233), .mv (.tmp 34), none⟩, ⟨(some 234), .iaddrS 2 (.tmp 232) (.tmp 233), none⟩, ⟨(some 235), .faddr 1 (.tmp 234), none⟩, ⟨(some 236), .load false 1 (.tmp 235), none⟩, ⟨(some 237), .build [(.int .u64 0), (.int .i64 0)] [(0, 1, (.tmp 236))], none⟩, ⟨none, .store 2 (.tmp 33) (.tmp 237), none⟩])
 .skip)))
 (.ops [⟨(some 223), .mv (.tmp 34), none⟩, ⟨(some 224), .bin .add (.tmp 223) (.const (.int .i64 1)), none⟩, ⟨(some 34), .mv (.tmp 224), none⟩]))))))
 (.seq (.draw [⟨⟨(some 238), .faddr 0 (.tmp 23), none⟩, []⟩, ⟨⟨(some 239), .load false 1 (.tmp 238), none⟩, []⟩, ⟨⟨(some 240), .mv (.tmp 29), none⟩, []⟩, ⟨⟨(some 241), .iaddrS 2 (.tmp 239) (.tmp 240), none⟩, []⟩, ⟨⟨(some 242), .load true 2 (.tmp 241), none⟩, []⟩, ⟨⟨(some 243), .load true 2 (.tmp 33), none⟩, []⟩, ⟨⟨(some 244), .eqA true [.int, .int] (.tmp 242) (.tmp 243), none⟩, []⟩])
 (.cond (.tmp 244) (.seq (.ops [⟨(some 10), .mv (.const (.bool false)), none⟩])
 .ret)
 .skip))))))))
 (.ops [⟨(some 166), .mv (.tmp 29), none⟩, ⟨(some 167), .bin .add (.tmp 166) (.const (.int .i64 1)), none⟩, ⟨(some 29), .mv (.tmp 167), none⟩]))))))
 (.seq (.ops [⟨(some 245), .mv (.tmp 11), none⟩, ⟨(some 10), .mv (.tmp 245), none⟩])
 .ret))))))))))))))))),
 246, [.tmp 10]⟩
theorem lowlaw16WlogTwice : lowerFn Tryd.prog Tryd.f5 = some Llaw16WlogTwice := by kernel_rfl
noncomputable def Glaw16WlogTwice (B : OH) : Nat → Cs
  | 32 => V9 B
  | 9 => Vlaw16Conf B
  | 13 => Vlaw16Memory B
  | 23 => Vlaw16With B
  | 10 => Vlaw16Writes B
  | 8 => Vlaw16awake B
  | 12 => Vlaw16pick B
  | 28 => Vref03Same B
  | 29 => Vref16Most B
  | 27 => Vref16Wipe B
  | 24 => VwlogLay B
  | 16 => VwlogPack B
  | _ => fun _ _ _ => none
theorem Glaw16WlogTwice_9 {B : OH} : Glaw16WlogTwice B 32 = V9 B := rfl
theorem Glaw16WlogTwice_law16Conf {B : OH} : Glaw16WlogTwice B 9 = Vlaw16Conf B := rfl
theorem Glaw16WlogTwice_law16Memory {B : OH} : Glaw16WlogTwice B 13 = Vlaw16Memory B := rfl
theorem Glaw16WlogTwice_law16With {B : OH} : Glaw16WlogTwice B 23 = Vlaw16With B := rfl
theorem Glaw16WlogTwice_law16Writes {B : OH} : Glaw16WlogTwice B 10 = Vlaw16Writes B := rfl
theorem Glaw16WlogTwice_law16awake {B : OH} : Glaw16WlogTwice B 8 = Vlaw16awake B := rfl
theorem Glaw16WlogTwice_law16pick {B : OH} : Glaw16WlogTwice B 12 = Vlaw16pick B := rfl
theorem Glaw16WlogTwice_ref03Same {B : OH} : Glaw16WlogTwice B 28 = Vref03Same B := rfl
theorem Glaw16WlogTwice_ref16Most {B : OH} : Glaw16WlogTwice B 29 = Vref16Most B := rfl
theorem Glaw16WlogTwice_ref16Wipe {B : OH} : Glaw16WlogTwice B 27 = Vref16Wipe B := rfl
theorem Glaw16WlogTwice_wlogLay {B : OH} : Glaw16WlogTwice B 24 = VwlogLay B := rfl
theorem Glaw16WlogTwice_wlogPack {B : OH} : Glaw16WlogTwice B 16 = VwlogPack B := rfl
theorem sGlaw16WlogTwice {w0 : World} {B : OH} : SoundG Tryd.prog w0 B { f := Glaw16WlogTwice B } := .of fun k => by
  unfold Glaw16WlogTwice
  split
  · exact .inr ⟨en9, sV9⟩
  · exact .inr ⟨enlaw16Conf, sVlaw16Conf⟩
  · exact .inr ⟨enlaw16Memory, sVlaw16Memory⟩
  · exact .inr ⟨enlaw16With, sVlaw16With⟩
  · exact .inr ⟨enlaw16Writes, sVlaw16Writes⟩
  · exact .inr ⟨enlaw16awake, sVlaw16awake⟩
  · exact .inr ⟨enlaw16pick, sVlaw16pick⟩
  · exact .inr ⟨enref03Same, sVref03Same⟩
  · exact .inr ⟨enref16Most, sVref16Most⟩
  · exact .inr ⟨enref16Wipe, sVref16Wipe⟩
  · exact .inr ⟨enwlogLay, sVwlogLay⟩
  · exact .inr ⟨enwlogPack, sVwlogPack⟩
  · exact .inl fun _ _ _ => rfl
theorem enlaw16WlogTwice : Enter Tryd.prog 5 := .of Tryd.func5 (by kernel_rfl) (by kernel_rfl)
noncomputable def Tlaw16WlogTwice (B : OH) : Cs := callF B { f := Glaw16WlogTwice B } 1000000 Llaw16WlogTwice
theorem sTlaw16WlogTwice {w0 : World} {B : OH} : SoundC Tryd.prog w0 B 5 (Tlaw16WlogTwice B) := callF_sound mixedOrders sGlaw16WlogTwice 1000000 Tryd.func5 lowlaw16WlogTwice
structure KTa (xp xt : Int) (c q : Nat) (vl va vb : Value) (ts : List Value) : Prop where
  l : ts.length = 246
  t3 : gt ts 3 = .int .i64 xp
  t4 : gt ts 4 = .int .i64 xt
  t11 : gt ts 11 = .bool true
  t12 : gt ts 12 = .pointer (some ⟨c, 0, none⟩)
  t13 : gt ts 13 = .int .i64 (q : Int)
  t14 : gt ts 14 = vl
  t16 : gt ts 16 = va
  t18 : gt ts 18 = vb
structure KTf (xp xt : Int) (c q : Nat) (vl va vb vr : Value) (kk p cc : Nat) (ts : List Value) : Prop where
  l : ts.length = 246
  t3 : gt ts 3 = .int .i64 xp
  t4 : gt ts 4 = .int .i64 xt
  t11 : gt ts 11 = .bool true
  t12 : gt ts 12 = .pointer (some ⟨c, 0, none⟩)
  t13 : gt ts 13 = .int .i64 (q : Int)
  t14 : gt ts 14 = vl
  t16 : gt ts 16 = va
  t18 : gt ts 18 = vb
  t1 : gt ts 1 = vr
  t89 : gt ts 89 = .agg #[.int .i64 (kk : Int), .int .i64 (p : Int), .int .i64 (cc : Int)]
  t90 : gt ts 90 = .agg #[.int .i64 (kk : Int), .int .i64 (p : Int), .int .i64 (cc : Int)]
  t91 : gt ts 91 = vr
  t93 : gt ts 93 = .int .i64 (q : Int)
structure KTg (xp xt : Int) (c q : Nat) (vl va vb : Value) (z : Nat) (ts : List Value) : Prop where
  l : ts.length = 246
  t3 : gt ts 3 = .int .i64 xp
  t4 : gt ts 4 = .int .i64 xt
  t11 : gt ts 11 = .bool true
  t12 : gt ts 12 = .pointer (some ⟨c, 0, none⟩)
  t13 : gt ts 13 = .int .i64 (q : Int)
  t14 : gt ts 14 = vl
  t16 : gt ts 16 = va
  t18 : gt ts 18 = vb
  t20 : gt ts 20 = .pointer (some ⟨z, 0, none⟩)
def lbF1 : LC := (.fork (.seq (.draw [⟨⟨(some 92), .call (.func 13) [(.tmp 90), (.tmp 91)], none⟩, [⟨(some 89), .load true 3 (.tmp 12), none⟩]⟩])
 (.fork (.draw [⟨⟨(some 94), .call (.func 27) [(.tmp 89), (.tmp 92), (.tmp 93)], none⟩, []⟩, ⟨⟨(some 88), .mv (.tmp 94), none⟩, []⟩, ⟨⟨(some 95), .ext (.tmp 88) 0, none⟩, []⟩, ⟨⟨(some 96), .ext (.tmp 88) 1, none⟩, []⟩, ⟨⟨(some 20), .alloc [(.slice none 0 0)], none⟩, []⟩, ⟨⟨none, .store 1 (.tmp 20) (.tmp 95), none⟩, []⟩, ⟨⟨(some 21), .mv (.tmp 96), none⟩, []⟩])
 (.draw [⟨⟨(some 20), .alloc [(.slice none 0 0)], none⟩, [⟨(some 89), .load true 3 (.tmp 12), none⟩]⟩, ⟨⟨(some 94), .call (.func 27) [(.tmp 89), (.tmp 92), (.tmp 93)], none⟩, []⟩, ⟨⟨(some 88), .mv (.tmp 94), none⟩, []⟩, ⟨⟨(some 95), .ext (.tmp 88) 0, none⟩, []⟩, ⟨⟨(some 96), .ext (.tmp 88) 1, none⟩, []⟩, ⟨⟨none, .store 1 (.tmp 20) (.tmp 95), none⟩, []⟩, ⟨⟨(some 21), .mv (.tmp 96), none⟩, []⟩])))
 (.draw [⟨⟨(some 20), .alloc [(.slice none 0 0)], none⟩, [⟨(some 89), .load true 3 (.tmp 12), none⟩, ⟨(some 90), .load true 3 (.tmp 12), none⟩]⟩, ⟨⟨(some 92), .call (.func 13) [(.tmp 90), (.tmp 91)], none⟩, [⟨(some 89), .load true 3 (.tmp 12), none⟩]⟩, ⟨⟨(some 94), .call (.func 27) [(.tmp 89), (.tmp 92), (.tmp 93)], none⟩, []⟩, ⟨⟨(some 88), .mv (.tmp 94), none⟩, []⟩, ⟨⟨(some 95), .ext (.tmp 88) 0, none⟩, []⟩, ⟨⟨(some 96), .ext (.tmp 88) 1, none⟩, []⟩, ⟨⟨none, .store 1 (.tmp 20) (.tmp 95), none⟩, []⟩, ⟨⟨(some 21), .mv (.tmp 96), none⟩, []⟩]))
def lbF2 : LC := (.fork (.seq (.draw [⟨⟨(some 122), .call (.func 23) [(.tmp 118), (.tmp 119), (.tmp 120), (.tmp 121)], none⟩, [⟨(some 117), .load true 3 (.tmp 12), none⟩]⟩])
 (.fork (.draw [⟨⟨(some 124), .call (.func 24) [(.tmp 117), (.tmp 122), (.tmp 123)], none⟩, []⟩, ⟨⟨(some 116), .mv (.tmp 124), none⟩, []⟩, ⟨⟨(some 125), .ext (.tmp 116) 0, none⟩, []⟩, ⟨⟨(some 126), .ext (.tmp 116) 1, none⟩, []⟩, ⟨⟨(some 27), .alloc [(.slice none 0 0)], none⟩, []⟩, ⟨⟨none, .store 1 (.tmp 27) (.tmp 125), none⟩, []⟩, ⟨⟨(some 28), .mv (.tmp 126), none⟩, []⟩])
 (.draw [⟨⟨(some 27), .alloc [(.slice none 0 0)], none⟩, [⟨(some 117), .load true 3 (.tmp 12), none⟩]⟩, ⟨⟨(some 124), .call (.func 24) [(.tmp 117), (.tmp 122), (.tmp 123)], none⟩, []⟩, ⟨⟨(some 116), .mv (.tmp 124), none⟩, []⟩, ⟨⟨(some 125), .ext (.tmp 116) 0, none⟩, []⟩, ⟨⟨(some 126), .ext (.tmp 116) 1, none⟩, []⟩, ⟨⟨none, .store 1 (.tmp 27) (.tmp 125), none⟩, []⟩, ⟨⟨(some 28), .mv (.tmp 126), none⟩, []⟩])))
 (.draw [⟨⟨(some 27), .alloc [(.slice none 0 0)], none⟩, [⟨(some 117), .load true 3 (.tmp 12), none⟩, ⟨(some 118), .load true 3 (.tmp 12), none⟩, ⟨(some 119), .load true 1 (.tmp 20), none⟩]⟩, ⟨⟨(some 122), .call (.func 23) [(.tmp 118), (.tmp 119), (.tmp 120), (.tmp 121)], none⟩, [⟨(some 117), .load true 3 (.tmp 12), none⟩]⟩, ⟨⟨(some 124), .call (.func 24) [(.tmp 117), (.tmp 122), (.tmp 123)], none⟩, []⟩, ⟨⟨(some 116), .mv (.tmp 124), none⟩, []⟩, ⟨⟨(some 125), .ext (.tmp 116) 0, none⟩, []⟩, ⟨⟨(some 126), .ext (.tmp 116) 1, none⟩, []⟩, ⟨⟨none, .store 1 (.tmp 27) (.tmp 125), none⟩, []⟩, ⟨⟨(some 28), .mv (.tmp 126), none⟩, []⟩]))
set_option maxHeartbeats 4000000 in
theorem fork1 {B : OH} {H : HL} {N : St} {vl va vb vr : Value} {raw : List Q3} {xp xt : Int} {kk p cc h c q : Nat} (C : Cf kk p cc h) (hp : p ≤ 4) (hq : q < p) (hr : SlR q3 3 B H vr raw) (hrs : Q3s raw) (hN : good B H N) (bc : B c = none) (lc : lk H c = some (.cells [.int .i64 (kk : Int), .int .i64 (p : Int), .int .i64 (cc : Int)] 3)) {ts : List Value} (kp : KTf xp xt c q vl va vb vr kk p cc ts) {F : Nat} (hF : 1000 ≤ F) :
    Ok (exec B { f := Glaw16WlogTwice B } F lbF1 ⟨ts, H, N⟩) (fun x s => x = .normal ∧ good B s.H s.N ∧ Fr H s.H ∧ ∃ z vz M, KTg xp xt c q vl va vb z s.t ∧ B z = none ∧ lk s.H z = some (.cells [vz] 1) ∧ SlW c2 2 B s.H vz (wiped M (lgA p h q) (LG p h)) ∧ M.length = bs p h 5 ∧ C2s M) := by
  have hB := good_B hN
  have hR := good_rdB hN
  have hI := beqN hN.1.1
  have rc := fun o n => rdB_none (o := o) (n := n) bc
  have nc := ne_N hN lc
  have gg : ∀ {H N}, good B H N → good B H (shg N) := fun h => h
  obtain ⟨F, rfl⟩ : ∃ F', F = F' + 100 := ⟨F - 100, by omega⟩
  cases hg : N.g 0 with
  | true =>
    obtain ⟨vM, H1, N1, M, e1, g1, f1, s1, hM, hMs⟩ := fMemory C hp (gg hN) hr hrs
    have lc1 := f1 _ _ lc
    have nc1 := ne_N g1 lc1
    have hb := lgA_b (q := (q : Int)) C (M := M) ⟨by omega, hM⟩
    obtain ⟨wE, wR, _, _⟩ := wipe_2 (p := p) (h := h) (q := (q : Int)) (M := M) ⟨by omega, hM⟩ hb.1
    cases hg1 : N1.g 0 with
    | true =>
      obtain ⟨v2, H2, N2, e2, g2, f2, s2⟩ := rWipe C (gg g1) (s1.wh c2_len) (by omega) (q := (q : Int))
      rw [wE, wR] at *
      have lc2 := f2 _ _ lc1
      have nc2 := ne_N g2 lc2
      simp -implicitDefEqProofs (maxSteps := 10000000) (disch := omega) only [Tlaw16WlogTwice, Llaw16WlogTwice, Glaw16WlogTwice_9, V9_eq, Glaw16WlogTwice_law16Conf, Vlaw16Conf_eq, Glaw16WlogTwice_law16Memory, Glaw16WlogTwice_law16With, Glaw16WlogTwice_law16Writes, Glaw16WlogTwice_law16awake, Glaw16WlogTwice_law16pick, Vlaw16pick_eq, Glaw16WlogTwice_ref03Same, Glaw16WlogTwice_ref16Most, Vref16Most_eq, Glaw16WlogTwice_ref16Wipe, Glaw16WlogTwice_wlogLay, Glaw16WlogTwice_wlogPack, hB, hR, hI, lbF1, kp.l, kp.t3, kp.t4, kp.t11, kp.t12, kp.t13, kp.t14, kp.t16, kp.t18, kp.t1, kp.t89, kp.t90, kp.t91, kp.t93, lenV_sl, Int.toNat_natCast, bft, btf, gtst, st_len, hg, hg1, lc, lc1, lc2, bc, rc, nc, nc1, nc2, e1, e2, all1_slw (s2.wh c2_len), good_B g2, good_rdB g2, pad, lightV, bt, bf, evs, gt, st, binV, arith, isSh, storeV, all1, idxAV, fieldV, faddrV, iaddrSV, iaddrAV, pickV, convV, unV, eqbV, eqpV, extV, mm2, mmV, nilckV, ress, res1, retV, Value.cells, reduceIte, reduceCtorEq, Int.reduceLT, Int.reduceLE, Int.reduceToNat, Int.reduceAdd, Int.reduceSub, Int.reduceMul, Int.reduceNeg, Nat.reduceMul, Nat.reduceAdd, Nat.reduceSub, Nat.reduceBEq, Nat.reduceEqDiff, Nat.reduceLT, Nat.reduceLeDiff, Int.reduceBEq, Int.reduceEq, Nat.reducePow, Int.reducePow, IntWalk.i64_in, IntKind.bits, eqAV, eqL, leafEq, andO, fillV, buildSV, Int.reduceGT, Int.reduceGE, Int.reduceBNe, IntWalk.u64_in, newsV_s, tassV, isnV, slcV, slcAV, slcTV, slcB, appNew, Option.bind_some, Option.bind_none, eqsV, lookV, mupdV, mdelV, mkM, ev1, ev2]
      refine ok_some ⟨rfl, good_new g2, (f1.trans f2).trans (fr_new g2 Fr.refl 0), N2.n 0, v2, M, ⟨?_, ?_, ?_, ?_, ?_, ?_, ?_, ?_, ?_, ?_⟩, good_B g2 0, lk_top, (s2.wh c2_len).mono (fr_new g2 Fr.refl 0), hM, hMs⟩
      all_goals simp (maxSteps := 10000000) (disch := omega) only [kp.l, kp.t3, kp.t4, kp.t11, kp.t12, kp.t13, kp.t14, kp.t16, kp.t18, kp.t1, kp.t89, kp.t90, kp.t91, kp.t93, lenV_sl, Int.toNat_natCast, bft, btf, gtst, st_len, Nat.reduceAdd, Int.cast_ofNat_Int, cond_true, cond_false, Nat.reduceBEq, Nat.reduceLT, decide_true, beq_self_eq_true, if_true, if_false]
    | false =>
      have g1' : good B ((N1.n 0, .cells [.slice none 0 0] 1) :: H1) (sh (shg N1)) := good_new (gg g1)
      have f1' : Fr H1 ((N1.n 0, .cells [.slice none 0 0] 1) :: H1) := fr_new (gg g1) Fr.refl 0
      obtain ⟨v2, H2, N2, e2, g2, f2, s2⟩ := rWipe C g1' ((s1.wh c2_len).mono f1') (by omega) (q := (q : Int))
      rw [wE, wR] at *
      have lc1' := f1' _ _ lc1
      have lc2 := f2 _ _ lc1'
      have nc2 := ne_N g2 lc2
      have lz2 := f2 _ _ (lk_top : lk ((N1.n 0, KB.cells [.slice none 0 0] 1) :: H1) (N1.n 0) = _)
      have bz := good_B g1 0
      have rz := fun o n => rdB_none (o := o) (n := n) bz
      have e2' : Vref16Wipe B [.agg #[.int .i64 (kk : Int), .int .i64 (p : Int), .int .i64 (cc : Int)], .agg #[vM], .int .i64 (q : Int)] ((N1.n 0, .cells [.slice none 0 0] 1) :: H1) (sh (shg N1)) = _ := e2
      simp -implicitDefEqProofs (maxSteps := 10000000) (disch := omega) only [Tlaw16WlogTwice, Llaw16WlogTwice, Glaw16WlogTwice_9, V9_eq, Glaw16WlogTwice_law16Conf, Vlaw16Conf_eq, Glaw16WlogTwice_law16Memory, Glaw16WlogTwice_law16With, Glaw16WlogTwice_law16Writes, Glaw16WlogTwice_law16awake, Glaw16WlogTwice_law16pick, Vlaw16pick_eq, Glaw16WlogTwice_ref03Same, Glaw16WlogTwice_ref16Most, Vref16Most_eq, Glaw16WlogTwice_ref16Wipe, Glaw16WlogTwice_wlogLay, Glaw16WlogTwice_wlogPack, hB, hR, hI, lbF1, kp.l, kp.t3, kp.t4, kp.t11, kp.t12, kp.t13, kp.t14, kp.t16, kp.t18, kp.t1, kp.t89, kp.t90, kp.t91, kp.t93, lenV_sl, Int.toNat_natCast, bft, btf, gtst, st_len, hg, hg1, lc, lc1, lc2, bc, rc, nc, nc1, nc2, e1, e2', all1_slw (s2.wh c2_len), good_B g2, good_rdB g2, good_B g1, good_rdB g1, lz2, bz, rz, pad, lightV, bt, bf, evs, gt, st, binV, arith, isSh, storeV, all1, idxAV, fieldV, faddrV, iaddrSV, iaddrAV, pickV, convV, unV, eqbV, eqpV, extV, mm2, mmV, nilckV, ress, res1, retV, Value.cells, reduceIte, reduceCtorEq, Int.reduceLT, Int.reduceLE, Int.reduceToNat, Int.reduceAdd, Int.reduceSub, Int.reduceMul, Int.reduceNeg, Nat.reduceMul, Nat.reduceAdd, Nat.reduceSub, Nat.reduceBEq, Nat.reduceEqDiff, Nat.reduceLT, Nat.reduceLeDiff, Int.reduceBEq, Int.reduceEq, Nat.reducePow, Int.reducePow, IntWalk.i64_in, IntKind.bits, eqAV, eqL, leafEq, andO, fillV, buildSV, Int.reduceGT, Int.reduceGE, Int.reduceBNe, IntWalk.u64_in, newsV_s, tassV, isnV, slcV, slcAV, slcTV, slcB, appNew, Option.bind_some, Option.bind_none, eqsV, lookV, mupdV, mdelV, mkM, ev1, ev2]
      refine ok_some ⟨rfl, good_up g2 bz lz2, f1.trans (fr_up (f1'.trans f2) (lk_N g1 0)), N1.n 0, v2, M, ⟨?_, ?_, ?_, ?_, ?_, ?_, ?_, ?_, ?_, ?_⟩, bz, ?_, (s2.mono (fun y c e1 e2 => ?_)).wh c2_len, hM, hMs⟩
      rotate_right
      · rw [lk_upH, eqb (fun e => s2.ne lk_top (by rw [e1, e])), cond_false]; exact e2
      rotate_right
      · rw [lk_upH, beq_self_eq_true, cond_true]
      all_goals simp (maxSteps := 10000000) (disch := omega) only [kp.l, kp.t3, kp.t4, kp.t11, kp.t12, kp.t13, kp.t14, kp.t16, kp.t18, kp.t1, kp.t89, kp.t90, kp.t91, kp.t93, lenV_sl, Int.toNat_natCast, bft, btf, gtst, st_len, Nat.reduceAdd, Int.cast_ofNat_Int, cond_true, cond_false, Nat.reduceBEq, Nat.reduceLT, decide_true, beq_self_eq_true, if_true, if_false]
  | false =>
    have g0' : good B ((N.n 0, .cells [.slice none 0 0] 1) :: H) (sh (shg N)) := good_new (gg hN)
    have f0' : Fr H ((N.n 0, .cells [.slice none 0 0] 1) :: H) := fr_new (gg hN) Fr.refl 0
    obtain ⟨vM, H1, N1, M, e1, g1, f1, s1, hM, hMs⟩ := fMemory C hp g0' (hr.mono f0') hrs
    have e1' : Vlaw16Memory B [.agg #[.int .i64 (kk : Int), .int .i64 (p : Int), .int .i64 (cc : Int)], vr] ((N.n 0, .cells [.slice none 0 0] 1) :: H) (sh (shg N)) = _ := e1
    have lc0 := f0' _ _ lc
    have lc1 := f1 _ _ lc0
    have nc1 := ne_N g1 lc1
    have hb := lgA_b (q := (q : Int)) C (M := M) ⟨by omega, hM⟩
    obtain ⟨wE, wR, _, _⟩ := wipe_2 (p := p) (h := h) (q := (q : Int)) (M := M) ⟨by omega, hM⟩ hb.1
    obtain ⟨v2, H2, N2, e2, g2, f2, s2⟩ := rWipe C g1 (s1.wh c2_len) (by omega) (q := (q : Int))
    rw [wE, wR] at *
    have lc2 := f2 _ _ lc1
    have nc2 := ne_N g2 lc2
    have lz1 := f1 _ _ (lk_top : lk ((N.n 0, KB.cells [.slice none 0 0] 1) :: H) (N.n 0) = _)
    have lz2 := f2 _ _ lz1
    have bz := hB 0
    have rz := fun o n => rdB_none (o := o) (n := n) bz
    simp -implicitDefEqProofs (maxSteps := 10000000) (disch := omega) only [Tlaw16WlogTwice, Llaw16WlogTwice, Glaw16WlogTwice_9, V9_eq, Glaw16WlogTwice_law16Conf, Vlaw16Conf_eq, Glaw16WlogTwice_law16Memory, Glaw16WlogTwice_law16With, Glaw16WlogTwice_law16Writes, Glaw16WlogTwice_law16awake, Glaw16WlogTwice_law16pick, Vlaw16pick_eq, Glaw16WlogTwice_ref03Same, Glaw16WlogTwice_ref16Most, Vref16Most_eq, Glaw16WlogTwice_ref16Wipe, Glaw16WlogTwice_wlogLay, Glaw16WlogTwice_wlogPack, hB, hR, hI, lbF1, kp.l, kp.t3, kp.t4, kp.t11, kp.t12, kp.t13, kp.t14, kp.t16, kp.t18, kp.t1, kp.t89, kp.t90, kp.t91, kp.t93, lenV_sl, Int.toNat_natCast, bft, btf, gtst, st_len, hg, lc, lc0, lc1, lc2, bc, rc, nc, nc1, nc2, e1', e2, all1_slw (s2.wh c2_len), good_B g2, good_rdB g2, good_B g1, good_rdB g1, lz2, bz, rz, pad, lightV, bt, bf, evs, gt, st, binV, arith, isSh, storeV, all1, idxAV, fieldV, faddrV, iaddrSV, iaddrAV, pickV, convV, unV, eqbV, eqpV, extV, mm2, mmV, nilckV, ress, res1, retV, Value.cells, reduceIte, reduceCtorEq, Int.reduceLT, Int.reduceLE, Int.reduceToNat, Int.reduceAdd, Int.reduceSub, Int.reduceMul, Int.reduceNeg, Nat.reduceMul, Nat.reduceAdd, Nat.reduceSub, Nat.reduceBEq, Nat.reduceEqDiff, Nat.reduceLT, Nat.reduceLeDiff, Int.reduceBEq, Int.reduceEq, Nat.reducePow, Int.reducePow, IntWalk.i64_in, IntKind.bits, eqAV, eqL, leafEq, andO, fillV, buildSV, Int.reduceGT, Int.reduceGE, Int.reduceBNe, IntWalk.u64_in, newsV_s, tassV, isnV, slcV, slcAV, slcTV, slcB, appNew, Option.bind_some, Option.bind_none, eqsV, lookV, mupdV, mdelV, mkM, ev1, ev2]
    refine ok_some ⟨rfl, good_up g2 bz lz2, fr_up ((f0'.trans f1).trans f2) (lk_N hN 0), N.n 0, v2, M, ⟨?_, ?_, ?_, ?_, ?_, ?_, ?_, ?_, ?_, ?_⟩, bz, ?_, (s2.mono (fun y c e1 e2 => ?_)).wh c2_len, hM, hMs⟩
    rotate_right
    · rw [lk_upH, eqb (fun e => s2.ne lz1 (by rw [e1, e])), cond_false]; exact e2
    rotate_right
    · rw [lk_upH, beq_self_eq_true, cond_true]
    all_goals simp (maxSteps := 10000000) (disch := omega) only [kp.l, kp.t3, kp.t4, kp.t11, kp.t12, kp.t13, kp.t14, kp.t16, kp.t18, kp.t1, kp.t89, kp.t90, kp.t91, kp.t93, lenV_sl, Int.toNat_natCast, bft, btf, gtst, st_len, Nat.reduceAdd, Int.cast_ofNat_Int, cond_true, cond_false, Nat.reduceBEq, Nat.reduceLT, decide_true, beq_self_eq_true, if_true, if_false]
structure KTc (xp xt : Int) (c q : Nat) (vl va vb : Value) (z m x y : Nat) (ts : List Value) : Prop where
  l : ts.length = 246
  t3 : gt ts 3 = .int .i64 xp
  t4 : gt ts 4 = .int .i64 xt
  t11 : gt ts 11 = .bool true
  t12 : gt ts 12 = .pointer (some ⟨c, 0, none⟩)
  t13 : gt ts 13 = .int .i64 (q : Int)
  t14 : gt ts 14 = vl
  t16 : gt ts 16 = va
  t18 : gt ts 18 = vb
  t20 : gt ts 20 = .pointer (some ⟨z, 0, none⟩)
  t22 : gt ts 22 = .pointer (some ⟨m, 0, none⟩)
  t23 : gt ts 23 = .pointer (some ⟨x, 0, none⟩)
  t24 : gt ts 24 = .int .i64 0
  t25 : gt ts 25 = .pointer (some ⟨y, 0, none⟩)
  t26 : gt ts 26 = .int .i64 0
structure KTh (xp xt : Int) (c q : Nat) (vl va vb : Value) (z m x y : Nat) (vz : Value) (kk p cc : Nat) (ts : List Value) : Prop where
  l : ts.length = 246
  t3 : gt ts 3 = .int .i64 xp
  t4 : gt ts 4 = .int .i64 xt
  t11 : gt ts 11 = .bool true
  t12 : gt ts 12 = .pointer (some ⟨c, 0, none⟩)
  t13 : gt ts 13 = .int .i64 (q : Int)
  t14 : gt ts 14 = vl
  t16 : gt ts 16 = va
  t18 : gt ts 18 = vb
  t20 : gt ts 20 = .pointer (some ⟨z, 0, none⟩)
  t22 : gt ts 22 = .pointer (some ⟨m, 0, none⟩)
  t23 : gt ts 23 = .pointer (some ⟨x, 0, none⟩)
  t24 : gt ts 24 = .int .i64 0
  t25 : gt ts 25 = .pointer (some ⟨y, 0, none⟩)
  t26 : gt ts 26 = .int .i64 0
  t117 : gt ts 117 = .agg #[.int .i64 (kk : Int), .int .i64 (p : Int), .int .i64 (cc : Int)]
  t118 : gt ts 118 = .agg #[.int .i64 (kk : Int), .int .i64 (p : Int), .int .i64 (cc : Int)]
  t119 : gt ts 119 = .agg #[vz]
  t120 : gt ts 120 = .int .i64 (q : Int)
  t121 : gt ts 121 = vb
  t123 : gt ts 123 = .int .i64 (q : Int)
structure KTu (xp xt : Int) (c q : Nat) (vl va vb : Value) (z m x y u : Nat) (ts : List Value) : Prop where
  l : ts.length = 246
  t3 : gt ts 3 = .int .i64 xp
  t4 : gt ts 4 = .int .i64 xt
  t11 : gt ts 11 = .bool true
  t12 : gt ts 12 = .pointer (some ⟨c, 0, none⟩)
  t13 : gt ts 13 = .int .i64 (q : Int)
  t14 : gt ts 14 = vl
  t16 : gt ts 16 = va
  t18 : gt ts 18 = vb
  t20 : gt ts 20 = .pointer (some ⟨z, 0, none⟩)
  t22 : gt ts 22 = .pointer (some ⟨m, 0, none⟩)
  t23 : gt ts 23 = .pointer (some ⟨x, 0, none⟩)
  t24 : gt ts 24 = .int .i64 0
  t25 : gt ts 25 = .pointer (some ⟨y, 0, none⟩)
  t26 : gt ts 26 = .int .i64 0
  t27 : gt ts 27 = .pointer (some ⟨u, 0, none⟩)
  t28 : gt ts 28 = .int .i64 0
set_option maxHeartbeats 4000000 in
theorem fork2 {B : OH} {H : HL} {N : St} {vl va vb vz : Value} {Z U : List C2} {wb : List Int} {xp xt : Int} {kk p cc h c q z m x y : Nat} (hT : Tab B) (C : Cf kk p cc h) (hq : q < p) (sz : SlW c2 2 B H vz Z) (hZ : Z.length = bs p h 5) (sb : SlR w1 1 B H vb wb) (hwb : wb.length = LG p h) (hWs : C2s (withW Z (lgA p h q) wb (LG p h))) (hE : layE p h q (withW Z (lgA p h q) wb (LG p h)) = 0) (hU : layR p h q (withW Z (lgA p h q) wb (LG p h)) = U) (hN : good B H N) (bc : B c = none) (bz : B z = none) (lc : lk H c = some (.cells [.int .i64 (kk : Int), .int .i64 (p : Int), .int .i64 (cc : Int)] 3)) (lz : lk H z = some (.cells [vz] 1)) {ts : List Value} (kp : KTh xp xt c q vl va vb z m x y vz kk p cc ts) {F : Nat} (hF : 1000 ≤ F) :
    Ok (exec B { f := Glaw16WlogTwice B } F lbF2 ⟨ts, H, N⟩) (fun r s => r = .normal ∧ good B s.H s.N ∧ Fr H s.H ∧ ∃ u vu, KTu xp xt c q vl va vb z m x y u s.t ∧ B u = none ∧ lk s.H u = some (.cells [vu] 1) ∧ SlW c2 2 B s.H vu U) := by
  have hB := good_B hN
  have hR := good_rdB hN
  have hI := beqN hN.1.1
  have rc := fun o n => rdB_none (o := o) (n := n) bc
  have nc := ne_N hN lc
  have rz := fun o n => rdB_none (o := o) (n := n) bz
  have nz := ne_N hN lz
  have gg : ∀ {H N}, good B H N → good B H (shg N) := fun h => h
  have h5 := bs5_b C
  have hwl := withW_len Z (lgA p h q) wb (LG p h)
  have hmin : min wb.length (LG p h) = LG p h := by omega
  obtain ⟨F, rfl⟩ : ∃ F', F = F' + 100 := ⟨F - 100, by omega⟩
  cases hg : N.g 0 with
  | true =>
    obtain ⟨vM, H1, N1, e1, g1, f1, s1⟩ := fWith C (gg hN) sz sb hZ hq
    rw [hmin] at s1
    have lc1 := f1 _ _ lc
    have nc1 := ne_N g1 lc1
    have lz1 := f1 _ _ lz
    have nz1 := ne_N g1 lz1
    cases hg1 : N1.g 0 with
    | true =>
      obtain ⟨v2, H2, N2, e2, g2, f2, s2⟩ := fLay hT C (gg g1) (s1.wh c2_len) (by omega) hWs (q := (q : Int))
      rw [hE, hU] at *
      have lc2 := f2 _ _ lc1
      have nc2 := ne_N g2 lc2
      simp -implicitDefEqProofs (maxSteps := 10000000) (disch := omega) only [Tlaw16WlogTwice, Llaw16WlogTwice, Glaw16WlogTwice_9, V9_eq, Glaw16WlogTwice_law16Conf, Vlaw16Conf_eq, Glaw16WlogTwice_law16Memory, Glaw16WlogTwice_law16With, Glaw16WlogTwice_law16Writes, Glaw16WlogTwice_law16awake, Glaw16WlogTwice_law16pick, Vlaw16pick_eq, Glaw16WlogTwice_ref03Same, Glaw16WlogTwice_ref16Most, Vref16Most_eq, Glaw16WlogTwice_ref16Wipe, Glaw16WlogTwice_wlogLay, Glaw16WlogTwice_wlogPack, hB, hR, hI, lbF2, kp.l, kp.t3, kp.t4, kp.t11, kp.t12, kp.t13, kp.t14, kp.t16, kp.t18, kp.t20, kp.t22, kp.t23, kp.t24, kp.t25, kp.t26, kp.t117, kp.t118, kp.t119, kp.t120, kp.t121, kp.t123, lenV_sl, Int.toNat_natCast, bft, btf, gtst, st_len, hg, hg1, lc, lc1, lc2, lz, lz1, bz, rz, nz, nz1, bc, rc, nc, nc1, nc2, e1, e2, all1_slw (s2.wh c2_len), good_B g2, good_rdB g2, pad, lightV, bt, bf, evs, gt, st, binV, arith, isSh, storeV, all1, idxAV, fieldV, faddrV, iaddrSV, iaddrAV, pickV, convV, unV, eqbV, eqpV, extV, mm2, mmV, nilckV, ress, res1, retV, Value.cells, reduceIte, reduceCtorEq, Int.reduceLT, Int.reduceLE, Int.reduceToNat, Int.reduceAdd, Int.reduceSub, Int.reduceMul, Int.reduceNeg, Nat.reduceMul, Nat.reduceAdd, Nat.reduceSub, Nat.reduceBEq, Nat.reduceEqDiff, Nat.reduceLT, Nat.reduceLeDiff, Int.reduceBEq, Int.reduceEq, Nat.reducePow, Int.reducePow, IntWalk.i64_in, IntKind.bits, eqAV, eqL, leafEq, andO, fillV, buildSV, Int.reduceGT, Int.reduceGE, Int.reduceBNe, IntWalk.u64_in, newsV_s, tassV, isnV, slcV, slcAV, slcTV, slcB, appNew, Option.bind_some, Option.bind_none, eqsV, lookV, mupdV, mdelV, mkM, ev1, ev2]
      refine ok_some ⟨rfl, good_new g2, (f1.trans f2).trans (fr_new g2 Fr.refl 0), N2.n 0, v2, ⟨?_, ?_, ?_, ?_, ?_, ?_, ?_, ?_, ?_, ?_, ?_, ?_, ?_, ?_, ?_, ?_, ?_⟩, good_B g2 0, lk_top, (s2.wh c2_len).mono (fr_new g2 Fr.refl 0)⟩
      all_goals simp (maxSteps := 10000000) (disch := omega) only [kp.l, kp.t3, kp.t4, kp.t11, kp.t12, kp.t13, kp.t14, kp.t16, kp.t18, kp.t20, kp.t22, kp.t23, kp.t24, kp.t25, kp.t26, kp.t117, kp.t118, kp.t119, kp.t120, kp.t121, kp.t123, lenV_sl, Int.toNat_natCast, bft, btf, gtst, st_len, Nat.reduceAdd, Int.cast_ofNat_Int, cond_true, cond_false, Nat.reduceBEq, Nat.reduceLT, decide_true, beq_self_eq_true, if_true, if_false]
    | false =>
      have g1' : good B ((N1.n 0, .cells [.slice none 0 0] 1) :: H1) (sh (shg N1)) := good_new (gg g1)
      have f1' : Fr H1 ((N1.n 0, .cells [.slice none 0 0] 1) :: H1) := fr_new (gg g1) Fr.refl 0
      obtain ⟨v2, H2, N2, e2, g2, f2, s2⟩ := fLay hT C g1' ((s1.wh c2_len).mono f1') (by omega) hWs (q := (q : Int))
      rw [hE, hU] at *
      have lc1' := f1' _ _ lc1
      have lc2 := f2 _ _ lc1'
      have nc2 := ne_N g2 lc2
      have lu2 := f2 _ _ (lk_top : lk ((N1.n 0, KB.cells [.slice none 0 0] 1) :: H1) (N1.n 0) = _)
      have bu := good_B g1 0
      have ru := fun o n => rdB_none (o := o) (n := n) bu
      have e2' : VwlogLay B [.agg #[.int .i64 (kk : Int), .int .i64 (p : Int), .int .i64 (cc : Int)], .agg #[vM], .int .i64 (q : Int)] ((N1.n 0, .cells [.slice none 0 0] 1) :: H1) (sh (shg N1)) = _ := e2
      simp -implicitDefEqProofs (maxSteps := 10000000) (disch := omega) only [Tlaw16WlogTwice, Llaw16WlogTwice, Glaw16WlogTwice_9, V9_eq, Glaw16WlogTwice_law16Conf, Vlaw16Conf_eq, Glaw16WlogTwice_law16Memory, Glaw16WlogTwice_law16With, Glaw16WlogTwice_law16Writes, Glaw16WlogTwice_law16awake, Glaw16WlogTwice_law16pick, Vlaw16pick_eq, Glaw16WlogTwice_ref03Same, Glaw16WlogTwice_ref16Most, Vref16Most_eq, Glaw16WlogTwice_ref16Wipe, Glaw16WlogTwice_wlogLay, Glaw16WlogTwice_wlogPack, hB, hR, hI, lbF2, kp.l, kp.t3, kp.t4, kp.t11, kp.t12, kp.t13, kp.t14, kp.t16, kp.t18, kp.t20, kp.t22, kp.t23, kp.t24, kp.t25, kp.t26, kp.t117, kp.t118, kp.t119, kp.t120, kp.t121, kp.t123, lenV_sl, Int.toNat_natCast, bft, btf, gtst, st_len, hg, hg1, lc, lc1, lc2, lz, lz1, bz, rz, nz, nz1, bc, rc, nc, nc1, nc2, e1, e2', all1_slw (s2.wh c2_len), good_B g2, good_rdB g2, good_B g1, good_rdB g1, lu2, bu, ru, pad, lightV, bt, bf, evs, gt, st, binV, arith, isSh, storeV, all1, idxAV, fieldV, faddrV, iaddrSV, iaddrAV, pickV, convV, unV, eqbV, eqpV, extV, mm2, mmV, nilckV, ress, res1, retV, Value.cells, reduceIte, reduceCtorEq, Int.reduceLT, Int.reduceLE, Int.reduceToNat, Int.reduceAdd, Int.reduceSub, Int.reduceMul, Int.reduceNeg, Nat.reduceMul, Nat.reduceAdd, Nat.reduceSub, Nat.reduceBEq, Nat.reduceEqDiff, Nat.reduceLT, Nat.reduceLeDiff, Int.reduceBEq, Int.reduceEq, Nat.reducePow, Int.reducePow, IntWalk.i64_in, IntKind.bits, eqAV, eqL, leafEq, andO, fillV, buildSV, Int.reduceGT, Int.reduceGE, Int.reduceBNe, IntWalk.u64_in, newsV_s, tassV, isnV, slcV, slcAV, slcTV, slcB, appNew, Option.bind_some, Option.bind_none, eqsV, lookV, mupdV, mdelV, mkM, ev1, ev2]
      refine ok_some ⟨rfl, good_up g2 bu lu2, f1.trans (fr_up (f1'.trans f2) (lk_N g1 0)), N1.n 0, v2, ⟨?_, ?_, ?_, ?_, ?_, ?_, ?_, ?_, ?_, ?_, ?_, ?_, ?_, ?_, ?_, ?_, ?_⟩, bu, ?_, (s2.mono (fun y c e1 e2 => ?_)).wh c2_len⟩
      rotate_right
      · rw [lk_upH, eqb (fun e => s2.ne lk_top (by rw [e1, e])), cond_false]; exact e2
      rotate_right
      · rw [lk_upH, beq_self_eq_true, cond_true]
      all_goals simp (maxSteps := 10000000) (disch := omega) only [kp.l, kp.t3, kp.t4, kp.t11, kp.t12, kp.t13, kp.t14, kp.t16, kp.t18, kp.t20, kp.t22, kp.t23, kp.t24, kp.t25, kp.t26, kp.t117, kp.t118, kp.t119, kp.t120, kp.t121, kp.t123, lenV_sl, Int.toNat_natCast, bft, btf, gtst, st_len, Nat.reduceAdd, Int.cast_ofNat_Int, cond_true, cond_false, Nat.reduceBEq, Nat.reduceLT, decide_true, beq_self_eq_true, if_true, if_false]
  | false =>
    have g0' : good B ((N.n 0, .cells [.slice none 0 0] 1) :: H) (sh (shg N)) := good_new (gg hN)
    have f0' : Fr H ((N.n 0, .cells [.slice none 0 0] 1) :: H) := fr_new (gg hN) Fr.refl 0
    obtain ⟨vM, H1, N1, e1, g1, f1, s1⟩ := fWith C g0' (sz.mono f0') (sb.mono f0') hZ hq
    rw [hmin] at s1
    have e1' : Vlaw16With B [.agg #[.int .i64 (kk : Int), .int .i64 (p : Int), .int .i64 (cc : Int)], .agg #[vz], .int .i64 (q : Int), vb] ((N.n 0, .cells [.slice none 0 0] 1) :: H) (sh (shg N)) = _ := e1
    have lc0 := f0' _ _ lc
    have lc1 := f1 _ _ lc0
    have nc1 := ne_N g1 lc1
    have lz0 := f0' _ _ lz
    obtain ⟨v2, H2, N2, e2, g2, f2, s2⟩ := fLay hT C g1 (s1.wh c2_len) (by omega) hWs (q := (q : Int))
    rw [hE, hU] at *
    have lc2 := f2 _ _ lc1
    have nc2 := ne_N g2 lc2
    have lu1 := f1 _ _ (lk_top : lk ((N.n 0, KB.cells [.slice none 0 0] 1) :: H) (N.n 0) = _)
    have lu2 := f2 _ _ lu1
    have bu := hB 0
    have ru := fun o n => rdB_none (o := o) (n := n) bu
    simp -implicitDefEqProofs (maxSteps := 10000000) (disch := omega) only [Tlaw16WlogTwice, Llaw16WlogTwice, Glaw16WlogTwice_9, V9_eq, Glaw16WlogTwice_law16Conf, Vlaw16Conf_eq, Glaw16WlogTwice_law16Memory, Glaw16WlogTwice_law16With, Glaw16WlogTwice_law16Writes, Glaw16WlogTwice_law16awake, Glaw16WlogTwice_law16pick, Vlaw16pick_eq, Glaw16WlogTwice_ref03Same, Glaw16WlogTwice_ref16Most, Vref16Most_eq, Glaw16WlogTwice_ref16Wipe, Glaw16WlogTwice_wlogLay, Glaw16WlogTwice_wlogPack, hB, hR, hI, lbF2, kp.l, kp.t3, kp.t4, kp.t11, kp.t12, kp.t13, kp.t14, kp.t16, kp.t18, kp.t20, kp.t22, kp.t23, kp.t24, kp.t25, kp.t26, kp.t117, kp.t118, kp.t119, kp.t120, kp.t121, kp.t123, lenV_sl, Int.toNat_natCast, bft, btf, gtst, st_len, hg, lc, lc0, lc1, lc2, lz, lz0, bz, rz, nz, bc, rc, nc, nc1, nc2, e1', e2, all1_slw (s2.wh c2_len), good_B g2, good_rdB g2, good_B g1, good_rdB g1, lu2, bu, ru, pad, lightV, bt, bf, evs, gt, st, binV, arith, isSh, storeV, all1, idxAV, fieldV, faddrV, iaddrSV, iaddrAV, pickV, convV, unV, eqbV, eqpV, extV, mm2, mmV, nilckV, ress, res1, retV, Value.cells, reduceIte, reduceCtorEq, Int.reduceLT, Int.reduceLE, Int.reduceToNat, Int.reduceAdd, Int.reduceSub, Int.reduceMul, Int.reduceNeg, Nat.reduceMul, Nat.reduceAdd, Nat.reduceSub, Nat.reduceBEq, Nat.reduceEqDiff, Nat.reduceLT, Nat.reduceLeDiff, Int.reduceBEq, Int.reduceEq, Nat.reducePow, Int.reducePow, IntWalk.i64_in, IntKind.bits, eqAV, eqL, leafEq, andO, fillV, buildSV, Int.reduceGT, Int.reduceGE, Int.reduceBNe, IntWalk.u64_in, newsV_s, tassV, isnV, slcV, slcAV, slcTV, slcB, appNew, Option.bind_some, Option.bind_none, eqsV, lookV, mupdV, mdelV, mkM, ev1, ev2]
    refine ok_some ⟨rfl, good_up g2 bu lu2, fr_up ((f0'.trans f1).trans f2) (lk_N hN 0), N.n 0, v2, ⟨?_, ?_, ?_, ?_, ?_, ?_, ?_, ?_, ?_, ?_, ?_, ?_, ?_, ?_, ?_, ?_, ?_⟩, bu, ?_, (s2.mono (fun y c e1 e2 => ?_)).wh c2_len⟩
    rotate_right
    · rw [lk_upH, eqb (fun e => s2.ne lu1 (by rw [e1, e])), cond_false]; exact e2
    rotate_right
    · rw [lk_upH, beq_self_eq_true, cond_true]
    all_goals simp (maxSteps := 10000000) (disch := omega) only [kp.l, kp.t3, kp.t4, kp.t11, kp.t12, kp.t13, kp.t14, kp.t16, kp.t18, kp.t20, kp.t22, kp.t23, kp.t24, kp.t25, kp.t26, kp.t117, kp.t118, kp.t119, kp.t120, kp.t121, kp.t123, lenV_sl, Int.toNat_natCast, bft, btf, gtst, st_len, Nat.reduceAdd, Int.cast_ofNat_Int, cond_true, cond_false, Nat.reduceBEq, Nat.reduceLT, decide_true, beq_self_eq_true, if_true, if_false]
/-- What a cell should be, so many of the writes looked at. -/
def wv (l : List W2) (i : Nat) (b : C2) : Nat → C2
  | 0 => b
  | n + 1 => if (l.getD n y2).a = (i : Int) then ⟨(l.getD n y2).w, 0⟩ else wv l i b n
theorem wv_lay {M : List C2} {l : List W2} (h : inM M.length l) {i : Nat} : ∀ n, n ≤ l.length → wv l i (M.getD i z2) n = (lay M l n).getD i z2
  | 0, _ => rfl
  | n + 1, hn => by
    have hin := h.1 _ (getD_mem (l := l) (i := n) (by omega))
    simp only [lay, wv]
    rw [getD_set _ _ _ _ _ (by rw [lay_len]; omega), wv_lay h n (by omega)]
    by_cases e : (l.getD n y2).a = (i : Int)
    · rw [if_pos e, if_pos (by omega)]
    · rw [if_neg e, if_neg (by omega)]
structure KTl (c q : Nat) (vl : Value) (m x u i : Nat) (ts : List Value) : Prop where
  l : ts.length = 246
  t11 : gt ts 11 = .bool true
  t12 : gt ts 12 = .pointer (some ⟨c, 0, none⟩)
  t13 : gt ts 13 = .int .i64 (q : Int)
  t14 : gt ts 14 = vl
  t22 : gt ts 22 = .pointer (some ⟨m, 0, none⟩)
  t23 : gt ts 23 = .pointer (some ⟨x, 0, none⟩)
  t27 : gt ts 27 = .pointer (some ⟨u, 0, none⟩)
  t29 : gt ts 29 = .int .i64 (i : Int)
structure KTi (c q : Nat) (vl : Value) (m x u i w j : Nat) (ts : List Value) : Prop where
  l : ts.length = 246
  t11 : gt ts 11 = .bool true
  t12 : gt ts 12 = .pointer (some ⟨c, 0, none⟩)
  t13 : gt ts 13 = .int .i64 (q : Int)
  t14 : gt ts 14 = vl
  t22 : gt ts 22 = .pointer (some ⟨m, 0, none⟩)
  t23 : gt ts 23 = .pointer (some ⟨x, 0, none⟩)
  t27 : gt ts 27 = .pointer (some ⟨u, 0, none⟩)
  t29 : gt ts 29 = .int .i64 (i : Int)
  t33 : gt ts 33 = .pointer (some ⟨w, 0, none⟩)
  t34 : gt ts 34 = .int .i64 (j : Int)
def lbTo : LC := (.seq (.seq (.ops [⟨(some 161), .mv (.tmp 29), none⟩, ⟨(some 162), .faddr 0 (.tmp 22), none⟩, ⟨(some 163), .load false 1 (.tmp 162), none⟩, ⟨(some 164), .len false (.tmp 163), none⟩, ⟨(some 165), .bin .lss (.tmp 161) (.tmp 164), none⟩])
 (.cond (.tmp 165) .skip
 (.exit 0)))
 (.seq (.block 1 (.seq (.ops [⟨(some 169), .load true 3 (.tmp 12), none⟩, ⟨(some 170), .mv (.tmp 29), none⟩, ⟨(some 171), .call (.func 32) [(.tmp 169), (.tmp 170)], none⟩, ⟨(some 168), .mv (.tmp 171), none⟩, ⟨(some 172), .ext (.tmp 168) 0, none⟩, ⟨(some 173), .ext (.tmp 168) 1, none⟩, ⟨(some 174), .ext (.tmp 168) 2, none⟩, ⟨(some 30), .mv (.tmp 172), none⟩, ⟨(some 31), .mv (.tmp 173), none⟩, ⟨(some 32), .mv (.tmp 174), none⟩])
 (.seq (.seq (.draw [⟨⟨(some 175), .mv (.tmp 30), none⟩, []⟩, ⟨⟨(some 176), .bin .neq (.tmp 175) (.const (.int .i64 3)), none⟩, []⟩, ⟨⟨(some 177), .mv (.tmp 176), none⟩, []⟩, ⟨⟨(some 178), .mv (.tmp 31), (some (177, false))⟩, []⟩, ⟨⟨(some 179), .mv (.tmp 13), (some (177, false))⟩, []⟩, ⟨⟨(some 180), .bin .neq (.tmp 178) (.tmp 179), (some (177, false))⟩, []⟩, ⟨⟨(some 181), .pick (.tmp 177) (.const (.bool true)) (.tmp 180), none⟩, []⟩, ⟨⟨(some 182), .mv (.tmp 181), none⟩, []⟩, ⟨⟨(some 183), .faddr 0 (.tmp 23), (some (182, true))⟩, []⟩, ⟨⟨(some 184), .load false 1 (.tmp 183), (some (182, true))⟩, []⟩, ⟨⟨(some 185), .mv (.tmp 29), (some (182, true))⟩, []⟩, ⟨⟨(some 186), .iaddrS 2 (.tmp 184) (.tmp 185), (some (182, true))⟩, []⟩, ⟨⟨(some 187), .load true 2 (.tmp 186), (some (182, true))⟩, []⟩, ⟨⟨(some 188), .faddr 0 (.tmp 27), (some (182, true))⟩, []⟩, ⟨⟨(some 189), .load false 1 (.tmp 188), (some (182, true))⟩, []⟩, ⟨⟨(some 190), .mv (.tmp 29), (some (182, true))⟩, []⟩, ⟨⟨(some 191), .iaddrS 2 (.tmp 189) (.tmp 190), (some (182, true))⟩, []⟩, ⟨⟨(some 192), .load true 2 (.tmp 191), (some (182, true))⟩, []⟩, ⟨⟨(some 193), .eqA true [.int, .int] (.tmp 187) (.tmp 192), (some (182, true))⟩, []⟩, ⟨⟨(some 194), .pick (.tmp 182) (.tmp 193) (.const (.bool false)), none⟩, []⟩])
 (.cond (.tmp 194) (.seq (.ops [⟨(some 10), .mv (.const (.bool false)), none⟩])
 .ret)
 .skip))
 (.seq (.seq (.draw [⟨⟨(some 195), .mv (.tmp 30), none⟩, []⟩, ⟨⟨(some 196), .bin .neq (.tmp 195) (.const (.int .i64 2)), none⟩, []⟩, ⟨⟨(some 197), .mv (.tmp 196), none⟩, []⟩, ⟨⟨(some 198), .mv (.tmp 30), (some (197, true))⟩, []⟩, ⟨⟨(some 199), .bin .neq (.tmp 198) (.const (.int .i64 4)), (some (197, true))⟩, []⟩, ⟨⟨(some 200), .pick (.tmp 197) (.tmp 199) (.const (.bool false)), none⟩, []⟩, ⟨⟨(some 201), .mv (.tmp 200), none⟩, []⟩, ⟨⟨(some 202), .faddr 0 (.tmp 23), (some (201, true))⟩, []⟩, ⟨⟨(some 203), .load false 1 (.tmp 202), (some (201, true))⟩, []⟩, ⟨⟨(some 204), .mv (.tmp 29), (some (201, true))⟩, []⟩, ⟨⟨(some 205), .iaddrS 2 (.tmp 203) (.tmp 204), (some (201, true))⟩, []⟩, ⟨⟨(some 206), .load true 2 (.tmp 205), (some (201, true))⟩, []⟩, ⟨⟨(some 207), .faddr 0 (.tmp 22), (some (201, true))⟩, []⟩, ⟨⟨(some 208), .load false 1 (.tmp 207), (some (201, true))⟩, []⟩, ⟨⟨(some 209), .mv (.tmp 29), (some (201, true))⟩, []⟩, ⟨⟨(some 210), .iaddrS 2 (.tmp 208) (.tmp 209), (some (201, true))⟩, []⟩, ⟨⟨(some 211), .load true 2 (.tmp 210), (some (201, true))⟩, []⟩, ⟨⟨(some 212), .eqA true [.int, .int] (.tmp 206) (.tmp 211), (some (201, true))⟩, []⟩, ⟨⟨(some 213), .pick (.tmp 201) (.tmp 212) (.const (.bool false)), none⟩, []⟩])
 (.cond (.tmp 213) (.seq (.ops [⟨(some 10), .mv (.const (.bool false)), none⟩])
 .ret)
 .skip))
 (.seq (.ops [⟨(some 214), .faddr 0 (.tmp 22), none⟩, ⟨(some 215), .load false 1 (.tmp 214), none⟩, ⟨(some 216), .mv (.tmp 29), none⟩, ⟨(some 217), .iaddrS 2 (.tmp 215) (.tmp 216), none⟩, ⟨(some 218), .load true 2 (.tmp 217), none⟩, ⟨(some 33), .alloc [(.int .u64 0), (.int .i64 0)], none⟩, ⟨none, .store 2 (.tmp 33) (.tmp 218), none⟩])
 (.seq (.seq (.ops [⟨(some 34), .mv (.const (.int .i64 0)), none⟩])
 (.block 2 (.loop (.seq (.seq (.ops [⟨(some 219), .mv (.tmp 34), none⟩, ⟨(some 220), .mv (.tmp 14), none⟩, ⟨(some 221), .len false (.tmp 220), none⟩, ⟨(some 222), .bin .lss (.tmp 219) (.tmp 221), none⟩])
 (.cond (.tmp 222) .skip
 (.exit 2)))
 (.seq (.block 3 (.seq (.ops [⟨(some 225), .mv (.tmp 14), none⟩, ⟨(some 226), .mv (.tmp 34), none⟩, ⟨(some 227), .iaddrS 2 (.tmp 225) (.tmp 226), none⟩, ⟨(some 228), .faddr 0 (.tmp 227), none⟩, ⟨(some 229), .load false 1 (.tmp 228), none⟩, ⟨(some 230), .mv (.tmp 29), none⟩, ⟨(some 231), .bin .eql (.tmp 229) (.tmp 230), none⟩])
 (.cond (.tmp 231) (.ops [⟨(some 232), .mv (.tmp 14), none⟩, ⟨(some 233), .mv (.tmp 34), none⟩, ⟨(some 234), .iaddrS 2 (.tmp 232) (.tmp 233), none⟩, ⟨(some 235), .faddr 1 (.tmp 234), none⟩, ⟨(some 236), .load false 1 (.tmp 235), none⟩, ⟨(some 237), .build [(.int .u64 0), (.int .i64 0)] [(0, 1, (.tmp 236))], none⟩, ⟨none, .store 2 (.tmp 33) (.tmp 237), none⟩])
 .skip)))
 (.ops [⟨(some 223), .mv (.tmp 34), none⟩, ⟨(some 224), .bin .add (.tmp 223) (.const (.int .i64 1)), none⟩, ⟨(some 34), .mv (.tmp 224), none⟩]))))))
 (.seq (.draw [⟨⟨(some 238), .faddr 0 (.tmp 23), none⟩, []⟩, ⟨⟨(some 239), .load false 1 (.tmp 238), none⟩, []⟩, ⟨⟨(some 240), .mv (.tmp 29), none⟩, []⟩, ⟨⟨(some 241), .iaddrS 2 (.tmp 239) (.tmp 240), none⟩, []⟩, ⟨⟨(some 242), .load true 2 (.tmp 241), none⟩, []⟩, ⟨⟨(some 243), .load true 2 (.tmp 33), none⟩, []⟩, ⟨⟨(some 244), .eqA true [.int, .int] (.tmp 242) (.tmp 243), none⟩, []⟩])
 (.cond (.tmp 244) (.seq (.ops [⟨(some 10), .mv (.const (.bool false)), none⟩])
 .ret)
 .skip))))))))
 (.ops [⟨(some 166), .mv (.tmp 29), none⟩, ⟨(some 167), .bin .add (.tmp 166) (.const (.int .i64 1)), none⟩, ⟨(some 29), .mv (.tmp 167), none⟩])))
def lbTi : LC := (.seq (.seq (.ops [⟨(some 219), .mv (.tmp 34), none⟩, ⟨(some 220), .mv (.tmp 14), none⟩, ⟨(some 221), .len false (.tmp 220), none⟩, ⟨(some 222), .bin .lss (.tmp 219) (.tmp 221), none⟩])
 (.cond (.tmp 222) .skip
 (.exit 2)))
 (.seq (.block 3 (.seq (.ops [⟨(some 225), .mv (.tmp 14), none⟩, ⟨(some 226), .mv (.tmp 34), none⟩, ⟨(some 227), .iaddrS 2 (.tmp 225) (.tmp 226), none⟩, ⟨(some 228), .faddr 0 (.tmp 227), none⟩, ⟨(some 229), .load false 1 (.tmp 228), none⟩, ⟨(some 230), .mv (.tmp 29), none⟩, ⟨(some 231), .bin .eql (.tmp 229) (.tmp 230), none⟩])
 (.cond (.tmp 231) (.ops [⟨(some 232), .mv (.tmp 14), none⟩, ⟨(some 233), .mv (.tmp 34), none⟩, ⟨(some 234), .iaddrS 2 (.tmp 232) (.tmp 233), none⟩, ⟨(some 235), .faddr 1 (.tmp 234), none⟩, ⟨(some 236), .load false 1 (.tmp 235), none⟩, ⟨(some 237), .build [(.int .u64 0), (.int .i64 0)] [(0, 1, (.tmp 236))], none⟩, ⟨none, .store 2 (.tmp 33) (.tmp 237), none⟩])
 .skip)))
 (.ops [⟨(some 223), .mv (.tmp 34), none⟩, ⟨(some 224), .bin .add (.tmp 223) (.const (.int .i64 1)), none⟩, ⟨(some 34), .mv (.tmp 224), none⟩])))
set_option maxHeartbeats 4000000 in
theorem loopTi {B : OH} {H : HL} {N : St} {vl : Value} {l : List W2} {b : C2} {c q m x u i w : Nat} (sl : SlR w2 2 B H vl l) (hll : l.length ≤ 1000) (hN : good B H N) (bw : B w = none) (h0w : ∀ H', Fr H H' → lk H' w = some (.cells (c2 b) 2) → True) {H1 : HL} {N1 : St} (g1 : good B H1 N1) (f1 : Fr H H1) (hHw : lk H w = none) (lw : lk H1 w = some (.cells (c2 b) 2)) {ts : List Value} (kp : KTi c q vl m x u i w 0 ts) {F : Nat} (hF : 1000 + l.length + 1 ≤ F) :
    Ok (exec B { f := Glaw16WlogTwice B } F (LC.loop lbTi) ⟨ts, H1, N1⟩) (fun r s => r = .exit 2 ∧ good B s.H s.N ∧ Fr H s.H ∧ lk s.H w = some (.cells (c2 (wv l i b l.length)) 2) ∧ KTi c q vl m x u i w l.length s.t) := by
  have hlv := sl.len
  clear h0w
  refine loop_rule (n0 := 1000) (fun r s => ∃ ts H' N', ∃ k : Nat, s = ⟨ts, H', N'⟩ ∧ KTi c q vl m x u i w k ts ∧ good B H' N' ∧ Fr H H' ∧ lk H' w = some (.cells (c2 (wv l i b k)) 2) ∧ k ≤ l.length ∧ r = l.length - k) _ ?_ l.length _ ⟨ts, H1, N1, 0, rfl, kp, g1, f1, lw, by omega, rfl⟩ _ hF
  clear kp hF F ts lw f1 g1 N1 H1
  rintro z r s ⟨ts, H1, N1, k, rfl, kp, g, fk, lw, hk, rfl⟩
  have hB := good_B g
  have hR := good_rdB g
  have hI := beqN g.1.1
  have rw_ := fun o n => rdB_none (o := o) (n := n) bw
  have hc1 : ((k + 1 : Nat) : Int) = (k : Int) + 1 := by omega
  by_cases hin : k < l.length
  case neg =>
    obtain rfl : k = l.length := by omega
    simp -implicitDefEqProofs (maxSteps := 10000000) (disch := omega) only [Tlaw16WlogTwice, Llaw16WlogTwice, Glaw16WlogTwice_9, V9_eq, Glaw16WlogTwice_law16Conf, Vlaw16Conf_eq, Glaw16WlogTwice_law16Memory, Glaw16WlogTwice_law16With, Glaw16WlogTwice_law16Writes, Glaw16WlogTwice_law16awake, Glaw16WlogTwice_law16pick, Vlaw16pick_eq, Glaw16WlogTwice_ref03Same, Glaw16WlogTwice_ref16Most, Vref16Most_eq, Glaw16WlogTwice_ref16Wipe, Glaw16WlogTwice_wlogLay, Glaw16WlogTwice_wlogPack, hB, hR, hI, lbTi, kp.l, kp.t11, kp.t12, kp.t13, kp.t14, kp.t22, kp.t23, kp.t27, kp.t29, kp.t33, kp.t34, lenV_sl, Int.toNat_natCast, bft, btf, gtst, st_len, hlv, Int.lt_irrefl, pad, lightV, bt, bf, evs, gt, st, binV, arith, isSh, storeV, all1, idxAV, fieldV, faddrV, iaddrSV, iaddrAV, pickV, convV, unV, eqbV, eqpV, extV, mm2, mmV, nilckV, ress, res1, retV, Value.cells, reduceIte, reduceCtorEq, Int.reduceLT, Int.reduceLE, Int.reduceToNat, Int.reduceAdd, Int.reduceSub, Int.reduceMul, Int.reduceNeg, Nat.reduceMul, Nat.reduceAdd, Nat.reduceSub, Nat.reduceBEq, Nat.reduceEqDiff, Nat.reduceLT, Nat.reduceLeDiff, Int.reduceBEq, Int.reduceEq, Nat.reducePow, Int.reducePow, IntWalk.i64_in, IntKind.bits, eqAV, eqL, leafEq, andO, fillV, buildSV, Int.reduceGT, Int.reduceGE, Int.reduceBNe, IntWalk.u64_in, newsV_s, tassV, isnV, slcV, slcAV, slcTV, slcB, appNew, Option.bind_some, Option.bind_none, eqsV, lookV, mupdV, mdelV, mkM, ev1, ev2]
    refine ok_some (.inr ⟨by simp, rfl, g, fk, lw, ⟨?_, ?_, ?_, ?_, ?_, ?_, ?_, ?_, ?_, ?_, ?_⟩⟩)
    all_goals simp (maxSteps := 10000000) (disch := omega) only [kp.l, kp.t11, kp.t12, kp.t13, kp.t14, kp.t22, kp.t23, kp.t27, kp.t29, kp.t33, kp.t34, lenV_sl, Int.toNat_natCast, bft, btf, gtst, st_len, Nat.reduceAdd, Int.cast_ofNat_Int, cond_true, cond_false, Nat.reduceBEq, Nat.reduceLT, decide_true, beq_self_eq_true, if_true, if_false]
  have hin' : (k : Int) < (l.length : Int) := by omega
  have k0 : (0 : Int) ≤ (k : Int) := by omega
  obtain ⟨bl, ol, cl, rfl, dl, rl⟩ := sl.at (by omega)
  have r1 : rdO H1 B bl (ol + k * 2) 1 (rdB B bl (ol + k * 2) 1) = some [.int .i64 (l.getD k y2).a] := (rl H1 fk k 0 1 y2 hin (by omega)).trans rfl
  have r2 : rdO H1 B bl (ol + k * 2 + 1) 1 (rdB B bl (ol + k * 2 + 1) 1) = some [.int .u64 (l.getD k y2).w] := (rl H1 fk k 1 1 y2 hin (by omega)).trans rfl
  by_cases he : (l.getD k y2).a = (i : Int)
  · have hb : ((l.getD k y2).a == (i : Int)) = true := by simpa using he
    have hwv : wv l i b (k + 1) = ⟨(l.getD k y2).w, 0⟩ := by simp only [wv]; rw [if_pos he]
    simp only [c2] at lw
    simp -implicitDefEqProofs (maxSteps := 10000000) (disch := omega) only [Tlaw16WlogTwice, Llaw16WlogTwice, Glaw16WlogTwice_9, V9_eq, Glaw16WlogTwice_law16Conf, Vlaw16Conf_eq, Glaw16WlogTwice_law16Memory, Glaw16WlogTwice_law16With, Glaw16WlogTwice_law16Writes, Glaw16WlogTwice_law16awake, Glaw16WlogTwice_law16pick, Vlaw16pick_eq, Glaw16WlogTwice_ref03Same, Glaw16WlogTwice_ref16Most, Vref16Most_eq, Glaw16WlogTwice_ref16Wipe, Glaw16WlogTwice_wlogLay, Glaw16WlogTwice_wlogPack, hB, hR, hI, lbTi, kp.l, kp.t11, kp.t12, kp.t13, kp.t14, kp.t22, kp.t23, kp.t27, kp.t29, kp.t33, kp.t34, lenV_sl, Int.toNat_natCast, bft, btf, gtst, st_len, hlv, hin', hin, k0, r1, r2, hb, lw, bw, rw_, pad, lightV, bt, bf, evs, gt, st, binV, arith, isSh, storeV, all1, idxAV, fieldV, faddrV, iaddrSV, iaddrAV, pickV, convV, unV, eqbV, eqpV, extV, mm2, mmV, nilckV, ress, res1, retV, Value.cells, reduceIte, reduceCtorEq, Int.reduceLT, Int.reduceLE, Int.reduceToNat, Int.reduceAdd, Int.reduceSub, Int.reduceMul, Int.reduceNeg, Nat.reduceMul, Nat.reduceAdd, Nat.reduceSub, Nat.reduceBEq, Nat.reduceEqDiff, Nat.reduceLT, Nat.reduceLeDiff, Int.reduceBEq, Int.reduceEq, Nat.reducePow, Int.reducePow, IntWalk.i64_in, IntKind.bits, eqAV, eqL, leafEq, andO, fillV, buildSV, Int.reduceGT, Int.reduceGE, Int.reduceBNe, IntWalk.u64_in, newsV_s, tassV, isnV, slcV, slcAV, slcTV, slcB, appNew, Option.bind_some, Option.bind_none, eqsV, lookV, mupdV, mdelV, mkM, ev1, ev2]
    refine ok_some (.inl ⟨rfl, l.length - (k + 1), by omega, _, _, _, k + 1, rfl, ⟨?_, ?_, ?_, ?_, ?_, ?_, ?_, ?_, ?_, ?_, ?_⟩, good_up g bw lw, fr_up fk hHw, ?_, by omega, rfl⟩)
    rotate_right
    · rw [lk_upH, beq_self_eq_true, cond_true, hwv]; rfl
    all_goals simp (maxSteps := 10000000) (disch := omega) only [kp.l, kp.t11, kp.t12, kp.t13, kp.t14, kp.t22, kp.t23, kp.t27, kp.t29, kp.t33, kp.t34, lenV_sl, Int.toNat_natCast, bft, btf, gtst, st_len, hc1, Nat.reduceAdd, Int.cast_ofNat_Int, cond_true, cond_false, Nat.reduceBEq, Nat.reduceLT, decide_true, beq_self_eq_true, if_true, if_false]
  · have hb : ((l.getD k y2).a == (i : Int)) = false := beqI he
    have hwv : wv l i b (k + 1) = wv l i b k := by simp only [wv]; rw [if_neg he]
    simp -implicitDefEqProofs (maxSteps := 10000000) (disch := omega) only [Tlaw16WlogTwice, Llaw16WlogTwice, Glaw16WlogTwice_9, V9_eq, Glaw16WlogTwice_law16Conf, Vlaw16Conf_eq, Glaw16WlogTwice_law16Memory, Glaw16WlogTwice_law16With, Glaw16WlogTwice_law16Writes, Glaw16WlogTwice_law16awake, Glaw16WlogTwice_law16pick, Vlaw16pick_eq, Glaw16WlogTwice_ref03Same, Glaw16WlogTwice_ref16Most, Vref16Most_eq, Glaw16WlogTwice_ref16Wipe, Glaw16WlogTwice_wlogLay, Glaw16WlogTwice_wlogPack, hB, hR, hI, lbTi, kp.l, kp.t11, kp.t12, kp.t13, kp.t14, kp.t22, kp.t23, kp.t27, kp.t29, kp.t33, kp.t34, lenV_sl, Int.toNat_natCast, bft, btf, gtst, st_len, hlv, hin', hin, k0, r1, hb, pad, lightV, bt, bf, evs, gt, st, binV, arith, isSh, storeV, all1, idxAV, fieldV, faddrV, iaddrSV, iaddrAV, pickV, convV, unV, eqbV, eqpV, extV, mm2, mmV, nilckV, ress, res1, retV, Value.cells, reduceIte, reduceCtorEq, Int.reduceLT, Int.reduceLE, Int.reduceToNat, Int.reduceAdd, Int.reduceSub, Int.reduceMul, Int.reduceNeg, Nat.reduceMul, Nat.reduceAdd, Nat.reduceSub, Nat.reduceBEq, Nat.reduceEqDiff, Nat.reduceLT, Nat.reduceLeDiff, Int.reduceBEq, Int.reduceEq, Nat.reducePow, Int.reducePow, IntWalk.i64_in, IntKind.bits, eqAV, eqL, leafEq, andO, fillV, buildSV, Int.reduceGT, Int.reduceGE, Int.reduceBNe, IntWalk.u64_in, newsV_s, tassV, isnV, slcV, slcAV, slcTV, slcB, appNew, Option.bind_some, Option.bind_none, eqsV, lookV, mupdV, mdelV, mkM, ev1, ev2]
    refine ok_some (.inl ⟨rfl, l.length - (k + 1), by omega, _, H1, N1, k + 1, rfl, ⟨?_, ?_, ?_, ?_, ?_, ?_, ?_, ?_, ?_, ?_, ?_⟩, g, fk, by rw [hwv]; exact lw, by omega, rfl⟩)
    all_goals simp (maxSteps := 10000000) (disch := omega) only [kp.l, kp.t11, kp.t12, kp.t13, kp.t14, kp.t22, kp.t23, kp.t27, kp.t29, kp.t33, kp.t34, lenV_sl, Int.toNat_natCast, bft, btf, gtst, st_len, hc1, Nat.reduceAdd, Int.cast_ofNat_Int, cond_true, cond_false, Nat.reduceBEq, Nat.reduceLT, decide_true, beq_self_eq_true, if_true, if_false]
end Go.Proofs.YtfhiplfagejfoaaDoor
