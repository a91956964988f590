/- Own text: the log of writes, part Wipes: contracts of the functions that the laws of the log call. -/
import Derived.Test.YtfhiplfagejfoaaDoorOwnF
import Derived.Test.YtfhiplfagejfoaaDoorRows
import Derived.Test.YtfhiplfagejfoaaDoorCards
import Derived.Test.YtfhiplfagejfoaaDoorTie
set_option linter.unusedSimpArgs false
set_option linter.unusedVariables false
namespace Go.Proofs.YtfhiplfagejfoaaDoor
open Go.Proofs.YtfhiplfagejfoaaDoor.K Go.ChangeShapes Go.WideShapes Go.ChangeAt Go.RowKit 
set_option maxRecDepth 100000
set_option linter.unusedSimpArgs false
set_option linter.unusedVariables false
theorem all1_slw {α : Type} {f : α → List Value} {sz : Nat} {B : OH} {H : HL} {v : Value} {L : List α} (h : SlW f sz B H v L) : all1 [v] = true := by
  obtain ⟨a, c, rfl, _⟩ := id h
  rfl
theorem ext_c2 {L M : List C2} (hl : L.length = M.length) (h : ∀ i, i < L.length → L.getD i z2 = M.getD i z2) : L = M := by
  apply List.ext_getElem hl
  intro i h1 h2
  have := h i h1
  rwa [List.getD_eq_getElem?_getD, List.getD_eq_getElem?_getD, List.getElem?_eq_getElem h1, List.getElem?_eq_getElem h2] at this
theorem wiped_wiped {M : List C2} {A n : Nat} (h : A + n ≤ M.length) : wiped (wiped M A n) A n = wiped M A n := ext_c2 (by rw [wiped_len]) fun i hi => by
  rw [wiped_at _ _ _ _ (by rw [wiped_len]; exact h), wiped_at _ _ _ _ h]
  split <;> rfl
theorem wdsL_at (M : List C2) (A : Nat) : ∀ n i, i < n → (wdsL M A n).getD i 0 = (M.getD (A + i) z2).w
  | 0, i, h => by omega
  | n + 1, i, h => by
    simp only [wdsL]
    by_cases e : i = n
    · subst e
      rw [List.getD_eq_getElem?_getD, List.getElem?_append_right (by rw [wdsL_len]; omega), wdsL_len, Nat.sub_self]; rfl
    · rw [List.getD_eq_getElem?_getD, List.getElem?_append_left (by rw [wdsL_len]; omega), ← List.getD_eq_getElem?_getD, wdsL_at M A n i (by omega)]
theorem ext_i {L M : List Int} (hl : L.length = M.length) (h : ∀ i, i < L.length → L.getD i 0 = M.getD i 0) : L = M := by
  apply List.ext_getElem hl
  intro i h1 h2
  have := h i h1
  rwa [List.getD_eq_getElem?_getD, List.getD_eq_getElem?_getD, List.getElem?_eq_getElem h1, List.getElem?_eq_getElem h2] at this
theorem wdsL_wiped {M : List C2} {A n : Nat} (h : A + n ≤ M.length) : wdsL (wiped M A n) A n = List.replicate n 0 := ext_i (by rw [wdsL_len, List.length_replicate]) fun i hi => by
  rw [wdsL_len] at hi
  rw [wdsL_at _ _ _ _ hi, wiped_at _ _ _ _ h, if_pos (by omega), rep_getD]; rfl
theorem unN_zero (n : Nat) : unN (List.replicate n 0) = 0 := by unfold unN; rw [rep_getD]; rfl
theorem un_zero (p h : Nat) : unOk p h (List.replicate (LG p h) 0) := by
  refine ⟨List.length_replicate, by rw [rep_getD]; omega, ?_, ?_, ?_⟩
  · rw [unN_zero]; intro i hi; omega
  · rw [unN_zero]; exact packE_ok (by simp [unL]) (fun i hi => by simp [unL] at hi)
  · rw [unN_zero]
    show oW (LG p h) [] 0 = _
    unfold oW LG
    rw [show 1 + 2 * (h + 2 * p) - 1 - 2 * 0 = 2 * (h + 2 * p) by omega, show 1 + 2 * (h + 2 * p) = 2 * (h + 2 * p) + 1 by omega, List.replicate_succ]
    simp [pkL]
theorem unR_zero (p h : Nat) : unR p h (List.replicate (LG p h) 0) = [] := by rw [(un_ok (un_zero p h)).1, unN_zero]; rfl
theorem lay_wiped {p h : Nat} {q : Int} {M : List C2} (hok : memOk p h q M) (hA : lgA p h q + LG p h ≤ M.length) : layE p h q (wiped M (lgA p h q) (LG p h)) = 0 ∧ layR p h q (wiped M (lgA p h q) (LG p h)) = wiped M (lgA p h q) (LG p h) := by
  have hok2 : memOk p h q (wiped M (lgA p h q) (LG p h)) := ⟨hok.1, by rw [wiped_len]; exact hok.2⟩
  unfold layE layR
  rw [wdsL_wiped hA, if_pos hok2, if_pos ⟨hok2, un_zero p h⟩, unR_zero]
  exact ⟨(un_ok (un_zero p h)).2, rfl⟩
theorem wipe_2 {p h : Nat} {q : Int} {M : List C2} (hok : memOk p h q M) (hA : lgA p h q + LG p h ≤ M.length) : wipE p h q M = 0 ∧ wipR p h q M = wiped M (lgA p h q) (LG p h) ∧ wipE p h q (wiped M (lgA p h q) (LG p h)) = 0 ∧ wipR p h q (wiped M (lgA p h q) (LG p h)) = wiped M (lgA p h q) (LG p h) := by
  have hok2 : memOk p h q (wiped M (lgA p h q) (LG p h)) := ⟨hok.1, by rw [wiped_len]; exact hok.2⟩
  refine ⟨if_pos hok, if_pos hok, if_pos hok2, ?_⟩
  unfold wipR
  rw [if_pos hok2, wiped_wiped hA]
theorem wiped_s {M : List C2} (hM : C2s M) (A : Nat) : ∀ n, C2s (wiped M A n)
  | 0 => hM
  | n + 1 => c2s_set (wiped_s hM A n) _ (by unfold z2 u64R i64R; simp only; omega)
/-- Where a cell is, and whether it is of that log. -/
theorem where_ {B : OH} (hG : ∃ H N, good B H N) (hT : Tab B) {kk p cc h : Nat} (C : Cf kk p cc h) {q a : Nat} (hq : q < p) (ha : a < bs p h 5) : ∃ k o : Nat, ∃ y : Int, F9 B [.agg #[.int .i64 (kk : Int), .int .i64 (p : Int), .int .i64 (cc : Int)], .int .i64 (a : Int)] = some (.tuple #[.int .i64 (k : Int), .int .i64 (o : Int), .int .i64 y]) ∧ ((k = 3 ∧ o = q) ↔ (lgA p h q ≤ a ∧ a < lgA p h q + LG p h)) ∧ k < 5 ∧ bs p h k ≤ a ∧ a < bs p h (k + 1) := by
  have hfr : fr p h 3 q = lgA p h q := rfl
  have hsz : sz p h 3 = LG p h := rfl
  have fin : ∀ k o, k < 5 → o < mn p k → fr p h k o ≤ a → a < fr p h k o + sz p h k → bs p h k ≤ a ∧ a < bs p h (k + 1) := fun k o hk ho h1 h2 => ⟨by unfold fr at h1; omega, by
    have := fr_lt (p := p) (h := h) ho (show Lt k o (k + 1) 0 from .inl (by omega))
    rw [fr_zero] at this; omega⟩
  by_cases hr : lgA p h q ≤ a ∧ a < lgA p h q + LG p h
  · rw [← hfr, ← hsz] at hr
    exact ⟨3, q, _, f9 hG hT C.k C.p C.c C.m (by omega) hq hr.1 hr.2, iff_of_true ⟨rfl, rfl⟩ hr, by omega, fin 3 q (by omega) hq hr.1 hr.2⟩
  · obtain ⟨k, o, hk, ho, h1, h2⟩ := has_part (p := p) C.h.1 5 ha
    refine ⟨k, o, _, f9 hG hT C.k C.p C.c C.m hk ho h1 h2, iff_of_false ?_ hr, hk, fin k o hk ho h1 h2⟩
    rintro ⟨rfl, rfl⟩
    exact hr ⟨h1, h2⟩
/-- whitewash/whitewashlaw16.WlogWipes -/
def Llaw16WlogWipes : FnL := ⟨(.seq (.ops [⟨(some 3), .box (.tmp 0), none⟩, ⟨(some 6), .mv (.const (.bool false)), none⟩])
 (.seq (.ops [⟨(some 22), .call (.func 8) [], none⟩, ⟨(some 7), .mv (.tmp 22), none⟩])
 (.seq (.ops [⟨(some 23), .load true 3 (.tmp 3), none⟩, ⟨(some 24), .call (.func 9) [(.tmp 23)], none⟩, ⟨(some 8), .alloc [(.int .i64 0), (.int .i64 0), (.int .i64 0)], none⟩, ⟨none, .store 3 (.tmp 8) (.tmp 24), none⟩])
 (.seq (.ops [⟨(some 25), .mv (.tmp 2), none⟩, ⟨(some 26), .faddr 1 (.tmp 8), none⟩, ⟨(some 27), .load false 1 (.tmp 26), none⟩, ⟨(some 28), .call (.func 12) [(.tmp 25), (.tmp 27)], none⟩, ⟨(some 9), .mv (.tmp 28), none⟩])
 (.seq (.ops [⟨(some 29), .load true 3 (.tmp 8), none⟩, ⟨(some 30), .mv (.tmp 1), none⟩, ⟨(some 31), .call (.func 13) [(.tmp 29), (.tmp 30)], none⟩, ⟨(some 10), .alloc [(.slice none 0 0)], none⟩, ⟨none, .store 1 (.tmp 10) (.tmp 31), none⟩])
 (.seq (.ops [⟨(some 33), .load true 3 (.tmp 8), none⟩, ⟨(some 34), .load true 1 (.tmp 10), none⟩, ⟨(some 35), .mv (.tmp 9), none⟩, ⟨(some 36), .call (.func 26) [(.tmp 33), (.tmp 34), (.tmp 35)], none⟩, ⟨(some 32), .mv (.tmp 36), none⟩, ⟨(some 37), .ext (.tmp 32) 0, none⟩, ⟨(some 38), .ext (.tmp 32) 1, none⟩, ⟨(some 11), .alloc [(.slice none 0 0)], none⟩, ⟨none, .store 1 (.tmp 11) (.tmp 37), none⟩, ⟨(some 12), .mv (.tmp 38), none⟩])
 (.seq (.ops [⟨(some 40), .load true 3 (.tmp 8), none⟩, ⟨(some 41), .load true 1 (.tmp 11), none⟩, ⟨(some 42), .mv (.tmp 9), none⟩, ⟨(some 43), .call (.func 26) [(.tmp 40), (.tmp 41), (.tmp 42)], none⟩, ⟨(some 39), .mv (.tmp 43), none⟩, ⟨(some 44), .ext (.tmp 39) 0, none⟩, ⟨(some 45), .ext (.tmp 39) 1, none⟩, ⟨(some 13), .alloc [(.slice none 0 0)], none⟩, ⟨none, .store 1 (.tmp 13) (.tmp 44), none⟩, ⟨(some 14), .mv (.tmp 45), none⟩])
 (.seq (.ops [⟨(some 47), .load true 3 (.tmp 8), none⟩, ⟨(some 48), .load true 1 (.tmp 11), none⟩, ⟨(some 49), .mv (.tmp 9), none⟩, ⟨(some 50), .call (.func 24) [(.tmp 47), (.tmp 48), (.tmp 49)], none⟩, ⟨(some 46), .mv (.tmp 50), none⟩, ⟨(some 51), .ext (.tmp 46) 0, none⟩, ⟨(some 52), .ext (.tmp 46) 1, none⟩, ⟨(some 15), .alloc [(.slice none 0 0)], none⟩, ⟨none, .store 1 (.tmp 15) (.tmp 51), none⟩, ⟨(some 16), .mv (.tmp 52), none⟩])
 (.seq (.seq (.ops [⟨(some 53), .mv (.tmp 12), none⟩, ⟨(some 54), .bin .neq (.tmp 53) (.const (.int .i64 0)), none⟩, ⟨(some 55), .mv (.tmp 54), none⟩, ⟨(some 56), .mv (.tmp 14), (some (55, false))⟩, ⟨(some 57), .bin .neq (.tmp 56) (.const (.int .i64 0)), (some (55, false))⟩, ⟨(some 58), .pick (.tmp 55) (.const (.bool true)) (.tmp 57), none⟩, ⟨(some 59), .mv (.tmp 58), none⟩, ⟨(some 60), .mv (.tmp 16), (some (59, false))⟩, ⟨(some 61), .bin .neq (.tmp 60) (.const (.int .i64 0)), (some (59, false))⟩, ⟨(some 62), .pick (.tmp 59) (.const (.bool true)) (.tmp 61), none⟩, ⟨(some 63), .mv (.tmp 62), none⟩, ⟨(some 64), .load true 1 (.tmp 11), (some (63, false))⟩, ⟨(some 65), .load true 1 (.tmp 13), (some (63, false))⟩, ⟨(some 66), .call (.func 28) [(.tmp 64), (.tmp 65)], (some (63, false))⟩, ⟨(some 67), .un .not (.tmp 66), (some (63, false))⟩, ⟨(some 68), .pick (.tmp 63) (.const (.bool true)) (.tmp 67), none⟩, ⟨(some 69), .mv (.tmp 68), none⟩, ⟨(some 70), .load true 1 (.tmp 11), (some (69, false))⟩, ⟨(some 71), .load true 1 (.tmp 15), (some (69, false))⟩, ⟨(some 72), .call (.func 28) [(.tmp 70), (.tmp 71)], (some (69, false))⟩, ⟨(some 73), .un .not (.tmp 72), (some (69, false))⟩, ⟨(some 74), .pick (.tmp 69) (.const (.bool true)) (.tmp 73), none⟩, ⟨(some 75), .mv (.tmp 74), none⟩, ⟨(some 76), .faddr 0 (.tmp 11), (some (75, false))⟩, ⟨(some 77), .load false 1 (.tmp 76), (some (75, false))⟩, ⟨(some 78), .len false (.tmp 77), (some (75, false))⟩, ⟨(some 79), .faddr 0 (.tmp 10), (some (75, false))⟩, ⟨(some 80), .load false 1 (.tmp 79), (some (75, false))⟩, ⟨(some 81), .len false (.tmp 80), (some (75, false))⟩, ⟨(some 82), .bin .neq (.tmp 78) (.tmp 81), (some (75, false))⟩, ⟨(some 83), .pick (.tmp 75) (.const (.bool true)) (.tmp 82), none⟩])
 (.cond (.tmp 83) (.seq (.ops [⟨(some 6), .mv (.const (.bool false)), none⟩])
 .ret)
 .skip))
 (.seq (.seq (.ops [⟨(some 17), .mv (.const (.int .i64 0)), none⟩])
 (.block 0 (.loop (.seq (.seq (.ops [⟨(some 84), .mv (.tmp 17), none⟩, ⟨(some 85), .faddr 0 (.tmp 10), none⟩, ⟨(some 86), .load false 1 (.tmp 85), none⟩, ⟨(some 87), .len false (.tmp 86), none⟩, ⟨(some 88), .bin .lss (.tmp 84) (.tmp 87), none⟩])
 (.cond (.tmp 88) .skip
 (.exit 0)))
 (.seq (.block 1 (.seq (.ops [⟨(some 92), .load true 3 (.tmp 8), none⟩, ⟨(some 93), .mv (.tmp 17), none⟩, ⟨(some 94), .call (.func 32) [(.tmp 92), (.tmp 93)], none⟩, ⟨(some 91), .mv (.tmp 94), none⟩, ⟨(some 95), .ext (.tmp 91) 0, none⟩, ⟨(some 96), .ext (.tmp 91) 1, none⟩, ⟨(some 97), .ext (.tmp 91) 2, none⟩, ⟨(some 18), .mv (.tmp 95), none⟩, ⟨(some 19), .mv (.tmp 96), none⟩, ⟨(some 20), .mv (.tmp 97), none⟩])
 (.seq (.ops [⟨(some 98), .faddr 0 (.tmp 10), none⟩, ⟨(some 99), .load false 1 (.tmp 98), none⟩, ⟨(some 100), .mv (.tmp 17), none⟩, ⟨(some 101), .iaddrS 2 (.tmp 99) (.tmp 100), none⟩, ⟨(some 102), .load true 2 (.tmp 101), none⟩, ⟨(some 21), .alloc [(.int .u64 0), (.int .i64 0)], none⟩, ⟨none, .store 2 (.tmp 21) (.tmp 102), none⟩])
 (.seq (.seq (.ops [⟨(some 103), .mv (.tmp 18), none⟩, ⟨(some 104), .bin .eql (.tmp 103) (.const (.int .i64 3)), none⟩, ⟨(some 105), .mv (.tmp 104), none⟩, ⟨(some 106), .mv (.tmp 19), (some (105, true))⟩, ⟨(some 107), .mv (.tmp 9), (some (105, true))⟩, ⟨(some 108), .bin .eql (.tmp 106) (.tmp 107), (some (105, true))⟩, ⟨(some 109), .pick (.tmp 105) (.tmp 108) (.const (.bool false)), none⟩])
 (.cond (.tmp 109) (.ops [⟨(some 110), .build [(.int .u64 0), (.int .i64 0)] [], none⟩, ⟨none, .store 2 (.tmp 21) (.tmp 110), none⟩])
 .skip))
 (.seq (.draw [⟨⟨(some 111), .faddr 0 (.tmp 11), none⟩, []⟩, ⟨⟨(some 112), .load false 1 (.tmp 111), none⟩, []⟩, ⟨⟨(some 113), .mv (.tmp 17), none⟩, []⟩, ⟨⟨(some 114), .iaddrS 2 (.tmp 112) (.tmp 113), none⟩, []⟩, ⟨⟨(some 115), .load true 2 (.tmp 114), none⟩, []⟩, ⟨⟨(some 116), .load true 2 (.tmp 21), none⟩, []⟩, ⟨⟨(some 117), .eqA true [.int, .int] (.tmp 115) (.tmp 116), none⟩, []⟩])
 (.cond (.tmp 117) (.seq (.ops [⟨(some 6), .mv (.const (.bool false)), none⟩])
 .ret)
 .skip))))))
 (.ops [⟨(some 89), .mv (.tmp 17), none⟩, ⟨(some 90), .bin .add (.tmp 89) (.const (.int .i64 1)), none⟩, ⟨(some 17), .mv (.tmp 90), none⟩]))))))
 (.seq (.ops [⟨(some 118), .mv (.tmp 7), none⟩, ⟨(some 6), .mv (.tmp 118), none⟩])
 .ret))))))))))),
 119, [.tmp 6]⟩
theorem lowlaw16WlogWipes : lowerFn Tryd.prog Tryd.f6 = some Llaw16WlogWipes := by kernel_rfl
noncomputable def Glaw16WlogWipes (B : OH) : Nat → Cs
  | 32 => V9 B
  | 9 => Vlaw16Conf B
  | 13 => Vlaw16Memory B
  | 8 => Vlaw16awake B
  | 12 => Vlaw16pick B
  | 28 => Vref03Same B
  | 24 => VwlogLay B
  | 26 => VwlogWipe B
  | _ => fun _ _ _ => none
theorem Glaw16WlogWipes_9 {B : OH} : Glaw16WlogWipes B 32 = V9 B := rfl
theorem Glaw16WlogWipes_law16Conf {B : OH} : Glaw16WlogWipes B 9 = Vlaw16Conf B := rfl
theorem Glaw16WlogWipes_law16Memory {B : OH} : Glaw16WlogWipes B 13 = Vlaw16Memory B := rfl
theorem Glaw16WlogWipes_law16awake {B : OH} : Glaw16WlogWipes B 8 = Vlaw16awake B := rfl
theorem Glaw16WlogWipes_law16pick {B : OH} : Glaw16WlogWipes B 12 = Vlaw16pick B := rfl
theorem Glaw16WlogWipes_ref03Same {B : OH} : Glaw16WlogWipes B 28 = Vref03Same B := rfl
theorem Glaw16WlogWipes_wlogLay {B : OH} : Glaw16WlogWipes B 24 = VwlogLay B := rfl
theorem Glaw16WlogWipes_wlogWipe {B : OH} : Glaw16WlogWipes B 26 = VwlogWipe B := rfl
theorem sGlaw16WlogWipes {w0 : World} {B : OH} : SoundG Tryd.prog w0 B { f := Glaw16WlogWipes B } := .of fun k => by
  unfold Glaw16WlogWipes
  split
  · exact .inr ⟨en9, sV9⟩
  · exact .inr ⟨enlaw16Conf, sVlaw16Conf⟩
  · exact .inr ⟨enlaw16Memory, sVlaw16Memory⟩
  · exact .inr ⟨enlaw16awake, sVlaw16awake⟩
  · exact .inr ⟨enlaw16pick, sVlaw16pick⟩
  · exact .inr ⟨enref03Same, sVref03Same⟩
  · exact .inr ⟨enwlogLay, sVwlogLay⟩
  · exact .inr ⟨enwlogWipe, sVwlogWipe⟩
  · exact .inl fun _ _ _ => rfl
theorem enlaw16WlogWipes : Enter Tryd.prog 6 := .of Tryd.func6 (by kernel_rfl) (by kernel_rfl)
noncomputable def Tlaw16WlogWipes (B : OH) : Cs := callF B { f := Glaw16WlogWipes B } 1000000 Llaw16WlogWipes
theorem sTlaw16WlogWipes {w0 : World} {B : OH} : SoundC Tryd.prog w0 B 6 (Tlaw16WlogWipes B) := callF_sound mixedOrders sGlaw16WlogWipes 1000000 Tryd.func6 lowlaw16WlogWipes
structure KWw (c q m x i : Nat) (ts : List Value) : Prop where
  l : ts.length = 119
  t7 : gt ts 7 = .bool true
  t8 : gt ts 8 = .pointer (some ⟨c, 0, none⟩)
  t9 : gt ts 9 = .int .i64 (q : Int)
  t10 : gt ts 10 = .pointer (some ⟨m, 0, none⟩)
  t11 : gt ts 11 = .pointer (some ⟨x, 0, none⟩)
  t17 : gt ts 17 = .int .i64 (i : Int)
def lbWw : LC := (.seq (.seq (.ops [⟨(some 84), .mv (.tmp 17), none⟩, ⟨(some 85), .faddr 0 (.tmp 10), none⟩, ⟨(some 86), .load false 1 (.tmp 85), none⟩, ⟨(some 87), .len false (.tmp 86), none⟩, ⟨(some 88), .bin .lss (.tmp 84) (.tmp 87), none⟩])
 (.cond (.tmp 88) .skip
 (.exit 0)))
 (.seq (.block 1 (.seq (.ops [⟨(some 92), .load true 3 (.tmp 8), none⟩, ⟨(some 93), .mv (.tmp 17), none⟩, ⟨(some 94), .call (.func 32) [(.tmp 92), (.tmp 93)], none⟩, ⟨(some 91), .mv (.tmp 94), none⟩, ⟨(some 95), .ext (.tmp 91) 0, none⟩, ⟨(some 96), .ext (.tmp 91) 1, none⟩, ⟨(some 97), .ext (.tmp 91) 2, none⟩, ⟨(some 18), .mv (.tmp 95), none⟩, ⟨(some 19), .mv (.tmp 96), none⟩, ⟨(some 20), .mv (.tmp 97), none⟩])
 (.seq (.ops [⟨(some 98), .faddr 0 (.tmp 10), none⟩, ⟨(some 99), .load false 1 (.tmp 98), none⟩, ⟨(some 100), .mv (.tmp 17), none⟩, ⟨(some 101), .iaddrS 2 (.tmp 99) (.tmp 100), none⟩, ⟨(some 102), .load true 2 (.tmp 101), none⟩, ⟨(some 21), .alloc [(.int .u64 0), (.int .i64 0)], none⟩, ⟨none, .store 2 (.tmp 21) (.tmp 102), none⟩])
 (.seq (.seq (.ops [⟨(some 103), .mv (.tmp 18), none⟩, ⟨(some 104), .bin .eql (.tmp 103) (.const (.int .i64 3)), none⟩, ⟨(some 105), .mv (.tmp 104), none⟩, ⟨(some 106), .mv (.tmp 19), (some (105, true))⟩, ⟨(some 107), .mv (.tmp 9), (some (105, true))⟩, ⟨(some 108), .bin .eql (.tmp 106) (.tmp 107), (some (105, true))⟩, ⟨(some 109), .pick (.tmp 105) (.tmp 108) (.const (.bool false)), none⟩])
 (.cond (.tmp 109) (.ops [⟨(some 110), .build [(.int .u64 0), (.int .i64 0)] [], none⟩, ⟨none, .store 2 (.tmp 21) (.tmp 110), none⟩])
 .skip))
 (.seq (.draw [⟨⟨(some 111), .faddr 0 (.tmp 11), none⟩, []⟩, ⟨⟨(some 112), .load false 1 (.tmp 111), none⟩, []⟩, ⟨⟨(some 113), .mv (.tmp 17), none⟩, []⟩, ⟨⟨(some 114), .iaddrS 2 (.tmp 112) (.tmp 113), none⟩, []⟩, ⟨⟨(some 115), .load true 2 (.tmp 114), none⟩, []⟩, ⟨⟨(some 116), .load true 2 (.tmp 21), none⟩, []⟩, ⟨⟨(some 117), .eqA true [.int, .int] (.tmp 115) (.tmp 116), none⟩, []⟩])
 (.cond (.tmp 117) (.seq (.ops [⟨(some 6), .mv (.const (.bool false)), none⟩])
 .ret)
 .skip))))))
 (.ops [⟨(some 89), .mv (.tmp 17), none⟩, ⟨(some 90), .bin .add (.tmp 89) (.const (.int .i64 1)), none⟩, ⟨(some 17), .mv (.tmp 90), none⟩])))
set_option maxHeartbeats 4000000 in
theorem loopWw {B : OH} {H : HL} {N : St} {vm vx : Value} {M : List C2} {kk p cc h c q m x : Nat} (hT : Tab B) (C : Cf kk p cc h) (hq : q < p) (hM : M.length = bs p h 5) (sm : SlR c2 2 B H vm M) (sx : SlR c2 2 B H vx (wiped M (lgA p h q) (LG p h))) (hN : good B H N) (bc : B c = none) (bm : B m = none) (bx : B x = none) (lc : lk H c = some (.cells [.int .i64 (kk : Int), .int .i64 (p : Int), .int .i64 (cc : Int)] 3)) (lm : lk H m = some (.cells [vm] 1)) (lx : lk H x = some (.cells [vx] 1)) {ts : List Value} (kp : KWw c q m x 0 ts) {F : Nat} (hF : 3000 + M.length + 1 ≤ F) :
    Ok (exec B { f := Glaw16WlogWipes B } F (LC.loop lbWw) ⟨ts, H, N⟩) (fun y s => y = .exit 0 ∧ ∃ i, KWw c q m x i s.t) := by
  have hlm := sm.len
  have hb := lgA_b (q := (q : Int)) C (M := M) ⟨by omega, hM⟩
  refine loop_rule (n0 := 3000) (fun w s => ∃ ts H' N', ∃ i : Nat, s = ⟨ts, H', N'⟩ ∧ KWw c q m x i ts ∧ good B H' N' ∧ Fr H H' ∧ i ≤ M.length ∧ w = M.length - i) _ ?_ M.length _ ⟨ts, H, N, 0, rfl, kp, hN, Fr.refl, by omega, rfl⟩ _ hF
  clear kp hF F ts hN N
  rintro z w s ⟨ts, H1, N1, i, rfl, kp, g, fk, hi, rfl⟩
  have hB := good_B g
  have hR := good_rdB g
  have hI := beqN g.1.1
  have hG : ∃ H N, good B H N := ⟨H1, N1, g⟩
  have lc1 := fk _ _ lc
  have lm1 := fk _ _ lm
  have lx1 := fk _ _ lx
  have rc := fun o n => rdB_none (o := o) (n := n) bc
  have rm := fun o n => rdB_none (o := o) (n := n) bm
  have rx := fun o n => rdB_none (o := o) (n := n) bx
  have nc := ne_N g lc1
  have nm := ne_N g lm1
  have nx := ne_N g lx1
  have hc1 : ((i + 1 : Nat) : Int) = (i : Int) + 1 := by omega
  by_cases hin : i < M.length
  case neg =>
    have h1' : ¬ (i : Int) < (M.length : Int) := by omega
    simp -implicitDefEqProofs (maxSteps := 10000000) (disch := omega) only [Tlaw16WlogWipes, Llaw16WlogWipes, Glaw16WlogWipes_9, V9_eq, Glaw16WlogWipes_law16Conf, Vlaw16Conf_eq, Glaw16WlogWipes_law16Memory, Glaw16WlogWipes_law16awake, Glaw16WlogWipes_law16pick, Vlaw16pick_eq, Glaw16WlogWipes_ref03Same, Glaw16WlogWipes_wlogLay, Glaw16WlogWipes_wlogWipe, hB, hR, hI, lbWw, kp.l, kp.t7, kp.t8, kp.t9, kp.t10, kp.t11, kp.t17, lenV_sl, Int.toNat_natCast, bft, btf, gtst, st_len, lm1, bm, rm, hlm, h1', pad, lightV, bt, bf, evs, gt, st, binV, arith, isSh, storeV, all1, idxAV, fieldV, faddrV, iaddrSV, iaddrAV, pickV, convV, unV, eqbV, eqpV, extV, mm2, mmV, nilckV, ress, res1, retV, Value.cells, reduceIte, reduceCtorEq, Int.reduceLT, Int.reduceLE, Int.reduceToNat, Int.reduceAdd, Int.reduceSub, Int.reduceMul, Int.reduceNeg, Nat.reduceMul, Nat.reduceAdd, Nat.reduceSub, Nat.reduceBEq, Nat.reduceEqDiff, Nat.reduceLT, Nat.reduceLeDiff, Int.reduceBEq, Int.reduceEq, Nat.reducePow, Int.reducePow, IntWalk.i64_in, IntKind.bits, eqAV, eqL, leafEq, andO, fillV, buildSV, Int.reduceGT, Int.reduceGE, Int.reduceBNe, IntWalk.u64_in, newsV_s, tassV, isnV, slcV, slcAV, slcTV, slcB, appNew, Option.bind_some, Option.bind_none, eqsV, lookV, mupdV, mdelV, mkM, ev1, ev2]
    refine ok_some (.inr ⟨by simp, rfl, i, ⟨?_, ?_, ?_, ?_, ?_, ?_, ?_⟩⟩)
    all_goals simp (maxSteps := 10000000) (disch := omega) only [kp.l, kp.t7, kp.t8, kp.t9, kp.t10, kp.t11, kp.t17, lenV_sl, Int.toNat_natCast, bft, btf, gtst, st_len, Nat.reduceAdd, Int.cast_ofNat_Int, cond_true, cond_false, Nat.reduceBEq, Nat.reduceLT, decide_true, beq_self_eq_true, if_true, if_false]
  have hin' : (i : Int) < (M.length : Int) := by omega
  have i0 : (0 : Int) ≤ (i : Int) := by omega
  have hwl := wiped_len M (lgA p h q) (LG p h)
  have hwa := wiped_at M (lgA p h q) (LG p h) i hb.1
  obtain ⟨ba, oa, ca, rfl, da, ra⟩ := sm.at (by omega)
  obtain ⟨bw, ow, cw, rfl, dw, rw_⟩ := sx.at (by rw [hwl]; omega)
  have r1 : rdO H1 B ba (oa + i * 2) 2 (rdB B ba (oa + i * 2) 2) = some [.int .u64 (M.getD i z2).w, .int .i64 (M.getD i z2).l] := (ra H1 fk i 0 2 z2 hin (by omega)).trans rfl
  have g2 : ∀ x y, good B ((N1.n 0, .cells [.int .u64 x, .int .i64 y] 2) :: H1) (sh N1) := fun x y => good_new g
  have f2 : ∀ x y, Fr H1 ((N1.n 0, .cells [.int .u64 x, .int .i64 y] 2) :: H1) := fun x y => fr_new g Fr.refl 0
  have r2 : ∀ x y, rdO ((N1.n 0, .cells [.int .u64 x, .int .i64 y] 2) :: H1) B bw (ow + i * 2) 2 (rdB B bw (ow + i * 2) 2) = some [.int .u64 ((wiped M (lgA p h q) (LG p h)).getD i z2).w, .int .i64 ((wiped M (lgA p h q) (LG p h)).getD i z2).l] := fun x y => (rw_ _ (fk.trans (f2 x y)) i 0 2 z2 (by rw [hwl]; omega) (by omega)).trans rfl
  rw [hwa] at r2
  obtain ⟨k, o, y, e9, hko, hk5, _, _⟩ := where_ hG hT C hq (a := i) (by omega)
  rw [hwl] at *
  by_cases hr : lgA p h q ≤ i ∧ i < lgA p h q + LG p h
  · rw [if_pos hr] at r2
    obtain ⟨rfl, rfl⟩ := hko.2 hr
    have c3 : (((3 : Nat) : Int) == 3) = true := rfl
    simp -implicitDefEqProofs (maxSteps := 10000000) (disch := omega) only [Tlaw16WlogWipes, Llaw16WlogWipes, Glaw16WlogWipes_9, V9_eq, Glaw16WlogWipes_law16Conf, Vlaw16Conf_eq, Glaw16WlogWipes_law16Memory, Glaw16WlogWipes_law16awake, Glaw16WlogWipes_law16pick, Vlaw16pick_eq, Glaw16WlogWipes_ref03Same, Glaw16WlogWipes_wlogLay, Glaw16WlogWipes_wlogWipe, hB, hR, hI, lbWw, kp.l, kp.t7, kp.t8, kp.t9, kp.t10, kp.t11, kp.t17, lenV_sl, Int.toNat_natCast, bft, btf, gtst, st_len, lc1, lm1, lx1, bc, rc, bm, rm, bx, rx, nc, nm, nx, hlm, hin, hin', i0, r1, r2, e9, c3, bxx, z2, pad, lightV, bt, bf, evs, gt, st, binV, arith, isSh, storeV, all1, idxAV, fieldV, faddrV, iaddrSV, iaddrAV, pickV, convV, unV, eqbV, eqpV, extV, mm2, mmV, nilckV, ress, res1, retV, Value.cells, reduceIte, reduceCtorEq, Int.reduceLT, Int.reduceLE, Int.reduceToNat, Int.reduceAdd, Int.reduceSub, Int.reduceMul, Int.reduceNeg, Nat.reduceMul, Nat.reduceAdd, Nat.reduceSub, Nat.reduceBEq, Nat.reduceEqDiff, Nat.reduceLT, Nat.reduceLeDiff, Int.reduceBEq, Int.reduceEq, Nat.reducePow, Int.reducePow, IntWalk.i64_in, IntKind.bits, eqAV, eqL, leafEq, andO, fillV, buildSV, Int.reduceGT, Int.reduceGE, Int.reduceBNe, IntWalk.u64_in, newsV_s, tassV, isnV, slcV, slcAV, slcTV, slcB, appNew, Option.bind_some, Option.bind_none, eqsV, lookV, mupdV, mdelV, mkM, ev1, ev2]
    refine ok_some (.inl ⟨rfl, M.length - (i + 1), by omega, _, _, _, i + 1, rfl, ⟨?_, ?_, ?_, ?_, ?_, ?_, ?_⟩, g2 _ _, fk.trans (f2 _ _), by omega, rfl⟩)
    all_goals simp (maxSteps := 10000000) (disch := omega) only [kp.l, kp.t7, kp.t8, kp.t9, kp.t10, kp.t11, kp.t17, lenV_sl, Int.toNat_natCast, bft, btf, gtst, st_len, hc1, Nat.reduceAdd, Int.cast_ofNat_Int, cond_true, cond_false, Nat.reduceBEq, Nat.reduceLT, decide_true, beq_self_eq_true, if_true, if_false]
  · rw [if_neg hr] at r2
    by_cases h3 : k = 3
    · have c3 : ((k : Int) == 3) = true := by rw [h3]; rfl
      have c4 : ((o : Int) == (q : Int)) = false := beqI fun h' => hr (hko.1 ⟨h3, by omega⟩)
      simp -implicitDefEqProofs (maxSteps := 10000000) (disch := omega) only [Tlaw16WlogWipes, Llaw16WlogWipes, Glaw16WlogWipes_9, V9_eq, Glaw16WlogWipes_law16Conf, Vlaw16Conf_eq, Glaw16WlogWipes_law16Memory, Glaw16WlogWipes_law16awake, Glaw16WlogWipes_law16pick, Vlaw16pick_eq, Glaw16WlogWipes_ref03Same, Glaw16WlogWipes_wlogLay, Glaw16WlogWipes_wlogWipe, hB, hR, hI, lbWw, kp.l, kp.t7, kp.t8, kp.t9, kp.t10, kp.t11, kp.t17, lenV_sl, Int.toNat_natCast, bft, btf, gtst, st_len, lc1, lm1, lx1, bc, rc, bm, rm, bx, rx, nc, nm, nx, hlm, hin, hin', i0, r1, r2, e9, c3, c4, bxx, pad, lightV, bt, bf, evs, gt, st, binV, arith, isSh, storeV, all1, idxAV, fieldV, faddrV, iaddrSV, iaddrAV, pickV, convV, unV, eqbV, eqpV, extV, mm2, mmV, nilckV, ress, res1, retV, Value.cells, reduceIte, reduceCtorEq, Int.reduceLT, Int.reduceLE, Int.reduceToNat, Int.reduceAdd, Int.reduceSub, Int.reduceMul, Int.reduceNeg, Nat.reduceMul, Nat.reduceAdd, Nat.reduceSub, Nat.reduceBEq, Nat.reduceEqDiff, Nat.reduceLT, Nat.reduceLeDiff, Int.reduceBEq, Int.reduceEq, Nat.reducePow, Int.reducePow, IntWalk.i64_in, IntKind.bits, eqAV, eqL, leafEq, andO, fillV, buildSV, Int.reduceGT, Int.reduceGE, Int.reduceBNe, IntWalk.u64_in, newsV_s, tassV, isnV, slcV, slcAV, slcTV, slcB, appNew, Option.bind_some, Option.bind_none, eqsV, lookV, mupdV, mdelV, mkM, ev1, ev2]
      refine ok_some (.inl ⟨rfl, M.length - (i + 1), by omega, _, _, _, i + 1, rfl, ⟨?_, ?_, ?_, ?_, ?_, ?_, ?_⟩, g2 _ _, fk.trans (f2 _ _), by omega, rfl⟩)
      all_goals simp (maxSteps := 10000000) (disch := omega) only [kp.l, kp.t7, kp.t8, kp.t9, kp.t10, kp.t11, kp.t17, lenV_sl, Int.toNat_natCast, bft, btf, gtst, st_len, hc1, Nat.reduceAdd, Int.cast_ofNat_Int, cond_true, cond_false, Nat.reduceBEq, Nat.reduceLT, decide_true, beq_self_eq_true, if_true, if_false]
    · have c3 : ((k : Int) == 3) = false := beqI (by omega)
      simp -implicitDefEqProofs (maxSteps := 10000000) (disch := omega) only [Tlaw16WlogWipes, Llaw16WlogWipes, Glaw16WlogWipes_9, V9_eq, Glaw16WlogWipes_law16Conf, Vlaw16Conf_eq, Glaw16WlogWipes_law16Memory, Glaw16WlogWipes_law16awake, Glaw16WlogWipes_law16pick, Vlaw16pick_eq, Glaw16WlogWipes_ref03Same, Glaw16WlogWipes_wlogLay, Glaw16WlogWipes_wlogWipe, hB, hR, hI, lbWw, kp.l, kp.t7, kp.t8, kp.t9, kp.t10, kp.t11, kp.t17, lenV_sl, Int.toNat_natCast, bft, btf, gtst, st_len, lc1, lm1, lx1, bc, rc, bm, rm, bx, rx, nc, nm, nx, hlm, hin, hin', i0, r1, r2, e9, c3, bxx, pad, lightV, bt, bf, evs, gt, st, binV, arith, isSh, storeV, all1, idxAV, fieldV, faddrV, iaddrSV, iaddrAV, pickV, convV, unV, eqbV, eqpV, extV, mm2, mmV, nilckV, ress, res1, retV, Value.cells, reduceIte, reduceCtorEq, Int.reduceLT, Int.reduceLE, Int.reduceToNat, Int.reduceAdd, Int.reduceSub, Int.reduceMul, Int.reduceNeg, Nat.reduceMul, Nat.reduceAdd, Nat.reduceSub, Nat.reduceBEq, Nat.reduceEqDiff, Nat.reduceLT, Nat.reduceLeDiff, Int.reduceBEq, Int.reduceEq, Nat.reducePow, Int.reducePow, IntWalk.i64_in, IntKind.bits, eqAV, eqL, leafEq, andO, fillV, buildSV, Int.reduceGT, Int.reduceGE, Int.reduceBNe, IntWalk.u64_in, newsV_s, tassV, isnV, slcV, slcAV, slcTV, slcB, appNew, Option.bind_some, Option.bind_none, eqsV, lookV, mupdV, mdelV, mkM, ev1, ev2]
      refine ok_some (.inl ⟨rfl, M.length - (i + 1), by omega, _, _, _, i + 1, rfl, ⟨?_, ?_, ?_, ?_, ?_, ?_, ?_⟩, g2 _ _, fk.trans (f2 _ _), by omega, rfl⟩)
      all_goals simp (maxSteps := 10000000) (disch := omega) only [kp.l, kp.t7, kp.t8, kp.t9, kp.t10, kp.t11, kp.t17, lenV_sl, Int.toNat_natCast, bft, btf, gtst, st_len, hc1, Nat.reduceAdd, Int.cast_ofNat_Int, cond_true, cond_false, Nat.reduceBEq, Nat.reduceLT, decide_true, beq_self_eq_true, if_true, if_false]
set_option maxHeartbeats 8000000 in
theorem lvWipes {B : OH} {H : HL} {N : St} {vr : Value} {raw : List Q3} {a b c x : Int} (hT : Tab B) (hN : good B H N) (hr : SlR q3 3 B H vr raw) (hrs : Q3s raw) (ha : i64R a) (hb : i64R b) (hc : i64R c) (hx : i64R x) : ∃ H' N', Tlaw16WlogWipes B [.agg #[.int .i64 a, .int .i64 b, .int .i64 c], vr, .int .i64 x] H N = some (.ret (.bool true), H', N') := by
  have hB := good_B hN
  have hR := good_rdB hN
  have hI := beqN hN.1.1
  have hG : ∃ H N, good B H N := ⟨H, N, hN⟩
  obtain ⟨kk, p, cc, h, ek, ep, ec, C, hp, hcc⟩ := conf_cf a b c
  have eC := fConf hG ha hb hc
  rw [ek, ep, ec] at eC
  have ePk := fpick hG x (p : Int) hx (by have := C.p; omega)
  have kPk := pk_b (x := x) (n := (p : Int)) (by have := C.p; omega)
  obtain ⟨q, hq⟩ : ∃ q : Nat, pk x (p : Int) = (q : Int) := ⟨_, (Int.toNat_of_nonneg kPk.1).symm⟩
  rw [hq] at ePk kPk
  have hqp : q < p := by omega
  have g1 : good B ((N.n 0, .cells [.int .i64 a, .int .i64 b, .int .i64 c] 3) :: H) (sh N) := good_new (N := N) hN
  have f1 : Fr H ((N.n 0, .cells [.int .i64 a, .int .i64 b, .int .i64 c] 3) :: H) := fr_new (N := N) hN Fr.refl 0
  have hr := hr.mono f1
  have q_n : lk ((N.n 0, .cells [.int .i64 a, .int .i64 b, .int .i64 c] 3) :: H) (N.n 0) = some (.cells [.int .i64 a, .int .i64 b, .int .i64 c] 3) := lk_top
  have b_n : B (N.n 0) = none := good_B hN 0
  have rb_n := fun o n => rdB_none (o := o) (n := n) b_n
  obtain ⟨H2, N2, e2, g2, f2⟩ := fAwake hT g1
  have q_n := f2 _ _ q_n
  have hr := hr.mono f2
  have q_n2 := q_n
  have m_n2 := ne_N g2 q_n2
  have hB2 := good_B g2
  have hR2 := good_rdB g2
  have hI2 := beqN g2.1.1
  have g3 : good B ((N2.n 0, .cells [.int .i64 (kk : Int), .int .i64 (p : Int), .int .i64 (cc : Int)] 3) :: H2) (sh N2) := good_new (N := N2) g2
  have f3 : Fr H2 ((N2.n 0, .cells [.int .i64 (kk : Int), .int .i64 (p : Int), .int .i64 (cc : Int)] 3) :: H2) := fr_new (N := N2) g2 Fr.refl 0
  have q_n := f3 _ _ q_n
  have hr := hr.mono f3
  have q_c : lk ((N2.n 0, .cells [.int .i64 (kk : Int), .int .i64 (p : Int), .int .i64 (cc : Int)] 3) :: H2) (N2.n 0) = some (.cells [.int .i64 (kk : Int), .int .i64 (p : Int), .int .i64 (cc : Int)] 3) := lk_top
  have b_c : B (N2.n 0) = none := good_B g2 0
  have rb_c := fun o n => rdB_none (o := o) (n := n) b_c
  obtain ⟨vM, H4, N4, M, e4, g4, f4, sm, hM, hMs⟩ := fMemory C hp g3 hr hrs
  have q_n := f4 _ _ q_n
  have q_c := f4 _ _ q_c
  have hr := hr.mono f4
  have q_n4 := q_n
  have m_n4 := ne_N g4 q_n4
  have q_c4 := q_c
  have m_c4 := ne_N g4 q_c4
  have hB4 := good_B g4
  have hR4 := good_rdB g4
  have hI4 := beqN g4.1.1
  have sm := sm.wh c2_len
  have hb := lgA_b (q := (q : Int)) C (M := M) ⟨by omega, hM⟩
  obtain ⟨wE1, wR1, wE2, wR2⟩ := wipe_2 (p := p) (h := h) (q := (q : Int)) (M := M) ⟨by omega, hM⟩ hb.1
  obtain ⟨lE, lR⟩ := lay_wiped (p := p) (h := h) (q := (q : Int)) (M := M) ⟨by omega, hM⟩ hb.1
  have hws := wiped_s hMs (lgA p h (q : Int)) (LG p h)
  have hwl := wiped_len M (lgA p h (q : Int)) (LG p h)
  have g5 : good B ((N4.n 0, .cells [vM] 1) :: H4) (sh N4) := good_new (N := N4) g4
  have f5 : Fr H4 ((N4.n 0, .cells [vM] 1) :: H4) := fr_new (N := N4) g4 Fr.refl 0
  have q_n := f5 _ _ q_n
  have q_c := f5 _ _ q_c
  have hr := hr.mono f5
  have sm := sm.mono f5
  have q_m : lk ((N4.n 0, .cells [vM] 1) :: H4) (N4.n 0) = some (.cells [vM] 1) := lk_top
  have b_m : B (N4.n 0) = none := good_B g4 0
  have rb_m := fun o n => rdB_none (o := o) (n := n) b_m
  obtain ⟨vX, H6, N6, e6, g6, f6, sx⟩ := fWipe hT C g5 sm (by omega) (q := (q : Int))
  have q_n := f6 _ _ q_n
  have q_c := f6 _ _ q_c
  have q_m := f6 _ _ q_m
  have hr := hr.mono f6
  have sm := sm.mono f6
  have q_n6 := q_n
  have m_n6 := ne_N g6 q_n6
  have q_c6 := q_c
  have m_c6 := ne_N g6 q_c6
  have q_m6 := q_m
  have m_m6 := ne_N g6 q_m6
  have hB6 := good_B g6
  have hR6 := good_rdB g6
  have hI6 := beqN g6.1.1
  rw [wE1, wR1] at *
  have sx := sx.wh c2_len
  have g7 : good B ((N6.n 0, .cells [vX] 1) :: H6) (sh N6) := good_new (N := N6) g6
  have f7 : Fr H6 ((N6.n 0, .cells [vX] 1) :: H6) := fr_new (N := N6) g6 Fr.refl 0
  have q_n := f7 _ _ q_n
  have q_c := f7 _ _ q_c
  have q_m := f7 _ _ q_m
  have hr := hr.mono f7
  have sm := sm.mono f7
  have sx := sx.mono f7
  have q_x : lk ((N6.n 0, .cells [vX] 1) :: H6) (N6.n 0) = some (.cells [vX] 1) := lk_top
  have b_x : B (N6.n 0) = none := good_B g6 0
  have rb_x := fun o n => rdB_none (o := o) (n := n) b_x
  obtain ⟨vY, H8, N8, e8, g8, f8, sy⟩ := fWipe hT C g7 sx (by omega) (q := (q : Int))
  have q_n := f8 _ _ q_n
  have q_c := f8 _ _ q_c
  have q_m := f8 _ _ q_m
  have q_x := f8 _ _ q_x
  have hr := hr.mono f8
  have sm := sm.mono f8
  have sx := sx.mono f8
  have q_n8 := q_n
  have m_n8 := ne_N g8 q_n8
  have q_c8 := q_c
  have m_c8 := ne_N g8 q_c8
  have q_m8 := q_m
  have m_m8 := ne_N g8 q_m8
  have q_x8 := q_x
  have m_x8 := ne_N g8 q_x8
  have hB8 := good_B g8
  have hR8 := good_rdB g8
  have hI8 := beqN g8.1.1
  rw [wE2, wR2] at *
  have sy := sy.wh c2_len
  have g9 : good B ((N8.n 0, .cells [vY] 1) :: H8) (sh N8) := good_new (N := N8) g8
  have f9 : Fr H8 ((N8.n 0, .cells [vY] 1) :: H8) := fr_new (N := N8) g8 Fr.refl 0
  have q_n := f9 _ _ q_n
  have q_c := f9 _ _ q_c
  have q_m := f9 _ _ q_m
  have q_x := f9 _ _ q_x
  have hr := hr.mono f9
  have sm := sm.mono f9
  have sx := sx.mono f9
  have sy := sy.mono f9
  have q_y : lk ((N8.n 0, .cells [vY] 1) :: H8) (N8.n 0) = some (.cells [vY] 1) := lk_top
  have b_y : B (N8.n 0) = none := good_B g8 0
  have rb_y := fun o n => rdB_none (o := o) (n := n) b_y
  obtain ⟨vZ, H10, N10, e10, g10, f10, sz⟩ := fLay hT C g9 sx (by omega) hws (q := (q : Int))
  have q_n := f10 _ _ q_n
  have q_c := f10 _ _ q_c
  have q_m := f10 _ _ q_m
  have q_x := f10 _ _ q_x
  have q_y := f10 _ _ q_y
  have hr := hr.mono f10
  have sm := sm.mono f10
  have sx := sx.mono f10
  have sy := sy.mono f10
  have q_n10 := q_n
  have m_n10 := ne_N g10 q_n10
  have q_c10 := q_c
  have m_c10 := ne_N g10 q_c10
  have q_m10 := q_m
  have m_m10 := ne_N g10 q_m10
  have q_x10 := q_x
  have m_x10 := ne_N g10 q_x10
  have q_y10 := q_y
  have m_y10 := ne_N g10 q_y10
  have hB10 := good_B g10
  have hR10 := good_rdB g10
  have hI10 := beqN g10.1.1
  rw [lE, lR] at *
  have sz := sz.wh c2_len
  have g11 : good B ((N10.n 0, .cells [vZ] 1) :: H10) (sh N10) := good_new (N := N10) g10
  have f11 : Fr H10 ((N10.n 0, .cells [vZ] 1) :: H10) := fr_new (N := N10) g10 Fr.refl 0
  have q_n := f11 _ _ q_n
  have q_c := f11 _ _ q_c
  have q_m := f11 _ _ q_m
  have q_x := f11 _ _ q_x
  have q_y := f11 _ _ q_y
  have hr := hr.mono f11
  have sm := sm.mono f11
  have sx := sx.mono f11
  have sy := sy.mono f11
  have sz := sz.mono f11
  have q_z : lk ((N10.n 0, .cells [vZ] 1) :: H10) (N10.n 0) = some (.cells [vZ] 1) := lk_top
  have b_z : B (N10.n 0) = none := good_B g10 0
  have rb_z := fun o n => rdB_none (o := o) (n := n) b_z
  obtain ⟨H12, N12, e12, g12, f12⟩ := sameM g11 (sx.rd c2_len) (sy.rd c2_len) (by omega)
  have q_n := f12 _ _ q_n
  have q_c := f12 _ _ q_c
  have q_m := f12 _ _ q_m
  have q_x := f12 _ _ q_x
  have q_y := f12 _ _ q_y
  have q_z := f12 _ _ q_z
  have hr := hr.mono f12
  have sm := sm.mono f12
  have sx := sx.mono f12
  have sy := sy.mono f12
  have sz := sz.mono f12
  have q_n12 := q_n
  have m_n12 := ne_N g12 q_n12
  have q_c12 := q_c
  have m_c12 := ne_N g12 q_c12
  have q_m12 := q_m
  have m_m12 := ne_N g12 q_m12
  have q_x12 := q_x
  have m_x12 := ne_N g12 q_x12
  have q_y12 := q_y
  have m_y12 := ne_N g12 q_y12
  have q_z12 := q_z
  have m_z12 := ne_N g12 q_z12
  have hB12 := good_B g12
  have hR12 := good_rdB g12
  have hI12 := beqN g12.1.1
  rw [decide_eq_true rfl] at e12
  obtain ⟨H13, N13, e13, g13, f13⟩ := sameM g12 (sx.rd c2_len) (sz.rd c2_len) (by omega)
  have q_n := f13 _ _ q_n
  have q_c := f13 _ _ q_c
  have q_m := f13 _ _ q_m
  have q_x := f13 _ _ q_x
  have q_y := f13 _ _ q_y
  have q_z := f13 _ _ q_z
  have hr := hr.mono f13
  have sm := sm.mono f13
  have sx := sx.mono f13
  have sy := sy.mono f13
  have sz := sz.mono f13
  have q_n13 := q_n
  have m_n13 := ne_N g13 q_n13
  have q_c13 := q_c
  have m_c13 := ne_N g13 q_c13
  have q_m13 := q_m
  have m_m13 := ne_N g13 q_m13
  have q_x13 := q_x
  have m_x13 := ne_N g13 q_x13
  have q_y13 := q_y
  have m_y13 := ne_N g13 q_y13
  have q_z13 := q_z
  have m_z13 := ne_N g13 q_z13
  have hB13 := good_B g13
  have hR13 := good_rdB g13
  have hI13 := beqN g13.1.1
  rw [decide_eq_true rfl] at e13
  have hlx := (sx.rd c2_len).len
  have hly := (sm.rd c2_len).len
  rw [hwl] at hlx
  simp -implicitDefEqProofs (maxSteps := 10000000) (disch := omega) only [Tlaw16WlogWipes, Llaw16WlogWipes, Glaw16WlogWipes_9, V9_eq, Glaw16WlogWipes_law16Conf, Vlaw16Conf_eq, Glaw16WlogWipes_law16Memory, Glaw16WlogWipes_law16awake, Glaw16WlogWipes_law16pick, Vlaw16pick_eq, Glaw16WlogWipes_ref03Same, Glaw16WlogWipes_wlogLay, Glaw16WlogWipes_wlogWipe, hB, hR, hI, lenV_sl, Int.toNat_natCast, bft, btf, gtst, st_len, eC, ePk, b_n, rb_n, q_n2, m_n2, e2, hB2, hR2, hI2, b_c, rb_c, q_n4, m_n4, q_c4, m_c4, e4, hB4, hR4, hI4, b_m, rb_m, q_n6, m_n6, q_c6, m_c6, q_m6, m_m6, e6, hB6, hR6, hI6, b_x, rb_x, q_n8, m_n8, q_c8, m_c8, q_m8, m_m8, q_x8, m_x8, e8, hB8, hR8, hI8, b_y, rb_y, q_n10, m_n10, q_c10, m_c10, q_m10, m_m10, q_x10, m_x10, q_y10, m_y10, e10, hB10, hR10, hI10, b_z, rb_z, q_n12, m_n12, q_c12, m_c12, q_m12, m_m12, q_x12, m_x12, q_y12, m_y12, q_z12, m_z12, e12, hB12, hR12, hI12, q_n13, m_n13, q_c13, m_c13, q_m13, m_m13, q_x13, m_x13, q_y13, m_y13, q_z13, m_z13, e13, hB13, hR13, hI13, hlx, hly, all1_slw sm, all1_slw sx, all1_slw sy, all1_slw sz, bne_self_eq_false, pad, lightV, bt, bf, evs, gt, st, binV, arith, isSh, storeV, all1, idxAV, fieldV, faddrV, iaddrSV, iaddrAV, pickV, convV, unV, eqbV, eqpV, extV, mm2, mmV, nilckV, ress, res1, retV, Value.cells, reduceIte, reduceCtorEq, Int.reduceLT, Int.reduceLE, Int.reduceToNat, Int.reduceAdd, Int.reduceSub, Int.reduceMul, Int.reduceNeg, Nat.reduceMul, Nat.reduceAdd, Nat.reduceSub, Nat.reduceBEq, Nat.reduceEqDiff, Nat.reduceLT, Nat.reduceLeDiff, Int.reduceBEq, Int.reduceEq, Nat.reducePow, Int.reducePow, IntWalk.i64_in, IntKind.bits, eqAV, eqL, leafEq, andO, fillV, buildSV, Int.reduceGT, Int.reduceGE, Int.reduceBNe, IntWalk.u64_in, newsV_s, tassV, isnV, slcV, slcAV, slcTV, slcB, appNew, Option.bind_some, Option.bind_none, eqsV, lookV, mupdV, mdelV, mkM, ev1, ev2]
  generalize hX : exec B _ _ (LC.loop _) _ = o
  obtain ⟨y, ⟨ts, H3, N3⟩, rfl, rfl, i, kp⟩ := (show Ok o _ by rw [← hX]; exact loopWw hT C hqp hM (sm.rd c2_len) (sx.rd c2_len) g13 b_c b_m b_x q_c q_m q_x ⟨rfl, rfl, rfl, rfl, rfl, rfl, rfl⟩ (by omega))
  simp only at kp
  simp -implicitDefEqProofs (maxSteps := 10000000) (disch := omega) only [Tlaw16WlogWipes, Llaw16WlogWipes, Glaw16WlogWipes_9, V9_eq, Glaw16WlogWipes_law16Conf, Vlaw16Conf_eq, Glaw16WlogWipes_law16Memory, Glaw16WlogWipes_law16awake, Glaw16WlogWipes_law16pick, Vlaw16pick_eq, Glaw16WlogWipes_ref03Same, Glaw16WlogWipes_wlogLay, Glaw16WlogWipes_wlogWipe, hB, hR, hI, kp.l, kp.t7, kp.t8, kp.t9, kp.t10, kp.t11, kp.t17, lenV_sl, Int.toNat_natCast, bft, btf, gtst, st_len, pad, lightV, bt, bf, evs, gt, st, binV, arith, isSh, storeV, all1, idxAV, fieldV, faddrV, iaddrSV, iaddrAV, pickV, convV, unV, eqbV, eqpV, extV, mm2, mmV, nilckV, ress, res1, retV, Value.cells, reduceIte, reduceCtorEq, Int.reduceLT, Int.reduceLE, Int.reduceToNat, Int.reduceAdd, Int.reduceSub, Int.reduceMul, Int.reduceNeg, Nat.reduceMul, Nat.reduceAdd, Nat.reduceSub, Nat.reduceBEq, Nat.reduceEqDiff, Nat.reduceLT, Nat.reduceLeDiff, Int.reduceBEq, Int.reduceEq, Nat.reducePow, Int.reducePow, IntWalk.i64_in, IntKind.bits, eqAV, eqL, leafEq, andO, fillV, buildSV, Int.reduceGT, Int.reduceGE, Int.reduceBNe, IntWalk.u64_in, newsV_s, tassV, isnV, slcV, slcAV, slcTV, slcB, appNew, Option.bind_some, Option.bind_none, eqsV, lookV, mupdV, mdelV, mkM, ev1, ev2]
  exact ⟨_, _, rfl⟩
end Go.Proofs.YtfhiplfagejfoaaDoor
namespace Go.Proofs.YtfhiplfagejfoaaDoor
open Go.Proofs.YtfhiplfagejfoaaDoor.K Go.ChangeShapes Go.WideShapes Go.ChangeAt Go.RowKit
set_option maxRecDepth 100000
set_option linter.unusedSimpArgs false
set_option linter.unusedVariables false

theorem gObj : Tryd.prog.globalNamed "whitewash/region.objects" = some 0 := by kernel_rfl
theorem gObjT : (Tryd.prog.globals[0]?).map (·.type) = some 129 := by kernel_rfl
theorem leafsObj : leafs Tryd.prog 12 129 = some [.int .i64, .int .i64, .int .i64, .int .i64, .int .i64, .int .i64, .int .i64, .int .i64, .int .i64, .int .i64, .int .i64, .int .i64] := by kernel_rfl
theorem tab {W : World} (h : laidMetH Tryd.prog Rows.wlogWipesRow.laid W) : Tab (startB W) := by
  obtain ⟨ps, hv, _⟩ := laidMet_of_H (by rfl) h
  obtain ⟨a1, e1, f1, h1, l1⟩ := laid_cells hv (n := "whitewash/region.objects") (x := Rows.laid_whitewash_region_objects) (by simp [Rows.wlogWipesRow]) 12 gObj gObjT leafsObj
  have hw : rdB (startB W) 0 0 12 = some OBJ := rdB_whole h1 l1 (by rfl)
  intro i hi
  have := rdB_sub (i := i * 2) (k := 2) hw (by omega)
  rwa [Nat.zero_add] at this
namespace wlogWipes
theorem own : ownKnob Tryd.prog.godebug = none := by kernel_rfl
theorem laidOut : laidOutB Tryd.prog = true := by kernel_rfl
theorem typesOk : (Tryd.f6.params.toList.all fun t => Tryd.prog.readableRec t && decide (t < Tryd.prog.types.size)) = true := by kernel_rfl
theorem contract (H : Type) (enc : TypeId × Value → H) (W : World) (base : Nat) (args : Array Value) (ds gs : List (DataW H)) (before : List MemPlace)
    (hval : ∀ (j : Nat) t v, Tryd.f6.params[j]? = some t → args[j]? = some v → Value.okWide Tryd.prog W .any base t v)
    (hW : DataW.Whole enc Tryd.prog Tryd.f6.params.toList Rows.wlogWipesSpec.vars false W args.toList ds gs before) (hL : laidMetH Tryd.prog Rows.wlogWipesRow.laid W) :
    Calls Tryd.prog 6 args W fun e W' => ∃ v, e = .returned v ∧ Rows.wlogWipesSpec.post enc Tryd.prog Tryd.f6 false true false false W args v W' := by
  have hW' := hW
  obtain ⟨p, q, hA0, hV, hpq, hfz, hnd⟩ := hW
  have hA : DataW.TrodAll enc Tryd.prog W 0 (fun _ => true) true Tryd.f6.params.toList args.toList ds p := hA0
  rw [Tryd.params6] at hA hval
  obtain ⟨v0, vs0, d0, ds0, p0, q0, hargs, rfl, rfl, h0, r0⟩ := trodAll_cons hA
  obtain ⟨v1, vs1, d1, ds1, p1, q1, rfl, rfl, rfl, h1, r1⟩ := trodAll_cons r0
  obtain ⟨v2, vs2, d2, ds2, p2, q2, rfl, rfl, rfl, h2, r2⟩ := trodAll_cons r1
  obtain ⟨rfl, rfl, rfl⟩ := trodAll_nil r2
  obtain rfl : args = #[v0, v1, v2] := by apply Array.ext'; simpa using hargs
  obtain ⟨rfl, rfl⟩ := trodVars_none hV
  obtain ⟨m0, rfl, k0⟩ := open_flat (P := Tryd.prog) 20 (show aggB Tryd.prog 22 = some true by kernel_rfl) (show leafs Tryd.prog 20 22 = some [.int .i64, .int .i64, .int .i64] by kernel_rfl) (hval 0 22 v0 rfl rfl) h0
  obtain ⟨x0_0, m0_0, rfl, w0_0, k0_1⟩ := k0.int
  have b0_0 := i64_wf w0_0
  obtain ⟨x0_1, m0_1, rfl, w0_1, k0_2⟩ := k0_1.int
  have b0_1 := i64_wf w0_1
  obtain ⟨x0_2, m0_2, rfl, w0_2, k0_3⟩ := k0_2.int
  have b0_2 := i64_wf w0_2
  obtain rfl := k0_3.none
  have s1 := open_flats (P := Tryd.prog) 20 Tryd.underlying29 (show leafs Tryd.prog 20 22 = some [.int .i64, .int .i64, .int .i64] by kernel_rfl) (show Tryd.prog.cellsOf 22 = 3 by kernel_rfl) (by decide) (hval 1 29 v1 rfl rfl) h1
  obtain ⟨x2, rfl, rfl, rfl, w2⟩ := open_int Tryd.underlying3 (hval 2 3 v2 rfl rfl) h2
  have b2 := i64_wf w2
  refine law_post laidOut (fun t ht => by simpa using List.all_eq_true.1 typesOk t ht) rfl (show Tryd.f6.resultTypes = #[4] by rfl) Tryd.underlying4 hW' rfl rfl rfl ?_
  obtain ⟨w, hw, hb⟩ := three_open s1
  have hs := callF_sound (w0 := W) (B := startB W) mixedOrders sGlaw16WlogWipes 1000000 Tryd.func6 lowlaw16WlogWipes
  exact law_calls hs (args := [.agg #[.int .i64 x0_0, .int .i64 x0_1, .int .i64 x0_2], v1, .int .i64 x2]) fun N hN => lvWipes (tab hL) hN (hw.rd q3_len) hb b0_0 b0_1 b0_2 b2

noncomputable def laidWorld (os : Os) : World := laidW Tryd.prog os [(0, OBJ)]
theorem laid_met (os : Os) : laidMet Tryd.prog Rows.wlogWipesRow.laid ((laidWorld os).forCall (fun _ _ => 0) ⟨#[], #[.agg #[.int .i64 0, .int .i64 0, .int .i64 0], .slice none 0 0, .int .i64 0], []⟩).memory :=
  laidMet_of_run' 16 (by kernel_rfl) (by kernel_rfl)
theorem reads (os : Os) {H : Type} (enc : TypeId × Value → H) : ∃ places, DataW.whole enc Tryd.prog ((laidWorld os).forCall (fun _ _ => 0) ⟨#[], #[.agg #[.int .i64 0, .int .i64 0, .int .i64 0], .slice none 0 0, .int .i64 0], []⟩).memory Tryd.f6.params.toList Rows.wlogWipesSpec.vars false (#[.agg #[.int .i64 0, .int .i64 0, .int .i64 0], .slice none 0 0, .int .i64 0] : Array Value).toList 16 = some ([.agg [.lit (.int .i64 0), .lit (.int .i64 0), .lit (.int .i64 0)], .nil, .lit (.int .i64 0)], [], places) :=
  ⟨[], by kernel_rfl⟩
theorem lifted (os : Os) (started : os.Started) (H : Type) (enc : TypeId × Value → H) (F : Stop.Interp) :
    ReturnsInHanded {} Tryd.checked os 6 .any ((OpenSpec.ofChange Rows.wlogWipesSpec).preRow enc Tryd.prog Tryd.f6 Rows.wlogWipesRow.domain false Rows.wlogWipesRow.laid) (((OpenSpec.ofChange Rows.wlogWipesSpec).at F).post enc Tryd.prog Tryd.f6 false true false false) := by
  obtain ⟨places, hx⟩ := reads os enc
  refine returnsInHanded_of_row (C := Tryd.checked) (s := OpenSpec.ofChange Rows.wlogWipesSpec) own started (by kernel_rfl) Tryd.func6
    (witness_row_at (enc := enc) (C := Tryd.checked) false (laidWorld os) #[.agg #[.int .i64 0, .int .i64 0, .int .i64 0], .slice none 0 0, .int .i64 0] rfl (by kernel_rfl) (by kernel_rfl) (by kernel_rfl)
      (OpenSpec.preRow_of_cond 16 hx (by kernel_rfl) (fun k hk => by cases hk) (by kernel_rfl) (laid_met os))) ?_
  intro W base args ds gs before hval hW _ _ _ hL _ _
  exact contract H enc W base args ds gs before hval hW hL
theorem said : Rows.WlogWipesSaid :=
  OpenClaim.holds_of_cond 6 Tryd.f6 rfl rfl rfl rfl rfl rfl rfl ⟨rfl, rfl, rfl, rfl, rfl⟩ rfl rfl rfl rfl rfl (by kernel_rfl) Tryd.func6 (by kernel_rfl)
    (of_decide_eq_true (by kernel_rfl)) (by unfold Func.isWrapper; first | (rw [if_pos (by decide +kernel)]; kernel_rfl) | (rw [if_neg (by decide +kernel)]; exact ⟨rfl, rfl⟩))
    (fun os started H enc _ F => by rw [OpenClaim.pre_eq_preRow]; exact lifted os started H enc F)
theorem plain (f : FuncId) (fn : Func) (hf : Tryd.pinned.checked.prog.funcNamed "whitewash/whitewashlaw16.WlogWipes" = some f) (hfn : Tryd.pinned.checked.prog.funcs[f]? = some fn) :
    true = Tryd.pinned.checked.prog.looks [] ∧ ∀ (j : Nat) t, fn.params[j]? = some t → Tryd.pinned.checked.prog.wantsStandIn t = false := by
  obtain rfl : f = 6 := Option.some.inj ((show Tryd.prog.funcNamed "whitewash/whitewashlaw16.WlogWipes" = some 6 by kernel_rfl).symm.trans hf) |>.symm
  obtain rfl : fn = Tryd.f6 := (Option.some.inj (Tryd.func6.symm.trans hfn)).symm
  refine ⟨by kernel_rfl, fun j t ht => ?_⟩
  have hall : (Tryd.f6.params.toList.all fun t => !Tryd.prog.wantsStandIn t) = true := by kernel_rfl
  have := List.all_eq_true.1 hall t (by simpa using Array.mem_of_getElem? ht)
  show Tryd.prog.wantsStandIn t = false
  simpa using this
theorem card : Rows.WlogWipesCardSaid :=
  Claim7.holds_tied_plain_at .later [] _ _ _ _ said (fun _ h => by cases h) (by kernel_rfl) (fun _ h => by cases h) wlogWipes_row_tie rfl ⟨rfl, rfl⟩ (by kernel_rfl) rfl plain (by kernel_rfl)
end wlogWipes
end Go.Proofs.YtfhiplfagejfoaaDoor
