/- Own text: the log of writes, part Back: contracts of the functions that the laws of the log call. -/
import Derived.Test.YtfhiplfagejfoaaDoorOwnF
import Derived.Test.YtfhiplfagejfoaaDoorRows
import Derived.Test.YtfhiplfagejfoaaDoorCards
import Derived.Test.YtfhiplfagejfoaaDoorTie
set_option linter.unusedSimpArgs false
set_option linter.unusedVariables false
namespace Go.Proofs.YtfhiplfagejfoaaDoor
open Go.Proofs.YtfhiplfagejfoaaDoor.K Go.ChangeShapes Go.WideShapes Go.ChangeAt Go.RowKit 
set_option maxRecDepth 100000
set_option linter.unusedSimpArgs false
set_option linter.unusedVariables false
theorem pkL_at : ∀ (l : List W2) (i : Nat), i < l.length → (pkL l).getD (2 * i) 0 = (l.getD i y2).a ∧ (pkL l).getD (2 * i + 1) 0 = (l.getD i y2).w
  | [], i, h => by simp at h
  | x :: l, 0, _ => ⟨rfl, rfl⟩
  | x :: l, i + 1, h => by
    have := pkL_at l i (by simpa using h)
    rw [show 2 * (i + 1) = 2 * i + 1 + 1 by omega, show 2 * i + 1 + 1 + 1 = (2 * i + 1) + 1 + 1 by omega]
    exact this
theorem packW_at {p h : Nat} {l : List W2} {i : Nat} (hi : i < l.length) : (packW p h l).getD (1 + 2 * i) 0 = (l.getD i y2).a ∧ (packW p h l).getD (2 + 2 * i) 0 = (l.getD i y2).w := by
  have hp := pkL_at l i hi
  have hl := pkL_len l
  unfold packW oW
  rw [List.take_length, show 1 + 2 * i = 2 * i + 1 by omega, show 2 + 2 * i = (2 * i + 1) + 1 by omega]
  refine ⟨?_, ?_⟩
  · rw [List.getD_eq_getElem?_getD, List.getElem?_cons_succ, List.getElem?_append_left (by omega), ← List.getD_eq_getElem?_getD]; exact hp.1
  · rw [List.getD_eq_getElem?_getD, List.getElem?_cons_succ, List.getElem?_append_left (by omega), ← List.getD_eq_getElem?_getD]; exact hp.2
theorem ext_w2 {L M : List W2} (hl : L.length = M.length) (h : ∀ i, i < L.length → L.getD i y2 = M.getD i y2) : L = M := by
  apply List.ext_getElem hl
  intro i h1 h2
  have := h i h1
  rwa [List.getD_eq_getElem?_getD, List.getD_eq_getElem?_getD, List.getElem?_eq_getElem h1, List.getElem?_eq_getElem h2] at this
theorem unL_pack {p h : Nat} {l : List W2} : unL (packW p h l) l.length = l := ext_w2 (unL_len _ _) fun i hi => by
  rw [unL_len] at hi
  rw [unL_at _ _ _ hi, (packW_at hi).1, (packW_at hi).2]
theorem unN_pack {p h : Nat} {l : List W2} : unN (packW p h l) = l.length := rfl
theorem packW_l {p h : Nat} {l : List W2} (H : l.length ≤ h + 2 * p) : (packW p h l).length = LG p h := oW_len (Nat.le_refl _) (by unfold LG; omega)
theorem un_pack {p h : Nat} {l : List W2} (H : l.length ≤ h + 2 * p) (ho : okL p h l l.length) : unOk p h (packW p h l) ∧ unR p h (packW p h l) = l := by
  have : unOk p h (packW p h l) := by
    refine ⟨packW_l H, ?_, ?_, ?_, ?_⟩
    · show (l.length : Int) ≤ _
      omega
    · rw [unN_pack]; intro i hi; rw [(packW_at hi).1]; exact (ho i hi).1
    · rw [unN_pack, unL_pack]; exact packE_ok (by omega) ho
    · rw [unN_pack, unL_pack]
  exact ⟨this, by rw [(un_ok this).1, unN_pack, unL_pack]⟩
theorem pkL_mem {l : List W2} {x : Int} (h : x ∈ pkL l) : ∃ y ∈ l, x = y.a ∨ x = y.w := by
  unfold pkL at h
  obtain ⟨y, hy, hx⟩ := List.mem_flatMap.1 h
  exact ⟨y, hy, by simpa using hx⟩
theorem packW_u {kk p cc h : Nat} (C : Cf kk p cc h) {l : List W2} (hw : W2s l) (ho : okL p h l l.length) (hl : l.length ≤ 1000000) : U64s (packW p h l) := fun x hx => by
  unfold packW oW at hx
  rw [List.take_length] at hx
  rcases List.mem_cons.1 hx with rfl | hx
  · unfold u64R; omega
  · rcases List.mem_append.1 hx with hx | hx
    · obtain ⟨y, hy, e⟩ := pkL_mem hx
      rcases e with rfl | rfl
      · obtain ⟨i, hi, rfl⟩ := List.getElem_of_mem hy
        have := (ho i hi).1
        rw [List.getD_eq_getElem?_getD, List.getElem?_eq_getElem hi, Option.getD_some] at this
        have := okP_b C this
        unfold u64R; omega
      · exact (hw y hy).2
    · rw [(List.mem_replicate.1 hx).2]; unfold u64R; omega
/-- whitewash/whitewashlaw16.WlogBack -/
def Llaw16WlogBack : FnL := ⟨(.seq (.ops [⟨(some 3), .box (.tmp 0), none⟩, ⟨(some 6), .mv (.const (.bool false)), none⟩])
 (.seq (.ops [⟨(some 22), .call (.func 8) [], none⟩, ⟨(some 7), .mv (.tmp 22), none⟩])
 (.seq (.ops [⟨(some 23), .load true 3 (.tmp 3), none⟩, ⟨(some 24), .call (.func 9) [(.tmp 23)], none⟩, ⟨(some 8), .alloc [(.int .i64 0), (.int .i64 0), (.int .i64 0)], none⟩, ⟨none, .store 3 (.tmp 8) (.tmp 24), none⟩])
 (.seq (.ops [⟨(some 25), .load true 3 (.tmp 8), none⟩, ⟨(some 26), .mv (.tmp 1), none⟩, ⟨(some 27), .call (.func 10) [(.tmp 25), (.tmp 26)], none⟩, ⟨(some 9), .mv (.tmp 27), none⟩])
 (.seq (.ops [⟨(some 29), .load true 3 (.tmp 8), none⟩, ⟨(some 30), .mv (.tmp 9), none⟩, ⟨(some 31), .call (.func 16) [(.tmp 29), (.tmp 30)], none⟩, ⟨(some 28), .mv (.tmp 31), none⟩, ⟨(some 32), .ext (.tmp 28) 0, none⟩, ⟨(some 33), .ext (.tmp 28) 1, none⟩, ⟨(some 10), .mv (.tmp 32), none⟩, ⟨(some 11), .mv (.tmp 33), none⟩])
 (.seq (.seq (.ops [⟨(some 34), .mv (.tmp 9), none⟩, ⟨(some 35), .len false (.tmp 34), none⟩, ⟨(some 36), .load true 3 (.tmp 8), none⟩, ⟨(some 37), .call (.func 29) [(.tmp 36)], none⟩, ⟨(some 38), .bin .gtr (.tmp 35) (.tmp 37), none⟩])
 (.cond (.tmp 38) (.seq (.ops [⟨(some 39), .mv (.tmp 7), none⟩, ⟨(some 40), .mv (.tmp 39), none⟩, ⟨(some 41), .mv (.tmp 11), (some (40, true))⟩, ⟨(some 42), .bin .eql (.tmp 41) (.const (.int .i64 4)), (some (40, true))⟩, ⟨(some 43), .pick (.tmp 40) (.tmp 42) (.const (.bool false)), none⟩, ⟨(some 6), .mv (.tmp 43), none⟩])
 .ret)
 .skip))
 (.seq (.ops [⟨(some 45), .load true 3 (.tmp 8), none⟩, ⟨(some 46), .mv (.tmp 10), none⟩, ⟨(some 47), .call (.func 18) [(.tmp 45), (.tmp 46)], none⟩, ⟨(some 44), .mv (.tmp 47), none⟩, ⟨(some 48), .ext (.tmp 44) 0, none⟩, ⟨(some 49), .ext (.tmp 44) 1, none⟩, ⟨(some 12), .mv (.tmp 48), none⟩, ⟨(some 13), .mv (.tmp 49), none⟩])
 (.seq (.seq (.ops [⟨(some 50), .mv (.tmp 11), none⟩, ⟨(some 51), .bin .neq (.tmp 50) (.const (.int .i64 0)), none⟩, ⟨(some 52), .mv (.tmp 51), none⟩, ⟨(some 53), .mv (.tmp 13), (some (52, false))⟩, ⟨(some 54), .bin .neq (.tmp 53) (.const (.int .i64 0)), (some (52, false))⟩, ⟨(some 55), .pick (.tmp 52) (.const (.bool true)) (.tmp 54), none⟩, ⟨(some 56), .mv (.tmp 55), none⟩, ⟨(some 57), .mv (.tmp 12), (some (56, false))⟩, ⟨(some 58), .mv (.tmp 9), (some (56, false))⟩, ⟨(some 59), .call (.func 20) [(.tmp 57), (.tmp 58)], (some (56, false))⟩, ⟨(some 60), .un .not (.tmp 59), (some (56, false))⟩, ⟨(some 61), .pick (.tmp 56) (.const (.bool true)) (.tmp 60), none⟩, ⟨(some 62), .mv (.tmp 61), none⟩, ⟨(some 63), .mv (.tmp 10), (some (62, false))⟩, ⟨(some 64), .len false (.tmp 63), (some (62, false))⟩, ⟨(some 65), .load true 3 (.tmp 8), (some (62, false))⟩, ⟨(some 66), .call (.func 30) [(.tmp 65)], (some (62, false))⟩, ⟨(some 67), .bin .neq (.tmp 64) (.tmp 66), (some (62, false))⟩, ⟨(some 68), .pick (.tmp 62) (.const (.bool true)) (.tmp 67), none⟩, ⟨(some 69), .mv (.tmp 68), none⟩, ⟨(some 70), .mv (.tmp 10), (some (69, false))⟩, ⟨(some 71), .iaddrS 1 (.tmp 70) (.const (.int .i64 0)), (some (69, false))⟩, ⟨(some 72), .load false 1 (.tmp 71), (some (69, false))⟩, ⟨(some 73), .mv (.tmp 9), (some (69, false))⟩, ⟨(some 74), .len false (.tmp 73), (some (69, false))⟩, ⟨(some 75), .conv .u64 (.tmp 74), (some (69, false))⟩, ⟨(some 76), .bin .neq (.tmp 72) (.tmp 75), (some (69, false))⟩, ⟨(some 77), .pick (.tmp 69) (.const (.bool true)) (.tmp 76), none⟩])
 (.cond (.tmp 77) (.seq (.ops [⟨(some 6), .mv (.const (.bool false)), none⟩])
 .ret)
 .skip))
 (.seq (.draw [⟨⟨(some 79), .load true 3 (.tmp 8), none⟩, []⟩, ⟨⟨(some 80), .mv (.tmp 2), none⟩, []⟩, ⟨⟨(some 81), .faddr 1 (.tmp 8), none⟩, []⟩, ⟨⟨(some 82), .load false 1 (.tmp 81), none⟩, []⟩, ⟨⟨(some 83), .call (.func 12) [(.tmp 80), (.tmp 82)], none⟩, [⟨(some 79), .load true 3 (.tmp 8), none⟩]⟩, ⟨⟨(some 84), .call (.func 31) [(.tmp 79), (.const (.int .i64 3)), (.tmp 83)], none⟩, []⟩, ⟨⟨(some 78), .mv (.tmp 84), none⟩, []⟩, ⟨⟨(some 85), .ext (.tmp 78) 0, none⟩, []⟩, ⟨⟨(some 86), .ext (.tmp 78) 1, none⟩, []⟩, ⟨⟨(some 14), .mv (.tmp 85), none⟩, []⟩, ⟨⟨(some 15), .mv (.tmp 86), none⟩, []⟩])
 (.seq (.seq (.ops [⟨(some 16), .mv (.const (.int .i64 0)), none⟩])
 (.block 0 (.loop (.seq (.seq (.ops [⟨(some 87), .mv (.tmp 16), none⟩, ⟨(some 88), .mv (.tmp 9), none⟩, ⟨(some 89), .len false (.tmp 88), none⟩, ⟨(some 90), .bin .lss (.tmp 87) (.tmp 89), none⟩])
 (.cond (.tmp 90) .skip
 (.exit 0)))
 (.seq (.block 1 (.seq (.draw [⟨⟨(some 94), .load true 3 (.tmp 8), none⟩, []⟩, ⟨⟨(some 95), .mv (.tmp 2), none⟩, []⟩, ⟨⟨(some 96), .faddr 1 (.tmp 8), none⟩, []⟩, ⟨⟨(some 97), .load false 1 (.tmp 96), none⟩, []⟩, ⟨⟨(some 99), .mv (.tmp 16), none⟩, []⟩, ⟨⟨(some 98), .call (.func 12) [(.tmp 95), (.tmp 97)], none⟩, [⟨(some 94), .load true 3 (.tmp 8), none⟩]⟩, ⟨⟨(some 100), .call (.func 21) [(.tmp 94), (.tmp 98), (.tmp 99)], none⟩, []⟩, ⟨⟨(some 93), .mv (.tmp 100), none⟩, []⟩, ⟨⟨(some 101), .ext (.tmp 93) 0, none⟩, []⟩, ⟨⟨(some 102), .ext (.tmp 93) 1, none⟩, []⟩, ⟨⟨(some 103), .ext (.tmp 93) 2, none⟩, []⟩, ⟨⟨(some 17), .mv (.tmp 101), none⟩, []⟩, ⟨⟨(some 18), .mv (.tmp 102), none⟩, []⟩, ⟨⟨(some 19), .mv (.tmp 103), none⟩, []⟩])
 (.seq (.draw [⟨⟨(some 105), .load true 3 (.tmp 8), none⟩, []⟩, ⟨⟨(some 106), .mv (.tmp 9), none⟩, []⟩, ⟨⟨(some 107), .mv (.tmp 16), none⟩, []⟩, ⟨⟨(some 108), .iaddrS 2 (.tmp 106) (.tmp 107), none⟩, []⟩, ⟨⟨(some 109), .faddr 0 (.tmp 108), none⟩, []⟩, ⟨⟨(some 110), .load false 1 (.tmp 109), none⟩, []⟩, ⟨⟨(some 111), .conv .u64 (.tmp 110), none⟩, []⟩, ⟨⟨(some 112), .call (.func 14) [(.tmp 105), (.tmp 111)], none⟩, []⟩, ⟨⟨(some 104), .mv (.tmp 112), none⟩, []⟩, ⟨⟨(some 113), .ext (.tmp 104) 0, none⟩, []⟩, ⟨⟨(some 114), .ext (.tmp 104) 1, none⟩, []⟩, ⟨⟨(some 20), .mv (.tmp 113), none⟩, []⟩, ⟨⟨(some 21), .mv (.tmp 114), none⟩, []⟩])
 (.seq (.draw [⟨⟨(some 115), .mv (.tmp 19), none⟩, []⟩, ⟨⟨(some 116), .bin .neq (.tmp 115) (.const (.int .i64 0)), none⟩, []⟩, ⟨⟨(some 117), .mv (.tmp 116), none⟩, []⟩, ⟨⟨(some 118), .mv (.tmp 21), (some (117, false))⟩, []⟩, ⟨⟨(some 119), .un .not (.tmp 118), (some (117, false))⟩, []⟩, ⟨⟨(some 120), .pick (.tmp 117) (.const (.bool true)) (.tmp 119), none⟩, []⟩, ⟨⟨(some 121), .mv (.tmp 120), none⟩, []⟩, ⟨⟨(some 122), .mv (.tmp 20), (some (121, false))⟩, []⟩, ⟨⟨(some 123), .mv (.tmp 9), (some (121, false))⟩, []⟩, ⟨⟨(some 124), .mv (.tmp 16), (some (121, false))⟩, []⟩, ⟨⟨(some 125), .iaddrS 2 (.tmp 123) (.tmp 124), (some (121, false))⟩, []⟩, ⟨⟨(some 126), .faddr 0 (.tmp 125), (some (121, false))⟩, []⟩, ⟨⟨(some 127), .load false 1 (.tmp 126), (some (121, false))⟩, []⟩, ⟨⟨(some 128), .bin .neq (.tmp 122) (.tmp 127), (some (121, false))⟩, []⟩, ⟨⟨(some 129), .pick (.tmp 121) (.const (.bool true)) (.tmp 128), none⟩, []⟩, ⟨⟨(some 130), .mv (.tmp 129), none⟩, []⟩, ⟨⟨(some 131), .mv (.tmp 17), (some (130, false))⟩, []⟩, ⟨⟨(some 132), .mv (.tmp 14), (some (130, false))⟩, []⟩, ⟨⟨(some 133), .bin .leq (.tmp 131) (.tmp 132), (some (130, false))⟩, []⟩, ⟨⟨(some 134), .pick (.tmp 130) (.const (.bool true)) (.tmp 133), none⟩, []⟩, ⟨⟨(some 135), .mv (.tmp 134), none⟩, []⟩, ⟨⟨(some 136), .mv (.tmp 18), (some (135, false))⟩, []⟩, ⟨⟨(some 137), .mv (.tmp 14), (some (135, false))⟩, []⟩, ⟨⟨(some 138), .bin .leq (.tmp 136) (.tmp 137), (some (135, false))⟩, []⟩, ⟨⟨(some 139), .pick (.tmp 135) (.const (.bool true)) (.tmp 138), none⟩, []⟩, ⟨⟨(some 140), .mv (.tmp 139), none⟩, []⟩, ⟨⟨(some 141), .mv (.tmp 17), (some (140, false))⟩, []⟩, ⟨⟨(some 142), .mv (.tmp 14), (some (140, false))⟩, []⟩, ⟨⟨(some 143), .bin .sub (.tmp 141) (.tmp 142), (some (140, false))⟩, []⟩, ⟨⟨(some 144), .mv (.tmp 10), (some (140, false))⟩, []⟩, ⟨⟨(some 145), .len false (.tmp 144), (some (140, false))⟩, []⟩, ⟨⟨(some 146), .bin .geq (.tmp 143) (.tmp 145), (some (140, false))⟩, []⟩, ⟨⟨(some 147), .pick (.tmp 140) (.const (.bool true)) (.tmp 146), none⟩, []⟩, ⟨⟨(some 148), .mv (.tmp 147), none⟩, []⟩, ⟨⟨(some 149), .mv (.tmp 18), (some (148, false))⟩, []⟩, ⟨⟨(some 150), .mv (.tmp 14), (some (148, false))⟩, []⟩, ⟨⟨(some 151), .bin .sub (.tmp 149) (.tmp 150), (some (148, false))⟩, []⟩, ⟨⟨(some 152), .mv (.tmp 10), (some (148, false))⟩, []⟩, ⟨⟨(some 153), .len false (.tmp 152), (some (148, false))⟩, []⟩, ⟨⟨(some 154), .bin .geq (.tmp 151) (.tmp 153), (some (148, false))⟩, []⟩, ⟨⟨(some 155), .pick (.tmp 148) (.const (.bool true)) (.tmp 154), none⟩, []⟩, ⟨⟨(some 156), .mv (.tmp 155), none⟩, []⟩, ⟨⟨(some 157), .mv (.tmp 10), (some (156, false))⟩, []⟩, ⟨⟨(some 158), .mv (.tmp 17), (some (156, false))⟩, []⟩, ⟨⟨(some 159), .mv (.tmp 14), (some (156, false))⟩, []⟩, ⟨⟨(some 160), .bin .sub (.tmp 158) (.tmp 159), (some (156, false))⟩, []⟩, ⟨⟨(some 161), .iaddrS 1 (.tmp 157) (.tmp 160), (some (156, false))⟩, []⟩, ⟨⟨(some 162), .load false 1 (.tmp 161), (some (156, false))⟩, []⟩, ⟨⟨(some 163), .mv (.tmp 9), (some (156, false))⟩, []⟩, ⟨⟨(some 164), .mv (.tmp 16), (some (156, false))⟩, []⟩, ⟨⟨(some 165), .iaddrS 2 (.tmp 163) (.tmp 164), (some (156, false))⟩, []⟩, ⟨⟨(some 166), .faddr 0 (.tmp 165), (some (156, false))⟩, []⟩, ⟨⟨(some 167), .load false 1 (.tmp 166), (some (156, false))⟩, []⟩, ⟨⟨(some 168), .conv .u64 (.tmp 167), (some (156, false))⟩, []⟩, ⟨⟨(some 169), .bin .neq (.tmp 162) (.tmp 168), (some (156, false))⟩, []⟩, ⟨⟨(some 170), .pick (.tmp 156) (.const (.bool true)) (.tmp 169), none⟩, []⟩, ⟨⟨(some 171), .mv (.tmp 170), none⟩, []⟩, ⟨⟨(some 172), .mv (.tmp 10), (some (171, false))⟩, []⟩, ⟨⟨(some 173), .mv (.tmp 18), (some (171, false))⟩, []⟩, ⟨⟨(some 174), .mv (.tmp 14), (some (171, false))⟩, []⟩, ⟨⟨(some 175), .bin .sub (.tmp 173) (.tmp 174), (some (171, false))⟩, []⟩, ⟨⟨(some 176), .iaddrS 1 (.tmp 172) (.tmp 175), (some (171, false))⟩, []⟩, ⟨⟨(some 177), .load false 1 (.tmp 176), (some (171, false))⟩, []⟩, ⟨⟨(some 178), .mv (.tmp 9), (some (171, false))⟩, []⟩, ⟨⟨(some 179), .mv (.tmp 16), (some (171, false))⟩, []⟩, ⟨⟨(some 180), .iaddrS 2 (.tmp 178) (.tmp 179), (some (171, false))⟩, []⟩, ⟨⟨(some 181), .faddr 1 (.tmp 180), (some (171, false))⟩, []⟩, ⟨⟨(some 182), .load false 1 (.tmp 181), (some (171, false))⟩, []⟩, ⟨⟨(some 183), .bin .neq (.tmp 177) (.tmp 182), (some (171, false))⟩, []⟩, ⟨⟨(some 184), .pick (.tmp 171) (.const (.bool true)) (.tmp 183), none⟩, []⟩])
 (.cond (.tmp 184) (.seq (.ops [⟨(some 6), .mv (.const (.bool false)), none⟩])
 .ret)
 .skip)))))
 (.ops [⟨(some 91), .mv (.tmp 16), none⟩, ⟨(some 92), .bin .add (.tmp 91) (.const (.int .i64 1)), none⟩, ⟨(some 16), .mv (.tmp 92), none⟩]))))))
 (.seq (.ops [⟨(some 185), .mv (.tmp 7), none⟩, ⟨(some 186), .mv (.tmp 185), none⟩, ⟨(some 187), .mv (.tmp 15), (some (186, true))⟩, ⟨(some 188), .bin .eql (.tmp 187) (.const (.int .i64 0)), (some (186, true))⟩, ⟨(some 189), .pick (.tmp 186) (.tmp 188) (.const (.bool false)), none⟩, ⟨(some 6), .mv (.tmp 189), none⟩])
 .ret))))))))))),
 190, [.tmp 6]⟩
theorem lowlaw16WlogBack : lowerFn Tryd.prog Tryd.f4 = some Llaw16WlogBack := by kernel_rfl
noncomputable def Glaw16WlogBack (B : OH) : Nat → Cs
  | 31 => V10 B
  | 30 => V11 B
  | 9 => Vlaw16Conf B
  | 10 => Vlaw16Writes B
  | 8 => Vlaw16awake B
  | 12 => Vlaw16pick B
  | 20 => Vref05Writes B
  | 29 => Vref16Most B
  | 16 => VwlogPack B
  | 14 => VwlogPlace B
  | 21 => VwlogSpot B
  | 18 => VwlogUnpack B
  | _ => fun _ _ _ => none
theorem Glaw16WlogBack_10 {B : OH} : Glaw16WlogBack B 31 = V10 B := rfl
theorem Glaw16WlogBack_11 {B : OH} : Glaw16WlogBack B 30 = V11 B := rfl
theorem Glaw16WlogBack_law16Conf {B : OH} : Glaw16WlogBack B 9 = Vlaw16Conf B := rfl
theorem Glaw16WlogBack_law16Writes {B : OH} : Glaw16WlogBack B 10 = Vlaw16Writes B := rfl
theorem Glaw16WlogBack_law16awake {B : OH} : Glaw16WlogBack B 8 = Vlaw16awake B := rfl
theorem Glaw16WlogBack_law16pick {B : OH} : Glaw16WlogBack B 12 = Vlaw16pick B := rfl
theorem Glaw16WlogBack_ref05Writes {B : OH} : Glaw16WlogBack B 20 = Vref05Writes B := rfl
theorem Glaw16WlogBack_ref16Most {B : OH} : Glaw16WlogBack B 29 = Vref16Most B := rfl
theorem Glaw16WlogBack_wlogPack {B : OH} : Glaw16WlogBack B 16 = VwlogPack B := rfl
theorem Glaw16WlogBack_wlogPlace {B : OH} : Glaw16WlogBack B 14 = VwlogPlace B := rfl
theorem Glaw16WlogBack_wlogSpot {B : OH} : Glaw16WlogBack B 21 = VwlogSpot B := rfl
theorem Glaw16WlogBack_wlogUnpack {B : OH} : Glaw16WlogBack B 18 = VwlogUnpack B := rfl
theorem sGlaw16WlogBack {w0 : World} {B : OH} : SoundG Tryd.prog w0 B { f := Glaw16WlogBack B } := .of fun k => by
  unfold Glaw16WlogBack
  split
  · exact .inr ⟨en10, sV10⟩
  · exact .inr ⟨en11, sV11⟩
  · exact .inr ⟨enlaw16Conf, sVlaw16Conf⟩
  · exact .inr ⟨enlaw16Writes, sVlaw16Writes⟩
  · exact .inr ⟨enlaw16awake, sVlaw16awake⟩
  · exact .inr ⟨enlaw16pick, sVlaw16pick⟩
  · exact .inr ⟨enref05Writes, sVref05Writes⟩
  · exact .inr ⟨enref16Most, sVref16Most⟩
  · exact .inr ⟨enwlogPack, sVwlogPack⟩
  · exact .inr ⟨enwlogPlace, sVwlogPlace⟩
  · exact .inr ⟨enwlogSpot, sVwlogSpot⟩
  · exact .inr ⟨enwlogUnpack, sVwlogUnpack⟩
  · exact .inl fun _ _ _ => rfl
theorem enlaw16WlogBack : Enter Tryd.prog 4 := .of Tryd.func4 (by kernel_rfl) (by kernel_rfl)
noncomputable def Tlaw16WlogBack (B : OH) : Cs := callF B { f := Glaw16WlogBack B } 1000000 Llaw16WlogBack
theorem sTlaw16WlogBack {w0 : World} {B : OH} : SoundC Tryd.prog w0 B 4 (Tlaw16WlogBack B) := callF_sound mixedOrders sGlaw16WlogBack 1000000 Tryd.func4 lowlaw16WlogBack
structure KBk (xp : Int) (c : Nat) (vl vw : Value) (A i : Nat) (ts : List Value) : Prop where
  l : ts.length = 190
  t2 : gt ts 2 = .int .i64 xp
  t7 : gt ts 7 = .bool true
  t8 : gt ts 8 = .pointer (some ⟨c, 0, none⟩)
  t9 : gt ts 9 = vl
  t10 : gt ts 10 = vw
  t14 : gt ts 14 = .int .i64 (A : Int)
  t15 : gt ts 15 = .int .i64 0
  t16 : gt ts 16 = .int .i64 (i : Int)
def lbBk : LC := (.seq (.seq (.ops [⟨(some 87), .mv (.tmp 16), none⟩, ⟨(some 88), .mv (.tmp 9), none⟩, ⟨(some 89), .len false (.tmp 88), none⟩, ⟨(some 90), .bin .lss (.tmp 87) (.tmp 89), none⟩])
 (.cond (.tmp 90) .skip
 (.exit 0)))
 (.seq (.block 1 (.seq (.draw [⟨⟨(some 94), .load true 3 (.tmp 8), none⟩, []⟩, ⟨⟨(some 95), .mv (.tmp 2), none⟩, []⟩, ⟨⟨(some 96), .faddr 1 (.tmp 8), none⟩, []⟩, ⟨⟨(some 97), .load false 1 (.tmp 96), none⟩, []⟩, ⟨⟨(some 99), .mv (.tmp 16), none⟩, []⟩, ⟨⟨(some 98), .call (.func 12) [(.tmp 95), (.tmp 97)], none⟩, [⟨(some 94), .load true 3 (.tmp 8), none⟩]⟩, ⟨⟨(some 100), .call (.func 21) [(.tmp 94), (.tmp 98), (.tmp 99)], none⟩, []⟩, ⟨⟨(some 93), .mv (.tmp 100), none⟩, []⟩, ⟨⟨(some 101), .ext (.tmp 93) 0, none⟩, []⟩, ⟨⟨(some 102), .ext (.tmp 93) 1, none⟩, []⟩, ⟨⟨(some 103), .ext (.tmp 93) 2, none⟩, []⟩, ⟨⟨(some 17), .mv (.tmp 101), none⟩, []⟩, ⟨⟨(some 18), .mv (.tmp 102), none⟩, []⟩, ⟨⟨(some 19), .mv (.tmp 103), none⟩, []⟩])
 (.seq (.draw [⟨⟨(some 105), .load true 3 (.tmp 8), none⟩, []⟩, ⟨⟨(some 106), .mv (.tmp 9), none⟩, []⟩, ⟨⟨(some 107), .mv (.tmp 16), none⟩, []⟩, ⟨⟨(some 108), .iaddrS 2 (.tmp 106) (.tmp 107), none⟩, []⟩, ⟨⟨(some 109), .faddr 0 (.tmp 108), none⟩, []⟩, ⟨⟨(some 110), .load false 1 (.tmp 109), none⟩, []⟩, ⟨⟨(some 111), .conv .u64 (.tmp 110), none⟩, []⟩, ⟨⟨(some 112), .call (.func 14) [(.tmp 105), (.tmp 111)], none⟩, []⟩, ⟨⟨(some 104), .mv (.tmp 112), none⟩, []⟩, ⟨⟨(some 113), .ext (.tmp 104) 0, none⟩, []⟩, ⟨⟨(some 114), .ext (.tmp 104) 1, none⟩, []⟩, ⟨⟨(some 20), .mv (.tmp 113), none⟩, []⟩, ⟨⟨(some 21), .mv (.tmp 114), none⟩, []⟩])
 (.seq (.draw [⟨⟨(some 115), .mv (.tmp 19), none⟩, []⟩, ⟨⟨(some 116), .bin .neq (.tmp 115) (.const (.int .i64 0)), none⟩, []⟩, ⟨⟨(some 117), .mv (.tmp 116), none⟩, []⟩, ⟨⟨(some 118), .mv (.tmp 21), (some (117, false))⟩, []⟩, ⟨⟨(some 119), .un .not (.tmp 118), (some (117, false))⟩, []⟩, ⟨⟨(some 120), .pick (.tmp 117) (.const (.bool true)) (.tmp 119), none⟩, []⟩, ⟨⟨(some 121), .mv (.tmp 120), none⟩, []⟩, ⟨⟨(some 122), .mv (.tmp 20), (some (121, false))⟩, []⟩, ⟨⟨(some 123), .mv (.tmp 9), (some (121, false))⟩, []⟩, ⟨⟨(some 124), .mv (.tmp 16), (some (121, false))⟩, []⟩, ⟨⟨(some 125), .iaddrS 2 (.tmp 123) (.tmp 124), (some (121, false))⟩, []⟩, ⟨⟨(some 126), .faddr 0 (.tmp 125), (some (121, false))⟩, []⟩, ⟨⟨(some 127), .load false 1 (.tmp 126), (some (121, false))⟩, []⟩, ⟨⟨(some 128), .bin .neq (.tmp 122) (.tmp 127), (some (121, false))⟩, []⟩, ⟨⟨(some 129), .pick (.tmp 121) (.const (.bool true)) (.tmp 128), none⟩, []⟩, ⟨⟨(some 130), .mv (.tmp 129), none⟩, []⟩, ⟨⟨(some 131), .mv (.tmp 17), (some (130, false))⟩, []⟩, ⟨⟨(some 132), .mv (.tmp 14), (some (130, false))⟩, []⟩, ⟨⟨(some 133), .bin .leq (.tmp 131) (.tmp 132), (some (130, false))⟩, []⟩, ⟨⟨(some 134), .pick (.tmp 130) (.const (.bool true)) (.tmp 133), none⟩, []⟩, ⟨⟨(some 135), .mv (.tmp 134), none⟩, []⟩, ⟨⟨(some 136), .mv (.tmp 18), (some (135, false))⟩, []⟩, ⟨⟨(some 137), .mv (.tmp 14), (some (135, false))⟩, []⟩, ⟨⟨(some 138), .bin .leq (.tmp 136) (.tmp 137), (some (135, false))⟩, []⟩, ⟨⟨(some 139), .pick (.tmp 135) (.const (.bool true)) (.tmp 138), none⟩, []⟩, ⟨⟨(some 140), .mv (.tmp 139), none⟩, []⟩, ⟨⟨(some 141), .mv (.tmp 17), (some (140, false))⟩, []⟩, ⟨⟨(some 142), .mv (.tmp 14), (some (140, false))⟩, []⟩, ⟨⟨(some 143), .bin .sub (.tmp 141) (.tmp 142), (some (140, false))⟩, []⟩, ⟨⟨(some 144), .mv (.tmp 10), (some (140, false))⟩, []⟩, ⟨⟨(some 145), .len false (.tmp 144), (some (140, false))⟩, []⟩, ⟨⟨(some 146), .bin .geq (.tmp 143) (.tmp 145), (some (140, false))⟩, []⟩, ⟨⟨(some 147), .pick (.tmp 140) (.const (.bool true)) (.tmp 146), none⟩, []⟩, ⟨⟨(some 148), .mv (.tmp 147), none⟩, []⟩, ⟨⟨(some 149), .mv (.tmp 18), (some (148, false))⟩, []⟩, ⟨⟨(some 150), .mv (.tmp 14), (some (148, false))⟩, []⟩, ⟨⟨(some 151), .bin .sub (.tmp 149) (.tmp 150), (some (148, false))⟩, []⟩, ⟨⟨(some 152), .mv (.tmp 10), (some (148, false))⟩, []⟩, ⟨⟨(some 153), .len false (.tmp 152), (some (148, false))⟩, []⟩, ⟨⟨(some 154), .bin .geq (.tmp 151) (.tmp 153), (some (148, false))⟩, []⟩, ⟨⟨(some 155), .pick (.tmp 148) (.const (.bool true)) (.tmp 154), none⟩, []⟩, ⟨⟨(some 156), .mv (.tmp 155), none⟩, []⟩, ⟨⟨(some 157), .mv (.tmp 10), (some (156, false))⟩, []⟩, ⟨⟨(some 158), .mv (.tmp 17), (some (156, false))⟩, []⟩, ⟨⟨(some 159), .mv (.tmp 14), (some (156, false))⟩, []⟩, ⟨⟨(some 160), .bin .sub (.tmp 158) (.tmp 159), (some (156, false))⟩, []⟩, ⟨⟨(some 161), .iaddrS 1 (.tmp 157) (.tmp 160), (some (156, false))⟩, []⟩, ⟨⟨(some 162), .load false 1 (.tmp 161), (some (156, false))⟩, []⟩, ⟨⟨(some 163), .mv (.tmp 9), (some (156, false))⟩, []⟩, ⟨⟨(some 164), .mv (.tmp 16), (some (156, false))⟩, []⟩, ⟨⟨(some 165), .iaddrS 2 (.tmp 163) (.tmp 164), (some (156, false))⟩, []⟩, ⟨⟨(some 166), .faddr 0 (.tmp 165), (some (156, false))⟩, []⟩, ⟨⟨(some 167), .load false 1 (.tmp 166), (some (156, false))⟩, []⟩, ⟨⟨(some 168), .conv .u64 (.tmp 167), (some (156, false))⟩, []⟩, ⟨⟨(some 169), .bin .neq (.tmp 162) (.tmp 168), (some (156, false))⟩, []⟩, ⟨⟨(some 170), .pick (.tmp 156) (.const (.bool true)) (.tmp 169), none⟩, []⟩, ⟨⟨(some 171), .mv (.tmp 170), none⟩, []⟩, ⟨⟨(some 172), .mv (.tmp 10), (some (171, false))⟩, []⟩, ⟨⟨(some 173), .mv (.tmp 18), (some (171, false))⟩, []⟩, ⟨⟨(some 174), .mv (.tmp 14), (some (171, false))⟩, []⟩, ⟨⟨(some 175), .bin .sub (.tmp 173) (.tmp 174), (some (171, false))⟩, []⟩, ⟨⟨(some 176), .iaddrS 1 (.tmp 172) (.tmp 175), (some (171, false))⟩, []⟩, ⟨⟨(some 177), .load false 1 (.tmp 176), (some (171, false))⟩, []⟩, ⟨⟨(some 178), .mv (.tmp 9), (some (171, false))⟩, []⟩, ⟨⟨(some 179), .mv (.tmp 16), (some (171, false))⟩, []⟩, ⟨⟨(some 180), .iaddrS 2 (.tmp 178) (.tmp 179), (some (171, false))⟩, []⟩, ⟨⟨(some 181), .faddr 1 (.tmp 180), (some (171, false))⟩, []⟩, ⟨⟨(some 182), .load false 1 (.tmp 181), (some (171, false))⟩, []⟩, ⟨⟨(some 183), .bin .neq (.tmp 177) (.tmp 182), (some (171, false))⟩, []⟩, ⟨⟨(some 184), .pick (.tmp 171) (.const (.bool true)) (.tmp 183), none⟩, []⟩])
 (.cond (.tmp 184) (.seq (.ops [⟨(some 6), .mv (.const (.bool false)), none⟩])
 .ret)
 .skip)))))
 (.ops [⟨(some 91), .mv (.tmp 16), none⟩, ⟨(some 92), .bin .add (.tmp 91) (.const (.int .i64 1)), none⟩, ⟨(some 16), .mv (.tmp 92), none⟩])))
set_option maxHeartbeats 4000000 in
theorem loopBk {B : OH} {H : HL} {N : St} {vl vw : Value} {l : List W2} {xp : Int} {kk p cc h c q : Nat} (hT : Tab B) (C : Cf kk p cc h) (hq : q < p) (hx : i64R xp) (hxq : pk xp (p : Int) = (q : Int)) (sl : SlR w2 2 B H vl l) (sw : SlR w1 1 B H vw (packW p h l)) (hll : l.length ≤ h + 2 * p) (ho : okL p h l l.length) (hN : good B H N) (bc : B c = none) (lc : lk H c = some (.cells [.int .i64 (kk : Int), .int .i64 (p : Int), .int .i64 (cc : Int)] 3)) {ts : List Value} (kp : KBk xp c vl vw (lgA p h (q : Int)) 0 ts) {F : Nat} (hF : 3000 + l.length + 1 ≤ F) :
    Ok (exec B { f := Glaw16WlogBack B } F (LC.loop lbBk) ⟨ts, H, N⟩) (fun y s => y = .exit 0 ∧ ∃ i, KBk xp c vl vw (lgA p h (q : Int)) i s.t) := by
  have hB := good_B hN
  have hR := good_rdB hN
  have hI := beqN hN.1.1
  have hG : ∃ H N, good B H N := ⟨H, N, hN⟩
  have hlv := sl.len
  have hwv := sw.len
  have hwl := packW_l hll
  rw [hwl] at hwv
  have rc := fun o n => rdB_none (o := o) (n := n) bc
  have hp1 := C.p
  have hA := lgq_b C hq
  have hA2 := bs4_5 (p := p) (h := h)
  have hA3 := bs5_b C
  have ha0 : lgA p h (q : Int) = bs p h 3 + LG p h * q := rfl
  have ePk := fpick hG xp (p : Int) hx (by omega)
  rw [hxq] at ePk
  have hLG : LG p h = 1 + 2 * (h + 2 * p) := rfl
  refine loop_rule (n0 := 3000) (fun w s => ∃ ts, ∃ i : Nat, s = ⟨ts, H, N⟩ ∧ KBk xp c vl vw (lgA p h (q : Int)) i ts ∧ i ≤ l.length ∧ w = l.length - i) _ ?_ l.length _ ⟨ts, 0, rfl, kp, by omega, rfl⟩ _ hF
  clear kp hF F ts
  rintro z w s ⟨ts, i, rfl, kp, hi, rfl⟩
  have hc1 : ((i + 1 : Nat) : Int) = (i : Int) + 1 := by omega
  by_cases hin : i < l.length
  case neg =>
    have h1' : ¬ (i : Int) < (l.length : Int) := by omega
    simp -implicitDefEqProofs (maxSteps := 10000000) (disch := omega) only [Tlaw16WlogBack, Llaw16WlogBack, Glaw16WlogBack_10, V10_eq, Glaw16WlogBack_11, V11_eq, Glaw16WlogBack_law16Conf, Vlaw16Conf_eq, Glaw16WlogBack_law16Writes, Glaw16WlogBack_law16awake, Glaw16WlogBack_law16pick, Vlaw16pick_eq, Glaw16WlogBack_ref05Writes, Glaw16WlogBack_ref16Most, Vref16Most_eq, Glaw16WlogBack_wlogPack, Glaw16WlogBack_wlogPlace, VwlogPlace_eq, Glaw16WlogBack_wlogSpot, VwlogSpot_eq, Glaw16WlogBack_wlogUnpack, hB, hR, hI, lbBk, kp.l, kp.t2, kp.t7, kp.t8, kp.t9, kp.t10, kp.t14, kp.t15, kp.t16, lenV_sl, Int.toNat_natCast, bft, btf, gtst, st_len, hlv, h1', pad, lightV, bt, bf, evs, gt, st, binV, arith, isSh, storeV, all1, idxAV, fieldV, faddrV, iaddrSV, iaddrAV, pickV, convV, unV, eqbV, eqpV, extV, mm2, mmV, nilckV, ress, res1, retV, Value.cells, reduceIte, reduceCtorEq, Int.reduceLT, Int.reduceLE, Int.reduceToNat, Int.reduceAdd, Int.reduceSub, Int.reduceMul, Int.reduceNeg, Nat.reduceMul, Nat.reduceAdd, Nat.reduceSub, Nat.reduceBEq, Nat.reduceEqDiff, Nat.reduceLT, Nat.reduceLeDiff, Int.reduceBEq, Int.reduceEq, Nat.reducePow, Int.reducePow, IntWalk.i64_in, IntKind.bits, eqAV, eqL, leafEq, andO, fillV, buildSV, Int.reduceGT, Int.reduceGE, Int.reduceBNe, IntWalk.u64_in, newsV_s, tassV, isnV, slcV, slcAV, slcTV, slcB, appNew, Option.bind_some, Option.bind_none, eqsV, lookV, mupdV, mdelV, mkM, ev1, ev2]
    refine ok_some (.inr ⟨by simp, rfl, i, ⟨?_, ?_, ?_, ?_, ?_, ?_, ?_, ?_, ?_⟩⟩)
    all_goals simp (maxSteps := 10000000) (disch := omega) only [kp.l, kp.t2, kp.t7, kp.t8, kp.t9, kp.t10, kp.t14, kp.t15, kp.t16, lenV_sl, Int.toNat_natCast, bft, btf, gtst, st_len, Nat.reduceAdd, Int.cast_ofNat_Int, cond_true, cond_false, Nat.reduceBEq, Nat.reduceLT, decide_true, beq_self_eq_true, if_true, if_false]
  have hin' : (i : Int) < (l.length : Int) := by omega
  have i0 : (0 : Int) ≤ (i : Int) := by omega
  have eS := fSpot hG hT C (q : Int) (i : Int)
  unfold spV at eS
  rw [if_pos ⟨by omega, by omega⟩, show (q : Int).toNat = q by omega, ← ha0] at eS
  have hp := (ho i hin).1
  have hpb := okP_b C hp
  have uw : IntKind.u64.wrap (l.getD i y2).a = (l.getD i y2).a := IntWalk.u64_in _ (by omega)
  have eP := (fPlace hG hT C (w := (l.getD i y2).a) (by unfold u64R; omega)).trans (by rw [plV_y hp])
  obtain ⟨bl, ol, cl, rfl, dl, rl⟩ := sl.at (by omega)
  obtain ⟨bw, ow, cw, rfl, dw, rw_⟩ := sw.at (by omega)
  have r1 : rdO H B bl (ol + i * 2) 1 (rdB B bl (ol + i * 2) 1) = some [.int .i64 (l.getD i y2).a] := (rl H Fr.refl i 0 1 y2 hin (by omega)).trans rfl
  have r2 : rdO H B bl (ol + i * 2 + 1) 1 (rdB B bl (ol + i * 2 + 1) 1) = some [.int .u64 (l.getD i y2).w] := (rl H Fr.refl i 1 1 y2 hin (by omega)).trans rfl
  have r3 : rdO H B bw (ow + (1 + 2 * i) * 1) 1 (rdB B bw (ow + (1 + 2 * i) * 1) 1) = some [.int .u64 (l.getD i y2).a] := by
    have := rw_ H Fr.refl (1 + 2 * i) 0 1 0 (by omega) (by omega)
    rw [(packW_at hin).1] at this
    exact this.trans rfl
  have r4 : rdO H B bw (ow + (2 + 2 * i) * 1) 1 (rdB B bw (ow + (2 + 2 * i) * 1) 1) = some [.int .u64 (l.getD i y2).w] := by
    have := rw_ H Fr.refl (2 + 2 * i) 0 1 0 (by omega) (by omega)
    rw [(packW_at hin).2] at this
    exact this.trans rfl
  rw [hwl] at *
  generalize lgA p h (q : Int) = A at *
  generalize l.getD i y2 = y at *
  obtain ⟨ya, yw⟩ := y
  simp only at r1 r2 r3 r4 uw eP
  have d1 : IntKind.i64.wrap ((A : Int) + 1 + 2 * (i : Int) - (A : Int)) = ((1 + 2 * i : Nat) : Int) := by rw [IntWalk.i64_in _ (by omega)]; omega
  have d2 : IntKind.i64.wrap ((A : Int) + 2 + 2 * (i : Int) - (A : Int)) = ((2 + 2 * i : Nat) : Int) := by rw [IntWalk.i64_in _ (by omega)]; omega
  have c1 : ¬ (A : Int) + 1 + 2 * (i : Int) ≤ (A : Int) := by omega
  have c2 : ¬ (A : Int) + 2 + 2 * (i : Int) ≤ (A : Int) := by omega
  have c3 : ¬ ((1 + 2 * i : Nat) : Int) ≥ ((LG p h : Nat) : Int) := by omega
  have c4 : ¬ ((2 + 2 * i : Nat) : Int) ≥ ((LG p h : Nat) : Int) := by omega
  have c5 : 1 + 2 * i < LG p h := by omega
  have c6 : 2 + 2 * i < LG p h := by omega
  have c7 : (0 : Int) ≤ ((1 + 2 * i : Nat) : Int) := by omega
  have c8 : (0 : Int) ≤ ((2 + 2 * i : Nat) : Int) := by omega
  simp -implicitDefEqProofs (maxSteps := 10000000) (disch := omega) only [Tlaw16WlogBack, Llaw16WlogBack, Glaw16WlogBack_10, V10_eq, Glaw16WlogBack_11, V11_eq, Glaw16WlogBack_law16Conf, Vlaw16Conf_eq, Glaw16WlogBack_law16Writes, Glaw16WlogBack_law16awake, Glaw16WlogBack_law16pick, Vlaw16pick_eq, Glaw16WlogBack_ref05Writes, Glaw16WlogBack_ref16Most, Vref16Most_eq, Glaw16WlogBack_wlogPack, Glaw16WlogBack_wlogPlace, VwlogPlace_eq, Glaw16WlogBack_wlogSpot, VwlogSpot_eq, Glaw16WlogBack_wlogUnpack, hB, hR, hI, lbBk, kp.l, kp.t2, kp.t7, kp.t8, kp.t9, kp.t10, kp.t14, kp.t15, kp.t16, lenV_sl, Int.toNat_natCast, bft, btf, gtst, st_len, lc, bc, rc, hlv, hwv, hin, hin', i0, ePk, eS, uw, eP, r1, r2, r3, r4, d1, d2, c1, c2, c3, c4, c5, c6, c7, c8, bne_self_eq_false, pad, lightV, bt, bf, evs, gt, st, binV, arith, isSh, storeV, all1, idxAV, fieldV, faddrV, iaddrSV, iaddrAV, pickV, convV, unV, eqbV, eqpV, extV, mm2, mmV, nilckV, ress, res1, retV, Value.cells, reduceIte, reduceCtorEq, Int.reduceLT, Int.reduceLE, Int.reduceToNat, Int.reduceAdd, Int.reduceSub, Int.reduceMul, Int.reduceNeg, Nat.reduceMul, Nat.reduceAdd, Nat.reduceSub, Nat.reduceBEq, Nat.reduceEqDiff, Nat.reduceLT, Nat.reduceLeDiff, Int.reduceBEq, Int.reduceEq, Nat.reducePow, Int.reducePow, IntWalk.i64_in, IntKind.bits, eqAV, eqL, leafEq, andO, fillV, buildSV, Int.reduceGT, Int.reduceGE, Int.reduceBNe, IntWalk.u64_in, newsV_s, tassV, isnV, slcV, slcAV, slcTV, slcB, appNew, Option.bind_some, Option.bind_none, eqsV, lookV, mupdV, mdelV, mkM, ev1, ev2]
  refine ok_some (.inl ⟨rfl, l.length - (i + 1), by omega, _, i + 1, rfl, ⟨?_, ?_, ?_, ?_, ?_, ?_, ?_, ?_, ?_⟩, by omega, rfl⟩)
  all_goals simp (maxSteps := 10000000) (disch := omega) only [kp.l, kp.t2, kp.t7, kp.t8, kp.t9, kp.t10, kp.t14, kp.t15, kp.t16, lenV_sl, Int.toNat_natCast, bft, btf, gtst, st_len, hc1, Nat.reduceAdd, Int.cast_ofNat_Int, cond_true, cond_false, Nat.reduceBEq, Nat.reduceLT, decide_true, beq_self_eq_true, if_true, if_false]
set_option maxHeartbeats 8000000 in
theorem lvBack {B : OH} {H : HL} {N : St} {vr : Value} {raw : List Q2} {a b c x : Int} (hT : Tab B) (hN : good B H N) (hr : SlR q2 2 B H vr raw) (hrs : Q2s raw) (ha : i64R a) (hb : i64R b) (hc : i64R c) (hx : i64R x) : ∃ H' N', Tlaw16WlogBack B [.agg #[.int .i64 a, .int .i64 b, .int .i64 c], vr, .int .i64 x] H N = some (.ret (.bool true), H', N') := by
  have hB := good_B hN
  have hR := good_rdB hN
  have hI := beqN hN.1.1
  have hG : ∃ H N, good B H N := ⟨H, N, hN⟩
  obtain ⟨kk, p, cc, h, ek, ep, ec, C, hp, hcc⟩ := conf_cf a b c
  have eC := fConf hG ha hb hc
  rw [ek, ep, ec] at eC
  have ePk := fpick hG x (p : Int) hx (by have := C.p; omega)
  have kPk := pk_b (x := x) (n := (p : Int)) (by have := C.p; omega)
  obtain ⟨q, hq⟩ : ∃ q : Nat, pk x (p : Int) = (q : Int) := ⟨_, (Int.toNat_of_nonneg kPk.1).symm⟩
  rw [hq] at ePk kPk
  have hqp : q < p := by omega
  have eM := rmost hG C
  have eL := f11c hG hT C
  have g1 : good B ((N.n 0, .cells [.int .i64 a, .int .i64 b, .int .i64 c] 3) :: H) (sh N) := good_new (N := N) hN
  have f1 : Fr H ((N.n 0, .cells [.int .i64 a, .int .i64 b, .int .i64 c] 3) :: H) := fr_new (N := N) hN Fr.refl 0
  have hr := hr.mono f1
  have q_n : lk ((N.n 0, .cells [.int .i64 a, .int .i64 b, .int .i64 c] 3) :: H) (N.n 0) = some (.cells [.int .i64 a, .int .i64 b, .int .i64 c] 3) := lk_top
  have b_n : B (N.n 0) = none := good_B hN 0
  have rb_n := fun o n => rdB_none (o := o) (n := n) b_n
  obtain ⟨H2, N2, e2, g2, f2⟩ := fAwake hT g1
  have q_n := f2 _ _ q_n
  have hr := hr.mono f2
  have q_n2 := q_n
  have m_n2 := ne_N g2 q_n2
  have hB2 := good_B g2
  have hR2 := good_rdB g2
  have hI2 := beqN g2.1.1
  have g3 : good B ((N2.n 0, .cells [.int .i64 (kk : Int), .int .i64 (p : Int), .int .i64 (cc : Int)] 3) :: H2) (sh N2) := good_new (N := N2) g2
  have f3 : Fr H2 ((N2.n 0, .cells [.int .i64 (kk : Int), .int .i64 (p : Int), .int .i64 (cc : Int)] 3) :: H2) := fr_new (N := N2) g2 Fr.refl 0
  have q_n := f3 _ _ q_n
  have hr := hr.mono f3
  have q_c : lk ((N2.n 0, .cells [.int .i64 (kk : Int), .int .i64 (p : Int), .int .i64 (cc : Int)] 3) :: H2) (N2.n 0) = some (.cells [.int .i64 (kk : Int), .int .i64 (p : Int), .int .i64 (cc : Int)] 3) := lk_top
  have b_c : B (N2.n 0) = none := good_B g2 0
  have rb_c := fun o n => rdB_none (o := o) (n := n) b_c
  obtain ⟨vl, H4, N4, l, e4, g4, f4, sl, hok, hws, hll⟩ := fWrites C hr hrs g3
  have q_n := f4 _ _ q_n
  have q_c := f4 _ _ q_c
  have hr := hr.mono f4
  have q_n4 := q_n
  have m_n4 := ne_N g4 q_n4
  have q_c4 := q_c
  have m_c4 := ne_N g4 q_c4
  have hB4 := good_B g4
  have hR4 := good_rdB g4
  have hI4 := beqN g4.1.1
  have sl := sl.rd w2_len
  obtain ⟨vw, H5, N5, e5, g5, f5, sw⟩ := fPack hT C g4 sl hws
  have q_n := f5 _ _ q_n
  have q_c := f5 _ _ q_c
  have hr := hr.mono f5
  have sl := sl.mono f5
  have q_n5 := q_n
  have m_n5 := ne_N g5 q_n5
  have q_c5 := q_c
  have m_c5 := ne_N g5 q_c5
  have hB5 := good_B g5
  have hR5 := good_rdB g5
  have hI5 := beqN g5.1.1
  have hlv := sl.len
  by_cases hlong : h + 2 * p < l.length
  · rw [packE_long hlong] at *
    have c1 : (l.length : Int) > ((h + 2 * p : Nat) : Int) := by omega
    simp -implicitDefEqProofs (maxSteps := 10000000) (disch := omega) only [Tlaw16WlogBack, Llaw16WlogBack, Glaw16WlogBack_10, V10_eq, Glaw16WlogBack_11, V11_eq, Glaw16WlogBack_law16Conf, Vlaw16Conf_eq, Glaw16WlogBack_law16Writes, Glaw16WlogBack_law16awake, Glaw16WlogBack_law16pick, Vlaw16pick_eq, Glaw16WlogBack_ref05Writes, Glaw16WlogBack_ref16Most, Vref16Most_eq, Glaw16WlogBack_wlogPack, Glaw16WlogBack_wlogPlace, VwlogPlace_eq, Glaw16WlogBack_wlogSpot, VwlogSpot_eq, Glaw16WlogBack_wlogUnpack, hB, hR, hI, lenV_sl, Int.toNat_natCast, bft, btf, gtst, st_len, eC, ePk, eM, hlv, c1, b_n, rb_n, q_n2, m_n2, e2, hB2, hR2, hI2, b_c, rb_c, q_n4, m_n4, q_c4, m_c4, e4, hB4, hR4, hI4, q_n5, m_n5, q_c5, m_c5, e5, hB5, hR5, hI5, bne_self_eq_false, pad, lightV, bt, bf, evs, gt, st, binV, arith, isSh, storeV, all1, idxAV, fieldV, faddrV, iaddrSV, iaddrAV, pickV, convV, unV, eqbV, eqpV, extV, mm2, mmV, nilckV, ress, res1, retV, Value.cells, reduceIte, reduceCtorEq, Int.reduceLT, Int.reduceLE, Int.reduceToNat, Int.reduceAdd, Int.reduceSub, Int.reduceMul, Int.reduceNeg, Nat.reduceMul, Nat.reduceAdd, Nat.reduceSub, Nat.reduceBEq, Nat.reduceEqDiff, Nat.reduceLT, Nat.reduceLeDiff, Int.reduceBEq, Int.reduceEq, Nat.reducePow, Int.reducePow, IntWalk.i64_in, IntKind.bits, eqAV, eqL, leafEq, andO, fillV, buildSV, Int.reduceGT, Int.reduceGE, Int.reduceBNe, IntWalk.u64_in, newsV_s, tassV, isnV, slcV, slcAV, slcTV, slcB, appNew, Option.bind_some, Option.bind_none, eqsV, lookV, mupdV, mdelV, mkM, ev1, ev2]
    exact ⟨_, _, rfl⟩
  rw [packE_ok hlong hok, if_pos rfl] at *
  have c1 : ¬ (l.length : Int) > ((h + 2 * p : Nat) : Int) := by omega
  obtain ⟨hun, hur⟩ := un_pack (p := p) (h := h) (by omega) hok
  have hwl := packW_l (p := p) (h := h) (l := l) (by omega)
  have hlb := LG_b C
  obtain ⟨vb, H6, N6, e6, g6, f6, sb⟩ := fUnpack hT C g5 (sw.rd w1_len) (packW_u C hws hok (by omega)) (by rw [hwl]; omega)
  have q_n := f6 _ _ q_n
  have q_c := f6 _ _ q_c
  have hr := hr.mono f6
  have sl := sl.mono f6
  have q_n6 := q_n
  have m_n6 := ne_N g6 q_n6
  have q_c6 := q_c
  have m_c6 := ne_N g6 q_c6
  have hB6 := good_B g6
  have hR6 := good_rdB g6
  have hI6 := beqN g6.1.1
  rw [(un_ok hun).2, hur] at *
  have sw2 := (sw.rd w1_len).mono f6
  have sb2 := sb.rd w2_len
  have eW := sameref05Writes g6 sb2 sl (by omega)
  rw [decide_eq_true rfl] at eW
  have hwv := (sw.rd w1_len).len
  rw [hwl] at hwv
  have eAt := f10c3 hG hT C hqp
  rw [show bs p h 3 + LG p h * q = lgA p h (q : Int) from rfl] at eAt
  obtain ⟨bw, ow, cw, rfl, dw, rw_⟩ := sw2.at (by omega)
  have r0 : rdO H6 B bw ow 1 (rdB B bw ow 1) = some [.int .u64 (l.length : Int)] := by
    have := (rw_ H6 Fr.refl 0 0 1 0 (by omega) (by omega)).trans (show tk (w1 ((packW p h l).getD 0 0)) 0 1 = some [.int .u64 (l.length : Int)] from rfl)
    simpa using this
  have uz : IntKind.u64.wrap (l.length : Int) = (l.length : Int) := IntWalk.u64_in _ (by omega)
  have z1 : 0 < LG p h := by omega
  rw [hwl] at *
  simp -implicitDefEqProofs (maxSteps := 10000000) (disch := omega) only [Tlaw16WlogBack, Llaw16WlogBack, Glaw16WlogBack_10, V10_eq, Glaw16WlogBack_11, V11_eq, Glaw16WlogBack_law16Conf, Vlaw16Conf_eq, Glaw16WlogBack_law16Writes, Glaw16WlogBack_law16awake, Glaw16WlogBack_law16pick, Vlaw16pick_eq, Glaw16WlogBack_ref05Writes, Glaw16WlogBack_ref16Most, Vref16Most_eq, Glaw16WlogBack_wlogPack, Glaw16WlogBack_wlogPlace, VwlogPlace_eq, Glaw16WlogBack_wlogSpot, VwlogSpot_eq, Glaw16WlogBack_wlogUnpack, hB, hR, hI, lenV_sl, Int.toNat_natCast, bft, btf, gtst, st_len, eC, ePk, eM, eL, eW, eAt, hlv, hwv, c1, r0, uz, z1, b_n, rb_n, q_n2, m_n2, e2, hB2, hR2, hI2, b_c, rb_c, q_n4, m_n4, q_c4, m_c4, e4, hB4, hR4, hI4, q_n5, m_n5, q_c5, m_c5, e5, hB5, hR5, hI5, q_n6, m_n6, q_c6, m_c6, e6, hB6, hR6, hI6, bne_self_eq_false, Nat.zero_mul, pad, lightV, bt, bf, evs, gt, st, binV, arith, isSh, storeV, all1, idxAV, fieldV, faddrV, iaddrSV, iaddrAV, pickV, convV, unV, eqbV, eqpV, extV, mm2, mmV, nilckV, ress, res1, retV, Value.cells, reduceIte, reduceCtorEq, Int.reduceLT, Int.reduceLE, Int.reduceToNat, Int.reduceAdd, Int.reduceSub, Int.reduceMul, Int.reduceNeg, Nat.reduceMul, Nat.reduceAdd, Nat.reduceSub, Nat.reduceBEq, Nat.reduceEqDiff, Nat.reduceLT, Nat.reduceLeDiff, Int.reduceBEq, Int.reduceEq, Nat.reducePow, Int.reducePow, IntWalk.i64_in, IntKind.bits, eqAV, eqL, leafEq, andO, fillV, buildSV, Int.reduceGT, Int.reduceGE, Int.reduceBNe, IntWalk.u64_in, newsV_s, tassV, isnV, slcV, slcAV, slcTV, slcB, appNew, Option.bind_some, Option.bind_none, eqsV, lookV, mupdV, mdelV, mkM, ev1, ev2]
  generalize hX : exec B _ _ (LC.loop _) _ = o
  obtain ⟨y, ⟨ts, H3, N3⟩, rfl, rfl, i, kp⟩ := (show Ok o _ by rw [← hX]; exact loopBk hT C hqp hx hq sl (by rw [← hwl] at sw2; exact sw2) (by omega) hok g6 b_c q_c ⟨rfl, rfl, rfl, rfl, rfl, rfl, rfl, rfl, rfl⟩ (by omega))
  simp only at kp
  simp -implicitDefEqProofs (maxSteps := 10000000) (disch := omega) only [Tlaw16WlogBack, Llaw16WlogBack, Glaw16WlogBack_10, V10_eq, Glaw16WlogBack_11, V11_eq, Glaw16WlogBack_law16Conf, Vlaw16Conf_eq, Glaw16WlogBack_law16Writes, Glaw16WlogBack_law16awake, Glaw16WlogBack_law16pick, Vlaw16pick_eq, Glaw16WlogBack_ref05Writes, Glaw16WlogBack_ref16Most, Vref16Most_eq, Glaw16WlogBack_wlogPack, Glaw16WlogBack_wlogPlace, VwlogPlace_eq, Glaw16WlogBack_wlogSpot, VwlogSpot_eq, Glaw16WlogBack_wlogUnpack, hB, hR, hI, kp.l, kp.t2, kp.t7, kp.t8, kp.t9, kp.t10, kp.t14, kp.t15, kp.t16, lenV_sl, Int.toNat_natCast, bft, btf, gtst, st_len, pad, lightV, bt, bf, evs, gt, st, binV, arith, isSh, storeV, all1, idxAV, fieldV, faddrV, iaddrSV, iaddrAV, pickV, convV, unV, eqbV, eqpV, extV, mm2, mmV, nilckV, ress, res1, retV, Value.cells, reduceIte, reduceCtorEq, Int.reduceLT, Int.reduceLE, Int.reduceToNat, Int.reduceAdd, Int.reduceSub, Int.reduceMul, Int.reduceNeg, Nat.reduceMul, Nat.reduceAdd, Nat.reduceSub, Nat.reduceBEq, Nat.reduceEqDiff, Nat.reduceLT, Nat.reduceLeDiff, Int.reduceBEq, Int.reduceEq, Nat.reducePow, Int.reducePow, IntWalk.i64_in, IntKind.bits, eqAV, eqL, leafEq, andO, fillV, buildSV, Int.reduceGT, Int.reduceGE, Int.reduceBNe, IntWalk.u64_in, newsV_s, tassV, isnV, slcV, slcAV, slcTV, slcB, appNew, Option.bind_some, Option.bind_none, eqsV, lookV, mupdV, mdelV, mkM, ev1, ev2]
  exact ⟨_, _, rfl⟩
end Go.Proofs.YtfhiplfagejfoaaDoor
namespace Go.Proofs.YtfhiplfagejfoaaDoor
open Go.Proofs.YtfhiplfagejfoaaDoor.K Go.ChangeShapes Go.WideShapes Go.ChangeAt Go.RowKit
set_option maxRecDepth 100000
set_option linter.unusedSimpArgs false
set_option linter.unusedVariables false

theorem gObj : Tryd.prog.globalNamed "whitewash/region.objects" = some 0 := by kernel_rfl
theorem gObjT : (Tryd.prog.globals[0]?).map (·.type) = some 129 := by kernel_rfl
theorem leafsObj : leafs Tryd.prog 12 129 = some [.int .i64, .int .i64, .int .i64, .int .i64, .int .i64, .int .i64, .int .i64, .int .i64, .int .i64, .int .i64, .int .i64, .int .i64] := by kernel_rfl
theorem tab {W : World} (h : laidMetH Tryd.prog Rows.wlogBackRow.laid W) : Tab (startB W) := by
  obtain ⟨ps, hv, _⟩ := laidMet_of_H (by rfl) h
  obtain ⟨a1, e1, f1, h1, l1⟩ := laid_cells hv (n := "whitewash/region.objects") (x := Rows.laid_whitewash_region_objects) (by simp [Rows.wlogBackRow]) 12 gObj gObjT leafsObj
  have hw : rdB (startB W) 0 0 12 = some OBJ := rdB_whole h1 l1 (by rfl)
  intro i hi
  have := rdB_sub (i := i * 2) (k := 2) hw (by omega)
  rwa [Nat.zero_add] at this
namespace wlogBack
theorem own : ownKnob Tryd.prog.godebug = none := by kernel_rfl
theorem laidOut : laidOutB Tryd.prog = true := by kernel_rfl
theorem typesOk : (Tryd.f4.params.toList.all fun t => Tryd.prog.readableRec t && decide (t < Tryd.prog.types.size)) = true := by kernel_rfl
theorem contract (H : Type) (enc : TypeId × Value → H) (W : World) (base : Nat) (args : Array Value) (ds gs : List (DataW H)) (before : List MemPlace)
    (hval : ∀ (j : Nat) t v, Tryd.f4.params[j]? = some t → args[j]? = some v → Value.okWide Tryd.prog W .any base t v)
    (hW : DataW.Whole enc Tryd.prog Tryd.f4.params.toList Rows.wlogBackSpec.vars false W args.toList ds gs before) (hL : laidMetH Tryd.prog Rows.wlogBackRow.laid W) :
    Calls Tryd.prog 4 args W fun e W' => ∃ v, e = .returned v ∧ Rows.wlogBackSpec.post enc Tryd.prog Tryd.f4 false true false false W args v W' := by
  have hW' := hW
  obtain ⟨p, q, hA0, hV, hpq, hfz, hnd⟩ := hW
  have hA : DataW.TrodAll enc Tryd.prog W 0 (fun _ => true) true Tryd.f4.params.toList args.toList ds p := hA0
  rw [Tryd.params4] at hA hval
  obtain ⟨v0, vs0, d0, ds0, p0, q0, hargs, rfl, rfl, h0, r0⟩ := trodAll_cons hA
  obtain ⟨v1, vs1, d1, ds1, p1, q1, rfl, rfl, rfl, h1, r1⟩ := trodAll_cons r0
  obtain ⟨v2, vs2, d2, ds2, p2, q2, rfl, rfl, rfl, h2, r2⟩ := trodAll_cons r1
  obtain ⟨rfl, rfl, rfl⟩ := trodAll_nil r2
  obtain rfl : args = #[v0, v1, v2] := by apply Array.ext'; simpa using hargs
  obtain ⟨rfl, rfl⟩ := trodVars_none hV
  obtain ⟨m0, rfl, k0⟩ := open_flat (P := Tryd.prog) 20 (show aggB Tryd.prog 22 = some true by kernel_rfl) (show leafs Tryd.prog 20 22 = some [.int .i64, .int .i64, .int .i64] by kernel_rfl) (hval 0 22 v0 rfl rfl) h0
  obtain ⟨x0_0, m0_0, rfl, w0_0, k0_1⟩ := k0.int
  have b0_0 := i64_wf w0_0
  obtain ⟨x0_1, m0_1, rfl, w0_1, k0_2⟩ := k0_1.int
  have b0_1 := i64_wf w0_1
  obtain ⟨x0_2, m0_2, rfl, w0_2, k0_3⟩ := k0_2.int
  have b0_2 := i64_wf w0_2
  obtain rfl := k0_3.none
  have s1 := open_flats (P := Tryd.prog) 20 Tryd.underlying25 (show leafs Tryd.prog 20 51 = some [.int .i64, .int .i64] by kernel_rfl) (show Tryd.prog.cellsOf 51 = 2 by kernel_rfl) (by decide) (hval 1 25 v1 rfl rfl) h1
  obtain ⟨x2, rfl, rfl, rfl, w2⟩ := open_int Tryd.underlying3 (hval 2 3 v2 rfl rfl) h2
  have b2 := i64_wf w2
  refine law_post laidOut (fun t ht => by simpa using List.all_eq_true.1 typesOk t ht) rfl (show Tryd.f4.resultTypes = #[4] by rfl) Tryd.underlying4 hW' rfl rfl rfl ?_
  obtain ⟨w, hw, hb⟩ := two_open s1
  have hs := callF_sound (w0 := W) (B := startB W) mixedOrders sGlaw16WlogBack 1000000 Tryd.func4 lowlaw16WlogBack
  exact law_calls hs (args := [.agg #[.int .i64 x0_0, .int .i64 x0_1, .int .i64 x0_2], v1, .int .i64 x2]) fun N hN => lvBack (tab hL) hN (hw.rd q2_len) hb b0_0 b0_1 b0_2 b2

noncomputable def laidWorld (os : Os) : World := laidW Tryd.prog os [(0, OBJ)]
theorem laid_met (os : Os) : laidMet Tryd.prog Rows.wlogBackRow.laid ((laidWorld os).forCall (fun _ _ => 0) ⟨#[], #[.agg #[.int .i64 0, .int .i64 0, .int .i64 0], .slice none 0 0, .int .i64 0], []⟩).memory :=
  laidMet_of_run' 16 (by kernel_rfl) (by kernel_rfl)
theorem reads (os : Os) {H : Type} (enc : TypeId × Value → H) : ∃ places, DataW.whole enc Tryd.prog ((laidWorld os).forCall (fun _ _ => 0) ⟨#[], #[.agg #[.int .i64 0, .int .i64 0, .int .i64 0], .slice none 0 0, .int .i64 0], []⟩).memory Tryd.f4.params.toList Rows.wlogBackSpec.vars false (#[.agg #[.int .i64 0, .int .i64 0, .int .i64 0], .slice none 0 0, .int .i64 0] : Array Value).toList 16 = some ([.agg [.lit (.int .i64 0), .lit (.int .i64 0), .lit (.int .i64 0)], .nil, .lit (.int .i64 0)], [], places) :=
  ⟨[], by kernel_rfl⟩
theorem lifted (os : Os) (started : os.Started) (H : Type) (enc : TypeId × Value → H) (F : Stop.Interp) :
    ReturnsInHanded {} Tryd.checked os 4 .any ((OpenSpec.ofChange Rows.wlogBackSpec).preRow enc Tryd.prog Tryd.f4 Rows.wlogBackRow.domain false Rows.wlogBackRow.laid) (((OpenSpec.ofChange Rows.wlogBackSpec).at F).post enc Tryd.prog Tryd.f4 false true false false) := by
  obtain ⟨places, hx⟩ := reads os enc
  refine returnsInHanded_of_row (C := Tryd.checked) (s := OpenSpec.ofChange Rows.wlogBackSpec) own started (by kernel_rfl) Tryd.func4
    (witness_row_at (enc := enc) (C := Tryd.checked) false (laidWorld os) #[.agg #[.int .i64 0, .int .i64 0, .int .i64 0], .slice none 0 0, .int .i64 0] rfl (by kernel_rfl) (by kernel_rfl) (by kernel_rfl)
      (OpenSpec.preRow_of_cond 16 hx (by kernel_rfl) (fun k hk => by cases hk) (by kernel_rfl) (laid_met os))) ?_
  intro W base args ds gs before hval hW _ _ _ hL _ _
  exact contract H enc W base args ds gs before hval hW hL
theorem said : Rows.WlogBackSaid :=
  OpenClaim.holds_of_cond 4 Tryd.f4 rfl rfl rfl rfl rfl rfl rfl ⟨rfl, rfl, rfl, rfl, rfl⟩ rfl rfl rfl rfl rfl (by kernel_rfl) Tryd.func4 (by kernel_rfl)
    (of_decide_eq_true (by kernel_rfl)) (by unfold Func.isWrapper; first | (rw [if_pos (by decide +kernel)]; kernel_rfl) | (rw [if_neg (by decide +kernel)]; exact ⟨rfl, rfl⟩))
    (fun os started H enc _ F => by rw [OpenClaim.pre_eq_preRow]; exact lifted os started H enc F)
theorem plain (f : FuncId) (fn : Func) (hf : Tryd.pinned.checked.prog.funcNamed "whitewash/whitewashlaw16.WlogBack" = some f) (hfn : Tryd.pinned.checked.prog.funcs[f]? = some fn) :
    true = Tryd.pinned.checked.prog.looks [] ∧ ∀ (j : Nat) t, fn.params[j]? = some t → Tryd.pinned.checked.prog.wantsStandIn t = false := by
  obtain rfl : f = 4 := Option.some.inj ((show Tryd.prog.funcNamed "whitewash/whitewashlaw16.WlogBack" = some 4 by kernel_rfl).symm.trans hf) |>.symm
  obtain rfl : fn = Tryd.f4 := (Option.some.inj (Tryd.func4.symm.trans hfn)).symm
  refine ⟨by kernel_rfl, fun j t ht => ?_⟩
  have hall : (Tryd.f4.params.toList.all fun t => !Tryd.prog.wantsStandIn t) = true := by kernel_rfl
  have := List.all_eq_true.1 hall t (by simpa using Array.mem_of_getElem? ht)
  show Tryd.prog.wantsStandIn t = false
  simpa using this
theorem card : Rows.WlogBackCardSaid :=
  Claim7.holds_tied_plain_at .later [] _ _ _ _ said (fun _ h => by cases h) (by kernel_rfl) (fun _ h => by cases h) wlogBack_row_tie rfl ⟨rfl, rfl⟩ (by kernel_rfl) rfl plain (by kernel_rfl)
end wlogBack
end Go.Proofs.YtfhiplfagejfoaaDoor
