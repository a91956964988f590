/- Own text: the log of writes, part TlF: contracts of the functions that the laws of the log call. -/
import Derived.Test.YtfhiplfagejfoaaDoorTlE
set_option linter.unusedSimpArgs false
set_option linter.unusedVariables false
namespace Go.Proofs.YtfhiplfagejfoaaDoor
open Go.Proofs.YtfhiplfagejfoaaDoor.K Go.ChangeShapes Go.WideShapes Go.ChangeAt Go.RowKit 
set_option maxRecDepth 100000
set_option linter.unusedSimpArgs false
set_option linter.unusedVariables false
def Ans {α : Type} (f : α → List Value) (sz : Nat) (B : OH) (V : Cs) (args : List Value) (mk : Value → Value) (e : Int) (L : List α) (H : HL) (N : St) : Prop :=
  ∃ v' H' N', V args H N = some (.ret (.tuple #[mk v', .int .i64 e]), H', N') ∧ good B H' N' ∧ Fr H H' ∧ SlR f sz B H' v' L
theorem bothPlace {B : OH} (hG : ∃ H N, good B H N) (hT : Tab B) (k p c : Int) {w : Int} (hu : u64R w) : ∃ (s : Int) (b : Bool), FwlogPlace B [.agg #[.int .i64 k, .int .i64 p, .int .i64 c], .int .u64 w] = some (.tuple #[.int .i64 s, .bool b]) ∧ Fref16Place B [.agg #[.int .i64 k, .int .i64 p, .int .i64 c], .int .u64 w] = some (.tuple #[.int .i64 s, .bool b]) := by
  by_cases hf : fitI k p c
  · obtain ⟨kk, pp, cc, h, rfl, rfl, rfl, C⟩ := fit_cf hf
    rw [fPlace hG hT C hu, rPlace hG C hu]
    by_cases ho : okP pp h w
    · rw [plV_y ho]; exact ⟨_, _, rfl, rfl⟩
    · rw [plV_n ho]; exact ⟨_, _, rfl, rfl⟩
  · rw [fPlacen hG k p c hf hu, rPlacen hG k p c hf w]; exact ⟨_, _, rfl, rfl⟩
theorem bothSpot {B : OH} (hG : ∃ H N, good B H N) (hT : Tab B) (k p c q i : Int) : ∃ a b e : Int, FwlogSpot B [.agg #[.int .i64 k, .int .i64 p, .int .i64 c], .int .i64 q, .int .i64 i] = some (.tuple #[.int .i64 a, .int .i64 b, .int .i64 e]) ∧ Fref16Spot B [.agg #[.int .i64 k, .int .i64 p, .int .i64 c], .int .i64 q, .int .i64 i] = some (.tuple #[.int .i64 a, .int .i64 b, .int .i64 e]) := by
  by_cases hf : fitI k p c
  · obtain ⟨kk, pp, cc, h, rfl, rfl, rfl, C⟩ := fit_cf hf
    rw [fSpot hG hT C q i, rSpot hG C q i]
    unfold spV
    split <;> exact ⟨_, _, _, rfl, rfl⟩
  · rw [fSpotn hG k p c q i hf, rSpotn hG k p c q i hf]; exact ⟨_, _, _, rfl, rfl⟩

theorem bothPack {B : OH} (hT : Tab B) (k p c : Int) {vl : Value} {l : List W2} (hw : W2s l) : ∃ (e : Int) (L : List Int), L.length ≤ 900000 ∧ ∀ H N, good B H N → SlR w2 2 B H vl l →
    Ans w1 1 B (VgP B) [.agg #[.int .i64 k, .int .i64 p, .int .i64 c], vl] (fun x => x) e L H N ∧ Ans w1 1 B (VrP B) [.agg #[.int .i64 k, .int .i64 p, .int .i64 c], vl] (fun x => x) e L H N := by
  by_cases hf : fitI k p c
  · obtain ⟨kk, pp, cc, h, rfl, rfl, rfl, C⟩ := fit_cf hf
    refine ⟨packE pp h l, (if packE pp h l = 0 then packW pp h l else []), by
      split
      · rename_i hp
        rw [packW_l (packE_0 hp).1]
        have := LG_b C; omega
      · simp, fun H N hN hv => ⟨?_, ?_⟩⟩
    · obtain ⟨v', H', N', e1, g1, f1, s1⟩ := fPack hT C hN hv hw
      exact ⟨v', H', N', e1, g1, f1, s1.rd w1_len⟩
    · obtain ⟨v', H', N', e1, g1, f1, s1⟩ := rPack C hN hv hw
      exact ⟨v', H', N', e1, g1, f1, s1.rd w1_len⟩
  · refine ⟨5, [], by simp, fun H N hN hv => ⟨?_, ?_⟩⟩
    · obtain ⟨v', H', N', e1, g1, f1, s1⟩ := fPackn hf hN
      exact ⟨v', H', N', e1, g1, f1, s1.rd w1_len⟩
    · obtain ⟨v', H', N', e1, g1, f1, s1⟩ := rPackn hf hN
      exact ⟨v', H', N', e1, g1, f1, s1.rd w1_len⟩

theorem bothUnpack {B : OH} (hT : Tab B) (k p c : Int) {vw : Value} {w : List Int} (hu : U64s w) (hlw : w.length ≤ 900000) : ∃ (e : Int) (L : List W2), L.length ≤ 900000 ∧ ∀ H N, good B H N → SlR w1 1 B H vw w →
    Ans w2 2 B (VgU B) [.agg #[.int .i64 k, .int .i64 p, .int .i64 c], vw] (fun x => x) e L H N ∧ Ans w2 2 B (VrU B) [.agg #[.int .i64 k, .int .i64 p, .int .i64 c], vw] (fun x => x) e L H N := by
  by_cases hf : fitI k p c
  · obtain ⟨kk, pp, cc, h, rfl, rfl, rfl, C⟩ := fit_cf hf
    refine ⟨unE pp h w, unR pp h w, by
      by_cases hun : unOk pp h w
      · rw [(un_ok hun).1, unL_len]
        have h1 := hun.2.1
        have h2 := C.h
        have h3 := C.p
        unfold unN; omega
      · rw [(un_no hun).1]; simp, fun H N hN hv => ⟨?_, ?_⟩⟩
    · obtain ⟨v', H', N', e1, g1, f1, s1⟩ := fUnpack hT C hN hv hu hlw
      exact ⟨v', H', N', e1, g1, f1, s1.rd w2_len⟩
    · obtain ⟨v', H', N', e1, g1, f1, s1⟩ := rUnpack hT C hN hv hu hlw
      exact ⟨v', H', N', e1, g1, f1, s1.rd w2_len⟩
  · refine ⟨5, [], by simp, fun H N hN hv => ⟨?_, ?_⟩⟩
    · obtain ⟨v', H', N', e1, g1, f1, s1⟩ := fUnpackn hf hN
      exact ⟨v', H', N', e1, g1, f1, s1.rd w2_len⟩
    · obtain ⟨v', H', N', e1, g1, f1, s1⟩ := rUnpackn hf hN
      exact ⟨v', H', N', e1, g1, f1, s1.rd w2_len⟩

theorem bothLay {B : OH} (hT : Tab B) (k p c : Int) {vm : Value} {M : List C2} {q : Int} (hM : M.length ≤ 800000) (hMs : C2s M) : ∃ (e : Int) (L : List C2), L.length ≤ 900000 ∧ ∀ H N, good B H N → SlW c2 2 B H vm M →
    Ans c2 2 B (VgL B) [.agg #[.int .i64 k, .int .i64 p, .int .i64 c], .agg #[vm], .int .i64 q] (fun x => .agg #[x]) e L H N ∧ Ans c2 2 B (VrL B) [.agg #[.int .i64 k, .int .i64 p, .int .i64 c], .agg #[vm], .int .i64 q] (fun x => .agg #[x]) e L H N := by
  by_cases hf : fitI k p c
  · obtain ⟨kk, pp, cc, h, rfl, rfl, rfl, C⟩ := fit_cf hf
    refine ⟨layE pp h q M, layR pp h q M, by
      unfold layR
      split
      · rw [lay_len]; omega
      · simp, fun H N hN hv => ⟨?_, ?_⟩⟩
    · obtain ⟨v', H', N', e1, g1, f1, s1⟩ := fLay hT C hN hv hM hMs (q := q)
      exact ⟨v', H', N', e1, g1, f1, s1.rd c2_len⟩
    · obtain ⟨v', H', N', e1, g1, f1, s1⟩ := rLay hT C hN hv hM hMs (q := q)
      exact ⟨v', H', N', e1, g1, f1, s1.rd c2_len⟩
  · refine ⟨5, [], by simp, fun H N hN hv => ⟨?_, ?_⟩⟩
    · obtain ⟨v', H', N', e1, g1, f1, s1⟩ := fLayn hf hN hv hM (q := q)
      exact ⟨v', H', N', e1, g1, f1, s1.rd c2_len⟩
    · obtain ⟨v', H', N', e1, g1, f1, s1⟩ := rLayn hf hN (vm := vm) (q := q)
      exact ⟨v', H', N', e1, g1, f1, s1.rd c2_len⟩

theorem bothWipe {B : OH} (hT : Tab B) (k p c : Int) {vm : Value} {M : List C2} {q : Int} (hM : M.length ≤ 800000) : ∃ (e : Int) (L : List C2), L.length ≤ 900000 ∧ ∀ H N, good B H N → SlW c2 2 B H vm M →
    Ans c2 2 B (VgW B) [.agg #[.int .i64 k, .int .i64 p, .int .i64 c], .agg #[vm], .int .i64 q] (fun x => .agg #[x]) e L H N ∧ Ans c2 2 B (VrW B) [.agg #[.int .i64 k, .int .i64 p, .int .i64 c], .agg #[vm], .int .i64 q] (fun x => .agg #[x]) e L H N := by
  by_cases hf : fitI k p c
  · obtain ⟨kk, pp, cc, h, rfl, rfl, rfl, C⟩ := fit_cf hf
    refine ⟨wipE pp h q M, wipR pp h q M, by
      unfold wipR
      split
      · rw [wiped_len]; omega
      · simp, fun H N hN hv => ⟨?_, ?_⟩⟩
    · obtain ⟨v', H', N', e1, g1, f1, s1⟩ := fWipe hT C hN hv hM (q := q)
      exact ⟨v', H', N', e1, g1, f1, s1.rd c2_len⟩
    · obtain ⟨v', H', N', e1, g1, f1, s1⟩ := rWipe C hN hv hM (q := q)
      exact ⟨v', H', N', e1, g1, f1, s1.rd c2_len⟩
  · refine ⟨5, [], by simp, fun H N hN hv => ⟨?_, ?_⟩⟩
    · obtain ⟨v', H', N', e1, g1, f1, s1⟩ := fWipen hf hN hv hM (q := q)
      exact ⟨v', H', N', e1, g1, f1, s1.rd c2_len⟩
    · obtain ⟨v', H', N', e1, g1, f1, s1⟩ := rWipen hf hN (vm := vm) (q := q)
      exact ⟨v', H', N', e1, g1, f1, s1.rd c2_len⟩

def LlT : FnL := ⟨(.seq (.ops [⟨(some 11), .box (.tmp 0), none⟩, ⟨(some 12), .box (.tmp 1), none⟩, ⟨(some 21), .box (.tmp 10), none⟩, ⟨(some 22), .mv (.const (.bool false)), none⟩])
 (.seq (.ops [⟨(some 71), .call (.func 8) [], none⟩, ⟨(some 23), .mv (.tmp 71), none⟩])
 (.seq (.ops [⟨(some 72), .load true 3 (.tmp 11), none⟩, ⟨(some 73), .call (.func 9) [(.tmp 72)], none⟩, ⟨(some 24), .alloc [(.int .i64 0), (.int .i64 0), (.int .i64 0)], none⟩, ⟨none, .store 3 (.tmp 24) (.tmp 73), none⟩])
 (.seq (.seq (.ops [⟨(some 74), .faddr 2 (.tmp 12), none⟩, ⟨(some 75), .load false 1 (.tmp 74), none⟩, ⟨(some 76), .bin .gtr (.tmp 75) (.const (.int .i64 20)), none⟩, ⟨(some 77), .mv (.tmp 76), none⟩, ⟨(some 78), .faddr 2 (.tmp 12), (some (77, true))⟩, ⟨(some 79), .load false 1 (.tmp 78), (some (77, true))⟩, ⟨(some 80), .bin .leq (.tmp 79) (.const (.int .i64 256)), (some (77, true))⟩, ⟨(some 81), .pick (.tmp 77) (.tmp 80) (.const (.bool false)), none⟩, ⟨(some 82), .mv (.tmp 81), none⟩, ⟨(some 83), .faddr 1 (.tmp 12), (some (82, false))⟩, ⟨(some 84), .load false 1 (.tmp 83), (some (82, false))⟩, ⟨(some 85), .bin .gtr (.tmp 84) (.const (.int .i64 4)), (some (82, false))⟩, ⟨(some 86), .mv (.tmp 85), (some (82, false))⟩, ⟨(some 87), .faddr 1 (.tmp 12), (some (86, true))⟩, ⟨(some 88), .load false 1 (.tmp 87), (some (86, true))⟩, ⟨(some 89), .bin .leq (.tmp 88) (.const (.int .i64 16)), (some (86, true))⟩, ⟨(some 90), .pick (.tmp 86) (.tmp 89) (.const (.bool false)), (some (82, false))⟩, ⟨(some 91), .pick (.tmp 82) (.const (.bool true)) (.tmp 90), none⟩])
 (.cond (.tmp 91) (.ops [⟨(some 92), .load true 3 (.tmp 24), none⟩, ⟨none, .store 3 (.tmp 12) (.tmp 92), none⟩])
 .skip))
 (.seq (.ops [⟨(some 93), .load true 3 (.tmp 24), none⟩, ⟨(some 94), .mv (.tmp 2), none⟩, ⟨(some 95), .call (.func 10) [(.tmp 93), (.tmp 94)], none⟩, ⟨(some 25), .mv (.tmp 95), none⟩])
 (.seq (.ops [⟨(some 97), .load true 3 (.tmp 24), none⟩, ⟨(some 98), .mv (.tmp 25), none⟩, ⟨(some 99), .call (.func 11) [(.tmp 97), (.tmp 98)], none⟩, ⟨(some 96), .mv (.tmp 99), none⟩, ⟨(some 100), .ext (.tmp 96) 0, none⟩, ⟨(some 101), .ext (.tmp 96) 1, none⟩, ⟨(some 26), .mv (.tmp 100), none⟩, ⟨(some 27), .mv (.tmp 101), none⟩])
 (.seq (.ops [⟨(some 102), .mv (.tmp 26), none⟩, ⟨(some 103), .app [(.int .u64 0)] 8 (.const (.slice none 0 0)) (.tmp 102), none⟩, ⟨(some 28), .mv (.tmp 103), none⟩])
 (.seq (.seq (.ops [⟨(some 104), .mv (.tmp 28), none⟩, ⟨(some 105), .len false (.tmp 104), none⟩, ⟨(some 106), .bin .gtr (.tmp 105) (.const (.int .i64 0)), none⟩])
 (.cond (.tmp 106) (.ops [⟨(some 107), .mv (.tmp 28), none⟩, ⟨(some 108), .mv (.tmp 5), none⟩, ⟨(some 109), .mv (.tmp 28), none⟩, ⟨(some 110), .len false (.tmp 109), none⟩, ⟨(some 111), .call (.func 12) [(.tmp 108), (.tmp 110)], none⟩, ⟨(some 112), .mv (.tmp 6), none⟩, ⟨(some 113), .iaddrS 1 (.tmp 107) (.tmp 111), none⟩, ⟨none, .store 1 (.tmp 113) (.tmp 112), none⟩])
 .skip))
 (.seq (.ops [⟨(some 114), .mv (.tmp 7), none⟩, ⟨(some 115), .faddr 1 (.tmp 24), none⟩, ⟨(some 116), .load false 1 (.tmp 115), none⟩, ⟨(some 117), .call (.func 12) [(.tmp 114), (.tmp 116)], none⟩, ⟨(some 29), .mv (.tmp 117), none⟩])
 (.seq (.ops [⟨(some 118), .load true 3 (.tmp 24), none⟩, ⟨(some 119), .mv (.tmp 9), none⟩, ⟨(some 120), .call (.func 13) [(.tmp 118), (.tmp 119)], none⟩, ⟨(some 30), .alloc [(.slice none 0 0)], none⟩, ⟨none, .store 1 (.tmp 30) (.tmp 120), none⟩])
 (.seq (.seq (.ops [⟨(some 121), .load true 3 (.tmp 24), none⟩, ⟨(some 122), .load true 3 (.tmp 12), none⟩, ⟨(some 123), .buildS [(.int .i64 0), (.int .i64 0), (.int .i64 0), (.int .i64 0), (.int .i64 0), (.int .i64 0)] 2 [(0, 3, (.tmp 121)), (3, 3, (.tmp 122))], none⟩, ⟨(some 124), .len false (.tmp 123), none⟩, ⟨(some 125), .mv (.const (.int .i64 0)), none⟩])
 (.block 0 (.loop (.seq (.ops [⟨(some 126), .bin .lss (.tmp 125) (.tmp 124), none⟩])
 (.seq (.cond (.tmp 126) .skip
 (.exit 0))
 (.seq (.block 1 (.seq (.ops [⟨(some 127), .iaddrS 3 (.tmp 123) (.tmp 125), none⟩, ⟨(some 128), .load true 3 (.tmp 127), none⟩, ⟨(some 32), .alloc [(.int .i64 0), (.int .i64 0), (.int .i64 0)], none⟩, ⟨none, .store 3 (.tmp 32) (.tmp 128), none⟩])
 (.seq (.seq (.ops [⟨(some 129), .mv (.tmp 6), none⟩, ⟨(some 130), .mv (.tmp 5), none⟩, ⟨(some 131), .call (.func 12) [(.tmp 130), (.const (.int .i64 200))], none⟩, ⟨(some 132), .conv .u64 (.tmp 131), none⟩, ⟨(some 133), .buildS [(.int .u64 0), (.int .u64 0)] 2 [(0, 1, (.tmp 129)), (1, 1, (.tmp 132))], none⟩, ⟨(some 134), .len false (.tmp 133), none⟩, ⟨(some 135), .mv (.const (.int .i64 0)), none⟩])
 (.block 2 (.loop (.seq (.ops [⟨(some 136), .bin .lss (.tmp 135) (.tmp 134), none⟩])
 (.seq (.cond (.tmp 136) .skip
 (.exit 2))
 (.seq (.block 3 (.seq (.ops [⟨(some 137), .iaddrS 1 (.tmp 133) (.tmp 135), none⟩, ⟨(some 138), .load false 1 (.tmp 137), none⟩, ⟨(some 34), .mv (.tmp 138), none⟩])
 (.seq (.ops [⟨(some 140), .load true 3 (.tmp 32), none⟩, ⟨(some 141), .mv (.tmp 34), none⟩, ⟨(some 142), .call (.func 14) [(.tmp 140), (.tmp 141)], none⟩, ⟨(some 139), .mv (.tmp 142), none⟩, ⟨(some 143), .ext (.tmp 139) 0, none⟩, ⟨(some 144), .ext (.tmp 139) 1, none⟩, ⟨(some 35), .mv (.tmp 143), none⟩, ⟨(some 36), .mv (.tmp 144), none⟩])
 (.seq (.ops [⟨(some 146), .load true 3 (.tmp 32), none⟩, ⟨(some 147), .mv (.tmp 34), none⟩, ⟨(some 148), .call (.func 15) [(.tmp 146), (.tmp 147)], none⟩, ⟨(some 145), .mv (.tmp 148), none⟩, ⟨(some 149), .ext (.tmp 145) 0, none⟩, ⟨(some 150), .ext (.tmp 145) 1, none⟩, ⟨(some 37), .mv (.tmp 149), none⟩, ⟨(some 38), .mv (.tmp 150), none⟩])
 (.seq (.ops [⟨(some 151), .mv (.tmp 35), none⟩, ⟨(some 152), .mv (.tmp 37), none⟩, ⟨(some 153), .bin .neq (.tmp 151) (.tmp 152), none⟩, ⟨(some 154), .mv (.tmp 153), none⟩, ⟨(some 155), .mv (.tmp 36), (some (154, false))⟩, ⟨(some 156), .mv (.tmp 38), (some (154, false))⟩, ⟨(some 157), .eqb true (.tmp 155) (.tmp 156), (some (154, false))⟩, ⟨(some 158), .pick (.tmp 154) (.const (.bool true)) (.tmp 157), none⟩])
 (.cond (.tmp 158) (.seq (.ops [⟨(some 22), .mv (.const (.bool false)), none⟩])
 .ret)
 .skip))))))
 (.ops [⟨(some 159), .bin .add (.tmp 135) (.const (.int .i64 1)), none⟩, ⟨(some 135), .mv (.tmp 159), none⟩])))))))
 (.seq (.seq (.ops [⟨(some 160), .mv (.tmp 25), none⟩, ⟨(some 161), .mv (.tmp 3), none⟩, ⟨(some 162), .mv (.tmp 3), none⟩, ⟨(some 163), .len false (.tmp 162), none⟩, ⟨(some 164), .mm false [(.tmp 163), (.const (.int .i64 30))], none⟩, ⟨(some 165), .slc 2 (.tmp 161) none (some (.tmp 164)) none, none⟩, ⟨(some 166), .buildS [(.slice none 0 0), (.slice none 0 0)] 2 [(0, 1, (.tmp 160)), (1, 1, (.tmp 165))], none⟩, ⟨(some 167), .len false (.tmp 166), none⟩, ⟨(some 168), .mv (.const (.int .i64 0)), none⟩])
 (.block 4 (.loop (.seq (.ops [⟨(some 169), .bin .lss (.tmp 168) (.tmp 167), none⟩])
 (.seq (.cond (.tmp 169) .skip
 (.exit 4))
 (.seq (.block 5 (.seq (.ops [⟨(some 170), .iaddrS 1 (.tmp 166) (.tmp 168), none⟩, ⟨(some 171), .load false 1 (.tmp 170), none⟩, ⟨(some 40), .mv (.tmp 171), none⟩])
 (.seq (.ops [⟨(some 173), .load true 3 (.tmp 32), none⟩, ⟨(some 174), .mv (.tmp 40), none⟩, ⟨(some 175), .call (.func 16) [(.tmp 173), (.tmp 174)], none⟩, ⟨(some 172), .mv (.tmp 175), none⟩, ⟨(some 176), .ext (.tmp 172) 0, none⟩, ⟨(some 177), .ext (.tmp 172) 1, none⟩, ⟨(some 41), .mv (.tmp 176), none⟩, ⟨(some 42), .mv (.tmp 177), none⟩])
 (.seq (.ops [⟨(some 179), .load true 3 (.tmp 32), none⟩, ⟨(some 180), .mv (.tmp 40), none⟩, ⟨(some 181), .call (.func 11) [(.tmp 179), (.tmp 180)], none⟩, ⟨(some 178), .mv (.tmp 181), none⟩, ⟨(some 182), .ext (.tmp 178) 0, none⟩, ⟨(some 183), .ext (.tmp 178) 1, none⟩, ⟨(some 43), .mv (.tmp 182), none⟩, ⟨(some 44), .mv (.tmp 183), none⟩])
 (.seq (.ops [⟨(some 184), .mv (.tmp 42), none⟩, ⟨(some 185), .mv (.tmp 44), none⟩, ⟨(some 186), .bin .neq (.tmp 184) (.tmp 185), none⟩, ⟨(some 187), .mv (.tmp 186), none⟩, ⟨(some 188), .mv (.tmp 41), (some (187, false))⟩, ⟨(some 189), .mv (.tmp 43), (some (187, false))⟩, ⟨(some 190), .call (.func 17) [(.tmp 188), (.tmp 189)], (some (187, false))⟩, ⟨(some 191), .un .not (.tmp 190), (some (187, false))⟩, ⟨(some 192), .pick (.tmp 187) (.const (.bool true)) (.tmp 191), none⟩])
 (.cond (.tmp 192) (.seq (.ops [⟨(some 22), .mv (.const (.bool false)), none⟩])
 .ret)
 .skip))))))
 (.ops [⟨(some 193), .bin .add (.tmp 168) (.const (.int .i64 1)), none⟩, ⟨(some 168), .mv (.tmp 193), none⟩])))))))
 (.seq (.seq (.ops [⟨(some 194), .mv (.tmp 26), none⟩, ⟨(some 195), .mv (.tmp 28), none⟩, ⟨(some 196), .mv (.tmp 4), none⟩, ⟨(some 197), .mv (.tmp 4), none⟩, ⟨(some 198), .len false (.tmp 197), none⟩, ⟨(some 199), .mm false [(.tmp 198), (.const (.int .i64 100))], none⟩, ⟨(some 200), .slc 1 (.tmp 196) none (some (.tmp 199)) none, none⟩, ⟨(some 201), .buildS [(.slice none 0 0), (.slice none 0 0), (.slice none 0 0)] 3 [(0, 1, (.tmp 194)), (1, 1, (.tmp 195)), (2, 1, (.tmp 200))], none⟩, ⟨(some 202), .len false (.tmp 201), none⟩, ⟨(some 203), .mv (.const (.int .i64 0)), none⟩])
 (.block 6 (.loop (.seq (.ops [⟨(some 204), .bin .lss (.tmp 203) (.tmp 202), none⟩])
 (.seq (.cond (.tmp 204) .skip
 (.exit 6))
 (.seq (.block 7 (.seq (.ops [⟨(some 205), .iaddrS 1 (.tmp 201) (.tmp 203), none⟩, ⟨(some 206), .load false 1 (.tmp 205), none⟩, ⟨(some 46), .mv (.tmp 206), none⟩])
 (.seq (.ops [⟨(some 208), .load true 3 (.tmp 32), none⟩, ⟨(some 209), .mv (.tmp 46), none⟩, ⟨(some 210), .call (.func 18) [(.tmp 208), (.tmp 209)], none⟩, ⟨(some 207), .mv (.tmp 210), none⟩, ⟨(some 211), .ext (.tmp 207) 0, none⟩, ⟨(some 212), .ext (.tmp 207) 1, none⟩, ⟨(some 47), .mv (.tmp 211), none⟩, ⟨(some 48), .mv (.tmp 212), none⟩])
 (.seq (.ops [⟨(some 214), .load true 3 (.tmp 32), none⟩, ⟨(some 215), .mv (.tmp 46), none⟩, ⟨(some 216), .call (.func 19) [(.tmp 214), (.tmp 215)], none⟩, ⟨(some 213), .mv (.tmp 216), none⟩, ⟨(some 217), .ext (.tmp 213) 0, none⟩, ⟨(some 218), .ext (.tmp 213) 1, none⟩, ⟨(some 49), .mv (.tmp 217), none⟩, ⟨(some 50), .mv (.tmp 218), none⟩])
 (.seq (.ops [⟨(some 219), .mv (.tmp 48), none⟩, ⟨(some 220), .mv (.tmp 50), none⟩, ⟨(some 221), .bin .neq (.tmp 219) (.tmp 220), none⟩, ⟨(some 222), .mv (.tmp 221), none⟩, ⟨(some 223), .mv (.tmp 47), (some (222, false))⟩, ⟨(some 224), .mv (.tmp 49), (some (222, false))⟩, ⟨(some 225), .call (.func 20) [(.tmp 223), (.tmp 224)], (some (222, false))⟩, ⟨(some 226), .un .not (.tmp 225), (some (222, false))⟩, ⟨(some 227), .pick (.tmp 222) (.const (.bool true)) (.tmp 226), none⟩])
 (.cond (.tmp 227) (.seq (.ops [⟨(some 22), .mv (.const (.bool false)), none⟩])
 .ret)
 .skip))))))
 (.ops [⟨(some 228), .bin .add (.tmp 203) (.const (.int .i64 1)), none⟩, ⟨(some 203), .mv (.tmp 228), none⟩])))))))
 (.seq (.seq (.ops [⟨(some 229), .mv (.tmp 7), none⟩, ⟨(some 230), .mv (.tmp 8), none⟩, ⟨(some 231), .build [(.int .i64 0), (.int .i64 0)] [(0, 1, (.tmp 229)), (1, 1, (.tmp 230))], none⟩, ⟨(some 232), .mv (.tmp 29), none⟩, ⟨(some 233), .mv (.tmp 8), none⟩, ⟨(some 234), .build [(.int .i64 0), (.int .i64 0)] [(0, 1, (.tmp 232)), (1, 1, (.tmp 233))], none⟩, ⟨(some 235), .mv (.tmp 29), none⟩, ⟨(some 236), .mv (.tmp 8), none⟩, ⟨(some 237), .call (.func 12) [(.tmp 236), (.const (.int .i64 20))], none⟩, ⟨(some 238), .build [(.int .i64 0), (.int .i64 0)] [(0, 1, (.tmp 235)), (1, 1, (.tmp 237))], none⟩, ⟨(some 239), .buildS [(.int .i64 0), (.int .i64 0), (.int .i64 0), (.int .i64 0), (.int .i64 0), (.int .i64 0)] 3 [(0, 2, (.tmp 231)), (2, 2, (.tmp 234)), (4, 2, (.tmp 238))], none⟩, ⟨(some 240), .len false (.tmp 239), none⟩, ⟨(some 241), .mv (.const (.int .i64 0)), none⟩])
 (.block 8 (.loop (.seq (.ops [⟨(some 242), .bin .lss (.tmp 241) (.tmp 240), none⟩])
 (.seq (.cond (.tmp 242) .skip
 (.exit 8))
 (.seq (.block 9 (.seq (.ops [⟨(some 243), .iaddrS 2 (.tmp 239) (.tmp 241), none⟩, ⟨(some 244), .load true 2 (.tmp 243), none⟩, ⟨(some 52), .alloc [(.int .i64 0), (.int .i64 0)], none⟩, ⟨none, .store 2 (.tmp 52) (.tmp 244), none⟩])
 (.seq (.ops [⟨(some 246), .load true 3 (.tmp 32), none⟩, ⟨(some 247), .iaddrA 1 2 (.tmp 52) (.const (.int .i64 0)), none⟩, ⟨(some 248), .load false 1 (.tmp 247), none⟩, ⟨(some 249), .iaddrA 1 2 (.tmp 52) (.const (.int .i64 1)), none⟩, ⟨(some 250), .load false 1 (.tmp 249), none⟩, ⟨(some 251), .call (.func 21) [(.tmp 246), (.tmp 248), (.tmp 250)], none⟩, ⟨(some 245), .mv (.tmp 251), none⟩, ⟨(some 252), .ext (.tmp 245) 0, none⟩, ⟨(some 253), .ext (.tmp 245) 1, none⟩, ⟨(some 254), .ext (.tmp 245) 2, none⟩, ⟨(some 53), .mv (.tmp 252), none⟩, ⟨(some 54), .mv (.tmp 253), none⟩, ⟨(some 55), .mv (.tmp 254), none⟩])
 (.seq (.ops [⟨(some 256), .load true 3 (.tmp 32), none⟩, ⟨(some 257), .iaddrA 1 2 (.tmp 52) (.const (.int .i64 0)), none⟩, ⟨(some 258), .load false 1 (.tmp 257), none⟩, ⟨(some 259), .iaddrA 1 2 (.tmp 52) (.const (.int .i64 1)), none⟩, ⟨(some 260), .load false 1 (.tmp 259), none⟩, ⟨(some 261), .call (.func 22) [(.tmp 256), (.tmp 258), (.tmp 260)], none⟩, ⟨(some 255), .mv (.tmp 261), none⟩, ⟨(some 262), .ext (.tmp 255) 0, none⟩, ⟨(some 263), .ext (.tmp 255) 1, none⟩, ⟨(some 264), .ext (.tmp 255) 2, none⟩, ⟨(some 56), .mv (.tmp 262), none⟩, ⟨(some 57), .mv (.tmp 263), none⟩, ⟨(some 58), .mv (.tmp 264), none⟩])
 (.seq (.ops [⟨(some 265), .mv (.tmp 53), none⟩, ⟨(some 266), .mv (.tmp 56), none⟩, ⟨(some 267), .bin .neq (.tmp 265) (.tmp 266), none⟩, ⟨(some 268), .mv (.tmp 267), none⟩, ⟨(some 269), .mv (.tmp 54), (some (268, false))⟩, ⟨(some 270), .mv (.tmp 57), (some (268, false))⟩, ⟨(some 271), .bin .neq (.tmp 269) (.tmp 270), (some (268, false))⟩, ⟨(some 272), .pick (.tmp 268) (.const (.bool true)) (.tmp 271), none⟩, ⟨(some 273), .mv (.tmp 272), none⟩, ⟨(some 274), .mv (.tmp 55), (some (273, false))⟩, ⟨(some 275), .mv (.tmp 58), (some (273, false))⟩, ⟨(some 276), .bin .neq (.tmp 274) (.tmp 275), (some (273, false))⟩, ⟨(some 277), .pick (.tmp 273) (.const (.bool true)) (.tmp 276), none⟩])
 (.cond (.tmp 277) (.seq (.ops [⟨(some 22), .mv (.const (.bool false)), none⟩])
 .ret)
 .skip))))))
 (.ops [⟨(some 278), .bin .add (.tmp 241) (.const (.int .i64 1)), none⟩, ⟨(some 241), .mv (.tmp 278), none⟩])))))))
 (.seq (.draw [⟨⟨(some 279), .load true 1 (.tmp 30), none⟩, []⟩, ⟨⟨(some 280), .load true 3 (.tmp 24), none⟩, []⟩, ⟨⟨(some 281), .load true 1 (.tmp 30), none⟩, []⟩, ⟨⟨(some 282), .mv (.tmp 29), none⟩, []⟩, ⟨⟨(some 283), .mv (.tmp 26), none⟩, []⟩, ⟨⟨(some 285), .load true 3 (.tmp 24), none⟩, []⟩, ⟨⟨(some 286), .load true 1 (.tmp 30), none⟩, []⟩, ⟨⟨(some 287), .mv (.tmp 29), none⟩, []⟩, ⟨⟨(some 288), .mv (.tmp 28), none⟩, []⟩, ⟨⟨(some 290), .faddr 0 (.tmp 21), none⟩, []⟩, ⟨⟨(some 291), .load false 1 (.tmp 290), none⟩, []⟩, ⟨⟨(some 292), .faddr 0 (.tmp 21), none⟩, []⟩, ⟨⟨(some 293), .load false 1 (.tmp 292), none⟩, []⟩, ⟨⟨(some 294), .len false (.tmp 293), none⟩, []⟩, ⟨⟨(some 295), .mm false [(.tmp 294), (.const (.int .i64 200))], none⟩, []⟩, ⟨⟨(some 296), .slc 2 (.tmp 291) none (some (.tmp 295)) none, none⟩, []⟩, ⟨⟨(some 297), .build [(.slice none 0 0)] [(0, 1, (.tmp 296))], none⟩, []⟩, ⟨⟨(some 300), .mv (.const (.int .i64 0)), none⟩, []⟩, ⟨⟨(some 284), .call (.func 23) [(.tmp 280), (.tmp 281), (.tmp 282), (.tmp 283)], none⟩, [⟨(some 279), .load true 1 (.tmp 30), none⟩, ⟨(some 285), .load true 3 (.tmp 24), none⟩, ⟨(some 286), .load true 1 (.tmp 30), none⟩, ⟨(some 291), .load false 1 (.tmp 290), none⟩, ⟨(some 293), .load false 1 (.tmp 292), none⟩]⟩, ⟨⟨(some 289), .call (.func 23) [(.tmp 285), (.tmp 286), (.tmp 287), (.tmp 288)], none⟩, [⟨(some 279), .load true 1 (.tmp 30), none⟩, ⟨(some 291), .load false 1 (.tmp 290), none⟩, ⟨(some 293), .load false 1 (.tmp 292), none⟩]⟩, ⟨⟨(some 298), .buildS [(.slice none 0 0), (.slice none 0 0), (.slice none 0 0), (.slice none 0 0)] 4 [(0, 1, (.tmp 279)), (1, 1, (.tmp 284)), (2, 1, (.tmp 289)), (3, 1, (.tmp 297))], none⟩, []⟩, ⟨⟨(some 299), .len false (.tmp 298), none⟩, []⟩])
 (.block 10 (.loop (.seq (.ops [⟨(some 301), .bin .lss (.tmp 300) (.tmp 299), none⟩])
 (.seq (.cond (.tmp 301) .skip
 (.exit 10))
 (.seq (.block 11 (.seq (.ops [⟨(some 302), .iaddrS 1 (.tmp 298) (.tmp 300), none⟩, ⟨(some 303), .load true 1 (.tmp 302), none⟩, ⟨(some 60), .alloc [(.slice none 0 0)], none⟩, ⟨none, .store 1 (.tmp 60) (.tmp 303), none⟩])
 (.seq (.ops [⟨(some 304), .mv (.tmp 7), none⟩, ⟨(some 305), .mv (.tmp 29), none⟩, ⟨(some 306), .buildS [(.int .i64 0), (.int .i64 0)] 2 [(0, 1, (.tmp 304)), (1, 1, (.tmp 305))], none⟩, ⟨(some 307), .len false (.tmp 306), none⟩, ⟨(some 308), .mv (.const (.int .i64 0)), none⟩])
 (.block 12 (.loop (.seq (.ops [⟨(some 309), .bin .lss (.tmp 308) (.tmp 307), none⟩])
 (.seq (.cond (.tmp 309) .skip
 (.exit 12))
 (.seq (.block 13 (.seq (.ops [⟨(some 310), .iaddrS 1 (.tmp 306) (.tmp 308), none⟩, ⟨(some 311), .load false 1 (.tmp 310), none⟩, ⟨(some 62), .mv (.tmp 311), none⟩])
 (.seq (.ops [⟨(some 313), .load true 3 (.tmp 32), none⟩, ⟨(some 314), .load true 1 (.tmp 60), none⟩, ⟨(some 315), .mv (.tmp 62), none⟩, ⟨(some 316), .call (.func 24) [(.tmp 313), (.tmp 314), (.tmp 315)], none⟩, ⟨(some 312), .mv (.tmp 316), none⟩, ⟨(some 317), .ext (.tmp 312) 0, none⟩, ⟨(some 318), .ext (.tmp 312) 1, none⟩, ⟨(some 63), .alloc [(.slice none 0 0)], none⟩, ⟨none, .store 1 (.tmp 63) (.tmp 317), none⟩, ⟨(some 64), .mv (.tmp 318), none⟩])
 (.seq (.ops [⟨(some 320), .load true 3 (.tmp 32), none⟩, ⟨(some 321), .load true 1 (.tmp 60), none⟩, ⟨(some 322), .mv (.tmp 62), none⟩, ⟨(some 323), .call (.func 25) [(.tmp 320), (.tmp 321), (.tmp 322)], none⟩, ⟨(some 319), .mv (.tmp 323), none⟩, ⟨(some 324), .ext (.tmp 319) 0, none⟩, ⟨(some 325), .ext (.tmp 319) 1, none⟩, ⟨(some 65), .alloc [(.slice none 0 0)], none⟩, ⟨none, .store 1 (.tmp 65) (.tmp 324), none⟩, ⟨(some 66), .mv (.tmp 325), none⟩])
 (.seq (.ops [⟨(some 327), .load true 3 (.tmp 32), none⟩, ⟨(some 328), .load true 1 (.tmp 60), none⟩, ⟨(some 329), .mv (.tmp 62), none⟩, ⟨(some 330), .call (.func 26) [(.tmp 327), (.tmp 328), (.tmp 329)], none⟩, ⟨(some 326), .mv (.tmp 330), none⟩, ⟨(some 331), .ext (.tmp 326) 0, none⟩, ⟨(some 332), .ext (.tmp 326) 1, none⟩, ⟨(some 67), .alloc [(.slice none 0 0)], none⟩, ⟨none, .store 1 (.tmp 67) (.tmp 331), none⟩, ⟨(some 68), .mv (.tmp 332), none⟩])
 (.seq (.ops [⟨(some 334), .load true 3 (.tmp 32), none⟩, ⟨(some 335), .load true 1 (.tmp 60), none⟩, ⟨(some 336), .mv (.tmp 62), none⟩, ⟨(some 337), .call (.func 27) [(.tmp 334), (.tmp 335), (.tmp 336)], none⟩, ⟨(some 333), .mv (.tmp 337), none⟩, ⟨(some 338), .ext (.tmp 333) 0, none⟩, ⟨(some 339), .ext (.tmp 333) 1, none⟩, ⟨(some 69), .alloc [(.slice none 0 0)], none⟩, ⟨none, .store 1 (.tmp 69) (.tmp 338), none⟩, ⟨(some 70), .mv (.tmp 339), none⟩])
 (.seq (.ops [⟨(some 340), .mv (.tmp 64), none⟩, ⟨(some 341), .mv (.tmp 66), none⟩, ⟨(some 342), .bin .neq (.tmp 340) (.tmp 341), none⟩, ⟨(some 343), .mv (.tmp 342), none⟩, ⟨(some 344), .load true 1 (.tmp 63), (some (343, false))⟩, ⟨(some 345), .load true 1 (.tmp 65), (some (343, false))⟩, ⟨(some 346), .call (.func 28) [(.tmp 344), (.tmp 345)], (some (343, false))⟩, ⟨(some 347), .un .not (.tmp 346), (some (343, false))⟩, ⟨(some 348), .pick (.tmp 343) (.const (.bool true)) (.tmp 347), none⟩, ⟨(some 349), .mv (.tmp 348), none⟩, ⟨(some 350), .mv (.tmp 68), (some (349, false))⟩, ⟨(some 351), .mv (.tmp 70), (some (349, false))⟩, ⟨(some 352), .bin .neq (.tmp 350) (.tmp 351), (some (349, false))⟩, ⟨(some 353), .pick (.tmp 349) (.const (.bool true)) (.tmp 352), none⟩, ⟨(some 354), .mv (.tmp 353), none⟩, ⟨(some 355), .load true 1 (.tmp 67), (some (354, false))⟩, ⟨(some 356), .load true 1 (.tmp 69), (some (354, false))⟩, ⟨(some 357), .call (.func 28) [(.tmp 355), (.tmp 356)], (some (354, false))⟩, ⟨(some 358), .un .not (.tmp 357), (some (354, false))⟩, ⟨(some 359), .pick (.tmp 354) (.const (.bool true)) (.tmp 358), none⟩])
 (.cond (.tmp 359) (.seq (.ops [⟨(some 22), .mv (.const (.bool false)), none⟩])
 .ret)
 .skip))))))))
 (.ops [⟨(some 360), .bin .add (.tmp 308) (.const (.int .i64 1)), none⟩, ⟨(some 308), .mv (.tmp 360), none⟩])))))))))
 (.ops [⟨(some 361), .bin .add (.tmp 300) (.const (.int .i64 1)), none⟩, ⟨(some 300), .mv (.tmp 361), none⟩])))))))))))))
 (.ops [⟨(some 362), .bin .add (.tmp 125) (.const (.int .i64 1)), none⟩, ⟨(some 125), .mv (.tmp 362), none⟩])))))))
 (.seq (.ops [⟨(some 363), .mv (.tmp 23), none⟩, ⟨(some 22), .mv (.tmp 363), none⟩])
 .ret)))))))))))),
 364, [.tmp 22]⟩
theorem lowlT : lowerFn Tryd.prog Tryd.f3 = some LlT := by kernel_rfl
noncomputable def GlT (B : OH) : Nat → Cs
  | 9 => Vlaw16Conf B
  | 13 => VlM B
  | 23 => VlH B
  | 10 => VlW B
  | 8 => VlA B
  | 12 => Vlaw16pick B
  | 28 => Vref03Same B
  | 20 => Vref05Writes B
  | 17 => Vref10Words B
  | 25 => VrL B
  | 11 => VrP B
  | 15 => Vref16Place B
  | 22 => Vref16Spot B
  | 19 => VrU B
  | 27 => VrW B
  | 24 => VgL B
  | 16 => VgP B
  | 14 => VwlogPlace B
  | 21 => VwlogSpot B
  | 18 => VgU B
  | 26 => VgW B
  | _ => fun _ _ _ => none
theorem GlT_law16Conf {B : OH} : GlT B 9 = Vlaw16Conf B := rfl
theorem GlT_lM {B : OH} : GlT B 13 = VlM B := rfl
theorem GlT_lH {B : OH} : GlT B 23 = VlH B := rfl
theorem GlT_lW {B : OH} : GlT B 10 = VlW B := rfl
theorem GlT_lA {B : OH} : GlT B 8 = VlA B := rfl
theorem GlT_law16pick {B : OH} : GlT B 12 = Vlaw16pick B := rfl
theorem GlT_ref03Same {B : OH} : GlT B 28 = Vref03Same B := rfl
theorem GlT_ref05Writes {B : OH} : GlT B 20 = Vref05Writes B := rfl
theorem GlT_ref10Words {B : OH} : GlT B 17 = Vref10Words B := rfl
theorem GlT_rL {B : OH} : GlT B 25 = VrL B := rfl
theorem GlT_rP {B : OH} : GlT B 11 = VrP B := rfl
theorem GlT_ref16Place {B : OH} : GlT B 15 = Vref16Place B := rfl
theorem GlT_ref16Spot {B : OH} : GlT B 22 = Vref16Spot B := rfl
theorem GlT_rU {B : OH} : GlT B 19 = VrU B := rfl
theorem GlT_rW {B : OH} : GlT B 27 = VrW B := rfl
theorem GlT_gL {B : OH} : GlT B 24 = VgL B := rfl
theorem GlT_gP {B : OH} : GlT B 16 = VgP B := rfl
theorem GlT_wlogPlace {B : OH} : GlT B 14 = VwlogPlace B := rfl
theorem GlT_wlogSpot {B : OH} : GlT B 21 = VwlogSpot B := rfl
theorem GlT_gU {B : OH} : GlT B 18 = VgU B := rfl
theorem GlT_gW {B : OH} : GlT B 26 = VgW B := rfl
theorem sGlT {w0 : World} {B : OH} : SoundG Tryd.prog w0 B { f := GlT B } := .of fun k => by
  unfold GlT
  split
  · exact .inr ⟨enlaw16Conf, sVlaw16Conf⟩
  · exact .inr ⟨enlM, sVlM⟩
  · exact .inr ⟨enlH, sVlH⟩
  · exact .inr ⟨enlW, sVlW⟩
  · exact .inr ⟨enlA, sVlA⟩
  · exact .inr ⟨enlaw16pick, sVlaw16pick⟩
  · exact .inr ⟨enref03Same, sVref03Same⟩
  · exact .inr ⟨enref05Writes, sVref05Writes⟩
  · exact .inr ⟨enref10Words, sVref10Words⟩
  · exact .inr ⟨enrL, sVrL⟩
  · exact .inr ⟨enrP, sVrP⟩
  · exact .inr ⟨enref16Place, sVref16Place⟩
  · exact .inr ⟨enref16Spot, sVref16Spot⟩
  · exact .inr ⟨enrU, sVrU⟩
  · exact .inr ⟨enrW, sVrW⟩
  · exact .inr ⟨engL, sVgL⟩
  · exact .inr ⟨engP, sVgP⟩
  · exact .inr ⟨enwlogPlace, sVwlogPlace⟩
  · exact .inr ⟨enwlogSpot, sVwlogSpot⟩
  · exact .inr ⟨engU, sVgU⟩
  · exact .inr ⟨engW, sVgW⟩
  · exact .inl fun _ _ _ => rfl
noncomputable def TlT (B : OH) : Cs := callF B { f := GlT B } 1000000 LlT
structure KTt (c0 : Nat) (vl va vt : Value) (q ma mm_ : Nat) (vy vw : Value) (xat xx xp xi : Int) (vds : Value) (di : Nat) (ts : List Value) : Prop where
  l : ts.length = 364
  t23 : gt ts 23 = .bool true
  t24 : gt ts 24 = .pointer (some ⟨c0, 0, none⟩)
  t25 : gt ts 25 = vl
  t26 : gt ts 26 = va
  t28 : gt ts 28 = vt
  t29 : gt ts 29 = .int .i64 (q : Int)
  t30 : gt ts 30 = .pointer (some ⟨ma, 0, none⟩)
  t21 : gt ts 21 = .pointer (some ⟨mm_, 0, none⟩)
  t3 : gt ts 3 = vy
  t4 : gt ts 4 = vw
  t5 : gt ts 5 = .int .i64 xat
  t6 : gt ts 6 = .int .u64 xx
  t7 : gt ts 7 = .int .i64 xp
  t8 : gt ts 8 = .int .i64 xi
  t123 : gt ts 123 = vds
  t124 : gt ts 124 = .int .i64 2
  t125 : gt ts 125 = .int .i64 (di : Int)
structure KTd (c0 : Nat) (vl va vt : Value) (q ma mm_ : Nat) (vy vw : Value) (xat xx xp xi : Int) (vds : Value) (di : Nat) (d : Nat) (ts : List Value) : Prop where
  l : ts.length = 364
  t23 : gt ts 23 = .bool true
  t24 : gt ts 24 = .pointer (some ⟨c0, 0, none⟩)
  t25 : gt ts 25 = vl
  t26 : gt ts 26 = va
  t28 : gt ts 28 = vt
  t29 : gt ts 29 = .int .i64 (q : Int)
  t30 : gt ts 30 = .pointer (some ⟨ma, 0, none⟩)
  t21 : gt ts 21 = .pointer (some ⟨mm_, 0, none⟩)
  t3 : gt ts 3 = vy
  t4 : gt ts 4 = vw
  t5 : gt ts 5 = .int .i64 xat
  t6 : gt ts 6 = .int .u64 xx
  t7 : gt ts 7 = .int .i64 xp
  t8 : gt ts 8 = .int .i64 xi
  t123 : gt ts 123 = vds
  t124 : gt ts 124 = .int .i64 2
  t125 : gt ts 125 = .int .i64 (di : Int)
  t32 : gt ts 32 = .pointer (some ⟨d, 0, none⟩)

structure KTPl (c0 : Nat) (vl va vt : Value) (q ma mm_ : Nat) (vy vw : Value) (xat xx xp xi : Int) (vds : Value) (di : Nat) (d : Nat) (vs : Value) (n i : Nat) (ts : List Value) : Prop where
  l : ts.length = 364
  t23 : gt ts 23 = .bool true
  t24 : gt ts 24 = .pointer (some ⟨c0, 0, none⟩)
  t25 : gt ts 25 = vl
  t26 : gt ts 26 = va
  t28 : gt ts 28 = vt
  t29 : gt ts 29 = .int .i64 (q : Int)
  t30 : gt ts 30 = .pointer (some ⟨ma, 0, none⟩)
  t21 : gt ts 21 = .pointer (some ⟨mm_, 0, none⟩)
  t3 : gt ts 3 = vy
  t4 : gt ts 4 = vw
  t5 : gt ts 5 = .int .i64 xat
  t6 : gt ts 6 = .int .u64 xx
  t7 : gt ts 7 = .int .i64 xp
  t8 : gt ts 8 = .int .i64 xi
  t123 : gt ts 123 = vds
  t124 : gt ts 124 = .int .i64 2
  t125 : gt ts 125 = .int .i64 (di : Int)
  t32 : gt ts 32 = .pointer (some ⟨d, 0, none⟩)
  t133 : gt ts 133 = vs
  t134 : gt ts 134 = .int .i64 (n : Int)
  t135 : gt ts 135 = .int .i64 (i : Int)
def lbTPl : LC := (.seq (.ops [⟨(some 136), .bin .lss (.tmp 135) (.tmp 134), none⟩])
 (.seq (.cond (.tmp 136) .skip
 (.exit 2))
 (.seq (.block 3 (.seq (.ops [⟨(some 137), .iaddrS 1 (.tmp 133) (.tmp 135), none⟩, ⟨(some 138), .load false 1 (.tmp 137), none⟩, ⟨(some 34), .mv (.tmp 138), none⟩])
 (.seq (.ops [⟨(some 140), .load true 3 (.tmp 32), none⟩, ⟨(some 141), .mv (.tmp 34), none⟩, ⟨(some 142), .call (.func 14) [(.tmp 140), (.tmp 141)], none⟩, ⟨(some 139), .mv (.tmp 142), none⟩, ⟨(some 143), .ext (.tmp 139) 0, none⟩, ⟨(some 144), .ext (.tmp 139) 1, none⟩, ⟨(some 35), .mv (.tmp 143), none⟩, ⟨(some 36), .mv (.tmp 144), none⟩])
 (.seq (.ops [⟨(some 146), .load true 3 (.tmp 32), none⟩, ⟨(some 147), .mv (.tmp 34), none⟩, ⟨(some 148), .call (.func 15) [(.tmp 146), (.tmp 147)], none⟩, ⟨(some 145), .mv (.tmp 148), none⟩, ⟨(some 149), .ext (.tmp 145) 0, none⟩, ⟨(some 150), .ext (.tmp 145) 1, none⟩, ⟨(some 37), .mv (.tmp 149), none⟩, ⟨(some 38), .mv (.tmp 150), none⟩])
 (.seq (.ops [⟨(some 151), .mv (.tmp 35), none⟩, ⟨(some 152), .mv (.tmp 37), none⟩, ⟨(some 153), .bin .neq (.tmp 151) (.tmp 152), none⟩, ⟨(some 154), .mv (.tmp 153), none⟩, ⟨(some 155), .mv (.tmp 36), (some (154, false))⟩, ⟨(some 156), .mv (.tmp 38), (some (154, false))⟩, ⟨(some 157), .eqb true (.tmp 155) (.tmp 156), (some (154, false))⟩, ⟨(some 158), .pick (.tmp 154) (.const (.bool true)) (.tmp 157), none⟩])
 (.cond (.tmp 158) (.seq (.ops [⟨(some 22), .mv (.const (.bool false)), none⟩])
 .ret)
 .skip))))))
 (.ops [⟨(some 159), .bin .add (.tmp 135) (.const (.int .i64 1)), none⟩, ⟨(some 135), .mv (.tmp 159), none⟩]))))
set_option maxHeartbeats 4000000 in
theorem loopTPl {B : OH} {H : HL} {N : St} {c0 : Nat} {vl va vt : Value} {q ma mm_ : Nat} {vy vw : Value} {xat xx xp xi : Int} {vds : Value} {di : Nat} {d : Nat} {vs : Value} {k p c : Int} {L : List Int} (sv : SlR w1 1 B H vs L) (hL : U64s L) (hLl : L.length ≤ 1000) (hT : Tab B) (hN : good B H N) (bd : B d = none) (ld : lk H d = some (.cells [.int .i64 k, .int .i64 p, .int .i64 c] 3)) {ts : List Value} (kp : KTPl c0 vl va vt q ma mm_ vy vw xat xx xp xi vds di d vs L.length 0 ts) {F : Nat} (hF : 3000 + L.length + 1 ≤ F) :
    Ok (exec B { f := GlT B } F (LC.loop lbTPl) ⟨ts, H, N⟩) (fun r s => r = .exit 2 ∧ good B s.H s.N ∧ Fr H s.H ∧ KTd c0 vl va vt q ma mm_ vy vw xat xx xp xi vds di d s.t) := by
  refine loop_rule (n0 := 3000) (fun r s => ∃ ts H' N', ∃ i : Nat, s = ⟨ts, H', N'⟩ ∧ KTPl c0 vl va vt q ma mm_ vy vw xat xx xp xi vds di d vs L.length i ts ∧ good B H' N' ∧ Fr H H' ∧ i ≤ L.length ∧ r = L.length - i) _ ?_ L.length _ ⟨ts, H, N, 0, rfl, kp, hN, Fr.refl, by omega, rfl⟩ _ hF
  clear kp hF F ts hN N
  rintro z r s ⟨ts, H1, N1, i, rfl, kp, g1, fk, hi, rfl⟩
  have hB := good_B g1
  have hR := good_rdB g1
  have hI := beqN g1.1.1
  have hG : ∃ H N, good B H N := ⟨H1, N1, g1⟩
  have ld1 := fk _ _ ld
  have rd_ := fun o n => rdB_none (o := o) (n := n) bd
  have nd1 := ne_N g1 ld1
  have hc1 : ((i + 1 : Nat) : Int) = (i : Int) + 1 := by omega
  by_cases hin : i < L.length
  case neg =>
    have h1' : ¬ (i : Int) < (L.length : Int) := by omega
    simp -implicitDefEqProofs (maxSteps := 10000000) (disch := omega) only [TlT, LlT, GlT_law16Conf, Vlaw16Conf_eq, GlT_lM, GlT_lH, GlT_lW, GlT_lA, GlT_law16pick, Vlaw16pick_eq, GlT_ref03Same, GlT_ref05Writes, GlT_ref10Words, GlT_rL, GlT_rP, GlT_ref16Place, Vref16Place_eq, GlT_ref16Spot, Vref16Spot_eq, GlT_rU, GlT_rW, GlT_gL, GlT_gP, GlT_wlogPlace, VwlogPlace_eq, GlT_wlogSpot, VwlogSpot_eq, GlT_gU, GlT_gW, hB, hR, hI, lbTPl, kp.l, kp.t23, kp.t24, kp.t25, kp.t26, kp.t28, kp.t29, kp.t30, kp.t21, kp.t3, kp.t4, kp.t5, kp.t6, kp.t7, kp.t8, kp.t123, kp.t124, kp.t125, kp.t32, kp.t133, kp.t134, kp.t135, h1', bt, bf, all1, ress, res1, retV, Value.cells, reduceIte, reduceCtorEq, Int.reduceLT, Int.reduceLE, Int.reduceToNat, Int.reduceAdd, Int.reduceSub, Int.reduceMul, Int.reduceNeg, Nat.reduceMul, Nat.reduceAdd, Nat.reduceSub, Nat.reduceBEq, Nat.reduceEqDiff, Nat.reduceLT, Nat.reduceLeDiff, Int.reduceBEq, Int.reduceEq, Nat.reducePow, Int.reducePow, Int.reduceGT, Int.reduceGE, Int.reduceBNe, newsV_s, ev1, ev2, ev3, ev4]
    refine ok_some (.inr ⟨by simp, rfl, g1, fk, ⟨?_, ?_, ?_, ?_, ?_, ?_, ?_, ?_, ?_, ?_, ?_, ?_, ?_, ?_, ?_, ?_, ?_, ?_, ?_⟩⟩)
    all_goals simp (maxSteps := 10000000) (disch := omega) only [kp.l, kp.t23, kp.t24, kp.t25, kp.t26, kp.t28, kp.t29, kp.t30, kp.t21, kp.t3, kp.t4, kp.t5, kp.t6, kp.t7, kp.t8, kp.t123, kp.t124, kp.t125, kp.t32, kp.t133, kp.t134, kp.t135, lenV_sl, Int.toNat_natCast, bft, btf, gtst, st_len, Nat.reduceAdd, Int.cast_ofNat_Int, Nat.reduceBEq, Nat.reduceLT, decide_true, ev2]
  have hin' : (i : Int) < (L.length : Int) := by omega
  have i0 : (0 : Int) ≤ (i : Int) := by omega
  obtain ⟨bs_, os_, cs_, rfl, ds_, rs_⟩ := sv.at (by omega)
  have r1 : rdO H1 B bs_ (os_ + i * 1) 1 (rdB B bs_ (os_ + i * 1) 1) = some [.int .u64 (L.getD i 0)] := (rs_ H1 fk i 0 1 0 hin (by omega)).trans rfl
  obtain ⟨s1, b1, eP, eR⟩ := bothPlace hG hT k p c (hL.at i)
  have gE := g1
  have fE := fk
  simp -implicitDefEqProofs (maxSteps := 10000000) (disch := omega) only [TlT, LlT, GlT_law16Conf, Vlaw16Conf_eq, GlT_lM, GlT_lH, GlT_lW, GlT_lA, GlT_law16pick, Vlaw16pick_eq, GlT_ref03Same, GlT_ref05Writes, GlT_ref10Words, GlT_rL, GlT_rP, GlT_ref16Place, Vref16Place_eq, GlT_ref16Spot, Vref16Spot_eq, GlT_rU, GlT_rW, GlT_gL, GlT_gP, GlT_wlogPlace, VwlogPlace_eq, GlT_wlogSpot, VwlogSpot_eq, GlT_gU, GlT_gW, hB, hR, hI, lbTPl, kp.l, kp.t23, kp.t24, kp.t25, kp.t26, kp.t28, kp.t29, kp.t30, kp.t21, kp.t3, kp.t4, kp.t5, kp.t6, kp.t7, kp.t8, kp.t123, kp.t124, kp.t125, kp.t32, kp.t133, kp.t134, kp.t135, hin, hin', i0, ld1, bd, rd_, nd1, r1, eP, eR, bxx, bne_self_eq_false, bt, bf, all1, ress, res1, retV, Value.cells, reduceIte, reduceCtorEq, Int.reduceLT, Int.reduceLE, Int.reduceToNat, Int.reduceAdd, Int.reduceSub, Int.reduceMul, Int.reduceNeg, Nat.reduceMul, Nat.reduceAdd, Nat.reduceSub, Nat.reduceBEq, Nat.reduceEqDiff, Nat.reduceLT, Nat.reduceLeDiff, Int.reduceBEq, Int.reduceEq, Nat.reducePow, Int.reducePow, Int.reduceGT, Int.reduceGE, Int.reduceBNe, newsV_s, ev1, ev2, ev3, ev4]
  refine ok_some (.inl ⟨rfl, L.length - (i + 1), by omega, _, _, _, i + 1, rfl, ⟨?_, ?_, ?_, ?_, ?_, ?_, ?_, ?_, ?_, ?_, ?_, ?_, ?_, ?_, ?_, ?_, ?_, ?_, ?_, ?_, ?_, ?_⟩, gE, fE, by omega, rfl⟩)
  all_goals simp (maxSteps := 10000000) (disch := omega) only [kp.l, kp.t23, kp.t24, kp.t25, kp.t26, kp.t28, kp.t29, kp.t30, kp.t21, kp.t3, kp.t4, kp.t5, kp.t6, kp.t7, kp.t8, kp.t123, kp.t124, kp.t125, kp.t32, kp.t133, kp.t134, kp.t135, lenV_sl, Int.toNat_natCast, bft, btf, gtst, st_len, hc1, Nat.reduceAdd, Int.cast_ofNat_Int, Nat.reduceBEq, Nat.reduceLT, decide_true, ev2]

def fv (v : Value) : List Value := [v]
theorem fv_len (v : Value) : (fv v).length = 1 := rfl

structure KTPk (c0 : Nat) (vl va vt : Value) (q ma mm_ : Nat) (vy vw : Value) (xat xx xp xi : Int) (vds : Value) (di : Nat) (d : Nat) (vs : Value) (n i : Nat) (ts : List Value) : Prop where
  l : ts.length = 364
  t23 : gt ts 23 = .bool true
  t24 : gt ts 24 = .pointer (some ⟨c0, 0, none⟩)
  t25 : gt ts 25 = vl
  t26 : gt ts 26 = va
  t28 : gt ts 28 = vt
  t29 : gt ts 29 = .int .i64 (q : Int)
  t30 : gt ts 30 = .pointer (some ⟨ma, 0, none⟩)
  t21 : gt ts 21 = .pointer (some ⟨mm_, 0, none⟩)
  t3 : gt ts 3 = vy
  t4 : gt ts 4 = vw
  t5 : gt ts 5 = .int .i64 xat
  t6 : gt ts 6 = .int .u64 xx
  t7 : gt ts 7 = .int .i64 xp
  t8 : gt ts 8 = .int .i64 xi
  t123 : gt ts 123 = vds
  t124 : gt ts 124 = .int .i64 2
  t125 : gt ts 125 = .int .i64 (di : Int)
  t32 : gt ts 32 = .pointer (some ⟨d, 0, none⟩)
  t166 : gt ts 166 = vs
  t167 : gt ts 167 = .int .i64 (n : Int)
  t168 : gt ts 168 = .int .i64 (i : Int)
def lbTPk : LC := (.seq (.ops [⟨(some 169), .bin .lss (.tmp 168) (.tmp 167), none⟩])
 (.seq (.cond (.tmp 169) .skip
 (.exit 4))
 (.seq (.block 5 (.seq (.ops [⟨(some 170), .iaddrS 1 (.tmp 166) (.tmp 168), none⟩, ⟨(some 171), .load false 1 (.tmp 170), none⟩, ⟨(some 40), .mv (.tmp 171), none⟩])
 (.seq (.ops [⟨(some 173), .load true 3 (.tmp 32), none⟩, ⟨(some 174), .mv (.tmp 40), none⟩, ⟨(some 175), .call (.func 16) [(.tmp 173), (.tmp 174)], none⟩, ⟨(some 172), .mv (.tmp 175), none⟩, ⟨(some 176), .ext (.tmp 172) 0, none⟩, ⟨(some 177), .ext (.tmp 172) 1, none⟩, ⟨(some 41), .mv (.tmp 176), none⟩, ⟨(some 42), .mv (.tmp 177), none⟩])
 (.seq (.ops [⟨(some 179), .load true 3 (.tmp 32), none⟩, ⟨(some 180), .mv (.tmp 40), none⟩, ⟨(some 181), .call (.func 11) [(.tmp 179), (.tmp 180)], none⟩, ⟨(some 178), .mv (.tmp 181), none⟩, ⟨(some 182), .ext (.tmp 178) 0, none⟩, ⟨(some 183), .ext (.tmp 178) 1, none⟩, ⟨(some 43), .mv (.tmp 182), none⟩, ⟨(some 44), .mv (.tmp 183), none⟩])
 (.seq (.ops [⟨(some 184), .mv (.tmp 42), none⟩, ⟨(some 185), .mv (.tmp 44), none⟩, ⟨(some 186), .bin .neq (.tmp 184) (.tmp 185), none⟩, ⟨(some 187), .mv (.tmp 186), none⟩, ⟨(some 188), .mv (.tmp 41), (some (187, false))⟩, ⟨(some 189), .mv (.tmp 43), (some (187, false))⟩, ⟨(some 190), .call (.func 17) [(.tmp 188), (.tmp 189)], (some (187, false))⟩, ⟨(some 191), .un .not (.tmp 190), (some (187, false))⟩, ⟨(some 192), .pick (.tmp 187) (.const (.bool true)) (.tmp 191), none⟩])
 (.cond (.tmp 192) (.seq (.ops [⟨(some 22), .mv (.const (.bool false)), none⟩])
 .ret)
 .skip))))))
 (.ops [⟨(some 193), .bin .add (.tmp 168) (.const (.int .i64 1)), none⟩, ⟨(some 168), .mv (.tmp 193), none⟩]))))
set_option maxHeartbeats 4000000 in
theorem loopTPk {B : OH} {H : HL} {N : St} {c0 : Nat} {vl va vt : Value} {q ma mm_ : Nat} {vy vw : Value} {xat xx xp xi : Int} {vds : Value} {di : Nat} {d : Nat} {vs : Value} {k p c : Int} {L : List Value} (sv : SlR fv 1 B H vs L) (hL : ∀ v ∈ L, ∃ l : List W2, SlR w2 2 B H v l ∧ W2s l) (hLl : L.length ≤ 1000) (hT : Tab B) (hN : good B H N) (bd : B d = none) (ld : lk H d = some (.cells [.int .i64 k, .int .i64 p, .int .i64 c] 3)) {ts : List Value} (kp : KTPk c0 vl va vt q ma mm_ vy vw xat xx xp xi vds di d vs L.length 0 ts) {F : Nat} (hF : 3000 + L.length + 1 ≤ F) :
    Ok (exec B { f := GlT B } F (LC.loop lbTPk) ⟨ts, H, N⟩) (fun r s => r = .exit 4 ∧ good B s.H s.N ∧ Fr H s.H ∧ KTd c0 vl va vt q ma mm_ vy vw xat xx xp xi vds di d s.t) := by
  refine loop_rule (n0 := 3000) (fun r s => ∃ ts H' N', ∃ i : Nat, s = ⟨ts, H', N'⟩ ∧ KTPk c0 vl va vt q ma mm_ vy vw xat xx xp xi vds di d vs L.length i ts ∧ good B H' N' ∧ Fr H H' ∧ i ≤ L.length ∧ r = L.length - i) _ ?_ L.length _ ⟨ts, H, N, 0, rfl, kp, hN, Fr.refl, by omega, rfl⟩ _ hF
  clear kp hF F ts hN N
  rintro z r s ⟨ts, H1, N1, i, rfl, kp, g1, fk, hi, rfl⟩
  have hB := good_B g1
  have hR := good_rdB g1
  have hI := beqN g1.1.1
  have hG : ∃ H N, good B H N := ⟨H1, N1, g1⟩
  have ld1 := fk _ _ ld
  have rd_ := fun o n => rdB_none (o := o) (n := n) bd
  have nd1 := ne_N g1 ld1
  have hc1 : ((i + 1 : Nat) : Int) = (i : Int) + 1 := by omega
  by_cases hin : i < L.length
  case neg =>
    have h1' : ¬ (i : Int) < (L.length : Int) := by omega
    simp -implicitDefEqProofs (maxSteps := 10000000) (disch := omega) only [TlT, LlT, GlT_law16Conf, Vlaw16Conf_eq, GlT_lM, GlT_lH, GlT_lW, GlT_lA, GlT_law16pick, Vlaw16pick_eq, GlT_ref03Same, GlT_ref05Writes, GlT_ref10Words, GlT_rL, GlT_rP, GlT_ref16Place, Vref16Place_eq, GlT_ref16Spot, Vref16Spot_eq, GlT_rU, GlT_rW, GlT_gL, GlT_gP, GlT_wlogPlace, VwlogPlace_eq, GlT_wlogSpot, VwlogSpot_eq, GlT_gU, GlT_gW, hB, hR, hI, lbTPk, kp.l, kp.t23, kp.t24, kp.t25, kp.t26, kp.t28, kp.t29, kp.t30, kp.t21, kp.t3, kp.t4, kp.t5, kp.t6, kp.t7, kp.t8, kp.t123, kp.t124, kp.t125, kp.t32, kp.t166, kp.t167, kp.t168, h1', bt, bf, all1, ress, res1, retV, Value.cells, reduceIte, reduceCtorEq, Int.reduceLT, Int.reduceLE, Int.reduceToNat, Int.reduceAdd, Int.reduceSub, Int.reduceMul, Int.reduceNeg, Nat.reduceMul, Nat.reduceAdd, Nat.reduceSub, Nat.reduceBEq, Nat.reduceEqDiff, Nat.reduceLT, Nat.reduceLeDiff, Int.reduceBEq, Int.reduceEq, Nat.reducePow, Int.reducePow, Int.reduceGT, Int.reduceGE, Int.reduceBNe, newsV_s, ev1, ev2, ev3, ev4]
    refine ok_some (.inr ⟨by simp, rfl, g1, fk, ⟨?_, ?_, ?_, ?_, ?_, ?_, ?_, ?_, ?_, ?_, ?_, ?_, ?_, ?_, ?_, ?_, ?_, ?_, ?_⟩⟩)
    all_goals simp (maxSteps := 10000000) (disch := omega) only [kp.l, kp.t23, kp.t24, kp.t25, kp.t26, kp.t28, kp.t29, kp.t30, kp.t21, kp.t3, kp.t4, kp.t5, kp.t6, kp.t7, kp.t8, kp.t123, kp.t124, kp.t125, kp.t32, kp.t166, kp.t167, kp.t168, lenV_sl, Int.toNat_natCast, bft, btf, gtst, st_len, Nat.reduceAdd, Int.cast_ofNat_Int, Nat.reduceBEq, Nat.reduceLT, decide_true, ev2]
  have hin' : (i : Int) < (L.length : Int) := by omega
  have i0 : (0 : Int) ≤ (i : Int) := by omega
  obtain ⟨bs_, os_, cs_, rfl, ds_, rs_⟩ := sv.at (by omega)
  obtain ⟨l, hl, hw⟩ := hL _ (List.mem_of_getElem? (some_getD (d := .slice none 0 0) hin))
  have r1 : rdO H1 B bs_ (os_ + i * 1) 1 (rdB B bs_ (os_ + i * 1) 1) = some [L.getD i (.slice none 0 0)] := (rs_ H1 fk i 0 1 _ hin (by omega)).trans rfl
  generalize L.getD i (.slice none 0 0) = v at *
  obtain ⟨E, W, hW, hb⟩ := bothPack hT k p c (vl := v) hw
  obtain ⟨v2, H2, N2, e2, g2, f2, s2⟩ := (hb H1 N1 g1 (hl.mono fk)).1
  have ld2 := f2 _ _ ld1
  have nd2 := ne_N g2 ld2
  obtain ⟨v3, H3, N3, e3, g3, f3, s3⟩ := (hb H2 N2 g2 (hl.mono (fk.trans f2))).2
  simp only at e2 e3
  have eq := sameref10Words g3 (s2.mono f3) s3 hW
  rw [decide_eq_true rfl] at eq
  have gE := g3
  have fE := (fk.trans f2).trans f3
  simp -implicitDefEqProofs (maxSteps := 10000000) (disch := omega) only [TlT, LlT, GlT_law16Conf, Vlaw16Conf_eq, GlT_lM, GlT_lH, GlT_lW, GlT_lA, GlT_law16pick, Vlaw16pick_eq, GlT_ref03Same, GlT_ref05Writes, GlT_ref10Words, GlT_rL, GlT_rP, GlT_ref16Place, Vref16Place_eq, GlT_ref16Spot, Vref16Spot_eq, GlT_rU, GlT_rW, GlT_gL, GlT_gP, GlT_wlogPlace, VwlogPlace_eq, GlT_wlogSpot, VwlogSpot_eq, GlT_gU, GlT_gW, hB, hR, hI, lbTPk, kp.l, kp.t23, kp.t24, kp.t25, kp.t26, kp.t28, kp.t29, kp.t30, kp.t21, kp.t3, kp.t4, kp.t5, kp.t6, kp.t7, kp.t8, kp.t123, kp.t124, kp.t125, kp.t32, kp.t166, kp.t167, kp.t168, hin, hin', i0, ld1, bd, rd_, nd1, r1, e2, e3, eq, ld2, nd2, good_B g2, good_rdB g2, bxx, bne_self_eq_false, bt, bf, all1, ress, res1, retV, Value.cells, reduceIte, reduceCtorEq, Int.reduceLT, Int.reduceLE, Int.reduceToNat, Int.reduceAdd, Int.reduceSub, Int.reduceMul, Int.reduceNeg, Nat.reduceMul, Nat.reduceAdd, Nat.reduceSub, Nat.reduceBEq, Nat.reduceEqDiff, Nat.reduceLT, Nat.reduceLeDiff, Int.reduceBEq, Int.reduceEq, Nat.reducePow, Int.reducePow, Int.reduceGT, Int.reduceGE, Int.reduceBNe, newsV_s, ev1, ev2, ev3, ev4]
  refine ok_some (.inl ⟨rfl, L.length - (i + 1), by omega, _, _, _, i + 1, rfl, ⟨?_, ?_, ?_, ?_, ?_, ?_, ?_, ?_, ?_, ?_, ?_, ?_, ?_, ?_, ?_, ?_, ?_, ?_, ?_, ?_, ?_, ?_⟩, gE, fE, by omega, rfl⟩)
  all_goals simp (maxSteps := 10000000) (disch := omega) only [kp.l, kp.t23, kp.t24, kp.t25, kp.t26, kp.t28, kp.t29, kp.t30, kp.t21, kp.t3, kp.t4, kp.t5, kp.t6, kp.t7, kp.t8, kp.t123, kp.t124, kp.t125, kp.t32, kp.t166, kp.t167, kp.t168, lenV_sl, Int.toNat_natCast, bft, btf, gtst, st_len, hc1, Nat.reduceAdd, Int.cast_ofNat_Int, Nat.reduceBEq, Nat.reduceLT, decide_true, ev2]

structure KTUn (c0 : Nat) (vl va vt : Value) (q ma mm_ : Nat) (vy vw : Value) (xat xx xp xi : Int) (vds : Value) (di : Nat) (d : Nat) (vs : Value) (n i : Nat) (ts : List Value) : Prop where
  l : ts.length = 364
  t23 : gt ts 23 = .bool true
  t24 : gt ts 24 = .pointer (some ⟨c0, 0, none⟩)
  t25 : gt ts 25 = vl
  t26 : gt ts 26 = va
  t28 : gt ts 28 = vt
  t29 : gt ts 29 = .int .i64 (q : Int)
  t30 : gt ts 30 = .pointer (some ⟨ma, 0, none⟩)
  t21 : gt ts 21 = .pointer (some ⟨mm_, 0, none⟩)
  t3 : gt ts 3 = vy
  t4 : gt ts 4 = vw
  t5 : gt ts 5 = .int .i64 xat
  t6 : gt ts 6 = .int .u64 xx
  t7 : gt ts 7 = .int .i64 xp
  t8 : gt ts 8 = .int .i64 xi
  t123 : gt ts 123 = vds
  t124 : gt ts 124 = .int .i64 2
  t125 : gt ts 125 = .int .i64 (di : Int)
  t32 : gt ts 32 = .pointer (some ⟨d, 0, none⟩)
  t201 : gt ts 201 = vs
  t202 : gt ts 202 = .int .i64 (n : Int)
  t203 : gt ts 203 = .int .i64 (i : Int)
def lbTUn : LC := (.seq (.ops [⟨(some 204), .bin .lss (.tmp 203) (.tmp 202), none⟩])
 (.seq (.cond (.tmp 204) .skip
 (.exit 6))
 (.seq (.block 7 (.seq (.ops [⟨(some 205), .iaddrS 1 (.tmp 201) (.tmp 203), none⟩, ⟨(some 206), .load false 1 (.tmp 205), none⟩, ⟨(some 46), .mv (.tmp 206), none⟩])
 (.seq (.ops [⟨(some 208), .load true 3 (.tmp 32), none⟩, ⟨(some 209), .mv (.tmp 46), none⟩, ⟨(some 210), .call (.func 18) [(.tmp 208), (.tmp 209)], none⟩, ⟨(some 207), .mv (.tmp 210), none⟩, ⟨(some 211), .ext (.tmp 207) 0, none⟩, ⟨(some 212), .ext (.tmp 207) 1, none⟩, ⟨(some 47), .mv (.tmp 211), none⟩, ⟨(some 48), .mv (.tmp 212), none⟩])
 (.seq (.ops [⟨(some 214), .load true 3 (.tmp 32), none⟩, ⟨(some 215), .mv (.tmp 46), none⟩, ⟨(some 216), .call (.func 19) [(.tmp 214), (.tmp 215)], none⟩, ⟨(some 213), .mv (.tmp 216), none⟩, ⟨(some 217), .ext (.tmp 213) 0, none⟩, ⟨(some 218), .ext (.tmp 213) 1, none⟩, ⟨(some 49), .mv (.tmp 217), none⟩, ⟨(some 50), .mv (.tmp 218), none⟩])
 (.seq (.ops [⟨(some 219), .mv (.tmp 48), none⟩, ⟨(some 220), .mv (.tmp 50), none⟩, ⟨(some 221), .bin .neq (.tmp 219) (.tmp 220), none⟩, ⟨(some 222), .mv (.tmp 221), none⟩, ⟨(some 223), .mv (.tmp 47), (some (222, false))⟩, ⟨(some 224), .mv (.tmp 49), (some (222, false))⟩, ⟨(some 225), .call (.func 20) [(.tmp 223), (.tmp 224)], (some (222, false))⟩, ⟨(some 226), .un .not (.tmp 225), (some (222, false))⟩, ⟨(some 227), .pick (.tmp 222) (.const (.bool true)) (.tmp 226), none⟩])
 (.cond (.tmp 227) (.seq (.ops [⟨(some 22), .mv (.const (.bool false)), none⟩])
 .ret)
 .skip))))))
 (.ops [⟨(some 228), .bin .add (.tmp 203) (.const (.int .i64 1)), none⟩, ⟨(some 203), .mv (.tmp 228), none⟩]))))
set_option maxHeartbeats 4000000 in
theorem loopTUn {B : OH} {H : HL} {N : St} {c0 : Nat} {vl va vt : Value} {q ma mm_ : Nat} {vy vw : Value} {xat xx xp xi : Int} {vds : Value} {di : Nat} {d : Nat} {vs : Value} {k p c : Int} {L : List Value} (sv : SlR fv 1 B H vs L) (hL : ∀ v ∈ L, ∃ l : List Int, SlR w1 1 B H v l ∧ U64s l ∧ l.length ≤ 900000) (hLl : L.length ≤ 1000) (hT : Tab B) (hN : good B H N) (bd : B d = none) (ld : lk H d = some (.cells [.int .i64 k, .int .i64 p, .int .i64 c] 3)) {ts : List Value} (kp : KTUn c0 vl va vt q ma mm_ vy vw xat xx xp xi vds di d vs L.length 0 ts) {F : Nat} (hF : 3000 + L.length + 1 ≤ F) :
    Ok (exec B { f := GlT B } F (LC.loop lbTUn) ⟨ts, H, N⟩) (fun r s => r = .exit 6 ∧ good B s.H s.N ∧ Fr H s.H ∧ KTd c0 vl va vt q ma mm_ vy vw xat xx xp xi vds di d s.t) := by
  refine loop_rule (n0 := 3000) (fun r s => ∃ ts H' N', ∃ i : Nat, s = ⟨ts, H', N'⟩ ∧ KTUn c0 vl va vt q ma mm_ vy vw xat xx xp xi vds di d vs L.length i ts ∧ good B H' N' ∧ Fr H H' ∧ i ≤ L.length ∧ r = L.length - i) _ ?_ L.length _ ⟨ts, H, N, 0, rfl, kp, hN, Fr.refl, by omega, rfl⟩ _ hF
  clear kp hF F ts hN N
  rintro z r s ⟨ts, H1, N1, i, rfl, kp, g1, fk, hi, rfl⟩
  have hB := good_B g1
  have hR := good_rdB g1
  have hI := beqN g1.1.1
  have hG : ∃ H N, good B H N := ⟨H1, N1, g1⟩
  have ld1 := fk _ _ ld
  have rd_ := fun o n => rdB_none (o := o) (n := n) bd
  have nd1 := ne_N g1 ld1
  have hc1 : ((i + 1 : Nat) : Int) = (i : Int) + 1 := by omega
  by_cases hin : i < L.length
  case neg =>
    have h1' : ¬ (i : Int) < (L.length : Int) := by omega
    simp -implicitDefEqProofs (maxSteps := 10000000) (disch := omega) only [TlT, LlT, GlT_law16Conf, Vlaw16Conf_eq, GlT_lM, GlT_lH, GlT_lW, GlT_lA, GlT_law16pick, Vlaw16pick_eq, GlT_ref03Same, GlT_ref05Writes, GlT_ref10Words, GlT_rL, GlT_rP, GlT_ref16Place, Vref16Place_eq, GlT_ref16Spot, Vref16Spot_eq, GlT_rU, GlT_rW, GlT_gL, GlT_gP, GlT_wlogPlace, VwlogPlace_eq, GlT_wlogSpot, VwlogSpot_eq, GlT_gU, GlT_gW, hB, hR, hI, lbTUn, kp.l, kp.t23, kp.t24, kp.t25, kp.t26, kp.t28, kp.t29, kp.t30, kp.t21, kp.t3, kp.t4, kp.t5, kp.t6, kp.t7, kp.t8, kp.t123, kp.t124, kp.t125, kp.t32, kp.t201, kp.t202, kp.t203, h1', bt, bf, all1, ress, res1, retV, Value.cells, reduceIte, reduceCtorEq, Int.reduceLT, Int.reduceLE, Int.reduceToNat, Int.reduceAdd, Int.reduceSub, Int.reduceMul, Int.reduceNeg, Nat.reduceMul, Nat.reduceAdd, Nat.reduceSub, Nat.reduceBEq, Nat.reduceEqDiff, Nat.reduceLT, Nat.reduceLeDiff, Int.reduceBEq, Int.reduceEq, Nat.reducePow, Int.reducePow, Int.reduceGT, Int.reduceGE, Int.reduceBNe, newsV_s, ev1, ev2, ev3, ev4]
    refine ok_some (.inr ⟨by simp, rfl, g1, fk, ⟨?_, ?_, ?_, ?_, ?_, ?_, ?_, ?_, ?_, ?_, ?_, ?_, ?_, ?_, ?_, ?_, ?_, ?_, ?_⟩⟩)
    all_goals simp (maxSteps := 10000000) (disch := omega) only [kp.l, kp.t23, kp.t24, kp.t25, kp.t26, kp.t28, kp.t29, kp.t30, kp.t21, kp.t3, kp.t4, kp.t5, kp.t6, kp.t7, kp.t8, kp.t123, kp.t124, kp.t125, kp.t32, kp.t201, kp.t202, kp.t203, lenV_sl, Int.toNat_natCast, bft, btf, gtst, st_len, Nat.reduceAdd, Int.cast_ofNat_Int, Nat.reduceBEq, Nat.reduceLT, decide_true, ev2]
  have hin' : (i : Int) < (L.length : Int) := by omega
  have i0 : (0 : Int) ≤ (i : Int) := by omega
  obtain ⟨bs_, os_, cs_, rfl, ds_, rs_⟩ := sv.at (by omega)
  obtain ⟨l, hl, hw, hll⟩ := hL _ (List.mem_of_getElem? (some_getD (d := .slice none 0 0) hin))
  have r1 : rdO H1 B bs_ (os_ + i * 1) 1 (rdB B bs_ (os_ + i * 1) 1) = some [L.getD i (.slice none 0 0)] := (rs_ H1 fk i 0 1 _ hin (by omega)).trans rfl
  generalize L.getD i (.slice none 0 0) = v at *
  obtain ⟨E, W, hW, hb⟩ := bothUnpack hT k p c (vw := v) hw hll
  obtain ⟨v2, H2, N2, e2, g2, f2, s2⟩ := (hb H1 N1 g1 (hl.mono fk)).1
  have ld2 := f2 _ _ ld1
  have nd2 := ne_N g2 ld2
  obtain ⟨v3, H3, N3, e3, g3, f3, s3⟩ := (hb H2 N2 g2 (hl.mono (fk.trans f2))).2
  simp only at e2 e3
  have eq := sameref05Writes g3 (s2.mono f3) s3 hW
  rw [decide_eq_true rfl] at eq
  have gE := g3
  have fE := (fk.trans f2).trans f3
  simp -implicitDefEqProofs (maxSteps := 10000000) (disch := omega) only [TlT, LlT, GlT_law16Conf, Vlaw16Conf_eq, GlT_lM, GlT_lH, GlT_lW, GlT_lA, GlT_law16pick, Vlaw16pick_eq, GlT_ref03Same, GlT_ref05Writes, GlT_ref10Words, GlT_rL, GlT_rP, GlT_ref16Place, Vref16Place_eq, GlT_ref16Spot, Vref16Spot_eq, GlT_rU, GlT_rW, GlT_gL, GlT_gP, GlT_wlogPlace, VwlogPlace_eq, GlT_wlogSpot, VwlogSpot_eq, GlT_gU, GlT_gW, hB, hR, hI, lbTUn, kp.l, kp.t23, kp.t24, kp.t25, kp.t26, kp.t28, kp.t29, kp.t30, kp.t21, kp.t3, kp.t4, kp.t5, kp.t6, kp.t7, kp.t8, kp.t123, kp.t124, kp.t125, kp.t32, kp.t201, kp.t202, kp.t203, hin, hin', i0, ld1, bd, rd_, nd1, r1, e2, e3, eq, ld2, nd2, good_B g2, good_rdB g2, bxx, bne_self_eq_false, bt, bf, all1, ress, res1, retV, Value.cells, reduceIte, reduceCtorEq, Int.reduceLT, Int.reduceLE, Int.reduceToNat, Int.reduceAdd, Int.reduceSub, Int.reduceMul, Int.reduceNeg, Nat.reduceMul, Nat.reduceAdd, Nat.reduceSub, Nat.reduceBEq, Nat.reduceEqDiff, Nat.reduceLT, Nat.reduceLeDiff, Int.reduceBEq, Int.reduceEq, Nat.reducePow, Int.reducePow, Int.reduceGT, Int.reduceGE, Int.reduceBNe, newsV_s, ev1, ev2, ev3, ev4]
  refine ok_some (.inl ⟨rfl, L.length - (i + 1), by omega, _, _, _, i + 1, rfl, ⟨?_, ?_, ?_, ?_, ?_, ?_, ?_, ?_, ?_, ?_, ?_, ?_, ?_, ?_, ?_, ?_, ?_, ?_, ?_, ?_, ?_, ?_⟩, gE, fE, by omega, rfl⟩)
  all_goals simp (maxSteps := 10000000) (disch := omega) only [kp.l, kp.t23, kp.t24, kp.t25, kp.t26, kp.t28, kp.t29, kp.t30, kp.t21, kp.t3, kp.t4, kp.t5, kp.t6, kp.t7, kp.t8, kp.t123, kp.t124, kp.t125, kp.t32, kp.t201, kp.t202, kp.t203, lenV_sl, Int.toNat_natCast, bft, btf, gtst, st_len, hc1, Nat.reduceAdd, Int.cast_ofNat_Int, Nat.reduceBEq, Nat.reduceLT, decide_true, ev2]

structure KTSp (c0 : Nat) (vl va vt : Value) (q ma mm_ : Nat) (vy vw : Value) (xat xx xp xi : Int) (vds : Value) (di : Nat) (d : Nat) (vs : Value) (n i : Nat) (ts : List Value) : Prop where
  l : ts.length = 364
  t23 : gt ts 23 = .bool true
  t24 : gt ts 24 = .pointer (some ⟨c0, 0, none⟩)
  t25 : gt ts 25 = vl
  t26 : gt ts 26 = va
  t28 : gt ts 28 = vt
  t29 : gt ts 29 = .int .i64 (q : Int)
  t30 : gt ts 30 = .pointer (some ⟨ma, 0, none⟩)
  t21 : gt ts 21 = .pointer (some ⟨mm_, 0, none⟩)
  t3 : gt ts 3 = vy
  t4 : gt ts 4 = vw
  t5 : gt ts 5 = .int .i64 xat
  t6 : gt ts 6 = .int .u64 xx
  t7 : gt ts 7 = .int .i64 xp
  t8 : gt ts 8 = .int .i64 xi
  t123 : gt ts 123 = vds
  t124 : gt ts 124 = .int .i64 2
  t125 : gt ts 125 = .int .i64 (di : Int)
  t32 : gt ts 32 = .pointer (some ⟨d, 0, none⟩)
  t239 : gt ts 239 = vs
  t240 : gt ts 240 = .int .i64 (n : Int)
  t241 : gt ts 241 = .int .i64 (i : Int)
def lbTSp : LC := (.seq (.ops [⟨(some 242), .bin .lss (.tmp 241) (.tmp 240), none⟩])
 (.seq (.cond (.tmp 242) .skip
 (.exit 8))
 (.seq (.block 9 (.seq (.ops [⟨(some 243), .iaddrS 2 (.tmp 239) (.tmp 241), none⟩, ⟨(some 244), .load true 2 (.tmp 243), none⟩, ⟨(some 52), .alloc [(.int .i64 0), (.int .i64 0)], none⟩, ⟨none, .store 2 (.tmp 52) (.tmp 244), none⟩])
 (.seq (.ops [⟨(some 246), .load true 3 (.tmp 32), none⟩, ⟨(some 247), .iaddrA 1 2 (.tmp 52) (.const (.int .i64 0)), none⟩, ⟨(some 248), .load false 1 (.tmp 247), none⟩, ⟨(some 249), .iaddrA 1 2 (.tmp 52) (.const (.int .i64 1)), none⟩, ⟨(some 250), .load false 1 (.tmp 249), none⟩, ⟨(some 251), .call (.func 21) [(.tmp 246), (.tmp 248), (.tmp 250)], none⟩, ⟨(some 245), .mv (.tmp 251), none⟩, ⟨(some 252), .ext (.tmp 245) 0, none⟩, ⟨(some 253), .ext (.tmp 245) 1, none⟩, ⟨(some 254), .ext (.tmp 245) 2, none⟩, ⟨(some 53), .mv (.tmp 252), none⟩, ⟨(some 54), .mv (.tmp 253), none⟩, ⟨(some 55), .mv (.tmp 254), none⟩])
 (.seq (.ops [⟨(some 256), .load true 3 (.tmp 32), none⟩, ⟨(some 257), .iaddrA 1 2 (.tmp 52) (.const (.int .i64 0)), none⟩, ⟨(some 258), .load false 1 (.tmp 257), none⟩, ⟨(some 259), .iaddrA 1 2 (.tmp 52) (.const (.int .i64 1)), none⟩, ⟨(some 260), .load false 1 (.tmp 259), none⟩, ⟨(some 261), .call (.func 22) [(.tmp 256), (.tmp 258), (.tmp 260)], none⟩, ⟨(some 255), .mv (.tmp 261), none⟩, ⟨(some 262), .ext (.tmp 255) 0, none⟩, ⟨(some 263), .ext (.tmp 255) 1, none⟩, ⟨(some 264), .ext (.tmp 255) 2, none⟩, ⟨(some 56), .mv (.tmp 262), none⟩, ⟨(some 57), .mv (.tmp 263), none⟩, ⟨(some 58), .mv (.tmp 264), none⟩])
 (.seq (.ops [⟨(some 265), .mv (.tmp 53), none⟩, ⟨(some 266), .mv (.tmp 56), none⟩, ⟨(some 267), .bin .neq (.tmp 265) (.tmp 266), none⟩, ⟨(some 268), .mv (.tmp 267), none⟩, ⟨(some 269), .mv (.tmp 54), (some (268, false))⟩, ⟨(some 270), .mv (.tmp 57), (some (268, false))⟩, ⟨(some 271), .bin .neq (.tmp 269) (.tmp 270), (some (268, false))⟩, ⟨(some 272), .pick (.tmp 268) (.const (.bool true)) (.tmp 271), none⟩, ⟨(some 273), .mv (.tmp 272), none⟩, ⟨(some 274), .mv (.tmp 55), (some (273, false))⟩, ⟨(some 275), .mv (.tmp 58), (some (273, false))⟩, ⟨(some 276), .bin .neq (.tmp 274) (.tmp 275), (some (273, false))⟩, ⟨(some 277), .pick (.tmp 273) (.const (.bool true)) (.tmp 276), none⟩])
 (.cond (.tmp 277) (.seq (.ops [⟨(some 22), .mv (.const (.bool false)), none⟩])
 .ret)
 .skip))))))
 (.ops [⟨(some 278), .bin .add (.tmp 241) (.const (.int .i64 1)), none⟩, ⟨(some 241), .mv (.tmp 278), none⟩]))))
set_option maxHeartbeats 4000000 in
theorem loopTSp {B : OH} {H : HL} {N : St} {c0 : Nat} {vl va vt : Value} {q ma mm_ : Nat} {vy vw : Value} {xat xx xp xi : Int} {vds : Value} {di : Nat} {d : Nat} {vs : Value} {k p c : Int} {L : List Q2} (sv : SlR q2 2 B H vs L) (hLl : L.length ≤ 1000) (hT : Tab B) (hN : good B H N) (bd : B d = none) (ld : lk H d = some (.cells [.int .i64 k, .int .i64 p, .int .i64 c] 3)) {ts : List Value} (kp : KTSp c0 vl va vt q ma mm_ vy vw xat xx xp xi vds di d vs L.length 0 ts) {F : Nat} (hF : 3000 + L.length + 1 ≤ F) :
    Ok (exec B { f := GlT B } F (LC.loop lbTSp) ⟨ts, H, N⟩) (fun r s => r = .exit 8 ∧ good B s.H s.N ∧ Fr H s.H ∧ KTd c0 vl va vt q ma mm_ vy vw xat xx xp xi vds di d s.t) := by
  refine loop_rule (n0 := 3000) (fun r s => ∃ ts H' N', ∃ i : Nat, s = ⟨ts, H', N'⟩ ∧ KTSp c0 vl va vt q ma mm_ vy vw xat xx xp xi vds di d vs L.length i ts ∧ good B H' N' ∧ Fr H H' ∧ i ≤ L.length ∧ r = L.length - i) _ ?_ L.length _ ⟨ts, H, N, 0, rfl, kp, hN, Fr.refl, by omega, rfl⟩ _ hF
  clear kp hF F ts hN N
  rintro z r s ⟨ts, H1, N1, i, rfl, kp, g1, fk, hi, rfl⟩
  have hB := good_B g1
  have hR := good_rdB g1
  have hI := beqN g1.1.1
  have hG : ∃ H N, good B H N := ⟨H1, N1, g1⟩
  have ld1 := fk _ _ ld
  have rd_ := fun o n => rdB_none (o := o) (n := n) bd
  have nd1 := ne_N g1 ld1
  have hc1 : ((i + 1 : Nat) : Int) = (i : Int) + 1 := by omega
  by_cases hin : i < L.length
  case neg =>
    have h1' : ¬ (i : Int) < (L.length : Int) := by omega
    simp -implicitDefEqProofs (maxSteps := 10000000) (disch := omega) only [TlT, LlT, GlT_law16Conf, Vlaw16Conf_eq, GlT_lM, GlT_lH, GlT_lW, GlT_lA, GlT_law16pick, Vlaw16pick_eq, GlT_ref03Same, GlT_ref05Writes, GlT_ref10Words, GlT_rL, GlT_rP, GlT_ref16Place, Vref16Place_eq, GlT_ref16Spot, Vref16Spot_eq, GlT_rU, GlT_rW, GlT_gL, GlT_gP, GlT_wlogPlace, VwlogPlace_eq, GlT_wlogSpot, VwlogSpot_eq, GlT_gU, GlT_gW, hB, hR, hI, lbTSp, kp.l, kp.t23, kp.t24, kp.t25, kp.t26, kp.t28, kp.t29, kp.t30, kp.t21, kp.t3, kp.t4, kp.t5, kp.t6, kp.t7, kp.t8, kp.t123, kp.t124, kp.t125, kp.t32, kp.t239, kp.t240, kp.t241, h1', bt, bf, all1, ress, res1, retV, Value.cells, reduceIte, reduceCtorEq, Int.reduceLT, Int.reduceLE, Int.reduceToNat, Int.reduceAdd, Int.reduceSub, Int.reduceMul, Int.reduceNeg, Nat.reduceMul, Nat.reduceAdd, Nat.reduceSub, Nat.reduceBEq, Nat.reduceEqDiff, Nat.reduceLT, Nat.reduceLeDiff, Int.reduceBEq, Int.reduceEq, Nat.reducePow, Int.reducePow, Int.reduceGT, Int.reduceGE, Int.reduceBNe, newsV_s, ev1, ev2, ev3, ev4]
    refine ok_some (.inr ⟨by simp, rfl, g1, fk, ⟨?_, ?_, ?_, ?_, ?_, ?_, ?_, ?_, ?_, ?_, ?_, ?_, ?_, ?_, ?_, ?_, ?_, ?_, ?_⟩⟩)
    all_goals simp (maxSteps := 10000000) (disch := omega) only [kp.l, kp.t23, kp.t24, kp.t25, kp.t26, kp.t28, kp.t29, kp.t30, kp.t21, kp.t3, kp.t4, kp.t5, kp.t6, kp.t7, kp.t8, kp.t123, kp.t124, kp.t125, kp.t32, kp.t239, kp.t240, kp.t241, lenV_sl, Int.toNat_natCast, bft, btf, gtst, st_len, Nat.reduceAdd, Int.cast_ofNat_Int, Nat.reduceBEq, Nat.reduceLT, decide_true, ev2]
  have hin' : (i : Int) < (L.length : Int) := by omega
  have i0 : (0 : Int) ≤ (i : Int) := by omega
  obtain ⟨bs_, os_, cs_, rfl, ds_, rs_⟩ := sv.at (by omega)
  have r1 : rdO H1 B bs_ (os_ + i * 2) 2 (rdB B bs_ (os_ + i * 2) 2) = some [.int .i64 (L.getD i q20).a, .int .i64 (L.getD i q20).b] := (rs_ H1 fk i 0 2 q20 hin (by omega)).trans rfl
  obtain ⟨a1, b1, e1, eP, eR⟩ := bothSpot hG hT k p c (L.getD i q20).a (L.getD i q20).b
  have gE : good B ((N1.n 0, .cells [.int .i64 (L.getD i q20).a, .int .i64 (L.getD i q20).b] 2) :: H1) (sh N1) := good_new g1
  have fE : Fr H ((N1.n 0, .cells [.int .i64 (L.getD i q20).a, .int .i64 (L.getD i q20).b] 2) :: H1) := fr_new g1 fk 0
  simp -implicitDefEqProofs (maxSteps := 10000000) (disch := omega) only [TlT, LlT, GlT_law16Conf, Vlaw16Conf_eq, GlT_lM, GlT_lH, GlT_lW, GlT_lA, GlT_law16pick, Vlaw16pick_eq, GlT_ref03Same, GlT_ref05Writes, GlT_ref10Words, GlT_rL, GlT_rP, GlT_ref16Place, Vref16Place_eq, GlT_ref16Spot, Vref16Spot_eq, GlT_rU, GlT_rW, GlT_gL, GlT_gP, GlT_wlogPlace, VwlogPlace_eq, GlT_wlogSpot, VwlogSpot_eq, GlT_gU, GlT_gW, hB, hR, hI, lbTSp, kp.l, kp.t23, kp.t24, kp.t25, kp.t26, kp.t28, kp.t29, kp.t30, kp.t21, kp.t3, kp.t4, kp.t5, kp.t6, kp.t7, kp.t8, kp.t123, kp.t124, kp.t125, kp.t32, kp.t239, kp.t240, kp.t241, hin, hin', i0, ld1, bd, rd_, nd1, r1, eP, eR, bxx, bne_self_eq_false, bt, bf, all1, ress, res1, retV, Value.cells, reduceIte, reduceCtorEq, Int.reduceLT, Int.reduceLE, Int.reduceToNat, Int.reduceAdd, Int.reduceSub, Int.reduceMul, Int.reduceNeg, Nat.reduceMul, Nat.reduceAdd, Nat.reduceSub, Nat.reduceBEq, Nat.reduceEqDiff, Nat.reduceLT, Nat.reduceLeDiff, Int.reduceBEq, Int.reduceEq, Nat.reducePow, Int.reducePow, Int.reduceGT, Int.reduceGE, Int.reduceBNe, newsV_s, ev1, ev2, ev3, ev4]
  refine ok_some (.inl ⟨rfl, L.length - (i + 1), by omega, _, _, _, i + 1, rfl, ⟨?_, ?_, ?_, ?_, ?_, ?_, ?_, ?_, ?_, ?_, ?_, ?_, ?_, ?_, ?_, ?_, ?_, ?_, ?_, ?_, ?_, ?_⟩, gE, fE, by omega, rfl⟩)
  all_goals simp (maxSteps := 10000000) (disch := omega) only [kp.l, kp.t23, kp.t24, kp.t25, kp.t26, kp.t28, kp.t29, kp.t30, kp.t21, kp.t3, kp.t4, kp.t5, kp.t6, kp.t7, kp.t8, kp.t123, kp.t124, kp.t125, kp.t32, kp.t239, kp.t240, kp.t241, lenV_sl, Int.toNat_natCast, bft, btf, gtst, st_len, hc1, Nat.reduceAdd, Int.cast_ofNat_Int, Nat.reduceBEq, Nat.reduceLT, decide_true, ev2]

end Go.Proofs.YtfhiplfagejfoaaDoor
namespace Go.Proofs.YtfhiplfagejfoaaDoor
open Go.Proofs.YtfhiplfagejfoaaDoor.K Go.ChangeShapes Go.WideShapes Go.ChangeAt Go.RowKit 
set_option maxRecDepth 100000
set_option linter.unusedSimpArgs false
set_option linter.unusedVariables false
theorem all1_slr {α : Type} {f : α → List Value} {sz : Nat} {B : OH} {H : HL} {v : Value} {L : List α} (h : SlR f sz B H v L) : all1 [v] = true := by
  obtain ⟨a, c, rfl, _⟩ := id h
  rfl

structure KTm (c0 : Nat) (vl va vt : Value) (q ma mm_ : Nat) (vy vw : Value) (xat xx xp xi : Int) (vds : Value) (di : Nat) (d : Nat) (vms : Value) (mi : Nat) (ts : List Value) : Prop where
  l : ts.length = 364
  t23 : gt ts 23 = .bool true
  t24 : gt ts 24 = .pointer (some ⟨c0, 0, none⟩)
  t25 : gt ts 25 = vl
  t26 : gt ts 26 = va
  t28 : gt ts 28 = vt
  t29 : gt ts 29 = .int .i64 (q : Int)
  t30 : gt ts 30 = .pointer (some ⟨ma, 0, none⟩)
  t21 : gt ts 21 = .pointer (some ⟨mm_, 0, none⟩)
  t3 : gt ts 3 = vy
  t4 : gt ts 4 = vw
  t5 : gt ts 5 = .int .i64 xat
  t6 : gt ts 6 = .int .u64 xx
  t7 : gt ts 7 = .int .i64 xp
  t8 : gt ts 8 = .int .i64 xi
  t123 : gt ts 123 = vds
  t124 : gt ts 124 = .int .i64 2
  t125 : gt ts 125 = .int .i64 (di : Int)
  t32 : gt ts 32 = .pointer (some ⟨d, 0, none⟩)
  t298 : gt ts 298 = vms
  t299 : gt ts 299 = .int .i64 4
  t300 : gt ts 300 = .int .i64 (mi : Int)
structure KTr (c0 : Nat) (vl va vt : Value) (q ma mm_ : Nat) (vy vw : Value) (xat xx xp xi : Int) (vds : Value) (di : Nat) (d : Nat) (vms : Value) (mi y : Nat) (vs : Value) (n i : Nat) (ts : List Value) : Prop where
  l : ts.length = 364
  t23 : gt ts 23 = .bool true
  t24 : gt ts 24 = .pointer (some ⟨c0, 0, none⟩)
  t25 : gt ts 25 = vl
  t26 : gt ts 26 = va
  t28 : gt ts 28 = vt
  t29 : gt ts 29 = .int .i64 (q : Int)
  t30 : gt ts 30 = .pointer (some ⟨ma, 0, none⟩)
  t21 : gt ts 21 = .pointer (some ⟨mm_, 0, none⟩)
  t3 : gt ts 3 = vy
  t4 : gt ts 4 = vw
  t5 : gt ts 5 = .int .i64 xat
  t6 : gt ts 6 = .int .u64 xx
  t7 : gt ts 7 = .int .i64 xp
  t8 : gt ts 8 = .int .i64 xi
  t123 : gt ts 123 = vds
  t124 : gt ts 124 = .int .i64 2
  t125 : gt ts 125 = .int .i64 (di : Int)
  t32 : gt ts 32 = .pointer (some ⟨d, 0, none⟩)
  t298 : gt ts 298 = vms
  t299 : gt ts 299 = .int .i64 4
  t300 : gt ts 300 = .int .i64 (mi : Int)
  t60 : gt ts 60 = .pointer (some ⟨y, 0, none⟩)
  t306 : gt ts 306 = vs
  t307 : gt ts 307 = .int .i64 (n : Int)
  t308 : gt ts 308 = .int .i64 (i : Int)
def lbTr : LC := (.seq (.ops [⟨(some 309), .bin .lss (.tmp 308) (.tmp 307), none⟩])
 (.seq (.cond (.tmp 309) .skip
 (.exit 12))
 (.seq (.block 13 (.seq (.ops [⟨(some 310), .iaddrS 1 (.tmp 306) (.tmp 308), none⟩, ⟨(some 311), .load false 1 (.tmp 310), none⟩, ⟨(some 62), .mv (.tmp 311), none⟩])
 (.seq (.ops [⟨(some 313), .load true 3 (.tmp 32), none⟩, ⟨(some 314), .load true 1 (.tmp 60), none⟩, ⟨(some 315), .mv (.tmp 62), none⟩, ⟨(some 316), .call (.func 24) [(.tmp 313), (.tmp 314), (.tmp 315)], none⟩, ⟨(some 312), .mv (.tmp 316), none⟩, ⟨(some 317), .ext (.tmp 312) 0, none⟩, ⟨(some 318), .ext (.tmp 312) 1, none⟩, ⟨(some 63), .alloc [(.slice none 0 0)], none⟩, ⟨none, .store 1 (.tmp 63) (.tmp 317), none⟩, ⟨(some 64), .mv (.tmp 318), none⟩])
 (.seq (.ops [⟨(some 320), .load true 3 (.tmp 32), none⟩, ⟨(some 321), .load true 1 (.tmp 60), none⟩, ⟨(some 322), .mv (.tmp 62), none⟩, ⟨(some 323), .call (.func 25) [(.tmp 320), (.tmp 321), (.tmp 322)], none⟩, ⟨(some 319), .mv (.tmp 323), none⟩, ⟨(some 324), .ext (.tmp 319) 0, none⟩, ⟨(some 325), .ext (.tmp 319) 1, none⟩, ⟨(some 65), .alloc [(.slice none 0 0)], none⟩, ⟨none, .store 1 (.tmp 65) (.tmp 324), none⟩, ⟨(some 66), .mv (.tmp 325), none⟩])
 (.seq (.ops [⟨(some 327), .load true 3 (.tmp 32), none⟩, ⟨(some 328), .load true 1 (.tmp 60), none⟩, ⟨(some 329), .mv (.tmp 62), none⟩, ⟨(some 330), .call (.func 26) [(.tmp 327), (.tmp 328), (.tmp 329)], none⟩, ⟨(some 326), .mv (.tmp 330), none⟩, ⟨(some 331), .ext (.tmp 326) 0, none⟩, ⟨(some 332), .ext (.tmp 326) 1, none⟩, ⟨(some 67), .alloc [(.slice none 0 0)], none⟩, ⟨none, .store 1 (.tmp 67) (.tmp 331), none⟩, ⟨(some 68), .mv (.tmp 332), none⟩])
 (.seq (.ops [⟨(some 334), .load true 3 (.tmp 32), none⟩, ⟨(some 335), .load true 1 (.tmp 60), none⟩, ⟨(some 336), .mv (.tmp 62), none⟩, ⟨(some 337), .call (.func 27) [(.tmp 334), (.tmp 335), (.tmp 336)], none⟩, ⟨(some 333), .mv (.tmp 337), none⟩, ⟨(some 338), .ext (.tmp 333) 0, none⟩, ⟨(some 339), .ext (.tmp 333) 1, none⟩, ⟨(some 69), .alloc [(.slice none 0 0)], none⟩, ⟨none, .store 1 (.tmp 69) (.tmp 338), none⟩, ⟨(some 70), .mv (.tmp 339), none⟩])
 (.seq (.ops [⟨(some 340), .mv (.tmp 64), none⟩, ⟨(some 341), .mv (.tmp 66), none⟩, ⟨(some 342), .bin .neq (.tmp 340) (.tmp 341), none⟩, ⟨(some 343), .mv (.tmp 342), none⟩, ⟨(some 344), .load true 1 (.tmp 63), (some (343, false))⟩, ⟨(some 345), .load true 1 (.tmp 65), (some (343, false))⟩, ⟨(some 346), .call (.func 28) [(.tmp 344), (.tmp 345)], (some (343, false))⟩, ⟨(some 347), .un .not (.tmp 346), (some (343, false))⟩, ⟨(some 348), .pick (.tmp 343) (.const (.bool true)) (.tmp 347), none⟩, ⟨(some 349), .mv (.tmp 348), none⟩, ⟨(some 350), .mv (.tmp 68), (some (349, false))⟩, ⟨(some 351), .mv (.tmp 70), (some (349, false))⟩, ⟨(some 352), .bin .neq (.tmp 350) (.tmp 351), (some (349, false))⟩, ⟨(some 353), .pick (.tmp 349) (.const (.bool true)) (.tmp 352), none⟩, ⟨(some 354), .mv (.tmp 353), none⟩, ⟨(some 355), .load true 1 (.tmp 67), (some (354, false))⟩, ⟨(some 356), .load true 1 (.tmp 69), (some (354, false))⟩, ⟨(some 357), .call (.func 28) [(.tmp 355), (.tmp 356)], (some (354, false))⟩, ⟨(some 358), .un .not (.tmp 357), (some (354, false))⟩, ⟨(some 359), .pick (.tmp 354) (.const (.bool true)) (.tmp 358), none⟩])
 (.cond (.tmp 359) (.seq (.ops [⟨(some 22), .mv (.const (.bool false)), none⟩])
 .ret)
 .skip))))))))
 (.ops [⟨(some 360), .bin .add (.tmp 308) (.const (.int .i64 1)), none⟩, ⟨(some 308), .mv (.tmp 360), none⟩]))))
set_option maxHeartbeats 8000000 in
theorem loopTr {B : OH} {H : HL} {N : St} {c0 : Nat} {vl va vt : Value} {q ma mm_ : Nat} {vy vw : Value} {xat xx xp xi : Int} {vds : Value} {di : Nat} {d : Nat} {vms : Value} {mi y : Nat} {vs vm : Value} {k p c : Int} {L : List Int} {M : List C2} (sv : SlR f1 1 B H vs L) (hLl : L.length ≤ 1000) (sm : SlW c2 2 B H vm M) (hM : M.length ≤ 800000) (hMs : C2s M) (hT : Tab B) (hN : good B H N) (bd : B d = none) (ld : lk H d = some (.cells [.int .i64 k, .int .i64 p, .int .i64 c] 3)) (by_ : B y = none) (ly : lk H y = some (.cells [vm] 1)) {ts : List Value} (kp : KTr c0 vl va vt q ma mm_ vy vw xat xx xp xi vds di d vms mi y vs L.length 0 ts) {F : Nat} (hF : 3000 + L.length + 1 ≤ F) :
    Ok (exec B { f := GlT B } F (LC.loop lbTr) ⟨ts, H, N⟩) (fun r s => r = .exit 12 ∧ good B s.H s.N ∧ Fr H s.H ∧ KTm c0 vl va vt q ma mm_ vy vw xat xx xp xi vds di d vms mi s.t) := by
  refine loop_rule (n0 := 3000) (fun r s => ∃ ts H' N', ∃ i : Nat, s = ⟨ts, H', N'⟩ ∧ KTr c0 vl va vt q ma mm_ vy vw xat xx xp xi vds di d vms mi y vs L.length i ts ∧ good B H' N' ∧ Fr H H' ∧ i ≤ L.length ∧ r = L.length - i) _ ?_ L.length _ ⟨ts, H, N, 0, rfl, kp, hN, Fr.refl, by omega, rfl⟩ _ hF
  clear kp hF F ts hN N
  rintro z r s ⟨ts, H1, N1, i, rfl, kp, g1, fk, hi, rfl⟩
  have hB := good_B g1
  have hR := good_rdB g1
  have hI := beqN g1.1.1
  have hc1 : ((i + 1 : Nat) : Int) = (i : Int) + 1 := by omega
  by_cases hin : i < L.length
  case neg =>
    have h1' : ¬ (i : Int) < (L.length : Int) := by omega
    simp -implicitDefEqProofs (maxSteps := 10000000) (disch := omega) only [TlT, LlT, GlT_law16Conf, Vlaw16Conf_eq, GlT_lM, GlT_lH, GlT_lW, GlT_lA, GlT_law16pick, Vlaw16pick_eq, GlT_ref03Same, GlT_ref05Writes, GlT_ref10Words, GlT_rL, GlT_rP, GlT_ref16Place, Vref16Place_eq, GlT_ref16Spot, Vref16Spot_eq, GlT_rU, GlT_rW, GlT_gL, GlT_gP, GlT_wlogPlace, VwlogPlace_eq, GlT_wlogSpot, VwlogSpot_eq, GlT_gU, GlT_gW, hB, hR, hI, lbTr, kp.l, kp.t23, kp.t24, kp.t25, kp.t26, kp.t28, kp.t29, kp.t30, kp.t21, kp.t3, kp.t4, kp.t5, kp.t6, kp.t7, kp.t8, kp.t123, kp.t124, kp.t125, kp.t32, kp.t298, kp.t299, kp.t300, kp.t60, kp.t306, kp.t307, kp.t308, h1', bt, bf, all1, ress, res1, retV, Value.cells, reduceIte, reduceCtorEq, Int.reduceLT, Int.reduceLE, Int.reduceToNat, Int.reduceAdd, Int.reduceSub, Int.reduceMul, Int.reduceNeg, Nat.reduceMul, Nat.reduceAdd, Nat.reduceSub, Nat.reduceBEq, Nat.reduceEqDiff, Nat.reduceLT, Nat.reduceLeDiff, Int.reduceBEq, Int.reduceEq, Nat.reducePow, Int.reducePow, Int.reduceGT, Int.reduceGE, Int.reduceBNe, newsV_s, ev1, ev2, ev3, ev4]
    refine ok_some (.inr ⟨by simp, rfl, g1, fk, ⟨?_, ?_, ?_, ?_, ?_, ?_, ?_, ?_, ?_, ?_, ?_, ?_, ?_, ?_, ?_, ?_, ?_, ?_, ?_, ?_, ?_, ?_⟩⟩)
    all_goals simp (maxSteps := 10000000) (disch := omega) only [kp.l, kp.t23, kp.t24, kp.t25, kp.t26, kp.t28, kp.t29, kp.t30, kp.t21, kp.t3, kp.t4, kp.t5, kp.t6, kp.t7, kp.t8, kp.t123, kp.t124, kp.t125, kp.t32, kp.t298, kp.t299, kp.t300, kp.t60, kp.t306, kp.t307, kp.t308, lenV_sl, Int.toNat_natCast, bft, btf, gtst, st_len, Nat.reduceAdd, Int.cast_ofNat_Int, Nat.reduceBEq, Nat.reduceLT, decide_true, ev2]
  have hin' : (i : Int) < (L.length : Int) := by omega
  have i0 : (0 : Int) ≤ (i : Int) := by omega
  obtain ⟨bs_, os_, cs_, rfl, ds_, rs_⟩ := sv.at (by omega)
  have r1 : rdO H1 B bs_ (os_ + i * 1) 1 (rdB B bs_ (os_ + i * 1) 1) = some [.int .i64 (L.getD i 0)] := (rs_ H1 fk i 0 1 0 hin (by omega)).trans rfl
  generalize L.getD i 0 = r at r1
  obtain ⟨E1, W1, hW1, hb⟩ := bothLay hT k p c (vm := vm) (q := r) hM hMs
  obtain ⟨E2, W2_, hW2, hw⟩ := bothWipe hT k p c (vm := vm) (M := M) (q := r) hM
  have q_d := fk _ _ ld
  have q_y := fk _ _ ly
  have q_d1 := q_d
  have q_y1 := q_y
  have m_d1 := ne_N g1 q_d
  have m_y1 := ne_N g1 q_y
  have b_d := bd
  have b_y := by_
  have rb_d := fun o n => rdB_none (o := o) (n := n) b_d
  have rb_y := fun o n => rdB_none (o := o) (n := n) b_y
  have sm := sm.mono fk
  obtain ⟨vx1, H2, N2, e2, g2, f2, sx1⟩ := (hb _ _ g1 sm).1
  have q_d := f2 _ _ q_d
  have q_y := f2 _ _ q_y
  have sm := sm.mono f2
  have q_d2 := q_d
  have m_d2 := ne_N g2 q_d2
  have q_y2 := q_y
  have m_y2 := ne_N g2 q_y2
  have hB2 := good_B g2
  have hR2 := good_rdB g2
  have hI2 := beqN g2.1.1
  simp only at e2
  have ax1 := all1_slr sx1
  have g3 : good B ((N2.n 0, .cells [vx1] 1) :: H2) (sh N2) := good_new (N := N2) g2
  have f3 : Fr H2 ((N2.n 0, .cells [vx1] 1) :: H2) := fr_new (N := N2) g2 Fr.refl 0
  have q_d := f3 _ _ q_d
  have q_y := f3 _ _ q_y
  have sm := sm.mono f3
  have sx1 := sx1.mono f3
  have q_cx1 : lk ((N2.n 0, .cells [vx1] 1) :: H2) (N2.n 0) = some (.cells [vx1] 1) := lk_top
  have b_cx1 : B (N2.n 0) = none := good_B g2 0
  have rb_cx1 := fun o n => rdB_none (o := o) (n := n) b_cx1
  obtain ⟨vx2, H4, N4, e4, g4, f4, sx2⟩ := (hb _ _ g3 sm).2
  have q_d := f4 _ _ q_d
  have q_y := f4 _ _ q_y
  have q_cx1 := f4 _ _ q_cx1
  have sm := sm.mono f4
  have sx1 := sx1.mono f4
  have q_d4 := q_d
  have m_d4 := ne_N g4 q_d4
  have q_y4 := q_y
  have m_y4 := ne_N g4 q_y4
  have q_cx14 := q_cx1
  have m_cx14 := ne_N g4 q_cx14
  have hB4 := good_B g4
  have hR4 := good_rdB g4
  have hI4 := beqN g4.1.1
  simp only at e4
  have ax2 := all1_slr sx2
  have g5 : good B ((N4.n 0, .cells [vx2] 1) :: H4) (sh N4) := good_new (N := N4) g4
  have f5 : Fr H4 ((N4.n 0, .cells [vx2] 1) :: H4) := fr_new (N := N4) g4 Fr.refl 0
  have q_d := f5 _ _ q_d
  have q_y := f5 _ _ q_y
  have q_cx1 := f5 _ _ q_cx1
  have sm := sm.mono f5
  have sx1 := sx1.mono f5
  have sx2 := sx2.mono f5
  have q_cx2 : lk ((N4.n 0, .cells [vx2] 1) :: H4) (N4.n 0) = some (.cells [vx2] 1) := lk_top
  have b_cx2 : B (N4.n 0) = none := good_B g4 0
  have rb_cx2 := fun o n => rdB_none (o := o) (n := n) b_cx2
  obtain ⟨vx3, H6, N6, e6, g6, f6, sx3⟩ := (hw _ _ g5 sm).1
  have q_d := f6 _ _ q_d
  have q_y := f6 _ _ q_y
  have q_cx1 := f6 _ _ q_cx1
  have q_cx2 := f6 _ _ q_cx2
  have sm := sm.mono f6
  have sx1 := sx1.mono f6
  have sx2 := sx2.mono f6
  have q_d6 := q_d
  have m_d6 := ne_N g6 q_d6
  have q_y6 := q_y
  have m_y6 := ne_N g6 q_y6
  have q_cx16 := q_cx1
  have m_cx16 := ne_N g6 q_cx16
  have q_cx26 := q_cx2
  have m_cx26 := ne_N g6 q_cx26
  have hB6 := good_B g6
  have hR6 := good_rdB g6
  have hI6 := beqN g6.1.1
  simp only at e6
  have ax3 := all1_slr sx3
  have g7 : good B ((N6.n 0, .cells [vx3] 1) :: H6) (sh N6) := good_new (N := N6) g6
  have f7 : Fr H6 ((N6.n 0, .cells [vx3] 1) :: H6) := fr_new (N := N6) g6 Fr.refl 0
  have q_d := f7 _ _ q_d
  have q_y := f7 _ _ q_y
  have q_cx1 := f7 _ _ q_cx1
  have q_cx2 := f7 _ _ q_cx2
  have sm := sm.mono f7
  have sx1 := sx1.mono f7
  have sx2 := sx2.mono f7
  have sx3 := sx3.mono f7
  have q_cx3 : lk ((N6.n 0, .cells [vx3] 1) :: H6) (N6.n 0) = some (.cells [vx3] 1) := lk_top
  have b_cx3 : B (N6.n 0) = none := good_B g6 0
  have rb_cx3 := fun o n => rdB_none (o := o) (n := n) b_cx3
  obtain ⟨vx4, H8, N8, e8, g8, f8, sx4⟩ := (hw _ _ g7 sm).2
  have q_d := f8 _ _ q_d
  have q_y := f8 _ _ q_y
  have q_cx1 := f8 _ _ q_cx1
  have q_cx2 := f8 _ _ q_cx2
  have q_cx3 := f8 _ _ q_cx3
  have sm := sm.mono f8
  have sx1 := sx1.mono f8
  have sx2 := sx2.mono f8
  have sx3 := sx3.mono f8
  have q_d8 := q_d
  have m_d8 := ne_N g8 q_d8
  have q_y8 := q_y
  have m_y8 := ne_N g8 q_y8
  have q_cx18 := q_cx1
  have m_cx18 := ne_N g8 q_cx18
  have q_cx28 := q_cx2
  have m_cx28 := ne_N g8 q_cx28
  have q_cx38 := q_cx3
  have m_cx38 := ne_N g8 q_cx38
  have hB8 := good_B g8
  have hR8 := good_rdB g8
  have hI8 := beqN g8.1.1
  simp only at e8
  have ax4 := all1_slr sx4
  have g9 : good B ((N8.n 0, .cells [vx4] 1) :: H8) (sh N8) := good_new (N := N8) g8
  have f9 : Fr H8 ((N8.n 0, .cells [vx4] 1) :: H8) := fr_new (N := N8) g8 Fr.refl 0
  have q_d := f9 _ _ q_d
  have q_y := f9 _ _ q_y
  have q_cx1 := f9 _ _ q_cx1
  have q_cx2 := f9 _ _ q_cx2
  have q_cx3 := f9 _ _ q_cx3
  have sm := sm.mono f9
  have sx1 := sx1.mono f9
  have sx2 := sx2.mono f9
  have sx3 := sx3.mono f9
  have sx4 := sx4.mono f9
  have q_cx4 : lk ((N8.n 0, .cells [vx4] 1) :: H8) (N8.n 0) = some (.cells [vx4] 1) := lk_top
  have b_cx4 : B (N8.n 0) = none := good_B g8 0
  have rb_cx4 := fun o n => rdB_none (o := o) (n := n) b_cx4
  obtain ⟨H10, N10, e10, g10, f10⟩ := sameM g9 sx1 sx2 hW1
  have q_d := f10 _ _ q_d
  have q_y := f10 _ _ q_y
  have q_cx1 := f10 _ _ q_cx1
  have q_cx2 := f10 _ _ q_cx2
  have q_cx3 := f10 _ _ q_cx3
  have q_cx4 := f10 _ _ q_cx4
  have sm := sm.mono f10
  have sx1 := sx1.mono f10
  have sx2 := sx2.mono f10
  have sx3 := sx3.mono f10
  have sx4 := sx4.mono f10
  have q_d10 := q_d
  have m_d10 := ne_N g10 q_d10
  have q_y10 := q_y
  have m_y10 := ne_N g10 q_y10
  have q_cx110 := q_cx1
  have m_cx110 := ne_N g10 q_cx110
  have q_cx210 := q_cx2
  have m_cx210 := ne_N g10 q_cx210
  have q_cx310 := q_cx3
  have m_cx310 := ne_N g10 q_cx310
  have q_cx410 := q_cx4
  have m_cx410 := ne_N g10 q_cx410
  have hB10 := good_B g10
  have hR10 := good_rdB g10
  have hI10 := beqN g10.1.1
  rw [decide_eq_true rfl] at e10
  obtain ⟨H11, N11, e11, g11, f11⟩ := sameM g10 sx3 sx4 hW2
  have q_d := f11 _ _ q_d
  have q_y := f11 _ _ q_y
  have q_cx1 := f11 _ _ q_cx1
  have q_cx2 := f11 _ _ q_cx2
  have q_cx3 := f11 _ _ q_cx3
  have q_cx4 := f11 _ _ q_cx4
  have sm := sm.mono f11
  have sx1 := sx1.mono f11
  have sx2 := sx2.mono f11
  have sx3 := sx3.mono f11
  have sx4 := sx4.mono f11
  have q_d11 := q_d
  have m_d11 := ne_N g11 q_d11
  have q_y11 := q_y
  have m_y11 := ne_N g11 q_y11
  have q_cx111 := q_cx1
  have m_cx111 := ne_N g11 q_cx111
  have q_cx211 := q_cx2
  have m_cx211 := ne_N g11 q_cx211
  have q_cx311 := q_cx3
  have m_cx311 := ne_N g11 q_cx311
  have q_cx411 := q_cx4
  have m_cx411 := ne_N g11 q_cx411
  have hB11 := good_B g11
  have hR11 := good_rdB g11
  have hI11 := beqN g11.1.1
  rw [decide_eq_true rfl] at e11
  simp -implicitDefEqProofs (maxSteps := 10000000) (disch := omega) only [TlT, LlT, GlT_law16Conf, Vlaw16Conf_eq, GlT_lM, GlT_lH, GlT_lW, GlT_lA, GlT_law16pick, Vlaw16pick_eq, GlT_ref03Same, GlT_ref05Writes, GlT_ref10Words, GlT_rL, GlT_rP, GlT_ref16Place, Vref16Place_eq, GlT_ref16Spot, Vref16Spot_eq, GlT_rU, GlT_rW, GlT_gL, GlT_gP, GlT_wlogPlace, VwlogPlace_eq, GlT_wlogSpot, VwlogSpot_eq, GlT_gU, GlT_gW, hB, hR, hI, lbTr, kp.l, kp.t23, kp.t24, kp.t25, kp.t26, kp.t28, kp.t29, kp.t30, kp.t21, kp.t3, kp.t4, kp.t5, kp.t6, kp.t7, kp.t8, kp.t123, kp.t124, kp.t125, kp.t32, kp.t298, kp.t299, kp.t300, kp.t60, kp.t306, kp.t307, kp.t308, hin, hin', i0, r1, b_d, rb_d, b_y, rb_y, q_d1, m_d1, q_y1, m_y1, q_d2, m_d2, q_y2, m_y2, e2, hB2, hR2, hI2, ax1, b_cx1, rb_cx1, q_d4, m_d4, q_y4, m_y4, q_cx14, m_cx14, e4, hB4, hR4, hI4, ax2, b_cx2, rb_cx2, q_d6, m_d6, q_y6, m_y6, q_cx16, m_cx16, q_cx26, m_cx26, e6, hB6, hR6, hI6, ax3, b_cx3, rb_cx3, q_d8, m_d8, q_y8, m_y8, q_cx18, m_cx18, q_cx28, m_cx28, q_cx38, m_cx38, e8, hB8, hR8, hI8, ax4, b_cx4, rb_cx4, q_d10, m_d10, q_y10, m_y10, q_cx110, m_cx110, q_cx210, m_cx210, q_cx310, m_cx310, q_cx410, m_cx410, e10, hB10, hR10, hI10, q_d11, m_d11, q_y11, m_y11, q_cx111, m_cx111, q_cx211, m_cx211, q_cx311, m_cx311, q_cx411, m_cx411, e11, hB11, hR11, hI11, bxx, bne_self_eq_false, bt, bf, all1, ress, res1, retV, Value.cells, reduceIte, reduceCtorEq, Int.reduceLT, Int.reduceLE, Int.reduceToNat, Int.reduceAdd, Int.reduceSub, Int.reduceMul, Int.reduceNeg, Nat.reduceMul, Nat.reduceAdd, Nat.reduceSub, Nat.reduceBEq, Nat.reduceEqDiff, Nat.reduceLT, Nat.reduceLeDiff, Int.reduceBEq, Int.reduceEq, Nat.reducePow, Int.reducePow, Int.reduceGT, Int.reduceGE, Int.reduceBNe, newsV_s, ev1, ev2, ev3, ev4]
  refine ok_some (.inl ⟨rfl, L.length - (i + 1), by omega, _, _, _, i + 1, rfl, ⟨?_, ?_, ?_, ?_, ?_, ?_, ?_, ?_, ?_, ?_, ?_, ?_, ?_, ?_, ?_, ?_, ?_, ?_, ?_, ?_, ?_, ?_, ?_, ?_, ?_, ?_⟩, g11, ((((((((((fk.trans f2).trans f3).trans f4).trans f5).trans f6).trans f7).trans f8).trans f9).trans f10).trans f11), by omega, rfl⟩)
  all_goals simp (maxSteps := 10000000) (disch := omega) only [kp.l, kp.t23, kp.t24, kp.t25, kp.t26, kp.t28, kp.t29, kp.t30, kp.t21, kp.t3, kp.t4, kp.t5, kp.t6, kp.t7, kp.t8, kp.t123, kp.t124, kp.t125, kp.t32, kp.t298, kp.t299, kp.t300, kp.t60, kp.t306, kp.t307, kp.t308, lenV_sl, Int.toNat_natCast, bft, btf, gtst, st_len, hc1, Nat.reduceAdd, Int.cast_ofNat_Int, Nat.reduceBEq, Nat.reduceLT, decide_true, ev2]
end Go.Proofs.YtfhiplfagejfoaaDoor
namespace Go.Proofs.YtfhiplfagejfoaaDoor
open Go.Proofs.YtfhiplfagejfoaaDoor.K Go.ChangeShapes Go.WideShapes Go.ChangeAt Go.RowKit 
set_option maxRecDepth 100000
set_option linter.unusedSimpArgs false
set_option linter.unusedVariables false
def lbTm : LC := (.seq (.ops [⟨(some 301), .bin .lss (.tmp 300) (.tmp 299), none⟩])
 (.seq (.cond (.tmp 301) .skip
 (.exit 10))
 (.seq (.block 11 (.seq (.ops [⟨(some 302), .iaddrS 1 (.tmp 298) (.tmp 300), none⟩, ⟨(some 303), .load true 1 (.tmp 302), none⟩, ⟨(some 60), .alloc [(.slice none 0 0)], none⟩, ⟨none, .store 1 (.tmp 60) (.tmp 303), none⟩])
 (.seq (.ops [⟨(some 304), .mv (.tmp 7), none⟩, ⟨(some 305), .mv (.tmp 29), none⟩, ⟨(some 306), .buildS [(.int .i64 0), (.int .i64 0)] 2 [(0, 1, (.tmp 304)), (1, 1, (.tmp 305))], none⟩, ⟨(some 307), .len false (.tmp 306), none⟩, ⟨(some 308), .mv (.const (.int .i64 0)), none⟩])
 (.block 12 (.loop (.seq (.ops [⟨(some 309), .bin .lss (.tmp 308) (.tmp 307), none⟩])
 (.seq (.cond (.tmp 309) .skip
 (.exit 12))
 (.seq (.block 13 (.seq (.ops [⟨(some 310), .iaddrS 1 (.tmp 306) (.tmp 308), none⟩, ⟨(some 311), .load false 1 (.tmp 310), none⟩, ⟨(some 62), .mv (.tmp 311), none⟩])
 (.seq (.ops [⟨(some 313), .load true 3 (.tmp 32), none⟩, ⟨(some 314), .load true 1 (.tmp 60), none⟩, ⟨(some 315), .mv (.tmp 62), none⟩, ⟨(some 316), .call (.func 24) [(.tmp 313), (.tmp 314), (.tmp 315)], none⟩, ⟨(some 312), .mv (.tmp 316), none⟩, ⟨(some 317), .ext (.tmp 312) 0, none⟩, ⟨(some 318), .ext (.tmp 312) 1, none⟩, ⟨(some 63), .alloc [(.slice none 0 0)], none⟩, ⟨none, .store 1 (.tmp 63) (.tmp 317), none⟩, ⟨(some 64), .mv (.tmp 318), none⟩])
 (.seq (.ops [⟨(some 320), .load true 3 (.tmp 32), none⟩, ⟨(some 321), .load true 1 (.tmp 60), none⟩, ⟨(some 322), .mv (.tmp 62), none⟩, ⟨(some 323), .call (.func 25) [(.tmp 320), (.tmp 321), (.tmp 322)], none⟩, ⟨(some 319), .mv (.tmp 323), none⟩, ⟨(some 324), .ext (.tmp 319) 0, none⟩, ⟨(some 325), .ext (.tmp 319) 1, none⟩, ⟨(some 65), .alloc [(.slice none 0 0)], none⟩, ⟨none, .store 1 (.tmp 65) (.tmp 324), none⟩, ⟨(some 66), .mv (.tmp 325), none⟩])
 (.seq (.ops [⟨(some 327), .load true 3 (.tmp 32), none⟩, ⟨(some 328), .load true 1 (.tmp 60), none⟩, ⟨(some 329), .mv (.tmp 62), none⟩, ⟨(some 330), .call (.func 26) [(.tmp 327), (.tmp 328), (.tmp 329)], none⟩, ⟨(some 326), .mv (.tmp 330), none⟩, ⟨(some 331), .ext (.tmp 326) 0, none⟩, ⟨(some 332), .ext (.tmp 326) 1, none⟩, ⟨(some 67), .alloc [(.slice none 0 0)], none⟩, ⟨none, .store 1 (.tmp 67) (.tmp 331), none⟩, ⟨(some 68), .mv (.tmp 332), none⟩])
 (.seq (.ops [⟨(some 334), .load true 3 (.tmp 32), none⟩, ⟨(some 335), .load true 1 (.tmp 60), none⟩, ⟨(some 336), .mv (.tmp 62), none⟩, ⟨(some 337), .call (.func 27) [(.tmp 334), (.tmp 335), (.tmp 336)], none⟩, ⟨(some 333), .mv (.tmp 337), none⟩, ⟨(some 338), .ext (.tmp 333) 0, none⟩, ⟨(some 339), .ext (.tmp 333) 1, none⟩, ⟨(some 69), .alloc [(.slice none 0 0)], none⟩, ⟨none, .store 1 (.tmp 69) (.tmp 338), none⟩, ⟨(some 70), .mv (.tmp 339), none⟩])
 (.seq (.ops [⟨(some 340), .mv (.tmp 64), none⟩, ⟨(some 341), .mv (.tmp 66), none⟩, ⟨(some 342), .bin .neq (.tmp 340) (.tmp 341), none⟩, ⟨(some 343), .mv (.tmp 342), none⟩, ⟨(some 344), .load true 1 (.tmp 63), (some (343, false))⟩, ⟨(some 345), .load true 1 (.tmp 65), (some (343, false))⟩, ⟨(some 346), .call (.func 28) [(.tmp 344), (.tmp 345)], (some (343, false))⟩, ⟨(some 347), .un .not (.tmp 346), (some (343, false))⟩, ⟨(some 348), .pick (.tmp 343) (.const (.bool true)) (.tmp 347), none⟩, ⟨(some 349), .mv (.tmp 348), none⟩, ⟨(some 350), .mv (.tmp 68), (some (349, false))⟩, ⟨(some 351), .mv (.tmp 70), (some (349, false))⟩, ⟨(some 352), .bin .neq (.tmp 350) (.tmp 351), (some (349, false))⟩, ⟨(some 353), .pick (.tmp 349) (.const (.bool true)) (.tmp 352), none⟩, ⟨(some 354), .mv (.tmp 353), none⟩, ⟨(some 355), .load true 1 (.tmp 67), (some (354, false))⟩, ⟨(some 356), .load true 1 (.tmp 69), (some (354, false))⟩, ⟨(some 357), .call (.func 28) [(.tmp 355), (.tmp 356)], (some (354, false))⟩, ⟨(some 358), .un .not (.tmp 357), (some (354, false))⟩, ⟨(some 359), .pick (.tmp 354) (.const (.bool true)) (.tmp 358), none⟩])
 (.cond (.tmp 359) (.seq (.ops [⟨(some 22), .mv (.const (.bool false)), none⟩])
 .ret)
 .skip))))))))
 (.ops [⟨(some 360), .bin .add (.tmp 308) (.const (.int .i64 1)), none⟩, ⟨(some 308), .mv (.tmp 360), none⟩])))))))))
 (.ops [⟨(some 361), .bin .add (.tmp 300) (.const (.int .i64 1)), none⟩, ⟨(some 300), .mv (.tmp 361), none⟩]))))
set_option maxHeartbeats 8000000 in
theorem loopTm {B : OH} {H : HL} {N : St} {c0 : Nat} {vl va vt : Value} {q ma mm_ : Nat} {vy vw : Value} {xat xx xp xi : Int} {vds : Value} {di : Nat} {d : Nat} {vms : Value} {k p c : Int} {L : List Value} (sv : SlR fv 1 B H vms L) (hL4 : L.length = 4) (hL : ∀ v ∈ L, ∃ M : List C2, SlW c2 2 B H v M ∧ M.length ≤ 800000 ∧ C2s M) (hT : Tab B) (hN : good B H N) (bd : B d = none) (ld : lk H d = some (.cells [.int .i64 k, .int .i64 p, .int .i64 c] 3)) {ts : List Value} (kp : KTm c0 vl va vt q ma mm_ vy vw xat xx xp xi vds di d vms 0 ts) {F : Nat} (hF : 6000 + L.length + 1 ≤ F) :
    Ok (exec B { f := GlT B } F (LC.loop lbTm) ⟨ts, H, N⟩) (fun r s => r = .exit 10 ∧ good B s.H s.N ∧ Fr H s.H ∧ KTd c0 vl va vt q ma mm_ vy vw xat xx xp xi vds di d s.t) := by
  refine loop_rule (n0 := 6000) (fun r s => ∃ ts H' N', ∃ i : Nat, s = ⟨ts, H', N'⟩ ∧ KTm c0 vl va vt q ma mm_ vy vw xat xx xp xi vds di d vms i ts ∧ good B H' N' ∧ Fr H H' ∧ i ≤ L.length ∧ r = L.length - i) _ ?_ L.length _ ⟨ts, H, N, 0, rfl, kp, hN, Fr.refl, by omega, rfl⟩ _ hF
  clear kp hF F ts hN N
  rintro z r s ⟨ts, H1, N1, i, rfl, kp, g1, fk, hi, rfl⟩
  have hB := good_B g1
  have hR := good_rdB g1
  have hI := beqN g1.1.1
  have hc1 : ((i + 1 : Nat) : Int) = (i : Int) + 1 := by omega
  by_cases hin : i < L.length
  case neg =>
    have h1' : ¬ (i : Int) < 4 := by omega
    simp -implicitDefEqProofs (maxSteps := 10000000) (disch := omega) only [TlT, LlT, GlT_law16Conf, Vlaw16Conf_eq, GlT_lM, GlT_lH, GlT_lW, GlT_lA, GlT_law16pick, Vlaw16pick_eq, GlT_ref03Same, GlT_ref05Writes, GlT_ref10Words, GlT_rL, GlT_rP, GlT_ref16Place, Vref16Place_eq, GlT_ref16Spot, Vref16Spot_eq, GlT_rU, GlT_rW, GlT_gL, GlT_gP, GlT_wlogPlace, VwlogPlace_eq, GlT_wlogSpot, VwlogSpot_eq, GlT_gU, GlT_gW, hB, hR, hI, lbTm, kp.l, kp.t23, kp.t24, kp.t25, kp.t26, kp.t28, kp.t29, kp.t30, kp.t21, kp.t3, kp.t4, kp.t5, kp.t6, kp.t7, kp.t8, kp.t123, kp.t124, kp.t125, kp.t32, kp.t298, kp.t299, kp.t300, h1', bt, bf, all1, ress, res1, retV, Value.cells, reduceIte, reduceCtorEq, Int.reduceLT, Int.reduceLE, Int.reduceToNat, Int.reduceAdd, Int.reduceSub, Int.reduceMul, Int.reduceNeg, Nat.reduceMul, Nat.reduceAdd, Nat.reduceSub, Nat.reduceBEq, Nat.reduceEqDiff, Nat.reduceLT, Nat.reduceLeDiff, Int.reduceBEq, Int.reduceEq, Nat.reducePow, Int.reducePow, Int.reduceGT, Int.reduceGE, Int.reduceBNe, newsV_s, ev1, ev2, ev3, ev4]
    refine ok_some (.inr ⟨by simp, rfl, g1, fk, ⟨?_, ?_, ?_, ?_, ?_, ?_, ?_, ?_, ?_, ?_, ?_, ?_, ?_, ?_, ?_, ?_, ?_, ?_, ?_⟩⟩)
    all_goals simp (maxSteps := 10000000) (disch := omega) only [kp.l, kp.t23, kp.t24, kp.t25, kp.t26, kp.t28, kp.t29, kp.t30, kp.t21, kp.t3, kp.t4, kp.t5, kp.t6, kp.t7, kp.t8, kp.t123, kp.t124, kp.t125, kp.t32, kp.t298, kp.t299, kp.t300, lenV_sl, Int.toNat_natCast, bft, btf, gtst, st_len, Nat.reduceAdd, Int.cast_ofNat_Int, Nat.reduceBEq, Nat.reduceLT, decide_true, ev2]
  have hin4 : i < 4 := by omega
  have hin' : (i : Int) < 4 := by omega
  have i0 : (0 : Int) ≤ (i : Int) := by omega
  obtain ⟨bs_, os_, cs_, rfl, ds_, rs_⟩ := sv.at (by omega)
  obtain ⟨M, hm, hM, hMs⟩ := hL _ (List.mem_of_getElem? (some_getD (d := .slice none 0 0) hin))
  have r1 : rdO H1 B bs_ (os_ + i * 1) 1 (rdB B bs_ (os_ + i * 1) 1) = some [L.getD i (.slice none 0 0)] := (rs_ H1 fk i 0 1 _ hin (by omega)).trans rfl
  generalize L.getD i (.slice none 0 0) = v at *
  have a1 := all1_slw hm
  have g2 : good B ((N1.n 0, .cells [v] 1) :: H1) (sh N1) := good_new g1
  have g3 : good B ((N1.n 1, .cells [.int .i64 xp, .int .i64 (q : Int)] 2) :: (N1.n 0, .cells [v] 1) :: H1) (sh (sh N1)) := good_new (N := sh N1) g2
  have f2 : Fr H1 ((N1.n 0, .cells [v] 1) :: H1) := fr_new g1 Fr.refl 0
  have f3 : Fr ((N1.n 0, .cells [v] 1) :: H1) ((N1.n 1, .cells [.int .i64 xp, .int .i64 (q : Int)] 2) :: (N1.n 0, .cells [v] 1) :: H1) := fr_new (N := sh N1) g2 Fr.refl 0
  have s3 : SlR f1 1 B ((N1.n 1, .cells [.int .i64 xp, .int .i64 (q : Int)] 2) :: (N1.n 0, .cells [v] 1) :: H1) (.slice (some ⟨N1.n 1, 0, none⟩) 2 2) [xp, (q : Int)] := (slN_new (B := B) (N := sh N1) (f := f1) (sz := 1) g2 [xp, (q : Int)] (cs := [.int .i64 xp, .int .i64 (q : Int)]) (n := 2) (m := 2) rfl rfl rfl).rd f1_len
  have f13 := fk.trans (f2.trans f3)
  have main : ∀ (ts' : List Value), KTr c0 vl va vt q ma mm_ vy vw xat xx xp xi vds di d (.slice (some ⟨bs_, os_, none⟩) L.length cs_) i (N1.n 0) (.slice (some ⟨N1.n 1, 0, none⟩) 2 2) 2 0 ts' → ∀ F, 4000 ≤ F → Ok (exec B { f := GlT B } F (LC.loop lbTr) ⟨ts', (N1.n 1, .cells [.int .i64 xp, .int .i64 (q : Int)] 2) :: (N1.n 0, .cells [v] 1) :: H1, sh (sh N1)⟩) (fun r s => r = .exit 12 ∧ good B s.H s.N ∧ Fr ((N1.n 1, .cells [.int .i64 xp, .int .i64 (q : Int)] 2) :: (N1.n 0, .cells [v] 1) :: H1) s.H ∧ KTm c0 vl va vt q ma mm_ vy vw xat xx xp xi vds di d (.slice (some ⟨bs_, os_, none⟩) L.length cs_) i s.t) := fun ts' kp' F hF =>
    loopTr (L := [xp, (q : Int)]) s3 (by simp) (hm.mono f13) hM hMs hT g3 bd (f13 _ _ ld) (hB 0) (f3 _ _ lk_top) kp' (by simp only [List.length_cons, List.length_nil]; omega)
  rw [hL4] at *
  simp -implicitDefEqProofs (maxSteps := 10000000) (disch := omega) only [TlT, LlT, GlT_law16Conf, Vlaw16Conf_eq, GlT_lM, GlT_lH, GlT_lW, GlT_lA, GlT_law16pick, Vlaw16pick_eq, GlT_ref03Same, GlT_ref05Writes, GlT_ref10Words, GlT_rL, GlT_rP, GlT_ref16Place, Vref16Place_eq, GlT_ref16Spot, Vref16Spot_eq, GlT_rU, GlT_rW, GlT_gL, GlT_gP, GlT_wlogPlace, VwlogPlace_eq, GlT_wlogSpot, VwlogSpot_eq, GlT_gU, GlT_gW, hB, hR, hI, lbTm, kp.l, kp.t23, kp.t24, kp.t25, kp.t26, kp.t28, kp.t29, kp.t30, kp.t21, kp.t3, kp.t4, kp.t5, kp.t6, kp.t7, kp.t8, kp.t123, kp.t124, kp.t125, kp.t32, kp.t298, kp.t299, kp.t300, hin, hin4, hin', i0, r1, a1, bt, bf, all1, ress, res1, retV, Value.cells, reduceIte, reduceCtorEq, Int.reduceLT, Int.reduceLE, Int.reduceToNat, Int.reduceAdd, Int.reduceSub, Int.reduceMul, Int.reduceNeg, Nat.reduceMul, Nat.reduceAdd, Nat.reduceSub, Nat.reduceBEq, Nat.reduceEqDiff, Nat.reduceLT, Nat.reduceLeDiff, Int.reduceBEq, Int.reduceEq, Nat.reducePow, Int.reducePow, Int.reduceGT, Int.reduceGE, Int.reduceBNe, newsV_s, ev1, ev2, ev3, ev4]
  generalize hX : exec B _ _ (LC.loop _) _ = o
  obtain ⟨_, ⟨ts2, H5, N5⟩, rfl, rfl, g5, f5, kp2⟩ := (show Ok o _ by rw [← hX]; exact main _ (by constructor <;> simp (maxSteps := 10000000) (disch := omega) only [ kp.l, kp.t23, kp.t24, kp.t25, kp.t26, kp.t28, kp.t29, kp.t30, kp.t21, kp.t3, kp.t4, kp.t5, kp.t6, kp.t7, kp.t8, kp.t123, kp.t124, kp.t125, kp.t32, kp.t298, kp.t299, kp.t300, lenV_sl, Int.toNat_natCast, bft, btf, gtst, st_len, Nat.reduceAdd, Int.cast_ofNat_Int, Nat.reduceBEq, Nat.reduceLT, decide_true, ev2]) _ (by omega))
  simp only at g5 f5 kp2
  clear kp main
  have kp := kp2
  simp -implicitDefEqProofs (maxSteps := 10000000) (disch := omega) only [TlT, LlT, GlT_law16Conf, Vlaw16Conf_eq, GlT_lM, GlT_lH, GlT_lW, GlT_lA, GlT_law16pick, Vlaw16pick_eq, GlT_ref03Same, GlT_ref05Writes, GlT_ref10Words, GlT_rL, GlT_rP, GlT_ref16Place, Vref16Place_eq, GlT_ref16Spot, Vref16Spot_eq, GlT_rU, GlT_rW, GlT_gL, GlT_gP, GlT_wlogPlace, VwlogPlace_eq, GlT_wlogSpot, VwlogSpot_eq, GlT_gU, GlT_gW, hB, hR, hI, lbTm, kp.l, kp.t23, kp.t24, kp.t25, kp.t26, kp.t28, kp.t29, kp.t30, kp.t21, kp.t3, kp.t4, kp.t5, kp.t6, kp.t7, kp.t8, kp.t123, kp.t124, kp.t125, kp.t32, kp.t298, kp.t299, kp.t300, bt, bf, all1, ress, res1, retV, Value.cells, reduceIte, reduceCtorEq, Int.reduceLT, Int.reduceLE, Int.reduceToNat, Int.reduceAdd, Int.reduceSub, Int.reduceMul, Int.reduceNeg, Nat.reduceMul, Nat.reduceAdd, Nat.reduceSub, Nat.reduceBEq, Nat.reduceEqDiff, Nat.reduceLT, Nat.reduceLeDiff, Int.reduceBEq, Int.reduceEq, Nat.reducePow, Int.reducePow, Int.reduceGT, Int.reduceGE, Int.reduceBNe, newsV_s, ev1, ev2, ev3, ev4]
  refine ok_some (.inl ⟨rfl, 4 - (i + 1), by omega, _, H5, N5, i + 1, rfl, ⟨?_, ?_, ?_, ?_, ?_, ?_, ?_, ?_, ?_, ?_, ?_, ?_, ?_, ?_, ?_, ?_, ?_, ?_, ?_, ?_, ?_, ?_⟩, g5, f13.trans f5, by omega, rfl⟩)
  all_goals simp (maxSteps := 10000000) (disch := omega) only [kp.l, kp.t23, kp.t24, kp.t25, kp.t26, kp.t28, kp.t29, kp.t30, kp.t21, kp.t3, kp.t4, kp.t5, kp.t6, kp.t7, kp.t8, kp.t123, kp.t124, kp.t125, kp.t32, kp.t298, kp.t299, kp.t300, lenV_sl, Int.toNat_natCast, bft, btf, gtst, st_len, hc1, Nat.reduceAdd, Int.cast_ofNat_Int, Nat.reduceBEq, Nat.reduceLT, decide_true, ev2]
end Go.Proofs.YtfhiplfagejfoaaDoor
namespace Go.Proofs.YtfhiplfagejfoaaDoor
open Go.Proofs.YtfhiplfagejfoaaDoor.K Go.ChangeShapes Go.WideShapes Go.ChangeAt Go.RowKit 
set_option maxRecDepth 100000
set_option linter.unusedSimpArgs false
set_option linter.unusedVariables false
def lbTd : LC := (.seq (.ops [⟨(some 126), .bin .lss (.tmp 125) (.tmp 124), none⟩])
 (.seq (.cond (.tmp 126) .skip
 (.exit 0))
 (.seq (.block 1 (.seq (.ops [⟨(some 127), .iaddrS 3 (.tmp 123) (.tmp 125), none⟩, ⟨(some 128), .load true 3 (.tmp 127), none⟩, ⟨(some 32), .alloc [(.int .i64 0), (.int .i64 0), (.int .i64 0)], none⟩, ⟨none, .store 3 (.tmp 32) (.tmp 128), none⟩])
 (.seq (.seq (.ops [⟨(some 129), .mv (.tmp 6), none⟩, ⟨(some 130), .mv (.tmp 5), none⟩, ⟨(some 131), .call (.func 12) [(.tmp 130), (.const (.int .i64 200))], none⟩, ⟨(some 132), .conv .u64 (.tmp 131), none⟩, ⟨(some 133), .buildS [(.int .u64 0), (.int .u64 0)] 2 [(0, 1, (.tmp 129)), (1, 1, (.tmp 132))], none⟩, ⟨(some 134), .len false (.tmp 133), none⟩, ⟨(some 135), .mv (.const (.int .i64 0)), none⟩])
 (.block 2 (.loop (.seq (.ops [⟨(some 136), .bin .lss (.tmp 135) (.tmp 134), none⟩])
 (.seq (.cond (.tmp 136) .skip
 (.exit 2))
 (.seq (.block 3 (.seq (.ops [⟨(some 137), .iaddrS 1 (.tmp 133) (.tmp 135), none⟩, ⟨(some 138), .load false 1 (.tmp 137), none⟩, ⟨(some 34), .mv (.tmp 138), none⟩])
 (.seq (.ops [⟨(some 140), .load true 3 (.tmp 32), none⟩, ⟨(some 141), .mv (.tmp 34), none⟩, ⟨(some 142), .call (.func 14) [(.tmp 140), (.tmp 141)], none⟩, ⟨(some 139), .mv (.tmp 142), none⟩, ⟨(some 143), .ext (.tmp 139) 0, none⟩, ⟨(some 144), .ext (.tmp 139) 1, none⟩, ⟨(some 35), .mv (.tmp 143), none⟩, ⟨(some 36), .mv (.tmp 144), none⟩])
 (.seq (.ops [⟨(some 146), .load true 3 (.tmp 32), none⟩, ⟨(some 147), .mv (.tmp 34), none⟩, ⟨(some 148), .call (.func 15) [(.tmp 146), (.tmp 147)], none⟩, ⟨(some 145), .mv (.tmp 148), none⟩, ⟨(some 149), .ext (.tmp 145) 0, none⟩, ⟨(some 150), .ext (.tmp 145) 1, none⟩, ⟨(some 37), .mv (.tmp 149), none⟩, ⟨(some 38), .mv (.tmp 150), none⟩])
 (.seq (.ops [⟨(some 151), .mv (.tmp 35), none⟩, ⟨(some 152), .mv (.tmp 37), none⟩, ⟨(some 153), .bin .neq (.tmp 151) (.tmp 152), none⟩, ⟨(some 154), .mv (.tmp 153), none⟩, ⟨(some 155), .mv (.tmp 36), (some (154, false))⟩, ⟨(some 156), .mv (.tmp 38), (some (154, false))⟩, ⟨(some 157), .eqb true (.tmp 155) (.tmp 156), (some (154, false))⟩, ⟨(some 158), .pick (.tmp 154) (.const (.bool true)) (.tmp 157), none⟩])
 (.cond (.tmp 158) (.seq (.ops [⟨(some 22), .mv (.const (.bool false)), none⟩])
 .ret)
 .skip))))))
 (.ops [⟨(some 159), .bin .add (.tmp 135) (.const (.int .i64 1)), none⟩, ⟨(some 135), .mv (.tmp 159), none⟩])))))))
 (.seq (.seq (.ops [⟨(some 160), .mv (.tmp 25), none⟩, ⟨(some 161), .mv (.tmp 3), none⟩, ⟨(some 162), .mv (.tmp 3), none⟩, ⟨(some 163), .len false (.tmp 162), none⟩, ⟨(some 164), .mm false [(.tmp 163), (.const (.int .i64 30))], none⟩, ⟨(some 165), .slc 2 (.tmp 161) none (some (.tmp 164)) none, none⟩, ⟨(some 166), .buildS [(.slice none 0 0), (.slice none 0 0)] 2 [(0, 1, (.tmp 160)), (1, 1, (.tmp 165))], none⟩, ⟨(some 167), .len false (.tmp 166), none⟩, ⟨(some 168), .mv (.const (.int .i64 0)), none⟩])
 (.block 4 (.loop (.seq (.ops [⟨(some 169), .bin .lss (.tmp 168) (.tmp 167), none⟩])
 (.seq (.cond (.tmp 169) .skip
 (.exit 4))
 (.seq (.block 5 (.seq (.ops [⟨(some 170), .iaddrS 1 (.tmp 166) (.tmp 168), none⟩, ⟨(some 171), .load false 1 (.tmp 170), none⟩, ⟨(some 40), .mv (.tmp 171), none⟩])
 (.seq (.ops [⟨(some 173), .load true 3 (.tmp 32), none⟩, ⟨(some 174), .mv (.tmp 40), none⟩, ⟨(some 175), .call (.func 16) [(.tmp 173), (.tmp 174)], none⟩, ⟨(some 172), .mv (.tmp 175), none⟩, ⟨(some 176), .ext (.tmp 172) 0, none⟩, ⟨(some 177), .ext (.tmp 172) 1, none⟩, ⟨(some 41), .mv (.tmp 176), none⟩, ⟨(some 42), .mv (.tmp 177), none⟩])
 (.seq (.ops [⟨(some 179), .load true 3 (.tmp 32), none⟩, ⟨(some 180), .mv (.tmp 40), none⟩, ⟨(some 181), .call (.func 11) [(.tmp 179), (.tmp 180)], none⟩, ⟨(some 178), .mv (.tmp 181), none⟩, ⟨(some 182), .ext (.tmp 178) 0, none⟩, ⟨(some 183), .ext (.tmp 178) 1, none⟩, ⟨(some 43), .mv (.tmp 182), none⟩, ⟨(some 44), .mv (.tmp 183), none⟩])
 (.seq (.ops [⟨(some 184), .mv (.tmp 42), none⟩, ⟨(some 185), .mv (.tmp 44), none⟩, ⟨(some 186), .bin .neq (.tmp 184) (.tmp 185), none⟩, ⟨(some 187), .mv (.tmp 186), none⟩, ⟨(some 188), .mv (.tmp 41), (some (187, false))⟩, ⟨(some 189), .mv (.tmp 43), (some (187, false))⟩, ⟨(some 190), .call (.func 17) [(.tmp 188), (.tmp 189)], (some (187, false))⟩, ⟨(some 191), .un .not (.tmp 190), (some (187, false))⟩, ⟨(some 192), .pick (.tmp 187) (.const (.bool true)) (.tmp 191), none⟩])
 (.cond (.tmp 192) (.seq (.ops [⟨(some 22), .mv (.const (.bool false)), none⟩])
 .ret)
 .skip))))))
 (.ops [⟨(some 193), .bin .add (.tmp 168) (.const (.int .i64 1)), none⟩, ⟨(some 168), .mv (.tmp 193), none⟩])))))))
 (.seq (.seq (.ops [⟨(some 194), .mv (.tmp 26), none⟩, ⟨(some 195), .mv (.tmp 28), none⟩, ⟨(some 196), .mv (.tmp 4), none⟩, ⟨(some 197), .mv (.tmp 4), none⟩, ⟨(some 198), .len false (.tmp 197), none⟩, ⟨(some 199), .mm false [(.tmp 198), (.const (.int .i64 100))], none⟩, ⟨(some 200), .slc 1 (.tmp 196) none (some (.tmp 199)) none, none⟩, ⟨(some 201), .buildS [(.slice none 0 0), (.slice none 0 0), (.slice none 0 0)] 3 [(0, 1, (.tmp 194)), (1, 1, (.tmp 195)), (2, 1, (.tmp 200))], none⟩, ⟨(some 202), .len false (.tmp 201), none⟩, ⟨(some 203), .mv (.const (.int .i64 0)), none⟩])
 (.block 6 (.loop (.seq (.ops [⟨(some 204), .bin .lss (.tmp 203) (.tmp 202), none⟩])
 (.seq (.cond (.tmp 204) .skip
 (.exit 6))
 (.seq (.block 7 (.seq (.ops [⟨(some 205), .iaddrS 1 (.tmp 201) (.tmp 203), none⟩, ⟨(some 206), .load false 1 (.tmp 205), none⟩, ⟨(some 46), .mv (.tmp 206), none⟩])
 (.seq (.ops [⟨(some 208), .load true 3 (.tmp 32), none⟩, ⟨(some 209), .mv (.tmp 46), none⟩, ⟨(some 210), .call (.func 18) [(.tmp 208), (.tmp 209)], none⟩, ⟨(some 207), .mv (.tmp 210), none⟩, ⟨(some 211), .ext (.tmp 207) 0, none⟩, ⟨(some 212), .ext (.tmp 207) 1, none⟩, ⟨(some 47), .mv (.tmp 211), none⟩, ⟨(some 48), .mv (.tmp 212), none⟩])
 (.seq (.ops [⟨(some 214), .load true 3 (.tmp 32), none⟩, ⟨(some 215), .mv (.tmp 46), none⟩, ⟨(some 216), .call (.func 19) [(.tmp 214), (.tmp 215)], none⟩, ⟨(some 213), .mv (.tmp 216), none⟩, ⟨(some 217), .ext (.tmp 213) 0, none⟩, ⟨(some 218), .ext (.tmp 213) 1, none⟩, ⟨(some 49), .mv (.tmp 217), none⟩, ⟨(some 50), .mv (.tmp 218), none⟩])
 (.seq (.ops [⟨(some 219), .mv (.tmp 48), none⟩, ⟨(some 220), .mv (.tmp 50), none⟩, ⟨(some 221), .bin .neq (.tmp 219) (.tmp 220), none⟩, ⟨(some 222), .mv (.tmp 221), none⟩, ⟨(some 223), .mv (.tmp 47), (some (222, false))⟩, ⟨(some 224), .mv (.tmp 49), (some (222, false))⟩, ⟨(some 225), .call (.func 20) [(.tmp 223), (.tmp 224)], (some (222, false))⟩, ⟨(some 226), .un .not (.tmp 225), (some (222, false))⟩, ⟨(some 227), .pick (.tmp 222) (.const (.bool true)) (.tmp 226), none⟩])
 (.cond (.tmp 227) (.seq (.ops [⟨(some 22), .mv (.const (.bool false)), none⟩])
 .ret)
 .skip))))))
 (.ops [⟨(some 228), .bin .add (.tmp 203) (.const (.int .i64 1)), none⟩, ⟨(some 203), .mv (.tmp 228), none⟩])))))))
 (.seq (.seq (.ops [⟨(some 229), .mv (.tmp 7), none⟩, ⟨(some 230), .mv (.tmp 8), none⟩, ⟨(some 231), .build [(.int .i64 0), (.int .i64 0)] [(0, 1, (.tmp 229)), (1, 1, (.tmp 230))], none⟩, ⟨(some 232), .mv (.tmp 29), none⟩, ⟨(some 233), .mv (.tmp 8), none⟩, ⟨(some 234), .build [(.int .i64 0), (.int .i64 0)] [(0, 1, (.tmp 232)), (1, 1, (.tmp 233))], none⟩, ⟨(some 235), .mv (.tmp 29), none⟩, ⟨(some 236), .mv (.tmp 8), none⟩, ⟨(some 237), .call (.func 12) [(.tmp 236), (.const (.int .i64 20))], none⟩, ⟨(some 238), .build [(.int .i64 0), (.int .i64 0)] [(0, 1, (.tmp 235)), (1, 1, (.tmp 237))], none⟩, ⟨(some 239), .buildS [(.int .i64 0), (.int .i64 0), (.int .i64 0), (.int .i64 0), (.int .i64 0), (.int .i64 0)] 3 [(0, 2, (.tmp 231)), (2, 2, (.tmp 234)), (4, 2, (.tmp 238))], none⟩, ⟨(some 240), .len false (.tmp 239), none⟩, ⟨(some 241), .mv (.const (.int .i64 0)), none⟩])
 (.block 8 (.loop (.seq (.ops [⟨(some 242), .bin .lss (.tmp 241) (.tmp 240), none⟩])
 (.seq (.cond (.tmp 242) .skip
 (.exit 8))
 (.seq (.block 9 (.seq (.ops [⟨(some 243), .iaddrS 2 (.tmp 239) (.tmp 241), none⟩, ⟨(some 244), .load true 2 (.tmp 243), none⟩, ⟨(some 52), .alloc [(.int .i64 0), (.int .i64 0)], none⟩, ⟨none, .store 2 (.tmp 52) (.tmp 244), none⟩])
 (.seq (.ops [⟨(some 246), .load true 3 (.tmp 32), none⟩, ⟨(some 247), .iaddrA 1 2 (.tmp 52) (.const (.int .i64 0)), none⟩, ⟨(some 248), .load false 1 (.tmp 247), none⟩, ⟨(some 249), .iaddrA 1 2 (.tmp 52) (.const (.int .i64 1)), none⟩, ⟨(some 250), .load false 1 (.tmp 249), none⟩, ⟨(some 251), .call (.func 21) [(.tmp 246), (.tmp 248), (.tmp 250)], none⟩, ⟨(some 245), .mv (.tmp 251), none⟩, ⟨(some 252), .ext (.tmp 245) 0, none⟩, ⟨(some 253), .ext (.tmp 245) 1, none⟩, ⟨(some 254), .ext (.tmp 245) 2, none⟩, ⟨(some 53), .mv (.tmp 252), none⟩, ⟨(some 54), .mv (.tmp 253), none⟩, ⟨(some 55), .mv (.tmp 254), none⟩])
 (.seq (.ops [⟨(some 256), .load true 3 (.tmp 32), none⟩, ⟨(some 257), .iaddrA 1 2 (.tmp 52) (.const (.int .i64 0)), none⟩, ⟨(some 258), .load false 1 (.tmp 257), none⟩, ⟨(some 259), .iaddrA 1 2 (.tmp 52) (.const (.int .i64 1)), none⟩, ⟨(some 260), .load false 1 (.tmp 259), none⟩, ⟨(some 261), .call (.func 22) [(.tmp 256), (.tmp 258), (.tmp 260)], none⟩, ⟨(some 255), .mv (.tmp 261), none⟩, ⟨(some 262), .ext (.tmp 255) 0, none⟩, ⟨(some 263), .ext (.tmp 255) 1, none⟩, ⟨(some 264), .ext (.tmp 255) 2, none⟩, ⟨(some 56), .mv (.tmp 262), none⟩, ⟨(some 57), .mv (.tmp 263), none⟩, ⟨(some 58), .mv (.tmp 264), none⟩])
 (.seq (.ops [⟨(some 265), .mv (.tmp 53), none⟩, ⟨(some 266), .mv (.tmp 56), none⟩, ⟨(some 267), .bin .neq (.tmp 265) (.tmp 266), none⟩, ⟨(some 268), .mv (.tmp 267), none⟩, ⟨(some 269), .mv (.tmp 54), (some (268, false))⟩, ⟨(some 270), .mv (.tmp 57), (some (268, false))⟩, ⟨(some 271), .bin .neq (.tmp 269) (.tmp 270), (some (268, false))⟩, ⟨(some 272), .pick (.tmp 268) (.const (.bool true)) (.tmp 271), none⟩, ⟨(some 273), .mv (.tmp 272), none⟩, ⟨(some 274), .mv (.tmp 55), (some (273, false))⟩, ⟨(some 275), .mv (.tmp 58), (some (273, false))⟩, ⟨(some 276), .bin .neq (.tmp 274) (.tmp 275), (some (273, false))⟩, ⟨(some 277), .pick (.tmp 273) (.const (.bool true)) (.tmp 276), none⟩])
 (.cond (.tmp 277) (.seq (.ops [⟨(some 22), .mv (.const (.bool false)), none⟩])
 .ret)
 .skip))))))
 (.ops [⟨(some 278), .bin .add (.tmp 241) (.const (.int .i64 1)), none⟩, ⟨(some 241), .mv (.tmp 278), none⟩])))))))
 (.seq (.draw [⟨⟨(some 279), .load true 1 (.tmp 30), none⟩, []⟩, ⟨⟨(some 280), .load true 3 (.tmp 24), none⟩, []⟩, ⟨⟨(some 281), .load true 1 (.tmp 30), none⟩, []⟩, ⟨⟨(some 282), .mv (.tmp 29), none⟩, []⟩, ⟨⟨(some 283), .mv (.tmp 26), none⟩, []⟩, ⟨⟨(some 285), .load true 3 (.tmp 24), none⟩, []⟩, ⟨⟨(some 286), .load true 1 (.tmp 30), none⟩, []⟩, ⟨⟨(some 287), .mv (.tmp 29), none⟩, []⟩, ⟨⟨(some 288), .mv (.tmp 28), none⟩, []⟩, ⟨⟨(some 290), .faddr 0 (.tmp 21), none⟩, []⟩, ⟨⟨(some 291), .load false 1 (.tmp 290), none⟩, []⟩, ⟨⟨(some 292), .faddr 0 (.tmp 21), none⟩, []⟩, ⟨⟨(some 293), .load false 1 (.tmp 292), none⟩, []⟩, ⟨⟨(some 294), .len false (.tmp 293), none⟩, []⟩, ⟨⟨(some 295), .mm false [(.tmp 294), (.const (.int .i64 200))], none⟩, []⟩, ⟨⟨(some 296), .slc 2 (.tmp 291) none (some (.tmp 295)) none, none⟩, []⟩, ⟨⟨(some 297), .build [(.slice none 0 0)] [(0, 1, (.tmp 296))], none⟩, []⟩, ⟨⟨(some 300), .mv (.const (.int .i64 0)), none⟩, []⟩, ⟨⟨(some 284), .call (.func 23) [(.tmp 280), (.tmp 281), (.tmp 282), (.tmp 283)], none⟩, [⟨(some 279), .load true 1 (.tmp 30), none⟩, ⟨(some 285), .load true 3 (.tmp 24), none⟩, ⟨(some 286), .load true 1 (.tmp 30), none⟩, ⟨(some 291), .load false 1 (.tmp 290), none⟩, ⟨(some 293), .load false 1 (.tmp 292), none⟩]⟩, ⟨⟨(some 289), .call (.func 23) [(.tmp 285), (.tmp 286), (.tmp 287), (.tmp 288)], none⟩, [⟨(some 279), .load true 1 (.tmp 30), none⟩, ⟨(some 291), .load false 1 (.tmp 290), none⟩, ⟨(some 293), .load false 1 (.tmp 292), none⟩]⟩, ⟨⟨(some 298), .buildS [(.slice none 0 0), (.slice none 0 0), (.slice none 0 0), (.slice none 0 0)] 4 [(0, 1, (.tmp 279)), (1, 1, (.tmp 284)), (2, 1, (.tmp 289)), (3, 1, (.tmp 297))], none⟩, []⟩, ⟨⟨(some 299), .len false (.tmp 298), none⟩, []⟩])
 (.block 10 (.loop (.seq (.ops [⟨(some 301), .bin .lss (.tmp 300) (.tmp 299), none⟩])
 (.seq (.cond (.tmp 301) .skip
 (.exit 10))
 (.seq (.block 11 (.seq (.ops [⟨(some 302), .iaddrS 1 (.tmp 298) (.tmp 300), none⟩, ⟨(some 303), .load true 1 (.tmp 302), none⟩, ⟨(some 60), .alloc [(.slice none 0 0)], none⟩, ⟨none, .store 1 (.tmp 60) (.tmp 303), none⟩])
 (.seq (.ops [⟨(some 304), .mv (.tmp 7), none⟩, ⟨(some 305), .mv (.tmp 29), none⟩, ⟨(some 306), .buildS [(.int .i64 0), (.int .i64 0)] 2 [(0, 1, (.tmp 304)), (1, 1, (.tmp 305))], none⟩, ⟨(some 307), .len false (.tmp 306), none⟩, ⟨(some 308), .mv (.const (.int .i64 0)), none⟩])
 (.block 12 (.loop (.seq (.ops [⟨(some 309), .bin .lss (.tmp 308) (.tmp 307), none⟩])
 (.seq (.cond (.tmp 309) .skip
 (.exit 12))
 (.seq (.block 13 (.seq (.ops [⟨(some 310), .iaddrS 1 (.tmp 306) (.tmp 308), none⟩, ⟨(some 311), .load false 1 (.tmp 310), none⟩, ⟨(some 62), .mv (.tmp 311), none⟩])
 (.seq (.ops [⟨(some 313), .load true 3 (.tmp 32), none⟩, ⟨(some 314), .load true 1 (.tmp 60), none⟩, ⟨(some 315), .mv (.tmp 62), none⟩, ⟨(some 316), .call (.func 24) [(.tmp 313), (.tmp 314), (.tmp 315)], none⟩, ⟨(some 312), .mv (.tmp 316), none⟩, ⟨(some 317), .ext (.tmp 312) 0, none⟩, ⟨(some 318), .ext (.tmp 312) 1, none⟩, ⟨(some 63), .alloc [(.slice none 0 0)], none⟩, ⟨none, .store 1 (.tmp 63) (.tmp 317), none⟩, ⟨(some 64), .mv (.tmp 318), none⟩])
 (.seq (.ops [⟨(some 320), .load true 3 (.tmp 32), none⟩, ⟨(some 321), .load true 1 (.tmp 60), none⟩, ⟨(some 322), .mv (.tmp 62), none⟩, ⟨(some 323), .call (.func 25) [(.tmp 320), (.tmp 321), (.tmp 322)], none⟩, ⟨(some 319), .mv (.tmp 323), none⟩, ⟨(some 324), .ext (.tmp 319) 0, none⟩, ⟨(some 325), .ext (.tmp 319) 1, none⟩, ⟨(some 65), .alloc [(.slice none 0 0)], none⟩, ⟨none, .store 1 (.tmp 65) (.tmp 324), none⟩, ⟨(some 66), .mv (.tmp 325), none⟩])
 (.seq (.ops [⟨(some 327), .load true 3 (.tmp 32), none⟩, ⟨(some 328), .load true 1 (.tmp 60), none⟩, ⟨(some 329), .mv (.tmp 62), none⟩, ⟨(some 330), .call (.func 26) [(.tmp 327), (.tmp 328), (.tmp 329)], none⟩, ⟨(some 326), .mv (.tmp 330), none⟩, ⟨(some 331), .ext (.tmp 326) 0, none⟩, ⟨(some 332), .ext (.tmp 326) 1, none⟩, ⟨(some 67), .alloc [(.slice none 0 0)], none⟩, ⟨none, .store 1 (.tmp 67) (.tmp 331), none⟩, ⟨(some 68), .mv (.tmp 332), none⟩])
 (.seq (.ops [⟨(some 334), .load true 3 (.tmp 32), none⟩, ⟨(some 335), .load true 1 (.tmp 60), none⟩, ⟨(some 336), .mv (.tmp 62), none⟩, ⟨(some 337), .call (.func 27) [(.tmp 334), (.tmp 335), (.tmp 336)], none⟩, ⟨(some 333), .mv (.tmp 337), none⟩, ⟨(some 338), .ext (.tmp 333) 0, none⟩, ⟨(some 339), .ext (.tmp 333) 1, none⟩, ⟨(some 69), .alloc [(.slice none 0 0)], none⟩, ⟨none, .store 1 (.tmp 69) (.tmp 338), none⟩, ⟨(some 70), .mv (.tmp 339), none⟩])
 (.seq (.ops [⟨(some 340), .mv (.tmp 64), none⟩, ⟨(some 341), .mv (.tmp 66), none⟩, ⟨(some 342), .bin .neq (.tmp 340) (.tmp 341), none⟩, ⟨(some 343), .mv (.tmp 342), none⟩, ⟨(some 344), .load true 1 (.tmp 63), (some (343, false))⟩, ⟨(some 345), .load true 1 (.tmp 65), (some (343, false))⟩, ⟨(some 346), .call (.func 28) [(.tmp 344), (.tmp 345)], (some (343, false))⟩, ⟨(some 347), .un .not (.tmp 346), (some (343, false))⟩, ⟨(some 348), .pick (.tmp 343) (.const (.bool true)) (.tmp 347), none⟩, ⟨(some 349), .mv (.tmp 348), none⟩, ⟨(some 350), .mv (.tmp 68), (some (349, false))⟩, ⟨(some 351), .mv (.tmp 70), (some (349, false))⟩, ⟨(some 352), .bin .neq (.tmp 350) (.tmp 351), (some (349, false))⟩, ⟨(some 353), .pick (.tmp 349) (.const (.bool true)) (.tmp 352), none⟩, ⟨(some 354), .mv (.tmp 353), none⟩, ⟨(some 355), .load true 1 (.tmp 67), (some (354, false))⟩, ⟨(some 356), .load true 1 (.tmp 69), (some (354, false))⟩, ⟨(some 357), .call (.func 28) [(.tmp 355), (.tmp 356)], (some (354, false))⟩, ⟨(some 358), .un .not (.tmp 357), (some (354, false))⟩, ⟨(some 359), .pick (.tmp 354) (.const (.bool true)) (.tmp 358), none⟩])
 (.cond (.tmp 359) (.seq (.ops [⟨(some 22), .mv (.const (.bool false)), none⟩])
 .ret)
 .skip))))))))
 (.ops [⟨(some 360), .bin .add (.tmp 308) (.const (.int .i64 1)), none⟩, ⟨(some 308), .mv (.tmp 360), none⟩])))))))))
 (.ops [⟨(some 361), .bin .add (.tmp 300) (.const (.int .i64 1)), none⟩, ⟨(some 300), .mv (.tmp 361), none⟩])))))))))))))
 (.ops [⟨(some 362), .bin .add (.tmp 125) (.const (.int .i64 1)), none⟩, ⟨(some 125), .mv (.tmp 362), none⟩]))))
structure TD (B : OH) (H : HL) (k0 p0 cc0 h0 c0 q ma mm_ : Nat) (vl va vt vy vw vA vm : Value) (l : List W2) (own trn ws : List Int) (ys : List W2) (A Mx : List C2) : Prop where
  C : Cf k0 p0 cc0 h0
  q : q < p0
  lc : lk H c0 = some (.cells [.int .i64 (k0 : Int), .int .i64 (p0 : Int), .int .i64 (cc0 : Int)] 3)
  bc : B c0 = none
  sl : SlR w2 2 B H vl l
  hl : W2s l
  sa : SlR w1 1 B H va own
  ha : U64s own
  la : own.length ≤ 900000
  st_ : SlR w1 1 B H vt trn
  ht : U64s trn
  lt : trn.length ≤ 900000
  sy : SlW w2 2 B H vy ys
  hy : W2s ys
  sw : SlW w1 1 B H vw ws
  hw : U64s ws
  lA : lk H ma = some (.cells [vA] 1)
  bA : B ma = none
  sA : SlW c2 2 B H vA A
  hA : A.length = bs p0 h0 5
  hAs : C2s A
  lm : lk H mm_ = some (.cells [vm] 1)
  bm : B mm_ = none
  sm : SlW c2 2 B H vm Mx
  hm : C2s Mx
theorem TD.mono {B : OH} {H H' : HL} {k0 p0 cc0 h0 c0 q ma mm_ : Nat} {vl va vt vy vw vA vm : Value} {l : List W2} {own trn ws : List Int} {ys : List W2} {A Mx : List C2} (T : TD B H k0 p0 cc0 h0 c0 q ma mm_ vl va vt vy vw vA vm l own trn ws ys A Mx) (hF : Fr H H') : TD B H' k0 p0 cc0 h0 c0 q ma mm_ vl va vt vy vw vA vm l own trn ws ys A Mx :=
  ⟨T.C, T.q, hF _ _ T.lc, T.bc, T.sl.mono hF, T.hl, T.sa.mono hF, T.ha, T.la, T.st_.mono hF, T.ht, T.lt, T.sy.mono hF, T.hy, T.sw.mono hF, T.hw, hF _ _ T.lA, T.bA, T.sA.mono hF, T.hA, T.hAs, hF _ _ T.lm, T.bm, T.sm.mono hF, T.hm⟩
set_option maxHeartbeats 16000000 in
theorem loopTd {B : OH} {H : HL} {N : St} {k0 p0 cc0 h0 c0 q ma mm_ : Nat} {vl va vt vy vw vA vm vds : Value} {l : List W2} {own trn ws : List Int} {ys : List W2} {A Mx : List C2} {xat xx xp xi : Int} {L : List Q3} (T : TD B H k0 p0 cc0 h0 c0 q ma mm_ vl va vt vy vw vA vm l own trn ws ys A Mx) (hx1 : i64R xat) (hx2 : u64R xx) (hx3 : i64R xp) (hx4 : i64R xi) (sv : SlR q3 3 B H vds L) (hL2 : L.length = 2) (hT : Tab B) (hN : good B H N) {ts : List Value} (kp : KTt c0 vl va vt q ma mm_ vy vw xat xx xp xi vds 0 ts) {F : Nat} (hF : 10000 + L.length + 1 ≤ F) :
    Ok (exec B { f := GlT B } F (LC.loop lbTd) ⟨ts, H, N⟩) (fun r s => r = .exit 0 ∧ ∃ i, KTt c0 vl va vt q ma mm_ vy vw xat xx xp xi vds i s.t) := by
  refine loop_rule (n0 := 10000) (fun r s => ∃ ts H' N', ∃ i : Nat, s = ⟨ts, H', N'⟩ ∧ KTt c0 vl va vt q ma mm_ vy vw xat xx xp xi vds i ts ∧ good B H' N' ∧ Fr H H' ∧ i ≤ L.length ∧ r = L.length - i) _ ?_ L.length _ ⟨ts, H, N, 0, rfl, kp, hN, Fr.refl, by omega, rfl⟩ _ hF
  clear kp hF F ts hN N
  rintro z r s ⟨ts, H1, N1, di, rfl, kp, g1, fk, hi, rfl⟩
  have hB := good_B g1
  have hR := good_rdB g1
  have hI := beqN g1.1.1
  have hG : ∃ H N, good B H N := ⟨H1, N1, g1⟩
  have hc1 : ((di + 1 : Nat) : Int) = (di : Int) + 1 := by omega
  by_cases hin : di < L.length
  case neg =>
    have h1' : ¬ (di : Int) < 2 := by omega
    simp -implicitDefEqProofs (maxSteps := 10000000) (disch := omega) only [TlT, LlT, GlT_law16Conf, Vlaw16Conf_eq, GlT_lM, GlT_lH, GlT_lW, GlT_lA, GlT_law16pick, Vlaw16pick_eq, GlT_ref03Same, GlT_ref05Writes, GlT_ref10Words, GlT_rL, GlT_rP, GlT_ref16Place, Vref16Place_eq, GlT_ref16Spot, Vref16Spot_eq, GlT_rU, GlT_rW, GlT_gL, GlT_gP, GlT_wlogPlace, VwlogPlace_eq, GlT_wlogSpot, VwlogSpot_eq, GlT_gU, GlT_gW, hB, hR, hI, lbTd, kp.l, kp.t23, kp.t24, kp.t25, kp.t26, kp.t28, kp.t29, kp.t30, kp.t21, kp.t3, kp.t4, kp.t5, kp.t6, kp.t7, kp.t8, kp.t123, kp.t124, kp.t125, h1', bt, bf, all1, ress, res1, retV, Value.cells, reduceIte, reduceCtorEq, Int.reduceLT, Int.reduceLE, Int.reduceToNat, Int.reduceAdd, Int.reduceSub, Int.reduceMul, Int.reduceNeg, Nat.reduceMul, Nat.reduceAdd, Nat.reduceSub, Nat.reduceBEq, Nat.reduceEqDiff, Nat.reduceLT, Nat.reduceLeDiff, Int.reduceBEq, Int.reduceEq, Nat.reducePow, Int.reducePow, Int.reduceGT, Int.reduceGE, Int.reduceBNe, newsV_s, ev1, ev2, ev3, ev4]
    refine ok_some (.inr ⟨by simp, rfl, di, ⟨?_, ?_, ?_, ?_, ?_, ?_, ?_, ?_, ?_, ?_, ?_, ?_, ?_, ?_, ?_, ?_, ?_, ?_⟩⟩)
    all_goals simp (maxSteps := 10000000) (disch := omega) only [kp.l, kp.t23, kp.t24, kp.t25, kp.t26, kp.t28, kp.t29, kp.t30, kp.t21, kp.t3, kp.t4, kp.t5, kp.t6, kp.t7, kp.t8, kp.t123, kp.t124, kp.t125, lenV_sl, Int.toNat_natCast, bft, btf, gtst, st_len, Nat.reduceAdd, Int.cast_ofNat_Int, Nat.reduceBEq, Nat.reduceLT, decide_true, ev2]
  have hin2 : di < 2 := by omega
  have hin' : (di : Int) < 2 := by omega
  have i0 : (0 : Int) ≤ (di : Int) := by omega
  obtain ⟨bs_, os_, cs_, hvds, ds_, rs_⟩ := sv.at (by omega)
  rw [hL2] at hvds
  have r1 : rdO H1 B bs_ (os_ + di * 3) 3 (rdB B bs_ (os_ + di * 3) 3) = some [.int .i64 (L.getD di q30).a, .int .i64 (L.getD di q30).b, .int .i64 (L.getD di q30).c] := (rs_ H1 fk di 0 3 q30 hin (by omega)).trans rfl
  generalize (L.getD di q30).a = k at r1
  generalize (L.getD di q30).b = p at r1
  generalize (L.getD di q30).c = c at r1
  replace T := T.mono fk
  -- the numbers
  have eP := fpick hG xat 200 hx1 (by omega)
  have kP := pk_b (x := xat) (n := 200) (by omega)
  generalize pk xat 200 = at2 at eP kP
  have uP : IntKind.u64.wrap at2 = at2 := IntWalk.u64_in _ (by omega)
  have g2 : good B ((N1.n 0, .cells [.int .i64 k, .int .i64 p, .int .i64 c] 3) :: H1) (sh N1) := good_new g1
  have f2 : Fr H1 ((N1.n 0, .cells [.int .i64 k, .int .i64 p, .int .i64 c] 3) :: H1) := fr_new g1 Fr.refl 0
  have g3 : good B ((N1.n 1, .cells [.int .u64 xx, .int .u64 at2] 2) :: (N1.n 0, .cells [.int .i64 k, .int .i64 p, .int .i64 c] 3) :: H1) (sh (sh N1)) := good_new (N := sh N1) g2
  have f3 : Fr ((N1.n 0, .cells [.int .i64 k, .int .i64 p, .int .i64 c] 3) :: H1) ((N1.n 1, .cells [.int .u64 xx, .int .u64 at2] 2) :: (N1.n 0, .cells [.int .i64 k, .int .i64 p, .int .i64 c] 3) :: H1) := fr_new (N := sh N1) g2 Fr.refl 0
  have s3 : SlR w1 1 B ((N1.n 1, .cells [.int .u64 xx, .int .u64 at2] 2) :: (N1.n 0, .cells [.int .i64 k, .int .i64 p, .int .i64 c] 3) :: H1) (.slice (some ⟨N1.n 1, 0, none⟩) 2 2) [xx, at2] := (slN_new (B := B) (N := sh N1) (f := w1) (sz := 1) g2 [xx, at2] (cs := [.int .u64 xx, .int .u64 at2]) (n := 2) (m := 2) rfl rfl rfl).rd w1_len
  have u3 : U64s [xx, at2] := fun x hx => by
    rcases List.mem_cons.1 hx with rfl | hx
    · exact hx2
    · rw [List.mem_singleton.1 hx]; unfold u64R; omega
  have bd := hB 0
  have rd_ := fun o n => rdB_none (o := o) (n := n) bd
  have ld3 := f3 _ _ (lk_top : lk ((N1.n 0, .cells [.int .i64 k, .int .i64 p, .int .i64 c] 3) :: H1) (N1.n 0) = _)
  have main : ∀ (ts' : List Value), KTPl c0 vl va vt q ma mm_ vy vw xat xx xp xi vds di (N1.n 0) (.slice (some ⟨N1.n 1, 0, none⟩) 2 2) 2 0 ts' → ∀ F, 4000 ≤ F → Ok (exec B { f := GlT B } F (LC.loop lbTPl) ⟨ts', (N1.n 1, .cells [.int .u64 xx, .int .u64 at2] 2) :: (N1.n 0, .cells [.int .i64 k, .int .i64 p, .int .i64 c] 3) :: H1, sh (sh N1)⟩) (fun r s => r = .exit 2 ∧ good B s.H s.N ∧ Fr ((N1.n 1, .cells [.int .u64 xx, .int .u64 at2] 2) :: (N1.n 0, .cells [.int .i64 k, .int .i64 p, .int .i64 c] 3) :: H1) s.H ∧ KTd c0 vl va vt q ma mm_ vy vw xat xx xp xi vds di (N1.n 0) s.t) := fun ts' kp' F hF =>
    loopTPl (L := [xx, at2]) s3 u3 (by simp) hT g3 bd ld3 kp' (by simp only [List.length_cons, List.length_nil]; omega)
  simp -implicitDefEqProofs (maxSteps := 10000000) (disch := omega) only [TlT, LlT, GlT_law16Conf, Vlaw16Conf_eq, GlT_lM, GlT_lH, GlT_lW, GlT_lA, GlT_law16pick, Vlaw16pick_eq, GlT_ref03Same, GlT_ref05Writes, GlT_ref10Words, GlT_rL, GlT_rP, GlT_ref16Place, Vref16Place_eq, GlT_ref16Spot, Vref16Spot_eq, GlT_rU, GlT_rW, GlT_gL, GlT_gP, GlT_wlogPlace, VwlogPlace_eq, GlT_wlogSpot, VwlogSpot_eq, GlT_gU, GlT_gW, hB, hR, hI, lbTd, kp.l, kp.t23, kp.t24, kp.t25, kp.t26, kp.t28, kp.t29, kp.t30, kp.t21, kp.t3, kp.t4, kp.t5, kp.t6, kp.t7, kp.t8, kp.t123, kp.t124, kp.t125, hvds, hin2, hin', i0, r1, eP, uP, bt, bf, all1, ress, res1, retV, Value.cells, reduceIte, reduceCtorEq, Int.reduceLT, Int.reduceLE, Int.reduceToNat, Int.reduceAdd, Int.reduceSub, Int.reduceMul, Int.reduceNeg, Nat.reduceMul, Nat.reduceAdd, Nat.reduceSub, Nat.reduceBEq, Nat.reduceEqDiff, Nat.reduceLT, Nat.reduceLeDiff, Int.reduceBEq, Int.reduceEq, Nat.reducePow, Int.reducePow, Int.reduceGT, Int.reduceGE, Int.reduceBNe, newsV_s, ev1, ev2, ev3, ev4]
  generalize hX : exec B _ _ (LC.loop _) _ = o
  obtain ⟨_, ⟨ts2, H4, N4⟩, rfl, rfl, g4, f4, kp2⟩ := (show Ok o _ by rw [← hX]; exact main _ (by constructor <;> simp (maxSteps := 10000000) (disch := omega) only [ kp.l, kp.t23, kp.t24, kp.t25, kp.t26, kp.t28, kp.t29, kp.t30, kp.t21, kp.t3, kp.t4, kp.t5, kp.t6, kp.t7, kp.t8, kp.t123, kp.t124, kp.t125, lenV_sl, Int.toNat_natCast, bft, btf, gtst, st_len, Nat.reduceAdd, Int.cast_ofNat_Int, Nat.reduceBEq, Nat.reduceLT, decide_true, ev2]) _ (by omega))
  simp only at g4 f4 kp2
  clear kp main
  have kp := kp2
  have fT := (f2.trans f3).trans f4
  replace T := T.mono fT
  have ld4 := f4 _ _ ld3
  clear kp2
  obtain ⟨ay, cy, hvy, hcy, _⟩ := id T.sy
  obtain ⟨aw, cw, hvw, hcw, _⟩ := id T.sw
  obtain ⟨al, cl, hvl, _⟩ := id T.sl
  obtain ⟨ao, co, hva, _⟩ := id T.sa
  obtain ⟨at_, ct, hvt, _⟩ := id T.st_
  obtain ⟨ny, hny, hny1⟩ : ∃ n : Nat, (if (30 : Int) < (ys.length : Int) then (30 : Int) else (ys.length : Int)) = (n : Int) ∧ n ≤ ys.length := by
    by_cases h' : (30 : Int) < (ys.length : Int)
    · exact ⟨30, by rw [if_pos h']; rfl, by omega⟩
    · exact ⟨ys.length, by rw [if_neg h'], by omega⟩
  have ny0 : (0 : Int) ≤ (ny : Int) := by omega
  have nyc : (ny : Int) ≤ (cy : Int) := by omega
  obtain ⟨nw, hnw, hnw1, hnw2⟩ : ∃ n : Nat, (if (100 : Int) < (ws.length : Int) then (100 : Int) else (ws.length : Int)) = (n : Int) ∧ n ≤ ws.length ∧ n ≤ 100 := by
    by_cases h' : (100 : Int) < (ws.length : Int)
    · exact ⟨100, by rw [if_pos h']; rfl, by omega, by omega⟩
    · exact ⟨ws.length, by rw [if_neg h'], by omega, by omega⟩
  have nw0 : (0 : Int) ≤ (nw : Int) := by omega
  have nwc : (nw : Int) ≤ (cw : Int) := by omega
  have g4b : good B ((N4.n 0, .cells [.slice al l.length cl, .slice ay ny cy] 2) :: H4) (sh N4) := good_new g4
  have f4b : Fr H4 ((N4.n 0, .cells [.slice al l.length cl, .slice ay ny cy] 2) :: H4) := fr_new g4 Fr.refl 0
  have T4 := T.mono f4b
  have s4b : SlR fv 1 B ((N4.n 0, .cells [.slice al l.length cl, .slice ay ny cy] 2) :: H4) (.slice (some ⟨N4.n 0, 0, none⟩) 2 2) [.slice al l.length cl, .slice ay ny cy] := (slN_new (B := B) (N := N4) (f := fv) (sz := 1) g4 [.slice al l.length cl, .slice ay ny cy] (cs := [.slice al l.length cl, .slice ay ny cy]) (n := 2) (m := 2) rfl rfl rfl).rd fv_len
  have main : ∀ (ts' : List Value), KTPk c0 vl va vt q ma mm_ vy vw xat xx xp xi vds di (N1.n 0) (.slice (some ⟨N4.n 0, 0, none⟩) 2 2) 2 0 ts' → ∀ F, 4000 ≤ F → Ok (exec B { f := GlT B } F (LC.loop lbTPk) ⟨ts', ((N4.n 0, .cells [.slice al l.length cl, .slice ay ny cy] 2) :: H4), sh N4⟩) (fun r s => r = .exit 4 ∧ good B s.H s.N ∧ Fr ((N4.n 0, .cells [.slice al l.length cl, .slice ay ny cy] 2) :: H4) s.H ∧ KTd c0 vl va vt q ma mm_ vy vw xat xx xp xi vds di (N1.n 0) s.t) := fun ts' kp' F hF =>
    loopTPk (L := [.slice al l.length cl, .slice ay ny cy]) s4b (fun v hv => by
      rcases List.mem_cons.1 hv with rfl | hv
      · exact ⟨l, hvl ▸ T4.sl, T4.hl⟩
      · rw [List.mem_singleton.1 hv]
        have := T4.sy
        rw [hvy] at this
        exact ⟨ys.take ny, (this.rd w2_len).take hny1, fun x hx => T4.hy x (List.mem_of_mem_take hx)⟩) (by simp) hT g4b bd (f4b _ _ ld4) kp' (by simp only [List.length_cons, List.length_nil]; omega)
  simp -implicitDefEqProofs (maxSteps := 10000000) (disch := omega) only [TlT, LlT, GlT_law16Conf, Vlaw16Conf_eq, GlT_lM, GlT_lH, GlT_lW, GlT_lA, GlT_law16pick, Vlaw16pick_eq, GlT_ref03Same, GlT_ref05Writes, GlT_ref10Words, GlT_rL, GlT_rP, GlT_ref16Place, Vref16Place_eq, GlT_ref16Spot, Vref16Spot_eq, GlT_rU, GlT_rW, GlT_gL, GlT_gP, GlT_wlogPlace, VwlogPlace_eq, GlT_wlogSpot, VwlogSpot_eq, GlT_gU, GlT_gW, hB, hR, hI, lbTd, kp.l, kp.t23, kp.t24, kp.t25, kp.t26, kp.t28, kp.t29, kp.t30, kp.t21, kp.t3, kp.t4, kp.t5, kp.t6, kp.t7, kp.t8, kp.t123, kp.t124, kp.t125, kp.t32, hvl, hvy, hny, ny0, nyc, Nat.sub_zero, slA_ite3, bt, bf, all1, ress, res1, retV, Value.cells, reduceIte, reduceCtorEq, Int.reduceLT, Int.reduceLE, Int.reduceToNat, Int.reduceAdd, Int.reduceSub, Int.reduceMul, Int.reduceNeg, Nat.reduceMul, Nat.reduceAdd, Nat.reduceSub, Nat.reduceBEq, Nat.reduceEqDiff, Nat.reduceLT, Nat.reduceLeDiff, Int.reduceBEq, Int.reduceEq, Nat.reducePow, Int.reducePow, Int.reduceGT, Int.reduceGE, Int.reduceBNe, newsV_s, ev1, ev2, ev3, ev4]
  generalize hX : exec B _ _ (LC.loop _) _ = o
  obtain ⟨_, ⟨ts5, H5, N5⟩, rfl, rfl, g5, f5, kp2⟩ := (show Ok o _ by rw [← hX]; exact main _ (by constructor <;> simp (maxSteps := 10000000) (disch := omega) only [ kp.l, kp.t23, kp.t24, kp.t25, kp.t26, kp.t28, kp.t29, kp.t30, kp.t21, kp.t3, kp.t4, kp.t5, kp.t6, kp.t7, kp.t8, kp.t123, kp.t124, kp.t125, kp.t32, lenV_sl, Int.toNat_natCast, bft, btf, gtst, st_len, Nat.reduceAdd, Int.cast_ofNat_Int, Nat.reduceBEq, Nat.reduceLT, decide_true, ev2]) _ (by omega))
  simp only at g5 f5 kp2
  clear kp main
  have kp := kp2
  clear kp2
  have ld5 := f5 _ _ (f4b _ _ ld4)
  replace T := T.mono (f4b.trans f5)
  have fT := fT.trans (f4b.trans f5)
  have g5b : good B ((N5.n 0, .cells [.slice ao own.length co, .slice at_ trn.length ct, .slice aw nw cw] 3) :: H5) (sh N5) := good_new g5
  have f5b : Fr H5 ((N5.n 0, .cells [.slice ao own.length co, .slice at_ trn.length ct, .slice aw nw cw] 3) :: H5) := fr_new g5 Fr.refl 0
  have T5 := T.mono f5b
  have s5b : SlR fv 1 B ((N5.n 0, .cells [.slice ao own.length co, .slice at_ trn.length ct, .slice aw nw cw] 3) :: H5) (.slice (some ⟨N5.n 0, 0, none⟩) 3 3) [.slice ao own.length co, .slice at_ trn.length ct, .slice aw nw cw] := (slN_new (B := B) (N := N5) (f := fv) (sz := 1) g5 [.slice ao own.length co, .slice at_ trn.length ct, .slice aw nw cw] (cs := [.slice ao own.length co, .slice at_ trn.length ct, .slice aw nw cw]) (n := 3) (m := 3) rfl rfl rfl).rd fv_len
  have main : ∀ (ts' : List Value), KTUn c0 vl va vt q ma mm_ vy vw xat xx xp xi vds di (N1.n 0) (.slice (some ⟨N5.n 0, 0, none⟩) 3 3) 3 0 ts' → ∀ F, 4000 ≤ F → Ok (exec B { f := GlT B } F (LC.loop lbTUn) ⟨ts', ((N5.n 0, .cells [.slice ao own.length co, .slice at_ trn.length ct, .slice aw nw cw] 3) :: H5), sh N5⟩) (fun r s => r = .exit 6 ∧ good B s.H s.N ∧ Fr ((N5.n 0, .cells [.slice ao own.length co, .slice at_ trn.length ct, .slice aw nw cw] 3) :: H5) s.H ∧ KTd c0 vl va vt q ma mm_ vy vw xat xx xp xi vds di (N1.n 0) s.t) := fun ts' kp' F hF =>
    loopTUn (L := [.slice ao own.length co, .slice at_ trn.length ct, .slice aw nw cw]) s5b (fun v hv => by
      rcases List.mem_cons.1 hv with rfl | hv
      · exact ⟨own, hva ▸ T5.sa, T5.ha, T5.la⟩
      · rcases List.mem_cons.1 hv with rfl | hv
        · exact ⟨trn, hvt ▸ T5.st_, T5.ht, T5.lt⟩
        · rw [List.mem_singleton.1 hv]
          have := T5.sw
          rw [hvw] at this
          exact ⟨ws.take nw, (this.rd w1_len).take hnw1, (fun x hx => T5.hw x (List.mem_of_mem_take hx)), by rw [List.length_take]; omega⟩) (by simp) hT g5b bd (f5b _ _ ld5) kp' (by simp only [List.length_cons, List.length_nil]; omega)
  simp -implicitDefEqProofs (maxSteps := 10000000) (disch := omega) only [TlT, LlT, GlT_law16Conf, Vlaw16Conf_eq, GlT_lM, GlT_lH, GlT_lW, GlT_lA, GlT_law16pick, Vlaw16pick_eq, GlT_ref03Same, GlT_ref05Writes, GlT_ref10Words, GlT_rL, GlT_rP, GlT_ref16Place, Vref16Place_eq, GlT_ref16Spot, Vref16Spot_eq, GlT_rU, GlT_rW, GlT_gL, GlT_gP, GlT_wlogPlace, VwlogPlace_eq, GlT_wlogSpot, VwlogSpot_eq, GlT_gU, GlT_gW, hB, hR, hI, lbTd, kp.l, kp.t23, kp.t24, kp.t25, kp.t26, kp.t28, kp.t29, kp.t30, kp.t21, kp.t3, kp.t4, kp.t5, kp.t6, kp.t7, kp.t8, kp.t123, kp.t124, kp.t125, kp.t32, hva, hvt, hvw, hnw, nw0, nwc, Nat.sub_zero, slA_ite3, bt, bf, all1, ress, res1, retV, Value.cells, reduceIte, reduceCtorEq, Int.reduceLT, Int.reduceLE, Int.reduceToNat, Int.reduceAdd, Int.reduceSub, Int.reduceMul, Int.reduceNeg, Nat.reduceMul, Nat.reduceAdd, Nat.reduceSub, Nat.reduceBEq, Nat.reduceEqDiff, Nat.reduceLT, Nat.reduceLeDiff, Int.reduceBEq, Int.reduceEq, Nat.reducePow, Int.reducePow, Int.reduceGT, Int.reduceGE, Int.reduceBNe, newsV_s, ev1, ev2, ev3, ev4]
  generalize hX : exec B _ _ (LC.loop _) _ = o
  obtain ⟨_, ⟨ts6, H6, N6⟩, rfl, rfl, g6, f6, kp2⟩ := (show Ok o _ by rw [← hX]; exact main _ (by constructor <;> simp (maxSteps := 10000000) (disch := omega) only [ kp.l, kp.t23, kp.t24, kp.t25, kp.t26, kp.t28, kp.t29, kp.t30, kp.t21, kp.t3, kp.t4, kp.t5, kp.t6, kp.t7, kp.t8, kp.t123, kp.t124, kp.t125, kp.t32, lenV_sl, Int.toNat_natCast, bft, btf, gtst, st_len, Nat.reduceAdd, Int.cast_ofNat_Int, Nat.reduceBEq, Nat.reduceLT, decide_true, ev2]) _ (by omega))
  simp only at g6 f6 kp2
  clear kp main
  have kp := kp2
  clear kp2
  have ld6 := f6 _ _ (f5b _ _ ld5)
  replace T := T.mono (f5b.trans f6)
  have fT := fT.trans (f5b.trans f6)
  have eI := fpick hG xi 20 hx4 (by omega)
  generalize pk xi 20 = i20 at eI
  have g6b : good B ((N6.n 0, .cells [.int .i64 xp, .int .i64 xi, .int .i64 (q : Int), .int .i64 xi, .int .i64 (q : Int), .int .i64 i20] 6) :: H6) (sh N6) := good_new g6
  have f6b : Fr H6 ((N6.n 0, .cells [.int .i64 xp, .int .i64 xi, .int .i64 (q : Int), .int .i64 xi, .int .i64 (q : Int), .int .i64 i20] 6) :: H6) := fr_new g6 Fr.refl 0
  have T6 := T.mono f6b
  have s6b : SlR q2 2 B ((N6.n 0, .cells [.int .i64 xp, .int .i64 xi, .int .i64 (q : Int), .int .i64 xi, .int .i64 (q : Int), .int .i64 i20] 6) :: H6) (.slice (some ⟨N6.n 0, 0, none⟩) 3 3) [⟨xp, xi⟩, ⟨(q : Int), xi⟩, ⟨(q : Int), i20⟩] := (slN_new (B := B) (N := N6) (f := q2) (sz := 2) g6 [⟨xp, xi⟩, ⟨(q : Int), xi⟩, ⟨(q : Int), i20⟩] (cs := [.int .i64 xp, .int .i64 xi, .int .i64 (q : Int), .int .i64 xi, .int .i64 (q : Int), .int .i64 i20]) (n := 3) (m := 6) rfl rfl rfl).rd q2_len
  have main : ∀ (ts' : List Value), KTSp c0 vl va vt q ma mm_ vy vw xat xx xp xi vds di (N1.n 0) (.slice (some ⟨N6.n 0, 0, none⟩) 3 3) 3 0 ts' → ∀ F, 4000 ≤ F → Ok (exec B { f := GlT B } F (LC.loop lbTSp) ⟨ts', ((N6.n 0, .cells [.int .i64 xp, .int .i64 xi, .int .i64 (q : Int), .int .i64 xi, .int .i64 (q : Int), .int .i64 i20] 6) :: H6), sh N6⟩) (fun r s => r = .exit 8 ∧ good B s.H s.N ∧ Fr ((N6.n 0, .cells [.int .i64 xp, .int .i64 xi, .int .i64 (q : Int), .int .i64 xi, .int .i64 (q : Int), .int .i64 i20] 6) :: H6) s.H ∧ KTd c0 vl va vt q ma mm_ vy vw xat xx xp xi vds di (N1.n 0) s.t) := fun ts' kp' F hF =>
    loopTSp (L := [⟨xp, xi⟩, ⟨(q : Int), xi⟩, ⟨(q : Int), i20⟩]) s6b  (by simp) hT g6b bd (f6b _ _ ld6) kp' (by simp only [List.length_cons, List.length_nil]; omega)
  simp -implicitDefEqProofs (maxSteps := 10000000) (disch := omega) only [TlT, LlT, GlT_law16Conf, Vlaw16Conf_eq, GlT_lM, GlT_lH, GlT_lW, GlT_lA, GlT_law16pick, Vlaw16pick_eq, GlT_ref03Same, GlT_ref05Writes, GlT_ref10Words, GlT_rL, GlT_rP, GlT_ref16Place, Vref16Place_eq, GlT_ref16Spot, Vref16Spot_eq, GlT_rU, GlT_rW, GlT_gL, GlT_gP, GlT_wlogPlace, VwlogPlace_eq, GlT_wlogSpot, VwlogSpot_eq, GlT_gU, GlT_gW, hB, hR, hI, lbTd, kp.l, kp.t23, kp.t24, kp.t25, kp.t26, kp.t28, kp.t29, kp.t30, kp.t21, kp.t3, kp.t4, kp.t5, kp.t6, kp.t7, kp.t8, kp.t123, kp.t124, kp.t125, kp.t32, eI, Nat.sub_zero, slA_ite3, bt, bf, all1, ress, res1, retV, Value.cells, reduceIte, reduceCtorEq, Int.reduceLT, Int.reduceLE, Int.reduceToNat, Int.reduceAdd, Int.reduceSub, Int.reduceMul, Int.reduceNeg, Nat.reduceMul, Nat.reduceAdd, Nat.reduceSub, Nat.reduceBEq, Nat.reduceEqDiff, Nat.reduceLT, Nat.reduceLeDiff, Int.reduceBEq, Int.reduceEq, Nat.reducePow, Int.reducePow, Int.reduceGT, Int.reduceGE, Int.reduceBNe, newsV_s, ev1, ev2, ev3, ev4]
  generalize hX : exec B _ _ (LC.loop _) _ = o
  obtain ⟨_, ⟨ts7, H7, N7⟩, rfl, rfl, g7, f7, kp2⟩ := (show Ok o _ by rw [← hX]; exact main _ (by constructor <;> simp (maxSteps := 10000000) (disch := omega) only [ kp.l, kp.t23, kp.t24, kp.t25, kp.t26, kp.t28, kp.t29, kp.t30, kp.t21, kp.t3, kp.t4, kp.t5, kp.t6, kp.t7, kp.t8, kp.t123, kp.t124, kp.t125, kp.t32, lenV_sl, Int.toNat_natCast, bft, btf, gtst, st_len, Nat.reduceAdd, Int.cast_ofNat_Int, Nat.reduceBEq, Nat.reduceLT, decide_true, ev2]) _ (by omega))
  simp only at g7 f7 kp2
  clear kp main
  have kp := kp2
  clear kp2
  have ld7 := f7 _ _ (f6b _ _ ld6)
  replace T := T.mono (f6b.trans f7)
  have fT := fT.trans (f6b.trans f7)
  have h5 := bs5_b T.C
  obtain ⟨am, cm, hvm, hcm, _⟩ := id T.sm
  obtain ⟨nm, hnm, hnm1, hnm2⟩ : ∃ n : Nat, (if (200 : Int) < (Mx.length : Int) then (200 : Int) else (Mx.length : Int)) = (n : Int) ∧ n ≤ Mx.length ∧ n ≤ 200 := by
    by_cases h' : (200 : Int) < (Mx.length : Int)
    · exact ⟨200, by rw [if_pos h']; rfl, by omega, by omega⟩
    · exact ⟨Mx.length, by rw [if_neg h'], by omega, by omega⟩
  have nm0 : (0 : Int) ≤ (nm : Int) := by omega
  have nmc : (nm : Int) ≤ (cm : Int) := by omega
  have T7 := T
  obtain ⟨v8, H8, N8, e8, g8, f8, s8⟩ := fWith T7.C g7 T7.sA T7.sa T7.hA T7.q
  have T8 := T7.mono f8
  have s8 := s8.wh c2_len
  obtain ⟨v9, H9, N9, e9, g9, f9, s9⟩ := fWith T8.C g8 T8.sA T8.st_ T8.hA T8.q
  have T9 := T8.mono f9
  have s9 := s9.wh c2_len
  have s8 := s8.mono f9
  have rc := fun o n => rdB_none (o := o) (n := n) T7.bc
  have ra := fun o n => rdB_none (o := o) (n := n) T7.bA
  have rm := fun o n => rdB_none (o := o) (n := n) T7.bm
  have c7 := T7.lc
  have c8 := T8.lc
  have c9 := T9.lc
  have a7 := T7.lA
  have a8 := T8.lA
  have a9 := T9.lA
  have m7 := T7.lm
  have m8 := T8.lm
  have m9 := T9.lm
  rw [hvm] at m7 m8 m9
  have bc_ := T7.bc
  have ba_ := T7.bA
  have bm_ := T7.bm
  have g9b : good B ((N9.n 0, .cells [vA, v8, v9, .slice am nm cm] 4) :: H9) (sh N9) := good_new g9
  have f9b : Fr H9 ((N9.n 0, .cells [vA, v8, v9, .slice am nm cm] 4) :: H9) := fr_new g9 Fr.refl 0
  have T10 := T9.mono f9b
  have ld9 := f9 _ _ (f8 _ _ ld7)
  have s9b : SlR fv 1 B ((N9.n 0, .cells [vA, v8, v9, .slice am nm cm] 4) :: H9) (.slice (some ⟨N9.n 0, 0, none⟩) 4 4) [vA, v8, v9, .slice am nm cm] := (slN_new (B := B) (N := N9) (f := fv) (sz := 1) g9 [vA, v8, v9, .slice am nm cm] (cs := [vA, v8, v9, .slice am nm cm]) (n := 4) (m := 4) rfl rfl rfl).rd fv_len
  have hL4 : ∀ v ∈ [vA, v8, v9, .slice am nm cm], ∃ M : List C2, SlW c2 2 B ((N9.n 0, .cells [vA, v8, v9, .slice am nm cm] 4) :: H9) v M ∧ M.length ≤ 800000 ∧ C2s M := fun v hv => by
    rcases List.mem_cons.1 hv with rfl | hv
    · exact ⟨A, T10.sA, by rw [T10.hA]; omega, T10.hAs⟩
    · rcases List.mem_cons.1 hv with rfl | hv
      · exact ⟨_, s8.mono f9b, by rw [withW_len, T10.hA]; omega, withW_s T10.hAs _ T10.ha _⟩
      · rcases List.mem_cons.1 hv with rfl | hv
        · exact ⟨_, s9.mono f9b, by rw [withW_len, T10.hA]; omega, withW_s T10.hAs _ T10.ht _⟩
        · rw [List.mem_singleton.1 hv]
          have := T10.sm
          rw [hvm] at this
          obtain ⟨a', sp, hp⟩ := this.part c2_len (i := 0) (k := nm) (by omega)
          rw [Nat.zero_mul, slA_ite3] at sp
          obtain rfl := Option.some.inj sp
          have hp := hp cm (by omega)
          rw [List.drop_zero] at hp
          exact ⟨Mx.take nm, hp, by rw [List.length_take]; omega, fun x hx => T10.hm x (List.mem_of_mem_take hx)⟩
  have main : ∀ (ts' : List Value), KTm c0 vl va vt q ma mm_ vy vw xat xx xp xi vds di (N1.n 0) (.slice (some ⟨N9.n 0, 0, none⟩) 4 4) 0 ts' → ∀ F, 7000 ≤ F → Ok (exec B { f := GlT B } F (LC.loop lbTm) ⟨ts', ((N9.n 0, .cells [vA, v8, v9, .slice am nm cm] 4) :: H9), sh N9⟩) (fun r s => r = .exit 10 ∧ good B s.H s.N ∧ Fr ((N9.n 0, .cells [vA, v8, v9, .slice am nm cm] 4) :: H9) s.H ∧ KTd c0 vl va vt q ma mm_ vy vw xat xx xp xi vds di (N1.n 0) s.t) := fun ts' kp' F hF =>
    loopTm (L := [vA, v8, v9, .slice am nm cm]) s9b rfl hL4 hT g9b bd (f9b _ _ ld9) kp' (by simp only [List.length_cons, List.length_nil]; omega)
  simp -implicitDefEqProofs (maxSteps := 10000000) (disch := omega) only [TlT, LlT, GlT_law16Conf, Vlaw16Conf_eq, GlT_lM, GlT_lH, GlT_lW, GlT_lA, GlT_law16pick, Vlaw16pick_eq, GlT_ref03Same, GlT_ref05Writes, GlT_ref10Words, GlT_rL, GlT_rP, GlT_ref16Place, Vref16Place_eq, GlT_ref16Spot, Vref16Spot_eq, GlT_rU, GlT_rW, GlT_gL, GlT_gP, GlT_wlogPlace, VwlogPlace_eq, GlT_wlogSpot, VwlogSpot_eq, GlT_gU, GlT_gW, hB, hR, hI, lbTd, kp.l, kp.t23, kp.t24, kp.t25, kp.t26, kp.t28, kp.t29, kp.t30, kp.t21, kp.t3, kp.t4, kp.t5, kp.t6, kp.t7, kp.t8, kp.t123, kp.t124, kp.t125, kp.t32, e8, e9, hvm, c7, c8, c9, a7, a8, a9, m7, m8, m9, bc_, ba_, bm_, rc, ra, rm, hnm, nm0, nmc, Nat.sub_zero, slA_ite3, bt, bf, all1, ress, res1, retV, Value.cells, reduceIte, reduceCtorEq, Int.reduceLT, Int.reduceLE, Int.reduceToNat, Int.reduceAdd, Int.reduceSub, Int.reduceMul, Int.reduceNeg, Nat.reduceMul, Nat.reduceAdd, Nat.reduceSub, Nat.reduceBEq, Nat.reduceEqDiff, Nat.reduceLT, Nat.reduceLeDiff, Int.reduceBEq, Int.reduceEq, Nat.reducePow, Int.reducePow, Int.reduceGT, Int.reduceGE, Int.reduceBNe, newsV_s, ev1, ev2, ev3, ev4]
  generalize hX : exec B _ _ (LC.loop _) _ = o
  obtain ⟨_, ⟨ts10, H10, N10⟩, rfl, rfl, g10, f10, kp2⟩ := (show Ok o _ by rw [← hX]; exact main _ (by constructor <;> simp (maxSteps := 10000000) (disch := omega) only [ kp.l, kp.t23, kp.t24, kp.t25, kp.t26, kp.t28, kp.t29, kp.t30, kp.t21, kp.t3, kp.t4, kp.t5, kp.t6, kp.t7, kp.t8, kp.t123, kp.t124, kp.t125, kp.t32, lenV_sl, Int.toNat_natCast, bft, btf, gtst, st_len, Nat.reduceAdd, Int.cast_ofNat_Int, Nat.reduceBEq, Nat.reduceLT, decide_true, ev2]) _ (by omega))
  simp only at g10 f10 kp2
  clear kp main
  have kp := kp2
  simp -implicitDefEqProofs (maxSteps := 10000000) (disch := omega) only [TlT, LlT, GlT_law16Conf, Vlaw16Conf_eq, GlT_lM, GlT_lH, GlT_lW, GlT_lA, GlT_law16pick, Vlaw16pick_eq, GlT_ref03Same, GlT_ref05Writes, GlT_ref10Words, GlT_rL, GlT_rP, GlT_ref16Place, Vref16Place_eq, GlT_ref16Spot, Vref16Spot_eq, GlT_rU, GlT_rW, GlT_gL, GlT_gP, GlT_wlogPlace, VwlogPlace_eq, GlT_wlogSpot, VwlogSpot_eq, GlT_gU, GlT_gW, hB, hR, hI, lbTd, kp.l, kp.t23, kp.t24, kp.t25, kp.t26, kp.t28, kp.t29, kp.t30, kp.t21, kp.t3, kp.t4, kp.t5, kp.t6, kp.t7, kp.t8, kp.t123, kp.t124, kp.t125, kp.t32, bt, bf, all1, ress, res1, retV, Value.cells, reduceIte, reduceCtorEq, Int.reduceLT, Int.reduceLE, Int.reduceToNat, Int.reduceAdd, Int.reduceSub, Int.reduceMul, Int.reduceNeg, Nat.reduceMul, Nat.reduceAdd, Nat.reduceSub, Nat.reduceBEq, Nat.reduceEqDiff, Nat.reduceLT, Nat.reduceLeDiff, Int.reduceBEq, Int.reduceEq, Nat.reducePow, Int.reducePow, Int.reduceGT, Int.reduceGE, Int.reduceBNe, newsV_s, ev1, ev2, ev3, ev4]
  refine ok_some (.inl ⟨rfl, L.length - (di + 1), by omega, _, H10, N10, di + 1, rfl, ⟨?_, ?_, ?_, ?_, ?_, ?_, ?_, ?_, ?_, ?_, ?_, ?_, ?_, ?_, ?_, ?_, ?_, ?_⟩, g10, fk.trans (fT.trans (f8.trans (f9.trans (f9b.trans f10)))), by omega, rfl⟩)
  all_goals simp (maxSteps := 10000000) (disch := omega) only [kp.l, kp.t23, kp.t24, kp.t25, kp.t26, kp.t28, kp.t29, kp.t30, kp.t21, kp.t3, kp.t4, kp.t5, kp.t6, kp.t7, kp.t8, kp.t123, kp.t124, kp.t125, kp.t32, lenV_sl, Int.toNat_natCast, bft, btf, gtst, st_len, hc1, hvl, hva, hvt, hvy, hvw, hvds, Nat.reduceAdd, Int.cast_ofNat_Int, Nat.reduceBEq, Nat.reduceLT, decide_true, ev2]
end Go.Proofs.YtfhiplfagejfoaaDoor
