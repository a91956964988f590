/- Own text: the log of writes, part HoE: contracts of the functions that the laws of the log call. -/
import Derived.Test.YtfhiplfagejfoaaDoorHoD
set_option linter.unusedSimpArgs false
set_option linter.unusedVariables false
namespace Go.Proofs.YtfhiplfagejfoaaDoor
open Go.Proofs.YtfhiplfagejfoaaDoor.K Go.ChangeShapes Go.WideShapes Go.ChangeAt Go.RowKit 
set_option maxRecDepth 100000
set_option linter.unusedSimpArgs false
set_option linter.unusedVariables false
theorem all1_slw {α : Type} {f : α → List Value} {sz : Nat} {B : OH} {H : HL} {v : Value} {L : List α} (h : SlW f sz B H v L) : all1 [v] = true := by
  obtain ⟨a, c, rfl, _⟩ := id h
  rfl
theorem ext_c2 {L M : List C2} (hl : L.length = M.length) (h : ∀ i, i < L.length → L.getD i z2 = M.getD i z2) : L = M := by
  apply List.ext_getElem hl
  intro i h1 h2
  have := h i h1
  rwa [List.getD_eq_getElem?_getD, List.getD_eq_getElem?_getD, List.getElem?_eq_getElem h1, List.getElem?_eq_getElem h2] at this
theorem wiped_wiped {M : List C2} {A n : Nat} (h : A + n ≤ M.length) : wiped (wiped M A n) A n = wiped M A n := ext_c2 (by rw [wiped_len]) fun i hi => by
  rw [wiped_at _ _ _ _ (by rw [wiped_len]; exact h), wiped_at _ _ _ _ h]
  split <;> rfl
theorem wdsL_at (M : List C2) (A : Nat) : ∀ n i, i < n → (wdsL M A n).getD i 0 = (M.getD (A + i) z2).w
  | 0, i, h => by omega
  | n + 1, i, h => by
    simp only [wdsL]
    by_cases e : i = n
    · subst e
      rw [List.getD_eq_getElem?_getD, List.getElem?_append_right (by rw [wdsL_len]; omega), wdsL_len, Nat.sub_self]; rfl
    · rw [List.getD_eq_getElem?_getD, List.getElem?_append_left (by rw [wdsL_len]; omega), ← List.getD_eq_getElem?_getD, wdsL_at M A n i (by omega)]
theorem ext_i {L M : List Int} (hl : L.length = M.length) (h : ∀ i, i < L.length → L.getD i 0 = M.getD i 0) : L = M := by
  apply List.ext_getElem hl
  intro i h1 h2
  have := h i h1
  rwa [List.getD_eq_getElem?_getD, List.getD_eq_getElem?_getD, List.getElem?_eq_getElem h1, List.getElem?_eq_getElem h2] at this
theorem wipe_2 {p h : Nat} {q : Int} {M : List C2} (hok : memOk p h q M) (hA : lgA p h q + LG p h ≤ M.length) : wipE p h q M = 0 ∧ wipR p h q M = wiped M (lgA p h q) (LG p h) ∧ wipE p h q (wiped M (lgA p h q) (LG p h)) = 0 ∧ wipR p h q (wiped M (lgA p h q) (LG p h)) = wiped M (lgA p h q) (LG p h) := by
  have hok2 : memOk p h q (wiped M (lgA p h q) (LG p h)) := ⟨hok.1, by rw [wiped_len]; exact hok.2⟩
  refine ⟨if_pos hok, if_pos hok, if_pos hok2, ?_⟩
  unfold wipR
  rw [if_pos hok2, wiped_wiped hA]
structure KWw (c q m x i : Nat) (ts : List Value) : Prop where
  l : ts.length = 119
  t7 : gt ts 7 = .bool true
  t8 : gt ts 8 = .pointer (some ⟨c, 0, none⟩)
  t9 : gt ts 9 = .int .i64 (q : Int)
  t10 : gt ts 10 = .pointer (some ⟨m, 0, none⟩)
  t11 : gt ts 11 = .pointer (some ⟨x, 0, none⟩)
  t17 : gt ts 17 = .int .i64 (i : Int)
end Go.Proofs.YtfhiplfagejfoaaDoor
namespace Go.Proofs.YtfhiplfagejfoaaDoor
open Go.Proofs.YtfhiplfagejfoaaDoor.K Go.ChangeShapes Go.WideShapes Go.ChangeAt Go.RowKit 
set_option maxRecDepth 100000
set_option linter.unusedSimpArgs false
set_option linter.unusedVariables false
theorem pkL_at : ∀ (l : List W2) (i : Nat), i < l.length → (pkL l).getD (2 * i) 0 = (l.getD i y2).a ∧ (pkL l).getD (2 * i + 1) 0 = (l.getD i y2).w
  | [], i, h => by simp at h
  | x :: l, 0, _ => ⟨rfl, rfl⟩
  | x :: l, i + 1, h => by
    have := pkL_at l i (by simpa using h)
    rw [show 2 * (i + 1) = 2 * i + 1 + 1 by omega, show 2 * i + 1 + 1 + 1 = (2 * i + 1) + 1 + 1 by omega]
    exact this
theorem packW_at {p h : Nat} {l : List W2} {i : Nat} (hi : i < l.length) : (packW p h l).getD (1 + 2 * i) 0 = (l.getD i y2).a ∧ (packW p h l).getD (2 + 2 * i) 0 = (l.getD i y2).w := by
  have hp := pkL_at l i hi
  have hl := pkL_len l
  unfold packW oW
  rw [List.take_length, show 1 + 2 * i = 2 * i + 1 by omega, show 2 + 2 * i = (2 * i + 1) + 1 by omega]
  refine ⟨?_, ?_⟩
  · rw [List.getD_eq_getElem?_getD, List.getElem?_cons_succ, List.getElem?_append_left (by omega), ← List.getD_eq_getElem?_getD]; exact hp.1
  · rw [List.getD_eq_getElem?_getD, List.getElem?_cons_succ, List.getElem?_append_left (by omega), ← List.getD_eq_getElem?_getD]; exact hp.2
theorem ext_w2 {L M : List W2} (hl : L.length = M.length) (h : ∀ i, i < L.length → L.getD i y2 = M.getD i y2) : L = M := by
  apply List.ext_getElem hl
  intro i h1 h2
  have := h i h1
  rwa [List.getD_eq_getElem?_getD, List.getD_eq_getElem?_getD, List.getElem?_eq_getElem h1, List.getElem?_eq_getElem h2] at this
theorem unL_pack {p h : Nat} {l : List W2} : unL (packW p h l) l.length = l := ext_w2 (unL_len _ _) fun i hi => by
  rw [unL_len] at hi
  rw [unL_at _ _ _ hi, (packW_at hi).1, (packW_at hi).2]
theorem unN_pack {p h : Nat} {l : List W2} : unN (packW p h l) = l.length := rfl
theorem packW_l {p h : Nat} {l : List W2} (H : l.length ≤ h + 2 * p) : (packW p h l).length = LG p h := oW_len (Nat.le_refl _) (by unfold LG; omega)
theorem un_pack {p h : Nat} {l : List W2} (H : l.length ≤ h + 2 * p) (ho : okL p h l l.length) : unOk p h (packW p h l) ∧ unR p h (packW p h l) = l := by
  have : unOk p h (packW p h l) := by
    refine ⟨packW_l H, ?_, ?_, ?_, ?_⟩
    · show (l.length : Int) ≤ _
      omega
    · rw [unN_pack]; intro i hi; rw [(packW_at hi).1]; exact (ho i hi).1
    · rw [unN_pack, unL_pack]; exact packE_ok (by omega) ho
    · rw [unN_pack, unL_pack]
  exact ⟨this, by rw [(un_ok this).1, unN_pack, unL_pack]⟩
theorem pkL_mem {l : List W2} {x : Int} (h : x ∈ pkL l) : ∃ y ∈ l, x = y.a ∨ x = y.w := by
  unfold pkL at h
  obtain ⟨y, hy, hx⟩ := List.mem_flatMap.1 h
  exact ⟨y, hy, by simpa using hx⟩
theorem packW_u {kk p cc h : Nat} (C : Cf kk p cc h) {l : List W2} (hw : W2s l) (ho : okL p h l l.length) (hl : l.length ≤ 1000000) : U64s (packW p h l) := fun x hx => by
  unfold packW oW at hx
  rw [List.take_length] at hx
  rcases List.mem_cons.1 hx with rfl | hx
  · unfold u64R; omega
  · rcases List.mem_append.1 hx with hx | hx
    · obtain ⟨y, hy, e⟩ := pkL_mem hx
      rcases e with rfl | rfl
      · obtain ⟨i, hi, rfl⟩ := List.getElem_of_mem hy
        have := (ho i hi).1
        rw [List.getD_eq_getElem?_getD, List.getElem?_eq_getElem hi, Option.getD_some] at this
        have := okP_b C this
        unfold u64R; omega
      · exact (hw y hy).2
    · rw [(List.mem_replicate.1 hx).2]; unfold u64R; omega
structure KBk (xp : Int) (c : Nat) (vl vw : Value) (A i : Nat) (ts : List Value) : Prop where
  l : ts.length = 190
  t2 : gt ts 2 = .int .i64 xp
  t7 : gt ts 7 = .bool true
  t8 : gt ts 8 = .pointer (some ⟨c, 0, none⟩)
  t9 : gt ts 9 = vl
  t10 : gt ts 10 = vw
  t14 : gt ts 14 = .int .i64 (A : Int)
  t15 : gt ts 15 = .int .i64 0
  t16 : gt ts 16 = .int .i64 (i : Int)
end Go.Proofs.YtfhiplfagejfoaaDoor
namespace Go.Proofs.YtfhiplfagejfoaaDoor
open Go.Proofs.YtfhiplfagejfoaaDoor.K Go.ChangeShapes Go.WideShapes Go.ChangeAt Go.RowKit 
set_option maxRecDepth 100000
set_option linter.unusedSimpArgs false
set_option linter.unusedVariables false
theorem okL_iff {p h : Nat} {l : List W2} : okL p h l l.length ↔ (∀ y ∈ l, okP p h y.a) ∧ l.Pairwise (fun x y => x.a ≠ y.a) := by
  have hg : ∀ i (hi : i < l.length), l.getD i y2 = l[i] := fun i hi => by
    rw [List.getD_eq_getElem?_getD, List.getElem?_eq_getElem hi, Option.getD_some]
  refine ⟨fun ho => ⟨fun y hy => ?_, ?_⟩, fun ⟨h1, h2⟩ i hi => ?_⟩
  · obtain ⟨i, hi, rfl⟩ := List.getElem_of_mem hy
    have := (ho i hi).1
    rwa [hg i hi] at this
  · rw [List.pairwise_iff_getElem]
    intro i j hi hj hij
    have := (ho j hj).2 i hij
    rwa [hg i hi, hg j hj] at this
  · rw [hg i hi]
    refine ⟨h1 _ (List.getElem_mem hi), fun j hj => ?_⟩
    rw [hg j (by omega)]
    exact (List.pairwise_iff_getElem.1 h2) j i (by omega) hi hj
def inM (n : Nat) (l : List W2) : Prop := (∀ y ∈ l, 0 ≤ y.a ∧ y.a < (n : Int)) ∧ l.Pairwise (fun x y => x.a ≠ y.a)
theorem getD_mem {l : List W2} {i : Nat} (hi : i < l.length) : l.getD i y2 ∈ l := List.mem_of_getElem? (some_getD (d := y2) hi)
theorem inM_ne {n : Nat} {l : List W2} (h : inM n l) {i j : Nat} (hi : i < l.length) (hj : j < l.length) (hij : i ≠ j) : (l.getD i y2).a.toNat ≠ (l.getD j y2).a.toNat := by
  have hg : ∀ i (hi : i < l.length), l.getD i y2 = l[i] := fun i hi => by
    rw [List.getD_eq_getElem?_getD, List.getElem?_eq_getElem hi, Option.getD_some]
  have a1 := h.1 _ (getD_mem hi)
  have a2 := h.1 _ (getD_mem hj)
  have : (l.getD i y2).a ≠ (l.getD j y2).a := by
    rw [hg i hi, hg j hj]
    rcases Nat.lt_or_gt_of_ne hij with h' | h'
    · exact (List.pairwise_iff_getElem.1 h.2) i j hi hj h'
    · exact ((List.pairwise_iff_getElem.1 h.2) j i hj hi h').symm
  omega
theorem lay_hit {M : List C2} {l : List W2} (h : inM M.length l) : ∀ n j, n ≤ l.length → j < n → (lay M l n).getD (l.getD j y2).a.toNat z2 = ⟨(l.getD j y2).w, 0⟩
  | 0, j, _, hj => by omega
  | n + 1, j, hn, hj => by
    have hin := h.1 _ (getD_mem (l := l) (i := n) (by omega))
    simp only [lay]
    rw [getD_set _ _ _ _ _ (by rw [lay_len]; omega)]
    by_cases e : j = n
    · subst e; rw [if_pos rfl]
    · rw [if_neg (inM_ne h (by omega) (by omega) (Ne.symm e)), lay_hit h n j (by omega) (by omega)]
theorem lay_miss {M : List C2} {l : List W2} (h : inM M.length l) {i : Nat} : ∀ n, n ≤ l.length → (∀ j, j < n → (l.getD j y2).a.toNat ≠ i) → (lay M l n).getD i z2 = M.getD i z2
  | 0, _, _ => rfl
  | n + 1, hn, hj => by
    have hin := h.1 _ (getD_mem (l := l) (i := n) (by omega))
    simp only [lay]
    rw [getD_set _ _ _ _ _ (by rw [lay_len]; omega), if_neg (hj n (by omega)), lay_miss h n (by omega) fun j hj' => hj j (by omega)]
theorem lay_mem {M : List C2} {l : List W2} (h : inM M.length l) {y : W2} (hy : y ∈ l) : (lay M l l.length).getD y.a.toNat z2 = ⟨y.w, 0⟩ := by
  obtain ⟨i, hi, e⟩ := List.getElem_of_mem hy
  have := lay_hit h l.length i (Nat.le_refl _) hi
  rw [List.getD_eq_getElem?_getD (l := l), List.getElem?_eq_getElem hi, Option.getD_some, e] at this
  exact this
theorem lay_not {M : List C2} {l : List W2} (h : inM M.length l) {i : Nat} (hn : ∀ y ∈ l, y.a.toNat ≠ i) : (lay M l l.length).getD i z2 = M.getD i z2 :=
  lay_miss h l.length (Nat.le_refl _) fun j hj => hn _ (getD_mem hj)
theorem wdsL_with {M : List C2} {A : Nat} {w : List Int} {n : Nat} (hw : w.length = n) (hA : A + n ≤ M.length) : wdsL (withW M A w n) A n = w := ext_i (by rw [wdsL_len, hw]) fun i hi => by
  rw [wdsL_len] at hi
  rw [wdsL_at _ _ _ _ hi, withW_at _ _ _ _ _ hA, if_pos (by omega), show A + i - A = i by omega]
theorem okL_in {kk p cc h : Nat} (C : Cf kk p cc h) {l : List W2} (ho : okL p h l l.length) : inM (bs p h 5) l := by
  obtain ⟨h1, h2⟩ := okL_iff.1 ho
  exact ⟨fun y hy => by have := okP_b C (h1 y hy); omega, h2⟩
theorem lay_ok {kk p cc h q : Nat} (C : Cf kk p cc h) (hq : q < p) {M : List C2} {l : List W2} (hM : M.length = bs p h 5) (hl : l.length ≤ h + 2 * p) (ho : okL p h l l.length) (hw : wdsL M (lgA p h q) (LG p h) = packW p h l) : layE p h q M = 0 ∧ layR p h q M = lay M l l.length := by
  have hok : memOk p h q M := ⟨by omega, hM⟩
  obtain ⟨h1, h2⟩ := un_pack hl ho
  unfold layE layR
  rw [hw, if_pos hok, if_pos ⟨hok, h1⟩, h2]
  exact ⟨(un_ok h1).2, rfl⟩
end Go.Proofs.YtfhiplfagejfoaaDoor
namespace Go.Proofs.YtfhiplfagejfoaaDoor
open Go.Proofs.YtfhiplfagejfoaaDoor.K Go.ChangeShapes Go.WideShapes Go.ChangeAt Go.RowKit 
set_option maxRecDepth 100000
set_option linter.unusedSimpArgs false
set_option linter.unusedVariables false
/-! ### Words of floats -/
def exI (w : Int) : Int := w / 4503599627370496 % 2048
def frI (w : Int) : Int := w % 4503599627370496
def kdI (w : Int) : Int := if exI w = 2047 ∧ frI w ≠ 0 then 3 else if exI w = 2047 then 2 else if exI w = 0 ∧ frI w = 0 then 0 else 1
def cnI (w : Int) : Int := if kdI w = 3 then 9221120237041090561 else if kdI w = 0 then 0 else w
def rkI (w : Int) : Int := if cnI w / 9223372036854775808 = 1 then 18446744073709551615 - cnI w else cnI w + 9223372036854775808
theorem cn_u {w : Int} (h : u64R w) : u64R (cnI w) := by
  unfold cnI; unfold u64R at *
  split
  · omega
  split
  · omega
  · exact h
theorem cn_0 : cnI 0 = 0 := by decide
theorem cn_n : cnI 9221120237041090561 = 9221120237041090561 := by decide
theorem cn_id (w : Int) : cnI (cnI w) = cnI w := by
  by_cases h3 : kdI w = 3
  · rw [show cnI w = 9221120237041090561 from if_pos h3]; exact cn_n
  by_cases h0 : kdI w = 0
  · rw [show cnI w = 0 by unfold cnI; rw [if_neg h3, if_pos h0]]; exact cn_0
  have h : cnI w = w := by unfold cnI; rw [if_neg h3, if_neg h0]
  rw [h, h]
theorem rk_u {w : Int} (h : u64R w) : u64R (rkI w) := by
  have := cn_u h
  unfold rkI; unfold u64R at *
  split <;> omega
theorem rk_inj {a b : Int} (ha : u64R a) (hb : u64R b) (h : rkI a = rkI b) : cnI a = cnI b := by
  have h1 := cn_u ha
  have h2 := cn_u hb
  unfold rkI at h; unfold u64R at h1 h2
  split at h <;> split at h <;> omega
theorem bw_lt {a b : Int} {k : Nat} (ha : 0 ≤ a ∧ a < 2 ^ k) (hb : 0 ≤ b ∧ b < 2 ^ k) (hk : k ≤ 64) : 0 ≤ IntKind.u64.wrap ((BitVec.ofInt 64 a ||| BitVec.ofInt 64 b).toNat : Int) ∧ IntKind.u64.wrap ((BitVec.ofInt 64 a ||| BitVec.ofInt 64 b).toNat : Int) < 2 ^ k := by
  obtain ⟨m, rfl⟩ : ∃ m : Nat, a = (m : Int) := ⟨a.toNat, by omega⟩
  obtain ⟨n, rfl⟩ : ∃ n : Nat, b = (n : Int) := ⟨b.toNat, by omega⟩
  have hm : m < 2 ^ k := by exact_mod_cast ha.2
  have hn : n < 2 ^ k := by exact_mod_cast hb.2
  have h64 : 2 ^ k ≤ 2 ^ 64 := Nat.pow_le_pow_right (by omega) hk
  have hx : (BitVec.ofInt 64 (m : Int) ||| BitVec.ofInt 64 (n : Int)).toNat < 2 ^ k := by
    rw [BitVec.toNat_or]
    refine Nat.or_lt_two_pow ?_ ?_
    · rw [BitVec.ofInt_natCast, BitVec.toNat_ofNat, Nat.mod_eq_of_lt (by omega)]; exact hm
    · rw [BitVec.ofInt_natCast, BitVec.toNat_ofNat, Nat.mod_eq_of_lt (by omega)]; exact hn
  generalize (BitVec.ofInt 64 (m : Int) ||| BitVec.ofInt 64 (n : Int)).toNat = x at hx
  have h2 : (2 : Nat) ^ 64 = 18446744073709551616 := by decide
  have hx2 : x < 18446744073709551616 := by omega
  rw [IntWalk.u64_in _ (by omega)]
  exact ⟨by omega, by exact_mod_cast hx⟩
theorem compl_u {n : Int} (h : u64R n) : IntKind.u64.wrap ((BitVec.ofInt 64 18446744073709551615 ^^^ BitVec.ofInt 64 n).toNat : Int) = 18446744073709551615 - n := by
  obtain ⟨m, rfl⟩ : ∃ m : Nat, n = (m : Int) := ⟨n.toNat, by unfold u64R at h; omega⟩
  unfold u64R at h
  have hm : m < 18446744073709551616 := by omega
  have h1 : BitVec.ofInt 64 18446744073709551615 = BitVec.allOnes 64 := by decide
  have h2 : (BitVec.ofInt 64 (m : Int)).toNat = m := by
    rw [BitVec.ofInt_natCast, BitVec.toNat_ofNat, Nat.mod_eq_of_lt (by omega)]
  rw [h1, BitVec.allOnes_xor, BitVec.toNat_not, h2]
  have h3 : ((2 ^ 64 - 1 - m : Nat) : Int) = 18446744073709551615 - (m : Int) := by
    have : (2 : Nat) ^ 64 = 18446744073709551616 := by decide
    omega
  rw [h3, IntWalk.u64_in _ (by omega)]
theorem wrap_id {w : Int} (h : u64R w) : IntKind.u64.wrap w = w := IntWalk.u64_in _ (by unfold u64R at h; omega)
theorem fdiv_52 {w : Int} : w.fdiv (2 ^ min 52 64) = w / 4503599627370496 := Int.fdiv_eq_ediv_of_nonneg _ (by decide)
theorem fdiv_63 {w : Int} : w.fdiv (2 ^ min 63 64) = w / 9223372036854775808 := Int.fdiv_eq_ediv_of_nonneg _ (by decide)
def Lref01parts : FnL := ⟨(.seq (.ops [oa 2 (.mv (oi 0)),oa 3 (.mv (ou 0))])
 (.seq (.ops [om 4 0,oa 5 (.bin .shr (ot 4) (ou 52)),oa 6 (.conv .i64 (ot 5)),oa 7 (.bin .rem (ot 6) (oi 2048)),om 8 0,oa 9 (.bin .rem (ot 8) (ou 4503599627370496)),om 2 7,om 3 9])
 .ret)),
 10, [.tmp 2, .tmp 3]⟩
theorem lowref01parts : lowerFn Tryd.prog Tryd.f107 = some Lref01parts := by kernel_rfl
noncomputable def Gref01parts (B : OH) : Nat → Cs
  | _ => fun _ _ _ => none
theorem sGref01parts {w0 : World} {B : OH} : SoundG Tryd.prog w0 B { f := Gref01parts B } := .of fun k => by
  unfold Gref01parts
  split
  · exact .inl fun _ _ _ => rfl
theorem enref01parts : Enter Tryd.prog 107 := .of Tryd.func107 (by kernel_rfl) (by kernel_rfl)
noncomputable def Tref01parts (B : OH) : Cs := callF B { f := Gref01parts B } 1000000 Lref01parts
theorem sTref01parts {w0 : World} {B : OH} : SoundC Tryd.prog w0 B 107 (Tref01parts B) := callF_sound mixedOrders sGref01parts 1000000 Tryd.func107 lowref01parts
noncomputable def Fref01parts (B : OH) : List Value → Option Value := kval B (Tref01parts B)
noncomputable def Vref01parts (B : OH) : Cs := fun a H N => pvE (Fref01parts B a) H N
theorem Vref01parts_eq {B : OH} {a : List Value} {H : HL} {N : St} : Vref01parts B a H N = pvE (Fref01parts B a) H N := rfl
theorem sVref01parts {w0 : World} {B : OH} : SoundC Tryd.prog w0 B 107 (Vref01parts B) := sTref01parts.ofVal
theorem J39 : Said (an @Tref01parts.eq_1 <| an @Lref01parts.eq_1 <| trivial) := said_ok _
theorem xparts {B : OH} (hG : ∃ H N, good B H N) {w : Int} (hw : u64R w) : Fref01parts B [.int .u64 w] = some (.tuple #[.int .i64 (exI w), .int .u64 (frI w)]) := by
  refine kval_eq hG fun H N hN => ?_
  obtain ⟨hB, hR, hI⟩ := gX hN
  have hw' := hw
  unfold u64R at hw'
  have a1 : IntKind.i64.wrap (w / 4503599627370496) = w / 4503599627370496 := IntWalk.i64_in _ (by omega)
  have a2 : (w / 4503599627370496).tmod 2048 = exI w := Int.tmod_eq_emod_of_nonneg (by omega)
  have a3 : w.tmod 4503599627370496 = frI w := Int.tmod_eq_emod_of_nonneg (by omega)
  simp (disch := omega) only [J39, hB, hR, hI, fdiv_52, a1, a2, a3, all1, ress, res1, retV, Value.cells, newsV_s, seval, eV]
  with_reducible refine done2 ?_
  repeat (first | refine ext_new hN ?_ | exact fun _ _ h => h)
def Lref01Kind : FnL := ⟨(.seq (.ops [oa 2 (.mv (oi 0))])
 (.seq (.ops [om 6 0,oa 7 (.call (.func 107) [(ot 6)]),om 5 7,oa 8 (.ext (ot 5) 0),oa 9 (.ext (ot 5) 1),om 3 8,om 4 9])
 (.seq (.block 0 (.seq (.ops [om 11 3,oa 12 (.bin .eql (ot 11) (oi 2047)),om 13 12,ob 14 (.mv (ot 4)) 13 true,ob 15 (.bin .neq (ot 14) (ou 0)) 13 true,oa 16 (.pick (ot 13) (ot 15) (.const (.bool false))),om 10 16])
 (.cond (ot 10) (.seq (.ops [oa 2 (.mv (oi 3))])
 .ret)
 (.seq (.ops [om 18 3,oa 19 (.bin .eql (ot 18) (oi 2047)),om 17 19])
 (.cond (ot 17) (.seq (.ops [oa 2 (.mv (oi 2))])
 .ret)
 (.seq (.ops [om 21 3,oa 22 (.bin .eql (ot 21) (oi 0)),om 23 22,ob 24 (.mv (ot 4)) 23 true,ob 25 (.bin .eql (ot 24) (ou 0)) 23 true,oa 26 (.pick (ot 23) (ot 25) (.const (.bool false))),om 20 26])
 (.cond (ot 20) (.seq (.ops [oa 2 (.mv (oi 0))])
 .ret)
 .skip)))))))
 (.seq (.ops [oa 2 (.mv (oi 1))])
 .ret)))),
 27, [.tmp 2]⟩
theorem lowref01Kind : lowerFn Tryd.prog Tryd.f94 = some Lref01Kind := by kernel_rfl
noncomputable def Gref01Kind (B : OH) : Nat → Cs
  | 107 => Vref01parts B
  | _ => fun _ _ _ => none
theorem Gref01Kind_ref01parts {B : OH} : Gref01Kind B 107 = Vref01parts B := rfl
theorem sGref01Kind {w0 : World} {B : OH} : SoundG Tryd.prog w0 B { f := Gref01Kind B } := .of fun k => by
  unfold Gref01Kind
  split
  · exact .inr ⟨enref01parts, sVref01parts⟩
  · exact .inl fun _ _ _ => rfl
theorem enref01Kind : Enter Tryd.prog 94 := .of Tryd.func94 (by kernel_rfl) (by kernel_rfl)
noncomputable def Tref01Kind (B : OH) : Cs := callF B { f := Gref01Kind B } 1000000 Lref01Kind
theorem sTref01Kind {w0 : World} {B : OH} : SoundC Tryd.prog w0 B 94 (Tref01Kind B) := callF_sound mixedOrders sGref01Kind 1000000 Tryd.func94 lowref01Kind
noncomputable def Fref01Kind (B : OH) : List Value → Option Value := kval B (Tref01Kind B)
noncomputable def Vref01Kind (B : OH) : Cs := fun a H N => pvE (Fref01Kind B a) H N
theorem Vref01Kind_eq {B : OH} {a : List Value} {H : HL} {N : St} : Vref01Kind B a H N = pvE (Fref01Kind B a) H N := rfl
theorem sVref01Kind {w0 : World} {B : OH} : SoundC Tryd.prog w0 B 94 (Vref01Kind B) := sTref01Kind.ofVal
theorem J40 : Said (an @Tref01Kind.eq_1 <| an @Lref01Kind.eq_1 <| an @Gref01Kind_ref01parts <| an @Vref01parts_eq <| trivial) := said_ok _
theorem xKind {B : OH} (hG : ∃ H N, good B H N) {w : Int} (hw : u64R w) : Fref01Kind B [.int .u64 w] = some (.int .i64 (kdI w)) := by
  refine kval_eq hG fun H N hN => ?_
  obtain ⟨hB, hR, hI⟩ := gX hN
  have e := xparts hG hw
  unfold kdI
  generalize exI w = x at *
  generalize frI w = f at *
  by_cases c1 : x = 2047
  · subst c1
    by_cases c2 : f = 0
    · subst c2
      rw [if_neg (by omega), if_pos rfl]
      simp (disch := omega) only [J40, hB, hR, hI, e, all1, ress, res1, retV, Value.cells, newsV_s, seval, eV]
      with_reducible refine done2 ?_
      repeat (first | refine ext_new hN ?_ | exact fun _ _ h => h)
    · have c2' : (f != 0) = true := by simpa using c2
      rw [if_pos ⟨rfl, c2⟩]
      simp (disch := omega) only [J40, hB, hR, hI, e, c2', all1, ress, res1, retV, Value.cells, newsV_s, seval, eV]
      with_reducible refine done2 ?_
      repeat (first | refine ext_new hN ?_ | exact fun _ _ h => h)
  · have c1' : (x == 2047) = false := by simpa using c1
    rw [if_neg (fun h => c1 h.1), if_neg c1]
    by_cases c3 : x = 0
    · subst c3
      by_cases c2 : f = 0
      · subst c2
        rw [if_pos ⟨rfl, rfl⟩]
        simp (disch := omega) only [J40, hB, hR, hI, e, all1, ress, res1, retV, Value.cells, newsV_s, seval, eV]
        with_reducible refine done2 ?_
        repeat (first | refine ext_new hN ?_ | exact fun _ _ h => h)
      · have c2' : (f == 0) = false := by simpa using c2
        rw [if_neg (fun h => c2 h.2)]
        simp (disch := omega) only [J40, hB, hR, hI, e, c2', all1, ress, res1, retV, Value.cells, newsV_s, seval, eV]
        with_reducible refine done2 ?_
        repeat (first | refine ext_new hN ?_ | exact fun _ _ h => h)
    · have c3' : (x == 0) = false := by simpa using c3
      rw [if_neg (fun h => c3 h.1)]
      simp (disch := omega) only [J40, hB, hR, hI, e, c1', c3', all1, ress, res1, retV, Value.cells, newsV_s, seval, eV]
      with_reducible refine done2 ?_
      repeat (first | refine ext_new hN ?_ | exact fun _ _ h => h)
def Lref01Canon : FnL := ⟨(.seq (.ops [oa 2 (.mv (ou 0))])
 (.seq (.ops [om 4 0,oa 5 (.call (.func 94) [(ot 4)]),om 3 5])
 (.seq (.seq (.ops [om 6 3,oa 7 (.bin .eql (ot 6) (oi 3))])
 (.cond (ot 7) (.seq (.ops [oa 2 (.mv (ou 9221120237041090561))])
 .ret)
 .skip))
 (.seq (.seq (.ops [om 8 3,oa 9 (.bin .eql (ot 8) (oi 0))])
 (.cond (ot 9) (.seq (.ops [oa 2 (.mv (ou 0))])
 .ret)
 .skip))
 (.seq (.ops [om 10 0,om 2 10])
 .ret))))),
 11, [.tmp 2]⟩
theorem lowref01Canon : lowerFn Tryd.prog Tryd.f79 = some Lref01Canon := by kernel_rfl
noncomputable def Gref01Canon (B : OH) : Nat → Cs
  | 94 => Vref01Kind B
  | _ => fun _ _ _ => none
theorem Gref01Canon_ref01Kind {B : OH} : Gref01Canon B 94 = Vref01Kind B := rfl
theorem sGref01Canon {w0 : World} {B : OH} : SoundG Tryd.prog w0 B { f := Gref01Canon B } := .of fun k => by
  unfold Gref01Canon
  split
  · exact .inr ⟨enref01Kind, sVref01Kind⟩
  · exact .inl fun _ _ _ => rfl
theorem enref01Canon : Enter Tryd.prog 79 := .of Tryd.func79 (by kernel_rfl) (by kernel_rfl)
noncomputable def Tref01Canon (B : OH) : Cs := callF B { f := Gref01Canon B } 1000000 Lref01Canon
theorem sTref01Canon {w0 : World} {B : OH} : SoundC Tryd.prog w0 B 79 (Tref01Canon B) := callF_sound mixedOrders sGref01Canon 1000000 Tryd.func79 lowref01Canon
noncomputable def Fref01Canon (B : OH) : List Value → Option Value := kval B (Tref01Canon B)
noncomputable def Vref01Canon (B : OH) : Cs := fun a H N => pvE (Fref01Canon B a) H N
theorem Vref01Canon_eq {B : OH} {a : List Value} {H : HL} {N : St} : Vref01Canon B a H N = pvE (Fref01Canon B a) H N := rfl
theorem sVref01Canon {w0 : World} {B : OH} : SoundC Tryd.prog w0 B 79 (Vref01Canon B) := sTref01Canon.ofVal
theorem J41 : Said (an @Tref01Canon.eq_1 <| an @Lref01Canon.eq_1 <| an @Gref01Canon_ref01Kind <| an @Vref01Kind_eq <| trivial) := said_ok _
theorem xCanon {B : OH} (hG : ∃ H N, good B H N) {w : Int} (hw : u64R w) : Fref01Canon B [.int .u64 w] = some (.int .u64 (cnI w)) := by
  refine kval_eq hG fun H N hN => ?_
  obtain ⟨hB, hR, hI⟩ := gX hN
  have e := xKind hG hw
  unfold cnI
  by_cases c1 : kdI w = 3
  · rw [if_pos c1]
    rw [c1] at e
    simp (disch := omega) only [J41, hB, hR, hI, e, all1, ress, res1, retV, Value.cells, newsV_s, seval, eV]
    with_reducible refine done2 ?_
    repeat (first | refine ext_new hN ?_ | exact fun _ _ h => h)
  by_cases c2 : kdI w = 0
  · rw [if_neg c1, if_pos c2]
    rw [c2] at e
    simp (disch := omega) only [J41, hB, hR, hI, e, all1, ress, res1, retV, Value.cells, newsV_s, seval, eV]
    with_reducible refine done2 ?_
    repeat (first | refine ext_new hN ?_ | exact fun _ _ h => h)
  · have c1' : (kdI w == 3) = false := by simpa using c1
    have c2' : (kdI w == 0) = false := by simpa using c2
    rw [if_neg c1, if_neg c2]
    simp (disch := omega) only [J41, hB, hR, hI, e, c1', c2', all1, ress, res1, retV, Value.cells, newsV_s, seval, eV]
    with_reducible refine done2 ?_
    repeat (first | refine ext_new hN ?_ | exact fun _ _ h => h)
def Lref01Rank : FnL := ⟨(.seq (.ops [oa 2 (.mv (ou 0))])
 (.seq (.ops [om 4 0,oa 5 (.call (.func 79) [(ot 4)]),om 3 5])
 (.seq (.seq (.ops [om 6 3,oa 7 (.bin .shr (ot 6) (ou 63)),oa 8 (.bin .eql (ot 7) (ou 1))])
 (.cond (ot 8) (.seq (.ops [om 9 3,oa 10 (.un .xor (ot 9)),om 2 10])
 .ret)
 .skip))
 (.seq (.ops [om 11 3,oa 12 (.bin .add (ot 11) (ou 9223372036854775808)),om 2 12])
 .ret)))),
 13, [.tmp 2]⟩
theorem lowref01Rank : lowerFn Tryd.prog Tryd.f84 = some Lref01Rank := by kernel_rfl
noncomputable def Gref01Rank (B : OH) : Nat → Cs
  | 79 => Vref01Canon B
  | _ => fun _ _ _ => none
theorem Gref01Rank_ref01Canon {B : OH} : Gref01Rank B 79 = Vref01Canon B := rfl
theorem sGref01Rank {w0 : World} {B : OH} : SoundG Tryd.prog w0 B { f := Gref01Rank B } := .of fun k => by
  unfold Gref01Rank
  split
  · exact .inr ⟨enref01Canon, sVref01Canon⟩
  · exact .inl fun _ _ _ => rfl
theorem enref01Rank : Enter Tryd.prog 84 := .of Tryd.func84 (by kernel_rfl) (by kernel_rfl)
noncomputable def Tref01Rank (B : OH) : Cs := callF B { f := Gref01Rank B } 1000000 Lref01Rank
theorem sTref01Rank {w0 : World} {B : OH} : SoundC Tryd.prog w0 B 84 (Tref01Rank B) := callF_sound mixedOrders sGref01Rank 1000000 Tryd.func84 lowref01Rank
noncomputable def Fref01Rank (B : OH) : List Value → Option Value := kval B (Tref01Rank B)
noncomputable def Vref01Rank (B : OH) : Cs := fun a H N => pvE (Fref01Rank B a) H N
theorem Vref01Rank_eq {B : OH} {a : List Value} {H : HL} {N : St} : Vref01Rank B a H N = pvE (Fref01Rank B a) H N := rfl
theorem sVref01Rank {w0 : World} {B : OH} : SoundC Tryd.prog w0 B 84 (Vref01Rank B) := sTref01Rank.ofVal
theorem J42 : Said (an @Tref01Rank.eq_1 <| an @Lref01Rank.eq_1 <| an @Gref01Rank_ref01Canon <| an @Vref01Canon_eq <| trivial) := said_ok _
theorem xRank {B : OH} (hG : ∃ H N, good B H N) {w : Int} (hw : u64R w) : Fref01Rank B [.int .u64 w] = some (.int .u64 (rkI w)) := by
  refine kval_eq hG fun H N hN => ?_
  obtain ⟨hB, hR, hI⟩ := gX hN
  have e := xCanon hG hw
  have hc := cn_u hw
  unfold rkI
  generalize cnI w = c at *
  by_cases c1 : c / 9223372036854775808 = 1
  · have a1 := compl_u hc
    rw [if_pos c1]
    simp (disch := omega) only [J42, hB, hR, hI, e, fdiv_63, c1, a1, all1, ress, res1, retV, Value.cells, reduceIte, reduceCtorEq, Int.reduceLT, Int.reduceLE, Int.reduceToNat, Int.reduceAdd, Int.reduceSub, Int.reduceMul, Int.reduceNeg, Nat.reduceMul, Nat.reduceAdd, Nat.reduceSub, Nat.reduceBEq, Nat.reduceEqDiff, Nat.reduceLT, Nat.reduceLeDiff, Int.reduceBEq, Int.reduceEq, Nat.reducePow, Int.reducePow, Int.reduceGT, Int.reduceGE, Int.reduceBNe, newsV_s, eV]
    with_reducible refine done2 ?_
    repeat (first | refine ext_new hN ?_ | exact fun _ _ h => h)
  · have c1' : (c / 9223372036854775808 == 1) = false := by simpa using c1
    have a1 : IntKind.u64.wrap (c + 9223372036854775808) = c + 9223372036854775808 := IntWalk.u64_in _ (by unfold u64R at hc; omega)
    rw [if_neg c1]
    simp (disch := omega) only [J42, hB, hR, hI, e, fdiv_63, c1', a1, all1, ress, res1, retV, Value.cells, reduceIte, reduceCtorEq, Int.reduceLT, Int.reduceLE, Int.reduceToNat, Int.reduceAdd, Int.reduceSub, Int.reduceMul, Int.reduceNeg, Nat.reduceMul, Nat.reduceAdd, Nat.reduceSub, Nat.reduceBEq, Nat.reduceEqDiff, Nat.reduceLT, Nat.reduceLeDiff, Int.reduceBEq, Int.reduceEq, Nat.reducePow, Int.reducePow, Int.reduceGT, Int.reduceGE, Int.reduceBNe, newsV_s, eV]
    with_reducible refine done2 ?_
    repeat (first | refine ext_new hN ?_ | exact fun _ _ h => h)
def Lref01Less : FnL := ⟨(.seq (.ops [oa 4 (.mv (.const (.bool false)))])
 (.seq (.ops [om 5 0,oa 6 (.call (.func 84) [(ot 5)]),om 7 1,oa 8 (.call (.func 84) [(ot 7)]),oa 9 (.bin .lss (ot 6) (ot 8)),om 4 9])
 .ret)),
 10, [.tmp 4]⟩
theorem lowref01Less : lowerFn Tryd.prog Tryd.f108 = some Lref01Less := by kernel_rfl
noncomputable def Gref01Less (B : OH) : Nat → Cs
  | 84 => Vref01Rank B
  | _ => fun _ _ _ => none
theorem Gref01Less_ref01Rank {B : OH} : Gref01Less B 84 = Vref01Rank B := rfl
theorem sGref01Less {w0 : World} {B : OH} : SoundG Tryd.prog w0 B { f := Gref01Less B } := .of fun k => by
  unfold Gref01Less
  split
  · exact .inr ⟨enref01Rank, sVref01Rank⟩
  · exact .inl fun _ _ _ => rfl
theorem enref01Less : Enter Tryd.prog 108 := .of Tryd.func108 (by kernel_rfl) (by kernel_rfl)
noncomputable def Tref01Less (B : OH) : Cs := callF B { f := Gref01Less B } 1000000 Lref01Less
theorem sTref01Less {w0 : World} {B : OH} : SoundC Tryd.prog w0 B 108 (Tref01Less B) := callF_sound mixedOrders sGref01Less 1000000 Tryd.func108 lowref01Less
noncomputable def Fref01Less (B : OH) : List Value → Option Value := kval B (Tref01Less B)
noncomputable def Vref01Less (B : OH) : Cs := fun a H N => pvE (Fref01Less B a) H N
theorem Vref01Less_eq {B : OH} {a : List Value} {H : HL} {N : St} : Vref01Less B a H N = pvE (Fref01Less B a) H N := rfl
theorem sVref01Less {w0 : World} {B : OH} : SoundC Tryd.prog w0 B 108 (Vref01Less B) := sTref01Less.ofVal
theorem J43 : Said (an @Tref01Less.eq_1 <| an @Lref01Less.eq_1 <| an @Gref01Less_ref01Rank <| an @Vref01Rank_eq <| trivial) := said_ok _
theorem xLess {B : OH} (hG : ∃ H N, good B H N) {a b : Int} (ha : u64R a) (hb : u64R b) : Fref01Less B [.int .u64 a, .int .u64 b] = some (.bool (decide (rkI a < rkI b))) := by
  refine kval_eq hG fun H N hN => ?_
  obtain ⟨hB, hR, hI⟩ := gX hN
  have e1 := xRank hG ha
  have e2 := xRank hG hb
  simp (disch := omega) only [J43, hB, hR, hI, e1, e2, all1, ress, res1, retV, Value.cells, newsV_s, seval, eV]
  with_reducible refine done2 ?_
  repeat (first | refine ext_new hN ?_ | exact fun _ _ h => h)
def mxI (a b : Int) : Int := if rkI a < rkI b then cnI b else cnI a
def Lref01Max : FnL := ⟨(.seq (.ops [oa 4 (.mv (ou 0))])
 (.seq (.seq (.ops [om 5 0,om 6 1,oa 7 (.call (.func 108) [(ot 5), (ot 6)])])
 (.cond (ot 7) (.seq (.ops [om 8 1,oa 9 (.call (.func 79) [(ot 8)]),om 4 9])
 .ret)
 .skip))
 (.seq (.ops [om 10 0,oa 11 (.call (.func 79) [(ot 10)]),om 4 11])
 .ret))),
 12, [.tmp 4]⟩
theorem lowref01Max : lowerFn Tryd.prog Tryd.f101 = some Lref01Max := by kernel_rfl
noncomputable def Gref01Max (B : OH) : Nat → Cs
  | 79 => Vref01Canon B
  | 108 => Vref01Less B
  | _ => fun _ _ _ => none
theorem Gref01Max_ref01Canon {B : OH} : Gref01Max B 79 = Vref01Canon B := rfl
theorem Gref01Max_ref01Less {B : OH} : Gref01Max B 108 = Vref01Less B := rfl
theorem sGref01Max {w0 : World} {B : OH} : SoundG Tryd.prog w0 B { f := Gref01Max B } := .of fun k => by
  unfold Gref01Max
  split
  · exact .inr ⟨enref01Canon, sVref01Canon⟩
  · exact .inr ⟨enref01Less, sVref01Less⟩
  · exact .inl fun _ _ _ => rfl
theorem enref01Max : Enter Tryd.prog 101 := .of Tryd.func101 (by kernel_rfl) (by kernel_rfl)
noncomputable def Tref01Max (B : OH) : Cs := callF B { f := Gref01Max B } 1000000 Lref01Max
theorem sTref01Max {w0 : World} {B : OH} : SoundC Tryd.prog w0 B 101 (Tref01Max B) := callF_sound mixedOrders sGref01Max 1000000 Tryd.func101 lowref01Max
noncomputable def Fref01Max (B : OH) : List Value → Option Value := kval B (Tref01Max B)
noncomputable def Vref01Max (B : OH) : Cs := fun a H N => pvE (Fref01Max B a) H N
theorem Vref01Max_eq {B : OH} {a : List Value} {H : HL} {N : St} : Vref01Max B a H N = pvE (Fref01Max B a) H N := rfl
theorem sVref01Max {w0 : World} {B : OH} : SoundC Tryd.prog w0 B 101 (Vref01Max B) := sTref01Max.ofVal
theorem J44 : Said (an @Tref01Max.eq_1 <| an @Lref01Max.eq_1 <| an @Gref01Max_ref01Canon <| an @Vref01Canon_eq <| an @Gref01Max_ref01Less <| an @Vref01Less_eq <| trivial) := said_ok _
theorem xMax {B : OH} (hG : ∃ H N, good B H N) {a b : Int} (ha : u64R a) (hb : u64R b) : Fref01Max B [.int .u64 a, .int .u64 b] = some (.int .u64 (mxI a b)) := by
  refine kval_eq hG fun H N hN => ?_
  obtain ⟨hB, hR, hI⟩ := gX hN
  have e1 := xLess hG ha hb
  have e2 := xCanon hG ha
  have e3 := xCanon hG hb
  unfold mxI
  by_cases c1 : rkI a < rkI b
  · rw [if_pos c1]
    simp (disch := omega) only [J44, hB, hR, hI, e1, e2, e3, c1, all1, ress, res1, retV, Value.cells, newsV_s, seval, eV]
    with_reducible refine done2 ?_
    repeat (first | refine ext_new hN ?_ | exact fun _ _ h => h)
  · rw [if_neg c1]
    simp (disch := omega) only [J44, hB, hR, hI, e1, e2, e3, c1, all1, ress, res1, retV, Value.cells, newsV_s, seval, eV]
    with_reducible refine done2 ?_
    repeat (first | refine ext_new hN ?_ | exact fun _ _ h => h)
def Lref01less : FnL := ⟨(.seq (.ops [oa 4 (.mv (.const (.bool false)))])
 (.seq (.ops [om 5 0,oa 6 (.bin .rem (ot 5) (ou 9223372036854775808)),om 7 1,oa 8 (.bin .rem (ot 7) (ou 9223372036854775808)),oa 9 (.bin .lss (ot 6) (ot 8)),om 4 9])
 .ret)),
 10, [.tmp 4]⟩
theorem lowref01less : lowerFn Tryd.prog Tryd.f112 = some Lref01less := by kernel_rfl
noncomputable def Gref01less (B : OH) : Nat → Cs
  | _ => fun _ _ _ => none
theorem sGref01less {w0 : World} {B : OH} : SoundG Tryd.prog w0 B { f := Gref01less B } := .of fun k => by
  unfold Gref01less
  split
  · exact .inl fun _ _ _ => rfl
theorem enref01less : Enter Tryd.prog 112 := .of Tryd.func112 (by kernel_rfl) (by kernel_rfl)
noncomputable def Tref01less (B : OH) : Cs := callF B { f := Gref01less B } 1000000 Lref01less
theorem sTref01less {w0 : World} {B : OH} : SoundC Tryd.prog w0 B 112 (Tref01less B) := callF_sound mixedOrders sGref01less 1000000 Tryd.func112 lowref01less
noncomputable def Fref01less (B : OH) : List Value → Option Value := kval B (Tref01less B)
noncomputable def Vref01less (B : OH) : Cs := fun a H N => pvE (Fref01less B a) H N
theorem Vref01less_eq {B : OH} {a : List Value} {H : HL} {N : St} : Vref01less B a H N = pvE (Fref01less B a) H N := rfl
theorem sVref01less {w0 : World} {B : OH} : SoundC Tryd.prog w0 B 112 (Vref01less B) := sTref01less.ofVal
theorem J45 : Said (an @Tref01less.eq_1 <| an @Lref01less.eq_1 <| trivial) := said_ok _
theorem xless {B : OH} (hG : ∃ H N, good B H N) {a b : Int} (ha : u64R a) (hb : u64R b) : Fref01less B [.int .u64 a, .int .u64 b] = some (.bool (decide (a % 9223372036854775808 < b % 9223372036854775808))) := by
  refine kval_eq hG fun H N hN => ?_
  obtain ⟨hB, hR, hI⟩ := gX hN
  unfold u64R at ha hb
  have a1 : a.tmod 9223372036854775808 = a % 9223372036854775808 := Int.tmod_eq_emod_of_nonneg (by omega)
  have a2 : b.tmod 9223372036854775808 = b % 9223372036854775808 := Int.tmod_eq_emod_of_nonneg (by omega)
  simp (disch := omega) only [J45, hB, hR, hI, a1, a2, all1, ress, res1, retV, Value.cells, newsV_s, seval, eV]
  with_reducible refine done2 ?_
  repeat (first | refine ext_new hN ?_ | exact fun _ _ h => h)
def whE (w : Int) : Int := if exI w = 0 then 1 else exI w
def whM (w : Int) : Int := if exI w = 0 then frI w * 8 else (frI w + 4503599627370496) * 8
theorem wh_b (w : Int) : 1 ≤ whE w ∧ whE w ≤ 2047 ∧ u64R (whM w) := by
  have h1 : 0 ≤ exI w ∧ exI w < 2048 := by unfold exI; omega
  have h2 : 0 ≤ frI w ∧ frI w < 4503599627370496 := by unfold frI; omega
  unfold whE whM u64R
  split <;> omega
def Lref01whole : FnL := ⟨(.seq (.ops [oa 2 (.mv (oi 0)),oa 3 (.mv (ou 0))])
 (.seq (.ops [om 7 0,oa 8 (.call (.func 107) [(ot 7)]),om 6 8,oa 9 (.ext (ot 6) 0),oa 10 (.ext (ot 6) 1),om 4 9,om 5 10])
 (.seq (.seq (.ops [om 11 4,oa 12 (.bin .eql (ot 11) (oi 0))])
 (.cond (ot 12) (.seq (.ops [om 13 5,oa 14 (.bin .mul (ot 13) (ou 8)),oa 2 (.mv (oi 1)),om 3 14])
 .ret)
 .skip))
 (.seq (.ops [om 15 4,om 16 5,oa 17 (.bin .add (ot 16) (ou 4503599627370496)),oa 18 (.bin .mul (ot 17) (ou 8)),om 2 15,om 3 18])
 .ret)))),
 19, [.tmp 2, .tmp 3]⟩
theorem lowref01whole : lowerFn Tryd.prog Tryd.f113 = some Lref01whole := by kernel_rfl
noncomputable def Gref01whole (B : OH) : Nat → Cs
  | 107 => Vref01parts B
  | _ => fun _ _ _ => none
theorem Gref01whole_ref01parts {B : OH} : Gref01whole B 107 = Vref01parts B := rfl
theorem sGref01whole {w0 : World} {B : OH} : SoundG Tryd.prog w0 B { f := Gref01whole B } := .of fun k => by
  unfold Gref01whole
  split
  · exact .inr ⟨enref01parts, sVref01parts⟩
  · exact .inl fun _ _ _ => rfl
theorem enref01whole : Enter Tryd.prog 113 := .of Tryd.func113 (by kernel_rfl) (by kernel_rfl)
noncomputable def Tref01whole (B : OH) : Cs := callF B { f := Gref01whole B } 1000000 Lref01whole
theorem sTref01whole {w0 : World} {B : OH} : SoundC Tryd.prog w0 B 113 (Tref01whole B) := callF_sound mixedOrders sGref01whole 1000000 Tryd.func113 lowref01whole
noncomputable def Fref01whole (B : OH) : List Value → Option Value := kval B (Tref01whole B)
noncomputable def Vref01whole (B : OH) : Cs := fun a H N => pvE (Fref01whole B a) H N
theorem Vref01whole_eq {B : OH} {a : List Value} {H : HL} {N : St} : Vref01whole B a H N = pvE (Fref01whole B a) H N := rfl
theorem sVref01whole {w0 : World} {B : OH} : SoundC Tryd.prog w0 B 113 (Vref01whole B) := sTref01whole.ofVal
theorem J46 : Said (an @Tref01whole.eq_1 <| an @Lref01whole.eq_1 <| an @Gref01whole_ref01parts <| an @Vref01parts_eq <| trivial) := said_ok _
theorem xwhole {B : OH} (hG : ∃ H N, good B H N) {w : Int} (hw : u64R w) : Fref01whole B [.int .u64 w] = some (.tuple #[.int .i64 (whE w), .int .u64 (whM w)]) := by
  refine kval_eq hG fun H N hN => ?_
  obtain ⟨hB, hR, hI⟩ := gX hN
  have e := xparts hG hw
  have h2 : 0 ≤ frI w ∧ frI w < 4503599627370496 := by unfold frI; omega
  unfold whE whM
  by_cases c1 : exI w = 0
  · have a1 : IntKind.u64.wrap (frI w * 8) = frI w * 8 := IntWalk.u64_in _ (by omega)
    rw [if_pos c1, if_pos c1]
    rw [c1] at e
    simp (disch := omega) only [J46, hB, hR, hI, e, a1, all1, ress, res1, retV, Value.cells, newsV_s, seval, eV]
    with_reducible refine done2 ?_
    repeat (first | refine ext_new hN ?_ | exact fun _ _ h => h)
  · have c1' : (exI w == 0) = false := by simpa using c1
    have a0 : IntKind.u64.wrap (frI w + 4503599627370496) = frI w + 4503599627370496 := IntWalk.u64_in _ (by omega)
    have a1 : IntKind.u64.wrap ((frI w + 4503599627370496) * 8) = (frI w + 4503599627370496) * 8 := IntWalk.u64_in _ (by omega)
    rw [if_neg c1, if_neg c1]
    simp (disch := omega) only [J46, hB, hR, hI, e, c1', a0, a1, all1, ress, res1, retV, Value.cells, newsV_s, seval, eV]
    with_reducible refine done2 ?_
    repeat (first | refine ext_new hN ?_ | exact fun _ _ h => h)
end Go.Proofs.YtfhiplfagejfoaaDoor
namespace Go.Proofs.YtfhiplfagejfoaaDoor
open Go.Proofs.YtfhiplfagejfoaaDoor.K Go.ChangeShapes Go.WideShapes Go.ChangeAt Go.RowKit 
set_option maxRecDepth 100000
set_option linter.unusedSimpArgs false
set_option linter.unusedVariables false
def orI (a b : Int) : Int := ((BitVec.ofInt 64 a ||| BitVec.ofInt 64 b).toNat : Int)
theorem orI_eq {a b : Int} : ((BitVec.ofInt 64 a ||| BitVec.ofInt 64 b).toNat : Int) = orI a b := rfl
theorem orI_lt {a b : Int} {k : Nat} (ha : 0 ≤ a ∧ a < 2 ^ k) (hb : 0 ≤ b ∧ b < 2 ^ k) (hk : k ≤ 64) : 0 ≤ orI a b ∧ orI a b < 2 ^ k := by
  have hx : 0 ≤ orI a b ∧ orI a b < 18446744073709551616 := by
    unfold orI
    have := (BitVec.ofInt 64 a ||| BitVec.ofInt 64 b).isLt
    omega
  have h := bw_lt ha hb hk
  rw [orI_eq, IntWalk.u64_in _ (by omega)] at h
  exact h
theorem half_u {m : Int} (hm : u64R m) : IntKind.u64.wrap (m.tdiv 2) = m / 2 ∧ m.tmod 2 = m % 2 := by
  unfold u64R at hm
  rw [Int.tdiv_eq_ediv_of_nonneg (by omega), Int.tmod_eq_emod_of_nonneg (by omega)]
  exact ⟨IntWalk.u64_in _ (by omega), rfl⟩
theorem orH_lt {s : Int} {k : Nat} (h0 : 0 ≤ s) (h : s < 2 ^ (k + 2)) (hk : k + 1 ≤ 64) : 0 ≤ orI (s / 2) (s % 2) ∧ orI (s / 2) (s % 2) < 2 ^ (k + 1) := by
  have h2 : (1 : Int) ≤ 2 ^ k := by
    have := Nat.one_le_two_pow (n := k)
    exact_mod_cast this
  have h1 : (2 : Int) ^ (k + 1) = 2 * 2 ^ k := by rw [Int.pow_succ, Int.mul_comm]
  have h3 : (2 : Int) ^ (k + 2) = 2 * 2 ^ (k + 1) := by rw [Int.pow_succ, Int.mul_comm]
  exact orI_lt ⟨by omega, by omega⟩ ⟨by omega, by omega⟩ hk
theorem wrap_u (x : Int) : u64R (IntKind.u64.wrap x) := by
  unfold u64R
  simp only [IntKind.wrap, IntKind.signed, IntKind.bits]
  first | omega | (simp; omega)
theorem or_u {m : Int} (hm : u64R m) : u64R (orI (m / 2) (m % 2)) := by
  have h64 : (2 : Int) ^ 64 = 18446744073709551616 := by decide
  unfold u64R at hm
  have := orI_lt (k := 64) (a := m / 2) (b := m % 2) (by omega) (by omega) (by omega)
  unfold u64R; omega
theorem pw56 {s : Int} {q : Nat} (h0 : 0 ≤ s) (hs : s < 2 ^ (56 + q)) (hq : q ≤ 8) : u64R s := by
  have h : (2 : Int) ^ (56 + q) ≤ 2 ^ 64 := by
    have := Nat.pow_le_pow_right (n := 2) (by omega) (show 56 + q ≤ 64 by omega)
    exact_mod_cast this
  have h64 : (2 : Int) ^ 64 = 18446744073709551616 := by decide
  unfold u64R; omega
def lbSh : LC := (.seq (.seq (.ops [om 6 5,om 7 1,oa 8 (.bin .lss (ot 6) (ot 7)),om 9 8,ob 10 (.mv (ot 0)) 9 true,ob 11 (.bin .gtr (ot 10) (ou 1)) 9 true,oa 12 (.pick (ot 9) (ot 11) (.const (.bool false)))])
 (.cond (ot 12) .skip
 (.exit 0)))
 (.seq (.block 1 (.ops [om 15 0,oa 16 (.bin .quo (ot 15) (ou 2)),om 17 0,oa 18 (.bin .rem (ot 17) (ou 2)),oa 19 (.bin .or (ot 16) (ot 18)),om 0 19]))
 (.ops [om 13 5,oa 14 (.bin .add (ot 13) (oi 1)),om 5 14])))
def LrSh : FnL := ⟨(.seq (.ops [oa 4 (.mv (ou 0))])
 (.seq (.seq (.ops [oa 5 (.mv (oi 0))])
 (.block 0 (.loop lbSh)))
 (.seq (.seq (.ops [om 20 1,oa 21 (.bin .gtr (ot 20) (oi 0)),om 22 21,ob 23 (.mv (ot 0)) 22 true,ob 24 (.bin .eql (ot 23) (ou 1)) 22 true,oa 25 (.pick (ot 22) (ot 24) (.const (.bool false)))])
 (.cond (ot 25) (.seq (.ops [oa 4 (.mv (ou 1))])
 .ret)
 .skip))
 (.seq (.ops [om 26 0,om 4 26])
 .ret)))),
 27, [.tmp 4]⟩
theorem lowrSh : lowerFn Tryd.prog Tryd.f114 = some LrSh := by kernel_rfl
noncomputable def GrSh (B : OH) : Nat → Cs
  | _ => fun _ _ _ => none
theorem sGrSh {w0 : World} {B : OH} : SoundG Tryd.prog w0 B { f := GrSh B } := .of fun k => by
  unfold GrSh
  split
  · exact .inl fun _ _ _ => rfl
theorem enrSh : Enter Tryd.prog 114 := .of Tryd.func114 (by kernel_rfl) (by kernel_rfl)
noncomputable def TrSh (B : OH) : Cs := callF B { f := GrSh B } 1000000 LrSh
theorem sTrSh {w0 : World} {B : OH} : SoundC Tryd.prog w0 B 114 (TrSh B) := callF_sound mixedOrders sGrSh 1000000 Tryd.func114 lowrSh
noncomputable def VrSh (B : OH) : Cs := TrSh B
theorem sVrSh {w0 : World} {B : OH} : SoundC Tryd.prog w0 B 114 (VrSh B) := sTrSh
structure KSh (b m : Int) (i : Nat) (ts : List Value) : Prop where
  l : ts.length = 27
  t0 : gt ts 0 = .int .u64 m
  t1 : gt ts 1 = .int .i64 b
  t5 : gt ts 5 = .int .i64 (i : Int)
theorem J47 : Said (an @TrSh.eq_1 <| an @LrSh.eq_1 <| an @lbSh.eq_1 <| trivial) := said_ok _
theorem loopSh {B : OH} {H : HL} {N : St} {m b : Int} (hm : u64R m) (hb : b ≤ 3000) (hN : good B H N) {ts : List Value} (kp : KSh b m 0 ts) {F : Nat} (hF : 4000 ≤ F) :
    Ok (exec B { f := GrSh B } F (LC.loop lbSh) ⟨ts, H, N⟩) (fun x s => x = .exit 0 ∧ s.H = H ∧ s.N = N ∧ ∃ m, ∃ i : Nat, u64R m ∧ KSh b m i s.t) := by
  obtain ⟨hB, hR, hI⟩ := gX hN
  refine loop_rule (n0 := 100) (fun q s => ∃ ts m, ∃ i : Nat, s = ⟨ts, H, N⟩ ∧ KSh b m i ts ∧ u64R m ∧ i ≤ 3000 ∧ q = 3000 - i) _ ?_ 3000 _ ⟨ts, m, 0, rfl, kp, hm, by omega, rfl⟩ _ (by omega)
  clear kp hF F ts hm m
  rintro z q s ⟨ts, m, i, rfl, kp, hm, hi, rfl⟩
  have hc1 : ((i + 1 : Nat) : Int) = (i : Int) + 1 := by omega
  obtain ⟨a1, a2⟩ := half_u hm
  by_cases c1 : (i : Int) < b
  case neg =>
    simp (disch := omega) only [J47, hB, hR, hI, kp.l, kp.t0, kp.t1, kp.t5, c1, all1, ress, res1, retV, Value.cells, reduceIte, reduceCtorEq, Int.reduceLT, Int.reduceLE, Int.reduceToNat, Int.reduceAdd, Int.reduceSub, Int.reduceMul, Int.reduceNeg, Nat.reduceMul, Nat.reduceAdd, Nat.reduceSub, Nat.reduceBEq, Nat.reduceEqDiff, Nat.reduceLT, Nat.reduceLeDiff, Int.reduceBEq, Int.reduceEq, Nat.reducePow, Int.reducePow, Int.reduceGT, Int.reduceGE, Int.reduceBNe, newsV_s, IntKind.bits, eV]
    refine ok_some (.inr ⟨by simp, rfl, rfl, rfl, m, i, hm, ⟨?_, ?_, ?_, ?_⟩⟩)
    all_goals simp (disch := omega) only [kp.l, kp.t0, kp.t1, kp.t5, Nat.reduceAdd, Int.cast_ofNat_Int, Nat.reduceBEq, Nat.reduceLT, decide_true, ev2, ev5]
  by_cases c2 : m > 1
  case neg =>
    simp (disch := omega) only [J47, hB, hR, hI, kp.l, kp.t0, kp.t1, kp.t5, c1, c2, all1, ress, res1, retV, Value.cells, reduceIte, reduceCtorEq, Int.reduceLT, Int.reduceLE, Int.reduceToNat, Int.reduceAdd, Int.reduceSub, Int.reduceMul, Int.reduceNeg, Nat.reduceMul, Nat.reduceAdd, Nat.reduceSub, Nat.reduceBEq, Nat.reduceEqDiff, Nat.reduceLT, Nat.reduceLeDiff, Int.reduceBEq, Int.reduceEq, Nat.reducePow, Int.reducePow, Int.reduceGT, Int.reduceGE, Int.reduceBNe, newsV_s, IntKind.bits, eV]
    refine ok_some (.inr ⟨by simp, rfl, rfl, rfl, m, i, hm, ⟨?_, ?_, ?_, ?_⟩⟩)
    all_goals simp (disch := omega) only [kp.l, kp.t0, kp.t1, kp.t5, Nat.reduceAdd, Int.cast_ofNat_Int, Nat.reduceBEq, Nat.reduceLT, decide_true, ev2, ev5]
  have ho : u64R (orI (m / 2) (m % 2)) := or_u hm
  simp (disch := omega) only [J47, hB, hR, hI, kp.l, kp.t0, kp.t1, kp.t5, c1, c2, a1, a2, orI_eq, all1, ress, res1, retV, Value.cells, reduceIte, reduceCtorEq, Int.reduceLT, Int.reduceLE, Int.reduceToNat, Int.reduceAdd, Int.reduceSub, Int.reduceMul, Int.reduceNeg, Nat.reduceMul, Nat.reduceAdd, Nat.reduceSub, Nat.reduceBEq, Nat.reduceEqDiff, Nat.reduceLT, Nat.reduceLeDiff, Int.reduceBEq, Int.reduceEq, Nat.reducePow, Int.reducePow, Int.reduceGT, Int.reduceGE, Int.reduceBNe, newsV_s, IntKind.bits, eV]
  refine ok_some (.inl ⟨rfl, 3000 - (i + 1), by omega, _, orI (m / 2) (m % 2), i + 1, rfl, ⟨?_, ?_, ?_, ?_⟩, ho, by omega, rfl⟩)
  all_goals simp (disch := omega) only [kp.l, kp.t0, kp.t1, kp.t5, hc1, wrap_id ho, Nat.reduceAdd, Int.cast_ofNat_Int, Nat.reduceBEq, Nat.reduceLT, decide_true, ev2, ev5]
  all_goals rfl
theorem J48 : Said (an @TrSh.eq_1 <| an @LrSh.eq_1 <| trivial) := said_ok _
theorem xshifted {B : OH} {H : HL} {N : St} {m b : Int} (hm : u64R m) (hb : b ≤ 3000) (hN : good B H N) : ∃ r, u64R r ∧ VrSh B [.int .u64 m, .int .i64 b] H N = some (.ret (.int .u64 r), H, N) := by
  obtain ⟨hB, hR, hI⟩ := gX hN
  unfold VrSh
  simp (disch := omega) only [J48, hB, hR, hI, all1, ress, res1, retV, Value.cells, newsV_s, seval, eV]
  generalize hX : exec B _ _ (LC.loop _) _ = o
  obtain ⟨x, ⟨ts, H1, N1⟩, rfl, rfl, rfl, rfl, m', i, hm', kp⟩ := (show Ok o _ by rw [← hX]; exact loopSh hm hb hN ⟨rfl, rfl, rfl, rfl⟩ (by omega))
  simp only at kp
  by_cases c1 : b > 0
  · by_cases c2 : m' = 1
    · subst c2
      simp (disch := omega) only [J48, hB, hR, hI, kp.l, kp.t0, kp.t1, kp.t5, c1, all1, ress, res1, retV, Value.cells, newsV_s, seval, eV]
      exact ⟨1, by unfold u64R; omega, rfl⟩
    · have c2' := beqI c2
      simp (disch := omega) only [J48, hB, hR, hI, kp.l, kp.t0, kp.t1, kp.t5, c1, c2', all1, ress, res1, retV, Value.cells, newsV_s, seval, eV]
      exact ⟨m', hm', rfl⟩
  · simp (disch := omega) only [J48, hB, hR, hI, kp.l, kp.t0, kp.t1, kp.t5, c1, all1, ress, res1, retV, Value.cells, newsV_s, seval, eV]
    exact ⟨m', hm', rfl⟩
def lbMa : LC := (.seq (.seq (.ops [om 11 2,oa 12 (.bin .geq (ot 11) (ou 72057594037927936))])
 (.cond (ot 12) .skip
 (.exit 0)))
 (.block 1 (.seq (.ops [om 13 2,oa 14 (.bin .quo (ot 13) (ou 2)),om 15 2,oa 16 (.bin .rem (ot 15) (ou 2)),oa 17 (.bin .or (ot 14) (ot 16)),om 2 17])
 (.ops [om 18 1,oa 19 (.bin .add (ot 18) (oi 1)),om 1 19]))))
def lbMb : LC := (.seq (.seq (.ops [om 20 2,oa 21 (.bin .lss (ot 20) (ou 36028797018963968)),om 22 21,ob 23 (.mv (ot 1)) 22 true,ob 24 (.bin .gtr (ot 23) (oi 1)) 22 true,oa 25 (.pick (ot 22) (ot 24) (.const (.bool false)))])
 (.cond (ot 25) .skip
 (.exit 2)))
 (.block 3 (.seq (.ops [om 26 2,oa 27 (.bin .mul (ot 26) (ou 2)),om 2 27])
 (.ops [om 28 1,oa 29 (.bin .sub (ot 28) (oi 1)),om 1 29]))))
def LrMd : FnL := ⟨(.seq (.ops [oa 6 (.mv (ou 0))])
 (.seq (.seq (.ops [om 9 2,oa 10 (.bin .eql (ot 9) (ou 0))])
 (.cond (ot 10) (.seq (.ops [oa 6 (.mv (ou 0))])
 .ret)
 .skip))
 (.seq (.block 0 (.loop lbMa))
 (.seq (.block 2 (.loop lbMb))
 (.seq (.ops [om 30 2,oa 31 (.bin .rem (ot 30) (ou 8)),om 7 31])
 (.seq (.ops [om 32 2,oa 33 (.bin .quo (ot 32) (ou 8)),om 8 33])
 (.seq (.seq (.ops [om 34 7,oa 35 (.bin .gtr (ot 34) (ou 4)),om 36 35,ob 37 (.mv (ot 7)) 36 false,ob 38 (.bin .eql (ot 37) (ou 4)) 36 false,ob 39 (.mv (ot 38)) 36 false,ob 40 (.mv (ot 8)) 39 true,ob 41 (.bin .rem (ot 40) (ou 2)) 39 true,ob 42 (.bin .eql (ot 41) (ou 1)) 39 true,ob 43 (.pick (ot 39) (ot 42) (.const (.bool false))) 36 false,oa 44 (.pick (ot 36) (.const (.bool true)) (ot 43))])
 (.cond (ot 44) (.ops [om 45 8,oa 46 (.bin .add (ot 45) (ou 1)),om 8 46])
 .skip))
 (.seq (.seq (.ops [om 47 8,oa 48 (.bin .eql (ot 47) (ou 9007199254740992))])
 (.cond (ot 48) (.seq (.ops [om 49 8,oa 50 (.bin .quo (ot 49) (ou 2)),om 8 50])
 (.ops [om 51 1,oa 52 (.bin .add (ot 51) (oi 1)),om 1 52]))
 .skip))
 (.seq (.seq (.ops [om 53 1,oa 54 (.bin .geq (ot 53) (oi 2047))])
 (.cond (ot 54) (.seq (.ops [om 55 0,oa 56 (.bin .shl (ot 55) (ou 63)),oa 57 (.bin .add (ot 56) (ou 9218868437227405312)),om 6 57])
 .ret)
 .skip))
 (.seq (.seq (.ops [om 58 8,oa 59 (.bin .lss (ot 58) (ou 4503599627370496))])
 (.cond (ot 59) (.seq (.ops [om 60 0,oa 61 (.bin .shl (ot 60) (ou 63)),om 62 8,oa 63 (.bin .add (ot 61) (ot 62)),om 6 63])
 .ret)
 .skip))
 (.seq (.ops [om 64 0,oa 65 (.bin .shl (ot 64) (ou 63)),om 66 1,oa 67 (.conv .u64 (ot 66)),oa 68 (.bin .shl (ot 67) (ou 52)),oa 69 (.bin .add (ot 65) (ot 68)),om 70 8,oa 71 (.bin .rem (ot 70) (ou 4503599627370496)),oa 72 (.bin .add (ot 69) (ot 71)),om 6 72])
 .ret))))))))))),
 73, [.tmp 6]⟩
theorem lowrMd : lowerFn Tryd.prog Tryd.f115 = some LrMd := by kernel_rfl
noncomputable def GrMd (B : OH) : Nat → Cs
  | _ => fun _ _ _ => none
theorem sGrMd {w0 : World} {B : OH} : SoundG Tryd.prog w0 B { f := GrMd B } := .of fun k => by
  unfold GrMd
  split
  · exact .inl fun _ _ _ => rfl
theorem enrMd : Enter Tryd.prog 115 := .of Tryd.func115 (by kernel_rfl) (by kernel_rfl)
noncomputable def TrMd (B : OH) : Cs := callF B { f := GrMd B } 1000000 LrMd
theorem sTrMd {w0 : World} {B : OH} : SoundC Tryd.prog w0 B 115 (TrMd B) := callF_sound mixedOrders sGrMd 1000000 Tryd.func115 lowrMd
noncomputable def VrMd (B : OH) : Cs := TrMd B
theorem sVrMd {w0 : World} {B : OH} : SoundC Tryd.prog w0 B 115 (VrMd B) := sTrMd
structure KMd (g e s : Int) (ts : List Value) : Prop where
  l : ts.length = 73
  t0 : gt ts 0 = .int .u64 g
  t1 : gt ts 1 = .int .i64 e
  t2 : gt ts 2 = .int .u64 s
theorem J49 : Said (an @TrMd.eq_1 <| an @LrMd.eq_1 <| an @lbMa.eq_1 <| trivial) := said_ok _
theorem loopMa {B : OH} {H : HL} {N : St} {g e s : Int} (hs : u64R s) (he : 1 ≤ e ∧ e ≤ 2047) (hN : good B H N) {ts : List Value} (kp : KMd g e s ts) {F : Nat} (hF : 4000 ≤ F) :
    Ok (exec B { f := GrMd B } F (LC.loop lbMa) ⟨ts, H, N⟩) (fun x st => x = .exit 0 ∧ st.H = H ∧ st.N = N ∧ ∃ e s, 0 ≤ s ∧ s < 72057594037927936 ∧ 1 ≤ e ∧ e ≤ 2055 ∧ KMd g e s st.t) := by
  obtain ⟨hB, hR, hI⟩ := gX hN
  have h64 : s < 2 ^ (56 + 8) := by
    have : (2 : Int) ^ (56 + 8) = 18446744073709551616 := by decide
    unfold u64R at hs; omega
  refine loop_rule (n0 := 100) (fun q st => ∃ ts e s, st = ⟨ts, H, N⟩ ∧ KMd g e s ts ∧ 0 ≤ s ∧ s < 2 ^ (56 + q) ∧ 1 ≤ e ∧ e + q ≤ 2055 ∧ q ≤ 8) _ ?_ 8 _ ⟨ts, e, s, rfl, kp, hs.1, h64, by omega, by omega, by omega⟩ _ (by omega)
  clear kp hF F ts hs he h64 e s
  rintro z q st ⟨ts, e, s, rfl, kp, h0, hs, he, he2, hq⟩
  have hu : u64R s := pw56 h0 hs hq
  obtain ⟨a1, a2⟩ := half_u hu
  by_cases c1 : s ≥ 72057594037927936
  case neg =>
    simp (disch := omega) only [J49, hB, hR, hI, kp.l, kp.t0, kp.t1, kp.t2, c1, all1, ress, res1, retV, Value.cells, reduceIte, reduceCtorEq, Int.reduceLT, Int.reduceLE, Int.reduceToNat, Int.reduceAdd, Int.reduceSub, Int.reduceMul, Int.reduceNeg, Nat.reduceMul, Nat.reduceAdd, Nat.reduceSub, Nat.reduceBEq, Nat.reduceEqDiff, Nat.reduceLT, Nat.reduceLeDiff, Int.reduceBEq, Int.reduceEq, Nat.reducePow, Int.reducePow, Int.reduceGT, Int.reduceGE, Int.reduceBNe, newsV_s, IntKind.bits, eV]
    refine ok_some (.inr ⟨by simp, rfl, rfl, rfl, e, s, h0, by omega, he, by omega, ⟨?_, ?_, ?_, ?_⟩⟩)
    all_goals simp (disch := omega) only [kp.l, kp.t0, kp.t1, kp.t2, Nat.reduceAdd, Int.cast_ofNat_Int, Nat.reduceBEq, Nat.reduceLT, decide_true, ev2, ev5]
  obtain ⟨q, rfl⟩ : ∃ q', q = q' + 1 := ⟨q - 1, by
    have h56 : (2 : Int) ^ (56 + 0) = 72057594037927936 := by decide
    have : q ≠ 0 := fun h => by subst h; omega
    omega⟩
  have ho := orH_lt (s := s) (k := 55 + q) h0 (by rw [show 55 + q + 2 = 56 + (q + 1) by omega]; exact hs) (by omega)
  rw [show 55 + q + 1 = 56 + q by omega] at ho
  have hou : u64R (orI (s / 2) (s % 2)) := pw56 ho.1 ho.2 (by omega)
  have a3 : IntKind.i64.wrap (e + 1) = e + 1 := IntWalk.i64_in _ (by omega)
  simp (disch := omega) only [J49, hB, hR, hI, kp.l, kp.t0, kp.t1, kp.t2, c1, a1, a2, a3, orI_eq, all1, ress, res1, retV, Value.cells, reduceIte, reduceCtorEq, Int.reduceLT, Int.reduceLE, Int.reduceToNat, Int.reduceAdd, Int.reduceSub, Int.reduceMul, Int.reduceNeg, Nat.reduceMul, Nat.reduceAdd, Nat.reduceSub, Nat.reduceBEq, Nat.reduceEqDiff, Nat.reduceLT, Nat.reduceLeDiff, Int.reduceBEq, Int.reduceEq, Nat.reducePow, Int.reducePow, Int.reduceGT, Int.reduceGE, Int.reduceBNe, newsV_s, IntKind.bits, eV]
  refine ok_some (.inl ⟨rfl, q, by omega, _, e + 1, orI (s / 2) (s % 2), rfl, ⟨?_, ?_, ?_, ?_⟩, ho.1, ho.2, by omega, by omega, by omega⟩)
  all_goals simp (disch := omega) only [kp.l, kp.t0, kp.t1, kp.t2, a3, wrap_id hou, Nat.reduceAdd, Int.cast_ofNat_Int, Nat.reduceBEq, Nat.reduceLT, decide_true, ev2, ev5]
  all_goals rfl
theorem J50 : Said (an @TrMd.eq_1 <| an @LrMd.eq_1 <| an @lbMb.eq_1 <| trivial) := said_ok _
theorem loopMb {B : OH} {H : HL} {N : St} {g e s : Int} (h0 : 0 ≤ s) (hs : s < 72057594037927936) (he : 1 ≤ e ∧ e ≤ 2055) (hN : good B H N) {ts : List Value} (kp : KMd g e s ts) {F : Nat} (hF : 4000 ≤ F) :
    Ok (exec B { f := GrMd B } F (LC.loop lbMb) ⟨ts, H, N⟩) (fun x st => x = .exit 2 ∧ st.H = H ∧ st.N = N ∧ ∃ e s, 0 ≤ s ∧ s < 72057594037927936 ∧ 1 ≤ e ∧ e ≤ 2055 ∧ KMd g e s st.t) := by
  obtain ⟨hB, hR, hI⟩ := gX hN
  refine loop_rule (n0 := 100) (fun q st => ∃ ts e s, st = ⟨ts, H, N⟩ ∧ KMd g e s ts ∧ 0 ≤ s ∧ s < 72057594037927936 ∧ 1 ≤ e ∧ e ≤ q ∧ q ≤ 2055) _ ?_ 2055 _ ⟨ts, e, s, rfl, kp, h0, hs, he.1, by omega, by omega⟩ _ (by omega)
  clear kp hF F ts hs he h0 e s
  rintro z q st ⟨ts, e, s, rfl, kp, h0, hs, he, he2, hq⟩
  by_cases c1 : s < 36028797018963968
  case neg =>
    simp (disch := omega) only [J50, hB, hR, hI, kp.l, kp.t0, kp.t1, kp.t2, c1, all1, ress, res1, retV, Value.cells, newsV_s, seval, eV]
    refine ok_some (.inr ⟨by simp, rfl, rfl, rfl, e, s, h0, by omega, he, by omega, ⟨?_, ?_, ?_, ?_⟩⟩)
    all_goals simp (disch := omega) only [kp.l, kp.t0, kp.t1, kp.t2, Int.cast_ofNat_Int, decide_true, ev2, seval, ev5]
  by_cases c2 : e > 1
  case neg =>
    simp (disch := omega) only [J50, hB, hR, hI, kp.l, kp.t0, kp.t1, kp.t2, c1, c2, all1, ress, res1, retV, Value.cells, newsV_s, seval, eV]
    refine ok_some (.inr ⟨by simp, rfl, rfl, rfl, e, s, h0, by omega, he, by omega, ⟨?_, ?_, ?_, ?_⟩⟩)
    all_goals simp (disch := omega) only [kp.l, kp.t0, kp.t1, kp.t2, Int.cast_ofNat_Int, decide_true, ev2, seval, ev5]
  have a1 : IntKind.u64.wrap (s * 2) = s * 2 := IntWalk.u64_in _ (by omega)
  have a3 : IntKind.i64.wrap (e - 1) = e - 1 := IntWalk.i64_in _ (by omega)
  simp (disch := omega) only [J50, hB, hR, hI, kp.l, kp.t0, kp.t1, kp.t2, c1, c2, a1, a3, all1, ress, res1, retV, Value.cells, newsV_s, seval, eV]
  refine ok_some (.inl ⟨rfl, q - 1, by omega, _, e - 1, s * 2, rfl, ⟨?_, ?_, ?_, ?_⟩, by omega, by omega, by omega, by omega, by omega⟩)
  all_goals simp (disch := omega) only [kp.l, kp.t0, kp.t1, kp.t2, a1, a3, Int.cast_ofNat_Int, decide_true, ev2, seval, ev5]
theorem J51 : Said (an @TrMd.eq_1 <| an @LrMd.eq_1 <| trivial) := said_ok _
set_option maxHeartbeats 4000000 in
theorem xmade {B : OH} {H : HL} {N : St} {g e s : Int} (hs : u64R s) (he : 1 ≤ e ∧ e ≤ 2047) (hN : good B H N) : ∃ r, u64R r ∧ VrMd B [.int .u64 g, .int .i64 e, .int .u64 s] H N = some (.ret (.int .u64 r), H, N) := by
  obtain ⟨hB, hR, hI⟩ := gX hN
  unfold VrMd
  by_cases c0 : s = 0
  · subst c0
    simp (disch := omega) only [J51, hB, hR, hI, all1, ress, res1, retV, Value.cells, newsV_s, seval, eV]
    exact ⟨0, by unfold u64R; omega, rfl⟩
  have c0' := beqI c0
  simp (disch := omega) only [J51, hB, hR, hI, c0', all1, ress, res1, retV, Value.cells, newsV_s, seval, eV]
  generalize hX : exec B _ _ (LC.loop _) _ = o
  obtain ⟨x, ⟨ts, H1, N1⟩, rfl, rfl, rfl, rfl, e1, s1, h1, h2, h3, h4, kp⟩ := (show Ok o _ by rw [← hX]; exact loopMa hs he hN ⟨rfl, rfl, rfl, rfl⟩ (by omega))
  simp only at kp
  clear hX
  simp (disch := omega) only [J51, hB, hR, hI, kp.l, kp.t0, kp.t1, kp.t2, all1, ress, res1, retV, Value.cells, newsV_s, seval, eV]
  generalize hX : exec B _ _ (LC.loop _) _ = o
  obtain ⟨x, ⟨ts, H1, N1⟩, rfl, rfl, rfl, rfl, e2, s2, g1, g2, g3, g4, kp⟩ := (show Ok o _ by rw [← hX]; exact loopMb h1 h2 ⟨h3, h4⟩ hN kp (by omega))
  simp only at kp
  clear hX
  have b1 : IntKind.u64.wrap (s2.tdiv 8) = s2 / 8 := by rw [Int.tdiv_eq_ediv_of_nonneg g1]; exact IntWalk.u64_in _ (by omega)
  have b2 : s2.tmod 8 = s2 % 8 := Int.tmod_eq_emod_of_nonneg g1
  by_cases c1 : s2 % 8 > 4
  · simp (disch := omega) only [J51, hB, hR, hI, kp.l, kp.t0, kp.t1, kp.t2, b1, b2, c1, all1, ress, res1, retV, Value.cells, newsV_s, seval, eV]
    all_goals try split
    all_goals try (
      simp (disch := omega) only [J51, hB, hR, hI, kp.l, kp.t0, kp.t1, kp.t2, b1, b2, all1, ress, res1, retV, Value.cells, newsV_s, seval, eV])
    all_goals try split
    all_goals try (
      simp (disch := omega) only [J51, hB, hR, hI, kp.l, kp.t0, kp.t1, kp.t2, b1, b2, all1, ress, res1, retV, Value.cells, newsV_s, seval, eV])
    all_goals try split
    all_goals try (
      simp (disch := omega) only [J51, hB, hR, hI, kp.l, kp.t0, kp.t1, kp.t2, b1, b2, all1, ress, res1, retV, Value.cells, newsV_s, seval, eV])
    all_goals refine ⟨_, ?_, rfl⟩
    all_goals first | exact wrap_u _ | (unfold u64R; omega)
  by_cases c2 : s2 % 8 = 4
  · rw [c2] at b2
    simp (disch := omega) only [J51, hB, hR, hI, kp.l, kp.t0, kp.t1, kp.t2, b1, b2, all1, ress, res1, retV, Value.cells, newsV_s, seval, eV]
    all_goals try split
    all_goals try (
      simp (disch := omega) only [J51, hB, hR, hI, kp.l, kp.t0, kp.t1, kp.t2, b1, b2, all1, ress, res1, retV, Value.cells, newsV_s, seval, eV])
    all_goals try split
    all_goals try (
      simp (disch := omega) only [J51, hB, hR, hI, kp.l, kp.t0, kp.t1, kp.t2, b1, b2, all1, ress, res1, retV, Value.cells, newsV_s, seval, eV])
    all_goals try split
    all_goals try (
      simp (disch := omega) only [J51, hB, hR, hI, kp.l, kp.t0, kp.t1, kp.t2, b1, b2, all1, ress, res1, retV, Value.cells, newsV_s, seval, eV])
    all_goals try split
    all_goals try (
      simp (disch := omega) only [J51, hB, hR, hI, kp.l, kp.t0, kp.t1, kp.t2, b1, b2, all1, ress, res1, retV, Value.cells, newsV_s, seval, eV])
    all_goals refine ⟨_, ?_, rfl⟩
    all_goals first | exact wrap_u _ | (unfold u64R; omega)
  · have c2' := beqI c2
    simp (disch := omega) only [J51, hB, hR, hI, kp.l, kp.t0, kp.t1, kp.t2, b1, b2, c1, c2', all1, ress, res1, retV, Value.cells, newsV_s, seval, eV]
    all_goals try split
    all_goals try (
      simp (disch := omega) only [J51, hB, hR, hI, kp.l, kp.t0, kp.t1, kp.t2, b1, b2, all1, ress, res1, retV, Value.cells, newsV_s, seval, eV])
    all_goals try split
    all_goals try (
      simp (disch := omega) only [J51, hB, hR, hI, kp.l, kp.t0, kp.t1, kp.t2, b1, b2, all1, ress, res1, retV, Value.cells, newsV_s, seval, eV])
    all_goals try split
    all_goals try (
      simp (disch := omega) only [J51, hB, hR, hI, kp.l, kp.t0, kp.t1, kp.t2, b1, b2, all1, ress, res1, retV, Value.cells, newsV_s, seval, eV])
    all_goals refine ⟨_, ?_, rfl⟩
    all_goals first | exact wrap_u _ | (unfold u64R; omega)
def Lref01Sum : FnL := ⟨(.seq (.ops [oa 4 (.mv (ou 0))])
 (.seq (.ops [om 11 0,oa 12 (.call (.func 79) [(ot 11)]),om 5 12])
 (.seq (.ops [om 13 1,oa 14 (.call (.func 79) [(ot 13)]),om 6 14])
 (.seq (.block 0 (.seq (.ops [om 16 5,oa 17 (.call (.func 94) [(ot 16)]),oa 18 (.bin .eql (ot 17) (oi 3)),om 19 18,ob 20 (.mv (ot 6)) 19 false,ob 21 (.call (.func 94) [(ot 20)]) 19 false,ob 22 (.bin .eql (ot 21) (oi 3)) 19 false,oa 23 (.pick (ot 19) (.const (.bool true)) (ot 22)),om 15 23])
 (.cond (ot 15) (.seq (.ops [oa 4 (.mv (ou 9221120237041090561))])
 .ret)
 (.seq (.ops [om 25 5,oa 26 (.call (.func 94) [(ot 25)]),oa 27 (.bin .eql (ot 26) (oi 2)),om 28 27,ob 29 (.mv (ot 6)) 28 true,ob 30 (.call (.func 94) [(ot 29)]) 28 true,ob 31 (.bin .eql (ot 30) (oi 2)) 28 true,oa 32 (.pick (ot 28) (ot 31) (.const (.bool false))),om 33 32,ob 34 (.mv (ot 5)) 33 true,ob 35 (.mv (ot 6)) 33 true,ob 36 (.bin .neq (ot 34) (ot 35)) 33 true,oa 37 (.pick (ot 33) (ot 36) (.const (.bool false))),om 24 37])
 (.cond (ot 24) (.seq (.ops [oa 4 (.mv (ou 9221120237041090561))])
 .ret)
 (.seq (.ops [om 39 5,oa 40 (.call (.func 94) [(ot 39)]),oa 41 (.bin .eql (ot 40) (oi 2)),om 38 41])
 (.cond (ot 38) (.seq (.ops [om 42 5,om 4 42])
 .ret)
 (.seq (.ops [om 44 6,oa 45 (.call (.func 94) [(ot 44)]),oa 46 (.bin .eql (ot 45) (oi 2)),om 43 46])
 (.cond (ot 43) (.seq (.ops [om 47 6,om 4 47])
 .ret)
 .skip)))))))))
 (.seq (.seq (.ops [om 48 5,om 49 6,oa 50 (.call (.func 112) [(ot 48), (ot 49)])])
 (.cond (ot 50) (.ops [om 51 6,om 52 5,om 5 51,om 6 52])
 .skip))
 (.seq (.ops [om 54 5,oa 55 (.call (.func 113) [(ot 54)]),om 53 55,oa 56 (.ext (ot 53) 0),oa 57 (.ext (ot 53) 1),om 7 56,om 8 57])
 (.seq (.ops [om 59 6,oa 60 (.call (.func 113) [(ot 59)]),om 58 60,oa 61 (.ext (ot 58) 0),oa 62 (.ext (ot 58) 1),om 9 61,om 10 62])
 (.seq (.ops [om 63 10,om 64 7,om 65 9,oa 66 (.bin .sub (ot 64) (ot 65)),oa 67 (.call (.func 114) [(ot 63), (ot 66)]),om 10 67])
 (.seq (.seq (.ops [om 68 5,oa 69 (.bin .shr (ot 68) (ou 63)),om 70 6,oa 71 (.bin .shr (ot 70) (ou 63)),oa 72 (.bin .eql (ot 69) (ot 71))])
 (.cond (ot 72) (.seq (.ops [om 73 5,oa 74 (.bin .shr (ot 73) (ou 63)),om 75 7,om 76 8,om 77 10,oa 78 (.bin .add (ot 76) (ot 77)),oa 79 (.call (.func 115) [(ot 74), (ot 75), (ot 78)]),oa 80 (.call (.func 79) [(ot 79)]),om 4 80])
 .ret)
 .skip))
 (.seq (.ops [om 81 5,oa 82 (.bin .shr (ot 81) (ou 63)),om 83 7,om 84 8,om 85 10,oa 86 (.bin .sub (ot 84) (ot 85)),oa 87 (.call (.func 115) [(ot 82), (ot 83), (ot 86)]),oa 88 (.call (.func 79) [(ot 87)]),om 4 88])
 .ret)))))))))),
 89, [.tmp 4]⟩
theorem lowref01Sum : lowerFn Tryd.prog Tryd.f102 = some Lref01Sum := by kernel_rfl
noncomputable def Gref01Sum (B : OH) : Nat → Cs
  | 79 => Vref01Canon B
  | 94 => Vref01Kind B
  | 112 => Vref01less B
  | 115 => VrMd B
  | 114 => VrSh B
  | 113 => Vref01whole B
  | _ => fun _ _ _ => none
theorem Gref01Sum_ref01Canon {B : OH} : Gref01Sum B 79 = Vref01Canon B := rfl
theorem Gref01Sum_ref01Kind {B : OH} : Gref01Sum B 94 = Vref01Kind B := rfl
theorem Gref01Sum_ref01less {B : OH} : Gref01Sum B 112 = Vref01less B := rfl
theorem Gref01Sum_rMd {B : OH} : Gref01Sum B 115 = VrMd B := rfl
theorem Gref01Sum_rSh {B : OH} : Gref01Sum B 114 = VrSh B := rfl
theorem Gref01Sum_ref01whole {B : OH} : Gref01Sum B 113 = Vref01whole B := rfl
theorem sGref01Sum {w0 : World} {B : OH} : SoundG Tryd.prog w0 B { f := Gref01Sum B } := .of fun k => by
  unfold Gref01Sum
  split
  · exact .inr ⟨enref01Canon, sVref01Canon⟩
  · exact .inr ⟨enref01Kind, sVref01Kind⟩
  · exact .inr ⟨enref01less, sVref01less⟩
  · exact .inr ⟨enrMd, sVrMd⟩
  · exact .inr ⟨enrSh, sVrSh⟩
  · exact .inr ⟨enref01whole, sVref01whole⟩
  · exact .inl fun _ _ _ => rfl
theorem enref01Sum : Enter Tryd.prog 102 := .of Tryd.func102 (by kernel_rfl) (by kernel_rfl)
noncomputable def Tref01Sum (B : OH) : Cs := callF B { f := Gref01Sum B } 1000000 Lref01Sum
theorem sTref01Sum {w0 : World} {B : OH} : SoundC Tryd.prog w0 B 102 (Tref01Sum B) := callF_sound mixedOrders sGref01Sum 1000000 Tryd.func102 lowref01Sum
noncomputable def Vref01Sum (B : OH) : Cs := Tref01Sum B
theorem sVref01Sum {w0 : World} {B : OH} : SoundC Tryd.prog w0 B 102 (Vref01Sum B) := sTref01Sum
theorem J52 : Said (an @Tref01Sum.eq_1 <| an @Lref01Sum.eq_1 <| an @Gref01Sum_ref01Canon <| an @Vref01Canon_eq <| an @Gref01Sum_ref01Kind <| an @Vref01Kind_eq <| an @Gref01Sum_ref01less <| an @Vref01less_eq <| an @Gref01Sum_rMd <| an @Gref01Sum_rSh <| an @Gref01Sum_ref01whole <| an @Vref01whole_eq <| trivial) := said_ok _
set_option maxHeartbeats 4000000 in
theorem xSum {B : OH} {H : HL} {N : St} {a b : Int} (ha : u64R a) (hb : u64R b) (hN : good B H N) : ∃ r, u64R r ∧ cnI r = r ∧ Vref01Sum B [.int .u64 a, .int .u64 b] H N = some (.ret (.int .u64 r), H, N) := by
  obtain ⟨hB, hR, hI⟩ := gX hN
  have hG : ∃ H N, good B H N := ⟨H, N, hN⟩
  have ca := xCanon hG ha
  have cb := xCanon hG hb
  have ua := cn_u ha
  have ub := cn_u hb
  have ia := cn_id a
  have ib := cn_id b
  generalize cnI a = x at *
  generalize cnI b = y at *
  have kx := xKind hG ua
  have ky := xKind hG ub
  have wx := xwhole hG ua
  have wy := xwhole hG ub
  have lxy := xless hG ua ub
  have bx := wh_b x
  have by' := wh_b y
  unfold Vref01Sum
  have un : u64R 9221120237041090561 := by unfold u64R; omega
  by_cases k1 : kdI x = 3
  · rw [k1] at kx
    simp (disch := omega) only [J52, hB, hR, hI, ca, cb, kx, all1, ress, res1, retV, Value.cells, newsV_s, seval, eV]
    exact ⟨_, un, cn_n, rfl⟩
  have n1 := beqI k1
  by_cases k2 : kdI y = 3
  · rw [k2] at ky
    simp (disch := omega) only [J52, hB, hR, hI, ca, cb, kx, ky, n1, all1, ress, res1, retV, Value.cells, newsV_s, seval, eV]
    exact ⟨_, un, cn_n, rfl⟩
  have n2 := beqI k2
  by_cases k3 : kdI x = 2
  · rw [k3] at kx
    by_cases k4 : kdI y = 2
    · rw [k4] at ky
      by_cases k5 : x = y
      · subst k5
        simp (disch := omega) only [J52, hB, hR, hI, ca, cb, kx, ky, bne_self_eq_false, all1, ress, res1, retV, Value.cells, newsV_s, seval, eV]
        exact ⟨_, ua, ia, rfl⟩
      · have n5 : (x != y) = true := by simpa using k5
        simp (disch := omega) only [J52, hB, hR, hI, ca, cb, kx, ky, n5, all1, ress, res1, retV, Value.cells, newsV_s, seval, eV]
        exact ⟨_, un, cn_n, rfl⟩
    · have n4 := beqI k4
      simp (disch := omega) only [J52, hB, hR, hI, ca, cb, kx, ky, n2, n4, all1, ress, res1, retV, Value.cells, newsV_s, seval, eV]
      exact ⟨_, ua, ia, rfl⟩
  have n3 := beqI k3
  by_cases k4 : kdI y = 2
  · rw [k4] at ky
    simp (disch := omega) only [J52, hB, hR, hI, ca, cb, kx, ky, n1, n3, all1, ress, res1, retV, Value.cells, newsV_s, seval, eV]
    exact ⟨_, ub, ib, rfl⟩
  have n4 := beqI k4
  by_cases c1 : x % 9223372036854775808 < y % 9223372036854775808
  · obtain ⟨r1, u1, s1⟩ := xshifted (m := whM x) (b := whE y - whE x) bx.2.2 (by omega) hN
    obtain ⟨r2, u2, s2⟩ := xmade (g := y / 9223372036854775808) (e := whE y) (s := IntKind.u64.wrap (whM y + r1)) (wrap_u _) ⟨by'.1, by'.2.1⟩ hN
    obtain ⟨r3, u3, s3⟩ := xmade (g := y / 9223372036854775808) (e := whE y) (s := IntKind.u64.wrap (whM y - r1)) (wrap_u _) ⟨by'.1, by'.2.1⟩ hN
    have w1 : IntKind.i64.wrap (whE y - whE x) = whE y - whE x := IntWalk.i64_in _ (by omega)
    have c2 := xCanon hG u2
    have c3 := xCanon hG u3
    by_cases c4 : y / 9223372036854775808 = x / 9223372036854775808
    · have c4' : (y / 9223372036854775808 == x / 9223372036854775808) = true := by simpa using c4
      simp (disch := omega) only [J52, hB, hR, hI, ca, cb, kx, ky, wx, wy, lxy, c1, s1, s2, s3, w1, c2, c3, n1, n2, n3, n4, fdiv_63, c4', all1, ress, res1, retV, Value.cells, newsV_s, seval, eV]
      exact ⟨_, cn_u u2, cn_id r2, rfl⟩
    · have c4' := beqI c4
      simp (disch := omega) only [J52, hB, hR, hI, ca, cb, kx, ky, wx, wy, lxy, c1, s1, s2, s3, w1, c2, c3, n1, n2, n3, n4, fdiv_63, c4', all1, ress, res1, retV, Value.cells, newsV_s, seval, eV]
      exact ⟨_, cn_u u3, cn_id r3, rfl⟩
  · obtain ⟨r1, u1, s1⟩ := xshifted (m := whM y) (b := whE x - whE y) by'.2.2 (by omega) hN
    obtain ⟨r2, u2, s2⟩ := xmade (g := x / 9223372036854775808) (e := whE x) (s := IntKind.u64.wrap (whM x + r1)) (wrap_u _) ⟨bx.1, bx.2.1⟩ hN
    obtain ⟨r3, u3, s3⟩ := xmade (g := x / 9223372036854775808) (e := whE x) (s := IntKind.u64.wrap (whM x - r1)) (wrap_u _) ⟨bx.1, bx.2.1⟩ hN
    have w1 : IntKind.i64.wrap (whE x - whE y) = whE x - whE y := IntWalk.i64_in _ (by omega)
    have c2 := xCanon hG u2
    have c3 := xCanon hG u3
    by_cases c4 : x / 9223372036854775808 = y / 9223372036854775808
    · have c4' : (x / 9223372036854775808 == y / 9223372036854775808) = true := by simpa using c4
      simp (disch := omega) only [J52, hB, hR, hI, ca, cb, kx, ky, wx, wy, lxy, c1, s1, s2, s3, w1, c2, c3, n1, n2, n3, n4, fdiv_63, c4', all1, ress, res1, retV, Value.cells, newsV_s, seval, eV]
      exact ⟨_, cn_u u2, cn_id r2, rfl⟩
    · have c4' := beqI c4
      simp (disch := omega) only [J52, hB, hR, hI, ca, cb, kx, ky, wx, wy, lxy, c1, s1, s2, s3, w1, c2, c3, n1, n2, n3, n4, fdiv_63, c4', all1, ress, res1, retV, Value.cells, newsV_s, seval, eV]
      exact ⟨_, cn_u u3, cn_id r3, rfl⟩
end Go.Proofs.YtfhiplfagejfoaaDoor
namespace Go.Proofs.YtfhiplfagejfoaaDoor
open Go.Proofs.YtfhiplfagejfoaaDoor.K Go.ChangeShapes Go.WideShapes Go.ChangeAt Go.RowKit 
set_option maxRecDepth 100000
set_option linter.unusedSimpArgs false
set_option linter.unusedVariables false
def Lref09keyed : FnL := ⟨(.seq (.ops [oa 1 (.box (ot 0)),oa 2 (.mv (.const (.bool false)))])
 (.seq (.ops [og 3 0 1,ol 4 3,oa 5 (.bin .eql (ot 4) (oi 2)),om 6 5,ob 7 (.faddr 0 (ot 1)) 6 false,ob 8 (.load false 1 (ot 7)) 6 false,ob 9 (.bin .eql (ot 8) (oi 3)) 6 false,oa 10 (.pick (ot 6) (.const (.bool true)) (ot 9)),om 11 10,ob 12 (.faddr 0 (ot 1)) 11 false,ob 13 (.load false 1 (ot 12)) 11 false,ob 14 (.bin .eql (ot 13) (oi 4)) 11 false,oa 15 (.pick (ot 11) (.const (.bool true)) (ot 14)),om 2 15])
 .ret)),
 16, [.tmp 2]⟩
theorem lowref09keyed : lowerFn Tryd.prog Tryd.f78 = some Lref09keyed := by kernel_rfl
noncomputable def Gref09keyed (B : OH) : Nat → Cs
  | _ => fun _ _ _ => none
theorem sGref09keyed {w0 : World} {B : OH} : SoundG Tryd.prog w0 B { f := Gref09keyed B } := .of fun k => by
  unfold Gref09keyed
  split
  · exact .inl fun _ _ _ => rfl
theorem enref09keyed : Enter Tryd.prog 78 := .of Tryd.func78 (by kernel_rfl) (by kernel_rfl)
noncomputable def Tref09keyed (B : OH) : Cs := callF B { f := Gref09keyed B } 1000000 Lref09keyed
theorem sTref09keyed {w0 : World} {B : OH} : SoundC Tryd.prog w0 B 78 (Tref09keyed B) := callF_sound mixedOrders sGref09keyed 1000000 Tryd.func78 lowref09keyed
noncomputable def Fref09keyed (B : OH) : List Value → Option Value := kval B (Tref09keyed B)
noncomputable def Vref09keyed (B : OH) : Cs := fun a H N => pvE (Fref09keyed B a) H N
theorem Vref09keyed_eq {B : OH} {a : List Value} {H : HL} {N : St} : Vref09keyed B a H N = pvE (Fref09keyed B a) H N := rfl
theorem sVref09keyed {w0 : World} {B : OH} : SoundC Tryd.prog w0 B 78 (Vref09keyed B) := sTref09keyed.ofVal
theorem J53 : Said (an @Tref09keyed.eq_1 <| an @Lref09keyed.eq_1 <| trivial) := said_ok _
theorem xkeyed {B : OH} (hG : ∃ H N, good B H N) (k p c : Int) : Fref09keyed B [.agg #[.int .i64 k, .int .i64 p, .int .i64 c]] = some (.bool (decide (k = 2 ∨ k = 3 ∨ k = 4))) := by
  refine kval_eq hG fun H N hN => ?_
  obtain ⟨hB, hR, hI⟩ := gX hN
  by_cases c2 : k = 2
  · subst c2
    simp (disch := omega) only [J53, hB, hR, hI, true_or, all1, ress, res1, retV, Value.cells, newsV_s, seval, eV]
    with_reducible refine done2 ?_
    repeat (first | refine ext_new hN ?_ | exact fun _ _ h => h)
  have d2 := beqI c2
  by_cases c3 : k = 3
  · subst c3
    simp (disch := omega) only [J53, hB, hR, hI, d2, true_or, or_true, all1, ress, res1, retV, Value.cells, newsV_s, seval, eV]
    with_reducible refine done2 ?_
    repeat (first | refine ext_new hN ?_ | exact fun _ _ h => h)
  have d3 := beqI c3
  by_cases c4 : k = 4
  · subst c4
    simp (disch := omega) only [J53, hB, hR, hI, d2, d3, true_or, or_true, all1, ress, res1, retV, Value.cells, newsV_s, seval, eV]
    with_reducible refine done2 ?_
    repeat (first | refine ext_new hN ?_ | exact fun _ _ h => h)
  have d4 := beqI c4
  rw [decide_eq_false (by omega)]
  simp (disch := omega) only [J53, hB, hR, hI, d2, d3, d4, all1, ress, res1, retV, Value.cells, newsV_s, seval, eV]
  with_reducible refine done2 ?_
  repeat (first | refine ext_new hN ?_ | exact fun _ _ h => h)
def LrVa : FnL := ⟨(.seq (.ops [oa 1 (.box (ot 0)),oa 2 (.mv (.const (.bool false)))])
 (.seq (.ops [og 3 0 1,ol 4 3,oa 5 (.bin .eql (ot 4) (oi 3)),om 6 5,ob 7 (.faddr 0 (ot 1)) 6 false,ob 8 (.load false 1 (ot 7)) 6 false,ob 9 (.bin .eql (ot 8) (oi 4)) 6 false,oa 10 (.pick (ot 6) (.const (.bool true)) (ot 9)),om 2 10])
 .ret)),
 11, [.tmp 2]⟩
theorem lowrVa : lowerFn Tryd.prog Tryd.f95 = some LrVa := by kernel_rfl
noncomputable def GrVa (B : OH) : Nat → Cs
  | _ => fun _ _ _ => none
theorem sGrVa {w0 : World} {B : OH} : SoundG Tryd.prog w0 B { f := GrVa B } := .of fun k => by
  unfold GrVa
  split
  · exact .inl fun _ _ _ => rfl
theorem enrVa : Enter Tryd.prog 95 := .of Tryd.func95 (by kernel_rfl) (by kernel_rfl)
noncomputable def TrVa (B : OH) : Cs := callF B { f := GrVa B } 1000000 LrVa
theorem sTrVa {w0 : World} {B : OH} : SoundC Tryd.prog w0 B 95 (TrVa B) := callF_sound mixedOrders sGrVa 1000000 Tryd.func95 lowrVa
noncomputable def FrVa (B : OH) : List Value → Option Value := kval B (TrVa B)
noncomputable def VrVa (B : OH) : Cs := fun a H N => pvE (FrVa B a) H N
theorem VrVa_eq {B : OH} {a : List Value} {H : HL} {N : St} : VrVa B a H N = pvE (FrVa B a) H N := rfl
theorem sVrVa {w0 : World} {B : OH} : SoundC Tryd.prog w0 B 95 (VrVa B) := sTrVa.ofVal
theorem J54 : Said (an @TrVa.eq_1 <| an @LrVa.eq_1 <| trivial) := said_ok _
theorem xvalued {B : OH} (hG : ∃ H N, good B H N) (k p c : Int) : FrVa B [.agg #[.int .i64 k, .int .i64 p, .int .i64 c]] = some (.bool (decide (k = 3 ∨ k = 4))) := by
  refine kval_eq hG fun H N hN => ?_
  obtain ⟨hB, hR, hI⟩ := gX hN
  by_cases c3 : k = 3
  · subst c3
    simp (disch := omega) only [J54, hB, hR, hI, true_or, or_true, all1, ress, res1, retV, Value.cells, newsV_s, seval, eV]
    with_reducible refine done2 ?_
    repeat (first | refine ext_new hN ?_ | exact fun _ _ h => h)
  have d3 := beqI c3
  by_cases c4 : k = 4
  · subst c4
    simp (disch := omega) only [J54, hB, hR, hI, d3, true_or, or_true, all1, ress, res1, retV, Value.cells, newsV_s, seval, eV]
    with_reducible refine done2 ?_
    repeat (first | refine ext_new hN ?_ | exact fun _ _ h => h)
  have d4 := beqI c4
  rw [decide_eq_false (by omega)]
  simp (disch := omega) only [J54, hB, hR, hI, d3, d4, all1, ress, res1, retV, Value.cells, newsV_s, seval, eV]
  with_reducible refine done2 ?_
  repeat (first | refine ext_new hN ?_ | exact fun _ _ h => h)
def kyI (k x : Int) : Int := if k = 4 then rkI x else x
def Lref09less : FnL := ⟨(.seq (.ops [oa 3 (.box (ot 0)),oa 6 (.mv (.const (.bool false)))])
 (.seq (.seq (.ops [og 7 0 3,ol 8 7,oa 9 (.bin .eql (ot 8) (oi 4))])
 (.cond (ot 9) (.seq (.ops [om 10 1,om 11 2,oa 12 (.call (.func 108) [(ot 10), (ot 11)]),om 6 12])
 .ret)
 .skip))
 (.seq (.ops [om 13 1,om 14 2,oa 15 (.bin .lss (ot 13) (ot 14)),om 6 15])
 .ret))),
 16, [.tmp 6]⟩
theorem lowref09less : lowerFn Tryd.prog Tryd.f97 = some Lref09less := by kernel_rfl
noncomputable def Gref09less (B : OH) : Nat → Cs
  | 108 => Vref01Less B
  | _ => fun _ _ _ => none
theorem Gref09less_ref01Less {B : OH} : Gref09less B 108 = Vref01Less B := rfl
theorem sGref09less {w0 : World} {B : OH} : SoundG Tryd.prog w0 B { f := Gref09less B } := .of fun k => by
  unfold Gref09less
  split
  · exact .inr ⟨enref01Less, sVref01Less⟩
  · exact .inl fun _ _ _ => rfl
theorem enref09less : Enter Tryd.prog 97 := .of Tryd.func97 (by kernel_rfl) (by kernel_rfl)
noncomputable def Tref09less (B : OH) : Cs := callF B { f := Gref09less B } 1000000 Lref09less
theorem sTref09less {w0 : World} {B : OH} : SoundC Tryd.prog w0 B 97 (Tref09less B) := callF_sound mixedOrders sGref09less 1000000 Tryd.func97 lowref09less
noncomputable def Fref09less (B : OH) : List Value → Option Value := kval B (Tref09less B)
noncomputable def Vref09less (B : OH) : Cs := fun a H N => pvE (Fref09less B a) H N
theorem Vref09less_eq {B : OH} {a : List Value} {H : HL} {N : St} : Vref09less B a H N = pvE (Fref09less B a) H N := rfl
theorem sVref09less {w0 : World} {B : OH} : SoundC Tryd.prog w0 B 97 (Vref09less B) := sTref09less.ofVal
theorem J55 : Said (an @Tref09less.eq_1 <| an @Lref09less.eq_1 <| an @Gref09less_ref01Less <| an @Vref01Less_eq <| trivial) := said_ok _
theorem xless9 {B : OH} (hG : ∃ H N, good B H N) (k p c : Int) {a b : Int} (ha : u64R a) (hb : u64R b) : Fref09less B [.agg #[.int .i64 k, .int .i64 p, .int .i64 c], .int .u64 a, .int .u64 b] = some (.bool (decide (kyI k a < kyI k b))) := by
  refine kval_eq hG fun H N hN => ?_
  obtain ⟨hB, hR, hI⟩ := gX hN
  have e := xLess hG ha hb
  unfold kyI
  by_cases c4 : k = 4
  · subst c4
    rw [if_pos rfl, if_pos rfl]
    simp (disch := omega) only [J55, hB, hR, hI, e, all1, ress, res1, retV, Value.cells, newsV_s, seval, eV]
    with_reducible refine done2 ?_
    repeat (first | refine ext_new hN ?_ | exact fun _ _ h => h)
  have d4 := beqI c4
  rw [if_neg c4, if_neg c4]
  simp (disch := omega) only [J55, hB, hR, hI, e, d4, all1, ress, res1, retV, Value.cells, newsV_s, seval, eV]
  with_reducible refine done2 ?_
  repeat (first | refine ext_new hN ?_ | exact fun _ _ h => h)
def mnI (k x : Int) : Int := if k = 4 then cnI x else x
def okK (k x : Int) : Prop := k = 4 ∨ x ≤ 4611686018427387904
instance (k x : Int) : Decidable (okK k x) := by unfold okK; exact inferInstance
def Lref09meant : FnL := ⟨(.seq (.ops [oa 2 (.box (ot 0)),oa 4 (.mv (ou 0)),oa 5 (.mv (.const (.bool false)))])
 (.seq (.seq (.ops [og 6 0 2,ol 7 6,oa 8 (.bin .eql (ot 7) (oi 4))])
 (.cond (ot 8) (.seq (.ops [om 9 1,oa 10 (.call (.func 79) [(ot 9)]),om 4 10,oa 5 (.mv (.const (.bool true)))])
 .ret)
 .skip))
 (.seq (.ops [om 11 1,om 12 1,oa 13 (.bin .leq (ot 12) (ou 4611686018427387904)),om 4 11,om 5 13])
 .ret))),
 14, [.tmp 4, .tmp 5]⟩
theorem lowref09meant : lowerFn Tryd.prog Tryd.f96 = some Lref09meant := by kernel_rfl
noncomputable def Gref09meant (B : OH) : Nat → Cs
  | 79 => Vref01Canon B
  | _ => fun _ _ _ => none
theorem Gref09meant_ref01Canon {B : OH} : Gref09meant B 79 = Vref01Canon B := rfl
theorem sGref09meant {w0 : World} {B : OH} : SoundG Tryd.prog w0 B { f := Gref09meant B } := .of fun k => by
  unfold Gref09meant
  split
  · exact .inr ⟨enref01Canon, sVref01Canon⟩
  · exact .inl fun _ _ _ => rfl
theorem enref09meant : Enter Tryd.prog 96 := .of Tryd.func96 (by kernel_rfl) (by kernel_rfl)
noncomputable def Tref09meant (B : OH) : Cs := callF B { f := Gref09meant B } 1000000 Lref09meant
theorem sTref09meant {w0 : World} {B : OH} : SoundC Tryd.prog w0 B 96 (Tref09meant B) := callF_sound mixedOrders sGref09meant 1000000 Tryd.func96 lowref09meant
noncomputable def Fref09meant (B : OH) : List Value → Option Value := kval B (Tref09meant B)
noncomputable def Vref09meant (B : OH) : Cs := fun a H N => pvE (Fref09meant B a) H N
theorem Vref09meant_eq {B : OH} {a : List Value} {H : HL} {N : St} : Vref09meant B a H N = pvE (Fref09meant B a) H N := rfl
theorem sVref09meant {w0 : World} {B : OH} : SoundC Tryd.prog w0 B 96 (Vref09meant B) := sTref09meant.ofVal
theorem J56 : Said (an @Tref09meant.eq_1 <| an @Lref09meant.eq_1 <| an @Gref09meant_ref01Canon <| an @Vref01Canon_eq <| trivial) := said_ok _
theorem xmeant {B : OH} (hG : ∃ H N, good B H N) (k p c : Int) {a : Int} (ha : u64R a) : Fref09meant B [.agg #[.int .i64 k, .int .i64 p, .int .i64 c], .int .u64 a] = some (.tuple #[.int .u64 (mnI k a), .bool (decide (okK k a))]) := by
  refine kval_eq hG fun H N hN => ?_
  obtain ⟨hB, hR, hI⟩ := gX hN
  have e := xCanon hG ha
  unfold mnI
  by_cases c4 : k = 4
  · subst c4
    rw [if_pos rfl, decide_eq_true (show okK 4 a from .inl rfl)]
    simp (disch := omega) only [J56, hB, hR, hI, e, all1, ress, res1, retV, Value.cells, newsV_s, seval, eV]
    with_reducible refine done2 ?_
    repeat (first | refine ext_new hN ?_ | exact fun _ _ h => h)
  have d4 := beqI c4
  rw [if_neg c4]
  by_cases c5 : a ≤ 4611686018427387904
  · rw [decide_eq_true (show okK k a from .inr c5)]
    simp (disch := omega) only [J56, hB, hR, hI, d4, c5, all1, ress, res1, retV, Value.cells, newsV_s, seval, eV]
    with_reducible refine done2 ?_
    repeat (first | refine ext_new hN ?_ | exact fun _ _ h => h)
  · rw [decide_eq_false (show ¬ okK k a from fun h => h.elim c4 c5)]
    simp (disch := omega) only [J56, hB, hR, hI, d4, c5, all1, ress, res1, retV, Value.cells, newsV_s, seval, eV]
    with_reducible refine done2 ?_
    repeat (first | refine ext_new hN ?_ | exact fun _ _ h => h)
def LrTe : FnL := ⟨(.seq (.ops [oa 2 (.alloc [(.int .i64 0), (.int .u64 0)])])
 (.seq (.ops [om 3 0,oa 4 (.build [(.int .i64 0), (.int .u64 0)] [(1, 1, (ot 3))]), oc (.store 2 (ot 2) (ot 4))])
 .ret)),
 5, [.cell 2 true 2]⟩
theorem lowrTe : lowerFn Tryd.prog Tryd.f100 = some LrTe := by kernel_rfl
noncomputable def GrTe (B : OH) : Nat → Cs
  | _ => fun _ _ _ => none
theorem sGrTe {w0 : World} {B : OH} : SoundG Tryd.prog w0 B { f := GrTe B } := .of fun k => by
  unfold GrTe
  split
  · exact .inl fun _ _ _ => rfl
theorem enrTe : Enter Tryd.prog 100 := .of Tryd.func100 (by kernel_rfl) (by kernel_rfl)
noncomputable def TrTe (B : OH) : Cs := callF B { f := GrTe B } 1000000 LrTe
theorem sTrTe {w0 : World} {B : OH} : SoundC Tryd.prog w0 B 100 (TrTe B) := callF_sound mixedOrders sGrTe 1000000 Tryd.func100 lowrTe
noncomputable def FrTe (B : OH) : List Value → Option Value := kval B (TrTe B)
noncomputable def VrTe (B : OH) : Cs := fun a H N => pvE (FrTe B a) H N
theorem VrTe_eq {B : OH} {a : List Value} {H : HL} {N : St} : VrTe B a H N = pvE (FrTe B a) H N := rfl
theorem sVrTe {w0 : World} {B : OH} : SoundC Tryd.prog w0 B 100 (VrTe B) := sTrTe.ofVal
theorem J57 : Said (an @TrTe.eq_1 <| an @LrTe.eq_1 <| trivial) := said_ok _
theorem xtells {B : OH} (hG : ∃ H N, good B H N) (v : Int) : FrTe B [.int .u64 v] = some (.agg #[.int .i64 0, .int .u64 v]) := by
  refine kval_eq hG fun H N hN => ?_
  obtain ⟨hB, hR, hI⟩ := gX hN
  simp (disch := omega) only [J57, hB, hR, hI, all1, ress, res1, retV, Value.cells, newsV_s, seval, eV]
  with_reducible refine done2 ?_
  repeat (first | refine ext_new hN ?_ | exact fun _ _ h => h)
def LrRf : FnL := ⟨(.seq (.ops [oa 2 (.alloc [(.int .i64 0), (.int .u64 0)])])
 (.seq (.ops [om 3 0,oa 4 (.build [(.int .i64 0), (.int .u64 0)] [(0, 1, (ot 3))]), oc (.store 2 (ot 2) (ot 4))])
 .ret)),
 5, [.cell 2 true 2]⟩
theorem lowrRf : lowerFn Tryd.prog Tryd.f103 = some LrRf := by kernel_rfl
noncomputable def GrRf (B : OH) : Nat → Cs
  | _ => fun _ _ _ => none
theorem sGrRf {w0 : World} {B : OH} : SoundG Tryd.prog w0 B { f := GrRf B } := .of fun k => by
  unfold GrRf
  split
  · exact .inl fun _ _ _ => rfl
theorem enrRf : Enter Tryd.prog 103 := .of Tryd.func103 (by kernel_rfl) (by kernel_rfl)
noncomputable def TrRf (B : OH) : Cs := callF B { f := GrRf B } 1000000 LrRf
theorem sTrRf {w0 : World} {B : OH} : SoundC Tryd.prog w0 B 103 (TrRf B) := callF_sound mixedOrders sGrRf 1000000 Tryd.func103 lowrRf
noncomputable def FrRf (B : OH) : List Value → Option Value := kval B (TrRf B)
noncomputable def VrRf (B : OH) : Cs := fun a H N => pvE (FrRf B a) H N
theorem VrRf_eq {B : OH} {a : List Value} {H : HL} {N : St} : VrRf B a H N = pvE (FrRf B a) H N := rfl
theorem sVrRf {w0 : World} {B : OH} : SoundC Tryd.prog w0 B 103 (VrRf B) := sTrRf.ofVal
theorem J58 : Said (an @TrRf.eq_1 <| an @LrRf.eq_1 <| trivial) := said_ok _
theorem xrefuses {B : OH} (hG : ∃ H N, good B H N) (v : Int) : FrRf B [.int .i64 v] = some (.agg #[.int .i64 v, .int .u64 0]) := by
  refine kval_eq hG fun H N hN => ?_
  obtain ⟨hB, hR, hI⟩ := gX hN
  simp (disch := omega) only [J58, hB, hR, hI, all1, ress, res1, retV, Value.cells, newsV_s, seval, eV]
  with_reducible refine done2 ?_
  repeat (first | refine ext_new hN ?_ | exact fun _ _ h => h)
def biI (b : Bool) : Int := if b then 1 else 0
def Lref09bit : FnL := ⟨(.seq (.ops [oa 2 (.mv (ou 0))])
 (.seq (.seq (.ops [om 3 0])
 (.cond (ot 3) (.seq (.ops [oa 2 (.mv (ou 1))])
 .ret)
 .skip))
 (.seq (.ops [oa 2 (.mv (ou 0))])
 .ret))),
 4, [.tmp 2]⟩
theorem lowref09bit : lowerFn Tryd.prog Tryd.f106 = some Lref09bit := by kernel_rfl
noncomputable def Gref09bit (B : OH) : Nat → Cs
  | _ => fun _ _ _ => none
theorem sGref09bit {w0 : World} {B : OH} : SoundG Tryd.prog w0 B { f := Gref09bit B } := .of fun k => by
  unfold Gref09bit
  split
  · exact .inl fun _ _ _ => rfl
theorem enref09bit : Enter Tryd.prog 106 := .of Tryd.func106 (by kernel_rfl) (by kernel_rfl)
noncomputable def Tref09bit (B : OH) : Cs := callF B { f := Gref09bit B } 1000000 Lref09bit
theorem sTref09bit {w0 : World} {B : OH} : SoundC Tryd.prog w0 B 106 (Tref09bit B) := callF_sound mixedOrders sGref09bit 1000000 Tryd.func106 lowref09bit
noncomputable def Fref09bit (B : OH) : List Value → Option Value := kval B (Tref09bit B)
noncomputable def Vref09bit (B : OH) : Cs := fun a H N => pvE (Fref09bit B a) H N
theorem Vref09bit_eq {B : OH} {a : List Value} {H : HL} {N : St} : Vref09bit B a H N = pvE (Fref09bit B a) H N := rfl
theorem sVref09bit {w0 : World} {B : OH} : SoundC Tryd.prog w0 B 106 (Vref09bit B) := sTref09bit.ofVal
theorem J59 : Said (an @Tref09bit.eq_1 <| an @Lref09bit.eq_1 <| trivial) := said_ok _
theorem xbit {B : OH} (hG : ∃ H N, good B H N) (b : Bool) : Fref09bit B [.bool b] = some (.int .u64 (biI b)) := by
  refine kval_eq hG fun H N hN => ?_
  obtain ⟨hB, hR, hI⟩ := gX hN
  cases b
  · simp (disch := omega) only [J59, hB, hR, hI, biI, all1, ress, res1, retV, Value.cells, newsV_s, seval, eV]
    with_reducible refine done2 ?_
    repeat (first | refine ext_new hN ?_ | exact fun _ _ h => h)
  · simp (disch := omega) only [J59, hB, hR, hI, biI, all1, ress, res1, retV, Value.cells, newsV_s, seval, eV]
    with_reducible refine done2 ?_
    repeat (first | refine ext_new hN ?_ | exact fun _ _ h => h)
def Lref10width : FnL := ⟨(.seq (.ops [oa 1 (.box (ot 0)),oa 2 (.mv (oi 0))])
 (.seq (.seq (.ops [og 3 0 1,ol 4 3,oa 5 (.bin .eql (ot 4) (oi 3))])
 (.cond (ot 5) (.seq (.ops [oa 2 (.mv (oi 2))])
 .ret)
 .skip))
 (.seq (.ops [oa 2 (.mv (oi 1))])
 .ret))),
 6, [.tmp 2]⟩
theorem lowref10width : lowerFn Tryd.prog Tryd.f83 = some Lref10width := by kernel_rfl
noncomputable def Gref10width (B : OH) : Nat → Cs
  | _ => fun _ _ _ => none
theorem sGref10width {w0 : World} {B : OH} : SoundG Tryd.prog w0 B { f := Gref10width B } := .of fun k => by
  unfold Gref10width
  split
  · exact .inl fun _ _ _ => rfl
theorem enref10width : Enter Tryd.prog 83 := .of Tryd.func83 (by kernel_rfl) (by kernel_rfl)
noncomputable def Tref10width (B : OH) : Cs := callF B { f := Gref10width B } 1000000 Lref10width
theorem sTref10width {w0 : World} {B : OH} : SoundC Tryd.prog w0 B 83 (Tref10width B) := callF_sound mixedOrders sGref10width 1000000 Tryd.func83 lowref10width
noncomputable def Fref10width (B : OH) : List Value → Option Value := kval B (Tref10width B)
noncomputable def Vref10width (B : OH) : Cs := fun a H N => pvE (Fref10width B a) H N
theorem Vref10width_eq {B : OH} {a : List Value} {H : HL} {N : St} : Vref10width B a H N = pvE (Fref10width B a) H N := rfl
theorem sVref10width {w0 : World} {B : OH} : SoundC Tryd.prog w0 B 83 (Vref10width B) := sTref10width.ofVal
theorem J60 : Said (an @Tref10width.eq_1 <| an @Lref10width.eq_1 <| trivial) := said_ok _
theorem xwidth {B : OH} (hG : ∃ H N, good B H N) (k p c : Int) : Fref10width B [.agg #[.int .i64 k, .int .i64 p, .int .i64 c]] = some (.int .i64 (if k = 3 then 2 else 1)) := by
  refine kval_eq hG fun H N hN => ?_
  obtain ⟨hB, hR, hI⟩ := gX hN
  by_cases c3 : k = 3
  · subst c3
    simp (disch := omega) only [J60, hB, hR, hI, all1, ress, res1, retV, Value.cells, newsV_s, seval, eV]
    with_reducible refine done2 ?_
    repeat (first | refine ext_new hN ?_ | exact fun _ _ h => h)
  have d3 := beqI c3
  rw [if_neg c3]
  simp (disch := omega) only [J60, hB, hR, hI, d3, all1, ress, res1, retV, Value.cells, newsV_s, seval, eV]
  with_reducible refine done2 ?_
  repeat (first | refine ext_new hN ?_ | exact fun _ _ h => h)
def foI (a : Int) (n : Nat) : Int := ((BitVec.ofInt 64 a ^^^ BitVec.ofInt 64 (a.fdiv (2 ^ min n 64))).toNat : Int)
theorem fo_u (a : Int) (n : Nat) : u64R (foI a n) := by
  unfold foI u64R
  have := (BitVec.ofInt 64 a ^^^ BitVec.ofInt 64 (a.fdiv (2 ^ min n 64))).isLt
  omega
def Lref02folded : FnL := ⟨(.seq (.ops [oa 4 (.mv (ou 0))])
 (.seq (.ops [om 5 0,om 6 0,om 7 1,oa 8 (.bin .shr (ot 6) (ot 7)),oa 9 (.bin .xor (ot 5) (ot 8)),om 4 9])
 .ret)),
 10, [.tmp 4]⟩
theorem lowref02folded : lowerFn Tryd.prog Tryd.f119 = some Lref02folded := by kernel_rfl
noncomputable def Gref02folded (B : OH) : Nat → Cs
  | _ => fun _ _ _ => none
theorem sGref02folded {w0 : World} {B : OH} : SoundG Tryd.prog w0 B { f := Gref02folded B } := .of fun k => by
  unfold Gref02folded
  split
  · exact .inl fun _ _ _ => rfl
theorem enref02folded : Enter Tryd.prog 119 := .of Tryd.func119 (by kernel_rfl) (by kernel_rfl)
noncomputable def Tref02folded (B : OH) : Cs := callF B { f := Gref02folded B } 1000000 Lref02folded
theorem sTref02folded {w0 : World} {B : OH} : SoundC Tryd.prog w0 B 119 (Tref02folded B) := callF_sound mixedOrders sGref02folded 1000000 Tryd.func119 lowref02folded
noncomputable def Fref02folded (B : OH) : List Value → Option Value := kval B (Tref02folded B)
noncomputable def Vref02folded (B : OH) : Cs := fun a H N => pvE (Fref02folded B a) H N
theorem Vref02folded_eq {B : OH} {a : List Value} {H : HL} {N : St} : Vref02folded B a H N = pvE (Fref02folded B a) H N := rfl
theorem sVref02folded {w0 : World} {B : OH} : SoundC Tryd.prog w0 B 119 (Vref02folded B) := sTref02folded.ofVal
theorem J61 : Said (an @Tref02folded.eq_1 <| an @Lref02folded.eq_1 <| trivial) := said_ok _
theorem xfolded {B : OH} (hG : ∃ H N, good B H N) (a : Int) (n : Nat) : Fref02folded B [.int .u64 a, .int .i64 (n : Int)] = some (.int .u64 (foI a n)) := by
  refine kval_eq hG fun H N hN => ?_
  obtain ⟨hB, hR, hI⟩ := gX hN
  have h0 : ¬ (n : Int) < 0 := by omega
  simp (disch := omega) only [J61, hB, hR, hI, h0, all1, ress, res1, retV, Value.cells, reduceIte, reduceCtorEq, Int.reduceLT, Int.reduceLE, Int.reduceToNat, Int.reduceAdd, Int.reduceSub, Int.reduceMul, Int.reduceNeg, Nat.reduceMul, Nat.reduceAdd, Nat.reduceSub, Nat.reduceBEq, Nat.reduceEqDiff, Nat.reduceLT, Nat.reduceLeDiff, Int.reduceBEq, Int.reduceEq, Nat.reducePow, Int.reducePow, Int.reduceGT, Int.reduceGE, Int.reduceBNe, newsV_s, IntKind.bits, eV]
  exact done2 fun _ _ h => h
def miI (a : Int) : Int := foI (IntKind.u64.wrap (foI (IntKind.u64.wrap (foI a 30 * 13787848793156543929)) 27 * 10723151780598845931)) 31
theorem mi_u (a : Int) : u64R (miI a) := fo_u _ _
def Lref02Mix : FnL := ⟨(.seq (.ops [oa 2 (.mv (ou 0))])
 (.seq (.ops [om 3 0,oa 4 (.call (.func 119) [(ot 3), (oi 30)]),oa 5 (.bin .mul (ot 4) (ou 13787848793156543929)),oa 6 (.call (.func 119) [(ot 5), (oi 27)]),oa 7 (.bin .mul (ot 6) (ou 10723151780598845931)),oa 8 (.call (.func 119) [(ot 7), (oi 31)]),om 2 8])
 .ret)),
 9, [.tmp 2]⟩
theorem lowref02Mix : lowerFn Tryd.prog Tryd.f118 = some Lref02Mix := by kernel_rfl
noncomputable def Gref02Mix (B : OH) : Nat → Cs
  | 119 => Vref02folded B
  | _ => fun _ _ _ => none
theorem Gref02Mix_ref02folded {B : OH} : Gref02Mix B 119 = Vref02folded B := rfl
theorem sGref02Mix {w0 : World} {B : OH} : SoundG Tryd.prog w0 B { f := Gref02Mix B } := .of fun k => by
  unfold Gref02Mix
  split
  · exact .inr ⟨enref02folded, sVref02folded⟩
  · exact .inl fun _ _ _ => rfl
theorem enref02Mix : Enter Tryd.prog 118 := .of Tryd.func118 (by kernel_rfl) (by kernel_rfl)
noncomputable def Tref02Mix (B : OH) : Cs := callF B { f := Gref02Mix B } 1000000 Lref02Mix
theorem sTref02Mix {w0 : World} {B : OH} : SoundC Tryd.prog w0 B 118 (Tref02Mix B) := callF_sound mixedOrders sGref02Mix 1000000 Tryd.func118 lowref02Mix
noncomputable def Fref02Mix (B : OH) : List Value → Option Value := kval B (Tref02Mix B)
noncomputable def Vref02Mix (B : OH) : Cs := fun a H N => pvE (Fref02Mix B a) H N
theorem Vref02Mix_eq {B : OH} {a : List Value} {H : HL} {N : St} : Vref02Mix B a H N = pvE (Fref02Mix B a) H N := rfl
theorem sVref02Mix {w0 : World} {B : OH} : SoundC Tryd.prog w0 B 118 (Vref02Mix B) := sTref02Mix.ofVal
theorem J62 : Said (an @Tref02Mix.eq_1 <| an @Lref02Mix.eq_1 <| an @Gref02Mix_ref02folded <| an @Vref02folded_eq <| trivial) := said_ok _
theorem xMix {B : OH} (hG : ∃ H N, good B H N) (a : Int) : Fref02Mix B [.int .u64 a] = some (.int .u64 (miI a)) := by
  refine kval_eq hG fun H N hN => ?_
  obtain ⟨hB, hR, hI⟩ := gX hN
  have e1 := xfolded hG a 30
  have e2 := xfolded hG (IntKind.u64.wrap (foI a 30 * 13787848793156543929)) 27
  have e3 := xfolded hG (IntKind.u64.wrap (foI (IntKind.u64.wrap (foI a 30 * 13787848793156543929)) 27 * 10723151780598845931)) 31
  simp only [Int.cast_ofNat_Int] at e1 e2 e3
  unfold miI
  simp (disch := omega) only [J62, hB, hR, hI, e1, e2, e3, all1, ress, res1, retV, Value.cells, newsV_s, seval, eV]
  with_reducible refine done2 ?_
  repeat (first | refine ext_new hN ?_ | exact fun _ _ h => h)
def Lref02Slot : FnL := ⟨(.seq (.ops [oa 4 (.mv (oi 0))])
 (.seq (.seq (.ops [om 5 1,oa 6 (.bin .lss (ot 5) (oi 1))])
 (.cond (ot 6) (.seq (.ops [oa 4 (.mv (oi 0))])
 .ret)
 .skip))
 (.seq (.ops [om 7 0,oa 8 (.call (.func 118) [(ot 7)]),om 9 1,oa 10 (.conv .u64 (ot 9)),oa 11 (.bin .rem (ot 8) (ot 10)),oa 12 (.conv .i64 (ot 11)),om 4 12])
 .ret))),
 13, [.tmp 4]⟩
theorem lowref02Slot : lowerFn Tryd.prog Tryd.f110 = some Lref02Slot := by kernel_rfl
noncomputable def Gref02Slot (B : OH) : Nat → Cs
  | 118 => Vref02Mix B
  | _ => fun _ _ _ => none
theorem Gref02Slot_ref02Mix {B : OH} : Gref02Slot B 118 = Vref02Mix B := rfl
theorem sGref02Slot {w0 : World} {B : OH} : SoundG Tryd.prog w0 B { f := Gref02Slot B } := .of fun k => by
  unfold Gref02Slot
  split
  · exact .inr ⟨enref02Mix, sVref02Mix⟩
  · exact .inl fun _ _ _ => rfl
theorem enref02Slot : Enter Tryd.prog 110 := .of Tryd.func110 (by kernel_rfl) (by kernel_rfl)
noncomputable def Tref02Slot (B : OH) : Cs := callF B { f := Gref02Slot B } 1000000 Lref02Slot
theorem sTref02Slot {w0 : World} {B : OH} : SoundC Tryd.prog w0 B 110 (Tref02Slot B) := callF_sound mixedOrders sGref02Slot 1000000 Tryd.func110 lowref02Slot
noncomputable def Fref02Slot (B : OH) : List Value → Option Value := kval B (Tref02Slot B)
noncomputable def Vref02Slot (B : OH) : Cs := fun a H N => pvE (Fref02Slot B a) H N
theorem Vref02Slot_eq {B : OH} {a : List Value} {H : HL} {N : St} : Vref02Slot B a H N = pvE (Fref02Slot B a) H N := rfl
theorem sVref02Slot {w0 : World} {B : OH} : SoundC Tryd.prog w0 B 110 (Vref02Slot B) := sTref02Slot.ofVal
theorem J63 : Said (an @Tref02Slot.eq_1 <| an @Lref02Slot.eq_1 <| an @Gref02Slot_ref02Mix <| an @Vref02Mix_eq <| trivial) := said_ok _
theorem xSlot {B : OH} (hG : ∃ H N, good B H N) (a : Int) {n : Nat} (hn : 1 ≤ n ∧ n ≤ 4096) : Fref02Slot B [.int .u64 a, .int .i64 (n : Int)] = some (.int .i64 (miI a % (n : Int))) := by
  refine kval_eq hG fun H N hN => ?_
  obtain ⟨hB, hR, hI⟩ := gX hN
  have e1 := xMix hG a
  have hm := mi_u a
  unfold u64R at hm
  have h0 : ¬ (n : Int) < 1 := by omega
  have h1 : IntKind.u64.wrap (n : Int) = (n : Int) := IntWalk.u64_in _ (by omega)
  have h2 : (miI a).tmod (n : Int) = miI a % (n : Int) := Int.tmod_eq_emod_of_nonneg (by omega)
  have h3 : 0 ≤ miI a % (n : Int) ∧ miI a % (n : Int) < (n : Int) := ⟨Int.emod_nonneg _ (by omega), Int.emod_lt_of_pos _ (by omega)⟩
  have h4 : IntKind.i64.wrap (miI a % (n : Int)) = miI a % (n : Int) := IntWalk.i64_in _ (by omega)
  have h5 : ¬ (n : Int) = 0 := by omega
  simp (disch := omega) only [J63, hB, hR, hI, e1, h0, h1, h2, h4, h5, all1, ress, res1, retV, Value.cells, newsV_s, seval, eV]
  with_reducible refine done2 ?_
  repeat (first | refine ext_new hN ?_ | exact fun _ _ h => h)
def LrBf : FnL := ⟨(.seq (.ops [oa 4 (.mv (.const (.bool false)))])
 (.seq (.ops [om 5 0,oa 6 (.call (.func 118) [(ot 5)]),om 7 1,oa 8 (.call (.func 118) [(ot 7)]),oa 9 (.bin .gtr (ot 6) (ot 8)),om 4 9])
 .ret)),
 10, [.tmp 4]⟩
theorem lowrBf : lowerFn Tryd.prog Tryd.f111 = some LrBf := by kernel_rfl
noncomputable def GrBf (B : OH) : Nat → Cs
  | 118 => Vref02Mix B
  | _ => fun _ _ _ => none
theorem GrBf_ref02Mix {B : OH} : GrBf B 118 = Vref02Mix B := rfl
theorem sGrBf {w0 : World} {B : OH} : SoundG Tryd.prog w0 B { f := GrBf B } := .of fun k => by
  unfold GrBf
  split
  · exact .inr ⟨enref02Mix, sVref02Mix⟩
  · exact .inl fun _ _ _ => rfl
theorem enrBf : Enter Tryd.prog 111 := .of Tryd.func111 (by kernel_rfl) (by kernel_rfl)
noncomputable def TrBf (B : OH) : Cs := callF B { f := GrBf B } 1000000 LrBf
theorem sTrBf {w0 : World} {B : OH} : SoundC Tryd.prog w0 B 111 (TrBf B) := callF_sound mixedOrders sGrBf 1000000 Tryd.func111 lowrBf
noncomputable def FrBf (B : OH) : List Value → Option Value := kval B (TrBf B)
noncomputable def VrBf (B : OH) : Cs := fun a H N => pvE (FrBf B a) H N
theorem VrBf_eq {B : OH} {a : List Value} {H : HL} {N : St} : VrBf B a H N = pvE (FrBf B a) H N := rfl
theorem sVrBf {w0 : World} {B : OH} : SoundC Tryd.prog w0 B 111 (VrBf B) := sTrBf.ofVal
theorem J64 : Said (an @TrBf.eq_1 <| an @LrBf.eq_1 <| an @GrBf_ref02Mix <| an @Vref02Mix_eq <| trivial) := said_ok _
theorem xBefore {B : OH} (hG : ∃ H N, good B H N) (a b : Int) : FrBf B [.int .u64 a, .int .u64 b] = some (.bool (decide (miI a > miI b))) := by
  refine kval_eq hG fun H N hN => ?_
  obtain ⟨hB, hR, hI⟩ := gX hN
  have e1 := xMix hG a
  have e2 := xMix hG b
  simp (disch := omega) only [J64, hB, hR, hI, e1, e2, all1, ress, res1, retV, Value.cells, newsV_s, seval, eV]
  with_reducible refine done2 ?_
  repeat (first | refine ext_new hN ?_ | exact fun _ _ h => h)
def Llaw09pick : FnL := ⟨(.seq (.ops [oa 4 (.mv (oi 0))])
 (.seq (.seq (.ops [om 5 0,oa 6 (.bin .lss (ot 5) (oi 0))])
 (.cond (ot 6) (.ops [om 7 0,oa 8 (.bin .add (ot 7) (oi 1)),oa 9 (.un .neg (ot 8)),om 0 9])
 .skip))
 (.seq (.ops [om 10 0,om 11 1,oa 12 (.bin .rem (ot 10) (ot 11)),om 4 12])
 .ret))),
 13, [.tmp 4]⟩
theorem lowlaw09pick : lowerFn Tryd.prog Tryd.f93 = some Llaw09pick := by kernel_rfl
noncomputable def Glaw09pick (B : OH) : Nat → Cs
  | _ => fun _ _ _ => none
theorem sGlaw09pick {w0 : World} {B : OH} : SoundG Tryd.prog w0 B { f := Glaw09pick B } := .of fun k => by
  unfold Glaw09pick
  split
  · exact .inl fun _ _ _ => rfl
theorem enlaw09pick : Enter Tryd.prog 93 := .of Tryd.func93 (by kernel_rfl) (by kernel_rfl)
noncomputable def Tlaw09pick (B : OH) : Cs := callF B { f := Glaw09pick B } 1000000 Llaw09pick
theorem sTlaw09pick {w0 : World} {B : OH} : SoundC Tryd.prog w0 B 93 (Tlaw09pick B) := callF_sound mixedOrders sGlaw09pick 1000000 Tryd.func93 lowlaw09pick
noncomputable def Flaw09pick (B : OH) : List Value → Option Value := kval B (Tlaw09pick B)
noncomputable def Vlaw09pick (B : OH) : Cs := fun a H N => pvE (Flaw09pick B a) H N
theorem Vlaw09pick_eq {B : OH} {a : List Value} {H : HL} {N : St} : Vlaw09pick B a H N = pvE (Flaw09pick B a) H N := rfl
theorem sVlaw09pick {w0 : World} {B : OH} : SoundC Tryd.prog w0 B 93 (Vlaw09pick B) := sTlaw09pick.ofVal
theorem J65 : Said (an @Tlaw09pick.eq_1 <| an @Llaw09pick.eq_1 <| trivial) := said_ok _
theorem xpick {B : OH} (hG : ∃ H N, good B H N) (x n : Int) (hx : i64R x) (hn : 0 < n ∧ n ≤ 9223372036854775807) : Flaw09pick B [.int .i64 x, .int .i64 n] = some (.int .i64 (pk x n)) := by
  unfold i64R at hx
  refine kval_eq hG fun H N hN => ?_
  obtain ⟨hB, hR, hI⟩ := gX hN
  have hn0 : ¬ n = 0 := by omega
  unfold pk
  by_cases h : x < 0
  · have hw : IntKind.i64.wrap (0 - (x + 1)) = -(x + 1) := by rw [IntWalk.i64_in _ (by omega)]; omega
    simp (disch := omega) only [J65, hB, hR, hI, h, hn0, hw, all1, ress, res1, retV, Value.cells, newsV_s, seval, eV]
    with_reducible refine done2 ?_
    repeat (first | refine ext_new hN ?_ | exact fun _ _ h => h)
  · simp (disch := omega) only [J65, hB, hR, hI, h, hn0, all1, ress, res1, retV, Value.cells, newsV_s, seval, eV]
    with_reducible refine done2 ?_
    repeat (first | refine ext_new hN ?_ | exact fun _ _ h => h)
def wdL (w : Int) : List Int := [0, 9223372036854775808, 9221120237041090561, 9221120237041090566, 18446744073709551615, 9218868437227405312, 18442240474082181120, 4607182418800017408, 13830554455654793216, 4609434218613702656, 1, 9223372036854775809, 9218868437227405311, w]
theorem wd_u {w : Int} (hw : u64R w) : ∀ x ∈ wdL w, u64R x := by
  intro x hx
  simp only [wdL, List.mem_cons, List.not_mem_nil, or_false] at hx
  unfold u64R at *
  omega
def Llaw09Word : FnL := ⟨(.seq (.ops [oa 4 (.mv (ou 0))])
 (.seq (.ops [om 6 1,oa 7 (.buildS [(.int .u64 0), (.int .u64 0), (.int .u64 0), (.int .u64 0), (.int .u64 0), (.int .u64 0), (.int .u64 0), (.int .u64 0), (.int .u64 0), (.int .u64 0), (.int .u64 0), (.int .u64 0), (.int .u64 0), (.int .u64 0)] 14 [(0, 1, (ou 0)), (1, 1, (ou 9223372036854775808)), (2, 1, (ou 9221120237041090561)), (3, 1, (ou 9221120237041090566)), (4, 1, (ou 18446744073709551615)), (5, 1, (ou 9218868437227405312)), (6, 1, (ou 18442240474082181120)), (7, 1, (ou 4607182418800017408)), (8, 1, (ou 13830554455654793216)), (9, 1, (ou 4609434218613702656)), (10, 1, (ou 1)), (11, 1, (ou 9223372036854775809)), (12, 1, (ou 9218868437227405311)), (13, 1, (ot 6))]),om 5 7])
 (.seq (.ops [om 8 5,om 9 0,om 10 5,oa 11 (.len false (ot 10)),oa 12 (.call (.func 93) [(ot 9), (ot 11)]),oa 13 (.iaddrS 1 (ot 8) (ot 12)),ol 14 13,om 4 14])
 .ret))),
 15, [.tmp 4]⟩
theorem lowlaw09Word : lowerFn Tryd.prog Tryd.f92 = some Llaw09Word := by kernel_rfl
noncomputable def Glaw09Word (B : OH) : Nat → Cs
  | 93 => Vlaw09pick B
  | _ => fun _ _ _ => none
theorem Glaw09Word_law09pick {B : OH} : Glaw09Word B 93 = Vlaw09pick B := rfl
theorem sGlaw09Word {w0 : World} {B : OH} : SoundG Tryd.prog w0 B { f := Glaw09Word B } := .of fun k => by
  unfold Glaw09Word
  split
  · exact .inr ⟨enlaw09pick, sVlaw09pick⟩
  · exact .inl fun _ _ _ => rfl
theorem enlaw09Word : Enter Tryd.prog 92 := .of Tryd.func92 (by kernel_rfl) (by kernel_rfl)
noncomputable def Tlaw09Word (B : OH) : Cs := callF B { f := Glaw09Word B } 1000000 Llaw09Word
theorem sTlaw09Word {w0 : World} {B : OH} : SoundC Tryd.prog w0 B 92 (Tlaw09Word B) := callF_sound mixedOrders sGlaw09Word 1000000 Tryd.func92 lowlaw09Word
noncomputable def Flaw09Word (B : OH) : List Value → Option Value := kval B (Tlaw09Word B)
noncomputable def Vlaw09Word (B : OH) : Cs := fun a H N => pvE (Flaw09Word B a) H N
theorem Vlaw09Word_eq {B : OH} {a : List Value} {H : HL} {N : St} : Vlaw09Word B a H N = pvE (Flaw09Word B a) H N := rfl
theorem sVlaw09Word {w0 : World} {B : OH} : SoundC Tryd.prog w0 B 92 (Vlaw09Word B) := sTlaw09Word.ofVal
theorem J66 : Said (an @Tlaw09Word.eq_1 <| an @Llaw09Word.eq_1 <| an @Glaw09Word_law09pick <| an @Vlaw09pick_eq <| trivial) := said_ok _
set_option maxHeartbeats 4000000 in
theorem xWord {B : OH} (hG : ∃ H N, good B H N) {n : Int} (w : Int) (hn : i64R n) : Flaw09Word B [.int .i64 n, .int .u64 w] = some (.int .u64 ((wdL w).getD (pk n 14).toNat 0)) := by
  have e := xpick hG n 14 hn (by omega)
  have hb := pk_b (x := n) (n := 14) (by omega)
  generalize pk n 14 = q at *
  obtain ⟨i, rfl⟩ : ∃ i : Nat, q = (i : Int) := ⟨q.toNat, by omega⟩
  rw [Int.toNat_natCast]
  have hi : i < 14 := by omega
  refine kval_eq hG fun H N hN => ?_
  obtain ⟨hB, hR, hI⟩ := gX hN
  obtain rfl | rfl | rfl | rfl | rfl | rfl | rfl | rfl | rfl | rfl | rfl | rfl | rfl | rfl : i = 0 ∨ i = 1 ∨ i = 2 ∨ i = 3 ∨ i = 4 ∨ i = 5 ∨ i = 6 ∨ i = 7 ∨ i = 8 ∨ i = 9 ∨ i = 10 ∨ i = 11 ∨ i = 12 ∨ i = 13 := by omega
  all_goals (
    simp (disch := omega) only [J66, hB, hR, hI, e, wdL, List.getD_cons_succ, List.getD_cons_zero, all1, ress, res1, retV, Value.cells, newsV_s, seval, eV])
  all_goals exact done2 (ext_new hN fun _ _ h => h)
theorem xWordE {B : OH} (hG : ∃ H N, good B H N) {n w : Int} (hn : i64R n) (hw : u64R w) : ∃ r, u64R r ∧ Flaw09Word B [.int .i64 n, .int .u64 w] = some (.int .u64 r) := by
  refine ⟨_, ?_, xWord hG w hn⟩
  have hb := pk_b (x := n) (n := 14) (by omega)
  have hl : (wdL w).length = 14 := rfl
  exact wd_u hw _ (List.mem_of_getElem? (some_getD (d := 0) (by omega)))
def Llaw09Key : FnL := ⟨(.seq (.ops [oa 3 (.box (ot 0)),oa 6 (.mv (ou 0))])
 (.seq (.seq (.ops [og 8 0 3,ol 9 8,oa 10 (.bin .eql (ot 9) (oi 4))])
 (.cond (ot 10) (.seq (.ops [om 11 1,om 12 2,oa 13 (.call (.func 92) [(ot 11), (ot 12)]),om 6 13])
 .ret)
 .skip))
 (.seq (.ops [om 14 1,oa 15 (.call (.func 93) [(ot 14), (oi 14)]),om 7 15])
 (.seq (.seq (.ops [om 16 7,oa 17 (.bin .eql (ot 16) (oi 13))])
 (.cond (ot 17) (.seq (.ops [om 18 2,om 6 18])
 .ret)
 .skip))
 (.seq (.seq (.ops [om 19 7,oa 20 (.bin .eql (ot 19) (oi 12)),om 21 20,ob 22 (.faddr 0 (ot 3)) 21 true,ob 23 (.load false 1 (ot 22)) 21 true,ob 24 (.bin .neq (ot 23) (oi 5)) 21 true,oa 25 (.pick (ot 21) (ot 24) (.const (.bool false)))])
 (.cond (ot 25) (.seq (.ops [oa 6 (.mv (ou 4611686018427387904))])
 .ret)
 .skip))
 (.seq (.ops [om 26 7,oa 27 (.conv .u64 (ot 26)),om 6 27])
 .ret)))))),
 28, [.tmp 6]⟩
theorem lowlaw09Key : lowerFn Tryd.prog Tryd.f91 = some Llaw09Key := by kernel_rfl
noncomputable def Glaw09Key (B : OH) : Nat → Cs
  | 92 => Vlaw09Word B
  | 93 => Vlaw09pick B
  | _ => fun _ _ _ => none
theorem Glaw09Key_law09Word {B : OH} : Glaw09Key B 92 = Vlaw09Word B := rfl
theorem Glaw09Key_law09pick {B : OH} : Glaw09Key B 93 = Vlaw09pick B := rfl
theorem sGlaw09Key {w0 : World} {B : OH} : SoundG Tryd.prog w0 B { f := Glaw09Key B } := .of fun k => by
  unfold Glaw09Key
  split
  · exact .inr ⟨enlaw09Word, sVlaw09Word⟩
  · exact .inr ⟨enlaw09pick, sVlaw09pick⟩
  · exact .inl fun _ _ _ => rfl
theorem enlaw09Key : Enter Tryd.prog 91 := .of Tryd.func91 (by kernel_rfl) (by kernel_rfl)
noncomputable def Tlaw09Key (B : OH) : Cs := callF B { f := Glaw09Key B } 1000000 Llaw09Key
theorem sTlaw09Key {w0 : World} {B : OH} : SoundC Tryd.prog w0 B 91 (Tlaw09Key B) := callF_sound mixedOrders sGlaw09Key 1000000 Tryd.func91 lowlaw09Key
noncomputable def Flaw09Key (B : OH) : List Value → Option Value := kval B (Tlaw09Key B)
noncomputable def Vlaw09Key (B : OH) : Cs := fun a H N => pvE (Flaw09Key B a) H N
theorem Vlaw09Key_eq {B : OH} {a : List Value} {H : HL} {N : St} : Vlaw09Key B a H N = pvE (Flaw09Key B a) H N := rfl
theorem sVlaw09Key {w0 : World} {B : OH} : SoundC Tryd.prog w0 B 91 (Vlaw09Key B) := sTlaw09Key.ofVal
theorem J67 : Said (an @Tlaw09Key.eq_1 <| an @Llaw09Key.eq_1 <| an @Glaw09Key_law09Word <| an @Vlaw09Word_eq <| an @Glaw09Key_law09pick <| an @Vlaw09pick_eq <| trivial) := said_ok _
set_option maxHeartbeats 4000000 in
theorem xKey {B : OH} (hG : ∃ H N, good B H N) {k p c n w : Int} (hn : i64R n) (hw : u64R w) : ∃ r, u64R r ∧ Flaw09Key B [.agg #[.int .i64 k, .int .i64 p, .int .i64 c], .int .i64 n, .int .u64 w] = some (.int .u64 r) := by
  obtain ⟨r1, u1, e1⟩ := xWordE hG hn hw
  have e2 := xpick hG n 14 hn (by omega)
  have hb := pk_b (x := n) (n := 14) (by omega)
  generalize pk n 14 = q at *
  by_cases c4 : k = 4
  · subst c4
    refine ⟨r1, u1, ?_⟩
    refine kval_eq hG fun H N hN => ?_
    obtain ⟨hB, hR, hI⟩ := gX hN
    simp (disch := omega) only [J67, hB, hR, hI, e1, all1, ress, res1, retV, Value.cells, newsV_s, seval, eV]
    with_reducible refine done2 ?_
    repeat (first | refine ext_new hN ?_ | exact fun _ _ h => h)
  have d4 := beqI c4
  by_cases c1 : q = 13
  · subst c1
    refine ⟨w, hw, ?_⟩
    refine kval_eq hG fun H N hN => ?_
    obtain ⟨hB, hR, hI⟩ := gX hN
    simp (disch := omega) only [J67, hB, hR, hI, e2, d4, all1, ress, res1, retV, Value.cells, newsV_s, seval, eV]
    with_reducible refine done2 ?_
    repeat (first | refine ext_new hN ?_ | exact fun _ _ h => h)
  have d1 := beqI c1
  have wq : IntKind.u64.wrap q = q := IntWalk.u64_in _ (by omega)
  by_cases c2 : q = 12
  · subst c2
    by_cases c5 : k = 5
    · subst c5
      refine ⟨12, by unfold u64R; omega, ?_⟩
      refine kval_eq hG fun H N hN => ?_
      obtain ⟨hB, hR, hI⟩ := gX hN
      simp (disch := omega) only [J67, hB, hR, hI, e2, bne_self_eq_false, all1, ress, res1, retV, Value.cells, newsV_s, seval, eV]
      with_reducible refine done2 ?_
      repeat (first | refine ext_new hN ?_ | exact fun _ _ h => h)
    · have d5 : (k != 5) = true := by simpa using c5
      refine ⟨4611686018427387904, by unfold u64R; omega, ?_⟩
      refine kval_eq hG fun H N hN => ?_
      obtain ⟨hB, hR, hI⟩ := gX hN
      simp (disch := omega) only [J67, hB, hR, hI, e2, d4, d5, all1, ress, res1, retV, Value.cells, newsV_s, seval, eV]
      with_reducible refine done2 ?_
      repeat (first | refine ext_new hN ?_ | exact fun _ _ h => h)
  have d2 := beqI c2
  refine ⟨q, by unfold u64R; omega, ?_⟩
  refine kval_eq hG fun H N hN => ?_
  obtain ⟨hB, hR, hI⟩ := gX hN
  simp (disch := omega) only [J67, hB, hR, hI, e2, d4, d1, d2, wq, all1, ress, res1, retV, Value.cells, newsV_s, seval, eV]
  with_reducible refine done2 ?_
  repeat (first | refine ext_new hN ?_ | exact fun _ _ h => h)
def Llaw09Code : FnL := ⟨(.seq (.ops [oa 2 (.box (ot 0)),oa 4 (.mv (oi 0))])
 (.seq (.ops [oa 7 (.buildS [(.int .i64 0), (.int .i64 0), (.int .i64 0), (.int .i64 0), (.int .i64 0)] 5 [(0, 1, (oi 1)), (1, 1, (oi 2)), (2, 1, (oi 3)), (3, 1, (oi 4)), (4, 1, (oi 4))]),om 5 7])
 (.seq (.seq (.ops [og 8 0 2,ol 9 8])
 (.block 0 (.seq (.ops [oa 11 (.bin .eql (ot 9) (oi 2)),om 10 11])
 (.cond (ot 10) (.ops [oa 12 (.buildS [(.int .i64 0), (.int .i64 0), (.int .i64 0), (.int .i64 0), (.int .i64 0), (.int .i64 0)] 6 [(0, 1, (oi 6)), (1, 1, (oi 6)), (2, 1, (oi 5)), (3, 1, (oi 7)), (4, 1, (oi 8)), (5, 1, (oi 9))]),om 5 12])
 (.seq (.seq (.ops [oa 14 (.bin .eql (ot 9) (oi 3)),om 13 14])
 (.cond (ot 13) .skip
 (.ops [oa 15 (.bin .eql (ot 9) (oi 4)),om 13 15])))
 (.cond (ot 13) (.ops [oa 16 (.buildS [(.int .i64 0), (.int .i64 0), (.int .i64 0), (.int .i64 0), (.int .i64 0), (.int .i64 0)] 6 [(0, 1, (oi 11)), (1, 1, (oi 11)), (2, 1, (oi 10)), (3, 1, (oi 7)), (4, 1, (oi 8)), (5, 1, (oi 9))]),om 5 16])
 (.seq (.ops [oa 18 (.bin .eql (ot 9) (oi 5)),om 17 18])
 (.cond (ot 17) (.ops [oa 19 (.buildS [(.int .i64 0), (.int .i64 0), (.int .i64 0), (.int .i64 0), (.int .i64 0), (.int .i64 0), (.int .i64 0)] 7 [(0, 1, (oi 12)), (1, 1, (oi 12)), (2, 1, (oi 12)), (3, 1, (oi 14)), (4, 1, (oi 15)), (5, 1, (oi 16)), (6, 1, (oi 13))]),om 5 19])
 .skip))))))))
 (.seq (.ops [om 20 1,om 21 5,oa 22 (.len false (ot 21)),oa 23 (.bin .mul (oi 3) (ot 22)),oa 24 (.bin .add (ot 23) (oi 1)),oa 25 (.call (.func 93) [(ot 20), (ot 24)]),om 6 25])
 (.seq (.seq (.ops [om 26 6,om 27 5,oa 28 (.len false (ot 27)),oa 29 (.bin .mul (oi 3) (ot 28)),oa 30 (.bin .eql (ot 26) (ot 29))])
 (.cond (ot 30) (.seq (.ops [om 31 1,oa 32 (.call (.func 93) [(ot 31), (oi 260)]),om 4 32])
 .ret)
 .skip))
 (.seq (.ops [om 33 5,om 34 6,om 35 5,oa 36 (.len false (ot 35)),oa 37 (.bin .rem (ot 34) (ot 36)),oa 38 (.iaddrS 1 (ot 33) (ot 37)),ol 39 38,om 4 39])
 .ret)))))),
 40, [.tmp 4]⟩
theorem lowlaw09Code : lowerFn Tryd.prog Tryd.f90 = some Llaw09Code := by kernel_rfl
noncomputable def Glaw09Code (B : OH) : Nat → Cs
  | 93 => Vlaw09pick B
  | _ => fun _ _ _ => none
theorem Glaw09Code_law09pick {B : OH} : Glaw09Code B 93 = Vlaw09pick B := rfl
theorem sGlaw09Code {w0 : World} {B : OH} : SoundG Tryd.prog w0 B { f := Glaw09Code B } := .of fun k => by
  unfold Glaw09Code
  split
  · exact .inr ⟨enlaw09pick, sVlaw09pick⟩
  · exact .inl fun _ _ _ => rfl
theorem enlaw09Code : Enter Tryd.prog 90 := .of Tryd.func90 (by kernel_rfl) (by kernel_rfl)
noncomputable def Tlaw09Code (B : OH) : Cs := callF B { f := Glaw09Code B } 1000000 Llaw09Code
theorem sTlaw09Code {w0 : World} {B : OH} : SoundC Tryd.prog w0 B 90 (Tlaw09Code B) := callF_sound mixedOrders sGlaw09Code 1000000 Tryd.func90 lowlaw09Code
noncomputable def Flaw09Code (B : OH) : List Value → Option Value := kval B (Tlaw09Code B)
noncomputable def Vlaw09Code (B : OH) : Cs := fun a H N => pvE (Flaw09Code B a) H N
theorem Vlaw09Code_eq {B : OH} {a : List Value} {H : HL} {N : St} : Vlaw09Code B a H N = pvE (Flaw09Code B a) H N := rfl
theorem sVlaw09Code {w0 : World} {B : OH} : SoundC Tryd.prog w0 B 90 (Vlaw09Code B) := sTlaw09Code.ofVal
theorem J68 : Said (an @Tlaw09Code.eq_1 <| an @Llaw09Code.eq_1 <| an @Glaw09Code_law09pick <| an @Vlaw09pick_eq <| trivial) := said_ok _
set_option maxHeartbeats 8000000 in
theorem xCode {B : OH} (hG : ∃ H N, good B H N) {k p c n : Int} (hk : 1 ≤ k ∧ k ≤ 5) (hn : i64R n) : ∃ r, i64R r ∧ Flaw09Code B [.agg #[.int .i64 k, .int .i64 p, .int .i64 c], .int .i64 n] = some (.int .i64 r) := by
  have e260 := xpick hG n 260 hn (by omega)
  have h260 : i64R (pk n 260) := by
    have := pk_b (x := n) (n := 260) (by omega)
    unfold i64R; omega
  obtain rfl | rfl | rfl | rfl | rfl : k = 1 ∨ k = 2 ∨ k = 3 ∨ k = 4 ∨ k = 5 := by omega
  · have ha := xpick hG n 16 hn (by omega)
    have hb := pk_b (x := n) (n := 16) (by omega)
    generalize pk n 16 = q at *
    by_cases c1 : q = 15
    · subst c1
      refine ⟨_, h260, ?_⟩
      refine kval_eq hG fun H N hN => ?_
      obtain ⟨hB, hR, hI⟩ := gX hN
      simp (disch := omega) only [J68, hB, hR, hI, ha, e260, all1, ress, res1, retV, Value.cells, newsV_s, seval, eV]
      with_reducible refine done2 ?_
      repeat (first | refine ext_new hN ?_ | exact fun _ _ h => h)
    have d1 := beqI c1
    obtain ⟨i, rfl⟩ : ∃ i : Nat, q = (i : Int) := ⟨q.toNat, by omega⟩
    have ht : ((i : Int).tmod 5) = ((i % 5 : Nat) : Int) := rfl
    have hj : i % 5 < 5 := Nat.mod_lt _ (by omega)
    generalize i % 5 = j at *
    obtain rfl | rfl | rfl | rfl | rfl : j = 0 ∨ j = 1 ∨ j = 2 ∨ j = 3 ∨ j = 4 := by omega
    · refine ⟨1, by unfold i64R; omega, ?_⟩
      refine kval_eq hG fun H N hN => ?_
      obtain ⟨hB, hR, hI⟩ := gX hN
      simp (disch := omega) only [J68, hB, hR, hI, ha, d1, ht, all1, ress, res1, retV, Value.cells, newsV_s, seval, eV]
      with_reducible refine done2 ?_
      repeat (first | refine ext_new hN ?_ | exact fun _ _ h => h)
    · refine ⟨2, by unfold i64R; omega, ?_⟩
      refine kval_eq hG fun H N hN => ?_
      obtain ⟨hB, hR, hI⟩ := gX hN
      simp (disch := omega) only [J68, hB, hR, hI, ha, d1, ht, all1, ress, res1, retV, Value.cells, newsV_s, seval, eV]
      with_reducible refine done2 ?_
      repeat (first | refine ext_new hN ?_ | exact fun _ _ h => h)
    · refine ⟨3, by unfold i64R; omega, ?_⟩
      refine kval_eq hG fun H N hN => ?_
      obtain ⟨hB, hR, hI⟩ := gX hN
      simp (disch := omega) only [J68, hB, hR, hI, ha, d1, ht, all1, ress, res1, retV, Value.cells, newsV_s, seval, eV]
      with_reducible refine done2 ?_
      repeat (first | refine ext_new hN ?_ | exact fun _ _ h => h)
    · refine ⟨4, by unfold i64R; omega, ?_⟩
      refine kval_eq hG fun H N hN => ?_
      obtain ⟨hB, hR, hI⟩ := gX hN
      simp (disch := omega) only [J68, hB, hR, hI, ha, d1, ht, all1, ress, res1, retV, Value.cells, newsV_s, seval, eV]
      with_reducible refine done2 ?_
      repeat (first | refine ext_new hN ?_ | exact fun _ _ h => h)
    · refine ⟨4, by unfold i64R; omega, ?_⟩
      refine kval_eq hG fun H N hN => ?_
      obtain ⟨hB, hR, hI⟩ := gX hN
      simp (disch := omega) only [J68, hB, hR, hI, ha, d1, ht, all1, ress, res1, retV, Value.cells, newsV_s, seval, eV]
      with_reducible refine done2 ?_
      repeat (first | refine ext_new hN ?_ | exact fun _ _ h => h)
  · have ha := xpick hG n 19 hn (by omega)
    have hb := pk_b (x := n) (n := 19) (by omega)
    generalize pk n 19 = q at *
    by_cases c1 : q = 18
    · subst c1
      refine ⟨_, h260, ?_⟩
      refine kval_eq hG fun H N hN => ?_
      obtain ⟨hB, hR, hI⟩ := gX hN
      simp (disch := omega) only [J68, hB, hR, hI, ha, e260, all1, ress, res1, retV, Value.cells, newsV_s, seval, eV]
      with_reducible refine done2 ?_
      repeat (first | refine ext_new hN ?_ | exact fun _ _ h => h)
    have d1 := beqI c1
    obtain ⟨i, rfl⟩ : ∃ i : Nat, q = (i : Int) := ⟨q.toNat, by omega⟩
    have ht : ((i : Int).tmod 6) = ((i % 6 : Nat) : Int) := rfl
    have hj : i % 6 < 6 := Nat.mod_lt _ (by omega)
    generalize i % 6 = j at *
    obtain rfl | rfl | rfl | rfl | rfl | rfl : j = 0 ∨ j = 1 ∨ j = 2 ∨ j = 3 ∨ j = 4 ∨ j = 5 := by omega
    · refine ⟨6, by unfold i64R; omega, ?_⟩
      refine kval_eq hG fun H N hN => ?_
      obtain ⟨hB, hR, hI⟩ := gX hN
      simp (disch := omega) only [J68, hB, hR, hI, ha, d1, ht, all1, ress, res1, retV, Value.cells, newsV_s, seval, eV]
      with_reducible refine done2 ?_
      repeat (first | refine ext_new hN ?_ | exact fun _ _ h => h)
    · refine ⟨6, by unfold i64R; omega, ?_⟩
      refine kval_eq hG fun H N hN => ?_
      obtain ⟨hB, hR, hI⟩ := gX hN
      simp (disch := omega) only [J68, hB, hR, hI, ha, d1, ht, all1, ress, res1, retV, Value.cells, newsV_s, seval, eV]
      with_reducible refine done2 ?_
      repeat (first | refine ext_new hN ?_ | exact fun _ _ h => h)
    · refine ⟨5, by unfold i64R; omega, ?_⟩
      refine kval_eq hG fun H N hN => ?_
      obtain ⟨hB, hR, hI⟩ := gX hN
      simp (disch := omega) only [J68, hB, hR, hI, ha, d1, ht, all1, ress, res1, retV, Value.cells, newsV_s, seval, eV]
      with_reducible refine done2 ?_
      repeat (first | refine ext_new hN ?_ | exact fun _ _ h => h)
    · refine ⟨7, by unfold i64R; omega, ?_⟩
      refine kval_eq hG fun H N hN => ?_
      obtain ⟨hB, hR, hI⟩ := gX hN
      simp (disch := omega) only [J68, hB, hR, hI, ha, d1, ht, all1, ress, res1, retV, Value.cells, newsV_s, seval, eV]
      with_reducible refine done2 ?_
      repeat (first | refine ext_new hN ?_ | exact fun _ _ h => h)
    · refine ⟨8, by unfold i64R; omega, ?_⟩
      refine kval_eq hG fun H N hN => ?_
      obtain ⟨hB, hR, hI⟩ := gX hN
      simp (disch := omega) only [J68, hB, hR, hI, ha, d1, ht, all1, ress, res1, retV, Value.cells, newsV_s, seval, eV]
      with_reducible refine done2 ?_
      repeat (first | refine ext_new hN ?_ | exact fun _ _ h => h)
    · refine ⟨9, by unfold i64R; omega, ?_⟩
      refine kval_eq hG fun H N hN => ?_
      obtain ⟨hB, hR, hI⟩ := gX hN
      simp (disch := omega) only [J68, hB, hR, hI, ha, d1, ht, all1, ress, res1, retV, Value.cells, newsV_s, seval, eV]
      with_reducible refine done2 ?_
      repeat (first | refine ext_new hN ?_ | exact fun _ _ h => h)
  · have ha := xpick hG n 19 hn (by omega)
    have hb := pk_b (x := n) (n := 19) (by omega)
    generalize pk n 19 = q at *
    by_cases c1 : q = 18
    · subst c1
      refine ⟨_, h260, ?_⟩
      refine kval_eq hG fun H N hN => ?_
      obtain ⟨hB, hR, hI⟩ := gX hN
      simp (disch := omega) only [J68, hB, hR, hI, ha, e260, all1, ress, res1, retV, Value.cells, newsV_s, seval, eV]
      with_reducible refine done2 ?_
      repeat (first | refine ext_new hN ?_ | exact fun _ _ h => h)
    have d1 := beqI c1
    obtain ⟨i, rfl⟩ : ∃ i : Nat, q = (i : Int) := ⟨q.toNat, by omega⟩
    have ht : ((i : Int).tmod 6) = ((i % 6 : Nat) : Int) := rfl
    have hj : i % 6 < 6 := Nat.mod_lt _ (by omega)
    generalize i % 6 = j at *
    obtain rfl | rfl | rfl | rfl | rfl | rfl : j = 0 ∨ j = 1 ∨ j = 2 ∨ j = 3 ∨ j = 4 ∨ j = 5 := by omega
    · refine ⟨11, by unfold i64R; omega, ?_⟩
      refine kval_eq hG fun H N hN => ?_
      obtain ⟨hB, hR, hI⟩ := gX hN
      simp (disch := omega) only [J68, hB, hR, hI, ha, d1, ht, all1, ress, res1, retV, Value.cells, newsV_s, seval, eV]
      with_reducible refine done2 ?_
      repeat (first | refine ext_new hN ?_ | exact fun _ _ h => h)
    · refine ⟨11, by unfold i64R; omega, ?_⟩
      refine kval_eq hG fun H N hN => ?_
      obtain ⟨hB, hR, hI⟩ := gX hN
      simp (disch := omega) only [J68, hB, hR, hI, ha, d1, ht, all1, ress, res1, retV, Value.cells, newsV_s, seval, eV]
      with_reducible refine done2 ?_
      repeat (first | refine ext_new hN ?_ | exact fun _ _ h => h)
    · refine ⟨10, by unfold i64R; omega, ?_⟩
      refine kval_eq hG fun H N hN => ?_
      obtain ⟨hB, hR, hI⟩ := gX hN
      simp (disch := omega) only [J68, hB, hR, hI, ha, d1, ht, all1, ress, res1, retV, Value.cells, newsV_s, seval, eV]
      with_reducible refine done2 ?_
      repeat (first | refine ext_new hN ?_ | exact fun _ _ h => h)
    · refine ⟨7, by unfold i64R; omega, ?_⟩
      refine kval_eq hG fun H N hN => ?_
      obtain ⟨hB, hR, hI⟩ := gX hN
      simp (disch := omega) only [J68, hB, hR, hI, ha, d1, ht, all1, ress, res1, retV, Value.cells, newsV_s, seval, eV]
      with_reducible refine done2 ?_
      repeat (first | refine ext_new hN ?_ | exact fun _ _ h => h)
    · refine ⟨8, by unfold i64R; omega, ?_⟩
      refine kval_eq hG fun H N hN => ?_
      obtain ⟨hB, hR, hI⟩ := gX hN
      simp (disch := omega) only [J68, hB, hR, hI, ha, d1, ht, all1, ress, res1, retV, Value.cells, newsV_s, seval, eV]
      with_reducible refine done2 ?_
      repeat (first | refine ext_new hN ?_ | exact fun _ _ h => h)
    · refine ⟨9, by unfold i64R; omega, ?_⟩
      refine kval_eq hG fun H N hN => ?_
      obtain ⟨hB, hR, hI⟩ := gX hN
      simp (disch := omega) only [J68, hB, hR, hI, ha, d1, ht, all1, ress, res1, retV, Value.cells, newsV_s, seval, eV]
      with_reducible refine done2 ?_
      repeat (first | refine ext_new hN ?_ | exact fun _ _ h => h)
  · have ha := xpick hG n 19 hn (by omega)
    have hb := pk_b (x := n) (n := 19) (by omega)
    generalize pk n 19 = q at *
    by_cases c1 : q = 18
    · subst c1
      refine ⟨_, h260, ?_⟩
      refine kval_eq hG fun H N hN => ?_
      obtain ⟨hB, hR, hI⟩ := gX hN
      simp (disch := omega) only [J68, hB, hR, hI, ha, e260, all1, ress, res1, retV, Value.cells, newsV_s, seval, eV]
      with_reducible refine done2 ?_
      repeat (first | refine ext_new hN ?_ | exact fun _ _ h => h)
    have d1 := beqI c1
    obtain ⟨i, rfl⟩ : ∃ i : Nat, q = (i : Int) := ⟨q.toNat, by omega⟩
    have ht : ((i : Int).tmod 6) = ((i % 6 : Nat) : Int) := rfl
    have hj : i % 6 < 6 := Nat.mod_lt _ (by omega)
    generalize i % 6 = j at *
    obtain rfl | rfl | rfl | rfl | rfl | rfl : j = 0 ∨ j = 1 ∨ j = 2 ∨ j = 3 ∨ j = 4 ∨ j = 5 := by omega
    · refine ⟨11, by unfold i64R; omega, ?_⟩
      refine kval_eq hG fun H N hN => ?_
      obtain ⟨hB, hR, hI⟩ := gX hN
      simp (disch := omega) only [J68, hB, hR, hI, ha, d1, ht, all1, ress, res1, retV, Value.cells, newsV_s, seval, eV]
      with_reducible refine done2 ?_
      repeat (first | refine ext_new hN ?_ | exact fun _ _ h => h)
    · refine ⟨11, by unfold i64R; omega, ?_⟩
      refine kval_eq hG fun H N hN => ?_
      obtain ⟨hB, hR, hI⟩ := gX hN
      simp (disch := omega) only [J68, hB, hR, hI, ha, d1, ht, all1, ress, res1, retV, Value.cells, newsV_s, seval, eV]
      with_reducible refine done2 ?_
      repeat (first | refine ext_new hN ?_ | exact fun _ _ h => h)
    · refine ⟨10, by unfold i64R; omega, ?_⟩
      refine kval_eq hG fun H N hN => ?_
      obtain ⟨hB, hR, hI⟩ := gX hN
      simp (disch := omega) only [J68, hB, hR, hI, ha, d1, ht, all1, ress, res1, retV, Value.cells, newsV_s, seval, eV]
      with_reducible refine done2 ?_
      repeat (first | refine ext_new hN ?_ | exact fun _ _ h => h)
    · refine ⟨7, by unfold i64R; omega, ?_⟩
      refine kval_eq hG fun H N hN => ?_
      obtain ⟨hB, hR, hI⟩ := gX hN
      simp (disch := omega) only [J68, hB, hR, hI, ha, d1, ht, all1, ress, res1, retV, Value.cells, newsV_s, seval, eV]
      with_reducible refine done2 ?_
      repeat (first | refine ext_new hN ?_ | exact fun _ _ h => h)
    · refine ⟨8, by unfold i64R; omega, ?_⟩
      refine kval_eq hG fun H N hN => ?_
      obtain ⟨hB, hR, hI⟩ := gX hN
      simp (disch := omega) only [J68, hB, hR, hI, ha, d1, ht, all1, ress, res1, retV, Value.cells, newsV_s, seval, eV]
      with_reducible refine done2 ?_
      repeat (first | refine ext_new hN ?_ | exact fun _ _ h => h)
    · refine ⟨9, by unfold i64R; omega, ?_⟩
      refine kval_eq hG fun H N hN => ?_
      obtain ⟨hB, hR, hI⟩ := gX hN
      simp (disch := omega) only [J68, hB, hR, hI, ha, d1, ht, all1, ress, res1, retV, Value.cells, newsV_s, seval, eV]
      with_reducible refine done2 ?_
      repeat (first | refine ext_new hN ?_ | exact fun _ _ h => h)
  · have ha := xpick hG n 22 hn (by omega)
    have hb := pk_b (x := n) (n := 22) (by omega)
    generalize pk n 22 = q at *
    by_cases c1 : q = 21
    · subst c1
      refine ⟨_, h260, ?_⟩
      refine kval_eq hG fun H N hN => ?_
      obtain ⟨hB, hR, hI⟩ := gX hN
      simp (disch := omega) only [J68, hB, hR, hI, ha, e260, all1, ress, res1, retV, Value.cells, newsV_s, seval, eV]
      with_reducible refine done2 ?_
      repeat (first | refine ext_new hN ?_ | exact fun _ _ h => h)
    have d1 := beqI c1
    obtain ⟨i, rfl⟩ : ∃ i : Nat, q = (i : Int) := ⟨q.toNat, by omega⟩
    have ht : ((i : Int).tmod 7) = ((i % 7 : Nat) : Int) := rfl
    have hj : i % 7 < 7 := Nat.mod_lt _ (by omega)
    generalize i % 7 = j at *
    obtain rfl | rfl | rfl | rfl | rfl | rfl | rfl : j = 0 ∨ j = 1 ∨ j = 2 ∨ j = 3 ∨ j = 4 ∨ j = 5 ∨ j = 6 := by omega
    · refine ⟨12, by unfold i64R; omega, ?_⟩
      refine kval_eq hG fun H N hN => ?_
      obtain ⟨hB, hR, hI⟩ := gX hN
      simp (disch := omega) only [J68, hB, hR, hI, ha, d1, ht, all1, ress, res1, retV, Value.cells, newsV_s, seval, eV]
      with_reducible refine done2 ?_
      repeat (first | refine ext_new hN ?_ | exact fun _ _ h => h)
    · refine ⟨12, by unfold i64R; omega, ?_⟩
      refine kval_eq hG fun H N hN => ?_
      obtain ⟨hB, hR, hI⟩ := gX hN
      simp (disch := omega) only [J68, hB, hR, hI, ha, d1, ht, all1, ress, res1, retV, Value.cells, newsV_s, seval, eV]
      with_reducible refine done2 ?_
      repeat (first | refine ext_new hN ?_ | exact fun _ _ h => h)
    · refine ⟨12, by unfold i64R; omega, ?_⟩
      refine kval_eq hG fun H N hN => ?_
      obtain ⟨hB, hR, hI⟩ := gX hN
      simp (disch := omega) only [J68, hB, hR, hI, ha, d1, ht, all1, ress, res1, retV, Value.cells, newsV_s, seval, eV]
      with_reducible refine done2 ?_
      repeat (first | refine ext_new hN ?_ | exact fun _ _ h => h)
    · refine ⟨14, by unfold i64R; omega, ?_⟩
      refine kval_eq hG fun H N hN => ?_
      obtain ⟨hB, hR, hI⟩ := gX hN
      simp (disch := omega) only [J68, hB, hR, hI, ha, d1, ht, all1, ress, res1, retV, Value.cells, newsV_s, seval, eV]
      with_reducible refine done2 ?_
      repeat (first | refine ext_new hN ?_ | exact fun _ _ h => h)
    · refine ⟨15, by unfold i64R; omega, ?_⟩
      refine kval_eq hG fun H N hN => ?_
      obtain ⟨hB, hR, hI⟩ := gX hN
      simp (disch := omega) only [J68, hB, hR, hI, ha, d1, ht, all1, ress, res1, retV, Value.cells, newsV_s, seval, eV]
      with_reducible refine done2 ?_
      repeat (first | refine ext_new hN ?_ | exact fun _ _ h => h)
    · refine ⟨16, by unfold i64R; omega, ?_⟩
      refine kval_eq hG fun H N hN => ?_
      obtain ⟨hB, hR, hI⟩ := gX hN
      simp (disch := omega) only [J68, hB, hR, hI, ha, d1, ht, all1, ress, res1, retV, Value.cells, newsV_s, seval, eV]
      with_reducible refine done2 ?_
      repeat (first | refine ext_new hN ?_ | exact fun _ _ h => h)
    · refine ⟨13, by unfold i64R; omega, ?_⟩
      refine kval_eq hG fun H N hN => ?_
      obtain ⟨hB, hR, hI⟩ := gX hN
      simp (disch := omega) only [J68, hB, hR, hI, ha, d1, ht, all1, ress, res1, retV, Value.cells, newsV_s, seval, eV]
      with_reducible refine done2 ?_
      repeat (first | refine ext_new hN ?_ | exact fun _ _ h => h)
end Go.Proofs.YtfhiplfagejfoaaDoor
namespace Go.Proofs.YtfhiplfagejfoaaDoor
open Go.Proofs.YtfhiplfagejfoaaDoor.K Go.ChangeShapes Go.WideShapes Go.ChangeAt Go.RowKit 
set_option maxRecDepth 100000
set_option linter.unusedSimpArgs false
set_option linter.unusedVariables false
def Llaw09Op : FnL := ⟨(.seq (.ops [oa 3 (.box (ot 0)),oa 4 (.box (ot 1)),oa 6 (.alloc [(.int .i64 0), (.int .u64 0), (.int .u64 0)])])
 (.seq (.seq (.draw [oe 8 (.load true 3 (ot 3)),oe 9 (.iaddrA 1 3 (ot 4) (oi 0)),pl 10 9,oe 12 (.load true 3 (ot 3)),oe 13 (.iaddrA 1 3 (ot 4) (oi 1)),pl 14 13,pm 15 2,oe 17 (.iaddrA 1 3 (ot 4) (oi 2)),pl 18 17,pm 19 2])
 (.fork (.seq (.draw [⟨oa 11 (.call (.func 90) [(ot 8), (ot 10)]), [oa 12 (.load true 3 (ot 3)),ol 14 13,ol 18 17]⟩])
 (.fork (.seq (.draw [⟨oa 16 (.call (.func 91) [(ot 12), (ot 14), (ot 15)]), [ol 18 17]⟩])
 (.fork (.draw [oe 20 (.call (.func 92) [(ot 18), (ot 19)]),oe 21 (.build [(.int .i64 0), (.int .u64 0), (.int .u64 0)] [(0, 1, (ot 11)), (1, 1, (ot 16)), (2, 1, (ot 20))]),oe 7 (.alloc [(.int .i64 0), (.int .u64 0), (.int .u64 0)]), ⟨oc (.store 3 (ot 7) (ot 21)),[]⟩])
 (.draw [⟨oa 7 (.alloc [(.int .i64 0), (.int .u64 0), (.int .u64 0)]), [ol 18 17]⟩,oe 20 (.call (.func 92) [(ot 18), (ot 19)]),oe 21 (.build [(.int .i64 0), (.int .u64 0), (.int .u64 0)] [(0, 1, (ot 11)), (1, 1, (ot 16)), (2, 1, (ot 20))]), ⟨oc (.store 3 (ot 7) (ot 21)),[]⟩])))
 (.draw [⟨oa 7 (.alloc [(.int .i64 0), (.int .u64 0), (.int .u64 0)]), [oa 12 (.load true 3 (ot 3)),ol 14 13,ol 18 17]⟩,⟨oa 16 (.call (.func 91) [(ot 12), (ot 14), (ot 15)]), [ol 18 17]⟩,oe 20 (.call (.func 92) [(ot 18), (ot 19)]),oe 21 (.build [(.int .i64 0), (.int .u64 0), (.int .u64 0)] [(0, 1, (ot 11)), (1, 1, (ot 16)), (2, 1, (ot 20))]), ⟨oc (.store 3 (ot 7) (ot 21)),[]⟩])))
 (.draw [⟨oa 7 (.alloc [(.int .i64 0), (.int .u64 0), (.int .u64 0)]), [oa 8 (.load true 3 (ot 3)),ol 10 9,oa 12 (.load true 3 (ot 3)),ol 14 13,ol 18 17]⟩,⟨oa 11 (.call (.func 90) [(ot 8), (ot 10)]), [oa 12 (.load true 3 (ot 3)),ol 14 13,ol 18 17]⟩,⟨oa 16 (.call (.func 91) [(ot 12), (ot 14), (ot 15)]), [ol 18 17]⟩,oe 20 (.call (.func 92) [(ot 18), (ot 19)]),oe 21 (.build [(.int .i64 0), (.int .u64 0), (.int .u64 0)] [(0, 1, (ot 11)), (1, 1, (ot 16)), (2, 1, (ot 20))]), ⟨oc (.store 3 (ot 7) (ot 21)),[]⟩])))
 (.seq (.seq (.ops [og 22 0 3,ol 23 22,oa 24 (.bin .eql (ot 23) (oi 5)),om 25 24,ob 26 (.faddr 0 (ot 7)) 25 false,ob 27 (.load false 1 (ot 26)) 25 false,ob 28 (.bin .eql (ot 27) (oi 8)) 25 false,oa 29 (.pick (ot 25) (.const (.bool true)) (ot 28))])
 (.cond (ot 29) (.ops [oa 30 (.iaddrA 1 3 (ot 4) (oi 2)),ol 31 30,oa 32 (.call (.func 93) [(ot 31), (oi 10)]),oa 33 (.conv .u64 (ot 32)),og 34 2 7, oc (.store 1 (ot 34) (ot 33))])
 .skip))
 (.seq (.ops [oa 35 (.load true 3 (ot 7)), oc (.store 3 (ot 6) (ot 35))])
 .ret)))),
 36, [.cell 6 true 3]⟩
theorem lowlaw09Op : lowerFn Tryd.prog Tryd.f75 = some Llaw09Op := by kernel_rfl
noncomputable def Glaw09Op (B : OH) : Nat → Cs
  | 90 => Vlaw09Code B
  | 91 => Vlaw09Key B
  | 92 => Vlaw09Word B
  | 93 => Vlaw09pick B
  | _ => fun _ _ _ => none
theorem Glaw09Op_law09Code {B : OH} : Glaw09Op B 90 = Vlaw09Code B := rfl
theorem Glaw09Op_law09Key {B : OH} : Glaw09Op B 91 = Vlaw09Key B := rfl
theorem Glaw09Op_law09Word {B : OH} : Glaw09Op B 92 = Vlaw09Word B := rfl
theorem Glaw09Op_law09pick {B : OH} : Glaw09Op B 93 = Vlaw09pick B := rfl
theorem sGlaw09Op {w0 : World} {B : OH} : SoundG Tryd.prog w0 B { f := Glaw09Op B } := .of fun k => by
  unfold Glaw09Op
  split
  · exact .inr ⟨enlaw09Code, sVlaw09Code⟩
  · exact .inr ⟨enlaw09Key, sVlaw09Key⟩
  · exact .inr ⟨enlaw09Word, sVlaw09Word⟩
  · exact .inr ⟨enlaw09pick, sVlaw09pick⟩
  · exact .inl fun _ _ _ => rfl
theorem enlaw09Op : Enter Tryd.prog 75 := .of Tryd.func75 (by kernel_rfl) (by kernel_rfl)
noncomputable def Tlaw09Op (B : OH) : Cs := callF B { f := Glaw09Op B } 1000000 Llaw09Op
theorem sTlaw09Op {w0 : World} {B : OH} : SoundC Tryd.prog w0 B 75 (Tlaw09Op B) := callF_sound mixedOrders sGlaw09Op 1000000 Tryd.func75 lowlaw09Op
noncomputable def Flaw09Op (B : OH) : List Value → Option Value := kval B (Tlaw09Op B)
noncomputable def Vlaw09Op (B : OH) : Cs := fun a H N => pvE (Flaw09Op B a) H N
theorem Vlaw09Op_eq {B : OH} {a : List Value} {H : HL} {N : St} : Vlaw09Op B a H N = pvE (Flaw09Op B a) H N := rfl
theorem sVlaw09Op {w0 : World} {B : OH} : SoundC Tryd.prog w0 B 75 (Vlaw09Op B) := sTlaw09Op.ofVal
theorem J69 : Said (an @Tlaw09Op.eq_1 <| an @Llaw09Op.eq_1 <| an @Glaw09Op_law09Code <| an @Vlaw09Code_eq <| an @Glaw09Op_law09Key <| an @Vlaw09Key_eq <| an @Glaw09Op_law09Word <| an @Vlaw09Word_eq <| an @Glaw09Op_law09pick <| an @Vlaw09pick_eq <| trivial) := said_ok _
set_option maxHeartbeats 8000000 in
theorem xOp {B : OH} (hG : ∃ H N, good B H N) {k p c x y z w : Int} (hk : 1 ≤ k ∧ k ≤ 5) (hx : i64R x) (hy : i64R y) (hz : i64R z) (hw : u64R w) :
    ∃ cd ky vl, i64R cd ∧ u64R ky ∧ u64R vl ∧ Flaw09Op B [.agg #[.int .i64 k, .int .i64 p, .int .i64 c], .agg #[.int .i64 x, .int .i64 y, .int .i64 z], .int .u64 w] = some (.agg #[.int .i64 cd, .int .u64 ky, .int .u64 vl]) := by
  obtain ⟨cd, hcd, e1⟩ := xCode (p := p) (c := c) hG hk hx
  obtain ⟨ky, hky, e2⟩ := xKey (k := k) (p := p) (c := c) hG hy hw
  obtain ⟨vl, hvl, e3⟩ := xWordE hG hz hw
  have e4 := xpick hG z 10 hz (by omega)
  have hb := pk_b (x := z) (n := 10) (by omega)
  generalize pk z 10 = q at *
  have wq : IntKind.u64.wrap q = q := IntWalk.u64_in _ (by omega)
  by_cases c5 : k = 5
  · subst c5
    refine ⟨cd, ky, q, hcd, hky, by unfold u64R; omega, ?_⟩
    refine kval_eq hG fun H N hN => ?_
    obtain ⟨hB, hR, hI⟩ := gX hN
    cases h3 : N.g 3 with
    | false =>
      simp (disch := omega) only [J69, hB, hR, hI, e1, e2, e3, e4, wq, h3, all1, ress, res1, retV, Value.cells, newsV_s, seval, eV]
      with_reducible refine done2 ?_
      repeat (first | refine ext_new hN ?_ | exact fun _ _ h => h)
    | true =>
      cases h4 : N.g 4 with
      | false =>
        simp (disch := omega) only [J69, hB, hR, hI, e1, e2, e3, e4, wq, h3, h4, all1, ress, res1, retV, Value.cells, newsV_s, seval, eV]
        with_reducible refine done2 ?_
        repeat (first | refine ext_new hN ?_ | exact fun _ _ h => h)
      | true =>
        cases h5 : N.g 5 with
        | false =>
          simp (disch := omega) only [J69, hB, hR, hI, e1, e2, e3, e4, wq, h3, h4, h5, all1, ress, res1, retV, Value.cells, newsV_s, seval, eV]
          with_reducible refine done2 ?_
          repeat (first | refine ext_new hN ?_ | exact fun _ _ h => h)
        | true =>
          simp (disch := omega) only [J69, hB, hR, hI, e1, e2, e3, e4, wq, h3, h4, h5, all1, ress, res1, retV, Value.cells, newsV_s, seval, eV]
          with_reducible refine done2 ?_
          repeat (first | refine ext_new hN ?_ | exact fun _ _ h => h)
  have d5 := beqI c5
  by_cases c8 : cd = 8
  · subst c8
    refine ⟨8, ky, q, hcd, hky, by unfold u64R; omega, ?_⟩
    refine kval_eq hG fun H N hN => ?_
    obtain ⟨hB, hR, hI⟩ := gX hN
    cases h3 : N.g 3 with
    | false =>
      simp (disch := omega) only [J69, hB, hR, hI, e1, e2, e3, e4, wq, d5, h3, all1, ress, res1, retV, Value.cells, newsV_s, seval, eV]
      with_reducible refine done2 ?_
      repeat (first | refine ext_new hN ?_ | exact fun _ _ h => h)
    | true =>
      cases h4 : N.g 4 with
      | false =>
        simp (disch := omega) only [J69, hB, hR, hI, e1, e2, e3, e4, wq, d5, h3, h4, all1, ress, res1, retV, Value.cells, newsV_s, seval, eV]
        with_reducible refine done2 ?_
        repeat (first | refine ext_new hN ?_ | exact fun _ _ h => h)
      | true =>
        cases h5 : N.g 5 with
        | false =>
          simp (disch := omega) only [J69, hB, hR, hI, e1, e2, e3, e4, wq, d5, h3, h4, h5, all1, ress, res1, retV, Value.cells, newsV_s, seval, eV]
          with_reducible refine done2 ?_
          repeat (first | refine ext_new hN ?_ | exact fun _ _ h => h)
        | true =>
          simp (disch := omega) only [J69, hB, hR, hI, e1, e2, e3, e4, wq, d5, h3, h4, h5, all1, ress, res1, retV, Value.cells, newsV_s, seval, eV]
          with_reducible refine done2 ?_
          repeat (first | refine ext_new hN ?_ | exact fun _ _ h => h)
  have d8 := beqI c8
  refine ⟨cd, ky, vl, hcd, hky, hvl, ?_⟩
  refine kval_eq hG fun H N hN => ?_
  obtain ⟨hB, hR, hI⟩ := gX hN
  cases h3 : N.g 3 with
  | false =>
    simp (disch := omega) only [J69, hB, hR, hI, e1, e2, e3, e4, d5, d8, h3, all1, ress, res1, retV, Value.cells, newsV_s, seval, eV]
    with_reducible refine done2 ?_
    repeat (first | refine ext_new hN ?_ | exact fun _ _ h => h)
  | true =>
    cases h4 : N.g 4 with
    | false =>
      simp (disch := omega) only [J69, hB, hR, hI, e1, e2, e3, e4, d5, d8, h3, h4, all1, ress, res1, retV, Value.cells, newsV_s, seval, eV]
      with_reducible refine done2 ?_
      repeat (first | refine ext_new hN ?_ | exact fun _ _ h => h)
    | true =>
      cases h5 : N.g 5 with
      | false =>
        simp (disch := omega) only [J69, hB, hR, hI, e1, e2, e3, e4, d5, d8, h3, h4, h5, all1, ress, res1, retV, Value.cells, newsV_s, seval, eV]
        with_reducible refine done2 ?_
        repeat (first | refine ext_new hN ?_ | exact fun _ _ h => h)
      | true =>
        simp (disch := omega) only [J69, hB, hR, hI, e1, e2, e3, e4, d5, d8, h3, h4, h5, all1, ress, res1, retV, Value.cells, newsV_s, seval, eV]
        with_reducible refine done2 ?_
        repeat (first | refine ext_new hN ?_ | exact fun _ _ h => h)
end Go.Proofs.YtfhiplfagejfoaaDoor
namespace Go.Proofs.YtfhiplfagejfoaaDoor
open Go.Proofs.YtfhiplfagejfoaaDoor.K Go.ChangeShapes Go.WideShapes Go.ChangeAt Go.RowKit 
set_option maxRecDepth 100000
set_option linter.unusedSimpArgs false
set_option linter.unusedVariables false
structure S9 where
  r : Int
  ks : List Int
  vs : List Int
  ts : List Int
  cl : Bool
theorem all1_f1 (L : List Int) : all1 (fl f1 L) = true := by
  induction L with
  | nil => rfl
  | cons a L ih => exact ih
structure StW (B : OH) (H : HL) (vk vv vt : Value) (s : S9) : Prop where
  k : SlW w1 1 B H vk s.ks
  v : SlW w1 1 B H vv s.vs
  t : SlW f1 1 B H vt s.ts
theorem StW.mono {B : OH} {H H' : HL} {vk vv vt : Value} {s : S9} (h : StW B H vk vv vt s) (hF : Fr H H') : StW B H' vk vv vt s := ⟨h.k.mono hF, h.v.mono hF, h.t.mono hF⟩
section
variable {α : Type} {f : α → List Value} {sz : Nat} {B : OH} {H0 H H' : HL} {N : St} {v : Value} {L M : List α}
theorem app_nil (hf : ∀ a, (f a).length = sz) (hz : 0 < sz) {bytes : Nat} (hN : good B H N) (hW : SlW f sz B H v L) (h1 : all1 (fl f L) = true) (hb : L.length * bytes ≤ 140737488355328) (hb2 : L.length ≤ 4611686018427387904) :
    ∃ v' H' N', appR sz bytes B H N (.slice none 0 0) v (newsV sz H B v) = some (v', H', N') ∧ good B H' N' ∧ Fr H H' ∧ SlM f sz B H H' v' L := by
  obtain ⟨v4, H4, N4, e4, g4, r4, fs, s4, _⟩ := app_many (H0 := H) (bytes := bytes) (L := ([] : List α)) hf hz hN Fr.refl (.inl ⟨rfl, rfl⟩ : SlM f sz B H H (.slice none 0 0) []) hW h1 (by simpa using hb) (by simpa using hb2)
  rw [List.nil_append] at s4
  exact ⟨v4, H4, N4, e4, g4, r4, s4⟩
theorem slm_up {b : Nat} {k c : KB} (h : SlM f sz B H0 H v L) (hb : lk H0 b = some c) : SlM f sz B H0 (upH H b k) v L :=
  h.mono fun y c' hy e => by
    have : y ≠ b := fun e' => h.ne hb (by rw [hy, e'])
    rw [lk_upH, eqb this, cond_false]; exact e
theorem slc_to (hf : ∀ a, (f a).length = sz) {k : Nat} (h : SlW f sz B H v L) (hk : k ≤ L.length) : ∃ u, slcV sz none (some (.int .i64 (k : Int))) none v = some u ∧ SlW f sz B H u (L.take k) := by
  obtain ⟨a, c, rfl, hc, _⟩ := id h
  obtain ⟨a', e, hp⟩ := h.part hf (i := 0) (k := k) (by omega)
  rw [List.drop_zero] at hp
  rw [Nat.zero_mul] at e
  refine ⟨.slice a' k c, ?_, hp c (by omega)⟩
  have h1 : (0 : Int) ≤ (k : Int) ∧ (k : Int) ≤ (c : Int) := ⟨by omega, by omega⟩
  simp only [slcV, slcB, bnd, Option.bind_some, h1, and_self, if_true, Int.toNat_natCast, Nat.zero_mul, e, Nat.sub_zero]
theorem slc_from (hf : ∀ a, (f a).length = sz) {k : Nat} (h : SlW f sz B H v L) (hk : k ≤ L.length) : ∃ u, slcV sz (some (.int .i64 (k : Int))) none none v = some u ∧ SlW f sz B H u (L.drop k) := by
  obtain ⟨a, c, rfl, hc, _⟩ := id h
  obtain ⟨a', e, hp⟩ := h.part hf (i := k) (k := L.length - k) (by omega)
  have hp := hp (c - k) (by omega)
  rw [List.take_of_length_le (by rw [List.length_drop]; omega)] at hp
  refine ⟨.slice a' (L.length - k) (c - k), ?_, hp⟩
  have h1 : (0 : Int) ≤ (k : Int) ∧ (k : Int) ≤ (L.length : Int) := ⟨by omega, by omega⟩
  simp only [slcV, slcB, bnd, Option.bind_some, h1, and_self, if_true, Int.toNat_natCast, e]
end
def LrWo : FnL := ⟨(.seq (.ops [oa 4 (.mv (.const (.slice none 0 0)))])
 (.seq (.draw [pm 5 0,pm 6 1,oe 7 (.slc 1 (ot 5) none (some (ot 6)) none),pm 9 0,pm 10 1,oe 11 (.bin .add (ot 10) (oi 1)),oe 12 (.slc 1 (ot 9) (some (ot 11)) none none),oe 8 (.app [(.int .u64 0)] 8 (.const (.slice none 0 0)) (ot 7)),oe 13 (.app [(.int .u64 0)] 8 (ot 8) (ot 12)),pm 4 13])
 .ret)),
 14, [.tmp 4]⟩
theorem lowrWo : lowerFn Tryd.prog Tryd.f116 = some LrWo := by kernel_rfl
noncomputable def GrWo (B : OH) : Nat → Cs
  | _ => fun _ _ _ => none
theorem sGrWo {w0 : World} {B : OH} : SoundG Tryd.prog w0 B { f := GrWo B } := .of fun k => by
  unfold GrWo
  split
  · exact .inl fun _ _ _ => rfl
theorem enrWo : Enter Tryd.prog 116 := .of Tryd.func116 (by kernel_rfl) (by kernel_rfl)
noncomputable def TrWo (B : OH) : Cs := callF B { f := GrWo B } 1000000 LrWo
theorem sTrWo {w0 : World} {B : OH} : SoundC Tryd.prog w0 B 116 (TrWo B) := callF_sound mixedOrders sGrWo 1000000 Tryd.func116 lowrWo
noncomputable def VrWo (B : OH) : Cs := TrWo B
theorem sVrWo {w0 : World} {B : OH} : SoundC Tryd.prog w0 B 116 (VrWo B) := sTrWo
theorem xwithout {B : OH} {H : HL} {N : St} {v : Value} {L : List Int} {i : Nat} (hN : good B H N) (hv : SlW w1 1 B H v L) (hi : i < L.length) (hL : L.length ≤ 100000) : ∃ v' H' N', VrWo B [v, .int .i64 (i : Int)] H N = some (.ret v', H', N') ∧ good B H' N' ∧ Fr H H' ∧ SlM w1 1 B H H' v' (L.take i ++ L.drop (i + 1)) := by
  obtain ⟨hB, hR, hI⟩ := gX hN
  obtain ⟨u1, c1, w1_⟩ := slc_to w1_len hv (k := i) (by omega)
  obtain ⟨u2, c2, w2_⟩ := slc_from w1_len hv (k := i + 1) (by omega)
  have hi1 : ((i + 1 : Nat) : Int) = (i : Int) + 1 := by omega
  rw [hi1] at c2
  have l1 : (L.take i).length = i := by rw [List.length_take]; omega
  have l2 : (L.drop (i + 1)).length = L.length - (i + 1) := List.length_drop
  obtain ⟨v1, H1, N1, e1, g1, f1_, s1⟩ := app_nil (bytes := 8) w1_len (by omega) hN w1_ (all1_w1 _) (by omega) (by omega)
  obtain ⟨v2, H2, N2, e2, g2, f2, _, s2, _⟩ := app_many (bytes := 8) w1_len (by omega) g1 f1_ s1 (w2_.mono f1_) (all1_w1 _) (by omega) (by omega)
  have hB1 := good_B g1
  have hR1 := good_rdB g1
  have hw : IntKind.i64.wrap ((i : Int) + 1) = (i : Int) + 1 := IntWalk.i64_in _ (by omega)
  unfold VrWo
  simp (disch := omega) only [TrWo, LrWo, hB, hR, hI, lenV_sl, Int.toNat_natCast, bft, btf, gtst, st_len, c1, c2, hw, e1, e2, hB1, hR1, pad, e_skip, e_ops, e_draw, e_fork, shg_n, shg_c, shg_g, shg_r, d_none, d_nil, d_cons, d_ite, h_none, h_nil, h_cons, h_ite, eqS_same, lightV, e_seq, e_cond, e_block, e_exit, e_ret, s_normal, s_ret, s_exit, s_none, s_ite, b_normal, b_ret, b_exit, b_none, b_ite, c_bool, x_none, x_nil, x_cons, x_ite, p_some, p_none, p_ite, pt_some, pt_none, pv_some, pv_none, pv_ite, w_none, w_some, i_bool, i_undef, bt, bf, v_tmp, v_const, v_global, v_func, evs, f_normal, f_ret, f_none, f_ite, r_some, co_some, l_ptr, m_agg, m_one, sh_app, lk_nil, lk_cons, rd_eq, rdO_some, rdO_none, rdN_none, rdL_some, rdL_none, wrB_none, unitR_some, wr_nil, wr_here, wr_skip, k_cells, tk_zero, tk_take, tk_skip, tkC_some, call_func, gt, st, binV, arith, isSh, storeV, all1, idxAV, fieldV, faddrV, iaddrSV, iaddrAV, pickV, convV, unV, eqbV, eqpV, extV, mm2, mmV, nilckV, ress, res1, retV, Value.cells, cond_true, cond_false, Bool.true_or, Bool.false_or, Bool.or_true, Bool.or_false, beq_self_eq_true, if_true, if_false, ite_true, ite_false, decide_true, decide_false, decide_eq_true_eq, Nat.zero_add, Nat.add_zero, and_self, true_and, and_true, List.size_toArray, List.length_cons, List.length_nil, List.append_nil, List.nil_append, Int.toNat_zero, Bool.not_false, Bool.not_true, Bool.not_not, Bool.false_eq_true, Bool.true_eq_false, IntWalk.i64_in, IntKind.bits, eqAV, eqL, leafEq, andO, fillV, buildSV, List.getElem?_toArray, List.getElem?_cons_zero, List.getElem?_cons_succ, List.getElem?_nil, Bool.true_and, Bool.and_true, Bool.false_and, Bool.and_false, Bool.and_self, IntWalk.u64_in, Int.cast_ofNat_Int, callF1, pad16, pad_0, pad_1, pad_2, pad_3, pad_4, pad_5, pad_6, pad_7, pad_8, pad_9, pad_10, pad_11, pad_12, pad_13, pad_14, pad_15, gc0, gc1, gc2, gc3, gc4, gc5, gc6, gc7, gc8, gc9, gc10, gc11, gc12, gc13, gc14, gc15, gcS, sc0, sc1, sc2, sc3, sc4, sc5, sc6, sc7, sc8, sc9, sc10, sc11, sc12, sc13, sc14, sc15, scS, List.drop_succ_cons, List.drop_nil, x_pan, s_pan, b_pan, pE_ret, pE_pan, pE_none, pE_ite, pvE_some, pvE_none, pvE_ite, rv_some, rv_none, rv_ite, oR_ret, t_mv, t_pick, t_alloc, t_box, t_build, t_buildS, t_load, t_store, t_nilck, t_bin, t_eqb, t_eqA, t_eqp, t_un, t_conv, t_field, t_idxA, t_faddr, t_iaddrS, t_iaddrA, t_ext, t_len, t_mm, t_call, t_ifc, t_fn, t_slc, t_slcA, t_slcT, t_tass, t_isn, t_mks, t_app, t_pan, panE_i, optE_none, optE_some, bnd_none, bnd_int, slA_none, slA_some, appR_some, appOld_cells, newsV_n, lenS_s, appV_nil, appV_some, mksV_i, sh_c, sh_g, f_pan, endD_ret, dfr_normal, dfr_ret, dfr_pan, restD_normal, callD1, callC1, tassV, isnV, slcAV, slcTV, slcB, appNew, Option.bind_some, Option.bind_none, d_pan, h_pan, wrH_eq, wrX_cells, wrU_some, upH_nil, upH_cons, lk_upH, effR_some, effR_none, effR_ite, Option.isNone_none, Option.isNone_some, slA_zero, call_yield, e_range, it_func, wy_same, y_call, isLp_self, beg_normal, end_normal, end_ret, end_exit, end_ite, aft_ret, aft_ready, aft_done, aft_exit, setP_cons, setP_nil, sh_r, t_mkmap, t_mlook, t_mupd, t_mdel, t_eqs, t_appZ, t_cpy, eqsV, mapF_some, lookF_some, setM_some, lookR_t, lookR_n, lookR_f, lookR_fn, lookV, mupdV, mdelV, mkM, seval]
  exact ⟨_, _, _, rfl, g2, f2, s2⟩
def LrWi : FnL := ⟨(.seq (.ops [oa 6 (.mv (.const (.slice none 0 0)))])
 (.seq (.seq (.draw [pm 7 0,pm 8 1,oe 9 (.slc 1 (ot 7) none (some (ot 8)) none),pm 11 2,pm 14 0,pm 15 1,oe 16 (.slc 1 (ot 14) (some (ot 15)) none none)])
 (.fork (.draw [oe 10 (.app [(.int .u64 0)] 8 (.const (.slice none 0 0)) (ot 9)),oe 12 (.buildS [(.int .u64 0)] 1 [(0, 1, (ot 11))]),oe 13 (.app [(.int .u64 0)] 8 (ot 10) (ot 12)),oe 17 (.app [(.int .u64 0)] 8 (ot 13) (ot 16)),pm 6 17])
 (.draw [oe 12 (.buildS [(.int .u64 0)] 1 [(0, 1, (ot 11))]),oe 10 (.app [(.int .u64 0)] 8 (.const (.slice none 0 0)) (ot 9)),oe 13 (.app [(.int .u64 0)] 8 (ot 10) (ot 12)),oe 17 (.app [(.int .u64 0)] 8 (ot 13) (ot 16)),pm 6 17])))
 .ret)),
 18, [.tmp 6]⟩
theorem lowrWi : lowerFn Tryd.prog Tryd.f117 = some LrWi := by kernel_rfl
noncomputable def GrWi (B : OH) : Nat → Cs
  | _ => fun _ _ _ => none
theorem sGrWi {w0 : World} {B : OH} : SoundG Tryd.prog w0 B { f := GrWi B } := .of fun k => by
  unfold GrWi
  split
  · exact .inl fun _ _ _ => rfl
theorem enrWi : Enter Tryd.prog 117 := .of Tryd.func117 (by kernel_rfl) (by kernel_rfl)
noncomputable def TrWi (B : OH) : Cs := callF B { f := GrWi B } 1000000 LrWi
theorem sTrWi {w0 : World} {B : OH} : SoundC Tryd.prog w0 B 117 (TrWi B) := callF_sound mixedOrders sGrWi 1000000 Tryd.func117 lowrWi
noncomputable def VrWi (B : OH) : Cs := TrWi B
theorem sVrWi {w0 : World} {B : OH} : SoundC Tryd.prog w0 B 117 (VrWi B) := sTrWi
theorem xwith {B : OH} {H : HL} {N : St} {v : Value} {L : List Int} {i : Nat} {x : Int} (hN : good B H N) (hv : SlW w1 1 B H v L) (hi : i ≤ L.length) (hL : L.length ≤ 100000) : ∃ v' H' N', VrWi B [v, .int .i64 (i : Int), .int .u64 x] H N = some (.ret v', H', N') ∧ good B H' N' ∧ Fr H H' ∧ SlM w1 1 B H H' v' (L.take i ++ [x] ++ L.drop i) := by
  obtain ⟨hB, hR, hI⟩ := gX hN
  obtain ⟨u1, c1, w1_⟩ := slc_to w1_len hv (k := i) (by omega)
  obtain ⟨u2, c2, w2_⟩ := slc_from w1_len hv (k := i) (by omega)
  have l1 : (L.take i).length = i := by rw [List.length_take]; omega
  have l2 : (L.drop i).length = L.length - i := List.length_drop
  have gg : ∀ {H N}, good B H N → good B H (shg N) := fun h => h
  unfold VrWi
  cases hg : N.g 0 with
  | true =>
    obtain ⟨v1, H1, N1, e1, g1, f1_, s1⟩ := app_nil (bytes := 8) w1_len (by omega) (gg hN) w1_ (all1_w1 _) (by omega) (by omega)
    have gs : good B ((N1.n 0, .cells [.int .u64 x] 1) :: H1) (sh N1) := good_new g1
    have fs : Fr H1 ((N1.n 0, .cells [.int .u64 x] 1) :: H1) := fr_new g1 Fr.refl 0
    have ss : SlN w1 1 B H1 ((N1.n 0, .cells [.int .u64 x] 1) :: H1) (.slice (some ⟨N1.n 0, 0, none⟩) 1 1) [x] := slN_new g1 [x] rfl rfl rfl
    obtain ⟨v2, H2, N2, e2, g2, f2, _, s2, _⟩ := app_many (H0 := H) (bytes := 8) w1_len (by omega) gs (f1_.trans fs) (s1.mono fun y c _ e => fs y c e) (ss.toM.wh w1_len) (all1_w1 _) (by simp only [List.length_cons, List.length_nil]; omega) (by simp only [List.length_cons, List.length_nil]; omega)
    obtain ⟨v3, H3, N3, e3, g3, f3, _, s3, _⟩ := app_many (H0 := H) (bytes := 8) w1_len (by omega) g2 f2 s2 (w2_.mono f2) (all1_w1 _) (by simp only [List.length_append, List.length_cons, List.length_nil]; omega) (by simp only [List.length_append, List.length_cons, List.length_nil]; omega)
    have hB1 := good_B g1
    have hR1 := good_rdB g1
    have hB2 := good_B g2
    have hR2 := good_rdB g2
    simp (disch := omega) only [TrWi, LrWi, hB, hR, hI, lenV_sl, Int.toNat_natCast, bft, btf, gtst, st_len, hg, c1, c2, e1, e2, e3, hB1, hR1, hB2, hR2, pad, e_skip, e_ops, e_draw, e_fork, shg_n, shg_c, shg_g, shg_r, d_none, d_nil, d_cons, d_ite, h_none, h_nil, h_cons, h_ite, eqS_same, lightV, e_seq, e_cond, e_block, e_exit, e_ret, s_normal, s_ret, s_exit, s_none, s_ite, b_normal, b_ret, b_exit, b_none, b_ite, c_bool, x_none, x_nil, x_cons, x_ite, p_some, p_none, p_ite, pt_some, pt_none, pv_some, pv_none, pv_ite, w_none, w_some, i_bool, i_undef, bt, bf, v_tmp, v_const, v_global, v_func, evs, f_normal, f_ret, f_none, f_ite, r_some, co_some, l_ptr, m_agg, m_one, sh_app, lk_nil, lk_cons, rd_eq, rdO_some, rdO_none, rdN_none, rdL_some, rdL_none, wrB_none, unitR_some, wr_nil, wr_here, wr_skip, k_cells, tk_zero, tk_take, tk_skip, tkC_some, call_func, gt, st, binV, arith, isSh, storeV, all1, idxAV, fieldV, faddrV, iaddrSV, iaddrAV, pickV, convV, unV, eqbV, eqpV, extV, mm2, mmV, nilckV, ress, res1, retV, Value.cells, cond_true, cond_false, Bool.true_or, Bool.false_or, Bool.or_true, Bool.or_false, beq_self_eq_true, if_true, if_false, ite_true, ite_false, decide_true, decide_false, decide_eq_true_eq, Nat.zero_add, Nat.add_zero, and_self, true_and, and_true, List.size_toArray, List.length_cons, List.length_nil, List.append_nil, List.nil_append, Int.toNat_zero, Bool.not_false, Bool.not_true, Bool.not_not, Bool.false_eq_true, Bool.true_eq_false, IntWalk.i64_in, IntKind.bits, eqAV, eqL, leafEq, andO, fillV, buildSV, List.getElem?_toArray, List.getElem?_cons_zero, List.getElem?_cons_succ, List.getElem?_nil, Bool.true_and, Bool.and_true, Bool.false_and, Bool.and_false, Bool.and_self, IntWalk.u64_in, Int.cast_ofNat_Int, callF1, pad16, pad_0, pad_1, pad_2, pad_3, pad_4, pad_5, pad_6, pad_7, pad_8, pad_9, pad_10, pad_11, pad_12, pad_13, pad_14, pad_15, gc0, gc1, gc2, gc3, gc4, gc5, gc6, gc7, gc8, gc9, gc10, gc11, gc12, gc13, gc14, gc15, gcS, sc0, sc1, sc2, sc3, sc4, sc5, sc6, sc7, sc8, sc9, sc10, sc11, sc12, sc13, sc14, sc15, scS, List.drop_succ_cons, List.drop_nil, x_pan, s_pan, b_pan, pE_ret, pE_pan, pE_none, pE_ite, pvE_some, pvE_none, pvE_ite, rv_some, rv_none, rv_ite, oR_ret, t_mv, t_pick, t_alloc, t_box, t_build, t_buildS, t_load, t_store, t_nilck, t_bin, t_eqb, t_eqA, t_eqp, t_un, t_conv, t_field, t_idxA, t_faddr, t_iaddrS, t_iaddrA, t_ext, t_len, t_mm, t_call, t_ifc, t_fn, t_slc, t_slcA, t_slcT, t_tass, t_isn, t_mks, t_app, t_pan, panE_i, optE_none, optE_some, bnd_none, bnd_int, slA_none, slA_some, appR_some, appOld_cells, newsV_n, lenS_s, appV_nil, appV_some, mksV_i, sh_c, sh_g, f_pan, endD_ret, dfr_normal, dfr_ret, dfr_pan, restD_normal, callD1, callC1, tassV, isnV, slcAV, slcTV, slcB, appNew, Option.bind_some, Option.bind_none, d_pan, h_pan, wrH_eq, wrX_cells, wrU_some, upH_nil, upH_cons, lk_upH, effR_some, effR_none, effR_ite, Option.isNone_none, Option.isNone_some, slA_zero, call_yield, e_range, it_func, wy_same, y_call, isLp_self, beg_normal, end_normal, end_ret, end_exit, end_ite, aft_ret, aft_ready, aft_done, aft_exit, setP_cons, setP_nil, sh_r, t_mkmap, t_mlook, t_mupd, t_mdel, t_eqs, t_appZ, t_cpy, eqsV, mapF_some, lookF_some, setM_some, lookR_t, lookR_n, lookR_f, lookR_fn, lookV, mupdV, mdelV, mkM, seval]
    exact ⟨_, _, _, rfl, g3, f3, s3⟩
  | false =>
    have gs : good B ((N.n 0, .cells [.int .u64 x] 1) :: H) (sh (shg N)) := good_new (gg hN)
    have fs : Fr H ((N.n 0, .cells [.int .u64 x] 1) :: H) := fr_new hN Fr.refl 0
    have ss : SlN w1 1 B H ((N.n 0, .cells [.int .u64 x] 1) :: H) (.slice (some ⟨N.n 0, 0, none⟩) 1 1) [x] := slN_new hN [x] rfl rfl rfl
    obtain ⟨v1, H1, N1, e1, g1, f1_, s1⟩ := app_nil (bytes := 8) w1_len (by omega) gs (w1_.mono fs) (all1_w1 _) (by omega) (by omega)
    have s1 := s1.low fs.dm
    obtain ⟨v2, H2, N2, e2, g2, f2, _, s2, _⟩ := app_many (H0 := H) (bytes := 8) w1_len (by omega) g1 (fs.trans f1_) s1 ((ss.toM.wh w1_len).mono f1_) (all1_w1 _) (by simp only [List.length_cons, List.length_nil]; omega) (by simp only [List.length_cons, List.length_nil]; omega)
    obtain ⟨v3, H3, N3, e3, g3, f3, _, s3, _⟩ := app_many (H0 := H) (bytes := 8) w1_len (by omega) g2 f2 s2 (w2_.mono f2) (all1_w1 _) (by simp only [List.length_append, List.length_cons, List.length_nil]; omega) (by simp only [List.length_append, List.length_cons, List.length_nil]; omega)
    have hB1 := good_B g1
    have hR1 := good_rdB g1
    have hB2 := good_B g2
    have hR2 := good_rdB g2
    simp (disch := omega) only [TrWi, LrWi, hB, hR, hI, lenV_sl, Int.toNat_natCast, bft, btf, gtst, st_len, hg, c1, c2, e1, e2, e3, hB1, hR1, hB2, hR2, pad, e_skip, e_ops, e_draw, e_fork, shg_n, shg_c, shg_g, shg_r, d_none, d_nil, d_cons, d_ite, h_none, h_nil, h_cons, h_ite, eqS_same, lightV, e_seq, e_cond, e_block, e_exit, e_ret, s_normal, s_ret, s_exit, s_none, s_ite, b_normal, b_ret, b_exit, b_none, b_ite, c_bool, x_none, x_nil, x_cons, x_ite, p_some, p_none, p_ite, pt_some, pt_none, pv_some, pv_none, pv_ite, w_none, w_some, i_bool, i_undef, bt, bf, v_tmp, v_const, v_global, v_func, evs, f_normal, f_ret, f_none, f_ite, r_some, co_some, l_ptr, m_agg, m_one, sh_app, lk_nil, lk_cons, rd_eq, rdO_some, rdO_none, rdN_none, rdL_some, rdL_none, wrB_none, unitR_some, wr_nil, wr_here, wr_skip, k_cells, tk_zero, tk_take, tk_skip, tkC_some, call_func, gt, st, binV, arith, isSh, storeV, all1, idxAV, fieldV, faddrV, iaddrSV, iaddrAV, pickV, convV, unV, eqbV, eqpV, extV, mm2, mmV, nilckV, ress, res1, retV, Value.cells, cond_true, cond_false, Bool.true_or, Bool.false_or, Bool.or_true, Bool.or_false, beq_self_eq_true, if_true, if_false, ite_true, ite_false, decide_true, decide_false, decide_eq_true_eq, Nat.zero_add, Nat.add_zero, and_self, true_and, and_true, List.size_toArray, List.length_cons, List.length_nil, List.append_nil, List.nil_append, Int.toNat_zero, Bool.not_false, Bool.not_true, Bool.not_not, Bool.false_eq_true, Bool.true_eq_false, IntWalk.i64_in, IntKind.bits, eqAV, eqL, leafEq, andO, fillV, buildSV, List.getElem?_toArray, List.getElem?_cons_zero, List.getElem?_cons_succ, List.getElem?_nil, Bool.true_and, Bool.and_true, Bool.false_and, Bool.and_false, Bool.and_self, IntWalk.u64_in, Int.cast_ofNat_Int, callF1, pad16, pad_0, pad_1, pad_2, pad_3, pad_4, pad_5, pad_6, pad_7, pad_8, pad_9, pad_10, pad_11, pad_12, pad_13, pad_14, pad_15, gc0, gc1, gc2, gc3, gc4, gc5, gc6, gc7, gc8, gc9, gc10, gc11, gc12, gc13, gc14, gc15, gcS, sc0, sc1, sc2, sc3, sc4, sc5, sc6, sc7, sc8, sc9, sc10, sc11, sc12, sc13, sc14, sc15, scS, List.drop_succ_cons, List.drop_nil, x_pan, s_pan, b_pan, pE_ret, pE_pan, pE_none, pE_ite, pvE_some, pvE_none, pvE_ite, rv_some, rv_none, rv_ite, oR_ret, t_mv, t_pick, t_alloc, t_box, t_build, t_buildS, t_load, t_store, t_nilck, t_bin, t_eqb, t_eqA, t_eqp, t_un, t_conv, t_field, t_idxA, t_faddr, t_iaddrS, t_iaddrA, t_ext, t_len, t_mm, t_call, t_ifc, t_fn, t_slc, t_slcA, t_slcT, t_tass, t_isn, t_mks, t_app, t_pan, panE_i, optE_none, optE_some, bnd_none, bnd_int, slA_none, slA_some, appR_some, appOld_cells, newsV_n, lenS_s, appV_nil, appV_some, mksV_i, sh_c, sh_g, f_pan, endD_ret, dfr_normal, dfr_ret, dfr_pan, restD_normal, callD1, callC1, tassV, isnV, slcAV, slcTV, slcB, appNew, Option.bind_some, Option.bind_none, d_pan, h_pan, wrH_eq, wrX_cells, wrU_some, upH_nil, upH_cons, lk_upH, effR_some, effR_none, effR_ite, Option.isNone_none, Option.isNone_some, slA_zero, call_yield, e_range, it_func, wy_same, y_call, isLp_self, beg_normal, end_normal, end_ret, end_exit, end_ite, aft_ret, aft_ready, aft_done, aft_exit, setP_cons, setP_nil, sh_r, t_mkmap, t_mlook, t_mupd, t_mdel, t_eqs, t_appZ, t_cpy, eqsV, mapF_some, lookF_some, setM_some, lookR_t, lookR_n, lookR_f, lookR_fn, lookV, mupdV, mdelV, mkM, seval]
    exact ⟨_, _, _, rfl, g3, f3, s3⟩
end Go.Proofs.YtfhiplfagejfoaaDoor
namespace Go.Proofs.YtfhiplfagejfoaaDoor
open Go.Proofs.YtfhiplfagejfoaaDoor.K Go.ChangeShapes Go.WideShapes Go.ChangeAt Go.RowKit 
set_option maxRecDepth 100000
set_option linter.unusedSimpArgs false
set_option linter.unusedVariables false
theorem all1_3 {B : OH} {H1 H2 H3 : HL} {vk vv vt : Value} {K V T : List Int} (hk : SlW w1 1 B H1 vk K) (hv : SlW w1 1 B H2 vv V) (ht : SlW f1 1 B H3 vt T) (b : Bool) : all1 [vk, vv, vt, .bool b] = true := by
  obtain ⟨_, _, rfl, _⟩ := id hk
  obtain ⟨_, _, rfl, _⟩ := id hv
  obtain ⟨_, _, rfl, _⟩ := id ht
  rfl
theorem StW.all {B : OH} {H : HL} {vk vv vt : Value} {s : S9} (h : StW B H vk vv vt s) (b : Bool) : all1 [vk, vv, vt, .bool b] = true := all1_3 h.k h.v h.t b
def Lref09Own : FnL := ⟨(.seq (.ops [oa 1 (.box (ot 0)),oa 2 (.alloc [(.int .u64 0), (.slice none 0 0), (.slice none 0 0), (.slice none 0 0), (.bool false)])])
 (.seq (.ops [og 3 1 1,ol 4 3,oa 5 (.app [(.int .u64 0)] 8 (.const (.slice none 0 0)) (ot 4)),og 6 1 1, oc (.store 1 (ot 6) (ot 5))])
 (.seq (.ops [og 7 2 1,ol 8 7,oa 9 (.app [(.int .u64 0)] 8 (.const (.slice none 0 0)) (ot 8)),og 10 2 1, oc (.store 1 (ot 10) (ot 9))])
 (.seq (.ops [og 11 3 1,ol 12 11,oa 13 (.app [(.int .i64 0)] 8 (.const (.slice none 0 0)) (ot 12)),og 14 3 1, oc (.store 1 (ot 14) (ot 13))])
 (.seq (.ops [oa 15 (.load true 5 (ot 1)), oc (.store 5 (ot 2) (ot 15))])
 .ret))))),
 16, [.cell 2 true 5]⟩
theorem lowref09Own : lowerFn Tryd.prog Tryd.f86 = some Lref09Own := by kernel_rfl
noncomputable def Gref09Own (B : OH) : Nat → Cs
  | _ => fun _ _ _ => none
theorem sGref09Own {w0 : World} {B : OH} : SoundG Tryd.prog w0 B { f := Gref09Own B } := .of fun k => by
  unfold Gref09Own
  split
  · exact .inl fun _ _ _ => rfl
theorem enref09Own : Enter Tryd.prog 86 := .of Tryd.func86 (by kernel_rfl) (by kernel_rfl)
noncomputable def Tref09Own (B : OH) : Cs := callF B { f := Gref09Own B } 1000000 Lref09Own
theorem sTref09Own {w0 : World} {B : OH} : SoundC Tryd.prog w0 B 86 (Tref09Own B) := callF_sound mixedOrders sGref09Own 1000000 Tryd.func86 lowref09Own
noncomputable def Vref09Own (B : OH) : Cs := Tref09Own B
theorem sVref09Own {w0 : World} {B : OH} : SoundC Tryd.prog w0 B 86 (Vref09Own B) := sTref09Own
theorem J70 : Said (an @Tref09Own.eq_1 <| an @Lref09Own.eq_1 <| trivial) := said_ok _
set_option maxHeartbeats 4000000 in
theorem xOwn {B : OH} {H : HL} {N : St} {vk vv vt : Value} {s : S9} (hN : good B H N) (hs : StW B H vk vv vt s) (lk_ : s.ks.length ≤ 100000) (lv_ : s.vs.length ≤ 100000) (lt_ : s.ts.length ≤ 100000) :
    ∃ vk' vv' vt' H' N', Vref09Own B [.agg #[.int .u64 s.r, vk, vv, vt, .bool s.cl]] H N = some (.ret (.agg #[.int .u64 s.r, vk', vv', vt', .bool s.cl]), H', N') ∧ good B H' N' ∧ Fr H H' ∧ SlM w1 1 B H H' vk' s.ks ∧ SlM w1 1 B H H' vv' s.vs ∧ SlM f1 1 B H H' vt' s.ts := by
  obtain ⟨hB, hR, hI⟩ := gX hN
  have hG : ∃ H N, good B H N := ⟨H, N, hN⟩
  have b0 := hB 0
  have b1 := hB 1
  have rb0 := rN b0
  have rb1 := rN b1
  obtain ⟨H2, hH2⟩ : ∃ H2, H2 = (N.n 1, (.cells [.int .u64 0, .slice none 0 0, .slice none 0 0, .slice none 0 0, .bool false] 5 : KB)) :: (N.n 0, (.cells [.int .u64 s.r, vk, vv, vt, .bool s.cl] 5 : KB)) :: H := ⟨_, rfl⟩
  have g1 : good B ((N.n 0, .cells [.int .u64 s.r, vk, vv, vt, .bool s.cl] 5) :: H) (sh N) := good_new hN
  have g2 : good B H2 (sh (sh N)) := by rw [hH2]; exact good_new g1
  have f2 : Fr H H2 := by rw [hH2]; exact fr_new g1 (fr_new hN Fr.refl 0) 0
  have q0 : lk H2 (N.n 0) = some (.cells [.int .u64 s.r, vk, vv, vt, .bool s.cl] 5) := by rw [hH2]; simp only [lk_cons, hI]; rfl
  have q1 : lk H2 (N.n 1) = some (.cells [.int .u64 0, .slice none 0 0, .slice none 0 0, .slice none 0 0, .bool false] 5) := by rw [hH2]; simp only [lk_cons, hI]; rfl
  have n10 : (N.n 1 == N.n 0) = false := hI 1 0
  have n01 : (N.n 0 == N.n 1) = false := hI 0 1
  obtain ⟨v1, H3, N3, e1, g3, f3, s1⟩ := app_nil (bytes := 8) w1_len (by omega) g2 (hs.k.mono f2) (all1_w1 _) (by omega) (by omega)
  have p0 := f3 _ _ q0
  have p1 := f3 _ _ q1
  obtain ⟨a1, c1, rfl, _⟩ := id (s1.wh w1_len)
  have g4 := good_up (k := .cells [.int .u64 s.r, .slice a1 s.ks.length c1, vv, vt, .bool s.cl] 5) g3 b0 p0
  have s1 := slm_up (k := .cells [.int .u64 s.r, .slice a1 s.ks.length c1, vv, vt, .bool s.cl] 5) s1 q0
  obtain ⟨H4, hH4⟩ : ∃ H4, H4 = upH H3 (N.n 0) (.cells [.int .u64 s.r, .slice a1 s.ks.length c1, vv, vt, .bool s.cl] 5) := ⟨_, rfl⟩
  have q4 : lk H4 (N.n 0) = some (.cells [.int .u64 s.r, .slice a1 s.ks.length c1, vv, vt, .bool s.cl] 5) := by rw [hH4, lk_upH, beq_self_eq_true, cond_true]
  have p4 : lk H4 (N.n 1) = some (.cells [.int .u64 0, .slice none 0 0, .slice none 0 0, .slice none 0 0, .bool false] 5) := by rw [hH4, lk_upH, n10, cond_false]; exact p1
  have f4 : Fr H H4 := by rw [hH4]; exact fr_up (f2.trans f3) (lk_N hN 0)
  rw [← hH4] at g4 s1
  obtain ⟨v2, H5, N5, e2, g5, f5, s2⟩ := app_nil (bytes := 8) w1_len (by omega) g4 (hs.v.mono f4) (all1_w1 _) (by omega) (by omega)
  have q5 := f5 _ _ q4
  have p5 := f5 _ _ p4
  obtain ⟨a2, c2, rfl, _⟩ := id (s2.wh w1_len)
  have g6 := good_up (k := .cells [.int .u64 s.r, .slice a1 s.ks.length c1, .slice a2 s.vs.length c2, vt, .bool s.cl] 5) g5 b0 q5
  have s1 := slm_up (k := .cells [.int .u64 s.r, .slice a1 s.ks.length c1, .slice a2 s.vs.length c2, vt, .bool s.cl] 5) (s1.mono fun y c _ e => f5 y c e) q0
  have s2 := slm_up (k := .cells [.int .u64 s.r, .slice a1 s.ks.length c1, .slice a2 s.vs.length c2, vt, .bool s.cl] 5) s2 q4
  obtain ⟨H6, hH6⟩ : ∃ H6, H6 = upH H5 (N.n 0) (.cells [.int .u64 s.r, .slice a1 s.ks.length c1, .slice a2 s.vs.length c2, vt, .bool s.cl] 5) := ⟨_, rfl⟩
  have q6 : lk H6 (N.n 0) = some (.cells [.int .u64 s.r, .slice a1 s.ks.length c1, .slice a2 s.vs.length c2, vt, .bool s.cl] 5) := by rw [hH6, lk_upH, beq_self_eq_true, cond_true]
  have p6 : lk H6 (N.n 1) = some (.cells [.int .u64 0, .slice none 0 0, .slice none 0 0, .slice none 0 0, .bool false] 5) := by rw [hH6, lk_upH, n10, cond_false]; exact p5
  have f6 : Fr H H6 := by rw [hH6]; exact fr_up (f4.trans f5) (lk_N hN 0)
  rw [← hH6] at g6 s1 s2
  obtain ⟨v3, H7, N7, e3, g7, f7, s3⟩ := app_nil (bytes := 8) f1_len (by omega) g6 (hs.t.mono f6) (all1_f1 _) (by omega) (by omega)
  have q7 := f7 _ _ q6
  have p7 := f7 _ _ p6
  obtain ⟨a3, c3, rfl, _⟩ := id (s3.wh f1_len)
  have g8 := good_up (k := .cells [.int .u64 s.r, .slice a1 s.ks.length c1, .slice a2 s.vs.length c2, .slice a3 s.ts.length c3, .bool s.cl] 5) g7 b0 q7
  have s1 := slm_up (k := .cells [.int .u64 s.r, .slice a1 s.ks.length c1, .slice a2 s.vs.length c2, .slice a3 s.ts.length c3, .bool s.cl] 5) (s1.mono fun y c _ e => f7 y c e) q0
  have s2 := slm_up (k := .cells [.int .u64 s.r, .slice a1 s.ks.length c1, .slice a2 s.vs.length c2, .slice a3 s.ts.length c3, .bool s.cl] 5) (s2.mono fun y c _ e => f7 y c e) q4
  have s3 := slm_up (k := .cells [.int .u64 s.r, .slice a1 s.ks.length c1, .slice a2 s.vs.length c2, .slice a3 s.ts.length c3, .bool s.cl] 5) s3 q6
  have p8 : lk (upH H7 (N.n 0) (.cells [.int .u64 s.r, .slice a1 s.ks.length c1, .slice a2 s.vs.length c2, .slice a3 s.ts.length c3, .bool s.cl] 5)) (N.n 1) = some (.cells [.int .u64 0, .slice none 0 0, .slice none 0 0, .slice none 0 0, .bool false] 5) := by rw [lk_upH, n10, cond_false]; exact p7
  have f8 : Fr H (upH H7 (N.n 0) (.cells [.int .u64 s.r, .slice a1 s.ks.length c1, .slice a2 s.vs.length c2, .slice a3 s.ts.length c3, .bool s.cl] 5)) := fr_up (f6.trans f7) (lk_N hN 0)
  have g9 := good_up (k := .cells [.int .u64 s.r, .slice a1 s.ks.length c1, .slice a2 s.vs.length c2, .slice a3 s.ts.length c3, .bool s.cl] 5) g8 b1 p8
  rw [hH2] at e1
  rw [hH4] at e2
  rw [hH6] at e3
  unfold Vref09Own
  simp (disch := omega) only [J70, hB, hR, hI, e1, e2, e3, p0, p1, q5, p5, q7, p7, b0, b1, rb0, rb1, n10, n01, all1, ress, res1, retV, Value.cells, seval, eV]
  exact ⟨_, _, _, _, _, rfl, g9, fr_up f8 (lk_N hN 1), (slm_up s1 q1).low f2.dm, (slm_up s2 p4).low f4.dm, (slm_up s3 p6).low f6.dm⟩
end Go.Proofs.YtfhiplfagejfoaaDoor
namespace Go.Proofs.YtfhiplfagejfoaaDoor
open Go.Proofs.YtfhiplfagejfoaaDoor.K Go.ChangeShapes Go.WideShapes Go.ChangeAt Go.RowKit 
set_option maxRecDepth 100000
set_option linter.unusedSimpArgs false
set_option linter.unusedVariables false
structure Rt (kk cc : Nat) (s : S9) : Prop where
  ru : u64R s.r
  ku : U64s s.ks
  vu : U64s s.vs
  r1 : kk = 1 → cnI s.r = s.r
  r0 : kk ≠ 1 → s.r = 0
  k0 : ¬ (kk = 2 ∨ kk = 3 ∨ kk = 4) → s.ks = []
  v0 : ¬ (kk = 3 ∨ kk = 4) → s.vs = []
  t0 : kk ≠ 5 → s.ts = [] ∧ s.cl = false
  kl : s.ks.length ≤ cc
  vl : (kk = 3 ∨ kk = 4) → s.vs.length = s.ks.length
  ok : ∀ i, i < s.ks.length → okK kk (s.ks.getD i 0) ∧ mnI kk (s.ks.getD i 0) = s.ks.getD i 0
  so : ∀ i, i + 1 < s.ks.length → kyI kk (s.ks.getD i 0) < kyI kk (s.ks.getD (i + 1) 0)
  tl : kk = 5 → s.ts.length = cc
  tb : ∀ i, i < s.ts.length → 0 ≤ s.ts.getD i 0 ∧ s.ts.getD i 0 ≤ 8
theorem rd_w {f : Int → List Value} (hf : ∀ a, (f a).length = 1) {B : OH} {H : HL} {v : Value} {L : List Int} (h : SlW f 1 B H v L) (hL : 0 < L.length) : ∃ b o c, v = .slice (some ⟨b, o, none⟩) L.length c ∧ ∀ H', Fr H H' → ∀ i, i < L.length → rdO H' B b (o + i) 1 (rdB B b (o + i) 1) = some (f (L.getD i 0)) := by
  obtain ⟨b, o, c, e, _, rr⟩ := (h.rd hf).at hL
  refine ⟨b, o, c, e, fun H' hF i hi => ?_⟩
  have := SlR.read rr hf hF 0 hi
  rw [Nat.mul_one] at this
  exact this
def Lref09New : FnL := ⟨(.seq (.ops [oa 1 (.box (ot 0)),oa 2 (.alloc [(.int .u64 0), (.slice none 0 0), (.slice none 0 0), (.slice none 0 0), (.bool false)]),oa 3 (.mv (oi 0))])
 (.seq (.seq (.ops [oa 5 (.load true 3 (ot 1)),oa 6 (.call (.func 39) [(ot 5)]),oa 7 (.un .not (ot 6))])
 (.cond (ot 7) (.seq (.ops [oa 8 (.build [(.int .u64 0), (.slice none 0 0), (.slice none 0 0), (.slice none 0 0), (.bool false)] []), oc (.store 5 (ot 2) (ot 8)),oa 3 (.mv (oi 5))])
 .ret)
 .skip))
 (.seq (.ops [oa 9 (.build [(.int .u64 0), (.slice none 0 0), (.slice none 0 0), (.slice none 0 0), (.bool false)] []),oa 4 (.alloc [(.int .u64 0), (.slice none 0 0), (.slice none 0 0), (.slice none 0 0), (.bool false)]), oc (.store 5 (ot 4) (ot 9))])
 (.seq (.seq (.ops [og 10 0 1,ol 11 10,oa 12 (.bin .eql (ot 11) (oi 5))])
 (.cond (ot 12) (.ops [og 13 2 1,ol 14 13,oa 15 (.mks [(.int .i64 0)] 8 (ot 14) (ot 14)),og 16 3 4, oc (.store 1 (ot 16) (ot 15))])
 .skip))
 (.seq (.ops [oa 17 (.load true 5 (ot 4)), oc (.store 5 (ot 2) (ot 17)),oa 3 (.mv (oi 0))])
 .ret))))),
 18, [.cell 2 true 5, .tmp 3]⟩
theorem lowref09New : lowerFn Tryd.prog Tryd.f73 = some Lref09New := by kernel_rfl
noncomputable def Gref09New (B : OH) : Nat → Cs
  | 39 => Vref04Fits B
  | _ => fun _ _ _ => none
theorem Gref09New_ref04Fits {B : OH} : Gref09New B 39 = Vref04Fits B := rfl
theorem sGref09New {w0 : World} {B : OH} : SoundG Tryd.prog w0 B { f := Gref09New B } := .of fun k => by
  unfold Gref09New
  split
  · exact .inr ⟨enref04Fits, sVref04Fits⟩
  · exact .inl fun _ _ _ => rfl
theorem enref09New : Enter Tryd.prog 73 := .of Tryd.func73 (by kernel_rfl) (by kernel_rfl)
noncomputable def Tref09New (B : OH) : Cs := callF B { f := Gref09New B } 1000000 Lref09New
theorem sTref09New {w0 : World} {B : OH} : SoundC Tryd.prog w0 B 73 (Tref09New B) := callF_sound mixedOrders sGref09New 1000000 Tryd.func73 lowref09New
noncomputable def Vref09New (B : OH) : Cs := Tref09New B
theorem sVref09New {w0 : World} {B : OH} : SoundC Tryd.prog w0 B 73 (Vref09New B) := sTref09New
theorem J71 : Said (an @Tref09New.eq_1 <| an @Lref09New.eq_1 <| an @Gref09New_ref04Fits <| an @Vref04Fits_eq <| trivial) := said_ok _
set_option maxHeartbeats 4000000 in
theorem xNew {B : OH} {H : HL} {N : St} {kk p cc h : Nat} (C : Cf kk p cc h) (hN : good B H N) : ∃ vt ts H' N', Vref09New B [.agg #[.int .i64 (kk : Int), .int .i64 (p : Int), .int .i64 (cc : Int)]] H N = some (.ret (.tuple #[.agg #[.int .u64 0, .slice none 0 0, .slice none 0 0, vt, .bool false], .int .i64 0]), H', N') ∧ good B H' N' ∧ Fr H H' ∧ SlM f1 1 B H H' vt ts ∧ ts = if kk = 5 then List.replicate cc 0 else [] := by
  obtain ⟨hB, hR, hI⟩ := gX hN
  have hG : ∃ H N, good B H N := ⟨H, N, hN⟩
  have e := rFits1 hG C
  have hc := C.c
  have n3 : (0 : Int) ≤ (cc : Int) := by omega
  have n4 : (cc : Int) ≤ (cc : Int) := Int.le_refl _
  have n5 : (cc : Int) ≤ 140737488355328 := by omega
  have n6 : (8 : Int) * (cc : Int) ≤ 140737488355328 := by omega
  unfold Vref09New
  by_cases hk : kk = 5
  · have k5 : ((kk : Int) == 5) = true := by subst hk; rfl
    rw [if_pos hk]
    simp (disch := omega) only [J71, hB, hR, hI, e, k5, n3, n4, n5, n6, rep_f1, all1, ress, res1, retV, Value.cells, newsV_s, seval, eV]
    refine ⟨_, _, _, _, rfl, ?_, ?_, .inr ⟨N.n 3, cc, [], by rw [List.length_replicate], hB 3, lk_N hN 3, by rw [List.length_replicate]; exact Nat.le_refl _, ?_⟩, rfl⟩
    · repeat (first | exact hN | refine good_new ?_)
    · repeat (first | exact Fr.refl | refine fr_set ?_ (lk_N hN _))
    · rw [lk_top, List.append_nil]
  · have k5 : ((kk : Int) == 5) = false := by simpa using fun h' : (kk : Int) = 5 => hk (by omega)
    rw [if_neg hk]
    simp (disch := omega) only [J71, hB, hR, hI, e, k5, all1, ress, res1, retV, Value.cells, newsV_s, seval, eV]
    refine ⟨.slice none 0 0, [], _, _, rfl, ?_, ?_, Or.inl ⟨rfl, rfl⟩, rfl⟩
    · repeat (first | exact hN | refine good_new ?_)
    · repeat (first | exact Fr.refl | refine fr_set ?_ (lk_N hN _))
def lbKy : LC := (.seq (.seq (.ops [om 38 5,og 39 1 3,ol 40 39,oa 41 (.len false (ot 40)),oa 42 (.bin .lss (ot 38) (ot 41))])
 (.cond (ot 42) .skip
 (.exit 0)))
 (.seq (.block 1 (.seq (.draw [oe 46 (.load true 3 (ot 2)),pg 47 1 3,pl 48 47,pm 49 5,oe 50 (.iaddrS 1 (ot 48) (ot 49)),pl 51 50,oe 52 (.call (.func 96) [(ot 46), (ot 51)]),pm 45 52,oe 53 (.ext (ot 45) 0),oe 54 (.ext (ot 45) 1),pm 6 53,pm 7 54])
 (.seq (.draw [pm 55 7,oe 56 (.un .not (ot 55)),pm 57 56, ⟨ob 58 (.mv (ot 6)) 57 false,[]⟩,⟨ob 59 (.faddr 1 (ot 3)) 57 false,[]⟩,⟨ob 60 (.load false 1 (ot 59)) 57 false,[]⟩,⟨ob 61 (.mv (ot 5)) 57 false,[]⟩,⟨ob 62 (.iaddrS 1 (ot 60) (ot 61)) 57 false,[]⟩,⟨ob 63 (.load false 1 (ot 62)) 57 false,[]⟩,⟨ob 64 (.bin .neq (ot 58) (ot 63)) 57 false,[]⟩,oe 65 (.pick (ot 57) (.const (.bool true)) (ot 64)),pm 66 65, ⟨ob 67 (.mv (ot 5)) 66 false,[]⟩,⟨ob 68 (.bin .gtr (ot 67) (oi 0)) 66 false,[]⟩,⟨ob 69 (.mv (ot 68)) 66 false,[]⟩,⟨ob 70 (.load true 3 (ot 2)) 69 true,[]⟩,⟨ob 71 (.faddr 1 (ot 3)) 69 true,[]⟩,⟨ob 72 (.load false 1 (ot 71)) 69 true,[]⟩,⟨ob 73 (.mv (ot 5)) 69 true,[]⟩,⟨ob 74 (.bin .sub (ot 73) (oi 1)) 69 true,[]⟩,⟨ob 75 (.iaddrS 1 (ot 72) (ot 74)) 69 true,[]⟩,⟨ob 76 (.load false 1 (ot 75)) 69 true,[]⟩,⟨ob 77 (.mv (ot 6)) 69 true,[]⟩,⟨ob 78 (.call (.func 97) [(ot 70), (ot 76), (ot 77)]) 69 true,[]⟩,⟨ob 79 (.un .not (ot 78)) 69 true,[]⟩,⟨ob 80 (.pick (ot 69) (ot 79) (.const (.bool false))) 66 false,[]⟩,oe 81 (.pick (ot 66) (.const (.bool true)) (ot 80))])
 (.cond (ot 81) (.seq (.ops [oa 4 (.mv (.const (.bool false)))])
 .ret)
 .skip))))
 (.ops [om 43 5,oa 44 (.bin .add (ot 43) (oi 1)),om 5 44])))
def LrKy : FnL := ⟨(.seq (.ops [oa 2 (.box (ot 0)),oa 3 (.box (ot 1)),oa 4 (.mv (.const (.bool false)))])
 (.seq (.seq (.ops [og 8 1 3,ol 9 8,oa 10 (.len false (ot 9)),og 11 2 2,ol 12 11,oa 13 (.bin .gtr (ot 10) (ot 12)),om 14 13,ob 15 (.load true 3 (ot 2)) 14 false,ob 16 (.call (.func 95) [(ot 15)]) 14 false,ob 17 (.mv (ot 16)) 14 false,ob 18 (.faddr 2 (ot 3)) 17 true,ob 19 (.load false 1 (ot 18)) 17 true,ob 20 (.len false (ot 19)) 17 true,ob 21 (.faddr 1 (ot 3)) 17 true,ob 22 (.load false 1 (ot 21)) 17 true,ob 23 (.len false (ot 22)) 17 true,ob 24 (.bin .neq (ot 20) (ot 23)) 17 true,ob 25 (.pick (ot 17) (ot 24) (.const (.bool false))) 14 false,oa 26 (.pick (ot 14) (.const (.bool true)) (ot 25)),om 27 26,ob 28 (.load true 3 (ot 2)) 27 false,ob 29 (.call (.func 95) [(ot 28)]) 27 false,ob 30 (.un .not (ot 29)) 27 false,ob 31 (.mv (ot 30)) 27 false,ob 32 (.faddr 2 (ot 3)) 31 true,ob 33 (.load false 1 (ot 32)) 31 true,ob 34 (.len false (ot 33)) 31 true,ob 35 (.bin .gtr (ot 34) (oi 0)) 31 true,ob 36 (.pick (ot 31) (ot 35) (.const (.bool false))) 27 false,oa 37 (.pick (ot 27) (.const (.bool true)) (ot 36))])
 (.cond (ot 37) (.seq (.ops [oa 4 (.mv (.const (.bool false)))])
 .ret)
 .skip))
 (.seq (.seq (.ops [oa 5 (.mv (oi 0))])
 (.block 0 (.loop lbKy)))
 (.seq (.ops [oa 4 (.mv (.const (.bool true)))])
 .ret)))),
 82, [.tmp 4]⟩
theorem lowrKy : lowerFn Tryd.prog Tryd.f80 = some LrKy := by kernel_rfl
noncomputable def GrKy (B : OH) : Nat → Cs
  | 97 => Vref09less B
  | 96 => Vref09meant B
  | 95 => VrVa B
  | _ => fun _ _ _ => none
theorem GrKy_ref09less {B : OH} : GrKy B 97 = Vref09less B := rfl
theorem GrKy_ref09meant {B : OH} : GrKy B 96 = Vref09meant B := rfl
theorem GrKy_rVa {B : OH} : GrKy B 95 = VrVa B := rfl
theorem sGrKy {w0 : World} {B : OH} : SoundG Tryd.prog w0 B { f := GrKy B } := .of fun k => by
  unfold GrKy
  split
  · exact .inr ⟨enref09less, sVref09less⟩
  · exact .inr ⟨enref09meant, sVref09meant⟩
  · exact .inr ⟨enrVa, sVrVa⟩
  · exact .inl fun _ _ _ => rfl
theorem enrKy : Enter Tryd.prog 80 := .of Tryd.func80 (by kernel_rfl) (by kernel_rfl)
noncomputable def TrKy (B : OH) : Cs := callF B { f := GrKy B } 1000000 LrKy
theorem sTrKy {w0 : World} {B : OH} : SoundC Tryd.prog w0 B 80 (TrKy B) := callF_sound mixedOrders sGrKy 1000000 Tryd.func80 lowrKy
noncomputable def VrKy (B : OH) : Cs := TrKy B
theorem sVrKy {w0 : World} {B : OH} : SoundC Tryd.prog w0 B 80 (VrKy B) := sTrKy
structure KKy (cb sb i : Nat) (ts : List Value) : Prop where
  l : ts.length = 82
  t2 : gt ts 2 = .pointer (some ⟨cb, 0, none⟩)
  t3 : gt ts 3 = .pointer (some ⟨sb, 0, none⟩)
  t5 : gt ts 5 = .int .i64 (i : Int)
theorem J72 : Said (an @TrKy.eq_1 <| an @LrKy.eq_1 <| an @GrKy_ref09less <| an @Vref09less_eq <| an @GrKy_ref09meant <| an @Vref09meant_eq <| an @GrKy_rVa <| an @VrVa_eq <| an @lbKy.eq_1 <| trivial) := said_ok _
set_option maxHeartbeats 4000000 in
theorem loopKy {B : OH} {H : HL} {N : St} {vk vv vt : Value} {s : S9} {kk p cc h cb sb : Nat} (C : Cf kk p cc h) (R : Rt kk cc s) (hs : SlW w1 1 B H vk s.ks) (hN : good B H N) (bc : B cb = none) (bs_ : B sb = none) (lc : lk H cb = some (.cells [.int .i64 (kk : Int), .int .i64 (p : Int), .int .i64 (cc : Int)] 3)) (ls : lk H sb = some (.cells [.int .u64 s.r, vk, vv, vt, .bool s.cl] 5)) {ts : List Value} (kp : KKy cb sb 0 ts) {F : Nat} (hF : 1000 ≤ F) :
    Ok (exec B { f := GrKy B } F (LC.loop lbKy) ⟨ts, H, N⟩) (fun x st => x = .exit 0 ∧ st.H = H ∧ st.N = N ∧ KKy cb sb s.ks.length st.t) := by
  obtain ⟨hB, hR, hI⟩ := gX hN
  have hG : ∃ H N, good B H N := ⟨H, N, hN⟩
  have rc := rN bc
  have rs := rN bs_
  have hc := C.c
  have hkl := R.kl
  have hll := hs.len
  refine loop_rule (n0 := 100) (fun q st => ∃ ts, ∃ i : Nat, st = ⟨ts, H, N⟩ ∧ KKy cb sb i ts ∧ i ≤ s.ks.length ∧ q = s.ks.length - i) _ ?_ s.ks.length _ ⟨ts, 0, rfl, kp, by omega, rfl⟩ _ (by omega)
  clear kp hF F ts
  rintro z q st ⟨ts, i, rfl, kp, hi, rfl⟩
  have hc1 : ((i + 1 : Nat) : Int) = (i : Int) + 1 := by omega
  by_cases hin : i < s.ks.length
  case neg =>
    obtain rfl : i = s.ks.length := by omega
    simp (disch := omega) only [J72, hB, hR, hI, kp.l, kp.t2, kp.t3, kp.t5, ls, bs_, rs, hll, Int.lt_irrefl, all1, ress, res1, retV, Value.cells, newsV_s, seval, eV]
    refine ok_some (.inr ⟨by simp, rfl, rfl, rfl, ⟨?_, ?_, ?_, ?_⟩⟩)
    all_goals simp (disch := omega) only [kp.l, kp.t2, kp.t3, kp.t5, Int.cast_ofNat_Int, decide_true, ev2, seval, ev5]
  have hin' : (i : Int) < (s.ks.length : Int) := by omega
  have i0 : (0 : Int) ≤ (i : Int) := by omega
  obtain ⟨bv, ov, cv, rfl, rr⟩ := rd_w w1_len hs (by omega)
  have r1 := rr H Fr.refl i hin
  simp only [w1] at r1
  have e1 := xmeant hG (kk : Int) (p : Int) (cc : Int) (R.ku.at i)
  rw [(R.ok i hin).2, decide_eq_true (R.ok i hin).1] at e1
  by_cases h0 : i = 0
  · subst h0
    simp only [Nat.add_zero] at r1
    have hin0 : (0 : Int) < (s.ks.length : Int) := by omega
    simp (disch := omega) only [J72, hB, hR, hI, kp.l, kp.t2, kp.t3, kp.t5, hin0, lc, ls, bc, bs_, rc, rs, hin, hin', e1, r1, Int.ofNat_zero, Nat.mul_one, bne_self_eq_false, all1, ress, res1, retV, Value.cells, newsV_s, seval, eV]
    refine ok_some (.inl ⟨rfl, s.ks.length - (0 + 1), by omega, _, 0 + 1, rfl, ⟨?_, ?_, ?_, ?_⟩, by omega, rfl⟩)
    all_goals simp (disch := omega) only [kp.l, kp.t2, kp.t3, kp.t5, hc1, Int.ofNat_zero, Int.zero_add, Int.cast_ofNat_Int, decide_true, ev2, seval, ev5]
  · obtain ⟨j, rfl⟩ : ∃ j, i = j + 1 := ⟨i - 1, by omega⟩
    have hj0 : ((j + 1 : Nat) : Int) > 0 := by omega
    have hjw : IntKind.i64.wrap (((j + 1 : Nat) : Int) - 1) = (j : Int) := by rw [IntWalk.i64_in _ (by omega)]; omega
    have j0 : (0 : Int) ≤ (j : Int) := by omega
    have hjn : j < s.ks.length := by omega
    have r2 := rr H Fr.refl j hjn
    simp only [w1] at r2
    have e2 := xless9 hG (kk : Int) (p : Int) (cc : Int) (R.ku.at j) (R.ku.at (j + 1))
    rw [decide_eq_true (R.so j hin)] at e2
    simp (disch := omega) only [J72, hB, hR, hI, kp.l, kp.t2, kp.t3, kp.t5, lc, ls, bc, bs_, rc, rs, hin, hin', i0, e1, r1, hj0, hjw, j0, hjn, r2, e2, Nat.mul_one, bne_self_eq_false, all1, ress, res1, retV, Value.cells, newsV_s, seval, eV]
    refine ok_some (.inl ⟨rfl, s.ks.length - (j + 1 + 1), by omega, _, j + 1 + 1, rfl, ⟨?_, ?_, ?_, ?_⟩, by omega, rfl⟩)
    all_goals simp (disch := omega) only [kp.l, kp.t2, kp.t3, kp.t5, hc1, Int.cast_ofNat_Int, decide_true, ev2, seval, ev5]
theorem J73 : Said (an @TrKy.eq_1 <| an @LrKy.eq_1 <| an @GrKy_ref09less <| an @Vref09less_eq <| an @GrKy_ref09meant <| an @Vref09meant_eq <| an @GrKy_rVa <| an @VrVa_eq <| trivial) := said_ok _
set_option maxHeartbeats 4000000 in
theorem xkeys {B : OH} {H : HL} {N : St} {vk vv vt : Value} {s : S9} {kk p cc h : Nat} (C : Cf kk p cc h) (R : Rt kk cc s) (hs : StW B H vk vv vt s) (hN : good B H N) : ∃ H' N', VrKy B [.agg #[.int .i64 (kk : Int), .int .i64 (p : Int), .int .i64 (cc : Int)], .agg #[.int .u64 s.r, vk, vv, vt, .bool s.cl]] H N = some (.ret (.bool true), H', N') ∧ good B H' N' ∧ Fr H H' := by
  obtain ⟨hB, hR, hI⟩ := gX hN
  have hG : ∃ H N, good B H N := ⟨H, N, hN⟩
  have hc := C.c
  have hkl := R.kl
  have b0 := hB 0
  have b1 := hB 1
  have h1 := hs.k.len
  have h2 := hs.v.len
  have e := xvalued hG (kk : Int) (p : Int) (cc : Int)
  have c1 : ¬ (s.ks.length : Int) > (cc : Int) := by omega
  obtain ⟨H2, hH2⟩ : ∃ H2, H2 = (N.n 1, (.cells [.int .u64 s.r, vk, vv, vt, .bool s.cl] 5 : KB)) :: (N.n 0, (.cells [.int .i64 (kk : Int), .int .i64 (p : Int), .int .i64 (cc : Int)] 3 : KB)) :: H := ⟨_, rfl⟩
  have g2 : good B H2 (sh (sh N)) := by rw [hH2]; exact good_new (good_new hN)
  have f2 : Fr H H2 := by rw [hH2]; exact fr_set (fr_set Fr.refl (lk_N hN _)) (lk_N hN _)
  have q0 : lk H2 (N.n 0) = some (.cells [.int .i64 (kk : Int), .int .i64 (p : Int), .int .i64 (cc : Int)] 3) := by rw [hH2]; simp only [lk_cons, hI]; rfl
  have q1 : lk H2 (N.n 1) = some (.cells [.int .u64 s.r, vk, vv, vt, .bool s.cl] 5) := by rw [hH2]; simp only [lk_cons, hI]; rfl
  unfold VrKy
  by_cases hv : (kk : Int) = 3 ∨ (kk : Int) = 4
  · rw [decide_eq_true hv] at e
    have c2 : ((s.vs.length : Int) != (s.ks.length : Int)) = false := by rw [R.vl (by omega)]; exact bne_self_eq_false _
    simp (disch := omega) only [J73, hB, hR, hI, e, h1, h2, c1, c2, all1, ress, res1, retV, Value.cells, newsV_s, seval, eV]
    rw [← hH2]
    generalize hX : exec B _ _ (LC.loop _) _ = o
    obtain ⟨x, ⟨ts, H3, N3⟩, rfl, rfl, rfl, rfl, kp⟩ := (show Ok o _ by rw [← hX]; exact loopKy (cb := N.n 0) (sb := N.n 1) C R (hs.k.mono f2) g2 b0 b1 q0 q1 ⟨rfl, rfl, rfl, rfl⟩ (by omega))
    simp only at kp
    simp (disch := omega) only [J73, hB, hR, hI, kp.l, kp.t2, kp.t3, kp.t5, all1, ress, res1, retV, Value.cells, newsV_s, seval, eV]
    exact ⟨_, _, rfl, g2, f2⟩
  · rw [decide_eq_false hv] at e
    have c2 : ¬ (s.vs.length : Int) > 0 := by rw [R.v0 (by omega)]; simp
    simp (disch := omega) only [J73, hB, hR, hI, e, h1, h2, c1, c2, all1, ress, res1, retV, Value.cells, newsV_s, seval, eV]
    rw [← hH2]
    generalize hX : exec B _ _ (LC.loop _) _ = o
    obtain ⟨x, ⟨ts, H3, N3⟩, rfl, rfl, rfl, rfl, kp⟩ := (show Ok o _ by rw [← hX]; exact loopKy (cb := N.n 0) (sb := N.n 1) C R (hs.k.mono f2) g2 b0 b1 q0 q1 ⟨rfl, rfl, rfl, rfl⟩ (by omega))
    simp only at kp
    simp (disch := omega) only [J73, hB, hR, hI, kp.l, kp.t2, kp.t3, kp.t5, all1, ress, res1, retV, Value.cells, newsV_s, seval, eV]
    exact ⟨_, _, rfl, g2, f2⟩
def lbVo : LC := (.seq (.seq (.ops [om 12 5,og 13 3 3,ol 14 13,oa 15 (.len false (ot 14)),oa 16 (.bin .lss (ot 12) (ot 15))])
 (.cond (ot 16) .skip
 (.exit 0)))
 (.seq (.block 1 (.seq (.ops [og 19 3 3,ol 20 19,om 21 5,oa 22 (.iaddrS 1 (ot 20) (ot 21)),ol 23 22,oa 24 (.bin .lss (ot 23) (oi 0)),om 25 24,ob 26 (.faddr 3 (ot 3)) 25 false,ob 27 (.load false 1 (ot 26)) 25 false,ob 28 (.mv (ot 5)) 25 false,ob 29 (.iaddrS 1 (ot 27) (ot 28)) 25 false,ob 30 (.load false 1 (ot 29)) 25 false,ob 31 (.bin .gtr (ot 30) (oi 8)) 25 false,oa 32 (.pick (ot 25) (.const (.bool true)) (ot 31))])
 (.cond (ot 32) (.seq (.ops [oa 4 (.mv (.const (.bool false)))])
 .ret)
 .skip)))
 (.ops [om 17 5,oa 18 (.bin .add (ot 17) (oi 1)),om 5 18])))
def LrVo : FnL := ⟨(.seq (.ops [oa 2 (.box (ot 0)),oa 3 (.box (ot 1)),oa 4 (.mv (.const (.bool false)))])
 (.seq (.seq (.ops [og 6 3 3,ol 7 6,oa 8 (.len false (ot 7)),og 9 2 2,ol 10 9,oa 11 (.bin .neq (ot 8) (ot 10))])
 (.cond (ot 11) (.seq (.ops [oa 4 (.mv (.const (.bool false)))])
 .ret)
 .skip))
 (.seq (.seq (.ops [oa 5 (.mv (oi 0))])
 (.block 0 (.loop lbVo)))
 (.seq (.ops [oa 4 (.mv (.const (.bool true)))])
 .ret)))),
 33, [.tmp 4]⟩
theorem lowrVo : lowerFn Tryd.prog Tryd.f81 = some LrVo := by kernel_rfl
noncomputable def GrVo (B : OH) : Nat → Cs
  | _ => fun _ _ _ => none
theorem sGrVo {w0 : World} {B : OH} : SoundG Tryd.prog w0 B { f := GrVo B } := .of fun k => by
  unfold GrVo
  split
  · exact .inl fun _ _ _ => rfl
theorem enrVo : Enter Tryd.prog 81 := .of Tryd.func81 (by kernel_rfl) (by kernel_rfl)
noncomputable def TrVo (B : OH) : Cs := callF B { f := GrVo B } 1000000 LrVo
theorem sTrVo {w0 : World} {B : OH} : SoundC Tryd.prog w0 B 81 (TrVo B) := callF_sound mixedOrders sGrVo 1000000 Tryd.func81 lowrVo
noncomputable def VrVo (B : OH) : Cs := TrVo B
theorem sVrVo {w0 : World} {B : OH} : SoundC Tryd.prog w0 B 81 (VrVo B) := sTrVo
structure KVo (sb i : Nat) (ts : List Value) : Prop where
  l : ts.length = 33
  t3 : gt ts 3 = .pointer (some ⟨sb, 0, none⟩)
  t5 : gt ts 5 = .int .i64 (i : Int)
theorem J74 : Said (an @TrVo.eq_1 <| an @LrVo.eq_1 <| an @lbVo.eq_1 <| trivial) := said_ok _
set_option maxHeartbeats 4000000 in
theorem loopVo {B : OH} {H : HL} {N : St} {vk vv vt : Value} {s : S9} {sb : Nat} (hb : ∀ i, i < s.ts.length → 0 ≤ s.ts.getD i 0 ∧ s.ts.getD i 0 ≤ 8) (hl : s.ts.length ≤ 300) (hs : SlW f1 1 B H vt s.ts) (hN : good B H N) (bs_ : B sb = none) (ls : lk H sb = some (.cells [.int .u64 s.r, vk, vv, vt, .bool s.cl] 5)) {ts : List Value} (kp : KVo sb 0 ts) {F : Nat} (hF : 1000 ≤ F) :
    Ok (exec B { f := GrVo B } F (LC.loop lbVo) ⟨ts, H, N⟩) (fun x st => x = .exit 0 ∧ st.H = H ∧ st.N = N ∧ KVo sb s.ts.length st.t) := by
  obtain ⟨hB, hR, hI⟩ := gX hN
  have hG : ∃ H N, good B H N := ⟨H, N, hN⟩
  have rs := rN bs_
  have hll := hs.len
  refine loop_rule (n0 := 100) (fun q st => ∃ ts, ∃ i : Nat, st = ⟨ts, H, N⟩ ∧ KVo sb i ts ∧ i ≤ s.ts.length ∧ q = s.ts.length - i) _ ?_ s.ts.length _ ⟨ts, 0, rfl, kp, by omega, rfl⟩ _ (by omega)
  clear kp hF F ts
  rintro z q st ⟨ts, i, rfl, kp, hi, rfl⟩
  have hc1 : ((i + 1 : Nat) : Int) = (i : Int) + 1 := by omega
  by_cases hin : i < s.ts.length
  case neg =>
    obtain rfl : i = s.ts.length := by omega
    simp (disch := omega) only [J74, hB, hR, hI, kp.l, kp.t3, kp.t5, ls, bs_, rs, hll, Int.lt_irrefl, all1, ress, res1, retV, Value.cells, newsV_s, seval, eV]
    refine ok_some (.inr ⟨by simp, rfl, rfl, rfl, ⟨?_, ?_, ?_⟩⟩)
    all_goals simp (disch := omega) only [kp.l, kp.t3, kp.t5, Int.cast_ofNat_Int, decide_true, ev2, seval, ev5]
  have hin' : (i : Int) < (s.ts.length : Int) := by omega
  have i0 : (0 : Int) ≤ (i : Int) := by omega
  obtain ⟨bv, ov, cv, rfl, rr⟩ := rd_w f1_len hs (by omega)
  have r1 := rr H Fr.refl i hin
  simp only [f1] at r1
  obtain ⟨m1, m2⟩ := hb i hin
  have m1' : ¬ s.ts.getD i 0 < 0 := by omega
  have m2' : ¬ s.ts.getD i 0 > 8 := by omega
  simp (disch := omega) only [J74, hB, hR, hI, kp.l, kp.t3, kp.t5, ls, bs_, rs, hin, hin', i0, r1, m1', m2', Nat.mul_one, all1, ress, res1, retV, Value.cells, newsV_s, seval, eV]
  refine ok_some (.inl ⟨rfl, s.ts.length - (i + 1), by omega, _, i + 1, rfl, ⟨?_, ?_, ?_⟩, by omega, rfl⟩)
  all_goals simp (disch := omega) only [kp.l, kp.t3, kp.t5, hc1, Int.cast_ofNat_Int, decide_true, ev2, seval, ev5]
theorem J75 : Said (an @TrVo.eq_1 <| an @LrVo.eq_1 <| trivial) := said_ok _
set_option maxHeartbeats 4000000 in
theorem xvotes {B : OH} {H : HL} {N : St} {vk vv vt : Value} {s : S9} {kk p cc h : Nat} (C : Cf kk p cc h) (R : Rt kk cc s) (h5 : kk = 5) (hs : StW B H vk vv vt s) (hN : good B H N) : ∃ H' N', VrVo B [.agg #[.int .i64 (kk : Int), .int .i64 (p : Int), .int .i64 (cc : Int)], .agg #[.int .u64 s.r, vk, vv, vt, .bool s.cl]] H N = some (.ret (.bool true), H', N') ∧ good B H' N' ∧ Fr H H' := by
  obtain ⟨hB, hR, hI⟩ := gX hN
  have hG : ∃ H N, good B H N := ⟨H, N, hN⟩
  have hc := C.c
  have b0 := hB 0
  have b1 := hB 1
  have h2 := hs.t.len
  have hl := R.tl h5
  obtain ⟨H2, hH2⟩ : ∃ H2, H2 = (N.n 1, (.cells [.int .u64 s.r, vk, vv, vt, .bool s.cl] 5 : KB)) :: (N.n 0, (.cells [.int .i64 (kk : Int), .int .i64 (p : Int), .int .i64 (cc : Int)] 3 : KB)) :: H := ⟨_, rfl⟩
  have g2 : good B H2 (sh (sh N)) := by rw [hH2]; exact good_new (good_new hN)
  have f2 : Fr H H2 := by rw [hH2]; exact fr_set (fr_set Fr.refl (lk_N hN _)) (lk_N hN _)
  have q1 : lk H2 (N.n 1) = some (.cells [.int .u64 s.r, vk, vv, vt, .bool s.cl] 5) := by rw [hH2]; simp only [lk_cons, hI]; rfl
  unfold VrVo
  have c2 : ((s.ts.length : Int) != (cc : Int)) = false := by rw [hl]; exact bne_self_eq_false _
  simp (disch := omega) only [J75, hB, hR, hI, h2, c2, all1, ress, res1, retV, Value.cells, newsV_s, seval, eV]
  rw [← hH2]
  generalize hX : exec B _ _ (LC.loop _) _ = o
  obtain ⟨x, ⟨ts, H3, N3⟩, rfl, rfl, rfl, rfl, kp⟩ := (show Ok o _ by rw [← hX]; exact loopVo (sb := N.n 1) R.tb (by omega) (hs.t.mono f2) g2 b1 q1 ⟨rfl, rfl, rfl⟩ (by omega))
  simp only at kp
  simp (disch := omega) only [J75, hB, hR, hI, kp.l, kp.t3, kp.t5, all1, ress, res1, retV, Value.cells, newsV_s, seval, eV]
  exact ⟨_, _, rfl, g2, f2⟩
def LrRi : FnL := ⟨(.seq (.ops [oa 2 (.box (ot 0)),oa 3 (.box (ot 1)),oa 4 (.mv (.const (.bool false)))])
 (.seq (.seq (.ops [oa 5 (.load true 3 (ot 2)),oa 6 (.call (.func 39) [(ot 5)]),oa 7 (.un .not (ot 6))])
 (.cond (ot 7) (.seq (.ops [oa 4 (.mv (.const (.bool false)))])
 .ret)
 .skip))
 (.seq (.seq (.ops [og 8 0 2,ol 9 8,oa 10 (.bin .neq (ot 9) (oi 1)),om 11 10,ob 12 (.faddr 0 (ot 3)) 11 true,ob 13 (.load false 1 (ot 12)) 11 true,ob 14 (.bin .neq (ot 13) (ou 0)) 11 true,oa 15 (.pick (ot 11) (ot 14) (.const (.bool false))),om 16 15,ob 17 (.load true 3 (ot 2)) 16 false,ob 18 (.call (.func 78) [(ot 17)]) 16 false,ob 19 (.un .not (ot 18)) 16 false,ob 20 (.mv (ot 19)) 16 false,ob 21 (.faddr 1 (ot 3)) 20 true,ob 22 (.load false 1 (ot 21)) 20 true,ob 23 (.len false (ot 22)) 20 true,ob 24 (.faddr 2 (ot 3)) 20 true,ob 25 (.load false 1 (ot 24)) 20 true,ob 26 (.len false (ot 25)) 20 true,ob 27 (.bin .add (ot 23) (ot 26)) 20 true,ob 28 (.bin .gtr (ot 27) (oi 0)) 20 true,ob 29 (.pick (ot 20) (ot 28) (.const (.bool false))) 16 false,oa 30 (.pick (ot 16) (.const (.bool true)) (ot 29)),om 31 30,ob 32 (.faddr 0 (ot 2)) 31 false,ob 33 (.load false 1 (ot 32)) 31 false,ob 34 (.bin .neq (ot 33) (oi 5)) 31 false,ob 35 (.mv (ot 34)) 31 false,ob 36 (.faddr 3 (ot 3)) 35 true,ob 37 (.load false 1 (ot 36)) 35 true,ob 38 (.len false (ot 37)) 35 true,ob 39 (.bin .gtr (ot 38) (oi 0)) 35 true,ob 40 (.mv (ot 39)) 35 true,ob 41 (.faddr 4 (ot 3)) 40 false,ob 42 (.load false 1 (ot 41)) 40 false,ob 43 (.pick (ot 40) (.const (.bool true)) (ot 42)) 35 true,ob 44 (.pick (ot 35) (ot 43) (.const (.bool false))) 31 false,oa 45 (.pick (ot 31) (.const (.bool true)) (ot 44))])
 (.cond (ot 45) (.seq (.ops [oa 4 (.mv (.const (.bool false)))])
 .ret)
 .skip))
 (.seq (.block 0 (.seq (.ops [og 47 0 2,ol 48 47,oa 49 (.bin .eql (ot 48) (oi 1)),om 46 49])
 (.cond (ot 46) (.seq (.draw [pg 50 0 3,pl 51 50,pg 53 0 3,pl 54 53, ⟨oa 52 (.call (.func 79) [(ot 51)]), [ol 54 53]⟩,oe 55 (.bin .eql (ot 52) (ot 54)),pm 4 55])
 .ret)
 (.seq (.ops [oa 57 (.load true 3 (ot 2)),oa 58 (.call (.func 78) [(ot 57)]),om 56 58])
 (.cond (ot 56) (.seq (.ops [oa 59 (.load true 3 (ot 2)),oa 60 (.load true 5 (ot 3)),oa 61 (.call (.func 80) [(ot 59), (ot 60)]),om 4 61])
 .ret)
 .skip)))))
 (.seq (.ops [oa 62 (.load true 3 (ot 2)),oa 63 (.load true 5 (ot 3)),oa 64 (.call (.func 81) [(ot 62), (ot 63)]),om 4 64])
 .ret))))),
 65, [.tmp 4]⟩
theorem lowrRi : lowerFn Tryd.prog Tryd.f69 = some LrRi := by kernel_rfl
noncomputable def GrRi (B : OH) : Nat → Cs
  | 79 => Vref01Canon B
  | 39 => Vref04Fits B
  | 78 => Vref09keyed B
  | 80 => VrKy B
  | 81 => VrVo B
  | _ => fun _ _ _ => none
theorem GrRi_ref01Canon {B : OH} : GrRi B 79 = Vref01Canon B := rfl
theorem GrRi_ref04Fits {B : OH} : GrRi B 39 = Vref04Fits B := rfl
theorem GrRi_ref09keyed {B : OH} : GrRi B 78 = Vref09keyed B := rfl
theorem GrRi_rKy {B : OH} : GrRi B 80 = VrKy B := rfl
theorem GrRi_rVo {B : OH} : GrRi B 81 = VrVo B := rfl
theorem sGrRi {w0 : World} {B : OH} : SoundG Tryd.prog w0 B { f := GrRi B } := .of fun k => by
  unfold GrRi
  split
  · exact .inr ⟨enref01Canon, sVref01Canon⟩
  · exact .inr ⟨enref04Fits, sVref04Fits⟩
  · exact .inr ⟨enref09keyed, sVref09keyed⟩
  · exact .inr ⟨enrKy, sVrKy⟩
  · exact .inr ⟨enrVo, sVrVo⟩
  · exact .inl fun _ _ _ => rfl
theorem enrRi : Enter Tryd.prog 69 := .of Tryd.func69 (by kernel_rfl) (by kernel_rfl)
noncomputable def TrRi (B : OH) : Cs := callF B { f := GrRi B } 1000000 LrRi
theorem sTrRi {w0 : World} {B : OH} : SoundC Tryd.prog w0 B 69 (TrRi B) := callF_sound mixedOrders sGrRi 1000000 Tryd.func69 lowrRi
noncomputable def VrRi (B : OH) : Cs := TrRi B
theorem sVrRi {w0 : World} {B : OH} : SoundC Tryd.prog w0 B 69 (VrRi B) := sTrRi
theorem J76 : Said (an @TrRi.eq_1 <| an @LrRi.eq_1 <| an @GrRi_ref01Canon <| an @Vref01Canon_eq <| an @GrRi_ref04Fits <| an @Vref04Fits_eq <| an @GrRi_ref09keyed <| an @Vref09keyed_eq <| an @GrRi_rKy <| an @GrRi_rVo <| trivial) := said_ok _
set_option maxHeartbeats 8000000 in
theorem xRight {B : OH} {H : HL} {N : St} {vk vv vt : Value} {s : S9} {kk p cc h : Nat} (C : Cf kk p cc h) (R : Rt kk cc s) (hs : StW B H vk vv vt s) (hN : good B H N) : ∃ H' N', VrRi B [.agg #[.int .i64 (kk : Int), .int .i64 (p : Int), .int .i64 (cc : Int)], .agg #[.int .u64 s.r, vk, vv, vt, .bool s.cl]] H N = some (.ret (.bool true), H', N') ∧ good B H' N' ∧ Fr H H' := by
  obtain ⟨hB, hR, hI⟩ := gX hN
  have hG : ∃ H N, good B H N := ⟨H, N, hN⟩
  have e := rFits1 hG C
  have b0 := hB 0
  have b1 := hB 1
  have rb0 := rN b0
  have rb1 := rN b1
  have h1 := hs.k.len
  have h2 := hs.v.len
  have h3 := hs.t.len
  have hk := C.k
  have g2 : good B ((N.n 1, (.cells [.int .u64 s.r, vk, vv, vt, .bool s.cl] 5 : KB)) :: (N.n 0, (.cells [.int .i64 (kk : Int), .int .i64 (p : Int), .int .i64 (cc : Int)] 3 : KB)) :: H) (sh (sh N)) := good_new (good_new hN)
  have f2 : Fr H ((N.n 1, (.cells [.int .u64 s.r, vk, vv, vt, .bool s.cl] 5 : KB)) :: (N.n 0, (.cells [.int .i64 (kk : Int), .int .i64 (p : Int), .int .i64 (cc : Int)] 3 : KB)) :: H) := fr_set (fr_set Fr.refl (lk_N hN _)) (lk_N hN _)
  unfold VrRi
  obtain hkk | hkk | hkk : kk = 1 ∨ kk = 5 ∨ (kk = 2 ∨ kk = 3 ∨ kk = 4) := by omega
  · have hg := R.r1 hkk
    have d1 := R.k0 (by omega)
    have d2 := R.v0 (by omega)
    obtain ⟨d3, d4⟩ := R.t0 (by omega)
    rw [d1] at h1
    rw [d2] at h2
    rw [d3] at h3
    have ec := xCanon hG R.ru
    rw [hg] at ec
    simp only [d4] at g2 f2
    have k1 : ((kk : Int) == 1) = true := by subst hkk; rfl
    have k5 : ((kk : Int) == 5) = false := by subst hkk; rfl
    have n1 : ((kk : Int) != 1) = false := by subst hkk; rfl
    have n5 : ((kk : Int) != 5) = true := by subst hkk; rfl
    have ek := xkeyed hG (kk : Int) (p : Int) (cc : Int)
    rw [decide_eq_false (by omega)] at ek
    simp (disch := omega) only [J76, hB, hR, hI, e, ek, k1, k5, n1, n5, h1, h2, h3, d4, ec, all1, ress, res1, retV, Value.cells, newsV_s, seval, eV]
    exact ⟨_, _, rfl, g2, f2⟩
  · have d0 := R.r0 (by omega)
    have d1 := R.k0 (by omega)
    have d2 := R.v0 (by omega)
    rw [d1] at h1
    rw [d2] at h2
    obtain ⟨H3, N3, e3, g3, f3⟩ := xvotes C R hkk (hs.mono f2) g2
    have k1 : ((kk : Int) == 1) = false := by subst hkk; rfl
    have k5 : ((kk : Int) == 5) = true := by subst hkk; rfl
    have n1 : ((kk : Int) != 1) = true := by subst hkk; rfl
    have n5 : ((kk : Int) != 5) = false := by subst hkk; rfl
    have ek := xkeyed hG (kk : Int) (p : Int) (cc : Int)
    rw [decide_eq_false (by omega)] at ek
    simp only [d0] at e3 g2 f2 f3
    simp (disch := omega) only [J76, hB, hR, hI, e, ek, k1, k5, n1, n5, h1, h2, h3, d0, e3, bne_self_eq_false, all1, ress, res1, retV, Value.cells, newsV_s, seval, eV]
    exact ⟨_, _, rfl, g3, f2.trans f3⟩
  · have d0 := R.r0 (by omega)
    obtain ⟨d3, d4⟩ := R.t0 (by omega)
    rw [d3] at h3
    have k1 : ((kk : Int) == 1) = false := by simp; omega
    have n1 : ((kk : Int) != 1) = true := by simp; omega
    have n5 : ((kk : Int) != 5) = true := by simp; omega
    have ek := xkeyed hG (kk : Int) (p : Int) (cc : Int)
    rw [decide_eq_true (by omega)] at ek
    obtain ⟨H3, N3, e3, g3, f3⟩ := xkeys C R (hs.mono f2) g2
    simp only [d0, d4] at e3 g2 f2 f3
    simp (disch := omega) only [J76, hB, hR, hI, e, ek, k1, n1, n5, h1, h2, h3, d0, d4, e3, bne_self_eq_false, all1, ress, res1, retV, Value.cells, newsV_s, seval, eV]
    exact ⟨_, _, rfl, g3, f2.trans f3⟩
end Go.Proofs.YtfhiplfagejfoaaDoor
