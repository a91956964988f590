/- Proved here, for every input and every memory whose two listed tables read as the row lists them: MixTells, MixBack, MixOrder and MixSlots answer true and leave their arguments as they were (theorems mixTells.card, mixBack.card, mixOrder.card, mixSlots.card). Conditions: the two tables are as the row lists them, which the card ties to the program's text. -/
import Derived.Test.YtjeaeongfniafaaDoorK
import Derived.Test.YtjeaeongfniafaaDoorCards
import Derived.Test.YtjeaeongfniafaaDoorTie
set_option linter.unusedSimpArgs false
set_option linter.unusedVariables false
namespace Go.Proofs.YtjeaeongfniafaaDoor.K.Mix
def c1 : BitVec 64 := 0xbf58476d1ce4e5b9#64
def c2 : BitVec 64 := 0x94d049bb133111eb#64
def d1 : BitVec 64 := 0x96de1b173f119089#64
def d2 : BitVec 64 := 0x319642b2d24d8ec3#64
def fold (k : Nat) (x : BitVec 64) : BitVec 64 := x ^^^ x >>> k
def unf (k : Nat) (x : BitVec 64) : BitVec 64 := x ^^^ x >>> k ^^^ x >>> (2 * k)
def mix (x : BitVec 64) : BitVec 64 := fold 31 (fold 27 (fold 30 x * c1) * c2)
def un (x : BitVec 64) : BitVec 64 := unf 30 (unf 27 (unf 31 x * d2) * d1)
theorem unf_fold (k : Nat) (hk : 64 ≤ 3 * k) (x : BitVec 64) : unf k (fold k x) = x := by
  unfold unf fold
  ext i hi
  simp only [BitVec.getElem_xor, BitVec.getElem_ushiftRight, BitVec.getLsbD_xor, BitVec.getLsbD_ushiftRight]
  have h3 : x.getLsbD (k + (2 * k + i)) = false := BitVec.getLsbD_of_ge _ _ (by omega)
  rw [h3, show k + (k + i) = 2 * k + i by omega]
  cases x[i] <;> cases x.getLsbD (k + i) <;> cases x.getLsbD (2 * k + i) <;> rfl
theorem fold_unf (k : Nat) (hk : 64 ≤ 3 * k) (x : BitVec 64) : fold k (unf k x) = x := by
  unfold unf fold
  ext i hi
  simp only [BitVec.getElem_xor, BitVec.getElem_ushiftRight, BitVec.getLsbD_xor, BitVec.getLsbD_ushiftRight]
  have h3 : x.getLsbD (2 * k + (k + i)) = false := BitVec.getLsbD_of_ge _ _ (by omega)
  rw [h3, show k + (k + i) = 2 * k + i by omega]
  cases x[i] <;> cases x.getLsbD (k + i) <;> cases x.getLsbD (2 * k + i) <;> rfl
theorem un_mix (x : BitVec 64) : un (mix x) = x := by
  unfold un mix
  rw [unf_fold 31 (by decide), BitVec.mul_assoc, show c2 * d2 = 1#64 by decide, BitVec.mul_one, unf_fold 27 (by decide), BitVec.mul_assoc, show c1 * d1 = 1#64 by decide, BitVec.mul_one, unf_fold 30 (by decide)]
theorem mix_un (x : BitVec 64) : mix (un x) = x := by
  unfold un mix
  rw [fold_unf 30 (by decide), BitVec.mul_assoc, show d1 * c1 = 1#64 by decide, BitVec.mul_one, fold_unf 27 (by decide), BitVec.mul_assoc, show d2 * c2 = 1#64 by decide, BitVec.mul_one, fold_unf 31 (by decide)]

/-! ### From Go's numbers to words -/
theorem ofInt_toNat (x : BitVec 64) : BitVec.ofInt 64 (x.toNat : Int) = x := by simp
theorem wrap_toNat (x : BitVec 64) : IntKind.u64.wrap (x.toNat : Int) = x.toNat := by
  have := x.isLt
  rw [IntKind.wrap_u64]; omega
theorem wrap_mul (x y : BitVec 64) : IntKind.u64.wrap ((x.toNat : Int) * (y.toNat : Int)) = ((x * y).toNat : Int) := by
  rw [IntKind.wrap_u64, BitVec.toNat_mul]; rfl
theorem fdiv_shr (x : BitVec 64) (n : Nat) : (x.toNat : Int).fdiv (2 ^ n) = ((x >>> n).toNat : Int) := by
  have h : (2 : Int) ^ n = ((2 ^ n : Nat) : Int) := by simp
  rw [BitVec.toNat_ushiftRight, Nat.shiftRight_eq_div_pow, h]
  exact (Int.ofNat_fdiv _ _).symm
theorem fdiv_shr_min (x : BitVec 64) (n : Nat) : (x.toNat : Int).fdiv (2 ^ min n 64) = ((x >>> n).toNat : Int) := by
  rcases Nat.le_total n 64 with h | h
  · rw [Nat.min_eq_left h, fdiv_shr]
  · rw [Nat.min_eq_right h, fdiv_shr]
    have h1 : x >>> 64 = 0#64 := by ext i hi; simp
    have h2 : x >>> n = 0#64 := by
      ext i hi
      simp only [BitVec.getElem_ushiftRight, BitVec.getElem_zero]
      exact BitVec.getLsbD_of_ge _ _ (by omega)
    rw [h1, h2]
end Go.Proofs.YtjeaeongfniafaaDoor.K.Mix
namespace Go.Proofs.YtjeaeongfniafaaDoor.K.Mix
set_option linter.unusedSimpArgs false
set_option linter.unusedVariables false
theorem and_bv (x : BitVec 64) : IntKind.u64.wrap ((x &&& BitVec.ofInt 64 1).toNat : Int) = ((x &&& 1#64).toNat : Int) := by rw [wrap_toNat]; rfl
theorem shl_bv (x : BitVec 64) (n : Nat) (h : n < 64) : IntKind.u64.wrap ((x.toNat : Int) * 2 ^ min n 64) = ((x <<< n).toNat : Int) := by
  have h2 : (2 : Int) ^ n = ((2 ^ n : Nat) : Int) := by simp
  have e : (x <<< n).toNat = x.toNat * 2 ^ n % 2 ^ 64 := by rw [BitVec.toNat_shiftLeft, Nat.shiftLeft_eq]
  rw [Nat.min_eq_left (by omega), IntKind.wrap_u64, h2]
  simp only [e]
  generalize (2 ^ n : Nat) = p
  rfl
/-- The word's bits from r on. -/
def top (u : BitVec 64) (r : Nat) : BitVec 64 := (u >>> r) <<< r
theorem top_64 (u : BitVec 64) : top u 64 = 0#64 := by
  unfold top
  apply BitVec.eq_of_getLsbD_eq
  intro i hi
  rw [BitVec.getLsbD_shiftLeft, BitVec.getLsbD_zero]
  simp only [hi, decide_true, Bool.not_true, Bool.and_false, Bool.false_and]
theorem top_0 (u : BitVec 64) : top u 0 = u := by simp [top]
theorem step_lt (u w : BitVec 64) (k r : Nat) (hk : 0 < k) (hw : fold k u = w) (h : r + k < 64) :
    top u (r + 1) ||| ((((w >>> r) &&& 1#64) ^^^ ((top u (r + 1) >>> (r + k)) &&& 1#64)) <<< r) = top u r := by
  subst hw
  ext i hi
  simp only [top, fold, BitVec.getElem_or, BitVec.getElem_shiftLeft, BitVec.getElem_ushiftRight, BitVec.getLsbD_ushiftRight, BitVec.getLsbD_shiftLeft, BitVec.getElem_xor, BitVec.getElem_and, BitVec.getElem_one, BitVec.getLsbD_xor, BitVec.getLsbD_and, BitVec.getLsbD_one]
  rcases Nat.lt_trichotomy i r with h1 | h1 | h1
  · simp [h1, show i < r + 1 by omega]
  · subst h1
    have e1 : i + k + (i - i) - (i + 1) = k - 1 := by omega
    have e2 : i + 1 + (k - 1) = i + k := by omega
    have e3 : ¬ i + k < i + 1 := by omega
    have e4 : k + i = i + k := by omega
    have e5 : i + 1 + (i + k - (i + 1)) = i + k := by omega
    simp [e3, e4, h]
    rw [e5, BitVec.getLsbD_eq_getElem h]
    cases u.getLsbD i <;> cases u[i + k] <;> rfl
  · have e1 : i - r ≠ 0 := by omega
    have e2 : ¬ i < r + 1 := by omega
    have e3 : ¬ i < r := by omega
    have e4 : r + 1 + (i - (r + 1)) = i := by omega
    have e5 : r + (i - r) = i := by omega
    simp [e1, e2, e3, e4, e5]
theorem step_ge (u w : BitVec 64) (k r : Nat) (hk : 0 < k) (hw : fold k u = w) (h : ¬ r + k < 64) (hr : r < 64) :
    top u (r + 1) ||| (((w >>> r) &&& 1#64) <<< r) = top u r := by
  subst hw
  ext i hi
  simp only [top, fold, BitVec.getElem_or, BitVec.getElem_shiftLeft, BitVec.getElem_ushiftRight, BitVec.getLsbD_ushiftRight, BitVec.getLsbD_shiftLeft, BitVec.getElem_xor, BitVec.getElem_and, BitVec.getElem_one, BitVec.getLsbD_xor, BitVec.getLsbD_and, BitVec.getLsbD_one]
  rcases Nat.lt_trichotomy i r with h1 | h1 | h1
  · simp [h1, show i < r + 1 by omega]
  · subst h1
    have e1 : u.getLsbD (k + i) = false := BitVec.getLsbD_of_ge _ _ (by omega)
    have e2 : i + 0 = i := rfl
    simp [e1]
  · have e1 : i - r ≠ 0 := by omega
    have e2 : ¬ i < r + 1 := by omega
    have e3 : ¬ i < r := by omega
    have e4 : r + 1 + (i - (r + 1)) = i := by omega
    have e5 : r + (i - r) = i := by omega
    simp [e1, e2, e3, e4, e5]
end Go.Proofs.YtjeaeongfniafaaDoor.K.Mix
namespace Go.Proofs.YtjeaeongfniafaaDoor
open Go.Proofs.YtjeaeongfniafaaDoor.K Go.Proofs.YtjeaeongfniafaaDoor.K.Mix Go.ChangeShapes Go.WideShapes Go.ChangeAt Go.RowKit
set_option maxRecDepth 100000
set_option linter.unusedSimpArgs false
set_option linter.unusedVariables false
theorem w62 : IntKind.u64.wrap (2 * 31) = 62 := by rfl
theorem w54 : IntKind.u64.wrap (2 * 27) = 54 := by rfl
theorem w60 : IntKind.u64.wrap (2 * 30) = 60 := by rfl

/-- whitewash/whitewashlaw02.MixTells -/
def L3 : FnL := ⟨(.seq (.ops [⟨(some 6), .mv (.const (.bool false)), none⟩])
 (.seq (.ops [⟨(some 8), .call (.func 7) [], none⟩, ⟨(some 7), .mv (.tmp 8), none⟩])
 (.seq (.ops [⟨(some 9), .mv (.tmp 7), none⟩, ⟨(some 10), .mv (.tmp 9), none⟩, ⟨(some 11), .mv (.tmp 0), (some (10, true))⟩, ⟨(some 12), .call (.func 8) [(.tmp 11)], (some (10, true))⟩, ⟨(some 13), .mv (.tmp 0), (some (10, true))⟩, ⟨(some 14), .call (.func 9) [(.tmp 13)], (some (10, true))⟩, ⟨(some 15), .bin .eql (.tmp 12) (.tmp 14), (some (10, true))⟩, ⟨(some 16), .pick (.tmp 10) (.tmp 15) (.const (.bool false)), none⟩, ⟨(some 17), .mv (.tmp 16), none⟩, ⟨(some 18), .mv (.tmp 0), (some (17, true))⟩, ⟨(some 19), .call (.func 10) [(.tmp 18)], (some (17, true))⟩, ⟨(some 20), .mv (.tmp 0), (some (17, true))⟩, ⟨(some 21), .call (.func 11) [(.tmp 20)], (some (17, true))⟩, ⟨(some 22), .bin .eql (.tmp 19) (.tmp 21), (some (17, true))⟩, ⟨(some 23), .pick (.tmp 17) (.tmp 22) (.const (.bool false)), none⟩, ⟨(some 24), .mv (.tmp 23), none⟩, ⟨(some 25), .mv (.tmp 0), (some (24, true))⟩, ⟨(some 26), .mv (.tmp 2), (some (24, true))⟩, ⟨(some 27), .call (.func 12) [(.tmp 25), (.tmp 26)], (some (24, true))⟩, ⟨(some 28), .mv (.tmp 0), (some (24, true))⟩, ⟨(some 29), .mv (.tmp 2), (some (24, true))⟩, ⟨(some 30), .call (.func 13) [(.tmp 28), (.tmp 29)], (some (24, true))⟩, ⟨(some 31), .bin .eql (.tmp 27) (.tmp 30), (some (24, true))⟩, ⟨(some 32), .pick (.tmp 24) (.tmp 31) (.const (.bool false)), none⟩, ⟨(some 33), .mv (.tmp 32), none⟩, ⟨(some 34), .mv (.tmp 0), (some (33, true))⟩, ⟨(some 35), .mv (.tmp 1), (some (33, true))⟩, ⟨(some 36), .call (.func 14) [(.tmp 34), (.tmp 35)], (some (33, true))⟩, ⟨(some 37), .mv (.tmp 0), (some (33, true))⟩, ⟨(some 38), .mv (.tmp 1), (some (33, true))⟩, ⟨(some 39), .call (.func 15) [(.tmp 37), (.tmp 38)], (some (33, true))⟩, ⟨(some 40), .eqb false (.tmp 36) (.tmp 39), (some (33, true))⟩, ⟨(some 41), .pick (.tmp 33) (.tmp 40) (.const (.bool false)), none⟩, ⟨(some 42), .mv (.tmp 41), none⟩, ⟨(some 43), .mv (.tmp 1), (some (42, true))⟩, ⟨(some 44), .mv (.tmp 0), (some (42, true))⟩, ⟨(some 45), .call (.func 14) [(.tmp 43), (.tmp 44)], (some (42, true))⟩, ⟨(some 46), .mv (.tmp 1), (some (42, true))⟩, ⟨(some 47), .mv (.tmp 0), (some (42, true))⟩, ⟨(some 48), .call (.func 15) [(.tmp 46), (.tmp 47)], (some (42, true))⟩, ⟨(some 49), .eqb false (.tmp 45) (.tmp 48), (some (42, true))⟩, ⟨(some 50), .pick (.tmp 42) (.tmp 49) (.const (.bool false)), none⟩, ⟨(some 6), .mv (.tmp 50), none⟩])
 .ret))),
 51, [.tmp 6]⟩
/-- whitewash/whitewashlaw02.MixBack -/
def L4 : FnL := ⟨(.seq (.ops [⟨(some 4), .mv (.const (.bool false)), none⟩])
 (.seq (.ops [⟨(some 6), .call (.func 7) [], none⟩, ⟨(some 5), .mv (.tmp 6), none⟩])
 (.seq (.ops [⟨(some 7), .mv (.tmp 5), none⟩, ⟨(some 8), .mv (.tmp 7), none⟩, ⟨(some 9), .mv (.tmp 0), (some (8, true))⟩, ⟨(some 10), .call (.func 8) [(.tmp 9)], (some (8, true))⟩, ⟨(some 11), .call (.func 10) [(.tmp 10)], (some (8, true))⟩, ⟨(some 12), .mv (.tmp 0), (some (8, true))⟩, ⟨(some 13), .bin .eql (.tmp 11) (.tmp 12), (some (8, true))⟩, ⟨(some 14), .pick (.tmp 8) (.tmp 13) (.const (.bool false)), none⟩, ⟨(some 15), .mv (.tmp 14), none⟩, ⟨(some 16), .mv (.tmp 0), (some (15, true))⟩, ⟨(some 17), .call (.func 10) [(.tmp 16)], (some (15, true))⟩, ⟨(some 18), .call (.func 8) [(.tmp 17)], (some (15, true))⟩, ⟨(some 19), .mv (.tmp 0), (some (15, true))⟩, ⟨(some 20), .bin .eql (.tmp 18) (.tmp 19), (some (15, true))⟩, ⟨(some 21), .pick (.tmp 15) (.tmp 20) (.const (.bool false)), none⟩, ⟨(some 22), .mv (.tmp 21), none⟩, ⟨(some 23), .mv (.tmp 0), (some (22, true))⟩, ⟨(some 24), .call (.func 8) [(.tmp 23)], (some (22, true))⟩, ⟨(some 25), .mv (.tmp 1), (some (22, true))⟩, ⟨(some 26), .call (.func 8) [(.tmp 25)], (some (22, true))⟩, ⟨(some 27), .bin .eql (.tmp 24) (.tmp 26), (some (22, true))⟩, ⟨(some 28), .mv (.tmp 0), (some (22, true))⟩, ⟨(some 29), .mv (.tmp 1), (some (22, true))⟩, ⟨(some 30), .bin .eql (.tmp 28) (.tmp 29), (some (22, true))⟩, ⟨(some 31), .eqb false (.tmp 27) (.tmp 30), (some (22, true))⟩, ⟨(some 32), .pick (.tmp 22) (.tmp 31) (.const (.bool false)), none⟩, ⟨(some 33), .mv (.tmp 32), none⟩, ⟨(some 34), .mv (.tmp 0), (some (33, true))⟩, ⟨(some 35), .mv (.tmp 1), (some (33, true))⟩, ⟨(some 36), .call (.func 14) [(.tmp 34), (.tmp 35)], (some (33, true))⟩, ⟨(some 37), .mv (.tmp 36), (some (33, true))⟩, ⟨(some 38), .mv (.tmp 1), (some (37, false))⟩, ⟨(some 39), .mv (.tmp 0), (some (37, false))⟩, ⟨(some 40), .call (.func 14) [(.tmp 38), (.tmp 39)], (some (37, false))⟩, ⟨(some 41), .pick (.tmp 37) (.const (.bool true)) (.tmp 40), (some (33, true))⟩, ⟨(some 42), .mv (.tmp 0), (some (33, true))⟩, ⟨(some 43), .mv (.tmp 1), (some (33, true))⟩, ⟨(some 44), .bin .neq (.tmp 42) (.tmp 43), (some (33, true))⟩, ⟨(some 45), .eqb false (.tmp 41) (.tmp 44), (some (33, true))⟩, ⟨(some 46), .pick (.tmp 33) (.tmp 45) (.const (.bool false)), none⟩, ⟨(some 47), .mv (.tmp 46), none⟩, ⟨(some 48), .mv (.tmp 0), (some (47, true))⟩, ⟨(some 49), .mv (.tmp 1), (some (47, true))⟩, ⟨(some 50), .call (.func 14) [(.tmp 48), (.tmp 49)], (some (47, true))⟩, ⟨(some 51), .mv (.tmp 50), (some (47, true))⟩, ⟨(some 52), .mv (.tmp 1), (some (51, true))⟩, ⟨(some 53), .mv (.tmp 0), (some (51, true))⟩, ⟨(some 54), .call (.func 14) [(.tmp 52), (.tmp 53)], (some (51, true))⟩, ⟨(some 55), .pick (.tmp 51) (.tmp 54) (.const (.bool false)), (some (47, true))⟩, ⟨(some 56), .un .not (.tmp 55), (some (47, true))⟩, ⟨(some 57), .pick (.tmp 47) (.tmp 56) (.const (.bool false)), none⟩, ⟨(some 4), .mv (.tmp 57), none⟩])
 .ret))),
 58, [.tmp 4]⟩
/-- whitewash/whitewashlaw02.MixOrder -/
def L5 : FnL := ⟨(.seq (.ops [⟨(some 8), .mv (.const (.bool false)), none⟩])
 (.seq (.ops [⟨(some 11), .call (.func 7) [], none⟩, ⟨(some 9), .mv (.tmp 11), none⟩])
 (.seq (.seq (.ops [⟨(some 12), .mv (.tmp 0), none⟩, ⟨(some 13), .mv (.tmp 1), none⟩, ⟨(some 14), .call (.func 14) [(.tmp 12), (.tmp 13)], none⟩, ⟨(some 15), .mv (.tmp 14), none⟩, ⟨(some 16), .mv (.tmp 1), (some (15, true))⟩, ⟨(some 17), .mv (.tmp 2), (some (15, true))⟩, ⟨(some 18), .call (.func 14) [(.tmp 16), (.tmp 17)], (some (15, true))⟩, ⟨(some 19), .pick (.tmp 15) (.tmp 18) (.const (.bool false)), none⟩, ⟨(some 20), .mv (.tmp 19), none⟩, ⟨(some 21), .mv (.tmp 0), (some (20, true))⟩, ⟨(some 22), .mv (.tmp 2), (some (20, true))⟩, ⟨(some 23), .call (.func 14) [(.tmp 21), (.tmp 22)], (some (20, true))⟩, ⟨(some 24), .un .not (.tmp 23), (some (20, true))⟩, ⟨(some 25), .pick (.tmp 20) (.tmp 24) (.const (.bool false)), none⟩])
 (.cond (.tmp 25) (.seq (.ops [⟨(some 8), .mv (.const (.bool false)), none⟩])
 .ret)
 .skip))
 (.seq (.ops [⟨(some 26), .mv (.tmp 0), none⟩, ⟨(some 27), .mv (.tmp 3), none⟩, ⟨(some 28), .call (.func 12) [(.tmp 26), (.tmp 27)], none⟩, ⟨(some 10), .mv (.tmp 28), none⟩])
 (.seq (.seq (.ops [⟨(some 29), .mv (.tmp 3), none⟩, ⟨(some 30), .bin .lss (.tmp 29) (.const (.int .i64 1)), none⟩])
 (.cond (.tmp 30) (.seq (.ops [⟨(some 31), .mv (.tmp 9), none⟩, ⟨(some 32), .mv (.tmp 31), none⟩, ⟨(some 33), .mv (.tmp 10), (some (32, true))⟩, ⟨(some 34), .bin .eql (.tmp 33) (.const (.int .i64 0)), (some (32, true))⟩, ⟨(some 35), .pick (.tmp 32) (.tmp 34) (.const (.bool false)), none⟩, ⟨(some 8), .mv (.tmp 35), none⟩])
 .ret)
 .skip))
 (.seq (.ops [⟨(some 36), .mv (.tmp 9), none⟩, ⟨(some 37), .mv (.tmp 36), none⟩, ⟨(some 38), .mv (.tmp 10), (some (37, true))⟩, ⟨(some 39), .bin .geq (.tmp 38) (.const (.int .i64 0)), (some (37, true))⟩, ⟨(some 40), .pick (.tmp 37) (.tmp 39) (.const (.bool false)), none⟩, ⟨(some 41), .mv (.tmp 40), none⟩, ⟨(some 42), .mv (.tmp 10), (some (41, true))⟩, ⟨(some 43), .mv (.tmp 3), (some (41, true))⟩, ⟨(some 44), .bin .lss (.tmp 42) (.tmp 43), (some (41, true))⟩, ⟨(some 45), .pick (.tmp 41) (.tmp 44) (.const (.bool false)), none⟩, ⟨(some 46), .mv (.tmp 45), none⟩, ⟨(some 47), .mv (.tmp 3), (some (46, true))⟩, ⟨(some 48), .bin .gtr (.tmp 47) (.const (.int .i64 2305843009213693952)), (some (46, true))⟩, ⟨(some 49), .mv (.tmp 48), (some (46, true))⟩, ⟨(some 50), .mv (.tmp 0), (some (49, false))⟩, ⟨(some 51), .mv (.tmp 3), (some (49, false))⟩, ⟨(some 52), .bin .mul (.const (.int .i64 2)) (.tmp 51), (some (49, false))⟩, ⟨(some 53), .call (.func 12) [(.tmp 50), (.tmp 52)], (some (49, false))⟩, ⟨(some 54), .mv (.tmp 3), (some (49, false))⟩, ⟨(some 55), .bin .rem (.tmp 53) (.tmp 54), (some (49, false))⟩, ⟨(some 56), .mv (.tmp 10), (some (49, false))⟩, ⟨(some 57), .bin .eql (.tmp 55) (.tmp 56), (some (49, false))⟩, ⟨(some 58), .pick (.tmp 49) (.const (.bool true)) (.tmp 57), (some (46, true))⟩, ⟨(some 59), .pick (.tmp 46) (.tmp 58) (.const (.bool false)), none⟩, ⟨(some 60), .mv (.tmp 59), none⟩, ⟨(some 61), .mv (.tmp 0), (some (60, true))⟩, ⟨(some 62), .call (.func 12) [(.tmp 61), (.const (.int .i64 1))], (some (60, true))⟩, ⟨(some 63), .bin .eql (.tmp 62) (.const (.int .i64 0)), (some (60, true))⟩, ⟨(some 64), .pick (.tmp 60) (.tmp 63) (.const (.bool false)), none⟩, ⟨(some 8), .mv (.tmp 64), none⟩])
 .ret)))))),
 65, [.tmp 8]⟩
/-- whitewash/whitewashlaw02.MixSlots -/
def L6 : FnL := ⟨(.seq (.ops [⟨(some 4), .mv (.const (.bool false)), none⟩])
 (.seq (.ops [⟨(some 7), .call (.func 7) [], none⟩, ⟨(some 5), .mv (.tmp 7), none⟩])
 (.seq (.seq (.ops [⟨(some 8), .mv (.tmp 1), none⟩, ⟨(some 9), .bin .lss (.tmp 8) (.const (.int .i64 1)), none⟩])
 (.cond (.tmp 9) (.seq (.ops [⟨(some 10), .mv (.tmp 5), none⟩, ⟨(some 11), .mv (.tmp 10), none⟩, ⟨(some 12), .mv (.tmp 0), (some (11, true))⟩, ⟨(some 13), .mv (.tmp 1), (some (11, true))⟩, ⟨(some 14), .call (.func 12) [(.tmp 12), (.tmp 13)], (some (11, true))⟩, ⟨(some 15), .bin .eql (.tmp 14) (.const (.int .i64 0)), (some (11, true))⟩, ⟨(some 16), .pick (.tmp 11) (.tmp 15) (.const (.bool false)), none⟩, ⟨(some 4), .mv (.tmp 16), none⟩])
 .ret)
 .skip))
 (.seq (.ops [⟨(some 17), .mv (.tmp 0), none⟩, ⟨(some 18), .mv (.tmp 1), none⟩, ⟨(some 19), .conv .u64 (.tmp 18), none⟩, ⟨(some 20), .bin .rem (.tmp 17) (.tmp 19), none⟩, ⟨(some 6), .mv (.tmp 20), none⟩])
 (.seq (.ops [⟨(some 21), .mv (.tmp 5), none⟩, ⟨(some 22), .mv (.tmp 21), none⟩, ⟨(some 23), .mv (.tmp 6), (some (22, true))⟩, ⟨(some 24), .call (.func 10) [(.tmp 23)], (some (22, true))⟩, ⟨(some 25), .mv (.tmp 1), (some (22, true))⟩, ⟨(some 26), .call (.func 12) [(.tmp 24), (.tmp 25)], (some (22, true))⟩, ⟨(some 27), .mv (.tmp 6), (some (22, true))⟩, ⟨(some 28), .conv .i64 (.tmp 27), (some (22, true))⟩, ⟨(some 29), .bin .eql (.tmp 26) (.tmp 28), (some (22, true))⟩, ⟨(some 30), .pick (.tmp 22) (.tmp 29) (.const (.bool false)), none⟩, ⟨(some 31), .mv (.tmp 30), none⟩, ⟨(some 32), .mv (.tmp 0), (some (31, true))⟩, ⟨(some 33), .mv (.tmp 1), (some (31, true))⟩, ⟨(some 34), .call (.func 12) [(.tmp 32), (.tmp 33)], (some (31, true))⟩, ⟨(some 35), .mv (.tmp 0), (some (31, true))⟩, ⟨(some 36), .call (.func 8) [(.tmp 35)], (some (31, true))⟩, ⟨(some 37), .mv (.tmp 1), (some (31, true))⟩, ⟨(some 38), .conv .u64 (.tmp 37), (some (31, true))⟩, ⟨(some 39), .bin .rem (.tmp 36) (.tmp 38), (some (31, true))⟩, ⟨(some 40), .conv .i64 (.tmp 39), (some (31, true))⟩, ⟨(some 41), .bin .eql (.tmp 34) (.tmp 40), (some (31, true))⟩, ⟨(some 42), .pick (.tmp 31) (.tmp 41) (.const (.bool false)), none⟩, ⟨(some 4), .mv (.tmp 42), none⟩])
 .ret))))),
 43, [.tmp 4]⟩
/-- whitewash/whitewashlaw02.awake -/
def L7 : FnL := ⟨(.seq (.ops [⟨(some 0), .mv (.const (.bool false)), none⟩])
 (.seq (.ops [⟨(some 1), .call (.func 8) [(.const (.int .u64 0))], none⟩, ⟨(some 2), .bin .eql (.tmp 1) (.const (.int .u64 0)), none⟩, ⟨(some 3), .mv (.tmp 2), none⟩, ⟨(some 4), .call (.func 8) [(.const (.int .u64 11400714819323198485))], (some (3, true))⟩, ⟨(some 5), .bin .eql (.tmp 4) (.const (.int .u64 16294208416658607535)), (some (3, true))⟩, ⟨(some 6), .pick (.tmp 3) (.tmp 5) (.const (.bool false)), none⟩, ⟨(some 7), .mv (.tmp 6), none⟩, ⟨(some 8), .call (.func 10) [(.const (.int .u64 7960286522194355700))], (some (7, true))⟩, ⟨(some 9), .bin .eql (.tmp 8) (.const (.int .u64 4354685564936845354)), (some (7, true))⟩, ⟨(some 10), .pick (.tmp 7) (.tmp 9) (.const (.bool false)), none⟩, ⟨(some 11), .mv (.tmp 10), none⟩, ⟨(some 12), .call (.func 12) [(.const (.int .u64 11400714819323198485)), (.const (.int .i64 16))], (some (11, true))⟩, ⟨(some 13), .bin .eql (.tmp 12) (.const (.int .i64 15)), (some (11, true))⟩, ⟨(some 14), .pick (.tmp 11) (.tmp 13) (.const (.bool false)), none⟩, ⟨(some 15), .mv (.tmp 14), none⟩, ⟨(some 16), .call (.func 12) [(.const (.int .u64 1)), (.const (.int .i64 0))], (some (15, true))⟩, ⟨(some 17), .bin .eql (.tmp 16) (.const (.int .i64 0)), (some (15, true))⟩, ⟨(some 18), .pick (.tmp 15) (.tmp 17) (.const (.bool false)), none⟩, ⟨(some 19), .mv (.tmp 18), none⟩, ⟨(some 20), .call (.func 14) [(.const (.int .u64 1)), (.const (.int .u64 0))], (some (19, true))⟩, ⟨(some 21), .pick (.tmp 19) (.tmp 20) (.const (.bool false)), none⟩, ⟨(some 22), .mv (.tmp 21), none⟩, ⟨(some 23), .call (.func 14) [(.const (.int .u64 0)), (.const (.int .u64 1))], (some (22, true))⟩, ⟨(some 24), .un .not (.tmp 23), (some (22, true))⟩, ⟨(some 25), .pick (.tmp 22) (.tmp 24) (.const (.bool false)), none⟩, ⟨(some 0), .mv (.tmp 25), none⟩])
 .ret)),
 26, [.tmp 0]⟩
/-- whitewash/mix.Mix -/
def L8 : FnL := ⟨(.seq (.ops [⟨(some 2), .mv (.const (.int .u64 0)), none⟩])
 (.seq (.seq (.ops [⟨(some 5), .load true 6 (.global 0), none⟩, ⟨(some 6), .mv (.const (.int .i64 0)), none⟩])
 (.block 0 (.loop (.seq (.ops [⟨(some 7), .bin .lss (.tmp 6) (.const (.int .i64 3)), none⟩])
 (.seq (.cond (.tmp 7) .skip
 (.exit 0))
 (.seq (.block 1 (.seq (.ops [⟨(some 8), .idxA true 2 3 (.tmp 5) (.tmp 6), none⟩, ⟨(some 4), .alloc [(.int .u64 0), (.int .u64 0)], none⟩, ⟨none, .store 2 (.tmp 4) (.tmp 8), none⟩])
 (.ops [⟨(some 9), .mv (.tmp 0), none⟩, ⟨(some 10), .mv (.tmp 0), none⟩, ⟨(some 11), .faddr 0 (.tmp 4), none⟩, ⟨(some 12), .load false 1 (.tmp 11), none⟩, ⟨(some 13), .bin .shr (.tmp 10) (.tmp 12), none⟩, ⟨(some 14), .bin .xor (.tmp 9) (.tmp 13), none⟩, ⟨(some 15), .faddr 1 (.tmp 4), none⟩, ⟨(some 16), .load false 1 (.tmp 15), none⟩, ⟨(some 17), .bin .mul (.tmp 14) (.tmp 16), none⟩, ⟨(some 0), .mv (.tmp 17), none⟩])))
 (.ops [⟨(some 18), .bin .add (.tmp 6) (.const (.int .i64 1)), none⟩, ⟨(some 6), .mv (.tmp 18), none⟩])))))))
 (.seq (.ops [⟨(some 19), .mv (.tmp 0), none⟩, ⟨(some 2), .mv (.tmp 19), none⟩])
 .ret))),
 20, [.tmp 2]⟩
/-- whitewash/whitewashref02.Mix -/
def L9 : FnL := ⟨(.seq (.ops [⟨(some 2), .mv (.const (.int .u64 0)), none⟩])
 (.seq (.ops [⟨(some 3), .mv (.tmp 0), none⟩, ⟨(some 4), .call (.func 16) [(.tmp 3), (.const (.int .i64 30))], none⟩, ⟨(some 5), .bin .mul (.tmp 4) (.const (.int .u64 13787848793156543929)), none⟩, ⟨(some 6), .call (.func 16) [(.tmp 5), (.const (.int .i64 27))], none⟩, ⟨(some 7), .bin .mul (.tmp 6) (.const (.int .u64 10723151780598845931)), none⟩, ⟨(some 8), .call (.func 16) [(.tmp 7), (.const (.int .i64 31))], none⟩, ⟨(some 2), .mv (.tmp 8), none⟩])
 .ret)),
 9, [.tmp 2]⟩
/-- whitewash/mix.Unmix -/
def L10 : FnL := ⟨(.seq (.ops [⟨(some 2), .mv (.const (.int .u64 0)), none⟩])
 (.seq (.seq (.ops [⟨(some 5), .load true 6 (.global 1), none⟩, ⟨(some 6), .mv (.const (.int .i64 0)), none⟩])
 (.block 0 (.loop (.seq (.ops [⟨(some 7), .bin .lss (.tmp 6) (.const (.int .i64 3)), none⟩])
 (.seq (.cond (.tmp 7) .skip
 (.exit 0))
 (.seq (.block 1 (.seq (.ops [⟨(some 8), .idxA true 2 3 (.tmp 5) (.tmp 6), none⟩, ⟨(some 4), .alloc [(.int .u64 0), (.int .u64 0)], none⟩, ⟨none, .store 2 (.tmp 4) (.tmp 8), none⟩])
 (.ops [⟨(some 9), .mv (.tmp 0), none⟩, ⟨(some 10), .mv (.tmp 0), none⟩, ⟨(some 11), .faddr 0 (.tmp 4), none⟩, ⟨(some 12), .load false 1 (.tmp 11), none⟩, ⟨(some 13), .bin .shr (.tmp 10) (.tmp 12), none⟩, ⟨(some 14), .bin .xor (.tmp 9) (.tmp 13), none⟩, ⟨(some 15), .mv (.tmp 0), none⟩, ⟨(some 16), .faddr 0 (.tmp 4), none⟩, ⟨(some 17), .load false 1 (.tmp 16), none⟩, ⟨(some 18), .bin .mul (.const (.int .u64 2)) (.tmp 17), none⟩, ⟨(some 19), .bin .shr (.tmp 15) (.tmp 18), none⟩, ⟨(some 20), .bin .xor (.tmp 14) (.tmp 19), none⟩, ⟨(some 21), .faddr 1 (.tmp 4), none⟩, ⟨(some 22), .load false 1 (.tmp 21), none⟩, ⟨(some 23), .bin .mul (.tmp 20) (.tmp 22), none⟩, ⟨(some 0), .mv (.tmp 23), none⟩])))
 (.ops [⟨(some 24), .bin .add (.tmp 6) (.const (.int .i64 1)), none⟩, ⟨(some 6), .mv (.tmp 24), none⟩])))))))
 (.seq (.ops [⟨(some 25), .mv (.tmp 0), none⟩, ⟨(some 2), .mv (.tmp 25), none⟩])
 .ret))),
 26, [.tmp 2]⟩
/-- whitewash/whitewashref02.Unmix -/
def L11 : FnL := ⟨(.seq (.ops [⟨(some 2), .mv (.const (.int .u64 0)), none⟩])
 (.seq (.ops [⟨(some 5), .mv (.tmp 0), none⟩, ⟨(some 6), .call (.func 17) [(.tmp 5), (.const (.int .i64 31))], none⟩, ⟨(some 7), .call (.func 18) [(.const (.int .u64 10723151780598845931))], none⟩, ⟨(some 8), .bin .mul (.tmp 6) (.tmp 7), none⟩, ⟨(some 3), .mv (.tmp 8), none⟩])
 (.seq (.ops [⟨(some 9), .mv (.tmp 3), none⟩, ⟨(some 10), .call (.func 17) [(.tmp 9), (.const (.int .i64 27))], none⟩, ⟨(some 11), .call (.func 18) [(.const (.int .u64 13787848793156543929))], none⟩, ⟨(some 12), .bin .mul (.tmp 10) (.tmp 11), none⟩, ⟨(some 4), .mv (.tmp 12), none⟩])
 (.seq (.ops [⟨(some 13), .mv (.tmp 4), none⟩, ⟨(some 14), .call (.func 17) [(.tmp 13), (.const (.int .i64 30))], none⟩, ⟨(some 2), .mv (.tmp 14), none⟩])
 .ret)))),
 15, [.tmp 2]⟩
/-- whitewash/mix.Slot -/
def L12 : FnL := ⟨(.seq (.ops [⟨(some 4), .mv (.const (.int .i64 0)), none⟩])
 (.seq (.seq (.ops [⟨(some 5), .mv (.tmp 1), none⟩, ⟨(some 6), .bin .lss (.tmp 5) (.const (.int .i64 1)), none⟩])
 (.cond (.tmp 6) (.seq (.ops [⟨(some 4), .mv (.const (.int .i64 0)), none⟩])
 .ret)
 .skip))
 (.seq (.ops [⟨(some 7), .mv (.tmp 0), none⟩, ⟨(some 8), .call (.func 8) [(.tmp 7)], none⟩, ⟨(some 9), .mv (.tmp 1), none⟩, ⟨(some 10), .conv .u64 (.tmp 9), none⟩, ⟨(some 11), .bin .rem (.tmp 8) (.tmp 10), none⟩, ⟨(some 12), .conv .i64 (.tmp 11), none⟩, ⟨(some 4), .mv (.tmp 12), none⟩])
 .ret))),
 13, [.tmp 4]⟩
/-- whitewash/whitewashref02.Slot -/
def L13 : FnL := ⟨(.seq (.ops [⟨(some 4), .mv (.const (.int .i64 0)), none⟩])
 (.seq (.seq (.ops [⟨(some 5), .mv (.tmp 1), none⟩, ⟨(some 6), .bin .lss (.tmp 5) (.const (.int .i64 1)), none⟩])
 (.cond (.tmp 6) (.seq (.ops [⟨(some 4), .mv (.const (.int .i64 0)), none⟩])
 .ret)
 .skip))
 (.seq (.ops [⟨(some 7), .mv (.tmp 0), none⟩, ⟨(some 8), .call (.func 9) [(.tmp 7)], none⟩, ⟨(some 9), .mv (.tmp 1), none⟩, ⟨(some 10), .conv .u64 (.tmp 9), none⟩, ⟨(some 11), .bin .rem (.tmp 8) (.tmp 10), none⟩, ⟨(some 12), .conv .i64 (.tmp 11), none⟩, ⟨(some 4), .mv (.tmp 12), none⟩])
 .ret))),
 13, [.tmp 4]⟩
/-- whitewash/mix.Before -/
def L14 : FnL := ⟨(.seq (.ops [⟨(some 4), .mv (.const (.bool false)), none⟩])
 (.seq (.ops [⟨(some 5), .mv (.tmp 0), none⟩, ⟨(some 6), .call (.func 8) [(.tmp 5)], none⟩, ⟨(some 7), .mv (.tmp 1), none⟩, ⟨(some 8), .call (.func 8) [(.tmp 7)], none⟩, ⟨(some 9), .bin .gtr (.tmp 6) (.tmp 8), none⟩, ⟨(some 4), .mv (.tmp 9), none⟩])
 .ret)),
 10, [.tmp 4]⟩
/-- whitewash/whitewashref02.Before -/
def L15 : FnL := ⟨(.seq (.ops [⟨(some 4), .mv (.const (.bool false)), none⟩])
 (.seq (.ops [⟨(some 5), .mv (.tmp 0), none⟩, ⟨(some 6), .call (.func 9) [(.tmp 5)], none⟩, ⟨(some 7), .mv (.tmp 1), none⟩, ⟨(some 8), .call (.func 9) [(.tmp 7)], none⟩, ⟨(some 9), .bin .gtr (.tmp 6) (.tmp 8), none⟩, ⟨(some 4), .mv (.tmp 9), none⟩])
 .ret)),
 10, [.tmp 4]⟩
/-- whitewash/whitewashref02.folded -/
def L16 : FnL := ⟨(.seq (.ops [⟨(some 4), .mv (.const (.int .u64 0)), none⟩])
 (.seq (.ops [⟨(some 5), .mv (.tmp 0), none⟩, ⟨(some 6), .mv (.tmp 0), none⟩, ⟨(some 7), .mv (.tmp 1), none⟩, ⟨(some 8), .bin .shr (.tmp 6) (.tmp 7), none⟩, ⟨(some 9), .bin .xor (.tmp 5) (.tmp 8), none⟩, ⟨(some 4), .mv (.tmp 9), none⟩])
 .ret)),
 10, [.tmp 4]⟩
/-- whitewash/whitewashref02.unfolded -/
def L17 : FnL := ⟨(.seq (.ops [⟨(some 4), .mv (.const (.int .u64 0)), none⟩])
 (.seq (.ops [⟨(some 5), .mv (.const (.int .u64 0)), none⟩])
 (.seq (.seq (.ops [⟨(some 6), .mv (.const (.int .i64 63)), none⟩])
 (.block 0 (.loop (.seq (.seq (.ops [⟨(some 8), .mv (.tmp 6), none⟩, ⟨(some 9), .bin .geq (.tmp 8) (.const (.int .i64 0)), none⟩])
 (.cond (.tmp 9) .skip
 (.exit 0)))
 (.seq (.block 1 (.seq (.ops [⟨(some 12), .mv (.tmp 0), none⟩, ⟨(some 13), .mv (.tmp 6), none⟩, ⟨(some 14), .bin .shr (.tmp 12) (.tmp 13), none⟩, ⟨(some 15), .bin .and (.tmp 14) (.const (.int .u64 1)), none⟩, ⟨(some 7), .mv (.tmp 15), none⟩])
 (.seq (.seq (.ops [⟨(some 16), .mv (.tmp 6), none⟩, ⟨(some 17), .mv (.tmp 1), none⟩, ⟨(some 18), .bin .add (.tmp 16) (.tmp 17), none⟩, ⟨(some 19), .bin .lss (.tmp 18) (.const (.int .i64 64)), none⟩])
 (.cond (.tmp 19) (.ops [⟨(some 20), .mv (.tmp 7), none⟩, ⟨(some 21), .mv (.tmp 5), none⟩, ⟨(some 22), .mv (.tmp 6), none⟩, ⟨(some 23), .mv (.tmp 1), none⟩, ⟨(some 24), .bin .add (.tmp 22) (.tmp 23), none⟩, ⟨(some 25), .bin .shr (.tmp 21) (.tmp 24), none⟩, ⟨(some 26), .bin .and (.tmp 25) (.const (.int .u64 1)), none⟩, ⟨(some 27), .bin .xor (.tmp 20) (.tmp 26), none⟩, ⟨(some 7), .mv (.tmp 27), none⟩])
 .skip))
 (.ops [⟨(some 28), .mv (.tmp 5), none⟩, ⟨(some 29), .mv (.tmp 7), none⟩, ⟨(some 30), .mv (.tmp 6), none⟩, ⟨(some 31), .bin .shl (.tmp 29) (.tmp 30), none⟩, ⟨(some 32), .bin .or (.tmp 28) (.tmp 31), none⟩, ⟨(some 5), .mv (.tmp 32), none⟩]))))
 (.ops [⟨(some 10), .mv (.tmp 6), none⟩, ⟨(some 11), .bin .sub (.tmp 10) (.const (.int .i64 1)), none⟩, ⟨(some 6), .mv (.tmp 11), none⟩]))))))
 (.seq (.ops [⟨(some 33), .mv (.tmp 5), none⟩, ⟨(some 4), .mv (.tmp 33), none⟩])
 .ret)))),
 34, [.tmp 4]⟩
/-- whitewash/whitewashref02.inverse -/
def L18 : FnL := ⟨(.seq (.ops [⟨(some 2), .mv (.const (.int .u64 0)), none⟩])
 (.seq (.ops [⟨(some 5), .mv (.tmp 0), none⟩, ⟨(some 3), .mv (.tmp 5), none⟩])
 (.seq (.seq (.ops [⟨(some 4), .mv (.const (.int .i64 0)), none⟩])
 (.block 0 (.loop (.seq (.seq (.ops [⟨(some 6), .mv (.tmp 4), none⟩, ⟨(some 7), .bin .lss (.tmp 6) (.const (.int .i64 6)), none⟩])
 (.cond (.tmp 7) .skip
 (.exit 0)))
 (.seq (.block 1 (.ops [⟨(some 10), .mv (.tmp 3), none⟩, ⟨(some 11), .mv (.tmp 0), none⟩, ⟨(some 12), .mv (.tmp 3), none⟩, ⟨(some 13), .bin .mul (.tmp 11) (.tmp 12), none⟩, ⟨(some 14), .bin .sub (.const (.int .u64 2)) (.tmp 13), none⟩, ⟨(some 15), .bin .mul (.tmp 10) (.tmp 14), none⟩, ⟨(some 3), .mv (.tmp 15), none⟩]))
 (.ops [⟨(some 8), .mv (.tmp 4), none⟩, ⟨(some 9), .bin .add (.tmp 8) (.const (.int .i64 1)), none⟩, ⟨(some 4), .mv (.tmp 9), none⟩]))))))
 (.seq (.ops [⟨(some 16), .mv (.tmp 3), none⟩, ⟨(some 2), .mv (.tmp 16), none⟩])
 .ret)))),
 17, [.tmp 2]⟩

theorem low3 : lowerFn Tryd.prog Tryd.f3 = some L3 := by kernel_rfl
theorem low4 : lowerFn Tryd.prog Tryd.f4 = some L4 := by kernel_rfl
theorem low5 : lowerFn Tryd.prog Tryd.f5 = some L5 := by kernel_rfl
theorem low6 : lowerFn Tryd.prog Tryd.f6 = some L6 := by kernel_rfl
theorem low7 : lowerFn Tryd.prog Tryd.f7 = some L7 := by kernel_rfl
theorem low8 : lowerFn Tryd.prog Tryd.f8 = some L8 := by kernel_rfl
theorem low10 : lowerFn Tryd.prog Tryd.f10 = some L10 := by kernel_rfl
theorem low12 : lowerFn Tryd.prog Tryd.f12 = some L12 := by kernel_rfl
theorem low14 : lowerFn Tryd.prog Tryd.f14 = some L14 := by kernel_rfl

/-- The tables. -/
def Tabs (B : OH) : Prop := rdB B 0 0 6 = some [.int .u64 30, .int .u64 c1.toNat, .int .u64 27, .int .u64 c2.toNat, .int .u64 31, .int .u64 1] ∧
  rdB B 1 0 6 = some [.int .u64 31, .int .u64 d2.toNat, .int .u64 27, .int .u64 d1.toNat, .int .u64 30, .int .u64 1]
def inU (x : Int) : Prop := 0 ≤ x ∧ x < 18446744073709551616
instance (x : Int) : Decidable (inU x) := inferInstanceAs (Decidable (_ ∧ _))
theorem inU_bv {x : Int} (h : inU x) : x = ((BitVec.ofInt 64 x).toNat : Int) := by
  unfold inU at h
  simp only [BitVec.toNat_ofInt]
  omega
def mixV : List Value → Option Value
  | [.int .u64 x] => if inU x then some (.int .u64 (mix (BitVec.ofInt 64 x)).toNat) else none
  | _ => none
def unV' : List Value → Option Value
  | [.int .u64 x] => if inU x then some (.int .u64 (un (BitVec.ofInt 64 x)).toNat) else none
  | _ => none
def noG : Nat → Cs := fun _ _ _ _ => none
theorem sound_noG {P : Program} {w0 : World} {B : OH} : SoundG P w0 B noG := fun _ => .inl fun _ _ _ => rfl


theorem mixV_bv (x : BitVec 64) : mixV [.int .u64 x.toNat] = some (.int .u64 (mix x).toNat) := by
  simp only [mixV, unV', ofInt_toNat]
  rw [if_pos (by have := x.isLt; unfold inU; omega)]
theorem unV_bv (x : BitVec 64) : unV' [.int .u64 x.toNat] = some (.int .u64 (un x).toNat) := by
  simp only [mixV, unV', ofInt_toNat]
  rw [if_pos (by have := x.isLt; unfold inU; omega)]

set_option maxHeartbeats 1000000 in
theorem ev8 {B : OH} (hT : Tabs B) (x : BitVec 64) (H : HL) (N : St) (hN : good B H N) : ∃ H' N', callF B noG 60 L8 [.int .u64 x.toNat] H N = some (.int .u64 (mix x).toNat, H', N') ∧ ∀ r k, den H B r = some k → den H' B r = some k := by
  have hB := good_B hN
  have hR := good_rdB hN
  have hI := beqN hN.1
  obtain ⟨hg, -⟩ := hT
  simp -implicitDefEqProofs (disch := omega) only [L8, hg, hB, hR, hI, callF, pad, e_skip, e_ops, e_seq, e_cond, e_block, e_loop, e_exit, e_ret, s_normal, s_ret, s_exit, s_none, s_ite, b_normal, b_ret, b_exit, b_none, b_ite, c_bool, o_some, o_none, o_ite, x_none, x_nil, x_cons, x_ite, p_some, p_none, p_ite, pt_some, pt_none, pv_some, pv_none, pv_ite, w_none, w_some, i_bool, i_undef, bt, bf, v_tmp, v_const, v_global, v_func, evs, f_normal, f_ret, f_none, f_ite, r_some, co_some, l_ptr, m_agg, m_one, sh_app, lk_nil, lk_cons, rd_eq, rdO_some, rdO_none, rdN_none, rdL_some, rdL_none, wrB_none, unitR_some, wrC_some, wrK_cells, consH_some, wr_nil, wr_here, wr_skip, wrH_cons, k_cells, tk_zero, tk_take, tk_skip, tkC_some, call_func, gt, st, stepOp, newB, ptrTo, binV, arith, isSh, storeV, all1, idxAV, fieldV, faddrV, iaddrSV, iaddrAV, pickV, convV, unV, eqbV, eqpV, extV, lenV, mm2, mmV, nilckV, ress, res1, retV, Value.cells, cond_true, cond_false, Bool.true_or, Bool.false_or, Bool.or_true, Bool.or_false, beq_self_eq_true, if_true, if_false, ite_true, ite_false, decide_true, decide_false, decide_eq_true_eq, reduceIte, Nat.zero_add, Nat.add_zero, and_self, true_and, and_true, List.size_toArray, List.length_cons, List.length_nil, List.append_nil, List.nil_append, Int.toNat_zero, Bool.not_false, Bool.not_true, Bool.not_not, Bool.false_eq_true, Bool.true_eq_false, reduceCtorEq, Int.reduceLT, Int.reduceLE, Int.reduceToNat, Int.reduceAdd, Int.reduceSub, Int.reduceMul, Int.reduceNeg, Nat.reduceMul, Nat.reduceAdd, Nat.reduceSub, Nat.reduceBEq, Nat.reduceEqDiff, Nat.reduceLT, Nat.reduceLeDiff, Int.reduceBEq, Int.reduceEq, Nat.reducePow, Int.reducePow, IntWalk.i64_in, IntKind.bits]
  simp only [ofInt_toNat, wrap_toNat, wrap_mul, fdiv_shr_min, Int.mul_one]
  exact ⟨_, _, rfl, ext_new hN (ext_new hN (ext_new hN ext_refl))⟩
set_option maxHeartbeats 1000000 in
theorem ev10 {B : OH} (hT : Tabs B) (x : BitVec 64) (H : HL) (N : St) (hN : good B H N) : ∃ H' N', callF B noG 60 L10 [.int .u64 x.toNat] H N = some (.int .u64 (un x).toNat, H', N') ∧ ∀ r k, den H B r = some k → den H' B r = some k := by
  have hB := good_B hN
  have hR := good_rdB hN
  have hI := beqN hN.1
  obtain ⟨-, hg⟩ := hT
  simp -implicitDefEqProofs (disch := omega) only [L10, hg, hB, hR, hI, w62, w54, w60, callF, pad, e_skip, e_ops, e_seq, e_cond, e_block, e_loop, e_exit, e_ret, s_normal, s_ret, s_exit, s_none, s_ite, b_normal, b_ret, b_exit, b_none, b_ite, c_bool, o_some, o_none, o_ite, x_none, x_nil, x_cons, x_ite, p_some, p_none, p_ite, pt_some, pt_none, pv_some, pv_none, pv_ite, w_none, w_some, i_bool, i_undef, bt, bf, v_tmp, v_const, v_global, v_func, evs, f_normal, f_ret, f_none, f_ite, r_some, co_some, l_ptr, m_agg, m_one, sh_app, lk_nil, lk_cons, rd_eq, rdO_some, rdO_none, rdN_none, rdL_some, rdL_none, wrB_none, unitR_some, wrC_some, wrK_cells, consH_some, wr_nil, wr_here, wr_skip, wrH_cons, k_cells, tk_zero, tk_take, tk_skip, tkC_some, call_func, gt, st, stepOp, newB, ptrTo, binV, arith, isSh, storeV, all1, idxAV, fieldV, faddrV, iaddrSV, iaddrAV, pickV, convV, unV, eqbV, eqpV, extV, lenV, mm2, mmV, nilckV, ress, res1, retV, Value.cells, cond_true, cond_false, Bool.true_or, Bool.false_or, Bool.or_true, Bool.or_false, beq_self_eq_true, if_true, if_false, ite_true, ite_false, decide_true, decide_false, decide_eq_true_eq, reduceIte, Nat.zero_add, Nat.add_zero, and_self, true_and, and_true, List.size_toArray, List.length_cons, List.length_nil, List.append_nil, List.nil_append, Int.toNat_zero, Bool.not_false, Bool.not_true, Bool.not_not, Bool.false_eq_true, Bool.true_eq_false, reduceCtorEq, Int.reduceLT, Int.reduceLE, Int.reduceToNat, Int.reduceAdd, Int.reduceSub, Int.reduceMul, Int.reduceNeg, Nat.reduceMul, Nat.reduceAdd, Nat.reduceSub, Nat.reduceBEq, Nat.reduceEqDiff, Nat.reduceLT, Nat.reduceLeDiff, Int.reduceBEq, Int.reduceEq, Nat.reducePow, Int.reducePow, IntWalk.i64_in, IntKind.bits]
  simp only [ofInt_toNat, wrap_toNat, wrap_mul, fdiv_shr_min, Int.mul_one]
  exact ⟨_, _, rfl, ext_new hN (ext_new hN (ext_new hN ext_refl))⟩

def G1 : Nat → Cs
  | 8 => fun a H N => pv (mixV a) H N
  | 10 => fun a H N => pv (unV' a) H N
  | _ => fun _ _ _ => none
theorem G1_8 : G1 8 = fun a H N => pv (mixV a) H N := rfl
theorem G1_10 : G1 10 = fun a H N => pv (unV' a) H N := rfl
theorem enter8 : Enter Tryd.prog 8 := .of Tryd.func8 (by kernel_rfl) (by kernel_rfl)
theorem enter10 : Enter Tryd.prog 10 := .of Tryd.func10 (by kernel_rfl) (by kernel_rfl)
theorem sound8 {w0 : World} {B : OH} (hT : Tabs B) : SoundC Tryd.prog w0 B 8 (fun a H N => pv (mixV a) H N) := by
  refine (callF_sound sound_noG 60 Tryd.func8 low8).val fun args v H N hv hN => ?_
  unfold mixV at hv
  split at hv
  · rename_i x
    split at hv
    · rename_i hx
      obtain ⟨X, rfl⟩ : ∃ X : BitVec 64, x = (X.toNat : Int) := ⟨_, inU_bv hx⟩
      rw [ofInt_toNat, Option.some.injEq] at hv
      subst hv
      exact ev8 hT X H N hN
    · cases hv
  · cases hv
theorem sound10 {w0 : World} {B : OH} (hT : Tabs B) : SoundC Tryd.prog w0 B 10 (fun a H N => pv (unV' a) H N) := by
  refine (callF_sound sound_noG 60 Tryd.func10 low10).val fun args v H N hv hN => ?_
  unfold unV' at hv
  split at hv
  · rename_i x
    split at hv
    · rename_i hx
      obtain ⟨X, rfl⟩ : ∃ X : BitVec 64, x = (X.toNat : Int) := ⟨_, inU_bv hx⟩
      rw [ofInt_toNat, Option.some.injEq] at hv
      subst hv
      exact ev10 hT X H N hN
    · cases hv
  · cases hv
theorem soundG1 {w0 : World} {B : OH} (hT : Tabs B) : SoundG Tryd.prog w0 B G1 := fun k => by
  unfold G1
  split
  · exact .inr ⟨enter8, sound8 hT⟩
  · exact .inr ⟨enter10, sound10 hT⟩
  · exact .inl fun _ _ _ => rfl

/-! ### Places, and who goes before whom -/
def inI (x : Int) : Prop := -9223372036854775808 ≤ x ∧ x ≤ 9223372036854775807
instance (x : Int) : Decidable (inI x) := inferInstanceAs (Decidable (_ ∧ _))
def slot (x : BitVec 64) (m : Int) : Int := if m < 1 then 0 else ((mix x).toNat : Int) % m
theorem ev12 {B : OH} (x : BitVec 64) (m : Int) (hm : inI m) (H : HL) (N : St) : callF B G1 60 L12 [.int .u64 x.toNat, .int .i64 m] H N = some (.int .i64 (slot x m), H, N) := by
  unfold inI at hm
  by_cases h : m < 1
  · simp -implicitDefEqProofs (disch := omega) only [L12, h, callF, pad, e_skip, e_ops, e_seq, e_cond, e_block, e_loop, e_exit, e_ret, s_normal, s_ret, s_exit, s_none, s_ite, b_normal, b_ret, b_exit, b_none, b_ite, c_bool, o_some, o_none, o_ite, x_none, x_nil, x_cons, x_ite, p_some, p_none, p_ite, pt_some, pt_none, pv_some, pv_none, pv_ite, w_none, w_some, i_bool, i_undef, bt, bf, v_tmp, v_const, v_global, v_func, evs, f_normal, f_ret, f_none, f_ite, r_some, co_some, l_ptr, m_agg, m_one, sh_app, lk_nil, lk_cons, rd_eq, rdO_some, rdO_none, rdN_none, rdL_some, rdL_none, wrB_none, unitR_some, wrC_some, wrK_cells, consH_some, wr_nil, wr_here, wr_skip, wrH_cons, k_cells, tk_zero, tk_take, tk_skip, tkC_some, call_func, gt, st, stepOp, newB, ptrTo, binV, arith, isSh, storeV, all1, idxAV, fieldV, faddrV, iaddrSV, iaddrAV, pickV, convV, unV, eqbV, eqpV, extV, lenV, mm2, mmV, nilckV, ress, res1, retV, Value.cells, cond_true, cond_false, Bool.true_or, Bool.false_or, Bool.or_true, Bool.or_false, beq_self_eq_true, if_true, if_false, ite_true, ite_false, decide_true, decide_false, decide_eq_true_eq, reduceIte, Nat.zero_add, Nat.add_zero, and_self, true_and, and_true, List.size_toArray, List.length_cons, List.length_nil, List.append_nil, List.nil_append, Int.toNat_zero, Bool.not_false, Bool.not_true, Bool.not_not, Bool.false_eq_true, Bool.true_eq_false, reduceCtorEq, Int.reduceLT, Int.reduceLE, Int.reduceToNat, Int.reduceAdd, Int.reduceSub, Int.reduceMul, Int.reduceNeg, Nat.reduceMul, Nat.reduceAdd, Nat.reduceSub, Nat.reduceBEq, Nat.reduceEqDiff, Nat.reduceLT, Nat.reduceLeDiff, Int.reduceBEq, Int.reduceEq, Nat.reducePow, Int.reducePow, IntWalk.i64_in, IntKind.bits]
    rw [slot, if_pos h]
  · have h0 : ¬ m = 0 := by omega
    have hw : IntKind.u64.wrap m = m := IntWalk.u64_in _ (by omega)
    have hr : ((mix x).toNat : Int).tmod m = ((mix x).toNat : Int) % m := Int.tmod_eq_emod_of_nonneg (by omega)
    have e1 := Int.emod_nonneg ((mix x).toNat : Int) h0
    have e2 := Int.emod_lt_of_pos ((mix x).toNat : Int) (show 0 < m by omega)
    simp -implicitDefEqProofs (disch := omega) only [L12, h, h0, hw, hr, G1_8, mixV_bv, callF, pad, e_skip, e_ops, e_seq, e_cond, e_block, e_loop, e_exit, e_ret, s_normal, s_ret, s_exit, s_none, s_ite, b_normal, b_ret, b_exit, b_none, b_ite, c_bool, o_some, o_none, o_ite, x_none, x_nil, x_cons, x_ite, p_some, p_none, p_ite, pt_some, pt_none, pv_some, pv_none, pv_ite, w_none, w_some, i_bool, i_undef, bt, bf, v_tmp, v_const, v_global, v_func, evs, f_normal, f_ret, f_none, f_ite, r_some, co_some, l_ptr, m_agg, m_one, sh_app, lk_nil, lk_cons, rd_eq, rdO_some, rdO_none, rdN_none, rdL_some, rdL_none, wrB_none, unitR_some, wrC_some, wrK_cells, consH_some, wr_nil, wr_here, wr_skip, wrH_cons, k_cells, tk_zero, tk_take, tk_skip, tkC_some, call_func, gt, st, stepOp, newB, ptrTo, binV, arith, isSh, storeV, all1, idxAV, fieldV, faddrV, iaddrSV, iaddrAV, pickV, convV, unV, eqbV, eqpV, extV, lenV, mm2, mmV, nilckV, ress, res1, retV, Value.cells, cond_true, cond_false, Bool.true_or, Bool.false_or, Bool.or_true, Bool.or_false, beq_self_eq_true, if_true, if_false, ite_true, ite_false, decide_true, decide_false, decide_eq_true_eq, reduceIte, Nat.zero_add, Nat.add_zero, and_self, true_and, and_true, List.size_toArray, List.length_cons, List.length_nil, List.append_nil, List.nil_append, Int.toNat_zero, Bool.not_false, Bool.not_true, Bool.not_not, Bool.false_eq_true, Bool.true_eq_false, reduceCtorEq, Int.reduceLT, Int.reduceLE, Int.reduceToNat, Int.reduceAdd, Int.reduceSub, Int.reduceMul, Int.reduceNeg, Nat.reduceMul, Nat.reduceAdd, Nat.reduceSub, Nat.reduceBEq, Nat.reduceEqDiff, Nat.reduceLT, Nat.reduceLeDiff, Int.reduceBEq, Int.reduceEq, Nat.reducePow, Int.reducePow, IntWalk.i64_in, IntKind.bits]
    rw [slot, if_neg h]
def bef (a b : BitVec 64) : Bool := decide (((mix a).toNat : Int) > ((mix b).toNat : Int))
theorem ev14 {B : OH} (a b : BitVec 64) (H : HL) (N : St) : callF B G1 60 L14 [.int .u64 a.toNat, .int .u64 b.toNat] H N = some (.bool (bef a b), H, N) := by
  simp -implicitDefEqProofs (disch := omega) only [L14, G1_8, mixV_bv, callF, pad, e_skip, e_ops, e_seq, e_cond, e_block, e_loop, e_exit, e_ret, s_normal, s_ret, s_exit, s_none, s_ite, b_normal, b_ret, b_exit, b_none, b_ite, c_bool, o_some, o_none, o_ite, x_none, x_nil, x_cons, x_ite, p_some, p_none, p_ite, pt_some, pt_none, pv_some, pv_none, pv_ite, w_none, w_some, i_bool, i_undef, bt, bf, v_tmp, v_const, v_global, v_func, evs, f_normal, f_ret, f_none, f_ite, r_some, co_some, l_ptr, m_agg, m_one, sh_app, lk_nil, lk_cons, rd_eq, rdO_some, rdO_none, rdN_none, rdL_some, rdL_none, wrB_none, unitR_some, wrC_some, wrK_cells, consH_some, wr_nil, wr_here, wr_skip, wrH_cons, k_cells, tk_zero, tk_take, tk_skip, tkC_some, call_func, gt, st, stepOp, newB, ptrTo, binV, arith, isSh, storeV, all1, idxAV, fieldV, faddrV, iaddrSV, iaddrAV, pickV, convV, unV, eqbV, eqpV, extV, lenV, mm2, mmV, nilckV, ress, res1, retV, Value.cells, cond_true, cond_false, Bool.true_or, Bool.false_or, Bool.or_true, Bool.or_false, beq_self_eq_true, if_true, if_false, ite_true, ite_false, decide_true, decide_false, decide_eq_true_eq, reduceIte, Nat.zero_add, Nat.add_zero, and_self, true_and, and_true, List.size_toArray, List.length_cons, List.length_nil, List.append_nil, List.nil_append, Int.toNat_zero, Bool.not_false, Bool.not_true, Bool.not_not, Bool.false_eq_true, Bool.true_eq_false, reduceCtorEq, Int.reduceLT, Int.reduceLE, Int.reduceToNat, Int.reduceAdd, Int.reduceSub, Int.reduceMul, Int.reduceNeg, Nat.reduceMul, Nat.reduceAdd, Nat.reduceSub, Nat.reduceBEq, Nat.reduceEqDiff, Nat.reduceLT, Nat.reduceLeDiff, Int.reduceBEq, Int.reduceEq, Nat.reducePow, Int.reducePow, IntWalk.i64_in, IntKind.bits]
  rfl
def slotV : List Value → Option Value
  | [.int .u64 x, .int .i64 m] => if inU x ∧ inI m then some (.int .i64 (slot (BitVec.ofInt 64 x) m)) else none
  | _ => none
def befV : List Value → Option Value
  | [.int .u64 a, .int .u64 b] => if inU a ∧ inU b then some (.bool (bef (BitVec.ofInt 64 a) (BitVec.ofInt 64 b))) else none
  | _ => none
theorem slotV_bv (x : BitVec 64) (m : Int) (h : inI m) : slotV [.int .u64 x.toNat, .int .i64 m] = some (.int .i64 (slot x m)) := by
  simp only [slotV, ofInt_toNat]
  rw [if_pos ⟨by have := x.isLt; unfold inU; omega, h⟩]
theorem befV_bv (a b : BitVec 64) : befV [.int .u64 a.toNat, .int .u64 b.toNat] = some (.bool (bef a b)) := by
  simp only [befV, ofInt_toNat]
  rw [if_pos ⟨by have := a.isLt; unfold inU; omega, by have := b.isLt; unfold inU; omega⟩]
def G2 : Nat → Cs
  | 8 => fun a H N => pv (mixV a) H N
  | 10 => fun a H N => pv (unV' a) H N
  | 12 => fun a H N => pv (slotV a) H N
  | 14 => fun a H N => pv (befV a) H N
  | _ => fun _ _ _ => none
theorem G2_8 : G2 8 = fun a H N => pv (mixV a) H N := rfl
theorem G2_10 : G2 10 = fun a H N => pv (unV' a) H N := rfl
theorem G2_12 : G2 12 = fun a H N => pv (slotV a) H N := rfl
theorem G2_14 : G2 14 = fun a H N => pv (befV a) H N := rfl
theorem soundG2 {w0 : World} {B : OH} (hT : Tabs B) : SoundG Tryd.prog w0 B G2 := fun k => by
  unfold G2
  split
  · exact .inr ⟨enter8, sound8 hT⟩
  · exact .inr ⟨enter10, sound10 hT⟩
  · refine .inr ⟨.of Tryd.func12 (by kernel_rfl) (by kernel_rfl), (callF_sound (soundG1 hT) 60 Tryd.func12 low12).val fun args v H N hv hN => ?_⟩
    unfold slotV at hv
    split at hv
    · rename_i x m
      split at hv
      · rename_i hx
        obtain ⟨X, rfl⟩ : ∃ X : BitVec 64, x = (X.toNat : Int) := ⟨_, inU_bv hx.1⟩
        rw [ofInt_toNat, Option.some.injEq] at hv
        subst hv
        exact ⟨H, N, ev12 X m hx.2 H N, ext_refl⟩
      · cases hv
    · cases hv
  · refine .inr ⟨.of Tryd.func14 (by kernel_rfl) (by kernel_rfl), (callF_sound (soundG1 hT) 60 Tryd.func14 low14).val fun args v H N hv hN => ?_⟩
    unfold befV at hv
    split at hv
    · rename_i a b
      split at hv
      · rename_i hx
        obtain ⟨X, rfl⟩ : ∃ X : BitVec 64, a = (X.toNat : Int) := ⟨_, inU_bv hx.1⟩
        obtain ⟨Y, rfl⟩ : ∃ Y : BitVec 64, b = (Y.toNat : Int) := ⟨_, inU_bv hx.2⟩
        rw [ofInt_toNat, ofInt_toNat, Option.some.injEq] at hv
        subst hv
        exact ⟨H, N, ev14 X Y H N, ext_refl⟩
      · cases hv
    · cases hv
  · exact .inl fun _ _ _ => rfl
theorem k1 : mixV [.int .u64 0] = some (.int .u64 0) := by kernel_rfl
theorem k2 : mixV [.int .u64 11400714819323198485] = some (.int .u64 16294208416658607535) := by kernel_rfl
theorem k3 : unV' [.int .u64 7960286522194355700] = some (.int .u64 4354685564936845354) := by kernel_rfl
theorem k4 : slotV [.int .u64 11400714819323198485, .int .i64 16] = some (.int .i64 15) := by kernel_rfl
theorem k5 : slotV [.int .u64 1, .int .i64 0] = some (.int .i64 0) := by kernel_rfl
theorem k6 : befV [.int .u64 1, .int .u64 0] = some (.bool true) := by kernel_rfl
theorem k7 : befV [.int .u64 0, .int .u64 1] = some (.bool false) := by kernel_rfl
theorem ev7 {B : OH} (H : HL) (N : St) : callF B G2 60 L7 [] H N = some (.bool true, H, N) := by
  simp -implicitDefEqProofs (disch := omega) only [L7, G2_8, G2_10, G2_12, G2_14, k1, k2, k3, k4, k5, k6, k7, callF, pad, e_skip, e_ops, e_seq, e_cond, e_block, e_loop, e_exit, e_ret, s_normal, s_ret, s_exit, s_none, s_ite, b_normal, b_ret, b_exit, b_none, b_ite, c_bool, o_some, o_none, o_ite, x_none, x_nil, x_cons, x_ite, p_some, p_none, p_ite, pt_some, pt_none, pv_some, pv_none, pv_ite, w_none, w_some, i_bool, i_undef, bt, bf, v_tmp, v_const, v_global, v_func, evs, f_normal, f_ret, f_none, f_ite, r_some, co_some, l_ptr, m_agg, m_one, sh_app, lk_nil, lk_cons, rd_eq, rdO_some, rdO_none, rdN_none, rdL_some, rdL_none, wrB_none, unitR_some, wrC_some, wrK_cells, consH_some, wr_nil, wr_here, wr_skip, wrH_cons, k_cells, tk_zero, tk_take, tk_skip, tkC_some, call_func, gt, st, stepOp, newB, ptrTo, binV, arith, isSh, storeV, all1, idxAV, fieldV, faddrV, iaddrSV, iaddrAV, pickV, convV, unV, eqbV, eqpV, extV, lenV, mm2, mmV, nilckV, ress, res1, retV, Value.cells, cond_true, cond_false, Bool.true_or, Bool.false_or, Bool.or_true, Bool.or_false, beq_self_eq_true, if_true, if_false, ite_true, ite_false, decide_true, decide_false, decide_eq_true_eq, reduceIte, Nat.zero_add, Nat.add_zero, and_self, true_and, and_true, List.size_toArray, List.length_cons, List.length_nil, List.append_nil, List.nil_append, Int.toNat_zero, Bool.not_false, Bool.not_true, Bool.not_not, Bool.false_eq_true, Bool.true_eq_false, reduceCtorEq, Int.reduceLT, Int.reduceLE, Int.reduceToNat, Int.reduceAdd, Int.reduceSub, Int.reduceMul, Int.reduceNeg, Nat.reduceMul, Nat.reduceAdd, Nat.reduceSub, Nat.reduceBEq, Nat.reduceEqDiff, Nat.reduceLT, Nat.reduceLeDiff, Int.reduceBEq, Int.reduceEq, Nat.reducePow, Int.reducePow, IntWalk.i64_in, IntKind.bits]

def G3 : Nat → Cs
  | 7 => fun a H N => pv (match a with | [] => some (.bool true) | _ => none) H N
  | 8 => fun a H N => pv (mixV a) H N
  | 10 => fun a H N => pv (unV' a) H N
  | 12 => fun a H N => pv (slotV a) H N
  | 14 => fun a H N => pv (befV a) H N
  | _ => fun _ _ _ => none
theorem G3_7 : G3 7 = fun a H N => pv (match a with | [] => some (.bool true) | _ => none) H N := rfl
theorem G3_8 : G3 8 = fun a H N => pv (mixV a) H N := rfl
theorem G3_10 : G3 10 = fun a H N => pv (unV' a) H N := rfl
theorem G3_12 : G3 12 = fun a H N => pv (slotV a) H N := rfl
theorem G3_14 : G3 14 = fun a H N => pv (befV a) H N := rfl
theorem soundG3 {w0 : World} {B : OH} (hT : Tabs B) : SoundG Tryd.prog w0 B G3 := fun k => by
  unfold G3
  split
  · refine .inr ⟨.of Tryd.func7 (by kernel_rfl) (by kernel_rfl), (callF_sound (soundG2 hT) 60 Tryd.func7 low7).val fun args v H N hv hN => ?_⟩
    split at hv
    · simp only [Option.some.injEq] at hv
      subst hv
      exact ⟨H, N, ev7 H N, ext_refl⟩
    · cases hv
  · exact soundG2 hT 8
  · exact soundG2 hT 10
  · exact soundG2 hT 12
  · exact soundG2 hT 14
  · exact .inl fun _ _ _ => rfl

theorem mix_inj {a b : BitVec 64} (h : mix a = mix b) : a = b := by rw [← un_mix a, h, un_mix]
theorem beq_mix (a b : BitVec 64) : (((mix a).toNat : Int) == ((mix b).toNat : Int)) = ((a.toNat : Int) == (b.toNat : Int)) := by
  rw [Bool.eq_iff_iff, beq_iff_eq, beq_iff_eq]
  constructor
  · intro h
    have : (mix a).toNat = (mix b).toNat := by exact_mod_cast h
    rw [mix_inj (BitVec.eq_of_toNat_eq this)]
  · intro h
    have : a.toNat = b.toNat := by exact_mod_cast h
    rw [BitVec.eq_of_toNat_eq this]
theorem ne_of_bv {a b : BitVec 64} (h : a ≠ b) : ((a.toNat : Int) == (b.toNat : Int)) = false := by
  rw [beq_eq_false_iff_ne]
  intro e
  exact h (BitVec.eq_of_toNat_eq (by exact_mod_cast e))
theorem ne_of_bv' {a b : BitVec 64} (h : a ≠ b) : ((a.toNat : Int) != (b.toNat : Int)) = true := by
  rw [bne, ne_of_bv h]; rfl
theorem bef_self (a : BitVec 64) : bef a a = false := by simp [bef]
theorem bef_or {a b : BitVec 64} (h : a ≠ b) : (bef a b = true ∧ bef b a = false) ∨ (bef a b = false ∧ bef b a = true) := by
  have : (mix a).toNat ≠ (mix b).toNat := fun e => h (mix_inj (BitVec.eq_of_toNat_eq e))
  unfold bef
  simp only [decide_eq_true_eq, decide_eq_false_iff_not]
  omega
theorem bef_trans {a b c : BitVec 64} (h : bef a b = true) (h' : bef b c = true) : bef a c = true := by
  unfold bef at *
  simp only [decide_eq_true_eq] at *
  omega

set_option maxHeartbeats 2000000 in
theorem ev4 {B : OH} (a b : BitVec 64) (H : HL) (N : St) : callF B G3 60 L4 [.int .u64 a.toNat, .int .u64 b.toNat] H N = some (.bool true, H, N) := by
  by_cases h : a = b
  · subst h
    have hs := bef_self a
    simp -implicitDefEqProofs (disch := omega) only [L4, G3_7, G3_8, G3_10, G3_14, mixV_bv, unV_bv, befV_bv, un_mix, mix_un, hs, bne_self_eq_false, callF, pad, e_skip, e_ops, e_seq, e_cond, e_block, e_loop, e_exit, e_ret, s_normal, s_ret, s_exit, s_none, s_ite, b_normal, b_ret, b_exit, b_none, b_ite, c_bool, o_some, o_none, o_ite, x_none, x_nil, x_cons, x_ite, p_some, p_none, p_ite, pt_some, pt_none, pv_some, pv_none, pv_ite, w_none, w_some, i_bool, i_undef, bt, bf, v_tmp, v_const, v_global, v_func, evs, f_normal, f_ret, f_none, f_ite, r_some, co_some, l_ptr, m_agg, m_one, sh_app, lk_nil, lk_cons, rd_eq, rdO_some, rdO_none, rdN_none, rdL_some, rdL_none, wrB_none, unitR_some, wrC_some, wrK_cells, consH_some, wr_nil, wr_here, wr_skip, wrH_cons, k_cells, tk_zero, tk_take, tk_skip, tkC_some, call_func, gt, st, stepOp, newB, ptrTo, binV, arith, isSh, storeV, all1, idxAV, fieldV, faddrV, iaddrSV, iaddrAV, pickV, convV, unV, eqbV, eqpV, extV, lenV, mm2, mmV, nilckV, ress, res1, retV, Value.cells, cond_true, cond_false, Bool.true_or, Bool.false_or, Bool.or_true, Bool.or_false, beq_self_eq_true, if_true, if_false, ite_true, ite_false, decide_true, decide_false, decide_eq_true_eq, reduceIte, Nat.zero_add, Nat.add_zero, and_self, true_and, and_true, List.size_toArray, List.length_cons, List.length_nil, List.append_nil, List.nil_append, Int.toNat_zero, Bool.not_false, Bool.not_true, Bool.not_not, Bool.false_eq_true, Bool.true_eq_false, reduceCtorEq, Int.reduceLT, Int.reduceLE, Int.reduceToNat, Int.reduceAdd, Int.reduceSub, Int.reduceMul, Int.reduceNeg, Nat.reduceMul, Nat.reduceAdd, Nat.reduceSub, Nat.reduceBEq, Nat.reduceEqDiff, Nat.reduceLT, Nat.reduceLeDiff, Int.reduceBEq, Int.reduceEq, Nat.reducePow, Int.reducePow, IntWalk.i64_in, IntKind.bits]
  · have h1 := ne_of_bv h
    have h2 := ne_of_bv' h
    rcases bef_or h with ⟨h3, h4⟩ | ⟨h3, h4⟩
    · simp -implicitDefEqProofs (disch := omega) only [L4, G3_7, G3_8, G3_10, G3_14, mixV_bv, unV_bv, befV_bv, un_mix, mix_un, beq_mix, h1, h2, h3, h4, callF, pad, e_skip, e_ops, e_seq, e_cond, e_block, e_loop, e_exit, e_ret, s_normal, s_ret, s_exit, s_none, s_ite, b_normal, b_ret, b_exit, b_none, b_ite, c_bool, o_some, o_none, o_ite, x_none, x_nil, x_cons, x_ite, p_some, p_none, p_ite, pt_some, pt_none, pv_some, pv_none, pv_ite, w_none, w_some, i_bool, i_undef, bt, bf, v_tmp, v_const, v_global, v_func, evs, f_normal, f_ret, f_none, f_ite, r_some, co_some, l_ptr, m_agg, m_one, sh_app, lk_nil, lk_cons, rd_eq, rdO_some, rdO_none, rdN_none, rdL_some, rdL_none, wrB_none, unitR_some, wrC_some, wrK_cells, consH_some, wr_nil, wr_here, wr_skip, wrH_cons, k_cells, tk_zero, tk_take, tk_skip, tkC_some, call_func, gt, st, stepOp, newB, ptrTo, binV, arith, isSh, storeV, all1, idxAV, fieldV, faddrV, iaddrSV, iaddrAV, pickV, convV, unV, eqbV, eqpV, extV, lenV, mm2, mmV, nilckV, ress, res1, retV, Value.cells, cond_true, cond_false, Bool.true_or, Bool.false_or, Bool.or_true, Bool.or_false, beq_self_eq_true, if_true, if_false, ite_true, ite_false, decide_true, decide_false, decide_eq_true_eq, reduceIte, Nat.zero_add, Nat.add_zero, and_self, true_and, and_true, List.size_toArray, List.length_cons, List.length_nil, List.append_nil, List.nil_append, Int.toNat_zero, Bool.not_false, Bool.not_true, Bool.not_not, Bool.false_eq_true, Bool.true_eq_false, reduceCtorEq, Int.reduceLT, Int.reduceLE, Int.reduceToNat, Int.reduceAdd, Int.reduceSub, Int.reduceMul, Int.reduceNeg, Nat.reduceMul, Nat.reduceAdd, Nat.reduceSub, Nat.reduceBEq, Nat.reduceEqDiff, Nat.reduceLT, Nat.reduceLeDiff, Int.reduceBEq, Int.reduceEq, Nat.reducePow, Int.reducePow, IntWalk.i64_in, IntKind.bits]
    · simp -implicitDefEqProofs (disch := omega) only [L4, G3_7, G3_8, G3_10, G3_14, mixV_bv, unV_bv, befV_bv, un_mix, mix_un, beq_mix, h1, h2, h3, h4, callF, pad, e_skip, e_ops, e_seq, e_cond, e_block, e_loop, e_exit, e_ret, s_normal, s_ret, s_exit, s_none, s_ite, b_normal, b_ret, b_exit, b_none, b_ite, c_bool, o_some, o_none, o_ite, x_none, x_nil, x_cons, x_ite, p_some, p_none, p_ite, pt_some, pt_none, pv_some, pv_none, pv_ite, w_none, w_some, i_bool, i_undef, bt, bf, v_tmp, v_const, v_global, v_func, evs, f_normal, f_ret, f_none, f_ite, r_some, co_some, l_ptr, m_agg, m_one, sh_app, lk_nil, lk_cons, rd_eq, rdO_some, rdO_none, rdN_none, rdL_some, rdL_none, wrB_none, unitR_some, wrC_some, wrK_cells, consH_some, wr_nil, wr_here, wr_skip, wrH_cons, k_cells, tk_zero, tk_take, tk_skip, tkC_some, call_func, gt, st, stepOp, newB, ptrTo, binV, arith, isSh, storeV, all1, idxAV, fieldV, faddrV, iaddrSV, iaddrAV, pickV, convV, unV, eqbV, eqpV, extV, lenV, mm2, mmV, nilckV, ress, res1, retV, Value.cells, cond_true, cond_false, Bool.true_or, Bool.false_or, Bool.or_true, Bool.or_false, beq_self_eq_true, if_true, if_false, ite_true, ite_false, decide_true, decide_false, decide_eq_true_eq, reduceIte, Nat.zero_add, Nat.add_zero, and_self, true_and, and_true, List.size_toArray, List.length_cons, List.length_nil, List.append_nil, List.nil_append, Int.toNat_zero, Bool.not_false, Bool.not_true, Bool.not_not, Bool.false_eq_true, Bool.true_eq_false, reduceCtorEq, Int.reduceLT, Int.reduceLE, Int.reduceToNat, Int.reduceAdd, Int.reduceSub, Int.reduceMul, Int.reduceNeg, Nat.reduceMul, Nat.reduceAdd, Nat.reduceSub, Nat.reduceBEq, Nat.reduceEqDiff, Nat.reduceLT, Nat.reduceLeDiff, Int.reduceBEq, Int.reduceEq, Nat.reducePow, Int.reducePow, IntWalk.i64_in, IntKind.bits]


theorem gThere : Tryd.prog.globalNamed "whitewash/mix.there" = some 0 := by kernel_rfl
theorem gBack : Tryd.prog.globalNamed "whitewash/mix.back" = some 1 := by kernel_rfl
theorem gThereT : (Tryd.prog.globals[0]?).map (·.type) = some 33 := by kernel_rfl
theorem gBackT : (Tryd.prog.globals[1]?).map (·.type) = some 33 := by kernel_rfl
theorem leafs33 : leafs Tryd.prog 12 33 = some [.int .u64, .int .u64, .int .u64, .int .u64, .int .u64, .int .u64] := by kernel_rfl
theorem tabs {W : World} (h : laidMetH Tryd.prog Rows.mixBackRow.laid W) : Tabs (startB W) := by
  obtain ⟨ps, hv, _⟩ := laidMet_of_H (by rfl) h
  obtain ⟨a1, e1, f1, h1, l1⟩ := laid_cells hv (n := "whitewash/mix.there") (x := Rows.laid_whitewash_mix_there) (by simp [Rows.mixBackRow]) 12 gThere gThereT leafs33
  obtain ⟨a2, e2, f2, h2, l2⟩ := laid_cells hv (n := "whitewash/mix.back") (x := Rows.laid_whitewash_mix_back) (by simp [Rows.mixBackRow]) 12 gBack gBackT leafs33
  exact ⟨rdB_whole h1 l1 (by rfl), rdB_whole h2 l2 (by rfl)⟩

namespace mixBack
theorem own : ownKnob Tryd.prog.godebug = none := by kernel_rfl
theorem laidOut : laidOutB Tryd.prog = true := by kernel_rfl
theorem typesOk : (Tryd.f4.params.toList.all fun t => Tryd.prog.readableRec t && decide (t < Tryd.prog.types.size)) = true := by kernel_rfl
theorem contract (H : Type) (enc : TypeId × Value → H) (W : World) (base : Nat) (args : Array Value) (ds gs : List (DataW H)) (before : List MemPlace)
    (hval : ∀ (j : Nat) t v, Tryd.f4.params[j]? = some t → args[j]? = some v → Value.okWide Tryd.prog W .any base t v)
    (hW : DataW.Whole enc Tryd.prog Tryd.f4.params.toList Rows.mixBackSpec.vars false W args.toList ds gs before) (hL : laidMetH Tryd.prog Rows.mixBackRow.laid W) :
    Calls Tryd.prog 4 args W fun e W' => ∃ v, e = .returned v ∧ Rows.mixBackSpec.post enc Tryd.prog Tryd.f4 false true false false W args v W' := by
  have hW' := hW
  obtain ⟨p, q, hA0, hV, hpq, hfz, hnd⟩ := hW
  have hA : DataW.TrodAll enc Tryd.prog W 0 (fun _ => true) true Tryd.f4.params.toList args.toList ds p := hA0
  rw [Tryd.params4] at hA hval
  obtain ⟨v0, vs0, d0, ds0, p0, q0, hargs, rfl, rfl, h0, r0⟩ := trodAll_cons hA
  obtain ⟨v1, vs1, d1, ds1, p1, q1, rfl, rfl, rfl, h1, r1⟩ := trodAll_cons r0
  obtain ⟨rfl, rfl, rfl⟩ := trodAll_nil r1
  obtain rfl : args = #[v0, v1] := by apply Array.ext'; simpa using hargs
  obtain ⟨rfl, rfl⟩ := trodVars_none hV
  obtain ⟨x0, rfl, rfl, rfl, w0⟩ := open_int Tryd.underlying22 (hval 0 22 v0 rfl rfl) h0
  obtain ⟨y0, rfl⟩ := u64_wf w0
  obtain ⟨x1, rfl, rfl, rfl, w1⟩ := open_int Tryd.underlying22 (hval 1 22 v1 rfl rfl) h1
  obtain ⟨y1, rfl⟩ := u64_wf w1
  refine law_post laidOut (fun t ht => by simpa using List.all_eq_true.1 typesOk t ht) rfl (show Tryd.f4.resultTypes = #[4] by rfl) Tryd.underlying4 hW' rfl rfl rfl ?_
  exact law_calls (callF_sound (soundG3 (tabs hL)) 60 Tryd.func4 low4) fun N hN => ⟨[], N, ev4 y0 y1 [] N⟩

noncomputable def laidWorld (os : Os) : World := laidW Tryd.prog os [(0, [.int .u64 30, .int .u64 13787848793156543929, .int .u64 27, .int .u64 10723151780598845931, .int .u64 31, .int .u64 1]), (1, [.int .u64 31, .int .u64 3573116690164977347, .int .u64 27, .int .u64 10871156337175269513, .int .u64 30, .int .u64 1])]
theorem laid_met (os : Os) : laidMet Tryd.prog Rows.mixBackRow.laid ((laidWorld os).forCall (fun _ _ => 0) ⟨#[], #[.int .u64 0, .int .u64 0], []⟩).memory :=
  laidMet_of_run' 16 (by kernel_rfl) (by kernel_rfl)
theorem reads (os : Os) {H : Type} (enc : TypeId × Value → H) : ∃ places, DataW.whole enc Tryd.prog ((laidWorld os).forCall (fun _ _ => 0) ⟨#[], #[.int .u64 0, .int .u64 0], []⟩).memory Tryd.f4.params.toList Rows.mixBackSpec.vars false (#[.int .u64 0, .int .u64 0] : Array Value).toList 16 = some ([.lit (.int .u64 0), .lit (.int .u64 0)], [], places) :=
  ⟨[], by kernel_rfl⟩
theorem lifted (os : Os) (started : os.Started) (H : Type) (enc : TypeId × Value → H) (F : Stop.Interp) :
    ReturnsInHanded {} Tryd.checked os 4 .any ((OpenSpec.ofChange Rows.mixBackSpec).preRow enc Tryd.prog Tryd.f4 Rows.mixBackRow.domain false Rows.mixBackRow.laid) (((OpenSpec.ofChange Rows.mixBackSpec).at F).post enc Tryd.prog Tryd.f4 false true false false) := by
  obtain ⟨places, hx⟩ := reads os enc
  refine returnsInHanded_of_row (C := Tryd.checked) (s := OpenSpec.ofChange Rows.mixBackSpec) own started (by kernel_rfl) Tryd.func4
    (witness_row_at (enc := enc) (C := Tryd.checked) false (laidWorld os) #[.int .u64 0, .int .u64 0] rfl (by kernel_rfl) (by kernel_rfl) (by kernel_rfl)
      (OpenSpec.preRow_of_cond 16 hx (by kernel_rfl) (fun k hk => by cases hk) (by kernel_rfl) (laid_met os))) ?_
  intro W base args ds gs before hval hW _ _ _ hL _ _
  exact contract H enc W base args ds gs before hval hW hL
theorem said : Rows.MixBackSaid :=
  OpenClaim.holds_of_cond 4 Tryd.f4 rfl rfl rfl rfl rfl rfl rfl ⟨rfl, rfl, rfl, rfl, rfl⟩ rfl rfl rfl rfl rfl (by kernel_rfl) Tryd.func4 (by kernel_rfl)
    (of_decide_eq_true (by kernel_rfl)) (by unfold Func.isWrapper; first | (rw [if_pos (by decide +kernel)]; kernel_rfl) | (rw [if_neg (by decide +kernel)]; exact ⟨rfl, rfl⟩))
    (fun os started H enc _ F => by rw [OpenClaim.pre_eq_preRow]; exact lifted os started H enc F)
theorem plain (f : FuncId) (fn : Func) (hf : Tryd.pinned.checked.prog.funcNamed "whitewash/whitewashlaw02.MixBack" = some f) (hfn : Tryd.pinned.checked.prog.funcs[f]? = some fn) :
    false = Tryd.pinned.checked.prog.looks [] ∧ ∀ (j : Nat) t, fn.params[j]? = some t → Tryd.pinned.checked.prog.wantsStandIn t = false := by
  obtain rfl : f = 4 := Option.some.inj ((show Tryd.prog.funcNamed "whitewash/whitewashlaw02.MixBack" = some 4 by kernel_rfl).symm.trans hf) |>.symm
  obtain rfl : fn = Tryd.f4 := (Option.some.inj (Tryd.func4.symm.trans hfn)).symm
  refine ⟨by kernel_rfl, fun j t ht => ?_⟩
  have hall : (Tryd.f4.params.toList.all fun t => !Tryd.prog.wantsStandIn t) = true := by kernel_rfl
  have := List.all_eq_true.1 hall t (by simpa using Array.mem_of_getElem? ht)
  show Tryd.prog.wantsStandIn t = false
  simpa using this
theorem card : Rows.MixBackCardSaid :=
  Claim7.holds_tied_plain_at .later [] _ _ _ _ said (fun _ h => by cases h) (by kernel_rfl) (fun _ h => by cases h) mixBack_row_tie rfl ⟨rfl, rfl⟩ (by kernel_rfl) rfl plain (by kernel_rfl)
end mixBack
end Go.Proofs.YtjeaeongfniafaaDoor
namespace Go.Proofs.YtjeaeongfniafaaDoor
open Go.Proofs.YtjeaeongfniafaaDoor.K Go.Proofs.YtjeaeongfniafaaDoor.K.Mix Go.ChangeShapes Go.WideShapes Go.ChangeAt Go.RowKit
set_option maxRecDepth 100000
set_option linter.unusedSimpArgs false
set_option linter.unusedVariables false


theorem slot_lt {x : BitVec 64} {m : Int} (h : m < 1) : slot x m = 0 := by rw [slot, if_pos h]
theorem slot_ge {x : BitVec 64} {m : Int} (h : ¬ m < 1) : slot x m = ((mix x).toNat : Int) % m := by rw [slot, if_neg h]
theorem slot_ge0 {x : BitVec 64} {m : Int} (h : ¬ m < 1) : (slot x m ≥ 0) = True := by rw [slot_ge h]; exact eq_true (Int.emod_nonneg _ (by omega))
theorem slot_ltm {x : BitVec 64} {m : Int} (h : ¬ m < 1) : (slot x m < m) = True := by rw [slot_ge h]; exact eq_true (Int.emod_lt_of_pos _ (by omega))
theorem slot_one {x : BitVec 64} : slot x 1 = 0 := by rw [slot_ge (by omega)]; omega
theorem slot_two {x : BitVec 64} {m : Int} (h : ¬ m < 1) : (slot x (2 * m)).tmod m = slot x m := by
  have h1 : ¬ 2 * m < 1 := by omega
  have e1 := Int.emod_nonneg ((mix x).toNat : Int) (show 2 * m ≠ 0 by omega)
  rw [slot_ge h, slot_ge h1, Int.tmod_eq_emod_of_nonneg e1]
  exact Int.emod_emod_of_dvd _ ⟨2, by omega⟩
theorem tmod_bv (x : BitVec 64) (m : Int) (h : ¬ m < 1) (hm : inI m) : ∃ X : BitVec 64, (x.toNat : Int).tmod m = X.toNat ∧ (x.toNat : Int) % m = X.toNat ∧ (X.toNat : Int) < m := by
  unfold inI at hm
  have e0 : (x.toNat : Int).tmod m = (x.toNat : Int) % m := Int.tmod_eq_emod_of_nonneg (by omega)
  have e1 := Int.emod_nonneg (x.toNat : Int) (show m ≠ 0 by omega)
  have e2 := Int.emod_lt_of_pos (x.toNat : Int) (show 0 < m by omega)
  rw [e0]
  refine ⟨BitVec.ofInt 64 ((x.toNat : Int) % m), ?_, ?_, ?_⟩
  all_goals
    simp only [BitVec.toNat_ofInt]
    omega
theorem one_in : inI 1 := by unfold inI; omega

set_option maxHeartbeats 2000000 in
theorem ev5 {B : OH} (a b c : BitVec 64) (m : Int) (hm : inI m) (H : HL) (N : St) : callF B G3 60 L5 [.int .u64 a.toNat, .int .u64 b.toNat, .int .u64 c.toNat, .int .i64 m] H N = some (.bool true, H, N) := by
  have hm' := hm
  unfold inI at hm'
  have s1 := slotV_bv a m hm
  have s2 := slotV_bv a 1 one_in
  have o1 : slot a 1 = 0 := slot_one
  have key : ∀ x y z : Bool, bef a b = x → bef b c = y → bef a c = z → (x = true → y = true → z = true) → callF B G3 60 L5 [.int .u64 a.toNat, .int .u64 b.toNat, .int .u64 c.toNat, .int .i64 m] H N = some (.bool true, H, N) := by
    intro x y z h1 h2 h3 hxyz
    by_cases h : m < 1
    · have t1 : slot a m = 0 := slot_lt h
      cases x <;> cases y <;> cases z <;> first | (exact absurd (hxyz rfl rfl) (by decide)) | simp -implicitDefEqProofs (disch := omega) only [L5, G3_7, G3_8, G3_10, G3_12, G3_14, befV_bv, h1, h2, h3, h, s1, s2, t1, o1, callF, pad, e_skip, e_ops, e_seq, e_cond, e_block, e_loop, e_exit, e_ret, s_normal, s_ret, s_exit, s_none, s_ite, b_normal, b_ret, b_exit, b_none, b_ite, c_bool, o_some, o_none, o_ite, x_none, x_nil, x_cons, x_ite, p_some, p_none, p_ite, pt_some, pt_none, pv_some, pv_none, pv_ite, w_none, w_some, i_bool, i_undef, bt, bf, v_tmp, v_const, v_global, v_func, evs, f_normal, f_ret, f_none, f_ite, r_some, co_some, l_ptr, m_agg, m_one, sh_app, lk_nil, lk_cons, rd_eq, rdO_some, rdO_none, rdN_none, rdL_some, rdL_none, wrB_none, unitR_some, wrC_some, wrK_cells, consH_some, wr_nil, wr_here, wr_skip, wrH_cons, k_cells, tk_zero, tk_take, tk_skip, tkC_some, call_func, gt, st, stepOp, newB, ptrTo, binV, arith, isSh, storeV, all1, idxAV, fieldV, faddrV, iaddrSV, iaddrAV, pickV, convV, unV, eqbV, eqpV, extV, lenV, mm2, mmV, nilckV, ress, res1, retV, Value.cells, cond_true, cond_false, Bool.true_or, Bool.false_or, Bool.or_true, Bool.or_false, beq_self_eq_true, if_true, if_false, ite_true, ite_false, decide_true, decide_false, decide_eq_true_eq, reduceIte, Nat.zero_add, Nat.add_zero, and_self, true_and, and_true, List.size_toArray, List.length_cons, List.length_nil, List.append_nil, List.nil_append, Int.toNat_zero, Bool.not_false, Bool.not_true, Bool.not_not, Bool.false_eq_true, Bool.true_eq_false, reduceCtorEq, Int.reduceLT, Int.reduceLE, Int.reduceToNat, Int.reduceAdd, Int.reduceSub, Int.reduceMul, Int.reduceNeg, Nat.reduceMul, Nat.reduceAdd, Nat.reduceSub, Nat.reduceBEq, Nat.reduceEqDiff, Nat.reduceLT, Nat.reduceLeDiff, Int.reduceBEq, Int.reduceEq, Nat.reducePow, Int.reducePow, IntWalk.i64_in, IntKind.bits]
    · have q0 : ¬ m = 0 := by omega
      have t1 : (slot a m ≥ 0) = True := slot_ge0 h
      have t2 : (slot a m < m) = True := slot_ltm h
      by_cases k : m > 2305843009213693952
      · cases x <;> cases y <;> cases z <;> first | (exact absurd (hxyz rfl rfl) (by decide)) | simp -implicitDefEqProofs (disch := omega) only [L5, G3_7, G3_8, G3_10, G3_12, G3_14, befV_bv, h1, h2, h3, h, k, q0, s1, s2, t1, t2, o1, callF, pad, e_skip, e_ops, e_seq, e_cond, e_block, e_loop, e_exit, e_ret, s_normal, s_ret, s_exit, s_none, s_ite, b_normal, b_ret, b_exit, b_none, b_ite, c_bool, o_some, o_none, o_ite, x_none, x_nil, x_cons, x_ite, p_some, p_none, p_ite, pt_some, pt_none, pv_some, pv_none, pv_ite, w_none, w_some, i_bool, i_undef, bt, bf, v_tmp, v_const, v_global, v_func, evs, f_normal, f_ret, f_none, f_ite, r_some, co_some, l_ptr, m_agg, m_one, sh_app, lk_nil, lk_cons, rd_eq, rdO_some, rdO_none, rdN_none, rdL_some, rdL_none, wrB_none, unitR_some, wrC_some, wrK_cells, consH_some, wr_nil, wr_here, wr_skip, wrH_cons, k_cells, tk_zero, tk_take, tk_skip, tkC_some, call_func, gt, st, stepOp, newB, ptrTo, binV, arith, isSh, storeV, all1, idxAV, fieldV, faddrV, iaddrSV, iaddrAV, pickV, convV, unV, eqbV, eqpV, extV, lenV, mm2, mmV, nilckV, ress, res1, retV, Value.cells, cond_true, cond_false, Bool.true_or, Bool.false_or, Bool.or_true, Bool.or_false, beq_self_eq_true, if_true, if_false, ite_true, ite_false, decide_true, decide_false, decide_eq_true_eq, reduceIte, Nat.zero_add, Nat.add_zero, and_self, true_and, and_true, List.size_toArray, List.length_cons, List.length_nil, List.append_nil, List.nil_append, Int.toNat_zero, Bool.not_false, Bool.not_true, Bool.not_not, Bool.false_eq_true, Bool.true_eq_false, reduceCtorEq, Int.reduceLT, Int.reduceLE, Int.reduceToNat, Int.reduceAdd, Int.reduceSub, Int.reduceMul, Int.reduceNeg, Nat.reduceMul, Nat.reduceAdd, Nat.reduceSub, Nat.reduceBEq, Nat.reduceEqDiff, Nat.reduceLT, Nat.reduceLeDiff, Int.reduceBEq, Int.reduceEq, Nat.reducePow, Int.reducePow, IntWalk.i64_in, IntKind.bits]
      · have s3 := slotV_bv a (2 * m) (by unfold inI; omega)
        have hw : IntKind.i64.wrap (2 * m) = 2 * m := IntWalk.i64_in _ (by omega)
        have t3 : (slot a (2 * m)).tmod m = slot a m := slot_two h
        cases x <;> cases y <;> cases z <;> first | (exact absurd (hxyz rfl rfl) (by decide)) | simp -implicitDefEqProofs (disch := omega) only [L5, G3_7, G3_8, G3_10, G3_12, G3_14, befV_bv, h1, h2, h3, h, k, q0, s1, s2, s3, hw, t1, t2, t3, o1, callF, pad, e_skip, e_ops, e_seq, e_cond, e_block, e_loop, e_exit, e_ret, s_normal, s_ret, s_exit, s_none, s_ite, b_normal, b_ret, b_exit, b_none, b_ite, c_bool, o_some, o_none, o_ite, x_none, x_nil, x_cons, x_ite, p_some, p_none, p_ite, pt_some, pt_none, pv_some, pv_none, pv_ite, w_none, w_some, i_bool, i_undef, bt, bf, v_tmp, v_const, v_global, v_func, evs, f_normal, f_ret, f_none, f_ite, r_some, co_some, l_ptr, m_agg, m_one, sh_app, lk_nil, lk_cons, rd_eq, rdO_some, rdO_none, rdN_none, rdL_some, rdL_none, wrB_none, unitR_some, wrC_some, wrK_cells, consH_some, wr_nil, wr_here, wr_skip, wrH_cons, k_cells, tk_zero, tk_take, tk_skip, tkC_some, call_func, gt, st, stepOp, newB, ptrTo, binV, arith, isSh, storeV, all1, idxAV, fieldV, faddrV, iaddrSV, iaddrAV, pickV, convV, unV, eqbV, eqpV, extV, lenV, mm2, mmV, nilckV, ress, res1, retV, Value.cells, cond_true, cond_false, Bool.true_or, Bool.false_or, Bool.or_true, Bool.or_false, beq_self_eq_true, if_true, if_false, ite_true, ite_false, decide_true, decide_false, decide_eq_true_eq, reduceIte, Nat.zero_add, Nat.add_zero, and_self, true_and, and_true, List.size_toArray, List.length_cons, List.length_nil, List.append_nil, List.nil_append, Int.toNat_zero, Bool.not_false, Bool.not_true, Bool.not_not, Bool.false_eq_true, Bool.true_eq_false, reduceCtorEq, Int.reduceLT, Int.reduceLE, Int.reduceToNat, Int.reduceAdd, Int.reduceSub, Int.reduceMul, Int.reduceNeg, Nat.reduceMul, Nat.reduceAdd, Nat.reduceSub, Nat.reduceBEq, Nat.reduceEqDiff, Nat.reduceLT, Nat.reduceLeDiff, Int.reduceBEq, Int.reduceEq, Nat.reducePow, Int.reducePow, IntWalk.i64_in, IntKind.bits]
  exact key _ _ _ rfl rfl rfl fun h h' => bef_trans h h'

set_option maxHeartbeats 2000000 in
theorem ev6 {B : OH} (w : BitVec 64) (m : Int) (hm : inI m) (H : HL) (N : St) : callF B G3 60 L6 [.int .u64 w.toNat, .int .i64 m] H N = some (.bool true, H, N) := by
  have hm' := hm
  unfold inI at hm'
  have s1 := slotV_bv w m hm
  by_cases h : m < 1
  · have t1 : slot w m = 0 := slot_lt h
    simp -implicitDefEqProofs (disch := omega) only [L6, G3_7, G3_8, G3_10, G3_12, G3_14, h, s1, t1, callF, pad, e_skip, e_ops, e_seq, e_cond, e_block, e_loop, e_exit, e_ret, s_normal, s_ret, s_exit, s_none, s_ite, b_normal, b_ret, b_exit, b_none, b_ite, c_bool, o_some, o_none, o_ite, x_none, x_nil, x_cons, x_ite, p_some, p_none, p_ite, pt_some, pt_none, pv_some, pv_none, pv_ite, w_none, w_some, i_bool, i_undef, bt, bf, v_tmp, v_const, v_global, v_func, evs, f_normal, f_ret, f_none, f_ite, r_some, co_some, l_ptr, m_agg, m_one, sh_app, lk_nil, lk_cons, rd_eq, rdO_some, rdO_none, rdN_none, rdL_some, rdL_none, wrB_none, unitR_some, wrC_some, wrK_cells, consH_some, wr_nil, wr_here, wr_skip, wrH_cons, k_cells, tk_zero, tk_take, tk_skip, tkC_some, call_func, gt, st, stepOp, newB, ptrTo, binV, arith, isSh, storeV, all1, idxAV, fieldV, faddrV, iaddrSV, iaddrAV, pickV, convV, unV, eqbV, eqpV, extV, lenV, mm2, mmV, nilckV, ress, res1, retV, Value.cells, cond_true, cond_false, Bool.true_or, Bool.false_or, Bool.or_true, Bool.or_false, beq_self_eq_true, if_true, if_false, ite_true, ite_false, decide_true, decide_false, decide_eq_true_eq, reduceIte, Nat.zero_add, Nat.add_zero, and_self, true_and, and_true, List.size_toArray, List.length_cons, List.length_nil, List.append_nil, List.nil_append, Int.toNat_zero, Bool.not_false, Bool.not_true, Bool.not_not, Bool.false_eq_true, Bool.true_eq_false, reduceCtorEq, Int.reduceLT, Int.reduceLE, Int.reduceToNat, Int.reduceAdd, Int.reduceSub, Int.reduceMul, Int.reduceNeg, Nat.reduceMul, Nat.reduceAdd, Nat.reduceSub, Nat.reduceBEq, Nat.reduceEqDiff, Nat.reduceLT, Nat.reduceLeDiff, Int.reduceBEq, Int.reduceEq, Nat.reducePow, Int.reducePow, IntWalk.i64_in, IntKind.bits]
  · have q0 : ¬ m = 0 := by omega
    have hw : IntKind.u64.wrap m = m := IntWalk.u64_in _ (by omega)
    obtain ⟨X, x1, x2, x3⟩ := tmod_bv w m h hm
    obtain ⟨Y, y1, y2, y3⟩ := tmod_bv (mix w) m h hm
    have s2 := slotV_bv (un X) m hm
    have t2 : slot (un X) m = X.toNat := by rw [slot_ge h, mix_un]; exact Int.emod_eq_of_lt (by omega) x3
    have t1 : slot w m = Y.toNat := by rw [slot_ge h]; exact y2
    have v1 : IntKind.i64.wrap (X.toNat : Int) = X.toNat := IntWalk.i64_in _ (by omega)
    have v2 : IntKind.i64.wrap (Y.toNat : Int) = Y.toNat := IntWalk.i64_in _ (by omega)
    simp -implicitDefEqProofs (disch := omega) only [L6, G3_7, G3_8, G3_10, G3_12, G3_14, mixV_bv, unV_bv, h, q0, hw, x1, y1, s1, s2, t1, t2, v1, v2, callF, pad, e_skip, e_ops, e_seq, e_cond, e_block, e_loop, e_exit, e_ret, s_normal, s_ret, s_exit, s_none, s_ite, b_normal, b_ret, b_exit, b_none, b_ite, c_bool, o_some, o_none, o_ite, x_none, x_nil, x_cons, x_ite, p_some, p_none, p_ite, pt_some, pt_none, pv_some, pv_none, pv_ite, w_none, w_some, i_bool, i_undef, bt, bf, v_tmp, v_const, v_global, v_func, evs, f_normal, f_ret, f_none, f_ite, r_some, co_some, l_ptr, m_agg, m_one, sh_app, lk_nil, lk_cons, rd_eq, rdO_some, rdO_none, rdN_none, rdL_some, rdL_none, wrB_none, unitR_some, wrC_some, wrK_cells, consH_some, wr_nil, wr_here, wr_skip, wrH_cons, k_cells, tk_zero, tk_take, tk_skip, tkC_some, call_func, gt, st, stepOp, newB, ptrTo, binV, arith, isSh, storeV, all1, idxAV, fieldV, faddrV, iaddrSV, iaddrAV, pickV, convV, unV, eqbV, eqpV, extV, lenV, mm2, mmV, nilckV, ress, res1, retV, Value.cells, cond_true, cond_false, Bool.true_or, Bool.false_or, Bool.or_true, Bool.or_false, beq_self_eq_true, if_true, if_false, ite_true, ite_false, decide_true, decide_false, decide_eq_true_eq, reduceIte, Nat.zero_add, Nat.add_zero, and_self, true_and, and_true, List.size_toArray, List.length_cons, List.length_nil, List.append_nil, List.nil_append, Int.toNat_zero, Bool.not_false, Bool.not_true, Bool.not_not, Bool.false_eq_true, Bool.true_eq_false, reduceCtorEq, Int.reduceLT, Int.reduceLE, Int.reduceToNat, Int.reduceAdd, Int.reduceSub, Int.reduceMul, Int.reduceNeg, Nat.reduceMul, Nat.reduceAdd, Nat.reduceSub, Nat.reduceBEq, Nat.reduceEqDiff, Nat.reduceLT, Nat.reduceLeDiff, Int.reduceBEq, Int.reduceEq, Nat.reducePow, Int.reducePow, IntWalk.i64_in, IntKind.bits]

namespace mixOrder
theorem own : ownKnob Tryd.prog.godebug = none := by kernel_rfl
theorem laidOut : laidOutB Tryd.prog = true := by kernel_rfl
theorem typesOk : (Tryd.f5.params.toList.all fun t => Tryd.prog.readableRec t && decide (t < Tryd.prog.types.size)) = true := by kernel_rfl
theorem contract (H : Type) (enc : TypeId × Value → H) (W : World) (base : Nat) (args : Array Value) (ds gs : List (DataW H)) (before : List MemPlace)
    (hval : ∀ (j : Nat) t v, Tryd.f5.params[j]? = some t → args[j]? = some v → Value.okWide Tryd.prog W .any base t v)
    (hW : DataW.Whole enc Tryd.prog Tryd.f5.params.toList Rows.mixOrderSpec.vars false W args.toList ds gs before) (hL : laidMetH Tryd.prog Rows.mixOrderRow.laid W) :
    Calls Tryd.prog 5 args W fun e W' => ∃ v, e = .returned v ∧ Rows.mixOrderSpec.post enc Tryd.prog Tryd.f5 false true false false W args v W' := by
  have hW' := hW
  obtain ⟨p, q, hA0, hV, hpq, hfz, hnd⟩ := hW
  have hA : DataW.TrodAll enc Tryd.prog W 0 (fun _ => true) true Tryd.f5.params.toList args.toList ds p := hA0
  rw [Tryd.params5] at hA hval
  obtain ⟨v0, vs0, d0, ds0, p0, q0, hargs, rfl, rfl, h0, r0⟩ := trodAll_cons hA
  obtain ⟨v1, vs1, d1, ds1, p1, q1, rfl, rfl, rfl, h1, r1⟩ := trodAll_cons r0
  obtain ⟨v2, vs2, d2, ds2, p2, q2, rfl, rfl, rfl, h2, r2⟩ := trodAll_cons r1
  obtain ⟨v3, vs3, d3, ds3, p3, q3, rfl, rfl, rfl, h3, r3⟩ := trodAll_cons r2
  obtain ⟨rfl, rfl, rfl⟩ := trodAll_nil r3
  obtain rfl : args = #[v0, v1, v2, v3] := by apply Array.ext'; simpa using hargs
  obtain ⟨rfl, rfl⟩ := trodVars_none hV
  obtain ⟨x0, rfl, rfl, rfl, w0⟩ := open_int Tryd.underlying22 (hval 0 22 v0 rfl rfl) h0
  obtain ⟨y0, rfl⟩ := u64_wf w0
  obtain ⟨x1, rfl, rfl, rfl, w1⟩ := open_int Tryd.underlying22 (hval 1 22 v1 rfl rfl) h1
  obtain ⟨y1, rfl⟩ := u64_wf w1
  obtain ⟨x2, rfl, rfl, rfl, w2⟩ := open_int Tryd.underlying22 (hval 2 22 v2 rfl rfl) h2
  obtain ⟨y2, rfl⟩ := u64_wf w2
  obtain ⟨x3, rfl, rfl, rfl, w3⟩ := open_int Tryd.underlying3 (hval 3 3 v3 rfl rfl) h3
  have b3 := i64_wf w3
  refine law_post laidOut (fun t ht => by simpa using List.all_eq_true.1 typesOk t ht) rfl (show Tryd.f5.resultTypes = #[4] by rfl) Tryd.underlying4 hW' rfl rfl rfl ?_
  exact law_calls (callF_sound (soundG3 (tabs hL)) 60 Tryd.func5 low5) fun N hN => ⟨[], N, ev5 y0 y1 y2 x3 b3 [] N⟩

noncomputable def laidWorld (os : Os) : World := laidW Tryd.prog os [(0, [.int .u64 30, .int .u64 13787848793156543929, .int .u64 27, .int .u64 10723151780598845931, .int .u64 31, .int .u64 1]), (1, [.int .u64 31, .int .u64 3573116690164977347, .int .u64 27, .int .u64 10871156337175269513, .int .u64 30, .int .u64 1])]
theorem laid_met (os : Os) : laidMet Tryd.prog Rows.mixOrderRow.laid ((laidWorld os).forCall (fun _ _ => 0) ⟨#[], #[.int .u64 0, .int .u64 0, .int .u64 0, .int .i64 0], []⟩).memory :=
  laidMet_of_run' 16 (by kernel_rfl) (by kernel_rfl)
theorem reads (os : Os) {H : Type} (enc : TypeId × Value → H) : ∃ places, DataW.whole enc Tryd.prog ((laidWorld os).forCall (fun _ _ => 0) ⟨#[], #[.int .u64 0, .int .u64 0, .int .u64 0, .int .i64 0], []⟩).memory Tryd.f5.params.toList Rows.mixOrderSpec.vars false (#[.int .u64 0, .int .u64 0, .int .u64 0, .int .i64 0] : Array Value).toList 16 = some ([.lit (.int .u64 0), .lit (.int .u64 0), .lit (.int .u64 0), .lit (.int .i64 0)], [], places) :=
  ⟨[], by kernel_rfl⟩
theorem lifted (os : Os) (started : os.Started) (H : Type) (enc : TypeId × Value → H) (F : Stop.Interp) :
    ReturnsInHanded {} Tryd.checked os 5 .any ((OpenSpec.ofChange Rows.mixOrderSpec).preRow enc Tryd.prog Tryd.f5 Rows.mixOrderRow.domain false Rows.mixOrderRow.laid) (((OpenSpec.ofChange Rows.mixOrderSpec).at F).post enc Tryd.prog Tryd.f5 false true false false) := by
  obtain ⟨places, hx⟩ := reads os enc
  refine returnsInHanded_of_row (C := Tryd.checked) (s := OpenSpec.ofChange Rows.mixOrderSpec) own started (by kernel_rfl) Tryd.func5
    (witness_row_at (enc := enc) (C := Tryd.checked) false (laidWorld os) #[.int .u64 0, .int .u64 0, .int .u64 0, .int .i64 0] rfl (by kernel_rfl) (by kernel_rfl) (by kernel_rfl)
      (OpenSpec.preRow_of_cond 16 hx (by kernel_rfl) (fun k hk => by cases hk) (by kernel_rfl) (laid_met os))) ?_
  intro W base args ds gs before hval hW _ _ _ hL _ _
  exact contract H enc W base args ds gs before hval hW hL
theorem said : Rows.MixOrderSaid :=
  OpenClaim.holds_of_cond 5 Tryd.f5 rfl rfl rfl rfl rfl rfl rfl ⟨rfl, rfl, rfl, rfl, rfl⟩ rfl rfl rfl rfl rfl (by kernel_rfl) Tryd.func5 (by kernel_rfl)
    (of_decide_eq_true (by kernel_rfl)) (by unfold Func.isWrapper; first | (rw [if_pos (by decide +kernel)]; kernel_rfl) | (rw [if_neg (by decide +kernel)]; exact ⟨rfl, rfl⟩))
    (fun os started H enc _ F => by rw [OpenClaim.pre_eq_preRow]; exact lifted os started H enc F)
theorem plain (f : FuncId) (fn : Func) (hf : Tryd.pinned.checked.prog.funcNamed "whitewash/whitewashlaw02.MixOrder" = some f) (hfn : Tryd.pinned.checked.prog.funcs[f]? = some fn) :
    false = Tryd.pinned.checked.prog.looks [] ∧ ∀ (j : Nat) t, fn.params[j]? = some t → Tryd.pinned.checked.prog.wantsStandIn t = false := by
  obtain rfl : f = 5 := Option.some.inj ((show Tryd.prog.funcNamed "whitewash/whitewashlaw02.MixOrder" = some 5 by kernel_rfl).symm.trans hf) |>.symm
  obtain rfl : fn = Tryd.f5 := (Option.some.inj (Tryd.func5.symm.trans hfn)).symm
  refine ⟨by kernel_rfl, fun j t ht => ?_⟩
  have hall : (Tryd.f5.params.toList.all fun t => !Tryd.prog.wantsStandIn t) = true := by kernel_rfl
  have := List.all_eq_true.1 hall t (by simpa using Array.mem_of_getElem? ht)
  show Tryd.prog.wantsStandIn t = false
  simpa using this
theorem card : Rows.MixOrderCardSaid :=
  Claim7.holds_tied_plain_at .later [] _ _ _ _ said (fun _ h => by cases h) (by kernel_rfl) (fun _ h => by cases h) mixOrder_row_tie rfl ⟨rfl, rfl⟩ (by kernel_rfl) rfl plain (by kernel_rfl)
end mixOrder
namespace mixSlots
theorem own : ownKnob Tryd.prog.godebug = none := by kernel_rfl
theorem laidOut : laidOutB Tryd.prog = true := by kernel_rfl
theorem typesOk : (Tryd.f6.params.toList.all fun t => Tryd.prog.readableRec t && decide (t < Tryd.prog.types.size)) = true := by kernel_rfl
theorem contract (H : Type) (enc : TypeId × Value → H) (W : World) (base : Nat) (args : Array Value) (ds gs : List (DataW H)) (before : List MemPlace)
    (hval : ∀ (j : Nat) t v, Tryd.f6.params[j]? = some t → args[j]? = some v → Value.okWide Tryd.prog W .any base t v)
    (hW : DataW.Whole enc Tryd.prog Tryd.f6.params.toList Rows.mixSlotsSpec.vars false W args.toList ds gs before) (hL : laidMetH Tryd.prog Rows.mixSlotsRow.laid W) :
    Calls Tryd.prog 6 args W fun e W' => ∃ v, e = .returned v ∧ Rows.mixSlotsSpec.post enc Tryd.prog Tryd.f6 false true false false W args v W' := by
  have hW' := hW
  obtain ⟨p, q, hA0, hV, hpq, hfz, hnd⟩ := hW
  have hA : DataW.TrodAll enc Tryd.prog W 0 (fun _ => true) true Tryd.f6.params.toList args.toList ds p := hA0
  rw [Tryd.params6] at hA hval
  obtain ⟨v0, vs0, d0, ds0, p0, q0, hargs, rfl, rfl, h0, r0⟩ := trodAll_cons hA
  obtain ⟨v1, vs1, d1, ds1, p1, q1, rfl, rfl, rfl, h1, r1⟩ := trodAll_cons r0
  obtain ⟨rfl, rfl, rfl⟩ := trodAll_nil r1
  obtain rfl : args = #[v0, v1] := by apply Array.ext'; simpa using hargs
  obtain ⟨rfl, rfl⟩ := trodVars_none hV
  obtain ⟨x0, rfl, rfl, rfl, w0⟩ := open_int Tryd.underlying22 (hval 0 22 v0 rfl rfl) h0
  obtain ⟨y0, rfl⟩ := u64_wf w0
  obtain ⟨x1, rfl, rfl, rfl, w1⟩ := open_int Tryd.underlying3 (hval 1 3 v1 rfl rfl) h1
  have b1 := i64_wf w1
  refine law_post laidOut (fun t ht => by simpa using List.all_eq_true.1 typesOk t ht) rfl (show Tryd.f6.resultTypes = #[4] by rfl) Tryd.underlying4 hW' rfl rfl rfl ?_
  exact law_calls (callF_sound (soundG3 (tabs hL)) 60 Tryd.func6 low6) fun N hN => ⟨[], N, ev6 y0 x1 b1 [] N⟩

noncomputable def laidWorld (os : Os) : World := laidW Tryd.prog os [(0, [.int .u64 30, .int .u64 13787848793156543929, .int .u64 27, .int .u64 10723151780598845931, .int .u64 31, .int .u64 1]), (1, [.int .u64 31, .int .u64 3573116690164977347, .int .u64 27, .int .u64 10871156337175269513, .int .u64 30, .int .u64 1])]
theorem laid_met (os : Os) : laidMet Tryd.prog Rows.mixSlotsRow.laid ((laidWorld os).forCall (fun _ _ => 0) ⟨#[], #[.int .u64 0, .int .i64 0], []⟩).memory :=
  laidMet_of_run' 16 (by kernel_rfl) (by kernel_rfl)
theorem reads (os : Os) {H : Type} (enc : TypeId × Value → H) : ∃ places, DataW.whole enc Tryd.prog ((laidWorld os).forCall (fun _ _ => 0) ⟨#[], #[.int .u64 0, .int .i64 0], []⟩).memory Tryd.f6.params.toList Rows.mixSlotsSpec.vars false (#[.int .u64 0, .int .i64 0] : Array Value).toList 16 = some ([.lit (.int .u64 0), .lit (.int .i64 0)], [], places) :=
  ⟨[], by kernel_rfl⟩
theorem lifted (os : Os) (started : os.Started) (H : Type) (enc : TypeId × Value → H) (F : Stop.Interp) :
    ReturnsInHanded {} Tryd.checked os 6 .any ((OpenSpec.ofChange Rows.mixSlotsSpec).preRow enc Tryd.prog Tryd.f6 Rows.mixSlotsRow.domain false Rows.mixSlotsRow.laid) (((OpenSpec.ofChange Rows.mixSlotsSpec).at F).post enc Tryd.prog Tryd.f6 false true false false) := by
  obtain ⟨places, hx⟩ := reads os enc
  refine returnsInHanded_of_row (C := Tryd.checked) (s := OpenSpec.ofChange Rows.mixSlotsSpec) own started (by kernel_rfl) Tryd.func6
    (witness_row_at (enc := enc) (C := Tryd.checked) false (laidWorld os) #[.int .u64 0, .int .i64 0] rfl (by kernel_rfl) (by kernel_rfl) (by kernel_rfl)
      (OpenSpec.preRow_of_cond 16 hx (by kernel_rfl) (fun k hk => by cases hk) (by kernel_rfl) (laid_met os))) ?_
  intro W base args ds gs before hval hW _ _ _ hL _ _
  exact contract H enc W base args ds gs before hval hW hL
theorem said : Rows.MixSlotsSaid :=
  OpenClaim.holds_of_cond 6 Tryd.f6 rfl rfl rfl rfl rfl rfl rfl ⟨rfl, rfl, rfl, rfl, rfl⟩ rfl rfl rfl rfl rfl (by kernel_rfl) Tryd.func6 (by kernel_rfl)
    (of_decide_eq_true (by kernel_rfl)) (by unfold Func.isWrapper; first | (rw [if_pos (by decide +kernel)]; kernel_rfl) | (rw [if_neg (by decide +kernel)]; exact ⟨rfl, rfl⟩))
    (fun os started H enc _ F => by rw [OpenClaim.pre_eq_preRow]; exact lifted os started H enc F)
theorem plain (f : FuncId) (fn : Func) (hf : Tryd.pinned.checked.prog.funcNamed "whitewash/whitewashlaw02.MixSlots" = some f) (hfn : Tryd.pinned.checked.prog.funcs[f]? = some fn) :
    false = Tryd.pinned.checked.prog.looks [] ∧ ∀ (j : Nat) t, fn.params[j]? = some t → Tryd.pinned.checked.prog.wantsStandIn t = false := by
  obtain rfl : f = 6 := Option.some.inj ((show Tryd.prog.funcNamed "whitewash/whitewashlaw02.MixSlots" = some 6 by kernel_rfl).symm.trans hf) |>.symm
  obtain rfl : fn = Tryd.f6 := (Option.some.inj (Tryd.func6.symm.trans hfn)).symm
  refine ⟨by kernel_rfl, fun j t ht => ?_⟩
  have hall : (Tryd.f6.params.toList.all fun t => !Tryd.prog.wantsStandIn t) = true := by kernel_rfl
  have := List.all_eq_true.1 hall t (by simpa using Array.mem_of_getElem? ht)
  show Tryd.prog.wantsStandIn t = false
  simpa using this
theorem card : Rows.MixSlotsCardSaid :=
  Claim7.holds_tied_plain_at .later [] _ _ _ _ said (fun _ h => by cases h) (by kernel_rfl) (fun _ h => by cases h) mixSlots_row_tie rfl ⟨rfl, rfl⟩ (by kernel_rfl) rfl plain (by kernel_rfl)
end mixSlots
end Go.Proofs.YtjeaeongfniafaaDoor
namespace Go.Proofs.YtjeaeongfniafaaDoor
open Go.Proofs.YtjeaeongfniafaaDoor.K Go.Proofs.YtjeaeongfniafaaDoor.K.Mix Go.ChangeShapes Go.WideShapes Go.ChangeAt Go.RowKit
set_option maxRecDepth 100000
set_option linter.unusedSimpArgs false
set_option linter.unusedVariables false

theorem low9 : lowerFn Tryd.prog Tryd.f9 = some L9 := by kernel_rfl
theorem low11 : lowerFn Tryd.prog Tryd.f11 = some L11 := by kernel_rfl
theorem low13 : lowerFn Tryd.prog Tryd.f13 = some L13 := by kernel_rfl
theorem low15 : lowerFn Tryd.prog Tryd.f15 = some L15 := by kernel_rfl
theorem low16 : lowerFn Tryd.prog Tryd.f16 = some L16 := by kernel_rfl
theorem low17 : lowerFn Tryd.prog Tryd.f17 = some L17 := by kernel_rfl
theorem low18 : lowerFn Tryd.prog Tryd.f18 = some L18 := by kernel_rfl

theorem one_bv : BitVec.ofInt 64 1 = 1#64 := rfl
def foldV : List Value → Option Value
  | [.int .u64 x, .int .i64 n] => if inU x ∧ (n = 27 ∨ n = 30 ∨ n = 31) then some (.int .u64 (fold n.toNat (BitVec.ofInt 64 x)).toNat) else none
  | _ => none
def unfV : List Value → Option Value
  | [.int .u64 x, .int .i64 n] => if inU x ∧ (n = 27 ∨ n = 30 ∨ n = 31) then some (.int .u64 (unf n.toNat (BitVec.ofInt 64 x)).toNat) else none
  | _ => none
def invV : List Value → Option Value
  | [.int .u64 x] => if x = 10723151780598845931 then some (.int .u64 3573116690164977347) else if x = 13787848793156543929 then some (.int .u64 10871156337175269513) else none
  | _ => none
theorem ev16 {B : OH} (x : BitVec 64) (k : Nat) (hk : k < 64) (H : HL) (N : St) : callF B noG 60 L16 [.int .u64 x.toNat, .int .i64 (k : Int)] H N = some (.int .u64 (fold k x).toNat, H, N) := by
  have h0 : ¬ (k : Int) < 0 := by omega
  simp -implicitDefEqProofs (maxSteps := 2000000) (disch := omega) only [L16, h0, callF, pad, e_skip, e_ops, e_seq, e_cond, e_block, e_loop, e_exit, e_ret, s_normal, s_ret, s_exit, s_none, s_ite, b_normal, b_ret, b_exit, b_none, b_ite, c_bool, o_some, o_none, o_ite, x_none, x_nil, x_cons, x_ite, p_some, p_none, p_ite, pt_some, pt_none, pv_some, pv_none, pv_ite, w_none, w_some, i_bool, i_undef, bt, bf, v_tmp, v_const, v_global, v_func, evs, f_normal, f_ret, f_none, f_ite, r_some, co_some, l_ptr, m_agg, m_one, sh_app, lk_nil, lk_cons, rd_eq, rdO_some, rdO_none, rdN_none, rdL_some, rdL_none, wrB_none, unitR_some, wrC_some, wrK_cells, consH_some, wr_nil, wr_here, wr_skip, wrH_cons, k_cells, tk_zero, tk_take, tk_skip, tkC_some, call_func, gt, st, stepOp, newB, ptrTo, binV, arith, isSh, storeV, all1, idxAV, fieldV, faddrV, iaddrSV, iaddrAV, pickV, convV, unV, eqbV, eqpV, extV, lenV, mm2, mmV, nilckV, ress, res1, retV, Value.cells, cond_true, cond_false, Bool.true_or, Bool.false_or, Bool.or_true, Bool.or_false, beq_self_eq_true, if_true, if_false, ite_true, ite_false, decide_true, decide_false, decide_eq_true_eq, reduceIte, Nat.zero_add, Nat.add_zero, and_self, true_and, and_true, List.size_toArray, List.length_cons, List.length_nil, List.append_nil, List.nil_append, Int.toNat_zero, Bool.not_false, Bool.not_true, Bool.not_not, Bool.false_eq_true, Bool.true_eq_false, reduceCtorEq, Int.reduceLT, Int.reduceLE, Int.reduceToNat, Int.reduceAdd, Int.reduceSub, Int.reduceMul, Int.reduceNeg, Nat.reduceMul, Nat.reduceAdd, Nat.reduceSub, Nat.reduceBEq, Nat.reduceEqDiff, Nat.reduceLT, Nat.reduceLeDiff, Int.reduceBEq, Int.reduceEq, Nat.reducePow, Int.reducePow, IntWalk.i64_in, IntKind.bits]
  simp only [ofInt_toNat, wrap_toNat, wrap_mul, Int.toNat_natCast, fdiv_shr_min]
  rfl
theorem ev18 {B : OH} (H : HL) (N : St) : callF B noG 60 L18 [.int .u64 10723151780598845931] H N = some (.int .u64 3573116690164977347, H, N) := by kernel_rfl
theorem ev18b {B : OH} (H : HL) (N : St) : callF B noG 60 L18 [.int .u64 13787848793156543929] H N = some (.int .u64 10871156337175269513, H, N) := by kernel_rfl

def body17 : LC := (.seq (.seq (.ops [⟨(some 8), .mv (.tmp 6), none⟩, ⟨(some 9), .bin .geq (.tmp 8) (.const (.int .i64 0)), none⟩])
 (.cond (.tmp 9) .skip
 (.exit 0)))
 (.seq (.block 1 (.seq (.ops [⟨(some 12), .mv (.tmp 0), none⟩, ⟨(some 13), .mv (.tmp 6), none⟩, ⟨(some 14), .bin .shr (.tmp 12) (.tmp 13), none⟩, ⟨(some 15), .bin .and (.tmp 14) (.const (.int .u64 1)), none⟩, ⟨(some 7), .mv (.tmp 15), none⟩])
 (.seq (.seq (.ops [⟨(some 16), .mv (.tmp 6), none⟩, ⟨(some 17), .mv (.tmp 1), none⟩, ⟨(some 18), .bin .add (.tmp 16) (.tmp 17), none⟩, ⟨(some 19), .bin .lss (.tmp 18) (.const (.int .i64 64)), none⟩])
 (.cond (.tmp 19) (.ops [⟨(some 20), .mv (.tmp 7), none⟩, ⟨(some 21), .mv (.tmp 5), none⟩, ⟨(some 22), .mv (.tmp 6), none⟩, ⟨(some 23), .mv (.tmp 1), none⟩, ⟨(some 24), .bin .add (.tmp 22) (.tmp 23), none⟩, ⟨(some 25), .bin .shr (.tmp 21) (.tmp 24), none⟩, ⟨(some 26), .bin .and (.tmp 25) (.const (.int .u64 1)), none⟩, ⟨(some 27), .bin .xor (.tmp 20) (.tmp 26), none⟩, ⟨(some 7), .mv (.tmp 27), none⟩])
 .skip))
 (.ops [⟨(some 28), .mv (.tmp 5), none⟩, ⟨(some 29), .mv (.tmp 7), none⟩, ⟨(some 30), .mv (.tmp 6), none⟩, ⟨(some 31), .bin .shl (.tmp 29) (.tmp 30), none⟩, ⟨(some 32), .bin .or (.tmp 28) (.tmp 31), none⟩, ⟨(some 5), .mv (.tmp 32), none⟩]))))
 (.ops [⟨(some 10), .mv (.tmp 6), none⟩, ⟨(some 11), .bin .sub (.tmp 10) (.const (.int .i64 1)), none⟩, ⟨(some 6), .mv (.tmp 11), none⟩])))
theorem body17_eq {B : OH} (n : Nat) (s : Go.Proofs.YtjeaeongfniafaaDoor.K.S) : exec B noG n body17 s = exec B noG n (.seq (.seq (.ops [⟨(some 8), .mv (.tmp 6), none⟩, ⟨(some 9), .bin .geq (.tmp 8) (.const (.int .i64 0)), none⟩])
 (.cond (.tmp 9) .skip
 (.exit 0)))
 (.seq (.block 1 (.seq (.ops [⟨(some 12), .mv (.tmp 0), none⟩, ⟨(some 13), .mv (.tmp 6), none⟩, ⟨(some 14), .bin .shr (.tmp 12) (.tmp 13), none⟩, ⟨(some 15), .bin .and (.tmp 14) (.const (.int .u64 1)), none⟩, ⟨(some 7), .mv (.tmp 15), none⟩])
 (.seq (.seq (.ops [⟨(some 16), .mv (.tmp 6), none⟩, ⟨(some 17), .mv (.tmp 1), none⟩, ⟨(some 18), .bin .add (.tmp 16) (.tmp 17), none⟩, ⟨(some 19), .bin .lss (.tmp 18) (.const (.int .i64 64)), none⟩])
 (.cond (.tmp 19) (.ops [⟨(some 20), .mv (.tmp 7), none⟩, ⟨(some 21), .mv (.tmp 5), none⟩, ⟨(some 22), .mv (.tmp 6), none⟩, ⟨(some 23), .mv (.tmp 1), none⟩, ⟨(some 24), .bin .add (.tmp 22) (.tmp 23), none⟩, ⟨(some 25), .bin .shr (.tmp 21) (.tmp 24), none⟩, ⟨(some 26), .bin .and (.tmp 25) (.const (.int .u64 1)), none⟩, ⟨(some 27), .bin .xor (.tmp 20) (.tmp 26), none⟩, ⟨(some 7), .mv (.tmp 27), none⟩])
 .skip))
 (.ops [⟨(some 28), .mv (.tmp 5), none⟩, ⟨(some 29), .mv (.tmp 7), none⟩, ⟨(some 30), .mv (.tmp 6), none⟩, ⟨(some 31), .bin .shl (.tmp 29) (.tmp 30), none⟩, ⟨(some 32), .bin .or (.tmp 28) (.tmp 31), none⟩, ⟨(some 5), .mv (.tmp 32), none⟩]))))
 (.ops [⟨(some 10), .mv (.tmp 6), none⟩, ⟨(some 11), .bin .sub (.tmp 10) (.const (.int .i64 1)), none⟩, ⟨(some 6), .mv (.tmp 11), none⟩]))) s := rfl
theorem L17_eq : L17.code = .seq (.ops [⟨(some 4), .mv (.const (.int .u64 0)), none⟩]) (.seq (.ops [⟨(some 5), .mv (.const (.int .u64 0)), none⟩]) (.seq (.seq (.ops [⟨(some 6), .mv (.const (.int .i64 63)), none⟩]) (.block 0 (.loop body17))) (.seq (.ops [⟨(some 33), .mv (.tmp 5), none⟩, ⟨(some 4), .mv (.tmp 33), none⟩]) .ret))) := rfl
theorem L17_n : L17.ntmps = 34 := rfl
theorem L17_r : L17.res = [.tmp 4] := rfl
set_option maxHeartbeats 4000000 in
theorem loop17 {B : OH} (u w : BitVec 64) (k : Nat) (hk : 0 < k) (hk' : k < 64) (hw : fold k u = w) (H : HL) (N : St) : ∀ (r : Nat), r ≤ 64 → ∀ x2 x3 x4 x7 x8 x9 x10 x11 x12 x13 x14 x15 x16 x17 x18 x19 x20 x21 x22 x23 x24 x25 x26 x27 x28 x29 x30 x31 x32 x33 : Value, ∃ l : List Value, l.length = 34 ∧ gt l 5 = .int .u64 u.toNat ∧
    exec B noG (r + 31) (.loop body17) ⟨.int .u64 w.toNat :: .int .i64 (k : Int) :: x2 :: x3 :: x4 :: .int .u64 (top u r).toNat :: .int .i64 ((r : Int) - 1) :: x7 :: x8 :: x9 :: x10 :: x11 :: x12 :: x13 :: x14 :: x15 :: x16 :: x17 :: x18 :: x19 :: x20 :: x21 :: x22 :: x23 :: x24 :: x25 :: x26 :: x27 :: x28 :: x29 :: x30 :: x31 :: x32 :: x33 :: [], H, N⟩ = some (.exit 0, ⟨l, H, N⟩) := by
  intro r
  induction r with
  | zero =>
    intro _ x2 x3 x4 x7 x8 x9 x10 x11 x12 x13 x14 x15 x16 x17 x18 x19 x20 x21 x22 x23 x24 x25 x26 x27 x28 x29 x30 x31 x32 x33
    rw [top_0]
    rw [show (((0 : Nat) : Int) - 1) = -1 from rfl]
    refine ⟨.int .u64 w.toNat :: .int .i64 (k : Int) :: x2 :: x3 :: x4 :: .int .u64 u.toNat :: .int .i64 (-1) :: x7 :: .int .i64 (-1) :: .bool false :: x10 :: x11 :: x12 :: x13 :: x14 :: x15 :: x16 :: x17 :: x18 :: x19 :: x20 :: x21 :: x22 :: x23 :: x24 :: x25 :: x26 :: x27 :: x28 :: x29 :: x30 :: x31 :: x32 :: x33 :: [], rfl, rfl, ?_⟩
    simp -implicitDefEqProofs (maxSteps := 2000000) (disch := omega) only [body17_eq, Int.reduceGE, Int.reduceNeg, callF, pad, e_skip, e_ops, e_seq, e_cond, e_block, e_loop, e_exit, e_ret, s_normal, s_ret, s_exit, s_none, s_ite, b_normal, b_ret, b_exit, b_none, b_ite, c_bool, o_some, o_none, o_ite, x_none, x_nil, x_cons, x_ite, p_some, p_none, p_ite, pt_some, pt_none, pv_some, pv_none, pv_ite, w_none, w_some, i_bool, i_undef, bt, bf, v_tmp, v_const, v_global, v_func, evs, f_normal, f_ret, f_none, f_ite, r_some, co_some, l_ptr, m_agg, m_one, sh_app, lk_nil, lk_cons, rd_eq, rdO_some, rdO_none, rdN_none, rdL_some, rdL_none, wrB_none, unitR_some, wrC_some, wrK_cells, consH_some, wr_nil, wr_here, wr_skip, wrH_cons, k_cells, tk_zero, tk_take, tk_skip, tkC_some, call_func, gt, st, stepOp, newB, ptrTo, binV, arith, isSh, storeV, all1, idxAV, fieldV, faddrV, iaddrSV, iaddrAV, pickV, convV, unV, eqbV, eqpV, extV, lenV, mm2, mmV, nilckV, ress, res1, retV, Value.cells, cond_true, cond_false, Bool.true_or, Bool.false_or, Bool.or_true, Bool.or_false, beq_self_eq_true, if_true, if_false, ite_true, ite_false, decide_true, decide_false, decide_eq_true_eq, reduceIte, Nat.zero_add, Nat.add_zero, and_self, true_and, and_true, List.size_toArray, List.length_cons, List.length_nil, List.append_nil, List.nil_append, Int.toNat_zero, Bool.not_false, Bool.not_true, Bool.not_not, Bool.false_eq_true, Bool.true_eq_false, reduceCtorEq, Int.reduceLT, Int.reduceLE, Int.reduceToNat, Int.reduceAdd, Int.reduceSub, Int.reduceMul, Int.reduceNeg, Nat.reduceMul, Nat.reduceAdd, Nat.reduceSub, Nat.reduceBEq, Nat.reduceEqDiff, Nat.reduceLT, Nat.reduceLeDiff, Int.reduceBEq, Int.reduceEq, Nat.reducePow, Int.reducePow, IntWalk.i64_in, IntKind.bits]
  | succ r ih =>
    intro hr x2 x3 x4 x7 x8 x9 x10 x11 x12 x13 x14 x15 x16 x17 x18 x19 x20 x21 x22 x23 x24 x25 x26 x27 x28 x29 x30 x31 x32 x33
    have h63 : r < 64 := by omega
    have a1 : ((r + 1 : Nat) : Int) - 1 = (r : Int) := by omega
    have a2 : ((r : Int) ≥ 0) = True := eq_true (by omega)
    have a3 : ¬ (r : Int) < 0 := by omega
    have a4 : IntKind.i64.wrap ((r : Int) + (k : Int)) = ((r + k : Nat) : Int) := IntWalk.i64_in _ (by omega)
    have a5 : IntKind.i64.wrap ((r : Int) - 1) = (r : Int) - 1 := IntWalk.i64_in _ (by omega)
    have a6 : ¬ ((r + k : Nat) : Int) < 0 := by omega
    rw [show r + 1 + 31 = (r + 31) + 1 by omega, e_loop, a1]
    by_cases h : r + k < 64
    · have h' : (((r + k : Nat) : Int) < 64) = True := eq_true (by omega)
      have hst := step_lt u w k r hk hw h
      simp -implicitDefEqProofs (maxSteps := 2000000) (disch := omega) only [body17_eq, a2, a3, a4, a5, a6, h', callF, pad, e_skip, e_ops, e_seq, e_cond, e_block, e_exit, e_ret, s_normal, s_ret, s_exit, s_none, s_ite, b_normal, b_ret, b_exit, b_none, b_ite, c_bool, o_some, o_none, o_ite, x_none, x_nil, x_cons, x_ite, p_some, p_none, p_ite, pt_some, pt_none, pv_some, pv_none, pv_ite, w_none, w_some, i_bool, i_undef, bt, bf, v_tmp, v_const, v_global, v_func, evs, f_normal, f_ret, f_none, f_ite, r_some, co_some, l_ptr, m_agg, m_one, sh_app, lk_nil, lk_cons, rd_eq, rdO_some, rdO_none, rdN_none, rdL_some, rdL_none, wrB_none, unitR_some, wrC_some, wrK_cells, consH_some, wr_nil, wr_here, wr_skip, wrH_cons, k_cells, tk_zero, tk_take, tk_skip, tkC_some, call_func, gt, st, stepOp, newB, ptrTo, binV, arith, isSh, storeV, all1, idxAV, fieldV, faddrV, iaddrSV, iaddrAV, pickV, convV, unV, eqbV, eqpV, extV, lenV, mm2, mmV, nilckV, ress, res1, retV, Value.cells, cond_true, cond_false, Bool.true_or, Bool.false_or, Bool.or_true, Bool.or_false, beq_self_eq_true, if_true, if_false, ite_true, ite_false, decide_true, decide_false, decide_eq_true_eq, reduceIte, Nat.zero_add, Nat.add_zero, and_self, true_and, and_true, List.size_toArray, List.length_cons, List.length_nil, List.append_nil, List.nil_append, Int.toNat_zero, Bool.not_false, Bool.not_true, Bool.not_not, Bool.false_eq_true, Bool.true_eq_false, reduceCtorEq, Int.reduceLT, Int.reduceLE, Int.reduceToNat, Int.reduceAdd, Int.reduceSub, Int.reduceMul, Int.reduceNeg, Nat.reduceMul, Nat.reduceAdd, Nat.reduceSub, Nat.reduceBEq, Nat.reduceEqDiff, Nat.reduceLT, Nat.reduceLeDiff, Int.reduceBEq, Int.reduceEq, Nat.reducePow, Int.reducePow, IntWalk.i64_in, IntKind.bits]
      simp only [ofInt_toNat, wrap_toNat, Int.toNat_natCast, fdiv_shr_min, one_bv, shl_bv _ _ h63]
      simp only [← hst] at ih
      exact ih (by omega) _ _ _ _ _ _ _ _ _ _ _ _ _ _ _ _ _ _ _ _ _ _ _ _ _ _ _ _ _ _
    · have h' : (((r + k : Nat) : Int) < 64) = False := eq_false (by omega)
      have hst := step_ge u w k r hk hw h h63
      simp -implicitDefEqProofs (maxSteps := 2000000) (disch := omega) only [body17_eq, a2, a3, a4, a5, a6, h', callF, pad, e_skip, e_ops, e_seq, e_cond, e_block, e_exit, e_ret, s_normal, s_ret, s_exit, s_none, s_ite, b_normal, b_ret, b_exit, b_none, b_ite, c_bool, o_some, o_none, o_ite, x_none, x_nil, x_cons, x_ite, p_some, p_none, p_ite, pt_some, pt_none, pv_some, pv_none, pv_ite, w_none, w_some, i_bool, i_undef, bt, bf, v_tmp, v_const, v_global, v_func, evs, f_normal, f_ret, f_none, f_ite, r_some, co_some, l_ptr, m_agg, m_one, sh_app, lk_nil, lk_cons, rd_eq, rdO_some, rdO_none, rdN_none, rdL_some, rdL_none, wrB_none, unitR_some, wrC_some, wrK_cells, consH_some, wr_nil, wr_here, wr_skip, wrH_cons, k_cells, tk_zero, tk_take, tk_skip, tkC_some, call_func, gt, st, stepOp, newB, ptrTo, binV, arith, isSh, storeV, all1, idxAV, fieldV, faddrV, iaddrSV, iaddrAV, pickV, convV, unV, eqbV, eqpV, extV, lenV, mm2, mmV, nilckV, ress, res1, retV, Value.cells, cond_true, cond_false, Bool.true_or, Bool.false_or, Bool.or_true, Bool.or_false, beq_self_eq_true, if_true, if_false, ite_true, ite_false, decide_true, decide_false, decide_eq_true_eq, reduceIte, Nat.zero_add, Nat.add_zero, and_self, true_and, and_true, List.size_toArray, List.length_cons, List.length_nil, List.append_nil, List.nil_append, Int.toNat_zero, Bool.not_false, Bool.not_true, Bool.not_not, Bool.false_eq_true, Bool.true_eq_false, reduceCtorEq, Int.reduceLT, Int.reduceLE, Int.reduceToNat, Int.reduceAdd, Int.reduceSub, Int.reduceMul, Int.reduceNeg, Nat.reduceMul, Nat.reduceAdd, Nat.reduceSub, Nat.reduceBEq, Nat.reduceEqDiff, Nat.reduceLT, Nat.reduceLeDiff, Int.reduceBEq, Int.reduceEq, Nat.reducePow, Int.reducePow, IntWalk.i64_in, IntKind.bits]
      simp only [ofInt_toNat, wrap_toNat, Int.toNat_natCast, fdiv_shr_min, one_bv, shl_bv _ _ h63]
      simp only [← hst] at ih
      exact ih (by omega) _ _ _ _ _ _ _ _ _ _ _ _ _ _ _ _ _ _ _ _ _ _ _ _ _ _ _ _ _ _
theorem ev17 {B : OH} (u w : BitVec 64) (k : Nat) (hk : 0 < k) (hk' : k < 64) (hw : fold k u = w) (H : HL) (N : St) : callF B noG 100 L17 [.int .u64 w.toNat, .int .i64 (k : Int)] H N = some (.int .u64 u.toNat, H, N) := by
  obtain ⟨l, q1, q2, e⟩ := loop17 (B := B) u w k hk hk' hw H N 64 (by omega) undef undef (.int .u64 0) undef undef undef undef undef undef undef undef undef undef undef undef undef undef undef undef undef undef undef undef undef undef undef undef undef undef undef
  rw [top_64] at e
  have e' : exec B noG 95 (.loop body17) ⟨.int .u64 w.toNat :: .int .i64 (k : Int) :: undef :: undef :: .int .u64 0 :: .int .u64 0 :: .int .i64 63 :: undef :: undef :: undef :: undef :: undef :: undef :: undef :: undef :: undef :: undef :: undef :: undef :: undef :: undef :: undef :: undef :: undef :: undef :: undef :: undef :: undef :: undef :: undef :: undef :: undef :: undef :: undef :: [], H, N⟩ = _ := e
  rw [callF, L17_eq, L17_n, L17_r]
  simp -implicitDefEqProofs (maxSteps := 2000000) (disch := omega) only [pad, e_skip, e_ops, e_seq, e_cond, e_block, e_exit, e_ret, s_normal, s_ret, s_exit, s_none, s_ite, b_normal, b_ret, b_exit, b_none, b_ite, c_bool, o_some, o_none, o_ite, x_none, x_nil, x_cons, x_ite, p_some, p_none, p_ite, pt_some, pt_none, pv_some, pv_none, pv_ite, w_none, w_some, i_bool, i_undef, bt, bf, v_tmp, v_const, v_global, v_func, evs, f_normal, f_ret, f_none, f_ite, r_some, co_some, l_ptr, m_agg, m_one, sh_app, lk_nil, lk_cons, rd_eq, rdO_some, rdO_none, rdN_none, rdL_some, rdL_none, wrB_none, unitR_some, wrC_some, wrK_cells, consH_some, wr_nil, wr_here, wr_skip, wrH_cons, k_cells, tk_zero, tk_take, tk_skip, tkC_some, call_func, gt, st, stepOp, newB, ptrTo, binV, arith, isSh, storeV, all1, idxAV, fieldV, faddrV, iaddrSV, iaddrAV, pickV, convV, unV, eqbV, eqpV, extV, lenV, mm2, mmV, nilckV, ress, res1, retV, Value.cells, cond_true, cond_false, Bool.true_or, Bool.false_or, Bool.or_true, Bool.or_false, beq_self_eq_true, if_true, if_false, ite_true, ite_false, decide_true, decide_false, decide_eq_true_eq, reduceIte, Nat.zero_add, Nat.add_zero, and_self, true_and, and_true, List.size_toArray, List.length_cons, List.length_nil, List.append_nil, List.nil_append, Int.toNat_zero, Bool.not_false, Bool.not_true, Bool.not_not, Bool.false_eq_true, Bool.true_eq_false, reduceCtorEq, Int.reduceLT, Int.reduceLE, Int.reduceToNat, Int.reduceAdd, Int.reduceSub, Int.reduceMul, Int.reduceNeg, Nat.reduceMul, Nat.reduceAdd, Nat.reduceSub, Nat.reduceBEq, Nat.reduceEqDiff, Nat.reduceLT, Nat.reduceLeDiff, Int.reduceBEq, Int.reduceEq, Nat.reducePow, Int.reducePow, IntWalk.i64_in, IntKind.bits]
  rw [e']
  simp -implicitDefEqProofs (maxSteps := 2000000) (disch := omega) only [q1, q2, gt_st_same, gt_st_ne, st_len, ne_eq, not_false_eq_true, callF, pad, e_skip, e_ops, e_seq, e_cond, e_block, e_exit, e_ret, s_normal, s_ret, s_exit, s_none, s_ite, b_normal, b_ret, b_exit, b_none, b_ite, c_bool, o_some, o_none, o_ite, x_none, x_nil, x_cons, x_ite, p_some, p_none, p_ite, pt_some, pt_none, pv_some, pv_none, pv_ite, w_none, w_some, i_bool, i_undef, bt, bf, v_tmp, v_const, v_global, v_func, evs, f_normal, f_ret, f_none, f_ite, r_some, co_some, l_ptr, m_agg, m_one, sh_app, lk_nil, lk_cons, rd_eq, rdO_some, rdO_none, rdN_none, rdL_some, rdL_none, wrB_none, unitR_some, wrC_some, wrK_cells, consH_some, wr_nil, wr_here, wr_skip, wrH_cons, k_cells, tk_zero, tk_take, tk_skip, tkC_some, call_func, gt, st, stepOp, newB, ptrTo, binV, arith, isSh, storeV, all1, idxAV, fieldV, faddrV, iaddrSV, iaddrAV, pickV, convV, unV, eqbV, eqpV, extV, lenV, mm2, mmV, nilckV, ress, res1, retV, Value.cells, cond_true, cond_false, Bool.true_or, Bool.false_or, Bool.or_true, Bool.or_false, beq_self_eq_true, if_true, if_false, ite_true, ite_false, decide_true, decide_false, decide_eq_true_eq, reduceIte, Nat.zero_add, Nat.add_zero, and_self, true_and, and_true, List.size_toArray, List.length_cons, List.length_nil, List.append_nil, List.nil_append, Int.toNat_zero, Bool.not_false, Bool.not_true, Bool.not_not, Bool.false_eq_true, Bool.true_eq_false, reduceCtorEq, Int.reduceLT, Int.reduceLE, Int.reduceToNat, Int.reduceAdd, Int.reduceSub, Int.reduceMul, Int.reduceNeg, Nat.reduceMul, Nat.reduceAdd, Nat.reduceSub, Nat.reduceBEq, Nat.reduceEqDiff, Nat.reduceLT, Nat.reduceLeDiff, Int.reduceBEq, Int.reduceEq, Nat.reducePow, Int.reducePow, IntWalk.i64_in, IntKind.bits]
  rw [gt_st_same _ _ _ (by rw [st_len, q1]; decide)]

theorem foldV_bv (x : BitVec 64) (n : Int) (h : n = 27 ∨ n = 30 ∨ n = 31) : foldV [.int .u64 x.toNat, .int .i64 n] = some (.int .u64 (fold n.toNat x).toNat) := by
  simp only [foldV, ofInt_toNat]
  rw [if_pos ⟨by have := x.isLt; unfold inU; omega, h⟩]
theorem unfV_bv (x : BitVec 64) (n : Int) (h : n = 27 ∨ n = 30 ∨ n = 31) : unfV [.int .u64 x.toNat, .int .i64 n] = some (.int .u64 (unf n.toNat x).toNat) := by
  simp only [unfV, ofInt_toNat]
  rw [if_pos ⟨by have := x.isLt; unfold inU; omega, h⟩]
def G4 : Nat → Cs
  | 16 => fun a H N => pv (foldV a) H N
  | 17 => fun a H N => pv (unfV a) H N
  | 18 => fun a H N => pv (invV a) H N
  | _ => fun _ _ _ => none
theorem G4_16 : G4 16 = fun a H N => pv (foldV a) H N := rfl
theorem G4_17 : G4 17 = fun a H N => pv (unfV a) H N := rfl
theorem G4_18 : G4 18 = fun a H N => pv (invV a) H N := rfl
theorem soundG4 {w0 : World} {B : OH} : SoundG Tryd.prog w0 B G4 := fun k => by
  unfold G4
  split
  · refine .inr ⟨.of Tryd.func16 (by kernel_rfl) (by kernel_rfl), (callF_sound sound_noG 60 Tryd.func16 low16).val fun args v H N hv hN => ?_⟩
    unfold foldV at hv
    split at hv
    · rename_i x n
      split at hv
      · rename_i hx
        obtain ⟨X, rfl⟩ : ∃ X : BitVec 64, x = (X.toNat : Int) := ⟨_, inU_bv hx.1⟩
        obtain ⟨k, rfl⟩ : ∃ k : Nat, n = (k : Int) := ⟨n.toNat, by omega⟩
        rw [ofInt_toNat, Option.some.injEq] at hv
        subst hv
        exact ⟨H, N, ev16 X k (by omega) H N, ext_refl⟩
      · cases hv
    · cases hv
  · refine .inr ⟨.of Tryd.func17 (by kernel_rfl) (by kernel_rfl), (callF_sound sound_noG 100 Tryd.func17 low17).val fun args v H N hv hN => ?_⟩
    unfold unfV at hv
    split at hv
    · rename_i x n
      split at hv
      · rename_i hx
        obtain ⟨X, rfl⟩ : ∃ X : BitVec 64, x = (X.toNat : Int) := ⟨_, inU_bv hx.1⟩
        obtain ⟨k, rfl⟩ : ∃ k : Nat, n = (k : Int) := ⟨n.toNat, by omega⟩
        rw [ofInt_toNat, Option.some.injEq] at hv
        subst hv
        exact ⟨H, N, ev17 (unf k X) X k (by omega) (by omega) (fold_unf k (by omega) X) H N, ext_refl⟩
      · cases hv
    · cases hv
  · refine .inr ⟨.of Tryd.func18 (by kernel_rfl) (by kernel_rfl), (callF_sound sound_noG 60 Tryd.func18 low18).val fun args v H N hv hN => ?_⟩
    unfold invV at hv
    split at hv
    · rename_i x
      split at hv
      · rename_i hx
        subst hx
        rw [Option.some.injEq] at hv
        subst hv
        exact ⟨H, N, ev18 H N, ext_refl⟩
      · split at hv
        · rename_i hx
          subst hx
          rw [Option.some.injEq] at hv
          subst hv
          exact ⟨H, N, ev18b H N, ext_refl⟩
        · cases hv
    · cases hv
  · exact .inl fun _ _ _ => rfl
theorem inv1 : invV [.int .u64 10723151780598845931] = some (.int .u64 3573116690164977347) := by kernel_rfl
theorem inv2 : invV [.int .u64 13787848793156543929] = some (.int .u64 10871156337175269513) := by kernel_rfl
theorem wm1 (x : BitVec 64) : IntKind.u64.wrap ((x.toNat : Int) * 13787848793156543929) = ((x * c1).toNat : Int) := wrap_mul x c1
theorem wm2 (x : BitVec 64) : IntKind.u64.wrap ((x.toNat : Int) * 10723151780598845931) = ((x * c2).toNat : Int) := wrap_mul x c2
theorem wm3 (x : BitVec 64) : IntKind.u64.wrap ((x.toNat : Int) * 3573116690164977347) = ((x * d2).toNat : Int) := wrap_mul x d2
theorem wm4 (x : BitVec 64) : IntKind.u64.wrap ((x.toNat : Int) * 10871156337175269513) = ((x * d1).toNat : Int) := wrap_mul x d1
theorem fv27 (x : BitVec 64) : foldV [.int .u64 x.toNat, .int .i64 27] = some (.int .u64 (fold 27 x).toNat) := foldV_bv x 27 (by decide)
theorem fv30 (x : BitVec 64) : foldV [.int .u64 x.toNat, .int .i64 30] = some (.int .u64 (fold 30 x).toNat) := foldV_bv x 30 (by decide)
theorem fv31 (x : BitVec 64) : foldV [.int .u64 x.toNat, .int .i64 31] = some (.int .u64 (fold 31 x).toNat) := foldV_bv x 31 (by decide)
theorem uv27 (x : BitVec 64) : unfV [.int .u64 x.toNat, .int .i64 27] = some (.int .u64 (unf 27 x).toNat) := unfV_bv x 27 (by decide)
theorem uv30 (x : BitVec 64) : unfV [.int .u64 x.toNat, .int .i64 30] = some (.int .u64 (unf 30 x).toNat) := unfV_bv x 30 (by decide)
theorem uv31 (x : BitVec 64) : unfV [.int .u64 x.toNat, .int .i64 31] = some (.int .u64 (unf 31 x).toNat) := unfV_bv x 31 (by decide)
theorem ev9 {B : OH} (x : BitVec 64) (H : HL) (N : St) : callF B G4 60 L9 [.int .u64 x.toNat] H N = some (.int .u64 (mix x).toNat, H, N) := by
  simp -implicitDefEqProofs (maxSteps := 2000000) (disch := omega) only [L9, G4_16, fv27, fv30, fv31, wm1, wm2, callF, pad, e_skip, e_ops, e_seq, e_cond, e_block, e_loop, e_exit, e_ret, s_normal, s_ret, s_exit, s_none, s_ite, b_normal, b_ret, b_exit, b_none, b_ite, c_bool, o_some, o_none, o_ite, x_none, x_nil, x_cons, x_ite, p_some, p_none, p_ite, pt_some, pt_none, pv_some, pv_none, pv_ite, w_none, w_some, i_bool, i_undef, bt, bf, v_tmp, v_const, v_global, v_func, evs, f_normal, f_ret, f_none, f_ite, r_some, co_some, l_ptr, m_agg, m_one, sh_app, lk_nil, lk_cons, rd_eq, rdO_some, rdO_none, rdN_none, rdL_some, rdL_none, wrB_none, unitR_some, wrC_some, wrK_cells, consH_some, wr_nil, wr_here, wr_skip, wrH_cons, k_cells, tk_zero, tk_take, tk_skip, tkC_some, call_func, gt, st, stepOp, newB, ptrTo, binV, arith, isSh, storeV, all1, idxAV, fieldV, faddrV, iaddrSV, iaddrAV, pickV, convV, unV, eqbV, eqpV, extV, lenV, mm2, mmV, nilckV, ress, res1, retV, Value.cells, cond_true, cond_false, Bool.true_or, Bool.false_or, Bool.or_true, Bool.or_false, beq_self_eq_true, if_true, if_false, ite_true, ite_false, decide_true, decide_false, decide_eq_true_eq, reduceIte, Nat.zero_add, Nat.add_zero, and_self, true_and, and_true, List.size_toArray, List.length_cons, List.length_nil, List.append_nil, List.nil_append, Int.toNat_zero, Bool.not_false, Bool.not_true, Bool.not_not, Bool.false_eq_true, Bool.true_eq_false, reduceCtorEq, Int.reduceLT, Int.reduceLE, Int.reduceToNat, Int.reduceAdd, Int.reduceSub, Int.reduceMul, Int.reduceNeg, Nat.reduceMul, Nat.reduceAdd, Nat.reduceSub, Nat.reduceBEq, Nat.reduceEqDiff, Nat.reduceLT, Nat.reduceLeDiff, Int.reduceBEq, Int.reduceEq, Nat.reducePow, Int.reducePow, IntWalk.i64_in, IntKind.bits]
  rfl
theorem ev11 {B : OH} (x : BitVec 64) (H : HL) (N : St) : callF B G4 60 L11 [.int .u64 x.toNat] H N = some (.int .u64 (un x).toNat, H, N) := by
  simp -implicitDefEqProofs (maxSteps := 2000000) (disch := omega) only [L11, G4_17, G4_18, uv27, uv30, uv31, inv1, inv2, wm3, wm4, callF, pad, e_skip, e_ops, e_seq, e_cond, e_block, e_loop, e_exit, e_ret, s_normal, s_ret, s_exit, s_none, s_ite, b_normal, b_ret, b_exit, b_none, b_ite, c_bool, o_some, o_none, o_ite, x_none, x_nil, x_cons, x_ite, p_some, p_none, p_ite, pt_some, pt_none, pv_some, pv_none, pv_ite, w_none, w_some, i_bool, i_undef, bt, bf, v_tmp, v_const, v_global, v_func, evs, f_normal, f_ret, f_none, f_ite, r_some, co_some, l_ptr, m_agg, m_one, sh_app, lk_nil, lk_cons, rd_eq, rdO_some, rdO_none, rdN_none, rdL_some, rdL_none, wrB_none, unitR_some, wrC_some, wrK_cells, consH_some, wr_nil, wr_here, wr_skip, wrH_cons, k_cells, tk_zero, tk_take, tk_skip, tkC_some, call_func, gt, st, stepOp, newB, ptrTo, binV, arith, isSh, storeV, all1, idxAV, fieldV, faddrV, iaddrSV, iaddrAV, pickV, convV, unV, eqbV, eqpV, extV, lenV, mm2, mmV, nilckV, ress, res1, retV, Value.cells, cond_true, cond_false, Bool.true_or, Bool.false_or, Bool.or_true, Bool.or_false, beq_self_eq_true, if_true, if_false, ite_true, ite_false, decide_true, decide_false, decide_eq_true_eq, reduceIte, Nat.zero_add, Nat.add_zero, and_self, true_and, and_true, List.size_toArray, List.length_cons, List.length_nil, List.append_nil, List.nil_append, Int.toNat_zero, Bool.not_false, Bool.not_true, Bool.not_not, Bool.false_eq_true, Bool.true_eq_false, reduceCtorEq, Int.reduceLT, Int.reduceLE, Int.reduceToNat, Int.reduceAdd, Int.reduceSub, Int.reduceMul, Int.reduceNeg, Nat.reduceMul, Nat.reduceAdd, Nat.reduceSub, Nat.reduceBEq, Nat.reduceEqDiff, Nat.reduceLT, Nat.reduceLeDiff, Int.reduceBEq, Int.reduceEq, Nat.reducePow, Int.reducePow, IntWalk.i64_in, IntKind.bits]
  rfl
theorem sound9 {w0 : World} {B : OH} : SoundC Tryd.prog w0 B 9 (fun a H N => pv (mixV a) H N) := by
  refine (callF_sound soundG4 60 Tryd.func9 low9).val fun args v H N hv hN => ?_
  unfold mixV at hv
  split at hv
  · rename_i x
    split at hv
    · rename_i hx
      obtain ⟨X, rfl⟩ : ∃ X : BitVec 64, x = (X.toNat : Int) := ⟨_, inU_bv hx⟩
      rw [ofInt_toNat, Option.some.injEq] at hv
      subst hv
      exact ⟨H, N, ev9 X H N, ext_refl⟩
    · cases hv
  · cases hv
theorem sound11 {w0 : World} {B : OH} : SoundC Tryd.prog w0 B 11 (fun a H N => pv (unV' a) H N) := by
  refine (callF_sound soundG4 60 Tryd.func11 low11).val fun args v H N hv hN => ?_
  unfold unV' at hv
  split at hv
  · rename_i x
    split at hv
    · rename_i hx
      obtain ⟨X, rfl⟩ : ∃ X : BitVec 64, x = (X.toNat : Int) := ⟨_, inU_bv hx⟩
      rw [ofInt_toNat, Option.some.injEq] at hv
      subst hv
      exact ⟨H, N, ev11 X H N, ext_refl⟩
    · cases hv
  · cases hv
def G5 : Nat → Cs
  | 9 => fun a H N => pv (mixV a) H N
  | _ => fun _ _ _ => none
theorem G5_9 : G5 9 = fun a H N => pv (mixV a) H N := rfl
theorem enter9 : Enter Tryd.prog 9 := .of Tryd.func9 (by kernel_rfl) (by kernel_rfl)
theorem soundG5 {w0 : World} {B : OH} : SoundG Tryd.prog w0 B G5 := fun k => by
  unfold G5
  split
  · exact .inr ⟨enter9, sound9⟩
  · exact .inl fun _ _ _ => rfl
theorem ev13 {B : OH} (x : BitVec 64) (m : Int) (hm : inI m) (H : HL) (N : St) : callF B G5 60 L13 [.int .u64 x.toNat, .int .i64 m] H N = some (.int .i64 (slot x m), H, N) := by
  unfold inI at hm
  by_cases h : m < 1
  · simp -implicitDefEqProofs (maxSteps := 2000000) (disch := omega) only [L13, h, callF, pad, e_skip, e_ops, e_seq, e_cond, e_block, e_loop, e_exit, e_ret, s_normal, s_ret, s_exit, s_none, s_ite, b_normal, b_ret, b_exit, b_none, b_ite, c_bool, o_some, o_none, o_ite, x_none, x_nil, x_cons, x_ite, p_some, p_none, p_ite, pt_some, pt_none, pv_some, pv_none, pv_ite, w_none, w_some, i_bool, i_undef, bt, bf, v_tmp, v_const, v_global, v_func, evs, f_normal, f_ret, f_none, f_ite, r_some, co_some, l_ptr, m_agg, m_one, sh_app, lk_nil, lk_cons, rd_eq, rdO_some, rdO_none, rdN_none, rdL_some, rdL_none, wrB_none, unitR_some, wrC_some, wrK_cells, consH_some, wr_nil, wr_here, wr_skip, wrH_cons, k_cells, tk_zero, tk_take, tk_skip, tkC_some, call_func, gt, st, stepOp, newB, ptrTo, binV, arith, isSh, storeV, all1, idxAV, fieldV, faddrV, iaddrSV, iaddrAV, pickV, convV, unV, eqbV, eqpV, extV, lenV, mm2, mmV, nilckV, ress, res1, retV, Value.cells, cond_true, cond_false, Bool.true_or, Bool.false_or, Bool.or_true, Bool.or_false, beq_self_eq_true, if_true, if_false, ite_true, ite_false, decide_true, decide_false, decide_eq_true_eq, reduceIte, Nat.zero_add, Nat.add_zero, and_self, true_and, and_true, List.size_toArray, List.length_cons, List.length_nil, List.append_nil, List.nil_append, Int.toNat_zero, Bool.not_false, Bool.not_true, Bool.not_not, Bool.false_eq_true, Bool.true_eq_false, reduceCtorEq, Int.reduceLT, Int.reduceLE, Int.reduceToNat, Int.reduceAdd, Int.reduceSub, Int.reduceMul, Int.reduceNeg, Nat.reduceMul, Nat.reduceAdd, Nat.reduceSub, Nat.reduceBEq, Nat.reduceEqDiff, Nat.reduceLT, Nat.reduceLeDiff, Int.reduceBEq, Int.reduceEq, Nat.reducePow, Int.reducePow, IntWalk.i64_in, IntKind.bits]
    rw [slot, if_pos h]
  · have h0 : ¬ m = 0 := by omega
    have hw : IntKind.u64.wrap m = m := IntWalk.u64_in _ (by omega)
    have hr : ((mix x).toNat : Int).tmod m = ((mix x).toNat : Int) % m := Int.tmod_eq_emod_of_nonneg (by omega)
    have e1 := Int.emod_nonneg ((mix x).toNat : Int) h0
    have e2 := Int.emod_lt_of_pos ((mix x).toNat : Int) (show 0 < m by omega)
    simp -implicitDefEqProofs (maxSteps := 2000000) (disch := omega) only [L13, h, h0, hw, hr, G5_9, mixV_bv, callF, pad, e_skip, e_ops, e_seq, e_cond, e_block, e_loop, e_exit, e_ret, s_normal, s_ret, s_exit, s_none, s_ite, b_normal, b_ret, b_exit, b_none, b_ite, c_bool, o_some, o_none, o_ite, x_none, x_nil, x_cons, x_ite, p_some, p_none, p_ite, pt_some, pt_none, pv_some, pv_none, pv_ite, w_none, w_some, i_bool, i_undef, bt, bf, v_tmp, v_const, v_global, v_func, evs, f_normal, f_ret, f_none, f_ite, r_some, co_some, l_ptr, m_agg, m_one, sh_app, lk_nil, lk_cons, rd_eq, rdO_some, rdO_none, rdN_none, rdL_some, rdL_none, wrB_none, unitR_some, wrC_some, wrK_cells, consH_some, wr_nil, wr_here, wr_skip, wrH_cons, k_cells, tk_zero, tk_take, tk_skip, tkC_some, call_func, gt, st, stepOp, newB, ptrTo, binV, arith, isSh, storeV, all1, idxAV, fieldV, faddrV, iaddrSV, iaddrAV, pickV, convV, unV, eqbV, eqpV, extV, lenV, mm2, mmV, nilckV, ress, res1, retV, Value.cells, cond_true, cond_false, Bool.true_or, Bool.false_or, Bool.or_true, Bool.or_false, beq_self_eq_true, if_true, if_false, ite_true, ite_false, decide_true, decide_false, decide_eq_true_eq, reduceIte, Nat.zero_add, Nat.add_zero, and_self, true_and, and_true, List.size_toArray, List.length_cons, List.length_nil, List.append_nil, List.nil_append, Int.toNat_zero, Bool.not_false, Bool.not_true, Bool.not_not, Bool.false_eq_true, Bool.true_eq_false, reduceCtorEq, Int.reduceLT, Int.reduceLE, Int.reduceToNat, Int.reduceAdd, Int.reduceSub, Int.reduceMul, Int.reduceNeg, Nat.reduceMul, Nat.reduceAdd, Nat.reduceSub, Nat.reduceBEq, Nat.reduceEqDiff, Nat.reduceLT, Nat.reduceLeDiff, Int.reduceBEq, Int.reduceEq, Nat.reducePow, Int.reducePow, IntWalk.i64_in, IntKind.bits]
    rw [slot, if_neg h]
theorem ev15 {B : OH} (a b : BitVec 64) (H : HL) (N : St) : callF B G5 60 L15 [.int .u64 a.toNat, .int .u64 b.toNat] H N = some (.bool (bef a b), H, N) := by
  simp -implicitDefEqProofs (maxSteps := 2000000) (disch := omega) only [L15, G5_9, mixV_bv, callF, pad, e_skip, e_ops, e_seq, e_cond, e_block, e_loop, e_exit, e_ret, s_normal, s_ret, s_exit, s_none, s_ite, b_normal, b_ret, b_exit, b_none, b_ite, c_bool, o_some, o_none, o_ite, x_none, x_nil, x_cons, x_ite, p_some, p_none, p_ite, pt_some, pt_none, pv_some, pv_none, pv_ite, w_none, w_some, i_bool, i_undef, bt, bf, v_tmp, v_const, v_global, v_func, evs, f_normal, f_ret, f_none, f_ite, r_some, co_some, l_ptr, m_agg, m_one, sh_app, lk_nil, lk_cons, rd_eq, rdO_some, rdO_none, rdN_none, rdL_some, rdL_none, wrB_none, unitR_some, wrC_some, wrK_cells, consH_some, wr_nil, wr_here, wr_skip, wrH_cons, k_cells, tk_zero, tk_take, tk_skip, tkC_some, call_func, gt, st, stepOp, newB, ptrTo, binV, arith, isSh, storeV, all1, idxAV, fieldV, faddrV, iaddrSV, iaddrAV, pickV, convV, unV, eqbV, eqpV, extV, lenV, mm2, mmV, nilckV, ress, res1, retV, Value.cells, cond_true, cond_false, Bool.true_or, Bool.false_or, Bool.or_true, Bool.or_false, beq_self_eq_true, if_true, if_false, ite_true, ite_false, decide_true, decide_false, decide_eq_true_eq, reduceIte, Nat.zero_add, Nat.add_zero, and_self, true_and, and_true, List.size_toArray, List.length_cons, List.length_nil, List.append_nil, List.nil_append, Int.toNat_zero, Bool.not_false, Bool.not_true, Bool.not_not, Bool.false_eq_true, Bool.true_eq_false, reduceCtorEq, Int.reduceLT, Int.reduceLE, Int.reduceToNat, Int.reduceAdd, Int.reduceSub, Int.reduceMul, Int.reduceNeg, Nat.reduceMul, Nat.reduceAdd, Nat.reduceSub, Nat.reduceBEq, Nat.reduceEqDiff, Nat.reduceLT, Nat.reduceLeDiff, Int.reduceBEq, Int.reduceEq, Nat.reducePow, Int.reducePow, IntWalk.i64_in, IntKind.bits]
  rfl
theorem sound13 {w0 : World} {B : OH} : SoundC Tryd.prog w0 B 13 (fun a H N => pv (slotV a) H N) := by
  refine (callF_sound soundG5 60 Tryd.func13 low13).val fun args v H N hv hN => ?_
  unfold slotV at hv
  split at hv
  · rename_i x m
    split at hv
    · rename_i hx
      obtain ⟨X, rfl⟩ : ∃ X : BitVec 64, x = (X.toNat : Int) := ⟨_, inU_bv hx.1⟩
      rw [ofInt_toNat, Option.some.injEq] at hv
      subst hv
      exact ⟨H, N, ev13 X m hx.2 H N, ext_refl⟩
    · cases hv
  · cases hv
theorem sound15 {w0 : World} {B : OH} : SoundC Tryd.prog w0 B 15 (fun a H N => pv (befV a) H N) := by
  refine (callF_sound soundG5 60 Tryd.func15 low15).val fun args v H N hv hN => ?_
  unfold befV at hv
  split at hv
  · rename_i a b
    split at hv
    · rename_i hx
      obtain ⟨X, rfl⟩ : ∃ X : BitVec 64, a = (X.toNat : Int) := ⟨_, inU_bv hx.1⟩
      obtain ⟨Y, rfl⟩ : ∃ Y : BitVec 64, b = (Y.toNat : Int) := ⟨_, inU_bv hx.2⟩
      rw [ofInt_toNat, ofInt_toNat, Option.some.injEq] at hv
      subst hv
      exact ⟨H, N, ev15 X Y H N, ext_refl⟩
    · cases hv
  · cases hv
def G6 : Nat → Cs
  | 9 => fun a H N => pv (mixV a) H N
  | 11 => fun a H N => pv (unV' a) H N
  | 13 => fun a H N => pv (slotV a) H N
  | 15 => fun a H N => pv (befV a) H N
  | k => G3 k
theorem G6_9 : G6 9 = fun a H N => pv (mixV a) H N := rfl
theorem G6_11 : G6 11 = fun a H N => pv (unV' a) H N := rfl
theorem G6_13 : G6 13 = fun a H N => pv (slotV a) H N := rfl
theorem G6_15 : G6 15 = fun a H N => pv (befV a) H N := rfl
theorem G6_7 : G6 7 = fun a H N => pv (match a with | [] => some (.bool true) | _ => none) H N := rfl
theorem G6_8 : G6 8 = fun a H N => pv (mixV a) H N := rfl
theorem G6_10 : G6 10 = fun a H N => pv (unV' a) H N := rfl
theorem G6_12 : G6 12 = fun a H N => pv (slotV a) H N := rfl
theorem G6_14 : G6 14 = fun a H N => pv (befV a) H N := rfl
theorem soundG6 {w0 : World} {B : OH} (hT : Tabs B) : SoundG Tryd.prog w0 B G6 := fun k => by
  unfold G6
  split
  · exact .inr ⟨enter9, sound9⟩
  · exact .inr ⟨.of Tryd.func11 (by kernel_rfl) (by kernel_rfl), sound11⟩
  · exact .inr ⟨.of Tryd.func13 (by kernel_rfl) (by kernel_rfl), sound13⟩
  · exact .inr ⟨.of Tryd.func15 (by kernel_rfl) (by kernel_rfl), sound15⟩
  · exact soundG3 hT _
set_option maxHeartbeats 1000000 in
theorem ev3 {B : OH} (a b : BitVec 64) (m : Int) (hm : inI m) (H : HL) (N : St) : callF B G6 60 L3 [.int .u64 a.toNat, .int .u64 b.toNat, .int .i64 m] H N = some (.bool true, H, N) := by
  have s1 := slotV_bv a m hm
  simp -implicitDefEqProofs (maxSteps := 2000000) (disch := omega) only [L3, G6_7, G6_8, G6_9, G6_10, G6_11, G6_12, G6_13, G6_14, G6_15, mixV_bv, unV_bv, befV_bv, s1, beq_self_eq_true, callF, pad, e_skip, e_ops, e_seq, e_cond, e_block, e_loop, e_exit, e_ret, s_normal, s_ret, s_exit, s_none, s_ite, b_normal, b_ret, b_exit, b_none, b_ite, c_bool, o_some, o_none, o_ite, x_none, x_nil, x_cons, x_ite, p_some, p_none, p_ite, pt_some, pt_none, pv_some, pv_none, pv_ite, w_none, w_some, i_bool, i_undef, bt, bf, v_tmp, v_const, v_global, v_func, evs, f_normal, f_ret, f_none, f_ite, r_some, co_some, l_ptr, m_agg, m_one, sh_app, lk_nil, lk_cons, rd_eq, rdO_some, rdO_none, rdN_none, rdL_some, rdL_none, wrB_none, unitR_some, wrC_some, wrK_cells, consH_some, wr_nil, wr_here, wr_skip, wrH_cons, k_cells, tk_zero, tk_take, tk_skip, tkC_some, call_func, gt, st, stepOp, newB, ptrTo, binV, arith, isSh, storeV, all1, idxAV, fieldV, faddrV, iaddrSV, iaddrAV, pickV, convV, unV, eqbV, eqpV, extV, lenV, mm2, mmV, nilckV, ress, res1, retV, Value.cells, cond_true, cond_false, Bool.true_or, Bool.false_or, Bool.or_true, Bool.or_false, beq_self_eq_true, if_true, if_false, ite_true, ite_false, decide_true, decide_false, decide_eq_true_eq, reduceIte, Nat.zero_add, Nat.add_zero, and_self, true_and, and_true, List.size_toArray, List.length_cons, List.length_nil, List.append_nil, List.nil_append, Int.toNat_zero, Bool.not_false, Bool.not_true, Bool.not_not, Bool.false_eq_true, Bool.true_eq_false, reduceCtorEq, Int.reduceLT, Int.reduceLE, Int.reduceToNat, Int.reduceAdd, Int.reduceSub, Int.reduceMul, Int.reduceNeg, Nat.reduceMul, Nat.reduceAdd, Nat.reduceSub, Nat.reduceBEq, Nat.reduceEqDiff, Nat.reduceLT, Nat.reduceLeDiff, Int.reduceBEq, Int.reduceEq, Nat.reducePow, Int.reducePow, IntWalk.i64_in, IntKind.bits]

namespace mixTells
theorem own : ownKnob Tryd.prog.godebug = none := by kernel_rfl
theorem laidOut : laidOutB Tryd.prog = true := by kernel_rfl
theorem typesOk : (Tryd.f3.params.toList.all fun t => Tryd.prog.readableRec t && decide (t < Tryd.prog.types.size)) = true := by kernel_rfl
theorem contract (H : Type) (enc : TypeId × Value → H) (W : World) (base : Nat) (args : Array Value) (ds gs : List (DataW H)) (before : List MemPlace)
    (hval : ∀ (j : Nat) t v, Tryd.f3.params[j]? = some t → args[j]? = some v → Value.okWide Tryd.prog W .any base t v)
    (hW : DataW.Whole enc Tryd.prog Tryd.f3.params.toList Rows.mixTellsSpec.vars false W args.toList ds gs before) (hL : laidMetH Tryd.prog Rows.mixTellsRow.laid W) :
    Calls Tryd.prog 3 args W fun e W' => ∃ v, e = .returned v ∧ Rows.mixTellsSpec.post enc Tryd.prog Tryd.f3 false true false false W args v W' := by
  have hW' := hW
  obtain ⟨p, q, hA0, hV, hpq, hfz, hnd⟩ := hW
  have hA : DataW.TrodAll enc Tryd.prog W 0 (fun _ => true) true Tryd.f3.params.toList args.toList ds p := hA0
  rw [Tryd.params3] at hA hval
  obtain ⟨v0, vs0, d0, ds0, p0, q0, hargs, rfl, rfl, h0, r0⟩ := trodAll_cons hA
  obtain ⟨v1, vs1, d1, ds1, p1, q1, rfl, rfl, rfl, h1, r1⟩ := trodAll_cons r0
  obtain ⟨v2, vs2, d2, ds2, p2, q2, rfl, rfl, rfl, h2, r2⟩ := trodAll_cons r1
  obtain ⟨rfl, rfl, rfl⟩ := trodAll_nil r2
  obtain rfl : args = #[v0, v1, v2] := by apply Array.ext'; simpa using hargs
  obtain ⟨rfl, rfl⟩ := trodVars_none hV
  obtain ⟨x0, rfl, rfl, rfl, w0⟩ := open_int Tryd.underlying22 (hval 0 22 v0 rfl rfl) h0
  obtain ⟨y0, rfl⟩ := u64_wf w0
  obtain ⟨x1, rfl, rfl, rfl, w1⟩ := open_int Tryd.underlying22 (hval 1 22 v1 rfl rfl) h1
  obtain ⟨y1, rfl⟩ := u64_wf w1
  obtain ⟨x2, rfl, rfl, rfl, w2⟩ := open_int Tryd.underlying3 (hval 2 3 v2 rfl rfl) h2
  have b2 := i64_wf w2
  refine law_post laidOut (fun t ht => by simpa using List.all_eq_true.1 typesOk t ht) rfl (show Tryd.f3.resultTypes = #[4] by rfl) Tryd.underlying4 hW' rfl rfl rfl ?_
  exact law_calls (callF_sound (soundG6 (tabs hL)) 60 Tryd.func3 low3) fun N hN => ⟨[], N, ev3 y0 y1 x2 b2 [] N⟩

noncomputable def laidWorld (os : Os) : World := laidW Tryd.prog os [(0, [.int .u64 30, .int .u64 13787848793156543929, .int .u64 27, .int .u64 10723151780598845931, .int .u64 31, .int .u64 1]), (1, [.int .u64 31, .int .u64 3573116690164977347, .int .u64 27, .int .u64 10871156337175269513, .int .u64 30, .int .u64 1])]
theorem laid_met (os : Os) : laidMet Tryd.prog Rows.mixTellsRow.laid ((laidWorld os).forCall (fun _ _ => 0) ⟨#[], #[.int .u64 0, .int .u64 0, .int .i64 0], []⟩).memory :=
  laidMet_of_run' 16 (by kernel_rfl) (by kernel_rfl)
theorem reads (os : Os) {H : Type} (enc : TypeId × Value → H) : ∃ places, DataW.whole enc Tryd.prog ((laidWorld os).forCall (fun _ _ => 0) ⟨#[], #[.int .u64 0, .int .u64 0, .int .i64 0], []⟩).memory Tryd.f3.params.toList Rows.mixTellsSpec.vars false (#[.int .u64 0, .int .u64 0, .int .i64 0] : Array Value).toList 16 = some ([.lit (.int .u64 0), .lit (.int .u64 0), .lit (.int .i64 0)], [], places) :=
  ⟨[], by kernel_rfl⟩
theorem lifted (os : Os) (started : os.Started) (H : Type) (enc : TypeId × Value → H) (F : Stop.Interp) :
    ReturnsInHanded {} Tryd.checked os 3 .any ((OpenSpec.ofChange Rows.mixTellsSpec).preRow enc Tryd.prog Tryd.f3 Rows.mixTellsRow.domain false Rows.mixTellsRow.laid) (((OpenSpec.ofChange Rows.mixTellsSpec).at F).post enc Tryd.prog Tryd.f3 false true false false) := by
  obtain ⟨places, hx⟩ := reads os enc
  refine returnsInHanded_of_row (C := Tryd.checked) (s := OpenSpec.ofChange Rows.mixTellsSpec) own started (by kernel_rfl) Tryd.func3
    (witness_row_at (enc := enc) (C := Tryd.checked) false (laidWorld os) #[.int .u64 0, .int .u64 0, .int .i64 0] rfl (by kernel_rfl) (by kernel_rfl) (by kernel_rfl)
      (OpenSpec.preRow_of_cond 16 hx (by kernel_rfl) (fun k hk => by cases hk) (by kernel_rfl) (laid_met os))) ?_
  intro W base args ds gs before hval hW _ _ _ hL _ _
  exact contract H enc W base args ds gs before hval hW hL
theorem said : Rows.MixTellsSaid :=
  OpenClaim.holds_of_cond 3 Tryd.f3 rfl rfl rfl rfl rfl rfl rfl ⟨rfl, rfl, rfl, rfl, rfl⟩ rfl rfl rfl rfl rfl (by kernel_rfl) Tryd.func3 (by kernel_rfl)
    (of_decide_eq_true (by kernel_rfl)) (by unfold Func.isWrapper; first | (rw [if_pos (by decide +kernel)]; kernel_rfl) | (rw [if_neg (by decide +kernel)]; exact ⟨rfl, rfl⟩))
    (fun os started H enc _ F => by rw [OpenClaim.pre_eq_preRow]; exact lifted os started H enc F)
theorem plain (f : FuncId) (fn : Func) (hf : Tryd.pinned.checked.prog.funcNamed "whitewash/whitewashlaw02.MixTells" = some f) (hfn : Tryd.pinned.checked.prog.funcs[f]? = some fn) :
    false = Tryd.pinned.checked.prog.looks [] ∧ ∀ (j : Nat) t, fn.params[j]? = some t → Tryd.pinned.checked.prog.wantsStandIn t = false := by
  obtain rfl : f = 3 := Option.some.inj ((show Tryd.prog.funcNamed "whitewash/whitewashlaw02.MixTells" = some 3 by kernel_rfl).symm.trans hf) |>.symm
  obtain rfl : fn = Tryd.f3 := (Option.some.inj (Tryd.func3.symm.trans hfn)).symm
  refine ⟨by kernel_rfl, fun j t ht => ?_⟩
  have hall : (Tryd.f3.params.toList.all fun t => !Tryd.prog.wantsStandIn t) = true := by kernel_rfl
  have := List.all_eq_true.1 hall t (by simpa using Array.mem_of_getElem? ht)
  show Tryd.prog.wantsStandIn t = false
  simpa using this
theorem card : Rows.MixTellsCardSaid :=
  Claim7.holds_tied_plain_at .later [] _ _ _ _ said (fun _ h => by cases h) (by kernel_rfl) (fun _ h => by cases h) mixTells_row_tie rfl ⟨rfl, rfl⟩ (by kernel_rfl) rfl plain (by kernel_rfl)
end mixTells
end Go.Proofs.YtjeaeongfniafaaDoor
