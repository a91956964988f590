/- Own text: the log of writes, part HoB: contracts of the functions that the laws of the log call. -/
import Derived.Test.YtfhiplfagejfoaaDoorHoA
set_option linter.unusedSimpArgs false
set_option linter.unusedVariables false
namespace Go.Proofs.YtfhiplfagejfoaaDoor
open Go.Proofs.YtfhiplfagejfoaaDoor.K Go.ChangeShapes Go.WideShapes Go.ChangeAt Go.RowKit 
set_option maxRecDepth 100000
set_option linter.unusedSimpArgs false
set_option linter.unusedVariables false
structure Cf (kk p cc h : Nat) : Prop where
  k : 1 ≤ kk ∧ kk ≤ 5
  p : 1 ≤ p ∧ p ≤ 16
  c : 1 ≤ cc ∧ cc ≤ 256
  m : hm kk cc = (h : Int)
theorem Cf.h {kk p cc h : Nat} (C : Cf kk p cc h) : 1 ≤ h ∧ h ≤ 1026 := by
  have := hm_bounds (k := kk) (c := cc) (by have := C.k; omega) (by have := C.c; omega)
  rw [C.m] at this; omega
def fitI (k p c : Int) : Prop := (1 ≤ k ∧ k ≤ 5) ∧ (1 ≤ p ∧ p ≤ 16) ∧ (1 ≤ c ∧ c ≤ 256)
instance (k p c : Int) : Decidable (fitI k p c) := by unfold fitI; exact inferInstance
theorem fit_cf {k p c : Int} (h : fitI k p c) : ∃ kk pp cc hh : Nat, k = (kk : Int) ∧ p = (pp : Int) ∧ c = (cc : Int) ∧ Cf kk pp cc hh := by
  obtain ⟨h1, h2, h3⟩ := h
  have hb := hm_bounds h1 h3
  refine ⟨k.toNat, p.toNat, c.toNat, (hm k c).toNat, by omega, by omega, by omega, ⟨by omega, by omega, by omega, ?_⟩⟩
  rw [show ((k.toNat : Nat) : Int) = k by omega, show ((c.toNat : Nat) : Int) = c by omega]; omega
def LG (p h : Nat) : Nat := 1 + 2 * (h + 2 * p)
theorem LG_b {kk p cc h : Nat} (C : Cf kk p cc h) : LG p h ≤ 2117 ∧ LG p h * p ≤ 33872 ∧ 1 ≤ LG p h := by
  have h1 := C.h
  have h2 := C.p
  have h3 : LG p h ≤ 2117 := by unfold LG; omega
  refine ⟨h3, ?_, by unfold LG; omega⟩
  exact Nat.mul_le_mul h3 (by omega : p ≤ 16)
theorem bs_1 {p h : Nat} : bs p h 1 = 1 := by simp [bs, sz, mn]
theorem bs_2 {p h : Nat} : bs p h 2 = 1 + 3 * p := by simp [bs, sz, mn]
theorem bs_3 {p h : Nat} : bs p h 3 = 1 + 5 * p := by simp [bs, sz, mn]; omega
theorem bs_4 {p h : Nat} : bs p h 4 = 1 + 5 * p + LG p h * p := by simp [bs, sz, mn, LG]; omega
theorem bs_5 {p h : Nat} : bs p h 5 = 1 + 5 * p + LG p h * p + h := by simp [bs, sz, mn, LG]; omega
theorem cfit {kk p cc h : Nat} (C : Cf kk p cc h) : fitI kk p cc := ⟨by have := C.k; omega, by have := C.p; omega, by have := C.c; omega⟩
theorem f11c {B : OH} (hG : ∃ H N, good B H N) (hT : Tab B) {kk p cc h : Nat} (C : Cf kk p cc h) : F11 B [.agg #[.int .i64 (kk : Int), .int .i64 (p : Int), .int .i64 (cc : Int)]] = some (.int .i64 (LG p h : Int)) := by
  rw [f11 hG hT kk p cc (cfit C).1 (cfit C).2.1 (cfit C).2.2, C.m, show (1 + 2 * ((h : Int) + 2 * (p : Int))) = (LG p h : Int) by unfold LG; omega]
theorem f7c {B : OH} (hG : ∃ H N, good B H N) (hT : Tab B) {kk p cc h : Nat} (C : Cf kk p cc h) : F7 B [.agg #[.int .i64 (kk : Int), .int .i64 (p : Int), .int .i64 (cc : Int)]] = some (.int .i64 (bs p h 5 : Int)) := f7 hG hT C.k C.p C.c C.m
theorem f10o {B : OH} (hG : ∃ H N, good B H N) {kk p cc h : Nat} (C : Cf kk p cc h) (y : Int) (hy : y < 0 ∨ y ≥ (p : Int)) : F10 B [.agg #[.int .i64 (kk : Int), .int .i64 (p : Int), .int .i64 (cc : Int)], .int .i64 3, .int .i64 y] = some (.tuple #[.int .i64 0, .int .i64 1]) := by
  refine kval_eq hG fun H N hN => ?_
  obtain ⟨hB, hR, hI⟩ := gX hN
  have e13 := f13 hG kk p cc (cfit C).1 (cfit C).2.1 (cfit C).2.2
  by_cases c1 : y < 0
  · simp (disch := omega) only [J7, hB, hR, hI, e13, c1, all1, ress, res1, retV, Value.cells, newsV_s, seval, eV]
    with_reducible refine done2 ?_
    repeat (first | refine ext_new hN ?_ | exact fun _ _ h => h)
  · have c2 : y ≥ (p : Int) := by omega
    simp (disch := omega) only [J7, hB, hR, hI, e13, c1, c2, all1, ress, res1, retV, Value.cells, newsV_s, seval, eV]
    with_reducible refine done2 ?_
    repeat (first | refine ext_new hN ?_ | exact fun _ _ h => h)
theorem f10c3 {B : OH} (hG : ∃ H N, good B H N) (hT : Tab B) {kk p cc h : Nat} (C : Cf kk p cc h) {q : Nat} (hq : q < p) : F10 B [.agg #[.int .i64 (kk : Int), .int .i64 (p : Int), .int .i64 (cc : Int)], .int .i64 3, .int .i64 (q : Int)] = some (.tuple #[.int .i64 (bs p h 3 + LG p h * q : Nat), .int .i64 0]) := by
  have := f10 (k0 := 3) (o0 := q) hG hT C.k C.p C.c C.m (by omega) (by simpa [mn] using hq)
  exact this
def Lref04in : FnL := ⟨(.seq (.ops [oa 6 (.mv (.const (.bool false)))])
 (.seq (.ops [om 7 0,om 8 1,oa 9 (.bin .geq (ot 7) (ot 8)),om 10 9,ob 11 (.mv (ot 0)) 10 true,ob 12 (.mv (ot 2)) 10 true,ob 13 (.bin .leq (ot 11) (ot 12)) 10 true,oa 14 (.pick (ot 10) (ot 13) (.const (.bool false))),om 6 14])
 .ret)),
 15, [.tmp 6]⟩
theorem lowref04in : lowerFn Tryd.prog Tryd.f61 = some Lref04in := by kernel_rfl
noncomputable def Gref04in (B : OH) : Nat → Cs
  | _ => fun _ _ _ => none
theorem sGref04in {w0 : World} {B : OH} : SoundG Tryd.prog w0 B { f := Gref04in B } := .of fun k => by
  unfold Gref04in
  split
  · exact .inl fun _ _ _ => rfl
theorem enref04in : Enter Tryd.prog 61 := .of Tryd.func61 (by kernel_rfl) (by kernel_rfl)
noncomputable def Tref04in (B : OH) : Cs := callF B { f := Gref04in B } 80 Lref04in
theorem sTref04in {w0 : World} {B : OH} : SoundC Tryd.prog w0 B 61 (Tref04in B) := callF_sound mixedOrders sGref04in 80 Tryd.func61 lowref04in
noncomputable def Fref04in (B : OH) : List Value → Option Value := kval B (Tref04in B)
noncomputable def Vref04in (B : OH) : Cs := fun a H N => pvE (Fref04in B a) H N
theorem Vref04in_eq {B : OH} {a : List Value} {H : HL} {N : St} : Vref04in B a H N = pvE (Fref04in B a) H N := rfl
theorem sVref04in {w0 : World} {B : OH} : SoundC Tryd.prog w0 B 61 (Vref04in B) := sTref04in.ofVal
theorem J8 : Said (an @Tref04in.eq_1 <| an @Lref04in.eq_1 <| trivial) := said_ok _
theorem fin {B : OH} (hG : ∃ H N, good B H N) (x a b : Int) : Fref04in B [.int .i64 x, .int .i64 a, .int .i64 b] = some (.bool (decide (a ≤ x ∧ x ≤ b))) := by
  refine kval_eq hG fun H N hN => ?_
  obtain ⟨hB, hR, hI⟩ := gX hN
  by_cases c1 : x ≥ a
  · by_cases c2 : x ≤ b
    · rw [decide_eq_true ⟨c1, c2⟩]
      simp (disch := omega) only [J8, hB, hR, hI, c1, c2, all1, ress, res1, retV, Value.cells, newsV_s, seval, eV]
      with_reducible refine done2 ?_
      repeat (first | refine ext_new hN ?_ | exact fun _ _ h => h)
    · rw [decide_eq_false fun h => c2 h.2]
      simp (disch := omega) only [J8, hB, hR, hI, c1, c2, all1, ress, res1, retV, Value.cells, newsV_s, seval, eV]
      with_reducible refine done2 ?_
      repeat (first | refine ext_new hN ?_ | exact fun _ _ h => h)
  · rw [decide_eq_false fun h => c1 h.1]
    simp (disch := omega) only [J8, hB, hR, hI, c1, all1, ress, res1, retV, Value.cells, newsV_s, seval, eV]
    with_reducible refine done2 ?_
    repeat (first | refine ext_new hN ?_ | exact fun _ _ h => h)
def Lref04Fits : FnL := ⟨(.seq (.ops [oa 1 (.box (ot 0)),oa 2 (.mv (.const (.bool false)))])
 (.seq (.ops [og 3 0 1,ol 4 3,oa 5 (.call (.func 61) [(ot 4), (oi 1), (oi 5)]),om 6 5,ob 7 (.faddr 1 (ot 1)) 6 true,ob 8 (.load false 1 (ot 7)) 6 true,ob 9 (.call (.func 61) [(ot 8), (oi 1), (oi 16)]) 6 true,oa 10 (.pick (ot 6) (ot 9) (.const (.bool false))),om 11 10,ob 12 (.faddr 2 (ot 1)) 11 true,ob 13 (.load false 1 (ot 12)) 11 true,ob 14 (.call (.func 61) [(ot 13), (oi 1), (oi 256)]) 11 true,oa 15 (.pick (ot 11) (ot 14) (.const (.bool false))),om 2 15])
 .ret)),
 16, [.tmp 2]⟩
theorem lowref04Fits : lowerFn Tryd.prog Tryd.f39 = some Lref04Fits := by kernel_rfl
noncomputable def Gref04Fits (B : OH) : Nat → Cs
  | 61 => Vref04in B
  | _ => fun _ _ _ => none
theorem Gref04Fits_ref04in {B : OH} : Gref04Fits B 61 = Vref04in B := rfl
theorem sGref04Fits {w0 : World} {B : OH} : SoundG Tryd.prog w0 B { f := Gref04Fits B } := .of fun k => by
  unfold Gref04Fits
  split
  · exact .inr ⟨enref04in, sVref04in⟩
  · exact .inl fun _ _ _ => rfl
theorem enref04Fits : Enter Tryd.prog 39 := .of Tryd.func39 (by kernel_rfl) (by kernel_rfl)
noncomputable def Tref04Fits (B : OH) : Cs := callF B { f := Gref04Fits B } 80 Lref04Fits
theorem sTref04Fits {w0 : World} {B : OH} : SoundC Tryd.prog w0 B 39 (Tref04Fits B) := callF_sound mixedOrders sGref04Fits 80 Tryd.func39 lowref04Fits
noncomputable def Fref04Fits (B : OH) : List Value → Option Value := kval B (Tref04Fits B)
noncomputable def Vref04Fits (B : OH) : Cs := fun a H N => pvE (Fref04Fits B a) H N
theorem Vref04Fits_eq {B : OH} {a : List Value} {H : HL} {N : St} : Vref04Fits B a H N = pvE (Fref04Fits B a) H N := rfl
theorem sVref04Fits {w0 : World} {B : OH} : SoundC Tryd.prog w0 B 39 (Vref04Fits B) := sTref04Fits.ofVal
theorem J9 : Said (an @Tref04Fits.eq_1 <| an @Lref04Fits.eq_1 <| an @Gref04Fits_ref04in <| an @Vref04in_eq <| trivial) := said_ok _
theorem rFits {B : OH} (hG : ∃ H N, good B H N) (k p c : Int) : Fref04Fits B [.agg #[.int .i64 k, .int .i64 p, .int .i64 c]] = some (.bool (decide (fitI k p c))) := by
  refine kval_eq hG fun H N hN => ?_
  obtain ⟨hB, hR, hI⟩ := gX hN
  have e1 := fin hG k 1 5
  have e2 := fin hG p 1 16
  have e3 := fin hG c 1 256
  by_cases c1 : 1 ≤ k ∧ k ≤ 5
  · by_cases c2 : 1 ≤ p ∧ p ≤ 16
    · by_cases c3 : 1 ≤ c ∧ c ≤ 256
      · rw [decide_eq_true (show fitI k p c from ⟨c1, c2, c3⟩)]
        rw [decide_eq_true c1] at e1; rw [decide_eq_true c2] at e2; rw [decide_eq_true c3] at e3
        simp (disch := omega) only [J9, hB, hR, hI, e1, e2, e3, all1, ress, res1, retV, Value.cells, newsV_s, seval, eV]
        with_reducible refine done2 ?_
        repeat (first | refine ext_new hN ?_ | exact fun _ _ h => h)
      · rw [decide_eq_false (show ¬ fitI k p c from fun h => c3 h.2.2)]
        rw [decide_eq_true c1] at e1; rw [decide_eq_true c2] at e2; rw [decide_eq_false c3] at e3
        simp (disch := omega) only [J9, hB, hR, hI, e1, e2, e3, all1, ress, res1, retV, Value.cells, newsV_s, seval, eV]
        with_reducible refine done2 ?_
        repeat (first | refine ext_new hN ?_ | exact fun _ _ h => h)
    · rw [decide_eq_false (show ¬ fitI k p c from fun h => c2 h.2.1)]
      rw [decide_eq_true c1] at e1; rw [decide_eq_false c2] at e2
      simp (disch := omega) only [J9, hB, hR, hI, e1, e2, all1, ress, res1, retV, Value.cells, newsV_s, seval, eV]
      with_reducible refine done2 ?_
      repeat (first | refine ext_new hN ?_ | exact fun _ _ h => h)
  · rw [decide_eq_false (show ¬ fitI k p c from fun h => c1 h.1)]
    rw [decide_eq_false c1] at e1
    simp (disch := omega) only [J9, hB, hR, hI, e1, all1, ress, res1, retV, Value.cells, newsV_s, seval, eV]
    with_reducible refine done2 ?_
    repeat (first | refine ext_new hN ?_ | exact fun _ _ h => h)
theorem rFits1 {B : OH} (hG : ∃ H N, good B H N) {kk p cc h : Nat} (C : Cf kk p cc h) : Fref04Fits B [.agg #[.int .i64 (kk : Int), .int .i64 (p : Int), .int .i64 (cc : Int)]] = some (.bool true) := by
  rw [rFits hG, decide_eq_true (cfit C)]
def Lref04Home : FnL := ⟨(.seq (.ops [oa 1 (.box (ot 0)),oa 2 (.mv (oi 0))])
 (.seq (.seq (.ops [oa 3 (.load true 3 (ot 1)),oa 4 (.call (.func 39) [(ot 3)]),oa 5 (.un .not (ot 4))])
 (.cond (ot 5) (.seq (.ops [oa 2 (.mv (oi 0))])
 .ret)
 .skip))
 (.seq (.seq (.ops [og 6 0 1,ol 7 6])
 (.block 0 (.seq (.ops [oa 9 (.bin .eql (ot 7) (oi 1)),om 8 9])
 (.cond (ot 8) (.seq (.ops [oa 2 (.mv (oi 1))])
 .ret)
 (.seq (.ops [oa 11 (.bin .eql (ot 7) (oi 2)),om 10 11])
 (.cond (ot 10) (.seq (.ops [og 12 2 1,ol 13 12,oa 14 (.bin .mul (oi 2) (ot 13)),oa 15 (.bin .add (oi 1) (ot 14)),om 2 15])
 .ret)
 (.seq (.ops [oa 17 (.bin .eql (ot 7) (oi 3)),om 16 17])
 (.cond (ot 16) (.seq (.ops [og 18 2 1,ol 19 18,oa 20 (.bin .mul (oi 4) (ot 19)),oa 21 (.bin .add (oi 1) (ot 20)),om 2 21])
 .ret)
 (.seq (.ops [oa 23 (.bin .eql (ot 7) (oi 4)),om 22 23])
 (.cond (ot 22) (.seq (.ops [og 24 2 1,ol 25 24,oa 26 (.bin .mul (oi 4) (ot 25)),oa 27 (.bin .add (oi 2) (ot 26)),om 2 27])
 .ret)
 .skip))))))))))
 (.seq (.ops [og 28 2 1,ol 29 28,oa 30 (.bin .add (oi 1) (ot 29)),oa 31 (.bin .add (ot 30) (oi 8)),om 2 31])
 .ret)))),
 32, [.tmp 2]⟩
theorem lowref04Home : lowerFn Tryd.prog Tryd.f38 = some Lref04Home := by kernel_rfl
noncomputable def Gref04Home (B : OH) : Nat → Cs
  | 39 => Vref04Fits B
  | _ => fun _ _ _ => none
theorem Gref04Home_ref04Fits {B : OH} : Gref04Home B 39 = Vref04Fits B := rfl
theorem sGref04Home {w0 : World} {B : OH} : SoundG Tryd.prog w0 B { f := Gref04Home B } := .of fun k => by
  unfold Gref04Home
  split
  · exact .inr ⟨enref04Fits, sVref04Fits⟩
  · exact .inl fun _ _ _ => rfl
theorem enref04Home : Enter Tryd.prog 38 := .of Tryd.func38 (by kernel_rfl) (by kernel_rfl)
noncomputable def Tref04Home (B : OH) : Cs := callF B { f := Gref04Home B } 80 Lref04Home
theorem sTref04Home {w0 : World} {B : OH} : SoundC Tryd.prog w0 B 38 (Tref04Home B) := callF_sound mixedOrders sGref04Home 80 Tryd.func38 lowref04Home
noncomputable def Fref04Home (B : OH) : List Value → Option Value := kval B (Tref04Home B)
noncomputable def Vref04Home (B : OH) : Cs := fun a H N => pvE (Fref04Home B a) H N
theorem Vref04Home_eq {B : OH} {a : List Value} {H : HL} {N : St} : Vref04Home B a H N = pvE (Fref04Home B a) H N := rfl
theorem sVref04Home {w0 : World} {B : OH} : SoundC Tryd.prog w0 B 38 (Vref04Home B) := sTref04Home.ofVal
theorem J10 : Said (an @Tref04Home.eq_1 <| an @Lref04Home.eq_1 <| an @Gref04Home_ref04Fits <| an @Vref04Fits_eq <| trivial) := said_ok _
set_option maxHeartbeats 1000000 in
theorem rHome {B : OH} (hG : ∃ H N, good B H N) {kk p cc h : Nat} (C : Cf kk p cc h) : Fref04Home B [.agg #[.int .i64 (kk : Int), .int .i64 (p : Int), .int .i64 (cc : Int)]] = some (.int .i64 (h : Int)) := by
  refine kval_eq hG fun H N hN => ?_
  obtain ⟨hB, hR, hI⟩ := gX hN
  have e := rFits1 hG C
  have hm' := C.m
  have hk := C.k
  have hc := C.c
  unfold hm at hm'
  obtain rfl | rfl | rfl | rfl | rfl : kk = 1 ∨ kk = 2 ∨ kk = 3 ∨ kk = 4 ∨ kk = 5 := by omega
  · have hh : (h : Int) = 1 := by simpa using hm'.symm
    simp only [Int.cast_ofNat_Int] at e
    simp (disch := omega) only [J10, hB, hR, hI, e, hh, all1, ress, res1, retV, Value.cells, newsV_s, seval, eV]
    with_reducible refine done2 ?_
    repeat (first | refine ext_new hN ?_ | exact fun _ _ h => h)
  · have hh : (h : Int) = 1 + 2 * (cc : Int) := by simpa using hm'.symm
    simp only [Int.cast_ofNat_Int] at e
    simp (disch := omega) only [J10, hB, hR, hI, e, hh, all1, ress, res1, retV, Value.cells, newsV_s, seval, eV]
    with_reducible refine done2 ?_
    repeat (first | refine ext_new hN ?_ | exact fun _ _ h => h)
  · have hh : (h : Int) = 1 + 4 * (cc : Int) := by simpa using hm'.symm
    simp only [Int.cast_ofNat_Int] at e
    simp (disch := omega) only [J10, hB, hR, hI, e, hh, all1, ress, res1, retV, Value.cells, newsV_s, seval, eV]
    with_reducible refine done2 ?_
    repeat (first | refine ext_new hN ?_ | exact fun _ _ h => h)
  · have hh : (h : Int) = 2 + 4 * (cc : Int) := by simpa using hm'.symm
    simp only [Int.cast_ofNat_Int] at e
    simp (disch := omega) only [J10, hB, hR, hI, e, hh, all1, ress, res1, retV, Value.cells, newsV_s, seval, eV]
    with_reducible refine done2 ?_
    repeat (first | refine ext_new hN ?_ | exact fun _ _ h => h)
  · have hh : (h : Int) = 1 + (cc : Int) + 8 := by
      have : (h : Int) = 9 + (cc : Int) := by simpa using hm'.symm
      omega
    simp only [Int.cast_ofNat_Int] at e
    simp (disch := omega) only [J10, hB, hR, hI, e, hh, all1, ress, res1, retV, Value.cells, newsV_s, seval, eV]
    with_reducible refine done2 ?_
    repeat (first | refine ext_new hN ?_ | exact fun _ _ h => h)
def LrS : FnL := ⟨(.seq (.ops [oa 1 (.box (ot 0)),oa 2 (.mv (oi 0))])
 (.seq (.seq (.ops [oa 3 (.load true 3 (ot 1)),oa 4 (.call (.func 39) [(ot 3)]),oa 5 (.un .not (ot 4))])
 (.cond (ot 5) (.seq (.ops [oa 2 (.mv (oi 0))])
 .ret)
 .skip))
 (.seq (.draw [oe 6 (.load true 3 (ot 1)),pg 8 1 1,pl 9 8,oe 10 (.bin .mul (oi 2) (ot 9)), ⟨oa 7 (.call (.func 38) [(ot 6)]), [ol 9 8]⟩,oe 11 (.bin .add (ot 7) (ot 10)),oe 12 (.bin .mul (oi 2) (ot 11)),oe 13 (.bin .add (oi 1) (ot 12)),pm 2 13])
 .ret))),
 14, [.tmp 2]⟩
theorem lowrS : lowerFn Tryd.prog Tryd.f40 = some LrS := by kernel_rfl
noncomputable def GrS (B : OH) : Nat → Cs
  | 39 => Vref04Fits B
  | 38 => Vref04Home B
  | _ => fun _ _ _ => none
theorem GrS_ref04Fits {B : OH} : GrS B 39 = Vref04Fits B := rfl
theorem GrS_ref04Home {B : OH} : GrS B 38 = Vref04Home B := rfl
theorem sGrS {w0 : World} {B : OH} : SoundG Tryd.prog w0 B { f := GrS B } := .of fun k => by
  unfold GrS
  split
  · exact .inr ⟨enref04Fits, sVref04Fits⟩
  · exact .inr ⟨enref04Home, sVref04Home⟩
  · exact .inl fun _ _ _ => rfl
theorem enrS : Enter Tryd.prog 40 := .of Tryd.func40 (by kernel_rfl) (by kernel_rfl)
noncomputable def TrS (B : OH) : Cs := callF B { f := GrS B } 80 LrS
theorem sTrS {w0 : World} {B : OH} : SoundC Tryd.prog w0 B 40 (TrS B) := callF_sound mixedOrders sGrS 80 Tryd.func40 lowrS
noncomputable def FrS (B : OH) : List Value → Option Value := kval B (TrS B)
noncomputable def VrS (B : OH) : Cs := fun a H N => pvE (FrS B a) H N
theorem VrS_eq {B : OH} {a : List Value} {H : HL} {N : St} : VrS B a H N = pvE (FrS B a) H N := rfl
theorem sVrS {w0 : World} {B : OH} : SoundC Tryd.prog w0 B 40 (VrS B) := sTrS.ofVal
theorem J11 : Said (an @TrS.eq_1 <| an @LrS.eq_1 <| an @GrS_ref04Fits <| an @Vref04Fits_eq <| an @GrS_ref04Home <| an @Vref04Home_eq <| trivial) := said_ok _
theorem rLog {B : OH} (hG : ∃ H N, good B H N) {kk p cc h : Nat} (C : Cf kk p cc h) : FrS B [.agg #[.int .i64 (kk : Int), .int .i64 (p : Int), .int .i64 (cc : Int)]] = some (.int .i64 (LG p h : Int)) := by
  refine kval_eq hG fun H N hN => ?_
  obtain ⟨hB, hR, hI⟩ := gX hN
  have e := rFits1 hG C
  have e2 := rHome hG C
  have hh := C.h
  have hp := C.p
  have hl : (LG p h : Int) = 1 + 2 * ((h : Int) + 2 * (p : Int)) := by unfold LG; omega
  simp (disch := omega) only [J11, hB, hR, hI, e, e2, hl, all1, ress, res1, retV, Value.cells, newsV_s, seval, eV]
  with_reducible refine done2 ?_
  repeat (first | refine ext_new hN ?_ | exact fun _ _ h => h)
def Lref04Size : FnL := ⟨(.seq (.ops [oa 1 (.box (ot 0)),oa 2 (.mv (oi 0))])
 (.seq (.seq (.ops [oa 3 (.load true 3 (ot 1)),oa 4 (.call (.func 39) [(ot 3)]),oa 5 (.un .not (ot 4))])
 (.cond (ot 5) (.seq (.ops [oa 2 (.mv (oi 0))])
 .ret)
 .skip))
 (.seq (.draw [pg 6 1 1,pl 7 6,oe 8 (.load true 3 (ot 1)),oe 13 (.load true 3 (ot 1)), ⟨oa 9 (.call (.func 40) [(ot 8)]), [ol 7 6,oa 13 (.load true 3 (ot 1))]⟩,oe 10 (.bin .add (oi 5) (ot 9)),oe 11 (.bin .mul (ot 7) (ot 10)),oe 12 (.bin .add (oi 1) (ot 11)), ⟨oa 14 (.call (.func 38) [(ot 13)]), [ol 7 6]⟩,oe 15 (.bin .add (ot 12) (ot 14)),pm 2 15])
 .ret))),
 16, [.tmp 2]⟩
theorem lowref04Size : lowerFn Tryd.prog Tryd.f35 = some Lref04Size := by kernel_rfl
noncomputable def Gref04Size (B : OH) : Nat → Cs
  | 39 => Vref04Fits B
  | 38 => Vref04Home B
  | 40 => VrS B
  | _ => fun _ _ _ => none
theorem Gref04Size_ref04Fits {B : OH} : Gref04Size B 39 = Vref04Fits B := rfl
theorem Gref04Size_ref04Home {B : OH} : Gref04Size B 38 = Vref04Home B := rfl
theorem Gref04Size_rS {B : OH} : Gref04Size B 40 = VrS B := rfl
theorem sGref04Size {w0 : World} {B : OH} : SoundG Tryd.prog w0 B { f := Gref04Size B } := .of fun k => by
  unfold Gref04Size
  split
  · exact .inr ⟨enref04Fits, sVref04Fits⟩
  · exact .inr ⟨enref04Home, sVref04Home⟩
  · exact .inr ⟨enrS, sVrS⟩
  · exact .inl fun _ _ _ => rfl
theorem enref04Size : Enter Tryd.prog 35 := .of Tryd.func35 (by kernel_rfl) (by kernel_rfl)
noncomputable def Tref04Size (B : OH) : Cs := callF B { f := Gref04Size B } 80 Lref04Size
theorem sTref04Size {w0 : World} {B : OH} : SoundC Tryd.prog w0 B 35 (Tref04Size B) := callF_sound mixedOrders sGref04Size 80 Tryd.func35 lowref04Size
noncomputable def Fref04Size (B : OH) : List Value → Option Value := kval B (Tref04Size B)
noncomputable def Vref04Size (B : OH) : Cs := fun a H N => pvE (Fref04Size B a) H N
theorem Vref04Size_eq {B : OH} {a : List Value} {H : HL} {N : St} : Vref04Size B a H N = pvE (Fref04Size B a) H N := rfl
theorem sVref04Size {w0 : World} {B : OH} : SoundC Tryd.prog w0 B 35 (Vref04Size B) := sTref04Size.ofVal
theorem J12 : Said (an @Tref04Size.eq_1 <| an @Lref04Size.eq_1 <| an @Gref04Size_ref04Fits <| an @Vref04Fits_eq <| an @Gref04Size_ref04Home <| an @Vref04Home_eq <| an @Gref04Size_rS <| an @VrS_eq <| trivial) := said_ok _
theorem rSize {B : OH} (hG : ∃ H N, good B H N) {kk p cc h : Nat} (C : Cf kk p cc h) : Fref04Size B [.agg #[.int .i64 (kk : Int), .int .i64 (p : Int), .int .i64 (cc : Int)]] = some (.int .i64 (bs p h 5 : Int)) := by
  refine kval_eq hG fun H N hN => ?_
  obtain ⟨hB, hR, hI⟩ := gX hN
  have e := rFits1 hG C
  have e2 := rHome hG C
  have e3 := rLog hG C
  have hh := C.h
  have hp := C.p
  have hb := LG_b C
  have hm1 : (p : Int) * (5 + (LG p h : Int)) = ((5 * p + LG p h * p : Nat) : Int) := by
    rw [Int.mul_add, Int.natCast_add, Int.natCast_mul, Int.natCast_mul, Int.mul_comm (LG p h : Int)]; omega
  have hb5 : (bs p h 5 : Int) = 1 + ((5 * p + LG p h * p : Nat) : Int) + (h : Int) := by rw [bs_5]; omega
  have hw1 : IntKind.i64.wrap (5 + (LG p h : Int)) = 5 + (LG p h : Int) := IntWalk.i64_in _ (by omega)
  have hw2 : IntKind.i64.wrap ((5 * p + LG p h * p : Nat) : Int) = ((5 * p + LG p h * p : Nat) : Int) := IntWalk.i64_in _ (by omega)
  have hw3 : IntKind.i64.wrap (1 + ((5 * p + LG p h * p : Nat) : Int)) = 1 + ((5 * p + LG p h * p : Nat) : Int) := IntWalk.i64_in _ (by omega)
  have hw4 : IntKind.i64.wrap (1 + ((5 * p + LG p h * p : Nat) : Int) + (h : Int)) = 1 + ((5 * p + LG p h * p : Nat) : Int) + (h : Int) := IntWalk.i64_in _ (by omega)
  simp (disch := omega) only [J12, hB, hR, hI, e, e2, e3, hm1, hb5, hw1, hw2, hw3, hw4, all1, ress, res1, retV, Value.cells, newsV_s, seval, eV]
  with_reducible refine done2 ?_
  repeat (first | refine ext_new hN ?_ | exact fun _ _ h => h)
def Lref04size : FnL := ⟨(.seq (.ops [oa 2 (.box (ot 0)),oa 4 (.mv (oi 0))])
 (.seq (.seq (.ops [om 5 1])
 (.block 0 (.seq (.ops [oa 7 (.bin .eql (ot 5) (oi 0)),om 6 7])
 (.cond (ot 6) (.seq (.ops [oa 4 (.mv (oi 1))])
 .ret)
 (.seq (.ops [oa 9 (.bin .eql (ot 5) (oi 1)),om 8 9])
 (.cond (ot 8) (.seq (.ops [oa 4 (.mv (oi 3))])
 .ret)
 (.seq (.ops [oa 11 (.bin .eql (ot 5) (oi 2)),om 10 11])
 (.cond (ot 10) (.seq (.ops [oa 4 (.mv (oi 2))])
 .ret)
 (.seq (.ops [oa 13 (.bin .eql (ot 5) (oi 3)),om 12 13])
 (.cond (ot 12) (.seq (.ops [oa 14 (.load true 3 (ot 2)),oa 15 (.call (.func 40) [(ot 14)]),om 4 15])
 .ret)
 .skip))))))))))
 (.seq (.ops [oa 16 (.load true 3 (ot 2)),oa 17 (.call (.func 38) [(ot 16)]),om 4 17])
 .ret))),
 18, [.tmp 4]⟩
theorem lowref04size : lowerFn Tryd.prog Tryd.f62 = some Lref04size := by kernel_rfl
noncomputable def Gref04size (B : OH) : Nat → Cs
  | 38 => Vref04Home B
  | 40 => VrS B
  | _ => fun _ _ _ => none
theorem Gref04size_ref04Home {B : OH} : Gref04size B 38 = Vref04Home B := rfl
theorem Gref04size_rS {B : OH} : Gref04size B 40 = VrS B := rfl
theorem sGref04size {w0 : World} {B : OH} : SoundG Tryd.prog w0 B { f := Gref04size B } := .of fun k => by
  unfold Gref04size
  split
  · exact .inr ⟨enref04Home, sVref04Home⟩
  · exact .inr ⟨enrS, sVrS⟩
  · exact .inl fun _ _ _ => rfl
theorem enref04size : Enter Tryd.prog 62 := .of Tryd.func62 (by kernel_rfl) (by kernel_rfl)
noncomputable def Tref04size (B : OH) : Cs := callF B { f := Gref04size B } 80 Lref04size
theorem sTref04size {w0 : World} {B : OH} : SoundC Tryd.prog w0 B 62 (Tref04size B) := callF_sound mixedOrders sGref04size 80 Tryd.func62 lowref04size
noncomputable def Fref04size (B : OH) : List Value → Option Value := kval B (Tref04size B)
noncomputable def Vref04size (B : OH) : Cs := fun a H N => pvE (Fref04size B a) H N
theorem Vref04size_eq {B : OH} {a : List Value} {H : HL} {N : St} : Vref04size B a H N = pvE (Fref04size B a) H N := rfl
theorem sVref04size {w0 : World} {B : OH} : SoundC Tryd.prog w0 B 62 (Vref04size B) := sTref04size.ofVal
theorem J13 : Said (an @Tref04size.eq_1 <| an @Lref04size.eq_1 <| an @Gref04size_ref04Home <| an @Vref04Home_eq <| an @Gref04size_rS <| an @VrS_eq <| trivial) := said_ok _
theorem rsize {B : OH} (hG : ∃ H N, good B H N) {kk p cc h : Nat} (C : Cf kk p cc h) {k : Nat} (hk : k < 5) : Fref04size B [.agg #[.int .i64 (kk : Int), .int .i64 (p : Int), .int .i64 (cc : Int)], .int .i64 (k : Int)] = some (.int .i64 (sz p h k : Int)) := by
  refine kval_eq hG fun H N hN => ?_
  obtain ⟨hB, hR, hI⟩ := gX hN
  have e2 := rHome hG C
  have e3 := rLog hG C
  obtain rfl | rfl | rfl | rfl | rfl : k = 0 ∨ k = 1 ∨ k = 2 ∨ k = 3 ∨ k = 4 := by omega
  · simp (disch := omega) only [J13, hB, hR, hI, sz, all1, ress, res1, retV, Value.cells, newsV_s, seval, eV]
    with_reducible refine done2 ?_
    repeat (first | refine ext_new hN ?_ | exact fun _ _ h => h)
  · simp (disch := omega) only [J13, hB, hR, hI, sz, all1, ress, res1, retV, Value.cells, newsV_s, seval, eV]
    with_reducible refine done2 ?_
    repeat (first | refine ext_new hN ?_ | exact fun _ _ h => h)
  · simp (disch := omega) only [J13, hB, hR, hI, sz, all1, ress, res1, retV, Value.cells, newsV_s, seval, eV]
    with_reducible refine done2 ?_
    repeat (first | refine ext_new hN ?_ | exact fun _ _ h => h)
  · have hl : sz p h 3 = LG p h := rfl
    simp (disch := omega) only [J13, hB, hR, hI, hl, e3, all1, ress, res1, retV, Value.cells, newsV_s, seval, eV]
    with_reducible refine done2 ?_
    repeat (first | refine ext_new hN ?_ | exact fun _ _ h => h)
  · have hl : sz p h 4 = h := rfl
    simp (disch := omega) only [J13, hB, hR, hI, hl, e2, all1, ress, res1, retV, Value.cells, newsV_s, seval, eV]
    with_reducible refine done2 ?_
    repeat (first | refine ext_new hN ?_ | exact fun _ _ h => h)
def Lref04owners : FnL := ⟨(.seq (.ops [oa 2 (.box (ot 0)),oa 4 (.mv (oi 0))])
 (.seq (.seq (.ops [om 5 1,oa 6 (.bin .eql (ot 5) (oi 0)),om 7 6,ob 8 (.mv (ot 1)) 7 false,ob 9 (.bin .eql (ot 8) (oi 4)) 7 false,oa 10 (.pick (ot 7) (.const (.bool true)) (ot 9))])
 (.cond (ot 10) (.seq (.ops [oa 4 (.mv (oi 1))])
 .ret)
 .skip))
 (.seq (.ops [og 11 1 2,ol 12 11,om 4 12])
 .ret))),
 13, [.tmp 4]⟩
theorem lowref04owners : lowerFn Tryd.prog Tryd.f63 = some Lref04owners := by kernel_rfl
noncomputable def Gref04owners (B : OH) : Nat → Cs
  | _ => fun _ _ _ => none
theorem sGref04owners {w0 : World} {B : OH} : SoundG Tryd.prog w0 B { f := Gref04owners B } := .of fun k => by
  unfold Gref04owners
  split
  · exact .inl fun _ _ _ => rfl
theorem enref04owners : Enter Tryd.prog 63 := .of Tryd.func63 (by kernel_rfl) (by kernel_rfl)
noncomputable def Tref04owners (B : OH) : Cs := callF B { f := Gref04owners B } 80 Lref04owners
theorem sTref04owners {w0 : World} {B : OH} : SoundC Tryd.prog w0 B 63 (Tref04owners B) := callF_sound mixedOrders sGref04owners 80 Tryd.func63 lowref04owners
noncomputable def Fref04owners (B : OH) : List Value → Option Value := kval B (Tref04owners B)
noncomputable def Vref04owners (B : OH) : Cs := fun a H N => pvE (Fref04owners B a) H N
theorem Vref04owners_eq {B : OH} {a : List Value} {H : HL} {N : St} : Vref04owners B a H N = pvE (Fref04owners B a) H N := rfl
theorem sVref04owners {w0 : World} {B : OH} : SoundC Tryd.prog w0 B 63 (Vref04owners B) := sTref04owners.ofVal
theorem J14 : Said (an @Tref04owners.eq_1 <| an @Lref04owners.eq_1 <| trivial) := said_ok _
theorem rown {B : OH} (hG : ∃ H N, good B H N) {kk p cc : Nat} {k : Nat} (hk : k < 5) : Fref04owners B [.agg #[.int .i64 (kk : Int), .int .i64 (p : Int), .int .i64 (cc : Int)], .int .i64 (k : Int)] = some (.int .i64 (mn p k : Int)) := by
  refine kval_eq hG fun H N hN => ?_
  obtain ⟨hB, hR, hI⟩ := gX hN
  obtain rfl | rfl | rfl | rfl | rfl : k = 0 ∨ k = 1 ∨ k = 2 ∨ k = 3 ∨ k = 4 := by omega
  · simp (disch := omega) only [J14, hB, hR, hI, mn, all1, ress, res1, retV, Value.cells, newsV_s, seval, eV]
    with_reducible refine done2 ?_
    repeat (first | refine ext_new hN ?_ | exact fun _ _ h => h)
  · simp (disch := omega) only [J14, hB, hR, hI, mn, all1, ress, res1, retV, Value.cells, newsV_s, seval, eV]
    with_reducible refine done2 ?_
    repeat (first | refine ext_new hN ?_ | exact fun _ _ h => h)
  · simp (disch := omega) only [J14, hB, hR, hI, mn, all1, ress, res1, retV, Value.cells, newsV_s, seval, eV]
    with_reducible refine done2 ?_
    repeat (first | refine ext_new hN ?_ | exact fun _ _ h => h)
  · simp (disch := omega) only [J14, hB, hR, hI, mn, all1, ress, res1, retV, Value.cells, newsV_s, seval, eV]
    with_reducible refine done2 ?_
    repeat (first | refine ext_new hN ?_ | exact fun _ _ h => h)
  · simp (disch := omega) only [J14, hB, hR, hI, mn, all1, ress, res1, retV, Value.cells, newsV_s, seval, eV]
    with_reducible refine done2 ?_
    repeat (first | refine ext_new hN ?_ | exact fun _ _ h => h)
end Go.Proofs.YtfhiplfagejfoaaDoor
namespace Go.Proofs.YtfhiplfagejfoaaDoor
open Go.Proofs.YtfhiplfagejfoaaDoor.K Go.ChangeShapes Go.WideShapes Go.ChangeAt Go.RowKit 
set_option maxRecDepth 100000
set_option linter.unusedSimpArgs false
set_option linter.unusedVariables false
def Lref04At : FnL := ⟨(.seq (.ops [oa 3 (.box (ot 0)),oa 6 (.mv (oi 0)),oa 7 (.mv (oi 0))])
 (.seq (.seq (.ops [oa 10 (.load true 3 (ot 3)),oa 11 (.call (.func 39) [(ot 10)]),oa 12 (.un .not (ot 11))])
 (.cond (ot 12) (.seq (.ops [oa 6 (.mv (oi 0)),oa 7 (.mv (oi 5))])
 .ret)
 .skip))
 (.seq (.seq (.ops [om 13 1,oa 14 (.call (.func 61) [(ot 13), (oi 0), (oi 4)]),oa 15 (.un .not (ot 14)),om 16 15,ob 17 (.mv (ot 2)) 16 false,ob 18 (.faddr 1 (ot 3)) 16 false,ob 19 (.load false 1 (ot 18)) 16 false,ob 20 (.bin .sub (ot 19) (oi 1)) 16 false,ob 21 (.call (.func 61) [(ot 17), (oi 0), (ot 20)]) 16 false,ob 22 (.un .not (ot 21)) 16 false,oa 23 (.pick (ot 16) (.const (.bool true)) (ot 22))])
 (.cond (ot 23) (.seq (.ops [oa 6 (.mv (oi 0)),oa 7 (.mv (oi 1))])
 .ret)
 .skip))
 (.seq (.ops [oa 8 (.mv (oi 0))])
 (.seq (.seq (.ops [oa 9 (.mv (oi 0))])
 (.block 0 (.loop (.seq (.seq (.ops [om 24 9,om 25 1,oa 26 (.bin .lss (ot 24) (ot 25))])
 (.cond (ot 26) .skip
 (.exit 0)))
 (.seq (.block 1 (.draw [pm 29 8,oe 30 (.load true 3 (ot 3)),pm 31 9,oe 33 (.load true 3 (ot 3)),pm 34 9, ⟨oa 32 (.call (.func 62) [(ot 30), (ot 31)]), [oa 33 (.load true 3 (ot 3))]⟩,oe 35 (.call (.func 63) [(ot 33), (ot 34)]),oe 36 (.bin .mul (ot 32) (ot 35)),oe 37 (.bin .add (ot 29) (ot 36)),pm 8 37]))
 (.ops [om 27 9,oa 28 (.bin .add (ot 27) (oi 1)),om 9 28]))))))
 (.seq (.seq (.ops [oa 38 (.load true 3 (ot 3)),om 39 1,oa 40 (.call (.func 63) [(ot 38), (ot 39)]),oa 41 (.bin .gtr (ot 40) (oi 1))])
 (.cond (ot 41) (.ops [om 42 8,om 43 2,oa 44 (.load true 3 (ot 3)),om 45 1,oa 46 (.call (.func 62) [(ot 44), (ot 45)]),oa 47 (.bin .mul (ot 43) (ot 46)),oa 48 (.bin .add (ot 42) (ot 47)),om 8 48])
 .skip))
 (.seq (.ops [om 49 8,om 6 49,oa 7 (.mv (oi 0))])
 .ret))))))),
 50, [.tmp 6, .tmp 7]⟩
theorem lowref04At : lowerFn Tryd.prog Tryd.f37 = some Lref04At := by kernel_rfl
noncomputable def Gref04At (B : OH) : Nat → Cs
  | 39 => Vref04Fits B
  | 61 => Vref04in B
  | 63 => Vref04owners B
  | 62 => Vref04size B
  | _ => fun _ _ _ => none
theorem Gref04At_ref04Fits {B : OH} : Gref04At B 39 = Vref04Fits B := rfl
theorem Gref04At_ref04in {B : OH} : Gref04At B 61 = Vref04in B := rfl
theorem Gref04At_ref04owners {B : OH} : Gref04At B 63 = Vref04owners B := rfl
theorem Gref04At_ref04size {B : OH} : Gref04At B 62 = Vref04size B := rfl
theorem sGref04At {w0 : World} {B : OH} : SoundG Tryd.prog w0 B { f := Gref04At B } := .of fun k => by
  unfold Gref04At
  split
  · exact .inr ⟨enref04Fits, sVref04Fits⟩
  · exact .inr ⟨enref04in, sVref04in⟩
  · exact .inr ⟨enref04owners, sVref04owners⟩
  · exact .inr ⟨enref04size, sVref04size⟩
  · exact .inl fun _ _ _ => rfl
theorem enref04At : Enter Tryd.prog 37 := .of Tryd.func37 (by kernel_rfl) (by kernel_rfl)
noncomputable def Tref04At (B : OH) : Cs := callF B { f := Gref04At B } 200 Lref04At
theorem sTref04At {w0 : World} {B : OH} : SoundC Tryd.prog w0 B 37 (Tref04At B) := callF_sound mixedOrders sGref04At 200 Tryd.func37 lowref04At
noncomputable def Fref04At (B : OH) : List Value → Option Value := kval B (Tref04At B)
noncomputable def Vref04At (B : OH) : Cs := fun a H N => pvE (Fref04At B a) H N
theorem Vref04At_eq {B : OH} {a : List Value} {H : HL} {N : St} : Vref04At B a H N = pvE (Fref04At B a) H N := rfl
theorem sVref04At {w0 : World} {B : OH} : SoundC Tryd.prog w0 B 37 (Vref04At B) := sTref04At.ofVal
theorem J15 : Said (an @Tref04At.eq_1 <| an @Lref04At.eq_1 <| an @Gref04At_ref04Fits <| an @Vref04Fits_eq <| an @Gref04At_ref04in <| an @Vref04in_eq <| an @Gref04At_ref04owners <| an @Vref04owners_eq <| an @Gref04At_ref04size <| an @Vref04size_eq <| trivial) := said_ok _
set_option maxHeartbeats 4000000 in
theorem rAt3 {B : OH} (hG : ∃ H N, good B H N) {kk p cc h : Nat} (C : Cf kk p cc h) {q : Nat} (hq : q < p) : Fref04At B [.agg #[.int .i64 (kk : Int), .int .i64 (p : Int), .int .i64 (cc : Int)], .int .i64 3, .int .i64 (q : Int)] = some (.tuple #[.int .i64 (bs p h 3 + LG p h * q : Nat), .int .i64 0]) := by
  refine kval_eq hG fun H N hN => ?_
  obtain ⟨hB, hR, hI⟩ := gX hN
  have e := rFits1 hG C
  have hh := C.h
  have hp := C.p
  have hb := LG_b C
  have s0 := rsize hG C (k := 0) (by omega)
  have s1 := rsize hG C (k := 1) (by omega)
  have s2 := rsize hG C (k := 2) (by omega)
  have s3 := rsize hG C (k := 3) (by omega)
  have s4 := rsize hG C (k := 4) (by omega)
  have o0 := rown hG (kk := kk) (p := p) (cc := cc) (k := 0) (by omega)
  have o1 := rown hG (kk := kk) (p := p) (cc := cc) (k := 1) (by omega)
  have o2 := rown hG (kk := kk) (p := p) (cc := cc) (k := 2) (by omega)
  have o3 := rown hG (kk := kk) (p := p) (cc := cc) (k := 3) (by omega)
  have o4 := rown hG (kk := kk) (p := p) (cc := cc) (k := 4) (by omega)
  have z3 : sz p h 3 = LG p h := rfl
  have z4 : sz p h 4 = h := rfl
  rw [z3] at s3
  rw [z4] at s4
  simp only [Int.cast_ofNat_Int, sz, mn] at s0 s1 s2 s3 s4 o0 o1 o2 o3 o4
  have a1 : (3 : Int) * (p : Int) = ((3 * p : Nat) : Int) := by omega
  have a2 : (2 : Int) * (p : Int) = ((2 * p : Nat) : Int) := by omega
  have a3 : (LG p h : Int) * (p : Int) = ((LG p h * p : Nat) : Int) := by rw [Int.natCast_mul]
  have e2 := fin hG 3 0 4
  have e3 := fin hG (q : Int) 0 ((p : Int) - 1)
  rw [decide_eq_true (by omega)] at e2 e3
  have hq2 : LG p h * q ≤ LG p h * p := Nat.mul_le_mul_left _ (by omega)
  have a4 : (q : Int) * (LG p h : Int) = ((LG p h * q : Nat) : Int) := by rw [Int.natCast_mul, Int.mul_comm]
  have b3 : ((bs p h 3 + LG p h * q : Nat) : Int) = 1 + ((3 * p : Nat) : Int) + ((2 * p : Nat) : Int) + ((LG p h * q : Nat) : Int) := by rw [bs_3]; omega
  generalize LG p h * q = X at *
  by_cases h1 : (p : Int) > 1
  · simp (disch := omega) only [J15, hB, hR, hI, e, s0, s1, s2, s3, s4, o0, o1, o2, o3, o4, a1, a2, a3, e_loop, e2, e3, a4, b3, h1, all1, ress, res1, retV, Value.cells, newsV_s, seval, eV]
    with_reducible refine done2 ?_
    repeat (first | refine ext_new hN ?_ | exact fun _ _ h => h)
  · have x0 : (X : Int) = 0 := by
      have : q = 0 := by omega
      subst this; simp at a4; omega
    simp (disch := omega) only [J15, hB, hR, hI, e, s0, s1, s2, s3, s4, o0, o1, o2, o3, o4, a1, a2, a3, e_loop, e2, e3, b3, h1, x0, Int.add_zero, all1, ress, res1, retV, Value.cells, newsV_s, seval, eV]
    with_reducible refine done2 ?_
    repeat (first | refine ext_new hN ?_ | exact fun _ _ h => h)
def okP (p h : Nat) (w : Int) : Prop := ((bs p h 2 : Nat) : Int) ≤ w ∧ w < ((bs p h 3 : Nat) : Int) ∨ ((bs p h 4 : Nat) : Int) ≤ w ∧ w < ((bs p h 5 : Nat) : Int)
instance (p h : Nat) (w : Int) : Decidable (okP p h w) := by unfold okP; exact inferInstance
theorem okP_b {kk p cc h : Nat} (C : Cf kk p cc h) {w : Int} (ho : okP p h w) : 0 ≤ w ∧ w < ((bs p h 5 : Nat) : Int) ∧ bs p h 5 ≤ 35000 := by
  have hb := LG_b C
  have hh := C.h
  have hp := C.p
  unfold okP at ho
  rw [bs_2, bs_3, bs_4, bs_5] at ho
  rw [bs_5]
  omega
theorem bs5_b {kk p cc h : Nat} (C : Cf kk p cc h) : bs p h 5 ≤ 35000 := by
  have hb := LG_b C
  have hh := C.h
  have hp := C.p
  rw [bs_5]
  omega
end Go.Proofs.YtfhiplfagejfoaaDoor
namespace Go.Proofs.YtfhiplfagejfoaaDoor
open Go.Proofs.YtfhiplfagejfoaaDoor.K Go.ChangeShapes Go.WideShapes Go.ChangeAt Go.RowKit 
set_option maxRecDepth 100000
set_option linter.unusedSimpArgs false
set_option linter.unusedVariables false
def Lwlogmost : FnL := ⟨(.seq (.ops [oa 1 (.box (ot 0)),oa 2 (.mv (oi 0))])
 (.seq (.ops [oa 3 (.load true 3 (ot 1)),oa 4 (.call (.func 30) [(ot 3)]),oa 5 (.bin .sub (ot 4) (oi 1)),oa 6 (.bin .quo (ot 5) (oi 2)),om 2 6])
 .ret)),
 7, [.tmp 2]⟩
theorem lowwlogmost : lowerFn Tryd.prog Tryd.f47 = some Lwlogmost := by kernel_rfl
noncomputable def Gwlogmost (B : OH) : Nat → Cs
  | 30 => V11 B
  | _ => fun _ _ _ => none
theorem Gwlogmost_11 {B : OH} : Gwlogmost B 30 = V11 B := rfl
theorem sGwlogmost {w0 : World} {B : OH} : SoundG Tryd.prog w0 B { f := Gwlogmost B } := .of fun k => by
  unfold Gwlogmost
  split
  · exact .inr ⟨en11, sV11⟩
  · exact .inl fun _ _ _ => rfl
theorem enwlogmost : Enter Tryd.prog 47 := .of Tryd.func47 (by kernel_rfl) (by kernel_rfl)
noncomputable def Twlogmost (B : OH) : Cs := callF B { f := Gwlogmost B } 80 Lwlogmost
theorem sTwlogmost {w0 : World} {B : OH} : SoundC Tryd.prog w0 B 47 (Twlogmost B) := callF_sound mixedOrders sGwlogmost 80 Tryd.func47 lowwlogmost
noncomputable def Fwlogmost (B : OH) : List Value → Option Value := kval B (Twlogmost B)
noncomputable def Vwlogmost (B : OH) : Cs := fun a H N => pvE (Fwlogmost B a) H N
theorem Vwlogmost_eq {B : OH} {a : List Value} {H : HL} {N : St} : Vwlogmost B a H N = pvE (Fwlogmost B a) H N := rfl
theorem sVwlogmost {w0 : World} {B : OH} : SoundC Tryd.prog w0 B 47 (Vwlogmost B) := sTwlogmost.ofVal
theorem J16 : Said (an @Twlogmost.eq_1 <| an @Lwlogmost.eq_1 <| an @Gwlogmost_11 <| an @V11_eq <| trivial) := said_ok _
theorem fmost {B : OH} (hG : ∃ H N, good B H N) (hT : Tab B) {kk p cc h : Nat} (C : Cf kk p cc h) : Fwlogmost B [.agg #[.int .i64 (kk : Int), .int .i64 (p : Int), .int .i64 (cc : Int)]] = some (.int .i64 ((h + 2 * p : Nat) : Int)) := by
  refine kval_eq hG fun H N hN => ?_
  obtain ⟨hB, hR, hI⟩ := gX hN
  have e := f11c hG hT C
  have hb := LG_b C
  have a1 : (LG p h : Int) - 1 = ((h + 2 * p : Nat) : Int) * 2 := by unfold LG; omega
  have a2 : IntKind.i64.wrap ((LG p h : Int) - 1) = ((h + 2 * p : Nat) : Int) * 2 := by rw [IntWalk.i64_in _ (by omega), a1]
  have a3 : (((h + 2 * p : Nat) : Int) * 2).tdiv 2 = ((h + 2 * p : Nat) : Int) := Int.mul_tdiv_cancel _ (by omega)
  have a4 : IntKind.i64.wrap ((h + 2 * p : Nat) : Int) = ((h + 2 * p : Nat) : Int) := IntWalk.i64_in _ (by unfold LG at hb; omega)
  simp (disch := omega) only [J16, hB, hR, hI, e, a2, a3, a4, all1, ress, res1, retV, Value.cells, newsV_s, seval, eV]
  with_reducible refine done2 ?_
  repeat (first | refine ext_new hN ?_ | exact fun _ _ h => h)
def plV (p h : Nat) (w : Int) : Value := if okP p h w then .tuple #[.int .i64 w, .bool true] else .tuple #[.int .i64 0, .bool false]
theorem plV_y {p h : Nat} {w : Int} (H : okP p h w) : plV p h w = .tuple #[.int .i64 w, .bool true] := if_pos H
theorem plV_n {p h : Nat} {w : Int} (H : ¬ okP p h w) : plV p h w = .tuple #[.int .i64 0, .bool false] := if_neg H
theorem okP_part {kk p cc h : Nat} (C : Cf kk p cc h) {k w : Nat} (hk : k < 5) (h1 : bs p h k ≤ w) (h2 : w < bs p h (k + 1)) : okP p h w ↔ (k = 2 ∨ k = 4) := by
  have b0 : bs p h 0 = 0 := rfl
  have b1 := bs_1 (p := p) (h := h)
  have b2 := bs_2 (p := p) (h := h)
  have b3 := bs_3 (p := p) (h := h)
  have b4 := bs_4 (p := p) (h := h)
  have b5 := bs_5 (p := p) (h := h)
  have hh := C.h
  have hp := C.p
  unfold okP
  obtain rfl | rfl | rfl | rfl | rfl : k = 0 ∨ k = 1 ∨ k = 2 ∨ k = 3 ∨ k = 4 := by omega
  all_goals (simp only [Nat.zero_add, Nat.reduceAdd] at h1 h2; omega)
def LwlogPlace : FnL := ⟨(.seq (.ops [oa 2 (.box (ot 0)),oa 4 (.mv (oi 0)),oa 5 (.mv (.const (.bool false)))])
 (.seq (.seq (.ops [om 9 1,oa 10 (.load true 3 (ot 2)),oa 11 (.call (.func 41) [(ot 10)]),oa 12 (.conv .u64 (ot 11)),oa 13 (.bin .geq (ot 9) (ot 12))])
 (.cond (ot 13) (.seq (.ops [oa 4 (.mv (oi 0)),oa 5 (.mv (.const (.bool false)))])
 .ret)
 .skip))
 (.seq (.seq (.ops [oa 15 (.load true 3 (ot 2)),om 16 1,oa 17 (.conv .i64 (ot 16)),oa 18 (.call (.func 32) [(ot 15), (ot 17)]),om 14 18,oa 19 (.ext (ot 14) 0),oa 20 (.ext (ot 14) 1),oa 21 (.ext (ot 14) 2),om 6 19,om 7 20,om 8 21])
 (.seq (.ops [om 22 6])
 (.block 0 (.seq (.seq (.ops [oa 24 (.bin .eql (ot 22) (oi 2)),om 23 24])
 (.cond (ot 23) .skip
 (.ops [oa 25 (.bin .eql (ot 22) (oi 4)),om 23 25])))
 (.cond (ot 23) (.seq (.ops [om 26 1,oa 27 (.conv .i64 (ot 26)),om 4 27,oa 5 (.mv (.const (.bool true)))])
 .ret)
 .skip)))))
 (.seq (.ops [oa 4 (.mv (oi 0)),oa 5 (.mv (.const (.bool false)))])
 .ret)))),
 28, [.tmp 4, .tmp 5]⟩
theorem lowwlogPlace : lowerFn Tryd.prog Tryd.f14 = some LwlogPlace := by kernel_rfl
noncomputable def GwlogPlace (B : OH) : Nat → Cs
  | 41 => V7 B
  | 32 => V9 B
  | _ => fun _ _ _ => none
theorem GwlogPlace_7 {B : OH} : GwlogPlace B 41 = V7 B := rfl
theorem GwlogPlace_9 {B : OH} : GwlogPlace B 32 = V9 B := rfl
theorem sGwlogPlace {w0 : World} {B : OH} : SoundG Tryd.prog w0 B { f := GwlogPlace B } := .of fun k => by
  unfold GwlogPlace
  split
  · exact .inr ⟨en7, sV7⟩
  · exact .inr ⟨en9, sV9⟩
  · exact .inl fun _ _ _ => rfl
theorem enwlogPlace : Enter Tryd.prog 14 := .of Tryd.func14 (by kernel_rfl) (by kernel_rfl)
noncomputable def TwlogPlace (B : OH) : Cs := callF B { f := GwlogPlace B } 80 LwlogPlace
theorem sTwlogPlace {w0 : World} {B : OH} : SoundC Tryd.prog w0 B 14 (TwlogPlace B) := callF_sound mixedOrders sGwlogPlace 80 Tryd.func14 lowwlogPlace
noncomputable def FwlogPlace (B : OH) : List Value → Option Value := kval B (TwlogPlace B)
noncomputable def VwlogPlace (B : OH) : Cs := fun a H N => pvE (FwlogPlace B a) H N
theorem VwlogPlace_eq {B : OH} {a : List Value} {H : HL} {N : St} : VwlogPlace B a H N = pvE (FwlogPlace B a) H N := rfl
theorem sVwlogPlace {w0 : World} {B : OH} : SoundC Tryd.prog w0 B 14 (VwlogPlace B) := sTwlogPlace.ofVal
theorem J17 : Said (an @TwlogPlace.eq_1 <| an @LwlogPlace.eq_1 <| an @GwlogPlace_7 <| an @V7_eq <| an @GwlogPlace_9 <| an @V9_eq <| trivial) := said_ok _
set_option maxHeartbeats 1000000 in
theorem fPlace {B : OH} (hG : ∃ H N, good B H N) (hT : Tab B) {kk p cc h : Nat} (C : Cf kk p cc h) {w : Int} (hu : u64R w) : FwlogPlace B [.agg #[.int .i64 (kk : Int), .int .i64 (p : Int), .int .i64 (cc : Int)], .int .u64 w] = some (plV p h w) := by
  refine kval_eq hG fun H N hN => ?_
  obtain ⟨hB, hR, hI⟩ := gX hN
  have e := f7c hG hT C
  have hb5 := bs5_b C
  unfold u64R at hu
  have wz : IntKind.u64.wrap ((bs p h 5 : Nat) : Int) = ((bs p h 5 : Nat) : Int) := IntWalk.u64_in _ (by omega)
  by_cases hw : w ≥ ((bs p h 5 : Nat) : Int)
  · rw [plV_n (fun h => by have := okP_b C h; omega)]
    simp (disch := omega) only [J17, hB, hR, hI, e, wz, hw, all1, ress, res1, retV, Value.cells, newsV_s, seval, eV]
    with_reducible refine done2 ?_
    repeat (first | refine ext_new hN ?_ | exact fun _ _ h => h)
  obtain ⟨n, rfl⟩ : ∃ n : Nat, w = (n : Int) := ⟨w.toNat, by omega⟩
  have hn : n < bs p h 5 := by omega
  have wn : IntKind.i64.wrap (n : Int) = (n : Int) := IntWalk.i64_in _ (by omega)
  obtain ⟨k, o, hk, ho, h1, h2⟩ := has_part (p := p) C.h.1 5 hn
  have e9 := f9 hG hT C.k C.p C.c C.m hk ho h1 h2
  have hle : bs p h k ≤ n := by unfold fr at h1; omega
  have hlt : n < bs p h (k + 1) := by
    have := fr_lt (p := p) (h := h) ho (show Lt k o (k + 1) 0 from .inl (by omega))
    rw [fr_zero] at this; omega
  have hp := okP_part C hk hle hlt
  by_cases h24 : k = 2 ∨ k = 4
  · rw [plV_y (hp.2 h24)]
    rcases h24 with rfl | rfl
    · have c1 : (((2 : Nat) : Int) == 2) = true := rfl
      simp (disch := omega) only [J17, hB, hR, hI, e, e9, wz, hw, wn, c1, all1, ress, res1, retV, Value.cells, newsV_s, seval, eV]
      with_reducible refine done2 ?_
      repeat (first | refine ext_new hN ?_ | exact fun _ _ h => h)
    · have c1 : (((4 : Nat) : Int) == 2) = false := rfl
      have c2 : (((4 : Nat) : Int) == 4) = true := rfl
      simp (disch := omega) only [J17, hB, hR, hI, e, e9, wz, hw, wn, c1, c2, all1, ress, res1, retV, Value.cells, newsV_s, seval, eV]
      with_reducible refine done2 ?_
      repeat (first | refine ext_new hN ?_ | exact fun _ _ h => h)
  · rw [plV_n (fun h => h24 (hp.1 h))]
    have c1 : ((k : Int) == 2) = false := beqI (by omega)
    have c2 : ((k : Int) == 4) = false := beqI (by omega)
    simp (disch := omega) only [J17, hB, hR, hI, e, e9, wz, hw, wn, c1, c2, all1, ress, res1, retV, Value.cells, newsV_s, seval, eV]
    with_reducible refine done2 ?_
    repeat (first | refine ext_new hN ?_ | exact fun _ _ h => h)
def Lwlogcaught : FnC := ⟨(some 5), (.block 0 (.seq (.ops [oa 7 (.isn false (ot 5))])
 (.cond (ot 7) (.ops [om 2 5])
 (.seq (.ops [oa 8 (.tass 105 (.agg #[(.int .i64 0)]) (ot 5)),oa 9 (.ext (ot 8) 1),oa 10 (.ext (ot 8) 0)])
 (.cond (ot 9) (.seq (.ops [oa 3 (.alloc [(.int .i64 0)]), oc (.store 1 (ot 3) (ot 10))])
 (.ops [om 11 0,og 12 0 3,ol 13 12,oa 14 (.nilck (ot 11)), oc (.store 1 (ot 14) (ot 13))]))
 (.seq (.ops [om 4 5])
 (.ops [om 6 4, oc (.pan (ot 6))]))))))),
 15,[]⟩
theorem lowwlogcaught : lowerCaught Tryd.prog Tryd.f43 = some Lwlogcaught := by kernel_rfl
noncomputable def Gwlogcaught (B : OH) : Nat → Cs
  | _ => fun _ _ _ => none
theorem sGwlogcaught {w0 : World} {B : OH} : SoundG Tryd.prog w0 B { f := Gwlogcaught B } := .of fun k => by
  unfold Gwlogcaught
  split
  · exact .inl fun _ _ _ => rfl
noncomputable def Uwlogcaught (B : OH) : Ds := callC B { f := Gwlogcaught B } 80 Lwlogcaught
theorem enwlogcaught : Enter Tryd.prog 43 := .of Tryd.func43 (by kernel_rfl) (by kernel_rfl)
theorem sUwlogcaught {w0 : World} {B : OH} : SoundD Tryd.prog w0 B 43 (Uwlogcaught B) := callC_sound mixedOrders sGwlogcaught 80 Tryd.func43 lowwlogcaught
def Lwlogwant : FnL := ⟨(.seq (.ops [om 4 0,oa 5 (.un .not (ot 4))])
 (.cond (ot 5) (.ops [om 6 1,oa 7 (.build [(.int .i64 0)] [(0, 1, (ot 6))]),oa 8 (.ifc 105 (ot 7)), oc (.pan (ot 8))])
 .skip)),
 9,[]⟩
theorem lowwlogwant : lowerFn Tryd.prog Tryd.f44 = some Lwlogwant := by kernel_rfl
noncomputable def Gwlogwant (B : OH) : Nat → Cs
  | _ => fun _ _ _ => none
theorem sGwlogwant {w0 : World} {B : OH} : SoundG Tryd.prog w0 B { f := Gwlogwant B } := .of fun k => by
  unfold Gwlogwant
  split
  · exact .inl fun _ _ _ => rfl
theorem enwlogwant : Enter Tryd.prog 44 := .of Tryd.func44 (by kernel_rfl) (by kernel_rfl)
noncomputable def Twlogwant (B : OH) : Cs := callF B { f := Gwlogwant B } 80 Lwlogwant
theorem sTwlogwant {w0 : World} {B : OH} : SoundC Tryd.prog w0 B 44 (Twlogwant B) := callF_sound mixedOrders sGwlogwant 80 Tryd.func44 lowwlogwant
noncomputable def Vwlogwant (B : OH) : Cs := Twlogwant B
theorem sVwlogwant {w0 : World} {B : OH} : SoundC Tryd.prog w0 B 44 (Vwlogwant B) := sTwlogwant
def spV (p h : Nat) (q i : Int) : Value :=
  if (0 ≤ q ∧ q < (p : Int)) ∧ (0 ≤ i ∧ i < ((h + 2 * p : Nat) : Int)) then .tuple #[.int .i64 (((bs p h 3 + LG p h * q.toNat : Nat) : Int) + 1 + 2 * i), .int .i64 (((bs p h 3 + LG p h * q.toNat : Nat) : Int) + 2 + 2 * i), .int .i64 0]
  else .tuple #[.int .i64 0, .int .i64 0, .int .i64 1]
theorem lgq_b {kk p cc h q : Nat} (C : Cf kk p cc h) (hq : q < p) : bs p h 3 + LG p h * q + LG p h ≤ bs p h 4 := by
  have h2 : LG p h * (q + 1) ≤ LG p h * p := Nat.mul_le_mul_left _ (by omega)
  rw [Nat.mul_succ] at h2
  rw [bs_3, bs_4]; omega
theorem bs4_5 {p h : Nat} : bs p h 4 + h = bs p h 5 := by rw [bs_4, bs_5]
def LwlogSpot : FnD := ⟨(.ops [oa 3 (.box (ot 0)),oa 6 (.mv (oi 0)),oa 7 (.mv (oi 0)),oa 8 (.alloc [(.int .i64 0)])]), 43, [(ot 8)],(.seq (.ops [oa 10 (.load true 3 (ot 3)),oa 11 (.call (.func 45) [(ot 10)]),oa 12 (.call (.func 44) [(ot 11), (oi 5)])])
 (.seq (.ops [oa 14 (.load true 3 (ot 3)),om 15 1,oa 16 (.call (.func 31) [(ot 14), (oi 3), (ot 15)]),om 13 16,oa 17 (.ext (ot 13) 0),oa 18 (.ext (ot 13) 1),om 9 17, oc (.store 1 (ot 8) (ot 18))])
 (.seq (.ops [ol 19 8,oa 20 (.bin .eql (ot 19) (oi 0)),om 21 20,ob 22 (.mv (ot 2)) 21 true,ob 23 (.bin .geq (ot 22) (oi 0)) 21 true,oa 24 (.pick (ot 21) (ot 23) (.const (.bool false))),om 25 24,ob 26 (.mv (ot 2)) 25 true,ob 27 (.load true 3 (ot 3)) 25 true,ob 28 (.call (.func 47) [(ot 27)]) 25 true,ob 29 (.bin .lss (ot 26) (ot 28)) 25 true,oa 30 (.pick (ot 25) (ot 29) (.const (.bool false))),oa 31 (.call (.func 44) [(ot 30), (oi 1)])])
 (.seq (.ops [om 32 9,oa 33 (.bin .add (ot 32) (oi 1)),om 34 2,oa 35 (.bin .mul (oi 2) (ot 34)),oa 36 (.bin .add (ot 33) (ot 35)),om 37 9,oa 38 (.bin .add (ot 37) (oi 2)),om 39 2,oa 40 (.bin .mul (oi 2) (ot 39)),oa 41 (.bin .add (ot 38) (ot 40)),om 6 36,om 7 41, oc (.store 1 (ot 8) (oi 0))])
 .ret)))),
 42, [.tmp 6, .tmp 7, .cell 8 false 1]⟩
theorem lowwlogSpot : lowerDfr Tryd.prog Tryd.f21 = some LwlogSpot := by kernel_rfl
noncomputable def GwlogSpot (B : OH) : Nat → Cs
  | 31 => V10 B
  | 45 => V13 B
  | 47 => Vwlogmost B
  | 44 => Vwlogwant B
  | _ => fun _ _ _ => none
theorem GwlogSpot_10 {B : OH} : GwlogSpot B 31 = V10 B := rfl
theorem GwlogSpot_13 {B : OH} : GwlogSpot B 45 = V13 B := rfl
theorem GwlogSpot_wlogmost {B : OH} : GwlogSpot B 47 = Vwlogmost B := rfl
theorem GwlogSpot_wlogwant {B : OH} : GwlogSpot B 44 = Vwlogwant B := rfl
theorem sGwlogSpot {w0 : World} {B : OH} : SoundG Tryd.prog w0 B { f := GwlogSpot B } := .of fun k => by
  unfold GwlogSpot
  split
  · exact .inr ⟨en10, sV10⟩
  · exact .inr ⟨en13, sV13⟩
  · exact .inr ⟨enwlogmost, sVwlogmost⟩
  · exact .inr ⟨enwlogwant, sVwlogwant⟩
  · exact .inl fun _ _ _ => rfl
theorem enwlogSpot : Enter Tryd.prog 21 := .of Tryd.func21 (by kernel_rfl) (by kernel_rfl)
noncomputable def DwlogSpot (B : OH) : Nat → Ds
  | 43 => Uwlogcaught B
  | _ => fun _ _ _ _ => none
theorem DwlogSpot_wlogcaught {B : OH} : DwlogSpot B 43 = Uwlogcaught B := rfl
noncomputable def TwlogSpot (B : OH) : Cs := callD B { f := GwlogSpot B } (DwlogSpot B) 80 LwlogSpot
theorem sTwlogSpot {w0 : World} {B : OH} : SoundC Tryd.prog w0 B 21 (TwlogSpot B) := callD_sound mixedOrders sGwlogSpot 80 Tryd.func21 lowwlogSpot enwlogcaught sUwlogcaught
noncomputable def FwlogSpot (B : OH) : List Value → Option Value := kval B (TwlogSpot B)
noncomputable def VwlogSpot (B : OH) : Cs := fun a H N => pvE (FwlogSpot B a) H N
theorem VwlogSpot_eq {B : OH} {a : List Value} {H : HL} {N : St} : VwlogSpot B a H N = pvE (FwlogSpot B a) H N := rfl
theorem sVwlogSpot {w0 : World} {B : OH} : SoundC Tryd.prog w0 B 21 (VwlogSpot B) := sTwlogSpot.ofVal
theorem J18 : Said (an @TwlogSpot.eq_1 <| an @LwlogSpot.eq_1 <| an @GwlogSpot_10 <| an @V10_eq <| an @GwlogSpot_13 <| an @V13_eq <| an @GwlogSpot_wlogmost <| an @Vwlogmost_eq <| an @GwlogSpot_wlogwant <| an @Vwlogwant.eq_1 <| an @Twlogwant.eq_1 <| an @Lwlogwant.eq_1 <| an @DwlogSpot_wlogcaught <| an @Uwlogcaught.eq_1 <| an @Lwlogcaught.eq_1 <| trivial) := said_ok _
set_option maxHeartbeats 2000000 in
theorem fSpot {B : OH} (hG : ∃ H N, good B H N) (hT : Tab B) {kk p cc h : Nat} (C : Cf kk p cc h) (q i : Int) : FwlogSpot B [.agg #[.int .i64 (kk : Int), .int .i64 (p : Int), .int .i64 (cc : Int)], .int .i64 q, .int .i64 i] = some (spV p h q i) := by
  refine kval_eq hG fun H N hN => ?_
  obtain ⟨hB, hR, hI⟩ := gX hN
  have e1 := f13 hG kk p cc (cfit C).1 (cfit C).2.1 (cfit C).2.2
  have e2 := fmost hG hT C
  unfold spV
  by_cases hq : 0 ≤ q ∧ q < (p : Int)
  · obtain ⟨n, rfl⟩ : ∃ n : Nat, q = (n : Int) := ⟨q.toNat, by omega⟩
    have e3 := f10c3 hG hT C (q := n) (by omega)
    have hb := lgq_b C (q := n) (by omega)
    have hb5 := bs5_b C
    have h45 := bs4_5 (p := p) (h := h)
    have hl := LG_b C
    rw [Int.toNat_natCast]
    generalize hX : bs p h 3 + LG p h * n = X at *
    by_cases c1 : i ≥ 0
    · by_cases c2 : i < ((h + 2 * p : Nat) : Int)
      · rw [if_pos ⟨hq, c1, c2⟩]
        have c3 : i ≤ 2117 := by unfold LG at hl; omega
        simp (disch := omega) only [J18, hB, hR, hI, e1, e2, e3, c1, c2, all1, ress, res1, retV, Value.cells, newsV_s, seval, eV]
        with_reducible refine done2 ?_
        repeat (first | refine ext_new hN ?_ | exact fun _ _ h => h)
      · rw [if_neg (fun h => c2 h.2.2)]
        simp (disch := omega) only [J18, hB, hR, hI, e1, e2, e3, c1, c2, all1, ress, res1, retV, Value.cells, newsV_s, seval, eV]
        with_reducible refine done2 ?_
        repeat (first | refine ext_new hN ?_ | exact fun _ _ h => h)
    · rw [if_neg (fun h => c1 h.2.1)]
      simp (disch := omega) only [J18, hB, hR, hI, e1, e2, e3, c1, all1, ress, res1, retV, Value.cells, newsV_s, seval, eV]
      with_reducible refine done2 ?_
      repeat (first | refine ext_new hN ?_ | exact fun _ _ h => h)
  · rw [if_neg (fun h => hq h.1)]
    have e3 := f10o hG C q (by omega)
    have c1 : ((1 : Int) == 0) = false := rfl
    simp (disch := omega) only [J18, hB, hR, hI, e1, e2, e3, c1, all1, ress, res1, retV, Value.cells, newsV_s, seval, eV]
    with_reducible refine done2 ?_
    repeat (first | refine ext_new hN ?_ | exact fun _ _ h => h)
end Go.Proofs.YtfhiplfagejfoaaDoor
namespace Go.Proofs.YtfhiplfagejfoaaDoor
open Go.Proofs.YtfhiplfagejfoaaDoor.K Go.ChangeShapes Go.WideShapes Go.ChangeAt Go.RowKit 
set_option maxRecDepth 100000
set_option linter.unusedSimpArgs false
set_option linter.unusedVariables false
structure C2 where
  w : Int
  l : Int
  deriving DecidableEq
def c2 (x : C2) : List Value := [.int .u64 x.w, .int .i64 x.l]
def z2 : C2 := ⟨0, 0⟩
structure W2 where
  a : Int
  w : Int
  deriving DecidableEq
def w2 (x : W2) : List Value := [.int .i64 x.a, .int .u64 x.w]
def y2 : W2 := ⟨0, 0⟩
def w1 (x : Int) : List Value := [.int .u64 x]
theorem c2_len (x : C2) : (c2 x).length = 2 := rfl
theorem w2_len (x : W2) : (w2 x).length = 2 := rfl
theorem w1_len (x : Int) : (w1 x).length = 1 := rfl
theorem all1_c2 (L : List C2) : all1 (fl c2 L) = true := by
  induction L with
  | nil => rfl
  | cons a L ih => exact ih
theorem all1_w1 (L : List Int) : all1 (fl w1 L) = true := by
  induction L with
  | nil => rfl
  | cons a L ih => exact ih
theorem rep_c2 (n : Nat) : (List.replicate n [Value.int .u64 0, .int .i64 0]).flatten = fl c2 (List.replicate n z2) := by
  induction n with
  | zero => rfl
  | succ n ih => rw [List.replicate_succ, List.replicate_succ, List.flatten_cons, ih]; rfl
theorem rep_w1 (n : Nat) : (List.replicate n [Value.int .u64 0]).flatten = fl w1 (List.replicate n 0) := by
  induction n with
  | zero => rfl
  | succ n ih => rw [List.replicate_succ, List.replicate_succ, List.flatten_cons, ih]; rfl
theorem SlR.read {α : Type} {f : α → List Value} {sz : Nat} {B : OH} {H H' : HL} {L : List α} {b o : Nat} (h : ∀ H', Fr H H' → ∀ i j n d, i < L.length → j + n ≤ sz → rdO H' B b (o + i * sz + j) n (rdB B b (o + i * sz + j) n) = tk (f (L.getD i d)) j n) (hf : ∀ a, (f a).length = sz) (hF : Fr H H') {i : Nat} (d : α) (hi : i < L.length) : rdO H' B b (o + i * sz) sz (rdB B b (o + i * sz) sz) = some (f (L.getD i d)) := by
  have := h H' hF i 0 sz d hi (by omega)
  rw [Nat.add_zero] at this
  rw [this]; exact tk_all _ _ (hf _).symm
theorem neW {a b : W2} (he : ¬ a = b) : ((a.a == b.a) && (a.w == b.w)) = false := by
  obtain ⟨aw, al⟩ := a
  obtain ⟨bw, bl⟩ := b
  simp only [W2.mk.injEq] at he
  by_cases h : aw = bw
  · have : ¬ al = bl := fun h' => he ⟨h, h'⟩
    simp [beqI this]
  · simp [beqI h]
def Lref10Words : FnL := ⟨(.seq (.ops [oa 4 (.mv (.const (.bool false)))])
 (.seq (.seq (.ops [om 6 0,oa 7 (.len false (ot 6)),om 8 1,oa 9 (.len false (ot 8)),oa 10 (.bin .neq (ot 7) (ot 9))])
 (.cond (ot 10) (.seq (.ops [oa 4 (.mv (.const (.bool false)))])
 .ret)
 .skip))
 (.seq (.seq (.ops [oa 5 (.mv (oi 0))])
 (.block 0 (.loop (.seq (.seq (.ops [om 11 5,om 12 0,oa 13 (.len false (ot 12)),oa 14 (.bin .lss (ot 11) (ot 13))])
 (.cond (ot 14) .skip
 (.exit 0)))
 (.seq (.block 1 (.seq (.draw [pm 17 0,pm 18 5,oe 19 (.iaddrS 1 (ot 17) (ot 18)),pl 20 19,pm 21 1,pm 22 5,oe 23 (.iaddrS 1 (ot 21) (ot 22)),pl 24 23,oe 25 (.bin .neq (ot 20) (ot 24))])
 (.cond (ot 25) (.seq (.ops [oa 4 (.mv (.const (.bool false)))])
 .ret)
 .skip)))
 (.ops [om 15 5,oa 16 (.bin .add (ot 15) (oi 1)),om 5 16]))))))
 (.seq (.ops [oa 4 (.mv (.const (.bool true)))])
 .ret)))),
 26, [.tmp 4]⟩
theorem lowref10Words : lowerFn Tryd.prog Tryd.f17 = some Lref10Words := by kernel_rfl
noncomputable def Gref10Words (B : OH) : Nat → Cs
  | _ => fun _ _ _ => none
theorem sGref10Words {w0 : World} {B : OH} : SoundG Tryd.prog w0 B { f := Gref10Words B } := .of fun k => by
  unfold Gref10Words
  split
  · exact .inl fun _ _ _ => rfl
theorem enref10Words : Enter Tryd.prog 17 := .of Tryd.func17 (by kernel_rfl) (by kernel_rfl)
noncomputable def Tref10Words (B : OH) : Cs := callF B { f := Gref10Words B } 1000000 Lref10Words
theorem sTref10Words {w0 : World} {B : OH} : SoundC Tryd.prog w0 B 17 (Tref10Words B) := callF_sound mixedOrders sGref10Words 1000000 Tryd.func17 lowref10Words
noncomputable def Vref10Words (B : OH) : Cs := Tref10Words B
theorem sVref10Words {w0 : World} {B : OH} : SoundC Tryd.prog w0 B 17 (Vref10Words B) := sTref10Words
structure Kref10Words (v w : Value) (n i : Nat) (ts : List Value) : Prop where
  l : ts.length = 26
  t0 : gt ts 0 = v
  t1 : gt ts 1 = w
  t5 : gt ts 5 = .int .i64 (i : Int)
theorem J19 : Said (an @Tref10Words.eq_1 <| an @Lref10Words.eq_1 <| trivial) := said_ok _
set_option maxHeartbeats 4000000 in
theorem sameref10Words {B : OH} {H : HL} {N : St} {v w : Value} {L M : List Int} (hN : good B H N) (hv : SlR w1 1 B H v L) (hw : SlR w1 1 B H w M) (hL : L.length ≤ 900000) : Vref10Words B [v, w] H N = some (.ret (.bool (decide (L = M))), H, N) := by
  obtain ⟨hB, hR, hI⟩ := gX hN
  have hlv := hv.len
  have hlw := hw.len
  unfold Vref10Words
  by_cases hl : L.length = M.length
  case neg =>
    have hl' : ((L.length : Int) != (M.length : Int)) = true := by simp; omega
    have hd : decide (L = M) = false := decide_eq_false fun h => hl (by rw [h])
    rw [hd]
    simp (disch := omega) only [J19, hB, hR, hI, hlv, hlw, hl', all1, ress, res1, retV, Value.cells, newsV_s, seval, eV]
  have hl' : ((L.length : Int) != (M.length : Int)) = false := by simp; omega
  simp (disch := omega) only [J19, hB, hR, hI, hlv, hlw, hl', all1, ress, res1, retV, Value.cells, newsV_s, seval, eV]
  generalize hX : exec B _ _ (LC.loop _) _ = o
  have hO : Ok o (fun x s => s.H = H ∧ s.N = N ∧ s.t.length = 26 ∧ ((x = .exit 0 ∧ L = M) ∨ (x = .ret ∧ gt s.t 4 = .bool false ∧ L ≠ M))) := by
    rw [← hX]
    refine loop_rule (n0 := 60) (fun k s => ∃ ts, ∃ i : Nat, s = ⟨ts, H, N⟩ ∧ Kref10Words v w L.length i ts ∧ (∀ q, q < i → L.getD q 0 = M.getD q 0) ∧ i ≤ L.length ∧ k = L.length - i) _ ?_ L.length _ ⟨_, 0, rfl, ⟨rfl, rfl, rfl, rfl⟩, fun q hq => by omega, by omega, rfl⟩ _ (by omega)
    rintro n k s ⟨ts, i, rfl, kp, hq, hi, rfl⟩
    have hc1 : ((i + 1 : Nat) : Int) = (i : Int) + 1 := by omega
    by_cases h : i < L.length
    · have h' : (i : Int) < (L.length : Int) := by omega
      have hm' : i < M.length := by omega
      have i0 : (0 : Int) ≤ (i : Int) := by omega
      obtain ⟨bv, ov, cv, rfl, _, rv⟩ := hv.at (by omega)
      obtain ⟨bw, ow, cw, rfl, _, rw'⟩ := hw.at (by omega)
      have rv := SlR.read rv w1_len (Fr.refl (H := H)) 0 h
      have rw' := SlR.read rw' w1_len (Fr.refl (H := H)) 0 hm'
      by_cases he : L.getD i 0 = M.getD i 0
      · rw [← he] at rw'
        generalize L.getD i 0 = a at rv rw'
        simp only [w1, Nat.mul_one] at rv rw'
        simp (disch := omega) only [J19, hB, hR, hI, kp.l, kp.t0, kp.t1, kp.t5, h', h, hm', i0, hlv, hlw, rv, rw', Nat.mul_one, bne_self_eq_false, all1, ress, res1, retV, Value.cells, newsV_s, seval, eV]
        refine ok_some (.inl ⟨rfl, L.length - (i + 1), by omega, _, i + 1, rfl, ⟨?_, ?_, ?_, ?_⟩, fun q hq' => ?_, by omega, rfl⟩)
        rotate_right
        · rcases Nat.lt_or_ge q i with h1 | h1
          · exact hq q h1
          · obtain rfl : q = i := by omega
            exact he
        all_goals simp (disch := omega) only [kp.l, kp.t0, kp.t1, kp.t5, hc1, Int.cast_ofNat_Int, decide_true, ev2, seval, ev5]
      · have hne : L ≠ M := fun e => he (by rw [e])
        generalize L.getD i 0 = a at rv he
        generalize M.getD i 0 = b at rw' he
        have hab : (a != b) = true := by simpa using he
        simp only [w1, Nat.mul_one] at rv rw'
        simp (disch := omega) only [J19, hB, hR, hI, kp.l, kp.t0, kp.t1, kp.t5, h', h, hm', i0, hlv, hlw, rv, rw', hab, Nat.mul_one, all1, ress, res1, retV, Value.cells, newsV_s, seval, eV]
        refine ok_some (.inr ⟨by simp, rfl, rfl, ?_, .inr ⟨rfl, ?_, hne⟩⟩)
        all_goals simp (disch := omega) only [kp.l, kp.t0, kp.t1, kp.t5, Int.cast_ofNat_Int, decide_true, ev2, seval, ev5]
    · simp (disch := omega) only [J19, hB, hR, hI, kp.l, kp.t0, kp.t1, kp.t5, h, show ¬ (i : Int) < (L.length : Int) by omega, hlv, all1, ress, res1, retV, Value.cells, newsV_s, seval, eV]
      refine ok_some (.inr ⟨by simp, rfl, rfl, ?_, .inl ⟨rfl, ?_⟩⟩)
      · simp (disch := omega) only [J19, hB, hR, hI, kp.l, kp.t0, kp.t1, kp.t5, all1, ress, res1, retV, Value.cells, newsV_s, seval, eV]
      · refine List.ext_getElem? fun q => ?_
        rcases Nat.lt_or_ge q i with h1 | h1
        · rw [some_getD (d := 0) (by omega : q < L.length), some_getD (d := 0) (by omega : q < M.length), hq q h1]
        · rw [List.getElem?_eq_none (by omega), List.getElem?_eq_none (by omega)]
  obtain ⟨x, ⟨ts, H1, N1⟩, rfl, rfl, rfl, hl2, hr⟩ := hO
  simp only at hl2
  rcases hr with ⟨rfl, he⟩ | ⟨rfl, h4, hne⟩
  · rw [decide_eq_true he]
    simp (disch := omega) only [J19, hB, hR, hI, hl2, all1, ress, res1, retV, Value.cells, newsV_s, seval, eV]
  · rw [decide_eq_false hne]
    simp only at h4
    simp (disch := omega) only [J19, hB, hR, hI, hl2, h4, all1, ress, res1, retV, Value.cells, newsV_s, seval, eV]
def LsEq : FnL := ⟨(.seq (.ops [oa 4 (.mv (.const (.bool false)))])
 (.seq (.seq (.ops [om 6 0,oa 7 (.len false (ot 6)),om 8 1,oa 9 (.len false (ot 8)),oa 10 (.bin .neq (ot 7) (ot 9))])
 (.cond (ot 10) (.seq (.ops [oa 4 (.mv (.const (.bool false)))])
 .ret)
 .skip))
 (.seq (.seq (.ops [om 11 0,oa 12 (.len false (ot 11)),oa 13 (.mv (oi 0))])
 (.block 0 (.loop (.seq (.ops [oa 14 (.bin .lss (ot 13) (ot 12))])
 (.seq (.cond (ot 14) .skip
 (.exit 0))
 (.seq (.block 1 (.seq (.ops [om 15 13,om 5 15])
 (.seq (.draw [pm 16 0,pm 17 5,oe 18 (.iaddrS 1 (ot 16) (ot 17)),pl 19 18,pm 20 1,pm 21 5,oe 22 (.iaddrS 1 (ot 20) (ot 21)),pl 23 22,oe 24 (.bin .neq (ot 19) (ot 23))])
 (.cond (ot 24) (.seq (.ops [oa 4 (.mv (.const (.bool false)))])
 .ret)
 .skip))))
 (.ops [oa 25 (.bin .add (ot 13) (oi 1)),om 13 25])))))))
 (.seq (.ops [oa 4 (.mv (.const (.bool true)))])
 .ret)))),
 26, [.tmp 4]⟩
theorem lowsEq : lowerFn Tryd.prog Tryd.f48 = some LsEq := by kernel_rfl
noncomputable def GsEq (B : OH) : Nat → Cs
  | _ => fun _ _ _ => none
theorem sGsEq {w0 : World} {B : OH} : SoundG Tryd.prog w0 B { f := GsEq B } := .of fun k => by
  unfold GsEq
  split
  · exact .inl fun _ _ _ => rfl
theorem ensEq : Enter Tryd.prog 48 := .of Tryd.func48 (by kernel_rfl) (by kernel_rfl)
noncomputable def TsEq (B : OH) : Cs := callF B { f := GsEq B } 1000000 LsEq
theorem sTsEq {w0 : World} {B : OH} : SoundC Tryd.prog w0 B 48 (TsEq B) := callF_sound mixedOrders sGsEq 1000000 Tryd.func48 lowsEq
noncomputable def VsEq (B : OH) : Cs := TsEq B
theorem sVsEq {w0 : World} {B : OH} : SoundC Tryd.prog w0 B 48 (VsEq B) := sTsEq
structure KsEq (v w : Value) (n i : Nat) (ts : List Value) : Prop where
  l : ts.length = 26
  t0 : gt ts 0 = v
  t1 : gt ts 1 = w
  t11 : gt ts 11 = v
  t12 : gt ts 12 = .int .i64 (n : Int)
  t13 : gt ts 13 = .int .i64 (i : Int)
theorem J20 : Said (an @TsEq.eq_1 <| an @LsEq.eq_1 <| trivial) := said_ok _
set_option maxHeartbeats 4000000 in
theorem samesEq {B : OH} {H : HL} {N : St} {v w : Value} {L M : List Int} (hN : good B H N) (hv : SlR w1 1 B H v L) (hw : SlR w1 1 B H w M) (hL : L.length ≤ 900000) : VsEq B [v, w] H N = some (.ret (.bool (decide (L = M))), H, N) := by
  obtain ⟨hB, hR, hI⟩ := gX hN
  have hlv := hv.len
  have hlw := hw.len
  unfold VsEq
  by_cases hl : L.length = M.length
  case neg =>
    have hl' : ((L.length : Int) != (M.length : Int)) = true := by simp; omega
    have hd : decide (L = M) = false := decide_eq_false fun h => hl (by rw [h])
    rw [hd]
    simp (disch := omega) only [J20, hB, hR, hI, hlv, hlw, hl', all1, ress, res1, retV, Value.cells, newsV_s, seval, eV]
  have hl' : ((L.length : Int) != (M.length : Int)) = false := by simp; omega
  simp (disch := omega) only [J20, hB, hR, hI, hlv, hlw, hl', all1, ress, res1, retV, Value.cells, newsV_s, seval, eV]
  generalize hX : exec B _ _ (LC.loop _) _ = o
  have hO : Ok o (fun x s => s.H = H ∧ s.N = N ∧ s.t.length = 26 ∧ ((x = .exit 0 ∧ L = M) ∨ (x = .ret ∧ gt s.t 4 = .bool false ∧ L ≠ M))) := by
    rw [← hX]
    refine loop_rule (n0 := 60) (fun k s => ∃ ts, ∃ i : Nat, s = ⟨ts, H, N⟩ ∧ KsEq v w L.length i ts ∧ (∀ q, q < i → L.getD q 0 = M.getD q 0) ∧ i ≤ L.length ∧ k = L.length - i) _ ?_ L.length _ ⟨_, 0, rfl, ⟨rfl, rfl, rfl, rfl, rfl, rfl⟩, fun q hq => by omega, by omega, rfl⟩ _ (by omega)
    rintro n k s ⟨ts, i, rfl, kp, hq, hi, rfl⟩
    have hc1 : ((i + 1 : Nat) : Int) = (i : Int) + 1 := by omega
    by_cases h : i < L.length
    · have h' : (i : Int) < (L.length : Int) := by omega
      have hm' : i < M.length := by omega
      have i0 : (0 : Int) ≤ (i : Int) := by omega
      obtain ⟨bv, ov, cv, rfl, _, rv⟩ := hv.at (by omega)
      obtain ⟨bw, ow, cw, rfl, _, rw'⟩ := hw.at (by omega)
      have rv := SlR.read rv w1_len (Fr.refl (H := H)) 0 h
      have rw' := SlR.read rw' w1_len (Fr.refl (H := H)) 0 hm'
      by_cases he : L.getD i 0 = M.getD i 0
      · rw [← he] at rw'
        generalize L.getD i 0 = a at rv rw'
        simp only [w1, Nat.mul_one] at rv rw'
        simp (disch := omega) only [J20, hB, hR, hI, kp.l, kp.t0, kp.t1, kp.t11, kp.t12, kp.t13, h', h, hm', i0, hlv, hlw, rv, rw', Nat.mul_one, bne_self_eq_false, all1, ress, res1, retV, Value.cells, newsV_s, seval, eV]
        refine ok_some (.inl ⟨rfl, L.length - (i + 1), by omega, _, i + 1, rfl, ⟨?_, ?_, ?_, ?_, ?_, ?_⟩, fun q hq' => ?_, by omega, rfl⟩)
        rotate_right
        · rcases Nat.lt_or_ge q i with h1 | h1
          · exact hq q h1
          · obtain rfl : q = i := by omega
            exact he
        all_goals simp (disch := omega) only [kp.l, kp.t0, kp.t1, kp.t11, kp.t12, kp.t13, hc1, Int.cast_ofNat_Int, decide_true, ev2, seval, ev5]
      · have hne : L ≠ M := fun e => he (by rw [e])
        generalize L.getD i 0 = a at rv he
        generalize M.getD i 0 = b at rw' he
        have hab : (a != b) = true := by simpa using he
        simp only [w1, Nat.mul_one] at rv rw'
        simp (disch := omega) only [J20, hB, hR, hI, kp.l, kp.t0, kp.t1, kp.t11, kp.t12, kp.t13, h', h, hm', i0, hlv, hlw, rv, rw', hab, Nat.mul_one, all1, ress, res1, retV, Value.cells, newsV_s, seval, eV]
        refine ok_some (.inr ⟨by simp, rfl, rfl, ?_, .inr ⟨rfl, ?_, hne⟩⟩)
        all_goals simp (disch := omega) only [kp.l, kp.t0, kp.t1, kp.t11, kp.t12, kp.t13, Int.cast_ofNat_Int, decide_true, ev2, seval, ev5]
    · simp (disch := omega) only [J20, hB, hR, hI, kp.l, kp.t0, kp.t1, kp.t11, kp.t12, kp.t13, h, show ¬ (i : Int) < (L.length : Int) by omega, hlv, all1, ress, res1, retV, Value.cells, newsV_s, seval, eV]
      refine ok_some (.inr ⟨by simp, rfl, rfl, ?_, .inl ⟨rfl, ?_⟩⟩)
      · simp (disch := omega) only [J20, hB, hR, hI, kp.l, kp.t0, kp.t1, kp.t11, kp.t12, kp.t13, all1, ress, res1, retV, Value.cells, newsV_s, seval, eV]
      · refine List.ext_getElem? fun q => ?_
        rcases Nat.lt_or_ge q i with h1 | h1
        · rw [some_getD (d := 0) (by omega : q < L.length), some_getD (d := 0) (by omega : q < M.length), hq q h1]
        · rw [List.getElem?_eq_none (by omega), List.getElem?_eq_none (by omega)]
  obtain ⟨x, ⟨ts, H1, N1⟩, rfl, rfl, rfl, hl2, hr⟩ := hO
  simp only at hl2
  rcases hr with ⟨rfl, he⟩ | ⟨rfl, h4, hne⟩
  · rw [decide_eq_true he]
    simp (disch := omega) only [J20, hB, hR, hI, hl2, all1, ress, res1, retV, Value.cells, newsV_s, seval, eV]
  · rw [decide_eq_false hne]
    simp only at h4
    simp (disch := omega) only [J20, hB, hR, hI, hl2, h4, all1, ress, res1, retV, Value.cells, newsV_s, seval, eV]
def Lref05Writes : FnL := ⟨(.seq (.ops [oa 4 (.mv (.const (.bool false)))])
 (.seq (.seq (.ops [om 6 0,oa 7 (.len false (ot 6)),om 8 1,oa 9 (.len false (ot 8)),oa 10 (.bin .neq (ot 7) (ot 9))])
 (.cond (ot 10) (.seq (.ops [oa 4 (.mv (.const (.bool false)))])
 .ret)
 .skip))
 (.seq (.seq (.ops [oa 5 (.mv (oi 0))])
 (.block 0 (.loop (.seq (.seq (.ops [om 11 5,om 12 0,oa 13 (.len false (ot 12)),oa 14 (.bin .lss (ot 11) (ot 13))])
 (.cond (ot 14) .skip
 (.exit 0)))
 (.seq (.block 1 (.seq (.draw [pm 17 0,pm 18 5,oe 19 (.iaddrS 2 (ot 17) (ot 18)),oe 20 (.load true 2 (ot 19)),pm 21 1,pm 22 5,oe 23 (.iaddrS 2 (ot 21) (ot 22)),oe 24 (.load true 2 (ot 23)),oe 25 (.eqA true [.int, .int] (ot 20) (ot 24))])
 (.cond (ot 25) (.seq (.ops [oa 4 (.mv (.const (.bool false)))])
 .ret)
 .skip)))
 (.ops [om 15 5,oa 16 (.bin .add (ot 15) (oi 1)),om 5 16]))))))
 (.seq (.ops [oa 4 (.mv (.const (.bool true)))])
 .ret)))),
 26, [.tmp 4]⟩
theorem lowref05Writes : lowerFn Tryd.prog Tryd.f20 = some Lref05Writes := by kernel_rfl
noncomputable def Gref05Writes (B : OH) : Nat → Cs
  | _ => fun _ _ _ => none
theorem sGref05Writes {w0 : World} {B : OH} : SoundG Tryd.prog w0 B { f := Gref05Writes B } := .of fun k => by
  unfold Gref05Writes
  split
  · exact .inl fun _ _ _ => rfl
theorem enref05Writes : Enter Tryd.prog 20 := .of Tryd.func20 (by kernel_rfl) (by kernel_rfl)
noncomputable def Tref05Writes (B : OH) : Cs := callF B { f := Gref05Writes B } 1000000 Lref05Writes
theorem sTref05Writes {w0 : World} {B : OH} : SoundC Tryd.prog w0 B 20 (Tref05Writes B) := callF_sound mixedOrders sGref05Writes 1000000 Tryd.func20 lowref05Writes
noncomputable def Vref05Writes (B : OH) : Cs := Tref05Writes B
theorem sVref05Writes {w0 : World} {B : OH} : SoundC Tryd.prog w0 B 20 (Vref05Writes B) := sTref05Writes
structure Kref05Writes (v w : Value) (n i : Nat) (ts : List Value) : Prop where
  l : ts.length = 26
  t0 : gt ts 0 = v
  t1 : gt ts 1 = w
  t5 : gt ts 5 = .int .i64 (i : Int)
theorem J21 : Said (an @Tref05Writes.eq_1 <| an @Lref05Writes.eq_1 <| trivial) := said_ok _
set_option maxHeartbeats 4000000 in
theorem sameref05Writes {B : OH} {H : HL} {N : St} {v w : Value} {L M : List W2} (hN : good B H N) (hv : SlR w2 2 B H v L) (hw : SlR w2 2 B H w M) (hL : L.length ≤ 900000) : Vref05Writes B [v, w] H N = some (.ret (.bool (decide (L = M))), H, N) := by
  obtain ⟨hB, hR, hI⟩ := gX hN
  have hlv := hv.len
  have hlw := hw.len
  unfold Vref05Writes
  by_cases hl : L.length = M.length
  case neg =>
    have hl' : ((L.length : Int) != (M.length : Int)) = true := by simp; omega
    have hd : decide (L = M) = false := decide_eq_false fun h => hl (by rw [h])
    rw [hd]
    simp (disch := omega) only [J21, hB, hR, hI, hlv, hlw, hl', all1, ress, res1, retV, Value.cells, newsV_s, seval, eV]
  have hl' : ((L.length : Int) != (M.length : Int)) = false := by simp; omega
  simp (disch := omega) only [J21, hB, hR, hI, hlv, hlw, hl', all1, ress, res1, retV, Value.cells, newsV_s, seval, eV]
  generalize hX : exec B _ _ (LC.loop _) _ = o
  have hO : Ok o (fun x s => s.H = H ∧ s.N = N ∧ s.t.length = 26 ∧ ((x = .exit 0 ∧ L = M) ∨ (x = .ret ∧ gt s.t 4 = .bool false ∧ L ≠ M))) := by
    rw [← hX]
    refine loop_rule (n0 := 60) (fun k s => ∃ ts, ∃ i : Nat, s = ⟨ts, H, N⟩ ∧ Kref05Writes v w L.length i ts ∧ (∀ q, q < i → L.getD q y2 = M.getD q y2) ∧ i ≤ L.length ∧ k = L.length - i) _ ?_ L.length _ ⟨_, 0, rfl, ⟨rfl, rfl, rfl, rfl⟩, fun q hq => by omega, by omega, rfl⟩ _ (by omega)
    rintro n k s ⟨ts, i, rfl, kp, hq, hi, rfl⟩
    have hc1 : ((i + 1 : Nat) : Int) = (i : Int) + 1 := by omega
    by_cases h : i < L.length
    · have h' : (i : Int) < (L.length : Int) := by omega
      have hm' : i < M.length := by omega
      have i0 : (0 : Int) ≤ (i : Int) := by omega
      obtain ⟨bv, ov, cv, rfl, _, rv⟩ := hv.at (by omega)
      obtain ⟨bw, ow, cw, rfl, _, rw'⟩ := hw.at (by omega)
      have rv := SlR.read rv w2_len (Fr.refl (H := H)) y2 h
      have rw' := SlR.read rw' w2_len (Fr.refl (H := H)) y2 hm'
      by_cases he : L.getD i y2 = M.getD i y2
      · rw [← he] at rw'
        generalize L.getD i y2 = a at rv rw'
        simp only [w2, Nat.mul_one] at rv rw'
        simp (disch := omega) only [J21, hB, hR, hI, kp.l, kp.t0, kp.t1, kp.t5, h', h, hm', i0, hlv, hlw, rv, rw', Nat.mul_one, bne_self_eq_false, all1, ress, res1, retV, Value.cells, newsV_s, seval, eV]
        refine ok_some (.inl ⟨rfl, L.length - (i + 1), by omega, _, i + 1, rfl, ⟨?_, ?_, ?_, ?_⟩, fun q hq' => ?_, by omega, rfl⟩)
        rotate_right
        · rcases Nat.lt_or_ge q i with h1 | h1
          · exact hq q h1
          · obtain rfl : q = i := by omega
            exact he
        all_goals simp (disch := omega) only [kp.l, kp.t0, kp.t1, kp.t5, hc1, Int.cast_ofNat_Int, decide_true, ev2, seval, ev5]
      · have hne : L ≠ M := fun e => he (by rw [e])
        generalize L.getD i y2 = a at rv he
        generalize M.getD i y2 = b at rw' he
        have hab := neW he
        simp only [w2, Nat.mul_one] at rv rw'
        simp (disch := omega) only [J21, hB, hR, hI, kp.l, kp.t0, kp.t1, kp.t5, h', h, hm', i0, hlv, hlw, rv, rw', hab, Nat.mul_one, all1, ress, res1, retV, Value.cells, newsV_s, seval, eV]
        refine ok_some (.inr ⟨by simp, rfl, rfl, ?_, .inr ⟨rfl, ?_, hne⟩⟩)
        all_goals simp (disch := omega) only [kp.l, kp.t0, kp.t1, kp.t5, Int.cast_ofNat_Int, decide_true, ev2, seval, ev5]
    · simp (disch := omega) only [J21, hB, hR, hI, kp.l, kp.t0, kp.t1, kp.t5, h, show ¬ (i : Int) < (L.length : Int) by omega, hlv, all1, ress, res1, retV, Value.cells, newsV_s, seval, eV]
      refine ok_some (.inr ⟨by simp, rfl, rfl, ?_, .inl ⟨rfl, ?_⟩⟩)
      · simp (disch := omega) only [J21, hB, hR, hI, kp.l, kp.t0, kp.t1, kp.t5, all1, ress, res1, retV, Value.cells, newsV_s, seval, eV]
      · refine List.ext_getElem? fun q => ?_
        rcases Nat.lt_or_ge q i with h1 | h1
        · rw [some_getD (d := y2) (by omega : q < L.length), some_getD (d := y2) (by omega : q < M.length), hq q h1]
        · rw [List.getElem?_eq_none (by omega), List.getElem?_eq_none (by omega)]
  obtain ⟨x, ⟨ts, H1, N1⟩, rfl, rfl, rfl, hl2, hr⟩ := hO
  simp only at hl2
  rcases hr with ⟨rfl, he⟩ | ⟨rfl, h4, hne⟩
  · rw [decide_eq_true he]
    simp (disch := omega) only [J21, hB, hR, hI, hl2, all1, ress, res1, retV, Value.cells, newsV_s, seval, eV]
  · rw [decide_eq_false hne]
    simp only at h4
    simp (disch := omega) only [J21, hB, hR, hI, hl2, h4, all1, ress, res1, retV, Value.cells, newsV_s, seval, eV]
def Lref03New : FnL := ⟨(.seq (.ops [oa 2 (.alloc [(.slice none 0 0)]),oa 3 (.mv (oi 0))])
 (.seq (.seq (.ops [om 4 0,oa 5 (.bin .lss (ot 4) (oi 0)),om 6 5,ob 7 (.mv (ot 0)) 6 false,ob 8 (.bin .gtr (ot 7) (oi 1048576)) 6 false,oa 9 (.pick (ot 6) (.const (.bool true)) (ot 8))])
 (.cond (ot 9) (.seq (.ops [oa 10 (.build [(.slice none 0 0)] []), oc (.store 1 (ot 2) (ot 10)),oa 3 (.mv (oi 1))])
 .ret)
 .skip))
 (.seq (.ops [om 11 0,oa 12 (.mks [(.int .u64 0), (.int .i64 0)] 16 (ot 11) (ot 11)),oa 13 (.build [(.slice none 0 0)] [(0, 1, (ot 12))]), oc (.store 1 (ot 2) (ot 13)),oa 3 (.mv (oi 0))])
 .ret))),
 14, [.cell 2 true 1, .tmp 3]⟩
theorem lowref03New : lowerFn Tryd.prog Tryd.f36 = some Lref03New := by kernel_rfl
noncomputable def Gref03New (B : OH) : Nat → Cs
  | _ => fun _ _ _ => none
theorem sGref03New {w0 : World} {B : OH} : SoundG Tryd.prog w0 B { f := Gref03New B } := .of fun k => by
  unfold Gref03New
  split
  · exact .inl fun _ _ _ => rfl
theorem enref03New : Enter Tryd.prog 36 := .of Tryd.func36 (by kernel_rfl) (by kernel_rfl)
noncomputable def Tref03New (B : OH) : Cs := callF B { f := Gref03New B } 1000000 Lref03New
theorem sTref03New {w0 : World} {B : OH} : SoundC Tryd.prog w0 B 36 (Tref03New B) := callF_sound mixedOrders sGref03New 1000000 Tryd.func36 lowref03New
noncomputable def Vref03New (B : OH) : Cs := Tref03New B
theorem sVref03New {w0 : World} {B : OH} : SoundC Tryd.prog w0 B 36 (Vref03New B) := sTref03New
theorem J22 : Said (an @Tref03New.eq_1 <| an @Lref03New.eq_1 <| trivial) := said_ok _
theorem mnew {B : OH} {H : HL} {N : St} (hN : good B H N) {n : Nat} (hn : n ≤ 1048576) : ∃ v H' N', Vref03New B [.int .i64 (n : Int)] H N = some (.ret (.tuple #[.agg #[v], .int .i64 0]), H', N') ∧ good B H' N' ∧ Fr H H' ∧ SlN c2 2 B H H' v (List.replicate n z2) := by
  obtain ⟨hB, hR, hI⟩ := gX hN
  have n1 : ¬ (n : Int) < 0 := by omega
  have n2 : ¬ (n : Int) > 1048576 := by omega
  have n3 : (0 : Int) ≤ (n : Int) := by omega
  have n4 : (n : Int) ≤ (n : Int) := Int.le_refl _
  have n5 : (n : Int) ≤ 140737488355328 := by omega
  have n6 : (16 : Int) * (n : Int) ≤ 140737488355328 := by omega
  unfold Vref03New
  simp (disch := omega) only [J22, hB, hR, hI, n1, n2, n3, n4, n5, n6, rep_c2, all1, ress, res1, retV, Value.cells, newsV_s, seval, eV]
  refine ⟨_, _, _, rfl, ?_, ?_, .inr ⟨N.n 1, n, by rw [List.length_replicate], hB 1, lk_N hN 1, by rw [List.length_replicate]; exact Nat.le_refl _, ?_⟩⟩
  · exact good_new (good_new hN)
  · exact fr_new (good_new hN) (fr_new hN Fr.refl 0) 0
  · simp (disch := omega) only [J22, hB, hR, hI, hB, all1, ress, res1, retV, Value.cells, newsV_s, seval, eV]
def Lref03Own : FnL := ⟨(.seq (.ops [oa 1 (.box (ot 0)),oa 2 (.alloc [(.slice none 0 0)])])
 (.seq (.ops [og 3 0 1,ol 4 3,oa 5 (.app [(.int .u64 0), (.int .i64 0)] 16 (.const (.slice none 0 0)) (ot 4)),oa 6 (.build [(.slice none 0 0)] [(0, 1, (ot 5))]), oc (.store 1 (ot 2) (ot 6))])
 .ret)),
 7, [.cell 2 true 1]⟩
theorem lowref03Own : lowerFn Tryd.prog Tryd.f49 = some Lref03Own := by kernel_rfl
noncomputable def Gref03Own (B : OH) : Nat → Cs
  | _ => fun _ _ _ => none
theorem sGref03Own {w0 : World} {B : OH} : SoundG Tryd.prog w0 B { f := Gref03Own B } := .of fun k => by
  unfold Gref03Own
  split
  · exact .inl fun _ _ _ => rfl
theorem enref03Own : Enter Tryd.prog 49 := .of Tryd.func49 (by kernel_rfl) (by kernel_rfl)
noncomputable def Tref03Own (B : OH) : Cs := callF B { f := Gref03Own B } 1000000 Lref03Own
theorem sTref03Own {w0 : World} {B : OH} : SoundC Tryd.prog w0 B 49 (Tref03Own B) := callF_sound mixedOrders sGref03Own 1000000 Tryd.func49 lowref03Own
noncomputable def Vref03Own (B : OH) : Cs := Tref03Own B
theorem sVref03Own {w0 : World} {B : OH} : SoundC Tryd.prog w0 B 49 (Vref03Own B) := sTref03Own
theorem J23 : Said (an @Tref03Own.eq_1 <| an @Lref03Own.eq_1 <| trivial) := said_ok _
theorem own {B : OH} {H : HL} {N : St} {v : Value} {L : List C2} (hN : good B H N) (hv : SlW c2 2 B H v L) (hL : L.length ≤ 900000) : ∃ v' H' N', Vref03Own B [.agg #[v]] H N = some (.ret (.agg #[v']), H', N') ∧ good B H' N' ∧ Fr H H' ∧ SlM c2 2 B H H' v' L := by
  obtain ⟨hB, hR, hI⟩ := gX hN
  have g1 : good B ((N.n 0, .cells [v] 1) :: H) (sh N) := good_new hN
  have f1 : Fr H ((N.n 0, .cells [v] 1) :: H) := fr_new hN Fr.refl 0
  have g2 : good B (((sh N).n 0, .cells [.slice none 0 0] 1) :: (N.n 0, .cells [v] 1) :: H) (sh (sh N)) := good_new g1
  have f2 : Fr H (((sh N).n 0, .cells [.slice none 0 0] 1) :: (N.n 0, .cells [v] 1) :: H) := fr_new g1 f1 0
  obtain ⟨v4, H4, N4, e4, g4, r4, fs, s4, hb⟩ := app_many (H0 := H) (bytes := 16) (v := .slice none 0 0) (L := ([] : List C2)) c2_len (by omega) g2 f2 (.inl ⟨rfl, rfl⟩) (hv.mono f2) (all1_c2 _) (by simp only [List.length_nil]; omega) (by simp only [List.length_nil]; omega)
  rw [List.nil_append] at s4
  have l1 : lk H4 ((sh N).n 0) = some (.cells [.slice none 0 0] 1) := fs _ _ (by simp [slB]) lk_top
  obtain ⟨a, c, rfl, _⟩ := id hv
  simp only [sh_app] at e4 l1
  have hb1 := hB 1
  have rb1 := rN hb1
  have hw := s4.rd c2_len
  obtain ⟨a4, c4, rfl, _⟩ := id hw
  unfold Vref03Own
  simp (disch := omega) only [J23, hB, hR, hI, e4, l1, hb1, rb1, all1, ress, res1, retV, Value.cells, seval, eV]
  have gu := good_up (k := .cells [.slice a4 L.length c4] 1) g4 hb1 l1
  have fu : Fr H (upH H4 (N.n 1) (.cells [.slice a4 L.length c4] 1)) := fr_up r4 (lk_N hN 1)
  refine ⟨_, _, _, rfl, gu, fu, s4.mono fun y c hy e => ?_⟩
  have hne : (y == N.n 1) = false := by
    cases h : y == N.n 1 with
    | false => rfl
    | true =>
      have hy1 : y = N.n 1 := by simpa using h
      have hy0 : slB (.slice a4 L.length c4) = some (N.n 1) := by rw [hy, hy1]
      rcases hb with hb | hb
      · rw [hy0] at hb; simp [slB] at hb
      · rw [hy0] at hb
        have := hI 1 2
        have h3 : N.n 1 = N.n 2 := by simpa [sh_app] using hb
        rw [h3] at this; simp at this
  rw [lk_upH, hne, cond_false]; exact e
end Go.Proofs.YtfhiplfagejfoaaDoor
namespace Go.Proofs.YtfhiplfagejfoaaDoor
open Go.Proofs.YtfhiplfagejfoaaDoor.K Go.ChangeShapes Go.WideShapes Go.ChangeAt Go.RowKit 
set_option maxRecDepth 100000
set_option linter.unusedSimpArgs false
set_option linter.unusedVariables false
structure KSm (q r i : Nat) (ts : List Value) : Prop where
  l : ts.length = 31
  t2 : gt ts 2 = .pointer (some ⟨q, 0, none⟩)
  t3 : gt ts 3 = .pointer (some ⟨r, 0, none⟩)
  t5 : gt ts 5 = .int .i64 (i : Int)
def LsCl : FnL := ⟨(.seq (.ops [oa 2 (.mv (.const (.slice none 0 0)))])
 (.seq (.seq (.ops [om 3 0,oa 4 (.eqs false (ot 3) (.const (.slice none 0 0)))])
 (.cond (ot 4) (.seq (.ops [oa 2 (.mv (.const (.slice none 0 0)))])
 .ret)
 .skip))
 (.seq (.ops [oa 5 (.buildS [] 0 []),om 6 0,oa 7 (.app [(.int .u64 0), (.int .i64 0)] 16 (ot 5) (ot 6)),om 2 7])
 .ret))),
 8, [.tmp 2]⟩
theorem lowsCl : lowerFn Tryd.prog Tryd.f50 = some LsCl := by kernel_rfl
noncomputable def GsCl (B : OH) : Nat → Cs
  | _ => fun _ _ _ => none
theorem sGsCl {w0 : World} {B : OH} : SoundG Tryd.prog w0 B { f := GsCl B } := .of fun k => by
  unfold GsCl
  split
  · exact .inl fun _ _ _ => rfl
theorem ensCl : Enter Tryd.prog 50 := .of Tryd.func50 (by kernel_rfl) (by kernel_rfl)
noncomputable def TsCl (B : OH) : Cs := callF B { f := GsCl B } 1000000 LsCl
theorem sTsCl {w0 : World} {B : OH} : SoundC Tryd.prog w0 B 50 (TsCl B) := callF_sound mixedOrders sGsCl 1000000 Tryd.func50 lowsCl
noncomputable def VsCl (B : OH) : Cs := TsCl B
theorem sVsCl {w0 : World} {B : OH} : SoundC Tryd.prog w0 B 50 (VsCl B) := sTsCl
theorem J24 : Said (an @TsCl.eq_1 <| an @LsCl.eq_1 <| trivial) := said_ok _
theorem clone {B : OH} {H : HL} {N : St} {v : Value} {L : List C2} (hN : good B H N) (hv : SlW c2 2 B H v L) (hL : L.length ≤ 900000) : ∃ v' H' N', VsCl B [v] H N = some (.ret v', H', N') ∧ good B H' N' ∧ Fr H H' ∧ SlM c2 2 B H H' v' L := by
  obtain ⟨hB, hR, hI⟩ := gX hN
  obtain ⟨a, c, rfl, hc, hr⟩ := id hv
  unfold VsCl
  cases a with
  | none =>
    have : L = [] := by
      rcases hr with h | ⟨b, o, h, _⟩
      · exact h
      · cases h
    subst this
    simp (disch := omega) only [J24, hB, hR, hI, all1, ress, res1, retV, Value.cells, newsV_s, seval, eV]
    exact ⟨_, _, _, rfl, hN, Fr.refl, .inl ⟨rfl, rfl⟩⟩
  | some a =>
    have g1 : good B ((N.n 0, .cells [] 0) :: H) (sh N) := good_new hN
    have f1 : Fr H ((N.n 0, .cells [] 0) :: H) := fr_new hN Fr.refl 0
    have s1 : SlM c2 2 B H ((N.n 0, .cells [] 0) :: H) (.slice (some ⟨N.n 0, 0, none⟩) 0 0) ([] : List C2) := .inr ⟨N.n 0, 0, [], rfl, hB 0, lk_N hN 0, Nat.le_refl _, lk_top⟩
    obtain ⟨v4, H4, N4, e4, g4, r4, fs, s4, hb⟩ := app_many (H0 := H) (bytes := 16) c2_len (by omega) g1 f1 s1 (hv.mono f1) (all1_c2 _) (by simp only [List.length_nil]; omega) (by simp only [List.length_nil]; omega)
    rw [List.nil_append] at s4
    simp (disch := omega) only [J24, hB, hR, hI, e4, all1, ress, res1, retV, Value.cells, seval, eV]
    exact ⟨_, _, _, rfl, g4, r4, s4⟩
def Lcellscaught : FnC := ⟨(some 5), (.block 0 (.seq (.ops [oa 7 (.isn false (ot 5))])
 (.cond (ot 7) (.ops [om 2 5])
 (.seq (.ops [oa 8 (.tass 125 (.agg #[(.int .i64 0)]) (ot 5)),oa 9 (.ext (ot 8) 1),oa 10 (.ext (ot 8) 0)])
 (.cond (ot 9) (.seq (.ops [oa 3 (.alloc [(.int .i64 0)]), oc (.store 1 (ot 3) (ot 10))])
 (.ops [om 11 0,og 12 0 3,ol 13 12,oa 14 (.nilck (ot 11)), oc (.store 1 (ot 14) (ot 13))]))
 (.seq (.ops [om 4 5])
 (.ops [om 6 4, oc (.pan (ot 6))]))))))),
 15,[]⟩
theorem lowcellscaught : lowerCaught Tryd.prog Tryd.f65 = some Lcellscaught := by kernel_rfl
noncomputable def Gcellscaught (B : OH) : Nat → Cs
  | _ => fun _ _ _ => none
theorem sGcellscaught {w0 : World} {B : OH} : SoundG Tryd.prog w0 B { f := Gcellscaught B } := .of fun k => by
  unfold Gcellscaught
  split
  · exact .inl fun _ _ _ => rfl
noncomputable def Ucellscaught (B : OH) : Ds := callC B { f := Gcellscaught B } 80 Lcellscaught
theorem encellscaught : Enter Tryd.prog 65 := .of Tryd.func65 (by kernel_rfl) (by kernel_rfl)
theorem sUcellscaught {w0 : World} {B : OH} : SoundD Tryd.prog w0 B 65 (Ucellscaught B) := callC_sound mixedOrders sGcellscaught 80 Tryd.func65 lowcellscaught
def LcP : FnL := ⟨(.seq (.ops [oa 4 (.mv (.const (.pointer none)))])
 (.seq (.seq (.ops [om 5 1,oa 6 (.bin .lss (ot 5) (oi 0)),om 7 6,ob 8 (.mv (ot 1)) 7 false,ob 9 (.mv (ot 0)) 7 false,ob 10 (.len false (ot 9)) 7 false,ob 11 (.bin .geq (ot 8) (ot 10)) 7 false,oa 12 (.pick (ot 7) (.const (.bool true)) (ot 11))])
 (.cond (ot 12) (.ops [oa 13 (.build [(.int .i64 0)] [(0, 1, (oi 1))]),oa 14 (.ifc 125 (ot 13)), oc (.pan (ot 14))])
 .skip))
 (.seq (.ops [om 15 0,om 16 1,oa 17 (.iaddrS 2 (ot 15) (ot 16)),om 4 17])
 .ret))),
 18, [.tmp 4]⟩
theorem lowcP : lowerFn Tryd.prog Tryd.f77 = some LcP := by kernel_rfl
noncomputable def GcP (B : OH) : Nat → Cs
  | _ => fun _ _ _ => none
theorem sGcP {w0 : World} {B : OH} : SoundG Tryd.prog w0 B { f := GcP B } := .of fun k => by
  unfold GcP
  split
  · exact .inl fun _ _ _ => rfl
theorem encP : Enter Tryd.prog 77 := .of Tryd.func77 (by kernel_rfl) (by kernel_rfl)
noncomputable def TcP (B : OH) : Cs := callF B { f := GcP B } 80 LcP
theorem sTcP {w0 : World} {B : OH} : SoundC Tryd.prog w0 B 77 (TcP B) := callF_sound mixedOrders sGcP 80 Tryd.func77 lowcP
noncomputable def VcP (B : OH) : Cs := TcP B
theorem sVcP {w0 : World} {B : OH} : SoundC Tryd.prog w0 B 77 (VcP B) := sTcP
def Lcellscell : FnL := ⟨(.seq (.ops [oa 6 (.mv (.const (.pointer none)))])
 (.seq (.seq (.ops [om 7 0,oa 8 (.eqp false (ot 7) (.const (.pointer none))),om 9 8,ob 10 (.mv (ot 1)) 9 false,ob 11 (.bin .lss (ot 10) (oi 0)) 9 false,oa 12 (.pick (ot 9) (.const (.bool true)) (ot 11)),om 13 12,ob 14 (.mv (ot 1)) 13 false,ob 15 (.bin .geq (ot 14) (oi 16)) 13 false,oa 16 (.pick (ot 13) (.const (.bool true)) (ot 15))])
 (.cond (ot 16) (.ops [oa 17 (.build [(.int .i64 0)] [(0, 1, (oi 1))]),oa 18 (.ifc 125 (ot 17)), oc (.pan (ot 18))])
 .skip))
 (.seq (.ops [om 19 0,oa 20 (.nilck (ot 19)),og 21 0 20,ol 22 21,om 23 2,oa 24 (.call (.func 77) [(ot 22), (ot 23)]),om 6 24])
 .ret))),
 25, [.tmp 6]⟩
theorem lowcellscell : lowerFn Tryd.prog Tryd.f66 = some Lcellscell := by kernel_rfl
noncomputable def Gcellscell (B : OH) : Nat → Cs
  | 77 => VcP B
  | _ => fun _ _ _ => none
theorem Gcellscell_cP {B : OH} : Gcellscell B 77 = VcP B := rfl
theorem sGcellscell {w0 : World} {B : OH} : SoundG Tryd.prog w0 B { f := Gcellscell B } := .of fun k => by
  unfold Gcellscell
  split
  · exact .inr ⟨encP, sVcP⟩
  · exact .inl fun _ _ _ => rfl
theorem encellscell : Enter Tryd.prog 66 := .of Tryd.func66 (by kernel_rfl) (by kernel_rfl)
noncomputable def Tcellscell (B : OH) : Cs := callF B { f := Gcellscell B } 80 Lcellscell
theorem sTcellscell {w0 : World} {B : OH} : SoundC Tryd.prog w0 B 66 (Tcellscell B) := callF_sound mixedOrders sGcellscell 80 Tryd.func66 lowcellscell
noncomputable def Vcellscell (B : OH) : Cs := Tcellscell B
theorem sVcellscell {w0 : World} {B : OH} : SoundC Tryd.prog w0 B 66 (Vcellscell B) := sTcellscell
def LcellsStore : FnD := ⟨(.ops [oa 6 (.alloc [(.int .i64 0)])]), 65, [(ot 6)],(.seq (.ops [om 7 0,om 8 1,oa 9 (.call (.func 66) [(ot 7), (oi 0), (ot 8)]),om 10 2,oa 11 (.build [(.int .u64 0), (.int .i64 0)] [(0, 1, (ot 10))]),oa 12 (.nilck (ot 9)), oc (.store 2 (ot 12) (ot 11))])
 (.seq (.ops [oc (.store 1 (ot 6) (oi 0))])
 .ret)),
 13, [.cell 6 false 1]⟩
theorem lowcellsStore : lowerDfr Tryd.prog Tryd.f52 = some LcellsStore := by kernel_rfl
noncomputable def GcellsStore (B : OH) : Nat → Cs
  | 66 => Vcellscell B
  | _ => fun _ _ _ => none
theorem GcellsStore_cellscell {B : OH} : GcellsStore B 66 = Vcellscell B := rfl
theorem sGcellsStore {w0 : World} {B : OH} : SoundG Tryd.prog w0 B { f := GcellsStore B } := .of fun k => by
  unfold GcellsStore
  split
  · exact .inr ⟨encellscell, sVcellscell⟩
  · exact .inl fun _ _ _ => rfl
theorem encellsStore : Enter Tryd.prog 52 := .of Tryd.func52 (by kernel_rfl) (by kernel_rfl)
noncomputable def DcellsStore (B : OH) : Nat → Ds
  | 65 => Ucellscaught B
  | _ => fun _ _ _ _ => none
theorem DcellsStore_cellscaught {B : OH} : DcellsStore B 65 = Ucellscaught B := rfl
noncomputable def TcellsStore (B : OH) : Cs := callD B { f := GcellsStore B } (DcellsStore B) 1000000 LcellsStore
theorem sTcellsStore {w0 : World} {B : OH} : SoundC Tryd.prog w0 B 52 (TcellsStore B) := callD_sound mixedOrders sGcellsStore 1000000 Tryd.func52 lowcellsStore encellscaught sUcellscaught
noncomputable def VcellsStore (B : OH) : Cs := TcellsStore B
theorem sVcellsStore {w0 : World} {B : OH} : SoundC Tryd.prog w0 B 52 (VcellsStore B) := sTcellsStore
theorem J25 : Said (an @TcellsStore.eq_1 <| an @LcellsStore.eq_1 <| an @GcellsStore_cellscell <| an @Vcellscell.eq_1 <| an @Tcellscell.eq_1 <| an @Lcellscell.eq_1 <| an @Gcellscell_cP <| an @VcP.eq_1 <| an @TcP.eq_1 <| an @LcP.eq_1 <| an @DcellsStore_cellscaught <| an @Ucellscaught.eq_1 <| an @Lcellscaught.eq_1 <| trivial) := said_ok _
set_option maxHeartbeats 4000000 in
theorem store {B : OH} {H0 H : HL} {N : St} {v : Value} {L : List C2} {m i : Nat} {w : Int} (hN : good B H N) (hv : SlM c2 2 B H0 H v L) (lm : lk H m = some (.cells [v] 1)) (bm : B m = none) (hm : slB v ≠ some m) (hi : i < L.length) (hL : L.length ≤ 900000) :
    ∃ H' N', VcellsStore B [.pointer (some ⟨m, 0, none⟩), .int .i64 (i : Int), .int .u64 w] H N = some (.ret (.int .i64 0), H', N') ∧ good B H' N' ∧ SlM c2 2 B H0 H' v (L.set i ⟨w, 0⟩) ∧ (∀ y c, slB v ≠ some y → lk H y = some c → lk H' y = some c) := by
  obtain ⟨hB, hR, hI⟩ := gX hN
  rcases hv with ⟨h, _⟩ | ⟨b, cap, rest, rfl, bb, h0, hle, hlk⟩
  · rw [h] at hi; simp at hi
  have hbm : (b == m) = false := eqb fun h => hm (by rw [h]; rfl)
  have hbm' : (m == b) = false := eqb fun h => hm (by rw [h]; rfl)
  have i0 : (0 : Int) ≤ (i : Int) := by omega
  have i1 : ¬ (i : Int) < 0 := by omega
  have i2 : ¬ (i : Int) ≥ (L.length : Int) := by omega
  have nb := ne_N hN hlk
  have nb' := ne_N' hN hlk
  have nm := ne_N hN lm
  have nm' := ne_N' hN lm
  have rb := rN bb
  have rm := rN bm
  have hw : wr (fl c2 L ++ rest) (i * 2) [.int .u64 w, .int .i64 0] = some (fl c2 (L.set i ⟨w, 0⟩) ++ rest) := by
    have h1 := wr_fl c2_len L i 0 [.int .u64 w, .int .i64 0] z2 ⟨w, 0⟩ hi (by simp) rfl
    rw [Nat.add_zero] at h1
    rw [wr_append_left _ _ _ _ (by rw [fl_length c2_len]; simp; omega), h1]; rfl
  unfold VcellsStore
  simp (disch := omega) only [J25, hB, hR, hI, lm, bm, rm, nm, nm', i0, i1, i2, hi, hlk, bb, rb, nb, nb', hbm, hbm', hw, all1, ress, res1, retV, Value.cells, newsV_s, seval, eV]
  have gu := good_up (k := .cells (fl c2 (L.set i ⟨w, 0⟩) ++ rest) (cap * 2)) (good_new (k := .cells [.int .i64 0] 1) hN) bb (by rw [lk_cons, nb, cond_false]; exact hlk)
  refine ⟨_, _, rfl, ?_, .inr ⟨b, cap, rest, by rw [List.length_set], bb, h0, by rw [List.length_set]; exact hle, ?_⟩, fun y c hy e => ?_⟩
  · simpa only [upH_cons, nb, cond_false] using gu
  · simp (disch := omega) only [J25, hB, hR, hI, nb, hlk, all1, ress, res1, retV, Value.cells, newsV_s, seval, eV]
  · have n0 := ne_N hN e 0
    have n1 : (y == b) = false := eqb fun h => hy (by rw [h]; rfl)
    simp (disch := omega) only [J25, hB, hR, hI, n0, n1, e, all1, ress, res1, retV, Value.cells, newsV_s, seval, eV]
end Go.Proofs.YtfhiplfagejfoaaDoor
namespace Go.Proofs.YtfhiplfagejfoaaDoor
open Go.Proofs.YtfhiplfagejfoaaDoor.K Go.ChangeShapes Go.WideShapes Go.ChangeAt Go.RowKit 
set_option maxRecDepth 100000
set_option linter.unusedSimpArgs false
set_option linter.unusedVariables false
def pkL (l : List W2) : List Int := l.flatMap fun x => [x.a, x.w]
theorem pkL_len (l : List W2) : (pkL l).length = 2 * l.length := by
  induction l with
  | nil => rfl
  | cons a l ih => simp only [pkL, List.flatMap_cons, List.length_append, List.length_cons, List.length_nil] at ih ⊢; omega
theorem pkL_app (l m : List W2) : pkL (l ++ m) = pkL l ++ pkL m := by simp [pkL]
def oW (G : Nat) (l : List W2) (i : Nat) : List Int := (l.length : Int) :: (pkL (l.take i) ++ List.replicate (G - 1 - 2 * i) 0)
theorem oW_len {G : Nat} {l : List W2} {i : Nat} (hi : i ≤ l.length) (hG : 1 + 2 * l.length ≤ G) : (oW G l i).length = G := by
  simp only [oW, List.length_cons, List.length_append, pkL_len, List.length_take, List.length_replicate]; omega
theorem oW_set {G : Nat} {l : List W2} {i : Nat} (hi : i < l.length) (hG : 1 + 2 * l.length ≤ G) : ((oW G l i).set (1 + 2 * i) (l.getD i y2).a).set (2 + 2 * i) (l.getD i y2).w = oW G l (i + 1) := by
  have ht : l.take (i + 1) = l.take i ++ [l.getD i y2] := by rw [List.take_add_one, some_getD (d := y2) hi]; rfl
  have hl : (pkL (l.take i)).length = 2 * i := by rw [pkL_len, List.length_take]; omega
  unfold oW
  rw [ht, pkL_app, show pkL [l.getD i y2] = [(l.getD i y2).a, (l.getD i y2).w] from rfl]
  rw [show 1 + 2 * i = 2 * i + 1 by omega, show 2 + 2 * i = 2 * i + 1 + 1 by omega, List.set_cons_succ, List.set_cons_succ]
  congr 1
  rw [show G - 1 - 2 * i = (G - 1 - 2 * (i + 1)) + 1 + 1 by omega, List.replicate_succ, List.replicate_succ]
  rw [List.set_append_right _ _ (by omega), hl, Nat.sub_self, List.set_cons_zero, List.set_append_right _ _ (by omega), hl, show 2 * i + 1 - 2 * i = 1 by omega, List.set_cons_succ, List.set_cons_zero, List.append_assoc]
  rfl
def okL (p h : Nat) (l : List W2) (n : Nat) : Prop := ∀ i, i < n → okP p h (l.getD i y2).a ∧ ∀ j, j < i → (l.getD j y2).a ≠ (l.getD i y2).a
noncomputable def packE (p h : Nat) (l : List W2) : Int := if h + 2 * p < l.length then 4 else @ite _ (okL p h l l.length) (Classical.propDecidable _) 0 1
def packW (p h : Nat) (l : List W2) : List Int := oW (LG p h) l l.length
theorem packE_long {p h : Nat} {l : List W2} (H : h + 2 * p < l.length) : packE p h l = 4 := if_pos H
theorem packE_ok {p h : Nat} {l : List W2} (H : ¬ h + 2 * p < l.length) (ho : okL p h l l.length) : packE p h l = 0 := by unfold packE; rw [if_neg H, if_pos ho]
theorem packE_bad {p h : Nat} {l : List W2} (H : ¬ h + 2 * p < l.length) (ho : ¬ okL p h l l.length) : packE p h l = 1 := by unfold packE; rw [if_neg H, if_neg ho]
theorem packE_0 {p h : Nat} {l : List W2} (H : packE p h l = 0) : l.length ≤ h + 2 * p ∧ okL p h l l.length := by
  by_cases h1 : h + 2 * p < l.length
  · rw [packE_long h1] at H; omega
  · by_cases h2 : okL p h l l.length
    · exact ⟨by omega, h2⟩
    · rw [packE_bad h1 h2] at H; omega
open Classical in
noncomputable def mfn (l : List W2) (i : Nat) : Int → Option Value := fun a => if ∃ j, j < i ∧ (l.getD j y2).a = a then some (.agg #[]) else none
theorem mfn_0 (l : List W2) : mfn l 0 = fun _ => none := by
  funext a
  exact if_neg (fun ⟨j, hj, _⟩ => by omega)
theorem mfn_y {l : List W2} {i : Nat} {a : Int} (h : ∃ j, j < i ∧ (l.getD j y2).a = a) : mfn l i a = some (.agg #[]) := if_pos h
theorem mfn_n {l : List W2} {i : Nat} {a : Int} (h : ¬ ∃ j, j < i ∧ (l.getD j y2).a = a) : mfn l i a = none := if_neg h
theorem mfn_s (l : List W2) (i : Nat) : updF (mfn l i) (l.getD i y2).a (some (.agg #[])) = mfn l (i + 1) := by
  funext a
  unfold updF
  by_cases h : a = (l.getD i y2).a
  · rw [if_pos h, mfn_y ⟨i, by omega, h.symm⟩]
  · rw [if_neg h]
    by_cases h2 : ∃ j, j < i ∧ (l.getD j y2).a = a
    · rw [mfn_y h2, mfn_y (let ⟨j, hj, e⟩ := h2; ⟨j, by omega, e⟩)]
    · rw [mfn_n h2, mfn_n (fun ⟨j, hj, e⟩ => by
        by_cases hji : j = i
        · exact h (by rw [← e, hji])
        · exact h2 ⟨j, by omega, e⟩)]
def W2s (l : List W2) : Prop := ∀ x ∈ l, i64R x.a ∧ u64R x.w
theorem W2s.at {l : List W2} (h : W2s l) (i : Nat) : i64R (l.getD i y2).a ∧ u64R (l.getD i y2).w := by
  rcases Nat.lt_or_ge i l.length with hi | hi
  · exact h _ (List.mem_of_getElem? (some_getD (d := y2) hi))
  · rw [List.getD_eq_getElem?_getD, List.getElem?_eq_none hi]
    unfold i64R u64R; simp [y2]
theorem wrapU (x : Int) : u64R (IntKind.u64.wrap x) := by
  unfold u64R IntKind.wrap
  simp [IntKind.bits, IntKind.signed]
  have := Int.emod_nonneg x (show (18446744073709551616 : Int) ≠ 0 by decide)
  have := Int.emod_lt_of_pos x (show (0 : Int) < 18446744073709551616 by decide)
  omega
theorem wrapU_neg {x : Int} (h : i64R x) (h0 : x < 0) : IntKind.u64.wrap x = x + 18446744073709551616 := by
  unfold i64R at h
  unfold IntKind.wrap
  simp [IntKind.bits, IntKind.signed]
  omega
theorem okP_wrap {kk p cc h : Nat} (C : Cf kk p cc h) {a : Int} (ha : i64R a) : (okP p h (IntKind.u64.wrap a) ↔ okP p h a) := by
  by_cases h0 : a < 0
  · rw [wrapU_neg ha h0]
    unfold i64R at ha
    constructor
    · intro h; have := okP_b C h; omega
    · intro h; have := okP_b C h; omega
  · unfold i64R at ha
    rw [IntWalk.u64_in _ (by omega)]
def lbPk : LC := (.seq (.ops [oa 31 (.bin .lss (ot 30) (ot 29))])
 (.seq (.cond (ot 31) .skip
 (.exit 0))
 (.seq (.block 1 (.seq (.ops [om 32 30,oa 33 (.iaddrS 2 (ot 28) (ot 30)),oa 34 (.load true 2 (ot 33)),oa 8 (.alloc [(.int .i64 0), (.int .u64 0)]),om 7 32, oc (.store 2 (ot 8) (ot 34))])
 (.seq (.ops [oa 36 (.load true 3 (ot 2)),og 37 0 8,ol 38 37,oa 39 (.conv .u64 (ot 38)),oa 40 (.call (.func 14) [(ot 36), (ot 39)]),om 35 40,oa 41 (.ext (ot 35) 0),oa 42 (.ext (ot 35) 1),om 9 41,om 10 42])
 (.seq (.ops [om 44 6,og 45 0 8,ol 46 45,oa 47 (.mlook .i64 (.agg #[]) true (ot 44) (ot 46)),om 43 47,oa 48 (.ext (ot 43) 0),oa 49 (.ext (ot 43) 1),oa 11 (.alloc []), oc (.store 0 (ot 11) (ot 48)),om 12 49])
 (.seq (.ops [om 50 10,om 51 50,ob 52 (.mv (ot 12)) 51 true,ob 53 (.un .not (ot 52)) 51 true,oa 54 (.pick (ot 51) (ot 53) (.const (.bool false))),oa 55 (.call (.func 44) [(ot 54), (oi 1)])])
 (.seq (.ops [om 56 6,og 57 0 8,ol 58 57,oa 59 (.build [] []), oc (.mupd .i64 (ot 56) (ot 58) (ot 59))])
 (.draw [pm 60 5,pm 61 7,oe 62 (.bin .mul (oi 2) (ot 61)),oe 63 (.bin .add (oi 1) (ot 62)),pm 64 5,pm 65 7,oe 66 (.bin .mul (oi 2) (ot 65)),oe 67 (.bin .add (oi 2) (ot 66)),pg 68 0 8,pl 69 68,oe 70 (.conv .u64 (ot 69)),pg 71 1 8,pl 72 71,oe 73 (.iaddrS 1 (ot 60) (ot 63)), ⟨oc (.store 1 (ot 73) (ot 70)), [ol 72 71]⟩,oe 74 (.iaddrS 1 (ot 64) (ot 67)), ⟨oc (.store 1 (ot 74) (ot 72)),[]⟩])))))))
 (.ops [oa 75 (.bin .add (ot 30) (oi 1)),om 30 75]))))
def Lwlogpack : FnL := ⟨(.seq (.ops [oa 2 (.box (ot 0)),oa 4 (.mv (.const (.slice none 0 0)))])
 (.seq (.ops [om 13 1,oa 14 (.len false (ot 13)),oa 15 (.load true 3 (ot 2)),oa 16 (.call (.func 47) [(ot 15)]),oa 17 (.bin .leq (ot 14) (ot 16)),oa 18 (.call (.func 44) [(ot 17), (oi 4)])])
 (.seq (.ops [oa 19 (.load true 3 (ot 2)),oa 20 (.call (.func 30) [(ot 19)]),oa 21 (.mks [(.int .u64 0)] 8 (ot 20) (ot 20)),om 5 21])
 (.seq (.ops [om 22 5,om 23 1,oa 24 (.len false (ot 23)),oa 25 (.conv .u64 (ot 24)),oa 26 (.iaddrS 1 (ot 22) (oi 0)), oc (.store 1 (ot 26) (ot 25))])
 (.seq (.ops [oa 27 (.mkmap .i64),om 6 27])
 (.seq (.seq (.ops [om 28 1,oa 29 (.len false (ot 28)),oa 30 (.mv (oi 0))])
 (.block 0 (.loop lbPk)))
 (.seq (.ops [om 76 5,om 4 76])
 .ret))))))),
 77, [.tmp 4]⟩
theorem lowwlogpack : lowerFn Tryd.prog Tryd.f46 = some Lwlogpack := by kernel_rfl
noncomputable def Gwlogpack (B : OH) : Nat → Cs
  | 30 => V11 B
  | 14 => VwlogPlace B
  | 47 => Vwlogmost B
  | 44 => Vwlogwant B
  | _ => fun _ _ _ => none
theorem Gwlogpack_11 {B : OH} : Gwlogpack B 30 = V11 B := rfl
theorem Gwlogpack_wlogPlace {B : OH} : Gwlogpack B 14 = VwlogPlace B := rfl
theorem Gwlogpack_wlogmost {B : OH} : Gwlogpack B 47 = Vwlogmost B := rfl
theorem Gwlogpack_wlogwant {B : OH} : Gwlogpack B 44 = Vwlogwant B := rfl
theorem sGwlogpack {w0 : World} {B : OH} : SoundG Tryd.prog w0 B { f := Gwlogpack B } := .of fun k => by
  unfold Gwlogpack
  split
  · exact .inr ⟨en11, sV11⟩
  · exact .inr ⟨enwlogPlace, sVwlogPlace⟩
  · exact .inr ⟨enwlogmost, sVwlogmost⟩
  · exact .inr ⟨enwlogwant, sVwlogwant⟩
  · exact .inl fun _ _ _ => rfl
theorem enwlogpack : Enter Tryd.prog 46 := .of Tryd.func46 (by kernel_rfl) (by kernel_rfl)
noncomputable def Twlogpack (B : OH) : Cs := callF B { f := Gwlogpack B } 1000000 Lwlogpack
theorem sTwlogpack {w0 : World} {B : OH} : SoundC Tryd.prog w0 B 46 (Twlogpack B) := callF_sound mixedOrders sGwlogpack 1000000 Tryd.func46 lowwlogpack
noncomputable def Vwlogpack (B : OH) : Cs := Twlogpack B
theorem sVwlogpack {w0 : World} {B : OH} : SoundC Tryd.prog w0 B 46 (Vwlogpack B) := sTwlogpack
structure KPk (c bo G m : Nat) (vl : Value) (n i : Nat) (ts : List Value) : Prop where
  l : ts.length = 77
  t2 : gt ts 2 = .pointer (some ⟨c, 0, none⟩)
  t5 : gt ts 5 = .slice (some ⟨bo, 0, none⟩) G G
  t6 : gt ts 6 = .map (some m)
  t28 : gt ts 28 = vl
  t29 : gt ts 29 = .int .i64 (n : Int)
  t30 : gt ts 30 = .int .i64 (i : Int)
theorem J26 : Said (an @Twlogpack.eq_1 <| an @Lwlogpack.eq_1 <| an @Gwlogpack_11 <| an @V11_eq <| an @Gwlogpack_wlogPlace <| an @VwlogPlace_eq <| an @Gwlogpack_wlogmost <| an @Vwlogmost_eq <| an @Gwlogpack_wlogwant <| an @Vwlogwant.eq_1 <| an @Twlogwant.eq_1 <| an @Lwlogwant.eq_1 <| an @lbPk.eq_1 <| trivial) := said_ok _
set_option maxHeartbeats 8000000 in
theorem loopPk {B : OH} {H0 H : HL} {N : St} {vl : Value} {l : List W2} {kk p cc h c bo m : Nat} (hT : Tab B) (C : Cf kk p cc h) (hl : SlR w2 2 B H0 vl l) (hw : W2s l) (hlen : l.length ≤ h + 2 * p) (hN : good B H N) (hF0 : Fr H0 H) (bc : B c = none) (bbo : B bo = none) (bm : B m = none) (h0o : lk H0 bo = none) (h0m : lk H0 m = none) (h0c : lk H0 c = none)
    (lc : lk H c = some (.cells [.int .i64 (kk : Int), .int .i64 (p : Int), .int .i64 (cc : Int)] 3)) (lo : lk H bo = some (.cells (fl w1 (oW (LG p h) l 0)) (LG p h))) (lm : lk H m = some (.map .i64 (mfn l 0))) (hco : c ≠ bo) (hcm : c ≠ m) {ts : List Value} (kp : KPk c bo (LG p h) m vl l.length 0 ts) {F : Nat} (hF : 200 + l.length + 1 ≤ F) :
    Ok (exec B { f := Gwlogpack B } F (LC.loop lbPk) ⟨ts, H, N⟩) (fun x s => good B s.H s.N ∧ Fr H0 s.H ∧ (∀ y c', y ≠ bo → y ≠ m → lk H y = some c' → lk s.H y = some c') ∧ ((x = .exit 0 ∧ okL p h l l.length ∧ lk s.H bo = some (.cells (fl w1 (oW (LG p h) l l.length)) (LG p h)) ∧ KPk c bo (LG p h) m vl l.length l.length s.t) ∨ (x = .pan (.iface 105 (.agg #[.int .i64 1])) ∧ ¬ okL p h l l.length))) := by
  have hLG : 1 + 2 * l.length ≤ LG p h := by unfold LG; omega
  have hlb := LG_b C
  refine loop_rule (n0 := 200) (fun q s => ∃ ts H' N', ∃ i : Nat, s = ⟨ts, H', N'⟩ ∧ KPk c bo (LG p h) m vl l.length i ts ∧ good B H' N' ∧ Fr H0 H' ∧ (∀ y c', y ≠ bo → y ≠ m → lk H y = some c' → lk H' y = some c') ∧ lk H' bo = some (.cells (fl w1 (oW (LG p h) l i)) (LG p h)) ∧ lk H' m = some (.map .i64 (mfn l i)) ∧ okL p h l i ∧ i ≤ l.length ∧ q = l.length - i) _ ?_ l.length _ ⟨ts, H, N, 0, rfl, kp, hN, hF0, fun _ _ _ _ e => e, lo, lm, fun i hi => by omega, by omega, rfl⟩ _ hF
  clear kp hF F ts lo lm hN hF0 N
  rintro z q s ⟨ts, H1, N1, i, rfl, kp, g, fr, fk, lo, lm, hok, hi, rfl⟩
  obtain ⟨hB, hR, hI⟩ := gX g
  have hG : ∃ H N, good B H N := ⟨H1, N1, g⟩
  have hc1 : ((i + 1 : Nat) : Int) = (i : Int) + 1 := by omega
  have hbom : bo ≠ m := fun e => by rw [e, lm] at lo; cases lo
  have lc1 := fk _ _ hco hcm lc
  have ncb : (c == bo) = false := eqb hco
  have ncm : (c == m) = false := eqb hcm
  have nbm : (bo == m) = false := eqb hbom
  have nmb : (m == bo) = false := eqb (Ne.symm hbom)
  have nbc : (bo == c) = false := eqb (Ne.symm hco)
  have nmc : (m == c) = false := eqb (Ne.symm hcm)
  have nc := ne_N g lc1
  have nc' := ne_N' g lc1
  have nb := ne_N g lo
  have nb' := ne_N' g lo
  have nm := ne_N g lm
  have nm' := ne_N' g lm
  have rc := rN bc
  have rb := rN bbo
  have rm := rN bm
  by_cases hin : i < l.length
  case neg =>
    obtain rfl : i = l.length := by omega
    simp (disch := omega) only [J26, hB, hR, hI, kp.l, kp.t2, kp.t5, kp.t6, kp.t28, kp.t29, kp.t30, Int.lt_irrefl, all1, ress, res1, retV, Value.cells, newsV_s, seval, eV]
    refine ok_some (.inr ⟨by simp, g, fr, fk, .inl ⟨rfl, hok, lo, ⟨?_, ?_, ?_, ?_, ?_, ?_, ?_⟩⟩⟩)
    all_goals simp (disch := omega) only [kp.l, kp.t2, kp.t5, kp.t6, kp.t28, kp.t29, kp.t30, Int.cast_ofNat_Int, decide_true, ev2, seval, ev5]
  have hin' : (i : Int) < (l.length : Int) := by omega
  have i0 : (0 : Int) ≤ (i : Int) := by omega
  obtain ⟨bv, ov, cv, rfl, _, rv⟩ := hl.at (by omega)
  have rv := SlR.read rv w2_len fr y2 hin
  obtain ⟨ha, hwu⟩ := hw.at i
  have hset := oW_set (i := i) hin hLG
  have hms := mfn_s l i
  have hl0 := oW_len (l := l) (i := i) (by omega) hLG
  have hoki : okL p h l (i + 1) ↔ (okP p h (l.getD i y2).a ∧ ∀ j, j < i → (l.getD j y2).a ≠ (l.getD i y2).a) := by
    constructor
    · intro h'; exact h' i (by omega)
    · intro h' j hj
      by_cases e : j = i
      · rw [e]; exact h'
      · exact hok j (by omega)
  have hbad : ¬ okL p h l (i + 1) → ¬ okL p h l l.length := fun h1 h2 => h1 fun j hj => h2 j (by omega)
  have hex : (∃ j, j < i ∧ (l.getD j y2).a = (l.getD i y2).a) → ¬ okL p h l (i + 1) := fun ⟨j, hj, e⟩ h' => (hoki.1 h').2 j hj e
  have hgood : okP p h (l.getD i y2).a → (¬ ∃ j, j < i ∧ (l.getD j y2).a = (l.getD i y2).a) → okL p h l (i + 1) := fun h1 h2 => hoki.2 ⟨h1, fun j hj e => h2 ⟨j, hj, e⟩⟩
  have hnok : ¬ okP p h (l.getD i y2).a → ¬ okL p h l (i + 1) := fun h1 h2 => h1 (hoki.1 h2).1
  have my := fun (h' : ∃ j, j < i ∧ (l.getD j y2).a = (l.getD i y2).a) => mfn_y h'
  have mn' := fun (h' : ¬ ∃ j, j < i ∧ (l.getD j y2).a = (l.getD i y2).a) => mfn_n h'
  clear hoki hok
  generalize (∃ j, j < i ∧ (l.getD j y2).a = (l.getD i y2).a) = EX at *
  generalize l.getD i y2 = x at *
  obtain ⟨a, w⟩ := x
  simp only at rv ha hwu hset hms hgood hnok my mn'
  simp only [w2] at rv
  have ep := fPlace hG hT C (wrapU a)
  by_cases hpl : okP p h a
  case neg =>
    rw [plV_n (fun h' => hpl ((okP_wrap C ha).1 h'))] at ep
    by_cases hEX : EX
    · have hmv := my hEX
      simp (disch := omega) only [J26, hB, hR, hI, kp.l, kp.t2, kp.t5, kp.t6, kp.t28, kp.t29, kp.t30, hin, hin', i0, rv, lc1, bc, rc, lo, bbo, rb, lm, bm, rm, nc, nc', nb, nb', nm, nm', ncb, ncm, nbm, nmb, nbc, nmc, ep, hmv, all1, ress, res1, retV, Value.cells, newsV_s, seval, eV]
      refine ok_some (.inr ⟨by simp, good_new (good_new g), fr_new (good_new g) (fr_new g fr 0) 0, fun y c' h1 h2 e => ?_, .inr ⟨rfl, hbad (hnok hpl)⟩⟩)
      have e1 := fk _ _ h1 h2 e
      have n0 := ne_N g e1
      simp (disch := omega) only [J26, hB, hR, hI, n0, e1, all1, ress, res1, retV, Value.cells, newsV_s, seval, eV]
    · have hmv := mn' hEX
      simp (disch := omega) only [J26, hB, hR, hI, kp.l, kp.t2, kp.t5, kp.t6, kp.t28, kp.t29, kp.t30, hin, hin', i0, rv, lc1, bc, rc, lo, bbo, rb, lm, bm, rm, nc, nc', nb, nb', nm, nm', ncb, ncm, nbm, nmb, nbc, nmc, ep, hmv, all1, ress, res1, retV, Value.cells, newsV_s, seval, eV]
      refine ok_some (.inr ⟨by simp, good_new (good_new g), fr_new (good_new g) (fr_new g fr 0) 0, fun y c' h1 h2 e => ?_, .inr ⟨rfl, hbad (hnok hpl)⟩⟩)
      have e1 := fk _ _ h1 h2 e
      have n0 := ne_N g e1
      simp (disch := omega) only [J26, hB, hR, hI, n0, e1, all1, ress, res1, retV, Value.cells, newsV_s, seval, eV]
  have hpb := okP_b C hpl
  have wa : IntKind.u64.wrap a = a := IntWalk.u64_in _ (by omega)
  rw [plV_y ((okP_wrap C ha).2 hpl), wa] at ep
  by_cases hEX : EX
  · have hmv := my hEX
    simp (disch := omega) only [J26, hB, hR, hI, kp.l, kp.t2, kp.t5, kp.t6, kp.t28, kp.t29, kp.t30, hin, hin', i0, rv, lc1, bc, rc, lo, bbo, rb, lm, bm, rm, nc, nc', nb, nb', nm, nm', ncb, ncm, nbm, nmb, nbc, nmc, ep, hmv, all1, ress, res1, retV, Value.cells, newsV_s, seval, eV]
    refine ok_some (.inr ⟨by simp, good_new (good_new g), fr_new (good_new g) (fr_new g fr 0) 0, fun y c' h1 h2 e => ?_, .inr ⟨rfl, hbad (hex hEX)⟩⟩)
    have e1 := fk _ _ h1 h2 e
    have n0 := ne_N g e1
    simp (disch := omega) only [J26, hB, hR, hI, n0, e1, all1, ress, res1, retV, Value.cells, newsV_s, seval, eV]
  have hmv := mn' hEX
  have x0 : 1 + 2 * (i : Int) = ((1 + 2 * i : Nat) : Int) := by omega
  have x1 : 2 + 2 * (i : Int) = ((2 + 2 * i : Nat) : Int) := by omega
  have x2 : (0 : Int) ≤ ((1 + 2 * i : Nat) : Int) := by omega
  have x3 : (0 : Int) ≤ ((2 + 2 * i : Nat) : Int) := by omega
  have x4 : 1 + 2 * i < LG p h := by omega
  have x5 : 2 + 2 * i < LG p h := by omega
  have x6 : IntKind.i64.wrap ((1 + 2 * i : Nat) : Int) = ((1 + 2 * i : Nat) : Int) := IntWalk.i64_in _ (by omega)
  have x7 : IntKind.i64.wrap ((2 + 2 * i : Nat) : Int) = ((2 + 2 * i : Nat) : Int) := IntWalk.i64_in _ (by omega)
  have v1 : wr (fl w1 (oW (LG p h) l i)) (1 + 2 * i) [.int .u64 a] = some (fl w1 ((oW (LG p h) l i).set (1 + 2 * i) a)) := by
    have := wr_fl w1_len (oW (LG p h) l i) (1 + 2 * i) 0 [.int .u64 a] 0 a (by omega) (by simp) rfl
    rwa [Nat.mul_one, Nat.add_zero] at this
  have v2 : wr (fl w1 ((oW (LG p h) l i).set (1 + 2 * i) a)) (2 + 2 * i) [.int .u64 w] = some (fl w1 (oW (LG p h) l (i + 1))) := by
    have := wr_fl w1_len ((oW (LG p h) l i).set (1 + 2 * i) a) (2 + 2 * i) 0 [.int .u64 w] 0 w (by rw [List.length_set]; omega) (by simp) rfl
    rw [Nat.mul_one, Nat.add_zero, hset] at this
    exact this
  simp (disch := omega) only [J26, hB, hR, hI, kp.l, kp.t2, kp.t5, kp.t6, kp.t28, kp.t29, kp.t30, hin, hin', i0, rv, lc1, bc, rc, lo, bbo, rb, lm, bm, rm, nc, nc', nb, nb', nm, nm', ncb, ncm, nbm, nmb, nbc, nmc, ep, hmv, x0, x1, x2, x3, x4, x5, x6, x7, wa, v1, v2, hms, Nat.mul_one, all1, ress, res1, retV, Value.cells, newsV_s, seval, eV]
  have g2 := good_set (k := .map .i64 (mfn l (i + 1))) (good_new (k := .cells [] 0) (good_new (k := .cells [.int .i64 a, .int .u64 w] 2) g)) bm (by rw [lk_cons, sh_app, nm, cond_false, lk_cons, nm, cond_false]; exact lm)
  have l2 : lk ((m, .map .i64 (mfn l (i + 1))) :: ((sh N1).n 0, .cells [] 0) :: (N1.n 0, .cells [.int .i64 a, .int .u64 w] 2) :: H1) bo = some (.cells (fl w1 (oW (LG p h) l i)) (LG p h)) := by
    rw [lk_cons, nbm, cond_false, lk_cons, sh_app, nb, cond_false, lk_cons, nb, cond_false]; exact lo
  have g3 := good_up (k := .cells (fl w1 ((oW (LG p h) l i).set (1 + 2 * i) a)) (LG p h)) g2 bbo l2
  have g4 := good_up (k := .cells (fl w1 (oW (LG p h) l (i + 1))) (LG p h)) g3 bbo (by rw [lk_upH, beq_self_eq_true, cond_true])
  have f4 := fr_up (k := .cells (fl w1 (oW (LG p h) l (i + 1))) (LG p h)) (fr_up (k := .cells (fl w1 ((oW (LG p h) l i).set (1 + 2 * i) a)) (LG p h)) (fr_set (k := .map .i64 (mfn l (i + 1))) (fr_new (k := .cells [] 0) (good_new (k := .cells [.int .i64 a, .int .u64 w] 2) g) (fr_new (k := .cells [.int .i64 a, .int .u64 w] 2) g fr 0) 0) h0m) h0o) h0o
  simp only [upH_cons, sh_app, nbm, nb, cond_false] at g4 f4
  refine ok_some (.inl ⟨rfl, l.length - (i + 1), by omega, _, _, _, i + 1, rfl, ⟨?_, ?_, ?_, ?_, ?_, ?_, ?_⟩, g4, f4, fun y c' h1 h2 e => ?_, ?_, ?_, hgood hpl hEX, by omega, rfl⟩)
  rotate_right
  · simp (disch := omega) only [J26, hB, hR, hI, all1, ress, res1, retV, Value.cells, newsV_s, seval, eV]
  rotate_right
  · simp (disch := omega) only [J26, hB, hR, hI, nbm, nb, lo, all1, ress, res1, retV, Value.cells, newsV_s, seval, eV]
  rotate_right
  · have e1 := fk _ _ h1 h2 e
    have n0 := ne_N g e1
    have n1 : (y == m) = false := eqb h2
    have n2 : (y == bo) = false := eqb h1
    simp (disch := omega) only [J26, hB, hR, hI, n0, n1, n2, e1, all1, ress, res1, retV, Value.cells, newsV_s, seval, eV]
  all_goals simp (disch := omega) only [kp.l, kp.t2, kp.t5, kp.t6, kp.t28, kp.t29, kp.t30, hc1, Int.cast_ofNat_Int, decide_true, ev2, seval, ev5]
end Go.Proofs.YtfhiplfagejfoaaDoor
