/- Own text: the document's functions on memory, cells, how a process may stand. -/
import Derived.Test.YtbpaekbjpapgeaaGreatDoorOwn
set_option linter.unusedSimpArgs false
set_option linter.unusedVariables false
namespace Go.Proofs.YtbpaekbjpapgeaaGreatDoor
open Go.Proofs.YtbpaekbjpapgeaaGreatDoor.K Go.ChangeShapes Go.WideShapes Go.ChangeAt Go.RowKit 
set_option maxRecDepth 100000
set_option linter.unusedSimpArgs false
set_option linter.unusedVariables false
structure Cf (kk p cc h : Nat) : Prop where
  k : 1 ≤ kk ∧ kk ≤ 5
  p : 1 ≤ p ∧ p ≤ 16
  c : 1 ≤ cc ∧ cc ≤ 256
  m : hm kk cc = (h : Int)
theorem Cf.h {kk p cc h : Nat} (C : Cf kk p cc h) : 1 ≤ h ∧ h ≤ 1026 := by
  have := hm_bounds (k := kk) (c := cc) (by have := C.k; omega) (by have := C.c; omega)
  rw [C.m] at this; omega
def fitI (k p c : Int) : Prop := (1 ≤ k ∧ k ≤ 5) ∧ (1 ≤ p ∧ p ≤ 16) ∧ (1 ≤ c ∧ c ≤ 256)
instance (k p c : Int) : Decidable (fitI k p c) := by unfold fitI; exact inferInstance
theorem fit_cf {k p c : Int} (h : fitI k p c) : ∃ kk pp cc hh : Nat, k = (kk : Int) ∧ p = (pp : Int) ∧ c = (cc : Int) ∧ Cf kk pp cc hh := by
  obtain ⟨h1, h2, h3⟩ := h
  have hb := hm_bounds h1 h3
  refine ⟨k.toNat, p.toNat, c.toNat, (hm k c).toNat, by omega, by omega, by omega, ⟨by omega, by omega, by omega, ?_⟩⟩
  rw [show ((k.toNat : Nat) : Int) = k by omega, show ((c.toNat : Nat) : Int) = c by omega]; omega
def LG (p h : Nat) : Nat := 1 + 2 * (h + 2 * p)
theorem LG_b {kk p cc h : Nat} (C : Cf kk p cc h) : LG p h ≤ 2117 ∧ LG p h * p ≤ 33872 ∧ 1 ≤ LG p h := by
  have h1 := C.h
  have h2 := C.p
  have h3 : LG p h ≤ 2117 := by unfold LG; omega
  refine ⟨h3, ?_, by unfold LG; omega⟩
  exact Nat.mul_le_mul h3 (by omega : p ≤ 16)
theorem bs_1 {p h : Nat} : bs p h 1 = 1 := by simp [bs, sz, mn]
theorem bs_2 {p h : Nat} : bs p h 2 = 1 + 3 * p := by simp [bs, sz, mn]
theorem bs_3 {p h : Nat} : bs p h 3 = 1 + 5 * p := by simp [bs, sz, mn]; omega
theorem bs_4 {p h : Nat} : bs p h 4 = 1 + 5 * p + LG p h * p := by simp [bs, sz, mn, LG]; omega
theorem bs_5 {p h : Nat} : bs p h 5 = 1 + 5 * p + LG p h * p + h := by simp [bs, sz, mn, LG]; omega
theorem cfit {kk p cc h : Nat} (C : Cf kk p cc h) : fitI kk p cc := ⟨by have := C.k; omega, by have := C.p; omega, by have := C.c; omega⟩
theorem f11c {B : OH} (hG : ∃ H N, good B H N) (hT : Tab B) {kk p cc h : Nat} (C : Cf kk p cc h) : F11 B [.agg #[.int .i64 (kk : Int), .int .i64 (p : Int), .int .i64 (cc : Int)]] = some (.int .i64 (LG p h : Int)) := by
  rw [f11 hG hT kk p cc (cfit C).1 (cfit C).2.1 (cfit C).2.2, C.m, show (1 + 2 * ((h : Int) + 2 * (p : Int))) = (LG p h : Int) by unfold LG; omega]
theorem f7c {B : OH} (hG : ∃ H N, good B H N) (hT : Tab B) {kk p cc h : Nat} (C : Cf kk p cc h) : F7 B [.agg #[.int .i64 (kk : Int), .int .i64 (p : Int), .int .i64 (cc : Int)]] = some (.int .i64 (bs p h 5 : Int)) := f7 hG hT C.k C.p C.c C.m
def Lref04in : FnL := ⟨(.seq (.ops [oa 6 (.mv (.const (.bool false)))])
 (.seq (.ops [om 7 0,om 8 1,oa 9 (.bin .geq (ot 7) (ot 8)),om 10 9,ob 11 (.mv (ot 0)) 10 true,ob 12 (.mv (ot 2)) 10 true,ob 13 (.bin .leq (ot 11) (ot 12)) 10 true,oa 14 (.pick (ot 10) (ot 13) (.const (.bool false))),om 6 14])
 .ret)),
 15, [.tmp 6]⟩
theorem lowref04in : lowerFn Tryz.prog Tryz.f69 = some Lref04in := by kernel_rfl
noncomputable def Gref04in (B : OH) : Nat → Cs
  | _ => fun _ _ _ => none
theorem sGref04in {w0 : World} {B : OH} : SoundG Tryz.prog w0 B { f := Gref04in B } := .of fun k => by
  unfold Gref04in
  split
  · exact .inl fun _ _ _ => rfl
theorem enref04in : Enter Tryz.prog 69 := .of Tryz.func69 (by kernel_rfl) (by kernel_rfl)
noncomputable def Tref04in (B : OH) : Cs := callF B { f := Gref04in B } 1000000 Lref04in
theorem sTref04in {w0 : World} {B : OH} : SoundC Tryz.prog w0 B 69 (Tref04in B) := callF_sound mixedOrders sGref04in 1000000 Tryz.func69 lowref04in
noncomputable def Fref04in (B : OH) : List Value → Option Value := kval B (Tref04in B)
noncomputable def Vref04in (B : OH) : Cs := fun a H N => pvE (Fref04in B a) H N
theorem Vref04in_eq {B : OH} {a : List Value} {H : HL} {N : St} : Vref04in B a H N = pvE (Fref04in B a) H N := rfl
theorem sVref04in {w0 : World} {B : OH} : SoundC Tryz.prog w0 B 69 (Vref04in B) := sTref04in.ofVal
theorem fin {B : OH} (hG : ∃ H N, good B H N) (x a b : Int) : Fref04in B [.int .i64 x, .int .i64 a, .int .i64 b] = some (.bool (decide (a ≤ x ∧ x ≤ b))) := by
  refine kval_eq hG fun H N hN => ?_
  have hB := good_B hN
  have hR := good_rdB hN
  have hI := beqN hN.1.1
  by_cases c1 : x ≥ a
  · by_cases c2 : x ≤ b
    · rw [decide_eq_true ⟨c1, c2⟩]
      simp (disch := omega) only [Tref04in, Lref04in, hB, hR, hI, c1, c2, all1, ress, res1, retV, Value.cells, newsV_s, e_fork, slcV, seval, eV]
      with_reducible refine done2 ?_
      repeat (first | refine ext_new hN ?_ | exact fun _ _ h => h)
    · rw [decide_eq_false fun h => c2 h.2]
      simp (disch := omega) only [Tref04in, Lref04in, hB, hR, hI, c1, c2, all1, ress, res1, retV, Value.cells, newsV_s, e_fork, slcV, seval, eV]
      with_reducible refine done2 ?_
      repeat (first | refine ext_new hN ?_ | exact fun _ _ h => h)
  · rw [decide_eq_false fun h => c1 h.1]
    simp (disch := omega) only [Tref04in, Lref04in, hB, hR, hI, c1, all1, ress, res1, retV, Value.cells, newsV_s, e_fork, slcV, seval, eV]
    with_reducible refine done2 ?_
    repeat (first | refine ext_new hN ?_ | exact fun _ _ h => h)
def Lref04Fits : FnL := ⟨(.seq (.ops [oa 1 (.box (ot 0)),oa 2 (.mv (.const (.bool false)))])
 (.seq (.ops [og 3 0 1,ol 4 3,oa 5 (.call (.func 69) [(ot 4), (oi 1), (oi 5)]),om 6 5,ob 7 (.faddr 1 (ot 1)) 6 true,ob 8 (.load false 1 (ot 7)) 6 true,ob 9 (.call (.func 69) [(ot 8), (oi 1), (oi 16)]) 6 true,oa 10 (.pick (ot 6) (ot 9) (.const (.bool false))),om 11 10,ob 12 (.faddr 2 (ot 1)) 11 true,ob 13 (.load false 1 (ot 12)) 11 true,ob 14 (.call (.func 69) [(ot 13), (oi 1), (oi 256)]) 11 true,oa 15 (.pick (ot 11) (ot 14) (.const (.bool false))),om 2 15])
 .ret)),
 16, [.tmp 2]⟩
theorem lowref04Fits : lowerFn Tryz.prog Tryz.f39 = some Lref04Fits := by kernel_rfl
noncomputable def Gref04Fits (B : OH) : Nat → Cs
  | 69 => Vref04in B
  | _ => fun _ _ _ => none
theorem Gref04Fits_ref04in {B : OH} : Gref04Fits B 69 = Vref04in B := rfl
theorem sGref04Fits {w0 : World} {B : OH} : SoundG Tryz.prog w0 B { f := Gref04Fits B } := .of fun k => by
  unfold Gref04Fits
  split
  · exact .inr ⟨enref04in, sVref04in⟩
  · exact .inl fun _ _ _ => rfl
theorem enref04Fits : Enter Tryz.prog 39 := .of Tryz.func39 (by kernel_rfl) (by kernel_rfl)
noncomputable def Tref04Fits (B : OH) : Cs := callF B { f := Gref04Fits B } 1000000 Lref04Fits
theorem sTref04Fits {w0 : World} {B : OH} : SoundC Tryz.prog w0 B 39 (Tref04Fits B) := callF_sound mixedOrders sGref04Fits 1000000 Tryz.func39 lowref04Fits
noncomputable def Fref04Fits (B : OH) : List Value → Option Value := kval B (Tref04Fits B)
noncomputable def Vref04Fits (B : OH) : Cs := fun a H N => pvE (Fref04Fits B a) H N
theorem Vref04Fits_eq {B : OH} {a : List Value} {H : HL} {N : St} : Vref04Fits B a H N = pvE (Fref04Fits B a) H N := rfl
theorem sVref04Fits {w0 : World} {B : OH} : SoundC Tryz.prog w0 B 39 (Vref04Fits B) := sTref04Fits.ofVal
theorem rFits {B : OH} (hG : ∃ H N, good B H N) (k p c : Int) : Fref04Fits B [.agg #[.int .i64 k, .int .i64 p, .int .i64 c]] = some (.bool (decide (fitI k p c))) := by
  refine kval_eq hG fun H N hN => ?_
  have hB := good_B hN
  have hR := good_rdB hN
  have hI := beqN hN.1.1
  have e1 := fin hG k 1 5
  have e2 := fin hG p 1 16
  have e3 := fin hG c 1 256
  by_cases c1 : 1 ≤ k ∧ k ≤ 5
  · by_cases c2 : 1 ≤ p ∧ p ≤ 16
    · by_cases c3 : 1 ≤ c ∧ c ≤ 256
      · rw [decide_eq_true (show fitI k p c from ⟨c1, c2, c3⟩)]
        rw [decide_eq_true c1] at e1; rw [decide_eq_true c2] at e2; rw [decide_eq_true c3] at e3
        simp (disch := omega) only [Tref04Fits, Lref04Fits, Gref04Fits_ref04in, Vref04in_eq, hB, hR, hI, e1, e2, e3, all1, ress, res1, retV, Value.cells, newsV_s, e_fork, slcV, seval, eV]
        with_reducible refine done2 ?_
        repeat (first | refine ext_new hN ?_ | exact fun _ _ h => h)
      · rw [decide_eq_false (show ¬ fitI k p c from fun h => c3 h.2.2)]
        rw [decide_eq_true c1] at e1; rw [decide_eq_true c2] at e2; rw [decide_eq_false c3] at e3
        simp (disch := omega) only [Tref04Fits, Lref04Fits, Gref04Fits_ref04in, Vref04in_eq, hB, hR, hI, e1, e2, e3, all1, ress, res1, retV, Value.cells, newsV_s, e_fork, slcV, seval, eV]
        with_reducible refine done2 ?_
        repeat (first | refine ext_new hN ?_ | exact fun _ _ h => h)
    · rw [decide_eq_false (show ¬ fitI k p c from fun h => c2 h.2.1)]
      rw [decide_eq_true c1] at e1; rw [decide_eq_false c2] at e2
      simp (disch := omega) only [Tref04Fits, Lref04Fits, Gref04Fits_ref04in, Vref04in_eq, hB, hR, hI, e1, e2, all1, ress, res1, retV, Value.cells, newsV_s, e_fork, slcV, seval, eV]
      with_reducible refine done2 ?_
      repeat (first | refine ext_new hN ?_ | exact fun _ _ h => h)
  · rw [decide_eq_false (show ¬ fitI k p c from fun h => c1 h.1)]
    rw [decide_eq_false c1] at e1
    simp (disch := omega) only [Tref04Fits, Lref04Fits, Gref04Fits_ref04in, Vref04in_eq, hB, hR, hI, e1, all1, ress, res1, retV, Value.cells, newsV_s, e_fork, slcV, seval, eV]
    with_reducible refine done2 ?_
    repeat (first | refine ext_new hN ?_ | exact fun _ _ h => h)
theorem rFits1 {B : OH} (hG : ∃ H N, good B H N) {kk p cc h : Nat} (C : Cf kk p cc h) : Fref04Fits B [.agg #[.int .i64 (kk : Int), .int .i64 (p : Int), .int .i64 (cc : Int)]] = some (.bool true) := by
  rw [rFits hG, decide_eq_true (cfit C)]
def Lref04Home : FnL := ⟨(.seq (.ops [oa 1 (.box (ot 0)),oa 2 (.mv (oi 0))])
 (.seq (.seq (.ops [oa 3 (.load true 3 (ot 1)),oa 4 (.call (.func 39) [(ot 3)]),oa 5 (.un .not (ot 4))])
 (.cond (ot 5) (.seq (.ops [oa 2 (.mv (oi 0))])
 .ret)
 .skip))
 (.seq (.seq (.ops [og 6 0 1,ol 7 6])
 (.block 0 (.seq (.ops [oa 9 (.bin .eql (ot 7) (oi 1)),om 8 9])
 (.cond (ot 8) (.seq (.ops [oa 2 (.mv (oi 1))])
 .ret)
 (.seq (.ops [oa 11 (.bin .eql (ot 7) (oi 2)),om 10 11])
 (.cond (ot 10) (.seq (.ops [og 12 2 1,ol 13 12,oa 14 (.bin .mul (oi 2) (ot 13)),oa 15 (.bin .add (oi 1) (ot 14)),om 2 15])
 .ret)
 (.seq (.ops [oa 17 (.bin .eql (ot 7) (oi 3)),om 16 17])
 (.cond (ot 16) (.seq (.ops [og 18 2 1,ol 19 18,oa 20 (.bin .mul (oi 4) (ot 19)),oa 21 (.bin .add (oi 1) (ot 20)),om 2 21])
 .ret)
 (.seq (.ops [oa 23 (.bin .eql (ot 7) (oi 4)),om 22 23])
 (.cond (ot 22) (.seq (.ops [og 24 2 1,ol 25 24,oa 26 (.bin .mul (oi 4) (ot 25)),oa 27 (.bin .add (oi 2) (ot 26)),om 2 27])
 .ret)
 .skip))))))))))
 (.seq (.ops [og 28 2 1,ol 29 28,oa 30 (.bin .add (oi 1) (ot 29)),oa 31 (.bin .add (ot 30) (oi 8)),om 2 31])
 .ret)))),
 32, [.tmp 2]⟩
theorem lowref04Home : lowerFn Tryz.prog Tryz.f105 = some Lref04Home := by kernel_rfl
noncomputable def Gref04Home (B : OH) : Nat → Cs
  | 39 => Vref04Fits B
  | _ => fun _ _ _ => none
theorem Gref04Home_ref04Fits {B : OH} : Gref04Home B 39 = Vref04Fits B := rfl
theorem sGref04Home {w0 : World} {B : OH} : SoundG Tryz.prog w0 B { f := Gref04Home B } := .of fun k => by
  unfold Gref04Home
  split
  · exact .inr ⟨enref04Fits, sVref04Fits⟩
  · exact .inl fun _ _ _ => rfl
theorem enref04Home : Enter Tryz.prog 105 := .of Tryz.func105 (by kernel_rfl) (by kernel_rfl)
noncomputable def Tref04Home (B : OH) : Cs := callF B { f := Gref04Home B } 1000000 Lref04Home
theorem sTref04Home {w0 : World} {B : OH} : SoundC Tryz.prog w0 B 105 (Tref04Home B) := callF_sound mixedOrders sGref04Home 1000000 Tryz.func105 lowref04Home
noncomputable def Fref04Home (B : OH) : List Value → Option Value := kval B (Tref04Home B)
noncomputable def Vref04Home (B : OH) : Cs := fun a H N => pvE (Fref04Home B a) H N
theorem Vref04Home_eq {B : OH} {a : List Value} {H : HL} {N : St} : Vref04Home B a H N = pvE (Fref04Home B a) H N := rfl
theorem sVref04Home {w0 : World} {B : OH} : SoundC Tryz.prog w0 B 105 (Vref04Home B) := sTref04Home.ofVal
set_option maxHeartbeats 1000000 in
theorem rHome {B : OH} (hG : ∃ H N, good B H N) {kk p cc h : Nat} (C : Cf kk p cc h) : Fref04Home B [.agg #[.int .i64 (kk : Int), .int .i64 (p : Int), .int .i64 (cc : Int)]] = some (.int .i64 (h : Int)) := by
  refine kval_eq hG fun H N hN => ?_
  have hB := good_B hN
  have hR := good_rdB hN
  have hI := beqN hN.1.1
  have e := rFits1 hG C
  have hm' := C.m
  have hk := C.k
  have hc := C.c
  unfold hm at hm'
  obtain rfl | rfl | rfl | rfl | rfl : kk = 1 ∨ kk = 2 ∨ kk = 3 ∨ kk = 4 ∨ kk = 5 := by omega
  · have hh : (h : Int) = 1 := by simpa using hm'.symm
    simp only [Int.cast_ofNat_Int] at e
    simp (disch := omega) only [Tref04Home, Lref04Home, Gref04Home_ref04Fits, Vref04Fits_eq, hB, hR, hI, e, Int.cast_ofNat_Int, hh, all1, ress, res1, retV, Value.cells, newsV_s, e_fork, slcV, seval, eV]
    with_reducible refine done2 ?_
    repeat (first | refine ext_new hN ?_ | exact fun _ _ h => h)
  · have hh : (h : Int) = 1 + 2 * (cc : Int) := by simpa using hm'.symm
    simp only [Int.cast_ofNat_Int] at e
    simp (disch := omega) only [Tref04Home, Lref04Home, Gref04Home_ref04Fits, Vref04Fits_eq, hB, hR, hI, e, Int.cast_ofNat_Int, hh, all1, ress, res1, retV, Value.cells, newsV_s, e_fork, slcV, seval, eV]
    with_reducible refine done2 ?_
    repeat (first | refine ext_new hN ?_ | exact fun _ _ h => h)
  · have hh : (h : Int) = 1 + 4 * (cc : Int) := by simpa using hm'.symm
    simp only [Int.cast_ofNat_Int] at e
    simp (disch := omega) only [Tref04Home, Lref04Home, Gref04Home_ref04Fits, Vref04Fits_eq, hB, hR, hI, e, Int.cast_ofNat_Int, hh, all1, ress, res1, retV, Value.cells, newsV_s, e_fork, slcV, seval, eV]
    with_reducible refine done2 ?_
    repeat (first | refine ext_new hN ?_ | exact fun _ _ h => h)
  · have hh : (h : Int) = 2 + 4 * (cc : Int) := by simpa using hm'.symm
    simp only [Int.cast_ofNat_Int] at e
    simp (disch := omega) only [Tref04Home, Lref04Home, Gref04Home_ref04Fits, Vref04Fits_eq, hB, hR, hI, e, Int.cast_ofNat_Int, hh, all1, ress, res1, retV, Value.cells, newsV_s, e_fork, slcV, seval, eV]
    with_reducible refine done2 ?_
    repeat (first | refine ext_new hN ?_ | exact fun _ _ h => h)
  · have hh : (h : Int) = 1 + (cc : Int) + 8 := by
      have : (h : Int) = 9 + (cc : Int) := by simpa using hm'.symm
      omega
    simp only [Int.cast_ofNat_Int] at e
    simp (disch := omega) only [Tref04Home, Lref04Home, Gref04Home_ref04Fits, Vref04Fits_eq, hB, hR, hI, e, Int.cast_ofNat_Int, hh, all1, ress, res1, retV, Value.cells, newsV_s, e_fork, slcV, seval, eV]
    with_reducible refine done2 ?_
    repeat (first | refine ext_new hN ?_ | exact fun _ _ h => h)
def Lref04LogSize : FnL := ⟨(.seq (.ops [oa 1 (.box (ot 0)),oa 2 (.mv (oi 0))])
 (.seq (.seq (.ops [oa 3 (.load true 3 (ot 1)),oa 4 (.call (.func 39) [(ot 3)]),oa 5 (.un .not (ot 4))])
 (.cond (ot 5) (.seq (.ops [oa 2 (.mv (oi 0))])
 .ret)
 .skip))
 (.seq (.draw [oe 6 (.load true 3 (ot 1)),pg 8 1 1,pl 9 8,oe 10 (.bin .mul (oi 2) (ot 9)), ⟨oa 7 (.call (.func 105) [(ot 6)]), [ol 9 8]⟩,oe 11 (.bin .add (ot 7) (ot 10)),oe 12 (.bin .mul (oi 2) (ot 11)),oe 13 (.bin .add (oi 1) (ot 12)),pm 2 13])
 .ret))),
 14, [.tmp 2]⟩
theorem lowref04LogSize : lowerFn Tryz.prog Tryz.f70 = some Lref04LogSize := by kernel_rfl
noncomputable def Gref04LogSize (B : OH) : Nat → Cs
  | 39 => Vref04Fits B
  | 105 => Vref04Home B
  | _ => fun _ _ _ => none
theorem Gref04LogSize_ref04Fits {B : OH} : Gref04LogSize B 39 = Vref04Fits B := rfl
theorem Gref04LogSize_ref04Home {B : OH} : Gref04LogSize B 105 = Vref04Home B := rfl
theorem sGref04LogSize {w0 : World} {B : OH} : SoundG Tryz.prog w0 B { f := Gref04LogSize B } := .of fun k => by
  unfold Gref04LogSize
  split
  · exact .inr ⟨enref04Fits, sVref04Fits⟩
  · exact .inr ⟨enref04Home, sVref04Home⟩
  · exact .inl fun _ _ _ => rfl
theorem enref04LogSize : Enter Tryz.prog 70 := .of Tryz.func70 (by kernel_rfl) (by kernel_rfl)
noncomputable def Tref04LogSize (B : OH) : Cs := callF B { f := Gref04LogSize B } 1000000 Lref04LogSize
theorem sTref04LogSize {w0 : World} {B : OH} : SoundC Tryz.prog w0 B 70 (Tref04LogSize B) := callF_sound mixedOrders sGref04LogSize 1000000 Tryz.func70 lowref04LogSize
noncomputable def Fref04LogSize (B : OH) : List Value → Option Value := kval B (Tref04LogSize B)
noncomputable def Vref04LogSize (B : OH) : Cs := fun a H N => pvE (Fref04LogSize B a) H N
theorem Vref04LogSize_eq {B : OH} {a : List Value} {H : HL} {N : St} : Vref04LogSize B a H N = pvE (Fref04LogSize B a) H N := rfl
theorem sVref04LogSize {w0 : World} {B : OH} : SoundC Tryz.prog w0 B 70 (Vref04LogSize B) := sTref04LogSize.ofVal
theorem rLog {B : OH} (hG : ∃ H N, good B H N) {kk p cc h : Nat} (C : Cf kk p cc h) : Fref04LogSize B [.agg #[.int .i64 (kk : Int), .int .i64 (p : Int), .int .i64 (cc : Int)]] = some (.int .i64 (LG p h : Int)) := by
  refine kval_eq hG fun H N hN => ?_
  have hB := good_B hN
  have hR := good_rdB hN
  have hI := beqN hN.1.1
  have e := rFits1 hG C
  have e2 := rHome hG C
  have hh := C.h
  have hp := C.p
  have hl : (LG p h : Int) = 1 + 2 * ((h : Int) + 2 * (p : Int)) := by unfold LG; omega
  simp (disch := omega) only [Tref04LogSize, Lref04LogSize, Gref04LogSize_ref04Fits, Vref04Fits_eq, Gref04LogSize_ref04Home, Vref04Home_eq, hB, hR, hI, e, e2, hl, all1, ress, res1, retV, Value.cells, newsV_s, e_fork, slcV, seval, eV]
  with_reducible refine done2 ?_
  repeat (first | refine ext_new hN ?_ | exact fun _ _ h => h)
def Lref04Size : FnL := ⟨(.seq (.ops [oa 1 (.box (ot 0)),oa 2 (.mv (oi 0))])
 (.seq (.seq (.ops [oa 3 (.load true 3 (ot 1)),oa 4 (.call (.func 39) [(ot 3)]),oa 5 (.un .not (ot 4))])
 (.cond (ot 5) (.seq (.ops [oa 2 (.mv (oi 0))])
 .ret)
 .skip))
 (.seq (.draw [pg 6 1 1,pl 7 6,oe 8 (.load true 3 (ot 1)),oe 13 (.load true 3 (ot 1)), ⟨oa 9 (.call (.func 70) [(ot 8)]), [ol 7 6,oa 13 (.load true 3 (ot 1))]⟩,oe 10 (.bin .add (oi 5) (ot 9)),oe 11 (.bin .mul (ot 7) (ot 10)),oe 12 (.bin .add (oi 1) (ot 11)), ⟨oa 14 (.call (.func 105) [(ot 13)]), [ol 7 6]⟩,oe 15 (.bin .add (ot 12) (ot 14)),pm 2 15])
 .ret))),
 16, [.tmp 2]⟩
theorem lowref04Size : lowerFn Tryz.prog Tryz.f47 = some Lref04Size := by kernel_rfl
noncomputable def Gref04Size (B : OH) : Nat → Cs
  | 39 => Vref04Fits B
  | 105 => Vref04Home B
  | 70 => Vref04LogSize B
  | _ => fun _ _ _ => none
theorem Gref04Size_ref04Fits {B : OH} : Gref04Size B 39 = Vref04Fits B := rfl
theorem Gref04Size_ref04Home {B : OH} : Gref04Size B 105 = Vref04Home B := rfl
theorem Gref04Size_ref04LogSize {B : OH} : Gref04Size B 70 = Vref04LogSize B := rfl
theorem sGref04Size {w0 : World} {B : OH} : SoundG Tryz.prog w0 B { f := Gref04Size B } := .of fun k => by
  unfold Gref04Size
  split
  · exact .inr ⟨enref04Fits, sVref04Fits⟩
  · exact .inr ⟨enref04Home, sVref04Home⟩
  · exact .inr ⟨enref04LogSize, sVref04LogSize⟩
  · exact .inl fun _ _ _ => rfl
theorem enref04Size : Enter Tryz.prog 47 := .of Tryz.func47 (by kernel_rfl) (by kernel_rfl)
noncomputable def Tref04Size (B : OH) : Cs := callF B { f := Gref04Size B } 1000000 Lref04Size
theorem sTref04Size {w0 : World} {B : OH} : SoundC Tryz.prog w0 B 47 (Tref04Size B) := callF_sound mixedOrders sGref04Size 1000000 Tryz.func47 lowref04Size
noncomputable def Fref04Size (B : OH) : List Value → Option Value := kval B (Tref04Size B)
noncomputable def Vref04Size (B : OH) : Cs := fun a H N => pvE (Fref04Size B a) H N
theorem Vref04Size_eq {B : OH} {a : List Value} {H : HL} {N : St} : Vref04Size B a H N = pvE (Fref04Size B a) H N := rfl
theorem sVref04Size {w0 : World} {B : OH} : SoundC Tryz.prog w0 B 47 (Vref04Size B) := sTref04Size.ofVal
theorem rSize {B : OH} (hG : ∃ H N, good B H N) {kk p cc h : Nat} (C : Cf kk p cc h) : Fref04Size B [.agg #[.int .i64 (kk : Int), .int .i64 (p : Int), .int .i64 (cc : Int)]] = some (.int .i64 (bs p h 5 : Int)) := by
  refine kval_eq hG fun H N hN => ?_
  have hB := good_B hN
  have hR := good_rdB hN
  have hI := beqN hN.1.1
  have e := rFits1 hG C
  have e2 := rHome hG C
  have e3 := rLog hG C
  have hh := C.h
  have hp := C.p
  have hb := LG_b C
  have hm1 : (p : Int) * (5 + (LG p h : Int)) = ((5 * p + LG p h * p : Nat) : Int) := by
    rw [Int.mul_add, Int.natCast_add, Int.natCast_mul, Int.natCast_mul, Int.mul_comm (LG p h : Int)]; omega
  have hb5 : (bs p h 5 : Int) = 1 + ((5 * p + LG p h * p : Nat) : Int) + (h : Int) := by rw [bs_5]; omega
  have hw1 : IntKind.i64.wrap (5 + (LG p h : Int)) = 5 + (LG p h : Int) := IntWalk.i64_in _ (by omega)
  have hw2 : IntKind.i64.wrap ((5 * p + LG p h * p : Nat) : Int) = ((5 * p + LG p h * p : Nat) : Int) := IntWalk.i64_in _ (by omega)
  have hw3 : IntKind.i64.wrap (1 + ((5 * p + LG p h * p : Nat) : Int)) = 1 + ((5 * p + LG p h * p : Nat) : Int) := IntWalk.i64_in _ (by omega)
  have hw4 : IntKind.i64.wrap (1 + ((5 * p + LG p h * p : Nat) : Int) + (h : Int)) = 1 + ((5 * p + LG p h * p : Nat) : Int) + (h : Int) := IntWalk.i64_in _ (by omega)
  simp (disch := omega) only [Tref04Size, Lref04Size, Gref04Size_ref04Fits, Vref04Fits_eq, Gref04Size_ref04Home, Vref04Home_eq, Gref04Size_ref04LogSize, Vref04LogSize_eq, hB, hR, hI, e, e2, e3, hm1, hb5, hw1, hw2, hw3, hw4, all1, ress, res1, retV, Value.cells, newsV_s, e_fork, slcV, seval, eV]
  with_reducible refine done2 ?_
  repeat (first | refine ext_new hN ?_ | exact fun _ _ h => h)
end Go.Proofs.YtbpaekbjpapgeaaGreatDoor
namespace Go.Proofs.YtbpaekbjpapgeaaGreatDoor
open Go.Proofs.YtbpaekbjpapgeaaGreatDoor.K Go.ChangeShapes Go.WideShapes Go.ChangeAt Go.RowKit 
set_option maxRecDepth 100000
set_option linter.unusedSimpArgs false
set_option linter.unusedVariables false
def okP (p h : Nat) (w : Int) : Prop := ((bs p h 2 : Nat) : Int) ≤ w ∧ w < ((bs p h 3 : Nat) : Int) ∨ ((bs p h 4 : Nat) : Int) ≤ w ∧ w < ((bs p h 5 : Nat) : Int)
instance (p h : Nat) (w : Int) : Decidable (okP p h w) := by unfold okP; exact inferInstance
theorem okP_b {kk p cc h : Nat} (C : Cf kk p cc h) {w : Int} (ho : okP p h w) : 0 ≤ w ∧ w < ((bs p h 5 : Nat) : Int) ∧ bs p h 5 ≤ 35000 := by
  have hb := LG_b C
  have hh := C.h
  have hp := C.p
  unfold okP at ho
  rw [bs_2, bs_3, bs_4, bs_5] at ho
  rw [bs_5]
  omega
theorem bs5_b {kk p cc h : Nat} (C : Cf kk p cc h) : bs p h 5 ≤ 35000 := by
  have hb := LG_b C
  have hh := C.h
  have hp := C.p
  rw [bs_5]
  omega
end Go.Proofs.YtbpaekbjpapgeaaGreatDoor
namespace Go.Proofs.YtbpaekbjpapgeaaGreatDoor
open Go.Proofs.YtbpaekbjpapgeaaGreatDoor.K Go.ChangeShapes Go.WideShapes Go.ChangeAt Go.RowKit 
set_option maxRecDepth 100000
set_option linter.unusedSimpArgs false
set_option linter.unusedVariables false
def plV (p h : Nat) (w : Int) : Value := if okP p h w then .tuple #[.int .i64 w, .bool true] else .tuple #[.int .i64 0, .bool false]
theorem plV_y {p h : Nat} {w : Int} (H : okP p h w) : plV p h w = .tuple #[.int .i64 w, .bool true] := if_pos H
theorem plV_n {p h : Nat} {w : Int} (H : ¬ okP p h w) : plV p h w = .tuple #[.int .i64 0, .bool false] := if_neg H
theorem okP_part {kk p cc h : Nat} (C : Cf kk p cc h) {k w : Nat} (hk : k < 5) (h1 : bs p h k ≤ w) (h2 : w < bs p h (k + 1)) : okP p h w ↔ (k = 2 ∨ k = 4) := by
  have b0 : bs p h 0 = 0 := rfl
  have b1 := bs_1 (p := p) (h := h)
  have b2 := bs_2 (p := p) (h := h)
  have b3 := bs_3 (p := p) (h := h)
  have b4 := bs_4 (p := p) (h := h)
  have b5 := bs_5 (p := p) (h := h)
  have hh := C.h
  have hp := C.p
  unfold okP
  obtain rfl | rfl | rfl | rfl | rfl : k = 0 ∨ k = 1 ∨ k = 2 ∨ k = 3 ∨ k = 4 := by omega
  all_goals (simp only [Nat.zero_add, Nat.reduceAdd] at h1 h2; omega)
def LwlogPlace : FnL := ⟨(.seq (.ops [oa 2 (.box (ot 0)),oa 4 (.mv (oi 0)),oa 5 (.mv (.const (.bool false)))])
 (.seq (.seq (.ops [om 9 1,oa 10 (.load true 3 (ot 2)),oa 11 (.call (.func 44) [(ot 10)]),oa 12 (.conv .u64 (ot 11)),oa 13 (.bin .geq (ot 9) (ot 12))])
 (.cond (ot 13) (.seq (.ops [oa 4 (.mv (oi 0)),oa 5 (.mv (.const (.bool false)))])
 .ret)
 .skip))
 (.seq (.seq (.ops [oa 15 (.load true 3 (ot 2)),om 16 1,oa 17 (.conv .i64 (ot 16)),oa 18 (.call (.func 23) [(ot 15), (ot 17)]),om 14 18,oa 19 (.ext (ot 14) 0),oa 20 (.ext (ot 14) 1),oa 21 (.ext (ot 14) 2),om 6 19,om 7 20,om 8 21])
 (.seq (.ops [om 22 6])
 (.block 0 (.seq (.seq (.ops [oa 24 (.bin .eql (ot 22) (oi 2)),om 23 24])
 (.cond (ot 23) .skip
 (.ops [oa 25 (.bin .eql (ot 22) (oi 4)),om 23 25])))
 (.cond (ot 23) (.seq (.ops [om 26 1,oa 27 (.conv .i64 (ot 26)),om 4 27,oa 5 (.mv (.const (.bool true)))])
 .ret)
 .skip)))))
 (.seq (.ops [oa 4 (.mv (oi 0)),oa 5 (.mv (.const (.bool false)))])
 .ret)))),
 28, [.tmp 4, .tmp 5]⟩
theorem lowwlogPlace : lowerFn Tryz.prog Tryz.f67 = some LwlogPlace := by kernel_rfl
noncomputable def GwlogPlace (B : OH) : Nat → Cs
  | 44 => V7 B
  | 23 => V9 B
  | _ => fun _ _ _ => none
theorem GwlogPlace_7 {B : OH} : GwlogPlace B 44 = V7 B := rfl
theorem GwlogPlace_9 {B : OH} : GwlogPlace B 23 = V9 B := rfl
theorem sGwlogPlace {w0 : World} {B : OH} : SoundG Tryz.prog w0 B { f := GwlogPlace B } := .of fun k => by
  unfold GwlogPlace
  split
  · exact .inr ⟨en7, sV7⟩
  · exact .inr ⟨en9, sV9⟩
  · exact .inl fun _ _ _ => rfl
theorem enwlogPlace : Enter Tryz.prog 67 := .of Tryz.func67 (by kernel_rfl) (by kernel_rfl)
noncomputable def TwlogPlace (B : OH) : Cs := callF B { f := GwlogPlace B } 1000000 LwlogPlace
theorem sTwlogPlace {w0 : World} {B : OH} : SoundC Tryz.prog w0 B 67 (TwlogPlace B) := callF_sound mixedOrders sGwlogPlace 1000000 Tryz.func67 lowwlogPlace
noncomputable def FwlogPlace (B : OH) : List Value → Option Value := kval B (TwlogPlace B)
noncomputable def VwlogPlace (B : OH) : Cs := fun a H N => pvE (FwlogPlace B a) H N
theorem VwlogPlace_eq {B : OH} {a : List Value} {H : HL} {N : St} : VwlogPlace B a H N = pvE (FwlogPlace B a) H N := rfl
theorem sVwlogPlace {w0 : World} {B : OH} : SoundC Tryz.prog w0 B 67 (VwlogPlace B) := sTwlogPlace.ofVal
set_option maxHeartbeats 1000000 in
theorem fPlace {B : OH} (hG : ∃ H N, good B H N) (hT : Tab B) {kk p cc h : Nat} (C : Cf kk p cc h) {w : Int} (hu : u64R w) : FwlogPlace B [.agg #[.int .i64 (kk : Int), .int .i64 (p : Int), .int .i64 (cc : Int)], .int .u64 w] = some (plV p h w) := by
  refine kval_eq hG fun H N hN => ?_
  have hB := good_B hN
  have hR := good_rdB hN
  have hI := beqN hN.1.1
  have e := f7c hG hT C
  have hb5 := bs5_b C
  unfold u64R at hu
  have wz : IntKind.u64.wrap ((bs p h 5 : Nat) : Int) = ((bs p h 5 : Nat) : Int) := IntWalk.u64_in _ (by omega)
  by_cases hw : w ≥ ((bs p h 5 : Nat) : Int)
  · rw [plV_n (fun h => by have := okP_b C h; omega)]
    simp (disch := omega) only [TwlogPlace, LwlogPlace, GwlogPlace_7, V7_eq, GwlogPlace_9, V9_eq, hB, hR, hI, e, wz, hw, all1, ress, res1, retV, Value.cells, newsV_s, e_fork, slcV, seval, eV]
    with_reducible refine done2 ?_
    repeat (first | refine ext_new hN ?_ | exact fun _ _ h => h)
  obtain ⟨n, rfl⟩ : ∃ n : Nat, w = (n : Int) := ⟨w.toNat, by omega⟩
  have hn : n < bs p h 5 := by omega
  have wn : IntKind.i64.wrap (n : Int) = (n : Int) := IntWalk.i64_in _ (by omega)
  obtain ⟨k, o, hk, ho, h1, h2⟩ := has_part (p := p) C.h.1 5 hn
  have e9 := f9 hG hT C.k C.p C.c C.m hk ho h1 h2
  have hle : bs p h k ≤ n := by unfold fr at h1; omega
  have hlt : n < bs p h (k + 1) := by
    have := fr_lt (p := p) (h := h) ho (show Lt k o (k + 1) 0 from .inl (by omega))
    rw [fr_zero] at this; omega
  have hp := okP_part C hk hle hlt
  by_cases h24 : k = 2 ∨ k = 4
  · rw [plV_y (hp.2 h24)]
    rcases h24 with rfl | rfl
    · have c1 : (((2 : Nat) : Int) == 2) = true := rfl
      simp (disch := omega) only [TwlogPlace, LwlogPlace, GwlogPlace_7, V7_eq, GwlogPlace_9, V9_eq, hB, hR, hI, e, e9, wz, hw, wn, c1, all1, ress, res1, retV, Value.cells, newsV_s, e_fork, slcV, seval, eV]
      with_reducible refine done2 ?_
      repeat (first | refine ext_new hN ?_ | exact fun _ _ h => h)
    · have c1 : (((4 : Nat) : Int) == 2) = false := rfl
      have c2 : (((4 : Nat) : Int) == 4) = true := rfl
      simp (disch := omega) only [TwlogPlace, LwlogPlace, GwlogPlace_7, V7_eq, GwlogPlace_9, V9_eq, hB, hR, hI, e, e9, wz, hw, wn, c1, c2, all1, ress, res1, retV, Value.cells, newsV_s, e_fork, slcV, seval, eV]
      with_reducible refine done2 ?_
      repeat (first | refine ext_new hN ?_ | exact fun _ _ h => h)
  · rw [plV_n (fun h => h24 (hp.1 h))]
    have c1 : ((k : Int) == 2) = false := beqI (by omega)
    have c2 : ((k : Int) == 4) = false := beqI (by omega)
    simp (disch := omega) only [TwlogPlace, LwlogPlace, GwlogPlace_7, V7_eq, GwlogPlace_9, V9_eq, hB, hR, hI, e, e9, wz, hw, wn, c1, c2, all1, ress, res1, retV, Value.cells, newsV_s, e_fork, slcV, seval, eV]
    with_reducible refine done2 ?_
    repeat (first | refine ext_new hN ?_ | exact fun _ _ h => h)
end Go.Proofs.YtbpaekbjpapgeaaGreatDoor
namespace Go.Proofs.YtbpaekbjpapgeaaGreatDoor
open Go.Proofs.YtbpaekbjpapgeaaGreatDoor.K Go.ChangeShapes Go.WideShapes Go.ChangeAt Go.RowKit 
set_option maxRecDepth 100000
set_option linter.unusedSimpArgs false
set_option linter.unusedVariables false
structure C2 where
  w : Int
  l : Int
  deriving DecidableEq
def c2 (x : C2) : List Value := [.int .u64 x.w, .int .i64 x.l]
def z2 : C2 := ⟨0, 0⟩
structure W2 where
  a : Int
  w : Int
  deriving DecidableEq
def w2 (x : W2) : List Value := [.int .i64 x.a, .int .u64 x.w]
def y2 : W2 := ⟨0, 0⟩
def w1 (x : Int) : List Value := [.int .u64 x]
theorem c2_len (x : C2) : (c2 x).length = 2 := rfl
theorem all1_c2 (L : List C2) : all1 (fl c2 L) = true := by
  induction L with
  | nil => rfl
  | cons a L ih => exact ih
theorem rep_c2 (n : Nat) : (List.replicate n [Value.int .u64 0, .int .i64 0]).flatten = fl c2 (List.replicate n z2) := by
  induction n with
  | zero => rfl
  | succ n ih => rw [List.replicate_succ, List.replicate_succ, List.flatten_cons, ih]; rfl
structure Kref10Words (v w : Value) (n i : Nat) (ts : List Value) : Prop where
  l : ts.length = 26
  t0 : gt ts 0 = v
  t1 : gt ts 1 = w
  t5 : gt ts 5 = .int .i64 (i : Int)
structure KslicesEqual_uint64uint64 (v w : Value) (n i : Nat) (ts : List Value) : Prop where
  l : ts.length = 26
  t0 : gt ts 0 = v
  t1 : gt ts 1 = w
  t11 : gt ts 11 = v
  t12 : gt ts 12 = .int .i64 (n : Int)
  t13 : gt ts 13 = .int .i64 (i : Int)
def Lref03New : FnL := ⟨(.seq (.ops [oa 2 (.alloc [(.slice none 0 0)]),oa 3 (.mv (oi 0))])
 (.seq (.seq (.ops [om 4 0,oa 5 (.bin .lss (ot 4) (oi 0)),om 6 5,ob 7 (.mv (ot 0)) 6 false,ob 8 (.bin .gtr (ot 7) (oi 1048576)) 6 false,oa 9 (.pick (ot 6) (.const (.bool true)) (ot 8))])
 (.cond (ot 9) (.seq (.ops [oa 10 (.build [(.slice none 0 0)] []), oc (.store 1 (ot 2) (ot 10)),oa 3 (.mv (oi 1))])
 .ret)
 .skip))
 (.seq (.ops [om 11 0,oa 12 (.mks [(.int .u64 0), (.int .i64 0)] 16 (ot 11) (ot 11)),oa 13 (.build [(.slice none 0 0)] [(0, 1, (ot 12))]), oc (.store 1 (ot 2) (ot 13)),oa 3 (.mv (oi 0))])
 .ret))),
 14, [.cell 2 true 1, .tmp 3]⟩
theorem lowref03New : lowerFn Tryz.prog Tryz.f59 = some Lref03New := by kernel_rfl
noncomputable def Gref03New (B : OH) : Nat → Cs
  | _ => fun _ _ _ => none
theorem sGref03New {w0 : World} {B : OH} : SoundG Tryz.prog w0 B { f := Gref03New B } := .of fun k => by
  unfold Gref03New
  split
  · exact .inl fun _ _ _ => rfl
theorem enref03New : Enter Tryz.prog 59 := .of Tryz.func59 (by kernel_rfl) (by kernel_rfl)
noncomputable def Tref03New (B : OH) : Cs := callF B { f := Gref03New B } 1000000 Lref03New
theorem sTref03New {w0 : World} {B : OH} : SoundC Tryz.prog w0 B 59 (Tref03New B) := callF_sound mixedOrders sGref03New 1000000 Tryz.func59 lowref03New
noncomputable def Vref03New (B : OH) : Cs := Tref03New B
theorem sVref03New {w0 : World} {B : OH} : SoundC Tryz.prog w0 B 59 (Vref03New B) := sTref03New
theorem mnew {B : OH} {H : HL} {N : St} (hN : good B H N) {n : Nat} (hn : n ≤ 1048576) : ∃ v H' N', Vref03New B [.int .i64 (n : Int)] H N = some (.ret (.tuple #[.agg #[v], .int .i64 0]), H', N') ∧ good B H' N' ∧ Fr H H' ∧ SlN c2 2 B H H' v (List.replicate n z2) := by
  have hB := good_B hN
  have hR := good_rdB hN
  have hI := beqN hN.1.1
  have n1 : ¬ (n : Int) < 0 := by omega
  have n2 : ¬ (n : Int) > 1048576 := by omega
  have n3 : (0 : Int) ≤ (n : Int) := by omega
  have n4 : (n : Int) ≤ (n : Int) := Int.le_refl _
  have n5 : (n : Int) ≤ 140737488355328 := by omega
  have n6 : (16 : Int) * (n : Int) ≤ 140737488355328 := by omega
  unfold Vref03New
  simp (disch := omega) only [Tref03New, Lref03New, hB, hR, hI, ev5, n1, n2, n3, n4, n5, n6, rep_c2, all1, ress, res1, retV, Value.cells, newsV_s, e_fork, slcV, seval, eV]
  refine ⟨_, _, _, rfl, ?_, ?_, .inr ⟨N.n 1, n, by rw [List.length_replicate], hB 1, lk_N hN 1, by rw [List.length_replicate]; exact Nat.le_refl _, ?_⟩⟩
  · exact good_new (good_new hN)
  · exact fr_new (good_new hN) (fr_new hN Fr.refl 0) 0
  · simp (disch := omega) only [Tref03New, Lref03New, hB, hR, hI, hB, all1, ress, res1, retV, Value.cells, newsV_s, e_fork, slcV, seval, eV]
def Lref03Own : FnL := ⟨(.seq (.ops [oa 1 (.box (ot 0)),oa 2 (.alloc [(.slice none 0 0)])])
 (.seq (.ops [og 3 0 1,ol 4 3,oa 5 (.app [(.int .u64 0), (.int .i64 0)] 16 (.const (.slice none 0 0)) (ot 4)),oa 6 (.build [(.slice none 0 0)] [(0, 1, (ot 5))]), oc (.store 1 (ot 2) (ot 6))])
 .ret)),
 7, [.cell 2 true 1]⟩
theorem lowref03Own : lowerFn Tryz.prog Tryz.f19 = some Lref03Own := by kernel_rfl
noncomputable def Gref03Own (B : OH) : Nat → Cs
  | _ => fun _ _ _ => none
theorem sGref03Own {w0 : World} {B : OH} : SoundG Tryz.prog w0 B { f := Gref03Own B } := .of fun k => by
  unfold Gref03Own
  split
  · exact .inl fun _ _ _ => rfl
theorem enref03Own : Enter Tryz.prog 19 := .of Tryz.func19 (by kernel_rfl) (by kernel_rfl)
noncomputable def Tref03Own (B : OH) : Cs := callF B { f := Gref03Own B } 1000000 Lref03Own
theorem sTref03Own {w0 : World} {B : OH} : SoundC Tryz.prog w0 B 19 (Tref03Own B) := callF_sound mixedOrders sGref03Own 1000000 Tryz.func19 lowref03Own
noncomputable def Vref03Own (B : OH) : Cs := Tref03Own B
theorem sVref03Own {w0 : World} {B : OH} : SoundC Tryz.prog w0 B 19 (Vref03Own B) := sTref03Own
theorem own {B : OH} {H : HL} {N : St} {v : Value} {L : List C2} (hN : good B H N) (hv : SlW c2 2 B H v L) (hL : L.length ≤ 900000) : ∃ v' H' N', Vref03Own B [.agg #[v]] H N = some (.ret (.agg #[v']), H', N') ∧ good B H' N' ∧ Fr H H' ∧ SlM c2 2 B H H' v' L := by
  have hB := good_B hN
  have hR := good_rdB hN
  have hI := beqN hN.1.1
  have g1 : good B ((N.n 0, .cells [v] 1) :: H) (sh N) := good_new hN
  have f1 : Fr H ((N.n 0, .cells [v] 1) :: H) := fr_new hN Fr.refl 0
  have g2 : good B (((sh N).n 0, .cells [.slice none 0 0] 1) :: (N.n 0, .cells [v] 1) :: H) (sh (sh N)) := good_new g1
  have f2 : Fr H (((sh N).n 0, .cells [.slice none 0 0] 1) :: (N.n 0, .cells [v] 1) :: H) := fr_new g1 f1 0
  obtain ⟨v4, H4, N4, e4, g4, r4, fs, s4, hb⟩ := app_many (H0 := H) (bytes := 16) (v := .slice none 0 0) (L := ([] : List C2)) c2_len (by omega) g2 f2 (.inl ⟨rfl, rfl⟩) (hv.mono f2) (all1_c2 _) (by simp only [List.length_nil]; omega) (by simp only [List.length_nil]; omega)
  rw [List.nil_append] at s4
  have l1 : lk H4 ((sh N).n 0) = some (.cells [.slice none 0 0] 1) := fs _ _ (by simp [slB]) lk_top
  obtain ⟨a, c, rfl, _⟩ := id hv
  simp only [sh_app] at e4 l1
  have hb1 := hB 1
  have rb1 := fun o n => rdB_none (o := o) (n := n) hb1
  have hw := s4.rd c2_len
  obtain ⟨a4, c4, rfl, _⟩ := id hw
  unfold Vref03Own
  simp (disch := omega) only [Tref03Own, Lref03Own, hB, hR, hI, ev5, e4, l1, hb1, rb1, all1, ress, res1, retV, Value.cells, e_fork, slcV, seval, eV]
  have gu := good_up (k := .cells [.slice a4 L.length c4] 1) g4 hb1 l1
  have fu : Fr H (upH H4 (N.n 1) (.cells [.slice a4 L.length c4] 1)) := fr_up r4 (lk_N hN 1)
  refine ⟨_, _, _, rfl, gu, fu, s4.mono fun y c hy e => ?_⟩
  have hne : (y == N.n 1) = false := by
    cases h : y == N.n 1 with
    | false => rfl
    | true =>
      have hy1 : y = N.n 1 := by simpa using h
      have hy0 : slB (.slice a4 L.length c4) = some (N.n 1) := by rw [hy, hy1]
      rcases hb with hb | hb
      · rw [hy0] at hb; simp [slB] at hb
      · rw [hy0] at hb
        have := hI 1 2
        have h3 : N.n 1 = N.n 2 := by simpa [sh_app] using hb
        rw [h3] at this; simp at this
  rw [lk_upH, hne, cond_false]; exact e
end Go.Proofs.YtbpaekbjpapgeaaGreatDoor
namespace Go.Proofs.YtbpaekbjpapgeaaGreatDoor
open Go.Proofs.YtbpaekbjpapgeaaGreatDoor.K Go.ChangeShapes Go.WideShapes Go.ChangeAt Go.RowKit 
set_option maxRecDepth 100000
set_option linter.unusedSimpArgs false
set_option linter.unusedVariables false
def Lcellscaught : FnC := ⟨(some 5), (.block 0 (.seq (.ops [oa 7 (.isn false (ot 5))])
 (.cond (ot 7) (.ops [om 2 5])
 (.seq (.ops [oa 8 (.tass 271 (.agg #[(.int .i64 0)]) (ot 5)),oa 9 (.ext (ot 8) 1),oa 10 (.ext (ot 8) 0)])
 (.cond (ot 9) (.seq (.ops [oa 3 (.alloc [(.int .i64 0)]), oc (.store 1 (ot 3) (ot 10))])
 (.ops [om 11 0,og 12 0 3,ol 13 12,oa 14 (.nilck (ot 11)), oc (.store 1 (ot 14) (ot 13))]))
 (.seq (.ops [om 4 5])
 (.ops [om 6 4, oc (.pan (ot 6))]))))))),
 15,[]⟩
theorem lowcellscaught : lowerCaught Tryz.prog Tryz.f199 = some Lcellscaught := by kernel_rfl
noncomputable def Gcellscaught (B : OH) : Nat → Cs
  | _ => fun _ _ _ => none
theorem sGcellscaught {w0 : World} {B : OH} : SoundG Tryz.prog w0 B { f := Gcellscaught B } := .of fun k => by
  unfold Gcellscaught
  split
  · exact .inl fun _ _ _ => rfl
noncomputable def Ucellscaught (B : OH) : Ds := callC B { f := Gcellscaught B } 1000000 Lcellscaught
theorem encellscaught : Enter Tryz.prog 199 := .of Tryz.func199 (by kernel_rfl) (by kernel_rfl)
theorem sUcellscaught {w0 : World} {B : OH} : SoundD Tryz.prog w0 B 199 (Ucellscaught B) := callC_sound mixedOrders sGcellscaught 1000000 Tryz.func199 lowcellscaught
def Lcellsplace_Cell : FnL := ⟨(.seq (.ops [oa 4 (.mv (.const (.pointer none)))])
 (.seq (.seq (.ops [om 5 1,oa 6 (.bin .lss (ot 5) (oi 0)),om 7 6,ob 8 (.mv (ot 1)) 7 false,ob 9 (.mv (ot 0)) 7 false,ob 10 (.len false (ot 9)) 7 false,ob 11 (.bin .geq (ot 8) (ot 10)) 7 false,oa 12 (.pick (ot 7) (.const (.bool true)) (ot 11))])
 (.cond (ot 12) (.ops [oa 13 (.build [(.int .i64 0)] [(0, 1, (oi 1))]),oa 14 (.ifc 271 (ot 13)), oc (.pan (ot 14))])
 .skip))
 (.seq (.ops [om 15 0,om 16 1,oa 17 (.iaddrS 2 (ot 15) (ot 16)),om 4 17])
 .ret))),
 18, [.tmp 4]⟩
theorem lowcellsplace_Cell : lowerFn Tryz.prog Tryz.f260 = some Lcellsplace_Cell := by kernel_rfl
noncomputable def Gcellsplace_Cell (B : OH) : Nat → Cs
  | _ => fun _ _ _ => none
theorem sGcellsplace_Cell {w0 : World} {B : OH} : SoundG Tryz.prog w0 B { f := Gcellsplace_Cell B } := .of fun k => by
  unfold Gcellsplace_Cell
  split
  · exact .inl fun _ _ _ => rfl
theorem encellsplace_Cell : Enter Tryz.prog 260 := .of Tryz.func260 (by kernel_rfl) (by kernel_rfl)
noncomputable def Tcellsplace_Cell (B : OH) : Cs := callF B { f := Gcellsplace_Cell B } 1000000 Lcellsplace_Cell
theorem sTcellsplace_Cell {w0 : World} {B : OH} : SoundC Tryz.prog w0 B 260 (Tcellsplace_Cell B) := callF_sound mixedOrders sGcellsplace_Cell 1000000 Tryz.func260 lowcellsplace_Cell
noncomputable def Vcellsplace_Cell (B : OH) : Cs := Tcellsplace_Cell B
theorem sVcellsplace_Cell {w0 : World} {B : OH} : SoundC Tryz.prog w0 B 260 (Vcellsplace_Cell B) := sTcellsplace_Cell
def Lcellscell : FnL := ⟨(.seq (.ops [oa 6 (.mv (.const (.pointer none)))])
 (.seq (.seq (.ops [om 7 0,oa 8 (.eqp false (ot 7) (.const (.pointer none))),om 9 8,ob 10 (.mv (ot 1)) 9 false,ob 11 (.bin .lss (ot 10) (oi 0)) 9 false,oa 12 (.pick (ot 9) (.const (.bool true)) (ot 11)),om 13 12,ob 14 (.mv (ot 1)) 13 false,ob 15 (.bin .geq (ot 14) (oi 16)) 13 false,oa 16 (.pick (ot 13) (.const (.bool true)) (ot 15))])
 (.cond (ot 16) (.ops [oa 17 (.build [(.int .i64 0)] [(0, 1, (oi 1))]),oa 18 (.ifc 271 (ot 17)), oc (.pan (ot 18))])
 .skip))
 (.seq (.ops [om 19 0,oa 20 (.nilck (ot 19)),og 21 0 20,ol 22 21,om 23 2,oa 24 (.call (.func 260) [(ot 22), (ot 23)]),om 6 24])
 .ret))),
 25, [.tmp 6]⟩
theorem lowcellscell : lowerFn Tryz.prog Tryz.f200 = some Lcellscell := by kernel_rfl
noncomputable def Gcellscell (B : OH) : Nat → Cs
  | 260 => Vcellsplace_Cell B
  | _ => fun _ _ _ => none
theorem Gcellscell_cellsplace_Cell {B : OH} : Gcellscell B 260 = Vcellsplace_Cell B := rfl
theorem sGcellscell {w0 : World} {B : OH} : SoundG Tryz.prog w0 B { f := Gcellscell B } := .of fun k => by
  unfold Gcellscell
  split
  · exact .inr ⟨encellsplace_Cell, sVcellsplace_Cell⟩
  · exact .inl fun _ _ _ => rfl
theorem encellscell : Enter Tryz.prog 200 := .of Tryz.func200 (by kernel_rfl) (by kernel_rfl)
noncomputable def Tcellscell (B : OH) : Cs := callF B { f := Gcellscell B } 1000000 Lcellscell
theorem sTcellscell {w0 : World} {B : OH} : SoundC Tryz.prog w0 B 200 (Tcellscell B) := callF_sound mixedOrders sGcellscell 1000000 Tryz.func200 lowcellscell
noncomputable def Vcellscell (B : OH) : Cs := Tcellscell B
theorem sVcellscell {w0 : World} {B : OH} : SoundC Tryz.prog w0 B 200 (Vcellscell B) := sTcellscell
structure Mem (B : OH) (H0 H : HL) (m : Nat) (v : Value) (L : List C2) : Prop where
  lm : lk H m = some (.cells [v] 1)
  bm : B m = none
  sl : SlM c2 2 B H0 H v L
  ne : slB v ≠ some m
  le : L.length ≤ 900000
def Oth (v : Value) (H H' : HL) : Prop := ∀ y c, slB v ≠ some y → lk H y = some c → lk H' y = some c
theorem Mem.mono {B : OH} {H0 H H' : HL} {m : Nat} {v : Value} {L : List C2} (M : Mem B H0 H m v L) (h : Fr H H') : Mem B H0 H' m v L :=
  ⟨h _ _ M.lm, M.bm, M.sl.mono fun y c _ e => h _ _ e, M.ne, M.le⟩
theorem Oth.trans {v : Value} {H H1 H2 : HL} (h : Oth v H H1) (h2 : Oth v H1 H2) : Oth v H H2 := fun y c n e => h2 y c n (h y c n e)
def orJ (a b : Int) : Int := ((BitVec.ofInt 64 a ||| BitVec.ofInt 64 b).toNat : Int)
theorem orJ_eq {a b : Int} : ((BitVec.ofInt 64 a ||| BitVec.ofInt 64 b).toNat : Int) = orJ a b := rfl
def anJ (a b : Int) : Int := ((BitVec.ofInt 64 a &&& BitVec.ofInt 64 b).toNat : Int)
theorem anJ_eq {a b : Int} : ((BitVec.ofInt 64 a &&& BitVec.ofInt 64 b).toNat : Int) = anJ a b := rfl
def clJ (a b : Int) : Int := ((BitVec.ofInt 64 a &&& ~~~ BitVec.ofInt 64 b).toNat : Int)
theorem clJ_eq {a b : Int} : ((BitVec.ofInt 64 a &&& ~~~ BitVec.ofInt 64 b).toNat : Int) = clJ a b := rfl
def pbI (p : Nat) : Int := IntKind.i64.wrap (1 * 2 ^ min p 64)
theorem pbI_eq {p : Nat} : IntKind.i64.wrap (1 * 2 ^ min p 64) = pbI p := rfl
theorem pbI_eq' {p : Nat} : IntKind.i64.wrap (2 ^ min p 64) = pbI p := by unfold pbI; rw [Int.one_mul]
def lkI (l : Int) (p : Nat) : Int := IntKind.i64.wrap (orJ l (pbI p))
theorem lkI_eq {l : Int} {p : Nat} : IntKind.i64.wrap (orJ l (pbI p)) = lkI l p := rfl
def ulI (l : Int) (p : Nat) : Int := IntKind.i64.wrap (clJ l (pbI p))
theorem ulI_eq {l : Int} {p : Nat} : IntKind.i64.wrap (clJ l (pbI p)) = ulI l p := rfl
def btI (l : Int) (p : Nat) : Int := IntKind.i64.wrap (anJ (l.fdiv (2 ^ min p 64)) 1)
theorem btI_eq {l : Int} {p : Nat} : IntKind.i64.wrap (anJ (l.fdiv (2 ^ min p 64)) 1) = btI l p := rfl
theorem c2_r0 {L : List C2} {rest : List Value} {i : Nat} (hi : i < L.length) : tk (fl c2 L ++ rest) (i * 2) 1 = some [.int .u64 (L.getD i z2).w] := by
  have h1 := tk_fl c2_len L i 0 1 z2 hi (by omega)
  rw [Nat.add_zero] at h1
  rw [tk_append_left _ _ _ _ (by rw [fl_length c2_len]; omega), h1]; rfl
theorem c2_r1 {L : List C2} {rest : List Value} {i : Nat} (hi : i < L.length) : tk (fl c2 L ++ rest) (i * 2 + 1) 1 = some [.int .i64 (L.getD i z2).l] := by
  have h1 := tk_fl c2_len L i 1 1 z2 hi (by omega)
  rw [tk_append_left _ _ _ _ (by rw [fl_length c2_len]; omega), h1]; rfl
theorem c2_w {L : List C2} {rest : List Value} {i : Nat} (hi : i < L.length) (a l : Int) : wr (fl c2 L ++ rest) (i * 2) [.int .u64 a, .int .i64 l] = some (fl c2 (L.set i ⟨a, l⟩) ++ rest) := by
  have h1 := wr_fl c2_len L i 0 [.int .u64 a, .int .i64 l] z2 ⟨a, l⟩ hi (by simp) rfl
  rw [Nat.add_zero] at h1
  rw [wr_append_left _ _ _ _ (by rw [fl_length c2_len]; simp; omega), h1]; rfl
def LcellsLoad : FnD := ⟨(.ops [oa 4 (.mv (ou 0)),oa 5 (.alloc [(.int .i64 0)])]), 199, [(ot 5)],(.seq (.ops [om 6 0,om 7 1,oa 8 (.call (.func 200) [(ot 6), (oi 0), (ot 7)]),oa 9 (.nilck (ot 8)),og 10 0 9,ol 11 10,om 4 11, oc (.store 1 (ot 5) (oi 0))])
 .ret),
 12, [.tmp 4, .cell 5 false 1]⟩
theorem lowcellsLoad : lowerDfr Tryz.prog Tryz.f140 = some LcellsLoad := by kernel_rfl
noncomputable def GcellsLoad (B : OH) : Nat → Cs
  | 200 => Vcellscell B
  | _ => fun _ _ _ => none
theorem GcellsLoad_cellscell {B : OH} : GcellsLoad B 200 = Vcellscell B := rfl
theorem sGcellsLoad {w0 : World} {B : OH} : SoundG Tryz.prog w0 B { f := GcellsLoad B } := .of fun k => by
  unfold GcellsLoad
  split
  · exact .inr ⟨encellscell, sVcellscell⟩
  · exact .inl fun _ _ _ => rfl
theorem encellsLoad : Enter Tryz.prog 140 := .of Tryz.func140 (by kernel_rfl) (by kernel_rfl)
noncomputable def DcellsLoad (B : OH) : Nat → Ds
  | 199 => Ucellscaught B
  | _ => fun _ _ _ _ => none
theorem DcellsLoad_cellscaught {B : OH} : DcellsLoad B 199 = Ucellscaught B := rfl
noncomputable def TcellsLoad (B : OH) : Cs := callD B { f := GcellsLoad B } (DcellsLoad B) 1000000 LcellsLoad
theorem sTcellsLoad {w0 : World} {B : OH} : SoundC Tryz.prog w0 B 140 (TcellsLoad B) := callD_sound mixedOrders sGcellsLoad 1000000 Tryz.func140 lowcellsLoad encellscaught sUcellscaught
noncomputable def VcellsLoad (B : OH) : Cs := TcellsLoad B
theorem sVcellsLoad {w0 : World} {B : OH} : SoundC Tryz.prog w0 B 140 (VcellsLoad B) := sTcellsLoad
set_option maxHeartbeats 2000000 in
theorem load {B : OH} {H0 H : HL} {N : St} {v : Value} {L : List C2} {m i : Nat} (hN : good B H N) (M : Mem B H0 H m v L) (hi : i < L.length) :
    ∃ H' N', VcellsLoad B [.pointer (some ⟨m, 0, none⟩), .int .i64 (i : Int)] H N = some (.ret (.tuple #[.int .u64 (L.getD i z2).w, .int .i64 0]), H', N') ∧ good B H' N' ∧ Fr H H' := by
  obtain ⟨hB, hR, hI⟩ := gX hN
  rcases M.sl with ⟨h, _⟩ | ⟨b, cap, rest, rfl, bb, h0, hle, hlk⟩
  · rw [h] at hi; simp at hi
  have hl := M.le
  have lm := M.lm
  have bm := M.bm
  have hbm : (b == m) = false := eqb fun h => M.ne (by rw [h]; rfl)
  have hbm' : (m == b) = false := eqb fun h => M.ne (by rw [h]; rfl)
  have i0 : (0 : Int) ≤ (i : Int) := by omega
  have i1 : ¬ (i : Int) < 0 := by omega
  have i2 : ¬ (i : Int) ≥ (L.length : Int) := by omega
  have nb := ne_N hN hlk
  have nb' := ne_N' hN hlk
  have nm := ne_N hN lm
  have nm' := ne_N' hN lm
  have rb := rN bb
  have rm := rN bm
  have r0 := c2_r0 (rest := rest) hi
  have r1 := c2_r1 (rest := rest) hi
  unfold VcellsLoad
  simp (disch := omega) only [TcellsLoad, LcellsLoad, GcellsLoad_cellscell, Vcellscell, Tcellscell, Lcellscell, Gcellscell_cellsplace_Cell, Vcellsplace_Cell, Tcellsplace_Cell, Lcellsplace_Cell, DcellsLoad_cellscaught, Ucellscaught, Lcellscaught, hB, hR, hI, ev5, lm, bm, rm, nm, nm', i0, i1, i2, hi, hlk, bb, rb, nb, nb', hbm, hbm', Option.isNone_some, r0, all1, ress, res1, retV, Value.cells, newsV_s, e_fork, slcV, seval, eV]
  exact ⟨_, _, rfl, good_new hN, fr_new hN Fr.refl 0⟩
def LcellsStore : FnD := ⟨(.ops [oa 6 (.alloc [(.int .i64 0)])]), 199, [(ot 6)],(.seq (.ops [om 7 0,om 8 1,oa 9 (.call (.func 200) [(ot 7), (oi 0), (ot 8)]),om 10 2,oa 11 (.build [(.int .u64 0), (.int .i64 0)] [(0, 1, (ot 10))]),oa 12 (.nilck (ot 9)), oc (.store 2 (ot 12) (ot 11))])
 (.seq (.ops [oc (.store 1 (ot 6) (oi 0))])
 .ret)),
 13, [.cell 6 false 1]⟩
theorem lowcellsStore : lowerDfr Tryz.prog Tryz.f151 = some LcellsStore := by kernel_rfl
noncomputable def GcellsStore (B : OH) : Nat → Cs
  | 200 => Vcellscell B
  | _ => fun _ _ _ => none
theorem GcellsStore_cellscell {B : OH} : GcellsStore B 200 = Vcellscell B := rfl
theorem sGcellsStore {w0 : World} {B : OH} : SoundG Tryz.prog w0 B { f := GcellsStore B } := .of fun k => by
  unfold GcellsStore
  split
  · exact .inr ⟨encellscell, sVcellscell⟩
  · exact .inl fun _ _ _ => rfl
theorem encellsStore : Enter Tryz.prog 151 := .of Tryz.func151 (by kernel_rfl) (by kernel_rfl)
noncomputable def DcellsStore (B : OH) : Nat → Ds
  | 199 => Ucellscaught B
  | _ => fun _ _ _ _ => none
theorem DcellsStore_cellscaught {B : OH} : DcellsStore B 199 = Ucellscaught B := rfl
noncomputable def TcellsStore (B : OH) : Cs := callD B { f := GcellsStore B } (DcellsStore B) 1000000 LcellsStore
theorem sTcellsStore {w0 : World} {B : OH} : SoundC Tryz.prog w0 B 151 (TcellsStore B) := callD_sound mixedOrders sGcellsStore 1000000 Tryz.func151 lowcellsStore encellscaught sUcellscaught
noncomputable def VcellsStore (B : OH) : Cs := TcellsStore B
theorem sVcellsStore {w0 : World} {B : OH} : SoundC Tryz.prog w0 B 151 (VcellsStore B) := sTcellsStore
set_option maxHeartbeats 4000000 in
theorem cstore {B : OH} {H0 H : HL} {N : St} {v : Value} {L : List C2} {m i : Nat} {w : Int} (hN : good B H N) (M : Mem B H0 H m v L) (hi : i < L.length) :
    ∃ H' N', VcellsStore B [.pointer (some ⟨m, 0, none⟩), .int .i64 (i : Int), .int .u64 w] H N = some (.ret (.int .i64 0), H', N') ∧ good B H' N' ∧ Mem B H0 H' m v (L.set i ⟨w, 0⟩) ∧ Oth v H H' := by
  obtain ⟨hB, hR, hI⟩ := gX hN
  rcases M.sl with ⟨h, _⟩ | ⟨b, cap, rest, rfl, bb, h0, hle, hlk⟩
  · rw [h] at hi; simp at hi
  have hl := M.le
  have lm := M.lm
  have bm := M.bm
  have hbm : (b == m) = false := eqb fun h => M.ne (by rw [h]; rfl)
  have hbm' : (m == b) = false := eqb fun h => M.ne (by rw [h]; rfl)
  have i0 : (0 : Int) ≤ (i : Int) := by omega
  have i1 : ¬ (i : Int) < 0 := by omega
  have i2 : ¬ (i : Int) ≥ (L.length : Int) := by omega
  have nb := ne_N hN hlk
  have nb' := ne_N' hN hlk
  have nm := ne_N hN lm
  have nm' := ne_N' hN lm
  have rb := rN bb
  have rm := rN bm
  have r0 := c2_r0 (rest := rest) hi
  have r1 := c2_r1 (rest := rest) hi
  have hw := c2_w (rest := rest) hi w 0
  unfold VcellsStore
  simp (disch := omega) only [TcellsStore, LcellsStore, GcellsStore_cellscell, Vcellscell, Tcellscell, Lcellscell, Gcellscell_cellsplace_Cell, Vcellsplace_Cell, Tcellsplace_Cell, Lcellsplace_Cell, DcellsStore_cellscaught, Ucellscaught, Lcellscaught, hB, hR, hI, ev5, lm, bm, rm, nm, nm', i0, i1, i2, hi, hlk, bb, rb, nb, nb', hbm, hbm', Option.isNone_some, hw, all1, ress, res1, retV, Value.cells, newsV_s, e_fork, slcV, seval, eV]
  have gu := good_up (k := .cells (fl c2 (L.set i ⟨w, 0⟩) ++ rest) (cap * 2)) (good_new (k := .cells [.int .i64 0] 1) hN) bb (by rw [lk_cons, nb, cond_false]; exact hlk)
  refine ⟨_, _, rfl, ?_, ⟨?_, bm, .inr ⟨b, cap, rest, by rw [List.length_set], bb, h0, by rw [List.length_set]; exact hle, ?_⟩, M.ne, by rw [List.length_set]; exact hl⟩, fun y c hy e => ?_⟩
  · simpa only [upH_cons, nb, cond_false] using gu
  · simp (disch := omega) only [TcellsStore, LcellsStore, GcellsStore_cellscell, Vcellscell, Tcellscell, Lcellscell, Gcellscell_cellsplace_Cell, Vcellsplace_Cell, Tcellsplace_Cell, Lcellsplace_Cell, DcellsStore_cellscaught, Ucellscaught, Lcellscaught, hB, hR, hI, nm, hbm', lm, all1, ress, res1, retV, Value.cells, newsV_s, e_fork, slcV, seval, eV]
  · simp (disch := omega) only [TcellsStore, LcellsStore, GcellsStore_cellscell, Vcellscell, Tcellscell, Lcellscell, Gcellscell_cellsplace_Cell, Vcellsplace_Cell, Tcellsplace_Cell, Lcellsplace_Cell, DcellsStore_cellscaught, Ucellscaught, Lcellscaught, hB, hR, hI, nb, hlk, all1, ress, res1, retV, Value.cells, newsV_s, e_fork, slcV, seval, eV]
  · have n0 := ne_N hN e 0
    have n1 : (y == b) = false := eqb fun h => hy (by rw [h]; rfl)
    simp (disch := omega) only [TcellsStore, LcellsStore, GcellsStore_cellscell, Vcellscell, Tcellscell, Lcellscell, Gcellscell_cellsplace_Cell, Vcellsplace_Cell, Tcellsplace_Cell, Lcellsplace_Cell, DcellsStore_cellscaught, Ucellscaught, Lcellscaught, hB, hR, hI, n0, n1, e, all1, ress, res1, retV, Value.cells, newsV_s, e_fork, slcV, seval, eV]
end Go.Proofs.YtbpaekbjpapgeaaGreatDoor
namespace Go.Proofs.YtbpaekbjpapgeaaGreatDoor
open Go.Proofs.YtbpaekbjpapgeaaGreatDoor.K Go.ChangeShapes Go.WideShapes Go.ChangeAt Go.RowKit 
set_option maxRecDepth 100000
set_option linter.unusedSimpArgs false
set_option linter.unusedVariables false
def Lprocwithin : FnL := ⟨(.seq (.ops [oa 4 (.mv (.const (.bool false)))])
 (.seq (.ops [om 5 0,oa 6 (.bin .geq (ot 5) (oi 0)),om 7 6,ob 8 (.mv (ot 0)) 7 true,ob 9 (.mv (ot 1)) 7 true,ob 10 (.bin .lss (ot 8) (ot 9)) 7 true,oa 11 (.pick (ot 7) (ot 10) (.const (.bool false))),om 4 11])
 .ret)),
 12, [.tmp 4]⟩
theorem lowprocwithin : lowerFn Tryz.prog Tryz.f35 = some Lprocwithin := by kernel_rfl
noncomputable def Gprocwithin (B : OH) : Nat → Cs
  | _ => fun _ _ _ => none
theorem sGprocwithin {w0 : World} {B : OH} : SoundG Tryz.prog w0 B { f := Gprocwithin B } := .of fun k => by
  unfold Gprocwithin
  split
  · exact .inl fun _ _ _ => rfl
theorem enprocwithin : Enter Tryz.prog 35 := .of Tryz.func35 (by kernel_rfl) (by kernel_rfl)
noncomputable def Tprocwithin (B : OH) : Cs := callF B { f := Gprocwithin B } 1000000 Lprocwithin
theorem sTprocwithin {w0 : World} {B : OH} : SoundC Tryz.prog w0 B 35 (Tprocwithin B) := callF_sound mixedOrders sGprocwithin 1000000 Tryz.func35 lowprocwithin
noncomputable def Vprocwithin (B : OH) : Cs := Tprocwithin B
theorem sVprocwithin {w0 : World} {B : OH} : SoundC Tryz.prog w0 B 35 (Vprocwithin B) := sTprocwithin
def Lprocempty : FnL := ⟨(.seq (.ops [oa 1 (.box (ot 0)),oa 2 (.mv (.const (.bool false)))])
 (.seq (.ops [og 3 6 1,ol 4 3,oa 5 (.bin .eql (ot 4) (oi 0)),om 6 5,ob 7 (.faddr 7 (ot 1)) 6 true,ob 8 (.load false 1 (ot 7)) 6 true,ob 9 (.bin .eql (ot 8) (oi 0)) 6 true,oa 10 (.pick (ot 6) (ot 9) (.const (.bool false))),om 11 10,ob 12 (.faddr 8 (ot 1)) 11 true,ob 13 (.load false 1 (ot 12)) 11 true,ob 14 (.bin .eql (ot 13) (oi 0)) 11 true,oa 15 (.pick (ot 11) (ot 14) (.const (.bool false))),om 16 15,ob 17 (.faddr 9 (ot 1)) 16 true,ob 18 (.load false 1 (ot 17)) 16 true,ob 19 (.bin .eql (ot 18) (oi 0)) 16 true,oa 20 (.pick (ot 16) (ot 19) (.const (.bool false))),om 21 20,ob 22 (.faddr 10 (ot 1)) 21 true,ob 23 (.load false 1 (ot 22)) 21 true,ob 24 (.bin .eql (ot 23) (ou 0)) 21 true,oa 25 (.pick (ot 21) (ot 24) (.const (.bool false))),om 26 25,ob 27 (.faddr 11 (ot 1)) 26 true,ob 28 (.load false 1 (ot 27)) 26 true,ob 29 (.un .not (ot 28)) 26 true,oa 30 (.pick (ot 26) (ot 29) (.const (.bool false))),om 31 30,ob 32 (.faddr 12 (ot 1)) 31 true,ob 33 (.load false 1 (ot 32)) 31 true,ob 34 (.len false (ot 33)) 31 true,ob 35 (.bin .eql (ot 34) (oi 0)) 31 true,oa 36 (.pick (ot 31) (ot 35) (.const (.bool false))),om 2 36])
 .ret)),
 37, [.tmp 2]⟩
theorem lowprocempty : lowerFn Tryz.prog Tryz.f36 = some Lprocempty := by kernel_rfl
noncomputable def Gprocempty (B : OH) : Nat → Cs
  | _ => fun _ _ _ => none
theorem sGprocempty {w0 : World} {B : OH} : SoundG Tryz.prog w0 B { f := Gprocempty B } := .of fun k => by
  unfold Gprocempty
  split
  · exact .inl fun _ _ _ => rfl
theorem enprocempty : Enter Tryz.prog 36 := .of Tryz.func36 (by kernel_rfl) (by kernel_rfl)
noncomputable def Tprocempty (B : OH) : Cs := callF B { f := Gprocempty B } 1000000 Lprocempty
theorem sTprocempty {w0 : World} {B : OH} : SoundC Tryz.prog w0 B 36 (Tprocempty B) := callF_sound mixedOrders sGprocempty 1000000 Tryz.func36 lowprocempty
noncomputable def Fprocempty (B : OH) : List Value → Option Value := kval B (Tprocempty B)
noncomputable def Vprocempty (B : OH) : Cs := fun a H N => pvE (Fprocempty B a) H N
theorem Vprocempty_eq {B : OH} {a : List Value} {H : HL} {N : St} : Vprocempty B a H N = pvE (Fprocempty B a) H N := rfl
theorem sVprocempty {w0 : World} {B : OH} : SoundC Tryz.prog w0 B 36 (Vprocempty B) := sTprocempty.ofVal
theorem pempty {B : OH} (hG : ∃ H N, good B H N) {k code key val flag ps : Int} : Fprocempty B [.agg #[.int .i64 k, .int .i64 code, .int .u64 key, .int .u64 val, .int .u64 flag, .int .i64 ps, .int .i64 0, .int .i64 0, .int .i64 0, .int .i64 0, .int .u64 0, .bool false, .slice none 0 0]] = some (.bool true) := by
  refine kval_eq hG fun H N hN => ?_
  obtain ⟨hB, hR, hI⟩ := gX hN
  simp (disch := omega) only [Tprocempty, Lprocempty, hB, hR, hI, all1, ress, res1, retV, Value.cells, newsV_s, e_fork, slcV, seval, eV]
  with_reducible refine done2 ?_
  repeat (first | refine ext_new hN ?_ | exact fun _ _ h => h)
def Lprocmost : FnL := ⟨(.seq (.ops [oa 1 (.box (ot 0)),oa 2 (.mv (oi 0))])
 (.seq (.ops [oa 3 (.load true 3 (ot 1)),oa 4 (.call (.func 65) [(ot 3)]),oa 5 (.bin .sub (ot 4) (oi 1)),oa 6 (.bin .quo (ot 5) (oi 2)),om 2 6])
 .ret)),
 7, [.tmp 2]⟩
theorem lowprocmost : lowerFn Tryz.prog Tryz.f66 = some Lprocmost := by kernel_rfl
noncomputable def Gprocmost (B : OH) : Nat → Cs
  | 65 => V11 B
  | _ => fun _ _ _ => none
theorem Gprocmost_11 {B : OH} : Gprocmost B 65 = V11 B := rfl
theorem sGprocmost {w0 : World} {B : OH} : SoundG Tryz.prog w0 B { f := Gprocmost B } := .of fun k => by
  unfold Gprocmost
  split
  · exact .inr ⟨en11, sV11⟩
  · exact .inl fun _ _ _ => rfl
theorem enprocmost : Enter Tryz.prog 66 := .of Tryz.func66 (by kernel_rfl) (by kernel_rfl)
noncomputable def Tprocmost (B : OH) : Cs := callF B { f := Gprocmost B } 1000000 Lprocmost
theorem sTprocmost {w0 : World} {B : OH} : SoundC Tryz.prog w0 B 66 (Tprocmost B) := callF_sound mixedOrders sGprocmost 1000000 Tryz.func66 lowprocmost
noncomputable def Fprocmost (B : OH) : List Value → Option Value := kval B (Tprocmost B)
noncomputable def Vprocmost (B : OH) : Cs := fun a H N => pvE (Fprocmost B a) H N
theorem Vprocmost_eq {B : OH} {a : List Value} {H : HL} {N : St} : Vprocmost B a H N = pvE (Fprocmost B a) H N := rfl
theorem sVprocmost {w0 : World} {B : OH} : SoundC Tryz.prog w0 B 66 (Vprocmost B) := sTprocmost.ofVal
theorem pmost {B : OH} (hG : ∃ H N, good B H N) (hT : Tab B) {kk p cc h : Nat} (C : Cf kk p cc h) : Fprocmost B [.agg #[.int .i64 (kk : Int), .int .i64 (p : Int), .int .i64 (cc : Int)]] = some (.int .i64 ((h + 2 * p : Nat) : Int)) := by
  refine kval_eq hG fun H N hN => ?_
  obtain ⟨hB, hR, hI⟩ := gX hN
  have e := f11c hG hT C
  have hb := LG_b C
  have a1 : (LG p h : Int) - 1 = ((h + 2 * p : Nat) : Int) * 2 := by unfold LG; omega
  have a2 : IntKind.i64.wrap ((LG p h : Int) - 1) = ((h + 2 * p : Nat) : Int) * 2 := by rw [IntWalk.i64_in _ (by omega), a1]
  have a3 : (((h + 2 * p : Nat) : Int) * 2).tdiv 2 = ((h + 2 * p : Nat) : Int) := Int.mul_tdiv_cancel _ (by omega)
  have a4 : IntKind.i64.wrap ((h + 2 * p : Nat) : Int) = ((h + 2 * p : Nat) : Int) := IntWalk.i64_in _ (by unfold LG at hb; omega)
  simp (disch := omega) only [Tprocmost, Lprocmost, Gprocmost_11, V11_eq, hB, hR, hI, e, a2, a3, a4, all1, ress, res1, retV, Value.cells, newsV_s, e_fork, slcV, seval, eV]
  with_reducible refine done2 ?_
  repeat (first | refine ext_new hN ?_ | exact fun _ _ h => h)
def Lprocpasses : FnL := ⟨(.seq (.ops [oa 1 (.box (ot 0)),oa 2 (.mv (.const (.bool false)))])
 (.seq (.ops [og 4 4 1,ol 5 4,oa 6 (.bin .eql (ot 5) (ou 0)),om 7 6,ob 8 (.faddr 5 (ot 1)) 7 true,ob 9 (.load false 1 (ot 8)) 7 true,ob 10 (.bin .eql (ot 9) (oi 0)) 7 true,oa 11 (.pick (ot 7) (ot 10) (.const (.bool false))),om 3 11])
 (.seq (.seq (.ops [og 12 0 1,ol 13 12])
 (.block 0 (.seq (.seq (.ops [oa 15 (.bin .eql (ot 13) (oi 1)),om 14 15])
 (.cond (ot 14) .skip
 (.seq (.ops [oa 16 (.bin .eql (ot 13) (oi 2)),om 14 16])
 (.cond (ot 14) .skip
 (.seq (.ops [oa 17 (.bin .eql (ot 13) (oi 3)),om 14 17])
 (.cond (ot 14) .skip
 (.seq (.ops [oa 18 (.bin .eql (ot 13) (oi 4)),om 14 18])
 (.cond (ot 14) .skip
 (.seq (.ops [oa 19 (.bin .eql (ot 13) (oi 6)),om 14 19])
 (.cond (ot 14) .skip
 (.seq (.ops [oa 20 (.bin .eql (ot 13) (oi 7)),om 14 20])
 (.cond (ot 14) .skip
 (.seq (.ops [oa 21 (.bin .eql (ot 13) (oi 8)),om 14 21])
 (.cond (ot 14) .skip
 (.ops [oa 22 (.bin .eql (ot 13) (oi 10)),om 14 22])))))))))))))))
 (.cond (ot 14) (.seq (.ops [om 23 3,om 2 23])
 .ret)
 (.seq (.seq (.ops [oa 25 (.bin .eql (ot 13) (oi 26)),om 24 25])
 (.cond (ot 24) .skip
 (.seq (.ops [oa 26 (.bin .eql (ot 13) (oi 27)),om 24 26])
 (.cond (ot 24) .skip
 (.seq (.ops [oa 27 (.bin .eql (ot 13) (oi 28)),om 24 27])
 (.cond (ot 24) .skip
 (.seq (.ops [oa 28 (.bin .eql (ot 13) (oi 29)),om 24 28])
 (.cond (ot 24) .skip
 (.seq (.ops [oa 29 (.bin .eql (ot 13) (oi 30)),om 24 29])
 (.cond (ot 24) .skip
 (.ops [oa 30 (.bin .eql (ot 13) (oi 31)),om 24 30])))))))))))
 (.cond (ot 24) (.seq (.ops [og 31 4 1,ol 32 31,oa 33 (.bin .neq (ot 32) (ou 0)),om 34 33,ob 35 (.faddr 5 (ot 1)) 34 true,ob 36 (.load false 1 (ot 35)) 34 true,ob 37 (.bin .eql (ot 36) (oi 0)) 34 true,oa 38 (.pick (ot 34) (ot 37) (.const (.bool false))),om 2 38])
 .ret)
 .skip))))))
 (.seq (.ops [om 39 3,om 40 39,ob 41 (.faddr 4 (ot 1)) 40 false,ob 42 (.load false 1 (ot 41)) 40 false,ob 43 (.bin .neq (ot 42) (ou 0)) 40 false,ob 44 (.mv (ot 43)) 40 false,ob 45 (.faddr 5 (ot 1)) 44 true,ob 46 (.load false 1 (ot 45)) 44 true,ob 47 (.bin .eql (ot 46) (oi 1)) 44 true,ob 48 (.mv (ot 47)) 44 true,ob 49 (.faddr 5 (ot 1)) 48 false,ob 50 (.load false 1 (ot 49)) 48 false,ob 51 (.bin .eql (ot 50) (oi 2)) 48 false,ob 52 (.pick (ot 48) (.const (.bool true)) (ot 51)) 44 true,ob 53 (.pick (ot 44) (ot 52) (.const (.bool false))) 40 false,oa 54 (.pick (ot 40) (.const (.bool true)) (ot 53)),om 2 54])
 .ret)))),
 55, [.tmp 2]⟩
theorem lowprocpasses : lowerFn Tryz.prog Tryz.f37 = some Lprocpasses := by kernel_rfl
noncomputable def Gprocpasses (B : OH) : Nat → Cs
  | _ => fun _ _ _ => none
theorem sGprocpasses {w0 : World} {B : OH} : SoundG Tryz.prog w0 B { f := Gprocpasses B } := .of fun k => by
  unfold Gprocpasses
  split
  · exact .inl fun _ _ _ => rfl
theorem enprocpasses : Enter Tryz.prog 37 := .of Tryz.func37 (by kernel_rfl) (by kernel_rfl)
noncomputable def Tprocpasses (B : OH) : Cs := callF B { f := Gprocpasses B } 1000000 Lprocpasses
theorem sTprocpasses {w0 : World} {B : OH} : SoundC Tryz.prog w0 B 37 (Tprocpasses B) := callF_sound mixedOrders sGprocpasses 1000000 Tryz.func37 lowprocpasses
noncomputable def Fprocpasses (B : OH) : List Value → Option Value := kval B (Tprocpasses B)
noncomputable def Vprocpasses (B : OH) : Cs := fun a H N => pvE (Fprocpasses B a) H N
theorem Vprocpasses_eq {B : OH} {a : List Value} {H : HL} {N : St} : Vprocpasses B a H N = pvE (Fprocpasses B a) H N := rfl
theorem sVprocpasses {w0 : World} {B : OH} : SoundC Tryz.prog w0 B 37 (Vprocpasses B) := sTprocpasses.ofVal

theorem pp26 {B : OH} (hG : ∃ H N, good B H N) {code key val flag ps i n o a w : Int} {sm : Bool} {wa : Option Addr} {wl wc : Nat} (hf : flag ≠ 0) : Fprocpasses B [.agg #[.int .i64 26, .int .i64 code, .int .u64 key, .int .u64 val, .int .u64 flag, .int .i64 0, .int .i64 i, .int .i64 n, .int .i64 o, .int .i64 a, .int .u64 w, .bool sm, .slice wa wl wc]] = some (.bool true) := by
  refine kval_eq hG fun H N hN => ?_
  obtain ⟨hB, hR, hI⟩ := gX hN
  have hf1 : (flag != 0) = true := by simpa using hf
  have hf2 : (flag == 0) = false := by simpa using hf
  simp (disch := omega) only [Tprocpasses, Lprocpasses, hB, hR, hI, hf1, hf2, all1, ress, res1, retV, Value.cells, newsV_s, e_fork, slcV, seval, eV]
  with_reducible refine done2 ?_
  repeat (first | refine ext_new hN ?_ | exact fun _ _ h => h)
theorem pp27 {B : OH} (hG : ∃ H N, good B H N) {code key val flag ps i n o a w : Int} {sm : Bool} {wa : Option Addr} {wl wc : Nat} (hf : flag ≠ 0) : Fprocpasses B [.agg #[.int .i64 27, .int .i64 code, .int .u64 key, .int .u64 val, .int .u64 flag, .int .i64 0, .int .i64 i, .int .i64 n, .int .i64 o, .int .i64 a, .int .u64 w, .bool sm, .slice wa wl wc]] = some (.bool true) := by
  refine kval_eq hG fun H N hN => ?_
  obtain ⟨hB, hR, hI⟩ := gX hN
  have hf1 : (flag != 0) = true := by simpa using hf
  have hf2 : (flag == 0) = false := by simpa using hf
  simp (disch := omega) only [Tprocpasses, Lprocpasses, hB, hR, hI, hf1, hf2, all1, ress, res1, retV, Value.cells, newsV_s, e_fork, slcV, seval, eV]
  with_reducible refine done2 ?_
  repeat (first | refine ext_new hN ?_ | exact fun _ _ h => h)
theorem pp28 {B : OH} (hG : ∃ H N, good B H N) {code key val flag ps i n o a w : Int} {sm : Bool} {wa : Option Addr} {wl wc : Nat} (hf : flag ≠ 0) : Fprocpasses B [.agg #[.int .i64 28, .int .i64 code, .int .u64 key, .int .u64 val, .int .u64 flag, .int .i64 0, .int .i64 i, .int .i64 n, .int .i64 o, .int .i64 a, .int .u64 w, .bool sm, .slice wa wl wc]] = some (.bool true) := by
  refine kval_eq hG fun H N hN => ?_
  obtain ⟨hB, hR, hI⟩ := gX hN
  have hf1 : (flag != 0) = true := by simpa using hf
  have hf2 : (flag == 0) = false := by simpa using hf
  simp (disch := omega) only [Tprocpasses, Lprocpasses, hB, hR, hI, hf1, hf2, all1, ress, res1, retV, Value.cells, newsV_s, e_fork, slcV, seval, eV]
  with_reducible refine done2 ?_
  repeat (first | refine ext_new hN ?_ | exact fun _ _ h => h)
theorem pp29 {B : OH} (hG : ∃ H N, good B H N) {code key val flag ps i n o a w : Int} {sm : Bool} {wa : Option Addr} {wl wc : Nat} (hf : flag ≠ 0) : Fprocpasses B [.agg #[.int .i64 29, .int .i64 code, .int .u64 key, .int .u64 val, .int .u64 flag, .int .i64 0, .int .i64 i, .int .i64 n, .int .i64 o, .int .i64 a, .int .u64 w, .bool sm, .slice wa wl wc]] = some (.bool true) := by
  refine kval_eq hG fun H N hN => ?_
  obtain ⟨hB, hR, hI⟩ := gX hN
  have hf1 : (flag != 0) = true := by simpa using hf
  have hf2 : (flag == 0) = false := by simpa using hf
  simp (disch := omega) only [Tprocpasses, Lprocpasses, hB, hR, hI, hf1, hf2, all1, ress, res1, retV, Value.cells, newsV_s, e_fork, slcV, seval, eV]
  with_reducible refine done2 ?_
  repeat (first | refine ext_new hN ?_ | exact fun _ _ h => h)
theorem pp30 {B : OH} (hG : ∃ H N, good B H N) {code key val flag ps i n o a w : Int} {sm : Bool} {wa : Option Addr} {wl wc : Nat} (hf : flag ≠ 0) : Fprocpasses B [.agg #[.int .i64 30, .int .i64 code, .int .u64 key, .int .u64 val, .int .u64 flag, .int .i64 0, .int .i64 i, .int .i64 n, .int .i64 o, .int .i64 a, .int .u64 w, .bool sm, .slice wa wl wc]] = some (.bool true) := by
  refine kval_eq hG fun H N hN => ?_
  obtain ⟨hB, hR, hI⟩ := gX hN
  have hf1 : (flag != 0) = true := by simpa using hf
  have hf2 : (flag == 0) = false := by simpa using hf
  simp (disch := omega) only [Tprocpasses, Lprocpasses, hB, hR, hI, hf1, hf2, all1, ress, res1, retV, Value.cells, newsV_s, e_fork, slcV, seval, eV]
  with_reducible refine done2 ?_
  repeat (first | refine ext_new hN ?_ | exact fun _ _ h => h)
theorem pp31 {B : OH} (hG : ∃ H N, good B H N) {code key val flag ps i n o a w : Int} {sm : Bool} {wa : Option Addr} {wl wc : Nat} (hf : flag ≠ 0) : Fprocpasses B [.agg #[.int .i64 31, .int .i64 code, .int .u64 key, .int .u64 val, .int .u64 flag, .int .i64 0, .int .i64 i, .int .i64 n, .int .i64 o, .int .i64 a, .int .u64 w, .bool sm, .slice wa wl wc]] = some (.bool true) := by
  refine kval_eq hG fun H N hN => ?_
  obtain ⟨hB, hR, hI⟩ := gX hN
  have hf1 : (flag != 0) = true := by simpa using hf
  have hf2 : (flag == 0) = false := by simpa using hf
  simp (disch := omega) only [Tprocpasses, Lprocpasses, hB, hR, hI, hf1, hf2, all1, ress, res1, retV, Value.cells, newsV_s, e_fork, slcV, seval, eV]
  with_reducible refine done2 ?_
  repeat (first | refine ext_new hN ?_ | exact fun _ _ h => h)
def LbatchReads : FnL := ⟨(.seq (.ops [oa 1 (.box (ot 0)),oa 2 (.mv (oi 0))])
 (.seq (.seq (.ops [oa 3 (.load true 3 (ot 1)),oa 4 (.call (.func 34) [(ot 3)]),oa 5 (.un .not (ot 4))])
 (.cond (ot 5) (.seq (.ops [oa 2 (.mv (oi 0))])
 .ret)
 .skip))
 (.seq (.draw [pg 6 1 1,pl 7 6,oe 8 (.bin .mul (oi 4) (ot 7)),oe 9 (.load true 3 (ot 1)), ⟨oa 10 (.call (.func 125) [(ot 9)]), [ol 7 6]⟩,oe 11 (.bin .add (ot 8) (ot 10)),pm 2 11])
 .ret))),
 12, [.tmp 2]⟩
theorem lowbatchReads : lowerFn Tryz.prog Tryz.f68 = some LbatchReads := by kernel_rfl
noncomputable def GbatchReads (B : OH) : Nat → Cs
  | 125 => V12 B
  | 34 => V13 B
  | _ => fun _ _ _ => none
theorem sGbatchReads {w0 : World} {B : OH} : SoundG Tryz.prog w0 B { f := GbatchReads B } := .of fun k => by
  unfold GbatchReads
  split
  · exact .inr ⟨en12, sV12⟩
  · exact .inr ⟨en13, sV13⟩
  · exact .inl fun _ _ _ => rfl
theorem enbatchReads : Enter Tryz.prog 68 := .of Tryz.func68 (by kernel_rfl) (by kernel_rfl)
noncomputable def TbatchReads (B : OH) : Cs := callF B { f := GbatchReads B } 1000000 LbatchReads
theorem sTbatchReads {w0 : World} {B : OH} : SoundC Tryz.prog w0 B 68 (TbatchReads B) := callF_sound mixedOrders sGbatchReads 1000000 Tryz.func68 lowbatchReads
noncomputable def FbatchReads (B : OH) : List Value → Option Value := kval B (TbatchReads B)
noncomputable def VbatchReads (B : OH) : Cs := fun a H N => pvE (FbatchReads B a) H N
theorem VbatchReads_eq {B : OH} {a : List Value} {H : HL} {N : St} : VbatchReads B a H N = pvE (FbatchReads B a) H N := rfl
theorem sVbatchReads {w0 : World} {B : OH} : SoundC Tryz.prog w0 B 68 (VbatchReads B) := sTbatchReads.ofVal
def Lprochands : FnL := ⟨(.seq (.ops [oa 2 (.box (ot 0)),oa 3 (.box (ot 1)),oa 4 (.mv (.const (.bool false)))])
 (.seq (.seq (.draw [oe 13 (.load true 13 (ot 3)),oe 14 (.load true 3 (ot 2))])
 (.fork (.draw [⟨oa 15 (.call (.func 65) [(ot 14)]), [oa 13 (.load true 13 (ot 3))]⟩,⟨oa 5 (.alloc [(.int .i64 0), (.int .i64 0), (.int .u64 0), (.int .u64 0), (.int .u64 0), (.int .i64 0), (.int .i64 0), (.int .i64 0), (.int .i64 0), (.int .i64 0), (.int .u64 0), (.bool false), (.slice none 0 0)]), [oa 13 (.load true 13 (ot 3))]⟩,⟨oc (.store 13 (ot 5) (ot 13)),[]⟩,pm 6 15])
 (.draw [⟨oa 5 (.alloc [(.int .i64 0), (.int .i64 0), (.int .u64 0), (.int .u64 0), (.int .u64 0), (.int .i64 0), (.int .i64 0), (.int .i64 0), (.int .i64 0), (.int .i64 0), (.int .u64 0), (.bool false), (.slice none 0 0)]), [oa 13 (.load true 13 (ot 3)),oa 14 (.load true 3 (ot 2))]⟩,⟨oa 15 (.call (.func 65) [(ot 14)]), [oa 13 (.load true 13 (ot 3))]⟩,⟨oc (.store 13 (ot 5) (ot 13)),[]⟩,pm 6 15])))
 (.seq (.draw [pg 16 8 3,pl 17 16,pg 18 1 2,pl 19 18,pg 21 7 3,pl 22 21,oe 23 (.bin .geq (ot 22) (oi 1)), ⟨oa 20 (.call (.func 35) [(ot 17), (ot 19)]), [ol 22 21]⟩,pm 24 23, ⟨ob 25 (.faddr 7 (ot 3)) 24 true,[]⟩,⟨ob 26 (.load false 1 (ot 25)) 24 true,[]⟩,⟨ob 27 (.load true 3 (ot 2)) 24 true,[]⟩,⟨ob 28 (.call (.func 66) [(ot 27)]) 24 true, [ob 26 (.load false 1 (ot 25)) 24 true]⟩,⟨ob 29 (.bin .leq (ot 26) (ot 28)) 24 true,[]⟩,oe 30 (.pick (ot 24) (ot 29) (.const (.bool false))),pm 31 30, ⟨ob 32 (.faddr 6 (ot 3)) 31 true,[]⟩,⟨ob 33 (.load false 1 (ot 32)) 31 true,[]⟩,⟨ob 34 (.faddr 7 (ot 3)) 31 true,[]⟩,⟨ob 35 (.load false 1 (ot 34)) 31 true,[]⟩,⟨ob 36 (.call (.func 35) [(ot 33), (ot 35)]) 31 true,[]⟩,oe 37 (.pick (ot 31) (ot 36) (.const (.bool false))),pm 7 20,pm 8 37])
 (.seq (.ops [oa 39 (.load true 3 (ot 2)),og 40 9 3,ol 41 40,oa 42 (.conv .u64 (ot 41)),oa 43 (.call (.func 67) [(ot 39), (ot 42)]),om 38 43,oa 44 (.ext (ot 38) 0),oa 45 (.ext (ot 38) 1),om 9 44,om 10 45])
 (.seq (.ops [oa 11 (.mv (.const (.bool true)))])
 (.seq (.seq (.ops [og 46 0 3,ol 47 46])
 (.block 0 (.seq (.ops [oa 49 (.bin .eql (ot 47) (oi 6)),om 48 49])
 (.cond (ot 48) (.draw [pg 50 12 3,pl 51 50,oe 52 (.len false (ot 51)),oe 53 (.load true 3 (ot 2)), ⟨oa 54 (.call (.func 68) [(ot 53)]), [ol 51 50]⟩,oe 55 (.bin .lss (ot 52) (ot 54)),pm 11 55,pg 56 12 5, ⟨oc (.store 1 (ot 56) (.const (.slice none 0 0))),[]⟩])
 (.seq (.ops [oa 58 (.bin .eql (ot 47) (oi 7)),om 57 58])
 (.cond (ot 57) (.seq (.ops [og 59 12 3,ol 60 59,oa 61 (.len false (ot 60)),om 12 61])
 (.seq (.ops [om 62 12,oa 63 (.bin .rem (ot 62) (oi 2)),oa 64 (.bin .eql (ot 63) (oi 1)),om 65 64,ob 66 (.mv (ot 12)) 65 true,ob 67 (.mv (ot 6)) 65 true,ob 68 (.bin .leq (ot 66) (ot 67)) 65 true,oa 69 (.pick (ot 65) (ot 68) (.const (.bool false))),om 70 69,ob 71 (.faddr 12 (ot 3)) 70 true,ob 72 (.load false 1 (ot 71)) 70 true,ob 73 (.iaddrS 1 (ot 72) (oi 0)) 70 true,ob 74 (.load false 1 (ot 73)) 70 true,ob 75 (.mv (ot 12)) 70 true,ob 76 (.bin .quo (ot 75) (oi 2)) 70 true,ob 77 (.conv .u64 (ot 76)) 70 true,ob 78 (.bin .eql (ot 74) (ot 77)) 70 true,oa 79 (.pick (ot 70) (ot 78) (.const (.bool false))),om 80 79,ob 81 (.faddr 6 (ot 3)) 80 true,ob 82 (.load false 1 (ot 81)) 80 true,ob 83 (.mv (ot 12)) 80 true,ob 84 (.call (.func 35) [(ot 82), (ot 83)]) 80 true,oa 85 (.pick (ot 80) (ot 84) (.const (.bool false))),om 11 85])
 (.ops [og 86 12 5, oc (.store 1 (ot 86) (.const (.slice none 0 0))),og 87 6 5, oc (.store 1 (ot 87) (oi 0))])))
 (.seq (.ops [oa 89 (.bin .eql (ot 47) (oi 8)),om 88 89])
 (.cond (ot 88) (.ops [og 90 7 3,ol 91 90,oa 92 (.bin .rem (ot 91) (oi 2)),oa 93 (.bin .eql (ot 92) (oi 1)),om 94 93,ob 95 (.faddr 7 (ot 3)) 94 true,ob 96 (.load false 1 (ot 95)) 94 true,ob 97 (.mv (ot 6)) 94 true,ob 98 (.bin .add (ot 97) (oi 1)) 94 true,ob 99 (.call (.func 35) [(ot 96), (ot 98)]) 94 true,oa 100 (.pick (ot 94) (ot 99) (.const (.bool false))),om 11 100,og 101 7 5, oc (.store 1 (ot 101) (oi 0))])
 (.seq (.ops [oa 103 (.bin .eql (ot 47) (oi 10)),om 102 103])
 (.cond (ot 102) (.seq (.ops [og 104 7 3,ol 105 104,oa 106 (.bin .rem (ot 105) (oi 2)),oa 107 (.bin .eql (ot 106) (oi 1)),om 108 107,ob 109 (.faddr 7 (ot 3)) 108 true,ob 110 (.load false 1 (ot 109)) 108 true,ob 111 (.mv (ot 6)) 108 true,ob 112 (.bin .add (ot 111) (oi 1)) 108 true,ob 113 (.call (.func 35) [(ot 110), (ot 112)]) 108 true,oa 114 (.pick (ot 108) (ot 113) (.const (.bool false))),om 115 114,ob 116 (.faddr 6 (ot 3)) 115 true,ob 117 (.load false 1 (ot 116)) 115 true,ob 118 (.faddr 7 (ot 3)) 115 true,ob 119 (.load false 1 (ot 118)) 115 true,ob 120 (.call (.func 35) [(ot 117), (ot 119)]) 115 true,oa 121 (.pick (ot 115) (ot 120) (.const (.bool false))),om 11 121])
 (.ops [og 122 7 5, oc (.store 1 (ot 122) (oi 0)),og 123 6 5, oc (.store 1 (ot 123) (oi 0))]))
 (.seq (.seq (.ops [oa 125 (.bin .eql (ot 47) (oi 11)),om 124 125])
 (.cond (ot 124) .skip
 (.ops [oa 126 (.bin .eql (ot 47) (oi 19)),om 124 126])))
 (.cond (ot 124) (.ops [om 127 7,om 11 127,og 128 8 5, oc (.store 1 (ot 128) (oi 0))])
 (.seq (.ops [oa 130 (.bin .eql (ot 47) (oi 12)),om 129 130])
 (.cond (ot 129) (.seq (.ops [om 131 7,om 132 131,ob 133 (.mv (ot 8)) 132 true,oa 134 (.pick (ot 132) (ot 133) (.const (.bool false))),om 11 134])
 (.ops [og 135 8 5, oc (.store 1 (ot 135) (oi 0)),og 136 7 5, oc (.store 1 (ot 136) (oi 0)),og 137 6 5, oc (.store 1 (ot 137) (oi 0))]))
 (.seq (.seq (.ops [oa 139 (.bin .eql (ot 47) (oi 13)),om 138 139])
 (.cond (ot 138) .skip
 (.ops [oa 140 (.bin .eql (ot 47) (oi 17)),om 138 140])))
 (.cond (ot 138) (.seq (.ops [om 141 7,om 142 141,ob 143 (.mv (ot 8)) 142 true,oa 144 (.pick (ot 142) (ot 143) (.const (.bool false))),om 145 144,ob 146 (.mv (ot 10)) 145 true,oa 147 (.pick (ot 145) (ot 146) (.const (.bool false))),om 11 147])
 (.ops [og 148 8 5, oc (.store 1 (ot 148) (oi 0)),og 149 7 5, oc (.store 1 (ot 149) (oi 0)),og 150 6 5, oc (.store 1 (ot 150) (oi 0)),og 151 9 5, oc (.store 1 (ot 151) (oi 0))]))
 (.seq (.seq (.ops [oa 153 (.bin .eql (ot 47) (oi 14)),om 152 153])
 (.cond (ot 152) .skip
 (.seq (.ops [oa 154 (.bin .eql (ot 47) (oi 16)),om 152 154])
 (.cond (ot 152) .skip
 (.ops [oa 155 (.bin .eql (ot 47) (oi 15)),om 152 155])))))
 (.cond (ot 152) (.seq (.ops [om 156 7,om 157 156,ob 158 (.mv (ot 8)) 157 true,oa 159 (.pick (ot 157) (ot 158) (.const (.bool false))),om 160 159,ob 161 (.mv (ot 10)) 160 true,oa 162 (.pick (ot 160) (ot 161) (.const (.bool false))),om 163 162,ob 164 (.faddr 0 (ot 3)) 163 true,ob 165 (.load false 1 (ot 164)) 163 true,ob 166 (.bin .eql (ot 165) (oi 15)) 163 true,ob 167 (.mv (ot 166)) 163 true,ob 168 (.faddr 11 (ot 3)) 167 false,ob 169 (.load false 1 (ot 168)) 167 false,ob 170 (.un .not (ot 169)) 167 false,ob 171 (.pick (ot 167) (.const (.bool true)) (ot 170)) 163 true,oa 172 (.pick (ot 163) (ot 171) (.const (.bool false))),om 11 172])
 (.ops [og 173 12 3,ol 174 173,oa 175 (.build [(.int .i64 0), (.int .i64 0), (.int .u64 0), (.int .u64 0), (.int .u64 0), (.int .i64 0), (.int .i64 0), (.int .i64 0), (.int .i64 0), (.int .i64 0), (.int .u64 0), (.bool false), (.slice none 0 0)] [(12, 1, (ot 174))]), oc (.store 13 (ot 5) (ot 175))]))
 (.seq (.ops [oa 177 (.bin .eql (ot 47) (oi 18)),om 176 177])
 (.cond (ot 176) (.ops [om 178 10,om 11 178,og 179 9 5, oc (.store 1 (ot 179) (oi 0))])
 (.seq (.seq (.ops [oa 181 (.bin .eql (ot 47) (oi 20)),om 180 181])
 (.cond (ot 180) .skip
 (.seq (.ops [oa 182 (.bin .eql (ot 47) (oi 21)),om 180 182])
 (.cond (ot 180) .skip
 (.seq (.ops [oa 183 (.bin .eql (ot 47) (oi 22)),om 180 183])
 (.cond (ot 180) .skip
 (.seq (.ops [oa 184 (.bin .eql (ot 47) (oi 23)),om 180 184])
 (.cond (ot 180) .skip
 (.ops [oa 185 (.bin .eql (ot 47) (oi 24)),om 180 185])))))))))
 (.cond (ot 180) (.seq (.ops [om 186 7,om 187 186,ob 188 (.faddr 6 (ot 3)) 187 true,ob 189 (.load false 1 (ot 188)) 187 true,ob 190 (.mv (ot 6)) 187 true,ob 191 (.call (.func 35) [(ot 189), (ot 190)]) 187 true,oa 192 (.pick (ot 187) (ot 191) (.const (.bool false))),om 193 192,ob 194 (.faddr 0 (ot 3)) 193 true,ob 195 (.load false 1 (ot 194)) 193 true,ob 196 (.bin .eql (ot 195) (oi 21)) 193 true,ob 197 (.mv (ot 196)) 193 true,ob 198 (.faddr 11 (ot 3)) 197 false,ob 199 (.load false 1 (ot 198)) 197 false,ob 200 (.un .not (ot 199)) 197 false,ob 201 (.pick (ot 197) (.const (.bool true)) (ot 200)) 193 true,oa 202 (.pick (ot 193) (ot 201) (.const (.bool false))),om 11 202])
 (.ops [og 203 8 5, oc (.store 1 (ot 203) (oi 0)),og 204 6 5, oc (.store 1 (ot 204) (oi 0)),og 205 11 5, oc (.store 1 (ot 205) (.const (.bool false)))]))
 (.seq (.seq (.ops [oa 207 (.bin .eql (ot 47) (oi 30)),om 206 207])
 (.cond (ot 206) .skip
 (.ops [oa 208 (.bin .eql (ot 47) (oi 31)),om 206 208])))
 (.cond (ot 206) (.ops [og 209 10 5, oc (.store 1 (ot 209) (ou 0))])
 .skip))))))))))))))))))))))))
 (.seq (.ops [om 210 11,om 211 210,ob 212 (.load true 13 (ot 5)) 211 true,ob 213 (.call (.func 36) [(ot 212)]) 211 true,oa 214 (.pick (ot 211) (ot 213) (.const (.bool false))),om 4 214])
 .ret))))))),
 215, [.tmp 4]⟩
theorem lowprochands : lowerFn Tryz.prog Tryz.f38 = some Lprochands := by kernel_rfl
noncomputable def Gprochands (B : OH) : Nat → Cs
  | 65 => V11 B
  | 68 => VbatchReads B
  | 36 => Vprocempty B
  | 66 => Vprocmost B
  | 35 => Vprocwithin B
  | 67 => VwlogPlace B
  | _ => fun _ _ _ => none
theorem Gprochands_11 {B : OH} : Gprochands B 65 = V11 B := rfl
theorem Gprochands_batchReads {B : OH} : Gprochands B 68 = VbatchReads B := rfl
theorem Gprochands_procempty {B : OH} : Gprochands B 36 = Vprocempty B := rfl
theorem Gprochands_procmost {B : OH} : Gprochands B 66 = Vprocmost B := rfl
theorem Gprochands_procwithin {B : OH} : Gprochands B 35 = Vprocwithin B := rfl
theorem Gprochands_wlogPlace {B : OH} : Gprochands B 67 = VwlogPlace B := rfl
theorem sGprochands {w0 : World} {B : OH} : SoundG Tryz.prog w0 B { f := Gprochands B } := .of fun k => by
  unfold Gprochands
  split
  · exact .inr ⟨en11, sV11⟩
  · exact .inr ⟨enbatchReads, sVbatchReads⟩
  · exact .inr ⟨enprocempty, sVprocempty⟩
  · exact .inr ⟨enprocmost, sVprocmost⟩
  · exact .inr ⟨enprocwithin, sVprocwithin⟩
  · exact .inr ⟨enwlogPlace, sVwlogPlace⟩
  · exact .inl fun _ _ _ => rfl
theorem enprochands : Enter Tryz.prog 38 := .of Tryz.func38 (by kernel_rfl) (by kernel_rfl)
noncomputable def Tprochands (B : OH) : Cs := callF B { f := Gprochands B } 1000000 Lprochands
theorem sTprochands {w0 : World} {B : OH} : SoundC Tryz.prog w0 B 38 (Tprochands B) := callF_sound mixedOrders sGprochands 1000000 Tryz.func38 lowprochands
noncomputable def Fprochands (B : OH) : List Value → Option Value := kval B (Tprochands B)
noncomputable def Vprochands (B : OH) : Cs := fun a H N => pvE (Fprochands B a) H N
theorem Vprochands_eq {B : OH} {a : List Value} {H : HL} {N : St} : Vprochands B a H N = pvE (Fprochands B a) H N := rfl
theorem sVprochands {w0 : World} {B : OH} : SoundC Tryz.prog w0 B 38 (Vprochands B) := sTprochands.ofVal

set_option maxHeartbeats 2000000 in
theorem ph26 {B : OH} (hG : ∃ H N, good B H N) (hT : Tab B) {kk p cc h : Nat} (C : Cf kk p cc h) {code key val flag ps i n o a w : Int} {sm : Bool} {wa : Option Addr} {wl wc : Nat}  : Fprochands B [.agg #[.int .i64 (kk : Int), .int .i64 (p : Int), .int .i64 (cc : Int)], .agg #[.int .i64 26, .int .i64 code, .int .u64 key, .int .u64 val, .int .u64 flag, .int .i64 0, .int .i64 0, .int .i64 0, .int .i64 0, .int .i64 0, .int .u64 0, .bool false, .slice none 0 0]] = some (.bool true) := by
  refine kval_eq hG fun H N hN => ?_
  obtain ⟨hB, hR, hI⟩ := gX hN
  have e1 := f11c hG hT C
  have e2 := pmost hG hT C
  have e4 := fun {k code key val flag ps : Int} => pempty hG (k := k) (code := code) (key := key) (val := val) (flag := flag) (ps := ps)
  have hlb := LG_b C
  have e3 : FwlogPlace B [.agg #[.int .i64 (kk : Int), .int .i64 (p : Int), .int .i64 (cc : Int)], .int .u64 0] = some (.tuple #[.int .i64 0, .bool false]) := by
    rw [fPlace hG hT C (by unfold u64R; omega), plV_n]
    intro hok
    have b2 := bs_2 (p := p) (h := h)
    have b4 := bs_4 (p := p) (h := h)
    unfold okP at hok; omega
  cases hg : N.g 2
  · simp (disch := omega) only [Tprochands, Lprochands, Gprochands_11, V11_eq, Gprochands_batchReads, VbatchReads_eq, Gprochands_procempty, Vprocempty_eq, Gprochands_procmost, Vprocmost_eq, Gprochands_procwithin, Vprocwithin, Tprocwithin, Lprocwithin, Gprochands_wlogPlace, VwlogPlace_eq, hB, hR, hI, hg, e1, e2, e3, e4, all1, ress, res1, retV, Value.cells, newsV_s, e_fork, slcV, seval, eV]
    with_reducible refine done2 ?_
    repeat (first | refine ext_new hN ?_ | exact fun _ _ h => h)
  · simp (disch := omega) only [Tprochands, Lprochands, Gprochands_11, V11_eq, Gprochands_batchReads, VbatchReads_eq, Gprochands_procempty, Vprocempty_eq, Gprochands_procmost, Vprocmost_eq, Gprochands_procwithin, Vprocwithin, Tprocwithin, Lprocwithin, Gprochands_wlogPlace, VwlogPlace_eq, hB, hR, hI, hg, e1, e2, e3, e4, all1, ress, res1, retV, Value.cells, newsV_s, e_fork, slcV, seval, eV]
    with_reducible refine done2 ?_
    repeat (first | refine ext_new hN ?_ | exact fun _ _ h => h)
set_option maxHeartbeats 2000000 in
theorem ph27 {B : OH} (hG : ∃ H N, good B H N) (hT : Tab B) {kk p cc h : Nat} (C : Cf kk p cc h) {code key val flag ps i n o a w : Int} {sm : Bool} {wa : Option Addr} {wl wc : Nat}  : Fprochands B [.agg #[.int .i64 (kk : Int), .int .i64 (p : Int), .int .i64 (cc : Int)], .agg #[.int .i64 27, .int .i64 code, .int .u64 key, .int .u64 val, .int .u64 flag, .int .i64 0, .int .i64 0, .int .i64 0, .int .i64 0, .int .i64 0, .int .u64 0, .bool false, .slice none 0 0]] = some (.bool true) := by
  refine kval_eq hG fun H N hN => ?_
  obtain ⟨hB, hR, hI⟩ := gX hN
  have e1 := f11c hG hT C
  have e2 := pmost hG hT C
  have e4 := fun {k code key val flag ps : Int} => pempty hG (k := k) (code := code) (key := key) (val := val) (flag := flag) (ps := ps)
  have hlb := LG_b C
  have e3 : FwlogPlace B [.agg #[.int .i64 (kk : Int), .int .i64 (p : Int), .int .i64 (cc : Int)], .int .u64 0] = some (.tuple #[.int .i64 0, .bool false]) := by
    rw [fPlace hG hT C (by unfold u64R; omega), plV_n]
    intro hok
    have b2 := bs_2 (p := p) (h := h)
    have b4 := bs_4 (p := p) (h := h)
    unfold okP at hok; omega
  cases hg : N.g 2
  · simp (disch := omega) only [Tprochands, Lprochands, Gprochands_11, V11_eq, Gprochands_batchReads, VbatchReads_eq, Gprochands_procempty, Vprocempty_eq, Gprochands_procmost, Vprocmost_eq, Gprochands_procwithin, Vprocwithin, Tprocwithin, Lprocwithin, Gprochands_wlogPlace, VwlogPlace_eq, hB, hR, hI, hg, e1, e2, e3, e4, all1, ress, res1, retV, Value.cells, newsV_s, e_fork, slcV, seval, eV]
    with_reducible refine done2 ?_
    repeat (first | refine ext_new hN ?_ | exact fun _ _ h => h)
  · simp (disch := omega) only [Tprochands, Lprochands, Gprochands_11, V11_eq, Gprochands_batchReads, VbatchReads_eq, Gprochands_procempty, Vprocempty_eq, Gprochands_procmost, Vprocmost_eq, Gprochands_procwithin, Vprocwithin, Tprocwithin, Lprocwithin, Gprochands_wlogPlace, VwlogPlace_eq, hB, hR, hI, hg, e1, e2, e3, e4, all1, ress, res1, retV, Value.cells, newsV_s, e_fork, slcV, seval, eV]
    with_reducible refine done2 ?_
    repeat (first | refine ext_new hN ?_ | exact fun _ _ h => h)
set_option maxHeartbeats 2000000 in
theorem ph28 {B : OH} (hG : ∃ H N, good B H N) (hT : Tab B) {kk p cc h : Nat} (C : Cf kk p cc h) {code key val flag ps i n o a w : Int} {sm : Bool} {wa : Option Addr} {wl wc : Nat}  : Fprochands B [.agg #[.int .i64 (kk : Int), .int .i64 (p : Int), .int .i64 (cc : Int)], .agg #[.int .i64 28, .int .i64 code, .int .u64 key, .int .u64 val, .int .u64 flag, .int .i64 0, .int .i64 0, .int .i64 0, .int .i64 0, .int .i64 0, .int .u64 0, .bool false, .slice none 0 0]] = some (.bool true) := by
  refine kval_eq hG fun H N hN => ?_
  obtain ⟨hB, hR, hI⟩ := gX hN
  have e1 := f11c hG hT C
  have e2 := pmost hG hT C
  have e4 := fun {k code key val flag ps : Int} => pempty hG (k := k) (code := code) (key := key) (val := val) (flag := flag) (ps := ps)
  have hlb := LG_b C
  have e3 : FwlogPlace B [.agg #[.int .i64 (kk : Int), .int .i64 (p : Int), .int .i64 (cc : Int)], .int .u64 0] = some (.tuple #[.int .i64 0, .bool false]) := by
    rw [fPlace hG hT C (by unfold u64R; omega), plV_n]
    intro hok
    have b2 := bs_2 (p := p) (h := h)
    have b4 := bs_4 (p := p) (h := h)
    unfold okP at hok; omega
  cases hg : N.g 2
  · simp (disch := omega) only [Tprochands, Lprochands, Gprochands_11, V11_eq, Gprochands_batchReads, VbatchReads_eq, Gprochands_procempty, Vprocempty_eq, Gprochands_procmost, Vprocmost_eq, Gprochands_procwithin, Vprocwithin, Tprocwithin, Lprocwithin, Gprochands_wlogPlace, VwlogPlace_eq, hB, hR, hI, hg, e1, e2, e3, e4, all1, ress, res1, retV, Value.cells, newsV_s, e_fork, slcV, seval, eV]
    with_reducible refine done2 ?_
    repeat (first | refine ext_new hN ?_ | exact fun _ _ h => h)
  · simp (disch := omega) only [Tprochands, Lprochands, Gprochands_11, V11_eq, Gprochands_batchReads, VbatchReads_eq, Gprochands_procempty, Vprocempty_eq, Gprochands_procmost, Vprocmost_eq, Gprochands_procwithin, Vprocwithin, Tprocwithin, Lprocwithin, Gprochands_wlogPlace, VwlogPlace_eq, hB, hR, hI, hg, e1, e2, e3, e4, all1, ress, res1, retV, Value.cells, newsV_s, e_fork, slcV, seval, eV]
    with_reducible refine done2 ?_
    repeat (first | refine ext_new hN ?_ | exact fun _ _ h => h)
set_option maxHeartbeats 2000000 in
theorem ph29 {B : OH} (hG : ∃ H N, good B H N) (hT : Tab B) {kk p cc h : Nat} (C : Cf kk p cc h) {code key val flag ps i n o a w : Int} {sm : Bool} {wa : Option Addr} {wl wc : Nat}  : Fprochands B [.agg #[.int .i64 (kk : Int), .int .i64 (p : Int), .int .i64 (cc : Int)], .agg #[.int .i64 29, .int .i64 code, .int .u64 key, .int .u64 val, .int .u64 flag, .int .i64 0, .int .i64 0, .int .i64 0, .int .i64 0, .int .i64 0, .int .u64 0, .bool false, .slice none 0 0]] = some (.bool true) := by
  refine kval_eq hG fun H N hN => ?_
  obtain ⟨hB, hR, hI⟩ := gX hN
  have e1 := f11c hG hT C
  have e2 := pmost hG hT C
  have e4 := fun {k code key val flag ps : Int} => pempty hG (k := k) (code := code) (key := key) (val := val) (flag := flag) (ps := ps)
  have hlb := LG_b C
  have e3 : FwlogPlace B [.agg #[.int .i64 (kk : Int), .int .i64 (p : Int), .int .i64 (cc : Int)], .int .u64 0] = some (.tuple #[.int .i64 0, .bool false]) := by
    rw [fPlace hG hT C (by unfold u64R; omega), plV_n]
    intro hok
    have b2 := bs_2 (p := p) (h := h)
    have b4 := bs_4 (p := p) (h := h)
    unfold okP at hok; omega
  cases hg : N.g 2
  · simp (disch := omega) only [Tprochands, Lprochands, Gprochands_11, V11_eq, Gprochands_batchReads, VbatchReads_eq, Gprochands_procempty, Vprocempty_eq, Gprochands_procmost, Vprocmost_eq, Gprochands_procwithin, Vprocwithin, Tprocwithin, Lprocwithin, Gprochands_wlogPlace, VwlogPlace_eq, hB, hR, hI, hg, e1, e2, e3, e4, all1, ress, res1, retV, Value.cells, newsV_s, e_fork, slcV, seval, eV]
    with_reducible refine done2 ?_
    repeat (first | refine ext_new hN ?_ | exact fun _ _ h => h)
  · simp (disch := omega) only [Tprochands, Lprochands, Gprochands_11, V11_eq, Gprochands_batchReads, VbatchReads_eq, Gprochands_procempty, Vprocempty_eq, Gprochands_procmost, Vprocmost_eq, Gprochands_procwithin, Vprocwithin, Tprocwithin, Lprocwithin, Gprochands_wlogPlace, VwlogPlace_eq, hB, hR, hI, hg, e1, e2, e3, e4, all1, ress, res1, retV, Value.cells, newsV_s, e_fork, slcV, seval, eV]
    with_reducible refine done2 ?_
    repeat (first | refine ext_new hN ?_ | exact fun _ _ h => h)
set_option maxHeartbeats 2000000 in
theorem ph30 {B : OH} (hG : ∃ H N, good B H N) (hT : Tab B) {kk p cc h : Nat} (C : Cf kk p cc h) {code key val flag ps i n o a w : Int} {sm : Bool} {wa : Option Addr} {wl wc : Nat}  : Fprochands B [.agg #[.int .i64 (kk : Int), .int .i64 (p : Int), .int .i64 (cc : Int)], .agg #[.int .i64 30, .int .i64 code, .int .u64 key, .int .u64 val, .int .u64 flag, .int .i64 0, .int .i64 0, .int .i64 0, .int .i64 0, .int .i64 0, .int .u64 w, .bool false, .slice none 0 0]] = some (.bool true) := by
  refine kval_eq hG fun H N hN => ?_
  obtain ⟨hB, hR, hI⟩ := gX hN
  have e1 := f11c hG hT C
  have e2 := pmost hG hT C
  have e4 := fun {k code key val flag ps : Int} => pempty hG (k := k) (code := code) (key := key) (val := val) (flag := flag) (ps := ps)
  have hlb := LG_b C
  have e3 : FwlogPlace B [.agg #[.int .i64 (kk : Int), .int .i64 (p : Int), .int .i64 (cc : Int)], .int .u64 0] = some (.tuple #[.int .i64 0, .bool false]) := by
    rw [fPlace hG hT C (by unfold u64R; omega), plV_n]
    intro hok
    have b2 := bs_2 (p := p) (h := h)
    have b4 := bs_4 (p := p) (h := h)
    unfold okP at hok; omega
  cases hg : N.g 2
  · simp (disch := omega) only [Tprochands, Lprochands, Gprochands_11, V11_eq, Gprochands_batchReads, VbatchReads_eq, Gprochands_procempty, Vprocempty_eq, Gprochands_procmost, Vprocmost_eq, Gprochands_procwithin, Vprocwithin, Tprocwithin, Lprocwithin, Gprochands_wlogPlace, VwlogPlace_eq, hB, hR, hI, hg, e1, e2, e3, e4, all1, ress, res1, retV, Value.cells, newsV_s, e_fork, slcV, seval, eV]
    with_reducible refine done2 ?_
    repeat (first | refine ext_new hN ?_ | exact fun _ _ h => h)
  · simp (disch := omega) only [Tprochands, Lprochands, Gprochands_11, V11_eq, Gprochands_batchReads, VbatchReads_eq, Gprochands_procempty, Vprocempty_eq, Gprochands_procmost, Vprocmost_eq, Gprochands_procwithin, Vprocwithin, Tprocwithin, Lprocwithin, Gprochands_wlogPlace, VwlogPlace_eq, hB, hR, hI, hg, e1, e2, e3, e4, all1, ress, res1, retV, Value.cells, newsV_s, e_fork, slcV, seval, eV]
    with_reducible refine done2 ?_
    repeat (first | refine ext_new hN ?_ | exact fun _ _ h => h)
set_option maxHeartbeats 2000000 in
theorem ph31 {B : OH} (hG : ∃ H N, good B H N) (hT : Tab B) {kk p cc h : Nat} (C : Cf kk p cc h) {code key val flag ps i n o a w : Int} {sm : Bool} {wa : Option Addr} {wl wc : Nat}  : Fprochands B [.agg #[.int .i64 (kk : Int), .int .i64 (p : Int), .int .i64 (cc : Int)], .agg #[.int .i64 31, .int .i64 code, .int .u64 key, .int .u64 val, .int .u64 flag, .int .i64 0, .int .i64 0, .int .i64 0, .int .i64 0, .int .i64 0, .int .u64 w, .bool false, .slice none 0 0]] = some (.bool true) := by
  refine kval_eq hG fun H N hN => ?_
  obtain ⟨hB, hR, hI⟩ := gX hN
  have e1 := f11c hG hT C
  have e2 := pmost hG hT C
  have e4 := fun {k code key val flag ps : Int} => pempty hG (k := k) (code := code) (key := key) (val := val) (flag := flag) (ps := ps)
  have hlb := LG_b C
  have e3 : FwlogPlace B [.agg #[.int .i64 (kk : Int), .int .i64 (p : Int), .int .i64 (cc : Int)], .int .u64 0] = some (.tuple #[.int .i64 0, .bool false]) := by
    rw [fPlace hG hT C (by unfold u64R; omega), plV_n]
    intro hok
    have b2 := bs_2 (p := p) (h := h)
    have b4 := bs_4 (p := p) (h := h)
    unfold okP at hok; omega
  cases hg : N.g 2
  · simp (disch := omega) only [Tprochands, Lprochands, Gprochands_11, V11_eq, Gprochands_batchReads, VbatchReads_eq, Gprochands_procempty, Vprocempty_eq, Gprochands_procmost, Vprocmost_eq, Gprochands_procwithin, Vprocwithin, Tprocwithin, Lprocwithin, Gprochands_wlogPlace, VwlogPlace_eq, hB, hR, hI, hg, e1, e2, e3, e4, all1, ress, res1, retV, Value.cells, newsV_s, e_fork, slcV, seval, eV]
    with_reducible refine done2 ?_
    repeat (first | refine ext_new hN ?_ | exact fun _ _ h => h)
  · simp (disch := omega) only [Tprochands, Lprochands, Gprochands_11, V11_eq, Gprochands_batchReads, VbatchReads_eq, Gprochands_procempty, Vprocempty_eq, Gprochands_procmost, Vprocmost_eq, Gprochands_procwithin, Vprocwithin, Tprocwithin, Lprocwithin, Gprochands_wlogPlace, VwlogPlace_eq, hB, hR, hI, hg, e1, e2, e3, e4, all1, ress, res1, retV, Value.cells, newsV_s, e_fork, slcV, seval, eV]
    with_reducible refine done2 ?_
    repeat (first | refine ext_new hN ?_ | exact fun _ _ h => h)
def LprocRight : FnL := ⟨(.seq (.ops [oa 3 (.box (ot 0)),oa 5 (.box (ot 2)),oa 6 (.mv (.const (.bool false)))])
 (.seq (.seq (.ops [oa 7 (.load true 3 (ot 3)),oa 8 (.call (.func 34) [(ot 7)]),oa 9 (.un .not (ot 8)),om 10 9,ob 11 (.mv (ot 1)) 10 false,ob 12 (.faddr 1 (ot 3)) 10 false,ob 13 (.load false 1 (ot 12)) 10 false,ob 14 (.call (.func 35) [(ot 11), (ot 13)]) 10 false,ob 15 (.un .not (ot 14)) 10 false,oa 16 (.pick (ot 10) (.const (.bool true)) (ot 15))])
 (.cond (ot 16) (.seq (.ops [oa 6 (.mv (.const (.bool false)))])
 .ret)
 .skip))
 (.seq (.seq (.ops [og 17 0 5,ol 18 17,oa 19 (.bin .eql (ot 18) (oi 0))])
 (.cond (ot 19) (.seq (.ops [og 20 1 5,oa 21 (.load true 3 (ot 20)),oa 22 (.build [(.int .i64 0), (.int .u64 0), (.int .u64 0)] []),oa 23 (.eqA false [.int, .int, .int] (ot 21) (ot 22)),om 24 23,ob 25 (.faddr 4 (ot 5)) 24 true,ob 26 (.load false 1 (ot 25)) 24 true,ob 27 (.bin .eql (ot 26) (ou 0)) 24 true,oa 28 (.pick (ot 24) (ot 27) (.const (.bool false))),om 29 28,ob 30 (.faddr 5 (ot 5)) 29 true,ob 31 (.load false 1 (ot 30)) 29 true,ob 32 (.bin .eql (ot 31) (oi 0)) 29 true,oa 33 (.pick (ot 29) (ot 32) (.const (.bool false))),om 34 33,ob 35 (.load true 13 (ot 5)) 34 true,ob 36 (.call (.func 36) [(ot 35)]) 34 true,oa 37 (.pick (ot 34) (ot 36) (.const (.bool false))),om 6 37])
 .ret)
 .skip))
 (.seq (.seq (.ops [og 38 0 5,ol 39 38,oa 40 (.bin .lss (ot 39) (oi 0)),om 41 40,ob 42 (.faddr 0 (ot 5)) 41 false,ob 43 (.load false 1 (ot 42)) 41 false,ob 44 (.bin .gtr (ot 43) (oi 31)) 41 false,oa 45 (.pick (ot 41) (.const (.bool true)) (ot 44)),om 46 45,ob 47 (.faddr 1 (ot 5)) 46 false,ob 48 (.faddr 0 (ot 47)) 46 false,ob 49 (.load false 1 (ot 48)) 46 false,ob 50 (.bin .lss (ot 49) (oi 1)) 46 false,oa 51 (.pick (ot 46) (.const (.bool true)) (ot 50)),om 52 51,ob 53 (.faddr 1 (ot 5)) 52 false,ob 54 (.faddr 0 (ot 53)) 52 false,ob 55 (.load false 1 (ot 54)) 52 false,ob 56 (.bin .gtr (ot 55) (oi 255)) 52 false,oa 57 (.pick (ot 52) (.const (.bool true)) (ot 56)),om 58 57,ob 59 (.load true 13 (ot 5)) 58 false,ob 60 (.call (.func 37) [(ot 59)]) 58 false,ob 61 (.un .not (ot 60)) 58 false,oa 62 (.pick (ot 58) (.const (.bool true)) (ot 61))])
 (.cond (ot 62) (.seq (.ops [oa 6 (.mv (.const (.bool false)))])
 .ret)
 .skip))
 (.seq (.ops [oa 63 (.load true 3 (ot 3)),oa 64 (.load true 13 (ot 5)),oa 65 (.call (.func 38) [(ot 63), (ot 64)]),om 6 65])
 .ret))))),
 66, [.tmp 6]⟩
theorem lowprocRight : lowerFn Tryz.prog Tryz.f14 = some LprocRight := by kernel_rfl
noncomputable def GprocRight (B : OH) : Nat → Cs
  | 34 => V13 B
  | 36 => Vprocempty B
  | 38 => Vprochands B
  | 37 => Vprocpasses B
  | 35 => Vprocwithin B
  | _ => fun _ _ _ => none
theorem GprocRight_13 {B : OH} : GprocRight B 34 = V13 B := rfl
theorem GprocRight_procempty {B : OH} : GprocRight B 36 = Vprocempty B := rfl
theorem GprocRight_prochands {B : OH} : GprocRight B 38 = Vprochands B := rfl
theorem GprocRight_procpasses {B : OH} : GprocRight B 37 = Vprocpasses B := rfl
theorem GprocRight_procwithin {B : OH} : GprocRight B 35 = Vprocwithin B := rfl
theorem sGprocRight {w0 : World} {B : OH} : SoundG Tryz.prog w0 B { f := GprocRight B } := .of fun k => by
  unfold GprocRight
  split
  · exact .inr ⟨en13, sV13⟩
  · exact .inr ⟨enprocempty, sVprocempty⟩
  · exact .inr ⟨enprochands, sVprochands⟩
  · exact .inr ⟨enprocpasses, sVprocpasses⟩
  · exact .inr ⟨enprocwithin, sVprocwithin⟩
  · exact .inl fun _ _ _ => rfl
theorem enprocRight : Enter Tryz.prog 14 := .of Tryz.func14 (by kernel_rfl) (by kernel_rfl)
noncomputable def TprocRight (B : OH) : Cs := callF B { f := GprocRight B } 1000000 LprocRight
theorem sTprocRight {w0 : World} {B : OH} : SoundC Tryz.prog w0 B 14 (TprocRight B) := callF_sound mixedOrders sGprocRight 1000000 Tryz.func14 lowprocRight
noncomputable def FprocRight (B : OH) : List Value → Option Value := kval B (TprocRight B)
noncomputable def VprocRight (B : OH) : Cs := fun a H N => pvE (FprocRight B a) H N
theorem VprocRight_eq {B : OH} {a : List Value} {H : HL} {N : St} : VprocRight B a H N = pvE (FprocRight B a) H N := rfl
theorem sVprocRight {w0 : World} {B : OH} : SoundC Tryz.prog w0 B 14 (VprocRight B) := sTprocRight.ofVal

set_option maxHeartbeats 2000000 in
theorem rt26 {B : OH} (hG : ∃ H N, good B H N) (hT : Tab B) {kk p cc h : Nat} (C : Cf kk p cc h) {q : Nat} (hq : q < p) {code key val flag ps i n o a w : Int} {sm : Bool} {wa : Option Addr} {wl wc : Nat} (hc : 1 ≤ code ∧ code ≤ 255) (hf : flag ≠ 0)  : FprocRight B [.agg #[.int .i64 (kk : Int), .int .i64 (p : Int), .int .i64 (cc : Int)], .int .i64 (q : Int), .agg #[.int .i64 26, .int .i64 code, .int .u64 key, .int .u64 val, .int .u64 flag, .int .i64 0, .int .i64 0, .int .i64 0, .int .i64 0, .int .i64 0, .int .u64 0, .bool false, .slice none 0 0]] = some (.bool true) := by
  refine kval_eq hG fun H N hN => ?_
  obtain ⟨hB, hR, hI⟩ := gX hN
  have e1 := f13 hG kk p cc (cfit C).1 (cfit C).2.1 (cfit C).2.2
  have e2 := ph26 (code := code) (key := key) (val := val) (flag := flag) (ps := ps) (i := i) (n := n) (o := o) (a := a) (w := w) (sm := sm) (wa := wa) (wl := wl) (wc := wc) hG hT C 
  have e3 := pp26 (code := code) (key := key) (val := val) (flag := flag) (ps := ps) (i := 0) (n := 0) (o := 0) (a := 0) (w := 0) (sm := false) (wa := none) (wl := 0) (wc := 0) hG hf
  have q0 : (q : Int) ≥ 0 := by omega
  have q1 : (q : Int) < (p : Int) := by omega
  have c1 : ¬ code < 1 := by omega
  have c2 : ¬ code > 255 := by omega
  simp (disch := omega) only [TprocRight, LprocRight, GprocRight_13, V13_eq, GprocRight_procempty, Vprocempty_eq, GprocRight_prochands, Vprochands_eq, GprocRight_procpasses, Vprocpasses_eq, GprocRight_procwithin, Vprocwithin, Tprocwithin, Lprocwithin, hB, hR, hI, e1, e2, e3, q0, q1, c1, c2, all1, ress, res1, retV, Value.cells, newsV_s, e_fork, slcV, seval, eV]
  with_reducible refine done2 ?_
  repeat (first | refine ext_new hN ?_ | exact fun _ _ h => h)
set_option maxHeartbeats 2000000 in
theorem rt27 {B : OH} (hG : ∃ H N, good B H N) (hT : Tab B) {kk p cc h : Nat} (C : Cf kk p cc h) {q : Nat} (hq : q < p) {code key val flag ps i n o a w : Int} {sm : Bool} {wa : Option Addr} {wl wc : Nat} (hc : 1 ≤ code ∧ code ≤ 255) (hf : flag ≠ 0)  : FprocRight B [.agg #[.int .i64 (kk : Int), .int .i64 (p : Int), .int .i64 (cc : Int)], .int .i64 (q : Int), .agg #[.int .i64 27, .int .i64 code, .int .u64 key, .int .u64 val, .int .u64 flag, .int .i64 0, .int .i64 0, .int .i64 0, .int .i64 0, .int .i64 0, .int .u64 0, .bool false, .slice none 0 0]] = some (.bool true) := by
  refine kval_eq hG fun H N hN => ?_
  obtain ⟨hB, hR, hI⟩ := gX hN
  have e1 := f13 hG kk p cc (cfit C).1 (cfit C).2.1 (cfit C).2.2
  have e2 := ph27 (code := code) (key := key) (val := val) (flag := flag) (ps := ps) (i := i) (n := n) (o := o) (a := a) (w := w) (sm := sm) (wa := wa) (wl := wl) (wc := wc) hG hT C 
  have e3 := pp27 (code := code) (key := key) (val := val) (flag := flag) (ps := ps) (i := 0) (n := 0) (o := 0) (a := 0) (w := 0) (sm := false) (wa := none) (wl := 0) (wc := 0) hG hf
  have q0 : (q : Int) ≥ 0 := by omega
  have q1 : (q : Int) < (p : Int) := by omega
  have c1 : ¬ code < 1 := by omega
  have c2 : ¬ code > 255 := by omega
  simp (disch := omega) only [TprocRight, LprocRight, GprocRight_13, V13_eq, GprocRight_procempty, Vprocempty_eq, GprocRight_prochands, Vprochands_eq, GprocRight_procpasses, Vprocpasses_eq, GprocRight_procwithin, Vprocwithin, Tprocwithin, Lprocwithin, hB, hR, hI, e1, e2, e3, q0, q1, c1, c2, all1, ress, res1, retV, Value.cells, newsV_s, e_fork, slcV, seval, eV]
  with_reducible refine done2 ?_
  repeat (first | refine ext_new hN ?_ | exact fun _ _ h => h)
set_option maxHeartbeats 2000000 in
theorem rt28 {B : OH} (hG : ∃ H N, good B H N) (hT : Tab B) {kk p cc h : Nat} (C : Cf kk p cc h) {q : Nat} (hq : q < p) {code key val flag ps i n o a w : Int} {sm : Bool} {wa : Option Addr} {wl wc : Nat} (hc : 1 ≤ code ∧ code ≤ 255) (hf : flag ≠ 0)  : FprocRight B [.agg #[.int .i64 (kk : Int), .int .i64 (p : Int), .int .i64 (cc : Int)], .int .i64 (q : Int), .agg #[.int .i64 28, .int .i64 code, .int .u64 key, .int .u64 val, .int .u64 flag, .int .i64 0, .int .i64 0, .int .i64 0, .int .i64 0, .int .i64 0, .int .u64 0, .bool false, .slice none 0 0]] = some (.bool true) := by
  refine kval_eq hG fun H N hN => ?_
  obtain ⟨hB, hR, hI⟩ := gX hN
  have e1 := f13 hG kk p cc (cfit C).1 (cfit C).2.1 (cfit C).2.2
  have e2 := ph28 (code := code) (key := key) (val := val) (flag := flag) (ps := ps) (i := i) (n := n) (o := o) (a := a) (w := w) (sm := sm) (wa := wa) (wl := wl) (wc := wc) hG hT C 
  have e3 := pp28 (code := code) (key := key) (val := val) (flag := flag) (ps := ps) (i := 0) (n := 0) (o := 0) (a := 0) (w := 0) (sm := false) (wa := none) (wl := 0) (wc := 0) hG hf
  have q0 : (q : Int) ≥ 0 := by omega
  have q1 : (q : Int) < (p : Int) := by omega
  have c1 : ¬ code < 1 := by omega
  have c2 : ¬ code > 255 := by omega
  simp (disch := omega) only [TprocRight, LprocRight, GprocRight_13, V13_eq, GprocRight_procempty, Vprocempty_eq, GprocRight_prochands, Vprochands_eq, GprocRight_procpasses, Vprocpasses_eq, GprocRight_procwithin, Vprocwithin, Tprocwithin, Lprocwithin, hB, hR, hI, e1, e2, e3, q0, q1, c1, c2, all1, ress, res1, retV, Value.cells, newsV_s, e_fork, slcV, seval, eV]
  with_reducible refine done2 ?_
  repeat (first | refine ext_new hN ?_ | exact fun _ _ h => h)
set_option maxHeartbeats 2000000 in
theorem rt29 {B : OH} (hG : ∃ H N, good B H N) (hT : Tab B) {kk p cc h : Nat} (C : Cf kk p cc h) {q : Nat} (hq : q < p) {code key val flag ps i n o a w : Int} {sm : Bool} {wa : Option Addr} {wl wc : Nat} (hc : 1 ≤ code ∧ code ≤ 255) (hf : flag ≠ 0)  : FprocRight B [.agg #[.int .i64 (kk : Int), .int .i64 (p : Int), .int .i64 (cc : Int)], .int .i64 (q : Int), .agg #[.int .i64 29, .int .i64 code, .int .u64 key, .int .u64 val, .int .u64 flag, .int .i64 0, .int .i64 0, .int .i64 0, .int .i64 0, .int .i64 0, .int .u64 0, .bool false, .slice none 0 0]] = some (.bool true) := by
  refine kval_eq hG fun H N hN => ?_
  obtain ⟨hB, hR, hI⟩ := gX hN
  have e1 := f13 hG kk p cc (cfit C).1 (cfit C).2.1 (cfit C).2.2
  have e2 := ph29 (code := code) (key := key) (val := val) (flag := flag) (ps := ps) (i := i) (n := n) (o := o) (a := a) (w := w) (sm := sm) (wa := wa) (wl := wl) (wc := wc) hG hT C 
  have e3 := pp29 (code := code) (key := key) (val := val) (flag := flag) (ps := ps) (i := 0) (n := 0) (o := 0) (a := 0) (w := 0) (sm := false) (wa := none) (wl := 0) (wc := 0) hG hf
  have q0 : (q : Int) ≥ 0 := by omega
  have q1 : (q : Int) < (p : Int) := by omega
  have c1 : ¬ code < 1 := by omega
  have c2 : ¬ code > 255 := by omega
  simp (disch := omega) only [TprocRight, LprocRight, GprocRight_13, V13_eq, GprocRight_procempty, Vprocempty_eq, GprocRight_prochands, Vprochands_eq, GprocRight_procpasses, Vprocpasses_eq, GprocRight_procwithin, Vprocwithin, Tprocwithin, Lprocwithin, hB, hR, hI, e1, e2, e3, q0, q1, c1, c2, all1, ress, res1, retV, Value.cells, newsV_s, e_fork, slcV, seval, eV]
  with_reducible refine done2 ?_
  repeat (first | refine ext_new hN ?_ | exact fun _ _ h => h)
set_option maxHeartbeats 2000000 in
theorem rt30 {B : OH} (hG : ∃ H N, good B H N) (hT : Tab B) {kk p cc h : Nat} (C : Cf kk p cc h) {q : Nat} (hq : q < p) {code key val flag ps i n o a w : Int} {sm : Bool} {wa : Option Addr} {wl wc : Nat} (hc : 1 ≤ code ∧ code ≤ 255) (hf : flag ≠ 0)  : FprocRight B [.agg #[.int .i64 (kk : Int), .int .i64 (p : Int), .int .i64 (cc : Int)], .int .i64 (q : Int), .agg #[.int .i64 30, .int .i64 code, .int .u64 key, .int .u64 val, .int .u64 flag, .int .i64 0, .int .i64 0, .int .i64 0, .int .i64 0, .int .i64 0, .int .u64 w, .bool false, .slice none 0 0]] = some (.bool true) := by
  refine kval_eq hG fun H N hN => ?_
  obtain ⟨hB, hR, hI⟩ := gX hN
  have e1 := f13 hG kk p cc (cfit C).1 (cfit C).2.1 (cfit C).2.2
  have e2 := ph30 (code := code) (key := key) (val := val) (flag := flag) (ps := ps) (i := i) (n := n) (o := o) (a := a) (w := w) (sm := sm) (wa := wa) (wl := wl) (wc := wc) hG hT C 
  have e3 := pp30 (code := code) (key := key) (val := val) (flag := flag) (ps := ps) (i := 0) (n := 0) (o := 0) (a := 0) (w := w) (sm := false) (wa := none) (wl := 0) (wc := 0) hG hf
  have q0 : (q : Int) ≥ 0 := by omega
  have q1 : (q : Int) < (p : Int) := by omega
  have c1 : ¬ code < 1 := by omega
  have c2 : ¬ code > 255 := by omega
  simp (disch := omega) only [TprocRight, LprocRight, GprocRight_13, V13_eq, GprocRight_procempty, Vprocempty_eq, GprocRight_prochands, Vprochands_eq, GprocRight_procpasses, Vprocpasses_eq, GprocRight_procwithin, Vprocwithin, Tprocwithin, Lprocwithin, hB, hR, hI, e1, e2, e3, q0, q1, c1, c2, all1, ress, res1, retV, Value.cells, newsV_s, e_fork, slcV, seval, eV]
  with_reducible refine done2 ?_
  repeat (first | refine ext_new hN ?_ | exact fun _ _ h => h)
set_option maxHeartbeats 2000000 in
theorem rt31 {B : OH} (hG : ∃ H N, good B H N) (hT : Tab B) {kk p cc h : Nat} (C : Cf kk p cc h) {q : Nat} (hq : q < p) {code key val flag ps i n o a w : Int} {sm : Bool} {wa : Option Addr} {wl wc : Nat} (hc : 1 ≤ code ∧ code ≤ 255) (hf : flag ≠ 0)  : FprocRight B [.agg #[.int .i64 (kk : Int), .int .i64 (p : Int), .int .i64 (cc : Int)], .int .i64 (q : Int), .agg #[.int .i64 31, .int .i64 code, .int .u64 key, .int .u64 val, .int .u64 flag, .int .i64 0, .int .i64 0, .int .i64 0, .int .i64 0, .int .i64 0, .int .u64 w, .bool false, .slice none 0 0]] = some (.bool true) := by
  refine kval_eq hG fun H N hN => ?_
  obtain ⟨hB, hR, hI⟩ := gX hN
  have e1 := f13 hG kk p cc (cfit C).1 (cfit C).2.1 (cfit C).2.2
  have e2 := ph31 (code := code) (key := key) (val := val) (flag := flag) (ps := ps) (i := i) (n := n) (o := o) (a := a) (w := w) (sm := sm) (wa := wa) (wl := wl) (wc := wc) hG hT C 
  have e3 := pp31 (code := code) (key := key) (val := val) (flag := flag) (ps := ps) (i := 0) (n := 0) (o := 0) (a := 0) (w := w) (sm := false) (wa := none) (wl := 0) (wc := 0) hG hf
  have q0 : (q : Int) ≥ 0 := by omega
  have q1 : (q : Int) < (p : Int) := by omega
  have c1 : ¬ code < 1 := by omega
  have c2 : ¬ code > 255 := by omega
  simp (disch := omega) only [TprocRight, LprocRight, GprocRight_13, V13_eq, GprocRight_procempty, Vprocempty_eq, GprocRight_prochands, Vprochands_eq, GprocRight_procpasses, Vprocpasses_eq, GprocRight_procwithin, Vprocwithin, Tprocwithin, Lprocwithin, hB, hR, hI, e1, e2, e3, q0, q1, c1, c2, all1, ress, res1, retV, Value.cells, newsV_s, e_fork, slcV, seval, eV]
  with_reducible refine done2 ?_
  repeat (first | refine ext_new hN ?_ | exact fun _ _ h => h)
end Go.Proofs.YtbpaekbjpapgeaaGreatDoor
