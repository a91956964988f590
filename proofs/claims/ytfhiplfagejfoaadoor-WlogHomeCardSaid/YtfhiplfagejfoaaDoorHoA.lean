/- Own text: the log of writes, part HoA: contracts of the functions that the laws of the log call. -/
import Derived.Test.YtfhiplfagejfoaaDoorKc
import Derived.Test.YtfhiplfagejfoaaDoorChecked
set_option linter.unusedSimpArgs false
set_option linter.unusedVariables false
namespace Go.Proofs.YtfhiplfagejfoaaDoor
/-! ### Plain mathematics of the parts of memory -/
def hm (k c : Int) : Int := if k = 1 then 1 else if k = 2 then 1 + 2 * c else if k = 3 then 1 + 4 * c else if k = 4 then 2 + 4 * c else 9 + c
def sz (p h : Nat) : Nat → Nat
  | 0 => 1
  | 1 => 3
  | 2 => 2
  | 3 => 1 + 2 * (h + 2 * p)
  | _ => h
def mn (p : Nat) : Nat → Nat
  | 0 => 1
  | 1 => p
  | 2 => p
  | 3 => p
  | _ => 1
def bs (p h : Nat) : Nat → Nat
  | 0 => 0
  | k + 1 => bs p h k + sz p h k * mn p k
def fr (p h k o : Nat) : Nat := bs p h k + sz p h k * o
def Lt (k o k' o' : Nat) : Prop := k < k' ∨ (k = k' ∧ o < o')
theorem fr_zero {p h k} : fr p h k 0 = bs p h k := by simp [fr]
theorem fr_succ {p h k o} : fr p h k (o + 1) = fr p h k o + sz p h k := by unfold fr; rw [Nat.mul_succ]; omega
theorem fr_next {p h k} : fr p h (k + 1) 0 = fr p h k (mn p k) := by simp [fr, bs]
theorem fr_mono {p h k o o'} (ho : o ≤ o') : fr p h k o ≤ fr p h k o' := by
  unfold fr; have := Nat.mul_le_mul_left (sz p h k) ho; omega
theorem bs_mono {p h k k'} (hk : k ≤ k') : bs p h k ≤ bs p h k' := by
  induction hk with
  | refl => exact Nat.le_refl _
  | step _ ih => exact Nat.le_trans ih (Nat.le_add_right _ _)
theorem fr_lt {p h k o k' o' : Nat} (ho : o < mn p k) (h' : Lt k o k' o') : fr p h k o + sz p h k ≤ fr p h k' o' := by
  rw [← fr_succ]
  rcases h' with hk | ⟨rfl, hk⟩
  · refine Nat.le_trans (fr_mono (o' := mn p k) (by omega)) ?_
    rw [← fr_next, fr_zero]
    exact Nat.le_trans (bs_mono (by omega)) (Nat.le_add_right _ _)
  · exact fr_mono (by omega)
theorem sz_pos {p h k : Nat} (hh : 0 < h) : 0 < sz p h k := by
  unfold sz; split <;> omega
theorem mn_le {p k : Nat} (hp : 0 < p) : mn p k ≤ p := by
  unfold mn; split <;> omega
theorem sz_le {p h k : Nat} (hp : p ≤ 16) (hh : h ≤ 1026) : sz p h k ≤ 2117 := by
  unfold sz; split <;> omega
theorem bs_le {p h : Nat} (hp0 : 0 < p) (hp : p ≤ 16) (hh : h ≤ 1026) : ∀ k, bs p h k ≤ 33872 * k
  | 0 => by simp [bs]
  | k + 1 => by
    have h1 := bs_le hp0 hp hh k
    have h2 : sz p h k * mn p k ≤ 2117 * 16 := Nat.mul_le_mul (sz_le hp hh) (Nat.le_trans (mn_le hp0) hp)
    simp only [bs]; omega
theorem has_part {p h at' : Nat} (hh : 0 < h) : ∀ n, at' < bs p h n → ∃ k o, k < n ∧ o < mn p k ∧ fr p h k o ≤ at' ∧ at' < fr p h k o + sz p h k := by
  intro n
  induction n with
  | zero => intro h0; simp [bs] at h0
  | succ n ih =>
    intro h0
    by_cases hb : at' < bs p h n
    · obtain ⟨k, o, h1, h2⟩ := ih hb
      exact ⟨k, o, by omega, h2⟩
    · have hs := sz_pos (p := p) (k := n) hh
      simp only [bs] at h0
      refine ⟨n, (at' - bs p h n) / sz p h n, by omega, (Nat.div_lt_iff_lt_mul hs).2 (by rw [Nat.mul_comm]; omega), ?_, ?_⟩
      · have := Nat.mul_div_le (at' - bs p h n) (sz p h n)
        unfold fr; omega
      · have := Nat.lt_mul_div_succ (at' - bs p h n) hs
        rw [Nat.mul_succ] at this
        unfold fr; omega
theorem hm_bounds {k c : Int} (hk : 1 ≤ k ∧ k ≤ 5) (hc : 1 ≤ c ∧ c ≤ 256) : 1 ≤ hm k c ∧ hm k c ≤ 1026 := by
  unfold hm; repeat' split
  all_goals omega
def pk (x n : Int) : Int := (if x < 0 then -(x + 1) else x).tmod n
theorem pk_b {x n : Int} (hn : 0 < n) : 0 ≤ pk x n ∧ pk x n < n := by
  unfold pk
  split
  · exact ⟨Int.tmod_nonneg _ (by omega), Int.tmod_lt_of_pos _ hn⟩
  · exact ⟨Int.tmod_nonneg _ (by omega), Int.tmod_lt_of_pos _ hn⟩
end Go.Proofs.YtfhiplfagejfoaaDoor
namespace Go.Proofs.YtfhiplfagejfoaaDoor
open Go.Proofs.YtfhiplfagejfoaaDoor.K Go.ChangeShapes Go.WideShapes Go.ChangeAt Go.RowKit 
set_option maxRecDepth 100000
set_option linter.unusedSimpArgs false
set_option linter.unusedVariables false
theorem mixedOrders : Tryd.prog.follows .mixedOrders = true := by kernel_rfl
def OBJ : List Value := [.int .i64 0, .int .i64 0, .int .i64 1, .int .i64 0, .int .i64 1, .int .i64 2, .int .i64 1, .int .i64 4, .int .i64 2, .int .i64 4, .int .i64 9, .int .i64 1]
def Tab (B : OH) : Prop := ∀ i : Nat, i < 6 → rdB B 0 (i * 2) 2 = tk OBJ (i * 2) 2
def L13 : FnL := ⟨(.seq (.ops [oa 1 (.box (ot 0)),oa 2 (.mv (.const (.bool false)))])
 (.seq (.ops [og 3 0 1,ol 4 3,oa 5 (.bin .geq (ot 4) (oi 1)),om 6 5,ob 7 (.faddr 0 (ot 1)) 6 true,ob 8 (.load false 1 (ot 7)) 6 true,ob 9 (.bin .lss (ot 8) (oi 6)) 6 true,oa 10 (.pick (ot 6) (ot 9) (.const (.bool false))),om 11 10,ob 12 (.faddr 1 (ot 1)) 11 true,ob 13 (.load false 1 (ot 12)) 11 true,ob 14 (.bin .geq (ot 13) (oi 1)) 11 true,oa 15 (.pick (ot 11) (ot 14) (.const (.bool false))),om 16 15,ob 17 (.faddr 1 (ot 1)) 16 true,ob 18 (.load false 1 (ot 17)) 16 true,ob 19 (.bin .leq (ot 18) (oi 16)) 16 true,oa 20 (.pick (ot 16) (ot 19) (.const (.bool false))),om 21 20,ob 22 (.faddr 2 (ot 1)) 21 true,ob 23 (.load false 1 (ot 22)) 21 true,ob 24 (.bin .geq (ot 23) (oi 1)) 21 true,oa 25 (.pick (ot 21) (ot 24) (.const (.bool false))),om 26 25,ob 27 (.faddr 2 (ot 1)) 26 true,ob 28 (.load false 1 (ot 27)) 26 true,ob 29 (.bin .leq (ot 28) (oi 256)) 26 true,oa 30 (.pick (ot 26) (ot 29) (.const (.bool false))),om 2 30])
 .ret)),
 31, [.tmp 2]⟩
theorem low13 : lowerFn Tryd.prog Tryd.f45 = some L13 := by kernel_rfl
noncomputable def G13 (B : OH) : Nat → Cs
  | _ => fun _ _ _ => none
theorem sG13 {w0 : World} {B : OH} : SoundG Tryd.prog w0 B { f := G13 B } := .of fun k => by
  unfold G13
  split
  · exact .inl fun _ _ _ => rfl
theorem en13 : Enter Tryd.prog 45 := .of Tryd.func45 (by kernel_rfl) (by kernel_rfl)
noncomputable def T13 (B : OH) : Cs := callF B { f := G13 B } 80 L13
theorem sT13 {w0 : World} {B : OH} : SoundC Tryd.prog w0 B 45 (T13 B) := callF_sound mixedOrders sG13 80 Tryd.func45 low13
noncomputable def F13 (B : OH) : List Value → Option Value := kval B (T13 B)
noncomputable def V13 (B : OH) : Cs := fun a H N => pvE (F13 B a) H N
theorem V13_eq {B : OH} {a : List Value} {H : HL} {N : St} : V13 B a H N = pvE (F13 B a) H N := rfl
theorem sV13 {w0 : World} {B : OH} : SoundC Tryd.prog w0 B 45 (V13 B) := sT13.ofVal
theorem J0 : Said (an @T13.eq_1 <| an @L13.eq_1 <| trivial) := said_ok _
theorem f13 {B : OH} (hG : ∃ H N, good B H N) (k p c : Int) (hk : 1 ≤ k ∧ k ≤ 5) (hp : 1 ≤ p ∧ p ≤ 16) (hc : 1 ≤ c ∧ c ≤ 256) : F13 B [.agg #[.int .i64 k, .int .i64 p, .int .i64 c]] = some (.bool true) := by
  refine kval_eq hG fun H N hN => ?_
  obtain ⟨hB, hR, hI⟩ := gX hN
  have k1 : k ≥ 1 := hk.1
  have k2 : k < 6 := by omega
  have p1 : p ≥ 1 := hp.1
  have p2 : p ≤ 16 := hp.2
  have c1 : c ≥ 1 := hc.1
  have c2 : c ≤ 256 := hc.2
  simp (disch := omega) only [J0, hB, hR, hI, k1, k2, p1, p2, c1, c2, e_loop, all1, lenV, ress, res1, retV, Value.cells, newsV_s, seval, eV]
  with_reducible refine done2 ?_
  repeat (first | refine ext_new hN ?_ | exact fun _ _ h => h)
def L12 : FnL := ⟨(.seq (.ops [oa 1 (.box (ot 0)),oa 2 (.mv (oi 0))])
 (.seq (.seq (.ops [oa 4 (.load true 3 (ot 1)),oa 5 (.call (.func 45) [(ot 4)]),oa 6 (.un .not (ot 5))])
 (.cond (ot 6) (.seq (.ops [oa 2 (.mv (oi 0))])
 .ret)
 .skip))
 (.seq (.ops [og 7 0 1,ol 8 7,oa 9 (.iaddrA 2 6 (.global 0) (ot 8)),oa 10 (.load true 2 (ot 9)),oa 3 (.alloc [(.int .i64 0), (.int .i64 0)]), oc (.store 2 (ot 3) (ot 10))])
 (.seq (.ops [og 11 0 3,ol 12 11,og 13 1 3,ol 14 13,og 15 2 1,ol 16 15,oa 17 (.bin .mul (ot 14) (ot 16)),oa 18 (.bin .add (ot 12) (ot 17)),om 2 18])
 .ret)))),
 19, [.tmp 2]⟩
theorem low12 : lowerFn Tryd.prog Tryd.f67 = some L12 := by kernel_rfl
noncomputable def G12 (B : OH) : Nat → Cs
  | 45 => V13 B
  | _ => fun _ _ _ => none
theorem G12_13 {B : OH} : G12 B 45 = V13 B := rfl
theorem sG12 {w0 : World} {B : OH} : SoundG Tryd.prog w0 B { f := G12 B } := .of fun k => by
  unfold G12
  split
  · exact .inr ⟨en13, sV13⟩
  · exact .inl fun _ _ _ => rfl
theorem en12 : Enter Tryd.prog 67 := .of Tryd.func67 (by kernel_rfl) (by kernel_rfl)
noncomputable def T12 (B : OH) : Cs := callF B { f := G12 B } 80 L12
theorem sT12 {w0 : World} {B : OH} : SoundC Tryd.prog w0 B 67 (T12 B) := callF_sound mixedOrders sG12 80 Tryd.func67 low12
noncomputable def F12 (B : OH) : List Value → Option Value := kval B (T12 B)
noncomputable def V12 (B : OH) : Cs := fun a H N => pvE (F12 B a) H N
theorem V12_eq {B : OH} {a : List Value} {H : HL} {N : St} : V12 B a H N = pvE (F12 B a) H N := rfl
theorem sV12 {w0 : World} {B : OH} : SoundC Tryd.prog w0 B 67 (V12 B) := sT12.ofVal
theorem J1 : Said (an @T12.eq_1 <| an @L12.eq_1 <| an @G12_13 <| an @V13_eq <| trivial) := said_ok _
set_option maxHeartbeats 1000000 in
theorem f12 {B : OH} (hG : ∃ H N, good B H N) (hT : Tab B) (k p c : Int) (hk : 1 ≤ k ∧ k ≤ 5) (hp : 1 ≤ p ∧ p ≤ 16) (hc : 1 ≤ c ∧ c ≤ 256) : F12 B [.agg #[.int .i64 k, .int .i64 p, .int .i64 c]] = some (.int .i64 (hm k c)) := by
  refine kval_eq hG fun H N hN => ?_
  obtain ⟨hB, hR, hI⟩ := gX hN
  have e13 := f13 hG k p c hk hp hc
  obtain rfl | rfl | rfl | rfl | rfl : k = 1 ∨ k = 2 ∨ k = 3 ∨ k = 4 ∨ k = 5 := by omega
  · have ht : rdB B 0 2 2 = some [.int .i64 1, .int .i64 0] := hT 1 (by omega)
    have hw : IntKind.i64.wrap (0 * c) = 0 := by rw [Int.zero_mul]; rfl
    simp (disch := omega) only [J1, hB, hR, hI, e13, ht, hw, hm, e_loop, all1, lenV, ress, res1, retV, Value.cells, newsV_s, seval, eV]
    with_reducible refine done2 ?_
    repeat (first | refine ext_new hN ?_ | exact fun _ _ h => h)
  · have ht : rdB B 0 4 2 = some [.int .i64 1, .int .i64 2] := hT 2 (by omega)
    simp (disch := omega) only [J1, hB, hR, hI, e13, ht, hm, e_loop, all1, lenV, ress, res1, retV, Value.cells, newsV_s, seval, eV]
    with_reducible refine done2 ?_
    repeat (first | refine ext_new hN ?_ | exact fun _ _ h => h)
  · have ht : rdB B 0 6 2 = some [.int .i64 1, .int .i64 4] := hT 3 (by omega)
    simp (disch := omega) only [J1, hB, hR, hI, e13, ht, hm, e_loop, all1, lenV, ress, res1, retV, Value.cells, newsV_s, seval, eV]
    with_reducible refine done2 ?_
    repeat (first | refine ext_new hN ?_ | exact fun _ _ h => h)
  · have ht : rdB B 0 8 2 = some [.int .i64 2, .int .i64 4] := hT 4 (by omega)
    simp (disch := omega) only [J1, hB, hR, hI, e13, ht, hm, e_loop, all1, lenV, ress, res1, retV, Value.cells, newsV_s, seval, eV]
    with_reducible refine done2 ?_
    repeat (first | refine ext_new hN ?_ | exact fun _ _ h => h)
  · have ht : rdB B 0 10 2 = some [.int .i64 9, .int .i64 1] := hT 5 (by omega)
    have hw : IntKind.i64.wrap (1 * c) = c := by rw [Int.one_mul]; exact IntWalk.i64_in _ (by omega)
    simp (disch := omega) only [J1, hB, hR, hI, e13, ht, hw, hm, e_loop, all1, lenV, ress, res1, retV, Value.cells, newsV_s, seval, eV]
    with_reducible refine done2 ?_
    repeat (first | refine ext_new hN ?_ | exact fun _ _ h => h)
def L16 : FnL := ⟨(.seq (.ops [oa 1 (.box (ot 0)),oa 2 (.mv (oi 0))])
 (.seq (.draw [oe 3 (.load true 3 (ot 1)),pg 5 1 1,pl 6 5,oe 7 (.bin .mul (oi 2) (ot 6)), ⟨oa 4 (.call (.func 67) [(ot 3)]), [ol 6 5]⟩,oe 8 (.bin .add (ot 4) (ot 7)),pm 2 8])
 .ret)),
 9, [.tmp 2]⟩
theorem low16 : lowerFn Tryd.prog Tryd.f55 = some L16 := by kernel_rfl
noncomputable def G16 (B : OH) : Nat → Cs
  | 67 => V12 B
  | _ => fun _ _ _ => none
theorem G16_12 {B : OH} : G16 B 67 = V12 B := rfl
theorem sG16 {w0 : World} {B : OH} : SoundG Tryd.prog w0 B { f := G16 B } := .of fun k => by
  unfold G16
  split
  · exact .inr ⟨en12, sV12⟩
  · exact .inl fun _ _ _ => rfl
theorem en16 : Enter Tryd.prog 55 := .of Tryd.func55 (by kernel_rfl) (by kernel_rfl)
noncomputable def T16 (B : OH) : Cs := callF B { f := G16 B } 80 L16
theorem sT16 {w0 : World} {B : OH} : SoundC Tryd.prog w0 B 55 (T16 B) := callF_sound mixedOrders sG16 80 Tryd.func55 low16
noncomputable def F16 (B : OH) : List Value → Option Value := kval B (T16 B)
noncomputable def V16 (B : OH) : Cs := fun a H N => pvE (F16 B a) H N
theorem V16_eq {B : OH} {a : List Value} {H : HL} {N : St} : V16 B a H N = pvE (F16 B a) H N := rfl
theorem sV16 {w0 : World} {B : OH} : SoundC Tryd.prog w0 B 55 (V16 B) := sT16.ofVal
theorem J2 : Said (an @T16.eq_1 <| an @L16.eq_1 <| an @G16_12 <| an @V12_eq <| trivial) := said_ok _
theorem f16 {B : OH} (hG : ∃ H N, good B H N) (hT : Tab B) (k p c : Int) (hk : 1 ≤ k ∧ k ≤ 5) (hp : 1 ≤ p ∧ p ≤ 16) (hc : 1 ≤ c ∧ c ≤ 256) : F16 B [.agg #[.int .i64 k, .int .i64 p, .int .i64 c]] = some (.int .i64 (hm k c + 2 * p)) := by
  refine kval_eq hG fun H N hN => ?_
  obtain ⟨hB, hR, hI⟩ := gX hN
  have e12 := f12 hG hT k p c hk hp hc
  have hb := hm_bounds hk hc
  simp (disch := omega) only [J2, hB, hR, hI, e12, e_loop, all1, lenV, ress, res1, retV, Value.cells, newsV_s, seval, eV]
  with_reducible refine done2 ?_
  repeat (first | refine ext_new hN ?_ | exact fun _ _ h => h)
def L11 : FnL := ⟨(.seq (.ops [oa 1 (.box (ot 0)),oa 2 (.mv (oi 0))])
 (.seq (.seq (.ops [oa 3 (.load true 3 (ot 1)),oa 4 (.call (.func 45) [(ot 3)]),oa 5 (.un .not (ot 4))])
 (.cond (ot 5) (.seq (.ops [oa 2 (.mv (oi 0))])
 .ret)
 .skip))
 (.seq (.ops [oa 6 (.load true 3 (ot 1)),oa 7 (.call (.func 55) [(ot 6)]),oa 8 (.bin .mul (oi 2) (ot 7)),oa 9 (.bin .add (oi 1) (ot 8)),om 2 9])
 .ret))),
 10, [.tmp 2]⟩
theorem low11 : lowerFn Tryd.prog Tryd.f30 = some L11 := by kernel_rfl
noncomputable def G11 (B : OH) : Nat → Cs
  | 45 => V13 B
  | 55 => V16 B
  | _ => fun _ _ _ => none
theorem G11_13 {B : OH} : G11 B 45 = V13 B := rfl
theorem G11_16 {B : OH} : G11 B 55 = V16 B := rfl
theorem sG11 {w0 : World} {B : OH} : SoundG Tryd.prog w0 B { f := G11 B } := .of fun k => by
  unfold G11
  split
  · exact .inr ⟨en13, sV13⟩
  · exact .inr ⟨en16, sV16⟩
  · exact .inl fun _ _ _ => rfl
theorem en11 : Enter Tryd.prog 30 := .of Tryd.func30 (by kernel_rfl) (by kernel_rfl)
noncomputable def T11 (B : OH) : Cs := callF B { f := G11 B } 80 L11
theorem sT11 {w0 : World} {B : OH} : SoundC Tryd.prog w0 B 30 (T11 B) := callF_sound mixedOrders sG11 80 Tryd.func30 low11
noncomputable def F11 (B : OH) : List Value → Option Value := kval B (T11 B)
noncomputable def V11 (B : OH) : Cs := fun a H N => pvE (F11 B a) H N
theorem V11_eq {B : OH} {a : List Value} {H : HL} {N : St} : V11 B a H N = pvE (F11 B a) H N := rfl
theorem sV11 {w0 : World} {B : OH} : SoundC Tryd.prog w0 B 30 (V11 B) := sT11.ofVal
theorem J3 : Said (an @T11.eq_1 <| an @L11.eq_1 <| an @G11_13 <| an @V13_eq <| an @G11_16 <| an @V16_eq <| trivial) := said_ok _
theorem f11 {B : OH} (hG : ∃ H N, good B H N) (hT : Tab B) (k p c : Int) (hk : 1 ≤ k ∧ k ≤ 5) (hp : 1 ≤ p ∧ p ≤ 16) (hc : 1 ≤ c ∧ c ≤ 256) : F11 B [.agg #[.int .i64 k, .int .i64 p, .int .i64 c]] = some (.int .i64 (1 + 2 * (hm k c + 2 * p))) := by
  refine kval_eq hG fun H N hN => ?_
  obtain ⟨hB, hR, hI⟩ := gX hN
  have e13 := f13 hG k p c hk hp hc
  have e16 := f16 hG hT k p c hk hp hc
  have hb := hm_bounds hk hc
  simp (disch := omega) only [J3, hB, hR, hI, e13, e16, e_loop, all1, lenV, ress, res1, retV, Value.cells, newsV_s, seval, eV]
  with_reducible refine done2 ?_
  repeat (first | refine ext_new hN ?_ | exact fun _ _ h => h)
def L15 : FnL := ⟨(.seq (.ops [oa 1 (.box (ot 0)),oa 2 (.mv (.const .nilFunc))])
 (.seq (.ops [oa 3 (.fn (.func 68) [] [(ot 1)]),om 2 3])
 .ret)),
 4, [.tmp 2]⟩
theorem low15 : lowerFn Tryd.prog Tryd.f56 = some L15 := by kernel_rfl
noncomputable def G15 (B : OH) : Nat → Cs
  | _ => fun _ _ _ => none
theorem sG15 {w0 : World} {B : OH} : SoundG Tryd.prog w0 B { f := G15 B } := .of fun k => by
  unfold G15
  split
  · exact .inl fun _ _ _ => rfl
theorem en15 : Enter Tryd.prog 56 := .of Tryd.func56 (by kernel_rfl) (by kernel_rfl)
noncomputable def T15 (B : OH) : Cs := callF B { f := G15 B } 80 L15
theorem sT15 {w0 : World} {B : OH} : SoundC Tryd.prog w0 B 56 (T15 B) := callF_sound mixedOrders sG15 80 Tryd.func56 low15
noncomputable def V15 (B : OH) : Cs := T15 B
theorem sV15 {w0 : World} {B : OH} : SoundC Tryd.prog w0 B 56 (V15 B) := sT15
end Go.Proofs.YtfhiplfagejfoaaDoor
namespace Go.Proofs.YtfhiplfagejfoaaDoor
open Go.Proofs.YtfhiplfagejfoaaDoor.K Go.ChangeShapes Go.WideShapes Go.ChangeAt Go.RowKit
set_option maxRecDepth 100000
set_option linter.unusedSimpArgs false
set_option linter.unusedVariables false

def L17 : FnL := ⟨(.seq (.ops [oa 3 (.mv (oi 0))])
 (.seq (.draw [oe 8 (.load true 3 (ot 1)),oe 10 (.load true 3 (ot 1)),oe 14 (.mv (oi 0)), ⟨oa 9 (.call (.func 30) [(ot 8)]), [oa 10 (.load true 3 (ot 1))]⟩,oe 11 (.call (.func 67) [(ot 10)]),oe 12 (.buildS [(.int .i64 0), (.int .i64 0), (.int .i64 0), (.int .i64 0), (.int .i64 0)] 5 [(0, 1, (oi 1)), (1, 1, (oi 3)), (2, 1, (oi 2)), (3, 1, (ot 9)), (4, 1, (ot 11))]),oe 13 (.len false (ot 12))])
 (.block 0 (.loop (.seq (.ops [oa 15 (.bin .lss (ot 14) (ot 13))])
 (.seq (.cond (ot 15) .skip
 (.exit 0))
 (.seq (.block 1 (.seq (.ops [om 16 14,oa 17 (.iaddrS 1 (ot 12) (ot 14)),ol 18 17,om 4 16,om 5 18])
 (.seq (.ops [og 19 1 1,ol 20 19,om 6 20])
 (.seq (.seq (.ops [om 21 4,oa 22 (.bin .eql (ot 21) (oi 0)),om 23 22,ob 24 (.mv (ot 4)) 23 false,ob 25 (.bin .eql (ot 24) (oi 4)) 23 false,oa 26 (.pick (ot 23) (.const (.bool true)) (ot 25))])
 (.cond (ot 26) (.ops [oa 6 (.mv (oi 1))])
 .skip))
 (.seq (.ops [om 27 6,oa 28 (.mv (oi 0))])
 (.block 2 (.loop (.seq (.ops [oa 29 (.bin .lss (ot 28) (ot 27))])
 (.seq (.cond (ot 29) .skip
 (.exit 2))
 (.seq (.block 3 (.seq (.ops [om 30 28,om 7 30])
 (.seq (.seq (.ops [om 31 0,om 32 4,om 33 7,om 34 3,om 35 3,om 36 5,oa 37 (.bin .add (ot 35) (ot 36)),oa 38 (.build [(.int .i64 0), (.int .i64 0), (.int .i64 0), (.int .i64 0)] [(0, 1, (ot 32)), (1, 1, (ot 33)), (2, 1, (ot 34)), (3, 1, (ot 37))]),oa 39 (.call (ot 31) [(ot 38)]),oa 40 (.un .not (ot 39))])
 (.cond (ot 40) .ret
 .skip))
 (.ops [om 41 3,om 42 5,oa 43 (.bin .add (ot 41) (ot 42)),om 3 43]))))
 (.ops [oa 44 (.bin .add (ot 28) (oi 1)),om 28 44])))))))))))
 (.ops [oa 45 (.bin .add (ot 14) (oi 1)),om 14 45])))))))),
 46,[]⟩
theorem low17 : lowerFn Tryd.prog Tryd.f68 = some L17 := by kernel_rfl
noncomputable def G17 (B : OH) : Nat → Cs
  | 30 => V11 B
  | 67 => V12 B
  | _ => fun _ _ _ => none
theorem G17_11 {B : OH} : G17 B 30 = V11 B := rfl
theorem G17_12 {B : OH} : G17 B 67 = V12 B := rfl
theorem en17 : Enter Tryd.prog 68 := .of Tryd.func68 (by kernel_rfl) (by kernel_rfl)
noncomputable abbrev E17 (B : OH) (Y : Nat → Cs) : Env := { f := G17 B, y := Y }
noncomputable def I17 (B : OH) (Y : Nat → Cs) : Cs := callF B (E17 B Y) 200 L17
theorem sI17 {w0 : World} {B : OH} (Y : Nat → Cs) (hY : SoundY Tryd.prog w0 B Y) : SoundC Tryd.prog w0 B 68 (I17 B Y) :=
  callF_sound mixedOrders ⟨fun k => by
    show (∀ args H N, G17 B k args H N = none) ∨ _
    unfold G17
    split
    · exact .inr ⟨en11, sV11⟩
    · exact .inr ⟨en12, sV12⟩
    · exact .inl fun _ _ _ => rfl, hY, fun _ => .inl fun _ _ _ _ => rfl⟩ 200 Tryd.func68 low17
def pt (p h k o : Nat) : Value := .agg #[.int .i64 (k : Int), .int .i64 (o : Int), .int .i64 (fr p h k o : Int), .int .i64 ((fr p h k o : Int) + (sz p h k : Int))]
structure YC (B : OH) (Y : Cs) (p h : Nat) (Own : Nat → Prop) (J : Nat → Nat → HL → Prop) (Jx : HL → Prop) : Prop where
  known : ∀ {k o H b}, J k o H → Own b → ∃ x, lk H b = some x
  stay : ∀ {k o H H'}, J k o H → (∀ b, Own b → lk H' b = lk H b) → J k o H'
  next : ∀ {k H}, J k (mn p k) H → J (k + 1) 0 H
  call : ∀ {k o H N}, k < 5 → o < mn p k → J k o H → good B H N → ∃ b H' N', Y [pt p h k o] H N = some (.ret (.bool b), H', N') ∧ good B H' N' ∧ (∀ x, ¬ Own x → ∀ c, lk H x = some c → lk H' x = some c) ∧ (b = true → J k (o + 1) H') ∧ (b = false → Jx H')
theorem ok_some {x : X} {s : Go.Proofs.YtfhiplfagejfoaaDoor.K.S} {R : X → Go.Proofs.YtfhiplfagejfoaaDoor.K.S → Prop} (h : R x s) : Ok (some (x, s)) R := ⟨x, s, rfl, h⟩
def IN17 : LC := (.loop (.seq (.ops [⟨(some 29), .bin .lss (.tmp 28) (.tmp 27), none⟩])
 (.seq (.cond (.tmp 29) .skip
 (.exit 2))
 (.seq (.block 3 (.seq (.ops [⟨(some 30), .mv (.tmp 28), none⟩, ⟨(some 7), .mv (.tmp 30), none⟩])
 (.seq (.seq (.ops [⟨(some 31), .mv (.tmp 0), none⟩, ⟨(some 32), .mv (.tmp 4), none⟩, ⟨(some 33), .mv (.tmp 7), none⟩, ⟨(some 34), .mv (.tmp 3), none⟩, ⟨(some 35), .mv (.tmp 3), none⟩, ⟨(some 36), .mv (.tmp 5), none⟩, ⟨(some 37), .bin .add (.tmp 35) (.tmp 36), none⟩, ⟨(some 38), .build [(.int .i64 0), (.int .i64 0), (.int .i64 0), (.int .i64 0)] [(0, 1, (.tmp 32)), (1, 1, (.tmp 33)), (2, 1, (.tmp 34)), (3, 1, (.tmp 37))], none⟩, ⟨(some 39), .call (.tmp 31) [(.tmp 38)], none⟩, ⟨(some 40), .un .not (.tmp 39), none⟩])
 (.cond (.tmp 40) .ret
 .skip))
 (.ops [⟨(some 41), .mv (.tmp 3), none⟩, ⟨(some 42), .mv (.tmp 5), none⟩, ⟨(some 43), .bin .add (.tmp 41) (.tmp 42), none⟩, ⟨(some 3), .mv (.tmp 43), none⟩]))))
 (.ops [⟨(some 44), .bin .add (.tmp 28) (.const (.int .i64 1)), none⟩, ⟨(some 28), .mv (.tmp 44), none⟩])))))
def OUT17 : LC := (.loop (.seq (.ops [⟨(some 15), .bin .lss (.tmp 14) (.tmp 13), none⟩])
 (.seq (.cond (.tmp 15) .skip
 (.exit 0))
 (.seq (.block 1 (.seq (.ops [⟨(some 16), .mv (.tmp 14), none⟩, ⟨(some 17), .iaddrS 1 (.tmp 12) (.tmp 14), none⟩, ⟨(some 18), .load false 1 (.tmp 17), none⟩, ⟨(some 4), .mv (.tmp 16), none⟩, ⟨(some 5), .mv (.tmp 18), none⟩])
 (.seq (.ops [⟨(some 19), .faddr 1 (.tmp 1), none⟩, ⟨(some 20), .load false 1 (.tmp 19), none⟩, ⟨(some 6), .mv (.tmp 20), none⟩])
 (.seq (.seq (.ops [⟨(some 21), .mv (.tmp 4), none⟩, ⟨(some 22), .bin .eql (.tmp 21) (.const (.int .i64 0)), none⟩, ⟨(some 23), .mv (.tmp 22), none⟩, ⟨(some 24), .mv (.tmp 4), (some (23, false))⟩, ⟨(some 25), .bin .eql (.tmp 24) (.const (.int .i64 4)), (some (23, false))⟩, ⟨(some 26), .pick (.tmp 23) (.const (.bool true)) (.tmp 25), none⟩])
 (.cond (.tmp 26) (.ops [⟨(some 6), .mv (.const (.int .i64 1)), none⟩])
 .skip))
 (.seq (.ops [⟨(some 27), .mv (.tmp 6), none⟩, ⟨(some 28), .mv (.const (.int .i64 0)), none⟩])
 (.block 2 (.loop (.seq (.ops [⟨(some 29), .bin .lss (.tmp 28) (.tmp 27), none⟩])
 (.seq (.cond (.tmp 29) .skip
 (.exit 2))
 (.seq (.block 3 (.seq (.ops [⟨(some 30), .mv (.tmp 28), none⟩, ⟨(some 7), .mv (.tmp 30), none⟩])
 (.seq (.seq (.ops [⟨(some 31), .mv (.tmp 0), none⟩, ⟨(some 32), .mv (.tmp 4), none⟩, ⟨(some 33), .mv (.tmp 7), none⟩, ⟨(some 34), .mv (.tmp 3), none⟩, ⟨(some 35), .mv (.tmp 3), none⟩, ⟨(some 36), .mv (.tmp 5), none⟩, ⟨(some 37), .bin .add (.tmp 35) (.tmp 36), none⟩, ⟨(some 38), .build [(.int .i64 0), (.int .i64 0), (.int .i64 0), (.int .i64 0)] [(0, 1, (.tmp 32)), (1, 1, (.tmp 33)), (2, 1, (.tmp 34)), (3, 1, (.tmp 37))], none⟩, ⟨(some 39), .call (.tmp 31) [(.tmp 38)], none⟩, ⟨(some 40), .un .not (.tmp 39), none⟩])
 (.cond (.tmp 40) .ret
 .skip))
 (.ops [⟨(some 41), .mv (.tmp 3), none⟩, ⟨(some 42), .mv (.tmp 5), none⟩, ⟨(some 43), .bin .add (.tmp 41) (.tmp 42), none⟩, ⟨(some 3), .mv (.tmp 43), none⟩]))))
 (.ops [⟨(some 44), .bin .add (.tmp 28) (.const (.int .i64 1)), none⟩, ⟨(some 28), .mv (.tmp 44), none⟩])))))))))))
 (.ops [⟨(some 45), .bin .add (.tmp 14) (.const (.int .i64 1)), none⟩, ⟨(some 14), .mv (.tmp 45), none⟩])))))
structure Ki (l bc q : Nat) (ts : List Value) : Prop where
  len : ts.length = 46
  t0 : gt ts 0 = .func (.yield l) #[] #[]
  t1 : gt ts 1 = .pointer (some ⟨bc, 0, none⟩)
  t12 : gt ts 12 = .slice (some ⟨q, 0, none⟩) 5 5
  t13 : gt ts 13 = .int .i64 5
def szs (p h : Nat) : List Value := [.int .i64 1, .int .i64 3, .int .i64 2, .int .i64 (1 + 2 * ((h : Int) + 2 * (p : Int))), .int .i64 (h : Int)]
structure Kh (B : OH) (kk p cc h : Nat) (bc q : Nat) (H : HL) (N : St) : Prop where
  g : good B H N
  c : lk H bc = some (.cells [.int .i64 (kk : Int), .int .i64 (p : Int), .int .i64 (cc : Int)] 3)
  s : lk H q = some (.cells (szs p h) 5)
  bc : B bc = none
  bq : B q = none
theorem rdB_none {B : OH} {b o n : Nat} (h : B b = none) : rdB B b o n = none := by simp [rdB, h]
theorem fr_bnd {p h k o : Nat} (hp : 1 ≤ p ∧ p ≤ 16) (hh : 1 ≤ h ∧ h ≤ 1026) (hk : k < 5) (ho : o < mn p k) : fr p h k o + sz p h k ≤ 200000 := by
  have h1 := fr_lt (p := p) (h := h) ho (show Lt k o (k + 1) 0 from .inl (by omega))
  have h2 : bs p h (k + 1) ≤ bs p h 5 := bs_mono (by omega)
  have h3 := bs_le (p := p) (h := h) (by omega) hp.2 hh.2 5
  rw [fr_zero] at h1
  omega
def IR (B : OH) (Own : Nat → Prop) (J : Nat → Nat → HL → Prop) (Jx : HL → Prop) (p h k l bc q : Nat) (H : HL) (x : X) (s : Go.Proofs.YtfhiplfagejfoaaDoor.K.S) : Prop :=
  ∃ ts' H' N', s = ⟨ts', H', N'⟩ ∧ good B H' N' ∧ (∀ x, ¬ Own x → ∀ c, lk H x = some c → lk H' x = some c) ∧ ((x = .exit 2 ∧ J k (mn p k) H' ∧ Ki l bc q ts' ∧ gt ts' 3 = .int .i64 (fr p h k (mn p k) : Int) ∧ gt ts' 14 = .int .i64 (k : Int)) ∨ (x = .ret ∧ Jx H'))
theorem J4 : Said (an @L17.eq_1 <| an @G17_11 <| an @G17_12 <| an @V11_eq <| an @V12_eq <| trivial) := said_ok _
theorem in17 {B : OH} {Y : Nat → Cs} {l p h kk cc bc q : Nat} {Own : Nat → Prop} {J : Nat → Nat → HL → Prop} {Jx : HL → Prop} (hY : YC B (Y l) p h Own J Jx) (hp : 1 ≤ p ∧ p ≤ 16) (hh : 1 ≤ h ∧ h ≤ 1026) (hbc : ¬ Own bc) (hq : ¬ Own q)
    {k : Nat} (hk : k < 5) {H : HL} {N : St} {ts : List Value} (kh : Kh B kk p cc h bc q H N) (kp : Ki l bc q ts) (t3 : gt ts 3 = .int .i64 (fr p h k 0 : Int)) (t4 : gt ts 4 = .int .i64 (k : Int)) (t5 : gt ts 5 = .int .i64 (sz p h k : Int)) (t14 : gt ts 14 = .int .i64 (k : Int)) (t27 : gt ts 27 = .int .i64 (mn p k : Int)) (t28 : gt ts 28 = .int .i64 0) (hJ : J k 0 H) :
    ∀ F, 80 ≤ F → Ok (exec B (E17 B Y) F IN17 ⟨ts, H, N⟩) (IR B Own J Jx p h k l bc q H) := by
  intro F hF
  have hmn := mn_le (p := p) (k := k) (by omega)
  unfold IN17
  refine loop_rule (n0 := 50) (fun m s => ∃ ts' H' N', ∃ o : Nat, s = ⟨ts', H', N'⟩ ∧ good B H' N' ∧ (∀ x, ¬ Own x → ∀ c, lk H x = some c → lk H' x = some c) ∧ J k o H' ∧ Ki l bc q ts' ∧ gt ts' 3 = .int .i64 (fr p h k o : Int) ∧ gt ts' 4 = .int .i64 (k : Int) ∧ gt ts' 5 = .int .i64 (sz p h k : Int) ∧ gt ts' 14 = .int .i64 (k : Int) ∧ gt ts' 27 = .int .i64 (mn p k : Int) ∧ gt ts' 28 = .int .i64 (o : Int) ∧ o ≤ mn p k ∧ m = mn p k - o) _ ?_ (mn p k) _ ⟨ts, H, N, 0, rfl, kh.g, fun _ _ _ h => h, hJ, kp, t3, t4, t5, t14, t27, t28, by omega, rfl⟩ _ (by omega)
  clear t3 t4 t5 t14 t27 t28 kp hJ ts hF F
  rintro n m s ⟨ts, H1, N1, o, rfl, hN, hfr, hJ, kp, t3, t4, t5, t14, t27, t28, ho, rfl⟩
  obtain ⟨hB, hR, hI⟩ := gX hN
  have hc : ((o + 1 : Nat) : Int) = (o : Int) + 1 := by omega
  by_cases h' : o < mn p k
  · have h2 : (o : Int) < (mn p k : Int) := by omega
    have hb := fr_bnd hp hh hk h'
    have hs : (fr p h k (o + 1) : Int) = (fr p h k o : Int) + (sz p h k : Int) := by rw [fr_succ]; omega
    obtain ⟨b, H2, N2, e, g2, f2, j2, x2⟩ := hY.call hk h' hJ hN
    unfold pt at e
    cases b with
    | true =>
      simp (disch := omega) only [J4, hB, hR, hI, kp.len, kp.t0, kp.t1, kp.t12, kp.t13, t3, t4, t5, t14, t27, t28, h2, e, all1, lenV, ress, res1, retV, Value.cells, newsV_s, seval, eV]
      refine ok_some (.inl ⟨rfl, mn p k - (o + 1), by omega, _, H2, N2, o + 1, rfl, g2, fun x hx c h => f2 x hx c (hfr x hx c h), j2 rfl, ⟨?_, ?_, ?_, ?_, ?_⟩, ?_, ?_, ?_, ?_, ?_, ?_, by omega, rfl⟩)
      all_goals simp (disch := omega) only [J4, hB, hR, hI, kp.len, kp.t0, kp.t1, kp.t12, kp.t13, t3, t4, t5, t14, t27, t28, hc, hs, all1, lenV, ress, res1, retV, Value.cells, newsV_s, seval, eV]
    | false =>
      simp (disch := omega) only [J4, hB, hR, hI, kp.len, kp.t0, kp.t1, kp.t12, kp.t13, t3, t4, t5, t14, t27, t28, h2, e, all1, lenV, ress, res1, retV, Value.cells, newsV_s, seval, eV]
      exact ok_some (.inr ⟨by simp, _, H2, N2, rfl, g2, fun x hx c h => f2 x hx c (hfr x hx c h), .inr ⟨rfl, x2 rfl⟩⟩)
  · obtain rfl : o = mn p k := by omega
    have h2 : ¬ (mn p k : Int) < (mn p k : Int) := by omega
    simp (disch := omega) only [J4, hB, hR, hI, kp.len, kp.t0, kp.t1, kp.t12, kp.t13, t3, t4, t5, t14, t27, t28, h2, all1, lenV, ress, res1, retV, Value.cells, newsV_s, seval, eV]
    refine ok_some (.inr ⟨by simp, _, H1, N1, rfl, hN, hfr, .inl ⟨rfl, hJ, ⟨?_, ?_, ?_, ?_, ?_⟩, ?_, ?_⟩⟩)
    all_goals simp (disch := omega) only [J4, hB, hR, hI, kp.len, kp.t0, kp.t1, kp.t12, kp.t13, t3, t4, t5, t14, t27, t28, all1, lenV, ress, res1, retV, Value.cells, newsV_s, seval, eV]
end Go.Proofs.YtfhiplfagejfoaaDoor
namespace Go.Proofs.YtfhiplfagejfoaaDoor
open Go.Proofs.YtfhiplfagejfoaaDoor.K Go.ChangeShapes Go.WideShapes Go.ChangeAt Go.RowKit
set_option maxRecDepth 100000
set_option linter.unusedSimpArgs false
set_option linter.unusedVariables false

theorem out17 {B : OH} {Y : Nat → Cs} {l p h kk cc bc q : Nat} {Own : Nat → Prop} {J : Nat → Nat → HL → Prop} {Jx : HL → Prop} (hY : YC B (Y l) p h Own J Jx) (hp : 1 ≤ p ∧ p ≤ 16) (hh : 1 ≤ h ∧ h ≤ 1026) (hbc : ¬ Own bc) (hq : ¬ Own q)
    {H : HL} {N : St} {ts : List Value} (kh : Kh B kk p cc h bc q H N) (kp : Ki l bc q ts) (t3 : gt ts 3 = .int .i64 0) (t14 : gt ts 14 = .int .i64 0) (hJ : J 0 0 H) :
    ∀ F, 120 ≤ F → Ok (exec B (E17 B Y) F OUT17 ⟨ts, H, N⟩) (fun x s => ∃ ts' H' N', s = ⟨ts', H', N'⟩ ∧ good B H' N' ∧ (∀ x, ¬ Own x → ∀ c, lk H x = some c → lk H' x = some c) ∧ ((x = .exit 0 ∧ J 5 0 H') ∨ (x = .ret ∧ Jx H'))) := by
  intro F hF
  unfold OUT17
  refine loop_rule (n0 := 110) (fun m s => ∃ ts' H' N', ∃ k : Nat, s = ⟨ts', H', N'⟩ ∧ good B H' N' ∧ (∀ x, ¬ Own x → ∀ c, lk H x = some c → lk H' x = some c) ∧ J k 0 H' ∧ Ki l bc q ts' ∧ gt ts' 3 = .int .i64 (fr p h k 0 : Int) ∧ gt ts' 14 = .int .i64 (k : Int) ∧ k ≤ 5 ∧ m = 5 - k) _ ?_ 5 _ ⟨ts, H, N, 0, rfl, kh.g, fun _ _ _ h => h, hJ, kp, t3, t14, by omega, rfl⟩ _ (by omega)
  clear t3 t14 kp hJ ts hF F
  rintro n m s ⟨ts, H1, N1, k, rfl, hN, hfr, hJ, kp, t3, t14, hk, rfl⟩
  obtain ⟨hB, hR, hI⟩ := gX hN
  have kc := hfr bc hbc _ kh.c
  have ks := hfr q hq _ kh.s
  unfold szs at ks
  have bn := kh.bc
  have qn := kh.bq
  have rc := rN kh.bc
  have rq := rN kh.bq
  have n01 : ((0 : Nat) : Int) = 0 := rfl
  have n1 : ((1 : Nat) : Int) = 1 := rfl
  have n2 : ((2 : Nat) : Int) = 2 := rfl
  have n3 : ((3 : Nat) : Int) = 3 := rfl
  have n4 : ((4 : Nat) : Int) = 4 := rfl
  have nL : ((1 + 2 * (h + 2 * p) : Nat) : Int) = 1 + 2 * ((h : Int) + 2 * (p : Int)) := by omega
  by_cases h5 : k < 5
  · have hc : ((k + 1 : Nat) : Int) = (k : Int) + 1 := by omega
    obtain rfl | rfl | rfl | rfl | rfl : k = 0 ∨ k = 1 ∨ k = 2 ∨ k = 3 ∨ k = 4 := by omega
    · have t14k : gt ts 14 = .int .i64 0 := t14
      simp (disch := omega) only [J4, hB, hR, hI, kp.len, kp.t0, kp.t1, kp.t12, kp.t13, t3, t14k, kc, ks, rc, rq, bn, qn, all1, lenV, ress, res1, retV, Value.cells, newsV_s, seval, eV]
      generalize hX : exec B (E17 B Y) _ (LC.loop _) _ = o
      have hO : Ok o (IR B Own J Jx p h 0 l bc q H1) := by
        rw [← hX]
        refine in17 hY hp hh hbc hq (by omega) (kk := kk) (cc := cc) ⟨hN, kc, ks, kh.bc, kh.bq⟩ ⟨?_, ?_, ?_, ?_, ?_⟩ ?_ ?_ ?_ ?_ ?_ ?_ hJ _ (by omega)
        all_goals simp (disch := omega) only [J4, hB, hR, hI, kp.len, kp.t0, kp.t1, kp.t12, kp.t13, t3, t14k, mn, sz, n01, n1, n2, n3, n4, nL, all1, lenV, ress, res1, retV, Value.cells, newsV_s, seval, eV]
        try rfl
      obtain ⟨x, s', rfl, ts', H2, N2, rfl, g2, f2, ⟨rfl, j2, kp, t3, t14⟩ | ⟨rfl, x2⟩⟩ := hO
      · have t14k : gt ts' 14 = .int .i64 0 := t14
        simp (disch := omega) only [J4, hB, hR, hI, kp.len, kp.t0, kp.t1, kp.t12, kp.t13, t3, t14k, all1, lenV, ress, res1, retV, Value.cells, newsV_s, seval, eV]
        refine ok_some (.inl ⟨rfl, 5 - (0 + 1), by omega, _, H2, N2, 0 + 1, rfl, g2, fun x hx c h => f2 x hx c (hfr x hx c h), hY.next j2, ⟨?_, ?_, ?_, ?_, ?_⟩, ?_, ?_, by omega, rfl⟩)
        all_goals simp (disch := omega) only [J4, hB, hR, hI, kp.len, kp.t0, kp.t1, kp.t12, kp.t13, t3, t14k, hc, fr_next, n01, n1, n2, n3, n4, all1, lenV, ress, res1, retV, Value.cells, newsV_s, seval, eV]
        try rfl
      · simp (disch := omega) only [J4, hB, hR, hI, all1, lenV, ress, res1, retV, Value.cells, newsV_s, seval, eV]
        exact ok_some (.inr ⟨by simp, _, H2, N2, rfl, g2, fun x hx c h => f2 x hx c (hfr x hx c h), .inr ⟨rfl, x2⟩⟩)
    · have t14k : gt ts 14 = .int .i64 1 := t14
      simp (disch := omega) only [J4, hB, hR, hI, kp.len, kp.t0, kp.t1, kp.t12, kp.t13, t3, t14k, kc, ks, rc, rq, bn, qn, all1, lenV, ress, res1, retV, Value.cells, newsV_s, seval, eV]
      generalize hX : exec B (E17 B Y) _ (LC.loop _) _ = o
      have hO : Ok o (IR B Own J Jx p h 1 l bc q H1) := by
        rw [← hX]
        refine in17 hY hp hh hbc hq (by omega) (kk := kk) (cc := cc) ⟨hN, kc, ks, kh.bc, kh.bq⟩ ⟨?_, ?_, ?_, ?_, ?_⟩ ?_ ?_ ?_ ?_ ?_ ?_ hJ _ (by omega)
        all_goals simp (disch := omega) only [J4, hB, hR, hI, kp.len, kp.t0, kp.t1, kp.t12, kp.t13, t3, t14k, mn, sz, n01, n1, n2, n3, n4, nL, all1, lenV, ress, res1, retV, Value.cells, newsV_s, seval, eV]
        try rfl
      obtain ⟨x, s', rfl, ts', H2, N2, rfl, g2, f2, ⟨rfl, j2, kp, t3, t14⟩ | ⟨rfl, x2⟩⟩ := hO
      · have t14k : gt ts' 14 = .int .i64 1 := t14
        simp (disch := omega) only [J4, hB, hR, hI, kp.len, kp.t0, kp.t1, kp.t12, kp.t13, t3, t14k, all1, lenV, ress, res1, retV, Value.cells, newsV_s, seval, eV]
        refine ok_some (.inl ⟨rfl, 5 - (1 + 1), by omega, _, H2, N2, 1 + 1, rfl, g2, fun x hx c h => f2 x hx c (hfr x hx c h), hY.next j2, ⟨?_, ?_, ?_, ?_, ?_⟩, ?_, ?_, by omega, rfl⟩)
        all_goals simp (disch := omega) only [J4, hB, hR, hI, kp.len, kp.t0, kp.t1, kp.t12, kp.t13, t3, t14k, hc, fr_next, n01, n1, n2, n3, n4, all1, lenV, ress, res1, retV, Value.cells, newsV_s, seval, eV]
        try rfl
      · simp (disch := omega) only [J4, hB, hR, hI, all1, lenV, ress, res1, retV, Value.cells, newsV_s, seval, eV]
        exact ok_some (.inr ⟨by simp, _, H2, N2, rfl, g2, fun x hx c h => f2 x hx c (hfr x hx c h), .inr ⟨rfl, x2⟩⟩)
    · have t14k : gt ts 14 = .int .i64 2 := t14
      simp (disch := omega) only [J4, hB, hR, hI, kp.len, kp.t0, kp.t1, kp.t12, kp.t13, t3, t14k, kc, ks, rc, rq, bn, qn, all1, lenV, ress, res1, retV, Value.cells, newsV_s, seval, eV]
      generalize hX : exec B (E17 B Y) _ (LC.loop _) _ = o
      have hO : Ok o (IR B Own J Jx p h 2 l bc q H1) := by
        rw [← hX]
        refine in17 hY hp hh hbc hq (by omega) (kk := kk) (cc := cc) ⟨hN, kc, ks, kh.bc, kh.bq⟩ ⟨?_, ?_, ?_, ?_, ?_⟩ ?_ ?_ ?_ ?_ ?_ ?_ hJ _ (by omega)
        all_goals simp (disch := omega) only [J4, hB, hR, hI, kp.len, kp.t0, kp.t1, kp.t12, kp.t13, t3, t14k, mn, sz, n01, n1, n2, n3, n4, nL, all1, lenV, ress, res1, retV, Value.cells, newsV_s, seval, eV]
        try rfl
      obtain ⟨x, s', rfl, ts', H2, N2, rfl, g2, f2, ⟨rfl, j2, kp, t3, t14⟩ | ⟨rfl, x2⟩⟩ := hO
      · have t14k : gt ts' 14 = .int .i64 2 := t14
        simp (disch := omega) only [J4, hB, hR, hI, kp.len, kp.t0, kp.t1, kp.t12, kp.t13, t3, t14k, all1, lenV, ress, res1, retV, Value.cells, newsV_s, seval, eV]
        refine ok_some (.inl ⟨rfl, 5 - (2 + 1), by omega, _, H2, N2, 2 + 1, rfl, g2, fun x hx c h => f2 x hx c (hfr x hx c h), hY.next j2, ⟨?_, ?_, ?_, ?_, ?_⟩, ?_, ?_, by omega, rfl⟩)
        all_goals simp (disch := omega) only [J4, hB, hR, hI, kp.len, kp.t0, kp.t1, kp.t12, kp.t13, t3, t14k, hc, fr_next, n01, n1, n2, n3, n4, all1, lenV, ress, res1, retV, Value.cells, newsV_s, seval, eV]
        try rfl
      · simp (disch := omega) only [J4, hB, hR, hI, all1, lenV, ress, res1, retV, Value.cells, newsV_s, seval, eV]
        exact ok_some (.inr ⟨by simp, _, H2, N2, rfl, g2, fun x hx c h => f2 x hx c (hfr x hx c h), .inr ⟨rfl, x2⟩⟩)
    · have t14k : gt ts 14 = .int .i64 3 := t14
      simp (disch := omega) only [J4, hB, hR, hI, kp.len, kp.t0, kp.t1, kp.t12, kp.t13, t3, t14k, kc, ks, rc, rq, bn, qn, all1, lenV, ress, res1, retV, Value.cells, newsV_s, seval, eV]
      generalize hX : exec B (E17 B Y) _ (LC.loop _) _ = o
      have hO : Ok o (IR B Own J Jx p h 3 l bc q H1) := by
        rw [← hX]
        refine in17 hY hp hh hbc hq (by omega) (kk := kk) (cc := cc) ⟨hN, kc, ks, kh.bc, kh.bq⟩ ⟨?_, ?_, ?_, ?_, ?_⟩ ?_ ?_ ?_ ?_ ?_ ?_ hJ _ (by omega)
        all_goals simp (disch := omega) only [J4, hB, hR, hI, kp.len, kp.t0, kp.t1, kp.t12, kp.t13, t3, t14k, mn, sz, n01, n1, n2, n3, n4, nL, all1, lenV, ress, res1, retV, Value.cells, newsV_s, seval, eV]
        try rfl
      obtain ⟨x, s', rfl, ts', H2, N2, rfl, g2, f2, ⟨rfl, j2, kp, t3, t14⟩ | ⟨rfl, x2⟩⟩ := hO
      · have t14k : gt ts' 14 = .int .i64 3 := t14
        simp (disch := omega) only [J4, hB, hR, hI, kp.len, kp.t0, kp.t1, kp.t12, kp.t13, t3, t14k, all1, lenV, ress, res1, retV, Value.cells, newsV_s, seval, eV]
        refine ok_some (.inl ⟨rfl, 5 - (3 + 1), by omega, _, H2, N2, 3 + 1, rfl, g2, fun x hx c h => f2 x hx c (hfr x hx c h), hY.next j2, ⟨?_, ?_, ?_, ?_, ?_⟩, ?_, ?_, by omega, rfl⟩)
        all_goals simp (disch := omega) only [J4, hB, hR, hI, kp.len, kp.t0, kp.t1, kp.t12, kp.t13, t3, t14k, hc, fr_next, n01, n1, n2, n3, n4, all1, lenV, ress, res1, retV, Value.cells, newsV_s, seval, eV]
        try rfl
      · simp (disch := omega) only [J4, hB, hR, hI, all1, lenV, ress, res1, retV, Value.cells, newsV_s, seval, eV]
        exact ok_some (.inr ⟨by simp, _, H2, N2, rfl, g2, fun x hx c h => f2 x hx c (hfr x hx c h), .inr ⟨rfl, x2⟩⟩)
    · have t14k : gt ts 14 = .int .i64 4 := t14
      simp (disch := omega) only [J4, hB, hR, hI, kp.len, kp.t0, kp.t1, kp.t12, kp.t13, t3, t14k, kc, ks, rc, rq, bn, qn, all1, lenV, ress, res1, retV, Value.cells, newsV_s, seval, eV]
      generalize hX : exec B (E17 B Y) _ (LC.loop _) _ = o
      have hO : Ok o (IR B Own J Jx p h 4 l bc q H1) := by
        rw [← hX]
        refine in17 hY hp hh hbc hq (by omega) (kk := kk) (cc := cc) ⟨hN, kc, ks, kh.bc, kh.bq⟩ ⟨?_, ?_, ?_, ?_, ?_⟩ ?_ ?_ ?_ ?_ ?_ ?_ hJ _ (by omega)
        all_goals simp (disch := omega) only [J4, hB, hR, hI, kp.len, kp.t0, kp.t1, kp.t12, kp.t13, t3, t14k, mn, sz, n01, n1, n2, n3, n4, nL, all1, lenV, ress, res1, retV, Value.cells, newsV_s, seval, eV]
        try rfl
      obtain ⟨x, s', rfl, ts', H2, N2, rfl, g2, f2, ⟨rfl, j2, kp, t3, t14⟩ | ⟨rfl, x2⟩⟩ := hO
      · have t14k : gt ts' 14 = .int .i64 4 := t14
        simp (disch := omega) only [J4, hB, hR, hI, kp.len, kp.t0, kp.t1, kp.t12, kp.t13, t3, t14k, all1, lenV, ress, res1, retV, Value.cells, newsV_s, seval, eV]
        refine ok_some (.inl ⟨rfl, 5 - (4 + 1), by omega, _, H2, N2, 4 + 1, rfl, g2, fun x hx c h => f2 x hx c (hfr x hx c h), hY.next j2, ⟨?_, ?_, ?_, ?_, ?_⟩, ?_, ?_, by omega, rfl⟩)
        all_goals simp (disch := omega) only [J4, hB, hR, hI, kp.len, kp.t0, kp.t1, kp.t12, kp.t13, t3, t14k, hc, fr_next, n01, n1, n2, n3, n4, all1, lenV, ress, res1, retV, Value.cells, newsV_s, seval, eV]
        try rfl
      · simp (disch := omega) only [J4, hB, hR, hI, all1, lenV, ress, res1, retV, Value.cells, newsV_s, seval, eV]
        exact ok_some (.inr ⟨by simp, _, H2, N2, rfl, g2, fun x hx c h => f2 x hx c (hfr x hx c h), .inr ⟨rfl, x2⟩⟩)
  · obtain rfl : k = 5 := by omega
    have t14k : gt ts 14 = .int .i64 5 := t14
    simp (disch := omega) only [J4, hB, hR, hI, kp.len, kp.t0, kp.t1, kp.t12, kp.t13, t3, t14k, all1, lenV, ress, res1, retV, Value.cells, newsV_s, seval, eV]
    refine ok_some (.inr ⟨by simp, _, H1, N1, rfl, hN, hfr, .inl ⟨rfl, hJ⟩⟩)
end Go.Proofs.YtfhiplfagejfoaaDoor
namespace Go.Proofs.YtfhiplfagejfoaaDoor
open Go.Proofs.YtfhiplfagejfoaaDoor.K Go.ChangeShapes Go.WideShapes Go.ChangeAt Go.RowKit
set_option maxRecDepth 100000
set_option linter.unusedSimpArgs false
set_option linter.unusedVariables false

theorem it17 {B : OH} (hT : Tab B) {Y : Nat → Cs} {l p h kk cc bc : Nat} {Own : Nat → Prop} {J : Nat → Nat → HL → Prop} {Jx : HL → Prop} (hY : YC B (Y l) p h Own J Jx) (hk : 1 ≤ kk ∧ kk ≤ 5) (hp : 1 ≤ p ∧ p ≤ 16) (hc : 1 ≤ cc ∧ cc ≤ 256) (hm' : hm kk cc = (h : Int)) (hbc : ¬ Own bc)
    {H : HL} {N : St} (hN : good B H N) (kc : lk H bc = some (.cells [.int .i64 (kk : Int), .int .i64 (p : Int), .int .i64 (cc : Int)] 3)) (bn : B bc = none) (hJ : J 0 0 H) :
    ∃ v H' N', I17 B Y [.func (.yield l) #[] #[], .pointer (some ⟨bc, 0, none⟩)] H N = some (.ret v, H', N') ∧ good B H' N' ∧ (∀ x, ¬ Own x → ∀ c, lk H x = some c → lk H' x = some c) ∧ (J 5 0 H' ∨ Jx H') := by
  have hG : ∃ H N, good B H N := ⟨H, N, hN⟩
  obtain ⟨hB, hR, hI⟩ := gX hN
  have hb := hm_bounds (k := kk) (c := cc) (by omega) (by omega)
  have e11 := f11 hG hT kk p cc (by omega) (by omega) (by omega)
  have e12 := f12 hG hT kk p cc (by omega) (by omega) (by omega)
  rw [hm'] at e11 e12 hb
  have rc := rN bn
  have nb := fun i => ne_good hN bn kc i
  have nb' := fun i => ne_good' hN bn kc i
  have hq : ¬ Own (N 0) := fun h0 => by
    obtain ⟨x, hx⟩ := hY.known hJ h0
    have := hN.2 0
    simp [den, hB, hx] at this
  simp (disch := omega) only [J4, I17, hB, hR, hI, kc, rc, bn, nb, nb', e11, e12, all1, lenV, ress, res1, retV, Value.cells, newsV_s, seval, eV]
  generalize hX : exec B (E17 B Y) _ (LC.loop _) _ = o
  have hO : Ok o (fun x s => ∃ ts' H' N', s = ⟨ts', H', N'⟩ ∧ good B H' N' ∧ (∀ x, ¬ Own x → ∀ c, lk ((N.n 0, KB.cells (szs p h) 5) :: H) x = some c → lk H' x = some c) ∧ ((x = .exit 0 ∧ J 5 0 H') ∨ (x = .ret ∧ Jx H'))) := by
    rw [← hX]
    refine out17 (kk := kk) (cc := cc) hY hp (by omega) hbc hq ⟨good_new hN, ?_, ?_, bn, hB 0⟩ ⟨?_, ?_, ?_, ?_, ?_⟩ ?_ ?_ ?_ _ (by omega)
    · simp (disch := omega) only [J4, I17, hB, hR, hI, kc, nb, nb', all1, lenV, ress, res1, retV, Value.cells, newsV_s, seval, eV]
    · simp (disch := omega) only [J4, I17, hB, hR, hI, szs, all1, lenV, ress, res1, retV, Value.cells, newsV_s, seval, eV]
    iterate 7 rfl
    refine hY.stay hJ fun b h0 => ?_
    have : (b == N 0) = false := by
      cases e : b == N 0 with
      | false => rfl
      | true => exact absurd h0 (by rw [show b = N 0 by simpa using e]; exact hq)
    simp (disch := omega) only [J4, I17, hB, hR, hI, this, all1, lenV, ress, res1, retV, Value.cells, newsV_s, seval, eV]
  obtain ⟨x, s', rfl, ts', H2, N2, rfl, g2, f2, h2⟩ := hO
  have fr2 : ∀ x, ¬ Own x → ∀ c, lk H x = some c → lk H2 x = some c := fun x hx c h => f2 x hx c (by
    have hd := hN.2 0
    have : (x == N 0) = false := by
      cases e : x == N 0 with
      | false => rfl
      | true => rw [show x = N 0 by simpa using e] at h; simp [den, hB, h] at hd
    simp (disch := omega) only [J4, I17, hB, hR, hI, this, h, all1, lenV, ress, res1, retV, Value.cells, newsV_s, seval, eV])
  rcases h2 with ⟨rfl, j2⟩ | ⟨rfl, x2⟩
  · simp (disch := omega) only [J4, I17, hB, hR, hI, all1, lenV, ress, res1, retV, Value.cells, newsV_s, seval, eV]
    exact ⟨_, _, _, rfl, g2, fr2, .inl j2⟩
  · simp (disch := omega) only [J4, I17, hB, hR, hI, all1, lenV, ress, res1, retV, Value.cells, newsV_s, seval, eV]
    exact ⟨_, _, _, rfl, g2, fr2, .inr x2⟩
end Go.Proofs.YtfhiplfagejfoaaDoor
namespace Go.Proofs.YtfhiplfagejfoaaDoor
open Go.Proofs.YtfhiplfagejfoaaDoor.K Go.ChangeShapes Go.WideShapes Go.ChangeAt Go.RowKit
set_option maxRecDepth 100000
set_option linter.unusedSimpArgs false
set_option linter.unusedVariables false

noncomputable def itR (B : OH) : Nat → (Nat → Cs) → Cs
  | 68 => I17 B
  | _ => fun _ _ _ _ => none
theorem itR_17 {B : OH} : itR B 68 = I17 B := rfl
theorem sItR {w0 : World} {B : OH} : ∀ k, (∀ Y args H N, itR B k Y args H N = none) ∨ (Enter Tryd.prog k ∧ ∀ Y, SoundY Tryd.prog w0 B Y → SoundC Tryd.prog w0 B k (itR B k Y)) := fun k => by
  unfold itR
  split
  · exact .inr ⟨en17, sI17⟩
  · exact .inl fun _ _ _ _ => rfl
theorem good_set {B : OH} {H : HL} {N : St} {b : Nat} {k k' : KB} (hN : good B H N) (hB : B b = none) (hl : lk H b = some k') : good B ((b, k) :: H) N := by
  have hd : ∀ r, den H B r = none → den ((b, k) :: H) B r = none := fun r hr => by
    unfold den
    cases hr' : B r with
    | some x => simp [den, hr'] at hr
    | none =>
      have h1 : lk H r = none := by simpa [den, hr'] using hr
      have h2 : (r == b) = false := by
        cases e : r == b with
        | false => rfl
        | true => rw [show r = b by simpa using e, hl] at h1; cases h1
      simp [lk, h2, h1]
  obtain ⟨⟨h1, f, f1, f2, f3⟩, h2⟩ := hN
  exact ⟨⟨h1, f, f1, fun i => hd _ (f2 i), f3⟩, fun i => hd _ (h2 i)⟩
theorem ext_lk {B : OH} {H H1 : HL} (h : ∀ r x, B r = none → lk H r = some x → lk H1 r = some x) : ∀ r x, den H B r = some x → den H1 B r = some x := fun r x hx => by
  unfold den at *
  cases hr : B r with
  | some y => simpa [hr] using hx
  | none => simp only [hr] at hx ⊢; exact h r x hr hx
theorem ne_of_lk {B : OH} {H : HL} {N : St} {x : Nat} {c : KB} (hN : good B H N) (hx : lk H x = some c) (i : Nat) : (x == N i) = false := by
  cases e : x == N i with
  | false => rfl
  | true =>
    have e' : x = N i := by simpa using e
    have hd := hN.2 i
    rw [← e'] at hd
    cases hb : B x <;> simp [den, hb, hx] at hd
theorem eqb {a b : Nat} (h : ¬ a = b) : (a == b) = false := by simpa using h
def L7 : FnL := ⟨(.seq (.ops [oa 1 (.box (ot 0)),oa 2 (.alloc [(.int .i64 0)])])
 (.seq (.seq (.ops [oa 4 (.load true 3 (ot 1)),oa 5 (.call (.func 45) [(ot 4)]),oa 6 (.un .not (ot 5))])
 (.cond (ot 6) (.seq (.ops [oc (.store 1 (ot 2) (oi 0))])
 .ret)
 .skip))
 (.seq (.seq (.ops [oa 7 (.load true 3 (ot 1)),oa 8 (.call (.func 56) [(ot 7)])])
 (.block 0 (.range (ot 8) [9] (.ops [oa 3 (.alloc [(.int .i64 0), (.int .i64 0), (.int .i64 0), (.int .i64 0)]), oc (.store 4 (ot 3) (ot 9))])
 (.block 1 (.ops [og 10 3 3,ol 11 10, oc (.store 1 (ot 2) (ot 11))])))))
 (.seq (.ops [ol 12 2, oc (.store 1 (ot 2) (ot 12))])
 .ret)))),
 13, [.cell 2 false 1]⟩
theorem low7 : lowerFn Tryd.prog Tryd.f41 = some L7 := by kernel_rfl
noncomputable def G7 (B : OH) : Nat → Cs
  | 45 => V13 B
  | 56 => V15 B
  | _ => fun _ _ _ => none
theorem G7_13 {B : OH} : G7 B 45 = V13 B := rfl
theorem G7_15 {B : OH} : G7 B 56 = V15 B := rfl
noncomputable abbrev E7 (B : OH) : Env := { f := G7 B, it := itR B }
theorem sG7 {w0 : World} {B : OH} : SoundG Tryd.prog w0 B (E7 B) :=
  ⟨fun k => by
    show (∀ args H N, G7 B k args H N = none) ∨ _
    unfold G7
    split
    · exact .inr ⟨en13, sV13⟩
    · exact .inr ⟨en15, sV15⟩
    · exact .inl fun _ _ _ => rfl, fun _ => .inl fun _ _ _ => rfl, sItR⟩
theorem en7 : Enter Tryd.prog 41 := .of Tryd.func41 (by kernel_rfl) (by kernel_rfl)
noncomputable def T7 (B : OH) : Cs := callF B (E7 B) 300 L7
theorem sT7 {w0 : World} {B : OH} : SoundC Tryd.prog w0 B 41 (T7 B) := callF_sound mixedOrders sG7 300 Tryd.func41 low7
noncomputable def F7 (B : OH) : List Value → Option Value := kval B (T7 B)
noncomputable def V7 (B : OH) : Cs := fun a H N => pvE (F7 B a) H N
theorem V7_eq {B : OH} {a : List Value} {H : HL} {N : St} : V7 B a H N = pvE (F7 B a) H N := rfl
theorem sV7 {w0 : World} {B : OH} : SoundC Tryd.prog w0 B 41 (V7 B) := sT7.ofVal
theorem J5 : Said (an @T7.eq_1 <| an @L7.eq_1 <| an @G7_13 <| an @V13_eq <| an @G7_15 <| an @V15.eq_1 <| an @T15.eq_1 <| an @L15.eq_1 <| trivial) := said_ok _
set_option maxHeartbeats 2000000 in
theorem f7 {B : OH} (hG : ∃ H N, good B H N) (hT : Tab B) {kk p cc h : Nat} (hk : 1 ≤ kk ∧ kk ≤ 5) (hp : 1 ≤ p ∧ p ≤ 16) (hc : 1 ≤ cc ∧ cc ≤ 256) (hm' : hm kk cc = (h : Int)) : F7 B [.agg #[.int .i64 (kk : Int), .int .i64 (p : Int), .int .i64 (cc : Int)]] = some (.int .i64 (bs p h 5 : Int)) := by
  refine kval_eq hG fun H N hN => ?_
  obtain ⟨hB, hR, hI⟩ := gX hN
  have e13 := f13 hG kk p cc (by omega) (by omega) (by omega)
  have hh : 1 ≤ h ∧ h ≤ 1026 := by have := hm_bounds (k := kk) (c := cc) (by omega) (by omega); omega
  simp (disch := omega) only [J5, itR_17, hB, hR, hI, e13, all1, lenV, ress, res1, retV, Value.cells, newsV_s, seval, eV]
  generalize hX : I17 B _ _ _ _ = o
  have hO : ∃ v H' N', o = some (.ret v, H', N') ∧ good B H' N' ∧ (∀ x, ¬ (x = N 4 ∨ x = N 1) → ∀ c, lk ((N.n 4, KB.loop (N.r 4) LSt.ready) :: (N.n 3, KB.dfr) :: (N.n 2, KB.cells [.int .i64 (kk : Int), .int .i64 (p : Int), .int .i64 (cc : Int)] 3) :: (N.n 1, KB.cells [.int .i64 0] 1) :: (N.n 0, KB.cells [.int .i64 (kk : Int), .int .i64 (p : Int), .int .i64 (cc : Int)] 3) :: H) x = some c → lk H' x = some c) ∧ ((lk H' (N 4) = some (.loop (N.r 4) .ready) ∧ lk H' (N 1) = some (.cells [.int .i64 (fr p h 5 0 : Int)] 1)) ∨ False) := by
    rw [← hX]
    refine it17 (kk := kk) (cc := cc) (Own := fun x => x = N 4 ∨ x = N 1) (J := fun k o H' => lk H' (N 4) = some (.loop (N.r 4) .ready) ∧ lk H' (N 1) = some (.cells [.int .i64 (fr p h k o : Int)] 1)) (Jx := fun _ => False) hT ⟨?_, ?_, ?_, ?_⟩ hk hp hc hm' ?_ ?_ ?_ ?_ ?_
    · rintro k o H b ⟨h1, h2⟩ (rfl | rfl)
      · exact ⟨_, h1⟩
      · exact ⟨_, h2⟩
    · rintro k o H H' ⟨h1, h2⟩ h3
      exact ⟨(h3 _ (.inl rfl)).trans h1, (h3 _ (.inr rfl)).trans h2⟩
    · rintro k H ⟨h1, h2⟩
      exact ⟨h1, by rw [fr_next]; exact h2⟩
    · rintro k o H N1 hk5 ho ⟨h1, h2⟩ hN1
      have hBo := hB
      obtain ⟨hB, hR, hI⟩ := gX hN1
      have hIo := beqN hN.1.1
      have b4 := hBo 4
      have b1 := hBo 1
      have r1 := rN b1
      have m4 := fun i => ne_good hN1 b4 h1 i
      have m4' := fun i => ne_good' hN1 b4 h1 i
      have m1 := fun i => ne_good hN1 b1 h2 i
      have m1' := fun i => ne_good' hN1 b1 h2 i
      have hb := fr_bnd (k := k) (o := o) hp hh hk5 ho
      have hs : (fr p h k (o + 1) : Int) = (fr p h k o : Int) + (sz p h k : Int) := by rw [fr_succ]; omega
      simp only [wy_same, y_call]
      unfold pt
      simp (disch := omega) only [J5, itR_17, hB, hR, hI, h1, h2, b4, b1, r1, m4, m4', m1, m1', hIo, all1, lenV, ress, res1, retV, Value.cells, newsV_s, seval, eV]
      refine ⟨true, _, _, rfl, ?_, ?_, fun _ => ⟨?_, ?_⟩, fun h => by cases h⟩
      · refine good_set (k' := .loop (N.r 4) .busy) (good_set (k' := .loop (N.r 4) .ready) (good_new (good_up hN1 b1 h2)) b4 ?_) b4 ?_
        · simp (disch := omega) only [J5, itR_17, hB, hR, hI, m4, hIo, h1, all1, lenV, ress, res1, retV, Value.cells, newsV_s, seval, eV]
        · simp (disch := omega) only [J5, itR_17, hB, hR, hI, all1, lenV, ress, res1, retV, Value.cells, newsV_s, seval, eV]
      · intro x hx c hc
        have x4 := eqb (fun h => hx (.inl h))
        have x1 := eqb (fun h => hx (.inr h))
        have xn := ne_of_lk hN1 hc 0
        simp (disch := omega) only [J5, itR_17, hB, hR, hI, x4, x1, xn, hc, all1, lenV, ress, res1, retV, Value.cells, newsV_s, seval, eV]
      · simp (disch := omega) only [J5, itR_17, hB, hR, hI, all1, lenV, ress, res1, retV, Value.cells, newsV_s, seval, eV]
      · simp (disch := omega) only [J5, itR_17, hB, hR, hI, hIo, m1, hs, all1, lenV, ress, res1, retV, Value.cells, newsV_s, seval, eV]
    · rintro (h | h)
      · have := hI 2 4; simp [h] at this
      · have := hI 2 1; simp [h] at this
    · exact good_new (good_new (good_new (good_new (good_new hN))))
    · simp (disch := omega) only [J5, itR_17, hB, hR, hI, all1, lenV, ress, res1, retV, Value.cells, newsV_s, seval, eV]
    · exact hB 2
    · simp (disch := omega) only [J5, itR_17, hB, hR, hI, fr_zero, bs, all1, lenV, ress, res1, retV, Value.cells, newsV_s, seval, eV]
  obtain ⟨v, H2, N2, rfl, g2, f2, ⟨h4, h1⟩ | h⟩ := hO
  · have r1 := hR 1
    have b1 := hB 1
    simp (disch := omega) only [J5, itR_17, hB, hR, hI, h4, h1, fr_zero, all1, lenV, ress, res1, retV, Value.cells, newsV_s, seval, eV]
    refine ⟨_, _, rfl, ext_lk fun r x hr hx => ?_⟩
    have xn := ne_of_lk hN hx
    have h2 := f2 r (by rintro (rfl | rfl); · simpa using xn 4
                        · simpa using xn 1) x (by simp (disch := omega) only [xn, hx, e_loop, all1, lenV, ress, res1, retV, Value.cells, newsV_s, seval, eV])
    simp (disch := omega) only [J5, itR_17, hB, hR, hI, xn, h2, all1, lenV, ress, res1, retV, Value.cells, newsV_s, seval, eV]
  · exact h.elim
end Go.Proofs.YtfhiplfagejfoaaDoor
namespace Go.Proofs.YtfhiplfagejfoaaDoor
open Go.Proofs.YtfhiplfagejfoaaDoor.K Go.ChangeShapes Go.WideShapes Go.ChangeAt Go.RowKit
set_option maxRecDepth 100000
set_option linter.unusedSimpArgs false
set_option linter.unusedVariables false

theorem nextLt {k0 o0 k p : Nat} (ho0 : o0 < mn p k0) (hx : ¬ Lt k0 o0 k (mn p k)) : ¬ Lt k0 o0 (k + 1) 0 := by
  unfold Lt at *
  by_cases e : k0 = k
  · subst e; omega
  · omega
def L9 : FnL := ⟨(.seq (.ops [oa 2 (.box (ot 0)),oa 3 (.box (ot 1)),oa 4 (.alloc [(.int .i64 0)]),oa 5 (.alloc [(.int .i64 0)]),oa 6 (.alloc [(.int .i64 0)])])
 (.seq (.seq (.ops [oa 8 (.load true 3 (ot 2)),oa 9 (.call (.func 45) [(ot 8)])])
 (.cond (ot 9) (.seq (.ops [oa 10 (.load true 3 (ot 2)),oa 11 (.call (.func 56) [(ot 10)])])
 (.block 0 (.range (ot 11) [12] (.ops [oa 7 (.alloc [(.int .i64 0), (.int .i64 0), (.int .i64 0), (.int .i64 0)]), oc (.store 4 (ot 7) (ot 12))])
 (.block 1 (.seq (.ops [ol 13 3,og 14 2 7,ol 15 14,oa 16 (.bin .geq (ot 13) (ot 15)),om 17 16,ob 18 (.load false 1 (ot 3)) 17 true,ob 19 (.faddr 3 (ot 7)) 17 true,ob 20 (.load false 1 (ot 19)) 17 true,ob 21 (.bin .lss (ot 18) (ot 20)) 17 true,oa 22 (.pick (ot 17) (ot 21) (.const (.bool false)))])
 (.cond (ot 22) (.seq (.draw [pg 23 0 7,pl 24 23,pg 25 1 7,pl 26 25,pl 27 3,pg 28 2 7,pl 29 28,oe 30 (.bin .sub (ot 27) (ot 29)), ⟨oc (.store 1 (ot 4) (ot 24)), [ol 26 25,ol 27 3,ol 29 28]⟩,⟨oc (.store 1 (ot 5) (ot 26)), [ol 27 3,ol 29 28]⟩,⟨oc (.store 1 (ot 6) (ot 30)),[]⟩])
 .ret)
 .skip))))))
 .skip))
 (.seq (.ops [oc (.store 1 (ot 4) (oi 5)), oc (.store 1 (ot 5) (oi 0)), oc (.store 1 (ot 6) (oi 0))])
 .ret))),
 31, [.cell 4 false 1, .cell 5 false 1, .cell 6 false 1]⟩
theorem low9 : lowerFn Tryd.prog Tryd.f32 = some L9 := by kernel_rfl
noncomputable def G9 (B : OH) : Nat → Cs
  | 45 => V13 B
  | 56 => V15 B
  | _ => fun _ _ _ => none
theorem G9_13 {B : OH} : G9 B 45 = V13 B := rfl
theorem G9_15 {B : OH} : G9 B 56 = V15 B := rfl
noncomputable abbrev E9 (B : OH) : Env := { f := G9 B, it := itR B }
theorem sG9 {w0 : World} {B : OH} : SoundG Tryd.prog w0 B (E9 B) :=
  ⟨fun k => by
    show (∀ args H N, G9 B k args H N = none) ∨ _
    unfold G9
    split
    · exact .inr ⟨en13, sV13⟩
    · exact .inr ⟨en15, sV15⟩
    · exact .inl fun _ _ _ => rfl, fun _ => .inl fun _ _ _ => rfl, sItR⟩
theorem en9 : Enter Tryd.prog 32 := .of Tryd.func32 (by kernel_rfl) (by kernel_rfl)
noncomputable def T9 (B : OH) : Cs := callF B (E9 B) 300 L9
theorem sT9 {w0 : World} {B : OH} : SoundC Tryd.prog w0 B 32 (T9 B) := callF_sound mixedOrders sG9 300 Tryd.func32 low9
noncomputable def F9 (B : OH) : List Value → Option Value := kval B (T9 B)
noncomputable def V9 (B : OH) : Cs := fun a H N => pvE (F9 B a) H N
theorem V9_eq {B : OH} {a : List Value} {H : HL} {N : St} : V9 B a H N = pvE (F9 B a) H N := rfl
theorem sV9 {w0 : World} {B : OH} : SoundC Tryd.prog w0 B 32 (V9 B) := sT9.ofVal
theorem J6 : Said (an @T9.eq_1 <| an @L9.eq_1 <| an @G9_13 <| an @V13_eq <| an @G9_15 <| an @V15.eq_1 <| an @T15.eq_1 <| an @L15.eq_1 <| trivial) := said_ok _
set_option maxHeartbeats 2000000 in
theorem f9 {B : OH} (hG : ∃ H N, good B H N) (hT : Tab B) {kk p cc h : Nat} (hk : 1 ≤ kk ∧ kk ≤ 5) (hp : 1 ≤ p ∧ p ≤ 16) (hc : 1 ≤ cc ∧ cc ≤ 256) (hm' : hm kk cc = (h : Int)) {k0 o0 a : Nat} (hk0 : k0 < 5) (ho0 : o0 < mn p k0) (ha : fr p h k0 o0 ≤ a) (ha' : a < fr p h k0 o0 + sz p h k0) : F9 B [.agg #[.int .i64 (kk : Int), .int .i64 (p : Int), .int .i64 (cc : Int)], .int .i64 (a : Int)] = some (.tuple #[.int .i64 (k0 : Int), .int .i64 (o0 : Int), .int .i64 ((a : Int) - (fr p h k0 o0 : Int))]) := by
  refine kval_eq hG fun H N hN => ?_
  obtain ⟨hB, hR, hI⟩ := gX hN
  have e13 := f13 hG kk p cc (by omega) (by omega) (by omega)
  have hh : 1 ≤ h ∧ h ≤ 1026 := by have := hm_bounds (k := kk) (c := cc) (by omega) (by omega); omega
  simp (disch := omega) only [J6, itR_17, hB, hR, hI, e13, all1, lenV, ress, res1, retV, Value.cells, newsV_s, seval, eV]
  generalize hX : I17 B _ _ _ _ = o
  have hO : ∃ v H' N', o = some (.ret v, H', N') ∧ good B H' N' ∧ (∀ x, ¬ (x = N 7 ∨ x = N 1 ∨ x = N 2 ∨ x = N 3 ∨ x = N 4) → ∀ c, lk ((N.n 7, KB.loop (N.r 7) LSt.ready) :: (N.n 6, KB.dfr) :: (N.n 5, KB.cells [.int .i64 (kk : Int), .int .i64 (p : Int), .int .i64 (cc : Int)] 3) :: (N.n 4, KB.cells [.int .i64 0] 1) :: (N.n 3, KB.cells [.int .i64 0] 1) :: (N.n 2, KB.cells [.int .i64 0] 1) :: (N.n 1, KB.cells [.int .i64 (a : Int)] 1) :: (N.n 0, KB.cells [.int .i64 (kk : Int), .int .i64 (p : Int), .int .i64 (cc : Int)] 3) :: H) x = some c → lk H' x = some c) ∧ ((lk H' (N 7) = some (.loop (N.r 7) .ready) ∧ lk H' (N 1) = some (.cells [.int .i64 (a : Int)] 1) ∧ lk H' (N 2) = some (.cells [.int .i64 0] 1) ∧ lk H' (N 3) = some (.cells [.int .i64 0] 1) ∧ lk H' (N 4) = some (.cells [.int .i64 0] 1) ∧ ¬ Lt k0 o0 5 0) ∨ (lk H' (N 7) = some (.loop (N.r 7) (.done none)) ∧ lk H' (N 2) = some (.cells [.int .i64 (k0 : Int)] 1) ∧ lk H' (N 3) = some (.cells [.int .i64 (o0 : Int)] 1) ∧ lk H' (N 4) = some (.cells [.int .i64 ((a : Int) - (fr p h k0 o0 : Int))] 1))) := by
    rw [← hX]
    refine it17 (kk := kk) (cc := cc) (Own := fun x => x = N 7 ∨ x = N 1 ∨ x = N 2 ∨ x = N 3 ∨ x = N 4) (J := fun kx ox H' => lk H' (N 7) = some (.loop (N.r 7) .ready) ∧ lk H' (N 1) = some (.cells [.int .i64 (a : Int)] 1) ∧ lk H' (N 2) = some (.cells [.int .i64 0] 1) ∧ lk H' (N 3) = some (.cells [.int .i64 0] 1) ∧ lk H' (N 4) = some (.cells [.int .i64 0] 1) ∧ ¬ Lt k0 o0 kx ox) (Jx := fun H' => lk H' (N 7) = some (.loop (N.r 7) (.done none)) ∧ lk H' (N 2) = some (.cells [.int .i64 (k0 : Int)] 1) ∧ lk H' (N 3) = some (.cells [.int .i64 (o0 : Int)] 1) ∧ lk H' (N 4) = some (.cells [.int .i64 ((a : Int) - (fr p h k0 o0 : Int))] 1)) hT ⟨?_, ?_, ?_, ?_⟩ hk hp hc hm' ?_ ?_ ?_ ?_ ?_
    · rintro k o H b ⟨h7, h1, h2, h3, h4, hx⟩ (rfl | rfl | rfl | rfl | rfl)
      · exact ⟨_, h7⟩
      · exact ⟨_, h1⟩
      · exact ⟨_, h2⟩
      · exact ⟨_, h3⟩
      · exact ⟨_, h4⟩
    · rintro k o H H' ⟨h7, h1, h2, h3, h4, hx⟩ g
      exact ⟨(g _ (by simp)).trans h7, (g _ (by simp)).trans h1, (g _ (by simp)).trans h2, (g _ (by simp)).trans h3, (g _ (by simp)).trans h4, hx⟩
    · rintro k H ⟨h7, h1, h2, h3, h4, hx⟩
      exact ⟨h7, h1, h2, h3, h4, nextLt ho0 hx⟩
    · rintro k o H N1 hk5 ho ⟨h7, h1, h2, h3, h4, hx⟩ hN1
      have hBo := hB
      obtain ⟨hB, hR, hI⟩ := gX hN1
      have hIo := beqN hN.1.1
      have b7 := hBo 7
      have r7 := rN b7
      have m7 := fun j => ne_good hN1 b7 h7 j
      have w7 := fun j => ne_good' hN1 b7 h7 j
      have b1 := hBo 1
      have r1 := rN b1
      have m1 := fun j => ne_good hN1 b1 h1 j
      have w1 := fun j => ne_good' hN1 b1 h1 j
      have b2 := hBo 2
      have r2 := rN b2
      have m2 := fun j => ne_good hN1 b2 h2 j
      have w2 := fun j => ne_good' hN1 b2 h2 j
      have b3 := hBo 3
      have r3 := rN b3
      have m3 := fun j => ne_good hN1 b3 h3 j
      have w3 := fun j => ne_good' hN1 b3 h3 j
      have b4 := hBo 4
      have r4 := rN b4
      have m4 := fun j => ne_good hN1 b4 h4 j
      have w4 := fun j => ne_good' hN1 b4 h4 j
      have hb := fr_bnd (k := k) (o := o) hp hh hk5 ho
      have hs : (fr p h k (o + 1) : Int) = (fr p h k o : Int) + (sz p h k : Int) := by rw [fr_succ]; omega
      simp only [wy_same, y_call]
      unfold pt
      by_cases heq : k = k0 ∧ o = o0
      · obtain ⟨rfl, rfl⟩ := heq
        have q1 : (a : Int) ≥ (fr p h k o : Int) := by omega
        have q2 : (a : Int) < (fr p h k o : Int) + (sz p h k : Int) := by omega
        simp (disch := omega) only [J6, itR_17, hB, hR, hI, h7, b7, r7, m7, w7, h1, b1, r1, m1, w1, h2, b2, r2, m2, w2, h3, b3, r3, m3, w3, h4, b4, r4, m4, w4, hIo, q1, q2, all1, lenV, ress, res1, retV, Value.cells, newsV_s, seval, eV]
        refine ⟨false, _, _, rfl, good_set (k' := .loop (N.r 7) .busy) (good_set (k' := .loop (N.r 7) .ready) (good_new (good_up (k' := .cells [.int .i64 0] 1) (good_up (k' := .cells [.int .i64 0] 1) (good_up (k' := .cells [.int .i64 0] 1) hN1 b2 h2) b3 ?_) b4 ?_)) b7 ?_) b7 ?_, fun x hx c hc => ?_, fun h => (by cases h), fun _ => ?_⟩
        · simp (disch := omega) only [J6, itR_17, hB, hR, hI, h7, b7, r7, m7, w7, h1, b1, r1, m1, w1, h2, b2, r2, m2, w2, h3, b3, r3, m3, w3, h4, b4, r4, m4, w4, hIo, all1, lenV, ress, res1, retV, Value.cells, newsV_s, seval, eV]
        · simp (disch := omega) only [J6, itR_17, hB, hR, hI, h7, b7, r7, m7, w7, h1, b1, r1, m1, w1, h2, b2, r2, m2, w2, h3, b3, r3, m3, w3, h4, b4, r4, m4, w4, hIo, all1, lenV, ress, res1, retV, Value.cells, newsV_s, seval, eV]
        · simp (disch := omega) only [J6, itR_17, hB, hR, hI, h7, b7, r7, m7, w7, h1, b1, r1, m1, w1, h2, b2, r2, m2, w2, h3, b3, r3, m3, w3, h4, b4, r4, m4, w4, hIo, all1, lenV, ress, res1, retV, Value.cells, newsV_s, seval, eV]
        · simp (disch := omega) only [J6, itR_17, hB, hR, hI, h7, b7, r7, m7, w7, h1, b1, r1, m1, w1, h2, b2, r2, m2, w2, h3, b3, r3, m3, w3, h4, b4, r4, m4, w4, hIo, all1, lenV, ress, res1, retV, Value.cells, newsV_s, seval, eV]
        · have xn := ne_of_lk hN1 hc 0
          have x7 := eqb (fun h : x = N 7 => hx (by simp [h]))
          have x1 := eqb (fun h : x = N 1 => hx (by simp [h]))
          have x2 := eqb (fun h : x = N 2 => hx (by simp [h]))
          have x3 := eqb (fun h : x = N 3 => hx (by simp [h]))
          have x4 := eqb (fun h : x = N 4 => hx (by simp [h]))
          simp (disch := omega) only [J6, itR_17, hB, hR, hI, xn, hc, x7, x1, x2, x3, x4, all1, lenV, ress, res1, retV, Value.cells, newsV_s, seval, eV]
        · refine ⟨?_, ?_, ?_, ?_⟩
          all_goals simp (disch := omega) only [J6, itR_17, hB, hR, hI, h7, b7, r7, m7, w7, h1, b1, r1, m1, w1, h2, b2, r2, m2, w2, h3, b3, r3, m3, w3, h4, b4, r4, m4, w4, hIo, all1, lenV, ress, res1, retV, Value.cells, newsV_s, seval, eV]
      · have hlt : Lt k o k0 o0 := by unfold Lt at *; omega
        have hle := fr_lt ho hlt (p := p) (h := h)
        have q1 : (a : Int) ≥ (fr p h k o : Int) := by omega
        have q2 : ¬ (a : Int) < (fr p h k o : Int) + (sz p h k : Int) := by omega
        simp (disch := omega) only [J6, itR_17, hB, hR, hI, h7, b7, r7, m7, w7, h1, b1, r1, m1, w1, h2, b2, r2, m2, w2, h3, b3, r3, m3, w3, h4, b4, r4, m4, w4, hIo, q1, q2, all1, lenV, ress, res1, retV, Value.cells, newsV_s, seval, eV]
        refine ⟨true, _, _, rfl, good_set (k' := .loop (N.r 7) .busy) (good_set (k' := .loop (N.r 7) .ready) (good_new hN1) b7 ?_) b7 ?_, fun x hx c hc => ?_, fun _ => ?_, fun h => (by cases h)⟩
        · simp (disch := omega) only [J6, itR_17, hB, hR, hI, h7, b7, r7, m7, w7, h1, b1, r1, m1, w1, h2, b2, r2, m2, w2, h3, b3, r3, m3, w3, h4, b4, r4, m4, w4, hIo, all1, lenV, ress, res1, retV, Value.cells, newsV_s, seval, eV]
        · simp (disch := omega) only [J6, itR_17, hB, hR, hI, h7, b7, r7, m7, w7, h1, b1, r1, m1, w1, h2, b2, r2, m2, w2, h3, b3, r3, m3, w3, h4, b4, r4, m4, w4, hIo, all1, lenV, ress, res1, retV, Value.cells, newsV_s, seval, eV]
        · have xn := ne_of_lk hN1 hc 0
          have x7 := eqb (fun h : x = N 7 => hx (by simp [h]))
          have x1 := eqb (fun h : x = N 1 => hx (by simp [h]))
          have x2 := eqb (fun h : x = N 2 => hx (by simp [h]))
          have x3 := eqb (fun h : x = N 3 => hx (by simp [h]))
          have x4 := eqb (fun h : x = N 4 => hx (by simp [h]))
          simp (disch := omega) only [J6, itR_17, hB, hR, hI, xn, hc, x7, x1, x2, x3, x4, all1, lenV, ress, res1, retV, Value.cells, newsV_s, seval, eV]
        · refine ⟨?_, ?_, ?_, ?_, ?_, by unfold Lt at *; omega⟩
          all_goals simp (disch := omega) only [J6, itR_17, hB, hR, hI, h7, b7, r7, m7, w7, h1, b1, r1, m1, w1, h2, b2, r2, m2, w2, h3, b3, r3, m3, w3, h4, b4, r4, m4, w4, hIo, all1, lenV, ress, res1, retV, Value.cells, newsV_s, seval, eV]
    · have := hI 5
      rintro (h | h | h | h | h)
      all_goals { have g := hI 5; simp only [h, hI] at g; have g1 := g 7; have g2 := g 1; have g3 := g 2; have g4 := g 3; have g5 := g 4; simp [h] at g1 g2 g3 g4 g5 }
    · exact (good_new (good_new (good_new (good_new (good_new (good_new (good_new (good_new hN))))))))
    · simp (disch := omega) only [J6, itR_17, hB, hR, hI, all1, lenV, ress, res1, retV, Value.cells, newsV_s, seval, eV]
    · exact hB 5
    · refine ⟨?_, ?_, ?_, ?_, ?_, by unfold Lt; omega⟩
      all_goals simp (disch := omega) only [J6, itR_17, hB, hR, hI, all1, lenV, ress, res1, retV, Value.cells, newsV_s, seval, eV]
  obtain ⟨v, H2, N2, rfl, g2, f2, ⟨h7, h1, h2, h3, h4, hx⟩ | ⟨h7, h2, h3, h4⟩⟩ := hO
  · exact (hx (by unfold Lt; omega)).elim
  · have r2 := hR 2
    have r3 := hR 3
    have r4 := hR 4
    simp (disch := omega) only [J6, itR_17, hB, hR, hI, h7, h2, h3, h4, all1, lenV, ress, res1, retV, Value.cells, newsV_s, seval, eV]
    refine ⟨_, _, rfl, ext_lk fun r x hr hx => ?_⟩
    have xn := ne_of_lk hN hx
    have q := f2 r (by
      rintro (rfl | rfl | rfl | rfl | rfl)
      all_goals simp [hI] at xn) x (by simp (disch := omega) only [xn, hx, e_loop, all1, lenV, ress, res1, retV, Value.cells, newsV_s, seval, eV])
    simp (disch := omega) only [J6, itR_17, hB, hR, hI, xn, q, all1, lenV, ress, res1, retV, Value.cells, newsV_s, seval, eV]
end Go.Proofs.YtfhiplfagejfoaaDoor
namespace Go.Proofs.YtfhiplfagejfoaaDoor
open Go.Proofs.YtfhiplfagejfoaaDoor.K Go.ChangeShapes Go.WideShapes Go.ChangeAt Go.RowKit
set_option maxRecDepth 100000
set_option linter.unusedSimpArgs false
set_option linter.unusedVariables false

theorem eqbI {a b : Int} (h : ¬ a = b) : (a == b) = false := by simpa using h
def L10 : FnL := ⟨(.seq (.ops [oa 3 (.box (ot 0)),oa 4 (.box (ot 1)),oa 5 (.box (ot 2)),oa 6 (.alloc [(.int .i64 0)]),oa 7 (.alloc [(.int .i64 0)])])
 (.seq (.block 0 (.seq (.ops [oa 10 (.load true 3 (ot 3)),oa 11 (.call (.func 45) [(ot 10)]),oa 12 (.un .not (ot 11)),om 9 12])
 (.cond (ot 9) (.seq (.ops [oc (.store 1 (ot 6) (oi 0)), oc (.store 1 (ot 7) (oi 5))])
 .ret)
 (.seq (.seq (.ops [ol 14 4,oa 15 (.bin .lss (ot 14) (oi 0)),om 13 15])
 (.cond (ot 13) .skip
 (.seq (.ops [ol 16 4,oa 17 (.bin .gtr (ot 16) (oi 4)),om 13 17])
 (.cond (ot 13) .skip
 (.seq (.ops [ol 18 5,oa 19 (.bin .lss (ot 18) (oi 0)),om 13 19])
 (.cond (ot 13) .skip
 (.ops [ol 20 5,og 21 1 3,ol 22 21,oa 23 (.bin .geq (ot 20) (ot 22)),om 13 23])))))))
 (.cond (ot 13) (.seq (.ops [oc (.store 1 (ot 6) (oi 0)), oc (.store 1 (ot 7) (oi 1))])
 .ret)
 (.seq (.seq (.ops [ol 25 4,oa 26 (.bin .eql (ot 25) (oi 0)),om 24 26])
 (.cond (ot 24) .skip
 (.ops [ol 27 4,oa 28 (.bin .eql (ot 27) (oi 4)),om 24 28])))
 (.cond (ot 24) (.ops [oc (.store 1 (ot 5) (oi 0))])
 .skip)))))))
 (.seq (.seq (.ops [oa 29 (.load true 3 (ot 3)),oa 30 (.call (.func 56) [(ot 29)])])
 (.block 1 (.range (ot 30) [31] (.ops [oa 8 (.alloc [(.int .i64 0), (.int .i64 0), (.int .i64 0), (.int .i64 0)]), oc (.store 4 (ot 8) (ot 31))])
 (.block 2 (.seq (.ops [og 32 0 8,ol 33 32,ol 34 4,oa 35 (.bin .eql (ot 33) (ot 34)),om 36 35,ob 37 (.faddr 1 (ot 8)) 36 true,ob 38 (.load false 1 (ot 37)) 36 true,ob 39 (.load false 1 (ot 5)) 36 true,ob 40 (.bin .eql (ot 38) (ot 39)) 36 true,oa 41 (.pick (ot 36) (ot 40) (.const (.bool false)))])
 (.cond (ot 41) (.seq (.ops [og 42 2 8,ol 43 42, oc (.store 1 (ot 6) (ot 43)), oc (.store 1 (ot 7) (oi 0))])
 .ret)
 .skip))))))
 (.seq (.ops [oc (.store 1 (ot 6) (oi 0)), oc (.store 1 (ot 7) (oi 1))])
 .ret)))),
 44, [.cell 6 false 1, .cell 7 false 1]⟩
theorem low10 : lowerFn Tryd.prog Tryd.f31 = some L10 := by kernel_rfl
noncomputable def G10 (B : OH) : Nat → Cs
  | 45 => V13 B
  | 56 => V15 B
  | _ => fun _ _ _ => none
theorem G10_13 {B : OH} : G10 B 45 = V13 B := rfl
theorem G10_15 {B : OH} : G10 B 56 = V15 B := rfl
noncomputable abbrev E10 (B : OH) : Env := { f := G10 B, it := itR B }
theorem sG10 {w0 : World} {B : OH} : SoundG Tryd.prog w0 B (E10 B) :=
  ⟨fun k => by
    show (∀ args H N, G10 B k args H N = none) ∨ _
    unfold G10
    split
    · exact .inr ⟨en13, sV13⟩
    · exact .inr ⟨en15, sV15⟩
    · exact .inl fun _ _ _ => rfl, fun _ => .inl fun _ _ _ => rfl, sItR⟩
theorem en10 : Enter Tryd.prog 31 := .of Tryd.func31 (by kernel_rfl) (by kernel_rfl)
noncomputable def T10 (B : OH) : Cs := callF B (E10 B) 300 L10
theorem sT10 {w0 : World} {B : OH} : SoundC Tryd.prog w0 B 31 (T10 B) := callF_sound mixedOrders sG10 300 Tryd.func31 low10
noncomputable def F10 (B : OH) : List Value → Option Value := kval B (T10 B)
noncomputable def V10 (B : OH) : Cs := fun a H N => pvE (F10 B a) H N
theorem V10_eq {B : OH} {a : List Value} {H : HL} {N : St} : V10 B a H N = pvE (F10 B a) H N := rfl
theorem sV10 {w0 : World} {B : OH} : SoundC Tryd.prog w0 B 31 (V10 B) := sT10.ofVal
theorem J7 : Said (an @T10.eq_1 <| an @L10.eq_1 <| an @G10_13 <| an @V13_eq <| an @G10_15 <| an @V15.eq_1 <| an @T15.eq_1 <| an @L15.eq_1 <| trivial) := said_ok _
set_option maxHeartbeats 4000000 in
theorem f10a {B : OH} (hG : ∃ H N, good B H N) (hT : Tab B) {kk p cc h : Nat} (hk : 1 ≤ kk ∧ kk ≤ 5) (hp : 1 ≤ p ∧ p ≤ 16) (hc : 1 ≤ cc ∧ cc ≤ 256) (hm' : hm kk cc = (h : Int)) {k0 o0 : Nat} (hk0 : k0 < 5) (ho0 : o0 < mn p k0) (hne : k0 ≠ 0 ∧ k0 ≠ 4) : F10 B [.agg #[.int .i64 (kk : Int), .int .i64 (p : Int), .int .i64 (cc : Int)], .int .i64 (k0 : Int), .int .i64 (o0 : Int)] = some (.tuple #[.int .i64 (fr p h k0 o0 : Int), .int .i64 0]) := by
  refine kval_eq hG fun H N hN => ?_
  obtain ⟨hB, hR, hI⟩ := gX hN
  have e13 := f13 hG kk p cc (by omega) (by omega) (by omega)
  have hh : 1 ≤ h ∧ h ≤ 1026 := by have := hm_bounds (k := kk) (c := cc) (by omega) (by omega); omega
  have hmn := mn_le (p := p) (k := k0) (by omega)
  have k1 : ¬ (k0 : Int) < 0 := by omega
  have k2 : ¬ (k0 : Int) > 4 := by omega
  have p1 : ¬ (o0 : Int) < 0 := by omega
  have p2 : ¬ (o0 : Int) ≥ (p : Int) := by omega
  have e0 : ((k0 : Int) == 0) = false := eqbI (by omega)
  have e4 : ((k0 : Int) == 4) = false := eqbI (by omega)
  have e00 : ((0 : Nat) : Int) = 0 := rfl
  simp (disch := omega) only [J7, itR_17, hB, hR, hI, e13, k1, k2, p1, p2, e0, e4, e00, all1, lenV, ress, res1, retV, Value.cells, newsV_s, seval, eV]
  generalize hX : I17 B _ _ _ _ = o
  have hO : ∃ v H' N', o = some (.ret v, H', N') ∧ good B H' N' ∧ (∀ x, ¬ (x = N 7 ∨ x = N 1 ∨ x = N 2 ∨ x = N 3 ∨ x = N 4) → ∀ c, lk ((N.n 7, KB.loop (N.r 7) LSt.ready) :: (N.n 6, KB.dfr) :: (N.n 5, KB.cells [.int .i64 (kk : Int), .int .i64 (p : Int), .int .i64 (cc : Int)] 3) :: (N.n 4, KB.cells [.int .i64 0] 1) :: (N.n 3, KB.cells [.int .i64 0] 1) :: (N.n 2, KB.cells [.int .i64 (o0 : Int)] 1) :: (N.n 1, KB.cells [.int .i64 (k0 : Int)] 1) :: (N.n 0, KB.cells [.int .i64 (kk : Int), .int .i64 (p : Int), .int .i64 (cc : Int)] 3) :: H) x = some c → lk H' x = some c) ∧ ((lk H' (N 7) = some (.loop (N.r 7) .ready) ∧ lk H' (N 1) = some (.cells [.int .i64 (k0 : Int)] 1) ∧ lk H' (N 2) = some (.cells [.int .i64 (o0 : Int)] 1) ∧ lk H' (N 3) = some (.cells [.int .i64 0] 1) ∧ lk H' (N 4) = some (.cells [.int .i64 0] 1) ∧ ¬ Lt k0 o0 5 0) ∨ (lk H' (N 7) = some (.loop (N.r 7) (.done none)) ∧ lk H' (N 3) = some (.cells [.int .i64 (fr p h k0 o0 : Int)] 1) ∧ lk H' (N 4) = some (.cells [.int .i64 0] 1))) := by
    rw [← hX]
    refine it17 (kk := kk) (cc := cc) (Own := fun x => x = N 7 ∨ x = N 1 ∨ x = N 2 ∨ x = N 3 ∨ x = N 4) (J := fun kx ox H' => lk H' (N 7) = some (.loop (N.r 7) .ready) ∧ lk H' (N 1) = some (.cells [.int .i64 (k0 : Int)] 1) ∧ lk H' (N 2) = some (.cells [.int .i64 (o0 : Int)] 1) ∧ lk H' (N 3) = some (.cells [.int .i64 0] 1) ∧ lk H' (N 4) = some (.cells [.int .i64 0] 1) ∧ ¬ Lt k0 o0 kx ox) (Jx := fun H' => lk H' (N 7) = some (.loop (N.r 7) (.done none)) ∧ lk H' (N 3) = some (.cells [.int .i64 (fr p h k0 o0 : Int)] 1) ∧ lk H' (N 4) = some (.cells [.int .i64 0] 1)) hT ⟨?_, ?_, ?_, ?_⟩ hk hp hc hm' ?_ ?_ ?_ ?_ ?_
    · rintro k o H b ⟨h7, h1, h2, h3, h4, hx⟩ (rfl | rfl | rfl | rfl | rfl)
      · exact ⟨_, h7⟩
      · exact ⟨_, h1⟩
      · exact ⟨_, h2⟩
      · exact ⟨_, h3⟩
      · exact ⟨_, h4⟩
    · rintro k o H H' ⟨h7, h1, h2, h3, h4, hx⟩ g
      exact ⟨(g _ (by simp)).trans h7, (g _ (by simp)).trans h1, (g _ (by simp)).trans h2, (g _ (by simp)).trans h3, (g _ (by simp)).trans h4, hx⟩
    · rintro k H ⟨h7, h1, h2, h3, h4, hx⟩
      exact ⟨h7, h1, h2, h3, h4, nextLt ho0 hx⟩
    · rintro k o H N1 hk5 ho ⟨h7, h1, h2, h3, h4, hx⟩ hN1
      have hBo := hB
      obtain ⟨hB, hR, hI⟩ := gX hN1
      have hIo := beqN hN.1.1
      have b7 := hBo 7
      have r7 := rN b7
      have m7 := fun j => ne_good hN1 b7 h7 j
      have w7 := fun j => ne_good' hN1 b7 h7 j
      have b1 := hBo 1
      have r1 := rN b1
      have m1 := fun j => ne_good hN1 b1 h1 j
      have w1 := fun j => ne_good' hN1 b1 h1 j
      have b2 := hBo 2
      have r2 := rN b2
      have m2 := fun j => ne_good hN1 b2 h2 j
      have w2 := fun j => ne_good' hN1 b2 h2 j
      have b3 := hBo 3
      have r3 := rN b3
      have m3 := fun j => ne_good hN1 b3 h3 j
      have w3 := fun j => ne_good' hN1 b3 h3 j
      have b4 := hBo 4
      have r4 := rN b4
      have m4 := fun j => ne_good hN1 b4 h4 j
      have w4 := fun j => ne_good' hN1 b4 h4 j
      have hb := fr_bnd (k := k) (o := o) hp hh hk5 ho
      have hs : (fr p h k (o + 1) : Int) = (fr p h k o : Int) + (sz p h k : Int) := by rw [fr_succ]; omega
      simp only [wy_same, y_call]
      unfold pt
      by_cases hk' : k = k0
      · subst hk'
        by_cases ho' : o = o0
        · subst ho'
          simp (disch := omega) only [J7, itR_17, hB, hR, hI, h7, b7, r7, m7, w7, h1, b1, r1, m1, w1, h2, b2, r2, m2, w2, h3, b3, r3, m3, w3, h4, b4, r4, m4, w4, hIo, all1, lenV, ress, res1, retV, Value.cells, newsV_s, seval, eV]
          refine ⟨false, _, _, rfl, good_set (k' := .loop (N.r 7) .busy) (good_set (k' := .loop (N.r 7) .ready) (good_new (good_up (k' := .cells [.int .i64 0] 1) (good_up (k' := .cells [.int .i64 0] 1) hN1 b3 h3) b4 ?_)) b7 ?_) b7 ?_, fun x hx c hc => ?_, fun h => (by cases h), fun _ => ?_⟩
          · simp (disch := omega) only [J7, itR_17, hB, hR, hI, h7, b7, r7, m7, w7, h1, b1, r1, m1, w1, h2, b2, r2, m2, w2, h3, b3, r3, m3, w3, h4, b4, r4, m4, w4, hIo, all1, lenV, ress, res1, retV, Value.cells, newsV_s, seval, eV]
          · simp (disch := omega) only [J7, itR_17, hB, hR, hI, h7, b7, r7, m7, w7, h1, b1, r1, m1, w1, h2, b2, r2, m2, w2, h3, b3, r3, m3, w3, h4, b4, r4, m4, w4, hIo, all1, lenV, ress, res1, retV, Value.cells, newsV_s, seval, eV]
          · simp (disch := omega) only [J7, itR_17, hB, hR, hI, h7, b7, r7, m7, w7, h1, b1, r1, m1, w1, h2, b2, r2, m2, w2, h3, b3, r3, m3, w3, h4, b4, r4, m4, w4, hIo, all1, lenV, ress, res1, retV, Value.cells, newsV_s, seval, eV]
          · have xn := ne_of_lk hN1 hc 0
            have x7 := eqb (fun h : x = N 7 => hx (by simp [h]))
            have x1 := eqb (fun h : x = N 1 => hx (by simp [h]))
            have x2 := eqb (fun h : x = N 2 => hx (by simp [h]))
            have x3 := eqb (fun h : x = N 3 => hx (by simp [h]))
            have x4 := eqb (fun h : x = N 4 => hx (by simp [h]))
            simp (disch := omega) only [J7, itR_17, hB, hR, hI, xn, hc, x7, x1, x2, x3, x4, all1, lenV, ress, res1, retV, Value.cells, newsV_s, seval, eV]
          · refine ⟨?_, ?_, ?_⟩
            all_goals simp (disch := omega) only [J7, itR_17, hB, hR, hI, h7, b7, r7, m7, w7, h1, b1, r1, m1, w1, h2, b2, r2, m2, w2, h3, b3, r3, m3, w3, h4, b4, r4, m4, w4, hIo, all1, lenV, ress, res1, retV, Value.cells, newsV_s, seval, eV]
        · have q2 : ((o : Int) == (o0 : Int)) = false := eqbI (by omega)
          simp (disch := omega) only [J7, itR_17, hB, hR, hI, h7, b7, r7, m7, w7, h1, b1, r1, m1, w1, h2, b2, r2, m2, w2, h3, b3, r3, m3, w3, h4, b4, r4, m4, w4, hIo, q2, all1, lenV, ress, res1, retV, Value.cells, newsV_s, seval, eV]
          refine ⟨true, _, _, rfl, good_set (k' := .loop (N.r 7) .busy) (good_set (k' := .loop (N.r 7) .ready) (good_new hN1) b7 ?_) b7 ?_, fun x hx c hc => ?_, fun _ => ?_, fun h => (by cases h)⟩
          · simp (disch := omega) only [J7, itR_17, hB, hR, hI, h7, b7, r7, m7, w7, h1, b1, r1, m1, w1, h2, b2, r2, m2, w2, h3, b3, r3, m3, w3, h4, b4, r4, m4, w4, hIo, all1, lenV, ress, res1, retV, Value.cells, newsV_s, seval, eV]
          · simp (disch := omega) only [J7, itR_17, hB, hR, hI, h7, b7, r7, m7, w7, h1, b1, r1, m1, w1, h2, b2, r2, m2, w2, h3, b3, r3, m3, w3, h4, b4, r4, m4, w4, hIo, all1, lenV, ress, res1, retV, Value.cells, newsV_s, seval, eV]
          · have xn := ne_of_lk hN1 hc 0
            have x7 := eqb (fun h : x = N 7 => hx (by simp [h]))
            have x1 := eqb (fun h : x = N 1 => hx (by simp [h]))
            have x2 := eqb (fun h : x = N 2 => hx (by simp [h]))
            have x3 := eqb (fun h : x = N 3 => hx (by simp [h]))
            have x4 := eqb (fun h : x = N 4 => hx (by simp [h]))
            simp (disch := omega) only [J7, itR_17, hB, hR, hI, xn, hc, x7, x1, x2, x3, x4, all1, lenV, ress, res1, retV, Value.cells, newsV_s, seval, eV]
          · refine ⟨?_, ?_, ?_, ?_, ?_, by unfold Lt at *; omega⟩
            all_goals simp (disch := omega) only [J7, itR_17, hB, hR, hI, h7, b7, r7, m7, w7, h1, b1, r1, m1, w1, h2, b2, r2, m2, w2, h3, b3, r3, m3, w3, h4, b4, r4, m4, w4, hIo, all1, lenV, ress, res1, retV, Value.cells, newsV_s, seval, eV]
      · have q1 : ((k : Int) == (k0 : Int)) = false := eqbI (by omega)
        simp (disch := omega) only [J7, itR_17, hB, hR, hI, h7, b7, r7, m7, w7, h1, b1, r1, m1, w1, h2, b2, r2, m2, w2, h3, b3, r3, m3, w3, h4, b4, r4, m4, w4, hIo, q1, all1, lenV, ress, res1, retV, Value.cells, newsV_s, seval, eV]
        refine ⟨true, _, _, rfl, good_set (k' := .loop (N.r 7) .busy) (good_set (k' := .loop (N.r 7) .ready) (good_new hN1) b7 ?_) b7 ?_, fun x hx c hc => ?_, fun _ => ?_, fun h => (by cases h)⟩
        · simp (disch := omega) only [J7, itR_17, hB, hR, hI, h7, b7, r7, m7, w7, h1, b1, r1, m1, w1, h2, b2, r2, m2, w2, h3, b3, r3, m3, w3, h4, b4, r4, m4, w4, hIo, all1, lenV, ress, res1, retV, Value.cells, newsV_s, seval, eV]
        · simp (disch := omega) only [J7, itR_17, hB, hR, hI, h7, b7, r7, m7, w7, h1, b1, r1, m1, w1, h2, b2, r2, m2, w2, h3, b3, r3, m3, w3, h4, b4, r4, m4, w4, hIo, all1, lenV, ress, res1, retV, Value.cells, newsV_s, seval, eV]
        · have xn := ne_of_lk hN1 hc 0
          have x7 := eqb (fun h : x = N 7 => hx (by simp [h]))
          have x1 := eqb (fun h : x = N 1 => hx (by simp [h]))
          have x2 := eqb (fun h : x = N 2 => hx (by simp [h]))
          have x3 := eqb (fun h : x = N 3 => hx (by simp [h]))
          have x4 := eqb (fun h : x = N 4 => hx (by simp [h]))
          simp (disch := omega) only [J7, itR_17, hB, hR, hI, xn, hc, x7, x1, x2, x3, x4, all1, lenV, ress, res1, retV, Value.cells, newsV_s, seval, eV]
        · refine ⟨?_, ?_, ?_, ?_, ?_, by unfold Lt at *; omega⟩
          all_goals simp (disch := omega) only [J7, itR_17, hB, hR, hI, h7, b7, r7, m7, w7, h1, b1, r1, m1, w1, h2, b2, r2, m2, w2, h3, b3, r3, m3, w3, h4, b4, r4, m4, w4, hIo, all1, lenV, ress, res1, retV, Value.cells, newsV_s, seval, eV]
    · rintro (h | h | h | h | h)
      all_goals { have g := hI 5; simp only [h, hI] at g; have g7 := g 7; have g1 := g 1; have g2 := g 2; have g3 := g 3; have g4 := g 4; simp [h] at g7 g1 g2 g3 g4 }
    · exact (good_new (good_new (good_new (good_new (good_new (good_new (good_new (good_new hN))))))))
    · simp (disch := omega) only [J7, itR_17, hB, hR, hI, all1, lenV, ress, res1, retV, Value.cells, newsV_s, seval, eV]
    · exact hB 5
    · refine ⟨?_, ?_, ?_, ?_, ?_, by unfold Lt; omega⟩
      all_goals simp (disch := omega) only [J7, itR_17, hB, hR, hI, e00, all1, lenV, ress, res1, retV, Value.cells, newsV_s, seval, eV]
  obtain ⟨v, H2, N2, rfl, g2, f2, ⟨h7, h1, h2, h3, h4, hx⟩ | ⟨h7, h3, h4⟩⟩ := hO
  · exact (hx (by unfold Lt; omega)).elim
  · have r3 := hR 3
    have r4 := hR 4
    simp (disch := omega) only [J7, itR_17, hB, hR, hI, h7, h3, h4, all1, lenV, ress, res1, retV, Value.cells, newsV_s, seval, eV]
    refine ⟨_, _, rfl, ext_lk fun r x hr hx => ?_⟩
    have xn := ne_of_lk hN hx
    have q := f2 r (by
      rintro (rfl | rfl | rfl | rfl | rfl)
      all_goals simp [hI] at xn) x (by simp (disch := omega) only [xn, hx, e_loop, all1, lenV, ress, res1, retV, Value.cells, newsV_s, seval, eV])
    simp (disch := omega) only [J7, itR_17, hB, hR, hI, xn, q, all1, lenV, ress, res1, retV, Value.cells, newsV_s, seval, eV]
set_option maxHeartbeats 4000000 in
theorem f10b {B : OH} (hG : ∃ H N, good B H N) (hT : Tab B) {kk p cc h : Nat} (hk : 1 ≤ kk ∧ kk ≤ 5) (hp : 1 ≤ p ∧ p ≤ 16) (hc : 1 ≤ cc ∧ cc ≤ 256) (hm' : hm kk cc = (h : Int)) {k0 o0 : Nat} (hk0 : k0 < 5) (ho0 : o0 < mn p k0) (hne : k0 = 0) : F10 B [.agg #[.int .i64 (kk : Int), .int .i64 (p : Int), .int .i64 (cc : Int)], .int .i64 (k0 : Int), .int .i64 (o0 : Int)] = some (.tuple #[.int .i64 (fr p h k0 o0 : Int), .int .i64 0]) := by
  refine kval_eq hG fun H N hN => ?_
  obtain ⟨hB, hR, hI⟩ := gX hN
  have e13 := f13 hG kk p cc (by omega) (by omega) (by omega)
  have hh : 1 ≤ h ∧ h ≤ 1026 := by have := hm_bounds (k := kk) (c := cc) (by omega) (by omega); omega
  have hmn := mn_le (p := p) (k := k0) (by omega)
  have k1 : ¬ (k0 : Int) < 0 := by omega
  have k2 : ¬ (k0 : Int) > 4 := by omega
  have p1 : ¬ (o0 : Int) < 0 := by omega
  have p2 : ¬ (o0 : Int) ≥ (p : Int) := by omega
  have e0 : ((k0 : Int) == 0) = true := by rw [hne]; rfl
  have e4 : ((k0 : Int) == 4) = false := eqbI (by omega)
  obtain rfl : o0 = 0 := by subst hne; simpa [mn] using ho0
  have e00 : ((0 : Nat) : Int) = 0 := rfl
  have p2 : ¬ 0 ≥ (p : Int) := by omega
  simp (disch := omega) only [J7, itR_17, hB, hR, hI, e13, k1, k2, p1, p2, e0, e4, e00, all1, lenV, ress, res1, retV, Value.cells, newsV_s, seval, eV]
  generalize hX : I17 B _ _ _ _ = o
  have hO : ∃ v H' N', o = some (.ret v, H', N') ∧ good B H' N' ∧ (∀ x, ¬ (x = N 7 ∨ x = N 1 ∨ x = N 2 ∨ x = N 3 ∨ x = N 4) → ∀ c, lk ((N.n 7, KB.loop (N.r 7) LSt.ready) :: (N.n 6, KB.dfr) :: (N.n 5, KB.cells [.int .i64 (kk : Int), .int .i64 (p : Int), .int .i64 (cc : Int)] 3) :: (N.n 4, KB.cells [.int .i64 0] 1) :: (N.n 3, KB.cells [.int .i64 0] 1) :: (N.n 2, KB.cells [.int .i64 0] 1) :: (N.n 1, KB.cells [.int .i64 (k0 : Int)] 1) :: (N.n 0, KB.cells [.int .i64 (kk : Int), .int .i64 (p : Int), .int .i64 (cc : Int)] 3) :: H) x = some c → lk H' x = some c) ∧ ((lk H' (N 7) = some (.loop (N.r 7) .ready) ∧ lk H' (N 1) = some (.cells [.int .i64 (k0 : Int)] 1) ∧ lk H' (N 2) = some (.cells [.int .i64 0] 1) ∧ lk H' (N 3) = some (.cells [.int .i64 0] 1) ∧ lk H' (N 4) = some (.cells [.int .i64 0] 1) ∧ ¬ Lt k0 0 5 0) ∨ (lk H' (N 7) = some (.loop (N.r 7) (.done none)) ∧ lk H' (N 3) = some (.cells [.int .i64 (fr p h k0 0 : Int)] 1) ∧ lk H' (N 4) = some (.cells [.int .i64 0] 1))) := by
    rw [← hX]
    refine it17 (kk := kk) (cc := cc) (Own := fun x => x = N 7 ∨ x = N 1 ∨ x = N 2 ∨ x = N 3 ∨ x = N 4) (J := fun kx ox H' => lk H' (N 7) = some (.loop (N.r 7) .ready) ∧ lk H' (N 1) = some (.cells [.int .i64 (k0 : Int)] 1) ∧ lk H' (N 2) = some (.cells [.int .i64 0] 1) ∧ lk H' (N 3) = some (.cells [.int .i64 0] 1) ∧ lk H' (N 4) = some (.cells [.int .i64 0] 1) ∧ ¬ Lt k0 0 kx ox) (Jx := fun H' => lk H' (N 7) = some (.loop (N.r 7) (.done none)) ∧ lk H' (N 3) = some (.cells [.int .i64 (fr p h k0 0 : Int)] 1) ∧ lk H' (N 4) = some (.cells [.int .i64 0] 1)) hT ⟨?_, ?_, ?_, ?_⟩ hk hp hc hm' ?_ ?_ ?_ ?_ ?_
    · rintro k o H b ⟨h7, h1, h2, h3, h4, hx⟩ (rfl | rfl | rfl | rfl | rfl)
      · exact ⟨_, h7⟩
      · exact ⟨_, h1⟩
      · exact ⟨_, h2⟩
      · exact ⟨_, h3⟩
      · exact ⟨_, h4⟩
    · rintro k o H H' ⟨h7, h1, h2, h3, h4, hx⟩ g
      exact ⟨(g _ (by simp)).trans h7, (g _ (by simp)).trans h1, (g _ (by simp)).trans h2, (g _ (by simp)).trans h3, (g _ (by simp)).trans h4, hx⟩
    · rintro k H ⟨h7, h1, h2, h3, h4, hx⟩
      exact ⟨h7, h1, h2, h3, h4, nextLt ho0 hx⟩
    · rintro k o H N1 hk5 ho ⟨h7, h1, h2, h3, h4, hx⟩ hN1
      have hBo := hB
      obtain ⟨hB, hR, hI⟩ := gX hN1
      have hIo := beqN hN.1.1
      have b7 := hBo 7
      have r7 := rN b7
      have m7 := fun j => ne_good hN1 b7 h7 j
      have w7 := fun j => ne_good' hN1 b7 h7 j
      have b1 := hBo 1
      have r1 := rN b1
      have m1 := fun j => ne_good hN1 b1 h1 j
      have w1 := fun j => ne_good' hN1 b1 h1 j
      have b2 := hBo 2
      have r2 := rN b2
      have m2 := fun j => ne_good hN1 b2 h2 j
      have w2 := fun j => ne_good' hN1 b2 h2 j
      have b3 := hBo 3
      have r3 := rN b3
      have m3 := fun j => ne_good hN1 b3 h3 j
      have w3 := fun j => ne_good' hN1 b3 h3 j
      have b4 := hBo 4
      have r4 := rN b4
      have m4 := fun j => ne_good hN1 b4 h4 j
      have w4 := fun j => ne_good' hN1 b4 h4 j
      have hb := fr_bnd (k := k) (o := o) hp hh hk5 ho
      have hs : (fr p h k (o + 1) : Int) = (fr p h k o : Int) + (sz p h k : Int) := by rw [fr_succ]; omega
      simp only [wy_same, y_call]
      unfold pt
      by_cases hk' : k = k0
      · subst hk'
        by_cases ho' : o = 0
        · subst ho'
          simp (disch := omega) only [J7, itR_17, hB, hR, hI, e00, h7, b7, r7, m7, w7, h1, b1, r1, m1, w1, h2, b2, r2, m2, w2, h3, b3, r3, m3, w3, h4, b4, r4, m4, w4, hIo, all1, lenV, ress, res1, retV, Value.cells, newsV_s, seval, eV]
          refine ⟨false, _, _, rfl, good_set (k' := .loop (N.r 7) .busy) (good_set (k' := .loop (N.r 7) .ready) (good_new (good_up (k' := .cells [.int .i64 0] 1) (good_up (k' := .cells [.int .i64 0] 1) hN1 b3 h3) b4 ?_)) b7 ?_) b7 ?_, fun x hx c hc => ?_, fun h => (by cases h), fun _ => ?_⟩
          · simp (disch := omega) only [J7, itR_17, hB, hR, hI, e00, h7, b7, r7, m7, w7, h1, b1, r1, m1, w1, h2, b2, r2, m2, w2, h3, b3, r3, m3, w3, h4, b4, r4, m4, w4, hIo, all1, lenV, ress, res1, retV, Value.cells, newsV_s, seval, eV]
          · simp (disch := omega) only [J7, itR_17, hB, hR, hI, e00, h7, b7, r7, m7, w7, h1, b1, r1, m1, w1, h2, b2, r2, m2, w2, h3, b3, r3, m3, w3, h4, b4, r4, m4, w4, hIo, all1, lenV, ress, res1, retV, Value.cells, newsV_s, seval, eV]
          · simp (disch := omega) only [J7, itR_17, hB, hR, hI, e00, h7, b7, r7, m7, w7, h1, b1, r1, m1, w1, h2, b2, r2, m2, w2, h3, b3, r3, m3, w3, h4, b4, r4, m4, w4, hIo, all1, lenV, ress, res1, retV, Value.cells, newsV_s, seval, eV]
          · have xn := ne_of_lk hN1 hc 0
            have x7 := eqb (fun h : x = N 7 => hx (by simp [h]))
            have x1 := eqb (fun h : x = N 1 => hx (by simp [h]))
            have x2 := eqb (fun h : x = N 2 => hx (by simp [h]))
            have x3 := eqb (fun h : x = N 3 => hx (by simp [h]))
            have x4 := eqb (fun h : x = N 4 => hx (by simp [h]))
            simp (disch := omega) only [J7, itR_17, hB, hR, hI, xn, hc, x7, x1, x2, x3, x4, all1, lenV, ress, res1, retV, Value.cells, newsV_s, seval, eV]
          · refine ⟨?_, ?_, ?_⟩
            all_goals simp (disch := omega) only [J7, itR_17, hB, hR, hI, e00, h7, b7, r7, m7, w7, h1, b1, r1, m1, w1, h2, b2, r2, m2, w2, h3, b3, r3, m3, w3, h4, b4, r4, m4, w4, hIo, all1, lenV, ress, res1, retV, Value.cells, newsV_s, seval, eV]
        · have q2 : ((o : Int) == 0) = false := eqbI (by omega)
          simp (disch := omega) only [J7, itR_17, hB, hR, hI, e00, h7, b7, r7, m7, w7, h1, b1, r1, m1, w1, h2, b2, r2, m2, w2, h3, b3, r3, m3, w3, h4, b4, r4, m4, w4, hIo, q2, all1, lenV, ress, res1, retV, Value.cells, newsV_s, seval, eV]
          refine ⟨true, _, _, rfl, good_set (k' := .loop (N.r 7) .busy) (good_set (k' := .loop (N.r 7) .ready) (good_new hN1) b7 ?_) b7 ?_, fun x hx c hc => ?_, fun _ => ?_, fun h => (by cases h)⟩
          · simp (disch := omega) only [J7, itR_17, hB, hR, hI, e00, h7, b7, r7, m7, w7, h1, b1, r1, m1, w1, h2, b2, r2, m2, w2, h3, b3, r3, m3, w3, h4, b4, r4, m4, w4, hIo, all1, lenV, ress, res1, retV, Value.cells, newsV_s, seval, eV]
          · simp (disch := omega) only [J7, itR_17, hB, hR, hI, e00, h7, b7, r7, m7, w7, h1, b1, r1, m1, w1, h2, b2, r2, m2, w2, h3, b3, r3, m3, w3, h4, b4, r4, m4, w4, hIo, all1, lenV, ress, res1, retV, Value.cells, newsV_s, seval, eV]
          · have xn := ne_of_lk hN1 hc 0
            have x7 := eqb (fun h : x = N 7 => hx (by simp [h]))
            have x1 := eqb (fun h : x = N 1 => hx (by simp [h]))
            have x2 := eqb (fun h : x = N 2 => hx (by simp [h]))
            have x3 := eqb (fun h : x = N 3 => hx (by simp [h]))
            have x4 := eqb (fun h : x = N 4 => hx (by simp [h]))
            simp (disch := omega) only [J7, itR_17, hB, hR, hI, xn, hc, x7, x1, x2, x3, x4, all1, lenV, ress, res1, retV, Value.cells, newsV_s, seval, eV]
          · refine ⟨?_, ?_, ?_, ?_, ?_, by unfold Lt at *; omega⟩
            all_goals simp (disch := omega) only [J7, itR_17, hB, hR, hI, e00, h7, b7, r7, m7, w7, h1, b1, r1, m1, w1, h2, b2, r2, m2, w2, h3, b3, r3, m3, w3, h4, b4, r4, m4, w4, hIo, all1, lenV, ress, res1, retV, Value.cells, newsV_s, seval, eV]
      · have q1 : ((k : Int) == (k0 : Int)) = false := eqbI (by omega)
        simp (disch := omega) only [J7, itR_17, hB, hR, hI, e00, h7, b7, r7, m7, w7, h1, b1, r1, m1, w1, h2, b2, r2, m2, w2, h3, b3, r3, m3, w3, h4, b4, r4, m4, w4, hIo, q1, all1, lenV, ress, res1, retV, Value.cells, newsV_s, seval, eV]
        refine ⟨true, _, _, rfl, good_set (k' := .loop (N.r 7) .busy) (good_set (k' := .loop (N.r 7) .ready) (good_new hN1) b7 ?_) b7 ?_, fun x hx c hc => ?_, fun _ => ?_, fun h => (by cases h)⟩
        · simp (disch := omega) only [J7, itR_17, hB, hR, hI, e00, h7, b7, r7, m7, w7, h1, b1, r1, m1, w1, h2, b2, r2, m2, w2, h3, b3, r3, m3, w3, h4, b4, r4, m4, w4, hIo, all1, lenV, ress, res1, retV, Value.cells, newsV_s, seval, eV]
        · simp (disch := omega) only [J7, itR_17, hB, hR, hI, e00, h7, b7, r7, m7, w7, h1, b1, r1, m1, w1, h2, b2, r2, m2, w2, h3, b3, r3, m3, w3, h4, b4, r4, m4, w4, hIo, all1, lenV, ress, res1, retV, Value.cells, newsV_s, seval, eV]
        · have xn := ne_of_lk hN1 hc 0
          have x7 := eqb (fun h : x = N 7 => hx (by simp [h]))
          have x1 := eqb (fun h : x = N 1 => hx (by simp [h]))
          have x2 := eqb (fun h : x = N 2 => hx (by simp [h]))
          have x3 := eqb (fun h : x = N 3 => hx (by simp [h]))
          have x4 := eqb (fun h : x = N 4 => hx (by simp [h]))
          simp (disch := omega) only [J7, itR_17, hB, hR, hI, xn, hc, x7, x1, x2, x3, x4, all1, lenV, ress, res1, retV, Value.cells, newsV_s, seval, eV]
        · refine ⟨?_, ?_, ?_, ?_, ?_, by unfold Lt at *; omega⟩
          all_goals simp (disch := omega) only [J7, itR_17, hB, hR, hI, e00, h7, b7, r7, m7, w7, h1, b1, r1, m1, w1, h2, b2, r2, m2, w2, h3, b3, r3, m3, w3, h4, b4, r4, m4, w4, hIo, all1, lenV, ress, res1, retV, Value.cells, newsV_s, seval, eV]
    · rintro (h | h | h | h | h)
      all_goals { have g := hI 5; simp only [h, hI] at g; have g7 := g 7; have g1 := g 1; have g2 := g 2; have g3 := g 3; have g4 := g 4; simp [h] at g7 g1 g2 g3 g4 }
    · exact (good_new (good_new (good_new (good_new (good_new (good_new (good_new (good_new hN))))))))
    · simp (disch := omega) only [J7, itR_17, hB, hR, hI, all1, lenV, ress, res1, retV, Value.cells, newsV_s, seval, eV]
    · exact hB 5
    · refine ⟨?_, ?_, ?_, ?_, ?_, by unfold Lt; omega⟩
      all_goals simp (disch := omega) only [J7, itR_17, hB, hR, hI, e00, all1, lenV, ress, res1, retV, Value.cells, newsV_s, seval, eV]
  obtain ⟨v, H2, N2, rfl, g2, f2, ⟨h7, h1, h2, h3, h4, hx⟩ | ⟨h7, h3, h4⟩⟩ := hO
  · exact (hx (by unfold Lt; omega)).elim
  · have r3 := hR 3
    have r4 := hR 4
    simp (disch := omega) only [J7, itR_17, hB, hR, hI, e00, h7, h3, h4, all1, lenV, ress, res1, retV, Value.cells, newsV_s, seval, eV]
    refine ⟨_, _, rfl, ext_lk fun r x hr hx => ?_⟩
    have xn := ne_of_lk hN hx
    have q := f2 r (by
      rintro (rfl | rfl | rfl | rfl | rfl)
      all_goals simp [hI] at xn) x (by simp (disch := omega) only [xn, hx, e_loop, all1, lenV, ress, res1, retV, Value.cells, newsV_s, seval, eV])
    simp (disch := omega) only [J7, itR_17, hB, hR, hI, xn, q, all1, lenV, ress, res1, retV, Value.cells, newsV_s, seval, eV]
set_option maxHeartbeats 4000000 in
theorem f10c {B : OH} (hG : ∃ H N, good B H N) (hT : Tab B) {kk p cc h : Nat} (hk : 1 ≤ kk ∧ kk ≤ 5) (hp : 1 ≤ p ∧ p ≤ 16) (hc : 1 ≤ cc ∧ cc ≤ 256) (hm' : hm kk cc = (h : Int)) {k0 o0 : Nat} (hk0 : k0 < 5) (ho0 : o0 < mn p k0) (hne : k0 = 4) : F10 B [.agg #[.int .i64 (kk : Int), .int .i64 (p : Int), .int .i64 (cc : Int)], .int .i64 (k0 : Int), .int .i64 (o0 : Int)] = some (.tuple #[.int .i64 (fr p h k0 o0 : Int), .int .i64 0]) := by
  refine kval_eq hG fun H N hN => ?_
  obtain ⟨hB, hR, hI⟩ := gX hN
  have e13 := f13 hG kk p cc (by omega) (by omega) (by omega)
  have hh : 1 ≤ h ∧ h ≤ 1026 := by have := hm_bounds (k := kk) (c := cc) (by omega) (by omega); omega
  have hmn := mn_le (p := p) (k := k0) (by omega)
  have k1 : ¬ (k0 : Int) < 0 := by omega
  have k2 : ¬ (k0 : Int) > 4 := by omega
  have p1 : ¬ (o0 : Int) < 0 := by omega
  have p2 : ¬ (o0 : Int) ≥ (p : Int) := by omega
  have e0 : ((k0 : Int) == 0) = false := eqbI (by omega)
  have e4 : ((k0 : Int) == 4) = true := by rw [hne]; rfl
  obtain rfl : o0 = 0 := by subst hne; simpa [mn] using ho0
  have e00 : ((0 : Nat) : Int) = 0 := rfl
  have p2 : ¬ 0 ≥ (p : Int) := by omega
  simp (disch := omega) only [J7, itR_17, hB, hR, hI, e13, k1, k2, p1, p2, e0, e4, e00, all1, lenV, ress, res1, retV, Value.cells, newsV_s, seval, eV]
  generalize hX : I17 B _ _ _ _ = o
  have hO : ∃ v H' N', o = some (.ret v, H', N') ∧ good B H' N' ∧ (∀ x, ¬ (x = N 7 ∨ x = N 1 ∨ x = N 2 ∨ x = N 3 ∨ x = N 4) → ∀ c, lk ((N.n 7, KB.loop (N.r 7) LSt.ready) :: (N.n 6, KB.dfr) :: (N.n 5, KB.cells [.int .i64 (kk : Int), .int .i64 (p : Int), .int .i64 (cc : Int)] 3) :: (N.n 4, KB.cells [.int .i64 0] 1) :: (N.n 3, KB.cells [.int .i64 0] 1) :: (N.n 2, KB.cells [.int .i64 0] 1) :: (N.n 1, KB.cells [.int .i64 (k0 : Int)] 1) :: (N.n 0, KB.cells [.int .i64 (kk : Int), .int .i64 (p : Int), .int .i64 (cc : Int)] 3) :: H) x = some c → lk H' x = some c) ∧ ((lk H' (N 7) = some (.loop (N.r 7) .ready) ∧ lk H' (N 1) = some (.cells [.int .i64 (k0 : Int)] 1) ∧ lk H' (N 2) = some (.cells [.int .i64 0] 1) ∧ lk H' (N 3) = some (.cells [.int .i64 0] 1) ∧ lk H' (N 4) = some (.cells [.int .i64 0] 1) ∧ ¬ Lt k0 0 5 0) ∨ (lk H' (N 7) = some (.loop (N.r 7) (.done none)) ∧ lk H' (N 3) = some (.cells [.int .i64 (fr p h k0 0 : Int)] 1) ∧ lk H' (N 4) = some (.cells [.int .i64 0] 1))) := by
    rw [← hX]
    refine it17 (kk := kk) (cc := cc) (Own := fun x => x = N 7 ∨ x = N 1 ∨ x = N 2 ∨ x = N 3 ∨ x = N 4) (J := fun kx ox H' => lk H' (N 7) = some (.loop (N.r 7) .ready) ∧ lk H' (N 1) = some (.cells [.int .i64 (k0 : Int)] 1) ∧ lk H' (N 2) = some (.cells [.int .i64 0] 1) ∧ lk H' (N 3) = some (.cells [.int .i64 0] 1) ∧ lk H' (N 4) = some (.cells [.int .i64 0] 1) ∧ ¬ Lt k0 0 kx ox) (Jx := fun H' => lk H' (N 7) = some (.loop (N.r 7) (.done none)) ∧ lk H' (N 3) = some (.cells [.int .i64 (fr p h k0 0 : Int)] 1) ∧ lk H' (N 4) = some (.cells [.int .i64 0] 1)) hT ⟨?_, ?_, ?_, ?_⟩ hk hp hc hm' ?_ ?_ ?_ ?_ ?_
    · rintro k o H b ⟨h7, h1, h2, h3, h4, hx⟩ (rfl | rfl | rfl | rfl | rfl)
      · exact ⟨_, h7⟩
      · exact ⟨_, h1⟩
      · exact ⟨_, h2⟩
      · exact ⟨_, h3⟩
      · exact ⟨_, h4⟩
    · rintro k o H H' ⟨h7, h1, h2, h3, h4, hx⟩ g
      exact ⟨(g _ (by simp)).trans h7, (g _ (by simp)).trans h1, (g _ (by simp)).trans h2, (g _ (by simp)).trans h3, (g _ (by simp)).trans h4, hx⟩
    · rintro k H ⟨h7, h1, h2, h3, h4, hx⟩
      exact ⟨h7, h1, h2, h3, h4, nextLt ho0 hx⟩
    · rintro k o H N1 hk5 ho ⟨h7, h1, h2, h3, h4, hx⟩ hN1
      have hBo := hB
      obtain ⟨hB, hR, hI⟩ := gX hN1
      have hIo := beqN hN.1.1
      have b7 := hBo 7
      have r7 := rN b7
      have m7 := fun j => ne_good hN1 b7 h7 j
      have w7 := fun j => ne_good' hN1 b7 h7 j
      have b1 := hBo 1
      have r1 := rN b1
      have m1 := fun j => ne_good hN1 b1 h1 j
      have w1 := fun j => ne_good' hN1 b1 h1 j
      have b2 := hBo 2
      have r2 := rN b2
      have m2 := fun j => ne_good hN1 b2 h2 j
      have w2 := fun j => ne_good' hN1 b2 h2 j
      have b3 := hBo 3
      have r3 := rN b3
      have m3 := fun j => ne_good hN1 b3 h3 j
      have w3 := fun j => ne_good' hN1 b3 h3 j
      have b4 := hBo 4
      have r4 := rN b4
      have m4 := fun j => ne_good hN1 b4 h4 j
      have w4 := fun j => ne_good' hN1 b4 h4 j
      have hb := fr_bnd (k := k) (o := o) hp hh hk5 ho
      have hs : (fr p h k (o + 1) : Int) = (fr p h k o : Int) + (sz p h k : Int) := by rw [fr_succ]; omega
      simp only [wy_same, y_call]
      unfold pt
      by_cases hk' : k = k0
      · subst hk'
        by_cases ho' : o = 0
        · subst ho'
          simp (disch := omega) only [J7, itR_17, hB, hR, hI, e00, h7, b7, r7, m7, w7, h1, b1, r1, m1, w1, h2, b2, r2, m2, w2, h3, b3, r3, m3, w3, h4, b4, r4, m4, w4, hIo, all1, lenV, ress, res1, retV, Value.cells, newsV_s, seval, eV]
          refine ⟨false, _, _, rfl, good_set (k' := .loop (N.r 7) .busy) (good_set (k' := .loop (N.r 7) .ready) (good_new (good_up (k' := .cells [.int .i64 0] 1) (good_up (k' := .cells [.int .i64 0] 1) hN1 b3 h3) b4 ?_)) b7 ?_) b7 ?_, fun x hx c hc => ?_, fun h => (by cases h), fun _ => ?_⟩
          · simp (disch := omega) only [J7, itR_17, hB, hR, hI, e00, h7, b7, r7, m7, w7, h1, b1, r1, m1, w1, h2, b2, r2, m2, w2, h3, b3, r3, m3, w3, h4, b4, r4, m4, w4, hIo, all1, lenV, ress, res1, retV, Value.cells, newsV_s, seval, eV]
          · simp (disch := omega) only [J7, itR_17, hB, hR, hI, e00, h7, b7, r7, m7, w7, h1, b1, r1, m1, w1, h2, b2, r2, m2, w2, h3, b3, r3, m3, w3, h4, b4, r4, m4, w4, hIo, all1, lenV, ress, res1, retV, Value.cells, newsV_s, seval, eV]
          · simp (disch := omega) only [J7, itR_17, hB, hR, hI, e00, h7, b7, r7, m7, w7, h1, b1, r1, m1, w1, h2, b2, r2, m2, w2, h3, b3, r3, m3, w3, h4, b4, r4, m4, w4, hIo, all1, lenV, ress, res1, retV, Value.cells, newsV_s, seval, eV]
          · have xn := ne_of_lk hN1 hc 0
            have x7 := eqb (fun h : x = N 7 => hx (by simp [h]))
            have x1 := eqb (fun h : x = N 1 => hx (by simp [h]))
            have x2 := eqb (fun h : x = N 2 => hx (by simp [h]))
            have x3 := eqb (fun h : x = N 3 => hx (by simp [h]))
            have x4 := eqb (fun h : x = N 4 => hx (by simp [h]))
            simp (disch := omega) only [J7, itR_17, hB, hR, hI, xn, hc, x7, x1, x2, x3, x4, all1, lenV, ress, res1, retV, Value.cells, newsV_s, seval, eV]
          · refine ⟨?_, ?_, ?_⟩
            all_goals simp (disch := omega) only [J7, itR_17, hB, hR, hI, e00, h7, b7, r7, m7, w7, h1, b1, r1, m1, w1, h2, b2, r2, m2, w2, h3, b3, r3, m3, w3, h4, b4, r4, m4, w4, hIo, all1, lenV, ress, res1, retV, Value.cells, newsV_s, seval, eV]
        · have q2 : ((o : Int) == 0) = false := eqbI (by omega)
          simp (disch := omega) only [J7, itR_17, hB, hR, hI, e00, h7, b7, r7, m7, w7, h1, b1, r1, m1, w1, h2, b2, r2, m2, w2, h3, b3, r3, m3, w3, h4, b4, r4, m4, w4, hIo, q2, all1, lenV, ress, res1, retV, Value.cells, newsV_s, seval, eV]
          refine ⟨true, _, _, rfl, good_set (k' := .loop (N.r 7) .busy) (good_set (k' := .loop (N.r 7) .ready) (good_new hN1) b7 ?_) b7 ?_, fun x hx c hc => ?_, fun _ => ?_, fun h => (by cases h)⟩
          · simp (disch := omega) only [J7, itR_17, hB, hR, hI, e00, h7, b7, r7, m7, w7, h1, b1, r1, m1, w1, h2, b2, r2, m2, w2, h3, b3, r3, m3, w3, h4, b4, r4, m4, w4, hIo, all1, lenV, ress, res1, retV, Value.cells, newsV_s, seval, eV]
          · simp (disch := omega) only [J7, itR_17, hB, hR, hI, e00, h7, b7, r7, m7, w7, h1, b1, r1, m1, w1, h2, b2, r2, m2, w2, h3, b3, r3, m3, w3, h4, b4, r4, m4, w4, hIo, all1, lenV, ress, res1, retV, Value.cells, newsV_s, seval, eV]
          · have xn := ne_of_lk hN1 hc 0
            have x7 := eqb (fun h : x = N 7 => hx (by simp [h]))
            have x1 := eqb (fun h : x = N 1 => hx (by simp [h]))
            have x2 := eqb (fun h : x = N 2 => hx (by simp [h]))
            have x3 := eqb (fun h : x = N 3 => hx (by simp [h]))
            have x4 := eqb (fun h : x = N 4 => hx (by simp [h]))
            simp (disch := omega) only [J7, itR_17, hB, hR, hI, xn, hc, x7, x1, x2, x3, x4, all1, lenV, ress, res1, retV, Value.cells, newsV_s, seval, eV]
          · refine ⟨?_, ?_, ?_, ?_, ?_, by unfold Lt at *; omega⟩
            all_goals simp (disch := omega) only [J7, itR_17, hB, hR, hI, e00, h7, b7, r7, m7, w7, h1, b1, r1, m1, w1, h2, b2, r2, m2, w2, h3, b3, r3, m3, w3, h4, b4, r4, m4, w4, hIo, all1, lenV, ress, res1, retV, Value.cells, newsV_s, seval, eV]
      · have q1 : ((k : Int) == (k0 : Int)) = false := eqbI (by omega)
        simp (disch := omega) only [J7, itR_17, hB, hR, hI, e00, h7, b7, r7, m7, w7, h1, b1, r1, m1, w1, h2, b2, r2, m2, w2, h3, b3, r3, m3, w3, h4, b4, r4, m4, w4, hIo, q1, all1, lenV, ress, res1, retV, Value.cells, newsV_s, seval, eV]
        refine ⟨true, _, _, rfl, good_set (k' := .loop (N.r 7) .busy) (good_set (k' := .loop (N.r 7) .ready) (good_new hN1) b7 ?_) b7 ?_, fun x hx c hc => ?_, fun _ => ?_, fun h => (by cases h)⟩
        · simp (disch := omega) only [J7, itR_17, hB, hR, hI, e00, h7, b7, r7, m7, w7, h1, b1, r1, m1, w1, h2, b2, r2, m2, w2, h3, b3, r3, m3, w3, h4, b4, r4, m4, w4, hIo, all1, lenV, ress, res1, retV, Value.cells, newsV_s, seval, eV]
        · simp (disch := omega) only [J7, itR_17, hB, hR, hI, e00, h7, b7, r7, m7, w7, h1, b1, r1, m1, w1, h2, b2, r2, m2, w2, h3, b3, r3, m3, w3, h4, b4, r4, m4, w4, hIo, all1, lenV, ress, res1, retV, Value.cells, newsV_s, seval, eV]
        · have xn := ne_of_lk hN1 hc 0
          have x7 := eqb (fun h : x = N 7 => hx (by simp [h]))
          have x1 := eqb (fun h : x = N 1 => hx (by simp [h]))
          have x2 := eqb (fun h : x = N 2 => hx (by simp [h]))
          have x3 := eqb (fun h : x = N 3 => hx (by simp [h]))
          have x4 := eqb (fun h : x = N 4 => hx (by simp [h]))
          simp (disch := omega) only [J7, itR_17, hB, hR, hI, xn, hc, x7, x1, x2, x3, x4, all1, lenV, ress, res1, retV, Value.cells, newsV_s, seval, eV]
        · refine ⟨?_, ?_, ?_, ?_, ?_, by unfold Lt at *; omega⟩
          all_goals simp (disch := omega) only [J7, itR_17, hB, hR, hI, e00, h7, b7, r7, m7, w7, h1, b1, r1, m1, w1, h2, b2, r2, m2, w2, h3, b3, r3, m3, w3, h4, b4, r4, m4, w4, hIo, all1, lenV, ress, res1, retV, Value.cells, newsV_s, seval, eV]
    · rintro (h | h | h | h | h)
      all_goals { have g := hI 5; simp only [h, hI] at g; have g7 := g 7; have g1 := g 1; have g2 := g 2; have g3 := g 3; have g4 := g 4; simp [h] at g7 g1 g2 g3 g4 }
    · exact (good_new (good_new (good_new (good_new (good_new (good_new (good_new (good_new hN))))))))
    · simp (disch := omega) only [J7, itR_17, hB, hR, hI, all1, lenV, ress, res1, retV, Value.cells, newsV_s, seval, eV]
    · exact hB 5
    · refine ⟨?_, ?_, ?_, ?_, ?_, by unfold Lt; omega⟩
      all_goals simp (disch := omega) only [J7, itR_17, hB, hR, hI, e00, all1, lenV, ress, res1, retV, Value.cells, newsV_s, seval, eV]
  obtain ⟨v, H2, N2, rfl, g2, f2, ⟨h7, h1, h2, h3, h4, hx⟩ | ⟨h7, h3, h4⟩⟩ := hO
  · exact (hx (by unfold Lt; omega)).elim
  · have r3 := hR 3
    have r4 := hR 4
    simp (disch := omega) only [J7, itR_17, hB, hR, hI, e00, h7, h3, h4, all1, lenV, ress, res1, retV, Value.cells, newsV_s, seval, eV]
    refine ⟨_, _, rfl, ext_lk fun r x hr hx => ?_⟩
    have xn := ne_of_lk hN hx
    have q := f2 r (by
      rintro (rfl | rfl | rfl | rfl | rfl)
      all_goals simp [hI] at xn) x (by simp (disch := omega) only [xn, hx, e_loop, all1, lenV, ress, res1, retV, Value.cells, newsV_s, seval, eV])
    simp (disch := omega) only [J7, itR_17, hB, hR, hI, xn, q, all1, lenV, ress, res1, retV, Value.cells, newsV_s, seval, eV]
set_option maxHeartbeats 400000 in
theorem f10 {B : OH} (hG : ∃ H N, good B H N) (hT : Tab B) {kk p cc h : Nat} (hk : 1 ≤ kk ∧ kk ≤ 5) (hp : 1 ≤ p ∧ p ≤ 16) (hc : 1 ≤ cc ∧ cc ≤ 256) (hm' : hm kk cc = (h : Int)) {k0 o0 : Nat} (hk0 : k0 < 5) (ho0 : o0 < mn p k0)  : F10 B [.agg #[.int .i64 (kk : Int), .int .i64 (p : Int), .int .i64 (cc : Int)], .int .i64 (k0 : Int), .int .i64 (o0 : Int)] = some (.tuple #[.int .i64 (fr p h k0 o0 : Int), .int .i64 0]) := by
  by_cases h0 : k0 = 0
  · exact f10b hG hT hk hp hc hm' hk0 ho0 h0
  · by_cases h4 : k0 = 4
    · exact f10c hG hT hk hp hc hm' hk0 ho0 h4
    · exact f10a hG hT hk hp hc hm' hk0 ho0 ⟨h0, h4⟩
end Go.Proofs.YtfhiplfagejfoaaDoor
