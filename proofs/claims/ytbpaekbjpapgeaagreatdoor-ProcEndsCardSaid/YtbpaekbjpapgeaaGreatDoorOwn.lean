/- Own text: the parts of memory; the run of the example is the program's. -/
import Derived.Test.YtbpaekbjpapgeaaGreatDoorCc
import Derived.Test.YtbpaekbjpapgeaaGreatDoorChecked
set_option linter.unusedSimpArgs false
set_option linter.unusedVariables false
namespace Go.Proofs.YtbpaekbjpapgeaaGreatDoor
def hm (k c : Int) : Int := if k = 1 then 1 else if k = 2 then 1 + 2 * c else if k = 3 then 1 + 4 * c else if k = 4 then 2 + 4 * c else 9 + c
def sz (p h : Nat) : Nat → Nat
  | 0 => 1
  | 1 => 3
  | 2 => 2
  | 3 => 1 + 2 * (h + 2 * p)
  | _ => h
def mn (p : Nat) : Nat → Nat
  | 0 => 1
  | 1 => p
  | 2 => p
  | 3 => p
  | _ => 1
def bs (p h : Nat) : Nat → Nat
  | 0 => 0
  | k + 1 => bs p h k + sz p h k * mn p k
def fr (p h k o : Nat) : Nat := bs p h k + sz p h k * o
def Lt (k o k' o' : Nat) : Prop := k < k' ∨ (k = k' ∧ o < o')
theorem fr_zero {p h k} : fr p h k 0 = bs p h k := by simp [fr]
theorem fr_succ {p h k o} : fr p h k (o + 1) = fr p h k o + sz p h k := by unfold fr; rw [Nat.mul_succ]; omega
theorem fr_next {p h k} : fr p h (k + 1) 0 = fr p h k (mn p k) := by simp [fr, bs]
theorem fr_mono {p h k o o'} (ho : o ≤ o') : fr p h k o ≤ fr p h k o' := by
  unfold fr; have := Nat.mul_le_mul_left (sz p h k) ho; omega
theorem bs_mono {p h k k'} (hk : k ≤ k') : bs p h k ≤ bs p h k' := by
  induction hk with
  | refl => exact Nat.le_refl _
  | step _ ih => exact Nat.le_trans ih (Nat.le_add_right _ _)
theorem fr_lt {p h k o k' o' : Nat} (ho : o < mn p k) (h' : Lt k o k' o') : fr p h k o + sz p h k ≤ fr p h k' o' := by
  rw [← fr_succ]
  rcases h' with hk | ⟨rfl, hk⟩
  · refine Nat.le_trans (fr_mono (o' := mn p k) (by omega)) ?_
    rw [← fr_next, fr_zero]
    exact Nat.le_trans (bs_mono (by omega)) (Nat.le_add_right _ _)
  · exact fr_mono (by omega)
theorem sz_pos {p h k : Nat} (hh : 0 < h) : 0 < sz p h k := by
  unfold sz; split <;> omega
theorem mn_le {p k : Nat} (hp : 0 < p) : mn p k ≤ p := by
  unfold mn; split <;> omega
theorem sz_le {p h k : Nat} (hp : p ≤ 16) (hh : h ≤ 1026) : sz p h k ≤ 2117 := by
  unfold sz; split <;> omega
theorem bs_le {p h : Nat} (hp0 : 0 < p) (hp : p ≤ 16) (hh : h ≤ 1026) : ∀ k, bs p h k ≤ 33872 * k
  | 0 => by simp [bs]
  | k + 1 => by
    have h1 := bs_le hp0 hp hh k
    have h2 : sz p h k * mn p k ≤ 2117 * 16 := Nat.mul_le_mul (sz_le hp hh) (Nat.le_trans (mn_le hp0) hp)
    simp only [bs]; omega
theorem has_part {p h at' : Nat} (hh : 0 < h) : ∀ n, at' < bs p h n → ∃ k o, k < n ∧ o < mn p k ∧ fr p h k o ≤ at' ∧ at' < fr p h k o + sz p h k := by
  intro n
  induction n with
  | zero => intro h0; simp [bs] at h0
  | succ n ih =>
    intro h0
    by_cases hb : at' < bs p h n
    · obtain ⟨k, o, h1, h2⟩ := ih hb
      exact ⟨k, o, by omega, h2⟩
    · have hs := sz_pos (p := p) (k := n) hh
      simp only [bs] at h0
      refine ⟨n, (at' - bs p h n) / sz p h n, by omega, (Nat.div_lt_iff_lt_mul hs).2 (by rw [Nat.mul_comm]; omega), ?_, ?_⟩
      · have := Nat.mul_div_le (at' - bs p h n) (sz p h n)
        unfold fr; omega
      · have := Nat.lt_mul_div_succ (at' - bs p h n) hs
        rw [Nat.mul_succ] at this
        unfold fr; omega
theorem hm_bounds {k c : Int} (hk : 1 ≤ k ∧ k ≤ 5) (hc : 1 ≤ c ∧ c ≤ 256) : 1 ≤ hm k c ∧ hm k c ≤ 1026 := by
  unfold hm; repeat' split
  all_goals omega
def pk (x n : Int) : Int := (if x < 0 then -(x + 1) else x).tmod n
theorem pk_b {x n : Int} (hn : 0 < n) : 0 ≤ pk x n ∧ pk x n < n := by
  unfold pk
  split
  · exact ⟨Int.tmod_nonneg _ (by omega), Int.tmod_lt_of_pos _ hn⟩
  · exact ⟨Int.tmod_nonneg _ (by omega), Int.tmod_lt_of_pos _ hn⟩
end Go.Proofs.YtbpaekbjpapgeaaGreatDoor
namespace Go.Proofs.YtbpaekbjpapgeaaGreatDoor
open Go.Proofs.YtbpaekbjpapgeaaGreatDoor.K Go.ChangeShapes Go.WideShapes Go.ChangeAt Go.RowKit 
set_option maxRecDepth 100000
set_option linter.unusedSimpArgs false
set_option linter.unusedVariables false
theorem mixedOrders : Tryz.prog.follows .mixedOrders = true := by kernel_rfl
def OBJ : List Value := [.int .i64 0, .int .i64 0, .int .i64 1, .int .i64 0, .int .i64 1, .int .i64 2, .int .i64 1, .int .i64 4, .int .i64 2, .int .i64 4, .int .i64 9, .int .i64 1]
def Tab (B : OH) : Prop := ∀ i : Nat, i < 6 → rdB B 0 (i * 2) 2 = tk OBJ (i * 2) 2
def L13 : FnL := ⟨(.seq (.ops [⟨(some 1), .box (.tmp 0), none⟩, ⟨(some 2), .mv (.const (.bool false)), none⟩])
 (.seq (.ops [⟨(some 3), .faddr 0 (.tmp 1), none⟩, ⟨(some 4), .load false 1 (.tmp 3), none⟩, ⟨(some 5), .bin .geq (.tmp 4) (.const (.int .i64 1)), none⟩, ⟨(some 6), .mv (.tmp 5), none⟩, ⟨(some 7), .faddr 0 (.tmp 1), (some (6, true))⟩, ⟨(some 8), .load false 1 (.tmp 7), (some (6, true))⟩, ⟨(some 9), .bin .lss (.tmp 8) (.const (.int .i64 6)), (some (6, true))⟩, ⟨(some 10), .pick (.tmp 6) (.tmp 9) (.const (.bool false)), none⟩, ⟨(some 11), .mv (.tmp 10), none⟩, ⟨(some 12), .faddr 1 (.tmp 1), (some (11, true))⟩, ⟨(some 13), .load false 1 (.tmp 12), (some (11, true))⟩, ⟨(some 14), .bin .geq (.tmp 13) (.const (.int .i64 1)), (some (11, true))⟩, ⟨(some 15), .pick (.tmp 11) (.tmp 14) (.const (.bool false)), none⟩, ⟨(some 16), .mv (.tmp 15), none⟩, ⟨(some 17), .faddr 1 (.tmp 1), (some (16, true))⟩, ⟨(some 18), .load false 1 (.tmp 17), (some (16, true))⟩, ⟨(some 19), .bin .leq (.tmp 18) (.const (.int .i64 16)), (some (16, true))⟩, ⟨(some 20), .pick (.tmp 16) (.tmp 19) (.const (.bool false)), none⟩, ⟨(some 21), .mv (.tmp 20), none⟩, ⟨(some 22), .faddr 2 (.tmp 1), (some (21, true))⟩, ⟨(some 23), .load false 1 (.tmp 22), (some (21, true))⟩, ⟨(some 24), .bin .geq (.tmp 23) (.const (.int .i64 1)), (some (21, true))⟩, ⟨(some 25), .pick (.tmp 21) (.tmp 24) (.const (.bool false)), none⟩, ⟨(some 26), .mv (.tmp 25), none⟩, ⟨(some 27), .faddr 2 (.tmp 1), (some (26, true))⟩, ⟨(some 28), .load false 1 (.tmp 27), (some (26, true))⟩, ⟨(some 29), .bin .leq (.tmp 28) (.const (.int .i64 256)), (some (26, true))⟩, ⟨(some 30), .pick (.tmp 26) (.tmp 29) (.const (.bool false)), none⟩, ⟨(some 2), .mv (.tmp 30), none⟩])
 .ret)),
 31, [.tmp 2]⟩
theorem low13 : lowerFn Tryz.prog Tryz.f34 = some L13 := by kernel_rfl
noncomputable def G13 (B : OH) : Nat → Cs
  | _ => fun _ _ _ => none
theorem sG13 {w0 : World} {B : OH} : SoundG Tryz.prog w0 B { f := G13 B } := .of fun k => by
  unfold G13
  split
  · exact .inl fun _ _ _ => rfl
theorem en13 : Enter Tryz.prog 34 := .of Tryz.func34 (by kernel_rfl) (by kernel_rfl)
noncomputable def T13 (B : OH) : Cs := callF B { f := G13 B } 80 L13
theorem sT13 {w0 : World} {B : OH} : SoundC Tryz.prog w0 B 34 (T13 B) := callF_sound mixedOrders sG13 80 Tryz.func34 low13
noncomputable def F13 (B : OH) : List Value → Option Value := kval B (T13 B)
noncomputable def V13 (B : OH) : Cs := fun a H N => pvE (F13 B a) H N
theorem V13_eq {B : OH} {a : List Value} {H : HL} {N : St} : V13 B a H N = pvE (F13 B a) H N := rfl
theorem sV13 {w0 : World} {B : OH} : SoundC Tryz.prog w0 B 34 (V13 B) := sT13.ofVal
theorem f13 {B : OH} (hG : ∃ H N, good B H N) (k p c : Int) (hk : 1 ≤ k ∧ k ≤ 5) (hp : 1 ≤ p ∧ p ≤ 16) (hc : 1 ≤ c ∧ c ≤ 256) : F13 B [.agg #[.int .i64 k, .int .i64 p, .int .i64 c]] = some (.bool true) := by
  refine kval_eq hG fun H N hN => ?_
  have hB := good_B hN
  have hR := good_rdB hN
  have hI := beqN hN.1.1
  have k1 : k ≥ 1 := hk.1
  have k2 : k < 6 := by omega
  have p1 : p ≥ 1 := hp.1
  have p2 : p ≤ 16 := hp.2
  have c1 : c ≥ 1 := hc.1
  have c2 : c ≤ 256 := hc.2
  simp (disch := omega) only [T13, L13, hB, hR, hI, k1, k2, p1, p2, c1, c2, e_loop, all1, lenV, ress, res1, retV, Value.cells, newsV_s, e_fork, slcV, seval, eV]
  with_reducible refine done2 ?_
  repeat (first | refine ext_new hN ?_ | exact fun _ _ h => h)
def L12 : FnL := ⟨(.seq (.ops [⟨(some 1), .box (.tmp 0), none⟩, ⟨(some 2), .mv (.const (.int .i64 0)), none⟩])
 (.seq (.seq (.ops [⟨(some 4), .load true 3 (.tmp 1), none⟩, ⟨(some 5), .call (.func 34) [(.tmp 4)], none⟩, ⟨(some 6), .un .not (.tmp 5), none⟩])
 (.cond (.tmp 6) (.seq (.ops [⟨(some 2), .mv (.const (.int .i64 0)), none⟩])
 .ret)
 .skip))
 (.seq (.ops [⟨(some 7), .faddr 0 (.tmp 1), none⟩, ⟨(some 8), .load false 1 (.tmp 7), none⟩, ⟨(some 9), .iaddrA 2 6 (.global 0) (.tmp 8), none⟩, ⟨(some 10), .load true 2 (.tmp 9), none⟩, ⟨(some 3), .alloc [(.int .i64 0), (.int .i64 0)], none⟩, ⟨none, .store 2 (.tmp 3) (.tmp 10), none⟩])
 (.seq (.ops [⟨(some 11), .faddr 0 (.tmp 3), none⟩, ⟨(some 12), .load false 1 (.tmp 11), none⟩, ⟨(some 13), .faddr 1 (.tmp 3), none⟩, ⟨(some 14), .load false 1 (.tmp 13), none⟩, ⟨(some 15), .faddr 2 (.tmp 1), none⟩, ⟨(some 16), .load false 1 (.tmp 15), none⟩, ⟨(some 17), .bin .mul (.tmp 14) (.tmp 16), none⟩, ⟨(some 18), .bin .add (.tmp 12) (.tmp 17), none⟩, ⟨(some 2), .mv (.tmp 18), none⟩])
 .ret)))),
 19, [.tmp 2]⟩
theorem low12 : lowerFn Tryz.prog Tryz.f125 = some L12 := by kernel_rfl
noncomputable def G12 (B : OH) : Nat → Cs
  | 34 => V13 B
  | _ => fun _ _ _ => none
theorem G12_13 {B : OH} : G12 B 34 = V13 B := rfl
theorem sG12 {w0 : World} {B : OH} : SoundG Tryz.prog w0 B { f := G12 B } := .of fun k => by
  unfold G12
  split
  · exact .inr ⟨en13, sV13⟩
  · exact .inl fun _ _ _ => rfl
theorem en12 : Enter Tryz.prog 125 := .of Tryz.func125 (by kernel_rfl) (by kernel_rfl)
noncomputable def T12 (B : OH) : Cs := callF B { f := G12 B } 80 L12
theorem sT12 {w0 : World} {B : OH} : SoundC Tryz.prog w0 B 125 (T12 B) := callF_sound mixedOrders sG12 80 Tryz.func125 low12
noncomputable def F12 (B : OH) : List Value → Option Value := kval B (T12 B)
noncomputable def V12 (B : OH) : Cs := fun a H N => pvE (F12 B a) H N
theorem V12_eq {B : OH} {a : List Value} {H : HL} {N : St} : V12 B a H N = pvE (F12 B a) H N := rfl
theorem sV12 {w0 : World} {B : OH} : SoundC Tryz.prog w0 B 125 (V12 B) := sT12.ofVal
set_option maxHeartbeats 1000000 in
theorem f12 {B : OH} (hG : ∃ H N, good B H N) (hT : Tab B) (k p c : Int) (hk : 1 ≤ k ∧ k ≤ 5) (hp : 1 ≤ p ∧ p ≤ 16) (hc : 1 ≤ c ∧ c ≤ 256) : F12 B [.agg #[.int .i64 k, .int .i64 p, .int .i64 c]] = some (.int .i64 (hm k c)) := by
  refine kval_eq hG fun H N hN => ?_
  have hB := good_B hN
  have hR := good_rdB hN
  have hI := beqN hN.1.1
  have e13 := f13 hG k p c hk hp hc
  obtain rfl | rfl | rfl | rfl | rfl : k = 1 ∨ k = 2 ∨ k = 3 ∨ k = 4 ∨ k = 5 := by omega
  · have ht : rdB B 0 2 2 = some [.int .i64 1, .int .i64 0] := hT 1 (by omega)
    have hw : IntKind.i64.wrap (0 * c) = 0 := by rw [Int.zero_mul]; rfl
    simp (disch := omega) only [T12, L12, G12_13, V13_eq, hB, hR, hI, e13, ht, hw, hm, e_loop, all1, lenV, ress, res1, retV, Value.cells, newsV_s, e_fork, slcV, seval, eV]
    with_reducible refine done2 ?_
    repeat (first | refine ext_new hN ?_ | exact fun _ _ h => h)
  · have ht : rdB B 0 4 2 = some [.int .i64 1, .int .i64 2] := hT 2 (by omega)
    simp (disch := omega) only [T12, L12, G12_13, V13_eq, hB, hR, hI, e13, ht, hm, e_loop, all1, lenV, ress, res1, retV, Value.cells, newsV_s, e_fork, slcV, seval, eV]
    with_reducible refine done2 ?_
    repeat (first | refine ext_new hN ?_ | exact fun _ _ h => h)
  · have ht : rdB B 0 6 2 = some [.int .i64 1, .int .i64 4] := hT 3 (by omega)
    simp (disch := omega) only [T12, L12, G12_13, V13_eq, hB, hR, hI, e13, ht, hm, e_loop, all1, lenV, ress, res1, retV, Value.cells, newsV_s, e_fork, slcV, seval, eV]
    with_reducible refine done2 ?_
    repeat (first | refine ext_new hN ?_ | exact fun _ _ h => h)
  · have ht : rdB B 0 8 2 = some [.int .i64 2, .int .i64 4] := hT 4 (by omega)
    simp (disch := omega) only [T12, L12, G12_13, V13_eq, hB, hR, hI, e13, ht, hm, e_loop, all1, lenV, ress, res1, retV, Value.cells, newsV_s, e_fork, slcV, seval, eV]
    with_reducible refine done2 ?_
    repeat (first | refine ext_new hN ?_ | exact fun _ _ h => h)
  · have ht : rdB B 0 10 2 = some [.int .i64 9, .int .i64 1] := hT 5 (by omega)
    have hw : IntKind.i64.wrap (1 * c) = c := by rw [Int.one_mul]; exact IntWalk.i64_in _ (by omega)
    simp (disch := omega) only [T12, L12, G12_13, V13_eq, hB, hR, hI, e13, ht, hw, hm, e_loop, all1, lenV, ress, res1, retV, Value.cells, newsV_s, e_fork, slcV, seval, eV]
    with_reducible refine done2 ?_
    repeat (first | refine ext_new hN ?_ | exact fun _ _ h => h)
def L16 : FnL := ⟨(.seq (.ops [⟨(some 1), .box (.tmp 0), none⟩, ⟨(some 2), .mv (.const (.int .i64 0)), none⟩])
 (.seq (.draw [⟨⟨(some 3), .load true 3 (.tmp 1), none⟩, []⟩, ⟨⟨(some 5), .faddr 1 (.tmp 1), none⟩, []⟩, ⟨⟨(some 6), .load false 1 (.tmp 5), none⟩, []⟩, ⟨⟨(some 7), .bin .mul (.const (.int .i64 2)) (.tmp 6), none⟩, []⟩, ⟨⟨(some 4), .call (.func 125) [(.tmp 3)], none⟩, [⟨(some 6), .load false 1 (.tmp 5), none⟩]⟩, ⟨⟨(some 8), .bin .add (.tmp 4) (.tmp 7), none⟩, []⟩, ⟨⟨(some 2), .mv (.tmp 8), none⟩, []⟩])
 .ret)),
 9, [.tmp 2]⟩
theorem low16 : lowerFn Tryz.prog Tryz.f63 = some L16 := by kernel_rfl
noncomputable def G16 (B : OH) : Nat → Cs
  | 125 => V12 B
  | _ => fun _ _ _ => none
theorem G16_12 {B : OH} : G16 B 125 = V12 B := rfl
theorem sG16 {w0 : World} {B : OH} : SoundG Tryz.prog w0 B { f := G16 B } := .of fun k => by
  unfold G16
  split
  · exact .inr ⟨en12, sV12⟩
  · exact .inl fun _ _ _ => rfl
theorem en16 : Enter Tryz.prog 63 := .of Tryz.func63 (by kernel_rfl) (by kernel_rfl)
noncomputable def T16 (B : OH) : Cs := callF B { f := G16 B } 80 L16
theorem sT16 {w0 : World} {B : OH} : SoundC Tryz.prog w0 B 63 (T16 B) := callF_sound mixedOrders sG16 80 Tryz.func63 low16
noncomputable def F16 (B : OH) : List Value → Option Value := kval B (T16 B)
noncomputable def V16 (B : OH) : Cs := fun a H N => pvE (F16 B a) H N
theorem V16_eq {B : OH} {a : List Value} {H : HL} {N : St} : V16 B a H N = pvE (F16 B a) H N := rfl
theorem sV16 {w0 : World} {B : OH} : SoundC Tryz.prog w0 B 63 (V16 B) := sT16.ofVal
theorem f16 {B : OH} (hG : ∃ H N, good B H N) (hT : Tab B) (k p c : Int) (hk : 1 ≤ k ∧ k ≤ 5) (hp : 1 ≤ p ∧ p ≤ 16) (hc : 1 ≤ c ∧ c ≤ 256) : F16 B [.agg #[.int .i64 k, .int .i64 p, .int .i64 c]] = some (.int .i64 (hm k c + 2 * p)) := by
  refine kval_eq hG fun H N hN => ?_
  have hB := good_B hN
  have hR := good_rdB hN
  have hI := beqN hN.1.1
  have e12 := f12 hG hT k p c hk hp hc
  have hb := hm_bounds hk hc
  simp (disch := omega) only [T16, L16, G16_12, V12_eq, hB, hR, hI, e12, e_loop, all1, lenV, ress, res1, retV, Value.cells, newsV_s, e_fork, slcV, seval, eV]
  with_reducible refine done2 ?_
  repeat (first | refine ext_new hN ?_ | exact fun _ _ h => h)
def L11 : FnL := ⟨(.seq (.ops [⟨(some 1), .box (.tmp 0), none⟩, ⟨(some 2), .mv (.const (.int .i64 0)), none⟩])
 (.seq (.seq (.ops [⟨(some 3), .load true 3 (.tmp 1), none⟩, ⟨(some 4), .call (.func 34) [(.tmp 3)], none⟩, ⟨(some 5), .un .not (.tmp 4), none⟩])
 (.cond (.tmp 5) (.seq (.ops [⟨(some 2), .mv (.const (.int .i64 0)), none⟩])
 .ret)
 .skip))
 (.seq (.ops [⟨(some 6), .load true 3 (.tmp 1), none⟩, ⟨(some 7), .call (.func 63) [(.tmp 6)], none⟩, ⟨(some 8), .bin .mul (.const (.int .i64 2)) (.tmp 7), none⟩, ⟨(some 9), .bin .add (.const (.int .i64 1)) (.tmp 8), none⟩, ⟨(some 2), .mv (.tmp 9), none⟩])
 .ret))),
 10, [.tmp 2]⟩
theorem low11 : lowerFn Tryz.prog Tryz.f65 = some L11 := by kernel_rfl
noncomputable def G11 (B : OH) : Nat → Cs
  | 34 => V13 B
  | 63 => V16 B
  | _ => fun _ _ _ => none
theorem G11_13 {B : OH} : G11 B 34 = V13 B := rfl
theorem G11_16 {B : OH} : G11 B 63 = V16 B := rfl
theorem sG11 {w0 : World} {B : OH} : SoundG Tryz.prog w0 B { f := G11 B } := .of fun k => by
  unfold G11
  split
  · exact .inr ⟨en13, sV13⟩
  · exact .inr ⟨en16, sV16⟩
  · exact .inl fun _ _ _ => rfl
theorem en11 : Enter Tryz.prog 65 := .of Tryz.func65 (by kernel_rfl) (by kernel_rfl)
noncomputable def T11 (B : OH) : Cs := callF B { f := G11 B } 80 L11
theorem sT11 {w0 : World} {B : OH} : SoundC Tryz.prog w0 B 65 (T11 B) := callF_sound mixedOrders sG11 80 Tryz.func65 low11
noncomputable def F11 (B : OH) : List Value → Option Value := kval B (T11 B)
noncomputable def V11 (B : OH) : Cs := fun a H N => pvE (F11 B a) H N
theorem V11_eq {B : OH} {a : List Value} {H : HL} {N : St} : V11 B a H N = pvE (F11 B a) H N := rfl
theorem sV11 {w0 : World} {B : OH} : SoundC Tryz.prog w0 B 65 (V11 B) := sT11.ofVal
theorem f11 {B : OH} (hG : ∃ H N, good B H N) (hT : Tab B) (k p c : Int) (hk : 1 ≤ k ∧ k ≤ 5) (hp : 1 ≤ p ∧ p ≤ 16) (hc : 1 ≤ c ∧ c ≤ 256) : F11 B [.agg #[.int .i64 k, .int .i64 p, .int .i64 c]] = some (.int .i64 (1 + 2 * (hm k c + 2 * p))) := by
  refine kval_eq hG fun H N hN => ?_
  have hB := good_B hN
  have hR := good_rdB hN
  have hI := beqN hN.1.1
  have e13 := f13 hG k p c hk hp hc
  have e16 := f16 hG hT k p c hk hp hc
  have hb := hm_bounds hk hc
  simp (disch := omega) only [T11, L11, G11_13, V13_eq, G11_16, V16_eq, hB, hR, hI, e13, e16, e_loop, all1, lenV, ress, res1, retV, Value.cells, newsV_s, e_fork, slcV, seval, eV]
  with_reducible refine done2 ?_
  repeat (first | refine ext_new hN ?_ | exact fun _ _ h => h)
def L14 : FnL := ⟨(.seq (.ops [⟨(some 1), .box (.tmp 0), none⟩, ⟨(some 2), .mv (.const (.int .i64 0)), none⟩])
 (.seq (.seq (.ops [⟨(some 3), .load true 3 (.tmp 1), none⟩, ⟨(some 4), .call (.func 34) [(.tmp 3)], none⟩, ⟨(some 5), .un .not (.tmp 4), none⟩])
 (.cond (.tmp 5) (.seq (.ops [⟨(some 2), .mv (.const (.int .i64 0)), none⟩])
 .ret)
 .skip))
 (.seq (.ops [⟨(some 6), .load true 3 (.tmp 1), none⟩, ⟨(some 7), .call (.func 63) [(.tmp 6)], none⟩, ⟨(some 8), .bin .mul (.const (.int .i64 6)) (.tmp 7), none⟩, ⟨(some 9), .bin .add (.tmp 8) (.const (.int .i64 8)), none⟩, ⟨(some 10), .bin .mul (.const (.int .i64 10)) (.tmp 9), none⟩, ⟨(some 11), .bin .add (.tmp 10) (.const (.int .i64 16)), none⟩, ⟨(some 2), .mv (.tmp 11), none⟩])
 .ret))),
 12, [.tmp 2]⟩
noncomputable def G14 (B : OH) : Nat → Cs
  | 34 => V13 B
  | 63 => V16 B
  | _ => fun _ _ _ => none
theorem G14_13 {B : OH} : G14 B 34 = V13 B := rfl
theorem G14_16 {B : OH} : G14 B 63 = V16 B := rfl
noncomputable def T14 (B : OH) : Cs := callF B { f := G14 B } 80 L14
noncomputable def F14 (B : OH) : List Value → Option Value := kval B (T14 B)
theorem f14 {B : OH} (hG : ∃ H N, good B H N) (hT : Tab B) (k p c : Int) (hk : 1 ≤ k ∧ k ≤ 5) (hp : 1 ≤ p ∧ p ≤ 16) (hc : 1 ≤ c ∧ c ≤ 256) : F14 B [.agg #[.int .i64 k, .int .i64 p, .int .i64 c]] = some (.int .i64 (10 * (6 * (hm k c + 2 * p) + 8) + 16)) := by
  refine kval_eq hG fun H N hN => ?_
  have hB := good_B hN
  have hR := good_rdB hN
  have hI := beqN hN.1.1
  have e13 := f13 hG k p c hk hp hc
  have e16 := f16 hG hT k p c hk hp hc
  have hb := hm_bounds hk hc
  simp (disch := omega) only [T14, L14, G14_13, V13_eq, G14_16, V16_eq, hB, hR, hI, e13, e16, e_loop, all1, lenV, ress, res1, retV, Value.cells, newsV_s, e_fork, slcV, seval, eV]
  with_reducible refine done2 ?_
  repeat (first | refine ext_new hN ?_ | exact fun _ _ h => h)
def L15 : FnL := ⟨(.seq (.ops [⟨(some 1), .box (.tmp 0), none⟩, ⟨(some 2), .mv (.const .nilFunc), none⟩])
 (.seq (.ops [⟨(some 3), .fn (.func 124) [] [(.tmp 1)], none⟩, ⟨(some 2), .mv (.tmp 3), none⟩])
 .ret)),
 4, [.tmp 2]⟩
theorem low15 : lowerFn Tryz.prog Tryz.f54 = some L15 := by kernel_rfl
noncomputable def G15 (B : OH) : Nat → Cs
  | _ => fun _ _ _ => none
theorem sG15 {w0 : World} {B : OH} : SoundG Tryz.prog w0 B { f := G15 B } := .of fun k => by
  unfold G15
  split
  · exact .inl fun _ _ _ => rfl
theorem en15 : Enter Tryz.prog 54 := .of Tryz.func54 (by kernel_rfl) (by kernel_rfl)
noncomputable def T15 (B : OH) : Cs := callF B { f := G15 B } 80 L15
theorem sT15 {w0 : World} {B : OH} : SoundC Tryz.prog w0 B 54 (T15 B) := callF_sound mixedOrders sG15 80 Tryz.func54 low15
noncomputable def V15 (B : OH) : Cs := T15 B
theorem sV15 {w0 : World} {B : OH} : SoundC Tryz.prog w0 B 54 (V15 B) := sT15
end Go.Proofs.YtbpaekbjpapgeaaGreatDoor
namespace Go.Proofs.YtbpaekbjpapgeaaGreatDoor
open Go.Proofs.YtbpaekbjpapgeaaGreatDoor.K Go.ChangeShapes Go.WideShapes Go.ChangeAt Go.RowKit
set_option maxRecDepth 100000
set_option linter.unusedSimpArgs false
set_option linter.unusedVariables false

def L17 : FnL := ⟨(.seq (.ops [⟨(some 3), .mv (.const (.int .i64 0)), none⟩])
 (.seq (.draw [⟨⟨(some 8), .load true 3 (.tmp 1), none⟩, []⟩, ⟨⟨(some 10), .load true 3 (.tmp 1), none⟩, []⟩, ⟨⟨(some 14), .mv (.const (.int .i64 0)), none⟩, []⟩, ⟨⟨(some 9), .call (.func 65) [(.tmp 8)], none⟩, [⟨(some 10), .load true 3 (.tmp 1), none⟩]⟩, ⟨⟨(some 11), .call (.func 125) [(.tmp 10)], none⟩, []⟩, ⟨⟨(some 12), .buildS [(.int .i64 0), (.int .i64 0), (.int .i64 0), (.int .i64 0), (.int .i64 0)] 5 [(0, 1, (.const (.int .i64 1))), (1, 1, (.const (.int .i64 3))), (2, 1, (.const (.int .i64 2))), (3, 1, (.tmp 9)), (4, 1, (.tmp 11))], none⟩, []⟩, ⟨⟨(some 13), .len false (.tmp 12), none⟩, []⟩])
 (.block 0 (.loop (.seq (.ops [⟨(some 15), .bin .lss (.tmp 14) (.tmp 13), none⟩])
 (.seq (.cond (.tmp 15) .skip
 (.exit 0))
 (.seq (.block 1 (.seq (.ops [⟨(some 16), .mv (.tmp 14), none⟩, ⟨(some 17), .iaddrS 1 (.tmp 12) (.tmp 14), none⟩, ⟨(some 18), .load false 1 (.tmp 17), none⟩, ⟨(some 4), .mv (.tmp 16), none⟩, ⟨(some 5), .mv (.tmp 18), none⟩])
 (.seq (.ops [⟨(some 19), .faddr 1 (.tmp 1), none⟩, ⟨(some 20), .load false 1 (.tmp 19), none⟩, ⟨(some 6), .mv (.tmp 20), none⟩])
 (.seq (.seq (.ops [⟨(some 21), .mv (.tmp 4), none⟩, ⟨(some 22), .bin .eql (.tmp 21) (.const (.int .i64 0)), none⟩, ⟨(some 23), .mv (.tmp 22), none⟩, ⟨(some 24), .mv (.tmp 4), (some (23, false))⟩, ⟨(some 25), .bin .eql (.tmp 24) (.const (.int .i64 4)), (some (23, false))⟩, ⟨(some 26), .pick (.tmp 23) (.const (.bool true)) (.tmp 25), none⟩])
 (.cond (.tmp 26) (.ops [⟨(some 6), .mv (.const (.int .i64 1)), none⟩])
 .skip))
 (.seq (.ops [⟨(some 27), .mv (.tmp 6), none⟩, ⟨(some 28), .mv (.const (.int .i64 0)), none⟩])
 (.block 2 (.loop (.seq (.ops [⟨(some 29), .bin .lss (.tmp 28) (.tmp 27), none⟩])
 (.seq (.cond (.tmp 29) .skip
 (.exit 2))
 (.seq (.block 3 (.seq (.ops [⟨(some 30), .mv (.tmp 28), none⟩, ⟨(some 7), .mv (.tmp 30), none⟩])
 (.seq (.seq (.ops [⟨(some 31), .mv (.tmp 0), none⟩, ⟨(some 32), .mv (.tmp 4), none⟩, ⟨(some 33), .mv (.tmp 7), none⟩, ⟨(some 34), .mv (.tmp 3), none⟩, ⟨(some 35), .mv (.tmp 3), none⟩, ⟨(some 36), .mv (.tmp 5), none⟩, ⟨(some 37), .bin .add (.tmp 35) (.tmp 36), none⟩, ⟨(some 38), .build [(.int .i64 0), (.int .i64 0), (.int .i64 0), (.int .i64 0)] [(0, 1, (.tmp 32)), (1, 1, (.tmp 33)), (2, 1, (.tmp 34)), (3, 1, (.tmp 37))], none⟩, ⟨(some 39), .call (.tmp 31) [(.tmp 38)], none⟩, ⟨(some 40), .un .not (.tmp 39), none⟩])
 (.cond (.tmp 40) .ret
 .skip))
 (.ops [⟨(some 41), .mv (.tmp 3), none⟩, ⟨(some 42), .mv (.tmp 5), none⟩, ⟨(some 43), .bin .add (.tmp 41) (.tmp 42), none⟩, ⟨(some 3), .mv (.tmp 43), none⟩]))))
 (.ops [⟨(some 44), .bin .add (.tmp 28) (.const (.int .i64 1)), none⟩, ⟨(some 28), .mv (.tmp 44), none⟩])))))))))))
 (.ops [⟨(some 45), .bin .add (.tmp 14) (.const (.int .i64 1)), none⟩, ⟨(some 14), .mv (.tmp 45), none⟩])))))))),
 46, []⟩
theorem low17 : lowerFn Tryz.prog Tryz.f124 = some L17 := by kernel_rfl
noncomputable def G17 (B : OH) : Nat → Cs
  | 65 => V11 B
  | 125 => V12 B
  | _ => fun _ _ _ => none
theorem G17_11 {B : OH} : G17 B 65 = V11 B := rfl
theorem G17_12 {B : OH} : G17 B 125 = V12 B := rfl
theorem en17 : Enter Tryz.prog 124 := .of Tryz.func124 (by kernel_rfl) (by kernel_rfl)
noncomputable abbrev E17 (B : OH) (Y : Nat → Cs) : Env := { f := G17 B, y := Y }
noncomputable def I17 (B : OH) (Y : Nat → Cs) : Cs := callF B (E17 B Y) 200 L17
theorem sI17 {w0 : World} {B : OH} (Y : Nat → Cs) (hY : SoundY Tryz.prog w0 B Y) : SoundC Tryz.prog w0 B 124 (I17 B Y) :=
  callF_sound mixedOrders ⟨fun k => by
    show (∀ args H N, G17 B k args H N = none) ∨ _
    unfold G17
    split
    · exact .inr ⟨en11, sV11⟩
    · exact .inr ⟨en12, sV12⟩
    · exact .inl fun _ _ _ => rfl, hY, fun _ => .inl fun _ _ _ _ => rfl⟩ 200 Tryz.func124 low17
def pt (p h k o : Nat) : Value := .agg #[.int .i64 (k : Int), .int .i64 (o : Int), .int .i64 (fr p h k o : Int), .int .i64 ((fr p h k o : Int) + (sz p h k : Int))]
structure YC (B : OH) (Y : Cs) (p h : Nat) (Own : Nat → Prop) (J : Nat → Nat → HL → Prop) (Jx : HL → Prop) : Prop where
  known : ∀ {k o H b}, J k o H → Own b → ∃ x, lk H b = some x
  stay : ∀ {k o H H'}, J k o H → (∀ b, Own b → lk H' b = lk H b) → J k o H'
  next : ∀ {k H}, J k (mn p k) H → J (k + 1) 0 H
  call : ∀ {k o H N}, k < 5 → o < mn p k → J k o H → good B H N → ∃ b H' N', Y [pt p h k o] H N = some (.ret (.bool b), H', N') ∧ good B H' N' ∧ (∀ x, ¬ Own x → ∀ c, lk H x = some c → lk H' x = some c) ∧ (b = true → J k (o + 1) H') ∧ (b = false → Jx H')
theorem ok_some {x : X} {s : Go.Proofs.YtbpaekbjpapgeaaGreatDoor.K.S} {R : X → Go.Proofs.YtbpaekbjpapgeaaGreatDoor.K.S → Prop} (h : R x s) : Ok (some (x, s)) R := ⟨x, s, rfl, h⟩
def IN17 : LC := (.loop (.seq (.ops [⟨(some 29), .bin .lss (.tmp 28) (.tmp 27), none⟩])
 (.seq (.cond (.tmp 29) .skip
 (.exit 2))
 (.seq (.block 3 (.seq (.ops [⟨(some 30), .mv (.tmp 28), none⟩, ⟨(some 7), .mv (.tmp 30), none⟩])
 (.seq (.seq (.ops [⟨(some 31), .mv (.tmp 0), none⟩, ⟨(some 32), .mv (.tmp 4), none⟩, ⟨(some 33), .mv (.tmp 7), none⟩, ⟨(some 34), .mv (.tmp 3), none⟩, ⟨(some 35), .mv (.tmp 3), none⟩, ⟨(some 36), .mv (.tmp 5), none⟩, ⟨(some 37), .bin .add (.tmp 35) (.tmp 36), none⟩, ⟨(some 38), .build [(.int .i64 0), (.int .i64 0), (.int .i64 0), (.int .i64 0)] [(0, 1, (.tmp 32)), (1, 1, (.tmp 33)), (2, 1, (.tmp 34)), (3, 1, (.tmp 37))], none⟩, ⟨(some 39), .call (.tmp 31) [(.tmp 38)], none⟩, ⟨(some 40), .un .not (.tmp 39), none⟩])
 (.cond (.tmp 40) .ret
 .skip))
 (.ops [⟨(some 41), .mv (.tmp 3), none⟩, ⟨(some 42), .mv (.tmp 5), none⟩, ⟨(some 43), .bin .add (.tmp 41) (.tmp 42), none⟩, ⟨(some 3), .mv (.tmp 43), none⟩]))))
 (.ops [⟨(some 44), .bin .add (.tmp 28) (.const (.int .i64 1)), none⟩, ⟨(some 28), .mv (.tmp 44), none⟩])))))
def OUT17 : LC := (.loop (.seq (.ops [⟨(some 15), .bin .lss (.tmp 14) (.tmp 13), none⟩])
 (.seq (.cond (.tmp 15) .skip
 (.exit 0))
 (.seq (.block 1 (.seq (.ops [⟨(some 16), .mv (.tmp 14), none⟩, ⟨(some 17), .iaddrS 1 (.tmp 12) (.tmp 14), none⟩, ⟨(some 18), .load false 1 (.tmp 17), none⟩, ⟨(some 4), .mv (.tmp 16), none⟩, ⟨(some 5), .mv (.tmp 18), none⟩])
 (.seq (.ops [⟨(some 19), .faddr 1 (.tmp 1), none⟩, ⟨(some 20), .load false 1 (.tmp 19), none⟩, ⟨(some 6), .mv (.tmp 20), none⟩])
 (.seq (.seq (.ops [⟨(some 21), .mv (.tmp 4), none⟩, ⟨(some 22), .bin .eql (.tmp 21) (.const (.int .i64 0)), none⟩, ⟨(some 23), .mv (.tmp 22), none⟩, ⟨(some 24), .mv (.tmp 4), (some (23, false))⟩, ⟨(some 25), .bin .eql (.tmp 24) (.const (.int .i64 4)), (some (23, false))⟩, ⟨(some 26), .pick (.tmp 23) (.const (.bool true)) (.tmp 25), none⟩])
 (.cond (.tmp 26) (.ops [⟨(some 6), .mv (.const (.int .i64 1)), none⟩])
 .skip))
 (.seq (.ops [⟨(some 27), .mv (.tmp 6), none⟩, ⟨(some 28), .mv (.const (.int .i64 0)), none⟩])
 (.block 2 (.loop (.seq (.ops [⟨(some 29), .bin .lss (.tmp 28) (.tmp 27), none⟩])
 (.seq (.cond (.tmp 29) .skip
 (.exit 2))
 (.seq (.block 3 (.seq (.ops [⟨(some 30), .mv (.tmp 28), none⟩, ⟨(some 7), .mv (.tmp 30), none⟩])
 (.seq (.seq (.ops [⟨(some 31), .mv (.tmp 0), none⟩, ⟨(some 32), .mv (.tmp 4), none⟩, ⟨(some 33), .mv (.tmp 7), none⟩, ⟨(some 34), .mv (.tmp 3), none⟩, ⟨(some 35), .mv (.tmp 3), none⟩, ⟨(some 36), .mv (.tmp 5), none⟩, ⟨(some 37), .bin .add (.tmp 35) (.tmp 36), none⟩, ⟨(some 38), .build [(.int .i64 0), (.int .i64 0), (.int .i64 0), (.int .i64 0)] [(0, 1, (.tmp 32)), (1, 1, (.tmp 33)), (2, 1, (.tmp 34)), (3, 1, (.tmp 37))], none⟩, ⟨(some 39), .call (.tmp 31) [(.tmp 38)], none⟩, ⟨(some 40), .un .not (.tmp 39), none⟩])
 (.cond (.tmp 40) .ret
 .skip))
 (.ops [⟨(some 41), .mv (.tmp 3), none⟩, ⟨(some 42), .mv (.tmp 5), none⟩, ⟨(some 43), .bin .add (.tmp 41) (.tmp 42), none⟩, ⟨(some 3), .mv (.tmp 43), none⟩]))))
 (.ops [⟨(some 44), .bin .add (.tmp 28) (.const (.int .i64 1)), none⟩, ⟨(some 28), .mv (.tmp 44), none⟩])))))))))))
 (.ops [⟨(some 45), .bin .add (.tmp 14) (.const (.int .i64 1)), none⟩, ⟨(some 14), .mv (.tmp 45), none⟩])))))
structure Ki (l bc q : Nat) (ts : List Value) : Prop where
  len : ts.length = 46
  t0 : gt ts 0 = .func (.yield l) #[] #[]
  t1 : gt ts 1 = .pointer (some ⟨bc, 0, none⟩)
  t12 : gt ts 12 = .slice (some ⟨q, 0, none⟩) 5 5
  t13 : gt ts 13 = .int .i64 5
def szs (p h : Nat) : List Value := [.int .i64 1, .int .i64 3, .int .i64 2, .int .i64 (1 + 2 * ((h : Int) + 2 * (p : Int))), .int .i64 (h : Int)]
structure Kh (B : OH) (kk p cc h : Nat) (bc q : Nat) (H : HL) (N : St) : Prop where
  g : good B H N
  c : lk H bc = some (.cells [.int .i64 (kk : Int), .int .i64 (p : Int), .int .i64 (cc : Int)] 3)
  s : lk H q = some (.cells (szs p h) 5)
  bc : B bc = none
  bq : B q = none
theorem rdB_none {B : OH} {b o n : Nat} (h : B b = none) : rdB B b o n = none := by simp [rdB, h]
theorem fr_bnd {p h k o : Nat} (hp : 1 ≤ p ∧ p ≤ 16) (hh : 1 ≤ h ∧ h ≤ 1026) (hk : k < 5) (ho : o < mn p k) : fr p h k o + sz p h k ≤ 200000 := by
  have h1 := fr_lt (p := p) (h := h) ho (show Lt k o (k + 1) 0 from .inl (by omega))
  have h2 : bs p h (k + 1) ≤ bs p h 5 := bs_mono (by omega)
  have h3 := bs_le (p := p) (h := h) (by omega) hp.2 hh.2 5
  rw [fr_zero] at h1
  omega
def IR (B : OH) (Own : Nat → Prop) (J : Nat → Nat → HL → Prop) (Jx : HL → Prop) (p h k l bc q : Nat) (H : HL) (x : X) (s : Go.Proofs.YtbpaekbjpapgeaaGreatDoor.K.S) : Prop :=
  ∃ ts' H' N', s = ⟨ts', H', N'⟩ ∧ good B H' N' ∧ (∀ x, ¬ Own x → ∀ c, lk H x = some c → lk H' x = some c) ∧ ((x = .exit 2 ∧ J k (mn p k) H' ∧ Ki l bc q ts' ∧ gt ts' 3 = .int .i64 (fr p h k (mn p k) : Int) ∧ gt ts' 14 = .int .i64 (k : Int)) ∨ (x = .ret ∧ Jx H'))
theorem in17 {B : OH} {Y : Nat → Cs} {l p h kk cc bc q : Nat} {Own : Nat → Prop} {J : Nat → Nat → HL → Prop} {Jx : HL → Prop} (hY : YC B (Y l) p h Own J Jx) (hp : 1 ≤ p ∧ p ≤ 16) (hh : 1 ≤ h ∧ h ≤ 1026) (hbc : ¬ Own bc) (hq : ¬ Own q)
    {k : Nat} (hk : k < 5) {H : HL} {N : St} {ts : List Value} (kh : Kh B kk p cc h bc q H N) (kp : Ki l bc q ts) (t3 : gt ts 3 = .int .i64 (fr p h k 0 : Int)) (t4 : gt ts 4 = .int .i64 (k : Int)) (t5 : gt ts 5 = .int .i64 (sz p h k : Int)) (t14 : gt ts 14 = .int .i64 (k : Int)) (t27 : gt ts 27 = .int .i64 (mn p k : Int)) (t28 : gt ts 28 = .int .i64 0) (hJ : J k 0 H) :
    ∀ F, 80 ≤ F → Ok (exec B (E17 B Y) F IN17 ⟨ts, H, N⟩) (IR B Own J Jx p h k l bc q H) := by
  intro F hF
  have hmn := mn_le (p := p) (k := k) (by omega)
  unfold IN17
  refine loop_rule (n0 := 50) (fun m s => ∃ ts' H' N', ∃ o : Nat, s = ⟨ts', H', N'⟩ ∧ good B H' N' ∧ (∀ x, ¬ Own x → ∀ c, lk H x = some c → lk H' x = some c) ∧ J k o H' ∧ Ki l bc q ts' ∧ gt ts' 3 = .int .i64 (fr p h k o : Int) ∧ gt ts' 4 = .int .i64 (k : Int) ∧ gt ts' 5 = .int .i64 (sz p h k : Int) ∧ gt ts' 14 = .int .i64 (k : Int) ∧ gt ts' 27 = .int .i64 (mn p k : Int) ∧ gt ts' 28 = .int .i64 (o : Int) ∧ o ≤ mn p k ∧ m = mn p k - o) _ ?_ (mn p k) _ ⟨ts, H, N, 0, rfl, kh.g, fun _ _ _ h => h, hJ, kp, t3, t4, t5, t14, t27, t28, by omega, rfl⟩ _ (by omega)
  clear t3 t4 t5 t14 t27 t28 kp hJ ts hF F
  rintro n m s ⟨ts, H1, N1, o, rfl, hN, hfr, hJ, kp, t3, t4, t5, t14, t27, t28, ho, rfl⟩
  have hB := good_B hN
  have hR := good_rdB hN
  have hI := beqN hN.1.1
  have hc : ((o + 1 : Nat) : Int) = (o : Int) + 1 := by omega
  by_cases h' : o < mn p k
  · have h2 : (o : Int) < (mn p k : Int) := by omega
    have hb := fr_bnd hp hh hk h'
    have hs : (fr p h k (o + 1) : Int) = (fr p h k o : Int) + (sz p h k : Int) := by rw [fr_succ]; omega
    obtain ⟨b, H2, N2, e, g2, f2, j2, x2⟩ := hY.call hk h' hJ hN
    unfold pt at e
    cases b with
    | true =>
      simp (disch := omega) only [L17, G17_11, G17_12, V11_eq, V12_eq, hB, hR, hI, kp.len, kp.t0, kp.t1, kp.t12, kp.t13, t3, t4, t5, t14, t27, t28, h2, e, all1, lenV, ress, res1, retV, Value.cells, newsV_s, e_fork, slcV, seval, eV]
      refine ok_some (.inl ⟨rfl, mn p k - (o + 1), by omega, _, H2, N2, o + 1, rfl, g2, fun x hx c h => f2 x hx c (hfr x hx c h), j2 rfl, ⟨?_, ?_, ?_, ?_, ?_⟩, ?_, ?_, ?_, ?_, ?_, ?_, by omega, rfl⟩)
      all_goals simp (disch := omega) only [L17, G17_11, G17_12, V11_eq, V12_eq, hB, hR, hI, kp.len, kp.t0, kp.t1, kp.t12, kp.t13, t3, t4, t5, t14, t27, t28, hc, hs, all1, lenV, ress, res1, retV, Value.cells, newsV_s, e_fork, slcV, seval, eV]
    | false =>
      simp (disch := omega) only [L17, G17_11, G17_12, V11_eq, V12_eq, hB, hR, hI, kp.len, kp.t0, kp.t1, kp.t12, kp.t13, t3, t4, t5, t14, t27, t28, h2, e, all1, lenV, ress, res1, retV, Value.cells, newsV_s, e_fork, slcV, seval, eV]
      exact ok_some (.inr ⟨by simp, _, H2, N2, rfl, g2, fun x hx c h => f2 x hx c (hfr x hx c h), .inr ⟨rfl, x2 rfl⟩⟩)
  · obtain rfl : o = mn p k := by omega
    have h2 : ¬ (mn p k : Int) < (mn p k : Int) := by omega
    simp (disch := omega) only [L17, G17_11, G17_12, V11_eq, V12_eq, hB, hR, hI, kp.len, kp.t0, kp.t1, kp.t12, kp.t13, t3, t4, t5, t14, t27, t28, h2, all1, lenV, ress, res1, retV, Value.cells, newsV_s, e_fork, slcV, seval, eV]
    refine ok_some (.inr ⟨by simp, _, H1, N1, rfl, hN, hfr, .inl ⟨rfl, hJ, ⟨?_, ?_, ?_, ?_, ?_⟩, ?_, ?_⟩⟩)
    all_goals simp (disch := omega) only [L17, G17_11, G17_12, V11_eq, V12_eq, hB, hR, hI, kp.len, kp.t0, kp.t1, kp.t12, kp.t13, t3, t4, t5, t14, t27, t28, all1, lenV, ress, res1, retV, Value.cells, newsV_s, e_fork, slcV, seval, eV]
end Go.Proofs.YtbpaekbjpapgeaaGreatDoor
namespace Go.Proofs.YtbpaekbjpapgeaaGreatDoor
open Go.Proofs.YtbpaekbjpapgeaaGreatDoor.K Go.ChangeShapes Go.WideShapes Go.ChangeAt Go.RowKit
set_option maxRecDepth 100000
set_option linter.unusedSimpArgs false
set_option linter.unusedVariables false

theorem out17 {B : OH} {Y : Nat → Cs} {l p h kk cc bc q : Nat} {Own : Nat → Prop} {J : Nat → Nat → HL → Prop} {Jx : HL → Prop} (hY : YC B (Y l) p h Own J Jx) (hp : 1 ≤ p ∧ p ≤ 16) (hh : 1 ≤ h ∧ h ≤ 1026) (hbc : ¬ Own bc) (hq : ¬ Own q)
    {H : HL} {N : St} {ts : List Value} (kh : Kh B kk p cc h bc q H N) (kp : Ki l bc q ts) (t3 : gt ts 3 = .int .i64 0) (t14 : gt ts 14 = .int .i64 0) (hJ : J 0 0 H) :
    ∀ F, 120 ≤ F → Ok (exec B (E17 B Y) F OUT17 ⟨ts, H, N⟩) (fun x s => ∃ ts' H' N', s = ⟨ts', H', N'⟩ ∧ good B H' N' ∧ (∀ x, ¬ Own x → ∀ c, lk H x = some c → lk H' x = some c) ∧ ((x = .exit 0 ∧ J 5 0 H') ∨ (x = .ret ∧ Jx H'))) := by
  intro F hF
  unfold OUT17
  refine loop_rule (n0 := 110) (fun m s => ∃ ts' H' N', ∃ k : Nat, s = ⟨ts', H', N'⟩ ∧ good B H' N' ∧ (∀ x, ¬ Own x → ∀ c, lk H x = some c → lk H' x = some c) ∧ J k 0 H' ∧ Ki l bc q ts' ∧ gt ts' 3 = .int .i64 (fr p h k 0 : Int) ∧ gt ts' 14 = .int .i64 (k : Int) ∧ k ≤ 5 ∧ m = 5 - k) _ ?_ 5 _ ⟨ts, H, N, 0, rfl, kh.g, fun _ _ _ h => h, hJ, kp, t3, t14, by omega, rfl⟩ _ (by omega)
  clear t3 t14 kp hJ ts hF F
  rintro n m s ⟨ts, H1, N1, k, rfl, hN, hfr, hJ, kp, t3, t14, hk, rfl⟩
  have hB := good_B hN
  have hR := good_rdB hN
  have hI := beqN hN.1.1
  have kc := hfr bc hbc _ kh.c
  have ks := hfr q hq _ kh.s
  unfold szs at ks
  have bn := kh.bc
  have qn := kh.bq
  have rc := fun o n => rdB_none (o := o) (n := n) kh.bc
  have rq := fun o n => rdB_none (o := o) (n := n) kh.bq
  have n01 : ((0 : Nat) : Int) = 0 := rfl
  have n1 : ((1 : Nat) : Int) = 1 := rfl
  have n2 : ((2 : Nat) : Int) = 2 := rfl
  have n3 : ((3 : Nat) : Int) = 3 := rfl
  have n4 : ((4 : Nat) : Int) = 4 := rfl
  have nL : ((1 + 2 * (h + 2 * p) : Nat) : Int) = 1 + 2 * ((h : Int) + 2 * (p : Int)) := by omega
  by_cases h5 : k < 5
  · have hc : ((k + 1 : Nat) : Int) = (k : Int) + 1 := by omega
    obtain rfl | rfl | rfl | rfl | rfl : k = 0 ∨ k = 1 ∨ k = 2 ∨ k = 3 ∨ k = 4 := by omega
    · have t14k : gt ts 14 = .int .i64 0 := t14
      simp (disch := omega) only [L17, G17_11, G17_12, V11_eq, V12_eq, hB, hR, hI, kp.len, kp.t0, kp.t1, kp.t12, kp.t13, t3, t14k, kc, ks, rc, rq, bn, qn, all1, lenV, ress, res1, retV, Value.cells, newsV_s, e_fork, slcV, seval, eV]
      generalize hX : exec B (E17 B Y) _ (LC.loop _) _ = o
      have hO : Ok o (IR B Own J Jx p h 0 l bc q H1) := by
        rw [← hX]
        refine in17 hY hp hh hbc hq (by omega) (kk := kk) (cc := cc) ⟨hN, kc, ks, kh.bc, kh.bq⟩ ⟨?_, ?_, ?_, ?_, ?_⟩ ?_ ?_ ?_ ?_ ?_ ?_ hJ _ (by omega)
        all_goals simp (disch := omega) only [L17, G17_11, G17_12, V11_eq, V12_eq, hB, hR, hI, kp.len, kp.t0, kp.t1, kp.t12, kp.t13, t3, t14k, mn, sz, n01, n1, n2, n3, n4, nL, all1, lenV, ress, res1, retV, Value.cells, newsV_s, e_fork, slcV, seval, eV]
        try rfl
      obtain ⟨x, s', rfl, ts', H2, N2, rfl, g2, f2, ⟨rfl, j2, kp, t3, t14⟩ | ⟨rfl, x2⟩⟩ := hO
      · have t14k : gt ts' 14 = .int .i64 0 := t14
        simp (disch := omega) only [L17, G17_11, G17_12, V11_eq, V12_eq, hB, hR, hI, kp.len, kp.t0, kp.t1, kp.t12, kp.t13, t3, t14k, all1, lenV, ress, res1, retV, Value.cells, newsV_s, e_fork, slcV, seval, eV]
        refine ok_some (.inl ⟨rfl, 5 - (0 + 1), by omega, _, H2, N2, 0 + 1, rfl, g2, fun x hx c h => f2 x hx c (hfr x hx c h), hY.next j2, ⟨?_, ?_, ?_, ?_, ?_⟩, ?_, ?_, by omega, rfl⟩)
        all_goals simp (disch := omega) only [L17, G17_11, G17_12, V11_eq, V12_eq, hB, hR, hI, kp.len, kp.t0, kp.t1, kp.t12, kp.t13, t3, t14k, hc, fr_next, n01, n1, n2, n3, n4, all1, lenV, ress, res1, retV, Value.cells, newsV_s, e_fork, slcV, seval, eV]
        try rfl
      · simp (disch := omega) only [L17, G17_11, G17_12, V11_eq, V12_eq, hB, hR, hI, all1, lenV, ress, res1, retV, Value.cells, newsV_s, e_fork, slcV, seval, eV]
        exact ok_some (.inr ⟨by simp, _, H2, N2, rfl, g2, fun x hx c h => f2 x hx c (hfr x hx c h), .inr ⟨rfl, x2⟩⟩)
    · have t14k : gt ts 14 = .int .i64 1 := t14
      simp (disch := omega) only [L17, G17_11, G17_12, V11_eq, V12_eq, hB, hR, hI, kp.len, kp.t0, kp.t1, kp.t12, kp.t13, t3, t14k, kc, ks, rc, rq, bn, qn, all1, lenV, ress, res1, retV, Value.cells, newsV_s, e_fork, slcV, seval, eV]
      generalize hX : exec B (E17 B Y) _ (LC.loop _) _ = o
      have hO : Ok o (IR B Own J Jx p h 1 l bc q H1) := by
        rw [← hX]
        refine in17 hY hp hh hbc hq (by omega) (kk := kk) (cc := cc) ⟨hN, kc, ks, kh.bc, kh.bq⟩ ⟨?_, ?_, ?_, ?_, ?_⟩ ?_ ?_ ?_ ?_ ?_ ?_ hJ _ (by omega)
        all_goals simp (disch := omega) only [L17, G17_11, G17_12, V11_eq, V12_eq, hB, hR, hI, kp.len, kp.t0, kp.t1, kp.t12, kp.t13, t3, t14k, mn, sz, n01, n1, n2, n3, n4, nL, all1, lenV, ress, res1, retV, Value.cells, newsV_s, e_fork, slcV, seval, eV]
        try rfl
      obtain ⟨x, s', rfl, ts', H2, N2, rfl, g2, f2, ⟨rfl, j2, kp, t3, t14⟩ | ⟨rfl, x2⟩⟩ := hO
      · have t14k : gt ts' 14 = .int .i64 1 := t14
        simp (disch := omega) only [L17, G17_11, G17_12, V11_eq, V12_eq, hB, hR, hI, kp.len, kp.t0, kp.t1, kp.t12, kp.t13, t3, t14k, all1, lenV, ress, res1, retV, Value.cells, newsV_s, e_fork, slcV, seval, eV]
        refine ok_some (.inl ⟨rfl, 5 - (1 + 1), by omega, _, H2, N2, 1 + 1, rfl, g2, fun x hx c h => f2 x hx c (hfr x hx c h), hY.next j2, ⟨?_, ?_, ?_, ?_, ?_⟩, ?_, ?_, by omega, rfl⟩)
        all_goals simp (disch := omega) only [L17, G17_11, G17_12, V11_eq, V12_eq, hB, hR, hI, kp.len, kp.t0, kp.t1, kp.t12, kp.t13, t3, t14k, hc, fr_next, n01, n1, n2, n3, n4, all1, lenV, ress, res1, retV, Value.cells, newsV_s, e_fork, slcV, seval, eV]
        try rfl
      · simp (disch := omega) only [L17, G17_11, G17_12, V11_eq, V12_eq, hB, hR, hI, all1, lenV, ress, res1, retV, Value.cells, newsV_s, e_fork, slcV, seval, eV]
        exact ok_some (.inr ⟨by simp, _, H2, N2, rfl, g2, fun x hx c h => f2 x hx c (hfr x hx c h), .inr ⟨rfl, x2⟩⟩)
    · have t14k : gt ts 14 = .int .i64 2 := t14
      simp (disch := omega) only [L17, G17_11, G17_12, V11_eq, V12_eq, hB, hR, hI, kp.len, kp.t0, kp.t1, kp.t12, kp.t13, t3, t14k, kc, ks, rc, rq, bn, qn, all1, lenV, ress, res1, retV, Value.cells, newsV_s, e_fork, slcV, seval, eV]
      generalize hX : exec B (E17 B Y) _ (LC.loop _) _ = o
      have hO : Ok o (IR B Own J Jx p h 2 l bc q H1) := by
        rw [← hX]
        refine in17 hY hp hh hbc hq (by omega) (kk := kk) (cc := cc) ⟨hN, kc, ks, kh.bc, kh.bq⟩ ⟨?_, ?_, ?_, ?_, ?_⟩ ?_ ?_ ?_ ?_ ?_ ?_ hJ _ (by omega)
        all_goals simp (disch := omega) only [L17, G17_11, G17_12, V11_eq, V12_eq, hB, hR, hI, kp.len, kp.t0, kp.t1, kp.t12, kp.t13, t3, t14k, mn, sz, n01, n1, n2, n3, n4, nL, all1, lenV, ress, res1, retV, Value.cells, newsV_s, e_fork, slcV, seval, eV]
        try rfl
      obtain ⟨x, s', rfl, ts', H2, N2, rfl, g2, f2, ⟨rfl, j2, kp, t3, t14⟩ | ⟨rfl, x2⟩⟩ := hO
      · have t14k : gt ts' 14 = .int .i64 2 := t14
        simp (disch := omega) only [L17, G17_11, G17_12, V11_eq, V12_eq, hB, hR, hI, kp.len, kp.t0, kp.t1, kp.t12, kp.t13, t3, t14k, all1, lenV, ress, res1, retV, Value.cells, newsV_s, e_fork, slcV, seval, eV]
        refine ok_some (.inl ⟨rfl, 5 - (2 + 1), by omega, _, H2, N2, 2 + 1, rfl, g2, fun x hx c h => f2 x hx c (hfr x hx c h), hY.next j2, ⟨?_, ?_, ?_, ?_, ?_⟩, ?_, ?_, by omega, rfl⟩)
        all_goals simp (disch := omega) only [L17, G17_11, G17_12, V11_eq, V12_eq, hB, hR, hI, kp.len, kp.t0, kp.t1, kp.t12, kp.t13, t3, t14k, hc, fr_next, n01, n1, n2, n3, n4, all1, lenV, ress, res1, retV, Value.cells, newsV_s, e_fork, slcV, seval, eV]
        try rfl
      · simp (disch := omega) only [L17, G17_11, G17_12, V11_eq, V12_eq, hB, hR, hI, all1, lenV, ress, res1, retV, Value.cells, newsV_s, e_fork, slcV, seval, eV]
        exact ok_some (.inr ⟨by simp, _, H2, N2, rfl, g2, fun x hx c h => f2 x hx c (hfr x hx c h), .inr ⟨rfl, x2⟩⟩)
    · have t14k : gt ts 14 = .int .i64 3 := t14
      simp (disch := omega) only [L17, G17_11, G17_12, V11_eq, V12_eq, hB, hR, hI, kp.len, kp.t0, kp.t1, kp.t12, kp.t13, t3, t14k, kc, ks, rc, rq, bn, qn, all1, lenV, ress, res1, retV, Value.cells, newsV_s, e_fork, slcV, seval, eV]
      generalize hX : exec B (E17 B Y) _ (LC.loop _) _ = o
      have hO : Ok o (IR B Own J Jx p h 3 l bc q H1) := by
        rw [← hX]
        refine in17 hY hp hh hbc hq (by omega) (kk := kk) (cc := cc) ⟨hN, kc, ks, kh.bc, kh.bq⟩ ⟨?_, ?_, ?_, ?_, ?_⟩ ?_ ?_ ?_ ?_ ?_ ?_ hJ _ (by omega)
        all_goals simp (disch := omega) only [L17, G17_11, G17_12, V11_eq, V12_eq, hB, hR, hI, kp.len, kp.t0, kp.t1, kp.t12, kp.t13, t3, t14k, mn, sz, n01, n1, n2, n3, n4, nL, all1, lenV, ress, res1, retV, Value.cells, newsV_s, e_fork, slcV, seval, eV]
        try rfl
      obtain ⟨x, s', rfl, ts', H2, N2, rfl, g2, f2, ⟨rfl, j2, kp, t3, t14⟩ | ⟨rfl, x2⟩⟩ := hO
      · have t14k : gt ts' 14 = .int .i64 3 := t14
        simp (disch := omega) only [L17, G17_11, G17_12, V11_eq, V12_eq, hB, hR, hI, kp.len, kp.t0, kp.t1, kp.t12, kp.t13, t3, t14k, all1, lenV, ress, res1, retV, Value.cells, newsV_s, e_fork, slcV, seval, eV]
        refine ok_some (.inl ⟨rfl, 5 - (3 + 1), by omega, _, H2, N2, 3 + 1, rfl, g2, fun x hx c h => f2 x hx c (hfr x hx c h), hY.next j2, ⟨?_, ?_, ?_, ?_, ?_⟩, ?_, ?_, by omega, rfl⟩)
        all_goals simp (disch := omega) only [L17, G17_11, G17_12, V11_eq, V12_eq, hB, hR, hI, kp.len, kp.t0, kp.t1, kp.t12, kp.t13, t3, t14k, hc, fr_next, n01, n1, n2, n3, n4, all1, lenV, ress, res1, retV, Value.cells, newsV_s, e_fork, slcV, seval, eV]
        try rfl
      · simp (disch := omega) only [L17, G17_11, G17_12, V11_eq, V12_eq, hB, hR, hI, all1, lenV, ress, res1, retV, Value.cells, newsV_s, e_fork, slcV, seval, eV]
        exact ok_some (.inr ⟨by simp, _, H2, N2, rfl, g2, fun x hx c h => f2 x hx c (hfr x hx c h), .inr ⟨rfl, x2⟩⟩)
    · have t14k : gt ts 14 = .int .i64 4 := t14
      simp (disch := omega) only [L17, G17_11, G17_12, V11_eq, V12_eq, hB, hR, hI, kp.len, kp.t0, kp.t1, kp.t12, kp.t13, t3, t14k, kc, ks, rc, rq, bn, qn, all1, lenV, ress, res1, retV, Value.cells, newsV_s, e_fork, slcV, seval, eV]
      generalize hX : exec B (E17 B Y) _ (LC.loop _) _ = o
      have hO : Ok o (IR B Own J Jx p h 4 l bc q H1) := by
        rw [← hX]
        refine in17 hY hp hh hbc hq (by omega) (kk := kk) (cc := cc) ⟨hN, kc, ks, kh.bc, kh.bq⟩ ⟨?_, ?_, ?_, ?_, ?_⟩ ?_ ?_ ?_ ?_ ?_ ?_ hJ _ (by omega)
        all_goals simp (disch := omega) only [L17, G17_11, G17_12, V11_eq, V12_eq, hB, hR, hI, kp.len, kp.t0, kp.t1, kp.t12, kp.t13, t3, t14k, mn, sz, n01, n1, n2, n3, n4, nL, all1, lenV, ress, res1, retV, Value.cells, newsV_s, e_fork, slcV, seval, eV]
        try rfl
      obtain ⟨x, s', rfl, ts', H2, N2, rfl, g2, f2, ⟨rfl, j2, kp, t3, t14⟩ | ⟨rfl, x2⟩⟩ := hO
      · have t14k : gt ts' 14 = .int .i64 4 := t14
        simp (disch := omega) only [L17, G17_11, G17_12, V11_eq, V12_eq, hB, hR, hI, kp.len, kp.t0, kp.t1, kp.t12, kp.t13, t3, t14k, all1, lenV, ress, res1, retV, Value.cells, newsV_s, e_fork, slcV, seval, eV]
        refine ok_some (.inl ⟨rfl, 5 - (4 + 1), by omega, _, H2, N2, 4 + 1, rfl, g2, fun x hx c h => f2 x hx c (hfr x hx c h), hY.next j2, ⟨?_, ?_, ?_, ?_, ?_⟩, ?_, ?_, by omega, rfl⟩)
        all_goals simp (disch := omega) only [L17, G17_11, G17_12, V11_eq, V12_eq, hB, hR, hI, kp.len, kp.t0, kp.t1, kp.t12, kp.t13, t3, t14k, hc, fr_next, n01, n1, n2, n3, n4, all1, lenV, ress, res1, retV, Value.cells, newsV_s, e_fork, slcV, seval, eV]
        try rfl
      · simp (disch := omega) only [L17, G17_11, G17_12, V11_eq, V12_eq, hB, hR, hI, all1, lenV, ress, res1, retV, Value.cells, newsV_s, e_fork, slcV, seval, eV]
        exact ok_some (.inr ⟨by simp, _, H2, N2, rfl, g2, fun x hx c h => f2 x hx c (hfr x hx c h), .inr ⟨rfl, x2⟩⟩)
  · obtain rfl : k = 5 := by omega
    have t14k : gt ts 14 = .int .i64 5 := t14
    simp (disch := omega) only [L17, G17_11, G17_12, V11_eq, V12_eq, hB, hR, hI, kp.len, kp.t0, kp.t1, kp.t12, kp.t13, t3, t14k, all1, lenV, ress, res1, retV, Value.cells, newsV_s, e_fork, slcV, seval, eV]
    refine ok_some (.inr ⟨by simp, _, H1, N1, rfl, hN, hfr, .inl ⟨rfl, hJ⟩⟩)
end Go.Proofs.YtbpaekbjpapgeaaGreatDoor
namespace Go.Proofs.YtbpaekbjpapgeaaGreatDoor
open Go.Proofs.YtbpaekbjpapgeaaGreatDoor.K Go.ChangeShapes Go.WideShapes Go.ChangeAt Go.RowKit
set_option maxRecDepth 100000
set_option linter.unusedSimpArgs false
set_option linter.unusedVariables false

theorem it17 {B : OH} (hT : Tab B) {Y : Nat → Cs} {l p h kk cc bc : Nat} {Own : Nat → Prop} {J : Nat → Nat → HL → Prop} {Jx : HL → Prop} (hY : YC B (Y l) p h Own J Jx) (hk : 1 ≤ kk ∧ kk ≤ 5) (hp : 1 ≤ p ∧ p ≤ 16) (hc : 1 ≤ cc ∧ cc ≤ 256) (hm' : hm kk cc = (h : Int)) (hbc : ¬ Own bc)
    {H : HL} {N : St} (hN : good B H N) (kc : lk H bc = some (.cells [.int .i64 (kk : Int), .int .i64 (p : Int), .int .i64 (cc : Int)] 3)) (bn : B bc = none) (hJ : J 0 0 H) :
    ∃ v H' N', I17 B Y [.func (.yield l) #[] #[], .pointer (some ⟨bc, 0, none⟩)] H N = some (.ret v, H', N') ∧ good B H' N' ∧ (∀ x, ¬ Own x → ∀ c, lk H x = some c → lk H' x = some c) ∧ (J 5 0 H' ∨ Jx H') := by
  have hG : ∃ H N, good B H N := ⟨H, N, hN⟩
  have hB := good_B hN
  have hR := good_rdB hN
  have hI := beqN hN.1.1
  have hb := hm_bounds (k := kk) (c := cc) (by omega) (by omega)
  have e11 := f11 hG hT kk p cc (by omega) (by omega) (by omega)
  have e12 := f12 hG hT kk p cc (by omega) (by omega) (by omega)
  rw [hm'] at e11 e12 hb
  have rc := fun o n => rdB_none (o := o) (n := n) bn
  have nb := fun i => ne_good hN bn kc i
  have nb' := fun i => ne_good' hN bn kc i
  have hq : ¬ Own (N 0) := fun h0 => by
    obtain ⟨x, hx⟩ := hY.known hJ h0
    have := hN.2 0
    simp [den, hB, hx] at this
  simp (disch := omega) only [I17, L17, G17_11, G17_12, V11_eq, V12_eq, hB, hR, hI, kc, rc, bn, nb, nb', e11, e12, all1, lenV, ress, res1, retV, Value.cells, newsV_s, e_fork, slcV, seval, eV]
  generalize hX : exec B (E17 B Y) _ (LC.loop _) _ = o
  have hO : Ok o (fun x s => ∃ ts' H' N', s = ⟨ts', H', N'⟩ ∧ good B H' N' ∧ (∀ x, ¬ Own x → ∀ c, lk ((N.n 0, KB.cells (szs p h) 5) :: H) x = some c → lk H' x = some c) ∧ ((x = .exit 0 ∧ J 5 0 H') ∨ (x = .ret ∧ Jx H'))) := by
    rw [← hX]
    refine out17 (kk := kk) (cc := cc) hY hp (by omega) hbc hq ⟨good_new hN, ?_, ?_, bn, hB 0⟩ ⟨?_, ?_, ?_, ?_, ?_⟩ ?_ ?_ ?_ _ (by omega)
    · simp (disch := omega) only [I17, L17, G17_11, G17_12, V11_eq, V12_eq, hB, hR, hI, kc, nb, nb', all1, lenV, ress, res1, retV, Value.cells, newsV_s, e_fork, slcV, seval, eV]
    · simp (disch := omega) only [I17, L17, G17_11, G17_12, V11_eq, V12_eq, hB, hR, hI, szs, all1, lenV, ress, res1, retV, Value.cells, newsV_s, e_fork, slcV, seval, eV]
    iterate 7 rfl
    refine hY.stay hJ fun b h0 => ?_
    have : (b == N 0) = false := by
      cases e : b == N 0 with
      | false => rfl
      | true => exact absurd h0 (by rw [show b = N 0 by simpa using e]; exact hq)
    simp (disch := omega) only [I17, L17, G17_11, G17_12, V11_eq, V12_eq, hB, hR, hI, this, all1, lenV, ress, res1, retV, Value.cells, newsV_s, e_fork, slcV, seval, eV]
  obtain ⟨x, s', rfl, ts', H2, N2, rfl, g2, f2, h2⟩ := hO
  have fr2 : ∀ x, ¬ Own x → ∀ c, lk H x = some c → lk H2 x = some c := fun x hx c h => f2 x hx c (by
    have hd := hN.2 0
    have : (x == N 0) = false := by
      cases e : x == N 0 with
      | false => rfl
      | true => rw [show x = N 0 by simpa using e] at h; simp [den, hB, h] at hd
    simp (disch := omega) only [I17, L17, G17_11, G17_12, V11_eq, V12_eq, hB, hR, hI, this, h, all1, lenV, ress, res1, retV, Value.cells, newsV_s, e_fork, slcV, seval, eV])
  rcases h2 with ⟨rfl, j2⟩ | ⟨rfl, x2⟩
  · simp (disch := omega) only [I17, L17, G17_11, G17_12, V11_eq, V12_eq, hB, hR, hI, all1, lenV, ress, res1, retV, Value.cells, newsV_s, e_fork, slcV, seval, eV]
    exact ⟨_, _, _, rfl, g2, fr2, .inl j2⟩
  · simp (disch := omega) only [I17, L17, G17_11, G17_12, V11_eq, V12_eq, hB, hR, hI, all1, lenV, ress, res1, retV, Value.cells, newsV_s, e_fork, slcV, seval, eV]
    exact ⟨_, _, _, rfl, g2, fr2, .inr x2⟩
end Go.Proofs.YtbpaekbjpapgeaaGreatDoor
namespace Go.Proofs.YtbpaekbjpapgeaaGreatDoor
open Go.Proofs.YtbpaekbjpapgeaaGreatDoor.K Go.ChangeShapes Go.WideShapes Go.ChangeAt Go.RowKit
set_option maxRecDepth 100000
set_option linter.unusedSimpArgs false
set_option linter.unusedVariables false

noncomputable def itR (B : OH) : Nat → (Nat → Cs) → Cs
  | 124 => I17 B
  | _ => fun _ _ _ _ => none
theorem itR_17 {B : OH} : itR B 124 = I17 B := rfl
theorem sItR {w0 : World} {B : OH} : ∀ k, (∀ Y args H N, itR B k Y args H N = none) ∨ (Enter Tryz.prog k ∧ ∀ Y, SoundY Tryz.prog w0 B Y → SoundC Tryz.prog w0 B k (itR B k Y)) := fun k => by
  unfold itR
  split
  · exact .inr ⟨en17, sI17⟩
  · exact .inl fun _ _ _ _ => rfl
theorem good_set {B : OH} {H : HL} {N : St} {b : Nat} {k k' : KB} (hN : good B H N) (hB : B b = none) (hl : lk H b = some k') : good B ((b, k) :: H) N := by
  have hd : ∀ r, den H B r = none → den ((b, k) :: H) B r = none := fun r hr => by
    unfold den
    cases hr' : B r with
    | some x => simp [den, hr'] at hr
    | none =>
      have h1 : lk H r = none := by simpa [den, hr'] using hr
      have h2 : (r == b) = false := by
        cases e : r == b with
        | false => rfl
        | true => rw [show r = b by simpa using e, hl] at h1; cases h1
      simp [lk, h2, h1]
  obtain ⟨⟨h1, f, f1, f2, f3⟩, h2⟩ := hN
  exact ⟨⟨h1, f, f1, fun i => hd _ (f2 i), f3⟩, fun i => hd _ (h2 i)⟩
theorem ext_lk {B : OH} {H H1 : HL} (h : ∀ r x, B r = none → lk H r = some x → lk H1 r = some x) : ∀ r x, den H B r = some x → den H1 B r = some x := fun r x hx => by
  unfold den at *
  cases hr : B r with
  | some y => simpa [hr] using hx
  | none => simp only [hr] at hx ⊢; exact h r x hr hx
theorem ne_of_lk {B : OH} {H : HL} {N : St} {x : Nat} {c : KB} (hN : good B H N) (hx : lk H x = some c) (i : Nat) : (x == N i) = false := by
  cases e : x == N i with
  | false => rfl
  | true =>
    have e' : x = N i := by simpa using e
    have hd := hN.2 i
    rw [← e'] at hd
    cases hb : B x <;> simp [den, hb, hx] at hd
theorem eqb {a b : Nat} (h : ¬ a = b) : (a == b) = false := by simpa using h
def L7 : FnL := ⟨(.seq (.ops [⟨(some 1), .box (.tmp 0), none⟩, ⟨(some 2), .alloc [(.int .i64 0)], none⟩])
 (.seq (.seq (.ops [⟨(some 4), .load true 3 (.tmp 1), none⟩, ⟨(some 5), .call (.func 34) [(.tmp 4)], none⟩, ⟨(some 6), .un .not (.tmp 5), none⟩])
 (.cond (.tmp 6) (.seq (.ops [⟨none, .store 1 (.tmp 2) (.const (.int .i64 0)), none⟩])
 .ret)
 .skip))
 (.seq (.seq (.ops [⟨(some 7), .load true 3 (.tmp 1), none⟩, ⟨(some 8), .call (.func 54) [(.tmp 7)], none⟩])
 (.block 0 (.range (.tmp 8) [9] (.ops [⟨(some 3), .alloc [(.int .i64 0), (.int .i64 0), (.int .i64 0), (.int .i64 0)], none⟩, ⟨none, .store 4 (.tmp 3) (.tmp 9), none⟩])
 (.block 1 (.ops [⟨(some 10), .faddr 3 (.tmp 3), none⟩, ⟨(some 11), .load false 1 (.tmp 10), none⟩, ⟨none, .store 1 (.tmp 2) (.tmp 11), none⟩])))))
 (.seq (.ops [⟨(some 12), .load false 1 (.tmp 2), none⟩, ⟨none, .store 1 (.tmp 2) (.tmp 12), none⟩])
 .ret)))),
 13, [.cell 2 false 1]⟩
theorem low7 : lowerFn Tryz.prog Tryz.f44 = some L7 := by kernel_rfl
noncomputable def G7 (B : OH) : Nat → Cs
  | 34 => V13 B
  | 54 => V15 B
  | _ => fun _ _ _ => none
theorem G7_13 {B : OH} : G7 B 34 = V13 B := rfl
theorem G7_15 {B : OH} : G7 B 54 = V15 B := rfl
noncomputable abbrev E7 (B : OH) : Env := { f := G7 B, it := itR B }
theorem sG7 {w0 : World} {B : OH} : SoundG Tryz.prog w0 B (E7 B) :=
  ⟨fun k => by
    show (∀ args H N, G7 B k args H N = none) ∨ _
    unfold G7
    split
    · exact .inr ⟨en13, sV13⟩
    · exact .inr ⟨en15, sV15⟩
    · exact .inl fun _ _ _ => rfl, fun _ => .inl fun _ _ _ => rfl, sItR⟩
theorem en7 : Enter Tryz.prog 44 := .of Tryz.func44 (by kernel_rfl) (by kernel_rfl)
noncomputable def T7 (B : OH) : Cs := callF B (E7 B) 300 L7
theorem sT7 {w0 : World} {B : OH} : SoundC Tryz.prog w0 B 44 (T7 B) := callF_sound mixedOrders sG7 300 Tryz.func44 low7
noncomputable def F7 (B : OH) : List Value → Option Value := kval B (T7 B)
noncomputable def V7 (B : OH) : Cs := fun a H N => pvE (F7 B a) H N
theorem V7_eq {B : OH} {a : List Value} {H : HL} {N : St} : V7 B a H N = pvE (F7 B a) H N := rfl
theorem sV7 {w0 : World} {B : OH} : SoundC Tryz.prog w0 B 44 (V7 B) := sT7.ofVal
set_option maxHeartbeats 2000000 in
theorem f7 {B : OH} (hG : ∃ H N, good B H N) (hT : Tab B) {kk p cc h : Nat} (hk : 1 ≤ kk ∧ kk ≤ 5) (hp : 1 ≤ p ∧ p ≤ 16) (hc : 1 ≤ cc ∧ cc ≤ 256) (hm' : hm kk cc = (h : Int)) : F7 B [.agg #[.int .i64 (kk : Int), .int .i64 (p : Int), .int .i64 (cc : Int)]] = some (.int .i64 (bs p h 5 : Int)) := by
  refine kval_eq hG fun H N hN => ?_
  have hB := good_B hN
  have hR := good_rdB hN
  have hI := beqN hN.1.1
  have e13 := f13 hG kk p cc (by omega) (by omega) (by omega)
  have hh : 1 ≤ h ∧ h ≤ 1026 := by have := hm_bounds (k := kk) (c := cc) (by omega) (by omega); omega
  simp (disch := omega) only [T7, L7, G7_13, V13_eq, G7_15, V15, T15, L15, itR_17, hB, hR, hI, e13, all1, lenV, ress, res1, retV, Value.cells, newsV_s, e_fork, slcV, seval, eV]
  generalize hX : I17 B _ _ _ _ = o
  have hO : ∃ v H' N', o = some (.ret v, H', N') ∧ good B H' N' ∧ (∀ x, ¬ (x = N 4 ∨ x = N 1) → ∀ c, lk ((N.n 4, KB.loop (N.r 4) LSt.ready) :: (N.n 3, KB.dfr) :: (N.n 2, KB.cells [.int .i64 (kk : Int), .int .i64 (p : Int), .int .i64 (cc : Int)] 3) :: (N.n 1, KB.cells [.int .i64 0] 1) :: (N.n 0, KB.cells [.int .i64 (kk : Int), .int .i64 (p : Int), .int .i64 (cc : Int)] 3) :: H) x = some c → lk H' x = some c) ∧ ((lk H' (N 4) = some (.loop (N.r 4) .ready) ∧ lk H' (N 1) = some (.cells [.int .i64 (fr p h 5 0 : Int)] 1)) ∨ False) := by
    rw [← hX]
    refine it17 (kk := kk) (cc := cc) (Own := fun x => x = N 4 ∨ x = N 1) (J := fun k o H' => lk H' (N 4) = some (.loop (N.r 4) .ready) ∧ lk H' (N 1) = some (.cells [.int .i64 (fr p h k o : Int)] 1)) (Jx := fun _ => False) hT ⟨?_, ?_, ?_, ?_⟩ hk hp hc hm' ?_ ?_ ?_ ?_ ?_
    · rintro k o H b ⟨h1, h2⟩ (rfl | rfl)
      · exact ⟨_, h1⟩
      · exact ⟨_, h2⟩
    · rintro k o H H' ⟨h1, h2⟩ h3
      exact ⟨(h3 _ (.inl rfl)).trans h1, (h3 _ (.inr rfl)).trans h2⟩
    · rintro k H ⟨h1, h2⟩
      exact ⟨h1, by rw [fr_next]; exact h2⟩
    · rintro k o H N1 hk5 ho ⟨h1, h2⟩ hN1
      have hBo := hB
      have hB := good_B hN1
      have hR := good_rdB hN1
      have hI := beqN hN1.1.1
      have hIo := beqN hN.1.1
      have b4 := hBo 4
      have b1 := hBo 1
      have r1 := fun o n => rdB_none (o := o) (n := n) b1
      have m4 := fun i => ne_good hN1 b4 h1 i
      have m4' := fun i => ne_good' hN1 b4 h1 i
      have m1 := fun i => ne_good hN1 b1 h2 i
      have m1' := fun i => ne_good' hN1 b1 h2 i
      have hb := fr_bnd (k := k) (o := o) hp hh hk5 ho
      have hs : (fr p h k (o + 1) : Int) = (fr p h k o : Int) + (sz p h k : Int) := by rw [fr_succ]; omega
      simp only [wy_same, y_call]
      unfold pt
      simp (disch := omega) only [T7, L7, G7_13, V13_eq, G7_15, V15, T15, L15, itR_17, hB, hR, hI, h1, h2, b4, b1, r1, m4, m4', m1, m1', hIo, all1, lenV, ress, res1, retV, Value.cells, newsV_s, e_fork, slcV, seval, eV]
      refine ⟨true, _, _, rfl, ?_, ?_, fun _ => ⟨?_, ?_⟩, fun h => by cases h⟩
      · refine good_set (k' := .loop (N.r 4) .busy) (good_set (k' := .loop (N.r 4) .ready) (good_new (good_up hN1 b1 h2)) b4 ?_) b4 ?_
        · simp (disch := omega) only [T7, L7, G7_13, V13_eq, G7_15, V15, T15, L15, itR_17, hB, hR, hI, m4, hIo, h1, all1, lenV, ress, res1, retV, Value.cells, newsV_s, e_fork, slcV, seval, eV]
        · simp (disch := omega) only [T7, L7, G7_13, V13_eq, G7_15, V15, T15, L15, itR_17, hB, hR, hI, all1, lenV, ress, res1, retV, Value.cells, newsV_s, e_fork, slcV, seval, eV]
      · intro x hx c hc
        have x4 := eqb (fun h => hx (.inl h))
        have x1 := eqb (fun h => hx (.inr h))
        have xn := ne_of_lk hN1 hc 0
        simp (disch := omega) only [T7, L7, G7_13, V13_eq, G7_15, V15, T15, L15, itR_17, hB, hR, hI, x4, x1, xn, hc, all1, lenV, ress, res1, retV, Value.cells, newsV_s, e_fork, slcV, seval, eV]
      · simp (disch := omega) only [T7, L7, G7_13, V13_eq, G7_15, V15, T15, L15, itR_17, hB, hR, hI, all1, lenV, ress, res1, retV, Value.cells, newsV_s, e_fork, slcV, seval, eV]
      · simp (disch := omega) only [T7, L7, G7_13, V13_eq, G7_15, V15, T15, L15, itR_17, hB, hR, hI, hIo, m1, hs, all1, lenV, ress, res1, retV, Value.cells, newsV_s, e_fork, slcV, seval, eV]
    · rintro (h | h)
      · have := hI 2 4; simp [h] at this
      · have := hI 2 1; simp [h] at this
    · exact good_new (good_new (good_new (good_new (good_new hN))))
    · simp (disch := omega) only [T7, L7, G7_13, V13_eq, G7_15, V15, T15, L15, itR_17, hB, hR, hI, all1, lenV, ress, res1, retV, Value.cells, newsV_s, e_fork, slcV, seval, eV]
    · exact hB 2
    · simp (disch := omega) only [T7, L7, G7_13, V13_eq, G7_15, V15, T15, L15, itR_17, hB, hR, hI, fr_zero, bs, all1, lenV, ress, res1, retV, Value.cells, newsV_s, e_fork, slcV, seval, eV]
  obtain ⟨v, H2, N2, rfl, g2, f2, ⟨h4, h1⟩ | h⟩ := hO
  · have r1 := hR 1
    have b1 := hB 1
    simp (disch := omega) only [T7, L7, G7_13, V13_eq, G7_15, V15, T15, L15, itR_17, hB, hR, hI, h4, h1, fr_zero, all1, lenV, ress, res1, retV, Value.cells, newsV_s, e_fork, slcV, seval, eV]
    refine ⟨_, _, rfl, ext_lk fun r x hr hx => ?_⟩
    have xn := ne_of_lk hN hx
    have h2 := f2 r (by rintro (rfl | rfl); · simpa using xn 4
                        · simpa using xn 1) x (by simp (disch := omega) only [xn, hx, e_loop, all1, lenV, ress, res1, retV, Value.cells, newsV_s, e_fork, slcV, seval, eV])
    simp (disch := omega) only [T7, L7, G7_13, V13_eq, G7_15, V15, T15, L15, itR_17, hB, hR, hI, xn, h2, all1, lenV, ress, res1, retV, Value.cells, newsV_s, e_fork, slcV, seval, eV]
  · exact h.elim
end Go.Proofs.YtbpaekbjpapgeaaGreatDoor
namespace Go.Proofs.YtbpaekbjpapgeaaGreatDoor
open Go.Proofs.YtbpaekbjpapgeaaGreatDoor.K Go.ChangeShapes Go.WideShapes Go.ChangeAt Go.RowKit
set_option maxRecDepth 100000
set_option linter.unusedSimpArgs false
set_option linter.unusedVariables false

theorem nextLt {k0 o0 k p : Nat} (ho0 : o0 < mn p k0) (hx : ¬ Lt k0 o0 k (mn p k)) : ¬ Lt k0 o0 (k + 1) 0 := by
  unfold Lt at *
  by_cases e : k0 = k
  · subst e; omega
  · omega
def L9 : FnL := ⟨(.seq (.ops [⟨(some 2), .box (.tmp 0), none⟩, ⟨(some 3), .box (.tmp 1), none⟩, ⟨(some 4), .alloc [(.int .i64 0)], none⟩, ⟨(some 5), .alloc [(.int .i64 0)], none⟩, ⟨(some 6), .alloc [(.int .i64 0)], none⟩])
 (.seq (.seq (.ops [⟨(some 8), .load true 3 (.tmp 2), none⟩, ⟨(some 9), .call (.func 34) [(.tmp 8)], none⟩])
 (.cond (.tmp 9) (.seq (.ops [⟨(some 10), .load true 3 (.tmp 2), none⟩, ⟨(some 11), .call (.func 54) [(.tmp 10)], none⟩])
 (.block 0 (.range (.tmp 11) [12] (.ops [⟨(some 7), .alloc [(.int .i64 0), (.int .i64 0), (.int .i64 0), (.int .i64 0)], none⟩, ⟨none, .store 4 (.tmp 7) (.tmp 12), none⟩])
 (.block 1 (.seq (.ops [⟨(some 13), .load false 1 (.tmp 3), none⟩, ⟨(some 14), .faddr 2 (.tmp 7), none⟩, ⟨(some 15), .load false 1 (.tmp 14), none⟩, ⟨(some 16), .bin .geq (.tmp 13) (.tmp 15), none⟩, ⟨(some 17), .mv (.tmp 16), none⟩, ⟨(some 18), .load false 1 (.tmp 3), (some (17, true))⟩, ⟨(some 19), .faddr 3 (.tmp 7), (some (17, true))⟩, ⟨(some 20), .load false 1 (.tmp 19), (some (17, true))⟩, ⟨(some 21), .bin .lss (.tmp 18) (.tmp 20), (some (17, true))⟩, ⟨(some 22), .pick (.tmp 17) (.tmp 21) (.const (.bool false)), none⟩])
 (.cond (.tmp 22) (.seq (.draw [⟨⟨(some 23), .faddr 0 (.tmp 7), none⟩, []⟩, ⟨⟨(some 24), .load false 1 (.tmp 23), none⟩, []⟩, ⟨⟨(some 25), .faddr 1 (.tmp 7), none⟩, []⟩, ⟨⟨(some 26), .load false 1 (.tmp 25), none⟩, []⟩, ⟨⟨(some 27), .load false 1 (.tmp 3), none⟩, []⟩, ⟨⟨(some 28), .faddr 2 (.tmp 7), none⟩, []⟩, ⟨⟨(some 29), .load false 1 (.tmp 28), none⟩, []⟩, ⟨⟨(some 30), .bin .sub (.tmp 27) (.tmp 29), none⟩, []⟩, ⟨⟨none, .store 1 (.tmp 4) (.tmp 24), none⟩, [⟨(some 26), .load false 1 (.tmp 25), none⟩, ⟨(some 27), .load false 1 (.tmp 3), none⟩, ⟨(some 29), .load false 1 (.tmp 28), none⟩]⟩, ⟨⟨none, .store 1 (.tmp 5) (.tmp 26), none⟩, [⟨(some 27), .load false 1 (.tmp 3), none⟩, ⟨(some 29), .load false 1 (.tmp 28), none⟩]⟩, ⟨⟨none, .store 1 (.tmp 6) (.tmp 30), none⟩, []⟩])
 .ret)
 .skip))))))
 .skip))
 (.seq (.ops [⟨none, .store 1 (.tmp 4) (.const (.int .i64 5)), none⟩, ⟨none, .store 1 (.tmp 5) (.const (.int .i64 0)), none⟩, ⟨none, .store 1 (.tmp 6) (.const (.int .i64 0)), none⟩])
 .ret))),
 31, [.cell 4 false 1, .cell 5 false 1, .cell 6 false 1]⟩
theorem low9 : lowerFn Tryz.prog Tryz.f23 = some L9 := by kernel_rfl
noncomputable def G9 (B : OH) : Nat → Cs
  | 34 => V13 B
  | 54 => V15 B
  | _ => fun _ _ _ => none
theorem G9_13 {B : OH} : G9 B 34 = V13 B := rfl
theorem G9_15 {B : OH} : G9 B 54 = V15 B := rfl
noncomputable abbrev E9 (B : OH) : Env := { f := G9 B, it := itR B }
theorem sG9 {w0 : World} {B : OH} : SoundG Tryz.prog w0 B (E9 B) :=
  ⟨fun k => by
    show (∀ args H N, G9 B k args H N = none) ∨ _
    unfold G9
    split
    · exact .inr ⟨en13, sV13⟩
    · exact .inr ⟨en15, sV15⟩
    · exact .inl fun _ _ _ => rfl, fun _ => .inl fun _ _ _ => rfl, sItR⟩
theorem en9 : Enter Tryz.prog 23 := .of Tryz.func23 (by kernel_rfl) (by kernel_rfl)
noncomputable def T9 (B : OH) : Cs := callF B (E9 B) 300 L9
theorem sT9 {w0 : World} {B : OH} : SoundC Tryz.prog w0 B 23 (T9 B) := callF_sound mixedOrders sG9 300 Tryz.func23 low9
noncomputable def F9 (B : OH) : List Value → Option Value := kval B (T9 B)
noncomputable def V9 (B : OH) : Cs := fun a H N => pvE (F9 B a) H N
theorem V9_eq {B : OH} {a : List Value} {H : HL} {N : St} : V9 B a H N = pvE (F9 B a) H N := rfl
theorem sV9 {w0 : World} {B : OH} : SoundC Tryz.prog w0 B 23 (V9 B) := sT9.ofVal
set_option maxHeartbeats 2000000 in
theorem f9 {B : OH} (hG : ∃ H N, good B H N) (hT : Tab B) {kk p cc h : Nat} (hk : 1 ≤ kk ∧ kk ≤ 5) (hp : 1 ≤ p ∧ p ≤ 16) (hc : 1 ≤ cc ∧ cc ≤ 256) (hm' : hm kk cc = (h : Int)) {k0 o0 a : Nat} (hk0 : k0 < 5) (ho0 : o0 < mn p k0) (ha : fr p h k0 o0 ≤ a) (ha' : a < fr p h k0 o0 + sz p h k0) : F9 B [.agg #[.int .i64 (kk : Int), .int .i64 (p : Int), .int .i64 (cc : Int)], .int .i64 (a : Int)] = some (.tuple #[.int .i64 (k0 : Int), .int .i64 (o0 : Int), .int .i64 ((a : Int) - (fr p h k0 o0 : Int))]) := by
  refine kval_eq hG fun H N hN => ?_
  have hB := good_B hN
  have hR := good_rdB hN
  have hI := beqN hN.1.1
  have e13 := f13 hG kk p cc (by omega) (by omega) (by omega)
  have hh : 1 ≤ h ∧ h ≤ 1026 := by have := hm_bounds (k := kk) (c := cc) (by omega) (by omega); omega
  simp (disch := omega) only [T9, L9, G9_13, V13_eq, G9_15, V15, T15, L15, itR_17, hB, hR, hI, e13, all1, lenV, ress, res1, retV, Value.cells, newsV_s, e_fork, slcV, seval, eV]
  generalize hX : I17 B _ _ _ _ = o
  have hO : ∃ v H' N', o = some (.ret v, H', N') ∧ good B H' N' ∧ (∀ x, ¬ (x = N 7 ∨ x = N 1 ∨ x = N 2 ∨ x = N 3 ∨ x = N 4) → ∀ c, lk ((N.n 7, KB.loop (N.r 7) LSt.ready) :: (N.n 6, KB.dfr) :: (N.n 5, KB.cells [.int .i64 (kk : Int), .int .i64 (p : Int), .int .i64 (cc : Int)] 3) :: (N.n 4, KB.cells [.int .i64 0] 1) :: (N.n 3, KB.cells [.int .i64 0] 1) :: (N.n 2, KB.cells [.int .i64 0] 1) :: (N.n 1, KB.cells [.int .i64 (a : Int)] 1) :: (N.n 0, KB.cells [.int .i64 (kk : Int), .int .i64 (p : Int), .int .i64 (cc : Int)] 3) :: H) x = some c → lk H' x = some c) ∧ ((lk H' (N 7) = some (.loop (N.r 7) .ready) ∧ lk H' (N 1) = some (.cells [.int .i64 (a : Int)] 1) ∧ lk H' (N 2) = some (.cells [.int .i64 0] 1) ∧ lk H' (N 3) = some (.cells [.int .i64 0] 1) ∧ lk H' (N 4) = some (.cells [.int .i64 0] 1) ∧ ¬ Lt k0 o0 5 0) ∨ (lk H' (N 7) = some (.loop (N.r 7) (.done none)) ∧ lk H' (N 2) = some (.cells [.int .i64 (k0 : Int)] 1) ∧ lk H' (N 3) = some (.cells [.int .i64 (o0 : Int)] 1) ∧ lk H' (N 4) = some (.cells [.int .i64 ((a : Int) - (fr p h k0 o0 : Int))] 1))) := by
    rw [← hX]
    refine it17 (kk := kk) (cc := cc) (Own := fun x => x = N 7 ∨ x = N 1 ∨ x = N 2 ∨ x = N 3 ∨ x = N 4) (J := fun kx ox H' => lk H' (N 7) = some (.loop (N.r 7) .ready) ∧ lk H' (N 1) = some (.cells [.int .i64 (a : Int)] 1) ∧ lk H' (N 2) = some (.cells [.int .i64 0] 1) ∧ lk H' (N 3) = some (.cells [.int .i64 0] 1) ∧ lk H' (N 4) = some (.cells [.int .i64 0] 1) ∧ ¬ Lt k0 o0 kx ox) (Jx := fun H' => lk H' (N 7) = some (.loop (N.r 7) (.done none)) ∧ lk H' (N 2) = some (.cells [.int .i64 (k0 : Int)] 1) ∧ lk H' (N 3) = some (.cells [.int .i64 (o0 : Int)] 1) ∧ lk H' (N 4) = some (.cells [.int .i64 ((a : Int) - (fr p h k0 o0 : Int))] 1)) hT ⟨?_, ?_, ?_, ?_⟩ hk hp hc hm' ?_ ?_ ?_ ?_ ?_
    · rintro k o H b ⟨h7, h1, h2, h3, h4, hx⟩ (rfl | rfl | rfl | rfl | rfl)
      · exact ⟨_, h7⟩
      · exact ⟨_, h1⟩
      · exact ⟨_, h2⟩
      · exact ⟨_, h3⟩
      · exact ⟨_, h4⟩
    · rintro k o H H' ⟨h7, h1, h2, h3, h4, hx⟩ g
      exact ⟨(g _ (by simp)).trans h7, (g _ (by simp)).trans h1, (g _ (by simp)).trans h2, (g _ (by simp)).trans h3, (g _ (by simp)).trans h4, hx⟩
    · rintro k H ⟨h7, h1, h2, h3, h4, hx⟩
      exact ⟨h7, h1, h2, h3, h4, nextLt ho0 hx⟩
    · rintro k o H N1 hk5 ho ⟨h7, h1, h2, h3, h4, hx⟩ hN1
      have hBo := hB
      have hB := good_B hN1
      have hR := good_rdB hN1
      have hI := beqN hN1.1.1
      have hIo := beqN hN.1.1
      have b7 := hBo 7
      have r7 := fun o n => rdB_none (o := o) (n := n) b7
      have m7 := fun j => ne_good hN1 b7 h7 j
      have w7 := fun j => ne_good' hN1 b7 h7 j
      have b1 := hBo 1
      have r1 := fun o n => rdB_none (o := o) (n := n) b1
      have m1 := fun j => ne_good hN1 b1 h1 j
      have w1 := fun j => ne_good' hN1 b1 h1 j
      have b2 := hBo 2
      have r2 := fun o n => rdB_none (o := o) (n := n) b2
      have m2 := fun j => ne_good hN1 b2 h2 j
      have w2 := fun j => ne_good' hN1 b2 h2 j
      have b3 := hBo 3
      have r3 := fun o n => rdB_none (o := o) (n := n) b3
      have m3 := fun j => ne_good hN1 b3 h3 j
      have w3 := fun j => ne_good' hN1 b3 h3 j
      have b4 := hBo 4
      have r4 := fun o n => rdB_none (o := o) (n := n) b4
      have m4 := fun j => ne_good hN1 b4 h4 j
      have w4 := fun j => ne_good' hN1 b4 h4 j
      have hb := fr_bnd (k := k) (o := o) hp hh hk5 ho
      have hs : (fr p h k (o + 1) : Int) = (fr p h k o : Int) + (sz p h k : Int) := by rw [fr_succ]; omega
      simp only [wy_same, y_call]
      unfold pt
      by_cases heq : k = k0 ∧ o = o0
      · obtain ⟨rfl, rfl⟩ := heq
        have q1 : (a : Int) ≥ (fr p h k o : Int) := by omega
        have q2 : (a : Int) < (fr p h k o : Int) + (sz p h k : Int) := by omega
        simp (disch := omega) only [T9, L9, G9_13, V13_eq, G9_15, V15, T15, L15, itR_17, hB, hR, hI, h7, b7, r7, m7, w7, h1, b1, r1, m1, w1, h2, b2, r2, m2, w2, h3, b3, r3, m3, w3, h4, b4, r4, m4, w4, hIo, q1, q2, all1, lenV, ress, res1, retV, Value.cells, newsV_s, e_fork, slcV, seval, eV]
        refine ⟨false, _, _, rfl, good_set (k' := .loop (N.r 7) .busy) (good_set (k' := .loop (N.r 7) .ready) (good_new (good_up (k' := .cells [.int .i64 0] 1) (good_up (k' := .cells [.int .i64 0] 1) (good_up (k' := .cells [.int .i64 0] 1) hN1 b2 h2) b3 ?_) b4 ?_)) b7 ?_) b7 ?_, fun x hx c hc => ?_, fun h => (by cases h), fun _ => ?_⟩
        · simp (disch := omega) only [T9, L9, G9_13, V13_eq, G9_15, V15, T15, L15, itR_17, hB, hR, hI, h7, b7, r7, m7, w7, h1, b1, r1, m1, w1, h2, b2, r2, m2, w2, h3, b3, r3, m3, w3, h4, b4, r4, m4, w4, hIo, all1, lenV, ress, res1, retV, Value.cells, newsV_s, e_fork, slcV, seval, eV]
        · simp (disch := omega) only [T9, L9, G9_13, V13_eq, G9_15, V15, T15, L15, itR_17, hB, hR, hI, h7, b7, r7, m7, w7, h1, b1, r1, m1, w1, h2, b2, r2, m2, w2, h3, b3, r3, m3, w3, h4, b4, r4, m4, w4, hIo, all1, lenV, ress, res1, retV, Value.cells, newsV_s, e_fork, slcV, seval, eV]
        · simp (disch := omega) only [T9, L9, G9_13, V13_eq, G9_15, V15, T15, L15, itR_17, hB, hR, hI, h7, b7, r7, m7, w7, h1, b1, r1, m1, w1, h2, b2, r2, m2, w2, h3, b3, r3, m3, w3, h4, b4, r4, m4, w4, hIo, all1, lenV, ress, res1, retV, Value.cells, newsV_s, e_fork, slcV, seval, eV]
        · simp (disch := omega) only [T9, L9, G9_13, V13_eq, G9_15, V15, T15, L15, itR_17, hB, hR, hI, h7, b7, r7, m7, w7, h1, b1, r1, m1, w1, h2, b2, r2, m2, w2, h3, b3, r3, m3, w3, h4, b4, r4, m4, w4, hIo, all1, lenV, ress, res1, retV, Value.cells, newsV_s, e_fork, slcV, seval, eV]
        · have xn := ne_of_lk hN1 hc 0
          have x7 := eqb (fun h : x = N 7 => hx (by simp [h]))
          have x1 := eqb (fun h : x = N 1 => hx (by simp [h]))
          have x2 := eqb (fun h : x = N 2 => hx (by simp [h]))
          have x3 := eqb (fun h : x = N 3 => hx (by simp [h]))
          have x4 := eqb (fun h : x = N 4 => hx (by simp [h]))
          simp (disch := omega) only [T9, L9, G9_13, V13_eq, G9_15, V15, T15, L15, itR_17, hB, hR, hI, xn, hc, x7, x1, x2, x3, x4, all1, lenV, ress, res1, retV, Value.cells, newsV_s, e_fork, slcV, seval, eV]
        · refine ⟨?_, ?_, ?_, ?_⟩
          all_goals simp (disch := omega) only [T9, L9, G9_13, V13_eq, G9_15, V15, T15, L15, itR_17, hB, hR, hI, h7, b7, r7, m7, w7, h1, b1, r1, m1, w1, h2, b2, r2, m2, w2, h3, b3, r3, m3, w3, h4, b4, r4, m4, w4, hIo, all1, lenV, ress, res1, retV, Value.cells, newsV_s, e_fork, slcV, seval, eV]
      · have hlt : Lt k o k0 o0 := by unfold Lt at *; omega
        have hle := fr_lt ho hlt (p := p) (h := h)
        have q1 : (a : Int) ≥ (fr p h k o : Int) := by omega
        have q2 : ¬ (a : Int) < (fr p h k o : Int) + (sz p h k : Int) := by omega
        simp (disch := omega) only [T9, L9, G9_13, V13_eq, G9_15, V15, T15, L15, itR_17, hB, hR, hI, h7, b7, r7, m7, w7, h1, b1, r1, m1, w1, h2, b2, r2, m2, w2, h3, b3, r3, m3, w3, h4, b4, r4, m4, w4, hIo, q1, q2, all1, lenV, ress, res1, retV, Value.cells, newsV_s, e_fork, slcV, seval, eV]
        refine ⟨true, _, _, rfl, good_set (k' := .loop (N.r 7) .busy) (good_set (k' := .loop (N.r 7) .ready) (good_new hN1) b7 ?_) b7 ?_, fun x hx c hc => ?_, fun _ => ?_, fun h => (by cases h)⟩
        · simp (disch := omega) only [T9, L9, G9_13, V13_eq, G9_15, V15, T15, L15, itR_17, hB, hR, hI, h7, b7, r7, m7, w7, h1, b1, r1, m1, w1, h2, b2, r2, m2, w2, h3, b3, r3, m3, w3, h4, b4, r4, m4, w4, hIo, all1, lenV, ress, res1, retV, Value.cells, newsV_s, e_fork, slcV, seval, eV]
        · simp (disch := omega) only [T9, L9, G9_13, V13_eq, G9_15, V15, T15, L15, itR_17, hB, hR, hI, h7, b7, r7, m7, w7, h1, b1, r1, m1, w1, h2, b2, r2, m2, w2, h3, b3, r3, m3, w3, h4, b4, r4, m4, w4, hIo, all1, lenV, ress, res1, retV, Value.cells, newsV_s, e_fork, slcV, seval, eV]
        · have xn := ne_of_lk hN1 hc 0
          have x7 := eqb (fun h : x = N 7 => hx (by simp [h]))
          have x1 := eqb (fun h : x = N 1 => hx (by simp [h]))
          have x2 := eqb (fun h : x = N 2 => hx (by simp [h]))
          have x3 := eqb (fun h : x = N 3 => hx (by simp [h]))
          have x4 := eqb (fun h : x = N 4 => hx (by simp [h]))
          simp (disch := omega) only [T9, L9, G9_13, V13_eq, G9_15, V15, T15, L15, itR_17, hB, hR, hI, xn, hc, x7, x1, x2, x3, x4, all1, lenV, ress, res1, retV, Value.cells, newsV_s, e_fork, slcV, seval, eV]
        · refine ⟨?_, ?_, ?_, ?_, ?_, by unfold Lt at *; omega⟩
          all_goals simp (disch := omega) only [T9, L9, G9_13, V13_eq, G9_15, V15, T15, L15, itR_17, hB, hR, hI, h7, b7, r7, m7, w7, h1, b1, r1, m1, w1, h2, b2, r2, m2, w2, h3, b3, r3, m3, w3, h4, b4, r4, m4, w4, hIo, all1, lenV, ress, res1, retV, Value.cells, newsV_s, e_fork, slcV, seval, eV]
    · have := hI 5
      rintro (h | h | h | h | h)
      all_goals { have g := hI 5; simp only [h, hI] at g; have g1 := g 7; have g2 := g 1; have g3 := g 2; have g4 := g 3; have g5 := g 4; simp [h] at g1 g2 g3 g4 g5 }
    · exact (good_new (good_new (good_new (good_new (good_new (good_new (good_new (good_new hN))))))))
    · simp (disch := omega) only [T9, L9, G9_13, V13_eq, G9_15, V15, T15, L15, itR_17, hB, hR, hI, all1, lenV, ress, res1, retV, Value.cells, newsV_s, e_fork, slcV, seval, eV]
    · exact hB 5
    · refine ⟨?_, ?_, ?_, ?_, ?_, by unfold Lt; omega⟩
      all_goals simp (disch := omega) only [T9, L9, G9_13, V13_eq, G9_15, V15, T15, L15, itR_17, hB, hR, hI, all1, lenV, ress, res1, retV, Value.cells, newsV_s, e_fork, slcV, seval, eV]
  obtain ⟨v, H2, N2, rfl, g2, f2, ⟨h7, h1, h2, h3, h4, hx⟩ | ⟨h7, h2, h3, h4⟩⟩ := hO
  · exact (hx (by unfold Lt; omega)).elim
  · have r2 := hR 2
    have r3 := hR 3
    have r4 := hR 4
    simp (disch := omega) only [T9, L9, G9_13, V13_eq, G9_15, V15, T15, L15, itR_17, hB, hR, hI, h7, h2, h3, h4, all1, lenV, ress, res1, retV, Value.cells, newsV_s, e_fork, slcV, seval, eV]
    refine ⟨_, _, rfl, ext_lk fun r x hr hx => ?_⟩
    have xn := ne_of_lk hN hx
    have q := f2 r (by
      rintro (rfl | rfl | rfl | rfl | rfl)
      all_goals simp [hI] at xn) x (by simp (disch := omega) only [xn, hx, e_loop, all1, lenV, ress, res1, retV, Value.cells, newsV_s, e_fork, slcV, seval, eV])
    simp (disch := omega) only [T9, L9, G9_13, V13_eq, G9_15, V15, T15, L15, itR_17, hB, hR, hI, xn, q, all1, lenV, ress, res1, retV, Value.cells, newsV_s, e_fork, slcV, seval, eV]
end Go.Proofs.YtbpaekbjpapgeaaGreatDoor
namespace Go.Proofs.YtbpaekbjpapgeaaGreatDoor
open Go.Proofs.YtbpaekbjpapgeaaGreatDoor.K Go.ChangeShapes Go.WideShapes Go.ChangeAt Go.RowKit
set_option maxRecDepth 100000
set_option linter.unusedSimpArgs false
set_option linter.unusedVariables false

theorem eqbI {a b : Int} (h : ¬ a = b) : (a == b) = false := by simpa using h
def L10 : FnL := ⟨(.seq (.ops [⟨(some 3), .box (.tmp 0), none⟩, ⟨(some 4), .box (.tmp 1), none⟩, ⟨(some 5), .box (.tmp 2), none⟩, ⟨(some 6), .alloc [(.int .i64 0)], none⟩, ⟨(some 7), .alloc [(.int .i64 0)], none⟩])
 (.seq (.block 0 (.seq (.ops [⟨(some 10), .load true 3 (.tmp 3), none⟩, ⟨(some 11), .call (.func 34) [(.tmp 10)], none⟩, ⟨(some 12), .un .not (.tmp 11), none⟩, ⟨(some 9), .mv (.tmp 12), none⟩])
 (.cond (.tmp 9) (.seq (.ops [⟨none, .store 1 (.tmp 6) (.const (.int .i64 0)), none⟩, ⟨none, .store 1 (.tmp 7) (.const (.int .i64 5)), none⟩])
 .ret)
 (.seq (.seq (.ops [⟨(some 14), .load false 1 (.tmp 4), none⟩, ⟨(some 15), .bin .lss (.tmp 14) (.const (.int .i64 0)), none⟩, ⟨(some 13), .mv (.tmp 15), none⟩])
 (.cond (.tmp 13) .skip
 (.seq (.ops [⟨(some 16), .load false 1 (.tmp 4), none⟩, ⟨(some 17), .bin .gtr (.tmp 16) (.const (.int .i64 4)), none⟩, ⟨(some 13), .mv (.tmp 17), none⟩])
 (.cond (.tmp 13) .skip
 (.seq (.ops [⟨(some 18), .load false 1 (.tmp 5), none⟩, ⟨(some 19), .bin .lss (.tmp 18) (.const (.int .i64 0)), none⟩, ⟨(some 13), .mv (.tmp 19), none⟩])
 (.cond (.tmp 13) .skip
 (.ops [⟨(some 20), .load false 1 (.tmp 5), none⟩, ⟨(some 21), .faddr 1 (.tmp 3), none⟩, ⟨(some 22), .load false 1 (.tmp 21), none⟩, ⟨(some 23), .bin .geq (.tmp 20) (.tmp 22), none⟩, ⟨(some 13), .mv (.tmp 23), none⟩])))))))
 (.cond (.tmp 13) (.seq (.ops [⟨none, .store 1 (.tmp 6) (.const (.int .i64 0)), none⟩, ⟨none, .store 1 (.tmp 7) (.const (.int .i64 1)), none⟩])
 .ret)
 (.seq (.seq (.ops [⟨(some 25), .load false 1 (.tmp 4), none⟩, ⟨(some 26), .bin .eql (.tmp 25) (.const (.int .i64 0)), none⟩, ⟨(some 24), .mv (.tmp 26), none⟩])
 (.cond (.tmp 24) .skip
 (.ops [⟨(some 27), .load false 1 (.tmp 4), none⟩, ⟨(some 28), .bin .eql (.tmp 27) (.const (.int .i64 4)), none⟩, ⟨(some 24), .mv (.tmp 28), none⟩])))
 (.cond (.tmp 24) (.ops [⟨none, .store 1 (.tmp 5) (.const (.int .i64 0)), none⟩])
 .skip)))))))
 (.seq (.seq (.ops [⟨(some 29), .load true 3 (.tmp 3), none⟩, ⟨(some 30), .call (.func 54) [(.tmp 29)], none⟩])
 (.block 1 (.range (.tmp 30) [31] (.ops [⟨(some 8), .alloc [(.int .i64 0), (.int .i64 0), (.int .i64 0), (.int .i64 0)], none⟩, ⟨none, .store 4 (.tmp 8) (.tmp 31), none⟩])
 (.block 2 (.seq (.ops [⟨(some 32), .faddr 0 (.tmp 8), none⟩, ⟨(some 33), .load false 1 (.tmp 32), none⟩, ⟨(some 34), .load false 1 (.tmp 4), none⟩, ⟨(some 35), .bin .eql (.tmp 33) (.tmp 34), none⟩, ⟨(some 36), .mv (.tmp 35), none⟩, ⟨(some 37), .faddr 1 (.tmp 8), (some (36, true))⟩, ⟨(some 38), .load false 1 (.tmp 37), (some (36, true))⟩, ⟨(some 39), .load false 1 (.tmp 5), (some (36, true))⟩, ⟨(some 40), .bin .eql (.tmp 38) (.tmp 39), (some (36, true))⟩, ⟨(some 41), .pick (.tmp 36) (.tmp 40) (.const (.bool false)), none⟩])
 (.cond (.tmp 41) (.seq (.ops [⟨(some 42), .faddr 2 (.tmp 8), none⟩, ⟨(some 43), .load false 1 (.tmp 42), none⟩, ⟨none, .store 1 (.tmp 6) (.tmp 43), none⟩, ⟨none, .store 1 (.tmp 7) (.const (.int .i64 0)), none⟩])
 .ret)
 .skip))))))
 (.seq (.ops [⟨none, .store 1 (.tmp 6) (.const (.int .i64 0)), none⟩, ⟨none, .store 1 (.tmp 7) (.const (.int .i64 1)), none⟩])
 .ret)))),
 44, [.cell 6 false 1, .cell 7 false 1]⟩
theorem low10 : lowerFn Tryz.prog Tryz.f26 = some L10 := by kernel_rfl
noncomputable def G10 (B : OH) : Nat → Cs
  | 34 => V13 B
  | 54 => V15 B
  | _ => fun _ _ _ => none
theorem G10_13 {B : OH} : G10 B 34 = V13 B := rfl
theorem G10_15 {B : OH} : G10 B 54 = V15 B := rfl
noncomputable abbrev E10 (B : OH) : Env := { f := G10 B, it := itR B }
theorem sG10 {w0 : World} {B : OH} : SoundG Tryz.prog w0 B (E10 B) :=
  ⟨fun k => by
    show (∀ args H N, G10 B k args H N = none) ∨ _
    unfold G10
    split
    · exact .inr ⟨en13, sV13⟩
    · exact .inr ⟨en15, sV15⟩
    · exact .inl fun _ _ _ => rfl, fun _ => .inl fun _ _ _ => rfl, sItR⟩
theorem en10 : Enter Tryz.prog 26 := .of Tryz.func26 (by kernel_rfl) (by kernel_rfl)
noncomputable def T10 (B : OH) : Cs := callF B (E10 B) 300 L10
theorem sT10 {w0 : World} {B : OH} : SoundC Tryz.prog w0 B 26 (T10 B) := callF_sound mixedOrders sG10 300 Tryz.func26 low10
noncomputable def F10 (B : OH) : List Value → Option Value := kval B (T10 B)
noncomputable def V10 (B : OH) : Cs := fun a H N => pvE (F10 B a) H N
theorem V10_eq {B : OH} {a : List Value} {H : HL} {N : St} : V10 B a H N = pvE (F10 B a) H N := rfl
theorem sV10 {w0 : World} {B : OH} : SoundC Tryz.prog w0 B 26 (V10 B) := sT10.ofVal
set_option maxHeartbeats 4000000 in
theorem f10a {B : OH} (hG : ∃ H N, good B H N) (hT : Tab B) {kk p cc h : Nat} (hk : 1 ≤ kk ∧ kk ≤ 5) (hp : 1 ≤ p ∧ p ≤ 16) (hc : 1 ≤ cc ∧ cc ≤ 256) (hm' : hm kk cc = (h : Int)) {k0 o0 : Nat} (hk0 : k0 < 5) (ho0 : o0 < mn p k0) (hne : k0 ≠ 0 ∧ k0 ≠ 4) : F10 B [.agg #[.int .i64 (kk : Int), .int .i64 (p : Int), .int .i64 (cc : Int)], .int .i64 (k0 : Int), .int .i64 (o0 : Int)] = some (.tuple #[.int .i64 (fr p h k0 o0 : Int), .int .i64 0]) := by
  refine kval_eq hG fun H N hN => ?_
  have hB := good_B hN
  have hR := good_rdB hN
  have hI := beqN hN.1.1
  have e13 := f13 hG kk p cc (by omega) (by omega) (by omega)
  have hh : 1 ≤ h ∧ h ≤ 1026 := by have := hm_bounds (k := kk) (c := cc) (by omega) (by omega); omega
  have hmn := mn_le (p := p) (k := k0) (by omega)
  have k1 : ¬ (k0 : Int) < 0 := by omega
  have k2 : ¬ (k0 : Int) > 4 := by omega
  have p1 : ¬ (o0 : Int) < 0 := by omega
  have p2 : ¬ (o0 : Int) ≥ (p : Int) := by omega
  have e0 : ((k0 : Int) == 0) = false := eqbI (by omega)
  have e4 : ((k0 : Int) == 4) = false := eqbI (by omega)
  have e00 : ((0 : Nat) : Int) = 0 := rfl
  simp (disch := omega) only [T10, L10, G10_13, V13_eq, G10_15, V15, T15, L15, itR_17, hB, hR, hI, e13, k1, k2, p1, p2, e0, e4, e00, all1, lenV, ress, res1, retV, Value.cells, newsV_s, e_fork, slcV, seval, eV]
  generalize hX : I17 B _ _ _ _ = o
  have hO : ∃ v H' N', o = some (.ret v, H', N') ∧ good B H' N' ∧ (∀ x, ¬ (x = N 7 ∨ x = N 1 ∨ x = N 2 ∨ x = N 3 ∨ x = N 4) → ∀ c, lk ((N.n 7, KB.loop (N.r 7) LSt.ready) :: (N.n 6, KB.dfr) :: (N.n 5, KB.cells [.int .i64 (kk : Int), .int .i64 (p : Int), .int .i64 (cc : Int)] 3) :: (N.n 4, KB.cells [.int .i64 0] 1) :: (N.n 3, KB.cells [.int .i64 0] 1) :: (N.n 2, KB.cells [.int .i64 (o0 : Int)] 1) :: (N.n 1, KB.cells [.int .i64 (k0 : Int)] 1) :: (N.n 0, KB.cells [.int .i64 (kk : Int), .int .i64 (p : Int), .int .i64 (cc : Int)] 3) :: H) x = some c → lk H' x = some c) ∧ ((lk H' (N 7) = some (.loop (N.r 7) .ready) ∧ lk H' (N 1) = some (.cells [.int .i64 (k0 : Int)] 1) ∧ lk H' (N 2) = some (.cells [.int .i64 (o0 : Int)] 1) ∧ lk H' (N 3) = some (.cells [.int .i64 0] 1) ∧ lk H' (N 4) = some (.cells [.int .i64 0] 1) ∧ ¬ Lt k0 o0 5 0) ∨ (lk H' (N 7) = some (.loop (N.r 7) (.done none)) ∧ lk H' (N 3) = some (.cells [.int .i64 (fr p h k0 o0 : Int)] 1) ∧ lk H' (N 4) = some (.cells [.int .i64 0] 1))) := by
    rw [← hX]
    refine it17 (kk := kk) (cc := cc) (Own := fun x => x = N 7 ∨ x = N 1 ∨ x = N 2 ∨ x = N 3 ∨ x = N 4) (J := fun kx ox H' => lk H' (N 7) = some (.loop (N.r 7) .ready) ∧ lk H' (N 1) = some (.cells [.int .i64 (k0 : Int)] 1) ∧ lk H' (N 2) = some (.cells [.int .i64 (o0 : Int)] 1) ∧ lk H' (N 3) = some (.cells [.int .i64 0] 1) ∧ lk H' (N 4) = some (.cells [.int .i64 0] 1) ∧ ¬ Lt k0 o0 kx ox) (Jx := fun H' => lk H' (N 7) = some (.loop (N.r 7) (.done none)) ∧ lk H' (N 3) = some (.cells [.int .i64 (fr p h k0 o0 : Int)] 1) ∧ lk H' (N 4) = some (.cells [.int .i64 0] 1)) hT ⟨?_, ?_, ?_, ?_⟩ hk hp hc hm' ?_ ?_ ?_ ?_ ?_
    · rintro k o H b ⟨h7, h1, h2, h3, h4, hx⟩ (rfl | rfl | rfl | rfl | rfl)
      · exact ⟨_, h7⟩
      · exact ⟨_, h1⟩
      · exact ⟨_, h2⟩
      · exact ⟨_, h3⟩
      · exact ⟨_, h4⟩
    · rintro k o H H' ⟨h7, h1, h2, h3, h4, hx⟩ g
      exact ⟨(g _ (by simp)).trans h7, (g _ (by simp)).trans h1, (g _ (by simp)).trans h2, (g _ (by simp)).trans h3, (g _ (by simp)).trans h4, hx⟩
    · rintro k H ⟨h7, h1, h2, h3, h4, hx⟩
      exact ⟨h7, h1, h2, h3, h4, nextLt ho0 hx⟩
    · rintro k o H N1 hk5 ho ⟨h7, h1, h2, h3, h4, hx⟩ hN1
      have hBo := hB
      have hB := good_B hN1
      have hR := good_rdB hN1
      have hI := beqN hN1.1.1
      have hIo := beqN hN.1.1
      have b7 := hBo 7
      have r7 := fun o n => rdB_none (o := o) (n := n) b7
      have m7 := fun j => ne_good hN1 b7 h7 j
      have w7 := fun j => ne_good' hN1 b7 h7 j
      have b1 := hBo 1
      have r1 := fun o n => rdB_none (o := o) (n := n) b1
      have m1 := fun j => ne_good hN1 b1 h1 j
      have w1 := fun j => ne_good' hN1 b1 h1 j
      have b2 := hBo 2
      have r2 := fun o n => rdB_none (o := o) (n := n) b2
      have m2 := fun j => ne_good hN1 b2 h2 j
      have w2 := fun j => ne_good' hN1 b2 h2 j
      have b3 := hBo 3
      have r3 := fun o n => rdB_none (o := o) (n := n) b3
      have m3 := fun j => ne_good hN1 b3 h3 j
      have w3 := fun j => ne_good' hN1 b3 h3 j
      have b4 := hBo 4
      have r4 := fun o n => rdB_none (o := o) (n := n) b4
      have m4 := fun j => ne_good hN1 b4 h4 j
      have w4 := fun j => ne_good' hN1 b4 h4 j
      have hb := fr_bnd (k := k) (o := o) hp hh hk5 ho
      have hs : (fr p h k (o + 1) : Int) = (fr p h k o : Int) + (sz p h k : Int) := by rw [fr_succ]; omega
      simp only [wy_same, y_call]
      unfold pt
      by_cases hk' : k = k0
      · subst hk'
        by_cases ho' : o = o0
        · subst ho'
          simp (disch := omega) only [T10, L10, G10_13, V13_eq, G10_15, V15, T15, L15, itR_17, hB, hR, hI, h7, b7, r7, m7, w7, h1, b1, r1, m1, w1, h2, b2, r2, m2, w2, h3, b3, r3, m3, w3, h4, b4, r4, m4, w4, hIo, all1, lenV, ress, res1, retV, Value.cells, newsV_s, e_fork, slcV, seval, eV]
          refine ⟨false, _, _, rfl, good_set (k' := .loop (N.r 7) .busy) (good_set (k' := .loop (N.r 7) .ready) (good_new (good_up (k' := .cells [.int .i64 0] 1) (good_up (k' := .cells [.int .i64 0] 1) hN1 b3 h3) b4 ?_)) b7 ?_) b7 ?_, fun x hx c hc => ?_, fun h => (by cases h), fun _ => ?_⟩
          · simp (disch := omega) only [T10, L10, G10_13, V13_eq, G10_15, V15, T15, L15, itR_17, hB, hR, hI, h7, b7, r7, m7, w7, h1, b1, r1, m1, w1, h2, b2, r2, m2, w2, h3, b3, r3, m3, w3, h4, b4, r4, m4, w4, hIo, all1, lenV, ress, res1, retV, Value.cells, newsV_s, e_fork, slcV, seval, eV]
          · simp (disch := omega) only [T10, L10, G10_13, V13_eq, G10_15, V15, T15, L15, itR_17, hB, hR, hI, h7, b7, r7, m7, w7, h1, b1, r1, m1, w1, h2, b2, r2, m2, w2, h3, b3, r3, m3, w3, h4, b4, r4, m4, w4, hIo, all1, lenV, ress, res1, retV, Value.cells, newsV_s, e_fork, slcV, seval, eV]
          · simp (disch := omega) only [T10, L10, G10_13, V13_eq, G10_15, V15, T15, L15, itR_17, hB, hR, hI, h7, b7, r7, m7, w7, h1, b1, r1, m1, w1, h2, b2, r2, m2, w2, h3, b3, r3, m3, w3, h4, b4, r4, m4, w4, hIo, all1, lenV, ress, res1, retV, Value.cells, newsV_s, e_fork, slcV, seval, eV]
          · have xn := ne_of_lk hN1 hc 0
            have x7 := eqb (fun h : x = N 7 => hx (by simp [h]))
            have x1 := eqb (fun h : x = N 1 => hx (by simp [h]))
            have x2 := eqb (fun h : x = N 2 => hx (by simp [h]))
            have x3 := eqb (fun h : x = N 3 => hx (by simp [h]))
            have x4 := eqb (fun h : x = N 4 => hx (by simp [h]))
            simp (disch := omega) only [T10, L10, G10_13, V13_eq, G10_15, V15, T15, L15, itR_17, hB, hR, hI, xn, hc, x7, x1, x2, x3, x4, all1, lenV, ress, res1, retV, Value.cells, newsV_s, e_fork, slcV, seval, eV]
          · refine ⟨?_, ?_, ?_⟩
            all_goals simp (disch := omega) only [T10, L10, G10_13, V13_eq, G10_15, V15, T15, L15, itR_17, hB, hR, hI, h7, b7, r7, m7, w7, h1, b1, r1, m1, w1, h2, b2, r2, m2, w2, h3, b3, r3, m3, w3, h4, b4, r4, m4, w4, hIo, all1, lenV, ress, res1, retV, Value.cells, newsV_s, e_fork, slcV, seval, eV]
        · have q2 : ((o : Int) == (o0 : Int)) = false := eqbI (by omega)
          simp (disch := omega) only [T10, L10, G10_13, V13_eq, G10_15, V15, T15, L15, itR_17, hB, hR, hI, h7, b7, r7, m7, w7, h1, b1, r1, m1, w1, h2, b2, r2, m2, w2, h3, b3, r3, m3, w3, h4, b4, r4, m4, w4, hIo, q2, all1, lenV, ress, res1, retV, Value.cells, newsV_s, e_fork, slcV, seval, eV]
          refine ⟨true, _, _, rfl, good_set (k' := .loop (N.r 7) .busy) (good_set (k' := .loop (N.r 7) .ready) (good_new hN1) b7 ?_) b7 ?_, fun x hx c hc => ?_, fun _ => ?_, fun h => (by cases h)⟩
          · simp (disch := omega) only [T10, L10, G10_13, V13_eq, G10_15, V15, T15, L15, itR_17, hB, hR, hI, h7, b7, r7, m7, w7, h1, b1, r1, m1, w1, h2, b2, r2, m2, w2, h3, b3, r3, m3, w3, h4, b4, r4, m4, w4, hIo, all1, lenV, ress, res1, retV, Value.cells, newsV_s, e_fork, slcV, seval, eV]
          · simp (disch := omega) only [T10, L10, G10_13, V13_eq, G10_15, V15, T15, L15, itR_17, hB, hR, hI, h7, b7, r7, m7, w7, h1, b1, r1, m1, w1, h2, b2, r2, m2, w2, h3, b3, r3, m3, w3, h4, b4, r4, m4, w4, hIo, all1, lenV, ress, res1, retV, Value.cells, newsV_s, e_fork, slcV, seval, eV]
          · have xn := ne_of_lk hN1 hc 0
            have x7 := eqb (fun h : x = N 7 => hx (by simp [h]))
            have x1 := eqb (fun h : x = N 1 => hx (by simp [h]))
            have x2 := eqb (fun h : x = N 2 => hx (by simp [h]))
            have x3 := eqb (fun h : x = N 3 => hx (by simp [h]))
            have x4 := eqb (fun h : x = N 4 => hx (by simp [h]))
            simp (disch := omega) only [T10, L10, G10_13, V13_eq, G10_15, V15, T15, L15, itR_17, hB, hR, hI, xn, hc, x7, x1, x2, x3, x4, all1, lenV, ress, res1, retV, Value.cells, newsV_s, e_fork, slcV, seval, eV]
          · refine ⟨?_, ?_, ?_, ?_, ?_, by unfold Lt at *; omega⟩
            all_goals simp (disch := omega) only [T10, L10, G10_13, V13_eq, G10_15, V15, T15, L15, itR_17, hB, hR, hI, h7, b7, r7, m7, w7, h1, b1, r1, m1, w1, h2, b2, r2, m2, w2, h3, b3, r3, m3, w3, h4, b4, r4, m4, w4, hIo, all1, lenV, ress, res1, retV, Value.cells, newsV_s, e_fork, slcV, seval, eV]
      · have q1 : ((k : Int) == (k0 : Int)) = false := eqbI (by omega)
        simp (disch := omega) only [T10, L10, G10_13, V13_eq, G10_15, V15, T15, L15, itR_17, hB, hR, hI, h7, b7, r7, m7, w7, h1, b1, r1, m1, w1, h2, b2, r2, m2, w2, h3, b3, r3, m3, w3, h4, b4, r4, m4, w4, hIo, q1, all1, lenV, ress, res1, retV, Value.cells, newsV_s, e_fork, slcV, seval, eV]
        refine ⟨true, _, _, rfl, good_set (k' := .loop (N.r 7) .busy) (good_set (k' := .loop (N.r 7) .ready) (good_new hN1) b7 ?_) b7 ?_, fun x hx c hc => ?_, fun _ => ?_, fun h => (by cases h)⟩
        · simp (disch := omega) only [T10, L10, G10_13, V13_eq, G10_15, V15, T15, L15, itR_17, hB, hR, hI, h7, b7, r7, m7, w7, h1, b1, r1, m1, w1, h2, b2, r2, m2, w2, h3, b3, r3, m3, w3, h4, b4, r4, m4, w4, hIo, all1, lenV, ress, res1, retV, Value.cells, newsV_s, e_fork, slcV, seval, eV]
        · simp (disch := omega) only [T10, L10, G10_13, V13_eq, G10_15, V15, T15, L15, itR_17, hB, hR, hI, h7, b7, r7, m7, w7, h1, b1, r1, m1, w1, h2, b2, r2, m2, w2, h3, b3, r3, m3, w3, h4, b4, r4, m4, w4, hIo, all1, lenV, ress, res1, retV, Value.cells, newsV_s, e_fork, slcV, seval, eV]
        · have xn := ne_of_lk hN1 hc 0
          have x7 := eqb (fun h : x = N 7 => hx (by simp [h]))
          have x1 := eqb (fun h : x = N 1 => hx (by simp [h]))
          have x2 := eqb (fun h : x = N 2 => hx (by simp [h]))
          have x3 := eqb (fun h : x = N 3 => hx (by simp [h]))
          have x4 := eqb (fun h : x = N 4 => hx (by simp [h]))
          simp (disch := omega) only [T10, L10, G10_13, V13_eq, G10_15, V15, T15, L15, itR_17, hB, hR, hI, xn, hc, x7, x1, x2, x3, x4, all1, lenV, ress, res1, retV, Value.cells, newsV_s, e_fork, slcV, seval, eV]
        · refine ⟨?_, ?_, ?_, ?_, ?_, by unfold Lt at *; omega⟩
          all_goals simp (disch := omega) only [T10, L10, G10_13, V13_eq, G10_15, V15, T15, L15, itR_17, hB, hR, hI, h7, b7, r7, m7, w7, h1, b1, r1, m1, w1, h2, b2, r2, m2, w2, h3, b3, r3, m3, w3, h4, b4, r4, m4, w4, hIo, all1, lenV, ress, res1, retV, Value.cells, newsV_s, e_fork, slcV, seval, eV]
    · rintro (h | h | h | h | h)
      all_goals { have g := hI 5; simp only [h, hI] at g; have g7 := g 7; have g1 := g 1; have g2 := g 2; have g3 := g 3; have g4 := g 4; simp [h] at g7 g1 g2 g3 g4 }
    · exact (good_new (good_new (good_new (good_new (good_new (good_new (good_new (good_new hN))))))))
    · simp (disch := omega) only [T10, L10, G10_13, V13_eq, G10_15, V15, T15, L15, itR_17, hB, hR, hI, all1, lenV, ress, res1, retV, Value.cells, newsV_s, e_fork, slcV, seval, eV]
    · exact hB 5
    · refine ⟨?_, ?_, ?_, ?_, ?_, by unfold Lt; omega⟩
      all_goals simp (disch := omega) only [T10, L10, G10_13, V13_eq, G10_15, V15, T15, L15, itR_17, hB, hR, hI, e00, all1, lenV, ress, res1, retV, Value.cells, newsV_s, e_fork, slcV, seval, eV]
  obtain ⟨v, H2, N2, rfl, g2, f2, ⟨h7, h1, h2, h3, h4, hx⟩ | ⟨h7, h3, h4⟩⟩ := hO
  · exact (hx (by unfold Lt; omega)).elim
  · have r3 := hR 3
    have r4 := hR 4
    simp (disch := omega) only [T10, L10, G10_13, V13_eq, G10_15, V15, T15, L15, itR_17, hB, hR, hI, h7, h3, h4, all1, lenV, ress, res1, retV, Value.cells, newsV_s, e_fork, slcV, seval, eV]
    refine ⟨_, _, rfl, ext_lk fun r x hr hx => ?_⟩
    have xn := ne_of_lk hN hx
    have q := f2 r (by
      rintro (rfl | rfl | rfl | rfl | rfl)
      all_goals simp [hI] at xn) x (by simp (disch := omega) only [xn, hx, e_loop, all1, lenV, ress, res1, retV, Value.cells, newsV_s, e_fork, slcV, seval, eV])
    simp (disch := omega) only [T10, L10, G10_13, V13_eq, G10_15, V15, T15, L15, itR_17, hB, hR, hI, xn, q, all1, lenV, ress, res1, retV, Value.cells, newsV_s, e_fork, slcV, seval, eV]
set_option maxHeartbeats 4000000 in
theorem f10b {B : OH} (hG : ∃ H N, good B H N) (hT : Tab B) {kk p cc h : Nat} (hk : 1 ≤ kk ∧ kk ≤ 5) (hp : 1 ≤ p ∧ p ≤ 16) (hc : 1 ≤ cc ∧ cc ≤ 256) (hm' : hm kk cc = (h : Int)) {k0 o0 : Nat} (hk0 : k0 < 5) (ho0 : o0 < mn p k0) (hne : k0 = 0) : F10 B [.agg #[.int .i64 (kk : Int), .int .i64 (p : Int), .int .i64 (cc : Int)], .int .i64 (k0 : Int), .int .i64 (o0 : Int)] = some (.tuple #[.int .i64 (fr p h k0 o0 : Int), .int .i64 0]) := by
  refine kval_eq hG fun H N hN => ?_
  have hB := good_B hN
  have hR := good_rdB hN
  have hI := beqN hN.1.1
  have e13 := f13 hG kk p cc (by omega) (by omega) (by omega)
  have hh : 1 ≤ h ∧ h ≤ 1026 := by have := hm_bounds (k := kk) (c := cc) (by omega) (by omega); omega
  have hmn := mn_le (p := p) (k := k0) (by omega)
  have k1 : ¬ (k0 : Int) < 0 := by omega
  have k2 : ¬ (k0 : Int) > 4 := by omega
  have p1 : ¬ (o0 : Int) < 0 := by omega
  have p2 : ¬ (o0 : Int) ≥ (p : Int) := by omega
  have e0 : ((k0 : Int) == 0) = true := by rw [hne]; rfl
  have e4 : ((k0 : Int) == 4) = false := eqbI (by omega)
  obtain rfl : o0 = 0 := by subst hne; simpa [mn] using ho0
  have e00 : ((0 : Nat) : Int) = 0 := rfl
  have p2 : ¬ 0 ≥ (p : Int) := by omega
  simp (disch := omega) only [T10, L10, G10_13, V13_eq, G10_15, V15, T15, L15, itR_17, hB, hR, hI, e13, k1, k2, p1, p2, e0, e4, e00, all1, lenV, ress, res1, retV, Value.cells, newsV_s, e_fork, slcV, seval, eV]
  generalize hX : I17 B _ _ _ _ = o
  have hO : ∃ v H' N', o = some (.ret v, H', N') ∧ good B H' N' ∧ (∀ x, ¬ (x = N 7 ∨ x = N 1 ∨ x = N 2 ∨ x = N 3 ∨ x = N 4) → ∀ c, lk ((N.n 7, KB.loop (N.r 7) LSt.ready) :: (N.n 6, KB.dfr) :: (N.n 5, KB.cells [.int .i64 (kk : Int), .int .i64 (p : Int), .int .i64 (cc : Int)] 3) :: (N.n 4, KB.cells [.int .i64 0] 1) :: (N.n 3, KB.cells [.int .i64 0] 1) :: (N.n 2, KB.cells [.int .i64 0] 1) :: (N.n 1, KB.cells [.int .i64 (k0 : Int)] 1) :: (N.n 0, KB.cells [.int .i64 (kk : Int), .int .i64 (p : Int), .int .i64 (cc : Int)] 3) :: H) x = some c → lk H' x = some c) ∧ ((lk H' (N 7) = some (.loop (N.r 7) .ready) ∧ lk H' (N 1) = some (.cells [.int .i64 (k0 : Int)] 1) ∧ lk H' (N 2) = some (.cells [.int .i64 0] 1) ∧ lk H' (N 3) = some (.cells [.int .i64 0] 1) ∧ lk H' (N 4) = some (.cells [.int .i64 0] 1) ∧ ¬ Lt k0 0 5 0) ∨ (lk H' (N 7) = some (.loop (N.r 7) (.done none)) ∧ lk H' (N 3) = some (.cells [.int .i64 (fr p h k0 0 : Int)] 1) ∧ lk H' (N 4) = some (.cells [.int .i64 0] 1))) := by
    rw [← hX]
    refine it17 (kk := kk) (cc := cc) (Own := fun x => x = N 7 ∨ x = N 1 ∨ x = N 2 ∨ x = N 3 ∨ x = N 4) (J := fun kx ox H' => lk H' (N 7) = some (.loop (N.r 7) .ready) ∧ lk H' (N 1) = some (.cells [.int .i64 (k0 : Int)] 1) ∧ lk H' (N 2) = some (.cells [.int .i64 0] 1) ∧ lk H' (N 3) = some (.cells [.int .i64 0] 1) ∧ lk H' (N 4) = some (.cells [.int .i64 0] 1) ∧ ¬ Lt k0 0 kx ox) (Jx := fun H' => lk H' (N 7) = some (.loop (N.r 7) (.done none)) ∧ lk H' (N 3) = some (.cells [.int .i64 (fr p h k0 0 : Int)] 1) ∧ lk H' (N 4) = some (.cells [.int .i64 0] 1)) hT ⟨?_, ?_, ?_, ?_⟩ hk hp hc hm' ?_ ?_ ?_ ?_ ?_
    · rintro k o H b ⟨h7, h1, h2, h3, h4, hx⟩ (rfl | rfl | rfl | rfl | rfl)
      · exact ⟨_, h7⟩
      · exact ⟨_, h1⟩
      · exact ⟨_, h2⟩
      · exact ⟨_, h3⟩
      · exact ⟨_, h4⟩
    · rintro k o H H' ⟨h7, h1, h2, h3, h4, hx⟩ g
      exact ⟨(g _ (by simp)).trans h7, (g _ (by simp)).trans h1, (g _ (by simp)).trans h2, (g _ (by simp)).trans h3, (g _ (by simp)).trans h4, hx⟩
    · rintro k H ⟨h7, h1, h2, h3, h4, hx⟩
      exact ⟨h7, h1, h2, h3, h4, nextLt ho0 hx⟩
    · rintro k o H N1 hk5 ho ⟨h7, h1, h2, h3, h4, hx⟩ hN1
      have hBo := hB
      have hB := good_B hN1
      have hR := good_rdB hN1
      have hI := beqN hN1.1.1
      have hIo := beqN hN.1.1
      have b7 := hBo 7
      have r7 := fun o n => rdB_none (o := o) (n := n) b7
      have m7 := fun j => ne_good hN1 b7 h7 j
      have w7 := fun j => ne_good' hN1 b7 h7 j
      have b1 := hBo 1
      have r1 := fun o n => rdB_none (o := o) (n := n) b1
      have m1 := fun j => ne_good hN1 b1 h1 j
      have w1 := fun j => ne_good' hN1 b1 h1 j
      have b2 := hBo 2
      have r2 := fun o n => rdB_none (o := o) (n := n) b2
      have m2 := fun j => ne_good hN1 b2 h2 j
      have w2 := fun j => ne_good' hN1 b2 h2 j
      have b3 := hBo 3
      have r3 := fun o n => rdB_none (o := o) (n := n) b3
      have m3 := fun j => ne_good hN1 b3 h3 j
      have w3 := fun j => ne_good' hN1 b3 h3 j
      have b4 := hBo 4
      have r4 := fun o n => rdB_none (o := o) (n := n) b4
      have m4 := fun j => ne_good hN1 b4 h4 j
      have w4 := fun j => ne_good' hN1 b4 h4 j
      have hb := fr_bnd (k := k) (o := o) hp hh hk5 ho
      have hs : (fr p h k (o + 1) : Int) = (fr p h k o : Int) + (sz p h k : Int) := by rw [fr_succ]; omega
      simp only [wy_same, y_call]
      unfold pt
      by_cases hk' : k = k0
      · subst hk'
        by_cases ho' : o = 0
        · subst ho'
          simp (disch := omega) only [T10, L10, G10_13, V13_eq, G10_15, V15, T15, L15, itR_17, hB, hR, hI, e00, h7, b7, r7, m7, w7, h1, b1, r1, m1, w1, h2, b2, r2, m2, w2, h3, b3, r3, m3, w3, h4, b4, r4, m4, w4, hIo, all1, lenV, ress, res1, retV, Value.cells, newsV_s, e_fork, slcV, seval, eV]
          refine ⟨false, _, _, rfl, good_set (k' := .loop (N.r 7) .busy) (good_set (k' := .loop (N.r 7) .ready) (good_new (good_up (k' := .cells [.int .i64 0] 1) (good_up (k' := .cells [.int .i64 0] 1) hN1 b3 h3) b4 ?_)) b7 ?_) b7 ?_, fun x hx c hc => ?_, fun h => (by cases h), fun _ => ?_⟩
          · simp (disch := omega) only [T10, L10, G10_13, V13_eq, G10_15, V15, T15, L15, itR_17, hB, hR, hI, e00, h7, b7, r7, m7, w7, h1, b1, r1, m1, w1, h2, b2, r2, m2, w2, h3, b3, r3, m3, w3, h4, b4, r4, m4, w4, hIo, all1, lenV, ress, res1, retV, Value.cells, newsV_s, e_fork, slcV, seval, eV]
          · simp (disch := omega) only [T10, L10, G10_13, V13_eq, G10_15, V15, T15, L15, itR_17, hB, hR, hI, e00, h7, b7, r7, m7, w7, h1, b1, r1, m1, w1, h2, b2, r2, m2, w2, h3, b3, r3, m3, w3, h4, b4, r4, m4, w4, hIo, all1, lenV, ress, res1, retV, Value.cells, newsV_s, e_fork, slcV, seval, eV]
          · simp (disch := omega) only [T10, L10, G10_13, V13_eq, G10_15, V15, T15, L15, itR_17, hB, hR, hI, e00, h7, b7, r7, m7, w7, h1, b1, r1, m1, w1, h2, b2, r2, m2, w2, h3, b3, r3, m3, w3, h4, b4, r4, m4, w4, hIo, all1, lenV, ress, res1, retV, Value.cells, newsV_s, e_fork, slcV, seval, eV]
          · have xn := ne_of_lk hN1 hc 0
            have x7 := eqb (fun h : x = N 7 => hx (by simp [h]))
            have x1 := eqb (fun h : x = N 1 => hx (by simp [h]))
            have x2 := eqb (fun h : x = N 2 => hx (by simp [h]))
            have x3 := eqb (fun h : x = N 3 => hx (by simp [h]))
            have x4 := eqb (fun h : x = N 4 => hx (by simp [h]))
            simp (disch := omega) only [T10, L10, G10_13, V13_eq, G10_15, V15, T15, L15, itR_17, hB, hR, hI, xn, hc, x7, x1, x2, x3, x4, all1, lenV, ress, res1, retV, Value.cells, newsV_s, e_fork, slcV, seval, eV]
          · refine ⟨?_, ?_, ?_⟩
            all_goals simp (disch := omega) only [T10, L10, G10_13, V13_eq, G10_15, V15, T15, L15, itR_17, hB, hR, hI, e00, h7, b7, r7, m7, w7, h1, b1, r1, m1, w1, h2, b2, r2, m2, w2, h3, b3, r3, m3, w3, h4, b4, r4, m4, w4, hIo, all1, lenV, ress, res1, retV, Value.cells, newsV_s, e_fork, slcV, seval, eV]
        · have q2 : ((o : Int) == 0) = false := eqbI (by omega)
          simp (disch := omega) only [T10, L10, G10_13, V13_eq, G10_15, V15, T15, L15, itR_17, hB, hR, hI, e00, h7, b7, r7, m7, w7, h1, b1, r1, m1, w1, h2, b2, r2, m2, w2, h3, b3, r3, m3, w3, h4, b4, r4, m4, w4, hIo, q2, all1, lenV, ress, res1, retV, Value.cells, newsV_s, e_fork, slcV, seval, eV]
          refine ⟨true, _, _, rfl, good_set (k' := .loop (N.r 7) .busy) (good_set (k' := .loop (N.r 7) .ready) (good_new hN1) b7 ?_) b7 ?_, fun x hx c hc => ?_, fun _ => ?_, fun h => (by cases h)⟩
          · simp (disch := omega) only [T10, L10, G10_13, V13_eq, G10_15, V15, T15, L15, itR_17, hB, hR, hI, e00, h7, b7, r7, m7, w7, h1, b1, r1, m1, w1, h2, b2, r2, m2, w2, h3, b3, r3, m3, w3, h4, b4, r4, m4, w4, hIo, all1, lenV, ress, res1, retV, Value.cells, newsV_s, e_fork, slcV, seval, eV]
          · simp (disch := omega) only [T10, L10, G10_13, V13_eq, G10_15, V15, T15, L15, itR_17, hB, hR, hI, e00, h7, b7, r7, m7, w7, h1, b1, r1, m1, w1, h2, b2, r2, m2, w2, h3, b3, r3, m3, w3, h4, b4, r4, m4, w4, hIo, all1, lenV, ress, res1, retV, Value.cells, newsV_s, e_fork, slcV, seval, eV]
          · have xn := ne_of_lk hN1 hc 0
            have x7 := eqb (fun h : x = N 7 => hx (by simp [h]))
            have x1 := eqb (fun h : x = N 1 => hx (by simp [h]))
            have x2 := eqb (fun h : x = N 2 => hx (by simp [h]))
            have x3 := eqb (fun h : x = N 3 => hx (by simp [h]))
            have x4 := eqb (fun h : x = N 4 => hx (by simp [h]))
            simp (disch := omega) only [T10, L10, G10_13, V13_eq, G10_15, V15, T15, L15, itR_17, hB, hR, hI, xn, hc, x7, x1, x2, x3, x4, all1, lenV, ress, res1, retV, Value.cells, newsV_s, e_fork, slcV, seval, eV]
          · refine ⟨?_, ?_, ?_, ?_, ?_, by unfold Lt at *; omega⟩
            all_goals simp (disch := omega) only [T10, L10, G10_13, V13_eq, G10_15, V15, T15, L15, itR_17, hB, hR, hI, e00, h7, b7, r7, m7, w7, h1, b1, r1, m1, w1, h2, b2, r2, m2, w2, h3, b3, r3, m3, w3, h4, b4, r4, m4, w4, hIo, all1, lenV, ress, res1, retV, Value.cells, newsV_s, e_fork, slcV, seval, eV]
      · have q1 : ((k : Int) == (k0 : Int)) = false := eqbI (by omega)
        simp (disch := omega) only [T10, L10, G10_13, V13_eq, G10_15, V15, T15, L15, itR_17, hB, hR, hI, e00, h7, b7, r7, m7, w7, h1, b1, r1, m1, w1, h2, b2, r2, m2, w2, h3, b3, r3, m3, w3, h4, b4, r4, m4, w4, hIo, q1, all1, lenV, ress, res1, retV, Value.cells, newsV_s, e_fork, slcV, seval, eV]
        refine ⟨true, _, _, rfl, good_set (k' := .loop (N.r 7) .busy) (good_set (k' := .loop (N.r 7) .ready) (good_new hN1) b7 ?_) b7 ?_, fun x hx c hc => ?_, fun _ => ?_, fun h => (by cases h)⟩
        · simp (disch := omega) only [T10, L10, G10_13, V13_eq, G10_15, V15, T15, L15, itR_17, hB, hR, hI, e00, h7, b7, r7, m7, w7, h1, b1, r1, m1, w1, h2, b2, r2, m2, w2, h3, b3, r3, m3, w3, h4, b4, r4, m4, w4, hIo, all1, lenV, ress, res1, retV, Value.cells, newsV_s, e_fork, slcV, seval, eV]
        · simp (disch := omega) only [T10, L10, G10_13, V13_eq, G10_15, V15, T15, L15, itR_17, hB, hR, hI, e00, h7, b7, r7, m7, w7, h1, b1, r1, m1, w1, h2, b2, r2, m2, w2, h3, b3, r3, m3, w3, h4, b4, r4, m4, w4, hIo, all1, lenV, ress, res1, retV, Value.cells, newsV_s, e_fork, slcV, seval, eV]
        · have xn := ne_of_lk hN1 hc 0
          have x7 := eqb (fun h : x = N 7 => hx (by simp [h]))
          have x1 := eqb (fun h : x = N 1 => hx (by simp [h]))
          have x2 := eqb (fun h : x = N 2 => hx (by simp [h]))
          have x3 := eqb (fun h : x = N 3 => hx (by simp [h]))
          have x4 := eqb (fun h : x = N 4 => hx (by simp [h]))
          simp (disch := omega) only [T10, L10, G10_13, V13_eq, G10_15, V15, T15, L15, itR_17, hB, hR, hI, xn, hc, x7, x1, x2, x3, x4, all1, lenV, ress, res1, retV, Value.cells, newsV_s, e_fork, slcV, seval, eV]
        · refine ⟨?_, ?_, ?_, ?_, ?_, by unfold Lt at *; omega⟩
          all_goals simp (disch := omega) only [T10, L10, G10_13, V13_eq, G10_15, V15, T15, L15, itR_17, hB, hR, hI, e00, h7, b7, r7, m7, w7, h1, b1, r1, m1, w1, h2, b2, r2, m2, w2, h3, b3, r3, m3, w3, h4, b4, r4, m4, w4, hIo, all1, lenV, ress, res1, retV, Value.cells, newsV_s, e_fork, slcV, seval, eV]
    · rintro (h | h | h | h | h)
      all_goals { have g := hI 5; simp only [h, hI] at g; have g7 := g 7; have g1 := g 1; have g2 := g 2; have g3 := g 3; have g4 := g 4; simp [h] at g7 g1 g2 g3 g4 }
    · exact (good_new (good_new (good_new (good_new (good_new (good_new (good_new (good_new hN))))))))
    · simp (disch := omega) only [T10, L10, G10_13, V13_eq, G10_15, V15, T15, L15, itR_17, hB, hR, hI, all1, lenV, ress, res1, retV, Value.cells, newsV_s, e_fork, slcV, seval, eV]
    · exact hB 5
    · refine ⟨?_, ?_, ?_, ?_, ?_, by unfold Lt; omega⟩
      all_goals simp (disch := omega) only [T10, L10, G10_13, V13_eq, G10_15, V15, T15, L15, itR_17, hB, hR, hI, e00, all1, lenV, ress, res1, retV, Value.cells, newsV_s, e_fork, slcV, seval, eV]
  obtain ⟨v, H2, N2, rfl, g2, f2, ⟨h7, h1, h2, h3, h4, hx⟩ | ⟨h7, h3, h4⟩⟩ := hO
  · exact (hx (by unfold Lt; omega)).elim
  · have r3 := hR 3
    have r4 := hR 4
    simp (disch := omega) only [T10, L10, G10_13, V13_eq, G10_15, V15, T15, L15, itR_17, hB, hR, hI, e00, h7, h3, h4, all1, lenV, ress, res1, retV, Value.cells, newsV_s, e_fork, slcV, seval, eV]
    refine ⟨_, _, rfl, ext_lk fun r x hr hx => ?_⟩
    have xn := ne_of_lk hN hx
    have q := f2 r (by
      rintro (rfl | rfl | rfl | rfl | rfl)
      all_goals simp [hI] at xn) x (by simp (disch := omega) only [xn, hx, e_loop, all1, lenV, ress, res1, retV, Value.cells, newsV_s, e_fork, slcV, seval, eV])
    simp (disch := omega) only [T10, L10, G10_13, V13_eq, G10_15, V15, T15, L15, itR_17, hB, hR, hI, xn, q, all1, lenV, ress, res1, retV, Value.cells, newsV_s, e_fork, slcV, seval, eV]
set_option maxHeartbeats 4000000 in
theorem f10c {B : OH} (hG : ∃ H N, good B H N) (hT : Tab B) {kk p cc h : Nat} (hk : 1 ≤ kk ∧ kk ≤ 5) (hp : 1 ≤ p ∧ p ≤ 16) (hc : 1 ≤ cc ∧ cc ≤ 256) (hm' : hm kk cc = (h : Int)) {k0 o0 : Nat} (hk0 : k0 < 5) (ho0 : o0 < mn p k0) (hne : k0 = 4) : F10 B [.agg #[.int .i64 (kk : Int), .int .i64 (p : Int), .int .i64 (cc : Int)], .int .i64 (k0 : Int), .int .i64 (o0 : Int)] = some (.tuple #[.int .i64 (fr p h k0 o0 : Int), .int .i64 0]) := by
  refine kval_eq hG fun H N hN => ?_
  have hB := good_B hN
  have hR := good_rdB hN
  have hI := beqN hN.1.1
  have e13 := f13 hG kk p cc (by omega) (by omega) (by omega)
  have hh : 1 ≤ h ∧ h ≤ 1026 := by have := hm_bounds (k := kk) (c := cc) (by omega) (by omega); omega
  have hmn := mn_le (p := p) (k := k0) (by omega)
  have k1 : ¬ (k0 : Int) < 0 := by omega
  have k2 : ¬ (k0 : Int) > 4 := by omega
  have p1 : ¬ (o0 : Int) < 0 := by omega
  have p2 : ¬ (o0 : Int) ≥ (p : Int) := by omega
  have e0 : ((k0 : Int) == 0) = false := eqbI (by omega)
  have e4 : ((k0 : Int) == 4) = true := by rw [hne]; rfl
  obtain rfl : o0 = 0 := by subst hne; simpa [mn] using ho0
  have e00 : ((0 : Nat) : Int) = 0 := rfl
  have p2 : ¬ 0 ≥ (p : Int) := by omega
  simp (disch := omega) only [T10, L10, G10_13, V13_eq, G10_15, V15, T15, L15, itR_17, hB, hR, hI, e13, k1, k2, p1, p2, e0, e4, e00, all1, lenV, ress, res1, retV, Value.cells, newsV_s, e_fork, slcV, seval, eV]
  generalize hX : I17 B _ _ _ _ = o
  have hO : ∃ v H' N', o = some (.ret v, H', N') ∧ good B H' N' ∧ (∀ x, ¬ (x = N 7 ∨ x = N 1 ∨ x = N 2 ∨ x = N 3 ∨ x = N 4) → ∀ c, lk ((N.n 7, KB.loop (N.r 7) LSt.ready) :: (N.n 6, KB.dfr) :: (N.n 5, KB.cells [.int .i64 (kk : Int), .int .i64 (p : Int), .int .i64 (cc : Int)] 3) :: (N.n 4, KB.cells [.int .i64 0] 1) :: (N.n 3, KB.cells [.int .i64 0] 1) :: (N.n 2, KB.cells [.int .i64 0] 1) :: (N.n 1, KB.cells [.int .i64 (k0 : Int)] 1) :: (N.n 0, KB.cells [.int .i64 (kk : Int), .int .i64 (p : Int), .int .i64 (cc : Int)] 3) :: H) x = some c → lk H' x = some c) ∧ ((lk H' (N 7) = some (.loop (N.r 7) .ready) ∧ lk H' (N 1) = some (.cells [.int .i64 (k0 : Int)] 1) ∧ lk H' (N 2) = some (.cells [.int .i64 0] 1) ∧ lk H' (N 3) = some (.cells [.int .i64 0] 1) ∧ lk H' (N 4) = some (.cells [.int .i64 0] 1) ∧ ¬ Lt k0 0 5 0) ∨ (lk H' (N 7) = some (.loop (N.r 7) (.done none)) ∧ lk H' (N 3) = some (.cells [.int .i64 (fr p h k0 0 : Int)] 1) ∧ lk H' (N 4) = some (.cells [.int .i64 0] 1))) := by
    rw [← hX]
    refine it17 (kk := kk) (cc := cc) (Own := fun x => x = N 7 ∨ x = N 1 ∨ x = N 2 ∨ x = N 3 ∨ x = N 4) (J := fun kx ox H' => lk H' (N 7) = some (.loop (N.r 7) .ready) ∧ lk H' (N 1) = some (.cells [.int .i64 (k0 : Int)] 1) ∧ lk H' (N 2) = some (.cells [.int .i64 0] 1) ∧ lk H' (N 3) = some (.cells [.int .i64 0] 1) ∧ lk H' (N 4) = some (.cells [.int .i64 0] 1) ∧ ¬ Lt k0 0 kx ox) (Jx := fun H' => lk H' (N 7) = some (.loop (N.r 7) (.done none)) ∧ lk H' (N 3) = some (.cells [.int .i64 (fr p h k0 0 : Int)] 1) ∧ lk H' (N 4) = some (.cells [.int .i64 0] 1)) hT ⟨?_, ?_, ?_, ?_⟩ hk hp hc hm' ?_ ?_ ?_ ?_ ?_
    · rintro k o H b ⟨h7, h1, h2, h3, h4, hx⟩ (rfl | rfl | rfl | rfl | rfl)
      · exact ⟨_, h7⟩
      · exact ⟨_, h1⟩
      · exact ⟨_, h2⟩
      · exact ⟨_, h3⟩
      · exact ⟨_, h4⟩
    · rintro k o H H' ⟨h7, h1, h2, h3, h4, hx⟩ g
      exact ⟨(g _ (by simp)).trans h7, (g _ (by simp)).trans h1, (g _ (by simp)).trans h2, (g _ (by simp)).trans h3, (g _ (by simp)).trans h4, hx⟩
    · rintro k H ⟨h7, h1, h2, h3, h4, hx⟩
      exact ⟨h7, h1, h2, h3, h4, nextLt ho0 hx⟩
    · rintro k o H N1 hk5 ho ⟨h7, h1, h2, h3, h4, hx⟩ hN1
      have hBo := hB
      have hB := good_B hN1
      have hR := good_rdB hN1
      have hI := beqN hN1.1.1
      have hIo := beqN hN.1.1
      have b7 := hBo 7
      have r7 := fun o n => rdB_none (o := o) (n := n) b7
      have m7 := fun j => ne_good hN1 b7 h7 j
      have w7 := fun j => ne_good' hN1 b7 h7 j
      have b1 := hBo 1
      have r1 := fun o n => rdB_none (o := o) (n := n) b1
      have m1 := fun j => ne_good hN1 b1 h1 j
      have w1 := fun j => ne_good' hN1 b1 h1 j
      have b2 := hBo 2
      have r2 := fun o n => rdB_none (o := o) (n := n) b2
      have m2 := fun j => ne_good hN1 b2 h2 j
      have w2 := fun j => ne_good' hN1 b2 h2 j
      have b3 := hBo 3
      have r3 := fun o n => rdB_none (o := o) (n := n) b3
      have m3 := fun j => ne_good hN1 b3 h3 j
      have w3 := fun j => ne_good' hN1 b3 h3 j
      have b4 := hBo 4
      have r4 := fun o n => rdB_none (o := o) (n := n) b4
      have m4 := fun j => ne_good hN1 b4 h4 j
      have w4 := fun j => ne_good' hN1 b4 h4 j
      have hb := fr_bnd (k := k) (o := o) hp hh hk5 ho
      have hs : (fr p h k (o + 1) : Int) = (fr p h k o : Int) + (sz p h k : Int) := by rw [fr_succ]; omega
      simp only [wy_same, y_call]
      unfold pt
      by_cases hk' : k = k0
      · subst hk'
        by_cases ho' : o = 0
        · subst ho'
          simp (disch := omega) only [T10, L10, G10_13, V13_eq, G10_15, V15, T15, L15, itR_17, hB, hR, hI, e00, h7, b7, r7, m7, w7, h1, b1, r1, m1, w1, h2, b2, r2, m2, w2, h3, b3, r3, m3, w3, h4, b4, r4, m4, w4, hIo, all1, lenV, ress, res1, retV, Value.cells, newsV_s, e_fork, slcV, seval, eV]
          refine ⟨false, _, _, rfl, good_set (k' := .loop (N.r 7) .busy) (good_set (k' := .loop (N.r 7) .ready) (good_new (good_up (k' := .cells [.int .i64 0] 1) (good_up (k' := .cells [.int .i64 0] 1) hN1 b3 h3) b4 ?_)) b7 ?_) b7 ?_, fun x hx c hc => ?_, fun h => (by cases h), fun _ => ?_⟩
          · simp (disch := omega) only [T10, L10, G10_13, V13_eq, G10_15, V15, T15, L15, itR_17, hB, hR, hI, e00, h7, b7, r7, m7, w7, h1, b1, r1, m1, w1, h2, b2, r2, m2, w2, h3, b3, r3, m3, w3, h4, b4, r4, m4, w4, hIo, all1, lenV, ress, res1, retV, Value.cells, newsV_s, e_fork, slcV, seval, eV]
          · simp (disch := omega) only [T10, L10, G10_13, V13_eq, G10_15, V15, T15, L15, itR_17, hB, hR, hI, e00, h7, b7, r7, m7, w7, h1, b1, r1, m1, w1, h2, b2, r2, m2, w2, h3, b3, r3, m3, w3, h4, b4, r4, m4, w4, hIo, all1, lenV, ress, res1, retV, Value.cells, newsV_s, e_fork, slcV, seval, eV]
          · simp (disch := omega) only [T10, L10, G10_13, V13_eq, G10_15, V15, T15, L15, itR_17, hB, hR, hI, e00, h7, b7, r7, m7, w7, h1, b1, r1, m1, w1, h2, b2, r2, m2, w2, h3, b3, r3, m3, w3, h4, b4, r4, m4, w4, hIo, all1, lenV, ress, res1, retV, Value.cells, newsV_s, e_fork, slcV, seval, eV]
          · have xn := ne_of_lk hN1 hc 0
            have x7 := eqb (fun h : x = N 7 => hx (by simp [h]))
            have x1 := eqb (fun h : x = N 1 => hx (by simp [h]))
            have x2 := eqb (fun h : x = N 2 => hx (by simp [h]))
            have x3 := eqb (fun h : x = N 3 => hx (by simp [h]))
            have x4 := eqb (fun h : x = N 4 => hx (by simp [h]))
            simp (disch := omega) only [T10, L10, G10_13, V13_eq, G10_15, V15, T15, L15, itR_17, hB, hR, hI, xn, hc, x7, x1, x2, x3, x4, all1, lenV, ress, res1, retV, Value.cells, newsV_s, e_fork, slcV, seval, eV]
          · refine ⟨?_, ?_, ?_⟩
            all_goals simp (disch := omega) only [T10, L10, G10_13, V13_eq, G10_15, V15, T15, L15, itR_17, hB, hR, hI, e00, h7, b7, r7, m7, w7, h1, b1, r1, m1, w1, h2, b2, r2, m2, w2, h3, b3, r3, m3, w3, h4, b4, r4, m4, w4, hIo, all1, lenV, ress, res1, retV, Value.cells, newsV_s, e_fork, slcV, seval, eV]
        · have q2 : ((o : Int) == 0) = false := eqbI (by omega)
          simp (disch := omega) only [T10, L10, G10_13, V13_eq, G10_15, V15, T15, L15, itR_17, hB, hR, hI, e00, h7, b7, r7, m7, w7, h1, b1, r1, m1, w1, h2, b2, r2, m2, w2, h3, b3, r3, m3, w3, h4, b4, r4, m4, w4, hIo, q2, all1, lenV, ress, res1, retV, Value.cells, newsV_s, e_fork, slcV, seval, eV]
          refine ⟨true, _, _, rfl, good_set (k' := .loop (N.r 7) .busy) (good_set (k' := .loop (N.r 7) .ready) (good_new hN1) b7 ?_) b7 ?_, fun x hx c hc => ?_, fun _ => ?_, fun h => (by cases h)⟩
          · simp (disch := omega) only [T10, L10, G10_13, V13_eq, G10_15, V15, T15, L15, itR_17, hB, hR, hI, e00, h7, b7, r7, m7, w7, h1, b1, r1, m1, w1, h2, b2, r2, m2, w2, h3, b3, r3, m3, w3, h4, b4, r4, m4, w4, hIo, all1, lenV, ress, res1, retV, Value.cells, newsV_s, e_fork, slcV, seval, eV]
          · simp (disch := omega) only [T10, L10, G10_13, V13_eq, G10_15, V15, T15, L15, itR_17, hB, hR, hI, e00, h7, b7, r7, m7, w7, h1, b1, r1, m1, w1, h2, b2, r2, m2, w2, h3, b3, r3, m3, w3, h4, b4, r4, m4, w4, hIo, all1, lenV, ress, res1, retV, Value.cells, newsV_s, e_fork, slcV, seval, eV]
          · have xn := ne_of_lk hN1 hc 0
            have x7 := eqb (fun h : x = N 7 => hx (by simp [h]))
            have x1 := eqb (fun h : x = N 1 => hx (by simp [h]))
            have x2 := eqb (fun h : x = N 2 => hx (by simp [h]))
            have x3 := eqb (fun h : x = N 3 => hx (by simp [h]))
            have x4 := eqb (fun h : x = N 4 => hx (by simp [h]))
            simp (disch := omega) only [T10, L10, G10_13, V13_eq, G10_15, V15, T15, L15, itR_17, hB, hR, hI, xn, hc, x7, x1, x2, x3, x4, all1, lenV, ress, res1, retV, Value.cells, newsV_s, e_fork, slcV, seval, eV]
          · refine ⟨?_, ?_, ?_, ?_, ?_, by unfold Lt at *; omega⟩
            all_goals simp (disch := omega) only [T10, L10, G10_13, V13_eq, G10_15, V15, T15, L15, itR_17, hB, hR, hI, e00, h7, b7, r7, m7, w7, h1, b1, r1, m1, w1, h2, b2, r2, m2, w2, h3, b3, r3, m3, w3, h4, b4, r4, m4, w4, hIo, all1, lenV, ress, res1, retV, Value.cells, newsV_s, e_fork, slcV, seval, eV]
      · have q1 : ((k : Int) == (k0 : Int)) = false := eqbI (by omega)
        simp (disch := omega) only [T10, L10, G10_13, V13_eq, G10_15, V15, T15, L15, itR_17, hB, hR, hI, e00, h7, b7, r7, m7, w7, h1, b1, r1, m1, w1, h2, b2, r2, m2, w2, h3, b3, r3, m3, w3, h4, b4, r4, m4, w4, hIo, q1, all1, lenV, ress, res1, retV, Value.cells, newsV_s, e_fork, slcV, seval, eV]
        refine ⟨true, _, _, rfl, good_set (k' := .loop (N.r 7) .busy) (good_set (k' := .loop (N.r 7) .ready) (good_new hN1) b7 ?_) b7 ?_, fun x hx c hc => ?_, fun _ => ?_, fun h => (by cases h)⟩
        · simp (disch := omega) only [T10, L10, G10_13, V13_eq, G10_15, V15, T15, L15, itR_17, hB, hR, hI, e00, h7, b7, r7, m7, w7, h1, b1, r1, m1, w1, h2, b2, r2, m2, w2, h3, b3, r3, m3, w3, h4, b4, r4, m4, w4, hIo, all1, lenV, ress, res1, retV, Value.cells, newsV_s, e_fork, slcV, seval, eV]
        · simp (disch := omega) only [T10, L10, G10_13, V13_eq, G10_15, V15, T15, L15, itR_17, hB, hR, hI, e00, h7, b7, r7, m7, w7, h1, b1, r1, m1, w1, h2, b2, r2, m2, w2, h3, b3, r3, m3, w3, h4, b4, r4, m4, w4, hIo, all1, lenV, ress, res1, retV, Value.cells, newsV_s, e_fork, slcV, seval, eV]
        · have xn := ne_of_lk hN1 hc 0
          have x7 := eqb (fun h : x = N 7 => hx (by simp [h]))
          have x1 := eqb (fun h : x = N 1 => hx (by simp [h]))
          have x2 := eqb (fun h : x = N 2 => hx (by simp [h]))
          have x3 := eqb (fun h : x = N 3 => hx (by simp [h]))
          have x4 := eqb (fun h : x = N 4 => hx (by simp [h]))
          simp (disch := omega) only [T10, L10, G10_13, V13_eq, G10_15, V15, T15, L15, itR_17, hB, hR, hI, xn, hc, x7, x1, x2, x3, x4, all1, lenV, ress, res1, retV, Value.cells, newsV_s, e_fork, slcV, seval, eV]
        · refine ⟨?_, ?_, ?_, ?_, ?_, by unfold Lt at *; omega⟩
          all_goals simp (disch := omega) only [T10, L10, G10_13, V13_eq, G10_15, V15, T15, L15, itR_17, hB, hR, hI, e00, h7, b7, r7, m7, w7, h1, b1, r1, m1, w1, h2, b2, r2, m2, w2, h3, b3, r3, m3, w3, h4, b4, r4, m4, w4, hIo, all1, lenV, ress, res1, retV, Value.cells, newsV_s, e_fork, slcV, seval, eV]
    · rintro (h | h | h | h | h)
      all_goals { have g := hI 5; simp only [h, hI] at g; have g7 := g 7; have g1 := g 1; have g2 := g 2; have g3 := g 3; have g4 := g 4; simp [h] at g7 g1 g2 g3 g4 }
    · exact (good_new (good_new (good_new (good_new (good_new (good_new (good_new (good_new hN))))))))
    · simp (disch := omega) only [T10, L10, G10_13, V13_eq, G10_15, V15, T15, L15, itR_17, hB, hR, hI, all1, lenV, ress, res1, retV, Value.cells, newsV_s, e_fork, slcV, seval, eV]
    · exact hB 5
    · refine ⟨?_, ?_, ?_, ?_, ?_, by unfold Lt; omega⟩
      all_goals simp (disch := omega) only [T10, L10, G10_13, V13_eq, G10_15, V15, T15, L15, itR_17, hB, hR, hI, e00, all1, lenV, ress, res1, retV, Value.cells, newsV_s, e_fork, slcV, seval, eV]
  obtain ⟨v, H2, N2, rfl, g2, f2, ⟨h7, h1, h2, h3, h4, hx⟩ | ⟨h7, h3, h4⟩⟩ := hO
  · exact (hx (by unfold Lt; omega)).elim
  · have r3 := hR 3
    have r4 := hR 4
    simp (disch := omega) only [T10, L10, G10_13, V13_eq, G10_15, V15, T15, L15, itR_17, hB, hR, hI, e00, h7, h3, h4, all1, lenV, ress, res1, retV, Value.cells, newsV_s, e_fork, slcV, seval, eV]
    refine ⟨_, _, rfl, ext_lk fun r x hr hx => ?_⟩
    have xn := ne_of_lk hN hx
    have q := f2 r (by
      rintro (rfl | rfl | rfl | rfl | rfl)
      all_goals simp [hI] at xn) x (by simp (disch := omega) only [xn, hx, e_loop, all1, lenV, ress, res1, retV, Value.cells, newsV_s, e_fork, slcV, seval, eV])
    simp (disch := omega) only [T10, L10, G10_13, V13_eq, G10_15, V15, T15, L15, itR_17, hB, hR, hI, xn, q, all1, lenV, ress, res1, retV, Value.cells, newsV_s, e_fork, slcV, seval, eV]
set_option maxHeartbeats 400000 in
theorem f10 {B : OH} (hG : ∃ H N, good B H N) (hT : Tab B) {kk p cc h : Nat} (hk : 1 ≤ kk ∧ kk ≤ 5) (hp : 1 ≤ p ∧ p ≤ 16) (hc : 1 ≤ cc ∧ cc ≤ 256) (hm' : hm kk cc = (h : Int)) {k0 o0 : Nat} (hk0 : k0 < 5) (ho0 : o0 < mn p k0)  : F10 B [.agg #[.int .i64 (kk : Int), .int .i64 (p : Int), .int .i64 (cc : Int)], .int .i64 (k0 : Int), .int .i64 (o0 : Int)] = some (.tuple #[.int .i64 (fr p h k0 o0 : Int), .int .i64 0]) := by
  by_cases h0 : k0 = 0
  · exact f10b hG hT hk hp hc hm' hk0 ho0 h0
  · by_cases h4 : k0 = 4
    · exact f10c hG hT hk hp hc hm' hk0 ho0 h4
    · exact f10a hG hT hk hp hc hm' hk0 ho0 ⟨h0, h4⟩
end Go.Proofs.YtbpaekbjpapgeaaGreatDoor
namespace Go.Proofs.YtbpaekbjpapgeaaGreatDoor
open Go.Proofs.YtbpaekbjpapgeaaGreatDoor.K Go.ChangeShapes Go.WideShapes Go.ChangeAt Go.RowKit
set_option maxRecDepth 100000
set_option linter.unusedSimpArgs false
set_option linter.unusedVariables false
noncomputable def CR (B : OH) : Nat → Cs
  | 34 => V13 B
  | 65 => V11 B
  | 44 => V7 B
  | 125 => V12 B
  | 26 => V10 B
  | 23 => V9 B
  | _ => fun _ _ _ => none
theorem aF34 {t : List (List Value × Value)} : FactF Tryz.prog CR 34 (.g t) := ⟨.of Tryz.func34 (by kernel_rfl) (by kernel_rfl), fun w0 B => sV13⟩
theorem aF65 {t : List (List Value × Value)} : FactF Tryz.prog CR 65 (.g t) := ⟨.of Tryz.func65 (by kernel_rfl) (by kernel_rfl), fun w0 B => sV11⟩
theorem aF44 {t : List (List Value × Value)} : FactF Tryz.prog CR 44 (.g t) := ⟨.of Tryz.func44 (by kernel_rfl) (by kernel_rfl), fun w0 B => sV7⟩
theorem aF125 {t : List (List Value × Value)} : FactF Tryz.prog CR 125 (.g t) := ⟨.of Tryz.func125 (by kernel_rfl) (by kernel_rfl), fun w0 B => sV12⟩
theorem aF26 {t : List (List Value × Value)} : FactF Tryz.prog CR 26 (.g t) := ⟨.of Tryz.func26 (by kernel_rfl) (by kernel_rfl), fun w0 B => sV10⟩
theorem aF23 {t : List (List Value × Value)} : FactF Tryz.prog CR 23 (.g t) := ⟨.of Tryz.func23 (by kernel_rfl) (by kernel_rfl), fun w0 B => sV9⟩
theorem aF9 : FactF Tryz.prog CR 9 (.l A9) := ⟨.of Tryz.func9 (by kernel_rfl) (by kernel_rfl), _, Tryz.func9, by kernel_rfl⟩
theorem aF18 : FactF Tryz.prog CR 18 (.l A18) := ⟨.of Tryz.func18 (by kernel_rfl) (by kernel_rfl), _, Tryz.func18, by kernel_rfl⟩
theorem aF30 : FactF Tryz.prog CR 30 (.l A30) := ⟨.of Tryz.func30 (by kernel_rfl) (by kernel_rfl), _, Tryz.func30, by kernel_rfl⟩
theorem aF37 : FactF Tryz.prog CR 37 (.l A37) := ⟨.of Tryz.func37 (by kernel_rfl) (by kernel_rfl), _, Tryz.func37, by kernel_rfl⟩
theorem aF45 : FactF Tryz.prog CR 45 (.l A45) := ⟨.of Tryz.func45 (by kernel_rfl) (by kernel_rfl), _, Tryz.func45, by kernel_rfl⟩
theorem aF59 : FactF Tryz.prog CR 59 (.l A59) := ⟨.of Tryz.func59 (by kernel_rfl) (by kernel_rfl), _, Tryz.func59, by kernel_rfl⟩
theorem aF66 : FactF Tryz.prog CR 66 (.l A66) := ⟨.of Tryz.func66 (by kernel_rfl) (by kernel_rfl), _, Tryz.func66, by kernel_rfl⟩
theorem aF69 : FactF Tryz.prog CR 69 (.l A69) := ⟨.of Tryz.func69 (by kernel_rfl) (by kernel_rfl), _, Tryz.func69, by kernel_rfl⟩
theorem aF75 : FactF Tryz.prog CR 75 (.l A75) := ⟨.of Tryz.func75 (by kernel_rfl) (by kernel_rfl), _, Tryz.func75, by kernel_rfl⟩
theorem aF78 : FactF Tryz.prog CR 78 (.l A78) := ⟨.of Tryz.func78 (by kernel_rfl) (by kernel_rfl), _, Tryz.func78, by kernel_rfl⟩
theorem aF81 : FactF Tryz.prog CR 81 (.l A81) := ⟨.of Tryz.func81 (by kernel_rfl) (by kernel_rfl), _, Tryz.func81, by kernel_rfl⟩
theorem aF85 : FactF Tryz.prog CR 85 (.l A85) := ⟨.of Tryz.func85 (by kernel_rfl) (by kernel_rfl), _, Tryz.func85, by kernel_rfl⟩
theorem aF88 : FactF Tryz.prog CR 88 (.l A88) := ⟨.of Tryz.func88 (by kernel_rfl) (by kernel_rfl), _, Tryz.func88, by kernel_rfl⟩
theorem aF92 : FactF Tryz.prog CR 92 (.l A92) := ⟨.of Tryz.func92 (by kernel_rfl) (by kernel_rfl), _, Tryz.func92, by kernel_rfl⟩
theorem aF95 : FactF Tryz.prog CR 95 (.l A95) := ⟨.of Tryz.func95 (by kernel_rfl) (by kernel_rfl), _, Tryz.func95, by kernel_rfl⟩
theorem aF99 : FactF Tryz.prog CR 99 (.l A99) := ⟨.of Tryz.func99 (by kernel_rfl) (by kernel_rfl), _, Tryz.func99, by kernel_rfl⟩
theorem aF102 : FactF Tryz.prog CR 102 (.l A102) := ⟨.of Tryz.func102 (by kernel_rfl) (by kernel_rfl), _, Tryz.func102, by kernel_rfl⟩
theorem aF105 : FactF Tryz.prog CR 105 (.l A105) := ⟨.of Tryz.func105 (by kernel_rfl) (by kernel_rfl), _, Tryz.func105, by kernel_rfl⟩
theorem aF134 : FactF Tryz.prog CR 134 (.l A134) := ⟨.of Tryz.func134 (by kernel_rfl) (by kernel_rfl), _, Tryz.func134, by kernel_rfl⟩
theorem aF141 : FactF Tryz.prog CR 141 (.l A141) := ⟨.of Tryz.func141 (by kernel_rfl) (by kernel_rfl), _, Tryz.func141, by kernel_rfl⟩
theorem aF144 : FactF Tryz.prog CR 144 (.l A144) := ⟨.of Tryz.func144 (by kernel_rfl) (by kernel_rfl), _, Tryz.func144, by kernel_rfl⟩
theorem aF147 : FactF Tryz.prog CR 147 (.l A147) := ⟨.of Tryz.func147 (by kernel_rfl) (by kernel_rfl), _, Tryz.func147, by kernel_rfl⟩
theorem aF150 : FactF Tryz.prog CR 150 (.d A150 A209) := ⟨⟨.of Tryz.func150 (by kernel_rfl) (by kernel_rfl), _, Tryz.func150, by kernel_rfl⟩, .of Tryz.func209 (by kernel_rfl) (by kernel_rfl), _, Tryz.func209, by kernel_rfl⟩
theorem aF153 : FactF Tryz.prog CR 153 (.d A153 A199) := ⟨⟨.of Tryz.func153 (by kernel_rfl) (by kernel_rfl), _, Tryz.func153, by kernel_rfl⟩, .of Tryz.func199 (by kernel_rfl) (by kernel_rfl), _, Tryz.func199, by kernel_rfl⟩
theorem aF156 : FactF Tryz.prog CR 156 (.d A156 A209) := ⟨⟨.of Tryz.func156 (by kernel_rfl) (by kernel_rfl), _, Tryz.func156, by kernel_rfl⟩, .of Tryz.func209 (by kernel_rfl) (by kernel_rfl), _, Tryz.func209, by kernel_rfl⟩
theorem aF159 : FactF Tryz.prog CR 159 (.l A159) := ⟨.of Tryz.func159 (by kernel_rfl) (by kernel_rfl), _, Tryz.func159, by kernel_rfl⟩
theorem aF181 : FactF Tryz.prog CR 181 (.l A181) := ⟨.of Tryz.func181 (by kernel_rfl) (by kernel_rfl), _, Tryz.func181, by kernel_rfl⟩
theorem aF201 : FactF Tryz.prog CR 201 (.l A201) := ⟨.of Tryz.func201 (by kernel_rfl) (by kernel_rfl), _, Tryz.func201, by kernel_rfl⟩
theorem aF204 : FactF Tryz.prog CR 204 (.l A204) := ⟨.of Tryz.func204 (by kernel_rfl) (by kernel_rfl), _, Tryz.func204, by kernel_rfl⟩
theorem aF207 : FactF Tryz.prog CR 207 (.l A207) := ⟨.of Tryz.func207 (by kernel_rfl) (by kernel_rfl), _, Tryz.func207, by kernel_rfl⟩
theorem aF211 : FactF Tryz.prog CR 211 (.l A211) := ⟨.of Tryz.func211 (by kernel_rfl) (by kernel_rfl), _, Tryz.func211, by kernel_rfl⟩
theorem aF214 : FactF Tryz.prog CR 214 (.l A214) := ⟨.of Tryz.func214 (by kernel_rfl) (by kernel_rfl), _, Tryz.func214, by kernel_rfl⟩
theorem aF260 : FactF Tryz.prog CR 260 (.l A260) := ⟨.of Tryz.func260 (by kernel_rfl) (by kernel_rfl), _, Tryz.func260, by kernel_rfl⟩
theorem aF263 : FactF Tryz.prog CR 263 (.l A263) := ⟨.of Tryz.func263 (by kernel_rfl) (by kernel_rfl), _, Tryz.func263, by kernel_rfl⟩
theorem aF266 : FactF Tryz.prog CR 266 (.l A266) := ⟨.of Tryz.func266 (by kernel_rfl) (by kernel_rfl), _, Tryz.func266, by kernel_rfl⟩
theorem aF281 : FactF Tryz.prog CR 281 (.l A281) := ⟨.of Tryz.func281 (by kernel_rfl) (by kernel_rfl), _, Tryz.func281, by kernel_rfl⟩
theorem aF300 : FactF Tryz.prog CR 300 (.l A300) := ⟨.of Tryz.func300 (by kernel_rfl) (by kernel_rfl), _, Tryz.func300, by kernel_rfl⟩
theorem aF331 : FactF Tryz.prog CR 331 (.l A331) := ⟨.of Tryz.func331 (by kernel_rfl) (by kernel_rfl), _, Tryz.func331, by kernel_rfl⟩
theorem aF349 : FactF Tryz.prog CR 349 (.l A349) := ⟨.of Tryz.func349 (by kernel_rfl) (by kernel_rfl), _, Tryz.func349, by kernel_rfl⟩
theorem aF371 : FactF Tryz.prog CR 371 (.l A371) := ⟨.of Tryz.func371 (by kernel_rfl) (by kernel_rfl), _, Tryz.func371, by kernel_rfl⟩
end Go.Proofs.YtbpaekbjpapgeaaGreatDoor
namespace Go.Proofs.YtbpaekbjpapgeaaGreatDoor
open Go.Proofs.YtbpaekbjpapgeaaGreatDoor.K Go.ChangeShapes Go.WideShapes Go.ChangeAt Go.RowKit
set_option maxRecDepth 100000
set_option linter.unusedSimpArgs false
set_option linter.unusedVariables false
theorem aF14 : FactF Tryz.prog CR 14 (.l A14) := ⟨.of Tryz.func14 (by kernel_rfl) (by kernel_rfl), _, Tryz.func14, by kernel_rfl⟩
theorem aF20 : FactF Tryz.prog CR 20 (.l A20) := ⟨.of Tryz.func20 (by kernel_rfl) (by kernel_rfl), _, Tryz.func20, by kernel_rfl⟩
theorem aF35 : FactF Tryz.prog CR 35 (.l A35) := ⟨.of Tryz.func35 (by kernel_rfl) (by kernel_rfl), _, Tryz.func35, by kernel_rfl⟩
theorem aF38 : FactF Tryz.prog CR 38 (.l A38) := ⟨.of Tryz.func38 (by kernel_rfl) (by kernel_rfl), _, Tryz.func38, by kernel_rfl⟩
theorem aF46 : FactF Tryz.prog CR 46 (.l A46) := ⟨.of Tryz.func46 (by kernel_rfl) (by kernel_rfl), _, Tryz.func46, by kernel_rfl⟩
theorem aF62 : FactF Tryz.prog CR 62 (.l A62) := ⟨.of Tryz.func62 (by kernel_rfl) (by kernel_rfl), _, Tryz.func62, by kernel_rfl⟩
theorem aF67 : FactF Tryz.prog CR 67 (.l A67) := ⟨.of Tryz.func67 (by kernel_rfl) (by kernel_rfl), _, Tryz.func67, by kernel_rfl⟩
theorem aF70 : FactF Tryz.prog CR 70 (.l A70) := ⟨.of Tryz.func70 (by kernel_rfl) (by kernel_rfl), _, Tryz.func70, by kernel_rfl⟩
theorem aF76 : FactF Tryz.prog CR 76 (.l A76) := ⟨.of Tryz.func76 (by kernel_rfl) (by kernel_rfl), _, Tryz.func76, by kernel_rfl⟩
theorem aF79 : FactF Tryz.prog CR 79 (.l A79) := ⟨.of Tryz.func79 (by kernel_rfl) (by kernel_rfl), _, Tryz.func79, by kernel_rfl⟩
theorem aF82 : FactF Tryz.prog CR 82 (.l A82) := ⟨.of Tryz.func82 (by kernel_rfl) (by kernel_rfl), _, Tryz.func82, by kernel_rfl⟩
theorem aF86 : FactF Tryz.prog CR 86 (.l A86) := ⟨.of Tryz.func86 (by kernel_rfl) (by kernel_rfl), _, Tryz.func86, by kernel_rfl⟩
theorem aF89 : FactF Tryz.prog CR 89 (.l A89) := ⟨.of Tryz.func89 (by kernel_rfl) (by kernel_rfl), _, Tryz.func89, by kernel_rfl⟩
theorem aF93 : FactF Tryz.prog CR 93 (.l A93) := ⟨.of Tryz.func93 (by kernel_rfl) (by kernel_rfl), _, Tryz.func93, by kernel_rfl⟩
theorem aF96 : FactF Tryz.prog CR 96 (.l A96) := ⟨.of Tryz.func96 (by kernel_rfl) (by kernel_rfl), _, Tryz.func96, by kernel_rfl⟩
theorem aF100 : FactF Tryz.prog CR 100 (.l A100) := ⟨.of Tryz.func100 (by kernel_rfl) (by kernel_rfl), _, Tryz.func100, by kernel_rfl⟩
theorem aF103 : FactF Tryz.prog CR 103 (.l A103) := ⟨.of Tryz.func103 (by kernel_rfl) (by kernel_rfl), _, Tryz.func103, by kernel_rfl⟩
theorem aF132 : FactF Tryz.prog CR 132 (.l A132) := ⟨.of Tryz.func132 (by kernel_rfl) (by kernel_rfl), _, Tryz.func132, by kernel_rfl⟩
theorem aF139 : FactF Tryz.prog CR 139 (.l A139) := ⟨.of Tryz.func139 (by kernel_rfl) (by kernel_rfl), _, Tryz.func139, by kernel_rfl⟩
theorem aF142 : FactF Tryz.prog CR 142 (.l A142) := ⟨.of Tryz.func142 (by kernel_rfl) (by kernel_rfl), _, Tryz.func142, by kernel_rfl⟩
theorem aF145 : FactF Tryz.prog CR 145 (.l A145) := ⟨.of Tryz.func145 (by kernel_rfl) (by kernel_rfl), _, Tryz.func145, by kernel_rfl⟩
theorem aF148 : FactF Tryz.prog CR 148 (.l A148) := ⟨.of Tryz.func148 (by kernel_rfl) (by kernel_rfl), _, Tryz.func148, by kernel_rfl⟩
theorem aF151 : FactF Tryz.prog CR 151 (.d A151 A199) := ⟨⟨.of Tryz.func151 (by kernel_rfl) (by kernel_rfl), _, Tryz.func151, by kernel_rfl⟩, .of Tryz.func199 (by kernel_rfl) (by kernel_rfl), _, Tryz.func199, by kernel_rfl⟩
theorem aF154 : FactF Tryz.prog CR 154 (.l A154) := ⟨.of Tryz.func154 (by kernel_rfl) (by kernel_rfl), _, Tryz.func154, by kernel_rfl⟩
theorem aF157 : FactF Tryz.prog CR 157 (.d A157 A199) := ⟨⟨.of Tryz.func157 (by kernel_rfl) (by kernel_rfl), _, Tryz.func157, by kernel_rfl⟩, .of Tryz.func199 (by kernel_rfl) (by kernel_rfl), _, Tryz.func199, by kernel_rfl⟩
theorem aF160 : FactF Tryz.prog CR 160 (.l A160) := ⟨.of Tryz.func160 (by kernel_rfl) (by kernel_rfl), _, Tryz.func160, by kernel_rfl⟩
theorem aF182 : FactF Tryz.prog CR 182 (.l A182) := ⟨.of Tryz.func182 (by kernel_rfl) (by kernel_rfl), _, Tryz.func182, by kernel_rfl⟩
theorem aF202 : FactF Tryz.prog CR 202 (.l A202) := ⟨.of Tryz.func202 (by kernel_rfl) (by kernel_rfl), _, Tryz.func202, by kernel_rfl⟩
theorem aF205 : FactF Tryz.prog CR 205 (.l A205) := ⟨.of Tryz.func205 (by kernel_rfl) (by kernel_rfl), _, Tryz.func205, by kernel_rfl⟩
theorem aF208 : FactF Tryz.prog CR 208 (.l A208) := ⟨.of Tryz.func208 (by kernel_rfl) (by kernel_rfl), _, Tryz.func208, by kernel_rfl⟩
theorem aF212 : FactF Tryz.prog CR 212 (.l A212) := ⟨.of Tryz.func212 (by kernel_rfl) (by kernel_rfl), _, Tryz.func212, by kernel_rfl⟩
theorem aF231 : FactF Tryz.prog CR 231 (.l A231) := ⟨.of Tryz.func231 (by kernel_rfl) (by kernel_rfl), _, Tryz.func231, by kernel_rfl⟩
theorem aF261 : FactF Tryz.prog CR 261 (.l A261) := ⟨.of Tryz.func261 (by kernel_rfl) (by kernel_rfl), _, Tryz.func261, by kernel_rfl⟩
theorem aF264 : FactF Tryz.prog CR 264 (.l A264) := ⟨.of Tryz.func264 (by kernel_rfl) (by kernel_rfl), _, Tryz.func264, by kernel_rfl⟩
theorem aF267 : FactF Tryz.prog CR 267 (.l A267) := ⟨.of Tryz.func267 (by kernel_rfl) (by kernel_rfl), _, Tryz.func267, by kernel_rfl⟩
theorem aF298 : FactF Tryz.prog CR 298 (.l A298) := ⟨.of Tryz.func298 (by kernel_rfl) (by kernel_rfl), _, Tryz.func298, by kernel_rfl⟩
theorem aF301 : FactF Tryz.prog CR 301 (.l A301) := ⟨.of Tryz.func301 (by kernel_rfl) (by kernel_rfl), _, Tryz.func301, by kernel_rfl⟩
theorem aF332 : FactF Tryz.prog CR 332 (.l A332) := ⟨.of Tryz.func332 (by kernel_rfl) (by kernel_rfl), _, Tryz.func332, by kernel_rfl⟩
theorem aF361 : FactF Tryz.prog CR 361 (.l A361) := ⟨.of Tryz.func361 (by kernel_rfl) (by kernel_rfl), _, Tryz.func361, by kernel_rfl⟩
theorem aF373 : FactF Tryz.prog CR 373 (.l A373) := ⟨.of Tryz.func373 (by kernel_rfl) (by kernel_rfl), _, Tryz.func373, by kernel_rfl⟩
end Go.Proofs.YtbpaekbjpapgeaaGreatDoor
namespace Go.Proofs.YtbpaekbjpapgeaaGreatDoor
open Go.Proofs.YtbpaekbjpapgeaaGreatDoor.K Go.ChangeShapes Go.WideShapes Go.ChangeAt Go.RowKit
set_option maxRecDepth 100000
set_option linter.unusedSimpArgs false
set_option linter.unusedVariables false
theorem aF16 : FactF Tryz.prog CR 16 (.l A16) := ⟨.of Tryz.func16 (by kernel_rfl) (by kernel_rfl), _, Tryz.func16, by kernel_rfl⟩
theorem aF22 : FactF Tryz.prog CR 22 (.l A22) := ⟨.of Tryz.func22 (by kernel_rfl) (by kernel_rfl), _, Tryz.func22, by kernel_rfl⟩
theorem aF36 : FactF Tryz.prog CR 36 (.l A36) := ⟨.of Tryz.func36 (by kernel_rfl) (by kernel_rfl), _, Tryz.func36, by kernel_rfl⟩
theorem aF39 : FactF Tryz.prog CR 39 (.l A39) := ⟨.of Tryz.func39 (by kernel_rfl) (by kernel_rfl), _, Tryz.func39, by kernel_rfl⟩
theorem aF47 : FactF Tryz.prog CR 47 (.l A47) := ⟨.of Tryz.func47 (by kernel_rfl) (by kernel_rfl), _, Tryz.func47, by kernel_rfl⟩
theorem aF64 : FactF Tryz.prog CR 64 (.l A64) := ⟨.of Tryz.func64 (by kernel_rfl) (by kernel_rfl), _, Tryz.func64, by kernel_rfl⟩
theorem aF68 : FactF Tryz.prog CR 68 (.l A68) := ⟨.of Tryz.func68 (by kernel_rfl) (by kernel_rfl), _, Tryz.func68, by kernel_rfl⟩
theorem aF74 : FactF Tryz.prog CR 74 (.l A74) := ⟨.of Tryz.func74 (by kernel_rfl) (by kernel_rfl), _, Tryz.func74, by kernel_rfl⟩
theorem aF77 : FactF Tryz.prog CR 77 (.l A77) := ⟨.of Tryz.func77 (by kernel_rfl) (by kernel_rfl), _, Tryz.func77, by kernel_rfl⟩
theorem aF80 : FactF Tryz.prog CR 80 (.l A80) := ⟨.of Tryz.func80 (by kernel_rfl) (by kernel_rfl), _, Tryz.func80, by kernel_rfl⟩
theorem aF84 : FactF Tryz.prog CR 84 (.l A84) := ⟨.of Tryz.func84 (by kernel_rfl) (by kernel_rfl), _, Tryz.func84, by kernel_rfl⟩
theorem aF87 : FactF Tryz.prog CR 87 (.l A87) := ⟨.of Tryz.func87 (by kernel_rfl) (by kernel_rfl), _, Tryz.func87, by kernel_rfl⟩
theorem aF90 : FactF Tryz.prog CR 90 (.l A90) := ⟨.of Tryz.func90 (by kernel_rfl) (by kernel_rfl), _, Tryz.func90, by kernel_rfl⟩
theorem aF94 : FactF Tryz.prog CR 94 (.l A94) := ⟨.of Tryz.func94 (by kernel_rfl) (by kernel_rfl), _, Tryz.func94, by kernel_rfl⟩
theorem aF98 : FactF Tryz.prog CR 98 (.l A98) := ⟨.of Tryz.func98 (by kernel_rfl) (by kernel_rfl), _, Tryz.func98, by kernel_rfl⟩
theorem aF101 : FactF Tryz.prog CR 101 (.l A101) := ⟨.of Tryz.func101 (by kernel_rfl) (by kernel_rfl), _, Tryz.func101, by kernel_rfl⟩
theorem aF104 : FactF Tryz.prog CR 104 (.l A104) := ⟨.of Tryz.func104 (by kernel_rfl) (by kernel_rfl), _, Tryz.func104, by kernel_rfl⟩
theorem aF133 : FactF Tryz.prog CR 133 (.l A133) := ⟨.of Tryz.func133 (by kernel_rfl) (by kernel_rfl), _, Tryz.func133, by kernel_rfl⟩
theorem aF140 : FactF Tryz.prog CR 140 (.d A140 A199) := ⟨⟨.of Tryz.func140 (by kernel_rfl) (by kernel_rfl), _, Tryz.func140, by kernel_rfl⟩, .of Tryz.func199 (by kernel_rfl) (by kernel_rfl), _, Tryz.func199, by kernel_rfl⟩
theorem aF143 : FactF Tryz.prog CR 143 (.d A143 A199) := ⟨⟨.of Tryz.func143 (by kernel_rfl) (by kernel_rfl), _, Tryz.func143, by kernel_rfl⟩, .of Tryz.func199 (by kernel_rfl) (by kernel_rfl), _, Tryz.func199, by kernel_rfl⟩
theorem aF146 : FactF Tryz.prog CR 146 (.l A146) := ⟨.of Tryz.func146 (by kernel_rfl) (by kernel_rfl), _, Tryz.func146, by kernel_rfl⟩
theorem aF149 : FactF Tryz.prog CR 149 (.l A149) := ⟨.of Tryz.func149 (by kernel_rfl) (by kernel_rfl), _, Tryz.func149, by kernel_rfl⟩
theorem aF152 : FactF Tryz.prog CR 152 (.l A152) := ⟨.of Tryz.func152 (by kernel_rfl) (by kernel_rfl), _, Tryz.func152, by kernel_rfl⟩
theorem aF155 : FactF Tryz.prog CR 155 (.d A155 A199) := ⟨⟨.of Tryz.func155 (by kernel_rfl) (by kernel_rfl), _, Tryz.func155, by kernel_rfl⟩, .of Tryz.func199 (by kernel_rfl) (by kernel_rfl), _, Tryz.func199, by kernel_rfl⟩
theorem aF158 : FactF Tryz.prog CR 158 (.l A158) := ⟨.of Tryz.func158 (by kernel_rfl) (by kernel_rfl), _, Tryz.func158, by kernel_rfl⟩
theorem aF161 : FactF Tryz.prog CR 161 (.l A161) := ⟨.of Tryz.func161 (by kernel_rfl) (by kernel_rfl), _, Tryz.func161, by kernel_rfl⟩
theorem aF200 : FactF Tryz.prog CR 200 (.l A200) := ⟨.of Tryz.func200 (by kernel_rfl) (by kernel_rfl), _, Tryz.func200, by kernel_rfl⟩
theorem aF203 : FactF Tryz.prog CR 203 (.l A203) := ⟨.of Tryz.func203 (by kernel_rfl) (by kernel_rfl), _, Tryz.func203, by kernel_rfl⟩
theorem aF206 : FactF Tryz.prog CR 206 (.l A206) := ⟨.of Tryz.func206 (by kernel_rfl) (by kernel_rfl), _, Tryz.func206, by kernel_rfl⟩
theorem aF210 : FactF Tryz.prog CR 210 (.l A210) := ⟨.of Tryz.func210 (by kernel_rfl) (by kernel_rfl), _, Tryz.func210, by kernel_rfl⟩
theorem aF213 : FactF Tryz.prog CR 213 (.l A213) := ⟨.of Tryz.func213 (by kernel_rfl) (by kernel_rfl), _, Tryz.func213, by kernel_rfl⟩
theorem aF234 : FactF Tryz.prog CR 234 (.l A234) := ⟨.of Tryz.func234 (by kernel_rfl) (by kernel_rfl), _, Tryz.func234, by kernel_rfl⟩
theorem aF262 : FactF Tryz.prog CR 262 (.l A262) := ⟨.of Tryz.func262 (by kernel_rfl) (by kernel_rfl), _, Tryz.func262, by kernel_rfl⟩
theorem aF265 : FactF Tryz.prog CR 265 (.l A265) := ⟨.of Tryz.func265 (by kernel_rfl) (by kernel_rfl), _, Tryz.func265, by kernel_rfl⟩
theorem aF268 : FactF Tryz.prog CR 268 (.l A268) := ⟨.of Tryz.func268 (by kernel_rfl) (by kernel_rfl), _, Tryz.func268, by kernel_rfl⟩
theorem aF299 : FactF Tryz.prog CR 299 (.l A299) := ⟨.of Tryz.func299 (by kernel_rfl) (by kernel_rfl), _, Tryz.func299, by kernel_rfl⟩
theorem aF321 : FactF Tryz.prog CR 321 (.l A321) := ⟨.of Tryz.func321 (by kernel_rfl) (by kernel_rfl), _, Tryz.func321, by kernel_rfl⟩
theorem aF348 : FactF Tryz.prog CR 348 (.l A348) := ⟨.of Tryz.func348 (by kernel_rfl) (by kernel_rfl), _, Tryz.func348, by kernel_rfl⟩
theorem aF370 : FactF Tryz.prog CR 370 (.l A370) := ⟨.of Tryz.func370 (by kernel_rfl) (by kernel_rfl), _, Tryz.func370, by kernel_rfl⟩
theorem aF391 : FactF Tryz.prog CR 391 (.l A391) := ⟨.of Tryz.func391 (by kernel_rfl) (by kernel_rfl), _, Tryz.func391, by kernel_rfl⟩
end Go.Proofs.YtbpaekbjpapgeaaGreatDoor
namespace Go.Proofs.YtbpaekbjpapgeaaGreatDoor
open Go.Proofs.YtbpaekbjpapgeaaGreatDoor.K Go.ChangeShapes Go.WideShapes Go.ChangeAt Go.RowKit
set_option maxRecDepth 100000
set_option linter.unusedSimpArgs false
set_option linter.unusedVariables false
theorem ctFact : ∀ k f, CT k = some f → FactF Tryz.prog CR k f := by
  intro k f h
  unfold CT at h
  split at h
  · cases h; exact aF9
  · cases h; exact aF14
  · cases h; exact aF16
  · cases h; exact aF18
  · cases h; exact aF20
  · cases h; exact aF22
  · cases h; exact aF23
  · cases h; exact aF26
  · cases h; exact aF30
  · cases h; exact aF34
  · cases h; exact aF35
  · cases h; exact aF36
  · cases h; exact aF37
  · cases h; exact aF38
  · cases h; exact aF39
  · cases h; exact aF44
  · cases h; exact aF45
  · cases h; exact aF46
  · cases h; exact aF47
  · cases h; exact aF59
  · cases h; exact aF62
  · cases h; exact aF64
  · cases h; exact aF65
  · cases h; exact aF66
  · cases h; exact aF67
  · cases h; exact aF68
  · cases h; exact aF69
  · cases h; exact aF70
  · cases h; exact aF74
  · cases h; exact aF75
  · cases h; exact aF76
  · cases h; exact aF77
  · cases h; exact aF78
  · cases h; exact aF79
  · cases h; exact aF80
  · cases h; exact aF81
  · cases h; exact aF82
  · cases h; exact aF84
  · cases h; exact aF85
  · cases h; exact aF86
  · cases h; exact aF87
  · cases h; exact aF88
  · cases h; exact aF89
  · cases h; exact aF90
  · cases h; exact aF92
  · cases h; exact aF93
  · cases h; exact aF94
  · cases h; exact aF95
  · cases h; exact aF96
  · cases h; exact aF98
  · cases h; exact aF99
  · cases h; exact aF100
  · cases h; exact aF101
  · cases h; exact aF102
  · cases h; exact aF103
  · cases h; exact aF104
  · cases h; exact aF105
  · cases h; exact aF125
  · cases h; exact aF132
  · cases h; exact aF133
  · cases h; exact aF134
  · cases h; exact aF139
  · cases h; exact aF140
  · cases h; exact aF141
  · cases h; exact aF142
  · cases h; exact aF143
  · cases h; exact aF144
  · cases h; exact aF145
  · cases h; exact aF146
  · cases h; exact aF147
  · cases h; exact aF148
  · cases h; exact aF149
  · cases h; exact aF150
  · cases h; exact aF151
  · cases h; exact aF152
  · cases h; exact aF153
  · cases h; exact aF154
  · cases h; exact aF155
  · cases h; exact aF156
  · cases h; exact aF157
  · cases h; exact aF158
  · cases h; exact aF159
  · cases h; exact aF160
  · cases h; exact aF161
  · cases h; exact aF181
  · cases h; exact aF182
  · cases h; exact aF200
  · cases h; exact aF201
  · cases h; exact aF202
  · cases h; exact aF203
  · cases h; exact aF204
  · cases h; exact aF205
  · cases h; exact aF206
  · cases h; exact aF207
  · cases h; exact aF208
  · cases h; exact aF210
  · cases h; exact aF211
  · cases h; exact aF212
  · cases h; exact aF213
  · cases h; exact aF214
  · cases h; exact aF231
  · cases h; exact aF234
  · cases h; exact aF260
  · cases h; exact aF261
  · cases h; exact aF262
  · cases h; exact aF263
  · cases h; exact aF264
  · cases h; exact aF265
  · cases h; exact aF266
  · cases h; exact aF267
  · cases h; exact aF268
  · cases h; exact aF281
  · cases h; exact aF298
  · cases h; exact aF299
  · cases h; exact aF300
  · cases h; exact aF301
  · cases h; exact aF321
  · cases h; exact aF331
  · cases h; exact aF332
  · cases h; exact aF348
  · cases h; exact aF349
  · cases h; exact aF361
  · cases h; exact aF370
  · cases h; exact aF371
  · cases h; exact aF373
  · cases h; exact aF391
  · cases h
theorem ctGiv {B : OH} (hT : Tab B) : ∀ k tbl, CT k = some (.g tbl) → ∀ q ∈ tbl, ∀ H N, good B H N → CR B k q.1 H N = some (.ret q.2, H, N) := by
  intro k tbl h q hq H N hN
  have hG : ∃ H N, good B H N := ⟨H, N, hN⟩
  have c1 : 1 ≤ (1 : Nat) ∧ (1 : Nat) ≤ 5 := by decide
  have c2 : 1 ≤ (1 : Nat) ∧ (1 : Nat) ≤ 16 := by decide
  have c3 : 1 ≤ (1 : Nat) ∧ (1 : Nat) ≤ 256 := by decide
  have c4 : hm ((1 : Nat) : Int) ((1 : Nat) : Int) = ((1 : Nat) : Int) := by decide
  unfold CT at h
  split at h
  · cases h
  · cases h
  · cases h
  · cases h
  · cases h
  · cases h
  · cases h
    simp only [List.mem_cons, List.mem_nil_iff, or_false] at hq
    rcases hq with rfl | rfl | rfl | rfl | rfl | rfl | rfl | rfl | rfl | rfl | rfl | rfl | rfl | rfl
    · exact congrArg (fun v => pvE v H N) (f9 hG hT c1 c2 c3 c4 (k0 := 0) (o0 := 0) (a := 0) (by decide) (by decide) (by decide) (by decide))
    · exact congrArg (fun v => pvE v H N) (f9 hG hT c1 c2 c3 c4 (k0 := 1) (o0 := 0) (a := 1) (by decide) (by decide) (by decide) (by decide))
    · exact congrArg (fun v => pvE v H N) (f9 hG hT c1 c2 c3 c4 (k0 := 1) (o0 := 0) (a := 2) (by decide) (by decide) (by decide) (by decide))
    · exact congrArg (fun v => pvE v H N) (f9 hG hT c1 c2 c3 c4 (k0 := 1) (o0 := 0) (a := 3) (by decide) (by decide) (by decide) (by decide))
    · exact congrArg (fun v => pvE v H N) (f9 hG hT c1 c2 c3 c4 (k0 := 2) (o0 := 0) (a := 4) (by decide) (by decide) (by decide) (by decide))
    · exact congrArg (fun v => pvE v H N) (f9 hG hT c1 c2 c3 c4 (k0 := 2) (o0 := 0) (a := 5) (by decide) (by decide) (by decide) (by decide))
    · exact congrArg (fun v => pvE v H N) (f9 hG hT c1 c2 c3 c4 (k0 := 3) (o0 := 0) (a := 6) (by decide) (by decide) (by decide) (by decide))
    · exact congrArg (fun v => pvE v H N) (f9 hG hT c1 c2 c3 c4 (k0 := 3) (o0 := 0) (a := 7) (by decide) (by decide) (by decide) (by decide))
    · exact congrArg (fun v => pvE v H N) (f9 hG hT c1 c2 c3 c4 (k0 := 3) (o0 := 0) (a := 8) (by decide) (by decide) (by decide) (by decide))
    · exact congrArg (fun v => pvE v H N) (f9 hG hT c1 c2 c3 c4 (k0 := 3) (o0 := 0) (a := 9) (by decide) (by decide) (by decide) (by decide))
    · exact congrArg (fun v => pvE v H N) (f9 hG hT c1 c2 c3 c4 (k0 := 3) (o0 := 0) (a := 10) (by decide) (by decide) (by decide) (by decide))
    · exact congrArg (fun v => pvE v H N) (f9 hG hT c1 c2 c3 c4 (k0 := 3) (o0 := 0) (a := 11) (by decide) (by decide) (by decide) (by decide))
    · exact congrArg (fun v => pvE v H N) (f9 hG hT c1 c2 c3 c4 (k0 := 3) (o0 := 0) (a := 12) (by decide) (by decide) (by decide) (by decide))
    · exact congrArg (fun v => pvE v H N) (f9 hG hT c1 c2 c3 c4 (k0 := 4) (o0 := 0) (a := 13) (by decide) (by decide) (by decide) (by decide))
  · cases h
    simp only [List.mem_cons, List.mem_nil_iff, or_false] at hq
    rcases hq with rfl | rfl | rfl | rfl | rfl
    · exact congrArg (fun v => pvE v H N) (f10 hG hT c1 c2 c3 c4 (k0 := 0) (o0 := 0) (by decide) (by decide))
    · exact congrArg (fun v => pvE v H N) (f10 hG hT c1 c2 c3 c4 (k0 := 1) (o0 := 0) (by decide) (by decide))
    · exact congrArg (fun v => pvE v H N) (f10 hG hT c1 c2 c3 c4 (k0 := 2) (o0 := 0) (by decide) (by decide))
    · exact congrArg (fun v => pvE v H N) (f10 hG hT c1 c2 c3 c4 (k0 := 3) (o0 := 0) (by decide) (by decide))
    · exact congrArg (fun v => pvE v H N) (f10 hG hT c1 c2 c3 c4 (k0 := 4) (o0 := 0) (by decide) (by decide))
  · cases h
  · cases h
    simp only [List.mem_cons, List.mem_nil_iff, or_false] at hq
    subst hq
    · exact congrArg (fun v => pvE v H N) (f13 hG 1 1 1 (by decide) (by decide) (by decide))
  · cases h
  · cases h
  · cases h
  · cases h
  · cases h
  · cases h
    simp only [List.mem_cons, List.mem_nil_iff, or_false] at hq
    subst hq
    · exact congrArg (fun v => pvE v H N) (f7 hG hT c1 c2 c3 c4)
  · cases h
  · cases h
  · cases h
  · cases h
  · cases h
  · cases h
  · cases h
    simp only [List.mem_cons, List.mem_nil_iff, or_false] at hq
    subst hq
    · exact congrArg (fun v => pvE v H N) (f11 hG hT 1 1 1 (by decide) (by decide) (by decide))
  · cases h
  · cases h
  · cases h
  · cases h
  · cases h
  · cases h
  · cases h
  · cases h
  · cases h
  · cases h
  · cases h
  · cases h
  · cases h
  · cases h
  · cases h
  · cases h
  · cases h
  · cases h
  · cases h
  · cases h
  · cases h
  · cases h
  · cases h
  · cases h
  · cases h
  · cases h
  · cases h
  · cases h
  · cases h
  · cases h
  · cases h
  · cases h
  · cases h
  · cases h
  · cases h
    simp only [List.mem_cons, List.mem_nil_iff, or_false] at hq
    subst hq
    · exact congrArg (fun v => pvE v H N) (f12 hG hT 1 1 1 (by decide) (by decide) (by decide))
  · cases h
  · cases h
  · cases h
  · cases h
  · cases h
  · cases h
  · cases h
  · cases h
  · cases h
  · cases h
  · cases h
  · cases h
  · cases h
  · cases h
  · cases h
  · cases h
  · cases h
  · cases h
  · cases h
  · cases h
  · cases h
  · cases h
  · cases h
  · cases h
  · cases h
  · cases h
  · cases h
  · cases h
  · cases h
  · cases h
  · cases h
  · cases h
  · cases h
  · cases h
  · cases h
  · cases h
  · cases h
  · cases h
  · cases h
  · cases h
  · cases h
  · cases h
  · cases h
  · cases h
  · cases h
  · cases h
  · cases h
  · cases h
  · cases h
  · cases h
  · cases h
  · cases h
  · cases h
  · cases h
  · cases h
  · cases h
  · cases h
  · cases h
  · cases h
  · cases h
  · cases h
  · cases h
  · cases h
  · cases h
  · cases h
  · cases h
  · cases h
  · cases h
  · cases h
noncomputable def W9 (B : OH) : Cs := renv B CT (CR B) 400 40 (fun _ _ _ _ => none) 9
theorem SoundC.never {P : Program} {w0 : World} {B : OH} {k : Nat} {g : Cs} (h : ∀ args H N, g args H N = none) : SoundC P w0 B k g := by
  intro H args Q w h0 hQ hk
  exact (h0 (by have := hQ _ (good_of hk); rw [h] at this; exact this)).elim
theorem sW9 {w0 : World} {B : OH} : SoundC Tryz.prog w0 B 9 (W9 B) := by
  rcases renv_sound (w0 := w0) (B := B) (F := 400) mixedOrders ctFact 40 (fun _ _ _ _ => none) (fun _ => .inl fun _ _ _ => rfl) 9 with h | h
  · exact SoundC.never fun args H N => h args H N
  · exact h.2
theorem awakeOk {B : OH} (hT : Tab B) {H : HL} {N : St} (hN : good B H N) : ∃ H' N', W9 B [] H N = some (.ret (.bool true), H', N') ∧ good B H' N' ∧ Fr H H' := crun (ctGiv hT) awakeRun rfl hN
end Go.Proofs.YtbpaekbjpapgeaaGreatDoor
