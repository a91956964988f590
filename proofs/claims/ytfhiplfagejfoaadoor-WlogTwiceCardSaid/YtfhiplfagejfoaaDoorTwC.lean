/- Own text: the log of writes, part TwC: contracts of the functions that the laws of the log call. -/
import Derived.Test.YtfhiplfagejfoaaDoorTwB
set_option linter.unusedSimpArgs false
set_option linter.unusedVariables false
namespace Go.Proofs.YtfhiplfagejfoaaDoor
open Go.Proofs.YtfhiplfagejfoaaDoor.K Go.ChangeShapes Go.WideShapes Go.ChangeAt Go.RowKit 
set_option maxRecDepth 100000
set_option linter.unusedSimpArgs false
set_option linter.unusedVariables false
def U64s (K : List Int) : Prop := ∀ x ∈ K, u64R x
theorem U64s.at {K : List Int} (h : U64s K) (i : Nat) : u64R (K.getD i 0) := by
  rcases Nat.lt_or_ge i K.length with hi | hi
  · exact h _ (List.mem_of_getElem? (some_getD (d := 0) hi))
  · rw [List.getD_eq_getElem?_getD, List.getElem?_eq_none hi]
    unfold u64R; simp
/-- The writes of words, so many. -/
def unL (w : List Int) : Nat → List W2
  | 0 => []
  | n + 1 => unL w n ++ [⟨w.getD (1 + 2 * n) 0, w.getD (2 + 2 * n) 0⟩]
theorem unL_len (w : List Int) : ∀ n, (unL w n).length = n
  | 0 => rfl
  | n + 1 => by simp [unL, unL_len w n]
def unN (w : List Int) : Nat := (w.getD 0 0).toNat
def plO (p h : Nat) (w : List Int) (n : Nat) : Prop := ∀ i, i < n → okP p h (w.getD (1 + 2 * i) 0)
/-- Words that are a log's. -/
def unOk (p h : Nat) (w : List Int) : Prop := w.length = LG p h ∧ w.getD 0 0 ≤ ((h + 2 * p : Nat) : Int) ∧ plO p h w (unN w) ∧ packE p h (unL w (unN w)) = 0 ∧ packW p h (unL w (unN w)) = w
open Classical in
noncomputable def unR (p h : Nat) (w : List Int) : List W2 := if unOk p h w then unL w (unN w) else []
open Classical in
noncomputable def unE (p h : Nat) (w : List Int) : Int := if unOk p h w then 0 else 2
theorem un_ok {p h : Nat} {w : List Int} (H : unOk p h w) : unR p h w = unL w (unN w) ∧ unE p h w = 0 := ⟨if_pos H, if_pos H⟩
theorem un_no {p h : Nat} {w : List Int} (H : ¬ unOk p h w) : unR p h w = [] ∧ unE p h w = 2 := ⟨if_neg H, if_neg H⟩
theorem unL_at (w : List Int) : ∀ n i, i < n → (unL w n).getD i y2 = ⟨w.getD (1 + 2 * i) 0, w.getD (2 + 2 * i) 0⟩
  | 0, i, h => by omega
  | n + 1, i, h => by
    have hl := unL_len w n
    simp only [unL]
    by_cases e : i = n
    · subst e
      rw [List.getD_eq_getElem?_getD, List.getElem?_append_right (by omega), hl, Nat.sub_self]; rfl
    · have := unL_at w n i (by omega)
      rw [List.getD_eq_getElem?_getD, List.getElem?_append_left (by omega), ← List.getD_eq_getElem?_getD, this]
theorem unL_s {kk p cc h : Nat} (C : Cf kk p cc h) {w : List Int} (hu : U64s w) {n : Nat} (ho : plO p h w n) : W2s (unL w n) := fun x hx => by
  obtain ⟨i, hi, rfl⟩ := List.getElem_of_mem hx
  rw [unL_len] at hi
  have := unL_at w n i hi
  rw [List.getD_eq_getElem?_getD, List.getElem?_eq_getElem (by rw [unL_len]; exact hi), Option.getD_some] at this
  rw [this]
  have := okP_b C (ho i hi)
  exact ⟨by unfold i64R; simp only; omega, hu.at _⟩
theorem rFitsn {B : OH} (hG : ∃ H N, good B H N) (k p c : Int) (h : ¬ fitI k p c) : Fref04Fits B [.agg #[.int .i64 k, .int .i64 p, .int .i64 c]] = some (.bool false) := by rw [rFits hG, decide_eq_false h]
theorem f11c' {B : OH} (hT : Tab B) (hG : ∃ H N, good B H N) {kk p cc h : Nat} (C : Cf kk p cc h) : F11 B [.agg #[.int .i64 (kk : Int), .int .i64 (p : Int), .int .i64 (cc : Int)]] = some (.int .i64 (LG p h : Int)) := f11c hG hT C
theorem fmost' {B : OH} (hT : Tab B) (hG : ∃ H N, good B H N) {kk p cc h : Nat} (C : Cf kk p cc h) : Fwlogmost B [.agg #[.int .i64 (kk : Int), .int .i64 (p : Int), .int .i64 (cc : Int)]] = some (.int .i64 ((h + 2 * p : Nat) : Int)) := fmost hG hT C
/-- whitewash/wlog.Unpack -/
def LwlogUnpack : FnL := ⟨(.seq (.ops [⟨(some 2), .box (.tmp 0), none⟩, ⟨(some 4), .mv (.const (.slice none 0 0)), none⟩, ⟨(some 5), .mv (.const (.int .i64 0)), none⟩])
 (.seq (.seq (.ops [⟨(some 11), .load true 3 (.tmp 2), none⟩, ⟨(some 12), .call (.func 45) [(.tmp 11)], none⟩, ⟨(some 13), .un .not (.tmp 12), none⟩])
 (.cond (.tmp 13) (.seq (.ops [⟨(some 4), .mv (.const (.slice none 0 0)), none⟩, ⟨(some 5), .mv (.const (.int .i64 5)), none⟩])
 .ret)
 .skip))
 (.seq (.seq (.draw [⟨⟨(some 14), .mv (.tmp 1), none⟩, []⟩, ⟨⟨(some 15), .len false (.tmp 14), none⟩, []⟩, ⟨⟨(some 16), .load true 3 (.tmp 2), none⟩, []⟩, ⟨⟨(some 17), .call (.func 30) [(.tmp 16)], none⟩, []⟩, ⟨⟨(some 18), .bin .neq (.tmp 15) (.tmp 17), none⟩, []⟩, ⟨⟨(some 19), .mv (.tmp 18), none⟩, []⟩, ⟨⟨(some 20), .mv (.tmp 1), (some (19, false))⟩, []⟩, ⟨⟨(some 21), .iaddrS 1 (.tmp 20) (.const (.int .i64 0)), (some (19, false))⟩, []⟩, ⟨⟨(some 22), .load false 1 (.tmp 21), (some (19, false))⟩, []⟩, ⟨⟨(some 23), .load true 3 (.tmp 2), (some (19, false))⟩, []⟩, ⟨⟨(some 24), .call (.func 47) [(.tmp 23)], (some (19, false))⟩, [⟨(some 22), .load false 1 (.tmp 21), (some (19, false))⟩]⟩, ⟨⟨(some 25), .conv .u64 (.tmp 24), (some (19, false))⟩, []⟩, ⟨⟨(some 26), .bin .gtr (.tmp 22) (.tmp 25), (some (19, false))⟩, []⟩, ⟨⟨(some 27), .pick (.tmp 19) (.const (.bool true)) (.tmp 26), none⟩, []⟩])
 (.cond (.tmp 27) (.seq (.ops [⟨(some 4), .mv (.const (.slice none 0 0)), none⟩, ⟨(some 5), .mv (.const (.int .i64 2)), none⟩])
 .ret)
 .skip))
 (.seq (.seq (.ops [⟨(some 28), .mv (.tmp 1), none⟩, ⟨(some 29), .iaddrS 1 (.tmp 28) (.const (.int .i64 0)), none⟩, ⟨(some 30), .load false 1 (.tmp 29), none⟩, ⟨(some 31), .conv .i64 (.tmp 30), none⟩, ⟨(some 32), .mv (.const (.int .i64 0)), none⟩])
 (.block 0 (.loop (.seq (.ops [⟨(some 33), .bin .lss (.tmp 32) (.tmp 31), none⟩])
 (.seq (.cond (.tmp 33) .skip
 (.exit 0))
 (.seq (.block 1 (.seq (.ops [⟨(some 34), .mv (.tmp 32), none⟩, ⟨(some 6), .mv (.tmp 34), none⟩])
 (.seq (.draw [⟨⟨(some 36), .load true 3 (.tmp 2), none⟩, []⟩, ⟨⟨(some 37), .mv (.tmp 1), none⟩, []⟩, ⟨⟨(some 38), .mv (.tmp 6), none⟩, []⟩, ⟨⟨(some 39), .bin .mul (.const (.int .i64 2)) (.tmp 38), none⟩, []⟩, ⟨⟨(some 40), .bin .add (.const (.int .i64 1)) (.tmp 39), none⟩, []⟩, ⟨⟨(some 41), .iaddrS 1 (.tmp 37) (.tmp 40), none⟩, []⟩, ⟨⟨(some 42), .load false 1 (.tmp 41), none⟩, []⟩, ⟨⟨(some 43), .call (.func 14) [(.tmp 36), (.tmp 42)], none⟩, []⟩, ⟨⟨(some 35), .mv (.tmp 43), none⟩, []⟩, ⟨⟨(some 44), .ext (.tmp 35) 0, none⟩, []⟩, ⟨⟨(some 45), .ext (.tmp 35) 1, none⟩, []⟩, ⟨⟨(some 7), .mv (.tmp 44), none⟩, []⟩, ⟨⟨(some 8), .mv (.tmp 45), none⟩, []⟩])
 (.seq (.seq (.ops [⟨(some 46), .mv (.tmp 8), none⟩, ⟨(some 47), .un .not (.tmp 46), none⟩])
 (.cond (.tmp 47) (.seq (.ops [⟨(some 4), .mv (.const (.slice none 0 0)), none⟩, ⟨(some 5), .mv (.const (.int .i64 2)), none⟩])
 .ret)
 .skip))
 (.ops [⟨(some 48), .mv (.tmp 4), none⟩, ⟨(some 49), .mv (.tmp 7), none⟩, ⟨(some 50), .mv (.tmp 1), none⟩, ⟨(some 51), .mv (.tmp 6), none⟩, ⟨(some 52), .bin .mul (.const (.int .i64 2)) (.tmp 51), none⟩, ⟨(some 53), .bin .add (.const (.int .i64 2)) (.tmp 52), none⟩, ⟨(some 54), .iaddrS 1 (.tmp 50) (.tmp 53), none⟩, ⟨(some 55), .load false 1 (.tmp 54), none⟩, ⟨(some 56), .build [(.int .i64 0), (.int .u64 0)] [(0, 1, (.tmp 49)), (1, 1, (.tmp 55))], none⟩, ⟨(some 57), .buildS [(.int .i64 0), (.int .u64 0)] 1 [(0, 2, (.tmp 56))], none⟩, ⟨(some 58), .app [(.int .i64 0), (.int .u64 0)] 16 (.tmp 48) (.tmp 57), none⟩, ⟨(some 4), .mv (.tmp 58), none⟩])))))
 (.ops [⟨(some 59), .bin .add (.tmp 32) (.const (.int .i64 1)), none⟩, ⟨(some 32), .mv (.tmp 59), none⟩])))))))
 (.seq (.seq (.ops [⟨(some 61), .load true 3 (.tmp 2), none⟩, ⟨(some 62), .mv (.tmp 4), none⟩, ⟨(some 63), .call (.func 16) [(.tmp 61), (.tmp 62)], none⟩, ⟨(some 60), .mv (.tmp 63), none⟩, ⟨(some 64), .ext (.tmp 60) 0, none⟩, ⟨(some 65), .ext (.tmp 60) 1, none⟩, ⟨(some 9), .mv (.tmp 64), none⟩, ⟨(some 10), .mv (.tmp 65), none⟩])
 (.seq (.ops [⟨(some 66), .mv (.tmp 10), none⟩, ⟨(some 67), .bin .neq (.tmp 66) (.const (.int .i64 0)), none⟩, ⟨(some 68), .mv (.tmp 67), none⟩, ⟨(some 69), .mv (.tmp 9), (some (68, false))⟩, ⟨(some 70), .mv (.tmp 1), (some (68, false))⟩, ⟨(some 71), .call (.func 48) [(.tmp 69), (.tmp 70)], (some (68, false))⟩, ⟨(some 72), .un .not (.tmp 71), (some (68, false))⟩, ⟨(some 73), .pick (.tmp 68) (.const (.bool true)) (.tmp 72), none⟩])
 (.cond (.tmp 73) (.seq (.ops [⟨(some 4), .mv (.const (.slice none 0 0)), none⟩, ⟨(some 5), .mv (.const (.int .i64 2)), none⟩])
 .ret)
 .skip)))
 (.seq (.ops [⟨(some 74), .mv (.tmp 4), none⟩, ⟨(some 4), .mv (.tmp 74), none⟩, ⟨(some 5), .mv (.const (.int .i64 0)), none⟩])
 .ret)))))),
 75, [.tmp 4, .tmp 5]⟩
theorem lowwlogUnpack : lowerFn Tryd.prog Tryd.f18 = some LwlogUnpack := by kernel_rfl
noncomputable def GwlogUnpack (B : OH) : Nat → Cs
  | 30 => V11 B
  | 45 => V13 B
  | 48 => VslicesEqual_uint64uint64 B
  | 16 => VwlogPack B
  | 14 => VwlogPlace B
  | 47 => Vwlogmost B
  | _ => fun _ _ _ => none
theorem GwlogUnpack_11 {B : OH} : GwlogUnpack B 30 = V11 B := rfl
theorem GwlogUnpack_13 {B : OH} : GwlogUnpack B 45 = V13 B := rfl
theorem GwlogUnpack_slicesEqual_uint64uint64 {B : OH} : GwlogUnpack B 48 = VslicesEqual_uint64uint64 B := rfl
theorem GwlogUnpack_wlogPack {B : OH} : GwlogUnpack B 16 = VwlogPack B := rfl
theorem GwlogUnpack_wlogPlace {B : OH} : GwlogUnpack B 14 = VwlogPlace B := rfl
theorem GwlogUnpack_wlogmost {B : OH} : GwlogUnpack B 47 = Vwlogmost B := rfl
theorem sGwlogUnpack {w0 : World} {B : OH} : SoundG Tryd.prog w0 B { f := GwlogUnpack B } := .of fun k => by
  unfold GwlogUnpack
  split
  · exact .inr ⟨en11, sV11⟩
  · exact .inr ⟨en13, sV13⟩
  · exact .inr ⟨enslicesEqual_uint64uint64, sVslicesEqual_uint64uint64⟩
  · exact .inr ⟨enwlogPack, sVwlogPack⟩
  · exact .inr ⟨enwlogPlace, sVwlogPlace⟩
  · exact .inr ⟨enwlogmost, sVwlogmost⟩
  · exact .inl fun _ _ _ => rfl
theorem enwlogUnpack : Enter Tryd.prog 18 := .of Tryd.func18 (by kernel_rfl) (by kernel_rfl)
noncomputable def TwlogUnpack (B : OH) : Cs := callF B { f := GwlogUnpack B } 1000000 LwlogUnpack
theorem sTwlogUnpack {w0 : World} {B : OH} : SoundC Tryd.prog w0 B 18 (TwlogUnpack B) := callF_sound mixedOrders sGwlogUnpack 1000000 Tryd.func18 lowwlogUnpack
noncomputable def VwlogUnpack (B : OH) : Cs := TwlogUnpack B
theorem sVwlogUnpack {w0 : World} {B : OH} : SoundC Tryd.prog w0 B 18 (VwlogUnpack B) := sTwlogUnpack
structure KUwlogUnpack (c : Nat) (vw vo : Value) (n i : Nat) (ts : List Value) : Prop where
  l : ts.length = 75
  t1 : gt ts 1 = vw
  t2 : gt ts 2 = .pointer (some ⟨c, 0, none⟩)
  t4 : gt ts 4 = vo
  t31 : gt ts 31 = .int .i64 (n : Int)
  t32 : gt ts 32 = .int .i64 (i : Int)
def lbwlogUnpack : LC := (.seq (.ops [⟨(some 33), .bin .lss (.tmp 32) (.tmp 31), none⟩])
 (.seq (.cond (.tmp 33) .skip
 (.exit 0))
 (.seq (.block 1 (.seq (.ops [⟨(some 34), .mv (.tmp 32), none⟩, ⟨(some 6), .mv (.tmp 34), none⟩])
 (.seq (.draw [⟨⟨(some 36), .load true 3 (.tmp 2), none⟩, []⟩, ⟨⟨(some 37), .mv (.tmp 1), none⟩, []⟩, ⟨⟨(some 38), .mv (.tmp 6), none⟩, []⟩, ⟨⟨(some 39), .bin .mul (.const (.int .i64 2)) (.tmp 38), none⟩, []⟩, ⟨⟨(some 40), .bin .add (.const (.int .i64 1)) (.tmp 39), none⟩, []⟩, ⟨⟨(some 41), .iaddrS 1 (.tmp 37) (.tmp 40), none⟩, []⟩, ⟨⟨(some 42), .load false 1 (.tmp 41), none⟩, []⟩, ⟨⟨(some 43), .call (.func 14) [(.tmp 36), (.tmp 42)], none⟩, []⟩, ⟨⟨(some 35), .mv (.tmp 43), none⟩, []⟩, ⟨⟨(some 44), .ext (.tmp 35) 0, none⟩, []⟩, ⟨⟨(some 45), .ext (.tmp 35) 1, none⟩, []⟩, ⟨⟨(some 7), .mv (.tmp 44), none⟩, []⟩, ⟨⟨(some 8), .mv (.tmp 45), none⟩, []⟩])
 (.seq (.seq (.ops [⟨(some 46), .mv (.tmp 8), none⟩, ⟨(some 47), .un .not (.tmp 46), none⟩])
 (.cond (.tmp 47) (.seq (.ops [⟨(some 4), .mv (.const (.slice none 0 0)), none⟩, ⟨(some 5), .mv (.const (.int .i64 2)), none⟩])
 .ret)
 .skip))
 (.ops [⟨(some 48), .mv (.tmp 4), none⟩, ⟨(some 49), .mv (.tmp 7), none⟩, ⟨(some 50), .mv (.tmp 1), none⟩, ⟨(some 51), .mv (.tmp 6), none⟩, ⟨(some 52), .bin .mul (.const (.int .i64 2)) (.tmp 51), none⟩, ⟨(some 53), .bin .add (.const (.int .i64 2)) (.tmp 52), none⟩, ⟨(some 54), .iaddrS 1 (.tmp 50) (.tmp 53), none⟩, ⟨(some 55), .load false 1 (.tmp 54), none⟩, ⟨(some 56), .build [(.int .i64 0), (.int .u64 0)] [(0, 1, (.tmp 49)), (1, 1, (.tmp 55))], none⟩, ⟨(some 57), .buildS [(.int .i64 0), (.int .u64 0)] 1 [(0, 2, (.tmp 56))], none⟩, ⟨(some 58), .app [(.int .i64 0), (.int .u64 0)] 16 (.tmp 48) (.tmp 57), none⟩, ⟨(some 4), .mv (.tmp 58), none⟩])))))
 (.ops [⟨(some 59), .bin .add (.tmp 32) (.const (.int .i64 1)), none⟩, ⟨(some 32), .mv (.tmp 59), none⟩]))))
set_option maxHeartbeats 8000000 in
theorem loopwlogUnpack {B : OH} {H0 H : HL} {N : St} {vw : Value} {w : List Int} {kk p cc h c n : Nat} (hT : Tab B) (C : Cf kk p cc h) (hv : SlR w1 1 B H0 vw w) (hu : U64s w) (hlw : w.length = LG p h) (hn : w.getD 0 0 = (n : Int)) (hnn : n ≤ h + 2 * p) (hN : good B H N) (hF0 : Fr H0 H) (bc : B c = none)
    (lc : lk H c = some (.cells [.int .i64 (kk : Int), .int .i64 (p : Int), .int .i64 (cc : Int)] 3)) {ts : List Value} (kp : KUwlogUnpack c vw (.slice none 0 0) n 0 ts) {F : Nat} (hF : 300 + n + 1 ≤ F) :
    Ok (exec B { f := GwlogUnpack B } F (LC.loop lbwlogUnpack) ⟨ts, H, N⟩) (fun x s => good B s.H s.N ∧ Fr H0 s.H ∧ lk s.H c = lk H c ∧ ((x = .exit 0 ∧ plO p h w n ∧ ∃ vo, SlM w2 2 B H s.H vo (unL w n) ∧ KUwlogUnpack c vw vo n n s.t) ∨ (x = .ret ∧ ¬ plO p h w n ∧ s.t.length = 75 ∧ gt s.t 4 = .slice none 0 0 ∧ gt s.t 5 = .int .i64 2))) := by
  have hlb := LG_b C
  have hcp := C.p
  have hch := C.h
  have hLG : LG p h = 1 + 2 * (h + 2 * p) := rfl
  refine loop_rule (n0 := 300) (fun q s => ∃ ts H' N' vo, ∃ i : Nat, s = ⟨ts, H', N'⟩ ∧ KUwlogUnpack c vw vo n i ts ∧ good B H' N' ∧ Fr H H' ∧ SlM w2 2 B H H' vo (unL w i) ∧ plO p h w i ∧ i ≤ n ∧ q = n - i) _ ?_ n _ ⟨ts, H, N, _, 0, rfl, kp, hN, Fr.refl, .inl ⟨rfl, rfl⟩, fun i hi => by omega, by omega, rfl⟩ _ hF
  clear kp hF F ts hN N
  rintro z q s ⟨ts, H1, N1, vo, i, rfl, kp, g, fr, so, hok, hi, rfl⟩
  have hB := good_B g
  have hR := good_rdB g
  have hI := beqN g.1.1
  have hG : ∃ H N, good B H N := ⟨H1, N1, g⟩
  have lc1 := fr _ _ lc
  have nc := ne_N g lc1
  have nc' := ne_N' g lc1
  have rc := fun o n => rdB_none (o := o) (n := n) bc
  have hc1 : ((i + 1 : Nat) : Int) = (i : Int) + 1 := by omega
  obtain ⟨bv, ov, cv, rfl, _, rv⟩ := hv.at (by omega)
  have r0 : rdO H1 B bv ov 1 (rdB B bv ov 1) = some [.int .u64 (n : Int)] := by
    have := SlR.read rv w1_len (hF0.trans fr) 0 (i := 0) (by omega)
    rw [Nat.zero_mul, Nat.add_zero, hn] at this
    exact this
  have wn : IntKind.i64.wrap (n : Int) = (n : Int) := IntWalk.i64_in _ (by omega)
  have l0 : 0 < w.length := by omega
  by_cases hin : i < n
  case neg =>
    obtain rfl : i = n := by omega
    simp -implicitDefEqProofs (maxSteps := 10000000) (disch := omega) only [TwlogUnpack, LwlogUnpack, GwlogUnpack_11, V11_eq, GwlogUnpack_13, V13_eq, GwlogUnpack_slicesEqual_uint64uint64, GwlogUnpack_wlogPack, GwlogUnpack_wlogPlace, VwlogPlace_eq, GwlogUnpack_wlogmost, Vwlogmost_eq, hB, hR, hI, lbwlogUnpack, kp.l, kp.t1, kp.t2, kp.t4, kp.t31, kp.t32, lenV_sl, Int.toNat_natCast, bft, btf, gtst, st_len, Int.lt_irrefl, r0, wn, l0, Nat.zero_mul, pad, lightV, bt, bf, evs, gt, st, binV, arith, isSh, storeV, all1, idxAV, fieldV, faddrV, iaddrSV, iaddrAV, pickV, convV, unV, eqbV, eqpV, extV, mm2, mmV, nilckV, ress, res1, retV, Value.cells, reduceIte, reduceCtorEq, Int.reduceLT, Int.reduceLE, Int.reduceToNat, Int.reduceAdd, Int.reduceSub, Int.reduceMul, Int.reduceNeg, Nat.reduceMul, Nat.reduceAdd, Nat.reduceSub, Nat.reduceBEq, Nat.reduceEqDiff, Nat.reduceLT, Nat.reduceLeDiff, Int.reduceBEq, Int.reduceEq, Nat.reducePow, Int.reducePow, IntWalk.i64_in, IntKind.bits, eqAV, eqL, leafEq, andO, fillV, buildSV, Int.reduceGT, Int.reduceGE, Int.reduceBNe, IntWalk.u64_in, newsV_s, tassV, isnV, slcV, slcAV, slcTV, slcB, appNew, Option.bind_some, Option.bind_none, eqsV, lookV, mupdV, mdelV, mkM, ev1, ev2]
    refine ok_some (.inr ⟨by simp, g, hF0.trans fr, lc1.trans lc.symm, .inl ⟨rfl, hok, vo, so, ⟨?_, ?_, ?_, ?_, ?_, ?_⟩⟩⟩)
    all_goals simp (maxSteps := 10000000) (disch := omega) only [kp.l, kp.t1, kp.t2, kp.t4, kp.t31, kp.t32, lenV_sl, Int.toNat_natCast, bft, btf, gtst, st_len, Nat.reduceAdd, Int.cast_ofNat_Int, cond_true, cond_false, Nat.reduceBEq, Nat.reduceLT, decide_true, beq_self_eq_true, if_true, if_false]
  have hin' : (i : Int) < (n : Int) := by omega
  have x0 : 1 + 2 * (i : Int) = ((1 + 2 * i : Nat) : Int) := by omega
  have x1 : 2 + 2 * (i : Int) = ((2 + 2 * i : Nat) : Int) := by omega
  have x2 : (0 : Int) ≤ ((1 + 2 * i : Nat) : Int) := by omega
  have x3 : (0 : Int) ≤ ((2 + 2 * i : Nat) : Int) := by omega
  have x4 : 1 + 2 * i < w.length := by omega
  have x5 : 2 + 2 * i < w.length := by omega
  have x6 : IntKind.i64.wrap ((1 + 2 * i : Nat) : Int) = ((1 + 2 * i : Nat) : Int) := IntWalk.i64_in _ (by omega)
  have x7 : IntKind.i64.wrap ((2 + 2 * i : Nat) : Int) = ((2 + 2 * i : Nat) : Int) := IntWalk.i64_in _ (by omega)
  have r1 := SlR.read rv w1_len (hF0.trans fr) 0 x4
  have r2 := SlR.read rv w1_len (hF0.trans fr) 0 x5
  rw [Nat.mul_one] at r1 r2
  have hu1 := hu.at (1 + 2 * i)
  have hul := unL_len w i
  have hs : unL w (i + 1) = unL w i ++ [⟨w.getD (1 + 2 * i) 0, w.getD (2 + 2 * i) 0⟩] := rfl
  have ep := fPlace hG hT C hu1
  have hyes : okP p h (w.getD (1 + 2 * i) 0) → plO p h w (i + 1) := fun h1 j hj => by
    by_cases e : j = i
    · rw [e]; exact h1
    · exact hok j (by omega)
  have hno : ¬ okP p h (w.getD (1 + 2 * i) 0) → ¬ plO p h w n := fun h1 h2 => h1 (h2 i hin)
  generalize w.getD (1 + 2 * i) 0 = a at *
  generalize w.getD (2 + 2 * i) 0 = b at *
  simp only [w1] at r1 r2
  by_cases hpl : okP p h a
  case neg =>
    rw [plV_n hpl] at ep
    simp -implicitDefEqProofs (maxSteps := 10000000) (disch := omega) only [TwlogUnpack, LwlogUnpack, GwlogUnpack_11, V11_eq, GwlogUnpack_13, V13_eq, GwlogUnpack_slicesEqual_uint64uint64, GwlogUnpack_wlogPack, GwlogUnpack_wlogPlace, VwlogPlace_eq, GwlogUnpack_wlogmost, Vwlogmost_eq, hB, hR, hI, lbwlogUnpack, kp.l, kp.t1, kp.t2, kp.t4, kp.t31, kp.t32, lenV_sl, Int.toNat_natCast, bft, btf, gtst, st_len, hin', r0, wn, l0, Nat.zero_mul, x0, x1, x2, x3, x4, x5, x6, x7, r1, r2, lc1, bc, rc, ep, Nat.mul_one, pad, lightV, bt, bf, evs, gt, st, binV, arith, isSh, storeV, all1, idxAV, fieldV, faddrV, iaddrSV, iaddrAV, pickV, convV, unV, eqbV, eqpV, extV, mm2, mmV, nilckV, ress, res1, retV, Value.cells, reduceIte, reduceCtorEq, Int.reduceLT, Int.reduceLE, Int.reduceToNat, Int.reduceAdd, Int.reduceSub, Int.reduceMul, Int.reduceNeg, Nat.reduceMul, Nat.reduceAdd, Nat.reduceSub, Nat.reduceBEq, Nat.reduceEqDiff, Nat.reduceLT, Nat.reduceLeDiff, Int.reduceBEq, Int.reduceEq, Nat.reducePow, Int.reducePow, IntWalk.i64_in, IntKind.bits, eqAV, eqL, leafEq, andO, fillV, buildSV, Int.reduceGT, Int.reduceGE, Int.reduceBNe, IntWalk.u64_in, newsV_s, tassV, isnV, slcV, slcAV, slcTV, slcB, appNew, Option.bind_some, Option.bind_none, eqsV, lookV, mupdV, mdelV, mkM, ev1, ev2]
    refine ok_some (.inr ⟨by simp, g, hF0.trans fr, lc1.trans lc.symm, .inr ⟨rfl, hno hpl, ?_, ?_, ?_⟩⟩)
    all_goals simp (maxSteps := 10000000) (disch := omega) only [kp.l, kp.t1, kp.t2, kp.t4, kp.t31, kp.t32, lenV_sl, Int.toNat_natCast, bft, btf, gtst, st_len, Nat.reduceAdd, Int.cast_ofNat_Int, cond_true, cond_false, Nat.reduceBEq, Nat.reduceLT, decide_true, beq_self_eq_true, if_true, if_false]
  rw [plV_y hpl] at ep
  obtain ⟨v4, H4, N4, e4, g4, r4, _, s4, _⟩ := push_specM w2_len (bytes := 16) g fr so ⟨a, b⟩ rfl (by omega) (by omega)
  rw [← hs] at s4
  simp only [w2] at e4
  simp -implicitDefEqProofs (maxSteps := 10000000) (disch := omega) only [TwlogUnpack, LwlogUnpack, GwlogUnpack_11, V11_eq, GwlogUnpack_13, V13_eq, GwlogUnpack_slicesEqual_uint64uint64, GwlogUnpack_wlogPack, GwlogUnpack_wlogPlace, VwlogPlace_eq, GwlogUnpack_wlogmost, Vwlogmost_eq, hB, hR, hI, lbwlogUnpack, kp.l, kp.t1, kp.t2, kp.t4, kp.t31, kp.t32, lenV_sl, Int.toNat_natCast, bft, btf, gtst, st_len, hin', r0, wn, l0, Nat.zero_mul, x0, x1, x2, x3, x4, x5, x6, x7, r1, r2, lc1, bc, rc, ep, e4, Nat.mul_one, pad, lightV, bt, bf, evs, gt, st, binV, arith, isSh, storeV, all1, idxAV, fieldV, faddrV, iaddrSV, iaddrAV, pickV, convV, unV, eqbV, eqpV, extV, mm2, mmV, nilckV, ress, res1, retV, Value.cells, reduceIte, reduceCtorEq, Int.reduceLT, Int.reduceLE, Int.reduceToNat, Int.reduceAdd, Int.reduceSub, Int.reduceMul, Int.reduceNeg, Nat.reduceMul, Nat.reduceAdd, Nat.reduceSub, Nat.reduceBEq, Nat.reduceEqDiff, Nat.reduceLT, Nat.reduceLeDiff, Int.reduceBEq, Int.reduceEq, Nat.reducePow, Int.reducePow, IntWalk.i64_in, IntKind.bits, eqAV, eqL, leafEq, andO, fillV, buildSV, Int.reduceGT, Int.reduceGE, Int.reduceBNe, IntWalk.u64_in, newsV_s, tassV, isnV, slcV, slcAV, slcTV, slcB, appNew, Option.bind_some, Option.bind_none, eqsV, lookV, mupdV, mdelV, mkM, ev1, ev2]
  refine ok_some (.inl ⟨rfl, n - (i + 1), by omega, _, H4, N4, v4, i + 1, rfl, ⟨?_, ?_, ?_, ?_, ?_, ?_⟩, g4, r4, s4.toM, hyes hpl, by omega, rfl⟩)
  all_goals simp (maxSteps := 10000000) (disch := omega) only [kp.l, kp.t1, kp.t2, kp.t4, kp.t31, kp.t32, lenV_sl, Int.toNat_natCast, bft, btf, gtst, st_len, hc1, Nat.reduceAdd, Int.cast_ofNat_Int, cond_true, cond_false, Nat.reduceBEq, Nat.reduceLT, decide_true, beq_self_eq_true, if_true, if_false]
set_option maxHeartbeats 8000000 in
theorem fUnpack {B : OH} {H : HL} {N : St} {vw : Value} {w : List Int} {kk p cc h : Nat} (hT : Tab B) (C : Cf kk p cc h) (hN : good B H N) (hv : SlR w1 1 B H vw w) (hu : U64s w) (hlw : w.length ≤ 900000) :
    ∃ v' H' N', VwlogUnpack B [.agg #[.int .i64 (kk : Int), .int .i64 (p : Int), .int .i64 (cc : Int)], vw] H N = some (.ret (.tuple #[v', .int .i64 (unE p h w)]), H', N') ∧ good B H' N' ∧ Fr H H' ∧ SlM w2 2 B H H' v' (unR p h w) := by
  have hB := good_B hN
  have hR := good_rdB hN
  have hI := beqN hN.1.1
  have hG : ∃ H N, good B H N := ⟨H, N, hN⟩
  have e1 := f13 hG kk p cc (cfit C).1 (cfit C).2.1 (cfit C).2.2
  have e2 := f11c' hT hG C
  have e3 := fmost' hT hG C
  have hll := hv.len
  have hlb := LG_b C
  have hcp := C.p
  have hch := C.h
  have hLG : LG p h = 1 + 2 * (h + 2 * p) := rfl
  have g1 : good B ((N.n 0, .cells [.int .i64 (kk : Int), .int .i64 (p : Int), .int .i64 (cc : Int)] 3) :: H) (sh N) := good_new hN
  have f1 : Fr H ((N.n 0, .cells [.int .i64 (kk : Int), .int .i64 (p : Int), .int .i64 (cc : Int)] 3) :: H) := fr_new hN Fr.refl 0
  unfold VwlogUnpack
  by_cases hl : w.length = LG p h
  case neg =>
    have hb : ((w.length : Int) != (LG p h : Int)) = true := by simp; omega
    obtain ⟨u1, u2⟩ := un_no (p := p) (h := h) (w := w) (fun h' => hl h'.1)
    rw [u1, u2]
    simp -implicitDefEqProofs (maxSteps := 10000000) (disch := omega) only [TwlogUnpack, LwlogUnpack, GwlogUnpack_11, V11_eq, GwlogUnpack_13, V13_eq, GwlogUnpack_slicesEqual_uint64uint64, GwlogUnpack_wlogPack, GwlogUnpack_wlogPlace, VwlogPlace_eq, GwlogUnpack_wlogmost, Vwlogmost_eq, hB, hR, hI, lenV_sl, Int.toNat_natCast, bft, btf, gtst, st_len, e1, e2, hll, hb, pad, lightV, bt, bf, evs, gt, st, binV, arith, isSh, storeV, all1, idxAV, fieldV, faddrV, iaddrSV, iaddrAV, pickV, convV, unV, eqbV, eqpV, extV, mm2, mmV, nilckV, ress, res1, retV, Value.cells, reduceIte, reduceCtorEq, Int.reduceLT, Int.reduceLE, Int.reduceToNat, Int.reduceAdd, Int.reduceSub, Int.reduceMul, Int.reduceNeg, Nat.reduceMul, Nat.reduceAdd, Nat.reduceSub, Nat.reduceBEq, Nat.reduceEqDiff, Nat.reduceLT, Nat.reduceLeDiff, Int.reduceBEq, Int.reduceEq, Nat.reducePow, Int.reducePow, IntWalk.i64_in, IntKind.bits, eqAV, eqL, leafEq, andO, fillV, buildSV, Int.reduceGT, Int.reduceGE, Int.reduceBNe, IntWalk.u64_in, newsV_s, tassV, isnV, slcV, slcAV, slcTV, slcB, appNew, Option.bind_some, Option.bind_none, eqsV, lookV, mupdV, mdelV, mkM, ev1, ev2]
    exact ⟨_, _, _, rfl, g1, f1, .inl ⟨rfl, rfl⟩⟩
  have hb : ((w.length : Int) != (LG p h : Int)) = false := by simp; omega
  have h0u := hu.at 0
  have l0 : 0 < w.length := by omega
  have rz : ∀ bv ov cv, vw = .slice (some ⟨bv, ov, none⟩) w.length cv → (∀ H', Fr H H' → ∀ i j n d, i < w.length → j + n ≤ 1 → rdO H' B bv (ov + i * 1 + j) n (rdB B bv (ov + i * 1 + j) n) = tk (w1 (w.getD i d)) j n) → rdO ((N.n 0, .cells [.int .i64 (kk : Int), .int .i64 (p : Int), .int .i64 (cc : Int)] 3) :: H) B bv ov 1 (rdB B bv ov 1) = some [.int .u64 (w.getD 0 0)] := fun bv ov cv _ rv => by
    have := SlR.read rv w1_len f1 0 (i := 0) l0
    rw [Nat.zero_mul, Nat.add_zero] at this
    exact this
  have wm : IntKind.u64.wrap ((h + 2 * p : Nat) : Int) = ((h + 2 * p : Nat) : Int) := IntWalk.u64_in _ (by omega)
  obtain ⟨bv, ov, cv, hve, hde, rv⟩ := hv.at l0
  have r0 := rz _ _ _ hve rv
  clear rz
  have nv := ne_den hN hde 0
  subst hve
  by_cases hm : w.getD 0 0 > ((h + 2 * p : Nat) : Int)
  · obtain ⟨u1, u2⟩ := un_no (p := p) (h := h) (w := w) (fun h' => by have := h'.2.1; omega)
    rw [u1, u2]
    simp -implicitDefEqProofs (maxSteps := 10000000) (disch := omega) only [TwlogUnpack, LwlogUnpack, GwlogUnpack_11, V11_eq, GwlogUnpack_13, V13_eq, GwlogUnpack_slicesEqual_uint64uint64, GwlogUnpack_wlogPack, GwlogUnpack_wlogPlace, VwlogPlace_eq, GwlogUnpack_wlogmost, Vwlogmost_eq, hB, hR, hI, lenV_sl, Int.toNat_natCast, bft, btf, gtst, st_len, e1, e2, e3, hll, hb, l0, nv, r0, wm, hm, Nat.zero_mul, pad, lightV, bt, bf, evs, gt, st, binV, arith, isSh, storeV, all1, idxAV, fieldV, faddrV, iaddrSV, iaddrAV, pickV, convV, unV, eqbV, eqpV, extV, mm2, mmV, nilckV, ress, res1, retV, Value.cells, reduceIte, reduceCtorEq, Int.reduceLT, Int.reduceLE, Int.reduceToNat, Int.reduceAdd, Int.reduceSub, Int.reduceMul, Int.reduceNeg, Nat.reduceMul, Nat.reduceAdd, Nat.reduceSub, Nat.reduceBEq, Nat.reduceEqDiff, Nat.reduceLT, Nat.reduceLeDiff, Int.reduceBEq, Int.reduceEq, Nat.reducePow, Int.reducePow, IntWalk.i64_in, IntKind.bits, eqAV, eqL, leafEq, andO, fillV, buildSV, Int.reduceGT, Int.reduceGE, Int.reduceBNe, IntWalk.u64_in, newsV_s, tassV, isnV, slcV, slcAV, slcTV, slcB, appNew, Option.bind_some, Option.bind_none, eqsV, lookV, mupdV, mdelV, mkM, ev1, ev2]
    exact ⟨_, _, _, rfl, g1, f1, .inl ⟨rfl, rfl⟩⟩
  unfold u64R at h0u
  obtain ⟨n, hn⟩ : ∃ n : Nat, w.getD 0 0 = (n : Int) := ⟨(w.getD 0 0).toNat, by omega⟩
  have hnn : n ≤ h + 2 * p := by omega
  have hun : unN w = n := by unfold unN; rw [hn]; rfl
  have wn : IntKind.i64.wrap (n : Int) = (n : Int) := IntWalk.i64_in _ (by omega)
  rw [hn] at r0 hm
  simp -implicitDefEqProofs (maxSteps := 10000000) (disch := omega) only [TwlogUnpack, LwlogUnpack, GwlogUnpack_11, V11_eq, GwlogUnpack_13, V13_eq, GwlogUnpack_slicesEqual_uint64uint64, GwlogUnpack_wlogPack, GwlogUnpack_wlogPlace, VwlogPlace_eq, GwlogUnpack_wlogmost, Vwlogmost_eq, hB, hR, hI, lenV_sl, Int.toNat_natCast, bft, btf, gtst, st_len, e1, e2, e3, hll, hb, l0, nv, r0, wm, wn, hm, Nat.zero_mul, pad, lightV, bt, bf, evs, gt, st, binV, arith, isSh, storeV, all1, idxAV, fieldV, faddrV, iaddrSV, iaddrAV, pickV, convV, unV, eqbV, eqpV, extV, mm2, mmV, nilckV, ress, res1, retV, Value.cells, reduceIte, reduceCtorEq, Int.reduceLT, Int.reduceLE, Int.reduceToNat, Int.reduceAdd, Int.reduceSub, Int.reduceMul, Int.reduceNeg, Nat.reduceMul, Nat.reduceAdd, Nat.reduceSub, Nat.reduceBEq, Nat.reduceEqDiff, Nat.reduceLT, Nat.reduceLeDiff, Int.reduceBEq, Int.reduceEq, Nat.reducePow, Int.reducePow, IntWalk.i64_in, IntKind.bits, eqAV, eqL, leafEq, andO, fillV, buildSV, Int.reduceGT, Int.reduceGE, Int.reduceBNe, IntWalk.u64_in, newsV_s, tassV, isnV, slcV, slcAV, slcTV, slcB, appNew, Option.bind_some, Option.bind_none, eqsV, lookV, mupdV, mdelV, mkM, ev1, ev2]
  generalize hX : exec B _ _ (LC.loop _) _ = o
  obtain ⟨x, ⟨ts, H1, N1⟩, ho, g2, fr2, hlc, hr⟩ := (show Ok o _ by rw [← hX]; exact loopwlogUnpack (c := N.n 0) (n := n) hT C hv hu hl hn hnn g1 f1 (hB 0) lk_top ⟨rfl, rfl, rfl, rfl, rfl, rfl⟩ (by omega))
  subst ho
  simp only at g2 fr2 hlc hr
  have lc := hlc.trans lk_top
  have b0 := hB 0
  have rb0 := fun o n => rdB_none (o := o) (n := n) b0
  rcases hr with ⟨rfl, hok, vo, so, kp⟩ | ⟨rfl, hbad, tl, t4, t5⟩
  · have hw2 := unL_s C hu hok
    obtain ⟨v3, H3, N3, e4, g3, r3, s3⟩ := fPack hT C g2 (so.rd w2_len) hw2
    by_cases hpe : packE p h (unL w n) = 0
    · rw [hpe] at e4
      rw [if_pos hpe] at s3
      have e5 := sameslicesEqual_uint64uint64 g3 (s3.rd w1_len) (hv.mono (fr2.trans r3)) (by rw [packW_len (packE_0 hpe).1]; omega)
      by_cases heq : packW p h (unL w n) = w
      · obtain ⟨u1, u2⟩ := un_ok (p := p) (h := h) (w := w) ⟨hl, by omega, by rw [hun]; exact hok, by rw [hun]; exact hpe, by rw [hun]; exact heq⟩
        rw [u1, u2, hun]
        rw [decide_eq_true heq] at e5
        simp -implicitDefEqProofs (maxSteps := 10000000) (disch := omega) only [TwlogUnpack, LwlogUnpack, GwlogUnpack_11, V11_eq, GwlogUnpack_13, V13_eq, GwlogUnpack_slicesEqual_uint64uint64, GwlogUnpack_wlogPack, GwlogUnpack_wlogPlace, VwlogPlace_eq, GwlogUnpack_wlogmost, Vwlogmost_eq, hB, hR, hI, kp.l, kp.t1, kp.t2, kp.t4, kp.t31, kp.t32, lenV_sl, Int.toNat_natCast, bft, btf, gtst, st_len, lc, b0, rb0, e4, e5, bne_self_eq_false, pad, lightV, bt, bf, evs, gt, st, binV, arith, isSh, storeV, all1, idxAV, fieldV, faddrV, iaddrSV, iaddrAV, pickV, convV, unV, eqbV, eqpV, extV, mm2, mmV, nilckV, ress, res1, retV, Value.cells, reduceIte, reduceCtorEq, Int.reduceLT, Int.reduceLE, Int.reduceToNat, Int.reduceAdd, Int.reduceSub, Int.reduceMul, Int.reduceNeg, Nat.reduceMul, Nat.reduceAdd, Nat.reduceSub, Nat.reduceBEq, Nat.reduceEqDiff, Nat.reduceLT, Nat.reduceLeDiff, Int.reduceBEq, Int.reduceEq, Nat.reducePow, Int.reducePow, IntWalk.i64_in, IntKind.bits, eqAV, eqL, leafEq, andO, fillV, buildSV, Int.reduceGT, Int.reduceGE, Int.reduceBNe, IntWalk.u64_in, newsV_s, tassV, isnV, slcV, slcAV, slcTV, slcB, appNew, Option.bind_some, Option.bind_none, eqsV, lookV, mupdV, mdelV, mkM, ev1, ev2]
        exact ⟨_, _, _, rfl, g3, fr2.trans r3, (so.mono fun y c _ e => r3 y c e).low f1.dm⟩
      · obtain ⟨u1, u2⟩ := un_no (p := p) (h := h) (w := w) (fun h' => by have := h'.2.2.2.2; rw [hun] at this; exact heq this)
        rw [u1, u2]
        rw [decide_eq_false heq] at e5
        simp -implicitDefEqProofs (maxSteps := 10000000) (disch := omega) only [TwlogUnpack, LwlogUnpack, GwlogUnpack_11, V11_eq, GwlogUnpack_13, V13_eq, GwlogUnpack_slicesEqual_uint64uint64, GwlogUnpack_wlogPack, GwlogUnpack_wlogPlace, VwlogPlace_eq, GwlogUnpack_wlogmost, Vwlogmost_eq, hB, hR, hI, kp.l, kp.t1, kp.t2, kp.t4, kp.t31, kp.t32, lenV_sl, Int.toNat_natCast, bft, btf, gtst, st_len, lc, b0, rb0, e4, e5, bne_self_eq_false, pad, lightV, bt, bf, evs, gt, st, binV, arith, isSh, storeV, all1, idxAV, fieldV, faddrV, iaddrSV, iaddrAV, pickV, convV, unV, eqbV, eqpV, extV, mm2, mmV, nilckV, ress, res1, retV, Value.cells, reduceIte, reduceCtorEq, Int.reduceLT, Int.reduceLE, Int.reduceToNat, Int.reduceAdd, Int.reduceSub, Int.reduceMul, Int.reduceNeg, Nat.reduceMul, Nat.reduceAdd, Nat.reduceSub, Nat.reduceBEq, Nat.reduceEqDiff, Nat.reduceLT, Nat.reduceLeDiff, Int.reduceBEq, Int.reduceEq, Nat.reducePow, Int.reducePow, IntWalk.i64_in, IntKind.bits, eqAV, eqL, leafEq, andO, fillV, buildSV, Int.reduceGT, Int.reduceGE, Int.reduceBNe, IntWalk.u64_in, newsV_s, tassV, isnV, slcV, slcAV, slcTV, slcB, appNew, Option.bind_some, Option.bind_none, eqsV, lookV, mupdV, mdelV, mkM, ev1, ev2]
        exact ⟨_, _, _, rfl, g3, fr2.trans r3, .inl ⟨rfl, rfl⟩⟩
    · obtain ⟨u1, u2⟩ := un_no (p := p) (h := h) (w := w) (fun h' => by have := h'.2.2.2.1; rw [hun] at this; exact hpe this)
      rw [u1, u2]
      have hb2 : (packE p h (unL w n) != 0) = true := by simpa using hpe
      simp -implicitDefEqProofs (maxSteps := 10000000) (disch := omega) only [TwlogUnpack, LwlogUnpack, GwlogUnpack_11, V11_eq, GwlogUnpack_13, V13_eq, GwlogUnpack_slicesEqual_uint64uint64, GwlogUnpack_wlogPack, GwlogUnpack_wlogPlace, VwlogPlace_eq, GwlogUnpack_wlogmost, Vwlogmost_eq, hB, hR, hI, kp.l, kp.t1, kp.t2, kp.t4, kp.t31, kp.t32, lenV_sl, Int.toNat_natCast, bft, btf, gtst, st_len, lc, b0, rb0, e4, hb2, pad, lightV, bt, bf, evs, gt, st, binV, arith, isSh, storeV, all1, idxAV, fieldV, faddrV, iaddrSV, iaddrAV, pickV, convV, unV, eqbV, eqpV, extV, mm2, mmV, nilckV, ress, res1, retV, Value.cells, reduceIte, reduceCtorEq, Int.reduceLT, Int.reduceLE, Int.reduceToNat, Int.reduceAdd, Int.reduceSub, Int.reduceMul, Int.reduceNeg, Nat.reduceMul, Nat.reduceAdd, Nat.reduceSub, Nat.reduceBEq, Nat.reduceEqDiff, Nat.reduceLT, Nat.reduceLeDiff, Int.reduceBEq, Int.reduceEq, Nat.reducePow, Int.reducePow, IntWalk.i64_in, IntKind.bits, eqAV, eqL, leafEq, andO, fillV, buildSV, Int.reduceGT, Int.reduceGE, Int.reduceBNe, IntWalk.u64_in, newsV_s, tassV, isnV, slcV, slcAV, slcTV, slcB, appNew, Option.bind_some, Option.bind_none, eqsV, lookV, mupdV, mdelV, mkM, ev1, ev2]
      exact ⟨_, _, _, rfl, g3, fr2.trans r3, .inl ⟨rfl, rfl⟩⟩
  · obtain ⟨u1, u2⟩ := un_no (p := p) (h := h) (w := w) (fun h' => by have := h'.2.2.1; rw [hun] at this; exact hbad this)
    rw [u1, u2]
    simp -implicitDefEqProofs (maxSteps := 10000000) (disch := omega) only [TwlogUnpack, LwlogUnpack, GwlogUnpack_11, V11_eq, GwlogUnpack_13, V13_eq, GwlogUnpack_slicesEqual_uint64uint64, GwlogUnpack_wlogPack, GwlogUnpack_wlogPlace, VwlogPlace_eq, GwlogUnpack_wlogmost, Vwlogmost_eq, hB, hR, hI, lenV_sl, Int.toNat_natCast, bft, btf, gtst, st_len, tl, t4, t5, pad, lightV, bt, bf, evs, gt, st, binV, arith, isSh, storeV, all1, idxAV, fieldV, faddrV, iaddrSV, iaddrAV, pickV, convV, unV, eqbV, eqpV, extV, mm2, mmV, nilckV, ress, res1, retV, Value.cells, reduceIte, reduceCtorEq, Int.reduceLT, Int.reduceLE, Int.reduceToNat, Int.reduceAdd, Int.reduceSub, Int.reduceMul, Int.reduceNeg, Nat.reduceMul, Nat.reduceAdd, Nat.reduceSub, Nat.reduceBEq, Nat.reduceEqDiff, Nat.reduceLT, Nat.reduceLeDiff, Int.reduceBEq, Int.reduceEq, Nat.reducePow, Int.reducePow, IntWalk.i64_in, IntKind.bits, eqAV, eqL, leafEq, andO, fillV, buildSV, Int.reduceGT, Int.reduceGE, Int.reduceBNe, IntWalk.u64_in, newsV_s, tassV, isnV, slcV, slcAV, slcTV, slcB, appNew, Option.bind_some, Option.bind_none, eqsV, lookV, mupdV, mdelV, mkM, ev1, ev2]
    exact ⟨_, _, _, rfl, g2, fr2, .inl ⟨rfl, rfl⟩⟩
theorem fUnpackn {B : OH} {H : HL} {N : St} {vw : Value} {k p c : Int} (hn : ¬ fitI k p c) (hN : good B H N) :
    ∃ v' H' N', VwlogUnpack B [.agg #[.int .i64 k, .int .i64 p, .int .i64 c], vw] H N = some (.ret (.tuple #[v', .int .i64 5]), H', N') ∧ good B H' N' ∧ Fr H H' ∧ SlM w2 2 B H H' v' ([] : List W2) := by
  have hB := good_B hN
  have hR := good_rdB hN
  have hI := beqN hN.1.1
  have hG : ∃ H N, good B H N := ⟨H, N, hN⟩
  have e1 := f13n hG k p c hn
  unfold VwlogUnpack
  simp -implicitDefEqProofs (maxSteps := 10000000) (disch := omega) only [TwlogUnpack, LwlogUnpack, GwlogUnpack_11, V11_eq, GwlogUnpack_13, V13_eq, GwlogUnpack_slicesEqual_uint64uint64, GwlogUnpack_wlogPack, GwlogUnpack_wlogPlace, VwlogPlace_eq, GwlogUnpack_wlogmost, Vwlogmost_eq, hB, hR, hI, lenV_sl, Int.toNat_natCast, bft, btf, gtst, st_len, e1, pad, lightV, bt, bf, evs, gt, st, binV, arith, isSh, storeV, all1, idxAV, fieldV, faddrV, iaddrSV, iaddrAV, pickV, convV, unV, eqbV, eqpV, extV, mm2, mmV, nilckV, ress, res1, retV, Value.cells, reduceIte, reduceCtorEq, Int.reduceLT, Int.reduceLE, Int.reduceToNat, Int.reduceAdd, Int.reduceSub, Int.reduceMul, Int.reduceNeg, Nat.reduceMul, Nat.reduceAdd, Nat.reduceSub, Nat.reduceBEq, Nat.reduceEqDiff, Nat.reduceLT, Nat.reduceLeDiff, Int.reduceBEq, Int.reduceEq, Nat.reducePow, Int.reducePow, IntWalk.i64_in, IntKind.bits, eqAV, eqL, leafEq, andO, fillV, buildSV, Int.reduceGT, Int.reduceGE, Int.reduceBNe, IntWalk.u64_in, newsV_s, tassV, isnV, slcV, slcAV, slcTV, slcB, appNew, Option.bind_some, Option.bind_none, eqsV, lookV, mupdV, mdelV, mkM, ev1, ev2]
  exact ⟨_, _, _, rfl, good_new hN, fr_new hN Fr.refl 0, .inl ⟨rfl, rfl⟩⟩
end Go.Proofs.YtfhiplfagejfoaaDoor
namespace Go.Proofs.YtfhiplfagejfoaaDoor
open Go.Proofs.YtfhiplfagejfoaaDoor.K Go.ChangeShapes Go.WideShapes Go.ChangeAt Go.RowKit 
set_option maxRecDepth 100000
set_option linter.unusedSimpArgs false
set_option linter.unusedVariables false
/-- What the way through a log reads. -/
structure RdL (B : OH) (kk p cc f n : Nat) (fb cb mb mm b len cap : Nat) (wd : Nat → Int) (k : Nat) (H : HL) : Prop where
  lf : lk H fb = some (.cells [.int .i64 (f : Int)] 1)
  lc : lk H cb = some (.cells [.int .i64 (kk : Int), .int .i64 (p : Int), .int .i64 (cc : Int)] 3)
  lm : lk H mb = some (.cells [.pointer (some ⟨mm, 0, none⟩)] 1)
  lv : lk H mm = some (.cells [.slice (some ⟨b, 0, none⟩) len cap] 1)
  rd : k < n → rdO H B b ((f + k) * 2) 1 (rdB B b ((f + k) * 2) 1) = some [.int .u64 (wd k)]
/-- whitewash/wlog.log$1 -/
def Lwloglog1 : FnL := ⟨(.seq (.ops [⟨(some 6), .load false 1 (.tmp 1), none⟩, ⟨(some 5), .mv (.tmp 6), none⟩])
 (.block 0 (.loop (.seq (.seq (.draw [⟨⟨(some 7), .mv (.tmp 5), none⟩, []⟩, ⟨⟨(some 8), .load false 1 (.tmp 1), none⟩, []⟩, ⟨⟨(some 9), .load true 3 (.tmp 2), none⟩, []⟩, ⟨⟨(some 10), .call (.func 30) [(.tmp 9)], none⟩, [⟨(some 8), .load false 1 (.tmp 1), none⟩]⟩, ⟨⟨(some 11), .bin .add (.tmp 8) (.tmp 10), none⟩, []⟩, ⟨⟨(some 12), .bin .lss (.tmp 7) (.tmp 11), none⟩, []⟩])
 (.cond (.tmp 12) .skip
 (.exit 0)))
 (.seq (.block 1 (.seq (.ops [⟨(some 15), .mv (.tmp 0), none⟩, ⟨(some 16), .mv (.tmp 5), none⟩, ⟨(some 17), .load false 1 (.tmp 3), none⟩, ⟨(some 18), .nilck (.tmp 17), none⟩, ⟨(some 19), .faddr 0 (.tmp 18), none⟩, ⟨(some 20), .load false 1 (.tmp 19), none⟩, ⟨(some 21), .mv (.tmp 5), none⟩, ⟨(some 22), .iaddrS 2 (.tmp 20) (.tmp 21), none⟩, ⟨(some 23), .faddr 0 (.tmp 22), none⟩, ⟨(some 24), .load false 1 (.tmp 23), none⟩, ⟨(some 25), .call (.tmp 15) [(.tmp 16), (.tmp 24)], none⟩, ⟨(some 26), .un .not (.tmp 25), none⟩])
 (.cond (.tmp 26) .ret
 .skip)))
 (.ops [⟨(some 13), .mv (.tmp 5), none⟩, ⟨(some 14), .bin .add (.tmp 13) (.const (.int .i64 1)), none⟩, ⟨(some 5), .mv (.tmp 14), none⟩])))))),
 27, []⟩
theorem lowwloglog1 : lowerFn Tryd.prog Tryd.f64 = some Lwloglog1 := by kernel_rfl
noncomputable def Gwloglog1 (B : OH) : Nat → Cs
  | 30 => V11 B
  | _ => fun _ _ _ => none
theorem Gwloglog1_11 {B : OH} : Gwloglog1 B 30 = V11 B := rfl
theorem enwloglog1 : Enter Tryd.prog 64 := .of Tryd.func64 (by kernel_rfl) (by kernel_rfl)
noncomputable abbrev Ewloglog1 (B : OH) (Y : Nat → Cs) : Env := { f := Gwloglog1 B, y := Y }
noncomputable def Iwloglog1 (B : OH) (Y : Nat → Cs) : Cs := callF B (Ewloglog1 B Y) 1000000 Lwloglog1
theorem sIwloglog1 {w0 : World} {B : OH} (Y : Nat → Cs) (hY : SoundY Tryd.prog w0 B Y) : SoundC Tryd.prog w0 B 64 (Iwloglog1 B Y) :=
  callF_sound mixedOrders ⟨fun k => by
    show (∀ args H N, Gwloglog1 B k args H N = none) ∨ _
    unfold Gwloglog1
    split
    · exact .inr ⟨en11, sV11⟩
    · exact .inl fun _ _ _ => rfl, hY, fun _ => .inl fun _ _ _ _ => rfl⟩ 1000000 Tryd.func64 lowwloglog1
structure KLg (lp fb cb mb f k : Nat) (ts : List Value) : Prop where
  l : ts.length = 27
  t0 : gt ts 0 = .func (.yield lp) #[] #[]
  t1 : gt ts 1 = .pointer (some ⟨fb, 0, none⟩)
  t2 : gt ts 2 = .pointer (some ⟨cb, 0, none⟩)
  t3 : gt ts 3 = .pointer (some ⟨mb, 0, none⟩)
  t5 : gt ts 5 = .int .i64 ((f + k : Nat) : Int)
set_option maxHeartbeats 8000000 in
theorem itLog {B : OH} {Y : Nat → Cs} {l kk p cc h f fb cb mb mm b len cap : Nat} {wd : Nat → Int} {J : Nat → HL → Prop} (hT : Tab B) (C : Cf kk p cc h)
    (hY : ∀ k H N, k < LG p h → J k H → good B H N → ∃ H' N', Y l [.int .i64 ((f + k : Nat) : Int), .int .u64 (wd k)] H N = some (.ret (.bool true), H', N') ∧ good B H' N' ∧ J (k + 1) H')
    (hJ : ∀ k H, k ≤ LG p h → J k H → RdL B kk p cc f (LG p h) fb cb mb mm b len cap wd k H)
    (bf : B fb = none) (bc : B cb = none) (bm : B mb = none) (bv : B mm = none) (hlen : f + LG p h ≤ len) (hlen2 : len ≤ 900000)
    {H : HL} {N : St} (hN : good B H N) (j0 : J 0 H) :
    ∃ H' N', Iwloglog1 B Y [.func (.yield l) #[] #[], .pointer (some ⟨fb, 0, none⟩), .pointer (some ⟨cb, 0, none⟩), .pointer (some ⟨mb, 0, none⟩)] H N = some (.ret (.tuple #[]), H', N') ∧ good B H' N' ∧ J (LG p h) H' := by
  have hB := good_B hN
  have hR := good_rdB hN
  have hI := beqN hN.1.1
  have rf := fun o n => rdB_none (o := o) (n := n) bf
  have rc := fun o n => rdB_none (o := o) (n := n) bc
  have rm := fun o n => rdB_none (o := o) (n := n) bm
  have rv := fun o n => rdB_none (o := o) (n := n) bv
  have q0 := hJ 0 H (by omega) j0
  have lf0 := q0.lf
  simp -implicitDefEqProofs (maxSteps := 10000000) (disch := omega) only [Iwloglog1, Lwloglog1, Gwloglog1_11, V11_eq, hB, hR, hI, lenV_sl, Int.toNat_natCast, bft, btf, gtst, st_len, lf0, bf, rf, pad, lightV, bt, bf, evs, gt, st, binV, arith, isSh, storeV, all1, idxAV, fieldV, faddrV, iaddrSV, iaddrAV, pickV, convV, unV, eqbV, eqpV, extV, mm2, mmV, nilckV, ress, res1, retV, Value.cells, reduceIte, reduceCtorEq, Int.reduceLT, Int.reduceLE, Int.reduceToNat, Int.reduceAdd, Int.reduceSub, Int.reduceMul, Int.reduceNeg, Nat.reduceMul, Nat.reduceAdd, Nat.reduceSub, Nat.reduceBEq, Nat.reduceEqDiff, Nat.reduceLT, Nat.reduceLeDiff, Int.reduceBEq, Int.reduceEq, Nat.reducePow, Int.reducePow, IntWalk.i64_in, IntKind.bits, eqAV, eqL, leafEq, andO, fillV, buildSV, Int.reduceGT, Int.reduceGE, Int.reduceBNe, IntWalk.u64_in, newsV_s, tassV, isnV, slcV, slcAV, slcTV, slcB, appNew, Option.bind_some, Option.bind_none, eqsV, lookV, mupdV, mdelV, mkM, ev1, ev2]
  generalize hX : exec B _ _ (LC.loop _) _ = o
  have hO : Ok o (fun x s => x = .exit 0 ∧ good B s.H s.N ∧ J (LG p h) s.H) := by
    rw [← hX]
    refine loop_rule (n0 := 100) (fun q s => ∃ ts H' N', ∃ k : Nat, s = ⟨ts, H', N'⟩ ∧ KLg l fb cb mb f k ts ∧ good B H' N' ∧ J k H' ∧ k ≤ LG p h ∧ q = LG p h - k) _ ?_ (LG p h) _ ⟨_, H, N, 0, rfl, ⟨rfl, rfl, rfl, rfl, rfl, rfl⟩, hN, j0, by omega, rfl⟩ _ (by omega)
    clear hX hB hR hI
    rintro z q s ⟨ts, H1, N1, k, rfl, kp, g, j1, hk, rfl⟩
    have hB := good_B g
    have hR := good_rdB g
    have hI := beqN g.1.1
    obtain ⟨lf, lc, lm, lv, rd⟩ := hJ k H1 hk j1
    have e1 := f11c ⟨H1, N1, g⟩ hT C
    have hc1 : ((f + (k + 1) : Nat) : Int) = ((f + k : Nat) : Int) + 1 := by omega
    have hw : IntKind.i64.wrap ((f : Int) + (LG p h : Int)) = (f : Int) + (LG p h : Int) := IntWalk.i64_in _ (by omega)
    by_cases hin : k < LG p h
    case neg =>
      have h' : ¬ ((f + k : Nat) : Int) < (f : Int) + (LG p h : Int) := by omega
      simp -implicitDefEqProofs (maxSteps := 10000000) (disch := omega) only [Iwloglog1, Lwloglog1, Gwloglog1_11, V11_eq, hB, hR, hI, kp.l, kp.t0, kp.t1, kp.t2, kp.t3, kp.t5, lenV_sl, Int.toNat_natCast, bft, btf, gtst, st_len, lf, lc, bf, bc, rf, rc, e1, hw, h', pad, lightV, bt, bf, evs, gt, st, binV, arith, isSh, storeV, all1, idxAV, fieldV, faddrV, iaddrSV, iaddrAV, pickV, convV, unV, eqbV, eqpV, extV, mm2, mmV, nilckV, ress, res1, retV, Value.cells, reduceIte, reduceCtorEq, Int.reduceLT, Int.reduceLE, Int.reduceToNat, Int.reduceAdd, Int.reduceSub, Int.reduceMul, Int.reduceNeg, Nat.reduceMul, Nat.reduceAdd, Nat.reduceSub, Nat.reduceBEq, Nat.reduceEqDiff, Nat.reduceLT, Nat.reduceLeDiff, Int.reduceBEq, Int.reduceEq, Nat.reducePow, Int.reducePow, IntWalk.i64_in, IntKind.bits, eqAV, eqL, leafEq, andO, fillV, buildSV, Int.reduceGT, Int.reduceGE, Int.reduceBNe, IntWalk.u64_in, newsV_s, tassV, isnV, slcV, slcAV, slcTV, slcB, appNew, Option.bind_some, Option.bind_none, eqsV, lookV, mupdV, mdelV, mkM, ev1, ev2]
      obtain rfl : k = LG p h := by omega
      exact ok_some (.inr ⟨by simp, rfl, g, j1⟩)
    have h' : ((f + k : Nat) : Int) < (f : Int) + (LG p h : Int) := by omega
    have rd := rd hin
    have i0 : (0 : Int) ≤ ((f + k : Nat) : Int) := by omega
    have il : f + k < len := by omega
    obtain ⟨H2, N2, ey, g2, j2⟩ := hY k H1 N1 hin j1 g
    simp -implicitDefEqProofs (maxSteps := 10000000) (disch := omega) only [Iwloglog1, Lwloglog1, Gwloglog1_11, V11_eq, hB, hR, hI, kp.l, kp.t0, kp.t1, kp.t2, kp.t3, kp.t5, lenV_sl, Int.toNat_natCast, bft, btf, gtst, st_len, lf, lc, lm, lv, bf, bc, bm, bv, rf, rc, rm, rv, e1, hw, h', i0, il, rd, ey, pad, lightV, bt, bf, evs, gt, st, binV, arith, isSh, storeV, all1, idxAV, fieldV, faddrV, iaddrSV, iaddrAV, pickV, convV, unV, eqbV, eqpV, extV, mm2, mmV, nilckV, ress, res1, retV, Value.cells, reduceIte, reduceCtorEq, Int.reduceLT, Int.reduceLE, Int.reduceToNat, Int.reduceAdd, Int.reduceSub, Int.reduceMul, Int.reduceNeg, Nat.reduceMul, Nat.reduceAdd, Nat.reduceSub, Nat.reduceBEq, Nat.reduceEqDiff, Nat.reduceLT, Nat.reduceLeDiff, Int.reduceBEq, Int.reduceEq, Nat.reducePow, Int.reducePow, IntWalk.i64_in, IntKind.bits, eqAV, eqL, leafEq, andO, fillV, buildSV, Int.reduceGT, Int.reduceGE, Int.reduceBNe, IntWalk.u64_in, newsV_s, tassV, isnV, slcV, slcAV, slcTV, slcB, appNew, Option.bind_some, Option.bind_none, eqsV, lookV, mupdV, mdelV, mkM, ev1, ev2]
    refine ok_some (.inl ⟨rfl, LG p h - (k + 1), by omega, _, H2, N2, k + 1, rfl, ⟨?_, ?_, ?_, ?_, ?_, ?_⟩, g2, j2, by omega, rfl⟩)
    all_goals simp (maxSteps := 10000000) (disch := omega) only [kp.l, kp.t0, kp.t1, kp.t2, kp.t3, kp.t5, lenV_sl, Int.toNat_natCast, bft, btf, gtst, st_len, hc1, Nat.reduceAdd, Int.cast_ofNat_Int, cond_true, cond_false, Nat.reduceBEq, Nat.reduceLT, decide_true, beq_self_eq_true, if_true, if_false]
  obtain ⟨x, ⟨ts, H1, N1⟩, rfl, rfl, g1, j1⟩ := hO
  simp only at g1 j1
  simp -implicitDefEqProofs (maxSteps := 10000000) (disch := omega) only [Iwloglog1, Lwloglog1, Gwloglog1_11, V11_eq, hB, hR, hI, lenV_sl, Int.toNat_natCast, bft, btf, gtst, st_len, retV, pad, lightV, bt, bf, evs, gt, st, binV, arith, isSh, storeV, all1, idxAV, fieldV, faddrV, iaddrSV, iaddrAV, pickV, convV, unV, eqbV, eqpV, extV, mm2, mmV, nilckV, ress, res1, retV, Value.cells, reduceIte, reduceCtorEq, Int.reduceLT, Int.reduceLE, Int.reduceToNat, Int.reduceAdd, Int.reduceSub, Int.reduceMul, Int.reduceNeg, Nat.reduceMul, Nat.reduceAdd, Nat.reduceSub, Nat.reduceBEq, Nat.reduceEqDiff, Nat.reduceLT, Nat.reduceLeDiff, Int.reduceBEq, Int.reduceEq, Nat.reducePow, Int.reducePow, IntWalk.i64_in, IntKind.bits, eqAV, eqL, leafEq, andO, fillV, buildSV, Int.reduceGT, Int.reduceGE, Int.reduceBNe, IntWalk.u64_in, newsV_s, tassV, isnV, slcV, slcAV, slcTV, slcB, appNew, Option.bind_some, Option.bind_none, eqsV, lookV, mupdV, mdelV, mkM, ev1, ev2]
  exact ⟨_, _, rfl, g1, j1⟩
noncomputable def itR2 (B : OH) : Nat → (Nat → Cs) → Cs
  | 68 => I17 B
  | 64 => Iwloglog1 B
  | _ => fun _ _ _ _ => none
theorem itR2_17 {B : OH} : itR2 B 68 = I17 B := rfl
theorem itR2_wloglog1 {B : OH} : itR2 B 64 = Iwloglog1 B := rfl
theorem sitR2 {w0 : World} {B : OH} : ∀ k, (∀ Y args H N, itR2 B k Y args H N = none) ∨ (Enter Tryd.prog k ∧ ∀ Y, SoundY Tryd.prog w0 B Y → SoundC Tryd.prog w0 B k (itR2 B k Y)) := fun k => by
  unfold itR2
  split
  · exact .inr ⟨en17, sI17⟩
  · exact .inr ⟨enwloglog1, sIwloglog1⟩
  · exact .inl fun _ _ _ _ => rfl
end Go.Proofs.YtfhiplfagejfoaaDoor
namespace Go.Proofs.YtfhiplfagejfoaaDoor
open Go.Proofs.YtfhiplfagejfoaaDoor.K Go.ChangeShapes Go.WideShapes Go.ChangeAt Go.RowKit 
set_option maxRecDepth 100000
set_option linter.unusedSimpArgs false
set_option linter.unusedVariables false
/-- Cells that are made 0, one behind the other. -/
def wiped (M : List C2) (a : Nat) : Nat → List C2
  | 0 => M
  | n + 1 => (wiped M a n).set (a + n) z2
theorem wiped_len (M : List C2) (a : Nat) : ∀ n, (wiped M a n).length = M.length
  | 0 => rfl
  | n + 1 => by simp [wiped, wiped_len M a n]
theorem wiped_at (M : List C2) (a : Nat) : ∀ n i, a + n ≤ M.length → (wiped M a n).getD i z2 = if a ≤ i ∧ i < a + n then z2 else M.getD i z2
  | 0, i, _ => by rw [if_neg (by omega)]; rfl
  | n + 1, i, h => by
    have hl := wiped_len M a n
    have ih := wiped_at M a n i (by omega)
    simp only [wiped]
    rw [getD_set _ _ _ _ _ (by omega)]
    by_cases e : a + n = i
    · rw [if_pos e, if_pos (by omega)]
    · rw [if_neg e, ih]
      by_cases h1 : a ≤ i ∧ i < a + n
      · rw [if_pos h1, if_pos (by omega)]
      · rw [if_neg h1, if_neg (by omega)]
/-- Is there a log of that memory? -/
def memOk (p h : Nat) (q : Int) (M : List C2) : Prop := (0 ≤ q ∧ q < (p : Int)) ∧ M.length = bs p h 5
instance (p h : Nat) (q : Int) (M : List C2) : Decidable (memOk p h q M) := by unfold memOk; exact inferInstance
/-- Where a log begins. -/
def lgA (p h : Nat) (q : Int) : Nat := bs p h 3 + LG p h * q.toNat
theorem lgA_b {kk p cc h : Nat} (C : Cf kk p cc h) {q : Int} {M : List C2} (H : memOk p h q M) : lgA p h q + LG p h ≤ M.length ∧ M.length ≤ 35000 := by
  have h1 := lgq_b C (q := q.toNat) (by have := H.1; omega)
  have h2 := bs4_5 (p := p) (h := h)
  have h3 := bs5_b C
  have h4 := H.2
  unfold lgA; omega
def wipE (p h : Nat) (q : Int) (M : List C2) : Int := if memOk p h q M then 0 else 1
def wipR (p h : Nat) (q : Int) (M : List C2) : List C2 := if memOk p h q M then wiped M (lgA p h q) (LG p h) else []
/-- whitewash/wlog.log -/
def Lwloglog : FnL := ⟨(.seq (.ops [⟨(some 3), .box (.tmp 0), none⟩, ⟨(some 4), .box (.tmp 1), none⟩, ⟨(some 6), .mv (.const .nilFunc), none⟩])
 (.seq (.ops [⟨(some 9), .load true 3 (.tmp 3), none⟩, ⟨(some 10), .call (.func 45) [(.tmp 9)], none⟩, ⟨(some 11), .call (.func 44) [(.tmp 10), (.const (.int .i64 5))], none⟩])
 (.seq (.ops [⟨(some 13), .load true 3 (.tmp 3), none⟩, ⟨(some 14), .mv (.tmp 2), none⟩, ⟨(some 15), .call (.func 31) [(.tmp 13), (.const (.int .i64 3)), (.tmp 14)], none⟩, ⟨(some 12), .mv (.tmp 15), none⟩, ⟨(some 16), .ext (.tmp 12) 0, none⟩, ⟨(some 17), .ext (.tmp 12) 1, none⟩, ⟨(some 7), .alloc [(.int .i64 0)], none⟩, ⟨none, .store 1 (.tmp 7) (.tmp 16), none⟩, ⟨(some 8), .mv (.tmp 17), none⟩])
 (.seq (.draw [⟨⟨(some 18), .mv (.tmp 8), none⟩, []⟩, ⟨⟨(some 19), .bin .eql (.tmp 18) (.const (.int .i64 0)), none⟩, []⟩, ⟨⟨(some 20), .mv (.tmp 19), none⟩, []⟩, ⟨⟨(some 21), .load false 1 (.tmp 4), (some (20, true))⟩, []⟩, ⟨⟨(some 22), .nilck (.tmp 21), (some (20, true))⟩, []⟩, ⟨⟨(some 23), .faddr 0 (.tmp 22), (some (20, true))⟩, []⟩, ⟨⟨(some 24), .load false 1 (.tmp 23), (some (20, true))⟩, []⟩, ⟨⟨(some 25), .len false (.tmp 24), (some (20, true))⟩, []⟩, ⟨⟨(some 26), .load true 3 (.tmp 3), (some (20, true))⟩, []⟩, ⟨⟨(some 27), .call (.func 41) [(.tmp 26)], (some (20, true))⟩, [⟨(some 21), .load false 1 (.tmp 4), (some (20, true))⟩, ⟨(some 24), .load false 1 (.tmp 23), (some (20, true))⟩]⟩, ⟨⟨(some 28), .bin .eql (.tmp 25) (.tmp 27), (some (20, true))⟩, []⟩, ⟨⟨(some 29), .pick (.tmp 20) (.tmp 28) (.const (.bool false)), none⟩, []⟩, ⟨⟨(some 30), .call (.func 44) [(.tmp 29), (.const (.int .i64 1))], none⟩, []⟩])
 (.seq (.ops [⟨(some 31), .fn (.func 64) [] [(.tmp 7), (.tmp 3), (.tmp 4)], none⟩, ⟨(some 6), .mv (.tmp 31), none⟩])
 .ret))))),
 32, [.tmp 6]⟩
theorem lowwloglog : lowerFn Tryd.prog Tryd.f51 = some Lwloglog := by kernel_rfl
noncomputable def Gwloglog (B : OH) : Nat → Cs
  | 31 => V10 B
  | 45 => V13 B
  | 41 => V7 B
  | 44 => Vwlogwant B
  | _ => fun _ _ _ => none
theorem Gwloglog_10 {B : OH} : Gwloglog B 31 = V10 B := rfl
theorem Gwloglog_13 {B : OH} : Gwloglog B 45 = V13 B := rfl
theorem Gwloglog_7 {B : OH} : Gwloglog B 41 = V7 B := rfl
theorem Gwloglog_wlogwant {B : OH} : Gwloglog B 44 = Vwlogwant B := rfl
theorem sGwloglog {w0 : World} {B : OH} : SoundG Tryd.prog w0 B { f := Gwloglog B } := .of fun k => by
  unfold Gwloglog
  split
  · exact .inr ⟨en10, sV10⟩
  · exact .inr ⟨en13, sV13⟩
  · exact .inr ⟨en7, sV7⟩
  · exact .inr ⟨enwlogwant, sVwlogwant⟩
  · exact .inl fun _ _ _ => rfl
theorem enwloglog : Enter Tryd.prog 51 := .of Tryd.func51 (by kernel_rfl) (by kernel_rfl)
noncomputable def Twloglog (B : OH) : Cs := callF B { f := Gwloglog B } 1000000 Lwloglog
theorem sTwloglog {w0 : World} {B : OH} : SoundC Tryd.prog w0 B 51 (Twloglog B) := callF_sound mixedOrders sGwloglog 1000000 Tryd.func51 lowwloglog
noncomputable def Vwloglog (B : OH) : Cs := Twloglog B
theorem sVwloglog {w0 : World} {B : OH} : SoundC Tryd.prog w0 B 51 (Vwloglog B) := sTwloglog
/-- whitewash/wlog.Wipe -/
def LwlogWipe : FnD := ⟨(.ops [⟨(some 3), .box (.tmp 0), none⟩, ⟨(some 4), .box (.tmp 1), none⟩, ⟨(some 6), .alloc [(.slice none 0 0)], none⟩, ⟨(some 7), .alloc [(.int .i64 0)], none⟩]), 43, [(.tmp 7)], (.seq (.ops [⟨(some 10), .faddr 0 (.tmp 4), none⟩, ⟨(some 11), .load false 1 (.tmp 10), none⟩, ⟨(some 12), .call (.func 50) [(.tmp 11)], none⟩, ⟨(some 13), .build [(.slice none 0 0)] [(0, 1, (.tmp 12))], none⟩, ⟨(some 8), .alloc [(.slice none 0 0)], none⟩, ⟨none, .store 1 (.tmp 8) (.tmp 13), none⟩])
 (.seq (.seq (.ops [⟨(some 14), .load true 3 (.tmp 3), none⟩, ⟨(some 15), .mv (.tmp 2), none⟩, ⟨(some 16), .call (.func 51) [(.tmp 14), (.tmp 8), (.tmp 15)], none⟩])
 (.block 0 (.range (.tmp 16) [17, 18] (.ops [⟨(some 9), .mv (.tmp 17), none⟩])
 (.block 1 (.ops [⟨(some 19), .mv (.tmp 9), none⟩, ⟨(some 20), .call (.func 52) [(.tmp 8), (.tmp 19), (.const (.int .u64 0))], none⟩])))))
 (.seq (.ops [⟨(some 21), .load true 1 (.tmp 8), none⟩, ⟨none, .store 1 (.tmp 6) (.tmp 21), none⟩, ⟨none, .store 1 (.tmp 7) (.const (.int .i64 0)), none⟩])
 .ret))),
 22, [.cell 6 true 1, .cell 7 false 1]⟩
theorem lowwlogWipe : lowerDfr Tryd.prog Tryd.f26 = some LwlogWipe := by kernel_rfl
noncomputable def GwlogWipe (B : OH) : Nat → Cs
  | 52 => VcellsStore B
  | 50 => VslicesClone_CellCell B
  | 51 => Vwloglog B
  | _ => fun _ _ _ => none
theorem GwlogWipe_cellsStore {B : OH} : GwlogWipe B 52 = VcellsStore B := rfl
theorem GwlogWipe_slicesClone_CellCell {B : OH} : GwlogWipe B 50 = VslicesClone_CellCell B := rfl
theorem GwlogWipe_wloglog {B : OH} : GwlogWipe B 51 = Vwloglog B := rfl
noncomputable abbrev EwlogWipe (B : OH) : Env := { f := GwlogWipe B, it := itR2 B }
theorem sGwlogWipe {w0 : World} {B : OH} : SoundG Tryd.prog w0 B (EwlogWipe B) :=
  ⟨fun k => by
    show (∀ args H N, GwlogWipe B k args H N = none) ∨ _
    unfold GwlogWipe
    split
    · exact .inr ⟨encellsStore, sVcellsStore⟩
    · exact .inr ⟨enslicesClone_CellCell, sVslicesClone_CellCell⟩
    · exact .inr ⟨enwloglog, sVwloglog⟩
    · exact .inl fun _ _ _ => rfl, fun _ => .inl fun _ _ _ => rfl, sitR2⟩
theorem enwlogWipe : Enter Tryd.prog 26 := .of Tryd.func26 (by kernel_rfl) (by kernel_rfl)
noncomputable def DwlogWipe (B : OH) : Nat → Ds
  | 43 => Uwlogcaught B
  | _ => fun _ _ _ _ => none
theorem DwlogWipe_wlogcaught {B : OH} : DwlogWipe B 43 = Uwlogcaught B := rfl
noncomputable def TwlogWipe (B : OH) : Cs := callD B (EwlogWipe B) (DwlogWipe B) 1000000 LwlogWipe
theorem sTwlogWipe {w0 : World} {B : OH} : SoundC Tryd.prog w0 B 26 (TwlogWipe B) := callD_sound mixedOrders sGwlogWipe 1000000 Tryd.func26 lowwlogWipe enwlogcaught sUwlogcaught
noncomputable def VwlogWipe (B : OH) : Cs := TwlogWipe B
theorem sVwlogWipe {w0 : World} {B : OH} : SoundC Tryd.prog w0 B 26 (VwlogWipe B) := sTwlogWipe
set_option maxHeartbeats 8000000 in
theorem fWipe {B : OH} {H : HL} {N : St} {vm : Value} {M : List C2} {kk p cc h : Nat} {q : Int} (hT : Tab B) (C : Cf kk p cc h) (hN : good B H N) (hv : SlW c2 2 B H vm M) (hM : M.length ≤ 800000) :
    ∃ v' H' N', VwlogWipe B [.agg #[.int .i64 (kk : Int), .int .i64 (p : Int), .int .i64 (cc : Int)], .agg #[vm], .int .i64 q] H N = some (.ret (.tuple #[.agg #[v'], .int .i64 (wipE p h q M)]), H', N') ∧ good B H' N' ∧ Fr H H' ∧ SlM c2 2 B H H' v' (wipR p h q M) := by
  have hB := good_B hN
  have hR := good_rdB hN
  have hI := beqN hN.1.1
  have hG : ∃ H N, good B H N := ⟨H, N, hN⟩
  have e1 := f13 hG kk p cc (cfit C).1 (cfit C).2.1 (cfit C).2.2
  have e2 := f7c hG hT C
  have ne : ∀ i j, i ≠ j → N.n i ≠ N.n j := fun i j hij e => by
    have := hI i j
    rw [e] at this; simp at this; exact hij this
  obtain ⟨am, cm, rfl, _⟩ := id hv
  obtain ⟨H0, hH0⟩ : ∃ H0, H0 = (N.n 3, KB.cells [.int .i64 0] 1) :: (N.n 2, .cells [.slice none 0 0] 1) :: (N.n 1, .cells [.slice am M.length cm] 1) :: (N.n 0, .cells [.int .i64 (kk : Int), .int .i64 (p : Int), .int .i64 (cc : Int)] 3) :: H := ⟨_, rfl⟩
  have g0 : good B H0 (sh (sh (sh (sh N)))) := by rw [hH0]; exact good_new (good_new (good_new (good_new hN)))
  have f0 : Fr H H0 := by
    rw [hH0]
    have a1 := good_new (k := .cells [.int .i64 (kk : Int), .int .i64 (p : Int), .int .i64 (cc : Int)] 3) hN
    have a2 := good_new (k := .cells [.slice am M.length cm] 1) a1
    have a3 := good_new (k := .cells [.slice none 0 0] 1) a2
    exact fr_new a3 (fr_new a2 (fr_new a1 (fr_new hN Fr.refl 0) 0) 0) 0
  have q2 : lk H0 (N.n 2) = some (.cells [.slice none 0 0] 1) := by rw [hH0]; simp only [lk_cons, hI]; rfl
  have q3 : lk H0 (N.n 3) = some (.cells [.int .i64 0] 1) := by rw [hH0]; simp only [lk_cons, hI]; rfl
  have q0 : lk H0 (N.n 0) = some (.cells [.int .i64 (kk : Int), .int .i64 (p : Int), .int .i64 (cc : Int)] 3) := by rw [hH0]; simp only [lk_cons, hI]; rfl
  obtain ⟨v', H1, N1, ec, g1, r1, s1⟩ := clone g0 (hv.mono f0) (by omega)
  have q2' := r1 _ _ q2
  have q3' := r1 _ _ q3
  have q0' := r1 _ _ q0
  have b0 := hB 0
  have b2 := hB 2
  have b3 := hB 3
  have rb0 := fun o n => rdB_none (o := o) (n := n) b0
  have rb2 := fun o n => rdB_none (o := o) (n := n) b2
  have rb3 := fun o n => rdB_none (o := o) (n := n) b3
  have hB1 := good_B g1
  have hR1 := good_rdB g1
  have hI1 := beqN g1.1.1
  have m0 := ne_N g1 q0'
  have m0' := ne_N' g1 q0'
  have m2 := ne_N g1 q2'
  have m2' := ne_N' g1 q2'
  have m3 := ne_N g1 q3'
  have m3' := ne_N' g1 q3'
  have s1l := s1.len
  obtain ⟨a1, c1, rfl, _⟩ := id (s1.rd c2_len)
  have n23 : (N.n 2 == N.n 3) = false := by rw [hI]; rfl
  have n32 : (N.n 3 == N.n 2) = false := by rw [hI]; rfl
  rw [hH0] at ec
  unfold VwlogWipe
  by_cases hok : memOk p h q M
  case neg =>
    have hE : wipE p h q M = 1 := if_neg hok
    have hRR : wipR p h q M = [] := if_neg hok
    rw [hE, hRR]
    have hfin : ∀ (w : Nat → KB), True := fun _ => trivial
    by_cases hq : 0 ≤ q ∧ q < (p : Int)
    · have hl : ((M.length : Int) == ((bs p h 5 : Nat) : Int)) = false := beqI (fun e => hok ⟨hq, by omega⟩)
      obtain ⟨n, rfl⟩ : ∃ n : Nat, q = (n : Int) := ⟨q.toNat, by omega⟩
      have e3 := f10c3 hG hT C (q := n) (by omega)
      simp -implicitDefEqProofs (maxSteps := 10000000) (disch := omega) only [TwlogWipe, LwlogWipe, GwlogWipe_cellsStore, GwlogWipe_slicesClone_CellCell, GwlogWipe_wloglog, Vwloglog, Twloglog, Lwloglog, Gwloglog_10, V10_eq, Gwloglog_13, V13_eq, Gwloglog_7, V7_eq, Gwloglog_wlogwant, Vwlogwant, Twlogwant, Lwlogwant, DwlogWipe_wlogcaught, Uwlogcaught, Lwlogcaught, hB, hR, hI, itR2_wloglog1, List.cons_append, EwlogWipe, lenV_sl, Int.toNat_natCast, bft, btf, gtst, st_len, e1, e2, e3, ec, q0', q2', q3', b0, b2, b3, rb0, rb2, rb3, hB1, hR1, hI1, m0, m0', m2, m2', m3, m3', n23, n32, hl, pad, lightV, bt, bf, evs, gt, st, binV, arith, isSh, storeV, all1, idxAV, fieldV, faddrV, iaddrSV, iaddrAV, pickV, convV, unV, eqbV, eqpV, extV, mm2, mmV, nilckV, ress, res1, retV, Value.cells, reduceIte, reduceCtorEq, Int.reduceLT, Int.reduceLE, Int.reduceToNat, Int.reduceAdd, Int.reduceSub, Int.reduceMul, Int.reduceNeg, Nat.reduceMul, Nat.reduceAdd, Nat.reduceSub, Nat.reduceBEq, Nat.reduceEqDiff, Nat.reduceLT, Nat.reduceLeDiff, Int.reduceBEq, Int.reduceEq, Nat.reducePow, Int.reducePow, IntWalk.i64_in, IntKind.bits, eqAV, eqL, leafEq, andO, fillV, buildSV, Int.reduceGT, Int.reduceGE, Int.reduceBNe, IntWalk.u64_in, newsV_s, tassV, isnV, slcV, slcAV, slcTV, slcB, appNew, Option.bind_some, Option.bind_none, eqsV, lookV, mupdV, mdelV, mkM, ev1, ev2]
      refine ⟨_, _, _, rfl, ?_, ?_, .inl ⟨rfl, rfl⟩⟩
      · exact (good_new (k := .cells [.int .i64 1] 1) (good_up (k := .cells [.int .i64 1] 1) (good_new (good_new (good_new (good_new g1)))) b3 (by simp only [lk_cons, sh_app, m3, cond_false]; exact q3'))) |> fun h => by simpa only [upH_cons, sh_app, m3, cond_false] using h
      · exact (fr_new (k := .cells [.int .i64 1] 1) (good_up (k := .cells [.int .i64 1] 1) (good_new (good_new (good_new (good_new g1)))) b3 (by simp only [lk_cons, sh_app, m3, cond_false]; exact q3')) (fr_up (fr_new (good_new (good_new (good_new g1))) (fr_new (good_new (good_new g1)) (fr_new (good_new g1) (fr_new g1 (f0.trans r1) 0) 0) 0) 0) (lk_N hN 3)) 0) |> fun h => by simpa only [upH_cons, sh_app, m3, cond_false] using h
    · have e3 := f10o hG C q (by omega)
      have h10 : ((1 : Int) == 0) = false := rfl
      simp -implicitDefEqProofs (maxSteps := 10000000) (disch := omega) only [TwlogWipe, LwlogWipe, GwlogWipe_cellsStore, GwlogWipe_slicesClone_CellCell, GwlogWipe_wloglog, Vwloglog, Twloglog, Lwloglog, Gwloglog_10, V10_eq, Gwloglog_13, V13_eq, Gwloglog_7, V7_eq, Gwloglog_wlogwant, Vwlogwant, Twlogwant, Lwlogwant, DwlogWipe_wlogcaught, Uwlogcaught, Lwlogcaught, hB, hR, hI, itR2_wloglog1, List.cons_append, EwlogWipe, lenV_sl, Int.toNat_natCast, bft, btf, gtst, st_len, e1, e2, e3, ec, q0', q2', q3', b0, b2, b3, rb0, rb2, rb3, hB1, hR1, hI1, m0, m0', m2, m2', m3, m3', n23, n32, h10, pad, lightV, bt, bf, evs, gt, st, binV, arith, isSh, storeV, all1, idxAV, fieldV, faddrV, iaddrSV, iaddrAV, pickV, convV, unV, eqbV, eqpV, extV, mm2, mmV, nilckV, ress, res1, retV, Value.cells, reduceIte, reduceCtorEq, Int.reduceLT, Int.reduceLE, Int.reduceToNat, Int.reduceAdd, Int.reduceSub, Int.reduceMul, Int.reduceNeg, Nat.reduceMul, Nat.reduceAdd, Nat.reduceSub, Nat.reduceBEq, Nat.reduceEqDiff, Nat.reduceLT, Nat.reduceLeDiff, Int.reduceBEq, Int.reduceEq, Nat.reducePow, Int.reducePow, IntWalk.i64_in, IntKind.bits, eqAV, eqL, leafEq, andO, fillV, buildSV, Int.reduceGT, Int.reduceGE, Int.reduceBNe, IntWalk.u64_in, newsV_s, tassV, isnV, slcV, slcAV, slcTV, slcB, appNew, Option.bind_some, Option.bind_none, eqsV, lookV, mupdV, mdelV, mkM, ev1, ev2]
      refine ⟨_, _, _, rfl, ?_, ?_, .inl ⟨rfl, rfl⟩⟩
      · exact (good_new (k := .cells [.int .i64 1] 1) (good_up (k := .cells [.int .i64 1] 1) (good_new (good_new (good_new (good_new g1)))) b3 (by simp only [lk_cons, sh_app, m3, cond_false]; exact q3'))) |> fun h => by simpa only [upH_cons, sh_app, m3, cond_false] using h
      · exact (fr_new (k := .cells [.int .i64 1] 1) (good_up (k := .cells [.int .i64 1] 1) (good_new (good_new (good_new (good_new g1)))) b3 (by simp only [lk_cons, sh_app, m3, cond_false]; exact q3')) (fr_up (fr_new (good_new (good_new (good_new g1))) (fr_new (good_new (good_new g1)) (fr_new (good_new g1) (fr_new g1 (f0.trans r1) 0) 0) 0) 0) (lk_N hN 3)) 0) |> fun h => by simpa only [upH_cons, sh_app, m3, cond_false] using h
  have hE : wipE p h q M = 0 := if_pos hok
  have hRR : wipR p h q M = wiped M (lgA p h q) (LG p h) := if_pos hok
  rw [hE, hRR]
  have hb := lgA_b C hok
  obtain ⟨n, rfl⟩ : ∃ n : Nat, q = (n : Int) := ⟨q.toNat, by have := hok.1; omega⟩
  have e3 := f10c3 hG hT C (q := n) (by have := hok.1; omega)
  have hlA : bs p h 3 + LG p h * n = lgA p h (n : Int) := rfl
  rw [hlA] at e3
  generalize lgA p h (n : Int) = A at *
  have hl : ((M.length : Int) == ((bs p h 5 : Nat) : Int)) = true := by rw [hok.2]; exact beq_self_eq_true _
  have hlb := LG_b C
  rcases s1 with ⟨h0, _⟩ | ⟨b, cap, rest, hve, bb, h0b, hle, hlk⟩
  · rw [h0] at hb; simp at hb; omega
  injection hve with hv1 hv2 hv3
  subst hv1 hv3
  simp -implicitDefEqProofs (maxSteps := 10000000) (disch := omega) only [TwlogWipe, LwlogWipe, GwlogWipe_cellsStore, GwlogWipe_slicesClone_CellCell, GwlogWipe_wloglog, Vwloglog, Twloglog, Lwloglog, Gwloglog_10, V10_eq, Gwloglog_13, V13_eq, Gwloglog_7, V7_eq, Gwloglog_wlogwant, Vwlogwant, Twlogwant, Lwlogwant, DwlogWipe_wlogcaught, Uwlogcaught, Lwlogcaught, hB, hR, hI, itR2_wloglog1, List.cons_append, EwlogWipe, lenV_sl, Int.toNat_natCast, bft, btf, gtst, st_len, e1, e2, e3, ec, q0', q2', q3', b0, b2, b3, rb0, rb2, rb3, hB1, hR1, hI1, m0, m0', m2, m2', m3, m3', n23, n32, hl, pad, lightV, bt, bf, evs, gt, st, binV, arith, isSh, storeV, all1, idxAV, fieldV, faddrV, iaddrSV, iaddrAV, pickV, convV, unV, eqbV, eqpV, extV, mm2, mmV, nilckV, ress, res1, retV, Value.cells, reduceIte, reduceCtorEq, Int.reduceLT, Int.reduceLE, Int.reduceToNat, Int.reduceAdd, Int.reduceSub, Int.reduceMul, Int.reduceNeg, Nat.reduceMul, Nat.reduceAdd, Nat.reduceSub, Nat.reduceBEq, Nat.reduceEqDiff, Nat.reduceLT, Nat.reduceLeDiff, Int.reduceBEq, Int.reduceEq, Nat.reducePow, Int.reducePow, IntWalk.i64_in, IntKind.bits, eqAV, eqL, leafEq, andO, fillV, buildSV, Int.reduceGT, Int.reduceGE, Int.reduceBNe, IntWalk.u64_in, newsV_s, tassV, isnV, slcV, slcAV, slcTV, slcB, appNew, Option.bind_some, Option.bind_none, eqsV, lookV, mupdV, mdelV, mkM, ev1, ev2]
  generalize hX : Iwloglog1 B _ _ _ _ = o
  obtain ⟨HH, hHH⟩ : ∃ HH, HH = (N1.n 5, KB.loop (N1.r 5) .ready) :: (N1.n 4, .dfr) :: (N1.n 3, .cells [.int .i64 (A : Int)] 1) :: (N1.n 2, .cells [.pointer (some ⟨N1.n 0, 0, none⟩)] 1) :: (N1.n 1, .cells [.int .i64 (kk : Int), .int .i64 (p : Int), .int .i64 (cc : Int)] 3) :: (N1.n 0, .cells [.slice (some ⟨b, 0, none⟩) M.length c1] 1) :: H1 := ⟨_, rfl⟩
  have a1 := good_new (k := .cells [.slice (some ⟨b, 0, none⟩) M.length c1] 1) g1
  have a2 := good_new (k := .cells [.int .i64 (kk : Int), .int .i64 (p : Int), .int .i64 (cc : Int)] 3) a1
  have a3 := good_new (k := .cells [.pointer (some ⟨N1.n 0, 0, none⟩)] 1) a2
  have a4 := good_new (k := .cells [.int .i64 (A : Int)] 1) a3
  have a5 := good_new (k := .dfr) a4
  have gH : good B HH (sh (sh (sh (sh (sh (sh N1)))))) := by rw [hHH]; exact good_new a5
  have fH : Fr H1 HH := by rw [hHH]; exact fr_new a5 (fr_new a4 (fr_new a3 (fr_new a2 (fr_new a1 (fr_new g1 Fr.refl 0) 0) 0) 0) 0) 0
  have p0 : lk HH (N1.n 0) = some (.cells [.slice (some ⟨b, 0, none⟩) M.length c1] 1) := by rw [hHH]; simp only [lk_cons, hI1]; rfl
  have p1 : lk HH (N1.n 1) = some (.cells [.int .i64 (kk : Int), .int .i64 (p : Int), .int .i64 (cc : Int)] 3) := by rw [hHH]; simp only [lk_cons, hI1]; rfl
  have p2 : lk HH (N1.n 2) = some (.cells [.pointer (some ⟨N1.n 0, 0, none⟩)] 1) := by rw [hHH]; simp only [lk_cons, hI1]; rfl
  have p3 : lk HH (N1.n 3) = some (.cells [.int .i64 (A : Int)] 1) := by rw [hHH]; simp only [lk_cons, hI1]; rfl
  have p5 : lk HH (N1.n 5) = some (.loop (N1.r 5) .ready) := by rw [hHH]; simp only [lk_cons, hI1]; rfl
  have nb1 := ne_N g1 hlk
  have nbi : ∀ i, N1.n i ≠ b := fun i e => by have := nb1 i; rw [e] at this; simp at this
  have ni : ∀ i j, i ≠ j → N1.n i ≠ N1.n j := fun i j hij e => by
    have := hI1 i j
    rw [e] at this; simp at this; exact hij this
  have sH : SlM c2 2 B H HH (.slice (some ⟨b, 0, none⟩) M.length c1) M := .inr ⟨b, c1, rest, rfl, bb, f0.dm _ h0b, hle, fH _ _ hlk⟩
  have hO : ∃ H' N', o = some (.ret (.tuple #[]), H', N') ∧ good B H' N' ∧ (lk H' (N1.n 5) = some (.loop (N1.r 5) .ready) ∧ (∀ y c, y ≠ N1.n 5 → y ≠ b → lk HH y = some c → lk H' y = some c) ∧ SlM c2 2 B H H' (.slice (some ⟨b, 0, none⟩) M.length c1) (wiped M A (LG p h))) := by
    rw [← hX, ← hHH]
    refine itLog (J := fun k H' => lk H' (N1.n 5) = some (.loop (N1.r 5) .ready) ∧ (∀ y c, y ≠ N1.n 5 → y ≠ b → lk HH y = some c → lk H' y = some c) ∧ SlM c2 2 B H H' (.slice (some ⟨b, 0, none⟩) M.length c1) (wiped M A k)) (kk := kk) (cc := cc) (f := A) (l := N1.n 5) (fb := N1.n 3) (cb := N1.n 1) (mb := N1.n 2) (b := b) (mm := N1.n 0) (len := M.length) (cap := c1) (wd := fun k => (M.getD (A + k) z2).w) hT C ?_ ?_ (hB1 3) (hB1 1) (hB1 2) (hB1 0) (by omega) (by omega) gH ⟨p5, fun _ _ _ _ e => e, sH⟩
    · rintro k H2 N2 hk ⟨j5, jp, js⟩ g2
      have hBo := hB1
      have hB := good_B g2
      have hR := good_rdB g2
      have hI := beqN g2.1.1
      have b5 := hBo 5
      have x5 := ne_N g2 j5
      have x5' := ne_N' g2 j5
      have gb := good_set (k := .loop (N1.r 5) .busy) g2 b5 j5
      have nb5 : (b == N1.n 5) = false := eqb (Ne.symm (nbi 5))
      have nb5' : (N1.n 5 == b) = false := eqb (nbi 5)
      have jsb : SlM c2 2 B H ((N1.n 5, .loop (N1.r 5) .busy) :: H2) (.slice (some ⟨b, 0, none⟩) M.length c1) (wiped M A k) := js.mono fun y c hy e => by
        have : y = b := by simpa [slB] using hy.symm
        rw [lk_cons, this, nb5, cond_false, ← this]; exact e
      have jp0 := jp _ _ (ni 0 5 (by decide)) (nbi 0) p0
      have n05 : (N1.n 0 == N1.n 5) = false := by rw [hI1]; rfl
      have hwl := wiped_len M A k
      obtain ⟨H3, N3, es, g3, s3, k3⟩ := store (v := .slice (some ⟨b, 0, none⟩) M.length c1) (m := N1.n 0) (i := A + k) (w := 0) gb jsb (by rw [lk_cons, n05, cond_false]; exact jp0) (hBo 0) (by simpa [slB] using (nbi 0).symm) (by omega) (by omega)
      have l5 := k3 (N1.n 5) _ (by simpa [slB] using (nbi 5).symm) lk_top
      simp -implicitDefEqProofs (maxSteps := 10000000) (disch := omega) only [TwlogWipe, LwlogWipe, GwlogWipe_cellsStore, GwlogWipe_slicesClone_CellCell, GwlogWipe_wloglog, Vwloglog, Twloglog, Lwloglog, Gwloglog_10, V10_eq, Gwloglog_13, V13_eq, Gwloglog_7, V7_eq, Gwloglog_wlogwant, Vwlogwant, Twlogwant, Lwlogwant, DwlogWipe_wlogcaught, Uwlogcaught, Lwlogcaught, hB, hR, hI, itR2_wloglog1, List.cons_append, EwlogWipe, lenV_sl, Int.toNat_natCast, bft, btf, gtst, st_len, j5, b5, x5, x5', es, l5, pad, lightV, bt, bf, evs, gt, st, binV, arith, isSh, storeV, all1, idxAV, fieldV, faddrV, iaddrSV, iaddrAV, pickV, convV, unV, eqbV, eqpV, extV, mm2, mmV, nilckV, ress, res1, retV, Value.cells, reduceIte, reduceCtorEq, Int.reduceLT, Int.reduceLE, Int.reduceToNat, Int.reduceAdd, Int.reduceSub, Int.reduceMul, Int.reduceNeg, Nat.reduceMul, Nat.reduceAdd, Nat.reduceSub, Nat.reduceBEq, Nat.reduceEqDiff, Nat.reduceLT, Nat.reduceLeDiff, Int.reduceBEq, Int.reduceEq, Nat.reducePow, Int.reducePow, IntWalk.i64_in, IntKind.bits, eqAV, eqL, leafEq, andO, fillV, buildSV, Int.reduceGT, Int.reduceGE, Int.reduceBNe, IntWalk.u64_in, newsV_s, tassV, isnV, slcV, slcAV, slcTV, slcB, appNew, Option.bind_some, Option.bind_none, eqsV, lookV, mupdV, mdelV, mkM, ev1, ev2]
      refine ⟨_, _, rfl, good_set (k' := .loop (N1.r 5) .busy) g3 b5 l5, lk_top, fun y c h1 h2 e => ?_, ?_⟩
      · have y5 : (y == N1.n 5) = false := eqb h1
        rw [lk_cons, y5, cond_false]
        exact k3 y c (by simpa [slB] using Ne.symm h2) (by rw [lk_cons, y5, cond_false]; exact jp y c h1 h2 e)
      · refine SlM.mono s3 fun y c hy e => ?_
        have : y = b := by simpa [slB] using hy.symm
        rw [lk_cons, this, nb5, cond_false, ← this]; exact e
    · rintro k H2 hk ⟨j5, jp, js⟩
      refine ⟨jp _ _ (ni 3 5 (by decide)) (nbi 3) p3, jp _ _ (ni 1 5 (by decide)) (nbi 1) p1, jp _ _ (ni 2 5 (by decide)) (nbi 2) p2, jp _ _ (ni 0 5 (by decide)) (nbi 0) p0, fun hk2 => ?_⟩
      have hwl := wiped_len M A k
      have hwa := wiped_at M A k (A + k) (by omega)
      rw [if_neg (by omega)] at hwa
      rcases js with ⟨h0, _⟩ | ⟨b', cap', rest', he, bb', _, hle', hlk'⟩
      · rw [h0] at hwl; simp at hwl; omega
      injection he with he1 he2 he3
      injection he1 with he1
      injection he1 with he1
      subst he1
      rw [rdB_none bb', rdO_none, bb', rdN_none, hlk', rdL_some, k_cells]
      have := fl_read c2_len (wiped M A k) rest' (A + k) 0 1 z2 (by omega) (by omega)
      rw [Nat.add_zero, hwa] at this
      rw [this]; rfl
  obtain ⟨H2, N2, rfl, g2, j5, jp, js⟩ := hO
  have e2b : N.n 2 ≠ b := fun e => by rw [← e, q2] at h0b; cases h0b
  have e3b : N.n 3 ≠ b := fun e => by rw [← e, q3] at h0b; cases h0b
  have e25 : N.n 2 ≠ N1.n 5 := fun e => by have := m2 5; rw [e] at this; simp at this
  have e35 : N.n 3 ≠ N1.n 5 := fun e => by have := m3 5; rw [e] at this; simp at this
  have w2 := jp _ _ e25 e2b (fH _ _ q2')
  have w3 := jp _ _ e35 e3b (fH _ _ q3')
  have w0 := jp _ _ (ni 0 5 (by decide)) (nbi 0) p0
  have b10 := hB1 0
  have rb10 := fun o n => rdB_none (o := o) (n := n) b10
  have b15 := hB1 5
  have x05 : (N1.n 0 == N1.n 5) = false := by rw [hI1]; rfl
  have y2 : (N.n 2 == N1.n 5) = false := eqb e25
  have y3 : (N.n 3 == N1.n 5) = false := eqb e35
  have y2' : (N1.n 5 == N.n 2) = false := eqb e25.symm
  have y3' : (N1.n 5 == N.n 3) = false := eqb e35.symm
  simp -implicitDefEqProofs (maxSteps := 10000000) (disch := omega) only [TwlogWipe, LwlogWipe, GwlogWipe_cellsStore, GwlogWipe_slicesClone_CellCell, GwlogWipe_wloglog, Vwloglog, Twloglog, Lwloglog, Gwloglog_10, V10_eq, Gwloglog_13, V13_eq, Gwloglog_7, V7_eq, Gwloglog_wlogwant, Vwlogwant, Twlogwant, Lwlogwant, DwlogWipe_wlogcaught, Uwlogcaught, Lwlogcaught, hB, hR, hI, itR2_wloglog1, List.cons_append, EwlogWipe, lenV_sl, Int.toNat_natCast, bft, btf, gtst, st_len, j5, w0, w2, w3, b10, rb10, b15, b2, b3, rb2, rb3, x05, y2, y3, y2', y3', n23, n32, pad, lightV, bt, bf, evs, gt, st, binV, arith, isSh, storeV, all1, idxAV, fieldV, faddrV, iaddrSV, iaddrAV, pickV, convV, unV, eqbV, eqpV, extV, mm2, mmV, nilckV, ress, res1, retV, Value.cells, reduceIte, reduceCtorEq, Int.reduceLT, Int.reduceLE, Int.reduceToNat, Int.reduceAdd, Int.reduceSub, Int.reduceMul, Int.reduceNeg, Nat.reduceMul, Nat.reduceAdd, Nat.reduceSub, Nat.reduceBEq, Nat.reduceEqDiff, Nat.reduceLT, Nat.reduceLeDiff, Int.reduceBEq, Int.reduceEq, Nat.reducePow, Int.reducePow, IntWalk.i64_in, IntKind.bits, eqAV, eqL, leafEq, andO, fillV, buildSV, Int.reduceGT, Int.reduceGE, Int.reduceBNe, IntWalk.u64_in, newsV_s, tassV, isnV, slcV, slcAV, slcTV, slcB, appNew, Option.bind_some, Option.bind_none, eqsV, lookV, mupdV, mdelV, mkM, ev1, ev2]
  have z1 := good_set (k := .loop (N1.r 5) .over) g2 b15 j5
  have z2' := good_up (k := .cells [.slice (some ⟨b, 0, none⟩) M.length c1] 1) z1 b2 (by rw [lk_cons, y2, cond_false]; exact w2)
  have z3 := good_up (k := .cells [.int .i64 0] 1) z2' b3 (by rw [lk_upH, n32, cond_false, lk_cons, y3, cond_false]; exact w3)
  have fj : Fr H ((N1.n 5, .loop (N1.r 5) .over) :: H2) := fun y c e => by
    have e0 := f0 _ _ e
    have e1 := r1 _ _ e0
    have h1 : y ≠ N1.n 5 := fun h => by have := ne_N g1 e1 5; rw [h] at this; simp at this
    have h2 : y ≠ b := fun h => by rw [← h, e0] at h0b; cases h0b
    rw [lk_cons, eqb h1, cond_false]
    exact jp y c h1 h2 (fH _ _ e1)
  have fz := fr_up (k := .cells [.int .i64 0] 1) (fr_up (k := .cells [.slice (some ⟨b, 0, none⟩) M.length c1] 1) fj (lk_N hN 2)) (lk_N hN 3)
  simp only [upH_cons, y2, y3, cond_false] at z3 fz
  refine ⟨_, _, _, rfl, z3, fz, SlM.mono js fun y c hy e => ?_⟩
  have hyb : y = b := by simpa [slB] using hy.symm
  subst hyb
  have k5 : (y == N1.n 5) = false := eqb (nbi 5).symm
  have k2 : (y == N.n 2) = false := eqb e2b.symm
  have k3 : (y == N.n 3) = false := eqb e3b.symm
  simp -implicitDefEqProofs (maxSteps := 10000000) (disch := omega) only [TwlogWipe, LwlogWipe, GwlogWipe_cellsStore, GwlogWipe_slicesClone_CellCell, GwlogWipe_wloglog, Vwloglog, Twloglog, Lwloglog, Gwloglog_10, V10_eq, Gwloglog_13, V13_eq, Gwloglog_7, V7_eq, Gwloglog_wlogwant, Vwlogwant, Twlogwant, Lwlogwant, DwlogWipe_wlogcaught, Uwlogcaught, Lwlogcaught, hB, hR, hI, itR2_wloglog1, List.cons_append, EwlogWipe, k5, k2, k3, e, pad, lightV, bt, bf, evs, gt, st, binV, arith, isSh, storeV, all1, idxAV, fieldV, faddrV, iaddrSV, iaddrAV, pickV, convV, unV, eqbV, eqpV, extV, mm2, mmV, nilckV, ress, res1, retV, Value.cells, reduceIte, reduceCtorEq, Int.reduceLT, Int.reduceLE, Int.reduceToNat, Int.reduceAdd, Int.reduceSub, Int.reduceMul, Int.reduceNeg, Nat.reduceMul, Nat.reduceAdd, Nat.reduceSub, Nat.reduceBEq, Nat.reduceEqDiff, Nat.reduceLT, Nat.reduceLeDiff, Int.reduceBEq, Int.reduceEq, Nat.reducePow, Int.reducePow, IntWalk.i64_in, IntKind.bits, eqAV, eqL, leafEq, andO, fillV, buildSV, Int.reduceGT, Int.reduceGE, Int.reduceBNe, IntWalk.u64_in, newsV_s, tassV, isnV, slcV, slcAV, slcTV, slcB, appNew, Option.bind_some, Option.bind_none, eqsV, lookV, mupdV, mdelV, mkM, ev1, ev2]
end Go.Proofs.YtfhiplfagejfoaaDoor
namespace Go.Proofs.YtfhiplfagejfoaaDoor
open Go.Proofs.YtfhiplfagejfoaaDoor.K Go.ChangeShapes Go.WideShapes Go.ChangeAt Go.RowKit 
set_option maxRecDepth 100000
set_option linter.unusedSimpArgs false
set_option linter.unusedVariables false
set_option maxHeartbeats 4000000 in
theorem fWipen {B : OH} {H : HL} {N : St} {vm : Value} {M : List C2} {k p c q : Int} (hn : ¬ fitI k p c) (hN : good B H N) (hv : SlW c2 2 B H vm M) (hM : M.length ≤ 800000) :
    ∃ v' H' N', VwlogWipe B [.agg #[.int .i64 k, .int .i64 p, .int .i64 c], .agg #[vm], .int .i64 q] H N = some (.ret (.tuple #[.agg #[v'], .int .i64 5]), H', N') ∧ good B H' N' ∧ Fr H H' ∧ SlM c2 2 B H H' v' ([] : List C2) := by
  have hB := good_B hN
  have hR := good_rdB hN
  have hI := beqN hN.1.1
  have hG : ∃ H N, good B H N := ⟨H, N, hN⟩
  have e1 := f13n hG k p c hn
  obtain ⟨am, cm, rfl, _⟩ := id hv
  obtain ⟨H0, hH0⟩ : ∃ H0, H0 = (N.n 3, KB.cells [.int .i64 0] 1) :: (N.n 2, .cells [.slice none 0 0] 1) :: (N.n 1, .cells [.slice am M.length cm] 1) :: (N.n 0, .cells [.int .i64 k, .int .i64 p, .int .i64 c] 3) :: H := ⟨_, rfl⟩
  have g0 : good B H0 (sh (sh (sh (sh N)))) := by rw [hH0]; exact good_new (good_new (good_new (good_new hN)))
  have f0 : Fr H H0 := by
    rw [hH0]
    have a1 := good_new (k := .cells [.int .i64 k, .int .i64 p, .int .i64 c] 3) hN
    have a2 := good_new (k := .cells [.slice am M.length cm] 1) a1
    have a3 := good_new (k := .cells [.slice none 0 0] 1) a2
    exact fr_new a3 (fr_new a2 (fr_new a1 (fr_new hN Fr.refl 0) 0) 0) 0
  have q2 : lk H0 (N.n 2) = some (.cells [.slice none 0 0] 1) := by rw [hH0]; simp only [lk_cons, hI]; rfl
  have q3 : lk H0 (N.n 3) = some (.cells [.int .i64 0] 1) := by rw [hH0]; simp only [lk_cons, hI]; rfl
  have q0 : lk H0 (N.n 0) = some (.cells [.int .i64 k, .int .i64 p, .int .i64 c] 3) := by rw [hH0]; simp only [lk_cons, hI]; rfl
  obtain ⟨v', H1, N1, ec, g1, r1, s1⟩ := clone g0 (hv.mono f0) (by omega)
  have q2' := r1 _ _ q2
  have q3' := r1 _ _ q3
  have q0' := r1 _ _ q0
  have b0 := hB 0
  have b2 := hB 2
  have b3 := hB 3
  have rb0 := fun o n => rdB_none (o := o) (n := n) b0
  have rb2 := fun o n => rdB_none (o := o) (n := n) b2
  have rb3 := fun o n => rdB_none (o := o) (n := n) b3
  have hB1 := good_B g1
  have hR1 := good_rdB g1
  have hI1 := beqN g1.1.1
  have m0 := ne_N g1 q0'
  have m0' := ne_N' g1 q0'
  have m2 := ne_N g1 q2'
  have m2' := ne_N' g1 q2'
  have m3 := ne_N g1 q3'
  have m3' := ne_N' g1 q3'
  obtain ⟨a1, c1, rfl, _⟩ := id (s1.rd c2_len)
  have n23 : (N.n 2 == N.n 3) = false := by rw [hI]; rfl
  have n32 : (N.n 3 == N.n 2) = false := by rw [hI]; rfl
  rw [hH0] at ec
  unfold VwlogWipe
  simp -implicitDefEqProofs (maxSteps := 10000000) (disch := omega) only [TwlogWipe, LwlogWipe, GwlogWipe_cellsStore, GwlogWipe_slicesClone_CellCell, GwlogWipe_wloglog, Vwloglog, Twloglog, Lwloglog, Gwloglog_10, V10_eq, Gwloglog_13, V13_eq, Gwloglog_7, V7_eq, Gwloglog_wlogwant, Vwlogwant, Twlogwant, Lwlogwant, DwlogWipe_wlogcaught, Uwlogcaught, Lwlogcaught, hB, hR, hI, itR2_wloglog1, List.cons_append, EwlogWipe, lenV_sl, Int.toNat_natCast, bft, btf, gtst, st_len, e1, ec, q0', q2', q3', b0, b2, b3, rb0, rb2, rb3, hB1, hR1, hI1, m0, m0', m2, m2', m3, m3', n23, n32, pad, lightV, bt, bf, evs, gt, st, binV, arith, isSh, storeV, all1, idxAV, fieldV, faddrV, iaddrSV, iaddrAV, pickV, convV, unV, eqbV, eqpV, extV, mm2, mmV, nilckV, ress, res1, retV, Value.cells, reduceIte, reduceCtorEq, Int.reduceLT, Int.reduceLE, Int.reduceToNat, Int.reduceAdd, Int.reduceSub, Int.reduceMul, Int.reduceNeg, Nat.reduceMul, Nat.reduceAdd, Nat.reduceSub, Nat.reduceBEq, Nat.reduceEqDiff, Nat.reduceLT, Nat.reduceLeDiff, Int.reduceBEq, Int.reduceEq, Nat.reducePow, Int.reducePow, IntWalk.i64_in, IntKind.bits, eqAV, eqL, leafEq, andO, fillV, buildSV, Int.reduceGT, Int.reduceGE, Int.reduceBNe, IntWalk.u64_in, newsV_s, tassV, isnV, slcV, slcAV, slcTV, slcB, appNew, Option.bind_some, Option.bind_none, eqsV, lookV, mupdV, mdelV, mkM, ev1, ev2]
  have z1 := good_up (k := .cells [.int .i64 5] 1) g1 b3 q3'
  have z2' := fr_up (k := .cells [.int .i64 5] 1) (f0.trans r1) (lk_N hN 3)
  have z3 : good B ((N1.n 0, .cells [.slice a1 M.length c1] 1) :: upH H1 (N.n 3) (.cells [.int .i64 5] 1)) (sh N1) := good_new z1
  refine ⟨_, _, _, rfl, ?_, ?_, .inl ⟨rfl, rfl⟩⟩
  · exact good_new (good_new (good_new (good_new z1)))
  · exact fr_new (good_new (good_new (good_new z1))) (fr_new (good_new (good_new z1)) (fr_new (good_new z1) (fr_new z1 z2' 0) 0) 0) 0
/-- The words of a log. -/
def wdsL (M : List C2) (A : Nat) : Nat → List Int
  | 0 => []
  | n + 1 => wdsL M A n ++ [(M.getD (A + n) z2).w]
theorem wdsL_len (M : List C2) (A : Nat) : ∀ n, (wdsL M A n).length = n
  | 0 => rfl
  | n + 1 => by simp [wdsL, wdsL_len M A n]
def C2s (M : List C2) : Prop := ∀ x ∈ M, u64R x.w ∧ i64R x.l
theorem C2s.at {K : List C2} (h : C2s K) (i : Nat) : u64R (K.getD i z2).w ∧ i64R (K.getD i z2).l := by
  rcases Nat.lt_or_ge i K.length with hi | hi
  · exact h _ (List.mem_of_getElem? (some_getD (d := z2) hi))
  · rw [List.getD_eq_getElem?_getD, List.getElem?_eq_none hi]
    unfold u64R i64R; simp [z2]
theorem wdsL_u {M : List C2} (h : C2s M) (A : Nat) : ∀ n, U64s (wdsL M A n)
  | 0 => fun x hx => by cases hx
  | n + 1 => fun x hx => by
    simp only [wdsL] at hx
    rcases List.mem_append.1 hx with h' | h'
    · exact wdsL_u h A n x h'
    · rw [List.mem_singleton.1 h']; exact (h.at _).1
/-- Writes that are done, one behind the other. -/
def lay (M : List C2) (l : List W2) : Nat → List C2
  | 0 => M
  | n + 1 => (lay M l n).set (l.getD n y2).a.toNat ⟨(l.getD n y2).w, 0⟩
theorem lay_len (M : List C2) (l : List W2) : ∀ n, (lay M l n).length = M.length
  | 0 => rfl
  | n + 1 => by simp [lay, lay_len M l n]
noncomputable def layE (p h : Nat) (q : Int) (M : List C2) : Int := if memOk p h q M then unE p h (wdsL M (lgA p h q) (LG p h)) else 1
open Classical in
noncomputable def layR (p h : Nat) (q : Int) (M : List C2) : List C2 := if memOk p h q M ∧ unOk p h (wdsL M (lgA p h q) (LG p h)) then lay M (unR p h (wdsL M (lgA p h q) (LG p h))) (unR p h (wdsL M (lgA p h q) (LG p h))).length else []
/-- whitewash/wlog.Lay -/
def LwlogLay : FnD := ⟨(.ops [⟨(some 3), .box (.tmp 0), none⟩, ⟨(some 4), .box (.tmp 1), none⟩, ⟨(some 6), .alloc [(.slice none 0 0)], none⟩, ⟨(some 7), .alloc [(.int .i64 0)], none⟩]), 43, [(.tmp 7)], (.seq (.ops [⟨(some 15), .faddr 0 (.tmp 4), none⟩, ⟨(some 16), .load false 1 (.tmp 15), none⟩, ⟨(some 17), .call (.func 50) [(.tmp 16)], none⟩, ⟨(some 18), .build [(.slice none 0 0)] [(0, 1, (.tmp 17))], none⟩, ⟨(some 8), .alloc [(.slice none 0 0)], none⟩, ⟨none, .store 1 (.tmp 8) (.tmp 18), none⟩])
 (.seq (.ops [⟨(some 9), .alloc [(.slice none 0 0)], none⟩])
 (.seq (.seq (.ops [⟨(some 19), .load true 3 (.tmp 3), none⟩, ⟨(some 20), .mv (.tmp 2), none⟩, ⟨(some 21), .call (.func 51) [(.tmp 19), (.tmp 8), (.tmp 20)], none⟩])
 (.block 0 (.range (.tmp 21) [22, 23] (.ops [⟨(some 11), .mv (.tmp 23), none⟩])
 (.block 1 (.ops [⟨(some 24), .load false 1 (.tmp 9), none⟩, ⟨(some 25), .mv (.tmp 11), none⟩, ⟨(some 26), .buildS [(.int .u64 0)] 1 [(0, 1, (.tmp 25))], none⟩, ⟨(some 27), .app [(.int .u64 0)] 8 (.tmp 24) (.tmp 26), none⟩, ⟨none, .store 1 (.tmp 9) (.tmp 27), none⟩])))))
 (.seq (.ops [⟨(some 29), .load true 3 (.tmp 3), none⟩, ⟨(some 30), .load false 1 (.tmp 9), none⟩, ⟨(some 31), .call (.func 18) [(.tmp 29), (.tmp 30)], none⟩, ⟨(some 28), .mv (.tmp 31), none⟩, ⟨(some 32), .ext (.tmp 28) 0, none⟩, ⟨(some 33), .ext (.tmp 28) 1, none⟩, ⟨(some 12), .mv (.tmp 32), none⟩, ⟨none, .store 1 (.tmp 7) (.tmp 33), none⟩])
 (.seq (.ops [⟨(some 34), .load false 1 (.tmp 7), none⟩, ⟨(some 35), .bin .eql (.tmp 34) (.const (.int .i64 0)), none⟩, ⟨(some 36), .call (.func 44) [(.tmp 35), (.const (.int .i64 2))], none⟩])
 (.seq (.seq (.ops [⟨(some 37), .mv (.tmp 12), none⟩, ⟨(some 38), .len false (.tmp 37), none⟩, ⟨(some 39), .mv (.const (.int .i64 0)), none⟩])
 (.block 2 (.loop (.seq (.ops [⟨(some 40), .bin .lss (.tmp 39) (.tmp 38), none⟩])
 (.seq (.cond (.tmp 40) .skip
 (.exit 2))
 (.seq (.block 3 (.seq (.ops [⟨(some 41), .iaddrS 2 (.tmp 37) (.tmp 39), none⟩, ⟨(some 42), .load true 2 (.tmp 41), none⟩, ⟨(some 14), .alloc [(.int .i64 0), (.int .u64 0)], none⟩, ⟨none, .store 2 (.tmp 14) (.tmp 42), none⟩])
 (.ops [⟨(some 43), .faddr 0 (.tmp 14), none⟩, ⟨(some 44), .load false 1 (.tmp 43), none⟩, ⟨(some 45), .faddr 1 (.tmp 14), none⟩, ⟨(some 46), .load false 1 (.tmp 45), none⟩, ⟨(some 47), .call (.func 52) [(.tmp 8), (.tmp 44), (.tmp 46)], none⟩])))
 (.ops [⟨(some 48), .bin .add (.tmp 39) (.const (.int .i64 1)), none⟩, ⟨(some 39), .mv (.tmp 48), none⟩])))))))
 (.seq (.ops [⟨(some 49), .load true 1 (.tmp 8), none⟩, ⟨none, .store 1 (.tmp 6) (.tmp 49), none⟩, ⟨none, .store 1 (.tmp 7) (.const (.int .i64 0)), none⟩])
 .ret))))))),
 50, [.cell 6 true 1, .cell 7 false 1]⟩
theorem lowwlogLay : lowerDfr Tryd.prog Tryd.f24 = some LwlogLay := by kernel_rfl
noncomputable def GwlogLay (B : OH) : Nat → Cs
  | 52 => VcellsStore B
  | 50 => VslicesClone_CellCell B
  | 18 => VwlogUnpack B
  | 51 => Vwloglog B
  | 44 => Vwlogwant B
  | _ => fun _ _ _ => none
theorem GwlogLay_cellsStore {B : OH} : GwlogLay B 52 = VcellsStore B := rfl
theorem GwlogLay_slicesClone_CellCell {B : OH} : GwlogLay B 50 = VslicesClone_CellCell B := rfl
theorem GwlogLay_wlogUnpack {B : OH} : GwlogLay B 18 = VwlogUnpack B := rfl
theorem GwlogLay_wloglog {B : OH} : GwlogLay B 51 = Vwloglog B := rfl
theorem GwlogLay_wlogwant {B : OH} : GwlogLay B 44 = Vwlogwant B := rfl
noncomputable abbrev EwlogLay (B : OH) : Env := { f := GwlogLay B, it := itR2 B }
theorem sGwlogLay {w0 : World} {B : OH} : SoundG Tryd.prog w0 B (EwlogLay B) :=
  ⟨fun k => by
    show (∀ args H N, GwlogLay B k args H N = none) ∨ _
    unfold GwlogLay
    split
    · exact .inr ⟨encellsStore, sVcellsStore⟩
    · exact .inr ⟨enslicesClone_CellCell, sVslicesClone_CellCell⟩
    · exact .inr ⟨enwlogUnpack, sVwlogUnpack⟩
    · exact .inr ⟨enwloglog, sVwloglog⟩
    · exact .inr ⟨enwlogwant, sVwlogwant⟩
    · exact .inl fun _ _ _ => rfl, fun _ => .inl fun _ _ _ => rfl, sitR2⟩
theorem enwlogLay : Enter Tryd.prog 24 := .of Tryd.func24 (by kernel_rfl) (by kernel_rfl)
noncomputable def DwlogLay (B : OH) : Nat → Ds
  | 43 => Uwlogcaught B
  | _ => fun _ _ _ _ => none
theorem DwlogLay_wlogcaught {B : OH} : DwlogLay B 43 = Uwlogcaught B := rfl
noncomputable def TwlogLay (B : OH) : Cs := callD B (EwlogLay B) (DwlogLay B) 1000000 LwlogLay
theorem sTwlogLay {w0 : World} {B : OH} : SoundC Tryd.prog w0 B 24 (TwlogLay B) := callD_sound mixedOrders sGwlogLay 1000000 Tryd.func24 lowwlogLay enwlogcaught sUwlogcaught
noncomputable def VwlogLay (B : OH) : Cs := TwlogLay B
theorem sVwlogLay {w0 : World} {B : OH} : SoundC Tryd.prog w0 B 24 (VwlogLay B) := sTwlogLay
set_option maxHeartbeats 4000000 in
theorem fLayn {B : OH} {H : HL} {N : St} {vm : Value} {M : List C2} {k p c q : Int} (hn : ¬ fitI k p c) (hN : good B H N) (hv : SlW c2 2 B H vm M) (hM : M.length ≤ 800000) :
    ∃ v' H' N', VwlogLay B [.agg #[.int .i64 k, .int .i64 p, .int .i64 c], .agg #[vm], .int .i64 q] H N = some (.ret (.tuple #[.agg #[v'], .int .i64 5]), H', N') ∧ good B H' N' ∧ Fr H H' ∧ SlM c2 2 B H H' v' ([] : List C2) := by
  have hB := good_B hN
  have hR := good_rdB hN
  have hI := beqN hN.1.1
  have hG : ∃ H N, good B H N := ⟨H, N, hN⟩
  have e1 := f13n hG k p c hn
  obtain ⟨am, cm, rfl, _⟩ := id hv
  obtain ⟨H0, hH0⟩ : ∃ H0, H0 = (N.n 3, KB.cells [.int .i64 0] 1) :: (N.n 2, .cells [.slice none 0 0] 1) :: (N.n 1, .cells [.slice am M.length cm] 1) :: (N.n 0, .cells [.int .i64 k, .int .i64 p, .int .i64 c] 3) :: H := ⟨_, rfl⟩
  have g0 : good B H0 (sh (sh (sh (sh N)))) := by rw [hH0]; exact good_new (good_new (good_new (good_new hN)))
  have f0 : Fr H H0 := by
    rw [hH0]
    have a1 := good_new (k := .cells [.int .i64 k, .int .i64 p, .int .i64 c] 3) hN
    have a2 := good_new (k := .cells [.slice am M.length cm] 1) a1
    have a3 := good_new (k := .cells [.slice none 0 0] 1) a2
    exact fr_new a3 (fr_new a2 (fr_new a1 (fr_new hN Fr.refl 0) 0) 0) 0
  have q2 : lk H0 (N.n 2) = some (.cells [.slice none 0 0] 1) := by rw [hH0]; simp only [lk_cons, hI]; rfl
  have q3 : lk H0 (N.n 3) = some (.cells [.int .i64 0] 1) := by rw [hH0]; simp only [lk_cons, hI]; rfl
  have q0 : lk H0 (N.n 0) = some (.cells [.int .i64 k, .int .i64 p, .int .i64 c] 3) := by rw [hH0]; simp only [lk_cons, hI]; rfl
  obtain ⟨v', H1, N1, ec, g1, r1, s1⟩ := clone g0 (hv.mono f0) (by omega)
  have q2' := r1 _ _ q2
  have q3' := r1 _ _ q3
  have q0' := r1 _ _ q0
  have b0 := hB 0
  have b2 := hB 2
  have b3 := hB 3
  have rb0 := fun o n => rdB_none (o := o) (n := n) b0
  have rb2 := fun o n => rdB_none (o := o) (n := n) b2
  have rb3 := fun o n => rdB_none (o := o) (n := n) b3
  have hB1 := good_B g1
  have hR1 := good_rdB g1
  have hI1 := beqN g1.1.1
  have m0 := ne_N g1 q0'
  have m0' := ne_N' g1 q0'
  have m2 := ne_N g1 q2'
  have m2' := ne_N' g1 q2'
  have m3 := ne_N g1 q3'
  have m3' := ne_N' g1 q3'
  obtain ⟨a1, c1, rfl, _⟩ := id (s1.rd c2_len)
  have n23 : (N.n 2 == N.n 3) = false := by rw [hI]; rfl
  have n32 : (N.n 3 == N.n 2) = false := by rw [hI]; rfl
  rw [hH0] at ec
  unfold VwlogLay
  simp -implicitDefEqProofs (maxSteps := 10000000) (disch := omega) only [TwlogLay, LwlogLay, GwlogLay_cellsStore, GwlogLay_slicesClone_CellCell, GwlogLay_wlogUnpack, GwlogLay_wloglog, Vwloglog, Twloglog, Lwloglog, Gwloglog_10, V10_eq, Gwloglog_13, V13_eq, Gwloglog_7, V7_eq, Gwloglog_wlogwant, Vwlogwant, Twlogwant, Lwlogwant, GwlogLay_wlogwant, DwlogLay_wlogcaught, Uwlogcaught, Lwlogcaught, hB, hR, hI, itR2_wloglog1, List.cons_append, EwlogLay, lenV_sl, Int.toNat_natCast, bft, btf, gtst, st_len, e1, ec, q0', q2', q3', b0, b2, b3, rb0, rb2, rb3, hB1, hR1, hI1, m0, m0', m2, m2', m3, m3', n23, n32, pad, lightV, bt, bf, evs, gt, st, binV, arith, isSh, storeV, all1, idxAV, fieldV, faddrV, iaddrSV, iaddrAV, pickV, convV, unV, eqbV, eqpV, extV, mm2, mmV, nilckV, ress, res1, retV, Value.cells, reduceIte, reduceCtorEq, Int.reduceLT, Int.reduceLE, Int.reduceToNat, Int.reduceAdd, Int.reduceSub, Int.reduceMul, Int.reduceNeg, Nat.reduceMul, Nat.reduceAdd, Nat.reduceSub, Nat.reduceBEq, Nat.reduceEqDiff, Nat.reduceLT, Nat.reduceLeDiff, Int.reduceBEq, Int.reduceEq, Nat.reducePow, Int.reducePow, IntWalk.i64_in, IntKind.bits, eqAV, eqL, leafEq, andO, fillV, buildSV, Int.reduceGT, Int.reduceGE, Int.reduceBNe, IntWalk.u64_in, newsV_s, tassV, isnV, slcV, slcAV, slcTV, slcB, appNew, Option.bind_some, Option.bind_none, eqsV, lookV, mupdV, mdelV, mkM, ev1, ev2]
  have z1 := good_up (k := .cells [.int .i64 5] 1) g1 b3 q3'
  have z2' := fr_up (k := .cells [.int .i64 5] 1) (f0.trans r1) (lk_N hN 3)
  have z3 : good B ((N1.n 0, .cells [.slice a1 M.length c1] 1) :: upH H1 (N.n 3) (.cells [.int .i64 5] 1)) (sh N1) := good_new z1
  refine ⟨_, _, _, rfl, ?_, ?_, .inl ⟨rfl, rfl⟩⟩
  · exact good_new (good_new (good_new (good_new (good_new z1))))
  · exact fr_new (good_new (good_new (good_new (good_new z1)))) (fr_new (good_new (good_new (good_new z1))) (fr_new (good_new (good_new z1)) (fr_new (good_new z1) (fr_new z1 z2' 0) 0) 0) 0) 0
structure KLy (o6 o7 ow : Nat) (vl : Value) (n i : Nat) (ts : List Value) : Prop where
  l : ts.length = 50
  t6 : gt ts 6 = .pointer (some ⟨o6, 0, none⟩)
  t7 : gt ts 7 = .pointer (some ⟨o7, 0, none⟩)
  t8 : gt ts 8 = .pointer (some ⟨ow, 0, none⟩)
  t37 : gt ts 37 = vl
  t38 : gt ts 38 = .int .i64 (n : Int)
  t39 : gt ts 39 = .int .i64 (i : Int)
def lbLy : LC := (.seq (.ops [⟨(some 40), .bin .lss (.tmp 39) (.tmp 38), none⟩])
 (.seq (.cond (.tmp 40) .skip
 (.exit 2))
 (.seq (.block 3 (.seq (.ops [⟨(some 41), .iaddrS 2 (.tmp 37) (.tmp 39), none⟩, ⟨(some 42), .load true 2 (.tmp 41), none⟩, ⟨(some 14), .alloc [(.int .i64 0), (.int .u64 0)], none⟩, ⟨none, .store 2 (.tmp 14) (.tmp 42), none⟩])
 (.ops [⟨(some 43), .faddr 0 (.tmp 14), none⟩, ⟨(some 44), .load false 1 (.tmp 43), none⟩, ⟨(some 45), .faddr 1 (.tmp 14), none⟩, ⟨(some 46), .load false 1 (.tmp 45), none⟩, ⟨(some 47), .call (.func 52) [(.tmp 8), (.tmp 44), (.tmp 46)], none⟩])))
 (.ops [⟨(some 48), .bin .add (.tmp 39) (.const (.int .i64 1)), none⟩, ⟨(some 39), .mv (.tmp 48), none⟩]))))
set_option maxHeartbeats 8000000 in
theorem loopLy {B : OH} {H0 Hx H : HL} {N : St} {v vl : Value} {M : List C2} {l : List W2} {o6 o7 ow b len cap : Nat} (hN : good B H N) (hv : v = .slice (some ⟨b, 0, none⟩) len cap) (sM : SlM c2 2 B H0 H v M) (hM : M.length ≤ 800000) (sl : SlM w2 2 B Hx H vl l) (hb : slB vl ≠ some b) (hlb : l.length ≤ 800000) (hin : ∀ i, i < l.length → 0 ≤ (l.getD i y2).a ∧ (l.getD i y2).a < (M.length : Int)) (lo : lk H ow = some (.cells [v] 1)) (bo : B ow = none) (how : ow ≠ b) {ts : List Value} (kp : KLy o6 o7 ow vl l.length 0 ts) {F : Nat} (hF : 100 + l.length + 1 ≤ F) :
    Ok (exec B (EwlogLay B) F (LC.loop lbLy) ⟨ts, H, N⟩) (fun x s => x = .exit 2 ∧ good B s.H s.N ∧ (∀ y c, y ≠ b → lk H y = some c → lk s.H y = some c) ∧ SlM c2 2 B H0 s.H v (lay M l l.length) ∧ KLy o6 o7 ow vl l.length l.length s.t) := by
  refine loop_rule (n0 := 100) (fun q s => ∃ ts H' N', ∃ i : Nat, s = ⟨ts, H', N'⟩ ∧ KLy o6 o7 ow vl l.length i ts ∧ good B H' N' ∧ (∀ y c, y ≠ b → lk H y = some c → lk H' y = some c) ∧ SlM c2 2 B H0 H' v (lay M l i) ∧ i ≤ l.length ∧ q = l.length - i) _ ?_ l.length _ ⟨ts, H, N, 0, rfl, kp, hN, fun _ _ _ e => e, sM, by omega, rfl⟩ _ hF
  clear kp hF F ts hN sM N
  rintro z q s ⟨ts, H1, N1, i, rfl, kp, g, fk, sM, hi, rfl⟩
  have hB := good_B g
  have hR := good_rdB g
  have hI := beqN g.1.1
  have hc1 : ((i + 1 : Nat) : Int) = (i : Int) + 1 := by omega
  by_cases hlt : i < l.length
  case neg =>
    obtain rfl : i = l.length := by omega
    simp -implicitDefEqProofs (maxSteps := 10000000) (disch := omega) only [TwlogLay, LwlogLay, GwlogLay_cellsStore, GwlogLay_slicesClone_CellCell, GwlogLay_wlogUnpack, GwlogLay_wloglog, Vwloglog, Twloglog, Lwloglog, Gwloglog_10, V10_eq, Gwloglog_13, V13_eq, Gwloglog_7, V7_eq, Gwloglog_wlogwant, Vwlogwant, Twlogwant, Lwlogwant, GwlogLay_wlogwant, DwlogLay_wlogcaught, Uwlogcaught, Lwlogcaught, hB, hR, hI, lbLy, kp.l, kp.t6, kp.t7, kp.t8, kp.t37, kp.t38, kp.t39, lenV_sl, Int.toNat_natCast, bft, btf, gtst, st_len, Int.lt_irrefl, pad, lightV, bt, bf, evs, gt, st, binV, arith, isSh, storeV, all1, idxAV, fieldV, faddrV, iaddrSV, iaddrAV, pickV, convV, unV, eqbV, eqpV, extV, mm2, mmV, nilckV, ress, res1, retV, Value.cells, reduceIte, reduceCtorEq, Int.reduceLT, Int.reduceLE, Int.reduceToNat, Int.reduceAdd, Int.reduceSub, Int.reduceMul, Int.reduceNeg, Nat.reduceMul, Nat.reduceAdd, Nat.reduceSub, Nat.reduceBEq, Nat.reduceEqDiff, Nat.reduceLT, Nat.reduceLeDiff, Int.reduceBEq, Int.reduceEq, Nat.reducePow, Int.reducePow, IntWalk.i64_in, IntKind.bits, eqAV, eqL, leafEq, andO, fillV, buildSV, Int.reduceGT, Int.reduceGE, Int.reduceBNe, IntWalk.u64_in, newsV_s, tassV, isnV, slcV, slcAV, slcTV, slcB, appNew, Option.bind_some, Option.bind_none, eqsV, lookV, mupdV, mdelV, mkM, ev1, ev2]
    refine ok_some (.inr ⟨by simp, rfl, g, fk, sM, ⟨?_, ?_, ?_, ?_, ?_, ?_, ?_⟩⟩)
    all_goals simp (maxSteps := 10000000) (disch := omega) only [kp.l, kp.t6, kp.t7, kp.t8, kp.t37, kp.t38, kp.t39, lenV_sl, Int.toNat_natCast, bft, btf, gtst, st_len, Nat.reduceAdd, Int.cast_ofNat_Int, cond_true, cond_false, Nat.reduceBEq, Nat.reduceLT, decide_true, beq_self_eq_true, if_true, if_false]
  have hlt' : (i : Int) < (l.length : Int) := by omega
  have i0 : (0 : Int) ≤ (i : Int) := by omega
  have sl1 : SlM w2 2 B Hx H1 vl l := sl.mono fun y c hy e => fk y c (fun h' => hb (by rw [← h']; exact hy)) e
  obtain ⟨bv, ov, cv, rfl, _, rv⟩ := (sl1.rd w2_len).at (by omega)
  have rv := SlR.read rv w2_len (Fr.refl (H := H1)) y2 hlt
  have ha := hin i hlt
  have hs : lay M l (i + 1) = (lay M l i).set (l.getD i y2).a.toNat ⟨(l.getD i y2).w, 0⟩ := rfl
  generalize l.getD i y2 = x at *
  obtain ⟨a, w⟩ := x
  simp only [w2] at rv ha hs
  obtain ⟨n, rfl⟩ : ∃ n : Nat, a = (n : Int) := ⟨a.toNat, by omega⟩
  rw [Int.toNat_natCast] at hs
  have g2 : good B ((N1.n 0, .cells [.int .i64 (n : Int), .int .u64 w] 2) :: H1) (sh N1) := good_new g
  have f2 : Fr H1 ((N1.n 0, .cells [.int .i64 (n : Int), .int .u64 w] 2) :: H1) := fr_new g Fr.refl 0
  obtain ⟨H3, N3, es, g3, s3, k3⟩ := store (m := ow) (i := n) (w := w) g2 (sM.mono fun y c _ e => f2 y c e) (f2 _ _ (fk _ _ how lo)) bo (by rw [hv]; simpa [slB] using how.symm) (by rw [lay_len]; omega) (by rw [lay_len]; omega)
  rw [← hs] at s3
  simp -implicitDefEqProofs (maxSteps := 10000000) (disch := omega) only [TwlogLay, LwlogLay, GwlogLay_cellsStore, GwlogLay_slicesClone_CellCell, GwlogLay_wlogUnpack, GwlogLay_wloglog, Vwloglog, Twloglog, Lwloglog, Gwloglog_10, V10_eq, Gwloglog_13, V13_eq, Gwloglog_7, V7_eq, Gwloglog_wlogwant, Vwlogwant, Twlogwant, Lwlogwant, GwlogLay_wlogwant, DwlogLay_wlogcaught, Uwlogcaught, Lwlogcaught, hB, hR, hI, lbLy, kp.l, kp.t6, kp.t7, kp.t8, kp.t37, kp.t38, kp.t39, lenV_sl, Int.toNat_natCast, bft, btf, gtst, st_len, hlt, hlt', i0, rv, es, pad, lightV, bt, bf, evs, gt, st, binV, arith, isSh, storeV, all1, idxAV, fieldV, faddrV, iaddrSV, iaddrAV, pickV, convV, unV, eqbV, eqpV, extV, mm2, mmV, nilckV, ress, res1, retV, Value.cells, reduceIte, reduceCtorEq, Int.reduceLT, Int.reduceLE, Int.reduceToNat, Int.reduceAdd, Int.reduceSub, Int.reduceMul, Int.reduceNeg, Nat.reduceMul, Nat.reduceAdd, Nat.reduceSub, Nat.reduceBEq, Nat.reduceEqDiff, Nat.reduceLT, Nat.reduceLeDiff, Int.reduceBEq, Int.reduceEq, Nat.reducePow, Int.reducePow, IntWalk.i64_in, IntKind.bits, eqAV, eqL, leafEq, andO, fillV, buildSV, Int.reduceGT, Int.reduceGE, Int.reduceBNe, IntWalk.u64_in, newsV_s, tassV, isnV, slcV, slcAV, slcTV, slcB, appNew, Option.bind_some, Option.bind_none, eqsV, lookV, mupdV, mdelV, mkM, ev1, ev2]
  refine ok_some (.inl ⟨rfl, l.length - (i + 1), by omega, _, H3, N3, i + 1, rfl, ⟨?_, ?_, ?_, ?_, ?_, ?_, ?_⟩, g3, fun y c h1 e => k3 y c (by rw [hv]; simpa [slB] using h1.symm) (f2 _ _ (fk y c h1 e)), s3, by omega, rfl⟩)
  all_goals simp (maxSteps := 10000000) (disch := omega) only [kp.l, kp.t6, kp.t7, kp.t8, kp.t37, kp.t38, kp.t39, lenV_sl, Int.toNat_natCast, bft, btf, gtst, st_len, hc1, Nat.reduceAdd, Int.cast_ofNat_Int, cond_true, cond_false, Nat.reduceBEq, Nat.reduceLT, decide_true, beq_self_eq_true, if_true, if_false]
end Go.Proofs.YtfhiplfagejfoaaDoor
namespace Go.Proofs.YtfhiplfagejfoaaDoor
open Go.Proofs.YtfhiplfagejfoaaDoor.K Go.ChangeShapes Go.WideShapes Go.ChangeAt Go.RowKit 
set_option maxRecDepth 100000
set_option linter.unusedSimpArgs false
set_option linter.unusedVariables false
set_option maxHeartbeats 16000000 in
theorem fLay {B : OH} {H : HL} {N : St} {vm : Value} {M : List C2} {kk p cc h : Nat} {q : Int} (hT : Tab B) (C : Cf kk p cc h) (hN : good B H N) (hv : SlW c2 2 B H vm M) (hM : M.length ≤ 800000) (hMs : C2s M) :
    ∃ v' H' N', VwlogLay B [.agg #[.int .i64 (kk : Int), .int .i64 (p : Int), .int .i64 (cc : Int)], .agg #[vm], .int .i64 q] H N = some (.ret (.tuple #[.agg #[v'], .int .i64 (layE p h q M)]), H', N') ∧ good B H' N' ∧ Fr H H' ∧ SlM c2 2 B H H' v' (layR p h q M) := by
  have hB := good_B hN
  have hR := good_rdB hN
  have hI := beqN hN.1.1
  have hG : ∃ H N, good B H N := ⟨H, N, hN⟩
  have e1 := f13 hG kk p cc (cfit C).1 (cfit C).2.1 (cfit C).2.2
  have e2 := f7c hG hT C
  have ne : ∀ i j, i ≠ j → N.n i ≠ N.n j := fun i j hij e => by
    have := hI i j
    rw [e] at this; simp at this; exact hij this
  obtain ⟨am, cm, rfl, _⟩ := id hv
  obtain ⟨H0, hH0⟩ : ∃ H0, H0 = (N.n 3, KB.cells [.int .i64 0] 1) :: (N.n 2, .cells [.slice none 0 0] 1) :: (N.n 1, .cells [.slice am M.length cm] 1) :: (N.n 0, .cells [.int .i64 (kk : Int), .int .i64 (p : Int), .int .i64 (cc : Int)] 3) :: H := ⟨_, rfl⟩
  have g0 : good B H0 (sh (sh (sh (sh N)))) := by rw [hH0]; exact good_new (good_new (good_new (good_new hN)))
  have f0 : Fr H H0 := by
    rw [hH0]
    have a1 := good_new (k := .cells [.int .i64 (kk : Int), .int .i64 (p : Int), .int .i64 (cc : Int)] 3) hN
    have a2 := good_new (k := .cells [.slice am M.length cm] 1) a1
    have a3 := good_new (k := .cells [.slice none 0 0] 1) a2
    exact fr_new a3 (fr_new a2 (fr_new a1 (fr_new hN Fr.refl 0) 0) 0) 0
  have q2 : lk H0 (N.n 2) = some (.cells [.slice none 0 0] 1) := by rw [hH0]; simp only [lk_cons, hI]; rfl
  have q3 : lk H0 (N.n 3) = some (.cells [.int .i64 0] 1) := by rw [hH0]; simp only [lk_cons, hI]; rfl
  have q0 : lk H0 (N.n 0) = some (.cells [.int .i64 (kk : Int), .int .i64 (p : Int), .int .i64 (cc : Int)] 3) := by rw [hH0]; simp only [lk_cons, hI]; rfl
  obtain ⟨v', H1, N1, ec, g1, r1, s1⟩ := clone g0 (hv.mono f0) (by omega)
  have q2' := r1 _ _ q2
  have q3' := r1 _ _ q3
  have q0' := r1 _ _ q0
  have b0 := hB 0
  have b2 := hB 2
  have b3 := hB 3
  have rb0 := fun o n => rdB_none (o := o) (n := n) b0
  have rb2 := fun o n => rdB_none (o := o) (n := n) b2
  have rb3 := fun o n => rdB_none (o := o) (n := n) b3
  have hB1 := good_B g1
  have hR1 := good_rdB g1
  have hI1 := beqN g1.1.1
  have m0 := ne_N g1 q0'
  have m0' := ne_N' g1 q0'
  have m2 := ne_N g1 q2'
  have m2' := ne_N' g1 q2'
  have m3 := ne_N g1 q3'
  have m3' := ne_N' g1 q3'
  have s1l := s1.len
  obtain ⟨a1, c1, rfl, _⟩ := id (s1.rd c2_len)
  have n23 : (N.n 2 == N.n 3) = false := by rw [hI]; rfl
  have n32 : (N.n 3 == N.n 2) = false := by rw [hI]; rfl
  rw [hH0] at ec
  unfold VwlogLay
  by_cases hok : memOk p h q M
  case neg =>
    have hE : layE p h q M = 1 := if_neg hok
    have hRR : layR p h q M = [] := if_neg (fun h' => hok h'.1)
    rw [hE, hRR]
    have z1 := good_up (k := .cells [.int .i64 1] 1) g1 b3 q3'
    have z2' := fr_up (k := .cells [.int .i64 1] 1) (f0.trans r1) (lk_N hN 3)
    by_cases hq : 0 ≤ q ∧ q < (p : Int)
    · have hl : ((M.length : Int) == ((bs p h 5 : Nat) : Int)) = false := beqI (fun e => hok ⟨hq, by omega⟩)
      obtain ⟨n, rfl⟩ : ∃ n : Nat, q = (n : Int) := ⟨q.toNat, by omega⟩
      have e3 := f10c3 hG hT C (q := n) (by omega)
      simp -implicitDefEqProofs (maxSteps := 10000000) (disch := omega) only [TwlogLay, LwlogLay, GwlogLay_cellsStore, GwlogLay_slicesClone_CellCell, GwlogLay_wlogUnpack, GwlogLay_wloglog, Vwloglog, Twloglog, Lwloglog, Gwloglog_10, V10_eq, Gwloglog_13, V13_eq, Gwloglog_7, V7_eq, Gwloglog_wlogwant, Vwlogwant, Twlogwant, Lwlogwant, GwlogLay_wlogwant, DwlogLay_wlogcaught, Uwlogcaught, Lwlogcaught, hB, hR, hI, itR2_wloglog1, List.cons_append, EwlogLay, lenV_sl, Int.toNat_natCast, bft, btf, gtst, st_len, e1, e2, e3, ec, q0', q2', q3', b0, b2, b3, rb0, rb2, rb3, hB1, hR1, hI1, m0, m0', m2, m2', m3, m3', n23, n32, hl, pad, lightV, bt, bf, evs, gt, st, binV, arith, isSh, storeV, all1, idxAV, fieldV, faddrV, iaddrSV, iaddrAV, pickV, convV, unV, eqbV, eqpV, extV, mm2, mmV, nilckV, ress, res1, retV, Value.cells, reduceIte, reduceCtorEq, Int.reduceLT, Int.reduceLE, Int.reduceToNat, Int.reduceAdd, Int.reduceSub, Int.reduceMul, Int.reduceNeg, Nat.reduceMul, Nat.reduceAdd, Nat.reduceSub, Nat.reduceBEq, Nat.reduceEqDiff, Nat.reduceLT, Nat.reduceLeDiff, Int.reduceBEq, Int.reduceEq, Nat.reducePow, Int.reducePow, IntWalk.i64_in, IntKind.bits, eqAV, eqL, leafEq, andO, fillV, buildSV, Int.reduceGT, Int.reduceGE, Int.reduceBNe, IntWalk.u64_in, newsV_s, tassV, isnV, slcV, slcAV, slcTV, slcB, appNew, Option.bind_some, Option.bind_none, eqsV, lookV, mupdV, mdelV, mkM, ev1, ev2]
      refine ⟨_, _, _, rfl, ?_, ?_, .inl ⟨rfl, rfl⟩⟩
      · exact good_new (good_new (good_new (good_new (good_new (good_new z1)))))
      · exact fr_new (good_new (good_new (good_new (good_new (good_new z1))))) (fr_new (good_new (good_new (good_new (good_new z1)))) (fr_new (good_new (good_new (good_new z1))) (fr_new (good_new (good_new z1)) (fr_new (good_new z1) (fr_new z1 z2' 0) 0) 0) 0) 0) 0
    · have e3 := f10o hG C q (by omega)
      have h10 : ((1 : Int) == 0) = false := rfl
      simp -implicitDefEqProofs (maxSteps := 10000000) (disch := omega) only [TwlogLay, LwlogLay, GwlogLay_cellsStore, GwlogLay_slicesClone_CellCell, GwlogLay_wlogUnpack, GwlogLay_wloglog, Vwloglog, Twloglog, Lwloglog, Gwloglog_10, V10_eq, Gwloglog_13, V13_eq, Gwloglog_7, V7_eq, Gwloglog_wlogwant, Vwlogwant, Twlogwant, Lwlogwant, GwlogLay_wlogwant, DwlogLay_wlogcaught, Uwlogcaught, Lwlogcaught, hB, hR, hI, itR2_wloglog1, List.cons_append, EwlogLay, lenV_sl, Int.toNat_natCast, bft, btf, gtst, st_len, e1, e2, e3, ec, q0', q2', q3', b0, b2, b3, rb0, rb2, rb3, hB1, hR1, hI1, m0, m0', m2, m2', m3, m3', n23, n32, h10, pad, lightV, bt, bf, evs, gt, st, binV, arith, isSh, storeV, all1, idxAV, fieldV, faddrV, iaddrSV, iaddrAV, pickV, convV, unV, eqbV, eqpV, extV, mm2, mmV, nilckV, ress, res1, retV, Value.cells, reduceIte, reduceCtorEq, Int.reduceLT, Int.reduceLE, Int.reduceToNat, Int.reduceAdd, Int.reduceSub, Int.reduceMul, Int.reduceNeg, Nat.reduceMul, Nat.reduceAdd, Nat.reduceSub, Nat.reduceBEq, Nat.reduceEqDiff, Nat.reduceLT, Nat.reduceLeDiff, Int.reduceBEq, Int.reduceEq, Nat.reducePow, Int.reducePow, IntWalk.i64_in, IntKind.bits, eqAV, eqL, leafEq, andO, fillV, buildSV, Int.reduceGT, Int.reduceGE, Int.reduceBNe, IntWalk.u64_in, newsV_s, tassV, isnV, slcV, slcAV, slcTV, slcB, appNew, Option.bind_some, Option.bind_none, eqsV, lookV, mupdV, mdelV, mkM, ev1, ev2]
      refine ⟨_, _, _, rfl, ?_, ?_, .inl ⟨rfl, rfl⟩⟩
      · exact good_new (good_new (good_new (good_new (good_new (good_new z1)))))
      · exact fr_new (good_new (good_new (good_new (good_new (good_new z1))))) (fr_new (good_new (good_new (good_new (good_new z1)))) (fr_new (good_new (good_new (good_new z1))) (fr_new (good_new (good_new z1)) (fr_new (good_new z1) (fr_new z1 z2' 0) 0) 0) 0) 0) 0
  have hE : layE p h q M = unE p h (wdsL M (lgA p h q) (LG p h)) := if_pos hok
  have hRy : unOk p h (wdsL M (lgA p h q) (LG p h)) → layR p h q M = lay M (unR p h (wdsL M (lgA p h q) (LG p h))) (unR p h (wdsL M (lgA p h q) (LG p h))).length := fun h' => if_pos ⟨hok, h'⟩
  have hRn : ¬ unOk p h (wdsL M (lgA p h q) (LG p h)) → layR p h q M = [] := fun h' => if_neg fun h2 => h' h2.2
  rw [hE]
  have hb := lgA_b C hok
  obtain ⟨n, rfl⟩ : ∃ n : Nat, q = (n : Int) := ⟨q.toNat, by have := hok.1; omega⟩
  have e3 := f10c3 hG hT C (q := n) (by have := hok.1; omega)
  have hlA : bs p h 3 + LG p h * n = lgA p h (n : Int) := rfl
  rw [hlA] at e3
  generalize lgA p h (n : Int) = A at *
  have hl : ((M.length : Int) == ((bs p h 5 : Nat) : Int)) = true := by rw [hok.2]; exact beq_self_eq_true _
  have hlb := LG_b C
  rcases s1 with ⟨h0, _⟩ | ⟨b, cap, rest, hve, bb, h0b, hle, hlk⟩
  · rw [h0] at hb; simp at hb; omega
  injection hve with hv1 hv2 hv3
  subst hv1 hv3
  simp -implicitDefEqProofs (maxSteps := 10000000) (disch := omega) only [TwlogLay, LwlogLay, GwlogLay_cellsStore, GwlogLay_slicesClone_CellCell, GwlogLay_wlogUnpack, GwlogLay_wloglog, Vwloglog, Twloglog, Lwloglog, Gwloglog_10, V10_eq, Gwloglog_13, V13_eq, Gwloglog_7, V7_eq, Gwloglog_wlogwant, Vwlogwant, Twlogwant, Lwlogwant, GwlogLay_wlogwant, DwlogLay_wlogcaught, Uwlogcaught, Lwlogcaught, hB, hR, hI, itR2_wloglog1, List.cons_append, EwlogLay, lenV_sl, Int.toNat_natCast, bft, btf, gtst, st_len, e1, e2, e3, ec, q0', q2', q3', b0, b2, b3, rb0, rb2, rb3, hB1, hR1, hI1, m0, m0', m2, m2', m3, m3', n23, n32, hl, pad, lightV, bt, bf, evs, gt, st, binV, arith, isSh, storeV, all1, idxAV, fieldV, faddrV, iaddrSV, iaddrAV, pickV, convV, unV, eqbV, eqpV, extV, mm2, mmV, nilckV, ress, res1, retV, Value.cells, reduceIte, reduceCtorEq, Int.reduceLT, Int.reduceLE, Int.reduceToNat, Int.reduceAdd, Int.reduceSub, Int.reduceMul, Int.reduceNeg, Nat.reduceMul, Nat.reduceAdd, Nat.reduceSub, Nat.reduceBEq, Nat.reduceEqDiff, Nat.reduceLT, Nat.reduceLeDiff, Int.reduceBEq, Int.reduceEq, Nat.reducePow, Int.reducePow, IntWalk.i64_in, IntKind.bits, eqAV, eqL, leafEq, andO, fillV, buildSV, Int.reduceGT, Int.reduceGE, Int.reduceBNe, IntWalk.u64_in, newsV_s, tassV, isnV, slcV, slcAV, slcTV, slcB, appNew, Option.bind_some, Option.bind_none, eqsV, lookV, mupdV, mdelV, mkM, ev1, ev2]
  generalize hX : Iwloglog1 B _ _ _ _ = o
  obtain ⟨HH, hHH⟩ : ∃ HH, HH = (N1.n 6, KB.loop (N1.r 6) .ready) :: (N1.n 5, .dfr) :: (N1.n 4, .cells [.int .i64 (A : Int)] 1) :: (N1.n 3, .cells [.pointer (some ⟨N1.n 0, 0, none⟩)] 1) :: (N1.n 2, .cells [.int .i64 (kk : Int), .int .i64 (p : Int), .int .i64 (cc : Int)] 3) :: (N1.n 1, .cells [.slice none 0 0] 1) :: (N1.n 0, .cells [.slice (some ⟨b, 0, none⟩) M.length c1] 1) :: H1 := ⟨_, rfl⟩
  have a1 := good_new (k := .cells [.slice (some ⟨b, 0, none⟩) M.length c1] 1) g1
  have a2 := good_new (k := .cells [.slice none 0 0] 1) a1
  have a3 := good_new (k := .cells [.int .i64 (kk : Int), .int .i64 (p : Int), .int .i64 (cc : Int)] 3) a2
  have a4 := good_new (k := .cells [.pointer (some ⟨N1.n 0, 0, none⟩)] 1) a3
  have a5 := good_new (k := .cells [.int .i64 (A : Int)] 1) a4
  have a6 := good_new (k := .dfr) a5
  have gH : good B HH (sh (sh (sh (sh (sh (sh (sh N1))))))) := by rw [hHH]; exact good_new a6
  have fH : Fr H1 HH := by rw [hHH]; exact fr_new a6 (fr_new a5 (fr_new a4 (fr_new a3 (fr_new a2 (fr_new a1 (fr_new g1 Fr.refl 0) 0) 0) 0) 0) 0) 0
  have p0 : lk HH (N1.n 0) = some (.cells [.slice (some ⟨b, 0, none⟩) M.length c1] 1) := by rw [hHH]; simp only [lk_cons, hI1]; rfl
  have p1 : lk HH (N1.n 1) = some (.cells [.slice none 0 0] 1) := by rw [hHH]; simp only [lk_cons, hI1]; rfl
  have p2 : lk HH (N1.n 2) = some (.cells [.int .i64 (kk : Int), .int .i64 (p : Int), .int .i64 (cc : Int)] 3) := by rw [hHH]; simp only [lk_cons, hI1]; rfl
  have p3 : lk HH (N1.n 3) = some (.cells [.pointer (some ⟨N1.n 0, 0, none⟩)] 1) := by rw [hHH]; simp only [lk_cons, hI1]; rfl
  have p4 : lk HH (N1.n 4) = some (.cells [.int .i64 (A : Int)] 1) := by rw [hHH]; simp only [lk_cons, hI1]; rfl
  have p6 : lk HH (N1.n 6) = some (.loop (N1.r 6) .ready) := by rw [hHH]; simp only [lk_cons, hI1]; rfl
  have nb1 := ne_N g1 hlk
  have nbi : ∀ i, N1.n i ≠ b := fun i e => by have := nb1 i; rw [e] at this; simp at this
  have ni : ∀ i j, i ≠ j → N1.n i ≠ N1.n j := fun i j hij e => by
    have := hI1 i j
    rw [e] at this; simp at this; exact hij this
  have hlkH : lk HH b = some (.cells (fl c2 M ++ rest) (c1 * 2)) := fH _ _ hlk
  have hO : ∃ H' N', o = some (.ret (.tuple #[]), H', N') ∧ good B H' N' ∧ (lk H' (N1.n 6) = some (.loop (N1.r 6) .ready) ∧ (∀ y c, y ≠ N1.n 6 → y ≠ N1.n 1 → lk HH y = some c → lk H' y = some c) ∧ ∃ vO, lk H' (N1.n 1) = some (.cells [vO] 1) ∧ SlM w1 1 B HH H' vO (wdsL M A (LG p h))) := by
    rw [← hX, ← hHH]
    refine itLog (J := fun k H' => lk H' (N1.n 6) = some (.loop (N1.r 6) .ready) ∧ (∀ y c, y ≠ N1.n 6 → y ≠ N1.n 1 → lk HH y = some c → lk H' y = some c) ∧ ∃ vO, lk H' (N1.n 1) = some (.cells [vO] 1) ∧ SlM w1 1 B HH H' vO (wdsL M A k)) (kk := kk) (cc := cc) (f := A) (l := N1.n 6) (fb := N1.n 4) (cb := N1.n 2) (mb := N1.n 3) (b := b) (mm := N1.n 0) (len := M.length) (cap := c1) (wd := fun k => (M.getD (A + k) z2).w) hT C ?_ ?_ (hB1 4) (hB1 2) (hB1 3) (hB1 0) (by omega) (by omega) gH ⟨p6, fun _ _ _ _ e => e, _, p1, .inl ⟨rfl, rfl⟩⟩
    · rintro k H2 N2 hk ⟨j6, jp, vO, j1, js⟩ g2
      have hBo := hB1
      have hB := good_B g2
      have hR := good_rdB g2
      have hI := beqN g2.1.1
      have b6 := hBo 6
      have b1 := hBo 1
      have rb1 := fun o n => rdB_none (o := o) (n := n) b1
      have x6 := ne_N g2 j6
      have x6' := ne_N' g2 j6
      have x1 := ne_N g2 j1
      have x1' := ne_N' g2 j1
      have x16 : (N1.n 1 == N1.n 6) = false := by rw [hI1]; rfl
      have x61 : (N1.n 6 == N1.n 1) = false := by rw [hI1]; rfl
      have gb := good_set (k := .loop (N1.r 6) .busy) g2 b6 j6
      have jn := fun y c (e : lk HH y = some c) => js.ne e
      have fb6 : Fr HH HH := Fr.refl
      have jsb : SlM w1 1 B HH ((N1.n 6, .loop (N1.r 6) .busy) :: H2) vO (wdsL M A k) := js.mono fun y c hy e => by
        rw [lk_cons, eqb (fun h' => jn _ _ p6 (by rw [← h']; exact hy)), cond_false]; exact e
      have hDm : Dm HH ((N1.n 6, .loop (N1.r 6) .busy) :: H2) := fun y e => by
        cases hy : lk HH y with
        | none => rfl
        | some c =>
          by_cases h6 : y = N1.n 6
          · rw [h6, lk_top] at e; cases e
          · rw [lk_cons, eqb h6, cond_false] at e
            by_cases h1 : y = N1.n 1
            · rw [h1, j1] at e; cases e
            · rw [jp y c h6 h1 hy] at e; cases e
      have hwl := wdsL_len M A k
      have g3 : good B (((sh N2).n 0, .cells [.int .u64 (M.getD (A + k) z2).w] 1) :: (N1.n 6, .loop (N1.r 6) .busy) :: H2) (sh (sh N2)) := good_new (good_sh gb)
      have g3' : good B ((N2.n 0, .cells [.int .u64 (M.getD (A + k) z2).w] 1) :: (N1.n 6, .loop (N1.r 6) .busy) :: H2) (sh N2) := good_new gb
      have fn : Fr ((N1.n 6, .loop (N1.r 6) .busy) :: H2) ((N2.n 0, .cells [.int .u64 (M.getD (A + k) z2).w] 1) :: (N1.n 6, .loop (N1.r 6) .busy) :: H2) := fr_new gb Fr.refl 0
      obtain ⟨v3, H3, N3, ea, g4, d4, k4, s4, hb4⟩ := app_specM (H0 := HH) (bytes := 8) w1_len g3' (hDm.trans fn.dm) (jsb.mono fun y c _ e => fn y c e) (M.getD (A + k) z2).w rfl (by omega) (by omega)
      simp only [w1] at ea
      have jb1 : lk ((N1.n 6, .loop (N1.r 6) .busy) :: H2) (N1.n 1) = some (.cells [vO] 1) := by rw [lk_cons, x16, cond_false]; exact j1
      have l6 := k4 _ _ (jn _ _ p6) (fn _ _ (lk_top (x := N1.n 6) (k := .loop (N1.r 6) .busy) (H := H2)))
      have l1 := k4 _ _ (jn _ _ p1) (fn _ _ jb1)
      have s5 := s4.toM
      have hvc : vO.cells = #[vO] := by obtain ⟨a, c, rfl, _⟩ := js.rd w1_len; rfl
      obtain ⟨av, cv, rfl, _⟩ := id (s4.rd w1_len)
      have hwd : wdsL M A k ++ [(M.getD (A + k) z2).w] = wdsL M A (k + 1) := rfl
      simp -implicitDefEqProofs (maxSteps := 10000000) (disch := omega) only [TwlogLay, LwlogLay, GwlogLay_cellsStore, GwlogLay_slicesClone_CellCell, GwlogLay_wlogUnpack, GwlogLay_wloglog, Vwloglog, Twloglog, Lwloglog, Gwloglog_10, V10_eq, Gwloglog_13, V13_eq, Gwloglog_7, V7_eq, Gwloglog_wlogwant, Vwlogwant, Twlogwant, Lwlogwant, GwlogLay_wlogwant, DwlogLay_wlogcaught, Uwlogcaught, Lwlogcaught, hB, hR, hI, itR2_wloglog1, List.cons_append, EwlogLay, lenV_sl, Int.toNat_natCast, bft, btf, gtst, st_len, j6, j1, b6, b1, rb1, x6, x6', x1, x1', x16, x61, ea, l6, l1, hvc, pad, lightV, bt, bf, evs, gt, st, binV, arith, isSh, storeV, all1, idxAV, fieldV, faddrV, iaddrSV, iaddrAV, pickV, convV, unV, eqbV, eqpV, extV, mm2, mmV, nilckV, ress, res1, retV, Value.cells, reduceIte, reduceCtorEq, Int.reduceLT, Int.reduceLE, Int.reduceToNat, Int.reduceAdd, Int.reduceSub, Int.reduceMul, Int.reduceNeg, Nat.reduceMul, Nat.reduceAdd, Nat.reduceSub, Nat.reduceBEq, Nat.reduceEqDiff, Nat.reduceLT, Nat.reduceLeDiff, Int.reduceBEq, Int.reduceEq, Nat.reducePow, Int.reducePow, IntWalk.i64_in, IntKind.bits, eqAV, eqL, leafEq, andO, fillV, buildSV, Int.reduceGT, Int.reduceGE, Int.reduceBNe, IntWalk.u64_in, newsV_s, tassV, isnV, slcV, slcAV, slcTV, slcB, appNew, Option.bind_some, Option.bind_none, eqsV, lookV, mupdV, mdelV, mkM, ev1, ev2]
      have nv : ∀ y c, lk HH y = some c → slB (.slice av (wdsL M A k ++ [(M.getD (A + k) z2).w]).length cv) ≠ some y := fun y c e => s5.ne e
      refine ⟨_, _, rfl, good_set (k' := .loop (N1.r 6) .busy) (good_up g4 b1 l1) b6 (by rw [lk_upH, x61, cond_false]; exact l6), lk_top, fun y c h6 h1 e => ?_, .slice av (wdsL M A k ++ [(M.getD (A + k) z2).w]).length cv, ?_, ?_⟩
      · have y6 : (y == N1.n 6) = false := eqb h6
        have y1 : (y == N1.n 1) = false := eqb h1
        rw [lk_cons, y6, cond_false, lk_upH, y1, cond_false]
        exact k4 y c (jn _ _ e) (fn _ _ (by rw [lk_cons, y6, cond_false]; exact jp y c h6 h1 e))
      · rw [lk_cons, x16, cond_false, lk_upH, beq_self_eq_true, cond_true]
      · rw [← hwd]
        refine SlM.mono s5 fun y c hy e => ?_
        rw [lk_cons, eqb (fun h' => nv _ _ p6 (by rw [← h']; exact hy)), cond_false, lk_upH, eqb (fun h' => nv _ _ p1 (by rw [← h']; exact hy)), cond_false]
        exact e
    · rintro k H2 hk ⟨j6, jp, vO, j1, js⟩
      refine ⟨jp _ _ (ni 4 6 (by decide)) (ni 4 1 (by decide)) p4, jp _ _ (ni 2 6 (by decide)) (ni 2 1 (by decide)) p2, jp _ _ (ni 3 6 (by decide)) (ni 3 1 (by decide)) p3, jp _ _ (ni 0 6 (by decide)) (ni 0 1 (by decide)) p0, fun hk2 => ?_⟩
      have hlk2 := jp _ _ (nbi 6).symm (nbi 1).symm hlkH
      rw [rdB_none bb, rdO_none, bb, rdN_none, hlk2, rdL_some, k_cells]
      have := fl_read c2_len M rest (A + k) 0 1 z2 (by omega) (by omega)
      rw [Nat.add_zero] at this
      rw [this]; rfl
  obtain ⟨H2, N2, rfl, g2, j6, jp, vO, j1, js⟩ := hO
  have e2b : N.n 2 ≠ b := fun e => by rw [← e, q2] at h0b; cases h0b
  have e3b : N.n 3 ≠ b := fun e => by rw [← e, q3] at h0b; cases h0b
  have e0b : N.n 0 ≠ b := fun e => by rw [← e, q0] at h0b; cases h0b
  have en2 : ∀ i, N.n 2 ≠ N1.n i := fun i e => by have := m2 i; rw [e] at this; simp at this
  have en3 : ∀ i, N.n 3 ≠ N1.n i := fun i e => by have := m3 i; rw [e] at this; simp at this
  have en0 : ∀ i, N.n 0 ≠ N1.n i := fun i e => by have := m0 i; rw [e] at this; simp at this
  have b16 := hB1 6
  have gp := good_set (k := .loop (N1.r 6) .over) g2 b16 j6
  -- what lies where, behind the range
  have hp : ∀ y c, y ≠ N1.n 6 → y ≠ N1.n 1 → lk HH y = some c → lk ((N1.n 6, .loop (N1.r 6) .over) :: H2) y = some c := fun y c h6 h1 e => by
    rw [lk_cons, eqb h6, cond_false]; exact jp y c h6 h1 e
  have wq2 := hp _ _ (en2 6) (en2 1) (fH _ _ q2')
  have wq3 := hp _ _ (en3 6) (en3 1) (fH _ _ q3')
  have wc := hp _ _ (en0 6) (en0 1) (fH _ _ q0')
  have wq0 := hp _ _ (ni 0 6 (by decide)) (ni 0 1 (by decide)) p0
  have wb := hp _ _ (nbi 6).symm (nbi 1).symm hlkH
  have jsp : SlM w1 1 B HH ((N1.n 6, .loop (N1.r 6) .over) :: H2) vO (wdsL M A (LG p h)) := js.mono fun y c hy e => by
    rw [lk_cons, eqb (fun h' => js.ne p6 (by rw [← h']; exact hy)), cond_false]; exact e
  obtain ⟨v4, H4, N4, e4, g4, r4, s4⟩ := fUnpack hT C gp (jsp.rd w1_len) (wdsL_u hMs A _) (by rw [wdsL_len]; omega)
  have x16 : (N1.n 1 == N1.n 6) = false := by rw [hI1]; rfl
  have b11 := hB1 1
  have rb11 := fun o n => rdB_none (o := o) (n := n) b11
  have b10 := hB1 0
  have rb10 := fun o n => rdB_none (o := o) (n := n) b10
  have u2 := r4 _ _ wq2
  have u3 := r4 _ _ wq3
  have u0 := r4 _ _ wq0
  have ub := r4 _ _ wb
  have y06 : (N.n 0 == N1.n 6) = false := eqb (en0 6)
  have wc2 := jp _ _ (en0 6) (en0 1) (fH _ _ q0')
  have hvc : vO.cells = #[vO] := by obtain ⟨a, c, rfl, _⟩ := jsp.rd w1_len; rfl
  have k4 := ne_N g4 u3
  have k4' := ne_N' g4 u3
  have k42 := ne_N g4 u2
  have n03 : (N1.n 0 == N.n 3) = false := eqb (en3 0).symm
  have f4 : Fr H H4 := fun y c e => by
    have e0 := f0 _ _ e
    have e1 := r1 _ _ e0
    have h6 : y ≠ N1.n 6 := fun h => by have := ne_N g1 e1 6; rw [h] at this; simp at this
    have h1 : y ≠ N1.n 1 := fun h => by have := ne_N g1 e1 1; rw [h] at this; simp at this
    exact r4 _ _ (hp y c h6 h1 (fH _ _ e1))
  have gE := fun k => good_up (k := k) g4 b3 u3
  have fE := fun k => fr_up (k := k) f4 (lk_N hN 3)
  have b4 := good_B g4
  have R4 := good_rdB g4
  by_cases hu : unOk p h (wdsL M A (LG p h))
  case neg =>
    obtain ⟨t1, t2⟩ := un_no hu
    rw [hRn hu, t2]
    rw [t2] at e4
    simp -implicitDefEqProofs (maxSteps := 10000000) (disch := omega) only [TwlogLay, LwlogLay, GwlogLay_cellsStore, GwlogLay_slicesClone_CellCell, GwlogLay_wlogUnpack, GwlogLay_wloglog, Vwloglog, Twloglog, Lwloglog, Gwloglog_10, V10_eq, Gwloglog_13, V13_eq, Gwloglog_7, V7_eq, Gwloglog_wlogwant, Vwlogwant, Twlogwant, Lwlogwant, GwlogLay_wlogwant, DwlogLay_wlogcaught, Uwlogcaught, Lwlogcaught, hB, hR, hI, itR2_wloglog1, List.cons_append, EwlogLay, lenV_sl, Int.toNat_natCast, bft, btf, gtst, st_len, j6, j1, b16, x16, b11, rb11, hvc, y06, wc2, b0, rb0, e4, u2, u3, b2, b3, rb2, rb3, k4, k4', k42, n23, n32, b4, R4, pad, lightV, bt, bf, evs, gt, st, binV, arith, isSh, storeV, all1, idxAV, fieldV, faddrV, iaddrSV, iaddrAV, pickV, convV, unV, eqbV, eqpV, extV, mm2, mmV, nilckV, ress, res1, retV, Value.cells, reduceIte, reduceCtorEq, Int.reduceLT, Int.reduceLE, Int.reduceToNat, Int.reduceAdd, Int.reduceSub, Int.reduceMul, Int.reduceNeg, Nat.reduceMul, Nat.reduceAdd, Nat.reduceSub, Nat.reduceBEq, Nat.reduceEqDiff, Nat.reduceLT, Nat.reduceLeDiff, Int.reduceBEq, Int.reduceEq, Nat.reducePow, Int.reducePow, IntWalk.i64_in, IntKind.bits, eqAV, eqL, leafEq, andO, fillV, buildSV, Int.reduceGT, Int.reduceGE, Int.reduceBNe, IntWalk.u64_in, newsV_s, tassV, isnV, slcV, slcAV, slcTV, slcB, appNew, Option.bind_some, Option.bind_none, eqsV, lookV, mupdV, mdelV, mkM, ev1, ev2]
    refine ⟨_, _, _, rfl, ?_, ?_, .inl ⟨rfl, rfl⟩⟩
    · exact good_new (k := .cells [.int .i64 2] 1) (good_up (k := .cells [.int .i64 2] 1) (gE (.cells [.int .i64 2] 1)) b3 (by rw [lk_upH, beq_self_eq_true, cond_true]))
    · exact fr_new (k := .cells [.int .i64 2] 1) (good_up (k := .cells [.int .i64 2] 1) (gE (.cells [.int .i64 2] 1)) b3 (by rw [lk_upH, beq_self_eq_true, cond_true])) (fr_up (fE (.cells [.int .i64 2] 1)) (lk_N hN 3)) 0
  obtain ⟨t1, t2⟩ := un_ok hu
  rw [hRy hu, t2]
  rw [t2] at e4
  have hin : ∀ i, i < (unR p h (wdsL M A (LG p h))).length → 0 ≤ ((unR p h (wdsL M A (LG p h))).getD i y2).a ∧ ((unR p h (wdsL M A (LG p h))).getD i y2).a < (M.length : Int) := fun i hi => by
    rw [t1] at hi ⊢
    rw [unL_len] at hi
    rw [unL_at _ _ _ hi]
    have := okP_b C (hu.2.2.1 i hi)
    have h5 := hok.2
    simp only; omega
  have hll : (unR p h (wdsL M A (LG p h))).length ≤ 800000 := by
    rw [t1, unL_len]
    have h1 := hu.2.1
    have h2 := C.h
    have h3 := C.p
    unfold unN; omega
  generalize unR p h (wdsL M A (LG p h)) = l at *
  have sl := s4.len
  have hbl : slB v4 ≠ some b := s4.ne wb
  have g5 := gE (.cells [.int .i64 0] 1)
  have sM : SlM c2 2 B H (upH H4 (N.n 3) (.cells [.int .i64 0] 1)) (.slice (some ⟨b, 0, none⟩) M.length c1) M := .inr ⟨b, c1, rest, rfl, bb, f0.dm _ h0b, hle, by rw [lk_upH, eqb e3b.symm, cond_false]; exact ub⟩
  have s5 : SlM w2 2 B ((N1.n 6, .loop (N1.r 6) .over) :: H2) (upH H4 (N.n 3) (.cells [.int .i64 0] 1)) v4 l := s4.mono fun y c hy e => by
    rw [lk_upH, eqb (fun h' => s4.ne wq3 (by rw [← h']; exact hy)), cond_false]; exact e
  simp -implicitDefEqProofs (maxSteps := 10000000) (disch := omega) only [TwlogLay, LwlogLay, GwlogLay_cellsStore, GwlogLay_slicesClone_CellCell, GwlogLay_wlogUnpack, GwlogLay_wloglog, Vwloglog, Twloglog, Lwloglog, Gwloglog_10, V10_eq, Gwloglog_13, V13_eq, Gwloglog_7, V7_eq, Gwloglog_wlogwant, Vwlogwant, Twlogwant, Lwlogwant, GwlogLay_wlogwant, DwlogLay_wlogcaught, Uwlogcaught, Lwlogcaught, hB, hR, hI, itR2_wloglog1, List.cons_append, EwlogLay, lenV_sl, Int.toNat_natCast, bft, btf, gtst, st_len, j6, j1, b16, x16, b11, rb11, hvc, y06, wc2, b0, rb0, e4, u2, u3, b2, b3, rb2, rb3, k4, k4', k42, n23, n32, b4, R4, sl, pad, lightV, bt, bf, evs, gt, st, binV, arith, isSh, storeV, all1, idxAV, fieldV, faddrV, iaddrSV, iaddrAV, pickV, convV, unV, eqbV, eqpV, extV, mm2, mmV, nilckV, ress, res1, retV, Value.cells, reduceIte, reduceCtorEq, Int.reduceLT, Int.reduceLE, Int.reduceToNat, Int.reduceAdd, Int.reduceSub, Int.reduceMul, Int.reduceNeg, Nat.reduceMul, Nat.reduceAdd, Nat.reduceSub, Nat.reduceBEq, Nat.reduceEqDiff, Nat.reduceLT, Nat.reduceLeDiff, Int.reduceBEq, Int.reduceEq, Nat.reducePow, Int.reducePow, IntWalk.i64_in, IntKind.bits, eqAV, eqL, leafEq, andO, fillV, buildSV, Int.reduceGT, Int.reduceGE, Int.reduceBNe, IntWalk.u64_in, newsV_s, tassV, isnV, slcV, slcAV, slcTV, slcB, appNew, Option.bind_some, Option.bind_none, eqsV, lookV, mupdV, mdelV, mkM, ev1, ev2]
  clear hX
  generalize hX : exec B _ _ (LC.loop _) _ = o
  obtain ⟨x, ⟨ts6, H6, N6⟩, ho, rfl, g6, k6, s6, kp⟩ := (show Ok o _ by rw [← hX]; exact loopLy (o6 := N.n 2) (o7 := N.n 3) (ow := N1.n 0) g5 rfl sM hM s5 hbl hll hin (by rw [lk_upH, n03, cond_false]; exact u0) (hB1 0) (nbi 0) ⟨rfl, rfl, rfl, rfl, rfl, rfl, rfl⟩ (by omega))
  subst ho
  simp only at g6 k6 s6 kp
  have v0 := k6 _ _ (nbi 0) (by rw [lk_upH, n03, cond_false]; exact u0)
  have v2 := k6 _ _ e2b (by rw [lk_upH, n23, cond_false]; exact u2)
  have v3 := k6 _ _ e3b (by rw [lk_upH, beq_self_eq_true, cond_true])
  simp -implicitDefEqProofs (maxSteps := 10000000) (disch := omega) only [TwlogLay, LwlogLay, GwlogLay_cellsStore, GwlogLay_slicesClone_CellCell, GwlogLay_wlogUnpack, GwlogLay_wloglog, Vwloglog, Twloglog, Lwloglog, Gwloglog_10, V10_eq, Gwloglog_13, V13_eq, Gwloglog_7, V7_eq, Gwloglog_wlogwant, Vwlogwant, Twlogwant, Lwlogwant, GwlogLay_wlogwant, DwlogLay_wlogcaught, Uwlogcaught, Lwlogcaught, hB, hR, hI, itR2_wloglog1, List.cons_append, EwlogLay, kp.l, kp.t6, kp.t7, kp.t8, kp.t37, kp.t38, kp.t39, lenV_sl, Int.toNat_natCast, bft, btf, gtst, st_len, v0, v2, v3, b10, rb10, b2, rb2, b3, rb3, n23, n32, pad, lightV, bt, bf, evs, gt, st, binV, arith, isSh, storeV, all1, idxAV, fieldV, faddrV, iaddrSV, iaddrAV, pickV, convV, unV, eqbV, eqpV, extV, mm2, mmV, nilckV, ress, res1, retV, Value.cells, reduceIte, reduceCtorEq, Int.reduceLT, Int.reduceLE, Int.reduceToNat, Int.reduceAdd, Int.reduceSub, Int.reduceMul, Int.reduceNeg, Nat.reduceMul, Nat.reduceAdd, Nat.reduceSub, Nat.reduceBEq, Nat.reduceEqDiff, Nat.reduceLT, Nat.reduceLeDiff, Int.reduceBEq, Int.reduceEq, Nat.reducePow, Int.reducePow, IntWalk.i64_in, IntKind.bits, eqAV, eqL, leafEq, andO, fillV, buildSV, Int.reduceGT, Int.reduceGE, Int.reduceBNe, IntWalk.u64_in, newsV_s, tassV, isnV, slcV, slcAV, slcTV, slcB, appNew, Option.bind_some, Option.bind_none, eqsV, lookV, mupdV, mdelV, mkM, ev1, ev2]
  have z2' := good_up (k := .cells [.slice (some ⟨b, 0, none⟩) M.length c1] 1) g6 b2 v2
  have z3 := good_up (k := .cells [.int .i64 0] 1) z2' b3 (by rw [lk_upH, n32, cond_false]; exact v3)
  have f6 : Fr H H6 := fun y c e => by
    have h1 : y ≠ b := fun h => by rw [← h, f0 _ _ e] at h0b; cases h0b
    exact k6 _ _ h1 (fE (.cells [.int .i64 0] 1) _ _ e)
  have fz := fr_up (k := .cells [.int .i64 0] 1) (fr_up (k := .cells [.slice (some ⟨b, 0, none⟩) M.length c1] 1) f6 (lk_N hN 2)) (lk_N hN 3)
  refine ⟨_, _, _, rfl, z3, fz, SlM.mono s6 fun y c hy e => ?_⟩
  have hyb : y = b := by simpa [slB] using hy.symm
  subst hyb
  rw [lk_upH, eqb e3b.symm, cond_false, lk_upH, eqb e2b.symm, cond_false]; exact e
end Go.Proofs.YtfhiplfagejfoaaDoor
namespace Go.Proofs.YtfhiplfagejfoaaDoor
open Go.Proofs.YtfhiplfagejfoaaDoor.K Go.ChangeShapes Go.WideShapes Go.ChangeAt Go.RowKit
set_option maxRecDepth 100000
set_option linter.unusedSimpArgs false
set_option linter.unusedVariables false
theorem wr_c2 {L : List C2} {rest : List Value} {i : Nat} (x : C2) (hi : i < L.length) : wr (fl c2 L ++ rest) (i * 2) [.int .u64 x.w, .int .i64 x.l] = some (fl c2 (L.set i x) ++ rest) := by
  have h1 := wr_fl c2_len L i 0 [.int .u64 x.w, .int .i64 x.l] z2 x hi (by simp) rfl
  rw [Nat.add_zero] at h1
  rw [wr_append_left _ _ _ _ (by rw [fl_length c2_len]; simp; omega), h1]; rfl
theorem slm_elim {B : OH} {H0 H : HL} {v : Value} {L : List C2} (h : SlM c2 2 B H0 H v L) (hL : 0 < L.length) : ∃ b cap rest, v = .slice (some ⟨b, 0, none⟩) L.length cap ∧ B b = none ∧ lk H0 b = none ∧ L.length ≤ cap ∧ lk H b = some (.cells (fl c2 L ++ rest) (cap * 2)) := by
  rcases h with ⟨h0, _⟩ | h
  · rw [h0] at hL; simp at hL
  · exact h
end Go.Proofs.YtfhiplfagejfoaaDoor
