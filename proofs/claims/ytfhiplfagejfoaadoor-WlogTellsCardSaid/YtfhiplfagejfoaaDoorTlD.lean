/- Own text: the log of writes, part TlD: contracts of the functions that the laws of the log call. -/
import Derived.Test.YtfhiplfagejfoaaDoorTlC
set_option linter.unusedSimpArgs false
set_option linter.unusedVariables false
namespace Go.Proofs.YtfhiplfagejfoaaDoor
open Go.Proofs.YtfhiplfagejfoaaDoor.K Go.ChangeShapes Go.WideShapes Go.ChangeAt Go.RowKit 
set_option maxRecDepth 100000
set_option linter.unusedSimpArgs false
set_option linter.unusedVariables false
structure RdL (B : OH) (kk p cc f n : Nat) (fb cb mb mm b len cap : Nat) (wd : Nat → Int) (k : Nat) (H : HL) : Prop where
  lf : lk H fb = some (.cells [.int .i64 (f : Int)] 1)
  lc : lk H cb = some (.cells [.int .i64 (kk : Int), .int .i64 (p : Int), .int .i64 (cc : Int)] 3)
  lm : lk H mb = some (.cells [.pointer (some ⟨mm, 0, none⟩)] 1)
  lv : lk H mm = some (.cells [.slice (some ⟨b, 0, none⟩) len cap] 1)
  rd : k < n → rdO H B b ((f + k) * 2) 1 (rdB B b ((f + k) * 2) 1) = some [.int .u64 (wd k)]
def Lwloglog1 : FnL := ⟨(.seq (.ops [⟨(some 6), .load false 1 (.tmp 1), none⟩, ⟨(some 5), .mv (.tmp 6), none⟩])
 (.block 0 (.loop (.seq (.seq (.draw [⟨⟨(some 7), .mv (.tmp 5), none⟩, []⟩, ⟨⟨(some 8), .load false 1 (.tmp 1), none⟩, []⟩, ⟨⟨(some 9), .load true 3 (.tmp 2), none⟩, []⟩, ⟨⟨(some 10), .call (.func 30) [(.tmp 9)], none⟩, [⟨(some 8), .load false 1 (.tmp 1), none⟩]⟩, ⟨⟨(some 11), .bin .add (.tmp 8) (.tmp 10), none⟩, []⟩, ⟨⟨(some 12), .bin .lss (.tmp 7) (.tmp 11), none⟩, []⟩])
 (.cond (.tmp 12) .skip
 (.exit 0)))
 (.seq (.block 1 (.seq (.ops [⟨(some 15), .mv (.tmp 0), none⟩, ⟨(some 16), .mv (.tmp 5), none⟩, ⟨(some 17), .load false 1 (.tmp 3), none⟩, ⟨(some 18), .nilck (.tmp 17), none⟩, ⟨(some 19), .faddr 0 (.tmp 18), none⟩, ⟨(some 20), .load false 1 (.tmp 19), none⟩, ⟨(some 21), .mv (.tmp 5), none⟩, ⟨(some 22), .iaddrS 2 (.tmp 20) (.tmp 21), none⟩, ⟨(some 23), .faddr 0 (.tmp 22), none⟩, ⟨(some 24), .load false 1 (.tmp 23), none⟩, ⟨(some 25), .call (.tmp 15) [(.tmp 16), (.tmp 24)], none⟩, ⟨(some 26), .un .not (.tmp 25), none⟩])
 (.cond (.tmp 26) .ret
 .skip)))
 (.ops [⟨(some 13), .mv (.tmp 5), none⟩, ⟨(some 14), .bin .add (.tmp 13) (.const (.int .i64 1)), none⟩, ⟨(some 5), .mv (.tmp 14), none⟩])))))),
 27, []⟩
theorem lowwloglog1 : lowerFn Tryd.prog Tryd.f64 = some Lwloglog1 := by kernel_rfl
noncomputable def Gwloglog1 (B : OH) : Nat → Cs
  | 30 => V11 B
  | _ => fun _ _ _ => none
theorem Gwloglog1_11 {B : OH} : Gwloglog1 B 30 = V11 B := rfl
theorem enwloglog1 : Enter Tryd.prog 64 := .of Tryd.func64 (by kernel_rfl) (by kernel_rfl)
noncomputable abbrev Ewloglog1 (B : OH) (Y : Nat → Cs) : Env := { f := Gwloglog1 B, y := Y }
noncomputable def Iwloglog1 (B : OH) (Y : Nat → Cs) : Cs := callF B (Ewloglog1 B Y) 1000000 Lwloglog1
theorem sIwloglog1 {w0 : World} {B : OH} (Y : Nat → Cs) (hY : SoundY Tryd.prog w0 B Y) : SoundC Tryd.prog w0 B 64 (Iwloglog1 B Y) :=
  callF_sound mixedOrders ⟨fun k => by
    show (∀ args H N, Gwloglog1 B k args H N = none) ∨ _
    unfold Gwloglog1
    split
    · exact .inr ⟨en11, sV11⟩
    · exact .inl fun _ _ _ => rfl, hY, fun _ => .inl fun _ _ _ _ => rfl⟩ 1000000 Tryd.func64 lowwloglog1
structure KLg (lp fb cb mb f k : Nat) (ts : List Value) : Prop where
  l : ts.length = 27
  t0 : gt ts 0 = .func (.yield lp) #[] #[]
  t1 : gt ts 1 = .pointer (some ⟨fb, 0, none⟩)
  t2 : gt ts 2 = .pointer (some ⟨cb, 0, none⟩)
  t3 : gt ts 3 = .pointer (some ⟨mb, 0, none⟩)
  t5 : gt ts 5 = .int .i64 ((f + k : Nat) : Int)
set_option maxHeartbeats 8000000 in
theorem itLog {B : OH} {Y : Nat → Cs} {l kk p cc h f fb cb mb mm b len cap : Nat} {wd : Nat → Int} {J : Nat → HL → Prop} (hT : Tab B) (C : Cf kk p cc h)
    (hY : ∀ k H N, k < LG p h → J k H → good B H N → ∃ H' N', Y l [.int .i64 ((f + k : Nat) : Int), .int .u64 (wd k)] H N = some (.ret (.bool true), H', N') ∧ good B H' N' ∧ J (k + 1) H')
    (hJ : ∀ k H, k ≤ LG p h → J k H → RdL B kk p cc f (LG p h) fb cb mb mm b len cap wd k H)
    (bf : B fb = none) (bc : B cb = none) (bm : B mb = none) (bv : B mm = none) (hlen : f + LG p h ≤ len) (hlen2 : len ≤ 900000)
    {H : HL} {N : St} (hN : good B H N) (j0 : J 0 H) :
    ∃ H' N', Iwloglog1 B Y [.func (.yield l) #[] #[], .pointer (some ⟨fb, 0, none⟩), .pointer (some ⟨cb, 0, none⟩), .pointer (some ⟨mb, 0, none⟩)] H N = some (.ret (.tuple #[]), H', N') ∧ good B H' N' ∧ J (LG p h) H' := by
  have hB := good_B hN
  have hR := good_rdB hN
  have hI := beqN hN.1.1
  have rf := fun o n => rdB_none (o := o) (n := n) bf
  have rc := fun o n => rdB_none (o := o) (n := n) bc
  have rm := fun o n => rdB_none (o := o) (n := n) bm
  have rv := fun o n => rdB_none (o := o) (n := n) bv
  have q0 := hJ 0 H (by omega) j0
  have lf0 := q0.lf
  simp -implicitDefEqProofs (maxSteps := 10000000) (disch := omega) only [Iwloglog1, Lwloglog1, Gwloglog1_11, V11_eq, hB, hR, hI, lf0, bf, rf, bt, bf, all1, ress, res1, retV, Value.cells, reduceIte, reduceCtorEq, Int.reduceLT, Int.reduceLE, Int.reduceToNat, Int.reduceAdd, Int.reduceSub, Int.reduceMul, Int.reduceNeg, Nat.reduceMul, Nat.reduceAdd, Nat.reduceSub, Nat.reduceBEq, Nat.reduceEqDiff, Nat.reduceLT, Nat.reduceLeDiff, Int.reduceBEq, Int.reduceEq, Nat.reducePow, Int.reducePow, Int.reduceGT, Int.reduceGE, Int.reduceBNe, newsV_s, ev1, ev2, ev3, ev4]
  generalize hX : exec B _ _ (LC.loop _) _ = o
  have hO : Ok o (fun x s => x = .exit 0 ∧ good B s.H s.N ∧ J (LG p h) s.H) := by
    rw [← hX]
    refine loop_rule (n0 := 100) (fun q s => ∃ ts H' N', ∃ k : Nat, s = ⟨ts, H', N'⟩ ∧ KLg l fb cb mb f k ts ∧ good B H' N' ∧ J k H' ∧ k ≤ LG p h ∧ q = LG p h - k) _ ?_ (LG p h) _ ⟨_, H, N, 0, rfl, ⟨rfl, rfl, rfl, rfl, rfl, rfl⟩, hN, j0, by omega, rfl⟩ _ (by omega)
    clear hX hB hR hI
    rintro z q s ⟨ts, H1, N1, k, rfl, kp, g, j1, hk, rfl⟩
    have hB := good_B g
    have hR := good_rdB g
    have hI := beqN g.1.1
    obtain ⟨lf, lc, lm, lv, rd⟩ := hJ k H1 hk j1
    have e1 := f11c ⟨H1, N1, g⟩ hT C
    have hc1 : ((f + (k + 1) : Nat) : Int) = ((f + k : Nat) : Int) + 1 := by omega
    have hw : IntKind.i64.wrap ((f : Int) + (LG p h : Int)) = (f : Int) + (LG p h : Int) := IntWalk.i64_in _ (by omega)
    by_cases hin : k < LG p h
    case neg =>
      have h' : ¬ ((f + k : Nat) : Int) < (f : Int) + (LG p h : Int) := by omega
      simp -implicitDefEqProofs (maxSteps := 10000000) (disch := omega) only [Iwloglog1, Lwloglog1, Gwloglog1_11, V11_eq, hB, hR, hI, kp.l, kp.t0, kp.t1, kp.t2, kp.t3, kp.t5, lf, lc, bf, bc, rf, rc, e1, hw, h', bt, bf, all1, ress, res1, retV, Value.cells, reduceIte, reduceCtorEq, Int.reduceLT, Int.reduceLE, Int.reduceToNat, Int.reduceAdd, Int.reduceSub, Int.reduceMul, Int.reduceNeg, Nat.reduceMul, Nat.reduceAdd, Nat.reduceSub, Nat.reduceBEq, Nat.reduceEqDiff, Nat.reduceLT, Nat.reduceLeDiff, Int.reduceBEq, Int.reduceEq, Nat.reducePow, Int.reducePow, Int.reduceGT, Int.reduceGE, Int.reduceBNe, newsV_s, ev1, ev2, ev3, ev4]
      obtain rfl : k = LG p h := by omega
      exact ok_some (.inr ⟨by simp, rfl, g, j1⟩)
    have h' : ((f + k : Nat) : Int) < (f : Int) + (LG p h : Int) := by omega
    have rd := rd hin
    have i0 : (0 : Int) ≤ ((f + k : Nat) : Int) := by omega
    have il : f + k < len := by omega
    obtain ⟨H2, N2, ey, g2, j2⟩ := hY k H1 N1 hin j1 g
    simp -implicitDefEqProofs (maxSteps := 10000000) (disch := omega) only [Iwloglog1, Lwloglog1, Gwloglog1_11, V11_eq, hB, hR, hI, kp.l, kp.t0, kp.t1, kp.t2, kp.t3, kp.t5, lf, lc, lm, lv, bf, bc, bm, bv, rf, rc, rm, rv, e1, hw, h', i0, il, rd, ey, bt, bf, all1, ress, res1, retV, Value.cells, reduceIte, reduceCtorEq, Int.reduceLT, Int.reduceLE, Int.reduceToNat, Int.reduceAdd, Int.reduceSub, Int.reduceMul, Int.reduceNeg, Nat.reduceMul, Nat.reduceAdd, Nat.reduceSub, Nat.reduceBEq, Nat.reduceEqDiff, Nat.reduceLT, Nat.reduceLeDiff, Int.reduceBEq, Int.reduceEq, Nat.reducePow, Int.reducePow, Int.reduceGT, Int.reduceGE, Int.reduceBNe, newsV_s, ev1, ev2, ev3, ev4]
    refine ok_some (.inl ⟨rfl, LG p h - (k + 1), by omega, _, H2, N2, k + 1, rfl, ⟨?_, ?_, ?_, ?_, ?_, ?_⟩, g2, j2, by omega, rfl⟩)
    all_goals simp (maxSteps := 10000000) (disch := omega) only [kp.l, kp.t0, kp.t1, kp.t2, kp.t3, kp.t5, lenV_sl, Int.toNat_natCast, bft, btf, gtst, st_len, hc1, Nat.reduceAdd, Int.cast_ofNat_Int, Nat.reduceBEq, Nat.reduceLT, decide_true, ev2]
  obtain ⟨x, ⟨ts, H1, N1⟩, rfl, rfl, g1, j1⟩ := hO
  simp only at g1 j1
  simp -implicitDefEqProofs (maxSteps := 10000000) (disch := omega) only [Iwloglog1, Lwloglog1, Gwloglog1_11, V11_eq, hB, hR, hI, retV, bt, bf, all1, ress, res1, retV, Value.cells, reduceIte, reduceCtorEq, Int.reduceLT, Int.reduceLE, Int.reduceToNat, Int.reduceAdd, Int.reduceSub, Int.reduceMul, Int.reduceNeg, Nat.reduceMul, Nat.reduceAdd, Nat.reduceSub, Nat.reduceBEq, Nat.reduceEqDiff, Nat.reduceLT, Nat.reduceLeDiff, Int.reduceBEq, Int.reduceEq, Nat.reducePow, Int.reducePow, Int.reduceGT, Int.reduceGE, Int.reduceBNe, newsV_s, ev1, ev2, ev3, ev4]
  exact ⟨_, _, rfl, g1, j1⟩
noncomputable def itR2 (B : OH) : Nat → (Nat → Cs) → Cs
  | 68 => I17 B
  | 64 => Iwloglog1 B
  | _ => fun _ _ _ _ => none
theorem itR2_wloglog1 {B : OH} : itR2 B 64 = Iwloglog1 B := rfl
theorem sitR2 {w0 : World} {B : OH} : ∀ k, (∀ Y args H N, itR2 B k Y args H N = none) ∨ (Enter Tryd.prog k ∧ ∀ Y, SoundY Tryd.prog w0 B Y → SoundC Tryd.prog w0 B k (itR2 B k Y)) := fun k => by
  unfold itR2
  split
  · exact .inr ⟨en17, sI17⟩
  · exact .inr ⟨enwloglog1, sIwloglog1⟩
  · exact .inl fun _ _ _ _ => rfl
end Go.Proofs.YtfhiplfagejfoaaDoor
namespace Go.Proofs.YtfhiplfagejfoaaDoor
open Go.Proofs.YtfhiplfagejfoaaDoor.K Go.ChangeShapes Go.WideShapes Go.ChangeAt Go.RowKit 
set_option maxRecDepth 100000
set_option linter.unusedSimpArgs false
set_option linter.unusedVariables false
def wiped (M : List C2) (a : Nat) : Nat → List C2
  | 0 => M
  | n + 1 => (wiped M a n).set (a + n) z2
theorem wiped_len (M : List C2) (a : Nat) : ∀ n, (wiped M a n).length = M.length
  | 0 => rfl
  | n + 1 => by simp [wiped, wiped_len M a n]
theorem wiped_at (M : List C2) (a : Nat) : ∀ n i, a + n ≤ M.length → (wiped M a n).getD i z2 = if a ≤ i ∧ i < a + n then z2 else M.getD i z2
  | 0, i, _ => by rw [if_neg (by omega)]; rfl
  | n + 1, i, h => by
    have hl := wiped_len M a n
    have ih := wiped_at M a n i (by omega)
    simp only [wiped]
    rw [getD_set _ _ _ _ _ (by omega)]
    by_cases e : a + n = i
    · rw [if_pos e, if_pos (by omega)]
    · rw [if_neg e, ih]
      by_cases h1 : a ≤ i ∧ i < a + n
      · rw [if_pos h1, if_pos (by omega)]
      · rw [if_neg h1, if_neg (by omega)]
def memOk (p h : Nat) (q : Int) (M : List C2) : Prop := (0 ≤ q ∧ q < (p : Int)) ∧ M.length = bs p h 5
instance (p h : Nat) (q : Int) (M : List C2) : Decidable (memOk p h q M) := by unfold memOk; exact inferInstance
def lgA (p h : Nat) (q : Int) : Nat := bs p h 3 + LG p h * q.toNat
theorem lgA_b {kk p cc h : Nat} (C : Cf kk p cc h) {q : Int} {M : List C2} (H : memOk p h q M) : lgA p h q + LG p h ≤ M.length ∧ M.length ≤ 35000 := by
  have h1 := lgq_b C (q := q.toNat) (by have := H.1; omega)
  have h2 := bs4_5 (p := p) (h := h)
  have h3 := bs5_b C
  have h4 := H.2
  unfold lgA; omega
def wipE (p h : Nat) (q : Int) (M : List C2) : Int := if memOk p h q M then 0 else 1
def wipR (p h : Nat) (q : Int) (M : List C2) : List C2 := if memOk p h q M then wiped M (lgA p h q) (LG p h) else []
def Lwloglog : FnL := ⟨(.seq (.ops [⟨(some 3), .box (.tmp 0), none⟩, ⟨(some 4), .box (.tmp 1), none⟩, ⟨(some 6), .mv (.const .nilFunc), none⟩])
 (.seq (.ops [⟨(some 9), .load true 3 (.tmp 3), none⟩, ⟨(some 10), .call (.func 45) [(.tmp 9)], none⟩, ⟨(some 11), .call (.func 44) [(.tmp 10), (.const (.int .i64 5))], none⟩])
 (.seq (.ops [⟨(some 13), .load true 3 (.tmp 3), none⟩, ⟨(some 14), .mv (.tmp 2), none⟩, ⟨(some 15), .call (.func 31) [(.tmp 13), (.const (.int .i64 3)), (.tmp 14)], none⟩, ⟨(some 12), .mv (.tmp 15), none⟩, ⟨(some 16), .ext (.tmp 12) 0, none⟩, ⟨(some 17), .ext (.tmp 12) 1, none⟩, ⟨(some 7), .alloc [(.int .i64 0)], none⟩, ⟨none, .store 1 (.tmp 7) (.tmp 16), none⟩, ⟨(some 8), .mv (.tmp 17), none⟩])
 (.seq (.draw [⟨⟨(some 18), .mv (.tmp 8), none⟩, []⟩, ⟨⟨(some 19), .bin .eql (.tmp 18) (.const (.int .i64 0)), none⟩, []⟩, ⟨⟨(some 20), .mv (.tmp 19), none⟩, []⟩, ⟨⟨(some 21), .load false 1 (.tmp 4), (some (20, true))⟩, []⟩, ⟨⟨(some 22), .nilck (.tmp 21), (some (20, true))⟩, []⟩, ⟨⟨(some 23), .faddr 0 (.tmp 22), (some (20, true))⟩, []⟩, ⟨⟨(some 24), .load false 1 (.tmp 23), (some (20, true))⟩, []⟩, ⟨⟨(some 25), .len false (.tmp 24), (some (20, true))⟩, []⟩, ⟨⟨(some 26), .load true 3 (.tmp 3), (some (20, true))⟩, []⟩, ⟨⟨(some 27), .call (.func 41) [(.tmp 26)], (some (20, true))⟩, [⟨(some 21), .load false 1 (.tmp 4), (some (20, true))⟩, ⟨(some 24), .load false 1 (.tmp 23), (some (20, true))⟩]⟩, ⟨⟨(some 28), .bin .eql (.tmp 25) (.tmp 27), (some (20, true))⟩, []⟩, ⟨⟨(some 29), .pick (.tmp 20) (.tmp 28) (.const (.bool false)), none⟩, []⟩, ⟨⟨(some 30), .call (.func 44) [(.tmp 29), (.const (.int .i64 1))], none⟩, []⟩])
 (.seq (.ops [⟨(some 31), .fn (.func 64) [] [(.tmp 7), (.tmp 3), (.tmp 4)], none⟩, ⟨(some 6), .mv (.tmp 31), none⟩])
 .ret))))),
 32, [.tmp 6]⟩
theorem lowwloglog : lowerFn Tryd.prog Tryd.f51 = some Lwloglog := by kernel_rfl
noncomputable def Gwloglog (B : OH) : Nat → Cs
  | 31 => V10 B
  | 45 => V13 B
  | 41 => V7 B
  | 44 => Vwlogwant B
  | _ => fun _ _ _ => none
theorem Gwloglog_10 {B : OH} : Gwloglog B 31 = V10 B := rfl
theorem Gwloglog_13 {B : OH} : Gwloglog B 45 = V13 B := rfl
theorem Gwloglog_7 {B : OH} : Gwloglog B 41 = V7 B := rfl
theorem Gwloglog_wlogwant {B : OH} : Gwloglog B 44 = Vwlogwant B := rfl
theorem sGwloglog {w0 : World} {B : OH} : SoundG Tryd.prog w0 B { f := Gwloglog B } := .of fun k => by
  unfold Gwloglog
  split
  · exact .inr ⟨en10, sV10⟩
  · exact .inr ⟨en13, sV13⟩
  · exact .inr ⟨en7, sV7⟩
  · exact .inr ⟨enwlogwant, sVwlogwant⟩
  · exact .inl fun _ _ _ => rfl
theorem enwloglog : Enter Tryd.prog 51 := .of Tryd.func51 (by kernel_rfl) (by kernel_rfl)
noncomputable def Twloglog (B : OH) : Cs := callF B { f := Gwloglog B } 1000000 Lwloglog
theorem sTwloglog {w0 : World} {B : OH} : SoundC Tryd.prog w0 B 51 (Twloglog B) := callF_sound mixedOrders sGwloglog 1000000 Tryd.func51 lowwloglog
noncomputable def Vwloglog (B : OH) : Cs := Twloglog B
theorem sVwloglog {w0 : World} {B : OH} : SoundC Tryd.prog w0 B 51 (Vwloglog B) := sTwloglog
def LgW : FnD := ⟨(.ops [⟨(some 3), .box (.tmp 0), none⟩, ⟨(some 4), .box (.tmp 1), none⟩, ⟨(some 6), .alloc [(.slice none 0 0)], none⟩, ⟨(some 7), .alloc [(.int .i64 0)], none⟩]), 43, [(.tmp 7)], (.seq (.ops [⟨(some 10), .faddr 0 (.tmp 4), none⟩, ⟨(some 11), .load false 1 (.tmp 10), none⟩, ⟨(some 12), .call (.func 50) [(.tmp 11)], none⟩, ⟨(some 13), .build [(.slice none 0 0)] [(0, 1, (.tmp 12))], none⟩, ⟨(some 8), .alloc [(.slice none 0 0)], none⟩, ⟨none, .store 1 (.tmp 8) (.tmp 13), none⟩])
 (.seq (.seq (.ops [⟨(some 14), .load true 3 (.tmp 3), none⟩, ⟨(some 15), .mv (.tmp 2), none⟩, ⟨(some 16), .call (.func 51) [(.tmp 14), (.tmp 8), (.tmp 15)], none⟩])
 (.block 0 (.range (.tmp 16) [17, 18] (.ops [⟨(some 9), .mv (.tmp 17), none⟩])
 (.block 1 (.ops [⟨(some 19), .mv (.tmp 9), none⟩, ⟨(some 20), .call (.func 52) [(.tmp 8), (.tmp 19), (.const (.int .u64 0))], none⟩])))))
 (.seq (.ops [⟨(some 21), .load true 1 (.tmp 8), none⟩, ⟨none, .store 1 (.tmp 6) (.tmp 21), none⟩, ⟨none, .store 1 (.tmp 7) (.const (.int .i64 0)), none⟩])
 .ret))),
 22, [.cell 6 true 1, .cell 7 false 1]⟩
theorem lowgW : lowerDfr Tryd.prog Tryd.f26 = some LgW := by kernel_rfl
noncomputable def GgW (B : OH) : Nat → Cs
  | 52 => VcellsStore B
  | 50 => VsCl B
  | 51 => Vwloglog B
  | _ => fun _ _ _ => none
theorem GgW_cellsStore {B : OH} : GgW B 52 = VcellsStore B := rfl
theorem GgW_sCl {B : OH} : GgW B 50 = VsCl B := rfl
theorem GgW_wloglog {B : OH} : GgW B 51 = Vwloglog B := rfl
noncomputable abbrev EgW (B : OH) : Env := { f := GgW B, it := itR2 B }
theorem sGgW {w0 : World} {B : OH} : SoundG Tryd.prog w0 B (EgW B) :=
  ⟨fun k => by
    show (∀ args H N, GgW B k args H N = none) ∨ _
    unfold GgW
    split
    · exact .inr ⟨encellsStore, sVcellsStore⟩
    · exact .inr ⟨ensCl, sVsCl⟩
    · exact .inr ⟨enwloglog, sVwloglog⟩
    · exact .inl fun _ _ _ => rfl, fun _ => .inl fun _ _ _ => rfl, sitR2⟩
theorem engW : Enter Tryd.prog 26 := .of Tryd.func26 (by kernel_rfl) (by kernel_rfl)
noncomputable def DgW (B : OH) : Nat → Ds
  | 43 => Uwlogcaught B
  | _ => fun _ _ _ _ => none
theorem DgW_wlogcaught {B : OH} : DgW B 43 = Uwlogcaught B := rfl
noncomputable def TgW (B : OH) : Cs := callD B (EgW B) (DgW B) 1000000 LgW
theorem sTgW {w0 : World} {B : OH} : SoundC Tryd.prog w0 B 26 (TgW B) := callD_sound mixedOrders sGgW 1000000 Tryd.func26 lowgW enwlogcaught sUwlogcaught
noncomputable def VgW (B : OH) : Cs := TgW B
theorem sVgW {w0 : World} {B : OH} : SoundC Tryd.prog w0 B 26 (VgW B) := sTgW
set_option maxHeartbeats 8000000 in
theorem fWipe {B : OH} {H : HL} {N : St} {vm : Value} {M : List C2} {kk p cc h : Nat} {q : Int} (hT : Tab B) (C : Cf kk p cc h) (hN : good B H N) (hv : SlW c2 2 B H vm M) (hM : M.length ≤ 800000) :
    ∃ v' H' N', VgW B [.agg #[.int .i64 (kk : Int), .int .i64 (p : Int), .int .i64 (cc : Int)], .agg #[vm], .int .i64 q] H N = some (.ret (.tuple #[.agg #[v'], .int .i64 (wipE p h q M)]), H', N') ∧ good B H' N' ∧ Fr H H' ∧ SlM c2 2 B H H' v' (wipR p h q M) := by
  have hB := good_B hN
  have hR := good_rdB hN
  have hI := beqN hN.1.1
  have hG : ∃ H N, good B H N := ⟨H, N, hN⟩
  have e1 := f13 hG kk p cc (cfit C).1 (cfit C).2.1 (cfit C).2.2
  have e2 := f7c hG hT C
  have ne : ∀ i j, i ≠ j → N.n i ≠ N.n j := fun i j hij e => by
    have := hI i j
    rw [e] at this; simp at this; exact hij this
  obtain ⟨am, cm, rfl, _⟩ := id hv
  obtain ⟨H0, hH0⟩ : ∃ H0, H0 = (N.n 3, KB.cells [.int .i64 0] 1) :: (N.n 2, .cells [.slice none 0 0] 1) :: (N.n 1, .cells [.slice am M.length cm] 1) :: (N.n 0, .cells [.int .i64 (kk : Int), .int .i64 (p : Int), .int .i64 (cc : Int)] 3) :: H := ⟨_, rfl⟩
  have g0 : good B H0 (sh (sh (sh (sh N)))) := by rw [hH0]; exact good_new (good_new (good_new (good_new hN)))
  have f0 : Fr H H0 := by
    rw [hH0]
    have a1 := good_new (k := .cells [.int .i64 (kk : Int), .int .i64 (p : Int), .int .i64 (cc : Int)] 3) hN
    have a2 := good_new (k := .cells [.slice am M.length cm] 1) a1
    have a3 := good_new (k := .cells [.slice none 0 0] 1) a2
    exact fr_new a3 (fr_new a2 (fr_new a1 (fr_new hN Fr.refl 0) 0) 0) 0
  have q2 : lk H0 (N.n 2) = some (.cells [.slice none 0 0] 1) := by rw [hH0]; simp only [lk_cons, hI]; rfl
  have q3 : lk H0 (N.n 3) = some (.cells [.int .i64 0] 1) := by rw [hH0]; simp only [lk_cons, hI]; rfl
  have q0 : lk H0 (N.n 0) = some (.cells [.int .i64 (kk : Int), .int .i64 (p : Int), .int .i64 (cc : Int)] 3) := by rw [hH0]; simp only [lk_cons, hI]; rfl
  obtain ⟨v', H1, N1, ec, g1, r1, s1⟩ := clone g0 (hv.mono f0) (by omega)
  have q2' := r1 _ _ q2
  have q3' := r1 _ _ q3
  have q0' := r1 _ _ q0
  have b0 := hB 0
  have b2 := hB 2
  have b3 := hB 3
  have rb0 := fun o n => rdB_none (o := o) (n := n) b0
  have rb2 := fun o n => rdB_none (o := o) (n := n) b2
  have rb3 := fun o n => rdB_none (o := o) (n := n) b3
  have hB1 := good_B g1
  have hR1 := good_rdB g1
  have hI1 := beqN g1.1.1
  have m0 := ne_N g1 q0'
  have m0' := ne_N' g1 q0'
  have m2 := ne_N g1 q2'
  have m2' := ne_N' g1 q2'
  have m3 := ne_N g1 q3'
  have m3' := ne_N' g1 q3'
  have s1l := s1.len
  obtain ⟨a1, c1, rfl, _⟩ := id (s1.rd c2_len)
  have n23 : (N.n 2 == N.n 3) = false := by rw [hI]; rfl
  have n32 : (N.n 3 == N.n 2) = false := by rw [hI]; rfl
  rw [hH0] at ec
  unfold VgW
  by_cases hok : memOk p h q M
  case neg =>
    have hE : wipE p h q M = 1 := if_neg hok
    have hRR : wipR p h q M = [] := if_neg hok
    rw [hE, hRR]
    have hfin : ∀ (w : Nat → KB), True := fun _ => trivial
    by_cases hq : 0 ≤ q ∧ q < (p : Int)
    · have hl : ((M.length : Int) == ((bs p h 5 : Nat) : Int)) = false := beqI (fun e => hok ⟨hq, by omega⟩)
      obtain ⟨n, rfl⟩ : ∃ n : Nat, q = (n : Int) := ⟨q.toNat, by omega⟩
      have e3 := f10c3 hG hT C (q := n) (by omega)
      simp -implicitDefEqProofs (maxSteps := 10000000) (disch := omega) only [TgW, LgW, GgW_cellsStore, GgW_sCl, GgW_wloglog, Vwloglog, Twloglog, Lwloglog, Gwloglog_10, V10_eq, Gwloglog_13, V13_eq, Gwloglog_7, V7_eq, Gwloglog_wlogwant, Vwlogwant, Twlogwant, Lwlogwant, DgW_wlogcaught, Uwlogcaught, Lwlogcaught, hB, hR, hI, itR2_wloglog1, List.cons_append, EgW, e1, e2, e3, ec, q0', q2', q3', b0, b2, b3, rb0, rb2, rb3, hB1, hR1, hI1, m0, m0', m2, m2', m3, m3', n23, n32, hl, bt, bf, all1, ress, res1, retV, Value.cells, reduceIte, reduceCtorEq, Int.reduceLT, Int.reduceLE, Int.reduceToNat, Int.reduceAdd, Int.reduceSub, Int.reduceMul, Int.reduceNeg, Nat.reduceMul, Nat.reduceAdd, Nat.reduceSub, Nat.reduceBEq, Nat.reduceEqDiff, Nat.reduceLT, Nat.reduceLeDiff, Int.reduceBEq, Int.reduceEq, Nat.reducePow, Int.reducePow, Int.reduceGT, Int.reduceGE, Int.reduceBNe, newsV_s, ev1, ev2, ev3, ev4]
      refine ⟨_, _, _, rfl, ?_, ?_, .inl ⟨rfl, rfl⟩⟩
      · exact (good_new (k := .cells [.int .i64 1] 1) (good_up (k := .cells [.int .i64 1] 1) (good_new (good_new (good_new (good_new g1)))) b3 (by simp only [lk_cons, sh_app, m3, cond_false]; exact q3'))) |> fun h => by simpa only [upH_cons, sh_app, m3, cond_false] using h
      · exact (fr_new (k := .cells [.int .i64 1] 1) (good_up (k := .cells [.int .i64 1] 1) (good_new (good_new (good_new (good_new g1)))) b3 (by simp only [lk_cons, sh_app, m3, cond_false]; exact q3')) (fr_up (fr_new (good_new (good_new (good_new g1))) (fr_new (good_new (good_new g1)) (fr_new (good_new g1) (fr_new g1 (f0.trans r1) 0) 0) 0) 0) (lk_N hN 3)) 0) |> fun h => by simpa only [upH_cons, sh_app, m3, cond_false] using h
    · have e3 := f10o hG C q (by omega)
      have h10 : ((1 : Int) == 0) = false := rfl
      simp -implicitDefEqProofs (maxSteps := 10000000) (disch := omega) only [TgW, LgW, GgW_cellsStore, GgW_sCl, GgW_wloglog, Vwloglog, Twloglog, Lwloglog, Gwloglog_10, V10_eq, Gwloglog_13, V13_eq, Gwloglog_7, V7_eq, Gwloglog_wlogwant, Vwlogwant, Twlogwant, Lwlogwant, DgW_wlogcaught, Uwlogcaught, Lwlogcaught, hB, hR, hI, itR2_wloglog1, List.cons_append, EgW, e1, e2, e3, ec, q0', q2', q3', b0, b2, b3, rb0, rb2, rb3, hB1, hR1, hI1, m0, m0', m2, m2', m3, m3', n23, n32, h10, bt, bf, all1, ress, res1, retV, Value.cells, reduceIte, reduceCtorEq, Int.reduceLT, Int.reduceLE, Int.reduceToNat, Int.reduceAdd, Int.reduceSub, Int.reduceMul, Int.reduceNeg, Nat.reduceMul, Nat.reduceAdd, Nat.reduceSub, Nat.reduceBEq, Nat.reduceEqDiff, Nat.reduceLT, Nat.reduceLeDiff, Int.reduceBEq, Int.reduceEq, Nat.reducePow, Int.reducePow, Int.reduceGT, Int.reduceGE, Int.reduceBNe, newsV_s, ev1, ev2, ev3, ev4]
      refine ⟨_, _, _, rfl, ?_, ?_, .inl ⟨rfl, rfl⟩⟩
      · exact (good_new (k := .cells [.int .i64 1] 1) (good_up (k := .cells [.int .i64 1] 1) (good_new (good_new (good_new (good_new g1)))) b3 (by simp only [lk_cons, sh_app, m3, cond_false]; exact q3'))) |> fun h => by simpa only [upH_cons, sh_app, m3, cond_false] using h
      · exact (fr_new (k := .cells [.int .i64 1] 1) (good_up (k := .cells [.int .i64 1] 1) (good_new (good_new (good_new (good_new g1)))) b3 (by simp only [lk_cons, sh_app, m3, cond_false]; exact q3')) (fr_up (fr_new (good_new (good_new (good_new g1))) (fr_new (good_new (good_new g1)) (fr_new (good_new g1) (fr_new g1 (f0.trans r1) 0) 0) 0) 0) (lk_N hN 3)) 0) |> fun h => by simpa only [upH_cons, sh_app, m3, cond_false] using h
  have hE : wipE p h q M = 0 := if_pos hok
  have hRR : wipR p h q M = wiped M (lgA p h q) (LG p h) := if_pos hok
  rw [hE, hRR]
  have hb := lgA_b C hok
  obtain ⟨n, rfl⟩ : ∃ n : Nat, q = (n : Int) := ⟨q.toNat, by have := hok.1; omega⟩
  have e3 := f10c3 hG hT C (q := n) (by have := hok.1; omega)
  have hlA : bs p h 3 + LG p h * n = lgA p h (n : Int) := rfl
  rw [hlA] at e3
  generalize lgA p h (n : Int) = A at *
  have hl : ((M.length : Int) == ((bs p h 5 : Nat) : Int)) = true := by rw [hok.2]; exact beq_self_eq_true _
  have hlb := LG_b C
  rcases s1 with ⟨h0, _⟩ | ⟨b, cap, rest, hve, bb, h0b, hle, hlk⟩
  · rw [h0] at hb; simp at hb; omega
  injection hve with hv1 hv2 hv3
  subst hv1 hv3
  simp -implicitDefEqProofs (maxSteps := 10000000) (disch := omega) only [TgW, LgW, GgW_cellsStore, GgW_sCl, GgW_wloglog, Vwloglog, Twloglog, Lwloglog, Gwloglog_10, V10_eq, Gwloglog_13, V13_eq, Gwloglog_7, V7_eq, Gwloglog_wlogwant, Vwlogwant, Twlogwant, Lwlogwant, DgW_wlogcaught, Uwlogcaught, Lwlogcaught, hB, hR, hI, itR2_wloglog1, List.cons_append, EgW, e1, e2, e3, ec, q0', q2', q3', b0, b2, b3, rb0, rb2, rb3, hB1, hR1, hI1, m0, m0', m2, m2', m3, m3', n23, n32, hl, bt, bf, all1, ress, res1, retV, Value.cells, reduceIte, reduceCtorEq, Int.reduceLT, Int.reduceLE, Int.reduceToNat, Int.reduceAdd, Int.reduceSub, Int.reduceMul, Int.reduceNeg, Nat.reduceMul, Nat.reduceAdd, Nat.reduceSub, Nat.reduceBEq, Nat.reduceEqDiff, Nat.reduceLT, Nat.reduceLeDiff, Int.reduceBEq, Int.reduceEq, Nat.reducePow, Int.reducePow, Int.reduceGT, Int.reduceGE, Int.reduceBNe, newsV_s, ev1, ev2, ev3, ev4]
  generalize hX : Iwloglog1 B _ _ _ _ = o
  obtain ⟨HH, hHH⟩ : ∃ HH, HH = (N1.n 5, KB.loop (N1.r 5) .ready) :: (N1.n 4, .dfr) :: (N1.n 3, .cells [.int .i64 (A : Int)] 1) :: (N1.n 2, .cells [.pointer (some ⟨N1.n 0, 0, none⟩)] 1) :: (N1.n 1, .cells [.int .i64 (kk : Int), .int .i64 (p : Int), .int .i64 (cc : Int)] 3) :: (N1.n 0, .cells [.slice (some ⟨b, 0, none⟩) M.length c1] 1) :: H1 := ⟨_, rfl⟩
  have a1 := good_new (k := .cells [.slice (some ⟨b, 0, none⟩) M.length c1] 1) g1
  have a2 := good_new (k := .cells [.int .i64 (kk : Int), .int .i64 (p : Int), .int .i64 (cc : Int)] 3) a1
  have a3 := good_new (k := .cells [.pointer (some ⟨N1.n 0, 0, none⟩)] 1) a2
  have a4 := good_new (k := .cells [.int .i64 (A : Int)] 1) a3
  have a5 := good_new (k := .dfr) a4
  have gH : good B HH (sh (sh (sh (sh (sh (sh N1)))))) := by rw [hHH]; exact good_new a5
  have fH : Fr H1 HH := by rw [hHH]; exact fr_new a5 (fr_new a4 (fr_new a3 (fr_new a2 (fr_new a1 (fr_new g1 Fr.refl 0) 0) 0) 0) 0) 0
  have p0 : lk HH (N1.n 0) = some (.cells [.slice (some ⟨b, 0, none⟩) M.length c1] 1) := by rw [hHH]; simp only [lk_cons, hI1]; rfl
  have p1 : lk HH (N1.n 1) = some (.cells [.int .i64 (kk : Int), .int .i64 (p : Int), .int .i64 (cc : Int)] 3) := by rw [hHH]; simp only [lk_cons, hI1]; rfl
  have p2 : lk HH (N1.n 2) = some (.cells [.pointer (some ⟨N1.n 0, 0, none⟩)] 1) := by rw [hHH]; simp only [lk_cons, hI1]; rfl
  have p3 : lk HH (N1.n 3) = some (.cells [.int .i64 (A : Int)] 1) := by rw [hHH]; simp only [lk_cons, hI1]; rfl
  have p5 : lk HH (N1.n 5) = some (.loop (N1.r 5) .ready) := by rw [hHH]; simp only [lk_cons, hI1]; rfl
  have nb1 := ne_N g1 hlk
  have nbi : ∀ i, N1.n i ≠ b := fun i e => by have := nb1 i; rw [e] at this; simp at this
  have ni : ∀ i j, i ≠ j → N1.n i ≠ N1.n j := fun i j hij e => by
    have := hI1 i j
    rw [e] at this; simp at this; exact hij this
  have sH : SlM c2 2 B H HH (.slice (some ⟨b, 0, none⟩) M.length c1) M := .inr ⟨b, c1, rest, rfl, bb, f0.dm _ h0b, hle, fH _ _ hlk⟩
  have hO : ∃ H' N', o = some (.ret (.tuple #[]), H', N') ∧ good B H' N' ∧ (lk H' (N1.n 5) = some (.loop (N1.r 5) .ready) ∧ (∀ y c, y ≠ N1.n 5 → y ≠ b → lk HH y = some c → lk H' y = some c) ∧ SlM c2 2 B H H' (.slice (some ⟨b, 0, none⟩) M.length c1) (wiped M A (LG p h))) := by
    rw [← hX, ← hHH]
    refine itLog (J := fun k H' => lk H' (N1.n 5) = some (.loop (N1.r 5) .ready) ∧ (∀ y c, y ≠ N1.n 5 → y ≠ b → lk HH y = some c → lk H' y = some c) ∧ SlM c2 2 B H H' (.slice (some ⟨b, 0, none⟩) M.length c1) (wiped M A k)) (kk := kk) (cc := cc) (f := A) (l := N1.n 5) (fb := N1.n 3) (cb := N1.n 1) (mb := N1.n 2) (b := b) (mm := N1.n 0) (len := M.length) (cap := c1) (wd := fun k => (M.getD (A + k) z2).w) hT C ?_ ?_ (hB1 3) (hB1 1) (hB1 2) (hB1 0) (by omega) (by omega) gH ⟨p5, fun _ _ _ _ e => e, sH⟩
    · rintro k H2 N2 hk ⟨j5, jp, js⟩ g2
      have hBo := hB1
      have hB := good_B g2
      have hR := good_rdB g2
      have hI := beqN g2.1.1
      have b5 := hBo 5
      have x5 := ne_N g2 j5
      have x5' := ne_N' g2 j5
      have gb := good_set (k := .loop (N1.r 5) .busy) g2 b5 j5
      have nb5 : (b == N1.n 5) = false := eqb (Ne.symm (nbi 5))
      have nb5' : (N1.n 5 == b) = false := eqb (nbi 5)
      have jsb : SlM c2 2 B H ((N1.n 5, .loop (N1.r 5) .busy) :: H2) (.slice (some ⟨b, 0, none⟩) M.length c1) (wiped M A k) := js.mono fun y c hy e => by
        have : y = b := by simpa [slB] using hy.symm
        rw [lk_cons, this, nb5, cond_false, ← this]; exact e
      have jp0 := jp _ _ (ni 0 5 (by decide)) (nbi 0) p0
      have n05 : (N1.n 0 == N1.n 5) = false := by rw [hI1]; rfl
      have hwl := wiped_len M A k
      obtain ⟨H3, N3, es, g3, s3, k3⟩ := store (v := .slice (some ⟨b, 0, none⟩) M.length c1) (m := N1.n 0) (i := A + k) (w := 0) gb jsb (by rw [lk_cons, n05, cond_false]; exact jp0) (hBo 0) (by simpa [slB] using (nbi 0).symm) (by omega) (by omega)
      have l5 := k3 (N1.n 5) _ (by simpa [slB] using (nbi 5).symm) lk_top
      simp -implicitDefEqProofs (maxSteps := 10000000) (disch := omega) only [TgW, LgW, GgW_cellsStore, GgW_sCl, GgW_wloglog, Vwloglog, Twloglog, Lwloglog, Gwloglog_10, V10_eq, Gwloglog_13, V13_eq, Gwloglog_7, V7_eq, Gwloglog_wlogwant, Vwlogwant, Twlogwant, Lwlogwant, DgW_wlogcaught, Uwlogcaught, Lwlogcaught, hB, hR, hI, itR2_wloglog1, List.cons_append, EgW, j5, b5, x5, x5', es, l5, bt, bf, all1, ress, res1, retV, Value.cells, reduceIte, reduceCtorEq, Int.reduceLT, Int.reduceLE, Int.reduceToNat, Int.reduceAdd, Int.reduceSub, Int.reduceMul, Int.reduceNeg, Nat.reduceMul, Nat.reduceAdd, Nat.reduceSub, Nat.reduceBEq, Nat.reduceEqDiff, Nat.reduceLT, Nat.reduceLeDiff, Int.reduceBEq, Int.reduceEq, Nat.reducePow, Int.reducePow, Int.reduceGT, Int.reduceGE, Int.reduceBNe, newsV_s, ev1, ev2, ev3, ev4]
      refine ⟨_, _, rfl, good_set (k' := .loop (N1.r 5) .busy) g3 b5 l5, lk_top, fun y c h1 h2 e => ?_, ?_⟩
      · have y5 : (y == N1.n 5) = false := eqb h1
        rw [lk_cons, y5, cond_false]
        exact k3 y c (by simpa [slB] using Ne.symm h2) (by rw [lk_cons, y5, cond_false]; exact jp y c h1 h2 e)
      · refine SlM.mono s3 fun y c hy e => ?_
        have : y = b := by simpa [slB] using hy.symm
        rw [lk_cons, this, nb5, cond_false, ← this]; exact e
    · rintro k H2 hk ⟨j5, jp, js⟩
      refine ⟨jp _ _ (ni 3 5 (by decide)) (nbi 3) p3, jp _ _ (ni 1 5 (by decide)) (nbi 1) p1, jp _ _ (ni 2 5 (by decide)) (nbi 2) p2, jp _ _ (ni 0 5 (by decide)) (nbi 0) p0, fun hk2 => ?_⟩
      have hwl := wiped_len M A k
      have hwa := wiped_at M A k (A + k) (by omega)
      rw [if_neg (by omega)] at hwa
      rcases js with ⟨h0, _⟩ | ⟨b', cap', rest', he, bb', _, hle', hlk'⟩
      · rw [h0] at hwl; simp at hwl; omega
      injection he with he1 he2 he3
      injection he1 with he1
      injection he1 with he1
      subst he1
      rw [rdB_none bb', rdO_none, bb', rdN_none, hlk', rdL_some, k_cells]
      have := fl_read c2_len (wiped M A k) rest' (A + k) 0 1 z2 (by omega) (by omega)
      rw [Nat.add_zero, hwa] at this
      rw [this]; rfl
  obtain ⟨H2, N2, rfl, g2, j5, jp, js⟩ := hO
  have e2b : N.n 2 ≠ b := fun e => by rw [← e, q2] at h0b; cases h0b
  have e3b : N.n 3 ≠ b := fun e => by rw [← e, q3] at h0b; cases h0b
  have e25 : N.n 2 ≠ N1.n 5 := fun e => by have := m2 5; rw [e] at this; simp at this
  have e35 : N.n 3 ≠ N1.n 5 := fun e => by have := m3 5; rw [e] at this; simp at this
  have w2 := jp _ _ e25 e2b (fH _ _ q2')
  have w3 := jp _ _ e35 e3b (fH _ _ q3')
  have w0 := jp _ _ (ni 0 5 (by decide)) (nbi 0) p0
  have b10 := hB1 0
  have rb10 := fun o n => rdB_none (o := o) (n := n) b10
  have b15 := hB1 5
  have x05 : (N1.n 0 == N1.n 5) = false := by rw [hI1]; rfl
  have y2 : (N.n 2 == N1.n 5) = false := eqb e25
  have y3 : (N.n 3 == N1.n 5) = false := eqb e35
  have y2' : (N1.n 5 == N.n 2) = false := eqb e25.symm
  have y3' : (N1.n 5 == N.n 3) = false := eqb e35.symm
  simp -implicitDefEqProofs (maxSteps := 10000000) (disch := omega) only [TgW, LgW, GgW_cellsStore, GgW_sCl, GgW_wloglog, Vwloglog, Twloglog, Lwloglog, Gwloglog_10, V10_eq, Gwloglog_13, V13_eq, Gwloglog_7, V7_eq, Gwloglog_wlogwant, Vwlogwant, Twlogwant, Lwlogwant, DgW_wlogcaught, Uwlogcaught, Lwlogcaught, hB, hR, hI, itR2_wloglog1, List.cons_append, EgW, j5, w0, w2, w3, b10, rb10, b15, b2, b3, rb2, rb3, x05, y2, y3, y2', y3', n23, n32, bt, bf, all1, ress, res1, retV, Value.cells, reduceIte, reduceCtorEq, Int.reduceLT, Int.reduceLE, Int.reduceToNat, Int.reduceAdd, Int.reduceSub, Int.reduceMul, Int.reduceNeg, Nat.reduceMul, Nat.reduceAdd, Nat.reduceSub, Nat.reduceBEq, Nat.reduceEqDiff, Nat.reduceLT, Nat.reduceLeDiff, Int.reduceBEq, Int.reduceEq, Nat.reducePow, Int.reducePow, Int.reduceGT, Int.reduceGE, Int.reduceBNe, newsV_s, ev1, ev2, ev3, ev4]
  have z1 := good_set (k := .loop (N1.r 5) .over) g2 b15 j5
  have z2' := good_up (k := .cells [.slice (some ⟨b, 0, none⟩) M.length c1] 1) z1 b2 (by rw [lk_cons, y2, cond_false]; exact w2)
  have z3 := good_up (k := .cells [.int .i64 0] 1) z2' b3 (by rw [lk_upH, n32, cond_false, lk_cons, y3, cond_false]; exact w3)
  have fj : Fr H ((N1.n 5, .loop (N1.r 5) .over) :: H2) := fun y c e => by
    have e0 := f0 _ _ e
    have e1 := r1 _ _ e0
    have h1 : y ≠ N1.n 5 := fun h => by have := ne_N g1 e1 5; rw [h] at this; simp at this
    have h2 : y ≠ b := fun h => by rw [← h, e0] at h0b; cases h0b
    rw [lk_cons, eqb h1, cond_false]
    exact jp y c h1 h2 (fH _ _ e1)
  have fz := fr_up (k := .cells [.int .i64 0] 1) (fr_up (k := .cells [.slice (some ⟨b, 0, none⟩) M.length c1] 1) fj (lk_N hN 2)) (lk_N hN 3)
  simp only [upH_cons, y2, y3, cond_false] at z3 fz
  refine ⟨_, _, _, rfl, z3, fz, SlM.mono js fun y c hy e => ?_⟩
  have hyb : y = b := by simpa [slB] using hy.symm
  subst hyb
  have k5 : (y == N1.n 5) = false := eqb (nbi 5).symm
  have k2 : (y == N.n 2) = false := eqb e2b.symm
  have k3 : (y == N.n 3) = false := eqb e3b.symm
  simp -implicitDefEqProofs (maxSteps := 10000000) (disch := omega) only [TgW, LgW, GgW_cellsStore, GgW_sCl, GgW_wloglog, Vwloglog, Twloglog, Lwloglog, Gwloglog_10, V10_eq, Gwloglog_13, V13_eq, Gwloglog_7, V7_eq, Gwloglog_wlogwant, Vwlogwant, Twlogwant, Lwlogwant, DgW_wlogcaught, Uwlogcaught, Lwlogcaught, hB, hR, hI, itR2_wloglog1, List.cons_append, EgW, k5, k2, k3, e, bt, bf, all1, ress, res1, retV, Value.cells, reduceIte, reduceCtorEq, Int.reduceLT, Int.reduceLE, Int.reduceToNat, Int.reduceAdd, Int.reduceSub, Int.reduceMul, Int.reduceNeg, Nat.reduceMul, Nat.reduceAdd, Nat.reduceSub, Nat.reduceBEq, Nat.reduceEqDiff, Nat.reduceLT, Nat.reduceLeDiff, Int.reduceBEq, Int.reduceEq, Nat.reducePow, Int.reducePow, Int.reduceGT, Int.reduceGE, Int.reduceBNe, newsV_s, ev1, ev2, ev3, ev4]
end Go.Proofs.YtfhiplfagejfoaaDoor
namespace Go.Proofs.YtfhiplfagejfoaaDoor
open Go.Proofs.YtfhiplfagejfoaaDoor.K Go.ChangeShapes Go.WideShapes Go.ChangeAt Go.RowKit 
set_option maxRecDepth 100000
set_option linter.unusedSimpArgs false
set_option linter.unusedVariables false
set_option maxHeartbeats 4000000 in
theorem fWipen {B : OH} {H : HL} {N : St} {vm : Value} {M : List C2} {k p c q : Int} (hn : ¬ fitI k p c) (hN : good B H N) (hv : SlW c2 2 B H vm M) (hM : M.length ≤ 800000) :
    ∃ v' H' N', VgW B [.agg #[.int .i64 k, .int .i64 p, .int .i64 c], .agg #[vm], .int .i64 q] H N = some (.ret (.tuple #[.agg #[v'], .int .i64 5]), H', N') ∧ good B H' N' ∧ Fr H H' ∧ SlM c2 2 B H H' v' ([] : List C2) := by
  have hB := good_B hN
  have hR := good_rdB hN
  have hI := beqN hN.1.1
  have hG : ∃ H N, good B H N := ⟨H, N, hN⟩
  have e1 := f13n hG k p c hn
  obtain ⟨am, cm, rfl, _⟩ := id hv
  obtain ⟨H0, hH0⟩ : ∃ H0, H0 = (N.n 3, KB.cells [.int .i64 0] 1) :: (N.n 2, .cells [.slice none 0 0] 1) :: (N.n 1, .cells [.slice am M.length cm] 1) :: (N.n 0, .cells [.int .i64 k, .int .i64 p, .int .i64 c] 3) :: H := ⟨_, rfl⟩
  have g0 : good B H0 (sh (sh (sh (sh N)))) := by rw [hH0]; exact good_new (good_new (good_new (good_new hN)))
  have f0 : Fr H H0 := by
    rw [hH0]
    have a1 := good_new (k := .cells [.int .i64 k, .int .i64 p, .int .i64 c] 3) hN
    have a2 := good_new (k := .cells [.slice am M.length cm] 1) a1
    have a3 := good_new (k := .cells [.slice none 0 0] 1) a2
    exact fr_new a3 (fr_new a2 (fr_new a1 (fr_new hN Fr.refl 0) 0) 0) 0
  have q2 : lk H0 (N.n 2) = some (.cells [.slice none 0 0] 1) := by rw [hH0]; simp only [lk_cons, hI]; rfl
  have q3 : lk H0 (N.n 3) = some (.cells [.int .i64 0] 1) := by rw [hH0]; simp only [lk_cons, hI]; rfl
  have q0 : lk H0 (N.n 0) = some (.cells [.int .i64 k, .int .i64 p, .int .i64 c] 3) := by rw [hH0]; simp only [lk_cons, hI]; rfl
  obtain ⟨v', H1, N1, ec, g1, r1, s1⟩ := clone g0 (hv.mono f0) (by omega)
  have q2' := r1 _ _ q2
  have q3' := r1 _ _ q3
  have q0' := r1 _ _ q0
  have b0 := hB 0
  have b2 := hB 2
  have b3 := hB 3
  have rb0 := fun o n => rdB_none (o := o) (n := n) b0
  have rb2 := fun o n => rdB_none (o := o) (n := n) b2
  have rb3 := fun o n => rdB_none (o := o) (n := n) b3
  have hB1 := good_B g1
  have hR1 := good_rdB g1
  have hI1 := beqN g1.1.1
  have m0 := ne_N g1 q0'
  have m0' := ne_N' g1 q0'
  have m2 := ne_N g1 q2'
  have m2' := ne_N' g1 q2'
  have m3 := ne_N g1 q3'
  have m3' := ne_N' g1 q3'
  obtain ⟨a1, c1, rfl, _⟩ := id (s1.rd c2_len)
  have n23 : (N.n 2 == N.n 3) = false := by rw [hI]; rfl
  have n32 : (N.n 3 == N.n 2) = false := by rw [hI]; rfl
  rw [hH0] at ec
  unfold VgW
  simp -implicitDefEqProofs (maxSteps := 10000000) (disch := omega) only [TgW, LgW, GgW_cellsStore, GgW_sCl, GgW_wloglog, Vwloglog, Twloglog, Lwloglog, Gwloglog_10, V10_eq, Gwloglog_13, V13_eq, Gwloglog_7, V7_eq, Gwloglog_wlogwant, Vwlogwant, Twlogwant, Lwlogwant, DgW_wlogcaught, Uwlogcaught, Lwlogcaught, hB, hR, hI, itR2_wloglog1, List.cons_append, EgW, e1, ec, q0', q2', q3', b0, b2, b3, rb0, rb2, rb3, hB1, hR1, hI1, m0, m0', m2, m2', m3, m3', n23, n32, bt, bf, all1, ress, res1, retV, Value.cells, reduceIte, reduceCtorEq, Int.reduceLT, Int.reduceLE, Int.reduceToNat, Int.reduceAdd, Int.reduceSub, Int.reduceMul, Int.reduceNeg, Nat.reduceMul, Nat.reduceAdd, Nat.reduceSub, Nat.reduceBEq, Nat.reduceEqDiff, Nat.reduceLT, Nat.reduceLeDiff, Int.reduceBEq, Int.reduceEq, Nat.reducePow, Int.reducePow, Int.reduceGT, Int.reduceGE, Int.reduceBNe, newsV_s, ev1, ev2, ev3, ev4]
  have z1 := good_up (k := .cells [.int .i64 5] 1) g1 b3 q3'
  have z2' := fr_up (k := .cells [.int .i64 5] 1) (f0.trans r1) (lk_N hN 3)
  have z3 : good B ((N1.n 0, .cells [.slice a1 M.length c1] 1) :: upH H1 (N.n 3) (.cells [.int .i64 5] 1)) (sh N1) := good_new z1
  refine ⟨_, _, _, rfl, ?_, ?_, .inl ⟨rfl, rfl⟩⟩
  · exact good_new (good_new (good_new (good_new z1)))
  · exact fr_new (good_new (good_new (good_new z1))) (fr_new (good_new (good_new z1)) (fr_new (good_new z1) (fr_new z1 z2' 0) 0) 0) 0
def wdsL (M : List C2) (A : Nat) : Nat → List Int
  | 0 => []
  | n + 1 => wdsL M A n ++ [(M.getD (A + n) z2).w]
theorem wdsL_len (M : List C2) (A : Nat) : ∀ n, (wdsL M A n).length = n
  | 0 => rfl
  | n + 1 => by simp [wdsL, wdsL_len M A n]
def C2s (M : List C2) : Prop := ∀ x ∈ M, u64R x.w ∧ i64R x.l
theorem C2s.at {K : List C2} (h : C2s K) (i : Nat) : u64R (K.getD i z2).w ∧ i64R (K.getD i z2).l := by
  rcases Nat.lt_or_ge i K.length with hi | hi
  · exact h _ (List.mem_of_getElem? (some_getD (d := z2) hi))
  · rw [List.getD_eq_getElem?_getD, List.getElem?_eq_none hi]
    unfold u64R i64R; simp [z2]
theorem wdsL_u {M : List C2} (h : C2s M) (A : Nat) : ∀ n, U64s (wdsL M A n)
  | 0 => fun x hx => by cases hx
  | n + 1 => fun x hx => by
    simp only [wdsL] at hx
    rcases List.mem_append.1 hx with h' | h'
    · exact wdsL_u h A n x h'
    · rw [List.mem_singleton.1 h']; exact (h.at _).1
def lay (M : List C2) (l : List W2) : Nat → List C2
  | 0 => M
  | n + 1 => (lay M l n).set (l.getD n y2).a.toNat ⟨(l.getD n y2).w, 0⟩
theorem lay_len (M : List C2) (l : List W2) : ∀ n, (lay M l n).length = M.length
  | 0 => rfl
  | n + 1 => by simp [lay, lay_len M l n]
noncomputable def layE (p h : Nat) (q : Int) (M : List C2) : Int := if memOk p h q M then unE p h (wdsL M (lgA p h q) (LG p h)) else 1
open Classical in
noncomputable def layR (p h : Nat) (q : Int) (M : List C2) : List C2 := if memOk p h q M ∧ unOk p h (wdsL M (lgA p h q) (LG p h)) then lay M (unR p h (wdsL M (lgA p h q) (LG p h))) (unR p h (wdsL M (lgA p h q) (LG p h))).length else []
def LgL : FnD := ⟨(.ops [⟨(some 3), .box (.tmp 0), none⟩, ⟨(some 4), .box (.tmp 1), none⟩, ⟨(some 6), .alloc [(.slice none 0 0)], none⟩, ⟨(some 7), .alloc [(.int .i64 0)], none⟩]), 43, [(.tmp 7)], (.seq (.ops [⟨(some 15), .faddr 0 (.tmp 4), none⟩, ⟨(some 16), .load false 1 (.tmp 15), none⟩, ⟨(some 17), .call (.func 50) [(.tmp 16)], none⟩, ⟨(some 18), .build [(.slice none 0 0)] [(0, 1, (.tmp 17))], none⟩, ⟨(some 8), .alloc [(.slice none 0 0)], none⟩, ⟨none, .store 1 (.tmp 8) (.tmp 18), none⟩])
 (.seq (.ops [⟨(some 9), .alloc [(.slice none 0 0)], none⟩])
 (.seq (.seq (.ops [⟨(some 19), .load true 3 (.tmp 3), none⟩, ⟨(some 20), .mv (.tmp 2), none⟩, ⟨(some 21), .call (.func 51) [(.tmp 19), (.tmp 8), (.tmp 20)], none⟩])
 (.block 0 (.range (.tmp 21) [22, 23] (.ops [⟨(some 11), .mv (.tmp 23), none⟩])
 (.block 1 (.ops [⟨(some 24), .load false 1 (.tmp 9), none⟩, ⟨(some 25), .mv (.tmp 11), none⟩, ⟨(some 26), .buildS [(.int .u64 0)] 1 [(0, 1, (.tmp 25))], none⟩, ⟨(some 27), .app [(.int .u64 0)] 8 (.tmp 24) (.tmp 26), none⟩, ⟨none, .store 1 (.tmp 9) (.tmp 27), none⟩])))))
 (.seq (.ops [⟨(some 29), .load true 3 (.tmp 3), none⟩, ⟨(some 30), .load false 1 (.tmp 9), none⟩, ⟨(some 31), .call (.func 18) [(.tmp 29), (.tmp 30)], none⟩, ⟨(some 28), .mv (.tmp 31), none⟩, ⟨(some 32), .ext (.tmp 28) 0, none⟩, ⟨(some 33), .ext (.tmp 28) 1, none⟩, ⟨(some 12), .mv (.tmp 32), none⟩, ⟨none, .store 1 (.tmp 7) (.tmp 33), none⟩])
 (.seq (.ops [⟨(some 34), .load false 1 (.tmp 7), none⟩, ⟨(some 35), .bin .eql (.tmp 34) (.const (.int .i64 0)), none⟩, ⟨(some 36), .call (.func 44) [(.tmp 35), (.const (.int .i64 2))], none⟩])
 (.seq (.seq (.ops [⟨(some 37), .mv (.tmp 12), none⟩, ⟨(some 38), .len false (.tmp 37), none⟩, ⟨(some 39), .mv (.const (.int .i64 0)), none⟩])
 (.block 2 (.loop (.seq (.ops [⟨(some 40), .bin .lss (.tmp 39) (.tmp 38), none⟩])
 (.seq (.cond (.tmp 40) .skip
 (.exit 2))
 (.seq (.block 3 (.seq (.ops [⟨(some 41), .iaddrS 2 (.tmp 37) (.tmp 39), none⟩, ⟨(some 42), .load true 2 (.tmp 41), none⟩, ⟨(some 14), .alloc [(.int .i64 0), (.int .u64 0)], none⟩, ⟨none, .store 2 (.tmp 14) (.tmp 42), none⟩])
 (.ops [⟨(some 43), .faddr 0 (.tmp 14), none⟩, ⟨(some 44), .load false 1 (.tmp 43), none⟩, ⟨(some 45), .faddr 1 (.tmp 14), none⟩, ⟨(some 46), .load false 1 (.tmp 45), none⟩, ⟨(some 47), .call (.func 52) [(.tmp 8), (.tmp 44), (.tmp 46)], none⟩])))
 (.ops [⟨(some 48), .bin .add (.tmp 39) (.const (.int .i64 1)), none⟩, ⟨(some 39), .mv (.tmp 48), none⟩])))))))
 (.seq (.ops [⟨(some 49), .load true 1 (.tmp 8), none⟩, ⟨none, .store 1 (.tmp 6) (.tmp 49), none⟩, ⟨none, .store 1 (.tmp 7) (.const (.int .i64 0)), none⟩])
 .ret))))))),
 50, [.cell 6 true 1, .cell 7 false 1]⟩
theorem lowgL : lowerDfr Tryd.prog Tryd.f24 = some LgL := by kernel_rfl
noncomputable def GgL (B : OH) : Nat → Cs
  | 52 => VcellsStore B
  | 50 => VsCl B
  | 18 => VgU B
  | 51 => Vwloglog B
  | 44 => Vwlogwant B
  | _ => fun _ _ _ => none
theorem GgL_cellsStore {B : OH} : GgL B 52 = VcellsStore B := rfl
theorem GgL_sCl {B : OH} : GgL B 50 = VsCl B := rfl
theorem GgL_gU {B : OH} : GgL B 18 = VgU B := rfl
theorem GgL_wloglog {B : OH} : GgL B 51 = Vwloglog B := rfl
theorem GgL_wlogwant {B : OH} : GgL B 44 = Vwlogwant B := rfl
noncomputable abbrev EgL (B : OH) : Env := { f := GgL B, it := itR2 B }
theorem sGgL {w0 : World} {B : OH} : SoundG Tryd.prog w0 B (EgL B) :=
  ⟨fun k => by
    show (∀ args H N, GgL B k args H N = none) ∨ _
    unfold GgL
    split
    · exact .inr ⟨encellsStore, sVcellsStore⟩
    · exact .inr ⟨ensCl, sVsCl⟩
    · exact .inr ⟨engU, sVgU⟩
    · exact .inr ⟨enwloglog, sVwloglog⟩
    · exact .inr ⟨enwlogwant, sVwlogwant⟩
    · exact .inl fun _ _ _ => rfl, fun _ => .inl fun _ _ _ => rfl, sitR2⟩
theorem engL : Enter Tryd.prog 24 := .of Tryd.func24 (by kernel_rfl) (by kernel_rfl)
noncomputable def DgL (B : OH) : Nat → Ds
  | 43 => Uwlogcaught B
  | _ => fun _ _ _ _ => none
theorem DgL_wlogcaught {B : OH} : DgL B 43 = Uwlogcaught B := rfl
noncomputable def TgL (B : OH) : Cs := callD B (EgL B) (DgL B) 1000000 LgL
theorem sTgL {w0 : World} {B : OH} : SoundC Tryd.prog w0 B 24 (TgL B) := callD_sound mixedOrders sGgL 1000000 Tryd.func24 lowgL enwlogcaught sUwlogcaught
noncomputable def VgL (B : OH) : Cs := TgL B
theorem sVgL {w0 : World} {B : OH} : SoundC Tryd.prog w0 B 24 (VgL B) := sTgL
set_option maxHeartbeats 4000000 in
theorem fLayn {B : OH} {H : HL} {N : St} {vm : Value} {M : List C2} {k p c q : Int} (hn : ¬ fitI k p c) (hN : good B H N) (hv : SlW c2 2 B H vm M) (hM : M.length ≤ 800000) :
    ∃ v' H' N', VgL B [.agg #[.int .i64 k, .int .i64 p, .int .i64 c], .agg #[vm], .int .i64 q] H N = some (.ret (.tuple #[.agg #[v'], .int .i64 5]), H', N') ∧ good B H' N' ∧ Fr H H' ∧ SlM c2 2 B H H' v' ([] : List C2) := by
  have hB := good_B hN
  have hR := good_rdB hN
  have hI := beqN hN.1.1
  have hG : ∃ H N, good B H N := ⟨H, N, hN⟩
  have e1 := f13n hG k p c hn
  obtain ⟨am, cm, rfl, _⟩ := id hv
  obtain ⟨H0, hH0⟩ : ∃ H0, H0 = (N.n 3, KB.cells [.int .i64 0] 1) :: (N.n 2, .cells [.slice none 0 0] 1) :: (N.n 1, .cells [.slice am M.length cm] 1) :: (N.n 0, .cells [.int .i64 k, .int .i64 p, .int .i64 c] 3) :: H := ⟨_, rfl⟩
  have g0 : good B H0 (sh (sh (sh (sh N)))) := by rw [hH0]; exact good_new (good_new (good_new (good_new hN)))
  have f0 : Fr H H0 := by
    rw [hH0]
    have a1 := good_new (k := .cells [.int .i64 k, .int .i64 p, .int .i64 c] 3) hN
    have a2 := good_new (k := .cells [.slice am M.length cm] 1) a1
    have a3 := good_new (k := .cells [.slice none 0 0] 1) a2
    exact fr_new a3 (fr_new a2 (fr_new a1 (fr_new hN Fr.refl 0) 0) 0) 0
  have q2 : lk H0 (N.n 2) = some (.cells [.slice none 0 0] 1) := by rw [hH0]; simp only [lk_cons, hI]; rfl
  have q3 : lk H0 (N.n 3) = some (.cells [.int .i64 0] 1) := by rw [hH0]; simp only [lk_cons, hI]; rfl
  have q0 : lk H0 (N.n 0) = some (.cells [.int .i64 k, .int .i64 p, .int .i64 c] 3) := by rw [hH0]; simp only [lk_cons, hI]; rfl
  obtain ⟨v', H1, N1, ec, g1, r1, s1⟩ := clone g0 (hv.mono f0) (by omega)
  have q2' := r1 _ _ q2
  have q3' := r1 _ _ q3
  have q0' := r1 _ _ q0
  have b0 := hB 0
  have b2 := hB 2
  have b3 := hB 3
  have rb0 := fun o n => rdB_none (o := o) (n := n) b0
  have rb2 := fun o n => rdB_none (o := o) (n := n) b2
  have rb3 := fun o n => rdB_none (o := o) (n := n) b3
  have hB1 := good_B g1
  have hR1 := good_rdB g1
  have hI1 := beqN g1.1.1
  have m0 := ne_N g1 q0'
  have m0' := ne_N' g1 q0'
  have m2 := ne_N g1 q2'
  have m2' := ne_N' g1 q2'
  have m3 := ne_N g1 q3'
  have m3' := ne_N' g1 q3'
  obtain ⟨a1, c1, rfl, _⟩ := id (s1.rd c2_len)
  have n23 : (N.n 2 == N.n 3) = false := by rw [hI]; rfl
  have n32 : (N.n 3 == N.n 2) = false := by rw [hI]; rfl
  rw [hH0] at ec
  unfold VgL
  simp -implicitDefEqProofs (maxSteps := 10000000) (disch := omega) only [TgL, LgL, GgL_cellsStore, GgL_sCl, GgL_gU, GgL_wloglog, Vwloglog, Twloglog, Lwloglog, Gwloglog_10, V10_eq, Gwloglog_13, V13_eq, Gwloglog_7, V7_eq, Gwloglog_wlogwant, Vwlogwant, Twlogwant, Lwlogwant, GgL_wlogwant, DgL_wlogcaught, Uwlogcaught, Lwlogcaught, hB, hR, hI, itR2_wloglog1, List.cons_append, EgL, e1, ec, q0', q2', q3', b0, b2, b3, rb0, rb2, rb3, hB1, hR1, hI1, m0, m0', m2, m2', m3, m3', n23, n32, bt, bf, all1, ress, res1, retV, Value.cells, reduceIte, reduceCtorEq, Int.reduceLT, Int.reduceLE, Int.reduceToNat, Int.reduceAdd, Int.reduceSub, Int.reduceMul, Int.reduceNeg, Nat.reduceMul, Nat.reduceAdd, Nat.reduceSub, Nat.reduceBEq, Nat.reduceEqDiff, Nat.reduceLT, Nat.reduceLeDiff, Int.reduceBEq, Int.reduceEq, Nat.reducePow, Int.reducePow, Int.reduceGT, Int.reduceGE, Int.reduceBNe, newsV_s, ev1, ev2, ev3, ev4]
  have z1 := good_up (k := .cells [.int .i64 5] 1) g1 b3 q3'
  have z2' := fr_up (k := .cells [.int .i64 5] 1) (f0.trans r1) (lk_N hN 3)
  have z3 : good B ((N1.n 0, .cells [.slice a1 M.length c1] 1) :: upH H1 (N.n 3) (.cells [.int .i64 5] 1)) (sh N1) := good_new z1
  refine ⟨_, _, _, rfl, ?_, ?_, .inl ⟨rfl, rfl⟩⟩
  · exact good_new (good_new (good_new (good_new (good_new z1))))
  · exact fr_new (good_new (good_new (good_new (good_new z1)))) (fr_new (good_new (good_new (good_new z1))) (fr_new (good_new (good_new z1)) (fr_new (good_new z1) (fr_new z1 z2' 0) 0) 0) 0) 0
structure KLy (o6 o7 ow : Nat) (vl : Value) (n i : Nat) (ts : List Value) : Prop where
  l : ts.length = 50
  t6 : gt ts 6 = .pointer (some ⟨o6, 0, none⟩)
  t7 : gt ts 7 = .pointer (some ⟨o7, 0, none⟩)
  t8 : gt ts 8 = .pointer (some ⟨ow, 0, none⟩)
  t37 : gt ts 37 = vl
  t38 : gt ts 38 = .int .i64 (n : Int)
  t39 : gt ts 39 = .int .i64 (i : Int)
def lbLy : LC := (.seq (.ops [⟨(some 40), .bin .lss (.tmp 39) (.tmp 38), none⟩])
 (.seq (.cond (.tmp 40) .skip
 (.exit 2))
 (.seq (.block 3 (.seq (.ops [⟨(some 41), .iaddrS 2 (.tmp 37) (.tmp 39), none⟩, ⟨(some 42), .load true 2 (.tmp 41), none⟩, ⟨(some 14), .alloc [(.int .i64 0), (.int .u64 0)], none⟩, ⟨none, .store 2 (.tmp 14) (.tmp 42), none⟩])
 (.ops [⟨(some 43), .faddr 0 (.tmp 14), none⟩, ⟨(some 44), .load false 1 (.tmp 43), none⟩, ⟨(some 45), .faddr 1 (.tmp 14), none⟩, ⟨(some 46), .load false 1 (.tmp 45), none⟩, ⟨(some 47), .call (.func 52) [(.tmp 8), (.tmp 44), (.tmp 46)], none⟩])))
 (.ops [⟨(some 48), .bin .add (.tmp 39) (.const (.int .i64 1)), none⟩, ⟨(some 39), .mv (.tmp 48), none⟩]))))
set_option maxHeartbeats 8000000 in
theorem loopLy {B : OH} {H0 Hx H : HL} {N : St} {v vl : Value} {M : List C2} {l : List W2} {o6 o7 ow b len cap : Nat} (hN : good B H N) (hv : v = .slice (some ⟨b, 0, none⟩) len cap) (sM : SlM c2 2 B H0 H v M) (hM : M.length ≤ 800000) (sl : SlM w2 2 B Hx H vl l) (hb : slB vl ≠ some b) (hlb : l.length ≤ 800000) (hin : ∀ i, i < l.length → 0 ≤ (l.getD i y2).a ∧ (l.getD i y2).a < (M.length : Int)) (lo : lk H ow = some (.cells [v] 1)) (bo : B ow = none) (how : ow ≠ b) {ts : List Value} (kp : KLy o6 o7 ow vl l.length 0 ts) {F : Nat} (hF : 100 + l.length + 1 ≤ F) :
    Ok (exec B (EgL B) F (LC.loop lbLy) ⟨ts, H, N⟩) (fun x s => x = .exit 2 ∧ good B s.H s.N ∧ (∀ y c, y ≠ b → lk H y = some c → lk s.H y = some c) ∧ SlM c2 2 B H0 s.H v (lay M l l.length) ∧ KLy o6 o7 ow vl l.length l.length s.t) := by
  refine loop_rule (n0 := 100) (fun q s => ∃ ts H' N', ∃ i : Nat, s = ⟨ts, H', N'⟩ ∧ KLy o6 o7 ow vl l.length i ts ∧ good B H' N' ∧ (∀ y c, y ≠ b → lk H y = some c → lk H' y = some c) ∧ SlM c2 2 B H0 H' v (lay M l i) ∧ i ≤ l.length ∧ q = l.length - i) _ ?_ l.length _ ⟨ts, H, N, 0, rfl, kp, hN, fun _ _ _ e => e, sM, by omega, rfl⟩ _ hF
  clear kp hF F ts hN sM N
  rintro z q s ⟨ts, H1, N1, i, rfl, kp, g, fk, sM, hi, rfl⟩
  have hB := good_B g
  have hR := good_rdB g
  have hI := beqN g.1.1
  have hc1 : ((i + 1 : Nat) : Int) = (i : Int) + 1 := by omega
  by_cases hlt : i < l.length
  case neg =>
    obtain rfl : i = l.length := by omega
    simp -implicitDefEqProofs (maxSteps := 10000000) (disch := omega) only [TgL, LgL, GgL_cellsStore, GgL_sCl, GgL_gU, GgL_wloglog, Vwloglog, Twloglog, Lwloglog, Gwloglog_10, V10_eq, Gwloglog_13, V13_eq, Gwloglog_7, V7_eq, Gwloglog_wlogwant, Vwlogwant, Twlogwant, Lwlogwant, GgL_wlogwant, DgL_wlogcaught, Uwlogcaught, Lwlogcaught, hB, hR, hI, lbLy, kp.l, kp.t6, kp.t7, kp.t8, kp.t37, kp.t38, kp.t39, Int.lt_irrefl, bt, bf, all1, ress, res1, retV, Value.cells, reduceIte, reduceCtorEq, Int.reduceLT, Int.reduceLE, Int.reduceToNat, Int.reduceAdd, Int.reduceSub, Int.reduceMul, Int.reduceNeg, Nat.reduceMul, Nat.reduceAdd, Nat.reduceSub, Nat.reduceBEq, Nat.reduceEqDiff, Nat.reduceLT, Nat.reduceLeDiff, Int.reduceBEq, Int.reduceEq, Nat.reducePow, Int.reducePow, Int.reduceGT, Int.reduceGE, Int.reduceBNe, newsV_s, ev1, ev2, ev3, ev4]
    refine ok_some (.inr ⟨by simp, rfl, g, fk, sM, ⟨?_, ?_, ?_, ?_, ?_, ?_, ?_⟩⟩)
    all_goals simp (maxSteps := 10000000) (disch := omega) only [kp.l, kp.t6, kp.t7, kp.t8, kp.t37, kp.t38, kp.t39, lenV_sl, Int.toNat_natCast, bft, btf, gtst, st_len, Nat.reduceAdd, Int.cast_ofNat_Int, Nat.reduceBEq, Nat.reduceLT, decide_true, ev2]
  have hlt' : (i : Int) < (l.length : Int) := by omega
  have i0 : (0 : Int) ≤ (i : Int) := by omega
  have sl1 : SlM w2 2 B Hx H1 vl l := sl.mono fun y c hy e => fk y c (fun h' => hb (by rw [← h']; exact hy)) e
  obtain ⟨bv, ov, cv, rfl, _, rv⟩ := (sl1.rd w2_len).at (by omega)
  have rv := SlR.read rv w2_len (Fr.refl (H := H1)) y2 hlt
  have ha := hin i hlt
  have hs : lay M l (i + 1) = (lay M l i).set (l.getD i y2).a.toNat ⟨(l.getD i y2).w, 0⟩ := rfl
  generalize l.getD i y2 = x at *
  obtain ⟨a, w⟩ := x
  simp only [w2] at rv ha hs
  obtain ⟨n, rfl⟩ : ∃ n : Nat, a = (n : Int) := ⟨a.toNat, by omega⟩
  rw [Int.toNat_natCast] at hs
  have g2 : good B ((N1.n 0, .cells [.int .i64 (n : Int), .int .u64 w] 2) :: H1) (sh N1) := good_new g
  have f2 : Fr H1 ((N1.n 0, .cells [.int .i64 (n : Int), .int .u64 w] 2) :: H1) := fr_new g Fr.refl 0
  obtain ⟨H3, N3, es, g3, s3, k3⟩ := store (m := ow) (i := n) (w := w) g2 (sM.mono fun y c _ e => f2 y c e) (f2 _ _ (fk _ _ how lo)) bo (by rw [hv]; simpa [slB] using how.symm) (by rw [lay_len]; omega) (by rw [lay_len]; omega)
  rw [← hs] at s3
  simp -implicitDefEqProofs (maxSteps := 10000000) (disch := omega) only [TgL, LgL, GgL_cellsStore, GgL_sCl, GgL_gU, GgL_wloglog, Vwloglog, Twloglog, Lwloglog, Gwloglog_10, V10_eq, Gwloglog_13, V13_eq, Gwloglog_7, V7_eq, Gwloglog_wlogwant, Vwlogwant, Twlogwant, Lwlogwant, GgL_wlogwant, DgL_wlogcaught, Uwlogcaught, Lwlogcaught, hB, hR, hI, lbLy, kp.l, kp.t6, kp.t7, kp.t8, kp.t37, kp.t38, kp.t39, hlt, hlt', i0, rv, es, bt, bf, all1, ress, res1, retV, Value.cells, reduceIte, reduceCtorEq, Int.reduceLT, Int.reduceLE, Int.reduceToNat, Int.reduceAdd, Int.reduceSub, Int.reduceMul, Int.reduceNeg, Nat.reduceMul, Nat.reduceAdd, Nat.reduceSub, Nat.reduceBEq, Nat.reduceEqDiff, Nat.reduceLT, Nat.reduceLeDiff, Int.reduceBEq, Int.reduceEq, Nat.reducePow, Int.reducePow, Int.reduceGT, Int.reduceGE, Int.reduceBNe, newsV_s, ev1, ev2, ev3, ev4]
  refine ok_some (.inl ⟨rfl, l.length - (i + 1), by omega, _, H3, N3, i + 1, rfl, ⟨?_, ?_, ?_, ?_, ?_, ?_, ?_⟩, g3, fun y c h1 e => k3 y c (by rw [hv]; simpa [slB] using h1.symm) (f2 _ _ (fk y c h1 e)), s3, by omega, rfl⟩)
  all_goals simp (maxSteps := 10000000) (disch := omega) only [kp.l, kp.t6, kp.t7, kp.t8, kp.t37, kp.t38, kp.t39, lenV_sl, Int.toNat_natCast, bft, btf, gtst, st_len, hc1, Nat.reduceAdd, Int.cast_ofNat_Int, Nat.reduceBEq, Nat.reduceLT, decide_true, ev2]
end Go.Proofs.YtfhiplfagejfoaaDoor
namespace Go.Proofs.YtfhiplfagejfoaaDoor
open Go.Proofs.YtfhiplfagejfoaaDoor.K Go.ChangeShapes Go.WideShapes Go.ChangeAt Go.RowKit 
set_option maxRecDepth 100000
set_option linter.unusedSimpArgs false
set_option linter.unusedVariables false
set_option maxHeartbeats 16000000 in
theorem fLay {B : OH} {H : HL} {N : St} {vm : Value} {M : List C2} {kk p cc h : Nat} {q : Int} (hT : Tab B) (C : Cf kk p cc h) (hN : good B H N) (hv : SlW c2 2 B H vm M) (hM : M.length ≤ 800000) (hMs : C2s M) :
    ∃ v' H' N', VgL B [.agg #[.int .i64 (kk : Int), .int .i64 (p : Int), .int .i64 (cc : Int)], .agg #[vm], .int .i64 q] H N = some (.ret (.tuple #[.agg #[v'], .int .i64 (layE p h q M)]), H', N') ∧ good B H' N' ∧ Fr H H' ∧ SlM c2 2 B H H' v' (layR p h q M) := by
  have hB := good_B hN
  have hR := good_rdB hN
  have hI := beqN hN.1.1
  have hG : ∃ H N, good B H N := ⟨H, N, hN⟩
  have e1 := f13 hG kk p cc (cfit C).1 (cfit C).2.1 (cfit C).2.2
  have e2 := f7c hG hT C
  have ne : ∀ i j, i ≠ j → N.n i ≠ N.n j := fun i j hij e => by
    have := hI i j
    rw [e] at this; simp at this; exact hij this
  obtain ⟨am, cm, rfl, _⟩ := id hv
  obtain ⟨H0, hH0⟩ : ∃ H0, H0 = (N.n 3, KB.cells [.int .i64 0] 1) :: (N.n 2, .cells [.slice none 0 0] 1) :: (N.n 1, .cells [.slice am M.length cm] 1) :: (N.n 0, .cells [.int .i64 (kk : Int), .int .i64 (p : Int), .int .i64 (cc : Int)] 3) :: H := ⟨_, rfl⟩
  have g0 : good B H0 (sh (sh (sh (sh N)))) := by rw [hH0]; exact good_new (good_new (good_new (good_new hN)))
  have f0 : Fr H H0 := by
    rw [hH0]
    have a1 := good_new (k := .cells [.int .i64 (kk : Int), .int .i64 (p : Int), .int .i64 (cc : Int)] 3) hN
    have a2 := good_new (k := .cells [.slice am M.length cm] 1) a1
    have a3 := good_new (k := .cells [.slice none 0 0] 1) a2
    exact fr_new a3 (fr_new a2 (fr_new a1 (fr_new hN Fr.refl 0) 0) 0) 0
  have q2 : lk H0 (N.n 2) = some (.cells [.slice none 0 0] 1) := by rw [hH0]; simp only [lk_cons, hI]; rfl
  have q3 : lk H0 (N.n 3) = some (.cells [.int .i64 0] 1) := by rw [hH0]; simp only [lk_cons, hI]; rfl
  have q0 : lk H0 (N.n 0) = some (.cells [.int .i64 (kk : Int), .int .i64 (p : Int), .int .i64 (cc : Int)] 3) := by rw [hH0]; simp only [lk_cons, hI]; rfl
  obtain ⟨v', H1, N1, ec, g1, r1, s1⟩ := clone g0 (hv.mono f0) (by omega)
  have q2' := r1 _ _ q2
  have q3' := r1 _ _ q3
  have q0' := r1 _ _ q0
  have b0 := hB 0
  have b2 := hB 2
  have b3 := hB 3
  have rb0 := fun o n => rdB_none (o := o) (n := n) b0
  have rb2 := fun o n => rdB_none (o := o) (n := n) b2
  have rb3 := fun o n => rdB_none (o := o) (n := n) b3
  have hB1 := good_B g1
  have hR1 := good_rdB g1
  have hI1 := beqN g1.1.1
  have m0 := ne_N g1 q0'
  have m0' := ne_N' g1 q0'
  have m2 := ne_N g1 q2'
  have m2' := ne_N' g1 q2'
  have m3 := ne_N g1 q3'
  have m3' := ne_N' g1 q3'
  have s1l := s1.len
  obtain ⟨a1, c1, rfl, _⟩ := id (s1.rd c2_len)
  have n23 : (N.n 2 == N.n 3) = false := by rw [hI]; rfl
  have n32 : (N.n 3 == N.n 2) = false := by rw [hI]; rfl
  rw [hH0] at ec
  unfold VgL
  by_cases hok : memOk p h q M
  case neg =>
    have hE : layE p h q M = 1 := if_neg hok
    have hRR : layR p h q M = [] := if_neg (fun h' => hok h'.1)
    rw [hE, hRR]
    have z1 := good_up (k := .cells [.int .i64 1] 1) g1 b3 q3'
    have z2' := fr_up (k := .cells [.int .i64 1] 1) (f0.trans r1) (lk_N hN 3)
    by_cases hq : 0 ≤ q ∧ q < (p : Int)
    · have hl : ((M.length : Int) == ((bs p h 5 : Nat) : Int)) = false := beqI (fun e => hok ⟨hq, by omega⟩)
      obtain ⟨n, rfl⟩ : ∃ n : Nat, q = (n : Int) := ⟨q.toNat, by omega⟩
      have e3 := f10c3 hG hT C (q := n) (by omega)
      simp -implicitDefEqProofs (maxSteps := 10000000) (disch := omega) only [TgL, LgL, GgL_cellsStore, GgL_sCl, GgL_gU, GgL_wloglog, Vwloglog, Twloglog, Lwloglog, Gwloglog_10, V10_eq, Gwloglog_13, V13_eq, Gwloglog_7, V7_eq, Gwloglog_wlogwant, Vwlogwant, Twlogwant, Lwlogwant, GgL_wlogwant, DgL_wlogcaught, Uwlogcaught, Lwlogcaught, hB, hR, hI, itR2_wloglog1, List.cons_append, EgL, e1, e2, e3, ec, q0', q2', q3', b0, b2, b3, rb0, rb2, rb3, hB1, hR1, hI1, m0, m0', m2, m2', m3, m3', n23, n32, hl, bt, bf, all1, ress, res1, retV, Value.cells, reduceIte, reduceCtorEq, Int.reduceLT, Int.reduceLE, Int.reduceToNat, Int.reduceAdd, Int.reduceSub, Int.reduceMul, Int.reduceNeg, Nat.reduceMul, Nat.reduceAdd, Nat.reduceSub, Nat.reduceBEq, Nat.reduceEqDiff, Nat.reduceLT, Nat.reduceLeDiff, Int.reduceBEq, Int.reduceEq, Nat.reducePow, Int.reducePow, Int.reduceGT, Int.reduceGE, Int.reduceBNe, newsV_s, ev1, ev2, ev3, ev4]
      refine ⟨_, _, _, rfl, ?_, ?_, .inl ⟨rfl, rfl⟩⟩
      · exact good_new (good_new (good_new (good_new (good_new (good_new z1)))))
      · exact fr_new (good_new (good_new (good_new (good_new (good_new z1))))) (fr_new (good_new (good_new (good_new (good_new z1)))) (fr_new (good_new (good_new (good_new z1))) (fr_new (good_new (good_new z1)) (fr_new (good_new z1) (fr_new z1 z2' 0) 0) 0) 0) 0) 0
    · have e3 := f10o hG C q (by omega)
      have h10 : ((1 : Int) == 0) = false := rfl
      simp -implicitDefEqProofs (maxSteps := 10000000) (disch := omega) only [TgL, LgL, GgL_cellsStore, GgL_sCl, GgL_gU, GgL_wloglog, Vwloglog, Twloglog, Lwloglog, Gwloglog_10, V10_eq, Gwloglog_13, V13_eq, Gwloglog_7, V7_eq, Gwloglog_wlogwant, Vwlogwant, Twlogwant, Lwlogwant, GgL_wlogwant, DgL_wlogcaught, Uwlogcaught, Lwlogcaught, hB, hR, hI, itR2_wloglog1, List.cons_append, EgL, e1, e2, e3, ec, q0', q2', q3', b0, b2, b3, rb0, rb2, rb3, hB1, hR1, hI1, m0, m0', m2, m2', m3, m3', n23, n32, h10, bt, bf, all1, ress, res1, retV, Value.cells, reduceIte, reduceCtorEq, Int.reduceLT, Int.reduceLE, Int.reduceToNat, Int.reduceAdd, Int.reduceSub, Int.reduceMul, Int.reduceNeg, Nat.reduceMul, Nat.reduceAdd, Nat.reduceSub, Nat.reduceBEq, Nat.reduceEqDiff, Nat.reduceLT, Nat.reduceLeDiff, Int.reduceBEq, Int.reduceEq, Nat.reducePow, Int.reducePow, Int.reduceGT, Int.reduceGE, Int.reduceBNe, newsV_s, ev1, ev2, ev3, ev4]
      refine ⟨_, _, _, rfl, ?_, ?_, .inl ⟨rfl, rfl⟩⟩
      · exact good_new (good_new (good_new (good_new (good_new (good_new z1)))))
      · exact fr_new (good_new (good_new (good_new (good_new (good_new z1))))) (fr_new (good_new (good_new (good_new (good_new z1)))) (fr_new (good_new (good_new (good_new z1))) (fr_new (good_new (good_new z1)) (fr_new (good_new z1) (fr_new z1 z2' 0) 0) 0) 0) 0) 0
  have hE : layE p h q M = unE p h (wdsL M (lgA p h q) (LG p h)) := if_pos hok
  have hRy : unOk p h (wdsL M (lgA p h q) (LG p h)) → layR p h q M = lay M (unR p h (wdsL M (lgA p h q) (LG p h))) (unR p h (wdsL M (lgA p h q) (LG p h))).length := fun h' => if_pos ⟨hok, h'⟩
  have hRn : ¬ unOk p h (wdsL M (lgA p h q) (LG p h)) → layR p h q M = [] := fun h' => if_neg fun h2 => h' h2.2
  rw [hE]
  have hb := lgA_b C hok
  obtain ⟨n, rfl⟩ : ∃ n : Nat, q = (n : Int) := ⟨q.toNat, by have := hok.1; omega⟩
  have e3 := f10c3 hG hT C (q := n) (by have := hok.1; omega)
  have hlA : bs p h 3 + LG p h * n = lgA p h (n : Int) := rfl
  rw [hlA] at e3
  generalize lgA p h (n : Int) = A at *
  have hl : ((M.length : Int) == ((bs p h 5 : Nat) : Int)) = true := by rw [hok.2]; exact beq_self_eq_true _
  have hlb := LG_b C
  rcases s1 with ⟨h0, _⟩ | ⟨b, cap, rest, hve, bb, h0b, hle, hlk⟩
  · rw [h0] at hb; simp at hb; omega
  injection hve with hv1 hv2 hv3
  subst hv1 hv3
  simp -implicitDefEqProofs (maxSteps := 10000000) (disch := omega) only [TgL, LgL, GgL_cellsStore, GgL_sCl, GgL_gU, GgL_wloglog, Vwloglog, Twloglog, Lwloglog, Gwloglog_10, V10_eq, Gwloglog_13, V13_eq, Gwloglog_7, V7_eq, Gwloglog_wlogwant, Vwlogwant, Twlogwant, Lwlogwant, GgL_wlogwant, DgL_wlogcaught, Uwlogcaught, Lwlogcaught, hB, hR, hI, itR2_wloglog1, List.cons_append, EgL, e1, e2, e3, ec, q0', q2', q3', b0, b2, b3, rb0, rb2, rb3, hB1, hR1, hI1, m0, m0', m2, m2', m3, m3', n23, n32, hl, bt, bf, all1, ress, res1, retV, Value.cells, reduceIte, reduceCtorEq, Int.reduceLT, Int.reduceLE, Int.reduceToNat, Int.reduceAdd, Int.reduceSub, Int.reduceMul, Int.reduceNeg, Nat.reduceMul, Nat.reduceAdd, Nat.reduceSub, Nat.reduceBEq, Nat.reduceEqDiff, Nat.reduceLT, Nat.reduceLeDiff, Int.reduceBEq, Int.reduceEq, Nat.reducePow, Int.reducePow, Int.reduceGT, Int.reduceGE, Int.reduceBNe, newsV_s, ev1, ev2, ev3, ev4]
  generalize hX : Iwloglog1 B _ _ _ _ = o
  obtain ⟨HH, hHH⟩ : ∃ HH, HH = (N1.n 6, KB.loop (N1.r 6) .ready) :: (N1.n 5, .dfr) :: (N1.n 4, .cells [.int .i64 (A : Int)] 1) :: (N1.n 3, .cells [.pointer (some ⟨N1.n 0, 0, none⟩)] 1) :: (N1.n 2, .cells [.int .i64 (kk : Int), .int .i64 (p : Int), .int .i64 (cc : Int)] 3) :: (N1.n 1, .cells [.slice none 0 0] 1) :: (N1.n 0, .cells [.slice (some ⟨b, 0, none⟩) M.length c1] 1) :: H1 := ⟨_, rfl⟩
  have a1 := good_new (k := .cells [.slice (some ⟨b, 0, none⟩) M.length c1] 1) g1
  have a2 := good_new (k := .cells [.slice none 0 0] 1) a1
  have a3 := good_new (k := .cells [.int .i64 (kk : Int), .int .i64 (p : Int), .int .i64 (cc : Int)] 3) a2
  have a4 := good_new (k := .cells [.pointer (some ⟨N1.n 0, 0, none⟩)] 1) a3
  have a5 := good_new (k := .cells [.int .i64 (A : Int)] 1) a4
  have a6 := good_new (k := .dfr) a5
  have gH : good B HH (sh (sh (sh (sh (sh (sh (sh N1))))))) := by rw [hHH]; exact good_new a6
  have fH : Fr H1 HH := by rw [hHH]; exact fr_new a6 (fr_new a5 (fr_new a4 (fr_new a3 (fr_new a2 (fr_new a1 (fr_new g1 Fr.refl 0) 0) 0) 0) 0) 0) 0
  have p0 : lk HH (N1.n 0) = some (.cells [.slice (some ⟨b, 0, none⟩) M.length c1] 1) := by rw [hHH]; simp only [lk_cons, hI1]; rfl
  have p1 : lk HH (N1.n 1) = some (.cells [.slice none 0 0] 1) := by rw [hHH]; simp only [lk_cons, hI1]; rfl
  have p2 : lk HH (N1.n 2) = some (.cells [.int .i64 (kk : Int), .int .i64 (p : Int), .int .i64 (cc : Int)] 3) := by rw [hHH]; simp only [lk_cons, hI1]; rfl
  have p3 : lk HH (N1.n 3) = some (.cells [.pointer (some ⟨N1.n 0, 0, none⟩)] 1) := by rw [hHH]; simp only [lk_cons, hI1]; rfl
  have p4 : lk HH (N1.n 4) = some (.cells [.int .i64 (A : Int)] 1) := by rw [hHH]; simp only [lk_cons, hI1]; rfl
  have p6 : lk HH (N1.n 6) = some (.loop (N1.r 6) .ready) := by rw [hHH]; simp only [lk_cons, hI1]; rfl
  have nb1 := ne_N g1 hlk
  have nbi : ∀ i, N1.n i ≠ b := fun i e => by have := nb1 i; rw [e] at this; simp at this
  have ni : ∀ i j, i ≠ j → N1.n i ≠ N1.n j := fun i j hij e => by
    have := hI1 i j
    rw [e] at this; simp at this; exact hij this
  have hlkH : lk HH b = some (.cells (fl c2 M ++ rest) (c1 * 2)) := fH _ _ hlk
  have hO : ∃ H' N', o = some (.ret (.tuple #[]), H', N') ∧ good B H' N' ∧ (lk H' (N1.n 6) = some (.loop (N1.r 6) .ready) ∧ (∀ y c, y ≠ N1.n 6 → y ≠ N1.n 1 → lk HH y = some c → lk H' y = some c) ∧ ∃ vO, lk H' (N1.n 1) = some (.cells [vO] 1) ∧ SlM w1 1 B HH H' vO (wdsL M A (LG p h))) := by
    rw [← hX, ← hHH]
    refine itLog (J := fun k H' => lk H' (N1.n 6) = some (.loop (N1.r 6) .ready) ∧ (∀ y c, y ≠ N1.n 6 → y ≠ N1.n 1 → lk HH y = some c → lk H' y = some c) ∧ ∃ vO, lk H' (N1.n 1) = some (.cells [vO] 1) ∧ SlM w1 1 B HH H' vO (wdsL M A k)) (kk := kk) (cc := cc) (f := A) (l := N1.n 6) (fb := N1.n 4) (cb := N1.n 2) (mb := N1.n 3) (b := b) (mm := N1.n 0) (len := M.length) (cap := c1) (wd := fun k => (M.getD (A + k) z2).w) hT C ?_ ?_ (hB1 4) (hB1 2) (hB1 3) (hB1 0) (by omega) (by omega) gH ⟨p6, fun _ _ _ _ e => e, _, p1, .inl ⟨rfl, rfl⟩⟩
    · rintro k H2 N2 hk ⟨j6, jp, vO, j1, js⟩ g2
      have hBo := hB1
      have hB := good_B g2
      have hR := good_rdB g2
      have hI := beqN g2.1.1
      have b6 := hBo 6
      have b1 := hBo 1
      have rb1 := fun o n => rdB_none (o := o) (n := n) b1
      have x6 := ne_N g2 j6
      have x6' := ne_N' g2 j6
      have x1 := ne_N g2 j1
      have x1' := ne_N' g2 j1
      have x16 : (N1.n 1 == N1.n 6) = false := by rw [hI1]; rfl
      have x61 : (N1.n 6 == N1.n 1) = false := by rw [hI1]; rfl
      have gb := good_set (k := .loop (N1.r 6) .busy) g2 b6 j6
      have jn := fun y c (e : lk HH y = some c) => js.ne e
      have fb6 : Fr HH HH := Fr.refl
      have jsb : SlM w1 1 B HH ((N1.n 6, .loop (N1.r 6) .busy) :: H2) vO (wdsL M A k) := js.mono fun y c hy e => by
        rw [lk_cons, eqb (fun h' => jn _ _ p6 (by rw [← h']; exact hy)), cond_false]; exact e
      have hDm : Dm HH ((N1.n 6, .loop (N1.r 6) .busy) :: H2) := fun y e => by
        cases hy : lk HH y with
        | none => rfl
        | some c =>
          by_cases h6 : y = N1.n 6
          · rw [h6, lk_top] at e; cases e
          · rw [lk_cons, eqb h6, cond_false] at e
            by_cases h1 : y = N1.n 1
            · rw [h1, j1] at e; cases e
            · rw [jp y c h6 h1 hy] at e; cases e
      have hwl := wdsL_len M A k
      have g3 : good B (((sh N2).n 0, .cells [.int .u64 (M.getD (A + k) z2).w] 1) :: (N1.n 6, .loop (N1.r 6) .busy) :: H2) (sh (sh N2)) := good_new (good_sh gb)
      have g3' : good B ((N2.n 0, .cells [.int .u64 (M.getD (A + k) z2).w] 1) :: (N1.n 6, .loop (N1.r 6) .busy) :: H2) (sh N2) := good_new gb
      have fn : Fr ((N1.n 6, .loop (N1.r 6) .busy) :: H2) ((N2.n 0, .cells [.int .u64 (M.getD (A + k) z2).w] 1) :: (N1.n 6, .loop (N1.r 6) .busy) :: H2) := fr_new gb Fr.refl 0
      obtain ⟨v3, H3, N3, ea, g4, d4, k4, s4, hb4⟩ := app_specM (H0 := HH) (bytes := 8) w1_len g3' (hDm.trans fn.dm) (jsb.mono fun y c _ e => fn y c e) (M.getD (A + k) z2).w rfl (by omega) (by omega)
      simp only [w1] at ea
      have jb1 : lk ((N1.n 6, .loop (N1.r 6) .busy) :: H2) (N1.n 1) = some (.cells [vO] 1) := by rw [lk_cons, x16, cond_false]; exact j1
      have l6 := k4 _ _ (jn _ _ p6) (fn _ _ (lk_top (x := N1.n 6) (k := .loop (N1.r 6) .busy) (H := H2)))
      have l1 := k4 _ _ (jn _ _ p1) (fn _ _ jb1)
      have s5 := s4.toM
      have hvc : vO.cells = #[vO] := by obtain ⟨a, c, rfl, _⟩ := js.rd w1_len; rfl
      obtain ⟨av, cv, rfl, _⟩ := id (s4.rd w1_len)
      have hwd : wdsL M A k ++ [(M.getD (A + k) z2).w] = wdsL M A (k + 1) := rfl
      simp -implicitDefEqProofs (maxSteps := 10000000) (disch := omega) only [TgL, LgL, GgL_cellsStore, GgL_sCl, GgL_gU, GgL_wloglog, Vwloglog, Twloglog, Lwloglog, Gwloglog_10, V10_eq, Gwloglog_13, V13_eq, Gwloglog_7, V7_eq, Gwloglog_wlogwant, Vwlogwant, Twlogwant, Lwlogwant, GgL_wlogwant, DgL_wlogcaught, Uwlogcaught, Lwlogcaught, hB, hR, hI, itR2_wloglog1, List.cons_append, EgL, j6, j1, b6, b1, rb1, x6, x6', x1, x1', x16, x61, ea, l6, l1, hvc, bt, bf, all1, ress, res1, retV, Value.cells, reduceIte, reduceCtorEq, Int.reduceLT, Int.reduceLE, Int.reduceToNat, Int.reduceAdd, Int.reduceSub, Int.reduceMul, Int.reduceNeg, Nat.reduceMul, Nat.reduceAdd, Nat.reduceSub, Nat.reduceBEq, Nat.reduceEqDiff, Nat.reduceLT, Nat.reduceLeDiff, Int.reduceBEq, Int.reduceEq, Nat.reducePow, Int.reducePow, Int.reduceGT, Int.reduceGE, Int.reduceBNe, newsV_s, ev1, ev2, ev3, ev4]
      have nv : ∀ y c, lk HH y = some c → slB (.slice av (wdsL M A k ++ [(M.getD (A + k) z2).w]).length cv) ≠ some y := fun y c e => s5.ne e
      refine ⟨_, _, rfl, good_set (k' := .loop (N1.r 6) .busy) (good_up g4 b1 l1) b6 (by rw [lk_upH, x61, cond_false]; exact l6), lk_top, fun y c h6 h1 e => ?_, .slice av (wdsL M A k ++ [(M.getD (A + k) z2).w]).length cv, ?_, ?_⟩
      · have y6 : (y == N1.n 6) = false := eqb h6
        have y1 : (y == N1.n 1) = false := eqb h1
        rw [lk_cons, y6, cond_false, lk_upH, y1, cond_false]
        exact k4 y c (jn _ _ e) (fn _ _ (by rw [lk_cons, y6, cond_false]; exact jp y c h6 h1 e))
      · rw [lk_cons, x16, cond_false, lk_upH, beq_self_eq_true, cond_true]
      · rw [← hwd]
        refine SlM.mono s5 fun y c hy e => ?_
        rw [lk_cons, eqb (fun h' => nv _ _ p6 (by rw [← h']; exact hy)), cond_false, lk_upH, eqb (fun h' => nv _ _ p1 (by rw [← h']; exact hy)), cond_false]
        exact e
    · rintro k H2 hk ⟨j6, jp, vO, j1, js⟩
      refine ⟨jp _ _ (ni 4 6 (by decide)) (ni 4 1 (by decide)) p4, jp _ _ (ni 2 6 (by decide)) (ni 2 1 (by decide)) p2, jp _ _ (ni 3 6 (by decide)) (ni 3 1 (by decide)) p3, jp _ _ (ni 0 6 (by decide)) (ni 0 1 (by decide)) p0, fun hk2 => ?_⟩
      have hlk2 := jp _ _ (nbi 6).symm (nbi 1).symm hlkH
      rw [rdB_none bb, rdO_none, bb, rdN_none, hlk2, rdL_some, k_cells]
      have := fl_read c2_len M rest (A + k) 0 1 z2 (by omega) (by omega)
      rw [Nat.add_zero] at this
      rw [this]; rfl
  obtain ⟨H2, N2, rfl, g2, j6, jp, vO, j1, js⟩ := hO
  have e2b : N.n 2 ≠ b := fun e => by rw [← e, q2] at h0b; cases h0b
  have e3b : N.n 3 ≠ b := fun e => by rw [← e, q3] at h0b; cases h0b
  have e0b : N.n 0 ≠ b := fun e => by rw [← e, q0] at h0b; cases h0b
  have en2 : ∀ i, N.n 2 ≠ N1.n i := fun i e => by have := m2 i; rw [e] at this; simp at this
  have en3 : ∀ i, N.n 3 ≠ N1.n i := fun i e => by have := m3 i; rw [e] at this; simp at this
  have en0 : ∀ i, N.n 0 ≠ N1.n i := fun i e => by have := m0 i; rw [e] at this; simp at this
  have b16 := hB1 6
  have gp := good_set (k := .loop (N1.r 6) .over) g2 b16 j6
  -- what lies where, behind the range
  have hp : ∀ y c, y ≠ N1.n 6 → y ≠ N1.n 1 → lk HH y = some c → lk ((N1.n 6, .loop (N1.r 6) .over) :: H2) y = some c := fun y c h6 h1 e => by
    rw [lk_cons, eqb h6, cond_false]; exact jp y c h6 h1 e
  have wq2 := hp _ _ (en2 6) (en2 1) (fH _ _ q2')
  have wq3 := hp _ _ (en3 6) (en3 1) (fH _ _ q3')
  have wc := hp _ _ (en0 6) (en0 1) (fH _ _ q0')
  have wq0 := hp _ _ (ni 0 6 (by decide)) (ni 0 1 (by decide)) p0
  have wb := hp _ _ (nbi 6).symm (nbi 1).symm hlkH
  have jsp : SlM w1 1 B HH ((N1.n 6, .loop (N1.r 6) .over) :: H2) vO (wdsL M A (LG p h)) := js.mono fun y c hy e => by
    rw [lk_cons, eqb (fun h' => js.ne p6 (by rw [← h']; exact hy)), cond_false]; exact e
  obtain ⟨v4, H4, N4, e4, g4, r4, s4⟩ := fUnpack hT C gp (jsp.rd w1_len) (wdsL_u hMs A _) (by rw [wdsL_len]; omega)
  have x16 : (N1.n 1 == N1.n 6) = false := by rw [hI1]; rfl
  have b11 := hB1 1
  have rb11 := fun o n => rdB_none (o := o) (n := n) b11
  have b10 := hB1 0
  have rb10 := fun o n => rdB_none (o := o) (n := n) b10
  have u2 := r4 _ _ wq2
  have u3 := r4 _ _ wq3
  have u0 := r4 _ _ wq0
  have ub := r4 _ _ wb
  have y06 : (N.n 0 == N1.n 6) = false := eqb (en0 6)
  have wc2 := jp _ _ (en0 6) (en0 1) (fH _ _ q0')
  have hvc : vO.cells = #[vO] := by obtain ⟨a, c, rfl, _⟩ := jsp.rd w1_len; rfl
  have k4 := ne_N g4 u3
  have k4' := ne_N' g4 u3
  have k42 := ne_N g4 u2
  have n03 : (N1.n 0 == N.n 3) = false := eqb (en3 0).symm
  have f4 : Fr H H4 := fun y c e => by
    have e0 := f0 _ _ e
    have e1 := r1 _ _ e0
    have h6 : y ≠ N1.n 6 := fun h => by have := ne_N g1 e1 6; rw [h] at this; simp at this
    have h1 : y ≠ N1.n 1 := fun h => by have := ne_N g1 e1 1; rw [h] at this; simp at this
    exact r4 _ _ (hp y c h6 h1 (fH _ _ e1))
  have gE := fun k => good_up (k := k) g4 b3 u3
  have fE := fun k => fr_up (k := k) f4 (lk_N hN 3)
  have b4 := good_B g4
  have R4 := good_rdB g4
  by_cases hu : unOk p h (wdsL M A (LG p h))
  case neg =>
    obtain ⟨t1, t2⟩ := un_no hu
    rw [hRn hu, t2]
    rw [t2] at e4
    simp -implicitDefEqProofs (maxSteps := 10000000) (disch := omega) only [TgL, LgL, GgL_cellsStore, GgL_sCl, GgL_gU, GgL_wloglog, Vwloglog, Twloglog, Lwloglog, Gwloglog_10, V10_eq, Gwloglog_13, V13_eq, Gwloglog_7, V7_eq, Gwloglog_wlogwant, Vwlogwant, Twlogwant, Lwlogwant, GgL_wlogwant, DgL_wlogcaught, Uwlogcaught, Lwlogcaught, hB, hR, hI, itR2_wloglog1, List.cons_append, EgL, j6, j1, b16, x16, b11, rb11, hvc, y06, wc2, b0, rb0, e4, u2, u3, b2, b3, rb2, rb3, k4, k4', k42, n23, n32, b4, R4, bt, bf, all1, ress, res1, retV, Value.cells, reduceIte, reduceCtorEq, Int.reduceLT, Int.reduceLE, Int.reduceToNat, Int.reduceAdd, Int.reduceSub, Int.reduceMul, Int.reduceNeg, Nat.reduceMul, Nat.reduceAdd, Nat.reduceSub, Nat.reduceBEq, Nat.reduceEqDiff, Nat.reduceLT, Nat.reduceLeDiff, Int.reduceBEq, Int.reduceEq, Nat.reducePow, Int.reducePow, Int.reduceGT, Int.reduceGE, Int.reduceBNe, newsV_s, ev1, ev2, ev3, ev4]
    refine ⟨_, _, _, rfl, ?_, ?_, .inl ⟨rfl, rfl⟩⟩
    · exact good_new (k := .cells [.int .i64 2] 1) (good_up (k := .cells [.int .i64 2] 1) (gE (.cells [.int .i64 2] 1)) b3 (by rw [lk_upH, beq_self_eq_true, cond_true]))
    · exact fr_new (k := .cells [.int .i64 2] 1) (good_up (k := .cells [.int .i64 2] 1) (gE (.cells [.int .i64 2] 1)) b3 (by rw [lk_upH, beq_self_eq_true, cond_true])) (fr_up (fE (.cells [.int .i64 2] 1)) (lk_N hN 3)) 0
  obtain ⟨t1, t2⟩ := un_ok hu
  rw [hRy hu, t2]
  rw [t2] at e4
  have hin : ∀ i, i < (unR p h (wdsL M A (LG p h))).length → 0 ≤ ((unR p h (wdsL M A (LG p h))).getD i y2).a ∧ ((unR p h (wdsL M A (LG p h))).getD i y2).a < (M.length : Int) := fun i hi => by
    rw [t1] at hi ⊢
    rw [unL_len] at hi
    rw [unL_at _ _ _ hi]
    have := okP_b C (hu.2.2.1 i hi)
    have h5 := hok.2
    simp only; omega
  have hll : (unR p h (wdsL M A (LG p h))).length ≤ 800000 := by
    rw [t1, unL_len]
    have h1 := hu.2.1
    have h2 := C.h
    have h3 := C.p
    unfold unN; omega
  generalize unR p h (wdsL M A (LG p h)) = l at *
  have sl := s4.len
  have hbl : slB v4 ≠ some b := s4.ne wb
  have g5 := gE (.cells [.int .i64 0] 1)
  have sM : SlM c2 2 B H (upH H4 (N.n 3) (.cells [.int .i64 0] 1)) (.slice (some ⟨b, 0, none⟩) M.length c1) M := .inr ⟨b, c1, rest, rfl, bb, f0.dm _ h0b, hle, by rw [lk_upH, eqb e3b.symm, cond_false]; exact ub⟩
  have s5 : SlM w2 2 B ((N1.n 6, .loop (N1.r 6) .over) :: H2) (upH H4 (N.n 3) (.cells [.int .i64 0] 1)) v4 l := s4.mono fun y c hy e => by
    rw [lk_upH, eqb (fun h' => s4.ne wq3 (by rw [← h']; exact hy)), cond_false]; exact e
  simp -implicitDefEqProofs (maxSteps := 10000000) (disch := omega) only [TgL, LgL, GgL_cellsStore, GgL_sCl, GgL_gU, GgL_wloglog, Vwloglog, Twloglog, Lwloglog, Gwloglog_10, V10_eq, Gwloglog_13, V13_eq, Gwloglog_7, V7_eq, Gwloglog_wlogwant, Vwlogwant, Twlogwant, Lwlogwant, GgL_wlogwant, DgL_wlogcaught, Uwlogcaught, Lwlogcaught, hB, hR, hI, itR2_wloglog1, List.cons_append, EgL, j6, j1, b16, x16, b11, rb11, hvc, y06, wc2, b0, rb0, e4, u2, u3, b2, b3, rb2, rb3, k4, k4', k42, n23, n32, b4, R4, sl, bt, bf, all1, ress, res1, retV, Value.cells, reduceIte, reduceCtorEq, Int.reduceLT, Int.reduceLE, Int.reduceToNat, Int.reduceAdd, Int.reduceSub, Int.reduceMul, Int.reduceNeg, Nat.reduceMul, Nat.reduceAdd, Nat.reduceSub, Nat.reduceBEq, Nat.reduceEqDiff, Nat.reduceLT, Nat.reduceLeDiff, Int.reduceBEq, Int.reduceEq, Nat.reducePow, Int.reducePow, Int.reduceGT, Int.reduceGE, Int.reduceBNe, newsV_s, ev1, ev2, ev3, ev4]
  clear hX
  generalize hX : exec B _ _ (LC.loop _) _ = o
  obtain ⟨x, ⟨ts6, H6, N6⟩, ho, rfl, g6, k6, s6, kp⟩ := (show Ok o _ by rw [← hX]; exact loopLy (o6 := N.n 2) (o7 := N.n 3) (ow := N1.n 0) g5 rfl sM hM s5 hbl hll hin (by rw [lk_upH, n03, cond_false]; exact u0) (hB1 0) (nbi 0) ⟨rfl, rfl, rfl, rfl, rfl, rfl, rfl⟩ (by omega))
  subst ho
  simp only at g6 k6 s6 kp
  have v0 := k6 _ _ (nbi 0) (by rw [lk_upH, n03, cond_false]; exact u0)
  have v2 := k6 _ _ e2b (by rw [lk_upH, n23, cond_false]; exact u2)
  have v3 := k6 _ _ e3b (by rw [lk_upH, beq_self_eq_true, cond_true])
  simp -implicitDefEqProofs (maxSteps := 10000000) (disch := omega) only [TgL, LgL, GgL_cellsStore, GgL_sCl, GgL_gU, GgL_wloglog, Vwloglog, Twloglog, Lwloglog, Gwloglog_10, V10_eq, Gwloglog_13, V13_eq, Gwloglog_7, V7_eq, Gwloglog_wlogwant, Vwlogwant, Twlogwant, Lwlogwant, GgL_wlogwant, DgL_wlogcaught, Uwlogcaught, Lwlogcaught, hB, hR, hI, itR2_wloglog1, List.cons_append, EgL, kp.l, kp.t6, kp.t7, kp.t8, kp.t37, kp.t38, kp.t39, v0, v2, v3, b10, rb10, b2, rb2, b3, rb3, n23, n32, bt, bf, all1, ress, res1, retV, Value.cells, reduceIte, reduceCtorEq, Int.reduceLT, Int.reduceLE, Int.reduceToNat, Int.reduceAdd, Int.reduceSub, Int.reduceMul, Int.reduceNeg, Nat.reduceMul, Nat.reduceAdd, Nat.reduceSub, Nat.reduceBEq, Nat.reduceEqDiff, Nat.reduceLT, Nat.reduceLeDiff, Int.reduceBEq, Int.reduceEq, Nat.reducePow, Int.reducePow, Int.reduceGT, Int.reduceGE, Int.reduceBNe, newsV_s, ev1, ev2, ev3, ev4]
  have z2' := good_up (k := .cells [.slice (some ⟨b, 0, none⟩) M.length c1] 1) g6 b2 v2
  have z3 := good_up (k := .cells [.int .i64 0] 1) z2' b3 (by rw [lk_upH, n32, cond_false]; exact v3)
  have f6 : Fr H H6 := fun y c e => by
    have h1 : y ≠ b := fun h => by rw [← h, f0 _ _ e] at h0b; cases h0b
    exact k6 _ _ h1 (fE (.cells [.int .i64 0] 1) _ _ e)
  have fz := fr_up (k := .cells [.int .i64 0] 1) (fr_up (k := .cells [.slice (some ⟨b, 0, none⟩) M.length c1] 1) f6 (lk_N hN 2)) (lk_N hN 3)
  refine ⟨_, _, _, rfl, z3, fz, SlM.mono s6 fun y c hy e => ?_⟩
  have hyb : y = b := by simpa [slB] using hy.symm
  subst hyb
  rw [lk_upH, eqb e3b.symm, cond_false, lk_upH, eqb e2b.symm, cond_false]; exact e
end Go.Proofs.YtfhiplfagejfoaaDoor
namespace Go.Proofs.YtfhiplfagejfoaaDoor
open Go.Proofs.YtfhiplfagejfoaaDoor.K Go.ChangeShapes Go.WideShapes Go.ChangeAt Go.RowKit 
set_option maxRecDepth 100000
set_option linter.unusedSimpArgs false
set_option linter.unusedVariables false
def Lref16may : FnL := ⟨(.seq (.ops [⟨(some 3), .box (.tmp 0), none⟩, ⟨(some 4), .box (.tmp 1), none⟩, ⟨(some 6), .mv (.const (.int .i64 0)), none⟩])
 (.seq (.seq (.ops [⟨(some 7), .load true 3 (.tmp 3), none⟩, ⟨(some 8), .call (.func 39) [(.tmp 7)], none⟩, ⟨(some 9), .un .not (.tmp 8), none⟩])
 (.cond (.tmp 9) (.seq (.ops [⟨(some 6), .mv (.const (.int .i64 5)), none⟩])
 .ret)
 .skip))
 (.seq (.seq (.draw [⟨⟨(some 10), .faddr 0 (.tmp 4), none⟩, []⟩, ⟨⟨(some 11), .load false 1 (.tmp 10), none⟩, []⟩, ⟨⟨(some 12), .len false (.tmp 11), none⟩, []⟩, ⟨⟨(some 13), .load true 3 (.tmp 3), none⟩, []⟩, ⟨⟨(some 14), .call (.func 35) [(.tmp 13)], none⟩, [⟨(some 11), .load false 1 (.tmp 10), none⟩]⟩, ⟨⟨(some 15), .bin .neq (.tmp 12) (.tmp 14), none⟩, []⟩, ⟨⟨(some 16), .mv (.tmp 15), none⟩, []⟩, ⟨⟨(some 17), .mv (.tmp 2), (some (16, false))⟩, []⟩, ⟨⟨(some 18), .bin .lss (.tmp 17) (.const (.int .i64 0)), (some (16, false))⟩, []⟩, ⟨⟨(some 19), .pick (.tmp 16) (.const (.bool true)) (.tmp 18), none⟩, []⟩, ⟨⟨(some 20), .mv (.tmp 19), none⟩, []⟩, ⟨⟨(some 21), .mv (.tmp 2), (some (20, false))⟩, []⟩, ⟨⟨(some 22), .faddr 1 (.tmp 3), (some (20, false))⟩, []⟩, ⟨⟨(some 23), .load false 1 (.tmp 22), (some (20, false))⟩, []⟩, ⟨⟨(some 24), .bin .geq (.tmp 21) (.tmp 23), (some (20, false))⟩, []⟩, ⟨⟨(some 25), .pick (.tmp 20) (.const (.bool true)) (.tmp 24), none⟩, []⟩])
 (.cond (.tmp 25) (.seq (.ops [⟨(some 6), .mv (.const (.int .i64 1)), none⟩])
 .ret)
 .skip))
 (.seq (.ops [⟨(some 6), .mv (.const (.int .i64 0)), none⟩])
 .ret)))),
 26, [.tmp 6]⟩
theorem lowref16may : lowerFn Tryd.prog Tryd.f53 = some Lref16may := by kernel_rfl
noncomputable def Gref16may (B : OH) : Nat → Cs
  | 39 => Vref04Fits B
  | 35 => Vref04Size B
  | _ => fun _ _ _ => none
theorem Gref16may_ref04Fits {B : OH} : Gref16may B 39 = Vref04Fits B := rfl
theorem Gref16may_ref04Size {B : OH} : Gref16may B 35 = Vref04Size B := rfl
theorem sGref16may {w0 : World} {B : OH} : SoundG Tryd.prog w0 B { f := Gref16may B } := .of fun k => by
  unfold Gref16may
  split
  · exact .inr ⟨enref04Fits, sVref04Fits⟩
  · exact .inr ⟨enref04Size, sVref04Size⟩
  · exact .inl fun _ _ _ => rfl
theorem enref16may : Enter Tryd.prog 53 := .of Tryd.func53 (by kernel_rfl) (by kernel_rfl)
noncomputable def Tref16may (B : OH) : Cs := callF B { f := Gref16may B } 1000000 Lref16may
theorem sTref16may {w0 : World} {B : OH} : SoundC Tryd.prog w0 B 53 (Tref16may B) := callF_sound mixedOrders sGref16may 1000000 Tryd.func53 lowref16may
noncomputable def Fref16may (B : OH) : List Value → Option Value := kval B (Tref16may B)
noncomputable def Vref16may (B : OH) : Cs := fun a H N => pvE (Fref16may B a) H N
theorem Vref16may_eq {B : OH} {a : List Value} {H : HL} {N : St} : Vref16may B a H N = pvE (Fref16may B a) H N := rfl
theorem sVref16may {w0 : World} {B : OH} : SoundC Tryd.prog w0 B 53 (Vref16may B) := sTref16may.ofVal
theorem rMay {B : OH} (hG : ∃ H N, good B H N) {kk p cc h : Nat} (C : Cf kk p cc h) {a : Option Addr} {n c : Nat} (q : Int) : Fref16may B [.agg #[.int .i64 (kk : Int), .int .i64 (p : Int), .int .i64 (cc : Int)], .agg #[.slice a n c], .int .i64 q] = some (.int .i64 (if (0 ≤ q ∧ q < (p : Int)) ∧ n = bs p h 5 then 0 else 1)) := by
  refine kval_eq hG fun H N hN => ?_
  have hB := good_B hN
  have hR := good_rdB hN
  have hI := beqN hN.1.1
  have e1 := rFits1 hG C
  have e2 := rSize hG C
  by_cases hn : n = bs p h 5
  · subst hn
    have hb : (((bs p h 5 : Nat) : Int) != ((bs p h 5 : Nat) : Int)) = false := by simp
    by_cases h1 : q < 0
    · rw [if_neg (by omega)]
      simp -implicitDefEqProofs (maxSteps := 10000000) (disch := omega) only [Tref16may, Lref16may, Gref16may_ref04Fits, Vref04Fits_eq, Gref16may_ref04Size, Vref04Size_eq, hB, hR, hI, e1, e2, hb, h1, bt, bf, all1, ress, res1, retV, Value.cells, reduceIte, reduceCtorEq, Int.reduceLT, Int.reduceLE, Int.reduceToNat, Int.reduceAdd, Int.reduceSub, Int.reduceMul, Int.reduceNeg, Nat.reduceMul, Nat.reduceAdd, Nat.reduceSub, Nat.reduceBEq, Nat.reduceEqDiff, Nat.reduceLT, Nat.reduceLeDiff, Int.reduceBEq, Int.reduceEq, Nat.reducePow, Int.reducePow, Int.reduceGT, Int.reduceGE, Int.reduceBNe, newsV_s, ev1, ev2, ev3, ev4]
      with_reducible refine done2 ?_
      repeat (first | refine ext_new hN ?_ | exact fun _ _ h => h)
    · by_cases h2 : q ≥ (p : Int)
      · rw [if_neg (by omega)]
        simp -implicitDefEqProofs (maxSteps := 10000000) (disch := omega) only [Tref16may, Lref16may, Gref16may_ref04Fits, Vref04Fits_eq, Gref16may_ref04Size, Vref04Size_eq, hB, hR, hI, e1, e2, hb, h1, h2, bt, bf, all1, ress, res1, retV, Value.cells, reduceIte, reduceCtorEq, Int.reduceLT, Int.reduceLE, Int.reduceToNat, Int.reduceAdd, Int.reduceSub, Int.reduceMul, Int.reduceNeg, Nat.reduceMul, Nat.reduceAdd, Nat.reduceSub, Nat.reduceBEq, Nat.reduceEqDiff, Nat.reduceLT, Nat.reduceLeDiff, Int.reduceBEq, Int.reduceEq, Nat.reducePow, Int.reducePow, Int.reduceGT, Int.reduceGE, Int.reduceBNe, newsV_s, ev1, ev2, ev3, ev4]
        with_reducible refine done2 ?_
        repeat (first | refine ext_new hN ?_ | exact fun _ _ h => h)
      · rw [if_pos ⟨by omega, rfl⟩]
        simp -implicitDefEqProofs (maxSteps := 10000000) (disch := omega) only [Tref16may, Lref16may, Gref16may_ref04Fits, Vref04Fits_eq, Gref16may_ref04Size, Vref04Size_eq, hB, hR, hI, e1, e2, hb, h1, h2, bt, bf, all1, ress, res1, retV, Value.cells, reduceIte, reduceCtorEq, Int.reduceLT, Int.reduceLE, Int.reduceToNat, Int.reduceAdd, Int.reduceSub, Int.reduceMul, Int.reduceNeg, Nat.reduceMul, Nat.reduceAdd, Nat.reduceSub, Nat.reduceBEq, Nat.reduceEqDiff, Nat.reduceLT, Nat.reduceLeDiff, Int.reduceBEq, Int.reduceEq, Nat.reducePow, Int.reducePow, Int.reduceGT, Int.reduceGE, Int.reduceBNe, newsV_s, ev1, ev2, ev3, ev4]
        with_reducible refine done2 ?_
        repeat (first | refine ext_new hN ?_ | exact fun _ _ h => h)
  · rw [if_neg (fun h' => hn h'.2)]
    have hb : ((n : Int) != ((bs p h 5 : Nat) : Int)) = true := by simp; omega
    simp -implicitDefEqProofs (maxSteps := 10000000) (disch := omega) only [Tref16may, Lref16may, Gref16may_ref04Fits, Vref04Fits_eq, Gref16may_ref04Size, Vref04Size_eq, hB, hR, hI, e1, e2, hb, bt, bf, all1, ress, res1, retV, Value.cells, reduceIte, reduceCtorEq, Int.reduceLT, Int.reduceLE, Int.reduceToNat, Int.reduceAdd, Int.reduceSub, Int.reduceMul, Int.reduceNeg, Nat.reduceMul, Nat.reduceAdd, Nat.reduceSub, Nat.reduceBEq, Nat.reduceEqDiff, Nat.reduceLT, Nat.reduceLeDiff, Int.reduceBEq, Int.reduceEq, Nat.reducePow, Int.reducePow, Int.reduceGT, Int.reduceGE, Int.reduceBNe, newsV_s, ev1, ev2, ev3, ev4]
    with_reducible refine done2 ?_
    repeat (first | refine ext_new hN ?_ | exact fun _ _ h => h)
theorem rMayn {B : OH} (hG : ∃ H N, good B H N) {k p c : Int} (hn : ¬ fitI k p c) (v : Value) (q : Int) : Fref16may B [.agg #[.int .i64 k, .int .i64 p, .int .i64 c], .agg #[v], .int .i64 q] = some (.int .i64 5) := by
  refine kval_eq hG fun H N hN => ?_
  have hB := good_B hN
  have hR := good_rdB hN
  have hI := beqN hN.1.1
  have e1 := rFitsn hG k p c hn
  simp -implicitDefEqProofs (maxSteps := 10000000) (disch := omega) only [Tref16may, Lref16may, Gref16may_ref04Fits, Vref04Fits_eq, Gref16may_ref04Size, Vref04Size_eq, hB, hR, hI, e1, bt, bf, all1, ress, res1, retV, Value.cells, reduceIte, reduceCtorEq, Int.reduceLT, Int.reduceLE, Int.reduceToNat, Int.reduceAdd, Int.reduceSub, Int.reduceMul, Int.reduceNeg, Nat.reduceMul, Nat.reduceAdd, Nat.reduceSub, Nat.reduceBEq, Nat.reduceEqDiff, Nat.reduceLT, Nat.reduceLeDiff, Int.reduceBEq, Int.reduceEq, Nat.reducePow, Int.reducePow, Int.reduceGT, Int.reduceGE, Int.reduceBNe, newsV_s, ev1, ev2, ev3, ev4]
  with_reducible refine done2 ?_
  repeat (first | refine ext_new hN ?_ | exact fun _ _ h => h)
def Lref16Log : FnL := ⟨(.seq (.ops [⟨(some 3), .box (.tmp 0), none⟩, ⟨(some 4), .box (.tmp 1), none⟩, ⟨(some 6), .mv (.const (.slice none 0 0)), none⟩])
 (.seq (.ops [⟨(some 12), .load true 3 (.tmp 3), none⟩, ⟨(some 13), .mv (.tmp 2), none⟩, ⟨(some 14), .call (.func 37) [(.tmp 12), (.const (.int .i64 3)), (.tmp 13)], none⟩, ⟨(some 11), .mv (.tmp 14), none⟩, ⟨(some 15), .ext (.tmp 11) 0, none⟩, ⟨(some 16), .ext (.tmp 11) 1, none⟩, ⟨(some 7), .mv (.tmp 15), none⟩, ⟨(some 8), .mv (.tmp 16), none⟩])
 (.seq (.ops [⟨(some 9), .mv (.const (.slice none 0 0)), none⟩])
 (.seq (.seq (.ops [⟨(some 10), .mv (.const (.int .i64 0)), none⟩])
 (.block 0 (.loop (.seq (.seq (.ops [⟨(some 17), .mv (.tmp 10), none⟩, ⟨(some 18), .load true 3 (.tmp 3), none⟩, ⟨(some 19), .call (.func 40) [(.tmp 18)], none⟩, ⟨(some 20), .bin .lss (.tmp 17) (.tmp 19), none⟩])
 (.cond (.tmp 20) .skip
 (.exit 0)))
 (.seq (.block 1 (.ops [⟨(some 23), .mv (.tmp 9), none⟩, ⟨(some 24), .faddr 0 (.tmp 4), none⟩, ⟨(some 25), .load false 1 (.tmp 24), none⟩, ⟨(some 26), .mv (.tmp 7), none⟩, ⟨(some 27), .mv (.tmp 10), none⟩, ⟨(some 28), .bin .add (.tmp 26) (.tmp 27), none⟩, ⟨(some 29), .iaddrS 2 (.tmp 25) (.tmp 28), none⟩, ⟨(some 30), .faddr 0 (.tmp 29), none⟩, ⟨(some 31), .load false 1 (.tmp 30), none⟩, ⟨(some 32), .buildS [(.int .u64 0)] 1 [(0, 1, (.tmp 31))], none⟩, ⟨(some 33), .app [(.int .u64 0)] 8 (.tmp 23) (.tmp 32), none⟩, ⟨(some 9), .mv (.tmp 33), none⟩]))
 (.ops [⟨(some 21), .mv (.tmp 10), none⟩, ⟨(some 22), .bin .add (.tmp 21) (.const (.int .i64 1)), none⟩, ⟨(some 10), .mv (.tmp 22), none⟩]))))))
 (.seq (.ops [⟨(some 34), .mv (.tmp 9), none⟩, ⟨(some 6), .mv (.tmp 34), none⟩])
 .ret))))),
 35, [.tmp 6]⟩
theorem lowref16Log : lowerFn Tryd.prog Tryd.f54 = some Lref16Log := by kernel_rfl
noncomputable def Gref16Log (B : OH) : Nat → Cs
  | 37 => Vref04At B
  | 40 => VrS B
  | _ => fun _ _ _ => none
theorem Gref16Log_ref04At {B : OH} : Gref16Log B 37 = Vref04At B := rfl
theorem Gref16Log_rS {B : OH} : Gref16Log B 40 = VrS B := rfl
theorem sGref16Log {w0 : World} {B : OH} : SoundG Tryd.prog w0 B { f := Gref16Log B } := .of fun k => by
  unfold Gref16Log
  split
  · exact .inr ⟨enref04At, sVref04At⟩
  · exact .inr ⟨enrS, sVrS⟩
  · exact .inl fun _ _ _ => rfl
theorem enref16Log : Enter Tryd.prog 54 := .of Tryd.func54 (by kernel_rfl) (by kernel_rfl)
noncomputable def Tref16Log (B : OH) : Cs := callF B { f := Gref16Log B } 1000000 Lref16Log
theorem sTref16Log {w0 : World} {B : OH} : SoundC Tryd.prog w0 B 54 (Tref16Log B) := callF_sound mixedOrders sGref16Log 1000000 Tryd.func54 lowref16Log
noncomputable def Vref16Log (B : OH) : Cs := Tref16Log B
theorem sVref16Log {w0 : World} {B : OH} : SoundC Tryd.prog w0 B 54 (Vref16Log B) := sTref16Log
structure KLo (c m A : Nat) (vo : Value) (i : Nat) (ts : List Value) : Prop where
  l : ts.length = 35
  t3 : gt ts 3 = .pointer (some ⟨c, 0, none⟩)
  t4 : gt ts 4 = .pointer (some ⟨m, 0, none⟩)
  t7 : gt ts 7 = .int .i64 (A : Int)
  t9 : gt ts 9 = vo
  t10 : gt ts 10 = .int .i64 (i : Int)
def lbLo : LC := (.seq (.seq (.ops [⟨(some 17), .mv (.tmp 10), none⟩, ⟨(some 18), .load true 3 (.tmp 3), none⟩, ⟨(some 19), .call (.func 40) [(.tmp 18)], none⟩, ⟨(some 20), .bin .lss (.tmp 17) (.tmp 19), none⟩])
 (.cond (.tmp 20) .skip
 (.exit 0)))
 (.seq (.block 1 (.ops [⟨(some 23), .mv (.tmp 9), none⟩, ⟨(some 24), .faddr 0 (.tmp 4), none⟩, ⟨(some 25), .load false 1 (.tmp 24), none⟩, ⟨(some 26), .mv (.tmp 7), none⟩, ⟨(some 27), .mv (.tmp 10), none⟩, ⟨(some 28), .bin .add (.tmp 26) (.tmp 27), none⟩, ⟨(some 29), .iaddrS 2 (.tmp 25) (.tmp 28), none⟩, ⟨(some 30), .faddr 0 (.tmp 29), none⟩, ⟨(some 31), .load false 1 (.tmp 30), none⟩, ⟨(some 32), .buildS [(.int .u64 0)] 1 [(0, 1, (.tmp 31))], none⟩, ⟨(some 33), .app [(.int .u64 0)] 8 (.tmp 23) (.tmp 32), none⟩, ⟨(some 9), .mv (.tmp 33), none⟩]))
 (.ops [⟨(some 21), .mv (.tmp 10), none⟩, ⟨(some 22), .bin .add (.tmp 21) (.const (.int .i64 1)), none⟩, ⟨(some 10), .mv (.tmp 22), none⟩])))
set_option maxHeartbeats 4000000 in
theorem loopLo {B : OH} {H : HL} {N : St} {vm : Value} {M : List C2} {kk p cc h c m A : Nat} (C : Cf kk p cc h) (hv : SlR c2 2 B H vm M) (hA : A + LG p h ≤ M.length) (hM : M.length ≤ 800000) (hN : good B H N) (bc : B c = none) (bm : B m = none) (lc : lk H c = some (.cells [.int .i64 (kk : Int), .int .i64 (p : Int), .int .i64 (cc : Int)] 3)) (lm : lk H m = some (.cells [vm] 1)) {ts : List Value} (kp : KLo c m A (.slice none 0 0) 0 ts) {F : Nat} (hF : 3000 + LG p h + 1 ≤ F) :
    Ok (exec B { f := Gref16Log B } F (LC.loop lbLo) ⟨ts, H, N⟩) (fun x s => x = .exit 0 ∧ good B s.H s.N ∧ Fr H s.H ∧ ∃ vo, SlM w1 1 B H s.H vo (wdsL M A (LG p h)) ∧ KLo c m A vo (LG p h) s.t) := by
  have hlb := LG_b C
  refine loop_rule (n0 := 3000) (fun q s => ∃ ts H' N' vo, ∃ i : Nat, s = ⟨ts, H', N'⟩ ∧ KLo c m A vo i ts ∧ good B H' N' ∧ Fr H H' ∧ SlM w1 1 B H H' vo (wdsL M A i) ∧ i ≤ LG p h ∧ q = LG p h - i) _ ?_ (LG p h) _ ⟨ts, H, N, _, 0, rfl, kp, hN, Fr.refl, .inl ⟨rfl, rfl⟩, by omega, rfl⟩ _ hF
  clear kp hF F ts hN N
  rintro z q s ⟨ts, H1, N1, vo, i, rfl, kp, g, fr, so, hi, rfl⟩
  have hB := good_B g
  have hR := good_rdB g
  have hI := beqN g.1.1
  have e1 := rLog ⟨H1, N1, g⟩ C
  have lc1 := fr _ _ lc
  have lm1 := fr _ _ lm
  have rc := fun o n => rdB_none (o := o) (n := n) bc
  have rm := fun o n => rdB_none (o := o) (n := n) bm
  have hc1 : ((i + 1 : Nat) : Int) = (i : Int) + 1 := by omega
  by_cases hin : i < LG p h
  case neg =>
    obtain rfl : i = LG p h := by omega
    simp -implicitDefEqProofs (maxSteps := 10000000) (disch := omega) only [Tref16Log, Lref16Log, Gref16Log_ref04At, Vref04At_eq, Gref16Log_rS, VrS_eq, hB, hR, hI, lbLo, kp.l, kp.t3, kp.t4, kp.t7, kp.t9, kp.t10, lc1, bc, rc, e1, Int.lt_irrefl, bt, bf, all1, ress, res1, retV, Value.cells, reduceIte, reduceCtorEq, Int.reduceLT, Int.reduceLE, Int.reduceToNat, Int.reduceAdd, Int.reduceSub, Int.reduceMul, Int.reduceNeg, Nat.reduceMul, Nat.reduceAdd, Nat.reduceSub, Nat.reduceBEq, Nat.reduceEqDiff, Nat.reduceLT, Nat.reduceLeDiff, Int.reduceBEq, Int.reduceEq, Nat.reducePow, Int.reducePow, Int.reduceGT, Int.reduceGE, Int.reduceBNe, newsV_s, ev1, ev2, ev3, ev4]
    refine ok_some (.inr ⟨by simp, rfl, g, fr, vo, so, ⟨?_, ?_, ?_, ?_, ?_, ?_⟩⟩)
    all_goals simp (maxSteps := 10000000) (disch := omega) only [kp.l, kp.t3, kp.t4, kp.t7, kp.t9, kp.t10, lenV_sl, Int.toNat_natCast, bft, btf, gtst, st_len, Nat.reduceAdd, Int.cast_ofNat_Int, Nat.reduceBEq, Nat.reduceLT, decide_true, ev2]
  have hin' : (i : Int) < (LG p h : Int) := by omega
  obtain ⟨bv, ov, cv, rfl, _, rv⟩ := hv.at (by omega)
  have hidx : A + i < M.length := by omega
  have r1 : rdO H1 B bv (ov + (A + i) * 2) 1 (rdB B bv (ov + (A + i) * 2) 1) = some [.int .u64 (M.getD (A + i) z2).w] := (rv H1 fr (A + i) 0 1 z2 hidx (by omega)).trans rfl
  have x1 : (A : Int) + (i : Int) = ((A + i : Nat) : Int) := by omega
  have x2 : IntKind.i64.wrap ((A + i : Nat) : Int) = ((A + i : Nat) : Int) := IntWalk.i64_in _ (by omega)
  have x3 : (0 : Int) ≤ ((A + i : Nat) : Int) := by omega
  have hwl := wdsL_len M A i
  have hws : wdsL M A (i + 1) = wdsL M A i ++ [(M.getD (A + i) z2).w] := rfl
  generalize (M.getD (A + i) z2).w = w at *
  obtain ⟨v4, H4, N4, e4, g4, r4, _, s4, _⟩ := push_specM w1_len (bytes := 8) g fr so w rfl (by omega) (by omega)
  rw [← hws] at s4
  simp only [w1] at e4
  simp -implicitDefEqProofs (maxSteps := 10000000) (disch := omega) only [Tref16Log, Lref16Log, Gref16Log_ref04At, Vref04At_eq, Gref16Log_rS, VrS_eq, hB, hR, hI, lbLo, kp.l, kp.t3, kp.t4, kp.t7, kp.t9, kp.t10, lc1, bc, rc, lm1, bm, rm, e1, hin', hidx, r1, x1, x2, x3, e4, bt, bf, all1, ress, res1, retV, Value.cells, reduceIte, reduceCtorEq, Int.reduceLT, Int.reduceLE, Int.reduceToNat, Int.reduceAdd, Int.reduceSub, Int.reduceMul, Int.reduceNeg, Nat.reduceMul, Nat.reduceAdd, Nat.reduceSub, Nat.reduceBEq, Nat.reduceEqDiff, Nat.reduceLT, Nat.reduceLeDiff, Int.reduceBEq, Int.reduceEq, Nat.reducePow, Int.reducePow, Int.reduceGT, Int.reduceGE, Int.reduceBNe, newsV_s, ev1, ev2, ev3, ev4]
  refine ok_some (.inl ⟨rfl, LG p h - (i + 1), by omega, _, H4, N4, v4, i + 1, rfl, ⟨?_, ?_, ?_, ?_, ?_, ?_⟩, g4, r4, s4.toM, by omega, rfl⟩)
  all_goals simp (maxSteps := 10000000) (disch := omega) only [kp.l, kp.t3, kp.t4, kp.t7, kp.t9, kp.t10, lenV_sl, Int.toNat_natCast, bft, btf, gtst, st_len, hc1, Nat.reduceAdd, Int.cast_ofNat_Int, Nat.reduceBEq, Nat.reduceLT, decide_true, ev2]
theorem rLogW {B : OH} {H : HL} {N : St} {vm : Value} {M : List C2} {kk p cc h : Nat} {q : Int} (C : Cf kk p cc h) (hN : good B H N) (hv : SlR c2 2 B H vm M) (hok : memOk p h q M) :
    ∃ v' H' N', Vref16Log B [.agg #[.int .i64 (kk : Int), .int .i64 (p : Int), .int .i64 (cc : Int)], .agg #[vm], .int .i64 q] H N = some (.ret v', H', N') ∧ good B H' N' ∧ Fr H H' ∧ SlM w1 1 B H H' v' (wdsL M (lgA p h q) (LG p h)) := by
  have hB := good_B hN
  have hR := good_rdB hN
  have hI := beqN hN.1.1
  have hG : ∃ H N, good B H N := ⟨H, N, hN⟩
  have hb := lgA_b C hok
  have hlb := LG_b C
  obtain ⟨n, rfl⟩ : ∃ n : Nat, q = (n : Int) := ⟨q.toNat, by have := hok.1; omega⟩
  have e3 := rAt3 hG C (q := n) (by have := hok.1; omega)
  have hlA : bs p h 3 + LG p h * n = lgA p h (n : Int) := rfl
  rw [hlA] at e3
  generalize lgA p h (n : Int) = A at *
  have hvc : vm.cells = #[vm] := by obtain ⟨a, c, rfl, _⟩ := hv; rfl
  have g1 : good B ((N.n 0, .cells [.int .i64 (kk : Int), .int .i64 (p : Int), .int .i64 (cc : Int)] 3) :: H) (sh N) := good_new hN
  have g2 : good B ((N.n 1, .cells [vm] 1) :: (N.n 0, .cells [.int .i64 (kk : Int), .int .i64 (p : Int), .int .i64 (cc : Int)] 3) :: H) (sh (sh N)) := good_new g1
  have f2 : Fr H ((N.n 1, .cells [vm] 1) :: (N.n 0, .cells [.int .i64 (kk : Int), .int .i64 (p : Int), .int .i64 (cc : Int)] 3) :: H) := fr_new g1 (fr_new hN Fr.refl 0) 0
  unfold Vref16Log
  simp -implicitDefEqProofs (maxSteps := 10000000) (disch := omega) only [Tref16Log, Lref16Log, Gref16Log_ref04At, Vref04At_eq, Gref16Log_rS, VrS_eq, hB, hR, hI, e3, hvc, bt, bf, all1, ress, res1, retV, Value.cells, reduceIte, reduceCtorEq, Int.reduceLT, Int.reduceLE, Int.reduceToNat, Int.reduceAdd, Int.reduceSub, Int.reduceMul, Int.reduceNeg, Nat.reduceMul, Nat.reduceAdd, Nat.reduceSub, Nat.reduceBEq, Nat.reduceEqDiff, Nat.reduceLT, Nat.reduceLeDiff, Int.reduceBEq, Int.reduceEq, Nat.reducePow, Int.reducePow, Int.reduceGT, Int.reduceGE, Int.reduceBNe, newsV_s, ev1, ev2, ev3, ev4]
  generalize hX : exec B _ _ (LC.loop _) _ = o
  obtain ⟨x, ⟨ts, H1, N1⟩, rfl, rfl, g3, r3, vo, so, kp⟩ := (show Ok o _ by rw [← hX]; exact loopLo (c := N.n 0) (m := N.n 1) (A := A) C (hv.mono f2) (by omega) (by omega) g2 (hB 0) (hB 1) (by rw [lk_cons, hI]; exact lk_top) lk_top ⟨rfl, rfl, rfl, rfl, rfl, rfl⟩ (by omega))
  simp only at g3 r3 so kp
  simp -implicitDefEqProofs (maxSteps := 10000000) (disch := omega) only [Tref16Log, Lref16Log, Gref16Log_ref04At, Vref04At_eq, Gref16Log_rS, VrS_eq, hB, hR, hI, kp.l, kp.t3, kp.t4, kp.t7, kp.t9, kp.t10, bt, bf, all1, ress, res1, retV, Value.cells, reduceIte, reduceCtorEq, Int.reduceLT, Int.reduceLE, Int.reduceToNat, Int.reduceAdd, Int.reduceSub, Int.reduceMul, Int.reduceNeg, Nat.reduceMul, Nat.reduceAdd, Nat.reduceSub, Nat.reduceBEq, Nat.reduceEqDiff, Nat.reduceLT, Nat.reduceLeDiff, Int.reduceBEq, Int.reduceEq, Nat.reducePow, Int.reducePow, Int.reduceGT, Int.reduceGE, Int.reduceBNe, newsV_s, ev1, ev2, ev3, ev4]
  exact ⟨_, _, _, rfl, g3, f2.trans r3, so.low f2.dm⟩
end Go.Proofs.YtfhiplfagejfoaaDoor
namespace Go.Proofs.YtfhiplfagejfoaaDoor
open Go.Proofs.YtfhiplfagejfoaaDoor.K Go.ChangeShapes Go.WideShapes Go.ChangeAt Go.RowKit 
set_option maxRecDepth 100000
set_option linter.unusedSimpArgs false
set_option linter.unusedVariables false
def LrW : FnL := ⟨(.seq (.ops [⟨(some 3), .box (.tmp 0), none⟩, ⟨(some 4), .box (.tmp 1), none⟩, ⟨(some 6), .alloc [(.slice none 0 0)], none⟩, ⟨(some 7), .mv (.const (.int .i64 0)), none⟩])
 (.seq (.seq (.ops [⟨(some 13), .load true 3 (.tmp 3), none⟩, ⟨(some 14), .load true 1 (.tmp 4), none⟩, ⟨(some 15), .mv (.tmp 2), none⟩, ⟨(some 16), .call (.func 53) [(.tmp 13), (.tmp 14), (.tmp 15)], none⟩, ⟨(some 8), .mv (.tmp 16), none⟩])
 (.seq (.ops [⟨(some 17), .mv (.tmp 8), none⟩, ⟨(some 18), .bin .neq (.tmp 17) (.const (.int .i64 0)), none⟩])
 (.cond (.tmp 18) (.seq (.ops [⟨(some 19), .build [(.slice none 0 0)] [], none⟩, ⟨(some 20), .mv (.tmp 8), none⟩, ⟨none, .store 1 (.tmp 6) (.tmp 19), none⟩, ⟨(some 7), .mv (.tmp 20), none⟩])
 .ret)
 .skip)))
 (.seq (.ops [⟨(some 21), .load true 1 (.tmp 4), none⟩, ⟨(some 22), .call (.func 49) [(.tmp 21)], none⟩, ⟨(some 9), .alloc [(.slice none 0 0)], none⟩, ⟨none, .store 1 (.tmp 9) (.tmp 22), none⟩])
 (.seq (.ops [⟨(some 24), .load true 3 (.tmp 3), none⟩, ⟨(some 25), .mv (.tmp 2), none⟩, ⟨(some 26), .call (.func 37) [(.tmp 24), (.const (.int .i64 3)), (.tmp 25)], none⟩, ⟨(some 23), .mv (.tmp 26), none⟩, ⟨(some 27), .ext (.tmp 23) 0, none⟩, ⟨(some 28), .ext (.tmp 23) 1, none⟩, ⟨(some 10), .mv (.tmp 27), none⟩, ⟨(some 11), .mv (.tmp 28), none⟩])
 (.seq (.seq (.ops [⟨(some 12), .mv (.const (.int .i64 0)), none⟩])
 (.block 0 (.loop (.seq (.seq (.ops [⟨(some 29), .mv (.tmp 12), none⟩, ⟨(some 30), .load true 3 (.tmp 3), none⟩, ⟨(some 31), .call (.func 40) [(.tmp 30)], none⟩, ⟨(some 32), .bin .lss (.tmp 29) (.tmp 31), none⟩])
 (.cond (.tmp 32) .skip
 (.exit 0)))
 (.seq (.block 1 (.ops [⟨(some 35), .faddr 0 (.tmp 9), none⟩, ⟨(some 36), .load false 1 (.tmp 35), none⟩, ⟨(some 37), .mv (.tmp 10), none⟩, ⟨(some 38), .mv (.tmp 12), none⟩, ⟨(some 39), .bin .add (.tmp 37) (.tmp 38), none⟩, ⟨(some 40), .build [(.int .u64 0), (.int .i64 0)] [], none⟩, ⟨(some 41), .iaddrS 2 (.tmp 36) (.tmp 39), none⟩, ⟨none, .store 2 (.tmp 41) (.tmp 40), none⟩]))
 (.ops [⟨(some 33), .mv (.tmp 12), none⟩, ⟨(some 34), .bin .add (.tmp 33) (.const (.int .i64 1)), none⟩, ⟨(some 12), .mv (.tmp 34), none⟩]))))))
 (.seq (.ops [⟨(some 42), .load true 1 (.tmp 9), none⟩, ⟨none, .store 1 (.tmp 6) (.tmp 42), none⟩, ⟨(some 7), .mv (.const (.int .i64 0)), none⟩])
 .ret)))))),
 43, [.cell 6 true 1, .tmp 7]⟩
theorem lowrW : lowerFn Tryd.prog Tryd.f27 = some LrW := by kernel_rfl
noncomputable def GrW (B : OH) : Nat → Cs
  | 49 => Vref03Own B
  | 37 => Vref04At B
  | 40 => VrS B
  | 53 => Vref16may B
  | _ => fun _ _ _ => none
theorem GrW_ref03Own {B : OH} : GrW B 49 = Vref03Own B := rfl
theorem GrW_ref04At {B : OH} : GrW B 37 = Vref04At B := rfl
theorem GrW_rS {B : OH} : GrW B 40 = VrS B := rfl
theorem GrW_ref16may {B : OH} : GrW B 53 = Vref16may B := rfl
theorem sGrW {w0 : World} {B : OH} : SoundG Tryd.prog w0 B { f := GrW B } := .of fun k => by
  unfold GrW
  split
  · exact .inr ⟨enref03Own, sVref03Own⟩
  · exact .inr ⟨enref04At, sVref04At⟩
  · exact .inr ⟨enrS, sVrS⟩
  · exact .inr ⟨enref16may, sVref16may⟩
  · exact .inl fun _ _ _ => rfl
theorem enrW : Enter Tryd.prog 27 := .of Tryd.func27 (by kernel_rfl) (by kernel_rfl)
noncomputable def TrW (B : OH) : Cs := callF B { f := GrW B } 1000000 LrW
theorem sTrW {w0 : World} {B : OH} : SoundC Tryd.prog w0 B 27 (TrW B) := callF_sound mixedOrders sGrW 1000000 Tryd.func27 lowrW
noncomputable def VrW (B : OH) : Cs := TrW B
theorem sVrW {w0 : World} {B : OH} : SoundC Tryd.prog w0 B 27 (VrW B) := sTrW
structure KRw (c o6 ow A i : Nat) (ts : List Value) : Prop where
  l : ts.length = 43
  t3 : gt ts 3 = .pointer (some ⟨c, 0, none⟩)
  t6 : gt ts 6 = .pointer (some ⟨o6, 0, none⟩)
  t9 : gt ts 9 = .pointer (some ⟨ow, 0, none⟩)
  t10 : gt ts 10 = .int .i64 (A : Int)
  t12 : gt ts 12 = .int .i64 (i : Int)
def lbRw : LC := (.seq (.seq (.ops [⟨(some 29), .mv (.tmp 12), none⟩, ⟨(some 30), .load true 3 (.tmp 3), none⟩, ⟨(some 31), .call (.func 40) [(.tmp 30)], none⟩, ⟨(some 32), .bin .lss (.tmp 29) (.tmp 31), none⟩])
 (.cond (.tmp 32) .skip
 (.exit 0)))
 (.seq (.block 1 (.ops [⟨(some 35), .faddr 0 (.tmp 9), none⟩, ⟨(some 36), .load false 1 (.tmp 35), none⟩, ⟨(some 37), .mv (.tmp 10), none⟩, ⟨(some 38), .mv (.tmp 12), none⟩, ⟨(some 39), .bin .add (.tmp 37) (.tmp 38), none⟩, ⟨(some 40), .build [(.int .u64 0), (.int .i64 0)] [], none⟩, ⟨(some 41), .iaddrS 2 (.tmp 36) (.tmp 39), none⟩, ⟨none, .store 2 (.tmp 41) (.tmp 40), none⟩]))
 (.ops [⟨(some 33), .mv (.tmp 12), none⟩, ⟨(some 34), .bin .add (.tmp 33) (.const (.int .i64 1)), none⟩, ⟨(some 12), .mv (.tmp 34), none⟩])))
theorem wr_c2 {L : List C2} {rest : List Value} {i : Nat} (x : C2) (hi : i < L.length) : wr (fl c2 L ++ rest) (i * 2) [.int .u64 x.w, .int .i64 x.l] = some (fl c2 (L.set i x) ++ rest) := by
  have h1 := wr_fl c2_len L i 0 [.int .u64 x.w, .int .i64 x.l] z2 x hi (by simp) rfl
  rw [Nat.add_zero] at h1
  rw [wr_append_left _ _ _ _ (by rw [fl_length c2_len]; simp; omega), h1]; rfl
set_option maxHeartbeats 4000000 in
theorem loopRw {B : OH} {H : HL} {N : St} {M : List C2} {rest : List Value} {kk p cc h c o6 ow A b len cap : Nat} (C : Cf kk p cc h) (hlen : len = M.length) (hA : A + LG p h ≤ M.length) (hM : M.length ≤ 800000) (hN : good B H N) (bc : B c = none) (bo : B ow = none) (bb : B b = none) (lc : lk H c = some (.cells [.int .i64 (kk : Int), .int .i64 (p : Int), .int .i64 (cc : Int)] 3)) (lo : lk H ow = some (.cells [.slice (some ⟨b, 0, none⟩) len cap] 1)) (hlk : lk H b = some (.cells (fl c2 M ++ rest) (cap * 2))) (hcb : c ≠ b) (hob : ow ≠ b) {ts : List Value} (kp : KRw c o6 ow A 0 ts) {F : Nat} (hF : 3000 + LG p h + 1 ≤ F) :
    Ok (exec B { f := GrW B } F (LC.loop lbRw) ⟨ts, H, N⟩) (fun x s => x = .exit 0 ∧ good B s.H s.N ∧ (∀ y c', y ≠ b → lk H y = some c' → lk s.H y = some c') ∧ lk s.H b = some (.cells (fl c2 (wiped M A (LG p h)) ++ rest) (cap * 2)) ∧ KRw c o6 ow A (LG p h) s.t) := by
  have hlb := LG_b C
  subst hlen
  refine loop_rule (n0 := 3000) (fun q s => ∃ ts H' N', ∃ i : Nat, s = ⟨ts, H', N'⟩ ∧ KRw c o6 ow A i ts ∧ good B H' N' ∧ (∀ y c', y ≠ b → lk H y = some c' → lk H' y = some c') ∧ lk H' b = some (.cells (fl c2 (wiped M A i) ++ rest) (cap * 2)) ∧ i ≤ LG p h ∧ q = LG p h - i) _ ?_ (LG p h) _ ⟨ts, H, N, 0, rfl, kp, hN, fun _ _ _ e => e, hlk, by omega, rfl⟩ _ hF
  clear kp hF F ts hN N hlk
  rintro z q s ⟨ts, H1, N1, i, rfl, kp, g, fk, hlk, hi, rfl⟩
  have hB := good_B g
  have hR := good_rdB g
  have hI := beqN g.1.1
  have e1 := rLog ⟨H1, N1, g⟩ C
  have lc1 := fk _ _ hcb lc
  have lo1 := fk _ _ hob lo
  have rc := fun o n => rdB_none (o := o) (n := n) bc
  have ro := fun o n => rdB_none (o := o) (n := n) bo
  have hc1 : ((i + 1 : Nat) : Int) = (i : Int) + 1 := by omega
  by_cases hin : i < LG p h
  case neg =>
    obtain rfl : i = LG p h := by omega
    simp -implicitDefEqProofs (maxSteps := 10000000) (disch := omega) only [TrW, LrW, GrW_ref03Own, GrW_ref04At, Vref04At_eq, GrW_rS, VrS_eq, GrW_ref16may, Vref16may_eq, hB, hR, hI, lbRw, kp.l, kp.t3, kp.t6, kp.t9, kp.t10, kp.t12, lc1, bc, rc, e1, Int.lt_irrefl, bt, bf, all1, ress, res1, retV, Value.cells, reduceIte, reduceCtorEq, Int.reduceLT, Int.reduceLE, Int.reduceToNat, Int.reduceAdd, Int.reduceSub, Int.reduceMul, Int.reduceNeg, Nat.reduceMul, Nat.reduceAdd, Nat.reduceSub, Nat.reduceBEq, Nat.reduceEqDiff, Nat.reduceLT, Nat.reduceLeDiff, Int.reduceBEq, Int.reduceEq, Nat.reducePow, Int.reducePow, Int.reduceGT, Int.reduceGE, Int.reduceBNe, newsV_s, ev1, ev2, ev3, ev4]
    refine ok_some (.inr ⟨by simp, rfl, g, fk, hlk, ⟨?_, ?_, ?_, ?_, ?_, ?_⟩⟩)
    all_goals simp (maxSteps := 10000000) (disch := omega) only [kp.l, kp.t3, kp.t6, kp.t9, kp.t10, kp.t12, lenV_sl, Int.toNat_natCast, bft, btf, gtst, st_len, Nat.reduceAdd, Int.cast_ofNat_Int, Nat.reduceBEq, Nat.reduceLT, decide_true, ev2]
  have hin' : (i : Int) < (LG p h : Int) := by omega
  have hidx : A + i < M.length := by omega
  have x1 : (A : Int) + (i : Int) = ((A + i : Nat) : Int) := by omega
  have x2 : IntKind.i64.wrap ((A + i : Nat) : Int) = ((A + i : Nat) : Int) := IntWalk.i64_in _ (by omega)
  have x3 : (0 : Int) ≤ ((A + i : Nat) : Int) := by omega
  have hw : wr (fl c2 (wiped M A i) ++ rest) ((A + i) * 2) [.int .u64 0, .int .i64 0] = some (fl c2 (wiped M A (i + 1)) ++ rest) := wr_c2 z2 (by rw [wiped_len]; exact hidx)
  simp -implicitDefEqProofs (maxSteps := 10000000) (disch := omega) only [TrW, LrW, GrW_ref03Own, GrW_ref04At, Vref04At_eq, GrW_rS, VrS_eq, GrW_ref16may, Vref16may_eq, hB, hR, hI, lbRw, kp.l, kp.t3, kp.t6, kp.t9, kp.t10, kp.t12, lc1, bc, rc, lo1, bo, ro, e1, hin', hidx, x1, x2, x3, hlk, bb, hw, bt, bf, all1, ress, res1, retV, Value.cells, reduceIte, reduceCtorEq, Int.reduceLT, Int.reduceLE, Int.reduceToNat, Int.reduceAdd, Int.reduceSub, Int.reduceMul, Int.reduceNeg, Nat.reduceMul, Nat.reduceAdd, Nat.reduceSub, Nat.reduceBEq, Nat.reduceEqDiff, Nat.reduceLT, Nat.reduceLeDiff, Int.reduceBEq, Int.reduceEq, Nat.reducePow, Int.reducePow, Int.reduceGT, Int.reduceGE, Int.reduceBNe, newsV_s, ev1, ev2, ev3, ev4]
  have gu := good_up (k := .cells (fl c2 (wiped M A (i + 1)) ++ rest) (cap * 2)) g bb hlk
  refine ok_some (.inl ⟨rfl, LG p h - (i + 1), by omega, _, _, _, i + 1, rfl, ⟨?_, ?_, ?_, ?_, ?_, ?_⟩, gu, fun y c' h1 e => ?_, ?_, by omega, rfl⟩)
  rotate_right
  · rw [lk_upH, beq_self_eq_true, cond_true]
  rotate_right
  · rw [lk_upH, eqb h1, cond_false]; exact fk y c' h1 e
  all_goals simp (maxSteps := 10000000) (disch := omega) only [kp.l, kp.t3, kp.t6, kp.t9, kp.t10, kp.t12, lenV_sl, Int.toNat_natCast, bft, btf, gtst, st_len, hc1, Nat.reduceAdd, Int.cast_ofNat_Int, Nat.reduceBEq, Nat.reduceLT, decide_true, ev2]
theorem slm_elim {B : OH} {H0 H : HL} {v : Value} {L : List C2} (h : SlM c2 2 B H0 H v L) (hL : 0 < L.length) : ∃ b cap rest, v = .slice (some ⟨b, 0, none⟩) L.length cap ∧ B b = none ∧ lk H0 b = none ∧ L.length ≤ cap ∧ lk H b = some (.cells (fl c2 L ++ rest) (cap * 2)) := by
  rcases h with ⟨h0, _⟩ | h
  · rw [h0] at hL; simp at hL
  · exact h
set_option maxHeartbeats 8000000 in
theorem rWipe {B : OH} {H : HL} {N : St} {vm : Value} {M : List C2} {kk p cc h : Nat} {q : Int} (C : Cf kk p cc h) (hN : good B H N) (hv : SlW c2 2 B H vm M) (hM : M.length ≤ 800000) :
    ∃ v' H' N', VrW B [.agg #[.int .i64 (kk : Int), .int .i64 (p : Int), .int .i64 (cc : Int)], .agg #[vm], .int .i64 q] H N = some (.ret (.tuple #[.agg #[v'], .int .i64 (wipE p h q M)]), H', N') ∧ good B H' N' ∧ Fr H H' ∧ SlM c2 2 B H H' v' (wipR p h q M) := by
  have hB := good_B hN
  have hR := good_rdB hN
  have hI := beqN hN.1.1
  have hG : ∃ H N, good B H N := ⟨H, N, hN⟩
  obtain ⟨am, cm, rfl, _⟩ := id hv
  have em := rMay hG C (a := am) (n := M.length) (c := cm) q
  obtain ⟨H0, hH0⟩ : ∃ H0, H0 = (N.n 2, KB.cells [.slice none 0 0] 1) :: (N.n 1, .cells [.slice am M.length cm] 1) :: (N.n 0, .cells [.int .i64 (kk : Int), .int .i64 (p : Int), .int .i64 (cc : Int)] 3) :: H := ⟨_, rfl⟩
  have g0 : good B H0 (sh (sh (sh N))) := by rw [hH0]; exact good_new (good_new (good_new hN))
  have f0 : Fr H H0 := by
    rw [hH0]
    have a1 := good_new (k := .cells [.int .i64 (kk : Int), .int .i64 (p : Int), .int .i64 (cc : Int)] 3) hN
    have a2 := good_new (k := .cells [.slice am M.length cm] 1) a1
    exact fr_new a2 (fr_new a1 (fr_new hN Fr.refl 0) 0) 0
  have q2 : lk H0 (N.n 2) = some (.cells [.slice none 0 0] 1) := by rw [hH0]; simp only [lk_cons, hI]; rfl
  have q0 : lk H0 (N.n 0) = some (.cells [.int .i64 (kk : Int), .int .i64 (p : Int), .int .i64 (cc : Int)] 3) := by rw [hH0]; simp only [lk_cons, hI]; rfl
  have q1 : lk H0 (N.n 1) = some (.cells [.slice am M.length cm] 1) := by rw [hH0]; simp only [lk_cons, hI]; rfl
  have b0 := hB 0
  have b1 := hB 1
  have b2 := hB 2
  have rb0 := fun o n => rdB_none (o := o) (n := n) b0
  have rb1 := fun o n => rdB_none (o := o) (n := n) b1
  have rb2 := fun o n => rdB_none (o := o) (n := n) b2
  unfold VrW
  by_cases hok : memOk p h q M
  case neg =>
    have hE : wipE p h q M = 1 := if_neg hok
    have hRR : wipR p h q M = [] := if_neg hok
    rw [hE, hRR]
    have em : Fref16may B [.agg #[.int .i64 (kk : Int), .int .i64 (p : Int), .int .i64 (cc : Int)], .agg #[.slice am M.length cm], .int .i64 q] = some (.int .i64 1) := by rw [em, if_neg (show ¬ ((0 ≤ q ∧ q < (p : Int)) ∧ M.length = bs p h 5) from hok)]
    have g1 : good B (upH H0 (N.n 2) (.cells [.slice none 0 0] 1)) (sh (sh (sh N))) := good_up g0 b2 q2
    have f1 : Fr H (upH H0 (N.n 2) (.cells [.slice none 0 0] 1)) := fr_up f0 (lk_N hN 2)
    have h10 : ((1 : Int) != 0) = true := rfl
    simp -implicitDefEqProofs (maxSteps := 10000000) (disch := omega) only [TrW, LrW, GrW_ref03Own, GrW_ref04At, Vref04At_eq, GrW_rS, VrS_eq, GrW_ref16may, Vref16may_eq, hB, hR, hI, em, h10, bt, bf, all1, ress, res1, retV, Value.cells, reduceIte, reduceCtorEq, Int.reduceLT, Int.reduceLE, Int.reduceToNat, Int.reduceAdd, Int.reduceSub, Int.reduceMul, Int.reduceNeg, Nat.reduceMul, Nat.reduceAdd, Nat.reduceSub, Nat.reduceBEq, Nat.reduceEqDiff, Nat.reduceLT, Nat.reduceLeDiff, Int.reduceBEq, Int.reduceEq, Nat.reducePow, Int.reducePow, Int.reduceGT, Int.reduceGE, Int.reduceBNe, newsV_s, ev1, ev2, ev3, ev4]
    rw [hH0] at g1 f1
    simp only [upH_cons, beq_self_eq_true, cond_true] at g1 f1
    exact ⟨_, _, _, rfl, g1, f1, .inl ⟨rfl, rfl⟩⟩
  have hE : wipE p h q M = 0 := if_pos hok
  have hRR : wipR p h q M = wiped M (lgA p h q) (LG p h) := if_pos hok
  rw [hE, hRR]
  have em : Fref16may B [.agg #[.int .i64 (kk : Int), .int .i64 (p : Int), .int .i64 (cc : Int)], .agg #[.slice am M.length cm], .int .i64 q] = some (.int .i64 0) := by rw [em, if_pos (show (0 ≤ q ∧ q < (p : Int)) ∧ M.length = bs p h 5 from hok)]
  have hb := lgA_b C hok
  have hlb := LG_b C
  obtain ⟨n, rfl⟩ : ∃ n : Nat, q = (n : Int) := ⟨q.toNat, by have := hok.1; omega⟩
  have e3 := rAt3 hG C (q := n) (by have := hok.1; omega)
  have hlA : bs p h 3 + LG p h * n = lgA p h (n : Int) := rfl
  rw [hlA] at e3
  generalize lgA p h (n : Int) = A at *
  obtain ⟨v', H1, N1, eo, g1, r1, s1⟩ := own g0 (hv.mono f0) (by omega)
  obtain ⟨b, cap, rest, rfl, bb, h0b, hle, hlk⟩ := slm_elim s1 (by omega)
  rw [hH0] at eo
  have q0' := r1 _ _ q0
  have q2' := r1 _ _ q2
  have m0 := ne_N g1 q0'
  have m2 := ne_N g1 q2'
  have mb := ne_N g1 hlk
  simp -implicitDefEqProofs (maxSteps := 10000000) (disch := omega) only [TrW, LrW, GrW_ref03Own, GrW_ref04At, Vref04At_eq, GrW_rS, VrS_eq, GrW_ref16may, Vref16may_eq, hB, hR, hI, em, e3, eo, q0', b0, rb0, m0, m2, bne_self_eq_false, good_B g1, good_rdB g1, bt, bf, all1, ress, res1, retV, Value.cells, reduceIte, reduceCtorEq, Int.reduceLT, Int.reduceLE, Int.reduceToNat, Int.reduceAdd, Int.reduceSub, Int.reduceMul, Int.reduceNeg, Nat.reduceMul, Nat.reduceAdd, Nat.reduceSub, Nat.reduceBEq, Nat.reduceEqDiff, Nat.reduceLT, Nat.reduceLeDiff, Int.reduceBEq, Int.reduceEq, Nat.reducePow, Int.reducePow, Int.reduceGT, Int.reduceGE, Int.reduceBNe, newsV_s, ev1, ev2, ev3, ev4]
  have g2 : good B ((N1.n 0, .cells [.slice (some ⟨b, 0, none⟩) M.length cap] 1) :: H1) (sh N1) := good_new g1
  have f2 : Fr H1 ((N1.n 0, .cells [.slice (some ⟨b, 0, none⟩) M.length cap] 1) :: H1) := fr_new g1 Fr.refl 0
  have e0b : N.n 0 ≠ b := fun e => by rw [← e, q0] at h0b; cases h0b
  have e2b : N.n 2 ≠ b := fun e => by rw [← e, q2] at h0b; cases h0b
  have eob : N1.n 0 ≠ b := fun e => by have := mb 0; rw [e] at this; simp at this
  generalize hX : exec B _ _ (LC.loop _) _ = o
  obtain ⟨x, ⟨ts, H3, N3⟩, rfl, rfl, g3, k3, l3, kp⟩ := (show Ok o _ by rw [← hX]; exact loopRw (c := N.n 0) (o6 := N.n 2) (ow := N1.n 0) (A := A) C rfl (by omega) hM g2 b0 (good_B g1 0) bb (f2 _ _ q0') lk_top (f2 _ _ hlk) e0b eob ⟨rfl, rfl, rfl, rfl, rfl, rfl⟩ (by omega))
  simp only at g3 k3 l3 kp
  have w0 := k3 _ _ eob lk_top
  have wq2 := k3 _ _ e2b (f2 _ _ q2')
  have b10 := good_B g1 0
  have rb10 := fun o n => rdB_none (o := o) (n := n) b10
  simp -implicitDefEqProofs (maxSteps := 10000000) (disch := omega) only [TrW, LrW, GrW_ref03Own, GrW_ref04At, Vref04At_eq, GrW_rS, VrS_eq, GrW_ref16may, Vref16may_eq, hB, hR, hI, kp.l, kp.t3, kp.t6, kp.t9, kp.t10, kp.t12, w0, wq2, b10, rb10, b2, rb2, bt, bf, all1, ress, res1, retV, Value.cells, reduceIte, reduceCtorEq, Int.reduceLT, Int.reduceLE, Int.reduceToNat, Int.reduceAdd, Int.reduceSub, Int.reduceMul, Int.reduceNeg, Nat.reduceMul, Nat.reduceAdd, Nat.reduceSub, Nat.reduceBEq, Nat.reduceEqDiff, Nat.reduceLT, Nat.reduceLeDiff, Int.reduceBEq, Int.reduceEq, Nat.reducePow, Int.reducePow, Int.reduceGT, Int.reduceGE, Int.reduceBNe, newsV_s, ev1, ev2, ev3, ev4]
  have g4 := good_up (k := .cells [.slice (some ⟨b, 0, none⟩) M.length cap] 1) g3 b2 wq2
  have f3 : Fr H H3 := fun y c e => k3 y c (fun h' => by rw [← h', f0 _ _ e] at h0b; cases h0b) (f2 _ _ (r1 _ _ (f0 _ _ e)))
  refine ⟨_, _, _, rfl, g4, fr_up f3 (lk_N hN 2), .inr ⟨b, cap, rest, by rw [wiped_len], bb, f0.dm _ h0b, by rw [wiped_len]; exact hle, ?_⟩⟩
  rw [lk_upH, eqb e2b.symm, cond_false]; exact l3
theorem rWipen {B : OH} {H : HL} {N : St} {vm : Value} {k p c q : Int} (hn : ¬ fitI k p c) (hN : good B H N) :
    ∃ v' H' N', VrW B [.agg #[.int .i64 k, .int .i64 p, .int .i64 c], .agg #[vm], .int .i64 q] H N = some (.ret (.tuple #[.agg #[v'], .int .i64 5]), H', N') ∧ good B H' N' ∧ Fr H H' ∧ SlM c2 2 B H H' v' ([] : List C2) := by
  have hB := good_B hN
  have hR := good_rdB hN
  have hI := beqN hN.1.1
  have hG : ∃ H N, good B H N := ⟨H, N, hN⟩
  have e1 := rMayn hG hn vm q
  have h10 : ((5 : Int) != 0) = true := rfl
  unfold VrW
  simp -implicitDefEqProofs (maxSteps := 10000000) (disch := omega) only [TrW, LrW, GrW_ref03Own, GrW_ref04At, Vref04At_eq, GrW_rS, VrS_eq, GrW_ref16may, Vref16may_eq, hB, hR, hI, e1, h10, bt, bf, all1, ress, res1, retV, Value.cells, reduceIte, reduceCtorEq, Int.reduceLT, Int.reduceLE, Int.reduceToNat, Int.reduceAdd, Int.reduceSub, Int.reduceMul, Int.reduceNeg, Nat.reduceMul, Nat.reduceAdd, Nat.reduceSub, Nat.reduceBEq, Nat.reduceEqDiff, Nat.reduceLT, Nat.reduceLeDiff, Int.reduceBEq, Int.reduceEq, Nat.reducePow, Int.reducePow, Int.reduceGT, Int.reduceGE, Int.reduceBNe, newsV_s, ev1, ev2, ev3, ev4]
  exact ⟨_, _, _, rfl, good_new (good_new (good_new hN)), fr_new (good_new (good_new hN)) (fr_new (good_new hN) (fr_new hN Fr.refl 0) 0) 0, .inl ⟨rfl, rfl⟩⟩
def LrL : FnL := ⟨(.seq (.ops [⟨(some 3), .box (.tmp 0), none⟩, ⟨(some 4), .box (.tmp 1), none⟩, ⟨(some 6), .alloc [(.slice none 0 0)], none⟩, ⟨(some 7), .mv (.const (.int .i64 0)), none⟩])
 (.seq (.seq (.ops [⟨(some 13), .load true 3 (.tmp 3), none⟩, ⟨(some 14), .load true 1 (.tmp 4), none⟩, ⟨(some 15), .mv (.tmp 2), none⟩, ⟨(some 16), .call (.func 53) [(.tmp 13), (.tmp 14), (.tmp 15)], none⟩, ⟨(some 8), .mv (.tmp 16), none⟩])
 (.seq (.ops [⟨(some 17), .mv (.tmp 8), none⟩, ⟨(some 18), .bin .neq (.tmp 17) (.const (.int .i64 0)), none⟩])
 (.cond (.tmp 18) (.seq (.ops [⟨(some 19), .build [(.slice none 0 0)] [], none⟩, ⟨(some 20), .mv (.tmp 8), none⟩, ⟨none, .store 1 (.tmp 6) (.tmp 19), none⟩, ⟨(some 7), .mv (.tmp 20), none⟩])
 .ret)
 .skip)))
 (.seq (.draw [⟨⟨(some 22), .load true 3 (.tmp 3), none⟩, []⟩, ⟨⟨(some 23), .load true 3 (.tmp 3), none⟩, []⟩, ⟨⟨(some 24), .load true 1 (.tmp 4), none⟩, []⟩, ⟨⟨(some 25), .mv (.tmp 2), none⟩, []⟩, ⟨⟨(some 26), .call (.func 54) [(.tmp 23), (.tmp 24), (.tmp 25)], none⟩, [⟨(some 22), .load true 3 (.tmp 3), none⟩]⟩, ⟨⟨(some 27), .call (.func 19) [(.tmp 22), (.tmp 26)], none⟩, []⟩, ⟨⟨(some 21), .mv (.tmp 27), none⟩, []⟩, ⟨⟨(some 28), .ext (.tmp 21) 0, none⟩, []⟩, ⟨⟨(some 29), .ext (.tmp 21) 1, none⟩, []⟩, ⟨⟨(some 9), .mv (.tmp 28), none⟩, []⟩, ⟨⟨(some 10), .mv (.tmp 29), none⟩, []⟩])
 (.seq (.seq (.ops [⟨(some 30), .mv (.tmp 10), none⟩, ⟨(some 31), .bin .neq (.tmp 30) (.const (.int .i64 0)), none⟩])
 (.cond (.tmp 31) (.seq (.ops [⟨(some 32), .build [(.slice none 0 0)] [], none⟩, ⟨(some 33), .mv (.tmp 10), none⟩, ⟨none, .store 1 (.tmp 6) (.tmp 32), none⟩, ⟨(some 7), .mv (.tmp 33), none⟩])
 .ret)
 .skip))
 (.seq (.ops [⟨(some 34), .load true 1 (.tmp 4), none⟩, ⟨(some 35), .call (.func 49) [(.tmp 34)], none⟩, ⟨(some 11), .alloc [(.slice none 0 0)], none⟩, ⟨none, .store 1 (.tmp 11) (.tmp 35), none⟩])
 (.seq (.seq (.ops [⟨(some 12), .mv (.const (.int .i64 0)), none⟩])
 (.block 0 (.loop (.seq (.seq (.ops [⟨(some 36), .mv (.tmp 12), none⟩, ⟨(some 37), .mv (.tmp 9), none⟩, ⟨(some 38), .len false (.tmp 37), none⟩, ⟨(some 39), .bin .lss (.tmp 36) (.tmp 38), none⟩])
 (.cond (.tmp 39) .skip
 (.exit 0)))
 (.seq (.block 1 (.draw [⟨⟨(some 42), .faddr 0 (.tmp 11), none⟩, []⟩, ⟨⟨(some 43), .load false 1 (.tmp 42), none⟩, []⟩, ⟨⟨(some 44), .mv (.tmp 9), none⟩, []⟩, ⟨⟨(some 45), .mv (.tmp 12), none⟩, []⟩, ⟨⟨(some 46), .iaddrS 2 (.tmp 44) (.tmp 45), none⟩, []⟩, ⟨⟨(some 47), .faddr 0 (.tmp 46), none⟩, []⟩, ⟨⟨(some 48), .load false 1 (.tmp 47), none⟩, []⟩, ⟨⟨(some 49), .mv (.tmp 9), none⟩, []⟩, ⟨⟨(some 50), .mv (.tmp 12), none⟩, []⟩, ⟨⟨(some 51), .iaddrS 2 (.tmp 49) (.tmp 50), none⟩, []⟩, ⟨⟨(some 52), .faddr 1 (.tmp 51), none⟩, []⟩, ⟨⟨(some 53), .load false 1 (.tmp 52), none⟩, []⟩, ⟨⟨(some 54), .build [(.int .u64 0), (.int .i64 0)] [(0, 1, (.tmp 53))], none⟩, []⟩, ⟨⟨(some 55), .iaddrS 2 (.tmp 43) (.tmp 48), none⟩, []⟩, ⟨⟨none, .store 2 (.tmp 55) (.tmp 54), none⟩, []⟩]))
 (.ops [⟨(some 40), .mv (.tmp 12), none⟩, ⟨(some 41), .bin .add (.tmp 40) (.const (.int .i64 1)), none⟩, ⟨(some 12), .mv (.tmp 41), none⟩]))))))
 (.seq (.ops [⟨(some 56), .load true 1 (.tmp 11), none⟩, ⟨none, .store 1 (.tmp 6) (.tmp 56), none⟩, ⟨(some 7), .mv (.const (.int .i64 0)), none⟩])
 .ret))))))),
 57, [.cell 6 true 1, .tmp 7]⟩
theorem lowrL : lowerFn Tryd.prog Tryd.f25 = some LrL := by kernel_rfl
noncomputable def GrL (B : OH) : Nat → Cs
  | 49 => Vref03Own B
  | 54 => Vref16Log B
  | 19 => VrU B
  | 53 => Vref16may B
  | _ => fun _ _ _ => none
theorem GrL_ref03Own {B : OH} : GrL B 49 = Vref03Own B := rfl
theorem GrL_ref16Log {B : OH} : GrL B 54 = Vref16Log B := rfl
theorem GrL_rU {B : OH} : GrL B 19 = VrU B := rfl
theorem GrL_ref16may {B : OH} : GrL B 53 = Vref16may B := rfl
theorem sGrL {w0 : World} {B : OH} : SoundG Tryd.prog w0 B { f := GrL B } := .of fun k => by
  unfold GrL
  split
  · exact .inr ⟨enref03Own, sVref03Own⟩
  · exact .inr ⟨enref16Log, sVref16Log⟩
  · exact .inr ⟨enrU, sVrU⟩
  · exact .inr ⟨enref16may, sVref16may⟩
  · exact .inl fun _ _ _ => rfl
theorem enrL : Enter Tryd.prog 25 := .of Tryd.func25 (by kernel_rfl) (by kernel_rfl)
noncomputable def TrL (B : OH) : Cs := callF B { f := GrL B } 1000000 LrL
theorem sTrL {w0 : World} {B : OH} : SoundC Tryd.prog w0 B 25 (TrL B) := callF_sound mixedOrders sGrL 1000000 Tryd.func25 lowrL
noncomputable def VrL (B : OH) : Cs := TrL B
theorem sVrL {w0 : World} {B : OH} : SoundC Tryd.prog w0 B 25 (VrL B) := sTrL
theorem rLayn {B : OH} {H : HL} {N : St} {vm : Value} {k p c q : Int} (hn : ¬ fitI k p c) (hN : good B H N) :
    ∃ v' H' N', VrL B [.agg #[.int .i64 k, .int .i64 p, .int .i64 c], .agg #[vm], .int .i64 q] H N = some (.ret (.tuple #[.agg #[v'], .int .i64 5]), H', N') ∧ good B H' N' ∧ Fr H H' ∧ SlM c2 2 B H H' v' ([] : List C2) := by
  have hB := good_B hN
  have hR := good_rdB hN
  have hI := beqN hN.1.1
  have hG : ∃ H N, good B H N := ⟨H, N, hN⟩
  have e1 := rMayn hG hn vm q
  have h10 : ((5 : Int) != 0) = true := rfl
  unfold VrL
  simp -implicitDefEqProofs (maxSteps := 10000000) (disch := omega) only [TrL, LrL, GrL_ref03Own, GrL_ref16Log, GrL_rU, GrL_ref16may, Vref16may_eq, hB, hR, hI, e1, h10, bt, bf, all1, ress, res1, retV, Value.cells, reduceIte, reduceCtorEq, Int.reduceLT, Int.reduceLE, Int.reduceToNat, Int.reduceAdd, Int.reduceSub, Int.reduceMul, Int.reduceNeg, Nat.reduceMul, Nat.reduceAdd, Nat.reduceSub, Nat.reduceBEq, Nat.reduceEqDiff, Nat.reduceLT, Nat.reduceLeDiff, Int.reduceBEq, Int.reduceEq, Nat.reducePow, Int.reducePow, Int.reduceGT, Int.reduceGE, Int.reduceBNe, newsV_s, ev1, ev2, ev3, ev4]
  exact ⟨_, _, _, rfl, good_new (good_new (good_new hN)), fr_new (good_new (good_new hN)) (fr_new (good_new hN) (fr_new hN Fr.refl 0) 0) 0, .inl ⟨rfl, rfl⟩⟩
structure KRl (o6 ow : Nat) (vl : Value) (i : Nat) (ts : List Value) : Prop where
  l : ts.length = 57
  t6 : gt ts 6 = .pointer (some ⟨o6, 0, none⟩)
  t9 : gt ts 9 = vl
  t11 : gt ts 11 = .pointer (some ⟨ow, 0, none⟩)
  t12 : gt ts 12 = .int .i64 (i : Int)
def lbRl : LC := (.seq (.seq (.ops [⟨(some 36), .mv (.tmp 12), none⟩, ⟨(some 37), .mv (.tmp 9), none⟩, ⟨(some 38), .len false (.tmp 37), none⟩, ⟨(some 39), .bin .lss (.tmp 36) (.tmp 38), none⟩])
 (.cond (.tmp 39) .skip
 (.exit 0)))
 (.seq (.block 1 (.draw [⟨⟨(some 42), .faddr 0 (.tmp 11), none⟩, []⟩, ⟨⟨(some 43), .load false 1 (.tmp 42), none⟩, []⟩, ⟨⟨(some 44), .mv (.tmp 9), none⟩, []⟩, ⟨⟨(some 45), .mv (.tmp 12), none⟩, []⟩, ⟨⟨(some 46), .iaddrS 2 (.tmp 44) (.tmp 45), none⟩, []⟩, ⟨⟨(some 47), .faddr 0 (.tmp 46), none⟩, []⟩, ⟨⟨(some 48), .load false 1 (.tmp 47), none⟩, []⟩, ⟨⟨(some 49), .mv (.tmp 9), none⟩, []⟩, ⟨⟨(some 50), .mv (.tmp 12), none⟩, []⟩, ⟨⟨(some 51), .iaddrS 2 (.tmp 49) (.tmp 50), none⟩, []⟩, ⟨⟨(some 52), .faddr 1 (.tmp 51), none⟩, []⟩, ⟨⟨(some 53), .load false 1 (.tmp 52), none⟩, []⟩, ⟨⟨(some 54), .build [(.int .u64 0), (.int .i64 0)] [(0, 1, (.tmp 53))], none⟩, []⟩, ⟨⟨(some 55), .iaddrS 2 (.tmp 43) (.tmp 48), none⟩, []⟩, ⟨⟨none, .store 2 (.tmp 55) (.tmp 54), none⟩, []⟩]))
 (.ops [⟨(some 40), .mv (.tmp 12), none⟩, ⟨(some 41), .bin .add (.tmp 40) (.const (.int .i64 1)), none⟩, ⟨(some 12), .mv (.tmp 41), none⟩])))
set_option maxHeartbeats 4000000 in
theorem loopRl {B : OH} {Hx H : HL} {N : St} {vl : Value} {l : List W2} {M : List C2} {rest : List Value} {o6 ow b len cap : Nat} (hlen : len = M.length) (hM : M.length ≤ 800000) (hN : good B H N) (bo : B ow = none) (bb : B b = none) (lo : lk H ow = some (.cells [.slice (some ⟨b, 0, none⟩) len cap] 1)) (hlk : lk H b = some (.cells (fl c2 M ++ rest) (cap * 2))) (hob : ow ≠ b) (sl : SlM w2 2 B Hx H vl l) (hb : slB vl ≠ some b) (hll : l.length ≤ 800000) (hin : ∀ i, i < l.length → 0 ≤ (l.getD i y2).a ∧ (l.getD i y2).a < (M.length : Int)) {ts : List Value} (kp : KRl o6 ow vl 0 ts) {F : Nat} (hF : 3000 + l.length + 1 ≤ F) :
    Ok (exec B { f := GrL B } F (LC.loop lbRl) ⟨ts, H, N⟩) (fun x s => x = .exit 0 ∧ good B s.H s.N ∧ (∀ y c', y ≠ b → lk H y = some c' → lk s.H y = some c') ∧ lk s.H b = some (.cells (fl c2 (lay M l l.length) ++ rest) (cap * 2)) ∧ KRl o6 ow vl l.length s.t) := by
  subst hlen
  have hlv := sl.len
  refine loop_rule (n0 := 3000) (fun q s => ∃ ts H' N', ∃ i : Nat, s = ⟨ts, H', N'⟩ ∧ KRl o6 ow vl i ts ∧ good B H' N' ∧ (∀ y c', y ≠ b → lk H y = some c' → lk H' y = some c') ∧ lk H' b = some (.cells (fl c2 (lay M l i) ++ rest) (cap * 2)) ∧ i ≤ l.length ∧ q = l.length - i) _ ?_ l.length _ ⟨ts, H, N, 0, rfl, kp, hN, fun _ _ _ e => e, hlk, by omega, rfl⟩ _ hF
  clear kp hF F ts hN N hlk
  rintro z q s ⟨ts, H1, N1, i, rfl, kp, g, fk, hlk, hi, rfl⟩
  have hB := good_B g
  have hR := good_rdB g
  have hI := beqN g.1.1
  have lo1 := fk _ _ hob lo
  have ro := fun o n => rdB_none (o := o) (n := n) bo
  have hc1 : ((i + 1 : Nat) : Int) = (i : Int) + 1 := by omega
  by_cases hlt : i < l.length
  case neg =>
    obtain rfl : i = l.length := by omega
    simp -implicitDefEqProofs (maxSteps := 10000000) (disch := omega) only [TrL, LrL, GrL_ref03Own, GrL_ref16Log, GrL_rU, GrL_ref16may, Vref16may_eq, hB, hR, hI, lbRl, kp.l, kp.t6, kp.t9, kp.t11, kp.t12, hlv, Int.lt_irrefl, bt, bf, all1, ress, res1, retV, Value.cells, reduceIte, reduceCtorEq, Int.reduceLT, Int.reduceLE, Int.reduceToNat, Int.reduceAdd, Int.reduceSub, Int.reduceMul, Int.reduceNeg, Nat.reduceMul, Nat.reduceAdd, Nat.reduceSub, Nat.reduceBEq, Nat.reduceEqDiff, Nat.reduceLT, Nat.reduceLeDiff, Int.reduceBEq, Int.reduceEq, Nat.reducePow, Int.reducePow, Int.reduceGT, Int.reduceGE, Int.reduceBNe, newsV_s, ev1, ev2, ev3, ev4]
    refine ok_some (.inr ⟨by simp, rfl, g, fk, hlk, ⟨?_, ?_, ?_, ?_, ?_⟩⟩)
    all_goals simp (maxSteps := 10000000) (disch := omega) only [kp.l, kp.t6, kp.t9, kp.t11, kp.t12, lenV_sl, Int.toNat_natCast, bft, btf, gtst, st_len, Nat.reduceAdd, Int.cast_ofNat_Int, Nat.reduceBEq, Nat.reduceLT, decide_true, ev2]
  have hlt' : (i : Int) < (l.length : Int) := by omega
  have i0 : (0 : Int) ≤ (i : Int) := by omega
  have sl1 : SlM w2 2 B Hx H1 vl l := sl.mono fun y c hy e => fk y c (fun h' => hb (by rw [← h']; exact hy)) e
  obtain ⟨bv, ov, cv, rfl, _, rv⟩ := (sl1.rd w2_len).at (by omega)
  have r1 : rdO H1 B bv (ov + i * 2) 1 (rdB B bv (ov + i * 2) 1) = some [.int .i64 (l.getD i y2).a] := (rv H1 Fr.refl i 0 1 y2 hlt (by omega)).trans rfl
  have r2 : rdO H1 B bv (ov + i * 2 + 1) 1 (rdB B bv (ov + i * 2 + 1) 1) = some [.int .u64 (l.getD i y2).w] := (rv H1 Fr.refl i 1 1 y2 hlt (by omega)).trans rfl
  have ha := hin i hlt
  have hs : lay M l (i + 1) = (lay M l i).set (l.getD i y2).a.toNat ⟨(l.getD i y2).w, 0⟩ := rfl
  generalize l.getD i y2 = x at *
  obtain ⟨a, w⟩ := x
  simp only at r1 r2 ha hs
  obtain ⟨n, rfl⟩ : ∃ n : Nat, a = (n : Int) := ⟨a.toNat, by omega⟩
  rw [Int.toNat_natCast] at hs
  have hn : n < M.length := by omega
  have n0 : (0 : Int) ≤ (n : Int) := by omega
  have hw : wr (fl c2 (lay M l i) ++ rest) (n * 2) [.int .u64 w, .int .i64 0] = some (fl c2 (lay M l (i + 1)) ++ rest) := by
    rw [hs]; exact wr_c2 ⟨w, 0⟩ (by rw [lay_len]; exact hn)
  simp -implicitDefEqProofs (maxSteps := 10000000) (disch := omega) only [TrL, LrL, GrL_ref03Own, GrL_ref16Log, GrL_rU, GrL_ref16may, Vref16may_eq, hB, hR, hI, lbRl, kp.l, kp.t6, kp.t9, kp.t11, kp.t12, hlv, hlt, hlt', i0, r1, r2, lo1, bo, ro, hn, n0, hlk, bb, hw, bt, bf, all1, ress, res1, retV, Value.cells, reduceIte, reduceCtorEq, Int.reduceLT, Int.reduceLE, Int.reduceToNat, Int.reduceAdd, Int.reduceSub, Int.reduceMul, Int.reduceNeg, Nat.reduceMul, Nat.reduceAdd, Nat.reduceSub, Nat.reduceBEq, Nat.reduceEqDiff, Nat.reduceLT, Nat.reduceLeDiff, Int.reduceBEq, Int.reduceEq, Nat.reducePow, Int.reducePow, Int.reduceGT, Int.reduceGE, Int.reduceBNe, newsV_s, ev1, ev2, ev3, ev4]
  have gu := good_up (k := .cells (fl c2 (lay M l (i + 1)) ++ rest) (cap * 2)) g bb hlk
  refine ok_some (.inl ⟨rfl, l.length - (i + 1), by omega, _, _, _, i + 1, rfl, ⟨?_, ?_, ?_, ?_, ?_⟩, gu, fun y c' h1 e => ?_, ?_, by omega, rfl⟩)
  rotate_right
  · rw [lk_upH, beq_self_eq_true, cond_true]
  rotate_right
  · rw [lk_upH, eqb h1, cond_false]; exact fk y c' h1 e
  all_goals simp (maxSteps := 10000000) (disch := omega) only [kp.l, kp.t6, kp.t9, kp.t11, kp.t12, lenV_sl, Int.toNat_natCast, bft, btf, gtst, st_len, hc1, Nat.reduceAdd, Int.cast_ofNat_Int, Nat.reduceBEq, Nat.reduceLT, decide_true, ev2]
set_option maxHeartbeats 8000000 in
theorem rLay {B : OH} {H : HL} {N : St} {vm : Value} {M : List C2} {kk p cc h : Nat} {q : Int} (hT : Tab B) (C : Cf kk p cc h) (hN : good B H N) (hv : SlW c2 2 B H vm M) (hM : M.length ≤ 800000) (hMs : C2s M) :
    ∃ v' H' N', VrL B [.agg #[.int .i64 (kk : Int), .int .i64 (p : Int), .int .i64 (cc : Int)], .agg #[vm], .int .i64 q] H N = some (.ret (.tuple #[.agg #[v'], .int .i64 (layE p h q M)]), H', N') ∧ good B H' N' ∧ Fr H H' ∧ SlM c2 2 B H H' v' (layR p h q M) := by
  have hB := good_B hN
  have hR := good_rdB hN
  have hI := beqN hN.1.1
  have hG : ∃ H N, good B H N := ⟨H, N, hN⟩
  obtain ⟨am, cm, rfl, _⟩ := id hv
  have em := rMay hG C (a := am) (n := M.length) (c := cm) q
  obtain ⟨H0, hH0⟩ : ∃ H0, H0 = (N.n 2, KB.cells [.slice none 0 0] 1) :: (N.n 1, .cells [.slice am M.length cm] 1) :: (N.n 0, .cells [.int .i64 (kk : Int), .int .i64 (p : Int), .int .i64 (cc : Int)] 3) :: H := ⟨_, rfl⟩
  have g0 : good B H0 (sh (sh (sh N))) := by rw [hH0]; exact good_new (good_new (good_new hN))
  have f0 : Fr H H0 := by
    rw [hH0]
    have a1 := good_new (k := .cells [.int .i64 (kk : Int), .int .i64 (p : Int), .int .i64 (cc : Int)] 3) hN
    have a2 := good_new (k := .cells [.slice am M.length cm] 1) a1
    exact fr_new a2 (fr_new a1 (fr_new hN Fr.refl 0) 0) 0
  have q2 : lk H0 (N.n 2) = some (.cells [.slice none 0 0] 1) := by rw [hH0]; simp only [lk_cons, hI]; rfl
  have q0 : lk H0 (N.n 0) = some (.cells [.int .i64 (kk : Int), .int .i64 (p : Int), .int .i64 (cc : Int)] 3) := by rw [hH0]; simp only [lk_cons, hI]; rfl
  have q1 : lk H0 (N.n 1) = some (.cells [.slice am M.length cm] 1) := by rw [hH0]; simp only [lk_cons, hI]; rfl
  have b0 := hB 0
  have b1 := hB 1
  have b2 := hB 2
  have rb0 := fun o n => rdB_none (o := o) (n := n) b0
  have rb1 := fun o n => rdB_none (o := o) (n := n) b1
  have rb2 := fun o n => rdB_none (o := o) (n := n) b2
  unfold VrL
  by_cases hok : memOk p h q M
  case neg =>
    have hE : layE p h q M = 1 := if_neg hok
    have hRR : layR p h q M = [] := if_neg (fun h' => hok h'.1)
    rw [hE, hRR]
    have em : Fref16may B [.agg #[.int .i64 (kk : Int), .int .i64 (p : Int), .int .i64 (cc : Int)], .agg #[.slice am M.length cm], .int .i64 q] = some (.int .i64 1) := by rw [em, if_neg (show ¬ ((0 ≤ q ∧ q < (p : Int)) ∧ M.length = bs p h 5) from hok)]
    have g1 : good B (upH H0 (N.n 2) (.cells [.slice none 0 0] 1)) (sh (sh (sh N))) := good_up g0 b2 q2
    have f1 : Fr H (upH H0 (N.n 2) (.cells [.slice none 0 0] 1)) := fr_up f0 (lk_N hN 2)
    have h10 : ((1 : Int) != 0) = true := rfl
    simp -implicitDefEqProofs (maxSteps := 10000000) (disch := omega) only [TrL, LrL, GrL_ref03Own, GrL_ref16Log, GrL_rU, GrL_ref16may, Vref16may_eq, hB, hR, hI, em, h10, bt, bf, all1, ress, res1, retV, Value.cells, reduceIte, reduceCtorEq, Int.reduceLT, Int.reduceLE, Int.reduceToNat, Int.reduceAdd, Int.reduceSub, Int.reduceMul, Int.reduceNeg, Nat.reduceMul, Nat.reduceAdd, Nat.reduceSub, Nat.reduceBEq, Nat.reduceEqDiff, Nat.reduceLT, Nat.reduceLeDiff, Int.reduceBEq, Int.reduceEq, Nat.reducePow, Int.reducePow, Int.reduceGT, Int.reduceGE, Int.reduceBNe, newsV_s, ev1, ev2, ev3, ev4]
    rw [hH0] at g1 f1
    simp only [upH_cons, beq_self_eq_true, cond_true] at g1 f1
    exact ⟨_, _, _, rfl, g1, f1, .inl ⟨rfl, rfl⟩⟩
  have hE : layE p h q M = unE p h (wdsL M (lgA p h q) (LG p h)) := if_pos hok
  have hRy : unOk p h (wdsL M (lgA p h q) (LG p h)) → layR p h q M = lay M (unR p h (wdsL M (lgA p h q) (LG p h))) (unR p h (wdsL M (lgA p h q) (LG p h))).length := fun h' => if_pos ⟨hok, h'⟩
  have hRn : ¬ unOk p h (wdsL M (lgA p h q) (LG p h)) → layR p h q M = [] := fun h' => if_neg fun h2 => h' h2.2
  rw [hE]
  have em : Fref16may B [.agg #[.int .i64 (kk : Int), .int .i64 (p : Int), .int .i64 (cc : Int)], .agg #[.slice am M.length cm], .int .i64 q] = some (.int .i64 0) := by rw [em, if_pos (show (0 ≤ q ∧ q < (p : Int)) ∧ M.length = bs p h 5 from hok)]
  have hb := lgA_b C hok
  have hlb := LG_b C
  obtain ⟨vw, H1, N1, e1, g1, r1, s1⟩ := rLogW C g0 ((hv.rd c2_len).mono f0) hok
  obtain ⟨v4, H4, N4, e4, g4, r4, s4⟩ := rUnpack hT C g1 (s1.rd w1_len) (wdsL_u hMs _ _) (by rw [wdsL_len]; omega)
  rw [hH0] at e1
  have q0' := r1 _ _ q0
  have u2 := r4 _ _ (r1 _ _ q2)
  have u1 := r4 _ _ (r1 _ _ q1)
  have u0 := r4 _ _ q0'
  have f4 : Fr H H4 := f0.trans (r1.trans r4)
  by_cases hu : unOk p h (wdsL M (lgA p h q) (LG p h))
  case neg =>
    obtain ⟨t1, t2⟩ := un_no hu
    rw [hRn hu, t2]
    rw [t2] at e4
    have h20 : ((2 : Int) != 0) = true := rfl
    simp -implicitDefEqProofs (maxSteps := 10000000) (disch := omega) only [TrL, LrL, GrL_ref03Own, GrL_ref16Log, GrL_rU, GrL_ref16may, Vref16may_eq, hB, hR, hI, em, e1, e4, h20, q0', u0, u1, u2, b0, b1, b2, rb0, rb1, rb2, bne_self_eq_false, good_B g1, good_rdB g1, good_B g4, good_rdB g4, bt, bf, all1, ress, res1, retV, Value.cells, reduceIte, reduceCtorEq, Int.reduceLT, Int.reduceLE, Int.reduceToNat, Int.reduceAdd, Int.reduceSub, Int.reduceMul, Int.reduceNeg, Nat.reduceMul, Nat.reduceAdd, Nat.reduceSub, Nat.reduceBEq, Nat.reduceEqDiff, Nat.reduceLT, Nat.reduceLeDiff, Int.reduceBEq, Int.reduceEq, Nat.reducePow, Int.reducePow, Int.reduceGT, Int.reduceGE, Int.reduceBNe, newsV_s, ev1, ev2, ev3, ev4]
    refine ⟨_, _, _, rfl, good_up g4 b2 u2, fr_up f4 (lk_N hN 2), .inl ⟨rfl, rfl⟩⟩
  obtain ⟨t1, t2⟩ := un_ok hu
  rw [hRy hu, t2]
  rw [t2] at e4
  have hin : ∀ i, i < (unR p h (wdsL M (lgA p h q) (LG p h))).length → 0 ≤ ((unR p h (wdsL M (lgA p h q) (LG p h))).getD i y2).a ∧ ((unR p h (wdsL M (lgA p h q) (LG p h))).getD i y2).a < (M.length : Int) := fun i hi => by
    rw [t1] at hi ⊢
    rw [unL_len] at hi
    rw [unL_at _ _ _ hi]
    have := okP_b C (hu.2.2.1 i hi)
    have h5 := hok.2
    simp only; omega
  have hll : (unR p h (wdsL M (lgA p h q) (LG p h))).length ≤ 800000 := by
    rw [t1, unL_len]
    have h1 := hu.2.1
    have h2 := C.h
    have h3 := C.p
    unfold unN; omega
  generalize unR p h (wdsL M (lgA p h q) (LG p h)) = l at *
  obtain ⟨v5, H5, N5, e5, g5, r5, s5⟩ := own g4 (hv.mono f4) (by omega)
  obtain ⟨b, cap, rest, rfl, bb, h0b, hle, hlk⟩ := slm_elim s5 (by omega)
  have mb := ne_N g5 hlk
  have x2 := r5 _ _ u2
  simp -implicitDefEqProofs (maxSteps := 10000000) (disch := omega) only [TrL, LrL, GrL_ref03Own, GrL_ref16Log, GrL_rU, GrL_ref16may, Vref16may_eq, hB, hR, hI, em, e1, e4, e5, q0', u0, u1, u2, b0, b1, b2, rb0, rb1, rb2, bne_self_eq_false, good_B g1, good_rdB g1, good_B g4, good_rdB g4, good_B g5, good_rdB g5, bt, bf, all1, ress, res1, retV, Value.cells, reduceIte, reduceCtorEq, Int.reduceLT, Int.reduceLE, Int.reduceToNat, Int.reduceAdd, Int.reduceSub, Int.reduceMul, Int.reduceNeg, Nat.reduceMul, Nat.reduceAdd, Nat.reduceSub, Nat.reduceBEq, Nat.reduceEqDiff, Nat.reduceLT, Nat.reduceLeDiff, Int.reduceBEq, Int.reduceEq, Nat.reducePow, Int.reducePow, Int.reduceGT, Int.reduceGE, Int.reduceBNe, newsV_s, ev1, ev2, ev3, ev4]
  have g6 : good B ((N5.n 0, .cells [.slice (some ⟨b, 0, none⟩) M.length cap] 1) :: H5) (sh N5) := good_new g5
  have f6 : Fr H5 ((N5.n 0, .cells [.slice (some ⟨b, 0, none⟩) M.length cap] 1) :: H5) := fr_new g5 Fr.refl 0
  have e2b : N.n 2 ≠ b := fun e => by rw [← e, u2] at h0b; cases h0b
  have eob : N5.n 0 ≠ b := fun e => by have := mb 0; rw [e] at this; simp at this
  have hvb : slB v4 ≠ some b := by
    intro e
    rcases s4 with ⟨_, h'⟩ | ⟨b', cap', rest', h', _, _, _, hlk'⟩
    · rw [h'] at e; simp [slB] at e
    · rw [h'] at e
      have : b' = b := by simpa [slB] using e
      rw [← this, hlk'] at h0b; cases h0b
  generalize hX : exec B _ _ (LC.loop _) _ = o
  obtain ⟨x, ⟨ts, H7, N7⟩, rfl, rfl, g7, k7, l7, kp⟩ := (show Ok o _ by rw [← hX]; exact loopRl (o6 := N.n 2) (ow := N5.n 0) rfl hM g6 (good_B g5 0) bb lk_top (f6 _ _ hlk) eob ((s4.mono fun y c _ e => r5 y c e).mono fun y c _ e => f6 y c e) hvb hll hin ⟨rfl, rfl, rfl, rfl, rfl⟩ (by omega))
  simp only at g7 k7 l7 kp
  have w0 := k7 _ _ eob lk_top
  have wq2 := k7 _ _ e2b (f6 _ _ x2)
  have b10 := good_B g5 0
  have rb10 := fun o n => rdB_none (o := o) (n := n) b10
  simp -implicitDefEqProofs (maxSteps := 10000000) (disch := omega) only [TrL, LrL, GrL_ref03Own, GrL_ref16Log, GrL_rU, GrL_ref16may, Vref16may_eq, hB, hR, hI, kp.l, kp.t6, kp.t9, kp.t11, kp.t12, w0, wq2, b10, rb10, b2, rb2, bt, bf, all1, ress, res1, retV, Value.cells, reduceIte, reduceCtorEq, Int.reduceLT, Int.reduceLE, Int.reduceToNat, Int.reduceAdd, Int.reduceSub, Int.reduceMul, Int.reduceNeg, Nat.reduceMul, Nat.reduceAdd, Nat.reduceSub, Nat.reduceBEq, Nat.reduceEqDiff, Nat.reduceLT, Nat.reduceLeDiff, Int.reduceBEq, Int.reduceEq, Nat.reducePow, Int.reducePow, Int.reduceGT, Int.reduceGE, Int.reduceBNe, newsV_s, ev1, ev2, ev3, ev4]
  have g8 := good_up (k := .cells [.slice (some ⟨b, 0, none⟩) M.length cap] 1) g7 b2 wq2
  have f7 : Fr H H7 := fun y c e => k7 y c (fun h' => by rw [← h', f4 _ _ e] at h0b; cases h0b) (f6 _ _ (r5 _ _ (f4 _ _ e)))
  refine ⟨_, _, _, rfl, g8, fr_up f7 (lk_N hN 2), .inr ⟨b, cap, rest, by rw [lay_len], bb, f4.dm _ h0b, by rw [lay_len]; exact hle, ?_⟩⟩
  rw [lk_upH, eqb e2b.symm, cond_false]; exact l7
end Go.Proofs.YtfhiplfagejfoaaDoor
