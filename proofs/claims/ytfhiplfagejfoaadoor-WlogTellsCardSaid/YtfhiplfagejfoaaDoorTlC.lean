/- Own text: the log of writes, part TlC: contracts of the functions that the laws of the log call. -/
import Derived.Test.YtfhiplfagejfoaaDoorTlB
set_option linter.unusedSimpArgs false
set_option linter.unusedVariables false
namespace Go.Proofs.YtfhiplfagejfoaaDoor
open Go.Proofs.YtfhiplfagejfoaaDoor.K Go.ChangeShapes Go.WideShapes Go.ChangeAt Go.RowKit 
set_option maxRecDepth 100000
set_option linter.unusedSimpArgs false
set_option linter.unusedVariables false
def Lref03Same : FnL := ⟨(.seq (.ops [⟨(some 2), .box (.tmp 0), none⟩, ⟨(some 3), .box (.tmp 1), none⟩, ⟨(some 4), .mv (.const (.bool false)), none⟩])
 (.seq (.seq (.ops [⟨(some 6), .faddr 0 (.tmp 2), none⟩, ⟨(some 7), .load false 1 (.tmp 6), none⟩, ⟨(some 8), .len false (.tmp 7), none⟩, ⟨(some 9), .faddr 0 (.tmp 3), none⟩, ⟨(some 10), .load false 1 (.tmp 9), none⟩, ⟨(some 11), .len false (.tmp 10), none⟩, ⟨(some 12), .bin .neq (.tmp 8) (.tmp 11), none⟩])
 (.cond (.tmp 12) (.seq (.ops [⟨(some 4), .mv (.const (.bool false)), none⟩])
 .ret)
 .skip))
 (.seq (.seq (.ops [⟨(some 5), .mv (.const (.int .i64 0)), none⟩])
 (.block 0 (.loop (.seq (.seq (.ops [⟨(some 13), .mv (.tmp 5), none⟩, ⟨(some 14), .faddr 0 (.tmp 2), none⟩, ⟨(some 15), .load false 1 (.tmp 14), none⟩, ⟨(some 16), .len false (.tmp 15), none⟩, ⟨(some 17), .bin .lss (.tmp 13) (.tmp 16), none⟩])
 (.cond (.tmp 17) .skip
 (.exit 0)))
 (.seq (.block 1 (.seq (.draw [⟨⟨(some 20), .faddr 0 (.tmp 2), none⟩, []⟩, ⟨⟨(some 21), .load false 1 (.tmp 20), none⟩, []⟩, ⟨⟨(some 22), .mv (.tmp 5), none⟩, []⟩, ⟨⟨(some 23), .iaddrS 2 (.tmp 21) (.tmp 22), none⟩, []⟩, ⟨⟨(some 24), .load true 2 (.tmp 23), none⟩, []⟩, ⟨⟨(some 25), .faddr 0 (.tmp 3), none⟩, []⟩, ⟨⟨(some 26), .load false 1 (.tmp 25), none⟩, []⟩, ⟨⟨(some 27), .mv (.tmp 5), none⟩, []⟩, ⟨⟨(some 28), .iaddrS 2 (.tmp 26) (.tmp 27), none⟩, []⟩, ⟨⟨(some 29), .load true 2 (.tmp 28), none⟩, []⟩, ⟨⟨(some 30), .eqA true [.int, .int] (.tmp 24) (.tmp 29), none⟩, []⟩])
 (.cond (.tmp 30) (.seq (.ops [⟨(some 4), .mv (.const (.bool false)), none⟩])
 .ret)
 .skip)))
 (.ops [⟨(some 18), .mv (.tmp 5), none⟩, ⟨(some 19), .bin .add (.tmp 18) (.const (.int .i64 1)), none⟩, ⟨(some 5), .mv (.tmp 19), none⟩]))))))
 (.seq (.ops [⟨(some 4), .mv (.const (.bool true)), none⟩])
 .ret)))),
 31, [.tmp 4]⟩
theorem lowref03Same : lowerFn Tryd.prog Tryd.f28 = some Lref03Same := by kernel_rfl
noncomputable def Gref03Same (B : OH) : Nat → Cs
  | _ => fun _ _ _ => none
theorem sGref03Same {w0 : World} {B : OH} : SoundG Tryd.prog w0 B { f := Gref03Same B } := .of fun k => by
  unfold Gref03Same
  split
  · exact .inl fun _ _ _ => rfl
theorem enref03Same : Enter Tryd.prog 28 := .of Tryd.func28 (by kernel_rfl) (by kernel_rfl)
noncomputable def Tref03Same (B : OH) : Cs := callF B { f := Gref03Same B } 1000000 Lref03Same
theorem sTref03Same {w0 : World} {B : OH} : SoundC Tryd.prog w0 B 28 (Tref03Same B) := callF_sound mixedOrders sGref03Same 1000000 Tryd.func28 lowref03Same
noncomputable def Vref03Same (B : OH) : Cs := Tref03Same B
theorem sVref03Same {w0 : World} {B : OH} : SoundC Tryd.prog w0 B 28 (Vref03Same B) := sTref03Same
structure KSm (q r i : Nat) (ts : List Value) : Prop where
  l : ts.length = 31
  t2 : gt ts 2 = .pointer (some ⟨q, 0, none⟩)
  t3 : gt ts 3 = .pointer (some ⟨r, 0, none⟩)
  t5 : gt ts 5 = .int .i64 (i : Int)
def lbSm : LC := (.seq (.seq (.ops [⟨(some 13), .mv (.tmp 5), none⟩, ⟨(some 14), .faddr 0 (.tmp 2), none⟩, ⟨(some 15), .load false 1 (.tmp 14), none⟩, ⟨(some 16), .len false (.tmp 15), none⟩, ⟨(some 17), .bin .lss (.tmp 13) (.tmp 16), none⟩])
 (.cond (.tmp 17) .skip
 (.exit 0)))
 (.seq (.block 1 (.seq (.draw [⟨⟨(some 20), .faddr 0 (.tmp 2), none⟩, []⟩, ⟨⟨(some 21), .load false 1 (.tmp 20), none⟩, []⟩, ⟨⟨(some 22), .mv (.tmp 5), none⟩, []⟩, ⟨⟨(some 23), .iaddrS 2 (.tmp 21) (.tmp 22), none⟩, []⟩, ⟨⟨(some 24), .load true 2 (.tmp 23), none⟩, []⟩, ⟨⟨(some 25), .faddr 0 (.tmp 3), none⟩, []⟩, ⟨⟨(some 26), .load false 1 (.tmp 25), none⟩, []⟩, ⟨⟨(some 27), .mv (.tmp 5), none⟩, []⟩, ⟨⟨(some 28), .iaddrS 2 (.tmp 26) (.tmp 27), none⟩, []⟩, ⟨⟨(some 29), .load true 2 (.tmp 28), none⟩, []⟩, ⟨⟨(some 30), .eqA true [.int, .int] (.tmp 24) (.tmp 29), none⟩, []⟩])
 (.cond (.tmp 30) (.seq (.ops [⟨(some 4), .mv (.const (.bool false)), none⟩])
 .ret)
 .skip)))
 (.ops [⟨(some 18), .mv (.tmp 5), none⟩, ⟨(some 19), .bin .add (.tmp 18) (.const (.int .i64 1)), none⟩, ⟨(some 5), .mv (.tmp 19), none⟩])))
set_option maxHeartbeats 4000000 in
theorem loopSm {B : OH} {H : HL} {N : St} {v w : Value} {q r : Nat} {L M : List C2} (hN : good B H N) (hv : SlR c2 2 B H v L) (hw : SlR c2 2 B H w M) (hl : L.length = M.length) (hL : L.length ≤ 900000) (lq : lk H q = some (.cells [v] 1)) (lr : lk H r = some (.cells [w] 1)) (bq : B q = none) (br : B r = none) {ts : List Value} (kp : KSm q r 0 ts) {F : Nat} (hF : 60 + L.length + 1 ≤ F) :
    Ok (exec B { f := Gref03Same B } F (LC.loop lbSm) ⟨ts, H, N⟩) (fun x s => s.H = H ∧ s.N = N ∧ s.t.length = 31 ∧ ((x = .exit 0 ∧ L = M) ∨ (x = .ret ∧ gt s.t 4 = .bool false ∧ L ≠ M))) := by
  have hB := good_B hN
  have hR := good_rdB hN
  have hI := beqN hN.1.1
  have hlv := hv.len
  have hlw := hw.len
  have rq := fun o n => rdB_none (o := o) (n := n) bq
  have rr := fun o n => rdB_none (o := o) (n := n) br
  refine loop_rule (n0 := 60) (fun k s => ∃ ts, ∃ i : Nat, s = ⟨ts, H, N⟩ ∧ KSm q r i ts ∧ (∀ j, j < i → L.getD j z2 = M.getD j z2) ∧ i ≤ L.length ∧ k = L.length - i) _ ?_ L.length _ ⟨_, 0, rfl, kp, fun q hq => by omega, by omega, rfl⟩ _ hF
  clear kp hF F ts
  rintro n k s ⟨ts, i, rfl, kp, hq, hi, rfl⟩
  have hc1 : ((i + 1 : Nat) : Int) = (i : Int) + 1 := by omega
  by_cases h : i < L.length
  · have h' : (i : Int) < (L.length : Int) := by omega
    have hm' : i < M.length := by omega
    have i0 : (0 : Int) ≤ (i : Int) := by omega
    obtain ⟨bv, ov, cv, rfl, _, rv⟩ := hv.at (by omega)
    obtain ⟨bw, ow, cw, rfl, _, rw'⟩ := hw.at (by omega)
    have rv := SlR.read rv c2_len (Fr.refl (H := H)) z2 h
    have rw' := SlR.read rw' c2_len (Fr.refl (H := H)) z2 hm'
    by_cases he : L.getD i z2 = M.getD i z2
    · rw [← he] at rw'
      generalize L.getD i z2 = a at rv rw'
      simp only [c2] at rv rw'
      simp -implicitDefEqProofs (maxSteps := 10000000) (disch := omega) only [Tref03Same, Lref03Same, hB, hR, hI, lbSm, kp.l, kp.t2, kp.t3, kp.t5, h', h, hm', i0, hlv, hlw, rv, rw', lq, lr, bq, br, rq, rr, bne_self_eq_false, bt, bf, all1, ress, res1, retV, Value.cells, reduceIte, reduceCtorEq, Int.reduceLT, Int.reduceLE, Int.reduceToNat, Int.reduceAdd, Int.reduceSub, Int.reduceMul, Int.reduceNeg, Nat.reduceMul, Nat.reduceAdd, Nat.reduceSub, Nat.reduceBEq, Nat.reduceEqDiff, Nat.reduceLT, Nat.reduceLeDiff, Int.reduceBEq, Int.reduceEq, Nat.reducePow, Int.reducePow, Int.reduceGT, Int.reduceGE, Int.reduceBNe, newsV_s, ev1, ev2, ev3, ev4]
      refine ok_some (.inl ⟨rfl, L.length - (i + 1), by omega, _, i + 1, rfl, ⟨?_, ?_, ?_, ?_⟩, fun q hq' => ?_, by omega, rfl⟩)
      rotate_right
      · rcases Nat.lt_or_ge q i with h1 | h1
        · exact hq q h1
        · obtain rfl : q = i := by omega
          exact he
      all_goals simp (maxSteps := 10000000) (disch := omega) only [kp.l, kp.t2, kp.t3, kp.t5, lenV_sl, Int.toNat_natCast, bft, btf, gtst, st_len, hc1, Nat.reduceAdd, Int.cast_ofNat_Int, Nat.reduceBEq, Nat.reduceLT, decide_true, ev2]
    · have hne : L ≠ M := fun e => he (by rw [e])
      generalize L.getD i z2 = a at rv he
      generalize M.getD i z2 = b at rw' he
      have hab := neC he
      simp only [c2] at rv rw'
      simp -implicitDefEqProofs (maxSteps := 10000000) (disch := omega) only [Tref03Same, Lref03Same, hB, hR, hI, lbSm, kp.l, kp.t2, kp.t3, kp.t5, h', h, hm', i0, hlv, hlw, rv, rw', lq, lr, bq, br, rq, rr, hab, bt, bf, all1, ress, res1, retV, Value.cells, reduceIte, reduceCtorEq, Int.reduceLT, Int.reduceLE, Int.reduceToNat, Int.reduceAdd, Int.reduceSub, Int.reduceMul, Int.reduceNeg, Nat.reduceMul, Nat.reduceAdd, Nat.reduceSub, Nat.reduceBEq, Nat.reduceEqDiff, Nat.reduceLT, Nat.reduceLeDiff, Int.reduceBEq, Int.reduceEq, Nat.reducePow, Int.reducePow, Int.reduceGT, Int.reduceGE, Int.reduceBNe, newsV_s, ev1, ev2, ev3, ev4]
      refine ok_some (.inr ⟨by simp, rfl, rfl, ?_, .inr ⟨rfl, ?_, hne⟩⟩)
      all_goals simp (maxSteps := 10000000) (disch := omega) only [kp.l, kp.t2, kp.t3, kp.t5, lenV_sl, Int.toNat_natCast, bft, btf, gtst, st_len, Nat.reduceAdd, Int.cast_ofNat_Int, Nat.reduceBEq, Nat.reduceLT, decide_true, ev2]
  · have hvc : (v.cells) = #[v] := by obtain ⟨a, c, rfl, _⟩ := hv; rfl
    obtain ⟨a, c, rfl, _⟩ := id hv
    simp -implicitDefEqProofs (maxSteps := 10000000) (disch := omega) only [Tref03Same, Lref03Same, hB, hR, hI, lbSm, kp.l, kp.t2, kp.t3, kp.t5, h, show ¬ (i : Int) < (L.length : Int) by omega, hlv, lq, bq, rq, bt, bf, all1, ress, res1, retV, Value.cells, reduceIte, reduceCtorEq, Int.reduceLT, Int.reduceLE, Int.reduceToNat, Int.reduceAdd, Int.reduceSub, Int.reduceMul, Int.reduceNeg, Nat.reduceMul, Nat.reduceAdd, Nat.reduceSub, Nat.reduceBEq, Nat.reduceEqDiff, Nat.reduceLT, Nat.reduceLeDiff, Int.reduceBEq, Int.reduceEq, Nat.reducePow, Int.reducePow, Int.reduceGT, Int.reduceGE, Int.reduceBNe, newsV_s, ev1, ev2, ev3, ev4]
    refine ok_some (.inr ⟨by simp, rfl, rfl, ?_, .inl ⟨rfl, ?_⟩⟩)
    · simp -implicitDefEqProofs (maxSteps := 10000000) (disch := omega) only [Tref03Same, Lref03Same, hB, hR, hI, lbSm, kp.l, kp.t2, kp.t3, kp.t5, bt, bf, all1, ress, res1, retV, Value.cells, reduceIte, reduceCtorEq, Int.reduceLT, Int.reduceLE, Int.reduceToNat, Int.reduceAdd, Int.reduceSub, Int.reduceMul, Int.reduceNeg, Nat.reduceMul, Nat.reduceAdd, Nat.reduceSub, Nat.reduceBEq, Nat.reduceEqDiff, Nat.reduceLT, Nat.reduceLeDiff, Int.reduceBEq, Int.reduceEq, Nat.reducePow, Int.reducePow, Int.reduceGT, Int.reduceGE, Int.reduceBNe, newsV_s, ev1, ev2, ev3, ev4]
    · refine List.ext_getElem? fun q => ?_
      rcases Nat.lt_or_ge q i with h1 | h1
      · rw [some_getD (d := z2) (by omega : q < L.length), some_getD (d := z2) (by omega : q < M.length), hq q h1]
      · rw [List.getElem?_eq_none (by omega), List.getElem?_eq_none (by omega)]
set_option maxHeartbeats 4000000 in
theorem sameM {B : OH} {H : HL} {N : St} {v w : Value} {L M : List C2} (hN : good B H N) (hv : SlR c2 2 B H v L) (hw : SlR c2 2 B H w M) (hL : L.length ≤ 900000) : ∃ H' N', Vref03Same B [.agg #[v], .agg #[w]] H N = some (.ret (.bool (decide (L = M))), H', N') ∧ good B H' N' ∧ Fr H H' := by
  have hB := good_B hN
  have hR := good_rdB hN
  have hI := beqN hN.1.1
  have hlv := hv.len
  have hlw := hw.len
  obtain ⟨av, cv, rfl, _⟩ := id hv
  obtain ⟨aw, cw, rfl, _⟩ := id hw
  have g1 : good B ((N.n 0, .cells [.slice av L.length cv] 1) :: H) (sh N) := good_new hN
  have g2 : good B ((N.n 1, .cells [.slice aw M.length cw] 1) :: (N.n 0, .cells [.slice av L.length cv] 1) :: H) (sh (sh N)) := good_new g1
  have f2 : Fr H ((N.n 1, .cells [.slice aw M.length cw] 1) :: (N.n 0, .cells [.slice av L.length cv] 1) :: H) := fr_new g1 (fr_new hN Fr.refl 0) 0
  unfold Vref03Same
  by_cases hl : L.length = M.length
  case neg =>
    have hl' : ((L.length : Int) != (M.length : Int)) = true := by simp; omega
    have hd : decide (L = M) = false := decide_eq_false fun h => hl (by rw [h])
    rw [hd]
    simp -implicitDefEqProofs (maxSteps := 10000000) (disch := omega) only [Tref03Same, Lref03Same, hB, hR, hI, hl', bt, bf, all1, ress, res1, retV, Value.cells, reduceIte, reduceCtorEq, Int.reduceLT, Int.reduceLE, Int.reduceToNat, Int.reduceAdd, Int.reduceSub, Int.reduceMul, Int.reduceNeg, Nat.reduceMul, Nat.reduceAdd, Nat.reduceSub, Nat.reduceBEq, Nat.reduceEqDiff, Nat.reduceLT, Nat.reduceLeDiff, Int.reduceBEq, Int.reduceEq, Nat.reducePow, Int.reducePow, Int.reduceGT, Int.reduceGE, Int.reduceBNe, newsV_s, ev1, ev2, ev3, ev4]
    exact ⟨_, _, rfl, g2, f2⟩
  have hl' : ((L.length : Int) != (M.length : Int)) = false := by simp; omega
  simp -implicitDefEqProofs (maxSteps := 10000000) (disch := omega) only [Tref03Same, Lref03Same, hB, hR, hI, hl', bt, bf, all1, ress, res1, retV, Value.cells, reduceIte, reduceCtorEq, Int.reduceLT, Int.reduceLE, Int.reduceToNat, Int.reduceAdd, Int.reduceSub, Int.reduceMul, Int.reduceNeg, Nat.reduceMul, Nat.reduceAdd, Nat.reduceSub, Nat.reduceBEq, Nat.reduceEqDiff, Nat.reduceLT, Nat.reduceLeDiff, Int.reduceBEq, Int.reduceEq, Nat.reducePow, Int.reducePow, Int.reduceGT, Int.reduceGE, Int.reduceBNe, newsV_s, ev1, ev2, ev3, ev4]
  generalize hX : exec B _ _ (LC.loop _) _ = o
  obtain ⟨x, ⟨ts, H1, N1⟩, rfl, hHH, hNN, hl2, hr⟩ := (show Ok o _ by rw [← hX]; exact loopSm (L := L) (M := M) (q := N.n 0) (r := N.n 1) g2 (hv.mono f2) (hw.mono f2) hl hL (by rw [lk_cons, hI]; exact lk_top) lk_top (hB 0) (hB 1) ⟨rfl, rfl, rfl, rfl⟩ (by omega))
  simp only at hl2 hr hHH hNN
  subst hHH hNN
  rcases hr with ⟨rfl, he⟩ | ⟨rfl, h4, hne⟩
  · rw [decide_eq_true he]
    simp -implicitDefEqProofs (maxSteps := 10000000) (disch := omega) only [Tref03Same, Lref03Same, hB, hR, hI, hl2, bt, bf, all1, ress, res1, retV, Value.cells, reduceIte, reduceCtorEq, Int.reduceLT, Int.reduceLE, Int.reduceToNat, Int.reduceAdd, Int.reduceSub, Int.reduceMul, Int.reduceNeg, Nat.reduceMul, Nat.reduceAdd, Nat.reduceSub, Nat.reduceBEq, Nat.reduceEqDiff, Nat.reduceLT, Nat.reduceLeDiff, Int.reduceBEq, Int.reduceEq, Nat.reducePow, Int.reducePow, Int.reduceGT, Int.reduceGE, Int.reduceBNe, newsV_s, ev1, ev2, ev3, ev4]
    exact ⟨_, _, rfl, g2, f2⟩
  · rw [decide_eq_false hne]
    simp -implicitDefEqProofs (maxSteps := 10000000) (disch := omega) only [Tref03Same, Lref03Same, hB, hR, hI, hl2, h4, bt, bf, all1, ress, res1, retV, Value.cells, reduceIte, reduceCtorEq, Int.reduceLT, Int.reduceLE, Int.reduceToNat, Int.reduceAdd, Int.reduceSub, Int.reduceMul, Int.reduceNeg, Nat.reduceMul, Nat.reduceAdd, Nat.reduceSub, Nat.reduceBEq, Nat.reduceEqDiff, Nat.reduceLT, Nat.reduceLeDiff, Int.reduceBEq, Int.reduceEq, Nat.reducePow, Int.reducePow, Int.reduceGT, Int.reduceGE, Int.reduceBNe, newsV_s, ev1, ev2, ev3, ev4]
    exact ⟨_, _, rfl, g2, f2⟩
def LsCl : FnL := ⟨(.seq (.ops [⟨(some 2), .mv (.const (.slice none 0 0)), none⟩])
 (.seq (.seq (.ops [⟨(some 3), .mv (.tmp 0), none⟩, ⟨(some 4), .eqs false (.tmp 3) (.const (.slice none 0 0)), none⟩])
 (.cond (.tmp 4) (.seq (.ops [⟨(some 2), .mv (.const (.slice none 0 0)), none⟩])
 .ret)
 .skip))
 (.seq (.ops [⟨(some 5), .buildS [] 0 [], none⟩, ⟨(some 6), .mv (.tmp 0), none⟩, ⟨(some 7), .app [(.int .u64 0), (.int .i64 0)] 16 (.tmp 5) (.tmp 6), none⟩, ⟨(some 2), .mv (.tmp 7), none⟩])
 .ret))),
 8, [.tmp 2]⟩
theorem lowsCl : lowerFn Tryd.prog Tryd.f50 = some LsCl := by kernel_rfl
noncomputable def GsCl (B : OH) : Nat → Cs
  | _ => fun _ _ _ => none
theorem sGsCl {w0 : World} {B : OH} : SoundG Tryd.prog w0 B { f := GsCl B } := .of fun k => by
  unfold GsCl
  split
  · exact .inl fun _ _ _ => rfl
theorem ensCl : Enter Tryd.prog 50 := .of Tryd.func50 (by kernel_rfl) (by kernel_rfl)
noncomputable def TsCl (B : OH) : Cs := callF B { f := GsCl B } 1000000 LsCl
theorem sTsCl {w0 : World} {B : OH} : SoundC Tryd.prog w0 B 50 (TsCl B) := callF_sound mixedOrders sGsCl 1000000 Tryd.func50 lowsCl
noncomputable def VsCl (B : OH) : Cs := TsCl B
theorem sVsCl {w0 : World} {B : OH} : SoundC Tryd.prog w0 B 50 (VsCl B) := sTsCl
theorem clone {B : OH} {H : HL} {N : St} {v : Value} {L : List C2} (hN : good B H N) (hv : SlW c2 2 B H v L) (hL : L.length ≤ 900000) : ∃ v' H' N', VsCl B [v] H N = some (.ret v', H', N') ∧ good B H' N' ∧ Fr H H' ∧ SlM c2 2 B H H' v' L := by
  have hB := good_B hN
  have hR := good_rdB hN
  have hI := beqN hN.1.1
  obtain ⟨a, c, rfl, hc, hr⟩ := id hv
  unfold VsCl
  cases a with
  | none =>
    have : L = [] := by
      rcases hr with h | ⟨b, o, h, _⟩
      · exact h
      · cases h
    subst this
    simp -implicitDefEqProofs (maxSteps := 10000000) (disch := omega) only [TsCl, LsCl, hB, hR, hI, bt, bf, all1, ress, res1, retV, Value.cells, reduceIte, reduceCtorEq, Int.reduceLT, Int.reduceLE, Int.reduceToNat, Int.reduceAdd, Int.reduceSub, Int.reduceMul, Int.reduceNeg, Nat.reduceMul, Nat.reduceAdd, Nat.reduceSub, Nat.reduceBEq, Nat.reduceEqDiff, Nat.reduceLT, Nat.reduceLeDiff, Int.reduceBEq, Int.reduceEq, Nat.reducePow, Int.reducePow, Int.reduceGT, Int.reduceGE, Int.reduceBNe, newsV_s, ev1, ev2, ev3, ev4]
    exact ⟨_, _, _, rfl, hN, Fr.refl, .inl ⟨rfl, rfl⟩⟩
  | some a =>
    have g1 : good B ((N.n 0, .cells [] 0) :: H) (sh N) := good_new hN
    have f1 : Fr H ((N.n 0, .cells [] 0) :: H) := fr_new hN Fr.refl 0
    have s1 : SlM c2 2 B H ((N.n 0, .cells [] 0) :: H) (.slice (some ⟨N.n 0, 0, none⟩) 0 0) ([] : List C2) := .inr ⟨N.n 0, 0, [], rfl, hB 0, lk_N hN 0, Nat.le_refl _, lk_top⟩
    obtain ⟨v4, H4, N4, e4, g4, r4, fs, s4, hb⟩ := app_many (H0 := H) (bytes := 16) c2_len (by omega) g1 f1 s1 (hv.mono f1) (all1_c2 _) (by simp only [List.length_nil]; omega) (by simp only [List.length_nil]; omega)
    rw [List.nil_append] at s4
    simp -implicitDefEqProofs (maxSteps := 10000000) (disch := omega) only [TsCl, LsCl, hB, hR, hI, e4, bt, bf, all1, ress, res1, retV, Value.cells, reduceIte, reduceCtorEq, Int.reduceLT, Int.reduceLE, Int.reduceToNat, Int.reduceAdd, Int.reduceSub, Int.reduceMul, Int.reduceNeg, Nat.reduceMul, Nat.reduceAdd, Nat.reduceSub, Nat.reduceBEq, Nat.reduceEqDiff, Nat.reduceLT, Nat.reduceLeDiff, Int.reduceBEq, Int.reduceEq, Nat.reducePow, Int.reducePow, Int.reduceGT, Int.reduceGE, Int.reduceBNe, ev1, ev2, ev3, ev4]
    exact ⟨_, _, _, rfl, g4, r4, s4⟩
def Lcellscaught : FnC := ⟨(some 5), (.block 0 (.seq (.ops [⟨(some 7), .isn false (.tmp 5), none⟩])
 (.cond (.tmp 7) (.ops [⟨(some 2), .mv (.tmp 5), none⟩])
 (.seq (.ops [⟨(some 8), .tass 125 (.agg #[(.int .i64 0)]) (.tmp 5), none⟩, ⟨(some 9), .ext (.tmp 8) 1, none⟩, ⟨(some 10), .ext (.tmp 8) 0, none⟩])
 (.cond (.tmp 9) (.seq (.ops [⟨(some 3), .alloc [(.int .i64 0)], none⟩, ⟨none, .store 1 (.tmp 3) (.tmp 10), none⟩])
 (.ops [⟨(some 11), .mv (.tmp 0), none⟩, ⟨(some 12), .faddr 0 (.tmp 3), none⟩, ⟨(some 13), .load false 1 (.tmp 12), none⟩, ⟨(some 14), .nilck (.tmp 11), none⟩, ⟨none, .store 1 (.tmp 14) (.tmp 13), none⟩]))
 (.seq (.ops [⟨(some 4), .mv (.tmp 5), none⟩])
 (.ops [⟨(some 6), .mv (.tmp 4), none⟩, ⟨none, .pan (.tmp 6), none⟩]))))))),
 15, []⟩
theorem lowcellscaught : lowerCaught Tryd.prog Tryd.f65 = some Lcellscaught := by kernel_rfl
noncomputable def Gcellscaught (B : OH) : Nat → Cs
  | _ => fun _ _ _ => none
theorem sGcellscaught {w0 : World} {B : OH} : SoundG Tryd.prog w0 B { f := Gcellscaught B } := .of fun k => by
  unfold Gcellscaught
  split
  · exact .inl fun _ _ _ => rfl
noncomputable def Ucellscaught (B : OH) : Ds := callC B { f := Gcellscaught B } 80 Lcellscaught
theorem encellscaught : Enter Tryd.prog 65 := .of Tryd.func65 (by kernel_rfl) (by kernel_rfl)
theorem sUcellscaught {w0 : World} {B : OH} : SoundD Tryd.prog w0 B 65 (Ucellscaught B) := callC_sound mixedOrders sGcellscaught 80 Tryd.func65 lowcellscaught
def LcP : FnL := ⟨(.seq (.ops [⟨(some 4), .mv (.const (.pointer none)), none⟩])
 (.seq (.seq (.ops [⟨(some 5), .mv (.tmp 1), none⟩, ⟨(some 6), .bin .lss (.tmp 5) (.const (.int .i64 0)), none⟩, ⟨(some 7), .mv (.tmp 6), none⟩, ⟨(some 8), .mv (.tmp 1), (some (7, false))⟩, ⟨(some 9), .mv (.tmp 0), (some (7, false))⟩, ⟨(some 10), .len false (.tmp 9), (some (7, false))⟩, ⟨(some 11), .bin .geq (.tmp 8) (.tmp 10), (some (7, false))⟩, ⟨(some 12), .pick (.tmp 7) (.const (.bool true)) (.tmp 11), none⟩])
 (.cond (.tmp 12) (.ops [⟨(some 13), .build [(.int .i64 0)] [(0, 1, (.const (.int .i64 1)))], none⟩, ⟨(some 14), .ifc 125 (.tmp 13), none⟩, ⟨none, .pan (.tmp 14), none⟩])
 .skip))
 (.seq (.ops [⟨(some 15), .mv (.tmp 0), none⟩, ⟨(some 16), .mv (.tmp 1), none⟩, ⟨(some 17), .iaddrS 2 (.tmp 15) (.tmp 16), none⟩, ⟨(some 4), .mv (.tmp 17), none⟩])
 .ret))),
 18, [.tmp 4]⟩
theorem lowcP : lowerFn Tryd.prog Tryd.f77 = some LcP := by kernel_rfl
noncomputable def GcP (B : OH) : Nat → Cs
  | _ => fun _ _ _ => none
theorem sGcP {w0 : World} {B : OH} : SoundG Tryd.prog w0 B { f := GcP B } := .of fun k => by
  unfold GcP
  split
  · exact .inl fun _ _ _ => rfl
theorem encP : Enter Tryd.prog 77 := .of Tryd.func77 (by kernel_rfl) (by kernel_rfl)
noncomputable def TcP (B : OH) : Cs := callF B { f := GcP B } 80 LcP
theorem sTcP {w0 : World} {B : OH} : SoundC Tryd.prog w0 B 77 (TcP B) := callF_sound mixedOrders sGcP 80 Tryd.func77 lowcP
noncomputable def VcP (B : OH) : Cs := TcP B
theorem sVcP {w0 : World} {B : OH} : SoundC Tryd.prog w0 B 77 (VcP B) := sTcP
def Lcellscell : FnL := ⟨(.seq (.ops [⟨(some 6), .mv (.const (.pointer none)), none⟩])
 (.seq (.seq (.ops [⟨(some 7), .mv (.tmp 0), none⟩, ⟨(some 8), .eqp false (.tmp 7) (.const (.pointer none)), none⟩, ⟨(some 9), .mv (.tmp 8), none⟩, ⟨(some 10), .mv (.tmp 1), (some (9, false))⟩, ⟨(some 11), .bin .lss (.tmp 10) (.const (.int .i64 0)), (some (9, false))⟩, ⟨(some 12), .pick (.tmp 9) (.const (.bool true)) (.tmp 11), none⟩, ⟨(some 13), .mv (.tmp 12), none⟩, ⟨(some 14), .mv (.tmp 1), (some (13, false))⟩, ⟨(some 15), .bin .geq (.tmp 14) (.const (.int .i64 16)), (some (13, false))⟩, ⟨(some 16), .pick (.tmp 13) (.const (.bool true)) (.tmp 15), none⟩])
 (.cond (.tmp 16) (.ops [⟨(some 17), .build [(.int .i64 0)] [(0, 1, (.const (.int .i64 1)))], none⟩, ⟨(some 18), .ifc 125 (.tmp 17), none⟩, ⟨none, .pan (.tmp 18), none⟩])
 .skip))
 (.seq (.ops [⟨(some 19), .mv (.tmp 0), none⟩, ⟨(some 20), .nilck (.tmp 19), none⟩, ⟨(some 21), .faddr 0 (.tmp 20), none⟩, ⟨(some 22), .load false 1 (.tmp 21), none⟩, ⟨(some 23), .mv (.tmp 2), none⟩, ⟨(some 24), .call (.func 77) [(.tmp 22), (.tmp 23)], none⟩, ⟨(some 6), .mv (.tmp 24), none⟩])
 .ret))),
 25, [.tmp 6]⟩
theorem lowcellscell : lowerFn Tryd.prog Tryd.f66 = some Lcellscell := by kernel_rfl
noncomputable def Gcellscell (B : OH) : Nat → Cs
  | 77 => VcP B
  | _ => fun _ _ _ => none
theorem Gcellscell_cP {B : OH} : Gcellscell B 77 = VcP B := rfl
theorem sGcellscell {w0 : World} {B : OH} : SoundG Tryd.prog w0 B { f := Gcellscell B } := .of fun k => by
  unfold Gcellscell
  split
  · exact .inr ⟨encP, sVcP⟩
  · exact .inl fun _ _ _ => rfl
theorem encellscell : Enter Tryd.prog 66 := .of Tryd.func66 (by kernel_rfl) (by kernel_rfl)
noncomputable def Tcellscell (B : OH) : Cs := callF B { f := Gcellscell B } 80 Lcellscell
theorem sTcellscell {w0 : World} {B : OH} : SoundC Tryd.prog w0 B 66 (Tcellscell B) := callF_sound mixedOrders sGcellscell 80 Tryd.func66 lowcellscell
noncomputable def Vcellscell (B : OH) : Cs := Tcellscell B
theorem sVcellscell {w0 : World} {B : OH} : SoundC Tryd.prog w0 B 66 (Vcellscell B) := sTcellscell
def LcellsStore : FnD := ⟨(.ops [⟨(some 6), .alloc [(.int .i64 0)], none⟩]), 65, [(.tmp 6)], (.seq (.ops [⟨(some 7), .mv (.tmp 0), none⟩, ⟨(some 8), .mv (.tmp 1), none⟩, ⟨(some 9), .call (.func 66) [(.tmp 7), (.const (.int .i64 0)), (.tmp 8)], none⟩, ⟨(some 10), .mv (.tmp 2), none⟩, ⟨(some 11), .build [(.int .u64 0), (.int .i64 0)] [(0, 1, (.tmp 10))], none⟩, ⟨(some 12), .nilck (.tmp 9), none⟩, ⟨none, .store 2 (.tmp 12) (.tmp 11), none⟩])
 (.seq (.ops [⟨none, .store 1 (.tmp 6) (.const (.int .i64 0)), none⟩])
 .ret)),
 13, [.cell 6 false 1]⟩
theorem lowcellsStore : lowerDfr Tryd.prog Tryd.f52 = some LcellsStore := by kernel_rfl
noncomputable def GcellsStore (B : OH) : Nat → Cs
  | 66 => Vcellscell B
  | _ => fun _ _ _ => none
theorem GcellsStore_cellscell {B : OH} : GcellsStore B 66 = Vcellscell B := rfl
theorem sGcellsStore {w0 : World} {B : OH} : SoundG Tryd.prog w0 B { f := GcellsStore B } := .of fun k => by
  unfold GcellsStore
  split
  · exact .inr ⟨encellscell, sVcellscell⟩
  · exact .inl fun _ _ _ => rfl
theorem encellsStore : Enter Tryd.prog 52 := .of Tryd.func52 (by kernel_rfl) (by kernel_rfl)
noncomputable def DcellsStore (B : OH) : Nat → Ds
  | 65 => Ucellscaught B
  | _ => fun _ _ _ _ => none
theorem DcellsStore_cellscaught {B : OH} : DcellsStore B 65 = Ucellscaught B := rfl
noncomputable def TcellsStore (B : OH) : Cs := callD B { f := GcellsStore B } (DcellsStore B) 1000000 LcellsStore
theorem sTcellsStore {w0 : World} {B : OH} : SoundC Tryd.prog w0 B 52 (TcellsStore B) := callD_sound mixedOrders sGcellsStore 1000000 Tryd.func52 lowcellsStore encellscaught sUcellscaught
noncomputable def VcellsStore (B : OH) : Cs := TcellsStore B
theorem sVcellsStore {w0 : World} {B : OH} : SoundC Tryd.prog w0 B 52 (VcellsStore B) := sTcellsStore
set_option maxHeartbeats 4000000 in
theorem store {B : OH} {H0 H : HL} {N : St} {v : Value} {L : List C2} {m i : Nat} {w : Int} (hN : good B H N) (hv : SlM c2 2 B H0 H v L) (lm : lk H m = some (.cells [v] 1)) (bm : B m = none) (hm : slB v ≠ some m) (hi : i < L.length) (hL : L.length ≤ 900000) :
    ∃ H' N', VcellsStore B [.pointer (some ⟨m, 0, none⟩), .int .i64 (i : Int), .int .u64 w] H N = some (.ret (.int .i64 0), H', N') ∧ good B H' N' ∧ SlM c2 2 B H0 H' v (L.set i ⟨w, 0⟩) ∧ (∀ y c, slB v ≠ some y → lk H y = some c → lk H' y = some c) := by
  have hB := good_B hN
  have hR := good_rdB hN
  have hI := beqN hN.1.1
  rcases hv with ⟨h, _⟩ | ⟨b, cap, rest, rfl, bb, h0, hle, hlk⟩
  · rw [h] at hi; simp at hi
  have hbm : (b == m) = false := eqb fun h => hm (by rw [h]; rfl)
  have hbm' : (m == b) = false := eqb fun h => hm (by rw [h]; rfl)
  have i0 : (0 : Int) ≤ (i : Int) := by omega
  have i1 : ¬ (i : Int) < 0 := by omega
  have i2 : ¬ (i : Int) ≥ (L.length : Int) := by omega
  have nb := ne_N hN hlk
  have nb' := ne_N' hN hlk
  have nm := ne_N hN lm
  have nm' := ne_N' hN lm
  have rb := fun o n => rdB_none (o := o) (n := n) bb
  have rm := fun o n => rdB_none (o := o) (n := n) bm
  have hw : wr (fl c2 L ++ rest) (i * 2) [.int .u64 w, .int .i64 0] = some (fl c2 (L.set i ⟨w, 0⟩) ++ rest) := by
    have h1 := wr_fl c2_len L i 0 [.int .u64 w, .int .i64 0] z2 ⟨w, 0⟩ hi (by simp) rfl
    rw [Nat.add_zero] at h1
    rw [wr_append_left _ _ _ _ (by rw [fl_length c2_len]; simp; omega), h1]; rfl
  unfold VcellsStore
  simp -implicitDefEqProofs (maxSteps := 10000000) (disch := omega) only [TcellsStore, LcellsStore, GcellsStore_cellscell, Vcellscell, Tcellscell, Lcellscell, Gcellscell_cP, VcP, TcP, LcP, DcellsStore_cellscaught, Ucellscaught, Lcellscaught, hB, hR, hI, lm, bm, rm, nm, nm', i0, i1, i2, hi, hlk, bb, rb, nb, nb', hbm, hbm', hw, bt, bf, all1, ress, res1, retV, Value.cells, reduceIte, reduceCtorEq, Int.reduceLT, Int.reduceLE, Int.reduceToNat, Int.reduceAdd, Int.reduceSub, Int.reduceMul, Int.reduceNeg, Nat.reduceMul, Nat.reduceAdd, Nat.reduceSub, Nat.reduceBEq, Nat.reduceEqDiff, Nat.reduceLT, Nat.reduceLeDiff, Int.reduceBEq, Int.reduceEq, Nat.reducePow, Int.reducePow, Int.reduceGT, Int.reduceGE, Int.reduceBNe, newsV_s, ev1, ev2, ev3, ev4]
  have gu := good_up (k := .cells (fl c2 (L.set i ⟨w, 0⟩) ++ rest) (cap * 2)) (good_new (k := .cells [.int .i64 0] 1) hN) bb (by rw [lk_cons, nb, cond_false]; exact hlk)
  refine ⟨_, _, rfl, ?_, .inr ⟨b, cap, rest, by rw [List.length_set], bb, h0, by rw [List.length_set]; exact hle, ?_⟩, fun y c hy e => ?_⟩
  · simpa only [upH_cons, nb, cond_false] using gu
  · simp -implicitDefEqProofs (maxSteps := 10000000) (disch := omega) only [TcellsStore, LcellsStore, GcellsStore_cellscell, Vcellscell, Tcellscell, Lcellscell, Gcellscell_cP, VcP, TcP, LcP, DcellsStore_cellscaught, Ucellscaught, Lcellscaught, hB, hR, hI, nb, hlk, bt, bf, all1, ress, res1, retV, Value.cells, reduceIte, reduceCtorEq, Int.reduceLT, Int.reduceLE, Int.reduceToNat, Int.reduceAdd, Int.reduceSub, Int.reduceMul, Int.reduceNeg, Nat.reduceMul, Nat.reduceAdd, Nat.reduceSub, Nat.reduceBEq, Nat.reduceEqDiff, Nat.reduceLT, Nat.reduceLeDiff, Int.reduceBEq, Int.reduceEq, Nat.reducePow, Int.reducePow, Int.reduceGT, Int.reduceGE, Int.reduceBNe, newsV_s, ev1, ev2, ev3, ev4]
  · have n0 := ne_N hN e 0
    have n1 : (y == b) = false := eqb fun h => hy (by rw [h]; rfl)
    simp -implicitDefEqProofs (maxSteps := 10000000) (disch := omega) only [TcellsStore, LcellsStore, GcellsStore_cellscell, Vcellscell, Tcellscell, Lcellscell, Gcellscell_cP, VcP, TcP, LcP, DcellsStore_cellscaught, Ucellscaught, Lcellscaught, hB, hR, hI, n0, n1, e, bt, bf, all1, ress, res1, retV, Value.cells, reduceIte, reduceCtorEq, Int.reduceLT, Int.reduceLE, Int.reduceToNat, Int.reduceAdd, Int.reduceSub, Int.reduceMul, Int.reduceNeg, Nat.reduceMul, Nat.reduceAdd, Nat.reduceSub, Nat.reduceBEq, Nat.reduceEqDiff, Nat.reduceLT, Nat.reduceLeDiff, Int.reduceBEq, Int.reduceEq, Nat.reducePow, Int.reducePow, Int.reduceGT, Int.reduceGE, Int.reduceBNe, newsV_s, ev1, ev2, ev3, ev4]
end Go.Proofs.YtfhiplfagejfoaaDoor
namespace Go.Proofs.YtfhiplfagejfoaaDoor
open Go.Proofs.YtfhiplfagejfoaaDoor.K Go.ChangeShapes Go.WideShapes Go.ChangeAt Go.RowKit 
set_option maxRecDepth 100000
set_option linter.unusedSimpArgs false
set_option linter.unusedVariables false
def pkL (l : List W2) : List Int := l.flatMap fun x => [x.a, x.w]
theorem pkL_len (l : List W2) : (pkL l).length = 2 * l.length := by
  induction l with
  | nil => rfl
  | cons a l ih => simp only [pkL, List.flatMap_cons, List.length_append, List.length_cons, List.length_nil] at ih ⊢; omega
theorem pkL_app (l m : List W2) : pkL (l ++ m) = pkL l ++ pkL m := by simp [pkL]
def oW (G : Nat) (l : List W2) (i : Nat) : List Int := (l.length : Int) :: (pkL (l.take i) ++ List.replicate (G - 1 - 2 * i) 0)
theorem oW_len {G : Nat} {l : List W2} {i : Nat} (hi : i ≤ l.length) (hG : 1 + 2 * l.length ≤ G) : (oW G l i).length = G := by
  simp only [oW, List.length_cons, List.length_append, pkL_len, List.length_take, List.length_replicate]; omega
theorem oW_set {G : Nat} {l : List W2} {i : Nat} (hi : i < l.length) (hG : 1 + 2 * l.length ≤ G) : ((oW G l i).set (1 + 2 * i) (l.getD i y2).a).set (2 + 2 * i) (l.getD i y2).w = oW G l (i + 1) := by
  have ht : l.take (i + 1) = l.take i ++ [l.getD i y2] := by rw [List.take_add_one, some_getD (d := y2) hi]; rfl
  have hl : (pkL (l.take i)).length = 2 * i := by rw [pkL_len, List.length_take]; omega
  unfold oW
  rw [ht, pkL_app, show pkL [l.getD i y2] = [(l.getD i y2).a, (l.getD i y2).w] from rfl]
  rw [show 1 + 2 * i = 2 * i + 1 by omega, show 2 + 2 * i = 2 * i + 1 + 1 by omega, List.set_cons_succ, List.set_cons_succ]
  congr 1
  rw [show G - 1 - 2 * i = (G - 1 - 2 * (i + 1)) + 1 + 1 by omega, List.replicate_succ, List.replicate_succ]
  rw [List.set_append_right _ _ (by omega), hl, Nat.sub_self, List.set_cons_zero, List.set_append_right _ _ (by omega), hl, show 2 * i + 1 - 2 * i = 1 by omega, List.set_cons_succ, List.set_cons_zero, List.append_assoc]
  rfl
def okL (p h : Nat) (l : List W2) (n : Nat) : Prop := ∀ i, i < n → okP p h (l.getD i y2).a ∧ ∀ j, j < i → (l.getD j y2).a ≠ (l.getD i y2).a
noncomputable def packE (p h : Nat) (l : List W2) : Int := if h + 2 * p < l.length then 4 else @ite _ (okL p h l l.length) (Classical.propDecidable _) 0 1
def packW (p h : Nat) (l : List W2) : List Int := oW (LG p h) l l.length
theorem packE_long {p h : Nat} {l : List W2} (H : h + 2 * p < l.length) : packE p h l = 4 := if_pos H
theorem packE_ok {p h : Nat} {l : List W2} (H : ¬ h + 2 * p < l.length) (ho : okL p h l l.length) : packE p h l = 0 := by unfold packE; rw [if_neg H, if_pos ho]
theorem packE_bad {p h : Nat} {l : List W2} (H : ¬ h + 2 * p < l.length) (ho : ¬ okL p h l l.length) : packE p h l = 1 := by unfold packE; rw [if_neg H, if_neg ho]
theorem packE_0 {p h : Nat} {l : List W2} (H : packE p h l = 0) : l.length ≤ h + 2 * p ∧ okL p h l l.length := by
  by_cases h1 : h + 2 * p < l.length
  · rw [packE_long h1] at H; omega
  · by_cases h2 : okL p h l l.length
    · exact ⟨by omega, h2⟩
    · rw [packE_bad h1 h2] at H; omega
open Classical in
noncomputable def mfn (l : List W2) (i : Nat) : Int → Option Value := fun a => if ∃ j, j < i ∧ (l.getD j y2).a = a then some (.agg #[]) else none
theorem mfn_0 (l : List W2) : mfn l 0 = fun _ => none := by
  funext a
  exact if_neg (fun ⟨j, hj, _⟩ => by omega)
theorem mfn_y {l : List W2} {i : Nat} {a : Int} (h : ∃ j, j < i ∧ (l.getD j y2).a = a) : mfn l i a = some (.agg #[]) := if_pos h
theorem mfn_n {l : List W2} {i : Nat} {a : Int} (h : ¬ ∃ j, j < i ∧ (l.getD j y2).a = a) : mfn l i a = none := if_neg h
theorem mfn_s (l : List W2) (i : Nat) : updF (mfn l i) (l.getD i y2).a (some (.agg #[])) = mfn l (i + 1) := by
  funext a
  unfold updF
  by_cases h : a = (l.getD i y2).a
  · rw [if_pos h, mfn_y ⟨i, by omega, h.symm⟩]
  · rw [if_neg h]
    by_cases h2 : ∃ j, j < i ∧ (l.getD j y2).a = a
    · rw [mfn_y h2, mfn_y (let ⟨j, hj, e⟩ := h2; ⟨j, by omega, e⟩)]
    · rw [mfn_n h2, mfn_n (fun ⟨j, hj, e⟩ => by
        by_cases hji : j = i
        · exact h (by rw [← e, hji])
        · exact h2 ⟨j, by omega, e⟩)]
def W2s (l : List W2) : Prop := ∀ x ∈ l, i64R x.a ∧ u64R x.w
theorem W2s.at {l : List W2} (h : W2s l) (i : Nat) : i64R (l.getD i y2).a ∧ u64R (l.getD i y2).w := by
  rcases Nat.lt_or_ge i l.length with hi | hi
  · exact h _ (List.mem_of_getElem? (some_getD (d := y2) hi))
  · rw [List.getD_eq_getElem?_getD, List.getElem?_eq_none hi]
    unfold i64R u64R; simp [y2]
theorem wrapU (x : Int) : u64R (IntKind.u64.wrap x) := by
  unfold u64R IntKind.wrap
  simp [IntKind.bits, IntKind.signed]
  have := Int.emod_nonneg x (show (18446744073709551616 : Int) ≠ 0 by decide)
  have := Int.emod_lt_of_pos x (show (0 : Int) < 18446744073709551616 by decide)
  omega
theorem wrapU_neg {x : Int} (h : i64R x) (h0 : x < 0) : IntKind.u64.wrap x = x + 18446744073709551616 := by
  unfold i64R at h
  unfold IntKind.wrap
  simp [IntKind.bits, IntKind.signed]
  omega
theorem okP_wrap {kk p cc h : Nat} (C : Cf kk p cc h) {a : Int} (ha : i64R a) : (okP p h (IntKind.u64.wrap a) ↔ okP p h a) := by
  by_cases h0 : a < 0
  · rw [wrapU_neg ha h0]
    unfold i64R at ha
    constructor
    · intro h; have := okP_b C h; omega
    · intro h; have := okP_b C h; omega
  · unfold i64R at ha
    rw [IntWalk.u64_in _ (by omega)]
def Lwlogpack : FnL := ⟨(.seq (.ops [⟨(some 2), .box (.tmp 0), none⟩, ⟨(some 4), .mv (.const (.slice none 0 0)), none⟩])
 (.seq (.ops [⟨(some 13), .mv (.tmp 1), none⟩, ⟨(some 14), .len false (.tmp 13), none⟩, ⟨(some 15), .load true 3 (.tmp 2), none⟩, ⟨(some 16), .call (.func 47) [(.tmp 15)], none⟩, ⟨(some 17), .bin .leq (.tmp 14) (.tmp 16), none⟩, ⟨(some 18), .call (.func 44) [(.tmp 17), (.const (.int .i64 4))], none⟩])
 (.seq (.ops [⟨(some 19), .load true 3 (.tmp 2), none⟩, ⟨(some 20), .call (.func 30) [(.tmp 19)], none⟩, ⟨(some 21), .mks [(.int .u64 0)] 8 (.tmp 20) (.tmp 20), none⟩, ⟨(some 5), .mv (.tmp 21), none⟩])
 (.seq (.ops [⟨(some 22), .mv (.tmp 5), none⟩, ⟨(some 23), .mv (.tmp 1), none⟩, ⟨(some 24), .len false (.tmp 23), none⟩, ⟨(some 25), .conv .u64 (.tmp 24), none⟩, ⟨(some 26), .iaddrS 1 (.tmp 22) (.const (.int .i64 0)), none⟩, ⟨none, .store 1 (.tmp 26) (.tmp 25), none⟩])
 (.seq (.ops [⟨(some 27), .mkmap .i64, none⟩, ⟨(some 6), .mv (.tmp 27), none⟩])
 (.seq (.seq (.ops [⟨(some 28), .mv (.tmp 1), none⟩, ⟨(some 29), .len false (.tmp 28), none⟩, ⟨(some 30), .mv (.const (.int .i64 0)), none⟩])
 (.block 0 (.loop (.seq (.ops [⟨(some 31), .bin .lss (.tmp 30) (.tmp 29), none⟩])
 (.seq (.cond (.tmp 31) .skip
 (.exit 0))
 (.seq (.block 1 (.seq (.ops [⟨(some 32), .mv (.tmp 30), none⟩, ⟨(some 33), .iaddrS 2 (.tmp 28) (.tmp 30), none⟩, ⟨(some 34), .load true 2 (.tmp 33), none⟩, ⟨(some 8), .alloc [(.int .i64 0), (.int .u64 0)], none⟩, ⟨(some 7), .mv (.tmp 32), none⟩, ⟨none, .store 2 (.tmp 8) (.tmp 34), none⟩])
 (.seq (.ops [⟨(some 36), .load true 3 (.tmp 2), none⟩, ⟨(some 37), .faddr 0 (.tmp 8), none⟩, ⟨(some 38), .load false 1 (.tmp 37), none⟩, ⟨(some 39), .conv .u64 (.tmp 38), none⟩, ⟨(some 40), .call (.func 14) [(.tmp 36), (.tmp 39)], none⟩, ⟨(some 35), .mv (.tmp 40), none⟩, ⟨(some 41), .ext (.tmp 35) 0, none⟩, ⟨(some 42), .ext (.tmp 35) 1, none⟩, ⟨(some 9), .mv (.tmp 41), none⟩, ⟨(some 10), .mv (.tmp 42), none⟩])
 (.seq (.ops [⟨(some 44), .mv (.tmp 6), none⟩, ⟨(some 45), .faddr 0 (.tmp 8), none⟩, ⟨(some 46), .load false 1 (.tmp 45), none⟩, ⟨(some 47), .mlook .i64 (.agg #[]) true (.tmp 44) (.tmp 46), none⟩, ⟨(some 43), .mv (.tmp 47), none⟩, ⟨(some 48), .ext (.tmp 43) 0, none⟩, ⟨(some 49), .ext (.tmp 43) 1, none⟩, ⟨(some 11), .alloc [], none⟩, ⟨none, .store 0 (.tmp 11) (.tmp 48), none⟩, ⟨(some 12), .mv (.tmp 49), none⟩])
 (.seq (.ops [⟨(some 50), .mv (.tmp 10), none⟩, ⟨(some 51), .mv (.tmp 50), none⟩, ⟨(some 52), .mv (.tmp 12), (some (51, true))⟩, ⟨(some 53), .un .not (.tmp 52), (some (51, true))⟩, ⟨(some 54), .pick (.tmp 51) (.tmp 53) (.const (.bool false)), none⟩, ⟨(some 55), .call (.func 44) [(.tmp 54), (.const (.int .i64 1))], none⟩])
 (.seq (.ops [⟨(some 56), .mv (.tmp 6), none⟩, ⟨(some 57), .faddr 0 (.tmp 8), none⟩, ⟨(some 58), .load false 1 (.tmp 57), none⟩, ⟨(some 59), .build [] [], none⟩, ⟨none, .mupd .i64 (.tmp 56) (.tmp 58) (.tmp 59), none⟩])
 (.draw [⟨⟨(some 60), .mv (.tmp 5), none⟩, []⟩, ⟨⟨(some 61), .mv (.tmp 7), none⟩, []⟩, ⟨⟨(some 62), .bin .mul (.const (.int .i64 2)) (.tmp 61), none⟩, []⟩, ⟨⟨(some 63), .bin .add (.const (.int .i64 1)) (.tmp 62), none⟩, []⟩, ⟨⟨(some 64), .mv (.tmp 5), none⟩, []⟩, ⟨⟨(some 65), .mv (.tmp 7), none⟩, []⟩, ⟨⟨(some 66), .bin .mul (.const (.int .i64 2)) (.tmp 65), none⟩, []⟩, ⟨⟨(some 67), .bin .add (.const (.int .i64 2)) (.tmp 66), none⟩, []⟩, ⟨⟨(some 68), .faddr 0 (.tmp 8), none⟩, []⟩, ⟨⟨(some 69), .load false 1 (.tmp 68), none⟩, []⟩, ⟨⟨(some 70), .conv .u64 (.tmp 69), none⟩, []⟩, ⟨⟨(some 71), .faddr 1 (.tmp 8), none⟩, []⟩, ⟨⟨(some 72), .load false 1 (.tmp 71), none⟩, []⟩, ⟨⟨(some 73), .iaddrS 1 (.tmp 60) (.tmp 63), none⟩, []⟩, ⟨⟨none, .store 1 (.tmp 73) (.tmp 70), none⟩, [⟨(some 72), .load false 1 (.tmp 71), none⟩]⟩, ⟨⟨(some 74), .iaddrS 1 (.tmp 64) (.tmp 67), none⟩, []⟩, ⟨⟨none, .store 1 (.tmp 74) (.tmp 72), none⟩, []⟩])))))))
 (.ops [⟨(some 75), .bin .add (.tmp 30) (.const (.int .i64 1)), none⟩, ⟨(some 30), .mv (.tmp 75), none⟩])))))))
 (.seq (.ops [⟨(some 76), .mv (.tmp 5), none⟩, ⟨(some 4), .mv (.tmp 76), none⟩])
 .ret))))))),
 77, [.tmp 4]⟩
theorem lowwlogpack : lowerFn Tryd.prog Tryd.f46 = some Lwlogpack := by kernel_rfl
noncomputable def Gwlogpack (B : OH) : Nat → Cs
  | 30 => V11 B
  | 14 => VwlogPlace B
  | 47 => Vwlogmost B
  | 44 => Vwlogwant B
  | _ => fun _ _ _ => none
theorem Gwlogpack_11 {B : OH} : Gwlogpack B 30 = V11 B := rfl
theorem Gwlogpack_wlogPlace {B : OH} : Gwlogpack B 14 = VwlogPlace B := rfl
theorem Gwlogpack_wlogmost {B : OH} : Gwlogpack B 47 = Vwlogmost B := rfl
theorem Gwlogpack_wlogwant {B : OH} : Gwlogpack B 44 = Vwlogwant B := rfl
theorem sGwlogpack {w0 : World} {B : OH} : SoundG Tryd.prog w0 B { f := Gwlogpack B } := .of fun k => by
  unfold Gwlogpack
  split
  · exact .inr ⟨en11, sV11⟩
  · exact .inr ⟨enwlogPlace, sVwlogPlace⟩
  · exact .inr ⟨enwlogmost, sVwlogmost⟩
  · exact .inr ⟨enwlogwant, sVwlogwant⟩
  · exact .inl fun _ _ _ => rfl
theorem enwlogpack : Enter Tryd.prog 46 := .of Tryd.func46 (by kernel_rfl) (by kernel_rfl)
noncomputable def Twlogpack (B : OH) : Cs := callF B { f := Gwlogpack B } 1000000 Lwlogpack
theorem sTwlogpack {w0 : World} {B : OH} : SoundC Tryd.prog w0 B 46 (Twlogpack B) := callF_sound mixedOrders sGwlogpack 1000000 Tryd.func46 lowwlogpack
noncomputable def Vwlogpack (B : OH) : Cs := Twlogpack B
theorem sVwlogpack {w0 : World} {B : OH} : SoundC Tryd.prog w0 B 46 (Vwlogpack B) := sTwlogpack
structure KPk (c bo G m : Nat) (vl : Value) (n i : Nat) (ts : List Value) : Prop where
  l : ts.length = 77
  t2 : gt ts 2 = .pointer (some ⟨c, 0, none⟩)
  t5 : gt ts 5 = .slice (some ⟨bo, 0, none⟩) G G
  t6 : gt ts 6 = .map (some m)
  t28 : gt ts 28 = vl
  t29 : gt ts 29 = .int .i64 (n : Int)
  t30 : gt ts 30 = .int .i64 (i : Int)
def lbPk : LC := (.seq (.ops [⟨(some 31), .bin .lss (.tmp 30) (.tmp 29), none⟩])
 (.seq (.cond (.tmp 31) .skip
 (.exit 0))
 (.seq (.block 1 (.seq (.ops [⟨(some 32), .mv (.tmp 30), none⟩, ⟨(some 33), .iaddrS 2 (.tmp 28) (.tmp 30), none⟩, ⟨(some 34), .load true 2 (.tmp 33), none⟩, ⟨(some 8), .alloc [(.int .i64 0), (.int .u64 0)], none⟩, ⟨(some 7), .mv (.tmp 32), none⟩, ⟨none, .store 2 (.tmp 8) (.tmp 34), none⟩])
 (.seq (.ops [⟨(some 36), .load true 3 (.tmp 2), none⟩, ⟨(some 37), .faddr 0 (.tmp 8), none⟩, ⟨(some 38), .load false 1 (.tmp 37), none⟩, ⟨(some 39), .conv .u64 (.tmp 38), none⟩, ⟨(some 40), .call (.func 14) [(.tmp 36), (.tmp 39)], none⟩, ⟨(some 35), .mv (.tmp 40), none⟩, ⟨(some 41), .ext (.tmp 35) 0, none⟩, ⟨(some 42), .ext (.tmp 35) 1, none⟩, ⟨(some 9), .mv (.tmp 41), none⟩, ⟨(some 10), .mv (.tmp 42), none⟩])
 (.seq (.ops [⟨(some 44), .mv (.tmp 6), none⟩, ⟨(some 45), .faddr 0 (.tmp 8), none⟩, ⟨(some 46), .load false 1 (.tmp 45), none⟩, ⟨(some 47), .mlook .i64 (.agg #[]) true (.tmp 44) (.tmp 46), none⟩, ⟨(some 43), .mv (.tmp 47), none⟩, ⟨(some 48), .ext (.tmp 43) 0, none⟩, ⟨(some 49), .ext (.tmp 43) 1, none⟩, ⟨(some 11), .alloc [], none⟩, ⟨none, .store 0 (.tmp 11) (.tmp 48), none⟩, ⟨(some 12), .mv (.tmp 49), none⟩])
 (.seq (.ops [⟨(some 50), .mv (.tmp 10), none⟩, ⟨(some 51), .mv (.tmp 50), none⟩, ⟨(some 52), .mv (.tmp 12), (some (51, true))⟩, ⟨(some 53), .un .not (.tmp 52), (some (51, true))⟩, ⟨(some 54), .pick (.tmp 51) (.tmp 53) (.const (.bool false)), none⟩, ⟨(some 55), .call (.func 44) [(.tmp 54), (.const (.int .i64 1))], none⟩])
 (.seq (.ops [⟨(some 56), .mv (.tmp 6), none⟩, ⟨(some 57), .faddr 0 (.tmp 8), none⟩, ⟨(some 58), .load false 1 (.tmp 57), none⟩, ⟨(some 59), .build [] [], none⟩, ⟨none, .mupd .i64 (.tmp 56) (.tmp 58) (.tmp 59), none⟩])
 (.draw [⟨⟨(some 60), .mv (.tmp 5), none⟩, []⟩, ⟨⟨(some 61), .mv (.tmp 7), none⟩, []⟩, ⟨⟨(some 62), .bin .mul (.const (.int .i64 2)) (.tmp 61), none⟩, []⟩, ⟨⟨(some 63), .bin .add (.const (.int .i64 1)) (.tmp 62), none⟩, []⟩, ⟨⟨(some 64), .mv (.tmp 5), none⟩, []⟩, ⟨⟨(some 65), .mv (.tmp 7), none⟩, []⟩, ⟨⟨(some 66), .bin .mul (.const (.int .i64 2)) (.tmp 65), none⟩, []⟩, ⟨⟨(some 67), .bin .add (.const (.int .i64 2)) (.tmp 66), none⟩, []⟩, ⟨⟨(some 68), .faddr 0 (.tmp 8), none⟩, []⟩, ⟨⟨(some 69), .load false 1 (.tmp 68), none⟩, []⟩, ⟨⟨(some 70), .conv .u64 (.tmp 69), none⟩, []⟩, ⟨⟨(some 71), .faddr 1 (.tmp 8), none⟩, []⟩, ⟨⟨(some 72), .load false 1 (.tmp 71), none⟩, []⟩, ⟨⟨(some 73), .iaddrS 1 (.tmp 60) (.tmp 63), none⟩, []⟩, ⟨⟨none, .store 1 (.tmp 73) (.tmp 70), none⟩, [⟨(some 72), .load false 1 (.tmp 71), none⟩]⟩, ⟨⟨(some 74), .iaddrS 1 (.tmp 64) (.tmp 67), none⟩, []⟩, ⟨⟨none, .store 1 (.tmp 74) (.tmp 72), none⟩, []⟩])))))))
 (.ops [⟨(some 75), .bin .add (.tmp 30) (.const (.int .i64 1)), none⟩, ⟨(some 30), .mv (.tmp 75), none⟩]))))
set_option maxHeartbeats 8000000 in
theorem loopPk {B : OH} {H0 H : HL} {N : St} {vl : Value} {l : List W2} {kk p cc h c bo m : Nat} (hT : Tab B) (C : Cf kk p cc h) (hl : SlR w2 2 B H0 vl l) (hw : W2s l) (hlen : l.length ≤ h + 2 * p) (hN : good B H N) (hF0 : Fr H0 H) (bc : B c = none) (bbo : B bo = none) (bm : B m = none) (h0o : lk H0 bo = none) (h0m : lk H0 m = none) (h0c : lk H0 c = none)
    (lc : lk H c = some (.cells [.int .i64 (kk : Int), .int .i64 (p : Int), .int .i64 (cc : Int)] 3)) (lo : lk H bo = some (.cells (fl w1 (oW (LG p h) l 0)) (LG p h))) (lm : lk H m = some (.map .i64 (mfn l 0))) (hco : c ≠ bo) (hcm : c ≠ m) {ts : List Value} (kp : KPk c bo (LG p h) m vl l.length 0 ts) {F : Nat} (hF : 200 + l.length + 1 ≤ F) :
    Ok (exec B { f := Gwlogpack B } F (LC.loop lbPk) ⟨ts, H, N⟩) (fun x s => good B s.H s.N ∧ Fr H0 s.H ∧ (∀ y c', y ≠ bo → y ≠ m → lk H y = some c' → lk s.H y = some c') ∧ ((x = .exit 0 ∧ okL p h l l.length ∧ lk s.H bo = some (.cells (fl w1 (oW (LG p h) l l.length)) (LG p h)) ∧ KPk c bo (LG p h) m vl l.length l.length s.t) ∨ (x = .pan (.iface 105 (.agg #[.int .i64 1])) ∧ ¬ okL p h l l.length))) := by
  have hLG : 1 + 2 * l.length ≤ LG p h := by unfold LG; omega
  have hlb := LG_b C
  refine loop_rule (n0 := 200) (fun q s => ∃ ts H' N', ∃ i : Nat, s = ⟨ts, H', N'⟩ ∧ KPk c bo (LG p h) m vl l.length i ts ∧ good B H' N' ∧ Fr H0 H' ∧ (∀ y c', y ≠ bo → y ≠ m → lk H y = some c' → lk H' y = some c') ∧ lk H' bo = some (.cells (fl w1 (oW (LG p h) l i)) (LG p h)) ∧ lk H' m = some (.map .i64 (mfn l i)) ∧ okL p h l i ∧ i ≤ l.length ∧ q = l.length - i) _ ?_ l.length _ ⟨ts, H, N, 0, rfl, kp, hN, hF0, fun _ _ _ _ e => e, lo, lm, fun i hi => by omega, by omega, rfl⟩ _ hF
  clear kp hF F ts lo lm hN hF0 N
  rintro z q s ⟨ts, H1, N1, i, rfl, kp, g, fr, fk, lo, lm, hok, hi, rfl⟩
  have hB := good_B g
  have hR := good_rdB g
  have hI := beqN g.1.1
  have hG : ∃ H N, good B H N := ⟨H1, N1, g⟩
  have hc1 : ((i + 1 : Nat) : Int) = (i : Int) + 1 := by omega
  have hbom : bo ≠ m := fun e => by rw [e, lm] at lo; cases lo
  have lc1 := fk _ _ hco hcm lc
  have ncb : (c == bo) = false := eqb hco
  have ncm : (c == m) = false := eqb hcm
  have nbm : (bo == m) = false := eqb hbom
  have nmb : (m == bo) = false := eqb (Ne.symm hbom)
  have nbc : (bo == c) = false := eqb (Ne.symm hco)
  have nmc : (m == c) = false := eqb (Ne.symm hcm)
  have nc := ne_N g lc1
  have nc' := ne_N' g lc1
  have nb := ne_N g lo
  have nb' := ne_N' g lo
  have nm := ne_N g lm
  have nm' := ne_N' g lm
  have rc := fun o n => rdB_none (o := o) (n := n) bc
  have rb := fun o n => rdB_none (o := o) (n := n) bbo
  have rm := fun o n => rdB_none (o := o) (n := n) bm
  by_cases hin : i < l.length
  case neg =>
    obtain rfl : i = l.length := by omega
    simp -implicitDefEqProofs (maxSteps := 10000000) (disch := omega) only [Twlogpack, Lwlogpack, Gwlogpack_11, V11_eq, Gwlogpack_wlogPlace, VwlogPlace_eq, Gwlogpack_wlogmost, Vwlogmost_eq, Gwlogpack_wlogwant, Vwlogwant, Twlogwant, Lwlogwant, hB, hR, hI, lbPk, kp.l, kp.t2, kp.t5, kp.t6, kp.t28, kp.t29, kp.t30, Int.lt_irrefl, bt, bf, all1, ress, res1, retV, Value.cells, reduceIte, reduceCtorEq, Int.reduceLT, Int.reduceLE, Int.reduceToNat, Int.reduceAdd, Int.reduceSub, Int.reduceMul, Int.reduceNeg, Nat.reduceMul, Nat.reduceAdd, Nat.reduceSub, Nat.reduceBEq, Nat.reduceEqDiff, Nat.reduceLT, Nat.reduceLeDiff, Int.reduceBEq, Int.reduceEq, Nat.reducePow, Int.reducePow, Int.reduceGT, Int.reduceGE, Int.reduceBNe, newsV_s, ev1, ev2, ev3, ev4]
    refine ok_some (.inr ⟨by simp, g, fr, fk, .inl ⟨rfl, hok, lo, ⟨?_, ?_, ?_, ?_, ?_, ?_, ?_⟩⟩⟩)
    all_goals simp (maxSteps := 10000000) (disch := omega) only [kp.l, kp.t2, kp.t5, kp.t6, kp.t28, kp.t29, kp.t30, lenV_sl, Int.toNat_natCast, bft, btf, gtst, st_len, Nat.reduceAdd, Int.cast_ofNat_Int, Nat.reduceBEq, Nat.reduceLT, decide_true, ev2]
  have hin' : (i : Int) < (l.length : Int) := by omega
  have i0 : (0 : Int) ≤ (i : Int) := by omega
  obtain ⟨bv, ov, cv, rfl, _, rv⟩ := hl.at (by omega)
  have rv := SlR.read rv w2_len fr y2 hin
  obtain ⟨ha, hwu⟩ := hw.at i
  have hset := oW_set (i := i) hin hLG
  have hms := mfn_s l i
  have hl0 := oW_len (l := l) (i := i) (by omega) hLG
  have hoki : okL p h l (i + 1) ↔ (okP p h (l.getD i y2).a ∧ ∀ j, j < i → (l.getD j y2).a ≠ (l.getD i y2).a) := by
    constructor
    · intro h'; exact h' i (by omega)
    · intro h' j hj
      by_cases e : j = i
      · rw [e]; exact h'
      · exact hok j (by omega)
  have hbad : ¬ okL p h l (i + 1) → ¬ okL p h l l.length := fun h1 h2 => h1 fun j hj => h2 j (by omega)
  have hex : (∃ j, j < i ∧ (l.getD j y2).a = (l.getD i y2).a) → ¬ okL p h l (i + 1) := fun ⟨j, hj, e⟩ h' => (hoki.1 h').2 j hj e
  have hgood : okP p h (l.getD i y2).a → (¬ ∃ j, j < i ∧ (l.getD j y2).a = (l.getD i y2).a) → okL p h l (i + 1) := fun h1 h2 => hoki.2 ⟨h1, fun j hj e => h2 ⟨j, hj, e⟩⟩
  have hnok : ¬ okP p h (l.getD i y2).a → ¬ okL p h l (i + 1) := fun h1 h2 => h1 (hoki.1 h2).1
  have my := fun (h' : ∃ j, j < i ∧ (l.getD j y2).a = (l.getD i y2).a) => mfn_y h'
  have mn' := fun (h' : ¬ ∃ j, j < i ∧ (l.getD j y2).a = (l.getD i y2).a) => mfn_n h'
  clear hoki hok
  generalize (∃ j, j < i ∧ (l.getD j y2).a = (l.getD i y2).a) = EX at *
  generalize l.getD i y2 = x at *
  obtain ⟨a, w⟩ := x
  simp only at rv ha hwu hset hms hgood hnok my mn'
  simp only [w2] at rv
  have ep := fPlace hG hT C (wrapU a)
  by_cases hpl : okP p h a
  case neg =>
    rw [plV_n (fun h' => hpl ((okP_wrap C ha).1 h'))] at ep
    by_cases hEX : EX
    · have hmv := my hEX
      simp -implicitDefEqProofs (maxSteps := 10000000) (disch := omega) only [Twlogpack, Lwlogpack, Gwlogpack_11, V11_eq, Gwlogpack_wlogPlace, VwlogPlace_eq, Gwlogpack_wlogmost, Vwlogmost_eq, Gwlogpack_wlogwant, Vwlogwant, Twlogwant, Lwlogwant, hB, hR, hI, lbPk, kp.l, kp.t2, kp.t5, kp.t6, kp.t28, kp.t29, kp.t30, hin, hin', i0, rv, lc1, bc, rc, lo, bbo, rb, lm, bm, rm, nc, nc', nb, nb', nm, nm', ncb, ncm, nbm, nmb, nbc, nmc, ep, hmv, bt, bf, all1, ress, res1, retV, Value.cells, reduceIte, reduceCtorEq, Int.reduceLT, Int.reduceLE, Int.reduceToNat, Int.reduceAdd, Int.reduceSub, Int.reduceMul, Int.reduceNeg, Nat.reduceMul, Nat.reduceAdd, Nat.reduceSub, Nat.reduceBEq, Nat.reduceEqDiff, Nat.reduceLT, Nat.reduceLeDiff, Int.reduceBEq, Int.reduceEq, Nat.reducePow, Int.reducePow, Int.reduceGT, Int.reduceGE, Int.reduceBNe, newsV_s, ev1, ev2, ev3, ev4]
      refine ok_some (.inr ⟨by simp, good_new (good_new g), fr_new (good_new g) (fr_new g fr 0) 0, fun y c' h1 h2 e => ?_, .inr ⟨rfl, hbad (hnok hpl)⟩⟩)
      have e1 := fk _ _ h1 h2 e
      have n0 := ne_N g e1
      simp -implicitDefEqProofs (maxSteps := 10000000) (disch := omega) only [Twlogpack, Lwlogpack, Gwlogpack_11, V11_eq, Gwlogpack_wlogPlace, VwlogPlace_eq, Gwlogpack_wlogmost, Vwlogmost_eq, Gwlogpack_wlogwant, Vwlogwant, Twlogwant, Lwlogwant, hB, hR, hI, lbPk, n0, e1, bt, bf, all1, ress, res1, retV, Value.cells, reduceIte, reduceCtorEq, Int.reduceLT, Int.reduceLE, Int.reduceToNat, Int.reduceAdd, Int.reduceSub, Int.reduceMul, Int.reduceNeg, Nat.reduceMul, Nat.reduceAdd, Nat.reduceSub, Nat.reduceBEq, Nat.reduceEqDiff, Nat.reduceLT, Nat.reduceLeDiff, Int.reduceBEq, Int.reduceEq, Nat.reducePow, Int.reducePow, Int.reduceGT, Int.reduceGE, Int.reduceBNe, newsV_s, ev1, ev2, ev3, ev4]
    · have hmv := mn' hEX
      simp -implicitDefEqProofs (maxSteps := 10000000) (disch := omega) only [Twlogpack, Lwlogpack, Gwlogpack_11, V11_eq, Gwlogpack_wlogPlace, VwlogPlace_eq, Gwlogpack_wlogmost, Vwlogmost_eq, Gwlogpack_wlogwant, Vwlogwant, Twlogwant, Lwlogwant, hB, hR, hI, lbPk, kp.l, kp.t2, kp.t5, kp.t6, kp.t28, kp.t29, kp.t30, hin, hin', i0, rv, lc1, bc, rc, lo, bbo, rb, lm, bm, rm, nc, nc', nb, nb', nm, nm', ncb, ncm, nbm, nmb, nbc, nmc, ep, hmv, bt, bf, all1, ress, res1, retV, Value.cells, reduceIte, reduceCtorEq, Int.reduceLT, Int.reduceLE, Int.reduceToNat, Int.reduceAdd, Int.reduceSub, Int.reduceMul, Int.reduceNeg, Nat.reduceMul, Nat.reduceAdd, Nat.reduceSub, Nat.reduceBEq, Nat.reduceEqDiff, Nat.reduceLT, Nat.reduceLeDiff, Int.reduceBEq, Int.reduceEq, Nat.reducePow, Int.reducePow, Int.reduceGT, Int.reduceGE, Int.reduceBNe, newsV_s, ev1, ev2, ev3, ev4]
      refine ok_some (.inr ⟨by simp, good_new (good_new g), fr_new (good_new g) (fr_new g fr 0) 0, fun y c' h1 h2 e => ?_, .inr ⟨rfl, hbad (hnok hpl)⟩⟩)
      have e1 := fk _ _ h1 h2 e
      have n0 := ne_N g e1
      simp -implicitDefEqProofs (maxSteps := 10000000) (disch := omega) only [Twlogpack, Lwlogpack, Gwlogpack_11, V11_eq, Gwlogpack_wlogPlace, VwlogPlace_eq, Gwlogpack_wlogmost, Vwlogmost_eq, Gwlogpack_wlogwant, Vwlogwant, Twlogwant, Lwlogwant, hB, hR, hI, lbPk, n0, e1, bt, bf, all1, ress, res1, retV, Value.cells, reduceIte, reduceCtorEq, Int.reduceLT, Int.reduceLE, Int.reduceToNat, Int.reduceAdd, Int.reduceSub, Int.reduceMul, Int.reduceNeg, Nat.reduceMul, Nat.reduceAdd, Nat.reduceSub, Nat.reduceBEq, Nat.reduceEqDiff, Nat.reduceLT, Nat.reduceLeDiff, Int.reduceBEq, Int.reduceEq, Nat.reducePow, Int.reducePow, Int.reduceGT, Int.reduceGE, Int.reduceBNe, newsV_s, ev1, ev2, ev3, ev4]
  have hpb := okP_b C hpl
  have wa : IntKind.u64.wrap a = a := IntWalk.u64_in _ (by omega)
  rw [plV_y ((okP_wrap C ha).2 hpl), wa] at ep
  by_cases hEX : EX
  · have hmv := my hEX
    simp -implicitDefEqProofs (maxSteps := 10000000) (disch := omega) only [Twlogpack, Lwlogpack, Gwlogpack_11, V11_eq, Gwlogpack_wlogPlace, VwlogPlace_eq, Gwlogpack_wlogmost, Vwlogmost_eq, Gwlogpack_wlogwant, Vwlogwant, Twlogwant, Lwlogwant, hB, hR, hI, lbPk, kp.l, kp.t2, kp.t5, kp.t6, kp.t28, kp.t29, kp.t30, hin, hin', i0, rv, lc1, bc, rc, lo, bbo, rb, lm, bm, rm, nc, nc', nb, nb', nm, nm', ncb, ncm, nbm, nmb, nbc, nmc, ep, hmv, bt, bf, all1, ress, res1, retV, Value.cells, reduceIte, reduceCtorEq, Int.reduceLT, Int.reduceLE, Int.reduceToNat, Int.reduceAdd, Int.reduceSub, Int.reduceMul, Int.reduceNeg, Nat.reduceMul, Nat.reduceAdd, Nat.reduceSub, Nat.reduceBEq, Nat.reduceEqDiff, Nat.reduceLT, Nat.reduceLeDiff, Int.reduceBEq, Int.reduceEq, Nat.reducePow, Int.reducePow, Int.reduceGT, Int.reduceGE, Int.reduceBNe, newsV_s, ev1, ev2, ev3, ev4]
    refine ok_some (.inr ⟨by simp, good_new (good_new g), fr_new (good_new g) (fr_new g fr 0) 0, fun y c' h1 h2 e => ?_, .inr ⟨rfl, hbad (hex hEX)⟩⟩)
    have e1 := fk _ _ h1 h2 e
    have n0 := ne_N g e1
    simp -implicitDefEqProofs (maxSteps := 10000000) (disch := omega) only [Twlogpack, Lwlogpack, Gwlogpack_11, V11_eq, Gwlogpack_wlogPlace, VwlogPlace_eq, Gwlogpack_wlogmost, Vwlogmost_eq, Gwlogpack_wlogwant, Vwlogwant, Twlogwant, Lwlogwant, hB, hR, hI, lbPk, n0, e1, bt, bf, all1, ress, res1, retV, Value.cells, reduceIte, reduceCtorEq, Int.reduceLT, Int.reduceLE, Int.reduceToNat, Int.reduceAdd, Int.reduceSub, Int.reduceMul, Int.reduceNeg, Nat.reduceMul, Nat.reduceAdd, Nat.reduceSub, Nat.reduceBEq, Nat.reduceEqDiff, Nat.reduceLT, Nat.reduceLeDiff, Int.reduceBEq, Int.reduceEq, Nat.reducePow, Int.reducePow, Int.reduceGT, Int.reduceGE, Int.reduceBNe, newsV_s, ev1, ev2, ev3, ev4]
  have hmv := mn' hEX
  have x0 : 1 + 2 * (i : Int) = ((1 + 2 * i : Nat) : Int) := by omega
  have x1 : 2 + 2 * (i : Int) = ((2 + 2 * i : Nat) : Int) := by omega
  have x2 : (0 : Int) ≤ ((1 + 2 * i : Nat) : Int) := by omega
  have x3 : (0 : Int) ≤ ((2 + 2 * i : Nat) : Int) := by omega
  have x4 : 1 + 2 * i < LG p h := by omega
  have x5 : 2 + 2 * i < LG p h := by omega
  have x6 : IntKind.i64.wrap ((1 + 2 * i : Nat) : Int) = ((1 + 2 * i : Nat) : Int) := IntWalk.i64_in _ (by omega)
  have x7 : IntKind.i64.wrap ((2 + 2 * i : Nat) : Int) = ((2 + 2 * i : Nat) : Int) := IntWalk.i64_in _ (by omega)
  have v1 : wr (fl w1 (oW (LG p h) l i)) (1 + 2 * i) [.int .u64 a] = some (fl w1 ((oW (LG p h) l i).set (1 + 2 * i) a)) := by
    have := wr_fl w1_len (oW (LG p h) l i) (1 + 2 * i) 0 [.int .u64 a] 0 a (by omega) (by simp) rfl
    rwa [Nat.mul_one, Nat.add_zero] at this
  have v2 : wr (fl w1 ((oW (LG p h) l i).set (1 + 2 * i) a)) (2 + 2 * i) [.int .u64 w] = some (fl w1 (oW (LG p h) l (i + 1))) := by
    have := wr_fl w1_len ((oW (LG p h) l i).set (1 + 2 * i) a) (2 + 2 * i) 0 [.int .u64 w] 0 w (by rw [List.length_set]; omega) (by simp) rfl
    rw [Nat.mul_one, Nat.add_zero, hset] at this
    exact this
  simp -implicitDefEqProofs (maxSteps := 10000000) (disch := omega) only [Twlogpack, Lwlogpack, Gwlogpack_11, V11_eq, Gwlogpack_wlogPlace, VwlogPlace_eq, Gwlogpack_wlogmost, Vwlogmost_eq, Gwlogpack_wlogwant, Vwlogwant, Twlogwant, Lwlogwant, hB, hR, hI, lbPk, kp.l, kp.t2, kp.t5, kp.t6, kp.t28, kp.t29, kp.t30, hin, hin', i0, rv, lc1, bc, rc, lo, bbo, rb, lm, bm, rm, nc, nc', nb, nb', nm, nm', ncb, ncm, nbm, nmb, nbc, nmc, ep, hmv, x0, x1, x2, x3, x4, x5, x6, x7, wa, v1, v2, hms, Nat.mul_one, bt, bf, all1, ress, res1, retV, Value.cells, reduceIte, reduceCtorEq, Int.reduceLT, Int.reduceLE, Int.reduceToNat, Int.reduceAdd, Int.reduceSub, Int.reduceMul, Int.reduceNeg, Nat.reduceMul, Nat.reduceAdd, Nat.reduceSub, Nat.reduceBEq, Nat.reduceEqDiff, Nat.reduceLT, Nat.reduceLeDiff, Int.reduceBEq, Int.reduceEq, Nat.reducePow, Int.reducePow, Int.reduceGT, Int.reduceGE, Int.reduceBNe, newsV_s, ev1, ev2, ev3, ev4]
  have g2 := good_set (k := .map .i64 (mfn l (i + 1))) (good_new (k := .cells [] 0) (good_new (k := .cells [.int .i64 a, .int .u64 w] 2) g)) bm (by rw [lk_cons, sh_app, nm, cond_false, lk_cons, nm, cond_false]; exact lm)
  have l2 : lk ((m, .map .i64 (mfn l (i + 1))) :: ((sh N1).n 0, .cells [] 0) :: (N1.n 0, .cells [.int .i64 a, .int .u64 w] 2) :: H1) bo = some (.cells (fl w1 (oW (LG p h) l i)) (LG p h)) := by
    rw [lk_cons, nbm, cond_false, lk_cons, sh_app, nb, cond_false, lk_cons, nb, cond_false]; exact lo
  have g3 := good_up (k := .cells (fl w1 ((oW (LG p h) l i).set (1 + 2 * i) a)) (LG p h)) g2 bbo l2
  have g4 := good_up (k := .cells (fl w1 (oW (LG p h) l (i + 1))) (LG p h)) g3 bbo (by rw [lk_upH, beq_self_eq_true, cond_true])
  have f4 := fr_up (k := .cells (fl w1 (oW (LG p h) l (i + 1))) (LG p h)) (fr_up (k := .cells (fl w1 ((oW (LG p h) l i).set (1 + 2 * i) a)) (LG p h)) (fr_set (k := .map .i64 (mfn l (i + 1))) (fr_new (k := .cells [] 0) (good_new (k := .cells [.int .i64 a, .int .u64 w] 2) g) (fr_new (k := .cells [.int .i64 a, .int .u64 w] 2) g fr 0) 0) h0m) h0o) h0o
  simp only [upH_cons, sh_app, nbm, nb, cond_false] at g4 f4
  refine ok_some (.inl ⟨rfl, l.length - (i + 1), by omega, _, _, _, i + 1, rfl, ⟨?_, ?_, ?_, ?_, ?_, ?_, ?_⟩, g4, f4, fun y c' h1 h2 e => ?_, ?_, ?_, hgood hpl hEX, by omega, rfl⟩)
  rotate_right
  · simp -implicitDefEqProofs (maxSteps := 10000000) (disch := omega) only [Twlogpack, Lwlogpack, Gwlogpack_11, V11_eq, Gwlogpack_wlogPlace, VwlogPlace_eq, Gwlogpack_wlogmost, Vwlogmost_eq, Gwlogpack_wlogwant, Vwlogwant, Twlogwant, Lwlogwant, hB, hR, hI, lbPk, bt, bf, all1, ress, res1, retV, Value.cells, reduceIte, reduceCtorEq, Int.reduceLT, Int.reduceLE, Int.reduceToNat, Int.reduceAdd, Int.reduceSub, Int.reduceMul, Int.reduceNeg, Nat.reduceMul, Nat.reduceAdd, Nat.reduceSub, Nat.reduceBEq, Nat.reduceEqDiff, Nat.reduceLT, Nat.reduceLeDiff, Int.reduceBEq, Int.reduceEq, Nat.reducePow, Int.reducePow, Int.reduceGT, Int.reduceGE, Int.reduceBNe, newsV_s, ev1, ev2, ev3, ev4]
  rotate_right
  · simp -implicitDefEqProofs (maxSteps := 10000000) (disch := omega) only [Twlogpack, Lwlogpack, Gwlogpack_11, V11_eq, Gwlogpack_wlogPlace, VwlogPlace_eq, Gwlogpack_wlogmost, Vwlogmost_eq, Gwlogpack_wlogwant, Vwlogwant, Twlogwant, Lwlogwant, hB, hR, hI, lbPk, nbm, nb, lo, bt, bf, all1, ress, res1, retV, Value.cells, reduceIte, reduceCtorEq, Int.reduceLT, Int.reduceLE, Int.reduceToNat, Int.reduceAdd, Int.reduceSub, Int.reduceMul, Int.reduceNeg, Nat.reduceMul, Nat.reduceAdd, Nat.reduceSub, Nat.reduceBEq, Nat.reduceEqDiff, Nat.reduceLT, Nat.reduceLeDiff, Int.reduceBEq, Int.reduceEq, Nat.reducePow, Int.reducePow, Int.reduceGT, Int.reduceGE, Int.reduceBNe, newsV_s, ev1, ev2, ev3, ev4]
  rotate_right
  · have e1 := fk _ _ h1 h2 e
    have n0 := ne_N g e1
    have n1 : (y == m) = false := eqb h2
    have n2 : (y == bo) = false := eqb h1
    simp -implicitDefEqProofs (maxSteps := 10000000) (disch := omega) only [Twlogpack, Lwlogpack, Gwlogpack_11, V11_eq, Gwlogpack_wlogPlace, VwlogPlace_eq, Gwlogpack_wlogmost, Vwlogmost_eq, Gwlogpack_wlogwant, Vwlogwant, Twlogwant, Lwlogwant, hB, hR, hI, lbPk, n0, n1, n2, e1, bt, bf, all1, ress, res1, retV, Value.cells, reduceIte, reduceCtorEq, Int.reduceLT, Int.reduceLE, Int.reduceToNat, Int.reduceAdd, Int.reduceSub, Int.reduceMul, Int.reduceNeg, Nat.reduceMul, Nat.reduceAdd, Nat.reduceSub, Nat.reduceBEq, Nat.reduceEqDiff, Nat.reduceLT, Nat.reduceLeDiff, Int.reduceBEq, Int.reduceEq, Nat.reducePow, Int.reducePow, Int.reduceGT, Int.reduceGE, Int.reduceBNe, newsV_s, ev1, ev2, ev3, ev4]
  all_goals simp (maxSteps := 10000000) (disch := omega) only [kp.l, kp.t2, kp.t5, kp.t6, kp.t28, kp.t29, kp.t30, lenV_sl, Int.toNat_natCast, bft, btf, gtst, st_len, hc1, Nat.reduceAdd, Int.cast_ofNat_Int, Nat.reduceBEq, Nat.reduceLT, decide_true, ev2]
end Go.Proofs.YtfhiplfagejfoaaDoor
namespace Go.Proofs.YtfhiplfagejfoaaDoor
open Go.Proofs.YtfhiplfagejfoaaDoor.K Go.ChangeShapes Go.WideShapes Go.ChangeAt Go.RowKit 
set_option maxRecDepth 100000
set_option linter.unusedSimpArgs false
set_option linter.unusedVariables false
theorem packW_len {p h : Nat} {l : List W2} (H : l.length ≤ h + 2 * p) : (packW p h l).length = LG p h := oW_len (Nat.le_refl _) (by unfold LG; omega)
def LgP : FnD := ⟨(.ops [⟨(some 2), .box (.tmp 0), none⟩, ⟨(some 4), .mv (.const (.slice none 0 0)), none⟩, ⟨(some 5), .alloc [(.int .i64 0)], none⟩]), 43, [(.tmp 5)], (.seq (.ops [⟨(some 6), .load true 3 (.tmp 2), none⟩, ⟨(some 7), .call (.func 45) [(.tmp 6)], none⟩, ⟨(some 8), .call (.func 44) [(.tmp 7), (.const (.int .i64 5))], none⟩])
 (.seq (.ops [⟨(some 9), .load true 3 (.tmp 2), none⟩, ⟨(some 10), .mv (.tmp 1), none⟩, ⟨(some 11), .call (.func 46) [(.tmp 9), (.tmp 10)], none⟩, ⟨(some 4), .mv (.tmp 11), none⟩, ⟨none, .store 1 (.tmp 5) (.const (.int .i64 0)), none⟩])
 .ret)),
 12, [.tmp 4, .cell 5 false 1]⟩
theorem lowgP : lowerDfr Tryd.prog Tryd.f16 = some LgP := by kernel_rfl
noncomputable def GgP (B : OH) : Nat → Cs
  | 45 => V13 B
  | 46 => Vwlogpack B
  | 44 => Vwlogwant B
  | _ => fun _ _ _ => none
theorem GgP_13 {B : OH} : GgP B 45 = V13 B := rfl
theorem GgP_wlogpack {B : OH} : GgP B 46 = Vwlogpack B := rfl
theorem GgP_wlogwant {B : OH} : GgP B 44 = Vwlogwant B := rfl
theorem sGgP {w0 : World} {B : OH} : SoundG Tryd.prog w0 B { f := GgP B } := .of fun k => by
  unfold GgP
  split
  · exact .inr ⟨en13, sV13⟩
  · exact .inr ⟨enwlogpack, sVwlogpack⟩
  · exact .inr ⟨enwlogwant, sVwlogwant⟩
  · exact .inl fun _ _ _ => rfl
theorem engP : Enter Tryd.prog 16 := .of Tryd.func16 (by kernel_rfl) (by kernel_rfl)
noncomputable def DgP (B : OH) : Nat → Ds
  | 43 => Uwlogcaught B
  | _ => fun _ _ _ _ => none
theorem DgP_wlogcaught {B : OH} : DgP B 43 = Uwlogcaught B := rfl
noncomputable def TgP (B : OH) : Cs := callD B { f := GgP B } (DgP B) 1000000 LgP
theorem sTgP {w0 : World} {B : OH} : SoundC Tryd.prog w0 B 16 (TgP B) := callD_sound mixedOrders sGgP 1000000 Tryd.func16 lowgP enwlogcaught sUwlogcaught
noncomputable def VgP (B : OH) : Cs := TgP B
theorem sVgP {w0 : World} {B : OH} : SoundC Tryd.prog w0 B 16 (VgP B) := sTgP
set_option maxHeartbeats 8000000 in
theorem fPack {B : OH} {H : HL} {N : St} {vl : Value} {l : List W2} {kk p cc h : Nat} (hT : Tab B) (C : Cf kk p cc h) (hN : good B H N) (hl : SlR w2 2 B H vl l) (hw : W2s l) :
    ∃ v' H' N', VgP B [.agg #[.int .i64 (kk : Int), .int .i64 (p : Int), .int .i64 (cc : Int)], vl] H N = some (.ret (.tuple #[v', .int .i64 (packE p h l)]), H', N') ∧ good B H' N' ∧ Fr H H' ∧ SlN w1 1 B H H' v' (if packE p h l = 0 then packW p h l else []) := by
  have hB := good_B hN
  have hR := good_rdB hN
  have hI := beqN hN.1.1
  have hG : ∃ H N, good B H N := ⟨H, N, hN⟩
  have e1 := f13 hG kk p cc (cfit C).1 (cfit C).2.1 (cfit C).2.2
  have e2 := fmost hG hT C
  have e3 := f11c hG hT C
  have hll := hl.len
  have hlb := LG_b C
  unfold VgP
  by_cases hlen : l.length ≤ h + 2 * p
  case neg =>
    have c1 : ¬ (l.length : Int) ≤ ((h + 2 * p : Nat) : Int) := by omega
    have he := packE_long (p := p) (h := h) (l := l) (by omega)
    rw [he, if_neg (by decide)]
    simp -implicitDefEqProofs (maxSteps := 10000000) (disch := omega) only [TgP, LgP, GgP_13, V13_eq, GgP_wlogpack, Vwlogpack, Twlogpack, Lwlogpack, Gwlogpack_11, V11_eq, Gwlogpack_wlogPlace, VwlogPlace_eq, Gwlogpack_wlogmost, Vwlogmost_eq, Gwlogpack_wlogwant, Vwlogwant, Twlogwant, Lwlogwant, GgP_wlogwant, DgP_wlogcaught, Uwlogcaught, Lwlogcaught, hB, hR, hI, e1, e2, hll, c1, bt, bf, all1, ress, res1, retV, Value.cells, reduceIte, reduceCtorEq, Int.reduceLT, Int.reduceLE, Int.reduceToNat, Int.reduceAdd, Int.reduceSub, Int.reduceMul, Int.reduceNeg, Nat.reduceMul, Nat.reduceAdd, Nat.reduceSub, Nat.reduceBEq, Nat.reduceEqDiff, Nat.reduceLT, Nat.reduceLeDiff, Int.reduceBEq, Int.reduceEq, Nat.reducePow, Int.reducePow, Int.reduceGT, Int.reduceGE, Int.reduceBNe, newsV_s, ev1, ev2, ev3, ev4]
    refine ⟨_, _, _, rfl, ?_, ?_, .inl ⟨rfl, rfl⟩⟩
    · exact good_new (good_new (good_new (good_new hN)))
    · exact fr_new (good_new (good_new (good_new hN))) (fr_new (good_new (good_new hN)) (fr_new (good_new hN) (fr_new hN Fr.refl 0) 0) 0) 0
  have c1 : (l.length : Int) ≤ ((h + 2 * p : Nat) : Int) := by omega
  have hLG : 1 + 2 * l.length ≤ LG p h := by unfold LG; omega
  have n3 : (0 : Int) ≤ (LG p h : Int) := by omega
  have n4 : (LG p h : Int) ≤ (LG p h : Int) := Int.le_refl _
  have n5 : (LG p h : Int) ≤ 140737488355328 := by omega
  have n6 : (8 : Int) * (LG p h : Int) ≤ 140737488355328 := by omega
  have n7 : 0 < LG p h := by omega
  have v0 : wr (fl w1 (List.replicate (LG p h) 0)) 0 [.int .u64 (l.length : Int)] = some (fl w1 (oW (LG p h) l 0)) := by
    have := wr_fl w1_len (List.replicate (LG p h) 0) 0 0 [.int .u64 (l.length : Int)] 0 (l.length : Int) (by rw [List.length_replicate]; omega) (by simp) rfl
    rw [Nat.zero_mul, Nat.add_zero] at this
    rw [this]
    congr 2
    unfold oW
    rw [show LG p h = (LG p h - 1 - 2 * 0) + 1 by omega, List.replicate_succ]
    simp [pkL]
  simp -implicitDefEqProofs (maxSteps := 10000000) (disch := omega) only [TgP, LgP, GgP_13, V13_eq, GgP_wlogpack, Vwlogpack, Twlogpack, Lwlogpack, Gwlogpack_11, V11_eq, Gwlogpack_wlogPlace, VwlogPlace_eq, Gwlogpack_wlogmost, Vwlogmost_eq, Gwlogpack_wlogwant, Vwlogwant, Twlogwant, Lwlogwant, GgP_wlogwant, DgP_wlogcaught, Uwlogcaught, Lwlogcaught, hB, hR, hI, e1, e2, e3, hll, c1, n3, n4, n5, n6, n7, rep_w1, v0, Nat.mul_one, bt, bf, all1, ress, res1, retV, Value.cells, reduceIte, reduceCtorEq, Int.reduceLT, Int.reduceLE, Int.reduceToNat, Int.reduceAdd, Int.reduceSub, Int.reduceMul, Int.reduceNeg, Nat.reduceMul, Nat.reduceAdd, Nat.reduceSub, Nat.reduceBEq, Nat.reduceEqDiff, Nat.reduceLT, Nat.reduceLeDiff, Int.reduceBEq, Int.reduceEq, Nat.reducePow, Int.reducePow, Int.reduceGT, Int.reduceGE, Int.reduceBNe, newsV_s, ev1, ev2, ev3, ev4]
  obtain ⟨HH, hHH⟩ : ∃ HH, HH = (N.n 4, KB.map .i64 fun _ => none) :: (N.n 3, .cells (fl w1 (oW (LG p h) l 0)) (LG p h)) :: (N.n 2, .cells [.int .i64 (kk : Int), .int .i64 (p : Int), .int .i64 (cc : Int)] 3) :: (N.n 1, .cells [.int .i64 0] 1) :: (N.n 0, .cells [.int .i64 (kk : Int), .int .i64 (p : Int), .int .i64 (cc : Int)] 3) :: H := ⟨_, rfl⟩
  have gH : good B HH (sh (sh (sh (sh (sh N))))) := by rw [hHH]; exact good_new (good_new (good_new (good_new (good_new hN))))
  have fH : Fr H HH := by
    rw [hHH]
    have a1 := good_new (k := .cells [.int .i64 (kk : Int), .int .i64 (p : Int), .int .i64 (cc : Int)] 3) hN
    have a2 := good_new (k := .cells [.int .i64 0] 1) a1
    have a3 := good_new (k := .cells [.int .i64 (kk : Int), .int .i64 (p : Int), .int .i64 (cc : Int)] 3) a2
    have a4 := good_new (k := .cells (fl w1 (oW (LG p h) l 0)) (LG p h)) a3
    exact fr_new a4 (fr_new a3 (fr_new a2 (fr_new a1 (fr_new hN Fr.refl 0) 0) 0) 0) 0
  have q1 : lk HH (N.n 1) = some (.cells [.int .i64 0] 1) := by rw [hHH]; simp only [lk_cons, hI]; rfl
  have q2 : lk HH (N.n 2) = some (.cells [.int .i64 (kk : Int), .int .i64 (p : Int), .int .i64 (cc : Int)] 3) := by rw [hHH]; simp only [lk_cons, hI]; rfl
  have q3 : lk HH (N.n 3) = some (.cells (fl w1 (oW (LG p h) l 0)) (LG p h)) := by rw [hHH]; simp only [lk_cons, hI]; rfl
  have q4 : lk HH (N.n 4) = some (.map .i64 (mfn l 0)) := by rw [hHH, mfn_0]; simp only [lk_cons, hI]; rfl
  have ne : ∀ i j, i ≠ j → N.n i ≠ N.n j := fun i j hij e => by
    have := hI i j
    rw [e] at this; simp at this; exact hij this
  rw [← hHH]
  generalize hX : exec B _ _ (LC.loop _) _ = o
  obtain ⟨x, ⟨ts, H1, N1⟩, ho, g1, fr1, fk, hr⟩ := (show Ok o _ by rw [← hX]; exact loopPk (c := N.n 2) (bo := N.n 3) (m := N.n 4) hT C hl hw hlen gH fH (hB 2) (hB 3) (hB 4) (lk_N hN 3) (lk_N hN 4) (lk_N hN 2) q2 q3 q4 (ne 2 3 (by decide)) (ne 2 4 (by decide)) ⟨rfl, rfl, rfl, rfl, rfl, rfl, rfl⟩ (by omega))
  subst ho
  simp only at g1 fr1 fk hr
  have q1' := fk _ _ (ne 1 3 (by decide)) (ne 1 4 (by decide)) q1
  have b1 := hB 1
  have r1 := fun o n => rdB_none (o := o) (n := n) b1
  have gu := fun k => good_up (k := k) g1 b1 q1'
  have fu := fun k => fr_up (k := k) fr1 (lk_N hN 1)
  rcases hr with ⟨rfl, hok, lo, kp⟩ | ⟨rfl, hbad⟩
  · have he := packE_ok (by omega) hok
    rw [he, if_pos rfl]
    have n13 : (N.n 3 == N.n 1) = false := by rw [hI]; rfl
    simp -implicitDefEqProofs (maxSteps := 10000000) (disch := omega) only [TgP, LgP, GgP_13, V13_eq, GgP_wlogpack, Vwlogpack, Twlogpack, Lwlogpack, Gwlogpack_11, V11_eq, Gwlogpack_wlogPlace, VwlogPlace_eq, Gwlogpack_wlogmost, Vwlogmost_eq, Gwlogpack_wlogwant, Vwlogwant, Twlogwant, Lwlogwant, GgP_wlogwant, DgP_wlogcaught, Uwlogcaught, Lwlogcaught, hB, hR, hI, kp.l, kp.t2, kp.t5, kp.t6, kp.t28, kp.t29, kp.t30, q1', b1, r1, bt, bf, all1, ress, res1, retV, Value.cells, reduceIte, reduceCtorEq, Int.reduceLT, Int.reduceLE, Int.reduceToNat, Int.reduceAdd, Int.reduceSub, Int.reduceMul, Int.reduceNeg, Nat.reduceMul, Nat.reduceAdd, Nat.reduceSub, Nat.reduceBEq, Nat.reduceEqDiff, Nat.reduceLT, Nat.reduceLeDiff, Int.reduceBEq, Int.reduceEq, Nat.reducePow, Int.reducePow, Int.reduceGT, Int.reduceGE, Int.reduceBNe, newsV_s, ev1, ev2, ev3, ev4]
    refine ⟨_, _, _, rfl, gu _, fu _, .inr ⟨N.n 3, LG p h, by rw [packW_len hlen], hB 3, lk_N hN 3, by rw [packW_len hlen]; exact Nat.le_refl _, ?_⟩⟩
    rw [lk_upH, n13, cond_false, Nat.mul_one]
    exact lo
  · have he := packE_bad (by omega) hbad
    rw [he, if_neg (by decide)]
    have m1 := ne_N g1 q1'
    have m1' := ne_N' g1 q1'
    simp -implicitDefEqProofs (maxSteps := 10000000) (disch := omega) only [TgP, LgP, GgP_13, V13_eq, GgP_wlogpack, Vwlogpack, Twlogpack, Lwlogpack, Gwlogpack_11, V11_eq, Gwlogpack_wlogPlace, VwlogPlace_eq, Gwlogpack_wlogmost, Vwlogmost_eq, Gwlogpack_wlogwant, Vwlogwant, Twlogwant, Lwlogwant, GgP_wlogwant, DgP_wlogcaught, Uwlogcaught, Lwlogcaught, hB, hR, hI, q1', b1, r1, m1, m1', good_B g1, good_rdB g1, bt, bf, all1, ress, res1, retV, Value.cells, reduceIte, reduceCtorEq, Int.reduceLT, Int.reduceLE, Int.reduceToNat, Int.reduceAdd, Int.reduceSub, Int.reduceMul, Int.reduceNeg, Nat.reduceMul, Nat.reduceAdd, Nat.reduceSub, Nat.reduceBEq, Nat.reduceEqDiff, Nat.reduceLT, Nat.reduceLeDiff, Int.reduceBEq, Int.reduceEq, Nat.reducePow, Int.reducePow, Int.reduceGT, Int.reduceGE, Int.reduceBNe, newsV_s, ev1, ev2, ev3, ev4]
    refine ⟨_, _, _, rfl, ?_, ?_, .inl ⟨rfl, rfl⟩⟩
    · exact good_new (k := .cells [.int .i64 1] 1) (gu (.cells [.int .i64 1] 1)) |> fun h => by simpa only [upH_cons, m1, cond_false] using h
    · exact fr_new (k := .cells [.int .i64 1] 1) (gu (.cells [.int .i64 1] 1)) (fu (.cells [.int .i64 1] 1)) 0
theorem fPackn {B : OH} {H : HL} {N : St} {vl : Value} {k p c : Int} (hn : ¬ fitI k p c) (hN : good B H N) :
    ∃ v' H' N', VgP B [.agg #[.int .i64 k, .int .i64 p, .int .i64 c], vl] H N = some (.ret (.tuple #[v', .int .i64 5]), H', N') ∧ good B H' N' ∧ Fr H H' ∧ SlN w1 1 B H H' v' ([] : List Int) := by
  have hB := good_B hN
  have hR := good_rdB hN
  have hI := beqN hN.1.1
  have hG : ∃ H N, good B H N := ⟨H, N, hN⟩
  have e1 := f13n hG k p c hn
  unfold VgP
  simp -implicitDefEqProofs (maxSteps := 10000000) (disch := omega) only [TgP, LgP, GgP_13, V13_eq, GgP_wlogpack, Vwlogpack, Twlogpack, Lwlogpack, Gwlogpack_11, V11_eq, Gwlogpack_wlogPlace, VwlogPlace_eq, Gwlogpack_wlogmost, Vwlogmost_eq, Gwlogpack_wlogwant, Vwlogwant, Twlogwant, Lwlogwant, GgP_wlogwant, DgP_wlogcaught, Uwlogcaught, Lwlogcaught, hB, hR, hI, e1, bt, bf, all1, ress, res1, retV, Value.cells, reduceIte, reduceCtorEq, Int.reduceLT, Int.reduceLE, Int.reduceToNat, Int.reduceAdd, Int.reduceSub, Int.reduceMul, Int.reduceNeg, Nat.reduceMul, Nat.reduceAdd, Nat.reduceSub, Nat.reduceBEq, Nat.reduceEqDiff, Nat.reduceLT, Nat.reduceLeDiff, Int.reduceBEq, Int.reduceEq, Nat.reducePow, Int.reducePow, Int.reduceGT, Int.reduceGE, Int.reduceBNe, newsV_s, ev1, ev2, ev3, ev4]
  refine ⟨_, _, _, rfl, ?_, ?_, .inl ⟨rfl, rfl⟩⟩
  · exact good_new (good_new (good_new hN))
  · exact fr_new (good_new (good_new hN)) (fr_new (good_new hN) (fr_new hN Fr.refl 0) 0) 0
end Go.Proofs.YtfhiplfagejfoaaDoor
namespace Go.Proofs.YtfhiplfagejfoaaDoor.K
section
variable {α : Type} {f : α → List Value} {sz : Nat} {B : OH} {H0 H H' : HL} {N : St} {v : Value} {L M : List α}
theorem appV_many (hf : ∀ a, (f a).length = sz) {bytes : Nat} (hN : good B H N) (hF : Fr H0 H) (hS : SlM f sz B H0 H v L) (h1 : all1 (fl f M) = true) (hb : (L.length + M.length) * bytes ≤ 140737488355328) (hb2 : L.length + M.length ≤ 4611686018427387904) :
    ∃ v' H' N', appV sz bytes B H N v M.length (fl f M) = some (v', H', N') ∧ good B H' N' ∧ Fr H0 H' ∧ (∀ y c, slB v ≠ some y → lk H y = some c → lk H' y = some c) ∧ SlM f sz B H0 H' v' (L ++ M) ∧ (slB v' = slB v ∨ slB v' = some (N.n 0)) := by
  by_cases hM : M.length = 0
  · obtain rfl := List.length_eq_zero_iff.1 hM
    rw [List.append_nil]
    refine ⟨v, H, N, ?_, hN, hF, fun _ _ _ e => e, hS, .inl rfl⟩
    rcases hS with ⟨rfl, rfl⟩ | ⟨b, cap', rest, rfl, _, _, hle, _⟩
    · rfl
    · simp only [List.length_nil, appV, if_true, hle]
  · have hBN := good_B hN
    have hl0 := lk_N hN 0
    have hD : Dm H0 H := hF.dm
    have hne : M.length ≠ 0 := by omega
    have hnew : ∀ (b : Nat) (cs : List Value), b = N.n 0 → cs = fl f (L ++ M) → SlM f sz B H0 ((b, .cells cs ((L.length + M.length + N.c 0) * sz)) :: H) (.slice (some ⟨b, 0, none⟩) (L.length + M.length) (L.length + M.length + N.c 0)) (L ++ M) := fun b cs hb hcs => by
      subst hb hcs
      exact .inr ⟨N.n 0, L.length + M.length + N.c 0, [], by simp, hBN 0, hD _ hl0, by rw [List.length_append]; omega, by rw [lk_cons, beq_self_eq_true, cond_true, List.append_nil]⟩
    have hfr : Fr H0 ((N.n 0, .cells (fl f (L ++ M)) ((L.length + M.length + N.c 0) * sz)) :: H) := fr_new hN hF 0
    rcases hS with ⟨rfl, rfl⟩ | ⟨b, cap', rest, rfl, hB, h0, hle, hlk⟩
    · have hgen : ∀ m : Nat, m ≠ 0 → m * bytes ≤ 140737488355328 ∧ m ≤ 4611686018427387904 → ∀ news, appV sz bytes B H N (.slice none 0 0) m news = appNew (N.n 0) sz m H N news := fun m h1 h2 news => by
        simp only [appV]
        rw [if_neg h1, if_pos h2]
      simp only [List.length_nil, Nat.zero_add, List.nil_append] at *
      refine ⟨_, _, _, (hgen M.length hne ⟨hb, hb2⟩ _).trans rfl, good_new hN, hfr, fun y c _ e => ?_, hnew (N.n 0) _ rfl rfl, .inr rfl⟩
      rw [lk_cons, ne_N hN e 0, cond_false]; exact e
    · have htk : tk (fl f L ++ rest) 0 (L.length * sz) = some (fl f L) := by
        rw [tk_append_left _ _ _ _ (by rw [fl_length hf]; omega)]
        exact tk_all _ _ (by rw [fl_length hf])
      have hold : appV sz bytes B H N (.slice (some ⟨b, 0, none⟩) L.length cap') M.length (fl f M) = appNew (bif N.g 0 then b else N.n 0) sz (L.length + M.length) H N (fl f L ++ fl f M) := by
        have hgen : ∀ m : Nat, m ≠ 0 → (L.length + m) * bytes ≤ 140737488355328 ∧ L.length + m ≤ 4611686018427387904 → ∀ news, appV sz bytes B H N (.slice (some ⟨b, 0, none⟩) L.length cap') m news = appOld sz m L.length cap' b B H N news (lk H b) := fun m h1 h2 news => by
          simp only [appV]
          rw [if_neg h1, if_pos h2]
        refine (hgen M.length hne ⟨hb, hb2⟩ _).trans ?_
        rw [hlk]
        simp only [appOld, hB, Option.isNone_none, h1, hle, and_self, if_true, htk, Option.bind_some]
      rw [hold, ← fl_append]
      cases hg : N.g 0 with
      | false =>
        refine ⟨_, _, _, rfl, good_new hN, hfr, fun y c _ e => ?_, hnew (N.n 0) _ rfl rfl, .inr rfl⟩
        rw [cond_false, lk_cons, ne_N hN e 0, cond_false]; exact e
      | true =>
        refine ⟨_, _, _, rfl, good_sh (good_set (k := .cells (fl f (L ++ M)) ((L.length + M.length + N.c 0) * sz)) hN hB hlk), fr_set hF h0, fun y c hne e => ?_, ?_, .inl rfl⟩
        · rw [cond_true, lk_cons, eqb (fun h => hne (by rw [h]; rfl)), cond_false]; exact e
        · exact .inr ⟨b, L.length + M.length + N.c 0, [], by simp, hB, h0, by rw [List.length_append]; omega, by rw [cond_true, lk_cons, beq_self_eq_true, cond_true, List.append_nil]⟩
end
end Go.Proofs.YtfhiplfagejfoaaDoor.K
namespace Go.Proofs.YtfhiplfagejfoaaDoor
open Go.Proofs.YtfhiplfagejfoaaDoor.K Go.ChangeShapes Go.WideShapes Go.ChangeAt Go.RowKit 
set_option maxRecDepth 100000
set_option linter.unusedSimpArgs false
set_option linter.unusedVariables false
def LrP : FnL := ⟨(.seq (.ops [⟨(some 2), .box (.tmp 0), none⟩, ⟨(some 4), .mv (.const (.slice none 0 0)), none⟩, ⟨(some 5), .mv (.const (.int .i64 0)), none⟩])
 (.seq (.seq (.ops [⟨(some 11), .load true 3 (.tmp 2), none⟩, ⟨(some 12), .call (.func 39) [(.tmp 11)], none⟩, ⟨(some 13), .un .not (.tmp 12), none⟩])
 (.cond (.tmp 13) (.seq (.ops [⟨(some 4), .mv (.const (.slice none 0 0)), none⟩, ⟨(some 5), .mv (.const (.int .i64 5)), none⟩])
 .ret)
 .skip))
 (.seq (.seq (.ops [⟨(some 14), .mv (.tmp 1), none⟩, ⟨(some 15), .len false (.tmp 14), none⟩, ⟨(some 16), .load true 3 (.tmp 2), none⟩, ⟨(some 17), .call (.func 29) [(.tmp 16)], none⟩, ⟨(some 18), .bin .gtr (.tmp 15) (.tmp 17), none⟩])
 (.cond (.tmp 18) (.seq (.ops [⟨(some 4), .mv (.const (.slice none 0 0)), none⟩, ⟨(some 5), .mv (.const (.int .i64 4)), none⟩])
 .ret)
 .skip))
 (.seq (.ops [⟨(some 19), .mv (.tmp 1), none⟩, ⟨(some 20), .len false (.tmp 19), none⟩, ⟨(some 21), .conv .u64 (.tmp 20), none⟩, ⟨(some 22), .buildS [(.int .u64 0)] 1 [(0, 1, (.tmp 21))], none⟩, ⟨(some 6), .mv (.tmp 22), none⟩])
 (.seq (.seq (.ops [⟨(some 7), .mv (.const (.int .i64 0)), none⟩])
 (.block 0 (.loop (.seq (.seq (.ops [⟨(some 23), .mv (.tmp 7), none⟩, ⟨(some 24), .mv (.tmp 1), none⟩, ⟨(some 25), .len false (.tmp 24), none⟩, ⟨(some 26), .bin .lss (.tmp 23) (.tmp 25), none⟩])
 (.cond (.tmp 26) .skip
 (.exit 0)))
 (.seq (.block 1 (.seq (.draw [⟨⟨(some 30), .load true 3 (.tmp 2), none⟩, []⟩, ⟨⟨(some 31), .mv (.tmp 1), none⟩, []⟩, ⟨⟨(some 32), .mv (.tmp 7), none⟩, []⟩, ⟨⟨(some 33), .iaddrS 2 (.tmp 31) (.tmp 32), none⟩, []⟩, ⟨⟨(some 34), .faddr 0 (.tmp 33), none⟩, []⟩, ⟨⟨(some 35), .load false 1 (.tmp 34), none⟩, []⟩, ⟨⟨(some 36), .conv .u64 (.tmp 35), none⟩, []⟩, ⟨⟨(some 37), .call (.func 15) [(.tmp 30), (.tmp 36)], none⟩, []⟩, ⟨⟨(some 29), .mv (.tmp 37), none⟩, []⟩, ⟨⟨(some 38), .ext (.tmp 29) 0, none⟩, []⟩, ⟨⟨(some 39), .ext (.tmp 29) 1, none⟩, []⟩, ⟨⟨(some 8), .mv (.tmp 38), none⟩, []⟩, ⟨⟨(some 9), .mv (.tmp 39), none⟩, []⟩])
 (.seq (.seq (.ops [⟨(some 40), .mv (.tmp 9), none⟩, ⟨(some 41), .un .not (.tmp 40), none⟩])
 (.cond (.tmp 41) (.seq (.ops [⟨(some 4), .mv (.const (.slice none 0 0)), none⟩, ⟨(some 5), .mv (.const (.int .i64 1)), none⟩])
 .ret)
 .skip))
 (.seq (.seq (.ops [⟨(some 10), .mv (.const (.int .i64 0)), none⟩])
 (.block 2 (.loop (.seq (.seq (.ops [⟨(some 42), .mv (.tmp 10), none⟩, ⟨(some 43), .mv (.tmp 7), none⟩, ⟨(some 44), .bin .lss (.tmp 42) (.tmp 43), none⟩])
 (.cond (.tmp 44) .skip
 (.exit 2)))
 (.seq (.block 3 (.seq (.draw [⟨⟨(some 47), .mv (.tmp 1), none⟩, []⟩, ⟨⟨(some 48), .mv (.tmp 10), none⟩, []⟩, ⟨⟨(some 49), .iaddrS 2 (.tmp 47) (.tmp 48), none⟩, []⟩, ⟨⟨(some 50), .faddr 0 (.tmp 49), none⟩, []⟩, ⟨⟨(some 51), .load false 1 (.tmp 50), none⟩, []⟩, ⟨⟨(some 52), .mv (.tmp 1), none⟩, []⟩, ⟨⟨(some 53), .mv (.tmp 7), none⟩, []⟩, ⟨⟨(some 54), .iaddrS 2 (.tmp 52) (.tmp 53), none⟩, []⟩, ⟨⟨(some 55), .faddr 0 (.tmp 54), none⟩, []⟩, ⟨⟨(some 56), .load false 1 (.tmp 55), none⟩, []⟩, ⟨⟨(some 57), .bin .eql (.tmp 51) (.tmp 56), none⟩, []⟩])
 (.cond (.tmp 57) (.seq (.ops [⟨(some 4), .mv (.const (.slice none 0 0)), none⟩, ⟨(some 5), .mv (.const (.int .i64 1)), none⟩])
 .ret)
 .skip)))
 (.ops [⟨(some 45), .mv (.tmp 10), none⟩, ⟨(some 46), .bin .add (.tmp 45) (.const (.int .i64 1)), none⟩, ⟨(some 10), .mv (.tmp 46), none⟩]))))))
 (.draw [⟨⟨(some 58), .mv (.tmp 6), none⟩, []⟩, ⟨⟨(some 59), .mv (.tmp 1), none⟩, []⟩, ⟨⟨(some 60), .mv (.tmp 7), none⟩, []⟩, ⟨⟨(some 61), .iaddrS 2 (.tmp 59) (.tmp 60), none⟩, []⟩, ⟨⟨(some 62), .faddr 0 (.tmp 61), none⟩, []⟩, ⟨⟨(some 63), .load false 1 (.tmp 62), none⟩, []⟩, ⟨⟨(some 64), .conv .u64 (.tmp 63), none⟩, []⟩, ⟨⟨(some 65), .mv (.tmp 1), none⟩, []⟩, ⟨⟨(some 66), .mv (.tmp 7), none⟩, []⟩, ⟨⟨(some 67), .iaddrS 2 (.tmp 65) (.tmp 66), none⟩, []⟩, ⟨⟨(some 68), .faddr 1 (.tmp 67), none⟩, []⟩, ⟨⟨(some 69), .load false 1 (.tmp 68), none⟩, []⟩, ⟨⟨(some 70), .buildS [(.int .u64 0), (.int .u64 0)] 2 [(0, 1, (.tmp 64)), (1, 1, (.tmp 69))], none⟩, []⟩, ⟨⟨(some 71), .app [(.int .u64 0)] 8 (.tmp 58) (.tmp 70), none⟩, []⟩, ⟨⟨(some 6), .mv (.tmp 71), none⟩, []⟩])))))
 (.ops [⟨(some 27), .mv (.tmp 7), none⟩, ⟨(some 28), .bin .add (.tmp 27) (.const (.int .i64 1)), none⟩, ⟨(some 7), .mv (.tmp 28), none⟩]))))))
 (.seq (.ops [⟨(some 72), .mv (.tmp 6), none⟩, ⟨(some 73), .load true 3 (.tmp 2), none⟩, ⟨(some 74), .call (.func 40) [(.tmp 73)], none⟩, ⟨(some 75), .mv (.tmp 6), none⟩, ⟨(some 76), .len false (.tmp 75), none⟩, ⟨(some 77), .bin .sub (.tmp 74) (.tmp 76), none⟩, ⟨(some 78), .appZ [(.int .u64 0)] 8 (.tmp 72) (.tmp 77), none⟩, ⟨(some 4), .mv (.tmp 78), none⟩, ⟨(some 5), .mv (.const (.int .i64 0)), none⟩])
 .ret)))))),
 79, [.tmp 4, .tmp 5]⟩
theorem lowrP : lowerFn Tryd.prog Tryd.f11 = some LrP := by kernel_rfl
noncomputable def GrP (B : OH) : Nat → Cs
  | 39 => Vref04Fits B
  | 40 => VrS B
  | 29 => Vref16Most B
  | 15 => Vref16Place B
  | _ => fun _ _ _ => none
theorem GrP_ref04Fits {B : OH} : GrP B 39 = Vref04Fits B := rfl
theorem GrP_rS {B : OH} : GrP B 40 = VrS B := rfl
theorem GrP_ref16Most {B : OH} : GrP B 29 = Vref16Most B := rfl
theorem GrP_ref16Place {B : OH} : GrP B 15 = Vref16Place B := rfl
theorem sGrP {w0 : World} {B : OH} : SoundG Tryd.prog w0 B { f := GrP B } := .of fun k => by
  unfold GrP
  split
  · exact .inr ⟨enref04Fits, sVref04Fits⟩
  · exact .inr ⟨enrS, sVrS⟩
  · exact .inr ⟨enref16Most, sVref16Most⟩
  · exact .inr ⟨enref16Place, sVref16Place⟩
  · exact .inl fun _ _ _ => rfl
theorem enrP : Enter Tryd.prog 11 := .of Tryd.func11 (by kernel_rfl) (by kernel_rfl)
noncomputable def TrP (B : OH) : Cs := callF B { f := GrP B } 1000000 LrP
theorem sTrP {w0 : World} {B : OH} : SoundC Tryd.prog w0 B 11 (TrP B) := callF_sound mixedOrders sGrP 1000000 Tryd.func11 lowrP
noncomputable def VrP (B : OH) : Cs := TrP B
theorem sVrP {w0 : World} {B : OH} : SoundC Tryd.prog w0 B 11 (VrP B) := sTrP
structure KRp (c : Nat) (vl vo : Value) (i : Nat) (ts : List Value) : Prop where
  l : ts.length = 79
  t1 : gt ts 1 = vl
  t2 : gt ts 2 = .pointer (some ⟨c, 0, none⟩)
  t6 : gt ts 6 = vo
  t7 : gt ts 7 = .int .i64 (i : Int)
structure KRq (c : Nat) (vl vo : Value) (i : Nat) (u8 : Value) (k : Nat) (ts : List Value) : Prop where
  l : ts.length = 79
  t1 : gt ts 1 = vl
  t2 : gt ts 2 = .pointer (some ⟨c, 0, none⟩)
  t6 : gt ts 6 = vo
  t7 : gt ts 7 = .int .i64 (i : Int)
  t8 : gt ts 8 = u8
  t9 : gt ts 9 = .bool true
  t10 : gt ts 10 = .int .i64 (k : Int)
def lbRp : LC := (.seq (.seq (.ops [⟨(some 23), .mv (.tmp 7), none⟩, ⟨(some 24), .mv (.tmp 1), none⟩, ⟨(some 25), .len false (.tmp 24), none⟩, ⟨(some 26), .bin .lss (.tmp 23) (.tmp 25), none⟩])
 (.cond (.tmp 26) .skip
 (.exit 0)))
 (.seq (.block 1 (.seq (.draw [⟨⟨(some 30), .load true 3 (.tmp 2), none⟩, []⟩, ⟨⟨(some 31), .mv (.tmp 1), none⟩, []⟩, ⟨⟨(some 32), .mv (.tmp 7), none⟩, []⟩, ⟨⟨(some 33), .iaddrS 2 (.tmp 31) (.tmp 32), none⟩, []⟩, ⟨⟨(some 34), .faddr 0 (.tmp 33), none⟩, []⟩, ⟨⟨(some 35), .load false 1 (.tmp 34), none⟩, []⟩, ⟨⟨(some 36), .conv .u64 (.tmp 35), none⟩, []⟩, ⟨⟨(some 37), .call (.func 15) [(.tmp 30), (.tmp 36)], none⟩, []⟩, ⟨⟨(some 29), .mv (.tmp 37), none⟩, []⟩, ⟨⟨(some 38), .ext (.tmp 29) 0, none⟩, []⟩, ⟨⟨(some 39), .ext (.tmp 29) 1, none⟩, []⟩, ⟨⟨(some 8), .mv (.tmp 38), none⟩, []⟩, ⟨⟨(some 9), .mv (.tmp 39), none⟩, []⟩])
 (.seq (.seq (.ops [⟨(some 40), .mv (.tmp 9), none⟩, ⟨(some 41), .un .not (.tmp 40), none⟩])
 (.cond (.tmp 41) (.seq (.ops [⟨(some 4), .mv (.const (.slice none 0 0)), none⟩, ⟨(some 5), .mv (.const (.int .i64 1)), none⟩])
 .ret)
 .skip))
 (.seq (.seq (.ops [⟨(some 10), .mv (.const (.int .i64 0)), none⟩])
 (.block 2 (.loop (.seq (.seq (.ops [⟨(some 42), .mv (.tmp 10), none⟩, ⟨(some 43), .mv (.tmp 7), none⟩, ⟨(some 44), .bin .lss (.tmp 42) (.tmp 43), none⟩])
 (.cond (.tmp 44) .skip
 (.exit 2)))
 (.seq (.block 3 (.seq (.draw [⟨⟨(some 47), .mv (.tmp 1), none⟩, []⟩, ⟨⟨(some 48), .mv (.tmp 10), none⟩, []⟩, ⟨⟨(some 49), .iaddrS 2 (.tmp 47) (.tmp 48), none⟩, []⟩, ⟨⟨(some 50), .faddr 0 (.tmp 49), none⟩, []⟩, ⟨⟨(some 51), .load false 1 (.tmp 50), none⟩, []⟩, ⟨⟨(some 52), .mv (.tmp 1), none⟩, []⟩, ⟨⟨(some 53), .mv (.tmp 7), none⟩, []⟩, ⟨⟨(some 54), .iaddrS 2 (.tmp 52) (.tmp 53), none⟩, []⟩, ⟨⟨(some 55), .faddr 0 (.tmp 54), none⟩, []⟩, ⟨⟨(some 56), .load false 1 (.tmp 55), none⟩, []⟩, ⟨⟨(some 57), .bin .eql (.tmp 51) (.tmp 56), none⟩, []⟩])
 (.cond (.tmp 57) (.seq (.ops [⟨(some 4), .mv (.const (.slice none 0 0)), none⟩, ⟨(some 5), .mv (.const (.int .i64 1)), none⟩])
 .ret)
 .skip)))
 (.ops [⟨(some 45), .mv (.tmp 10), none⟩, ⟨(some 46), .bin .add (.tmp 45) (.const (.int .i64 1)), none⟩, ⟨(some 10), .mv (.tmp 46), none⟩]))))))
 (.draw [⟨⟨(some 58), .mv (.tmp 6), none⟩, []⟩, ⟨⟨(some 59), .mv (.tmp 1), none⟩, []⟩, ⟨⟨(some 60), .mv (.tmp 7), none⟩, []⟩, ⟨⟨(some 61), .iaddrS 2 (.tmp 59) (.tmp 60), none⟩, []⟩, ⟨⟨(some 62), .faddr 0 (.tmp 61), none⟩, []⟩, ⟨⟨(some 63), .load false 1 (.tmp 62), none⟩, []⟩, ⟨⟨(some 64), .conv .u64 (.tmp 63), none⟩, []⟩, ⟨⟨(some 65), .mv (.tmp 1), none⟩, []⟩, ⟨⟨(some 66), .mv (.tmp 7), none⟩, []⟩, ⟨⟨(some 67), .iaddrS 2 (.tmp 65) (.tmp 66), none⟩, []⟩, ⟨⟨(some 68), .faddr 1 (.tmp 67), none⟩, []⟩, ⟨⟨(some 69), .load false 1 (.tmp 68), none⟩, []⟩, ⟨⟨(some 70), .buildS [(.int .u64 0), (.int .u64 0)] 2 [(0, 1, (.tmp 64)), (1, 1, (.tmp 69))], none⟩, []⟩, ⟨⟨(some 71), .app [(.int .u64 0)] 8 (.tmp 58) (.tmp 70), none⟩, []⟩, ⟨⟨(some 6), .mv (.tmp 71), none⟩, []⟩])))))
 (.ops [⟨(some 27), .mv (.tmp 7), none⟩, ⟨(some 28), .bin .add (.tmp 27) (.const (.int .i64 1)), none⟩, ⟨(some 7), .mv (.tmp 28), none⟩])))
def lbRq : LC := (.seq (.seq (.ops [⟨(some 42), .mv (.tmp 10), none⟩, ⟨(some 43), .mv (.tmp 7), none⟩, ⟨(some 44), .bin .lss (.tmp 42) (.tmp 43), none⟩])
 (.cond (.tmp 44) .skip
 (.exit 2)))
 (.seq (.block 3 (.seq (.draw [⟨⟨(some 47), .mv (.tmp 1), none⟩, []⟩, ⟨⟨(some 48), .mv (.tmp 10), none⟩, []⟩, ⟨⟨(some 49), .iaddrS 2 (.tmp 47) (.tmp 48), none⟩, []⟩, ⟨⟨(some 50), .faddr 0 (.tmp 49), none⟩, []⟩, ⟨⟨(some 51), .load false 1 (.tmp 50), none⟩, []⟩, ⟨⟨(some 52), .mv (.tmp 1), none⟩, []⟩, ⟨⟨(some 53), .mv (.tmp 7), none⟩, []⟩, ⟨⟨(some 54), .iaddrS 2 (.tmp 52) (.tmp 53), none⟩, []⟩, ⟨⟨(some 55), .faddr 0 (.tmp 54), none⟩, []⟩, ⟨⟨(some 56), .load false 1 (.tmp 55), none⟩, []⟩, ⟨⟨(some 57), .bin .eql (.tmp 51) (.tmp 56), none⟩, []⟩])
 (.cond (.tmp 57) (.seq (.ops [⟨(some 4), .mv (.const (.slice none 0 0)), none⟩, ⟨(some 5), .mv (.const (.int .i64 1)), none⟩])
 .ret)
 .skip)))
 (.ops [⟨(some 45), .mv (.tmp 10), none⟩, ⟨(some 46), .bin .add (.tmp 45) (.const (.int .i64 1)), none⟩, ⟨(some 10), .mv (.tmp 46), none⟩])))
set_option maxHeartbeats 4000000 in
theorem loopRq {B : OH} {H : HL} {N : St} {vl vo u8 : Value} {l : List W2} {c i : Nat} (hl : SlR w2 2 B H vl l) (hi : i < l.length) (hlen : l.length ≤ 100000) (hN : good B H N) {ts : List Value} (kp : KRq c vl vo i u8 0 ts) {F : Nat} (hF : 100 + i + 1 ≤ F) :
    Ok (exec B { f := GrP B } F (LC.loop lbRq) ⟨ts, H, N⟩) (fun x s => s.H = H ∧ s.N = N ∧ ((x = .exit 2 ∧ (∀ j, j < i → (l.getD j y2).a ≠ (l.getD i y2).a) ∧ KRq c vl vo i u8 i s.t) ∨ (x = .ret ∧ (∃ j, j < i ∧ (l.getD j y2).a = (l.getD i y2).a) ∧ s.t.length = 79 ∧ gt s.t 4 = .slice none 0 0 ∧ gt s.t 5 = .int .i64 1))) := by
  have hB := good_B hN
  have hR := good_rdB hN
  have hI := beqN hN.1.1
  refine loop_rule (n0 := 100) (fun q s => ∃ ts, ∃ k : Nat, s = ⟨ts, H, N⟩ ∧ KRq c vl vo i u8 k ts ∧ (∀ j, j < k → (l.getD j y2).a ≠ (l.getD i y2).a) ∧ k ≤ i ∧ q = i - k) _ ?_ i _ ⟨ts, 0, rfl, kp, fun j hj => by omega, by omega, rfl⟩ _ hF
  clear kp hF F ts
  rintro z q s ⟨ts, k, rfl, kp, ha, hk, rfl⟩
  have hc1 : ((k + 1 : Nat) : Int) = (k : Int) + 1 := by omega
  by_cases hin : k < i
  case neg =>
    obtain rfl : k = i := by omega
    simp -implicitDefEqProofs (maxSteps := 10000000) (disch := omega) only [TrP, LrP, GrP_ref04Fits, Vref04Fits_eq, GrP_rS, VrS_eq, GrP_ref16Most, Vref16Most_eq, GrP_ref16Place, Vref16Place_eq, hB, hR, hI, lbRq, kp.l, kp.t1, kp.t2, kp.t6, kp.t7, kp.t8, kp.t9, kp.t10, Int.lt_irrefl, bt, bf, all1, ress, res1, retV, Value.cells, reduceIte, reduceCtorEq, Int.reduceLT, Int.reduceLE, Int.reduceToNat, Int.reduceAdd, Int.reduceSub, Int.reduceMul, Int.reduceNeg, Nat.reduceMul, Nat.reduceAdd, Nat.reduceSub, Nat.reduceBEq, Nat.reduceEqDiff, Nat.reduceLT, Nat.reduceLeDiff, Int.reduceBEq, Int.reduceEq, Nat.reducePow, Int.reducePow, Int.reduceGT, Int.reduceGE, Int.reduceBNe, newsV_s, ev1, ev2, ev3, ev4]
    refine ok_some (.inr ⟨by simp, rfl, rfl, .inl ⟨rfl, ha, ⟨?_, ?_, ?_, ?_, ?_, ?_, ?_, ?_⟩⟩⟩)
    all_goals simp (maxSteps := 10000000) (disch := omega) only [kp.l, kp.t1, kp.t2, kp.t6, kp.t7, kp.t8, kp.t9, kp.t10, lenV_sl, Int.toNat_natCast, bft, btf, gtst, st_len, Nat.reduceAdd, Int.cast_ofNat_Int, Nat.reduceBEq, Nat.reduceLT, decide_true, ev2]
  have hin' : (k : Int) < (i : Int) := by omega
  have k0 : (0 : Int) ≤ (k : Int) := by omega
  have i0 : (0 : Int) ≤ (i : Int) := by omega
  have hkl : k < l.length := by omega
  obtain ⟨bv, ov, cv, rfl, _, rv⟩ := hl.at (by omega)
  have r1 : rdO H B bv (ov + k * 2) 1 (rdB B bv (ov + k * 2) 1) = some [.int .i64 (l.getD k y2).a] := (rv H Fr.refl k 0 1 y2 hkl (by omega)).trans rfl
  have r2 : rdO H B bv (ov + i * 2) 1 (rdB B bv (ov + i * 2) 1) = some [.int .i64 (l.getD i y2).a] := (rv H Fr.refl i 0 1 y2 hi (by omega)).trans rfl
  by_cases he : (l.getD k y2).a = (l.getD i y2).a
  · have hex : ∃ j, j < i ∧ (l.getD j y2).a = (l.getD i y2).a := ⟨k, hin, he⟩
    have hb : ((l.getD k y2).a == (l.getD i y2).a) = true := by simpa using he
    simp -implicitDefEqProofs (maxSteps := 10000000) (disch := omega) only [TrP, LrP, GrP_ref04Fits, Vref04Fits_eq, GrP_rS, VrS_eq, GrP_ref16Most, Vref16Most_eq, GrP_ref16Place, Vref16Place_eq, hB, hR, hI, lbRq, kp.l, kp.t1, kp.t2, kp.t6, kp.t7, kp.t8, kp.t9, kp.t10, hin', k0, i0, hkl, hi, r1, r2, hb, bt, bf, all1, ress, res1, retV, Value.cells, reduceIte, reduceCtorEq, Int.reduceLT, Int.reduceLE, Int.reduceToNat, Int.reduceAdd, Int.reduceSub, Int.reduceMul, Int.reduceNeg, Nat.reduceMul, Nat.reduceAdd, Nat.reduceSub, Nat.reduceBEq, Nat.reduceEqDiff, Nat.reduceLT, Nat.reduceLeDiff, Int.reduceBEq, Int.reduceEq, Nat.reducePow, Int.reducePow, Int.reduceGT, Int.reduceGE, Int.reduceBNe, newsV_s, ev1, ev2, ev3, ev4]
    refine ok_some (.inr ⟨by simp, rfl, rfl, .inr ⟨rfl, hex, ?_, ?_, ?_⟩⟩)
    all_goals simp (maxSteps := 10000000) (disch := omega) only [kp.l, kp.t1, kp.t2, kp.t6, kp.t7, kp.t8, kp.t9, kp.t10, lenV_sl, Int.toNat_natCast, bft, btf, gtst, st_len, Nat.reduceAdd, Int.cast_ofNat_Int, Nat.reduceBEq, Nat.reduceLT, decide_true, ev2]
  · have hb := beqI he
    simp -implicitDefEqProofs (maxSteps := 10000000) (disch := omega) only [TrP, LrP, GrP_ref04Fits, Vref04Fits_eq, GrP_rS, VrS_eq, GrP_ref16Most, Vref16Most_eq, GrP_ref16Place, Vref16Place_eq, hB, hR, hI, lbRq, kp.l, kp.t1, kp.t2, kp.t6, kp.t7, kp.t8, kp.t9, kp.t10, hin', k0, i0, hkl, hi, r1, r2, hb, bt, bf, all1, ress, res1, retV, Value.cells, reduceIte, reduceCtorEq, Int.reduceLT, Int.reduceLE, Int.reduceToNat, Int.reduceAdd, Int.reduceSub, Int.reduceMul, Int.reduceNeg, Nat.reduceMul, Nat.reduceAdd, Nat.reduceSub, Nat.reduceBEq, Nat.reduceEqDiff, Nat.reduceLT, Nat.reduceLeDiff, Int.reduceBEq, Int.reduceEq, Nat.reducePow, Int.reducePow, Int.reduceGT, Int.reduceGE, Int.reduceBNe, newsV_s, ev1, ev2, ev3, ev4]
    refine ok_some (.inl ⟨rfl, i - (k + 1), by omega, _, k + 1, rfl, ⟨?_, ?_, ?_, ?_, ?_, ?_, ?_, ?_⟩, fun j hj => ?_, by omega, rfl⟩)
    rotate_right
    · by_cases e : j = k
      · rw [e]; exact he
      · exact ha j (by omega)
    all_goals simp (maxSteps := 10000000) (disch := omega) only [kp.l, kp.t1, kp.t2, kp.t6, kp.t7, kp.t8, kp.t9, kp.t10, lenV_sl, Int.toNat_natCast, bft, btf, gtst, st_len, hc1, Nat.reduceAdd, Int.cast_ofNat_Int, Nat.reduceBEq, Nat.reduceLT, decide_true, ev2]
def aW (l : List W2) (i : Nat) : List Int := (l.length : Int) :: pkL (l.take i)
theorem aW_len {l : List W2} {i : Nat} (hi : i ≤ l.length) : (aW l i).length = 1 + 2 * i := by
  simp only [aW, List.length_cons, pkL_len, List.length_take]; omega
theorem aW_s {l : List W2} {i : Nat} (hi : i < l.length) : aW l (i + 1) = aW l i ++ [(l.getD i y2).a, (l.getD i y2).w] := by
  unfold aW
  rw [List.take_add_one, some_getD (d := y2) hi, Option.toList_some, pkL_app]; rfl
set_option maxHeartbeats 8000000 in
theorem loopRp {B : OH} {H0 H : HL} {N : St} {vl vo : Value} {l : List W2} {kk p cc h c : Nat} (C : Cf kk p cc h) (hl : SlR w2 2 B H0 vl l) (hw : W2s l) (hlen : l.length ≤ h + 2 * p) (hN : good B H N) (hF0 : Fr H0 H) (bc : B c = none) (hcv : slB vo ≠ some c)
    (lc : lk H c = some (.cells [.int .i64 (kk : Int), .int .i64 (p : Int), .int .i64 (cc : Int)] 3)) (so : SlM w1 1 B H0 H vo (aW l 0)) {ts : List Value} (kp : KRp c vl vo 0 ts) {F : Nat} (hF : 3000 + l.length + 1 ≤ F) :
    Ok (exec B { f := GrP B } F (LC.loop lbRp) ⟨ts, H, N⟩) (fun x s => good B s.H s.N ∧ Fr H0 s.H ∧ lk s.H c = lk H c ∧ ((x = .exit 0 ∧ okL p h l l.length ∧ ∃ vo, SlM w1 1 B H0 s.H vo (aW l l.length) ∧ KRp c vl vo l.length s.t) ∨ (x = .ret ∧ ¬ okL p h l l.length ∧ s.t.length = 79 ∧ gt s.t 4 = .slice none 0 0 ∧ gt s.t 5 = .int .i64 1))) := by
  have hlb := LG_b C
  have hcp := C.p
  have hch := C.h
  have hll := hl.len
  refine loop_rule (n0 := 3000) (fun q s => ∃ ts H' N' vo, ∃ i : Nat, s = ⟨ts, H', N'⟩ ∧ KRp c vl vo i ts ∧ good B H' N' ∧ Fr H0 H' ∧ lk H' c = lk H c ∧ slB vo ≠ some c ∧ SlM w1 1 B H0 H' vo (aW l i) ∧ okL p h l i ∧ i ≤ l.length ∧ q = l.length - i) _ ?_ l.length _ ⟨ts, H, N, vo, 0, rfl, kp, hN, hF0, rfl, hcv, so, fun i hi => by omega, by omega, rfl⟩ _ hF
  clear kp hF F ts so hN hF0 N hcv vo
  rintro z q s ⟨ts, H1, N1, vo, i, rfl, kp, g, fr, hlc, hcv, so, hok, hi, rfl⟩
  have hB := good_B g
  have hR := good_rdB g
  have hI := beqN g.1.1
  have hG : ∃ H N, good B H N := ⟨H1, N1, g⟩
  have lc1 := hlc.trans lc
  have nc := ne_N g lc1
  have nc' := ne_N' g lc1
  have rc := fun o n => rdB_none (o := o) (n := n) bc
  have hc1 : ((i + 1 : Nat) : Int) = (i : Int) + 1 := by omega
  by_cases hin : i < l.length
  case neg =>
    obtain rfl : i = l.length := by omega
    simp -implicitDefEqProofs (maxSteps := 10000000) (disch := omega) only [TrP, LrP, GrP_ref04Fits, Vref04Fits_eq, GrP_rS, VrS_eq, GrP_ref16Most, Vref16Most_eq, GrP_ref16Place, Vref16Place_eq, hB, hR, hI, lbRp, kp.l, kp.t1, kp.t2, kp.t6, kp.t7, hll, Int.lt_irrefl, bt, bf, all1, ress, res1, retV, Value.cells, reduceIte, reduceCtorEq, Int.reduceLT, Int.reduceLE, Int.reduceToNat, Int.reduceAdd, Int.reduceSub, Int.reduceMul, Int.reduceNeg, Nat.reduceMul, Nat.reduceAdd, Nat.reduceSub, Nat.reduceBEq, Nat.reduceEqDiff, Nat.reduceLT, Nat.reduceLeDiff, Int.reduceBEq, Int.reduceEq, Nat.reducePow, Int.reducePow, Int.reduceGT, Int.reduceGE, Int.reduceBNe, newsV_s, ev1, ev2, ev3, ev4]
    refine ok_some (.inr ⟨by simp, g, fr, hlc, .inl ⟨rfl, hok, vo, so, ⟨?_, ?_, ?_, ?_, ?_⟩⟩⟩)
    all_goals simp (maxSteps := 10000000) (disch := omega) only [kp.l, kp.t1, kp.t2, kp.t6, kp.t7, lenV_sl, Int.toNat_natCast, bft, btf, gtst, st_len, Nat.reduceAdd, Int.cast_ofNat_Int, Nat.reduceBEq, Nat.reduceLT, decide_true, ev2]
  have hin' : (i : Int) < (l.length : Int) := by omega
  have i0 : (0 : Int) ≤ (i : Int) := by omega
  have hl1 := hl.mono fr
  obtain ⟨bv, ov, cv, rfl, _, rv⟩ := hl.at (by omega)
  have r1 : rdO H1 B bv (ov + i * 2) 1 (rdB B bv (ov + i * 2) 1) = some [.int .i64 (l.getD i y2).a] := (rv H1 fr i 0 1 y2 hin (by omega)).trans rfl
  obtain ⟨ha, hwu⟩ := hw.at i
  have hsucc := aW_s hin
  have hal := aW_len (l := l) (i := i) (by omega)
  have hoki : okL p h l (i + 1) ↔ (okP p h (l.getD i y2).a ∧ ∀ j, j < i → (l.getD j y2).a ≠ (l.getD i y2).a) := by
    constructor
    · intro h'; exact h' i (by omega)
    · intro h' j hj
      by_cases e : j = i
      · rw [e]; exact h'
      · exact hok j (by omega)
  have hbad : ¬ okL p h l (i + 1) → ¬ okL p h l l.length := fun h1 h2 => h1 fun j hj => h2 j (by omega)
  have ep := rPlace hG C (wrapU (l.getD i y2).a)
  by_cases hpl : okP p h (l.getD i y2).a
  case neg =>
    rw [plV_n (fun h' => hpl ((okP_wrap C ha).1 h'))] at ep
    generalize (l.getD i y2).a = a at *
    simp -implicitDefEqProofs (maxSteps := 10000000) (disch := omega) only [TrP, LrP, GrP_ref04Fits, Vref04Fits_eq, GrP_rS, VrS_eq, GrP_ref16Most, Vref16Most_eq, GrP_ref16Place, Vref16Place_eq, hB, hR, hI, lbRp, kp.l, kp.t1, kp.t2, kp.t6, kp.t7, hll, hin, hin', i0, r1, lc1, bc, rc, ep, bt, bf, all1, ress, res1, retV, Value.cells, reduceIte, reduceCtorEq, Int.reduceLT, Int.reduceLE, Int.reduceToNat, Int.reduceAdd, Int.reduceSub, Int.reduceMul, Int.reduceNeg, Nat.reduceMul, Nat.reduceAdd, Nat.reduceSub, Nat.reduceBEq, Nat.reduceEqDiff, Nat.reduceLT, Nat.reduceLeDiff, Int.reduceBEq, Int.reduceEq, Nat.reducePow, Int.reducePow, Int.reduceGT, Int.reduceGE, Int.reduceBNe, newsV_s, ev1, ev2, ev3, ev4]
    refine ok_some (.inr ⟨by simp, g, fr, hlc, .inr ⟨rfl, hbad fun h' => hpl (hoki.1 h').1, ?_, ?_, ?_⟩⟩)
    all_goals simp (maxSteps := 10000000) (disch := omega) only [kp.l, kp.t1, kp.t2, kp.t6, kp.t7, lenV_sl, Int.toNat_natCast, bft, btf, gtst, st_len, Nat.reduceAdd, Int.cast_ofNat_Int, Nat.reduceBEq, Nat.reduceLT, decide_true, ev2]
  have hpb := okP_b C hpl
  have wa : IntKind.u64.wrap (l.getD i y2).a = (l.getD i y2).a := IntWalk.u64_in _ (by omega)
  rw [plV_y ((okP_wrap C ha).2 hpl), wa] at ep
  simp -implicitDefEqProofs (maxSteps := 10000000) (disch := omega) only [TrP, LrP, GrP_ref04Fits, Vref04Fits_eq, GrP_rS, VrS_eq, GrP_ref16Most, Vref16Most_eq, GrP_ref16Place, Vref16Place_eq, hB, hR, hI, lbRp, kp.l, kp.t1, kp.t2, kp.t6, kp.t7, hll, hin, hin', i0, r1, lc1, bc, rc, ep, wa, bt, bf, all1, ress, res1, retV, Value.cells, reduceIte, reduceCtorEq, Int.reduceLT, Int.reduceLE, Int.reduceToNat, Int.reduceAdd, Int.reduceSub, Int.reduceMul, Int.reduceNeg, Nat.reduceMul, Nat.reduceAdd, Nat.reduceSub, Nat.reduceBEq, Nat.reduceEqDiff, Nat.reduceLT, Nat.reduceLeDiff, Int.reduceBEq, Int.reduceEq, Nat.reducePow, Int.reducePow, Int.reduceGT, Int.reduceGE, Int.reduceBNe, newsV_s, ev1, ev2, ev3, ev4]
  generalize hX : exec B _ _ (LC.loop _) _ = o
  obtain ⟨x, ⟨ts2, H2, N2⟩, ho, hHH, hNN, hr⟩ := (show Ok o _ by rw [← hX]; exact loopRq (c := c) (vo := vo) (u8 := .int .i64 (l.getD i y2).a) (i := i) hl1 hin (by omega) g ⟨by simp (maxSteps := 10000000) (disch := omega) only [ kp.l, kp.t1, kp.t2, kp.t6, kp.t7, lenV_sl, Int.toNat_natCast, bft, btf, gtst, st_len, Nat.reduceAdd, Int.cast_ofNat_Int, Nat.reduceBEq, Nat.reduceLT, decide_true, ev2], by simp (maxSteps := 10000000) (disch := omega) only [ kp.l, kp.t1, kp.t2, kp.t6, kp.t7, lenV_sl, Int.toNat_natCast, bft, btf, gtst, st_len, Nat.reduceAdd, Int.cast_ofNat_Int, Nat.reduceBEq, Nat.reduceLT, decide_true, ev2], by simp (maxSteps := 10000000) (disch := omega) only [ kp.l, kp.t1, kp.t2, kp.t6, kp.t7, lenV_sl, Int.toNat_natCast, bft, btf, gtst, st_len, Nat.reduceAdd, Int.cast_ofNat_Int, Nat.reduceBEq, Nat.reduceLT, decide_true, ev2], by simp (maxSteps := 10000000) (disch := omega) only [ kp.l, kp.t1, kp.t2, kp.t6, kp.t7, lenV_sl, Int.toNat_natCast, bft, btf, gtst, st_len, Nat.reduceAdd, Int.cast_ofNat_Int, Nat.reduceBEq, Nat.reduceLT, decide_true, ev2], by simp (maxSteps := 10000000) (disch := omega) only [ kp.l, kp.t1, kp.t2, kp.t6, kp.t7, lenV_sl, Int.toNat_natCast, bft, btf, gtst, st_len, Nat.reduceAdd, Int.cast_ofNat_Int, Nat.reduceBEq, Nat.reduceLT, decide_true, ev2], by simp (maxSteps := 10000000) (disch := omega) only [ kp.l, kp.t1, kp.t2, kp.t6, kp.t7, lenV_sl, Int.toNat_natCast, bft, btf, gtst, st_len, Nat.reduceAdd, Int.cast_ofNat_Int, Nat.reduceBEq, Nat.reduceLT, decide_true, ev2], by simp (maxSteps := 10000000) (disch := omega) only [ kp.l, kp.t1, kp.t2, kp.t6, kp.t7, lenV_sl, Int.toNat_natCast, bft, btf, gtst, st_len, Nat.reduceAdd, Int.cast_ofNat_Int, Nat.reduceBEq, Nat.reduceLT, decide_true, ev2], by simp (maxSteps := 10000000) (disch := omega) only [ kp.l, kp.t1, kp.t2, kp.t6, kp.t7, lenV_sl, Int.toNat_natCast, bft, btf, gtst, st_len, Nat.reduceAdd, Int.cast_ofNat_Int, Nat.reduceBEq, Nat.reduceLT, decide_true, ev2]⟩ (by omega))
  subst ho
  simp only at hr hHH hNN
  obtain rfl : H1 = H2 := hHH.symm
  obtain rfl : N1 = N2 := hNN.symm
  clear kp
  rcases hr with ⟨rfl, hne, kp⟩ | ⟨rfl, ⟨j, hj, hje⟩, tl, t4, t5⟩
  · have r2 : rdO H1 B bv (ov + i * 2 + 1) 1 (rdB B bv (ov + i * 2 + 1) 1) = some [.int .u64 (l.getD i y2).w] := (rv H1 fr i 1 1 y2 hin (by omega)).trans rfl
    have hok1 := hoki.2 ⟨hpl, hne⟩
    generalize (l.getD i y2).w = w at *
    generalize (l.getD i y2).a = a at *
    have gs : good B ((N1.n 0, .cells [.int .u64 a, .int .u64 w] 2) :: H1) (sh N1) := good_new g
    have fs : Fr H1 ((N1.n 0, .cells [.int .u64 a, .int .u64 w] 2) :: H1) := fr_new g Fr.refl 0
    have ss : SlN w1 1 B H1 ((N1.n 0, .cells [.int .u64 a, .int .u64 w] 2) :: H1) (.slice (some ⟨N1.n 0, 0, none⟩) 2 2) [a, w] := slN_new g [a, w] rfl rfl rfl
    obtain ⟨v4, H4, N4, e4, g4, r4, fk, s4, hb4⟩ := app_many (H0 := H0) (bytes := 8) w1_len (by omega) gs (fr.trans fs) (so.mono fun y c _ e => fs y c e) (ss.toM.wh w1_len) (all1_w1 _) (by rw [hal]; simp; omega) (by rw [hal]; simp; omega)
    rw [← hsucc] at s4
    have lc4 := fk _ _ hcv (fs _ _ lc1)
    have hcv4 : slB v4 ≠ some c := by
      rcases hb4 with h' | h'
      · rw [h']; exact hcv
      · rw [h']
        intro e
        have := ne_N gs (fs _ _ lc1) 0
        rw [← Option.some.inj e] at this
        simp at this
    simp -implicitDefEqProofs (maxSteps := 10000000) (disch := omega) only [TrP, LrP, GrP_ref04Fits, Vref04Fits_eq, GrP_rS, VrS_eq, GrP_ref16Most, Vref16Most_eq, GrP_ref16Place, Vref16Place_eq, hB, hR, hI, lbRp, kp.l, kp.t1, kp.t2, kp.t6, kp.t7, kp.t8, kp.t9, kp.t10, hin, i0, r1, r2, wa, e4, bt, bf, all1, ress, res1, retV, Value.cells, reduceIte, reduceCtorEq, Int.reduceLT, Int.reduceLE, Int.reduceToNat, Int.reduceAdd, Int.reduceSub, Int.reduceMul, Int.reduceNeg, Nat.reduceMul, Nat.reduceAdd, Nat.reduceSub, Nat.reduceBEq, Nat.reduceEqDiff, Nat.reduceLT, Nat.reduceLeDiff, Int.reduceBEq, Int.reduceEq, Nat.reducePow, Int.reducePow, Int.reduceGT, Int.reduceGE, Int.reduceBNe, ev1, ev2, ev3, ev4]
    refine ok_some (.inl ⟨rfl, l.length - (i + 1), by omega, _, H4, N4, v4, i + 1, rfl, ⟨?_, ?_, ?_, ?_, ?_⟩, g4, r4, lc4.trans lc.symm, hcv4, s4, hok1, by omega, rfl⟩)
    all_goals simp (maxSteps := 10000000) (disch := omega) only [kp.l, kp.t1, kp.t2, kp.t6, kp.t7, kp.t8, kp.t9, kp.t10, lenV_sl, Int.toNat_natCast, bft, btf, gtst, st_len, hc1, Nat.reduceAdd, Int.cast_ofNat_Int, Nat.reduceBEq, Nat.reduceLT, decide_true, ev2]
  · simp -implicitDefEqProofs (maxSteps := 10000000) (disch := omega) only [TrP, LrP, GrP_ref04Fits, Vref04Fits_eq, GrP_rS, VrS_eq, GrP_ref16Most, Vref16Most_eq, GrP_ref16Place, Vref16Place_eq, hB, hR, hI, lbRp, tl, t4, t5, bt, bf, all1, ress, res1, retV, Value.cells, reduceIte, reduceCtorEq, Int.reduceLT, Int.reduceLE, Int.reduceToNat, Int.reduceAdd, Int.reduceSub, Int.reduceMul, Int.reduceNeg, Nat.reduceMul, Nat.reduceAdd, Nat.reduceSub, Nat.reduceBEq, Nat.reduceEqDiff, Nat.reduceLT, Nat.reduceLeDiff, Int.reduceBEq, Int.reduceEq, Nat.reducePow, Int.reducePow, Int.reduceGT, Int.reduceGE, Int.reduceBNe, newsV_s, ev1, ev2, ev3, ev4]
    refine ok_some (.inr ⟨by simp, g, fr, hlc, .inr ⟨rfl, hbad fun h' => (hoki.1 h').2 j hj hje, tl, t4, t5⟩⟩)
set_option maxHeartbeats 8000000 in
theorem rPack {B : OH} {H : HL} {N : St} {vl : Value} {l : List W2} {kk p cc h : Nat} (C : Cf kk p cc h) (hN : good B H N) (hl : SlR w2 2 B H vl l) (hw : W2s l) :
    ∃ v' H' N', VrP B [.agg #[.int .i64 (kk : Int), .int .i64 (p : Int), .int .i64 (cc : Int)], vl] H N = some (.ret (.tuple #[v', .int .i64 (packE p h l)]), H', N') ∧ good B H' N' ∧ Fr H H' ∧ SlM w1 1 B H H' v' (if packE p h l = 0 then packW p h l else []) := by
  have hB := good_B hN
  have hR := good_rdB hN
  have hI := beqN hN.1.1
  have hG : ∃ H N, good B H N := ⟨H, N, hN⟩
  have e1 := rFits1 hG C
  have e2 := rmost hG C
  have hll := hl.len
  have hlb := LG_b C
  have hcp := C.p
  have hch := C.h
  have g1 : good B ((N.n 0, .cells [.int .i64 (kk : Int), .int .i64 (p : Int), .int .i64 (cc : Int)] 3) :: H) (sh N) := good_new hN
  have f1 : Fr H ((N.n 0, .cells [.int .i64 (kk : Int), .int .i64 (p : Int), .int .i64 (cc : Int)] 3) :: H) := fr_new hN Fr.refl 0
  unfold VrP
  by_cases hlen : l.length ≤ h + 2 * p
  case neg =>
    have c1 : (l.length : Int) > ((h + 2 * p : Nat) : Int) := by omega
    have he := packE_long (p := p) (h := h) (l := l) (by omega)
    rw [he, if_neg (by decide)]
    simp -implicitDefEqProofs (maxSteps := 10000000) (disch := omega) only [TrP, LrP, GrP_ref04Fits, Vref04Fits_eq, GrP_rS, VrS_eq, GrP_ref16Most, Vref16Most_eq, GrP_ref16Place, Vref16Place_eq, hB, hR, hI, e1, e2, hll, c1, bt, bf, all1, ress, res1, retV, Value.cells, reduceIte, reduceCtorEq, Int.reduceLT, Int.reduceLE, Int.reduceToNat, Int.reduceAdd, Int.reduceSub, Int.reduceMul, Int.reduceNeg, Nat.reduceMul, Nat.reduceAdd, Nat.reduceSub, Nat.reduceBEq, Nat.reduceEqDiff, Nat.reduceLT, Nat.reduceLeDiff, Int.reduceBEq, Int.reduceEq, Nat.reducePow, Int.reducePow, Int.reduceGT, Int.reduceGE, Int.reduceBNe, newsV_s, ev1, ev2, ev3, ev4]
    exact ⟨_, _, _, rfl, g1, f1, .inl ⟨rfl, rfl⟩⟩
  have c1 : ¬ (l.length : Int) > ((h + 2 * p : Nat) : Int) := by omega
  simp -implicitDefEqProofs (maxSteps := 10000000) (disch := omega) only [TrP, LrP, GrP_ref04Fits, Vref04Fits_eq, GrP_rS, VrS_eq, GrP_ref16Most, Vref16Most_eq, GrP_ref16Place, Vref16Place_eq, hB, hR, hI, e1, e2, hll, c1, bt, bf, all1, ress, res1, retV, Value.cells, reduceIte, reduceCtorEq, Int.reduceLT, Int.reduceLE, Int.reduceToNat, Int.reduceAdd, Int.reduceSub, Int.reduceMul, Int.reduceNeg, Nat.reduceMul, Nat.reduceAdd, Nat.reduceSub, Nat.reduceBEq, Nat.reduceEqDiff, Nat.reduceLT, Nat.reduceLeDiff, Int.reduceBEq, Int.reduceEq, Nat.reducePow, Int.reducePow, Int.reduceGT, Int.reduceGE, Int.reduceBNe, newsV_s, ev1, ev2, ev3, ev4]
  obtain ⟨HH, hHH⟩ : ∃ HH, HH = (N.n 1, KB.cells [.int .u64 (l.length : Int)] 1) :: (N.n 0, .cells [.int .i64 (kk : Int), .int .i64 (p : Int), .int .i64 (cc : Int)] 3) :: H := ⟨_, rfl⟩
  have gH : good B HH (sh (sh N)) := by rw [hHH]; exact good_new g1
  have fH : Fr H HH := by rw [hHH]; exact fr_new g1 f1 0
  have q0 : lk HH (N.n 0) = some (.cells [.int .i64 (kk : Int), .int .i64 (p : Int), .int .i64 (cc : Int)] 3) := by rw [hHH]; simp only [lk_cons, hI]; rfl
  have q1 : lk HH (N.n 1) = some (.cells [.int .u64 (l.length : Int)] 1) := by rw [hHH]; simp only [lk_cons, hI]; rfl
  have n10 : N.n 1 ≠ N.n 0 := fun e => by
    have := hI 1 0
    rw [e] at this; simp at this
  rw [← hHH]
  have so : SlM w1 1 B H HH (.slice (some ⟨N.n 1, 0, none⟩) 1 1) (aW l 0) := .inr ⟨N.n 1, 1, [], rfl, hB 1, lk_N hN 1, Nat.le_refl _, by rw [q1]; rfl⟩
  generalize hX : exec B _ _ (LC.loop _) _ = o
  obtain ⟨x, ⟨ts, H1, N1⟩, ho, g2, fr2, hlc, hr⟩ := (show Ok o _ by rw [← hX]; exact loopRp (c := N.n 0) C hl hw hlen gH fH (hB 0) (by simpa [slB] using n10) q0 so ⟨rfl, rfl, rfl, rfl, rfl⟩ (by omega))
  subst ho
  simp only at g2 fr2 hlc hr
  have lc := hlc.trans q0
  have b0 := hB 0
  have r0 := fun o n => rdB_none (o := o) (n := n) b0
  rcases hr with ⟨rfl, hok, vo, so, kp⟩ | ⟨rfl, hbad, tl, t4, t5⟩
  · have he := packE_ok (by omega) hok
    rw [he, if_pos rfl]
    have e3 := rLog ⟨H1, N1, g2⟩ C
    have hal := aW_len (l := l) (i := l.length) (Nat.le_refl _)
    have hls := so.len
    rw [hal] at hls
    have hd : (LG p h : Int) - ((1 + 2 * l.length : Nat) : Int) = ((LG p h - (1 + 2 * l.length) : Nat) : Int) := by unfold LG; omega
    have hd2 : IntKind.i64.wrap ((LG p h : Int) - ((1 + 2 * l.length : Nat) : Int)) = ((LG p h - (1 + 2 * l.length) : Nat) : Int) := by rw [hd, IntWalk.i64_in _ (by omega)]
    obtain ⟨v4, H4, N4, e4, g4, r4, fk, s4, _⟩ := appV_many (bytes := 8) (M := List.replicate (LG p h - (1 + 2 * l.length)) 0) w1_len g2 fr2 so (all1_w1 _) (by rw [hal, List.length_replicate]; unfold LG; omega) (by rw [hal, List.length_replicate]; unfold LG; omega)
    rw [List.length_replicate] at e4
    have e5 : appZR [.int .u64 0] 8 B H1 N1 vo (.int .i64 ((LG p h - (1 + 2 * l.length) : Nat) : Int)) = some (v4, H4, N4) := by
      simp only [appZR]
      rw [if_pos (by omega), Int.toNat_natCast, rep_w1]
      exact e4
    simp -implicitDefEqProofs (maxSteps := 10000000) (disch := omega) only [TrP, LrP, GrP_ref04Fits, Vref04Fits_eq, GrP_rS, VrS_eq, GrP_ref16Most, Vref16Most_eq, GrP_ref16Place, Vref16Place_eq, hB, hR, hI, kp.l, kp.t1, kp.t2, kp.t6, kp.t7, lc, b0, r0, e3, hls, hd2, e5, bt, bf, all1, ress, res1, retV, Value.cells, reduceIte, reduceCtorEq, Int.reduceLT, Int.reduceLE, Int.reduceToNat, Int.reduceAdd, Int.reduceSub, Int.reduceMul, Int.reduceNeg, Nat.reduceMul, Nat.reduceAdd, Nat.reduceSub, Nat.reduceBEq, Nat.reduceEqDiff, Nat.reduceLT, Nat.reduceLeDiff, Int.reduceBEq, Int.reduceEq, Nat.reducePow, Int.reducePow, Int.reduceGT, Int.reduceGE, Int.reduceBNe, newsV_s, ev1, ev2, ev3, ev4]
    refine ⟨_, _, _, rfl, g4, r4, ?_⟩
    have : aW l l.length ++ List.replicate (LG p h - (1 + 2 * l.length)) 0 = packW p h l := by
      unfold aW packW oW
      rw [List.cons_append, show LG p h - 1 - 2 * l.length = LG p h - (1 + 2 * l.length) by omega]
    rw [← this]; exact s4
  · have he := packE_bad (by omega) hbad
    rw [he, if_neg (by decide)]
    simp -implicitDefEqProofs (maxSteps := 10000000) (disch := omega) only [TrP, LrP, GrP_ref04Fits, Vref04Fits_eq, GrP_rS, VrS_eq, GrP_ref16Most, Vref16Most_eq, GrP_ref16Place, Vref16Place_eq, hB, hR, hI, tl, t4, t5, bt, bf, all1, ress, res1, retV, Value.cells, reduceIte, reduceCtorEq, Int.reduceLT, Int.reduceLE, Int.reduceToNat, Int.reduceAdd, Int.reduceSub, Int.reduceMul, Int.reduceNeg, Nat.reduceMul, Nat.reduceAdd, Nat.reduceSub, Nat.reduceBEq, Nat.reduceEqDiff, Nat.reduceLT, Nat.reduceLeDiff, Int.reduceBEq, Int.reduceEq, Nat.reducePow, Int.reducePow, Int.reduceGT, Int.reduceGE, Int.reduceBNe, newsV_s, ev1, ev2, ev3, ev4]
    exact ⟨_, _, _, rfl, g2, fr2, .inl ⟨rfl, rfl⟩⟩
theorem rPackn {B : OH} {H : HL} {N : St} {vl : Value} {k p c : Int} (hn : ¬ fitI k p c) (hN : good B H N) :
    ∃ v' H' N', VrP B [.agg #[.int .i64 k, .int .i64 p, .int .i64 c], vl] H N = some (.ret (.tuple #[v', .int .i64 5]), H', N') ∧ good B H' N' ∧ Fr H H' ∧ SlM w1 1 B H H' v' ([] : List Int) := by
  have hB := good_B hN
  have hR := good_rdB hN
  have hI := beqN hN.1.1
  have hG : ∃ H N, good B H N := ⟨H, N, hN⟩
  have e1 := rFits hG k p c
  rw [decide_eq_false hn] at e1
  unfold VrP
  simp -implicitDefEqProofs (maxSteps := 10000000) (disch := omega) only [TrP, LrP, GrP_ref04Fits, Vref04Fits_eq, GrP_rS, VrS_eq, GrP_ref16Most, Vref16Most_eq, GrP_ref16Place, Vref16Place_eq, hB, hR, hI, e1, bt, bf, all1, ress, res1, retV, Value.cells, reduceIte, reduceCtorEq, Int.reduceLT, Int.reduceLE, Int.reduceToNat, Int.reduceAdd, Int.reduceSub, Int.reduceMul, Int.reduceNeg, Nat.reduceMul, Nat.reduceAdd, Nat.reduceSub, Nat.reduceBEq, Nat.reduceEqDiff, Nat.reduceLT, Nat.reduceLeDiff, Int.reduceBEq, Int.reduceEq, Nat.reducePow, Int.reducePow, Int.reduceGT, Int.reduceGE, Int.reduceBNe, newsV_s, ev1, ev2, ev3, ev4]
  exact ⟨_, _, _, rfl, good_new hN, fr_new hN Fr.refl 0, .inl ⟨rfl, rfl⟩⟩
end Go.Proofs.YtfhiplfagejfoaaDoor
namespace Go.Proofs.YtfhiplfagejfoaaDoor
open Go.Proofs.YtfhiplfagejfoaaDoor.K Go.ChangeShapes Go.WideShapes Go.ChangeAt Go.RowKit 
set_option maxRecDepth 100000
set_option linter.unusedSimpArgs false
set_option linter.unusedVariables false
def U64s (K : List Int) : Prop := ∀ x ∈ K, u64R x
theorem U64s.at {K : List Int} (h : U64s K) (i : Nat) : u64R (K.getD i 0) := by
  rcases Nat.lt_or_ge i K.length with hi | hi
  · exact h _ (List.mem_of_getElem? (some_getD (d := 0) hi))
  · rw [List.getD_eq_getElem?_getD, List.getElem?_eq_none hi]
    unfold u64R; simp
def unL (w : List Int) : Nat → List W2
  | 0 => []
  | n + 1 => unL w n ++ [⟨w.getD (1 + 2 * n) 0, w.getD (2 + 2 * n) 0⟩]
theorem unL_len (w : List Int) : ∀ n, (unL w n).length = n
  | 0 => rfl
  | n + 1 => by simp [unL, unL_len w n]
def unN (w : List Int) : Nat := (w.getD 0 0).toNat
def plO (p h : Nat) (w : List Int) (n : Nat) : Prop := ∀ i, i < n → okP p h (w.getD (1 + 2 * i) 0)
def unOk (p h : Nat) (w : List Int) : Prop := w.length = LG p h ∧ w.getD 0 0 ≤ ((h + 2 * p : Nat) : Int) ∧ plO p h w (unN w) ∧ packE p h (unL w (unN w)) = 0 ∧ packW p h (unL w (unN w)) = w
open Classical in
noncomputable def unR (p h : Nat) (w : List Int) : List W2 := if unOk p h w then unL w (unN w) else []
open Classical in
noncomputable def unE (p h : Nat) (w : List Int) : Int := if unOk p h w then 0 else 2
theorem un_ok {p h : Nat} {w : List Int} (H : unOk p h w) : unR p h w = unL w (unN w) ∧ unE p h w = 0 := ⟨if_pos H, if_pos H⟩
theorem un_no {p h : Nat} {w : List Int} (H : ¬ unOk p h w) : unR p h w = [] ∧ unE p h w = 2 := ⟨if_neg H, if_neg H⟩
theorem unL_at (w : List Int) : ∀ n i, i < n → (unL w n).getD i y2 = ⟨w.getD (1 + 2 * i) 0, w.getD (2 + 2 * i) 0⟩
  | 0, i, h => by omega
  | n + 1, i, h => by
    have hl := unL_len w n
    simp only [unL]
    by_cases e : i = n
    · subst e
      rw [List.getD_eq_getElem?_getD, List.getElem?_append_right (by omega), hl, Nat.sub_self]; rfl
    · have := unL_at w n i (by omega)
      rw [List.getD_eq_getElem?_getD, List.getElem?_append_left (by omega), ← List.getD_eq_getElem?_getD, this]
theorem unL_s {kk p cc h : Nat} (C : Cf kk p cc h) {w : List Int} (hu : U64s w) {n : Nat} (ho : plO p h w n) : W2s (unL w n) := fun x hx => by
  obtain ⟨i, hi, rfl⟩ := List.getElem_of_mem hx
  rw [unL_len] at hi
  have := unL_at w n i hi
  rw [List.getD_eq_getElem?_getD, List.getElem?_eq_getElem (by rw [unL_len]; exact hi), Option.getD_some] at this
  rw [this]
  have := okP_b C (ho i hi)
  exact ⟨by unfold i64R; simp only; omega, hu.at _⟩
theorem rFitsn {B : OH} (hG : ∃ H N, good B H N) (k p c : Int) (h : ¬ fitI k p c) : Fref04Fits B [.agg #[.int .i64 k, .int .i64 p, .int .i64 c]] = some (.bool false) := by rw [rFits hG, decide_eq_false h]
theorem f11c' {B : OH} (hT : Tab B) (hG : ∃ H N, good B H N) {kk p cc h : Nat} (C : Cf kk p cc h) : F11 B [.agg #[.int .i64 (kk : Int), .int .i64 (p : Int), .int .i64 (cc : Int)]] = some (.int .i64 (LG p h : Int)) := f11c hG hT C
theorem fmost' {B : OH} (hT : Tab B) (hG : ∃ H N, good B H N) {kk p cc h : Nat} (C : Cf kk p cc h) : Fwlogmost B [.agg #[.int .i64 (kk : Int), .int .i64 (p : Int), .int .i64 (cc : Int)]] = some (.int .i64 ((h + 2 * p : Nat) : Int)) := fmost hG hT C
def LgU : FnL := ⟨(.seq (.ops [⟨(some 2), .box (.tmp 0), none⟩, ⟨(some 4), .mv (.const (.slice none 0 0)), none⟩, ⟨(some 5), .mv (.const (.int .i64 0)), none⟩])
 (.seq (.seq (.ops [⟨(some 11), .load true 3 (.tmp 2), none⟩, ⟨(some 12), .call (.func 45) [(.tmp 11)], none⟩, ⟨(some 13), .un .not (.tmp 12), none⟩])
 (.cond (.tmp 13) (.seq (.ops [⟨(some 4), .mv (.const (.slice none 0 0)), none⟩, ⟨(some 5), .mv (.const (.int .i64 5)), none⟩])
 .ret)
 .skip))
 (.seq (.seq (.draw [⟨⟨(some 14), .mv (.tmp 1), none⟩, []⟩, ⟨⟨(some 15), .len false (.tmp 14), none⟩, []⟩, ⟨⟨(some 16), .load true 3 (.tmp 2), none⟩, []⟩, ⟨⟨(some 17), .call (.func 30) [(.tmp 16)], none⟩, []⟩, ⟨⟨(some 18), .bin .neq (.tmp 15) (.tmp 17), none⟩, []⟩, ⟨⟨(some 19), .mv (.tmp 18), none⟩, []⟩, ⟨⟨(some 20), .mv (.tmp 1), (some (19, false))⟩, []⟩, ⟨⟨(some 21), .iaddrS 1 (.tmp 20) (.const (.int .i64 0)), (some (19, false))⟩, []⟩, ⟨⟨(some 22), .load false 1 (.tmp 21), (some (19, false))⟩, []⟩, ⟨⟨(some 23), .load true 3 (.tmp 2), (some (19, false))⟩, []⟩, ⟨⟨(some 24), .call (.func 47) [(.tmp 23)], (some (19, false))⟩, [⟨(some 22), .load false 1 (.tmp 21), (some (19, false))⟩]⟩, ⟨⟨(some 25), .conv .u64 (.tmp 24), (some (19, false))⟩, []⟩, ⟨⟨(some 26), .bin .gtr (.tmp 22) (.tmp 25), (some (19, false))⟩, []⟩, ⟨⟨(some 27), .pick (.tmp 19) (.const (.bool true)) (.tmp 26), none⟩, []⟩])
 (.cond (.tmp 27) (.seq (.ops [⟨(some 4), .mv (.const (.slice none 0 0)), none⟩, ⟨(some 5), .mv (.const (.int .i64 2)), none⟩])
 .ret)
 .skip))
 (.seq (.seq (.ops [⟨(some 28), .mv (.tmp 1), none⟩, ⟨(some 29), .iaddrS 1 (.tmp 28) (.const (.int .i64 0)), none⟩, ⟨(some 30), .load false 1 (.tmp 29), none⟩, ⟨(some 31), .conv .i64 (.tmp 30), none⟩, ⟨(some 32), .mv (.const (.int .i64 0)), none⟩])
 (.block 0 (.loop (.seq (.ops [⟨(some 33), .bin .lss (.tmp 32) (.tmp 31), none⟩])
 (.seq (.cond (.tmp 33) .skip
 (.exit 0))
 (.seq (.block 1 (.seq (.ops [⟨(some 34), .mv (.tmp 32), none⟩, ⟨(some 6), .mv (.tmp 34), none⟩])
 (.seq (.draw [⟨⟨(some 36), .load true 3 (.tmp 2), none⟩, []⟩, ⟨⟨(some 37), .mv (.tmp 1), none⟩, []⟩, ⟨⟨(some 38), .mv (.tmp 6), none⟩, []⟩, ⟨⟨(some 39), .bin .mul (.const (.int .i64 2)) (.tmp 38), none⟩, []⟩, ⟨⟨(some 40), .bin .add (.const (.int .i64 1)) (.tmp 39), none⟩, []⟩, ⟨⟨(some 41), .iaddrS 1 (.tmp 37) (.tmp 40), none⟩, []⟩, ⟨⟨(some 42), .load false 1 (.tmp 41), none⟩, []⟩, ⟨⟨(some 43), .call (.func 14) [(.tmp 36), (.tmp 42)], none⟩, []⟩, ⟨⟨(some 35), .mv (.tmp 43), none⟩, []⟩, ⟨⟨(some 44), .ext (.tmp 35) 0, none⟩, []⟩, ⟨⟨(some 45), .ext (.tmp 35) 1, none⟩, []⟩, ⟨⟨(some 7), .mv (.tmp 44), none⟩, []⟩, ⟨⟨(some 8), .mv (.tmp 45), none⟩, []⟩])
 (.seq (.seq (.ops [⟨(some 46), .mv (.tmp 8), none⟩, ⟨(some 47), .un .not (.tmp 46), none⟩])
 (.cond (.tmp 47) (.seq (.ops [⟨(some 4), .mv (.const (.slice none 0 0)), none⟩, ⟨(some 5), .mv (.const (.int .i64 2)), none⟩])
 .ret)
 .skip))
 (.ops [⟨(some 48), .mv (.tmp 4), none⟩, ⟨(some 49), .mv (.tmp 7), none⟩, ⟨(some 50), .mv (.tmp 1), none⟩, ⟨(some 51), .mv (.tmp 6), none⟩, ⟨(some 52), .bin .mul (.const (.int .i64 2)) (.tmp 51), none⟩, ⟨(some 53), .bin .add (.const (.int .i64 2)) (.tmp 52), none⟩, ⟨(some 54), .iaddrS 1 (.tmp 50) (.tmp 53), none⟩, ⟨(some 55), .load false 1 (.tmp 54), none⟩, ⟨(some 56), .build [(.int .i64 0), (.int .u64 0)] [(0, 1, (.tmp 49)), (1, 1, (.tmp 55))], none⟩, ⟨(some 57), .buildS [(.int .i64 0), (.int .u64 0)] 1 [(0, 2, (.tmp 56))], none⟩, ⟨(some 58), .app [(.int .i64 0), (.int .u64 0)] 16 (.tmp 48) (.tmp 57), none⟩, ⟨(some 4), .mv (.tmp 58), none⟩])))))
 (.ops [⟨(some 59), .bin .add (.tmp 32) (.const (.int .i64 1)), none⟩, ⟨(some 32), .mv (.tmp 59), none⟩])))))))
 (.seq (.seq (.ops [⟨(some 61), .load true 3 (.tmp 2), none⟩, ⟨(some 62), .mv (.tmp 4), none⟩, ⟨(some 63), .call (.func 16) [(.tmp 61), (.tmp 62)], none⟩, ⟨(some 60), .mv (.tmp 63), none⟩, ⟨(some 64), .ext (.tmp 60) 0, none⟩, ⟨(some 65), .ext (.tmp 60) 1, none⟩, ⟨(some 9), .mv (.tmp 64), none⟩, ⟨(some 10), .mv (.tmp 65), none⟩])
 (.seq (.ops [⟨(some 66), .mv (.tmp 10), none⟩, ⟨(some 67), .bin .neq (.tmp 66) (.const (.int .i64 0)), none⟩, ⟨(some 68), .mv (.tmp 67), none⟩, ⟨(some 69), .mv (.tmp 9), (some (68, false))⟩, ⟨(some 70), .mv (.tmp 1), (some (68, false))⟩, ⟨(some 71), .call (.func 48) [(.tmp 69), (.tmp 70)], (some (68, false))⟩, ⟨(some 72), .un .not (.tmp 71), (some (68, false))⟩, ⟨(some 73), .pick (.tmp 68) (.const (.bool true)) (.tmp 72), none⟩])
 (.cond (.tmp 73) (.seq (.ops [⟨(some 4), .mv (.const (.slice none 0 0)), none⟩, ⟨(some 5), .mv (.const (.int .i64 2)), none⟩])
 .ret)
 .skip)))
 (.seq (.ops [⟨(some 74), .mv (.tmp 4), none⟩, ⟨(some 4), .mv (.tmp 74), none⟩, ⟨(some 5), .mv (.const (.int .i64 0)), none⟩])
 .ret)))))),
 75, [.tmp 4, .tmp 5]⟩
theorem lowgU : lowerFn Tryd.prog Tryd.f18 = some LgU := by kernel_rfl
noncomputable def GgU (B : OH) : Nat → Cs
  | 30 => V11 B
  | 45 => V13 B
  | 48 => VsEq B
  | 16 => VgP B
  | 14 => VwlogPlace B
  | 47 => Vwlogmost B
  | _ => fun _ _ _ => none
theorem GgU_11 {B : OH} : GgU B 30 = V11 B := rfl
theorem GgU_13 {B : OH} : GgU B 45 = V13 B := rfl
theorem GgU_sEq {B : OH} : GgU B 48 = VsEq B := rfl
theorem GgU_gP {B : OH} : GgU B 16 = VgP B := rfl
theorem GgU_wlogPlace {B : OH} : GgU B 14 = VwlogPlace B := rfl
theorem GgU_wlogmost {B : OH} : GgU B 47 = Vwlogmost B := rfl
theorem sGgU {w0 : World} {B : OH} : SoundG Tryd.prog w0 B { f := GgU B } := .of fun k => by
  unfold GgU
  split
  · exact .inr ⟨en11, sV11⟩
  · exact .inr ⟨en13, sV13⟩
  · exact .inr ⟨ensEq, sVsEq⟩
  · exact .inr ⟨engP, sVgP⟩
  · exact .inr ⟨enwlogPlace, sVwlogPlace⟩
  · exact .inr ⟨enwlogmost, sVwlogmost⟩
  · exact .inl fun _ _ _ => rfl
theorem engU : Enter Tryd.prog 18 := .of Tryd.func18 (by kernel_rfl) (by kernel_rfl)
noncomputable def TgU (B : OH) : Cs := callF B { f := GgU B } 1000000 LgU
theorem sTgU {w0 : World} {B : OH} : SoundC Tryd.prog w0 B 18 (TgU B) := callF_sound mixedOrders sGgU 1000000 Tryd.func18 lowgU
noncomputable def VgU (B : OH) : Cs := TgU B
theorem sVgU {w0 : World} {B : OH} : SoundC Tryd.prog w0 B 18 (VgU B) := sTgU
structure KUgU (c : Nat) (vw vo : Value) (n i : Nat) (ts : List Value) : Prop where
  l : ts.length = 75
  t1 : gt ts 1 = vw
  t2 : gt ts 2 = .pointer (some ⟨c, 0, none⟩)
  t4 : gt ts 4 = vo
  t31 : gt ts 31 = .int .i64 (n : Int)
  t32 : gt ts 32 = .int .i64 (i : Int)
def lbgU : LC := (.seq (.ops [⟨(some 33), .bin .lss (.tmp 32) (.tmp 31), none⟩])
 (.seq (.cond (.tmp 33) .skip
 (.exit 0))
 (.seq (.block 1 (.seq (.ops [⟨(some 34), .mv (.tmp 32), none⟩, ⟨(some 6), .mv (.tmp 34), none⟩])
 (.seq (.draw [⟨⟨(some 36), .load true 3 (.tmp 2), none⟩, []⟩, ⟨⟨(some 37), .mv (.tmp 1), none⟩, []⟩, ⟨⟨(some 38), .mv (.tmp 6), none⟩, []⟩, ⟨⟨(some 39), .bin .mul (.const (.int .i64 2)) (.tmp 38), none⟩, []⟩, ⟨⟨(some 40), .bin .add (.const (.int .i64 1)) (.tmp 39), none⟩, []⟩, ⟨⟨(some 41), .iaddrS 1 (.tmp 37) (.tmp 40), none⟩, []⟩, ⟨⟨(some 42), .load false 1 (.tmp 41), none⟩, []⟩, ⟨⟨(some 43), .call (.func 14) [(.tmp 36), (.tmp 42)], none⟩, []⟩, ⟨⟨(some 35), .mv (.tmp 43), none⟩, []⟩, ⟨⟨(some 44), .ext (.tmp 35) 0, none⟩, []⟩, ⟨⟨(some 45), .ext (.tmp 35) 1, none⟩, []⟩, ⟨⟨(some 7), .mv (.tmp 44), none⟩, []⟩, ⟨⟨(some 8), .mv (.tmp 45), none⟩, []⟩])
 (.seq (.seq (.ops [⟨(some 46), .mv (.tmp 8), none⟩, ⟨(some 47), .un .not (.tmp 46), none⟩])
 (.cond (.tmp 47) (.seq (.ops [⟨(some 4), .mv (.const (.slice none 0 0)), none⟩, ⟨(some 5), .mv (.const (.int .i64 2)), none⟩])
 .ret)
 .skip))
 (.ops [⟨(some 48), .mv (.tmp 4), none⟩, ⟨(some 49), .mv (.tmp 7), none⟩, ⟨(some 50), .mv (.tmp 1), none⟩, ⟨(some 51), .mv (.tmp 6), none⟩, ⟨(some 52), .bin .mul (.const (.int .i64 2)) (.tmp 51), none⟩, ⟨(some 53), .bin .add (.const (.int .i64 2)) (.tmp 52), none⟩, ⟨(some 54), .iaddrS 1 (.tmp 50) (.tmp 53), none⟩, ⟨(some 55), .load false 1 (.tmp 54), none⟩, ⟨(some 56), .build [(.int .i64 0), (.int .u64 0)] [(0, 1, (.tmp 49)), (1, 1, (.tmp 55))], none⟩, ⟨(some 57), .buildS [(.int .i64 0), (.int .u64 0)] 1 [(0, 2, (.tmp 56))], none⟩, ⟨(some 58), .app [(.int .i64 0), (.int .u64 0)] 16 (.tmp 48) (.tmp 57), none⟩, ⟨(some 4), .mv (.tmp 58), none⟩])))))
 (.ops [⟨(some 59), .bin .add (.tmp 32) (.const (.int .i64 1)), none⟩, ⟨(some 32), .mv (.tmp 59), none⟩]))))
set_option maxHeartbeats 8000000 in
theorem loopgU {B : OH} {H0 H : HL} {N : St} {vw : Value} {w : List Int} {kk p cc h c n : Nat} (hT : Tab B) (C : Cf kk p cc h) (hv : SlR w1 1 B H0 vw w) (hu : U64s w) (hlw : w.length = LG p h) (hn : w.getD 0 0 = (n : Int)) (hnn : n ≤ h + 2 * p) (hN : good B H N) (hF0 : Fr H0 H) (bc : B c = none)
    (lc : lk H c = some (.cells [.int .i64 (kk : Int), .int .i64 (p : Int), .int .i64 (cc : Int)] 3)) {ts : List Value} (kp : KUgU c vw (.slice none 0 0) n 0 ts) {F : Nat} (hF : 300 + n + 1 ≤ F) :
    Ok (exec B { f := GgU B } F (LC.loop lbgU) ⟨ts, H, N⟩) (fun x s => good B s.H s.N ∧ Fr H0 s.H ∧ lk s.H c = lk H c ∧ ((x = .exit 0 ∧ plO p h w n ∧ ∃ vo, SlM w2 2 B H s.H vo (unL w n) ∧ KUgU c vw vo n n s.t) ∨ (x = .ret ∧ ¬ plO p h w n ∧ s.t.length = 75 ∧ gt s.t 4 = .slice none 0 0 ∧ gt s.t 5 = .int .i64 2))) := by
  have hlb := LG_b C
  have hcp := C.p
  have hch := C.h
  have hLG : LG p h = 1 + 2 * (h + 2 * p) := rfl
  refine loop_rule (n0 := 300) (fun q s => ∃ ts H' N' vo, ∃ i : Nat, s = ⟨ts, H', N'⟩ ∧ KUgU c vw vo n i ts ∧ good B H' N' ∧ Fr H H' ∧ SlM w2 2 B H H' vo (unL w i) ∧ plO p h w i ∧ i ≤ n ∧ q = n - i) _ ?_ n _ ⟨ts, H, N, _, 0, rfl, kp, hN, Fr.refl, .inl ⟨rfl, rfl⟩, fun i hi => by omega, by omega, rfl⟩ _ hF
  clear kp hF F ts hN N
  rintro z q s ⟨ts, H1, N1, vo, i, rfl, kp, g, fr, so, hok, hi, rfl⟩
  have hB := good_B g
  have hR := good_rdB g
  have hI := beqN g.1.1
  have hG : ∃ H N, good B H N := ⟨H1, N1, g⟩
  have lc1 := fr _ _ lc
  have nc := ne_N g lc1
  have nc' := ne_N' g lc1
  have rc := fun o n => rdB_none (o := o) (n := n) bc
  have hc1 : ((i + 1 : Nat) : Int) = (i : Int) + 1 := by omega
  obtain ⟨bv, ov, cv, rfl, _, rv⟩ := hv.at (by omega)
  have r0 : rdO H1 B bv ov 1 (rdB B bv ov 1) = some [.int .u64 (n : Int)] := by
    have := SlR.read rv w1_len (hF0.trans fr) 0 (i := 0) (by omega)
    rw [Nat.zero_mul, Nat.add_zero, hn] at this
    exact this
  have wn : IntKind.i64.wrap (n : Int) = (n : Int) := IntWalk.i64_in _ (by omega)
  have l0 : 0 < w.length := by omega
  by_cases hin : i < n
  case neg =>
    obtain rfl : i = n := by omega
    simp -implicitDefEqProofs (maxSteps := 10000000) (disch := omega) only [TgU, LgU, GgU_11, V11_eq, GgU_13, V13_eq, GgU_sEq, GgU_gP, GgU_wlogPlace, VwlogPlace_eq, GgU_wlogmost, Vwlogmost_eq, hB, hR, hI, lbgU, kp.l, kp.t1, kp.t2, kp.t4, kp.t31, kp.t32, Int.lt_irrefl, r0, wn, l0, Nat.zero_mul, bt, bf, all1, ress, res1, retV, Value.cells, reduceIte, reduceCtorEq, Int.reduceLT, Int.reduceLE, Int.reduceToNat, Int.reduceAdd, Int.reduceSub, Int.reduceMul, Int.reduceNeg, Nat.reduceMul, Nat.reduceAdd, Nat.reduceSub, Nat.reduceBEq, Nat.reduceEqDiff, Nat.reduceLT, Nat.reduceLeDiff, Int.reduceBEq, Int.reduceEq, Nat.reducePow, Int.reducePow, Int.reduceGT, Int.reduceGE, Int.reduceBNe, newsV_s, ev1, ev2, ev3, ev4]
    refine ok_some (.inr ⟨by simp, g, hF0.trans fr, lc1.trans lc.symm, .inl ⟨rfl, hok, vo, so, ⟨?_, ?_, ?_, ?_, ?_, ?_⟩⟩⟩)
    all_goals simp (maxSteps := 10000000) (disch := omega) only [kp.l, kp.t1, kp.t2, kp.t4, kp.t31, kp.t32, lenV_sl, Int.toNat_natCast, bft, btf, gtst, st_len, Nat.reduceAdd, Int.cast_ofNat_Int, Nat.reduceBEq, Nat.reduceLT, decide_true, ev2]
  have hin' : (i : Int) < (n : Int) := by omega
  have x0 : 1 + 2 * (i : Int) = ((1 + 2 * i : Nat) : Int) := by omega
  have x1 : 2 + 2 * (i : Int) = ((2 + 2 * i : Nat) : Int) := by omega
  have x2 : (0 : Int) ≤ ((1 + 2 * i : Nat) : Int) := by omega
  have x3 : (0 : Int) ≤ ((2 + 2 * i : Nat) : Int) := by omega
  have x4 : 1 + 2 * i < w.length := by omega
  have x5 : 2 + 2 * i < w.length := by omega
  have x6 : IntKind.i64.wrap ((1 + 2 * i : Nat) : Int) = ((1 + 2 * i : Nat) : Int) := IntWalk.i64_in _ (by omega)
  have x7 : IntKind.i64.wrap ((2 + 2 * i : Nat) : Int) = ((2 + 2 * i : Nat) : Int) := IntWalk.i64_in _ (by omega)
  have r1 := SlR.read rv w1_len (hF0.trans fr) 0 x4
  have r2 := SlR.read rv w1_len (hF0.trans fr) 0 x5
  rw [Nat.mul_one] at r1 r2
  have hu1 := hu.at (1 + 2 * i)
  have hul := unL_len w i
  have hs : unL w (i + 1) = unL w i ++ [⟨w.getD (1 + 2 * i) 0, w.getD (2 + 2 * i) 0⟩] := rfl
  have ep := fPlace hG hT C hu1
  have hyes : okP p h (w.getD (1 + 2 * i) 0) → plO p h w (i + 1) := fun h1 j hj => by
    by_cases e : j = i
    · rw [e]; exact h1
    · exact hok j (by omega)
  have hno : ¬ okP p h (w.getD (1 + 2 * i) 0) → ¬ plO p h w n := fun h1 h2 => h1 (h2 i hin)
  generalize w.getD (1 + 2 * i) 0 = a at *
  generalize w.getD (2 + 2 * i) 0 = b at *
  simp only [w1] at r1 r2
  by_cases hpl : okP p h a
  case neg =>
    rw [plV_n hpl] at ep
    simp -implicitDefEqProofs (maxSteps := 10000000) (disch := omega) only [TgU, LgU, GgU_11, V11_eq, GgU_13, V13_eq, GgU_sEq, GgU_gP, GgU_wlogPlace, VwlogPlace_eq, GgU_wlogmost, Vwlogmost_eq, hB, hR, hI, lbgU, kp.l, kp.t1, kp.t2, kp.t4, kp.t31, kp.t32, hin', r0, wn, l0, Nat.zero_mul, x0, x1, x2, x3, x4, x5, x6, x7, r1, r2, lc1, bc, rc, ep, Nat.mul_one, bt, bf, all1, ress, res1, retV, Value.cells, reduceIte, reduceCtorEq, Int.reduceLT, Int.reduceLE, Int.reduceToNat, Int.reduceAdd, Int.reduceSub, Int.reduceMul, Int.reduceNeg, Nat.reduceMul, Nat.reduceAdd, Nat.reduceSub, Nat.reduceBEq, Nat.reduceEqDiff, Nat.reduceLT, Nat.reduceLeDiff, Int.reduceBEq, Int.reduceEq, Nat.reducePow, Int.reducePow, Int.reduceGT, Int.reduceGE, Int.reduceBNe, newsV_s, ev1, ev2, ev3, ev4]
    refine ok_some (.inr ⟨by simp, g, hF0.trans fr, lc1.trans lc.symm, .inr ⟨rfl, hno hpl, ?_, ?_, ?_⟩⟩)
    all_goals simp (maxSteps := 10000000) (disch := omega) only [kp.l, kp.t1, kp.t2, kp.t4, kp.t31, kp.t32, lenV_sl, Int.toNat_natCast, bft, btf, gtst, st_len, Nat.reduceAdd, Int.cast_ofNat_Int, Nat.reduceBEq, Nat.reduceLT, decide_true, ev2]
  rw [plV_y hpl] at ep
  obtain ⟨v4, H4, N4, e4, g4, r4, _, s4, _⟩ := push_specM w2_len (bytes := 16) g fr so ⟨a, b⟩ rfl (by omega) (by omega)
  rw [← hs] at s4
  simp only [w2] at e4
  simp -implicitDefEqProofs (maxSteps := 10000000) (disch := omega) only [TgU, LgU, GgU_11, V11_eq, GgU_13, V13_eq, GgU_sEq, GgU_gP, GgU_wlogPlace, VwlogPlace_eq, GgU_wlogmost, Vwlogmost_eq, hB, hR, hI, lbgU, kp.l, kp.t1, kp.t2, kp.t4, kp.t31, kp.t32, hin', r0, wn, l0, Nat.zero_mul, x0, x1, x2, x3, x4, x5, x6, x7, r1, r2, lc1, bc, rc, ep, e4, Nat.mul_one, bt, bf, all1, ress, res1, retV, Value.cells, reduceIte, reduceCtorEq, Int.reduceLT, Int.reduceLE, Int.reduceToNat, Int.reduceAdd, Int.reduceSub, Int.reduceMul, Int.reduceNeg, Nat.reduceMul, Nat.reduceAdd, Nat.reduceSub, Nat.reduceBEq, Nat.reduceEqDiff, Nat.reduceLT, Nat.reduceLeDiff, Int.reduceBEq, Int.reduceEq, Nat.reducePow, Int.reducePow, Int.reduceGT, Int.reduceGE, Int.reduceBNe, newsV_s, ev1, ev2, ev3, ev4]
  refine ok_some (.inl ⟨rfl, n - (i + 1), by omega, _, H4, N4, v4, i + 1, rfl, ⟨?_, ?_, ?_, ?_, ?_, ?_⟩, g4, r4, s4.toM, hyes hpl, by omega, rfl⟩)
  all_goals simp (maxSteps := 10000000) (disch := omega) only [kp.l, kp.t1, kp.t2, kp.t4, kp.t31, kp.t32, lenV_sl, Int.toNat_natCast, bft, btf, gtst, st_len, hc1, Nat.reduceAdd, Int.cast_ofNat_Int, Nat.reduceBEq, Nat.reduceLT, decide_true, ev2]
set_option maxHeartbeats 8000000 in
theorem fUnpack {B : OH} {H : HL} {N : St} {vw : Value} {w : List Int} {kk p cc h : Nat} (hT : Tab B) (C : Cf kk p cc h) (hN : good B H N) (hv : SlR w1 1 B H vw w) (hu : U64s w) (hlw : w.length ≤ 900000) :
    ∃ v' H' N', VgU B [.agg #[.int .i64 (kk : Int), .int .i64 (p : Int), .int .i64 (cc : Int)], vw] H N = some (.ret (.tuple #[v', .int .i64 (unE p h w)]), H', N') ∧ good B H' N' ∧ Fr H H' ∧ SlM w2 2 B H H' v' (unR p h w) := by
  have hB := good_B hN
  have hR := good_rdB hN
  have hI := beqN hN.1.1
  have hG : ∃ H N, good B H N := ⟨H, N, hN⟩
  have e1 := f13 hG kk p cc (cfit C).1 (cfit C).2.1 (cfit C).2.2
  have e2 := f11c' hT hG C
  have e3 := fmost' hT hG C
  have hll := hv.len
  have hlb := LG_b C
  have hcp := C.p
  have hch := C.h
  have hLG : LG p h = 1 + 2 * (h + 2 * p) := rfl
  have g1 : good B ((N.n 0, .cells [.int .i64 (kk : Int), .int .i64 (p : Int), .int .i64 (cc : Int)] 3) :: H) (sh N) := good_new hN
  have f1 : Fr H ((N.n 0, .cells [.int .i64 (kk : Int), .int .i64 (p : Int), .int .i64 (cc : Int)] 3) :: H) := fr_new hN Fr.refl 0
  unfold VgU
  by_cases hl : w.length = LG p h
  case neg =>
    have hb : ((w.length : Int) != (LG p h : Int)) = true := by simp; omega
    obtain ⟨u1, u2⟩ := un_no (p := p) (h := h) (w := w) (fun h' => hl h'.1)
    rw [u1, u2]
    simp -implicitDefEqProofs (maxSteps := 10000000) (disch := omega) only [TgU, LgU, GgU_11, V11_eq, GgU_13, V13_eq, GgU_sEq, GgU_gP, GgU_wlogPlace, VwlogPlace_eq, GgU_wlogmost, Vwlogmost_eq, hB, hR, hI, e1, e2, hll, hb, bt, bf, all1, ress, res1, retV, Value.cells, reduceIte, reduceCtorEq, Int.reduceLT, Int.reduceLE, Int.reduceToNat, Int.reduceAdd, Int.reduceSub, Int.reduceMul, Int.reduceNeg, Nat.reduceMul, Nat.reduceAdd, Nat.reduceSub, Nat.reduceBEq, Nat.reduceEqDiff, Nat.reduceLT, Nat.reduceLeDiff, Int.reduceBEq, Int.reduceEq, Nat.reducePow, Int.reducePow, Int.reduceGT, Int.reduceGE, Int.reduceBNe, newsV_s, ev1, ev2, ev3, ev4]
    exact ⟨_, _, _, rfl, g1, f1, .inl ⟨rfl, rfl⟩⟩
  have hb : ((w.length : Int) != (LG p h : Int)) = false := by simp; omega
  have h0u := hu.at 0
  have l0 : 0 < w.length := by omega
  have rz : ∀ bv ov cv, vw = .slice (some ⟨bv, ov, none⟩) w.length cv → (∀ H', Fr H H' → ∀ i j n d, i < w.length → j + n ≤ 1 → rdO H' B bv (ov + i * 1 + j) n (rdB B bv (ov + i * 1 + j) n) = tk (w1 (w.getD i d)) j n) → rdO ((N.n 0, .cells [.int .i64 (kk : Int), .int .i64 (p : Int), .int .i64 (cc : Int)] 3) :: H) B bv ov 1 (rdB B bv ov 1) = some [.int .u64 (w.getD 0 0)] := fun bv ov cv _ rv => by
    have := SlR.read rv w1_len f1 0 (i := 0) l0
    rw [Nat.zero_mul, Nat.add_zero] at this
    exact this
  have wm : IntKind.u64.wrap ((h + 2 * p : Nat) : Int) = ((h + 2 * p : Nat) : Int) := IntWalk.u64_in _ (by omega)
  obtain ⟨bv, ov, cv, hve, hde, rv⟩ := hv.at l0
  have r0 := rz _ _ _ hve rv
  clear rz
  have nv := ne_den hN hde 0
  subst hve
  by_cases hm : w.getD 0 0 > ((h + 2 * p : Nat) : Int)
  · obtain ⟨u1, u2⟩ := un_no (p := p) (h := h) (w := w) (fun h' => by have := h'.2.1; omega)
    rw [u1, u2]
    simp -implicitDefEqProofs (maxSteps := 10000000) (disch := omega) only [TgU, LgU, GgU_11, V11_eq, GgU_13, V13_eq, GgU_sEq, GgU_gP, GgU_wlogPlace, VwlogPlace_eq, GgU_wlogmost, Vwlogmost_eq, hB, hR, hI, e1, e2, e3, hll, hb, l0, nv, r0, wm, hm, Nat.zero_mul, bt, bf, all1, ress, res1, retV, Value.cells, reduceIte, reduceCtorEq, Int.reduceLT, Int.reduceLE, Int.reduceToNat, Int.reduceAdd, Int.reduceSub, Int.reduceMul, Int.reduceNeg, Nat.reduceMul, Nat.reduceAdd, Nat.reduceSub, Nat.reduceBEq, Nat.reduceEqDiff, Nat.reduceLT, Nat.reduceLeDiff, Int.reduceBEq, Int.reduceEq, Nat.reducePow, Int.reducePow, Int.reduceGT, Int.reduceGE, Int.reduceBNe, newsV_s, ev1, ev2, ev3, ev4]
    exact ⟨_, _, _, rfl, g1, f1, .inl ⟨rfl, rfl⟩⟩
  unfold u64R at h0u
  obtain ⟨n, hn⟩ : ∃ n : Nat, w.getD 0 0 = (n : Int) := ⟨(w.getD 0 0).toNat, by omega⟩
  have hnn : n ≤ h + 2 * p := by omega
  have hun : unN w = n := by unfold unN; rw [hn]; rfl
  have wn : IntKind.i64.wrap (n : Int) = (n : Int) := IntWalk.i64_in _ (by omega)
  rw [hn] at r0 hm
  simp -implicitDefEqProofs (maxSteps := 10000000) (disch := omega) only [TgU, LgU, GgU_11, V11_eq, GgU_13, V13_eq, GgU_sEq, GgU_gP, GgU_wlogPlace, VwlogPlace_eq, GgU_wlogmost, Vwlogmost_eq, hB, hR, hI, e1, e2, e3, hll, hb, l0, nv, r0, wm, wn, hm, Nat.zero_mul, bt, bf, all1, ress, res1, retV, Value.cells, reduceIte, reduceCtorEq, Int.reduceLT, Int.reduceLE, Int.reduceToNat, Int.reduceAdd, Int.reduceSub, Int.reduceMul, Int.reduceNeg, Nat.reduceMul, Nat.reduceAdd, Nat.reduceSub, Nat.reduceBEq, Nat.reduceEqDiff, Nat.reduceLT, Nat.reduceLeDiff, Int.reduceBEq, Int.reduceEq, Nat.reducePow, Int.reducePow, Int.reduceGT, Int.reduceGE, Int.reduceBNe, newsV_s, ev1, ev2, ev3, ev4]
  generalize hX : exec B _ _ (LC.loop _) _ = o
  obtain ⟨x, ⟨ts, H1, N1⟩, ho, g2, fr2, hlc, hr⟩ := (show Ok o _ by rw [← hX]; exact loopgU (c := N.n 0) (n := n) hT C hv hu hl hn hnn g1 f1 (hB 0) lk_top ⟨rfl, rfl, rfl, rfl, rfl, rfl⟩ (by omega))
  subst ho
  simp only at g2 fr2 hlc hr
  have lc := hlc.trans lk_top
  have b0 := hB 0
  have rb0 := fun o n => rdB_none (o := o) (n := n) b0
  rcases hr with ⟨rfl, hok, vo, so, kp⟩ | ⟨rfl, hbad, tl, t4, t5⟩
  · have hw2 := unL_s C hu hok
    obtain ⟨v3, H3, N3, e4, g3, r3, s3⟩ := fPack hT C g2 (so.rd w2_len) hw2
    by_cases hpe : packE p h (unL w n) = 0
    · rw [hpe] at e4
      rw [if_pos hpe] at s3
      have e5 := samesEq g3 (s3.rd w1_len) (hv.mono (fr2.trans r3)) (by rw [packW_len (packE_0 hpe).1]; omega)
      by_cases heq : packW p h (unL w n) = w
      · obtain ⟨u1, u2⟩ := un_ok (p := p) (h := h) (w := w) ⟨hl, by omega, by rw [hun]; exact hok, by rw [hun]; exact hpe, by rw [hun]; exact heq⟩
        rw [u1, u2, hun]
        rw [decide_eq_true heq] at e5
        simp -implicitDefEqProofs (maxSteps := 10000000) (disch := omega) only [TgU, LgU, GgU_11, V11_eq, GgU_13, V13_eq, GgU_sEq, GgU_gP, GgU_wlogPlace, VwlogPlace_eq, GgU_wlogmost, Vwlogmost_eq, hB, hR, hI, kp.l, kp.t1, kp.t2, kp.t4, kp.t31, kp.t32, lc, b0, rb0, e4, e5, bne_self_eq_false, bt, bf, all1, ress, res1, retV, Value.cells, reduceIte, reduceCtorEq, Int.reduceLT, Int.reduceLE, Int.reduceToNat, Int.reduceAdd, Int.reduceSub, Int.reduceMul, Int.reduceNeg, Nat.reduceMul, Nat.reduceAdd, Nat.reduceSub, Nat.reduceBEq, Nat.reduceEqDiff, Nat.reduceLT, Nat.reduceLeDiff, Int.reduceBEq, Int.reduceEq, Nat.reducePow, Int.reducePow, Int.reduceGT, Int.reduceGE, Int.reduceBNe, newsV_s, ev1, ev2, ev3, ev4]
        exact ⟨_, _, _, rfl, g3, fr2.trans r3, (so.mono fun y c _ e => r3 y c e).low f1.dm⟩
      · obtain ⟨u1, u2⟩ := un_no (p := p) (h := h) (w := w) (fun h' => by have := h'.2.2.2.2; rw [hun] at this; exact heq this)
        rw [u1, u2]
        rw [decide_eq_false heq] at e5
        simp -implicitDefEqProofs (maxSteps := 10000000) (disch := omega) only [TgU, LgU, GgU_11, V11_eq, GgU_13, V13_eq, GgU_sEq, GgU_gP, GgU_wlogPlace, VwlogPlace_eq, GgU_wlogmost, Vwlogmost_eq, hB, hR, hI, kp.l, kp.t1, kp.t2, kp.t4, kp.t31, kp.t32, lc, b0, rb0, e4, e5, bne_self_eq_false, bt, bf, all1, ress, res1, retV, Value.cells, reduceIte, reduceCtorEq, Int.reduceLT, Int.reduceLE, Int.reduceToNat, Int.reduceAdd, Int.reduceSub, Int.reduceMul, Int.reduceNeg, Nat.reduceMul, Nat.reduceAdd, Nat.reduceSub, Nat.reduceBEq, Nat.reduceEqDiff, Nat.reduceLT, Nat.reduceLeDiff, Int.reduceBEq, Int.reduceEq, Nat.reducePow, Int.reducePow, Int.reduceGT, Int.reduceGE, Int.reduceBNe, newsV_s, ev1, ev2, ev3, ev4]
        exact ⟨_, _, _, rfl, g3, fr2.trans r3, .inl ⟨rfl, rfl⟩⟩
    · obtain ⟨u1, u2⟩ := un_no (p := p) (h := h) (w := w) (fun h' => by have := h'.2.2.2.1; rw [hun] at this; exact hpe this)
      rw [u1, u2]
      have hb2 : (packE p h (unL w n) != 0) = true := by simpa using hpe
      simp -implicitDefEqProofs (maxSteps := 10000000) (disch := omega) only [TgU, LgU, GgU_11, V11_eq, GgU_13, V13_eq, GgU_sEq, GgU_gP, GgU_wlogPlace, VwlogPlace_eq, GgU_wlogmost, Vwlogmost_eq, hB, hR, hI, kp.l, kp.t1, kp.t2, kp.t4, kp.t31, kp.t32, lc, b0, rb0, e4, hb2, bt, bf, all1, ress, res1, retV, Value.cells, reduceIte, reduceCtorEq, Int.reduceLT, Int.reduceLE, Int.reduceToNat, Int.reduceAdd, Int.reduceSub, Int.reduceMul, Int.reduceNeg, Nat.reduceMul, Nat.reduceAdd, Nat.reduceSub, Nat.reduceBEq, Nat.reduceEqDiff, Nat.reduceLT, Nat.reduceLeDiff, Int.reduceBEq, Int.reduceEq, Nat.reducePow, Int.reducePow, Int.reduceGT, Int.reduceGE, Int.reduceBNe, newsV_s, ev1, ev2, ev3, ev4]
      exact ⟨_, _, _, rfl, g3, fr2.trans r3, .inl ⟨rfl, rfl⟩⟩
  · obtain ⟨u1, u2⟩ := un_no (p := p) (h := h) (w := w) (fun h' => by have := h'.2.2.1; rw [hun] at this; exact hbad this)
    rw [u1, u2]
    simp -implicitDefEqProofs (maxSteps := 10000000) (disch := omega) only [TgU, LgU, GgU_11, V11_eq, GgU_13, V13_eq, GgU_sEq, GgU_gP, GgU_wlogPlace, VwlogPlace_eq, GgU_wlogmost, Vwlogmost_eq, hB, hR, hI, tl, t4, t5, bt, bf, all1, ress, res1, retV, Value.cells, reduceIte, reduceCtorEq, Int.reduceLT, Int.reduceLE, Int.reduceToNat, Int.reduceAdd, Int.reduceSub, Int.reduceMul, Int.reduceNeg, Nat.reduceMul, Nat.reduceAdd, Nat.reduceSub, Nat.reduceBEq, Nat.reduceEqDiff, Nat.reduceLT, Nat.reduceLeDiff, Int.reduceBEq, Int.reduceEq, Nat.reducePow, Int.reducePow, Int.reduceGT, Int.reduceGE, Int.reduceBNe, newsV_s, ev1, ev2, ev3, ev4]
    exact ⟨_, _, _, rfl, g2, fr2, .inl ⟨rfl, rfl⟩⟩
theorem fUnpackn {B : OH} {H : HL} {N : St} {vw : Value} {k p c : Int} (hn : ¬ fitI k p c) (hN : good B H N) :
    ∃ v' H' N', VgU B [.agg #[.int .i64 k, .int .i64 p, .int .i64 c], vw] H N = some (.ret (.tuple #[v', .int .i64 5]), H', N') ∧ good B H' N' ∧ Fr H H' ∧ SlM w2 2 B H H' v' ([] : List W2) := by
  have hB := good_B hN
  have hR := good_rdB hN
  have hI := beqN hN.1.1
  have hG : ∃ H N, good B H N := ⟨H, N, hN⟩
  have e1 := f13n hG k p c hn
  unfold VgU
  simp -implicitDefEqProofs (maxSteps := 10000000) (disch := omega) only [TgU, LgU, GgU_11, V11_eq, GgU_13, V13_eq, GgU_sEq, GgU_gP, GgU_wlogPlace, VwlogPlace_eq, GgU_wlogmost, Vwlogmost_eq, hB, hR, hI, e1, bt, bf, all1, ress, res1, retV, Value.cells, reduceIte, reduceCtorEq, Int.reduceLT, Int.reduceLE, Int.reduceToNat, Int.reduceAdd, Int.reduceSub, Int.reduceMul, Int.reduceNeg, Nat.reduceMul, Nat.reduceAdd, Nat.reduceSub, Nat.reduceBEq, Nat.reduceEqDiff, Nat.reduceLT, Nat.reduceLeDiff, Int.reduceBEq, Int.reduceEq, Nat.reducePow, Int.reducePow, Int.reduceGT, Int.reduceGE, Int.reduceBNe, newsV_s, ev1, ev2, ev3, ev4]
  exact ⟨_, _, _, rfl, good_new hN, fr_new hN Fr.refl 0, .inl ⟨rfl, rfl⟩⟩
end Go.Proofs.YtfhiplfagejfoaaDoor
namespace Go.Proofs.YtfhiplfagejfoaaDoor
open Go.Proofs.YtfhiplfagejfoaaDoor.K Go.ChangeShapes Go.WideShapes Go.ChangeAt Go.RowKit
set_option maxRecDepth 100000
set_option linter.unusedSimpArgs false
set_option linter.unusedVariables false
def LrU : FnL := ⟨(.seq (.ops [⟨(some 2), .box (.tmp 0), none⟩, ⟨(some 4), .mv (.const (.slice none 0 0)), none⟩, ⟨(some 5), .mv (.const (.int .i64 0)), none⟩])
 (.seq (.seq (.ops [⟨(some 12), .load true 3 (.tmp 2), none⟩, ⟨(some 13), .call (.func 39) [(.tmp 12)], none⟩, ⟨(some 14), .un .not (.tmp 13), none⟩])
 (.cond (.tmp 14) (.seq (.ops [⟨(some 4), .mv (.const (.slice none 0 0)), none⟩, ⟨(some 5), .mv (.const (.int .i64 5)), none⟩])
 .ret)
 .skip))
 (.seq (.seq (.draw [⟨⟨(some 15), .mv (.tmp 1), none⟩, []⟩, ⟨⟨(some 16), .len false (.tmp 15), none⟩, []⟩, ⟨⟨(some 17), .load true 3 (.tmp 2), none⟩, []⟩, ⟨⟨(some 18), .call (.func 40) [(.tmp 17)], none⟩, []⟩, ⟨⟨(some 19), .bin .neq (.tmp 16) (.tmp 18), none⟩, []⟩, ⟨⟨(some 20), .mv (.tmp 19), none⟩, []⟩, ⟨⟨(some 21), .mv (.tmp 1), (some (20, false))⟩, []⟩, ⟨⟨(some 22), .iaddrS 1 (.tmp 21) (.const (.int .i64 0)), (some (20, false))⟩, []⟩, ⟨⟨(some 23), .load false 1 (.tmp 22), (some (20, false))⟩, []⟩, ⟨⟨(some 24), .load true 3 (.tmp 2), (some (20, false))⟩, []⟩, ⟨⟨(some 25), .call (.func 29) [(.tmp 24)], (some (20, false))⟩, [⟨(some 23), .load false 1 (.tmp 22), (some (20, false))⟩]⟩, ⟨⟨(some 26), .conv .u64 (.tmp 25), (some (20, false))⟩, []⟩, ⟨⟨(some 27), .bin .gtr (.tmp 23) (.tmp 26), (some (20, false))⟩, []⟩, ⟨⟨(some 28), .pick (.tmp 20) (.const (.bool true)) (.tmp 27), none⟩, []⟩])
 (.cond (.tmp 28) (.seq (.ops [⟨(some 4), .mv (.const (.slice none 0 0)), none⟩, ⟨(some 5), .mv (.const (.int .i64 2)), none⟩])
 .ret)
 .skip))
 (.seq (.ops [⟨(some 6), .mv (.const (.slice none 0 0)), none⟩])
 (.seq (.seq (.ops [⟨(some 7), .mv (.const (.int .i64 0)), none⟩])
 (.block 0 (.loop (.seq (.seq (.ops [⟨(some 29), .mv (.tmp 7), none⟩, ⟨(some 30), .mv (.tmp 1), none⟩, ⟨(some 31), .iaddrS 1 (.tmp 30) (.const (.int .i64 0)), none⟩, ⟨(some 32), .load false 1 (.tmp 31), none⟩, ⟨(some 33), .conv .i64 (.tmp 32), none⟩, ⟨(some 34), .bin .lss (.tmp 29) (.tmp 33), none⟩])
 (.cond (.tmp 34) .skip
 (.exit 0)))
 (.seq (.block 1 (.seq (.draw [⟨⟨(some 38), .load true 3 (.tmp 2), none⟩, []⟩, ⟨⟨(some 39), .mv (.tmp 1), none⟩, []⟩, ⟨⟨(some 40), .mv (.tmp 7), none⟩, []⟩, ⟨⟨(some 41), .bin .mul (.const (.int .i64 2)) (.tmp 40), none⟩, []⟩, ⟨⟨(some 42), .bin .add (.const (.int .i64 1)) (.tmp 41), none⟩, []⟩, ⟨⟨(some 43), .iaddrS 1 (.tmp 39) (.tmp 42), none⟩, []⟩, ⟨⟨(some 44), .load false 1 (.tmp 43), none⟩, []⟩, ⟨⟨(some 45), .call (.func 15) [(.tmp 38), (.tmp 44)], none⟩, []⟩, ⟨⟨(some 37), .mv (.tmp 45), none⟩, []⟩, ⟨⟨(some 46), .ext (.tmp 37) 0, none⟩, []⟩, ⟨⟨(some 47), .ext (.tmp 37) 1, none⟩, []⟩, ⟨⟨(some 8), .mv (.tmp 46), none⟩, []⟩, ⟨⟨(some 9), .mv (.tmp 47), none⟩, []⟩])
 (.seq (.seq (.ops [⟨(some 48), .mv (.tmp 9), none⟩, ⟨(some 49), .un .not (.tmp 48), none⟩])
 (.cond (.tmp 49) (.seq (.ops [⟨(some 4), .mv (.const (.slice none 0 0)), none⟩, ⟨(some 5), .mv (.const (.int .i64 2)), none⟩])
 .ret)
 .skip))
 (.ops [⟨(some 50), .mv (.tmp 6), none⟩, ⟨(some 51), .mv (.tmp 8), none⟩, ⟨(some 52), .mv (.tmp 1), none⟩, ⟨(some 53), .mv (.tmp 7), none⟩, ⟨(some 54), .bin .mul (.const (.int .i64 2)) (.tmp 53), none⟩, ⟨(some 55), .bin .add (.const (.int .i64 2)) (.tmp 54), none⟩, ⟨(some 56), .iaddrS 1 (.tmp 52) (.tmp 55), none⟩, ⟨(some 57), .load false 1 (.tmp 56), none⟩, ⟨(some 58), .build [(.int .i64 0), (.int .u64 0)] [(0, 1, (.tmp 51)), (1, 1, (.tmp 57))], none⟩, ⟨(some 59), .buildS [(.int .i64 0), (.int .u64 0)] 1 [(0, 2, (.tmp 58))], none⟩, ⟨(some 60), .app [(.int .i64 0), (.int .u64 0)] 16 (.tmp 50) (.tmp 59), none⟩, ⟨(some 6), .mv (.tmp 60), none⟩]))))
 (.ops [⟨(some 35), .mv (.tmp 7), none⟩, ⟨(some 36), .bin .add (.tmp 35) (.const (.int .i64 1)), none⟩, ⟨(some 7), .mv (.tmp 36), none⟩]))))))
 (.seq (.ops [⟨(some 62), .load true 3 (.tmp 2), none⟩, ⟨(some 63), .mv (.tmp 6), none⟩, ⟨(some 64), .call (.func 11) [(.tmp 62), (.tmp 63)], none⟩, ⟨(some 61), .mv (.tmp 64), none⟩, ⟨(some 65), .ext (.tmp 61) 0, none⟩, ⟨(some 66), .ext (.tmp 61) 1, none⟩, ⟨(some 10), .mv (.tmp 65), none⟩, ⟨(some 11), .mv (.tmp 66), none⟩])
 (.seq (.seq (.ops [⟨(some 67), .mv (.tmp 11), none⟩, ⟨(some 68), .bin .neq (.tmp 67) (.const (.int .i64 0)), none⟩, ⟨(some 69), .mv (.tmp 68), none⟩, ⟨(some 70), .mv (.tmp 10), (some (69, false))⟩, ⟨(some 71), .mv (.tmp 1), (some (69, false))⟩, ⟨(some 72), .call (.func 17) [(.tmp 70), (.tmp 71)], (some (69, false))⟩, ⟨(some 73), .un .not (.tmp 72), (some (69, false))⟩, ⟨(some 74), .pick (.tmp 69) (.const (.bool true)) (.tmp 73), none⟩])
 (.cond (.tmp 74) (.seq (.ops [⟨(some 4), .mv (.const (.slice none 0 0)), none⟩, ⟨(some 5), .mv (.const (.int .i64 2)), none⟩])
 .ret)
 .skip))
 (.seq (.ops [⟨(some 75), .mv (.tmp 6), none⟩, ⟨(some 4), .mv (.tmp 75), none⟩, ⟨(some 5), .mv (.const (.int .i64 0)), none⟩])
 .ret)))))))),
 76, [.tmp 4, .tmp 5]⟩
theorem lowrU : lowerFn Tryd.prog Tryd.f19 = some LrU := by kernel_rfl
noncomputable def GrU (B : OH) : Nat → Cs
  | 39 => Vref04Fits B
  | 40 => VrS B
  | 17 => Vref10Words B
  | 29 => Vref16Most B
  | 11 => VrP B
  | 15 => Vref16Place B
  | _ => fun _ _ _ => none
theorem GrU_ref04Fits {B : OH} : GrU B 39 = Vref04Fits B := rfl
theorem GrU_rS {B : OH} : GrU B 40 = VrS B := rfl
theorem GrU_ref10Words {B : OH} : GrU B 17 = Vref10Words B := rfl
theorem GrU_ref16Most {B : OH} : GrU B 29 = Vref16Most B := rfl
theorem GrU_rP {B : OH} : GrU B 11 = VrP B := rfl
theorem GrU_ref16Place {B : OH} : GrU B 15 = Vref16Place B := rfl
theorem sGrU {w0 : World} {B : OH} : SoundG Tryd.prog w0 B { f := GrU B } := .of fun k => by
  unfold GrU
  split
  · exact .inr ⟨enref04Fits, sVref04Fits⟩
  · exact .inr ⟨enrS, sVrS⟩
  · exact .inr ⟨enref10Words, sVref10Words⟩
  · exact .inr ⟨enref16Most, sVref16Most⟩
  · exact .inr ⟨enrP, sVrP⟩
  · exact .inr ⟨enref16Place, sVref16Place⟩
  · exact .inl fun _ _ _ => rfl
theorem enrU : Enter Tryd.prog 19 := .of Tryd.func19 (by kernel_rfl) (by kernel_rfl)
noncomputable def TrU (B : OH) : Cs := callF B { f := GrU B } 1000000 LrU
theorem sTrU {w0 : World} {B : OH} : SoundC Tryd.prog w0 B 19 (TrU B) := callF_sound mixedOrders sGrU 1000000 Tryd.func19 lowrU
noncomputable def VrU (B : OH) : Cs := TrU B
theorem sVrU {w0 : World} {B : OH} : SoundC Tryd.prog w0 B 19 (VrU B) := sTrU
structure KUrU (c : Nat) (vw vo : Value) (n i : Nat) (ts : List Value) : Prop where
  l : ts.length = 76
  t1 : gt ts 1 = vw
  t2 : gt ts 2 = .pointer (some ⟨c, 0, none⟩)
  t6 : gt ts 6 = vo
  t7 : gt ts 7 = .int .i64 (i : Int)
def lbrU : LC := (.seq (.seq (.ops [⟨(some 29), .mv (.tmp 7), none⟩, ⟨(some 30), .mv (.tmp 1), none⟩, ⟨(some 31), .iaddrS 1 (.tmp 30) (.const (.int .i64 0)), none⟩, ⟨(some 32), .load false 1 (.tmp 31), none⟩, ⟨(some 33), .conv .i64 (.tmp 32), none⟩, ⟨(some 34), .bin .lss (.tmp 29) (.tmp 33), none⟩])
 (.cond (.tmp 34) .skip
 (.exit 0)))
 (.seq (.block 1 (.seq (.draw [⟨⟨(some 38), .load true 3 (.tmp 2), none⟩, []⟩, ⟨⟨(some 39), .mv (.tmp 1), none⟩, []⟩, ⟨⟨(some 40), .mv (.tmp 7), none⟩, []⟩, ⟨⟨(some 41), .bin .mul (.const (.int .i64 2)) (.tmp 40), none⟩, []⟩, ⟨⟨(some 42), .bin .add (.const (.int .i64 1)) (.tmp 41), none⟩, []⟩, ⟨⟨(some 43), .iaddrS 1 (.tmp 39) (.tmp 42), none⟩, []⟩, ⟨⟨(some 44), .load false 1 (.tmp 43), none⟩, []⟩, ⟨⟨(some 45), .call (.func 15) [(.tmp 38), (.tmp 44)], none⟩, []⟩, ⟨⟨(some 37), .mv (.tmp 45), none⟩, []⟩, ⟨⟨(some 46), .ext (.tmp 37) 0, none⟩, []⟩, ⟨⟨(some 47), .ext (.tmp 37) 1, none⟩, []⟩, ⟨⟨(some 8), .mv (.tmp 46), none⟩, []⟩, ⟨⟨(some 9), .mv (.tmp 47), none⟩, []⟩])
 (.seq (.seq (.ops [⟨(some 48), .mv (.tmp 9), none⟩, ⟨(some 49), .un .not (.tmp 48), none⟩])
 (.cond (.tmp 49) (.seq (.ops [⟨(some 4), .mv (.const (.slice none 0 0)), none⟩, ⟨(some 5), .mv (.const (.int .i64 2)), none⟩])
 .ret)
 .skip))
 (.ops [⟨(some 50), .mv (.tmp 6), none⟩, ⟨(some 51), .mv (.tmp 8), none⟩, ⟨(some 52), .mv (.tmp 1), none⟩, ⟨(some 53), .mv (.tmp 7), none⟩, ⟨(some 54), .bin .mul (.const (.int .i64 2)) (.tmp 53), none⟩, ⟨(some 55), .bin .add (.const (.int .i64 2)) (.tmp 54), none⟩, ⟨(some 56), .iaddrS 1 (.tmp 52) (.tmp 55), none⟩, ⟨(some 57), .load false 1 (.tmp 56), none⟩, ⟨(some 58), .build [(.int .i64 0), (.int .u64 0)] [(0, 1, (.tmp 51)), (1, 1, (.tmp 57))], none⟩, ⟨(some 59), .buildS [(.int .i64 0), (.int .u64 0)] 1 [(0, 2, (.tmp 58))], none⟩, ⟨(some 60), .app [(.int .i64 0), (.int .u64 0)] 16 (.tmp 50) (.tmp 59), none⟩, ⟨(some 6), .mv (.tmp 60), none⟩]))))
 (.ops [⟨(some 35), .mv (.tmp 7), none⟩, ⟨(some 36), .bin .add (.tmp 35) (.const (.int .i64 1)), none⟩, ⟨(some 7), .mv (.tmp 36), none⟩])))
set_option maxHeartbeats 8000000 in
theorem looprU {B : OH} {H0 H : HL} {N : St} {vw : Value} {w : List Int} {kk p cc h c n : Nat} (hT : Tab B) (C : Cf kk p cc h) (hv : SlR w1 1 B H0 vw w) (hu : U64s w) (hlw : w.length = LG p h) (hn : w.getD 0 0 = (n : Int)) (hnn : n ≤ h + 2 * p) (hN : good B H N) (hF0 : Fr H0 H) (bc : B c = none)
    (lc : lk H c = some (.cells [.int .i64 (kk : Int), .int .i64 (p : Int), .int .i64 (cc : Int)] 3)) {ts : List Value} (kp : KUrU c vw (.slice none 0 0) n 0 ts) {F : Nat} (hF : 300 + n + 1 ≤ F) :
    Ok (exec B { f := GrU B } F (LC.loop lbrU) ⟨ts, H, N⟩) (fun x s => good B s.H s.N ∧ Fr H0 s.H ∧ lk s.H c = lk H c ∧ ((x = .exit 0 ∧ plO p h w n ∧ ∃ vo, SlM w2 2 B H s.H vo (unL w n) ∧ KUrU c vw vo n n s.t) ∨ (x = .ret ∧ ¬ plO p h w n ∧ s.t.length = 76 ∧ gt s.t 4 = .slice none 0 0 ∧ gt s.t 5 = .int .i64 2))) := by
  have hlb := LG_b C
  have hcp := C.p
  have hch := C.h
  have hLG : LG p h = 1 + 2 * (h + 2 * p) := rfl
  refine loop_rule (n0 := 300) (fun q s => ∃ ts H' N' vo, ∃ i : Nat, s = ⟨ts, H', N'⟩ ∧ KUrU c vw vo n i ts ∧ good B H' N' ∧ Fr H H' ∧ SlM w2 2 B H H' vo (unL w i) ∧ plO p h w i ∧ i ≤ n ∧ q = n - i) _ ?_ n _ ⟨ts, H, N, _, 0, rfl, kp, hN, Fr.refl, .inl ⟨rfl, rfl⟩, fun i hi => by omega, by omega, rfl⟩ _ hF
  clear kp hF F ts hN N
  rintro z q s ⟨ts, H1, N1, vo, i, rfl, kp, g, fr, so, hok, hi, rfl⟩
  have hB := good_B g
  have hR := good_rdB g
  have hI := beqN g.1.1
  have hG : ∃ H N, good B H N := ⟨H1, N1, g⟩
  have lc1 := fr _ _ lc
  have nc := ne_N g lc1
  have nc' := ne_N' g lc1
  have rc := fun o n => rdB_none (o := o) (n := n) bc
  have hc1 : ((i + 1 : Nat) : Int) = (i : Int) + 1 := by omega
  obtain ⟨bv, ov, cv, rfl, _, rv⟩ := hv.at (by omega)
  have r0 : rdO H1 B bv ov 1 (rdB B bv ov 1) = some [.int .u64 (n : Int)] := by
    have := SlR.read rv w1_len (hF0.trans fr) 0 (i := 0) (by omega)
    rw [Nat.zero_mul, Nat.add_zero, hn] at this
    exact this
  have wn : IntKind.i64.wrap (n : Int) = (n : Int) := IntWalk.i64_in _ (by omega)
  have l0 : 0 < w.length := by omega
  by_cases hin : i < n
  case neg =>
    obtain rfl : i = n := by omega
    simp -implicitDefEqProofs (maxSteps := 10000000) (disch := omega) only [TrU, LrU, GrU_ref04Fits, Vref04Fits_eq, GrU_rS, VrS_eq, GrU_ref10Words, GrU_ref16Most, Vref16Most_eq, GrU_rP, GrU_ref16Place, Vref16Place_eq, hB, hR, hI, lbrU, kp.l, kp.t1, kp.t2, kp.t6, kp.t7, Int.lt_irrefl, r0, wn, l0, Nat.zero_mul, bt, bf, all1, ress, res1, retV, Value.cells, reduceIte, reduceCtorEq, Int.reduceLT, Int.reduceLE, Int.reduceToNat, Int.reduceAdd, Int.reduceSub, Int.reduceMul, Int.reduceNeg, Nat.reduceMul, Nat.reduceAdd, Nat.reduceSub, Nat.reduceBEq, Nat.reduceEqDiff, Nat.reduceLT, Nat.reduceLeDiff, Int.reduceBEq, Int.reduceEq, Nat.reducePow, Int.reducePow, Int.reduceGT, Int.reduceGE, Int.reduceBNe, newsV_s, ev1, ev2, ev3, ev4]
    refine ok_some (.inr ⟨by simp, g, hF0.trans fr, lc1.trans lc.symm, .inl ⟨rfl, hok, vo, so, ⟨?_, ?_, ?_, ?_, ?_⟩⟩⟩)
    all_goals simp (maxSteps := 10000000) (disch := omega) only [kp.l, kp.t1, kp.t2, kp.t6, kp.t7, lenV_sl, Int.toNat_natCast, bft, btf, gtst, st_len, Nat.reduceAdd, Int.cast_ofNat_Int, Nat.reduceBEq, Nat.reduceLT, decide_true, ev2]
  have hin' : (i : Int) < (n : Int) := by omega
  have x0 : 1 + 2 * (i : Int) = ((1 + 2 * i : Nat) : Int) := by omega
  have x1 : 2 + 2 * (i : Int) = ((2 + 2 * i : Nat) : Int) := by omega
  have x2 : (0 : Int) ≤ ((1 + 2 * i : Nat) : Int) := by omega
  have x3 : (0 : Int) ≤ ((2 + 2 * i : Nat) : Int) := by omega
  have x4 : 1 + 2 * i < w.length := by omega
  have x5 : 2 + 2 * i < w.length := by omega
  have x6 : IntKind.i64.wrap ((1 + 2 * i : Nat) : Int) = ((1 + 2 * i : Nat) : Int) := IntWalk.i64_in _ (by omega)
  have x7 : IntKind.i64.wrap ((2 + 2 * i : Nat) : Int) = ((2 + 2 * i : Nat) : Int) := IntWalk.i64_in _ (by omega)
  have r1 := SlR.read rv w1_len (hF0.trans fr) 0 x4
  have r2 := SlR.read rv w1_len (hF0.trans fr) 0 x5
  rw [Nat.mul_one] at r1 r2
  have hu1 := hu.at (1 + 2 * i)
  have hul := unL_len w i
  have hs : unL w (i + 1) = unL w i ++ [⟨w.getD (1 + 2 * i) 0, w.getD (2 + 2 * i) 0⟩] := rfl
  have ep := rPlace hG C hu1
  have hyes : okP p h (w.getD (1 + 2 * i) 0) → plO p h w (i + 1) := fun h1 j hj => by
    by_cases e : j = i
    · rw [e]; exact h1
    · exact hok j (by omega)
  have hno : ¬ okP p h (w.getD (1 + 2 * i) 0) → ¬ plO p h w n := fun h1 h2 => h1 (h2 i hin)
  generalize w.getD (1 + 2 * i) 0 = a at *
  generalize w.getD (2 + 2 * i) 0 = b at *
  simp only [w1] at r1 r2
  by_cases hpl : okP p h a
  case neg =>
    rw [plV_n hpl] at ep
    simp -implicitDefEqProofs (maxSteps := 10000000) (disch := omega) only [TrU, LrU, GrU_ref04Fits, Vref04Fits_eq, GrU_rS, VrS_eq, GrU_ref10Words, GrU_ref16Most, Vref16Most_eq, GrU_rP, GrU_ref16Place, Vref16Place_eq, hB, hR, hI, lbrU, kp.l, kp.t1, kp.t2, kp.t6, kp.t7, hin', r0, wn, l0, Nat.zero_mul, x0, x1, x2, x3, x4, x5, x6, x7, r1, r2, lc1, bc, rc, ep, Nat.mul_one, bt, bf, all1, ress, res1, retV, Value.cells, reduceIte, reduceCtorEq, Int.reduceLT, Int.reduceLE, Int.reduceToNat, Int.reduceAdd, Int.reduceSub, Int.reduceMul, Int.reduceNeg, Nat.reduceMul, Nat.reduceAdd, Nat.reduceSub, Nat.reduceBEq, Nat.reduceEqDiff, Nat.reduceLT, Nat.reduceLeDiff, Int.reduceBEq, Int.reduceEq, Nat.reducePow, Int.reducePow, Int.reduceGT, Int.reduceGE, Int.reduceBNe, newsV_s, ev1, ev2, ev3, ev4]
    refine ok_some (.inr ⟨by simp, g, hF0.trans fr, lc1.trans lc.symm, .inr ⟨rfl, hno hpl, ?_, ?_, ?_⟩⟩)
    all_goals simp (maxSteps := 10000000) (disch := omega) only [kp.l, kp.t1, kp.t2, kp.t6, kp.t7, lenV_sl, Int.toNat_natCast, bft, btf, gtst, st_len, Nat.reduceAdd, Int.cast_ofNat_Int, Nat.reduceBEq, Nat.reduceLT, decide_true, ev2]
  rw [plV_y hpl] at ep
  obtain ⟨v4, H4, N4, e4, g4, r4, _, s4, _⟩ := push_specM w2_len (bytes := 16) g fr so ⟨a, b⟩ rfl (by omega) (by omega)
  rw [← hs] at s4
  simp only [w2] at e4
  simp -implicitDefEqProofs (maxSteps := 10000000) (disch := omega) only [TrU, LrU, GrU_ref04Fits, Vref04Fits_eq, GrU_rS, VrS_eq, GrU_ref10Words, GrU_ref16Most, Vref16Most_eq, GrU_rP, GrU_ref16Place, Vref16Place_eq, hB, hR, hI, lbrU, kp.l, kp.t1, kp.t2, kp.t6, kp.t7, hin', r0, wn, l0, Nat.zero_mul, x0, x1, x2, x3, x4, x5, x6, x7, r1, r2, lc1, bc, rc, ep, e4, Nat.mul_one, bt, bf, all1, ress, res1, retV, Value.cells, reduceIte, reduceCtorEq, Int.reduceLT, Int.reduceLE, Int.reduceToNat, Int.reduceAdd, Int.reduceSub, Int.reduceMul, Int.reduceNeg, Nat.reduceMul, Nat.reduceAdd, Nat.reduceSub, Nat.reduceBEq, Nat.reduceEqDiff, Nat.reduceLT, Nat.reduceLeDiff, Int.reduceBEq, Int.reduceEq, Nat.reducePow, Int.reducePow, Int.reduceGT, Int.reduceGE, Int.reduceBNe, newsV_s, ev1, ev2, ev3, ev4]
  refine ok_some (.inl ⟨rfl, n - (i + 1), by omega, _, H4, N4, v4, i + 1, rfl, ⟨?_, ?_, ?_, ?_, ?_⟩, g4, r4, s4.toM, hyes hpl, by omega, rfl⟩)
  all_goals simp (maxSteps := 10000000) (disch := omega) only [kp.l, kp.t1, kp.t2, kp.t6, kp.t7, lenV_sl, Int.toNat_natCast, bft, btf, gtst, st_len, hc1, Nat.reduceAdd, Int.cast_ofNat_Int, Nat.reduceBEq, Nat.reduceLT, decide_true, ev2]
set_option maxHeartbeats 8000000 in
theorem rUnpack {B : OH} {H : HL} {N : St} {vw : Value} {w : List Int} {kk p cc h : Nat} (hT : Tab B) (C : Cf kk p cc h) (hN : good B H N) (hv : SlR w1 1 B H vw w) (hu : U64s w) (hlw : w.length ≤ 900000) :
    ∃ v' H' N', VrU B [.agg #[.int .i64 (kk : Int), .int .i64 (p : Int), .int .i64 (cc : Int)], vw] H N = some (.ret (.tuple #[v', .int .i64 (unE p h w)]), H', N') ∧ good B H' N' ∧ Fr H H' ∧ SlM w2 2 B H H' v' (unR p h w) := by
  have hB := good_B hN
  have hR := good_rdB hN
  have hI := beqN hN.1.1
  have hG : ∃ H N, good B H N := ⟨H, N, hN⟩
  have e1 := rFits1 hG C
  have e2 := rLog hG C
  have e3 := rmost hG C
  have hll := hv.len
  have hlb := LG_b C
  have hcp := C.p
  have hch := C.h
  have hLG : LG p h = 1 + 2 * (h + 2 * p) := rfl
  have g1 : good B ((N.n 0, .cells [.int .i64 (kk : Int), .int .i64 (p : Int), .int .i64 (cc : Int)] 3) :: H) (sh N) := good_new hN
  have f1 : Fr H ((N.n 0, .cells [.int .i64 (kk : Int), .int .i64 (p : Int), .int .i64 (cc : Int)] 3) :: H) := fr_new hN Fr.refl 0
  unfold VrU
  by_cases hl : w.length = LG p h
  case neg =>
    have hb : ((w.length : Int) != (LG p h : Int)) = true := by simp; omega
    obtain ⟨u1, u2⟩ := un_no (p := p) (h := h) (w := w) (fun h' => hl h'.1)
    rw [u1, u2]
    simp -implicitDefEqProofs (maxSteps := 10000000) (disch := omega) only [TrU, LrU, GrU_ref04Fits, Vref04Fits_eq, GrU_rS, VrS_eq, GrU_ref10Words, GrU_ref16Most, Vref16Most_eq, GrU_rP, GrU_ref16Place, Vref16Place_eq, hB, hR, hI, e1, e2, hll, hb, bt, bf, all1, ress, res1, retV, Value.cells, reduceIte, reduceCtorEq, Int.reduceLT, Int.reduceLE, Int.reduceToNat, Int.reduceAdd, Int.reduceSub, Int.reduceMul, Int.reduceNeg, Nat.reduceMul, Nat.reduceAdd, Nat.reduceSub, Nat.reduceBEq, Nat.reduceEqDiff, Nat.reduceLT, Nat.reduceLeDiff, Int.reduceBEq, Int.reduceEq, Nat.reducePow, Int.reducePow, Int.reduceGT, Int.reduceGE, Int.reduceBNe, newsV_s, ev1, ev2, ev3, ev4]
    exact ⟨_, _, _, rfl, g1, f1, .inl ⟨rfl, rfl⟩⟩
  have hb : ((w.length : Int) != (LG p h : Int)) = false := by simp; omega
  have h0u := hu.at 0
  have l0 : 0 < w.length := by omega
  have rz : ∀ bv ov cv, vw = .slice (some ⟨bv, ov, none⟩) w.length cv → (∀ H', Fr H H' → ∀ i j n d, i < w.length → j + n ≤ 1 → rdO H' B bv (ov + i * 1 + j) n (rdB B bv (ov + i * 1 + j) n) = tk (w1 (w.getD i d)) j n) → rdO ((N.n 0, .cells [.int .i64 (kk : Int), .int .i64 (p : Int), .int .i64 (cc : Int)] 3) :: H) B bv ov 1 (rdB B bv ov 1) = some [.int .u64 (w.getD 0 0)] := fun bv ov cv _ rv => by
    have := SlR.read rv w1_len f1 0 (i := 0) l0
    rw [Nat.zero_mul, Nat.add_zero] at this
    exact this
  have wm : IntKind.u64.wrap ((h + 2 * p : Nat) : Int) = ((h + 2 * p : Nat) : Int) := IntWalk.u64_in _ (by omega)
  obtain ⟨bv, ov, cv, hve, hde, rv⟩ := hv.at l0
  have r0 := rz _ _ _ hve rv
  clear rz
  have nv := ne_den hN hde 0
  subst hve
  by_cases hm : w.getD 0 0 > ((h + 2 * p : Nat) : Int)
  · obtain ⟨u1, u2⟩ := un_no (p := p) (h := h) (w := w) (fun h' => by have := h'.2.1; omega)
    rw [u1, u2]
    simp -implicitDefEqProofs (maxSteps := 10000000) (disch := omega) only [TrU, LrU, GrU_ref04Fits, Vref04Fits_eq, GrU_rS, VrS_eq, GrU_ref10Words, GrU_ref16Most, Vref16Most_eq, GrU_rP, GrU_ref16Place, Vref16Place_eq, hB, hR, hI, e1, e2, e3, hll, hb, l0, nv, r0, wm, hm, Nat.zero_mul, bt, bf, all1, ress, res1, retV, Value.cells, reduceIte, reduceCtorEq, Int.reduceLT, Int.reduceLE, Int.reduceToNat, Int.reduceAdd, Int.reduceSub, Int.reduceMul, Int.reduceNeg, Nat.reduceMul, Nat.reduceAdd, Nat.reduceSub, Nat.reduceBEq, Nat.reduceEqDiff, Nat.reduceLT, Nat.reduceLeDiff, Int.reduceBEq, Int.reduceEq, Nat.reducePow, Int.reducePow, Int.reduceGT, Int.reduceGE, Int.reduceBNe, newsV_s, ev1, ev2, ev3, ev4]
    exact ⟨_, _, _, rfl, g1, f1, .inl ⟨rfl, rfl⟩⟩
  unfold u64R at h0u
  obtain ⟨n, hn⟩ : ∃ n : Nat, w.getD 0 0 = (n : Int) := ⟨(w.getD 0 0).toNat, by omega⟩
  have hnn : n ≤ h + 2 * p := by omega
  have hun : unN w = n := by unfold unN; rw [hn]; rfl
  have wn : IntKind.i64.wrap (n : Int) = (n : Int) := IntWalk.i64_in _ (by omega)
  rw [hn] at r0 hm
  simp -implicitDefEqProofs (maxSteps := 10000000) (disch := omega) only [TrU, LrU, GrU_ref04Fits, Vref04Fits_eq, GrU_rS, VrS_eq, GrU_ref10Words, GrU_ref16Most, Vref16Most_eq, GrU_rP, GrU_ref16Place, Vref16Place_eq, hB, hR, hI, e1, e2, e3, hll, hb, l0, nv, r0, wm, wn, hm, Nat.zero_mul, bt, bf, all1, ress, res1, retV, Value.cells, reduceIte, reduceCtorEq, Int.reduceLT, Int.reduceLE, Int.reduceToNat, Int.reduceAdd, Int.reduceSub, Int.reduceMul, Int.reduceNeg, Nat.reduceMul, Nat.reduceAdd, Nat.reduceSub, Nat.reduceBEq, Nat.reduceEqDiff, Nat.reduceLT, Nat.reduceLeDiff, Int.reduceBEq, Int.reduceEq, Nat.reducePow, Int.reducePow, Int.reduceGT, Int.reduceGE, Int.reduceBNe, newsV_s, ev1, ev2, ev3, ev4]
  generalize hX : exec B _ _ (LC.loop _) _ = o
  obtain ⟨x, ⟨ts, H1, N1⟩, ho, g2, fr2, hlc, hr⟩ := (show Ok o _ by rw [← hX]; exact looprU (c := N.n 0) (n := n) hT C hv hu hl hn hnn g1 f1 (hB 0) lk_top ⟨rfl, rfl, rfl, rfl, rfl⟩ (by omega))
  subst ho
  simp only at g2 fr2 hlc hr
  have lc := hlc.trans lk_top
  have b0 := hB 0
  have rb0 := fun o n => rdB_none (o := o) (n := n) b0
  rcases hr with ⟨rfl, hok, vo, so, kp⟩ | ⟨rfl, hbad, tl, t4, t5⟩
  · have hw2 := unL_s C hu hok
    obtain ⟨v3, H3, N3, e4, g3, r3, s3⟩ := rPack C g2 (so.rd w2_len) hw2
    by_cases hpe : packE p h (unL w n) = 0
    · rw [hpe] at e4
      rw [if_pos hpe] at s3
      have e5 := sameref10Words g3 (s3.rd w1_len) (hv.mono (fr2.trans r3)) (by rw [packW_len (packE_0 hpe).1]; omega)
      by_cases heq : packW p h (unL w n) = w
      · obtain ⟨u1, u2⟩ := un_ok (p := p) (h := h) (w := w) ⟨hl, by omega, by rw [hun]; exact hok, by rw [hun]; exact hpe, by rw [hun]; exact heq⟩
        rw [u1, u2, hun]
        rw [decide_eq_true heq] at e5
        simp -implicitDefEqProofs (maxSteps := 10000000) (disch := omega) only [TrU, LrU, GrU_ref04Fits, Vref04Fits_eq, GrU_rS, VrS_eq, GrU_ref10Words, GrU_ref16Most, Vref16Most_eq, GrU_rP, GrU_ref16Place, Vref16Place_eq, hB, hR, hI, kp.l, kp.t1, kp.t2, kp.t6, kp.t7, lc, b0, rb0, e4, e5, bne_self_eq_false, bt, bf, all1, ress, res1, retV, Value.cells, reduceIte, reduceCtorEq, Int.reduceLT, Int.reduceLE, Int.reduceToNat, Int.reduceAdd, Int.reduceSub, Int.reduceMul, Int.reduceNeg, Nat.reduceMul, Nat.reduceAdd, Nat.reduceSub, Nat.reduceBEq, Nat.reduceEqDiff, Nat.reduceLT, Nat.reduceLeDiff, Int.reduceBEq, Int.reduceEq, Nat.reducePow, Int.reducePow, Int.reduceGT, Int.reduceGE, Int.reduceBNe, newsV_s, ev1, ev2, ev3, ev4]
        exact ⟨_, _, _, rfl, g3, fr2.trans r3, (so.mono fun y c _ e => r3 y c e).low f1.dm⟩
      · obtain ⟨u1, u2⟩ := un_no (p := p) (h := h) (w := w) (fun h' => by have := h'.2.2.2.2; rw [hun] at this; exact heq this)
        rw [u1, u2]
        rw [decide_eq_false heq] at e5
        simp -implicitDefEqProofs (maxSteps := 10000000) (disch := omega) only [TrU, LrU, GrU_ref04Fits, Vref04Fits_eq, GrU_rS, VrS_eq, GrU_ref10Words, GrU_ref16Most, Vref16Most_eq, GrU_rP, GrU_ref16Place, Vref16Place_eq, hB, hR, hI, kp.l, kp.t1, kp.t2, kp.t6, kp.t7, lc, b0, rb0, e4, e5, bne_self_eq_false, bt, bf, all1, ress, res1, retV, Value.cells, reduceIte, reduceCtorEq, Int.reduceLT, Int.reduceLE, Int.reduceToNat, Int.reduceAdd, Int.reduceSub, Int.reduceMul, Int.reduceNeg, Nat.reduceMul, Nat.reduceAdd, Nat.reduceSub, Nat.reduceBEq, Nat.reduceEqDiff, Nat.reduceLT, Nat.reduceLeDiff, Int.reduceBEq, Int.reduceEq, Nat.reducePow, Int.reducePow, Int.reduceGT, Int.reduceGE, Int.reduceBNe, newsV_s, ev1, ev2, ev3, ev4]
        exact ⟨_, _, _, rfl, g3, fr2.trans r3, .inl ⟨rfl, rfl⟩⟩
    · obtain ⟨u1, u2⟩ := un_no (p := p) (h := h) (w := w) (fun h' => by have := h'.2.2.2.1; rw [hun] at this; exact hpe this)
      rw [u1, u2]
      have hb2 : (packE p h (unL w n) != 0) = true := by simpa using hpe
      simp -implicitDefEqProofs (maxSteps := 10000000) (disch := omega) only [TrU, LrU, GrU_ref04Fits, Vref04Fits_eq, GrU_rS, VrS_eq, GrU_ref10Words, GrU_ref16Most, Vref16Most_eq, GrU_rP, GrU_ref16Place, Vref16Place_eq, hB, hR, hI, kp.l, kp.t1, kp.t2, kp.t6, kp.t7, lc, b0, rb0, e4, hb2, bt, bf, all1, ress, res1, retV, Value.cells, reduceIte, reduceCtorEq, Int.reduceLT, Int.reduceLE, Int.reduceToNat, Int.reduceAdd, Int.reduceSub, Int.reduceMul, Int.reduceNeg, Nat.reduceMul, Nat.reduceAdd, Nat.reduceSub, Nat.reduceBEq, Nat.reduceEqDiff, Nat.reduceLT, Nat.reduceLeDiff, Int.reduceBEq, Int.reduceEq, Nat.reducePow, Int.reducePow, Int.reduceGT, Int.reduceGE, Int.reduceBNe, newsV_s, ev1, ev2, ev3, ev4]
      exact ⟨_, _, _, rfl, g3, fr2.trans r3, .inl ⟨rfl, rfl⟩⟩
  · obtain ⟨u1, u2⟩ := un_no (p := p) (h := h) (w := w) (fun h' => by have := h'.2.2.1; rw [hun] at this; exact hbad this)
    rw [u1, u2]
    simp -implicitDefEqProofs (maxSteps := 10000000) (disch := omega) only [TrU, LrU, GrU_ref04Fits, Vref04Fits_eq, GrU_rS, VrS_eq, GrU_ref10Words, GrU_ref16Most, Vref16Most_eq, GrU_rP, GrU_ref16Place, Vref16Place_eq, hB, hR, hI, tl, t4, t5, bt, bf, all1, ress, res1, retV, Value.cells, reduceIte, reduceCtorEq, Int.reduceLT, Int.reduceLE, Int.reduceToNat, Int.reduceAdd, Int.reduceSub, Int.reduceMul, Int.reduceNeg, Nat.reduceMul, Nat.reduceAdd, Nat.reduceSub, Nat.reduceBEq, Nat.reduceEqDiff, Nat.reduceLT, Nat.reduceLeDiff, Int.reduceBEq, Int.reduceEq, Nat.reducePow, Int.reducePow, Int.reduceGT, Int.reduceGE, Int.reduceBNe, newsV_s, ev1, ev2, ev3, ev4]
    exact ⟨_, _, _, rfl, g2, fr2, .inl ⟨rfl, rfl⟩⟩
theorem rUnpackn {B : OH} {H : HL} {N : St} {vw : Value} {k p c : Int} (hn : ¬ fitI k p c) (hN : good B H N) :
    ∃ v' H' N', VrU B [.agg #[.int .i64 k, .int .i64 p, .int .i64 c], vw] H N = some (.ret (.tuple #[v', .int .i64 5]), H', N') ∧ good B H' N' ∧ Fr H H' ∧ SlM w2 2 B H H' v' ([] : List W2) := by
  have hB := good_B hN
  have hR := good_rdB hN
  have hI := beqN hN.1.1
  have hG : ∃ H N, good B H N := ⟨H, N, hN⟩
  have e1 := rFitsn hG k p c hn
  unfold VrU
  simp -implicitDefEqProofs (maxSteps := 10000000) (disch := omega) only [TrU, LrU, GrU_ref04Fits, Vref04Fits_eq, GrU_rS, VrS_eq, GrU_ref10Words, GrU_ref16Most, Vref16Most_eq, GrU_rP, GrU_ref16Place, Vref16Place_eq, hB, hR, hI, e1, bt, bf, all1, ress, res1, retV, Value.cells, reduceIte, reduceCtorEq, Int.reduceLT, Int.reduceLE, Int.reduceToNat, Int.reduceAdd, Int.reduceSub, Int.reduceMul, Int.reduceNeg, Nat.reduceMul, Nat.reduceAdd, Nat.reduceSub, Nat.reduceBEq, Nat.reduceEqDiff, Nat.reduceLT, Nat.reduceLeDiff, Int.reduceBEq, Int.reduceEq, Nat.reducePow, Int.reducePow, Int.reduceGT, Int.reduceGE, Int.reduceBNe, newsV_s, ev1, ev2, ev3, ev4]
  exact ⟨_, _, _, rfl, good_new hN, fr_new hN Fr.refl 0, .inl ⟨rfl, rfl⟩⟩
end Go.Proofs.YtfhiplfagejfoaaDoor
