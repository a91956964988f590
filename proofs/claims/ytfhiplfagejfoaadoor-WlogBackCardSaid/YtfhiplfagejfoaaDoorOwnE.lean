/- Own text: the log of writes, part OwnE: contracts of the functions that the laws of the log call. -/
import Derived.Test.YtfhiplfagejfoaaDoorOwnD
set_option linter.unusedSimpArgs false
set_option linter.unusedVariables false
namespace Go.Proofs.YtfhiplfagejfoaaDoor
open Go.Proofs.YtfhiplfagejfoaaDoor.K Go.ChangeShapes Go.WideShapes Go.ChangeAt Go.RowKit 
set_option maxRecDepth 100000
set_option linter.unusedSimpArgs false
set_option linter.unusedVariables false
set_option maxHeartbeats 4000000 in
theorem fWipen {B : OH} {H : HL} {N : St} {vm : Value} {M : List C2} {k p c q : Int} (hn : ¬ fitI k p c) (hN : good B H N) (hv : SlW c2 2 B H vm M) (hM : M.length ≤ 800000) :
    ∃ v' H' N', VwlogWipe B [.agg #[.int .i64 k, .int .i64 p, .int .i64 c], .agg #[vm], .int .i64 q] H N = some (.ret (.tuple #[.agg #[v'], .int .i64 5]), H', N') ∧ good B H' N' ∧ Fr H H' ∧ SlM c2 2 B H H' v' ([] : List C2) := by
  have hB := good_B hN
  have hR := good_rdB hN
  have hI := beqN hN.1.1
  have hG : ∃ H N, good B H N := ⟨H, N, hN⟩
  have e1 := f13n hG k p c hn
  obtain ⟨am, cm, rfl, _⟩ := id hv
  obtain ⟨H0, hH0⟩ : ∃ H0, H0 = (N.n 3, KB.cells [.int .i64 0] 1) :: (N.n 2, .cells [.slice none 0 0] 1) :: (N.n 1, .cells [.slice am M.length cm] 1) :: (N.n 0, .cells [.int .i64 k, .int .i64 p, .int .i64 c] 3) :: H := ⟨_, rfl⟩
  have g0 : good B H0 (sh (sh (sh (sh N)))) := by rw [hH0]; exact good_new (good_new (good_new (good_new hN)))
  have f0 : Fr H H0 := by
    rw [hH0]
    have a1 := good_new (k := .cells [.int .i64 k, .int .i64 p, .int .i64 c] 3) hN
    have a2 := good_new (k := .cells [.slice am M.length cm] 1) a1
    have a3 := good_new (k := .cells [.slice none 0 0] 1) a2
    exact fr_new a3 (fr_new a2 (fr_new a1 (fr_new hN Fr.refl 0) 0) 0) 0
  have q2 : lk H0 (N.n 2) = some (.cells [.slice none 0 0] 1) := by rw [hH0]; simp only [lk_cons, hI]; rfl
  have q3 : lk H0 (N.n 3) = some (.cells [.int .i64 0] 1) := by rw [hH0]; simp only [lk_cons, hI]; rfl
  have q0 : lk H0 (N.n 0) = some (.cells [.int .i64 k, .int .i64 p, .int .i64 c] 3) := by rw [hH0]; simp only [lk_cons, hI]; rfl
  obtain ⟨v', H1, N1, ec, g1, r1, s1⟩ := clone g0 (hv.mono f0) (by omega)
  have q2' := r1 _ _ q2
  have q3' := r1 _ _ q3
  have q0' := r1 _ _ q0
  have b0 := hB 0
  have b2 := hB 2
  have b3 := hB 3
  have rb0 := fun o n => rdB_none (o := o) (n := n) b0
  have rb2 := fun o n => rdB_none (o := o) (n := n) b2
  have rb3 := fun o n => rdB_none (o := o) (n := n) b3
  have hB1 := good_B g1
  have hR1 := good_rdB g1
  have hI1 := beqN g1.1.1
  have m0 := ne_N g1 q0'
  have m0' := ne_N' g1 q0'
  have m2 := ne_N g1 q2'
  have m2' := ne_N' g1 q2'
  have m3 := ne_N g1 q3'
  have m3' := ne_N' g1 q3'
  obtain ⟨a1, c1, rfl, _⟩ := id (s1.rd c2_len)
  have n23 : (N.n 2 == N.n 3) = false := by rw [hI]; rfl
  have n32 : (N.n 3 == N.n 2) = false := by rw [hI]; rfl
  rw [hH0] at ec
  unfold VwlogWipe
  simp -implicitDefEqProofs (maxSteps := 10000000) (disch := omega) only [TwlogWipe, LwlogWipe, GwlogWipe_cellsStore, GwlogWipe_slicesClone_CellCell, GwlogWipe_wloglog, Vwloglog, Twloglog, Lwloglog, Gwloglog_10, V10_eq, Gwloglog_13, V13_eq, Gwloglog_7, V7_eq, Gwloglog_wlogwant, Vwlogwant, Twlogwant, Lwlogwant, DwlogWipe_wlogcaught, Uwlogcaught, Lwlogcaught, hB, hR, hI, itR2_wloglog1, List.cons_append, EwlogWipe, lenV_sl, Int.toNat_natCast, bft, btf, gtst, st_len, e1, ec, q0', q2', q3', b0, b2, b3, rb0, rb2, rb3, hB1, hR1, hI1, m0, m0', m2, m2', m3, m3', n23, n32, pad, lightV, bt, bf, evs, gt, st, binV, arith, isSh, storeV, all1, idxAV, fieldV, faddrV, iaddrSV, iaddrAV, pickV, convV, unV, eqbV, eqpV, extV, mm2, mmV, nilckV, ress, res1, retV, Value.cells, reduceIte, reduceCtorEq, Int.reduceLT, Int.reduceLE, Int.reduceToNat, Int.reduceAdd, Int.reduceSub, Int.reduceMul, Int.reduceNeg, Nat.reduceMul, Nat.reduceAdd, Nat.reduceSub, Nat.reduceBEq, Nat.reduceEqDiff, Nat.reduceLT, Nat.reduceLeDiff, Int.reduceBEq, Int.reduceEq, Nat.reducePow, Int.reducePow, IntWalk.i64_in, IntKind.bits, eqAV, eqL, leafEq, andO, fillV, buildSV, Int.reduceGT, Int.reduceGE, Int.reduceBNe, IntWalk.u64_in, newsV_s, tassV, isnV, slcV, slcAV, slcTV, slcB, appNew, Option.bind_some, Option.bind_none, eqsV, lookV, mupdV, mdelV, mkM, ev1, ev2]
  have z1 := good_up (k := .cells [.int .i64 5] 1) g1 b3 q3'
  have z2' := fr_up (k := .cells [.int .i64 5] 1) (f0.trans r1) (lk_N hN 3)
  have z3 : good B ((N1.n 0, .cells [.slice a1 M.length c1] 1) :: upH H1 (N.n 3) (.cells [.int .i64 5] 1)) (sh N1) := good_new z1
  refine ⟨_, _, _, rfl, ?_, ?_, .inl ⟨rfl, rfl⟩⟩
  · exact good_new (good_new (good_new (good_new z1)))
  · exact fr_new (good_new (good_new (good_new z1))) (fr_new (good_new (good_new z1)) (fr_new (good_new z1) (fr_new z1 z2' 0) 0) 0) 0
/-- The words of a log. -/
def wdsL (M : List C2) (A : Nat) : Nat → List Int
  | 0 => []
  | n + 1 => wdsL M A n ++ [(M.getD (A + n) z2).w]
theorem wdsL_len (M : List C2) (A : Nat) : ∀ n, (wdsL M A n).length = n
  | 0 => rfl
  | n + 1 => by simp [wdsL, wdsL_len M A n]
def C2s (M : List C2) : Prop := ∀ x ∈ M, u64R x.w ∧ i64R x.l
theorem C2s.at {K : List C2} (h : C2s K) (i : Nat) : u64R (K.getD i z2).w ∧ i64R (K.getD i z2).l := by
  rcases Nat.lt_or_ge i K.length with hi | hi
  · exact h _ (List.mem_of_getElem? (some_getD (d := z2) hi))
  · rw [List.getD_eq_getElem?_getD, List.getElem?_eq_none hi]
    unfold u64R i64R; simp [z2]
theorem wdsL_u {M : List C2} (h : C2s M) (A : Nat) : ∀ n, U64s (wdsL M A n)
  | 0 => fun x hx => by cases hx
  | n + 1 => fun x hx => by
    simp only [wdsL] at hx
    rcases List.mem_append.1 hx with h' | h'
    · exact wdsL_u h A n x h'
    · rw [List.mem_singleton.1 h']; exact (h.at _).1
/-- Writes that are done, one behind the other. -/
def lay (M : List C2) (l : List W2) : Nat → List C2
  | 0 => M
  | n + 1 => (lay M l n).set (l.getD n y2).a.toNat ⟨(l.getD n y2).w, 0⟩
theorem lay_len (M : List C2) (l : List W2) : ∀ n, (lay M l n).length = M.length
  | 0 => rfl
  | n + 1 => by simp [lay, lay_len M l n]
noncomputable def layE (p h : Nat) (q : Int) (M : List C2) : Int := if memOk p h q M then unE p h (wdsL M (lgA p h q) (LG p h)) else 1
open Classical in
noncomputable def layR (p h : Nat) (q : Int) (M : List C2) : List C2 := if memOk p h q M ∧ unOk p h (wdsL M (lgA p h q) (LG p h)) then lay M (unR p h (wdsL M (lgA p h q) (LG p h))) (unR p h (wdsL M (lgA p h q) (LG p h))).length else []
/-- whitewash/wlog.Lay -/
def LwlogLay : FnD := ⟨(.ops [⟨(some 3), .box (.tmp 0), none⟩, ⟨(some 4), .box (.tmp 1), none⟩, ⟨(some 6), .alloc [(.slice none 0 0)], none⟩, ⟨(some 7), .alloc [(.int .i64 0)], none⟩]), 43, [(.tmp 7)], (.seq (.ops [⟨(some 15), .faddr 0 (.tmp 4), none⟩, ⟨(some 16), .load false 1 (.tmp 15), none⟩, ⟨(some 17), .call (.func 50) [(.tmp 16)], none⟩, ⟨(some 18), .build [(.slice none 0 0)] [(0, 1, (.tmp 17))], none⟩, ⟨(some 8), .alloc [(.slice none 0 0)], none⟩, ⟨none, .store 1 (.tmp 8) (.tmp 18), none⟩])
 (.seq (.ops [⟨(some 9), .alloc [(.slice none 0 0)], none⟩])
 (.seq (.seq (.ops [⟨(some 19), .load true 3 (.tmp 3), none⟩, ⟨(some 20), .mv (.tmp 2), none⟩, ⟨(some 21), .call (.func 51) [(.tmp 19), (.tmp 8), (.tmp 20)], none⟩])
 (.block 0 (.range (.tmp 21) [22, 23] (.ops [⟨(some 11), .mv (.tmp 23), none⟩])
 (.block 1 (.ops [⟨(some 24), .load false 1 (.tmp 9), none⟩, ⟨(some 25), .mv (.tmp 11), none⟩, ⟨(some 26), .buildS [(.int .u64 0)] 1 [(0, 1, (.tmp 25))], none⟩, ⟨(some 27), .app [(.int .u64 0)] 8 (.tmp 24) (.tmp 26), none⟩, ⟨none, .store 1 (.tmp 9) (.tmp 27), none⟩])))))
 (.seq (.ops [⟨(some 29), .load true 3 (.tmp 3), none⟩, ⟨(some 30), .load false 1 (.tmp 9), none⟩, ⟨(some 31), .call (.func 18) [(.tmp 29), (.tmp 30)], none⟩, ⟨(some 28), .mv (.tmp 31), none⟩, ⟨(some 32), .ext (.tmp 28) 0, none⟩, ⟨(some 33), .ext (.tmp 28) 1, none⟩, ⟨(some 12), .mv (.tmp 32), none⟩, ⟨none, .store 1 (.tmp 7) (.tmp 33), none⟩])
 (.seq (.ops [⟨(some 34), .load false 1 (.tmp 7), none⟩, ⟨(some 35), .bin .eql (.tmp 34) (.const (.int .i64 0)), none⟩, ⟨(some 36), .call (.func 44) [(.tmp 35), (.const (.int .i64 2))], none⟩])
 (.seq (.seq (.ops [⟨(some 37), .mv (.tmp 12), none⟩, ⟨(some 38), .len false (.tmp 37), none⟩, ⟨(some 39), .mv (.const (.int .i64 0)), none⟩])
 (.block 2 (.loop (.seq (.ops [⟨(some 40), .bin .lss (.tmp 39) (.tmp 38), none⟩])
 (.seq (.cond (.tmp 40) .skip
 (.exit 2))
 (.seq (.block 3 (.seq (.ops [⟨(some 41), .iaddrS 2 (.tmp 37) (.tmp 39), none⟩, ⟨(some 42), .load true 2 (.tmp 41), none⟩, ⟨(some 14), .alloc [(.int .i64 0), (.int .u64 0)], none⟩, ⟨none, .store 2 (.tmp 14) (.tmp 42), none⟩])
 (.ops [⟨(some 43), .faddr 0 (.tmp 14), none⟩, ⟨(some 44), .load false 1 (.tmp 43), none⟩, ⟨(some 45), .faddr 1 (.tmp 14), none⟩, ⟨(some 46), .load false 1 (.tmp 45), none⟩, ⟨(some 47), .call (.func 52) [(.tmp 8), (.tmp 44), (.tmp 46)], none⟩])))
 (.ops [⟨(some 48), .bin .add (.tmp 39) (.const (.int .i64 1)), none⟩, ⟨(some 39), .mv (.tmp 48), none⟩])))))))
 (.seq (.ops [⟨(some 49), .load true 1 (.tmp 8), none⟩, ⟨none, .store 1 (.tmp 6) (.tmp 49), none⟩, ⟨none, .store 1 (.tmp 7) (.const (.int .i64 0)), none⟩])
 .ret))))))),
 50, [.cell 6 true 1, .cell 7 false 1]⟩
theorem lowwlogLay : lowerDfr Tryd.prog Tryd.f24 = some LwlogLay := by kernel_rfl
noncomputable def GwlogLay (B : OH) : Nat → Cs
  | 52 => VcellsStore B
  | 50 => VslicesClone_CellCell B
  | 18 => VwlogUnpack B
  | 51 => Vwloglog B
  | 44 => Vwlogwant B
  | _ => fun _ _ _ => none
theorem GwlogLay_cellsStore {B : OH} : GwlogLay B 52 = VcellsStore B := rfl
theorem GwlogLay_slicesClone_CellCell {B : OH} : GwlogLay B 50 = VslicesClone_CellCell B := rfl
theorem GwlogLay_wlogUnpack {B : OH} : GwlogLay B 18 = VwlogUnpack B := rfl
theorem GwlogLay_wloglog {B : OH} : GwlogLay B 51 = Vwloglog B := rfl
theorem GwlogLay_wlogwant {B : OH} : GwlogLay B 44 = Vwlogwant B := rfl
noncomputable abbrev EwlogLay (B : OH) : Env := { f := GwlogLay B, it := itR2 B }
theorem sGwlogLay {w0 : World} {B : OH} : SoundG Tryd.prog w0 B (EwlogLay B) :=
  ⟨fun k => by
    show (∀ args H N, GwlogLay B k args H N = none) ∨ _
    unfold GwlogLay
    split
    · exact .inr ⟨encellsStore, sVcellsStore⟩
    · exact .inr ⟨enslicesClone_CellCell, sVslicesClone_CellCell⟩
    · exact .inr ⟨enwlogUnpack, sVwlogUnpack⟩
    · exact .inr ⟨enwloglog, sVwloglog⟩
    · exact .inr ⟨enwlogwant, sVwlogwant⟩
    · exact .inl fun _ _ _ => rfl, fun _ => .inl fun _ _ _ => rfl, sitR2⟩
theorem enwlogLay : Enter Tryd.prog 24 := .of Tryd.func24 (by kernel_rfl) (by kernel_rfl)
noncomputable def DwlogLay (B : OH) : Nat → Ds
  | 43 => Uwlogcaught B
  | _ => fun _ _ _ _ => none
theorem DwlogLay_wlogcaught {B : OH} : DwlogLay B 43 = Uwlogcaught B := rfl
noncomputable def TwlogLay (B : OH) : Cs := callD B (EwlogLay B) (DwlogLay B) 1000000 LwlogLay
theorem sTwlogLay {w0 : World} {B : OH} : SoundC Tryd.prog w0 B 24 (TwlogLay B) := callD_sound mixedOrders sGwlogLay 1000000 Tryd.func24 lowwlogLay enwlogcaught sUwlogcaught
noncomputable def VwlogLay (B : OH) : Cs := TwlogLay B
theorem sVwlogLay {w0 : World} {B : OH} : SoundC Tryd.prog w0 B 24 (VwlogLay B) := sTwlogLay
set_option maxHeartbeats 4000000 in
theorem fLayn {B : OH} {H : HL} {N : St} {vm : Value} {M : List C2} {k p c q : Int} (hn : ¬ fitI k p c) (hN : good B H N) (hv : SlW c2 2 B H vm M) (hM : M.length ≤ 800000) :
    ∃ v' H' N', VwlogLay B [.agg #[.int .i64 k, .int .i64 p, .int .i64 c], .agg #[vm], .int .i64 q] H N = some (.ret (.tuple #[.agg #[v'], .int .i64 5]), H', N') ∧ good B H' N' ∧ Fr H H' ∧ SlM c2 2 B H H' v' ([] : List C2) := by
  have hB := good_B hN
  have hR := good_rdB hN
  have hI := beqN hN.1.1
  have hG : ∃ H N, good B H N := ⟨H, N, hN⟩
  have e1 := f13n hG k p c hn
  obtain ⟨am, cm, rfl, _⟩ := id hv
  obtain ⟨H0, hH0⟩ : ∃ H0, H0 = (N.n 3, KB.cells [.int .i64 0] 1) :: (N.n 2, .cells [.slice none 0 0] 1) :: (N.n 1, .cells [.slice am M.length cm] 1) :: (N.n 0, .cells [.int .i64 k, .int .i64 p, .int .i64 c] 3) :: H := ⟨_, rfl⟩
  have g0 : good B H0 (sh (sh (sh (sh N)))) := by rw [hH0]; exact good_new (good_new (good_new (good_new hN)))
  have f0 : Fr H H0 := by
    rw [hH0]
    have a1 := good_new (k := .cells [.int .i64 k, .int .i64 p, .int .i64 c] 3) hN
    have a2 := good_new (k := .cells [.slice am M.length cm] 1) a1
    have a3 := good_new (k := .cells [.slice none 0 0] 1) a2
    exact fr_new a3 (fr_new a2 (fr_new a1 (fr_new hN Fr.refl 0) 0) 0) 0
  have q2 : lk H0 (N.n 2) = some (.cells [.slice none 0 0] 1) := by rw [hH0]; simp only [lk_cons, hI]; rfl
  have q3 : lk H0 (N.n 3) = some (.cells [.int .i64 0] 1) := by rw [hH0]; simp only [lk_cons, hI]; rfl
  have q0 : lk H0 (N.n 0) = some (.cells [.int .i64 k, .int .i64 p, .int .i64 c] 3) := by rw [hH0]; simp only [lk_cons, hI]; rfl
  obtain ⟨v', H1, N1, ec, g1, r1, s1⟩ := clone g0 (hv.mono f0) (by omega)
  have q2' := r1 _ _ q2
  have q3' := r1 _ _ q3
  have q0' := r1 _ _ q0
  have b0 := hB 0
  have b2 := hB 2
  have b3 := hB 3
  have rb0 := fun o n => rdB_none (o := o) (n := n) b0
  have rb2 := fun o n => rdB_none (o := o) (n := n) b2
  have rb3 := fun o n => rdB_none (o := o) (n := n) b3
  have hB1 := good_B g1
  have hR1 := good_rdB g1
  have hI1 := beqN g1.1.1
  have m0 := ne_N g1 q0'
  have m0' := ne_N' g1 q0'
  have m2 := ne_N g1 q2'
  have m2' := ne_N' g1 q2'
  have m3 := ne_N g1 q3'
  have m3' := ne_N' g1 q3'
  obtain ⟨a1, c1, rfl, _⟩ := id (s1.rd c2_len)
  have n23 : (N.n 2 == N.n 3) = false := by rw [hI]; rfl
  have n32 : (N.n 3 == N.n 2) = false := by rw [hI]; rfl
  rw [hH0] at ec
  unfold VwlogLay
  simp -implicitDefEqProofs (maxSteps := 10000000) (disch := omega) only [TwlogLay, LwlogLay, GwlogLay_cellsStore, GwlogLay_slicesClone_CellCell, GwlogLay_wlogUnpack, GwlogLay_wloglog, Vwloglog, Twloglog, Lwloglog, Gwloglog_10, V10_eq, Gwloglog_13, V13_eq, Gwloglog_7, V7_eq, Gwloglog_wlogwant, Vwlogwant, Twlogwant, Lwlogwant, GwlogLay_wlogwant, DwlogLay_wlogcaught, Uwlogcaught, Lwlogcaught, hB, hR, hI, itR2_wloglog1, List.cons_append, EwlogLay, lenV_sl, Int.toNat_natCast, bft, btf, gtst, st_len, e1, ec, q0', q2', q3', b0, b2, b3, rb0, rb2, rb3, hB1, hR1, hI1, m0, m0', m2, m2', m3, m3', n23, n32, pad, lightV, bt, bf, evs, gt, st, binV, arith, isSh, storeV, all1, idxAV, fieldV, faddrV, iaddrSV, iaddrAV, pickV, convV, unV, eqbV, eqpV, extV, mm2, mmV, nilckV, ress, res1, retV, Value.cells, reduceIte, reduceCtorEq, Int.reduceLT, Int.reduceLE, Int.reduceToNat, Int.reduceAdd, Int.reduceSub, Int.reduceMul, Int.reduceNeg, Nat.reduceMul, Nat.reduceAdd, Nat.reduceSub, Nat.reduceBEq, Nat.reduceEqDiff, Nat.reduceLT, Nat.reduceLeDiff, Int.reduceBEq, Int.reduceEq, Nat.reducePow, Int.reducePow, IntWalk.i64_in, IntKind.bits, eqAV, eqL, leafEq, andO, fillV, buildSV, Int.reduceGT, Int.reduceGE, Int.reduceBNe, IntWalk.u64_in, newsV_s, tassV, isnV, slcV, slcAV, slcTV, slcB, appNew, Option.bind_some, Option.bind_none, eqsV, lookV, mupdV, mdelV, mkM, ev1, ev2]
  have z1 := good_up (k := .cells [.int .i64 5] 1) g1 b3 q3'
  have z2' := fr_up (k := .cells [.int .i64 5] 1) (f0.trans r1) (lk_N hN 3)
  have z3 : good B ((N1.n 0, .cells [.slice a1 M.length c1] 1) :: upH H1 (N.n 3) (.cells [.int .i64 5] 1)) (sh N1) := good_new z1
  refine ⟨_, _, _, rfl, ?_, ?_, .inl ⟨rfl, rfl⟩⟩
  · exact good_new (good_new (good_new (good_new (good_new z1))))
  · exact fr_new (good_new (good_new (good_new (good_new z1)))) (fr_new (good_new (good_new (good_new z1))) (fr_new (good_new (good_new z1)) (fr_new (good_new z1) (fr_new z1 z2' 0) 0) 0) 0) 0
structure KLy (o6 o7 ow : Nat) (vl : Value) (n i : Nat) (ts : List Value) : Prop where
  l : ts.length = 50
  t6 : gt ts 6 = .pointer (some ⟨o6, 0, none⟩)
  t7 : gt ts 7 = .pointer (some ⟨o7, 0, none⟩)
  t8 : gt ts 8 = .pointer (some ⟨ow, 0, none⟩)
  t37 : gt ts 37 = vl
  t38 : gt ts 38 = .int .i64 (n : Int)
  t39 : gt ts 39 = .int .i64 (i : Int)
def lbLy : LC := (.seq (.ops [⟨(some 40), .bin .lss (.tmp 39) (.tmp 38), none⟩])
 (.seq (.cond (.tmp 40) .skip
 (.exit 2))
 (.seq (.block 3 (.seq (.ops [⟨(some 41), .iaddrS 2 (.tmp 37) (.tmp 39), none⟩, ⟨(some 42), .load true 2 (.tmp 41), none⟩, ⟨(some 14), .alloc [(.int .i64 0), (.int .u64 0)], none⟩, ⟨none, .store 2 (.tmp 14) (.tmp 42), none⟩])
 (.ops [⟨(some 43), .faddr 0 (.tmp 14), none⟩, ⟨(some 44), .load false 1 (.tmp 43), none⟩, ⟨(some 45), .faddr 1 (.tmp 14), none⟩, ⟨(some 46), .load false 1 (.tmp 45), none⟩, ⟨(some 47), .call (.func 52) [(.tmp 8), (.tmp 44), (.tmp 46)], none⟩])))
 (.ops [⟨(some 48), .bin .add (.tmp 39) (.const (.int .i64 1)), none⟩, ⟨(some 39), .mv (.tmp 48), none⟩]))))
set_option maxHeartbeats 8000000 in
theorem loopLy {B : OH} {H0 Hx H : HL} {N : St} {v vl : Value} {M : List C2} {l : List W2} {o6 o7 ow b len cap : Nat} (hN : good B H N) (hv : v = .slice (some ⟨b, 0, none⟩) len cap) (sM : SlM c2 2 B H0 H v M) (hM : M.length ≤ 800000) (sl : SlM w2 2 B Hx H vl l) (hb : slB vl ≠ some b) (hlb : l.length ≤ 800000) (hin : ∀ i, i < l.length → 0 ≤ (l.getD i y2).a ∧ (l.getD i y2).a < (M.length : Int)) (lo : lk H ow = some (.cells [v] 1)) (bo : B ow = none) (how : ow ≠ b) {ts : List Value} (kp : KLy o6 o7 ow vl l.length 0 ts) {F : Nat} (hF : 100 + l.length + 1 ≤ F) :
    Ok (exec B (EwlogLay B) F (LC.loop lbLy) ⟨ts, H, N⟩) (fun x s => x = .exit 2 ∧ good B s.H s.N ∧ (∀ y c, y ≠ b → lk H y = some c → lk s.H y = some c) ∧ SlM c2 2 B H0 s.H v (lay M l l.length) ∧ KLy o6 o7 ow vl l.length l.length s.t) := by
  refine loop_rule (n0 := 100) (fun q s => ∃ ts H' N', ∃ i : Nat, s = ⟨ts, H', N'⟩ ∧ KLy o6 o7 ow vl l.length i ts ∧ good B H' N' ∧ (∀ y c, y ≠ b → lk H y = some c → lk H' y = some c) ∧ SlM c2 2 B H0 H' v (lay M l i) ∧ i ≤ l.length ∧ q = l.length - i) _ ?_ l.length _ ⟨ts, H, N, 0, rfl, kp, hN, fun _ _ _ e => e, sM, by omega, rfl⟩ _ hF
  clear kp hF F ts hN sM N
  rintro z q s ⟨ts, H1, N1, i, rfl, kp, g, fk, sM, hi, rfl⟩
  have hB := good_B g
  have hR := good_rdB g
  have hI := beqN g.1.1
  have hc1 : ((i + 1 : Nat) : Int) = (i : Int) + 1 := by omega
  by_cases hlt : i < l.length
  case neg =>
    obtain rfl : i = l.length := by omega
    simp -implicitDefEqProofs (maxSteps := 10000000) (disch := omega) only [TwlogLay, LwlogLay, GwlogLay_cellsStore, GwlogLay_slicesClone_CellCell, GwlogLay_wlogUnpack, GwlogLay_wloglog, Vwloglog, Twloglog, Lwloglog, Gwloglog_10, V10_eq, Gwloglog_13, V13_eq, Gwloglog_7, V7_eq, Gwloglog_wlogwant, Vwlogwant, Twlogwant, Lwlogwant, GwlogLay_wlogwant, DwlogLay_wlogcaught, Uwlogcaught, Lwlogcaught, hB, hR, hI, lbLy, kp.l, kp.t6, kp.t7, kp.t8, kp.t37, kp.t38, kp.t39, lenV_sl, Int.toNat_natCast, bft, btf, gtst, st_len, Int.lt_irrefl, pad, lightV, bt, bf, evs, gt, st, binV, arith, isSh, storeV, all1, idxAV, fieldV, faddrV, iaddrSV, iaddrAV, pickV, convV, unV, eqbV, eqpV, extV, mm2, mmV, nilckV, ress, res1, retV, Value.cells, reduceIte, reduceCtorEq, Int.reduceLT, Int.reduceLE, Int.reduceToNat, Int.reduceAdd, Int.reduceSub, Int.reduceMul, Int.reduceNeg, Nat.reduceMul, Nat.reduceAdd, Nat.reduceSub, Nat.reduceBEq, Nat.reduceEqDiff, Nat.reduceLT, Nat.reduceLeDiff, Int.reduceBEq, Int.reduceEq, Nat.reducePow, Int.reducePow, IntWalk.i64_in, IntKind.bits, eqAV, eqL, leafEq, andO, fillV, buildSV, Int.reduceGT, Int.reduceGE, Int.reduceBNe, IntWalk.u64_in, newsV_s, tassV, isnV, slcV, slcAV, slcTV, slcB, appNew, Option.bind_some, Option.bind_none, eqsV, lookV, mupdV, mdelV, mkM, ev1, ev2]
    refine ok_some (.inr ⟨by simp, rfl, g, fk, sM, ⟨?_, ?_, ?_, ?_, ?_, ?_, ?_⟩⟩)
    all_goals simp (maxSteps := 10000000) (disch := omega) only [kp.l, kp.t6, kp.t7, kp.t8, kp.t37, kp.t38, kp.t39, lenV_sl, Int.toNat_natCast, bft, btf, gtst, st_len, Nat.reduceAdd, Int.cast_ofNat_Int, cond_true, cond_false, Nat.reduceBEq, Nat.reduceLT, decide_true, beq_self_eq_true, if_true, if_false]
  have hlt' : (i : Int) < (l.length : Int) := by omega
  have i0 : (0 : Int) ≤ (i : Int) := by omega
  have sl1 : SlM w2 2 B Hx H1 vl l := sl.mono fun y c hy e => fk y c (fun h' => hb (by rw [← h']; exact hy)) e
  obtain ⟨bv, ov, cv, rfl, _, rv⟩ := (sl1.rd w2_len).at (by omega)
  have rv := SlR.read rv w2_len (Fr.refl (H := H1)) y2 hlt
  have ha := hin i hlt
  have hs : lay M l (i + 1) = (lay M l i).set (l.getD i y2).a.toNat ⟨(l.getD i y2).w, 0⟩ := rfl
  generalize l.getD i y2 = x at *
  obtain ⟨a, w⟩ := x
  simp only [w2] at rv ha hs
  obtain ⟨n, rfl⟩ : ∃ n : Nat, a = (n : Int) := ⟨a.toNat, by omega⟩
  rw [Int.toNat_natCast] at hs
  have g2 : good B ((N1.n 0, .cells [.int .i64 (n : Int), .int .u64 w] 2) :: H1) (sh N1) := good_new g
  have f2 : Fr H1 ((N1.n 0, .cells [.int .i64 (n : Int), .int .u64 w] 2) :: H1) := fr_new g Fr.refl 0
  obtain ⟨H3, N3, es, g3, s3, k3⟩ := store (m := ow) (i := n) (w := w) g2 (sM.mono fun y c _ e => f2 y c e) (f2 _ _ (fk _ _ how lo)) bo (by rw [hv]; simpa [slB] using how.symm) (by rw [lay_len]; omega) (by rw [lay_len]; omega)
  rw [← hs] at s3
  simp -implicitDefEqProofs (maxSteps := 10000000) (disch := omega) only [TwlogLay, LwlogLay, GwlogLay_cellsStore, GwlogLay_slicesClone_CellCell, GwlogLay_wlogUnpack, GwlogLay_wloglog, Vwloglog, Twloglog, Lwloglog, Gwloglog_10, V10_eq, Gwloglog_13, V13_eq, Gwloglog_7, V7_eq, Gwloglog_wlogwant, Vwlogwant, Twlogwant, Lwlogwant, GwlogLay_wlogwant, DwlogLay_wlogcaught, Uwlogcaught, Lwlogcaught, hB, hR, hI, lbLy, kp.l, kp.t6, kp.t7, kp.t8, kp.t37, kp.t38, kp.t39, lenV_sl, Int.toNat_natCast, bft, btf, gtst, st_len, hlt, hlt', i0, rv, es, pad, lightV, bt, bf, evs, gt, st, binV, arith, isSh, storeV, all1, idxAV, fieldV, faddrV, iaddrSV, iaddrAV, pickV, convV, unV, eqbV, eqpV, extV, mm2, mmV, nilckV, ress, res1, retV, Value.cells, reduceIte, reduceCtorEq, Int.reduceLT, Int.reduceLE, Int.reduceToNat, Int.reduceAdd, Int.reduceSub, Int.reduceMul, Int.reduceNeg, Nat.reduceMul, Nat.reduceAdd, Nat.reduceSub, Nat.reduceBEq, Nat.reduceEqDiff, Nat.reduceLT, Nat.reduceLeDiff, Int.reduceBEq, Int.reduceEq, Nat.reducePow, Int.reducePow, IntWalk.i64_in, IntKind.bits, eqAV, eqL, leafEq, andO, fillV, buildSV, Int.reduceGT, Int.reduceGE, Int.reduceBNe, IntWalk.u64_in, newsV_s, tassV, isnV, slcV, slcAV, slcTV, slcB, appNew, Option.bind_some, Option.bind_none, eqsV, lookV, mupdV, mdelV, mkM, ev1, ev2]
  refine ok_some (.inl ⟨rfl, l.length - (i + 1), by omega, _, H3, N3, i + 1, rfl, ⟨?_, ?_, ?_, ?_, ?_, ?_, ?_⟩, g3, fun y c h1 e => k3 y c (by rw [hv]; simpa [slB] using h1.symm) (f2 _ _ (fk y c h1 e)), s3, by omega, rfl⟩)
  all_goals simp (maxSteps := 10000000) (disch := omega) only [kp.l, kp.t6, kp.t7, kp.t8, kp.t37, kp.t38, kp.t39, lenV_sl, Int.toNat_natCast, bft, btf, gtst, st_len, hc1, Nat.reduceAdd, Int.cast_ofNat_Int, cond_true, cond_false, Nat.reduceBEq, Nat.reduceLT, decide_true, beq_self_eq_true, if_true, if_false]
end Go.Proofs.YtfhiplfagejfoaaDoor
namespace Go.Proofs.YtfhiplfagejfoaaDoor
open Go.Proofs.YtfhiplfagejfoaaDoor.K Go.ChangeShapes Go.WideShapes Go.ChangeAt Go.RowKit 
set_option maxRecDepth 100000
set_option linter.unusedSimpArgs false
set_option linter.unusedVariables false
set_option maxHeartbeats 16000000 in
theorem fLay {B : OH} {H : HL} {N : St} {vm : Value} {M : List C2} {kk p cc h : Nat} {q : Int} (hT : Tab B) (C : Cf kk p cc h) (hN : good B H N) (hv : SlW c2 2 B H vm M) (hM : M.length ≤ 800000) (hMs : C2s M) :
    ∃ v' H' N', VwlogLay B [.agg #[.int .i64 (kk : Int), .int .i64 (p : Int), .int .i64 (cc : Int)], .agg #[vm], .int .i64 q] H N = some (.ret (.tuple #[.agg #[v'], .int .i64 (layE p h q M)]), H', N') ∧ good B H' N' ∧ Fr H H' ∧ SlM c2 2 B H H' v' (layR p h q M) := by
  have hB := good_B hN
  have hR := good_rdB hN
  have hI := beqN hN.1.1
  have hG : ∃ H N, good B H N := ⟨H, N, hN⟩
  have e1 := f13 hG kk p cc (cfit C).1 (cfit C).2.1 (cfit C).2.2
  have e2 := f7c hG hT C
  have ne : ∀ i j, i ≠ j → N.n i ≠ N.n j := fun i j hij e => by
    have := hI i j
    rw [e] at this; simp at this; exact hij this
  obtain ⟨am, cm, rfl, _⟩ := id hv
  obtain ⟨H0, hH0⟩ : ∃ H0, H0 = (N.n 3, KB.cells [.int .i64 0] 1) :: (N.n 2, .cells [.slice none 0 0] 1) :: (N.n 1, .cells [.slice am M.length cm] 1) :: (N.n 0, .cells [.int .i64 (kk : Int), .int .i64 (p : Int), .int .i64 (cc : Int)] 3) :: H := ⟨_, rfl⟩
  have g0 : good B H0 (sh (sh (sh (sh N)))) := by rw [hH0]; exact good_new (good_new (good_new (good_new hN)))
  have f0 : Fr H H0 := by
    rw [hH0]
    have a1 := good_new (k := .cells [.int .i64 (kk : Int), .int .i64 (p : Int), .int .i64 (cc : Int)] 3) hN
    have a2 := good_new (k := .cells [.slice am M.length cm] 1) a1
    have a3 := good_new (k := .cells [.slice none 0 0] 1) a2
    exact fr_new a3 (fr_new a2 (fr_new a1 (fr_new hN Fr.refl 0) 0) 0) 0
  have q2 : lk H0 (N.n 2) = some (.cells [.slice none 0 0] 1) := by rw [hH0]; simp only [lk_cons, hI]; rfl
  have q3 : lk H0 (N.n 3) = some (.cells [.int .i64 0] 1) := by rw [hH0]; simp only [lk_cons, hI]; rfl
  have q0 : lk H0 (N.n 0) = some (.cells [.int .i64 (kk : Int), .int .i64 (p : Int), .int .i64 (cc : Int)] 3) := by rw [hH0]; simp only [lk_cons, hI]; rfl
  obtain ⟨v', H1, N1, ec, g1, r1, s1⟩ := clone g0 (hv.mono f0) (by omega)
  have q2' := r1 _ _ q2
  have q3' := r1 _ _ q3
  have q0' := r1 _ _ q0
  have b0 := hB 0
  have b2 := hB 2
  have b3 := hB 3
  have rb0 := fun o n => rdB_none (o := o) (n := n) b0
  have rb2 := fun o n => rdB_none (o := o) (n := n) b2
  have rb3 := fun o n => rdB_none (o := o) (n := n) b3
  have hB1 := good_B g1
  have hR1 := good_rdB g1
  have hI1 := beqN g1.1.1
  have m0 := ne_N g1 q0'
  have m0' := ne_N' g1 q0'
  have m2 := ne_N g1 q2'
  have m2' := ne_N' g1 q2'
  have m3 := ne_N g1 q3'
  have m3' := ne_N' g1 q3'
  have s1l := s1.len
  obtain ⟨a1, c1, rfl, _⟩ := id (s1.rd c2_len)
  have n23 : (N.n 2 == N.n 3) = false := by rw [hI]; rfl
  have n32 : (N.n 3 == N.n 2) = false := by rw [hI]; rfl
  rw [hH0] at ec
  unfold VwlogLay
  by_cases hok : memOk p h q M
  case neg =>
    have hE : layE p h q M = 1 := if_neg hok
    have hRR : layR p h q M = [] := if_neg (fun h' => hok h'.1)
    rw [hE, hRR]
    have z1 := good_up (k := .cells [.int .i64 1] 1) g1 b3 q3'
    have z2' := fr_up (k := .cells [.int .i64 1] 1) (f0.trans r1) (lk_N hN 3)
    by_cases hq : 0 ≤ q ∧ q < (p : Int)
    · have hl : ((M.length : Int) == ((bs p h 5 : Nat) : Int)) = false := beqI (fun e => hok ⟨hq, by omega⟩)
      obtain ⟨n, rfl⟩ : ∃ n : Nat, q = (n : Int) := ⟨q.toNat, by omega⟩
      have e3 := f10c3 hG hT C (q := n) (by omega)
      simp -implicitDefEqProofs (maxSteps := 10000000) (disch := omega) only [TwlogLay, LwlogLay, GwlogLay_cellsStore, GwlogLay_slicesClone_CellCell, GwlogLay_wlogUnpack, GwlogLay_wloglog, Vwloglog, Twloglog, Lwloglog, Gwloglog_10, V10_eq, Gwloglog_13, V13_eq, Gwloglog_7, V7_eq, Gwloglog_wlogwant, Vwlogwant, Twlogwant, Lwlogwant, GwlogLay_wlogwant, DwlogLay_wlogcaught, Uwlogcaught, Lwlogcaught, hB, hR, hI, itR2_wloglog1, List.cons_append, EwlogLay, lenV_sl, Int.toNat_natCast, bft, btf, gtst, st_len, e1, e2, e3, ec, q0', q2', q3', b0, b2, b3, rb0, rb2, rb3, hB1, hR1, hI1, m0, m0', m2, m2', m3, m3', n23, n32, hl, pad, lightV, bt, bf, evs, gt, st, binV, arith, isSh, storeV, all1, idxAV, fieldV, faddrV, iaddrSV, iaddrAV, pickV, convV, unV, eqbV, eqpV, extV, mm2, mmV, nilckV, ress, res1, retV, Value.cells, reduceIte, reduceCtorEq, Int.reduceLT, Int.reduceLE, Int.reduceToNat, Int.reduceAdd, Int.reduceSub, Int.reduceMul, Int.reduceNeg, Nat.reduceMul, Nat.reduceAdd, Nat.reduceSub, Nat.reduceBEq, Nat.reduceEqDiff, Nat.reduceLT, Nat.reduceLeDiff, Int.reduceBEq, Int.reduceEq, Nat.reducePow, Int.reducePow, IntWalk.i64_in, IntKind.bits, eqAV, eqL, leafEq, andO, fillV, buildSV, Int.reduceGT, Int.reduceGE, Int.reduceBNe, IntWalk.u64_in, newsV_s, tassV, isnV, slcV, slcAV, slcTV, slcB, appNew, Option.bind_some, Option.bind_none, eqsV, lookV, mupdV, mdelV, mkM, ev1, ev2]
      refine ⟨_, _, _, rfl, ?_, ?_, .inl ⟨rfl, rfl⟩⟩
      · exact good_new (good_new (good_new (good_new (good_new (good_new z1)))))
      · exact fr_new (good_new (good_new (good_new (good_new (good_new z1))))) (fr_new (good_new (good_new (good_new (good_new z1)))) (fr_new (good_new (good_new (good_new z1))) (fr_new (good_new (good_new z1)) (fr_new (good_new z1) (fr_new z1 z2' 0) 0) 0) 0) 0) 0
    · have e3 := f10o hG C q (by omega)
      have h10 : ((1 : Int) == 0) = false := rfl
      simp -implicitDefEqProofs (maxSteps := 10000000) (disch := omega) only [TwlogLay, LwlogLay, GwlogLay_cellsStore, GwlogLay_slicesClone_CellCell, GwlogLay_wlogUnpack, GwlogLay_wloglog, Vwloglog, Twloglog, Lwloglog, Gwloglog_10, V10_eq, Gwloglog_13, V13_eq, Gwloglog_7, V7_eq, Gwloglog_wlogwant, Vwlogwant, Twlogwant, Lwlogwant, GwlogLay_wlogwant, DwlogLay_wlogcaught, Uwlogcaught, Lwlogcaught, hB, hR, hI, itR2_wloglog1, List.cons_append, EwlogLay, lenV_sl, Int.toNat_natCast, bft, btf, gtst, st_len, e1, e2, e3, ec, q0', q2', q3', b0, b2, b3, rb0, rb2, rb3, hB1, hR1, hI1, m0, m0', m2, m2', m3, m3', n23, n32, h10, pad, lightV, bt, bf, evs, gt, st, binV, arith, isSh, storeV, all1, idxAV, fieldV, faddrV, iaddrSV, iaddrAV, pickV, convV, unV, eqbV, eqpV, extV, mm2, mmV, nilckV, ress, res1, retV, Value.cells, reduceIte, reduceCtorEq, Int.reduceLT, Int.reduceLE, Int.reduceToNat, Int.reduceAdd, Int.reduceSub, Int.reduceMul, Int.reduceNeg, Nat.reduceMul, Nat.reduceAdd, Nat.reduceSub, Nat.reduceBEq, Nat.reduceEqDiff, Nat.reduceLT, Nat.reduceLeDiff, Int.reduceBEq, Int.reduceEq, Nat.reducePow, Int.reducePow, IntWalk.i64_in, IntKind.bits, eqAV, eqL, leafEq, andO, fillV, buildSV, Int.reduceGT, Int.reduceGE, Int.reduceBNe, IntWalk.u64_in, newsV_s, tassV, isnV, slcV, slcAV, slcTV, slcB, appNew, Option.bind_some, Option.bind_none, eqsV, lookV, mupdV, mdelV, mkM, ev1, ev2]
      refine ⟨_, _, _, rfl, ?_, ?_, .inl ⟨rfl, rfl⟩⟩
      · exact good_new (good_new (good_new (good_new (good_new (good_new z1)))))
      · exact fr_new (good_new (good_new (good_new (good_new (good_new z1))))) (fr_new (good_new (good_new (good_new (good_new z1)))) (fr_new (good_new (good_new (good_new z1))) (fr_new (good_new (good_new z1)) (fr_new (good_new z1) (fr_new z1 z2' 0) 0) 0) 0) 0) 0
  have hE : layE p h q M = unE p h (wdsL M (lgA p h q) (LG p h)) := if_pos hok
  have hRy : unOk p h (wdsL M (lgA p h q) (LG p h)) → layR p h q M = lay M (unR p h (wdsL M (lgA p h q) (LG p h))) (unR p h (wdsL M (lgA p h q) (LG p h))).length := fun h' => if_pos ⟨hok, h'⟩
  have hRn : ¬ unOk p h (wdsL M (lgA p h q) (LG p h)) → layR p h q M = [] := fun h' => if_neg fun h2 => h' h2.2
  rw [hE]
  have hb := lgA_b C hok
  obtain ⟨n, rfl⟩ : ∃ n : Nat, q = (n : Int) := ⟨q.toNat, by have := hok.1; omega⟩
  have e3 := f10c3 hG hT C (q := n) (by have := hok.1; omega)
  have hlA : bs p h 3 + LG p h * n = lgA p h (n : Int) := rfl
  rw [hlA] at e3
  generalize lgA p h (n : Int) = A at *
  have hl : ((M.length : Int) == ((bs p h 5 : Nat) : Int)) = true := by rw [hok.2]; exact beq_self_eq_true _
  have hlb := LG_b C
  rcases s1 with ⟨h0, _⟩ | ⟨b, cap, rest, hve, bb, h0b, hle, hlk⟩
  · rw [h0] at hb; simp at hb; omega
  injection hve with hv1 hv2 hv3
  subst hv1 hv3
  simp -implicitDefEqProofs (maxSteps := 10000000) (disch := omega) only [TwlogLay, LwlogLay, GwlogLay_cellsStore, GwlogLay_slicesClone_CellCell, GwlogLay_wlogUnpack, GwlogLay_wloglog, Vwloglog, Twloglog, Lwloglog, Gwloglog_10, V10_eq, Gwloglog_13, V13_eq, Gwloglog_7, V7_eq, Gwloglog_wlogwant, Vwlogwant, Twlogwant, Lwlogwant, GwlogLay_wlogwant, DwlogLay_wlogcaught, Uwlogcaught, Lwlogcaught, hB, hR, hI, itR2_wloglog1, List.cons_append, EwlogLay, lenV_sl, Int.toNat_natCast, bft, btf, gtst, st_len, e1, e2, e3, ec, q0', q2', q3', b0, b2, b3, rb0, rb2, rb3, hB1, hR1, hI1, m0, m0', m2, m2', m3, m3', n23, n32, hl, pad, lightV, bt, bf, evs, gt, st, binV, arith, isSh, storeV, all1, idxAV, fieldV, faddrV, iaddrSV, iaddrAV, pickV, convV, unV, eqbV, eqpV, extV, mm2, mmV, nilckV, ress, res1, retV, Value.cells, reduceIte, reduceCtorEq, Int.reduceLT, Int.reduceLE, Int.reduceToNat, Int.reduceAdd, Int.reduceSub, Int.reduceMul, Int.reduceNeg, Nat.reduceMul, Nat.reduceAdd, Nat.reduceSub, Nat.reduceBEq, Nat.reduceEqDiff, Nat.reduceLT, Nat.reduceLeDiff, Int.reduceBEq, Int.reduceEq, Nat.reducePow, Int.reducePow, IntWalk.i64_in, IntKind.bits, eqAV, eqL, leafEq, andO, fillV, buildSV, Int.reduceGT, Int.reduceGE, Int.reduceBNe, IntWalk.u64_in, newsV_s, tassV, isnV, slcV, slcAV, slcTV, slcB, appNew, Option.bind_some, Option.bind_none, eqsV, lookV, mupdV, mdelV, mkM, ev1, ev2]
  generalize hX : Iwloglog1 B _ _ _ _ = o
  obtain ⟨HH, hHH⟩ : ∃ HH, HH = (N1.n 6, KB.loop (N1.r 6) .ready) :: (N1.n 5, .dfr) :: (N1.n 4, .cells [.int .i64 (A : Int)] 1) :: (N1.n 3, .cells [.pointer (some ⟨N1.n 0, 0, none⟩)] 1) :: (N1.n 2, .cells [.int .i64 (kk : Int), .int .i64 (p : Int), .int .i64 (cc : Int)] 3) :: (N1.n 1, .cells [.slice none 0 0] 1) :: (N1.n 0, .cells [.slice (some ⟨b, 0, none⟩) M.length c1] 1) :: H1 := ⟨_, rfl⟩
  have a1 := good_new (k := .cells [.slice (some ⟨b, 0, none⟩) M.length c1] 1) g1
  have a2 := good_new (k := .cells [.slice none 0 0] 1) a1
  have a3 := good_new (k := .cells [.int .i64 (kk : Int), .int .i64 (p : Int), .int .i64 (cc : Int)] 3) a2
  have a4 := good_new (k := .cells [.pointer (some ⟨N1.n 0, 0, none⟩)] 1) a3
  have a5 := good_new (k := .cells [.int .i64 (A : Int)] 1) a4
  have a6 := good_new (k := .dfr) a5
  have gH : good B HH (sh (sh (sh (sh (sh (sh (sh N1))))))) := by rw [hHH]; exact good_new a6
  have fH : Fr H1 HH := by rw [hHH]; exact fr_new a6 (fr_new a5 (fr_new a4 (fr_new a3 (fr_new a2 (fr_new a1 (fr_new g1 Fr.refl 0) 0) 0) 0) 0) 0) 0
  have p0 : lk HH (N1.n 0) = some (.cells [.slice (some ⟨b, 0, none⟩) M.length c1] 1) := by rw [hHH]; simp only [lk_cons, hI1]; rfl
  have p1 : lk HH (N1.n 1) = some (.cells [.slice none 0 0] 1) := by rw [hHH]; simp only [lk_cons, hI1]; rfl
  have p2 : lk HH (N1.n 2) = some (.cells [.int .i64 (kk : Int), .int .i64 (p : Int), .int .i64 (cc : Int)] 3) := by rw [hHH]; simp only [lk_cons, hI1]; rfl
  have p3 : lk HH (N1.n 3) = some (.cells [.pointer (some ⟨N1.n 0, 0, none⟩)] 1) := by rw [hHH]; simp only [lk_cons, hI1]; rfl
  have p4 : lk HH (N1.n 4) = some (.cells [.int .i64 (A : Int)] 1) := by rw [hHH]; simp only [lk_cons, hI1]; rfl
  have p6 : lk HH (N1.n 6) = some (.loop (N1.r 6) .ready) := by rw [hHH]; simp only [lk_cons, hI1]; rfl
  have nb1 := ne_N g1 hlk
  have nbi : ∀ i, N1.n i ≠ b := fun i e => by have := nb1 i; rw [e] at this; simp at this
  have ni : ∀ i j, i ≠ j → N1.n i ≠ N1.n j := fun i j hij e => by
    have := hI1 i j
    rw [e] at this; simp at this; exact hij this
  have hlkH : lk HH b = some (.cells (fl c2 M ++ rest) (c1 * 2)) := fH _ _ hlk
  have hO : ∃ H' N', o = some (.ret (.tuple #[]), H', N') ∧ good B H' N' ∧ (lk H' (N1.n 6) = some (.loop (N1.r 6) .ready) ∧ (∀ y c, y ≠ N1.n 6 → y ≠ N1.n 1 → lk HH y = some c → lk H' y = some c) ∧ ∃ vO, lk H' (N1.n 1) = some (.cells [vO] 1) ∧ SlM w1 1 B HH H' vO (wdsL M A (LG p h))) := by
    rw [← hX, ← hHH]
    refine itLog (J := fun k H' => lk H' (N1.n 6) = some (.loop (N1.r 6) .ready) ∧ (∀ y c, y ≠ N1.n 6 → y ≠ N1.n 1 → lk HH y = some c → lk H' y = some c) ∧ ∃ vO, lk H' (N1.n 1) = some (.cells [vO] 1) ∧ SlM w1 1 B HH H' vO (wdsL M A k)) (kk := kk) (cc := cc) (f := A) (l := N1.n 6) (fb := N1.n 4) (cb := N1.n 2) (mb := N1.n 3) (b := b) (mm := N1.n 0) (len := M.length) (cap := c1) (wd := fun k => (M.getD (A + k) z2).w) hT C ?_ ?_ (hB1 4) (hB1 2) (hB1 3) (hB1 0) (by omega) (by omega) gH ⟨p6, fun _ _ _ _ e => e, _, p1, .inl ⟨rfl, rfl⟩⟩
    · rintro k H2 N2 hk ⟨j6, jp, vO, j1, js⟩ g2
      have hBo := hB1
      have hB := good_B g2
      have hR := good_rdB g2
      have hI := beqN g2.1.1
      have b6 := hBo 6
      have b1 := hBo 1
      have rb1 := fun o n => rdB_none (o := o) (n := n) b1
      have x6 := ne_N g2 j6
      have x6' := ne_N' g2 j6
      have x1 := ne_N g2 j1
      have x1' := ne_N' g2 j1
      have x16 : (N1.n 1 == N1.n 6) = false := by rw [hI1]; rfl
      have x61 : (N1.n 6 == N1.n 1) = false := by rw [hI1]; rfl
      have gb := good_set (k := .loop (N1.r 6) .busy) g2 b6 j6
      have jn := fun y c (e : lk HH y = some c) => js.ne e
      have fb6 : Fr HH HH := Fr.refl
      have jsb : SlM w1 1 B HH ((N1.n 6, .loop (N1.r 6) .busy) :: H2) vO (wdsL M A k) := js.mono fun y c hy e => by
        rw [lk_cons, eqb (fun h' => jn _ _ p6 (by rw [← h']; exact hy)), cond_false]; exact e
      have hDm : Dm HH ((N1.n 6, .loop (N1.r 6) .busy) :: H2) := fun y e => by
        cases hy : lk HH y with
        | none => rfl
        | some c =>
          by_cases h6 : y = N1.n 6
          · rw [h6, lk_top] at e; cases e
          · rw [lk_cons, eqb h6, cond_false] at e
            by_cases h1 : y = N1.n 1
            · rw [h1, j1] at e; cases e
            · rw [jp y c h6 h1 hy] at e; cases e
      have hwl := wdsL_len M A k
      have g3 : good B (((sh N2).n 0, .cells [.int .u64 (M.getD (A + k) z2).w] 1) :: (N1.n 6, .loop (N1.r 6) .busy) :: H2) (sh (sh N2)) := good_new (good_sh gb)
      have g3' : good B ((N2.n 0, .cells [.int .u64 (M.getD (A + k) z2).w] 1) :: (N1.n 6, .loop (N1.r 6) .busy) :: H2) (sh N2) := good_new gb
      have fn : Fr ((N1.n 6, .loop (N1.r 6) .busy) :: H2) ((N2.n 0, .cells [.int .u64 (M.getD (A + k) z2).w] 1) :: (N1.n 6, .loop (N1.r 6) .busy) :: H2) := fr_new gb Fr.refl 0
      obtain ⟨v3, H3, N3, ea, g4, d4, k4, s4, hb4⟩ := app_specM (H0 := HH) (bytes := 8) w1_len g3' (hDm.trans fn.dm) (jsb.mono fun y c _ e => fn y c e) (M.getD (A + k) z2).w rfl (by omega) (by omega)
      simp only [w1] at ea
      have jb1 : lk ((N1.n 6, .loop (N1.r 6) .busy) :: H2) (N1.n 1) = some (.cells [vO] 1) := by rw [lk_cons, x16, cond_false]; exact j1
      have l6 := k4 _ _ (jn _ _ p6) (fn _ _ (lk_top (x := N1.n 6) (k := .loop (N1.r 6) .busy) (H := H2)))
      have l1 := k4 _ _ (jn _ _ p1) (fn _ _ jb1)
      have s5 := s4.toM
      have hvc : vO.cells = #[vO] := by obtain ⟨a, c, rfl, _⟩ := js.rd w1_len; rfl
      obtain ⟨av, cv, rfl, _⟩ := id (s4.rd w1_len)
      have hwd : wdsL M A k ++ [(M.getD (A + k) z2).w] = wdsL M A (k + 1) := rfl
      simp -implicitDefEqProofs (maxSteps := 10000000) (disch := omega) only [TwlogLay, LwlogLay, GwlogLay_cellsStore, GwlogLay_slicesClone_CellCell, GwlogLay_wlogUnpack, GwlogLay_wloglog, Vwloglog, Twloglog, Lwloglog, Gwloglog_10, V10_eq, Gwloglog_13, V13_eq, Gwloglog_7, V7_eq, Gwloglog_wlogwant, Vwlogwant, Twlogwant, Lwlogwant, GwlogLay_wlogwant, DwlogLay_wlogcaught, Uwlogcaught, Lwlogcaught, hB, hR, hI, itR2_wloglog1, List.cons_append, EwlogLay, lenV_sl, Int.toNat_natCast, bft, btf, gtst, st_len, j6, j1, b6, b1, rb1, x6, x6', x1, x1', x16, x61, ea, l6, l1, hvc, pad, lightV, bt, bf, evs, gt, st, binV, arith, isSh, storeV, all1, idxAV, fieldV, faddrV, iaddrSV, iaddrAV, pickV, convV, unV, eqbV, eqpV, extV, mm2, mmV, nilckV, ress, res1, retV, Value.cells, reduceIte, reduceCtorEq, Int.reduceLT, Int.reduceLE, Int.reduceToNat, Int.reduceAdd, Int.reduceSub, Int.reduceMul, Int.reduceNeg, Nat.reduceMul, Nat.reduceAdd, Nat.reduceSub, Nat.reduceBEq, Nat.reduceEqDiff, Nat.reduceLT, Nat.reduceLeDiff, Int.reduceBEq, Int.reduceEq, Nat.reducePow, Int.reducePow, IntWalk.i64_in, IntKind.bits, eqAV, eqL, leafEq, andO, fillV, buildSV, Int.reduceGT, Int.reduceGE, Int.reduceBNe, IntWalk.u64_in, newsV_s, tassV, isnV, slcV, slcAV, slcTV, slcB, appNew, Option.bind_some, Option.bind_none, eqsV, lookV, mupdV, mdelV, mkM, ev1, ev2]
      have nv : ∀ y c, lk HH y = some c → slB (.slice av (wdsL M A k ++ [(M.getD (A + k) z2).w]).length cv) ≠ some y := fun y c e => s5.ne e
      refine ⟨_, _, rfl, good_set (k' := .loop (N1.r 6) .busy) (good_up g4 b1 l1) b6 (by rw [lk_upH, x61, cond_false]; exact l6), lk_top, fun y c h6 h1 e => ?_, .slice av (wdsL M A k ++ [(M.getD (A + k) z2).w]).length cv, ?_, ?_⟩
      · have y6 : (y == N1.n 6) = false := eqb h6
        have y1 : (y == N1.n 1) = false := eqb h1
        rw [lk_cons, y6, cond_false, lk_upH, y1, cond_false]
        exact k4 y c (jn _ _ e) (fn _ _ (by rw [lk_cons, y6, cond_false]; exact jp y c h6 h1 e))
      · rw [lk_cons, x16, cond_false, lk_upH, beq_self_eq_true, cond_true]
      · rw [← hwd]
        refine SlM.mono s5 fun y c hy e => ?_
        rw [lk_cons, eqb (fun h' => nv _ _ p6 (by rw [← h']; exact hy)), cond_false, lk_upH, eqb (fun h' => nv _ _ p1 (by rw [← h']; exact hy)), cond_false]
        exact e
    · rintro k H2 hk ⟨j6, jp, vO, j1, js⟩
      refine ⟨jp _ _ (ni 4 6 (by decide)) (ni 4 1 (by decide)) p4, jp _ _ (ni 2 6 (by decide)) (ni 2 1 (by decide)) p2, jp _ _ (ni 3 6 (by decide)) (ni 3 1 (by decide)) p3, jp _ _ (ni 0 6 (by decide)) (ni 0 1 (by decide)) p0, fun hk2 => ?_⟩
      have hlk2 := jp _ _ (nbi 6).symm (nbi 1).symm hlkH
      rw [rdB_none bb, rdO_none, bb, rdN_none, hlk2, rdL_some, k_cells]
      have := fl_read c2_len M rest (A + k) 0 1 z2 (by omega) (by omega)
      rw [Nat.add_zero] at this
      rw [this]; rfl
  obtain ⟨H2, N2, rfl, g2, j6, jp, vO, j1, js⟩ := hO
  have e2b : N.n 2 ≠ b := fun e => by rw [← e, q2] at h0b; cases h0b
  have e3b : N.n 3 ≠ b := fun e => by rw [← e, q3] at h0b; cases h0b
  have e0b : N.n 0 ≠ b := fun e => by rw [← e, q0] at h0b; cases h0b
  have en2 : ∀ i, N.n 2 ≠ N1.n i := fun i e => by have := m2 i; rw [e] at this; simp at this
  have en3 : ∀ i, N.n 3 ≠ N1.n i := fun i e => by have := m3 i; rw [e] at this; simp at this
  have en0 : ∀ i, N.n 0 ≠ N1.n i := fun i e => by have := m0 i; rw [e] at this; simp at this
  have b16 := hB1 6
  have gp := good_set (k := .loop (N1.r 6) .over) g2 b16 j6
  -- what lies where, behind the range
  have hp : ∀ y c, y ≠ N1.n 6 → y ≠ N1.n 1 → lk HH y = some c → lk ((N1.n 6, .loop (N1.r 6) .over) :: H2) y = some c := fun y c h6 h1 e => by
    rw [lk_cons, eqb h6, cond_false]; exact jp y c h6 h1 e
  have wq2 := hp _ _ (en2 6) (en2 1) (fH _ _ q2')
  have wq3 := hp _ _ (en3 6) (en3 1) (fH _ _ q3')
  have wc := hp _ _ (en0 6) (en0 1) (fH _ _ q0')
  have wq0 := hp _ _ (ni 0 6 (by decide)) (ni 0 1 (by decide)) p0
  have wb := hp _ _ (nbi 6).symm (nbi 1).symm hlkH
  have jsp : SlM w1 1 B HH ((N1.n 6, .loop (N1.r 6) .over) :: H2) vO (wdsL M A (LG p h)) := js.mono fun y c hy e => by
    rw [lk_cons, eqb (fun h' => js.ne p6 (by rw [← h']; exact hy)), cond_false]; exact e
  obtain ⟨v4, H4, N4, e4, g4, r4, s4⟩ := fUnpack hT C gp (jsp.rd w1_len) (wdsL_u hMs A _) (by rw [wdsL_len]; omega)
  have x16 : (N1.n 1 == N1.n 6) = false := by rw [hI1]; rfl
  have b11 := hB1 1
  have rb11 := fun o n => rdB_none (o := o) (n := n) b11
  have b10 := hB1 0
  have rb10 := fun o n => rdB_none (o := o) (n := n) b10
  have u2 := r4 _ _ wq2
  have u3 := r4 _ _ wq3
  have u0 := r4 _ _ wq0
  have ub := r4 _ _ wb
  have y06 : (N.n 0 == N1.n 6) = false := eqb (en0 6)
  have wc2 := jp _ _ (en0 6) (en0 1) (fH _ _ q0')
  have hvc : vO.cells = #[vO] := by obtain ⟨a, c, rfl, _⟩ := jsp.rd w1_len; rfl
  have k4 := ne_N g4 u3
  have k4' := ne_N' g4 u3
  have k42 := ne_N g4 u2
  have n03 : (N1.n 0 == N.n 3) = false := eqb (en3 0).symm
  have f4 : Fr H H4 := fun y c e => by
    have e0 := f0 _ _ e
    have e1 := r1 _ _ e0
    have h6 : y ≠ N1.n 6 := fun h => by have := ne_N g1 e1 6; rw [h] at this; simp at this
    have h1 : y ≠ N1.n 1 := fun h => by have := ne_N g1 e1 1; rw [h] at this; simp at this
    exact r4 _ _ (hp y c h6 h1 (fH _ _ e1))
  have gE := fun k => good_up (k := k) g4 b3 u3
  have fE := fun k => fr_up (k := k) f4 (lk_N hN 3)
  have b4 := good_B g4
  have R4 := good_rdB g4
  by_cases hu : unOk p h (wdsL M A (LG p h))
  case neg =>
    obtain ⟨t1, t2⟩ := un_no hu
    rw [hRn hu, t2]
    rw [t2] at e4
    simp -implicitDefEqProofs (maxSteps := 10000000) (disch := omega) only [TwlogLay, LwlogLay, GwlogLay_cellsStore, GwlogLay_slicesClone_CellCell, GwlogLay_wlogUnpack, GwlogLay_wloglog, Vwloglog, Twloglog, Lwloglog, Gwloglog_10, V10_eq, Gwloglog_13, V13_eq, Gwloglog_7, V7_eq, Gwloglog_wlogwant, Vwlogwant, Twlogwant, Lwlogwant, GwlogLay_wlogwant, DwlogLay_wlogcaught, Uwlogcaught, Lwlogcaught, hB, hR, hI, itR2_wloglog1, List.cons_append, EwlogLay, lenV_sl, Int.toNat_natCast, bft, btf, gtst, st_len, j6, j1, b16, x16, b11, rb11, hvc, y06, wc2, b0, rb0, e4, u2, u3, b2, b3, rb2, rb3, k4, k4', k42, n23, n32, b4, R4, pad, lightV, bt, bf, evs, gt, st, binV, arith, isSh, storeV, all1, idxAV, fieldV, faddrV, iaddrSV, iaddrAV, pickV, convV, unV, eqbV, eqpV, extV, mm2, mmV, nilckV, ress, res1, retV, Value.cells, reduceIte, reduceCtorEq, Int.reduceLT, Int.reduceLE, Int.reduceToNat, Int.reduceAdd, Int.reduceSub, Int.reduceMul, Int.reduceNeg, Nat.reduceMul, Nat.reduceAdd, Nat.reduceSub, Nat.reduceBEq, Nat.reduceEqDiff, Nat.reduceLT, Nat.reduceLeDiff, Int.reduceBEq, Int.reduceEq, Nat.reducePow, Int.reducePow, IntWalk.i64_in, IntKind.bits, eqAV, eqL, leafEq, andO, fillV, buildSV, Int.reduceGT, Int.reduceGE, Int.reduceBNe, IntWalk.u64_in, newsV_s, tassV, isnV, slcV, slcAV, slcTV, slcB, appNew, Option.bind_some, Option.bind_none, eqsV, lookV, mupdV, mdelV, mkM, ev1, ev2]
    refine ⟨_, _, _, rfl, ?_, ?_, .inl ⟨rfl, rfl⟩⟩
    · exact good_new (k := .cells [.int .i64 2] 1) (good_up (k := .cells [.int .i64 2] 1) (gE (.cells [.int .i64 2] 1)) b3 (by rw [lk_upH, beq_self_eq_true, cond_true]))
    · exact fr_new (k := .cells [.int .i64 2] 1) (good_up (k := .cells [.int .i64 2] 1) (gE (.cells [.int .i64 2] 1)) b3 (by rw [lk_upH, beq_self_eq_true, cond_true])) (fr_up (fE (.cells [.int .i64 2] 1)) (lk_N hN 3)) 0
  obtain ⟨t1, t2⟩ := un_ok hu
  rw [hRy hu, t2]
  rw [t2] at e4
  have hin : ∀ i, i < (unR p h (wdsL M A (LG p h))).length → 0 ≤ ((unR p h (wdsL M A (LG p h))).getD i y2).a ∧ ((unR p h (wdsL M A (LG p h))).getD i y2).a < (M.length : Int) := fun i hi => by
    rw [t1] at hi ⊢
    rw [unL_len] at hi
    rw [unL_at _ _ _ hi]
    have := okP_b C (hu.2.2.1 i hi)
    have h5 := hok.2
    simp only; omega
  have hll : (unR p h (wdsL M A (LG p h))).length ≤ 800000 := by
    rw [t1, unL_len]
    have h1 := hu.2.1
    have h2 := C.h
    have h3 := C.p
    unfold unN; omega
  generalize unR p h (wdsL M A (LG p h)) = l at *
  have sl := s4.len
  have hbl : slB v4 ≠ some b := s4.ne wb
  have g5 := gE (.cells [.int .i64 0] 1)
  have sM : SlM c2 2 B H (upH H4 (N.n 3) (.cells [.int .i64 0] 1)) (.slice (some ⟨b, 0, none⟩) M.length c1) M := .inr ⟨b, c1, rest, rfl, bb, f0.dm _ h0b, hle, by rw [lk_upH, eqb e3b.symm, cond_false]; exact ub⟩
  have s5 : SlM w2 2 B ((N1.n 6, .loop (N1.r 6) .over) :: H2) (upH H4 (N.n 3) (.cells [.int .i64 0] 1)) v4 l := s4.mono fun y c hy e => by
    rw [lk_upH, eqb (fun h' => s4.ne wq3 (by rw [← h']; exact hy)), cond_false]; exact e
  simp -implicitDefEqProofs (maxSteps := 10000000) (disch := omega) only [TwlogLay, LwlogLay, GwlogLay_cellsStore, GwlogLay_slicesClone_CellCell, GwlogLay_wlogUnpack, GwlogLay_wloglog, Vwloglog, Twloglog, Lwloglog, Gwloglog_10, V10_eq, Gwloglog_13, V13_eq, Gwloglog_7, V7_eq, Gwloglog_wlogwant, Vwlogwant, Twlogwant, Lwlogwant, GwlogLay_wlogwant, DwlogLay_wlogcaught, Uwlogcaught, Lwlogcaught, hB, hR, hI, itR2_wloglog1, List.cons_append, EwlogLay, lenV_sl, Int.toNat_natCast, bft, btf, gtst, st_len, j6, j1, b16, x16, b11, rb11, hvc, y06, wc2, b0, rb0, e4, u2, u3, b2, b3, rb2, rb3, k4, k4', k42, n23, n32, b4, R4, sl, pad, lightV, bt, bf, evs, gt, st, binV, arith, isSh, storeV, all1, idxAV, fieldV, faddrV, iaddrSV, iaddrAV, pickV, convV, unV, eqbV, eqpV, extV, mm2, mmV, nilckV, ress, res1, retV, Value.cells, reduceIte, reduceCtorEq, Int.reduceLT, Int.reduceLE, Int.reduceToNat, Int.reduceAdd, Int.reduceSub, Int.reduceMul, Int.reduceNeg, Nat.reduceMul, Nat.reduceAdd, Nat.reduceSub, Nat.reduceBEq, Nat.reduceEqDiff, Nat.reduceLT, Nat.reduceLeDiff, Int.reduceBEq, Int.reduceEq, Nat.reducePow, Int.reducePow, IntWalk.i64_in, IntKind.bits, eqAV, eqL, leafEq, andO, fillV, buildSV, Int.reduceGT, Int.reduceGE, Int.reduceBNe, IntWalk.u64_in, newsV_s, tassV, isnV, slcV, slcAV, slcTV, slcB, appNew, Option.bind_some, Option.bind_none, eqsV, lookV, mupdV, mdelV, mkM, ev1, ev2]
  clear hX
  generalize hX : exec B _ _ (LC.loop _) _ = o
  obtain ⟨x, ⟨ts6, H6, N6⟩, ho, rfl, g6, k6, s6, kp⟩ := (show Ok o _ by rw [← hX]; exact loopLy (o6 := N.n 2) (o7 := N.n 3) (ow := N1.n 0) g5 rfl sM hM s5 hbl hll hin (by rw [lk_upH, n03, cond_false]; exact u0) (hB1 0) (nbi 0) ⟨rfl, rfl, rfl, rfl, rfl, rfl, rfl⟩ (by omega))
  subst ho
  simp only at g6 k6 s6 kp
  have v0 := k6 _ _ (nbi 0) (by rw [lk_upH, n03, cond_false]; exact u0)
  have v2 := k6 _ _ e2b (by rw [lk_upH, n23, cond_false]; exact u2)
  have v3 := k6 _ _ e3b (by rw [lk_upH, beq_self_eq_true, cond_true])
  simp -implicitDefEqProofs (maxSteps := 10000000) (disch := omega) only [TwlogLay, LwlogLay, GwlogLay_cellsStore, GwlogLay_slicesClone_CellCell, GwlogLay_wlogUnpack, GwlogLay_wloglog, Vwloglog, Twloglog, Lwloglog, Gwloglog_10, V10_eq, Gwloglog_13, V13_eq, Gwloglog_7, V7_eq, Gwloglog_wlogwant, Vwlogwant, Twlogwant, Lwlogwant, GwlogLay_wlogwant, DwlogLay_wlogcaught, Uwlogcaught, Lwlogcaught, hB, hR, hI, itR2_wloglog1, List.cons_append, EwlogLay, kp.l, kp.t6, kp.t7, kp.t8, kp.t37, kp.t38, kp.t39, lenV_sl, Int.toNat_natCast, bft, btf, gtst, st_len, v0, v2, v3, b10, rb10, b2, rb2, b3, rb3, n23, n32, pad, lightV, bt, bf, evs, gt, st, binV, arith, isSh, storeV, all1, idxAV, fieldV, faddrV, iaddrSV, iaddrAV, pickV, convV, unV, eqbV, eqpV, extV, mm2, mmV, nilckV, ress, res1, retV, Value.cells, reduceIte, reduceCtorEq, Int.reduceLT, Int.reduceLE, Int.reduceToNat, Int.reduceAdd, Int.reduceSub, Int.reduceMul, Int.reduceNeg, Nat.reduceMul, Nat.reduceAdd, Nat.reduceSub, Nat.reduceBEq, Nat.reduceEqDiff, Nat.reduceLT, Nat.reduceLeDiff, Int.reduceBEq, Int.reduceEq, Nat.reducePow, Int.reducePow, IntWalk.i64_in, IntKind.bits, eqAV, eqL, leafEq, andO, fillV, buildSV, Int.reduceGT, Int.reduceGE, Int.reduceBNe, IntWalk.u64_in, newsV_s, tassV, isnV, slcV, slcAV, slcTV, slcB, appNew, Option.bind_some, Option.bind_none, eqsV, lookV, mupdV, mdelV, mkM, ev1, ev2]
  have z2' := good_up (k := .cells [.slice (some ⟨b, 0, none⟩) M.length c1] 1) g6 b2 v2
  have z3 := good_up (k := .cells [.int .i64 0] 1) z2' b3 (by rw [lk_upH, n32, cond_false]; exact v3)
  have f6 : Fr H H6 := fun y c e => by
    have h1 : y ≠ b := fun h => by rw [← h, f0 _ _ e] at h0b; cases h0b
    exact k6 _ _ h1 (fE (.cells [.int .i64 0] 1) _ _ e)
  have fz := fr_up (k := .cells [.int .i64 0] 1) (fr_up (k := .cells [.slice (some ⟨b, 0, none⟩) M.length c1] 1) f6 (lk_N hN 2)) (lk_N hN 3)
  refine ⟨_, _, _, rfl, z3, fz, SlM.mono s6 fun y c hy e => ?_⟩
  have hyb : y = b := by simpa [slB] using hy.symm
  subst hyb
  rw [lk_upH, eqb e3b.symm, cond_false, lk_upH, eqb e2b.symm, cond_false]; exact e
end Go.Proofs.YtfhiplfagejfoaaDoor
namespace Go.Proofs.YtfhiplfagejfoaaDoor
open Go.Proofs.YtfhiplfagejfoaaDoor.K Go.ChangeShapes Go.WideShapes Go.ChangeAt Go.RowKit
set_option maxRecDepth 100000
set_option linter.unusedSimpArgs false
set_option linter.unusedVariables false
theorem wr_c2 {L : List C2} {rest : List Value} {i : Nat} (x : C2) (hi : i < L.length) : wr (fl c2 L ++ rest) (i * 2) [.int .u64 x.w, .int .i64 x.l] = some (fl c2 (L.set i x) ++ rest) := by
  have h1 := wr_fl c2_len L i 0 [.int .u64 x.w, .int .i64 x.l] z2 x hi (by simp) rfl
  rw [Nat.add_zero] at h1
  rw [wr_append_left _ _ _ _ (by rw [fl_length c2_len]; simp; omega), h1]; rfl
theorem slm_elim {B : OH} {H0 H : HL} {v : Value} {L : List C2} (h : SlM c2 2 B H0 H v L) (hL : 0 < L.length) : ∃ b cap rest, v = .slice (some ⟨b, 0, none⟩) L.length cap ∧ B b = none ∧ lk H0 b = none ∧ L.length ≤ cap ∧ lk H b = some (.cells (fl c2 L ++ rest) (cap * 2)) := by
  rcases h with ⟨h0, _⟩ | h
  · rw [h0] at hL; simp at hL
  · exact h
end Go.Proofs.YtfhiplfagejfoaaDoor
namespace Go.Proofs.YtfhiplfagejfoaaDoor
open Go.Proofs.YtfhiplfagejfoaaDoor.K Go.ChangeShapes Go.WideShapes Go.ChangeAt Go.RowKit 
set_option maxRecDepth 100000
set_option linter.unusedSimpArgs false
set_option linter.unusedVariables false
/-- whitewash/whitewashlaw16.pick -/
def Llaw16pick : FnL := ⟨(.seq (.ops [⟨(some 4), .mv (.const (.int .i64 0)), none⟩])
 (.seq (.seq (.ops [⟨(some 5), .mv (.tmp 0), none⟩, ⟨(some 6), .bin .lss (.tmp 5) (.const (.int .i64 0)), none⟩])
 (.cond (.tmp 6) (.ops [⟨(some 7), .mv (.tmp 0), none⟩, ⟨(some 8), .bin .add (.tmp 7) (.const (.int .i64 1)), none⟩, ⟨(some 9), .un .neg (.tmp 8), none⟩, ⟨(some 0), .mv (.tmp 9), none⟩])
 .skip))
 (.seq (.ops [⟨(some 10), .mv (.tmp 0), none⟩, ⟨(some 11), .mv (.tmp 1), none⟩, ⟨(some 12), .bin .rem (.tmp 10) (.tmp 11), none⟩, ⟨(some 4), .mv (.tmp 12), none⟩])
 .ret))),
 13, [.tmp 4]⟩
theorem lowlaw16pick : lowerFn Tryd.prog Tryd.f12 = some Llaw16pick := by kernel_rfl
noncomputable def Glaw16pick (B : OH) : Nat → Cs
  | _ => fun _ _ _ => none
theorem sGlaw16pick {w0 : World} {B : OH} : SoundG Tryd.prog w0 B { f := Glaw16pick B } := .of fun k => by
  unfold Glaw16pick
  split
  · exact .inl fun _ _ _ => rfl
theorem enlaw16pick : Enter Tryd.prog 12 := .of Tryd.func12 (by kernel_rfl) (by kernel_rfl)
noncomputable def Tlaw16pick (B : OH) : Cs := callF B { f := Glaw16pick B } 1000000 Llaw16pick
theorem sTlaw16pick {w0 : World} {B : OH} : SoundC Tryd.prog w0 B 12 (Tlaw16pick B) := callF_sound mixedOrders sGlaw16pick 1000000 Tryd.func12 lowlaw16pick
noncomputable def Flaw16pick (B : OH) : List Value → Option Value := kval B (Tlaw16pick B)
noncomputable def Vlaw16pick (B : OH) : Cs := fun a H N => pvE (Flaw16pick B a) H N
theorem Vlaw16pick_eq {B : OH} {a : List Value} {H : HL} {N : St} : Vlaw16pick B a H N = pvE (Flaw16pick B a) H N := rfl
theorem sVlaw16pick {w0 : World} {B : OH} : SoundC Tryd.prog w0 B 12 (Vlaw16pick B) := sTlaw16pick.ofVal
theorem fpick {B : OH} (hG : ∃ H N, good B H N) (x n : Int) (hx : i64R x) (hn : 0 < n ∧ n ≤ 9223372036854775807) : Flaw16pick B [.int .i64 x, .int .i64 n] = some (.int .i64 (pk x n)) := by
  unfold i64R at hx
  refine kval_eq hG fun H N hN => ?_
  have hB := good_B hN
  have hR := good_rdB hN
  have hI := beqN hN.1.1
  have hn0 : ¬ n = 0 := by omega
  unfold pk
  by_cases h : x < 0
  · have hw : IntKind.i64.wrap (0 - (x + 1)) = -(x + 1) := by rw [IntWalk.i64_in _ (by omega)]; omega
    simp -implicitDefEqProofs (maxSteps := 10000000) (disch := omega) only [Tlaw16pick, Llaw16pick, hB, hR, hI, h, hn0, hw, pad, lightV, bt, bf, evs, gt, st, binV, arith, isSh, storeV, all1, idxAV, fieldV, faddrV, iaddrSV, iaddrAV, pickV, convV, unV, eqbV, eqpV, extV, mm2, mmV, nilckV, ress, res1, retV, Value.cells, reduceIte, reduceCtorEq, Int.reduceLT, Int.reduceLE, Int.reduceToNat, Int.reduceAdd, Int.reduceSub, Int.reduceMul, Int.reduceNeg, Nat.reduceMul, Nat.reduceAdd, Nat.reduceSub, Nat.reduceBEq, Nat.reduceEqDiff, Nat.reduceLT, Nat.reduceLeDiff, Int.reduceBEq, Int.reduceEq, Nat.reducePow, Int.reducePow, IntWalk.i64_in, IntKind.bits, eqAV, eqL, leafEq, andO, fillV, buildSV, Int.reduceGT, Int.reduceGE, Int.reduceBNe, IntWalk.u64_in, newsV_s, tassV, isnV, slcV, slcAV, slcTV, slcB, appNew, Option.bind_some, Option.bind_none, eqsV, lookV, mupdV, mdelV, mkM, ev1, ev2]
    with_reducible refine done2 ?_
    repeat (first | refine ext_new hN ?_ | exact fun _ _ h => h)
  · simp -implicitDefEqProofs (maxSteps := 10000000) (disch := omega) only [Tlaw16pick, Llaw16pick, hB, hR, hI, h, hn0, pad, lightV, bt, bf, evs, gt, st, binV, arith, isSh, storeV, all1, idxAV, fieldV, faddrV, iaddrSV, iaddrAV, pickV, convV, unV, eqbV, eqpV, extV, mm2, mmV, nilckV, ress, res1, retV, Value.cells, reduceIte, reduceCtorEq, Int.reduceLT, Int.reduceLE, Int.reduceToNat, Int.reduceAdd, Int.reduceSub, Int.reduceMul, Int.reduceNeg, Nat.reduceMul, Nat.reduceAdd, Nat.reduceSub, Nat.reduceBEq, Nat.reduceEqDiff, Nat.reduceLT, Nat.reduceLeDiff, Int.reduceBEq, Int.reduceEq, Nat.reducePow, Int.reducePow, IntWalk.i64_in, IntKind.bits, eqAV, eqL, leafEq, andO, fillV, buildSV, Int.reduceGT, Int.reduceGE, Int.reduceBNe, IntWalk.u64_in, newsV_s, tassV, isnV, slcV, slcAV, slcTV, slcB, appNew, Option.bind_some, Option.bind_none, eqsV, lookV, mupdV, mdelV, mkM, ev1, ev2]
    with_reducible refine done2 ?_
    repeat (first | refine ext_new hN ?_ | exact fun _ _ h => h)
/-- whitewash/whitewashlaw16.Conf -/
def Llaw16Conf : FnL := ⟨(.seq (.ops [⟨(some 1), .box (.tmp 0), none⟩, ⟨(some 2), .alloc [(.int .i64 0), (.int .i64 0), (.int .i64 0)], none⟩])
 (.seq (.draw [⟨⟨(some 3), .iaddrA 1 3 (.tmp 1) (.const (.int .i64 0)), none⟩, []⟩, ⟨⟨(some 4), .load false 1 (.tmp 3), none⟩, []⟩, ⟨⟨(some 7), .iaddrA 1 3 (.tmp 1) (.const (.int .i64 1)), none⟩, []⟩, ⟨⟨(some 8), .load false 1 (.tmp 7), none⟩, []⟩, ⟨⟨(some 11), .iaddrA 1 3 (.tmp 1) (.const (.int .i64 2)), none⟩, []⟩, ⟨⟨(some 12), .load false 1 (.tmp 11), none⟩, []⟩, ⟨⟨(some 5), .call (.func 12) [(.tmp 4), (.const (.int .i64 5))], none⟩, [⟨(some 8), .load false 1 (.tmp 7), none⟩, ⟨(some 12), .load false 1 (.tmp 11), none⟩]⟩, ⟨⟨(some 6), .bin .add (.const (.int .i64 1)) (.tmp 5), none⟩, []⟩, ⟨⟨(some 9), .call (.func 12) [(.tmp 8), (.const (.int .i64 4))], none⟩, [⟨(some 12), .load false 1 (.tmp 11), none⟩]⟩, ⟨⟨(some 10), .bin .add (.const (.int .i64 1)) (.tmp 9), none⟩, []⟩, ⟨⟨(some 13), .call (.func 12) [(.tmp 12), (.const (.int .i64 4))], none⟩, []⟩, ⟨⟨(some 14), .bin .add (.const (.int .i64 1)) (.tmp 13), none⟩, []⟩, ⟨⟨(some 15), .build [(.int .i64 0), (.int .i64 0), (.int .i64 0)] [(0, 1, (.tmp 6)), (1, 1, (.tmp 10)), (2, 1, (.tmp 14))], none⟩, []⟩, ⟨⟨none, .store 3 (.tmp 2) (.tmp 15), none⟩, []⟩])
 .ret)),
 16, [.cell 2 true 3]⟩
theorem lowlaw16Conf : lowerFn Tryd.prog Tryd.f9 = some Llaw16Conf := by kernel_rfl
noncomputable def Glaw16Conf (B : OH) : Nat → Cs
  | 12 => Vlaw16pick B
  | _ => fun _ _ _ => none
theorem Glaw16Conf_law16pick {B : OH} : Glaw16Conf B 12 = Vlaw16pick B := rfl
theorem sGlaw16Conf {w0 : World} {B : OH} : SoundG Tryd.prog w0 B { f := Glaw16Conf B } := .of fun k => by
  unfold Glaw16Conf
  split
  · exact .inr ⟨enlaw16pick, sVlaw16pick⟩
  · exact .inl fun _ _ _ => rfl
theorem enlaw16Conf : Enter Tryd.prog 9 := .of Tryd.func9 (by kernel_rfl) (by kernel_rfl)
noncomputable def Tlaw16Conf (B : OH) : Cs := callF B { f := Glaw16Conf B } 1000000 Llaw16Conf
theorem sTlaw16Conf {w0 : World} {B : OH} : SoundC Tryd.prog w0 B 9 (Tlaw16Conf B) := callF_sound mixedOrders sGlaw16Conf 1000000 Tryd.func9 lowlaw16Conf
noncomputable def Flaw16Conf (B : OH) : List Value → Option Value := kval B (Tlaw16Conf B)
noncomputable def Vlaw16Conf (B : OH) : Cs := fun a H N => pvE (Flaw16Conf B a) H N
theorem Vlaw16Conf_eq {B : OH} {a : List Value} {H : HL} {N : St} : Vlaw16Conf B a H N = pvE (Flaw16Conf B a) H N := rfl
theorem sVlaw16Conf {w0 : World} {B : OH} : SoundC Tryd.prog w0 B 9 (Vlaw16Conf B) := sTlaw16Conf.ofVal
set_option maxHeartbeats 1000000 in
theorem fConf {B : OH} (hG : ∃ H N, good B H N) {a b c : Int} (ha : i64R a) (hb : i64R b) (hc : i64R c) : Flaw16Conf B [.agg #[.int .i64 a, .int .i64 b, .int .i64 c]] = some (.agg #[.int .i64 (1 + pk a 5), .int .i64 (1 + pk b 4), .int .i64 (1 + pk c 4)]) := by
  refine kval_eq hG fun H N hN => ?_
  have hB := good_B hN
  have hR := good_rdB hN
  have hI := beqN hN.1.1
  have ea := fpick hG a 5 ha (by omega)
  have eb := fpick hG b 4 hb (by omega)
  have ec := fpick hG c 4 hc (by omega)
  have ba := pk_b (x := a) (n := 5) (by omega)
  have bb := pk_b (x := b) (n := 4) (by omega)
  have bc := pk_b (x := c) (n := 4) (by omega)
  simp -implicitDefEqProofs (maxSteps := 10000000) (disch := omega) only [Tlaw16Conf, Llaw16Conf, Glaw16Conf_law16pick, Vlaw16pick_eq, hB, hR, hI, ea, eb, ec, pad, lightV, bt, bf, evs, gt, st, binV, arith, isSh, storeV, all1, idxAV, fieldV, faddrV, iaddrSV, iaddrAV, pickV, convV, unV, eqbV, eqpV, extV, mm2, mmV, nilckV, ress, res1, retV, Value.cells, reduceIte, reduceCtorEq, Int.reduceLT, Int.reduceLE, Int.reduceToNat, Int.reduceAdd, Int.reduceSub, Int.reduceMul, Int.reduceNeg, Nat.reduceMul, Nat.reduceAdd, Nat.reduceSub, Nat.reduceBEq, Nat.reduceEqDiff, Nat.reduceLT, Nat.reduceLeDiff, Int.reduceBEq, Int.reduceEq, Nat.reducePow, Int.reducePow, IntWalk.i64_in, IntKind.bits, eqAV, eqL, leafEq, andO, fillV, buildSV, Int.reduceGT, Int.reduceGE, Int.reduceBNe, IntWalk.u64_in, newsV_s, tassV, isnV, slcV, slcAV, slcTV, slcB, appNew, Option.bind_some, Option.bind_none, eqsV, lookV, mupdV, mdelV, mkM, ev1, ev2]
  with_reducible refine done2 ?_
  repeat (first | refine ext_new hN ?_ | exact fun _ _ h => h)
theorem conf_cf (a b c : Int) : ∃ kk p cc h : Nat, 1 + pk a 5 = (kk : Int) ∧ 1 + pk b 4 = (p : Int) ∧ 1 + pk c 4 = (cc : Int) ∧ Cf kk p cc h ∧ p ≤ 4 ∧ cc ≤ 4 := by
  have ba := pk_b (x := a) (n := 5) (by omega)
  have bb := pk_b (x := b) (n := 4) (by omega)
  have bc := pk_b (x := c) (n := 4) (by omega)
  obtain ⟨kk, p, cc, h, e1, e2, e3, C⟩ := fit_cf (k := 1 + pk a 5) (p := 1 + pk b 4) (c := 1 + pk c 4) ⟨by omega, by omega, by omega⟩
  exact ⟨kk, p, cc, h, e1, e2, e3, C, by omega, by omega⟩
structure Q2 where
  a : Int
  b : Int
def q2 (x : Q2) : List Value := [.int .i64 x.a, .int .i64 x.b]
def q20 : Q2 := ⟨0, 0⟩
theorem q2_len (x : Q2) : (q2 x).length = 2 := rfl
structure Q3 where
  a : Int
  b : Int
  c : Int
def q3 (x : Q3) : List Value := [.int .i64 x.a, .int .i64 x.b, .int .i64 x.c]
def q30 : Q3 := ⟨0, 0, 0⟩
theorem q3_len (x : Q3) : (q3 x).length = 3 := rfl
def Q2s (l : List Q2) : Prop := ∀ x ∈ l, i64R x.a ∧ i64R x.b
def Q3s (l : List Q3) : Prop := ∀ x ∈ l, i64R x.a ∧ i64R x.b ∧ i64R x.c
/-- whitewash/whitewashlaw16.Writes -/
def Llaw16Writes : FnL := ⟨(.seq (.ops [⟨(some 2), .box (.tmp 0), none⟩, ⟨(some 4), .mv (.const (.slice none 0 0)), none⟩])
 (.seq (.ops [⟨(some 17), .load true 3 (.tmp 2), none⟩, ⟨(some 18), .call (.func 37) [(.tmp 17), (.const (.int .i64 2)), (.const (.int .i64 0))], none⟩, ⟨(some 16), .mv (.tmp 18), none⟩, ⟨(some 19), .ext (.tmp 16) 0, none⟩, ⟨(some 20), .ext (.tmp 16) 1, none⟩, ⟨(some 5), .mv (.tmp 19), none⟩, ⟨(some 6), .mv (.tmp 20), none⟩])
 (.seq (.ops [⟨(some 22), .load true 3 (.tmp 2), none⟩, ⟨(some 23), .call (.func 37) [(.tmp 22), (.const (.int .i64 4)), (.const (.int .i64 0))], none⟩, ⟨(some 21), .mv (.tmp 23), none⟩, ⟨(some 24), .ext (.tmp 21) 0, none⟩, ⟨(some 25), .ext (.tmp 21) 1, none⟩, ⟨(some 7), .mv (.tmp 24), none⟩, ⟨(some 8), .mv (.tmp 25), none⟩])
 (.seq (.ops [⟨(some 26), .load true 3 (.tmp 2), none⟩, ⟨(some 27), .call (.func 38) [(.tmp 26)], none⟩, ⟨(some 9), .mv (.tmp 27), none⟩])
 (.seq (.ops [⟨(some 10), .mv (.const (.slice none 0 0)), none⟩])
 (.seq (.seq (.ops [⟨(some 11), .mv (.const (.int .i64 0)), none⟩])
 (.block 0 (.loop (.seq (.seq (.ops [⟨(some 28), .mv (.tmp 11), none⟩, ⟨(some 29), .mv (.tmp 1), none⟩, ⟨(some 30), .len false (.tmp 29), none⟩, ⟨(some 31), .bin .lss (.tmp 28) (.tmp 30), none⟩, ⟨(some 32), .mv (.tmp 31), none⟩, ⟨(some 33), .mv (.tmp 11), (some (32, true))⟩, ⟨(some 34), .bin .lss (.tmp 33) (.const (.int .i64 14)), (some (32, true))⟩, ⟨(some 35), .pick (.tmp 32) (.tmp 34) (.const (.bool false)), none⟩])
 (.cond (.tmp 35) .skip
 (.exit 0)))
 (.seq (.block 1 (.seq (.draw [⟨⟨(some 38), .mv (.tmp 1), none⟩, []⟩, ⟨⟨(some 39), .mv (.tmp 11), none⟩, []⟩, ⟨⟨(some 40), .iaddrS 2 (.tmp 38) (.tmp 39), none⟩, []⟩, ⟨⟨(some 41), .iaddrA 1 2 (.tmp 40) (.const (.int .i64 0)), none⟩, []⟩, ⟨⟨(some 42), .load false 1 (.tmp 41), none⟩, []⟩, ⟨⟨(some 43), .faddr 1 (.tmp 2), none⟩, []⟩, ⟨⟨(some 44), .load false 1 (.tmp 43), none⟩, []⟩, ⟨⟨(some 45), .bin .mul (.const (.int .i64 2)) (.tmp 44), none⟩, []⟩, ⟨⟨(some 46), .mv (.tmp 9), none⟩, []⟩, ⟨⟨(some 47), .bin .add (.tmp 45) (.tmp 46), none⟩, []⟩, ⟨⟨(some 48), .call (.func 12) [(.tmp 42), (.tmp 47)], none⟩, []⟩, ⟨⟨(some 12), .mv (.tmp 48), none⟩, []⟩])
 (.seq (.ops [⟨(some 49), .mv (.tmp 5), none⟩, ⟨(some 50), .mv (.tmp 12), none⟩, ⟨(some 51), .bin .add (.tmp 49) (.tmp 50), none⟩, ⟨(some 52), .mv (.tmp 1), none⟩, ⟨(some 53), .mv (.tmp 11), none⟩, ⟨(some 54), .iaddrS 2 (.tmp 52) (.tmp 53), none⟩, ⟨(some 55), .iaddrA 1 2 (.tmp 54) (.const (.int .i64 1)), none⟩, ⟨(some 56), .load false 1 (.tmp 55), none⟩, ⟨(some 57), .call (.func 12) [(.tmp 56), (.const (.int .i64 20))], none⟩, ⟨(some 58), .conv .u64 (.tmp 57), none⟩, ⟨(some 59), .build [(.int .i64 0), (.int .u64 0)] [(0, 1, (.tmp 51)), (1, 1, (.tmp 58))], none⟩, ⟨(some 13), .alloc [(.int .i64 0), (.int .u64 0)], none⟩, ⟨none, .store 2 (.tmp 13) (.tmp 59), none⟩])
 (.seq (.seq (.ops [⟨(some 60), .mv (.tmp 12), none⟩, ⟨(some 61), .faddr 1 (.tmp 2), none⟩, ⟨(some 62), .load false 1 (.tmp 61), none⟩, ⟨(some 63), .bin .mul (.const (.int .i64 2)) (.tmp 62), none⟩, ⟨(some 64), .bin .geq (.tmp 60) (.tmp 63), none⟩])
 (.cond (.tmp 64) (.ops [⟨(some 65), .mv (.tmp 7), none⟩, ⟨(some 66), .mv (.tmp 12), none⟩, ⟨(some 67), .bin .add (.tmp 65) (.tmp 66), none⟩, ⟨(some 68), .faddr 1 (.tmp 2), none⟩, ⟨(some 69), .load false 1 (.tmp 68), none⟩, ⟨(some 70), .bin .mul (.const (.int .i64 2)) (.tmp 69), none⟩, ⟨(some 71), .bin .sub (.tmp 67) (.tmp 70), none⟩, ⟨(some 72), .faddr 0 (.tmp 13), none⟩, ⟨none, .store 1 (.tmp 72) (.tmp 71), none⟩])
 .skip))
 (.seq (.ops [⟨(some 14), .mv (.const (.bool false)), none⟩])
 (.seq (.seq (.ops [⟨(some 15), .mv (.const (.int .i64 0)), none⟩])
 (.block 2 (.loop (.seq (.seq (.ops [⟨(some 73), .mv (.tmp 15), none⟩, ⟨(some 74), .mv (.tmp 10), none⟩, ⟨(some 75), .len false (.tmp 74), none⟩, ⟨(some 76), .bin .lss (.tmp 73) (.tmp 75), none⟩])
 (.cond (.tmp 76) .skip
 (.exit 2)))
 (.seq (.block 3 (.draw [⟨⟨(some 79), .mv (.tmp 14), none⟩, []⟩, ⟨⟨(some 80), .mv (.tmp 79), none⟩, []⟩, ⟨⟨(some 81), .mv (.tmp 10), (some (80, false))⟩, []⟩, ⟨⟨(some 82), .mv (.tmp 15), (some (80, false))⟩, []⟩, ⟨⟨(some 83), .iaddrS 2 (.tmp 81) (.tmp 82), (some (80, false))⟩, []⟩, ⟨⟨(some 84), .faddr 0 (.tmp 83), (some (80, false))⟩, []⟩, ⟨⟨(some 85), .load false 1 (.tmp 84), (some (80, false))⟩, []⟩, ⟨⟨(some 86), .faddr 0 (.tmp 13), (some (80, false))⟩, []⟩, ⟨⟨(some 87), .load false 1 (.tmp 86), (some (80, false))⟩, []⟩, ⟨⟨(some 88), .bin .eql (.tmp 85) (.tmp 87), (some (80, false))⟩, []⟩, ⟨⟨(some 89), .pick (.tmp 80) (.const (.bool true)) (.tmp 88), none⟩, []⟩, ⟨⟨(some 14), .mv (.tmp 89), none⟩, []⟩]))
 (.ops [⟨(some 77), .mv (.tmp 15), none⟩, ⟨(some 78), .bin .add (.tmp 77) (.const (.int .i64 1)), none⟩, ⟨(some 15), .mv (.tmp 78), none⟩]))))))
 (.seq (.ops [⟨(some 90), .mv (.tmp 14), none⟩, ⟨(some 91), .un .not (.tmp 90), none⟩])
 (.cond (.tmp 91) (.ops [⟨(some 92), .mv (.tmp 10), none⟩, ⟨(some 93), .load true 2 (.tmp 13), none⟩, ⟨(some 94), .buildS [(.int .i64 0), (.int .u64 0)] 1 [(0, 2, (.tmp 93))], none⟩, ⟨(some 95), .app [(.int .i64 0), (.int .u64 0)] 16 (.tmp 92) (.tmp 94), none⟩, ⟨(some 10), .mv (.tmp 95), none⟩])
 .skip))))))))
 (.ops [⟨(some 36), .mv (.tmp 11), none⟩, ⟨(some 37), .bin .add (.tmp 36) (.const (.int .i64 1)), none⟩, ⟨(some 11), .mv (.tmp 37), none⟩]))))))
 (.seq (.ops [⟨(some 96), .mv (.tmp 10), none⟩, ⟨(some 4), .mv (.tmp 96), none⟩])
 .ret))))))),
 97, [.tmp 4]⟩
theorem lowlaw16Writes : lowerFn Tryd.prog Tryd.f10 = some Llaw16Writes := by kernel_rfl
noncomputable def Glaw16Writes (B : OH) : Nat → Cs
  | 12 => Vlaw16pick B
  | 37 => Vref04At B
  | 38 => Vref04Home B
  | _ => fun _ _ _ => none
theorem Glaw16Writes_law16pick {B : OH} : Glaw16Writes B 12 = Vlaw16pick B := rfl
theorem Glaw16Writes_ref04At {B : OH} : Glaw16Writes B 37 = Vref04At B := rfl
theorem Glaw16Writes_ref04Home {B : OH} : Glaw16Writes B 38 = Vref04Home B := rfl
theorem sGlaw16Writes {w0 : World} {B : OH} : SoundG Tryd.prog w0 B { f := Glaw16Writes B } := .of fun k => by
  unfold Glaw16Writes
  split
  · exact .inr ⟨enlaw16pick, sVlaw16pick⟩
  · exact .inr ⟨enref04At, sVref04At⟩
  · exact .inr ⟨enref04Home, sVref04Home⟩
  · exact .inl fun _ _ _ => rfl
theorem enlaw16Writes : Enter Tryd.prog 10 := .of Tryd.func10 (by kernel_rfl) (by kernel_rfl)
noncomputable def Tlaw16Writes (B : OH) : Cs := callF B { f := Glaw16Writes B } 1000000 Llaw16Writes
theorem sTlaw16Writes {w0 : World} {B : OH} : SoundC Tryd.prog w0 B 10 (Tlaw16Writes B) := callF_sound mixedOrders sGlaw16Writes 1000000 Tryd.func10 lowlaw16Writes
noncomputable def Vlaw16Writes (B : OH) : Cs := Tlaw16Writes B
theorem sVlaw16Writes {w0 : World} {B : OH} : SoundC Tryd.prog w0 B 10 (Vlaw16Writes B) := sTlaw16Writes
structure KWo (p h c : Nat) (vr vo : Value) (i : Nat) (ts : List Value) : Prop where
  l : ts.length = 97
  t1 : gt ts 1 = vr
  t2 : gt ts 2 = .pointer (some ⟨c, 0, none⟩)
  t5 : gt ts 5 = .int .i64 ((bs p h 2 : Nat) : Int)
  t7 : gt ts 7 = .int .i64 ((bs p h 4 : Nat) : Int)
  t9 : gt ts 9 = .int .i64 (h : Int)
  t10 : gt ts 10 = vo
  t11 : gt ts 11 = .int .i64 (i : Int)
structure KWi (p h c : Nat) (vr vo : Value) (i m : Nat) (t : Bool) (k : Nat) (ts : List Value) : Prop where
  l : ts.length = 97
  t1 : gt ts 1 = vr
  t2 : gt ts 2 = .pointer (some ⟨c, 0, none⟩)
  t5 : gt ts 5 = .int .i64 ((bs p h 2 : Nat) : Int)
  t7 : gt ts 7 = .int .i64 ((bs p h 4 : Nat) : Int)
  t9 : gt ts 9 = .int .i64 (h : Int)
  t10 : gt ts 10 = vo
  t11 : gt ts 11 = .int .i64 (i : Int)
  t13 : gt ts 13 = .pointer (some ⟨m, 0, none⟩)
  t14 : gt ts 14 = .bool t
  t15 : gt ts 15 = .int .i64 (k : Int)
def lbWo : LC := (.seq (.seq (.ops [⟨(some 28), .mv (.tmp 11), none⟩, ⟨(some 29), .mv (.tmp 1), none⟩, ⟨(some 30), .len false (.tmp 29), none⟩, ⟨(some 31), .bin .lss (.tmp 28) (.tmp 30), none⟩, ⟨(some 32), .mv (.tmp 31), none⟩, ⟨(some 33), .mv (.tmp 11), (some (32, true))⟩, ⟨(some 34), .bin .lss (.tmp 33) (.const (.int .i64 14)), (some (32, true))⟩, ⟨(some 35), .pick (.tmp 32) (.tmp 34) (.const (.bool false)), none⟩])
 (.cond (.tmp 35) .skip
 (.exit 0)))
 (.seq (.block 1 (.seq (.draw [⟨⟨(some 38), .mv (.tmp 1), none⟩, []⟩, ⟨⟨(some 39), .mv (.tmp 11), none⟩, []⟩, ⟨⟨(some 40), .iaddrS 2 (.tmp 38) (.tmp 39), none⟩, []⟩, ⟨⟨(some 41), .iaddrA 1 2 (.tmp 40) (.const (.int .i64 0)), none⟩, []⟩, ⟨⟨(some 42), .load false 1 (.tmp 41), none⟩, []⟩, ⟨⟨(some 43), .faddr 1 (.tmp 2), none⟩, []⟩, ⟨⟨(some 44), .load false 1 (.tmp 43), none⟩, []⟩, ⟨⟨(some 45), .bin .mul (.const (.int .i64 2)) (.tmp 44), none⟩, []⟩, ⟨⟨(some 46), .mv (.tmp 9), none⟩, []⟩, ⟨⟨(some 47), .bin .add (.tmp 45) (.tmp 46), none⟩, []⟩, ⟨⟨(some 48), .call (.func 12) [(.tmp 42), (.tmp 47)], none⟩, []⟩, ⟨⟨(some 12), .mv (.tmp 48), none⟩, []⟩])
 (.seq (.ops [⟨(some 49), .mv (.tmp 5), none⟩, ⟨(some 50), .mv (.tmp 12), none⟩, ⟨(some 51), .bin .add (.tmp 49) (.tmp 50), none⟩, ⟨(some 52), .mv (.tmp 1), none⟩, ⟨(some 53), .mv (.tmp 11), none⟩, ⟨(some 54), .iaddrS 2 (.tmp 52) (.tmp 53), none⟩, ⟨(some 55), .iaddrA 1 2 (.tmp 54) (.const (.int .i64 1)), none⟩, ⟨(some 56), .load false 1 (.tmp 55), none⟩, ⟨(some 57), .call (.func 12) [(.tmp 56), (.const (.int .i64 20))], none⟩, ⟨(some 58), .conv .u64 (.tmp 57), none⟩, ⟨(some 59), .build [(.int .i64 0), (.int .u64 0)] [(0, 1, (.tmp 51)), (1, 1, (.tmp 58))], none⟩, ⟨(some 13), .alloc [(.int .i64 0), (.int .u64 0)], none⟩, ⟨none, .store 2 (.tmp 13) (.tmp 59), none⟩])
 (.seq (.seq (.ops [⟨(some 60), .mv (.tmp 12), none⟩, ⟨(some 61), .faddr 1 (.tmp 2), none⟩, ⟨(some 62), .load false 1 (.tmp 61), none⟩, ⟨(some 63), .bin .mul (.const (.int .i64 2)) (.tmp 62), none⟩, ⟨(some 64), .bin .geq (.tmp 60) (.tmp 63), none⟩])
 (.cond (.tmp 64) (.ops [⟨(some 65), .mv (.tmp 7), none⟩, ⟨(some 66), .mv (.tmp 12), none⟩, ⟨(some 67), .bin .add (.tmp 65) (.tmp 66), none⟩, ⟨(some 68), .faddr 1 (.tmp 2), none⟩, ⟨(some 69), .load false 1 (.tmp 68), none⟩, ⟨(some 70), .bin .mul (.const (.int .i64 2)) (.tmp 69), none⟩, ⟨(some 71), .bin .sub (.tmp 67) (.tmp 70), none⟩, ⟨(some 72), .faddr 0 (.tmp 13), none⟩, ⟨none, .store 1 (.tmp 72) (.tmp 71), none⟩])
 .skip))
 (.seq (.ops [⟨(some 14), .mv (.const (.bool false)), none⟩])
 (.seq (.seq (.ops [⟨(some 15), .mv (.const (.int .i64 0)), none⟩])
 (.block 2 (.loop (.seq (.seq (.ops [⟨(some 73), .mv (.tmp 15), none⟩, ⟨(some 74), .mv (.tmp 10), none⟩, ⟨(some 75), .len false (.tmp 74), none⟩, ⟨(some 76), .bin .lss (.tmp 73) (.tmp 75), none⟩])
 (.cond (.tmp 76) .skip
 (.exit 2)))
 (.seq (.block 3 (.draw [⟨⟨(some 79), .mv (.tmp 14), none⟩, []⟩, ⟨⟨(some 80), .mv (.tmp 79), none⟩, []⟩, ⟨⟨(some 81), .mv (.tmp 10), (some (80, false))⟩, []⟩, ⟨⟨(some 82), .mv (.tmp 15), (some (80, false))⟩, []⟩, ⟨⟨(some 83), .iaddrS 2 (.tmp 81) (.tmp 82), (some (80, false))⟩, []⟩, ⟨⟨(some 84), .faddr 0 (.tmp 83), (some (80, false))⟩, []⟩, ⟨⟨(some 85), .load false 1 (.tmp 84), (some (80, false))⟩, []⟩, ⟨⟨(some 86), .faddr 0 (.tmp 13), (some (80, false))⟩, []⟩, ⟨⟨(some 87), .load false 1 (.tmp 86), (some (80, false))⟩, []⟩, ⟨⟨(some 88), .bin .eql (.tmp 85) (.tmp 87), (some (80, false))⟩, []⟩, ⟨⟨(some 89), .pick (.tmp 80) (.const (.bool true)) (.tmp 88), none⟩, []⟩, ⟨⟨(some 14), .mv (.tmp 89), none⟩, []⟩]))
 (.ops [⟨(some 77), .mv (.tmp 15), none⟩, ⟨(some 78), .bin .add (.tmp 77) (.const (.int .i64 1)), none⟩, ⟨(some 15), .mv (.tmp 78), none⟩]))))))
 (.seq (.ops [⟨(some 90), .mv (.tmp 14), none⟩, ⟨(some 91), .un .not (.tmp 90), none⟩])
 (.cond (.tmp 91) (.ops [⟨(some 92), .mv (.tmp 10), none⟩, ⟨(some 93), .load true 2 (.tmp 13), none⟩, ⟨(some 94), .buildS [(.int .i64 0), (.int .u64 0)] 1 [(0, 2, (.tmp 93))], none⟩, ⟨(some 95), .app [(.int .i64 0), (.int .u64 0)] 16 (.tmp 92) (.tmp 94), none⟩, ⟨(some 10), .mv (.tmp 95), none⟩])
 .skip))))))))
 (.ops [⟨(some 36), .mv (.tmp 11), none⟩, ⟨(some 37), .bin .add (.tmp 36) (.const (.int .i64 1)), none⟩, ⟨(some 11), .mv (.tmp 37), none⟩])))
def lbWi : LC := (.seq (.seq (.ops [⟨(some 73), .mv (.tmp 15), none⟩, ⟨(some 74), .mv (.tmp 10), none⟩, ⟨(some 75), .len false (.tmp 74), none⟩, ⟨(some 76), .bin .lss (.tmp 73) (.tmp 75), none⟩])
 (.cond (.tmp 76) .skip
 (.exit 2)))
 (.seq (.block 3 (.draw [⟨⟨(some 79), .mv (.tmp 14), none⟩, []⟩, ⟨⟨(some 80), .mv (.tmp 79), none⟩, []⟩, ⟨⟨(some 81), .mv (.tmp 10), (some (80, false))⟩, []⟩, ⟨⟨(some 82), .mv (.tmp 15), (some (80, false))⟩, []⟩, ⟨⟨(some 83), .iaddrS 2 (.tmp 81) (.tmp 82), (some (80, false))⟩, []⟩, ⟨⟨(some 84), .faddr 0 (.tmp 83), (some (80, false))⟩, []⟩, ⟨⟨(some 85), .load false 1 (.tmp 84), (some (80, false))⟩, []⟩, ⟨⟨(some 86), .faddr 0 (.tmp 13), (some (80, false))⟩, []⟩, ⟨⟨(some 87), .load false 1 (.tmp 86), (some (80, false))⟩, []⟩, ⟨⟨(some 88), .bin .eql (.tmp 85) (.tmp 87), (some (80, false))⟩, []⟩, ⟨⟨(some 89), .pick (.tmp 80) (.const (.bool true)) (.tmp 88), none⟩, []⟩, ⟨⟨(some 14), .mv (.tmp 89), none⟩, []⟩]))
 (.ops [⟨(some 77), .mv (.tmp 15), none⟩, ⟨(some 78), .bin .add (.tmp 77) (.const (.int .i64 1)), none⟩, ⟨(some 15), .mv (.tmp 78), none⟩])))
open Classical in
noncomputable def twB (l : List W2) (a : Int) (k : Nat) : Bool := decide (∃ j, j < k ∧ (l.getD j y2).a = a)
set_option maxHeartbeats 4000000 in
theorem loopWi {B : OH} {H : HL} {N : St} {vr vo : Value} {l : List W2} {a w : Int} {p h c i m : Nat} (ho : SlR w2 2 B H vo l) (hll : l.length ≤ 1000) (hN : good B H N) (bm : B m = none) (lm : lk H m = some (.cells [.int .i64 a, .int .u64 w] 2)) {ts : List Value} (kp : KWi p h c vr vo i m false 0 ts) {F : Nat} (hF : 100 + l.length + 1 ≤ F) :
    Ok (exec B { f := Glaw16Writes B } F (LC.loop lbWi) ⟨ts, H, N⟩) (fun x s => x = .exit 2 ∧ s.H = H ∧ s.N = N ∧ KWi p h c vr vo i m (twB l a l.length) l.length s.t) := by
  have hB := good_B hN
  have hR := good_rdB hN
  have hI := beqN hN.1.1
  have hlo := ho.len
  have rm := fun o n => rdB_none (o := o) (n := n) bm
  refine loop_rule (n0 := 100) (fun q s => ∃ ts, ∃ k : Nat, s = ⟨ts, H, N⟩ ∧ KWi p h c vr vo i m (twB l a k) k ts ∧ k ≤ l.length ∧ q = l.length - k) _ ?_ l.length _ ⟨ts, 0, rfl, by rw [show twB l a 0 = false from decide_eq_false fun ⟨j, hj, _⟩ => by omega]; exact kp, by omega, rfl⟩ _ hF
  clear kp hF F ts
  rintro z q s ⟨ts, k, rfl, kp, hk, rfl⟩
  have hc1 : ((k + 1 : Nat) : Int) = (k : Int) + 1 := by omega
  by_cases hin : k < l.length
  case neg =>
    obtain rfl : k = l.length := by omega
    generalize twB l a l.length = t at *
    simp -implicitDefEqProofs (maxSteps := 10000000) (disch := omega) only [Tlaw16Writes, Llaw16Writes, Glaw16Writes_law16pick, Vlaw16pick_eq, Glaw16Writes_ref04At, Vref04At_eq, Glaw16Writes_ref04Home, Vref04Home_eq, hB, hR, hI, lbWi, kp.l, kp.t1, kp.t2, kp.t5, kp.t7, kp.t9, kp.t10, kp.t11, kp.t13, kp.t14, kp.t15, lenV_sl, Int.toNat_natCast, bft, btf, gtst, st_len, hlo, Int.lt_irrefl, pad, lightV, bt, bf, evs, gt, st, binV, arith, isSh, storeV, all1, idxAV, fieldV, faddrV, iaddrSV, iaddrAV, pickV, convV, unV, eqbV, eqpV, extV, mm2, mmV, nilckV, ress, res1, retV, Value.cells, reduceIte, reduceCtorEq, Int.reduceLT, Int.reduceLE, Int.reduceToNat, Int.reduceAdd, Int.reduceSub, Int.reduceMul, Int.reduceNeg, Nat.reduceMul, Nat.reduceAdd, Nat.reduceSub, Nat.reduceBEq, Nat.reduceEqDiff, Nat.reduceLT, Nat.reduceLeDiff, Int.reduceBEq, Int.reduceEq, Nat.reducePow, Int.reducePow, IntWalk.i64_in, IntKind.bits, eqAV, eqL, leafEq, andO, fillV, buildSV, Int.reduceGT, Int.reduceGE, Int.reduceBNe, IntWalk.u64_in, newsV_s, tassV, isnV, slcV, slcAV, slcTV, slcB, appNew, Option.bind_some, Option.bind_none, eqsV, lookV, mupdV, mdelV, mkM, ev1, ev2]
    refine ok_some (.inr ⟨by simp, rfl, rfl, rfl, ⟨?_, ?_, ?_, ?_, ?_, ?_, ?_, ?_, ?_, ?_, ?_⟩⟩)
    all_goals simp (maxSteps := 10000000) (disch := omega) only [kp.l, kp.t1, kp.t2, kp.t5, kp.t7, kp.t9, kp.t10, kp.t11, kp.t13, kp.t14, kp.t15, lenV_sl, Int.toNat_natCast, bft, btf, gtst, st_len, Nat.reduceAdd, Int.cast_ofNat_Int, cond_true, cond_false, Nat.reduceBEq, Nat.reduceLT, decide_true, beq_self_eq_true, if_true, if_false]
  have hin' : (k : Int) < (l.length : Int) := by omega
  have k0 : (0 : Int) ≤ (k : Int) := by omega
  obtain ⟨bv, ov, cv, rfl, _, rv⟩ := ho.at (by omega)
  have r1 : rdO H B bv (ov + k * 2) 1 (rdB B bv (ov + k * 2) 1) = some [.int .i64 (l.getD k y2).a] := (rv H Fr.refl k 0 1 y2 hin (by omega)).trans rfl
  cases ht : twB l a k with
  | true =>
    have ht1 : twB l a (k + 1) = true := decide_eq_true (let ⟨j, hj, e⟩ := of_decide_eq_true ht; ⟨j, by omega, e⟩)
    rw [ht] at kp
    simp -implicitDefEqProofs (maxSteps := 10000000) (disch := omega) only [Tlaw16Writes, Llaw16Writes, Glaw16Writes_law16pick, Vlaw16pick_eq, Glaw16Writes_ref04At, Vref04At_eq, Glaw16Writes_ref04Home, Vref04Home_eq, hB, hR, hI, lbWi, kp.l, kp.t1, kp.t2, kp.t5, kp.t7, kp.t9, kp.t10, kp.t11, kp.t13, kp.t14, kp.t15, lenV_sl, Int.toNat_natCast, bft, btf, gtst, st_len, hlo, hin', hin, k0, pad, lightV, bt, bf, evs, gt, st, binV, arith, isSh, storeV, all1, idxAV, fieldV, faddrV, iaddrSV, iaddrAV, pickV, convV, unV, eqbV, eqpV, extV, mm2, mmV, nilckV, ress, res1, retV, Value.cells, reduceIte, reduceCtorEq, Int.reduceLT, Int.reduceLE, Int.reduceToNat, Int.reduceAdd, Int.reduceSub, Int.reduceMul, Int.reduceNeg, Nat.reduceMul, Nat.reduceAdd, Nat.reduceSub, Nat.reduceBEq, Nat.reduceEqDiff, Nat.reduceLT, Nat.reduceLeDiff, Int.reduceBEq, Int.reduceEq, Nat.reducePow, Int.reducePow, IntWalk.i64_in, IntKind.bits, eqAV, eqL, leafEq, andO, fillV, buildSV, Int.reduceGT, Int.reduceGE, Int.reduceBNe, IntWalk.u64_in, newsV_s, tassV, isnV, slcV, slcAV, slcTV, slcB, appNew, Option.bind_some, Option.bind_none, eqsV, lookV, mupdV, mdelV, mkM, ev1, ev2]
    refine ok_some (.inl ⟨rfl, l.length - (k + 1), by omega, _, k + 1, rfl, ⟨?_, ?_, ?_, ?_, ?_, ?_, ?_, ?_, ?_, ?_, ?_⟩, by omega, rfl⟩)
    all_goals simp (maxSteps := 10000000) (disch := omega) only [kp.l, kp.t1, kp.t2, kp.t5, kp.t7, kp.t9, kp.t10, kp.t11, kp.t13, kp.t14, kp.t15, lenV_sl, Int.toNat_natCast, bft, btf, gtst, st_len, hc1, ht1, Nat.reduceAdd, Int.cast_ofNat_Int, cond_true, cond_false, Nat.reduceBEq, Nat.reduceLT, decide_true, beq_self_eq_true, if_true, if_false]
  | false =>
    have hno := of_decide_eq_false ht
    rw [ht] at kp
    by_cases he : (l.getD k y2).a = a
    · have ht1 : twB l a (k + 1) = true := decide_eq_true ⟨k, by omega, he⟩
      have hb : ((l.getD k y2).a == a) = true := by simpa using he
      simp -implicitDefEqProofs (maxSteps := 10000000) (disch := omega) only [Tlaw16Writes, Llaw16Writes, Glaw16Writes_law16pick, Vlaw16pick_eq, Glaw16Writes_ref04At, Vref04At_eq, Glaw16Writes_ref04Home, Vref04Home_eq, hB, hR, hI, lbWi, kp.l, kp.t1, kp.t2, kp.t5, kp.t7, kp.t9, kp.t10, kp.t11, kp.t13, kp.t14, kp.t15, lenV_sl, Int.toNat_natCast, bft, btf, gtst, st_len, hlo, hin', hin, k0, r1, lm, bm, rm, hb, pad, lightV, bt, bf, evs, gt, st, binV, arith, isSh, storeV, all1, idxAV, fieldV, faddrV, iaddrSV, iaddrAV, pickV, convV, unV, eqbV, eqpV, extV, mm2, mmV, nilckV, ress, res1, retV, Value.cells, reduceIte, reduceCtorEq, Int.reduceLT, Int.reduceLE, Int.reduceToNat, Int.reduceAdd, Int.reduceSub, Int.reduceMul, Int.reduceNeg, Nat.reduceMul, Nat.reduceAdd, Nat.reduceSub, Nat.reduceBEq, Nat.reduceEqDiff, Nat.reduceLT, Nat.reduceLeDiff, Int.reduceBEq, Int.reduceEq, Nat.reducePow, Int.reducePow, IntWalk.i64_in, IntKind.bits, eqAV, eqL, leafEq, andO, fillV, buildSV, Int.reduceGT, Int.reduceGE, Int.reduceBNe, IntWalk.u64_in, newsV_s, tassV, isnV, slcV, slcAV, slcTV, slcB, appNew, Option.bind_some, Option.bind_none, eqsV, lookV, mupdV, mdelV, mkM, ev1, ev2]
      refine ok_some (.inl ⟨rfl, l.length - (k + 1), by omega, _, k + 1, rfl, ⟨?_, ?_, ?_, ?_, ?_, ?_, ?_, ?_, ?_, ?_, ?_⟩, by omega, rfl⟩)
      all_goals simp (maxSteps := 10000000) (disch := omega) only [kp.l, kp.t1, kp.t2, kp.t5, kp.t7, kp.t9, kp.t10, kp.t11, kp.t13, kp.t14, kp.t15, lenV_sl, Int.toNat_natCast, bft, btf, gtst, st_len, hc1, ht1, Nat.reduceAdd, Int.cast_ofNat_Int, cond_true, cond_false, Nat.reduceBEq, Nat.reduceLT, decide_true, beq_self_eq_true, if_true, if_false]
    · have ht1 : twB l a (k + 1) = false := decide_eq_false fun ⟨j, hj, e⟩ => by
        by_cases hjk : j = k
        · rw [hjk] at e; exact he e
        · exact hno ⟨j, by omega, e⟩
      have hb := beqI he
      simp -implicitDefEqProofs (maxSteps := 10000000) (disch := omega) only [Tlaw16Writes, Llaw16Writes, Glaw16Writes_law16pick, Vlaw16pick_eq, Glaw16Writes_ref04At, Vref04At_eq, Glaw16Writes_ref04Home, Vref04Home_eq, hB, hR, hI, lbWi, kp.l, kp.t1, kp.t2, kp.t5, kp.t7, kp.t9, kp.t10, kp.t11, kp.t13, kp.t14, kp.t15, lenV_sl, Int.toNat_natCast, bft, btf, gtst, st_len, hlo, hin', hin, k0, r1, lm, bm, rm, hb, pad, lightV, bt, bf, evs, gt, st, binV, arith, isSh, storeV, all1, idxAV, fieldV, faddrV, iaddrSV, iaddrAV, pickV, convV, unV, eqbV, eqpV, extV, mm2, mmV, nilckV, ress, res1, retV, Value.cells, reduceIte, reduceCtorEq, Int.reduceLT, Int.reduceLE, Int.reduceToNat, Int.reduceAdd, Int.reduceSub, Int.reduceMul, Int.reduceNeg, Nat.reduceMul, Nat.reduceAdd, Nat.reduceSub, Nat.reduceBEq, Nat.reduceEqDiff, Nat.reduceLT, Nat.reduceLeDiff, Int.reduceBEq, Int.reduceEq, Nat.reducePow, Int.reducePow, IntWalk.i64_in, IntKind.bits, eqAV, eqL, leafEq, andO, fillV, buildSV, Int.reduceGT, Int.reduceGE, Int.reduceBNe, IntWalk.u64_in, newsV_s, tassV, isnV, slcV, slcAV, slcTV, slcB, appNew, Option.bind_some, Option.bind_none, eqsV, lookV, mupdV, mdelV, mkM, ev1, ev2]
      refine ok_some (.inl ⟨rfl, l.length - (k + 1), by omega, _, k + 1, rfl, ⟨?_, ?_, ?_, ?_, ?_, ?_, ?_, ?_, ?_, ?_, ?_⟩, by omega, rfl⟩)
      all_goals simp (maxSteps := 10000000) (disch := omega) only [kp.l, kp.t1, kp.t2, kp.t5, kp.t7, kp.t9, kp.t10, kp.t11, kp.t13, kp.t14, kp.t15, lenV_sl, Int.toNat_natCast, bft, btf, gtst, st_len, hc1, ht1, Nat.reduceAdd, Int.cast_ofNat_Int, cond_true, cond_false, Nat.reduceBEq, Nat.reduceLT, decide_true, beq_self_eq_true, if_true, if_false]
theorem okL_app {p h : Nat} {l : List W2} {x : W2} (ho : okL p h l l.length) (hx : okP p h x.a) (hn : ¬ ∃ j, j < l.length ∧ (l.getD j y2).a = x.a) : okL p h (l ++ [x]) (l ++ [x]).length := by
  have hg : ∀ i, i < l.length → (l ++ [x]).getD i y2 = l.getD i y2 := fun i hi => by
    rw [List.getD_eq_getElem?_getD, List.getElem?_append_left hi, ← List.getD_eq_getElem?_getD]
  have hl : (l ++ [x]).getD l.length y2 = x := by
    rw [List.getD_eq_getElem?_getD, List.getElem?_append_right (Nat.le_refl _), Nat.sub_self]; rfl
  intro i hi
  rw [List.length_append, List.length_singleton] at hi
  by_cases e : i = l.length
  · subst e
    rw [hl]
    refine ⟨hx, fun j hj => ?_⟩
    rw [hg j hj]
    exact fun e => hn ⟨j, hj, e⟩
  · rw [hg i (by omega)]
    refine ⟨(ho i (by omega)).1, fun j hj => ?_⟩
    rw [hg j (by omega)]
    exact (ho i (by omega)).2 j hj
set_option maxHeartbeats 8000000 in
theorem loopWo {B : OH} {H : HL} {N : St} {vr : Value} {raw : List Q2} {kk p cc h c : Nat} (C : Cf kk p cc h) (hr : SlR q2 2 B H vr raw) (hrs : Q2s raw) (hN : good B H N) (bc : B c = none) (lc : lk H c = some (.cells [.int .i64 (kk : Int), .int .i64 (p : Int), .int .i64 (cc : Int)] 3)) {ts : List Value} (kp : KWo p h c vr (.slice none 0 0) 0 ts) {F : Nat} (hF : 3000 + 14 + 1 ≤ F) :
    Ok (exec B { f := Glaw16Writes B } F (LC.loop lbWo) ⟨ts, H, N⟩) (fun x s => x = .exit 0 ∧ good B s.H s.N ∧ Fr H s.H ∧ ∃ vo l i, SlM w2 2 B H s.H vo l ∧ okL p h l l.length ∧ W2s l ∧ l.length ≤ 14 ∧ KWo p h c vr vo i s.t) := by
  have hlr := hr.len
  have hcp := C.p
  have hch := C.h
  have b23 : bs p h 3 = bs p h 2 + 2 * p := by rw [bs_2, bs_3]; omega
  have b45 := bs4_5 (p := p) (h := h)
  have b5 := bs5_b C
  have b24 : bs p h 3 ≤ bs p h 4 := by rw [bs_3, bs_4]; omega
  refine loop_rule (n0 := 3000) (fun q s => ∃ ts H' N' vo l, ∃ i : Nat, s = ⟨ts, H', N'⟩ ∧ KWo p h c vr vo i ts ∧ good B H' N' ∧ Fr H H' ∧ SlM w2 2 B H H' vo l ∧ okL p h l l.length ∧ W2s l ∧ l.length ≤ i ∧ i ≤ 14 ∧ q = 14 - i) _ ?_ 14 _ ⟨ts, H, N, _, [], 0, rfl, kp, hN, Fr.refl, .inl ⟨rfl, rfl⟩, fun i hi => (by simp at hi), fun x hx => (by cases hx), by simp, by omega, rfl⟩ _ hF
  clear kp hF F ts hN N
  rintro z q s ⟨ts, H1, N1, vo, l, i, rfl, kp, g, fr, so, hok, hws, hli, hi, rfl⟩
  have hB := good_B g
  have hR := good_rdB g
  have hI := beqN g.1.1
  have hG : ∃ H N, good B H N := ⟨H1, N1, g⟩
  have lc1 := fr _ _ lc
  have nc := ne_N g lc1
  have nc' := ne_N' g lc1
  have rc := fun o n => rdB_none (o := o) (n := n) bc
  have hc1 : ((i + 1 : Nat) : Int) = (i : Int) + 1 := by omega
  by_cases hin : i < raw.length
  case neg =>
    have hn' : ¬ (i : Int) < (raw.length : Int) := by omega
    simp -implicitDefEqProofs (maxSteps := 10000000) (disch := omega) only [Tlaw16Writes, Llaw16Writes, Glaw16Writes_law16pick, Vlaw16pick_eq, Glaw16Writes_ref04At, Vref04At_eq, Glaw16Writes_ref04Home, Vref04Home_eq, hB, hR, hI, lbWo, kp.l, kp.t1, kp.t2, kp.t5, kp.t7, kp.t9, kp.t10, kp.t11, lenV_sl, Int.toNat_natCast, bft, btf, gtst, st_len, hlr, hn', pad, lightV, bt, bf, evs, gt, st, binV, arith, isSh, storeV, all1, idxAV, fieldV, faddrV, iaddrSV, iaddrAV, pickV, convV, unV, eqbV, eqpV, extV, mm2, mmV, nilckV, ress, res1, retV, Value.cells, reduceIte, reduceCtorEq, Int.reduceLT, Int.reduceLE, Int.reduceToNat, Int.reduceAdd, Int.reduceSub, Int.reduceMul, Int.reduceNeg, Nat.reduceMul, Nat.reduceAdd, Nat.reduceSub, Nat.reduceBEq, Nat.reduceEqDiff, Nat.reduceLT, Nat.reduceLeDiff, Int.reduceBEq, Int.reduceEq, Nat.reducePow, Int.reducePow, IntWalk.i64_in, IntKind.bits, eqAV, eqL, leafEq, andO, fillV, buildSV, Int.reduceGT, Int.reduceGE, Int.reduceBNe, IntWalk.u64_in, newsV_s, tassV, isnV, slcV, slcAV, slcTV, slcB, appNew, Option.bind_some, Option.bind_none, eqsV, lookV, mupdV, mdelV, mkM, ev1, ev2]
    refine ok_some (.inr ⟨by simp, rfl, g, fr, vo, l, i, so, hok, hws, by omega, ⟨?_, ?_, ?_, ?_, ?_, ?_, ?_, ?_⟩⟩)
    all_goals simp (maxSteps := 10000000) (disch := omega) only [kp.l, kp.t1, kp.t2, kp.t5, kp.t7, kp.t9, kp.t10, kp.t11, lenV_sl, Int.toNat_natCast, bft, btf, gtst, st_len, Nat.reduceAdd, Int.cast_ofNat_Int, cond_true, cond_false, Nat.reduceBEq, Nat.reduceLT, decide_true, beq_self_eq_true, if_true, if_false]
  have hin' : (i : Int) < (raw.length : Int) := by omega
  by_cases h14 : i < 14
  case neg =>
    have hn' : ¬ (i : Int) < 14 := by omega
    simp -implicitDefEqProofs (maxSteps := 10000000) (disch := omega) only [Tlaw16Writes, Llaw16Writes, Glaw16Writes_law16pick, Vlaw16pick_eq, Glaw16Writes_ref04At, Vref04At_eq, Glaw16Writes_ref04Home, Vref04Home_eq, hB, hR, hI, lbWo, kp.l, kp.t1, kp.t2, kp.t5, kp.t7, kp.t9, kp.t10, kp.t11, lenV_sl, Int.toNat_natCast, bft, btf, gtst, st_len, hlr, hin', hn', pad, lightV, bt, bf, evs, gt, st, binV, arith, isSh, storeV, all1, idxAV, fieldV, faddrV, iaddrSV, iaddrAV, pickV, convV, unV, eqbV, eqpV, extV, mm2, mmV, nilckV, ress, res1, retV, Value.cells, reduceIte, reduceCtorEq, Int.reduceLT, Int.reduceLE, Int.reduceToNat, Int.reduceAdd, Int.reduceSub, Int.reduceMul, Int.reduceNeg, Nat.reduceMul, Nat.reduceAdd, Nat.reduceSub, Nat.reduceBEq, Nat.reduceEqDiff, Nat.reduceLT, Nat.reduceLeDiff, Int.reduceBEq, Int.reduceEq, Nat.reducePow, Int.reducePow, IntWalk.i64_in, IntKind.bits, eqAV, eqL, leafEq, andO, fillV, buildSV, Int.reduceGT, Int.reduceGE, Int.reduceBNe, IntWalk.u64_in, newsV_s, tassV, isnV, slcV, slcAV, slcTV, slcB, appNew, Option.bind_some, Option.bind_none, eqsV, lookV, mupdV, mdelV, mkM, ev1, ev2]
    refine ok_some (.inr ⟨by simp, rfl, g, fr, vo, l, i, so, hok, hws, by omega, ⟨?_, ?_, ?_, ?_, ?_, ?_, ?_, ?_⟩⟩)
    all_goals simp (maxSteps := 10000000) (disch := omega) only [kp.l, kp.t1, kp.t2, kp.t5, kp.t7, kp.t9, kp.t10, kp.t11, lenV_sl, Int.toNat_natCast, bft, btf, gtst, st_len, Nat.reduceAdd, Int.cast_ofNat_Int, cond_true, cond_false, Nat.reduceBEq, Nat.reduceLT, decide_true, beq_self_eq_true, if_true, if_false]
  have h14' : (i : Int) < 14 := by omega
  have i0 : (0 : Int) ≤ (i : Int) := by omega
  obtain ⟨br, orr, cr, rfl, _, rr⟩ := hr.at (by omega)
  have r1 : rdO H1 B br (orr + i * 2) 1 (rdB B br (orr + i * 2) 1) = some [.int .i64 (raw.getD i q20).a] := (rr H1 fr i 0 1 q20 hin (by omega)).trans rfl
  have r2 : rdO H1 B br (orr + i * 2 + 1) 1 (rdB B br (orr + i * 2 + 1) 1) = some [.int .i64 (raw.getD i q20).b] := (rr H1 fr i 1 1 q20 hin (by omega)).trans rfl
  have hri := hrs (raw.getD i q20) (List.mem_of_getElem? (some_getD (d := q20) hin))
  generalize raw.getD i q20 = x at r1 r2 hri
  obtain ⟨xa, xb⟩ := x
  simp only at r1 r2 hri
  have e1 := fpick hG xa (2 * (p : Int) + (h : Int)) hri.1 (by omega)
  have e2 := fpick hG xb 20 hri.2 (by omega)
  have k1 := pk_b (x := xa) (n := 2 * (p : Int) + (h : Int)) (by omega)
  have k2 := pk_b (x := xb) (n := 20) (by omega)
  generalize pk xa (2 * (p : Int) + (h : Int)) = at_ at *
  generalize pk xb 20 = w at *
  have main : ∀ (a : Int), okP p h a → ∀ (ts' : List Value), KWi p h c (.slice (some ⟨br, orr, none⟩) raw.length cr) vo i (N1.n 0) false 0 ts' →
      ∀ F, 1015 ≤ F → Ok (exec B { f := Glaw16Writes B } F (LC.loop lbWi) ⟨ts', (N1.n 0, .cells [.int .i64 a, .int .u64 w] 2) :: H1, sh N1⟩) (fun x s => x = .exit 2 ∧ s.H = (N1.n 0, .cells [.int .i64 a, .int .u64 w] 2) :: H1 ∧ s.N = sh N1 ∧ KWi p h c (.slice (some ⟨br, orr, none⟩) raw.length cr) vo i (N1.n 0) (twB l a l.length) l.length s.t) := fun a ha ts' kp' F hF =>
    loopWi ((so.rd w2_len).mono (fr_new g Fr.refl 0)) (by omega) (good_new g) (hB 0) lk_top kp' (by omega)
  by_cases hge : at_ ≥ 2 * (p : Int)
  · have hokp : okP p h (((bs p h 4 : Nat) : Int) + at_ - 2 * (p : Int)) := by unfold okP; omega
    simp -implicitDefEqProofs (maxSteps := 10000000) (disch := omega) only [Tlaw16Writes, Llaw16Writes, Glaw16Writes_law16pick, Vlaw16pick_eq, Glaw16Writes_ref04At, Vref04At_eq, Glaw16Writes_ref04Home, Vref04Home_eq, hB, hR, hI, lbWo, kp.l, kp.t1, kp.t2, kp.t5, kp.t7, kp.t9, kp.t10, kp.t11, lenV_sl, Int.toNat_natCast, bft, btf, gtst, st_len, hlr, hin, hin', h14', i0, r1, r2, e1, e2, lc1, bc, rc, nc, nc', hge, pad, lightV, bt, bf, evs, gt, st, binV, arith, isSh, storeV, all1, idxAV, fieldV, faddrV, iaddrSV, iaddrAV, pickV, convV, unV, eqbV, eqpV, extV, mm2, mmV, nilckV, ress, res1, retV, Value.cells, reduceIte, reduceCtorEq, Int.reduceLT, Int.reduceLE, Int.reduceToNat, Int.reduceAdd, Int.reduceSub, Int.reduceMul, Int.reduceNeg, Nat.reduceMul, Nat.reduceAdd, Nat.reduceSub, Nat.reduceBEq, Nat.reduceEqDiff, Nat.reduceLT, Nat.reduceLeDiff, Int.reduceBEq, Int.reduceEq, Nat.reducePow, Int.reducePow, IntWalk.i64_in, IntKind.bits, eqAV, eqL, leafEq, andO, fillV, buildSV, Int.reduceGT, Int.reduceGE, Int.reduceBNe, IntWalk.u64_in, newsV_s, tassV, isnV, slcV, slcAV, slcTV, slcB, appNew, Option.bind_some, Option.bind_none, eqsV, lookV, mupdV, mdelV, mkM, ev1, ev2]
    generalize hX : exec B _ _ (LC.loop _) _ = o
    obtain ⟨y, ⟨ts2, H2, N2⟩, rfl, rfl, rfl, rfl, kp2⟩ := (show Ok o _ by rw [← hX]; exact main _ hokp _ ⟨by simp (maxSteps := 10000000) (disch := omega) only [ kp.l, kp.t1, kp.t2, kp.t5, kp.t7, kp.t9, kp.t10, kp.t11, lenV_sl, Int.toNat_natCast, bft, btf, gtst, st_len, Nat.reduceAdd, Int.cast_ofNat_Int, cond_true, cond_false, Nat.reduceBEq, Nat.reduceLT, decide_true, beq_self_eq_true, if_true, if_false, Int.cast_ofNat_Int], by simp (maxSteps := 10000000) (disch := omega) only [ kp.l, kp.t1, kp.t2, kp.t5, kp.t7, kp.t9, kp.t10, kp.t11, lenV_sl, Int.toNat_natCast, bft, btf, gtst, st_len, Nat.reduceAdd, Int.cast_ofNat_Int, cond_true, cond_false, Nat.reduceBEq, Nat.reduceLT, decide_true, beq_self_eq_true, if_true, if_false, Int.cast_ofNat_Int], by simp (maxSteps := 10000000) (disch := omega) only [ kp.l, kp.t1, kp.t2, kp.t5, kp.t7, kp.t9, kp.t10, kp.t11, lenV_sl, Int.toNat_natCast, bft, btf, gtst, st_len, Nat.reduceAdd, Int.cast_ofNat_Int, cond_true, cond_false, Nat.reduceBEq, Nat.reduceLT, decide_true, beq_self_eq_true, if_true, if_false, Int.cast_ofNat_Int], by simp (maxSteps := 10000000) (disch := omega) only [ kp.l, kp.t1, kp.t2, kp.t5, kp.t7, kp.t9, kp.t10, kp.t11, lenV_sl, Int.toNat_natCast, bft, btf, gtst, st_len, Nat.reduceAdd, Int.cast_ofNat_Int, cond_true, cond_false, Nat.reduceBEq, Nat.reduceLT, decide_true, beq_self_eq_true, if_true, if_false, Int.cast_ofNat_Int], by simp (maxSteps := 10000000) (disch := omega) only [ kp.l, kp.t1, kp.t2, kp.t5, kp.t7, kp.t9, kp.t10, kp.t11, lenV_sl, Int.toNat_natCast, bft, btf, gtst, st_len, Nat.reduceAdd, Int.cast_ofNat_Int, cond_true, cond_false, Nat.reduceBEq, Nat.reduceLT, decide_true, beq_self_eq_true, if_true, if_false, Int.cast_ofNat_Int], by simp (maxSteps := 10000000) (disch := omega) only [ kp.l, kp.t1, kp.t2, kp.t5, kp.t7, kp.t9, kp.t10, kp.t11, lenV_sl, Int.toNat_natCast, bft, btf, gtst, st_len, Nat.reduceAdd, Int.cast_ofNat_Int, cond_true, cond_false, Nat.reduceBEq, Nat.reduceLT, decide_true, beq_self_eq_true, if_true, if_false, Int.cast_ofNat_Int], by simp (maxSteps := 10000000) (disch := omega) only [ kp.l, kp.t1, kp.t2, kp.t5, kp.t7, kp.t9, kp.t10, kp.t11, lenV_sl, Int.toNat_natCast, bft, btf, gtst, st_len, Nat.reduceAdd, Int.cast_ofNat_Int, cond_true, cond_false, Nat.reduceBEq, Nat.reduceLT, decide_true, beq_self_eq_true, if_true, if_false, Int.cast_ofNat_Int], by simp (maxSteps := 10000000) (disch := omega) only [ kp.l, kp.t1, kp.t2, kp.t5, kp.t7, kp.t9, kp.t10, kp.t11, lenV_sl, Int.toNat_natCast, bft, btf, gtst, st_len, Nat.reduceAdd, Int.cast_ofNat_Int, cond_true, cond_false, Nat.reduceBEq, Nat.reduceLT, decide_true, beq_self_eq_true, if_true, if_false, Int.cast_ofNat_Int], by simp (maxSteps := 10000000) (disch := omega) only [ kp.l, kp.t1, kp.t2, kp.t5, kp.t7, kp.t9, kp.t10, kp.t11, lenV_sl, Int.toNat_natCast, bft, btf, gtst, st_len, Nat.reduceAdd, Int.cast_ofNat_Int, cond_true, cond_false, Nat.reduceBEq, Nat.reduceLT, decide_true, beq_self_eq_true, if_true, if_false, Int.cast_ofNat_Int], by simp (maxSteps := 10000000) (disch := omega) only [ kp.l, kp.t1, kp.t2, kp.t5, kp.t7, kp.t9, kp.t10, kp.t11, lenV_sl, Int.toNat_natCast, bft, btf, gtst, st_len, Nat.reduceAdd, Int.cast_ofNat_Int, cond_true, cond_false, Nat.reduceBEq, Nat.reduceLT, decide_true, beq_self_eq_true, if_true, if_false, Int.cast_ofNat_Int], by simp (maxSteps := 10000000) (disch := omega) only [ kp.l, kp.t1, kp.t2, kp.t5, kp.t7, kp.t9, kp.t10, kp.t11, lenV_sl, Int.toNat_natCast, bft, btf, gtst, st_len, Nat.reduceAdd, Int.cast_ofNat_Int, cond_true, cond_false, Nat.reduceBEq, Nat.reduceLT, decide_true, beq_self_eq_true, if_true, if_false, Int.cast_ofNat_Int]⟩ _ (by omega))
    simp only at kp2
    clear kp
    have kp := kp2
    have g2 : good B ((N1.n 0, .cells [.int .i64 (((bs p h 4 : Nat) : Int) + at_ - 2 * (p : Int)), .int .u64 w] 2) :: H1) (sh N1) := good_new g
    have f2 : Fr H1 ((N1.n 0, .cells [.int .i64 (((bs p h 4 : Nat) : Int) + at_ - 2 * (p : Int)), .int .u64 w] 2) :: H1) := fr_new g Fr.refl 0
    have b0 := hB 0
    have rb0 := fun o n => rdB_none (o := o) (n := n) b0
    cases ht : twB l (((bs p h 4 : Nat) : Int) + at_ - 2 * (p : Int)) l.length with
    | true =>
      rw [ht] at kp
      simp -implicitDefEqProofs (maxSteps := 10000000) (disch := omega) only [Tlaw16Writes, Llaw16Writes, Glaw16Writes_law16pick, Vlaw16pick_eq, Glaw16Writes_ref04At, Vref04At_eq, Glaw16Writes_ref04Home, Vref04Home_eq, hB, hR, hI, lbWo, kp.l, kp.t1, kp.t2, kp.t5, kp.t7, kp.t9, kp.t10, kp.t11, kp.t13, kp.t14, kp.t15, lenV_sl, Int.toNat_natCast, bft, btf, gtst, st_len, pad, lightV, bt, bf, evs, gt, st, binV, arith, isSh, storeV, all1, idxAV, fieldV, faddrV, iaddrSV, iaddrAV, pickV, convV, unV, eqbV, eqpV, extV, mm2, mmV, nilckV, ress, res1, retV, Value.cells, reduceIte, reduceCtorEq, Int.reduceLT, Int.reduceLE, Int.reduceToNat, Int.reduceAdd, Int.reduceSub, Int.reduceMul, Int.reduceNeg, Nat.reduceMul, Nat.reduceAdd, Nat.reduceSub, Nat.reduceBEq, Nat.reduceEqDiff, Nat.reduceLT, Nat.reduceLeDiff, Int.reduceBEq, Int.reduceEq, Nat.reducePow, Int.reducePow, IntWalk.i64_in, IntKind.bits, eqAV, eqL, leafEq, andO, fillV, buildSV, Int.reduceGT, Int.reduceGE, Int.reduceBNe, IntWalk.u64_in, newsV_s, tassV, isnV, slcV, slcAV, slcTV, slcB, appNew, Option.bind_some, Option.bind_none, eqsV, lookV, mupdV, mdelV, mkM, ev1, ev2]
      refine ok_some (.inl ⟨rfl, 14 - (i + 1), by omega, _, _, _, vo, l, i + 1, rfl, ⟨?_, ?_, ?_, ?_, ?_, ?_, ?_, ?_⟩, g2, fr.trans f2, so.mono fun y c _ e => f2 y c e, hok, hws, by omega, by omega, rfl⟩)
      all_goals simp (maxSteps := 10000000) (disch := omega) only [kp.l, kp.t1, kp.t2, kp.t5, kp.t7, kp.t9, kp.t10, kp.t11, kp.t13, kp.t14, kp.t15, lenV_sl, Int.toNat_natCast, bft, btf, gtst, st_len, hc1, Nat.reduceAdd, Int.cast_ofNat_Int, cond_true, cond_false, Nat.reduceBEq, Nat.reduceLT, decide_true, beq_self_eq_true, if_true, if_false]
    | false =>
      rw [ht] at kp
      obtain ⟨v4, H4, N4, e4, g4, r4, _, s4, _⟩ := push_specM w2_len (bytes := 16) g2 (fr.trans f2) (so.mono fun y c _ e => f2 y c e) ⟨((bs p h 4 : Nat) : Int) + at_ - 2 * (p : Int), w⟩ rfl (by omega) (by omega)
      simp only [w2, sh_app] at e4
      have hok2 := okL_app (x := ⟨((bs p h 4 : Nat) : Int) + at_ - 2 * (p : Int), w⟩) hok hokp (of_decide_eq_false ht)
      have hws2 : W2s (l ++ [⟨((bs p h 4 : Nat) : Int) + at_ - 2 * (p : Int), w⟩]) := fun y hy => by
        rcases List.mem_append.1 hy with h' | h'
        · exact hws y h'
        · rw [List.mem_singleton.1 h']
          have := okP_b C hokp
          unfold i64R u64R; simp only; omega
      simp -implicitDefEqProofs (maxSteps := 10000000) (disch := omega) only [Tlaw16Writes, Llaw16Writes, Glaw16Writes_law16pick, Vlaw16pick_eq, Glaw16Writes_ref04At, Vref04At_eq, Glaw16Writes_ref04Home, Vref04Home_eq, hB, hR, hI, lbWo, kp.l, kp.t1, kp.t2, kp.t5, kp.t7, kp.t9, kp.t10, kp.t11, kp.t13, kp.t14, kp.t15, lenV_sl, Int.toNat_natCast, bft, btf, gtst, st_len, b0, rb0, e4, pad, lightV, bt, bf, evs, gt, st, binV, arith, isSh, storeV, all1, idxAV, fieldV, faddrV, iaddrSV, iaddrAV, pickV, convV, unV, eqbV, eqpV, extV, mm2, mmV, nilckV, ress, res1, retV, Value.cells, reduceIte, reduceCtorEq, Int.reduceLT, Int.reduceLE, Int.reduceToNat, Int.reduceAdd, Int.reduceSub, Int.reduceMul, Int.reduceNeg, Nat.reduceMul, Nat.reduceAdd, Nat.reduceSub, Nat.reduceBEq, Nat.reduceEqDiff, Nat.reduceLT, Nat.reduceLeDiff, Int.reduceBEq, Int.reduceEq, Nat.reducePow, Int.reducePow, IntWalk.i64_in, IntKind.bits, eqAV, eqL, leafEq, andO, fillV, buildSV, Int.reduceGT, Int.reduceGE, Int.reduceBNe, IntWalk.u64_in, newsV_s, tassV, isnV, slcV, slcAV, slcTV, slcB, appNew, Option.bind_some, Option.bind_none, eqsV, lookV, mupdV, mdelV, mkM, ev1, ev2]
      refine ok_some (.inl ⟨rfl, 14 - (i + 1), by omega, _, H4, N4, v4, _, i + 1, rfl, ⟨?_, ?_, ?_, ?_, ?_, ?_, ?_, ?_⟩, g4, r4, s4.toM, hok2, hws2, by rw [List.length_append]; simp; omega, by omega, rfl⟩)
      all_goals simp (maxSteps := 10000000) (disch := omega) only [kp.l, kp.t1, kp.t2, kp.t5, kp.t7, kp.t9, kp.t10, kp.t11, kp.t13, kp.t14, kp.t15, lenV_sl, Int.toNat_natCast, bft, btf, gtst, st_len, hc1, Nat.reduceAdd, Int.cast_ofNat_Int, cond_true, cond_false, Nat.reduceBEq, Nat.reduceLT, decide_true, beq_self_eq_true, if_true, if_false]
  · have hokp : okP p h (((bs p h 2 : Nat) : Int) + at_) := by unfold okP; omega
    simp -implicitDefEqProofs (maxSteps := 10000000) (disch := omega) only [Tlaw16Writes, Llaw16Writes, Glaw16Writes_law16pick, Vlaw16pick_eq, Glaw16Writes_ref04At, Vref04At_eq, Glaw16Writes_ref04Home, Vref04Home_eq, hB, hR, hI, lbWo, kp.l, kp.t1, kp.t2, kp.t5, kp.t7, kp.t9, kp.t10, kp.t11, lenV_sl, Int.toNat_natCast, bft, btf, gtst, st_len, hlr, hin, hin', h14', i0, r1, r2, e1, e2, lc1, bc, rc, nc, nc', hge, pad, lightV, bt, bf, evs, gt, st, binV, arith, isSh, storeV, all1, idxAV, fieldV, faddrV, iaddrSV, iaddrAV, pickV, convV, unV, eqbV, eqpV, extV, mm2, mmV, nilckV, ress, res1, retV, Value.cells, reduceIte, reduceCtorEq, Int.reduceLT, Int.reduceLE, Int.reduceToNat, Int.reduceAdd, Int.reduceSub, Int.reduceMul, Int.reduceNeg, Nat.reduceMul, Nat.reduceAdd, Nat.reduceSub, Nat.reduceBEq, Nat.reduceEqDiff, Nat.reduceLT, Nat.reduceLeDiff, Int.reduceBEq, Int.reduceEq, Nat.reducePow, Int.reducePow, IntWalk.i64_in, IntKind.bits, eqAV, eqL, leafEq, andO, fillV, buildSV, Int.reduceGT, Int.reduceGE, Int.reduceBNe, IntWalk.u64_in, newsV_s, tassV, isnV, slcV, slcAV, slcTV, slcB, appNew, Option.bind_some, Option.bind_none, eqsV, lookV, mupdV, mdelV, mkM, ev1, ev2]
    generalize hX : exec B _ _ (LC.loop _) _ = o
    obtain ⟨y, ⟨ts2, H2, N2⟩, rfl, rfl, rfl, rfl, kp2⟩ := (show Ok o _ by rw [← hX]; exact main _ hokp _ ⟨by simp (maxSteps := 10000000) (disch := omega) only [ kp.l, kp.t1, kp.t2, kp.t5, kp.t7, kp.t9, kp.t10, kp.t11, lenV_sl, Int.toNat_natCast, bft, btf, gtst, st_len, Nat.reduceAdd, Int.cast_ofNat_Int, cond_true, cond_false, Nat.reduceBEq, Nat.reduceLT, decide_true, beq_self_eq_true, if_true, if_false, Int.cast_ofNat_Int], by simp (maxSteps := 10000000) (disch := omega) only [ kp.l, kp.t1, kp.t2, kp.t5, kp.t7, kp.t9, kp.t10, kp.t11, lenV_sl, Int.toNat_natCast, bft, btf, gtst, st_len, Nat.reduceAdd, Int.cast_ofNat_Int, cond_true, cond_false, Nat.reduceBEq, Nat.reduceLT, decide_true, beq_self_eq_true, if_true, if_false, Int.cast_ofNat_Int], by simp (maxSteps := 10000000) (disch := omega) only [ kp.l, kp.t1, kp.t2, kp.t5, kp.t7, kp.t9, kp.t10, kp.t11, lenV_sl, Int.toNat_natCast, bft, btf, gtst, st_len, Nat.reduceAdd, Int.cast_ofNat_Int, cond_true, cond_false, Nat.reduceBEq, Nat.reduceLT, decide_true, beq_self_eq_true, if_true, if_false, Int.cast_ofNat_Int], by simp (maxSteps := 10000000) (disch := omega) only [ kp.l, kp.t1, kp.t2, kp.t5, kp.t7, kp.t9, kp.t10, kp.t11, lenV_sl, Int.toNat_natCast, bft, btf, gtst, st_len, Nat.reduceAdd, Int.cast_ofNat_Int, cond_true, cond_false, Nat.reduceBEq, Nat.reduceLT, decide_true, beq_self_eq_true, if_true, if_false, Int.cast_ofNat_Int], by simp (maxSteps := 10000000) (disch := omega) only [ kp.l, kp.t1, kp.t2, kp.t5, kp.t7, kp.t9, kp.t10, kp.t11, lenV_sl, Int.toNat_natCast, bft, btf, gtst, st_len, Nat.reduceAdd, Int.cast_ofNat_Int, cond_true, cond_false, Nat.reduceBEq, Nat.reduceLT, decide_true, beq_self_eq_true, if_true, if_false, Int.cast_ofNat_Int], by simp (maxSteps := 10000000) (disch := omega) only [ kp.l, kp.t1, kp.t2, kp.t5, kp.t7, kp.t9, kp.t10, kp.t11, lenV_sl, Int.toNat_natCast, bft, btf, gtst, st_len, Nat.reduceAdd, Int.cast_ofNat_Int, cond_true, cond_false, Nat.reduceBEq, Nat.reduceLT, decide_true, beq_self_eq_true, if_true, if_false, Int.cast_ofNat_Int], by simp (maxSteps := 10000000) (disch := omega) only [ kp.l, kp.t1, kp.t2, kp.t5, kp.t7, kp.t9, kp.t10, kp.t11, lenV_sl, Int.toNat_natCast, bft, btf, gtst, st_len, Nat.reduceAdd, Int.cast_ofNat_Int, cond_true, cond_false, Nat.reduceBEq, Nat.reduceLT, decide_true, beq_self_eq_true, if_true, if_false, Int.cast_ofNat_Int], by simp (maxSteps := 10000000) (disch := omega) only [ kp.l, kp.t1, kp.t2, kp.t5, kp.t7, kp.t9, kp.t10, kp.t11, lenV_sl, Int.toNat_natCast, bft, btf, gtst, st_len, Nat.reduceAdd, Int.cast_ofNat_Int, cond_true, cond_false, Nat.reduceBEq, Nat.reduceLT, decide_true, beq_self_eq_true, if_true, if_false, Int.cast_ofNat_Int], by simp (maxSteps := 10000000) (disch := omega) only [ kp.l, kp.t1, kp.t2, kp.t5, kp.t7, kp.t9, kp.t10, kp.t11, lenV_sl, Int.toNat_natCast, bft, btf, gtst, st_len, Nat.reduceAdd, Int.cast_ofNat_Int, cond_true, cond_false, Nat.reduceBEq, Nat.reduceLT, decide_true, beq_self_eq_true, if_true, if_false, Int.cast_ofNat_Int], by simp (maxSteps := 10000000) (disch := omega) only [ kp.l, kp.t1, kp.t2, kp.t5, kp.t7, kp.t9, kp.t10, kp.t11, lenV_sl, Int.toNat_natCast, bft, btf, gtst, st_len, Nat.reduceAdd, Int.cast_ofNat_Int, cond_true, cond_false, Nat.reduceBEq, Nat.reduceLT, decide_true, beq_self_eq_true, if_true, if_false, Int.cast_ofNat_Int], by simp (maxSteps := 10000000) (disch := omega) only [ kp.l, kp.t1, kp.t2, kp.t5, kp.t7, kp.t9, kp.t10, kp.t11, lenV_sl, Int.toNat_natCast, bft, btf, gtst, st_len, Nat.reduceAdd, Int.cast_ofNat_Int, cond_true, cond_false, Nat.reduceBEq, Nat.reduceLT, decide_true, beq_self_eq_true, if_true, if_false, Int.cast_ofNat_Int]⟩ _ (by omega))
    simp only at kp2
    clear kp
    have kp := kp2
    have g2 : good B ((N1.n 0, .cells [.int .i64 (((bs p h 2 : Nat) : Int) + at_), .int .u64 w] 2) :: H1) (sh N1) := good_new g
    have f2 : Fr H1 ((N1.n 0, .cells [.int .i64 (((bs p h 2 : Nat) : Int) + at_), .int .u64 w] 2) :: H1) := fr_new g Fr.refl 0
    have b0 := hB 0
    have rb0 := fun o n => rdB_none (o := o) (n := n) b0
    cases ht : twB l (((bs p h 2 : Nat) : Int) + at_) l.length with
    | true =>
      rw [ht] at kp
      simp -implicitDefEqProofs (maxSteps := 10000000) (disch := omega) only [Tlaw16Writes, Llaw16Writes, Glaw16Writes_law16pick, Vlaw16pick_eq, Glaw16Writes_ref04At, Vref04At_eq, Glaw16Writes_ref04Home, Vref04Home_eq, hB, hR, hI, lbWo, kp.l, kp.t1, kp.t2, kp.t5, kp.t7, kp.t9, kp.t10, kp.t11, kp.t13, kp.t14, kp.t15, lenV_sl, Int.toNat_natCast, bft, btf, gtst, st_len, pad, lightV, bt, bf, evs, gt, st, binV, arith, isSh, storeV, all1, idxAV, fieldV, faddrV, iaddrSV, iaddrAV, pickV, convV, unV, eqbV, eqpV, extV, mm2, mmV, nilckV, ress, res1, retV, Value.cells, reduceIte, reduceCtorEq, Int.reduceLT, Int.reduceLE, Int.reduceToNat, Int.reduceAdd, Int.reduceSub, Int.reduceMul, Int.reduceNeg, Nat.reduceMul, Nat.reduceAdd, Nat.reduceSub, Nat.reduceBEq, Nat.reduceEqDiff, Nat.reduceLT, Nat.reduceLeDiff, Int.reduceBEq, Int.reduceEq, Nat.reducePow, Int.reducePow, IntWalk.i64_in, IntKind.bits, eqAV, eqL, leafEq, andO, fillV, buildSV, Int.reduceGT, Int.reduceGE, Int.reduceBNe, IntWalk.u64_in, newsV_s, tassV, isnV, slcV, slcAV, slcTV, slcB, appNew, Option.bind_some, Option.bind_none, eqsV, lookV, mupdV, mdelV, mkM, ev1, ev2]
      refine ok_some (.inl ⟨rfl, 14 - (i + 1), by omega, _, _, _, vo, l, i + 1, rfl, ⟨?_, ?_, ?_, ?_, ?_, ?_, ?_, ?_⟩, g2, fr.trans f2, so.mono fun y c _ e => f2 y c e, hok, hws, by omega, by omega, rfl⟩)
      all_goals simp (maxSteps := 10000000) (disch := omega) only [kp.l, kp.t1, kp.t2, kp.t5, kp.t7, kp.t9, kp.t10, kp.t11, kp.t13, kp.t14, kp.t15, lenV_sl, Int.toNat_natCast, bft, btf, gtst, st_len, hc1, Nat.reduceAdd, Int.cast_ofNat_Int, cond_true, cond_false, Nat.reduceBEq, Nat.reduceLT, decide_true, beq_self_eq_true, if_true, if_false]
    | false =>
      rw [ht] at kp
      obtain ⟨v4, H4, N4, e4, g4, r4, _, s4, _⟩ := push_specM w2_len (bytes := 16) g2 (fr.trans f2) (so.mono fun y c _ e => f2 y c e) ⟨((bs p h 2 : Nat) : Int) + at_, w⟩ rfl (by omega) (by omega)
      simp only [w2, sh_app] at e4
      have hok2 := okL_app (x := ⟨((bs p h 2 : Nat) : Int) + at_, w⟩) hok hokp (of_decide_eq_false ht)
      have hws2 : W2s (l ++ [⟨((bs p h 2 : Nat) : Int) + at_, w⟩]) := fun y hy => by
        rcases List.mem_append.1 hy with h' | h'
        · exact hws y h'
        · rw [List.mem_singleton.1 h']
          have := okP_b C hokp
          unfold i64R u64R; simp only; omega
      simp -implicitDefEqProofs (maxSteps := 10000000) (disch := omega) only [Tlaw16Writes, Llaw16Writes, Glaw16Writes_law16pick, Vlaw16pick_eq, Glaw16Writes_ref04At, Vref04At_eq, Glaw16Writes_ref04Home, Vref04Home_eq, hB, hR, hI, lbWo, kp.l, kp.t1, kp.t2, kp.t5, kp.t7, kp.t9, kp.t10, kp.t11, kp.t13, kp.t14, kp.t15, lenV_sl, Int.toNat_natCast, bft, btf, gtst, st_len, b0, rb0, e4, pad, lightV, bt, bf, evs, gt, st, binV, arith, isSh, storeV, all1, idxAV, fieldV, faddrV, iaddrSV, iaddrAV, pickV, convV, unV, eqbV, eqpV, extV, mm2, mmV, nilckV, ress, res1, retV, Value.cells, reduceIte, reduceCtorEq, Int.reduceLT, Int.reduceLE, Int.reduceToNat, Int.reduceAdd, Int.reduceSub, Int.reduceMul, Int.reduceNeg, Nat.reduceMul, Nat.reduceAdd, Nat.reduceSub, Nat.reduceBEq, Nat.reduceEqDiff, Nat.reduceLT, Nat.reduceLeDiff, Int.reduceBEq, Int.reduceEq, Nat.reducePow, Int.reducePow, IntWalk.i64_in, IntKind.bits, eqAV, eqL, leafEq, andO, fillV, buildSV, Int.reduceGT, Int.reduceGE, Int.reduceBNe, IntWalk.u64_in, newsV_s, tassV, isnV, slcV, slcAV, slcTV, slcB, appNew, Option.bind_some, Option.bind_none, eqsV, lookV, mupdV, mdelV, mkM, ev1, ev2]
      refine ok_some (.inl ⟨rfl, 14 - (i + 1), by omega, _, H4, N4, v4, _, i + 1, rfl, ⟨?_, ?_, ?_, ?_, ?_, ?_, ?_, ?_⟩, g4, r4, s4.toM, hok2, hws2, by rw [List.length_append]; simp; omega, by omega, rfl⟩)
      all_goals simp (maxSteps := 10000000) (disch := omega) only [kp.l, kp.t1, kp.t2, kp.t5, kp.t7, kp.t9, kp.t10, kp.t11, kp.t13, kp.t14, kp.t15, lenV_sl, Int.toNat_natCast, bft, btf, gtst, st_len, hc1, Nat.reduceAdd, Int.cast_ofNat_Int, cond_true, cond_false, Nat.reduceBEq, Nat.reduceLT, decide_true, beq_self_eq_true, if_true, if_false]
end Go.Proofs.YtfhiplfagejfoaaDoor
