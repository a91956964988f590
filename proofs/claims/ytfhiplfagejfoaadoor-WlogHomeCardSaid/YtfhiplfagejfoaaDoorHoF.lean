/- Own text: the log of writes, part HoF: contracts of the functions that the laws of the log call. -/
import Derived.Test.YtfhiplfagejfoaaDoorHoE
set_option linter.unusedSimpArgs false
set_option linter.unusedVariables false
namespace Go.Proofs.YtfhiplfagejfoaaDoor
open Go.Proofs.YtfhiplfagejfoaaDoor.K Go.ChangeShapes Go.WideShapes Go.ChangeAt Go.RowKit 
set_option maxRecDepth 100000
set_option linter.unusedSimpArgs false
set_option linter.unusedVariables false
/-! ### Lists with one less, and with one more -/
def delL (L : List Int) (i : Nat) : List Int := L.take i ++ L.drop (i + 1)
def insL (L : List Int) (i : Nat) (x : Int) : List Int := L.take i ++ [x] ++ L.drop i
theorem del_len {L : List Int} {i : Nat} (hi : i < L.length) : (delL L i).length = L.length - 1 := by
  unfold delL; rw [List.length_append, List.length_take, List.length_drop]; omega
theorem ins_len {L : List Int} {i : Nat} {x : Int} (hi : i ≤ L.length) : (insL L i x).length = L.length + 1 := by
  unfold insL; rw [List.length_append, List.length_append, List.length_take, List.length_drop]; simp; omega
theorem del_at {L : List Int} {i j : Nat} (hi : i < L.length) : (delL L i).getD j 0 = L.getD (if j < i then j else j + 1) 0 := by
  unfold delL
  simp only [List.getD_eq_getElem?_getD]
  by_cases h : j < i
  · rw [if_pos h, List.getElem?_append_left (by rw [List.length_take]; omega), List.getElem?_take_of_lt h]
  · rw [if_neg h, List.getElem?_append_right (by rw [List.length_take]; omega), List.getElem?_drop, List.length_take, show i + 1 + (j - min i L.length) = j + 1 by omega]
theorem ins_at {L : List Int} {i j : Nat} {x : Int} (hi : i ≤ L.length) : (insL L i x).getD j 0 = if j < i then L.getD j 0 else if j = i then x else L.getD (j - 1) 0 := by
  unfold insL
  simp only [List.getD_eq_getElem?_getD]
  have hl : (L.take i).length = i := by rw [List.length_take]; omega
  by_cases h : j < i
  · rw [if_pos h, List.append_assoc, List.getElem?_append_left (by omega), List.getElem?_take_of_lt h]
  · rw [if_neg h]
    by_cases h2 : j = i
    · subst h2
      rw [if_pos rfl, List.append_assoc, List.getElem?_append_right (by omega), hl, Nat.sub_self]; rfl
    · rw [if_neg h2, List.getElem?_append_right (by simp; omega), List.getElem?_drop]
      simp only [List.length_append, hl, List.length_cons, List.length_nil]
      rw [show i + (j - (i + (0 + 1))) = j - 1 by omega]
theorem del_u {L : List Int} (h : U64s L) (i : Nat) : U64s (delL L i) := fun x hx => by
  rcases List.mem_append.1 hx with h' | h'
  · exact h x (List.mem_of_mem_take h')
  · exact h x (List.mem_of_mem_drop h')
theorem ins_u {L : List Int} (h : U64s L) (i : Nat) {x : Int} (hx : u64R x) : U64s (insL L i x) := fun y hy => by
  rcases List.mem_append.1 hy with h' | h'
  · rcases List.mem_append.1 h' with h' | h'
    · exact h y (List.mem_of_mem_take h')
    · rw [List.mem_singleton.1 h']; exact hx
  · exact h y (List.mem_of_mem_drop h')
def isK (kk : Nat) : Prop := kk = 2 ∨ kk = 3 ∨ kk = 4
theorem Rt.setR {cc : Nat} {s : S9} (R : Rt 1 cc s) {r : Int} (hr : u64R r) (hc : cnI r = r) : Rt 1 cc ⟨r, s.ks, s.vs, s.ts, s.cl⟩ :=
  ⟨hr, R.ku, R.vu, fun _ => hc, fun h => (h rfl).elim, R.k0, R.v0, R.t0, R.kl, R.vl, R.ok, R.so, R.tl, R.tb⟩
theorem Rt.del {kk cc : Nat} {s : S9} (R : Rt kk cc s) {i : Nat} (hi : i < s.ks.length) : Rt kk cc ⟨s.r, delL s.ks i, delL s.vs i, s.ts, s.cl⟩ where
  ru := R.ru
  ku := del_u R.ku i
  vu := del_u R.vu i
  r1 := R.r1
  r0 := R.r0
  k0 h := by
    have := R.k0 h
    rw [this] at hi; simp at hi
  v0 h := by
    show delL s.vs i = []
    rw [R.v0 h]; simp [delL]
  t0 := R.t0
  kl := by
    show (delL s.ks i).length ≤ cc
    have := R.kl
    rw [del_len hi]; omega
  vl h := by
    show (delL s.vs i).length = (delL s.ks i).length
    have := R.vl h
    rw [del_len hi, del_len (by omega), this]
  ok j hj := by
    have hj : j < (delL s.ks i).length := hj
    show okK kk ((delL s.ks i).getD j 0) ∧ mnI kk ((delL s.ks i).getD j 0) = (delL s.ks i).getD j 0
    rw [del_len hi] at hj
    rw [del_at hi]
    exact R.ok _ (by split <;> omega)
  so j hj := by
    have hj : j + 1 < (delL s.ks i).length := hj
    show kyI kk ((delL s.ks i).getD j 0) < kyI kk ((delL s.ks i).getD (j + 1) 0)
    rw [del_len hi] at hj
    rw [del_at hi, del_at hi]
    by_cases h1 : j + 1 < i
    · rw [if_pos (by omega), if_pos h1]; exact R.so j (by omega)
    · rw [if_neg h1]
      by_cases h2 : j < i
      · rw [if_pos h2]
        have a := R.so j (by omega)
        have b := R.so (j + 1) (by omega)
        omega
      · rw [if_neg h2]; exact R.so (j + 1) (by omega)
  tl := R.tl
  tb := R.tb
theorem Rt.ins {kk cc : Nat} {s : S9} (R : Rt kk cc s) (hk : isK kk) {i : Nat} {x y : Int} (hi : i ≤ s.ks.length) (hl : s.ks.length < cc) (hx : u64R x) (hy : u64R y) (ho : okK kk x ∧ mnI kk x = x) (h1 : ∀ j, j < i → kyI kk (s.ks.getD j 0) < kyI kk x) (h2 : i < s.ks.length → kyI kk x < kyI kk (s.ks.getD i 0)) (V : List Int) (hV : V = if kk = 2 then s.vs else insL s.vs i y) : Rt kk cc ⟨s.r, insL s.ks i x, V, s.ts, s.cl⟩ where
  ru := R.ru
  ku := ins_u R.ku i hx
  vu := by
    show U64s V
    rw [hV]; split
    · exact R.vu
    · exact ins_u R.vu i hy
  r1 := R.r1
  r0 := R.r0
  k0 h := (h hk).elim
  v0 h := by
    show V = []
    unfold isK at hk
    rw [hV, if_pos (by omega)]; exact R.v0 h
  t0 := R.t0
  kl := by
    show (insL s.ks i x).length ≤ cc
    rw [ins_len hi]; omega
  vl h := by
    show V.length = (insL s.ks i x).length
    have := R.vl h
    rw [hV, if_neg (by omega), ins_len hi, ins_len (by omega), this]
  ok j hj := by
    have hj : j < (insL s.ks i x).length := hj
    show okK kk ((insL s.ks i x).getD j 0) ∧ mnI kk ((insL s.ks i x).getD j 0) = (insL s.ks i x).getD j 0
    rw [ins_len hi] at hj
    rw [ins_at hi]
    split
    · exact R.ok _ (by omega)
    · split
      · exact ho
      · exact R.ok _ (by omega)
  so j hj := by
    have hj : j + 1 < (insL s.ks i x).length := hj
    show kyI kk ((insL s.ks i x).getD j 0) < kyI kk ((insL s.ks i x).getD (j + 1) 0)
    rw [ins_len hi] at hj
    rw [ins_at hi, ins_at hi]
    by_cases a1 : j + 1 < i
    · rw [if_pos (by omega), if_pos a1]; exact R.so j (by omega)
    · rw [if_neg a1]
      by_cases a2 : j + 1 = i
      · rw [if_pos (by omega), if_pos a2]; exact h1 j (by omega)
      · rw [if_neg a2, if_neg (by omega)]
        by_cases a3 : j = i
        · subst a3; rw [if_pos rfl]; exact h2 (by omega)
        · rw [if_neg a3, show j + 1 - 1 = j - 1 + 1 by omega]; exact R.so (j - 1) (by omega)
  tl := R.tl
  tb := R.tb
theorem set_u {L : List Int} (h : U64s L) (i : Nat) {x : Int} (hx : u64R x) : U64s (L.set i x) := fun y hy => by
  rcases List.mem_or_eq_of_mem_set hy with h' | h'
  · exact h y h'
  · rw [h']; exact hx
theorem Rt.setV {kk cc : Nat} {s : S9} (R : Rt kk cc s) {i : Nat} {x : Int} (hx : u64R x) (hv : kk = 3 ∨ kk = 4) : Rt kk cc ⟨s.r, s.ks, s.vs.set i x, s.ts, s.cl⟩ :=
  ⟨R.ru, R.ku, set_u R.vu i hx, R.r1, R.r0, R.k0, fun h => (h hv).elim, R.t0, R.kl, fun h => by show (s.vs.set i x).length = _; rw [List.length_set]; exact R.vl h, R.ok, R.so, R.tl, R.tb⟩
theorem Rt.setT {kk cc : Nat} {s : S9} (R : Rt kk cc s) (h5 : kk = 5) {i : Nat} {x : Int} (hx : 0 ≤ x ∧ x ≤ 8) : Rt kk cc ⟨s.r, s.ks, s.vs, s.ts.set i x, s.cl⟩ :=
  ⟨R.ru, R.ku, R.vu, R.r1, R.r0, R.k0, R.v0, fun h => (h h5).elim, R.kl, R.vl, R.ok, R.so, fun h => by show (s.ts.set i x).length = _; rw [List.length_set]; exact R.tl h, fun j hj => by
    have hj : j < (s.ts.set i x).length := hj
    show 0 ≤ (s.ts.set i x).getD j 0 ∧ (s.ts.set i x).getD j 0 ≤ 8
    rw [List.length_set] at hj
    by_cases hi : i < s.ts.length
    · rw [getD_set _ _ _ _ _ hi]
      split
      · exact hx
      · exact R.tb j hj
    · rw [List.set_eq_of_length_le (by omega)]; exact R.tb j hj⟩
theorem Rt.setC {kk cc : Nat} {s : S9} (R : Rt kk cc s) (h5 : kk = 5) (b : Bool) : Rt kk cc ⟨s.r, s.ks, s.vs, s.ts, b⟩ :=
  ⟨R.ru, R.ku, R.vu, R.r1, R.r0, R.k0, R.v0, fun h => (h h5).elim, R.kl, R.vl, R.ok, R.so, R.tl, R.tb⟩
def Nw (H H' H'' : HL) : Prop := ∀ y c, lk H y = none → lk H' y = some c → lk H'' y = some c
def Res9 (B : OH) (H : HL) (uk uv ut : Value) (s0 : S9) (kk cc : Nat) (x : ResE) : Prop :=
  ∃ s, ∃ vk vv vt : Value, ∃ a b H' N', x = some (.ret (.tuple #[.agg #[.int .u64 s.r, vk, vv, vt, .bool s.cl], .agg #[.int .i64 a, .int .u64 b]]), H', N') ∧ good B H' N' ∧ Fr H H' ∧ (∀ H'', StW B H'' uk uv ut s0 → Nw H H' H'' → StW B H'' vk vv vt s) ∧ Rt kk cc s
theorem fin9 {B : OH} {H H' : HL} {N' : St} {uk uv ut : Value} {s0 : S9} {kk cc : Nat} {x : ResE} {s : S9} {vk vv vt : Value} {a b : Int} (hx : x = some (.ret (.tuple #[.agg #[.int .u64 s.r, vk, vv, vt, .bool s.cl], .agg #[.int .i64 a, .int .u64 b]]), H', N')) (R : Rt kk cc s) (hs : ∀ H'', StW B H'' uk uv ut s0 → Nw H H' H'' → StW B H'' vk vv vt s) (g : good B H' N') (f : Fr H H') : Res9 B H uk uv ut s0 kk cc x :=
  ⟨s, vk, vv, vt, a, b, H', N', hx, g, f, hs, R⟩
def LrRg : FnL := ⟨(.seq (.ops [oa 2 (.box (ot 0)),oa 3 (.box (ot 1)),oa 4 (.alloc [(.int .u64 0), (.slice none 0 0), (.slice none 0 0), (.slice none 0 0), (.bool false)]),oa 5 (.alloc [(.int .i64 0), (.int .u64 0)])])
 (.seq (.ops [oa 7 (.load true 5 (ot 2)),oa 6 (.alloc [(.int .u64 0), (.slice none 0 0), (.slice none 0 0), (.slice none 0 0), (.bool false)]), oc (.store 5 (ot 6) (ot 7))])
 (.seq (.seq (.ops [og 8 0 3,ol 9 8])
 (.block 0 (.seq (.ops [oa 11 (.bin .eql (ot 9) (oi 1)),om 10 11])
 (.cond (ot 10) (.seq (.draw [oe 12 (.load true 5 (ot 2)),pg 13 0 2,pl 14 13, ⟨oa 15 (.call (.func 100) [(ot 14)]), [oa 12 (.load true 5 (ot 2))]⟩,⟨oc (.store 5 (ot 4) (ot 12)),[]⟩,⟨oc (.store 2 (ot 5) (ot 15)),[]⟩])
 .ret)
 (.seq (.ops [oa 17 (.bin .eql (ot 9) (oi 2)),om 16 17])
 (.cond (ot 16) (.seq (.ops [og 18 2 3,ol 19 18,oa 20 (.call (.func 79) [(ot 19)]),og 21 0 6, oc (.store 1 (ot 21) (ot 20))])
 (.seq (.draw [oe 22 (.load true 5 (ot 6)),pg 23 0 2,pl 24 23, ⟨oa 25 (.call (.func 100) [(ot 24)]), [oa 22 (.load true 5 (ot 6))]⟩,⟨oc (.store 5 (ot 4) (ot 22)),[]⟩,⟨oc (.store 2 (ot 5) (ot 25)),[]⟩])
 .ret))
 (.seq (.ops [oa 27 (.bin .eql (ot 9) (oi 3)),om 26 27])
 (.cond (ot 26) (.seq (.ops [og 28 0 2,ol 29 28,og 30 2 3,ol 31 30,oa 32 (.call (.func 101) [(ot 29), (ot 31)]),og 33 0 6, oc (.store 1 (ot 33) (ot 32))])
 (.seq (.draw [oe 34 (.load true 5 (ot 6)),pg 35 0 6,pl 36 35, ⟨oa 37 (.call (.func 100) [(ot 36)]), [oa 34 (.load true 5 (ot 6))]⟩,⟨oc (.store 5 (ot 4) (ot 34)),[]⟩,⟨oc (.store 2 (ot 5) (ot 37)),[]⟩])
 .ret))
 (.seq (.ops [oa 39 (.bin .eql (ot 9) (oi 4)),om 38 39])
 (.cond (ot 38) (.seq (.ops [og 40 0 2,ol 41 40,og 42 2 3,ol 43 42,oa 44 (.call (.func 102) [(ot 41), (ot 43)]),og 45 0 6, oc (.store 1 (ot 45) (ot 44))])
 (.seq (.draw [oe 46 (.load true 5 (ot 6)),pg 47 0 6,pl 48 47, ⟨oa 49 (.call (.func 100) [(ot 48)]), [oa 46 (.load true 5 (ot 6))]⟩,⟨oc (.store 5 (ot 4) (ot 46)),[]⟩,⟨oc (.store 2 (ot 5) (ot 49)),[]⟩])
 .ret))
 .skip))))))))))
 (.seq (.draw [oe 50 (.load true 5 (ot 2)), ⟨oa 51 (.call (.func 103) [(oi 10)]), [oa 50 (.load true 5 (ot 2))]⟩,⟨oc (.store 5 (ot 4) (ot 50)),[]⟩,⟨oc (.store 2 (ot 5) (ot 51)),[]⟩])
 .ret)))),
 52, [.cell 4 true 5, .cell 5 true 2]⟩
theorem lowrRg : lowerFn Tryd.prog Tryd.f87 = some LrRg := by kernel_rfl
noncomputable def GrRg (B : OH) : Nat → Cs
  | 79 => Vref01Canon B
  | 101 => Vref01Max B
  | 102 => Vref01Sum B
  | 103 => VrRf B
  | 100 => VrTe B
  | _ => fun _ _ _ => none
theorem GrRg_ref01Canon {B : OH} : GrRg B 79 = Vref01Canon B := rfl
theorem GrRg_ref01Max {B : OH} : GrRg B 101 = Vref01Max B := rfl
theorem GrRg_ref01Sum {B : OH} : GrRg B 102 = Vref01Sum B := rfl
theorem GrRg_rRf {B : OH} : GrRg B 103 = VrRf B := rfl
theorem GrRg_rTe {B : OH} : GrRg B 100 = VrTe B := rfl
theorem sGrRg {w0 : World} {B : OH} : SoundG Tryd.prog w0 B { f := GrRg B } := .of fun k => by
  unfold GrRg
  split
  · exact .inr ⟨enref01Canon, sVref01Canon⟩
  · exact .inr ⟨enref01Max, sVref01Max⟩
  · exact .inr ⟨enref01Sum, sVref01Sum⟩
  · exact .inr ⟨enrRf, sVrRf⟩
  · exact .inr ⟨enrTe, sVrTe⟩
  · exact .inl fun _ _ _ => rfl
theorem enrRg : Enter Tryd.prog 87 := .of Tryd.func87 (by kernel_rfl) (by kernel_rfl)
noncomputable def TrRg (B : OH) : Cs := callF B { f := GrRg B } 1000000 LrRg
theorem sTrRg {w0 : World} {B : OH} : SoundC Tryd.prog w0 B 87 (TrRg B) := callF_sound mixedOrders sGrRg 1000000 Tryd.func87 lowrRg
noncomputable def VrRg (B : OH) : Cs := TrRg B
theorem sVrRg {w0 : World} {B : OH} : SoundC Tryd.prog w0 B 87 (VrRg B) := sTrRg
theorem J77 : Said (an @TrRg.eq_1 <| an @LrRg.eq_1 <| an @GrRg_ref01Canon <| an @Vref01Canon_eq <| an @GrRg_ref01Max <| an @Vref01Max_eq <| an @GrRg_ref01Sum <| an @GrRg_rRf <| an @VrRf_eq <| an @GrRg_rTe <| an @VrTe_eq <| trivial) := said_ok _
set_option maxHeartbeats 8000000 in
theorem xregister {B : OH} {H : HL} {N : St} {vk vv vt : Value} {s : S9} {cc : Nat} {cd ky vl : Int} (R : Rt 1 cc s) (hs : StW B H vk vv vt s) (hv : u64R vl) (hN : good B H N) : Res9 B H vk vv vt s 1 cc (VrRg B [.agg #[.int .u64 s.r, vk, vv, vt, .bool s.cl], .agg #[.int .i64 cd, .int .u64 ky, .int .u64 vl]] H N) := by
  obtain ⟨hB, hR, hI⟩ := gX hN
  have hG : ∃ H N, good B H N := ⟨H, N, hN⟩
  have e1 := xtells hG
  have e2 := xrefuses hG
  have e3 := xCanon hG hv
  have e4 := xMax hG R.ru hv
  have ha := hs.all s.cl
  obtain ⟨H5, hH5⟩ : ∃ H5, H5 = (N.n 4, (.cells [.int .u64 s.r, vk, vv, vt, .bool s.cl] 5 : KB)) :: (N.n 3, (.cells [.int .i64 0, .int .u64 0] 2 : KB)) :: (N.n 2, (.cells [.int .u64 0, .slice none 0 0, .slice none 0 0, .slice none 0 0, .bool false] 5 : KB)) :: (N.n 1, (.cells [.int .i64 cd, .int .u64 ky, .int .u64 vl] 3 : KB)) :: (N.n 0, (.cells [.int .u64 s.r, vk, vv, vt, .bool s.cl] 5 : KB)) :: H := ⟨_, rfl⟩
  have g5 : good B H5 (sh (sh (sh (sh (sh N))))) := by rw [hH5]; repeat (first | exact hN | refine good_new ?_)
  obtain ⟨r, ur, cr, es⟩ := xSum R.ru hv g5
  rw [hH5] at es
  unfold VrRg
  by_cases c1 : cd = 1
  · subst c1
    simp (disch := omega) only [J77, hB, hR, hI, e1, ha, all1, ress, res1, retV, Value.cells, newsV_s, seval, eV]
    refine fin9 rfl R (fun _ h _ => h) ?_ ?_
    · repeat (first | exact hN | refine good_new ?_)
    · repeat (first | exact Fr.refl | refine fr_set ?_ (lk_N hN _))
  have d1 := beqI c1
  by_cases c2 : cd = 2
  · subst c2
    simp (disch := omega) only [J77, hB, hR, hI, e1, e3, ha, all1, ress, res1, retV, Value.cells, newsV_s, seval, eV]
    refine fin9 (s := ⟨cnI vl, s.ks, s.vs, s.ts, s.cl⟩) rfl (R.setR (cn_u hv) (cn_id vl)) (fun _ h _ => ⟨h.k, h.v, h.t⟩) ?_ ?_
    · repeat (first | exact hN | refine good_new ?_)
    · repeat (first | exact Fr.refl | refine fr_set ?_ (lk_N hN _))
  have d2 := beqI c2
  by_cases c3 : cd = 3
  · subst c3
    have um : u64R (mxI s.r vl) ∧ cnI (mxI s.r vl) = mxI s.r vl := by
      unfold mxI
      split
      · exact ⟨cn_u hv, cn_id _⟩
      · exact ⟨cn_u R.ru, cn_id _⟩
    simp (disch := omega) only [J77, hB, hR, hI, e1, e4, ha, all1, ress, res1, retV, Value.cells, newsV_s, seval, eV]
    refine fin9 (s := ⟨mxI s.r vl, s.ks, s.vs, s.ts, s.cl⟩) rfl (R.setR um.1 um.2) (fun _ h _ => ⟨h.k, h.v, h.t⟩) ?_ ?_
    · repeat (first | exact hN | refine good_new ?_)
    · repeat (first | exact Fr.refl | refine fr_set ?_ (lk_N hN _))
  have d3 := beqI c3
  by_cases c4 : cd = 4
  · subst c4
    simp (disch := omega) only [J77, hB, hR, hI, e1, es, ha, all1, ress, res1, retV, Value.cells, newsV_s, seval, eV]
    refine fin9 (s := ⟨r, s.ks, s.vs, s.ts, s.cl⟩) rfl (R.setR ur cr) (fun _ h _ => ⟨h.k, h.v, h.t⟩) ?_ ?_
    · repeat (first | exact hN | refine good_new ?_)
    · repeat (first | exact Fr.refl | refine fr_set ?_ (lk_N hN _))
  have d4 := beqI c4
  simp (disch := omega) only [J77, hB, hR, hI, e2, d1, d2, d3, d4, ha, all1, ress, res1, retV, Value.cells, newsV_s, seval, eV]
  refine fin9 rfl R (fun _ h _ => h) ?_ ?_
  · repeat (first | exact hN | refine good_new ?_)
  · repeat (first | exact Fr.refl | refine fr_set ?_ (lk_N hN _))
end Go.Proofs.YtfhiplfagejfoaaDoor
namespace Go.Proofs.YtfhiplfagejfoaaDoor
open Go.Proofs.YtfhiplfagejfoaaDoor.K Go.ChangeShapes Go.WideShapes Go.ChangeAt Go.RowKit 
set_option maxRecDepth 100000
set_option linter.unusedSimpArgs false
set_option linter.unusedVariables false

theorem slw_nil {α : Type} {f : α → List Value} {sz : Nat} {B : OH} {H H' : HL} {v : Value} {L : List α} (h : SlW f sz B H v L) (e : L = []) : SlW f sz B H' v L := by
  obtain ⟨a, c, h1, h2, _⟩ := h
  exact ⟨a, c, h1, h2, .inl e⟩
theorem slm_1 {α : Type} {f : α → List Value} {B : OH} {H0 H : HL} {v : Value} {L : List α} (h : SlM f 1 B H0 H v L) (hL : 0 < L.length) : ∃ b cap rest, v = .slice (some ⟨b, 0, none⟩) L.length cap ∧ B b = none ∧ lk H0 b = none ∧ L.length ≤ cap ∧ lk H b = some (.cells (fl f L ++ rest) cap) := by
  rcases h with ⟨h0, _⟩ | ⟨b, cap, rest, h1, h2, h3, h4, h5⟩
  · rw [h0] at hL; simp at hL
  · rw [Nat.mul_one] at h5; exact ⟨b, cap, rest, h1, h2, h3, h4, h5⟩
def Lref09cast : FnL := ⟨(.seq (.ops [oa 3 (.box (ot 0)),oa 4 (.box (ot 1)),oa 5 (.box (ot 2)),oa 6 (.alloc [(.int .u64 0), (.slice none 0 0), (.slice none 0 0), (.slice none 0 0), (.bool false)]),oa 7 (.alloc [(.int .i64 0), (.int .u64 0)])])
 (.seq (.block 0 (.seq (.ops [og 10 1 5,ol 11 10,og 12 2 3,ol 13 12,oa 14 (.conv .u64 (ot 13)),oa 15 (.bin .geq (ot 11) (ot 14)),om 16 15,ob 17 (.faddr 2 (ot 5)) 16 false,ob 18 (.load false 1 (ot 17)) 16 false,ob 19 (.bin .lss (ot 18) (ou 1)) 16 false,oa 20 (.pick (ot 16) (.const (.bool true)) (ot 19)),om 21 20,ob 22 (.faddr 2 (ot 5)) 21 false,ob 23 (.load false 1 (ot 22)) 21 false,ob 24 (.bin .gtr (ot 23) (ou 8)) 21 false,oa 25 (.pick (ot 21) (.const (.bool true)) (ot 24)),om 9 25])
 (.cond (ot 9) (.seq (.draw [oe 26 (.load true 5 (ot 4)), ⟨oa 27 (.call (.func 103) [(oi 10)]), [oa 26 (.load true 5 (ot 4))]⟩,⟨oc (.store 5 (ot 6) (ot 26)),[]⟩,⟨oc (.store 2 (ot 7) (ot 27)),[]⟩])
 .ret)
 (.seq (.ops [og 29 4 4,ol 30 29,om 28 30])
 (.cond (ot 28) (.seq (.draw [oe 31 (.load true 5 (ot 4)), ⟨oa 32 (.call (.func 103) [(oi 14)]), [oa 31 (.load true 5 (ot 4))]⟩,⟨oc (.store 5 (ot 6) (ot 31)),[]⟩,⟨oc (.store 2 (ot 7) (ot 32)),[]⟩])
 .ret)
 (.seq (.ops [og 34 3 4,ol 35 34,og 36 1 5,ol 37 36,oa 38 (.iaddrS 1 (ot 35) (ot 37)),ol 39 38,oa 40 (.bin .neq (ot 39) (oi 0)),om 33 40])
 (.cond (ot 33) (.seq (.draw [oe 41 (.load true 5 (ot 4)), ⟨oa 42 (.call (.func 103) [(oi 13)]), [oa 41 (.load true 5 (ot 4))]⟩,⟨oc (.store 5 (ot 6) (ot 41)),[]⟩,⟨oc (.store 2 (ot 7) (ot 42)),[]⟩])
 .ret)
 .skip)))))))
 (.seq (.ops [oa 43 (.load true 5 (ot 4)),oa 44 (.call (.func 86) [(ot 43)]),oa 8 (.alloc [(.int .u64 0), (.slice none 0 0), (.slice none 0 0), (.slice none 0 0), (.bool false)]), oc (.store 5 (ot 8) (ot 44))])
 (.seq (.ops [og 45 3 8,ol 46 45,og 47 1 5,ol 48 47,og 49 2 5,ol 50 49,oa 51 (.conv .i64 (ot 50)),oa 52 (.iaddrS 1 (ot 46) (ot 48)), oc (.store 1 (ot 52) (ot 51))])
 (.seq (.draw [oe 53 (.load true 5 (ot 8)), ⟨oa 54 (.call (.func 100) [(ou 0)]), [oa 53 (.load true 5 (ot 8))]⟩,⟨oc (.store 5 (ot 6) (ot 53)),[]⟩,⟨oc (.store 2 (ot 7) (ot 54)),[]⟩])
 .ret))))),
 55, [.cell 6 true 5, .cell 7 true 2]⟩
theorem lowref09cast : lowerFn Tryd.prog Tryd.f105 = some Lref09cast := by kernel_rfl
noncomputable def Gref09cast (B : OH) : Nat → Cs
  | 86 => Vref09Own B
  | 103 => VrRf B
  | 100 => VrTe B
  | _ => fun _ _ _ => none
theorem Gref09cast_ref09Own {B : OH} : Gref09cast B 86 = Vref09Own B := rfl
theorem Gref09cast_rRf {B : OH} : Gref09cast B 103 = VrRf B := rfl
theorem Gref09cast_rTe {B : OH} : Gref09cast B 100 = VrTe B := rfl
theorem sGref09cast {w0 : World} {B : OH} : SoundG Tryd.prog w0 B { f := Gref09cast B } := .of fun k => by
  unfold Gref09cast
  split
  · exact .inr ⟨enref09Own, sVref09Own⟩
  · exact .inr ⟨enrRf, sVrRf⟩
  · exact .inr ⟨enrTe, sVrTe⟩
  · exact .inl fun _ _ _ => rfl
theorem enref09cast : Enter Tryd.prog 105 := .of Tryd.func105 (by kernel_rfl) (by kernel_rfl)
noncomputable def Tref09cast (B : OH) : Cs := callF B { f := Gref09cast B } 1000000 Lref09cast
theorem sTref09cast {w0 : World} {B : OH} : SoundC Tryd.prog w0 B 105 (Tref09cast B) := callF_sound mixedOrders sGref09cast 1000000 Tryd.func105 lowref09cast
noncomputable def Vref09cast (B : OH) : Cs := Tref09cast B
theorem sVref09cast {w0 : World} {B : OH} : SoundC Tryd.prog w0 B 105 (Vref09cast B) := sTref09cast
theorem J78 : Said (an @Tref09cast.eq_1 <| an @Lref09cast.eq_1 <| an @Gref09cast_ref09Own <| an @Gref09cast_rRf <| an @VrRf_eq <| an @Gref09cast_rTe <| an @VrTe_eq <| trivial) := said_ok _
set_option maxHeartbeats 8000000 in
theorem xcast {B : OH} {H : HL} {N : St} {vk vv vt : Value} {s : S9} {kk p cc h : Nat} {cd ky vl : Int} (C : Cf kk p cc h) (h5 : kk = 5) (R : Rt kk cc s) (hs : StW B H vk vv vt s) (hk : u64R ky) (hv : u64R vl) (hN : good B H N) : Res9 B H vk vv vt s kk cc (Vref09cast B [.agg #[.int .i64 (kk : Int), .int .i64 (p : Int), .int .i64 (cc : Int)], .agg #[.int .u64 s.r, vk, vv, vt, .bool s.cl], .agg #[.int .i64 cd, .int .u64 ky, .int .u64 vl]] H N) := by
  obtain ⟨hB, hR, hI⟩ := gX hN
  have hG : ∃ H N, good B H N := ⟨H, N, hN⟩
  have hc := C.c
  have e1 := xtells hG
  have e2 := xrefuses hG
  have ha := hs.all s.cl
  have hl := R.tl h5
  have wc : IntKind.u64.wrap (cc : Int) = (cc : Int) := IntWalk.u64_in _ (by omega)
  obtain ⟨H5, hH5⟩ : ∃ H5, H5 = (N.n 4, (.cells [.int .i64 0, .int .u64 0] 2 : KB)) :: (N.n 3, (.cells [.int .u64 0, .slice none 0 0, .slice none 0 0, .slice none 0 0, .bool false] 5 : KB)) :: (N.n 2, (.cells [.int .i64 cd, .int .u64 ky, .int .u64 vl] 3 : KB)) :: (N.n 1, (.cells [.int .u64 s.r, vk, vv, vt, .bool s.cl] 5 : KB)) :: (N.n 0, (.cells [.int .i64 (kk : Int), .int .i64 (p : Int), .int .i64 (cc : Int)] 3 : KB)) :: H := ⟨_, rfl⟩
  have g5 : good B H5 (sh (sh (sh (sh (sh N))))) := by rw [hH5]; repeat (first | exact hN | refine good_new ?_)
  have f5 : Fr H H5 := by rw [hH5]; repeat (first | exact Fr.refl | refine fr_set ?_ (lk_N hN _))
  unfold Vref09cast
  by_cases c1 : ky ≥ (cc : Int)
  · simp (disch := omega) only [J78, hB, hR, hI, wc, c1, e2, ha, all1, ress, res1, retV, Value.cells, newsV_s, seval, eV]
    refine fin9 rfl R (fun _ h _ => h) ?_ ?_
    · repeat (first | exact hN | refine good_new ?_)
    · repeat (first | exact Fr.refl | refine fr_set ?_ (lk_N hN _))
  by_cases c2 : vl < 1
  · simp (disch := omega) only [J78, hB, hR, hI, wc, c1, c2, e2, ha, all1, ress, res1, retV, Value.cells, newsV_s, seval, eV]
    refine fin9 rfl R (fun _ h _ => h) ?_ ?_
    · repeat (first | exact hN | refine good_new ?_)
    · repeat (first | exact Fr.refl | refine fr_set ?_ (lk_N hN _))
  by_cases c3 : vl > 8
  · simp (disch := omega) only [J78, hB, hR, hI, wc, c1, c2, c3, e2, ha, all1, ress, res1, retV, Value.cells, newsV_s, seval, eV]
    refine fin9 rfl R (fun _ h _ => h) ?_ ?_
    · repeat (first | exact hN | refine good_new ?_)
    · repeat (first | exact Fr.refl | refine fr_set ?_ (lk_N hN _))
  by_cases c4 : s.cl = true
  · have R4 : Rt kk cc ⟨s.r, s.ks, s.vs, s.ts, true⟩ := by rw [← c4]; exact R
    have ha := hs.all true
    simp (disch := omega) only [J78, hB, hR, hI, wc, c1, c2, c3, c4, e2, ha, all1, ress, res1, retV, Value.cells, newsV_s, seval, eV]
    refine fin9 (s := ⟨s.r, s.ks, s.vs, s.ts, true⟩) rfl R4 (fun _ h _ => ⟨h.k, h.v, h.t⟩) ?_ ?_
    · repeat (first | exact hN | refine good_new ?_)
    · repeat (first | exact Fr.refl | refine fr_set ?_ (lk_N hN _))
  have c4 : s.cl = false := by simpa using c4
  unfold u64R at hk
  obtain ⟨i, rfl⟩ : ∃ i : Nat, ky = (i : Int) := ⟨ky.toNat, by omega⟩
  have hi : i < s.ts.length := by omega
  have i0 : (0 : Int) ≤ (i : Int) := by omega
  obtain ⟨bv, ov, cv, hvt, rr⟩ := rd_w f1_len hs.t (by omega)
  have r1 := rr H5 f5 i hi
  rw [hH5] at r1
  simp only [f1, c4] at r1
  have R4 : Rt kk cc ⟨s.r, s.ks, s.vs, s.ts, false⟩ := by rw [← c4]; exact R
  have ha := hs.all false
  by_cases c5 : s.ts.getD i 0 = 0
  case neg =>
    have d5 : (s.ts.getD i 0 != 0) = true := by simpa using c5
    subst hvt
    generalize s.ts.getD i 0 = tv at *
    simp (disch := omega) only [J78, hB, hR, hI, wc, c1, c2, c3, c4, e2, ha, r1, d5, i0, hi, Nat.mul_one, all1, ress, res1, retV, Value.cells, newsV_s, seval, eV]
    refine fin9 (s := ⟨s.r, s.ks, s.vs, s.ts, false⟩) rfl R4 (fun _ h _ => ⟨h.k, h.v, h.t⟩) ?_ ?_
    · repeat (first | exact hN | refine good_new ?_)
    · repeat (first | exact Fr.refl | refine fr_set ?_ (lk_N hN _))
  rw [c5] at r1
  obtain ⟨v1, v2, v3, H6, N6, e6, g6, f6, s1, s2, s3⟩ := xOwn (s := ⟨s.r, s.ks, s.vs, s.ts, false⟩) g5 ⟨(hs.mono f5).k, (hs.mono f5).v, (hs.mono f5).t⟩ (by rw [R.k0 (by omega)]; simp) (by rw [R.v0 (by omega)]; simp) (by show s.ts.length ≤ _; omega)
  simp only at e6 s1 s2 s3
  have q3 : lk H5 (N.n 3) = some (.cells [.int .u64 0, .slice none 0 0, .slice none 0 0, .slice none 0 0, .bool false] 5) := by rw [hH5]; simp only [lk_cons, hI]; rfl
  have q4 : lk H5 (N.n 4) = some (.cells [.int .i64 0, .int .u64 0] 2) := by rw [hH5]; simp only [lk_cons, hI]; rfl
  have q2 : lk H5 (N.n 2) = some (.cells [.int .i64 cd, .int .u64 (i : Int), .int .u64 vl] 3) := by rw [hH5]; simp only [lk_cons, hI]; rfl
  have p2 := f6 _ _ q2
  have p3 := f6 _ _ q3
  have p4 := f6 _ _ q4
  obtain ⟨b3, c3_, rest, rfl, bb3, l0, hle, lb3⟩ := slm_1 s3 (by omega)
  obtain ⟨a1, k1, rfl, _⟩ := id (s1.wh w1_len)
  obtain ⟨a2, k2, rfl, _⟩ := id (s2.wh w1_len)
  have b0 := hB 0
  have b1 := hB 1
  have b2 := hB 2
  have b3_ := hB 3
  have b4 := hB 4
  have rb2 := rN b2
  have rb3 := rN b3_
  have rb4 := rN b4
  have rbb := rN bb3
  have n3b : (N.n 3 == b3) = false := eqb fun e => by rw [e, l0] at q3; cases q3
  have n4b : (N.n 4 == b3) = false := eqb fun e => by rw [e, l0] at q4; cases q4
  have n2b : (N.n 2 == b3) = false := eqb fun e => by rw [e, l0] at q2; cases q2
  have m2 := ne_N g6 p2
  have m3 := ne_N g6 p3
  have m4 := ne_N g6 p4
  have mb := ne_N g6 lb3
  have mb' := ne_N' g6 lb3
  have wv : IntKind.i64.wrap vl = vl := IntWalk.i64_in _ (by omega)
  have hwr : wr (fl f1 s.ts ++ rest) i [.int .i64 vl] = some (fl f1 (s.ts.set i vl) ++ rest) := by
    rw [wr_append_left _ _ _ _ (by rw [fl_length f1_len]; simp; omega), wr_f1 hi]; rfl
  have hB6 := good_B g6
  have hR6 := good_rdB g6
  have hI6 := beqN g6.1.1
  have g7 := good_up (k := .cells (fl f1 (s.ts.set i vl) ++ rest) c3_) g6 bb3 lb3
  have p3' : lk (upH H6 b3 (.cells (fl f1 (s.ts.set i vl) ++ rest) c3_)) (N.n 3) = some (.cells [.int .u64 0, .slice none 0 0, .slice none 0 0, .slice none 0 0, .bool false] 5) := by rw [lk_upH, n3b, cond_false]; exact p3
  have g8 := good_up (k := .cells [.int .u64 s.r, .slice a1 s.ks.length k1, .slice a2 s.vs.length k2, .slice (some ⟨b3, 0, none⟩) s.ts.length c3_, .bool false] 5) g7 b3_ p3'
  have n43 : (N.n 4 == N.n 3) = false := hI 4 3
  have p4' : lk (upH (upH H6 b3 (.cells (fl f1 (s.ts.set i vl) ++ rest) c3_)) (N.n 3) (.cells [.int .u64 s.r, .slice a1 s.ks.length k1, .slice a2 s.vs.length k2, .slice (some ⟨b3, 0, none⟩) s.ts.length c3_, .bool false] 5)) (N.n 4) = some (.cells [.int .i64 0, .int .u64 0] 2) := by rw [lk_upH, n43, cond_false, lk_upH, n4b, cond_false]; exact p4
  have g9 := good_up (k := .cells [.int .i64 0, .int .u64 0] 2) g8 b4 p4'
  have l00 : lk H b3 = none := f5.dm _ l0
  have fr9 := fr_up (k := .cells [.int .i64 0, .int .u64 0] 2) (fr_up (k := .cells [.int .u64 s.r, .slice a1 s.ks.length k1, .slice a2 s.vs.length k2, .slice (some ⟨b3, 0, none⟩) s.ts.length c3_, .bool false] 5) (fr_up (k := .cells (fl f1 (s.ts.set i vl) ++ rest) c3_) (f5.trans f6) l00) (lk_N hN 3)) (lk_N hN 4)
  rw [hH5] at e6
  simp only [c4] at e6
  subst hvt
  simp (disch := omega) only [J78, hB, hR, hI, wc, c1, c2, c3, c4, e1, ha, r1, i0, hi, hle, Nat.mul_one, bne_self_eq_false, e6, p2, p3, p4, bb3, b2, b3_, b4, rb2, rb3, rb4, rbb, n3b, n4b, n2b, m2, m3, m4, mb, mb', lb3, wv, hwr, hB6, hR6, hI6, all1, ress, res1, retV, Value.cells, newsV_s, seval, eV]
  refine fin9 (s := ⟨s.r, s.ks, s.vs, s.ts.set i vl, false⟩) (vt := .slice (some ⟨b3, 0, none⟩) s.ts.length c3_) rfl (R4.setT h5 (by omega)) (fun H'' _ nw => ⟨slw_nil (s1.wh w1_len) (R.k0 (by omega)), slw_nil (s2.wh w1_len) (R.v0 (by omega)), ?_⟩) ?_ ?_
  · have nb3 : (b3 == N.n 3) = false := eqb fun e => by rw [← e, l0] at q3; cases q3
    have nb4 : (b3 == N.n 4) = false := eqb fun e => by rw [← e, l0] at q4; cases q4
    refine SlM.wh f1_len (H0 := H) (.inr ⟨b3, c3_, rest, by rw [List.length_set], bb3, l00, by rw [List.length_set]; exact hle, nw _ _ l00 ?_⟩)
    rw [lk_cons, mb 0, cond_false, lk_upH, nb4, cond_false, lk_upH, nb3, cond_false, lk_upH, beq_self_eq_true, cond_true, Nat.mul_one]
  · exact good_new g9
  · exact fr_set fr9 (f5.dm _ (f6.dm _ (lk_N g6 0)))
def lbBa : LC := (.seq (.seq (.ops [om 43 10,og 44 3 4,ol 45 44,oa 46 (.len false (ot 45)),oa 47 (.bin .lss (ot 43) (ot 46))])
 (.cond (ot 47) .skip
 (.exit 1)))
 (.seq (.block 2 (.draw [pm 50 9,pg 51 3 4,pl 52 51,pm 53 10,oe 54 (.iaddrS 1 (ot 52) (ot 53)),pl 55 54,oe 56 (.conv .u64 (ot 55)),pg 57 1 5,pl 58 57,oe 59 (.bin .eql (ot 56) (ot 58)),oe 60 (.call (.func 106) [(ot 59)]),oe 61 (.bin .add (ot 50) (ot 60)),pm 9 61]))
 (.ops [om 48 10,oa 49 (.bin .add (ot 48) (oi 1)),om 10 49])))
def LrBt : FnL := ⟨(.seq (.ops [oa 3 (.box (ot 0)),oa 4 (.box (ot 1)),oa 5 (.box (ot 2)),oa 6 (.alloc [(.int .u64 0), (.slice none 0 0), (.slice none 0 0), (.slice none 0 0), (.bool false)]),oa 7 (.alloc [(.int .i64 0), (.int .u64 0)])])
 (.seq (.ops [oa 11 (.load true 5 (ot 4)),oa 8 (.alloc [(.int .u64 0), (.slice none 0 0), (.slice none 0 0), (.slice none 0 0), (.bool false)]), oc (.store 5 (ot 8) (ot 11))])
 (.seq (.seq (.ops [og 12 0 5,ol 13 12])
 (.block 0 (.seq (.ops [oa 15 (.bin .eql (ot 13) (oi 12)),om 14 15])
 (.cond (ot 14) (.seq (.ops [oa 16 (.load true 3 (ot 3)),oa 17 (.load true 5 (ot 4)),oa 18 (.load true 3 (ot 5)),oa 19 (.call (.func 105) [(ot 16), (ot 17), (ot 18)]),oa 20 (.ext (ot 19) 0),oa 21 (.ext (ot 19) 1), oc (.store 5 (ot 6) (ot 20)), oc (.store 2 (ot 7) (ot 21))])
 .ret)
 (.seq (.ops [oa 23 (.bin .eql (ot 13) (oi 13)),om 22 23])
 (.cond (ot 22) (.seq (.ops [og 24 4 8, oc (.store 1 (ot 24) (.const (.bool true)))])
 (.seq (.draw [oe 25 (.load true 5 (ot 8)),pg 26 4 4,pl 27 26,oe 28 (.un .not (ot 27)), ⟨oa 29 (.call (.func 106) [(ot 28)]), [oa 25 (.load true 5 (ot 8))]⟩,⟨oa 30 (.call (.func 100) [(ot 29)]), [oa 25 (.load true 5 (ot 8))]⟩,⟨oc (.store 5 (ot 6) (ot 25)),[]⟩,⟨oc (.store 2 (ot 7) (ot 30)),[]⟩])
 .ret))
 (.seq (.ops [oa 32 (.bin .eql (ot 13) (oi 14)),om 31 32])
 (.cond (ot 31) (.seq (.seq (.ops [og 33 1 5,ol 34 33,oa 35 (.bin .lss (ot 34) (ou 1)),om 36 35,ob 37 (.faddr 1 (ot 5)) 36 false,ob 38 (.load false 1 (ot 37)) 36 false,ob 39 (.bin .gtr (ot 38) (ou 8)) 36 false,oa 40 (.pick (ot 36) (.const (.bool true)) (ot 39))])
 (.cond (ot 40) (.seq (.draw [oe 41 (.load true 5 (ot 4)), ⟨oa 42 (.call (.func 103) [(oi 10)]), [oa 41 (.load true 5 (ot 4))]⟩,⟨oc (.store 5 (ot 6) (ot 41)),[]⟩,⟨oc (.store 2 (ot 7) (ot 42)),[]⟩])
 .ret)
 .skip))
 (.seq (.ops [oa 9 (.mv (ou 0))])
 (.seq (.seq (.ops [oa 10 (.mv (oi 0))])
 (.block 1 (.loop lbBa)))
 (.seq (.draw [oe 62 (.load true 5 (ot 4)),pm 63 9, ⟨oa 64 (.call (.func 100) [(ot 63)]), [oa 62 (.load true 5 (ot 4))]⟩,⟨oc (.store 5 (ot 6) (ot 62)),[]⟩,⟨oc (.store 2 (ot 7) (ot 64)),[]⟩])
 .ret))))
 (.seq (.ops [oa 66 (.bin .eql (ot 13) (oi 15)),om 65 66])
 (.cond (ot 65) (.seq (.seq (.ops [og 67 1 5,ol 68 67,og 69 2 3,ol 70 69,oa 71 (.conv .u64 (ot 70)),oa 72 (.bin .geq (ot 68) (ot 71))])
 (.cond (ot 72) (.seq (.draw [oe 73 (.load true 5 (ot 4)), ⟨oa 74 (.call (.func 103) [(oi 10)]), [oa 73 (.load true 5 (ot 4))]⟩,⟨oc (.store 5 (ot 6) (ot 73)),[]⟩,⟨oc (.store 2 (ot 7) (ot 74)),[]⟩])
 .ret)
 .skip))
 (.seq (.draw [oe 75 (.load true 5 (ot 4)),pg 76 3 4,pl 77 76,pg 78 1 5,pl 79 78,oe 80 (.iaddrS 1 (ot 77) (ot 79)),pl 81 80,oe 82 (.conv .u64 (ot 81)), ⟨oa 83 (.call (.func 100) [(ot 82)]), [oa 75 (.load true 5 (ot 4))]⟩,⟨oc (.store 5 (ot 6) (ot 75)),[]⟩,⟨oc (.store 2 (ot 7) (ot 83)),[]⟩])
 .ret))
 (.seq (.ops [oa 85 (.bin .eql (ot 13) (oi 16)),om 84 85])
 (.cond (ot 84) (.seq (.draw [oe 86 (.load true 5 (ot 4)),pg 87 4 4,pl 88 87, ⟨oa 89 (.call (.func 106) [(ot 88)]), [oa 86 (.load true 5 (ot 4))]⟩,⟨oa 90 (.call (.func 100) [(ot 89)]), [oa 86 (.load true 5 (ot 4))]⟩,⟨oc (.store 5 (ot 6) (ot 86)),[]⟩,⟨oc (.store 2 (ot 7) (ot 90)),[]⟩])
 .ret)
 .skip))))))))))))
 (.seq (.draw [oe 91 (.load true 5 (ot 4)), ⟨oa 92 (.call (.func 103) [(oi 10)]), [oa 91 (.load true 5 (ot 4))]⟩,⟨oc (.store 5 (ot 6) (ot 91)),[]⟩,⟨oc (.store 2 (ot 7) (ot 92)),[]⟩])
 .ret)))),
 93, [.cell 6 true 5, .cell 7 true 2]⟩
theorem lowrBt : lowerFn Tryd.prog Tryd.f89 = some LrBt := by kernel_rfl
noncomputable def GrBt (B : OH) : Nat → Cs
  | 106 => Vref09bit B
  | 105 => Vref09cast B
  | 103 => VrRf B
  | 100 => VrTe B
  | _ => fun _ _ _ => none
theorem GrBt_ref09bit {B : OH} : GrBt B 106 = Vref09bit B := rfl
theorem GrBt_ref09cast {B : OH} : GrBt B 105 = Vref09cast B := rfl
theorem GrBt_rRf {B : OH} : GrBt B 103 = VrRf B := rfl
theorem GrBt_rTe {B : OH} : GrBt B 100 = VrTe B := rfl
theorem sGrBt {w0 : World} {B : OH} : SoundG Tryd.prog w0 B { f := GrBt B } := .of fun k => by
  unfold GrBt
  split
  · exact .inr ⟨enref09bit, sVref09bit⟩
  · exact .inr ⟨enref09cast, sVref09cast⟩
  · exact .inr ⟨enrRf, sVrRf⟩
  · exact .inr ⟨enrTe, sVrTe⟩
  · exact .inl fun _ _ _ => rfl
theorem enrBt : Enter Tryd.prog 89 := .of Tryd.func89 (by kernel_rfl) (by kernel_rfl)
noncomputable def TrBt (B : OH) : Cs := callF B { f := GrBt B } 1000000 LrBt
theorem sTrBt {w0 : World} {B : OH} : SoundC Tryd.prog w0 B 89 (TrBt B) := callF_sound mixedOrders sGrBt 1000000 Tryd.func89 lowrBt
noncomputable def VrBt (B : OH) : Cs := TrBt B
theorem sVrBt {w0 : World} {B : OH} : SoundC Tryd.prog w0 B 89 (VrBt B) := sTrBt
structure KBa (sb ob zb rb : Nat) (n : Int) (i : Nat) (ts : List Value) : Prop where
  l : ts.length = 93
  t4 : gt ts 4 = .pointer (some ⟨sb, 0, none⟩)
  t5 : gt ts 5 = .pointer (some ⟨ob, 0, none⟩)
  t6 : gt ts 6 = .pointer (some ⟨zb, 0, none⟩)
  t7 : gt ts 7 = .pointer (some ⟨rb, 0, none⟩)
  t9 : gt ts 9 = .int .u64 n
  t10 : gt ts 10 = .int .i64 (i : Int)
theorem J79 : Said (an @TrBt.eq_1 <| an @LrBt.eq_1 <| an @GrBt_ref09bit <| an @Vref09bit_eq <| an @GrBt_ref09cast <| an @GrBt_rRf <| an @VrRf_eq <| an @GrBt_rTe <| an @VrTe_eq <| an @lbBa.eq_1 <| trivial) := said_ok _
set_option maxHeartbeats 4000000 in
theorem loopBa {B : OH} {H : HL} {N : St} {vk vv vt : Value} {s : S9} {cd ky vl : Int} {sb ob zb rb : Nat} (hb : ∀ i, i < s.ts.length → 0 ≤ s.ts.getD i 0 ∧ s.ts.getD i 0 ≤ 8) (hl : s.ts.length ≤ 300) (hs : SlW f1 1 B H vt s.ts) (hN : good B H N) (bs_ : B sb = none) (bo : B ob = none) (ls : lk H sb = some (.cells [.int .u64 s.r, vk, vv, vt, .bool s.cl] 5)) (lo : lk H ob = some (.cells [.int .i64 cd, .int .u64 ky, .int .u64 vl] 3)) {ts : List Value} (kp : KBa sb ob zb rb 0 0 ts) {F : Nat} (hF : 1000 ≤ F) :
    Ok (exec B { f := GrBt B } F (LC.loop lbBa) ⟨ts, H, N⟩) (fun x st => x = .exit 1 ∧ st.H = H ∧ st.N = N ∧ ∃ n, KBa sb ob zb rb n s.ts.length st.t) := by
  obtain ⟨hB, hR, hI⟩ := gX hN
  have hG : ∃ H N, good B H N := ⟨H, N, hN⟩
  have rs := rN bs_
  have ro := rN bo
  have hll := hs.len
  refine loop_rule (n0 := 100) (fun q st => ∃ ts n, ∃ i : Nat, st = ⟨ts, H, N⟩ ∧ KBa sb ob zb rb n i ts ∧ i ≤ s.ts.length ∧ q = s.ts.length - i) _ ?_ s.ts.length _ ⟨ts, 0, 0, rfl, kp, by omega, rfl⟩ _ (by omega)
  clear kp hF F ts
  rintro z q st ⟨ts, n, i, rfl, kp, hi, rfl⟩
  have hc1 : ((i + 1 : Nat) : Int) = (i : Int) + 1 := by omega
  by_cases hin : i < s.ts.length
  case neg =>
    obtain rfl : i = s.ts.length := by omega
    simp (disch := omega) only [J79, hB, hR, hI, kp.l, kp.t4, kp.t5, kp.t6, kp.t7, kp.t9, kp.t10, ls, bs_, rs, hll, Int.lt_irrefl, all1, ress, res1, retV, Value.cells, newsV_s, seval, eV]
    refine ok_some (.inr ⟨by simp, rfl, rfl, rfl, n, ⟨?_, ?_, ?_, ?_, ?_, ?_, ?_⟩⟩)
    all_goals simp (disch := omega) only [kp.l, kp.t4, kp.t5, kp.t6, kp.t7, kp.t9, kp.t10, Int.cast_ofNat_Int, decide_true, ev2, seval, ev5]
  have hin' : (i : Int) < (s.ts.length : Int) := by omega
  have i0 : (0 : Int) ≤ (i : Int) := by omega
  obtain ⟨bv, ov, cv, rfl, rr⟩ := rd_w f1_len hs (by omega)
  have r1 := rr H Fr.refl i hin
  simp only [f1] at r1
  have e1 := xbit hG (IntKind.u64.wrap (s.ts.getD i 0) == ky)
  obtain ⟨m1, m2⟩ := hb i hin
  have w1' : IntKind.u64.wrap (s.ts.getD i 0) = s.ts.getD i 0 := IntWalk.u64_in _ (by omega)
  rw [w1'] at e1
  simp (disch := omega) only [J79, hB, hR, hI, kp.l, kp.t4, kp.t5, kp.t6, kp.t7, kp.t9, kp.t10, ls, lo, bs_, bo, rs, ro, hin, hin', i0, r1, w1', e1, Nat.mul_one, all1, ress, res1, retV, Value.cells, newsV_s, seval, eV]
  refine ok_some (.inl ⟨rfl, s.ts.length - (i + 1), by omega, _, IntKind.u64.wrap (n + biI (s.ts.getD i 0 == ky)), i + 1, rfl, ⟨?_, ?_, ?_, ?_, ?_, ?_, ?_⟩, by omega, rfl⟩)
  all_goals simp (disch := omega) only [kp.l, kp.t4, kp.t5, kp.t6, kp.t7, kp.t9, kp.t10, hc1, Int.cast_ofNat_Int, decide_true, ev2, seval, ev5]
theorem J80 : Said (an @TrBt.eq_1 <| an @LrBt.eq_1 <| an @GrBt_ref09bit <| an @Vref09bit_eq <| an @GrBt_ref09cast <| an @GrBt_rRf <| an @VrRf_eq <| an @GrBt_rTe <| an @VrTe_eq <| trivial) := said_ok _
set_option maxHeartbeats 16000000 in
theorem xballot {B : OH} {H : HL} {N : St} {vk vv vt : Value} {s : S9} {kk p cc h : Nat} {cd ky vl : Int} (C : Cf kk p cc h) (h5 : kk = 5) (R : Rt kk cc s) (hs : StW B H vk vv vt s) (hk : u64R ky) (hv : u64R vl) (hN : good B H N) : Res9 B H vk vv vt s kk cc (VrBt B [.agg #[.int .i64 (kk : Int), .int .i64 (p : Int), .int .i64 (cc : Int)], .agg #[.int .u64 s.r, vk, vv, vt, .bool s.cl], .agg #[.int .i64 cd, .int .u64 ky, .int .u64 vl]] H N) := by
  obtain ⟨hB, hR, hI⟩ := gX hN
  have hG : ∃ H N, good B H N := ⟨H, N, hN⟩
  have hc := C.c
  have e1 := xtells hG
  have e2 := xrefuses hG
  have e3 := xbit hG
  have ha := hs.all s.cl
  have hat := hs.all true
  have hl := R.tl h5
  have wc : IntKind.u64.wrap (cc : Int) = (cc : Int) := IntWalk.u64_in _ (by omega)
  obtain ⟨H6, hH6⟩ : ∃ H6, H6 = (N.n 5, (.cells [.int .u64 s.r, vk, vv, vt, .bool s.cl] 5 : KB)) :: (N.n 4, (.cells [.int .i64 0, .int .u64 0] 2 : KB)) :: (N.n 3, (.cells [.int .u64 0, .slice none 0 0, .slice none 0 0, .slice none 0 0, .bool false] 5 : KB)) :: (N.n 2, (.cells [.int .i64 cd, .int .u64 ky, .int .u64 vl] 3 : KB)) :: (N.n 1, (.cells [.int .u64 s.r, vk, vv, vt, .bool s.cl] 5 : KB)) :: (N.n 0, (.cells [.int .i64 (kk : Int), .int .i64 (p : Int), .int .i64 (cc : Int)] 3 : KB)) :: H := ⟨_, rfl⟩
  have g6 : good B H6 (sh (sh (sh (sh (sh (sh N)))))) := by rw [hH6]; repeat (first | exact hN | refine good_new ?_)
  have f6 : Fr H H6 := by rw [hH6]; repeat (first | exact Fr.refl | refine fr_set ?_ (lk_N hN _))
  unfold VrBt
  by_cases c1 : cd = 12
  · subst c1
    obtain ⟨s', wk, wv, wt, a, b, H7, N7, e7, g7, f7, t7, R7⟩ := xcast (cd := 12) (ky := ky) (vl := vl) C h5 R (hs.mono f6) hk hv g6
    have q3 : lk H6 (N.n 3) = some (.cells [.int .u64 0, .slice none 0 0, .slice none 0 0, .slice none 0 0, .bool false] 5) := by rw [hH6]; simp only [lk_cons, hI]; rfl
    have q4 : lk H6 (N.n 4) = some (.cells [.int .i64 0, .int .u64 0] 2) := by rw [hH6]; simp only [lk_cons, hI]; rfl
    have p3 := f7 _ _ q3
    have p4 := f7 _ _ q4
    have b3 := hB 3
    have b4 := hB 4
    have rb3 := rN b3
    have rb4 := rN b4
    have n43 : (N.n 4 == N.n 3) = false := hI 4 3
    have n34 : (N.n 3 == N.n 4) = false := hI 3 4
    have g8 := good_up (k := .cells [.int .u64 s'.r, wk, wv, wt, .bool s'.cl] 5) g7 b3 p3
    have p4' : lk (upH H7 (N.n 3) (.cells [.int .u64 s'.r, wk, wv, wt, .bool s'.cl] 5)) (N.n 4) = some (.cells [.int .i64 0, .int .u64 0] 2) := by rw [lk_upH, n43, cond_false]; exact p4
    have g9 := good_up (k := .cells [.int .i64 a, .int .u64 b] 2) g8 b4 p4'
    have fr9 := fr_up (k := .cells [.int .i64 a, .int .u64 b] 2) (fr_up (k := .cells [.int .u64 s'.r, wk, wv, wt, .bool s'.cl] 5) (f6.trans f7) (lk_N hN 3)) (lk_N hN 4)
    have nw9 : ∀ H'', Nw H (upH (upH H7 (N.n 3) (.cells [.int .u64 s'.r, wk, wv, wt, .bool s'.cl] 5)) (N.n 4) (.cells [.int .i64 a, .int .u64 b] 2)) H'' → Nw H6 H7 H'' := fun H'' nw y c h0 h1 => by
      refine nw y c (f6.dm _ h0) ?_
      rw [lk_upH, eqb (fun e => by rw [e, q4] at h0; cases h0), cond_false, lk_upH, eqb (fun e => by rw [e, q3] at h0; cases h0), cond_false]; exact h1
    have hq := t7 _ ((hs.mono f6).mono f7) (fun _ _ _ e => e)
    have ha' := hq.all s'.cl
    rw [hH6] at e7
    simp (disch := omega) only [J80, hB, hR, hI, e7, ha, ha', p3, p4, b3, b4, rb3, rb4, n43, n34, all1, ress, res1, retV, Value.cells, newsV_s, seval, eV]
    exact fin9 rfl R7 (fun H'' h nw => t7 H'' h (nw9 H'' nw)) g9 fr9
  have d1 := beqI c1
  by_cases c2 : cd = 13
  · subst c2
    simp (disch := omega) only [J80, hB, hR, hI, e1, e3, ha, hat, all1, ress, res1, retV, Value.cells, newsV_s, seval, eV]
    refine fin9 (s := ⟨s.r, s.ks, s.vs, s.ts, true⟩) rfl (R.setC h5 true) (fun _ h _ => ⟨h.k, h.v, h.t⟩) ?_ ?_
    · repeat (first | exact hN | refine good_new ?_)
    · repeat (first | exact Fr.refl | refine fr_set ?_ (lk_N hN _))
  have d2 := beqI c2
  by_cases c3 : cd = 14
  · subst c3
    by_cases k1 : ky < 1
    · simp (disch := omega) only [J80, hB, hR, hI, e2, ha, k1, all1, ress, res1, retV, Value.cells, newsV_s, seval, eV]
      refine fin9 rfl R (fun _ h _ => h) ?_ ?_
      · repeat (first | exact hN | refine good_new ?_)
      · repeat (first | exact Fr.refl | refine fr_set ?_ (lk_N hN _))
    by_cases k2 : ky > 8
    · simp (disch := omega) only [J80, hB, hR, hI, e2, ha, k1, k2, all1, ress, res1, retV, Value.cells, newsV_s, seval, eV]
      refine fin9 rfl R (fun _ h _ => h) ?_ ?_
      · repeat (first | exact hN | refine good_new ?_)
      · repeat (first | exact Fr.refl | refine fr_set ?_ (lk_N hN _))
    have q1 : lk H6 (N.n 1) = some (.cells [.int .u64 s.r, vk, vv, vt, .bool s.cl] 5) := by rw [hH6]; simp only [lk_cons, hI]; rfl
    have q2 : lk H6 (N.n 2) = some (.cells [.int .i64 14, .int .u64 ky, .int .u64 vl] 3) := by rw [hH6]; simp only [lk_cons, hI]; rfl
    simp (disch := omega) only [J80, hB, hR, hI, e2, ha, k1, k2, all1, ress, res1, retV, Value.cells, newsV_s, seval, eV]
    rw [← hH6]
    generalize hX : exec B _ _ (LC.loop _) _ = o
    obtain ⟨x, ⟨ts, H7, N7⟩, rfl, rfl, hHH, hNN, n, kp⟩ := (show Ok o _ by rw [← hX]; exact loopBa (cd := 14) (ky := ky) (vl := vl) (sb := N.n 1) (ob := N.n 2) (zb := N.n 3) (rb := N.n 4) R.tb (by omega) (hs.t.mono f6) g6 (hB 1) (hB 2) q1 q2 ⟨rfl, rfl, rfl, rfl, rfl, rfl, rfl⟩ (by omega))
    simp only at kp hHH hNN
    rw [hHH, hH6, hNN]
    simp (disch := omega) only [J80, hB, hR, hI, kp.l, kp.t4, kp.t5, kp.t6, kp.t7, kp.t9, kp.t10, e1, ha, all1, ress, res1, retV, Value.cells, newsV_s, seval, eV]
    refine fin9 rfl R (fun _ h _ => h) ?_ ?_
    · repeat (first | exact hN | refine good_new ?_)
    · repeat (first | exact Fr.refl | refine fr_set ?_ (lk_N hN _))
  have d3 := beqI c3
  by_cases c4 : cd = 15
  · subst c4
    by_cases k1 : ky ≥ (cc : Int)
    · simp (disch := omega) only [J80, hB, hR, hI, e2, ha, wc, k1, all1, ress, res1, retV, Value.cells, newsV_s, seval, eV]
      refine fin9 rfl R (fun _ h _ => h) ?_ ?_
      · repeat (first | exact hN | refine good_new ?_)
      · repeat (first | exact Fr.refl | refine fr_set ?_ (lk_N hN _))
    unfold u64R at hk
    obtain ⟨i, rfl⟩ : ∃ i : Nat, ky = (i : Int) := ⟨ky.toNat, by omega⟩
    have hi : i < s.ts.length := by omega
    have i0 : (0 : Int) ≤ (i : Int) := by omega
    obtain ⟨bv, ov, cv, rfl, rr⟩ := rd_w f1_len hs.t (by omega)
    have r1 := rr H6 f6 i hi
    rw [hH6] at r1
    simp only [f1] at r1
    generalize s.ts.getD i 0 = tv at *
    simp (disch := omega) only [J80, hB, hR, hI, e1, ha, wc, k1, i0, hi, r1, Nat.mul_one, all1, ress, res1, retV, Value.cells, newsV_s, seval, eV]
    refine fin9 rfl R (fun _ h _ => h) ?_ ?_
    · repeat (first | exact hN | refine good_new ?_)
    · repeat (first | exact Fr.refl | refine fr_set ?_ (lk_N hN _))
  have d4 := beqI c4
  by_cases c5 : cd = 16
  · subst c5
    simp (disch := omega) only [J80, hB, hR, hI, e1, e3, ha, all1, ress, res1, retV, Value.cells, newsV_s, seval, eV]
    refine fin9 rfl R (fun _ h _ => h) ?_ ?_
    · repeat (first | exact hN | refine good_new ?_)
    · repeat (first | exact Fr.refl | refine fr_set ?_ (lk_N hN _))
  have d5 := beqI c5
  simp (disch := omega) only [J80, hB, hR, hI, e2, d1, d2, d3, d4, d5, ha, all1, ress, res1, retV, Value.cells, newsV_s, seval, eV]
  refine fin9 rfl R (fun _ h _ => h) ?_ ?_
  · repeat (first | exact hN | refine good_new ?_)
  · repeat (first | exact Fr.refl | refine fr_set ?_ (lk_N hN _))
end Go.Proofs.YtfhiplfagejfoaaDoor
namespace Go.Proofs.YtfhiplfagejfoaaDoor
open Go.Proofs.YtfhiplfagejfoaaDoor.K Go.ChangeShapes Go.WideShapes Go.ChangeAt Go.RowKit 
set_option maxRecDepth 100000
set_option linter.unusedSimpArgs false
set_option linter.unusedVariables false
theorem slm_nw {α : Type} {f : α → List Value} {sz : Nat} {B : OH} {H H6 H7 HF H'' : HL} {v : Value} {L : List α} (h : SlM f sz B H6 H7 v L) (f6 : Fr H H6) (hF : ∀ y c, lk H6 y = none → lk H7 y = some c → lk HF y = some c) (nw : Nw H HF H'') : SlM f sz B H6 H'' v L := by
  rcases h with h | ⟨b, cap, rest, h1, h2, h3, h4, h5⟩
  · exact .inl h
  · exact .inr ⟨b, cap, rest, h1, h2, h3, h4, nw _ _ (f6.dm _ h3) (hF _ _ h3 h5)⟩
theorem wr_w1' {L : List Int} {rest : List Value} {i : Nat} {x : Int} (hi : i < L.length) : wr (fl w1 L ++ rest) i [.int .u64 x] = some (fl w1 (L.set i x) ++ rest) := by
  have h1 := wr_fl w1_len L i 0 [.int .u64 x] 0 x hi (by simp) rfl
  rw [Nat.add_zero, Nat.mul_one] at h1
  rw [wr_append_left _ _ _ _ (by rw [fl_length w1_len]; simp; omega), h1]; rfl
def LrPl : FnL := ⟨(.seq (.ops [oa 6 (.box (ot 0)),oa 7 (.box (ot 1)),oa 8 (.box (ot 2)),oa 12 (.alloc [(.int .u64 0), (.slice none 0 0), (.slice none 0 0), (.slice none 0 0), (.bool false)]),oa 13 (.alloc [(.int .i64 0), (.int .u64 0)])])
 (.seq (.ops [oa 16 (.load true 5 (ot 7)),oa 14 (.alloc [(.int .u64 0), (.slice none 0 0), (.slice none 0 0), (.slice none 0 0), (.bool false)]), oc (.store 5 (ot 14) (ot 16))])
 (.seq (.ops [om 17 5,oa 18 (.un .not (ot 17)),om 19 18,ob 20 (.faddr 1 (ot 7)) 19 true,ob 21 (.load false 1 (ot 20)) 19 true,ob 22 (.len false (ot 21)) 19 true,ob 23 (.faddr 2 (ot 6)) 19 true,ob 24 (.load false 1 (ot 23)) 19 true,ob 25 (.bin .eql (ot 22) (ot 24)) 19 true,oa 26 (.pick (ot 19) (ot 25) (.const (.bool false))),om 15 26])
 (.seq (.block 0 (.seq (.ops [og 28 0 8,ol 29 28,oa 30 (.bin .eql (ot 29) (oi 7)),om 31 30,ob 32 (.mv (ot 5)) 31 true,oa 33 (.pick (ot 31) (ot 32) (.const (.bool false))),om 27 33])
 (.cond (ot 27) (.seq (.ops [og 34 1 7,ol 35 34,om 36 4,oa 37 (.call (.func 116) [(ot 35), (ot 36)]),og 38 1 14, oc (.store 1 (ot 38) (ot 37))])
 (.seq (.seq (.ops [oa 39 (.load true 3 (ot 6)),oa 40 (.call (.func 95) [(ot 39)]),oa 41 (.un .not (ot 40))])
 (.cond (ot 41) (.seq (.draw [oe 42 (.load true 5 (ot 14)), ⟨oa 43 (.call (.func 100) [(ou 0)]), [oa 42 (.load true 5 (ot 14))]⟩,⟨oc (.store 5 (ot 12) (ot 42)),[]⟩,⟨oc (.store 2 (ot 13) (ot 43)),[]⟩])
 .ret)
 .skip))
 (.seq (.ops [og 44 2 7,ol 45 44,om 46 4,oa 47 (.call (.func 116) [(ot 45), (ot 46)]),og 48 2 14, oc (.store 1 (ot 48) (ot 47))])
 (.seq (.draw [oe 49 (.load true 5 (ot 14)),pg 50 2 7,pl 51 50,pm 52 4,oe 53 (.iaddrS 1 (ot 51) (ot 52)),pl 54 53, ⟨oa 55 (.call (.func 100) [(ot 54)]), [oa 49 (.load true 5 (ot 14))]⟩,⟨oc (.store 5 (ot 12) (ot 49)),[]⟩,⟨oc (.store 2 (ot 13) (ot 55)),[]⟩])
 .ret))))
 (.seq (.ops [og 57 0 8,ol 58 57,oa 59 (.bin .eql (ot 58) (oi 7)),om 56 59])
 (.cond (ot 56) (.seq (.draw [oe 60 (.load true 5 (ot 7)), ⟨oa 61 (.call (.func 103) [(oi 12)]), [oa 60 (.load true 5 (ot 7))]⟩,⟨oc (.store 5 (ot 12) (ot 60)),[]⟩,⟨oc (.store 2 (ot 13) (ot 61)),[]⟩])
 .ret)
 (.seq (.ops [og 63 0 8,ol 64 63,oa 65 (.bin .eql (ot 64) (oi 8)),om 62 65])
 (.cond (ot 62) (.seq (.seq (.ops [om 66 5,om 67 66,ob 68 (.faddr 2 (ot 8)) 67 true,ob 69 (.load false 1 (ot 68)) 67 true,ob 70 (.bin .neq (ot 69) (ou 0)) 67 true,oa 71 (.pick (ot 67) (ot 70) (.const (.bool false)))])
 (.cond (ot 71) (.ops [om 72 4,oa 73 (.bin .add (ot 72) (oi 1)),om 4 73])
 .skip))
 (.seq (.seq (.ops [om 74 4,og 75 1 7,ol 76 75,oa 77 (.len false (ot 76)),oa 78 (.bin .eql (ot 74) (ot 77))])
 (.cond (ot 78) (.seq (.draw [oe 79 (.load true 5 (ot 7)), ⟨oa 80 (.call (.func 103) [(oi 12)]), [oa 79 (.load true 5 (ot 7))]⟩,⟨oc (.store 5 (ot 12) (ot 79)),[]⟩,⟨oc (.store 2 (ot 13) (ot 80)),[]⟩])
 .ret)
 .skip))
 (.seq (.draw [oe 81 (.load true 5 (ot 7)),pg 82 1 7,pl 83 82,pm 84 4,oe 85 (.iaddrS 1 (ot 83) (ot 84)),pl 86 85, ⟨oa 87 (.call (.func 100) [(ot 86)]), [oa 81 (.load true 5 (ot 7))]⟩,⟨oc (.store 5 (ot 12) (ot 81)),[]⟩,⟨oc (.store 2 (ot 13) (ot 87)),[]⟩])
 .ret)))
 (.seq (.ops [og 89 0 8,ol 90 89,oa 91 (.bin .eql (ot 90) (oi 5)),om 92 91,ob 93 (.load true 3 (ot 6)) 92 true,ob 94 (.call (.func 95) [(ot 93)]) 92 true,ob 95 (.un .not (ot 94)) 92 true,oa 96 (.pick (ot 92) (ot 95) (.const (.bool false))),om 88 96])
 (.cond (ot 88) (.seq (.draw [oe 97 (.load true 5 (ot 7)),pm 98 5, ⟨oa 99 (.call (.func 106) [(ot 98)]), [oa 97 (.load true 5 (ot 7))]⟩,⟨oa 100 (.call (.func 100) [(ot 99)]), [oa 97 (.load true 5 (ot 7))]⟩,⟨oc (.store 5 (ot 12) (ot 97)),[]⟩,⟨oc (.store 2 (ot 13) (ot 100)),[]⟩])
 .ret)
 (.seq (.ops [og 102 0 8,ol 103 102,oa 104 (.bin .eql (ot 103) (oi 10)),om 105 104,ob 106 (.load true 3 (ot 6)) 105 true,ob 107 (.call (.func 95) [(ot 106)]) 105 true,oa 108 (.pick (ot 105) (ot 107) (.const (.bool false))),om 101 108])
 (.cond (ot 101) (.seq (.seq (.ops [om 109 5,oa 110 (.un .not (ot 109))])
 (.cond (ot 110) (.seq (.draw [oe 111 (.load true 5 (ot 7)), ⟨oa 112 (.call (.func 103) [(oi 12)]), [oa 111 (.load true 5 (ot 7))]⟩,⟨oc (.store 5 (ot 12) (ot 111)),[]⟩,⟨oc (.store 2 (ot 13) (ot 112)),[]⟩])
 .ret)
 .skip))
 (.seq (.draw [oe 113 (.load true 5 (ot 7)),pg 114 2 7,pl 115 114,pm 116 4,oe 117 (.iaddrS 1 (ot 115) (ot 116)),pl 118 117, ⟨oa 119 (.call (.func 100) [(ot 118)]), [oa 113 (.load true 5 (ot 7))]⟩,⟨oc (.store 5 (ot 12) (ot 113)),[]⟩,⟨oc (.store 2 (ot 13) (ot 119)),[]⟩])
 .ret))
 (.seq (.ops [og 121 0 8,ol 122 121,oa 123 (.bin .eql (ot 122) (oi 6)),om 124 123,ob 125 (.load true 3 (ot 6)) 124 true,ob 126 (.call (.func 95) [(ot 125)]) 124 true,ob 127 (.un .not (ot 126)) 124 true,oa 128 (.pick (ot 124) (ot 127) (.const (.bool false))),om 120 128])
 (.cond (ot 120) (.seq (.seq (.ops [om 129 5])
 (.cond (ot 129) (.seq (.draw [oe 130 (.load true 5 (ot 7)), ⟨oa 131 (.call (.func 100) [(ou 0)]), [oa 130 (.load true 5 (ot 7))]⟩,⟨oc (.store 5 (ot 12) (ot 130)),[]⟩,⟨oc (.store 2 (ot 13) (ot 131)),[]⟩])
 .ret)
 .skip))
 (.seq (.seq (.ops [om 132 15])
 (.cond (ot 132) (.seq (.draw [oe 133 (.load true 5 (ot 7)), ⟨oa 134 (.call (.func 103) [(oi 11)]), [oa 133 (.load true 5 (ot 7))]⟩,⟨oc (.store 5 (ot 12) (ot 133)),[]⟩,⟨oc (.store 2 (ot 13) (ot 134)),[]⟩])
 .ret)
 .skip))
 (.seq (.ops [og 135 1 7,ol 136 135,om 137 4,om 138 3,oa 139 (.call (.func 117) [(ot 136), (ot 137), (ot 138)]),og 140 1 14, oc (.store 1 (ot 140) (ot 139))])
 (.seq (.draw [oe 141 (.load true 5 (ot 14)), ⟨oa 142 (.call (.func 100) [(ou 1)]), [oa 141 (.load true 5 (ot 14))]⟩,⟨oc (.store 5 (ot 12) (ot 141)),[]⟩,⟨oc (.store 2 (ot 13) (ot 142)),[]⟩])
 .ret))))
 (.seq (.ops [og 144 0 8,ol 145 144,oa 146 (.bin .eql (ot 145) (oi 11)),om 147 146,ob 148 (.load true 3 (ot 6)) 147 true,ob 149 (.call (.func 95) [(ot 148)]) 147 true,oa 150 (.pick (ot 147) (ot 149) (.const (.bool false))),om 143 150])
 (.cond (ot 143) (.seq (.seq (.ops [om 151 15])
 (.cond (ot 151) (.seq (.draw [oe 152 (.load true 5 (ot 7)), ⟨oa 153 (.call (.func 103) [(oi 11)]), [oa 152 (.load true 5 (ot 7))]⟩,⟨oc (.store 5 (ot 12) (ot 152)),[]⟩,⟨oc (.store 2 (ot 13) (ot 153)),[]⟩])
 .ret)
 .skip))
 (.seq (.seq (.ops [om 154 5])
 (.cond (ot 154) (.seq (.ops [og 155 2 7,ol 156 155,oa 157 (.app [(.int .u64 0)] 8 (.const (.slice none 0 0)) (ot 156)),og 158 2 14, oc (.store 1 (ot 158) (ot 157))])
 (.seq (.ops [og 159 2 14,ol 160 159,om 161 4,og 162 2 8,ol 163 162,oa 164 (.iaddrS 1 (ot 160) (ot 161)), oc (.store 1 (ot 164) (ot 163))])
 (.seq (.draw [oe 165 (.load true 5 (ot 14)),pg 166 2 7,pl 167 166,pm 168 4,oe 169 (.iaddrS 1 (ot 167) (ot 168)),pl 170 169, ⟨oa 171 (.call (.func 100) [(ot 170)]), [oa 165 (.load true 5 (ot 14))]⟩,⟨oc (.store 5 (ot 12) (ot 165)),[]⟩,⟨oc (.store 2 (ot 13) (ot 171)),[]⟩])
 .ret)))
 .skip))
 (.seq (.ops [og 172 1 7,ol 173 172,om 174 4,om 175 3,oa 176 (.call (.func 117) [(ot 173), (ot 174), (ot 175)]),og 177 1 14, oc (.store 1 (ot 177) (ot 176))])
 (.seq (.ops [og 178 2 7,ol 179 178,om 180 4,og 181 2 8,ol 182 181,oa 183 (.call (.func 117) [(ot 179), (ot 180), (ot 182)]),og 184 2 14, oc (.store 1 (ot 184) (ot 183))])
 (.seq (.draw [oe 185 (.load true 5 (ot 14)), ⟨oa 186 (.call (.func 100) [(ou 0)]), [oa 185 (.load true 5 (ot 14))]⟩,⟨oc (.store 5 (ot 12) (ot 185)),[]⟩,⟨oc (.store 2 (ot 13) (ot 186)),[]⟩])
 .ret)))))
 .skip)))))))))))))))
 (.seq (.draw [oe 187 (.load true 5 (ot 7)), ⟨oa 188 (.call (.func 103) [(oi 10)]), [oa 187 (.load true 5 (ot 7))]⟩,⟨oc (.store 5 (ot 12) (ot 187)),[]⟩,⟨oc (.store 2 (ot 13) (ot 188)),[]⟩])
 .ret))))),
 189, [.cell 12 true 5, .cell 13 true 2]⟩
theorem lowrPl : lowerFn Tryd.prog Tryd.f104 = some LrPl := by kernel_rfl
noncomputable def GrPl (B : OH) : Nat → Cs
  | 106 => Vref09bit B
  | 103 => VrRf B
  | 100 => VrTe B
  | 95 => VrVa B
  | 117 => VrWi B
  | 116 => VrWo B
  | _ => fun _ _ _ => none
theorem GrPl_ref09bit {B : OH} : GrPl B 106 = Vref09bit B := rfl
theorem GrPl_rRf {B : OH} : GrPl B 103 = VrRf B := rfl
theorem GrPl_rTe {B : OH} : GrPl B 100 = VrTe B := rfl
theorem GrPl_rVa {B : OH} : GrPl B 95 = VrVa B := rfl
theorem GrPl_rWi {B : OH} : GrPl B 117 = VrWi B := rfl
theorem GrPl_rWo {B : OH} : GrPl B 116 = VrWo B := rfl
theorem sGrPl {w0 : World} {B : OH} : SoundG Tryd.prog w0 B { f := GrPl B } := .of fun k => by
  unfold GrPl
  split
  · exact .inr ⟨enref09bit, sVref09bit⟩
  · exact .inr ⟨enrRf, sVrRf⟩
  · exact .inr ⟨enrTe, sVrTe⟩
  · exact .inr ⟨enrVa, sVrVa⟩
  · exact .inr ⟨enrWi, sVrWi⟩
  · exact .inr ⟨enrWo, sVrWo⟩
  · exact .inl fun _ _ _ => rfl
theorem enrPl : Enter Tryd.prog 104 := .of Tryd.func104 (by kernel_rfl) (by kernel_rfl)
noncomputable def TrPl (B : OH) : Cs := callF B { f := GrPl B } 1000000 LrPl
theorem sTrPl {w0 : World} {B : OH} : SoundC Tryd.prog w0 B 104 (TrPl B) := callF_sound mixedOrders sGrPl 1000000 Tryd.func104 lowrPl
noncomputable def VrPl (B : OH) : Cs := TrPl B
theorem sVrPl {w0 : World} {B : OH} : SoundC Tryd.prog w0 B 104 (VrPl B) := sTrPl
theorem J81 : Said (an @TrPl.eq_1 <| an @LrPl.eq_1 <| an @GrPl_ref09bit <| an @Vref09bit_eq <| an @GrPl_rRf <| an @VrRf_eq <| an @GrPl_rTe <| an @VrTe_eq <| an @GrPl_rVa <| an @VrVa_eq <| an @GrPl_rWi <| an @GrPl_rWo <| trivial) := said_ok _
set_option maxHeartbeats 40000000 in
theorem xplaced {B : OH} {H : HL} {N : St} {vk vv vt : Value} {s : S9} {kk p cc h i : Nat} {cd ky vl x : Int} {here : Bool} (C : Cf kk p cc h) (hk : isK kk) (R : Rt kk cc s) (hs : StW B H vk vv vt s) (hx : u64R x) (hvl : u64R vl) (ho : okK kk x ∧ mnI kk x = x) (hi : i ≤ s.ks.length) (h1 : ∀ j, j < i → kyI kk (s.ks.getD j 0) < kyI kk x) (hh : here = true → i < s.ks.length) (h2 : here = false → i < s.ks.length → kyI kk x < kyI kk (s.ks.getD i 0)) (hN : good B H N) : Res9 B H vk vv vt s kk cc (VrPl B [.agg #[.int .i64 (kk : Int), .int .i64 (p : Int), .int .i64 (cc : Int)], .agg #[.int .u64 s.r, vk, vv, vt, .bool s.cl], .agg #[.int .i64 cd, .int .u64 ky, .int .u64 vl], .int .u64 x, .int .i64 (i : Int), .bool here] H N) := by
  obtain ⟨hB, hR, hI⟩ := gX hN
  have hG : ∃ H N, good B H N := ⟨H, N, hN⟩
  have hc := C.c
  have e1 := xtells hG
  have e2 := xrefuses hG
  have e3 := xbit hG
  have ev := xvalued hG (kk : Int) (p : Int) (cc : Int)
  have ha := hs.all s.cl
  have hab : all1 [vv, vt, .bool s.cl] = true := by
    obtain ⟨_, _, rfl, _⟩ := id hs.v
    obtain ⟨_, _, rfl, _⟩ := id hs.t
    rfl
  have hat : all1 [vt, .bool s.cl] = true := by
    obtain ⟨_, _, rfl, _⟩ := id hs.t
    rfl
  have hkl := R.kl
  have lk_ := hs.k.len
  obtain ⟨H6, hH6⟩ : ∃ H6, H6 = (N.n 5, (.cells [.int .u64 s.r, vk, vv, vt, .bool s.cl] 5 : KB)) :: (N.n 4, (.cells [.int .i64 0, .int .u64 0] 2 : KB)) :: (N.n 3, (.cells [.int .u64 0, .slice none 0 0, .slice none 0 0, .slice none 0 0, .bool false] 5 : KB)) :: (N.n 2, (.cells [.int .i64 cd, .int .u64 ky, .int .u64 vl] 3 : KB)) :: (N.n 1, (.cells [.int .u64 s.r, vk, vv, vt, .bool s.cl] 5 : KB)) :: (N.n 0, (.cells [.int .i64 (kk : Int), .int .i64 (p : Int), .int .i64 (cc : Int)] 3 : KB)) :: H := ⟨_, rfl⟩
  have g6 : good B H6 (sh (sh (sh (sh (sh (sh N)))))) := by rw [hH6]; repeat (first | exact hN | refine good_new ?_)
  have f6 : Fr H H6 := by rw [hH6]; repeat (first | exact Fr.refl | refine fr_set ?_ (lk_N hN _))
  have q0 : lk H6 (N.n 0) = some (.cells [.int .i64 (kk : Int), .int .i64 (p : Int), .int .i64 (cc : Int)] 3) := by rw [hH6]; simp only [lk_cons, hI]; rfl
  have q1 : lk H6 (N.n 1) = some (.cells [.int .u64 s.r, vk, vv, vt, .bool s.cl] 5) := by rw [hH6]; simp only [lk_cons, hI]; rfl
  have q2 : lk H6 (N.n 2) = some (.cells [.int .i64 cd, .int .u64 ky, .int .u64 vl] 3) := by rw [hH6]; simp only [lk_cons, hI]; rfl
  have q3 : lk H6 (N.n 3) = some (.cells [.int .u64 0, .slice none 0 0, .slice none 0 0, .slice none 0 0, .bool false] 5) := by rw [hH6]; simp only [lk_cons, hI]; rfl
  have q4 : lk H6 (N.n 4) = some (.cells [.int .i64 0, .int .u64 0] 2) := by rw [hH6]; simp only [lk_cons, hI]; rfl
  have q5 : lk H6 (N.n 5) = some (.cells [.int .u64 s.r, vk, vv, vt, .bool s.cl] 5) := by rw [hH6]; simp only [lk_cons, hI]; rfl
  have b0 := hB 0
  have b1 := hB 1
  have b2 := hB 2
  have b3 := hB 3
  have b4 := hB 4
  have b5 := hB 5
  have rb0 := rN b0
  have rb1 := rN b1
  have rb2 := rN b2
  have rb3 := rN b3
  have rb4 := rN b4
  have rb5 := rN b5
  unfold VrPl
  have i0 : (0 : Int) ≤ (i : Int) := by omega
  cases here with
  | true =>
    have hi' := hh rfl
    by_cases c7 : cd = 7
    · subst c7
      by_cases hv : (kk : Int) = 3 ∨ (kk : Int) = 4
      · rw [decide_eq_true hv] at ev
        have hvlen := R.vl (by omega)
        obtain ⟨v1, H7, N7, e7, g7, f7, s1⟩ := xwithout g6 (hs.k.mono f6) hi' (by omega)
        have s1 : SlM w1 1 B H6 H7 v1 (delL s.ks i) := s1
        have w1s := s1.wh w1_len
        obtain ⟨a1, k1, rfl, _⟩ := id w1s
        have ha1 : all1 [(.slice a1 (delL s.ks i).length k1), vv, vt, .bool s.cl] = true := all1_3 w1s hs.v hs.t s.cl
        have ha1b : all1 [vv, vt, .bool s.cl] = true := ha1
        have p3 := f7 _ _ q3
        have p4 := f7 _ _ q4
        have p5 := f7 _ _ q5
        have p0 := f7 _ _ q0
        have p1 := f7 _ _ q1
        have p2 := f7 _ _ q2
        obtain ⟨H8, hH8⟩ : ∃ H8, H8 = upH H7 (N.n 5) (.cells [.int .u64 s.r, (.slice a1 (delL s.ks i).length k1), vv, vt, .bool s.cl] 5) := ⟨_, rfl⟩
        have g8 : good B H8 N7 := by rw [hH8]; exact good_up g7 b5 p5
        have f8 : Fr H H8 := by rw [hH8]; exact fr_up (f6.trans f7) (lk_N hN 5)
        have t0 := (show lk H8 (N.n 0) = lk H7 (N.n 0) by rw [hH8, lk_upH, hI 0 5]; rfl).trans p0
        have t1 := (show lk H8 (N.n 1) = lk H7 (N.n 1) by rw [hH8, lk_upH, hI 1 5]; rfl).trans p1
        have t2 := (show lk H8 (N.n 2) = lk H7 (N.n 2) by rw [hH8, lk_upH, hI 2 5]; rfl).trans p2
        have t3 := (show lk H8 (N.n 3) = lk H7 (N.n 3) by rw [hH8, lk_upH, hI 3 5]; rfl).trans p3
        have t4 := (show lk H8 (N.n 4) = lk H7 (N.n 4) by rw [hH8, lk_upH, hI 4 5]; rfl).trans p4
        have t5 : lk H8 (N.n 5) = some (.cells [.int .u64 s.r, (.slice a1 (delL s.ks i).length k1), vv, vt, .bool s.cl] 5) := by rw [hH8, lk_upH, beq_self_eq_true, cond_true]
        obtain ⟨v2, H9, N9, e9, g9, f9, s2⟩ := xwithout (L := s.vs) (i := i) g8 (hs.v.mono f8) (by omega) (by omega)
        have s2 : SlM w1 1 B H8 H9 v2 (delL s.vs i) := s2
        have w2s := s2.wh w1_len
        obtain ⟨a2, k2, rfl, _⟩ := id w2s
        have ha2 : all1 [vt, .bool s.cl] = true := all1_3 w1s w2s hs.t s.cl
        have u0 := f9 _ _ t0
        have u1 := f9 _ _ t1
        have u2 := f9 _ _ t2
        have u3 := f9 _ _ t3
        have u4 := f9 _ _ t4
        have u5 := f9 _ _ t5
        have g10 := good_up (k := .cells [.int .u64 s.r, (.slice a1 (delL s.ks i).length k1), (.slice a2 (delL s.vs i).length k2), vt, .bool s.cl] 5) g9 b5 u5
        have u3a : lk (upH H9 (N.n 5) (.cells [.int .u64 s.r, (.slice a1 (delL s.ks i).length k1), (.slice a2 (delL s.vs i).length k2), vt, .bool s.cl] 5)) (N.n 3) = some (.cells [.int .u64 0, .slice none 0 0, .slice none 0 0, .slice none 0 0, .bool false] 5) := by rw [lk_upH, hI 3 5]; exact u3
        have u4a : lk (upH H9 (N.n 5) (.cells [.int .u64 s.r, (.slice a1 (delL s.ks i).length k1), (.slice a2 (delL s.vs i).length k2), vt, .bool s.cl] 5)) (N.n 4) = some (.cells [.int .i64 0, .int .u64 0] 2) := by rw [lk_upH, hI 4 5]; exact u4
        have fT : Fr H (upH H9 (N.n 5) (.cells [.int .u64 s.r, (.slice a1 (delL s.ks i).length k1), (.slice a2 (delL s.vs i).length k2), vt, .bool s.cl] 5)) := fr_up (f8.trans f9) (lk_N hN 5)
        obtain ⟨bv, ov, cv, hvv, rr⟩ := rd_w w1_len hs.v (by omega)
        have r1 := rr _ fT i (by omega)
        simp only [w1] at r1
        have hiv : i < s.vs.length := by omega
        generalize s.vs.getD i 0 = rvv at r1
        subst hvv
        have g11 := good_up (k := .cells [.int .u64 s.r, (.slice a1 (delL s.ks i).length k1), (.slice a2 (delL s.vs i).length k2), vt, .bool s.cl] 5) g10 b3 u3a
        have u4b : lk (upH (upH H9 (N.n 5) (.cells [.int .u64 s.r, (.slice a1 (delL s.ks i).length k1), (.slice a2 (delL s.vs i).length k2), vt, .bool s.cl] 5)) (N.n 3) (.cells [.int .u64 s.r, (.slice a1 (delL s.ks i).length k1), (.slice a2 (delL s.vs i).length k2), vt, .bool s.cl] 5)) (N.n 4) = some (.cells [.int .i64 0, .int .u64 0] 2) := by rw [lk_upH, hI 4 3]; exact u4a
        have g12 := good_up (k := .cells [.int .i64 0, .int .u64 rvv] 2) g11 b4 u4b
        have fr12 := fr_up (k := .cells [.int .i64 0, .int .u64 rvv] 2) (fr_up (k := .cells [.int .u64 s.r, (.slice a1 (delL s.ks i).length k1), (.slice a2 (delL s.vs i).length k2), vt, .bool s.cl] 5) fT (lk_N hN 3)) (lk_N hN 4)
        have hF2 : ∀ y c, lk H8 y = none → lk H9 y = some c → lk (upH (upH (upH H9 (N.n 5) (.cells [.int .u64 s.r, (.slice a1 (delL s.ks i).length k1), (.slice a2 (delL s.vs i).length k2), vt, .bool s.cl] 5)) (N.n 3) (.cells [.int .u64 s.r, (.slice a1 (delL s.ks i).length k1), (.slice a2 (delL s.vs i).length k2), vt, .bool s.cl] 5)) (N.n 4) (.cells [.int .i64 0, .int .u64 rvv] 2)) y = some c := fun y c h0 h' => by
          rw [lk_upH, eqb (fun e => by rw [e, t4] at h0; cases h0), cond_false, lk_upH, eqb (fun e => by rw [e, t3] at h0; cases h0), cond_false, lk_upH, eqb (fun e => by rw [e, t5] at h0; cases h0), cond_false]; exact h'
        have hF1 : ∀ y c, lk H6 y = none → lk H7 y = some c → lk (upH (upH (upH H9 (N.n 5) (.cells [.int .u64 s.r, (.slice a1 (delL s.ks i).length k1), (.slice a2 (delL s.vs i).length k2), vt, .bool s.cl] 5)) (N.n 3) (.cells [.int .u64 s.r, (.slice a1 (delL s.ks i).length k1), (.slice a2 (delL s.vs i).length k2), vt, .bool s.cl] 5)) (N.n 4) (.cells [.int .i64 0, .int .u64 rvv] 2)) y = some c := fun y c h0 h' => by
          have h8 : lk H8 y = some c := by rw [hH8, lk_upH, eqb (fun e => by rw [e, q5] at h0; cases h0), cond_false]; exact h'
          rw [lk_upH, eqb (fun e => by rw [e, q4] at h0; cases h0), cond_false, lk_upH, eqb (fun e => by rw [e, q3] at h0; cases h0), cond_false, lk_upH, eqb (fun e => by rw [e, q5] at h0; cases h0), cond_false]; exact f9 _ _ h8
        rw [hH6] at e7
        rw [hH8] at e9
        simp (disch := omega) only [J81, hB, hR, hI, e1, ev, ha, hab, hat, ha1, lk_, e7, e9, p0, p1, p2, p3, p4, p5, u0, u1, u2, u3, u4, u5, b0, b1, b2, b3, b4, b5, rb0, rb1, rb2, rb3, rb4, rb5, r1, hiv, Nat.mul_one, i0, all1, ress, res1, retV, Value.cells, newsV_s, seval, eV]
        exact fin9 (s := ⟨s.r, delL s.ks i, delL s.vs i, s.ts, s.cl⟩) rfl (R.del hi') (fun H'' h nw => ⟨(slm_nw s1 f6 hF1 nw).wh w1_len, (slm_nw s2 f8 hF2 nw).wh w1_len, h.t⟩) g12 fr12
      · rw [decide_eq_false hv] at ev
        have hv0 := R.v0 (by unfold isK at hk; omega)
        obtain ⟨v1, H7, N7, e7, g7, f7, s1⟩ := xwithout g6 (hs.k.mono f6) hi' (by omega)
        have s1 : SlM w1 1 B H6 H7 v1 (delL s.ks i) := s1
        have w1s := s1.wh w1_len
        obtain ⟨a1, k1, rfl, _⟩ := id w1s
        have ha1 : all1 [(.slice a1 (delL s.ks i).length k1), vv, vt, .bool s.cl] = true := all1_3 w1s hs.v hs.t s.cl
        have ha1b : all1 [vv, vt, .bool s.cl] = true := ha1
        have p3 := f7 _ _ q3
        have p4 := f7 _ _ q4
        have p5 := f7 _ _ q5
        have p0 := f7 _ _ q0
        have p1 := f7 _ _ q1
        have p2 := f7 _ _ q2
        have g8 := good_up (k := .cells [.int .u64 s.r, (.slice a1 (delL s.ks i).length k1), vv, vt, .bool s.cl] 5) g7 b5 p5
        have p3a : lk (upH H7 (N.n 5) (.cells [.int .u64 s.r, (.slice a1 (delL s.ks i).length k1), vv, vt, .bool s.cl] 5)) (N.n 3) = some (.cells [.int .u64 0, .slice none 0 0, .slice none 0 0, .slice none 0 0, .bool false] 5) := by rw [lk_upH, hI 3 5]; exact p3
        have p4a : lk (upH H7 (N.n 5) (.cells [.int .u64 s.r, (.slice a1 (delL s.ks i).length k1), vv, vt, .bool s.cl] 5)) (N.n 4) = some (.cells [.int .i64 0, .int .u64 0] 2) := by rw [lk_upH, hI 4 5]; exact p4
        have fT : Fr H (upH H7 (N.n 5) (.cells [.int .u64 s.r, (.slice a1 (delL s.ks i).length k1), vv, vt, .bool s.cl] 5)) := fr_up (f6.trans f7) (lk_N hN 5)
        have g9 := good_up (k := .cells [.int .u64 s.r, (.slice a1 (delL s.ks i).length k1), vv, vt, .bool s.cl] 5) g8 b3 p3a
        have p4b : lk (upH (upH H7 (N.n 5) (.cells [.int .u64 s.r, (.slice a1 (delL s.ks i).length k1), vv, vt, .bool s.cl] 5)) (N.n 3) (.cells [.int .u64 s.r, (.slice a1 (delL s.ks i).length k1), vv, vt, .bool s.cl] 5)) (N.n 4) = some (.cells [.int .i64 0, .int .u64 0] 2) := by rw [lk_upH, hI 4 3]; exact p4a
        have g10 := good_up (k := .cells [.int .i64 0, .int .u64 0] 2) g9 b4 p4b
        have fr10 := fr_up (k := .cells [.int .i64 0, .int .u64 0] 2) (fr_up (k := .cells [.int .u64 s.r, (.slice a1 (delL s.ks i).length k1), vv, vt, .bool s.cl] 5) (fT) (lk_N hN 3)) (lk_N hN 4)
        have hF : ∀ y c, lk H6 y = none → lk H7 y = some c → lk (upH (upH (upH H7 (N.n 5) (.cells [.int .u64 s.r, (.slice a1 (delL s.ks i).length k1), vv, vt, .bool s.cl] 5)) (N.n 3) (.cells [.int .u64 s.r, (.slice a1 (delL s.ks i).length k1), vv, vt, .bool s.cl] 5)) (N.n 4) (.cells [.int .i64 0, .int .u64 0] 2)) y = some c := fun y c h0 h' => by
          rw [lk_upH, eqb (fun e => by rw [e, q4] at h0; cases h0), cond_false, lk_upH, eqb (fun e => by rw [e, q3] at h0; cases h0), cond_false, lk_upH, eqb (fun e => by rw [e, q5] at h0; cases h0), cond_false]; exact h'
        rw [hH6] at e7
        simp (disch := omega) only [J81, hB, hR, hI, e1, ev, ha, hab, hat, ha1, lk_, e7, p0, p1, p2, p3, p4, p5, b0, b1, b2, b3, b4, b5, rb0, rb1, rb2, rb3, rb4, rb5, i0, all1, ress, res1, retV, Value.cells, newsV_s, seval, eV]
        exact fin9 (s := ⟨s.r, delL s.ks i, delL s.vs i, s.ts, s.cl⟩) rfl (R.del hi') (fun H'' h nw => ⟨(slm_nw s1 f6 hF nw).wh w1_len, (by have q := h.v; rw [hv0] at q; show SlW w1 1 B _ vv (delL s.vs i); rw [hv0, show delL ([] : List Int) i = [] by simp [delL]]; exact q), h.t⟩) g10 fr10
    have d7 := beqI c7
    by_cases c8 : cd = 8
    · subst c8
      have ie : ((i : Int) == (s.ks.length : Int)) = false := by simpa using fun h' : (i : Int) = (s.ks.length : Int) => by omega
      by_cases w0 : vl = 0
      · subst w0
        obtain ⟨bv, ov, cv, rfl, rr⟩ := rd_w w1_len hs.k (by omega)
        have r1 := rr H6 f6 (i) (by omega)
        rw [hH6] at r1
        simp only [w1] at r1
        generalize s.ks.getD (i) 0 = rv at r1
        simp (disch := omega) only [J81, hB, hR, hI, ha, hab, hat, e1, e2, e3, ev, lk_, i0, r1, hi', ie, bne_self_eq_false, Nat.mul_one, all1, ress, res1, retV, Value.cells, newsV_s, seval, eV]
        refine fin9 rfl R (fun _ h _ => h) ?_ ?_
        · repeat (first | exact hN | refine good_new ?_)
        · repeat (first | exact Fr.refl | refine fr_set ?_ (lk_N hN _))
      have w0b : (vl != 0) = true := by simpa using w0
      by_cases hn : i + 1 = s.ks.length
      · have hw : IntKind.i64.wrap ((i : Int) + 1) = (s.ks.length : Int) := by rw [IntWalk.i64_in _ (by omega)]; omega
        simp (disch := omega) only [J81, hB, hR, hI, ha, hab, hat, e1, e2, e3, ev, lk_, i0, w0b, hw, all1, ress, res1, retV, Value.cells, newsV_s, seval, eV]
        refine fin9 rfl R (fun _ h _ => h) ?_ ?_
        · repeat (first | exact hN | refine good_new ?_)
        · repeat (first | exact Fr.refl | refine fr_set ?_ (lk_N hN _))
      · have hw : IntKind.i64.wrap ((i : Int) + 1) = ((i + 1 : Nat) : Int) := by rw [IntWalk.i64_in _ (by omega)]; omega
        have ie2 : (((i + 1 : Nat) : Int) == (s.ks.length : Int)) = false := by simpa using fun h' : ((i : Int) + 1) = (s.ks.length : Int) => by omega
        have j0 : (0 : Int) ≤ ((i + 1 : Nat) : Int) := by omega
        have hj : i + 1 < s.ks.length := by omega
        obtain ⟨bv, ov, cv, rfl, rr⟩ := rd_w w1_len hs.k (by omega)
        have r1 := rr H6 f6 (i + 1) (by omega)
        rw [hH6] at r1
        simp only [w1] at r1
        generalize s.ks.getD (i + 1) 0 = rv at r1
        simp (disch := omega) only [J81, hB, hR, hI, ha, hab, hat, e1, e2, e3, ev, lk_, i0, w0b, hw, ie2, j0, hj, r1, Nat.mul_one, all1, ress, res1, retV, Value.cells, newsV_s, seval, eV]
        refine fin9 rfl R (fun _ h _ => h) ?_ ?_
        · repeat (first | exact hN | refine good_new ?_)
        · repeat (first | exact Fr.refl | refine fr_set ?_ (lk_N hN _))
    have d8 := beqI c8
    by_cases c5 : cd = 5
    · subst c5
      by_cases hv : (kk : Int) = 3 ∨ (kk : Int) = 4
      · rw [decide_eq_true hv] at ev
        simp (disch := omega) only [J81, hB, hR, hI, ha, hab, hat, e1, e2, e3, ev, lk_, i0, all1, ress, res1, retV, Value.cells, newsV_s, seval, eV]
        refine fin9 rfl R (fun _ h _ => h) ?_ ?_
        · repeat (first | exact hN | refine good_new ?_)
        · repeat (first | exact Fr.refl | refine fr_set ?_ (lk_N hN _))
      · rw [decide_eq_false hv] at ev
        simp (disch := omega) only [J81, hB, hR, hI, ha, hab, hat, e1, e2, e3, ev, lk_, i0, all1, ress, res1, retV, Value.cells, newsV_s, seval, eV]
        refine fin9 rfl R (fun _ h _ => h) ?_ ?_
        · repeat (first | exact hN | refine good_new ?_)
        · repeat (first | exact Fr.refl | refine fr_set ?_ (lk_N hN _))
    have d5 := beqI c5
    by_cases c10 : cd = 10
    · subst c10
      by_cases hv : (kk : Int) = 3 ∨ (kk : Int) = 4
      · rw [decide_eq_true hv] at ev
        have hvlen := R.vl (by omega)
        obtain ⟨bv, ov, cv, rfl, rr⟩ := rd_w w1_len hs.v (by omega)
        have r1 := rr H6 f6 (i) (by omega)
        rw [hH6] at r1
        simp only [w1] at r1
        have hiv : i < s.vs.length := by omega
        generalize s.vs.getD i 0 = rv at r1
        simp (disch := omega) only [J81, hB, hR, hI, ha, hab, hat, e1, e2, e3, ev, lk_, i0, r1, hiv, Nat.mul_one, all1, ress, res1, retV, Value.cells, newsV_s, seval, eV]
        refine fin9 rfl R (fun _ h _ => h) ?_ ?_
        · repeat (first | exact hN | refine good_new ?_)
        · repeat (first | exact Fr.refl | refine fr_set ?_ (lk_N hN _))
      · rw [decide_eq_false hv] at ev
        simp (disch := omega) only [J81, hB, hR, hI, ha, hab, hat, e1, e2, e3, ev, lk_, i0, all1, ress, res1, retV, Value.cells, newsV_s, seval, eV]
        refine fin9 rfl R (fun _ h _ => h) ?_ ?_
        · repeat (first | exact hN | refine good_new ?_)
        · repeat (first | exact Fr.refl | refine fr_set ?_ (lk_N hN _))
    have d10 := beqI c10
    by_cases c6 : cd = 6
    · subst c6
      by_cases hv : (kk : Int) = 3 ∨ (kk : Int) = 4
      · rw [decide_eq_true hv] at ev
        simp (disch := omega) only [J81, hB, hR, hI, ha, hab, hat, e1, e2, e3, ev, lk_, i0, all1, ress, res1, retV, Value.cells, newsV_s, seval, eV]
        refine fin9 rfl R (fun _ h _ => h) ?_ ?_
        · repeat (first | exact hN | refine good_new ?_)
        · repeat (first | exact Fr.refl | refine fr_set ?_ (lk_N hN _))
      · rw [decide_eq_false hv] at ev
        simp (disch := omega) only [J81, hB, hR, hI, ha, hab, hat, e1, e2, e3, ev, lk_, i0, all1, ress, res1, retV, Value.cells, newsV_s, seval, eV]
        refine fin9 rfl R (fun _ h _ => h) ?_ ?_
        · repeat (first | exact hN | refine good_new ?_)
        · repeat (first | exact Fr.refl | refine fr_set ?_ (lk_N hN _))
    have d6 := beqI c6
    by_cases c11 : cd = 11
    · subst c11
      by_cases hv : (kk : Int) = 3 ∨ (kk : Int) = 4
      · rw [decide_eq_true hv] at ev
        have hvlen := R.vl (by omega)
        obtain ⟨v1, H7, N7, e7, g7, f7, s1⟩ := app_nil (bytes := 8) w1_len (by omega) g6 (hs.v.mono f6) (all1_w1 _) (by omega) (by omega)
        have w1s := s1.wh w1_len
        obtain ⟨b_, c1, rest, rfl, bb, l0, hle, lb⟩ := slm_1 s1 (by omega)
        have ha1 : all1 [vk, .slice (some ⟨b_, 0, none⟩) s.vs.length c1, vt, .bool s.cl] = true := all1_3 hs.k w1s hs.t s.cl
        have p3 := f7 _ _ q3
        have p4 := f7 _ _ q4
        have p5 := f7 _ _ q5
        have p0 := f7 _ _ q0
        have p1 := f7 _ _ q1
        have p2 := f7 _ _ q2
        have rbb := rN bb
        have m0 : (N.n 0 == b_) = false := eqb fun e => by rw [e, l0] at q0; cases q0
        have m0_ : (b_ == N.n 0) = false := eqb fun e => by rw [← e, l0] at q0; cases q0
        have m1 : (N.n 1 == b_) = false := eqb fun e => by rw [e, l0] at q1; cases q1
        have m1_ : (b_ == N.n 1) = false := eqb fun e => by rw [← e, l0] at q1; cases q1
        have m2 : (N.n 2 == b_) = false := eqb fun e => by rw [e, l0] at q2; cases q2
        have m2_ : (b_ == N.n 2) = false := eqb fun e => by rw [← e, l0] at q2; cases q2
        have m3 : (N.n 3 == b_) = false := eqb fun e => by rw [e, l0] at q3; cases q3
        have m3_ : (b_ == N.n 3) = false := eqb fun e => by rw [← e, l0] at q3; cases q3
        have m4 : (N.n 4 == b_) = false := eqb fun e => by rw [e, l0] at q4; cases q4
        have m4_ : (b_ == N.n 4) = false := eqb fun e => by rw [← e, l0] at q4; cases q4
        have m5 : (N.n 5 == b_) = false := eqb fun e => by rw [e, l0] at q5; cases q5
        have m5_ : (b_ == N.n 5) = false := eqb fun e => by rw [← e, l0] at q5; cases q5
        have hwr : wr (fl w1 s.vs ++ rest) i [.int .u64 vl] = some (fl w1 (s.vs.set i vl) ++ rest) := wr_w1' (by omega)
        have g8 := good_up (k := .cells [.int .u64 s.r, vk, .slice (some ⟨b_, 0, none⟩) s.vs.length c1, vt, .bool s.cl] 5) g7 b5 p5
        have lb8 : lk (upH H7 (N.n 5) (.cells [.int .u64 s.r, vk, .slice (some ⟨b_, 0, none⟩) s.vs.length c1, vt, .bool s.cl] 5)) b_ = some (.cells (fl w1 s.vs ++ rest) c1) := by rw [lk_upH, m5_, cond_false]; exact lb
        have g9 := good_up (k := .cells (fl w1 (s.vs.set i vl) ++ rest) c1) g8 bb lb8
        have p3a : lk (upH (upH H7 (N.n 5) (.cells [.int .u64 s.r, vk, .slice (some ⟨b_, 0, none⟩) s.vs.length c1, vt, .bool s.cl] 5)) b_ (.cells (fl w1 (s.vs.set i vl) ++ rest) c1)) (N.n 3) = some (.cells [.int .u64 0, .slice none 0 0, .slice none 0 0, .slice none 0 0, .bool false] 5) := by rw [lk_upH, m3, cond_false, lk_upH, hI 3 5]; exact p3
        have p4a : lk (upH (upH H7 (N.n 5) (.cells [.int .u64 s.r, vk, .slice (some ⟨b_, 0, none⟩) s.vs.length c1, vt, .bool s.cl] 5)) b_ (.cells (fl w1 (s.vs.set i vl) ++ rest) c1)) (N.n 4) = some (.cells [.int .i64 0, .int .u64 0] 2) := by rw [lk_upH, m4, cond_false, lk_upH, hI 4 5]; exact p4
        have l00 := f6.dm _ l0
        have fT : Fr H (upH (upH H7 (N.n 5) (.cells [.int .u64 s.r, vk, .slice (some ⟨b_, 0, none⟩) s.vs.length c1, vt, .bool s.cl] 5)) b_ (.cells (fl w1 (s.vs.set i vl) ++ rest) c1)) := fr_up (fr_up (f6.trans f7) (lk_N hN 5)) l00
        obtain ⟨bv, ov, cv, hvv, rr⟩ := rd_w w1_len hs.v (by omega)
        have r1 := rr _ fT i (by omega)
        simp only [w1] at r1
        have hiv : i < s.vs.length := by omega
        generalize hrv : s.vs.getD i 0 = rvv at r1
        have g10 := good_up (k := .cells [.int .u64 s.r, vk, .slice (some ⟨b_, 0, none⟩) s.vs.length c1, vt, .bool s.cl] 5) g9 b3 p3a
        have p4b : lk (upH (upH (upH H7 (N.n 5) (.cells [.int .u64 s.r, vk, .slice (some ⟨b_, 0, none⟩) s.vs.length c1, vt, .bool s.cl] 5)) b_ (.cells (fl w1 (s.vs.set i vl) ++ rest) c1)) (N.n 3) (.cells [.int .u64 s.r, vk, .slice (some ⟨b_, 0, none⟩) s.vs.length c1, vt, .bool s.cl] 5)) (N.n 4) = some (.cells [.int .i64 0, .int .u64 0] 2) := by rw [lk_upH, hI 4 3]; exact p4a
        have g11 := good_up (k := .cells [.int .i64 0, .int .u64 rvv] 2) g10 b4 p4b
        have fr11 := fr_up (k := .cells [.int .i64 0, .int .u64 rvv] 2) (fr_up (k := .cells [.int .u64 s.r, vk, .slice (some ⟨b_, 0, none⟩) s.vs.length c1, vt, .bool s.cl] 5) fT (lk_N hN 3)) (lk_N hN 4)
        have lbF : lk (upH (upH (upH (upH H7 (N.n 5) (.cells [.int .u64 s.r, vk, .slice (some ⟨b_, 0, none⟩) s.vs.length c1, vt, .bool s.cl] 5)) b_ (.cells (fl w1 (s.vs.set i vl) ++ rest) c1)) (N.n 3) (.cells [.int .u64 s.r, vk, .slice (some ⟨b_, 0, none⟩) s.vs.length c1, vt, .bool s.cl] 5)) (N.n 4) (.cells [.int .i64 0, .int .u64 rvv] 2)) b_ = some (.cells (fl w1 (s.vs.set i vl) ++ rest) c1) := by rw [lk_upH, m4_, cond_false, lk_upH, m3_, cond_false, lk_upH, beq_self_eq_true, cond_true]
        rw [hH6] at e7
        subst hvv
        simp (disch := omega) only [J81, hB, hR, hI, e1, ev, ha, hab, hat, ha1, lk_, e7, p0, p1, p2, p3, p4, p5, b0, b1, b2, b3, b4, b5, rb0, rb1, rb2, rb3, rb4, rb5, bb, rbb, lb, m0, m1, m2, m3, m4, m5, m0_, m1_, m2_, m3_, m4_, m5_, hwr, r1, hiv, hle, Nat.mul_one, i0, all1, ress, res1, retV, Value.cells, seval, eV]
        exact fin9 (s := ⟨s.r, s.ks, s.vs.set i vl, s.ts, s.cl⟩) (vv := .slice (some ⟨b_, 0, none⟩) s.vs.length c1) rfl (R.setV hvl (by omega)) (fun H'' h nw => ⟨h.k, SlM.wh w1_len (H0 := H) (.inr ⟨b_, c1, rest, by rw [List.length_set], bb, l00, by rw [List.length_set]; exact hle, nw _ _ l00 (by rw [lbF, Nat.mul_one])⟩), h.t⟩) g11 fr11
      · rw [decide_eq_false hv] at ev
        simp (disch := omega) only [J81, hB, hR, hI, ha, hab, hat, e1, e2, e3, ev, lk_, i0, all1, ress, res1, retV, Value.cells, newsV_s, seval, eV]
        refine fin9 rfl R (fun _ h _ => h) ?_ ?_
        · repeat (first | exact hN | refine good_new ?_)
        · repeat (first | exact Fr.refl | refine fr_set ?_ (lk_N hN _))
    have d11 := beqI c11
    simp (disch := omega) only [J81, hB, hR, hI, ha, hab, hat, e1, e2, e3, ev, lk_, i0, d7, d8, d5, d10, d6, d11, all1, ress, res1, retV, Value.cells, newsV_s, seval, eV]
    refine fin9 rfl R (fun _ h _ => h) ?_ ?_
    · repeat (first | exact hN | refine good_new ?_)
    · repeat (first | exact Fr.refl | refine fr_set ?_ (lk_N hN _))
  | false =>
    by_cases hf : s.ks.length = cc
    · have hfb : ((s.ks.length : Int) == (cc : Int)) = true := by simpa using (by omega : (s.ks.length : Int) = (cc : Int))
      by_cases c7 : cd = 7
      · subst c7
        simp (disch := omega) only [J81, hB, hR, hI, ha, hab, hat, e1, e2, e3, ev, lk_, i0, hfb, all1, ress, res1, retV, Value.cells, newsV_s, seval, eV]
        refine fin9 rfl R (fun _ h _ => h) ?_ ?_
        · repeat (first | exact hN | refine good_new ?_)
        · repeat (first | exact Fr.refl | refine fr_set ?_ (lk_N hN _))
      have d7 := beqI c7
      by_cases c8 : cd = 8
      · subst c8
        by_cases hn : i = s.ks.length
        · have ie : ((i : Int) == (s.ks.length : Int)) = true := by simpa using (by omega : (i : Int) = (s.ks.length : Int))
          simp (disch := omega) only [J81, hB, hR, hI, ha, hab, hat, e1, e2, e3, ev, lk_, i0, hfb, ie, all1, ress, res1, retV, Value.cells, newsV_s, seval, eV]
          refine fin9 rfl R (fun _ h _ => h) ?_ ?_
          · repeat (first | exact hN | refine good_new ?_)
          · repeat (first | exact Fr.refl | refine fr_set ?_ (lk_N hN _))
        · have ie : ((i : Int) == (s.ks.length : Int)) = false := by simpa using fun h' : (i : Int) = (s.ks.length : Int) => by omega
          have hi' : i < s.ks.length := by omega
          obtain ⟨bv, ov, cv, rfl, rr⟩ := rd_w w1_len hs.k (by omega)
          have r1 := rr H6 f6 (i) (by omega)
          rw [hH6] at r1
          simp only [w1] at r1
          generalize s.ks.getD (i) 0 = rv at r1
          simp (disch := omega) only [J81, hB, hR, hI, ha, hab, hat, e1, e2, e3, ev, lk_, i0, hfb, r1, hi', ie, Nat.mul_one, all1, ress, res1, retV, Value.cells, newsV_s, seval, eV]
          refine fin9 rfl R (fun _ h _ => h) ?_ ?_
          · repeat (first | exact hN | refine good_new ?_)
          · repeat (first | exact Fr.refl | refine fr_set ?_ (lk_N hN _))
      have d8 := beqI c8
      by_cases c5 : cd = 5
      · subst c5
        by_cases hv : (kk : Int) = 3 ∨ (kk : Int) = 4
        · rw [decide_eq_true hv] at ev
          simp (disch := omega) only [J81, hB, hR, hI, ha, hab, hat, e1, e2, e3, ev, lk_, i0, hfb, all1, ress, res1, retV, Value.cells, newsV_s, seval, eV]
          refine fin9 rfl R (fun _ h _ => h) ?_ ?_
          · repeat (first | exact hN | refine good_new ?_)
          · repeat (first | exact Fr.refl | refine fr_set ?_ (lk_N hN _))
        · rw [decide_eq_false hv] at ev
          simp (disch := omega) only [J81, hB, hR, hI, ha, hab, hat, e1, e2, e3, ev, lk_, i0, hfb, all1, ress, res1, retV, Value.cells, newsV_s, seval, eV]
          refine fin9 rfl R (fun _ h _ => h) ?_ ?_
          · repeat (first | exact hN | refine good_new ?_)
          · repeat (first | exact Fr.refl | refine fr_set ?_ (lk_N hN _))
      have d5 := beqI c5
      by_cases c10 : cd = 10
      · subst c10
        by_cases hv : (kk : Int) = 3 ∨ (kk : Int) = 4
        · rw [decide_eq_true hv] at ev
          simp (disch := omega) only [J81, hB, hR, hI, ha, hab, hat, e1, e2, e3, ev, lk_, i0, hfb, all1, ress, res1, retV, Value.cells, newsV_s, seval, eV]
          refine fin9 rfl R (fun _ h _ => h) ?_ ?_
          · repeat (first | exact hN | refine good_new ?_)
          · repeat (first | exact Fr.refl | refine fr_set ?_ (lk_N hN _))
        · rw [decide_eq_false hv] at ev
          simp (disch := omega) only [J81, hB, hR, hI, ha, hab, hat, e1, e2, e3, ev, lk_, i0, hfb, all1, ress, res1, retV, Value.cells, newsV_s, seval, eV]
          refine fin9 rfl R (fun _ h _ => h) ?_ ?_
          · repeat (first | exact hN | refine good_new ?_)
          · repeat (first | exact Fr.refl | refine fr_set ?_ (lk_N hN _))
      have d10 := beqI c10
      by_cases c6 : cd = 6
      · subst c6
        by_cases hv : (kk : Int) = 3 ∨ (kk : Int) = 4
        · rw [decide_eq_true hv] at ev
          simp (disch := omega) only [J81, hB, hR, hI, ha, hab, hat, e1, e2, e3, ev, lk_, i0, hfb, all1, ress, res1, retV, Value.cells, newsV_s, seval, eV]
          refine fin9 rfl R (fun _ h _ => h) ?_ ?_
          · repeat (first | exact hN | refine good_new ?_)
          · repeat (first | exact Fr.refl | refine fr_set ?_ (lk_N hN _))
        · rw [decide_eq_false hv] at ev
          simp (disch := omega) only [J81, hB, hR, hI, ha, hab, hat, e1, e2, e3, ev, lk_, i0, hfb, all1, ress, res1, retV, Value.cells, newsV_s, seval, eV]
          refine fin9 rfl R (fun _ h _ => h) ?_ ?_
          · repeat (first | exact hN | refine good_new ?_)
          · repeat (first | exact Fr.refl | refine fr_set ?_ (lk_N hN _))
      have d6 := beqI c6
      by_cases c11 : cd = 11
      · subst c11
        by_cases hv : (kk : Int) = 3 ∨ (kk : Int) = 4
        · rw [decide_eq_true hv] at ev
          simp (disch := omega) only [J81, hB, hR, hI, ha, hab, hat, e1, e2, e3, ev, lk_, i0, hfb, all1, ress, res1, retV, Value.cells, newsV_s, seval, eV]
          refine fin9 rfl R (fun _ h _ => h) ?_ ?_
          · repeat (first | exact hN | refine good_new ?_)
          · repeat (first | exact Fr.refl | refine fr_set ?_ (lk_N hN _))
        · rw [decide_eq_false hv] at ev
          simp (disch := omega) only [J81, hB, hR, hI, ha, hab, hat, e1, e2, e3, ev, lk_, i0, hfb, all1, ress, res1, retV, Value.cells, newsV_s, seval, eV]
          refine fin9 rfl R (fun _ h _ => h) ?_ ?_
          · repeat (first | exact hN | refine good_new ?_)
          · repeat (first | exact Fr.refl | refine fr_set ?_ (lk_N hN _))
      have d11 := beqI c11
      simp (disch := omega) only [J81, hB, hR, hI, ha, hab, hat, e1, e2, e3, ev, lk_, i0, hfb, d7, d8, d5, d10, d6, d11, all1, ress, res1, retV, Value.cells, newsV_s, seval, eV]
      refine fin9 rfl R (fun _ h _ => h) ?_ ?_
      · repeat (first | exact hN | refine good_new ?_)
      · repeat (first | exact Fr.refl | refine fr_set ?_ (lk_N hN _))
    · have hfb : ((s.ks.length : Int) == (cc : Int)) = false := by simpa using fun h' : (s.ks.length : Int) = (cc : Int) => hf (by omega)
      by_cases c7 : cd = 7
      · subst c7
        simp (disch := omega) only [J81, hB, hR, hI, ha, hab, hat, e1, e2, e3, ev, lk_, i0, hfb, all1, ress, res1, retV, Value.cells, newsV_s, seval, eV]
        refine fin9 rfl R (fun _ h _ => h) ?_ ?_
        · repeat (first | exact hN | refine good_new ?_)
        · repeat (first | exact Fr.refl | refine fr_set ?_ (lk_N hN _))
      have d7 := beqI c7
      by_cases c8 : cd = 8
      · subst c8
        by_cases hn : i = s.ks.length
        · have ie : ((i : Int) == (s.ks.length : Int)) = true := by simpa using (by omega : (i : Int) = (s.ks.length : Int))
          simp (disch := omega) only [J81, hB, hR, hI, ha, hab, hat, e1, e2, e3, ev, lk_, i0, hfb, ie, all1, ress, res1, retV, Value.cells, newsV_s, seval, eV]
          refine fin9 rfl R (fun _ h _ => h) ?_ ?_
          · repeat (first | exact hN | refine good_new ?_)
          · repeat (first | exact Fr.refl | refine fr_set ?_ (lk_N hN _))
        · have ie : ((i : Int) == (s.ks.length : Int)) = false := by simpa using fun h' : (i : Int) = (s.ks.length : Int) => by omega
          have hi' : i < s.ks.length := by omega
          obtain ⟨bv, ov, cv, rfl, rr⟩ := rd_w w1_len hs.k (by omega)
          have r1 := rr H6 f6 (i) (by omega)
          rw [hH6] at r1
          simp only [w1] at r1
          generalize s.ks.getD (i) 0 = rv at r1
          simp (disch := omega) only [J81, hB, hR, hI, ha, hab, hat, e1, e2, e3, ev, lk_, i0, hfb, r1, hi', ie, Nat.mul_one, all1, ress, res1, retV, Value.cells, newsV_s, seval, eV]
          refine fin9 rfl R (fun _ h _ => h) ?_ ?_
          · repeat (first | exact hN | refine good_new ?_)
          · repeat (first | exact Fr.refl | refine fr_set ?_ (lk_N hN _))
      have d8 := beqI c8
      by_cases c5 : cd = 5
      · subst c5
        by_cases hv : (kk : Int) = 3 ∨ (kk : Int) = 4
        · rw [decide_eq_true hv] at ev
          simp (disch := omega) only [J81, hB, hR, hI, ha, hab, hat, e1, e2, e3, ev, lk_, i0, hfb, all1, ress, res1, retV, Value.cells, newsV_s, seval, eV]
          refine fin9 rfl R (fun _ h _ => h) ?_ ?_
          · repeat (first | exact hN | refine good_new ?_)
          · repeat (first | exact Fr.refl | refine fr_set ?_ (lk_N hN _))
        · rw [decide_eq_false hv] at ev
          simp (disch := omega) only [J81, hB, hR, hI, ha, hab, hat, e1, e2, e3, ev, lk_, i0, hfb, all1, ress, res1, retV, Value.cells, newsV_s, seval, eV]
          refine fin9 rfl R (fun _ h _ => h) ?_ ?_
          · repeat (first | exact hN | refine good_new ?_)
          · repeat (first | exact Fr.refl | refine fr_set ?_ (lk_N hN _))
      have d5 := beqI c5
      by_cases c10 : cd = 10
      · subst c10
        by_cases hv : (kk : Int) = 3 ∨ (kk : Int) = 4
        · rw [decide_eq_true hv] at ev
          simp (disch := omega) only [J81, hB, hR, hI, ha, hab, hat, e1, e2, e3, ev, lk_, i0, hfb, all1, ress, res1, retV, Value.cells, newsV_s, seval, eV]
          refine fin9 rfl R (fun _ h _ => h) ?_ ?_
          · repeat (first | exact hN | refine good_new ?_)
          · repeat (first | exact Fr.refl | refine fr_set ?_ (lk_N hN _))
        · rw [decide_eq_false hv] at ev
          simp (disch := omega) only [J81, hB, hR, hI, ha, hab, hat, e1, e2, e3, ev, lk_, i0, hfb, all1, ress, res1, retV, Value.cells, newsV_s, seval, eV]
          refine fin9 rfl R (fun _ h _ => h) ?_ ?_
          · repeat (first | exact hN | refine good_new ?_)
          · repeat (first | exact Fr.refl | refine fr_set ?_ (lk_N hN _))
      have d10 := beqI c10
      by_cases c6 : cd = 6
      · subst c6
        by_cases hv : (kk : Int) = 3 ∨ (kk : Int) = 4
        · rw [decide_eq_true hv] at ev
          simp (disch := omega) only [J81, hB, hR, hI, ha, hab, hat, e1, e2, e3, ev, lk_, i0, hfb, all1, ress, res1, retV, Value.cells, newsV_s, seval, eV]
          refine fin9 rfl R (fun _ h _ => h) ?_ ?_
          · repeat (first | exact hN | refine good_new ?_)
          · repeat (first | exact Fr.refl | refine fr_set ?_ (lk_N hN _))
        · rw [decide_eq_false hv] at ev
          have hv0 := R.v0 (by unfold isK at hk; omega)
          obtain ⟨v1, H7, N7, e7, g7, f7, s1⟩ := xwith (x := x) g6 (hs.k.mono f6) hi (by omega)
          have s1 : SlM w1 1 B H6 H7 v1 (insL s.ks i x) := s1
          have w1s := s1.wh w1_len
          obtain ⟨a1, k1, rfl, _⟩ := id w1s
          have ha1 : all1 [(.slice a1 (insL s.ks i x).length k1), vv, vt, .bool s.cl] = true := all1_3 w1s hs.v hs.t s.cl
          have ha1b : all1 [vv, vt, .bool s.cl] = true := ha1
          have p3 := f7 _ _ q3
          have p4 := f7 _ _ q4
          have p5 := f7 _ _ q5
          have p0 := f7 _ _ q0
          have p1 := f7 _ _ q1
          have p2 := f7 _ _ q2
          have g8 := good_up (k := .cells [.int .u64 s.r, (.slice a1 (insL s.ks i x).length k1), vv, vt, .bool s.cl] 5) g7 b5 p5
          have p3a : lk (upH H7 (N.n 5) (.cells [.int .u64 s.r, (.slice a1 (insL s.ks i x).length k1), vv, vt, .bool s.cl] 5)) (N.n 3) = some (.cells [.int .u64 0, .slice none 0 0, .slice none 0 0, .slice none 0 0, .bool false] 5) := by rw [lk_upH, hI 3 5]; exact p3
          have p4a : lk (upH H7 (N.n 5) (.cells [.int .u64 s.r, (.slice a1 (insL s.ks i x).length k1), vv, vt, .bool s.cl] 5)) (N.n 4) = some (.cells [.int .i64 0, .int .u64 0] 2) := by rw [lk_upH, hI 4 5]; exact p4
          have fT : Fr H (upH H7 (N.n 5) (.cells [.int .u64 s.r, (.slice a1 (insL s.ks i x).length k1), vv, vt, .bool s.cl] 5)) := fr_up (f6.trans f7) (lk_N hN 5)
          have g9 := good_up (k := .cells [.int .u64 s.r, (.slice a1 (insL s.ks i x).length k1), vv, vt, .bool s.cl] 5) g8 b3 p3a
          have p4b : lk (upH (upH H7 (N.n 5) (.cells [.int .u64 s.r, (.slice a1 (insL s.ks i x).length k1), vv, vt, .bool s.cl] 5)) (N.n 3) (.cells [.int .u64 s.r, (.slice a1 (insL s.ks i x).length k1), vv, vt, .bool s.cl] 5)) (N.n 4) = some (.cells [.int .i64 0, .int .u64 0] 2) := by rw [lk_upH, hI 4 3]; exact p4a
          have g10 := good_up (k := .cells [.int .i64 0, .int .u64 1] 2) g9 b4 p4b
          have fr10 := fr_up (k := .cells [.int .i64 0, .int .u64 1] 2) (fr_up (k := .cells [.int .u64 s.r, (.slice a1 (insL s.ks i x).length k1), vv, vt, .bool s.cl] 5) (fT) (lk_N hN 3)) (lk_N hN 4)
          have hF : ∀ y c, lk H6 y = none → lk H7 y = some c → lk (upH (upH (upH H7 (N.n 5) (.cells [.int .u64 s.r, (.slice a1 (insL s.ks i x).length k1), vv, vt, .bool s.cl] 5)) (N.n 3) (.cells [.int .u64 s.r, (.slice a1 (insL s.ks i x).length k1), vv, vt, .bool s.cl] 5)) (N.n 4) (.cells [.int .i64 0, .int .u64 1] 2)) y = some c := fun y c h0 h' => by
            rw [lk_upH, eqb (fun e => by rw [e, q4] at h0; cases h0), cond_false, lk_upH, eqb (fun e => by rw [e, q3] at h0; cases h0), cond_false, lk_upH, eqb (fun e => by rw [e, q5] at h0; cases h0), cond_false]; exact h'
          rw [hH6] at e7
          simp (disch := omega) only [J81, hB, hR, hI, e1, ev, ha, hab, hat, ha1, lk_, e7, p0, p1, p2, p3, p4, p5, b0, b1, b2, b3, b4, b5, rb0, rb1, rb2, rb3, rb4, rb5, i0, hfb, all1, ress, res1, retV, Value.cells, newsV_s, seval, eV]
          exact fin9 (s := ⟨s.r, insL s.ks i x, s.vs, s.ts, s.cl⟩) rfl (R.ins hk hi (by omega) hx (y := 0) (by unfold u64R; omega) ho h1 (h2 rfl) s.vs (by unfold isK at hk; rw [if_pos (by omega)])) (fun H'' h nw => ⟨(slm_nw s1 f6 hF nw).wh w1_len, h.v, h.t⟩) g10 fr10
      have d6 := beqI c6
      by_cases c11 : cd = 11
      · subst c11
        by_cases hv : (kk : Int) = 3 ∨ (kk : Int) = 4
        · rw [decide_eq_true hv] at ev
          have hvlen := R.vl (by omega)
          obtain ⟨v1, H7, N7, e7, g7, f7, s1⟩ := xwith (x := x) g6 (hs.k.mono f6) hi (by omega)
          have s1 : SlM w1 1 B H6 H7 v1 (insL s.ks i x) := s1
          have w1s := s1.wh w1_len
          obtain ⟨a1, k1, rfl, _⟩ := id w1s
          have ha1 : all1 [(.slice a1 (insL s.ks i x).length k1), vv, vt, .bool s.cl] = true := all1_3 w1s hs.v hs.t s.cl
          have ha1b : all1 [vv, vt, .bool s.cl] = true := ha1
          have p3 := f7 _ _ q3
          have p4 := f7 _ _ q4
          have p5 := f7 _ _ q5
          have p0 := f7 _ _ q0
          have p1 := f7 _ _ q1
          have p2 := f7 _ _ q2
          obtain ⟨H8, hH8⟩ : ∃ H8, H8 = upH H7 (N.n 5) (.cells [.int .u64 s.r, (.slice a1 (insL s.ks i x).length k1), vv, vt, .bool s.cl] 5) := ⟨_, rfl⟩
          have g8 : good B H8 N7 := by rw [hH8]; exact good_up g7 b5 p5
          have f8 : Fr H H8 := by rw [hH8]; exact fr_up (f6.trans f7) (lk_N hN 5)
          have t0 := (show lk H8 (N.n 0) = lk H7 (N.n 0) by rw [hH8, lk_upH, hI 0 5]; rfl).trans p0
          have t1 := (show lk H8 (N.n 1) = lk H7 (N.n 1) by rw [hH8, lk_upH, hI 1 5]; rfl).trans p1
          have t2 := (show lk H8 (N.n 2) = lk H7 (N.n 2) by rw [hH8, lk_upH, hI 2 5]; rfl).trans p2
          have t3 := (show lk H8 (N.n 3) = lk H7 (N.n 3) by rw [hH8, lk_upH, hI 3 5]; rfl).trans p3
          have t4 := (show lk H8 (N.n 4) = lk H7 (N.n 4) by rw [hH8, lk_upH, hI 4 5]; rfl).trans p4
          have t5 : lk H8 (N.n 5) = some (.cells [.int .u64 s.r, (.slice a1 (insL s.ks i x).length k1), vv, vt, .bool s.cl] 5) := by rw [hH8, lk_upH, beq_self_eq_true, cond_true]
          obtain ⟨v2, H9, N9, e9, g9, f9, s2⟩ := xwith (L := s.vs) (i := i) (x := vl) g8 (hs.v.mono f8) (by omega) (by omega)
          have s2 : SlM w1 1 B H8 H9 v2 (insL s.vs i vl) := s2
          have w2s := s2.wh w1_len
          obtain ⟨a2, k2, rfl, _⟩ := id w2s
          have ha2 : all1 [vt, .bool s.cl] = true := all1_3 w1s w2s hs.t s.cl
          have u0 := f9 _ _ t0
          have u1 := f9 _ _ t1
          have u2 := f9 _ _ t2
          have u3 := f9 _ _ t3
          have u4 := f9 _ _ t4
          have u5 := f9 _ _ t5
          have g10 := good_up (k := .cells [.int .u64 s.r, (.slice a1 (insL s.ks i x).length k1), (.slice a2 (insL s.vs i vl).length k2), vt, .bool s.cl] 5) g9 b5 u5
          have u3a : lk (upH H9 (N.n 5) (.cells [.int .u64 s.r, (.slice a1 (insL s.ks i x).length k1), (.slice a2 (insL s.vs i vl).length k2), vt, .bool s.cl] 5)) (N.n 3) = some (.cells [.int .u64 0, .slice none 0 0, .slice none 0 0, .slice none 0 0, .bool false] 5) := by rw [lk_upH, hI 3 5]; exact u3
          have u4a : lk (upH H9 (N.n 5) (.cells [.int .u64 s.r, (.slice a1 (insL s.ks i x).length k1), (.slice a2 (insL s.vs i vl).length k2), vt, .bool s.cl] 5)) (N.n 4) = some (.cells [.int .i64 0, .int .u64 0] 2) := by rw [lk_upH, hI 4 5]; exact u4
          have fT : Fr H (upH H9 (N.n 5) (.cells [.int .u64 s.r, (.slice a1 (insL s.ks i x).length k1), (.slice a2 (insL s.vs i vl).length k2), vt, .bool s.cl] 5)) := fr_up (f8.trans f9) (lk_N hN 5)
          have g11 := good_up (k := .cells [.int .u64 s.r, (.slice a1 (insL s.ks i x).length k1), (.slice a2 (insL s.vs i vl).length k2), vt, .bool s.cl] 5) g10 b3 u3a
          have u4b : lk (upH (upH H9 (N.n 5) (.cells [.int .u64 s.r, (.slice a1 (insL s.ks i x).length k1), (.slice a2 (insL s.vs i vl).length k2), vt, .bool s.cl] 5)) (N.n 3) (.cells [.int .u64 s.r, (.slice a1 (insL s.ks i x).length k1), (.slice a2 (insL s.vs i vl).length k2), vt, .bool s.cl] 5)) (N.n 4) = some (.cells [.int .i64 0, .int .u64 0] 2) := by rw [lk_upH, hI 4 3]; exact u4a
          have g12 := good_up (k := .cells [.int .i64 0, .int .u64 0] 2) g11 b4 u4b
          have fr12 := fr_up (k := .cells [.int .i64 0, .int .u64 0] 2) (fr_up (k := .cells [.int .u64 s.r, (.slice a1 (insL s.ks i x).length k1), (.slice a2 (insL s.vs i vl).length k2), vt, .bool s.cl] 5) fT (lk_N hN 3)) (lk_N hN 4)
          have hF2 : ∀ y c, lk H8 y = none → lk H9 y = some c → lk (upH (upH (upH H9 (N.n 5) (.cells [.int .u64 s.r, (.slice a1 (insL s.ks i x).length k1), (.slice a2 (insL s.vs i vl).length k2), vt, .bool s.cl] 5)) (N.n 3) (.cells [.int .u64 s.r, (.slice a1 (insL s.ks i x).length k1), (.slice a2 (insL s.vs i vl).length k2), vt, .bool s.cl] 5)) (N.n 4) (.cells [.int .i64 0, .int .u64 0] 2)) y = some c := fun y c h0 h' => by
            rw [lk_upH, eqb (fun e => by rw [e, t4] at h0; cases h0), cond_false, lk_upH, eqb (fun e => by rw [e, t3] at h0; cases h0), cond_false, lk_upH, eqb (fun e => by rw [e, t5] at h0; cases h0), cond_false]; exact h'
          have hF1 : ∀ y c, lk H6 y = none → lk H7 y = some c → lk (upH (upH (upH H9 (N.n 5) (.cells [.int .u64 s.r, (.slice a1 (insL s.ks i x).length k1), (.slice a2 (insL s.vs i vl).length k2), vt, .bool s.cl] 5)) (N.n 3) (.cells [.int .u64 s.r, (.slice a1 (insL s.ks i x).length k1), (.slice a2 (insL s.vs i vl).length k2), vt, .bool s.cl] 5)) (N.n 4) (.cells [.int .i64 0, .int .u64 0] 2)) y = some c := fun y c h0 h' => by
            have h8 : lk H8 y = some c := by rw [hH8, lk_upH, eqb (fun e => by rw [e, q5] at h0; cases h0), cond_false]; exact h'
            rw [lk_upH, eqb (fun e => by rw [e, q4] at h0; cases h0), cond_false, lk_upH, eqb (fun e => by rw [e, q3] at h0; cases h0), cond_false, lk_upH, eqb (fun e => by rw [e, q5] at h0; cases h0), cond_false]; exact f9 _ _ h8
          rw [hH6] at e7
          rw [hH8] at e9
          simp (disch := omega) only [J81, hB, hR, hI, e1, ev, ha, hab, hat, ha1, lk_, e7, e9, p0, p1, p2, p3, p4, p5, u0, u1, u2, u3, u4, u5, b0, b1, b2, b3, b4, b5, rb0, rb1, rb2, rb3, rb4, rb5, i0, hfb, all1, ress, res1, retV, Value.cells, newsV_s, seval, eV]
          exact fin9 (s := ⟨s.r, insL s.ks i x, insL s.vs i vl, s.ts, s.cl⟩) rfl (R.ins hk hi (by omega) hx hvl ho h1 (h2 rfl) (insL s.vs i vl) (by rw [if_neg (by omega)])) (fun H'' h nw => ⟨(slm_nw s1 f6 hF1 nw).wh w1_len, (slm_nw s2 f8 hF2 nw).wh w1_len, h.t⟩) g12 fr12
        · rw [decide_eq_false hv] at ev
          simp (disch := omega) only [J81, hB, hR, hI, ha, hab, hat, e1, e2, e3, ev, lk_, i0, hfb, all1, ress, res1, retV, Value.cells, newsV_s, seval, eV]
          refine fin9 rfl R (fun _ h _ => h) ?_ ?_
          · repeat (first | exact hN | refine good_new ?_)
          · repeat (first | exact Fr.refl | refine fr_set ?_ (lk_N hN _))
      have d11 := beqI c11
      simp (disch := omega) only [J81, hB, hR, hI, ha, hab, hat, e1, e2, e3, ev, lk_, i0, hfb, d7, d8, d5, d10, d6, d11, all1, ress, res1, retV, Value.cells, newsV_s, seval, eV]
      refine fin9 rfl R (fun _ h _ => h) ?_ ?_
      · repeat (first | exact hN | refine good_new ?_)
      · repeat (first | exact Fr.refl | refine fr_set ?_ (lk_N hN _))
end Go.Proofs.YtfhiplfagejfoaaDoor
namespace Go.Proofs.YtfhiplfagejfoaaDoor
open Go.Proofs.YtfhiplfagejfoaaDoor.K Go.ChangeShapes Go.WideShapes Go.ChangeAt Go.RowKit 
set_option maxRecDepth 100000
set_option linter.unusedSimpArgs false
set_option linter.unusedVariables false

def lbTb : LC := (.seq (.seq (.draw [pm 31 10,pg 32 1 4,pl 33 32,oe 34 (.len false (ot 33)),oe 35 (.bin .lss (ot 31) (ot 34)),pm 36 35, ⟨ob 37 (.load true 3 (ot 3)) 36 true,[]⟩,⟨ob 38 (.faddr 1 (ot 4)) 36 true,[]⟩,⟨ob 39 (.load false 1 (ot 38)) 36 true,[]⟩,⟨ob 40 (.mv (ot 10)) 36 true,[]⟩,⟨ob 41 (.iaddrS 1 (ot 39) (ot 40)) 36 true,[]⟩,⟨ob 42 (.load false 1 (ot 41)) 36 true,[]⟩,⟨ob 43 (.mv (ot 8)) 36 true,[]⟩,⟨ob 44 (.call (.func 97) [(ot 37), (ot 42), (ot 43)]) 36 true,[]⟩,oe 45 (.pick (ot 36) (ot 44) (.const (.bool false)))])
 (.cond (ot 45) .skip
 (.exit 0)))
 (.block 1 (.ops [om 46 10,oa 47 (.bin .add (ot 46) (oi 1)),om 10 47])))
def LrTa : FnL := ⟨(.seq (.ops [oa 3 (.box (ot 0)),oa 4 (.box (ot 1)),oa 5 (.box (ot 2)),oa 6 (.alloc [(.int .u64 0), (.slice none 0 0), (.slice none 0 0), (.slice none 0 0), (.bool false)]),oa 7 (.alloc [(.int .i64 0), (.int .u64 0)])])
 (.seq (.seq (.ops [og 11 0 5,ol 12 11,oa 13 (.bin .eql (ot 12) (oi 9))])
 (.cond (ot 13) (.seq (.draw [oe 14 (.load true 5 (ot 4)),pg 15 1 4,pl 16 15,oe 17 (.len false (ot 16)),oe 18 (.conv .u64 (ot 17)), ⟨oa 19 (.call (.func 100) [(ot 18)]), [oa 14 (.load true 5 (ot 4))]⟩,⟨oc (.store 5 (ot 6) (ot 14)),[]⟩,⟨oc (.store 2 (ot 7) (ot 19)),[]⟩])
 .ret)
 .skip))
 (.seq (.ops [oa 21 (.load true 3 (ot 3)),og 22 1 5,ol 23 22,oa 24 (.call (.func 96) [(ot 21), (ot 23)]),om 20 24,oa 25 (.ext (ot 20) 0),oa 26 (.ext (ot 20) 1),om 8 25,om 9 26])
 (.seq (.seq (.ops [om 27 9,oa 28 (.un .not (ot 27))])
 (.cond (ot 28) (.seq (.draw [oe 29 (.load true 5 (ot 4)), ⟨oa 30 (.call (.func 103) [(oi 10)]), [oa 29 (.load true 5 (ot 4))]⟩,⟨oc (.store 5 (ot 6) (ot 29)),[]⟩,⟨oc (.store 2 (ot 7) (ot 30)),[]⟩])
 .ret)
 .skip))
 (.seq (.ops [oa 10 (.mv (oi 0))])
 (.seq (.block 0 (.loop lbTb))
 (.seq (.draw [oe 48 (.load true 3 (ot 3)),oe 49 (.load true 5 (ot 4)),oe 50 (.load true 3 (ot 5)),pm 51 8,pm 52 10,pm 53 10,pg 54 1 4,pl 55 54,oe 56 (.len false (ot 55)),oe 57 (.bin .lss (ot 53) (ot 56)),pm 58 57, ⟨ob 59 (.faddr 1 (ot 4)) 58 true,[]⟩,⟨ob 60 (.load false 1 (ot 59)) 58 true,[]⟩,⟨ob 61 (.mv (ot 10)) 58 true,[]⟩,⟨ob 62 (.iaddrS 1 (ot 60) (ot 61)) 58 true,[]⟩,⟨ob 63 (.load false 1 (ot 62)) 58 true,[]⟩,⟨ob 64 (.mv (ot 8)) 58 true,[]⟩,⟨ob 65 (.bin .eql (ot 63) (ot 64)) 58 true,[]⟩,oe 66 (.pick (ot 58) (ot 65) (.const (.bool false))),oe 67 (.call (.func 104) [(ot 48), (ot 49), (ot 50), (ot 51), (ot 52), (ot 66)]),oe 68 (.ext (ot 67) 0),oe 69 (.ext (ot 67) 1), ⟨oc (.store 5 (ot 6) (ot 68)),[]⟩,⟨oc (.store 2 (ot 7) (ot 69)),[]⟩])
 .ret))))))),
 70, [.cell 6 true 5, .cell 7 true 2]⟩
theorem lowrTa : lowerFn Tryd.prog Tryd.f88 = some LrTa := by kernel_rfl
noncomputable def GrTa (B : OH) : Nat → Cs
  | 97 => Vref09less B
  | 96 => Vref09meant B
  | 104 => VrPl B
  | 103 => VrRf B
  | 100 => VrTe B
  | _ => fun _ _ _ => none
theorem GrTa_ref09less {B : OH} : GrTa B 97 = Vref09less B := rfl
theorem GrTa_ref09meant {B : OH} : GrTa B 96 = Vref09meant B := rfl
theorem GrTa_rPl {B : OH} : GrTa B 104 = VrPl B := rfl
theorem GrTa_rRf {B : OH} : GrTa B 103 = VrRf B := rfl
theorem GrTa_rTe {B : OH} : GrTa B 100 = VrTe B := rfl
theorem sGrTa {w0 : World} {B : OH} : SoundG Tryd.prog w0 B { f := GrTa B } := .of fun k => by
  unfold GrTa
  split
  · exact .inr ⟨enref09less, sVref09less⟩
  · exact .inr ⟨enref09meant, sVref09meant⟩
  · exact .inr ⟨enrPl, sVrPl⟩
  · exact .inr ⟨enrRf, sVrRf⟩
  · exact .inr ⟨enrTe, sVrTe⟩
  · exact .inl fun _ _ _ => rfl
theorem enrTa : Enter Tryd.prog 88 := .of Tryd.func88 (by kernel_rfl) (by kernel_rfl)
noncomputable def TrTa (B : OH) : Cs := callF B { f := GrTa B } 1000000 LrTa
theorem sTrTa {w0 : World} {B : OH} : SoundC Tryd.prog w0 B 88 (TrTa B) := callF_sound mixedOrders sGrTa 1000000 Tryd.func88 lowrTa
noncomputable def VrTa (B : OH) : Cs := TrTa B
theorem sVrTa {w0 : World} {B : OH} : SoundC Tryd.prog w0 B 88 (VrTa B) := sTrTa
structure KTb (cb sb ob zb rb : Nat) (x : Int) (i : Nat) (ts : List Value) : Prop where
  l : ts.length = 70
  t3 : gt ts 3 = .pointer (some ⟨cb, 0, none⟩)
  t4 : gt ts 4 = .pointer (some ⟨sb, 0, none⟩)
  t5 : gt ts 5 = .pointer (some ⟨ob, 0, none⟩)
  t6 : gt ts 6 = .pointer (some ⟨zb, 0, none⟩)
  t7 : gt ts 7 = .pointer (some ⟨rb, 0, none⟩)
  t8 : gt ts 8 = .int .u64 x
  t10 : gt ts 10 = .int .i64 (i : Int)
theorem J82 : Said (an @TrTa.eq_1 <| an @LrTa.eq_1 <| an @GrTa_ref09less <| an @Vref09less_eq <| an @GrTa_ref09meant <| an @Vref09meant_eq <| an @GrTa_rPl <| an @GrTa_rRf <| an @VrRf_eq <| an @GrTa_rTe <| an @VrTe_eq <| an @lbTb.eq_1 <| trivial) := said_ok _
set_option maxHeartbeats 4000000 in
theorem loopTb {B : OH} {H : HL} {N : St} {vk vv vt : Value} {s : S9} {kk p cc h cb sb ob zb rb : Nat} {x : Int} (C : Cf kk p cc h) (R : Rt kk cc s) (hx : u64R x) (hs : SlW w1 1 B H vk s.ks) (hN : good B H N) (bc : B cb = none) (bs_ : B sb = none) (lc : lk H cb = some (.cells [.int .i64 (kk : Int), .int .i64 (p : Int), .int .i64 (cc : Int)] 3)) (ls : lk H sb = some (.cells [.int .u64 s.r, vk, vv, vt, .bool s.cl] 5)) {ts : List Value} (kp : KTb cb sb ob zb rb x 0 ts) {F : Nat} (hF : 1000 ≤ F) :
    Ok (exec B { f := GrTa B } F (LC.loop lbTb) ⟨ts, H, N⟩) (fun r st => r = .exit 0 ∧ st.H = H ∧ st.N = N ∧ ∃ i, i ≤ s.ks.length ∧ (∀ j, j < i → kyI kk (s.ks.getD j 0) < kyI kk x) ∧ (i < s.ks.length → ¬ kyI kk (s.ks.getD i 0) < kyI kk x) ∧ KTb cb sb ob zb rb x i st.t) := by
  obtain ⟨hB, hR, hI⟩ := gX hN
  have hG : ∃ H N, good B H N := ⟨H, N, hN⟩
  have rc := rN bc
  have rs := rN bs_
  have hc := C.c
  have hkl := R.kl
  have hll := hs.len
  refine loop_rule (n0 := 100) (fun q st => ∃ ts, ∃ i : Nat, st = ⟨ts, H, N⟩ ∧ KTb cb sb ob zb rb x i ts ∧ (∀ j, j < i → kyI kk (s.ks.getD j 0) < kyI kk x) ∧ i ≤ s.ks.length ∧ q = s.ks.length - i) _ ?_ s.ks.length _ ⟨ts, 0, rfl, kp, fun j hj => by omega, by omega, rfl⟩ _ (by omega)
  clear kp hF F ts
  rintro z q st ⟨ts, i, rfl, kp, hj, hi, rfl⟩
  have hc1 : ((i + 1 : Nat) : Int) = (i : Int) + 1 := by omega
  by_cases hin : i < s.ks.length
  case neg =>
    obtain rfl : i = s.ks.length := by omega
    simp (disch := omega) only [J82, hB, hR, hI, kp.l, kp.t3, kp.t4, kp.t5, kp.t6, kp.t7, kp.t8, kp.t10, ls, bs_, rs, hll, Int.lt_irrefl, all1, ress, res1, retV, Value.cells, newsV_s, seval, eV]
    refine ok_some (.inr ⟨by simp, rfl, rfl, rfl, _, Nat.le_refl _, hj, fun h' => by omega, ⟨?_, ?_, ?_, ?_, ?_, ?_, ?_, ?_⟩⟩)
    all_goals simp (disch := omega) only [kp.l, kp.t3, kp.t4, kp.t5, kp.t6, kp.t7, kp.t8, kp.t10, Int.cast_ofNat_Int, decide_true, ev2, seval, ev5]
  have hin' : (i : Int) < (s.ks.length : Int) := by omega
  have i0 : (0 : Int) ≤ (i : Int) := by omega
  obtain ⟨bv, ov, cv, rfl, rr⟩ := rd_w w1_len hs (by omega)
  have r1 := rr H Fr.refl i hin
  simp only [w1] at r1
  have e2 := xless9 hG (kk : Int) (p : Int) (cc : Int) (R.ku.at i) hx
  by_cases hlt : kyI kk (s.ks.getD i 0) < kyI kk x
  · rw [decide_eq_true hlt] at e2
    simp (disch := omega) only [J82, hB, hR, hI, kp.l, kp.t3, kp.t4, kp.t5, kp.t6, kp.t7, kp.t8, kp.t10, lc, ls, bc, bs_, rc, rs, hin, hin', i0, r1, e2, Nat.mul_one, all1, ress, res1, retV, Value.cells, newsV_s, seval, eV]
    refine ok_some (.inl ⟨rfl, s.ks.length - (i + 1), by omega, _, i + 1, rfl, ⟨?_, ?_, ?_, ?_, ?_, ?_, ?_, ?_⟩, fun j hj' => ?_, by omega, rfl⟩)
    rotate_right
    · by_cases e : j = i
      · rw [e]; exact hlt
      · exact hj j (by omega)
    all_goals simp (disch := omega) only [kp.l, kp.t3, kp.t4, kp.t5, kp.t6, kp.t7, kp.t8, kp.t10, hc1, Int.cast_ofNat_Int, decide_true, ev2, seval, ev5]
  · rw [decide_eq_false hlt] at e2
    simp (disch := omega) only [J82, hB, hR, hI, kp.l, kp.t3, kp.t4, kp.t5, kp.t6, kp.t7, kp.t8, kp.t10, lc, ls, bc, bs_, rc, rs, hin, hin', i0, r1, e2, Nat.mul_one, all1, ress, res1, retV, Value.cells, newsV_s, seval, eV]
    refine ok_some (.inr ⟨by simp, rfl, rfl, rfl, _, hi, hj, fun _ => hlt, ⟨?_, ?_, ?_, ?_, ?_, ?_, ?_, ?_⟩⟩)
    all_goals simp (disch := omega) only [kp.l, kp.t3, kp.t4, kp.t5, kp.t6, kp.t7, kp.t8, kp.t10, Int.cast_ofNat_Int, decide_true, ev2, seval, ev5]
theorem J83 : Said (an @TrTa.eq_1 <| an @LrTa.eq_1 <| an @GrTa_ref09less <| an @Vref09less_eq <| an @GrTa_ref09meant <| an @Vref09meant_eq <| an @GrTa_rPl <| an @GrTa_rRf <| an @VrRf_eq <| an @GrTa_rTe <| an @VrTe_eq <| trivial) := said_ok _
set_option maxHeartbeats 16000000 in
theorem xtable {B : OH} {H : HL} {N : St} {vk vv vt : Value} {s : S9} {kk p cc h : Nat} {cd ky vl : Int} (C : Cf kk p cc h) (hk : isK kk) (R : Rt kk cc s) (hs : StW B H vk vv vt s) (hky : u64R ky) (hvl : u64R vl) (hN : good B H N) : Res9 B H vk vv vt s kk cc (VrTa B [.agg #[.int .i64 (kk : Int), .int .i64 (p : Int), .int .i64 (cc : Int)], .agg #[.int .u64 s.r, vk, vv, vt, .bool s.cl], .agg #[.int .i64 cd, .int .u64 ky, .int .u64 vl]] H N) := by
  obtain ⟨hB, hR, hI⟩ := gX hN
  have hG : ∃ H N, good B H N := ⟨H, N, hN⟩
  have hc := C.c
  have hkl := R.kl
  have e1 := xtells hG
  have e2 := xrefuses hG
  have ha := hs.all s.cl
  have lk_ := hs.k.len
  have em := xmeant hG (kk : Int) (p : Int) (cc : Int) hky
  have wl : IntKind.u64.wrap (s.ks.length : Int) = (s.ks.length : Int) := IntWalk.u64_in _ (by omega)
  obtain ⟨H5, hH5⟩ : ∃ H5, H5 = (N.n 4, (.cells [.int .i64 0, .int .u64 0] 2 : KB)) :: (N.n 3, (.cells [.int .u64 0, .slice none 0 0, .slice none 0 0, .slice none 0 0, .bool false] 5 : KB)) :: (N.n 2, (.cells [.int .i64 cd, .int .u64 ky, .int .u64 vl] 3 : KB)) :: (N.n 1, (.cells [.int .u64 s.r, vk, vv, vt, .bool s.cl] 5 : KB)) :: (N.n 0, (.cells [.int .i64 (kk : Int), .int .i64 (p : Int), .int .i64 (cc : Int)] 3 : KB)) :: H := ⟨_, rfl⟩
  have g5 : good B H5 (sh (sh (sh (sh (sh N))))) := by rw [hH5]; repeat (first | exact hN | refine good_new ?_)
  have f5 : Fr H H5 := by rw [hH5]; repeat (first | exact Fr.refl | refine fr_set ?_ (lk_N hN _))
  have q0 : lk H5 (N.n 0) = some (.cells [.int .i64 (kk : Int), .int .i64 (p : Int), .int .i64 (cc : Int)] 3) := by rw [hH5]; simp only [lk_cons, hI]; rfl
  have q1 : lk H5 (N.n 1) = some (.cells [.int .u64 s.r, vk, vv, vt, .bool s.cl] 5) := by rw [hH5]; simp only [lk_cons, hI]; rfl
  have q3 : lk H5 (N.n 3) = some (.cells [.int .u64 0, .slice none 0 0, .slice none 0 0, .slice none 0 0, .bool false] 5) := by rw [hH5]; simp only [lk_cons, hI]; rfl
  have q4 : lk H5 (N.n 4) = some (.cells [.int .i64 0, .int .u64 0] 2) := by rw [hH5]; simp only [lk_cons, hI]; rfl
  have b3 := hB 3
  have b4 := hB 4
  have rb3 := rN b3
  have rb4 := rN b4
  have n43 : (N.n 4 == N.n 3) = false := hI 4 3
  have n34 : (N.n 3 == N.n 4) = false := hI 3 4
  unfold VrTa
  by_cases c9 : cd = 9
  · subst c9
    simp (disch := omega) only [J83, hB, hR, hI, e1, ha, lk_, wl, all1, ress, res1, retV, Value.cells, newsV_s, seval, eV]
    refine fin9 rfl R (fun _ h _ => h) ?_ ?_
    · repeat (first | exact hN | refine good_new ?_)
    · repeat (first | exact Fr.refl | refine fr_set ?_ (lk_N hN _))
  have d9 := beqI c9
  by_cases cm : okK kk ky
  case neg =>
    rw [decide_eq_false cm] at em
    simp (disch := omega) only [J83, hB, hR, hI, e2, ha, em, d9, all1, ress, res1, retV, Value.cells, newsV_s, seval, eV]
    refine fin9 rfl R (fun _ h _ => h) ?_ ?_
    · repeat (first | exact hN | refine good_new ?_)
    · repeat (first | exact Fr.refl | refine fr_set ?_ (lk_N hN _))
  rw [decide_eq_true cm] at em
  have ux : u64R (mnI kk ky) := by
    unfold mnI; split
    · exact cn_u hky
    · exact hky
  have hok : okK kk (mnI kk ky) ∧ mnI kk (mnI kk ky) = mnI kk ky := by
    unfold mnI
    by_cases h4 : (kk : Int) = 4
    · rw [if_pos h4, if_pos h4]; exact ⟨.inl h4, cn_id _⟩
    · rw [if_neg h4, if_neg h4]; exact ⟨cm, rfl⟩
  have inj : ∀ i, i < s.ks.length → kyI kk (s.ks.getD i 0) = kyI kk (mnI kk ky) → s.ks.getD i 0 = mnI kk ky := fun i hi he => by
    have h1 := (R.ok i hi).2
    have h2 := hok.2
    generalize mnI kk ky = x at *
    unfold mnI at h1 h2
    unfold kyI at he
    by_cases h4 : (kk : Int) = 4
    · rw [if_pos h4] at h1 h2
      rw [if_pos h4, if_pos h4] at he
      rw [← h1, ← h2]; exact rk_inj (R.ku.at i) ux he
    · rw [if_neg h4, if_neg h4] at he; exact he
  simp (disch := omega) only [J83, hB, hR, hI, em, d9, all1, ress, res1, retV, Value.cells, newsV_s, seval, eV]
  generalize mnI kk ky = x at *
  rw [← hH5]
  generalize hX : exec B _ _ (LC.loop _) _ = o
  obtain ⟨r, ⟨ts, H6, N6⟩, rfl, rfl, hHH, hNN, i, hi, hj, hge, kp⟩ := (show Ok o _ by rw [← hX]; exact loopTb (cb := N.n 0) (sb := N.n 1) (ob := N.n 2) (zb := N.n 3) (rb := N.n 4) C R ux (hs.k.mono f5) g5 (hB 0) (hB 1) q0 q1 ⟨rfl, rfl, rfl, rfl, rfl, rfl, rfl, rfl⟩ (by omega))
  simp only at kp hHH hNN
  rw [hHH, hH5, hNN]
  have i0 : (0 : Int) ≤ (i : Int) := by omega
  by_cases hin : i < s.ks.length
  case neg =>
    have hin' : ¬ (i : Int) < (s.ks.length : Int) := by omega
    obtain ⟨s', wk, wv, wt, a, b, H7, N7, e7, g7, f7, t7, R7⟩ := xplaced (cd := cd) (ky := ky) (i := i) (here := false) C hk R (hs.mono f5) ux hvl hok hi hj (by simp) (fun _ h' => absurd h' hin) g5
    have p3 := f7 _ _ q3
    have p4 := f7 _ _ q4
    have g8 := good_up (k := .cells [.int .u64 s'.r, wk, wv, wt, .bool s'.cl] 5) g7 b3 p3
    have p4' : lk (upH H7 (N.n 3) (.cells [.int .u64 s'.r, wk, wv, wt, .bool s'.cl] 5)) (N.n 4) = some (.cells [.int .i64 0, .int .u64 0] 2) := by rw [lk_upH, n43, cond_false]; exact p4
    have g9 := good_up (k := .cells [.int .i64 a, .int .u64 b] 2) g8 b4 p4'
    have fr9 := fr_up (k := .cells [.int .i64 a, .int .u64 b] 2) (fr_up (k := .cells [.int .u64 s'.r, wk, wv, wt, .bool s'.cl] 5) (f5.trans f7) (lk_N hN 3)) (lk_N hN 4)
    have nw9 : ∀ H'', Nw H (upH (upH H7 (N.n 3) (.cells [.int .u64 s'.r, wk, wv, wt, .bool s'.cl] 5)) (N.n 4) (.cells [.int .i64 a, .int .u64 b] 2)) H'' → Nw H5 H7 H'' := fun H'' nw y c h0 h1 => by
      refine nw y c (f5.dm _ h0) ?_
      rw [lk_upH, eqb (fun e => by rw [e, q4] at h0; cases h0), cond_false, lk_upH, eqb (fun e => by rw [e, q3] at h0; cases h0), cond_false]; exact h1
    have hq := t7 _ ((hs.mono f5).mono f7) (fun _ _ _ e => e)
    have ha' := hq.all s'.cl
    rw [hH5] at e7
    simp (disch := omega) only [J83, hB, hR, hI, kp.l, kp.t3, kp.t4, kp.t5, kp.t6, kp.t7, kp.t8, kp.t10, e7, ha, ha', lk_, hin', p3, p4, b3, b4, rb3, rb4, n43, n34, all1, ress, res1, retV, Value.cells, newsV_s, seval, eV]
    exact fin9 rfl R7 (fun H'' h nw => t7 H'' h (nw9 H'' nw)) g9 fr9
  have hin' : (i : Int) < (s.ks.length : Int) := by omega
  obtain ⟨bv, ov, cv, hvk, rr⟩ := rd_w w1_len hs.k (by omega)
  have r1 := rr H5 f5 i hin
  rw [hH5] at r1
  simp only [w1] at r1
  by_cases he : s.ks.getD i 0 = x
  · have heb : (s.ks.getD i 0 == x) = true := by simpa using he
    obtain ⟨s', wk, wv, wt, a, b, H7, N7, e7, g7, f7, t7, R7⟩ := xplaced (cd := cd) (ky := ky) (i := i) (here := true) C hk R (hs.mono f5) ux hvl hok hi hj (fun _ => hin) (by simp) g5
    have p3 := f7 _ _ q3
    have p4 := f7 _ _ q4
    have g8 := good_up (k := .cells [.int .u64 s'.r, wk, wv, wt, .bool s'.cl] 5) g7 b3 p3
    have p4' : lk (upH H7 (N.n 3) (.cells [.int .u64 s'.r, wk, wv, wt, .bool s'.cl] 5)) (N.n 4) = some (.cells [.int .i64 0, .int .u64 0] 2) := by rw [lk_upH, n43, cond_false]; exact p4
    have g9 := good_up (k := .cells [.int .i64 a, .int .u64 b] 2) g8 b4 p4'
    have fr9 := fr_up (k := .cells [.int .i64 a, .int .u64 b] 2) (fr_up (k := .cells [.int .u64 s'.r, wk, wv, wt, .bool s'.cl] 5) (f5.trans f7) (lk_N hN 3)) (lk_N hN 4)
    have nw9 : ∀ H'', Nw H (upH (upH H7 (N.n 3) (.cells [.int .u64 s'.r, wk, wv, wt, .bool s'.cl] 5)) (N.n 4) (.cells [.int .i64 a, .int .u64 b] 2)) H'' → Nw H5 H7 H'' := fun H'' nw y c h0 h1 => by
      refine nw y c (f5.dm _ h0) ?_
      rw [lk_upH, eqb (fun e => by rw [e, q4] at h0; cases h0), cond_false, lk_upH, eqb (fun e => by rw [e, q3] at h0; cases h0), cond_false]; exact h1
    have hq := t7 _ ((hs.mono f5).mono f7) (fun _ _ _ e => e)
    have ha' := hq.all s'.cl
    rw [hH5] at e7
    rw [he] at r1
    subst hvk
    have hat : all1 [vv, vt, .bool s.cl] = true := ha
    simp (disch := omega) only [J83, hB, hR, hI, kp.l, kp.t3, kp.t4, kp.t5, kp.t6, kp.t7, kp.t8, kp.t10, e7, ha, hat, ha', lk_, hin, hin', i0, r1, p3, p4, b3, b4, rb3, rb4, n43, n34, Nat.mul_one, all1, ress, res1, retV, Value.cells, newsV_s, seval, eV]
    exact fin9 rfl R7 (fun H'' h nw => t7 H'' h (nw9 H'' nw)) g9 fr9
  · have heb : (s.ks.getD i 0 == x) = false := by simpa using he
    obtain ⟨s', wk, wv, wt, a, b, H7, N7, e7, g7, f7, t7, R7⟩ := xplaced (cd := cd) (ky := ky) (i := i) (here := false) C hk R (hs.mono f5) ux hvl hok hi hj (by simp) (fun _ h' => by rcases Int.lt_trichotomy (kyI kk x) (kyI kk (s.ks.getD i 0)) with h1 | h1 | h1 <;> first | exact h1 | exact absurd (inj i hin h1.symm) he | exact absurd h1 (hge hin)) g5
    have p3 := f7 _ _ q3
    have p4 := f7 _ _ q4
    have g8 := good_up (k := .cells [.int .u64 s'.r, wk, wv, wt, .bool s'.cl] 5) g7 b3 p3
    have p4' : lk (upH H7 (N.n 3) (.cells [.int .u64 s'.r, wk, wv, wt, .bool s'.cl] 5)) (N.n 4) = some (.cells [.int .i64 0, .int .u64 0] 2) := by rw [lk_upH, n43, cond_false]; exact p4
    have g9 := good_up (k := .cells [.int .i64 a, .int .u64 b] 2) g8 b4 p4'
    have fr9 := fr_up (k := .cells [.int .i64 a, .int .u64 b] 2) (fr_up (k := .cells [.int .u64 s'.r, wk, wv, wt, .bool s'.cl] 5) (f5.trans f7) (lk_N hN 3)) (lk_N hN 4)
    have nw9 : ∀ H'', Nw H (upH (upH H7 (N.n 3) (.cells [.int .u64 s'.r, wk, wv, wt, .bool s'.cl] 5)) (N.n 4) (.cells [.int .i64 a, .int .u64 b] 2)) H'' → Nw H5 H7 H'' := fun H'' nw y c h0 h1 => by
      refine nw y c (f5.dm _ h0) ?_
      rw [lk_upH, eqb (fun e => by rw [e, q4] at h0; cases h0), cond_false, lk_upH, eqb (fun e => by rw [e, q3] at h0; cases h0), cond_false]; exact h1
    have hq := t7 _ ((hs.mono f5).mono f7) (fun _ _ _ e => e)
    have ha' := hq.all s'.cl
    rw [hH5] at e7
    subst hvk
    have hat : all1 [vv, vt, .bool s.cl] = true := ha
    simp (disch := omega) only [J83, hB, hR, hI, kp.l, kp.t3, kp.t4, kp.t5, kp.t6, kp.t7, kp.t8, kp.t10, e7, ha, hat, ha', lk_, hin, hin', i0, r1, heb, p3, p4, b3, b4, rb3, rb4, n43, n34, Nat.mul_one, all1, ress, res1, retV, Value.cells, newsV_s, seval, eV]
    exact fin9 rfl R7 (fun H'' h nw => t7 H'' h (nw9 H'' nw)) g9 fr9
end Go.Proofs.YtfhiplfagejfoaaDoor
