/- Own text: the log of writes, part Home: contracts of the functions that the laws of the log call. -/
import Derived.Test.YtfhiplfagejfoaaDoorHoH
import Derived.Test.YtfhiplfagejfoaaDoorRows
import Derived.Test.YtfhiplfagejfoaaDoorCards
import Derived.Test.YtfhiplfagejfoaaDoorTie
set_option linter.unusedSimpArgs false
set_option linter.unusedVariables false
namespace Go.Proofs.YtfhiplfagejfoaaDoor
open Go.Proofs.YtfhiplfagejfoaaDoor.K Go.ChangeShapes Go.WideShapes Go.ChangeAt Go.RowKit 
set_option maxRecDepth 100000
set_option linter.unusedSimpArgs false
set_option linter.unusedVariables false
def lbHa : LC := (.seq (.seq (.ops [om 96 22,om 97 12,oa 98 (.len false (ot 97)),oa 99 (.bin .lss (ot 96) (ot 98))])
 (.cond (ot 99) .skip
 (.exit 0)))
 (.seq (.block 1 (.draw [pg 102 0 20,pl 103 102,pm 104 14,pm 105 22,oe 106 (.bin .add (ot 104) (ot 105)),pm 107 12,pm 108 22,oe 109 (.iaddrS 1 (ot 107) (ot 108)),pl 110 109,oe 111 (.iaddrS 2 (ot 103) (ot 106)),pg 112 0 111, ⟨oc (.store 1 (ot 112) (ot 110)),[]⟩]))
 (.ops [om 100 22,oa 101 (.bin .add (ot 100) (oi 1)),om 22 101])))
def lbHl : LC := (.seq (.seq (.ops [om 146 27,og 147 0 20,ol 148 147,oa 149 (.len false (ot 148)),oa 150 (.bin .lss (ot 146) (ot 149))])
 (.cond (ot 150) .skip
 (.exit 2)))
 (.seq (.block 3 (.seq (.ops [oa 153 (.build [(.int .u64 0), (.int .i64 0)] []),oa 28 (.alloc [(.int .u64 0), (.int .i64 0)]), oc (.store 2 (ot 28) (ot 153))])
 (.seq (.seq (.ops [om 154 27,om 155 14,oa 156 (.bin .geq (ot 154) (ot 155))])
 (.cond (ot 156) (.ops [om 157 13,om 158 27,om 159 14,oa 160 (.bin .sub (ot 158) (ot 159)),oa 161 (.iaddrS 1 (ot 157) (ot 160)),ol 162 161,og 163 0 28, oc (.store 1 (ot 163) (ot 162))])
 .skip))
 (.seq (.draw [pg 164 0 25,pl 165 164,pm 166 27,oe 167 (.iaddrS 2 (ot 165) (ot 166)),oe 168 (.load true 2 (ot 167)),oe 169 (.load true 2 (ot 28)),oe 170 (.eqA true [.int, .int] (ot 168) (ot 169))])
 (.cond (ot 170) (.seq (.ops [oa 8 (.mv (.const (.bool false)))])
 .ret)
 .skip)))))
 (.ops [om 151 27,oa 152 (.bin .add (ot 151) (oi 1)),om 27 152])))
def LlO : FnL := ⟨(.seq (.ops [oa 4 (.box (ot 0)),oa 8 (.mv (.const (.bool false)))])
 (.seq (.ops [oa 29 (.call (.func 8) []),om 9 29])
 (.seq (.ops [oa 30 (.load true 3 (ot 4)),oa 31 (.call (.func 9) [(ot 30)]),oa 10 (.alloc [(.int .i64 0), (.int .i64 0), (.int .i64 0)]), oc (.store 3 (ot 10) (ot 31))])
 (.seq (.ops [om 32 3,og 33 1 10,ol 34 33,oa 35 (.call (.func 12) [(ot 32), (ot 34)]),om 11 35])
 (.seq (.ops [oa 36 (.load true 3 (ot 10)),om 37 1,oa 38 (.call (.func 33) [(ot 36), (ot 37)]),om 12 38])
 (.seq (.ops [oa 39 (.load true 3 (ot 10)),om 40 2,oa 41 (.call (.func 33) [(ot 39), (ot 40)]),om 13 41])
 (.seq (.ops [oa 43 (.load true 3 (ot 10)),oa 44 (.call (.func 31) [(ot 43), (oi 4), (oi 0)]),om 42 44,oa 45 (.ext (ot 42) 0),oa 46 (.ext (ot 42) 1),om 14 45,om 15 46])
 (.seq (.ops [om 48 12,om 49 13,om 50 14,oa 51 (.call (.func 34) [(ot 48), (ot 49), (ot 50)]),om 47 51,oa 52 (.ext (ot 47) 0),oa 53 (.ext (ot 47) 1),om 16 52,om 17 53])
 (.seq (.ops [oa 55 (.load true 3 (ot 10)),om 56 16,oa 57 (.call (.func 16) [(ot 55), (ot 56)]),om 54 57,oa 58 (.ext (ot 54) 0),oa 59 (.ext (ot 54) 1),om 18 58,om 19 59])
 (.seq (.seq (.ops [om 60 15,oa 61 (.bin .neq (ot 60) (oi 0)),om 62 61,ob 63 (.mv (ot 17)) 62 false,ob 64 (.bin .neq (ot 63) (oi 0)) 62 false,oa 65 (.pick (ot 62) (.const (.bool true)) (ot 64)),om 66 65,ob 67 (.mv (ot 19)) 66 false,ob 68 (.bin .neq (ot 67) (oi 0)) 66 false,oa 69 (.pick (ot 66) (.const (.bool true)) (ot 68)),om 70 69,ob 71 (.mv (ot 12)) 70 false,ob 72 (.len false (ot 71)) 70 false,ob 73 (.mv (ot 13)) 70 false,ob 74 (.len false (ot 73)) 70 false,ob 75 (.bin .neq (ot 72) (ot 74)) 70 false,oa 76 (.pick (ot 70) (.const (.bool true)) (ot 75)),om 77 76,ob 78 (.mv (ot 14)) 77 false,ob 79 (.bin .lss (ot 78) (oi 0)) 77 false,oa 80 (.pick (ot 77) (.const (.bool true)) (ot 79)),om 81 80,ob 82 (.mv (ot 14)) 81 false,ob 83 (.mv (ot 12)) 81 false,ob 84 (.len false (ot 83)) 81 false,ob 85 (.bin .add (ot 82) (ot 84)) 81 false,ob 86 (.load true 3 (ot 10)) 81 false,ob 87 (.call (.func 35) [(ot 86)]) 81 false,ob 88 (.bin .neq (ot 85) (ot 87)) 81 false,oa 89 (.pick (ot 81) (.const (.bool true)) (ot 88))])
 (.cond (ot 89) (.seq (.ops [oa 8 (.mv (.const (.bool false)))])
 .ret)
 .skip))
 (.seq (.ops [oa 91 (.load true 3 (ot 10)),oa 92 (.call (.func 35) [(ot 91)]),oa 93 (.call (.func 36) [(ot 92)]),om 90 93,oa 94 (.ext (ot 90) 0),oa 95 (.ext (ot 90) 1),oa 20 (.alloc [(.slice none 0 0)]), oc (.store 1 (ot 20) (ot 94)),om 21 95])
 (.seq (.seq (.ops [oa 22 (.mv (oi 0))])
 (.block 0 (.loop lbHa)))
 (.seq (.seq (.draw [oe 114 (.load true 3 (ot 10)),oe 115 (.load true 3 (ot 10)),oe 116 (.load true 1 (ot 20)),pm 117 11,pm 118 18,pm 120 11])
 (.fork (.seq (.draw [⟨oa 119 (.call (.func 23) [(ot 115), (ot 116), (ot 117), (ot 118)]), [oa 114 (.load true 3 (ot 10))]⟩])
 (.fork (.draw [oe 121 (.call (.func 24) [(ot 114), (ot 119), (ot 120)]),pm 113 121,oe 122 (.ext (ot 113) 0),oe 123 (.ext (ot 113) 1),oe 23 (.alloc [(.slice none 0 0)]), ⟨oc (.store 1 (ot 23) (ot 122)),[]⟩,pm 24 123])
 (.draw [⟨oa 23 (.alloc [(.slice none 0 0)]), [oa 114 (.load true 3 (ot 10))]⟩,oe 121 (.call (.func 24) [(ot 114), (ot 119), (ot 120)]),pm 113 121,oe 122 (.ext (ot 113) 0),oe 123 (.ext (ot 113) 1), ⟨oc (.store 1 (ot 23) (ot 122)),[]⟩,pm 24 123])))
 (.draw [⟨oa 23 (.alloc [(.slice none 0 0)]), [oa 114 (.load true 3 (ot 10)),oa 115 (.load true 3 (ot 10)),oa 116 (.load true 1 (ot 20))]⟩,⟨oa 119 (.call (.func 23) [(ot 115), (ot 116), (ot 117), (ot 118)]), [oa 114 (.load true 3 (ot 10))]⟩,oe 121 (.call (.func 24) [(ot 114), (ot 119), (ot 120)]),pm 113 121,oe 122 (.ext (ot 113) 0),oe 123 (.ext (ot 113) 1), ⟨oc (.store 1 (ot 23) (ot 122)),[]⟩,pm 24 123])))
 (.seq (.ops [oa 125 (.load true 3 (ot 10)),oa 126 (.load true 1 (ot 23)),om 127 11,oa 128 (.call (.func 26) [(ot 125), (ot 126), (ot 127)]),om 124 128,oa 129 (.ext (ot 124) 0),oa 130 (.ext (ot 124) 1),oa 25 (.alloc [(.slice none 0 0)]), oc (.store 1 (ot 25) (ot 129)),om 26 130])
 (.seq (.seq (.ops [om 131 24,oa 132 (.bin .neq (ot 131) (oi 0)),om 133 132,ob 134 (.mv (ot 26)) 133 false,ob 135 (.bin .neq (ot 134) (oi 0)) 133 false,oa 136 (.pick (ot 133) (.const (.bool true)) (ot 135)),om 137 136,ob 138 (.faddr 0 (ot 25)) 137 false,ob 139 (.load false 1 (ot 138)) 137 false,ob 140 (.len false (ot 139)) 137 false,ob 141 (.faddr 0 (ot 20)) 137 false,ob 142 (.load false 1 (ot 141)) 137 false,ob 143 (.len false (ot 142)) 137 false,ob 144 (.bin .neq (ot 140) (ot 143)) 137 false,oa 145 (.pick (ot 137) (.const (.bool true)) (ot 144))])
 (.cond (ot 145) (.seq (.ops [oa 8 (.mv (.const (.bool false)))])
 .ret)
 .skip))
 (.seq (.seq (.ops [oa 27 (.mv (oi 0))])
 (.block 2 (.loop lbHl)))
 (.seq (.ops [om 171 9,om 8 171])
 .ret))))))))))))))))),
 172, [.tmp 8]⟩
theorem lowlO : lowerFn Tryd.prog Tryd.f7 = some LlO := by kernel_rfl
noncomputable def GlO (B : OH) : Nat → Cs
  | 31 => V10 B
  | 34 => VdiffOf B
  | 33 => VlWo B
  | 9 => Vlaw16Conf B
  | 23 => VlH B
  | 8 => VlA B
  | 12 => Vlaw16pick B
  | 36 => Vref03New B
  | 35 => Vref04Size B
  | 24 => VgL B
  | 16 => VgP B
  | 26 => VgW B
  | _ => fun _ _ _ => none
theorem GlO_10 {B : OH} : GlO B 31 = V10 B := rfl
theorem GlO_diffOf {B : OH} : GlO B 34 = VdiffOf B := rfl
theorem GlO_lWo {B : OH} : GlO B 33 = VlWo B := rfl
theorem GlO_law16Conf {B : OH} : GlO B 9 = Vlaw16Conf B := rfl
theorem GlO_lH {B : OH} : GlO B 23 = VlH B := rfl
theorem GlO_lA {B : OH} : GlO B 8 = VlA B := rfl
theorem GlO_law16pick {B : OH} : GlO B 12 = Vlaw16pick B := rfl
theorem GlO_ref03New {B : OH} : GlO B 36 = Vref03New B := rfl
theorem GlO_ref04Size {B : OH} : GlO B 35 = Vref04Size B := rfl
theorem GlO_gL {B : OH} : GlO B 24 = VgL B := rfl
theorem GlO_gP {B : OH} : GlO B 16 = VgP B := rfl
theorem GlO_gW {B : OH} : GlO B 26 = VgW B := rfl
theorem sGlO {w0 : World} {B : OH} : SoundG Tryd.prog w0 B { f := GlO B } := .of fun k => by
  unfold GlO
  split
  · exact .inr ⟨en10, sV10⟩
  · exact .inr ⟨endiffOf, sVdiffOf⟩
  · exact .inr ⟨enlWo, sVlWo⟩
  · exact .inr ⟨enlaw16Conf, sVlaw16Conf⟩
  · exact .inr ⟨enlH, sVlH⟩
  · exact .inr ⟨enlA, sVlA⟩
  · exact .inr ⟨enlaw16pick, sVlaw16pick⟩
  · exact .inr ⟨enref03New, sVref03New⟩
  · exact .inr ⟨enref04Size, sVref04Size⟩
  · exact .inr ⟨engL, sVgL⟩
  · exact .inr ⟨engP, sVgP⟩
  · exact .inr ⟨engW, sVgW⟩
  · exact .inl fun _ _ _ => rfl
noncomputable def TlO (B : OH) : Cs := callF B { f := GlO B } 1000000 LlO
structure KHa (c q : Nat) (v1 v2 : Value) (hm_ : Nat) (vb : Value) (m i : Nat) (ts : List Value) : Prop where
  l : ts.length = 172
  t9 : gt ts 9 = .bool true
  t10 : gt ts 10 = .pointer (some ⟨c, 0, none⟩)
  t11 : gt ts 11 = .int .i64 (q : Int)
  t12 : gt ts 12 = v1
  t13 : gt ts 13 = v2
  t14 : gt ts 14 = .int .i64 (hm_ : Int)
  t18 : gt ts 18 = vb
  t20 : gt ts 20 = .pointer (some ⟨m, 0, none⟩)
  t22 : gt ts 22 = .int .i64 (i : Int)
structure KHf (c q : Nat) (v2 : Value) (hm_ m : Nat) (vz vb : Value) (kk p cc : Nat) (ts : List Value) : Prop where
  l : ts.length = 172
  t9 : gt ts 9 = .bool true
  t10 : gt ts 10 = .pointer (some ⟨c, 0, none⟩)
  t11 : gt ts 11 = .int .i64 (q : Int)
  t13 : gt ts 13 = v2
  t14 : gt ts 14 = .int .i64 (hm_ : Int)
  t20 : gt ts 20 = .pointer (some ⟨m, 0, none⟩)
  t114 : gt ts 114 = .agg #[.int .i64 (kk : Int), .int .i64 (p : Int), .int .i64 (cc : Int)]
  t115 : gt ts 115 = .agg #[.int .i64 (kk : Int), .int .i64 (p : Int), .int .i64 (cc : Int)]
  t116 : gt ts 116 = .agg #[vz]
  t117 : gt ts 117 = .int .i64 (q : Int)
  t118 : gt ts 118 = vb
  t120 : gt ts 120 = .int .i64 (q : Int)
structure KHu (c q : Nat) (v2 : Value) (hm_ m u : Nat) (ts : List Value) : Prop where
  l : ts.length = 172
  t9 : gt ts 9 = .bool true
  t10 : gt ts 10 = .pointer (some ⟨c, 0, none⟩)
  t11 : gt ts 11 = .int .i64 (q : Int)
  t13 : gt ts 13 = v2
  t14 : gt ts 14 = .int .i64 (hm_ : Int)
  t20 : gt ts 20 = .pointer (some ⟨m, 0, none⟩)
  t23 : gt ts 23 = .pointer (some ⟨u, 0, none⟩)
  t24 : gt ts 24 = .int .i64 0
structure KHl (v2 : Value) (hm_ m y i : Nat) (ts : List Value) : Prop where
  l : ts.length = 172
  t9 : gt ts 9 = .bool true
  t13 : gt ts 13 = v2
  t14 : gt ts 14 = .int .i64 (hm_ : Int)
  t20 : gt ts 20 = .pointer (some ⟨m, 0, none⟩)
  t25 : gt ts 25 = .pointer (some ⟨y, 0, none⟩)
  t27 : gt ts 27 = .int .i64 (i : Int)
def lbHf : LC := (.fork (.seq (.draw [⟨oa 119 (.call (.func 23) [(ot 115), (ot 116), (ot 117), (ot 118)]), [oa 114 (.load true 3 (ot 10))]⟩])
 (.fork (.draw [oe 121 (.call (.func 24) [(ot 114), (ot 119), (ot 120)]),pm 113 121,oe 122 (.ext (ot 113) 0),oe 123 (.ext (ot 113) 1),oe 23 (.alloc [(.slice none 0 0)]), ⟨oc (.store 1 (ot 23) (ot 122)),[]⟩,pm 24 123])
 (.draw [⟨oa 23 (.alloc [(.slice none 0 0)]), [oa 114 (.load true 3 (ot 10))]⟩,oe 121 (.call (.func 24) [(ot 114), (ot 119), (ot 120)]),pm 113 121,oe 122 (.ext (ot 113) 0),oe 123 (.ext (ot 113) 1), ⟨oc (.store 1 (ot 23) (ot 122)),[]⟩,pm 24 123])))
 (.draw [⟨oa 23 (.alloc [(.slice none 0 0)]), [oa 114 (.load true 3 (ot 10)),oa 115 (.load true 3 (ot 10)),oa 116 (.load true 1 (ot 20))]⟩,⟨oa 119 (.call (.func 23) [(ot 115), (ot 116), (ot 117), (ot 118)]), [oa 114 (.load true 3 (ot 10))]⟩,oe 121 (.call (.func 24) [(ot 114), (ot 119), (ot 120)]),pm 113 121,oe 122 (.ext (ot 113) 0),oe 123 (.ext (ot 113) 1), ⟨oc (.store 1 (ot 23) (ot 122)),[]⟩,pm 24 123]))
theorem J113 : Said (an @TlO.eq_1 <| an @LlO.eq_1 <| an @GlO_10 <| an @V10_eq <| an @GlO_diffOf <| an @GlO_lWo <| an @GlO_law16Conf <| an @Vlaw16Conf_eq <| an @GlO_lH <| an @GlO_lA <| an @GlO_law16pick <| an @Vlaw16pick_eq <| an @GlO_ref03New <| an @GlO_ref04Size <| an @Vref04Size_eq <| an @GlO_gL <| an @GlO_gP <| an @GlO_gW <| an @lbHf.eq_1 <| trivial) := said_ok _
set_option maxHeartbeats 4000000 in
theorem forkH {B : OH} {H : HL} {N : St} {v2 vb vz : Value} {Z U : List C2} {wb : List Int} {kk p cc h c q hm_ z : Nat} (hT : Tab B) (C : Cf kk p cc h) (hq : q < p) (sz : SlW c2 2 B H vz Z) (hZ : Z.length = bs p h 5) (sb : SlR w1 1 B H vb wb) (hwb : wb.length = LG p h) (hWs : C2s (withW Z (lgA p h q) wb (LG p h))) (hE : layE p h q (withW Z (lgA p h q) wb (LG p h)) = 0) (hU : layR p h q (withW Z (lgA p h q) wb (LG p h)) = U) (hN : good B H N) (bc : B c = none) (bz : B z = none) (lc : lk H c = some (.cells [.int .i64 (kk : Int), .int .i64 (p : Int), .int .i64 (cc : Int)] 3)) (lz : lk H z = some (.cells [vz] 1)) {ts : List Value} (kp : KHf c q v2 hm_ z vz vb kk p cc ts) {F : Nat} (hF : 1000 ≤ F) :
    Ok (exec B { f := GlO B } F lbHf ⟨ts, H, N⟩) (fun r s => r = .normal ∧ good B s.H s.N ∧ Fr H s.H ∧ ∃ u vu, KHu c q v2 hm_ z u s.t ∧ B u = none ∧ lk s.H u = some (.cells [vu] 1) ∧ SlW c2 2 B s.H vu U) := by
  obtain ⟨hB, hR, hI⟩ := gX hN
  have rc := rN bc
  have nc := ne_N hN lc
  have rz := rN bz
  have nz := ne_N hN lz
  have gg : ∀ {H N}, good B H N → good B H (shg N) := fun h => h
  have h5 := bs5_b C
  have hwl := withW_len Z (lgA p h q) wb (LG p h)
  have hmin : min wb.length (LG p h) = LG p h := by omega
  obtain ⟨F, rfl⟩ : ∃ F', F = F' + 100 := ⟨F - 100, by omega⟩
  cases hg : N.g 0 with
  | true =>
    obtain ⟨vM, H1, N1, e1, g1, f1, s1⟩ := fWith C (gg hN) sz sb hZ hq
    rw [hmin] at s1
    have lc1 := f1 _ _ lc
    have nc1 := ne_N g1 lc1
    have lz1 := f1 _ _ lz
    have nz1 := ne_N g1 lz1
    cases hg1 : N1.g 0 with
    | true =>
      obtain ⟨v2, H2, N2, e2, g2, f2, s2⟩ := fLay hT C (gg g1) (s1.wh c2_len) (by omega) hWs (q := (q : Int))
      rw [hE, hU] at *
      have lc2 := f2 _ _ lc1
      have nc2 := ne_N g2 lc2
      simp (disch := omega) only [J113, hB, hR, hI, kp.l, kp.t9, kp.t10, kp.t11, kp.t13, kp.t14, kp.t20, kp.t114, kp.t115, kp.t116, kp.t117, kp.t118, kp.t120, hg, hg1, lc, lc1, lc2, lz, lz1, bz, rz, nz, nz1, bc, rc, nc, nc1, nc2, e1, e2, all1_slw (s2.wh c2_len), good_B g2, good_rdB g2, all1, ress, res1, retV, Value.cells, newsV_s, seval, eV]
      refine ok_some ⟨rfl, good_new g2, (f1.trans f2).trans (fr_new g2 Fr.refl 0), N2.n 0, v2, ⟨?_, ?_, ?_, ?_, ?_, ?_, ?_, ?_, ?_⟩, good_B g2 0, lk_top, (s2.wh c2_len).mono (fr_new g2 Fr.refl 0)⟩
      all_goals simp (disch := omega) only [kp.l, kp.t9, kp.t10, kp.t11, kp.t13, kp.t14, kp.t20, kp.t114, kp.t115, kp.t116, kp.t117, kp.t118, kp.t120, Int.cast_ofNat_Int, decide_true, ev2, seval, ev5]
    | false =>
      have g1' : good B ((N1.n 0, .cells [.slice none 0 0] 1) :: H1) (sh (shg N1)) := good_new (gg g1)
      have f1' : Fr H1 ((N1.n 0, .cells [.slice none 0 0] 1) :: H1) := fr_new (gg g1) Fr.refl 0
      obtain ⟨v2, H2, N2, e2, g2, f2, s2⟩ := fLay hT C g1' ((s1.wh c2_len).mono f1') (by omega) hWs (q := (q : Int))
      rw [hE, hU] at *
      have lc1' := f1' _ _ lc1
      have lc2 := f2 _ _ lc1'
      have nc2 := ne_N g2 lc2
      have lu2 := f2 _ _ (lk_top : lk ((N1.n 0, KB.cells [.slice none 0 0] 1) :: H1) (N1.n 0) = _)
      have bu := good_B g1 0
      have ru := rN bu
      have e2' : VgL B [.agg #[.int .i64 (kk : Int), .int .i64 (p : Int), .int .i64 (cc : Int)], .agg #[vM], .int .i64 (q : Int)] ((N1.n 0, .cells [.slice none 0 0] 1) :: H1) (sh (shg N1)) = _ := e2
      simp (disch := omega) only [J113, hB, hR, hI, kp.l, kp.t9, kp.t10, kp.t11, kp.t13, kp.t14, kp.t20, kp.t114, kp.t115, kp.t116, kp.t117, kp.t118, kp.t120, hg, hg1, lc, lc1, lc2, lz, lz1, bz, rz, nz, nz1, bc, rc, nc, nc1, nc2, e1, e2', all1_slw (s2.wh c2_len), good_B g2, good_rdB g2, good_B g1, good_rdB g1, lu2, bu, ru, all1, ress, res1, retV, Value.cells, newsV_s, seval, eV]
      refine ok_some ⟨rfl, good_up g2 bu lu2, f1.trans (fr_up (f1'.trans f2) (lk_N g1 0)), N1.n 0, v2, ⟨?_, ?_, ?_, ?_, ?_, ?_, ?_, ?_, ?_⟩, bu, ?_, (s2.mono (fun y c e1 e2 => ?_)).wh c2_len⟩
      rotate_right
      · rw [lk_upH, eqb (fun e => s2.ne lk_top (by rw [e1, e])), cond_false]; exact e2
      rotate_right
      · rw [lk_upH, beq_self_eq_true, cond_true]
      all_goals simp (disch := omega) only [kp.l, kp.t9, kp.t10, kp.t11, kp.t13, kp.t14, kp.t20, kp.t114, kp.t115, kp.t116, kp.t117, kp.t118, kp.t120, Int.cast_ofNat_Int, decide_true, ev2, seval, ev5]
  | false =>
    have g0' : good B ((N.n 0, .cells [.slice none 0 0] 1) :: H) (sh (shg N)) := good_new (gg hN)
    have f0' : Fr H ((N.n 0, .cells [.slice none 0 0] 1) :: H) := fr_new (gg hN) Fr.refl 0
    obtain ⟨vM, H1, N1, e1, g1, f1, s1⟩ := fWith C g0' (sz.mono f0') (sb.mono f0') hZ hq
    rw [hmin] at s1
    have e1' : VlH B [.agg #[.int .i64 (kk : Int), .int .i64 (p : Int), .int .i64 (cc : Int)], .agg #[vz], .int .i64 (q : Int), vb] ((N.n 0, .cells [.slice none 0 0] 1) :: H) (sh (shg N)) = _ := e1
    have lc0 := f0' _ _ lc
    have lc1 := f1 _ _ lc0
    have nc1 := ne_N g1 lc1
    have lz0 := f0' _ _ lz
    obtain ⟨v2, H2, N2, e2, g2, f2, s2⟩ := fLay hT C g1 (s1.wh c2_len) (by omega) hWs (q := (q : Int))
    rw [hE, hU] at *
    have lc2 := f2 _ _ lc1
    have nc2 := ne_N g2 lc2
    have lu1 := f1 _ _ (lk_top : lk ((N.n 0, KB.cells [.slice none 0 0] 1) :: H) (N.n 0) = _)
    have lu2 := f2 _ _ lu1
    have bu := hB 0
    have ru := rN bu
    simp (disch := omega) only [J113, hB, hR, hI, kp.l, kp.t9, kp.t10, kp.t11, kp.t13, kp.t14, kp.t20, kp.t114, kp.t115, kp.t116, kp.t117, kp.t118, kp.t120, hg, lc, lc0, lc1, lc2, lz, lz0, bz, rz, nz, bc, rc, nc, nc1, nc2, e1', e2, all1_slw (s2.wh c2_len), good_B g2, good_rdB g2, good_B g1, good_rdB g1, lu2, bu, ru, all1, ress, res1, retV, Value.cells, newsV_s, seval, eV]
    refine ok_some ⟨rfl, good_up g2 bu lu2, fr_up ((f0'.trans f1).trans f2) (lk_N hN 0), N.n 0, v2, ⟨?_, ?_, ?_, ?_, ?_, ?_, ?_, ?_, ?_⟩, bu, ?_, (s2.mono (fun y c e1 e2 => ?_)).wh c2_len⟩
    rotate_right
    · rw [lk_upH, eqb (fun e => s2.ne lu1 (by rw [e1, e])), cond_false]; exact e2
    rotate_right
    · rw [lk_upH, beq_self_eq_true, cond_true]
    all_goals simp (disch := omega) only [kp.l, kp.t9, kp.t10, kp.t11, kp.t13, kp.t14, kp.t20, kp.t114, kp.t115, kp.t116, kp.t117, kp.t118, kp.t120, Int.cast_ofNat_Int, decide_true, ev2, seval, ev5]
theorem J114 : Said (an @TlO.eq_1 <| an @LlO.eq_1 <| an @GlO_10 <| an @V10_eq <| an @GlO_diffOf <| an @GlO_lWo <| an @GlO_law16Conf <| an @Vlaw16Conf_eq <| an @GlO_lH <| an @GlO_lA <| an @GlO_law16pick <| an @Vlaw16pick_eq <| an @GlO_ref03New <| an @GlO_ref04Size <| an @Vref04Size_eq <| an @GlO_gL <| an @GlO_gP <| an @GlO_gW <| an @lbHa.eq_1 <| trivial) := said_ok _
set_option maxHeartbeats 4000000 in
theorem loopHa {B : OH} {Hx H : HL} {N : St} {M : List C2} {v1 v2 vb : Value} {w : List Int} {rest : List Value} {c q hm_ m b cap n : Nat} (hw : SlR w1 1 B Hx v1 w) (hwn : w.length = n) (hFx : Fr Hx H) (hxb : lk Hx b = none) (hA : hm_ + n ≤ M.length) (hM : M.length ≤ 800000) (hN : good B H N) (bo : B m = none) (bb : B b = none) (lo : lk H m = some (.cells [.slice (some ⟨b, 0, none⟩) M.length cap] 1)) (hlk : lk H b = some (.cells (fl c2 M ++ rest) (cap * 2))) (hob : m ≠ b) {ts : List Value} (kp : KHa c q v1 v2 hm_ vb m 0 ts) {F : Nat} (hF : 3000 + n + 1 ≤ F) :
    Ok (exec B { f := GlO B } F (LC.loop lbHa) ⟨ts, H, N⟩) (fun x s => x = .exit 0 ∧ good B s.H s.N ∧ (∀ y c', y ≠ b → lk H y = some c' → lk s.H y = some c') ∧ lk s.H b = some (.cells (fl c2 (withW M hm_ w n) ++ rest) (cap * 2)) ∧ KHa c q v1 v2 hm_ vb m n s.t) := by
  have hlw := hw.len
  rw [hwn] at hlw
  refine loop_rule (n0 := 3000) (fun qq s => ∃ ts H' N', ∃ i : Nat, s = ⟨ts, H', N'⟩ ∧ KHa c q v1 v2 hm_ vb m i ts ∧ good B H' N' ∧ (∀ y c', y ≠ b → lk H y = some c' → lk H' y = some c') ∧ lk H' b = some (.cells (fl c2 (withW M hm_ w i) ++ rest) (cap * 2)) ∧ i ≤ n ∧ qq = n - i) _ ?_ n _ ⟨ts, H, N, 0, rfl, kp, hN, fun _ _ _ e => e, hlk, by omega, rfl⟩ _ hF
  clear kp hF F ts hN N hlk
  rintro z qq s ⟨ts, H1, N1, i, rfl, kp, g, fk, hlk, hi, rfl⟩
  obtain ⟨hB, hR, hI⟩ := gX g
  have lo1 := fk _ _ hob lo
  have ro := rN bo
  have hc1 : ((i + 1 : Nat) : Int) = (i : Int) + 1 := by omega
  by_cases hin : i < n
  case neg =>
    obtain rfl : i = n := by omega
    simp (disch := omega) only [J114, hB, hR, hI, kp.l, kp.t9, kp.t10, kp.t11, kp.t12, kp.t13, kp.t14, kp.t18, kp.t20, kp.t22, hlw, Int.lt_irrefl, all1, ress, res1, retV, Value.cells, newsV_s, seval, eV]
    refine ok_some (.inr ⟨by simp, rfl, g, fk, hlk, ⟨?_, ?_, ?_, ?_, ?_, ?_, ?_, ?_, ?_, ?_⟩⟩)
    all_goals simp (disch := omega) only [kp.l, kp.t9, kp.t10, kp.t11, kp.t12, kp.t13, kp.t14, kp.t18, kp.t20, kp.t22, Int.cast_ofNat_Int, decide_true, ev2, seval, ev5]
  have hin' : (i : Int) < (n : Int) := by omega
  have hiw : i < w.length := by omega
  have i0 : (0 : Int) ≤ (i : Int) := by omega
  have hidx : hm_ + i < M.length := by omega
  have x1 : (hm_ : Int) + (i : Int) = ((hm_ + i : Nat) : Int) := by omega
  have x2 : IntKind.i64.wrap ((hm_ + i : Nat) : Int) = ((hm_ + i : Nat) : Int) := IntWalk.i64_in _ (by omega)
  have x3 : (0 : Int) ≤ ((hm_ + i : Nat) : Int) := by omega
  have fx : Fr Hx H1 := fun y c e => fk y c (fun h' => by rw [h', hxb] at e; cases e) (hFx y c e)
  obtain ⟨bw, orw, cw, rfl, _, rr⟩ := hw.at (by omega)
  have r1 : rdO H1 B bw (orw + i * 1) 1 (rdB B bw (orw + i * 1) 1) = some [.int .u64 (w.getD i 0)] := by
    have := rr H1 fx i 0 1 0 hiw (by omega)
    rw [Nat.add_zero] at this
    exact this.trans rfl
  have hwr : wr (fl c2 (withW M hm_ w i) ++ rest) ((hm_ + i) * 2) [.int .u64 (w.getD i 0)] = some (fl c2 (withW M hm_ w (i + 1)) ++ rest) := wr_c2w (w.getD i 0) (by rw [withW_len]; exact hidx)
  simp (disch := omega) only [J114, hB, hR, hI, kp.l, kp.t9, kp.t10, kp.t11, kp.t12, kp.t13, kp.t14, kp.t18, kp.t20, kp.t22, lo1, bo, ro, hlw, hin', hiw, i0, r1, hidx, x1, x2, x3, hlk, bb, hwr, all1, ress, res1, retV, Value.cells, newsV_s, seval, eV]
  have gu := good_up (k := .cells (fl c2 (withW M hm_ w (i + 1)) ++ rest) (cap * 2)) g bb hlk
  refine ok_some (.inl ⟨rfl, n - (i + 1), by omega, _, _, _, i + 1, rfl, ⟨?_, ?_, ?_, ?_, ?_, ?_, ?_, ?_, ?_, ?_⟩, gu, fun y c' h1 e => ?_, ?_, by omega, rfl⟩)
  rotate_right
  · rw [lk_upH, beq_self_eq_true, cond_true]
  rotate_right
  · rw [lk_upH, eqb h1, cond_false]; exact fk y c' h1 e
  all_goals simp (disch := omega) only [kp.l, kp.t9, kp.t10, kp.t11, kp.t12, kp.t13, kp.t14, kp.t18, kp.t20, kp.t22, hc1, Int.cast_ofNat_Int, decide_true, ev2, seval, ev5]
theorem J115 : Said (an @TlO.eq_1 <| an @LlO.eq_1 <| an @GlO_10 <| an @V10_eq <| an @GlO_diffOf <| an @GlO_lWo <| an @GlO_law16Conf <| an @Vlaw16Conf_eq <| an @GlO_lH <| an @GlO_lA <| an @GlO_law16pick <| an @Vlaw16pick_eq <| an @GlO_ref03New <| an @GlO_ref04Size <| an @Vref04Size_eq <| an @GlO_gL <| an @GlO_gP <| an @GlO_gW <| an @lbHl.eq_1 <| trivial) := said_ok _
set_option maxHeartbeats 4000000 in
theorem loopHl {B : OH} {H : HL} {N : St} {v2 vm vy : Value} {Y : List C2} {w : List Int} {hm_ m y : Nat} (sy : SlR c2 2 B H vy Y) (sm : lenV false vm = some (.int .i64 (Y.length : Int))) (sw : SlR w1 1 B H v2 w) (hw : hm_ + w.length = Y.length) (hY : Y.length ≤ 800000) (hq : ∀ k, k < Y.length → Y.getD k z2 = ⟨if hm_ ≤ k then w.getD (k - hm_) 0 else 0, 0⟩) (hN : good B H N) (bm : B m = none) (by_ : B y = none) (lm : lk H m = some (.cells [vm] 1)) (ly : lk H y = some (.cells [vy] 1)) {ts : List Value} (kp : KHl v2 hm_ m y 0 ts) {F : Nat} (hF : 3000 + Y.length + 1 ≤ F) :
    Ok (exec B { f := GlO B } F (LC.loop lbHl) ⟨ts, H, N⟩) (fun x s => x = .exit 2 ∧ ∃ i, KHl v2 hm_ m y i s.t) := by
  have hly := sy.len
  have hlw := sw.len
  refine loop_rule (n0 := 3000) (fun qq s => ∃ ts H' N', ∃ i : Nat, s = ⟨ts, H', N'⟩ ∧ KHl v2 hm_ m y i ts ∧ good B H' N' ∧ Fr H H' ∧ i ≤ Y.length ∧ qq = Y.length - i) _ ?_ Y.length _ ⟨ts, H, N, 0, rfl, kp, hN, Fr.refl, by omega, rfl⟩ _ hF
  clear kp hF F ts hN N
  rintro z qq s ⟨ts, H1, N1, i, rfl, kp, g, fk, hi, rfl⟩
  obtain ⟨hB, hR, hI⟩ := gX g
  have lm1 := fk _ _ lm
  have ly1 := fk _ _ ly
  have rm := rN bm
  have ry := rN by_
  have nm := ne_N g lm1
  have ny := ne_N g ly1
  have hc1 : ((i + 1 : Nat) : Int) = (i : Int) + 1 := by omega
  by_cases hin : i < Y.length
  case neg =>
    have h1' : ¬ (i : Int) < (Y.length : Int) := by omega
    simp (disch := omega) only [J115, hB, hR, hI, kp.l, kp.t9, kp.t13, kp.t14, kp.t20, kp.t25, kp.t27, lm1, bm, rm, sm, h1', all1, ress, res1, retV, Value.cells, newsV_s, seval, eV]
    refine ok_some (.inr ⟨by simp, rfl, i, ⟨?_, ?_, ?_, ?_, ?_, ?_, ?_⟩⟩)
    all_goals simp (disch := omega) only [kp.l, kp.t9, kp.t13, kp.t14, kp.t20, kp.t25, kp.t27, Int.cast_ofNat_Int, decide_true, ev2, seval, ev5]
  have hin' : (i : Int) < (Y.length : Int) := by omega
  have i0 : (0 : Int) ≤ (i : Int) := by omega
  have hqi := hq i hin
  obtain ⟨bq, oq, cq, hvy, _, rq⟩ := sy.at (by omega)
  by_cases hh : hm_ ≤ i
  · rw [if_pos hh] at hqi
    have hk : i - hm_ < w.length := by omega
    have hge : (i : Int) ≥ (hm_ : Int) := by omega
    have x1 : IntKind.i64.wrap ((i : Int) - (hm_ : Int)) = ((i - hm_ : Nat) : Int) := by rw [IntWalk.i64_in _ (by omega)]; omega
    have x2 : (0 : Int) ≤ ((i - hm_ : Nat) : Int) := by omega
    obtain ⟨bw, ow, cw, rfl, _, rw_⟩ := sw.at (by omega)
    have hg2 : Fr H ((N1.n 0, .cells [.int .u64 0, .int .i64 0] 2) :: H1) := fr_new g fk 0
    have r1 : rdO ((N1.n 0, .cells [.int .u64 0, .int .i64 0] 2) :: H1) B bw (ow + (i - hm_)) 1 (rdB B bw (ow + (i - hm_)) 1) = some [.int .u64 (w.getD (i - hm_) 0)] := by
      have := rw_ _ hg2 (i - hm_) 0 1 0 hk (by omega)
      rw [Nat.add_zero, Nat.mul_one] at this
      exact this.trans rfl
    generalize w.getD (i - hm_) 0 = wk at *
    have r2 : rdO ((N1.n 0, .cells [.int .u64 wk, .int .i64 0] 2) :: H1) B bq (oq + i * 2) 2 (rdB B bq (oq + i * 2) 2) = some [.int .u64 wk, .int .i64 0] := (rq _ (fr_new g fk 0) i 0 2 z2 hin (by omega)).trans (by rw [hqi]; rfl)
    subst hvy
    simp (disch := omega) only [J115, hB, hR, hI, kp.l, kp.t9, kp.t13, kp.t14, kp.t20, kp.t25, kp.t27, lm1, ly1, bm, rm, by_, ry, nm, ny, sm, hin, hin', i0, hge, x1, x2, hk, r1, r2, Nat.mul_one, bne_self_eq_false, all1, ress, res1, retV, Value.cells, newsV_s, seval, eV]
    refine ok_some (.inl ⟨rfl, Y.length - (i + 1), by omega, _, _, _, i + 1, rfl, ⟨?_, ?_, ?_, ?_, ?_, ?_, ?_⟩, good_new g, fr_new g fk 0, by omega, rfl⟩)
    all_goals simp (disch := omega) only [kp.l, kp.t9, kp.t13, kp.t14, kp.t20, kp.t25, kp.t27, hc1, Int.cast_ofNat_Int, decide_true, ev2, seval, ev5]
  · rw [if_neg hh] at hqi
    have hge : ¬ (i : Int) ≥ (hm_ : Int) := by omega
    have r2 : rdO ((N1.n 0, .cells [.int .u64 0, .int .i64 0] 2) :: H1) B bq (oq + i * 2) 2 (rdB B bq (oq + i * 2) 2) = some [.int .u64 0, .int .i64 0] := (rq _ (fr_new g fk 0) i 0 2 z2 hin (by omega)).trans (by rw [hqi]; rfl)
    subst hvy
    simp (disch := omega) only [J115, hB, hR, hI, kp.l, kp.t9, kp.t13, kp.t14, kp.t20, kp.t25, kp.t27, lm1, ly1, bm, rm, by_, ry, nm, ny, sm, hin, hin', i0, hge, r2, Nat.mul_one, bne_self_eq_false, all1, ress, res1, retV, Value.cells, newsV_s, seval, eV]
    refine ok_some (.inl ⟨rfl, Y.length - (i + 1), by omega, _, _, _, i + 1, rfl, ⟨?_, ?_, ?_, ?_, ?_, ?_, ?_⟩, good_new g, fr_new g fk 0, by omega, rfl⟩)
    all_goals simp (disch := omega) only [kp.l, kp.t9, kp.t13, kp.t14, kp.t20, kp.t25, kp.t27, hc1, Int.cast_ofNat_Int, decide_true, ev2, seval, ev5]
end Go.Proofs.YtfhiplfagejfoaaDoor
namespace Go.Proofs.YtfhiplfagejfoaaDoor
open Go.Proofs.YtfhiplfagejfoaaDoor.K Go.ChangeShapes Go.WideShapes Go.ChangeAt Go.RowKit 
set_option maxRecDepth 100000
set_option linter.unusedSimpArgs false
set_option linter.unusedVariables false
theorem J116 : Said (an @TlO.eq_1 <| an @LlO.eq_1 <| an @GlO_10 <| an @V10_eq <| an @GlO_diffOf <| an @GlO_lWo <| an @GlO_law16Conf <| an @Vlaw16Conf_eq <| an @GlO_lH <| an @GlO_lA <| an @GlO_law16pick <| an @Vlaw16pick_eq <| an @GlO_ref03New <| an @GlO_ref04Size <| an @Vref04Size_eq <| an @GlO_gL <| an @GlO_gP <| an @GlO_gW <| trivial) := said_ok _
set_option maxHeartbeats 16000000 in
theorem lvHome {B : OH} {H : HL} {N : St} {vr vr2 : Value} {raw raw2 : List Q3} {a b c xp : Int} (hT : Tab B) (hN : good B H N) (hr : SlR q3 3 B H vr raw) (hrs : Q3s raw) (hr2 : SlR q3 3 B H vr2 raw2) (hrs2 : Q3s raw2) (ha : i64R a) (hb : i64R b) (hc : i64R c) (hx : i64R xp) : ∃ H' N', TlO B [.agg #[.int .i64 a, .int .i64 b, .int .i64 c], vr, vr2, .int .i64 xp] H N = some (.ret (.bool true), H', N') := by
  obtain ⟨hB, hR, hI⟩ := gX hN
  have hG : ∃ H N, good B H N := ⟨H, N, hN⟩
  obtain ⟨kk, p, cc, h, ek, ep, ec, C, hp, hcc⟩ := conf_cf a b c
  have eC := fConf hG ha hb hc
  rw [ek, ep, ec] at eC
  have ePk := fpick hG xp (p : Int) hx (by have := C.p; omega)
  have kPk := pk_b (x := xp) (n := (p : Int)) (by have := C.p; omega)
  obtain ⟨q, hq⟩ : ∃ q : Nat, pk xp (p : Int) = (q : Int) := ⟨_, (Int.toNat_of_nonneg kPk.1).symm⟩
  rw [hq] at ePk kPk
  have hqp : q < p := by omega
  have eA := f10c4 hG hT C
  have eS := rSize hG C
  have h5 := bs5_b C
  have h6 : bs p h 4 + h = bs p h 5 := by rw [bs_5, bs_4]
  have hh := C.h
  have hok_ := fun A1 A2 => df_ok C A1 A2
  have hlong_ := fun A1 A2 => dfL_len A1 A2 ((bs p h 4 : Nat) : Int) h
  have g1 : good B ((N.n 0, .cells [.int .i64 a, .int .i64 b, .int .i64 c] 3) :: H) (sh N) := good_new (N := N) hN
  have f1 : Fr H ((N.n 0, .cells [.int .i64 a, .int .i64 b, .int .i64 c] 3) :: H) := fr_new (N := N) hN Fr.refl 0
  have hr := hr.mono f1
  have hr2 := hr2.mono f1
  have q_n : lk ((N.n 0, .cells [.int .i64 a, .int .i64 b, .int .i64 c] 3) :: H) (N.n 0) = some (.cells [.int .i64 a, .int .i64 b, .int .i64 c] 3) := lk_top
  have b_n : B (N.n 0) = none := good_B hN 0
  have rb_n := rN b_n
  obtain ⟨H2, N2, e2, g2, f2⟩ := fAwake hT g1
  have q_n := f2 _ _ q_n
  have hr := hr.mono f2
  have hr2 := hr2.mono f2
  have q_n2 := q_n
  have m_n2 := ne_N g2 q_n2
  have hB2 := good_B g2
  have hR2 := good_rdB g2
  have hI2 := beqN g2.1.1
  have g3 : good B ((N2.n 0, .cells [.int .i64 (kk : Int), .int .i64 (p : Int), .int .i64 (cc : Int)] 3) :: H2) (sh N2) := good_new (N := N2) g2
  have f3 : Fr H2 ((N2.n 0, .cells [.int .i64 (kk : Int), .int .i64 (p : Int), .int .i64 (cc : Int)] 3) :: H2) := fr_new (N := N2) g2 Fr.refl 0
  have q_n := f3 _ _ q_n
  have hr := hr.mono f3
  have hr2 := hr2.mono f3
  have q_c : lk ((N2.n 0, .cells [.int .i64 (kk : Int), .int .i64 (p : Int), .int .i64 (cc : Int)] 3) :: H2) (N2.n 0) = some (.cells [.int .i64 (kk : Int), .int .i64 (p : Int), .int .i64 (cc : Int)] 3) := lk_top
  have b_c : B (N2.n 0) = none := good_B g2 0
  have rb_c := rN b_c
  obtain ⟨v1, A1, H4, N4, e4, g4, f4, s1, hM1, hu1⟩ := xWords C hr hrs g3
  have q_n := f4 _ _ q_n
  have q_c := f4 _ _ q_c
  have hr := hr.mono f4
  have hr2 := hr2.mono f4
  have q_n4 := q_n
  have m_n4 := ne_N g4 q_n4
  have q_c4 := q_c
  have m_c4 := ne_N g4 q_c4
  have hB4 := good_B g4
  have hR4 := good_rdB g4
  have hI4 := beqN g4.1.1
  have s1 := s1.wh w1_len
  obtain ⟨v2, A2, H5, N5, e5, g5, f5, s2, hM2, hu2⟩ := xWords C hr2 hrs2 g4
  have q_n := f5 _ _ q_n
  have q_c := f5 _ _ q_c
  have hr := hr.mono f5
  have hr2 := hr2.mono f5
  have s1 := s1.mono f5
  have q_n5 := q_n
  have m_n5 := ne_N g5 q_n5
  have q_c5 := q_c
  have m_c5 := ne_N g5 q_c5
  have hB5 := good_B g5
  have hR5 := good_rdB g5
  have hI5 := beqN g5.1.1
  have s2 := s2.wh w1_len
  obtain ⟨vl, H6, N6, e6, g6, f6, sl⟩ := xOf (x := ((bs p h 4 : Nat) : Int)) g5 s1 s2 (by omega) (by omega) ⟨by omega, by omega⟩
  have q_n := f6 _ _ q_n
  have q_c := f6 _ _ q_c
  have hr := hr.mono f6
  have hr2 := hr2.mono f6
  have s1 := s1.mono f6
  have s2 := s2.mono f6
  have q_n6 := q_n
  have m_n6 := ne_N g6 q_n6
  have q_c6 := q_c
  have m_c6 := ne_N g6 q_c6
  have hB6 := good_B g6
  have hR6 := good_rdB g6
  have hI6 := beqN g6.1.1
  rw [hM2] at sl
  have sl := sl.rd w2_len
  have hok := hok_ A1 A2
  have hlong : ¬ h + 2 * p < (dfL A1 A2 ((bs p h 4 : Nat) : Int) h).length := by have := hlong_ A1 A2; omega
  obtain ⟨vb, H7, N7, e7, g7, f7, sb⟩ := fPack hT C g6 sl (df_s C hu2)
  have q_n := f7 _ _ q_n
  have q_c := f7 _ _ q_c
  have hr := hr.mono f7
  have hr2 := hr2.mono f7
  have s1 := s1.mono f7
  have s2 := s2.mono f7
  have sl := sl.mono f7
  have q_n7 := q_n
  have m_n7 := ne_N g7 q_n7
  have q_c7 := q_c
  have m_c7 := ne_N g7 q_c7
  have hB7 := good_B g7
  have hR7 := good_rdB g7
  have hI7 := beqN g7.1.1
  rw [packE_ok hlong hok, if_pos rfl] at *
  have sb := sb.rd w1_len
  have s1x := s1
  have s2x := s2
  have sbx := sb
  have q_cx := q_c
  obtain ⟨vm, H8, N8, e8, g8, f8, sm⟩ := mnew g7 (n := bs p h 5) (by omega)
  have q_n := f8 _ _ q_n
  have q_c := f8 _ _ q_c
  have hr := hr.mono f8
  have hr2 := hr2.mono f8
  have s1 := s1.mono f8
  have s2 := s2.mono f8
  have sl := sl.mono f8
  have sb := sb.mono f8
  have q_n8 := q_n
  have m_n8 := ne_N g8 q_n8
  have q_c8 := q_c
  have m_c8 := ne_N g8 q_c8
  have hB8 := good_B g8
  have hR8 := good_rdB g8
  have hI8 := beqN g8.1.1
  obtain ⟨bM, cM, rfl, bbM, l0M, hleM, lkM⟩ : ∃ b cap, vm = .slice (some ⟨b, 0, none⟩) (bs p h 5) cap ∧ B b = none ∧ lk H7 b = none ∧ bs p h 5 ≤ cap ∧ lk H8 b = some (.cells (fl c2 (List.replicate (bs p h 5) z2)) (cap * 2)) := by
    rcases sm with ⟨h0, _⟩ | ⟨b, cap, h1, h2, h3, h4, h5_⟩
    · have := congrArg List.length h0
      rw [List.length_replicate] at this; simp at this; omega
    · rw [List.length_replicate] at h1 h4
      exact ⟨b, cap, h1, h2, h3, h4, h5_⟩
  have neM := ne_N g8 lkM
  have neM_ := ne_N' g8 lkM
  have g9 : good B ((N8.n 0, .cells [.slice (some ⟨bM, 0, none⟩) (bs p h 5) cM] 1) :: H8) (sh N8) := good_new (N := N8) g8
  have f9 : Fr H8 ((N8.n 0, .cells [.slice (some ⟨bM, 0, none⟩) (bs p h 5) cM] 1) :: H8) := fr_new (N := N8) g8 Fr.refl 0
  have q_n := f9 _ _ q_n
  have q_c := f9 _ _ q_c
  have hr := hr.mono f9
  have hr2 := hr2.mono f9
  have s1 := s1.mono f9
  have s2 := s2.mono f9
  have sl := sl.mono f9
  have sb := sb.mono f9
  have q_m : lk ((N8.n 0, .cells [.slice (some ⟨bM, 0, none⟩) (bs p h 5) cM] 1) :: H8) (N8.n 0) = some (.cells [.slice (some ⟨bM, 0, none⟩) (bs p h 5) cM] 1) := lk_top
  have b_m : B (N8.n 0) = none := good_B g8 0
  have rb_m := rN b_m
  have fxm : Fr H7 ((N8.n 0, .cells [.slice (some ⟨bM, 0, none⟩) (bs p h 5) cM] 1) :: H8) := f8.trans f9
  have lkM2 := f9 _ _ lkM
  have hla := s1.len
  have hlb := s2.len
  rw [hM1] at hla
  rw [hM2] at hlb
  have c1 : ¬ ((bs p h 4 : Nat) : Int) < 0 := by omega
  have c2_ : ((bs p h 4 : Nat) : Int) + (h : Int) = ((bs p h 5 : Nat) : Int) := by omega
  have c3_ : IntKind.i64.wrap ((bs p h 5 : Nat) : Int) = ((bs p h 5 : Nat) : Int) := IntWalk.i64_in _ (by omega)
  simp (disch := omega) only [TlO, LlO, GlO_10, V10_eq, GlO_diffOf, GlO_lWo, GlO_law16Conf, Vlaw16Conf_eq, GlO_lH, GlO_lA, GlO_law16pick, Vlaw16pick_eq, GlO_ref03New, GlO_ref04Size, Vref04Size_eq, GlO_gL, GlO_gP, GlO_gW, hB, hR, hI, lenV_sl, Int.toNat_natCast, bft, btf, gtst, st_len, eC, ePk, eA, eS, hla, hlb, c1, c2_, c3_, b_n, rb_n, q_n2, m_n2, e2, hB2, hR2, hI2, b_c, rb_c, q_n4, m_n4, q_c4, m_c4, e4, hB4, hR4, hI4, q_n5, m_n5, q_c5, m_c5, e5, hB5, hR5, hI5, q_n6, m_n6, q_c6, m_c6, e6, hB6, hR6, hI6, q_n7, m_n7, q_c7, m_c7, e7, hB7, hR7, hI7, q_n8, m_n8, q_c8, m_c8, e8, hB8, hR8, hI8, b_m, rb_m, bne_self_eq_false, pad, e_skip, e_ops, e_draw, shg_n, shg_c, shg_g, shg_r, d_none, d_nil, d_cons, d_ite, h_none, h_nil, h_cons, h_ite, eqS_same, lightV, e_seq, e_cond, e_block, e_exit, e_ret, s_normal, s_ret, s_exit, s_none, s_ite, b_normal, b_ret, b_exit, b_none, b_ite, c_bool, x_none, x_nil, x_cons, x_ite, p_some, p_none, p_ite, pt_some, pt_none, pv_some, pv_none, pv_ite, w_none, w_some, i_bool, i_undef, bt, bf, v_tmp, v_const, v_global, v_func, evs, f_normal, f_ret, f_none, f_ite, r_some, co_some, l_ptr, m_agg, m_one, sh_app, lk_nil, lk_cons, rd_eq, rdO_some, rdO_none, rdN_none, rdL_some, rdL_none, wrB_none, unitR_some, wr_nil, wr_here, wr_skip, k_cells, tk_zero, tk_take, tk_skip, tkC_some, call_func, gt, st, binV, arith, isSh, storeV, all1, idxAV, fieldV, faddrV, iaddrSV, iaddrAV, pickV, convV, unV, eqbV, eqpV, extV, mm2, mmV, nilckV, ress, res1, retV, Value.cells, cond_true, cond_false, Bool.true_or, Bool.false_or, Bool.or_true, Bool.or_false, beq_self_eq_true, if_true, if_false, ite_true, ite_false, decide_true, decide_false, decide_eq_true_eq, Nat.zero_add, Nat.add_zero, and_self, true_and, and_true, List.size_toArray, List.length_cons, List.length_nil, List.append_nil, List.nil_append, Int.toNat_zero, Bool.not_false, Bool.not_true, Bool.not_not, Bool.false_eq_true, Bool.true_eq_false, IntWalk.i64_in, IntKind.bits, eqAV, eqL, leafEq, andO, fillV, buildSV, List.getElem?_toArray, List.getElem?_cons_zero, List.getElem?_cons_succ, List.getElem?_nil, Bool.true_and, Bool.and_true, Bool.false_and, Bool.and_false, Bool.and_self, IntWalk.u64_in, Int.cast_ofNat_Int, callF1, pad16, pad_0, pad_1, pad_2, pad_3, pad_4, pad_5, pad_6, pad_7, pad_8, pad_9, pad_10, pad_11, pad_12, pad_13, pad_14, pad_15, gc0, gc1, gc2, gc3, gc4, gc5, gc6, gc7, gc8, gc9, gc10, gc11, gc12, gc13, gc14, gc15, gcS, sc0, sc1, sc2, sc3, sc4, sc5, sc6, sc7, sc8, sc9, sc10, sc11, sc12, sc13, sc14, sc15, scS, List.drop_succ_cons, List.drop_nil, x_pan, s_pan, b_pan, pE_ret, pE_pan, pE_none, pE_ite, pvE_some, pvE_none, pvE_ite, rv_some, rv_none, rv_ite, oR_ret, t_mv, t_pick, t_alloc, t_box, t_build, t_buildS, t_load, t_store, t_nilck, t_bin, t_eqb, t_eqA, t_eqp, t_un, t_conv, t_field, t_idxA, t_faddr, t_iaddrS, t_iaddrA, t_ext, t_len, t_mm, t_call, t_ifc, t_fn, t_slc, t_slcA, t_slcT, t_tass, t_isn, t_mks, t_app, t_pan, panE_i, optE_none, optE_some, bnd_none, bnd_int, slA_none, slA_some, appR_some, appOld_cells, newsV_n, lenS_s, appV_nil, appV_some, mksV_i, sh_c, sh_g, f_pan, endD_ret, dfr_normal, dfr_ret, dfr_pan, restD_normal, callD1, callC1, tassV, isnV, slcV, slcAV, slcTV, slcB, appNew, Option.bind_some, Option.bind_none, d_pan, h_pan, wrH_eq, wrX_cells, wrU_some, upH_nil, upH_cons, lk_upH, effR_some, effR_none, effR_ite, Option.isNone_none, Option.isNone_some, slA_zero, call_yield, e_range, it_func, wy_same, y_call, isLp_self, beg_normal, end_normal, end_ret, end_exit, end_ite, aft_ret, aft_ready, aft_done, aft_exit, setP_cons, setP_nil, sh_r, t_mkmap, t_mlook, t_mupd, t_mdel, t_eqs, t_appZ, t_cpy, eqsV, mapF_some, lookF_some, setM_some, lookR_t, lookR_n, lookR_f, lookR_fn, lookV, mupdV, mdelV, mkM, seval]
  have main : ∀ (ts' : List Value), KHa (N2.n 0) q v1 v2 (bs p h 4) vb (N8.n 0) 0 ts' → ∀ F, 900000 ≤ F → Ok (exec B { f := GlO B } F (LC.loop lbHa) ⟨ts', ((N8.n 0, .cells [.slice (some ⟨bM, 0, none⟩) (bs p h 5) cM] 1) :: H8), (sh N8)⟩) (fun x s => x = .exit 0 ∧ good B s.H s.N ∧ (∀ y c', y ≠ bM → lk ((N8.n 0, .cells [.slice (some ⟨bM, 0, none⟩) (bs p h 5) cM] 1) :: H8) y = some c' → lk s.H y = some c') ∧ lk s.H bM = some (.cells (fl c2 (homeM p h A1) ++ []) (cM * 2)) ∧ KHa (N2.n 0) q v1 v2 (bs p h 4) vb (N8.n 0) h s.t) := fun ts' kp' F hF =>
    loopHa (Hx := H7) (M := List.replicate (bs p h 5) z2) (w := A1) (rest := []) (n := h) (b := bM) (cap := cM) (s1x.rd w1_len) hM1 fxm l0M (by rw [List.length_replicate]; omega) (by rw [List.length_replicate]; omega) g9 b_m bbM (by rw [List.length_replicate]; exact q_m) (by rw [List.append_nil]; exact lkM2) (fun e => by have := neM_ 0; rw [← e, beq_self_eq_true] at this; cases this) kp' (by omega)
  generalize hX : exec B _ _ (LC.loop _) _ = o
  obtain ⟨_, ⟨ts, H20, N20⟩, rfl, rfl, g20, fk20, lk20, kp⟩ := (show Ok o _ by rw [← hX]; exact main _ ⟨rfl, rfl, rfl, rfl, rfl, rfl, rfl, rfl, rfl, rfl⟩ _ (by omega))
  simp only at g20 fk20 lk20 kp
  clear main hX
  have cne : ∀ y c', lk H7 y = some c' → y ≠ bM := fun y c' e e' => by rw [e', l0M] at e; cases e
  have fx20 : Fr H7 H20 := fun y c' e => fk20 y c' (cne y c' e) (fxm y c' e)
  have q_c := fx20 _ _ q_cx
  have q_m := fk20 _ _ (fun e => by have := neM_ 0; rw [← e, beq_self_eq_true] at this; cases this) q_m
  have s2 := s2x.mono fx20
  have sb := sbx.mono fx20
  have hHl := homeM_len p h A1
  have smM : SlM c2 2 B H7 H20 (.slice (some ⟨bM, 0, none⟩) (bs p h 5) cM) (homeM p h A1) := .inr ⟨bM, cM, [], by rw [hHl], bbM, l0M, by rw [hHl]; exact hleM, lk20⟩
  have smW := smM.wh c2_len
  have hok := hok_ A1 A2
  have hlong : ¬ h + 2 * p < (dfL A1 A2 ((bs p h 4 : Nat) : Int) h).length := by have := hlong_ A1 A2; omega
  have hpl := packW_l (p := p) (h := h) (l := dfL A1 A2 ((bs p h 4 : Nat) : Int) h) (by omega)
  have hhA := lgA_home C hqp
  have hWl := withW_len (homeM p h A1) (lgA p h (q : Int)) (packW p h (dfL A1 A2 ((bs p h 4 : Nat) : Int) h)) (LG p h)
  have hHs : C2s (homeM p h A1) := withW_s (rep_c2s _) _ hu1 _
  have hWs := withW_s hHs (lgA p h (q : Int)) (packW_u C (df_s C hu2) hok (by omega)) (LG p h)
  obtain ⟨lE, lR⟩ := lay_ok C hqp (M := withW (homeM p h A1) (lgA p h (q : Int)) (packW p h (dfL A1 A2 ((bs p h 4 : Nat) : Int) h)) (LG p h)) (l := dfL A1 A2 ((bs p h 4 : Nat) : Int) h) (by omega) (by omega) hok (wdsL_with hpl (by omega))
  have q_c20 := q_c
  have m_c20 := ne_N g20 q_c20
  have q_m20 := q_m
  have m_m20 := ne_N g20 q_m20
  have hB20 := good_B g20
  have hR20 := good_rdB g20
  have hI20 := beqN g20.1.1
  simp (disch := omega) only [TlO, LlO, GlO_10, V10_eq, GlO_diffOf, GlO_lWo, GlO_law16Conf, Vlaw16Conf_eq, GlO_lH, GlO_lA, GlO_law16pick, Vlaw16pick_eq, GlO_ref03New, GlO_ref04Size, Vref04Size_eq, GlO_gL, GlO_gP, GlO_gW, hB, hR, hI, kp.l, kp.t9, kp.t10, kp.t11, kp.t12, kp.t13, kp.t14, kp.t18, kp.t20, kp.t22, lenV_sl, Int.toNat_natCast, bft, btf, gtst, st_len, b_c, rb_c, b_m, rb_m, q_c20, m_c20, q_m20, m_m20, hB20, hR20, hI20, pad, e_skip, e_ops, e_draw, shg_n, shg_c, shg_g, shg_r, d_none, d_nil, d_cons, d_ite, h_none, h_nil, h_cons, h_ite, eqS_same, lightV, e_seq, e_cond, e_block, e_exit, e_ret, s_normal, s_ret, s_exit, s_none, s_ite, b_normal, b_ret, b_exit, b_none, b_ite, c_bool, x_none, x_nil, x_cons, x_ite, p_some, p_none, p_ite, pt_some, pt_none, pv_some, pv_none, pv_ite, w_none, w_some, i_bool, i_undef, bt, bf, v_tmp, v_const, v_global, v_func, evs, f_normal, f_ret, f_none, f_ite, r_some, co_some, l_ptr, m_agg, m_one, sh_app, lk_nil, lk_cons, rd_eq, rdO_some, rdO_none, rdN_none, rdL_some, rdL_none, wrB_none, unitR_some, wr_nil, wr_here, wr_skip, k_cells, tk_zero, tk_take, tk_skip, tkC_some, call_func, gt, st, binV, arith, isSh, storeV, all1, idxAV, fieldV, faddrV, iaddrSV, iaddrAV, pickV, convV, unV, eqbV, eqpV, extV, mm2, mmV, nilckV, ress, res1, retV, Value.cells, cond_true, cond_false, Bool.true_or, Bool.false_or, Bool.or_true, Bool.or_false, beq_self_eq_true, if_true, if_false, ite_true, ite_false, decide_true, decide_false, decide_eq_true_eq, Nat.zero_add, Nat.add_zero, and_self, true_and, and_true, List.size_toArray, List.length_cons, List.length_nil, List.append_nil, List.nil_append, Int.toNat_zero, Bool.not_false, Bool.not_true, Bool.not_not, Bool.false_eq_true, Bool.true_eq_false, IntWalk.i64_in, IntKind.bits, eqAV, eqL, leafEq, andO, fillV, buildSV, List.getElem?_toArray, List.getElem?_cons_zero, List.getElem?_cons_succ, List.getElem?_nil, Bool.true_and, Bool.and_true, Bool.false_and, Bool.and_false, Bool.and_self, IntWalk.u64_in, Int.cast_ofNat_Int, callF1, pad16, pad_0, pad_1, pad_2, pad_3, pad_4, pad_5, pad_6, pad_7, pad_8, pad_9, pad_10, pad_11, pad_12, pad_13, pad_14, pad_15, gc0, gc1, gc2, gc3, gc4, gc5, gc6, gc7, gc8, gc9, gc10, gc11, gc12, gc13, gc14, gc15, gcS, sc0, sc1, sc2, sc3, sc4, sc5, sc6, sc7, sc8, sc9, sc10, sc11, sc12, sc13, sc14, sc15, scS, List.drop_succ_cons, List.drop_nil, x_pan, s_pan, b_pan, pE_ret, pE_pan, pE_none, pE_ite, pvE_some, pvE_none, pvE_ite, rv_some, rv_none, rv_ite, oR_ret, t_mv, t_pick, t_alloc, t_box, t_build, t_buildS, t_load, t_store, t_nilck, t_bin, t_eqb, t_eqA, t_eqp, t_un, t_conv, t_field, t_idxA, t_faddr, t_iaddrS, t_iaddrA, t_ext, t_len, t_mm, t_call, t_ifc, t_fn, t_slc, t_slcA, t_slcT, t_tass, t_isn, t_mks, t_app, t_pan, panE_i, optE_none, optE_some, bnd_none, bnd_int, slA_none, slA_some, appR_some, appOld_cells, newsV_n, lenS_s, appV_nil, appV_some, mksV_i, sh_c, sh_g, f_pan, endD_ret, dfr_normal, dfr_ret, dfr_pan, restD_normal, callD1, callC1, tassV, isnV, slcV, slcAV, slcTV, slcB, appNew, Option.bind_some, Option.bind_none, d_pan, h_pan, wrH_eq, wrX_cells, wrU_some, upH_nil, upH_cons, lk_upH, effR_some, effR_none, effR_ite, Option.isNone_none, Option.isNone_some, slA_zero, call_yield, e_range, it_func, wy_same, y_call, isLp_self, beg_normal, end_normal, end_ret, end_exit, end_ite, aft_ret, aft_ready, aft_done, aft_exit, setP_cons, setP_nil, sh_r, t_mkmap, t_mlook, t_mupd, t_mdel, t_eqs, t_appZ, t_cpy, eqsV, mapF_some, lookF_some, setM_some, lookR_t, lookR_n, lookR_f, lookR_fn, lookV, mupdV, mdelV, mkM, seval]
  generalize hX : exec B _ _ (LC.fork _ _) _ = o
  have main : ∀ (ts' : List Value), KHf (N2.n 0) q v2 (bs p h 4) (N8.n 0) (.slice (some ⟨bM, 0, none⟩) (bs p h 5) cM) vb kk p cc ts' → ∀ F, 1000 ≤ F → Ok (exec B { f := GlO B } F lbHf ⟨ts', H20, N20⟩) (fun r s => r = .normal ∧ good B s.H s.N ∧ Fr H20 s.H ∧ ∃ u vu, KHu (N2.n 0) q v2 (bs p h 4) (N8.n 0) u s.t ∧ B u = none ∧ lk s.H u = some (.cells [vu] 1) ∧ SlW c2 2 B s.H vu (lay (withW (homeM p h A1) (lgA p h (q : Int)) (packW p h (dfL A1 A2 ((bs p h 4 : Nat) : Int) h)) (LG p h)) (dfL A1 A2 ((bs p h 4 : Nat) : Int) h) (dfL A1 A2 ((bs p h 4 : Nat) : Int) h).length)) := fun ts' kp' F hF =>
    forkH hT C hqp smW hHl sb hpl hWs lE lR g20 b_c b_m q_c q_m kp' hF
  obtain ⟨_, ⟨ts2, H40, N40⟩, rfl, rfl, g40, f40, u, vu, kp2, bu, lu, su⟩ := (show Ok o _ by rw [← hX]; exact main _ (by constructor <;> simp (disch := omega) only [kp.l, kp.t9, kp.t10, kp.t11, kp.t12, kp.t13, kp.t14, kp.t18, kp.t20, kp.t22, Int.cast_ofNat_Int, decide_true, ev2, seval, ev5]) _ (by omega))
  simp only at g40 f40 kp2 lu su
  clear kp main hX
  have kp := kp2
  have hend := fun k hk => home_end C hqp (A := A1) (M := A2) (w := packW p h (dfL A1 A2 ((bs p h 4 : Nat) : Int) h)) (k := k) rfl hk
  have hUl : (lay (withW (homeM p h A1) (lgA p h (q : Int)) (packW p h (dfL A1 A2 ((bs p h 4 : Nat) : Int) h)) (LG p h)) (dfL A1 A2 ((bs p h 4 : Nat) : Int) h) (dfL A1 A2 ((bs p h 4 : Nat) : Int) h).length).length = bs p h 5 := by rw [lay_len, hWl, hHl]
  generalize lay (withW (homeM p h A1) (lgA p h (q : Int)) (packW p h (dfL A1 A2 ((bs p h 4 : Nat) : Int) h)) (LG p h)) (dfL A1 A2 ((bs p h 4 : Nat) : Int) h) (dfL A1 A2 ((bs p h 4 : Nat) : Int) h).length = UU at *
  obtain ⟨wE, wR, _, _⟩ := wipe_2 (p := p) (h := h) (q := (q : Int)) (M := UU) ⟨by omega, hUl⟩ (by omega)
  have q_c := f40 _ _ q_c
  have q_m := f40 _ _ q_m
  have q_u := lu
  have b_u := bu
  have rb_u := rN b_u
  have s2 := s2.mono f40
  have smW := smW.mono f40
  have q_c40 := q_c
  have m_c40 := ne_N g40 q_c40
  have q_m40 := q_m
  have m_m40 := ne_N g40 q_m40
  have q_u40 := q_u
  have m_u40 := ne_N g40 q_u40
  have hB40 := good_B g40
  have hR40 := good_rdB g40
  have hI40 := beqN g40.1.1
  obtain ⟨vy, H41, N41, e41, g41, f41, sy⟩ := fWipe hT C g40 su (by omega) (q := (q : Int))
  have q_c := f41 _ _ q_c
  have q_m := f41 _ _ q_m
  have q_u := f41 _ _ q_u
  have s2 := s2.mono f41
  have smW := smW.mono f41
  have su := su.mono f41
  have q_c41 := q_c
  have m_c41 := ne_N g41 q_c41
  have q_m41 := q_m
  have m_m41 := ne_N g41 q_m41
  have q_u41 := q_u
  have m_u41 := ne_N g41 q_u41
  have hB41 := good_B g41
  have hR41 := good_rdB g41
  have hI41 := beqN g41.1.1
  rw [wE, wR] at *
  have sy := sy.wh c2_len
  obtain ⟨ay, cy, rfl, _⟩ := id sy
  have g42 : good B ((N41.n 0, .cells [.slice ay (wiped UU (lgA p h (q : Int)) (LG p h)).length cy] 1) :: H41) (sh N41) := good_new (N := N41) g41
  have f42 : Fr H41 ((N41.n 0, .cells [.slice ay (wiped UU (lgA p h (q : Int)) (LG p h)).length cy] 1) :: H41) := fr_new (N := N41) g41 Fr.refl 0
  have q_c := f42 _ _ q_c
  have q_m := f42 _ _ q_m
  have q_u := f42 _ _ q_u
  have s2 := s2.mono f42
  have smW := smW.mono f42
  have su := su.mono f42
  have sy := sy.mono f42
  have q_y : lk ((N41.n 0, .cells [.slice ay (wiped UU (lgA p h (q : Int)) (LG p h)).length cy] 1) :: H41) (N41.n 0) = some (.cells [.slice ay (wiped UU (lgA p h (q : Int)) (LG p h)).length cy] 1) := lk_top
  have b_y : B (N41.n 0) = none := good_B g41 0
  have rb_y := rN b_y
  have hYl := wiped_len UU (lgA p h (q : Int)) (LG p h)
  have hly : ((( wiped UU (lgA p h (q : Int)) (LG p h)).length : Nat) : Int) = ((bs p h 5 : Nat) : Int) := by rw [hYl, hUl]
  have main : ∀ (ts' : List Value), KHl v2 (bs p h 4) (N8.n 0) (N41.n 0) 0 ts' → ∀ F, 900000 ≤ F → Ok (exec B { f := GlO B } F (LC.loop lbHl) ⟨ts', ((N41.n 0, .cells [.slice ay (wiped UU (lgA p h (q : Int)) (LG p h)).length cy] 1) :: H41), (sh N41)⟩) (fun r s => r = .exit 2 ∧ ∃ i, KHl v2 (bs p h 4) (N8.n 0) (N41.n 0) i s.t) := fun ts' kp' F hF =>
    loopHl (w := A2) (sy.rd c2_len) (by rw [lenV_sl]; rw [hly]) (s2.rd w1_len) (by omega) (by omega) (fun k hk => hend k (by omega)) g42 b_m b_y q_m q_y kp' (by omega)
  simp (disch := omega) only [TlO, LlO, GlO_10, V10_eq, GlO_diffOf, GlO_lWo, GlO_law16Conf, Vlaw16Conf_eq, GlO_lH, GlO_lA, GlO_law16pick, Vlaw16pick_eq, GlO_ref03New, GlO_ref04Size, Vref04Size_eq, GlO_gL, GlO_gP, GlO_gW, hB, hR, hI, kp.l, kp.t9, kp.t10, kp.t11, kp.t13, kp.t14, kp.t20, kp.t23, kp.t24, lenV_sl, Int.toNat_natCast, bft, btf, gtst, st_len, q_c40, m_c40, b_c, rb_c, q_m40, m_m40, b_m, rb_m, q_u40, m_u40, b_u, rb_u, hB40, hR40, hI40, q_c41, m_c41, q_m41, m_m41, q_u41, m_u41, e41, hB41, hR41, hI41, b_y, rb_y, hly, bne_self_eq_false, pad, e_skip, e_ops, e_draw, shg_n, shg_c, shg_g, shg_r, d_none, d_nil, d_cons, d_ite, h_none, h_nil, h_cons, h_ite, eqS_same, lightV, e_seq, e_cond, e_block, e_exit, e_ret, s_normal, s_ret, s_exit, s_none, s_ite, b_normal, b_ret, b_exit, b_none, b_ite, c_bool, x_none, x_nil, x_cons, x_ite, p_some, p_none, p_ite, pt_some, pt_none, pv_some, pv_none, pv_ite, w_none, w_some, i_bool, i_undef, bt, bf, v_tmp, v_const, v_global, v_func, evs, f_normal, f_ret, f_none, f_ite, r_some, co_some, l_ptr, m_agg, m_one, sh_app, lk_nil, lk_cons, rd_eq, rdO_some, rdO_none, rdN_none, rdL_some, rdL_none, wrB_none, unitR_some, wr_nil, wr_here, wr_skip, k_cells, tk_zero, tk_take, tk_skip, tkC_some, call_func, gt, st, binV, arith, isSh, storeV, all1, idxAV, fieldV, faddrV, iaddrSV, iaddrAV, pickV, convV, unV, eqbV, eqpV, extV, mm2, mmV, nilckV, ress, res1, retV, Value.cells, cond_true, cond_false, Bool.true_or, Bool.false_or, Bool.or_true, Bool.or_false, beq_self_eq_true, if_true, if_false, ite_true, ite_false, decide_true, decide_false, decide_eq_true_eq, Nat.zero_add, Nat.add_zero, and_self, true_and, and_true, List.size_toArray, List.length_cons, List.length_nil, List.append_nil, List.nil_append, Int.toNat_zero, Bool.not_false, Bool.not_true, Bool.not_not, Bool.false_eq_true, Bool.true_eq_false, IntWalk.i64_in, IntKind.bits, eqAV, eqL, leafEq, andO, fillV, buildSV, List.getElem?_toArray, List.getElem?_cons_zero, List.getElem?_cons_succ, List.getElem?_nil, Bool.true_and, Bool.and_true, Bool.false_and, Bool.and_false, Bool.and_self, IntWalk.u64_in, Int.cast_ofNat_Int, callF1, pad16, pad_0, pad_1, pad_2, pad_3, pad_4, pad_5, pad_6, pad_7, pad_8, pad_9, pad_10, pad_11, pad_12, pad_13, pad_14, pad_15, gc0, gc1, gc2, gc3, gc4, gc5, gc6, gc7, gc8, gc9, gc10, gc11, gc12, gc13, gc14, gc15, gcS, sc0, sc1, sc2, sc3, sc4, sc5, sc6, sc7, sc8, sc9, sc10, sc11, sc12, sc13, sc14, sc15, scS, List.drop_succ_cons, List.drop_nil, x_pan, s_pan, b_pan, pE_ret, pE_pan, pE_none, pE_ite, pvE_some, pvE_none, pvE_ite, rv_some, rv_none, rv_ite, oR_ret, t_mv, t_pick, t_alloc, t_box, t_build, t_buildS, t_load, t_store, t_nilck, t_bin, t_eqb, t_eqA, t_eqp, t_un, t_conv, t_field, t_idxA, t_faddr, t_iaddrS, t_iaddrA, t_ext, t_len, t_mm, t_call, t_ifc, t_fn, t_slc, t_slcA, t_slcT, t_tass, t_isn, t_mks, t_app, t_pan, panE_i, optE_none, optE_some, bnd_none, bnd_int, slA_none, slA_some, appR_some, appOld_cells, newsV_n, lenS_s, appV_nil, appV_some, mksV_i, sh_c, sh_g, f_pan, endD_ret, dfr_normal, dfr_ret, dfr_pan, restD_normal, callD1, callC1, tassV, isnV, slcV, slcAV, slcTV, slcB, appNew, Option.bind_some, Option.bind_none, d_pan, h_pan, wrH_eq, wrX_cells, wrU_some, upH_nil, upH_cons, lk_upH, effR_some, effR_none, effR_ite, Option.isNone_none, Option.isNone_some, slA_zero, call_yield, e_range, it_func, wy_same, y_call, isLp_self, beg_normal, end_normal, end_ret, end_exit, end_ite, aft_ret, aft_ready, aft_done, aft_exit, setP_cons, setP_nil, sh_r, t_mkmap, t_mlook, t_mupd, t_mdel, t_eqs, t_appZ, t_cpy, eqsV, mapF_some, lookF_some, setM_some, lookR_t, lookR_n, lookR_f, lookR_fn, lookV, mupdV, mdelV, mkM, seval]
  generalize hX : exec B _ _ (LC.loop _) _ = o
  obtain ⟨_, ⟨ts3, H50, N50⟩, rfl, rfl, i, kp3⟩ := (show Ok o _ by rw [← hX]; exact main _ (by constructor <;> simp (disch := omega) only [kp.l, kp.t9, kp.t10, kp.t11, kp.t13, kp.t14, kp.t20, kp.t23, kp.t24, Int.cast_ofNat_Int, decide_true, ev2, seval, ev5]) _ (by omega))
  simp only at kp3
  clear kp main
  have kp := kp3
  simp (disch := omega) only [J116, hB, hR, hI, kp.l, kp.t9, kp.t13, kp.t14, kp.t20, kp.t25, kp.t27, all1, ress, res1, retV, Value.cells, newsV_s, seval, eV]
  exact ⟨_, _, rfl⟩
end Go.Proofs.YtfhiplfagejfoaaDoor
namespace Go.Proofs.YtfhiplfagejfoaaDoor
open Go.Proofs.YtfhiplfagejfoaaDoor.K Go.ChangeShapes Go.WideShapes Go.ChangeAt Go.RowKit
set_option maxRecDepth 100000
set_option linter.unusedSimpArgs false
set_option linter.unusedVariables false
theorem three_of : ∀ (L : List (List Lit)), (∀ m ∈ L, OKs [.int .i64, .int .i64, .int .i64] m) → ∃ K : List Q3, K.length = L.length ∧ fl (fun m => m.map litV) L = fl q3 K ∧ Q3s K
  | [], _ => ⟨[], rfl, rfl, by unfold Q3s; simp⟩
  | x :: L, h => by
    obtain ⟨K, h1, h2, h3⟩ := three_of L fun m hm => h m (List.mem_cons_of_mem _ hm)
    have k0 := h x List.mem_cons_self
    obtain ⟨a0, m1, rfl, w0, k1⟩ := k0.int
    have b0 := i64_wf w0
    obtain ⟨a1, m2, rfl, w1, k2⟩ := k1.int
    have b1 := i64_wf w1
    obtain ⟨a2, m3, rfl, w2, k3⟩ := k2.int
    have b2 := i64_wf w2
    obtain rfl := k3.none
    refine ⟨⟨a0, a1, a2⟩ :: K, by simp [h1], ?_, fun y hy => ?_⟩
    · simp only [fl, h2]; rfl
    · rcases List.mem_cons.1 hy with rfl | hy
      · exact ⟨b0, b1, b2⟩
      · exact h3 y hy
theorem three_open {W : World} {v : Value} (h : v = .slice none 0 0 ∨ (∃ a cap, v = .slice (some a) 0 cap) ∨ ∃ (b o cap : Nat) (L : List (List Lit)), v = .slice (some ⟨b, o, none⟩) L.length cap ∧ 0 < L.length ∧ L.length ≤ cap ∧ cap ≤ maxLen ∧ (∀ m ∈ L, OKs [.int .i64, .int .i64, .int .i64] m) ∧
      ∀ m, m ≤ L.length → rdB (startB W) b o (m * [LK.int .i64, LK.int .i64, LK.int .i64].length) = some (fl (fun m => m.map litV) (L.take m))) : ∃ K : List Q3, SlC q3 3 (startB W) v K ∧ Q3s K := by
  rcases h with rfl | ⟨a, cap, rfl⟩ | ⟨b, o, cap, L, rfl, h1, h2, h3, h4, h5⟩
  · exact ⟨[], ⟨none, 0, rfl, Nat.le_refl _, .inl rfl⟩, by unfold Q3s; simp⟩
  · exact ⟨[], ⟨some a, cap, rfl, Nat.zero_le _, .inl rfl⟩, by unfold Q3s; simp⟩
  · obtain ⟨K, e1, e2, e3⟩ := three_of L h4
    have h6 := h5 L.length (Nat.le_refl _)
    rw [List.take_length, e2] at h6
    refine ⟨K, ⟨some ⟨b, o, none⟩, cap, by rw [e1], by rw [e1]; exact h2, .inr ⟨b, o, rfl, ?_⟩⟩, e3⟩
    rw [e1]; exact h6
end Go.Proofs.YtfhiplfagejfoaaDoor
namespace Go.Proofs.YtfhiplfagejfoaaDoor
open Go.Proofs.YtfhiplfagejfoaaDoor.K Go.ChangeShapes Go.WideShapes Go.ChangeAt Go.RowKit
set_option maxRecDepth 100000
set_option linter.unusedSimpArgs false
set_option linter.unusedVariables false

theorem gObj : Tryd.prog.globalNamed "whitewash/region.objects" = some 0 := by kernel_rfl
theorem gObjT : (Tryd.prog.globals[0]?).map (·.type) = some 129 := by kernel_rfl
theorem leafsObj : leafs Tryd.prog 12 129 = some [.int .i64, .int .i64, .int .i64, .int .i64, .int .i64, .int .i64, .int .i64, .int .i64, .int .i64, .int .i64, .int .i64, .int .i64] := by kernel_rfl
theorem tab {W : World} (h : laidMetH Tryd.prog Rows.wlogHomeRow.laid W) : Tab (startB W) := by
  obtain ⟨ps, hv, _⟩ := laidMet_of_H (by rfl) h
  obtain ⟨a1, e1, f1, h1, l1⟩ := laid_cells hv (n := "whitewash/region.objects") (x := Rows.laid_whitewash_region_objects) (by simp [Rows.wlogHomeRow]) 12 gObj gObjT leafsObj
  have hw : rdB (startB W) 0 0 12 = some OBJ := rdB_whole h1 l1 (by rfl)
  intro i hi
  have := rdB_sub (i := i * 2) (k := 2) hw (by omega)
  rwa [Nat.zero_add] at this
namespace wlogHome
theorem own : ownKnob Tryd.prog.godebug = none := by kernel_rfl
theorem laidOut : laidOutB Tryd.prog = true := by kernel_rfl
theorem typesOk : (Tryd.f7.params.toList.all fun t => Tryd.prog.readableRec t && decide (t < Tryd.prog.types.size)) = true := by kernel_rfl
theorem contract (H : Type) (enc : TypeId × Value → H) (W : World) (base : Nat) (args : Array Value) (ds gs : List (DataW H)) (before : List MemPlace)
    (hval : ∀ (j : Nat) t v, Tryd.f7.params[j]? = some t → args[j]? = some v → Value.okWide Tryd.prog W .any base t v)
    (hW : DataW.Whole enc Tryd.prog Tryd.f7.params.toList Rows.wlogHomeSpec.vars false W args.toList ds gs before) (hL : laidMetH Tryd.prog Rows.wlogHomeRow.laid W) :
    Calls Tryd.prog 7 args W fun e W' => ∃ v, e = .returned v ∧ Rows.wlogHomeSpec.post enc Tryd.prog Tryd.f7 false true false false W args v W' := by
  have hW' := hW
  obtain ⟨p, q, hA0, hV, hpq, hfz, hnd⟩ := hW
  have hA : DataW.TrodAll enc Tryd.prog W 0 (fun _ => true) true Tryd.f7.params.toList args.toList ds p := hA0
  rw [Tryd.params7] at hA hval
  obtain ⟨v0, vs0, d0, ds0, p0, q0, hargs, rfl, rfl, h0, r0⟩ := trodAll_cons hA
  obtain ⟨v1, vs1, d1, ds1, p1, q1, rfl, rfl, rfl, h1, r1⟩ := trodAll_cons r0
  obtain ⟨v2, vs2, d2, ds2, p2, q2, rfl, rfl, rfl, h2, r2⟩ := trodAll_cons r1
  obtain ⟨v3, vs3, d3, ds3, p3, q3, rfl, rfl, rfl, h3, r3⟩ := trodAll_cons r2
  obtain ⟨rfl, rfl, rfl⟩ := trodAll_nil r3
  obtain rfl : args = #[v0, v1, v2, v3] := by apply Array.ext'; simpa using hargs
  obtain ⟨rfl, rfl⟩ := trodVars_none hV
  obtain ⟨m0, rfl, k0⟩ := open_flat (P := Tryd.prog) 20 (show aggB Tryd.prog 22 = some true by kernel_rfl) (show leafs Tryd.prog 20 22 = some [.int .i64, .int .i64, .int .i64] by kernel_rfl) (hval 0 22 v0 rfl rfl) h0
  obtain ⟨x0_0, m0_0, rfl, w0_0, k0_1⟩ := k0.int
  have b0_0 := i64_wf w0_0
  obtain ⟨x0_1, m0_1, rfl, w0_1, k0_2⟩ := k0_1.int
  have b0_1 := i64_wf w0_1
  obtain ⟨x0_2, m0_2, rfl, w0_2, k0_3⟩ := k0_2.int
  have b0_2 := i64_wf w0_2
  obtain rfl := k0_3.none
  have s1 := open_flats (P := Tryd.prog) 20 Tryd.underlying29 (show leafs Tryd.prog 20 22 = some [.int .i64, .int .i64, .int .i64] by kernel_rfl) (show Tryd.prog.cellsOf 22 = 3 by kernel_rfl) (by decide) (hval 1 29 v1 rfl rfl) h1
  have s2 := open_flats (P := Tryd.prog) 20 Tryd.underlying29 (show leafs Tryd.prog 20 22 = some [.int .i64, .int .i64, .int .i64] by kernel_rfl) (show Tryd.prog.cellsOf 22 = 3 by kernel_rfl) (by decide) (hval 2 29 v2 rfl rfl) h2
  obtain ⟨x3, rfl, rfl, rfl, w3⟩ := open_int Tryd.underlying3 (hval 3 3 v3 rfl rfl) h3
  have b3 := i64_wf w3
  refine law_post laidOut (fun t ht => by simpa using List.all_eq_true.1 typesOk t ht) rfl (show Tryd.f7.resultTypes = #[4] by rfl) Tryd.underlying4 hW' rfl rfl rfl ?_
  obtain ⟨w, hw, hb⟩ := three_open s1
  obtain ⟨w2, hw2, hb2⟩ := three_open s2
  have hs := callF_sound (w0 := W) (B := startB W) mixedOrders sGlO 1000000 Tryd.func7 lowlO
  exact law_calls hs (args := [.agg #[.int .i64 x0_0, .int .i64 x0_1, .int .i64 x0_2], v1, v2, .int .i64 x3]) fun N hN => lvHome (tab hL) hN (hw.rd q3_len) hb (hw2.rd q3_len) hb2 b0_0 b0_1 b0_2 b3

noncomputable def laidWorld (os : Os) : World := laidW Tryd.prog os [(0, OBJ)]
theorem laid_met (os : Os) : laidMet Tryd.prog Rows.wlogHomeRow.laid ((laidWorld os).forCall (fun _ _ => 0) ⟨#[], #[.agg #[.int .i64 0, .int .i64 0, .int .i64 0], .slice none 0 0, .slice none 0 0, .int .i64 0], []⟩).memory :=
  laidMet_of_run' 16 (by kernel_rfl) (by kernel_rfl)
theorem reads (os : Os) {H : Type} (enc : TypeId × Value → H) : ∃ places, DataW.whole enc Tryd.prog ((laidWorld os).forCall (fun _ _ => 0) ⟨#[], #[.agg #[.int .i64 0, .int .i64 0, .int .i64 0], .slice none 0 0, .slice none 0 0, .int .i64 0], []⟩).memory Tryd.f7.params.toList Rows.wlogHomeSpec.vars false (#[.agg #[.int .i64 0, .int .i64 0, .int .i64 0], .slice none 0 0, .slice none 0 0, .int .i64 0] : Array Value).toList 16 = some ([.agg [.lit (.int .i64 0), .lit (.int .i64 0), .lit (.int .i64 0)], .nil, .nil, .lit (.int .i64 0)], [], places) :=
  ⟨[], by kernel_rfl⟩
theorem lifted (os : Os) (started : os.Started) (H : Type) (enc : TypeId × Value → H) (F : Stop.Interp) :
    ReturnsInHanded {} Tryd.checked os 7 .any ((OpenSpec.ofChange Rows.wlogHomeSpec).preRow enc Tryd.prog Tryd.f7 Rows.wlogHomeRow.domain false Rows.wlogHomeRow.laid) (((OpenSpec.ofChange Rows.wlogHomeSpec).at F).post enc Tryd.prog Tryd.f7 false true false false) := by
  obtain ⟨places, hx⟩ := reads os enc
  refine returnsInHanded_of_row (C := Tryd.checked) (s := OpenSpec.ofChange Rows.wlogHomeSpec) own started (by kernel_rfl) Tryd.func7
    (witness_row_at (enc := enc) (C := Tryd.checked) false (laidWorld os) #[.agg #[.int .i64 0, .int .i64 0, .int .i64 0], .slice none 0 0, .slice none 0 0, .int .i64 0] rfl (by kernel_rfl) (by kernel_rfl) (by kernel_rfl)
      (OpenSpec.preRow_of_cond 16 hx (by kernel_rfl) (fun k hk => by cases hk) (by kernel_rfl) (laid_met os))) ?_
  intro W base args ds gs before hval hW _ _ _ hL _ _
  exact contract H enc W base args ds gs before hval hW hL
theorem said : Rows.WlogHomeSaid :=
  OpenClaim.holds_of_cond 7 Tryd.f7 rfl rfl rfl rfl rfl rfl rfl ⟨rfl, rfl, rfl, rfl, rfl⟩ rfl rfl rfl rfl rfl (by kernel_rfl) Tryd.func7 (by kernel_rfl)
    (of_decide_eq_true (by kernel_rfl)) (by unfold Func.isWrapper; first | (rw [if_pos (by decide +kernel)]; kernel_rfl) | (rw [if_neg (by decide +kernel)]; exact ⟨rfl, rfl⟩))
    (fun os started H enc _ F => by rw [OpenClaim.pre_eq_preRow]; exact lifted os started H enc F)
theorem plain (f : FuncId) (fn : Func) (hf : Tryd.pinned.checked.prog.funcNamed "whitewash/whitewashlaw16.WlogHome" = some f) (hfn : Tryd.pinned.checked.prog.funcs[f]? = some fn) :
    true = Tryd.pinned.checked.prog.looks [] ∧ ∀ (j : Nat) t, fn.params[j]? = some t → Tryd.pinned.checked.prog.wantsStandIn t = false := by
  obtain rfl : f = 7 := Option.some.inj ((show Tryd.prog.funcNamed "whitewash/whitewashlaw16.WlogHome" = some 7 by kernel_rfl).symm.trans hf) |>.symm
  obtain rfl : fn = Tryd.f7 := (Option.some.inj (Tryd.func7.symm.trans hfn)).symm
  refine ⟨by kernel_rfl, fun j t ht => ?_⟩
  have hall : (Tryd.f7.params.toList.all fun t => !Tryd.prog.wantsStandIn t) = true := by kernel_rfl
  have := List.all_eq_true.1 hall t (by simpa using Array.mem_of_getElem? ht)
  show Tryd.prog.wantsStandIn t = false
  simpa using this
theorem card : Rows.WlogHomeCardSaid :=
  Claim7.holds_tied_plain_at .later [] _ _ _ _ said (fun _ h => by cases h) (by kernel_rfl) (fun _ h => by cases h) wlogHome_row_tie rfl ⟨rfl, rfl⟩ (by kernel_rfl) rfl plain (by kernel_rfl)
end wlogHome
end Go.Proofs.YtfhiplfagejfoaaDoor
