/- Own text: the last six steps of a call. -/
import Derived.Test.YtbpaekbjpapgeaaGreatDoorOwnB
set_option linter.unusedSimpArgs false
set_option linter.unusedVariables false
namespace Go.Proofs.YtbpaekbjpapgeaaGreatDoor
open Go.Proofs.YtbpaekbjpapgeaaGreatDoor.K Go.ChangeShapes Go.WideShapes Go.ChangeAt Go.RowKit 
set_option maxRecDepth 100000
set_option linter.unusedSimpArgs false
set_option linter.unusedVariables false

def Lrecwithin_uint64 : FnL := ⟨(.seq (.ops [oa 6 (.mv (.const (.bool false)))])
 (.seq (.ops [om 7 0,om 8 1,oa 9 (.bin .geq (ot 7) (ot 8)),om 10 9,ob 11 (.mv (ot 0)) 10 true,ob 12 (.mv (ot 2)) 10 true,ob 13 (.bin .leq (ot 11) (ot 12)) 10 true,oa 14 (.pick (ot 10) (ot 13) (.const (.bool false))),om 6 14])
 .ret)),
 15, [.tmp 6]⟩
theorem lowrecwithin_uint64 : lowerFn Tryz.prog Tryz.f214 = some Lrecwithin_uint64 := by kernel_rfl
noncomputable def Grecwithin_uint64 (B : OH) : Nat → Cs
  | _ => fun _ _ _ => none
theorem sGrecwithin_uint64 {w0 : World} {B : OH} : SoundG Tryz.prog w0 B { f := Grecwithin_uint64 B } := .of fun k => by
  unfold Grecwithin_uint64
  split
  · exact .inl fun _ _ _ => rfl
theorem enrecwithin_uint64 : Enter Tryz.prog 214 := .of Tryz.func214 (by kernel_rfl) (by kernel_rfl)
noncomputable def Trecwithin_uint64 (B : OH) : Cs := callF B { f := Grecwithin_uint64 B } 1000000 Lrecwithin_uint64
theorem sTrecwithin_uint64 {w0 : World} {B : OH} : SoundC Tryz.prog w0 B 214 (Trecwithin_uint64 B) := callF_sound mixedOrders sGrecwithin_uint64 1000000 Tryz.func214 lowrecwithin_uint64
noncomputable def Vrecwithin_uint64 (B : OH) : Cs := Trecwithin_uint64 B
theorem sVrecwithin_uint64 {w0 : World} {B : OH} : SoundC Tryz.prog w0 B 214 (Vrecwithin_uint64 B) := sTrecwithin_uint64
def tdV (f w : Int) : Value := if f ≤ 256 then .agg #[.int .i64 (f - 1), .int .u64 w] else .agg #[.int .i64 0, .int .u64 0]
def tdE (f : Int) : Int := if f ≤ 256 then 0 else 2
def LrecTold : FnL := ⟨(.seq (.ops [oa 1 (.box (ot 0)),oa 2 (.alloc [(.int .i64 0), (.int .u64 0)]),oa 3 (.mv (oi 0))])
 (.seq (.seq (.ops [oa 4 (.iaddrA 1 2 (ot 1) (oi 0)),ol 5 4,oa 6 (.call (.func 214) [(ot 5), (ou 1), (ou 256)]),oa 7 (.un .not (ot 6))])
 (.cond (ot 7) (.seq (.ops [oa 8 (.build [(.int .i64 0), (.int .u64 0)] []), oc (.store 2 (ot 2) (ot 8)),oa 3 (.mv (oi 2))])
 .ret)
 .skip))
 (.seq (.ops [oa 9 (.iaddrA 1 2 (ot 1) (oi 0)),ol 10 9,oa 11 (.bin .sub (ot 10) (ou 1)),oa 12 (.conv .i64 (ot 11)),oa 13 (.iaddrA 1 2 (ot 1) (oi 1)),ol 14 13,oa 15 (.build [(.int .i64 0), (.int .u64 0)] [(0, 1, (ot 12)), (1, 1, (ot 14))]), oc (.store 2 (ot 2) (ot 15)),oa 3 (.mv (oi 0))])
 .ret))),
 16, [.cell 2 true 2, .tmp 3]⟩
theorem lowrecTold : lowerFn Tryz.prog Tryz.f161 = some LrecTold := by kernel_rfl
noncomputable def GrecTold (B : OH) : Nat → Cs
  | 214 => Vrecwithin_uint64 B
  | _ => fun _ _ _ => none
theorem GrecTold_recwithin_uint64 {B : OH} : GrecTold B 214 = Vrecwithin_uint64 B := rfl
theorem sGrecTold {w0 : World} {B : OH} : SoundG Tryz.prog w0 B { f := GrecTold B } := .of fun k => by
  unfold GrecTold
  split
  · exact .inr ⟨enrecwithin_uint64, sVrecwithin_uint64⟩
  · exact .inl fun _ _ _ => rfl
theorem enrecTold : Enter Tryz.prog 161 := .of Tryz.func161 (by kernel_rfl) (by kernel_rfl)
noncomputable def TrecTold (B : OH) : Cs := callF B { f := GrecTold B } 1000000 LrecTold
theorem sTrecTold {w0 : World} {B : OH} : SoundC Tryz.prog w0 B 161 (TrecTold B) := callF_sound mixedOrders sGrecTold 1000000 Tryz.func161 lowrecTold
noncomputable def FrecTold (B : OH) : List Value → Option Value := kval B (TrecTold B)
noncomputable def VrecTold (B : OH) : Cs := fun a H N => pvE (FrecTold B a) H N
theorem VrecTold_eq {B : OH} {a : List Value} {H : HL} {N : St} : VrecTold B a H N = pvE (FrecTold B a) H N := rfl
theorem sVrecTold {w0 : World} {B : OH} : SoundC Tryz.prog w0 B 161 (VrecTold B) := sTrecTold.ofVal
theorem ptold {B : OH} (hG : ∃ H N, good B H N) {f w : Int} (hf : 1 ≤ f) (hu : u64R f) : FrecTold B [.agg #[.int .u64 f, .int .u64 w]] = some (.tuple #[tdV f w, .int .i64 (tdE f)]) := by
  refine kval_eq hG fun H N hN => ?_
  obtain ⟨hB, hR, hI⟩ := gX hN
  unfold u64R at hu
  unfold tdV tdE
  have c1 : f ≥ 1 := hf
  by_cases c2 : f ≤ 256
  · rw [if_pos c2, if_pos c2]
    simp (disch := omega) only [TrecTold, LrecTold, GrecTold_recwithin_uint64, Vrecwithin_uint64, Trecwithin_uint64, Lrecwithin_uint64, hB, hR, hI, c1, c2, all1, ress, res1, retV, Value.cells, newsV_s, e_fork, slcV, seval, eV]
    with_reducible refine done2 ?_
    repeat (first | refine ext_new hN ?_ | exact fun _ _ h => h)
  · rw [if_neg c2, if_neg c2]
    simp (disch := omega) only [TrecTold, LrecTold, GrecTold_recwithin_uint64, Vrecwithin_uint64, Trecwithin_uint64, Lrecwithin_uint64, hB, hR, hI, c1, c2, all1, ress, res1, retV, Value.cells, newsV_s, e_fork, slcV, seval, eV]
    with_reducible refine done2 ?_
    repeat (first | refine ext_new hN ?_ | exact fun _ _ h => h)
def LslicesClone_uint64uint64 : FnL := ⟨(.seq (.ops [oa 2 (.mv (.const (.slice none 0 0)))])
 (.seq (.seq (.ops [om 3 0,oa 4 (.eqs false (ot 3) (.const (.slice none 0 0)))])
 (.cond (ot 4) (.seq (.ops [oa 2 (.mv (.const (.slice none 0 0)))])
 .ret)
 .skip))
 (.seq (.ops [oa 5 (.buildS [] 0 []),om 6 0,oa 7 (.app [(.int .u64 0)] 8 (ot 5) (ot 6)),om 2 7])
 .ret))),
 8, [.tmp 2]⟩
theorem lowslicesClone_uint64uint64 : lowerFn Tryz.prog Tryz.f45 = some LslicesClone_uint64uint64 := by kernel_rfl
noncomputable def GslicesClone_uint64uint64 (B : OH) : Nat → Cs
  | _ => fun _ _ _ => none
theorem sGslicesClone_uint64uint64 {w0 : World} {B : OH} : SoundG Tryz.prog w0 B { f := GslicesClone_uint64uint64 B } := .of fun k => by
  unfold GslicesClone_uint64uint64
  split
  · exact .inl fun _ _ _ => rfl
theorem enslicesClone_uint64uint64 : Enter Tryz.prog 45 := .of Tryz.func45 (by kernel_rfl) (by kernel_rfl)
noncomputable def TslicesClone_uint64uint64 (B : OH) : Cs := callF B { f := GslicesClone_uint64uint64 B } 1000000 LslicesClone_uint64uint64
theorem sTslicesClone_uint64uint64 {w0 : World} {B : OH} : SoundC Tryz.prog w0 B 45 (TslicesClone_uint64uint64 B) := callF_sound mixedOrders sGslicesClone_uint64uint64 1000000 Tryz.func45 lowslicesClone_uint64uint64
noncomputable def VslicesClone_uint64uint64 (B : OH) : Cs := TslicesClone_uint64uint64 B
theorem sVslicesClone_uint64uint64 {w0 : World} {B : OH} : SoundC Tryz.prog w0 B 45 (VslicesClone_uint64uint64 B) := sTslicesClone_uint64uint64
def Lprocworkerto : FnL := ⟨(.seq (.ops [oa 5 (.box (ot 2))])
 (.seq (.draw [pm 6 1,pm 7 0,oe 8 (.nilck (ot 7)),pg 9 0 8,pg 10 1 9,oe 11 (.load true 3 (ot 10)),pm 12 0,oe 13 (.nilck (ot 12)),pg 14 0 13,pg 15 4 14,pl 16 15,pm 17 0,oe 18 (.nilck (ot 17)),pg 19 0 18,pg 20 5 19,pl 21 20,pg 22 0 5, ⟨oc (.store 1 (ot 22) (ot 6)), [oa 11 (.load true 3 (ot 10)),ol 16 15,ol 21 20]⟩,pg 23 1 5, ⟨oc (.store 3 (ot 23) (ot 11)), [ol 16 15,ol 21 20]⟩,pg 24 4 5, ⟨oc (.store 1 (ot 24) (ot 16)), [ol 21 20]⟩,pg 25 5 5, ⟨oc (.store 1 (ot 25) (ot 21)),[]⟩])
 (.ops [om 26 0,oa 27 (.load true 13 (ot 5)),oa 28 (.nilck (ot 26)),og 29 0 28, oc (.store 13 (ot 29) (ot 27))]))),
 30,[]⟩
theorem lowprocworkerto : lowerFn Tryz.prog Tryz.f142 = some Lprocworkerto := by kernel_rfl
noncomputable def Gprocworkerto (B : OH) : Nat → Cs
  | _ => fun _ _ _ => none
theorem sGprocworkerto {w0 : World} {B : OH} : SoundG Tryz.prog w0 B { f := Gprocworkerto B } := .of fun k => by
  unfold Gprocworkerto
  split
  · exact .inl fun _ _ _ => rfl
theorem enprocworkerto : Enter Tryz.prog 142 := .of Tryz.func142 (by kernel_rfl) (by kernel_rfl)
noncomputable def Tprocworkerto (B : OH) : Cs := callF B { f := Gprocworkerto B } 1000000 Lprocworkerto
theorem sTprocworkerto {w0 : World} {B : OH} : SoundC Tryz.prog w0 B 142 (Tprocworkerto B) := callF_sound mixedOrders sGprocworkerto 1000000 Tryz.func142 lowprocworkerto
noncomputable def Vprocworkerto (B : OH) : Cs := Tprocworkerto B
theorem sVprocworkerto {w0 : World} {B : OH} : SoundC Tryz.prog w0 B 142 (Vprocworkerto B) := sTprocworkerto
def Lprocworkerat : FnL := ⟨(.seq (.ops [oa 6 (.mv (oi 0))])
 (.seq (.ops [om 10 0,oa 11 (.nilck (ot 10)),og 12 13 11,oa 13 (.load true 3 (ot 12)),om 14 1,om 15 2,oa 16 (.call (.func 26) [(ot 13), (ot 14), (ot 15)]),om 9 16,oa 17 (.ext (ot 9) 0),oa 18 (.ext (ot 9) 1),om 7 17,om 8 18])
 (.seq (.ops [om 19 7,om 6 19])
 .ret))),
 20, [.tmp 6]⟩
theorem lowprocworkerat : lowerFn Tryz.prog Tryz.f141 = some Lprocworkerat := by kernel_rfl
noncomputable def Gprocworkerat (B : OH) : Nat → Cs
  | 26 => V10 B
  | _ => fun _ _ _ => none
theorem Gprocworkerat_10 {B : OH} : Gprocworkerat B 26 = V10 B := rfl
theorem sGprocworkerat {w0 : World} {B : OH} : SoundG Tryz.prog w0 B { f := Gprocworkerat B } := .of fun k => by
  unfold Gprocworkerat
  split
  · exact .inr ⟨en10, sV10⟩
  · exact .inl fun _ _ _ => rfl
theorem enprocworkerat : Enter Tryz.prog 141 := .of Tryz.func141 (by kernel_rfl) (by kernel_rfl)
noncomputable def Tprocworkerat (B : OH) : Cs := callF B { f := Gprocworkerat B } 1000000 Lprocworkerat
theorem sTprocworkerat {w0 : World} {B : OH} : SoundC Tryz.prog w0 B 141 (Tprocworkerat B) := callF_sound mixedOrders sGprocworkerat 1000000 Tryz.func141 lowprocworkerat
noncomputable def Vprocworkerat (B : OH) : Cs := Tprocworkerat B
theorem sVprocworkerat {w0 : World} {B : OH} : SoundC Tryz.prog w0 B 141 (Vprocworkerat B) := sTprocworkerat
def Lprocworkersay : FnL := ⟨(.seq (.draw [pm 8 0,oe 9 (.nilck (ot 8)),pg 10 16 9,pl 11 10,pm 12 0,pm 13 0,oe 14 (.nilck (ot 13)),pg 15 17 14,pl 16 15,pm 18 1,pm 20 2, ⟨oa 17 (.call (.func 141) [(ot 12), (oi 1), (ot 16)]), [ol 11 10]⟩,oe 19 (.bin .add (ot 17) (ot 18)),oe 21 (.call (.func 151) [(ot 11), (ot 19), (ot 20)])])
 (.ops [om 22 0,om 23 3,oa 24 (.build [(.int .i64 0), (.int .i64 0), (.int .u64 0), (.int .u64 0), (.int .u64 0), (.int .i64 0), (.int .i64 0), (.int .i64 0), (.int .i64 0), (.int .i64 0), (.int .u64 0), (.bool false), (.slice none 0 0)] []),oa 25 (.call (.func 142) [(ot 22), (ot 23), (ot 24)])])),
 26,[]⟩
theorem lowprocworkersay : lowerFn Tryz.prog Tryz.f139 = some Lprocworkersay := by kernel_rfl
noncomputable def Gprocworkersay (B : OH) : Nat → Cs
  | 151 => VcellsStore B
  | 141 => Vprocworkerat B
  | 142 => Vprocworkerto B
  | _ => fun _ _ _ => none
theorem Gprocworkersay_cellsStore {B : OH} : Gprocworkersay B 151 = VcellsStore B := rfl
theorem Gprocworkersay_procworkerat {B : OH} : Gprocworkersay B 141 = Vprocworkerat B := rfl
theorem Gprocworkersay_procworkerto {B : OH} : Gprocworkersay B 142 = Vprocworkerto B := rfl
theorem sGprocworkersay {w0 : World} {B : OH} : SoundG Tryz.prog w0 B { f := Gprocworkersay B } := .of fun k => by
  unfold Gprocworkersay
  split
  · exact .inr ⟨encellsStore, sVcellsStore⟩
  · exact .inr ⟨enprocworkerat, sVprocworkerat⟩
  · exact .inr ⟨enprocworkerto, sVprocworkerto⟩
  · exact .inl fun _ _ _ => rfl
theorem enprocworkersay : Enter Tryz.prog 139 := .of Tryz.func139 (by kernel_rfl) (by kernel_rfl)
noncomputable def Tprocworkersay (B : OH) : Cs := callF B { f := Gprocworkersay B } 1000000 Lprocworkersay
theorem sTprocworkersay {w0 : World} {B : OH} : SoundC Tryz.prog w0 B 139 (Tprocworkersay B) := callF_sound mixedOrders sGprocworkersay 1000000 Tryz.func139 lowprocworkersay
noncomputable def Vprocworkersay (B : OH) : Cs := Tprocworkersay B
theorem sVprocworkersay {w0 : World} {B : OH} : SoundC Tryz.prog w0 B 139 (Vprocworkersay B) := sTprocworkersay
def LprocworkerendCode : FnL := ⟨(.ops [om 2 0,oa 3 (.call (.func 139) [(ot 2), (oi 0), (ou 0), (oi 27)])]),
 4,[]⟩
theorem lowprocworkerendCode : lowerFn Tryz.prog Tryz.f99 = some LprocworkerendCode := by kernel_rfl
noncomputable def GprocworkerendCode (B : OH) : Nat → Cs
  | 139 => Vprocworkersay B
  | _ => fun _ _ _ => none
theorem GprocworkerendCode_procworkersay {B : OH} : GprocworkerendCode B 139 = Vprocworkersay B := rfl
theorem sGprocworkerendCode {w0 : World} {B : OH} : SoundG Tryz.prog w0 B { f := GprocworkerendCode B } := .of fun k => by
  unfold GprocworkerendCode
  split
  · exact .inr ⟨enprocworkersay, sVprocworkersay⟩
  · exact .inl fun _ _ _ => rfl
theorem enprocworkerendCode : Enter Tryz.prog 99 := .of Tryz.func99 (by kernel_rfl) (by kernel_rfl)
noncomputable def TprocworkerendCode (B : OH) : Cs := callF B { f := GprocworkerendCode B } 1000000 LprocworkerendCode
theorem sTprocworkerendCode {w0 : World} {B : OH} : SoundC Tryz.prog w0 B 99 (TprocworkerendCode B) := callF_sound mixedOrders sGprocworkerendCode 1000000 Tryz.func99 lowprocworkerendCode
noncomputable def VprocworkerendCode (B : OH) : Cs := TprocworkerendCode B
theorem sVprocworkerendCode {w0 : World} {B : OH} : SoundC Tryz.prog w0 B 99 (VprocworkerendCode B) := sTprocworkerendCode
def LprocworkerendKey : FnL := ⟨(.ops [om 2 0,oa 3 (.call (.func 139) [(ot 2), (oi 1), (ou 0), (oi 28)])]),
 4,[]⟩
theorem lowprocworkerendKey : lowerFn Tryz.prog Tryz.f100 = some LprocworkerendKey := by kernel_rfl
noncomputable def GprocworkerendKey (B : OH) : Nat → Cs
  | 139 => Vprocworkersay B
  | _ => fun _ _ _ => none
theorem GprocworkerendKey_procworkersay {B : OH} : GprocworkerendKey B 139 = Vprocworkersay B := rfl
theorem sGprocworkerendKey {w0 : World} {B : OH} : SoundG Tryz.prog w0 B { f := GprocworkerendKey B } := .of fun k => by
  unfold GprocworkerendKey
  split
  · exact .inr ⟨enprocworkersay, sVprocworkersay⟩
  · exact .inl fun _ _ _ => rfl
theorem enprocworkerendKey : Enter Tryz.prog 100 := .of Tryz.func100 (by kernel_rfl) (by kernel_rfl)
noncomputable def TprocworkerendKey (B : OH) : Cs := callF B { f := GprocworkerendKey B } 1000000 LprocworkerendKey
theorem sTprocworkerendKey {w0 : World} {B : OH} : SoundC Tryz.prog w0 B 100 (TprocworkerendKey B) := callF_sound mixedOrders sGprocworkerendKey 1000000 Tryz.func100 lowprocworkerendKey
noncomputable def VprocworkerendKey (B : OH) : Cs := TprocworkerendKey B
theorem sVprocworkerendKey {w0 : World} {B : OH} : SoundC Tryz.prog w0 B 100 (VprocworkerendKey B) := sTprocworkerendKey
def LprocworkerendVal : FnL := ⟨(.ops [om 2 0,oa 3 (.call (.func 139) [(ot 2), (oi 2), (ou 0), (oi 29)])]),
 4,[]⟩
theorem lowprocworkerendVal : lowerFn Tryz.prog Tryz.f101 = some LprocworkerendVal := by kernel_rfl
noncomputable def GprocworkerendVal (B : OH) : Nat → Cs
  | 139 => Vprocworkersay B
  | _ => fun _ _ _ => none
theorem GprocworkerendVal_procworkersay {B : OH} : GprocworkerendVal B 139 = Vprocworkersay B := rfl
theorem sGprocworkerendVal {w0 : World} {B : OH} : SoundG Tryz.prog w0 B { f := GprocworkerendVal B } := .of fun k => by
  unfold GprocworkerendVal
  split
  · exact .inr ⟨enprocworkersay, sVprocworkersay⟩
  · exact .inl fun _ _ _ => rfl
theorem enprocworkerendVal : Enter Tryz.prog 101 := .of Tryz.func101 (by kernel_rfl) (by kernel_rfl)
noncomputable def TprocworkerendVal (B : OH) : Cs := callF B { f := GprocworkerendVal B } 1000000 LprocworkerendVal
theorem sTprocworkerendVal {w0 : World} {B : OH} : SoundC Tryz.prog w0 B 101 (TprocworkerendVal B) := callF_sound mixedOrders sGprocworkerendVal 1000000 Tryz.func101 lowprocworkerendVal
noncomputable def VprocworkerendVal (B : OH) : Cs := TprocworkerendVal B
theorem sVprocworkerendVal {w0 : World} {B : OH} : SoundC Tryz.prog w0 B 101 (VprocworkerendVal B) := sTprocworkerendVal
def LprocworkerendLoad : FnL := ⟨(.seq (.draw [pm 5 0,oe 6 (.nilck (ot 5)),pg 7 16 6,pl 8 7,pm 9 0,pm 10 0,oe 11 (.nilck (ot 10)),pg 12 17 11,pl 13 12, ⟨oa 14 (.call (.func 141) [(ot 9), (oi 2), (ot 13)]), [ol 8 7]⟩,oe 15 (.bin .add (ot 14) (oi 1)),oe 16 (.call (.func 140) [(ot 8), (ot 15)]),pm 4 16,oe 17 (.ext (ot 4) 0),oe 18 (.ext (ot 4) 1),pm 2 17,pm 3 18])
 (.ops [om 19 0,om 20 2,oa 21 (.build [(.int .i64 0), (.int .i64 0), (.int .u64 0), (.int .u64 0), (.int .u64 0), (.int .i64 0), (.int .i64 0), (.int .i64 0), (.int .i64 0), (.int .i64 0), (.int .u64 0), (.bool false), (.slice none 0 0)] [(10, 1, (ot 20))]),oa 22 (.call (.func 142) [(ot 19), (oi 30), (ot 21)])])),
 23,[]⟩
theorem lowprocworkerendLoad : lowerFn Tryz.prog Tryz.f102 = some LprocworkerendLoad := by kernel_rfl
noncomputable def GprocworkerendLoad (B : OH) : Nat → Cs
  | 140 => VcellsLoad B
  | 141 => Vprocworkerat B
  | 142 => Vprocworkerto B
  | _ => fun _ _ _ => none
theorem GprocworkerendLoad_cellsLoad {B : OH} : GprocworkerendLoad B 140 = VcellsLoad B := rfl
theorem GprocworkerendLoad_procworkerat {B : OH} : GprocworkerendLoad B 141 = Vprocworkerat B := rfl
theorem GprocworkerendLoad_procworkerto {B : OH} : GprocworkerendLoad B 142 = Vprocworkerto B := rfl
theorem sGprocworkerendLoad {w0 : World} {B : OH} : SoundG Tryz.prog w0 B { f := GprocworkerendLoad B } := .of fun k => by
  unfold GprocworkerendLoad
  split
  · exact .inr ⟨encellsLoad, sVcellsLoad⟩
  · exact .inr ⟨enprocworkerat, sVprocworkerat⟩
  · exact .inr ⟨enprocworkerto, sVprocworkerto⟩
  · exact .inl fun _ _ _ => rfl
theorem enprocworkerendLoad : Enter Tryz.prog 102 := .of Tryz.func102 (by kernel_rfl) (by kernel_rfl)
noncomputable def TprocworkerendLoad (B : OH) : Cs := callF B { f := GprocworkerendLoad B } 1000000 LprocworkerendLoad
theorem sTprocworkerendLoad {w0 : World} {B : OH} : SoundC Tryz.prog w0 B 102 (TprocworkerendLoad B) := callF_sound mixedOrders sGprocworkerendLoad 1000000 Tryz.func102 lowprocworkerendLoad
noncomputable def VprocworkerendLoad (B : OH) : Cs := TprocworkerendLoad B
theorem sVprocworkerendLoad {w0 : World} {B : OH} : SoundC Tryz.prog w0 B 102 (VprocworkerendLoad B) := sTprocworkerendLoad
def LprocworkerendWord : FnL := ⟨(.seq (.draw [pm 2 0,oe 3 (.nilck (ot 2)),pg 4 16 3,pl 5 4,pm 6 0,pm 7 0,oe 8 (.nilck (ot 7)),pg 9 17 8,pl 10 9, ⟨oa 11 (.call (.func 141) [(ot 6), (oi 2), (ot 10)]), [ol 5 4]⟩,oe 12 (.bin .add (ot 11) (oi 1)),oe 13 (.call (.func 151) [(ot 5), (ot 12), (ou 0)])])
 (.ops [om 14 0,om 15 0,oa 16 (.nilck (ot 15)),og 17 0 16,og 18 10 17,ol 19 18,oa 20 (.build [(.int .i64 0), (.int .i64 0), (.int .u64 0), (.int .u64 0), (.int .u64 0), (.int .i64 0), (.int .i64 0), (.int .i64 0), (.int .i64 0), (.int .i64 0), (.int .u64 0), (.bool false), (.slice none 0 0)] [(10, 1, (ot 19))]),oa 21 (.call (.func 142) [(ot 14), (oi 31), (ot 20)])])),
 22,[]⟩
theorem lowprocworkerendWord : lowerFn Tryz.prog Tryz.f103 = some LprocworkerendWord := by kernel_rfl
noncomputable def GprocworkerendWord (B : OH) : Nat → Cs
  | 151 => VcellsStore B
  | 141 => Vprocworkerat B
  | 142 => Vprocworkerto B
  | _ => fun _ _ _ => none
theorem GprocworkerendWord_cellsStore {B : OH} : GprocworkerendWord B 151 = VcellsStore B := rfl
theorem GprocworkerendWord_procworkerat {B : OH} : GprocworkerendWord B 141 = Vprocworkerat B := rfl
theorem GprocworkerendWord_procworkerto {B : OH} : GprocworkerendWord B 142 = Vprocworkerto B := rfl
theorem sGprocworkerendWord {w0 : World} {B : OH} : SoundG Tryz.prog w0 B { f := GprocworkerendWord B } := .of fun k => by
  unfold GprocworkerendWord
  split
  · exact .inr ⟨encellsStore, sVcellsStore⟩
  · exact .inr ⟨enprocworkerat, sVprocworkerat⟩
  · exact .inr ⟨enprocworkerto, sVprocworkerto⟩
  · exact .inl fun _ _ _ => rfl
theorem enprocworkerendWord : Enter Tryz.prog 103 := .of Tryz.func103 (by kernel_rfl) (by kernel_rfl)
noncomputable def TprocworkerendWord (B : OH) : Cs := callF B { f := GprocworkerendWord B } 1000000 LprocworkerendWord
theorem sTprocworkerendWord {w0 : World} {B : OH} : SoundC Tryz.prog w0 B 103 (TprocworkerendWord B) := callF_sound mixedOrders sGprocworkerendWord 1000000 Tryz.func103 lowprocworkerendWord
noncomputable def VprocworkerendWord (B : OH) : Cs := TprocworkerendWord B
theorem sVprocworkerendWord {w0 : World} {B : OH} : SoundC Tryz.prog w0 B 103 (VprocworkerendWord B) := sTprocworkerendWord
def LprocworkerendFlag : FnL := ⟨(.seq (.draw [pm 2 0,oe 3 (.nilck (ot 2)),pg 4 16 3,pl 5 4,pm 6 0,pm 7 0,oe 8 (.nilck (ot 7)),pg 9 17 8,pl 10 9, ⟨oa 11 (.call (.func 141) [(ot 6), (oi 2), (ot 10)]), [ol 5 4]⟩,oe 12 (.call (.func 151) [(ot 5), (ot 11), (ou 0)])])
 (.seq (.draw [pm 14 0,pm 15 0,oe 16 (.nilck (ot 15)),pg 17 0 16,pg 18 4 17,pl 19 18,pm 20 0,oe 21 (.nilck (ot 20)),pg 22 0 21,pg 23 10 22,pl 24 23,oe 25 (.build [(.int .u64 0), (.int .u64 0)] [(0, 1, (ot 19)), (1, 1, (ot 24))]),oe 26 (.call (.func 161) [(ot 25)]),pm 13 26,oe 27 (.ext (ot 13) 0),oe 28 (.ext (ot 13) 1),oe 29 (.nilck (ot 14)),pg 30 18 29, ⟨oc (.store 2 (ot 30) (ot 27)),[]⟩])
 (.ops [om 31 0,om 32 0,oa 33 (.build [(.int .i64 0), (.int .i64 0), (.int .u64 0), (.int .u64 0), (.int .u64 0), (.int .i64 0), (.int .i64 0), (.int .i64 0), (.int .i64 0), (.int .i64 0), (.int .u64 0), (.bool false), (.slice none 0 0)] []),oa 34 (.nilck (ot 31)),og 35 20 34, oc (.store 1 (ot 35) (.const (.bool true))),oa 36 (.nilck (ot 32)),og 37 0 36, oc (.store 13 (ot 37) (ot 33))]))),
 38,[]⟩
theorem lowprocworkerendFlag : lowerFn Tryz.prog Tryz.f104 = some LprocworkerendFlag := by kernel_rfl
noncomputable def GprocworkerendFlag (B : OH) : Nat → Cs
  | 151 => VcellsStore B
  | 141 => Vprocworkerat B
  | 161 => VrecTold B
  | _ => fun _ _ _ => none
theorem GprocworkerendFlag_cellsStore {B : OH} : GprocworkerendFlag B 151 = VcellsStore B := rfl
theorem GprocworkerendFlag_procworkerat {B : OH} : GprocworkerendFlag B 141 = Vprocworkerat B := rfl
theorem GprocworkerendFlag_recTold {B : OH} : GprocworkerendFlag B 161 = VrecTold B := rfl
theorem sGprocworkerendFlag {w0 : World} {B : OH} : SoundG Tryz.prog w0 B { f := GprocworkerendFlag B } := .of fun k => by
  unfold GprocworkerendFlag
  split
  · exact .inr ⟨encellsStore, sVcellsStore⟩
  · exact .inr ⟨enprocworkerat, sVprocworkerat⟩
  · exact .inr ⟨enrecTold, sVrecTold⟩
  · exact .inl fun _ _ _ => rfl
theorem enprocworkerendFlag : Enter Tryz.prog 104 := .of Tryz.func104 (by kernel_rfl) (by kernel_rfl)
noncomputable def TprocworkerendFlag (B : OH) : Cs := callF B { f := GprocworkerendFlag B } 1000000 LprocworkerendFlag
theorem sTprocworkerendFlag {w0 : World} {B : OH} : SoundC Tryz.prog w0 B 104 (TprocworkerendFlag B) := callF_sound mixedOrders sGprocworkerendFlag 1000000 Tryz.func104 lowprocworkerendFlag
noncomputable def VprocworkerendFlag (B : OH) : Cs := TprocworkerendFlag B
theorem sVprocworkerendFlag {w0 : World} {B : OH} : SoundC Tryz.prog w0 B 104 (VprocworkerendFlag B) := sTprocworkerendFlag
def Lprocsteps : FnL := ⟨(.seq (.ops [oa 0 (.alloc [.nilFunc, .nilFunc, .nilFunc, .nilFunc, .nilFunc, .nilFunc, .nilFunc, .nilFunc, .nilFunc, .nilFunc, .nilFunc, .nilFunc, .nilFunc, .nilFunc, .nilFunc, .nilFunc, .nilFunc, .nilFunc, .nilFunc, .nilFunc, .nilFunc, .nilFunc, .nilFunc, .nilFunc, .nilFunc, .nilFunc, .nilFunc, .nilFunc, .nilFunc, .nilFunc, .nilFunc, .nilFunc])])
 (.seq (.ops [oa 1 (.build [.nilFunc, .nilFunc, .nilFunc, .nilFunc, .nilFunc, .nilFunc, .nilFunc, .nilFunc, .nilFunc, .nilFunc, .nilFunc, .nilFunc, .nilFunc, .nilFunc, .nilFunc, .nilFunc, .nilFunc, .nilFunc, .nilFunc, .nilFunc, .nilFunc, .nilFunc, .nilFunc, .nilFunc, .nilFunc, .nilFunc, .nilFunc, .nilFunc, .nilFunc, .nilFunc, .nilFunc, .nilFunc] [(1, 1, (.func 74)), (2, 1, (.func 75)), (3, 1, (.func 76)), (4, 1, (.func 77)), (5, 1, (.func 78)), (6, 1, (.func 79)), (7, 1, (.func 80)), (8, 1, (.func 81)), (9, 1, (.func 82)), (10, 1, (.func 83)), (11, 1, (.func 84)), (12, 1, (.func 85)), (13, 1, (.func 86)), (14, 1, (.func 87)), (15, 1, (.func 88)), (16, 1, (.func 89)), (17, 1, (.func 90)), (18, 1, (.func 91)), (19, 1, (.func 92)), (20, 1, (.func 93)), (21, 1, (.func 94)), (22, 1, (.func 95)), (23, 1, (.func 96)), (24, 1, (.func 97)), (25, 1, (.func 98)), (26, 1, (.func 99)), (27, 1, (.func 100)), (28, 1, (.func 101)), (29, 1, (.func 102)), (30, 1, (.func 103)), (31, 1, (.func 104))]), oc (.store 32 (ot 0) (ot 1))])
 .ret)),
 2, [.cell 0 true 32]⟩
theorem lowprocsteps : lowerFn Tryz.prog Tryz.f46 = some Lprocsteps := by kernel_rfl
noncomputable def Gprocsteps (B : OH) : Nat → Cs
  | _ => fun _ _ _ => none
theorem sGprocsteps {w0 : World} {B : OH} : SoundG Tryz.prog w0 B { f := Gprocsteps B } := .of fun k => by
  unfold Gprocsteps
  split
  · exact .inl fun _ _ _ => rfl
theorem enprocsteps : Enter Tryz.prog 46 := .of Tryz.func46 (by kernel_rfl) (by kernel_rfl)
noncomputable def Tprocsteps (B : OH) : Cs := callF B { f := Gprocsteps B } 1000000 Lprocsteps
theorem sTprocsteps {w0 : World} {B : OH} : SoundC Tryz.prog w0 B 46 (Tprocsteps B) := callF_sound mixedOrders sGprocsteps 1000000 Tryz.func46 lowprocsteps
noncomputable def Vprocsteps (B : OH) : Cs := Tprocsteps B
theorem sVprocsteps {w0 : World} {B : OH} : SoundC Tryz.prog w0 B 46 (Vprocsteps B) := sTprocsteps
def LprocStep : FnL := ⟨(.seq (.ops [oa 4 (.box (ot 0)),oa 7 (.box (ot 3)),oa 8 (.alloc [(.int .i64 0), (.int .i64 0), (.int .u64 0), (.int .u64 0), (.int .u64 0), (.int .i64 0), (.int .i64 0), (.int .i64 0), (.int .i64 0), (.int .i64 0), (.int .u64 0), (.bool false), (.slice none 0 0)]),oa 9 (.alloc [(.int .i64 0), (.int .u64 0)]),oa 10 (.mv (.const (.bool false))),oa 11 (.mv (oi 0))])
 (.seq (.block 0 (.seq (.ops [oa 14 (.load true 3 (ot 4)),oa 15 (.call (.func 34) [(ot 14)]),oa 16 (.un .not (ot 15)),om 13 16])
 (.cond (ot 13) (.seq (.ops [oa 17 (.build [(.int .i64 0), (.int .i64 0), (.int .u64 0), (.int .u64 0), (.int .u64 0), (.int .i64 0), (.int .i64 0), (.int .i64 0), (.int .i64 0), (.int .i64 0), (.int .u64 0), (.bool false), (.slice none 0 0)] []),oa 18 (.build [(.int .i64 0), (.int .u64 0)] []), oc (.store 13 (ot 8) (ot 17)), oc (.store 2 (ot 9) (ot 18)),oa 10 (.mv (.const (.bool false))),oa 11 (.mv (oi 5))])
 .ret)
 (.seq (.draw [pm 20 1,oe 21 (.eqp false (ot 20) (.const (.pointer none))),pm 22 21, ⟨ob 23 (.mv (ot 1)) 22 false,[]⟩,⟨ob 24 (.nilck (ot 23)) 22 false,[]⟩,⟨ob 25 (.faddr 0 (ot 24)) 22 false,[]⟩,⟨ob 26 (.load false 1 (ot 25)) 22 false,[]⟩,⟨ob 27 (.len false (ot 26)) 22 false,[]⟩,⟨ob 28 (.load true 3 (ot 4)) 22 false,[]⟩,⟨ob 29 (.call (.func 44) [(ot 28)]) 22 false, [ob 26 (.load false 1 (ot 25)) 22 false]⟩,⟨ob 30 (.bin .neq (ot 27) (ot 29)) 22 false,[]⟩,oe 31 (.pick (ot 22) (.const (.bool true)) (ot 30)),pm 32 31, ⟨ob 33 (.load true 3 (ot 4)) 32 false,[]⟩,⟨ob 34 (.mv (ot 2)) 32 false,[]⟩,⟨ob 35 (.load true 13 (ot 7)) 32 false,[]⟩,⟨ob 36 (.call (.func 14) [(ot 33), (ot 34), (ot 35)]) 32 false,[]⟩,⟨ob 37 (.un .not (ot 36)) 32 false,[]⟩,oe 38 (.pick (ot 32) (.const (.bool true)) (ot 37)),pm 19 38])
 (.cond (ot 19) (.seq (.ops [oa 39 (.build [(.int .i64 0), (.int .i64 0), (.int .u64 0), (.int .u64 0), (.int .u64 0), (.int .i64 0), (.int .i64 0), (.int .i64 0), (.int .i64 0), (.int .i64 0), (.int .u64 0), (.bool false), (.slice none 0 0)] []),oa 40 (.build [(.int .i64 0), (.int .u64 0)] []), oc (.store 13 (ot 8) (ot 39)), oc (.store 2 (ot 9) (ot 40)),oa 10 (.mv (.const (.bool false))),oa 11 (.mv (oi 1))])
 .ret)
 (.seq (.ops [og 42 0 7,ol 43 42,oa 44 (.bin .eql (ot 43) (oi 0)),om 41 44])
 (.cond (ot 41) (.seq (.ops [oa 45 (.load true 13 (ot 7)),oa 46 (.build [(.int .i64 0), (.int .u64 0)] []), oc (.store 13 (ot 8) (ot 45)), oc (.store 2 (ot 9) (ot 46)),oa 10 (.mv (.const (.bool false))),oa 11 (.mv (oi 0))])
 .ret)
 .skip)))))))
 (.seq (.ops [oa 47 (.load true 13 (ot 7)),oa 48 (.load true 3 (ot 4)),om 49 1,om 50 2,oa 51 (.build [(.int .i64 0), (.int .i64 0), (.int .u64 0), (.int .u64 0), (.int .u64 0), (.int .i64 0), (.int .i64 0), (.int .i64 0), (.int .i64 0), (.int .i64 0), (.int .u64 0), (.bool false), (.slice none 0 0), (.int .i64 0), (.int .i64 0), (.int .i64 0), (.pointer none), (.int .i64 0), (.int .i64 0), (.int .u64 0), (.bool false)] [(0, 13, (ot 47)), (13, 3, (ot 48)), (16, 1, (ot 49)), (17, 1, (ot 50))]),oa 12 (.alloc [(.int .i64 0), (.int .i64 0), (.int .u64 0), (.int .u64 0), (.int .u64 0), (.int .i64 0), (.int .i64 0), (.int .i64 0), (.int .i64 0), (.int .i64 0), (.int .u64 0), (.bool false), (.slice none 0 0), (.int .i64 0), (.int .i64 0), (.int .i64 0), (.pointer none), (.int .i64 0), (.int .i64 0), (.int .u64 0), (.bool false)]), oc (.store 21 (ot 12) (ot 51))])
 (.seq (.ops [og 52 12 7,ol 53 52,oa 54 (.call (.func 45) [(ot 53)]),og 55 0 12,og 56 12 55, oc (.store 1 (ot 56) (ot 54))])
 (.seq (.draw [pg 58 0 7,pl 59 58, ⟨oa 57 (.call (.func 46) []), [ol 59 58]⟩,oe 60 (.idxA false 1 32 (ot 57) (ot 59)),oe 61 (.call (ot 60) [(ot 12)])])
 (.seq (.draw [pg 62 0 12,oe 63 (.load true 13 (ot 62)),pg 64 18 12,oe 65 (.load true 2 (ot 64)),pg 66 20 12,pl 67 66, ⟨oc (.store 13 (ot 8) (ot 63)), [oa 65 (.load true 2 (ot 64)),ol 67 66]⟩,⟨oc (.store 2 (ot 9) (ot 65)), [ol 67 66]⟩,pm 10 67,oe 11 (.mv (oi 0))])
 .ret)))))),
 68, [.cell 8 true 13, .cell 9 true 2, .tmp 10, .tmp 11]⟩
theorem lowprocStep : lowerFn Tryz.prog Tryz.f20 = some LprocStep := by kernel_rfl
noncomputable def GprocStep (B : OH) : Nat → Cs
  | 34 => V13 B
  | 44 => V7 B
  | 14 => VprocRight B
  | 46 => Vprocsteps B
  | 99 => VprocworkerendCode B
  | 104 => VprocworkerendFlag B
  | 100 => VprocworkerendKey B
  | 102 => VprocworkerendLoad B
  | 101 => VprocworkerendVal B
  | 103 => VprocworkerendWord B
  | 45 => VslicesClone_uint64uint64 B
  | _ => fun _ _ _ => none
theorem GprocStep_13 {B : OH} : GprocStep B 34 = V13 B := rfl
theorem GprocStep_7 {B : OH} : GprocStep B 44 = V7 B := rfl
theorem GprocStep_procRight {B : OH} : GprocStep B 14 = VprocRight B := rfl
theorem GprocStep_procsteps {B : OH} : GprocStep B 46 = Vprocsteps B := rfl
theorem GprocStep_procworkerendCode {B : OH} : GprocStep B 99 = VprocworkerendCode B := rfl
theorem GprocStep_procworkerendFlag {B : OH} : GprocStep B 104 = VprocworkerendFlag B := rfl
theorem GprocStep_procworkerendKey {B : OH} : GprocStep B 100 = VprocworkerendKey B := rfl
theorem GprocStep_procworkerendLoad {B : OH} : GprocStep B 102 = VprocworkerendLoad B := rfl
theorem GprocStep_procworkerendVal {B : OH} : GprocStep B 101 = VprocworkerendVal B := rfl
theorem GprocStep_procworkerendWord {B : OH} : GprocStep B 103 = VprocworkerendWord B := rfl
theorem GprocStep_slicesClone_uint64uint64 {B : OH} : GprocStep B 45 = VslicesClone_uint64uint64 B := rfl
theorem sGprocStep {w0 : World} {B : OH} : SoundG Tryz.prog w0 B { f := GprocStep B } := .of fun k => by
  unfold GprocStep
  split
  · exact .inr ⟨en13, sV13⟩
  · exact .inr ⟨en7, sV7⟩
  · exact .inr ⟨enprocRight, sVprocRight⟩
  · exact .inr ⟨enprocsteps, sVprocsteps⟩
  · exact .inr ⟨enprocworkerendCode, sVprocworkerendCode⟩
  · exact .inr ⟨enprocworkerendFlag, sVprocworkerendFlag⟩
  · exact .inr ⟨enprocworkerendKey, sVprocworkerendKey⟩
  · exact .inr ⟨enprocworkerendLoad, sVprocworkerendLoad⟩
  · exact .inr ⟨enprocworkerendVal, sVprocworkerendVal⟩
  · exact .inr ⟨enprocworkerendWord, sVprocworkerendWord⟩
  · exact .inr ⟨enslicesClone_uint64uint64, sVslicesClone_uint64uint64⟩
  · exact .inl fun _ _ _ => rfl
theorem enprocStep : Enter Tryz.prog 20 := .of Tryz.func20 (by kernel_rfl) (by kernel_rfl)
noncomputable def TprocStep (B : OH) : Cs := callF B { f := GprocStep B } 1000000 LprocStep
theorem sTprocStep {w0 : World} {B : OH} : SoundC Tryz.prog w0 B 20 (TprocStep B) := callF_sound mixedOrders sGprocStep 1000000 Tryz.func20 lowprocStep
noncomputable def VprocStep (B : OH) : Cs := TprocStep B
theorem sVprocStep {w0 : World} {B : OH} : SoundC Tryz.prog w0 B 20 (VprocStep B) := sTprocStep

set_option maxHeartbeats 4000000 in
theorem st26 {B : OH} {H0 H : HL} {N : St} {v : Value} {L : List C2} {m i : Nat} (hN : good B H N) (hT : Tab B) {kk p cc h : Nat} (C : Cf kk p cc h) {q : Nat} (hq : q < p) (M : Mem B H0 H m v L) (hL : L.length = bs p h 5) {code key val flag ps ii n o a w : Int} {sm : Bool} (hc : 1 ≤ code ∧ code ≤ 255) (hf : flag ≠ 0) (hx : i = fr p h 1 q) (hi : i < L.length) :
    ∃ H' N', VprocStep B [.agg #[.int .i64 (kk : Int), .int .i64 (p : Int), .int .i64 (cc : Int)], .pointer (some ⟨m, 0, none⟩), .int .i64 (q : Int), .agg #[.int .i64 26, .int .i64 code, .int .u64 key, .int .u64 val, .int .u64 flag, .int .i64 0, .int .i64 0, .int .i64 0, .int .i64 0, .int .i64 0, .int .u64 0, .bool false, .slice none 0 0]] H N = some (.ret (.tuple #[.agg #[.int .i64 27, .int .i64 code, .int .u64 key, .int .u64 val, .int .u64 flag, .int .i64 0, .int .i64 0, .int .i64 0, .int .i64 0, .int .i64 0, .int .u64 0, .bool false, .slice none 0 0], .agg #[.int .i64 0, .int .u64 0], .bool false, .int .i64 0]), H', N') ∧ good B H' N' ∧ Mem B H0 H' m v (L.set i ⟨0, 0⟩) ∧ Oth v H H' := by
  obtain ⟨hB, hR, hI⟩ := gX hN
  have hG : ∃ H N, good B H N := ⟨H, N, hN⟩
  rcases M.sl with ⟨h, _⟩ | ⟨b, cap, rest, rfl, bb, h0, hle, hlk⟩
  · rw [h] at hi; simp at hi
  have hl := M.le
  have lm := M.lm
  have bm := M.bm
  have hbm : (b == m) = false := eqb fun h => M.ne (by rw [h]; rfl)
  have hbm' : (m == b) = false := eqb fun h => M.ne (by rw [h]; rfl)
  have i0 : (0 : Int) ≤ (i : Int) := by omega
  have i1 : ¬ (i : Int) < 0 := by omega
  have i2 : ¬ (i : Int) ≥ (L.length : Int) := by omega
  have nb := ne_N hN hlk
  have nb' := ne_N' hN hlk
  have nm := ne_N hN lm
  have nm' := ne_N' hN lm
  have rb := rN bb
  have rm := rN bm
  have q0 : ¬ (q : Int) < 0 := by omega
  have hp := C.p
  have q1 : ¬ (q : Int) ≥ 16 := by omega
  have q2 : (q : Int) ≥ 0 := by omega
  have e1 := f13 hG kk p cc (cfit C).1 (cfit C).2.1 (cfit C).2.2
  have e2 := f7c hG hT C
  have hS : ((L.length : Int) != ((bs p h 5 : Nat) : Int)) = false := by rw [hL]; simp
  have hb5 := bs5_b C
  have er := rt26 (code := code) (key := key) (val := val) (wc := 0) (wl := 0) (wa := none) (sm := sm) (w := w) (a := a) (o := o) (n := n) (i := ii) (ps := ps) (flag := flag) hG hT C hq hc hf
  have eA : F10 B [.agg #[.int .i64 (kk : Int), .int .i64 (p : Int), .int .i64 (cc : Int)], .int .i64 1, .int .i64 (q : Int)] = some (.tuple #[.int .i64 ((fr p h 1 q : Nat) : Int), .int .i64 0]) := f10 (k0 := 1) (o0 := q) hG hT C.k C.p C.c C.m (by omega) hq
  have ix : ((fr p h 1 q : Nat) : Int) = (i : Int) := by omega
  have iw : IntKind.i64.wrap (i : Int) = (i : Int) := IntWalk.i64_in _ (by omega)
  have hw := c2_w (rest := rest) hi 0 0
  unfold VprocStep
  simp (disch := omega) only [TprocStep, LprocStep, GprocStep_13, V13_eq, GprocStep_7, V7_eq, GprocStep_procRight, VprocRight_eq, GprocStep_procsteps, Vprocsteps, Tprocsteps, Lprocsteps, GprocStep_procworkerendCode, VprocworkerendCode, TprocworkerendCode, LprocworkerendCode, GprocworkerendCode_procworkersay, Vprocworkersay, Tprocworkersay, Lprocworkersay, Gprocworkersay_cellsStore, VcellsStore, TcellsStore, LcellsStore, GcellsStore_cellscell, Vcellscell, Tcellscell, Lcellscell, Gcellscell_cellsplace_Cell, Vcellsplace_Cell, Tcellsplace_Cell, Lcellsplace_Cell, DcellsStore_cellscaught, Ucellscaught, Lcellscaught, Gprocworkersay_procworkerat, Vprocworkerat, Tprocworkerat, Lprocworkerat, Gprocworkerat_10, V10_eq, Gprocworkersay_procworkerto, Vprocworkerto, Tprocworkerto, Lprocworkerto, GprocStep_slicesClone_uint64uint64, VslicesClone_uint64uint64, TslicesClone_uint64uint64, LslicesClone_uint64uint64, hB, hR, hI, ev5, lm, bm, rm, nm, nm', i0, i1, i2, hi, hlk, bb, rb, nb, nb', hbm, hbm', Option.isNone_some, Option.isNone_none, q0, q1, q2, e1, e2, er, hS, orJ_eq, anJ_eq, clJ_eq, pbI_eq, pbI_eq', lkI_eq, ulI_eq, btI_eq, IntKind.bits, eA, ix, iw, hw, Int.add_zero, all1, ress, res1, retV, Value.cells, newsV_s, e_fork, slcV, seval, eV]
  refine ⟨_, _, rfl, ?_, ⟨?_, bm, .inr ⟨b, cap, rest, by first | rfl | rw [List.length_set], bb, h0, by first | exact hle | (rw [List.length_set]; exact hle), ?_⟩, M.ne, by first | exact hl | (rw [List.length_set]; exact hl)⟩, fun y c hy e => ?_⟩
  · repeat (first | exact hN | exact good_up hN bb hlk | refine good_new ?_)
  · simp (disch := omega) only [TprocStep, LprocStep, GprocStep_13, V13_eq, GprocStep_7, V7_eq, GprocStep_procRight, VprocRight_eq, GprocStep_procsteps, Vprocsteps, Tprocsteps, Lprocsteps, GprocStep_procworkerendCode, VprocworkerendCode, TprocworkerendCode, LprocworkerendCode, GprocworkerendCode_procworkersay, Vprocworkersay, Tprocworkersay, Lprocworkersay, Gprocworkersay_cellsStore, VcellsStore, TcellsStore, LcellsStore, GcellsStore_cellscell, Vcellscell, Tcellscell, Lcellscell, Gcellscell_cellsplace_Cell, Vcellsplace_Cell, Tcellsplace_Cell, Lcellsplace_Cell, DcellsStore_cellscaught, Ucellscaught, Lcellscaught, Gprocworkersay_procworkerat, Vprocworkerat, Tprocworkerat, Lprocworkerat, Gprocworkerat_10, V10_eq, Gprocworkersay_procworkerto, Vprocworkerto, Tprocworkerto, Lprocworkerto, GprocStep_slicesClone_uint64uint64, VslicesClone_uint64uint64, TslicesClone_uint64uint64, LslicesClone_uint64uint64, hB, hR, hI, nm, hbm', lm, all1, ress, res1, retV, Value.cells, newsV_s, e_fork, slcV, seval, eV]
  · simp (disch := omega) only [TprocStep, LprocStep, GprocStep_13, V13_eq, GprocStep_7, V7_eq, GprocStep_procRight, VprocRight_eq, GprocStep_procsteps, Vprocsteps, Tprocsteps, Lprocsteps, GprocStep_procworkerendCode, VprocworkerendCode, TprocworkerendCode, LprocworkerendCode, GprocworkerendCode_procworkersay, Vprocworkersay, Tprocworkersay, Lprocworkersay, Gprocworkersay_cellsStore, VcellsStore, TcellsStore, LcellsStore, GcellsStore_cellscell, Vcellscell, Tcellscell, Lcellscell, Gcellscell_cellsplace_Cell, Vcellsplace_Cell, Tcellsplace_Cell, Lcellsplace_Cell, DcellsStore_cellscaught, Ucellscaught, Lcellscaught, Gprocworkersay_procworkerat, Vprocworkerat, Tprocworkerat, Lprocworkerat, Gprocworkerat_10, V10_eq, Gprocworkersay_procworkerto, Vprocworkerto, Tprocworkerto, Lprocworkerto, GprocStep_slicesClone_uint64uint64, VslicesClone_uint64uint64, TslicesClone_uint64uint64, LslicesClone_uint64uint64, hB, hR, hI, nb, hlk, all1, ress, res1, retV, Value.cells, newsV_s, e_fork, slcV, seval, eV]
  · have n0 := ne_N hN e
    have n1 : (y == b) = false := eqb fun h => hy (by rw [h]; rfl)
    simp (disch := omega) only [TprocStep, LprocStep, GprocStep_13, V13_eq, GprocStep_7, V7_eq, GprocStep_procRight, VprocRight_eq, GprocStep_procsteps, Vprocsteps, Tprocsteps, Lprocsteps, GprocStep_procworkerendCode, VprocworkerendCode, TprocworkerendCode, LprocworkerendCode, GprocworkerendCode_procworkersay, Vprocworkersay, Tprocworkersay, Lprocworkersay, Gprocworkersay_cellsStore, VcellsStore, TcellsStore, LcellsStore, GcellsStore_cellscell, Vcellscell, Tcellscell, Lcellscell, Gcellscell_cellsplace_Cell, Vcellsplace_Cell, Tcellsplace_Cell, Lcellsplace_Cell, DcellsStore_cellscaught, Ucellscaught, Lcellscaught, Gprocworkersay_procworkerat, Vprocworkerat, Tprocworkerat, Lprocworkerat, Gprocworkerat_10, V10_eq, Gprocworkersay_procworkerto, Vprocworkerto, Tprocworkerto, Lprocworkerto, GprocStep_slicesClone_uint64uint64, VslicesClone_uint64uint64, TslicesClone_uint64uint64, LslicesClone_uint64uint64, hB, hR, hI, n0, n1, e, all1, ress, res1, retV, Value.cells, newsV_s, e_fork, slcV, seval, eV]
set_option maxHeartbeats 4000000 in
theorem st27 {B : OH} {H0 H : HL} {N : St} {v : Value} {L : List C2} {m i : Nat} (hN : good B H N) (hT : Tab B) {kk p cc h : Nat} (C : Cf kk p cc h) {q : Nat} (hq : q < p) (M : Mem B H0 H m v L) (hL : L.length = bs p h 5) {code key val flag ps ii n o a w : Int} {sm : Bool} (hc : 1 ≤ code ∧ code ≤ 255) (hf : flag ≠ 0) (hx : i = fr p h 1 q + 1) (hi : i < L.length) :
    ∃ H' N', VprocStep B [.agg #[.int .i64 (kk : Int), .int .i64 (p : Int), .int .i64 (cc : Int)], .pointer (some ⟨m, 0, none⟩), .int .i64 (q : Int), .agg #[.int .i64 27, .int .i64 code, .int .u64 key, .int .u64 val, .int .u64 flag, .int .i64 0, .int .i64 0, .int .i64 0, .int .i64 0, .int .i64 0, .int .u64 0, .bool false, .slice none 0 0]] H N = some (.ret (.tuple #[.agg #[.int .i64 28, .int .i64 code, .int .u64 key, .int .u64 val, .int .u64 flag, .int .i64 0, .int .i64 0, .int .i64 0, .int .i64 0, .int .i64 0, .int .u64 0, .bool false, .slice none 0 0], .agg #[.int .i64 0, .int .u64 0], .bool false, .int .i64 0]), H', N') ∧ good B H' N' ∧ Mem B H0 H' m v (L.set i ⟨0, 0⟩) ∧ Oth v H H' := by
  obtain ⟨hB, hR, hI⟩ := gX hN
  have hG : ∃ H N, good B H N := ⟨H, N, hN⟩
  rcases M.sl with ⟨h, _⟩ | ⟨b, cap, rest, rfl, bb, h0, hle, hlk⟩
  · rw [h] at hi; simp at hi
  have hl := M.le
  have lm := M.lm
  have bm := M.bm
  have hbm : (b == m) = false := eqb fun h => M.ne (by rw [h]; rfl)
  have hbm' : (m == b) = false := eqb fun h => M.ne (by rw [h]; rfl)
  have i0 : (0 : Int) ≤ (i : Int) := by omega
  have i1 : ¬ (i : Int) < 0 := by omega
  have i2 : ¬ (i : Int) ≥ (L.length : Int) := by omega
  have nb := ne_N hN hlk
  have nb' := ne_N' hN hlk
  have nm := ne_N hN lm
  have nm' := ne_N' hN lm
  have rb := rN bb
  have rm := rN bm
  have q0 : ¬ (q : Int) < 0 := by omega
  have hp := C.p
  have q1 : ¬ (q : Int) ≥ 16 := by omega
  have q2 : (q : Int) ≥ 0 := by omega
  have e1 := f13 hG kk p cc (cfit C).1 (cfit C).2.1 (cfit C).2.2
  have e2 := f7c hG hT C
  have hS : ((L.length : Int) != ((bs p h 5 : Nat) : Int)) = false := by rw [hL]; simp
  have hb5 := bs5_b C
  have er := rt27 (code := code) (key := key) (val := val) (wc := 0) (wl := 0) (wa := none) (sm := sm) (w := w) (a := a) (o := o) (n := n) (i := ii) (ps := ps) (flag := flag) hG hT C hq hc hf
  have eA : F10 B [.agg #[.int .i64 (kk : Int), .int .i64 (p : Int), .int .i64 (cc : Int)], .int .i64 1, .int .i64 (q : Int)] = some (.tuple #[.int .i64 ((fr p h 1 q : Nat) : Int), .int .i64 0]) := f10 (k0 := 1) (o0 := q) hG hT C.k C.p C.c C.m (by omega) hq
  have ix : IntKind.i64.wrap (((fr p h 1 q : Nat) : Int) + 1) = (i : Int) := by rw [IntWalk.i64_in _ (by omega)]; omega
  have iw : IntKind.i64.wrap (i : Int) = (i : Int) := IntWalk.i64_in _ (by omega)
  have hw := c2_w (rest := rest) hi 0 0
  unfold VprocStep
  simp (disch := omega) only [TprocStep, LprocStep, GprocStep_13, V13_eq, GprocStep_7, V7_eq, GprocStep_procRight, VprocRight_eq, GprocStep_procsteps, Vprocsteps, Tprocsteps, Lprocsteps, GprocStep_procworkerendKey, VprocworkerendKey, TprocworkerendKey, LprocworkerendKey, GprocworkerendKey_procworkersay, Vprocworkersay, Tprocworkersay, Lprocworkersay, Gprocworkersay_cellsStore, VcellsStore, TcellsStore, LcellsStore, GcellsStore_cellscell, Vcellscell, Tcellscell, Lcellscell, Gcellscell_cellsplace_Cell, Vcellsplace_Cell, Tcellsplace_Cell, Lcellsplace_Cell, DcellsStore_cellscaught, Ucellscaught, Lcellscaught, Gprocworkersay_procworkerat, Vprocworkerat, Tprocworkerat, Lprocworkerat, Gprocworkerat_10, V10_eq, Gprocworkersay_procworkerto, Vprocworkerto, Tprocworkerto, Lprocworkerto, GprocStep_slicesClone_uint64uint64, VslicesClone_uint64uint64, TslicesClone_uint64uint64, LslicesClone_uint64uint64, hB, hR, hI, ev5, lm, bm, rm, nm, nm', i0, i1, i2, hi, hlk, bb, rb, nb, nb', hbm, hbm', Option.isNone_some, Option.isNone_none, q0, q1, q2, e1, e2, er, hS, orJ_eq, anJ_eq, clJ_eq, pbI_eq, pbI_eq', lkI_eq, ulI_eq, btI_eq, IntKind.bits, eA, ix, iw, hw, all1, ress, res1, retV, Value.cells, newsV_s, e_fork, slcV, seval, eV]
  refine ⟨_, _, rfl, ?_, ⟨?_, bm, .inr ⟨b, cap, rest, by first | rfl | rw [List.length_set], bb, h0, by first | exact hle | (rw [List.length_set]; exact hle), ?_⟩, M.ne, by first | exact hl | (rw [List.length_set]; exact hl)⟩, fun y c hy e => ?_⟩
  · repeat (first | exact hN | exact good_up hN bb hlk | refine good_new ?_)
  · simp (disch := omega) only [TprocStep, LprocStep, GprocStep_13, V13_eq, GprocStep_7, V7_eq, GprocStep_procRight, VprocRight_eq, GprocStep_procsteps, Vprocsteps, Tprocsteps, Lprocsteps, GprocStep_procworkerendKey, VprocworkerendKey, TprocworkerendKey, LprocworkerendKey, GprocworkerendKey_procworkersay, Vprocworkersay, Tprocworkersay, Lprocworkersay, Gprocworkersay_cellsStore, VcellsStore, TcellsStore, LcellsStore, GcellsStore_cellscell, Vcellscell, Tcellscell, Lcellscell, Gcellscell_cellsplace_Cell, Vcellsplace_Cell, Tcellsplace_Cell, Lcellsplace_Cell, DcellsStore_cellscaught, Ucellscaught, Lcellscaught, Gprocworkersay_procworkerat, Vprocworkerat, Tprocworkerat, Lprocworkerat, Gprocworkerat_10, V10_eq, Gprocworkersay_procworkerto, Vprocworkerto, Tprocworkerto, Lprocworkerto, GprocStep_slicesClone_uint64uint64, VslicesClone_uint64uint64, TslicesClone_uint64uint64, LslicesClone_uint64uint64, hB, hR, hI, nm, hbm', lm, all1, ress, res1, retV, Value.cells, newsV_s, e_fork, slcV, seval, eV]
  · simp (disch := omega) only [TprocStep, LprocStep, GprocStep_13, V13_eq, GprocStep_7, V7_eq, GprocStep_procRight, VprocRight_eq, GprocStep_procsteps, Vprocsteps, Tprocsteps, Lprocsteps, GprocStep_procworkerendKey, VprocworkerendKey, TprocworkerendKey, LprocworkerendKey, GprocworkerendKey_procworkersay, Vprocworkersay, Tprocworkersay, Lprocworkersay, Gprocworkersay_cellsStore, VcellsStore, TcellsStore, LcellsStore, GcellsStore_cellscell, Vcellscell, Tcellscell, Lcellscell, Gcellscell_cellsplace_Cell, Vcellsplace_Cell, Tcellsplace_Cell, Lcellsplace_Cell, DcellsStore_cellscaught, Ucellscaught, Lcellscaught, Gprocworkersay_procworkerat, Vprocworkerat, Tprocworkerat, Lprocworkerat, Gprocworkerat_10, V10_eq, Gprocworkersay_procworkerto, Vprocworkerto, Tprocworkerto, Lprocworkerto, GprocStep_slicesClone_uint64uint64, VslicesClone_uint64uint64, TslicesClone_uint64uint64, LslicesClone_uint64uint64, hB, hR, hI, nb, hlk, all1, ress, res1, retV, Value.cells, newsV_s, e_fork, slcV, seval, eV]
  · have n0 := ne_N hN e
    have n1 : (y == b) = false := eqb fun h => hy (by rw [h]; rfl)
    simp (disch := omega) only [TprocStep, LprocStep, GprocStep_13, V13_eq, GprocStep_7, V7_eq, GprocStep_procRight, VprocRight_eq, GprocStep_procsteps, Vprocsteps, Tprocsteps, Lprocsteps, GprocStep_procworkerendKey, VprocworkerendKey, TprocworkerendKey, LprocworkerendKey, GprocworkerendKey_procworkersay, Vprocworkersay, Tprocworkersay, Lprocworkersay, Gprocworkersay_cellsStore, VcellsStore, TcellsStore, LcellsStore, GcellsStore_cellscell, Vcellscell, Tcellscell, Lcellscell, Gcellscell_cellsplace_Cell, Vcellsplace_Cell, Tcellsplace_Cell, Lcellsplace_Cell, DcellsStore_cellscaught, Ucellscaught, Lcellscaught, Gprocworkersay_procworkerat, Vprocworkerat, Tprocworkerat, Lprocworkerat, Gprocworkerat_10, V10_eq, Gprocworkersay_procworkerto, Vprocworkerto, Tprocworkerto, Lprocworkerto, GprocStep_slicesClone_uint64uint64, VslicesClone_uint64uint64, TslicesClone_uint64uint64, LslicesClone_uint64uint64, hB, hR, hI, n0, n1, e, all1, ress, res1, retV, Value.cells, newsV_s, e_fork, slcV, seval, eV]
set_option maxHeartbeats 4000000 in
theorem st28 {B : OH} {H0 H : HL} {N : St} {v : Value} {L : List C2} {m i : Nat} (hN : good B H N) (hT : Tab B) {kk p cc h : Nat} (C : Cf kk p cc h) {q : Nat} (hq : q < p) (M : Mem B H0 H m v L) (hL : L.length = bs p h 5) {code key val flag ps ii n o a w : Int} {sm : Bool} (hc : 1 ≤ code ∧ code ≤ 255) (hf : flag ≠ 0) (hx : i = fr p h 1 q + 2) (hi : i < L.length) :
    ∃ H' N', VprocStep B [.agg #[.int .i64 (kk : Int), .int .i64 (p : Int), .int .i64 (cc : Int)], .pointer (some ⟨m, 0, none⟩), .int .i64 (q : Int), .agg #[.int .i64 28, .int .i64 code, .int .u64 key, .int .u64 val, .int .u64 flag, .int .i64 0, .int .i64 0, .int .i64 0, .int .i64 0, .int .i64 0, .int .u64 0, .bool false, .slice none 0 0]] H N = some (.ret (.tuple #[.agg #[.int .i64 29, .int .i64 code, .int .u64 key, .int .u64 val, .int .u64 flag, .int .i64 0, .int .i64 0, .int .i64 0, .int .i64 0, .int .i64 0, .int .u64 0, .bool false, .slice none 0 0], .agg #[.int .i64 0, .int .u64 0], .bool false, .int .i64 0]), H', N') ∧ good B H' N' ∧ Mem B H0 H' m v (L.set i ⟨0, 0⟩) ∧ Oth v H H' := by
  obtain ⟨hB, hR, hI⟩ := gX hN
  have hG : ∃ H N, good B H N := ⟨H, N, hN⟩
  rcases M.sl with ⟨h, _⟩ | ⟨b, cap, rest, rfl, bb, h0, hle, hlk⟩
  · rw [h] at hi; simp at hi
  have hl := M.le
  have lm := M.lm
  have bm := M.bm
  have hbm : (b == m) = false := eqb fun h => M.ne (by rw [h]; rfl)
  have hbm' : (m == b) = false := eqb fun h => M.ne (by rw [h]; rfl)
  have i0 : (0 : Int) ≤ (i : Int) := by omega
  have i1 : ¬ (i : Int) < 0 := by omega
  have i2 : ¬ (i : Int) ≥ (L.length : Int) := by omega
  have nb := ne_N hN hlk
  have nb' := ne_N' hN hlk
  have nm := ne_N hN lm
  have nm' := ne_N' hN lm
  have rb := rN bb
  have rm := rN bm
  have q0 : ¬ (q : Int) < 0 := by omega
  have hp := C.p
  have q1 : ¬ (q : Int) ≥ 16 := by omega
  have q2 : (q : Int) ≥ 0 := by omega
  have e1 := f13 hG kk p cc (cfit C).1 (cfit C).2.1 (cfit C).2.2
  have e2 := f7c hG hT C
  have hS : ((L.length : Int) != ((bs p h 5 : Nat) : Int)) = false := by rw [hL]; simp
  have hb5 := bs5_b C
  have er := rt28 (code := code) (key := key) (val := val) (wc := 0) (wl := 0) (wa := none) (sm := sm) (w := w) (a := a) (o := o) (n := n) (i := ii) (ps := ps) (flag := flag) hG hT C hq hc hf
  have eA : F10 B [.agg #[.int .i64 (kk : Int), .int .i64 (p : Int), .int .i64 (cc : Int)], .int .i64 1, .int .i64 (q : Int)] = some (.tuple #[.int .i64 ((fr p h 1 q : Nat) : Int), .int .i64 0]) := f10 (k0 := 1) (o0 := q) hG hT C.k C.p C.c C.m (by omega) hq
  have ix : IntKind.i64.wrap (((fr p h 1 q : Nat) : Int) + 2) = (i : Int) := by rw [IntWalk.i64_in _ (by omega)]; omega
  have iw : IntKind.i64.wrap (i : Int) = (i : Int) := IntWalk.i64_in _ (by omega)
  have hw := c2_w (rest := rest) hi 0 0
  unfold VprocStep
  simp (disch := omega) only [TprocStep, LprocStep, GprocStep_13, V13_eq, GprocStep_7, V7_eq, GprocStep_procRight, VprocRight_eq, GprocStep_procsteps, Vprocsteps, Tprocsteps, Lprocsteps, GprocStep_procworkerendVal, VprocworkerendVal, TprocworkerendVal, LprocworkerendVal, GprocworkerendVal_procworkersay, Vprocworkersay, Tprocworkersay, Lprocworkersay, Gprocworkersay_cellsStore, VcellsStore, TcellsStore, LcellsStore, GcellsStore_cellscell, Vcellscell, Tcellscell, Lcellscell, Gcellscell_cellsplace_Cell, Vcellsplace_Cell, Tcellsplace_Cell, Lcellsplace_Cell, DcellsStore_cellscaught, Ucellscaught, Lcellscaught, Gprocworkersay_procworkerat, Vprocworkerat, Tprocworkerat, Lprocworkerat, Gprocworkerat_10, V10_eq, Gprocworkersay_procworkerto, Vprocworkerto, Tprocworkerto, Lprocworkerto, GprocStep_slicesClone_uint64uint64, VslicesClone_uint64uint64, TslicesClone_uint64uint64, LslicesClone_uint64uint64, hB, hR, hI, ev5, lm, bm, rm, nm, nm', i0, i1, i2, hi, hlk, bb, rb, nb, nb', hbm, hbm', Option.isNone_some, Option.isNone_none, q0, q1, q2, e1, e2, er, hS, orJ_eq, anJ_eq, clJ_eq, pbI_eq, pbI_eq', lkI_eq, ulI_eq, btI_eq, IntKind.bits, eA, ix, iw, hw, all1, ress, res1, retV, Value.cells, newsV_s, e_fork, slcV, seval, eV]
  refine ⟨_, _, rfl, ?_, ⟨?_, bm, .inr ⟨b, cap, rest, by first | rfl | rw [List.length_set], bb, h0, by first | exact hle | (rw [List.length_set]; exact hle), ?_⟩, M.ne, by first | exact hl | (rw [List.length_set]; exact hl)⟩, fun y c hy e => ?_⟩
  · repeat (first | exact hN | exact good_up hN bb hlk | refine good_new ?_)
  · simp (disch := omega) only [TprocStep, LprocStep, GprocStep_13, V13_eq, GprocStep_7, V7_eq, GprocStep_procRight, VprocRight_eq, GprocStep_procsteps, Vprocsteps, Tprocsteps, Lprocsteps, GprocStep_procworkerendVal, VprocworkerendVal, TprocworkerendVal, LprocworkerendVal, GprocworkerendVal_procworkersay, Vprocworkersay, Tprocworkersay, Lprocworkersay, Gprocworkersay_cellsStore, VcellsStore, TcellsStore, LcellsStore, GcellsStore_cellscell, Vcellscell, Tcellscell, Lcellscell, Gcellscell_cellsplace_Cell, Vcellsplace_Cell, Tcellsplace_Cell, Lcellsplace_Cell, DcellsStore_cellscaught, Ucellscaught, Lcellscaught, Gprocworkersay_procworkerat, Vprocworkerat, Tprocworkerat, Lprocworkerat, Gprocworkerat_10, V10_eq, Gprocworkersay_procworkerto, Vprocworkerto, Tprocworkerto, Lprocworkerto, GprocStep_slicesClone_uint64uint64, VslicesClone_uint64uint64, TslicesClone_uint64uint64, LslicesClone_uint64uint64, hB, hR, hI, nm, hbm', lm, all1, ress, res1, retV, Value.cells, newsV_s, e_fork, slcV, seval, eV]
  · simp (disch := omega) only [TprocStep, LprocStep, GprocStep_13, V13_eq, GprocStep_7, V7_eq, GprocStep_procRight, VprocRight_eq, GprocStep_procsteps, Vprocsteps, Tprocsteps, Lprocsteps, GprocStep_procworkerendVal, VprocworkerendVal, TprocworkerendVal, LprocworkerendVal, GprocworkerendVal_procworkersay, Vprocworkersay, Tprocworkersay, Lprocworkersay, Gprocworkersay_cellsStore, VcellsStore, TcellsStore, LcellsStore, GcellsStore_cellscell, Vcellscell, Tcellscell, Lcellscell, Gcellscell_cellsplace_Cell, Vcellsplace_Cell, Tcellsplace_Cell, Lcellsplace_Cell, DcellsStore_cellscaught, Ucellscaught, Lcellscaught, Gprocworkersay_procworkerat, Vprocworkerat, Tprocworkerat, Lprocworkerat, Gprocworkerat_10, V10_eq, Gprocworkersay_procworkerto, Vprocworkerto, Tprocworkerto, Lprocworkerto, GprocStep_slicesClone_uint64uint64, VslicesClone_uint64uint64, TslicesClone_uint64uint64, LslicesClone_uint64uint64, hB, hR, hI, nb, hlk, all1, ress, res1, retV, Value.cells, newsV_s, e_fork, slcV, seval, eV]
  · have n0 := ne_N hN e
    have n1 : (y == b) = false := eqb fun h => hy (by rw [h]; rfl)
    simp (disch := omega) only [TprocStep, LprocStep, GprocStep_13, V13_eq, GprocStep_7, V7_eq, GprocStep_procRight, VprocRight_eq, GprocStep_procsteps, Vprocsteps, Tprocsteps, Lprocsteps, GprocStep_procworkerendVal, VprocworkerendVal, TprocworkerendVal, LprocworkerendVal, GprocworkerendVal_procworkersay, Vprocworkersay, Tprocworkersay, Lprocworkersay, Gprocworkersay_cellsStore, VcellsStore, TcellsStore, LcellsStore, GcellsStore_cellscell, Vcellscell, Tcellscell, Lcellscell, Gcellscell_cellsplace_Cell, Vcellsplace_Cell, Tcellsplace_Cell, Lcellsplace_Cell, DcellsStore_cellscaught, Ucellscaught, Lcellscaught, Gprocworkersay_procworkerat, Vprocworkerat, Tprocworkerat, Lprocworkerat, Gprocworkerat_10, V10_eq, Gprocworkersay_procworkerto, Vprocworkerto, Tprocworkerto, Lprocworkerto, GprocStep_slicesClone_uint64uint64, VslicesClone_uint64uint64, TslicesClone_uint64uint64, LslicesClone_uint64uint64, hB, hR, hI, n0, n1, e, all1, ress, res1, retV, Value.cells, newsV_s, e_fork, slcV, seval, eV]
set_option maxHeartbeats 4000000 in
theorem st29 {B : OH} {H0 H : HL} {N : St} {v : Value} {L : List C2} {m i : Nat} (hN : good B H N) (hT : Tab B) {kk p cc h : Nat} (C : Cf kk p cc h) {q : Nat} (hq : q < p) (M : Mem B H0 H m v L) (hL : L.length = bs p h 5) {code key val flag ps ii n o a w : Int} {sm : Bool} (hc : 1 ≤ code ∧ code ≤ 255) (hf : flag ≠ 0) (hx : i = fr p h 2 q + 1) (hi : i < L.length) :
    ∃ H' N', VprocStep B [.agg #[.int .i64 (kk : Int), .int .i64 (p : Int), .int .i64 (cc : Int)], .pointer (some ⟨m, 0, none⟩), .int .i64 (q : Int), .agg #[.int .i64 29, .int .i64 code, .int .u64 key, .int .u64 val, .int .u64 flag, .int .i64 0, .int .i64 0, .int .i64 0, .int .i64 0, .int .i64 0, .int .u64 0, .bool false, .slice none 0 0]] H N = some (.ret (.tuple #[.agg #[.int .i64 30, .int .i64 code, .int .u64 key, .int .u64 val, .int .u64 flag, .int .i64 0, .int .i64 0, .int .i64 0, .int .i64 0, .int .i64 0, .int .u64 (L.getD i z2).w, .bool false, .slice none 0 0], .agg #[.int .i64 0, .int .u64 0], .bool false, .int .i64 0]), H', N') ∧ good B H' N' ∧ Mem B H0 H' m v L ∧ Oth v H H' := by
  obtain ⟨hB, hR, hI⟩ := gX hN
  have hG : ∃ H N, good B H N := ⟨H, N, hN⟩
  rcases M.sl with ⟨h, _⟩ | ⟨b, cap, rest, rfl, bb, h0, hle, hlk⟩
  · rw [h] at hi; simp at hi
  have hl := M.le
  have lm := M.lm
  have bm := M.bm
  have hbm : (b == m) = false := eqb fun h => M.ne (by rw [h]; rfl)
  have hbm' : (m == b) = false := eqb fun h => M.ne (by rw [h]; rfl)
  have i0 : (0 : Int) ≤ (i : Int) := by omega
  have i1 : ¬ (i : Int) < 0 := by omega
  have i2 : ¬ (i : Int) ≥ (L.length : Int) := by omega
  have nb := ne_N hN hlk
  have nb' := ne_N' hN hlk
  have nm := ne_N hN lm
  have nm' := ne_N' hN lm
  have rb := rN bb
  have rm := rN bm
  have q0 : ¬ (q : Int) < 0 := by omega
  have hp := C.p
  have q1 : ¬ (q : Int) ≥ 16 := by omega
  have q2 : (q : Int) ≥ 0 := by omega
  have e1 := f13 hG kk p cc (cfit C).1 (cfit C).2.1 (cfit C).2.2
  have e2 := f7c hG hT C
  have hS : ((L.length : Int) != ((bs p h 5 : Nat) : Int)) = false := by rw [hL]; simp
  have hb5 := bs5_b C
  have er := rt29 (code := code) (key := key) (val := val) (wc := 0) (wl := 0) (wa := none) (sm := sm) (w := w) (a := a) (o := o) (n := n) (i := ii) (ps := ps) (flag := flag) hG hT C hq hc hf
  have eA : F10 B [.agg #[.int .i64 (kk : Int), .int .i64 (p : Int), .int .i64 (cc : Int)], .int .i64 2, .int .i64 (q : Int)] = some (.tuple #[.int .i64 ((fr p h 2 q : Nat) : Int), .int .i64 0]) := f10 (k0 := 2) (o0 := q) hG hT C.k C.p C.c C.m (by omega) hq
  have ix : IntKind.i64.wrap (((fr p h 2 q : Nat) : Int) + 1) = (i : Int) := by rw [IntWalk.i64_in _ (by omega)]; omega
  have iw : IntKind.i64.wrap (i : Int) = (i : Int) := IntWalk.i64_in _ (by omega)
  have r0 := c2_r0 (rest := rest) hi
  unfold VprocStep
  simp (disch := omega) only [TprocStep, LprocStep, GprocStep_13, V13_eq, GprocStep_7, V7_eq, GprocStep_procRight, VprocRight_eq, GprocStep_procsteps, Vprocsteps, Tprocsteps, Lprocsteps, GprocStep_procworkerendLoad, VprocworkerendLoad, TprocworkerendLoad, LprocworkerendLoad, GprocworkerendLoad_cellsLoad, VcellsLoad, TcellsLoad, LcellsLoad, GcellsLoad_cellscell, Vcellscell, Tcellscell, Lcellscell, Gcellscell_cellsplace_Cell, Vcellsplace_Cell, Tcellsplace_Cell, Lcellsplace_Cell, DcellsLoad_cellscaught, Ucellscaught, Lcellscaught, GprocworkerendLoad_procworkerat, Vprocworkerat, Tprocworkerat, Lprocworkerat, Gprocworkerat_10, V10_eq, GprocworkerendLoad_procworkerto, Vprocworkerto, Tprocworkerto, Lprocworkerto, GprocStep_slicesClone_uint64uint64, VslicesClone_uint64uint64, TslicesClone_uint64uint64, LslicesClone_uint64uint64, hB, hR, hI, ev5, lm, bm, rm, nm, nm', i0, i1, i2, hi, hlk, bb, rb, nb, nb', hbm, hbm', Option.isNone_some, Option.isNone_none, q0, q1, q2, e1, e2, er, hS, orJ_eq, anJ_eq, clJ_eq, pbI_eq, pbI_eq', lkI_eq, ulI_eq, btI_eq, IntKind.bits, eA, ix, iw, r0, all1, ress, res1, retV, Value.cells, newsV_s, e_fork, slcV, seval, eV]
  refine ⟨_, _, rfl, ?_, ⟨?_, bm, .inr ⟨b, cap, rest, by first | rfl | rw [List.length_set], bb, h0, by first | exact hle | (rw [List.length_set]; exact hle), ?_⟩, M.ne, by first | exact hl | (rw [List.length_set]; exact hl)⟩, fun y c hy e => ?_⟩
  · repeat (first | exact hN | exact good_up hN bb hlk | refine good_new ?_)
  · simp (disch := omega) only [TprocStep, LprocStep, GprocStep_13, V13_eq, GprocStep_7, V7_eq, GprocStep_procRight, VprocRight_eq, GprocStep_procsteps, Vprocsteps, Tprocsteps, Lprocsteps, GprocStep_procworkerendLoad, VprocworkerendLoad, TprocworkerendLoad, LprocworkerendLoad, GprocworkerendLoad_cellsLoad, VcellsLoad, TcellsLoad, LcellsLoad, GcellsLoad_cellscell, Vcellscell, Tcellscell, Lcellscell, Gcellscell_cellsplace_Cell, Vcellsplace_Cell, Tcellsplace_Cell, Lcellsplace_Cell, DcellsLoad_cellscaught, Ucellscaught, Lcellscaught, GprocworkerendLoad_procworkerat, Vprocworkerat, Tprocworkerat, Lprocworkerat, Gprocworkerat_10, V10_eq, GprocworkerendLoad_procworkerto, Vprocworkerto, Tprocworkerto, Lprocworkerto, GprocStep_slicesClone_uint64uint64, VslicesClone_uint64uint64, TslicesClone_uint64uint64, LslicesClone_uint64uint64, hB, hR, hI, nm, hbm', lm, all1, ress, res1, retV, Value.cells, newsV_s, e_fork, slcV, seval, eV]
  · simp (disch := omega) only [TprocStep, LprocStep, GprocStep_13, V13_eq, GprocStep_7, V7_eq, GprocStep_procRight, VprocRight_eq, GprocStep_procsteps, Vprocsteps, Tprocsteps, Lprocsteps, GprocStep_procworkerendLoad, VprocworkerendLoad, TprocworkerendLoad, LprocworkerendLoad, GprocworkerendLoad_cellsLoad, VcellsLoad, TcellsLoad, LcellsLoad, GcellsLoad_cellscell, Vcellscell, Tcellscell, Lcellscell, Gcellscell_cellsplace_Cell, Vcellsplace_Cell, Tcellsplace_Cell, Lcellsplace_Cell, DcellsLoad_cellscaught, Ucellscaught, Lcellscaught, GprocworkerendLoad_procworkerat, Vprocworkerat, Tprocworkerat, Lprocworkerat, Gprocworkerat_10, V10_eq, GprocworkerendLoad_procworkerto, Vprocworkerto, Tprocworkerto, Lprocworkerto, GprocStep_slicesClone_uint64uint64, VslicesClone_uint64uint64, TslicesClone_uint64uint64, LslicesClone_uint64uint64, hB, hR, hI, nb, hlk, all1, ress, res1, retV, Value.cells, newsV_s, e_fork, slcV, seval, eV]
  · have n0 := ne_N hN e
    have n1 : (y == b) = false := eqb fun h => hy (by rw [h]; rfl)
    simp (disch := omega) only [TprocStep, LprocStep, GprocStep_13, V13_eq, GprocStep_7, V7_eq, GprocStep_procRight, VprocRight_eq, GprocStep_procsteps, Vprocsteps, Tprocsteps, Lprocsteps, GprocStep_procworkerendLoad, VprocworkerendLoad, TprocworkerendLoad, LprocworkerendLoad, GprocworkerendLoad_cellsLoad, VcellsLoad, TcellsLoad, LcellsLoad, GcellsLoad_cellscell, Vcellscell, Tcellscell, Lcellscell, Gcellscell_cellsplace_Cell, Vcellsplace_Cell, Tcellsplace_Cell, Lcellsplace_Cell, DcellsLoad_cellscaught, Ucellscaught, Lcellscaught, GprocworkerendLoad_procworkerat, Vprocworkerat, Tprocworkerat, Lprocworkerat, Gprocworkerat_10, V10_eq, GprocworkerendLoad_procworkerto, Vprocworkerto, Tprocworkerto, Lprocworkerto, GprocStep_slicesClone_uint64uint64, VslicesClone_uint64uint64, TslicesClone_uint64uint64, LslicesClone_uint64uint64, hB, hR, hI, n0, n1, e, all1, ress, res1, retV, Value.cells, newsV_s, e_fork, slcV, seval, eV]
set_option maxHeartbeats 4000000 in
theorem st30 {B : OH} {H0 H : HL} {N : St} {v : Value} {L : List C2} {m i : Nat} (hN : good B H N) (hT : Tab B) {kk p cc h : Nat} (C : Cf kk p cc h) {q : Nat} (hq : q < p) (M : Mem B H0 H m v L) (hL : L.length = bs p h 5) {code key val flag ps ii n o a w : Int} {sm : Bool} (hc : 1 ≤ code ∧ code ≤ 255) (hf : flag ≠ 0) (hx : i = fr p h 2 q + 1) (hi : i < L.length) :
    ∃ H' N', VprocStep B [.agg #[.int .i64 (kk : Int), .int .i64 (p : Int), .int .i64 (cc : Int)], .pointer (some ⟨m, 0, none⟩), .int .i64 (q : Int), .agg #[.int .i64 30, .int .i64 code, .int .u64 key, .int .u64 val, .int .u64 flag, .int .i64 0, .int .i64 0, .int .i64 0, .int .i64 0, .int .i64 0, .int .u64 w, .bool false, .slice none 0 0]] H N = some (.ret (.tuple #[.agg #[.int .i64 31, .int .i64 code, .int .u64 key, .int .u64 val, .int .u64 flag, .int .i64 0, .int .i64 0, .int .i64 0, .int .i64 0, .int .i64 0, .int .u64 w, .bool false, .slice none 0 0], .agg #[.int .i64 0, .int .u64 0], .bool false, .int .i64 0]), H', N') ∧ good B H' N' ∧ Mem B H0 H' m v (L.set i ⟨0, 0⟩) ∧ Oth v H H' := by
  obtain ⟨hB, hR, hI⟩ := gX hN
  have hG : ∃ H N, good B H N := ⟨H, N, hN⟩
  rcases M.sl with ⟨h, _⟩ | ⟨b, cap, rest, rfl, bb, h0, hle, hlk⟩
  · rw [h] at hi; simp at hi
  have hl := M.le
  have lm := M.lm
  have bm := M.bm
  have hbm : (b == m) = false := eqb fun h => M.ne (by rw [h]; rfl)
  have hbm' : (m == b) = false := eqb fun h => M.ne (by rw [h]; rfl)
  have i0 : (0 : Int) ≤ (i : Int) := by omega
  have i1 : ¬ (i : Int) < 0 := by omega
  have i2 : ¬ (i : Int) ≥ (L.length : Int) := by omega
  have nb := ne_N hN hlk
  have nb' := ne_N' hN hlk
  have nm := ne_N hN lm
  have nm' := ne_N' hN lm
  have rb := rN bb
  have rm := rN bm
  have q0 : ¬ (q : Int) < 0 := by omega
  have hp := C.p
  have q1 : ¬ (q : Int) ≥ 16 := by omega
  have q2 : (q : Int) ≥ 0 := by omega
  have e1 := f13 hG kk p cc (cfit C).1 (cfit C).2.1 (cfit C).2.2
  have e2 := f7c hG hT C
  have hS : ((L.length : Int) != ((bs p h 5 : Nat) : Int)) = false := by rw [hL]; simp
  have hb5 := bs5_b C
  have er := rt30 (code := code) (key := key) (val := val) (wc := 0) (wl := 0) (wa := none) (sm := sm) (a := a) (o := o) (n := n) (i := ii) (ps := ps) (flag := flag) (w := w) hG hT C hq hc hf
  have eA : F10 B [.agg #[.int .i64 (kk : Int), .int .i64 (p : Int), .int .i64 (cc : Int)], .int .i64 2, .int .i64 (q : Int)] = some (.tuple #[.int .i64 ((fr p h 2 q : Nat) : Int), .int .i64 0]) := f10 (k0 := 2) (o0 := q) hG hT C.k C.p C.c C.m (by omega) hq
  have ix : IntKind.i64.wrap (((fr p h 2 q : Nat) : Int) + 1) = (i : Int) := by rw [IntWalk.i64_in _ (by omega)]; omega
  have iw : IntKind.i64.wrap (i : Int) = (i : Int) := IntWalk.i64_in _ (by omega)
  have hw := c2_w (rest := rest) hi 0 0
  unfold VprocStep
  simp (disch := omega) only [TprocStep, LprocStep, GprocStep_13, V13_eq, GprocStep_7, V7_eq, GprocStep_procRight, VprocRight_eq, GprocStep_procsteps, Vprocsteps, Tprocsteps, Lprocsteps, GprocStep_procworkerendWord, VprocworkerendWord, TprocworkerendWord, LprocworkerendWord, GprocworkerendWord_cellsStore, VcellsStore, TcellsStore, LcellsStore, GcellsStore_cellscell, Vcellscell, Tcellscell, Lcellscell, Gcellscell_cellsplace_Cell, Vcellsplace_Cell, Tcellsplace_Cell, Lcellsplace_Cell, DcellsStore_cellscaught, Ucellscaught, Lcellscaught, GprocworkerendWord_procworkerat, Vprocworkerat, Tprocworkerat, Lprocworkerat, Gprocworkerat_10, V10_eq, GprocworkerendWord_procworkerto, Vprocworkerto, Tprocworkerto, Lprocworkerto, GprocStep_slicesClone_uint64uint64, VslicesClone_uint64uint64, TslicesClone_uint64uint64, LslicesClone_uint64uint64, hB, hR, hI, ev5, lm, bm, rm, nm, nm', i0, i1, i2, hi, hlk, bb, rb, nb, nb', hbm, hbm', Option.isNone_some, Option.isNone_none, q0, q1, q2, e1, e2, er, hS, orJ_eq, anJ_eq, clJ_eq, pbI_eq, pbI_eq', lkI_eq, ulI_eq, btI_eq, IntKind.bits, eA, ix, iw, hw, all1, ress, res1, retV, Value.cells, newsV_s, e_fork, slcV, seval, eV]
  refine ⟨_, _, rfl, ?_, ⟨?_, bm, .inr ⟨b, cap, rest, by first | rfl | rw [List.length_set], bb, h0, by first | exact hle | (rw [List.length_set]; exact hle), ?_⟩, M.ne, by first | exact hl | (rw [List.length_set]; exact hl)⟩, fun y c hy e => ?_⟩
  · repeat (first | exact hN | exact good_up hN bb hlk | refine good_new ?_)
  · simp (disch := omega) only [TprocStep, LprocStep, GprocStep_13, V13_eq, GprocStep_7, V7_eq, GprocStep_procRight, VprocRight_eq, GprocStep_procsteps, Vprocsteps, Tprocsteps, Lprocsteps, GprocStep_procworkerendWord, VprocworkerendWord, TprocworkerendWord, LprocworkerendWord, GprocworkerendWord_cellsStore, VcellsStore, TcellsStore, LcellsStore, GcellsStore_cellscell, Vcellscell, Tcellscell, Lcellscell, Gcellscell_cellsplace_Cell, Vcellsplace_Cell, Tcellsplace_Cell, Lcellsplace_Cell, DcellsStore_cellscaught, Ucellscaught, Lcellscaught, GprocworkerendWord_procworkerat, Vprocworkerat, Tprocworkerat, Lprocworkerat, Gprocworkerat_10, V10_eq, GprocworkerendWord_procworkerto, Vprocworkerto, Tprocworkerto, Lprocworkerto, GprocStep_slicesClone_uint64uint64, VslicesClone_uint64uint64, TslicesClone_uint64uint64, LslicesClone_uint64uint64, hB, hR, hI, nm, hbm', lm, all1, ress, res1, retV, Value.cells, newsV_s, e_fork, slcV, seval, eV]
  · simp (disch := omega) only [TprocStep, LprocStep, GprocStep_13, V13_eq, GprocStep_7, V7_eq, GprocStep_procRight, VprocRight_eq, GprocStep_procsteps, Vprocsteps, Tprocsteps, Lprocsteps, GprocStep_procworkerendWord, VprocworkerendWord, TprocworkerendWord, LprocworkerendWord, GprocworkerendWord_cellsStore, VcellsStore, TcellsStore, LcellsStore, GcellsStore_cellscell, Vcellscell, Tcellscell, Lcellscell, Gcellscell_cellsplace_Cell, Vcellsplace_Cell, Tcellsplace_Cell, Lcellsplace_Cell, DcellsStore_cellscaught, Ucellscaught, Lcellscaught, GprocworkerendWord_procworkerat, Vprocworkerat, Tprocworkerat, Lprocworkerat, Gprocworkerat_10, V10_eq, GprocworkerendWord_procworkerto, Vprocworkerto, Tprocworkerto, Lprocworkerto, GprocStep_slicesClone_uint64uint64, VslicesClone_uint64uint64, TslicesClone_uint64uint64, LslicesClone_uint64uint64, hB, hR, hI, nb, hlk, all1, ress, res1, retV, Value.cells, newsV_s, e_fork, slcV, seval, eV]
  · have n0 := ne_N hN e
    have n1 : (y == b) = false := eqb fun h => hy (by rw [h]; rfl)
    simp (disch := omega) only [TprocStep, LprocStep, GprocStep_13, V13_eq, GprocStep_7, V7_eq, GprocStep_procRight, VprocRight_eq, GprocStep_procsteps, Vprocsteps, Tprocsteps, Lprocsteps, GprocStep_procworkerendWord, VprocworkerendWord, TprocworkerendWord, LprocworkerendWord, GprocworkerendWord_cellsStore, VcellsStore, TcellsStore, LcellsStore, GcellsStore_cellscell, Vcellscell, Tcellscell, Lcellscell, Gcellscell_cellsplace_Cell, Vcellsplace_Cell, Tcellsplace_Cell, Lcellsplace_Cell, DcellsStore_cellscaught, Ucellscaught, Lcellscaught, GprocworkerendWord_procworkerat, Vprocworkerat, Tprocworkerat, Lprocworkerat, Gprocworkerat_10, V10_eq, GprocworkerendWord_procworkerto, Vprocworkerto, Tprocworkerto, Lprocworkerto, GprocStep_slicesClone_uint64uint64, VslicesClone_uint64uint64, TslicesClone_uint64uint64, LslicesClone_uint64uint64, hB, hR, hI, n0, n1, e, all1, ress, res1, retV, Value.cells, newsV_s, e_fork, slcV, seval, eV]
set_option maxHeartbeats 4000000 in
theorem st31a {B : OH} {H0 H : HL} {N : St} {v : Value} {L : List C2} {m i : Nat} (hN : good B H N) (hT : Tab B) {kk p cc h : Nat} (C : Cf kk p cc h) {q : Nat} (hq : q < p) (M : Mem B H0 H m v L) (hL : L.length = bs p h 5) {code key val flag ps ii n o a w : Int} {sm : Bool} (hc : 1 ≤ code ∧ code ≤ 255) (hf : 1 ≤ flag) (hf2 : flag ≤ 256) (hu : u64R flag) (hx : i = fr p h 2 q) (hi : i < L.length) :
    ∃ H' N', VprocStep B [.agg #[.int .i64 (kk : Int), .int .i64 (p : Int), .int .i64 (cc : Int)], .pointer (some ⟨m, 0, none⟩), .int .i64 (q : Int), .agg #[.int .i64 31, .int .i64 code, .int .u64 key, .int .u64 val, .int .u64 flag, .int .i64 0, .int .i64 0, .int .i64 0, .int .i64 0, .int .i64 0, .int .u64 w, .bool false, .slice none 0 0]] H N = some (.ret (.tuple #[.agg #[.int .i64 0, .int .i64 0, .int .u64 0, .int .u64 0, .int .u64 0, .int .i64 0, .int .i64 0, .int .i64 0, .int .i64 0, .int .i64 0, .int .u64 0, .bool false, .slice none 0 0], .agg #[.int .i64 (flag - 1), .int .u64 w], .bool true, .int .i64 0]), H', N') ∧ good B H' N' ∧ Mem B H0 H' m v (L.set i ⟨0, 0⟩) ∧ Oth v H H' := by
  obtain ⟨hB, hR, hI⟩ := gX hN
  have hG : ∃ H N, good B H N := ⟨H, N, hN⟩
  rcases M.sl with ⟨h, _⟩ | ⟨b, cap, rest, rfl, bb, h0, hle, hlk⟩
  · rw [h] at hi; simp at hi
  have hl := M.le
  have lm := M.lm
  have bm := M.bm
  have hbm : (b == m) = false := eqb fun h => M.ne (by rw [h]; rfl)
  have hbm' : (m == b) = false := eqb fun h => M.ne (by rw [h]; rfl)
  have i0 : (0 : Int) ≤ (i : Int) := by omega
  have i1 : ¬ (i : Int) < 0 := by omega
  have i2 : ¬ (i : Int) ≥ (L.length : Int) := by omega
  have nb := ne_N hN hlk
  have nb' := ne_N' hN hlk
  have nm := ne_N hN lm
  have nm' := ne_N' hN lm
  have rb := rN bb
  have rm := rN bm
  have q0 : ¬ (q : Int) < 0 := by omega
  have hp := C.p
  have q1 : ¬ (q : Int) ≥ 16 := by omega
  have q2 : (q : Int) ≥ 0 := by omega
  have e1 := f13 hG kk p cc (cfit C).1 (cfit C).2.1 (cfit C).2.2
  have e2 := f7c hG hT C
  have hS : ((L.length : Int) != ((bs p h 5 : Nat) : Int)) = false := by rw [hL]; simp
  have hb5 := bs5_b C
  have er := rt31 (code := code) (key := key) (val := val) (wc := 0) (wl := 0) (wa := none) (sm := sm) (a := a) (o := o) (n := n) (i := ii) (ps := ps) (flag := flag) (w := w) hG hT C hq hc (by omega)
  have eA : F10 B [.agg #[.int .i64 (kk : Int), .int .i64 (p : Int), .int .i64 (cc : Int)], .int .i64 2, .int .i64 (q : Int)] = some (.tuple #[.int .i64 ((fr p h 2 q : Nat) : Int), .int .i64 0]) := f10 (k0 := 2) (o0 := q) hG hT C.k C.p C.c C.m (by omega) hq
  have ix : ((fr p h 2 q : Nat) : Int) = (i : Int) := by omega
  have iw : IntKind.i64.wrap (i : Int) = (i : Int) := IntWalk.i64_in _ (by omega)
  have hw := c2_w (rest := rest) hi 0 0
  have et := ptold (w := w) hG hf hu
  unfold tdV tdE at et
  rw [if_pos hf2, if_pos hf2] at et
  unfold VprocStep
  simp (disch := omega) only [TprocStep, LprocStep, GprocStep_13, V13_eq, GprocStep_7, V7_eq, GprocStep_procRight, VprocRight_eq, GprocStep_procsteps, Vprocsteps, Tprocsteps, Lprocsteps, GprocStep_procworkerendFlag, VprocworkerendFlag, TprocworkerendFlag, LprocworkerendFlag, GprocworkerendFlag_cellsStore, VcellsStore, TcellsStore, LcellsStore, GcellsStore_cellscell, Vcellscell, Tcellscell, Lcellscell, Gcellscell_cellsplace_Cell, Vcellsplace_Cell, Tcellsplace_Cell, Lcellsplace_Cell, DcellsStore_cellscaught, Ucellscaught, Lcellscaught, GprocworkerendFlag_procworkerat, Vprocworkerat, Tprocworkerat, Lprocworkerat, Gprocworkerat_10, V10_eq, GprocworkerendFlag_recTold, VrecTold_eq, GprocStep_slicesClone_uint64uint64, VslicesClone_uint64uint64, TslicesClone_uint64uint64, LslicesClone_uint64uint64, hB, hR, hI, ev5, lm, bm, rm, nm, nm', i0, i1, i2, hi, hlk, bb, rb, nb, nb', hbm, hbm', Option.isNone_some, Option.isNone_none, q0, q1, q2, e1, e2, er, hS, orJ_eq, anJ_eq, clJ_eq, pbI_eq, pbI_eq', lkI_eq, ulI_eq, btI_eq, IntKind.bits, eA, ix, iw, hw, et, all1, ress, res1, retV, Value.cells, newsV_s, e_fork, slcV, seval, eV]
  refine ⟨_, _, rfl, ?_, ⟨?_, bm, .inr ⟨b, cap, rest, by first | rfl | rw [List.length_set], bb, h0, by first | exact hle | (rw [List.length_set]; exact hle), ?_⟩, M.ne, by first | exact hl | (rw [List.length_set]; exact hl)⟩, fun y c hy e => ?_⟩
  · repeat (first | exact hN | exact good_up hN bb hlk | refine good_new ?_)
  · simp (disch := omega) only [TprocStep, LprocStep, GprocStep_13, V13_eq, GprocStep_7, V7_eq, GprocStep_procRight, VprocRight_eq, GprocStep_procsteps, Vprocsteps, Tprocsteps, Lprocsteps, GprocStep_procworkerendFlag, VprocworkerendFlag, TprocworkerendFlag, LprocworkerendFlag, GprocworkerendFlag_cellsStore, VcellsStore, TcellsStore, LcellsStore, GcellsStore_cellscell, Vcellscell, Tcellscell, Lcellscell, Gcellscell_cellsplace_Cell, Vcellsplace_Cell, Tcellsplace_Cell, Lcellsplace_Cell, DcellsStore_cellscaught, Ucellscaught, Lcellscaught, GprocworkerendFlag_procworkerat, Vprocworkerat, Tprocworkerat, Lprocworkerat, Gprocworkerat_10, V10_eq, GprocworkerendFlag_recTold, VrecTold_eq, GprocStep_slicesClone_uint64uint64, VslicesClone_uint64uint64, TslicesClone_uint64uint64, LslicesClone_uint64uint64, hB, hR, hI, nm, hbm', lm, all1, ress, res1, retV, Value.cells, newsV_s, e_fork, slcV, seval, eV]
  · simp (disch := omega) only [TprocStep, LprocStep, GprocStep_13, V13_eq, GprocStep_7, V7_eq, GprocStep_procRight, VprocRight_eq, GprocStep_procsteps, Vprocsteps, Tprocsteps, Lprocsteps, GprocStep_procworkerendFlag, VprocworkerendFlag, TprocworkerendFlag, LprocworkerendFlag, GprocworkerendFlag_cellsStore, VcellsStore, TcellsStore, LcellsStore, GcellsStore_cellscell, Vcellscell, Tcellscell, Lcellscell, Gcellscell_cellsplace_Cell, Vcellsplace_Cell, Tcellsplace_Cell, Lcellsplace_Cell, DcellsStore_cellscaught, Ucellscaught, Lcellscaught, GprocworkerendFlag_procworkerat, Vprocworkerat, Tprocworkerat, Lprocworkerat, Gprocworkerat_10, V10_eq, GprocworkerendFlag_recTold, VrecTold_eq, GprocStep_slicesClone_uint64uint64, VslicesClone_uint64uint64, TslicesClone_uint64uint64, LslicesClone_uint64uint64, hB, hR, hI, nb, hlk, all1, ress, res1, retV, Value.cells, newsV_s, e_fork, slcV, seval, eV]
  · have n0 := ne_N hN e
    have n1 : (y == b) = false := eqb fun h => hy (by rw [h]; rfl)
    simp (disch := omega) only [TprocStep, LprocStep, GprocStep_13, V13_eq, GprocStep_7, V7_eq, GprocStep_procRight, VprocRight_eq, GprocStep_procsteps, Vprocsteps, Tprocsteps, Lprocsteps, GprocStep_procworkerendFlag, VprocworkerendFlag, TprocworkerendFlag, LprocworkerendFlag, GprocworkerendFlag_cellsStore, VcellsStore, TcellsStore, LcellsStore, GcellsStore_cellscell, Vcellscell, Tcellscell, Lcellscell, Gcellscell_cellsplace_Cell, Vcellsplace_Cell, Tcellsplace_Cell, Lcellsplace_Cell, DcellsStore_cellscaught, Ucellscaught, Lcellscaught, GprocworkerendFlag_procworkerat, Vprocworkerat, Tprocworkerat, Lprocworkerat, Gprocworkerat_10, V10_eq, GprocworkerendFlag_recTold, VrecTold_eq, GprocStep_slicesClone_uint64uint64, VslicesClone_uint64uint64, TslicesClone_uint64uint64, LslicesClone_uint64uint64, hB, hR, hI, n0, n1, e, all1, ress, res1, retV, Value.cells, newsV_s, e_fork, slcV, seval, eV]
set_option maxHeartbeats 4000000 in
theorem st31b {B : OH} {H0 H : HL} {N : St} {v : Value} {L : List C2} {m i : Nat} (hN : good B H N) (hT : Tab B) {kk p cc h : Nat} (C : Cf kk p cc h) {q : Nat} (hq : q < p) (M : Mem B H0 H m v L) (hL : L.length = bs p h 5) {code key val flag ps ii n o a w : Int} {sm : Bool} (hc : 1 ≤ code ∧ code ≤ 255) (hf : 1 ≤ flag) (hf2 : ¬ flag ≤ 256) (hu : u64R flag) (hx : i = fr p h 2 q) (hi : i < L.length) :
    ∃ H' N', VprocStep B [.agg #[.int .i64 (kk : Int), .int .i64 (p : Int), .int .i64 (cc : Int)], .pointer (some ⟨m, 0, none⟩), .int .i64 (q : Int), .agg #[.int .i64 31, .int .i64 code, .int .u64 key, .int .u64 val, .int .u64 flag, .int .i64 0, .int .i64 0, .int .i64 0, .int .i64 0, .int .i64 0, .int .u64 w, .bool false, .slice none 0 0]] H N = some (.ret (.tuple #[.agg #[.int .i64 0, .int .i64 0, .int .u64 0, .int .u64 0, .int .u64 0, .int .i64 0, .int .i64 0, .int .i64 0, .int .i64 0, .int .i64 0, .int .u64 0, .bool false, .slice none 0 0], .agg #[.int .i64 0, .int .u64 0], .bool true, .int .i64 0]), H', N') ∧ good B H' N' ∧ Mem B H0 H' m v (L.set i ⟨0, 0⟩) ∧ Oth v H H' := by
  obtain ⟨hB, hR, hI⟩ := gX hN
  have hG : ∃ H N, good B H N := ⟨H, N, hN⟩
  rcases M.sl with ⟨h, _⟩ | ⟨b, cap, rest, rfl, bb, h0, hle, hlk⟩
  · rw [h] at hi; simp at hi
  have hl := M.le
  have lm := M.lm
  have bm := M.bm
  have hbm : (b == m) = false := eqb fun h => M.ne (by rw [h]; rfl)
  have hbm' : (m == b) = false := eqb fun h => M.ne (by rw [h]; rfl)
  have i0 : (0 : Int) ≤ (i : Int) := by omega
  have i1 : ¬ (i : Int) < 0 := by omega
  have i2 : ¬ (i : Int) ≥ (L.length : Int) := by omega
  have nb := ne_N hN hlk
  have nb' := ne_N' hN hlk
  have nm := ne_N hN lm
  have nm' := ne_N' hN lm
  have rb := rN bb
  have rm := rN bm
  have q0 : ¬ (q : Int) < 0 := by omega
  have hp := C.p
  have q1 : ¬ (q : Int) ≥ 16 := by omega
  have q2 : (q : Int) ≥ 0 := by omega
  have e1 := f13 hG kk p cc (cfit C).1 (cfit C).2.1 (cfit C).2.2
  have e2 := f7c hG hT C
  have hS : ((L.length : Int) != ((bs p h 5 : Nat) : Int)) = false := by rw [hL]; simp
  have hb5 := bs5_b C
  have er := rt31 (code := code) (key := key) (val := val) (wc := 0) (wl := 0) (wa := none) (sm := sm) (a := a) (o := o) (n := n) (i := ii) (ps := ps) (flag := flag) (w := w) hG hT C hq hc (by omega)
  have eA : F10 B [.agg #[.int .i64 (kk : Int), .int .i64 (p : Int), .int .i64 (cc : Int)], .int .i64 2, .int .i64 (q : Int)] = some (.tuple #[.int .i64 ((fr p h 2 q : Nat) : Int), .int .i64 0]) := f10 (k0 := 2) (o0 := q) hG hT C.k C.p C.c C.m (by omega) hq
  have ix : ((fr p h 2 q : Nat) : Int) = (i : Int) := by omega
  have iw : IntKind.i64.wrap (i : Int) = (i : Int) := IntWalk.i64_in _ (by omega)
  have hw := c2_w (rest := rest) hi 0 0
  have et := ptold (w := w) hG hf hu
  unfold tdV tdE at et
  rw [if_neg hf2, if_neg hf2] at et
  unfold VprocStep
  simp (disch := omega) only [TprocStep, LprocStep, GprocStep_13, V13_eq, GprocStep_7, V7_eq, GprocStep_procRight, VprocRight_eq, GprocStep_procsteps, Vprocsteps, Tprocsteps, Lprocsteps, GprocStep_procworkerendFlag, VprocworkerendFlag, TprocworkerendFlag, LprocworkerendFlag, GprocworkerendFlag_cellsStore, VcellsStore, TcellsStore, LcellsStore, GcellsStore_cellscell, Vcellscell, Tcellscell, Lcellscell, Gcellscell_cellsplace_Cell, Vcellsplace_Cell, Tcellsplace_Cell, Lcellsplace_Cell, DcellsStore_cellscaught, Ucellscaught, Lcellscaught, GprocworkerendFlag_procworkerat, Vprocworkerat, Tprocworkerat, Lprocworkerat, Gprocworkerat_10, V10_eq, GprocworkerendFlag_recTold, VrecTold_eq, GprocStep_slicesClone_uint64uint64, VslicesClone_uint64uint64, TslicesClone_uint64uint64, LslicesClone_uint64uint64, hB, hR, hI, ev5, lm, bm, rm, nm, nm', i0, i1, i2, hi, hlk, bb, rb, nb, nb', hbm, hbm', Option.isNone_some, Option.isNone_none, q0, q1, q2, e1, e2, er, hS, orJ_eq, anJ_eq, clJ_eq, pbI_eq, pbI_eq', lkI_eq, ulI_eq, btI_eq, IntKind.bits, eA, ix, iw, hw, et, all1, ress, res1, retV, Value.cells, newsV_s, e_fork, slcV, seval, eV]
  refine ⟨_, _, rfl, ?_, ⟨?_, bm, .inr ⟨b, cap, rest, by first | rfl | rw [List.length_set], bb, h0, by first | exact hle | (rw [List.length_set]; exact hle), ?_⟩, M.ne, by first | exact hl | (rw [List.length_set]; exact hl)⟩, fun y c hy e => ?_⟩
  · repeat (first | exact hN | exact good_up hN bb hlk | refine good_new ?_)
  · simp (disch := omega) only [TprocStep, LprocStep, GprocStep_13, V13_eq, GprocStep_7, V7_eq, GprocStep_procRight, VprocRight_eq, GprocStep_procsteps, Vprocsteps, Tprocsteps, Lprocsteps, GprocStep_procworkerendFlag, VprocworkerendFlag, TprocworkerendFlag, LprocworkerendFlag, GprocworkerendFlag_cellsStore, VcellsStore, TcellsStore, LcellsStore, GcellsStore_cellscell, Vcellscell, Tcellscell, Lcellscell, Gcellscell_cellsplace_Cell, Vcellsplace_Cell, Tcellsplace_Cell, Lcellsplace_Cell, DcellsStore_cellscaught, Ucellscaught, Lcellscaught, GprocworkerendFlag_procworkerat, Vprocworkerat, Tprocworkerat, Lprocworkerat, Gprocworkerat_10, V10_eq, GprocworkerendFlag_recTold, VrecTold_eq, GprocStep_slicesClone_uint64uint64, VslicesClone_uint64uint64, TslicesClone_uint64uint64, LslicesClone_uint64uint64, hB, hR, hI, nm, hbm', lm, all1, ress, res1, retV, Value.cells, newsV_s, e_fork, slcV, seval, eV]
  · simp (disch := omega) only [TprocStep, LprocStep, GprocStep_13, V13_eq, GprocStep_7, V7_eq, GprocStep_procRight, VprocRight_eq, GprocStep_procsteps, Vprocsteps, Tprocsteps, Lprocsteps, GprocStep_procworkerendFlag, VprocworkerendFlag, TprocworkerendFlag, LprocworkerendFlag, GprocworkerendFlag_cellsStore, VcellsStore, TcellsStore, LcellsStore, GcellsStore_cellscell, Vcellscell, Tcellscell, Lcellscell, Gcellscell_cellsplace_Cell, Vcellsplace_Cell, Tcellsplace_Cell, Lcellsplace_Cell, DcellsStore_cellscaught, Ucellscaught, Lcellscaught, GprocworkerendFlag_procworkerat, Vprocworkerat, Tprocworkerat, Lprocworkerat, Gprocworkerat_10, V10_eq, GprocworkerendFlag_recTold, VrecTold_eq, GprocStep_slicesClone_uint64uint64, VslicesClone_uint64uint64, TslicesClone_uint64uint64, LslicesClone_uint64uint64, hB, hR, hI, nb, hlk, all1, ress, res1, retV, Value.cells, newsV_s, e_fork, slcV, seval, eV]
  · have n0 := ne_N hN e
    have n1 : (y == b) = false := eqb fun h => hy (by rw [h]; rfl)
    simp (disch := omega) only [TprocStep, LprocStep, GprocStep_13, V13_eq, GprocStep_7, V7_eq, GprocStep_procRight, VprocRight_eq, GprocStep_procsteps, Vprocsteps, Tprocsteps, Lprocsteps, GprocStep_procworkerendFlag, VprocworkerendFlag, TprocworkerendFlag, LprocworkerendFlag, GprocworkerendFlag_cellsStore, VcellsStore, TcellsStore, LcellsStore, GcellsStore_cellscell, Vcellscell, Tcellscell, Lcellscell, Gcellscell_cellsplace_Cell, Vcellsplace_Cell, Tcellsplace_Cell, Lcellsplace_Cell, DcellsStore_cellscaught, Ucellscaught, Lcellscaught, GprocworkerendFlag_procworkerat, Vprocworkerat, Tprocworkerat, Lprocworkerat, Gprocworkerat_10, V10_eq, GprocworkerendFlag_recTold, VrecTold_eq, GprocStep_slicesClone_uint64uint64, VslicesClone_uint64uint64, TslicesClone_uint64uint64, LslicesClone_uint64uint64, hB, hR, hI, n0, n1, e, all1, ress, res1, retV, Value.cells, newsV_s, e_fork, slcV, seval, eV]
end Go.Proofs.YtbpaekbjpapgeaaGreatDoor
namespace Go.Proofs.YtbpaekbjpapgeaaGreatDoor
open Go.Proofs.YtbpaekbjpapgeaaGreatDoor.K Go.ChangeShapes Go.WideShapes Go.ChangeAt Go.RowKit 
set_option maxRecDepth 100000
set_option linter.unusedSimpArgs false
set_option linter.unusedVariables false
def C2s (M : List C2) : Prop := ∀ x ∈ M, u64R x.w ∧ i64R x.l
theorem C2s.at {K : List C2} (h : C2s K) (i : Nat) : u64R (K.getD i z2).w ∧ i64R (K.getD i z2).l := by
  rcases Nat.lt_or_ge i K.length with hi | hi
  · exact h _ (List.mem_of_getElem? (some_getD (d := z2) hi))
  · rw [List.getD_eq_getElem?_getD, List.getElem?_eq_none hi]
    unfold u64R i64R; simp [z2]
theorem wr_c2 {L : List C2} {rest : List Value} {i : Nat} (x : C2) (hi : i < L.length) : wr (fl c2 L ++ rest) (i * 2) [.int .u64 x.w, .int .i64 x.l] = some (fl c2 (L.set i x) ++ rest) := by
  have h1 := wr_fl c2_len L i 0 [.int .u64 x.w, .int .i64 x.l] z2 x hi (by simp) rfl
  rw [Nat.add_zero] at h1
  rw [wr_append_left _ _ _ _ (by rw [fl_length c2_len]; simp; omega), h1]; rfl
theorem slm_elim {B : OH} {H0 H : HL} {v : Value} {L : List C2} (h : SlM c2 2 B H0 H v L) (hL : 0 < L.length) : ∃ b cap rest, v = .slice (some ⟨b, 0, none⟩) L.length cap ∧ B b = none ∧ lk H0 b = none ∧ L.length ≤ cap ∧ lk H b = some (.cells (fl c2 L ++ rest) (cap * 2)) := by
  rcases h with ⟨h0, _⟩ | h
  · rw [h0] at hL; simp at hL
  · exact h
def Llaw16pick : FnL := ⟨(.seq (.ops [oa 4 (.mv (oi 0))])
 (.seq (.seq (.ops [om 5 0,oa 6 (.bin .lss (ot 5) (oi 0))])
 (.cond (ot 6) (.ops [om 7 0,oa 8 (.bin .add (ot 7) (oi 1)),oa 9 (.un .neg (ot 8)),om 0 9])
 .skip))
 (.seq (.ops [om 10 0,om 11 1,oa 12 (.bin .rem (ot 10) (ot 11)),om 4 12])
 .ret))),
 13, [.tmp 4]⟩
theorem lowlaw16pick : lowerFn Tryz.prog Tryz.f33 = some Llaw16pick := by kernel_rfl
noncomputable def Glaw16pick (B : OH) : Nat → Cs
  | _ => fun _ _ _ => none
theorem sGlaw16pick {w0 : World} {B : OH} : SoundG Tryz.prog w0 B { f := Glaw16pick B } := .of fun k => by
  unfold Glaw16pick
  split
  · exact .inl fun _ _ _ => rfl
theorem enlaw16pick : Enter Tryz.prog 33 := .of Tryz.func33 (by kernel_rfl) (by kernel_rfl)
noncomputable def Tlaw16pick (B : OH) : Cs := callF B { f := Glaw16pick B } 1000000 Llaw16pick
theorem sTlaw16pick {w0 : World} {B : OH} : SoundC Tryz.prog w0 B 33 (Tlaw16pick B) := callF_sound mixedOrders sGlaw16pick 1000000 Tryz.func33 lowlaw16pick
noncomputable def Flaw16pick (B : OH) : List Value → Option Value := kval B (Tlaw16pick B)
noncomputable def Vlaw16pick (B : OH) : Cs := fun a H N => pvE (Flaw16pick B a) H N
theorem Vlaw16pick_eq {B : OH} {a : List Value} {H : HL} {N : St} : Vlaw16pick B a H N = pvE (Flaw16pick B a) H N := rfl
theorem sVlaw16pick {w0 : World} {B : OH} : SoundC Tryz.prog w0 B 33 (Vlaw16pick B) := sTlaw16pick.ofVal
theorem fpick {B : OH} (hG : ∃ H N, good B H N) (x n : Int) (hx : i64R x) (hn : 0 < n ∧ n ≤ 9223372036854775807) : Flaw16pick B [.int .i64 x, .int .i64 n] = some (.int .i64 (pk x n)) := by
  unfold i64R at hx
  refine kval_eq hG fun H N hN => ?_
  obtain ⟨hB, hR, hI⟩ := gX hN
  have hn0 : ¬ n = 0 := by omega
  unfold pk
  by_cases h : x < 0
  · have hw : IntKind.i64.wrap (0 - (x + 1)) = -(x + 1) := by rw [IntWalk.i64_in _ (by omega)]; omega
    simp (disch := omega) only [Tlaw16pick, Llaw16pick, hB, hR, hI, h, hn0, hw, all1, ress, res1, retV, Value.cells, newsV_s, e_fork, slcV, seval, eV]
    with_reducible refine done2 ?_
    repeat (first | refine ext_new hN ?_ | exact fun _ _ h => h)
  · simp (disch := omega) only [Tlaw16pick, Llaw16pick, hB, hR, hI, h, hn0, all1, ress, res1, retV, Value.cells, newsV_s, e_fork, slcV, seval, eV]
    with_reducible refine done2 ?_
    repeat (first | refine ext_new hN ?_ | exact fun _ _ h => h)
def Llaw16Conf : FnL := ⟨(.seq (.ops [oa 1 (.box (ot 0)),oa 2 (.alloc [(.int .i64 0), (.int .i64 0), (.int .i64 0)])])
 (.seq (.draw [oe 3 (.iaddrA 1 3 (ot 1) (oi 0)),pl 4 3,oe 7 (.iaddrA 1 3 (ot 1) (oi 1)),pl 8 7,oe 11 (.iaddrA 1 3 (ot 1) (oi 2)),pl 12 11, ⟨oa 5 (.call (.func 33) [(ot 4), (oi 5)]), [ol 8 7,ol 12 11]⟩,oe 6 (.bin .add (oi 1) (ot 5)), ⟨oa 9 (.call (.func 33) [(ot 8), (oi 4)]), [ol 12 11]⟩,oe 10 (.bin .add (oi 1) (ot 9)),oe 13 (.call (.func 33) [(ot 12), (oi 4)]),oe 14 (.bin .add (oi 1) (ot 13)),oe 15 (.build [(.int .i64 0), (.int .i64 0), (.int .i64 0)] [(0, 1, (ot 6)), (1, 1, (ot 10)), (2, 1, (ot 14))]), ⟨oc (.store 3 (ot 2) (ot 15)),[]⟩])
 .ret)),
 16, [.cell 2 true 3]⟩
theorem lowlaw16Conf : lowerFn Tryz.prog Tryz.f10 = some Llaw16Conf := by kernel_rfl
noncomputable def Glaw16Conf (B : OH) : Nat → Cs
  | 33 => Vlaw16pick B
  | _ => fun _ _ _ => none
theorem Glaw16Conf_law16pick {B : OH} : Glaw16Conf B 33 = Vlaw16pick B := rfl
theorem sGlaw16Conf {w0 : World} {B : OH} : SoundG Tryz.prog w0 B { f := Glaw16Conf B } := .of fun k => by
  unfold Glaw16Conf
  split
  · exact .inr ⟨enlaw16pick, sVlaw16pick⟩
  · exact .inl fun _ _ _ => rfl
theorem enlaw16Conf : Enter Tryz.prog 10 := .of Tryz.func10 (by kernel_rfl) (by kernel_rfl)
noncomputable def Tlaw16Conf (B : OH) : Cs := callF B { f := Glaw16Conf B } 1000000 Llaw16Conf
theorem sTlaw16Conf {w0 : World} {B : OH} : SoundC Tryz.prog w0 B 10 (Tlaw16Conf B) := callF_sound mixedOrders sGlaw16Conf 1000000 Tryz.func10 lowlaw16Conf
noncomputable def Flaw16Conf (B : OH) : List Value → Option Value := kval B (Tlaw16Conf B)
noncomputable def Vlaw16Conf (B : OH) : Cs := fun a H N => pvE (Flaw16Conf B a) H N
theorem Vlaw16Conf_eq {B : OH} {a : List Value} {H : HL} {N : St} : Vlaw16Conf B a H N = pvE (Flaw16Conf B a) H N := rfl
theorem sVlaw16Conf {w0 : World} {B : OH} : SoundC Tryz.prog w0 B 10 (Vlaw16Conf B) := sTlaw16Conf.ofVal
set_option maxHeartbeats 1000000 in
theorem fConf {B : OH} (hG : ∃ H N, good B H N) {a b c : Int} (ha : i64R a) (hb : i64R b) (hc : i64R c) : Flaw16Conf B [.agg #[.int .i64 a, .int .i64 b, .int .i64 c]] = some (.agg #[.int .i64 (1 + pk a 5), .int .i64 (1 + pk b 4), .int .i64 (1 + pk c 4)]) := by
  refine kval_eq hG fun H N hN => ?_
  obtain ⟨hB, hR, hI⟩ := gX hN
  have ea := fpick hG a 5 ha (by omega)
  have eb := fpick hG b 4 hb (by omega)
  have ec := fpick hG c 4 hc (by omega)
  have ba := pk_b (x := a) (n := 5) (by omega)
  have bb := pk_b (x := b) (n := 4) (by omega)
  have bc := pk_b (x := c) (n := 4) (by omega)
  simp (disch := omega) only [Tlaw16Conf, Llaw16Conf, Glaw16Conf_law16pick, Vlaw16pick_eq, hB, hR, hI, ea, eb, ec, all1, ress, res1, retV, Value.cells, newsV_s, e_fork, slcV, seval, eV]
  with_reducible refine done2 ?_
  repeat (first | refine ext_new hN ?_ | exact fun _ _ h => h)
theorem conf_cf (a b c : Int) : ∃ kk p cc h : Nat, 1 + pk a 5 = (kk : Int) ∧ 1 + pk b 4 = (p : Int) ∧ 1 + pk c 4 = (cc : Int) ∧ Cf kk p cc h ∧ p ≤ 4 ∧ cc ≤ 4 := by
  have ba := pk_b (x := a) (n := 5) (by omega)
  have bb := pk_b (x := b) (n := 4) (by omega)
  have bc := pk_b (x := c) (n := 4) (by omega)
  obtain ⟨kk, p, cc, h, e1, e2, e3, C⟩ := fit_cf (k := 1 + pk a 5) (p := 1 + pk b 4) (c := 1 + pk c 4) ⟨by omega, by omega, by omega⟩
  exact ⟨kk, p, cc, h, e1, e2, e3, C, by omega, by omega⟩
structure Q3 where
  a : Int
  b : Int
  c : Int
def q3 (x : Q3) : List Value := [.int .i64 x.a, .int .i64 x.b, .int .i64 x.c]
def q30 : Q3 := ⟨0, 0, 0⟩
theorem q3_len (x : Q3) : (q3 x).length = 3 := rfl
def Q3s (l : List Q3) : Prop := ∀ x ∈ l, i64R x.a ∧ i64R x.b ∧ i64R x.c
theorem c2s_set {L : List C2} (h : C2s L) (i : Nat) {x : C2} (hx : u64R x.w ∧ i64R x.l) : C2s (L.set i x) := fun y hy => by
  rcases List.mem_or_eq_of_mem_set hy with h' | h'
  · exact h y h'
  · rw [h']; exact hx
theorem rep_c2s (n : Nat) : C2s (List.replicate n z2) := fun x hx => by
  rw [(List.mem_replicate.1 hx).2]; unfold z2 u64R i64R; simp only; omega
def Llaw16Memory : FnL := ⟨(.seq (.ops [oa 2 (.box (ot 0)),oa 4 (.alloc [(.slice none 0 0)])])
 (.seq (.ops [oa 10 (.load true 3 (ot 2)),oa 11 (.call (.func 47) [(ot 10)]),oa 12 (.call (.func 59) [(ot 11)]),om 9 12,oa 13 (.ext (ot 9) 0),oa 14 (.ext (ot 9) 1),oa 5 (.alloc [(.slice none 0 0)]), oc (.store 1 (ot 5) (ot 13)),om 6 14])
 (.seq (.seq (.ops [oa 7 (.mv (oi 0))])
 (.block 0 (.loop (.seq (.seq (.ops [om 15 7,om 16 1,oa 17 (.len false (ot 16)),oa 18 (.bin .lss (ot 15) (ot 17)),om 19 18,ob 20 (.mv (ot 7)) 19 true,ob 21 (.bin .lss (ot 20) (oi 30)) 19 true,oa 22 (.pick (ot 19) (ot 21) (.const (.bool false)))])
 (.cond (ot 22) .skip
 (.exit 0)))
 (.seq (.block 1 (.seq (.draw [pm 25 1,pm 26 7,oe 27 (.iaddrS 3 (ot 25) (ot 26)),oe 28 (.iaddrA 1 3 (ot 27) (oi 0)),pl 29 28,pg 30 0 5,pl 31 30,oe 32 (.len false (ot 31)),oe 33 (.call (.func 33) [(ot 29), (ot 32)]),pm 8 33])
 (.draw [pg 34 0 5,pl 35 34,pm 36 8,pm 37 1,pm 38 7,oe 39 (.iaddrS 3 (ot 37) (ot 38)),oe 40 (.iaddrA 1 3 (ot 39) (oi 1)),pl 41 40,pm 44 1,pm 45 7,oe 46 (.iaddrS 3 (ot 44) (ot 45)),oe 47 (.iaddrA 1 3 (ot 46) (oi 2)),pl 48 47,pg 49 1 2,pl 50 49,oe 51 (.bin .shl (oi 1) (ot 50)), ⟨oa 42 (.call (.func 33) [(ot 41), (oi 20)]), [ol 35 34,ol 48 47,ol 50 49]⟩,oe 43 (.conv .u64 (ot 42)), ⟨oa 52 (.call (.func 33) [(ot 48), (ot 51)]), [ol 35 34]⟩,oe 53 (.build [(.int .u64 0), (.int .i64 0)] [(0, 1, (ot 43)), (1, 1, (ot 52))]),oe 54 (.iaddrS 2 (ot 35) (ot 36)), ⟨oc (.store 2 (ot 54) (ot 53)),[]⟩])))
 (.ops [om 23 7,oa 24 (.bin .add (ot 23) (oi 1)),om 7 24]))))))
 (.seq (.ops [oa 55 (.load true 1 (ot 5)), oc (.store 1 (ot 4) (ot 55))])
 .ret)))),
 56, [.cell 4 true 1]⟩
theorem lowlaw16Memory : lowerFn Tryz.prog Tryz.f27 = some Llaw16Memory := by kernel_rfl
noncomputable def Glaw16Memory (B : OH) : Nat → Cs
  | 33 => Vlaw16pick B
  | 59 => Vref03New B
  | 47 => Vref04Size B
  | _ => fun _ _ _ => none
theorem Glaw16Memory_law16pick {B : OH} : Glaw16Memory B 33 = Vlaw16pick B := rfl
theorem Glaw16Memory_ref03New {B : OH} : Glaw16Memory B 59 = Vref03New B := rfl
theorem Glaw16Memory_ref04Size {B : OH} : Glaw16Memory B 47 = Vref04Size B := rfl
theorem sGlaw16Memory {w0 : World} {B : OH} : SoundG Tryz.prog w0 B { f := Glaw16Memory B } := .of fun k => by
  unfold Glaw16Memory
  split
  · exact .inr ⟨enlaw16pick, sVlaw16pick⟩
  · exact .inr ⟨enref03New, sVref03New⟩
  · exact .inr ⟨enref04Size, sVref04Size⟩
  · exact .inl fun _ _ _ => rfl
theorem enlaw16Memory : Enter Tryz.prog 27 := .of Tryz.func27 (by kernel_rfl) (by kernel_rfl)
noncomputable def Tlaw16Memory (B : OH) : Cs := callF B { f := Glaw16Memory B } 1000000 Llaw16Memory
theorem sTlaw16Memory {w0 : World} {B : OH} : SoundC Tryz.prog w0 B 27 (Tlaw16Memory B) := callF_sound mixedOrders sGlaw16Memory 1000000 Tryz.func27 lowlaw16Memory
noncomputable def Vlaw16Memory (B : OH) : Cs := Tlaw16Memory B
theorem sVlaw16Memory {w0 : World} {B : OH} : SoundC Tryz.prog w0 B 27 (Vlaw16Memory B) := sTlaw16Memory
structure KMm (vr : Value) (c o4 ow i : Nat) (ts : List Value) : Prop where
  l : ts.length = 56
  t1 : gt ts 1 = vr
  t2 : gt ts 2 = .pointer (some ⟨c, 0, none⟩)
  t4 : gt ts 4 = .pointer (some ⟨o4, 0, none⟩)
  t5 : gt ts 5 = .pointer (some ⟨ow, 0, none⟩)
  t7 : gt ts 7 = .int .i64 (i : Int)
def lbMm : LC := (.seq (.seq (.ops [om 15 7,om 16 1,oa 17 (.len false (ot 16)),oa 18 (.bin .lss (ot 15) (ot 17)),om 19 18,ob 20 (.mv (ot 7)) 19 true,ob 21 (.bin .lss (ot 20) (oi 30)) 19 true,oa 22 (.pick (ot 19) (ot 21) (.const (.bool false)))])
 (.cond (ot 22) .skip
 (.exit 0)))
 (.seq (.block 1 (.seq (.draw [pm 25 1,pm 26 7,oe 27 (.iaddrS 3 (ot 25) (ot 26)),oe 28 (.iaddrA 1 3 (ot 27) (oi 0)),pl 29 28,pg 30 0 5,pl 31 30,oe 32 (.len false (ot 31)),oe 33 (.call (.func 33) [(ot 29), (ot 32)]),pm 8 33])
 (.draw [pg 34 0 5,pl 35 34,pm 36 8,pm 37 1,pm 38 7,oe 39 (.iaddrS 3 (ot 37) (ot 38)),oe 40 (.iaddrA 1 3 (ot 39) (oi 1)),pl 41 40,pm 44 1,pm 45 7,oe 46 (.iaddrS 3 (ot 44) (ot 45)),oe 47 (.iaddrA 1 3 (ot 46) (oi 2)),pl 48 47,pg 49 1 2,pl 50 49,oe 51 (.bin .shl (oi 1) (ot 50)), ⟨oa 42 (.call (.func 33) [(ot 41), (oi 20)]), [ol 35 34,ol 48 47,ol 50 49]⟩,oe 43 (.conv .u64 (ot 42)), ⟨oa 52 (.call (.func 33) [(ot 48), (ot 51)]), [ol 35 34]⟩,oe 53 (.build [(.int .u64 0), (.int .i64 0)] [(0, 1, (ot 43)), (1, 1, (ot 52))]),oe 54 (.iaddrS 2 (ot 35) (ot 36)), ⟨oc (.store 2 (ot 54) (ot 53)),[]⟩])))
 (.ops [om 23 7,oa 24 (.bin .add (ot 23) (oi 1)),om 7 24])))
set_option maxHeartbeats 4000000 in
theorem loopMm {B : OH} {Hx H : HL} {N : St} {M : List C2} {vr : Value} {raw : List Q3} {rest : List Value} {kk p cc h c o4 ow b len cap : Nat} (C : Cf kk p cc h) (hp : p ≤ 4) (hw : SlR q3 3 B Hx vr raw) (hrs : Q3s raw) (hFx : Fr Hx H) (hxb : lk Hx b = none) (hlen : len = M.length) (hM0 : 0 < M.length) (hM : M.length ≤ 800000) (hMs : C2s M) (hN : good B H N) (bc : B c = none) (bo : B ow = none) (bb : B b = none) (lc : lk H c = some (.cells [.int .i64 (kk : Int), .int .i64 (p : Int), .int .i64 (cc : Int)] 3)) (lo : lk H ow = some (.cells [.slice (some ⟨b, 0, none⟩) len cap] 1)) (hlk : lk H b = some (.cells (fl c2 M ++ rest) (cap * 2))) (hcb : c ≠ b) (hob : ow ≠ b) {ts : List Value} (kp : KMm vr c o4 ow 0 ts) {F : Nat} (hF : 3000 + 30 + 1 ≤ F) :
    Ok (exec B { f := Glaw16Memory B } F (LC.loop lbMm) ⟨ts, H, N⟩) (fun x s => x = .exit 0 ∧ good B s.H s.N ∧ (∀ y c', y ≠ b → lk H y = some c' → lk s.H y = some c') ∧ ∃ M', M'.length = M.length ∧ C2s M' ∧ lk s.H b = some (.cells (fl c2 M' ++ rest) (cap * 2)) ∧ ∃ i, KMm vr c o4 ow i s.t) := by
  have hlw := hw.len
  subst hlen
  obtain ⟨K, hK⟩ : ∃ K, K = M.length := ⟨_, rfl⟩
  rw [← hK] at lo hM hM0 ⊢
  refine loop_rule (n0 := 3000) (fun q s => ∃ ts H' N' M', ∃ i : Nat, s = ⟨ts, H', N'⟩ ∧ KMm vr c o4 ow i ts ∧ good B H' N' ∧ (∀ y c', y ≠ b → lk H y = some c' → lk H' y = some c') ∧ M'.length = K ∧ C2s M' ∧ lk H' b = some (.cells (fl c2 M' ++ rest) (cap * 2)) ∧ i ≤ 30 ∧ q = 30 - i) _ ?_ 30 _ ⟨ts, H, N, M, 0, rfl, kp, hN, fun _ _ _ e => e, hK.symm, hMs, hlk, by omega, rfl⟩ _ hF
  clear kp hF F ts hN N hlk hMs hK M
  rintro z q s ⟨ts, H1, N1, M, i, rfl, kp, g, fk, rfl, hMs, hlk, hi, rfl⟩
  have hB := good_B g
  have hR := good_rdB g
  have hI := beqN g.1.1
  have hG : ∃ H N, good B H N := ⟨H1, N1, g⟩
  have lc1 := fk _ _ hcb lc
  have lo1 := fk _ _ hob lo
  have rc := fun o n => rdB_none (o := o) (n := n) bc
  have ro := fun o n => rdB_none (o := o) (n := n) bo
  have hc1 : ((i + 1 : Nat) : Int) = (i : Int) + 1 := by omega
  by_cases hin : i < raw.length
  case neg =>
    have h1' : ¬ (i : Int) < (raw.length : Int) := by omega
    simp (disch := omega) only [Tlaw16Memory, Llaw16Memory, Glaw16Memory_law16pick, Vlaw16pick_eq, Glaw16Memory_ref03New, Glaw16Memory_ref04Size, Vref04Size_eq, hB, hR, hI, lbMm, kp.l, kp.t1, kp.t2, kp.t4, kp.t5, kp.t7, ev5, lc1, bc, rc, hlw, h1', all1, ress, res1, retV, Value.cells, newsV_s, e_fork, slcV, seval, eV]
    refine ok_some (.inr ⟨by simp, rfl, g, fk, M, rfl, hMs, hlk, i, ⟨?_, ?_, ?_, ?_, ?_, ?_⟩⟩)
    all_goals simp (disch := omega) only [kp.l, kp.t1, kp.t2, kp.t4, kp.t5, kp.t7, ev5, seval, Int.cast_ofNat_Int, decide_true, ev2]
  have hin' : (i : Int) < (raw.length : Int) := by omega
  by_cases h30 : i < 30
  case neg =>
    have h1' : ¬ (i : Int) < 30 := by omega
    simp (disch := omega) only [Tlaw16Memory, Llaw16Memory, Glaw16Memory_law16pick, Vlaw16pick_eq, Glaw16Memory_ref03New, Glaw16Memory_ref04Size, Vref04Size_eq, hB, hR, hI, lbMm, kp.l, kp.t1, kp.t2, kp.t4, kp.t5, kp.t7, ev5, lc1, bc, rc, hlw, hin', h1', all1, ress, res1, retV, Value.cells, newsV_s, e_fork, slcV, seval, eV]
    refine ok_some (.inr ⟨by simp, rfl, g, fk, M, rfl, hMs, hlk, i, ⟨?_, ?_, ?_, ?_, ?_, ?_⟩⟩)
    all_goals simp (disch := omega) only [kp.l, kp.t1, kp.t2, kp.t4, kp.t5, kp.t7, ev5, seval, Int.cast_ofNat_Int, decide_true, ev2]
  have h30' : (i : Int) < 30 := by omega
  have i0 : (0 : Int) ≤ (i : Int) := by omega
  have fx : Fr Hx H1 := fun y c e => fk y c (fun h' => by rw [h', hxb] at e; cases e) (hFx y c e)
  obtain ⟨bw, orw, cw, rfl, _, rr⟩ := hw.at (by omega)
  have r0 : rdO H1 B bw (orw + i * 3) 1 (rdB B bw (orw + i * 3) 1) = some [.int .i64 (raw.getD i q30).a] := (rr H1 fx i 0 1 q30 hin (by omega)).trans rfl
  have r1 : rdO H1 B bw (orw + i * 3 + 1) 1 (rdB B bw (orw + i * 3 + 1) 1) = some [.int .i64 (raw.getD i q30).b] := (rr H1 fx i 1 1 q30 hin (by omega)).trans rfl
  have r2 : rdO H1 B bw (orw + i * 3 + 2) 1 (rdB B bw (orw + i * 3 + 2) 1) = some [.int .i64 (raw.getD i q30).c] := (rr H1 fx i 2 1 q30 hin (by omega)).trans rfl
  have hri := hrs (raw.getD i q30) (List.mem_of_getElem? (some_getD (d := q30) hin))
  generalize raw.getD i q30 = x at r0 r1 r2 hri
  obtain ⟨xa, xb, xc⟩ := x
  simp only at r0 r1 r2 hri
  obtain ⟨s, hs, s1, s2⟩ : ∃ s : Int, s = 2 ^ p ∧ 1 ≤ s ∧ s ≤ 16 := ⟨_, rfl, by
    have : p = 0 ∨ p = 1 ∨ p = 2 ∨ p = 3 ∨ p = 4 := by omega
    rcases this with rfl | rfl | rfl | rfl | rfl <;> decide, by
    have : p = 0 ∨ p = 1 ∨ p = 2 ∨ p = 3 ∨ p = 4 := by omega
    rcases this with rfl | rfl | rfl | rfl | rfl <;> decide⟩
  have e1 := fpick hG xa (M.length : Int) hri.1 (by omega)
  have e2 := fpick hG xb 20 hri.2.1 (by omega)
  have e3 := fpick hG xc s hri.2.2 (by omega)
  have k1 := pk_b (x := xa) (n := (M.length : Int)) (by omega)
  have k2 := pk_b (x := xb) (n := 20) (by omega)
  have k3 := pk_b (x := xc) (n := s) (by omega)
  obtain ⟨at_, hat⟩ : ∃ n : Nat, pk xa (M.length : Int) = (n : Int) := ⟨_, (Int.toNat_of_nonneg k1.1).symm⟩
  rw [hat] at e1 k1
  generalize pk xb 20 = w at *
  generalize pk xc s = lnk at *
  have hatM : at_ < M.length := by omega
  have a0 : (0 : Int) ≤ (at_ : Int) := by omega
  have uw : IntKind.u64.wrap w = w := IntWalk.u64_in _ (by omega)
  have hw2 : wr (fl c2 M ++ rest) (at_ * 2) [.int .u64 w, .int .i64 lnk] = some (fl c2 (M.set at_ ⟨w, lnk⟩) ++ rest) := wr_c2 ⟨w, lnk⟩ hatM
  have p0 : ¬ (p : Int) < 0 := by omega
  have hsh : IntKind.i64.wrap (1 * 2 ^ min p 64) = s := by rw [Nat.min_eq_left (by omega), Int.one_mul, ← hs]; exact IntWalk.i64_in _ (by omega)
  simp (disch := omega) only [Tlaw16Memory, Llaw16Memory, Glaw16Memory_law16pick, Vlaw16pick_eq, Glaw16Memory_ref03New, Glaw16Memory_ref04Size, Vref04Size_eq, hB, hR, hI, lbMm, kp.l, kp.t1, kp.t2, kp.t4, kp.t5, kp.t7, ev5, lc1, bc, rc, lo1, bo, ro, hlw, hin, hin', h30', i0, r0, r1, r2, e1, e2, e3, hatM, a0, uw, hlk, bb, hw2, p0, hsh, Nat.add_zero, all1, ress, res1, retV, Value.cells, newsV_s, e_fork, slcV, seval, eV]
  have gu := good_up (k := .cells (fl c2 (M.set at_ ⟨w, lnk⟩) ++ rest) (cap * 2)) g bb hlk
  refine ok_some (.inl ⟨rfl, 30 - (i + 1), by omega, _, _, _, M.set at_ ⟨w, lnk⟩, i + 1, rfl, ⟨?_, ?_, ?_, ?_, ?_, ?_⟩, gu, fun y c' h1 e => ?_, List.length_set, c2s_set hMs _ (by unfold u64R i64R; simp only; omega), ?_, by omega, rfl⟩)
  rotate_right
  · rw [lk_upH, beq_self_eq_true, cond_true]
  rotate_right
  · rw [lk_upH, eqb h1, cond_false]; exact fk y c' h1 e
  all_goals simp (disch := omega) only [kp.l, kp.t1, kp.t2, kp.t4, kp.t5, kp.t7, ev5, hc1, seval, Int.cast_ofNat_Int, decide_true, ev2]
set_option maxHeartbeats 8000000 in
theorem fMemory {B : OH} {H : HL} {N : St} {vr : Value} {raw : List Q3} {kk p cc h : Nat} (C : Cf kk p cc h) (hp : p ≤ 4) (hN : good B H N) (hw : SlR q3 3 B H vr raw) (hrs : Q3s raw) :
    ∃ v' H' N' M, Vlaw16Memory B [.agg #[.int .i64 (kk : Int), .int .i64 (p : Int), .int .i64 (cc : Int)], vr] H N = some (.ret (.agg #[v']), H', N') ∧ good B H' N' ∧ Fr H H' ∧ SlM c2 2 B H H' v' M ∧ M.length = bs p h 5 ∧ C2s M := by
  have hB := good_B hN
  have hR := good_rdB hN
  have hI := beqN hN.1.1
  have hG : ∃ H N, good B H N := ⟨H, N, hN⟩
  have b0 := hB 0
  have rb0 := fun o n => rdB_none (o := o) (n := n) b0
  have b1 := hB 1
  have rb1 := fun o n => rdB_none (o := o) (n := n) b1
  have h5 := bs5_b C
  have h50 : 0 < bs p h 5 := by rw [bs_5]; omega
  have es := rSize hG C
  obtain ⟨H0, hH0⟩ : ∃ H0, H0 = (N.n 1, KB.cells [.slice none 0 0] 1) :: (N.n 0, .cells [.int .i64 (kk : Int), .int .i64 (p : Int), .int .i64 (cc : Int)] 3) :: H := ⟨_, rfl⟩
  have g0 : good B H0 (sh (sh N)) := by rw [hH0]; exact good_new (good_new hN)
  have f0 : Fr H H0 := by
    rw [hH0]
    have a1 := good_new (k := .cells [.int .i64 (kk : Int), .int .i64 (p : Int), .int .i64 (cc : Int)] 3) hN
    exact fr_new a1 (fr_new hN Fr.refl 0) 0
  have q1 : lk H0 (N.n 1) = some (.cells [.slice none 0 0] 1) := by rw [hH0]; simp only [lk_cons, hI]; rfl
  have q0 : lk H0 (N.n 0) = some (.cells [.int .i64 (kk : Int), .int .i64 (p : Int), .int .i64 (cc : Int)] 3) := by rw [hH0]; simp only [lk_cons, hI]; rfl
  obtain ⟨v', H1, N1, eo, g1, r1, s1⟩ := mnew g0 (n := bs p h 5) (by omega)
  obtain ⟨b, cap, rest, rfl, bb, h0b, hle, hlk⟩ := slm_elim s1.toM (by rw [List.length_replicate]; omega)
  rw [hH0] at eo
  have q0' := r1 _ _ q0
  have q1' := r1 _ _ q1
  have m0 := ne_N g1 q0'
  have m1 := ne_N g1 q1'
  have mb := ne_N g1 hlk
  unfold Vlaw16Memory
  simp (disch := omega) only [Tlaw16Memory, Llaw16Memory, Glaw16Memory_law16pick, Vlaw16pick_eq, Glaw16Memory_ref03New, Glaw16Memory_ref04Size, Vref04Size_eq, hB, hR, hI, ev5, es, eo, q0', b0, rb0, m0, m1, good_B g1, good_rdB g1, all1, ress, res1, retV, Value.cells, newsV_s, e_fork, slcV, seval, eV]
  have hsl : (List.replicate (bs p h 5) z2).length = bs p h 5 := List.length_replicate
  have hss := rep_c2s (bs p h 5)
  generalize List.replicate (bs p h 5) z2 = M at *
  have g2 : good B ((N1.n 0, .cells [.slice (some ⟨b, 0, none⟩) M.length cap] 1) :: H1) (sh N1) := good_new g1
  have f2 : Fr H1 ((N1.n 0, .cells [.slice (some ⟨b, 0, none⟩) M.length cap] 1) :: H1) := fr_new g1 Fr.refl 0
  have e0b : N.n 0 ≠ b := fun e => by rw [← e, q0] at h0b; cases h0b
  have e1b : N.n 1 ≠ b := fun e => by rw [← e, q1] at h0b; cases h0b
  have eob : N1.n 0 ≠ b := fun e => by have := mb 0; rw [e] at this; simp at this
  generalize hX : exec B _ _ (LC.loop _) _ = o
  obtain ⟨x, ⟨ts, H3, N3⟩, rfl, rfl, g3, k3, M', hM', hMs', l3, i, kp⟩ := (show Ok o _ by rw [← hX]; exact loopMm (c := N.n 0) (o4 := N.n 1) (ow := N1.n 0) C hp (hw.mono f0) hrs (r1.trans f2) h0b rfl (by omega) (by omega) hss g2 b0 (good_B g1 0) bb (f2 _ _ q0') lk_top (f2 _ _ hlk) e0b eob ⟨rfl, rfl, rfl, rfl, rfl, rfl⟩ (by omega))
  simp only at g3 k3 l3 kp
  have w0 := k3 _ _ eob lk_top
  have wq1 := k3 _ _ e1b (f2 _ _ q1')
  have b10 := good_B g1 0
  have rb10 := fun o n => rdB_none (o := o) (n := n) b10
  simp (disch := omega) only [Tlaw16Memory, Llaw16Memory, Glaw16Memory_law16pick, Vlaw16pick_eq, Glaw16Memory_ref03New, Glaw16Memory_ref04Size, Vref04Size_eq, hB, hR, hI, kp.l, kp.t1, kp.t2, kp.t4, kp.t5, kp.t7, ev5, w0, wq1, b10, rb10, b1, rb1, all1, ress, res1, retV, Value.cells, newsV_s, e_fork, slcV, seval, eV]
  have g4 := good_up (k := .cells [.slice (some ⟨b, 0, none⟩) M.length cap] 1) g3 b1 wq1
  have f3 : Fr H H3 := fun y c e => k3 y c (fun h' => by rw [← h', f0 _ _ e] at h0b; cases h0b) (f2 _ _ (r1 _ _ (f0 _ _ e)))
  refine ⟨_, _, _, M', rfl, g4, fr_up f3 (lk_N hN 1), .inr ⟨b, cap, rest, by rw [hM'], bb, f0.dm _ h0b, by rw [hM']; exact hle, ?_⟩, by omega, hMs'⟩
  rw [lk_upH, eqb e1b.symm, cond_false]; exact l3
end Go.Proofs.YtbpaekbjpapgeaaGreatDoor
namespace Go.Proofs.YtbpaekbjpapgeaaGreatDoor
open Go.Proofs.YtbpaekbjpapgeaaGreatDoor.K Go.ChangeShapes Go.WideShapes Go.ChangeAt Go.RowKit 
set_option maxRecDepth 100000
set_option linter.unusedSimpArgs false
set_option linter.unusedVariables false
theorem wr_c2w {L : List C2} {rest : List Value} {i : Nat} (x : Int) (hi : i < L.length) : wr (fl c2 L ++ rest) (i * 2) [.int .u64 x] = some (fl c2 (L.set i ⟨x, (L.getD i z2).l⟩) ++ rest) := by
  have h1 := wr_fl c2_len L i 0 [.int .u64 x] z2 ⟨x, (L.getD i z2).l⟩ hi (by simp) rfl
  rw [Nat.add_zero] at h1
  rw [wr_append_left _ _ _ _ (by rw [fl_length c2_len]; simp; omega), h1]; rfl
theorem c2_rr {L : List C2} {rest : List Value} {i : Nat} (hi : i < L.length) : tk (fl c2 L ++ rest) (i * 2) 2 = some [.int .u64 (L.getD i z2).w, .int .i64 (L.getD i z2).l] := by
  have h1 := tk_fl c2_len L i 0 2 z2 hi (by omega)
  rw [Nat.add_zero] at h1
  rw [tk_append_left _ _ _ _ (by rw [fl_length c2_len]; omega), h1]; rfl

noncomputable def Vlaw18awake (B : OH) : Cs := W9 B
theorem sVlaw18awake {w0 : World} {B : OH} : SoundC Tryz.prog w0 B 9 (Vlaw18awake B) := sW9
theorem enlaw18awake : Enter Tryz.prog 9 := .of Tryz.func9 (by kernel_rfl) (by kernel_rfl)
theorem awake18 {B : OH} (hT : Tab B) {H : HL} {N : St} (hN : good B H N) : ∃ H' N', Vlaw18awake B [] H N = some (.ret (.bool true), H', N') ∧ good B H' N' ∧ Fr H H' := awakeOk hT hN
def Llaw18pick : FnL := ⟨(.seq (.ops [oa 4 (.mv (oi 0))])
 (.seq (.seq (.ops [om 5 0,oa 6 (.bin .lss (ot 5) (oi 0))])
 (.cond (ot 6) (.ops [om 7 0,oa 8 (.bin .add (ot 7) (oi 1)),oa 9 (.un .neg (ot 8)),om 0 9])
 .skip))
 (.seq (.ops [om 10 0,om 11 1,oa 12 (.bin .rem (ot 10) (ot 11)),om 4 12])
 .ret))),
 13, [.tmp 4]⟩
theorem lowlaw18pick : lowerFn Tryz.prog Tryz.f12 = some Llaw18pick := by kernel_rfl
noncomputable def Glaw18pick (B : OH) : Nat → Cs
  | _ => fun _ _ _ => none
theorem sGlaw18pick {w0 : World} {B : OH} : SoundG Tryz.prog w0 B { f := Glaw18pick B } := .of fun k => by
  unfold Glaw18pick
  split
  · exact .inl fun _ _ _ => rfl
theorem enlaw18pick : Enter Tryz.prog 12 := .of Tryz.func12 (by kernel_rfl) (by kernel_rfl)
noncomputable def Tlaw18pick (B : OH) : Cs := callF B { f := Glaw18pick B } 1000000 Llaw18pick
theorem sTlaw18pick {w0 : World} {B : OH} : SoundC Tryz.prog w0 B 12 (Tlaw18pick B) := callF_sound mixedOrders sGlaw18pick 1000000 Tryz.func12 lowlaw18pick
noncomputable def Flaw18pick (B : OH) : List Value → Option Value := kval B (Tlaw18pick B)
noncomputable def Vlaw18pick (B : OH) : Cs := fun a H N => pvE (Flaw18pick B a) H N
theorem Vlaw18pick_eq {B : OH} {a : List Value} {H : HL} {N : St} : Vlaw18pick B a H N = pvE (Flaw18pick B a) H N := rfl
theorem sVlaw18pick {w0 : World} {B : OH} : SoundC Tryz.prog w0 B 12 (Vlaw18pick B) := sTlaw18pick.ofVal
theorem fpick18 {B : OH} (hG : ∃ H N, good B H N) (x n : Int) (hx : i64R x) (hn : 0 < n ∧ n ≤ 9223372036854775807) : Flaw18pick B [.int .i64 x, .int .i64 n] = some (.int .i64 (pk x n)) := by
  unfold i64R at hx
  refine kval_eq hG fun H N hN => ?_
  obtain ⟨hB, hR, hI⟩ := gX hN
  have hn0 : ¬ n = 0 := by omega
  unfold pk
  by_cases h : x < 0
  · have hw : IntKind.i64.wrap (0 - (x + 1)) = -(x + 1) := by rw [IntWalk.i64_in _ (by omega)]; omega
    simp (disch := omega) only [Tlaw18pick, Llaw18pick, hB, hR, hI, h, hn0, hw, all1, ress, res1, retV, Value.cells, newsV_s, e_fork, slcV, seval, eV]
    with_reducible refine done2 ?_
    repeat (first | refine ext_new hN ?_ | exact fun _ _ h => h)
  · simp (disch := omega) only [Tlaw18pick, Llaw18pick, hB, hR, hI, h, hn0, all1, ress, res1, retV, Value.cells, newsV_s, e_fork, slcV, seval, eV]
    with_reducible refine done2 ?_
    repeat (first | refine ext_new hN ?_ | exact fun _ _ h => h)
def Lref06Told : FnL := ⟨(.seq (.ops [oa 1 (.box (ot 0)),oa 2 (.alloc [(.int .i64 0), (.int .u64 0)]),oa 3 (.mv (oi 0))])
 (.seq (.seq (.ops [oa 4 (.iaddrA 1 2 (ot 1) (oi 0)),ol 5 4,oa 6 (.bin .lss (ot 5) (ou 1)),om 7 6,ob 8 (.iaddrA 1 2 (ot 1) (oi 0)) 7 false,ob 9 (.load false 1 (ot 8)) 7 false,ob 10 (.bin .gtr (ot 9) (ou 256)) 7 false,oa 11 (.pick (ot 7) (.const (.bool true)) (ot 10))])
 (.cond (ot 11) (.seq (.ops [oa 12 (.build [(.int .i64 0), (.int .u64 0)] []), oc (.store 2 (ot 2) (ot 12)),oa 3 (.mv (oi 2))])
 .ret)
 .skip))
 (.seq (.ops [oa 13 (.iaddrA 1 2 (ot 1) (oi 0)),ol 14 13,oa 15 (.bin .sub (ot 14) (ou 1)),oa 16 (.conv .i64 (ot 15)),oa 17 (.iaddrA 1 2 (ot 1) (oi 1)),ol 18 17,oa 19 (.build [(.int .i64 0), (.int .u64 0)] [(0, 1, (ot 16)), (1, 1, (ot 18))]), oc (.store 2 (ot 2) (ot 19)),oa 3 (.mv (oi 0))])
 .ret))),
 20, [.cell 2 true 2, .tmp 3]⟩
theorem lowref06Told : lowerFn Tryz.prog Tryz.f28 = some Lref06Told := by kernel_rfl
noncomputable def Gref06Told (B : OH) : Nat → Cs
  | _ => fun _ _ _ => none
theorem sGref06Told {w0 : World} {B : OH} : SoundG Tryz.prog w0 B { f := Gref06Told B } := .of fun k => by
  unfold Gref06Told
  split
  · exact .inl fun _ _ _ => rfl
theorem enref06Told : Enter Tryz.prog 28 := .of Tryz.func28 (by kernel_rfl) (by kernel_rfl)
noncomputable def Tref06Told (B : OH) : Cs := callF B { f := Gref06Told B } 1000000 Lref06Told
theorem sTref06Told {w0 : World} {B : OH} : SoundC Tryz.prog w0 B 28 (Tref06Told B) := callF_sound mixedOrders sGref06Told 1000000 Tryz.func28 lowref06Told
noncomputable def Fref06Told (B : OH) : List Value → Option Value := kval B (Tref06Told B)
noncomputable def Vref06Told (B : OH) : Cs := fun a H N => pvE (Fref06Told B a) H N
theorem Vref06Told_eq {B : OH} {a : List Value} {H : HL} {N : St} : Vref06Told B a H N = pvE (Fref06Told B a) H N := rfl
theorem sVref06Told {w0 : World} {B : OH} : SoundC Tryz.prog w0 B 28 (Vref06Told B) := sTref06Told.ofVal
theorem ftold6a {B : OH} (hG : ∃ H N, good B H N) {f w : Int} (h1 : 1 ≤ f) (h2 : f ≤ 256) : Fref06Told B [.agg #[.int .u64 f, .int .u64 w]] = some (.tuple #[.agg #[.int .i64 (f - 1), .int .u64 w], .int .i64 0]) := by
  refine kval_eq hG fun H N hN => ?_
  obtain ⟨hB, hR, hI⟩ := gX hN
  have c1 : ¬ f < 1 := by omega
  have c2 : ¬ f > 256 := by omega
  have a1 : IntKind.u64.wrap (f - 1) = f - 1 := IntWalk.u64_in _ (by omega)
  have a2 : IntKind.i64.wrap (f - 1) = f - 1 := IntWalk.i64_in _ (by omega)
  simp (disch := omega) only [Tref06Told, Lref06Told, hB, hR, hI, c1, c2, a1, a2, all1, ress, res1, retV, Value.cells, newsV_s, e_fork, slcV, seval, eV]
  with_reducible refine done2 ?_
  repeat (first | refine ext_new hN ?_ | exact fun _ _ h => h)
theorem ftold6b {B : OH} (hG : ∃ H N, good B H N) {f w : Int} (h1 : 1 ≤ f) (h2 : ¬ f ≤ 256) : Fref06Told B [.agg #[.int .u64 f, .int .u64 w]] = some (.tuple #[.agg #[.int .i64 0, .int .u64 0], .int .i64 2]) := by
  refine kval_eq hG fun H N hN => ?_
  obtain ⟨hB, hR, hI⟩ := gX hN
  have c1 : ¬ f < 1 := by omega
  have c2 : f > 256 := by omega
  simp (disch := omega) only [Tref06Told, Lref06Told, hB, hR, hI, c1, c2, all1, ress, res1, retV, Value.cells, newsV_s, e_fork, slcV, seval, eV]
  with_reducible refine done2 ?_
  repeat (first | refine ext_new hN ?_ | exact fun _ _ h => h)
def Lref18Same : FnL := ⟨(.seq (.ops [oa 2 (.box (ot 0)),oa 3 (.box (ot 1)),oa 4 (.mv (.const (.bool false)))])
 (.seq (.seq (.ops [og 6 12 2,ol 7 6,oa 8 (.len false (ot 7)),og 9 12 3,ol 10 9,oa 11 (.len false (ot 10)),oa 12 (.bin .neq (ot 8) (ot 11))])
 (.cond (ot 12) (.seq (.ops [oa 4 (.mv (.const (.bool false)))])
 .ret)
 .skip))
 (.seq (.seq (.ops [oa 5 (.mv (oi 0))])
 (.block 0 (.loop (.seq (.seq (.ops [om 13 5,og 14 12 2,ol 15 14,oa 16 (.len false (ot 15)),oa 17 (.bin .lss (ot 13) (ot 16))])
 (.cond (ot 17) .skip
 (.exit 0)))
 (.seq (.block 1 (.seq (.draw [pg 20 12 2,pl 21 20,pm 22 5,oe 23 (.iaddrS 1 (ot 21) (ot 22)),pl 24 23,pg 25 12 3,pl 26 25,pm 27 5,oe 28 (.iaddrS 1 (ot 26) (ot 27)),pl 29 28,oe 30 (.bin .neq (ot 24) (ot 29))])
 (.cond (ot 30) (.seq (.ops [oa 4 (.mv (.const (.bool false)))])
 .ret)
 .skip)))
 (.ops [om 18 5,oa 19 (.bin .add (ot 18) (oi 1)),om 5 19]))))))
 (.seq (.ops [og 31 0 2,ol 32 31,og 33 0 3,ol 34 33,oa 35 (.bin .eql (ot 32) (ot 34)),om 36 35,ob 37 (.faddr 1 (ot 2)) 36 true,ob 38 (.load true 3 (ot 37)) 36 true,ob 39 (.faddr 1 (ot 3)) 36 true,ob 40 (.load true 3 (ot 39)) 36 true,ob 41 (.eqA false [.int, .int, .int] (ot 38) (ot 40)) 36 true,oa 42 (.pick (ot 36) (ot 41) (.const (.bool false))),om 43 42,ob 44 (.faddr 4 (ot 2)) 43 true,ob 45 (.load false 1 (ot 44)) 43 true,ob 46 (.faddr 4 (ot 3)) 43 true,ob 47 (.load false 1 (ot 46)) 43 true,ob 48 (.bin .eql (ot 45) (ot 47)) 43 true,oa 49 (.pick (ot 43) (ot 48) (.const (.bool false))),om 50 49,ob 51 (.faddr 5 (ot 2)) 50 true,ob 52 (.load false 1 (ot 51)) 50 true,ob 53 (.faddr 5 (ot 3)) 50 true,ob 54 (.load false 1 (ot 53)) 50 true,ob 55 (.bin .eql (ot 52) (ot 54)) 50 true,oa 56 (.pick (ot 50) (ot 55) (.const (.bool false))),om 57 56,ob 58 (.faddr 6 (ot 2)) 57 true,ob 59 (.load false 1 (ot 58)) 57 true,ob 60 (.faddr 6 (ot 3)) 57 true,ob 61 (.load false 1 (ot 60)) 57 true,ob 62 (.bin .eql (ot 59) (ot 61)) 57 true,oa 63 (.pick (ot 57) (ot 62) (.const (.bool false))),om 64 63,ob 65 (.faddr 7 (ot 2)) 64 true,ob 66 (.load false 1 (ot 65)) 64 true,ob 67 (.faddr 7 (ot 3)) 64 true,ob 68 (.load false 1 (ot 67)) 64 true,ob 69 (.bin .eql (ot 66) (ot 68)) 64 true,oa 70 (.pick (ot 64) (ot 69) (.const (.bool false))),om 71 70,ob 72 (.faddr 8 (ot 2)) 71 true,ob 73 (.load false 1 (ot 72)) 71 true,ob 74 (.faddr 8 (ot 3)) 71 true,ob 75 (.load false 1 (ot 74)) 71 true,ob 76 (.bin .eql (ot 73) (ot 75)) 71 true,oa 77 (.pick (ot 71) (ot 76) (.const (.bool false))),om 78 77,ob 79 (.faddr 9 (ot 2)) 78 true,ob 80 (.load false 1 (ot 79)) 78 true,ob 81 (.faddr 9 (ot 3)) 78 true,ob 82 (.load false 1 (ot 81)) 78 true,ob 83 (.bin .eql (ot 80) (ot 82)) 78 true,oa 84 (.pick (ot 78) (ot 83) (.const (.bool false))),om 85 84,ob 86 (.faddr 10 (ot 2)) 85 true,ob 87 (.load false 1 (ot 86)) 85 true,ob 88 (.faddr 10 (ot 3)) 85 true,ob 89 (.load false 1 (ot 88)) 85 true,ob 90 (.bin .eql (ot 87) (ot 89)) 85 true,oa 91 (.pick (ot 85) (ot 90) (.const (.bool false))),om 92 91,ob 93 (.faddr 11 (ot 2)) 92 true,ob 94 (.load false 1 (ot 93)) 92 true,ob 95 (.faddr 11 (ot 3)) 92 true,ob 96 (.load false 1 (ot 95)) 92 true,ob 97 (.eqb false (ot 94) (ot 96)) 92 true,oa 98 (.pick (ot 92) (ot 97) (.const (.bool false))),om 4 98])
 .ret)))),
 99, [.tmp 4]⟩
theorem lowref18Same : lowerFn Tryz.prog Tryz.f18 = some Lref18Same := by kernel_rfl
noncomputable def Gref18Same (B : OH) : Nat → Cs
  | _ => fun _ _ _ => none
theorem sGref18Same {w0 : World} {B : OH} : SoundG Tryz.prog w0 B { f := Gref18Same B } := .of fun k => by
  unfold Gref18Same
  split
  · exact .inl fun _ _ _ => rfl
theorem enref18Same : Enter Tryz.prog 18 := .of Tryz.func18 (by kernel_rfl) (by kernel_rfl)
noncomputable def Tref18Same (B : OH) : Cs := callF B { f := Gref18Same B } 1000000 Lref18Same
theorem sTref18Same {w0 : World} {B : OH} : SoundC Tryz.prog w0 B 18 (Tref18Same B) := callF_sound mixedOrders sGref18Same 1000000 Tryz.func18 lowref18Same
noncomputable def Fref18Same (B : OH) : List Value → Option Value := kval B (Tref18Same B)
noncomputable def Vref18Same (B : OH) : Cs := fun a H N => pvE (Fref18Same B a) H N
theorem Vref18Same_eq {B : OH} {a : List Value} {H : HL} {N : St} : Vref18Same B a H N = pvE (Fref18Same B a) H N := rfl
theorem sVref18Same {w0 : World} {B : OH} : SoundC Tryz.prog w0 B 18 (Vref18Same B) := sTref18Same.ofVal

theorem fsame18 {B : OH} (hG : ∃ H N, good B H N) : Fref18Same B [.agg #[.int .i64 0, .int .i64 0, .int .u64 0, .int .u64 0, .int .u64 0, .int .i64 0, .int .i64 0, .int .i64 0, .int .i64 0, .int .i64 0, .int .u64 0, .bool false, .slice none 0 0], .agg #[.int .i64 0, .int .i64 0, .int .u64 0, .int .u64 0, .int .u64 0, .int .i64 0, .int .i64 0, .int .i64 0, .int .i64 0, .int .i64 0, .int .u64 0, .bool false, .slice none 0 0]] = some (.bool true) := by
  refine kval_eq hG fun H N hN => ?_
  obtain ⟨hB, hR, hI⟩ := gX hN
  simp (disch := omega) only [Tref18Same, Lref18Same, hB, hR, hI, e_loop, all1, ress, res1, retV, Value.cells, newsV_s, e_fork, slcV, seval, eV]
  with_reducible refine done2 ?_
  repeat (first | refine ext_new hN ?_ | exact fun _ _ h => h)
structure Hs (B : OH) (H0 H : HL) (kk p cc c m w x t : Nat) (v vw : Value) (L W : List C2) (a b : Int) (X : List Value) : Prop where
  mem : Mem B H0 H m v L
  was : SlM c2 2 B H0 H vw W
  nv : ∀ y, slB vw = some y → slB v ≠ some y
  nvx : slB vw ≠ some x
  lc : lk H c = some (.cells [.int .i64 (kk : Int), .int .i64 (p : Int), .int .i64 (cc : Int)] 3)
  lw : lk H w = some (.cells [vw] 1)
  lx : lk H x = some (.cells X 13)
  lt : lk H t = some (.cells [.int .i64 a, .int .u64 b] 2)
  bc : B c = none
  bw : B w = none
  bx : B x = none
  bt : B t = none
  nc : slB v ≠ some c
  nw : slB v ≠ some w
  nx : slB v ≠ some x
  nt : slB v ≠ some t
theorem Hs.next {B : OH} {H0 H : HL} {kk p cc c m w x t : Nat} {v vw : Value} {L W : List C2} {a b : Int} {X : List Value} (h : Hs B H0 H kk p cc c m w x t v vw L W a b X) {H' : HL} {N' : St} {L' : List C2} (X' : List Value) (k0 k1 : KB) (M : Mem B H0 H' m v L') (O : Oth v H H') (g : good B H' N') :
    good B ((N'.n 1, k1) :: (N'.n 0, k0) :: upH H' x (.cells X' 13)) (sh (sh N')) ∧ Hs B H0 ((N'.n 1, k1) :: (N'.n 0, k0) :: upH H' x (.cells X' 13)) kk p cc c m w x t v vw L' W a b X' := by
  have lx' := O x _ h.nx h.lx
  have lc' := O c _ h.nc h.lc
  have lw' := O w _ h.nw h.lw
  have lt' := O t _ h.nt h.lt
  have g2 := good_up (k := .cells X' 13) g h.bx lx'
  have key : ∀ y k, y ≠ x → lk H' y = some k → lk ((N'.n 1, k1) :: (N'.n 0, k0) :: upH H' x (.cells X' 13)) y = some k := fun y k hy hk => by
    have n0 := ne_N g hk
    rw [lk_cons, n0 1, cond_false, lk_cons, n0 0, cond_false, lk_upH, eqb hy, cond_false]; exact hk
  have keyx : lk ((N'.n 1, k1) :: (N'.n 0, k0) :: upH H' x (.cells X' 13)) x = some (.cells X' 13) := by
    have n0 := ne_N g lx'
    rw [lk_cons, n0 1, cond_false, lk_cons, n0 0, cond_false, lk_upH, beq_self_eq_true, cond_true]
  have cx : c ≠ x := fun e => by rw [e, lx'] at lc'; simp at lc'
  have wx : w ≠ x := fun e => by rw [e, lx'] at lw'; simp at lw'
  have tx : t ≠ x := fun e => by rw [e, lx'] at lt'; simp at lt'
  have mx : m ≠ x := fun e => by have := M.lm; rw [e, lx'] at this; simp at this
  refine ⟨good_new (N := sh N') (good_new g2), ?_⟩
  exact { mem := ⟨key m _ mx M.lm, M.bm, M.sl.mono fun y k hy hk => key y k (fun e => h.nx (by rw [← e]; exact hy)) hk, M.ne, M.le⟩
          was := (h.was.mono fun y k hy hk => O y k (h.nv y hy) hk).mono fun y k hy hk => key y k (fun e => h.nvx (by rw [← e]; exact hy)) hk
          nv := h.nv, nvx := h.nvx, lc := key c _ cx lc', lw := key w _ wx lw', lx := keyx, lt := key t _ tx lt'
          bc := h.bc, bw := h.bw, bx := h.bx, bt := h.bt, nc := h.nc, nw := h.nw, nx := h.nx, nt := h.nt }
theorem Mem.at {B : OH} {H0 H : HL} {m b n cap : Nat} {L : List C2} (M : Mem B H0 H m (.slice (some ⟨b, 0, none⟩) n cap) L) : n = L.length ∧ B b = none ∧ lk H0 b = none ∧ L.length ≤ cap ∧ ∃ rest, lk H b = some (.cells (fl c2 L ++ rest) (cap * 2)) := by
  rcases M.sl with ⟨_, h⟩ | ⟨b', cap', rest, e, h1, h2, h3, h4⟩
  · cases h
  · cases e; exact ⟨rfl, h1, h2, h3, rest, h4⟩
def LE (M : List C2) (A R : Nat) : Nat → List C2
  | 0 => M
  | 1 => M.set A z2
  | 2 => (M.set A z2).set (A + 1) z2
  | 3 => ((M.set A z2).set (A + 1) z2).set (A + 2) z2
  | 4 => ((M.set A z2).set (A + 1) z2).set (A + 2) z2
  | 5 => (((M.set A z2).set (A + 1) z2).set (A + 2) z2).set (R + 1) z2
  | _ => ((((M.set A z2).set (A + 1) z2).set (A + 2) z2).set (R + 1) z2).set R z2
theorem LE_len {M : List C2} {A R : Nat} (i : Nat) : (LE M A R i).length = M.length := by
  unfold LE; split <;> simp only [List.length_set]
theorem LE_A {M : List C2} {A R : Nat} (h : A + 3 ≤ R) (hR : R + 2 ≤ M.length) : ∀ i, 1 ≤ i → ((LE M A R i).getD A z2) = z2 := by
  have s : ∀ (K : List C2) (i j : Nat), i < K.length → (K.set i z2).getD j z2 = if i = j then z2 else K.getD j z2 := fun K i j hi => getD_set K i j z2 z2 hi
  intro i hi
  have e1 : (M.set A z2).getD A z2 = z2 := by rw [s _ _ _ (by omega), if_pos rfl]
  have e2 : ((M.set A z2).set (A + 1) z2).getD A z2 = z2 := by rw [s _ _ _ (by simp; omega), if_neg (by omega), e1]
  have e3 : (((M.set A z2).set (A + 1) z2).set (A + 2) z2).getD A z2 = z2 := by rw [s _ _ _ (by simp; omega), if_neg (by omega), e2]
  have e5 : ((((M.set A z2).set (A + 1) z2).set (A + 2) z2).set (R + 1) z2).getD A z2 = z2 := by rw [s _ _ _ (by simp; omega), if_neg (by omega), e3]
  unfold LE
  split
  · omega
  · exact e1
  · exact e2
  · exact e3
  · exact e3
  · exact e5
  · rw [s _ _ _ (by simp; omega), if_neg (by omega), e5]
theorem LE_R {M : List C2} {A R j : Nat} (h : A + 3 ≤ R) (hR : R + 2 ≤ M.length) (hj : j = R ∨ j = R + 1) (i : Nat) (hi : i ≤ 4 ∨ i = 5 ∧ j = R) : (LE M A R i).getD j z2 = M.getD j z2 := by
  have s : ∀ (K : List C2) (i j : Nat), i < K.length → (K.set i z2).getD j z2 = if i = j then z2 else K.getD j z2 := fun K i j hi => getD_set K i j z2 z2 hi
  have e1 : (M.set A z2).getD j z2 = M.getD j z2 := by rw [s _ _ _ (by omega), if_neg (by omega)]
  have e2 : ((M.set A z2).set (A + 1) z2).getD j z2 = M.getD j z2 := by rw [s _ _ _ (by simp; omega), if_neg (by omega), e1]
  have e3 : (((M.set A z2).set (A + 1) z2).set (A + 2) z2).getD j z2 = M.getD j z2 := by rw [s _ _ _ (by simp; omega), if_neg (by omega), e2]
  rcases (show i = 0 ∨ i = 1 ∨ i = 2 ∨ i = 3 ∨ i = 4 ∨ (i = 5 ∧ j = R) by omega) with rfl | rfl | rfl | rfl | rfl | ⟨rfl, rfl⟩
  · rfl
  · exact e1
  · exact e2
  · exact e3
  · exact e3
  · show ((((M.set A z2).set (A + 1) z2).set (A + 2) z2).set (j + 1) z2).getD j z2 = _
    rw [s _ _ _ (by simp; omega), if_neg (by omega), e3]
theorem LE_6 {M : List C2} {A R j : Nat} (h : A + 3 ≤ R) (hR : R + 2 ≤ M.length) : (LE M A R 6).getD j z2 = if (A ≤ j ∧ j < A + 3) ∨ j = R ∨ j = R + 1 then z2 else M.getD j z2 := by
  have s : ∀ (K : List C2) (i j : Nat), i < K.length → (K.set i z2).getD j z2 = if i = j then z2 else K.getD j z2 := fun K i j hi => getD_set K i j z2 z2 hi
  show (((((M.set A z2).set (A + 1) z2).set (A + 2) z2).set (R + 1) z2).set R z2).getD j z2 = _
  rw [s _ _ _ (by simp; omega), s _ _ _ (by simp; omega), s _ _ _ (by simp; omega), s _ _ _ (by simp; omega), s _ _ _ (by omega)]
  by_cases e1 : R = j
  · rw [if_pos e1, if_pos (by omega)]
  · rw [if_neg e1]
    by_cases e2 : R + 1 = j
    · rw [if_pos e2, if_pos (by omega)]
    · rw [if_neg e2]
      by_cases e3 : A + 2 = j
      · rw [if_pos e3, if_pos (by omega)]
      · rw [if_neg e3]
        by_cases e4 : A + 1 = j
        · rw [if_pos e4, if_pos (by omega)]
        · rw [if_neg e4]
          by_cases e5 : A = j
          · rw [if_pos e5, if_pos (by omega)]
          · rw [if_neg e5, if_neg (by omega)]
def XE (flag val : Int) : Nat → List Value

  | 0 => [.int .i64 26, .int .i64 1, .int .u64 0, .int .u64 0, .int .u64 flag, .int .i64 0, .int .i64 0, .int .i64 0, .int .i64 0, .int .i64 0, .int .u64 0, .bool false, .slice none 0 0]
  | 1 => [.int .i64 27, .int .i64 1, .int .u64 0, .int .u64 0, .int .u64 flag, .int .i64 0, .int .i64 0, .int .i64 0, .int .i64 0, .int .i64 0, .int .u64 0, .bool false, .slice none 0 0]
  | 2 => [.int .i64 28, .int .i64 1, .int .u64 0, .int .u64 0, .int .u64 flag, .int .i64 0, .int .i64 0, .int .i64 0, .int .i64 0, .int .i64 0, .int .u64 0, .bool false, .slice none 0 0]
  | 3 => [.int .i64 29, .int .i64 1, .int .u64 0, .int .u64 0, .int .u64 flag, .int .i64 0, .int .i64 0, .int .i64 0, .int .i64 0, .int .i64 0, .int .u64 0, .bool false, .slice none 0 0]
  | 4 => [.int .i64 30, .int .i64 1, .int .u64 0, .int .u64 0, .int .u64 flag, .int .i64 0, .int .i64 0, .int .i64 0, .int .i64 0, .int .i64 0, .int .u64 val, .bool false, .slice none 0 0]
  | 5 => [.int .i64 31, .int .i64 1, .int .u64 0, .int .u64 0, .int .u64 flag, .int .i64 0, .int .i64 0, .int .i64 0, .int .i64 0, .int .i64 0, .int .u64 val, .bool false, .slice none 0 0]
  | _ => [.int .i64 0, .int .i64 0, .int .u64 0, .int .u64 0, .int .u64 0, .int .i64 0, .int .i64 0, .int .i64 0, .int .i64 0, .int .i64 0, .int .u64 0, .bool false, .slice none 0 0]
def Llaw18ProcEnds : FnL := ⟨(.seq (.ops [oa 5 (.box (ot 0)),oa 10 (.mv (.const (.bool false)))])
 (.seq (.ops [oa 30 (.call (.func 9) []),om 11 30])
 (.seq (.ops [oa 31 (.load true 3 (ot 5)),oa 32 (.call (.func 10) [(ot 31)]),oa 12 (.alloc [(.int .i64 0), (.int .i64 0), (.int .i64 0)]), oc (.store 3 (ot 12) (ot 32))])
 (.seq (.ops [oa 33 (.load true 3 (ot 12)),om 34 1,oa 35 (.call (.func 27) [(ot 33), (ot 34)]),oa 13 (.alloc [(.slice none 0 0)]), oc (.store 1 (ot 13) (ot 35))])
 (.seq (.ops [om 36 4,og 37 1 12,ol 38 37,oa 39 (.call (.func 12) [(ot 36), (ot 38)]),om 14 39])
 (.seq (.ops [oa 41 (.load true 3 (ot 12)),om 42 14,oa 43 (.call (.func 26) [(ot 41), (oi 1), (ot 42)]),om 40 43,oa 44 (.ext (ot 40) 0),oa 45 (.ext (ot 40) 1),om 15 44,om 16 45])
 (.seq (.ops [oa 47 (.load true 3 (ot 12)),om 48 14,oa 49 (.call (.func 26) [(ot 47), (oi 2), (ot 48)]),om 46 49,oa 50 (.ext (ot 46) 0),oa 51 (.ext (ot 46) 1),om 17 50,om 18 51])
 (.seq (.seq (.ops [om 52 16,oa 53 (.bin .neq (ot 52) (oi 0)),om 54 53,ob 55 (.mv (ot 18)) 54 false,ob 56 (.bin .neq (ot 55) (oi 0)) 54 false,oa 57 (.pick (ot 54) (.const (.bool true)) (ot 56)),om 58 57,ob 59 (.mv (ot 15)) 58 false,ob 60 (.bin .lss (ot 59) (oi 0)) 58 false,oa 61 (.pick (ot 58) (.const (.bool true)) (ot 60)),om 62 61,ob 63 (.mv (ot 17)) 62 false,ob 64 (.bin .lss (ot 63) (oi 0)) 62 false,oa 65 (.pick (ot 62) (.const (.bool true)) (ot 64)),om 66 65,ob 67 (.mv (ot 15)) 66 false,ob 68 (.bin .add (ot 67) (oi 2)) 66 false,ob 69 (.faddr 0 (ot 13)) 66 false,ob 70 (.load false 1 (ot 69)) 66 false,ob 71 (.len false (ot 70)) 66 false,ob 72 (.bin .geq (ot 68) (ot 71)) 66 false,oa 73 (.pick (ot 66) (.const (.bool true)) (ot 72)),om 74 73,ob 75 (.mv (ot 17)) 74 false,ob 76 (.bin .add (ot 75) (oi 1)) 74 false,ob 77 (.faddr 0 (ot 13)) 74 false,ob 78 (.load false 1 (ot 77)) 74 false,ob 79 (.len false (ot 78)) 74 false,ob 80 (.bin .geq (ot 76) (ot 79)) 74 false,oa 81 (.pick (ot 74) (.const (.bool true)) (ot 80)),om 82 81,ob 83 (.mv (ot 2)) 82 false,ob 84 (.bin .eql (ot 83) (ou 0)) 82 false,oa 85 (.pick (ot 82) (.const (.bool true)) (ot 84))])
 (.cond (ot 85) (.seq (.ops [om 86 11,om 87 86,ob 88 (.mv (ot 2)) 87 true,ob 89 (.bin .eql (ot 88) (ou 0)) 87 true,oa 90 (.pick (ot 87) (ot 89) (.const (.bool false))),om 91 90,ob 92 (.mv (ot 16)) 91 true,ob 93 (.mv (ot 18)) 91 true,ob 94 (.bin .eql (ot 92) (ot 93)) 91 true,oa 95 (.pick (ot 91) (ot 94) (.const (.bool false))),om 10 95])
 .ret)
 .skip))
 (.seq (.ops [og 96 0 13,ol 97 96,om 98 17,om 99 2,oa 100 (.iaddrS 2 (ot 97) (ot 98)),og 101 0 100, oc (.store 1 (ot 101) (ot 99))])
 (.seq (.ops [og 102 0 13,ol 103 102,om 104 17,oa 105 (.bin .add (ot 104) (oi 1)),om 106 3,oa 107 (.iaddrS 2 (ot 103) (ot 105)),og 108 0 107, oc (.store 1 (ot 108) (ot 106))])
 (.seq (.ops [oa 109 (.load true 1 (ot 13)),oa 110 (.call (.func 19) [(ot 109)]),oa 19 (.alloc [(.slice none 0 0)]), oc (.store 1 (ot 19) (ot 110))])
 (.seq (.ops [oa 111 (.build [(.int .i64 0), (.int .u64 0), (.int .u64 0)] [(0, 1, (oi 1))]),om 112 2,oa 113 (.build [(.int .i64 0), (.int .i64 0), (.int .u64 0), (.int .u64 0), (.int .u64 0), (.int .i64 0), (.int .i64 0), (.int .i64 0), (.int .i64 0), (.int .i64 0), (.int .u64 0), (.bool false), (.slice none 0 0)] [(0, 1, (oi 26)), (1, 3, (ot 111)), (4, 1, (ot 112))]),oa 20 (.alloc [(.int .i64 0), (.int .i64 0), (.int .u64 0), (.int .u64 0), (.int .u64 0), (.int .i64 0), (.int .i64 0), (.int .i64 0), (.int .i64 0), (.int .i64 0), (.int .u64 0), (.bool false), (.slice none 0 0)]), oc (.store 13 (ot 20) (ot 113))])
 (.seq (.ops [om 115 2,om 116 3,oa 117 (.build [(.int .u64 0), (.int .u64 0)] [(0, 1, (ot 115)), (1, 1, (ot 116))]),oa 118 (.call (.func 28) [(ot 117)]),om 114 118,oa 119 (.ext (ot 114) 0),oa 120 (.ext (ot 114) 1),oa 21 (.alloc [(.int .i64 0), (.int .u64 0)]), oc (.store 2 (ot 21) (ot 119)),om 22 120])
 (.seq (.seq (.ops [oa 23 (.mv (oi 0))])
 (.block 0 (.loop (.seq (.seq (.ops [om 121 23,oa 122 (.bin .lss (ot 121) (oi 6))])
 (.cond (ot 122) .skip
 (.exit 0)))
 (.seq (.block 1 (.seq (.seq (.draw [pg 125 0 13,pl 126 125,pm 127 15,oe 128 (.iaddrS 2 (ot 126) (ot 127)),pg 129 0 128,pl 130 129,oe 131 (.bin .eql (ot 130) (ou 0)),pm 132 23,oe 133 (.bin .gtr (ot 132) (oi 0)),pm 134 133, ⟨ob 135 (.faddr 0 (ot 19)) 134 false,[]⟩,⟨ob 136 (.load false 1 (ot 135)) 134 false,[]⟩,⟨ob 137 (.mv (ot 15)) 134 false,[]⟩,⟨ob 138 (.iaddrS 2 (ot 136) (ot 137)) 134 false,[]⟩,⟨ob 139 (.faddr 0 (ot 138)) 134 false,[]⟩,⟨ob 140 (.load false 1 (ot 139)) 134 false,[]⟩,⟨ob 141 (.bin .eql (ot 140) (ou 0)) 134 false,[]⟩,oe 142 (.pick (ot 134) (.const (.bool true)) (ot 141)),oe 143 (.eqb true (ot 131) (ot 142)),pm 144 143, ⟨ob 145 (.faddr 0 (ot 13)) 144 false,[]⟩,⟨ob 146 (.load false 1 (ot 145)) 144 false,[]⟩,⟨ob 147 (.mv (ot 17)) 144 false,[]⟩,⟨ob 148 (.iaddrS 2 (ot 146) (ot 147)) 144 false,[]⟩,⟨ob 149 (.faddr 0 (ot 148)) 144 false,[]⟩,⟨ob 150 (.load false 1 (ot 149)) 144 false,[]⟩,⟨ob 151 (.bin .eql (ot 150) (ou 0)) 144 false,[]⟩,oe 152 (.pick (ot 144) (.const (.bool true)) (ot 151))])
 (.cond (ot 152) (.seq (.ops [oa 10 (.mv (.const (.bool false)))])
 .ret)
 .skip))
 (.seq (.ops [oa 154 (.load true 3 (ot 12)),om 155 14,oa 156 (.load true 13 (ot 20)),oa 157 (.call (.func 20) [(ot 154), (ot 13), (ot 155), (ot 156)]),om 153 157,oa 158 (.ext (ot 153) 0),oa 159 (.ext (ot 153) 1),oa 160 (.ext (ot 153) 2),oa 161 (.ext (ot 153) 3),oa 24 (.alloc [(.int .i64 0), (.int .i64 0), (.int .u64 0), (.int .u64 0), (.int .u64 0), (.int .i64 0), (.int .i64 0), (.int .i64 0), (.int .i64 0), (.int .i64 0), (.int .u64 0), (.bool false), (.slice none 0 0)]),oa 25 (.alloc [(.int .i64 0), (.int .u64 0)]), oc (.store 13 (ot 24) (ot 158)), oc (.store 2 (ot 25) (ot 159)),om 26 160,om 27 161])
 (.seq (.seq (.ops [om 162 27,oa 163 (.bin .neq (ot 162) (oi 0)),om 164 163,ob 165 (.mv (ot 26)) 164 false,ob 166 (.mv (ot 23)) 164 false,ob 167 (.bin .eql (ot 166) (oi 5)) 164 false,ob 168 (.eqb true (ot 165) (ot 167)) 164 false,oa 169 (.pick (ot 164) (.const (.bool true)) (ot 168)),om 170 169,ob 171 (.mv (ot 26)) 170 false,ob 172 (.mv (ot 171)) 170 false,ob 173 (.load true 2 (ot 25)) 172 true,ob 174 (.load true 2 (ot 21)) 172 true,ob 175 (.eqA true [.int, .int] (ot 173) (ot 174)) 172 true,ob 176 (.pick (ot 172) (ot 175) (.const (.bool false))) 170 false,oa 177 (.pick (ot 170) (.const (.bool true)) (ot 176)),om 178 177,ob 179 (.mv (ot 26)) 178 false,ob 180 (.un .not (ot 179)) 178 false,ob 181 (.mv (ot 180)) 178 false,ob 182 (.load true 2 (ot 25)) 181 true,ob 183 (.build [(.int .i64 0), (.int .u64 0)] []) 181 true,ob 184 (.eqA true [.int, .int] (ot 182) (ot 183)) 181 true,ob 185 (.pick (ot 181) (ot 184) (.const (.bool false))) 178 false,oa 186 (.pick (ot 178) (.const (.bool true)) (ot 185)),om 187 186,ob 188 (.faddr 0 (ot 13)) 187 false,ob 189 (.load false 1 (ot 188)) 187 false,ob 190 (.len false (ot 189)) 187 false,ob 191 (.faddr 0 (ot 19)) 187 false,ob 192 (.load false 1 (ot 191)) 187 false,ob 193 (.len false (ot 192)) 187 false,ob 194 (.bin .neq (ot 190) (ot 193)) 187 false,oa 195 (.pick (ot 187) (.const (.bool true)) (ot 194))])
 (.cond (ot 195) (.seq (.ops [oa 10 (.mv (.const (.bool false)))])
 .ret)
 .skip))
 (.ops [oa 196 (.load true 13 (ot 24)), oc (.store 13 (ot 20) (ot 196))])))))
 (.ops [om 123 23,oa 124 (.bin .add (ot 123) (oi 1)),om 23 124]))))))
 (.seq (.seq (.ops [oa 28 (.mv (oi 0))])
 (.block 2 (.loop (.seq (.seq (.ops [om 197 28,og 198 0 13,ol 199 198,oa 200 (.len false (ot 199)),oa 201 (.bin .lss (ot 197) (ot 200))])
 (.cond (ot 201) .skip
 (.exit 2)))
 (.seq (.block 3 (.seq (.ops [om 204 28,om 205 15,oa 206 (.bin .geq (ot 204) (ot 205)),om 207 206,ob 208 (.mv (ot 28)) 207 true,ob 209 (.mv (ot 15)) 207 true,ob 210 (.bin .add (ot 209) (oi 3)) 207 true,ob 211 (.bin .lss (ot 208) (ot 210)) 207 true,oa 212 (.pick (ot 207) (ot 211) (.const (.bool false))),om 213 212,ob 214 (.mv (ot 28)) 213 false,ob 215 (.mv (ot 17)) 213 false,ob 216 (.bin .eql (ot 214) (ot 215)) 213 false,oa 217 (.pick (ot 213) (.const (.bool true)) (ot 216)),om 218 217,ob 219 (.mv (ot 28)) 218 false,ob 220 (.mv (ot 17)) 218 false,ob 221 (.bin .add (ot 220) (oi 1)) 218 false,ob 222 (.bin .eql (ot 219) (ot 221)) 218 false,oa 223 (.pick (ot 218) (.const (.bool true)) (ot 222)),om 29 223])
 (.seq (.draw [pm 224 29,pm 225 224, ⟨ob 226 (.faddr 0 (ot 13)) 225 true,[]⟩,⟨ob 227 (.load false 1 (ot 226)) 225 true,[]⟩,⟨ob 228 (.mv (ot 28)) 225 true,[]⟩,⟨ob 229 (.iaddrS 2 (ot 227) (ot 228)) 225 true,[]⟩,⟨ob 230 (.load true 2 (ot 229)) 225 true,[]⟩,⟨ob 231 (.build [(.int .u64 0), (.int .i64 0)] []) 225 true,[]⟩,⟨ob 232 (.eqA true [.int, .int] (ot 230) (ot 231)) 225 true,[]⟩,oe 233 (.pick (ot 225) (ot 232) (.const (.bool false))),pm 234 233, ⟨ob 235 (.mv (ot 29)) 234 false,[]⟩,⟨ob 236 (.un .not (ot 235)) 234 false,[]⟩,⟨ob 237 (.mv (ot 236)) 234 false,[]⟩,⟨ob 238 (.faddr 0 (ot 13)) 237 true,[]⟩,⟨ob 239 (.load false 1 (ot 238)) 237 true,[]⟩,⟨ob 240 (.mv (ot 28)) 237 true,[]⟩,⟨ob 241 (.iaddrS 2 (ot 239) (ot 240)) 237 true,[]⟩,⟨ob 242 (.load true 2 (ot 241)) 237 true,[]⟩,⟨ob 243 (.faddr 0 (ot 19)) 237 true,[]⟩,⟨ob 244 (.load false 1 (ot 243)) 237 true,[]⟩,⟨ob 245 (.mv (ot 28)) 237 true,[]⟩,⟨ob 246 (.iaddrS 2 (ot 244) (ot 245)) 237 true,[]⟩,⟨ob 247 (.load true 2 (ot 246)) 237 true,[]⟩,⟨ob 248 (.eqA true [.int, .int] (ot 242) (ot 247)) 237 true,[]⟩,⟨ob 249 (.pick (ot 237) (ot 248) (.const (.bool false))) 234 false,[]⟩,oe 250 (.pick (ot 234) (.const (.bool true)) (ot 249))])
 (.cond (ot 250) (.seq (.ops [oa 10 (.mv (.const (.bool false)))])
 .ret)
 .skip))))
 (.ops [om 202 28,oa 203 (.bin .add (ot 202) (oi 1)),om 28 203]))))))
 (.seq (.ops [om 251 11,om 252 251,ob 253 (.load true 13 (ot 20)) 252 true,ob 254 (.build [(.int .i64 0), (.int .i64 0), (.int .u64 0), (.int .u64 0), (.int .u64 0), (.int .i64 0), (.int .i64 0), (.int .i64 0), (.int .i64 0), (.int .i64 0), (.int .u64 0), (.bool false), (.slice none 0 0)] []) 252 true,ob 255 (.call (.func 18) [(ot 253), (ot 254)]) 252 true,oa 256 (.pick (ot 252) (ot 255) (.const (.bool false))),om 10 256])
 .ret)))))))))))))))),
 257, [.tmp 10]⟩
theorem lowlaw18ProcEnds : lowerFn Tryz.prog Tryz.f7 = some Llaw18ProcEnds := by kernel_rfl
noncomputable def Glaw18ProcEnds (B : OH) : Nat → Cs
  | 26 => V10 B
  | 10 => Vlaw16Conf B
  | 27 => Vlaw16Memory B
  | 9 => Vlaw18awake B
  | 12 => Vlaw18pick B
  | 20 => VprocStep B
  | 19 => Vref03Own B
  | 28 => Vref06Told B
  | 18 => Vref18Same B
  | _ => fun _ _ _ => none
theorem Glaw18ProcEnds_10 {B : OH} : Glaw18ProcEnds B 26 = V10 B := rfl
theorem Glaw18ProcEnds_law16Conf {B : OH} : Glaw18ProcEnds B 10 = Vlaw16Conf B := rfl
theorem Glaw18ProcEnds_law16Memory {B : OH} : Glaw18ProcEnds B 27 = Vlaw16Memory B := rfl
theorem Glaw18ProcEnds_law18awake {B : OH} : Glaw18ProcEnds B 9 = Vlaw18awake B := rfl
theorem Glaw18ProcEnds_law18pick {B : OH} : Glaw18ProcEnds B 12 = Vlaw18pick B := rfl
theorem Glaw18ProcEnds_procStep {B : OH} : Glaw18ProcEnds B 20 = VprocStep B := rfl
theorem Glaw18ProcEnds_ref03Own {B : OH} : Glaw18ProcEnds B 19 = Vref03Own B := rfl
theorem Glaw18ProcEnds_ref06Told {B : OH} : Glaw18ProcEnds B 28 = Vref06Told B := rfl
theorem Glaw18ProcEnds_ref18Same {B : OH} : Glaw18ProcEnds B 18 = Vref18Same B := rfl
theorem sGlaw18ProcEnds {w0 : World} {B : OH} : SoundG Tryz.prog w0 B { f := Glaw18ProcEnds B } := .of fun k => by
  unfold Glaw18ProcEnds
  split
  · exact .inr ⟨en10, sV10⟩
  · exact .inr ⟨enlaw16Conf, sVlaw16Conf⟩
  · exact .inr ⟨enlaw16Memory, sVlaw16Memory⟩
  · exact .inr ⟨enlaw18awake, sVlaw18awake⟩
  · exact .inr ⟨enlaw18pick, sVlaw18pick⟩
  · exact .inr ⟨enprocStep, sVprocStep⟩
  · exact .inr ⟨enref03Own, sVref03Own⟩
  · exact .inr ⟨enref06Told, sVref06Told⟩
  · exact .inr ⟨enref18Same, sVref18Same⟩
  · exact .inl fun _ _ _ => rfl
noncomputable def Tlaw18ProcEnds (B : OH) : Cs := callF B { f := Glaw18ProcEnds B } 1000000 Llaw18ProcEnds
theorem sTlaw18ProcEnds {w0 : World} {B : OH} : SoundC Tryz.prog w0 B 7 (Tlaw18ProcEnds B) := callF_sound mixedOrders sGlaw18ProcEnds 1000000 Tryz.func7 lowlaw18ProcEnds
noncomputable def Vlaw18ProcEnds (B : OH) : Cs := Tlaw18ProcEnds B
theorem sVlaw18ProcEnds {w0 : World} {B : OH} : SoundC Tryz.prog w0 B 7 (Vlaw18ProcEnds B) := sTlaw18ProcEnds
structure KE (c m q A R w x t : Nat) (j : Int) (ts : List Value) : Prop where
  l : ts.length = 257
  t11 : gt ts 11 = .bool true
  t12 : gt ts 12 = .pointer (some ⟨c, 0, none⟩)
  t13 : gt ts 13 = .pointer (some ⟨m, 0, none⟩)
  t14 : gt ts 14 = .int .i64 (q : Int)
  t15 : gt ts 15 = .int .i64 (A : Int)
  t17 : gt ts 17 = .int .i64 (R : Int)
  t19 : gt ts 19 = .pointer (some ⟨w, 0, none⟩)
  t20 : gt ts 20 = .pointer (some ⟨x, 0, none⟩)
  t21 : gt ts 21 = .pointer (some ⟨t, 0, none⟩)
  t23 : gt ts 23 = .int .i64 j
def lbE : LC := (.seq (.seq (.ops [om 121 23,oa 122 (.bin .lss (ot 121) (oi 6))])
 (.cond (ot 122) .skip
 (.exit 0)))
 (.seq (.block 1 (.seq (.seq (.draw [pg 125 0 13,pl 126 125,pm 127 15,oe 128 (.iaddrS 2 (ot 126) (ot 127)),pg 129 0 128,pl 130 129,oe 131 (.bin .eql (ot 130) (ou 0)),pm 132 23,oe 133 (.bin .gtr (ot 132) (oi 0)),pm 134 133, ⟨ob 135 (.faddr 0 (ot 19)) 134 false,[]⟩,⟨ob 136 (.load false 1 (ot 135)) 134 false,[]⟩,⟨ob 137 (.mv (ot 15)) 134 false,[]⟩,⟨ob 138 (.iaddrS 2 (ot 136) (ot 137)) 134 false,[]⟩,⟨ob 139 (.faddr 0 (ot 138)) 134 false,[]⟩,⟨ob 140 (.load false 1 (ot 139)) 134 false,[]⟩,⟨ob 141 (.bin .eql (ot 140) (ou 0)) 134 false,[]⟩,oe 142 (.pick (ot 134) (.const (.bool true)) (ot 141)),oe 143 (.eqb true (ot 131) (ot 142)),pm 144 143, ⟨ob 145 (.faddr 0 (ot 13)) 144 false,[]⟩,⟨ob 146 (.load false 1 (ot 145)) 144 false,[]⟩,⟨ob 147 (.mv (ot 17)) 144 false,[]⟩,⟨ob 148 (.iaddrS 2 (ot 146) (ot 147)) 144 false,[]⟩,⟨ob 149 (.faddr 0 (ot 148)) 144 false,[]⟩,⟨ob 150 (.load false 1 (ot 149)) 144 false,[]⟩,⟨ob 151 (.bin .eql (ot 150) (ou 0)) 144 false,[]⟩,oe 152 (.pick (ot 144) (.const (.bool true)) (ot 151))])
 (.cond (ot 152) (.seq (.ops [oa 10 (.mv (.const (.bool false)))])
 .ret)
 .skip))
 (.seq (.ops [oa 154 (.load true 3 (ot 12)),om 155 14,oa 156 (.load true 13 (ot 20)),oa 157 (.call (.func 20) [(ot 154), (ot 13), (ot 155), (ot 156)]),om 153 157,oa 158 (.ext (ot 153) 0),oa 159 (.ext (ot 153) 1),oa 160 (.ext (ot 153) 2),oa 161 (.ext (ot 153) 3),oa 24 (.alloc [(.int .i64 0), (.int .i64 0), (.int .u64 0), (.int .u64 0), (.int .u64 0), (.int .i64 0), (.int .i64 0), (.int .i64 0), (.int .i64 0), (.int .i64 0), (.int .u64 0), (.bool false), (.slice none 0 0)]),oa 25 (.alloc [(.int .i64 0), (.int .u64 0)]), oc (.store 13 (ot 24) (ot 158)), oc (.store 2 (ot 25) (ot 159)),om 26 160,om 27 161])
 (.seq (.seq (.ops [om 162 27,oa 163 (.bin .neq (ot 162) (oi 0)),om 164 163,ob 165 (.mv (ot 26)) 164 false,ob 166 (.mv (ot 23)) 164 false,ob 167 (.bin .eql (ot 166) (oi 5)) 164 false,ob 168 (.eqb true (ot 165) (ot 167)) 164 false,oa 169 (.pick (ot 164) (.const (.bool true)) (ot 168)),om 170 169,ob 171 (.mv (ot 26)) 170 false,ob 172 (.mv (ot 171)) 170 false,ob 173 (.load true 2 (ot 25)) 172 true,ob 174 (.load true 2 (ot 21)) 172 true,ob 175 (.eqA true [.int, .int] (ot 173) (ot 174)) 172 true,ob 176 (.pick (ot 172) (ot 175) (.const (.bool false))) 170 false,oa 177 (.pick (ot 170) (.const (.bool true)) (ot 176)),om 178 177,ob 179 (.mv (ot 26)) 178 false,ob 180 (.un .not (ot 179)) 178 false,ob 181 (.mv (ot 180)) 178 false,ob 182 (.load true 2 (ot 25)) 181 true,ob 183 (.build [(.int .i64 0), (.int .u64 0)] []) 181 true,ob 184 (.eqA true [.int, .int] (ot 182) (ot 183)) 181 true,ob 185 (.pick (ot 181) (ot 184) (.const (.bool false))) 178 false,oa 186 (.pick (ot 178) (.const (.bool true)) (ot 185)),om 187 186,ob 188 (.faddr 0 (ot 13)) 187 false,ob 189 (.load false 1 (ot 188)) 187 false,ob 190 (.len false (ot 189)) 187 false,ob 191 (.faddr 0 (ot 19)) 187 false,ob 192 (.load false 1 (ot 191)) 187 false,ob 193 (.len false (ot 192)) 187 false,ob 194 (.bin .neq (ot 190) (ot 193)) 187 false,oa 195 (.pick (ot 187) (.const (.bool true)) (ot 194))])
 (.cond (ot 195) (.seq (.ops [oa 10 (.mv (.const (.bool false)))])
 .ret)
 .skip))
 (.ops [oa 196 (.load true 13 (ot 24)), oc (.store 13 (ot 20) (ot 196))])))))
 (.ops [om 123 23,oa 124 (.bin .add (ot 123) (oi 1)),om 23 124])))
structure KF (m A R w x j : Nat) (ts : List Value) : Prop where
  l : ts.length = 257
  t11 : gt ts 11 = .bool true
  t13 : gt ts 13 = .pointer (some ⟨m, 0, none⟩)
  t15 : gt ts 15 = .int .i64 (A : Int)
  t17 : gt ts 17 = .int .i64 (R : Int)
  t19 : gt ts 19 = .pointer (some ⟨w, 0, none⟩)
  t20 : gt ts 20 = .pointer (some ⟨x, 0, none⟩)
  t28 : gt ts 28 = .int .i64 (j : Int)
def lbF : LC := (.seq (.seq (.ops [om 197 28,og 198 0 13,ol 199 198,oa 200 (.len false (ot 199)),oa 201 (.bin .lss (ot 197) (ot 200))])
 (.cond (ot 201) .skip
 (.exit 2)))
 (.seq (.block 3 (.seq (.ops [om 204 28,om 205 15,oa 206 (.bin .geq (ot 204) (ot 205)),om 207 206,ob 208 (.mv (ot 28)) 207 true,ob 209 (.mv (ot 15)) 207 true,ob 210 (.bin .add (ot 209) (oi 3)) 207 true,ob 211 (.bin .lss (ot 208) (ot 210)) 207 true,oa 212 (.pick (ot 207) (ot 211) (.const (.bool false))),om 213 212,ob 214 (.mv (ot 28)) 213 false,ob 215 (.mv (ot 17)) 213 false,ob 216 (.bin .eql (ot 214) (ot 215)) 213 false,oa 217 (.pick (ot 213) (.const (.bool true)) (ot 216)),om 218 217,ob 219 (.mv (ot 28)) 218 false,ob 220 (.mv (ot 17)) 218 false,ob 221 (.bin .add (ot 220) (oi 1)) 218 false,ob 222 (.bin .eql (ot 219) (ot 221)) 218 false,oa 223 (.pick (ot 218) (.const (.bool true)) (ot 222)),om 29 223])
 (.seq (.draw [pm 224 29,pm 225 224, ⟨ob 226 (.faddr 0 (ot 13)) 225 true,[]⟩,⟨ob 227 (.load false 1 (ot 226)) 225 true,[]⟩,⟨ob 228 (.mv (ot 28)) 225 true,[]⟩,⟨ob 229 (.iaddrS 2 (ot 227) (ot 228)) 225 true,[]⟩,⟨ob 230 (.load true 2 (ot 229)) 225 true,[]⟩,⟨ob 231 (.build [(.int .u64 0), (.int .i64 0)] []) 225 true,[]⟩,⟨ob 232 (.eqA true [.int, .int] (ot 230) (ot 231)) 225 true,[]⟩,oe 233 (.pick (ot 225) (ot 232) (.const (.bool false))),pm 234 233, ⟨ob 235 (.mv (ot 29)) 234 false,[]⟩,⟨ob 236 (.un .not (ot 235)) 234 false,[]⟩,⟨ob 237 (.mv (ot 236)) 234 false,[]⟩,⟨ob 238 (.faddr 0 (ot 13)) 237 true,[]⟩,⟨ob 239 (.load false 1 (ot 238)) 237 true,[]⟩,⟨ob 240 (.mv (ot 28)) 237 true,[]⟩,⟨ob 241 (.iaddrS 2 (ot 239) (ot 240)) 237 true,[]⟩,⟨ob 242 (.load true 2 (ot 241)) 237 true,[]⟩,⟨ob 243 (.faddr 0 (ot 19)) 237 true,[]⟩,⟨ob 244 (.load false 1 (ot 243)) 237 true,[]⟩,⟨ob 245 (.mv (ot 28)) 237 true,[]⟩,⟨ob 246 (.iaddrS 2 (ot 244) (ot 245)) 237 true,[]⟩,⟨ob 247 (.load true 2 (ot 246)) 237 true,[]⟩,⟨ob 248 (.eqA true [.int, .int] (ot 242) (ot 247)) 237 true,[]⟩,⟨ob 249 (.pick (ot 237) (ot 248) (.const (.bool false))) 234 false,[]⟩,oe 250 (.pick (ot 234) (.const (.bool true)) (ot 249))])
 (.cond (ot 250) (.seq (.ops [oa 10 (.mv (.const (.bool false)))])
 .ret)
 .skip))))
 (.ops [om 202 28,oa 203 (.bin .add (ot 202) (oi 1)),om 28 203])))
set_option maxHeartbeats 16000000 in
theorem loopE {B : OH} {H0 H : HL} {N : St} {M W : List C2} {vw : Value} {kk p cc h q c m w x t A R bv cap n lw cw bw' : Nat} {flag val a b : Int} (hT : Tab B) (C : Cf kk p cc h) (hq : q < p) (hM : M.length = bs p h 5) (hAR : A + 3 ≤ R) (hR5 : R + 2 ≤ bs p h 5) (hA : A = fr p h 1 q) (hRr : R = fr p h 2 q) (hf : 1 ≤ flag) (hu : u64R flag) (hR0 : (M.getD R z2).w = flag) (hR1 : (M.getD (R + 1) z2).w = val) (hab : (flag ≤ 256 ∧ flag - 1 = a ∧ val = b) ∨ (¬ flag ≤ 256 ∧ 0 = a ∧ 0 = b)) (hvw : vw = .slice (some ⟨bw', 0, none⟩) M.length cw) (hN : good B H N) (hs : Hs B H0 H kk p cc c m w x t (.slice (some ⟨bv, 0, none⟩) n cap) vw (LE M A R 0) M a b (XE flag val 0)) {ts : List Value} (kp : KE c m q A R w x t 0 ts) {F : Nat} (hF : 3010 ≤ F) :
    Ok (exec B { f := Glaw18ProcEnds B } F (LC.loop lbE) ⟨ts, H, N⟩) (fun y s => y = .exit 0 ∧ ∃ ts' H' N', s = ⟨ts', H', N'⟩ ∧ good B H' N' ∧ Hs B H0 H' kk p cc c m w x t (.slice (some ⟨bv, 0, none⟩) n cap) vw (LE M A R 6) M a b (XE flag val 6) ∧ KE c m q A R w x t 6 ts') := by
  have hb5 := bs5_b C
  refine loop_rule (n0 := 3000) (fun k s => ∃ i : Nat, i ≤ 6 ∧ k = 6 - i ∧ ∃ ts H N, s = ⟨ts, H, N⟩ ∧ good B H N ∧ Hs B H0 H kk p cc c m w x t (.slice (some ⟨bv, 0, none⟩) n cap) vw (LE M A R i) M a b (XE flag val i) ∧ KE c m q A R w x t (i : Int) ts) _ ?_ 6 _ ⟨0, by omega, rfl, ts, H, N, rfl, hN, hs, kp⟩ _ (by omega)
  clear kp hs hN hF F ts N H
  rintro z k s ⟨i, hi6, rfl, ts, H, N, rfl, hN, hs, kp⟩
  obtain ⟨hB, hR, hI⟩ := gX hN
  have hG : ∃ H N, good B H N := ⟨H, N, hN⟩
  have hfb : (flag == 0) = false := by simp; omega
  rcases (show i = 0 ∨ i = 1 ∨ i = 2 ∨ i = 3 ∨ i = 4 ∨ i = 5 ∨ i = 6 by omega) with rfl | rfl | rfl | rfl | rfl | rfl | rfl
  · skip
    obtain ⟨hn, bb, h0b, hle, rest, hlk⟩ := hs.mem.at
    have hLl := LE_len (M := M) (A := A) (R := R) 0
    rw [hLl] at hn hle
    have hnn : ((n : Int) != (M.length : Int)) = false := by rw [hn]; simp
    have lm := hs.mem.lm
    have bm := hs.mem.bm
    have lc := hs.lc
    have lw := hs.lw
    have lx : lk H x = some (.cells [.int .i64 26, .int .i64 1, .int .u64 0, .int .u64 0, .int .u64 flag, .int .i64 0, .int .i64 0, .int .i64 0, .int .i64 0, .int .i64 0, .int .u64 0, .bool false, .slice none 0 0] 13) := hs.lx
    have lt := hs.lt
    have bc := hs.bc
    have bw := hs.bw
    have bx := hs.bx
    have bt := hs.bt
    have rb := rN bb
    have rm := rN bm
    have rc := rN bc
    have rw' := rN bw
    have rx := rN bx
    have rt := rN bt
    have a0 : (0 : Int) ≤ (A : Int) := by omega
    have a1 : A < n := by omega
    have u0 : (0 : Int) ≤ (R : Int) := by omega
    have u1 : R < n := by omega
    have rA : tk (fl c2 (LE M A R 0) ++ rest) (A * 2) 1 = some [.int .u64 ((LE M A R 0).getD A z2).w] := c2_r0 (by rw [hLl]; omega)
    have rR : tk (fl c2 (LE M A R 0) ++ rest) (R * 2) 1 = some [.int .u64 flag] := by
      rw [c2_r0 (by rw [hLl]; omega), LE_R hAR (by omega) (.inl rfl) 0 (by omega), hR0]
    obtain ⟨hnW, bbW, h0W, hleW, restW, hlkW⟩ : M.length = M.length ∧ B bw' = none ∧ lk H0 bw' = none ∧ M.length ≤ cw ∧ ∃ rest, lk H bw' = some (.cells (fl c2 M ++ rest) (cw * 2)) := by
      subst hvw
      rcases hs.was with ⟨_, e⟩ | ⟨b1, c1, r1, e, e1, e2, e3, e4⟩
      · cases e
      · cases e; exact ⟨rfl, e1, e2, e3, r1, e4⟩
    have rbW := rN bbW
    have rW : tk (fl c2 M ++ restW) (A * 2) 1 = some [.int .u64 (M.getD A z2).w] := c2_r0 (by omega)
    have aW : A < M.length := by omega
    subst hvw
    have hz : ((LE M A R 0).getD A z2).w = (M.getD A z2).w := rfl
    obtain ⟨H2, N2, est, g2, M2, O2⟩ := st26 (i := A) (code := 1) (key := 0) (val := 0) (flag := flag) (ps := 0) (ii := 0) (n := 0) (o := 0) (a := 0) (w := 0) (sm := false) hN hT C hq hs.mem (by rw [hLl]; exact hM) (by omega) (by omega) (hA) (by rw [hLl]; omega)
    have lm2 := M2.lm
    have lc2 := O2 c _ hs.nc lc
    have lw2 := O2 w _ hs.nw lw
    have lx2 := O2 x _ hs.nx lx
    have lt2 := O2 t _ hs.nt lt
    have nm2 := ne_N g2 lm2
    have nc2 := ne_N g2 lc2
    have nw2 := ne_N g2 lw2
    have nx2 := ne_N g2 lx2
    have nx2' := ne_N' g2 lx2
    have nt2 := ne_N g2 lt2
    have hB2 := good_B g2
    have hR2 := good_rdB g2
    have hI2 := beqN g2.1.1
    simp (disch := omega) only [Tlaw18ProcEnds, Llaw18ProcEnds, Glaw18ProcEnds_10, V10_eq, Glaw18ProcEnds_law16Conf, Vlaw16Conf_eq, Glaw18ProcEnds_law16Memory, Glaw18ProcEnds_law18awake, Glaw18ProcEnds_law18pick, Vlaw18pick_eq, Glaw18ProcEnds_procStep, Glaw18ProcEnds_ref03Own, Glaw18ProcEnds_ref06Told, Vref06Told_eq, Glaw18ProcEnds_ref18Same, Vref18Same_eq, hB, hR, hI, lbE, kp.l, kp.t11, kp.t12, kp.t13, kp.t14, kp.t15, kp.t17, kp.t19, kp.t20, kp.t21, kp.t23, ev5, hnn, lm, bm, lc, bc, lw, bw, lx, bx, lt, bt, rb, rm, rc, rw', rx, rt, a0, a1, u0, u1, hlk, bb, Option.isNone_some, Option.isNone_none, Int.add_zero, Nat.add_zero, est, lm2, lc2, lw2, lx2, lt2, nm2, nc2, nw2, nx2, nx2', nt2, hB2, hR2, hI2, rA, rR, hfb, hLl, hlkW, bbW, rbW, rW, aW, hz, bxx, all1, ress, res1, retV, Value.cells, newsV_s, e_fork, slcV, seval, eV]
    obtain ⟨gz, hz2⟩ := hs.next (XE flag val 1) (.cells (XE flag val 1) 13) (.cells [.int .i64 0, .int .u64 0] 2) (L' := LE M A R 1) M2 O2 g2
    refine ok_some (.inl ⟨rfl, 6 - 1, by omega, 1, by omega, rfl, _, _, _, rfl, gz, hz2, ⟨?_, ?_, ?_, ?_, ?_, ?_, ?_, ?_, ?_, ?_, ?_⟩⟩)
    all_goals simp (disch := omega) only [kp.l, kp.t11, kp.t12, kp.t13, kp.t14, kp.t15, kp.t17, kp.t19, kp.t20, kp.t21, kp.t23, ev5, seval, Int.cast_ofNat_Int, decide_true, ev2]
  · skip
    obtain ⟨hn, bb, h0b, hle, rest, hlk⟩ := hs.mem.at
    have hLl := LE_len (M := M) (A := A) (R := R) 1
    rw [hLl] at hn hle
    have hnn : ((n : Int) != (M.length : Int)) = false := by rw [hn]; simp
    have lm := hs.mem.lm
    have bm := hs.mem.bm
    have lc := hs.lc
    have lw := hs.lw
    have lx : lk H x = some (.cells [.int .i64 27, .int .i64 1, .int .u64 0, .int .u64 0, .int .u64 flag, .int .i64 0, .int .i64 0, .int .i64 0, .int .i64 0, .int .i64 0, .int .u64 0, .bool false, .slice none 0 0] 13) := hs.lx
    have lt := hs.lt
    have bc := hs.bc
    have bw := hs.bw
    have bx := hs.bx
    have bt := hs.bt
    have rb := rN bb
    have rm := rN bm
    have rc := rN bc
    have rw' := rN bw
    have rx := rN bx
    have rt := rN bt
    have a0 : (0 : Int) ≤ (A : Int) := by omega
    have a1 : A < n := by omega
    have u0 : (0 : Int) ≤ (R : Int) := by omega
    have u1 : R < n := by omega
    have rA : tk (fl c2 (LE M A R 1) ++ rest) (A * 2) 1 = some [.int .u64 ((LE M A R 1).getD A z2).w] := c2_r0 (by rw [hLl]; omega)
    have rR : tk (fl c2 (LE M A R 1) ++ rest) (R * 2) 1 = some [.int .u64 flag] := by
      rw [c2_r0 (by rw [hLl]; omega), LE_R hAR (by omega) (.inl rfl) 1 (by omega), hR0]
    have hz : ((LE M A R 1).getD A z2).w = 0 := by rw [LE_A hAR (by omega) 1 (by omega)]; rfl
    subst hvw
    obtain ⟨H2, N2, est, g2, M2, O2⟩ := st27 (i := A + 1) (code := 1) (key := 0) (val := 0) (flag := flag) (ps := 0) (ii := 0) (n := 0) (o := 0) (a := 0) (w := 0) (sm := false) hN hT C hq hs.mem (by rw [hLl]; exact hM) (by omega) (by omega) (by omega) (by rw [hLl]; omega)
    have lm2 := M2.lm
    have lc2 := O2 c _ hs.nc lc
    have lw2 := O2 w _ hs.nw lw
    have lx2 := O2 x _ hs.nx lx
    have lt2 := O2 t _ hs.nt lt
    have nm2 := ne_N g2 lm2
    have nc2 := ne_N g2 lc2
    have nw2 := ne_N g2 lw2
    have nx2 := ne_N g2 lx2
    have nx2' := ne_N' g2 lx2
    have nt2 := ne_N g2 lt2
    have hB2 := good_B g2
    have hR2 := good_rdB g2
    have hI2 := beqN g2.1.1
    simp (disch := omega) only [Tlaw18ProcEnds, Llaw18ProcEnds, Glaw18ProcEnds_10, V10_eq, Glaw18ProcEnds_law16Conf, Vlaw16Conf_eq, Glaw18ProcEnds_law16Memory, Glaw18ProcEnds_law18awake, Glaw18ProcEnds_law18pick, Vlaw18pick_eq, Glaw18ProcEnds_procStep, Glaw18ProcEnds_ref03Own, Glaw18ProcEnds_ref06Told, Vref06Told_eq, Glaw18ProcEnds_ref18Same, Vref18Same_eq, hB, hR, hI, lbE, kp.l, kp.t11, kp.t12, kp.t13, kp.t14, kp.t15, kp.t17, kp.t19, kp.t20, kp.t21, kp.t23, ev5, hnn, lm, bm, lc, bc, lw, bw, lx, bx, lt, bt, rb, rm, rc, rw', rx, rt, a0, a1, u0, u1, hlk, bb, Option.isNone_some, Option.isNone_none, Int.add_zero, Nat.add_zero, est, lm2, lc2, lw2, lx2, lt2, nm2, nc2, nw2, nx2, nx2', nt2, hB2, hR2, hI2, rA, rR, hfb, hLl, hz, all1, ress, res1, retV, Value.cells, newsV_s, e_fork, slcV, seval, eV]
    obtain ⟨gz, hz2⟩ := hs.next (XE flag val 2) (.cells (XE flag val 2) 13) (.cells [.int .i64 0, .int .u64 0] 2) (L' := LE M A R 2) M2 O2 g2
    refine ok_some (.inl ⟨rfl, 6 - 2, by omega, 2, by omega, rfl, _, _, _, rfl, gz, hz2, ⟨?_, ?_, ?_, ?_, ?_, ?_, ?_, ?_, ?_, ?_, ?_⟩⟩)
    all_goals simp (disch := omega) only [kp.l, kp.t11, kp.t12, kp.t13, kp.t14, kp.t15, kp.t17, kp.t19, kp.t20, kp.t21, kp.t23, ev5, seval, Int.cast_ofNat_Int, decide_true, ev2]
  · skip
    obtain ⟨hn, bb, h0b, hle, rest, hlk⟩ := hs.mem.at
    have hLl := LE_len (M := M) (A := A) (R := R) 2
    rw [hLl] at hn hle
    have hnn : ((n : Int) != (M.length : Int)) = false := by rw [hn]; simp
    have lm := hs.mem.lm
    have bm := hs.mem.bm
    have lc := hs.lc
    have lw := hs.lw
    have lx : lk H x = some (.cells [.int .i64 28, .int .i64 1, .int .u64 0, .int .u64 0, .int .u64 flag, .int .i64 0, .int .i64 0, .int .i64 0, .int .i64 0, .int .i64 0, .int .u64 0, .bool false, .slice none 0 0] 13) := hs.lx
    have lt := hs.lt
    have bc := hs.bc
    have bw := hs.bw
    have bx := hs.bx
    have bt := hs.bt
    have rb := rN bb
    have rm := rN bm
    have rc := rN bc
    have rw' := rN bw
    have rx := rN bx
    have rt := rN bt
    have a0 : (0 : Int) ≤ (A : Int) := by omega
    have a1 : A < n := by omega
    have u0 : (0 : Int) ≤ (R : Int) := by omega
    have u1 : R < n := by omega
    have rA : tk (fl c2 (LE M A R 2) ++ rest) (A * 2) 1 = some [.int .u64 ((LE M A R 2).getD A z2).w] := c2_r0 (by rw [hLl]; omega)
    have rR : tk (fl c2 (LE M A R 2) ++ rest) (R * 2) 1 = some [.int .u64 flag] := by
      rw [c2_r0 (by rw [hLl]; omega), LE_R hAR (by omega) (.inl rfl) 2 (by omega), hR0]
    have hz : ((LE M A R 2).getD A z2).w = 0 := by rw [LE_A hAR (by omega) 2 (by omega)]; rfl
    subst hvw
    obtain ⟨H2, N2, est, g2, M2, O2⟩ := st28 (i := A + 2) (code := 1) (key := 0) (val := 0) (flag := flag) (ps := 0) (ii := 0) (n := 0) (o := 0) (a := 0) (w := 0) (sm := false) hN hT C hq hs.mem (by rw [hLl]; exact hM) (by omega) (by omega) (by omega) (by rw [hLl]; omega)
    have lm2 := M2.lm
    have lc2 := O2 c _ hs.nc lc
    have lw2 := O2 w _ hs.nw lw
    have lx2 := O2 x _ hs.nx lx
    have lt2 := O2 t _ hs.nt lt
    have nm2 := ne_N g2 lm2
    have nc2 := ne_N g2 lc2
    have nw2 := ne_N g2 lw2
    have nx2 := ne_N g2 lx2
    have nx2' := ne_N' g2 lx2
    have nt2 := ne_N g2 lt2
    have hB2 := good_B g2
    have hR2 := good_rdB g2
    have hI2 := beqN g2.1.1
    simp (disch := omega) only [Tlaw18ProcEnds, Llaw18ProcEnds, Glaw18ProcEnds_10, V10_eq, Glaw18ProcEnds_law16Conf, Vlaw16Conf_eq, Glaw18ProcEnds_law16Memory, Glaw18ProcEnds_law18awake, Glaw18ProcEnds_law18pick, Vlaw18pick_eq, Glaw18ProcEnds_procStep, Glaw18ProcEnds_ref03Own, Glaw18ProcEnds_ref06Told, Vref06Told_eq, Glaw18ProcEnds_ref18Same, Vref18Same_eq, hB, hR, hI, lbE, kp.l, kp.t11, kp.t12, kp.t13, kp.t14, kp.t15, kp.t17, kp.t19, kp.t20, kp.t21, kp.t23, ev5, hnn, lm, bm, lc, bc, lw, bw, lx, bx, lt, bt, rb, rm, rc, rw', rx, rt, a0, a1, u0, u1, hlk, bb, Option.isNone_some, Option.isNone_none, Int.add_zero, Nat.add_zero, est, lm2, lc2, lw2, lx2, lt2, nm2, nc2, nw2, nx2, nx2', nt2, hB2, hR2, hI2, rA, rR, hfb, hLl, hz, all1, ress, res1, retV, Value.cells, newsV_s, e_fork, slcV, seval, eV]
    obtain ⟨gz, hz2⟩ := hs.next (XE flag val 3) (.cells (XE flag val 3) 13) (.cells [.int .i64 0, .int .u64 0] 2) (L' := LE M A R 3) M2 O2 g2
    refine ok_some (.inl ⟨rfl, 6 - 3, by omega, 3, by omega, rfl, _, _, _, rfl, gz, hz2, ⟨?_, ?_, ?_, ?_, ?_, ?_, ?_, ?_, ?_, ?_, ?_⟩⟩)
    all_goals simp (disch := omega) only [kp.l, kp.t11, kp.t12, kp.t13, kp.t14, kp.t15, kp.t17, kp.t19, kp.t20, kp.t21, kp.t23, ev5, seval, Int.cast_ofNat_Int, decide_true, ev2]
  · skip
    obtain ⟨hn, bb, h0b, hle, rest, hlk⟩ := hs.mem.at
    have hLl := LE_len (M := M) (A := A) (R := R) 3
    rw [hLl] at hn hle
    have hnn : ((n : Int) != (M.length : Int)) = false := by rw [hn]; simp
    have lm := hs.mem.lm
    have bm := hs.mem.bm
    have lc := hs.lc
    have lw := hs.lw
    have lx : lk H x = some (.cells [.int .i64 29, .int .i64 1, .int .u64 0, .int .u64 0, .int .u64 flag, .int .i64 0, .int .i64 0, .int .i64 0, .int .i64 0, .int .i64 0, .int .u64 0, .bool false, .slice none 0 0] 13) := hs.lx
    have lt := hs.lt
    have bc := hs.bc
    have bw := hs.bw
    have bx := hs.bx
    have bt := hs.bt
    have rb := rN bb
    have rm := rN bm
    have rc := rN bc
    have rw' := rN bw
    have rx := rN bx
    have rt := rN bt
    have a0 : (0 : Int) ≤ (A : Int) := by omega
    have a1 : A < n := by omega
    have u0 : (0 : Int) ≤ (R : Int) := by omega
    have u1 : R < n := by omega
    have rA : tk (fl c2 (LE M A R 3) ++ rest) (A * 2) 1 = some [.int .u64 ((LE M A R 3).getD A z2).w] := c2_r0 (by rw [hLl]; omega)
    have rR : tk (fl c2 (LE M A R 3) ++ rest) (R * 2) 1 = some [.int .u64 flag] := by
      rw [c2_r0 (by rw [hLl]; omega), LE_R hAR (by omega) (.inl rfl) 3 (by omega), hR0]
    have hz : ((LE M A R 3).getD A z2).w = 0 := by rw [LE_A hAR (by omega) 3 (by omega)]; rfl
    subst hvw
    obtain ⟨H2, N2, est, g2, M2, O2⟩ := st29 (i := R + 1) (code := 1) (key := 0) (val := 0) (flag := flag) (ps := 0) (ii := 0) (n := 0) (o := 0) (a := 0) (w := 0) (sm := false) hN hT C hq hs.mem (by rw [hLl]; exact hM) (by omega) (by omega) (by omega) (by rw [hLl]; omega)
    have lm2 := M2.lm
    have lc2 := O2 c _ hs.nc lc
    have lw2 := O2 w _ hs.nw lw
    have lx2 := O2 x _ hs.nx lx
    have lt2 := O2 t _ hs.nt lt
    have nm2 := ne_N g2 lm2
    have nc2 := ne_N g2 lc2
    have nw2 := ne_N g2 lw2
    have nx2 := ne_N g2 lx2
    have nx2' := ne_N' g2 lx2
    have nt2 := ne_N g2 lt2
    have hB2 := good_B g2
    have hR2 := good_rdB g2
    have hI2 := beqN g2.1.1
    have hv1 : ((LE M A R 3).getD (R + 1) z2).w = val := by rw [LE_R hAR (by omega) (.inr rfl) 3 (by omega), hR1]
    rw [hv1] at est
    simp (disch := omega) only [Tlaw18ProcEnds, Llaw18ProcEnds, Glaw18ProcEnds_10, V10_eq, Glaw18ProcEnds_law16Conf, Vlaw16Conf_eq, Glaw18ProcEnds_law16Memory, Glaw18ProcEnds_law18awake, Glaw18ProcEnds_law18pick, Vlaw18pick_eq, Glaw18ProcEnds_procStep, Glaw18ProcEnds_ref03Own, Glaw18ProcEnds_ref06Told, Vref06Told_eq, Glaw18ProcEnds_ref18Same, Vref18Same_eq, hB, hR, hI, lbE, kp.l, kp.t11, kp.t12, kp.t13, kp.t14, kp.t15, kp.t17, kp.t19, kp.t20, kp.t21, kp.t23, ev5, hnn, lm, bm, lc, bc, lw, bw, lx, bx, lt, bt, rb, rm, rc, rw', rx, rt, a0, a1, u0, u1, hlk, bb, Option.isNone_some, Option.isNone_none, Int.add_zero, Nat.add_zero, est, lm2, lc2, lw2, lx2, lt2, nm2, nc2, nw2, nx2, nx2', nt2, hB2, hR2, hI2, rA, rR, hfb, hLl, hz, all1, ress, res1, retV, Value.cells, newsV_s, e_fork, slcV, seval, eV]
    obtain ⟨gz, hz2⟩ := hs.next (XE flag val 4) (.cells (XE flag val 4) 13) (.cells [.int .i64 0, .int .u64 0] 2) (L' := LE M A R 4) M2 O2 g2
    refine ok_some (.inl ⟨rfl, 6 - 4, by omega, 4, by omega, rfl, _, _, _, rfl, gz, hz2, ⟨?_, ?_, ?_, ?_, ?_, ?_, ?_, ?_, ?_, ?_, ?_⟩⟩)
    all_goals simp (disch := omega) only [kp.l, kp.t11, kp.t12, kp.t13, kp.t14, kp.t15, kp.t17, kp.t19, kp.t20, kp.t21, kp.t23, ev5, seval, Int.cast_ofNat_Int, decide_true, ev2]
  · skip
    obtain ⟨hn, bb, h0b, hle, rest, hlk⟩ := hs.mem.at
    have hLl := LE_len (M := M) (A := A) (R := R) 4
    rw [hLl] at hn hle
    have hnn : ((n : Int) != (M.length : Int)) = false := by rw [hn]; simp
    have lm := hs.mem.lm
    have bm := hs.mem.bm
    have lc := hs.lc
    have lw := hs.lw
    have lx : lk H x = some (.cells [.int .i64 30, .int .i64 1, .int .u64 0, .int .u64 0, .int .u64 flag, .int .i64 0, .int .i64 0, .int .i64 0, .int .i64 0, .int .i64 0, .int .u64 val, .bool false, .slice none 0 0] 13) := hs.lx
    have lt := hs.lt
    have bc := hs.bc
    have bw := hs.bw
    have bx := hs.bx
    have bt := hs.bt
    have rb := rN bb
    have rm := rN bm
    have rc := rN bc
    have rw' := rN bw
    have rx := rN bx
    have rt := rN bt
    have a0 : (0 : Int) ≤ (A : Int) := by omega
    have a1 : A < n := by omega
    have u0 : (0 : Int) ≤ (R : Int) := by omega
    have u1 : R < n := by omega
    have rA : tk (fl c2 (LE M A R 4) ++ rest) (A * 2) 1 = some [.int .u64 ((LE M A R 4).getD A z2).w] := c2_r0 (by rw [hLl]; omega)
    have rR : tk (fl c2 (LE M A R 4) ++ rest) (R * 2) 1 = some [.int .u64 flag] := by
      rw [c2_r0 (by rw [hLl]; omega), LE_R hAR (by omega) (.inl rfl) 4 (by omega), hR0]
    have hz : ((LE M A R 4).getD A z2).w = 0 := by rw [LE_A hAR (by omega) 4 (by omega)]; rfl
    subst hvw
    obtain ⟨H2, N2, est, g2, M2, O2⟩ := st30 (i := R + 1) (code := 1) (key := 0) (val := 0) (flag := flag) (ps := 0) (ii := 0) (n := 0) (o := 0) (a := 0) (w := val) (sm := false) hN hT C hq hs.mem (by rw [hLl]; exact hM) (by omega) (by omega) (by omega) (by rw [hLl]; omega)
    have lm2 := M2.lm
    have lc2 := O2 c _ hs.nc lc
    have lw2 := O2 w _ hs.nw lw
    have lx2 := O2 x _ hs.nx lx
    have lt2 := O2 t _ hs.nt lt
    have nm2 := ne_N g2 lm2
    have nc2 := ne_N g2 lc2
    have nw2 := ne_N g2 lw2
    have nx2 := ne_N g2 lx2
    have nx2' := ne_N' g2 lx2
    have nt2 := ne_N g2 lt2
    have hB2 := good_B g2
    have hR2 := good_rdB g2
    have hI2 := beqN g2.1.1
    simp (disch := omega) only [Tlaw18ProcEnds, Llaw18ProcEnds, Glaw18ProcEnds_10, V10_eq, Glaw18ProcEnds_law16Conf, Vlaw16Conf_eq, Glaw18ProcEnds_law16Memory, Glaw18ProcEnds_law18awake, Glaw18ProcEnds_law18pick, Vlaw18pick_eq, Glaw18ProcEnds_procStep, Glaw18ProcEnds_ref03Own, Glaw18ProcEnds_ref06Told, Vref06Told_eq, Glaw18ProcEnds_ref18Same, Vref18Same_eq, hB, hR, hI, lbE, kp.l, kp.t11, kp.t12, kp.t13, kp.t14, kp.t15, kp.t17, kp.t19, kp.t20, kp.t21, kp.t23, ev5, hnn, lm, bm, lc, bc, lw, bw, lx, bx, lt, bt, rb, rm, rc, rw', rx, rt, a0, a1, u0, u1, hlk, bb, Option.isNone_some, Option.isNone_none, Int.add_zero, Nat.add_zero, est, lm2, lc2, lw2, lx2, lt2, nm2, nc2, nw2, nx2, nx2', nt2, hB2, hR2, hI2, rA, rR, hfb, hLl, hz, all1, ress, res1, retV, Value.cells, newsV_s, e_fork, slcV, seval, eV]
    obtain ⟨gz, hz2⟩ := hs.next (XE flag val 5) (.cells (XE flag val 5) 13) (.cells [.int .i64 0, .int .u64 0] 2) (L' := LE M A R 5) M2 O2 g2
    refine ok_some (.inl ⟨rfl, 6 - 5, by omega, 5, by omega, rfl, _, _, _, rfl, gz, hz2, ⟨?_, ?_, ?_, ?_, ?_, ?_, ?_, ?_, ?_, ?_, ?_⟩⟩)
    all_goals simp (disch := omega) only [kp.l, kp.t11, kp.t12, kp.t13, kp.t14, kp.t15, kp.t17, kp.t19, kp.t20, kp.t21, kp.t23, ev5, seval, Int.cast_ofNat_Int, decide_true, ev2]
  · skip
    obtain ⟨hn, bb, h0b, hle, rest, hlk⟩ := hs.mem.at
    have hLl := LE_len (M := M) (A := A) (R := R) 5
    rw [hLl] at hn hle
    have hnn : ((n : Int) != (M.length : Int)) = false := by rw [hn]; simp
    have lm := hs.mem.lm
    have bm := hs.mem.bm
    have lc := hs.lc
    have lw := hs.lw
    have lx : lk H x = some (.cells [.int .i64 31, .int .i64 1, .int .u64 0, .int .u64 0, .int .u64 flag, .int .i64 0, .int .i64 0, .int .i64 0, .int .i64 0, .int .i64 0, .int .u64 val, .bool false, .slice none 0 0] 13) := hs.lx
    have lt := hs.lt
    have bc := hs.bc
    have bw := hs.bw
    have bx := hs.bx
    have bt := hs.bt
    have rb := rN bb
    have rm := rN bm
    have rc := rN bc
    have rw' := rN bw
    have rx := rN bx
    have rt := rN bt
    have a0 : (0 : Int) ≤ (A : Int) := by omega
    have a1 : A < n := by omega
    have u0 : (0 : Int) ≤ (R : Int) := by omega
    have u1 : R < n := by omega
    have rA : tk (fl c2 (LE M A R 5) ++ rest) (A * 2) 1 = some [.int .u64 ((LE M A R 5).getD A z2).w] := c2_r0 (by rw [hLl]; omega)
    have rR : tk (fl c2 (LE M A R 5) ++ rest) (R * 2) 1 = some [.int .u64 flag] := by
      rw [c2_r0 (by rw [hLl]; omega), LE_R hAR (by omega) (.inl rfl) 5 (by omega), hR0]
    have hz : ((LE M A R 5).getD A z2).w = 0 := by rw [LE_A hAR (by omega) 5 (by omega)]; rfl
    subst hvw
    rcases hab with ⟨hf2, rfl, rfl⟩ | ⟨hf2, rfl, rfl⟩
    · skip
      obtain ⟨H2, N2, est, g2, M2, O2⟩ := st31a (i := R) (code := 1) (key := 0) (val := 0) (flag := flag) (ps := 0) (ii := 0) (n := 0) (o := 0) (a := 0) (w := val) (sm := false) hN hT C hq hs.mem (by rw [hLl]; exact hM) (by omega) hf hf2 hu (hRr) (by rw [hLl]; omega)
      have lm2 := M2.lm
      have lc2 := O2 c _ hs.nc lc
      have lw2 := O2 w _ hs.nw lw
      have lx2 := O2 x _ hs.nx lx
      have lt2 := O2 t _ hs.nt lt
      have nm2 := ne_N g2 lm2
      have nc2 := ne_N g2 lc2
      have nw2 := ne_N g2 lw2
      have nx2 := ne_N g2 lx2
      have nx2' := ne_N' g2 lx2
      have nt2 := ne_N g2 lt2
      have hB2 := good_B g2
      have hR2 := good_rdB g2
      have hI2 := beqN g2.1.1
      simp (disch := omega) only [Tlaw18ProcEnds, Llaw18ProcEnds, Glaw18ProcEnds_10, V10_eq, Glaw18ProcEnds_law16Conf, Vlaw16Conf_eq, Glaw18ProcEnds_law16Memory, Glaw18ProcEnds_law18awake, Glaw18ProcEnds_law18pick, Vlaw18pick_eq, Glaw18ProcEnds_procStep, Glaw18ProcEnds_ref03Own, Glaw18ProcEnds_ref06Told, Vref06Told_eq, Glaw18ProcEnds_ref18Same, Vref18Same_eq, hB, hR, hI, lbE, kp.l, kp.t11, kp.t12, kp.t13, kp.t14, kp.t15, kp.t17, kp.t19, kp.t20, kp.t21, kp.t23, ev5, hnn, lm, bm, lc, bc, lw, bw, lx, bx, lt, bt, rb, rm, rc, rw', rx, rt, a0, a1, u0, u1, hlk, bb, Option.isNone_some, Option.isNone_none, Int.add_zero, Nat.add_zero, est, lm2, lc2, lw2, lx2, lt2, nm2, nc2, nw2, nx2, nx2', nt2, hB2, hR2, hI2, rA, rR, hfb, hLl, hz, all1, ress, res1, retV, Value.cells, newsV_s, e_fork, slcV, seval, eV]
      obtain ⟨gz, hz2⟩ := hs.next (XE flag val 6) (.cells (XE flag val 6) 13) (.cells [.int .i64 (flag - 1), .int .u64 val] 2) (L' := LE M A R 6) M2 O2 g2
      refine ok_some (.inl ⟨rfl, 6 - 6, by omega, 6, by omega, rfl, _, _, _, rfl, gz, hz2, ⟨?_, ?_, ?_, ?_, ?_, ?_, ?_, ?_, ?_, ?_, ?_⟩⟩)
      all_goals simp (disch := omega) only [kp.l, kp.t11, kp.t12, kp.t13, kp.t14, kp.t15, kp.t17, kp.t19, kp.t20, kp.t21, kp.t23, ev5, seval, Int.cast_ofNat_Int, decide_true, ev2]
    · skip
      obtain ⟨H2, N2, est, g2, M2, O2⟩ := st31b (i := R) (code := 1) (key := 0) (val := 0) (flag := flag) (ps := 0) (ii := 0) (n := 0) (o := 0) (a := 0) (w := val) (sm := false) hN hT C hq hs.mem (by rw [hLl]; exact hM) (by omega) hf hf2 hu (hRr) (by rw [hLl]; omega)
      have lm2 := M2.lm
      have lc2 := O2 c _ hs.nc lc
      have lw2 := O2 w _ hs.nw lw
      have lx2 := O2 x _ hs.nx lx
      have lt2 := O2 t _ hs.nt lt
      have nm2 := ne_N g2 lm2
      have nc2 := ne_N g2 lc2
      have nw2 := ne_N g2 lw2
      have nx2 := ne_N g2 lx2
      have nx2' := ne_N' g2 lx2
      have nt2 := ne_N g2 lt2
      have hB2 := good_B g2
      have hR2 := good_rdB g2
      have hI2 := beqN g2.1.1
      simp (disch := omega) only [Tlaw18ProcEnds, Llaw18ProcEnds, Glaw18ProcEnds_10, V10_eq, Glaw18ProcEnds_law16Conf, Vlaw16Conf_eq, Glaw18ProcEnds_law16Memory, Glaw18ProcEnds_law18awake, Glaw18ProcEnds_law18pick, Vlaw18pick_eq, Glaw18ProcEnds_procStep, Glaw18ProcEnds_ref03Own, Glaw18ProcEnds_ref06Told, Vref06Told_eq, Glaw18ProcEnds_ref18Same, Vref18Same_eq, hB, hR, hI, lbE, kp.l, kp.t11, kp.t12, kp.t13, kp.t14, kp.t15, kp.t17, kp.t19, kp.t20, kp.t21, kp.t23, ev5, hnn, lm, bm, lc, bc, lw, bw, lx, bx, lt, bt, rb, rm, rc, rw', rx, rt, a0, a1, u0, u1, hlk, bb, Option.isNone_some, Option.isNone_none, Int.add_zero, Nat.add_zero, est, lm2, lc2, lw2, lx2, lt2, nm2, nc2, nw2, nx2, nx2', nt2, hB2, hR2, hI2, rA, rR, hfb, hLl, hz, all1, ress, res1, retV, Value.cells, newsV_s, e_fork, slcV, seval, eV]
      obtain ⟨gz, hz2⟩ := hs.next (XE flag val 6) (.cells (XE flag val 6) 13) (.cells [.int .i64 0, .int .u64 0] 2) (L' := LE M A R 6) M2 O2 g2
      refine ok_some (.inl ⟨rfl, 6 - 6, by omega, 6, by omega, rfl, _, _, _, rfl, gz, hz2, ⟨?_, ?_, ?_, ?_, ?_, ?_, ?_, ?_, ?_, ?_, ?_⟩⟩)
      all_goals simp (disch := omega) only [kp.l, kp.t11, kp.t12, kp.t13, kp.t14, kp.t15, kp.t17, kp.t19, kp.t20, kp.t21, kp.t23, ev5, seval, Int.cast_ofNat_Int, decide_true, ev2]
  · simp (disch := omega) only [Tlaw18ProcEnds, Llaw18ProcEnds, Glaw18ProcEnds_10, V10_eq, Glaw18ProcEnds_law16Conf, Vlaw16Conf_eq, Glaw18ProcEnds_law16Memory, Glaw18ProcEnds_law18awake, Glaw18ProcEnds_law18pick, Vlaw18pick_eq, Glaw18ProcEnds_procStep, Glaw18ProcEnds_ref03Own, Glaw18ProcEnds_ref06Told, Vref06Told_eq, Glaw18ProcEnds_ref18Same, Vref18Same_eq, hB, hR, hI, lbE, kp.l, kp.t11, kp.t12, kp.t13, kp.t14, kp.t15, kp.t17, kp.t19, kp.t20, kp.t21, kp.t23, ev5, all1, ress, res1, retV, Value.cells, newsV_s, e_fork, slcV, seval, eV]
    refine ok_some (.inr ⟨by simp, rfl, _, _, _, rfl, hN, hs, ⟨?_, ?_, ?_, ?_, ?_, ?_, ?_, ?_, ?_, ?_, ?_⟩⟩)
    all_goals simp (disch := omega) only [kp.l, kp.t11, kp.t12, kp.t13, kp.t14, kp.t15, kp.t17, kp.t19, kp.t20, kp.t21, kp.t23, ev5, seval, Int.cast_ofNat_Int, decide_true, ev2]
end Go.Proofs.YtbpaekbjpapgeaaGreatDoor
