/- Proved here: for every three numbers and every place, in every memory whose listed table reads as the program's text lays it, RegionParts answers true and leaves its arguments as they were. Conditions: the table is as the row lists it (the card ties that to the program's text). -/
import Derived.Test.YtjblkikblmglkaaDoorOwnD
import Derived.Test.YtjblkikblmglkaaDoorRows
import Derived.Test.YtjblkikblmglkaaDoorCards
import Derived.Test.YtjblkikblmglkaaDoorTie
set_option linter.unusedSimpArgs false
set_option linter.unusedVariables false
namespace Go.Proofs.YtjblkikblmglkaaDoor
open Go.Proofs.YtjblkikblmglkaaDoor.K Go.ChangeShapes Go.WideShapes Go.ChangeAt Go.RowKit
set_option maxRecDepth 100000
set_option linter.unusedSimpArgs false
set_option linter.unusedVariables false

theorem gObj : Tryd.prog.globalNamed "whitewash/region.objects" = some 0 := by kernel_rfl
theorem gObjT : (Tryd.prog.globals[0]?).map (·.type) = some 45 := by kernel_rfl
theorem leafs45 : leafs Tryd.prog 12 45 = some [.int .i64, .int .i64, .int .i64, .int .i64, .int .i64, .int .i64, .int .i64, .int .i64, .int .i64, .int .i64, .int .i64, .int .i64] := by kernel_rfl
theorem tab {W : World} (h : laidMetH Tryd.prog Rows.regionPartsRow.laid W) : Tab (startB W) := by
  obtain ⟨ps, hv, _⟩ := laidMet_of_H (by rfl) h
  obtain ⟨a1, e1, f1, h1, l1⟩ := laid_cells hv (n := "whitewash/region.objects") (x := Rows.laid_whitewash_region_objects) (by simp [Rows.regionPartsRow]) 12 gObj gObjT leafs45
  have hw : rdB (startB W) 0 0 12 = some OBJ := rdB_whole h1 l1 (by rfl)
  intro i hi
  have := rdB_sub (i := i * 2) (k := 2) hw (by omega)
  rwa [Nat.zero_add] at this
namespace regionParts
theorem own : ownKnob Tryd.prog.godebug = none := by kernel_rfl
theorem laidOut : laidOutB Tryd.prog = true := by kernel_rfl
theorem typesOk : (Tryd.f3.params.toList.all fun t => Tryd.prog.readableRec t && decide (t < Tryd.prog.types.size)) = true := by kernel_rfl
theorem contract (H : Type) (enc : TypeId × Value → H) (W : World) (base : Nat) (args : Array Value) (ds gs : List (DataW H)) (before : List MemPlace)
    (hval : ∀ (j : Nat) t v, Tryd.f3.params[j]? = some t → args[j]? = some v → Value.okWide Tryd.prog W .any base t v)
    (hW : DataW.Whole enc Tryd.prog Tryd.f3.params.toList Rows.regionPartsSpec.vars false W args.toList ds gs before) (hL : laidMetH Tryd.prog Rows.regionPartsRow.laid W) :
    Calls Tryd.prog 3 args W fun e W' => ∃ v, e = .returned v ∧ Rows.regionPartsSpec.post enc Tryd.prog Tryd.f3 false true false false W args v W' := by
  have hW' := hW
  obtain ⟨p, q, hA0, hV, hpq, hfz, hnd⟩ := hW
  have hA : DataW.TrodAll enc Tryd.prog W 0 (fun _ => true) true Tryd.f3.params.toList args.toList ds p := hA0
  rw [Tryd.params3] at hA hval
  obtain ⟨v0, vs0, d0, ds0, p0, q0, hargs, rfl, rfl, h0, r0⟩ := trodAll_cons hA
  obtain ⟨v1, vs1, d1, ds1, p1, q1, rfl, rfl, rfl, h1, r1⟩ := trodAll_cons r0
  obtain ⟨rfl, rfl, rfl⟩ := trodAll_nil r1
  obtain rfl : args = #[v0, v1] := by apply Array.ext'; simpa using hargs
  obtain ⟨rfl, rfl⟩ := trodVars_none hV
  obtain ⟨m0, rfl, k0⟩ := open_flat (P := Tryd.prog) 20 (show aggB Tryd.prog 22 = some true by kernel_rfl) (show leafs Tryd.prog 20 22 = some [.int .i64, .int .i64, .int .i64] by kernel_rfl) (hval 0 22 v0 rfl rfl) h0
  obtain ⟨x0_0, m0_0, rfl, w0_0, k0⟩ := k0.int
  have b0_0 := i64_wf w0_0
  obtain ⟨x0_1, m0_1, rfl, w0_1, k0⟩ := k0.int
  have b0_1 := i64_wf w0_1
  obtain ⟨x0_2, m0_2, rfl, w0_2, k0⟩ := k0.int
  have b0_2 := i64_wf w0_2
  obtain rfl := k0.none
  obtain ⟨x1, rfl, rfl, rfl, w1⟩ := open_int Tryd.underlying3 (hval 1 3 v1 rfl rfl) h1
  have b1 := i64_wf w1
  refine law_post laidOut (fun t ht => by simpa using List.all_eq_true.1 typesOk t ht) rfl (show Tryd.f3.resultTypes = #[4] by rfl) Tryd.underlying4 hW' rfl rfl rfl ?_
  have hs := callF_sound (w0 := W) (B := startB W) mixedOrders sG3 200 Tryd.func3 low3
  exact law_calls hs (args := [.agg #[.int .i64 x0_0, .int .i64 x0_1, .int .i64 x0_2], .int .i64 x1]) fun N hN => lv3 (tab hL) x0_0 x0_1 x0_2 x1 b0_0 b0_1 b0_2 b1 [] N hN

noncomputable def laidWorld (os : Os) : World := laidW Tryd.prog os [(0, OBJ)]
theorem laid_met (os : Os) : laidMet Tryd.prog Rows.regionPartsRow.laid ((laidWorld os).forCall (fun _ _ => 0) ⟨#[], #[.agg #[.int .i64 0, .int .i64 0, .int .i64 0], .int .i64 0], []⟩).memory :=
  laidMet_of_run' 16 (by kernel_rfl) (by kernel_rfl)
theorem reads (os : Os) {H : Type} (enc : TypeId × Value → H) : ∃ places, DataW.whole enc Tryd.prog ((laidWorld os).forCall (fun _ _ => 0) ⟨#[], #[.agg #[.int .i64 0, .int .i64 0, .int .i64 0], .int .i64 0], []⟩).memory Tryd.f3.params.toList Rows.regionPartsSpec.vars false (#[.agg #[.int .i64 0, .int .i64 0, .int .i64 0], .int .i64 0] : Array Value).toList 16 = some ([.agg [.lit (.int .i64 0), .lit (.int .i64 0), .lit (.int .i64 0)], .lit (.int .i64 0)], [], places) :=
  ⟨[], by kernel_rfl⟩
theorem lifted (os : Os) (started : os.Started) (H : Type) (enc : TypeId × Value → H) (F : Stop.Interp) :
    ReturnsInHanded {} Tryd.checked os 3 .any ((OpenSpec.ofChange Rows.regionPartsSpec).preRow enc Tryd.prog Tryd.f3 Rows.regionPartsRow.domain false Rows.regionPartsRow.laid) (((OpenSpec.ofChange Rows.regionPartsSpec).at F).post enc Tryd.prog Tryd.f3 false true false false) := by
  obtain ⟨places, hx⟩ := reads os enc
  refine returnsInHanded_of_row (C := Tryd.checked) (s := OpenSpec.ofChange Rows.regionPartsSpec) own started (by kernel_rfl) Tryd.func3
    (witness_row_at (enc := enc) (C := Tryd.checked) false (laidWorld os) #[.agg #[.int .i64 0, .int .i64 0, .int .i64 0], .int .i64 0] rfl (by kernel_rfl) (by kernel_rfl) (by kernel_rfl)
      (OpenSpec.preRow_of_cond 16 hx (by kernel_rfl) (fun k hk => by cases hk) (by kernel_rfl) (laid_met os))) ?_
  intro W base args ds gs before hval hW _ _ _ hL _ _
  exact contract H enc W base args ds gs before hval hW hL
theorem said : Rows.RegionPartsSaid :=
  OpenClaim.holds_of_cond 3 Tryd.f3 rfl rfl rfl rfl rfl rfl rfl ⟨rfl, rfl, rfl, rfl, rfl⟩ rfl rfl rfl rfl rfl (by kernel_rfl) Tryd.func3 (by kernel_rfl)
    (of_decide_eq_true (by kernel_rfl)) (by unfold Func.isWrapper; first | (rw [if_pos (by decide +kernel)]; kernel_rfl) | (rw [if_neg (by decide +kernel)]; exact ⟨rfl, rfl⟩))
    (fun os started H enc _ F => by rw [OpenClaim.pre_eq_preRow]; exact lifted os started H enc F)
theorem plain (f : FuncId) (fn : Func) (hf : Tryd.pinned.checked.prog.funcNamed "whitewash/whitewashlaw04.RegionParts" = some f) (hfn : Tryd.pinned.checked.prog.funcs[f]? = some fn) :
    false = Tryd.pinned.checked.prog.looks [] ∧ ∀ (j : Nat) t, fn.params[j]? = some t → Tryd.pinned.checked.prog.wantsStandIn t = false := by
  obtain rfl : f = 3 := Option.some.inj ((show Tryd.prog.funcNamed "whitewash/whitewashlaw04.RegionParts" = some 3 by kernel_rfl).symm.trans hf) |>.symm
  obtain rfl : fn = Tryd.f3 := (Option.some.inj (Tryd.func3.symm.trans hfn)).symm
  refine ⟨by kernel_rfl, fun j t ht => ?_⟩
  have hall : (Tryd.f3.params.toList.all fun t => !Tryd.prog.wantsStandIn t) = true := by kernel_rfl
  have := List.all_eq_true.1 hall t (by simpa using Array.mem_of_getElem? ht)
  show Tryd.prog.wantsStandIn t = false
  simpa using this
theorem card : Rows.RegionPartsCardSaid :=
  Claim7.holds_tied_plain_at .later [] _ _ _ _ said (fun _ h => by cases h) (by kernel_rfl) (fun _ h => by cases h) regionParts_row_tie rfl ⟨rfl, rfl⟩ (by kernel_rfl) rfl plain (by kernel_rfl)
end regionParts
end Go.Proofs.YtjblkikblmglkaaDoor
