/- Closed facts about the program's text that the row asks. -/
import Derived.ProofKit
import Derived.Test.YtbpaekbjpapgeaaGreatDoorRows
import Derived.Test.YtbpaekbjpapgeaaGreatDoorCards
import Derived.Test.YtbpaekbjpapgeaaGreatDoorTie
set_option linter.unusedSimpArgs false
set_option linter.unusedVariables false
namespace Go.Proofs.YtbpaekbjpapgeaaGreatDoor
open Go Go.ChangeShapes Go.WideShapes Go.ChangeAt Go.RowKit
set_option maxRecDepth 100000
set_option linter.unusedSimpArgs false
set_option linter.unusedVariables false
theorem goes_of {P : Program} {f : FuncId} {L : List FuncId} (h : P.closure f = L) (h1 : (L.any fun g => (P.funcs[g]?).any Func.goes) = false) (h2 : P.funcs.any Func.goes = false) : P.goes f = false := by
  unfold Program.goes
  rw [h, h1, h2, Bool.and_false]; rfl
theorem goesBy_of {P : Program} {c : OpenClaim} {k : FuncId} (hs : c.start = .entering) (hf : P.funcNamed c.func = some k) (hg : P.goes k = false) : false = c.goesBy P := by
  unfold OpenClaim.goesBy Program.goesAt Program.goesFrom
  rw [hs, hf]
  simp [hg]
namespace procEnds
theorem clo : Tryz.prog.closure 7 = [7, 9, 30, 47, 39, 69, 70, 105, 59, 62, 132, 133, 16, 34, 14, 35, 36, 37, 38, 65, 63, 125, 66, 67, 44, 54, 124, 23, 68, 20, 45, 46, 74, 139, 141, 26, 151, 199, 200, 260, 142, 75, 76, 77, 140, 78, 143, 144, 79, 145, 201, 261, 146, 147, 202, 207, 204, 265, 266, 300, 212, 262, 64, 134, 181, 230, 182, 231, 281, 282, 254, 252, 283, 305, 183, 232, 233, 234, 184, 235, 135, 185, 236, 284, 306, 285, 308, 309, 326, 343, 344, 325, 335, 336, 355, 337, 356, 357, 338, 358, 359, 368, 339, 340, 341, 342, 310, 311, 327, 307, 314, 316, 329, 320, 315, 328, 312, 297, 237, 186, 238, 287, 292, 293, 286, 239, 187, 288, 313, 289, 240, 249, 294, 317, 318, 241, 290, 136, 188, 242, 291, 189, 190, 243, 244, 245, 246, 247, 248, 250, 137, 191, 251, 198, 259, 258, 192, 193, 253, 194, 255, 295, 296, 319, 330, 195, 256, 196, 257, 197, 298, 321, 331, 345, 360, 369, 346, 347, 332, 348, 361, 370, 372, 371, 373, 149, 208, 349, 350, 363, 362, 351, 364, 365, 352, 367, 366, 203, 263, 264, 299, 205, 267, 206, 268, 301, 148, 150, 209, 210, 211, 213, 80, 81, 152, 153, 154, 82, 155, 83, 84, 85, 156, 86, 87, 88, 157, 89, 158, 90, 91, 92, 93, 159, 94, 95, 160, 96, 97, 98, 99, 100, 101, 102, 103, 104, 161, 214, 18, 22, 10, 33, 27, 12, 19, 28] := by kernel_rfl
theorem unf : Tryz.prog.unfollowed 7 = true := by unfold Program.unfollowed; rw [clo]; kernel_rfl
theorem inPl : Tryz.prog.inPlace 7 = Rows.procEndsRow.inPlace := by unfold Program.inPlace; rw [clo]; kernel_rfl
theorem recu : Tryz.prog.recurses 7 = true := by unfold Program.recurses; rw [unf]; rfl
theorem vars : Tryz.prog.varsNamed 7 = Rows.procEndsRow.named := by unfold Program.varsNamed; rw [clo]; kernel_rfl
theorem noGo1 : ([7, 9, 30, 47, 39, 69, 70, 105, 59, 62, 132, 133, 16, 34, 14, 35, 36, 37, 38, 65, 63, 125, 66, 67, 44, 54, 124, 23, 68, 20, 45, 46, 74, 139, 141, 26, 151, 199, 200, 260, 142, 75, 76, 77, 140, 78, 143, 144, 79, 145, 201, 261, 146, 147, 202, 207, 204, 265, 266, 300, 212, 262, 64, 134, 181, 230, 182, 231, 281, 282, 254, 252, 283, 305, 183, 232, 233, 234, 184, 235, 135, 185, 236, 284, 306, 285, 308, 309, 326, 343, 344, 325, 335, 336, 355, 337, 356, 357, 338, 358, 359, 368, 339, 340, 341, 342, 310, 311, 327, 307, 314, 316, 329, 320, 315, 328, 312, 297, 237, 186, 238, 287, 292, 293, 286, 239, 187, 288, 313, 289, 240, 249, 294, 317, 318, 241, 290, 136, 188, 242, 291, 189, 190, 243, 244, 245, 246, 247, 248, 250, 137, 191, 251, 198, 259, 258, 192, 193, 253, 194, 255, 295, 296, 319, 330, 195, 256, 196, 257, 197, 298, 321, 331, 345, 360, 369, 346, 347, 332, 348, 361, 370, 372, 371, 373, 149, 208, 349, 350, 363, 362, 351, 364, 365, 352, 367, 366, 203, 263, 264, 299, 205, 267, 206, 268, 301, 148, 150, 209, 210, 211, 213, 80, 81, 152, 153, 154, 82, 155, 83, 84, 85, 156, 86, 87, 88, 157, 89, 158, 90, 91, 92, 93, 159, 94, 95, 160, 96, 97, 98, 99, 100, 101, 102, 103, 104, 161, 214, 18, 22, 10, 33, 27, 12, 19, 28].any fun g => (Tryz.prog.funcs[g]?).any Func.goes) = false := by kernel_rfl
theorem noGo2 : (Tryz.prog.funcs.any Func.goes) = false := by kernel_rfl
theorem goes : Tryz.prog.goes 7 = false := goes_of clo noGo1 noGo2
theorem fnamed : Tryz.prog.funcNamed "whitewash/whitewashlaw18.ProcEnds" = some 7 := by kernel_rfl
theorem fnamedP : Tryz.pinned.checked.prog.funcNamed Rows.procEndsRow.func = some 7 := by kernel_rfl
theorem goesP : Tryz.pinned.checked.prog.goes 7 = false := goes
theorem goesBy : false = Rows.procEndsRow.goesBy Tryz.pinned.checked.prog := goesBy_of rfl fnamedP goesP
theorem rowWf : Rows.procEndsRow.wf (OpenSpec.ofChange Rows.procEndsSpec) = true := by kernel_rfl
theorem wfText : Rows.procEndsRow.wfByText (OpenSpec.ofChange Rows.procEndsSpec) = true := by kernel_rfl
theorem fInPl : (Rows.procEndsRow.inPlace == Tryz.pinned.checked.prog.inPlace 7) = true := by
  show (Rows.procEndsRow.inPlace == Tryz.prog.inPlace 7) = true
  rw [inPl]; kernel_rfl
theorem fUnf : (Rows.procEndsRow.unfollowed == Tryz.pinned.checked.prog.unfollowed 7) = true := by
  show (Rows.procEndsRow.unfollowed == Tryz.prog.unfollowed 7) = true
  rw [unf]; rfl
theorem fRec : (Rows.procEndsRow.recurses == Tryz.pinned.checked.prog.recurses 7) = true := by
  show (Rows.procEndsRow.recurses == Tryz.prog.recurses 7) = true
  rw [recu]; rfl
theorem fVars : (Rows.procEndsRow.named == Tryz.pinned.checked.prog.varsNamed 7) = true := by
  show (Rows.procEndsRow.named == Tryz.prog.varsNamed 7) = true
  rw [vars]; kernel_rfl
set_option maxHeartbeats 8000000 in
theorem closed : joinedFacts Tryz.pinned.checked.prog 7 Tryz.f7 (OpenSpec.ofChange Rows.procEndsSpec).bare Rows.procEndsRow = true := by
  unfold joinedFacts
  simp only [Bool.and_eq_true]
  refine ⟨⟨⟨⟨⟨⟨⟨⟨⟨⟨⟨⟨⟨⟨⟨⟨⟨⟨⟨⟨⟨⟨⟨⟨⟨⟨⟨⟨⟨⟨⟨?_, ?_⟩, ?_⟩, ?_⟩, ?_⟩, ?_⟩, ?_⟩, ?_⟩, ?_⟩, ?_⟩, ?_⟩, ?_⟩, ?_⟩, ?_⟩, ?_⟩, ?_⟩, ?_⟩, ?_⟩, ?_⟩, ?_⟩, ?_⟩, ?_⟩, ?_⟩, ?_⟩, ?_⟩, ?_⟩, ?_⟩, ?_⟩, ?_⟩, ?_⟩, ?_⟩, ?_⟩
  · exact rowWf
  · as_aux_lemma => kernel_rfl
  · as_aux_lemma => kernel_rfl
  · as_aux_lemma => kernel_rfl
  · as_aux_lemma => kernel_rfl
  · as_aux_lemma => kernel_rfl
  · as_aux_lemma => kernel_rfl
  · as_aux_lemma => kernel_rfl
  · as_aux_lemma => kernel_rfl
  · exact fInPl
  · exact fUnf
  · exact fRec
  · exact fVars
  · as_aux_lemma => kernel_rfl
  · as_aux_lemma => kernel_rfl
  · as_aux_lemma => kernel_rfl
  · as_aux_lemma => kernel_rfl
  · as_aux_lemma => kernel_rfl
  · as_aux_lemma => kernel_rfl
  · as_aux_lemma => kernel_rfl
  · as_aux_lemma => kernel_rfl
  · as_aux_lemma => kernel_rfl
  · as_aux_lemma => kernel_rfl
  · as_aux_lemma => kernel_rfl
  · as_aux_lemma => kernel_rfl
  · as_aux_lemma => kernel_rfl
  · as_aux_lemma => kernel_rfl
  · as_aux_lemma => kernel_rfl
  · as_aux_lemma => kernel_rfl
  · as_aux_lemma => kernel_rfl
  · as_aux_lemma => kernel_rfl
  · as_aux_lemma => kernel_rfl
end procEnds
end Go.Proofs.YtbpaekbjpapgeaaGreatDoor
