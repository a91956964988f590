/- The run of the law's example, part for part, and joined. -/
import Derived.Test.YtbpaekbjpapgeaaGreatDoorCa
import Derived.Test.YtbpaekbjpapgeaaGreatDoorCb
set_option linter.unusedSimpArgs false
set_option linter.unusedVariables false
namespace Go.Proofs.YtbpaekbjpapgeaaGreatDoor.K
set_option maxRecDepth 1000000
theorem t32 : cgcO DD9 0 (cexec EG 0 357 (lopB (blkB (seqR (seqL (seqR (seqR (seqR (seqR (seqR (seqR (seqR A9.code))))))))))) T31) = some (.normal, T32) := by kernel_rfl
theorem t33 : cgcO DD9 0 (cexec EG 0 356 (lopB (blkB (seqR (seqL (seqR (seqR (seqR (seqR (seqR (seqR (seqR A9.code))))))))))) T32) = some (.normal, T33) := by kernel_rfl
theorem t34 : cgcO DD9 0 (cexec EG 0 355 (lopB (blkB (seqR (seqL (seqR (seqR (seqR (seqR (seqR (seqR (seqR A9.code))))))))))) T33) = some (.normal, T34) := by kernel_rfl
theorem t35 : cgcO DD9 0 (cexec EG 0 354 (lopB (blkB (seqR (seqL (seqR (seqR (seqR (seqR (seqR (seqR (seqR A9.code))))))))))) T34) = some (.normal, T35) := by kernel_rfl
theorem t36 : cgcO DD9 0 (cexec EG 0 353 (lopB (blkB (seqR (seqL (seqR (seqR (seqR (seqR (seqR (seqR (seqR A9.code))))))))))) T35) = some (.normal, T36) := by kernel_rfl
theorem t37 : cgcO DD9 0 (cexec EG 0 352 (lopB (blkB (seqR (seqL (seqR (seqR (seqR (seqR (seqR (seqR (seqR A9.code))))))))))) T36) = some (.normal, T37) := by kernel_rfl
theorem t38 : cgcO DD9 0 (cexec EG 0 351 (lopB (blkB (seqR (seqL (seqR (seqR (seqR (seqR (seqR (seqR (seqR A9.code))))))))))) T37) = some (.normal, T38) := by kernel_rfl
theorem t39 : cgcO DD9 0 (cexec EG 0 350 (lopB (blkB (seqR (seqL (seqR (seqR (seqR (seqR (seqR (seqR (seqR A9.code))))))))))) T38) = some (.normal, T39) := by kernel_rfl
theorem t40 : cgcO DD9 0 (cexec EG 0 349 (lopB (blkB (seqR (seqL (seqR (seqR (seqR (seqR (seqR (seqR (seqR A9.code))))))))))) T39) = some (.normal, T40) := by kernel_rfl
theorem t41 : cgcO DD9 0 (cexec EG 0 348 (lopB (blkB (seqR (seqL (seqR (seqR (seqR (seqR (seqR (seqR (seqR A9.code))))))))))) T40) = some (.normal, T41) := by kernel_rfl
end Go.Proofs.YtbpaekbjpapgeaaGreatDoor.K
namespace Go.Proofs.YtbpaekbjpapgeaaGreatDoor.K
set_option maxRecDepth 1000000
theorem t42 : cgcO DD9 0 (cexec EG 0 347 (lopB (blkB (seqR (seqL (seqR (seqR (seqR (seqR (seqR (seqR (seqR A9.code))))))))))) T41) = some (.normal, T42) := by kernel_rfl
theorem t43 : cgcO DD9 0 (cexec EG 0 346 (lopB (blkB (seqR (seqL (seqR (seqR (seqR (seqR (seqR (seqR (seqR A9.code))))))))))) T42) = some (.normal, T43) := by kernel_rfl
theorem t44 : cgcO DD9 0 (cexec EG 0 345 (lopB (blkB (seqR (seqL (seqR (seqR (seqR (seqR (seqR (seqR (seqR A9.code))))))))))) T43) = some (.normal, T44) := by kernel_rfl
theorem t45 : cgcO DD9 0 (cexec EG 0 344 (lopB (blkB (seqR (seqL (seqR (seqR (seqR (seqR (seqR (seqR (seqR A9.code))))))))))) T44) = some (.normal, T45) := by kernel_rfl
theorem t46 : cgcO DD9 0 (cexec EG 0 343 (lopB (blkB (seqR (seqL (seqR (seqR (seqR (seqR (seqR (seqR (seqR A9.code))))))))))) T45) = some (.normal, T46) := by kernel_rfl
theorem t47 : cgcO DD9 0 (cexec EG 0 342 (lopB (blkB (seqR (seqL (seqR (seqR (seqR (seqR (seqR (seqR (seqR A9.code))))))))))) T46) = some (.normal, T47) := by kernel_rfl
theorem t48 : cgcO DD9 0 (cexec EG 0 341 (lopB (blkB (seqR (seqL (seqR (seqR (seqR (seqR (seqR (seqR (seqR A9.code))))))))))) T47) = some (.normal, T48) := by kernel_rfl
theorem t49 : cgcO DD9 0 (cexec EG 0 340 (lopB (blkB (seqR (seqL (seqR (seqR (seqR (seqR (seqR (seqR (seqR A9.code))))))))))) T48) = some (.normal, T49) := by kernel_rfl
theorem t50 : cgcO DD9 0 (cexec EG 0 339 (lopB (blkB (seqR (seqL (seqR (seqR (seqR (seqR (seqR (seqR (seqR A9.code))))))))))) T49) = some (.normal, T50) := by kernel_rfl
theorem t51 : cgcO DD9 0 (cexec EG 0 338 (lopB (blkB (seqR (seqL (seqR (seqR (seqR (seqR (seqR (seqR (seqR A9.code))))))))))) T50) = some (.normal, T51) := by kernel_rfl
end Go.Proofs.YtbpaekbjpapgeaaGreatDoor.K
namespace Go.Proofs.YtbpaekbjpapgeaaGreatDoor.K
set_option maxRecDepth 1000000
theorem t52 : cgcO DD9 0 (cexec EG 0 337 (lopB (blkB (seqR (seqL (seqR (seqR (seqR (seqR (seqR (seqR (seqR A9.code))))))))))) T51) = some (.normal, T52) := by kernel_rfl
theorem t53 : cgcO DD9 0 (cexec EG 0 336 (lopB (blkB (seqR (seqL (seqR (seqR (seqR (seqR (seqR (seqR (seqR A9.code))))))))))) T52) = some (.normal, T53) := by kernel_rfl
theorem t54 : cgcO DD9 0 (cexec EG 0 335 (lopB (blkB (seqR (seqL (seqR (seqR (seqR (seqR (seqR (seqR (seqR A9.code))))))))))) T53) = some (.normal, T54) := by kernel_rfl
theorem t55 : cgcO DD9 0 (cexec EG 0 334 (lopB (blkB (seqR (seqL (seqR (seqR (seqR (seqR (seqR (seqR (seqR A9.code))))))))))) T54) = some (.normal, T55) := by kernel_rfl
theorem t56 : cgcO DD9 0 (cexec EG 0 333 (lopB (blkB (seqR (seqL (seqR (seqR (seqR (seqR (seqR (seqR (seqR A9.code))))))))))) T55) = some (.normal, T56) := by kernel_rfl
theorem t57 : cgcO DD9 0 (cexec EG 0 332 (lopB (blkB (seqR (seqL (seqR (seqR (seqR (seqR (seqR (seqR (seqR A9.code))))))))))) T56) = some (.normal, T57) := by kernel_rfl
theorem t58 : cgcO DD9 0 (cexec EG 0 331 (lopB (blkB (seqR (seqL (seqR (seqR (seqR (seqR (seqR (seqR (seqR A9.code))))))))))) T57) = some (.normal, T58) := by kernel_rfl
theorem t59 : cgcO DD9 0 (cexec EG 0 330 (lopB (blkB (seqR (seqL (seqR (seqR (seqR (seqR (seqR (seqR (seqR A9.code))))))))))) T58) = some (.normal, T59) := by kernel_rfl
theorem t60 : cgcO DD9 0 (cexec EG 0 329 (lopB (blkB (seqR (seqL (seqR (seqR (seqR (seqR (seqR (seqR (seqR A9.code))))))))))) T59) = some (.normal, T60) := by kernel_rfl
theorem t61 : cgcO DD9 0 (cexec EG 0 328 (lopB (blkB (seqR (seqL (seqR (seqR (seqR (seqR (seqR (seqR (seqR A9.code))))))))))) T60) = some (.normal, T61) := by kernel_rfl
end Go.Proofs.YtbpaekbjpapgeaaGreatDoor.K
namespace Go.Proofs.YtbpaekbjpapgeaaGreatDoor.K
set_option maxRecDepth 1000000
theorem t62 : cgcO DD9 0 (cexec EG 0 327 (lopB (blkB (seqR (seqL (seqR (seqR (seqR (seqR (seqR (seqR (seqR A9.code))))))))))) T61) = some (.normal, T62) := by kernel_rfl
theorem t63 : cgcO DD9 0 (cexec EG 0 326 (lopB (blkB (seqR (seqL (seqR (seqR (seqR (seqR (seqR (seqR (seqR A9.code))))))))))) T62) = some (.normal, T63) := by kernel_rfl
theorem t64 : cgcO DD9 0 (cexec EG 0 325 (lopB (blkB (seqR (seqL (seqR (seqR (seqR (seqR (seqR (seqR (seqR A9.code))))))))))) T63) = some (.normal, T64) := by kernel_rfl
theorem t65 : cgcO DD9 0 (cexec EG 0 324 (lopB (blkB (seqR (seqL (seqR (seqR (seqR (seqR (seqR (seqR (seqR A9.code))))))))))) T64) = some (.normal, T65) := by kernel_rfl
theorem t66 : cgcO DD9 0 (cexec EG 0 323 (lopB (blkB (seqR (seqL (seqR (seqR (seqR (seqR (seqR (seqR (seqR A9.code))))))))))) T65) = some (.normal, T66) := by kernel_rfl
theorem t67 : cgcO DD9 0 (cexec EG 0 322 (lopB (blkB (seqR (seqL (seqR (seqR (seqR (seqR (seqR (seqR (seqR A9.code))))))))))) T66) = some (.normal, T67) := by kernel_rfl
theorem t68 : cgcO DD9 0 (cexec EG 0 321 (lopB (blkB (seqR (seqL (seqR (seqR (seqR (seqR (seqR (seqR (seqR A9.code))))))))))) T67) = some (.normal, T68) := by kernel_rfl
theorem te : cgcO DD9 0 (cexec EG 0 320 (lopB (blkB (seqR (seqL (seqR (seqR (seqR (seqR (seqR (seqR (seqR A9.code))))))))))) T68) = some (.exit 0, TE) := by kernel_rfl
theorem h9 : cexec EG 0 391 (seqL (seqR (seqR (seqR (seqR (seqR (seqR (seqR (seqR A9.code))))))))) TE = some (.normal, S9) := by kernel_rfl
theorem h10 : cexec EG 0 391 (seqR (seqR (seqR (seqR (seqR (seqR (seqR (seqR (seqR A9.code))))))))) S9 = some (.ret, S10) := by kernel_rfl
end Go.Proofs.YtbpaekbjpapgeaaGreatDoor.K
namespace Go.Proofs.YtbpaekbjpapgeaaGreatDoor.K
set_option maxRecDepth 1000000
section
variable {G : CEnv} {n0 m : Nat} {a b : LC} {s s' : CS}
theorem cx_seq {r : COut} (h : cexec G n0 m a s = some (.normal, s')) (h2 : cexec G n0 m b s' = r) : cexec G n0 (m + 1) (.seq a b) s = r := by
  show cseq _ _ = r
  rw [h]; exact h2
theorem cx_loop {r : COut} (h : cgcO G.dd n0 (cexec G n0 m b s) = some (.normal, s')) (h2 : cexec G n0 m (.loop b) s' = r) : cexec G n0 (m + 1) (.loop b) s = r := by
  show cseq _ _ = r
  rw [h]; exact h2
theorem cx_out {i : Nat} (h : cgcO G.dd n0 (cexec G n0 m b s) = some (.exit i, s')) : cexec G n0 (m + 1) (.loop b) s = some (.exit i, s') := by
  show cseq _ _ = _
  rw [h]; rfl
theorem cx_blk {i : Nat} (h : cexec G n0 m a s = some (.exit i, s')) : cexec G n0 (m + 1) (.block i a) s = some (.normal, s') := by
  show cblk i _ = _
  rw [h]
  show (bif Nat.beq i i then _ else _) = _
  rw [show Nat.beq i i = true by simp]; rfl
end
theorem shape : A9.code = .seq (seqL A9.code) (.seq (seqL (seqR A9.code)) (.seq (seqL (seqR (seqR A9.code))) (.seq (seqL (seqR (seqR (seqR A9.code)))) (.seq (seqL (seqR (seqR (seqR (seqR A9.code))))) (.seq (seqL (seqR (seqR (seqR (seqR (seqR A9.code)))))) (.seq (seqL (seqR (seqR (seqR (seqR (seqR (seqR A9.code))))))) (.seq (.seq (seqL (seqL (seqR (seqR (seqR (seqR (seqR (seqR (seqR A9.code))))))))) (.block 0 (.loop (lopB (blkB (seqR (seqL (seqR (seqR (seqR (seqR (seqR (seqR (seqR A9.code)))))))))))))) (.seq (seqL (seqR (seqR (seqR (seqR (seqR (seqR (seqR (seqR A9.code))))))))) (seqR (seqR (seqR (seqR (seqR (seqR (seqR (seqR (seqR A9.code))))))))))))))))) := by kernel_rfl
theorem loopRun : cexec EG 0 391 (.block 0 (.loop (lopB (blkB (seqR (seqL (seqR (seqR (seqR (seqR (seqR (seqR (seqR A9.code))))))))))))) S8 = some (.normal, TE) :=
  cx_blk (cx_loop t0 (cx_loop t1 (cx_loop t2 (cx_loop t3 (cx_loop t4 (cx_loop t5 (cx_loop t6 (cx_loop t7 (cx_loop t8 (cx_loop t9 (cx_loop t10 (cx_loop t11 (cx_loop t12 (cx_loop t13 (cx_loop t14 (cx_loop t15 (cx_loop t16 (cx_loop t17 (cx_loop t18 (cx_loop t19 (cx_loop t20 (cx_loop t21 (cx_loop t22 (cx_loop t23 (cx_loop t24 (cx_loop t25 (cx_loop t26 (cx_loop t27 (cx_loop t28 (cx_loop t29 (cx_loop t30 (cx_loop t31 (cx_loop t32 (cx_loop t33 (cx_loop t34 (cx_loop t35 (cx_loop t36 (cx_loop t37 (cx_loop t38 (cx_loop t39 (cx_loop t40 (cx_loop t41 (cx_loop t42 (cx_loop t43 (cx_loop t44 (cx_loop t45 (cx_loop t46 (cx_loop t47 (cx_loop t48 (cx_loop t49 (cx_loop t50 (cx_loop t51 (cx_loop t52 (cx_loop t53 (cx_loop t54 (cx_loop t55 (cx_loop t56 (cx_loop t57 (cx_loop t58 (cx_loop t59 (cx_loop t60 (cx_loop t61 (cx_loop t62 (cx_loop t63 (cx_loop t64 (cx_loop t65 (cx_loop t66 (cx_loop t67 (cx_loop t68 (cx_out te))))))))))))))))))))))))))))))))))))))))))))))))))))))))))))))))))))))
theorem codeRun : cexec EG 0 400 A9.code S0 = some (.ret, S10) := by
  rw [shape]
  exact cx_seq h1 (cx_seq h2 (cx_seq h3 (cx_seq h4 (cx_seq h5 (cx_seq h6 (cx_seq h7 (cx_seq (cx_seq h8 loopRun) (cx_seq h9 h10))))))))
theorem cenv_l {T : Nat → Option Fn3} {K : Nat → Bool} {DD : Nat → List Nat} {F d k n : Nat} {Y : Nat → CCs} {f : FnL} {as : List Value} {C : CH} (h : T k = some (.l f)) (hk : K k = true) : cenv T K DD F (d + 1) Y k as C n = ccallF ⟨cenv T K DD F d Y, Y, fun k Y' => cenv T K DD F d Y' k, DD⟩ n F f as C n := by
  simp only [cenv, h, hk, ccutK, cond_true]
theorem ct9 : CT 9 = some (.l A9) := by kernel_rfl
theorem startRun : (⟨pad [] A9.ntmps, [], 0⟩ : CS) = S0 := by kernel_rfl
theorem endRun : cfin A9.res (some (.ret, S10)) = some (.bool true, S10.H, S10.n) := by kernel_rfl
theorem awakeRun : cenv CT (fun _ => true) DD9 400 40 noY 9 [] [] 0 = some (.bool true, S10.H, S10.n) := by
  have e : cexec EG 0 400 A9.code ⟨pad [] A9.ntmps, [], 0⟩ = some (.ret, S10) := by rw [startRun]; exact codeRun
  exact (cenv_l (d := 39) ct9 rfl).trans ((congrArg (cfin A9.res) e).trans endRun)
end Go.Proofs.YtbpaekbjpapgeaaGreatDoor.K
