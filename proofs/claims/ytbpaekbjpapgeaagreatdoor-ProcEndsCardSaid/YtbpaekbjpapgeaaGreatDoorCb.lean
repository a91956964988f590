/- The run of the law's example, part for part. -/
import Derived.Test.YtbpaekbjpapgeaaGreatDoorCa
set_option linter.unusedSimpArgs false
set_option linter.unusedVariables false
namespace Go.Proofs.YtbpaekbjpapgeaaGreatDoor.K
set_option maxRecDepth 1000000
theorem h1 : cexec EG 0 399 (seqL A9.code) S0 = some (.normal, S1) := by kernel_rfl
theorem h2 : cexec EG 0 398 (seqL (seqR A9.code)) S1 = some (.normal, S2) := by kernel_rfl
theorem h3 : cexec EG 0 397 (seqL (seqR (seqR A9.code))) S2 = some (.normal, S3) := by kernel_rfl
theorem h4 : cexec EG 0 396 (seqL (seqR (seqR (seqR A9.code)))) S3 = some (.normal, S4) := by kernel_rfl
theorem h5 : cexec EG 0 395 (seqL (seqR (seqR (seqR (seqR A9.code))))) S4 = some (.normal, S5) := by kernel_rfl
theorem h6 : cexec EG 0 394 (seqL (seqR (seqR (seqR (seqR (seqR A9.code)))))) S5 = some (.normal, S6) := by kernel_rfl
theorem h7 : cexec EG 0 393 (seqL (seqR (seqR (seqR (seqR (seqR (seqR A9.code))))))) S6 = some (.normal, S7) := by kernel_rfl
theorem h8 : cexec EG 0 391 (seqL (seqL (seqR (seqR (seqR (seqR (seqR (seqR (seqR A9.code))))))))) S7 = some (.normal, S8) := by kernel_rfl
theorem t0 : cgcO DD9 0 (cexec EG 0 389 (lopB (blkB (seqR (seqL (seqR (seqR (seqR (seqR (seqR (seqR (seqR A9.code))))))))))) S8) = some (.normal, T0) := by kernel_rfl
theorem t1 : cgcO DD9 0 (cexec EG 0 388 (lopB (blkB (seqR (seqL (seqR (seqR (seqR (seqR (seqR (seqR (seqR A9.code))))))))))) T0) = some (.normal, T1) := by kernel_rfl
end Go.Proofs.YtbpaekbjpapgeaaGreatDoor.K
namespace Go.Proofs.YtbpaekbjpapgeaaGreatDoor.K
set_option maxRecDepth 1000000
theorem t2 : cgcO DD9 0 (cexec EG 0 387 (lopB (blkB (seqR (seqL (seqR (seqR (seqR (seqR (seqR (seqR (seqR A9.code))))))))))) T1) = some (.normal, T2) := by kernel_rfl
theorem t3 : cgcO DD9 0 (cexec EG 0 386 (lopB (blkB (seqR (seqL (seqR (seqR (seqR (seqR (seqR (seqR (seqR A9.code))))))))))) T2) = some (.normal, T3) := by kernel_rfl
theorem t4 : cgcO DD9 0 (cexec EG 0 385 (lopB (blkB (seqR (seqL (seqR (seqR (seqR (seqR (seqR (seqR (seqR A9.code))))))))))) T3) = some (.normal, T4) := by kernel_rfl
theorem t5 : cgcO DD9 0 (cexec EG 0 384 (lopB (blkB (seqR (seqL (seqR (seqR (seqR (seqR (seqR (seqR (seqR A9.code))))))))))) T4) = some (.normal, T5) := by kernel_rfl
theorem t6 : cgcO DD9 0 (cexec EG 0 383 (lopB (blkB (seqR (seqL (seqR (seqR (seqR (seqR (seqR (seqR (seqR A9.code))))))))))) T5) = some (.normal, T6) := by kernel_rfl
theorem t7 : cgcO DD9 0 (cexec EG 0 382 (lopB (blkB (seqR (seqL (seqR (seqR (seqR (seqR (seqR (seqR (seqR A9.code))))))))))) T6) = some (.normal, T7) := by kernel_rfl
theorem t8 : cgcO DD9 0 (cexec EG 0 381 (lopB (blkB (seqR (seqL (seqR (seqR (seqR (seqR (seqR (seqR (seqR A9.code))))))))))) T7) = some (.normal, T8) := by kernel_rfl
theorem t9 : cgcO DD9 0 (cexec EG 0 380 (lopB (blkB (seqR (seqL (seqR (seqR (seqR (seqR (seqR (seqR (seqR A9.code))))))))))) T8) = some (.normal, T9) := by kernel_rfl
theorem t10 : cgcO DD9 0 (cexec EG 0 379 (lopB (blkB (seqR (seqL (seqR (seqR (seqR (seqR (seqR (seqR (seqR A9.code))))))))))) T9) = some (.normal, T10) := by kernel_rfl
theorem t11 : cgcO DD9 0 (cexec EG 0 378 (lopB (blkB (seqR (seqL (seqR (seqR (seqR (seqR (seqR (seqR (seqR A9.code))))))))))) T10) = some (.normal, T11) := by kernel_rfl
end Go.Proofs.YtbpaekbjpapgeaaGreatDoor.K
namespace Go.Proofs.YtbpaekbjpapgeaaGreatDoor.K
set_option maxRecDepth 1000000
theorem t12 : cgcO DD9 0 (cexec EG 0 377 (lopB (blkB (seqR (seqL (seqR (seqR (seqR (seqR (seqR (seqR (seqR A9.code))))))))))) T11) = some (.normal, T12) := by kernel_rfl
theorem t13 : cgcO DD9 0 (cexec EG 0 376 (lopB (blkB (seqR (seqL (seqR (seqR (seqR (seqR (seqR (seqR (seqR A9.code))))))))))) T12) = some (.normal, T13) := by kernel_rfl
theorem t14 : cgcO DD9 0 (cexec EG 0 375 (lopB (blkB (seqR (seqL (seqR (seqR (seqR (seqR (seqR (seqR (seqR A9.code))))))))))) T13) = some (.normal, T14) := by kernel_rfl
theorem t15 : cgcO DD9 0 (cexec EG 0 374 (lopB (blkB (seqR (seqL (seqR (seqR (seqR (seqR (seqR (seqR (seqR A9.code))))))))))) T14) = some (.normal, T15) := by kernel_rfl
theorem t16 : cgcO DD9 0 (cexec EG 0 373 (lopB (blkB (seqR (seqL (seqR (seqR (seqR (seqR (seqR (seqR (seqR A9.code))))))))))) T15) = some (.normal, T16) := by kernel_rfl
theorem t17 : cgcO DD9 0 (cexec EG 0 372 (lopB (blkB (seqR (seqL (seqR (seqR (seqR (seqR (seqR (seqR (seqR A9.code))))))))))) T16) = some (.normal, T17) := by kernel_rfl
theorem t18 : cgcO DD9 0 (cexec EG 0 371 (lopB (blkB (seqR (seqL (seqR (seqR (seqR (seqR (seqR (seqR (seqR A9.code))))))))))) T17) = some (.normal, T18) := by kernel_rfl
theorem t19 : cgcO DD9 0 (cexec EG 0 370 (lopB (blkB (seqR (seqL (seqR (seqR (seqR (seqR (seqR (seqR (seqR A9.code))))))))))) T18) = some (.normal, T19) := by kernel_rfl
theorem t20 : cgcO DD9 0 (cexec EG 0 369 (lopB (blkB (seqR (seqL (seqR (seqR (seqR (seqR (seqR (seqR (seqR A9.code))))))))))) T19) = some (.normal, T20) := by kernel_rfl
theorem t21 : cgcO DD9 0 (cexec EG 0 368 (lopB (blkB (seqR (seqL (seqR (seqR (seqR (seqR (seqR (seqR (seqR A9.code))))))))))) T20) = some (.normal, T21) := by kernel_rfl
end Go.Proofs.YtbpaekbjpapgeaaGreatDoor.K
namespace Go.Proofs.YtbpaekbjpapgeaaGreatDoor.K
set_option maxRecDepth 1000000
theorem t22 : cgcO DD9 0 (cexec EG 0 367 (lopB (blkB (seqR (seqL (seqR (seqR (seqR (seqR (seqR (seqR (seqR A9.code))))))))))) T21) = some (.normal, T22) := by kernel_rfl
theorem t23 : cgcO DD9 0 (cexec EG 0 366 (lopB (blkB (seqR (seqL (seqR (seqR (seqR (seqR (seqR (seqR (seqR A9.code))))))))))) T22) = some (.normal, T23) := by kernel_rfl
theorem t24 : cgcO DD9 0 (cexec EG 0 365 (lopB (blkB (seqR (seqL (seqR (seqR (seqR (seqR (seqR (seqR (seqR A9.code))))))))))) T23) = some (.normal, T24) := by kernel_rfl
theorem t25 : cgcO DD9 0 (cexec EG 0 364 (lopB (blkB (seqR (seqL (seqR (seqR (seqR (seqR (seqR (seqR (seqR A9.code))))))))))) T24) = some (.normal, T25) := by kernel_rfl
theorem t26 : cgcO DD9 0 (cexec EG 0 363 (lopB (blkB (seqR (seqL (seqR (seqR (seqR (seqR (seqR (seqR (seqR A9.code))))))))))) T25) = some (.normal, T26) := by kernel_rfl
theorem t27 : cgcO DD9 0 (cexec EG 0 362 (lopB (blkB (seqR (seqL (seqR (seqR (seqR (seqR (seqR (seqR (seqR A9.code))))))))))) T26) = some (.normal, T27) := by kernel_rfl
theorem t28 : cgcO DD9 0 (cexec EG 0 361 (lopB (blkB (seqR (seqL (seqR (seqR (seqR (seqR (seqR (seqR (seqR A9.code))))))))))) T27) = some (.normal, T28) := by kernel_rfl
theorem t29 : cgcO DD9 0 (cexec EG 0 360 (lopB (blkB (seqR (seqL (seqR (seqR (seqR (seqR (seqR (seqR (seqR A9.code))))))))))) T28) = some (.normal, T29) := by kernel_rfl
theorem t30 : cgcO DD9 0 (cexec EG 0 359 (lopB (blkB (seqR (seqL (seqR (seqR (seqR (seqR (seqR (seqR (seqR A9.code))))))))))) T29) = some (.normal, T30) := by kernel_rfl
theorem t31 : cgcO DD9 0 (cexec EG 0 358 (lopB (blkB (seqR (seqL (seqR (seqR (seqR (seqR (seqR (seqR (seqR A9.code))))))))))) T30) = some (.normal, T31) := by kernel_rfl
end Go.Proofs.YtbpaekbjpapgeaaGreatDoor.K
