/- The code of the functions that the law's example reaches, and the states between the parts of its run. -/
import Derived.Test.YtbpaekbjpapgeaaGreatDoorKc
set_option linter.unusedSimpArgs false
set_option linter.unusedVariables false
namespace Go.Proofs.YtbpaekbjpapgeaaGreatDoor.K
def A9 : FnL := ⟨(.seq (.ops [oa 0 (.mv (.const (.bool false)))])
 (.seq (.ops [oa 14 (.build [(.int .i64 0), (.int .i64 0), (.int .i64 0)] [(0, 1, (oi 1)), (1, 1, (oi 1)), (2, 1, (oi 1))]),oa 1 (.alloc [(.int .i64 0), (.int .i64 0), (.int .i64 0)]), oc (.store 3 (ot 1) (ot 14))])
 (.seq (.ops [oa 15 (.load true 3 (ot 1)),oa 16 (.buildS [(.int .u64 0)] 1 [(0, 1, (ou 0))]),oa 17 (.call (.func 30) [(ot 15), (ot 16)]),oa 2 (.alloc [(.slice none 0 0)]), oc (.store 1 (ot 2) (ot 17))])
 (.seq (.ops [oa 19 (.load true 3 (ot 1)),oa 20 (.build [(.int .i64 0), (.int .i64 0), (.int .u64 0), (.int .u64 0), (.int .u64 0), (.int .i64 0), (.int .i64 0), (.int .i64 0), (.int .i64 0), (.int .i64 0), (.int .u64 0), (.bool false), (.slice none 0 0)] []),oa 21 (.build [(.int .i64 0), (.int .u64 0), (.int .u64 0)] [(0, 1, (oi 2)), (2, 1, (ou 5))]),oa 22 (.call (.func 16) [(ot 19), (oi 0), (ot 20), (ot 21)]),om 18 22,oa 23 (.ext (ot 18) 0),oa 24 (.ext (ot 18) 1),oa 3 (.alloc [(.int .i64 0), (.int .i64 0), (.int .u64 0), (.int .u64 0), (.int .u64 0), (.int .i64 0), (.int .i64 0), (.int .i64 0), (.int .i64 0), (.int .i64 0), (.int .u64 0), (.bool false), (.slice none 0 0)]), oc (.store 13 (ot 3) (ot 23)),om 4 24])
 (.seq (.ops [oa 26 (.load true 3 (ot 1)),oa 27 (.load true 13 (ot 3)),oa 28 (.build [(.int .i64 0), (.int .u64 0), (.int .u64 0)] [(0, 1, (oi 1))]),oa 29 (.call (.func 16) [(ot 26), (oi 0), (ot 27), (ot 28)]),om 25 29,oa 30 (.ext (ot 25) 0),oa 31 (.ext (ot 25) 1),oa 5 (.alloc [(.int .i64 0), (.int .i64 0), (.int .u64 0), (.int .u64 0), (.int .u64 0), (.int .i64 0), (.int .i64 0), (.int .i64 0), (.int .i64 0), (.int .i64 0), (.int .u64 0), (.bool false), (.slice none 0 0)]), oc (.store 13 (ot 5) (ot 30)),om 6 31])
 (.seq (.ops [oa 33 (.load true 3 (ot 1)),oa 34 (.build [(.int .i64 0), (.int .i64 0), (.int .u64 0), (.int .u64 0), (.int .u64 0), (.int .i64 0), (.int .i64 0), (.int .i64 0), (.int .i64 0), (.int .i64 0), (.int .u64 0), (.bool false), (.slice none 0 0)] []),oa 35 (.build [(.int .i64 0), (.int .u64 0), (.int .u64 0)] []),oa 36 (.call (.func 16) [(ot 33), (oi 0), (ot 34), (ot 35)]),om 32 36,oa 37 (.ext (ot 32) 0),oa 38 (.ext (ot 32) 1),oa 7 (.alloc [(.int .i64 0), (.int .i64 0), (.int .u64 0), (.int .u64 0), (.int .u64 0), (.int .i64 0), (.int .i64 0), (.int .i64 0), (.int .i64 0), (.int .i64 0), (.int .u64 0), (.bool false), (.slice none 0 0)]), oc (.store 13 (ot 7) (ot 37)),om 8 38])
 (.seq (.seq (.ops [om 39 4,oa 40 (.bin .neq (ot 39) (oi 0)),om 41 40,ob 42 (.mv (ot 6)) 41 false,ob 43 (.bin .neq (ot 42) (oi 20)) 41 false,oa 44 (.pick (ot 41) (.const (.bool true)) (ot 43)),om 45 44,ob 46 (.mv (ot 8)) 45 false,ob 47 (.bin .neq (ot 46) (oi 1)) 45 false,oa 48 (.pick (ot 45) (.const (.bool true)) (ot 47)),om 49 48,ob 50 (.load true 3 (ot 1)) 49 false,ob 51 (.load true 13 (ot 3)) 49 false,ob 52 (.call (.func 14) [(ot 50), (oi 0), (ot 51)]) 49 false,ob 53 (.un .not (ot 52)) 49 false,oa 54 (.pick (ot 49) (.const (.bool true)) (ot 53)),om 55 54,ob 56 (.load true 3 (ot 1)) 55 false,ob 57 (.load true 13 (ot 3)) 55 false,ob 58 (.call (.func 14) [(ot 56), (oi 1), (ot 57)]) 55 false,oa 59 (.pick (ot 55) (.const (.bool true)) (ot 58))])
 (.cond (ot 59) (.seq (.ops [oa 0 (.mv (.const (.bool false)))])
 .ret)
 .skip))
 (.seq (.seq (.ops [oa 9 (.mv (oi 1))])
 (.block 0 (.loop (.seq (.seq (.ops [om 60 9,oa 61 (.bin .leq (ot 60) (oi 69))])
 (.cond (ot 61) .skip
 (.exit 0)))
 (.seq (.block 1 (.seq (.ops [oa 65 (.load true 3 (ot 1)),oa 66 (.load true 13 (ot 3)),oa 67 (.call (.func 20) [(ot 65), (ot 2), (oi 0), (ot 66)]),om 64 67,oa 68 (.ext (ot 64) 0),oa 69 (.ext (ot 64) 1),oa 70 (.ext (ot 64) 2),oa 71 (.ext (ot 64) 3),oa 10 (.alloc [(.int .i64 0), (.int .i64 0), (.int .u64 0), (.int .u64 0), (.int .u64 0), (.int .i64 0), (.int .i64 0), (.int .i64 0), (.int .i64 0), (.int .i64 0), (.int .u64 0), (.bool false), (.slice none 0 0)]),oa 11 (.alloc [(.int .i64 0), (.int .u64 0)]), oc (.store 13 (ot 10) (ot 68)), oc (.store 2 (ot 11) (ot 69)),om 12 70,om 13 71])
 (.seq (.seq (.ops [om 72 13,oa 73 (.bin .neq (ot 72) (oi 0)),om 74 73,ob 75 (.mv (ot 12)) 74 false,ob 76 (.mv (ot 9)) 74 false,ob 77 (.bin .eql (ot 76) (oi 69)) 74 false,ob 78 (.eqb true (ot 75) (ot 77)) 74 false,oa 79 (.pick (ot 74) (.const (.bool true)) (ot 78)),om 80 79,ob 81 (.load true 2 (ot 11)) 80 false,ob 82 (.build [(.int .i64 0), (.int .u64 0)] []) 80 false,ob 83 (.eqA true [.int, .int] (ot 81) (ot 82)) 80 false,oa 84 (.pick (ot 80) (.const (.bool true)) (ot 83))])
 (.cond (ot 84) (.seq (.ops [oa 0 (.mv (.const (.bool false)))])
 .ret)
 .skip))
 (.ops [oa 85 (.load true 13 (ot 10)), oc (.store 13 (ot 3) (ot 85))]))))
 (.ops [om 62 9,oa 63 (.bin .add (ot 62) (oi 1)),om 9 63]))))))
 (.seq (.draw [oe 86 (.load true 13 (ot 3)),oe 87 (.build [(.int .i64 0), (.int .i64 0), (.int .u64 0), (.int .u64 0), (.int .u64 0), (.int .i64 0), (.int .i64 0), (.int .i64 0), (.int .i64 0), (.int .i64 0), (.int .u64 0), (.bool false), (.slice none 0 0)] []),oe 88 (.call (.func 18) [(ot 86), (ot 87)]),pm 89 88, ⟨ob 90 (.load true 1 (ot 2)) 89 true,[]⟩,⟨ob 91 (.load true 3 (ot 1)) 89 true,[]⟩,⟨ob 92 (.buildS [(.int .u64 0)] 1 [(0, 1, (ou 5))]) 89 true, [ob 90 (.load true 1 (ot 2)) 89 true,ob 91 (.load true 3 (ot 1)) 89 true]⟩,⟨ob 93 (.call (.func 30) [(ot 91), (ot 92)]) 89 true, [ob 90 (.load true 1 (ot 2)) 89 true]⟩,⟨ob 94 (.call (.func 22) [(ot 90), (ot 93)]) 89 true,[]⟩,oe 95 (.pick (ot 89) (ot 94) (.const (.bool false))),pm 0 95])
 .ret))))))))),
 96, [.tmp 0]⟩
def A14 : FnL := ⟨(.seq (.ops [oa 3 (.box (ot 0)),oa 5 (.box (ot 2)),oa 6 (.mv (.const (.bool false)))])
 (.seq (.seq (.ops [oa 7 (.load true 3 (ot 3)),oa 8 (.call (.func 34) [(ot 7)]),oa 9 (.un .not (ot 8)),om 10 9,ob 11 (.mv (ot 1)) 10 false,ob 12 (.faddr 1 (ot 3)) 10 false,ob 13 (.load false 1 (ot 12)) 10 false,ob 14 (.call (.func 35) [(ot 11), (ot 13)]) 10 false,ob 15 (.un .not (ot 14)) 10 false,oa 16 (.pick (ot 10) (.const (.bool true)) (ot 15))])
 (.cond (ot 16) (.seq (.ops [oa 6 (.mv (.const (.bool false)))])
 .ret)
 .skip))
 (.seq (.seq (.ops [og 17 0 5,ol 18 17,oa 19 (.bin .eql (ot 18) (oi 0))])
 (.cond (ot 19) (.seq (.ops [og 20 1 5,oa 21 (.load true 3 (ot 20)),oa 22 (.build [(.int .i64 0), (.int .u64 0), (.int .u64 0)] []),oa 23 (.eqA false [.int, .int, .int] (ot 21) (ot 22)),om 24 23,ob 25 (.faddr 4 (ot 5)) 24 true,ob 26 (.load false 1 (ot 25)) 24 true,ob 27 (.bin .eql (ot 26) (ou 0)) 24 true,oa 28 (.pick (ot 24) (ot 27) (.const (.bool false))),om 29 28,ob 30 (.faddr 5 (ot 5)) 29 true,ob 31 (.load false 1 (ot 30)) 29 true,ob 32 (.bin .eql (ot 31) (oi 0)) 29 true,oa 33 (.pick (ot 29) (ot 32) (.const (.bool false))),om 34 33,ob 35 (.load true 13 (ot 5)) 34 true,ob 36 (.call (.func 36) [(ot 35)]) 34 true,oa 37 (.pick (ot 34) (ot 36) (.const (.bool false))),om 6 37])
 .ret)
 .skip))
 (.seq (.seq (.ops [og 38 0 5,ol 39 38,oa 40 (.bin .lss (ot 39) (oi 0)),om 41 40,ob 42 (.faddr 0 (ot 5)) 41 false,ob 43 (.load false 1 (ot 42)) 41 false,ob 44 (.bin .gtr (ot 43) (oi 31)) 41 false,oa 45 (.pick (ot 41) (.const (.bool true)) (ot 44)),om 46 45,ob 47 (.faddr 1 (ot 5)) 46 false,ob 48 (.faddr 0 (ot 47)) 46 false,ob 49 (.load false 1 (ot 48)) 46 false,ob 50 (.bin .lss (ot 49) (oi 1)) 46 false,oa 51 (.pick (ot 46) (.const (.bool true)) (ot 50)),om 52 51,ob 53 (.faddr 1 (ot 5)) 52 false,ob 54 (.faddr 0 (ot 53)) 52 false,ob 55 (.load false 1 (ot 54)) 52 false,ob 56 (.bin .gtr (ot 55) (oi 255)) 52 false,oa 57 (.pick (ot 52) (.const (.bool true)) (ot 56)),om 58 57,ob 59 (.load true 13 (ot 5)) 58 false,ob 60 (.call (.func 37) [(ot 59)]) 58 false,ob 61 (.un .not (ot 60)) 58 false,oa 62 (.pick (ot 58) (.const (.bool true)) (ot 61))])
 (.cond (ot 62) (.seq (.ops [oa 6 (.mv (.const (.bool false)))])
 .ret)
 .skip))
 (.seq (.ops [oa 63 (.load true 3 (ot 3)),oa 64 (.load true 13 (ot 5)),oa 65 (.call (.func 38) [(ot 63), (ot 64)]),om 6 65])
 .ret))))),
 66, [.tmp 6]⟩
def A16 : FnL := ⟨(.seq (.ops [oa 4 (.box (ot 0)),oa 6 (.box (ot 2)),oa 7 (.box (ot 3)),oa 8 (.alloc [(.int .i64 0), (.int .i64 0), (.int .u64 0), (.int .u64 0), (.int .u64 0), (.int .i64 0), (.int .i64 0), (.int .i64 0), (.int .i64 0), (.int .i64 0), (.int .u64 0), (.bool false), (.slice none 0 0)]),oa 9 (.mv (oi 0))])
 (.seq (.block 0 (.seq (.ops [oa 11 (.load true 3 (ot 4)),oa 12 (.call (.func 34) [(ot 11)]),oa 13 (.un .not (ot 12)),om 10 13])
 (.cond (ot 10) (.seq (.ops [oa 14 (.build [(.int .i64 0), (.int .i64 0), (.int .u64 0), (.int .u64 0), (.int .u64 0), (.int .i64 0), (.int .i64 0), (.int .i64 0), (.int .i64 0), (.int .i64 0), (.int .u64 0), (.bool false), (.slice none 0 0)] []), oc (.store 13 (ot 8) (ot 14)),oa 9 (.mv (oi 5))])
 .ret)
 (.seq (.seq (.ops [oa 16 (.load true 3 (ot 4)),om 17 1,oa 18 (.load true 13 (ot 6)),oa 19 (.call (.func 14) [(ot 16), (ot 17), (ot 18)]),oa 20 (.un .not (ot 19)),om 15 20])
 (.cond (ot 15) .skip
 (.seq (.ops [og 21 0 7,ol 22 21,oa 23 (.bin .lss (ot 22) (oi 1)),om 15 23])
 (.cond (ot 15) .skip
 (.ops [og 24 0 7,ol 25 24,oa 26 (.bin .gtr (ot 25) (oi 255)),om 15 26])))))
 (.cond (ot 15) (.seq (.ops [oa 27 (.build [(.int .i64 0), (.int .i64 0), (.int .u64 0), (.int .u64 0), (.int .u64 0), (.int .i64 0), (.int .i64 0), (.int .i64 0), (.int .i64 0), (.int .i64 0), (.int .u64 0), (.bool false), (.slice none 0 0)] []), oc (.store 13 (ot 8) (ot 27)),oa 9 (.mv (oi 1))])
 .ret)
 (.seq (.ops [og 29 0 6,ol 30 29,oa 31 (.bin .neq (ot 30) (oi 0)),om 28 31])
 (.cond (ot 28) (.seq (.ops [oa 32 (.build [(.int .i64 0), (.int .i64 0), (.int .u64 0), (.int .u64 0), (.int .u64 0), (.int .i64 0), (.int .i64 0), (.int .i64 0), (.int .i64 0), (.int .i64 0), (.int .u64 0), (.bool false), (.slice none 0 0)] []), oc (.store 13 (ot 8) (ot 32)),oa 9 (.mv (oi 20))])
 .ret)
 .skip)))))))
 (.seq (.ops [oa 33 (.load true 3 (ot 7)),oa 34 (.build [(.int .i64 0), (.int .i64 0), (.int .u64 0), (.int .u64 0), (.int .u64 0), (.int .i64 0), (.int .i64 0), (.int .i64 0), (.int .i64 0), (.int .i64 0), (.int .u64 0), (.bool false), (.slice none 0 0)] [(0, 1, (oi 1)), (1, 3, (ot 33))]), oc (.store 13 (ot 8) (ot 34)),oa 9 (.mv (oi 0))])
 .ret))),
 35, [.cell 8 true 13, .tmp 9]⟩
def A18 : FnL := ⟨(.seq (.ops [oa 2 (.box (ot 0)),oa 3 (.box (ot 1)),oa 4 (.mv (.const (.bool false)))])
 (.seq (.seq (.ops [og 6 12 2,ol 7 6,oa 8 (.len false (ot 7)),og 9 12 3,ol 10 9,oa 11 (.len false (ot 10)),oa 12 (.bin .neq (ot 8) (ot 11))])
 (.cond (ot 12) (.seq (.ops [oa 4 (.mv (.const (.bool false)))])
 .ret)
 .skip))
 (.seq (.seq (.ops [oa 5 (.mv (oi 0))])
 (.block 0 (.loop (.seq (.seq (.ops [om 13 5,og 14 12 2,ol 15 14,oa 16 (.len false (ot 15)),oa 17 (.bin .lss (ot 13) (ot 16))])
 (.cond (ot 17) .skip
 (.exit 0)))
 (.seq (.block 1 (.seq (.draw [pg 20 12 2,pl 21 20,pm 22 5,oe 23 (.iaddrS 1 (ot 21) (ot 22)),pl 24 23,pg 25 12 3,pl 26 25,pm 27 5,oe 28 (.iaddrS 1 (ot 26) (ot 27)),pl 29 28,oe 30 (.bin .neq (ot 24) (ot 29))])
 (.cond (ot 30) (.seq (.ops [oa 4 (.mv (.const (.bool false)))])
 .ret)
 .skip)))
 (.ops [om 18 5,oa 19 (.bin .add (ot 18) (oi 1)),om 5 19]))))))
 (.seq (.ops [og 31 0 2,ol 32 31,og 33 0 3,ol 34 33,oa 35 (.bin .eql (ot 32) (ot 34)),om 36 35,ob 37 (.faddr 1 (ot 2)) 36 true,ob 38 (.load true 3 (ot 37)) 36 true,ob 39 (.faddr 1 (ot 3)) 36 true,ob 40 (.load true 3 (ot 39)) 36 true,ob 41 (.eqA false [.int, .int, .int] (ot 38) (ot 40)) 36 true,oa 42 (.pick (ot 36) (ot 41) (.const (.bool false))),om 43 42,ob 44 (.faddr 4 (ot 2)) 43 true,ob 45 (.load false 1 (ot 44)) 43 true,ob 46 (.faddr 4 (ot 3)) 43 true,ob 47 (.load false 1 (ot 46)) 43 true,ob 48 (.bin .eql (ot 45) (ot 47)) 43 true,oa 49 (.pick (ot 43) (ot 48) (.const (.bool false))),om 50 49,ob 51 (.faddr 5 (ot 2)) 50 true,ob 52 (.load false 1 (ot 51)) 50 true,ob 53 (.faddr 5 (ot 3)) 50 true,ob 54 (.load false 1 (ot 53)) 50 true,ob 55 (.bin .eql (ot 52) (ot 54)) 50 true,oa 56 (.pick (ot 50) (ot 55) (.const (.bool false))),om 57 56,ob 58 (.faddr 6 (ot 2)) 57 true,ob 59 (.load false 1 (ot 58)) 57 true,ob 60 (.faddr 6 (ot 3)) 57 true,ob 61 (.load false 1 (ot 60)) 57 true,ob 62 (.bin .eql (ot 59) (ot 61)) 57 true,oa 63 (.pick (ot 57) (ot 62) (.const (.bool false))),om 64 63,ob 65 (.faddr 7 (ot 2)) 64 true,ob 66 (.load false 1 (ot 65)) 64 true,ob 67 (.faddr 7 (ot 3)) 64 true,ob 68 (.load false 1 (ot 67)) 64 true,ob 69 (.bin .eql (ot 66) (ot 68)) 64 true,oa 70 (.pick (ot 64) (ot 69) (.const (.bool false))),om 71 70,ob 72 (.faddr 8 (ot 2)) 71 true,ob 73 (.load false 1 (ot 72)) 71 true,ob 74 (.faddr 8 (ot 3)) 71 true,ob 75 (.load false 1 (ot 74)) 71 true,ob 76 (.bin .eql (ot 73) (ot 75)) 71 true,oa 77 (.pick (ot 71) (ot 76) (.const (.bool false))),om 78 77,ob 79 (.faddr 9 (ot 2)) 78 true,ob 80 (.load false 1 (ot 79)) 78 true,ob 81 (.faddr 9 (ot 3)) 78 true,ob 82 (.load false 1 (ot 81)) 78 true,ob 83 (.bin .eql (ot 80) (ot 82)) 78 true,oa 84 (.pick (ot 78) (ot 83) (.const (.bool false))),om 85 84,ob 86 (.faddr 10 (ot 2)) 85 true,ob 87 (.load false 1 (ot 86)) 85 true,ob 88 (.faddr 10 (ot 3)) 85 true,ob 89 (.load false 1 (ot 88)) 85 true,ob 90 (.bin .eql (ot 87) (ot 89)) 85 true,oa 91 (.pick (ot 85) (ot 90) (.const (.bool false))),om 92 91,ob 93 (.faddr 11 (ot 2)) 92 true,ob 94 (.load false 1 (ot 93)) 92 true,ob 95 (.faddr 11 (ot 3)) 92 true,ob 96 (.load false 1 (ot 95)) 92 true,ob 97 (.eqb false (ot 94) (ot 96)) 92 true,oa 98 (.pick (ot 92) (ot 97) (.const (.bool false))),om 4 98])
 .ret)))),
 99, [.tmp 4]⟩
def A20 : FnL := ⟨(.seq (.ops [oa 4 (.box (ot 0)),oa 7 (.box (ot 3)),oa 8 (.alloc [(.int .i64 0), (.int .i64 0), (.int .u64 0), (.int .u64 0), (.int .u64 0), (.int .i64 0), (.int .i64 0), (.int .i64 0), (.int .i64 0), (.int .i64 0), (.int .u64 0), (.bool false), (.slice none 0 0)]),oa 9 (.alloc [(.int .i64 0), (.int .u64 0)]),oa 10 (.mv (.const (.bool false))),oa 11 (.mv (oi 0))])
 (.seq (.block 0 (.seq (.ops [oa 14 (.load true 3 (ot 4)),oa 15 (.call (.func 34) [(ot 14)]),oa 16 (.un .not (ot 15)),om 13 16])
 (.cond (ot 13) (.seq (.ops [oa 17 (.build [(.int .i64 0), (.int .i64 0), (.int .u64 0), (.int .u64 0), (.int .u64 0), (.int .i64 0), (.int .i64 0), (.int .i64 0), (.int .i64 0), (.int .i64 0), (.int .u64 0), (.bool false), (.slice none 0 0)] []),oa 18 (.build [(.int .i64 0), (.int .u64 0)] []), oc (.store 13 (ot 8) (ot 17)), oc (.store 2 (ot 9) (ot 18)),oa 10 (.mv (.const (.bool false))),oa 11 (.mv (oi 5))])
 .ret)
 (.seq (.draw [pm 20 1,oe 21 (.eqp false (ot 20) (.const (.pointer none))),pm 22 21, ⟨ob 23 (.mv (ot 1)) 22 false,[]⟩,⟨ob 24 (.nilck (ot 23)) 22 false,[]⟩,⟨ob 25 (.faddr 0 (ot 24)) 22 false,[]⟩,⟨ob 26 (.load false 1 (ot 25)) 22 false,[]⟩,⟨ob 27 (.len false (ot 26)) 22 false,[]⟩,⟨ob 28 (.load true 3 (ot 4)) 22 false,[]⟩,⟨ob 29 (.call (.func 44) [(ot 28)]) 22 false, [ob 26 (.load false 1 (ot 25)) 22 false]⟩,⟨ob 30 (.bin .neq (ot 27) (ot 29)) 22 false,[]⟩,oe 31 (.pick (ot 22) (.const (.bool true)) (ot 30)),pm 32 31, ⟨ob 33 (.load true 3 (ot 4)) 32 false,[]⟩,⟨ob 34 (.mv (ot 2)) 32 false,[]⟩,⟨ob 35 (.load true 13 (ot 7)) 32 false,[]⟩,⟨ob 36 (.call (.func 14) [(ot 33), (ot 34), (ot 35)]) 32 false,[]⟩,⟨ob 37 (.un .not (ot 36)) 32 false,[]⟩,oe 38 (.pick (ot 32) (.const (.bool true)) (ot 37)),pm 19 38])
 (.cond (ot 19) (.seq (.ops [oa 39 (.build [(.int .i64 0), (.int .i64 0), (.int .u64 0), (.int .u64 0), (.int .u64 0), (.int .i64 0), (.int .i64 0), (.int .i64 0), (.int .i64 0), (.int .i64 0), (.int .u64 0), (.bool false), (.slice none 0 0)] []),oa 40 (.build [(.int .i64 0), (.int .u64 0)] []), oc (.store 13 (ot 8) (ot 39)), oc (.store 2 (ot 9) (ot 40)),oa 10 (.mv (.const (.bool false))),oa 11 (.mv (oi 1))])
 .ret)
 (.seq (.ops [og 42 0 7,ol 43 42,oa 44 (.bin .eql (ot 43) (oi 0)),om 41 44])
 (.cond (ot 41) (.seq (.ops [oa 45 (.load true 13 (ot 7)),oa 46 (.build [(.int .i64 0), (.int .u64 0)] []), oc (.store 13 (ot 8) (ot 45)), oc (.store 2 (ot 9) (ot 46)),oa 10 (.mv (.const (.bool false))),oa 11 (.mv (oi 0))])
 .ret)
 .skip)))))))
 (.seq (.ops [oa 47 (.load true 13 (ot 7)),oa 48 (.load true 3 (ot 4)),om 49 1,om 50 2,oa 51 (.build [(.int .i64 0), (.int .i64 0), (.int .u64 0), (.int .u64 0), (.int .u64 0), (.int .i64 0), (.int .i64 0), (.int .i64 0), (.int .i64 0), (.int .i64 0), (.int .u64 0), (.bool false), (.slice none 0 0), (.int .i64 0), (.int .i64 0), (.int .i64 0), (.pointer none), (.int .i64 0), (.int .i64 0), (.int .u64 0), (.bool false)] [(0, 13, (ot 47)), (13, 3, (ot 48)), (16, 1, (ot 49)), (17, 1, (ot 50))]),oa 12 (.alloc [(.int .i64 0), (.int .i64 0), (.int .u64 0), (.int .u64 0), (.int .u64 0), (.int .i64 0), (.int .i64 0), (.int .i64 0), (.int .i64 0), (.int .i64 0), (.int .u64 0), (.bool false), (.slice none 0 0), (.int .i64 0), (.int .i64 0), (.int .i64 0), (.pointer none), (.int .i64 0), (.int .i64 0), (.int .u64 0), (.bool false)]), oc (.store 21 (ot 12) (ot 51))])
 (.seq (.ops [og 52 12 7,ol 53 52,oa 54 (.call (.func 45) [(ot 53)]),og 55 0 12,og 56 12 55, oc (.store 1 (ot 56) (ot 54))])
 (.seq (.draw [pg 58 0 7,pl 59 58, ⟨oa 57 (.call (.func 46) []), [ol 59 58]⟩,oe 60 (.idxA false 1 32 (ot 57) (ot 59)),oe 61 (.call (ot 60) [(ot 12)])])
 (.seq (.draw [pg 62 0 12,oe 63 (.load true 13 (ot 62)),pg 64 18 12,oe 65 (.load true 2 (ot 64)),pg 66 20 12,pl 67 66, ⟨oc (.store 13 (ot 8) (ot 63)), [oa 65 (.load true 2 (ot 64)),ol 67 66]⟩,⟨oc (.store 2 (ot 9) (ot 65)), [ol 67 66]⟩,pm 10 67,oe 11 (.mv (oi 0))])
 .ret)))))),
 68, [.cell 8 true 13, .cell 9 true 2, .tmp 10, .tmp 11]⟩
def A22 : FnL := ⟨(.seq (.ops [oa 2 (.box (ot 0)),oa 3 (.box (ot 1)),oa 4 (.mv (.const (.bool false)))])
 (.seq (.seq (.ops [og 6 0 2,ol 7 6,oa 8 (.len false (ot 7)),og 9 0 3,ol 10 9,oa 11 (.len false (ot 10)),oa 12 (.bin .neq (ot 8) (ot 11))])
 (.cond (ot 12) (.seq (.ops [oa 4 (.mv (.const (.bool false)))])
 .ret)
 .skip))
 (.seq (.seq (.ops [oa 5 (.mv (oi 0))])
 (.block 0 (.loop (.seq (.seq (.ops [om 13 5,og 14 0 2,ol 15 14,oa 16 (.len false (ot 15)),oa 17 (.bin .lss (ot 13) (ot 16))])
 (.cond (ot 17) .skip
 (.exit 0)))
 (.seq (.block 1 (.seq (.draw [pg 20 0 2,pl 21 20,pm 22 5,oe 23 (.iaddrS 2 (ot 21) (ot 22)),oe 24 (.load true 2 (ot 23)),pg 25 0 3,pl 26 25,pm 27 5,oe 28 (.iaddrS 2 (ot 26) (ot 27)),oe 29 (.load true 2 (ot 28)),oe 30 (.eqA true [.int, .int] (ot 24) (ot 29))])
 (.cond (ot 30) (.seq (.ops [oa 4 (.mv (.const (.bool false)))])
 .ret)
 .skip)))
 (.ops [om 18 5,oa 19 (.bin .add (ot 18) (oi 1)),om 5 19]))))))
 (.seq (.ops [oa 4 (.mv (.const (.bool true)))])
 .ret)))),
 31, [.tmp 4]⟩
def A30 : FnL := ⟨(.seq (.ops [oa 2 (.box (ot 0)),oa 4 (.alloc [(.slice none 0 0)])])
 (.seq (.ops [oa 11 (.load true 3 (ot 2)),oa 12 (.call (.func 47) [(ot 11)]),oa 13 (.call (.func 59) [(ot 12)]),om 10 13,oa 14 (.ext (ot 10) 0),oa 15 (.ext (ot 10) 1),oa 5 (.alloc [(.slice none 0 0)]), oc (.store 1 (ot 5) (ot 14)),om 6 15])
 (.seq (.ops [oa 17 (.load true 3 (ot 2)),oa 18 (.call (.func 62) [(ot 17), (oi 4), (oi 0)]),om 16 18,oa 19 (.ext (ot 16) 0),oa 20 (.ext (ot 16) 1),om 7 19,om 8 20])
 (.seq (.seq (.ops [oa 9 (.mv (oi 0))])
 (.block 0 (.loop (.seq (.seq (.ops [om 21 9,om 22 1,oa 23 (.len false (ot 22)),oa 24 (.bin .lss (ot 21) (ot 23)),om 25 24,ob 26 (.mv (ot 7)) 25 true,ob 27 (.mv (ot 9)) 25 true,ob 28 (.bin .add (ot 26) (ot 27)) 25 true,ob 29 (.faddr 0 (ot 5)) 25 true,ob 30 (.load false 1 (ot 29)) 25 true,ob 31 (.len false (ot 30)) 25 true,ob 32 (.bin .lss (ot 28) (ot 31)) 25 true,oa 33 (.pick (ot 25) (ot 32) (.const (.bool false)))])
 (.cond (ot 33) .skip
 (.exit 0)))
 (.seq (.block 1 (.draw [pg 36 0 5,pl 37 36,pm 38 7,pm 39 9,oe 40 (.bin .add (ot 38) (ot 39)),pm 41 1,pm 42 9,oe 43 (.iaddrS 1 (ot 41) (ot 42)),pl 44 43,oe 45 (.iaddrS 2 (ot 37) (ot 40)),pg 46 0 45, ⟨oc (.store 1 (ot 46) (ot 44)),[]⟩]))
 (.ops [om 34 9,oa 35 (.bin .add (ot 34) (oi 1)),om 9 35]))))))
 (.seq (.ops [oa 47 (.load true 1 (ot 5)), oc (.store 1 (ot 4) (ot 47))])
 .ret))))),
 48, [.cell 4 true 1]⟩
def A35 : FnL := ⟨(.seq (.ops [oa 4 (.mv (.const (.bool false)))])
 (.seq (.ops [om 5 0,oa 6 (.bin .geq (ot 5) (oi 0)),om 7 6,ob 8 (.mv (ot 0)) 7 true,ob 9 (.mv (ot 1)) 7 true,ob 10 (.bin .lss (ot 8) (ot 9)) 7 true,oa 11 (.pick (ot 7) (ot 10) (.const (.bool false))),om 4 11])
 .ret)),
 12, [.tmp 4]⟩
def A36 : FnL := ⟨(.seq (.ops [oa 1 (.box (ot 0)),oa 2 (.mv (.const (.bool false)))])
 (.seq (.ops [og 3 6 1,ol 4 3,oa 5 (.bin .eql (ot 4) (oi 0)),om 6 5,ob 7 (.faddr 7 (ot 1)) 6 true,ob 8 (.load false 1 (ot 7)) 6 true,ob 9 (.bin .eql (ot 8) (oi 0)) 6 true,oa 10 (.pick (ot 6) (ot 9) (.const (.bool false))),om 11 10,ob 12 (.faddr 8 (ot 1)) 11 true,ob 13 (.load false 1 (ot 12)) 11 true,ob 14 (.bin .eql (ot 13) (oi 0)) 11 true,oa 15 (.pick (ot 11) (ot 14) (.const (.bool false))),om 16 15,ob 17 (.faddr 9 (ot 1)) 16 true,ob 18 (.load false 1 (ot 17)) 16 true,ob 19 (.bin .eql (ot 18) (oi 0)) 16 true,oa 20 (.pick (ot 16) (ot 19) (.const (.bool false))),om 21 20,ob 22 (.faddr 10 (ot 1)) 21 true,ob 23 (.load false 1 (ot 22)) 21 true,ob 24 (.bin .eql (ot 23) (ou 0)) 21 true,oa 25 (.pick (ot 21) (ot 24) (.const (.bool false))),om 26 25,ob 27 (.faddr 11 (ot 1)) 26 true,ob 28 (.load false 1 (ot 27)) 26 true,ob 29 (.un .not (ot 28)) 26 true,oa 30 (.pick (ot 26) (ot 29) (.const (.bool false))),om 31 30,ob 32 (.faddr 12 (ot 1)) 31 true,ob 33 (.load false 1 (ot 32)) 31 true,ob 34 (.len false (ot 33)) 31 true,ob 35 (.bin .eql (ot 34) (oi 0)) 31 true,oa 36 (.pick (ot 31) (ot 35) (.const (.bool false))),om 2 36])
 .ret)),
 37, [.tmp 2]⟩
def A37 : FnL := ⟨(.seq (.ops [oa 1 (.box (ot 0)),oa 2 (.mv (.const (.bool false)))])
 (.seq (.ops [og 4 4 1,ol 5 4,oa 6 (.bin .eql (ot 5) (ou 0)),om 7 6,ob 8 (.faddr 5 (ot 1)) 7 true,ob 9 (.load false 1 (ot 8)) 7 true,ob 10 (.bin .eql (ot 9) (oi 0)) 7 true,oa 11 (.pick (ot 7) (ot 10) (.const (.bool false))),om 3 11])
 (.seq (.seq (.ops [og 12 0 1,ol 13 12])
 (.block 0 (.seq (.seq (.ops [oa 15 (.bin .eql (ot 13) (oi 1)),om 14 15])
 (.cond (ot 14) .skip
 (.seq (.ops [oa 16 (.bin .eql (ot 13) (oi 2)),om 14 16])
 (.cond (ot 14) .skip
 (.seq (.ops [oa 17 (.bin .eql (ot 13) (oi 3)),om 14 17])
 (.cond (ot 14) .skip
 (.seq (.ops [oa 18 (.bin .eql (ot 13) (oi 4)),om 14 18])
 (.cond (ot 14) .skip
 (.seq (.ops [oa 19 (.bin .eql (ot 13) (oi 6)),om 14 19])
 (.cond (ot 14) .skip
 (.seq (.ops [oa 20 (.bin .eql (ot 13) (oi 7)),om 14 20])
 (.cond (ot 14) .skip
 (.seq (.ops [oa 21 (.bin .eql (ot 13) (oi 8)),om 14 21])
 (.cond (ot 14) .skip
 (.ops [oa 22 (.bin .eql (ot 13) (oi 10)),om 14 22])))))))))))))))
 (.cond (ot 14) (.seq (.ops [om 23 3,om 2 23])
 .ret)
 (.seq (.seq (.ops [oa 25 (.bin .eql (ot 13) (oi 26)),om 24 25])
 (.cond (ot 24) .skip
 (.seq (.ops [oa 26 (.bin .eql (ot 13) (oi 27)),om 24 26])
 (.cond (ot 24) .skip
 (.seq (.ops [oa 27 (.bin .eql (ot 13) (oi 28)),om 24 27])
 (.cond (ot 24) .skip
 (.seq (.ops [oa 28 (.bin .eql (ot 13) (oi 29)),om 24 28])
 (.cond (ot 24) .skip
 (.seq (.ops [oa 29 (.bin .eql (ot 13) (oi 30)),om 24 29])
 (.cond (ot 24) .skip
 (.ops [oa 30 (.bin .eql (ot 13) (oi 31)),om 24 30])))))))))))
 (.cond (ot 24) (.seq (.ops [og 31 4 1,ol 32 31,oa 33 (.bin .neq (ot 32) (ou 0)),om 34 33,ob 35 (.faddr 5 (ot 1)) 34 true,ob 36 (.load false 1 (ot 35)) 34 true,ob 37 (.bin .eql (ot 36) (oi 0)) 34 true,oa 38 (.pick (ot 34) (ot 37) (.const (.bool false))),om 2 38])
 .ret)
 .skip))))))
 (.seq (.ops [om 39 3,om 40 39,ob 41 (.faddr 4 (ot 1)) 40 false,ob 42 (.load false 1 (ot 41)) 40 false,ob 43 (.bin .neq (ot 42) (ou 0)) 40 false,ob 44 (.mv (ot 43)) 40 false,ob 45 (.faddr 5 (ot 1)) 44 true,ob 46 (.load false 1 (ot 45)) 44 true,ob 47 (.bin .eql (ot 46) (oi 1)) 44 true,ob 48 (.mv (ot 47)) 44 true,ob 49 (.faddr 5 (ot 1)) 48 false,ob 50 (.load false 1 (ot 49)) 48 false,ob 51 (.bin .eql (ot 50) (oi 2)) 48 false,ob 52 (.pick (ot 48) (.const (.bool true)) (ot 51)) 44 true,ob 53 (.pick (ot 44) (ot 52) (.const (.bool false))) 40 false,oa 54 (.pick (ot 40) (.const (.bool true)) (ot 53)),om 2 54])
 .ret)))),
 55, [.tmp 2]⟩
def A38 : FnL := ⟨(.seq (.ops [oa 2 (.box (ot 0)),oa 3 (.box (ot 1)),oa 4 (.mv (.const (.bool false)))])
 (.seq (.seq (.draw [oe 13 (.load true 13 (ot 3)),oe 14 (.load true 3 (ot 2))])
 (.fork (.draw [⟨oa 15 (.call (.func 65) [(ot 14)]), [oa 13 (.load true 13 (ot 3))]⟩,⟨oa 5 (.alloc [(.int .i64 0), (.int .i64 0), (.int .u64 0), (.int .u64 0), (.int .u64 0), (.int .i64 0), (.int .i64 0), (.int .i64 0), (.int .i64 0), (.int .i64 0), (.int .u64 0), (.bool false), (.slice none 0 0)]), [oa 13 (.load true 13 (ot 3))]⟩,⟨oc (.store 13 (ot 5) (ot 13)),[]⟩,pm 6 15])
 (.draw [⟨oa 5 (.alloc [(.int .i64 0), (.int .i64 0), (.int .u64 0), (.int .u64 0), (.int .u64 0), (.int .i64 0), (.int .i64 0), (.int .i64 0), (.int .i64 0), (.int .i64 0), (.int .u64 0), (.bool false), (.slice none 0 0)]), [oa 13 (.load true 13 (ot 3)),oa 14 (.load true 3 (ot 2))]⟩,⟨oa 15 (.call (.func 65) [(ot 14)]), [oa 13 (.load true 13 (ot 3))]⟩,⟨oc (.store 13 (ot 5) (ot 13)),[]⟩,pm 6 15])))
 (.seq (.draw [pg 16 8 3,pl 17 16,pg 18 1 2,pl 19 18,pg 21 7 3,pl 22 21,oe 23 (.bin .geq (ot 22) (oi 1)), ⟨oa 20 (.call (.func 35) [(ot 17), (ot 19)]), [ol 22 21]⟩,pm 24 23, ⟨ob 25 (.faddr 7 (ot 3)) 24 true,[]⟩,⟨ob 26 (.load false 1 (ot 25)) 24 true,[]⟩,⟨ob 27 (.load true 3 (ot 2)) 24 true,[]⟩,⟨ob 28 (.call (.func 66) [(ot 27)]) 24 true, [ob 26 (.load false 1 (ot 25)) 24 true]⟩,⟨ob 29 (.bin .leq (ot 26) (ot 28)) 24 true,[]⟩,oe 30 (.pick (ot 24) (ot 29) (.const (.bool false))),pm 31 30, ⟨ob 32 (.faddr 6 (ot 3)) 31 true,[]⟩,⟨ob 33 (.load false 1 (ot 32)) 31 true,[]⟩,⟨ob 34 (.faddr 7 (ot 3)) 31 true,[]⟩,⟨ob 35 (.load false 1 (ot 34)) 31 true,[]⟩,⟨ob 36 (.call (.func 35) [(ot 33), (ot 35)]) 31 true,[]⟩,oe 37 (.pick (ot 31) (ot 36) (.const (.bool false))),pm 7 20,pm 8 37])
 (.seq (.ops [oa 39 (.load true 3 (ot 2)),og 40 9 3,ol 41 40,oa 42 (.conv .u64 (ot 41)),oa 43 (.call (.func 67) [(ot 39), (ot 42)]),om 38 43,oa 44 (.ext (ot 38) 0),oa 45 (.ext (ot 38) 1),om 9 44,om 10 45])
 (.seq (.ops [oa 11 (.mv (.const (.bool true)))])
 (.seq (.seq (.ops [og 46 0 3,ol 47 46])
 (.block 0 (.seq (.ops [oa 49 (.bin .eql (ot 47) (oi 6)),om 48 49])
 (.cond (ot 48) (.draw [pg 50 12 3,pl 51 50,oe 52 (.len false (ot 51)),oe 53 (.load true 3 (ot 2)), ⟨oa 54 (.call (.func 68) [(ot 53)]), [ol 51 50]⟩,oe 55 (.bin .lss (ot 52) (ot 54)),pm 11 55,pg 56 12 5, ⟨oc (.store 1 (ot 56) (.const (.slice none 0 0))),[]⟩])
 (.seq (.ops [oa 58 (.bin .eql (ot 47) (oi 7)),om 57 58])
 (.cond (ot 57) (.seq (.ops [og 59 12 3,ol 60 59,oa 61 (.len false (ot 60)),om 12 61])
 (.seq (.ops [om 62 12,oa 63 (.bin .rem (ot 62) (oi 2)),oa 64 (.bin .eql (ot 63) (oi 1)),om 65 64,ob 66 (.mv (ot 12)) 65 true,ob 67 (.mv (ot 6)) 65 true,ob 68 (.bin .leq (ot 66) (ot 67)) 65 true,oa 69 (.pick (ot 65) (ot 68) (.const (.bool false))),om 70 69,ob 71 (.faddr 12 (ot 3)) 70 true,ob 72 (.load false 1 (ot 71)) 70 true,ob 73 (.iaddrS 1 (ot 72) (oi 0)) 70 true,ob 74 (.load false 1 (ot 73)) 70 true,ob 75 (.mv (ot 12)) 70 true,ob 76 (.bin .quo (ot 75) (oi 2)) 70 true,ob 77 (.conv .u64 (ot 76)) 70 true,ob 78 (.bin .eql (ot 74) (ot 77)) 70 true,oa 79 (.pick (ot 70) (ot 78) (.const (.bool false))),om 80 79,ob 81 (.faddr 6 (ot 3)) 80 true,ob 82 (.load false 1 (ot 81)) 80 true,ob 83 (.mv (ot 12)) 80 true,ob 84 (.call (.func 35) [(ot 82), (ot 83)]) 80 true,oa 85 (.pick (ot 80) (ot 84) (.const (.bool false))),om 11 85])
 (.ops [og 86 12 5, oc (.store 1 (ot 86) (.const (.slice none 0 0))),og 87 6 5, oc (.store 1 (ot 87) (oi 0))])))
 (.seq (.ops [oa 89 (.bin .eql (ot 47) (oi 8)),om 88 89])
 (.cond (ot 88) (.ops [og 90 7 3,ol 91 90,oa 92 (.bin .rem (ot 91) (oi 2)),oa 93 (.bin .eql (ot 92) (oi 1)),om 94 93,ob 95 (.faddr 7 (ot 3)) 94 true,ob 96 (.load false 1 (ot 95)) 94 true,ob 97 (.mv (ot 6)) 94 true,ob 98 (.bin .add (ot 97) (oi 1)) 94 true,ob 99 (.call (.func 35) [(ot 96), (ot 98)]) 94 true,oa 100 (.pick (ot 94) (ot 99) (.const (.bool false))),om 11 100,og 101 7 5, oc (.store 1 (ot 101) (oi 0))])
 (.seq (.ops [oa 103 (.bin .eql (ot 47) (oi 10)),om 102 103])
 (.cond (ot 102) (.seq (.ops [og 104 7 3,ol 105 104,oa 106 (.bin .rem (ot 105) (oi 2)),oa 107 (.bin .eql (ot 106) (oi 1)),om 108 107,ob 109 (.faddr 7 (ot 3)) 108 true,ob 110 (.load false 1 (ot 109)) 108 true,ob 111 (.mv (ot 6)) 108 true,ob 112 (.bin .add (ot 111) (oi 1)) 108 true,ob 113 (.call (.func 35) [(ot 110), (ot 112)]) 108 true,oa 114 (.pick (ot 108) (ot 113) (.const (.bool false))),om 115 114,ob 116 (.faddr 6 (ot 3)) 115 true,ob 117 (.load false 1 (ot 116)) 115 true,ob 118 (.faddr 7 (ot 3)) 115 true,ob 119 (.load false 1 (ot 118)) 115 true,ob 120 (.call (.func 35) [(ot 117), (ot 119)]) 115 true,oa 121 (.pick (ot 115) (ot 120) (.const (.bool false))),om 11 121])
 (.ops [og 122 7 5, oc (.store 1 (ot 122) (oi 0)),og 123 6 5, oc (.store 1 (ot 123) (oi 0))]))
 (.seq (.seq (.ops [oa 125 (.bin .eql (ot 47) (oi 11)),om 124 125])
 (.cond (ot 124) .skip
 (.ops [oa 126 (.bin .eql (ot 47) (oi 19)),om 124 126])))
 (.cond (ot 124) (.ops [om 127 7,om 11 127,og 128 8 5, oc (.store 1 (ot 128) (oi 0))])
 (.seq (.ops [oa 130 (.bin .eql (ot 47) (oi 12)),om 129 130])
 (.cond (ot 129) (.seq (.ops [om 131 7,om 132 131,ob 133 (.mv (ot 8)) 132 true,oa 134 (.pick (ot 132) (ot 133) (.const (.bool false))),om 11 134])
 (.ops [og 135 8 5, oc (.store 1 (ot 135) (oi 0)),og 136 7 5, oc (.store 1 (ot 136) (oi 0)),og 137 6 5, oc (.store 1 (ot 137) (oi 0))]))
 (.seq (.seq (.ops [oa 139 (.bin .eql (ot 47) (oi 13)),om 138 139])
 (.cond (ot 138) .skip
 (.ops [oa 140 (.bin .eql (ot 47) (oi 17)),om 138 140])))
 (.cond (ot 138) (.seq (.ops [om 141 7,om 142 141,ob 143 (.mv (ot 8)) 142 true,oa 144 (.pick (ot 142) (ot 143) (.const (.bool false))),om 145 144,ob 146 (.mv (ot 10)) 145 true,oa 147 (.pick (ot 145) (ot 146) (.const (.bool false))),om 11 147])
 (.ops [og 148 8 5, oc (.store 1 (ot 148) (oi 0)),og 149 7 5, oc (.store 1 (ot 149) (oi 0)),og 150 6 5, oc (.store 1 (ot 150) (oi 0)),og 151 9 5, oc (.store 1 (ot 151) (oi 0))]))
 (.seq (.seq (.ops [oa 153 (.bin .eql (ot 47) (oi 14)),om 152 153])
 (.cond (ot 152) .skip
 (.seq (.ops [oa 154 (.bin .eql (ot 47) (oi 16)),om 152 154])
 (.cond (ot 152) .skip
 (.ops [oa 155 (.bin .eql (ot 47) (oi 15)),om 152 155])))))
 (.cond (ot 152) (.seq (.ops [om 156 7,om 157 156,ob 158 (.mv (ot 8)) 157 true,oa 159 (.pick (ot 157) (ot 158) (.const (.bool false))),om 160 159,ob 161 (.mv (ot 10)) 160 true,oa 162 (.pick (ot 160) (ot 161) (.const (.bool false))),om 163 162,ob 164 (.faddr 0 (ot 3)) 163 true,ob 165 (.load false 1 (ot 164)) 163 true,ob 166 (.bin .eql (ot 165) (oi 15)) 163 true,ob 167 (.mv (ot 166)) 163 true,ob 168 (.faddr 11 (ot 3)) 167 false,ob 169 (.load false 1 (ot 168)) 167 false,ob 170 (.un .not (ot 169)) 167 false,ob 171 (.pick (ot 167) (.const (.bool true)) (ot 170)) 163 true,oa 172 (.pick (ot 163) (ot 171) (.const (.bool false))),om 11 172])
 (.ops [og 173 12 3,ol 174 173,oa 175 (.build [(.int .i64 0), (.int .i64 0), (.int .u64 0), (.int .u64 0), (.int .u64 0), (.int .i64 0), (.int .i64 0), (.int .i64 0), (.int .i64 0), (.int .i64 0), (.int .u64 0), (.bool false), (.slice none 0 0)] [(12, 1, (ot 174))]), oc (.store 13 (ot 5) (ot 175))]))
 (.seq (.ops [oa 177 (.bin .eql (ot 47) (oi 18)),om 176 177])
 (.cond (ot 176) (.ops [om 178 10,om 11 178,og 179 9 5, oc (.store 1 (ot 179) (oi 0))])
 (.seq (.seq (.ops [oa 181 (.bin .eql (ot 47) (oi 20)),om 180 181])
 (.cond (ot 180) .skip
 (.seq (.ops [oa 182 (.bin .eql (ot 47) (oi 21)),om 180 182])
 (.cond (ot 180) .skip
 (.seq (.ops [oa 183 (.bin .eql (ot 47) (oi 22)),om 180 183])
 (.cond (ot 180) .skip
 (.seq (.ops [oa 184 (.bin .eql (ot 47) (oi 23)),om 180 184])
 (.cond (ot 180) .skip
 (.ops [oa 185 (.bin .eql (ot 47) (oi 24)),om 180 185])))))))))
 (.cond (ot 180) (.seq (.ops [om 186 7,om 187 186,ob 188 (.faddr 6 (ot 3)) 187 true,ob 189 (.load false 1 (ot 188)) 187 true,ob 190 (.mv (ot 6)) 187 true,ob 191 (.call (.func 35) [(ot 189), (ot 190)]) 187 true,oa 192 (.pick (ot 187) (ot 191) (.const (.bool false))),om 193 192,ob 194 (.faddr 0 (ot 3)) 193 true,ob 195 (.load false 1 (ot 194)) 193 true,ob 196 (.bin .eql (ot 195) (oi 21)) 193 true,ob 197 (.mv (ot 196)) 193 true,ob 198 (.faddr 11 (ot 3)) 197 false,ob 199 (.load false 1 (ot 198)) 197 false,ob 200 (.un .not (ot 199)) 197 false,ob 201 (.pick (ot 197) (.const (.bool true)) (ot 200)) 193 true,oa 202 (.pick (ot 193) (ot 201) (.const (.bool false))),om 11 202])
 (.ops [og 203 8 5, oc (.store 1 (ot 203) (oi 0)),og 204 6 5, oc (.store 1 (ot 204) (oi 0)),og 205 11 5, oc (.store 1 (ot 205) (.const (.bool false)))]))
 (.seq (.seq (.ops [oa 207 (.bin .eql (ot 47) (oi 30)),om 206 207])
 (.cond (ot 206) .skip
 (.ops [oa 208 (.bin .eql (ot 47) (oi 31)),om 206 208])))
 (.cond (ot 206) (.ops [og 209 10 5, oc (.store 1 (ot 209) (ou 0))])
 .skip))))))))))))))))))))))))
 (.seq (.ops [om 210 11,om 211 210,ob 212 (.load true 13 (ot 5)) 211 true,ob 213 (.call (.func 36) [(ot 212)]) 211 true,oa 214 (.pick (ot 211) (ot 213) (.const (.bool false))),om 4 214])
 .ret))))))),
 215, [.tmp 4]⟩
def A39 : FnL := ⟨(.seq (.ops [oa 1 (.box (ot 0)),oa 2 (.mv (.const (.bool false)))])
 (.seq (.ops [og 3 0 1,ol 4 3,oa 5 (.call (.func 69) [(ot 4), (oi 1), (oi 5)]),om 6 5,ob 7 (.faddr 1 (ot 1)) 6 true,ob 8 (.load false 1 (ot 7)) 6 true,ob 9 (.call (.func 69) [(ot 8), (oi 1), (oi 16)]) 6 true,oa 10 (.pick (ot 6) (ot 9) (.const (.bool false))),om 11 10,ob 12 (.faddr 2 (ot 1)) 11 true,ob 13 (.load false 1 (ot 12)) 11 true,ob 14 (.call (.func 69) [(ot 13), (oi 1), (oi 256)]) 11 true,oa 15 (.pick (ot 11) (ot 14) (.const (.bool false))),om 2 15])
 .ret)),
 16, [.tmp 2]⟩
def A45 : FnL := ⟨(.seq (.ops [oa 2 (.mv (.const (.slice none 0 0)))])
 (.seq (.seq (.ops [om 3 0,oa 4 (.eqs false (ot 3) (.const (.slice none 0 0)))])
 (.cond (ot 4) (.seq (.ops [oa 2 (.mv (.const (.slice none 0 0)))])
 .ret)
 .skip))
 (.seq (.ops [oa 5 (.buildS [] 0 []),om 6 0,oa 7 (.app [(.int .u64 0)] 8 (ot 5) (ot 6)),om 2 7])
 .ret))),
 8, [.tmp 2]⟩
def A46 : FnL := ⟨(.seq (.ops [oa 0 (.alloc [.nilFunc, .nilFunc, .nilFunc, .nilFunc, .nilFunc, .nilFunc, .nilFunc, .nilFunc, .nilFunc, .nilFunc, .nilFunc, .nilFunc, .nilFunc, .nilFunc, .nilFunc, .nilFunc, .nilFunc, .nilFunc, .nilFunc, .nilFunc, .nilFunc, .nilFunc, .nilFunc, .nilFunc, .nilFunc, .nilFunc, .nilFunc, .nilFunc, .nilFunc, .nilFunc, .nilFunc, .nilFunc])])
 (.seq (.ops [oa 1 (.build [.nilFunc, .nilFunc, .nilFunc, .nilFunc, .nilFunc, .nilFunc, .nilFunc, .nilFunc, .nilFunc, .nilFunc, .nilFunc, .nilFunc, .nilFunc, .nilFunc, .nilFunc, .nilFunc, .nilFunc, .nilFunc, .nilFunc, .nilFunc, .nilFunc, .nilFunc, .nilFunc, .nilFunc, .nilFunc, .nilFunc, .nilFunc, .nilFunc, .nilFunc, .nilFunc, .nilFunc, .nilFunc] [(1, 1, (.func 74)), (2, 1, (.func 75)), (3, 1, (.func 76)), (4, 1, (.func 77)), (5, 1, (.func 78)), (6, 1, (.func 79)), (7, 1, (.func 80)), (8, 1, (.func 81)), (9, 1, (.func 82)), (10, 1, (.func 83)), (11, 1, (.func 84)), (12, 1, (.func 85)), (13, 1, (.func 86)), (14, 1, (.func 87)), (15, 1, (.func 88)), (16, 1, (.func 89)), (17, 1, (.func 90)), (18, 1, (.func 91)), (19, 1, (.func 92)), (20, 1, (.func 93)), (21, 1, (.func 94)), (22, 1, (.func 95)), (23, 1, (.func 96)), (24, 1, (.func 97)), (25, 1, (.func 98)), (26, 1, (.func 99)), (27, 1, (.func 100)), (28, 1, (.func 101)), (29, 1, (.func 102)), (30, 1, (.func 103)), (31, 1, (.func 104))]), oc (.store 32 (ot 0) (ot 1))])
 .ret)),
 2, [.cell 0 true 32]⟩
def A47 : FnL := ⟨(.seq (.ops [oa 1 (.box (ot 0)),oa 2 (.mv (oi 0))])
 (.seq (.seq (.ops [oa 3 (.load true 3 (ot 1)),oa 4 (.call (.func 39) [(ot 3)]),oa 5 (.un .not (ot 4))])
 (.cond (ot 5) (.seq (.ops [oa 2 (.mv (oi 0))])
 .ret)
 .skip))
 (.seq (.draw [pg 6 1 1,pl 7 6,oe 8 (.load true 3 (ot 1)),oe 13 (.load true 3 (ot 1)), ⟨oa 9 (.call (.func 70) [(ot 8)]), [ol 7 6,oa 13 (.load true 3 (ot 1))]⟩,oe 10 (.bin .add (oi 5) (ot 9)),oe 11 (.bin .mul (ot 7) (ot 10)),oe 12 (.bin .add (oi 1) (ot 11)), ⟨oa 14 (.call (.func 105) [(ot 13)]), [ol 7 6]⟩,oe 15 (.bin .add (ot 12) (ot 14)),pm 2 15])
 .ret))),
 16, [.tmp 2]⟩
def A59 : FnL := ⟨(.seq (.ops [oa 2 (.alloc [(.slice none 0 0)]),oa 3 (.mv (oi 0))])
 (.seq (.seq (.ops [om 4 0,oa 5 (.bin .lss (ot 4) (oi 0)),om 6 5,ob 7 (.mv (ot 0)) 6 false,ob 8 (.bin .gtr (ot 7) (oi 1048576)) 6 false,oa 9 (.pick (ot 6) (.const (.bool true)) (ot 8))])
 (.cond (ot 9) (.seq (.ops [oa 10 (.build [(.slice none 0 0)] []), oc (.store 1 (ot 2) (ot 10)),oa 3 (.mv (oi 1))])
 .ret)
 .skip))
 (.seq (.ops [om 11 0,oa 12 (.mks [(.int .u64 0), (.int .i64 0)] 16 (ot 11) (ot 11)),oa 13 (.build [(.slice none 0 0)] [(0, 1, (ot 12))]), oc (.store 1 (ot 2) (ot 13)),oa 3 (.mv (oi 0))])
 .ret))),
 14, [.cell 2 true 1, .tmp 3]⟩
def A62 : FnL := ⟨(.seq (.ops [oa 3 (.box (ot 0)),oa 6 (.mv (oi 0)),oa 7 (.mv (oi 0))])
 (.seq (.seq (.ops [oa 10 (.load true 3 (ot 3)),oa 11 (.call (.func 39) [(ot 10)]),oa 12 (.un .not (ot 11))])
 (.cond (ot 12) (.seq (.ops [oa 6 (.mv (oi 0)),oa 7 (.mv (oi 5))])
 .ret)
 .skip))
 (.seq (.seq (.ops [om 13 1,oa 14 (.call (.func 69) [(ot 13), (oi 0), (oi 4)]),oa 15 (.un .not (ot 14)),om 16 15,ob 17 (.mv (ot 2)) 16 false,ob 18 (.faddr 1 (ot 3)) 16 false,ob 19 (.load false 1 (ot 18)) 16 false,ob 20 (.bin .sub (ot 19) (oi 1)) 16 false,ob 21 (.call (.func 69) [(ot 17), (oi 0), (ot 20)]) 16 false,ob 22 (.un .not (ot 21)) 16 false,oa 23 (.pick (ot 16) (.const (.bool true)) (ot 22))])
 (.cond (ot 23) (.seq (.ops [oa 6 (.mv (oi 0)),oa 7 (.mv (oi 1))])
 .ret)
 .skip))
 (.seq (.ops [oa 8 (.mv (oi 0))])
 (.seq (.seq (.ops [oa 9 (.mv (oi 0))])
 (.block 0 (.loop (.seq (.seq (.ops [om 24 9,om 25 1,oa 26 (.bin .lss (ot 24) (ot 25))])
 (.cond (ot 26) .skip
 (.exit 0)))
 (.seq (.block 1 (.draw [pm 29 8,oe 30 (.load true 3 (ot 3)),pm 31 9,oe 33 (.load true 3 (ot 3)),pm 34 9, ⟨oa 32 (.call (.func 132) [(ot 30), (ot 31)]), [oa 33 (.load true 3 (ot 3))]⟩,oe 35 (.call (.func 133) [(ot 33), (ot 34)]),oe 36 (.bin .mul (ot 32) (ot 35)),oe 37 (.bin .add (ot 29) (ot 36)),pm 8 37]))
 (.ops [om 27 9,oa 28 (.bin .add (ot 27) (oi 1)),om 9 28]))))))
 (.seq (.seq (.ops [oa 38 (.load true 3 (ot 3)),om 39 1,oa 40 (.call (.func 133) [(ot 38), (ot 39)]),oa 41 (.bin .gtr (ot 40) (oi 1))])
 (.cond (ot 41) (.ops [om 42 8,om 43 2,oa 44 (.load true 3 (ot 3)),om 45 1,oa 46 (.call (.func 132) [(ot 44), (ot 45)]),oa 47 (.bin .mul (ot 43) (ot 46)),oa 48 (.bin .add (ot 42) (ot 47)),om 8 48])
 .skip))
 (.seq (.ops [om 49 8,om 6 49,oa 7 (.mv (oi 0))])
 .ret))))))),
 50, [.tmp 6, .tmp 7]⟩
def A64 : FnL := ⟨(.seq (.ops [oa 1 (.box (ot 0)),oa 2 (.alloc [(.int .i64 0), (.int .i64 0), (.int .i64 0), (.int .i64 0), .nilFunc]),oa 3 (.mv (oi 0))])
 (.seq (.ops [oa 6 (.load true 3 (ot 1)),oa 7 (.call (.func 26) [(ot 6), (oi 4), (oi 0)]),om 5 7,oa 8 (.ext (ot 5) 0),oa 9 (.ext (ot 5) 1),om 4 8,om 3 9])
 (.seq (.seq (.ops [om 10 3,oa 11 (.bin .neq (ot 10) (oi 0))])
 (.cond (ot 11) (.seq (.ops [oa 12 (.build [(.int .i64 0), (.int .i64 0), (.int .i64 0), (.int .i64 0), .nilFunc] []),om 13 3, oc (.store 5 (ot 2) (ot 12)),om 3 13])
 .ret)
 .skip))
 (.seq (.ops [oa 14 (.load true 3 (ot 1)),om 15 4,oa 16 (.build [(.int .i64 0), (.int .i64 0), (.int .i64 0), (.int .i64 0), .nilFunc] [(0, 3, (ot 14)), (3, 1, (ot 15)), (4, 1, (.func 134))]), oc (.store 5 (ot 2) (ot 16))])
 (.seq (.seq (.ops [og 17 0 1,ol 18 17])
 (.block 0 (.seq (.ops [oa 20 (.bin .eql (ot 18) (oi 2)),om 19 20])
 (.cond (ot 19) (.ops [og 21 4 2, oc (.store 1 (ot 21) (.func 135))])
 (.seq (.ops [oa 23 (.bin .eql (ot 18) (oi 3)),om 22 23])
 (.cond (ot 22) (.ops [og 24 4 2, oc (.store 1 (ot 24) (.func 136))])
 (.seq (.ops [oa 26 (.bin .eql (ot 18) (oi 4)),om 25 26])
 (.cond (ot 25) (.ops [og 27 4 2, oc (.store 1 (ot 27) (.func 137))])
 .skip))))))))
 (.seq (.ops [oa 28 (.load true 5 (ot 2)), oc (.store 5 (ot 2) (ot 28)),oa 3 (.mv (oi 0))])
 .ret)))))),
 29, [.cell 2 true 5, .tmp 3]⟩
def A66 : FnL := ⟨(.seq (.ops [oa 1 (.box (ot 0)),oa 2 (.mv (oi 0))])
 (.seq (.ops [oa 3 (.load true 3 (ot 1)),oa 4 (.call (.func 65) [(ot 3)]),oa 5 (.bin .sub (ot 4) (oi 1)),oa 6 (.bin .quo (ot 5) (oi 2)),om 2 6])
 .ret)),
 7, [.tmp 2]⟩
def A67 : FnL := ⟨(.seq (.ops [oa 2 (.box (ot 0)),oa 4 (.mv (oi 0)),oa 5 (.mv (.const (.bool false)))])
 (.seq (.seq (.ops [om 9 1,oa 10 (.load true 3 (ot 2)),oa 11 (.call (.func 44) [(ot 10)]),oa 12 (.conv .u64 (ot 11)),oa 13 (.bin .geq (ot 9) (ot 12))])
 (.cond (ot 13) (.seq (.ops [oa 4 (.mv (oi 0)),oa 5 (.mv (.const (.bool false)))])
 .ret)
 .skip))
 (.seq (.seq (.ops [oa 15 (.load true 3 (ot 2)),om 16 1,oa 17 (.conv .i64 (ot 16)),oa 18 (.call (.func 23) [(ot 15), (ot 17)]),om 14 18,oa 19 (.ext (ot 14) 0),oa 20 (.ext (ot 14) 1),oa 21 (.ext (ot 14) 2),om 6 19,om 7 20,om 8 21])
 (.seq (.ops [om 22 6])
 (.block 0 (.seq (.seq (.ops [oa 24 (.bin .eql (ot 22) (oi 2)),om 23 24])
 (.cond (ot 23) .skip
 (.ops [oa 25 (.bin .eql (ot 22) (oi 4)),om 23 25])))
 (.cond (ot 23) (.seq (.ops [om 26 1,oa 27 (.conv .i64 (ot 26)),om 4 27,oa 5 (.mv (.const (.bool true)))])
 .ret)
 .skip)))))
 (.seq (.ops [oa 4 (.mv (oi 0)),oa 5 (.mv (.const (.bool false)))])
 .ret)))),
 28, [.tmp 4, .tmp 5]⟩
def A68 : FnL := ⟨(.seq (.ops [oa 1 (.box (ot 0)),oa 2 (.mv (oi 0))])
 (.seq (.seq (.ops [oa 3 (.load true 3 (ot 1)),oa 4 (.call (.func 34) [(ot 3)]),oa 5 (.un .not (ot 4))])
 (.cond (ot 5) (.seq (.ops [oa 2 (.mv (oi 0))])
 .ret)
 .skip))
 (.seq (.draw [pg 6 1 1,pl 7 6,oe 8 (.bin .mul (oi 4) (ot 7)),oe 9 (.load true 3 (ot 1)), ⟨oa 10 (.call (.func 125) [(ot 9)]), [ol 7 6]⟩,oe 11 (.bin .add (ot 8) (ot 10)),pm 2 11])
 .ret))),
 12, [.tmp 2]⟩
def A69 : FnL := ⟨(.seq (.ops [oa 6 (.mv (.const (.bool false)))])
 (.seq (.ops [om 7 0,om 8 1,oa 9 (.bin .geq (ot 7) (ot 8)),om 10 9,ob 11 (.mv (ot 0)) 10 true,ob 12 (.mv (ot 2)) 10 true,ob 13 (.bin .leq (ot 11) (ot 12)) 10 true,oa 14 (.pick (ot 10) (ot 13) (.const (.bool false))),om 6 14])
 .ret)),
 15, [.tmp 6]⟩
def A70 : FnL := ⟨(.seq (.ops [oa 1 (.box (ot 0)),oa 2 (.mv (oi 0))])
 (.seq (.seq (.ops [oa 3 (.load true 3 (ot 1)),oa 4 (.call (.func 39) [(ot 3)]),oa 5 (.un .not (ot 4))])
 (.cond (ot 5) (.seq (.ops [oa 2 (.mv (oi 0))])
 .ret)
 .skip))
 (.seq (.draw [oe 6 (.load true 3 (ot 1)),pg 8 1 1,pl 9 8,oe 10 (.bin .mul (oi 2) (ot 9)), ⟨oa 7 (.call (.func 105) [(ot 6)]), [ol 9 8]⟩,oe 11 (.bin .add (ot 7) (ot 10)),oe 12 (.bin .mul (oi 2) (ot 11)),oe 13 (.bin .add (oi 1) (ot 12)),pm 2 13])
 .ret))),
 14, [.tmp 2]⟩
def A74 : FnL := ⟨(.ops [om 2 0,om 3 0,oa 4 (.nilck (ot 3)),og 5 0 4,og 6 1 5,og 7 1 6,ol 8 7,oa 9 (.call (.func 139) [(ot 2), (oi 1), (ot 8), (oi 2)])]),
 10,[]⟩
def A75 : FnL := ⟨(.ops [om 2 0,om 3 0,oa 4 (.nilck (ot 3)),og 5 0 4,og 6 1 5,og 7 2 6,ol 8 7,oa 9 (.call (.func 139) [(ot 2), (oi 2), (ot 8), (oi 3)])]),
 10,[]⟩
def A76 : FnL := ⟨(.ops [om 2 0,om 3 0,oa 4 (.nilck (ot 3)),og 5 0 4,og 6 1 5,og 7 0 6,ol 8 7,oa 9 (.conv .u64 (ot 8)),oa 10 (.call (.func 139) [(ot 2), (oi 0), (ot 9), (oi 4)])]),
 11,[]⟩
def A77 : FnL := ⟨(.seq (.draw [pm 5 0,oe 6 (.nilck (ot 5)),pg 7 16 6,pl 8 7,pm 9 0,pm 10 0,oe 11 (.nilck (ot 10)),pg 12 17 11,pl 13 12, ⟨oa 14 (.call (.func 141) [(ot 9), (oi 2), (ot 13)]), [ol 8 7]⟩,oe 15 (.call (.func 140) [(ot 8), (ot 14)]),pm 4 15,oe 16 (.ext (ot 4) 0),oe 17 (.ext (ot 4) 1),pm 2 16,pm 3 17])
 (.seq (.seq (.ops [om 18 2,oa 19 (.bin .neq (ot 18) (ou 0))])
 (.cond (ot 19) (.ops [om 20 0,om 21 0,om 22 2,oa 23 (.nilck (ot 20)),og 24 0 23,og 25 4 24, oc (.store 1 (ot 25) (ot 22)),oa 26 (.nilck (ot 21)),og 27 0 26,og 28 5 27, oc (.store 1 (ot 28) (oi 2))])
 .skip))
 (.ops [om 29 0,oa 30 (.build [(.int .i64 0), (.int .i64 0), (.int .u64 0), (.int .u64 0), (.int .u64 0), (.int .i64 0), (.int .i64 0), (.int .i64 0), (.int .i64 0), (.int .i64 0), (.int .u64 0), (.bool false), (.slice none 0 0)] []),oa 31 (.call (.func 142) [(ot 29), (oi 5), (ot 30)])]))),
 32,[]⟩
def A78 : FnL := ⟨(.seq (.draw [pm 8 0,oe 9 (.nilck (ot 8)),pg 10 16 9,pl 11 10,pm 12 0,oe 13 (.nilck (ot 12)),pg 14 17 13,pl 15 14,oe 16 (.call (.func 143) [(ot 11), (ot 15), (oi 0)]),pm 7 16,oe 17 (.ext (ot 7) 0),oe 18 (.ext (ot 7) 1),pm 2 17,pm 3 18])
 (.seq (.ops [om 20 2,oa 21 (.call (.func 144) [(ot 20)]),om 19 21,oa 22 (.ext (ot 19) 0),oa 23 (.ext (ot 19) 1),oa 24 (.ext (ot 19) 2),om 4 22,om 5 23,om 6 24])
 (.block 0 (.seq (.seq (.ops [om 33 6,oa 34 (.bin .neq (ot 33) (oi 0)),om 32 34])
 (.cond (ot 32) .skip
 (.ops [om 35 5,om 36 0,oa 37 (.nilck (ot 36)),og 38 13 37,og 39 1 38,ol 40 39,oa 41 (.bin .geq (ot 35) (ot 40)),om 32 41])))
 (.cond (ot 32) (.ops [om 42 0,oa 43 (.build [(.int .i64 0), (.int .i64 0), (.int .u64 0), (.int .u64 0), (.int .u64 0), (.int .i64 0), (.int .i64 0), (.int .i64 0), (.int .i64 0), (.int .i64 0), (.int .u64 0), (.bool false), (.slice none 0 0)] []),oa 44 (.call (.func 142) [(ot 42), (oi 9), (ot 43)])])
 (.seq (.ops [om 46 4,oa 47 (.bin .eql (ot 46) (oi 1)),om 45 47])
 (.cond (ot 45) (.ops [om 48 0,om 49 5,oa 50 (.build [(.int .i64 0), (.int .i64 0), (.int .u64 0), (.int .u64 0), (.int .u64 0), (.int .i64 0), (.int .i64 0), (.int .i64 0), (.int .i64 0), (.int .i64 0), (.int .u64 0), (.bool false), (.slice none 0 0)] [(8, 1, (ot 49))]),oa 51 (.call (.func 142) [(ot 48), (oi 11), (ot 50)])])
 (.seq (.ops [om 53 4,oa 54 (.bin .eql (ot 53) (oi 2)),om 52 54])
 (.cond (ot 52) (.ops [om 55 0,om 56 5,oa 57 (.build [(.int .i64 0), (.int .i64 0), (.int .u64 0), (.int .u64 0), (.int .u64 0), (.int .i64 0), (.int .i64 0), (.int .i64 0), (.int .i64 0), (.int .i64 0), (.int .u64 0), (.bool false), (.slice none 0 0)] [(8, 1, (ot 56))]),oa 58 (.call (.func 142) [(ot 55), (oi 20), (ot 57)])])
 (.seq (.ops [om 60 0,oa 61 (.nilck (ot 60)),og 62 0 61,og 63 4 62,ol 64 63,oa 65 (.bin .eql (ot 64) (ou 0)),om 59 65])
 (.cond (ot 59) (.ops [om 66 0,oa 67 (.build [(.int .i64 0), (.int .i64 0), (.int .u64 0), (.int .u64 0), (.int .u64 0), (.int .i64 0), (.int .i64 0), (.int .i64 0), (.int .i64 0), (.int .i64 0), (.int .u64 0), (.bool false), (.slice none 0 0)] []),oa 68 (.call (.func 142) [(ot 66), (oi 6), (ot 67)])])
 (.seq (.ops [om 25 0,oa 26 (.nilck (ot 25)),og 27 0 26,og 28 5 27, oc (.store 1 (ot 28) (oi 1))])
 (.ops [om 29 0,oa 30 (.build [(.int .i64 0), (.int .i64 0), (.int .u64 0), (.int .u64 0), (.int .u64 0), (.int .i64 0), (.int .i64 0), (.int .i64 0), (.int .i64 0), (.int .i64 0), (.int .u64 0), (.bool false), (.slice none 0 0)] []),oa 31 (.call (.func 142) [(ot 29), (oi 9), (ot 30)])]))))))))))))),
 69,[]⟩
def A79 : FnL := ⟨(.seq (.draw [pm 14 0,oe 15 (.nilck (ot 14)),pg 16 13 15,oe 17 (.load true 3 (ot 16)),pm 18 0,oe 19 (.nilck (ot 18)),pg 20 0 19,pg 21 12 20,pl 22 21,oe 23 (.len false (ot 22)),oe 24 (.call (.func 145) [(ot 17), (ot 23)]),pm 13 24,oe 25 (.ext (ot 13) 0),oe 26 (.ext (ot 13) 1),pm 2 25,pm 3 26])
 (.seq (.ops [om 28 0,oa 29 (.nilck (ot 28)),og 30 16 29,ol 31 30,om 32 2,oa 33 (.call (.func 140) [(ot 31), (ot 32)]),om 27 33,oa 34 (.ext (ot 27) 0),oa 35 (.ext (ot 27) 1),om 4 34,om 5 35])
 (.seq (.ops [om 36 0,oa 37 (.nilck (ot 36)),og 38 0 37,og 39 12 38,ol 40 39,oa 41 (.call (.func 146) [(ot 40)]),om 42 4,oa 43 (.buildS [(.int .u64 0)] 1 [(0, 1, (ot 42))]),oa 44 (.app [(.int .u64 0)] 8 (ot 41) (ot 43)),om 6 44])
 (.seq (.seq (.ops [om 45 6,oa 46 (.len false (ot 45)),om 47 0,oa 48 (.nilck (ot 47)),og 49 13 48,oa 50 (.load true 3 (ot 49)),oa 51 (.call (.func 68) [(ot 50)]),oa 52 (.bin .lss (ot 46) (ot 51))])
 (.cond (ot 52) (.seq (.ops [om 53 0,om 54 6,oa 55 (.build [(.int .i64 0), (.int .i64 0), (.int .u64 0), (.int .u64 0), (.int .u64 0), (.int .i64 0), (.int .i64 0), (.int .i64 0), (.int .i64 0), (.int .i64 0), (.int .u64 0), (.bool false), (.slice none 0 0)] [(12, 1, (ot 54))]),oa 56 (.call (.func 142) [(ot 53), (oi 6), (ot 55)])])
 .ret)
 .skip))
 (.seq (.ops [om 58 0,oa 59 (.nilck (ot 58)),og 60 13 59,oa 61 (.load true 3 (ot 60)),om 62 6,oa 63 (.call (.func 147) [(ot 61), (ot 62)]),om 57 63,oa 64 (.ext (ot 57) 0),oa 65 (.ext (ot 57) 1),om 7 64,om 8 65])
 (.seq (.ops [om 67 0,oa 68 (.nilck (ot 67)),og 69 13 68,oa 70 (.load true 3 (ot 69)),om 71 6,oa 72 (.call (.func 148) [(ot 70), (ot 71)]),om 66 72,oa 73 (.ext (ot 66) 0),oa 74 (.ext (ot 66) 1),om 9 73,om 10 74])
 (.seq (.seq (.ops [om 75 8,oa 76 (.bin .neq (ot 75) (oi 0)),om 77 76,ob 78 (.mv (ot 9)) 77 false,ob 79 (.mv (ot 0)) 77 false,ob 80 (.nilck (ot 79)) 77 false,ob 81 (.faddr 17 (ot 80)) 77 false,ob 82 (.load false 1 (ot 81)) 77 false,ob 83 (.call (.func 149) [(ot 78), (ot 82)]) 77 false,ob 84 (.un .not (ot 83)) 77 false,oa 85 (.pick (ot 77) (.const (.bool true)) (ot 84))])
 (.cond (ot 85) (.seq (.ops [om 86 0,oa 87 (.build [(.int .i64 0), (.int .i64 0), (.int .u64 0), (.int .u64 0), (.int .u64 0), (.int .i64 0), (.int .i64 0), (.int .i64 0), (.int .i64 0), (.int .i64 0), (.int .u64 0), (.bool false), (.slice none 0 0)] []),oa 88 (.call (.func 142) [(ot 86), (oi 9), (ot 87)])])
 .ret)
 .skip))
 (.seq (.ops [om 90 0,oa 91 (.nilck (ot 90)),og 92 13 91,oa 93 (.load true 3 (ot 92)),om 94 7,oa 95 (.call (.func 150) [(ot 93), (ot 94)]),om 89 95,oa 96 (.ext (ot 89) 0),oa 97 (.ext (ot 89) 1),om 11 96,om 12 97])
 (.ops [om 98 0,om 99 11,om 100 7,oa 101 (.len false (ot 100)),oa 102 (.bin .mul (oi 2) (ot 101)),oa 103 (.bin .add (oi 1) (ot 102)),oa 104 (.slc 1 (ot 99) none (some (ot 103)) none),oa 105 (.build [(.int .i64 0), (.int .i64 0), (.int .u64 0), (.int .u64 0), (.int .u64 0), (.int .i64 0), (.int .i64 0), (.int .i64 0), (.int .i64 0), (.int .i64 0), (.int .u64 0), (.bool false), (.slice none 0 0)] [(12, 1, (ot 104))]),oa 106 (.call (.func 142) [(ot 98), (oi 7), (ot 105)])]))))))))),
 107,[]⟩
def A80 : FnL := ⟨(.seq (.draw [pm 2 0,oe 3 (.nilck (ot 2)),pg 4 16 3,pl 5 4,pm 6 0,pm 7 0,oe 8 (.nilck (ot 7)),pg 9 17 8,pl 10 9,pm 12 0,oe 13 (.nilck (ot 12)),pg 14 0 13,pg 15 6 14,pl 16 15,pm 18 0,oe 19 (.nilck (ot 18)),pg 20 0 19,pg 21 12 20,pl 22 21,pm 23 0,oe 24 (.nilck (ot 23)),pg 25 0 24,pg 26 6 25,pl 27 26,oe 28 (.iaddrS 1 (ot 22) (ot 27)),pl 29 28, ⟨oa 11 (.call (.func 141) [(ot 6), (oi 3), (ot 10)]), [ol 5 4,ol 16 15,ol 22 21,ol 27 26,ol 29 28]⟩,oe 17 (.bin .add (ot 11) (ot 16)),oe 30 (.call (.func 151) [(ot 5), (ot 17), (ot 29)])])
 (.seq (.seq (.draw [pm 31 0,oe 32 (.nilck (ot 31)),pg 33 0 32,pg 34 6 33,pl 35 34,oe 36 (.bin .add (ot 35) (oi 1)),pm 37 0,oe 38 (.nilck (ot 37)),pg 39 0 38,pg 40 12 39,pl 41 40,oe 42 (.len false (ot 41)),oe 43 (.bin .lss (ot 36) (ot 42))])
 (.cond (ot 43) (.seq (.draw [pm 44 0,pm 45 0,oe 46 (.nilck (ot 45)),pg 47 0 46,pg 48 12 47,pl 49 48,pm 50 0,oe 51 (.nilck (ot 50)),pg 52 0 51,pg 53 6 52,pl 54 53,oe 55 (.bin .add (ot 54) (oi 1)),oe 56 (.build [(.int .i64 0), (.int .i64 0), (.int .u64 0), (.int .u64 0), (.int .u64 0), (.int .i64 0), (.int .i64 0), (.int .i64 0), (.int .i64 0), (.int .i64 0), (.int .u64 0), (.bool false), (.slice none 0 0)] [(12, 1, (ot 49)), (6, 1, (ot 55))]),oe 57 (.call (.func 142) [(ot 44), (oi 7), (ot 56)])])
 .ret)
 .skip))
 (.ops [om 58 0,om 59 0,oa 60 (.nilck (ot 59)),og 61 0 60,og 62 12 61,ol 63 62,oa 64 (.len false (ot 63)),oa 65 (.build [(.int .i64 0), (.int .i64 0), (.int .u64 0), (.int .u64 0), (.int .u64 0), (.int .i64 0), (.int .i64 0), (.int .i64 0), (.int .i64 0), (.int .i64 0), (.int .u64 0), (.bool false), (.slice none 0 0)] [(7, 1, (ot 64))]),oa 66 (.call (.func 142) [(ot 58), (oi 8), (ot 65)])]))),
 67,[]⟩
def A81 : FnL := ⟨(.seq (.ops [om 7 0,oa 8 (.nilck (ot 7)),og 9 17 8,ol 10 9,oa 11 (.call (.func 152) [(oi 1), (ot 10)]),om 6 11,oa 12 (.ext (ot 6) 0),oa 13 (.ext (ot 6) 1),om 2 12,om 3 13])
 (.seq (.seq (.draw [pm 15 0,oe 16 (.nilck (ot 15)),pg 17 16 16,pl 18 17,pm 19 0,oe 20 (.nilck (ot 19)),pg 21 17 20,pl 22 21,pm 23 2,oe 24 (.call (.func 153) [(ot 18), (ot 22), (oi 0), (ot 23)]),pm 14 24,oe 25 (.ext (ot 14) 0),oe 26 (.ext (ot 14) 1),pm 4 25,pm 5 26])
 (.seq (.ops [om 27 4,oa 28 (.un .not (ot 27))])
 (.cond (ot 28) (.seq (.ops [om 29 0,om 30 0,oa 31 (.nilck (ot 30)),og 32 0 31,og 33 7 32,ol 34 33,oa 35 (.build [(.int .i64 0), (.int .i64 0), (.int .u64 0), (.int .u64 0), (.int .u64 0), (.int .i64 0), (.int .i64 0), (.int .i64 0), (.int .i64 0), (.int .i64 0), (.int .u64 0), (.bool false), (.slice none 0 0)] [(7, 1, (ot 34))]),oa 36 (.call (.func 142) [(ot 29), (oi 10), (ot 35)])])
 .ret)
 .skip)))
 (.ops [om 37 0,oa 38 (.call (.func 154) [(ot 37)])]))),
 39,[]⟩
def A82 : FnL := ⟨(.seq (.draw [pm 2 0,oe 3 (.nilck (ot 2)),pg 4 16 3,pl 5 4,pm 6 0,oe 7 (.nilck (ot 6)),pg 8 17 7,pl 9 8,oe 10 (.call (.func 155) [(ot 5), (ot 9), (oi 0)])])
 (.ops [om 11 0,oa 12 (.call (.func 154) [(ot 11)])])),
 13,[]⟩
def A84 : FnL := ⟨(.seq (.draw [pm 5 0,oe 6 (.nilck (ot 5)),pg 7 16 6,pl 8 7,pm 9 0,pm 10 0,oe 11 (.nilck (ot 10)),pg 12 0 11,pg 13 8 12,pl 14 13, ⟨oa 15 (.call (.func 141) [(ot 9), (oi 3), (ot 14)]), [ol 8 7]⟩,oe 16 (.call (.func 140) [(ot 8), (ot 15)]),pm 4 16,oe 17 (.ext (ot 4) 0),oe 18 (.ext (ot 4) 1),pm 2 17,pm 3 18])
 (.block 0 (.seq (.ops [om 30 2,om 31 0,oa 32 (.nilck (ot 31)),og 33 13 32,oa 34 (.load true 3 (ot 33)),oa 35 (.call (.func 66) [(ot 34)]),oa 36 (.conv .u64 (ot 35)),oa 37 (.bin .gtr (ot 30) (ot 36)),om 29 37])
 (.cond (ot 29) (.ops [om 38 0,oa 39 (.build [(.int .i64 0), (.int .i64 0), (.int .u64 0), (.int .u64 0), (.int .u64 0), (.int .i64 0), (.int .i64 0), (.int .i64 0), (.int .i64 0), (.int .i64 0), (.int .u64 0), (.bool false), (.slice none 0 0)] []),oa 40 (.call (.func 142) [(ot 38), (oi 9), (ot 39)])])
 (.seq (.ops [om 42 2,oa 43 (.bin .eql (ot 42) (ou 0)),om 41 43])
 (.cond (ot 41) (.ops [om 44 0,om 45 0,oa 46 (.nilck (ot 45)),og 47 0 46,og 48 8 47,ol 49 48,oa 50 (.build [(.int .i64 0), (.int .i64 0), (.int .u64 0), (.int .u64 0), (.int .u64 0), (.int .i64 0), (.int .i64 0), (.int .i64 0), (.int .i64 0), (.int .i64 0), (.int .u64 0), (.bool false), (.slice none 0 0)] [(8, 1, (ot 49))]),oa 51 (.call (.func 142) [(ot 44), (oi 19), (ot 50)])])
 (.ops [om 19 0,om 20 0,oa 21 (.nilck (ot 20)),og 22 0 21,og 23 8 22,ol 24 23,om 25 2,oa 26 (.conv .i64 (ot 25)),oa 27 (.build [(.int .i64 0), (.int .i64 0), (.int .u64 0), (.int .u64 0), (.int .u64 0), (.int .i64 0), (.int .i64 0), (.int .i64 0), (.int .i64 0), (.int .i64 0), (.int .u64 0), (.bool false), (.slice none 0 0)] [(8, 1, (ot 24)), (7, 1, (ot 26))]),oa 28 (.call (.func 142) [(ot 19), (oi 12), (ot 27)])]))))))),
 52,[]⟩
def A85 : FnL := ⟨(.seq (.draw [pm 10 0,oe 11 (.nilck (ot 10)),pg 12 13 11,oe 13 (.load true 3 (ot 12)),pm 14 0,oe 15 (.nilck (ot 14)),pg 16 0 15,pg 17 8 16,pl 18 17,pm 19 0,oe 20 (.nilck (ot 19)),pg 21 0 20,pg 22 6 21,pl 23 22,oe 24 (.call (.func 156) [(ot 13), (ot 18), (ot 23)]),pm 9 24,oe 25 (.ext (ot 9) 0),oe 26 (.ext (ot 9) 1),oe 27 (.ext (ot 9) 2),pm 2 25,pm 3 26,pm 4 27])
 (.seq (.ops [om 29 0,oa 30 (.nilck (ot 29)),og 31 16 30,ol 32 31,om 33 2,oa 34 (.call (.func 140) [(ot 32), (ot 33)]),om 28 34,oa 35 (.ext (ot 28) 0),oa 36 (.ext (ot 28) 1),om 5 35,om 6 36])
 (.seq (.ops [om 38 0,oa 39 (.nilck (ot 38)),og 40 13 39,oa 41 (.load true 3 (ot 40)),om 42 5,oa 43 (.call (.func 67) [(ot 41), (ot 42)]),om 37 43,oa 44 (.ext (ot 37) 0),oa 45 (.ext (ot 37) 1),om 7 44,om 8 45])
 (.seq (.seq (.ops [om 46 8,oa 47 (.un .not (ot 46))])
 (.cond (ot 47) (.seq (.ops [om 48 0,oa 49 (.build [(.int .i64 0), (.int .i64 0), (.int .u64 0), (.int .u64 0), (.int .u64 0), (.int .i64 0), (.int .i64 0), (.int .i64 0), (.int .i64 0), (.int .i64 0), (.int .u64 0), (.bool false), (.slice none 0 0)] []),oa 50 (.call (.func 142) [(ot 48), (oi 9), (ot 49)])])
 .ret)
 .skip))
 (.draw [pm 51 0,pm 52 0,oe 53 (.nilck (ot 52)),pg 54 0 53,pg 55 8 54,pl 56 55,pm 57 0,oe 58 (.nilck (ot 57)),pg 59 0 58,pg 60 7 59,pl 61 60,pm 62 0,oe 63 (.nilck (ot 62)),pg 64 0 63,pg 65 6 64,pl 66 65,pm 67 7,oe 68 (.build [(.int .i64 0), (.int .i64 0), (.int .u64 0), (.int .u64 0), (.int .u64 0), (.int .i64 0), (.int .i64 0), (.int .i64 0), (.int .i64 0), (.int .i64 0), (.int .u64 0), (.bool false), (.slice none 0 0)] [(8, 1, (ot 56)), (7, 1, (ot 61)), (6, 1, (ot 66)), (9, 1, (ot 67))]),oe 69 (.call (.func 142) [(ot 51), (oi 13), (ot 68)])]))))),
 70,[]⟩
def A86 : FnL := ⟨(.seq (.draw [pm 8 0,oe 9 (.nilck (ot 8)),pg 10 13 9,oe 11 (.load true 3 (ot 10)),pm 12 0,oe 13 (.nilck (ot 12)),pg 14 0 13,pg 15 8 14,pl 16 15,pm 17 0,oe 18 (.nilck (ot 17)),pg 19 0 18,pg 20 6 19,pl 21 20,oe 22 (.call (.func 156) [(ot 11), (ot 16), (ot 21)]),pm 7 22,oe 23 (.ext (ot 7) 0),oe 24 (.ext (ot 7) 1),oe 25 (.ext (ot 7) 2),pm 2 23,pm 3 24,pm 4 25])
 (.seq (.ops [om 27 0,oa 28 (.nilck (ot 27)),og 29 16 28,ol 30 29,om 31 3,oa 32 (.call (.func 140) [(ot 30), (ot 31)]),om 26 32,oa 33 (.ext (ot 26) 0),oa 34 (.ext (ot 26) 1),om 5 33,om 6 34])
 (.draw [pm 35 0,pm 36 0,oe 37 (.nilck (ot 36)),pg 38 0 37,pg 39 8 38,pl 40 39,pm 41 0,oe 42 (.nilck (ot 41)),pg 43 0 42,pg 44 7 43,pl 45 44,pm 46 0,oe 47 (.nilck (ot 46)),pg 48 0 47,pg 49 6 48,pl 50 49,pm 51 0,oe 52 (.nilck (ot 51)),pg 53 0 52,pg 54 9 53,pl 55 54,pm 56 5,oe 57 (.build [(.int .i64 0), (.int .i64 0), (.int .u64 0), (.int .u64 0), (.int .u64 0), (.int .i64 0), (.int .i64 0), (.int .i64 0), (.int .i64 0), (.int .i64 0), (.int .u64 0), (.bool false), (.slice none 0 0)] [(8, 1, (ot 40)), (7, 1, (ot 45)), (6, 1, (ot 50)), (9, 1, (ot 55)), (10, 1, (ot 56))]),oe 58 (.call (.func 142) [(ot 35), (oi 14), (ot 57)])]))),
 59,[]⟩
def A87 : FnL := ⟨(.seq (.draw [pm 6 0,oe 7 (.nilck (ot 6)),pg 8 16 7,pl 9 8,pm 10 0,oe 11 (.nilck (ot 10)),pg 12 17 11,pl 13 12,pm 14 0,oe 15 (.nilck (ot 14)),pg 16 0 15,pg 17 9 16,pl 18 17,oe 19 (.call (.func 143) [(ot 9), (ot 13), (ot 18)]),pm 5 19,oe 20 (.ext (ot 5) 0),oe 21 (.ext (ot 5) 1),pm 2 20,pm 3 21])
 (.seq (.ops [om 22 0,oa 23 (.nilck (ot 22)),og 24 0 23,oa 25 (.load true 13 (ot 24)),oa 4 (.alloc [(.int .i64 0), (.int .i64 0), (.int .u64 0), (.int .u64 0), (.int .u64 0), (.int .i64 0), (.int .i64 0), (.int .i64 0), (.int .i64 0), (.int .i64 0), (.int .u64 0), (.bool false), (.slice none 0 0)]), oc (.store 13 (ot 4) (ot 25))])
 (.seq (.ops [om 26 2,om 27 0,oa 28 (.nilck (ot 27)),og 29 0 28,og 30 10 29,ol 31 30,oa 32 (.bin .eql (ot 26) (ot 31)),og 33 11 4, oc (.store 1 (ot 33) (ot 32))])
 (.ops [om 34 0,oa 35 (.load true 13 (ot 4)),oa 36 (.call (.func 142) [(ot 34), (oi 15), (ot 35)])])))),
 37,[]⟩
def A88 : FnL := ⟨(.seq (.draw [pm 6 0,oe 7 (.nilck (ot 6)),pg 8 16 7,pl 9 8,pm 10 0,oe 11 (.nilck (ot 10)),pg 12 17 11,pl 13 12,oe 14 (.call (.func 157) [(ot 9), (ot 13), (oi 0)]),pm 5 14,oe 15 (.ext (ot 5) 0),oe 16 (.ext (ot 5) 1),pm 2 15,pm 3 16])
 (.seq (.ops [om 17 0,oa 18 (.nilck (ot 17)),og 19 0 18,oa 20 (.load true 13 (ot 19)),oa 4 (.alloc [(.int .i64 0), (.int .i64 0), (.int .u64 0), (.int .u64 0), (.int .u64 0), (.int .i64 0), (.int .i64 0), (.int .i64 0), (.int .i64 0), (.int .i64 0), (.int .u64 0), (.bool false), (.slice none 0 0)]), oc (.store 13 (ot 4) (ot 20))])
 (.seq (.ops [og 21 11 4, oc (.store 1 (ot 21) (.const (.bool false)))])
 (.block 0 (.seq (.ops [om 26 2,oa 27 (.un .not (ot 26)),om 25 27])
 (.cond (ot 25) (.ops [om 28 0,om 29 0,oa 30 (.nilck (ot 29)),og 31 0 30,og 32 9 31,ol 33 32,oa 34 (.build [(.int .i64 0), (.int .i64 0), (.int .u64 0), (.int .u64 0), (.int .u64 0), (.int .i64 0), (.int .i64 0), (.int .i64 0), (.int .i64 0), (.int .i64 0), (.int .u64 0), (.bool false), (.slice none 0 0)] [(9, 1, (ot 33))]),oa 35 (.call (.func 142) [(ot 28), (oi 18), (ot 34)])])
 (.seq (.ops [om 37 0,oa 38 (.nilck (ot 37)),og 39 0 38,og 40 11 39,ol 41 40,om 36 41])
 (.cond (ot 36) (.seq (.ops [og 42 10 4, oc (.store 1 (ot 42) (ou 0))])
 (.ops [om 43 0,oa 44 (.load true 13 (ot 4)),oa 45 (.call (.func 142) [(ot 43), (oi 17), (ot 44)])]))
 (.ops [om 22 0,oa 23 (.load true 13 (ot 4)),oa 24 (.call (.func 142) [(ot 22), (oi 16), (ot 23)])]))))))))),
 46,[]⟩
def A89 : FnL := ⟨(.seq (.draw [pm 2 0,oe 3 (.nilck (ot 2)),pg 4 16 3,pl 5 4,pm 6 0,oe 7 (.nilck (ot 6)),pg 8 17 7,pl 9 8,pm 10 0,oe 11 (.nilck (ot 10)),pg 12 0 11,pg 13 9 12,pl 14 13,pm 15 0,oe 16 (.nilck (ot 15)),pg 17 0 16,pg 18 10 17,pl 19 18,oe 20 (.call (.func 153) [(ot 5), (ot 9), (ot 14), (ot 19)])])
 (.ops [om 21 0,oa 22 (.call (.func 158) [(ot 21)])])),
 23,[]⟩
def A90 : FnL := ⟨(.seq (.draw [pm 2 0,oe 3 (.nilck (ot 2)),pg 4 16 3,pl 5 4,pm 6 0,oe 7 (.nilck (ot 6)),pg 8 17 7,pl 9 8,pm 10 0,oe 11 (.nilck (ot 10)),pg 12 0 11,pg 13 9 12,pl 14 13,oe 15 (.call (.func 155) [(ot 5), (ot 9), (ot 14)])])
 (.ops [om 16 0,oa 17 (.call (.func 158) [(ot 16)])])),
 18,[]⟩
def A92 : FnL := ⟨(.seq (.ops [om 5 0,oa 6 (.nilck (ot 5)),og 7 0 6,og 8 8 7,ol 9 8,oa 10 (.call (.func 152) [(oi 2), (ot 9)]),om 4 10,oa 11 (.ext (ot 4) 0),oa 12 (.ext (ot 4) 1),om 2 11,om 3 12])
 (.seq (.draw [pm 13 0,oe 14 (.nilck (ot 13)),pg 15 16 14,pl 16 15,pm 17 0,oe 18 (.nilck (ot 17)),pg 19 17 18,pl 20 19,pm 21 2,oe 22 (.call (.func 153) [(ot 16), (ot 20), (oi 0), (ot 21)])])
 (.ops [om 23 0,oa 24 (.call (.func 154) [(ot 23)])]))),
 25,[]⟩
def A93 : FnL := ⟨(.seq (.draw [pm 5 0,oe 6 (.nilck (ot 5)),pg 7 16 6,pl 8 7,pm 9 0,oe 10 (.nilck (ot 9)),pg 11 17 10,pl 12 11,pm 13 0, ⟨oa 14 (.call (.func 159) [(ot 13)]), [ol 8 7,ol 12 11]⟩,oe 15 (.call (.func 143) [(ot 8), (ot 12), (ot 14)]),pm 4 15,oe 16 (.ext (ot 4) 0),oe 17 (.ext (ot 4) 1),pm 2 16,pm 3 17])
 (.draw [pm 18 0,pm 19 0,oe 20 (.nilck (ot 19)),pg 21 0 20,pg 22 8 21,pl 23 22,pm 24 0,oe 25 (.nilck (ot 24)),pg 26 0 25,pg 27 6 26,pl 28 27,pm 29 2,oe 30 (.bin .eql (ot 29) (ou 0)),oe 31 (.build [(.int .i64 0), (.int .i64 0), (.int .u64 0), (.int .u64 0), (.int .u64 0), (.int .i64 0), (.int .i64 0), (.int .i64 0), (.int .i64 0), (.int .i64 0), (.int .u64 0), (.bool false), (.slice none 0 0)] [(8, 1, (ot 23)), (6, 1, (ot 28)), (11, 1, (ot 30))]),oe 32 (.call (.func 142) [(ot 18), (oi 21), (ot 31)])])),
 33,[]⟩
def A94 : FnL := ⟨(.seq (.draw [pm 6 0,oe 7 (.nilck (ot 6)),pg 8 16 7,pl 9 8,pm 10 0,oe 11 (.nilck (ot 10)),pg 12 17 11,pl 13 12,oe 14 (.call (.func 157) [(ot 9), (ot 13), (oi 0)]),pm 5 14,oe 15 (.ext (ot 5) 0),oe 16 (.ext (ot 5) 1),pm 2 15,pm 3 16])
 (.seq (.ops [oa 4 (.mv (oi 22))])
 (.seq (.block 0 (.seq (.ops [om 18 2,oa 19 (.un .not (ot 18)),om 17 19])
 (.cond (ot 17) (.ops [oa 4 (.mv (oi 24))])
 (.seq (.ops [om 21 0,oa 22 (.nilck (ot 21)),og 23 0 22,og 24 11 23,ol 25 24,om 20 25])
 (.cond (ot 20) (.ops [oa 4 (.mv (oi 23))])
 .skip)))))
 (.draw [pm 26 0,pm 27 4,pm 28 0,oe 29 (.nilck (ot 28)),pg 30 0 29,pg 31 8 30,pl 32 31,pm 33 0,oe 34 (.nilck (ot 33)),pg 35 0 34,pg 36 6 35,pl 37 36,oe 38 (.build [(.int .i64 0), (.int .i64 0), (.int .u64 0), (.int .u64 0), (.int .u64 0), (.int .i64 0), (.int .i64 0), (.int .i64 0), (.int .i64 0), (.int .i64 0), (.int .u64 0), (.bool false), (.slice none 0 0)] [(8, 1, (ot 32)), (6, 1, (ot 37))]),oe 39 (.call (.func 142) [(ot 26), (ot 27), (ot 38)])])))),
 40,[]⟩
def A95 : FnL := ⟨(.seq (.draw [pm 2 0,oe 3 (.nilck (ot 2)),pg 4 16 3,pl 5 4,pm 6 0,oe 7 (.nilck (ot 6)),pg 8 17 7,pl 9 8,pm 10 0, ⟨oa 11 (.call (.func 159) [(ot 10)]), [ol 5 4,ol 9 8]⟩,oe 12 (.call (.func 153) [(ot 5), (ot 9), (ot 11), (ou 0)])])
 (.ops [om 13 0,oa 14 (.call (.func 160) [(ot 13)])])),
 15,[]⟩
def A96 : FnL := ⟨(.seq (.draw [pm 2 0,oe 3 (.nilck (ot 2)),pg 4 16 3,pl 5 4,pm 6 0,oe 7 (.nilck (ot 6)),pg 8 17 7,pl 9 8,pm 10 0, ⟨oa 11 (.call (.func 159) [(ot 10)]), [ol 5 4,ol 9 8]⟩,oe 12 (.call (.func 155) [(ot 5), (ot 9), (ot 11)])])
 (.ops [om 13 0,oa 14 (.call (.func 160) [(ot 13)])])),
 15,[]⟩
def A98 : FnL := ⟨(.seq (.draw [pm 2 0,oe 3 (.nilck (ot 2)),pg 4 16 3,pl 5 4,pm 6 0,oe 7 (.nilck (ot 6)),pg 8 17 7,pl 9 8,oe 10 (.call (.func 153) [(ot 5), (ot 9), (oi 0), (ou 0)])])
 (.ops [om 11 0,oa 12 (.call (.func 154) [(ot 11)])])),
 13,[]⟩
def A99 : FnL := ⟨(.ops [om 2 0,oa 3 (.call (.func 139) [(ot 2), (oi 0), (ou 0), (oi 27)])]),
 4,[]⟩
def A100 : FnL := ⟨(.ops [om 2 0,oa 3 (.call (.func 139) [(ot 2), (oi 1), (ou 0), (oi 28)])]),
 4,[]⟩
def A101 : FnL := ⟨(.ops [om 2 0,oa 3 (.call (.func 139) [(ot 2), (oi 2), (ou 0), (oi 29)])]),
 4,[]⟩
def A102 : FnL := ⟨(.seq (.draw [pm 5 0,oe 6 (.nilck (ot 5)),pg 7 16 6,pl 8 7,pm 9 0,pm 10 0,oe 11 (.nilck (ot 10)),pg 12 17 11,pl 13 12, ⟨oa 14 (.call (.func 141) [(ot 9), (oi 2), (ot 13)]), [ol 8 7]⟩,oe 15 (.bin .add (ot 14) (oi 1)),oe 16 (.call (.func 140) [(ot 8), (ot 15)]),pm 4 16,oe 17 (.ext (ot 4) 0),oe 18 (.ext (ot 4) 1),pm 2 17,pm 3 18])
 (.ops [om 19 0,om 20 2,oa 21 (.build [(.int .i64 0), (.int .i64 0), (.int .u64 0), (.int .u64 0), (.int .u64 0), (.int .i64 0), (.int .i64 0), (.int .i64 0), (.int .i64 0), (.int .i64 0), (.int .u64 0), (.bool false), (.slice none 0 0)] [(10, 1, (ot 20))]),oa 22 (.call (.func 142) [(ot 19), (oi 30), (ot 21)])])),
 23,[]⟩
def A103 : FnL := ⟨(.seq (.draw [pm 2 0,oe 3 (.nilck (ot 2)),pg 4 16 3,pl 5 4,pm 6 0,pm 7 0,oe 8 (.nilck (ot 7)),pg 9 17 8,pl 10 9, ⟨oa 11 (.call (.func 141) [(ot 6), (oi 2), (ot 10)]), [ol 5 4]⟩,oe 12 (.bin .add (ot 11) (oi 1)),oe 13 (.call (.func 151) [(ot 5), (ot 12), (ou 0)])])
 (.ops [om 14 0,om 15 0,oa 16 (.nilck (ot 15)),og 17 0 16,og 18 10 17,ol 19 18,oa 20 (.build [(.int .i64 0), (.int .i64 0), (.int .u64 0), (.int .u64 0), (.int .u64 0), (.int .i64 0), (.int .i64 0), (.int .i64 0), (.int .i64 0), (.int .i64 0), (.int .u64 0), (.bool false), (.slice none 0 0)] [(10, 1, (ot 19))]),oa 21 (.call (.func 142) [(ot 14), (oi 31), (ot 20)])])),
 22,[]⟩
def A104 : FnL := ⟨(.seq (.draw [pm 2 0,oe 3 (.nilck (ot 2)),pg 4 16 3,pl 5 4,pm 6 0,pm 7 0,oe 8 (.nilck (ot 7)),pg 9 17 8,pl 10 9, ⟨oa 11 (.call (.func 141) [(ot 6), (oi 2), (ot 10)]), [ol 5 4]⟩,oe 12 (.call (.func 151) [(ot 5), (ot 11), (ou 0)])])
 (.seq (.draw [pm 14 0,pm 15 0,oe 16 (.nilck (ot 15)),pg 17 0 16,pg 18 4 17,pl 19 18,pm 20 0,oe 21 (.nilck (ot 20)),pg 22 0 21,pg 23 10 22,pl 24 23,oe 25 (.build [(.int .u64 0), (.int .u64 0)] [(0, 1, (ot 19)), (1, 1, (ot 24))]),oe 26 (.call (.func 161) [(ot 25)]),pm 13 26,oe 27 (.ext (ot 13) 0),oe 28 (.ext (ot 13) 1),oe 29 (.nilck (ot 14)),pg 30 18 29, ⟨oc (.store 2 (ot 30) (ot 27)),[]⟩])
 (.ops [om 31 0,om 32 0,oa 33 (.build [(.int .i64 0), (.int .i64 0), (.int .u64 0), (.int .u64 0), (.int .u64 0), (.int .i64 0), (.int .i64 0), (.int .i64 0), (.int .i64 0), (.int .i64 0), (.int .u64 0), (.bool false), (.slice none 0 0)] []),oa 34 (.nilck (ot 31)),og 35 20 34, oc (.store 1 (ot 35) (.const (.bool true))),oa 36 (.nilck (ot 32)),og 37 0 36, oc (.store 13 (ot 37) (ot 33))]))),
 38,[]⟩
def A105 : FnL := ⟨(.seq (.ops [oa 1 (.box (ot 0)),oa 2 (.mv (oi 0))])
 (.seq (.seq (.ops [oa 3 (.load true 3 (ot 1)),oa 4 (.call (.func 39) [(ot 3)]),oa 5 (.un .not (ot 4))])
 (.cond (ot 5) (.seq (.ops [oa 2 (.mv (oi 0))])
 .ret)
 .skip))
 (.seq (.seq (.ops [og 6 0 1,ol 7 6])
 (.block 0 (.seq (.ops [oa 9 (.bin .eql (ot 7) (oi 1)),om 8 9])
 (.cond (ot 8) (.seq (.ops [oa 2 (.mv (oi 1))])
 .ret)
 (.seq (.ops [oa 11 (.bin .eql (ot 7) (oi 2)),om 10 11])
 (.cond (ot 10) (.seq (.ops [og 12 2 1,ol 13 12,oa 14 (.bin .mul (oi 2) (ot 13)),oa 15 (.bin .add (oi 1) (ot 14)),om 2 15])
 .ret)
 (.seq (.ops [oa 17 (.bin .eql (ot 7) (oi 3)),om 16 17])
 (.cond (ot 16) (.seq (.ops [og 18 2 1,ol 19 18,oa 20 (.bin .mul (oi 4) (ot 19)),oa 21 (.bin .add (oi 1) (ot 20)),om 2 21])
 .ret)
 (.seq (.ops [oa 23 (.bin .eql (ot 7) (oi 4)),om 22 23])
 (.cond (ot 22) (.seq (.ops [og 24 2 1,ol 25 24,oa 26 (.bin .mul (oi 4) (ot 25)),oa 27 (.bin .add (oi 2) (ot 26)),om 2 27])
 .ret)
 .skip))))))))))
 (.seq (.ops [og 28 2 1,ol 29 28,oa 30 (.bin .add (oi 1) (ot 29)),oa 31 (.bin .add (ot 30) (oi 8)),om 2 31])
 .ret)))),
 32, [.tmp 2]⟩
def A132 : FnL := ⟨(.seq (.ops [oa 2 (.box (ot 0)),oa 4 (.mv (oi 0))])
 (.seq (.seq (.ops [om 5 1])
 (.block 0 (.seq (.ops [oa 7 (.bin .eql (ot 5) (oi 0)),om 6 7])
 (.cond (ot 6) (.seq (.ops [oa 4 (.mv (oi 1))])
 .ret)
 (.seq (.ops [oa 9 (.bin .eql (ot 5) (oi 1)),om 8 9])
 (.cond (ot 8) (.seq (.ops [oa 4 (.mv (oi 3))])
 .ret)
 (.seq (.ops [oa 11 (.bin .eql (ot 5) (oi 2)),om 10 11])
 (.cond (ot 10) (.seq (.ops [oa 4 (.mv (oi 2))])
 .ret)
 (.seq (.ops [oa 13 (.bin .eql (ot 5) (oi 3)),om 12 13])
 (.cond (ot 12) (.seq (.ops [oa 14 (.load true 3 (ot 2)),oa 15 (.call (.func 70) [(ot 14)]),om 4 15])
 .ret)
 .skip))))))))))
 (.seq (.ops [oa 16 (.load true 3 (ot 2)),oa 17 (.call (.func 105) [(ot 16)]),om 4 17])
 .ret))),
 18, [.tmp 4]⟩
def A133 : FnL := ⟨(.seq (.ops [oa 2 (.box (ot 0)),oa 4 (.mv (oi 0))])
 (.seq (.seq (.ops [om 5 1,oa 6 (.bin .eql (ot 5) (oi 0)),om 7 6,ob 8 (.mv (ot 1)) 7 false,ob 9 (.bin .eql (ot 8) (oi 4)) 7 false,oa 10 (.pick (ot 7) (.const (.bool true)) (ot 9))])
 (.cond (ot 10) (.seq (.ops [oa 4 (.mv (oi 1))])
 .ret)
 .skip))
 (.seq (.ops [og 11 1 2,ol 12 11,om 4 12])
 .ret))),
 13, [.tmp 4]⟩
def A134 : FnL := ⟨(.seq (.ops [oa 3 (.box (ot 0)),oa 5 (.box (ot 2)),oa 6 (.mv (.const (.slice none 0 0))),oa 7 (.alloc [(.int .i64 0), (.int .u64 0)]),oa 8 (.mv (oi 0))])
 (.seq (.seq (.ops [oa 12 (.load true 3 (ot 3)),oa 13 (.call (.func 34) [(ot 12)]),oa 14 (.un .not (ot 13)),om 15 14,ob 16 (.faddr 0 (ot 3)) 15 false,ob 17 (.load false 1 (ot 16)) 15 false,ob 18 (.bin .neq (ot 17) (oi 1)) 15 false,ob 19 (.mv (ot 18)) 15 false,ob 20 (.faddr 0 (ot 3)) 19 true,ob 21 (.load false 1 (ot 20)) 19 true,ob 22 (.bin .neq (ot 21) (oi 5)) 19 true,ob 23 (.pick (ot 19) (ot 22) (.const (.bool false))) 15 false,oa 24 (.pick (ot 15) (.const (.bool true)) (ot 23))])
 (.cond (ot 24) (.seq (.ops [oa 25 (.build [(.int .i64 0), (.int .u64 0)] []),oa 6 (.mv (.const (.slice none 0 0))), oc (.store 2 (ot 7) (ot 25)),oa 8 (.mv (oi 5))])
 .ret)
 .skip))
 (.seq (.seq (.ops [om 26 1,oa 27 (.len false (ot 26)),oa 28 (.load true 3 (ot 3)),oa 29 (.call (.func 125) [(ot 28)]),oa 30 (.bin .neq (ot 27) (ot 29))])
 (.cond (ot 30) (.seq (.ops [oa 31 (.build [(.int .i64 0), (.int .u64 0)] []),oa 6 (.mv (.const (.slice none 0 0))), oc (.store 2 (ot 7) (ot 31)),oa 8 (.mv (oi 2))])
 .ret)
 .skip))
 (.seq (.ops [om 32 1,oa 33 (.call (.func 45) [(ot 32)]),om 9 33])
 (.seq (.seq (.ops [og 34 0 3,ol 35 34,oa 36 (.bin .eql (ot 35) (oi 1))])
 (.cond (ot 36) (.seq (.seq (.draw [pm 37 1,oe 38 (.iaddrS 1 (ot 37) (oi 0)),pl 39 38,pm 41 1,oe 42 (.iaddrS 1 (ot 41) (oi 0)),pl 43 42, ⟨oa 40 (.call (.func 181) [(ot 39)]), [ol 43 42]⟩,oe 44 (.bin .neq (ot 40) (ot 43))])
 (.cond (ot 44) (.seq (.ops [oa 45 (.build [(.int .i64 0), (.int .u64 0)] []),oa 6 (.mv (.const (.slice none 0 0))), oc (.store 2 (ot 7) (ot 45)),oa 8 (.mv (oi 2))])
 .ret)
 .skip))
 (.seq (.ops [om 46 9,oa 47 (.load true 3 (ot 5)),oa 48 (.call (.func 182) [(ot 46), (ot 47)]),oa 10 (.alloc [(.int .i64 0), (.int .u64 0)]), oc (.store 2 (ot 10) (ot 48))])
 (.seq (.draw [pm 49 9,oe 50 (.load true 2 (ot 10)),pm 6 49, ⟨oc (.store 2 (ot 7) (ot 50)),[]⟩,oe 8 (.mv (oi 0))])
 .ret)))
 .skip))
 (.seq (.seq (.ops [oa 51 (.load true 3 (ot 3)),om 52 1,oa 53 (.call (.func 183) [(ot 51), (ot 52)]),oa 54 (.un .not (ot 53))])
 (.cond (ot 54) (.seq (.ops [oa 55 (.build [(.int .i64 0), (.int .u64 0)] []),oa 6 (.mv (.const (.slice none 0 0))), oc (.store 2 (ot 7) (ot 55)),oa 8 (.mv (oi 2))])
 .ret)
 .skip))
 (.seq (.ops [oa 56 (.load true 3 (ot 3)),om 57 9,oa 58 (.load true 3 (ot 5)),oa 59 (.call (.func 184) [(ot 56), (ot 57), (ot 58)]),oa 11 (.alloc [(.int .i64 0), (.int .u64 0)]), oc (.store 2 (ot 11) (ot 59))])
 (.seq (.draw [pm 60 9,oe 61 (.load true 2 (ot 11)),pm 6 60, ⟨oc (.store 2 (ot 7) (ot 61)),[]⟩,oe 8 (.mv (oi 0))])
 .ret)))))))),
 62, [.tmp 6, .cell 7 true 2, .tmp 8]⟩
def A139 : FnL := ⟨(.seq (.draw [pm 8 0,oe 9 (.nilck (ot 8)),pg 10 16 9,pl 11 10,pm 12 0,pm 13 0,oe 14 (.nilck (ot 13)),pg 15 17 14,pl 16 15,pm 18 1,pm 20 2, ⟨oa 17 (.call (.func 141) [(ot 12), (oi 1), (ot 16)]), [ol 11 10]⟩,oe 19 (.bin .add (ot 17) (ot 18)),oe 21 (.call (.func 151) [(ot 11), (ot 19), (ot 20)])])
 (.ops [om 22 0,om 23 3,oa 24 (.build [(.int .i64 0), (.int .i64 0), (.int .u64 0), (.int .u64 0), (.int .u64 0), (.int .i64 0), (.int .i64 0), (.int .i64 0), (.int .i64 0), (.int .i64 0), (.int .u64 0), (.bool false), (.slice none 0 0)] []),oa 25 (.call (.func 142) [(ot 22), (ot 23), (ot 24)])])),
 26,[]⟩
def A140 : FnD := ⟨(.ops [oa 4 (.mv (ou 0)),oa 5 (.alloc [(.int .i64 0)])]), 199, [(ot 5)],(.seq (.ops [om 6 0,om 7 1,oa 8 (.call (.func 200) [(ot 6), (oi 0), (ot 7)]),oa 9 (.nilck (ot 8)),og 10 0 9,ol 11 10,om 4 11, oc (.store 1 (ot 5) (oi 0))])
 .ret),
 12, [.tmp 4, .cell 5 false 1]⟩
def A141 : FnL := ⟨(.seq (.ops [oa 6 (.mv (oi 0))])
 (.seq (.ops [om 10 0,oa 11 (.nilck (ot 10)),og 12 13 11,oa 13 (.load true 3 (ot 12)),om 14 1,om 15 2,oa 16 (.call (.func 26) [(ot 13), (ot 14), (ot 15)]),om 9 16,oa 17 (.ext (ot 9) 0),oa 18 (.ext (ot 9) 1),om 7 17,om 8 18])
 (.seq (.ops [om 19 7,om 6 19])
 .ret))),
 20, [.tmp 6]⟩
def A142 : FnL := ⟨(.seq (.ops [oa 5 (.box (ot 2))])
 (.seq (.draw [pm 6 1,pm 7 0,oe 8 (.nilck (ot 7)),pg 9 0 8,pg 10 1 9,oe 11 (.load true 3 (ot 10)),pm 12 0,oe 13 (.nilck (ot 12)),pg 14 0 13,pg 15 4 14,pl 16 15,pm 17 0,oe 18 (.nilck (ot 17)),pg 19 0 18,pg 20 5 19,pl 21 20,pg 22 0 5, ⟨oc (.store 1 (ot 22) (ot 6)), [oa 11 (.load true 3 (ot 10)),ol 16 15,ol 21 20]⟩,pg 23 1 5, ⟨oc (.store 3 (ot 23) (ot 11)), [ol 16 15,ol 21 20]⟩,pg 24 4 5, ⟨oc (.store 1 (ot 24) (ot 16)), [ol 21 20]⟩,pg 25 5 5, ⟨oc (.store 1 (ot 25) (ot 21)),[]⟩])
 (.ops [om 26 0,oa 27 (.load true 13 (ot 5)),oa 28 (.nilck (ot 26)),og 29 0 28, oc (.store 13 (ot 29) (ot 27))]))),
 30,[]⟩
def A143 : FnD := ⟨(.ops [oa 6 (.mv (ou 0)),oa 7 (.alloc [(.int .i64 0)])]), 199, [(ot 7)],(.seq (.ops [om 9 0,om 10 1,om 11 2,oa 12 (.call (.func 200) [(ot 9), (ot 10), (ot 11)]),om 8 12])
 (.seq (.draw [pm 13 8,oe 14 (.nilck (ot 13)),pg 15 1 14,pl 16 15,pm 17 1,oe 18 (.bin .shl (oi 1) (ot 17)),oe 19 (.bin .or (ot 16) (ot 18)),oe 20 (.nilck (ot 13)),pg 21 1 20, ⟨oc (.store 1 (ot 21) (ot 19)),[]⟩])
 (.seq (.ops [om 22 8,oa 23 (.nilck (ot 22)),og 24 0 23,ol 25 24,om 6 25, oc (.store 1 (ot 7) (oi 0))])
 .ret))),
 26, [.tmp 6, .cell 7 false 1]⟩
def A144 : FnL := ⟨(.seq (.ops [oa 2 (.mv (oi 0)),oa 3 (.mv (oi 0)),oa 4 (.mv (oi 0))])
 (.seq (.block 0 (.seq (.ops [om 6 0,oa 7 (.bin .gtr (ot 6) (ou 32)),om 5 7])
 (.cond (ot 5) (.seq (.ops [oa 2 (.mv (oi 0)),oa 3 (.mv (oi 0)),oa 4 (.mv (oi 2))])
 .ret)
 (.seq (.ops [om 9 0,oa 10 (.bin .eql (ot 9) (ou 0)),om 8 10])
 (.cond (ot 8) (.seq (.ops [oa 2 (.mv (oi 0)),oa 3 (.mv (oi 0)),oa 4 (.mv (oi 0))])
 .ret)
 .skip)))))
 (.seq (.ops [om 11 0,oa 12 (.bin .sub (ot 11) (ou 1)),om 0 12])
 (.seq (.ops [om 13 0,oa 14 (.bin .and (ot 13) (ou 1)),oa 15 (.conv .i64 (ot 14)),oa 16 (.bin .add (oi 1) (ot 15)),om 17 0,oa 18 (.bin .shr (ot 17) (ou 1)),oa 19 (.conv .i64 (ot 18)),om 2 16,om 3 19,oa 4 (.mv (oi 0))])
 .ret)))),
 20, [.tmp 2, .tmp 3, .tmp 4]⟩
def A145 : FnL := ⟨(.seq (.ops [oa 2 (.box (ot 0)),oa 3 (.box (ot 1)),oa 4 (.alloc [(.int .i64 0)]),oa 5 (.alloc [(.int .i64 0)])])
 (.seq (.seq (.ops [oa 8 (.load true 3 (ot 2)),oa 9 (.call (.func 34) [(ot 8)]),oa 10 (.un .not (ot 9))])
 (.cond (ot 10) (.seq (.ops [oc (.store 1 (ot 4) (oi 0)), oc (.store 1 (ot 5) (oi 5))])
 .ret)
 .skip))
 (.seq (.ops [oa 6 (.alloc [(.int .i64 0)]), oc (.store 1 (ot 6) (oi 0))])
 (.seq (.seq (.ops [oa 11 (.load true 3 (ot 2)),oa 12 (.call (.func 201) [(ot 11)])])
 (.block 0 (.range (ot 12) [13] (.ops [om 7 13])
 (.block 1 (.seq (.seq (.ops [ol 14 6,ol 15 3,oa 16 (.bin .eql (ot 14) (ot 15))])
 (.cond (ot 16) (.seq (.ops [om 17 7, oc (.store 1 (ot 4) (ot 17)), oc (.store 1 (ot 5) (oi 0))])
 .ret)
 .skip))
 (.ops [ol 18 6,oa 19 (.bin .add (ot 18) (oi 1)), oc (.store 1 (ot 6) (ot 19))]))))))
 (.seq (.ops [oc (.store 1 (ot 4) (oi 0)), oc (.store 1 (ot 5) (oi 1))])
 .ret))))),
 20, [.cell 4 false 1, .cell 5 false 1]⟩
def A146 : FnL := ⟨(.seq (.ops [oa 2 (.mv (.const (.slice none 0 0)))])
 (.seq (.ops [om 3 0,om 4 0,oa 5 (.len false (ot 4)),om 6 0,oa 7 (.len false (ot 6)),oa 8 (.slc 1 (ot 3) none (some (ot 5)) (some (ot 7))),om 2 8])
 .ret)),
 9, [.tmp 2]⟩
def A147 : FnL := ⟨(.seq (.ops [oa 2 (.box (ot 0)),oa 4 (.mv (.const (.slice none 0 0))),oa 5 (.mv (oi 0))])
 (.seq (.ops [oa 20 (.load true 3 (ot 2)),om 21 1,oa 22 (.call (.func 202) [(ot 20), (ot 21)]),om 19 22,oa 23 (.ext (ot 19) 0),oa 24 (.ext (ot 19) 1),oa 25 (.ext (ot 19) 2),oa 7 (.alloc [(.slice none 0 0)]),om 6 23, oc (.store 1 (ot 7) (ot 24)),om 8 25])
 (.seq (.seq (.ops [om 26 8,oa 27 (.bin .neq (ot 26) (oi 0))])
 (.cond (ot 27) (.seq (.ops [om 28 8,oa 4 (.mv (.const (.slice none 0 0))),om 5 28])
 .ret)
 .skip))
 (.seq (.ops [oa 30 (.load true 3 (ot 2)),oa 31 (.call (.func 26) [(ot 30), (oi 4), (oi 0)]),om 29 31,oa 32 (.ext (ot 29) 0),oa 33 (.ext (ot 29) 1),om 9 32,om 10 33])
 (.seq (.ops [om 35 1,og 36 1 2,ol 37 36,oa 38 (.bin .mul (oi 4) (ot 37)),oa 39 (.slc 1 (ot 35) (some (ot 38)) none none),om 40 6,om 41 9,oa 42 (.call (.func 203) [(ot 39), (ot 40), (ot 41)]),om 34 42,oa 43 (.ext (ot 34) 0),oa 44 (.ext (ot 34) 1),oa 11 (.alloc [(.slice none 0 0)]), oc (.store 1 (ot 11) (ot 43)),om 12 44])
 (.seq (.ops [oa 13 (.alloc [(.int .i64 0)]), oc (.store 1 (ot 13) (oi 0))])
 (.seq (.seq (.ops [oa 45 (.load true 3 (ot 2)),om 46 1,oa 47 (.call (.func 204) [(ot 45), (ot 46)])])
 (.block 0 (.range (ot 47) [48, 49] (.ops [om 14 48])
 (.block 1 (.seq (.ops [oa 51 (.load true 3 (ot 2)),om 52 14,oa 53 (.call (.func 26) [(ot 51), (oi 2), (ot 52)]),om 50 53,oa 54 (.ext (ot 50) 0),oa 55 (.ext (ot 50) 1),om 15 54,om 16 55])
 (.seq (.ops [ol 57 7,ol 58 13,oa 59 (.iaddrS 2 (ot 57) (ot 58)),oa 60 (.load true 2 (ot 59)),oa 61 (.call (.func 205) [(ot 60)]),om 56 61,oa 62 (.ext (ot 56) 0),oa 63 (.ext (ot 56) 1),oa 17 (.alloc [(.int .u64 0), (.int .u64 0)]), oc (.store 2 (ot 17) (ot 62)),om 18 63])
 (.seq (.ops [ol 64 13,oa 65 (.bin .add (ot 64) (oi 1)), oc (.store 1 (ot 13) (ot 65))])
 (.ops [ol 66 11,om 67 15,oa 68 (.bin .add (ot 67) (oi 1)),oa 69 (.iaddrA 1 2 (ot 17) (oi 1)),ol 70 69,oa 71 (.build [(.int .i64 0), (.int .u64 0)] [(0, 1, (ot 68)), (1, 1, (ot 70))]),om 72 15,oa 73 (.iaddrA 1 2 (ot 17) (oi 0)),ol 74 73,oa 75 (.build [(.int .i64 0), (.int .u64 0)] [(0, 1, (ot 72)), (1, 1, (ot 74))]),oa 76 (.buildS [(.int .i64 0), (.int .u64 0), (.int .i64 0), (.int .u64 0)] 2 [(0, 2, (ot 71)), (2, 2, (ot 75))]),oa 77 (.buildS [(.slice none 0 0), (.slice none 0 0)] 2 [(0, 1, (ot 66)), (1, 1, (ot 76))]),oa 78 (.call (.func 206) [(ot 77)]), oc (.store 1 (ot 11) (ot 78))]))))))))
 (.seq (.ops [ol 79 11,om 4 79,oa 5 (.mv (oi 0))])
 .ret)))))))),
 80, [.tmp 4, .tmp 5]⟩
def A148 : FnL := ⟨(.seq (.ops [oa 2 (.box (ot 0)),oa 4 (.alloc [(.slice none 0 0)]),oa 5 (.mv (oi 0))])
 (.seq (.seq (.ops [oa 8 (.load true 3 (ot 2)),om 9 1,oa 10 (.call (.func 207) [(ot 8), (ot 9)]),om 6 10])
 (.seq (.ops [om 11 6,oa 12 (.bin .neq (ot 11) (oi 0))])
 (.cond (ot 12) (.seq (.ops [om 13 6, oc (.store 1 (ot 4) (.const (.slice none 0 0))),om 5 13])
 .ret)
 .skip)))
 (.seq (.seq (.ops [oa 14 (.load true 3 (ot 2)),om 15 1,oa 16 (.call (.func 204) [(ot 14), (ot 15)])])
 (.block 0 (.range (ot 16) [17, 18] (.ops [om 7 17])
 (.block 1 (.ops [ol 19 4,om 20 7,oa 21 (.buildS [(.int .i64 0)] 1 [(0, 1, (ot 20))]),oa 22 (.app [(.int .i64 0)] 8 (ot 19) (ot 21)), oc (.store 1 (ot 4) (ot 22))])))))
 (.seq (.ops [ol 23 4, oc (.store 1 (ot 4) (ot 23)),oa 5 (.mv (oi 0))])
 .ret)))),
 24, [.cell 4 false 1, .tmp 5]⟩
def A149 : FnL := ⟨(.seq (.ops [oa 4 (.mv (.const (.bool false)))])
 (.seq (.ops [om 5 0,om 6 1,oa 7 (.call (.func 208) [(ot 5), (ot 6)]),oa 8 (.bin .geq (ot 7) (oi 0)),om 4 8])
 .ret)),
 9, [.tmp 4]⟩
def A150 : FnD := ⟨(.ops [oa 2 (.box (ot 0)),oa 4 (.mv (.const (.slice none 0 0))),oa 5 (.alloc [(.int .i64 0)])]), 209, [(ot 5)],(.seq (.ops [oa 6 (.load true 3 (ot 2)),oa 7 (.call (.func 34) [(ot 6)]),oa 8 (.call (.func 210) [(ot 7), (oi 5)])])
 (.seq (.ops [oa 9 (.load true 3 (ot 2)),om 10 1,oa 11 (.call (.func 211) [(ot 9), (ot 10)]),om 4 11, oc (.store 1 (ot 5) (oi 0))])
 .ret)),
 12, [.tmp 4, .cell 5 false 1]⟩
def A151 : FnD := ⟨(.ops [oa 6 (.alloc [(.int .i64 0)])]), 199, [(ot 6)],(.seq (.ops [om 7 0,om 8 1,oa 9 (.call (.func 200) [(ot 7), (oi 0), (ot 8)]),om 10 2,oa 11 (.build [(.int .u64 0), (.int .i64 0)] [(0, 1, (ot 10))]),oa 12 (.nilck (ot 9)), oc (.store 2 (ot 12) (ot 11))])
 (.seq (.ops [oc (.store 1 (ot 6) (oi 0))])
 .ret)),
 13, [.cell 6 false 1]⟩
def A152 : FnL := ⟨(.seq (.ops [oa 4 (.mv (ou 0)),oa 5 (.mv (oi 0))])
 (.seq (.block 0 (.seq (.seq (.ops [om 7 0,oa 8 (.call (.func 212) [(ot 7), (oi 0), (oi 2)]),oa 9 (.un .not (ot 8)),om 6 9])
 (.cond (ot 6) .skip
 (.seq (.ops [om 10 1,oa 11 (.call (.func 212) [(ot 10), (oi 0), (oi 15)]),oa 12 (.un .not (ot 11)),om 6 12])
 (.cond (ot 6) .skip
 (.ops [om 13 0,oa 14 (.bin .eql (ot 13) (oi 0)),om 15 14,ob 16 (.mv (ot 1)) 15 true,ob 17 (.bin .neq (ot 16) (oi 0)) 15 true,oa 18 (.pick (ot 15) (ot 17) (.const (.bool false))),om 6 18])))))
 (.cond (ot 6) (.seq (.ops [oa 4 (.mv (ou 0)),oa 5 (.mv (oi 1))])
 .ret)
 .skip)))
 (.seq (.ops [om 19 1,oa 20 (.bin .mul (oi 2) (ot 19)),om 21 0,oa 22 (.bin .add (ot 20) (ot 21)),oa 23 (.conv .u64 (ot 22)),om 4 23,oa 5 (.mv (oi 0))])
 .ret))),
 24, [.tmp 4, .tmp 5]⟩
def A153 : FnD := ⟨(.ops [oa 8 (.mv (.const (.bool false))),oa 9 (.alloc [(.int .i64 0)])]), 199, [(ot 9)],(.seq (.ops [om 11 0,om 12 1,om 13 2,oa 14 (.call (.func 200) [(ot 11), (ot 12), (ot 13)]),om 10 14])
 (.seq (.seq (.ops [om 15 10,oa 16 (.nilck (ot 15)),og 17 1 16,ol 18 17,om 19 1,oa 20 (.bin .shr (ot 18) (ot 19)),oa 21 (.bin .and (ot 20) (oi 1)),oa 22 (.bin .eql (ot 21) (oi 0))])
 (.cond (ot 22) (.seq (.ops [oa 8 (.mv (.const (.bool false))), oc (.store 1 (ot 9) (oi 0))])
 .ret)
 .skip))
 (.seq (.ops [om 23 10,om 24 3,oa 25 (.build [(.int .u64 0), (.int .i64 0)] [(0, 1, (ot 24))]),oa 26 (.nilck (ot 23)), oc (.store 2 (ot 26) (ot 25))])
 (.seq (.ops [oa 8 (.mv (.const (.bool true))), oc (.store 1 (ot 9) (oi 0))])
 .ret)))),
 27, [.tmp 8, .cell 9 false 1]⟩
def A154 : FnL := ⟨(.block 0 (.seq (.ops [om 15 0,oa 16 (.nilck (ot 15)),og 17 0 16,og 18 4 17,ol 19 18,oa 20 (.bin .eql (ot 19) (ou 0)),om 14 20])
 (.cond (ot 14) (.ops [om 21 0,oa 22 (.build [(.int .i64 0), (.int .i64 0), (.int .u64 0), (.int .u64 0), (.int .u64 0), (.int .i64 0), (.int .i64 0), (.int .i64 0), (.int .i64 0), (.int .i64 0), (.int .u64 0), (.bool false), (.slice none 0 0)] []),oa 23 (.call (.func 142) [(ot 21), (oi 4), (ot 22)])])
 (.seq (.ops [om 25 0,oa 26 (.nilck (ot 25)),og 27 0 26,og 28 5 27,ol 29 28,oa 30 (.bin .leq (ot 29) (oi 1)),om 24 30])
 (.cond (ot 24) (.seq (.ops [om 31 0,oa 32 (.nilck (ot 31)),og 33 0 32,og 34 5 33, oc (.store 1 (ot 34) (oi 0))])
 (.ops [om 35 0,oa 36 (.build [(.int .i64 0), (.int .i64 0), (.int .u64 0), (.int .u64 0), (.int .u64 0), (.int .i64 0), (.int .i64 0), (.int .i64 0), (.int .i64 0), (.int .i64 0), (.int .u64 0), (.bool false), (.slice none 0 0)] []),oa 37 (.call (.func 142) [(ot 35), (oi 26), (ot 36)])]))
 (.seq (.ops [om 2 0,oa 3 (.nilck (ot 2)),og 4 0 3,og 5 5 4,ol 6 5,oa 7 (.bin .sub (ot 6) (oi 1)),oa 8 (.nilck (ot 2)),og 9 0 8,og 10 5 9, oc (.store 1 (ot 10) (ot 7))])
 (.ops [om 11 0,oa 12 (.build [(.int .i64 0), (.int .i64 0), (.int .u64 0), (.int .u64 0), (.int .u64 0), (.int .i64 0), (.int .i64 0), (.int .i64 0), (.int .i64 0), (.int .i64 0), (.int .u64 0), (.bool false), (.slice none 0 0)] []),oa 13 (.call (.func 142) [(ot 11), (oi 5), (ot 12)])]))))))),
 38,[]⟩
def A155 : FnD := ⟨(.ops [oa 6 (.alloc [(.int .i64 0)])]), 199, [(ot 6)],(.seq (.draw [pm 7 0,pm 8 1,pm 9 2,pm 14 1,oe 15 (.bin .shl (oi 1) (ot 14)),oe 10 (.call (.func 200) [(ot 7), (ot 8), (ot 9)]),oe 11 (.nilck (ot 10)),pg 12 1 11,pl 13 12,oe 16 (.bin .andNot (ot 13) (ot 15)),oe 17 (.nilck (ot 10)),pg 18 1 17, ⟨oc (.store 1 (ot 18) (ot 16)),[]⟩])
 (.seq (.ops [oc (.store 1 (ot 6) (oi 0))])
 .ret)),
 19, [.cell 6 false 1]⟩
def A156 : FnD := ⟨(.ops [oa 3 (.box (ot 0)),oa 6 (.mv (oi 0)),oa 7 (.mv (oi 0)),oa 8 (.alloc [(.int .i64 0)])]), 209, [(ot 8)],(.seq (.ops [oa 10 (.load true 3 (ot 3)),oa 11 (.call (.func 34) [(ot 10)]),oa 12 (.call (.func 210) [(ot 11), (oi 5)])])
 (.seq (.ops [oa 14 (.load true 3 (ot 3)),om 15 1,oa 16 (.call (.func 26) [(ot 14), (oi 3), (ot 15)]),om 13 16,oa 17 (.ext (ot 13) 0),oa 18 (.ext (ot 13) 1),om 9 17, oc (.store 1 (ot 8) (ot 18))])
 (.seq (.ops [ol 19 8,oa 20 (.bin .eql (ot 19) (oi 0)),om 21 20,ob 22 (.mv (ot 2)) 21 true,ob 23 (.bin .geq (ot 22) (oi 0)) 21 true,oa 24 (.pick (ot 21) (ot 23) (.const (.bool false))),om 25 24,ob 26 (.mv (ot 2)) 25 true,ob 27 (.load true 3 (ot 3)) 25 true,ob 28 (.call (.func 213) [(ot 27)]) 25 true,ob 29 (.bin .lss (ot 26) (ot 28)) 25 true,oa 30 (.pick (ot 25) (ot 29) (.const (.bool false))),oa 31 (.call (.func 210) [(ot 30), (oi 1)])])
 (.seq (.ops [om 32 9,oa 33 (.bin .add (ot 32) (oi 1)),om 34 2,oa 35 (.bin .mul (oi 2) (ot 34)),oa 36 (.bin .add (ot 33) (ot 35)),om 37 9,oa 38 (.bin .add (ot 37) (oi 2)),om 39 2,oa 40 (.bin .mul (oi 2) (ot 39)),oa 41 (.bin .add (ot 38) (ot 40)),om 6 36,om 7 41, oc (.store 1 (ot 8) (oi 0))])
 .ret)))),
 42, [.tmp 6, .tmp 7, .cell 8 false 1]⟩
def A157 : FnD := ⟨(.ops [oa 6 (.mv (.const (.bool false))),oa 7 (.alloc [(.int .i64 0)])]), 199, [(ot 7)],(.seq (.ops [om 8 0,om 9 1,om 10 2,oa 11 (.call (.func 200) [(ot 8), (ot 9), (ot 10)]),oa 12 (.nilck (ot 11)),og 13 1 12,ol 14 13,om 15 1,oa 16 (.bin .shr (ot 14) (ot 15)),oa 17 (.bin .and (ot 16) (oi 1)),oa 18 (.bin .eql (ot 17) (oi 1)),om 6 18, oc (.store 1 (ot 7) (oi 0))])
 .ret),
 19, [.tmp 6, .cell 7 false 1]⟩
def A158 : FnL := ⟨(.seq (.seq (.draw [pm 2 0,oe 3 (.nilck (ot 2)),pg 4 0 3,pg 5 6 4,pl 6 5,oe 7 (.bin .add (ot 6) (oi 1)),pm 8 0,oe 9 (.nilck (ot 8)),pg 10 0 9,pg 11 7 10,pl 12 11,oe 13 (.bin .lss (ot 7) (ot 12))])
 (.cond (ot 13) (.seq (.draw [pm 14 0,pm 15 0,oe 16 (.nilck (ot 15)),pg 17 0 16,pg 18 8 17,pl 19 18,pm 20 0,oe 21 (.nilck (ot 20)),pg 22 0 21,pg 23 7 22,pl 24 23,pm 25 0,oe 26 (.nilck (ot 25)),pg 27 0 26,pg 28 6 27,pl 29 28,oe 30 (.bin .add (ot 29) (oi 1)),oe 31 (.build [(.int .i64 0), (.int .i64 0), (.int .u64 0), (.int .u64 0), (.int .u64 0), (.int .i64 0), (.int .i64 0), (.int .i64 0), (.int .i64 0), (.int .i64 0), (.int .u64 0), (.bool false), (.slice none 0 0)] [(8, 1, (ot 19)), (7, 1, (ot 24)), (6, 1, (ot 30))]),oe 32 (.call (.func 142) [(ot 14), (oi 12), (ot 31)])])
 .ret)
 .skip))
 (.ops [om 33 0,om 34 0,oa 35 (.nilck (ot 34)),og 36 0 35,og 37 8 36,ol 38 37,oa 39 (.build [(.int .i64 0), (.int .i64 0), (.int .u64 0), (.int .u64 0), (.int .u64 0), (.int .i64 0), (.int .i64 0), (.int .i64 0), (.int .i64 0), (.int .i64 0), (.int .u64 0), (.bool false), (.slice none 0 0)] [(8, 1, (ot 38))]),oa 40 (.call (.func 142) [(ot 33), (oi 19), (ot 39)])])),
 41,[]⟩
def A159 : FnL := ⟨(.seq (.ops [oa 2 (.mv (oi 0))])
 (.seq (.draw [pm 3 0,pm 4 0,oe 5 (.nilck (ot 4)),pg 6 0 5,pg 7 8 6,pl 8 7,pm 10 0,oe 11 (.nilck (ot 10)),pg 12 0 11,pg 13 6 12,pl 14 13, ⟨oa 9 (.call (.func 141) [(ot 3), (oi 3), (ot 8)]), [ol 14 13]⟩,oe 15 (.bin .add (ot 9) (ot 14)),pm 2 15])
 .ret)),
 16, [.tmp 2]⟩
def A160 : FnL := ⟨(.seq (.seq (.draw [pm 2 0,oe 3 (.nilck (ot 2)),pg 4 0 3,pg 5 6 4,pl 6 5,oe 7 (.bin .add (ot 6) (oi 1)),pm 8 0,oe 9 (.nilck (ot 8)),pg 10 13 9,oe 11 (.load true 3 (ot 10)), ⟨oa 12 (.call (.func 65) [(ot 11)]), [ol 6 5]⟩,oe 13 (.bin .lss (ot 7) (ot 12))])
 (.cond (ot 13) (.seq (.draw [pm 14 0,pm 15 0,oe 16 (.nilck (ot 15)),pg 17 0 16,pg 18 8 17,pl 19 18,pm 20 0,oe 21 (.nilck (ot 20)),pg 22 0 21,pg 23 6 22,pl 24 23,oe 25 (.bin .add (ot 24) (oi 1)),oe 26 (.build [(.int .i64 0), (.int .i64 0), (.int .u64 0), (.int .u64 0), (.int .u64 0), (.int .i64 0), (.int .i64 0), (.int .i64 0), (.int .i64 0), (.int .i64 0), (.int .u64 0), (.bool false), (.slice none 0 0)] [(8, 1, (ot 19)), (6, 1, (ot 25))]),oe 27 (.call (.func 142) [(ot 14), (oi 20), (ot 26)])])
 .ret)
 .skip))
 (.ops [om 28 0,oa 29 (.build [(.int .i64 0), (.int .i64 0), (.int .u64 0), (.int .u64 0), (.int .u64 0), (.int .i64 0), (.int .i64 0), (.int .i64 0), (.int .i64 0), (.int .i64 0), (.int .u64 0), (.bool false), (.slice none 0 0)] []),oa 30 (.call (.func 142) [(ot 28), (oi 25), (ot 29)])])),
 31,[]⟩
def A161 : FnL := ⟨(.seq (.ops [oa 1 (.box (ot 0)),oa 2 (.alloc [(.int .i64 0), (.int .u64 0)]),oa 3 (.mv (oi 0))])
 (.seq (.seq (.ops [oa 4 (.iaddrA 1 2 (ot 1) (oi 0)),ol 5 4,oa 6 (.call (.func 214) [(ot 5), (ou 1), (ou 256)]),oa 7 (.un .not (ot 6))])
 (.cond (ot 7) (.seq (.ops [oa 8 (.build [(.int .i64 0), (.int .u64 0)] []), oc (.store 2 (ot 2) (ot 8)),oa 3 (.mv (oi 2))])
 .ret)
 .skip))
 (.seq (.ops [oa 9 (.iaddrA 1 2 (ot 1) (oi 0)),ol 10 9,oa 11 (.bin .sub (ot 10) (ou 1)),oa 12 (.conv .i64 (ot 11)),oa 13 (.iaddrA 1 2 (ot 1) (oi 1)),ol 14 13,oa 15 (.build [(.int .i64 0), (.int .u64 0)] [(0, 1, (ot 12)), (1, 1, (ot 14))]), oc (.store 2 (ot 2) (ot 15)),oa 3 (.mv (oi 0))])
 .ret))),
 16, [.cell 2 true 2, .tmp 3]⟩
def A181 : FnL := ⟨(.seq (.ops [oa 2 (.mv (ou 0))])
 (.seq (.seq (.ops [om 4 0,oa 5 (.fbits true (ot 4)),om 3 5])
 (.block 0 (.seq (.ops [om 7 3,om 8 3,oa 9 (.feq true (ot 7) (ot 8)),om 6 9])
 (.cond (ot 6) (.seq (.ops [oa 2 (.mv (ou 9221120237041090561))])
 .ret)
 (.seq (.ops [om 11 3,oa 12 (.feq false (ot 11) (.const (.float .f64 0))),om 10 12])
 (.cond (ot 10) (.seq (.ops [oa 2 (.mv (ou 0))])
 .ret)
 .skip))))))
 (.seq (.ops [om 13 0,om 2 13])
 .ret))),
 14, [.tmp 2]⟩
def A182 : FnL := ⟨(.seq (.ops [oa 3 (.box (ot 1)),oa 4 (.alloc [(.int .i64 0), (.int .u64 0)])])
 (.seq (.ops [om 7 0,oa 8 (.iaddrS 1 (ot 7) (oi 0)),ol 9 8,om 5 9])
 (.seq (.ops [og 10 0 3,ol 11 10,oa 12 (.call (.func 231) [(ot 11)]),oa 6 (.alloc [.nilFunc, (.bool false)]), oc (.store 2 (ot 6) (ot 12))])
 (.seq (.block 0 (.seq (.ops [og 14 0 3,ol 15 14,oa 16 (.bin .eql (ot 15) (oi 1)),om 13 16])
 (.cond (ot 13) (.seq (.ops [om 17 5,oa 18 (.build [(.int .i64 0), (.int .u64 0)] [(1, 1, (ot 17))]), oc (.store 2 (ot 4) (ot 18))])
 .ret)
 (.seq (.ops [og 20 0 6,ol 21 20,oa 22 (.eqf false (ot 21) (.const .nilFunc)),om 19 22])
 (.cond (ot 19) (.seq (.ops [oa 23 (.build [(.int .i64 0), (.int .u64 0)] [(0, 1, (oi 10))]), oc (.store 2 (ot 4) (ot 23))])
 .ret)
 .skip)))))
 (.seq (.ops [om 24 0,og 25 0 6,ol 26 25,om 27 5,og 28 2 3,ol 29 28,oa 30 (.call (ot 26) [(ot 27), (ot 29)]),oa 31 (.iaddrS 1 (ot 24) (oi 0)), oc (.store 1 (ot 31) (ot 30))])
 (.seq (.seq (.ops [og 32 1 6,ol 33 32])
 (.cond (ot 33) (.seq (.ops [om 34 5,oa 35 (.build [(.int .i64 0), (.int .u64 0)] [(1, 1, (ot 34))]), oc (.store 2 (ot 4) (ot 35))])
 .ret)
 .skip))
 (.seq (.ops [om 36 0,oa 37 (.iaddrS 1 (ot 36) (oi 0)),ol 38 37,oa 39 (.build [(.int .i64 0), (.int .u64 0)] [(1, 1, (ot 38))]), oc (.store 2 (ot 4) (ot 39))])
 .ret))))))),
 40, [.cell 4 true 2]⟩
def A200 : FnL := ⟨(.seq (.ops [oa 6 (.mv (.const (.pointer none)))])
 (.seq (.seq (.ops [om 7 0,oa 8 (.eqp false (ot 7) (.const (.pointer none))),om 9 8,ob 10 (.mv (ot 1)) 9 false,ob 11 (.bin .lss (ot 10) (oi 0)) 9 false,oa 12 (.pick (ot 9) (.const (.bool true)) (ot 11)),om 13 12,ob 14 (.mv (ot 1)) 13 false,ob 15 (.bin .geq (ot 14) (oi 16)) 13 false,oa 16 (.pick (ot 13) (.const (.bool true)) (ot 15))])
 (.cond (ot 16) (.ops [oa 17 (.build [(.int .i64 0)] [(0, 1, (oi 1))]),oa 18 (.ifc 271 (ot 17)), oc (.pan (ot 18))])
 .skip))
 (.seq (.ops [om 19 0,oa 20 (.nilck (ot 19)),og 21 0 20,ol 22 21,om 23 2,oa 24 (.call (.func 260) [(ot 22), (ot 23)]),om 6 24])
 .ret))),
 25, [.tmp 6]⟩
def A201 : FnL := ⟨(.seq (.ops [oa 1 (.box (ot 0)),oa 2 (.mv (.const .nilFunc))])
 (.seq (.ops [oa 3 (.fn (.func 261) [] [(ot 1)]),om 2 3])
 .ret)),
 4, [.tmp 2]⟩
def A202 : FnL := ⟨(.seq (.ops [oa 2 (.box (ot 0)),oa 4 (.mv (.const (.slice none 0 0))),oa 5 (.mv (.const (.slice none 0 0))),oa 6 (.mv (oi 0))])
 (.seq (.seq (.ops [oa 11 (.load true 3 (ot 2)),om 12 1,oa 13 (.call (.func 207) [(ot 11), (ot 12)]),om 7 13])
 (.seq (.ops [om 14 7,oa 15 (.bin .neq (ot 14) (oi 0))])
 (.cond (ot 15) (.seq (.ops [om 16 7,oa 4 (.mv (.const (.slice none 0 0))),oa 5 (.mv (.const (.slice none 0 0))),om 6 16])
 .ret)
 .skip)))
 (.seq (.ops [oa 8 (.alloc [(.slice none 0 0)])])
 (.seq (.seq (.ops [oa 17 (.load true 3 (ot 2)),om 18 1,oa 19 (.call (.func 204) [(ot 17), (ot 18)])])
 (.block 0 (.range (ot 19) [20, 21] (.ops [oa 10 (.alloc [(.int .i64 0), (.int .u64 0), (.int .u64 0)]), oc (.store 3 (ot 10) (ot 21))])
 (.block 1 (.ops [ol 22 8,oa 23 (.load true 3 (ot 10)),oa 24 (.buildS [(.int .i64 0), (.int .u64 0), (.int .u64 0)] 1 [(0, 3, (ot 23))]),oa 25 (.app [(.int .i64 0), (.int .u64 0), (.int .u64 0)] 24 (ot 22) (ot 24)), oc (.store 1 (ot 8) (ot 25))])))))
 (.seq (.draw [oe 26 (.load true 3 (ot 2)),pm 27 1,pg 28 1 2,pl 29 28,oe 30 (.bin .mul (oi 4) (ot 29)),oe 31 (.slc 1 (ot 27) (some (ot 30)) none none),pl 32 8,oe 33 (.call (.func 262) [(ot 26), (ot 31), (ot 32)]),oe 34 (.ext (ot 33) 0),oe 35 (.ext (ot 33) 1),oe 36 (.ext (ot 33) 2),pm 4 34,pm 5 35,pm 6 36])
 .ret))))),
 37, [.tmp 4, .tmp 5, .tmp 6]⟩
def A203 : FnL := ⟨(.seq (.ops [oa 5 (.box (ot 2)),oa 6 (.alloc [(.slice none 0 0)]),oa 7 (.mv (oi 0))])
 (.seq (.seq (.ops [om 10 0,oa 11 (.len false (ot 10)),om 12 1,oa 13 (.len false (ot 12)),oa 14 (.bin .neq (ot 11) (ot 13)),om 15 14,ob 16 (.load false 1 (ot 5)) 15 false,ob 17 (.call (.func 263) [(ot 16)]) 15 false,ob 18 (.un .not (ot 17)) 15 false,oa 19 (.pick (ot 15) (.const (.bool true)) (ot 18))])
 (.cond (ot 19) (.seq (.ops [oc (.store 1 (ot 6) (.const (.slice none 0 0))),oa 7 (.mv (oi 1))])
 .ret)
 .skip))
 (.seq (.seq (.ops [om 20 0,om 21 1,oa 22 (.call (.func 264) [(ot 20), (ot 21)])])
 (.block 0 (.range (ot 22) [23, 24] (.seq (.ops [om 8 23])
 (.ops [om 9 24]))
 (.block 1 (.ops [ol 25 6,ol 26 5,om 27 8,oa 28 (.bin .add (ot 26) (ot 27)),om 29 9,oa 30 (.build [(.int .i64 0), (.int .u64 0)] [(0, 1, (ot 28)), (1, 1, (ot 29))]),oa 31 (.buildS [(.int .i64 0), (.int .u64 0)] 1 [(0, 2, (ot 30))]),oa 32 (.app [(.int .i64 0), (.int .u64 0)] 16 (ot 25) (ot 31)), oc (.store 1 (ot 6) (ot 32))])))))
 (.seq (.ops [ol 33 6, oc (.store 1 (ot 6) (ot 33)),oa 7 (.mv (oi 0))])
 .ret)))),
 34, [.cell 6 false 1, .tmp 7]⟩
def A204 : FnL := ⟨(.seq (.ops [oa 2 (.box (ot 0)),oa 3 (.box (ot 1)),oa 4 (.mv (.const .nilFunc))])
 (.seq (.ops [oa 5 (.fn (.func 265) [] [(ot 2), (ot 3)]),om 4 5])
 .ret)),
 6, [.tmp 4]⟩
def A205 : FnL := ⟨(.seq (.ops [oa 1 (.box (ot 0)),oa 2 (.alloc [(.int .u64 0), (.int .u64 0)]),oa 3 (.mv (oi 0))])
 (.seq (.seq (.ops [og 4 0 1,ol 5 4,oa 6 (.call (.func 267) [(ot 5), (oi 0), (oi 255)]),oa 7 (.un .not (ot 6))])
 (.cond (ot 7) (.seq (.ops [oa 8 (.build [(.int .u64 0), (.int .u64 0)] []), oc (.store 2 (ot 2) (ot 8)),oa 3 (.mv (oi 1))])
 .ret)
 .skip))
 (.seq (.ops [og 9 0 1,ol 10 9,oa 11 (.conv .u64 (ot 10)),oa 12 (.bin .add (ot 11) (ou 1)),og 13 1 1,ol 14 13,oa 15 (.build [(.int .u64 0), (.int .u64 0)] [(0, 1, (ot 12)), (1, 1, (ot 14))]), oc (.store 2 (ot 2) (ot 15)),oa 3 (.mv (oi 0))])
 .ret))),
 16, [.cell 2 true 2, .tmp 3]⟩
def A206 : FnL := ⟨(.seq (.ops [oa 2 (.mv (.const (.slice none 0 0)))])
 (.seq (.ops [om 3 0,oa 4 (.call (.func 268) [(ot 3)]),om 2 4])
 .ret)),
 5, [.tmp 2]⟩
def A207 : FnL := ⟨(.seq (.ops [oa 2 (.box (ot 0)),oa 4 (.mv (oi 0))])
 (.seq (.block 0 (.seq (.ops [oa 6 (.load true 3 (ot 2)),oa 7 (.call (.func 34) [(ot 6)]),oa 8 (.un .not (ot 7)),om 5 8])
 (.cond (ot 5) (.seq (.ops [oa 4 (.mv (oi 5))])
 .ret)
 (.seq (.ops [om 10 1,oa 11 (.len false (ot 10)),oa 12 (.load true 3 (ot 2)),oa 13 (.call (.func 68) [(ot 12)]),oa 14 (.bin .neq (ot 11) (ot 13)),om 9 14])
 (.cond (ot 9) (.seq (.ops [oa 4 (.mv (oi 2))])
 .ret)
 .skip)))))
 (.seq (.ops [oa 4 (.mv (oi 0))])
 .ret))),
 15, [.tmp 4]⟩
def A208 : FnL := ⟨(.seq (.ops [oa 4 (.mv (oi 0))])
 (.seq (.seq (.ops [om 6 0,oa 7 (.len false (ot 6)),oa 8 (.mv (oi 0))])
 (.block 0 (.loop (.seq (.ops [oa 9 (.bin .lss (ot 8) (ot 7))])
 (.seq (.cond (ot 9) .skip
 (.exit 0))
 (.seq (.block 1 (.seq (.ops [om 10 8,om 5 10])
 (.seq (.ops [om 11 1,om 12 0,om 13 5,oa 14 (.iaddrS 1 (ot 12) (ot 13)),ol 15 14,oa 16 (.bin .eql (ot 11) (ot 15))])
 (.cond (ot 16) (.seq (.ops [om 17 5,om 4 17])
 .ret)
 .skip))))
 (.ops [oa 18 (.bin .add (ot 8) (oi 1)),om 8 18])))))))
 (.seq (.ops [oa 4 (.mv (.const (.int .i64 (-1))))])
 .ret))),
 19, [.tmp 4]⟩
def A210 : FnL := ⟨(.seq (.ops [om 4 0,oa 5 (.un .not (ot 4))])
 (.cond (ot 5) (.ops [om 6 1,oa 7 (.build [(.int .i64 0)] [(0, 1, (ot 6))]),oa 8 (.ifc 281 (ot 7)), oc (.pan (ot 8))])
 .skip)),
 9,[]⟩
def A211 : FnL := ⟨(.seq (.ops [oa 2 (.box (ot 0)),oa 4 (.mv (.const (.slice none 0 0)))])
 (.seq (.ops [om 13 1,oa 14 (.len false (ot 13)),oa 15 (.load true 3 (ot 2)),oa 16 (.call (.func 213) [(ot 15)]),oa 17 (.bin .leq (ot 14) (ot 16)),oa 18 (.call (.func 210) [(ot 17), (oi 4)])])
 (.seq (.ops [oa 19 (.load true 3 (ot 2)),oa 20 (.call (.func 65) [(ot 19)]),oa 21 (.mks [(.int .u64 0)] 8 (ot 20) (ot 20)),om 5 21])
 (.seq (.ops [om 22 5,om 23 1,oa 24 (.len false (ot 23)),oa 25 (.conv .u64 (ot 24)),oa 26 (.iaddrS 1 (ot 22) (oi 0)), oc (.store 1 (ot 26) (ot 25))])
 (.seq (.ops [oa 27 (.mkmap .i64),om 6 27])
 (.seq (.seq (.ops [om 28 1,oa 29 (.len false (ot 28)),oa 30 (.mv (oi 0))])
 (.block 0 (.loop (.seq (.ops [oa 31 (.bin .lss (ot 30) (ot 29))])
 (.seq (.cond (ot 31) .skip
 (.exit 0))
 (.seq (.block 1 (.seq (.ops [om 32 30,oa 33 (.iaddrS 2 (ot 28) (ot 30)),oa 34 (.load true 2 (ot 33)),oa 8 (.alloc [(.int .i64 0), (.int .u64 0)]),om 7 32, oc (.store 2 (ot 8) (ot 34))])
 (.seq (.ops [oa 36 (.load true 3 (ot 2)),og 37 0 8,ol 38 37,oa 39 (.conv .u64 (ot 38)),oa 40 (.call (.func 67) [(ot 36), (ot 39)]),om 35 40,oa 41 (.ext (ot 35) 0),oa 42 (.ext (ot 35) 1),om 9 41,om 10 42])
 (.seq (.ops [om 44 6,og 45 0 8,ol 46 45,oa 47 (.mlook .i64 (.agg #[]) true (ot 44) (ot 46)),om 43 47,oa 48 (.ext (ot 43) 0),oa 49 (.ext (ot 43) 1),oa 11 (.alloc []), oc (.store 0 (ot 11) (ot 48)),om 12 49])
 (.seq (.ops [om 50 10,om 51 50,ob 52 (.mv (ot 12)) 51 true,ob 53 (.un .not (ot 52)) 51 true,oa 54 (.pick (ot 51) (ot 53) (.const (.bool false))),oa 55 (.call (.func 210) [(ot 54), (oi 1)])])
 (.seq (.ops [om 56 6,og 57 0 8,ol 58 57,oa 59 (.build [] []), oc (.mupd .i64 (ot 56) (ot 58) (ot 59))])
 (.draw [pm 60 5,pm 61 7,oe 62 (.bin .mul (oi 2) (ot 61)),oe 63 (.bin .add (oi 1) (ot 62)),pm 64 5,pm 65 7,oe 66 (.bin .mul (oi 2) (ot 65)),oe 67 (.bin .add (oi 2) (ot 66)),pg 68 0 8,pl 69 68,oe 70 (.conv .u64 (ot 69)),pg 71 1 8,pl 72 71,oe 73 (.iaddrS 1 (ot 60) (ot 63)), ⟨oc (.store 1 (ot 73) (ot 70)), [ol 72 71]⟩,oe 74 (.iaddrS 1 (ot 64) (ot 67)), ⟨oc (.store 1 (ot 74) (ot 72)),[]⟩])))))))
 (.ops [oa 75 (.bin .add (ot 30) (oi 1)),om 30 75])))))))
 (.seq (.ops [om 76 5,om 4 76])
 .ret))))))),
 77, [.tmp 4]⟩
def A212 : FnL := ⟨(.seq (.ops [oa 6 (.mv (.const (.bool false)))])
 (.seq (.ops [om 7 0,om 8 1,oa 9 (.bin .geq (ot 7) (ot 8)),om 10 9,ob 11 (.mv (ot 0)) 10 true,ob 12 (.mv (ot 2)) 10 true,ob 13 (.bin .leq (ot 11) (ot 12)) 10 true,oa 14 (.pick (ot 10) (ot 13) (.const (.bool false))),om 6 14])
 .ret)),
 15, [.tmp 6]⟩
def A213 : FnL := ⟨(.seq (.ops [oa 1 (.box (ot 0)),oa 2 (.mv (oi 0))])
 (.seq (.ops [oa 3 (.load true 3 (ot 1)),oa 4 (.call (.func 65) [(ot 3)]),oa 5 (.bin .sub (ot 4) (oi 1)),oa 6 (.bin .quo (ot 5) (oi 2)),om 2 6])
 .ret)),
 7, [.tmp 2]⟩
def A214 : FnL := ⟨(.seq (.ops [oa 6 (.mv (.const (.bool false)))])
 (.seq (.ops [om 7 0,om 8 1,oa 9 (.bin .geq (ot 7) (ot 8)),om 10 9,ob 11 (.mv (ot 0)) 10 true,ob 12 (.mv (ot 2)) 10 true,ob 13 (.bin .leq (ot 11) (ot 12)) 10 true,oa 14 (.pick (ot 10) (ot 13) (.const (.bool false))),om 6 14])
 .ret)),
 15, [.tmp 6]⟩
def A231 : FnL := ⟨(.seq (.ops [oa 2 (.alloc [.nilFunc, (.bool false)])])
 (.seq (.seq (.ops [om 3 0])
 (.block 0 (.seq (.ops [oa 5 (.bin .eql (ot 3) (oi 2)),om 4 5])
 (.cond (ot 4) (.seq (.ops [oa 6 (.build [.nilFunc, (.bool false)] [(0, 1, (.func 281)), (1, 1, (.const (.bool true)))]), oc (.store 2 (ot 2) (ot 6))])
 .ret)
 (.seq (.ops [oa 8 (.bin .eql (ot 3) (oi 3)),om 7 8])
 (.cond (ot 7) (.seq (.ops [oa 9 (.build [.nilFunc, (.bool false)] [(0, 1, (.func 282))]), oc (.store 2 (ot 2) (ot 9))])
 .ret)
 (.seq (.ops [oa 11 (.bin .eql (ot 3) (oi 4)),om 10 11])
 (.cond (ot 10) (.seq (.ops [oa 12 (.build [.nilFunc, (.bool false)] [(0, 1, (.func 283))]), oc (.store 2 (ot 2) (ot 12))])
 .ret)
 .skip))))))))
 (.seq (.ops [oa 13 (.build [.nilFunc, (.bool false)] []), oc (.store 2 (ot 2) (ot 13))])
 .ret))),
 14, [.cell 2 true 2]⟩
def A234 : FnL := ⟨(.seq (.ops [oa 4 (.mv (.const (.bool false)))])
 (.seq (.seq (.ops [om 6 0,oa 7 (.len false (ot 6)),om 8 1,oa 9 (.len false (ot 8)),oa 10 (.bin .neq (ot 7) (ot 9))])
 (.cond (ot 10) (.seq (.ops [oa 4 (.mv (.const (.bool false)))])
 .ret)
 .skip))
 (.seq (.seq (.ops [om 11 0,oa 12 (.len false (ot 11)),oa 13 (.mv (oi 0))])
 (.block 0 (.loop (.seq (.ops [oa 14 (.bin .lss (ot 13) (ot 12))])
 (.seq (.cond (ot 14) .skip
 (.exit 0))
 (.seq (.block 1 (.seq (.ops [om 15 13,om 5 15])
 (.seq (.draw [pm 16 0,pm 17 5,oe 18 (.iaddrS 1 (ot 16) (ot 17)),pl 19 18,pm 20 1,pm 21 5,oe 22 (.iaddrS 1 (ot 20) (ot 21)),pl 23 22,oe 24 (.bin .neq (ot 19) (ot 23))])
 (.cond (ot 24) (.seq (.ops [oa 4 (.mv (.const (.bool false)))])
 .ret)
 .skip))))
 (.ops [oa 25 (.bin .add (ot 13) (oi 1)),om 13 25])))))))
 (.seq (.ops [oa 4 (.mv (.const (.bool true)))])
 .ret)))),
 26, [.tmp 4]⟩
def A260 : FnL := ⟨(.seq (.ops [oa 4 (.mv (.const (.pointer none)))])
 (.seq (.seq (.ops [om 5 1,oa 6 (.bin .lss (ot 5) (oi 0)),om 7 6,ob 8 (.mv (ot 1)) 7 false,ob 9 (.mv (ot 0)) 7 false,ob 10 (.len false (ot 9)) 7 false,ob 11 (.bin .geq (ot 8) (ot 10)) 7 false,oa 12 (.pick (ot 7) (.const (.bool true)) (ot 11))])
 (.cond (ot 12) (.ops [oa 13 (.build [(.int .i64 0)] [(0, 1, (oi 1))]),oa 14 (.ifc 271 (ot 13)), oc (.pan (ot 14))])
 .skip))
 (.seq (.ops [om 15 0,om 16 1,oa 17 (.iaddrS 2 (ot 15) (ot 16)),om 4 17])
 .ret))),
 18, [.tmp 4]⟩
def A261 : FnL := ⟨(.seq (.seq (.ops [og 12 1 1,ol 13 12,oa 14 (.mv (oi 0))])
 (.block 0 (.loop (.seq (.ops [oa 15 (.bin .lss (ot 14) (ot 13))])
 (.seq (.cond (ot 15) .skip
 (.exit 0))
 (.seq (.block 1 (.seq (.ops [om 16 14,om 3 16])
 (.seq (.ops [oa 18 (.load true 3 (ot 1)),om 19 3,oa 20 (.call (.func 26) [(ot 18), (oi 2), (ot 19)]),om 17 20,oa 21 (.ext (ot 17) 0),oa 22 (.ext (ot 17) 1),om 4 21,om 5 22])
 (.seq (.seq (.ops [om 23 0,om 24 4,oa 25 (.call (ot 23) [(ot 24)]),oa 26 (.un .not (ot 25))])
 (.cond (ot 26) .ret
 .skip))
 (.seq (.ops [oa 28 (.load true 3 (ot 1)),om 29 3,oa 30 (.call (.func 26) [(ot 28), (oi 1), (ot 29)]),om 27 30,oa 31 (.ext (ot 27) 0),oa 32 (.ext (ot 27) 1),om 6 31,om 7 32])
 (.seq (.ops [oa 33 (.mv (oi 0))])
 (.block 2 (.loop (.seq (.ops [oa 34 (.bin .lss (ot 33) (oi 3))])
 (.seq (.cond (ot 34) .skip
 (.exit 2))
 (.seq (.block 3 (.seq (.ops [om 35 33,om 8 35])
 (.seq (.ops [om 36 0,om 37 6,om 38 8,oa 39 (.bin .add (ot 37) (ot 38)),oa 40 (.call (ot 36) [(ot 39)]),oa 41 (.un .not (ot 40))])
 (.cond (ot 41) .ret
 .skip))))
 (.ops [oa 42 (.bin .add (ot 33) (oi 1)),om 33 42]))))))))))))
 (.ops [oa 43 (.bin .add (ot 14) (oi 1)),om 14 43])))))))
 (.seq (.ops [oa 45 (.load true 3 (ot 1)),oa 46 (.call (.func 26) [(ot 45), (oi 4), (oi 0)]),om 44 46,oa 47 (.ext (ot 44) 0),oa 48 (.ext (ot 44) 1),om 9 47,om 10 48])
 (.seq (.ops [oa 49 (.load true 3 (ot 1)),oa 50 (.call (.func 125) [(ot 49)]),oa 51 (.mv (oi 0))])
 (.block 4 (.loop (.seq (.ops [oa 52 (.bin .lss (ot 51) (ot 50))])
 (.seq (.cond (ot 52) .skip
 (.exit 4))
 (.seq (.block 5 (.seq (.ops [om 53 51,om 11 53])
 (.seq (.ops [om 54 0,om 55 9,om 56 11,oa 57 (.bin .add (ot 55) (ot 56)),oa 58 (.call (ot 54) [(ot 57)]),oa 59 (.un .not (ot 58))])
 (.cond (ot 59) .ret
 .skip))))
 (.ops [oa 60 (.bin .add (ot 51) (oi 1)),om 51 60]))))))))),
 61,[]⟩
def A262 : FnL := ⟨(.seq (.ops [oa 3 (.box (ot 0)),oa 6 (.mv (.const (.slice none 0 0))),oa 7 (.mv (.const (.slice none 0 0))),oa 8 (.mv (oi 0))])
 (.seq (.ops [oa 16 (.load true 3 (ot 3)),oa 17 (.call (.func 64) [(ot 16)]),om 15 17,oa 18 (.ext (ot 15) 0),oa 19 (.ext (ot 15) 1),oa 9 (.alloc [(.int .i64 0), (.int .i64 0), (.int .i64 0), (.int .i64 0), .nilFunc]), oc (.store 5 (ot 9) (ot 18)),om 10 19])
 (.seq (.block 0 (.seq (.ops [om 21 10,oa 22 (.bin .neq (ot 21) (oi 0)),om 20 22])
 (.cond (ot 20) (.seq (.ops [om 23 10,oa 6 (.mv (.const (.slice none 0 0))),oa 7 (.mv (.const (.slice none 0 0))),om 8 23])
 .ret)
 (.seq (.ops [oa 25 (.load true 3 (ot 3)),om 26 1,oa 27 (.call (.func 298) [(ot 25), (ot 26)]),oa 28 (.un .not (ot 27)),om 24 28])
 (.cond (ot 24) (.seq (.ops [oa 6 (.mv (.const (.slice none 0 0))),oa 7 (.mv (.const (.slice none 0 0))),oa 8 (.mv (oi 2))])
 .ret)
 .skip)))))
 (.seq (.seq (.draw [pm 29 1,pm 31 2,oe 32 (.len false (ot 31))])
 (.fork (.draw [oe 30 (.call (.func 45) [(ot 29)]),pm 11 30,oe 33 (.mks [(.int .i64 0), (.int .u64 0)] 16 (ot 32) (ot 32)),pm 12 33])
 (.draw [oe 33 (.mks [(.int .i64 0), (.int .u64 0)] 16 (ot 32) (ot 32)),oe 30 (.call (.func 45) [(ot 29)]),pm 11 30,pm 12 33])))
 (.seq (.seq (.ops [om 34 2,oa 35 (.len false (ot 34)),oa 36 (.mv (oi 0))])
 (.block 1 (.loop (.seq (.ops [oa 37 (.bin .lss (ot 36) (ot 35))])
 (.seq (.cond (ot 37) .skip
 (.exit 1))
 (.seq (.block 2 (.seq (.ops [om 38 36,oa 39 (.iaddrS 3 (ot 34) (ot 36)),oa 40 (.load true 3 (ot 39)),oa 14 (.alloc [(.int .i64 0), (.int .u64 0), (.int .u64 0)]),om 13 38, oc (.store 3 (ot 14) (ot 40))])
 (.ops [om 42 12,om 43 13,og 44 4 9,ol 45 44,oa 46 (.load true 3 (ot 3)),om 47 11,oa 48 (.load true 3 (ot 14)),oa 49 (.call (ot 45) [(ot 46), (ot 47), (ot 48)]),om 41 49,oa 50 (.ext (ot 41) 0),oa 51 (.ext (ot 41) 1),oa 52 (.ext (ot 41) 2),om 11 50,oa 53 (.iaddrS 2 (ot 42) (ot 43)), oc (.store 2 (ot 53) (ot 51))])))
 (.ops [oa 54 (.bin .add (ot 36) (oi 1)),om 36 54])))))))
 (.seq (.ops [om 55 11,om 56 12,om 6 55,om 7 56,oa 8 (.mv (oi 0))])
 .ret)))))),
 57, [.tmp 6, .tmp 7, .tmp 8]⟩
def A263 : FnL := ⟨(.seq (.ops [oa 2 (.mv (.const (.bool false)))])
 (.seq (.ops [om 3 0,oa 4 (.bin .geq (ot 3) (oi 0)),om 5 4,ob 6 (.mv (ot 0)) 5 true,ob 7 (.bin .leq (ot 6) (oi 1048576)) 5 true,oa 8 (.pick (ot 5) (ot 7) (.const (.bool false))),om 2 8])
 .ret)),
 9, [.tmp 2]⟩
def A264 : FnL := ⟨(.seq (.ops [oa 2 (.box (ot 0)),oa 3 (.box (ot 1)),oa 4 (.mv (.const .nilFunc))])
 (.seq (.ops [oa 5 (.fn (.func 299) [] [(ot 3), (ot 2)]),om 4 5])
 .ret)),
 6, [.tmp 4]⟩
def A265 : FnL := ⟨(.seq (.ops [og 9 1 1,ol 10 9,oa 11 (.mv (oi 0))])
 (.block 0 (.loop (.seq (.ops [oa 12 (.bin .lss (ot 11) (ot 10))])
 (.seq (.cond (ot 12) .skip
 (.exit 0))
 (.seq (.block 1 (.seq (.ops [om 13 11,om 4 13])
 (.seq (.ops [ol 14 2,om 15 4,oa 16 (.bin .mul (oi 4) (ot 15)),oa 17 (.slc 1 (ot 14) (some (ot 16)) none none),oa 18 (.slc 1 (ot 17) none (some (oi 4)) none),om 5 18])
 (.seq (.ops [oa 6 (.alloc [(.int .u64 0), (.int .u64 0), (.int .u64 0)])])
 (.seq (.draw [oe 19 (.slcA 1 3 (ot 6) none none none),pm 20 5,oe 21 (.slc 1 (ot 20) (some (oi 1)) none none),oe 22 (.cpy 1 (ot 19) (ot 21))])
 (.seq (.ops [oa 24 (.load true 3 (ot 6)),oa 25 (.call (.func 266) [(ot 24)]),om 23 25,oa 26 (.ext (ot 23) 0),oa 27 (.ext (ot 23) 1),oa 7 (.alloc [(.int .i64 0), (.int .u64 0), (.int .u64 0)]), oc (.store 3 (ot 7) (ot 26)),om 8 27])
 (.seq (.ops [om 28 5,oa 29 (.iaddrS 1 (ot 28) (oi 0)),ol 30 29,oa 31 (.bin .eql (ot 30) (ou 0)),om 32 31,ob 33 (.mv (ot 8)) 32 true,ob 34 (.bin .eql (ot 33) (oi 0)) 32 true,oa 35 (.pick (ot 32) (ot 34) (.const (.bool false))),om 36 35,ob 37 (.mv (ot 0)) 36 true,ob 38 (.mv (ot 4)) 36 true,ob 39 (.load true 3 (ot 7)) 36 true,ob 40 (.call (ot 37) [(ot 38), (ot 39)]) 36 true,ob 41 (.un .not (ot 40)) 36 true,oa 42 (.pick (ot 36) (ot 41) (.const (.bool false)))])
 (.cond (ot 42) .ret
 .skip))))))))
 (.ops [oa 43 (.bin .add (ot 11) (oi 1)),om 11 43]))))))),
 44,[]⟩
def A266 : FnL := ⟨(.seq (.ops [oa 1 (.box (ot 0)),oa 2 (.alloc [(.int .i64 0), (.int .u64 0), (.int .u64 0)]),oa 3 (.mv (oi 0))])
 (.seq (.ops [oa 7 (.iaddrA 1 3 (ot 1) (oi 0)),ol 8 7,oa 9 (.conv .i64 (ot 8)),oa 10 (.iaddrA 1 3 (ot 1) (oi 1)),ol 11 10,oa 12 (.iaddrA 1 3 (ot 1) (oi 2)),ol 13 12,oa 14 (.build [(.int .i64 0), (.int .u64 0), (.int .u64 0)] [(0, 1, (ot 9)), (1, 1, (ot 11)), (2, 1, (ot 13))]),oa 4 (.alloc [(.int .i64 0), (.int .u64 0), (.int .u64 0)]), oc (.store 3 (ot 4) (ot 14))])
 (.seq (.seq (.ops [oa 16 (.load true 3 (ot 4)),oa 17 (.call (.func 300) [(ot 16)]),om 15 17,oa 18 (.ext (ot 15) 0),oa 19 (.ext (ot 15) 1),oa 5 (.alloc [(.int .u64 0), (.int .u64 0), (.int .u64 0)]), oc (.store 3 (ot 5) (ot 18)),om 6 19])
 (.seq (.ops [om 20 6,oa 21 (.bin .neq (ot 20) (oi 0)),om 22 21,ob 23 (.load true 3 (ot 5)) 22 false,ob 24 (.load true 3 (ot 1)) 22 false,ob 25 (.eqA true [.int, .int, .int] (ot 23) (ot 24)) 22 false,oa 26 (.pick (ot 22) (.const (.bool true)) (ot 25))])
 (.cond (ot 26) (.seq (.ops [oa 27 (.build [(.int .i64 0), (.int .u64 0), (.int .u64 0)] []), oc (.store 3 (ot 2) (ot 27)),oa 3 (.mv (oi 2))])
 .ret)
 .skip)))
 (.seq (.ops [oa 28 (.load true 3 (ot 4)), oc (.store 3 (ot 2) (ot 28)),oa 3 (.mv (oi 0))])
 .ret)))),
 29, [.cell 2 true 3, .tmp 3]⟩
def A267 : FnL := ⟨(.seq (.ops [oa 6 (.mv (.const (.bool false)))])
 (.seq (.ops [om 7 0,om 8 1,oa 9 (.bin .geq (ot 7) (ot 8)),om 10 9,ob 11 (.mv (ot 0)) 10 true,ob 12 (.mv (ot 2)) 10 true,ob 13 (.bin .leq (ot 11) (ot 12)) 10 true,oa 14 (.pick (ot 10) (ot 13) (.const (.bool false))),om 6 14])
 .ret)),
 15, [.tmp 6]⟩
def A268 : FnL := ⟨(.seq (.ops [oa 2 (.mv (.const (.slice none 0 0)))])
 (.seq (.ops [oa 3 (.mv (oi 0))])
 (.seq (.seq (.ops [om 9 0,oa 10 (.len false (ot 9)),oa 11 (.mv (oi 0))])
 (.block 0 (.loop (.seq (.ops [oa 12 (.bin .lss (ot 11) (ot 10))])
 (.seq (.cond (ot 12) .skip
 (.exit 0))
 (.seq (.block 1 (.seq (.ops [oa 13 (.iaddrS 1 (ot 9) (ot 11)),ol 14 13,om 5 14])
 (.seq (.ops [om 15 3,om 16 5,oa 17 (.len false (ot 16)),oa 18 (.bin .add (ot 15) (ot 17)),om 3 18])
 (.seq (.ops [om 19 3,oa 20 (.bin .lss (ot 19) (oi 0))])
 (.cond (ot 20) (.ops [⟨(some 21), .ifc 9 (.const (.string ⟨#[108, 101, 110, 32, 111, 117, 116, 32, 111, 102, 32, 114, 97, 110, 103, 101]⟩)), none⟩, oc (.pan (ot 21))])
 .skip)))))
 (.ops [oa 22 (.bin .add (ot 11) (oi 1)),om 11 22])))))))
 (.seq (.ops [om 23 3,oa 24 (.call (.func 301) [(.const (.slice none 0 0)), (ot 23)]),om 6 24])
 (.seq (.seq (.ops [om 25 0,oa 26 (.len false (ot 25)),oa 27 (.mv (oi 0))])
 (.block 2 (.loop (.seq (.ops [oa 28 (.bin .lss (ot 27) (ot 26))])
 (.seq (.cond (ot 28) .skip
 (.exit 2))
 (.seq (.block 3 (.seq (.ops [oa 29 (.iaddrS 1 (ot 25) (ot 27)),ol 30 29,om 8 30])
 (.ops [om 31 6,om 32 8,oa 33 (.app [(.int .i64 0), (.int .u64 0)] 16 (ot 31) (ot 32)),om 6 33])))
 (.ops [oa 34 (.bin .add (ot 27) (oi 1)),om 27 34])))))))
 (.seq (.ops [om 35 6,om 2 35])
 .ret)))))),
 36, [.tmp 2]⟩
def A281 : FnL := ⟨(.seq (.ops [oa 4 (.mv (ou 0))])
 (.seq (.ops [om 5 1,oa 6 (.call (.func 181) [(ot 5)]),om 4 6])
 .ret)),
 7, [.tmp 4]⟩
def A298 : FnL := ⟨(.seq (.ops [oa 2 (.box (ot 0)),oa 4 (.mv (.const (.bool false)))])
 (.seq (.ops [oa 8 (.load true 3 (ot 2)),om 9 1,oa 10 (.call (.func 321) [(ot 8), (ot 9)]),om 7 10,oa 11 (.ext (ot 7) 0),oa 12 (.ext (ot 7) 1),oa 5 (.alloc [(.int .u64 0), (.slice none 0 0), (.slice none 0 0), (.slice none 0 0), (.bool false)]), oc (.store 5 (ot 5) (ot 11)),om 6 12])
 (.seq (.ops [om 13 6,oa 14 (.bin .eql (ot 13) (oi 0)),om 4 14])
 .ret))),
 15, [.tmp 4]⟩
def A299 : FnL := ⟨(.seq (.ops [ol 6 1,oa 7 (.len false (ot 6)),oa 8 (.mv (oi 0))])
 (.block 0 (.loop (.seq (.ops [oa 9 (.bin .lss (ot 8) (ot 7))])
 (.seq (.cond (ot 9) .skip
 (.exit 0))
 (.seq (.block 1 (.seq (.ops [om 10 8,oa 11 (.iaddrS 1 (ot 6) (ot 8)),ol 12 11,om 4 10,om 5 12])
 (.seq (.ops [ol 13 2,om 14 4,oa 15 (.iaddrS 1 (ot 13) (ot 14)),ol 16 15,om 17 5,oa 18 (.bin .neq (ot 16) (ot 17)),om 19 18,ob 20 (.mv (ot 0)) 19 true,ob 21 (.mv (ot 4)) 19 true,ob 22 (.mv (ot 5)) 19 true,ob 23 (.call (ot 20) [(ot 21), (ot 22)]) 19 true,ob 24 (.un .not (ot 23)) 19 true,oa 25 (.pick (ot 19) (ot 24) (.const (.bool false)))])
 (.cond (ot 25) .ret
 .skip))))
 (.ops [oa 26 (.bin .add (ot 8) (oi 1)),om 8 26]))))))),
 27,[]⟩
def A300 : FnL := ⟨(.seq (.ops [oa 1 (.box (ot 0)),oa 2 (.alloc [(.int .u64 0), (.int .u64 0), (.int .u64 0)]),oa 3 (.mv (oi 0))])
 (.seq (.seq (.ops [og 4 0 1,ol 5 4,oa 6 (.call (.func 212) [(ot 5), (oi 1), (oi 255)]),oa 7 (.un .not (ot 6))])
 (.cond (ot 7) (.seq (.ops [oa 8 (.load true 3 (ot 2)), oc (.store 3 (ot 2) (ot 8)),oa 3 (.mv (oi 1))])
 .ret)
 .skip))
 (.seq (.draw [pg 9 0 1,pl 10 9,oe 11 (.conv .u64 (ot 10)),pg 12 1 1,pl 13 12,pg 14 2 1,pl 15 14,oe 16 (.iaddrA 1 3 (ot 2) (oi 0)), ⟨oc (.store 1 (ot 16) (ot 11)), [ol 13 12,ol 15 14]⟩,oe 17 (.iaddrA 1 3 (ot 2) (oi 1)), ⟨oc (.store 1 (ot 17) (ot 13)), [ol 15 14]⟩,oe 18 (.iaddrA 1 3 (ot 2) (oi 2)), ⟨oc (.store 1 (ot 18) (ot 15)),[]⟩])
 (.seq (.ops [oa 19 (.load true 3 (ot 2)), oc (.store 3 (ot 2) (ot 19)),oa 3 (.mv (oi 0))])
 .ret)))),
 20, [.cell 2 true 3, .tmp 3]⟩
def A301 : FnL := ⟨(.seq (.ops [oa 4 (.mv (.const (.slice none 0 0)))])
 (.seq (.seq (.ops [om 5 1,oa 6 (.bin .lss (ot 5) (oi 0))])
 (.cond (ot 6) (.ops [⟨(some 7), .ifc 9 (.const (.string ⟨#[99, 97, 110, 110, 111, 116, 32, 98, 101, 32, 110, 101, 103, 97, 116, 105, 118, 101]⟩)), none⟩, oc (.pan (ot 7))])
 .skip))
 (.seq (.seq (.ops [om 8 1,om 9 0,oa 10 (.cap (ot 9)),om 11 0,oa 12 (.len false (ot 11)),oa 13 (.bin .sub (ot 10) (ot 12)),oa 14 (.bin .sub (ot 8) (ot 13)),om 1 14])
 (.seq (.ops [om 15 1,oa 16 (.bin .gtr (ot 15) (oi 0))])
 (.cond (ot 16) (.ops [om 17 0,om 18 0,oa 19 (.cap (ot 18)),oa 20 (.slc 2 (ot 17) none (some (ot 19)) none),om 21 1,oa 22 (.appZ [(.int .i64 0), (.int .u64 0)] 16 (ot 20) (ot 21)),om 23 0,oa 24 (.len false (ot 23)),oa 25 (.slc 2 (ot 22) none (some (ot 24)) none),om 0 25])
 .skip)))
 (.seq (.ops [om 26 0,om 4 26])
 .ret)))),
 27, [.tmp 4]⟩
def A321 : FnL := ⟨(.seq (.ops [oa 2 (.box (ot 0)),oa 4 (.alloc [(.int .u64 0), (.slice none 0 0), (.slice none 0 0), (.slice none 0 0), (.bool false)]),oa 5 (.mv (oi 0))])
 (.seq (.block 0 (.seq (.ops [oa 10 (.load true 3 (ot 2)),oa 11 (.call (.func 34) [(ot 10)]),oa 12 (.un .not (ot 11)),om 9 12])
 (.cond (ot 9) (.seq (.ops [oa 13 (.build [(.int .u64 0), (.slice none 0 0), (.slice none 0 0), (.slice none 0 0), (.bool false)] []), oc (.store 5 (ot 4) (ot 13)),oa 5 (.mv (oi 5))])
 .ret)
 (.seq (.ops [om 15 1,oa 16 (.len false (ot 15)),oa 17 (.load true 3 (ot 2)),oa 18 (.call (.func 125) [(ot 17)]),oa 19 (.bin .neq (ot 16) (ot 18)),om 14 19])
 (.cond (ot 14) (.seq (.ops [oa 20 (.build [(.int .u64 0), (.slice none 0 0), (.slice none 0 0), (.slice none 0 0), (.bool false)] []), oc (.store 5 (ot 4) (ot 20)),oa 5 (.mv (oi 2))])
 .ret)
 .skip)))))
 (.seq (.ops [oa 21 (.load true 3 (ot 2)),om 22 1,oa 23 (.call (.func 331) [(ot 21), (ot 22)]),oa 6 (.alloc [(.int .u64 0), (.slice none 0 0), (.slice none 0 0), (.slice none 0 0), (.bool false)]), oc (.store 5 (ot 6) (ot 23))])
 (.seq (.seq (.ops [oa 25 (.load true 3 (ot 2)),oa 26 (.load true 5 (ot 6)),oa 27 (.call (.func 332) [(ot 25), (ot 26)]),om 24 27,oa 28 (.ext (ot 24) 0),oa 29 (.ext (ot 24) 1),om 7 28,om 8 29])
 (.seq (.ops [om 30 8,oa 31 (.bin .neq (ot 30) (oi 0)),om 32 31,ob 33 (.mv (ot 7)) 32 false,ob 34 (.mv (ot 1)) 32 false,ob 35 (.call (.func 234) [(ot 33), (ot 34)]) 32 false,ob 36 (.un .not (ot 35)) 32 false,oa 37 (.pick (ot 32) (.const (.bool true)) (ot 36))])
 (.cond (ot 37) (.seq (.ops [oa 38 (.build [(.int .u64 0), (.slice none 0 0), (.slice none 0 0), (.slice none 0 0), (.bool false)] []), oc (.store 5 (ot 4) (ot 38)),oa 5 (.mv (oi 2))])
 .ret)
 .skip)))
 (.seq (.ops [oa 39 (.load true 5 (ot 6)), oc (.store 5 (ot 4) (ot 39)),oa 5 (.mv (oi 0))])
 .ret))))),
 40, [.cell 4 true 5, .tmp 5]⟩
def A331 : FnL := ⟨(.seq (.ops [oa 2 (.box (ot 0)),oa 4 (.alloc [(.int .u64 0), (.slice none 0 0), (.slice none 0 0), (.slice none 0 0), (.bool false)])])
 (.seq (.seq (.ops [og 8 0 2,ol 9 8])
 (.block 0 (.seq (.ops [oa 11 (.bin .eql (ot 9) (oi 1)),om 10 11])
 (.cond (ot 10) (.ops [om 12 1,oa 13 (.iaddrS 1 (ot 12) (oi 0)),ol 14 13,og 15 0 4, oc (.store 1 (ot 15) (ot 14))])
 (.seq (.seq (.ops [oa 17 (.bin .eql (ot 9) (oi 2)),om 16 17])
 (.cond (ot 16) .skip
 (.ops [oa 18 (.bin .eql (ot 9) (oi 3)),om 16 18])))
 (.cond (ot 16) (.seq (.ops [om 19 1,oa 20 (.len false (ot 19)),oa 21 (.bin .sub (ot 20) (oi 1)),og 22 2 2,ol 23 22,oa 24 (.bin .mul (oi 2) (ot 23)),oa 25 (.bin .quo (ot 21) (ot 24)),om 5 25])
 (.seq (.ops [om 26 1,oa 27 (.slc 1 (ot 26) (some (oi 1)) none none),om 28 5,oa 29 (.call (.func 237) [(ot 27), (ot 28)]),oa 30 (.len false (ot 29)),oa 31 (.mv (oi 0))])
 (.block 1 (.loop (.seq (.ops [oa 32 (.bin .lss (ot 31) (ot 30))])
 (.seq (.cond (ot 32) .skip
 (.exit 1))
 (.seq (.block 2 (.seq (.ops [oa 33 (.iaddrS 2 (ot 29) (ot 31)),oa 34 (.load true 2 (ot 33)),oa 7 (.alloc [(.int .u64 0), (.int .u64 0)]), oc (.store 2 (ot 7) (ot 34))])
 (.seq (.ops [og 35 1 4,ol 36 35,oa 37 (.iaddrA 1 2 (ot 7) (oi 0)),ol 38 37,oa 39 (.bin .sub (ot 38) (ou 1)),oa 40 (.buildS [(.int .u64 0)] 1 [(0, 1, (ot 39))]),oa 41 (.app [(.int .u64 0)] 8 (ot 36) (ot 40)),og 42 1 4, oc (.store 1 (ot 42) (ot 41))])
 (.seq (.ops [om 43 5,oa 44 (.bin .eql (ot 43) (oi 2))])
 (.cond (ot 44) (.ops [og 45 2 4,ol 46 45,oa 47 (.iaddrA 1 2 (ot 7) (oi 1)),ol 48 47,oa 49 (.buildS [(.int .u64 0)] 1 [(0, 1, (ot 48))]),oa 50 (.app [(.int .u64 0)] 8 (ot 46) (ot 49)),og 51 2 4, oc (.store 1 (ot 51) (ot 50))])
 .skip)))))
 (.ops [oa 52 (.bin .add (ot 31) (oi 1)),om 31 52]))))))))
 (.seq (.ops [oa 54 (.bin .eql (ot 9) (oi 4)),om 53 54])
 (.cond (ot 53) (.seq (.ops [om 55 1,oa 56 (.call (.func 345) [(ot 55)]), oc (.store 5 (ot 4) (ot 56))])
 .ret)
 (.seq (.ops [oa 58 (.bin .eql (ot 9) (oi 5)),om 57 58])
 (.cond (ot 57) (.seq (.ops [om 59 1,oa 60 (.iaddrS 1 (ot 59) (oi 0)),ol 61 60,oa 62 (.bin .eql (ot 61) (ou 1)),og 63 4 4, oc (.store 1 (ot 63) (ot 62))])
 (.ops [om 64 1,og 65 2 2,ol 66 65,oa 67 (.bin .add (oi 1) (ot 66)),oa 68 (.slc 1 (ot 64) (some (oi 1)) (some (ot 67)) none),oa 69 (.call (.func 346) [(ot 68), (.func 347)]),og 70 3 4, oc (.store 1 (ot 70) (ot 69))]))
 .skip))))))))))
 (.seq (.ops [oa 71 (.load true 5 (ot 4)), oc (.store 5 (ot 4) (ot 71))])
 .ret))),
 72, [.cell 4 true 5]⟩
def A332 : FnL := ⟨(.seq (.ops [oa 2 (.box (ot 0)),oa 3 (.box (ot 1)),oa 4 (.mv (.const (.slice none 0 0))),oa 5 (.mv (oi 0))])
 (.seq (.block 0 (.seq (.ops [oa 11 (.load true 3 (ot 2)),oa 12 (.call (.func 34) [(ot 11)]),oa 13 (.un .not (ot 12)),om 10 13])
 (.cond (ot 10) (.seq (.ops [oa 4 (.mv (.const (.slice none 0 0))),oa 5 (.mv (oi 5))])
 .ret)
 (.seq (.ops [oa 15 (.load true 3 (ot 2)),oa 16 (.load true 5 (ot 3)),oa 17 (.call (.func 348) [(ot 15), (ot 16)]),oa 18 (.un .not (ot 17)),om 14 18])
 (.cond (ot 14) (.seq (.ops [oa 4 (.mv (.const (.slice none 0 0))),oa 5 (.mv (oi 1))])
 .ret)
 .skip)))))
 (.seq (.ops [oa 19 (.load true 3 (ot 2)),oa 20 (.call (.func 125) [(ot 19)]),oa 21 (.mks [(.int .u64 0)] 8 (ot 20) (ot 20)),oa 6 (.alloc [(.slice none 0 0)]), oc (.store 1 (ot 6) (ot 21))])
 (.seq (.ops [oa 7 (.alloc [(.int .i64 0)]), oc (.store 1 (ot 7) (oi 0))])
 (.seq (.ops [oa 22 (.fn (.func 349) [] [(ot 7), (ot 6)]),om 8 22])
 (.seq (.seq (.ops [og 23 0 2,ol 24 23])
 (.block 1 (.seq (.ops [oa 26 (.bin .eql (ot 24) (oi 1)),om 25 26])
 (.cond (ot 25) (.ops [om 27 8,og 28 0 3,ol 29 28,oa 30 (.buildS [(.int .u64 0)] 1 [(0, 1, (ot 29))]),oa 31 (.call (ot 27) [(ot 30)])])
 (.seq (.seq (.ops [oa 33 (.bin .eql (ot 24) (oi 2)),om 32 33])
 (.cond (ot 32) .skip
 (.ops [oa 34 (.bin .eql (ot 24) (oi 3)),om 32 34])))
 (.cond (ot 32) (.seq (.ops [om 35 8,og 36 1 3,ol 37 36,oa 38 (.len false (ot 37)),oa 39 (.conv .u64 (ot 38)),oa 40 (.buildS [(.int .u64 0)] 1 [(0, 1, (ot 39))]),oa 41 (.call (ot 35) [(ot 40)])])
 (.ops [om 42 8,oa 43 (.load true 3 (ot 2)),oa 44 (.load true 5 (ot 3)),oa 45 (.call (.func 350) [(ot 43), (ot 44)]),oa 46 (.call (ot 42) [(ot 45)])]))
 (.seq (.ops [oa 48 (.bin .eql (ot 24) (oi 4)),om 47 48])
 (.cond (ot 47) (.seq (.ops [om 49 8,og 50 1 3,ol 51 50,oa 52 (.len false (ot 51)),oa 53 (.conv .u64 (ot 52)),oa 54 (.buildS [(.int .u64 0)] 1 [(0, 1, (ot 53))]),oa 55 (.call (ot 49) [(ot 54)])])
 (.ops [om 56 8,oa 57 (.load true 5 (ot 3)),oa 58 (.call (.func 351) [(ot 57)]),oa 59 (.call (ot 56) [(ot 58)])]))
 (.seq (.ops [oa 61 (.bin .eql (ot 24) (oi 5)),om 60 61])
 (.cond (ot 60) (.seq (.ops [oa 9 (.mv (ou 0))])
 (.seq (.seq (.ops [og 62 4 3,ol 63 62])
 (.cond (ot 63) (.ops [oa 9 (.mv (ou 1))])
 .skip))
 (.seq (.ops [om 64 8,om 65 9,oa 66 (.buildS [(.int .u64 0)] 1 [(0, 1, (ot 65))]),oa 67 (.call (ot 64) [(ot 66)])])
 (.ops [om 68 8,oa 69 (.load true 5 (ot 3)),oa 70 (.call (.func 352) [(ot 69)]),oa 71 (.call (ot 68) [(ot 70)])]))))
 .skip))))))))))
 (.seq (.ops [ol 72 6,om 4 72,oa 5 (.mv (oi 0))])
 .ret))))))),
 73, [.tmp 4, .tmp 5]⟩
def A348 : FnL := ⟨(.seq (.ops [oa 2 (.box (ot 0)),oa 3 (.box (ot 1)),oa 4 (.mv (.const (.bool false)))])
 (.seq (.ops [oa 8 (.load true 3 (ot 2)),oa 9 (.load true 5 (ot 3)),oa 10 (.call (.func 361) [(ot 8), (ot 9)]),om 7 10,oa 11 (.ext (ot 7) 0),oa 12 (.ext (ot 7) 1),om 5 11,om 6 12])
 (.seq (.ops [om 13 6,oa 14 (.bin .eql (ot 13) (oi 0)),om 4 14])
 .ret))),
 15, [.tmp 4]⟩
def A349 : FnL := ⟨(.draw [pl 4 1,pl 5 2,pl 6 1,oe 7 (.slc 1 (ot 5) (some (ot 6)) none none),pm 8 0, ⟨oa 9 (.cpy 1 (ot 7) (ot 8)), [ol 4 1]⟩,oe 10 (.bin .add (ot 4) (ot 9)), ⟨oc (.store 1 (ot 1) (ot 10)),[]⟩]),
 11,[]⟩
def A361 : FnL := ⟨(.seq (.ops [oa 2 (.box (ot 0)),oa 3 (.box (ot 1)),oa 4 (.mv (.const .nilIface)),oa 5 (.mv (oi 0))])
 (.seq (.ops [oa 7 (.load true 3 (ot 2)),oa 8 (.call (.func 370) [(ot 7)]),om 6 8])
 (.seq (.block 0 (.seq (.ops [om 10 6,oa 11 (.isn false (ot 10)),om 9 11])
 (.cond (ot 9) (.seq (.ops [oa 4 (.mv (.const .nilIface)),oa 5 (.mv (oi 5))])
 .ret)
 (.seq (.ops [oa 13 (.load true 3 (ot 2)),oa 14 (.load true 5 (ot 3)),oa 15 (.call (.func 371) [(ot 13), (ot 14)]),oa 16 (.un .not (ot 15)),om 17 16,ob 18 (.mv (ot 6)) 17 false,ob 19 (.load true 5 (ot 3)) 17 false, ⟨(some 20), .call (.const (.tuple #[(.pointer (some ⟨365, 391, none⟩)), (.bool true), (.pointer (some ⟨368, 397, none⟩)), (.map (some 0)), (.pointer (some ⟨373, 397, none⟩)), (.map (some 0)), (.pointer (some ⟨376, 406, none⟩)), (.bool true), (.pointer (some ⟨399, 397, none⟩)), (.bool true)])) [(ot 18), (ot 19)],(some (17, false))⟩,ob 21 (.un .not (ot 20)) 17 false,oa 22 (.pick (ot 17) (.const (.bool true)) (ot 21)),om 12 22])
 (.cond (ot 12) (.seq (.ops [oa 4 (.mv (.const .nilIface)),oa 5 (.mv (oi 1))])
 .ret)
 .skip)))))
 (.seq (.ops [om 23 6,om 4 23,oa 5 (.mv (oi 0))])
 .ret)))),
 24, [.tmp 4, .tmp 5]⟩
def A370 : FnL := ⟨(.seq (.ops [oa 1 (.box (ot 0)),oa 2 (.mv (.const .nilIface))])
 (.seq (.seq (.ops [oa 4 (.load true 3 (ot 1)),oa 5 (.call (.func 34) [(ot 4)]),oa 6 (.un .not (ot 5))])
 (.cond (ot 6) (.seq (.ops [oa 2 (.mv (.const .nilIface))])
 .ret)
 .skip))
 (.seq (.ops [oa 3 (.mv (.func 372))])
 (.seq (.seq (.ops [og 7 0 1,ol 8 7])
 (.block 0 (.seq (.ops [oa 10 (.bin .eql (ot 8) (oi 1)),om 9 10])
 (.cond (ot 9) (.seq (.ops [oa 11 (.build [(.int .u64 0)] []),oa 12 (.box (ot 11)),oa 13 (.ifc 365 (ot 12)),om 2 13])
 .ret)
 (.seq (.ops [oa 15 (.bin .eql (ot 8) (oi 2)),om 14 15])
 (.cond (ot 14) (.seq (.ops [og 16 2 1,ol 17 16,om 18 3,oa 19 (.build [(.int .i64 0), (.slice none 0 0), (.slice none 0 0), (.bool false), .nilFunc, .nilFunc] [(0, 1, (ot 17)), (4, 1, (ot 18))]),oa 20 (.build [(.int .i64 0), (.slice none 0 0), (.slice none 0 0), (.bool false), .nilFunc, .nilFunc] [(0, 6, (ot 19))]),oa 21 (.box (ot 20)),oa 22 (.ifc 368 (ot 21)),om 2 22])
 .ret)
 (.seq (.ops [oa 24 (.bin .eql (ot 8) (oi 3)),om 23 24])
 (.cond (ot 23) (.seq (.ops [og 25 2 1,ol 26 25,om 27 3,oa 28 (.build [(.int .i64 0), (.slice none 0 0), (.slice none 0 0), (.bool false), .nilFunc, .nilFunc] [(0, 1, (ot 26)), (4, 1, (ot 27)), (3, 1, (.const (.bool true)))]),oa 29 (.build [(.int .i64 0), (.slice none 0 0), (.slice none 0 0), (.bool false), .nilFunc, .nilFunc, (.int .u64 0)] [(0, 6, (ot 28))]),oa 30 (.box (ot 29)),oa 31 (.ifc 373 (ot 30)),om 2 31])
 .ret)
 (.seq (.ops [oa 33 (.bin .eql (ot 8) (oi 4)),om 32 33])
 (.cond (ot 32) (.seq (.ops [og 34 2 1,ol 35 34,oa 36 (.build [(.int .i64 0), (.slice none 0 0), (.slice none 0 0), (.bool false), .nilFunc, .nilFunc] [(0, 1, (ot 35)), (4, 1, (.func 254)), (5, 1, (.func 181)), (3, 1, (.const (.bool true)))]),oa 37 (.build [(.int .i64 0), (.slice none 0 0), (.slice none 0 0), (.bool false), .nilFunc, .nilFunc, (.int .u64 0)] [(0, 6, (ot 36)), (6, 1, (ou 18442240474082181120))]),oa 38 (.box (ot 37)),oa 39 (.ifc 373 (ot 38)),om 2 39])
 .ret)
 .skip))))))))))
 (.seq (.ops [og 40 2 1,ol 41 40,oa 42 (.mks [(.int .i64 0)] 8 (ot 41) (ot 41)),oa 43 (.build [(.slice none 0 0), (.bool false)] [(0, 1, (ot 42))]),oa 44 (.box (ot 43)),oa 45 (.ifc 376 (ot 44)),om 2 45])
 .ret))))),
 46, [.tmp 2]⟩
def A371 : FnL := ⟨(.seq (.ops [oa 2 (.box (ot 0)),oa 3 (.box (ot 1)),oa 4 (.mv (.const (.bool false)))])
 (.seq (.ops [oa 6 (.fn (.func 373) [] [(ot 2)]),om 5 6])
 (.seq (.ops [om 7 5,oa 8 (.buildS [(.int .i64 0)] 1 [(0, 1, (oi 1))]),oa 9 (.call (ot 7) [(ot 8)]),om 10 9,ob 11 (.faddr 0 (ot 3)) 10 false,ob 12 (.load false 1 (ot 11)) 10 false,ob 13 (.bin .eql (ot 12) (ou 0)) 10 false,oa 14 (.pick (ot 10) (.const (.bool true)) (ot 13)),om 15 14,ob 16 (.mv (ot 5)) 15 true,ob 17 (.buildS [(.int .i64 0), (.int .i64 0), (.int .i64 0)] 3 [(0, 1, (oi 2)), (1, 1, (oi 3)), (2, 1, (oi 4))]) 15 true,ob 18 (.call (ot 16) [(ot 17)]) 15 true,ob 19 (.mv (ot 18)) 15 true,ob 20 (.faddr 1 (ot 3)) 19 false,ob 21 (.load false 1 (ot 20)) 19 false,ob 22 (.len false (ot 21)) 19 false,ob 23 (.faddr 2 (ot 3)) 19 false,ob 24 (.load false 1 (ot 23)) 19 false,ob 25 (.len false (ot 24)) 19 false,ob 26 (.bin .add (ot 22) (ot 25)) 19 false,ob 27 (.bin .eql (ot 26) (oi 0)) 19 false,ob 28 (.pick (ot 19) (.const (.bool true)) (ot 27)) 15 true,oa 29 (.pick (ot 15) (ot 28) (.const (.bool false))),om 30 29,ob 31 (.mv (ot 5)) 30 true,ob 32 (.buildS [(.int .i64 0)] 1 [(0, 1, (oi 5))]) 30 true,ob 33 (.call (ot 31) [(ot 32)]) 30 true,ob 34 (.mv (ot 33)) 30 true,ob 35 (.faddr 3 (ot 3)) 34 false,ob 36 (.load false 1 (ot 35)) 34 false,ob 37 (.len false (ot 36)) 34 false,ob 38 (.bin .eql (ot 37) (oi 0)) 34 false,ob 39 (.mv (ot 38)) 34 false,ob 40 (.faddr 4 (ot 3)) 39 true,ob 41 (.load false 1 (ot 40)) 39 true,ob 42 (.un .not (ot 41)) 39 true,ob 43 (.pick (ot 39) (ot 42) (.const (.bool false))) 34 false,ob 44 (.pick (ot 34) (.const (.bool true)) (ot 43)) 30 true,oa 45 (.pick (ot 30) (ot 44) (.const (.bool false))),om 4 45])
 .ret))),
 46, [.tmp 4]⟩
def A373 : FnL := ⟨(.seq (.ops [oa 3 (.mv (.const (.bool false)))])
 (.seq (.ops [om 4 0,og 5 0 1,ol 6 5,oa 7 (.call (.func 149) [(ot 4), (ot 6)]),om 3 7])
 .ret)),
 8, [.tmp 3]⟩
def A391 : FnL := ⟨(.seq (.ops [oa 3 (.box (ot 1)),oa 4 (.mv (.const (.bool false)))])
 (.seq (.ops [om 5 0,og 6 0 3,ol 7 6,oa 8 (.nilck (ot 5)),og 9 0 8, oc (.store 1 (ot 9) (ot 7))])
 (.seq (.draw [pg 10 0 3,pl 11 10,pg 13 0 3,pl 14 13, ⟨oa 12 (.call (.func 181) [(ot 11)]), [ol 14 13]⟩,oe 15 (.bin .eql (ot 12) (ot 14)),pm 4 15])
 .ret))),
 16, [.tmp 4]⟩
def A199 : FnC := ⟨(some 5), (.block 0 (.seq (.ops [oa 7 (.isn false (ot 5))])
 (.cond (ot 7) (.ops [om 2 5])
 (.seq (.ops [oa 8 (.tass 271 (.agg #[(.int .i64 0)]) (ot 5)),oa 9 (.ext (ot 8) 1),oa 10 (.ext (ot 8) 0)])
 (.cond (ot 9) (.seq (.ops [oa 3 (.alloc [(.int .i64 0)]), oc (.store 1 (ot 3) (ot 10))])
 (.ops [om 11 0,og 12 0 3,ol 13 12,oa 14 (.nilck (ot 11)), oc (.store 1 (ot 14) (ot 13))]))
 (.seq (.ops [om 4 5])
 (.ops [om 6 4, oc (.pan (ot 6))]))))))),
 15,[]⟩
def A209 : FnC := ⟨(some 5), (.block 0 (.seq (.ops [oa 7 (.isn false (ot 5))])
 (.cond (ot 7) (.ops [om 2 5])
 (.seq (.ops [oa 8 (.tass 281 (.agg #[(.int .i64 0)]) (ot 5)),oa 9 (.ext (ot 8) 1),oa 10 (.ext (ot 8) 0)])
 (.cond (ot 9) (.seq (.ops [oa 3 (.alloc [(.int .i64 0)]), oc (.store 1 (ot 3) (ot 10))])
 (.ops [om 11 0,og 12 0 3,ol 13 12,oa 14 (.nilck (ot 11)), oc (.store 1 (ot 14) (ot 13))]))
 (.seq (.ops [om 4 5])
 (.ops [om 6 4, oc (.pan (ot 6))]))))))),
 15,[]⟩
def CT : Nat → Option Fn3
  | 9 => some (.l A9)
  | 14 => some (.l A14)
  | 16 => some (.l A16)
  | 18 => some (.l A18)
  | 20 => some (.l A20)
  | 22 => some (.l A22)
  | 23 => some (.g [([.agg #[.int .i64 1, .int .i64 1, .int .i64 1], .int .i64 0], .tuple #[.int .i64 0, .int .i64 0, .int .i64 0]), ([.agg #[.int .i64 1, .int .i64 1, .int .i64 1], .int .i64 1], .tuple #[.int .i64 1, .int .i64 0, .int .i64 0]), ([.agg #[.int .i64 1, .int .i64 1, .int .i64 1], .int .i64 2], .tuple #[.int .i64 1, .int .i64 0, .int .i64 1]), ([.agg #[.int .i64 1, .int .i64 1, .int .i64 1], .int .i64 3], .tuple #[.int .i64 1, .int .i64 0, .int .i64 2]), ([.agg #[.int .i64 1, .int .i64 1, .int .i64 1], .int .i64 4], .tuple #[.int .i64 2, .int .i64 0, .int .i64 0]), ([.agg #[.int .i64 1, .int .i64 1, .int .i64 1], .int .i64 5], .tuple #[.int .i64 2, .int .i64 0, .int .i64 1]), ([.agg #[.int .i64 1, .int .i64 1, .int .i64 1], .int .i64 6], .tuple #[.int .i64 3, .int .i64 0, .int .i64 0]), ([.agg #[.int .i64 1, .int .i64 1, .int .i64 1], .int .i64 7], .tuple #[.int .i64 3, .int .i64 0, .int .i64 1]), ([.agg #[.int .i64 1, .int .i64 1, .int .i64 1], .int .i64 8], .tuple #[.int .i64 3, .int .i64 0, .int .i64 2]), ([.agg #[.int .i64 1, .int .i64 1, .int .i64 1], .int .i64 9], .tuple #[.int .i64 3, .int .i64 0, .int .i64 3]), ([.agg #[.int .i64 1, .int .i64 1, .int .i64 1], .int .i64 10], .tuple #[.int .i64 3, .int .i64 0, .int .i64 4]), ([.agg #[.int .i64 1, .int .i64 1, .int .i64 1], .int .i64 11], .tuple #[.int .i64 3, .int .i64 0, .int .i64 5]), ([.agg #[.int .i64 1, .int .i64 1, .int .i64 1], .int .i64 12], .tuple #[.int .i64 3, .int .i64 0, .int .i64 6]), ([.agg #[.int .i64 1, .int .i64 1, .int .i64 1], .int .i64 13], .tuple #[.int .i64 4, .int .i64 0, .int .i64 0])])
  | 26 => some (.g [([.agg #[.int .i64 1, .int .i64 1, .int .i64 1], .int .i64 0, .int .i64 0], .tuple #[.int .i64 0, .int .i64 0]), ([.agg #[.int .i64 1, .int .i64 1, .int .i64 1], .int .i64 1, .int .i64 0], .tuple #[.int .i64 1, .int .i64 0]), ([.agg #[.int .i64 1, .int .i64 1, .int .i64 1], .int .i64 2, .int .i64 0], .tuple #[.int .i64 4, .int .i64 0]), ([.agg #[.int .i64 1, .int .i64 1, .int .i64 1], .int .i64 3, .int .i64 0], .tuple #[.int .i64 6, .int .i64 0]), ([.agg #[.int .i64 1, .int .i64 1, .int .i64 1], .int .i64 4, .int .i64 0], .tuple #[.int .i64 13, .int .i64 0])])
  | 30 => some (.l A30)
  | 34 => some (.g [([.agg #[.int .i64 1, .int .i64 1, .int .i64 1]], .bool true)])
  | 35 => some (.l A35)
  | 36 => some (.l A36)
  | 37 => some (.l A37)
  | 38 => some (.l A38)
  | 39 => some (.l A39)
  | 44 => some (.g [([.agg #[.int .i64 1, .int .i64 1, .int .i64 1]], .int .i64 14)])
  | 45 => some (.l A45)
  | 46 => some (.l A46)
  | 47 => some (.l A47)
  | 59 => some (.l A59)
  | 62 => some (.l A62)
  | 64 => some (.l A64)
  | 65 => some (.g [([.agg #[.int .i64 1, .int .i64 1, .int .i64 1]], .int .i64 7)])
  | 66 => some (.l A66)
  | 67 => some (.l A67)
  | 68 => some (.l A68)
  | 69 => some (.l A69)
  | 70 => some (.l A70)
  | 74 => some (.l A74)
  | 75 => some (.l A75)
  | 76 => some (.l A76)
  | 77 => some (.l A77)
  | 78 => some (.l A78)
  | 79 => some (.l A79)
  | 80 => some (.l A80)
  | 81 => some (.l A81)
  | 82 => some (.l A82)
  | 84 => some (.l A84)
  | 85 => some (.l A85)
  | 86 => some (.l A86)
  | 87 => some (.l A87)
  | 88 => some (.l A88)
  | 89 => some (.l A89)
  | 90 => some (.l A90)
  | 92 => some (.l A92)
  | 93 => some (.l A93)
  | 94 => some (.l A94)
  | 95 => some (.l A95)
  | 96 => some (.l A96)
  | 98 => some (.l A98)
  | 99 => some (.l A99)
  | 100 => some (.l A100)
  | 101 => some (.l A101)
  | 102 => some (.l A102)
  | 103 => some (.l A103)
  | 104 => some (.l A104)
  | 105 => some (.l A105)
  | 125 => some (.g [([.agg #[.int .i64 1, .int .i64 1, .int .i64 1]], .int .i64 1)])
  | 132 => some (.l A132)
  | 133 => some (.l A133)
  | 134 => some (.l A134)
  | 139 => some (.l A139)
  | 140 => some (.d A140 A199)
  | 141 => some (.l A141)
  | 142 => some (.l A142)
  | 143 => some (.d A143 A199)
  | 144 => some (.l A144)
  | 145 => some (.l A145)
  | 146 => some (.l A146)
  | 147 => some (.l A147)
  | 148 => some (.l A148)
  | 149 => some (.l A149)
  | 150 => some (.d A150 A209)
  | 151 => some (.d A151 A199)
  | 152 => some (.l A152)
  | 153 => some (.d A153 A199)
  | 154 => some (.l A154)
  | 155 => some (.d A155 A199)
  | 156 => some (.d A156 A209)
  | 157 => some (.d A157 A199)
  | 158 => some (.l A158)
  | 159 => some (.l A159)
  | 160 => some (.l A160)
  | 161 => some (.l A161)
  | 181 => some (.l A181)
  | 182 => some (.l A182)
  | 200 => some (.l A200)
  | 201 => some (.l A201)
  | 202 => some (.l A202)
  | 203 => some (.l A203)
  | 204 => some (.l A204)
  | 205 => some (.l A205)
  | 206 => some (.l A206)
  | 207 => some (.l A207)
  | 208 => some (.l A208)
  | 210 => some (.l A210)
  | 211 => some (.l A211)
  | 212 => some (.l A212)
  | 213 => some (.l A213)
  | 214 => some (.l A214)
  | 231 => some (.l A231)
  | 234 => some (.l A234)
  | 260 => some (.l A260)
  | 261 => some (.l A261)
  | 262 => some (.l A262)
  | 263 => some (.l A263)
  | 264 => some (.l A264)
  | 265 => some (.l A265)
  | 266 => some (.l A266)
  | 267 => some (.l A267)
  | 268 => some (.l A268)
  | 281 => some (.l A281)
  | 298 => some (.l A298)
  | 299 => some (.l A299)
  | 300 => some (.l A300)
  | 301 => some (.l A301)
  | 321 => some (.l A321)
  | 331 => some (.l A331)
  | 332 => some (.l A332)
  | 348 => some (.l A348)
  | 349 => some (.l A349)
  | 361 => some (.l A361)
  | 370 => some (.l A370)
  | 371 => some (.l A371)
  | 373 => some (.l A373)
  | 391 => some (.l A391)
  | _ => none
def seqL : LC → LC | .seq a _ => a | c => c
def seqR : LC → LC | .seq _ b => b | c => c
def blkB : LC → LC | .block _ b => b | c => c
def lopB : LC → LC | .loop b => b | c => c
def DD9 : Nat → List Nat
  | 96 => [4, 5, 6, 7, 8, 10, 11, 12, 13, 14, 15, 16, 17, 18, 19, 20, 21, 22, 23, 24, 25, 26, 27, 28, 29, 30, 31, 32, 33, 34, 35, 36, 37, 38, 39, 40, 41, 42, 43, 44, 45, 46, 47, 48, 49, 50, 51, 52, 53, 54, 55, 56, 57, 58, 59, 60, 61, 62, 63, 64, 65, 66, 67, 68, 69, 70, 71, 72, 73, 74, 75, 76, 77, 78, 79, 80, 81, 82, 83, 84, 85, 86, 87, 88, 89, 90, 91, 92, 93, 94, 95]
  | _ => []
def EG : CEnv := ⟨cenv CT (fun _ => true) DD9 400 39 noY, noY, fun k Y' => cenv CT (fun _ => true) DD9 400 39 Y' k, DD9⟩
abbrev zi (n : Int) : Value := .int .i64 n
abbrev zu (n : Int) : Value := .int .u64 n
abbrev zp (b o : Nat) : Value := .pointer (some ⟨b, o, none⟩)
abbrev zs (b o n c : Nat) : Value := .slice (some ⟨b, o, none⟩) n c
abbrev zz : Value := .tuple #[]
end Go.Proofs.YtbpaekbjpapgeaaGreatDoor.K
namespace Go.Proofs.YtbpaekbjpapgeaaGreatDoor.K
set_option maxRecDepth 1000000
def S0 : CS := ⟨[zz, zz, zz, zz, zz, zz, zz, zz, zz, zz, zz, zz, zz, zz, zz, zz, zz, zz, zz, zz, zz, zz, zz, zz, zz, zz, zz, zz, zz, zz, zz, zz, zz, zz, zz, zz, zz, zz, zz, zz, zz, zz, zz, zz, zz, zz, zz, zz, zz, zz, zz, zz, zz, zz, zz, zz, zz, zz, zz, zz, zz, zz, zz, zz, zz, zz, zz, zz, zz, zz, zz, zz, zz, zz, zz, zz, zz, zz, zz, zz, zz, zz, zz, zz, zz, zz, zz, zz, zz, zz, zz, zz, zz, zz, zz, zz], [], 0⟩
def S1 : CS := ⟨[.bool false, zz, zz, zz, zz, zz, zz, zz, zz, zz, zz, zz, zz, zz, zz, zz, zz, zz, zz, zz, zz, zz, zz, zz, zz, zz, zz, zz, zz, zz, zz, zz, zz, zz, zz, zz, zz, zz, zz, zz, zz, zz, zz, zz, zz, zz, zz, zz, zz, zz, zz, zz, zz, zz, zz, zz, zz, zz, zz, zz, zz, zz, zz, zz, zz, zz, zz, zz, zz, zz, zz, zz, zz, zz, zz, zz, zz, zz, zz, zz, zz, zz, zz, zz, zz, zz, zz, zz, zz, zz, zz, zz, zz, zz, zz, zz], [], 0⟩
def S2 : CS := ⟨[.bool false, zp 0 0, zz, zz, zz, zz, zz, zz, zz, zz, zz, zz, zz, zz, .agg ⟨[zi 1, zi 1, zi 1]⟩, zz, zz, zz, zz, zz, zz, zz, zz, zz, zz, zz, zz, zz, zz, zz, zz, zz, zz, zz, zz, zz, zz, zz, zz, zz, zz, zz, zz, zz, zz, zz, zz, zz, zz, zz, zz, zz, zz, zz, zz, zz, zz, zz, zz, zz, zz, zz, zz, zz, zz, zz, zz, zz, zz, zz, zz, zz, zz, zz, zz, zz, zz, zz, zz, zz, zz, zz, zz, zz, zz, zz, zz, zz, zz, zz, zz, zz, zz, zz, zz, zz], [(0, .cells [zi 1, zi 1, zi 1] 3)], 1⟩
def S3 : CS := ⟨[.bool false, zp 0 0, zp 30 0, zz, zz, zz, zz, zz, zz, zz, zz, zz, zz, zz, .agg ⟨[zi 1, zi 1, zi 1]⟩, .agg ⟨[zi 1, zi 1, zi 1]⟩, zs 1 0 1 1, .agg ⟨[zs 13 0 14 14]⟩, zz, zz, zz, zz, zz, zz, zz, zz, zz, zz, zz, zz, zz, zz, zz, zz, zz, zz, zz, zz, zz, zz, zz, zz, zz, zz, zz, zz, zz, zz, zz, zz, zz, zz, zz, zz, zz, zz, zz, zz, zz, zz, zz, zz, zz, zz, zz, zz, zz, zz, zz, zz, zz, zz, zz, zz, zz, zz, zz, zz, zz, zz, zz, zz, zz, zz, zz, zz, zz, zz, zz, zz, zz, zz, zz, zz, zz, zz], [(30, .cells [zs 13 0 14 14] 1), (14, .cells [zs 13 0 14 14] 1), (13, .cells [zu 0, zi 0, zu 0, zi 0, zu 0, zi 0, zu 0, zi 0, zu 0, zi 0, zu 0, zi 0, zu 0, zi 0, zu 0, zi 0, zu 0, zi 0, zu 0, zi 0, zu 0, zi 0, zu 0, zi 0, zu 0, zi 0, zu 0, zi 0] 28), (3, .cells [zs 13 0 14 14] 1), (2, .cells [zi 1, zi 1, zi 1] 3), (1, .cells [zu 0] 1), (0, .cells [zi 1, zi 1, zi 1] 3)], 31⟩
def S4 : CS := ⟨[.bool false, zp 0 0, zp 30 0, zp 38 0, zi 0, zz, zz, zz, zz, zz, zz, zz, zz, zz, .agg ⟨[zi 1, zi 1, zi 1]⟩, .agg ⟨[zi 1, zi 1, zi 1]⟩, zs 1 0 1 1, .agg ⟨[zs 13 0 14 14]⟩, .tuple ⟨[.agg ⟨[zi 1, zi 2, zu 0, zu 5, zu 0, zi 0, zi 0, zi 0, zi 0, zi 0, zu 0, .bool false, .slice none 0 0]⟩, zi 0]⟩, .agg ⟨[zi 1, zi 1, zi 1]⟩, .agg ⟨[zi 0, zi 0, zu 0, zu 0, zu 0, zi 0, zi 0, zi 0, zi 0, zi 0, zu 0, .bool false, .slice none 0 0]⟩, .agg ⟨[zi 2, zu 0, zu 5]⟩, .tuple ⟨[.agg ⟨[zi 1, zi 2, zu 0, zu 5, zu 0, zi 0, zi 0, zi 0, zi 0, zi 0, zu 0, .bool false, .slice none 0 0]⟩, zi 0]⟩, .agg ⟨[zi 1, zi 2, zu 0, zu 5, zu 0, zi 0, zi 0, zi 0, zi 0, zi 0, zu 0, .bool false, .slice none 0 0]⟩, zi 0, zz, zz, zz, zz, zz, zz, zz, zz, zz, zz, zz, zz, zz, zz, zz, zz, zz, zz, zz, zz, zz, zz, zz, zz, zz, zz, zz, zz, zz, zz, zz, zz, zz, zz, zz, zz, zz, zz, zz, zz, zz, zz, zz, zz, zz, zz, zz, zz, zz, zz, zz, zz, zz, zz, zz, zz, zz, zz, zz, zz, zz, zz, zz, zz, zz, zz, zz, zz, zz, zz, zz], [(38, .cells [zi 1, zi 2, zu 0, zu 5, zu 0, zi 0, zi 0, zi 0, zi 0, zi 0, zu 0, .bool false, .slice none 0 0] 13), (37, .cells [zi 0, zi 0, zu 0, zu 0, zu 0, zi 0, zi 0, zi 0, zi 0, zi 0, zu 0, .bool false, .slice none 0 0] 13), (36, .cells [zi 0, zi 0, zu 0, zu 0, zu 0, zi 0, zi 0, zi 0, zi 0, zi 0, zu 0, .bool false, .slice none 0 0] 13), (35, .cells [zi 1, zi 1, zi 1] 3), (34, .cells [zi 1, zi 2, zu 0, zu 5, zu 0, zi 0, zi 0, zi 0, zi 0, zi 0, zu 0, .bool false, .slice none 0 0] 13), (33, .cells [zi 2, zu 0, zu 5] 3), (32, .cells [zi 0, zi 0, zu 0, zu 0, zu 0, zi 0, zi 0, zi 0, zi 0, zi 0, zu 0, .bool false, .slice none 0 0] 13), (31, .cells [zi 1, zi 1, zi 1] 3), (30, .cells [zs 13 0 14 14] 1), (14, .cells [zs 13 0 14 14] 1), (13, .cells [zu 0, zi 0, zu 0, zi 0, zu 0, zi 0, zu 0, zi 0, zu 0, zi 0, zu 0, zi 0, zu 0, zi 0, zu 0, zi 0, zu 0, zi 0, zu 0, zi 0, zu 0, zi 0, zu 0, zi 0, zu 0, zi 0, zu 0, zi 0] 28), (3, .cells [zs 13 0 14 14] 1), (2, .cells [zi 1, zi 1, zi 1] 3), (1, .cells [zu 0] 1), (0, .cells [zi 1, zi 1, zi 1] 3)], 39⟩
def S5 : CS := ⟨[.bool false, zp 0 0, zp 30 0, zp 38 0, zi 0, zp 51 0, zi 20, zz, zz, zz, zz, zz, zz, zz, .agg ⟨[zi 1, zi 1, zi 1]⟩, .agg ⟨[zi 1, zi 1, zi 1]⟩, zs 1 0 1 1, .agg ⟨[zs 13 0 14 14]⟩, .tuple ⟨[.agg ⟨[zi 1, zi 2, zu 0, zu 5, zu 0, zi 0, zi 0, zi 0, zi 0, zi 0, zu 0, .bool false, .slice none 0 0]⟩, zi 0]⟩, .agg ⟨[zi 1, zi 1, zi 1]⟩, .agg ⟨[zi 0, zi 0, zu 0, zu 0, zu 0, zi 0, zi 0, zi 0, zi 0, zi 0, zu 0, .bool false, .slice none 0 0]⟩, .agg ⟨[zi 2, zu 0, zu 5]⟩, .tuple ⟨[.agg ⟨[zi 1, zi 2, zu 0, zu 5, zu 0, zi 0, zi 0, zi 0, zi 0, zi 0, zu 0, .bool false, .slice none 0 0]⟩, zi 0]⟩, .agg ⟨[zi 1, zi 2, zu 0, zu 5, zu 0, zi 0, zi 0, zi 0, zi 0, zi 0, zu 0, .bool false, .slice none 0 0]⟩, zi 0, .tuple ⟨[.agg ⟨[zi 0, zi 0, zu 0, zu 0, zu 0, zi 0, zi 0, zi 0, zi 0, zi 0, zu 0, .bool false, .slice none 0 0]⟩, zi 20]⟩, .agg ⟨[zi 1, zi 1, zi 1]⟩, .agg ⟨[zi 1, zi 2, zu 0, zu 5, zu 0, zi 0, zi 0, zi 0, zi 0, zi 0, zu 0, .bool false, .slice none 0 0]⟩, .agg ⟨[zi 1, zu 0, zu 0]⟩, .tuple ⟨[.agg ⟨[zi 0, zi 0, zu 0, zu 0, zu 0, zi 0, zi 0, zi 0, zi 0, zi 0, zu 0, .bool false, .slice none 0 0]⟩, zi 20]⟩, .agg ⟨[zi 0, zi 0, zu 0, zu 0, zu 0, zi 0, zi 0, zi 0, zi 0, zi 0, zu 0, .bool false, .slice none 0 0]⟩, zi 20, zz, zz, zz, zz, zz, zz, zz, zz, zz, zz, zz, zz, zz, zz, zz, zz, zz, zz, zz, zz, zz, zz, zz, zz, zz, zz, zz, zz, zz, zz, zz, zz, zz, zz, zz, zz, zz, zz, zz, zz, zz, zz, zz, zz, zz, zz, zz, zz, zz, zz, zz, zz, zz, zz, zz, zz, zz, zz, zz, zz, zz, zz, zz, zz], [(51, .cells [zi 0, zi 0, zu 0, zu 0, zu 0, zi 0, zi 0, zi 0, zi 0, zi 0, zu 0, .bool false, .slice none 0 0] 13), (50, .cells [zi 1, zi 2, zu 0, zu 5, zu 0, zi 0, zi 0, zi 0, zi 0, zi 0, zu 0, .bool false, .slice none 0 0] 13), (49, .cells [zi 1, zi 1, zi 1] 3), (48, .cells [zi 1, zi 2, zu 0, zu 5, zu 0, zi 0, zi 0, zi 0, zi 0, zi 0, zu 0, .bool false, .slice none 0 0] 13), (47, .cells [zi 1, zi 2, zu 0, zu 5, zu 0, zi 0, zi 0, zi 0, zi 0, zi 0, zu 0, .bool false, .slice none 0 0] 13), (46, .cells [zi 1, zi 1, zi 1] 3), (45, .cells [zi 1, zi 2, zu 0, zu 5, zu 0, zi 0, zi 0, zi 0, zi 0, zi 0, zu 0, .bool false, .slice none 0 0] 13), (44, .cells [zi 1, zi 2, zu 0, zu 5, zu 0, zi 0, zi 0, zi 0, zi 0, zi 0, zu 0, .bool false, .slice none 0 0] 13), (43, .cells [zi 1, zi 1, zi 1] 3), (42, .cells [zi 0, zi 0, zu 0, zu 0, zu 0, zi 0, zi 0, zi 0, zi 0, zi 0, zu 0, .bool false, .slice none 0 0] 13), (41, .cells [zi 1, zu 0, zu 0] 3), (40, .cells [zi 1, zi 2, zu 0, zu 5, zu 0, zi 0, zi 0, zi 0, zi 0, zi 0, zu 0, .bool false, .slice none 0 0] 13), (39, .cells [zi 1, zi 1, zi 1] 3), (38, .cells [zi 1, zi 2, zu 0, zu 5, zu 0, zi 0, zi 0, zi 0, zi 0, zi 0, zu 0, .bool false, .slice none 0 0] 13), (37, .cells [zi 0, zi 0, zu 0, zu 0, zu 0, zi 0, zi 0, zi 0, zi 0, zi 0, zu 0, .bool false, .slice none 0 0] 13), (36, .cells [zi 0, zi 0, zu 0, zu 0, zu 0, zi 0, zi 0, zi 0, zi 0, zi 0, zu 0, .bool false, .slice none 0 0] 13), (35, .cells [zi 1, zi 1, zi 1] 3), (34, .cells [zi 1, zi 2, zu 0, zu 5, zu 0, zi 0, zi 0, zi 0, zi 0, zi 0, zu 0, .bool false, .slice none 0 0] 13), (33, .cells [zi 2, zu 0, zu 5] 3), (32, .cells [zi 0, zi 0, zu 0, zu 0, zu 0, zi 0, zi 0, zi 0, zi 0, zi 0, zu 0, .bool false, .slice none 0 0] 13), (31, .cells [zi 1, zi 1, zi 1] 3), (30, .cells [zs 13 0 14 14] 1), (14, .cells [zs 13 0 14 14] 1), (13, .cells [zu 0, zi 0, zu 0, zi 0, zu 0, zi 0, zu 0, zi 0, zu 0, zi 0, zu 0, zi 0, zu 0, zi 0, zu 0, zi 0, zu 0, zi 0, zu 0, zi 0, zu 0, zi 0, zu 0, zi 0, zu 0, zi 0, zu 0, zi 0] 28), (3, .cells [zs 13 0 14 14] 1), (2, .cells [zi 1, zi 1, zi 1] 3), (1, .cells [zu 0] 1), (0, .cells [zi 1, zi 1, zi 1] 3)], 52⟩
def S6 : CS := ⟨[.bool false, zp 0 0, zp 30 0, zp 38 0, zi 0, zp 51 0, zi 20, zp 59 0, zi 1, zz, zz, zz, zz, zz, .agg ⟨[zi 1, zi 1, zi 1]⟩, .agg ⟨[zi 1, zi 1, zi 1]⟩, zs 1 0 1 1, .agg ⟨[zs 13 0 14 14]⟩, .tuple ⟨[.agg ⟨[zi 1, zi 2, zu 0, zu 5, zu 0, zi 0, zi 0, zi 0, zi 0, zi 0, zu 0, .bool false, .slice none 0 0]⟩, zi 0]⟩, .agg ⟨[zi 1, zi 1, zi 1]⟩, .agg ⟨[zi 0, zi 0, zu 0, zu 0, zu 0, zi 0, zi 0, zi 0, zi 0, zi 0, zu 0, .bool false, .slice none 0 0]⟩, .agg ⟨[zi 2, zu 0, zu 5]⟩, .tuple ⟨[.agg ⟨[zi 1, zi 2, zu 0, zu 5, zu 0, zi 0, zi 0, zi 0, zi 0, zi 0, zu 0, .bool false, .slice none 0 0]⟩, zi 0]⟩, .agg ⟨[zi 1, zi 2, zu 0, zu 5, zu 0, zi 0, zi 0, zi 0, zi 0, zi 0, zu 0, .bool false, .slice none 0 0]⟩, zi 0, .tuple ⟨[.agg ⟨[zi 0, zi 0, zu 0, zu 0, zu 0, zi 0, zi 0, zi 0, zi 0, zi 0, zu 0, .bool false, .slice none 0 0]⟩, zi 20]⟩, .agg ⟨[zi 1, zi 1, zi 1]⟩, .agg ⟨[zi 1, zi 2, zu 0, zu 5, zu 0, zi 0, zi 0, zi 0, zi 0, zi 0, zu 0, .bool false, .slice none 0 0]⟩, .agg ⟨[zi 1, zu 0, zu 0]⟩, .tuple ⟨[.agg ⟨[zi 0, zi 0, zu 0, zu 0, zu 0, zi 0, zi 0, zi 0, zi 0, zi 0, zu 0, .bool false, .slice none 0 0]⟩, zi 20]⟩, .agg ⟨[zi 0, zi 0, zu 0, zu 0, zu 0, zi 0, zi 0, zi 0, zi 0, zi 0, zu 0, .bool false, .slice none 0 0]⟩, zi 20, .tuple ⟨[.agg ⟨[zi 0, zi 0, zu 0, zu 0, zu 0, zi 0, zi 0, zi 0, zi 0, zi 0, zu 0, .bool false, .slice none 0 0]⟩, zi 1]⟩, .agg ⟨[zi 1, zi 1, zi 1]⟩, .agg ⟨[zi 0, zi 0, zu 0, zu 0, zu 0, zi 0, zi 0, zi 0, zi 0, zi 0, zu 0, .bool false, .slice none 0 0]⟩, .agg ⟨[zi 0, zu 0, zu 0]⟩, .tuple ⟨[.agg ⟨[zi 0, zi 0, zu 0, zu 0, zu 0, zi 0, zi 0, zi 0, zi 0, zi 0, zu 0, .bool false, .slice none 0 0]⟩, zi 1]⟩, .agg ⟨[zi 0, zi 0, zu 0, zu 0, zu 0, zi 0, zi 0, zi 0, zi 0, zi 0, zu 0, .bool false, .slice none 0 0]⟩, zi 1, zz, zz, zz, zz, zz, zz, zz, zz, zz, zz, zz, zz, zz, zz, zz, zz, zz, zz, zz, zz, zz, zz, zz, zz, zz, zz, zz, zz, zz, zz, zz, zz, zz, zz, zz, zz, zz, zz, zz, zz, zz, zz, zz, zz, zz, zz, zz, zz, zz, zz, zz, zz, zz, zz, zz, zz, zz], [(59, .cells [zi 0, zi 0, zu 0, zu 0, zu 0, zi 0, zi 0, zi 0, zi 0, zi 0, zu 0, .bool false, .slice none 0 0] 13), (58, .cells [zi 0, zi 0, zu 0, zu 0, zu 0, zi 0, zi 0, zi 0, zi 0, zi 0, zu 0, .bool false, .slice none 0 0] 13), (57, .cells [zi 0, zi 0, zu 0, zu 0, zu 0, zi 0, zi 0, zi 0, zi 0, zi 0, zu 0, .bool false, .slice none 0 0] 13), (56, .cells [zi 1, zi 1, zi 1] 3), (55, .cells [zi 0, zi 0, zu 0, zu 0, zu 0, zi 0, zi 0, zi 0, zi 0, zi 0, zu 0, .bool false, .slice none 0 0] 13), (54, .cells [zi 0, zu 0, zu 0] 3), (53, .cells [zi 0, zi 0, zu 0, zu 0, zu 0, zi 0, zi 0, zi 0, zi 0, zi 0, zu 0, .bool false, .slice none 0 0] 13), (52, .cells [zi 1, zi 1, zi 1] 3), (51, .cells [zi 0, zi 0, zu 0, zu 0, zu 0, zi 0, zi 0, zi 0, zi 0, zi 0, zu 0, .bool false, .slice none 0 0] 13), (50, .cells [zi 1, zi 2, zu 0, zu 5, zu 0, zi 0, zi 0, zi 0, zi 0, zi 0, zu 0, .bool false, .slice none 0 0] 13), (49, .cells [zi 1, zi 1, zi 1] 3), (48, .cells [zi 1, zi 2, zu 0, zu 5, zu 0, zi 0, zi 0, zi 0, zi 0, zi 0, zu 0, .bool false, .slice none 0 0] 13), (47, .cells [zi 1, zi 2, zu 0, zu 5, zu 0, zi 0, zi 0, zi 0, zi 0, zi 0, zu 0, .bool false, .slice none 0 0] 13), (46, .cells [zi 1, zi 1, zi 1] 3), (45, .cells [zi 1, zi 2, zu 0, zu 5, zu 0, zi 0, zi 0, zi 0, zi 0, zi 0, zu 0, .bool false, .slice none 0 0] 13), (44, .cells [zi 1, zi 2, zu 0, zu 5, zu 0, zi 0, zi 0, zi 0, zi 0, zi 0, zu 0, .bool false, .slice none 0 0] 13), (43, .cells [zi 1, zi 1, zi 1] 3), (42, .cells [zi 0, zi 0, zu 0, zu 0, zu 0, zi 0, zi 0, zi 0, zi 0, zi 0, zu 0, .bool false, .slice none 0 0] 13), (41, .cells [zi 1, zu 0, zu 0] 3), (40, .cells [zi 1, zi 2, zu 0, zu 5, zu 0, zi 0, zi 0, zi 0, zi 0, zi 0, zu 0, .bool false, .slice none 0 0] 13), (39, .cells [zi 1, zi 1, zi 1] 3), (38, .cells [zi 1, zi 2, zu 0, zu 5, zu 0, zi 0, zi 0, zi 0, zi 0, zi 0, zu 0, .bool false, .slice none 0 0] 13), (37, .cells [zi 0, zi 0, zu 0, zu 0, zu 0, zi 0, zi 0, zi 0, zi 0, zi 0, zu 0, .bool false, .slice none 0 0] 13), (36, .cells [zi 0, zi 0, zu 0, zu 0, zu 0, zi 0, zi 0, zi 0, zi 0, zi 0, zu 0, .bool false, .slice none 0 0] 13), (35, .cells [zi 1, zi 1, zi 1] 3), (34, .cells [zi 1, zi 2, zu 0, zu 5, zu 0, zi 0, zi 0, zi 0, zi 0, zi 0, zu 0, .bool false, .slice none 0 0] 13), (33, .cells [zi 2, zu 0, zu 5] 3), (32, .cells [zi 0, zi 0, zu 0, zu 0, zu 0, zi 0, zi 0, zi 0, zi 0, zi 0, zu 0, .bool false, .slice none 0 0] 13), (31, .cells [zi 1, zi 1, zi 1] 3), (30, .cells [zs 13 0 14 14] 1), (14, .cells [zs 13 0 14 14] 1), (13, .cells [zu 0, zi 0, zu 0, zi 0, zu 0, zi 0, zu 0, zi 0, zu 0, zi 0, zu 0, zi 0, zu 0, zi 0, zu 0, zi 0, zu 0, zi 0, zu 0, zi 0, zu 0, zi 0, zu 0, zi 0, zu 0, zi 0, zu 0, zi 0] 28), (3, .cells [zs 13 0 14 14] 1), (2, .cells [zi 1, zi 1, zi 1] 3), (1, .cells [zu 0] 1), (0, .cells [zi 1, zi 1, zi 1] 3)], 60⟩
def S7 : CS := ⟨[.bool false, zp 0 0, zp 30 0, zp 38 0, zi 0, zp 51 0, zi 20, zp 59 0, zi 1, zz, zz, zz, zz, zz, .agg ⟨[zi 1, zi 1, zi 1]⟩, .agg ⟨[zi 1, zi 1, zi 1]⟩, zs 1 0 1 1, .agg ⟨[zs 13 0 14 14]⟩, .tuple ⟨[.agg ⟨[zi 1, zi 2, zu 0, zu 5, zu 0, zi 0, zi 0, zi 0, zi 0, zi 0, zu 0, .bool false, .slice none 0 0]⟩, zi 0]⟩, .agg ⟨[zi 1, zi 1, zi 1]⟩, .agg ⟨[zi 0, zi 0, zu 0, zu 0, zu 0, zi 0, zi 0, zi 0, zi 0, zi 0, zu 0, .bool false, .slice none 0 0]⟩, .agg ⟨[zi 2, zu 0, zu 5]⟩, .tuple ⟨[.agg ⟨[zi 1, zi 2, zu 0, zu 5, zu 0, zi 0, zi 0, zi 0, zi 0, zi 0, zu 0, .bool false, .slice none 0 0]⟩, zi 0]⟩, .agg ⟨[zi 1, zi 2, zu 0, zu 5, zu 0, zi 0, zi 0, zi 0, zi 0, zi 0, zu 0, .bool false, .slice none 0 0]⟩, zi 0, .tuple ⟨[.agg ⟨[zi 0, zi 0, zu 0, zu 0, zu 0, zi 0, zi 0, zi 0, zi 0, zi 0, zu 0, .bool false, .slice none 0 0]⟩, zi 20]⟩, .agg ⟨[zi 1, zi 1, zi 1]⟩, .agg ⟨[zi 1, zi 2, zu 0, zu 5, zu 0, zi 0, zi 0, zi 0, zi 0, zi 0, zu 0, .bool false, .slice none 0 0]⟩, .agg ⟨[zi 1, zu 0, zu 0]⟩, .tuple ⟨[.agg ⟨[zi 0, zi 0, zu 0, zu 0, zu 0, zi 0, zi 0, zi 0, zi 0, zi 0, zu 0, .bool false, .slice none 0 0]⟩, zi 20]⟩, .agg ⟨[zi 0, zi 0, zu 0, zu 0, zu 0, zi 0, zi 0, zi 0, zi 0, zi 0, zu 0, .bool false, .slice none 0 0]⟩, zi 20, .tuple ⟨[.agg ⟨[zi 0, zi 0, zu 0, zu 0, zu 0, zi 0, zi 0, zi 0, zi 0, zi 0, zu 0, .bool false, .slice none 0 0]⟩, zi 1]⟩, .agg ⟨[zi 1, zi 1, zi 1]⟩, .agg ⟨[zi 0, zi 0, zu 0, zu 0, zu 0, zi 0, zi 0, zi 0, zi 0, zi 0, zu 0, .bool false, .slice none 0 0]⟩, .agg ⟨[zi 0, zu 0, zu 0]⟩, .tuple ⟨[.agg ⟨[zi 0, zi 0, zu 0, zu 0, zu 0, zi 0, zi 0, zi 0, zi 0, zi 0, zu 0, .bool false, .slice none 0 0]⟩, zi 1]⟩, .agg ⟨[zi 0, zi 0, zu 0, zu 0, zu 0, zi 0, zi 0, zi 0, zi 0, zi 0, zu 0, .bool false, .slice none 0 0]⟩, zi 1, zi 0, .bool false, .bool false, zi 20, .bool false, .bool false, .bool false, zi 1, .bool false, .bool false, .bool false, .agg ⟨[zi 1, zi 1, zi 1]⟩, .agg ⟨[zi 1, zi 2, zu 0, zu 5, zu 0, zi 0, zi 0, zi 0, zi 0, zi 0, zu 0, .bool false, .slice none 0 0]⟩, .bool true, .bool false, .bool false, .bool false, .agg ⟨[zi 1, zi 1, zi 1]⟩, .agg ⟨[zi 1, zi 2, zu 0, zu 5, zu 0, zi 0, zi 0, zi 0, zi 0, zi 0, zu 0, .bool false, .slice none 0 0]⟩, .bool false, .bool false, zz, zz, zz, zz, zz, zz, zz, zz, zz, zz, zz, zz, zz, zz, zz, zz, zz, zz, zz, zz, zz, zz, zz, zz, zz, zz, zz, zz, zz, zz, zz, zz, zz, zz, zz, zz], [(69, .cells [zi 1, zi 2, zu 0, zu 5, zu 0, zi 0, zi 0, zi 0, zi 0, zi 0, zu 0, .bool false, .slice none 0 0] 13), (68, .cells [zi 1, zi 1, zi 1] 3), (67, .cells [zi 1, zi 2, zu 0, zu 5, zu 0, zi 0, zi 0, zi 0, zi 0, zi 0, zu 0, .bool false, .slice none 0 0] 13), (66, .cells [zi 1, zi 1, zi 1] 3), (65, .cells [zi 1, zi 2, zu 0, zu 5, zu 0, zi 0, zi 0, zi 0, zi 0, zi 0, zu 0, .bool false, .slice none 0 0] 13), (64, .cells [zi 1, zi 2, zu 0, zu 5, zu 0, zi 0, zi 0, zi 0, zi 0, zi 0, zu 0, .bool false, .slice none 0 0] 13), (63, .cells [zi 1, zi 1, zi 1] 3), (62, .cells [zi 1, zi 2, zu 0, zu 5, zu 0, zi 0, zi 0, zi 0, zi 0, zi 0, zu 0, .bool false, .slice none 0 0] 13), (61, .cells [zi 1, zi 2, zu 0, zu 5, zu 0, zi 0, zi 0, zi 0, zi 0, zi 0, zu 0, .bool false, .slice none 0 0] 13), (60, .cells [zi 1, zi 1, zi 1] 3), (59, .cells [zi 0, zi 0, zu 0, zu 0, zu 0, zi 0, zi 0, zi 0, zi 0, zi 0, zu 0, .bool false, .slice none 0 0] 13), (58, .cells [zi 0, zi 0, zu 0, zu 0, zu 0, zi 0, zi 0, zi 0, zi 0, zi 0, zu 0, .bool false, .slice none 0 0] 13), (57, .cells [zi 0, zi 0, zu 0, zu 0, zu 0, zi 0, zi 0, zi 0, zi 0, zi 0, zu 0, .bool false, .slice none 0 0] 13), (56, .cells [zi 1, zi 1, zi 1] 3), (55, .cells [zi 0, zi 0, zu 0, zu 0, zu 0, zi 0, zi 0, zi 0, zi 0, zi 0, zu 0, .bool false, .slice none 0 0] 13), (54, .cells [zi 0, zu 0, zu 0] 3), (53, .cells [zi 0, zi 0, zu 0, zu 0, zu 0, zi 0, zi 0, zi 0, zi 0, zi 0, zu 0, .bool false, .slice none 0 0] 13), (52, .cells [zi 1, zi 1, zi 1] 3), (51, .cells [zi 0, zi 0, zu 0, zu 0, zu 0, zi 0, zi 0, zi 0, zi 0, zi 0, zu 0, .bool false, .slice none 0 0] 13), (50, .cells [zi 1, zi 2, zu 0, zu 5, zu 0, zi 0, zi 0, zi 0, zi 0, zi 0, zu 0, .bool false, .slice none 0 0] 13), (49, .cells [zi 1, zi 1, zi 1] 3), (48, .cells [zi 1, zi 2, zu 0, zu 5, zu 0, zi 0, zi 0, zi 0, zi 0, zi 0, zu 0, .bool false, .slice none 0 0] 13), (47, .cells [zi 1, zi 2, zu 0, zu 5, zu 0, zi 0, zi 0, zi 0, zi 0, zi 0, zu 0, .bool false, .slice none 0 0] 13), (46, .cells [zi 1, zi 1, zi 1] 3), (45, .cells [zi 1, zi 2, zu 0, zu 5, zu 0, zi 0, zi 0, zi 0, zi 0, zi 0, zu 0, .bool false, .slice none 0 0] 13), (44, .cells [zi 1, zi 2, zu 0, zu 5, zu 0, zi 0, zi 0, zi 0, zi 0, zi 0, zu 0, .bool false, .slice none 0 0] 13), (43, .cells [zi 1, zi 1, zi 1] 3), (42, .cells [zi 0, zi 0, zu 0, zu 0, zu 0, zi 0, zi 0, zi 0, zi 0, zi 0, zu 0, .bool false, .slice none 0 0] 13), (41, .cells [zi 1, zu 0, zu 0] 3), (40, .cells [zi 1, zi 2, zu 0, zu 5, zu 0, zi 0, zi 0, zi 0, zi 0, zi 0, zu 0, .bool false, .slice none 0 0] 13), (39, .cells [zi 1, zi 1, zi 1] 3), (38, .cells [zi 1, zi 2, zu 0, zu 5, zu 0, zi 0, zi 0, zi 0, zi 0, zi 0, zu 0, .bool false, .slice none 0 0] 13), (37, .cells [zi 0, zi 0, zu 0, zu 0, zu 0, zi 0, zi 0, zi 0, zi 0, zi 0, zu 0, .bool false, .slice none 0 0] 13), (36, .cells [zi 0, zi 0, zu 0, zu 0, zu 0, zi 0, zi 0, zi 0, zi 0, zi 0, zu 0, .bool false, .slice none 0 0] 13), (35, .cells [zi 1, zi 1, zi 1] 3), (34, .cells [zi 1, zi 2, zu 0, zu 5, zu 0, zi 0, zi 0, zi 0, zi 0, zi 0, zu 0, .bool false, .slice none 0 0] 13), (33, .cells [zi 2, zu 0, zu 5] 3), (32, .cells [zi 0, zi 0, zu 0, zu 0, zu 0, zi 0, zi 0, zi 0, zi 0, zi 0, zu 0, .bool false, .slice none 0 0] 13), (31, .cells [zi 1, zi 1, zi 1] 3), (30, .cells [zs 13 0 14 14] 1), (14, .cells [zs 13 0 14 14] 1), (13, .cells [zu 0, zi 0, zu 0, zi 0, zu 0, zi 0, zu 0, zi 0, zu 0, zi 0, zu 0, zi 0, zu 0, zi 0, zu 0, zi 0, zu 0, zi 0, zu 0, zi 0, zu 0, zi 0, zu 0, zi 0, zu 0, zi 0, zu 0, zi 0] 28), (3, .cells [zs 13 0 14 14] 1), (2, .cells [zi 1, zi 1, zi 1] 3), (1, .cells [zu 0] 1), (0, .cells [zi 1, zi 1, zi 1] 3)], 70⟩
def S8 : CS := ⟨[.bool false, zp 0 0, zp 30 0, zp 38 0, zi 0, zp 51 0, zi 20, zp 59 0, zi 1, zi 1, zz, zz, zz, zz, .agg ⟨[zi 1, zi 1, zi 1]⟩, .agg ⟨[zi 1, zi 1, zi 1]⟩, zs 1 0 1 1, .agg ⟨[zs 13 0 14 14]⟩, .tuple ⟨[.agg ⟨[zi 1, zi 2, zu 0, zu 5, zu 0, zi 0, zi 0, zi 0, zi 0, zi 0, zu 0, .bool false, .slice none 0 0]⟩, zi 0]⟩, .agg ⟨[zi 1, zi 1, zi 1]⟩, .agg ⟨[zi 0, zi 0, zu 0, zu 0, zu 0, zi 0, zi 0, zi 0, zi 0, zi 0, zu 0, .bool false, .slice none 0 0]⟩, .agg ⟨[zi 2, zu 0, zu 5]⟩, .tuple ⟨[.agg ⟨[zi 1, zi 2, zu 0, zu 5, zu 0, zi 0, zi 0, zi 0, zi 0, zi 0, zu 0, .bool false, .slice none 0 0]⟩, zi 0]⟩, .agg ⟨[zi 1, zi 2, zu 0, zu 5, zu 0, zi 0, zi 0, zi 0, zi 0, zi 0, zu 0, .bool false, .slice none 0 0]⟩, zi 0, .tuple ⟨[.agg ⟨[zi 0, zi 0, zu 0, zu 0, zu 0, zi 0, zi 0, zi 0, zi 0, zi 0, zu 0, .bool false, .slice none 0 0]⟩, zi 20]⟩, .agg ⟨[zi 1, zi 1, zi 1]⟩, .agg ⟨[zi 1, zi 2, zu 0, zu 5, zu 0, zi 0, zi 0, zi 0, zi 0, zi 0, zu 0, .bool false, .slice none 0 0]⟩, .agg ⟨[zi 1, zu 0, zu 0]⟩, .tuple ⟨[.agg ⟨[zi 0, zi 0, zu 0, zu 0, zu 0, zi 0, zi 0, zi 0, zi 0, zi 0, zu 0, .bool false, .slice none 0 0]⟩, zi 20]⟩, .agg ⟨[zi 0, zi 0, zu 0, zu 0, zu 0, zi 0, zi 0, zi 0, zi 0, zi 0, zu 0, .bool false, .slice none 0 0]⟩, zi 20, .tuple ⟨[.agg ⟨[zi 0, zi 0, zu 0, zu 0, zu 0, zi 0, zi 0, zi 0, zi 0, zi 0, zu 0, .bool false, .slice none 0 0]⟩, zi 1]⟩, .agg ⟨[zi 1, zi 1, zi 1]⟩, .agg ⟨[zi 0, zi 0, zu 0, zu 0, zu 0, zi 0, zi 0, zi 0, zi 0, zi 0, zu 0, .bool false, .slice none 0 0]⟩, .agg ⟨[zi 0, zu 0, zu 0]⟩, .tuple ⟨[.agg ⟨[zi 0, zi 0, zu 0, zu 0, zu 0, zi 0, zi 0, zi 0, zi 0, zi 0, zu 0, .bool false, .slice none 0 0]⟩, zi 1]⟩, .agg ⟨[zi 0, zi 0, zu 0, zu 0, zu 0, zi 0, zi 0, zi 0, zi 0, zi 0, zu 0, .bool false, .slice none 0 0]⟩, zi 1, zi 0, .bool false, .bool false, zi 20, .bool false, .bool false, .bool false, zi 1, .bool false, .bool false, .bool false, .agg ⟨[zi 1, zi 1, zi 1]⟩, .agg ⟨[zi 1, zi 2, zu 0, zu 5, zu 0, zi 0, zi 0, zi 0, zi 0, zi 0, zu 0, .bool false, .slice none 0 0]⟩, .bool true, .bool false, .bool false, .bool false, .agg ⟨[zi 1, zi 1, zi 1]⟩, .agg ⟨[zi 1, zi 2, zu 0, zu 5, zu 0, zi 0, zi 0, zi 0, zi 0, zi 0, zu 0, .bool false, .slice none 0 0]⟩, .bool false, .bool false, zz, zz, zz, zz, zz, zz, zz, zz, zz, zz, zz, zz, zz, zz, zz, zz, zz, zz, zz, zz, zz, zz, zz, zz, zz, zz, zz, zz, zz, zz, zz, zz, zz, zz, zz, zz], [(69, .cells [zi 1, zi 2, zu 0, zu 5, zu 0, zi 0, zi 0, zi 0, zi 0, zi 0, zu 0, .bool false, .slice none 0 0] 13), (68, .cells [zi 1, zi 1, zi 1] 3), (67, .cells [zi 1, zi 2, zu 0, zu 5, zu 0, zi 0, zi 0, zi 0, zi 0, zi 0, zu 0, .bool false, .slice none 0 0] 13), (66, .cells [zi 1, zi 1, zi 1] 3), (65, .cells [zi 1, zi 2, zu 0, zu 5, zu 0, zi 0, zi 0, zi 0, zi 0, zi 0, zu 0, .bool false, .slice none 0 0] 13), (64, .cells [zi 1, zi 2, zu 0, zu 5, zu 0, zi 0, zi 0, zi 0, zi 0, zi 0, zu 0, .bool false, .slice none 0 0] 13), (63, .cells [zi 1, zi 1, zi 1] 3), (62, .cells [zi 1, zi 2, zu 0, zu 5, zu 0, zi 0, zi 0, zi 0, zi 0, zi 0, zu 0, .bool false, .slice none 0 0] 13), (61, .cells [zi 1, zi 2, zu 0, zu 5, zu 0, zi 0, zi 0, zi 0, zi 0, zi 0, zu 0, .bool false, .slice none 0 0] 13), (60, .cells [zi 1, zi 1, zi 1] 3), (59, .cells [zi 0, zi 0, zu 0, zu 0, zu 0, zi 0, zi 0, zi 0, zi 0, zi 0, zu 0, .bool false, .slice none 0 0] 13), (58, .cells [zi 0, zi 0, zu 0, zu 0, zu 0, zi 0, zi 0, zi 0, zi 0, zi 0, zu 0, .bool false, .slice none 0 0] 13), (57, .cells [zi 0, zi 0, zu 0, zu 0, zu 0, zi 0, zi 0, zi 0, zi 0, zi 0, zu 0, .bool false, .slice none 0 0] 13), (56, .cells [zi 1, zi 1, zi 1] 3), (55, .cells [zi 0, zi 0, zu 0, zu 0, zu 0, zi 0, zi 0, zi 0, zi 0, zi 0, zu 0, .bool false, .slice none 0 0] 13), (54, .cells [zi 0, zu 0, zu 0] 3), (53, .cells [zi 0, zi 0, zu 0, zu 0, zu 0, zi 0, zi 0, zi 0, zi 0, zi 0, zu 0, .bool false, .slice none 0 0] 13), (52, .cells [zi 1, zi 1, zi 1] 3), (51, .cells [zi 0, zi 0, zu 0, zu 0, zu 0, zi 0, zi 0, zi 0, zi 0, zi 0, zu 0, .bool false, .slice none 0 0] 13), (50, .cells [zi 1, zi 2, zu 0, zu 5, zu 0, zi 0, zi 0, zi 0, zi 0, zi 0, zu 0, .bool false, .slice none 0 0] 13), (49, .cells [zi 1, zi 1, zi 1] 3), (48, .cells [zi 1, zi 2, zu 0, zu 5, zu 0, zi 0, zi 0, zi 0, zi 0, zi 0, zu 0, .bool false, .slice none 0 0] 13), (47, .cells [zi 1, zi 2, zu 0, zu 5, zu 0, zi 0, zi 0, zi 0, zi 0, zi 0, zu 0, .bool false, .slice none 0 0] 13), (46, .cells [zi 1, zi 1, zi 1] 3), (45, .cells [zi 1, zi 2, zu 0, zu 5, zu 0, zi 0, zi 0, zi 0, zi 0, zi 0, zu 0, .bool false, .slice none 0 0] 13), (44, .cells [zi 1, zi 2, zu 0, zu 5, zu 0, zi 0, zi 0, zi 0, zi 0, zi 0, zu 0, .bool false, .slice none 0 0] 13), (43, .cells [zi 1, zi 1, zi 1] 3), (42, .cells [zi 0, zi 0, zu 0, zu 0, zu 0, zi 0, zi 0, zi 0, zi 0, zi 0, zu 0, .bool false, .slice none 0 0] 13), (41, .cells [zi 1, zu 0, zu 0] 3), (40, .cells [zi 1, zi 2, zu 0, zu 5, zu 0, zi 0, zi 0, zi 0, zi 0, zi 0, zu 0, .bool false, .slice none 0 0] 13), (39, .cells [zi 1, zi 1, zi 1] 3), (38, .cells [zi 1, zi 2, zu 0, zu 5, zu 0, zi 0, zi 0, zi 0, zi 0, zi 0, zu 0, .bool false, .slice none 0 0] 13), (37, .cells [zi 0, zi 0, zu 0, zu 0, zu 0, zi 0, zi 0, zi 0, zi 0, zi 0, zu 0, .bool false, .slice none 0 0] 13), (36, .cells [zi 0, zi 0, zu 0, zu 0, zu 0, zi 0, zi 0, zi 0, zi 0, zi 0, zu 0, .bool false, .slice none 0 0] 13), (35, .cells [zi 1, zi 1, zi 1] 3), (34, .cells [zi 1, zi 2, zu 0, zu 5, zu 0, zi 0, zi 0, zi 0, zi 0, zi 0, zu 0, .bool false, .slice none 0 0] 13), (33, .cells [zi 2, zu 0, zu 5] 3), (32, .cells [zi 0, zi 0, zu 0, zu 0, zu 0, zi 0, zi 0, zi 0, zi 0, zi 0, zu 0, .bool false, .slice none 0 0] 13), (31, .cells [zi 1, zi 1, zi 1] 3), (30, .cells [zs 13 0 14 14] 1), (14, .cells [zs 13 0 14 14] 1), (13, .cells [zu 0, zi 0, zu 0, zi 0, zu 0, zi 0, zu 0, zi 0, zu 0, zi 0, zu 0, zi 0, zu 0, zi 0, zu 0, zi 0, zu 0, zi 0, zu 0, zi 0, zu 0, zi 0, zu 0, zi 0, zu 0, zi 0, zu 0, zi 0] 28), (3, .cells [zs 13 0 14 14] 1), (2, .cells [zi 1, zi 1, zi 1] 3), (1, .cells [zu 0] 1), (0, .cells [zi 1, zi 1, zi 1] 3)], 70⟩
def T0 : CS := ⟨[.bool false, zp 0 0, zp 30 0, zp 38 0, top, top, top, top, top, zi 2, top, top, top, top, top, top, top, top, top, top, top, top, top, top, top, top, top, top, top, top, top, top, top, top, top, top, top, top, top, top, top, top, top, top, top, top, top, top, top, top, top, top, top, top, top, top, top, top, top, top, top, top, top, top, top, top, top, top, top, top, top, top, top, top, top, top, top, top, top, top, top, top, top, top, top, top, top, top, top, top, top, top, top, top, top, top], [(38, .cells [zi 2, zi 2, zu 0, zu 5, zu 0, zi 0, zi 0, zi 0, zi 0, zi 0, zu 0, .bool false, .slice none 0 0] 13), (30, .cells [zs 13 0 14 14] 1), (13, .cells [zu 0, zi 0, zu 0, zi 0, zu 0, zi 0, zu 0, zi 0, zu 0, zi 0, zu 0, zi 0, zu 0, zi 0, zu 0, zi 0, zu 0, zi 0, zu 0, zi 0, zu 0, zi 0, zu 0, zi 0, zu 0, zi 0, zu 0, zi 0] 28), (0, .cells [zi 1, zi 1, zi 1] 3)], 88⟩
def T1 : CS := ⟨[.bool false, zp 0 0, zp 30 0, zp 38 0, top, top, top, top, top, zi 3, top, top, top, top, top, top, top, top, top, top, top, top, top, top, top, top, top, top, top, top, top, top, top, top, top, top, top, top, top, top, top, top, top, top, top, top, top, top, top, top, top, top, top, top, top, top, top, top, top, top, top, top, top, top, top, top, top, top, top, top, top, top, top, top, top, top, top, top, top, top, top, top, top, top, top, top, top, top, top, top, top, top, top, top, top, top], [(38, .cells [zi 3, zi 2, zu 0, zu 5, zu 0, zi 0, zi 0, zi 0, zi 0, zi 0, zu 0, .bool false, .slice none 0 0] 13), (30, .cells [zs 13 0 14 14] 1), (13, .cells [zu 0, zi 0, zu 0, zi 0, zu 0, zi 0, zu 5, zi 0, zu 0, zi 0, zu 0, zi 0, zu 0, zi 0, zu 0, zi 0, zu 0, zi 0, zu 0, zi 0, zu 0, zi 0, zu 0, zi 0, zu 0, zi 0, zu 0, zi 0] 28), (0, .cells [zi 1, zi 1, zi 1] 3)], 106⟩
def T2 : CS := ⟨[.bool false, zp 0 0, zp 30 0, zp 38 0, top, top, top, top, top, zi 4, top, top, top, top, top, top, top, top, top, top, top, top, top, top, top, top, top, top, top, top, top, top, top, top, top, top, top, top, top, top, top, top, top, top, top, top, top, top, top, top, top, top, top, top, top, top, top, top, top, top, top, top, top, top, top, top, top, top, top, top, top, top, top, top, top, top, top, top, top, top, top, top, top, top, top, top, top, top, top, top, top, top, top, top, top, top], [(38, .cells [zi 4, zi 2, zu 0, zu 5, zu 0, zi 0, zi 0, zi 0, zi 0, zi 0, zu 0, .bool false, .slice none 0 0] 13), (30, .cells [zs 13 0 14 14] 1), (13, .cells [zu 0, zi 0, zu 2, zi 0, zu 0, zi 0, zu 5, zi 0, zu 0, zi 0, zu 0, zi 0, zu 0, zi 0, zu 0, zi 0, zu 0, zi 0, zu 0, zi 0, zu 0, zi 0, zu 0, zi 0, zu 0, zi 0, zu 0, zi 0] 28), (0, .cells [zi 1, zi 1, zi 1] 3)], 124⟩
def T3 : CS := ⟨[.bool false, zp 0 0, zp 30 0, zp 38 0, top, top, top, top, top, zi 5, top, top, top, top, top, top, top, top, top, top, top, top, top, top, top, top, top, top, top, top, top, top, top, top, top, top, top, top, top, top, top, top, top, top, top, top, top, top, top, top, top, top, top, top, top, top, top, top, top, top, top, top, top, top, top, top, top, top, top, top, top, top, top, top, top, top, top, top, top, top, top, top, top, top, top, top, top, top, top, top, top, top, top, top, top, top], [(38, .cells [zi 5, zi 2, zu 0, zu 5, zu 0, zi 0, zi 0, zi 0, zi 0, zi 0, zu 0, .bool false, .slice none 0 0] 13), (30, .cells [zs 13 0 14 14] 1), (13, .cells [zu 0, zi 0, zu 2, zi 0, zu 0, zi 0, zu 5, zi 0, zu 0, zi 0, zu 0, zi 0, zu 0, zi 0, zu 0, zi 0, zu 0, zi 0, zu 0, zi 0, zu 0, zi 0, zu 0, zi 0, zu 0, zi 0, zu 0, zi 0] 28), (0, .cells [zi 1, zi 1, zi 1] 3)], 142⟩
def T4 : CS := ⟨[.bool false, zp 0 0, zp 30 0, zp 38 0, top, top, top, top, top, zi 6, top, top, top, top, top, top, top, top, top, top, top, top, top, top, top, top, top, top, top, top, top, top, top, top, top, top, top, top, top, top, top, top, top, top, top, top, top, top, top, top, top, top, top, top, top, top, top, top, top, top, top, top, top, top, top, top, top, top, top, top, top, top, top, top, top, top, top, top, top, top, top, top, top, top, top, top, top, top, top, top, top, top, top, top, top, top], [(38, .cells [zi 6, zi 2, zu 0, zu 5, zu 0, zi 0, zi 0, zi 0, zi 0, zi 0, zu 0, .bool false, .slice none 0 0] 13), (30, .cells [zs 13 0 14 14] 1), (13, .cells [zu 0, zi 1, zu 2, zi 0, zu 0, zi 0, zu 5, zi 0, zu 0, zi 0, zu 0, zi 0, zu 0, zi 0, zu 0, zi 0, zu 0, zi 0, zu 0, zi 0, zu 0, zi 0, zu 0, zi 0, zu 0, zi 0, zu 0, zi 0] 28), (0, .cells [zi 1, zi 1, zi 1] 3)], 160⟩
def T5 : CS := ⟨[.bool false, zp 0 0, zp 30 0, zp 38 0, top, top, top, top, top, zi 7, top, top, top, top, top, top, top, top, top, top, top, top, top, top, top, top, top, top, top, top, top, top, top, top, top, top, top, top, top, top, top, top, top, top, top, top, top, top, top, top, top, top, top, top, top, top, top, top, top, top, top, top, top, top, top, top, top, top, top, top, top, top, top, top, top, top, top, top, top, top, top, top, top, top, top, top, top, top, top, top, top, top, top, top, top, top], [(185, .grown [zu 0] 1), (38, .cells [zi 6, zi 2, zu 0, zu 5, zu 0, zi 0, zi 0, zi 0, zi 0, zi 0, zu 0, .bool false, zs 185 0 1 2251799813685248] 13), (30, .cells [zs 13 0 14 14] 1), (13, .cells [zu 0, zi 1, zu 2, zi 0, zu 0, zi 0, zu 5, zi 0, zu 0, zi 0, zu 0, zi 0, zu 0, zi 0, zu 0, zi 0, zu 0, zi 0, zu 0, zi 0, zu 0, zi 0, zu 0, zi 0, zu 0, zi 0, zu 0, zi 0] 28), (0, .cells [zi 1, zi 1, zi 1] 3)], 190⟩
def T6 : CS := ⟨[.bool false, zp 0 0, zp 30 0, zp 38 0, top, top, top, top, top, zi 8, top, top, top, top, top, top, top, top, top, top, top, top, top, top, top, top, top, top, top, top, top, top, top, top, top, top, top, top, top, top, top, top, top, top, top, top, top, top, top, top, top, top, top, top, top, top, top, top, top, top, top, top, top, top, top, top, top, top, top, top, top, top, top, top, top, top, top, top, top, top, top, top, top, top, top, top, top, top, top, top, top, top, top, top, top, top], [(217, .grown [zu 0, zu 2] 1), (38, .cells [zi 6, zi 2, zu 0, zu 5, zu 0, zi 0, zi 0, zi 0, zi 0, zi 0, zu 0, .bool false, zs 217 0 2 2251799813685248] 13), (30, .cells [zs 13 0 14 14] 1), (13, .cells [zu 0, zi 1, zu 2, zi 0, zu 0, zi 0, zu 5, zi 0, zu 0, zi 0, zu 0, zi 0, zu 0, zi 0, zu 0, zi 0, zu 0, zi 0, zu 0, zi 0, zu 0, zi 0, zu 0, zi 0, zu 0, zi 0, zu 0, zi 0] 28), (0, .cells [zi 1, zi 1, zi 1] 3)], 222⟩
def T7 : CS := ⟨[.bool false, zp 0 0, zp 30 0, zp 38 0, top, top, top, top, top, zi 9, top, top, top, top, top, top, top, top, top, top, top, top, top, top, top, top, top, top, top, top, top, top, top, top, top, top, top, top, top, top, top, top, top, top, top, top, top, top, top, top, top, top, top, top, top, top, top, top, top, top, top, top, top, top, top, top, top, top, top, top, top, top, top, top, top, top, top, top, top, top, top, top, top, top, top, top, top, top, top, top, top, top, top, top, top, top], [(249, .grown [zu 0, zu 2, zu 0] 1), (38, .cells [zi 6, zi 2, zu 0, zu 5, zu 0, zi 0, zi 0, zi 0, zi 0, zi 0, zu 0, .bool false, zs 249 0 3 2251799813685248] 13), (30, .cells [zs 13 0 14 14] 1), (13, .cells [zu 0, zi 1, zu 2, zi 0, zu 0, zi 0, zu 5, zi 0, zu 0, zi 0, zu 0, zi 0, zu 0, zi 0, zu 0, zi 0, zu 0, zi 0, zu 0, zi 0, zu 0, zi 0, zu 0, zi 0, zu 0, zi 0, zu 0, zi 0] 28), (0, .cells [zi 1, zi 1, zi 1] 3)], 254⟩
def T8 : CS := ⟨[.bool false, zp 0 0, zp 30 0, zp 38 0, top, top, top, top, top, zi 10, top, top, top, top, top, top, top, top, top, top, top, top, top, top, top, top, top, top, top, top, top, top, top, top, top, top, top, top, top, top, top, top, top, top, top, top, top, top, top, top, top, top, top, top, top, top, top, top, top, top, top, top, top, top, top, top, top, top, top, top, top, top, top, top, top, top, top, top, top, top, top, top, top, top, top, top, top, top, top, top, top, top, top, top, top, top], [(281, .grown [zu 0, zu 2, zu 0, zu 5] 1), (38, .cells [zi 6, zi 2, zu 0, zu 5, zu 0, zi 0, zi 0, zi 0, zi 0, zi 0, zu 0, .bool false, zs 281 0 4 2251799813685248] 13), (30, .cells [zs 13 0 14 14] 1), (13, .cells [zu 0, zi 1, zu 2, zi 0, zu 0, zi 0, zu 5, zi 0, zu 0, zi 0, zu 0, zi 0, zu 0, zi 0, zu 0, zi 0, zu 0, zi 0, zu 0, zi 0, zu 0, zi 0, zu 0, zi 0, zu 0, zi 0, zu 0, zi 0] 28), (0, .cells [zi 1, zi 1, zi 1] 3)], 286⟩
def T9 : CS := ⟨[.bool false, zp 0 0, zp 30 0, zp 38 0, top, top, top, top, top, zi 11, top, top, top, top, top, top, top, top, top, top, top, top, top, top, top, top, top, top, top, top, top, top, top, top, top, top, top, top, top, top, top, top, top, top, top, top, top, top, top, top, top, top, top, top, top, top, top, top, top, top, top, top, top, top, top, top, top, top, top, top, top, top, top, top, top, top, top, top, top, top, top, top, top, top, top, top, top, top, top, top, top, top, top, top, top, top], [(431, .cells [zu 3, zu 13, zu 5, zu 5, zu 0, zu 4, zu 1] 7), (38, .cells [zi 7, zi 2, zu 0, zu 5, zu 0, zi 0, zi 0, zi 0, zi 0, zi 0, zu 0, .bool false, zs 431 0 7 7] 13), (30, .cells [zs 13 0 14 14] 1), (13, .cells [zu 0, zi 1, zu 2, zi 0, zu 0, zi 0, zu 5, zi 0, zu 0, zi 0, zu 0, zi 0, zu 0, zi 0, zu 0, zi 0, zu 0, zi 0, zu 0, zi 0, zu 0, zi 0, zu 0, zi 0, zu 0, zi 0, zu 0, zi 0] 28), (0, .cells [zi 1, zi 1, zi 1] 3)], 445⟩
def T10 : CS := ⟨[.bool false, zp 0 0, zp 30 0, zp 38 0, top, top, top, top, top, zi 12, top, top, top, top, top, top, top, top, top, top, top, top, top, top, top, top, top, top, top, top, top, top, top, top, top, top, top, top, top, top, top, top, top, top, top, top, top, top, top, top, top, top, top, top, top, top, top, top, top, top, top, top, top, top, top, top, top, top, top, top, top, top, top, top, top, top, top, top, top, top, top, top, top, top, top, top, top, top, top, top, top, top, top, top, top, top], [(459, .grown [zu 3, zu 13, zu 5, zu 5, zu 0, zu 4, zu 1] 1), (38, .cells [zi 7, zi 2, zu 0, zu 5, zu 0, zi 0, zi 1, zi 0, zi 0, zi 0, zu 0, .bool false, zs 459 0 7 2251799813685248] 13), (30, .cells [zs 13 0 14 14] 1), (13, .cells [zu 0, zi 1, zu 2, zi 0, zu 0, zi 0, zu 5, zi 0, zu 0, zi 0, zu 0, zi 0, zu 3, zi 0, zu 0, zi 0, zu 0, zi 0, zu 0, zi 0, zu 0, zi 0, zu 0, zi 0, zu 0, zi 0, zu 0, zi 0] 28), (0, .cells [zi 1, zi 1, zi 1] 3)], 465⟩
def T11 : CS := ⟨[.bool false, zp 0 0, zp 30 0, zp 38 0, top, top, top, top, top, zi 13, top, top, top, top, top, top, top, top, top, top, top, top, top, top, top, top, top, top, top, top, top, top, top, top, top, top, top, top, top, top, top, top, top, top, top, top, top, top, top, top, top, top, top, top, top, top, top, top, top, top, top, top, top, top, top, top, top, top, top, top, top, top, top, top, top, top, top, top, top, top, top, top, top, top, top, top, top, top, top, top, top, top, top, top, top, top], [(479, .grown [zu 3, zu 13, zu 5, zu 5, zu 0, zu 4, zu 1] 1), (38, .cells [zi 7, zi 2, zu 0, zu 5, zu 0, zi 0, zi 2, zi 0, zi 0, zi 0, zu 0, .bool false, zs 479 0 7 2251799813685248] 13), (30, .cells [zs 13 0 14 14] 1), (13, .cells [zu 0, zi 1, zu 2, zi 0, zu 0, zi 0, zu 5, zi 0, zu 0, zi 0, zu 0, zi 0, zu 3, zi 0, zu 13, zi 0, zu 0, zi 0, zu 0, zi 0, zu 0, zi 0, zu 0, zi 0, zu 0, zi 0, zu 0, zi 0] 28), (0, .cells [zi 1, zi 1, zi 1] 3)], 485⟩
def T12 : CS := ⟨[.bool false, zp 0 0, zp 30 0, zp 38 0, top, top, top, top, top, zi 14, top, top, top, top, top, top, top, top, top, top, top, top, top, top, top, top, top, top, top, top, top, top, top, top, top, top, top, top, top, top, top, top, top, top, top, top, top, top, top, top, top, top, top, top, top, top, top, top, top, top, top, top, top, top, top, top, top, top, top, top, top, top, top, top, top, top, top, top, top, top, top, top, top, top, top, top, top, top, top, top, top, top, top, top, top, top], [(499, .grown [zu 3, zu 13, zu 5, zu 5, zu 0, zu 4, zu 1] 1), (38, .cells [zi 7, zi 2, zu 0, zu 5, zu 0, zi 0, zi 3, zi 0, zi 0, zi 0, zu 0, .bool false, zs 499 0 7 2251799813685248] 13), (30, .cells [zs 13 0 14 14] 1), (13, .cells [zu 0, zi 1, zu 2, zi 0, zu 0, zi 0, zu 5, zi 0, zu 0, zi 0, zu 0, zi 0, zu 3, zi 0, zu 13, zi 0, zu 5, zi 0, zu 0, zi 0, zu 0, zi 0, zu 0, zi 0, zu 0, zi 0, zu 0, zi 0] 28), (0, .cells [zi 1, zi 1, zi 1] 3)], 505⟩
def T13 : CS := ⟨[.bool false, zp 0 0, zp 30 0, zp 38 0, top, top, top, top, top, zi 15, top, top, top, top, top, top, top, top, top, top, top, top, top, top, top, top, top, top, top, top, top, top, top, top, top, top, top, top, top, top, top, top, top, top, top, top, top, top, top, top, top, top, top, top, top, top, top, top, top, top, top, top, top, top, top, top, top, top, top, top, top, top, top, top, top, top, top, top, top, top, top, top, top, top, top, top, top, top, top, top, top, top, top, top, top, top], [(519, .grown [zu 3, zu 13, zu 5, zu 5, zu 0, zu 4, zu 1] 1), (38, .cells [zi 7, zi 2, zu 0, zu 5, zu 0, zi 0, zi 4, zi 0, zi 0, zi 0, zu 0, .bool false, zs 519 0 7 2251799813685248] 13), (30, .cells [zs 13 0 14 14] 1), (13, .cells [zu 0, zi 1, zu 2, zi 0, zu 0, zi 0, zu 5, zi 0, zu 0, zi 0, zu 0, zi 0, zu 3, zi 0, zu 13, zi 0, zu 5, zi 0, zu 5, zi 0, zu 0, zi 0, zu 0, zi 0, zu 0, zi 0, zu 0, zi 0] 28), (0, .cells [zi 1, zi 1, zi 1] 3)], 525⟩
def T14 : CS := ⟨[.bool false, zp 0 0, zp 30 0, zp 38 0, top, top, top, top, top, zi 16, top, top, top, top, top, top, top, top, top, top, top, top, top, top, top, top, top, top, top, top, top, top, top, top, top, top, top, top, top, top, top, top, top, top, top, top, top, top, top, top, top, top, top, top, top, top, top, top, top, top, top, top, top, top, top, top, top, top, top, top, top, top, top, top, top, top, top, top, top, top, top, top, top, top, top, top, top, top, top, top, top, top, top, top, top, top], [(539, .grown [zu 3, zu 13, zu 5, zu 5, zu 0, zu 4, zu 1] 1), (38, .cells [zi 7, zi 2, zu 0, zu 5, zu 0, zi 0, zi 5, zi 0, zi 0, zi 0, zu 0, .bool false, zs 539 0 7 2251799813685248] 13), (30, .cells [zs 13 0 14 14] 1), (13, .cells [zu 0, zi 1, zu 2, zi 0, zu 0, zi 0, zu 5, zi 0, zu 0, zi 0, zu 0, zi 0, zu 3, zi 0, zu 13, zi 0, zu 5, zi 0, zu 5, zi 0, zu 0, zi 0, zu 0, zi 0, zu 0, zi 0, zu 0, zi 0] 28), (0, .cells [zi 1, zi 1, zi 1] 3)], 545⟩
def T15 : CS := ⟨[.bool false, zp 0 0, zp 30 0, zp 38 0, top, top, top, top, top, zi 17, top, top, top, top, top, top, top, top, top, top, top, top, top, top, top, top, top, top, top, top, top, top, top, top, top, top, top, top, top, top, top, top, top, top, top, top, top, top, top, top, top, top, top, top, top, top, top, top, top, top, top, top, top, top, top, top, top, top, top, top, top, top, top, top, top, top, top, top, top, top, top, top, top, top, top, top, top, top, top, top, top, top, top, top, top, top], [(559, .grown [zu 3, zu 13, zu 5, zu 5, zu 0, zu 4, zu 1] 1), (38, .cells [zi 7, zi 2, zu 0, zu 5, zu 0, zi 0, zi 6, zi 0, zi 0, zi 0, zu 0, .bool false, zs 559 0 7 2251799813685248] 13), (30, .cells [zs 13 0 14 14] 1), (13, .cells [zu 0, zi 1, zu 2, zi 0, zu 0, zi 0, zu 5, zi 0, zu 0, zi 0, zu 0, zi 0, zu 3, zi 0, zu 13, zi 0, zu 5, zi 0, zu 5, zi 0, zu 0, zi 0, zu 4, zi 0, zu 0, zi 0, zu 0, zi 0] 28), (0, .cells [zi 1, zi 1, zi 1] 3)], 565⟩
def T16 : CS := ⟨[.bool false, zp 0 0, zp 30 0, zp 38 0, top, top, top, top, top, zi 18, top, top, top, top, top, top, top, top, top, top, top, top, top, top, top, top, top, top, top, top, top, top, top, top, top, top, top, top, top, top, top, top, top, top, top, top, top, top, top, top, top, top, top, top, top, top, top, top, top, top, top, top, top, top, top, top, top, top, top, top, top, top, top, top, top, top, top, top, top, top, top, top, top, top, top, top, top, top, top, top, top, top, top, top, top, top], [(38, .cells [zi 8, zi 2, zu 0, zu 5, zu 0, zi 0, zi 0, zi 7, zi 0, zi 0, zu 0, .bool false, .slice none 0 0] 13), (30, .cells [zs 13 0 14 14] 1), (13, .cells [zu 0, zi 1, zu 2, zi 0, zu 0, zi 0, zu 5, zi 0, zu 0, zi 0, zu 0, zi 0, zu 3, zi 0, zu 13, zi 0, zu 5, zi 0, zu 5, zi 0, zu 0, zi 0, zu 4, zi 0, zu 1, zi 0, zu 0, zi 0] 28), (0, .cells [zi 1, zi 1, zi 1] 3)], 585⟩
def T17 : CS := ⟨[.bool false, zp 0 0, zp 30 0, zp 38 0, top, top, top, top, top, zi 19, top, top, top, top, top, top, top, top, top, top, top, top, top, top, top, top, top, top, top, top, top, top, top, top, top, top, top, top, top, top, top, top, top, top, top, top, top, top, top, top, top, top, top, top, top, top, top, top, top, top, top, top, top, top, top, top, top, top, top, top, top, top, top, top, top, top, top, top, top, top, top, top, top, top, top, top, top, top, top, top, top, top, top, top, top, top], [(38, .cells [zi 4, zi 2, zu 0, zu 5, zu 0, zi 0, zi 0, zi 0, zi 0, zi 0, zu 0, .bool false, .slice none 0 0] 13), (30, .cells [zs 13 0 14 14] 1), (13, .cells [zu 1, zi 0, zu 2, zi 0, zu 0, zi 0, zu 5, zi 0, zu 0, zi 0, zu 0, zi 0, zu 3, zi 0, zu 13, zi 0, zu 5, zi 0, zu 5, zi 0, zu 0, zi 0, zu 4, zi 0, zu 1, zi 0, zu 0, zi 0] 28), (0, .cells [zi 1, zi 1, zi 1] 3)], 604⟩
def T18 : CS := ⟨[.bool false, zp 0 0, zp 30 0, zp 38 0, top, top, top, top, top, zi 20, top, top, top, top, top, top, top, top, top, top, top, top, top, top, top, top, top, top, top, top, top, top, top, top, top, top, top, top, top, top, top, top, top, top, top, top, top, top, top, top, top, top, top, top, top, top, top, top, top, top, top, top, top, top, top, top, top, top, top, top, top, top, top, top, top, top, top, top, top, top, top, top, top, top, top, top, top, top, top, top, top, top, top, top, top, top], [(38, .cells [zi 5, zi 2, zu 0, zu 5, zu 0, zi 0, zi 0, zi 0, zi 0, zi 0, zu 0, .bool false, .slice none 0 0] 13), (30, .cells [zs 13 0 14 14] 1), (13, .cells [zu 1, zi 0, zu 2, zi 0, zu 0, zi 0, zu 5, zi 0, zu 0, zi 0, zu 0, zi 0, zu 3, zi 0, zu 13, zi 0, zu 5, zi 0, zu 5, zi 0, zu 0, zi 0, zu 4, zi 0, zu 1, zi 0, zu 0, zi 0] 28), (0, .cells [zi 1, zi 1, zi 1] 3)], 622⟩
def T19 : CS := ⟨[.bool false, zp 0 0, zp 30 0, zp 38 0, top, top, top, top, top, zi 21, top, top, top, top, top, top, top, top, top, top, top, top, top, top, top, top, top, top, top, top, top, top, top, top, top, top, top, top, top, top, top, top, top, top, top, top, top, top, top, top, top, top, top, top, top, top, top, top, top, top, top, top, top, top, top, top, top, top, top, top, top, top, top, top, top, top, top, top, top, top, top, top, top, top, top, top, top, top, top, top, top, top, top, top, top, top], [(38, .cells [zi 11, zi 2, zu 0, zu 5, zu 0, zi 0, zi 0, zi 0, zi 0, zi 0, zu 0, .bool false, .slice none 0 0] 13), (30, .cells [zs 13 0 14 14] 1), (13, .cells [zu 1, zi 1, zu 2, zi 0, zu 0, zi 0, zu 5, zi 0, zu 0, zi 0, zu 0, zi 0, zu 3, zi 0, zu 13, zi 0, zu 5, zi 0, zu 5, zi 0, zu 0, zi 0, zu 4, zi 0, zu 1, zi 0, zu 0, zi 0] 28), (0, .cells [zi 1, zi 1, zi 1] 3)], 640⟩
def T20 : CS := ⟨[.bool false, zp 0 0, zp 30 0, zp 38 0, top, top, top, top, top, zi 22, top, top, top, top, top, top, top, top, top, top, top, top, top, top, top, top, top, top, top, top, top, top, top, top, top, top, top, top, top, top, top, top, top, top, top, top, top, top, top, top, top, top, top, top, top, top, top, top, top, top, top, top, top, top, top, top, top, top, top, top, top, top, top, top, top, top, top, top, top, top, top, top, top, top, top, top, top, top, top, top, top, top, top, top, top, top], [(38, .cells [zi 12, zi 2, zu 0, zu 5, zu 0, zi 0, zi 0, zi 3, zi 0, zi 0, zu 0, .bool false, .slice none 0 0] 13), (30, .cells [zs 13 0 14 14] 1), (13, .cells [zu 1, zi 1, zu 2, zi 0, zu 0, zi 0, zu 5, zi 0, zu 0, zi 0, zu 0, zi 0, zu 3, zi 0, zu 13, zi 0, zu 5, zi 0, zu 5, zi 0, zu 0, zi 0, zu 4, zi 0, zu 1, zi 0, zu 0, zi 0] 28), (0, .cells [zi 1, zi 1, zi 1] 3)], 659⟩
def T21 : CS := ⟨[.bool false, zp 0 0, zp 30 0, zp 38 0, top, top, top, top, top, zi 23, top, top, top, top, top, top, top, top, top, top, top, top, top, top, top, top, top, top, top, top, top, top, top, top, top, top, top, top, top, top, top, top, top, top, top, top, top, top, top, top, top, top, top, top, top, top, top, top, top, top, top, top, top, top, top, top, top, top, top, top, top, top, top, top, top, top, top, top, top, top, top, top, top, top, top, top, top, top, top, top, top, top, top, top, top, top], [(38, .cells [zi 13, zi 2, zu 0, zu 5, zu 0, zi 0, zi 0, zi 3, zi 0, zi 13, zu 0, .bool false, .slice none 0 0] 13), (30, .cells [zs 13 0 14 14] 1), (13, .cells [zu 1, zi 1, zu 2, zi 0, zu 0, zi 0, zu 5, zi 0, zu 0, zi 0, zu 0, zi 0, zu 3, zi 0, zu 13, zi 0, zu 5, zi 0, zu 5, zi 0, zu 0, zi 0, zu 4, zi 0, zu 1, zi 0, zu 0, zi 0] 28), (0, .cells [zi 1, zi 1, zi 1] 3)], 682⟩
def T22 : CS := ⟨[.bool false, zp 0 0, zp 30 0, zp 38 0, top, top, top, top, top, zi 24, top, top, top, top, top, top, top, top, top, top, top, top, top, top, top, top, top, top, top, top, top, top, top, top, top, top, top, top, top, top, top, top, top, top, top, top, top, top, top, top, top, top, top, top, top, top, top, top, top, top, top, top, top, top, top, top, top, top, top, top, top, top, top, top, top, top, top, top, top, top, top, top, top, top, top, top, top, top, top, top, top, top, top, top, top, top], [(38, .cells [zi 14, zi 2, zu 0, zu 5, zu 0, zi 0, zi 0, zi 3, zi 0, zi 13, zu 5, .bool false, .slice none 0 0] 13), (30, .cells [zs 13 0 14 14] 1), (13, .cells [zu 1, zi 1, zu 2, zi 0, zu 0, zi 0, zu 5, zi 0, zu 0, zi 0, zu 0, zi 0, zu 3, zi 0, zu 13, zi 0, zu 5, zi 0, zu 5, zi 0, zu 0, zi 0, zu 4, zi 0, zu 1, zi 0, zu 0, zi 0] 28), (0, .cells [zi 1, zi 1, zi 1] 3)], 704⟩
def T23 : CS := ⟨[.bool false, zp 0 0, zp 30 0, zp 38 0, top, top, top, top, top, zi 25, top, top, top, top, top, top, top, top, top, top, top, top, top, top, top, top, top, top, top, top, top, top, top, top, top, top, top, top, top, top, top, top, top, top, top, top, top, top, top, top, top, top, top, top, top, top, top, top, top, top, top, top, top, top, top, top, top, top, top, top, top, top, top, top, top, top, top, top, top, top, top, top, top, top, top, top, top, top, top, top, top, top, top, top, top, top], [(38, .cells [zi 15, zi 2, zu 0, zu 5, zu 0, zi 0, zi 0, zi 3, zi 0, zi 13, zu 5, .bool false, .slice none 0 0] 13), (30, .cells [zs 13 0 14 14] 1), (13, .cells [zu 1, zi 1, zu 2, zi 0, zu 0, zi 0, zu 5, zi 0, zu 0, zi 0, zu 0, zi 0, zu 3, zi 0, zu 13, zi 0, zu 5, zi 0, zu 5, zi 0, zu 0, zi 0, zu 4, zi 0, zu 1, zi 0, zu 0, zi 1] 28), (0, .cells [zi 1, zi 1, zi 1] 3)], 724⟩
def T24 : CS := ⟨[.bool false, zp 0 0, zp 30 0, zp 38 0, top, top, top, top, top, zi 26, top, top, top, top, top, top, top, top, top, top, top, top, top, top, top, top, top, top, top, top, top, top, top, top, top, top, top, top, top, top, top, top, top, top, top, top, top, top, top, top, top, top, top, top, top, top, top, top, top, top, top, top, top, top, top, top, top, top, top, top, top, top, top, top, top, top, top, top, top, top, top, top, top, top, top, top, top, top, top, top, top, top, top, top, top, top], [(38, .cells [zi 16, zi 2, zu 0, zu 5, zu 0, zi 0, zi 0, zi 3, zi 0, zi 13, zu 5, .bool false, .slice none 0 0] 13), (30, .cells [zs 13 0 14 14] 1), (13, .cells [zu 1, zi 1, zu 2, zi 0, zu 0, zi 0, zu 5, zi 0, zu 0, zi 0, zu 0, zi 0, zu 3, zi 0, zu 13, zi 0, zu 5, zi 0, zu 5, zi 0, zu 0, zi 0, zu 4, zi 0, zu 1, zi 0, zu 0, zi 1] 28), (0, .cells [zi 1, zi 1, zi 1] 3)], 744⟩
def T25 : CS := ⟨[.bool false, zp 0 0, zp 30 0, zp 38 0, top, top, top, top, top, zi 27, top, top, top, top, top, top, top, top, top, top, top, top, top, top, top, top, top, top, top, top, top, top, top, top, top, top, top, top, top, top, top, top, top, top, top, top, top, top, top, top, top, top, top, top, top, top, top, top, top, top, top, top, top, top, top, top, top, top, top, top, top, top, top, top, top, top, top, top, top, top, top, top, top, top, top, top, top, top, top, top, top, top, top, top, top, top], [(38, .cells [zi 12, zi 2, zu 0, zu 5, zu 0, zi 0, zi 1, zi 3, zi 0, zi 0, zu 0, .bool false, .slice none 0 0] 13), (30, .cells [zs 13 0 14 14] 1), (13, .cells [zu 1, zi 1, zu 2, zi 0, zu 0, zi 0, zu 5, zi 0, zu 0, zi 0, zu 0, zi 0, zu 3, zi 0, zu 13, zi 0, zu 5, zi 0, zu 5, zi 0, zu 0, zi 0, zu 4, zi 0, zu 1, zi 0, zu 5, zi 0] 28), (0, .cells [zi 1, zi 1, zi 1] 3)], 763⟩
def T26 : CS := ⟨[.bool false, zp 0 0, zp 30 0, zp 38 0, top, top, top, top, top, zi 28, top, top, top, top, top, top, top, top, top, top, top, top, top, top, top, top, top, top, top, top, top, top, top, top, top, top, top, top, top, top, top, top, top, top, top, top, top, top, top, top, top, top, top, top, top, top, top, top, top, top, top, top, top, top, top, top, top, top, top, top, top, top, top, top, top, top, top, top, top, top, top, top, top, top, top, top, top, top, top, top, top, top, top, top, top, top], [(38, .cells [zi 13, zi 2, zu 0, zu 5, zu 0, zi 0, zi 1, zi 3, zi 0, zi 5, zu 0, .bool false, .slice none 0 0] 13), (30, .cells [zs 13 0 14 14] 1), (13, .cells [zu 1, zi 1, zu 2, zi 0, zu 0, zi 0, zu 5, zi 0, zu 0, zi 0, zu 0, zi 0, zu 3, zi 0, zu 13, zi 0, zu 5, zi 0, zu 5, zi 0, zu 0, zi 0, zu 4, zi 0, zu 1, zi 0, zu 5, zi 0] 28), (0, .cells [zi 1, zi 1, zi 1] 3)], 786⟩
def T27 : CS := ⟨[.bool false, zp 0 0, zp 30 0, zp 38 0, top, top, top, top, top, zi 29, top, top, top, top, top, top, top, top, top, top, top, top, top, top, top, top, top, top, top, top, top, top, top, top, top, top, top, top, top, top, top, top, top, top, top, top, top, top, top, top, top, top, top, top, top, top, top, top, top, top, top, top, top, top, top, top, top, top, top, top, top, top, top, top, top, top, top, top, top, top, top, top, top, top, top, top, top, top, top, top, top, top, top, top, top, top], [(38, .cells [zi 14, zi 2, zu 0, zu 5, zu 0, zi 0, zi 1, zi 3, zi 0, zi 5, zu 0, .bool false, .slice none 0 0] 13), (30, .cells [zs 13 0 14 14] 1), (13, .cells [zu 1, zi 1, zu 2, zi 0, zu 0, zi 0, zu 5, zi 0, zu 0, zi 0, zu 0, zi 0, zu 3, zi 0, zu 13, zi 0, zu 5, zi 0, zu 5, zi 0, zu 0, zi 0, zu 4, zi 0, zu 1, zi 0, zu 5, zi 0] 28), (0, .cells [zi 1, zi 1, zi 1] 3)], 808⟩
def T28 : CS := ⟨[.bool false, zp 0 0, zp 30 0, zp 38 0, top, top, top, top, top, zi 30, top, top, top, top, top, top, top, top, top, top, top, top, top, top, top, top, top, top, top, top, top, top, top, top, top, top, top, top, top, top, top, top, top, top, top, top, top, top, top, top, top, top, top, top, top, top, top, top, top, top, top, top, top, top, top, top, top, top, top, top, top, top, top, top, top, top, top, top, top, top, top, top, top, top, top, top, top, top, top, top, top, top, top, top, top, top], [(38, .cells [zi 15, zi 2, zu 0, zu 5, zu 0, zi 0, zi 1, zi 3, zi 0, zi 5, zu 0, .bool true, .slice none 0 0] 13), (30, .cells [zs 13 0 14 14] 1), (13, .cells [zu 1, zi 1, zu 2, zi 0, zu 0, zi 0, zu 5, zi 0, zu 0, zi 0, zu 0, zi 1, zu 3, zi 0, zu 13, zi 0, zu 5, zi 0, zu 5, zi 0, zu 0, zi 0, zu 4, zi 0, zu 1, zi 0, zu 5, zi 0] 28), (0, .cells [zi 1, zi 1, zi 1] 3)], 828⟩
def T29 : CS := ⟨[.bool false, zp 0 0, zp 30 0, zp 38 0, top, top, top, top, top, zi 31, top, top, top, top, top, top, top, top, top, top, top, top, top, top, top, top, top, top, top, top, top, top, top, top, top, top, top, top, top, top, top, top, top, top, top, top, top, top, top, top, top, top, top, top, top, top, top, top, top, top, top, top, top, top, top, top, top, top, top, top, top, top, top, top, top, top, top, top, top, top, top, top, top, top, top, top, top, top, top, top, top, top, top, top, top, top], [(38, .cells [zi 17, zi 2, zu 0, zu 5, zu 0, zi 0, zi 1, zi 3, zi 0, zi 5, zu 0, .bool false, .slice none 0 0] 13), (30, .cells [zs 13 0 14 14] 1), (13, .cells [zu 1, zi 1, zu 2, zi 0, zu 0, zi 0, zu 5, zi 0, zu 0, zi 0, zu 0, zi 1, zu 3, zi 0, zu 13, zi 0, zu 5, zi 0, zu 5, zi 0, zu 0, zi 0, zu 4, zi 0, zu 1, zi 0, zu 5, zi 0] 28), (0, .cells [zi 1, zi 1, zi 1] 3)], 848⟩
def T30 : CS := ⟨[.bool false, zp 0 0, zp 30 0, zp 38 0, top, top, top, top, top, zi 32, top, top, top, top, top, top, top, top, top, top, top, top, top, top, top, top, top, top, top, top, top, top, top, top, top, top, top, top, top, top, top, top, top, top, top, top, top, top, top, top, top, top, top, top, top, top, top, top, top, top, top, top, top, top, top, top, top, top, top, top, top, top, top, top, top, top, top, top, top, top, top, top, top, top, top, top, top, top, top, top, top, top, top, top, top, top], [(38, .cells [zi 12, zi 2, zu 0, zu 5, zu 0, zi 0, zi 2, zi 3, zi 0, zi 0, zu 0, .bool false, .slice none 0 0] 13), (30, .cells [zs 13 0 14 14] 1), (13, .cells [zu 1, zi 1, zu 2, zi 0, zu 0, zi 0, zu 5, zi 0, zu 0, zi 0, zu 0, zi 0, zu 3, zi 0, zu 13, zi 0, zu 5, zi 0, zu 5, zi 0, zu 0, zi 0, zu 4, zi 0, zu 1, zi 0, zu 5, zi 0] 28), (0, .cells [zi 1, zi 1, zi 1] 3)], 867⟩
def T31 : CS := ⟨[.bool false, zp 0 0, zp 30 0, zp 38 0, top, top, top, top, top, zi 33, top, top, top, top, top, top, top, top, top, top, top, top, top, top, top, top, top, top, top, top, top, top, top, top, top, top, top, top, top, top, top, top, top, top, top, top, top, top, top, top, top, top, top, top, top, top, top, top, top, top, top, top, top, top, top, top, top, top, top, top, top, top, top, top, top, top, top, top, top, top, top, top, top, top, top, top, top, top, top, top, top, top, top, top, top, top], [(38, .cells [zi 13, zi 2, zu 0, zu 5, zu 0, zi 0, zi 2, zi 3, zi 0, zi 4, zu 0, .bool false, .slice none 0 0] 13), (30, .cells [zs 13 0 14 14] 1), (13, .cells [zu 1, zi 1, zu 2, zi 0, zu 0, zi 0, zu 5, zi 0, zu 0, zi 0, zu 0, zi 0, zu 3, zi 0, zu 13, zi 0, zu 5, zi 0, zu 5, zi 0, zu 0, zi 0, zu 4, zi 0, zu 1, zi 0, zu 5, zi 0] 28), (0, .cells [zi 1, zi 1, zi 1] 3)], 890⟩
def T32 : CS := ⟨[.bool false, zp 0 0, zp 30 0, zp 38 0, top, top, top, top, top, zi 34, top, top, top, top, top, top, top, top, top, top, top, top, top, top, top, top, top, top, top, top, top, top, top, top, top, top, top, top, top, top, top, top, top, top, top, top, top, top, top, top, top, top, top, top, top, top, top, top, top, top, top, top, top, top, top, top, top, top, top, top, top, top, top, top, top, top, top, top, top, top, top, top, top, top, top, top, top, top, top, top, top, top, top, top, top, top], [(38, .cells [zi 14, zi 2, zu 0, zu 5, zu 0, zi 0, zi 2, zi 3, zi 0, zi 4, zu 1, .bool false, .slice none 0 0] 13), (30, .cells [zs 13 0 14 14] 1), (13, .cells [zu 1, zi 1, zu 2, zi 0, zu 0, zi 0, zu 5, zi 0, zu 0, zi 0, zu 0, zi 0, zu 3, zi 0, zu 13, zi 0, zu 5, zi 0, zu 5, zi 0, zu 0, zi 0, zu 4, zi 0, zu 1, zi 0, zu 5, zi 0] 28), (0, .cells [zi 1, zi 1, zi 1] 3)], 912⟩
def T33 : CS := ⟨[.bool false, zp 0 0, zp 30 0, zp 38 0, top, top, top, top, top, zi 35, top, top, top, top, top, top, top, top, top, top, top, top, top, top, top, top, top, top, top, top, top, top, top, top, top, top, top, top, top, top, top, top, top, top, top, top, top, top, top, top, top, top, top, top, top, top, top, top, top, top, top, top, top, top, top, top, top, top, top, top, top, top, top, top, top, top, top, top, top, top, top, top, top, top, top, top, top, top, top, top, top, top, top, top, top, top], [(38, .cells [zi 15, zi 2, zu 0, zu 5, zu 0, zi 0, zi 2, zi 3, zi 0, zi 4, zu 1, .bool false, .slice none 0 0] 13), (30, .cells [zs 13 0 14 14] 1), (13, .cells [zu 1, zi 1, zu 2, zi 0, zu 0, zi 0, zu 5, zi 0, zu 0, zi 1, zu 0, zi 0, zu 3, zi 0, zu 13, zi 0, zu 5, zi 0, zu 5, zi 0, zu 0, zi 0, zu 4, zi 0, zu 1, zi 0, zu 5, zi 0] 28), (0, .cells [zi 1, zi 1, zi 1] 3)], 932⟩
def T34 : CS := ⟨[.bool false, zp 0 0, zp 30 0, zp 38 0, top, top, top, top, top, zi 36, top, top, top, top, top, top, top, top, top, top, top, top, top, top, top, top, top, top, top, top, top, top, top, top, top, top, top, top, top, top, top, top, top, top, top, top, top, top, top, top, top, top, top, top, top, top, top, top, top, top, top, top, top, top, top, top, top, top, top, top, top, top, top, top, top, top, top, top, top, top, top, top, top, top, top, top, top, top, top, top, top, top, top, top, top, top], [(38, .cells [zi 16, zi 2, zu 0, zu 5, zu 0, zi 0, zi 2, zi 3, zi 0, zi 4, zu 1, .bool false, .slice none 0 0] 13), (30, .cells [zs 13 0 14 14] 1), (13, .cells [zu 1, zi 1, zu 2, zi 0, zu 0, zi 0, zu 5, zi 0, zu 0, zi 1, zu 0, zi 0, zu 3, zi 0, zu 13, zi 0, zu 5, zi 0, zu 5, zi 0, zu 0, zi 0, zu 4, zi 0, zu 1, zi 0, zu 5, zi 0] 28), (0, .cells [zi 1, zi 1, zi 1] 3)], 952⟩
def T35 : CS := ⟨[.bool false, zp 0 0, zp 30 0, zp 38 0, top, top, top, top, top, zi 37, top, top, top, top, top, top, top, top, top, top, top, top, top, top, top, top, top, top, top, top, top, top, top, top, top, top, top, top, top, top, top, top, top, top, top, top, top, top, top, top, top, top, top, top, top, top, top, top, top, top, top, top, top, top, top, top, top, top, top, top, top, top, top, top, top, top, top, top, top, top, top, top, top, top, top, top, top, top, top, top, top, top, top, top, top, top], [(38, .cells [zi 19, zi 2, zu 0, zu 5, zu 0, zi 0, zi 0, zi 0, zi 0, zi 0, zu 0, .bool false, .slice none 0 0] 13), (30, .cells [zs 13 0 14 14] 1), (13, .cells [zu 1, zi 1, zu 2, zi 0, zu 0, zi 0, zu 5, zi 0, zu 1, zi 0, zu 0, zi 0, zu 3, zi 0, zu 13, zi 0, zu 5, zi 0, zu 5, zi 0, zu 0, zi 0, zu 4, zi 0, zu 1, zi 0, zu 5, zi 0] 28), (0, .cells [zi 1, zi 1, zi 1] 3)], 971⟩
def T36 : CS := ⟨[.bool false, zp 0 0, zp 30 0, zp 38 0, top, top, top, top, top, zi 38, top, top, top, top, top, top, top, top, top, top, top, top, top, top, top, top, top, top, top, top, top, top, top, top, top, top, top, top, top, top, top, top, top, top, top, top, top, top, top, top, top, top, top, top, top, top, top, top, top, top, top, top, top, top, top, top, top, top, top, top, top, top, top, top, top, top, top, top, top, top, top, top, top, top, top, top, top, top, top, top, top, top, top, top, top, top], [(38, .cells [zi 4, zi 2, zu 0, zu 5, zu 0, zi 0, zi 0, zi 0, zi 0, zi 0, zu 0, .bool false, .slice none 0 0] 13), (30, .cells [zs 13 0 14 14] 1), (13, .cells [zu 2, zi 0, zu 2, zi 0, zu 0, zi 0, zu 5, zi 0, zu 1, zi 0, zu 0, zi 0, zu 3, zi 0, zu 13, zi 0, zu 5, zi 0, zu 5, zi 0, zu 0, zi 0, zu 4, zi 0, zu 1, zi 0, zu 5, zi 0] 28), (0, .cells [zi 1, zi 1, zi 1] 3)], 989⟩
def T37 : CS := ⟨[.bool false, zp 0 0, zp 30 0, zp 38 0, top, top, top, top, top, zi 39, top, top, top, top, top, top, top, top, top, top, top, top, top, top, top, top, top, top, top, top, top, top, top, top, top, top, top, top, top, top, top, top, top, top, top, top, top, top, top, top, top, top, top, top, top, top, top, top, top, top, top, top, top, top, top, top, top, top, top, top, top, top, top, top, top, top, top, top, top, top, top, top, top, top, top, top, top, top, top, top, top, top, top, top, top, top], [(38, .cells [zi 5, zi 2, zu 0, zu 5, zu 1, zi 2, zi 0, zi 0, zi 0, zi 0, zu 0, .bool false, .slice none 0 0] 13), (30, .cells [zs 13 0 14 14] 1), (13, .cells [zu 2, zi 0, zu 2, zi 0, zu 0, zi 0, zu 5, zi 0, zu 1, zi 0, zu 0, zi 0, zu 3, zi 0, zu 13, zi 0, zu 5, zi 0, zu 5, zi 0, zu 0, zi 0, zu 4, zi 0, zu 1, zi 0, zu 5, zi 0] 28), (0, .cells [zi 1, zi 1, zi 1] 3)], 1007⟩
def T38 : CS := ⟨[.bool false, zp 0 0, zp 30 0, zp 38 0, top, top, top, top, top, zi 40, top, top, top, top, top, top, top, top, top, top, top, top, top, top, top, top, top, top, top, top, top, top, top, top, top, top, top, top, top, top, top, top, top, top, top, top, top, top, top, top, top, top, top, top, top, top, top, top, top, top, top, top, top, top, top, top, top, top, top, top, top, top, top, top, top, top, top, top, top, top, top, top, top, top, top, top, top, top, top, top, top, top, top, top, top, top], [(38, .cells [zi 20, zi 2, zu 0, zu 5, zu 1, zi 2, zi 0, zi 0, zi 0, zi 0, zu 0, .bool false, .slice none 0 0] 13), (30, .cells [zs 13 0 14 14] 1), (13, .cells [zu 2, zi 1, zu 2, zi 0, zu 0, zi 0, zu 5, zi 0, zu 1, zi 0, zu 0, zi 0, zu 3, zi 0, zu 13, zi 0, zu 5, zi 0, zu 5, zi 0, zu 0, zi 0, zu 4, zi 0, zu 1, zi 0, zu 5, zi 0] 28), (0, .cells [zi 1, zi 1, zi 1] 3)], 1025⟩
def T39 : CS := ⟨[.bool false, zp 0 0, zp 30 0, zp 38 0, top, top, top, top, top, zi 41, top, top, top, top, top, top, top, top, top, top, top, top, top, top, top, top, top, top, top, top, top, top, top, top, top, top, top, top, top, top, top, top, top, top, top, top, top, top, top, top, top, top, top, top, top, top, top, top, top, top, top, top, top, top, top, top, top, top, top, top, top, top, top, top, top, top, top, top, top, top, top, top, top, top, top, top, top, top, top, top, top, top, top, top, top, top], [(38, .cells [zi 21, zi 2, zu 0, zu 5, zu 1, zi 2, zi 0, zi 0, zi 0, zi 0, zu 0, .bool false, .slice none 0 0] 13), (30, .cells [zs 13 0 14 14] 1), (13, .cells [zu 2, zi 1, zu 2, zi 0, zu 0, zi 0, zu 5, zi 0, zu 1, zi 0, zu 0, zi 0, zu 3, zi 1, zu 13, zi 0, zu 5, zi 0, zu 5, zi 0, zu 0, zi 0, zu 4, zi 0, zu 1, zi 0, zu 5, zi 0] 28), (0, .cells [zi 1, zi 1, zi 1] 3)], 1043⟩
def T40 : CS := ⟨[.bool false, zp 0 0, zp 30 0, zp 38 0, top, top, top, top, top, zi 42, top, top, top, top, top, top, top, top, top, top, top, top, top, top, top, top, top, top, top, top, top, top, top, top, top, top, top, top, top, top, top, top, top, top, top, top, top, top, top, top, top, top, top, top, top, top, top, top, top, top, top, top, top, top, top, top, top, top, top, top, top, top, top, top, top, top, top, top, top, top, top, top, top, top, top, top, top, top, top, top, top, top, top, top, top, top], [(38, .cells [zi 22, zi 2, zu 0, zu 5, zu 1, zi 2, zi 0, zi 0, zi 0, zi 0, zu 0, .bool false, .slice none 0 0] 13), (30, .cells [zs 13 0 14 14] 1), (13, .cells [zu 2, zi 1, zu 2, zi 0, zu 0, zi 0, zu 5, zi 0, zu 1, zi 0, zu 0, zi 0, zu 3, zi 1, zu 13, zi 0, zu 5, zi 0, zu 5, zi 0, zu 0, zi 0, zu 4, zi 0, zu 1, zi 0, zu 5, zi 0] 28), (0, .cells [zi 1, zi 1, zi 1] 3)], 1061⟩
def T41 : CS := ⟨[.bool false, zp 0 0, zp 30 0, zp 38 0, top, top, top, top, top, zi 43, top, top, top, top, top, top, top, top, top, top, top, top, top, top, top, top, top, top, top, top, top, top, top, top, top, top, top, top, top, top, top, top, top, top, top, top, top, top, top, top, top, top, top, top, top, top, top, top, top, top, top, top, top, top, top, top, top, top, top, top, top, top, top, top, top, top, top, top, top, top, top, top, top, top, top, top, top, top, top, top, top, top, top, top, top, top], [(38, .cells [zi 20, zi 2, zu 0, zu 5, zu 1, zi 2, zi 1, zi 0, zi 0, zi 0, zu 0, .bool false, .slice none 0 0] 13), (30, .cells [zs 13 0 14 14] 1), (13, .cells [zu 2, zi 1, zu 2, zi 0, zu 0, zi 0, zu 5, zi 0, zu 1, zi 0, zu 0, zi 0, zu 0, zi 0, zu 13, zi 0, zu 5, zi 0, zu 5, zi 0, zu 0, zi 0, zu 4, zi 0, zu 1, zi 0, zu 5, zi 0] 28), (0, .cells [zi 1, zi 1, zi 1] 3)], 1079⟩
def T42 : CS := ⟨[.bool false, zp 0 0, zp 30 0, zp 38 0, top, top, top, top, top, zi 44, top, top, top, top, top, top, top, top, top, top, top, top, top, top, top, top, top, top, top, top, top, top, top, top, top, top, top, top, top, top, top, top, top, top, top, top, top, top, top, top, top, top, top, top, top, top, top, top, top, top, top, top, top, top, top, top, top, top, top, top, top, top, top, top, top, top, top, top, top, top, top, top, top, top, top, top, top, top, top, top, top, top, top, top, top, top], [(38, .cells [zi 21, zi 2, zu 0, zu 5, zu 1, zi 2, zi 1, zi 0, zi 0, zi 0, zu 0, .bool false, .slice none 0 0] 13), (30, .cells [zs 13 0 14 14] 1), (13, .cells [zu 2, zi 1, zu 2, zi 0, zu 0, zi 0, zu 5, zi 0, zu 1, zi 0, zu 0, zi 0, zu 0, zi 0, zu 13, zi 1, zu 5, zi 0, zu 5, zi 0, zu 0, zi 0, zu 4, zi 0, zu 1, zi 0, zu 5, zi 0] 28), (0, .cells [zi 1, zi 1, zi 1] 3)], 1097⟩
def T43 : CS := ⟨[.bool false, zp 0 0, zp 30 0, zp 38 0, top, top, top, top, top, zi 45, top, top, top, top, top, top, top, top, top, top, top, top, top, top, top, top, top, top, top, top, top, top, top, top, top, top, top, top, top, top, top, top, top, top, top, top, top, top, top, top, top, top, top, top, top, top, top, top, top, top, top, top, top, top, top, top, top, top, top, top, top, top, top, top, top, top, top, top, top, top, top, top, top, top, top, top, top, top, top, top, top, top, top, top, top, top], [(38, .cells [zi 22, zi 2, zu 0, zu 5, zu 1, zi 2, zi 1, zi 0, zi 0, zi 0, zu 0, .bool false, .slice none 0 0] 13), (30, .cells [zs 13 0 14 14] 1), (13, .cells [zu 2, zi 1, zu 2, zi 0, zu 0, zi 0, zu 5, zi 0, zu 1, zi 0, zu 0, zi 0, zu 0, zi 0, zu 13, zi 1, zu 5, zi 0, zu 5, zi 0, zu 0, zi 0, zu 4, zi 0, zu 1, zi 0, zu 5, zi 0] 28), (0, .cells [zi 1, zi 1, zi 1] 3)], 1115⟩
def T44 : CS := ⟨[.bool false, zp 0 0, zp 30 0, zp 38 0, top, top, top, top, top, zi 46, top, top, top, top, top, top, top, top, top, top, top, top, top, top, top, top, top, top, top, top, top, top, top, top, top, top, top, top, top, top, top, top, top, top, top, top, top, top, top, top, top, top, top, top, top, top, top, top, top, top, top, top, top, top, top, top, top, top, top, top, top, top, top, top, top, top, top, top, top, top, top, top, top, top, top, top, top, top, top, top, top, top, top, top, top, top], [(38, .cells [zi 20, zi 2, zu 0, zu 5, zu 1, zi 2, zi 2, zi 0, zi 0, zi 0, zu 0, .bool false, .slice none 0 0] 13), (30, .cells [zs 13 0 14 14] 1), (13, .cells [zu 2, zi 1, zu 2, zi 0, zu 0, zi 0, zu 5, zi 0, zu 1, zi 0, zu 0, zi 0, zu 0, zi 0, zu 0, zi 0, zu 5, zi 0, zu 5, zi 0, zu 0, zi 0, zu 4, zi 0, zu 1, zi 0, zu 5, zi 0] 28), (0, .cells [zi 1, zi 1, zi 1] 3)], 1133⟩
def T45 : CS := ⟨[.bool false, zp 0 0, zp 30 0, zp 38 0, top, top, top, top, top, zi 47, top, top, top, top, top, top, top, top, top, top, top, top, top, top, top, top, top, top, top, top, top, top, top, top, top, top, top, top, top, top, top, top, top, top, top, top, top, top, top, top, top, top, top, top, top, top, top, top, top, top, top, top, top, top, top, top, top, top, top, top, top, top, top, top, top, top, top, top, top, top, top, top, top, top, top, top, top, top, top, top, top, top, top, top, top, top], [(38, .cells [zi 21, zi 2, zu 0, zu 5, zu 1, zi 2, zi 2, zi 0, zi 0, zi 0, zu 0, .bool false, .slice none 0 0] 13), (30, .cells [zs 13 0 14 14] 1), (13, .cells [zu 2, zi 1, zu 2, zi 0, zu 0, zi 0, zu 5, zi 0, zu 1, zi 0, zu 0, zi 0, zu 0, zi 0, zu 0, zi 0, zu 5, zi 1, zu 5, zi 0, zu 0, zi 0, zu 4, zi 0, zu 1, zi 0, zu 5, zi 0] 28), (0, .cells [zi 1, zi 1, zi 1] 3)], 1151⟩
def T46 : CS := ⟨[.bool false, zp 0 0, zp 30 0, zp 38 0, top, top, top, top, top, zi 48, top, top, top, top, top, top, top, top, top, top, top, top, top, top, top, top, top, top, top, top, top, top, top, top, top, top, top, top, top, top, top, top, top, top, top, top, top, top, top, top, top, top, top, top, top, top, top, top, top, top, top, top, top, top, top, top, top, top, top, top, top, top, top, top, top, top, top, top, top, top, top, top, top, top, top, top, top, top, top, top, top, top, top, top, top, top], [(38, .cells [zi 22, zi 2, zu 0, zu 5, zu 1, zi 2, zi 2, zi 0, zi 0, zi 0, zu 0, .bool false, .slice none 0 0] 13), (30, .cells [zs 13 0 14 14] 1), (13, .cells [zu 2, zi 1, zu 2, zi 0, zu 0, zi 0, zu 5, zi 0, zu 1, zi 0, zu 0, zi 0, zu 0, zi 0, zu 0, zi 0, zu 5, zi 1, zu 5, zi 0, zu 0, zi 0, zu 4, zi 0, zu 1, zi 0, zu 5, zi 0] 28), (0, .cells [zi 1, zi 1, zi 1] 3)], 1169⟩
def T47 : CS := ⟨[.bool false, zp 0 0, zp 30 0, zp 38 0, top, top, top, top, top, zi 49, top, top, top, top, top, top, top, top, top, top, top, top, top, top, top, top, top, top, top, top, top, top, top, top, top, top, top, top, top, top, top, top, top, top, top, top, top, top, top, top, top, top, top, top, top, top, top, top, top, top, top, top, top, top, top, top, top, top, top, top, top, top, top, top, top, top, top, top, top, top, top, top, top, top, top, top, top, top, top, top, top, top, top, top, top, top], [(38, .cells [zi 20, zi 2, zu 0, zu 5, zu 1, zi 2, zi 3, zi 0, zi 0, zi 0, zu 0, .bool false, .slice none 0 0] 13), (30, .cells [zs 13 0 14 14] 1), (13, .cells [zu 2, zi 1, zu 2, zi 0, zu 0, zi 0, zu 5, zi 0, zu 1, zi 0, zu 0, zi 0, zu 0, zi 0, zu 0, zi 0, zu 0, zi 0, zu 5, zi 0, zu 0, zi 0, zu 4, zi 0, zu 1, zi 0, zu 5, zi 0] 28), (0, .cells [zi 1, zi 1, zi 1] 3)], 1187⟩
def T48 : CS := ⟨[.bool false, zp 0 0, zp 30 0, zp 38 0, top, top, top, top, top, zi 50, top, top, top, top, top, top, top, top, top, top, top, top, top, top, top, top, top, top, top, top, top, top, top, top, top, top, top, top, top, top, top, top, top, top, top, top, top, top, top, top, top, top, top, top, top, top, top, top, top, top, top, top, top, top, top, top, top, top, top, top, top, top, top, top, top, top, top, top, top, top, top, top, top, top, top, top, top, top, top, top, top, top, top, top, top, top], [(38, .cells [zi 21, zi 2, zu 0, zu 5, zu 1, zi 2, zi 3, zi 0, zi 0, zi 0, zu 0, .bool false, .slice none 0 0] 13), (30, .cells [zs 13 0 14 14] 1), (13, .cells [zu 2, zi 1, zu 2, zi 0, zu 0, zi 0, zu 5, zi 0, zu 1, zi 0, zu 0, zi 0, zu 0, zi 0, zu 0, zi 0, zu 0, zi 0, zu 5, zi 1, zu 0, zi 0, zu 4, zi 0, zu 1, zi 0, zu 5, zi 0] 28), (0, .cells [zi 1, zi 1, zi 1] 3)], 1205⟩
def T49 : CS := ⟨[.bool false, zp 0 0, zp 30 0, zp 38 0, top, top, top, top, top, zi 51, top, top, top, top, top, top, top, top, top, top, top, top, top, top, top, top, top, top, top, top, top, top, top, top, top, top, top, top, top, top, top, top, top, top, top, top, top, top, top, top, top, top, top, top, top, top, top, top, top, top, top, top, top, top, top, top, top, top, top, top, top, top, top, top, top, top, top, top, top, top, top, top, top, top, top, top, top, top, top, top, top, top, top, top, top, top], [(38, .cells [zi 22, zi 2, zu 0, zu 5, zu 1, zi 2, zi 3, zi 0, zi 0, zi 0, zu 0, .bool false, .slice none 0 0] 13), (30, .cells [zs 13 0 14 14] 1), (13, .cells [zu 2, zi 1, zu 2, zi 0, zu 0, zi 0, zu 5, zi 0, zu 1, zi 0, zu 0, zi 0, zu 0, zi 0, zu 0, zi 0, zu 0, zi 0, zu 5, zi 1, zu 0, zi 0, zu 4, zi 0, zu 1, zi 0, zu 5, zi 0] 28), (0, .cells [zi 1, zi 1, zi 1] 3)], 1223⟩
def T50 : CS := ⟨[.bool false, zp 0 0, zp 30 0, zp 38 0, top, top, top, top, top, zi 52, top, top, top, top, top, top, top, top, top, top, top, top, top, top, top, top, top, top, top, top, top, top, top, top, top, top, top, top, top, top, top, top, top, top, top, top, top, top, top, top, top, top, top, top, top, top, top, top, top, top, top, top, top, top, top, top, top, top, top, top, top, top, top, top, top, top, top, top, top, top, top, top, top, top, top, top, top, top, top, top, top, top, top, top, top, top], [(38, .cells [zi 20, zi 2, zu 0, zu 5, zu 1, zi 2, zi 4, zi 0, zi 0, zi 0, zu 0, .bool false, .slice none 0 0] 13), (30, .cells [zs 13 0 14 14] 1), (13, .cells [zu 2, zi 1, zu 2, zi 0, zu 0, zi 0, zu 5, zi 0, zu 1, zi 0, zu 0, zi 0, zu 0, zi 0, zu 0, zi 0, zu 0, zi 0, zu 0, zi 0, zu 0, zi 0, zu 4, zi 0, zu 1, zi 0, zu 5, zi 0] 28), (0, .cells [zi 1, zi 1, zi 1] 3)], 1241⟩
def T51 : CS := ⟨[.bool false, zp 0 0, zp 30 0, zp 38 0, top, top, top, top, top, zi 53, top, top, top, top, top, top, top, top, top, top, top, top, top, top, top, top, top, top, top, top, top, top, top, top, top, top, top, top, top, top, top, top, top, top, top, top, top, top, top, top, top, top, top, top, top, top, top, top, top, top, top, top, top, top, top, top, top, top, top, top, top, top, top, top, top, top, top, top, top, top, top, top, top, top, top, top, top, top, top, top, top, top, top, top, top, top], [(38, .cells [zi 21, zi 2, zu 0, zu 5, zu 1, zi 2, zi 4, zi 0, zi 0, zi 0, zu 0, .bool true, .slice none 0 0] 13), (30, .cells [zs 13 0 14 14] 1), (13, .cells [zu 2, zi 1, zu 2, zi 0, zu 0, zi 0, zu 5, zi 0, zu 1, zi 0, zu 0, zi 0, zu 0, zi 0, zu 0, zi 0, zu 0, zi 0, zu 0, zi 0, zu 0, zi 1, zu 4, zi 0, zu 1, zi 0, zu 5, zi 0] 28), (0, .cells [zi 1, zi 1, zi 1] 3)], 1259⟩
def T52 : CS := ⟨[.bool false, zp 0 0, zp 30 0, zp 38 0, top, top, top, top, top, zi 54, top, top, top, top, top, top, top, top, top, top, top, top, top, top, top, top, top, top, top, top, top, top, top, top, top, top, top, top, top, top, top, top, top, top, top, top, top, top, top, top, top, top, top, top, top, top, top, top, top, top, top, top, top, top, top, top, top, top, top, top, top, top, top, top, top, top, top, top, top, top, top, top, top, top, top, top, top, top, top, top, top, top, top, top, top, top], [(38, .cells [zi 23, zi 2, zu 0, zu 5, zu 1, zi 2, zi 4, zi 0, zi 0, zi 0, zu 0, .bool false, .slice none 0 0] 13), (30, .cells [zs 13 0 14 14] 1), (13, .cells [zu 2, zi 1, zu 2, zi 0, zu 0, zi 0, zu 5, zi 0, zu 1, zi 0, zu 0, zi 0, zu 0, zi 0, zu 0, zi 0, zu 0, zi 0, zu 0, zi 0, zu 0, zi 1, zu 4, zi 0, zu 1, zi 0, zu 5, zi 0] 28), (0, .cells [zi 1, zi 1, zi 1] 3)], 1277⟩
def T53 : CS := ⟨[.bool false, zp 0 0, zp 30 0, zp 38 0, top, top, top, top, top, zi 55, top, top, top, top, top, top, top, top, top, top, top, top, top, top, top, top, top, top, top, top, top, top, top, top, top, top, top, top, top, top, top, top, top, top, top, top, top, top, top, top, top, top, top, top, top, top, top, top, top, top, top, top, top, top, top, top, top, top, top, top, top, top, top, top, top, top, top, top, top, top, top, top, top, top, top, top, top, top, top, top, top, top, top, top, top, top], [(38, .cells [zi 20, zi 2, zu 0, zu 5, zu 1, zi 2, zi 5, zi 0, zi 0, zi 0, zu 0, .bool false, .slice none 0 0] 13), (30, .cells [zs 13 0 14 14] 1), (13, .cells [zu 2, zi 1, zu 2, zi 0, zu 0, zi 0, zu 5, zi 0, zu 1, zi 0, zu 0, zi 0, zu 0, zi 0, zu 0, zi 0, zu 0, zi 0, zu 0, zi 0, zu 0, zi 0, zu 4, zi 0, zu 1, zi 0, zu 5, zi 0] 28), (0, .cells [zi 1, zi 1, zi 1] 3)], 1295⟩
def T54 : CS := ⟨[.bool false, zp 0 0, zp 30 0, zp 38 0, top, top, top, top, top, zi 56, top, top, top, top, top, top, top, top, top, top, top, top, top, top, top, top, top, top, top, top, top, top, top, top, top, top, top, top, top, top, top, top, top, top, top, top, top, top, top, top, top, top, top, top, top, top, top, top, top, top, top, top, top, top, top, top, top, top, top, top, top, top, top, top, top, top, top, top, top, top, top, top, top, top, top, top, top, top, top, top, top, top, top, top, top, top], [(38, .cells [zi 21, zi 2, zu 0, zu 5, zu 1, zi 2, zi 5, zi 0, zi 0, zi 0, zu 0, .bool false, .slice none 0 0] 13), (30, .cells [zs 13 0 14 14] 1), (13, .cells [zu 2, zi 1, zu 2, zi 0, zu 0, zi 0, zu 5, zi 0, zu 1, zi 0, zu 0, zi 0, zu 0, zi 0, zu 0, zi 0, zu 0, zi 0, zu 0, zi 0, zu 0, zi 0, zu 4, zi 1, zu 1, zi 0, zu 5, zi 0] 28), (0, .cells [zi 1, zi 1, zi 1] 3)], 1313⟩
def T55 : CS := ⟨[.bool false, zp 0 0, zp 30 0, zp 38 0, top, top, top, top, top, zi 57, top, top, top, top, top, top, top, top, top, top, top, top, top, top, top, top, top, top, top, top, top, top, top, top, top, top, top, top, top, top, top, top, top, top, top, top, top, top, top, top, top, top, top, top, top, top, top, top, top, top, top, top, top, top, top, top, top, top, top, top, top, top, top, top, top, top, top, top, top, top, top, top, top, top, top, top, top, top, top, top, top, top, top, top, top, top], [(38, .cells [zi 22, zi 2, zu 0, zu 5, zu 1, zi 2, zi 5, zi 0, zi 0, zi 0, zu 0, .bool false, .slice none 0 0] 13), (30, .cells [zs 13 0 14 14] 1), (13, .cells [zu 2, zi 1, zu 2, zi 0, zu 0, zi 0, zu 5, zi 0, zu 1, zi 0, zu 0, zi 0, zu 0, zi 0, zu 0, zi 0, zu 0, zi 0, zu 0, zi 0, zu 0, zi 0, zu 4, zi 1, zu 1, zi 0, zu 5, zi 0] 28), (0, .cells [zi 1, zi 1, zi 1] 3)], 1331⟩
def T56 : CS := ⟨[.bool false, zp 0 0, zp 30 0, zp 38 0, top, top, top, top, top, zi 58, top, top, top, top, top, top, top, top, top, top, top, top, top, top, top, top, top, top, top, top, top, top, top, top, top, top, top, top, top, top, top, top, top, top, top, top, top, top, top, top, top, top, top, top, top, top, top, top, top, top, top, top, top, top, top, top, top, top, top, top, top, top, top, top, top, top, top, top, top, top, top, top, top, top, top, top, top, top, top, top, top, top, top, top, top, top], [(38, .cells [zi 20, zi 2, zu 0, zu 5, zu 1, zi 2, zi 6, zi 0, zi 0, zi 0, zu 0, .bool false, .slice none 0 0] 13), (30, .cells [zs 13 0 14 14] 1), (13, .cells [zu 2, zi 1, zu 2, zi 0, zu 0, zi 0, zu 5, zi 0, zu 1, zi 0, zu 0, zi 0, zu 0, zi 0, zu 0, zi 0, zu 0, zi 0, zu 0, zi 0, zu 0, zi 0, zu 0, zi 0, zu 1, zi 0, zu 5, zi 0] 28), (0, .cells [zi 1, zi 1, zi 1] 3)], 1349⟩
def T57 : CS := ⟨[.bool false, zp 0 0, zp 30 0, zp 38 0, top, top, top, top, top, zi 59, top, top, top, top, top, top, top, top, top, top, top, top, top, top, top, top, top, top, top, top, top, top, top, top, top, top, top, top, top, top, top, top, top, top, top, top, top, top, top, top, top, top, top, top, top, top, top, top, top, top, top, top, top, top, top, top, top, top, top, top, top, top, top, top, top, top, top, top, top, top, top, top, top, top, top, top, top, top, top, top, top, top, top, top, top, top], [(38, .cells [zi 21, zi 2, zu 0, zu 5, zu 1, zi 2, zi 6, zi 0, zi 0, zi 0, zu 0, .bool false, .slice none 0 0] 13), (30, .cells [zs 13 0 14 14] 1), (13, .cells [zu 2, zi 1, zu 2, zi 0, zu 0, zi 0, zu 5, zi 0, zu 1, zi 0, zu 0, zi 0, zu 0, zi 0, zu 0, zi 0, zu 0, zi 0, zu 0, zi 0, zu 0, zi 0, zu 0, zi 0, zu 1, zi 1, zu 5, zi 0] 28), (0, .cells [zi 1, zi 1, zi 1] 3)], 1367⟩
def T58 : CS := ⟨[.bool false, zp 0 0, zp 30 0, zp 38 0, top, top, top, top, top, zi 60, top, top, top, top, top, top, top, top, top, top, top, top, top, top, top, top, top, top, top, top, top, top, top, top, top, top, top, top, top, top, top, top, top, top, top, top, top, top, top, top, top, top, top, top, top, top, top, top, top, top, top, top, top, top, top, top, top, top, top, top, top, top, top, top, top, top, top, top, top, top, top, top, top, top, top, top, top, top, top, top, top, top, top, top, top, top], [(38, .cells [zi 22, zi 2, zu 0, zu 5, zu 1, zi 2, zi 6, zi 0, zi 0, zi 0, zu 0, .bool false, .slice none 0 0] 13), (30, .cells [zs 13 0 14 14] 1), (13, .cells [zu 2, zi 1, zu 2, zi 0, zu 0, zi 0, zu 5, zi 0, zu 1, zi 0, zu 0, zi 0, zu 0, zi 0, zu 0, zi 0, zu 0, zi 0, zu 0, zi 0, zu 0, zi 0, zu 0, zi 0, zu 1, zi 1, zu 5, zi 0] 28), (0, .cells [zi 1, zi 1, zi 1] 3)], 1385⟩
def T59 : CS := ⟨[.bool false, zp 0 0, zp 30 0, zp 38 0, top, top, top, top, top, zi 61, top, top, top, top, top, top, top, top, top, top, top, top, top, top, top, top, top, top, top, top, top, top, top, top, top, top, top, top, top, top, top, top, top, top, top, top, top, top, top, top, top, top, top, top, top, top, top, top, top, top, top, top, top, top, top, top, top, top, top, top, top, top, top, top, top, top, top, top, top, top, top, top, top, top, top, top, top, top, top, top, top, top, top, top, top, top], [(38, .cells [zi 25, zi 2, zu 0, zu 5, zu 1, zi 2, zi 0, zi 0, zi 0, zi 0, zu 0, .bool false, .slice none 0 0] 13), (30, .cells [zs 13 0 14 14] 1), (13, .cells [zu 2, zi 1, zu 2, zi 0, zu 0, zi 0, zu 5, zi 0, zu 1, zi 0, zu 0, zi 0, zu 0, zi 0, zu 0, zi 0, zu 0, zi 0, zu 0, zi 0, zu 0, zi 0, zu 0, zi 0, zu 0, zi 0, zu 5, zi 0] 28), (0, .cells [zi 1, zi 1, zi 1] 3)], 1403⟩
def T60 : CS := ⟨[.bool false, zp 0 0, zp 30 0, zp 38 0, top, top, top, top, top, zi 62, top, top, top, top, top, top, top, top, top, top, top, top, top, top, top, top, top, top, top, top, top, top, top, top, top, top, top, top, top, top, top, top, top, top, top, top, top, top, top, top, top, top, top, top, top, top, top, top, top, top, top, top, top, top, top, top, top, top, top, top, top, top, top, top, top, top, top, top, top, top, top, top, top, top, top, top, top, top, top, top, top, top, top, top, top, top], [(38, .cells [zi 5, zi 2, zu 0, zu 5, zu 1, zi 1, zi 0, zi 0, zi 0, zi 0, zu 0, .bool false, .slice none 0 0] 13), (30, .cells [zs 13 0 14 14] 1), (13, .cells [zu 0, zi 0, zu 2, zi 0, zu 0, zi 0, zu 5, zi 0, zu 1, zi 0, zu 0, zi 0, zu 0, zi 0, zu 0, zi 0, zu 0, zi 0, zu 0, zi 0, zu 0, zi 0, zu 0, zi 0, zu 0, zi 0, zu 5, zi 0] 28), (0, .cells [zi 1, zi 1, zi 1] 3)], 1421⟩
def T61 : CS := ⟨[.bool false, zp 0 0, zp 30 0, zp 38 0, top, top, top, top, top, zi 63, top, top, top, top, top, top, top, top, top, top, top, top, top, top, top, top, top, top, top, top, top, top, top, top, top, top, top, top, top, top, top, top, top, top, top, top, top, top, top, top, top, top, top, top, top, top, top, top, top, top, top, top, top, top, top, top, top, top, top, top, top, top, top, top, top, top, top, top, top, top, top, top, top, top, top, top, top, top, top, top, top, top, top, top, top, top], [(38, .cells [zi 9, zi 2, zu 0, zu 5, zu 1, zi 1, zi 0, zi 0, zi 0, zi 0, zu 0, .bool false, .slice none 0 0] 13), (30, .cells [zs 13 0 14 14] 1), (13, .cells [zu 0, zi 1, zu 2, zi 0, zu 0, zi 0, zu 5, zi 0, zu 1, zi 0, zu 0, zi 0, zu 0, zi 0, zu 0, zi 0, zu 0, zi 0, zu 0, zi 0, zu 0, zi 0, zu 0, zi 0, zu 0, zi 0, zu 5, zi 0] 28), (0, .cells [zi 1, zi 1, zi 1] 3)], 1439⟩
def T62 : CS := ⟨[.bool false, zp 0 0, zp 30 0, zp 38 0, top, top, top, top, top, zi 64, top, top, top, top, top, top, top, top, top, top, top, top, top, top, top, top, top, top, top, top, top, top, top, top, top, top, top, top, top, top, top, top, top, top, top, top, top, top, top, top, top, top, top, top, top, top, top, top, top, top, top, top, top, top, top, top, top, top, top, top, top, top, top, top, top, top, top, top, top, top, top, top, top, top, top, top, top, top, top, top, top, top, top, top, top, top], [(38, .cells [zi 26, zi 2, zu 0, zu 5, zu 1, zi 0, zi 0, zi 0, zi 0, zi 0, zu 0, .bool false, .slice none 0 0] 13), (30, .cells [zs 13 0 14 14] 1), (13, .cells [zu 0, zi 0, zu 2, zi 0, zu 0, zi 0, zu 5, zi 0, zu 1, zi 0, zu 0, zi 0, zu 0, zi 0, zu 0, zi 0, zu 0, zi 0, zu 0, zi 0, zu 0, zi 0, zu 0, zi 0, zu 0, zi 0, zu 5, zi 0] 28), (0, .cells [zi 1, zi 1, zi 1] 3)], 1457⟩
def T63 : CS := ⟨[.bool false, zp 0 0, zp 30 0, zp 38 0, top, top, top, top, top, zi 65, top, top, top, top, top, top, top, top, top, top, top, top, top, top, top, top, top, top, top, top, top, top, top, top, top, top, top, top, top, top, top, top, top, top, top, top, top, top, top, top, top, top, top, top, top, top, top, top, top, top, top, top, top, top, top, top, top, top, top, top, top, top, top, top, top, top, top, top, top, top, top, top, top, top, top, top, top, top, top, top, top, top, top, top, top, top], [(38, .cells [zi 27, zi 2, zu 0, zu 5, zu 1, zi 0, zi 0, zi 0, zi 0, zi 0, zu 0, .bool false, .slice none 0 0] 13), (30, .cells [zs 13 0 14 14] 1), (13, .cells [zu 0, zi 0, zu 0, zi 0, zu 0, zi 0, zu 5, zi 0, zu 1, zi 0, zu 0, zi 0, zu 0, zi 0, zu 0, zi 0, zu 0, zi 0, zu 0, zi 0, zu 0, zi 0, zu 0, zi 0, zu 0, zi 0, zu 5, zi 0] 28), (0, .cells [zi 1, zi 1, zi 1] 3)], 1475⟩
def T64 : CS := ⟨[.bool false, zp 0 0, zp 30 0, zp 38 0, top, top, top, top, top, zi 66, top, top, top, top, top, top, top, top, top, top, top, top, top, top, top, top, top, top, top, top, top, top, top, top, top, top, top, top, top, top, top, top, top, top, top, top, top, top, top, top, top, top, top, top, top, top, top, top, top, top, top, top, top, top, top, top, top, top, top, top, top, top, top, top, top, top, top, top, top, top, top, top, top, top, top, top, top, top, top, top, top, top, top, top, top, top], [(38, .cells [zi 28, zi 2, zu 0, zu 5, zu 1, zi 0, zi 0, zi 0, zi 0, zi 0, zu 0, .bool false, .slice none 0 0] 13), (30, .cells [zs 13 0 14 14] 1), (13, .cells [zu 0, zi 0, zu 0, zi 0, zu 0, zi 0, zu 5, zi 0, zu 1, zi 0, zu 0, zi 0, zu 0, zi 0, zu 0, zi 0, zu 0, zi 0, zu 0, zi 0, zu 0, zi 0, zu 0, zi 0, zu 0, zi 0, zu 5, zi 0] 28), (0, .cells [zi 1, zi 1, zi 1] 3)], 1493⟩
def T65 : CS := ⟨[.bool false, zp 0 0, zp 30 0, zp 38 0, top, top, top, top, top, zi 67, top, top, top, top, top, top, top, top, top, top, top, top, top, top, top, top, top, top, top, top, top, top, top, top, top, top, top, top, top, top, top, top, top, top, top, top, top, top, top, top, top, top, top, top, top, top, top, top, top, top, top, top, top, top, top, top, top, top, top, top, top, top, top, top, top, top, top, top, top, top, top, top, top, top, top, top, top, top, top, top, top, top, top, top, top, top], [(38, .cells [zi 29, zi 2, zu 0, zu 5, zu 1, zi 0, zi 0, zi 0, zi 0, zi 0, zu 0, .bool false, .slice none 0 0] 13), (30, .cells [zs 13 0 14 14] 1), (13, .cells [zu 0, zi 0, zu 0, zi 0, zu 0, zi 0, zu 0, zi 0, zu 1, zi 0, zu 0, zi 0, zu 0, zi 0, zu 0, zi 0, zu 0, zi 0, zu 0, zi 0, zu 0, zi 0, zu 0, zi 0, zu 0, zi 0, zu 5, zi 0] 28), (0, .cells [zi 1, zi 1, zi 1] 3)], 1511⟩
def T66 : CS := ⟨[.bool false, zp 0 0, zp 30 0, zp 38 0, top, top, top, top, top, zi 68, top, top, top, top, top, top, top, top, top, top, top, top, top, top, top, top, top, top, top, top, top, top, top, top, top, top, top, top, top, top, top, top, top, top, top, top, top, top, top, top, top, top, top, top, top, top, top, top, top, top, top, top, top, top, top, top, top, top, top, top, top, top, top, top, top, top, top, top, top, top, top, top, top, top, top, top, top, top, top, top, top, top, top, top, top, top], [(38, .cells [zi 30, zi 2, zu 0, zu 5, zu 1, zi 0, zi 0, zi 0, zi 0, zi 0, zu 0, .bool false, .slice none 0 0] 13), (30, .cells [zs 13 0 14 14] 1), (13, .cells [zu 0, zi 0, zu 0, zi 0, zu 0, zi 0, zu 0, zi 0, zu 1, zi 0, zu 0, zi 0, zu 0, zi 0, zu 0, zi 0, zu 0, zi 0, zu 0, zi 0, zu 0, zi 0, zu 0, zi 0, zu 0, zi 0, zu 5, zi 0] 28), (0, .cells [zi 1, zi 1, zi 1] 3)], 1529⟩
def T67 : CS := ⟨[.bool false, zp 0 0, zp 30 0, zp 38 0, top, top, top, top, top, zi 69, top, top, top, top, top, top, top, top, top, top, top, top, top, top, top, top, top, top, top, top, top, top, top, top, top, top, top, top, top, top, top, top, top, top, top, top, top, top, top, top, top, top, top, top, top, top, top, top, top, top, top, top, top, top, top, top, top, top, top, top, top, top, top, top, top, top, top, top, top, top, top, top, top, top, top, top, top, top, top, top, top, top, top, top, top, top], [(38, .cells [zi 31, zi 2, zu 0, zu 5, zu 1, zi 0, zi 0, zi 0, zi 0, zi 0, zu 0, .bool false, .slice none 0 0] 13), (30, .cells [zs 13 0 14 14] 1), (13, .cells [zu 0, zi 0, zu 0, zi 0, zu 0, zi 0, zu 0, zi 0, zu 1, zi 0, zu 0, zi 0, zu 0, zi 0, zu 0, zi 0, zu 0, zi 0, zu 0, zi 0, zu 0, zi 0, zu 0, zi 0, zu 0, zi 0, zu 5, zi 0] 28), (0, .cells [zi 1, zi 1, zi 1] 3)], 1547⟩
def T68 : CS := ⟨[.bool false, zp 0 0, zp 30 0, zp 38 0, top, top, top, top, top, zi 70, top, top, top, top, top, top, top, top, top, top, top, top, top, top, top, top, top, top, top, top, top, top, top, top, top, top, top, top, top, top, top, top, top, top, top, top, top, top, top, top, top, top, top, top, top, top, top, top, top, top, top, top, top, top, top, top, top, top, top, top, top, top, top, top, top, top, top, top, top, top, top, top, top, top, top, top, top, top, top, top, top, top, top, top, top, top], [(38, .cells [zi 0, zi 0, zu 0, zu 0, zu 0, zi 0, zi 0, zi 0, zi 0, zi 0, zu 0, .bool false, .slice none 0 0] 13), (30, .cells [zs 13 0 14 14] 1), (13, .cells [zu 0, zi 0, zu 0, zi 0, zu 0, zi 0, zu 0, zi 0, zu 0, zi 0, zu 0, zi 0, zu 0, zi 0, zu 0, zi 0, zu 0, zi 0, zu 0, zi 0, zu 0, zi 0, zu 0, zi 0, zu 0, zi 0, zu 5, zi 0] 28), (0, .cells [zi 1, zi 1, zi 1] 3)], 1566⟩
def TE : CS := ⟨[.bool false, zp 0 0, zp 30 0, zp 38 0, top, top, top, top, top, zi 70, top, top, top, top, top, top, top, top, top, top, top, top, top, top, top, top, top, top, top, top, top, top, top, top, top, top, top, top, top, top, top, top, top, top, top, top, top, top, top, top, top, top, top, top, top, top, top, top, top, top, top, top, top, top, top, top, top, top, top, top, top, top, top, top, top, top, top, top, top, top, top, top, top, top, top, top, top, top, top, top, top, top, top, top, top, top], [(38, .cells [zi 0, zi 0, zu 0, zu 0, zu 0, zi 0, zi 0, zi 0, zi 0, zi 0, zu 0, .bool false, .slice none 0 0] 13), (30, .cells [zs 13 0 14 14] 1), (13, .cells [zu 0, zi 0, zu 0, zi 0, zu 0, zi 0, zu 0, zi 0, zu 0, zi 0, zu 0, zi 0, zu 0, zi 0, zu 0, zi 0, zu 0, zi 0, zu 0, zi 0, zu 0, zi 0, zu 0, zi 0, zu 0, zi 0, zu 5, zi 0] 28), (0, .cells [zi 1, zi 1, zi 1] 3)], 1566⟩
def S9 : CS := ⟨[.bool true, zp 0 0, zp 30 0, zp 38 0, top, top, top, top, top, zi 70, top, top, top, top, top, top, top, top, top, top, top, top, top, top, top, top, top, top, top, top, top, top, top, top, top, top, top, top, top, top, top, top, top, top, top, top, top, top, top, top, top, top, top, top, top, top, top, top, top, top, top, top, top, top, top, top, top, top, top, top, top, top, top, top, top, top, top, top, top, top, top, top, top, top, top, top, .agg ⟨[zi 0, zi 0, zu 0, zu 0, zu 0, zi 0, zi 0, zi 0, zi 0, zi 0, zu 0, .bool false, .slice none 0 0]⟩, .agg ⟨[zi 0, zi 0, zu 0, zu 0, zu 0, zi 0, zi 0, zi 0, zi 0, zi 0, zu 0, .bool false, .slice none 0 0]⟩, .bool true, .bool true, .agg ⟨[zs 13 0 14 14]⟩, .agg ⟨[zi 1, zi 1, zi 1]⟩, zs 1568 0 1 1, .agg ⟨[zs 1580 0 14 14]⟩, .bool true, .bool true], [(1598, .cells [zs 1580 0 14 14] 1), (1597, .cells [zs 13 0 14 14] 1), (1581, .cells [zs 1580 0 14 14] 1), (1580, .cells [zu 0, zi 0, zu 0, zi 0, zu 0, zi 0, zu 0, zi 0, zu 0, zi 0, zu 0, zi 0, zu 0, zi 0, zu 0, zi 0, zu 0, zi 0, zu 0, zi 0, zu 0, zi 0, zu 0, zi 0, zu 0, zi 0, zu 5, zi 0] 28), (1570, .cells [zs 1580 0 14 14] 1), (1569, .cells [zi 1, zi 1, zi 1] 3), (1568, .cells [zu 5] 1), (1567, .cells [zi 0, zi 0, zu 0, zu 0, zu 0, zi 0, zi 0, zi 0, zi 0, zi 0, zu 0, .bool false, .slice none 0 0] 13), (1566, .cells [zi 0, zi 0, zu 0, zu 0, zu 0, zi 0, zi 0, zi 0, zi 0, zi 0, zu 0, .bool false, .slice none 0 0] 13), (38, .cells [zi 0, zi 0, zu 0, zu 0, zu 0, zi 0, zi 0, zi 0, zi 0, zi 0, zu 0, .bool false, .slice none 0 0] 13), (30, .cells [zs 13 0 14 14] 1), (13, .cells [zu 0, zi 0, zu 0, zi 0, zu 0, zi 0, zu 0, zi 0, zu 0, zi 0, zu 0, zi 0, zu 0, zi 0, zu 0, zi 0, zu 0, zi 0, zu 0, zi 0, zu 0, zi 0, zu 0, zi 0, zu 0, zi 0, zu 5, zi 0] 28), (0, .cells [zi 1, zi 1, zi 1] 3)], 1599⟩
def S10 : CS := ⟨[.bool true, zp 0 0, zp 30 0, zp 38 0, top, top, top, top, top, zi 70, top, top, top, top, top, top, top, top, top, top, top, top, top, top, top, top, top, top, top, top, top, top, top, top, top, top, top, top, top, top, top, top, top, top, top, top, top, top, top, top, top, top, top, top, top, top, top, top, top, top, top, top, top, top, top, top, top, top, top, top, top, top, top, top, top, top, top, top, top, top, top, top, top, top, top, top, .agg ⟨[zi 0, zi 0, zu 0, zu 0, zu 0, zi 0, zi 0, zi 0, zi 0, zi 0, zu 0, .bool false, .slice none 0 0]⟩, .agg ⟨[zi 0, zi 0, zu 0, zu 0, zu 0, zi 0, zi 0, zi 0, zi 0, zi 0, zu 0, .bool false, .slice none 0 0]⟩, .bool true, .bool true, .agg ⟨[zs 13 0 14 14]⟩, .agg ⟨[zi 1, zi 1, zi 1]⟩, zs 1568 0 1 1, .agg ⟨[zs 1580 0 14 14]⟩, .bool true, .bool true], [(1598, .cells [zs 1580 0 14 14] 1), (1597, .cells [zs 13 0 14 14] 1), (1581, .cells [zs 1580 0 14 14] 1), (1580, .cells [zu 0, zi 0, zu 0, zi 0, zu 0, zi 0, zu 0, zi 0, zu 0, zi 0, zu 0, zi 0, zu 0, zi 0, zu 0, zi 0, zu 0, zi 0, zu 0, zi 0, zu 0, zi 0, zu 0, zi 0, zu 0, zi 0, zu 5, zi 0] 28), (1570, .cells [zs 1580 0 14 14] 1), (1569, .cells [zi 1, zi 1, zi 1] 3), (1568, .cells [zu 5] 1), (1567, .cells [zi 0, zi 0, zu 0, zu 0, zu 0, zi 0, zi 0, zi 0, zi 0, zi 0, zu 0, .bool false, .slice none 0 0] 13), (1566, .cells [zi 0, zi 0, zu 0, zu 0, zu 0, zi 0, zi 0, zi 0, zi 0, zi 0, zu 0, .bool false, .slice none 0 0] 13), (38, .cells [zi 0, zi 0, zu 0, zu 0, zu 0, zi 0, zi 0, zi 0, zi 0, zi 0, zu 0, .bool false, .slice none 0 0] 13), (30, .cells [zs 13 0 14 14] 1), (13, .cells [zu 0, zi 0, zu 0, zi 0, zu 0, zi 0, zu 0, zi 0, zu 0, zi 0, zu 0, zi 0, zu 0, zi 0, zu 0, zi 0, zu 0, zi 0, zu 0, zi 0, zu 0, zi 0, zu 0, zi 0, zu 0, zi 0, zu 5, zi 0] 28), (0, .cells [zi 1, zi 1, zi 1] 3)], 1599⟩
end Go.Proofs.YtbpaekbjpapgeaaGreatDoor.K
