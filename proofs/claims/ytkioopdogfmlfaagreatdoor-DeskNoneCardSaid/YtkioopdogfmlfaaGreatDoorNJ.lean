/- Part of the proof. -/
import Derived.Test.YtkioopdogfmlfaaGreatDoorNE
import Derived.Test.YtkioopdogfmlfaaGreatDoorNG
import Derived.Test.YtkioopdogfmlfaaGreatDoorNH
import Derived.Test.YtkioopdogfmlfaaGreatDoorNI
import Derived.KernelRfl
import Derived.WalkKit
import Derived.Test.YtkioopdogfmlfaaGreatDoorRows
set_option maxRecDepth 100000
set_option maxHeartbeats 8000000
set_option linter.all false
namespace Go.Pv.T
open Go Go.Pv
def S336 : AF := ⟨.seq (sr [qv 8 0,qq 9 (.nilCheck (.t 8)),qf 10 0 9,qs 11 3 10,qv 12 1,qq 13 (.call 222 [.t 11,.t 12]),qq 14 (.lenSl (.t 13)),qn 15 .gtr 14 0] (.cond (.t 15) (.region [qv 16 0,qv 17 1,qq 18 (.call 369 [.t 16,.t 17])]) (.skip))) (sr [qv 19 0,qq 20 (.nilCheck (.t 19)),qf 21 0 20,qf 22 2 21,ql 23 22,qv 24 1,qx 25 3 23 24,qf 26 2 25,ql 27 26,qq 28 (.lenSl (.t 27)),qm 29 0] (.block 0 (.loop (sr [qb 30 .lss 29 28] (.seq (.cond (.t 30) (.skip) (.exit 0)) (.seq (.block 1 (sr [qv 31 29,qx 32 4 27 29,qs 33 4 32,qq 5 (.alloc [(.bool false),(.int .i64 0),(.int .i64 0),(.int .i64 0)]),qv 4 31,qu (.store 4 (.t 5) (.t 33))] (sr [qv 34 1,qv 35 4,qq 36 (.build [(.int .i64 0),(.int .i64 0)] [(0,1,(.t 34)),(1,1,(.t 35))]),qq 6 (.alloc [(.int .i64 0),(.int .i64 0)]),qu (.store 2 (.t 6) (.t 36))] (.seq (.seq (.seq (.draw [qf 37 2 5,qf 38 0 37,ql 39 38,qn 40 .eql 39 2,qv 41 40,qg 42 (.mov (.t 0)) 41 false,qg 43 (.nilCheck (.t 42)) 41 false,qg 44 (.fieldAddr 0 (.t 43)) 41 false,qg 45 (.load (some 3) (.t 44)) 41 false,qg 46 (.load (some 2) (.t 6)) 41 false] []) (.region [qg 47 (.call 257 [.t 45,.t 46]) 41 false,qg 48 (.un .not (.t 47)) 41 false,qq 49 (.pick (.t 41) (.c (.bool true)) (.t 48))])) (.cond (.t 49) (.exit 1) (.skip))) (sr [qv 50 0,qs 51 2 6,qq 52 (.call 370 [.t 50,.t 51]),qv 7 52] (.block 2 (sr [qv 54 7,qq 55 (.lenSl (.t 54)),qn 56 .eql 55 0,qv 53 56] (.cond (.t 53) (.region [qv 57 0,qv 58 1,qq 59 (.call 369 [.t 57,.t 58])]) (sr [qv 61 7,qq 62 (.lenSl (.t 61)),qn 63 .eql 62 1,qv 64 63,qg 65 (.mov (.t 7)) 64 true,qg 66 (.idxSl 1 (.t 65) (nn 0)) 64 true,qg 67 (.load none (.t 66)) 64 true,qg 68 (.bin .geq (.t 67) (nn 0)) 64 true,qq 69 (.pick (.t 64) (.t 68) (.c (.bool false))),qv 70 69,qg 71 (.mov (.t 0)) 70 true,qg 72 (.nilCheck (.t 71)) 70 true,qg 73 (.fieldAddr 3 (.t 72)) 70 true,qg 74 (.load none (.t 73)) 70 true,qg 75 (.mov (.t 1)) 70 true,qg 76 (.lookup .int (.int .i64 0) false (.t 74) (.t 75)) 70 true,qg 77 (.bin .gtr (.t 76) (nn 0)) 70 true,qq 78 (.pick (.t 70) (.t 77) (.c (.bool false))),qv 60 78] (.cond (.t 60) (.seq (.draw [qv 79 0,qv 80 0,qq 81 (.nilCheck (.t 80)),qf 82 3 81,ql 83 82,qv 84 7,qq 85 (.idxSl 1 (.t 84) (nn 0)),ql 86 85] []) (.region [qq 87 (.call 371 [.t 79,.t 83,.t 86])])) (.skip))))))))))) (.region [qn 88 .add 29 1,qv 29 88]))))))),[]⟩
def S340 : AF := ⟨sr [qq 3 (.mov (.c (.bool false)))] (sr [ql 4 1,qq 5 (.nilCheck (.t 4)),qf 6 1 5,qs 7 3 6,qv 8 0,qq 9 (.call 222 [.t 7,.t 8]),qq 10 (.lenSl (.t 9)),qn 11 .gtr 10 0,qv 3 11] (.ret)),[.t 3]⟩
def S357 : AF := ⟨sr [qq 2 (.mov (.c .nilptr))] (sr [qq 6 (.build [(.int .u64 0),(.int .u64 0),(.int .u64 0),(.int .u64 0),(.int .u64 0),(.int .u64 0),(.int .u64 0),(.int .u64 0)] []),qq 7 (.box 8 (.t 6)),qv 3 7] (.seq (sr [qv 8 0,qq 9 (.lenSl (.t 8)),qm 10 0] (.block 0 (.loop (sr [qb 11 .lss 10 9] (.seq (.cond (.t 11) (.skip) (.exit 0)) (.seq (.block 1 (sr [qx 12 1 8 10,ql 13 12,qv 5 13] (.region [qv 14 3,qv 15 5,qq 16 (.call 361 [.t 14,.t 15])]))) (.region [qn 17 .add 10 1,qv 10 17]))))))) (sr [qv 18 3,qv 2 18] (.ret)))),[.t 2]⟩
def S361 : AF := ⟨sr [qm 4 0] (sr [qv 6 0,qv 7 1,qq 8 (.call 395 [.t 6,.t 7]),qv 5 8] (.seq (sr [qv 9 5,qn 10 .eql 9 0] (.cond (.t 10) (.draw [qv 11 0,qv 12 1,qn 13 .quo 12 64,qq 14 (.nilCheck (.t 11)),qf 15 0 14,qq 16 (.idxArr 8 1 (.t 15) (.t 13)),ql 17 16,qv 18 1,qn 19 .rem 18 64,qq 20 (.bin .shl (.c (.int .u64 1)) (.t 19)),qb 21 .or 17 20,qq 22 (.nilCheck (.t 11)),qf 23 0 22,qq 24 (.idxArr 8 1 (.t 23) (.t 13)),qu (.store 1 (.t 24) (.t 21))] []) (.skip))) (sr [qv 25 5,qv 4 25] (.ret)))),[.t 4]⟩
def S362 : AF := ⟨sr [qq 2 (.mov (.c (.sl none true 0 [])))] (.seq (sr [qv 6 0,qq 7 (.eq false .ptr (.t 6) (.c .nilptr))] (.cond (.t 7) (sr [qq 2 (.mov (.c (.sl none true 0 [])))] (.ret)) (.skip))) (sr [qq 3 (.mov (.c (.sl none true 0 [])))] (.seq (sr [qv 8 0,qq 9 (.nilCheck (.t 8)),qf 10 0 9,qs 11 8 10,qm 12 0] (.block 0 (.loop (sr [qn 13 .lss 12 8] (.seq (.cond (.t 13) (.skip) (.exit 0)) (.seq (.block 1 (sr [qv 14 12,qq 15 (.idxVal none 8 1 (.t 11) (.t 12)),qv 4 14,qv 5 15] (.block 2 (.loop (.seq (sr [qv 16 5,qq 17 (.bin .neq (.t 16) (.c (.int .u64 0)))] (.cond (.t 17) (.skip) (.exit 2))) (.seq (.block 3 (.region [qv 22 3,qv 23 4,qn 24 .mul 23 64,qv 25 5,qq 26 (.call 320 [.t 25]),qb 27 .add 24 26,qq 28 (.buildSl true 1 [(.int .i64 0)] [(0,1,(.t 27))] 1),qq 29 (.append true 1 8 (.t 22) (.t 28)),qv 3 29])) (.region [qv 18 5,qv 19 5,qq 20 (.bin .sub (.t 19) (.c (.int .u64 1))),qb 21 .and 18 20,qv 5 21]))))))) (.region [qn 30 .add 12 1,qv 12 30]))))))) (sr [qv 31 3,qv 2 31] (.ret))))),[.t 2]⟩
def S376 : AF := ⟨sr [qq 2 (.box 3 (.t 0)),qq 4 (.mov (.c .nilptr))] (.seq (.draw [qs 15 3 2,qq 16 (.mkMap),qq 17 (.mkMap),qs 18 3 2,qq 19 (.call 221 [.t 18]),qq 20 (.mkMap),qq 21 (.build [(.sl none true 0 []),(.sl none true 0 []),(.sl none true 0 []),(.sl none true 0 []),.nilmap,.nilmap,(.sl none true 0 []),.nilmap,(.int .i64 0),(.bool false),(.sl none true 0 [])] [(0,3,(.t 15)),(4,1,(.t 16)),(5,1,(.t 17)),(6,1,(.t 19)),(7,1,(.t 20))]),qq 22 (.box 11 (.t 21)),qv 5 22] [(0,1),(0,2),(1,2),(1,3),(2,3),(1,4),(2,4),(0,5),(1,5),(2,5),(3,5),(4,5)]) (.seq (sr [qs 23 3 2,qq 24 (.call 223 [.t 23]),qq 25 (.lenSl (.t 24)),qm 26 0] (.block 0 (.loop (sr [qb 27 .lss 26 25] (.seq (.cond (.t 27) (.skip) (.exit 0)) (.seq (.block 1 (sr [qv 28 26,qx 29 2 24 26,qs 30 2 29,qq 7 (.alloc [(.int .i64 0),(.int .i64 0)]),qv 6 28,qu (.store 2 (.t 7) (.t 30))] (.draw [qv 31 5,qv 32 5,qq 33 (.nilCheck (.t 32)),qf 34 3 33,ql 35 34,qf 36 0 7,ql 37 36,qv 38 1,qv 39 6,qx 40 1 38 39,ql 41 40,qf 42 2 2,ql 43 42,qf 44 0 7,ql 45 44,qx 46 3 43 45,qf 47 2 46,ql 48 47,qf 49 1 7,ql 50 49,qx 51 4 48 50,qf 52 1 51,ql 53 52,qq 54 (.build [(.int .i64 0),(.int .i64 0),(.int .i64 0)] [(0,1,(.t 37)),(1,1,(.t 41)),(2,1,(.t 53))]),qq 55 (.buildSl true 3 [(.int .i64 0),(.int .i64 0),(.int .i64 0)] [(0,3,(.t 54))] 1),qq 56 (.append true 3 24 (.t 35) (.t 55)),qq 57 (.nilCheck (.t 31)),qf 58 3 57,qu (.store 1 (.t 58) (.t 56))] [(4,24)]))) (.region [qn 59 .add 26 1,qv 26 59]))))))) (.seq (sr [qv 60 5,qq 61 (.nilCheck (.t 60)),qf 62 6 61,ql 63 62,qq 64 (.lenSl (.t 63)),qm 65 0] (.block 2 (.loop (sr [qb 66 .lss 65 64] (.seq (.cond (.t 66) (.skip) (.exit 2)) (.seq (.block 3 (sr [qv 67 65,qx 68 1 63 65,ql 69 68,qv 8 67,qv 9 69] (.seq (.draw [qv 70 5,qq 71 (.nilCheck (.t 70)),qf 72 4 71,ql 73 72,qv 74 9,qv 75 5,qq 76 (.nilCheck (.t 75)),qf 77 5 76,ql 78 77,qv 79 9,qq 80 (.call 357 [(.c (.sl none true 0 []))]),qq 81 (.call 357 [(.c (.sl none true 0 []))]),qq 82 (.mapEnt .int .nilptr (.t 73) (.t 74)),qe 83 82 1,qu (.entSt (.t 73) (.t 83) (.t 80)),qq 84 (.mapEnt .int .nilptr (.t 78) (.t 79)),qe 85 84 1,qu (.entSt (.t 78) (.t 85) (.t 81))] []) (.seq (sr [qv 86 5,qq 87 (.nilCheck (.t 86)),qf 88 6 87,ql 89 88,qv 90 8,qq 91 (.slSl 1 (.t 89) none (some (.t 90))),qq 92 (.lenSl (.t 91)),qm 93 0] (.block 4 (.loop (sr [qb 94 .lss 93 92] (.seq (.cond (.t 94) (.skip) (.exit 4)) (.seq (.block 5 (sr [qx 95 1 91 93,ql 96 95,qv 11 96] (.seq (.draw [qf 97 2 2,ql 98 97,qv 99 11,qx 100 3 98 99,qf 101 0 100,ql 102 101,qf 103 2 2,ql 104 103,qv 105 9,qx 106 3 104 105,qf 107 0 106,ql 108 107,qb 109 .eql 102 108] []) (.cond (.t 109) (.region [qv 110 5,qq 111 (.nilCheck (.t 110)),qf 112 4 111,ql 113 112,qv 114 9,qq 115 (.lookup .int .nilptr false (.t 113) (.t 114)),qv 116 11,qq 117 (.call 361 [.t 115,.t 116])]) (.skip))))) (.region [qn 118 .add 93 1,qv 93 118]))))))) (sr [qf 119 1 2,ql 120 119,qq 121 (.lenSl (.t 120)),qm 122 0] (.block 6 (.loop (sr [qb 123 .lss 122 121] (.seq (.cond (.t 123) (.skip) (.exit 6)) (.seq (.block 7 (sr [qv 124 122,qv 12 124] (sr [qs 126 3 2,qv 127 9,qv 128 12,qq 129 (.call 185 [.t 126,.t 127,.t 128]),qv 125 129,qe 130 125 0,qe 131 125 1,qq 13 (.alloc [(.int .i64 0),(.int .i64 0)]),qu (.store 2 (.t 13) (.t 130)),qv 14 131] (sr [qv 132 14] (.cond (.t 132) (.region [qv 133 5,qq 134 (.nilCheck (.t 133)),qf 135 5 134,ql 136 135,qv 137 9,qq 138 (.lookup .int .nilptr false (.t 136) (.t 137)),qv 139 12,qq 140 (.call 361 [.t 138,.t 139])]) (.skip)))))) (.region [qn 141 .add 122 1,qv 122 141]))))))))))) (.region [qn 142 .add 65 1,qv 65 142]))))))) (sr [qv 143 5,qv 4 143] (.ret))))),[.t 4]⟩
def S377 : AF := ⟨sr [qq 4 (.mov (.c (.bool false)))] (.seq (.seq (.draw [qv 7 0,qq 8 (.nilCheck (.t 7)),qf 9 7 8,ql 10 9,qq 11 (.lenMap (.t 10)),qv 12 0,qq 13 (.nilCheck (.t 12)),qf 14 8 13,ql 15 14,qb 16 .eql 11 15] []) (.cond (.t 16) (sr [qv 17 0,qq 18 (.nilCheck (.t 17)),qf 19 9 18,qu (.store 1 (.t 19) (.c (.bool true)))] (sr [qq 4 (.mov (.c (.bool false)))] (.ret))) (.skip))) (.seq (.draw [qv 20 0,qq 21 (.nilCheck (.t 20)),qf 22 7 21,ql 23 22,qv 24 1,qq 25 (.call 400 [.t 24]),qq 26 (.lookup .int (.int .i64 0) false (.t 23) (.t 25)),qn 27 .add 26 1,qu (.mapSet .int (.t 23) (.t 25) (.t 27))] []) (.seq (.seq (.draw [qv 28 0,qq 29 (.nilCheck (.t 28)),qf 30 10 29,ql 31 30,qq 32 (.lenSl (.t 31)),qv 33 0,qq 34 (.nilCheck (.t 33)),qf 35 6 34,ql 36 35,qq 37 (.lenSl (.t 36)),qb 38 .eql 32 37] []) (.cond (.t 38) (sr [qq 4 (.mov (.c (.bool true)))] (.ret)) (.skip))) (.seq (sr [qv 39 0,qq 40 (.nilCheck (.t 39)),qf 41 6 40,ql 42 41,qq 43 (.lenSl (.t 42)),qm 44 0] (.block 0 (.loop (sr [qb 45 .lss 44 43] (.seq (.cond (.t 45) (.skip) (.exit 0)) (.seq (.block 1 (sr [qx 46 1 42 44,ql 47 46,qv 6 47] (.seq (.seq (.draw [qv 48 1,qv 49 6,qq 50 (.call 394 [.t 48,.t 49]),qv 51 50,qg 52 (.mov (.t 0)) 51 false,qg 53 (.mov (.t 1)) 51 false,qg 54 (.mov (.t 6)) 51 false,qg 55 (.call 401 [.t 52,.t 53,.t 54]) 51 false,qg 56 (.un .not (.t 55)) 51 false,qq 57 (.pick (.t 51) (.c (.bool true)) (.t 56)),qv 58 57,qg 59 (.mov (.t 0)) 58 false,qg 60 (.nilCheck (.t 59)) 58 false,qg 61 (.fieldAddr 7 (.t 60)) 58 false,qg 62 (.load none (.t 61)) 58 false,qg 63 (.mov (.t 1)) 58 false,qg 64 (.call 400 [.t 63]) 58 false,qg 65 (.mov (.t 6)) 58 false,qg 66 (.bin .shl (.c (.int .u64 1)) (.t 65)) 58 false,qg 67 (.bin .or (.t 64) (.t 66)) 58 false,qg 68 (.lookup .int (.int .i64 0) false (.t 62) (.t 67)) 58 false,qg 69 (.bin .gtr (.t 68) (nn 0)) 58 false,qq 70 (.pick (.t 58) (.c (.bool true)) (.t 69))] []) (.cond (.t 70) (.exit 1) (.skip))) (sr [qv 71 1,qv 72 6,qq 73 (.call 361 [.t 71,.t 72])] (sr [qv 74 0,qv 75 0,qq 76 (.nilCheck (.t 75)),qf 77 10 76,ql 78 77,qv 79 6,qq 80 (.buildSl true 1 [(.int .i64 0)] [(0,1,(.t 79))] 1),qq 81 (.append true 1 8 (.t 78) (.t 80)),qq 82 (.nilCheck (.t 74)),qf 83 10 82,qu (.store 1 (.t 83) (.t 81))] (.seq (sr [qv 84 0,qv 85 1,qq 86 (.call 377 [.t 84,.t 85])] (.cond (.t 86) (sr [qq 4 (.mov (.c (.bool true)))] (.ret)) (.skip))) (.seq (sr [qv 87 0,qq 88 (.nilCheck (.t 87)),qf 89 9 88,ql 90 89] (.cond (.t 90) (sr [qq 4 (.mov (.c (.bool false)))] (.ret)) (.skip))) (.seq (.draw [qv 91 0,qv 92 0,qq 93 (.nilCheck (.t 92)),qf 94 10 93,ql 95 94,qv 96 0,qq 97 (.nilCheck (.t 96)),qf 98 10 97,ql 99 98,qq 100 (.lenSl (.t 99)),qn 101 .sub 100 1,qq 102 (.slSl 1 (.t 95) none (some (.t 101))),qq 103 (.nilCheck (.t 91)),qf 104 10 103,qu (.store 1 (.t 104) (.t 102))] []) (.region [qv 105 1,qv 106 6,qq 107 (.call 402 [.t 105,.t 106])]))))))))) (.region [qn 108 .add 44 1,qv 44 108]))))))) (sr [qq 4 (.mov (.c (.bool false)))] (.ret)))))),[.t 4]⟩
def S394 : AF := ⟨sr [qq 4 (.mov (.c (.bool false)))] (sr [qv 5 0,qv 6 1,qq 7 (.call 395 [.t 5,.t 6]),qn 8 .eql 7 0,qv 9 8,qg 10 (.mov (.t 0)) 9 true,qg 11 (.mov (.t 1)) 9 true,qg 12 (.bin .quo (.t 11) (nn 64)) 9 true,qg 13 (.nilCheck (.t 10)) 9 true,qg 14 (.fieldAddr 0 (.t 13)) 9 true,qg 15 (.idxArr 8 1 (.t 14) (.t 12)) 9 true,qg 16 (.load none (.t 15)) 9 true,qg 17 (.mov (.t 1)) 9 true,qg 18 (.bin .rem (.t 17) (nn 64)) 9 true,qg 19 (.bin .shr (.t 16) (.t 18)) 9 true,qg 20 (.bin .and (.t 19) (.c (.int .u64 1))) 9 true,qg 21 (.bin .eql (.t 20) (.c (.int .u64 1))) 9 true,qq 22 (.pick (.t 9) (.t 21) (.c (.bool false))),qv 4 22] (.ret)),[.t 4]⟩
def S395 : AF := ⟨sr [qm 4 0] (.seq (.block 0 (sr [qv 6 0,qq 7 (.eq false .ptr (.t 6) (.c .nilptr)),qv 5 7] (.cond (.t 5) (sr [qm 4 4] (.ret)) (sr [qv 9 1,qq 10 (.call 409 [.t 9]),qq 11 (.un .not (.t 10)),qv 8 11] (.cond (.t 8) (sr [qm 4 2] (.ret)) (.skip)))))) (sr [qm 4 0] (.ret))),[.t 4]⟩
def S400 : AF := ⟨sr [qq 2 (.mov (.c (.int .u64 0)))] (sr [qq 3 (.mov (.c (.int .u64 0)))] (.seq (sr [qv 6 0,qq 7 (.call 362 [.t 6]),qq 8 (.lenSl (.t 7)),qm 9 0] (.block 0 (.loop (sr [qb 10 .lss 9 8] (.seq (.cond (.t 10) (.skip) (.exit 0)) (.seq (.block 1 (sr [qx 11 1 7 9,ql 12 11,qv 5 12] (.region [qv 13 3,qv 14 5,qq 15 (.bin .shl (.c (.int .u64 1)) (.t 14)),qb 16 .or 13 15,qv 3 16]))) (.region [qn 17 .add 9 1,qv 9 17]))))))) (sr [qv 18 3,qv 2 18] (.ret)))),[.t 2]⟩
def S401 : AF := ⟨sr [qq 3 (.box 1 (.t 0)),qq 4 (.box 1 (.t 1)),qq 5 (.box 1 (.t 2)),qq 6 (.mov (.c (.bool false)))] (.seq (.seq (.seq (.draw [ql 7 3,qq 8 (.nilCheck (.t 7)),qf 9 4 8,ql 10 9,ql 11 5,qq 12 (.lookup .int .nilptr false (.t 10) (.t 11)),qq 13 (.call 362 [.t 12]),qq 14 (.mkFn (.func 410) [] [.t 4])] []) (.region [qq 15 (.call 94 [.t 13,.t 14])])) (.cond (.t 15) (sr [qq 6 (.mov (.c (.bool false)))] (.ret)) (.skip))) (sr [ql 16 3,qq 17 (.nilCheck (.t 16)),qf 18 3 17,ql 19 18,qq 20 (.mkFn (.func 412) [] [.t 5,.t 4,.t 3]),qq 21 (.call 411 [.t 19,.t 20]),qq 22 (.un .not (.t 21)),qv 6 22] (.ret))),[.t 6]⟩
def S411 : AF := ⟨sr [qq 4 (.mov (.c (.bool false)))] (sr [qv 5 0,qv 6 1,qq 7 (.call 415 [.t 5,.t 6]),qn 8 .geq 7 0,qv 4 8] (.ret)),[.t 4]⟩
def S415 : AF := ⟨sr [qm 4 0] (.seq (sr [qv 6 0,qq 7 (.lenSl (.t 6)),qm 8 0] (.block 0 (.loop (sr [qb 9 .lss 8 7] (.seq (.cond (.t 9) (.skip) (.exit 0)) (.seq (.block 1 (sr [qv 10 8,qv 5 10] (sr [qv 11 1,qv 12 0,qv 13 5,qx 14 3 12 13,qs 15 3 14,qq 16 (.callV (.t 11) [.t 15])] (.cond (.t 16) (sr [qv 17 5,qv 4 17] (.ret)) (.skip))))) (.region [qn 18 .add 8 1,qv 8 18]))))))) (sr [qq 4 (.mov (nn (-1)))] (.ret))),[.t 4]⟩
def utf8first : List V := (List.range 256).map fun i => V.int .u8 (if i < 128 then 240 else if i < 194 then 241 else if i < 224 then 2 else if i = 224 then 19 else if i < 237 then 3 else if i = 237 then 35 else if i < 240 then 3 else if i = 240 then 52 else if i < 244 then 4 else if i = 244 then 68 else 241 : Nat)
def words : List V := [.str [], .str [98, 101, 103, 105, 110], .str [114, 101, 97, 100], .str [119, 114, 105, 116, 101], .str [111, 107], .str [102, 97, 105, 108], .str [105, 110, 102, 111]]
def accR : List V := [.int .u8 128, .int .u8 191, .int .u8 160, .int .u8 191, .int .u8 128, .int .u8 159, .int .u8 144, .int .u8 191, .int .u8 128, .int .u8 143, .int .u8 0, .int .u8 0, .int .u8 0, .int .u8 0, .int .u8 0, .int .u8 0, .int .u8 0, .int .u8 0, .int .u8 0, .int .u8 0, .int .u8 0, .int .u8 0, .int .u8 0, .int .u8 0, .int .u8 0, .int .u8 0, .int .u8 0, .int .u8 0, .int .u8 0, .int .u8 0, .int .u8 0, .int .u8 0]
def setZ : List V := [.int .u64 0, .int .u64 0, .int .u64 0, .int .u64 0, .int .u64 0, .int .u64 0, .int .u64 0, .int .u64 0]
def bruij : List V := ([0, 1, 56, 2, 57, 49, 28, 3, 61, 58, 42, 50, 38, 29, 17, 4, 62, 47, 59, 36, 45, 43, 51, 22, 53, 39, 33, 30, 24, 18, 12, 5, 63, 55, 48, 27, 60, 41, 37, 16, 46, 35, 44, 21, 52, 32, 23, 11, 54, 26, 40, 15, 34, 20, 31, 10, 25, 14, 19, 9, 13, 8, 7, 6] : List Int).map (V.int .u8)
def txtL : List V := [.str [], .str [82, 67], .str [67, 67], .str [83, 69, 82]]
def txtP : List V := [.str [], .str [107, 101, 101, 112], .str [101, 114, 97, 115, 101]]
def txtV : List V := [.str [], .str [118, 97, 108, 105, 100], .str [118, 105, 111, 108, 97, 116, 101, 100], .str [117, 110, 107, 110, 111, 119, 110]]
def scrF : List V := [.str [], .str [108, 101, 118, 101, 108], .str [112, 111, 108, 105, 99, 121], .str [98, 117, 100, 103, 101, 116], .str [99, 104, 101, 99, 107], .str [114, 101, 112, 111, 114, 116], .str [102, 111, 114, 99, 101, 100], .str [119, 111, 114, 108, 100, 115], .str [101, 110, 111, 117, 103, 104], .str [115, 104, 111, 119], .str [119, 114, 111, 110, 103]]
def fc_1 : FuncId → Option AF
  | 145 => some F145
  | 148 => some F148
  | 149 => some F149
  | 153 => some F153
  | 154 => some F154
  | 156 => some F156
  | 159 => some F159
  | 162 => some F162
  | 163 => some F163
  | 164 => some F164
  | 165 => some F165
  | 166 => some F166
  | 167 => some F167
  | 168 => some F168
  | 169 => some F169
  | 170 => some F170
  | 175 => some F175
  | 192 => some F192
  | 193 => some F193
  | 194 => some F194
  | 195 => some F195
  | 200 => some F200
  | 208 => some F208
  | 216 => some F216
  | 217 => some F217
  | 219 => some F219
  | 220 => some F220
  | 221 => some F221
  | 222 => some F222
  | 223 => some F223
  | 224 => some F224
  | 234 => some F234
  | 245 => some F245
  | 248 => some F248
  | 249 => some F249
  | 255 => some F255
  | 259 => some F259
  | 271 => some F271
  | 291 => some F291
  | 293 => some F293
  | 295 => some F295
  | 306 => some F306
  | 320 => some F320
  | 343 => some F343
  | 409 => some F409
  | _ => none
def fc : FuncId → Option AF
  | 3 => some F3
  | 5 => some F5
  | 6 => some F6
  | 9 => some F9
  | 19 => some F19
  | 23 => some F23
  | 25 => some F25
  | 32 => some F32
  | 33 => some F33
  | 34 => some F34
  | 35 => some F35
  | 36 => some F36
  | 38 => some F38
  | 39 => some F39
  | 46 => some F46
  | 47 => some F47
  | 49 => some F49
  | 52 => some F52
  | 57 => some F57
  | 58 => some F58
  | 59 => some F59
  | 60 => some F60
  | 61 => some F61
  | 62 => some F62
  | 63 => some F63
  | 65 => some F65
  | 66 => some F66
  | 67 => some F67
  | 69 => some F69
  | 71 => some F71
  | 79 => some F79
  | 82 => some F82
  | 85 => some F85
  | 91 => some F91
  | 92 => some F92
  | 93 => some F93
  | 101 => some F101
  | 103 => some F103
  | 104 => some F104
  | 106 => some F106
  | 107 => some F107
  | 111 => some F111
  | 114 => some F114
  | 115 => some F115
  | 116 => some F116
  | 117 => some F117
  | 123 => some F123
  | 129 => some F129
  | 131 => some F131
  | 137 => some F137
  | f => fc_1 f
def fs_1 : FuncId → Option AF
  | 340 => some S340
  | 357 => some S357
  | 361 => some S361
  | 362 => some S362
  | 376 => some S376
  | 377 => some S377
  | 394 => some S394
  | 395 => some S395
  | 400 => some S400
  | 401 => some S401
  | 411 => some S411
  | 415 => some S415
  | _ => none
def fs : FuncId → Option AF
  | 4 => some S4
  | 7 => some S7
  | 8 => some S8
  | 12 => some S12
  | 13 => some S13
  | 20 => some S20
  | 21 => some S21
  | 22 => some S22
  | 24 => some S24
  | 37 => some S37
  | 51 => some S51
  | 80 => some S80
  | 81 => some S81
  | 83 => some S83
  | 94 => some S94
  | 112 => some S112
  | 113 => some S113
  | 130 => some S130
  | 132 => some S132
  | 146 => some S146
  | 161 => some S161
  | 162 => some S162
  | 206 => some S206
  | 208 => some S208
  | 209 => some S209
  | 210 => some S210
  | 211 => some S211
  | 212 => some S212
  | 213 => some S213
  | 219 => some S219
  | 241 => some S241
  | 242 => some S242
  | 243 => some S243
  | 244 => some S244
  | 246 => some S246
  | 250 => some S250
  | 252 => some S252
  | 253 => some S253
  | 256 => some S256
  | 287 => some S287
  | 288 => some S288
  | 289 => some S289
  | 293 => some S293
  | 297 => some S297
  | 299 => some S299
  | 300 => some S300
  | 302 => some S302
  | 304 => some S304
  | 327 => some S327
  | 336 => some S336
  | f => fs_1 f
def shl : List Nat := [4, 7, 8, 12, 13, 20, 21, 22, 24, 37, 51, 83, 112, 161, 206, 209, 210, 211, 241, 242, 243, 244, 250, 253, 256, 287, 288, 289, 297, 299, 300, 304, 327, 336, 357, 361, 376, 377]
def shm : List Nat := [170, 291]
def fzl : List Nat := [170, 291]
def twl : List Nat := [170, 291]
def E : Env := { sh := fun nm f => shl.any (Nat.beq f) || (nm && shm.any (Nat.beq f)), fz := fun f => fzl.any (Nat.beq f), tw := fun f => twl.any (Nat.beq f), srt := fun f => match f with  | _ => none, fc := fc, fs := fs, gl := (fun g => match g with | 0 => some txtL | 1 => some txtP | 2 => some scrF | 3 => some txtV | 4 => some words | 6 => some utf8first | 7 => some accR | 10 => some bruij | _ => none), nw := fun f => match f with | 357 => some setZ | _ => none, kn := fun f a => match f with  | _ => none }
@[simp] theorem startS_tm (args : List V) (ob : Nat → Option Obj') (tk : Nat → Bool) (ro base ub n : Nat) : (startS args ob tk ro base ub).tm n = args.getD n none' := rfl
@[simp] theorem startS_ob (args : List V) (ob : Nat → Option Obj') (tk : Nat → Bool) (ro base ub : Nat) : (startS args ob tk ro base ub).ob = ob := rfl
@[simp] theorem startS_tk (args : List V) (ob : Nat → Option Obj') (tk : Nat → Bool) (ro base ub : Nat) : (startS args ob tk ro base ub).tk = tk := rfl
@[simp] theorem startS_ro (args : List V) (ob : Nat → Option Obj') (tk : Nat → Bool) (ro base ub : Nat) : (startS args ob tk ro base ub).ro = ro := rfl
@[simp] theorem startS_nx (args : List V) (ob : Nat → Option Obj') (tk : Nat → Bool) (ro base ub : Nat) : (startS args ob tk ro base ub).nx = ub := rfl
@[simp] theorem startS_fb (args : List V) (ob : Nat → Option Obj') (tk : Nat → Bool) (ro base ub : Nat) : (startS args ob tk ro base ub).fb = base := rfl
@[simp] theorem startS_df (args : List V) (ob : Nat → Option Obj') (tk : Nat → Bool) (ro base ub : Nat) : (startS args ob tk ro base ub).df = [] := rfl
def kEndS (res : List ARes) (P : V × (Nat → Option Obj') × (Nat → Bool) × Nat → Prop) : Ex → St → Prop := fun e s => ∃ r, endS res (e, s) = some r ∧ P r
theorem kS_callS {E : Env} {Yf : YF} {f : FuncId} {xs : List A} {st : St} {ub : Nat} {K : St → Nat → Prop} {d : Option Nat} {nm : Bool} {vs : List V} (hx : xs.map (eval E st.tm) = vs) (hs : E.sh nm f = true)
    (h : ∃ r, EvS E Yf.y f vs st.ob st.tk st.ro ((st.fb + d.getD 0 + 1) * 1024) ub r ∧ K { st with tm := put st.tm d r.1, ob := r.2.1, tk := r.2.2.1 } r.2.2.2) : wpStep E Yf ⟨d, .call f xs, none, nm⟩ st ub K := by
  have hsh : sharedCall E nm (eval E st.tm) (.call f xs) = some (f, vs) := by simp only [sharedCall, hs, hx, Bool.not_true, Bool.false_and, Bool.false_eq_true, if_false]
  simp only [wpStep, wanted, yieldCall, hsh]
  obtain ⟨r, hr, hK⟩ := h
  exact .inl ⟨hs, EvS.list ⟨r, hr, hK⟩⟩
/-- A state behind a call that shares. -/
def retS (st : St) (d : Option Nat) (v : V) (ob : Nat → Option Obj') (tk : Nat → Bool) : St := { st with tm := put st.tm d v, ob := ob, tk := tk }
section
variable {st : St} {d : Option Nat} {v : V} {ob : Nat → Option Obj'} {tk : Nat → Bool}
@[simp] theorem retS_tm (e n : Nat) : (retS st (some e) v ob tk).tm n = if n = e then v else st.tm n := by simp [retS, put, upd_apply]
@[simp] theorem retS_tm0 (n : Nat) : (retS st none v ob tk).tm n = st.tm n := rfl
@[simp] theorem retS_ob : (retS st d v ob tk).ob = ob := rfl
@[simp] theorem retS_tk : (retS st d v ob tk).tk = tk := rfl
@[simp] theorem retS_ro : (retS st d v ob tk).ro = st.ro := rfl
@[simp] theorem retS_nx : (retS st d v ob tk).nx = st.nx := rfl
@[simp] theorem retS_fb : (retS st d v ob tk).fb = st.fb := rfl
@[simp] theorem retS_df : (retS st d v ob tk).df = st.df := rfl
end
@[simp] theorem nilCheckV_ptr (l u o : Nat) : nilCheckV (.ptr l u o) = some (.ptr l u o) := rfl
theorem kS_callP {Yf : YF} {f : FuncId} {xs : List A} {st : St} {ub : Nat} {K : St → Nat → Prop} {d : Option Nat} {nm : Bool} {vs : List V} {P : V × (Nat → Option Obj') × (Nat → Bool) × Nat → Prop} (hx : xs.map (eval E st.tm) = vs) (hs : E.sh nm f = true)
    (he : ∃ r, EvS E Yf.y f vs st.ob st.tk st.ro ((st.fb + d.getD 0 + 1) * 1024) ub r ∧ P r) (h : ∀ v ob' tk' ub', P (v, ob', tk', ub') → K (retS st d v ob' tk') ub') : wpStep E Yf ⟨d, .call f xs, none, nm⟩ st ub K := by
  obtain ⟨r, hr, hP⟩ := he
  exact kS_callS hx hs ⟨r, hr, h r.1 r.2.1 r.2.2.1 r.2.2.2 hP⟩
theorem endS_2 {st : St} {x y : Nat} {P : V × (Nat → Option Obj') × (Nat → Bool) × Nat → Prop} (hd : st.df = []) (h : P (.tup [st.tm x, st.tm y], st.ob, st.tk, st.nx)) : kEndS [.t x, .t y] P .ret st := ⟨_, by simp [endS, hd, resOf], h⟩
theorem endS_1 {st : St} {x : Nat} {P : V × (Nat → Option Obj') × (Nat → Bool) × Nat → Prop} (hd : st.df = []) (h : P (st.tm x, st.ob, st.tk, st.nx)) : kEndS [.t x] P .ret st := ⟨_, by simp [endS, hd, resOf], h⟩
end Go.Pv.T
namespace Go.Pv
open Go
/-- Known answers: function, what it is handed, what it hands back. -/
abbrev Tbl := List (FuncId × List V × V)
def look : Tbl → FuncId → List V → Option V
  | [], _, _ => none
  | e :: t, f, a => cond (Nat.beq e.1 f && V.eqbs e.2.1 a) (some e.2.2) (look t f a)
/-- As callers, but for what is known. -/
def callersM (E : Env) (T : Tbl) : Nat → Y → Callers
  | 0, y => { d := fun f a => look T f a, o := fun _ _ _ _ _ _ => none, s := fun _ _ _ _ _ _ _ => none, y := y }
  | n + 1, y => {
    d := fun f args => match look T f args with
      | some r => some r
      | none => dOr E f args fun af => one1 (endV af.res) (codeL E (callersM E T n) noY n af.body (start args))
    o := fun f args ob _ base ub => if E.fz f then (args.mapM (frzTop ob)).bind fun args' => ((callersM E T n noY).d f args').bind fun r => if r.freeR then some r else none else
      (E.fs f).bind fun af => one1 (endV af.res) (codeL E (callersM E T n) noY n af.body (startS args ob (fun _ => false) ub base ub))
    s := fun f args ob tk ro base ub => if E.tw f then (args.mapM (frzTop ob)).bind fun args' => ((callersM E T n noY).d f args').bind fun r => (thawR ob tk ub r).map fun x => [x] else match E.srt f with
      | some m => (sortA m ob tk ro ub args).map fun x => [x]
      | none => (E.fs f).bind fun af => (codeL E (callersM E T n) y n af.body (startS args ob tk ro base ub)).bind fun l => if E.mn f then l.mapM (endS af.res) else match l with
        | [x] => (endS af.res x).map fun r => [r]
        | _ => none
    y := y }
def EvT (E : Env) (T : Tbl) : Prop := ∀ e ∈ T, Ev E e.1 e.2.1 e.2.2
theorem noY_le (y : Y) : YLe noY y := fun _ _ _ _ _ _ _ _ h => by cases h
theorem look_le {E : Env} {T : Tbl} (h : EvT E T) : ∃ N, ∀ f a, le (look T f a) ((callers E N noY).d f a) := by
  induction T with
  | nil => exact ⟨0, fun _ _ _ h => by cases h⟩
  | cons e t ih =>
    obtain ⟨N, hN⟩ := ih fun x hx => h x (List.mem_cons_of_mem _ hx)
    obtain ⟨k, hk⟩ := h e List.mem_cons_self
    refine ⟨max N k, fun f a r hr => ?_⟩
    simp only [look] at hr
    cases hc : (Nat.beq e.1 f && V.eqbs e.2.1 a) with
    | true =>
      rw [hc] at hr
      rw [Bool.and_eq_true] at hc
      cases hr
      have e1 := Nat.eq_of_beq_eq_true hc.1
      have e2 := eqbs_sound _ _ hc.2
      rw [← e1, ← e2]
      exact (callers_mono k (max N k) (by omega) _ _ (YLe.refl _)).d _ _ _ hk
    | false =>
      rw [hc] at hr
      exact (callers_mono N (max N k) (by omega) _ _ (YLe.refl _)).d _ _ _ (hN f a r hr)
theorem callersM_le {E : Env} {T : Tbl} {N : Nat} (h : ∀ f a, le (look T f a) ((callers E N noY).d f a)) : ∀ n, FLe (callersM E T n) (callers E (N + n))
  | 0 => fun y y' hy => ⟨fun f a r hr => (callers_mono N N (by omega) _ _ (noY_le y')).d f a r (h f a r hr), fun _ _ _ _ _ _ _ h => (by cases h), fun _ _ _ _ _ _ _ _ h => (by cases h), (by cases N <;> exact hy)⟩
  | n + 1 => by
    intro y y' hy
    have hi := callersM_le h n
    have hc := codeL_mono (E := E) hi (show n ≤ N + n by omega)
    have hl : ∀ f a, le (look T f a) ((callers E (N + (n + 1)) y').d f a) := fun f a r hr => (callers_mono N (N + (n + 1)) (by omega) _ _ (noY_le y')).d f a r (h f a r hr)
    refine ⟨fun f a r hr => ?_, fun f a ob tk b u => ?_, fun f a ob tk ro b u => ?_, hy⟩
    · cases hk : look T f a with
      | some r' =>
        simp only [callersM, hk] at hr
        exact hl f a r (hk.trans hr)
      | none =>
        simp only [callersM, hk] at hr
        exact (dOr_mono fun af => one1_mono (hc _ _ _ (YLe.refl _) _)) r hr
    · show le _ _
      simp only [callersM, callers]
      by_cases hz : E.fz f
      · simp only [hz, if_true]
        refine (le.rfl' _).bind fun a' => ?_
        exact ((hi _ _ (YLe.refl _)).d f a').bind fun r => le.rfl' _
      · simp only [hz, Bool.false_eq_true, if_false]
        exact (le.rfl' (E.fs f)).bind fun af => one1_mono (hc _ _ _ (YLe.refl _) _)
    · simp only [callersM, callers]
      by_cases hz : E.tw f
      · simp only [hz, if_true]
        refine (le.rfl' _).bind fun a' => ?_
        exact ((hi _ _ (YLe.refl _)).d f a').bind fun r => le.rfl' _
      simp only [hz, Bool.false_eq_true, if_false]
      cases hs : E.srt f with
      | some m => exact le.rfl' _
      | none =>
      exact (le.rfl' (E.fs f)).bind fun af => (hc _ _ _ hy _).bind fun l => le.rfl' _
/-- One answer more is known. -/
theorem EvT.more {E : Env} {T : Tbl} (h : EvT E T) {f : FuncId} {a : List V} {r : V} (n : Nat) (k : (callersM E T n noY).d f a = some r) : EvT E ((f, a, r) :: T) := by
  obtain ⟨N, hN⟩ := look_le h
  intro e he
  rcases List.mem_cons.1 he with rfl | he
  · exact ⟨N + n, (callersM_le hN n _ _ (YLe.refl _)).d _ _ _ k⟩
  · exact h e he
theorem EvT.nil {E : Env} : EvT E [] := fun _ h => by cases h
theorem EvT.head {E : Env} {T : Tbl} {f : FuncId} {a : List V} {r : V} (h : EvT E ((f, a, r) :: T)) : Ev E f a r := h _ List.mem_cons_self
end Go.Pv
namespace Go.Pv.T
open Go Go.Pv
def pn44v0 : V := .agg [(.sl (some (0, 1)) false 1 [(.str [115])]), (.sl none true 0 []), (.sl (some (2, 3)) false 1 [(.int .i64 0), (.int .i64 1), (.sl none true 0 [])])]
def pn44v1 : V := .agg [(.sl none false 1 [(.str [115])]), (.sl none true 0 []), (.sl none false 1 [(.int .i64 0), (.int .i64 1), (.sl none true 0 [])])]
def pn44v2 : V := .str [98, 101, 103, 105, 110, 32, 115]
def pn44v3 : V := .str [98, 101, 103, 105, 110, 32, 115, 10, 111, 107, 32, 115]
def pn44t0 : Tbl := []
theorem pn44k0 : EvT E pn44t0 := EvT.nil
-- deemster/check.history: 3096
def pn44t1 : Tbl := (65, [pn44v3], (.tup [pn44v0, (.int .i64 0), (.int .i64 0)])) :: pn44t0
theorem pn44k1 : EvT E pn44t1 := pn44k0.more 300 (by kernel_rfl)
-- deemster/line.Of: 414
def pn44t2 : Tbl := (32, [pn44v3], (.tup [(.sl (some (0, 1)) false 2 [pn44v2, (.str [111, 107, 32, 115])]), (.int .i64 0), (.int .i64 0)])) :: pn44t1
theorem pn44k2 : EvT E pn44t2 := pn44k1.more 300 (by kernel_rfl)
-- deemster/split.Words: 583
def pn44t3 : Tbl := (33, [pn44v2], (.tup [(.sl (some (0, 2)) false 2 [(.str [98, 101, 103, 105, 110]), (.int .i64 1), (.str [115]), (.int .i64 7)]), (.int .i64 0)])) :: pn44t2
theorem pn44k3 : EvT E pn44t3 := pn44k2.more 300 (by kernel_rfl)
-- deemster/event.Parse: 236
def pn44t4 : Tbl := (111, [pn44v2], (.tup [(.agg [(.int .i64 1), (.str [115]), (.str []), (.int .i64 0), (.int .i64 0), (.int .i64 0)]), (.bool true), (.int .i64 0)])) :: pn44t3
theorem pn44k4 : EvT E pn44t4 := pn44k3.more 300 (by kernel_rfl)
-- deemster/split.Words: 385
def pn44t5 : Tbl := (33, [(.str [111, 107, 32, 115])], (.tup [(.sl (some (0, 2)) false 2 [(.str [111, 107]), (.int .i64 1), (.str [115]), (.int .i64 4)]), (.int .i64 0)])) :: pn44t4
theorem pn44k5 : EvT E pn44t5 := pn44k4.more 300 (by kernel_rfl)
-- deemster/event.Parse: 278
def pn44t6 : Tbl := (111, [(.str [111, 107, 32, 115])], (.tup [(.agg [(.int .i64 4), (.str [115]), (.str []), (.int .i64 0), (.int .i64 0), (.int .i64 0)]), (.bool true), (.int .i64 0)])) :: pn44t5
theorem pn44k6 : EvT E pn44t6 := pn44k5.more 300 (by kernel_rfl)
-- deemster/pair.History: 1087
def pn44t7 : Tbl := (67, [(.sl none false 2 [(.int .i64 1), (.str [115]), (.str []), (.int .i64 0), (.int .i64 0), (.int .i64 1), (.int .i64 4), (.str [115]), (.str []), (.int .i64 0), (.int .i64 0), (.int .i64 2)])], (.tup [pn44v0, (.int .i64 0), (.int .i64 0)])) :: pn44t6
theorem pn44k7 : EvT E pn44t7 := pn44k6.more 300 (by kernel_rfl)
-- deemster/hist.May: 360
def pn44t8 : Tbl := (46, [pn44v1], (.int .i64 0)) :: pn44t7
theorem pn44k8 : EvT E pn44t8 := pn44k7.more 300 (by kernel_rfl)
-- deemster/search.All: 3699
def pn44t9 : Tbl := (164, [(.int .i64 3), pn44v1, (.int .i64 100000)], (.tup [(.agg [(.bool true), (.bool false), (.sl none false 0 []), (.sl none true 0 []), (.sl none true 0 []), (.sl none true 0 []), (.sl none true 0 []), (.sl (some (7, 1)) false 1 [(.int .i64 0)]), (.sl none false 0 []), (.sl none false 0 [])]), (.int .i64 2), (.int .i64 0)])) :: pn44t8
theorem pn44k9 : EvT E pn44t9 := pn44k8.more 300 (by kernel_rfl)
-- deemster/whole.Make: 363
def pn44t10 : Tbl := (117, [pn44v1, (.agg [(.sl none false 0 []), (.sl none true 0 [])])], (.tup [pn44v0, (.int .i64 0)])) :: pn44t9
theorem pn44k10 : EvT E pn44t10 := pn44k9.more 300 (by kernel_rfl)
-- deemster/deemsterlaw44.works: 3647
def pn44t11 : Tbl := (5, [], (.bool true)) :: pn44t10
theorem pn44k11 : EvT E pn44t11 := pn44k10.more 300 (by kernel_rfl)
/-- What a desk that is none answers. -/
def NoneR (ob : Nat → Option Obj') (ub : Nat) (r : V × (Nat → Option Obj') × (Nat → Bool) × Nat) : Prop := r.1 = .tup [.str [], .int .i64 4] ∧ ∀ key, key ≠ 2 * ub + 1 → r.2.1 key = ob key
theorem sv4n {Yf : YF} {ob : Nat → Option Obj'} {tk : Nat → Bool} {ro base ub : Nat} (a b c : Int) : ∃ r, EvS E Yf.y 4 [.nilptr, .agg [.int .i64 a, .int .i64 b, .int .i64 c]] ob tk ro base ub r ∧ NoneR ob ub r := by
  refine EvS_wp (af := S4) rfl (by decide) ?_
  show wpC E Yf S4.body _ (kEndS S4.res _)
  simp [S4, eqVV, eqV]
  exact endS_2 rfl ⟨by simp, fun key h => by simp [h]⟩
theorem sv4e {Yf : YF} {ob : Nat → Option Obj'} {tk : Nat → Bool} {ro base ub k u : Nat} {c0 c1 c2 c3 c4 c5 c6 c7 c8 : V} (hk : ob k = some ⟨u, .cells [c0, c1, c2, c3, c4, c5, c6, c7, c8, .bool false]⟩) (ho : ∀ m, ub ≤ m → ¬ k = 2 * m + 1) (a b c : Int) :
    ∃ r, EvS E Yf.y 4 [.ptr k u 0, .agg [.int .i64 a, .int .i64 b, .int .i64 c]] ob tk ro base ub r ∧ NoneR ob ub r := by
  have h1 := ho ub (Nat.le_refl _)
  refine EvS_wp (af := S4) rfl (by decide) ?_
  show wpC E Yf S4.body _ (kEndS S4.res _)
  simp [S4, objCells, h1, hk, eqVV, eqV]
  exact endS_2 rfl ⟨by simp, fun key h => by simp [h]⟩
theorem ev3 (a b : Int) : Ev E 3 [.int .i64 a, .int .i64 b] (.bool true) := by
  have e59 := pn44k11.head
  refine Ev_wpK (af := F3) rfl ?_
  simp [F3, splice]
  refine kS_callP (vs := [.nilptr, .agg [.int .i64 0, .int .i64 a, .int .i64 b]]) (by simp) rfl (sv4n 0 a b) ?_
  rintro v1 ob1 tk1 ub1 ⟨r1, r2⟩
  simp only at r1 r2
  subst r1
  have g24 : ob1 24 = some ⟨192, .cells [.str [], .sl none true 0 [], .sl none true 0 [], .sl none true 0 [], .int .i64 0, .int .i64 0, .int .i64 0, .int .i64 0, .int .i64 0, .bool false]⟩ := by
    rw [r2 24 (by omega)]
    simp
  simp [splice]
  refine kS_callP (vs := [.ptr 24 192 0, .agg [.int .i64 0, .int .i64 a, .int .i64 b]]) (by simp) rfl (sv4e (by simpa using g24) (fun m _ => by omega) 0 a b) ?_
  rintro v2 ob2 tk2 ub2 ⟨r3, _⟩
  simp only at r3
  subst r3
  simp
  refine kS_ev e59 (by simp) rfl (by simp) ?_
  simp
  exact endV_1 (by simp) (by simp) rfl
end Go.Pv.T
namespace Go.Pv.T
open Go Go.Pv Go.Proofs
theorem new_any (p : Option Addr) (cap : Nat) (w : World) : Calls Tryz.prog 357 #[.slice p 0 cap] w fun e w' => e = .returned (.pointer (some ⟨w.heap.size, 0, none⟩)) ∧ ∃ t, w' = w.alloc (.cells #[.int .u64 0, .int .u64 0, .int .u64 0, .int .u64 0, .int .u64 0, .int .u64 0, .int .u64 0, .int .u64 0] t) := by
  go_enter Tryz.func357, Tryz.ntmps357
  go_wp2
  refine wp_loop_rounds 1 ?_
  rw [rounds_succ]
  go_wp2
  go_ret
  exact ⟨rfl, _, rfl⟩
theorem mkLaw : MkLaw Tryz.prog 357 setZ := by
  refine ⟨⟨_, _, Tryz.func357, rfl, by kernel_rfl⟩, fun p cap w => (new_any p cap w).mono ?_⟩
  rintro e w' ⟨rfl, t, rfl⟩
  refine ⟨rfl, _, t, rfl, rfl, fun j x v hx hv => ?_⟩
  match j with
  | 0 | 1 | 2 | 3 | 4 | 5 | 6 | 7 =>
    simp [setZ] at hx hv
    subst hx hv
    exact ⟨rfl, fun I => .int _ _⟩
  | j + 8 => simp [setZ] at hv
end Go.Pv.T
