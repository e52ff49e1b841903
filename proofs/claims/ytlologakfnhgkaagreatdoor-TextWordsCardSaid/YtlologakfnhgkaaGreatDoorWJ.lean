/- Part of the proof. -/
import Derived.Test.YtlologakfnhgkaaGreatDoorWE
import Derived.Test.YtlologakfnhgkaaGreatDoorWG
import Derived.Test.YtlologakfnhgkaaGreatDoorWH
import Derived.Test.YtlologakfnhgkaaGreatDoorWI
import Derived.KernelRfl
import Derived.WalkKit
import Derived.Test.YtlologakfnhgkaaGreatDoorRows
import Derived.Shelf.Strings.OnBuilder
set_option maxRecDepth 100000
set_option maxHeartbeats 8000000
set_option linter.all false
namespace Go.Pv.T
open Go Go.Pv
def S196 : AF := ⟨sr [qq 2 (.box 3 (.t 0)),qq 4 (.mov (.c (.sl none true 0 [])))] (sr [qs 9 3 2,qv 10 1,qq 11 (.call 90 [.t 9,.t 10]),qv 5 11] (sr [qq 6 (.mov (.c (.sl none true 0 [])))] (.seq (sr [qs 12 3 2,qq 13 (.call 87 [.t 12]),qq 14 (.lenSl (.t 13)),qm 15 0] (.block 0 (.loop (sr [qb 16 .lss 15 14] (.seq (.cond (.t 16) (.skip) (.exit 0)) (.seq (.block 1 (sr [qx 17 2 13 15,qs 18 2 17,qq 8 (.alloc [(.int .i64 0),(.int .i64 0)]),qu (.store 2 (.t 8) (.t 18))] (.draw [qv 19 6,qs 20 3 2,qs 21 2 8,qv 22 5,qf 23 0 8,ql 24 23,qx 25 1 22 24,ql 26 25,qq 27 (.call 248 [.t 20,.t 21,.t 26]),qq 28 (.buildSl true 1 [(.sl none true 0 [])] [(0,1,(.t 27))] 1),qq 29 (.append true 1 24 (.t 19) (.t 28)),qv 6 29] []))) (.region [qn 30 .add 15 1,qv 15 30]))))))) (sr [qv 31 6,qv 4 31] (.ret))))),[.t 4]⟩
def S200 : AF := ⟨sr [qq 4 (.mov (.c (.bool false)))] (.seq (sr [qv 6 0,qn 7 .sub 6 1,qv 5 7] (.block 0 (.loop (.seq (sr [qv 8 5,qn 9 .geq 8 0] (.cond (.t 9) (.skip) (.exit 0))) (.seq (.block 1 (sr [qv 12 1,qv 13 5,qq 14 (.callV (.t 12) [.t 13])] (.cond (.t 14) (sr [qq 4 (.mov (.c (.bool true)))] (.ret)) (.skip)))) (.region [qv 10 5,qn 11 .sub 10 1,qv 5 11])))))) (sr [qq 4 (.mov (.c (.bool false)))] (.ret))),[.t 4]⟩
def S202 : AF := ⟨sr [qq 1 (.box 3 (.t 0)),qq 2 (.mov (.c .nilptr))] (sr [qs 8 3 1,qq 9 (.mkMap),qq 10 (.mkMap),qq 11 (.build [(.sl none true 0 []),(.sl none true 0 []),(.sl none true 0 []),.nilmap,.nilmap,(.bool false),(.bool false)] [(0,3,(.t 8)),(3,1,(.t 9)),(4,1,(.t 10)),(6,1,(.c (.bool true)))]),qq 12 (.box 7 (.t 11)),qv 3 12] (.seq (sr [qf 13 2 1,ql 14 13,qq 15 (.lenSl (.t 14)),qm 16 0] (.block 0 (.loop (sr [qb 17 .lss 16 15] (.seq (.cond (.t 17) (.skip) (.exit 0)) (.seq (.block 1 (sr [qv 18 16,qx 19 3 14 16,qs 20 3 19,qq 5 (.alloc [(.int .i64 0),(.int .i64 0),(.sl none true 0 [])]),qv 4 18,qu (.store 3 (.t 5) (.t 20))] (sr [qf 21 1 5,ql 22 21] (.block 2 (sr [qn 24 .eql 22 1,qv 23 24] (.cond (.t 23) (.region [qv 25 3,qq 26 (.nilCheck (.t 25)),qf 27 3 26,ql 28 27,qv 29 4,qq 30 (.lookup .int (.int .i64 0) false (.t 28) (.t 29)),qn 31 .add 30 1,qu (.mapSet .int (.t 28) (.t 29) (.t 31))]) (sr [qn 33 .eql 22 2,qv 32 33] (.cond (.t 32) (.region [qv 34 3,qq 35 (.nilCheck (.t 34)),qf 36 4 35,ql 37 36,qv 38 4,qq 39 (.lookup .int (.int .i64 0) false (.t 37) (.t 38)),qn 40 .add 39 1,qu (.mapSet .int (.t 37) (.t 38) (.t 40))]) (.skip))))))))) (.region [qn 41 .add 16 1,qv 16 41]))))))) (.seq (.block 3 (.loop (.seq (sr [qv 42 3,qq 43 (.nilCheck (.t 42)),qf 44 6 43,ql 45 44] (.cond (.t 45) (.skip) (.exit 3))) (.block 4 (sr [qv 46 3,qq 47 (.nilCheck (.t 46)),qf 48 6 47,qu (.store 1 (.t 48) (.c (.bool false)))] (sr [qf 49 2 1,ql 50 49,qq 51 (.lenSl (.t 50)),qm 52 0] (.block 5 (.loop (sr [qb 53 .lss 52 51] (.seq (.cond (.t 53) (.skip) (.exit 5)) (.seq (.block 6 (sr [qv 54 52,qv 6 54] (.region [qv 55 3,qv 56 6,qq 57 (.call 249 [.t 55,.t 56])]))) (.region [qn 58 .add 52 1,qv 52 58])))))))))))) (.seq (sr [qf 59 2 1,ql 60 59,qq 61 (.lenSl (.t 60)),qm 62 0] (.block 7 (.loop (sr [qb 63 .lss 62 61] (.seq (.cond (.t 63) (.skip) (.exit 7)) (.seq (.block 8 (sr [qv 64 62,qv 7 64] (.region [qv 65 3,qv 66 3,qq 67 (.nilCheck (.t 66)),qf 68 5 67,ql 69 68,qv 70 69,qg 71 (.mov (.t 3)) 70 false,qg 72 (.nilCheck (.t 71)) 70 false,qg 73 (.fieldAddr 3 (.t 72)) 70 false,qg 74 (.load none (.t 73)) 70 false,qg 75 (.mov (.t 7)) 70 false,qg 76 (.lookup .int (.int .i64 0) false (.t 74) (.t 75)) 70 false,qg 77 (.bin .gtr (.t 76) (nn 0)) 70 false,qg 78 (.mov (.t 77)) 70 false,qg 79 (.mov (.t 3)) 78 true,qg 80 (.nilCheck (.t 79)) 78 true,qg 81 (.fieldAddr 4 (.t 80)) 78 true,qg 82 (.load none (.t 81)) 78 true,qg 83 (.mov (.t 7)) 78 true,qg 84 (.lookup .int (.int .i64 0) false (.t 82) (.t 83)) 78 true,qg 85 (.bin .gtr (.t 84) (nn 0)) 78 true,qg 86 (.pick (.t 78) (.t 85) (.c (.bool false))) 70 false,qq 87 (.pick (.t 70) (.c (.bool true)) (.t 86)),qq 88 (.nilCheck (.t 65)),qf 89 5 88,qu (.store 1 (.t 89) (.t 87))]))) (.region [qn 90 .add 62 1,qv 62 90]))))))) (sr [qv 91 3,qv 2 91] (.ret)))))),[.t 2]⟩
def S203 : AF := ⟨sr [ql 3 1,qq 4 (.nilCheck (.t 3)),qf 5 0 4,ql 6 5,qv 7 0,qb 8 .sub 6 7,qq 9 (.nilCheck (.t 3)),qf 10 0 9,qu (.store 1 (.t 10) (.t 8))] (.region [ql 11 1,qq 12 (.nilCheck (.t 11)),qf 13 1 12,ql 14 13,qv 15 0,qb 16 .add 14 15,qq 17 (.nilCheck (.t 11)),qf 18 1 17,qu (.store 1 (.t 18) (.t 16))]),[]⟩
def S207 : AF := ⟨sr [qq 1 (.box 1 (.t 0)),qq 2 (.mov (.c (.bool false)))] (sr [ql 3 1,qq 4 (.nilCheck (.t 3)),qf 5 1 4,qs 6 3 5,qq 7 (.call 92 [.t 6]),qq 8 (.mkFn (.func 253) [] [.t 1]),qq 9 (.call 99 [.t 7,.t 8]),qv 2 9] (.ret)),[.t 2]⟩
def S209 : AF := ⟨sr [qq 4 (.mov (.c (.sl none true 0 []))),qm 5 0] (.seq (sr [qv 9 0,qq 10 (.nilCheck (.t 9)),qf 11 0 10,ql 12 11,qn 13 .eql 12 3] (.cond (.t 13) (.seq (.seq (.draw [qv 15 0,qq 16 (.nilCheck (.t 15)),qf 17 1 16,qs 18 3 17,qv 19 1,qv 20 0,qq 21 (.nilCheck (.t 20)),qf 22 4 21,ql 23 22] []) (sr [qq 24 (.call 256 [.t 18,.t 19,.t 23])] (.draw [qu (.mov (.c (.tup []))),qu (.mov (.c (.tup []))),qu (.mov (.c (.tup []))),qu (.mov (.c (.tup []))),qu (.mov (.c (.tup []))),qu (.mov (.c (.tup []))),qu (.mov (.c (.tup []))),qu (.mov (.c (.tup []))),qu (.mov (.c (.tup []))),qu (.mov (.c (.tup []))),qv 14 24,qe 25 14 0,qe 26 14 1,qe 27 14 2,qv 6 25,qv 7 26,qv 8 27] []))) (sr [qv 28 0,qq 29 (.nilCheck (.t 28)),qf 30 4 29,ql 31 30,qv 32 7,qb 33 .sub 31 32,qq 34 (.nilCheck (.t 28)),qf 35 4 34,qu (.store 1 (.t 35) (.t 33))] (sr [qv 36 6,qv 37 8,qv 4 36,qv 5 37] (.ret)))) (.skip))) (.seq (sr [qv 38 0,qq 39 (.nilCheck (.t 38)),qf 40 4 39,ql 41 40,qn 42 .eql 41 0] (.cond (.t 42) (sr [qq 4 (.mov (.c (.sl none true 0 []))),qm 5 13] (.ret)) (.skip))) (sr [qv 43 0,qq 44 (.nilCheck (.t 43)),qf 45 4 44,ql 46 45,qn 47 .sub 46 1,qq 48 (.nilCheck (.t 43)),qf 49 4 48,qu (.store 1 (.t 49) (.t 47))] (.seq (.seq (.draw [qv 50 0,qq 51 (.nilCheck (.t 50)),qf 52 0 51,ql 53 52,qv 54 0,qq 55 (.nilCheck (.t 54)),qf 56 1 55,qs 57 3 56,qv 58 1] []) (sr [qq 59 (.call 257 [.t 53,.t 57,.t 58])] (.draw [qu (.mov (.c (.tup []))),qu (.mov (.c (.tup []))),qu (.mov (.c (.tup []))),qu (.mov (.c (.tup []))),qu (.mov (.c (.tup []))),qu (.mov (.c (.tup []))),qu (.mov (.c (.tup []))),qu (.mov (.c (.tup []))),qu (.mov (.c (.tup []))),qu (.mov (.c (.tup []))),qe 60 59 0,qe 61 59 1,qv 4 60,qv 5 61] []))) (.ret))))),[.t 4,.t 5]⟩
def S243 : AF := ⟨sr [qq 10 (.mov (.c (.bool true)))] (sr [qq 11 (.mov (.c (.bool true)))] (.block 0 (.loop (.block 1 (sr [qv 21 2,qv 22 1,qb 23 .sub 21 22,qv 12 23] (.seq (sr [qv 24 12,qn 25 .leq 24 12] (.cond (.t 25) (sr [qv 26 0,qv 27 1,qv 28 2,qv 29 4,qq 30 (.call 291 [.t 26,.t 27,.t 28,.t 29])] (.ret)) (.skip))) (.seq (sr [qv 31 3,qn 32 .eql 31 0] (.cond (.t 32) (sr [qv 33 0,qv 34 1,qv 35 2,qv 36 4,qq 37 (.call 292 [.t 33,.t 34,.t 35,.t 36])] (.ret)) (.skip))) (.seq (sr [qv 38 10,qq 39 (.un .not (.t 38))] (.cond (.t 39) (sr [qv 40 0,qv 41 1,qv 42 2,qv 43 4,qq 44 (.call 293 [.t 40,.t 41,.t 42,.t 43])] (.region [qv 45 3,qn 46 .sub 45 1,qv 3 46])) (.skip))) (sr [qv 48 0,qv 49 1,qv 50 2,qv 51 4,qq 52 (.call 294 [.t 48,.t 49,.t 50,.t 51]),qv 47 52,qe 53 47 0,qe 54 47 1,qv 13 53,qv 14 54] (.seq (sr [qv 55 14,qn 56 .eql 55 2] (.cond (.t 56) (sr [qv 57 0,qv 58 1,qv 59 2,qv 60 4,qq 61 (.call 295 [.t 57,.t 58,.t 59,.t 60])] (sr [qv 62 2,qn 63 .sub 62 1,qv 64 13,qv 65 1,qb 66 .sub 64 65,qb 67 .sub 63 66,qv 13 67] (.region [qm 14 1]))) (.skip))) (.seq (sr [qv 68 10,qv 69 68,qg 70 (.mov (.t 11)) 69 true,qq 71 (.pick (.t 69) (.t 70) (.c (.bool false))),qv 72 71,qg 73 (.mov (.t 14)) 72 true,qg 74 (.bin .eql (.t 73) (nn 1)) 72 true,qq 75 (.pick (.t 72) (.t 74) (.c (.bool false)))] (.cond (.t 75) (sr [qv 76 0,qv 77 1,qv 78 2,qv 79 4,qq 80 (.call 296 [.t 76,.t 77,.t 78,.t 79])] (.cond (.t 80) (.ret) (.skip))) (.skip))) (.seq (.seq (.seq (.draw [qv 81 1,qn 82 .gtr 81 0,qv 83 82,qg 84 (.mov (.t 4)) 83 true,qg 85 (.mov (.t 0)) 83 true,qg 86 (.mov (.t 1)) 83 true,qg 87 (.bin .sub (.t 86) (nn 1)) 83 true,qg 88 (.idxSl 1 (.t 85) (.t 87)) 83 true,qg 89 (.load none (.t 88)) 83 true,qg 90 (.mov (.t 0)) 83 true,qg 91 (.mov (.t 13)) 83 true,qg 92 (.idxSl 1 (.t 90) (.t 91)) 83 true,qg 93 (.load none (.t 92)) 83 true] []) (.region [qg 94 (.callV (.t 84) [.t 89,.t 93]) 83 true,qg 95 (.bin .lss (.t 94) (nn 0)) 83 true,qg 96 (.un .not (.t 95)) 83 true,qq 97 (.pick (.t 83) (.t 96) (.c (.bool false)))])) (.cond (.t 97) (sr [qv 98 0,qv 99 1,qv 100 2,qv 101 13,qv 102 4,qq 103 (.call 297 [.t 98,.t 99,.t 100,.t 101,.t 102]),qv 15 103] (sr [qv 104 15,qv 1 104] (.exit 1))) (.skip))) (sr [qv 106 0,qv 107 1,qv 108 2,qv 109 13,qv 110 4,qq 111 (.call 298 [.t 106,.t 107,.t 108,.t 109,.t 110]),qv 105 111,qe 112 105 0,qe 113 105 1,qv 16 112,qv 17 113] (sr [qv 114 17,qv 11 114] (sr [qv 115 16,qv 116 1,qb 117 .sub 115 116,qv 118 2,qv 119 16,qb 120 .sub 118 119,qv 18 117,qv 19 120] (sr [qv 121 12,qn 122 .quo 121 8,qv 20 122] (sr [qv 123 18,qv 124 19,qb 125 .lss 123 124] (.cond (.t 125) (sr [qv 126 18,qv 127 20,qb 128 .geq 126 127,qv 10 128] (sr [qv 129 0,qv 130 1,qv 131 16,qv 132 3,qv 133 4,qq 134 (.call 243 [.t 129,.t 130,.t 131,.t 132,.t 133])] (.region [qv 135 16,qn 136 .add 135 1,qv 1 136]))) (sr [qv 137 19,qv 138 20,qb 139 .geq 137 138,qv 10 139] (sr [qv 140 0,qv 141 16,qn 142 .add 141 1,qv 143 2,qv 144 3,qv 145 4,qq 146 (.call 243 [.t 140,.t 142,.t 143,.t 144,.t 145])] (.region [qv 147 16,qv 2 147]))))))))))))))))))))),[]⟩
def S249 : AF := ⟨.seq (sr [qv 8 0,qq 9 (.nilCheck (.t 8)),qf 10 0 9,qs 11 3 10,qv 12 1,qq 13 (.call 93 [.t 11,.t 12]),qq 14 (.lenSl (.t 13)),qn 15 .gtr 14 0] (.cond (.t 15) (.region [qv 16 0,qv 17 1,qq 18 (.call 304 [.t 16,.t 17])]) (.skip))) (sr [qv 19 0,qq 20 (.nilCheck (.t 19)),qf 21 0 20,qf 22 2 21,ql 23 22,qv 24 1,qx 25 3 23 24,qf 26 2 25,ql 27 26,qq 28 (.lenSl (.t 27)),qm 29 0] (.block 0 (.loop (sr [qb 30 .lss 29 28] (.seq (.cond (.t 30) (.skip) (.exit 0)) (.seq (.block 1 (sr [qv 31 29,qx 32 4 27 29,qs 33 4 32,qq 5 (.alloc [(.bool false),(.int .i64 0),(.int .i64 0),(.int .i64 0)]),qv 4 31,qu (.store 4 (.t 5) (.t 33))] (sr [qv 34 1,qv 35 4,qq 36 (.build [(.int .i64 0),(.int .i64 0)] [(0,1,(.t 34)),(1,1,(.t 35))]),qq 6 (.alloc [(.int .i64 0),(.int .i64 0)]),qu (.store 2 (.t 6) (.t 36))] (.seq (.seq (.seq (.draw [qf 37 2 5,qf 38 0 37,ql 39 38,qn 40 .eql 39 2,qv 41 40,qg 42 (.mov (.t 0)) 41 false,qg 43 (.nilCheck (.t 42)) 41 false,qg 44 (.fieldAddr 0 (.t 43)) 41 false,qg 45 (.load (some 3) (.t 44)) 41 false,qg 46 (.load (some 2) (.t 6)) 41 false] []) (.region [qg 47 (.call 153 [.t 45,.t 46]) 41 false,qg 48 (.un .not (.t 47)) 41 false,qq 49 (.pick (.t 41) (.c (.bool true)) (.t 48))])) (.cond (.t 49) (.exit 1) (.skip))) (sr [qv 50 0,qs 51 2 6,qq 52 (.call 305 [.t 50,.t 51]),qv 7 52] (.block 2 (sr [qv 54 7,qq 55 (.lenSl (.t 54)),qn 56 .eql 55 0,qv 53 56] (.cond (.t 53) (.region [qv 57 0,qv 58 1,qq 59 (.call 304 [.t 57,.t 58])]) (sr [qv 61 7,qq 62 (.lenSl (.t 61)),qn 63 .eql 62 1,qv 64 63,qg 65 (.mov (.t 7)) 64 true,qg 66 (.idxSl 1 (.t 65) (nn 0)) 64 true,qg 67 (.load none (.t 66)) 64 true,qg 68 (.bin .geq (.t 67) (nn 0)) 64 true,qq 69 (.pick (.t 64) (.t 68) (.c (.bool false))),qv 70 69,qg 71 (.mov (.t 0)) 70 true,qg 72 (.nilCheck (.t 71)) 70 true,qg 73 (.fieldAddr 3 (.t 72)) 70 true,qg 74 (.load none (.t 73)) 70 true,qg 75 (.mov (.t 1)) 70 true,qg 76 (.lookup .int (.int .i64 0) false (.t 74) (.t 75)) 70 true,qg 77 (.bin .gtr (.t 76) (nn 0)) 70 true,qq 78 (.pick (.t 70) (.t 77) (.c (.bool false))),qv 60 78] (.cond (.t 60) (.seq (.draw [qv 79 0,qv 80 0,qq 81 (.nilCheck (.t 80)),qf 82 3 81,ql 83 82,qv 84 7,qq 85 (.idxSl 1 (.t 84) (nn 0)),ql 86 85] []) (.region [qq 87 (.call 306 [.t 79,.t 83,.t 86])])) (.skip))))))))))) (.region [qn 88 .add 29 1,qv 29 88]))))))),[]⟩
def S253 : AF := ⟨sr [qq 3 (.mov (.c (.bool false)))] (sr [ql 4 1,qq 5 (.nilCheck (.t 4)),qf 6 1 5,qs 7 3 6,qv 8 0,qq 9 (.call 93 [.t 7,.t 8]),qq 10 (.lenSl (.t 9)),qn 11 .gtr 10 0,qv 3 11] (.ret)),[.t 3]⟩
def S274 : AF := ⟨sr [qq 2 (.mov (.c .nilptr))] (sr [qq 6 (.build [(.int .u64 0),(.int .u64 0),(.int .u64 0),(.int .u64 0),(.int .u64 0),(.int .u64 0),(.int .u64 0),(.int .u64 0)] []),qq 7 (.box 8 (.t 6)),qv 3 7] (.seq (sr [qv 8 0,qq 9 (.lenSl (.t 8)),qm 10 0] (.block 0 (.loop (sr [qb 11 .lss 10 9] (.seq (.cond (.t 11) (.skip) (.exit 0)) (.seq (.block 1 (sr [qx 12 1 8 10,ql 13 12,qv 5 13] (.region [qv 14 3,qv 15 5,qq 16 (.call 278 [.t 14,.t 15])]))) (.region [qn 17 .add 10 1,qv 10 17]))))))) (sr [qv 18 3,qv 2 18] (.ret)))),[.t 2]⟩
def S278 : AF := ⟨sr [qm 4 0] (sr [qv 6 0,qv 7 1,qq 8 (.call 335 [.t 6,.t 7]),qv 5 8] (.seq (sr [qv 9 5,qn 10 .eql 9 0] (.cond (.t 10) (.draw [qv 11 0,qv 12 1,qn 13 .quo 12 64,qq 14 (.nilCheck (.t 11)),qf 15 0 14,qq 16 (.idxArr 8 1 (.t 15) (.t 13)),ql 17 16,qv 18 1,qn 19 .rem 18 64,qq 20 (.bin .shl (.c (.int .u64 1)) (.t 19)),qb 21 .or 17 20,qq 22 (.nilCheck (.t 11)),qf 23 0 22,qq 24 (.idxArr 8 1 (.t 23) (.t 13)),qu (.store 1 (.t 24) (.t 21))] []) (.skip))) (sr [qv 25 5,qv 4 25] (.ret)))),[.t 4]⟩
def S279 : AF := ⟨sr [qq 2 (.mov (.c (.sl none true 0 [])))] (.seq (sr [qv 6 0,qq 7 (.eq false .ptr (.t 6) (.c .nilptr))] (.cond (.t 7) (sr [qq 2 (.mov (.c (.sl none true 0 [])))] (.ret)) (.skip))) (sr [qq 3 (.mov (.c (.sl none true 0 [])))] (.seq (sr [qv 8 0,qq 9 (.nilCheck (.t 8)),qf 10 0 9,qs 11 8 10,qm 12 0] (.block 0 (.loop (sr [qn 13 .lss 12 8] (.seq (.cond (.t 13) (.skip) (.exit 0)) (.seq (.block 1 (sr [qv 14 12,qq 15 (.idxVal none 8 1 (.t 11) (.t 12)),qv 4 14,qv 5 15] (.block 2 (.loop (.seq (sr [qv 16 5,qq 17 (.bin .neq (.t 16) (.c (.int .u64 0)))] (.cond (.t 17) (.skip) (.exit 2))) (.seq (.block 3 (.region [qv 22 3,qv 23 4,qn 24 .mul 23 64,qv 25 5,qq 26 (.call 336 [.t 25]),qb 27 .add 24 26,qq 28 (.buildSl true 1 [(.int .i64 0)] [(0,1,(.t 27))] 1),qq 29 (.append true 1 8 (.t 22) (.t 28)),qv 3 29])) (.region [qv 18 5,qv 19 5,qq 20 (.bin .sub (.t 19) (.c (.int .u64 1))),qb 21 .and 18 20,qv 5 21]))))))) (.region [qn 30 .add 12 1,qv 12 30]))))))) (sr [qv 31 3,qv 2 31] (.ret))))),[.t 2]⟩
def S291 : AF := ⟨sr [qv 10 1,qn 11 .add 10 1,qv 8 11] (.block 0 (.loop (.seq (sr [qv 12 8,qv 13 2,qb 14 .lss 12 13] (.cond (.t 14) (.skip) (.exit 0))) (.seq (.block 1 (sr [qv 17 8,qv 9 17] (.block 2 (.loop (.seq (.seq (.seq (.draw [qv 18 9,qv 19 1,qb 20 .gtr 18 19,qv 21 20,qg 22 (.mov (.t 3)) 21 true,qg 23 (.mov (.t 0)) 21 true,qg 24 (.mov (.t 9)) 21 true,qg 25 (.idxSl 1 (.t 23) (.t 24)) 21 true,qg 26 (.load none (.t 25)) 21 true,qg 27 (.mov (.t 0)) 21 true,qg 28 (.mov (.t 9)) 21 true,qg 29 (.bin .sub (.t 28) (nn 1)) 21 true,qg 30 (.idxSl 1 (.t 27) (.t 29)) 21 true,qg 31 (.load none (.t 30)) 21 true] []) (.region [qg 32 (.callV (.t 22) [.t 26,.t 31]) 21 true,qg 33 (.bin .lss (.t 32) (nn 0)) 21 true,qq 34 (.pick (.t 21) (.t 33) (.c (.bool false)))])) (.cond (.t 34) (.skip) (.exit 2))) (.seq (.block 3 (.draw [qv 37 0,qv 38 9,qv 39 0,qv 40 9,qn 41 .sub 40 1,qv 42 0,qv 43 9,qn 44 .sub 43 1,qx 45 1 42 44,ql 46 45,qv 47 0,qv 48 9,qx 49 1 47 48,ql 50 49,qx 51 1 37 38,qu (.store 1 (.t 51) (.t 46)),qx 52 1 39 41,qu (.store 1 (.t 52) (.t 50))] [])) (.region [qv 35 9,qn 36 .sub 35 1,qv 9 36]))))))) (.region [qv 15 8,qn 16 .add 15 1,qv 8 16]))))),[]⟩
def S311 : AF := ⟨sr [qq 2 (.box 3 (.t 0)),qq 4 (.mov (.c .nilptr))] (.seq (.draw [qs 15 3 2,qq 16 (.mkMap),qq 17 (.mkMap),qs 18 3 2,qq 19 (.call 92 [.t 18]),qq 20 (.mkMap),qq 21 (.build [(.sl none true 0 []),(.sl none true 0 []),(.sl none true 0 []),(.sl none true 0 []),.nilmap,.nilmap,(.sl none true 0 []),.nilmap,(.int .i64 0),(.bool false),(.sl none true 0 [])] [(0,3,(.t 15)),(4,1,(.t 16)),(5,1,(.t 17)),(6,1,(.t 19)),(7,1,(.t 20))]),qq 22 (.box 11 (.t 21)),qv 5 22] [(0,1),(0,2),(1,2),(1,3),(2,3),(1,4),(2,4),(0,5),(1,5),(2,5),(3,5),(4,5)]) (.seq (sr [qs 23 3 2,qq 24 (.call 94 [.t 23]),qq 25 (.lenSl (.t 24)),qm 26 0] (.block 0 (.loop (sr [qb 27 .lss 26 25] (.seq (.cond (.t 27) (.skip) (.exit 0)) (.seq (.block 1 (sr [qv 28 26,qx 29 2 24 26,qs 30 2 29,qq 7 (.alloc [(.int .i64 0),(.int .i64 0)]),qv 6 28,qu (.store 2 (.t 7) (.t 30))] (.draw [qv 31 5,qv 32 5,qq 33 (.nilCheck (.t 32)),qf 34 3 33,ql 35 34,qf 36 0 7,ql 37 36,qv 38 1,qv 39 6,qx 40 1 38 39,ql 41 40,qf 42 2 2,ql 43 42,qf 44 0 7,ql 45 44,qx 46 3 43 45,qf 47 2 46,ql 48 47,qf 49 1 7,ql 50 49,qx 51 4 48 50,qf 52 1 51,ql 53 52,qq 54 (.build [(.int .i64 0),(.int .i64 0),(.int .i64 0)] [(0,1,(.t 37)),(1,1,(.t 41)),(2,1,(.t 53))]),qq 55 (.buildSl true 3 [(.int .i64 0),(.int .i64 0),(.int .i64 0)] [(0,3,(.t 54))] 1),qq 56 (.append true 3 24 (.t 35) (.t 55)),qq 57 (.nilCheck (.t 31)),qf 58 3 57,qu (.store 1 (.t 58) (.t 56))] [(4,24)]))) (.region [qn 59 .add 26 1,qv 26 59]))))))) (.seq (sr [qv 60 5,qq 61 (.nilCheck (.t 60)),qf 62 6 61,ql 63 62,qq 64 (.lenSl (.t 63)),qm 65 0] (.block 2 (.loop (sr [qb 66 .lss 65 64] (.seq (.cond (.t 66) (.skip) (.exit 2)) (.seq (.block 3 (sr [qv 67 65,qx 68 1 63 65,ql 69 68,qv 8 67,qv 9 69] (.seq (.draw [qv 70 5,qq 71 (.nilCheck (.t 70)),qf 72 4 71,ql 73 72,qv 74 9,qv 75 5,qq 76 (.nilCheck (.t 75)),qf 77 5 76,ql 78 77,qv 79 9,qq 80 (.call 274 [(.c (.sl none true 0 []))]),qq 81 (.call 274 [(.c (.sl none true 0 []))]),qq 82 (.mapEnt .int .nilptr (.t 73) (.t 74)),qe 83 82 1,qu (.entSt (.t 73) (.t 83) (.t 80)),qq 84 (.mapEnt .int .nilptr (.t 78) (.t 79)),qe 85 84 1,qu (.entSt (.t 78) (.t 85) (.t 81))] []) (.seq (sr [qv 86 5,qq 87 (.nilCheck (.t 86)),qf 88 6 87,ql 89 88,qv 90 8,qq 91 (.slSl 1 (.t 89) none (some (.t 90))),qq 92 (.lenSl (.t 91)),qm 93 0] (.block 4 (.loop (sr [qb 94 .lss 93 92] (.seq (.cond (.t 94) (.skip) (.exit 4)) (.seq (.block 5 (sr [qx 95 1 91 93,ql 96 95,qv 11 96] (.seq (.draw [qf 97 2 2,ql 98 97,qv 99 11,qx 100 3 98 99,qf 101 0 100,ql 102 101,qf 103 2 2,ql 104 103,qv 105 9,qx 106 3 104 105,qf 107 0 106,ql 108 107,qb 109 .eql 102 108] []) (.cond (.t 109) (.region [qv 110 5,qq 111 (.nilCheck (.t 110)),qf 112 4 111,ql 113 112,qv 114 9,qq 115 (.lookup .int .nilptr false (.t 113) (.t 114)),qv 116 11,qq 117 (.call 278 [.t 115,.t 116])]) (.skip))))) (.region [qn 118 .add 93 1,qv 93 118]))))))) (sr [qf 119 1 2,ql 120 119,qq 121 (.lenSl (.t 120)),qm 122 0] (.block 6 (.loop (sr [qb 123 .lss 122 121] (.seq (.cond (.t 123) (.skip) (.exit 6)) (.seq (.block 7 (sr [qv 124 122,qv 12 124] (sr [qs 126 3 2,qv 127 9,qv 128 12,qq 129 (.call 216 [.t 126,.t 127,.t 128]),qv 125 129,qe 130 125 0,qe 131 125 1,qq 13 (.alloc [(.int .i64 0),(.int .i64 0)]),qu (.store 2 (.t 13) (.t 130)),qv 14 131] (sr [qv 132 14] (.cond (.t 132) (.region [qv 133 5,qq 134 (.nilCheck (.t 133)),qf 135 5 134,ql 136 135,qv 137 9,qq 138 (.lookup .int .nilptr false (.t 136) (.t 137)),qv 139 12,qq 140 (.call 278 [.t 138,.t 139])]) (.skip)))))) (.region [qn 141 .add 122 1,qv 122 141]))))))))))) (.region [qn 142 .add 65 1,qv 65 142]))))))) (sr [qv 143 5,qv 4 143] (.ret))))),[.t 4]⟩
def S312 : AF := ⟨sr [qq 4 (.mov (.c (.bool false)))] (.seq (.seq (.draw [qv 7 0,qq 8 (.nilCheck (.t 7)),qf 9 7 8,ql 10 9,qq 11 (.lenMap (.t 10)),qv 12 0,qq 13 (.nilCheck (.t 12)),qf 14 8 13,ql 15 14,qb 16 .eql 11 15] []) (.cond (.t 16) (sr [qv 17 0,qq 18 (.nilCheck (.t 17)),qf 19 9 18,qu (.store 1 (.t 19) (.c (.bool true)))] (sr [qq 4 (.mov (.c (.bool false)))] (.ret))) (.skip))) (.seq (.draw [qv 20 0,qq 21 (.nilCheck (.t 20)),qf 22 7 21,ql 23 22,qv 24 1,qq 25 (.call 348 [.t 24]),qq 26 (.lookup .int (.int .i64 0) false (.t 23) (.t 25)),qn 27 .add 26 1,qu (.mapSet .int (.t 23) (.t 25) (.t 27))] []) (.seq (.seq (.draw [qv 28 0,qq 29 (.nilCheck (.t 28)),qf 30 10 29,ql 31 30,qq 32 (.lenSl (.t 31)),qv 33 0,qq 34 (.nilCheck (.t 33)),qf 35 6 34,ql 36 35,qq 37 (.lenSl (.t 36)),qb 38 .eql 32 37] []) (.cond (.t 38) (sr [qq 4 (.mov (.c (.bool true)))] (.ret)) (.skip))) (.seq (sr [qv 39 0,qq 40 (.nilCheck (.t 39)),qf 41 6 40,ql 42 41,qq 43 (.lenSl (.t 42)),qm 44 0] (.block 0 (.loop (sr [qb 45 .lss 44 43] (.seq (.cond (.t 45) (.skip) (.exit 0)) (.seq (.block 1 (sr [qx 46 1 42 44,ql 47 46,qv 6 47] (.seq (.seq (.draw [qv 48 1,qv 49 6,qq 50 (.call 334 [.t 48,.t 49]),qv 51 50,qg 52 (.mov (.t 0)) 51 false,qg 53 (.mov (.t 1)) 51 false,qg 54 (.mov (.t 6)) 51 false,qg 55 (.call 349 [.t 52,.t 53,.t 54]) 51 false,qg 56 (.un .not (.t 55)) 51 false,qq 57 (.pick (.t 51) (.c (.bool true)) (.t 56)),qv 58 57,qg 59 (.mov (.t 0)) 58 false,qg 60 (.nilCheck (.t 59)) 58 false,qg 61 (.fieldAddr 7 (.t 60)) 58 false,qg 62 (.load none (.t 61)) 58 false,qg 63 (.mov (.t 1)) 58 false,qg 64 (.call 348 [.t 63]) 58 false,qg 65 (.mov (.t 6)) 58 false,qg 66 (.bin .shl (.c (.int .u64 1)) (.t 65)) 58 false,qg 67 (.bin .or (.t 64) (.t 66)) 58 false,qg 68 (.lookup .int (.int .i64 0) false (.t 62) (.t 67)) 58 false,qg 69 (.bin .gtr (.t 68) (nn 0)) 58 false,qq 70 (.pick (.t 58) (.c (.bool true)) (.t 69))] []) (.cond (.t 70) (.exit 1) (.skip))) (sr [qv 71 1,qv 72 6,qq 73 (.call 278 [.t 71,.t 72])] (sr [qv 74 0,qv 75 0,qq 76 (.nilCheck (.t 75)),qf 77 10 76,ql 78 77,qv 79 6,qq 80 (.buildSl true 1 [(.int .i64 0)] [(0,1,(.t 79))] 1),qq 81 (.append true 1 8 (.t 78) (.t 80)),qq 82 (.nilCheck (.t 74)),qf 83 10 82,qu (.store 1 (.t 83) (.t 81))] (.seq (sr [qv 84 0,qv 85 1,qq 86 (.call 312 [.t 84,.t 85])] (.cond (.t 86) (sr [qq 4 (.mov (.c (.bool true)))] (.ret)) (.skip))) (.seq (sr [qv 87 0,qq 88 (.nilCheck (.t 87)),qf 89 9 88,ql 90 89] (.cond (.t 90) (sr [qq 4 (.mov (.c (.bool false)))] (.ret)) (.skip))) (.seq (.draw [qv 91 0,qv 92 0,qq 93 (.nilCheck (.t 92)),qf 94 10 93,ql 95 94,qv 96 0,qq 97 (.nilCheck (.t 96)),qf 98 10 97,ql 99 98,qq 100 (.lenSl (.t 99)),qn 101 .sub 100 1,qq 102 (.slSl 1 (.t 95) none (some (.t 101))),qq 103 (.nilCheck (.t 91)),qf 104 10 103,qu (.store 1 (.t 104) (.t 102))] []) (.region [qv 105 1,qv 106 6,qq 107 (.call 350 [.t 105,.t 106])]))))))))) (.region [qn 108 .add 44 1,qv 44 108]))))))) (sr [qq 4 (.mov (.c (.bool false)))] (.ret)))))),[.t 4]⟩
def S334 : AF := ⟨sr [qq 4 (.mov (.c (.bool false)))] (sr [qv 5 0,qv 6 1,qq 7 (.call 335 [.t 5,.t 6]),qn 8 .eql 7 0,qv 9 8,qg 10 (.mov (.t 0)) 9 true,qg 11 (.mov (.t 1)) 9 true,qg 12 (.bin .quo (.t 11) (nn 64)) 9 true,qg 13 (.nilCheck (.t 10)) 9 true,qg 14 (.fieldAddr 0 (.t 13)) 9 true,qg 15 (.idxArr 8 1 (.t 14) (.t 12)) 9 true,qg 16 (.load none (.t 15)) 9 true,qg 17 (.mov (.t 1)) 9 true,qg 18 (.bin .rem (.t 17) (nn 64)) 9 true,qg 19 (.bin .shr (.t 16) (.t 18)) 9 true,qg 20 (.bin .and (.t 19) (.c (.int .u64 1))) 9 true,qg 21 (.bin .eql (.t 20) (.c (.int .u64 1))) 9 true,qq 22 (.pick (.t 9) (.t 21) (.c (.bool false))),qv 4 22] (.ret)),[.t 4]⟩
def S335 : AF := ⟨sr [qm 4 0] (.seq (.block 0 (sr [qv 6 0,qq 7 (.eq false .ptr (.t 6) (.c .nilptr)),qv 5 7] (.cond (.t 5) (sr [qm 4 4] (.ret)) (sr [qv 9 1,qq 10 (.call 358 [.t 9]),qq 11 (.un .not (.t 10)),qv 8 11] (.cond (.t 8) (sr [qm 4 2] (.ret)) (.skip)))))) (sr [qm 4 0] (.ret))),[.t 4]⟩
def S348 : AF := ⟨sr [qq 2 (.mov (.c (.int .u64 0)))] (sr [qq 3 (.mov (.c (.int .u64 0)))] (.seq (sr [qv 6 0,qq 7 (.call 279 [.t 6]),qq 8 (.lenSl (.t 7)),qm 9 0] (.block 0 (.loop (sr [qb 10 .lss 9 8] (.seq (.cond (.t 10) (.skip) (.exit 0)) (.seq (.block 1 (sr [qx 11 1 7 9,ql 12 11,qv 5 12] (.region [qv 13 3,qv 14 5,qq 15 (.bin .shl (.c (.int .u64 1)) (.t 14)),qb 16 .or 13 15,qv 3 16]))) (.region [qn 17 .add 9 1,qv 9 17]))))))) (sr [qv 18 3,qv 2 18] (.ret)))),[.t 2]⟩
def S349 : AF := ⟨sr [qq 3 (.box 1 (.t 0)),qq 4 (.box 1 (.t 1)),qq 5 (.box 1 (.t 2)),qq 6 (.mov (.c (.bool false)))] (.seq (.seq (.seq (.draw [ql 7 3,qq 8 (.nilCheck (.t 7)),qf 9 4 8,ql 10 9,ql 11 5,qq 12 (.lookup .int .nilptr false (.t 10) (.t 11)),qq 13 (.call 279 [.t 12]),qq 14 (.mkFn (.func 364) [] [.t 4])] []) (.region [qq 15 (.call 99 [.t 13,.t 14])])) (.cond (.t 15) (sr [qq 6 (.mov (.c (.bool false)))] (.ret)) (.skip))) (sr [ql 16 3,qq 17 (.nilCheck (.t 16)),qf 18 3 17,ql 19 18,qq 20 (.mkFn (.func 366) [] [.t 5,.t 4,.t 3]),qq 21 (.call 365 [.t 19,.t 20]),qq 22 (.un .not (.t 21)),qv 6 22] (.ret))),[.t 6]⟩
def S365 : AF := ⟨sr [qq 4 (.mov (.c (.bool false)))] (sr [qv 5 0,qv 6 1,qq 7 (.call 371 [.t 5,.t 6]),qn 8 .geq 7 0,qv 4 8] (.ret)),[.t 4]⟩
def S371 : AF := ⟨sr [qm 4 0] (.seq (sr [qv 6 0,qq 7 (.lenSl (.t 6)),qm 8 0] (.block 0 (.loop (sr [qb 9 .lss 8 7] (.seq (.cond (.t 9) (.skip) (.exit 0)) (.seq (.block 1 (sr [qv 10 8,qv 5 10] (sr [qv 11 1,qv 12 0,qv 13 5,qx 14 3 12 13,qs 15 3 14,qq 16 (.callV (.t 11) [.t 15])] (.cond (.t 16) (sr [qv 17 5,qv 4 17] (.ret)) (.skip))))) (.region [qn 18 .add 8 1,qv 8 18]))))))) (sr [qq 4 (.mov (nn (-1)))] (.ret))),[.t 4]⟩
def utf8first : List V := (List.range 256).map fun i => V.int .u8 (if i < 128 then 240 else if i < 194 then 241 else if i < 224 then 2 else if i = 224 then 19 else if i < 237 then 3 else if i = 237 then 35 else if i < 240 then 3 else if i = 240 then 52 else if i < 244 then 4 else if i = 244 then 68 else 241 : Nat)
def words : List V := [.str [], .str [98, 101, 103, 105, 110], .str [114, 101, 97, 100], .str [119, 114, 105, 116, 101], .str [111, 107], .str [102, 97, 105, 108], .str [105, 110, 102, 111]]
def accR : List V := [.int .u8 128, .int .u8 191, .int .u8 160, .int .u8 191, .int .u8 128, .int .u8 159, .int .u8 144, .int .u8 191, .int .u8 128, .int .u8 143, .int .u8 0, .int .u8 0, .int .u8 0, .int .u8 0, .int .u8 0, .int .u8 0, .int .u8 0, .int .u8 0, .int .u8 0, .int .u8 0, .int .u8 0, .int .u8 0, .int .u8 0, .int .u8 0, .int .u8 0, .int .u8 0, .int .u8 0, .int .u8 0, .int .u8 0, .int .u8 0, .int .u8 0, .int .u8 0]
def setZ : List V := [.int .u64 0, .int .u64 0, .int .u64 0, .int .u64 0, .int .u64 0, .int .u64 0, .int .u64 0, .int .u64 0]
def bruij : List V := ([0, 1, 56, 2, 57, 49, 28, 3, 61, 58, 42, 50, 38, 29, 17, 4, 62, 47, 59, 36, 45, 43, 51, 22, 53, 39, 33, 30, 24, 18, 12, 5, 63, 55, 48, 27, 60, 41, 37, 16, 46, 35, 44, 21, 52, 32, 23, 11, 54, 26, 40, 15, 34, 20, 31, 10, 25, 14, 19, 9, 13, 8, 7, 6] : List Int).map (V.int .u8)
def txtL : List V := [.str [], .str [82, 67], .str [67, 67], .str [83, 69, 82]]
def txtP : List V := [.str [], .str [107, 101, 101, 112], .str [101, 114, 97, 115, 101]]
def txtV : List V := [.str [], .str [118, 97, 108, 105, 100], .str [118, 105, 111, 108, 97, 116, 101, 100], .str [117, 110, 107, 110, 111, 119, 110]]
def scrF : List V := [.str [], .str [108, 101, 118, 101, 108], .str [112, 111, 108, 105, 99, 121], .str [98, 117, 100, 103, 101, 116], .str [99, 104, 101, 99, 107], .str [114, 101, 112, 111, 114, 116], .str [102, 111, 114, 99, 101, 100], .str [119, 111, 114, 108, 100, 115], .str [101, 110, 111, 117, 103, 104], .str [115, 104, 111, 119], .str [119, 114, 111, 110, 103]]
def fc_2 : FuncId → Option AF
  | 196 => some F196
  | 198 => some F198
  | 205 => some F205
  | 206 => some F206
  | 214 => some F214
  | 221 => some F221
  | 230 => some F230
  | 231 => some F231
  | 240 => some F240
  | 246 => some F246
  | 256 => some F256
  | 273 => some F273
  | 286 => some F286
  | 336 => some F336
  | 358 => some F358
  | _ => none
def fc_1 : FuncId → Option AF
  | 83 => some F83
  | 85 => some F85
  | 86 => some F86
  | 87 => some F87
  | 88 => some F88
  | 90 => some F90
  | 91 => some F91
  | 92 => some F92
  | 93 => some F93
  | 94 => some F94
  | 95 => some F95
  | 96 => some F96
  | 102 => some F102
  | 103 => some F103
  | 104 => some F104
  | 105 => some F105
  | 109 => some F109
  | 110 => some F110
  | 112 => some F112
  | 113 => some F113
  | 115 => some F115
  | 116 => some F116
  | 117 => some F117
  | 118 => some F118
  | 119 => some F119
  | 120 => some F120
  | 121 => some F121
  | 122 => some F122
  | 123 => some F123
  | 129 => some F129
  | 133 => some F133
  | 136 => some F136
  | 137 => some F137
  | 143 => some F143
  | 144 => some F144
  | 146 => some F146
  | 148 => some F148
  | 149 => some F149
  | 151 => some F151
  | 155 => some F155
  | 174 => some F174
  | 175 => some F175
  | 176 => some F176
  | 177 => some F177
  | 180 => some F180
  | 181 => some F181
  | 182 => some F182
  | 184 => some F184
  | 191 => some F191
  | 194 => some F194
  | f => fc_2 f
def fc : FuncId → Option AF
  | 3 => some F3
  | 4 => some F4
  | 5 => some F5
  | 6 => some F6
  | 7 => some F7
  | 8 => some F8
  | 9 => some F9
  | 10 => some F10
  | 11 => some F11
  | 12 => some F12
  | 13 => some F13
  | 14 => some F14
  | 15 => some F15
  | 16 => some F16
  | 17 => some F17
  | 18 => some F18
  | 20 => some F20
  | 27 => some F27
  | 28 => some F28
  | 31 => some F31
  | 33 => some F33
  | 34 => some F34
  | 35 => some F35
  | 36 => some F36
  | 37 => some F37
  | 38 => some F38
  | 39 => some F39
  | 40 => some F40
  | 41 => some F41
  | 46 => some F46
  | 48 => some F48
  | 49 => some F49
  | 50 => some F50
  | 51 => some F51
  | 54 => some F54
  | 55 => some F55
  | 58 => some F58
  | 59 => some F59
  | 60 => some F60
  | 61 => some F61
  | 62 => some F62
  | 63 => some F63
  | 64 => some F64
  | 65 => some F65
  | 68 => some F68
  | 69 => some F69
  | 70 => some F70
  | 75 => some F75
  | 79 => some F79
  | 80 => some F80
  | f => fc_1 f
def fs_1 : FuncId → Option AF
  | 249 => some S249
  | 253 => some S253
  | 274 => some S274
  | 278 => some S278
  | 279 => some S279
  | 291 => some S291
  | 311 => some S311
  | 312 => some S312
  | 334 => some S334
  | 335 => some S335
  | 348 => some S348
  | 349 => some S349
  | 365 => some S365
  | 371 => some S371
  | _ => none
def fs : FuncId → Option AF
  | 21 => some S21
  | 22 => some S22
  | 23 => some S23
  | 25 => some S25
  | 26 => some S26
  | 29 => some S29
  | 30 => some S30
  | 32 => some S32
  | 52 => some S52
  | 66 => some S66
  | 67 => some S67
  | 71 => some S71
  | 72 => some S72
  | 73 => some S73
  | 74 => some S74
  | 76 => some S76
  | 81 => some S81
  | 82 => some S82
  | 84 => some S84
  | 90 => some S90
  | 99 => some S99
  | 107 => some S107
  | 124 => some S124
  | 125 => some S125
  | 126 => some S126
  | 128 => some S128
  | 130 => some S130
  | 131 => some S131
  | 132 => some S132
  | 134 => some S134
  | 138 => some S138
  | 140 => some S140
  | 141 => some S141
  | 145 => some S145
  | 147 => some S147
  | 150 => some S150
  | 166 => some S166
  | 169 => some S169
  | 172 => some S172
  | 187 => some S187
  | 189 => some S189
  | 190 => some S190
  | 192 => some S192
  | 196 => some S196
  | 200 => some S200
  | 202 => some S202
  | 203 => some S203
  | 207 => some S207
  | 209 => some S209
  | 243 => some S243
  | f => fs_1 f
def shl : List Nat := [21, 22, 23, 25, 26, 29, 52, 66, 71, 72, 73, 84, 107, 124, 125, 128, 130, 131, 132, 138, 141, 150, 172, 187, 189, 190, 192, 200, 202, 203, 209, 243, 249, 274, 278, 291, 311, 312]
def shm : List Nat := [41, 194]
def fzl : List Nat := [41, 53, 194]
def twl : List Nat := [41, 194]
def E : Env := { sh := fun nm f => shl.any (Nat.beq f) || (nm && shm.any (Nat.beq f)), fz := fun f => fzl.any (Nat.beq f), tw := fun f => twl.any (Nat.beq f), srt := fun f => match f with  | _ => none, fc := fc, fs := fs, gl := (fun g => match g with | 0 => some txtL | 1 => some txtP | 2 => some txtV | 3 => some words | 4 => some utf8first | 5 => some accR | 8 => some bruij | _ => none), nw := fun f => match f with | 274 => some setZ | _ => none, kn := fun f a => match f with | 53 => joinV a | _ => none }
end Go.Pv.T
namespace Go.Pv
open Go
/-- Known answers: function, what it is handed, what it hands back. -/
abbrev Tbl := List (FuncId × List V × V)
def look : Tbl → FuncId → List V → Option V
  | [], _, _ => none
  | e :: t, f, a => cond (Nat.beq e.1 f && V.eqbs e.2.1 a) (some e.2.2) (look t f a)
/-- As callers, but for what is known. -/
def callersM (E : Env) (T : Tbl) : Nat → Y → Callers
  | 0, y => { d := fun f a => look T f a, o := fun _ _ _ _ _ _ => none, s := fun _ _ _ _ _ _ _ => none, y := y }
  | n + 1, y => {
    d := fun f args => match look T f args with
      | some r => some r
      | none => dOr E f args fun af => one1 (endV af.res) (codeL E (callersM E T n) noY n af.body (start args))
    o := fun f args ob _ base ub => if E.fz f then (args.mapM (frzTop ob)).bind fun args' => ((callersM E T n noY).d f args').bind fun r => if r.freeR then some r else none else
      (E.fs f).bind fun af => one1 (endV af.res) (codeL E (callersM E T n) noY n af.body (startS args ob (fun _ => false) ub base ub))
    s := fun f args ob tk ro base ub => if E.tw f then (args.mapM (frzTop ob)).bind fun args' => ((callersM E T n noY).d f args').bind fun r => (thawR ob tk ub r).map fun x => [x] else match E.srt f with
      | some m => (sortA m ob tk ro ub args).map fun x => [x]
      | none => (E.fs f).bind fun af => (codeL E (callersM E T n) y n af.body (startS args ob tk ro base ub)).bind fun l => if E.mn f then l.mapM (endS af.res) else match l with
        | [x] => (endS af.res x).map fun r => [r]
        | _ => none
    y := y }
def EvT (E : Env) (T : Tbl) : Prop := ∀ e ∈ T, Ev E e.1 e.2.1 e.2.2
theorem noY_le (y : Y) : YLe noY y := fun _ _ _ _ _ _ _ _ h => by cases h
theorem look_le {E : Env} {T : Tbl} (h : EvT E T) : ∃ N, ∀ f a, le (look T f a) ((callers E N noY).d f a) := by
  induction T with
  | nil => exact ⟨0, fun _ _ _ h => by cases h⟩
  | cons e t ih =>
    obtain ⟨N, hN⟩ := ih fun x hx => h x (List.mem_cons_of_mem _ hx)
    obtain ⟨k, hk⟩ := h e List.mem_cons_self
    refine ⟨max N k, fun f a r hr => ?_⟩
    simp only [look] at hr
    cases hc : (Nat.beq e.1 f && V.eqbs e.2.1 a) with
    | true =>
      rw [hc] at hr
      rw [Bool.and_eq_true] at hc
      cases hr
      have e1 := Nat.eq_of_beq_eq_true hc.1
      have e2 := eqbs_sound _ _ hc.2
      rw [← e1, ← e2]
      exact (callers_mono k (max N k) (by omega) _ _ (YLe.refl _)).d _ _ _ hk
    | false =>
      rw [hc] at hr
      exact (callers_mono N (max N k) (by omega) _ _ (YLe.refl _)).d _ _ _ (hN f a r hr)
theorem callersM_le {E : Env} {T : Tbl} {N : Nat} (h : ∀ f a, le (look T f a) ((callers E N noY).d f a)) : ∀ n, FLe (callersM E T n) (callers E (N + n))
  | 0 => fun y y' hy => ⟨fun f a r hr => (callers_mono N N (by omega) _ _ (noY_le y')).d f a r (h f a r hr), fun _ _ _ _ _ _ _ h => (by cases h), fun _ _ _ _ _ _ _ _ h => (by cases h), (by cases N <;> exact hy)⟩
  | n + 1 => by
    intro y y' hy
    have hi := callersM_le h n
    have hc := codeL_mono (E := E) hi (show n ≤ N + n by omega)
    have hl : ∀ f a, le (look T f a) ((callers E (N + (n + 1)) y').d f a) := fun f a r hr => (callers_mono N (N + (n + 1)) (by omega) _ _ (noY_le y')).d f a r (h f a r hr)
    refine ⟨fun f a r hr => ?_, fun f a ob tk b u => ?_, fun f a ob tk ro b u => ?_, hy⟩
    · cases hk : look T f a with
      | some r' =>
        simp only [callersM, hk] at hr
        exact hl f a r (hk.trans hr)
      | none =>
        simp only [callersM, hk] at hr
        exact (dOr_mono fun af => one1_mono (hc _ _ _ (YLe.refl _) _)) r hr
    · show le _ _
      simp only [callersM, callers]
      by_cases hz : E.fz f
      · simp only [hz, if_true]
        refine (le.rfl' _).bind fun a' => ?_
        exact ((hi _ _ (YLe.refl _)).d f a').bind fun r => le.rfl' _
      · simp only [hz, Bool.false_eq_true, if_false]
        exact (le.rfl' (E.fs f)).bind fun af => one1_mono (hc _ _ _ (YLe.refl _) _)
    · simp only [callersM, callers]
      by_cases hz : E.tw f
      · simp only [hz, if_true]
        refine (le.rfl' _).bind fun a' => ?_
        exact ((hi _ _ (YLe.refl _)).d f a').bind fun r => le.rfl' _
      simp only [hz, Bool.false_eq_true, if_false]
      cases hs : E.srt f with
      | some m => exact le.rfl' _
      | none =>
      exact (le.rfl' (E.fs f)).bind fun af => (hc _ _ _ hy _).bind fun l => le.rfl' _
/-- One answer more is known. -/
theorem EvT.more {E : Env} {T : Tbl} (h : EvT E T) {f : FuncId} {a : List V} {r : V} (n : Nat) (k : (callersM E T n noY).d f a = some r) : EvT E ((f, a, r) :: T) := by
  obtain ⟨N, hN⟩ := look_le h
  intro e he
  rcases List.mem_cons.1 he with rfl | he
  · exact ⟨N + n, (callersM_le hN n _ _ (YLe.refl _)).d _ _ _ k⟩
  · exact h e he
theorem EvT.nil {E : Env} : EvT E [] := fun _ h => by cases h
theorem EvT.head {E : Env} {T : Tbl} {f : FuncId} {a : List V} {r : V} (h : EvT E ((f, a, r) :: T)) : Ev E f a r := h _ List.mem_cons_self
end Go.Pv
namespace Go.Pv.T
open Go Go.Pv
def pn39v0 : V := .agg [(.sl none false 1 [(.str [115])]), (.sl none true 0 []), (.sl none false 1 [(.int .i64 0), (.int .i64 1), (.sl none true 0 [])])]
def pn39v1 : V := .agg [(.sl none false 1 [(.str [115])]), (.sl none false 1 [(.str [120])]), (.sl none false 1 [(.int .i64 0), (.int .i64 1), (.sl none false 1 [(.bool false), (.int .i64 0), (.int .i64 2), (.int .i64 0)])])]
def pn39t0 : Tbl := []
theorem pn39k0 : EvT E pn39t0 := EvT.nil
-- deemster/log.Parse: 3500
def pn39t1 : Tbl := (15, [(.str [98, 101, 103, 105, 110, 32, 115, 10, 114, 101, 97, 100, 32, 115, 32, 120, 32, 63, 10, 111, 107, 32, 115])], (.tup [(.sl (some (0, 6)) false 3 [(.int .i64 1), (.str [115]), (.str []), (.int .i64 0), (.int .i64 0), (.int .i64 1), (.int .i64 2), (.str [115]), (.str [120]), (.int .i64 2), (.int .i64 0), (.int .i64 2), (.int .i64 4), (.str [115]), (.str []), (.int .i64 0), (.int .i64 0), (.int .i64 3)]), (.int .i64 0), (.int .i64 0)])) :: pn39t0
theorem pn39k1 : EvT E pn39t1 := pn39k0.more 300 (by kernel_rfl)
-- deemster/hist.heads: 339
def pn39t2 : Tbl := (80, [pn39v1], (.bool true)) :: pn39t1
theorem pn39k2 : EvT E pn39t2 := pn39k1.more 300 (by kernel_rfl)
-- deemster/hist.May: 301
def pn39t3 : Tbl := (37, [pn39v1], (.int .i64 0)) :: pn39t2
theorem pn39k3 : EvT E pn39t3 := pn39k2.more 300 (by kernel_rfl)
-- deemster/hist.May: 360
def pn39t4 : Tbl := (37, [pn39v0], (.int .i64 0)) :: pn39t3
theorem pn39k4 : EvT E pn39t4 := pn39k3.more 300 (by kernel_rfl)
-- deemster/search.All: 4057
def pn39t5 : Tbl := (34, [(.int .i64 3), pn39v0, (.int .i64 100)], (.tup [(.agg [(.bool true), (.bool false), (.sl none false 0 []), (.sl none true 0 []), (.sl none true 0 []), (.sl none true 0 []), (.sl none true 0 []), (.sl (some (7, 1)) false 1 [(.int .i64 0)]), (.sl none false 0 []), (.sl none false 0 [])]), (.int .i64 2), (.int .i64 0)])) :: pn39t4
theorem pn39k5 : EvT E pn39t5 := pn39k4.more 300 (by kernel_rfl)
-- deemster/whole.Make: 363
def pn39t6 : Tbl := (18, [pn39v0, (.agg [(.sl none false 0 []), (.sl none true 0 [])])], (.tup [(.agg [(.sl (some (0, 1)) false 1 [(.str [115])]), (.sl none true 0 []), (.sl (some (2, 3)) false 1 [(.int .i64 0), (.int .i64 1), (.sl none true 0 [])])]), (.int .i64 0)])) :: pn39t5
theorem pn39k6 : EvT E pn39t6 := pn39k5.more 300 (by kernel_rfl)
-- deemster/deemsterlaw39.works: 4992
def pn39t7 : Tbl := (10, [], (.bool true)) :: pn39t6
theorem pn39k7 : EvT E pn39t7 := pn39k6.more 300 (by kernel_rfl)
section
variable {E : Env} {Yf : YF} {st : St} {ub : Nat} {K : St → Nat → Prop} {d : Option Nat} {nm : Bool}
theorem kS_build0 {sz n : Nat} {zero : List V} {parts : List (Nat × Nat × A)} {cs : List V} (hf : fill zero (evalParts (eval E st.tm) parts) = some cs) (hl : cs.length = n * sz) (hp : (cs.map V.strip1).all V.pureLeaf = true)
    (h : kApp K st d ub { v := .sl (some (ub, sz)) false n (cs.map V.strip1), add := [ub] }) : wpStep E Yf ⟨d, .buildSl false sz zero parts n, none, nm⟩ st ub K := by
  rw [wpStep_of _ rfl rfl]
  simp only [aop, hf, Option.bind_some, Bool.false_eq_true, if_false]
  rw [if_pos ⟨hl, hp⟩, wpD_some]
  exact h
end
/-- The words of levels, policies, verdicts. -/
def wLev (n : Int) : List UInt8 := if n = 1 then [82, 67] else if n = 2 then [67, 67] else if n = 3 then [83, 69, 82] else []
def wPol (n : Int) : List UInt8 := if n = 1 then [107, 101, 101, 112] else if n = 2 then [101, 114, 97, 115, 101] else []
def wVer (n : Int) : List UInt8 := if n = 1 then [118, 97, 108, 105, 100] else if n = 2 then [118, 105, 111, 108, 97, 116, 101, 100] else if n = 3 then [117, 110, 107, 110, 111, 119, 110] else []
theorem three {n : Int} (h1 : ¬ n < 1) (h3 : ¬ 3 < n) : n = 1 ∨ n = 2 ∨ n = 3 := by omega
theorem two {n : Int} (h1 : ¬ n < 1) (h3 : ¬ 2 < n) : n = 1 ∨ n = 2 := by omega
theorem wLev_no {n : Int} (h : n < 1 ∨ 3 < n) : wLev n = [] := by unfold wLev; rw [if_neg (by omega), if_neg (by omega), if_neg (by omega)]
theorem wPol_no {n : Int} (h : n < 1 ∨ 2 < n) : wPol n = [] := by unfold wPol; rw [if_neg (by omega), if_neg (by omega)]
theorem wVer_no {n : Int} (h : n < 1 ∨ 3 < n) : wVer n = [] := by unfold wVer; rw [if_neg (by omega), if_neg (by omega), if_neg (by omega)]
theorem ev4 (n : Int) : Ev E 4 [.int .i64 n] (.str (wLev n)) := by
  by_cases h1 : n < 1
  · rw [wLev_no (.inl h1)]
    refine Ev_wpK (af := F4) rfl ?_
    simp [F4, h1]
    exact endV_1 rfl (by simp) rfl
  by_cases h3 : 3 < n
  · rw [wLev_no (.inr h3)]
    refine Ev_wpK (af := F4) rfl ?_
    simp [F4, h1, h3]
    exact endV_1 rfl (by simp) rfl
  rcases three h1 h3 with rfl | rfl | rfl <;> exact ⟨50, by kernel_rfl⟩
theorem ev6 (n : Int) : Ev E 6 [.int .i64 n] (.str (wPol n)) := by
  by_cases h1 : n < 1
  · rw [wPol_no (.inl h1)]
    refine Ev_wpK (af := F6) rfl ?_
    simp [F6, h1]
    exact endV_1 rfl (by simp) rfl
  by_cases h3 : 2 < n
  · rw [wPol_no (.inr h3)]
    refine Ev_wpK (af := F6) rfl ?_
    simp [F6, h1, h3]
    exact endV_1 rfl (by simp) rfl
  rcases two h1 h3 with rfl | rfl <;> exact ⟨50, by kernel_rfl⟩
theorem ev8 (n : Int) : Ev E 8 [.int .i64 n] (.str (wVer n)) := by
  by_cases h1 : n < 1
  · rw [wVer_no (.inl h1)]
    refine Ev_wpK (af := F8) rfl ?_
    simp [F8, h1]
    exact endV_1 rfl (by simp) rfl
  by_cases h3 : 3 < n
  · rw [wVer_no (.inr h3)]
    refine Ev_wpK (af := F8) rfl ?_
    simp [F8, h1, h3]
    exact endV_1 rfl (by simp) rfl
  rcases three h1 h3 with rfl | rfl | rfl <;> exact ⟨50, by kernel_rfl⟩
/-- A word of a list of them: none where there is no such number. -/
theorem ev11 (n : Int) (nl : Bool) (k : Nat) (cs : List V) (h : n < 1 ∨ (k : Int) < n) : Ev E 11 [.sl none nl k cs, .int .i64 n] (.str []) := by
  refine Ev_wpK (af := F11) rfl ?_
  by_cases h1 : n < 1
  · simp [F11, h1]
    exact endV_1 rfl (by simp) rfl
  have h3 : (k : Int) < n := by omega
  simp [F11, h1, h3]
  exact endV_1 rfl (by simp) rfl
theorem ev5 (n : Int) : Ev E 5 [.int .i64 n] (.str (wLev n)) := by
  by_cases h : n < 1 ∨ 3 < n
  · rw [wLev_no h]
    refine Ev_wpK (af := F5) rfl ?_
    simp [F5]
    refine kS_build0 (cs := [.str [82, 67], .str [67, 67], .str [83, 69, 82]]) (by simp [splice]) rfl rfl ?_
    simp
    refine kS_ev (ev11 n false 3 [.str [82, 67], .str [67, 67], .str [83, 69, 82]] h) (by simp [V.strip, V.strip1]) rfl (by simp [V.pureTop, V.pureLeaf, V.strip, V.strip1]) ?_
    simp
    exact endV_1 rfl (by simp) rfl
  rcases three (n := n) (by omega) (by omega) with rfl | rfl | rfl <;> exact ⟨50, by kernel_rfl⟩
theorem ev7 (n : Int) : Ev E 7 [.int .i64 n] (.str (wPol n)) := by
  by_cases h : n < 1 ∨ 2 < n
  · rw [wPol_no h]
    refine Ev_wpK (af := F7) rfl ?_
    simp [F7]
    refine kS_build0 (cs := [.str [107, 101, 101, 112], .str [101, 114, 97, 115, 101]]) (by simp [splice]) rfl rfl ?_
    simp
    refine kS_ev (ev11 n false 2 [.str [107, 101, 101, 112], .str [101, 114, 97, 115, 101]] h) (by simp [V.strip, V.strip1]) rfl (by simp [V.pureTop, V.pureLeaf, V.strip, V.strip1]) ?_
    simp
    exact endV_1 rfl (by simp) rfl
  rcases two (n := n) (by omega) (by omega) with rfl | rfl <;> exact ⟨50, by kernel_rfl⟩
theorem ev9 (n : Int) : Ev E 9 [.int .i64 n] (.str (wVer n)) := by
  by_cases h : n < 1 ∨ 3 < n
  · rw [wVer_no h]
    refine Ev_wpK (af := F9) rfl ?_
    simp [F9]
    refine kS_build0 (cs := [.str [118, 97, 108, 105, 100], .str [118, 105, 111, 108, 97, 116, 101, 100], .str [117, 110, 107, 110, 111, 119, 110]]) (by simp [splice]) rfl rfl ?_
    simp
    refine kS_ev (ev11 n false 3 [.str [118, 97, 108, 105, 100], .str [118, 105, 111, 108, 97, 116, 101, 100], .str [117, 110, 107, 110, 111, 119, 110]] h) (by simp [V.strip, V.strip1]) rfl (by simp [V.pureTop, V.pureLeaf, V.strip, V.strip1]) ?_
    simp
    exact endV_1 rfl (by simp) rfl
  rcases three (n := n) (by omega) (by omega) with rfl | rfl | rfl <;> exact ⟨50, by kernel_rfl⟩
theorem ev3 (n : Int) : Ev E 3 [.int .i64 n] (.bool true) := by
  have e44 := pn39k7.head
  refine Ev_wpK (af := F3) rfl ?_
  simp [F3]
  refine kS_ev (ev4 n) (by simp [V.strip, V.strip1]) rfl (by simp [V.pureTop, V.pureLeaf]) ?_
  simp
  refine kS_ev (ev5 n) (by simp [V.strip, V.strip1]) rfl (by simp [V.pureTop, V.pureLeaf]) ?_
  simp
  refine kS_ev (ev6 n) (by simp [V.strip, V.strip1]) rfl (by simp [V.pureTop, V.pureLeaf]) ?_
  simp
  refine kS_ev (ev7 n) (by simp [V.strip, V.strip1]) rfl (by simp [V.pureTop, V.pureLeaf]) ?_
  simp
  refine kS_ev (ev8 n) (by simp [V.strip, V.strip1]) rfl (by simp [V.pureTop, V.pureLeaf]) ?_
  simp
  refine kS_ev (ev9 n) (by simp [V.strip, V.strip1]) rfl (by simp [V.pureTop, V.pureLeaf]) ?_
  simp
  refine kS_ev e44 (by simp) rfl (by simp) ?_
  simp
  exact endV_1 rfl (by simp) rfl
end Go.Pv.T
namespace Go.Pv.T
open Go Go.Pv Go.Proofs
theorem new_any (p : Option Addr) (cap : Nat) (w : World) : Calls Tryz.prog 274 #[.slice p 0 cap] w fun e w' => e = .returned (.pointer (some ⟨w.heap.size, 0, none⟩)) ∧ ∃ t, w' = w.alloc (.cells #[.int .u64 0, .int .u64 0, .int .u64 0, .int .u64 0, .int .u64 0, .int .u64 0, .int .u64 0, .int .u64 0] t) := by
  go_enter Tryz.func274, Tryz.ntmps274
  go_wp2
  refine wp_loop_rounds 1 ?_
  rw [rounds_succ]
  go_wp2
  go_ret
  exact ⟨rfl, _, rfl⟩
theorem mkLaw : MkLaw Tryz.prog 274 setZ := by
  refine ⟨⟨_, _, Tryz.func274, rfl, by kernel_rfl⟩, fun p cap w => (new_any p cap w).mono ?_⟩
  rintro e w' ⟨rfl, t, rfl⟩
  refine ⟨rfl, _, t, rfl, rfl, fun j x v hx hv => ?_⟩
  match j with
  | 0 | 1 | 2 | 3 | 4 | 5 | 6 | 7 =>
    simp [setZ] at hx hv
    subst hx hv
    exact ⟨rfl, fun I => .int _ _⟩
  | j + 8 => simp [setZ] at hv
end Go.Pv.T
namespace Go.Pv.T
open Go Go.Pv Go.Proofs Go.Shelf Go.RowKit
/-- The kit's numbers, in this program. -/
def renJ : Ren where
  f := fun x => match x with
    | 156 => 53
    | 165 => 108
    | 166 => 52
    | 169 => 26
    | 240 => 107
    | 241 => 171
    | 276 => 170
    | 277 => 229
    | n => n
  t := fun x => match x with
    | 0 => 0
    | 3 => 3
    | 4 => 4
    | 9 => 9
    | 20 => 20
    | 31 => 27
    | 37 => 71
    | 70 => 70
    | 72 => 73
    | 75 => 131
    | 76 => 132
    | 127 => 138
    | 164 => 264
    | 5 => 5
    | 80 => 81
    | n => n
  g := fun x => x
theorem laysJ : Lays.n156 Tryz.prog renJ where
  mixed := by kernel_rfl
  f156 := Tryz.func53.trans (congrArg some (by kernel_rfl))
  f165 := Tryz.func108.trans (congrArg some (by kernel_rfl))
  f166 := Tryz.func52.trans (congrArg some (by kernel_rfl))
  f169 := Tryz.func26.trans (congrArg some (by kernel_rfl))
  f240 := Tryz.func107.trans (congrArg some (by kernel_rfl))
  f241 := Tryz.func171.trans (congrArg some (by kernel_rfl))
  f276 := Tryz.func170.trans (congrArg some (by kernel_rfl))
  f277 := Tryz.func229.trans (congrArg some (by kernel_rfl))
  t0 := Tryz.underlying0
  a0 := Tryz.isAgg0
  z0 := Tryz.sizeOf0
  v0 := Tryz.zeroValue0
  t3 := Tryz.underlying3
  a3 := Tryz.isAgg3
  z3 := Tryz.sizeOf3
  v3 := Tryz.zeroValue3
  t4 := Tryz.underlying4
  a4 := Tryz.isAgg4
  z4 := Tryz.sizeOf4
  v4 := Tryz.zeroValue4
  t9 := Tryz.underlying9
  a9 := Tryz.isAgg9
  z9 := Tryz.sizeOf9
  v9 := Tryz.zeroValue9
  t20 := Tryz.underlying20
  a20 := Tryz.isAgg20
  z20 := Tryz.sizeOf20
  v20 := Tryz.zeroValue20
  t31 := Tryz.underlying27
  a31 := Tryz.isAgg27
  z31 := Tryz.sizeOf27
  v31 := Tryz.zeroValue27
  t37 := Tryz.underlying71
  a37 := Tryz.isAgg71
  z37 := Tryz.sizeOf71
  v37 := Tryz.zeroValue71
  t70 := Tryz.underlying70
  a70 := Tryz.isAgg70
  z70 := Tryz.sizeOf70
  v70 := Tryz.zeroValue70
  t72 := Tryz.underlying73
  a72 := Tryz.isAgg73
  z72 := Tryz.sizeOf73
  v72 := Tryz.zeroValue73
  t75 := Tryz.underlying131
  a75 := Tryz.isAgg131
  z75 := Tryz.sizeOf131
  v75 := Tryz.zeroValue131
  t76 := Tryz.underlying132
  a76 := Tryz.isAgg132
  z76 := Tryz.sizeOf132
  v76 := Tryz.zeroValue132
  t127 := Tryz.underlying138
  a127 := Tryz.isAgg138
  z127 := Tryz.sizeOf138
  v127 := Tryz.zeroValue138
  t164 := Tryz.underlying264
  a164 := Tryz.isAgg264
  z164 := Tryz.sizeOf264
  v164 := Tryz.zeroValue264
theorem extraJ : Builder.Extra Tryz.prog renJ where
  sizeBuilder := by kernel_rfl
  liesBuilder := by kernel_rfl
  t5 := Tryz.underlying5
  a5 := Tryz.isAgg5
  z5 := Tryz.sizeOf5
  v5 := Tryz.zeroValue5
  infoByte := by kernel_rfl
  cellsByte := by kernel_rfl
  sizeByte := by kernel_rfl
  neB5 := by decide
theorem join_lib (sep : List UInt8) : ∀ l : List (List UInt8), joinL sep l = Lib.join l sep
  | [] => rfl
  | [x] => by simp [joinL, Lib.join_one]
  | x :: y :: r => by
    rw [joinL, join_lib sep (y :: r)]
    simp [Lib.join, List.intercalate]
theorem strs_of : ∀ {cs : List V} {l : List (List UInt8)}, cs.mapM strOf? = some l → cs = l.map V.str
  | [], l, h => by simp at h; subst h; rfl
  | v :: cs, l, h => by
    simp only [List.mapM_cons] at h
    cases hv : strOf? v with
    | none => simp [hv] at h
    | some b =>
      cases hc : cs.mapM strOf? with
      | none => simp [hv, hc] at h
      | some r =>
        simp [hv, hc] at h
        subst h
        have : v = .str b := by cases v <;> simp [strOf?] at hv; rw [hv]
        rw [strs_of hc, this]
        rfl
theorem rep_str {I : IMap} {x : Value} {s : List UInt8} (h : RepP I x (.str s)) : ∃ b : ByteArray, x = .string b ∧ b.data.toList = s := by
  cases h with
  | str b => exact ⟨b, rfl, rfl⟩
/-- strings.Join's answer. -/
theorem joinLaw {E : Env} : ∀ args r, joinV args = some r → FnOk Tryz.prog 53 ∧ PureOk Tryz.prog E 53 args r := by
  intro args r h
  refine ⟨⟨Tryz.f53, _, Tryz.func53, rfl, by kernel_rfl⟩, fun w I xs himm _ hsz hrep => ?_⟩
  unfold joinV at h
  split at h
  case h_2 => cases h
  rename_i t nl n cs sep
  simp only [Option.ite_none_right_eq_some] at h
  obtain ⟨⟨hn, hmx⟩, h⟩ := h
  obtain ⟨l, hl, h⟩ := bind_some h
  simp only [Option.ite_none_right_eq_some, Option.some.injEq] at h
  obtain ⟨hlen, rfl⟩ := h
  have hcs := strs_of hl
  have hsz2 : xs.size = 2 := hsz
  have h0 := hrep 0 _ _ (Array.getElem?_eq_getElem (by omega)) rfl
  obtain ⟨bsep, e1, hsep⟩ := rep_str (hrep 1 _ _ (Array.getElem?_eq_getElem (by omega)) rfl)
  have hxs : xs = #[xs[0], .string bsep] := by
    apply Array.ext
    · simpa using hsz2
    · intro j hj1 hj2
      match j with
      | 0 => rfl
      | 1 => exact e1
      | j + 2 => exact absurd hj1 (by omega)
  have fin : ∀ (w' : World) (bs : List UInt8), Below w.heap.size w w' → bs = joinL sep l →
      ∃ x τ I', Ending.returned (Value.string ⟨bs.toArray⟩) = .returned x ∧ w.grownBy w' none ∧ (∀ b o x, I b o = some x → I' b o = some x) ∧ ImmOk I' w' ∧ (∀ b o, b < w.heap.size → I' b o = I b o) ∧ RRep τ I' x (.str (joinL sep l)) ∧ TokNew w.heap.size τ I' w' (.str (joinL sep l)) := by
    intro w' bs hb hbs
    refine ⟨_, fun _ => none, I, rfl, ⟨hb.os, hb.tape, hb.output, hb.size, fun k hk _ => hb.block k hk⟩, fun _ _ _ h => h, fun b o x hx => ?_, fun _ _ _ => rfl, ?_, fun i hi => by simp [toksRes, V.toks, V.tok] at hi⟩
    · have := himm b o x hx
      rw [World.cell?_of_block (w := w) (w' := w') (a := ⟨b, o, none⟩) (hb.block b (World.block_lt_of_cell? _ _ this))]
      exact this
    · rw [← hbs]
      exact RepP.str ⟨bs.toArray⟩
  have hj : ∀ ys : List ByteArray, ys.map (·.data.toList) = l → (Lib.join (ys.map (·.data.toList)) bsep.data.toList) = joinL sep l := fun ys h => by rw [h, hsep, join_lib]
  rw [hxs]
  generalize xs[0] = x0 at h0
  cases h0 with
  | slnil =>
    have : l = [] := by cases l with
      | nil => rfl
      | cons _ _ => simp at hcs
    subst this
    exact (Any.strings_Join_none laysJ extraJ none 0 bsep w).mono fun e w' ⟨he, hw⟩ => by rw [he, hw]; exact fin w [] (Below.refl _ _) rfl
  | sl a n cap cs xs hs hc hm hi hlf hr =>
    have hys : ∀ j (hj : j < l.length), ∃ b : ByteArray, xs j = .string b ∧ b.data.toList = l[j] := fun j hj => rep_str (hr j _ (by rw [hcs]; simp [hj]))
    have hch : ∃ ys : List ByteArray, ys.map (·.data.toList) = l ∧ ∀ j y, ys[j]? = some y → xs j = .string y := by
      refine ⟨l.map fun s => ⟨s.toArray⟩, by rw [List.map_map]; exact (List.map_congr_left (fun _ _ => rfl)).trans (List.map_id l), fun j y hy => ?_⟩
      simp only [List.getElem?_map, Option.map_eq_some_iff] at hy
      obtain ⟨s, hs, rfl⟩ := hy
      obtain ⟨hj, rfl⟩ := List.getElem?_eq_some_iff.1 hs
      obtain ⟨b, hb1, hb2⟩ := hys j hj
      rw [hb1]
      congr 1
      apply ByteArray.ext
      apply Array.ext'
      simpa using hb2
    obtain ⟨ys, hy1, hy2⟩ := hch
    have hyl : ys.length = n := by rw [← hn, hcs, ← hy1]; simp
    have hcell : ∀ (j : Nat) x, ys[j]? = some x → w.cell? ⟨a.block, a.off + j, none⟩ = some (.string x) := fun j x hx => by
      have hjl : j < cs.length := by have := (List.getElem?_eq_some_iff.1 hx).1; omega
      rw [← hy2 j x hx]
      exact himm _ _ _ (hi j hjl)
    have hjj := hj ys hy1
    cases hnn : n with
    | zero =>
      have hl0 : l = [] := by cases l with
        | nil => rfl
        | cons _ _ => rw [hcs] at hn; simp at hn; omega
      subst hl0
      exact (Any.strings_Join_none laysJ extraJ (some a) cap bsep w).mono fun e w' ⟨he, hw⟩ => by rw [he, hw]; exact fin w [] (Below.refl _ _) rfl
    | succ m =>
      have hne : cs ≠ [] := fun e => by rw [e] at hn; simp at hn; omega
      have hsp := hs hne
      obtain ⟨bk, off, sp⟩ := a
      simp only at hsp hcell
      subst hsp
      have hbk : bk < w.heap.size := World.block_lt_of_cell? _ _ (hcell 0 _ (List.getElem?_eq_getElem (by omega)))
      have := Any.strings_Join laysJ extraJ bk off cap ys bsep w hcell hbk (by omega) (by omega) (by rw [hjj]; exact hlen)
      rw [hyl, hnn] at this
      refine this.mono fun e w' ⟨he, hw⟩ => ?_
      rw [he, hjj]
      exact fin w' _ hw rfl
end Go.Pv.T
