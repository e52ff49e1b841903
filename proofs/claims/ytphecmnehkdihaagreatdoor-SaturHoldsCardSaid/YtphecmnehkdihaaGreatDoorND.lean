/- The compiled functions, part 2. -/
import Derived.Test.YtphecmnehkdihaaGreatDoorNC
import Derived.Laws.BitsLemmas
import Derived.Lib.ValidLaws
import Derived.Laws.Bits64
import Derived.Sort.AssemblyPlain
set_option maxRecDepth 100000
set_option maxHeartbeats 8000000
namespace Go.Pv.T
open Go Go.Pv Go.Proofs
noncomputable section
def S124:AF:=⟨sr [qq 4 (.mov aF)] (sr [qv 5 0,qv 6 1,qq 7 (.call 128 [Z5,Z6]),qn 8 .eql 7 0,qv 9 8,zT 10 (.mov Z0) 9,zT 11 (.mov Z1) 9,zT 12 (.bin .quo Z11 (nn 64)) 9,zT 13 (.nilCheck Z10) 9,zT 14 (fA 0 Z13) 9,zT 15 (.idxArr 8 1 Z14 Z12) 9,zT 16 (.load none Z15) 9,zT 17 (.mov Z1) 9,zT 18 (.bin .rem Z17 (nn 64)) 9,zT 19 (.bin .shr Z16 Z18) 9,zT 20 (.bin .and Z19 (.c (.int .u64 1))) 9,zT 21 (.bin .eql Z20 (.c (.int .u64 1))) 9,qq 22 (.pick Z9 Z21 aF),qv 4 22] .ret),[.t 4]⟩
def S127:AF:=cf true true Tryz.f127
def S128:AF:=⟨sr [qm 4 0] (sq (.block 0 (sr [qv 6 0,qq 7 (.eq false .ptr Z6 (.c .nilptr)),qv 5 7] (.cond Z5 (sr [qm 4 4] .ret) (sr [qv 9 1,qq 10 (.call 189 [Z9]),qq 11 (.un .not Z10),qv 8 11] (.cond Z8 (sr [qm 4 2] .ret) .skip))))) (sr [qm 4 0] .ret)),[.t 4]⟩
def S130:AF:=⟨sr [qq 2 (.mov (.c (.sl none true 0 [])))] (sq (sr [qv 6 0,qq 7 (.eq false .ptr Z6 (.c .nilptr))] (.cond Z7 (sr [qq 2 (.mov (.c (.sl none true 0 [])))] .ret) .skip)) (sr [qq 3 (.mov (.c (.sl none true 0 [])))] (sq (sr [qv 8 0,qq 9 (.nilCheck Z8),qf 10 0 9,qs 11 8 10,qm 12 0] (.block 0 (.loop (sr [qn 13 .lss 12 8] (sq (.cond Z13 .skip (.exit 0)) (sq (.block 1 (sr [qv 14 12,qq 15 (.idxVal none 8 1 Z11 Z12),qv 4 14,qv 5 15] (.block 2 (.loop (sq (sr [qv 16 5,qq 17 (.bin .neq Z16 (.c (.int .u64 0)))] (.cond Z17 .skip (.exit 2))) (sq (.block 3 (rg [qv 22 3,qv 23 4,qn 24 .mul 23 64,qv 25 5,qq 26 (.call 190 [Z25]),qb 27 .add 24 26,qq 28 (.buildSl true 1 [(.int .i64 0)] [(0,1,Z27)] 1),qq 29 (.append true 1 8 Z22 Z28),qv 3 29])) (rg [qv 18 5,qv 19 5,qq 20 (.bin .sub Z19 (.c (.int .u64 1))),qb 21 .and 18 20,qv 5 21]))))))) (rg [qn 30 .add 12 1,qv 12 30]))))))) (sr [qv 31 3,qv 2 31] .ret)))),[.t 2]⟩
def S137:AF:=⟨.draw [qv 6 0,qv 7 0,qq 8 (.nilCheck Z7),qf 9 5 8,ql 10 9,qv 11 0,qv 12 1,qq 13 (.call 192 [Z11,Z12]),qv 14 0,qv 15 2,qq 16 (.call 192 [Z14,Z15]),qq 17 (.build [(.int .i64 0),(.int .i64 0)] [(0,1,Z13),(1,1,Z16)]),qq 18 (.buildSl true 2 [(.int .i64 0),(.int .i64 0)] [(0,2,Z17)] 1),qq 19 (.append true 2 16 Z10 Z18),qq 20 (.nilCheck Z6),qf 21 5 20,qu (.store 1 Z21 Z19)] [(4,12)],[]⟩
def S138:AF:=⟨sr [qq 1 (.box 1 Z0),qq 2 (.mov (.c .nilfn))] (sr [qq 3 (.alloc [(.sl none true 0 [])])] (sq (sr [ql 6 1,qq 7 (.nilCheck Z6),qf 8 5 7,ql 9 8,qq 10 (lS Z9),qm 11 0] (.block 0 (.loop (sr [qb 12 .lss 11 10] (sq (.cond Z12 .skip (.exit 0)) (sq (.block 1 (sr [qx 13 2 9 11,qs 14 2 13,qq 5 (.alloc [(.int .i64 0),(.int .i64 0)]),qu (.store 2 Z5 Z14)] (sq (.draw [qf 15 0 5,ql 16 15,ql 17 1,qq 18 (.nilCheck Z17),qf 19 0 18,qf 20 2 19,ql 21 20,qq 22 (lS Z21),qb 23 .lss 16 22] []) (.cond Z23 (rg [ql 24 3,qf 25 1 5,ql 26 25,qf 27 0 5,ql 28 27,qq 29 (.build [(.int .i64 0),(.int .i64 0)] [(0,1,Z26),(1,1,Z28)]),qq 30 (.buildSl true 2 [(.int .i64 0),(.int .i64 0)] [(0,2,Z29)] 1),qq 31 (.append true 2 16 Z24 Z30),qu (.store 1 Z3 Z31)]) .skip)))) (rg [qn 32 .add 11 1,qv 11 32]))))))) (sr [qq 33 (.mkFn (.func 193) [] [.t 1,.t 3]),qv 2 33] .ret))),[.t 2]⟩
def S139:AF:=⟨sr [qq 4 (.mov (.c (.sl none true 0 [])))] (sq (.seq (.draw [ql 5 1,ql 6 2,qq 7 (.nilCheck Z6),qf 8 4 7,ql 9 8,qv 10 0,qx 11 2 9 10,qf 12 0 11,ql 13 12] []) (rg [qq 14 (.callV Z5 [.t 13]),qv 4 14])) .ret),[.t 4]⟩
def S140:AF:=⟨sr [qq 3 (.mov (.c (.sl none true 0 [])))] (sr [qq 4 (.mov (.c (.sl none true 0 [])))] (sq (sr [ql 7 1,qq 8 (.nilCheck Z7),qf 9 4 8,ql 10 9,qq 11 (lS Z10),qm 12 0] (.block 0 (.loop (sr [qb 13 .lss 12 11] (sq (.cond Z13 .skip (.exit 0)) (sq (.block 1 (sr [qv 14 12,qx 15 2 10 12,qs 16 2 15,qq 6 (.alloc [(.int .i64 0),(.int .i64 0)]),qv 5 14,qu (.store 2 Z6 Z16)] (sq (.draw [qf 17 0 6,ql 18 17,ql 19 1,qq 20 (.nilCheck Z19),qf 21 4 20,ql 22 21,qv 23 0,qx 24 2 22 23,qf 25 0 24,ql 26 25,qb 27 .eql 18 26,qv 28 27,zT 29 (fA 1 Z6) 28,zT 30 (.load none Z29) 28,zT 31 (.load none Z1) 28,zT 32 (.nilCheck Z31) 28,zT 33 (fA 4 Z32) 28,zT 34 (.load none Z33) 28,zT 35 (.mov Z0) 28,zT 36 (.idxSl 2 Z34 Z35) 28,zT 37 (fA 1 Z36) 28,zT 38 (.load none Z37) 28,zT 39 (.bin .lss Z30 Z38) 28,qq 40 (.pick Z28 Z39 aF),qv 41 40,zT 42 (.load none Z1) 41,zT 43 (.nilCheck Z42) 41,zT 44 (fA 3 Z43) 41,zT 45 (.load none Z44) 41,zT 46 (.mov Z5) 41,zT 47 (.idxSl 1 Z45 Z46) 41,zT 48 (.load none Z47) 41,zT 49 (.bin .geq Z48 (nn 0)) 41,qq 50 (.pick Z41 Z49 aF)] []) (.cond Z50 (rg [qv 51 4,ql 52 1,qq 53 (.nilCheck Z52),qf 54 3 53,ql 55 54,qv 56 5,qx 57 1 55 56,ql 58 57,qq 59 (.buildSl true 1 [(.int .i64 0)] [(0,1,Z58)] 1),qq 60 (.append true 1 8 Z51 Z59),qv 4 60]) .skip)))) (rg [qn 61 .add 12 1,qv 12 61]))))))) (sr [qv 62 4,qv 3 62] .ret))),[.t 3]⟩
def S144:AF:=⟨sr [qq 4 (.mov (.c .nilptr)),qm 5 0] (sr [qv 13 0,qq 14 (.call 204 [Z13]),qv 12 14,qe 15 12 0,qe 16 12 1,qv 6 15,qv 7 16] (sq (sr [qv 17 7,qn 18 .neq 17 0] (.cond Z18 (sr [qv 19 7,qq 4 (.mov (.c .nilptr)),qv 5 19] .ret) .skip)) (sq (sr [qv 20 1,qq 21 (lS Z20),qm 22 0] (.block 0 (.loop (sr [qb 23 .lss 22 21] (sq (.cond Z23 .skip (.exit 0)) (sq (.block 1 (sr [qx 24 2 20 22,qs 25 2 24,qq 9 (.alloc [(.int .i64 0),(.int .i64 0)]),qu (.store 2 Z9 Z25)] (sr [qv 27 6,qf 28 0 9,ql 29 28,qf 30 1 9,ql 31 30,qq 32 (.call 205 [Z27,Z29,Z31]),qv 26 32,qe 33 26 0,qe 34 26 1,qv 10 33,qv 11 34] (sr [qv 35 11,qn 36 .neq 35 0] (.cond Z36 (sr [qv 37 11,qq 4 (.mov (.c .nilptr)),qv 5 37] .ret) .skip))))) (rg [qn 38 .add 22 1,qv 22 38]))))))) (sr [qv 39 6,qv 40 7,qv 4 39,qv 5 40] .ret)))),[.t 4,.t 5]⟩
def S145:AF:=cf true true Tryz.f145
def S146:AF:=⟨sr [qq 4 (.mov (.c (.sl none true 0 [])))] (sq (sr [qv 5 0,qv 6 1,qq 7 (.call 206 [Z5,Z6]),qq 8 (.un .not Z7)] (.cond Z8 (sr [qq 4 (.mov (.c (.sl none true 0 [])))] .ret) .skip)) (sr [qv 9 0,qq 10 (.nilCheck Z9),qf 11 0 10,ql 12 11,qv 13 1,qx 14 1 12 13,ql 15 14,qq 16 (.call 130 [Z15]),qv 4 16] .ret)),[.t 4]⟩
def S147:AF:=cf true true Tryz.f147
def S148:AF:=cf true true Tryz.f148
def S149:AF:=cf true true Tryz.f149
def S153:AF:=⟨sr [qq 4 (.mov aF)] (sr [qv 5 0,qv 6 1,qq 7 (.call 213 [Z5,Z6]),qn 8 .geq 7 0,qv 4 8] .ret),[.t 4]⟩
def S154:AF:=⟨sr [qq 2 (.box 3 Z0),qq 3 (.mov aF)] (sr [qs 4 3 1,qs 5 3 2,qq 6 (.call 155 [Z4,Z5]),qq 7 (.un .not Z6),qv 3 7] .ret),[.t 3]⟩
def S156:AF:=⟨sr [qq 1 (.box 3 Z0),qq 2 (.mov (.c .nilfn))] (sr [qq 3 (.mkFn (.func 215) [] [.t 1]),qv 2 3] .ret),[.t 2]⟩
def S168:AF:=cf true true Tryz.f168
def S169:AF:=cf true true Tryz.f169
def S171:AF:=cf true true Tryz.f171
def S189:AF:=cf true true Tryz.f189
def S192:AF:=⟨sr [qm 4 0] (sq (sr [qv 5 1,qn 6 .lss 5 0] (.cond Z6 (sr [qv 7 0,qq 8 (.nilCheck Z7),qf 9 0 8,qf 10 2 9,ql 11 10,qq 12 (lS Z11),qv 4 12] .ret) .skip)) (sr [qv 13 1,qv 4 13] .ret)),[.t 4]⟩
def S193:AF:=⟨sr [qq 4 (.mov (.c (.sl none true 0 [])))] (sq (.seq (.draw [ql 8 1,qq 9 (.nilCheck Z8),qf 10 0 9,qf 11 2 10,ql 12 11,qq 13 (lS Z12),qv 14 0,ql 15 2] []) (sr [qq 16 (.call 194 [Z13,Z14,Z15])] (.draw [qu (.mov (.c (.tup []))),qu (.mov (.c (.tup []))),qu (.mov (.c (.tup []))),qu (.mov (.c (.tup []))),qu (.mov (.c (.tup []))),qu (.mov (.c (.tup []))),qu (.mov (.c (.tup []))),qu (.mov (.c (.tup []))),qu (.mov (.c (.tup []))),qv 7 16,qe 17 7 0,qe 18 7 1,qv 5 17,qv 6 18] []))) (sr [qv 19 5,qv 4 19] .ret)),[.t 4]⟩
def S194:AF:=⟨sr [qq 6 (.mov (.c (.sl none true 0 []))),qm 7 0] (sr [qv 11 0,qv 12 2,qq 13 (.call 144 [Z11,Z12]),qv 10 13,qe 14 10 0,qe 15 10 1,qv 8 14,qv 9 15] (sq (sr [qv 16 9,qn 17 .neq 16 0] (.cond Z17 (sr [qv 18 9,qq 6 (.mov (.c (.sl none true 0 []))),qv 7 18] .ret) .skip)) (sq (sr [qv 19 1,qn 20 .lss 19 0,qv 21 20,zF 22 (.mov Z1) 21,zF 23 (.mov Z0) 21,zF 24 (.bin .geq Z22 Z23) 21,qq 25 (.pick Z21 aT Z24)] (.cond Z25 (sr [qq 6 (.mov (.c (.sl none true 0 []))),qm 7 2] .ret) .skip)) (sr [qv 26 8,qq 27 (.call 244 [Z26]),qv 28 1,qx 29 1 27 28,ql 30 29,qq 31 (.call 130 [Z30]),qv 32 9,qv 6 31,qv 7 32] .ret)))),[.t 6,.t 7]⟩
def S204:AF:=⟨sr [qq 2 (.mov (.c .nilptr)),qm 3 0] (sq (sr [qv 5 0,qn 6 .lss 5 0,qv 7 6,zF 8 (.mov Z0) 7,zF 9 (.bin .gtr Z8 (nn 500)) 7,qq 10 (.pick Z7 aT Z9)] (.cond Z10 (sr [qq 2 (.mov (.c .nilptr)),qm 3 2] .ret) .skip)) (sr [qq 11 (.build [(.sl none true 0 []),(.sl none true 0 []),(.sl none true 0 []),(.bool false)] [(3,1,aT)]),qq 12 (.box 4 Z11),qv 4 12] (sq (sr [qv 13 0,qm 14 0] (.block 0 (.loop (sr [qb 15 .lss 14 13] (sq (.cond Z15 .skip (.exit 0)) (sq (.block 1 (.draw [qv 16 4,qv 17 4,qv 18 4,qq 19 (.nilCheck Z18),qf 20 0 19,ql 21 20,qq 22 (.call 78 [(.c (.sl none true 0 []))]),qq 23 (.buildSl true 1 [.nilptr] [(0,1,Z22)] 1),qq 24 (.append true 1 8 Z21 Z23),qv 25 4,qq 26 (.nilCheck Z25),qf 27 1 26,ql 28 27,qq 29 (.call 78 [(.c (.sl none true 0 []))]),qq 30 (.buildSl true 1 [.nilptr] [(0,1,Z29)] 1),qq 31 (.append true 1 8 Z28 Z30),qq 32 (.nilCheck Z16),qf 33 0 32,qu (.store 1 Z33 Z24),qq 34 (.nilCheck Z17),qf 35 1 34,qu (.store 1 Z35 Z31)] [(5,7),(7,12),(8,12),(12,14)])) (rg [qn 36 .add 14 1,qv 14 36]))))))) (sr [qv 37 4,qv 2 37,qm 3 0] .ret)))),[.t 2,.t 3]⟩
def S205:AF:=⟨sr [qq 6 (.mov aF),qm 7 0] (sq (.block 0 (sr [qv 9 0,qq 10 (.call 248 [Z9]),qq 11 (.un .not Z10),qv 8 11] (.cond Z8 (sr [qq 6 (.mov aF),qm 7 4] .ret) (sr [qv 13 0,qv 14 1,qq 15 (.call 206 [Z13,Z14]),qq 16 (.un .not Z15),qv 17 16,zF 18 (.mov Z0) 17,zF 19 (.mov Z2) 17,zF 20 (.call 206 [Z18,Z19]) 17,zF 21 (.un .not Z20) 17,qq 22 (.pick Z17 aT Z21),qv 12 22] (.cond Z12 (sr [qq 6 (.mov aF),qm 7 2] .ret) (sr [qv 24 0,qv 25 1,qv 26 2,qq 27 (.call 249 [Z24,Z25,Z26]),qv 23 27] (.cond Z23 (sr [qq 6 (.mov aF),qm 7 0] .ret) .skip))))))) (sr [qv 28 0,qq 29 (.nilCheck Z28),qf 30 0 29,ql 31 30,qv 32 1,qx 33 1 31 32,ql 34 33,qv 35 2,qq 36 (.call 81 [Z34,Z35])] (sr [qv 37 0,qq 38 (.nilCheck Z37),qf 39 1 38,ql 40 39,qv 41 2,qx 42 1 40 41,ql 43 42,qv 44 1,qq 45 (.call 81 [Z43,Z44])] (sr [qv 46 0,qv 47 0,qq 48 (.nilCheck Z47),qf 49 2 48,ql 50 49,qv 51 1,qv 52 2,qq 53 (.build [(.int .i64 0),(.int .i64 0)] [(0,1,Z51),(1,1,Z52)]),qq 54 (.buildSl true 2 [(.int .i64 0),(.int .i64 0)] [(0,2,Z53)] 1),qq 55 (.append true 2 16 Z50 Z54),qq 56 (.nilCheck Z46),qf 57 2 56,qu (.store 1 Z57 Z55)] (sr [qq 6 (.mov aT),qm 7 0] .ret))))),[.t 6,.t 7]⟩
def S206:AF:=⟨sr [qq 4 (.mov aF)] (sr [qv 5 0,qq 6 (.call 248 [Z5]),qv 7 6,zT 8 (.mov Z1) 7,zT 9 (.bin .geq Z8 (nn 0)) 7,qq 10 (.pick Z7 Z9 aF),qv 11 10,zT 12 (.mov Z1) 11,zT 13 (.mov Z0) 11,zT 14 (.nilCheck Z13) 11,zT 15 (fA 0 Z14) 11,zT 16 (.load none Z15) 11,zT 17 (lS Z16) 11,zT 18 (.bin .lss Z12 Z17) 11,qq 19 (.pick Z11 Z18 aF),qv 4 19] .ret),[.t 4]⟩
def S207:AF:=cf true true Tryz.f207
def S208:AF:=⟨sr [qm 2 0] (sq (sr [qv 3 0,qq 4 (.call 248 [Z3]),qq 5 (.un .not Z4)] (.cond Z5 (sr [qm 2 0] .ret) .skip)) (sr [qv 6 0,qq 7 (.nilCheck Z6),qf 8 0 7,ql 9 8,qq 10 (lS Z9),qv 2 10] .ret)),[.t 2]⟩
def S209:AF:=cf true true Tryz.f209
def S210:AF:=cf true true Tryz.f210
def S213:AF:=⟨sr [qm 4 0] (sq (sr [qv 6 0,qq 7 (lS Z6),qm 8 0] (.block 0 (.loop (sr [qb 9 .lss 8 7] (sq (.cond Z9 .skip (.exit 0)) (sq (.block 1 (sr [qv 10 8,qv 5 10] (sr [qv 11 1,qv 12 0,qv 13 5,qx 14 3 12 13,qs 15 3 14,qq 16 (.callV Z11 [.t 15])] (.cond Z16 (sr [qv 17 5,qv 4 17] .ret) .skip)))) (rg [qn 18 .add 8 1,qv 8 18]))))))) (sr [qq 4 (.mov (nn (-1)))] .ret)),[.t 4]⟩
def S215:AF:=⟨sr [qf 7 2 1,ql 8 7,qq 9 (lS Z8),qm 10 0] (.block 0 (.loop (sr [qb 11 .lss 10 9] (sq (.cond Z11 .skip (.exit 0)) (sq (.block 1 (sr [qv 12 10,qx 13 3 8 10,qs 14 3 13,qq 4 (.alloc [(.int .i64 0),(.int .i64 0),(.sl none true 0 [])]),qv 3 12,qu (.store 3 Z4 Z14)] (sr [qf 15 2 4,ql 16 15,qq 17 (lS Z16),qm 18 0] (.block 2 (.loop (sr [qb 19 .lss 18 17] (sq (.cond Z19 .skip (.exit 2)) (sq (.block 3 (sr [qv 20 18,qx 21 4 16 18,qs 22 4 21,qq 6 (.alloc [(.bool false),(.int .i64 0),(.int .i64 0),(.int .i64 0)]),qv 5 20,qu (.store 4 Z6 Z22)] (sr [qv 23 0,qv 24 3,qv 25 5,qq 26 (.build [(.int .i64 0),(.int .i64 0)] [(0,1,Z24),(1,1,Z25)]),qs 27 4 6,qq 28 (.callV Z23 [.t 26,.t 27]),qq 29 (.un .not Z28)] (.cond Z29 .ret .skip)))) (rg [qn 30 .add 18 1,qv 18 30]))))))))) (rg [qn 31 .add 10 1,qv 10 31])))))),[]⟩
def S231:AF:=cf true true Tryz.f231
def S232:AF:=cf true true Tryz.f232
def S237:AF:=⟨sr [qq 1 (.box 1 Z0),qq 2 (.mov (.c .nilfn))] (sr [qq 3 (.mkFn (.func 274) [] [.t 1]),qv 2 3] .ret),[.t 2]⟩
def S244:AF:=⟨sr [qq 2 (.mov (.c (.sl none true 0 [])))] (sr [qv 7 0,qq 8 (.call 208 [Z7]),qq 9 (.mkSl true 1 8 [.nilptr] Z8 Z8),qv 3 9] (sq (sr [qv 10 3,qq 11 (lS Z10),qm 12 0] (.block 0 (.loop (sr [qb 13 .lss 12 11] (sq (.cond Z13 .skip (.exit 0)) (sq (.block 1 (sr [qv 14 12,qv 4 14] (rg [qv 15 3,qv 16 4,qv 17 0,qv 18 4,qq 19 (.call 146 [Z17,Z18]),qq 20 (.call 78 [Z19]),qx 21 1 15 16,qu (.store 1 Z21 Z20)]))) (rg [qn 22 .add 12 1,qv 12 22]))))))) (sq (sr [qv 23 3,qq 24 (lS Z23),qm 25 0] (.block 2 (.loop (sr [qb 26 .lss 25 24] (sq (.cond Z26 .skip (.exit 2)) (sq (.block 3 (sr [qv 27 25,qv 5 27] (sr [qv 28 3,qq 29 (lS Z28),qm 30 0] (.block 4 (.loop (sr [qb 31 .lss 30 29] (sq (.cond Z31 .skip (.exit 4)) (sq (.block 5 (sr [qv 32 30,qv 6 32] (sr [qv 33 3,qv 34 6,qx 35 1 33 34,ql 36 35,qv 37 5,qq 38 (.call 124 [Z36,Z37])] (.cond Z38 (sq (.draw [qv 39 3,qv 40 6,qx 41 1 39 40,ql 42 41,qv 43 3,qv 44 5,qx 45 1 43 44,ql 46 45] []) (rg [qq 47 (.call 276 [Z42,Z46])])) .skip)))) (rg [qn 48 .add 30 1,qv 30 48]))))))))) (rg [qn 49 .add 25 1,qv 25 49]))))))) (sr [qv 50 3,qv 2 50] .ret)))),[.t 2]⟩
def S248:AF:=⟨sr [qq 2 (.mov aF)] (sr [qv 3 0,qq 4 (.eq true .ptr Z3 (.c .nilptr)),qv 5 4,zT 6 (.mov Z0) 5,zT 7 (.nilCheck Z6) 5,zT 8 (fA 3 Z7) 5,zT 9 (.load none Z8) 5,qq 10 (.pick Z5 Z9 aF),qv 2 10] .ret),[.t 2]⟩
def S249:AF:=⟨sr [qq 6 (.mov aF)] (sr [qv 7 0,qv 8 1,qq 9 (.call 206 [Z7,Z8]),qv 10 9,zT 11 (.mov Z0) 10,zT 12 (.nilCheck Z11) 10,zT 13 (fA 0 Z12) 10,zT 14 (.load none Z13) 10,zT 15 (.mov Z1) 10,zT 16 (.idxSl 1 Z14 Z15) 10,zT 17 (.load none Z16) 10,zT 18 (.mov Z2) 10,zT 19 (.call 124 [Z17,Z18]) 10,qq 20 (.pick Z10 Z19 aF),qv 6 20] .ret),[.t 6]⟩
def S255:AF:=⟨sr [qq 3 (.box 3 Z0),qq 6 (.mov (.c .nilmap))] (sr [qq 10 (.mkMap),qv 7 10] (sq (sr [qs 11 3 3,qv 12 2,qq 13 (.call 281 [Z11,Z12]),qq 14 (lS Z13),qm 15 0] (.block 0 (.loop (sr [qb 16 .lss 15 14] (sq (.cond Z16 .skip (.exit 0)) (sq (.block 1 (sr [qx 17 1 13 15,ql 18 17,qv 9 18] (sr [qv 19 9,qv 20 1,qb 21 .neq 19 20] (.cond Z21 (rg [qv 23 7,qv 24 9,qs 25 3 3,qv 26 9,qv 27 2,qq 28 (.call 116 [Z25,Z26,Z27]),qv 22 28,qe 29 22 0,qe 30 22 1,qu (.mapSet .int Z23 Z24 Z29)]) .skip)))) (rg [qn 31 .add 15 1,qv 15 31]))))))) (sr [qv 32 7,qv 6 32] .ret))),[.t 6]⟩
def S270:AF:=cf true true Tryz.f270
def S271:AF:=cf true true Tryz.f271
def S272:AF:=cf true true Tryz.f272
def S274:AF:=⟨sr [ql 4 1,qq 5 (lS Z4),qn 6 .sub 5 1,qv 3 6] (.block 0 (.loop (sq (sr [qv 7 3,qn 8 .geq 7 0] (.cond Z8 .skip (.exit 0))) (sq (.block 1 (sr [qv 11 0,qv 12 3,ql 13 1,qv 14 3,qx 15 4 13 14,qs 16 4 15,qq 17 (.callV Z11 [.t 12,.t 16]),qq 18 (.un .not Z17)] (.cond Z18 .ret .skip))) (rg [qv 9 3,qn 10 .sub 9 1,qv 3 10]))))),[]⟩
def S276:AF:=⟨sr [qq 4 (.mov aF)] (sq (sr [qv 8 0,qq 9 (.eq false .ptr Z8 (.c .nilptr)),qv 10 9,zF 11 (.mov Z1) 10,zF 12 (.eq false .ptr Z11 (.c .nilptr)) 10,qq 13 (.pick Z10 aT Z12)] (.cond Z13 (sr [qq 4 (.mov aF)] .ret) .skip)) (sr [qv 14 0,qq 15 (.nilCheck Z14),qf 16 0 15,qs 17 8 16,qq 5 (.alloc [(.int .u64 0),(.int .u64 0),(.int .u64 0),(.int .u64 0),(.int .u64 0),(.int .u64 0),(.int .u64 0),(.int .u64 0)]),qu (.store 8 Z5 Z17)] (sq (sr [qv 18 1,qq 19 (.nilCheck Z18),qf 20 0 19,qs 21 8 20,qm 22 0] (.block 0 (.loop (sr [qn 23 .lss 22 8] (sq (.cond Z23 .skip (.exit 0)) (sq (.block 1 (sr [qv 24 22,qq 25 (.idxVal none 8 1 Z21 Z22),qv 6 24,qv 7 25] (.draw [qv 26 0,qv 27 6,qq 28 (.nilCheck Z26),qf 29 0 28,qq 30 (.idxArr 8 1 Z29 Z27),ql 31 30,qv 32 7,qb 33 .or 31 32,qq 34 (.nilCheck Z26),qf 35 0 34,qq 36 (.idxArr 8 1 Z35 Z27),qu (.store 1 Z36 Z33)] []))) (rg [qn 37 .add 22 1,qv 22 37]))))))) (sq (.draw [qv 38 0,qq 39 (.nilCheck Z38),qf 40 0 39,qs 41 8 40,qs 42 8 5,qq 43 (.eq true (.struct [.int,.int,.int,.int,.int,.int,.int,.int]) Z41 Z42),qv 4 43] []) .ret)))),[.t 4]⟩
def S291:AF:=cf true true Tryz.f291
def S292:AF:=cf true true Tryz.f292
def S294:AF:=⟨sr [qq 2 (.box 3 Z0),qq 3 (.mov aF)] (sr [qf 4 1 2,ql 5 4,qn 6 .neq 5 2,qv 7 6,zT 8 (fA 2 Z2) 7,zT 9 (.load none Z8) 7,zT 10 (.mkFn (.func 296) [] [.t 1]) 7,zT 11 (.call 295 [Z9,Z10]) 7,qq 12 (.pick Z7 Z11 aF),qv 3 12] .ret),[.t 3]⟩
def S295:AF:=⟨sr [qq 4 (.mov aF)] (sr [qv 5 0,qv 6 1,qq 7 (.call 305 [Z5,Z6]),qn 8 .geq 7 0,qv 4 8] .ret),[.t 4]⟩
def S296:AF:=⟨sr [qq 2 (.box 4 Z0),qq 3 (.mov aF)] (sr [qf 4 0 2,ql 5 4,qv 6 5,zT 7 (fA 1 Z2) 6,zT 8 (.load none Z7) 6,zT 9 (.load none Z1) 6,zT 10 (.bin .eql Z8 Z9) 6,qq 11 (.pick Z6 Z10 aF),qv 3 11] .ret),[.t 3]⟩
def S303:AF:=cf true true Tryz.f303
def S305:AF:=⟨sr [qm 4 0] (sq (sr [qv 6 0,qq 7 (lS Z6),qm 8 0] (.block 0 (.loop (sr [qb 9 .lss 8 7] (sq (.cond Z9 .skip (.exit 0)) (sq (.block 1 (sr [qv 10 8,qv 5 10] (sr [qv 11 1,qv 12 0,qv 13 5,qx 14 4 12 13,qs 15 4 14,qq 16 (.callV Z11 [.t 15])] (.cond Z16 (sr [qv 17 5,qv 4 17] .ret) .skip)))) (rg [qn 18 .add 8 1,qv 8 18]))))))) (sr [qq 4 (.mov (nn (-1)))] .ret)),[.t 4]⟩
def S312:AF:=cf true true Tryz.f312
end
end Go.Pv.T
namespace Go.Pv.T
open Go Go.Pv
noncomputable section
def utf8first:List V:=(List.range 256).map fun i=>V.int .u8 (if i<128 then 240 else if i<194 then 241 else if i<224 then 2 else if i=224 then 19 else if i<237 then 3 else if i=237 then 35 else if i<240 then 3 else if i=240 then 52 else if i<244 then 4 else if i=244 then 68 else 241:Nat)
def words:List V:=[.str [],.str [98,101,103,105,110],.str [114,101,97,100],.str [119,114,105,116,101],.str [111,107],.str [102,97,105,108],.str [105,110,102,111]]
def accR:List V:=[.int .u8 128,.int .u8 191,.int .u8 160,.int .u8 191,.int .u8 128,.int .u8 159,.int .u8 144,.int .u8 191,.int .u8 128,.int .u8 143,.int .u8 0,.int .u8 0,.int .u8 0,.int .u8 0,.int .u8 0,.int .u8 0,.int .u8 0,.int .u8 0,.int .u8 0,.int .u8 0,.int .u8 0,.int .u8 0,.int .u8 0,.int .u8 0,.int .u8 0,.int .u8 0,.int .u8 0,.int .u8 0,.int .u8 0,.int .u8 0,.int .u8 0,.int .u8 0]
def j5o:List V:=[.int .u64 0,.int .u64 0,.int .u64 0,.int .u64 0,.int .u64 0,.int .u64 0,.int .u64 0,.int .u64 0]
def bruij:List V:=([0,1,56,2,57,49,28,3,61,58,42,50,38,29,17,4,62,47,59,36,45,43,51,22,53,39,33,30,24,18,12,5,63,55,48,27,60,41,37,16,46,35,44,21,52,32,23,11,54,26,40,15,34,20,31,10,25,14,19,9,13,8,7,6]:List Int).map (V.int .u8)
def fc_2:FuncId→Option AF
 | 259=>some F259
 | 261=>some F261
 | 262=>some F262
 | 263=>some F263
 | 264=>some F264
 | 265=>some F265
 | 266=>some F266
 | 267=>some F267
 | 268=>some F268
 | 269=>some F269
 | 273=>some F273
 | 278=>some F278
 | 279=>some F279
 | 280=>some F280
 | 281=>some F281
 | 284=>some F284
 | 285=>some F285
 | 286=>some F286
 | 287=>some F287
 | 288=>some F288
 | 289=>some F289
 | 290=>some F290
 | 293=>some F293
 | 300=>some F300
 | 301=>some F301
 | 302=>some F302
 | 304=>some F304
 | 307=>some F307
 | 311=>some F311
 | 320=>some F320
 | _=>none
def fc_1:FuncId→Option AF
 | 147=>some F147
 | 148=>some F148
 | 149=>some F149
 | 152=>some F152
 | 155=>some F155
 | 157=>some F157
 | 158=>some F158
 | 159=>some F159
 | 160=>some F160
 | 161=>some F161
 | 166=>some F166
 | 167=>some F167
 | 170=>some F170
 | 172=>some F172
 | 173=>some F173
 | 174=>some F174
 | 176=>some F176
 | 177=>some F177
 | 188=>some F188
 | 189=>some F189
 | 190=>some F190
 | 194=>some F194
 | 206=>some F206
 | 208=>some F208
 | 209=>some F209
 | 210=>some F210
 | 212=>some F212
 | 214=>some F214
 | 216=>some F216
 | 217=>some F217
 | 223=>some F223
 | 224=>some F224
 | 225=>some F225
 | 226=>some F226
 | 227=>some F227
 | 228=>some F228
 | 229=>some F229
 | 230=>some F230
 | 233=>some F233
 | 234=>some F234
 | 235=>some F235
 | 236=>some F236
 | 248=>some F248
 | 249=>some F249
 | 250=>some F250
 | 251=>some F251
 | 252=>some F252
 | 253=>some F253
 | 254=>some F254
 | 258=>some F258
 | f=>fc_2 f
def fc:FuncId→Option AF
 | 14=>some F14
 | 15=>some F15
 | 21=>some F21
 | 23=>some F23
 | 24=>some F24
 | 25=>some F25
 | 31=>some F31
 | 32=>some F32
 | 33=>some F33
 | 39=>some F39
 | 40=>some F40
 | 42=>some F42
 | 44=>some F44
 | 47=>some F47
 | 48=>some F48
 | 52=>some F52
 | 53=>some F53
 | 57=>some F57
 | 58=>some F58
 | 59=>some F59
 | 60=>some F60
 | 62=>some F62
 | 63=>some F63
 | 64=>some F64
 | 71=>some F71
 | 74=>some F74
 | 75=>some F75
 | 84=>some F84
 | 86=>some F86
 | 97=>some F97
 | 100=>some F100
 | 103=>some F103
 | 104=>some F104
 | 105=>some F105
 | 106=>some F106
 | 108=>some F108
 | 109=>some F109
 | 110=>some F110
 | 116=>some F116
 | 118=>some F118
 | 120=>some F120
 | 121=>some F121
 | 122=>some F122
 | 124=>some F124
 | 127=>some F127
 | 128=>some F128
 | 130=>some F130
 | 136=>some F136
 | 145=>some F145
 | 146=>some F146
 | f=>fc_1 f
def fs_1:FuncId→Option AF
 | 271=>some S271
 | 272=>some S272
 | 274=>some S274
 | 276=>some S276
 | 291=>some S291
 | 292=>some S292
 | 294=>some S294
 | 295=>some S295
 | 296=>some S296
 | 303=>some S303
 | 305=>some S305
 | 312=>some S312
 | _=>none
def fs:FuncId→Option AF
 | 51=>some S51
 | 78=>some S78
 | 81=>some S81
 | 87=>some S87
 | 88=>some S88
 | 89=>some S89
 | 90=>some S90
 | 93=>some S93
 | 111=>some S111
 | 124=>some S124
 | 127=>some S127
 | 128=>some S128
 | 130=>some S130
 | 137=>some S137
 | 138=>some S138
 | 139=>some S139
 | 140=>some S140
 | 144=>some S144
 | 145=>some S145
 | 146=>some S146
 | 147=>some S147
 | 148=>some S148
 | 149=>some S149
 | 153=>some S153
 | 154=>some S154
 | 156=>some S156
 | 168=>some S168
 | 169=>some S169
 | 171=>some S171
 | 189=>some S189
 | 192=>some S192
 | 193=>some S193
 | 194=>some S194
 | 204=>some S204
 | 205=>some S205
 | 206=>some S206
 | 207=>some S207
 | 208=>some S208
 | 209=>some S209
 | 210=>some S210
 | 213=>some S213
 | 215=>some S215
 | 231=>some S231
 | 232=>some S232
 | 237=>some S237
 | 244=>some S244
 | 248=>some S248
 | 249=>some S249
 | 255=>some S255
 | 270=>some S270
 | f=>fs_1 f
def shl:List Nat:=[55,56,65,68,69,72,73,76,77,78,79,81,87,88,89,90,91,93,95,98,107,111,113,125,137,138,142,144,156,162,168,204,205,207,218,231,237,240,244,255,270,271,274,276,291,292,303,312,313,314,315,316,317,318,319,323,324,325,326]
def shm:List Nat:=[25,51,217]
def fzl:List Nat:=[217]
def twl:List Nat:=[217]
def E:Env:={ sh:=fun nm f=>shl.any (Nat.beq f) || (nm && shm.any (Nat.beq f)),fz:=fun f=>fzl.any (Nat.beq f),tw:=fun f=>twl.any (Nat.beq f),srt:=fun f=>match f with|69=>some none|91=>some (some 92)|_=>none,fc:=fc,fs:=fs,gl:=(fun g=>match g with|0=>some bruij|1=>some words|2=>some utf8first|3=>some accR|_=>none),nw:=fun f=>match f with|78=>some j5o|_=>none }
end
structure Val' where
 kind:Int
 n:Int
 deriving DecidableEq
structure Op' where
 w:Bool
 key:Int
 v:Val'
 deriving DecidableEq
structure Txn' where
 s:Int
 f:Int
 nl:Bool
 ops:List Op'
structure Hist' where
 sn:Bool
 ss:List (List UInt8)
 kn:Bool
 ks:List (List UInt8)
 tn:Bool
 ts:List Txn'
def jv (v:Val'):List V:=[.int .i64 v.kind,.int .i64 v.n]
def opC (o:Op'):List V:=[.bool o.w,.int .i64 o.key,.int .i64 o.v.kind,.int .i64 o.v.n]
def slOf {α:Type}(nl:Bool) (f:α→List V) (l:List α):V:=.sl none nl l.length (l.flatMap f)
def ji (t:Txn'):List V:=[.int .i64 t.s,.int .i64 t.f,slOf t.nl opC t.ops]
def Jj (s:List UInt8):List V:=[.str s]
def histC (h:Hist'):List V:=[slOf h.sn Jj h.ss,slOf h.kn Jj h.ks,slOf h.tn ji h.ts]
@[simp] theorem j13 {a:Type}(nl:Bool) (f:a→List V) (l:List a):QY (slOf nl f l)=some (.int .i64 l.length):=rfl
@[simp] theorem j5k {a:Type}(nl:Bool) (f:a→List V) (l:List a):(slOf nl f l).leaf=true:=rfl
@[simp] theorem j4m {a:Type}(nl:Bool) (f:a→List V) (l:List a):(slOf nl f l).cells=[slOf nl f l]:=rfl
@[simp] theorem j4l {a:Type}(nl:Bool) (f:a→List V) (l:List a):(slOf nl f l).strip=slOf nl f l:=rfl
@[simp] theorem j00 {a:Type}(nl:Bool) (f:a→List V) (l:List a):(slOf nl f l).strip1=slOf nl f l:=rfl
@[simp] theorem jzd {a:Type}(nl:Bool) (f:a→List V) (l:List a):(slOf nl f l).pureTop=true:=rfl
@[simp] theorem jv3 {a:Type}(nl:Bool) (f:a→List V) (l:List a):(slOf nl f l).pureLeaf=true:=rfl
@[simp] theorem int_strip (k:IntKind) (n:Int):(V.int k n).strip=.int k n:=rfl
@[simp] theorem j4w (n:Bool):(V.bool n).strip=.bool n:=rfl
@[simp] theorem j4s (k:IntKind) (n:Int):(V.int k n).strip1=.int k n:=rfl
@[simp] theorem j3y (n:Bool):(V.bool n).strip1=.bool n:=rfl
@[simp] theorem j21 (k:IntKind) (n:Int):(V.int k n).pureTop=true:=rfl
@[simp] theorem j0a (n:Bool):(V.bool n).pureTop=true:=rfl
@[simp] theorem jzv (k:IntKind) (n:Int):(V.int k n).pureLeaf=true:=rfl
@[simp] theorem jyw (n:Bool):(V.bool n).pureLeaf=true:=rfl
@[simp] theorem agg_strip (cs:List V):(V.agg cs).strip=.agg (cs.map V.strip1):=rfl
@[simp] theorem j36 (cs:List V):(V.agg cs).pureTop=cs.all V.pureLeaf:=rfl
def YD (n:Int) (l:Nat):Bool:=decide (0≤n) && decide (n<l)
theorem ev214 (n:Int) (nl:Bool) (l:List (List UInt8)):Ev E 214 [.int .i64 n,slOf nl Jj l] (.bool (YD n l.length)):=by
 refine jP (af:=F214) rfl ?_
 by_cases h:0≤n
 ·simp[F214,h]
  exact j3 rfl (by simp[YD,h]) rfl
 ·simp[F214,h]
  exact j3 rfl (by simp[YD,h]) rfl
def jcp (h:Hist') (t:Txn'):Bool:=YD t.s h.ss.length && (decide (1≤t.f) && (decide (t.f≤3) && decide (t.ops.length≤20)))
theorem ev155 (h:Hist') (t:Txn'):Ev E 155 [.agg (histC h),.agg (ji t)] (.bool (jcp h t)):=by
 refine jP (af:=F155) rfl ?_
 simp[F155,histC,ji,j0]
 refine XX (vs:=[.int .i64 t.s,slOf h.sn Jj h.ss]) zS rfl zS (by simpa using ev214 t.s h.sn h.ss) ?_
 unfold jcp
 cases c:YD t.s h.ss.length
 ·simp
  exact j3 rfl zS rfl
 by_cases a:1≤t.f
 ·by_cases b:t.f≤3
  ·simp[j0,a,b]
   exact j3 rfl (by simp;omega) rfl
  ·simp[j0,a,b]
   exact j3 rfl zS rfl
 ·simp[j0,a]
  exact j3 rfl zS rfl
def jon (v:Val'):Bool:=v.kind == 1 || ((v.kind == 0 || v.kind == 2) && v.n == 0)
theorem ev174 (v:Val'):Ev E 174 [.agg (jv v)] (.bool (jon v)):=by
 refine jP (af:=F174) rfl ?_
 unfold jon
 cases a:v.kind == 1
 ·cases b:v.kind == 0
  ·cases c:v.kind == 2
   ·simp[F174,jv,j0,a,b,c]
    exact j3 rfl zS rfl
   ·simp[F174,jv,j0,a,b,c]
    exact j3 rfl zS rfl
  ·simp[F174,jv,j0,a,b]
   exact j3 rfl zS rfl
 ·simp[F174,jv,j0,a]
  exact j3 rfl zS rfl
def jbt (v:Val'):V:=if v.kind=1 then .iface 2 (.int .i64 v.n) else if v.kind=2 then .iface 316 (.agg []) else .nilif
theorem ev253 (v:Val'):Ev E 253 [.agg (jv v)] (.agg [jbt v]):=by
 refine jP (af:=F253) rfl ?_
 unfold jbt
 by_cases a:v.kind=1
 ·simp[F253,jv,j0,a]
  exact J0 rfl (l:=[.agg [.iface 2 (.int .i64 v.n)]]) (by simp[jp,j0]) rfl rfl
 ·have b1:(v.kind == 1)=false:=by simpa using a
  by_cases b:v.kind=2
  ·simp[F253,jv,j0,b]
   exact J0 rfl (l:=[.agg [.iface 316 (.agg [])]]) (by simp[jp,j0]) rfl rfl
  ·have b2:(v.kind == 2)=false:=by simpa using b
   simp[F253,jv,j0,a,b,b1,b2]
   exact J0 rfl (l:=[.agg [.nilif]]) (by simp[jp,j0]) rfl rfl
def jqa (v:Val'):Val':=if v.kind=1 then ⟨1,v.n⟩ else if v.kind=2 then ⟨2,0⟩ else ⟨0,0⟩
theorem ev252 (v:Val'):Ev E 252 [.agg [jbt v]] (.tup [.agg (jv (jqa v)),.int .i64 0]):=by
 refine jP (af:=F252) rfl ?_
 unfold jbt jqa
 by_cases b:v.kind=1
 ·simp[F252,jv,j0,b,ju7,eqV,jhv,j5]
  exact J0 rfl (l:=[.agg [.int .i64 1,.int .i64 v.n],.int .i64 0]) (by simp[jp,j0]) rfl rfl
 ·by_cases a:v.kind=2
  ·simp[F252,jv,j0,a,ju7,eqV,jhv,j5]
   exact J0 rfl (l:=[.agg [.int .i64 2,.int .i64 0],.int .i64 0]) (by simp[jp,j0]) rfl rfl
  ·simp[F252,jv,j0,b,a,ju7,eqV]
   exact J0 rfl (l:=[.agg [.int .i64 0,.int .i64 0],.int .i64 0]) (by simp[jp,j0]) rfl rfl
theorem jqx (v:Val'):jon v=((jqa v).kind == v.kind && (jqa v).n == v.n):=by
 obtain⟨k,n⟩:=v
 unfold jon jqa
 by_cases a:k=1
 ·simp[a]
 ·by_cases b:k=2
  ·rw[if_neg a,if_pos b,Bool.eq_iff_iff]
   simp only[Bool.or_eq_true,Bool.and_eq_true,beq_iff_eq]
   omega
  ·rw[if_neg a,if_neg b,Bool.eq_iff_iff]
   simp only[Bool.or_eq_true,Bool.and_eq_true,beq_iff_eq]
   omega
theorem jgm (v:Val'):(jbt v).pureLeaf=true:=by unfold jbt;split;rfl;split <;> rfl
theorem jce (v:Val'):(jbt v).strip1=jbt v:=by unfold jbt;split;rfl;split <;> rfl
theorem ev216 (v:Val'):Ev E 216 [.agg (jv v)] (.bool (jon v)):=by
 refine jP (af:=F216) rfl ?_
 simp[F216,jv,j0]
 refine XX (vs:=[.agg (jv v)]) (by simp[jv]) rfl (by simp[jv]) (by simpa[jv] using ev253 v) ?_
 simp[Y9 (v:=.agg [jbt v]) (by simp[V.plain,jgm])]
 refine XX (vs:=[.agg [jbt v]]) zS rfl (by simp[jgm,jce]) (by simpa[jce] using ev252 v) ?_
 rw[jqx]
 generalize jqa v=b
 rw[Jh (by simp[V.plain,jv])]
 simp[jv,j0]
 exact j3 rfl zS rfl
def opB (h:Hist') (o:Op'):Bool:=YD o.key h.ks.length && (jon o.v && (!o.w || o.v.kind == 1))
theorem ev157 (h:Hist') (o:Op'):Ev E 157 [.agg (histC h),.agg (opC o)] (.bool (opB h o)):=by
 refine jP (af:=F157) rfl ?_
 simp[F157,histC,opC,j0]
 refine XX (vs:=[.int .i64 o.key,slOf h.kn Jj h.ks]) zS rfl zS (by simpa using ev214 o.key h.kn h.ks) ?_
 unfold opB
 cases b:YD o.key h.ks.length
 ·simp
  exact j3 rfl zS rfl
 simp[j0]
 refine XX (vs:=[.agg (jv o.v)]) (by simp[jv]) rfl (by simp[jv]) (by simpa[jv] using ev216 o.v) ?_
 cases c:jon o.v
 ·simp
  exact j3 rfl zS rfl
 cases a:o.w
 ·simp[j0]
  exact j3 rfl zS rfl
 ·simp[j0]
  exact j3 rfl zS rfl
@[simp] theorem j5b (args:List V) (ob:ZO) (tk:Nat→Bool) (ro base ub n:Nat):(Jm args ob tk ro base ub).tm n=args.getD n jq:=rfl
@[simp] theorem j5e (args:List V) (ob:ZO) (tk:Nat→Bool) (ro base ub:Nat):(Jm args ob tk ro base ub).ob=ob:=rfl
@[simp] theorem j5c (args:List V) (ob:ZO) (tk:Nat→Bool) (ro base ub:Nat):(Jm args ob tk ro base ub).tk=tk:=rfl
@[simp] theorem j5d (args:List V) (ob:ZO) (tk:Nat→Bool) (ro base ub:Nat):(Jm args ob tk ro base ub).ro=ro:=rfl
@[simp] theorem j5f (args:List V) (ob:ZO) (tk:Nat→Bool) (ro base ub:Nat):(Jm args ob tk ro base ub).nx=ub:=rfl
@[simp] theorem j5g (args:List V) (ob:ZO) (tk:Nat→Bool) (ro base ub:Nat):(Jm args ob tk ro base ub).fb=base:=rfl
@[simp] theorem j5h (args:List V) (ob:ZO) (tk:Nat→Bool) (ro base ub:Nat):(Jm args ob tk ro base ub).df=[]:=rfl
theorem jm {n:Int}(h:-9223372036854775808≤n) (a:n≤9223372036854775807):IntKind.i64.wrap n=n:=by
 rw[IntKind.wrap_i64];omega
section
variable {α:Type}{f:α→List V}{k:Nat}
theorem j7 (b:∀a,(f a).length=k):∀ (l:List α),(l.flatMap f).length=l.length*k
 | []=>by simp
 | a::l=>by rw[List.flatMap_cons,List.length_append,b,j7 b l,List.length_cons,Nat.succ_mul];omega
theorem Xb (b:∀a,(f a).length=k):∀ (l:List α) (i:Nat) (h:i<l.length),((l.flatMap f).drop (i*k)).take k=f l[i]
 | a::l,0,_=>by rw[List.flatMap_cons,Nat.zero_mul,List.drop_zero,List.take_append_of_le_length (by rw[b];omega),List.take_of_length_le (by rw[b];omega)];rfl
 | a::l,i+1,h=>by
  rw[List.flatMap_cons,Nat.succ_mul,List.drop_append,List.drop_of_length_le (by rw[b];omega),List.nil_append,b,Nat.add_sub_cancel]
  exact Xb b l i (by simpa using h)
theorem j4 (b:∀a,(f a).length=k) (nl:Bool) (l:List α) (kk:IntKind) {i:Nat}(h:i<l.length):JK k (slOf nl f l) (.int kk i)=some (.eptr (l.flatMap f) (i*k)):=by
 simp only[slOf,Ws,j7 b]
 rw[if_pos (by simp;omega)]
 rfl
theorem jb (b:∀a,(f a).length=k) (ob:ZO) (l:List α) {i:Nat}(h:i<l.length):Yw ob (some k) (.eptr (l.flatMap f) (i*k))=some (.agg (f l[i])):=by
 have:i*k+k≤l.length*k:=by rw[← Nat.succ_mul];exact Nat.mul_le_mul_right k h
 rw[jbk,Q9,if_pos (by rw[j7 b];exact this),Xb b l i h]
end
@[simp] theorem j8 (t:Txn'):(ji t).length=3:=rfl
@[simp] theorem jF (t:Op'):(opC t).length=4:=rfl
@[simp] theorem Y6 (t:List UInt8):(Jj t).length=1:=rfl
theorem jaq {E:Env}{Yf:YF}{q:A}{xs:List A}{st:St}{ub:Nat}{K:St→Nat→Prop}{d:Option Nat}{nm:Bool}{f:FuncId}{first captured:List V}(e:eval E st.tm q=.fn (.func f) first captured) (c:E.sh nm f=false)
 (hp:((first++xs.map (eval E st.tm)++captured).all fun v=>v.strip.pureTop)=false) {v:V}(i:EvO E f (first++xs.map (eval E st.tm)++captured) st.ob st.tk ((st.fb+d.getD 0+1)*1024) ub v) (h:wpD (Xg ub v) (WW K st d ub)) :
 j6 E Yf ⟨d,.callV q xs,none,nm⟩ st ub K:=by
 have b:jB E nm (eval E st.tm) (.callV q xs)=some (f,first++xs.map (eval E st.tm)++captured):=by simp only[jB,e,c,hp,Bool.not_false,Bool.true_and,Bool.false_eq_true,if_false]
 simp only[j6,wanted,jf,e,b]
 obtain⟨g,a,j⟩:=h
 exact .inr ⟨c,v,i,g,a,j⟩
theorem js {E:Env}{Yf:YF}{f:FuncId}{xs:List A}{st:St}{ub:Nat}{K:St→Nat→Prop}{d:Option Nat}{nm:Bool}{vs:List V}(a:xs.map (eval E st.tm)=vs) (b:E.sh nm f=false) (hp:(vs.all fun v=>v.strip.pureTop)=false) {v:V}
 (c:EvO E f vs st.ob st.tk ((st.fb+d.getD 0+1)*1024) ub v) (h:wpD (Xg ub v) (WW K st d ub)):j6 E Yf ⟨d,.call f xs,none,nm⟩ st ub K :=
 jqr b (by rw[a];exact hp) ⟨v,by rw[a];exact c,h⟩
theorem X6 {E:Env}{f:FuncId}{af:AF}{args:List V}{ob:ZO}{tk:Nat→Bool}{base ub:Nat}{r:V}(a:E.fs f=some af) (h:wpC E Xx af.body (Jm args ob (fun _=>false) ub base ub) (jzr af.res r)) (b:E.fz f=false:=by rfl):EvO E f args ob tk base ub r:=EvO_wp a h b
def HistAt (h:Hist') (ob:ZO) (l u:Nat):Prop:=l % 2=0∧ob l=some ⟨u,.cells (histC h)⟩
theorem ev154 {h:Hist'}{ob:ZO}{l u:Nat}(c:HistAt h ob l u) (t:Txn') (tk:Nat→Bool) (base ub:Nat):EvO E 154 [.agg (ji t),.ptr l u 0] ob tk base ub (.bool (!jcp h t)):=by
 obtain⟨d,b⟩:=c
 refine X6 (af:=S154) rfl ?_
 have a:¬ l=2*ub+1:=zO
 simp[S154,j0,a,b,ji,histC]
 refine XX (vs:=[.agg (histC h),.agg (ji t)]) (by simp[histC,ji]) rfl (by simp[histC,ji]) (by simpa[histC,ji] using ev155 h t) ?_
 simp
 exact j3 rfl zS rfl
def jcb {α:Type}(p:α→Bool) (l:List α):Int:=match l.findIdx? p with
 | some i=>i
 | none=>-1
theorem jca {α:Type}{p:α→Bool}{l:List α}{i:Nat}(h:i<l.length) (c:p l[i]=true) (b:∀j (a:j<l.length),j<i→p l[j]=false):jcb p l=i:=by
 unfold jcb
 have:l.findIdx? p=some i:=by
  rw[List.findIdx?_eq_some_iff_getElem]
  exact⟨h,c,fun j a=>by rw[b j zO a];decide⟩
 rw[this]
theorem jep {α:Type}{p:α→Bool}{l:List α}(c:∀j (a:j<l.length),p l[j]=false):jcb p l = -1:=by
 unfold jcb
 have:l.findIdx? p=none:=by
  rw[List.findIdx?_eq_none_iff]
  intro x b
  obtain⟨j,a,e⟩:=List.getElem_of_mem b
  rw[← e]
  exact c j a
 rw[this]
theorem jgh {α:Type}(p:α→Bool) (l:List α):decide (0≤jcb p l)=l.any p:=by
 unfold jcb
 cases h:l.findIdx? p with
 | none=>
  rw[List.findIdx?_eq_none_iff]at h
  simp
  intro x a
  simpa using h x a
 | some i=>
  rw[List.findIdx?_eq_some_iff_getElem]at h
  obtain⟨b,c,_⟩:=h
  simp
  exact⟨_,List.getElem_mem b,c⟩
theorem ev213 {p:Txn'→Bool}{g:FuncId}{cap:V}{ob:ZO}(y:E.sh true g=false) (d:cap.strip.pureTop=false) (hp:∀ (t:Txn') (tk:Nat→Bool) (base ub:Nat),EvO E g [.agg (ji t),cap] ob tk base ub (.bool (p t)))
 (nl:Bool) (l:List Txn') (z:l.length≤140737488355328) (tk:Nat→Bool) (base ub:Nat):EvO E 213 [slOf nl ji l,.fn (.func g) [] [cap]] ob tk base ub (.int .i64 (jcb p l)):=by
 refine X6 (af:=S213) rfl ?_
 simp[S213]
 refine YT (n:=l.length) (fun k s=>∃i,k=l.length - i∧i≤l.length∧s.df=[]∧s.ob=ob∧s.tm 0=slOf nl ji l∧s.tm 1=.fn (.func g) [] [cap]∧s.tm 7=.int .i64 l.length∧s.tm 8=.int .i64 i∧∀j (b:j<l.length),j<i→p l[j]=false)
  ⟨0,zS⟩ ?_
 rintro k s ⟨i,rfl,B,e,x,u,w,o,r,q⟩
 by_cases a:i<l.length
 ·simp[u,w,o,r,a,j4 j8,jb j8]
  refine jaq (f:=g) (first:=[]) (captured:=[cap]) zS y (by simp[d]) (v:=.bool (p l[i])) (by simpa[x] using hp l[i] _ _ _) ?_
  cases c:p l[i]
  ·simp[u,w,o,r,e]
   refine⟨l.length - (i+1),zO,i+1,rfl,zO,x,by rw[jm zO zO];simp,?_⟩
   intro j b m
   rcases Nat.lt_succ_iff_lt_or_eq.1 m with h|rfl
   ·exact q j b h
   ·exact c
  ·simp
   refine j3 (by simpa using e) ?_ rfl
   simp
   rw[jca a c q]
 ·have:i=l.length:=zO
  subst this
  simp[o,r]
  refine j3 (by simpa using e) ?_ rfl
  simp[jep (fun j b=>q j b b)]
theorem ev153 {p:Txn'→Bool}{g:FuncId}{ob:ZO}{a b c:Nat}(e:E.sh true g=false) (hp:∀ (t:Txn') (tk:Nat→Bool) (base ub:Nat),EvO E g [.agg (ji t),.ptr a b c] ob tk base ub (.bool (p t)))
 (nl:Bool) (l:List Txn') (d:l.length≤140737488355328) (tk:Nat→Bool) (base ub:Nat):EvO E 153 [slOf nl ji l,.fn (.func g) [] [.ptr a b c]] ob tk base ub (.bool (l.any p)):=by
 refine X6 (af:=S153) rfl ?_
 simp[S153]
 refine js (vs:=[slOf nl ji l,.fn (.func g) [] [.ptr a b c]]) zS rfl rfl (ev213 e rfl hp nl l d _ _ _) ?_
 simp
 exact j3 rfl (by simp[jgh]) rfl
def Fr (ub:Nat) (ob ob':ZO):Prop:=∀key,(∀m,ub≤m→key≠2*m+1)→ob' key=ob key
theorem Fr.refl (ub:Nat) (ob:ZO):Fr ub ob ob:=fun _ _=>rfl
def XY (res:List ARes) (P:V × (ZO) × (Nat→Bool) × Nat→Prop):Ex→St→Prop:=fun e s=>∃r,endS res (e,s)=some r∧P r
theorem JD (st:St) (d:Option Nat) (v:V) (obs:List (Nat × Obj')):(st.app d { v:=v,obs:=obs }).tk=st.tk:=by
 funext u
 simp[JC]
theorem Fr.two {ub m:Nat}{ob ob':ZO}(h:∀a,a≠2*m+1→ob' a=ob a) (c:ub≤m):Fr ub ob ob':=fun a b=>h a (b m c)
theorem jmp {E:Env}{Yf:YF}{o:AOpr}{st:St}{ub:Nat}{K:St→Nat→Prop}(h:∀a,a=st→j6 E Yf o a ub K):j6 E Yf o st ub K:=h st rfl
theorem jzf {Yf:YF}(h:Hist') (hn:h.ts.length≤1000) (hm:∀t∈h.ts,t.ops.length≤1000000) {l u lh uh:Nat}{ob0:ZO}{tk0:Nat→Bool}{ro base ub0:Nat}(hh:ob0 lh=some ⟨uh,.cells (histC h)⟩) (b9:ro≤ub0)
 (J:Nat→Nat→(ZO)→(Nat→Bool)→Nat→Prop) (P:V × (ZO) × (Nat→Bool) × Nat→Prop)
 (f:∀i k ob q g e o,J i k ob g e→e≤o→Fr e ob q→J i k q g o)
 (z:∀i (hi:i<h.ts.length) ob g e,J i (h.ts[i]).ops.length ob g e→J (i+1) 0 ob g e)
 (x:∀i (hi:i<h.ts.length) k (S:k<(h.ts[i]).ops.length) ob g e,J i k ob g e→ro≤e→∃r,EvY Yf l u [.agg [.int .i64 i,.int .i64 k],.agg (opC (h.ts[i]).ops[k])] ob g ro e r∧ro≤r.2.2.2 ∧
  ((r.1=.bool true∧J i (k+1) r.2.1 r.2.2.1 r.2.2.2)∨(r.1=.bool false∧∀q o,r.2.2.2≤o→Fr r.2.2.2 r.2.1 q→P (.tup [],q,r.2.2.1,o))))
 (O:∀ob g e,J h.ts.length 0 ob g e→P (.tup [],ob,g,e))
 (w:J 0 0 ob0 tk0 ub0):∃r,EvS E Yf.y 215 [.yld l u,.ptr lh uh 0] ob0 tk0 ro base ub0 r∧P r:=by
 refine X2 (af:=S215) rfl zD ?_
 show wpC E Yf S215.body _ (XY S215.res P)
 simp[S215,j0,hh,histC]
 refine YT (n:=h.ts.length) (fun k s=>∃i,k=h.ts.length - i∧i≤h.ts.length∧s.df=[]∧s.fb=base∧s.ro=ro∧ro≤s.nx∧s.tm 0=.yld l u∧s.tm 8=slOf h.tn ji h.ts∧s.tm 9=.int .i64 h.ts.length∧s.tm 10=.int .i64 i∧J i 0 s.ob s.tk s.nx)
  ⟨0,by simp;exact⟨zO,f _ _ _ _ _ _ _ w zO (Fr.refl _ _)⟩⟩ ?_
 rintro k s ⟨i,rfl,hi,I,p,c,M,w,L,B,d,K⟩
 by_cases v:i<h.ts.length
 ·simp[L,B,d,v,j4 j8,jb j8,ji,j0,c]
  refine⟨zO,?_⟩
  refine YT (n:=(h.ts[i]).ops.length) (fun k s=>∃j,k=(h.ts[i]).ops.length - j∧j≤(h.ts[i]).ops.length∧s.df=[]∧s.fb=base∧s.ro=ro∧ro≤s.nx∧s.tm 0=.yld l u∧s.tm 8=slOf h.tn ji h.ts∧s.tm 9=.int .i64 h.ts.length∧s.tm 10=.int .i64 i ∧
   s.tm 3=.int .i64 i∧s.tm 16=slOf (h.ts[i]).nl opC (h.ts[i]).ops∧s.tm 17=.int .i64 (h.ts[i]).ops.length∧s.tm 18=.int .i64 j∧J i j s.ob s.tk s.nx) ⟨0,?_⟩ ?_
  ·simp[I,p,c,w,L,B,d]
   refine⟨zO,?_⟩
   rw[JD,jk1,JD]
   refine f _ _ _ _ _ _ _ K (by omega:s.nx≤_) (Fr.two (m:=s.nx+64+64+64+64) (fun U S=>?_) zO)
   simp[S]
  clear I p c M w L B d K s
  rintro k s ⟨j,rfl,hj,I,p,c,M,w,L,B,d,h3,Q,F,G,K⟩
  by_cases N:j<(h.ts[i]).ops.length
  ·simp[w,h3,Q,F,G,N,j4 jF,jb jF,opC,j0,c,j5]
   refine⟨zO,jmp fun b a=>?_⟩
   have b7:b.tm 23=.yld l u:=by rw[a];simp
   have a0:b.tm 26=.agg [.int .i64 i,.int .i64 j]:=by rw[a];simp
   have T:b.tm 27=.agg (opC (h.ts[i]).ops[j]):=by rw[a];simp[opC]
   have e0:b.tm 0=.yld l u:=by rw[a];simp[w]
   have e8:b.tm 8=slOf h.tn ji h.ts:=by rw[a];simp[L]
   have e9:b.tm 9=.int .i64 h.ts.length:=by rw[a];simp[B]
   have b0:b.tm 10=.int .i64 i:=by rw[a];simp[d]
   have e3:b.tm 3=.int .i64 i:=by rw[a];simp[h3]
   have X:b.tm 16=slOf (h.ts[i]).nl opC (h.ts[i]).ops:=by rw[a];simp[Q]
   have b6:b.tm 17=.int .i64 (h.ts[i]).ops.length:=by rw[a];simp[F]
   have Z:b.tm 18=.int .i64 j:=by rw[a];simp[G]
   have ed:b.df=[]:=by rw[a];simp[I]
   have ef:b.fb=base:=by rw[a];simp[p]
   have er:b.ro=ro:=by rw[a];simp[c]
   have et:b.tk=s.tk:=by rw[a];simp only[jk1,jre,JD]
   have eo:Fr s.nx s.ob b.ob:=by
    rw[a]
    exact Fr.two (m:=s.nx+64+64+64+64) (fun U S=>by simp[S]) zO
   clear a
   obtain⟨r,hr,c0,D⟩:=x i v j N b.ob s.tk (s.nx+64+64+64+64+64+64+64+64+64+64+64+64) (f _ _ _ _ _ _ _ K zO eo) zO
   refine jh5 (l:=l) (u:=u) (by simpa using b7) ⟨r,by simpa[a0,T,et,er] using hr,?_⟩
   rcases D with⟨H,b5⟩|⟨H,hP⟩
   ·simp[H,put,j2,Z]
    have hb:=hm h.ts[i] (List.getElem_mem v)
    refine⟨(h.ts[i]).ops.length - (j+1),zO,j+1,rfl,zO,ed,ef,er,zO,e0,e8,e9,b0,e3,X,b6,by rw[jm zO zO];simp,?_⟩
    exact f _ _ _ _ _ _ _ b5 zO (Fr.refl _ _)
   ·simp[H,put]
    refine⟨(.tup [],r.2.1,r.2.2.1,r.2.2.2+64),?_,hP _ _ zO (Fr.refl _ _)⟩
    simp[endS,ed]
  ·have:j=(h.ts[i]).ops.length:=zO
   subst this
   have b8:=z i v _ _ _ K
   simp[F,G,w,L,B,d,I,p,c]
   refine⟨h.ts.length - (i+1),zO,i+1,rfl,zO,zO,by rw[jm zO zO];simp,?_⟩
   exact f _ _ _ _ _ _ _ b8 zO (Fr.refl _ _)
 ·have:i=h.ts.length:=zO
  subst this
  simp[B,d]
  refine⟨(.tup [],s.ob,s.tk,s.nx+64),?_,O _ _ _ (f _ _ _ _ _ _ _ K (Nat.le_add_right _ _) (Fr.refl _ _))⟩
  simp[endS,I]
theorem jar {E:Env}{Yf:YF}{f:FuncId}{xs:List A}{st:St}{ub:Nat}{K:St→Nat→Prop}{d:Option Nat}{nm:Bool}{vs:List V}(c:xs.map (eval E st.tm)=vs) (b:E.sh nm f=true)
 (h:∃r,EvS E Yf.y f vs st.ob st.tk st.ro ((st.fb+d.getD 0+1)*1024) ub r∧K { st with tm:=put st.tm d r.1,ob:=r.2.1,tk:=r.2.2.1 } r.2.2.2):j6 E Yf ⟨d,.call f xs,none,nm⟩ st ub K:=by
 have a:jB E nm (eval E st.tm) (.call f xs)=some (f,vs):=by simp only[jB,b,c,Bool.not_true,Bool.false_and,Bool.false_eq_true,if_false]
 simp only[j6,wanted,jf,a]
 obtain⟨r,g,e⟩:=h
 exact .inl ⟨b,EvS.list ⟨r,g,e⟩⟩
theorem j3i {Yf:YF}(h:Hist') (ob:ZO) (tk:Nat→Bool) (ro base ub:Nat):∃r,EvS E Yf.y 156 [.agg (histC h)] ob tk ro base ub r ∧
 r.1=.fn (.func 215) [] [.ptr (2*ub+1) ub 0]∧(∀a,r.2.1 a=if a=2*ub+1 then some ⟨ub,.cells (histC h)⟩ else ob a)∧r.2.2.1=tk∧r.2.2.2=ub+256:=by
 refine X2 (af:=S156) rfl zD ?_
 show wpC E Yf S156.body _ (XY S156.res _)
 simp[S156,histC]
 refine⟨(.fn (.func 215) [] [.ptr (2*ub+1) ub 0],_,_,_),rfl,?_⟩
 simp[JD]
def jcm (h:Hist'):List Op':=h.ts.flatMap (·.ops)
def jzy (h:Hist') (i k:Nat):Prop:=∀i' (hi:i'<h.ts.length) k' (hk:k'<(h.ts[i']).ops.length),(i'<i∨i'=i∧k'<k)→opB h (h.ts[i']).ops[k']=true
def AS70:C:=.region [
 ⟨(some 4),.alloc [(.bool false),(.int .i64 0),(.int .i64 0),(.int .i64 0)],none,false⟩,
 ⟨none,.store 4 (.t 4) (.t 17),none,false⟩]
def BD70:C:=.block 1 (.seq (.region [
            ⟨(some 18),.load (some 3) (.t 1),none,false⟩,
            ⟨(some 19),.load (some 4) (.t 4),none,false⟩,
            ⟨(some 20),.call 157 [(.t 18),(.t 19)],none,false⟩,
            ⟨(some 21),.un .not (.t 20),none,false⟩])
 (.cond (.t 21) (.seq (.region [
  ⟨none,.store 1 (.t 2) (.c (.int .i64 4)),none,false⟩])
  (.ret))
  (.skip)))
theorem jpy {h:Hist'}(f:jzy h h.ts.length 0):(jcm h).all (opB h)=true:=by
 rw[List.all_eq_true]
 intro o d
 obtain⟨t,e,a⟩:=List.mem_flatMap.1 d
 obtain⟨i,b,rfl⟩:=List.getElem_of_mem e
 obtain⟨k,c,rfl⟩:=List.getElem_of_mem a
 exact f i b k c (Or.inl b)
theorem jj {E:Env}{Yf:YF}{c:C}{st:St}{Q:Ex→St→Prop}(h:∀a,a=st→wpC E Yf c a Q):wpC E Yf c st Q:=h st rfl
theorem j0b {l k:Nat}(ob:ZO) (h:k≠l):(if Nat.beq l k then none else ob k)=ob k:=by
 cases a:Nat.beq l k with
 | false=>rfl
 | true=>exact absurd (Nat.eq_of_beq_eq_true a).symm h
theorem j1j (h:Hist') (hn:h.ts.length≤1000) (p:∀t∈h.ts,t.ops.length≤1000000) {st:St}{lh uh:Nat}(U:Nat) (hU:st.nx=U) (b5:64≤U) (a0:st.tm 15=.fn (.func 215) [] [.ptr lh uh 0]) (hl:∃m,lh=2*m+1∧m<U)
 (h1:st.tm 1=.ptr 2 0 0) (h2:st.tm 2=.ptr 4 64 0) (F:st.ro=0) (K:st.fb=0) (o2:st.ob 2=some ⟨0,.cells (histC h)⟩) (o4:st.ob 4=some ⟨64,.cells [.int .i64 0]⟩) (oh:st.ob lh=some ⟨uh,.cells (histC h)⟩) {Q:Ex→St→Prop}
 (hQ:∀ (e:Ex) (ob:ZO) (tk:Nat→Bool) (ub:Nat) (c:Int),ob 2=some ⟨0,.cells (histC h)⟩→ob 4=some ⟨64,.cells [.int .i64 c]⟩→ob (2*U+3)=some ⟨U+1,.dfr⟩→U+64≤ub →
  ((jcm h).all (opB h)=true∧e=.nrm∧c=0∨(jcm h).all (opB h)=false∧e=.ret∧c=4)→Q e { st with ob:=ob,tk:=tk,nx:=ub,df:=(2*U+3,U+1)::st.df }) :
 wpC E Xx (.rangeFunc (.t 15) [16,17] AS70 BD70) st Q:=by
 obtain⟨m,rfl,b6⟩:=hl
 subst hU
 refine W6 (g:=215) (first:=[]) (captured:=[.ptr (2*m+1) uh 0]) (by simpa using a0) ?_
 have:=jzf (Yf:=jft E Xx AS70 BD70 st [16,17] (2*st.nx+1) st.nx) h hn p (l:=2*st.nx+1) (u:=st.nx) (lh:=2*m+1) (uh:=uh)
  (ob0:=upd (upd st.ob (2*st.nx+3) (some ⟨st.nx+1,.dfr⟩)) (2*st.nx+1) (some ⟨st.nx,.loop .ready none⟩)) (tk0:=st.tk) (ro:=st.ro) (base:=(st.fb+1023)*1024) (ub0:=st.nx+64)
  (by have M :¬ 2 * m+1=2 * st.nx+1:=by omega
      have L:¬ 2*m+1=2*st.nx+3:=zO
      simp only[j2,M,L,if_false,oh]) zO
  (fun i k ob tk ub=>jzy h i k∧ob (2*st.nx+1)=some ⟨st.nx,.loop .ready none⟩∧ob (2*st.nx+3)=some ⟨st.nx+1,.dfr⟩∧ob 2=some ⟨0,.cells (histC h)⟩∧ob 4=some ⟨64,.cells [.int .i64 0]⟩∧st.nx+64≤ub)
  (fun r=>∃s w,r.2.1 (2*st.nx+1)=some ⟨st.nx,.loop s w⟩∧s≠.busy∧st.ro≤st.nx∧Q (w.getD .nrm) { st with ob:=fun k=>if Nat.beq (2*st.nx+1) k then none else r.2.1 k,tk:=r.2.2.1,nx:=r.2.2.2,df:=(2*st.nx+3,st.nx+1)::st.df })
  ?_ ?_ ?_ ?_ ?_
 ·obtain⟨r,hr,hP⟩:=this
  exact⟨r,hr,hP⟩
 ·-- what J says stands behind what is new
  rintro i k ob j tk ub I ⟨v,B,G,N,H,g6⟩ b7 x
  have f:∀d,(∀m,ub≤m→d≠2*m+1)→j d=ob d:=x
  exact⟨v,by rw[f _ (fun m p=>by omega)];exact B,by rw[f _ (fun m p=>by omega)];exact G,by rw[f _ (fun m p=>by omega)];exact N,by rw[f _ (fun m p=>by omega)];exact H,zO⟩
 ·rintro i hi ob tk ub ⟨v,g⟩
  refine⟨fun P n D b q=>?_,g⟩
  rcases q with z|⟨_,z⟩
  ·rcases Nat.lt_succ_iff_lt_or_eq.1 z with h''|rfl
   ·exact v P n D b (Or.inl h'')
   ·exact v P n D b (Or.inr ⟨rfl,b⟩)
  ·omega
 ·rintro i hi k hk ob tk ub ⟨v,B,G,N,H,g6⟩ b9
  refine je8 (asg:=AS70) (bd:=BD70) (xs:=[.agg [.int .i64 i,.int .i64 k],.agg (opC (h.ts[i]).ops[k])]) rfl zO B zD zD ?_
  simp[AS70,jdh,j0,K,opC,F]
  refine⟨by rw[if_neg zO,if_neg zO];exact B,jj fun o a=>?_⟩
  have f1:o.tm 1=.ptr 2 0 0:=by rw[a];simp[j2,h1]
  have f2:o.tm 2=.ptr 4 64 0:=by rw[a];simp[j2,h2]
  have f4:o.tm 4=.ptr 8 ub 0:=by rw[a];simp
  have Z:¬ 2=2*st.nx+1:=zO
  have X:¬ 4=2*st.nx+1:=zO
  have n8:¬ 8=2*st.nx+1:=zO
  have S:¬ 2*st.nx+3=2*st.nx+1:=zO
  have b0:¬ 2*st.nx+3=8:=zO
  have p2:o.ob 2=some ⟨0,.cells (histC h)⟩:=by rw[a];simp only[j2,Z,if_false,Ju];simp[N]
  have p4:o.ob 4=some ⟨64,.cells [.int .i64 0]⟩:=by rw[a];simp only[j2,X,if_false,Ju];simp[H]
  have p8:o.ob 8=some ⟨ub,.cells (opC (h.ts[i]).ops[k])⟩:=by rw[a];simp only[j2,n8,if_false,Ju];simp[opC]
  have p3:o.ob (2*st.nx+3)=some ⟨st.nx+1,.dfr⟩:=by rw[a];simp only[j2,S,b0,if_false,Ju];exact G
  have p1:o.ob (2*st.nx+1)=some ⟨st.nx,.loop .busy none⟩:=by rw[a];simp
  have fr:o.ro=0:=by rw[a]
  have fn:ub≤o.nx:=by rw[a];simp;omega
  clear a
  simp[BD70,f1,f4,p2,p8,j0,opC,histC]
  refine XX (vs:=[.agg (histC h),.agg (opC (h.ts[i]).ops[k])]) (by simp[histC,opC]) rfl (by simp[histC,opC]) (by simpa[histC,opC] using ev157 h (h.ts[i]).ops[k]) ?_
  have m1:¬ 2*st.nx+1=4:=zO
  have m3:¬ 2*st.nx+3=4:=zO
  cases hb:opB h (h.ts[i]).ops[k]
  ·simp[f2,p4,j0,fr,m1,p1,WD,j5]
   intro j I b8 x
   have T:∀d,(∀m,o.nx+64+64+64+64+64≤m→d≠2*m+1)→j d=_:=x
   have O:(jcm h).all (opB h)=false:=by
    rw[List.all_eq_false]
    exact⟨_,List.mem_flatMap.2 ⟨_,List.getElem_mem hi,List.getElem_mem hk⟩,by rw[hb];decide⟩
   have y:∀ {k:Nat},k≠2*st.nx+1→(if 2*st.nx+1=k then none else j k)=j k:=fun hk=>if_neg fun e=>hk e.symm
   refine⟨.done,some .ret,?_,zS,?_⟩
   ·rw[T _ (fun m p=>by omega)]
    simp
   ·have:=hQ .ret (fun k=>if 2*st.nx+1=k then none else j k) o.tk I 4 (by rw[y Z,T _ (fun m p=>by omega)];simp only[j2,Z,if_false,Ju];simp[p2]) (by rw[y X,T _ (fun m p=>by omega)];simp only[j2,X,if_false,Ju];simp)
     (by rw[y S,T _ (fun m p=>by omega)];simp only[j2,S,m3,if_false,Ju];exact p3) zO (Or.inr ⟨O,rfl,rfl⟩)
    rw[F,K]at this
    exact this
  ·simp[p1,WD]
   refine⟨fun P n D b q=>?_,?_,?_,?_,zO⟩
   ·rcases q with z|⟨rfl,z⟩
    ·exact v P n D b (Or.inl z)
    ·rcases Nat.lt_succ_iff_lt_or_eq.1 z with h''|rfl
     ·exact v _ n D b (Or.inr ⟨rfl,h''⟩)
     ·exact hb
   ·rw[j2,if_neg S];exact p3
   ·rw[j2,if_neg Z];exact p2
   ·rw[j2,if_neg X];exact p4
 ·rintro ob tk ub ⟨v,B,G,N,H,g6⟩
  refine⟨.ready,none,B,zS,zO,?_⟩
  exact hQ .nrm _ _ _ 0 ((j0b ob zO).trans N) ((j0b ob zO).trans H) ((j0b ob zO).trans G) g6 (Or.inl ⟨jpy v,rfl,rfl⟩)
 ·refine⟨fun P n D b q=>by omega,?_,?_,?_,?_,zO⟩
  ·simp
  ·simp[j2]
  ·have M:¬ 2=2*st.nx+1:=zO
   have L:¬ 2=2*st.nx+3:=zO
   simp only[j2,M,L,if_false,o2]
  ·have M:¬ 4=2*st.nx+1:=zO
   have L:¬ 4=2*st.nx+3:=zO
   simp only[j2,M,L,if_false,o4]
def rc (l:List Op'):Nat:=(l.filter fun o=>!o.w).length
def rcT (l:List Txn'):Nat:=rc (l.flatMap (·.ops))
theorem rc_le (l:List Op'):rc l≤l.length:=List.length_filter_le _ _
theorem j5v (a b:List Op'):rc (a++b)=rc a+rc b:=by simp[rc]
section
variable {E:Env}{Yf:YF}{st:St}{ub:Nat}{K:St→Nat→Prop}{d:Option Nat}{nm:Bool}
theorem Jz {sz a u n:Nat}{nl:Bool}{cs ys:List V}{s x:A}(j:eval E st.tm s=.sl (some (u,sz)) nl n cs) (f:st.tk u=true) (i:jI st.ob sz (eval E st.tm x)=some ys) (e:ys≠[]) (b:cs.length=n*sz) (g:0<sz)
 (hp:ys.all V.pureLeaf=true) (k:(n+ys.length / sz)*a≤140737488355328) (c:n+ys.length / sz≤140737488355328) (h:WW K st d ub { v:=.sl (some (ub,sz)) false (n+ys.length / sz) (cs++ys),del:=some u,add:=[ub] }) :
 j6 E Yf ⟨d,.append false sz a s x,none,nm⟩ st ub K:=by
 rw[jM _ rfl rfl]
 simp only[aop,j,i,Option.bind_some,if_neg e,Bool.false_and,Bool.false_eq_true,if_false]
 rw[if_pos ⟨b,g,hp,k,c⟩,if_pos (by simp[f]),jN]
 exact h
theorem jhm {sz a:Nat}{ys:List V}{s x:A}(g:eval E st.tm s=.sl none true 0 []) (f:jI st.ob sz (eval E st.tm x)=some ys) (c:ys≠[]) (e:0<sz)
 (hp:ys.all V.pureLeaf=true) (i:(0+ys.length / sz)*a≤140737488355328) (b:0+ys.length / sz≤140737488355328) (h:WW K st d ub { v:=.sl (some (ub,sz)) false (0+ys.length / sz) ([]++ys),add:=[ub] }) :
 j6 E Yf ⟨d,.append false sz a s x,none,nm⟩ st ub K:=by
 rw[jM _ rfl rfl]
 simp only[aop,g,f,Option.bind_some,if_neg c,Bool.false_and,Bool.false_eq_true,if_false]
 rw[if_pos ⟨zS,e,hp,i,b⟩,if_pos trivial,jN]
 exact h
theorem jS {sz n:Nat}{zero:List V}{a:List (Nat × Nat × A)}{cs:List V}(c:fill zero (jx (eval E st.tm) a)=some cs) (b:cs.length=n*sz) (hp:(cs.map V.strip1).all V.pureLeaf=true)
 (h:WW K st d ub { v:=.sl (some (ub,sz)) false n (cs.map V.strip1),add:=[ub] }):j6 E Yf ⟨d,.buildSl false sz zero a n,none,nm⟩ st ub K:=by
 rw[jM _ rfl rfl]
 simp only[aop,c,Option.bind_some,Bool.false_eq_true,if_false]
 rw[if_pos ⟨b,hp⟩,jN]
 exact h
end
theorem jW {b:Type}{f:b→List V}{k:Nat}(e:∀a,(f a).length=k) (l:List b) {i o:Nat}(h:i<l.length) (c:o<k):(l.flatMap f)[i*k+o]? = (f l[i])[o]?:=by
 have:=Xb e l i h
 rw[← this,List.getElem?_take,if_pos c,List.getElem?_drop]
def numsTo (p:Txn'→Bool) (l:List Txn'):Nat→List Int
 | 0=>[]
 | i+1=>numsTo p l i++(match l[i]? with|some t=>if p t then [(i:Int)] else []|none=>[])
theorem JG (p:Txn'→Bool) (l:List Txn'):∀i,(numsTo p l i).length≤i
 | 0=>by simp[numsTo]
 | i+1=>by
  have:=JG p l i
  simp only[numsTo,List.length_append]
  split
  ·split <;> simp <;> omega
  ·simp;omega
def intC (n:Int):List V:=[.int .i64 n]
theorem Jc {p:Txn'→Bool}{l:List Txn'}{i:Nat}(h:i<l.length):numsTo p l (i+1)=numsTo p l i++(if p l[i] then [(i:Int)] else []):=by
 simp[numsTo,List.getElem?_eq_getElem h]
@[simp] theorem jC (n:Int):(intC n).length=1:=rfl
theorem jet {n u m:Nat}{st:St}{cs:List V}(a:st.df=[]) (h:st.tm n=.sl (some (u,1)) false m cs) (b:st.tk u=true):ja7 [.t n] (.ret,st)=some (.sl (some (0,1)) false m cs):=by
 simp only[ja7,Ym a,Yg a,if_true,List.mapM_cons,List.mapM_nil,jp,h]
 simp[Yv,JJ,XS,jn,V.toks,V.tok,nodup,b]
def X1 (t:Txn'):Bool:=t.f == 3
def XT (h:Hist'):List Int:=numsTo X1 h.ts h.ts.length
theorem ev59 (h:Hist') (t:h.ts.length≤1000):Ev E 59 [.agg (histC h)] (.sl (some (0,1)) false (XT h).length ((XT h).flatMap intC)):=by
 refine jP (af:=F59) rfl ?_
 simp[F59,histC]
 refine jS (cs:=[]) rfl rfl rfl ?_
 simp
 refine YT (n:=h.ts.length) (fun k s=>∃i u,k=h.ts.length - i∧i≤h.ts.length∧s.df=[]∧s.fb=0∧s.ro=0∧s.tm 1=.ptr 2 0 0∧s.ob 2=some ⟨0,.cells (histC h)⟩∧s.tm 4=.int .i64 i∧s.tk u=true ∧
  s.tm 3=.sl (some (u,1)) false (numsTo X1 h.ts i).length ((numsTo X1 h.ts i).flatMap intC))
  ⟨0,128,by simp[numsTo,histC]⟩ ?_
 rintro k s ⟨i,u,rfl,r,m,c,b,g,j,e,o,l⟩
 by_cases a:i<h.ts.length
 ·simp[g,j,e,j0,histC,a,j4 j8,jW j8,ji]
  have q:=JG X1 h.ts i
  cases p:h.ts[i].f == 3
  ·simp[e]
   refine⟨h.ts.length - (i+1),zO,i+1,⟨rfl,zO,m,c,b,g,by simpa[histC] using j,by rw[jm zO zO];simp,u,o,?_⟩⟩
   rw[l,Jc a,X1,p]
   simp
  ·simp[l,e]
   refine jS (cs:=[.int .i64 i]) (by simp[j5]) rfl rfl ?_
   simp
   refine Jz (u:=u) (nl:=false) (n:=(numsTo X1 h.ts i).length) (cs:=(numsTo X1 h.ts i).flatMap intC) (ys:=[.int .i64 i]) zS (by simp[JC,o]) (by simp[jI]) zS (by rw[j7 jC]) zD rfl (by simp;omega) (by simp;omega) ?_
   simp[e,m,c,b,g,j,histC]
   refine⟨h.ts.length - (i+1),zO,i+1,rfl,zO,by rw[jm zO zO];simp,Or.inl ?_⟩
   rw[Jc a,X1,p]
   simp[intC]
 ·have:i=h.ts.length:=zO
  subst this
  simp[g,j,e,j0,histC]
  exact jet (u:=u) (by simpa using m) (by simp[l,XT]) (by simpa using o)
def W2 (r:Int):Bool:=decide (48≤r) && decide (r≤57)
theorem ev267 (r:Int):Ev E 267 [.int .i32 r] (.bool (W2 r)):=by
 refine jP (af:=F267) rfl ?_
 unfold W2
 by_cases h:48≤r
 ·simp[F267,h]
  exact j3 rfl zS rfl
 ·simp[F267,h]
  exact j3 rfl zS rfl
theorem ev320 (r:Int):Ev E 320 [.int .i32 r] (.bool false):=by
 refine jP (af:=F320) rfl ?_
 simp[F320]
 exact j3 rfl zS rfl
def ju8 (a b:Int):Int:=if a<b then -1 else if b<a then 1 else 0
theorem ev304 (a b:Int):Ev E 304 [.int .i32 a,.int .i32 b] (.int .i64 (ju8 a b)):=by
 refine jP (af:=F304) rfl ?_
 simp[F304]
 refine XX (vs:=[.int .i32 a]) zS rfl rfl (ev320 a) ?_
 simp
 refine XX (vs:=[.int .i32 b]) zS rfl rfl (ev320 b) ?_
 unfold ju8
 by_cases h:a<b
 ·simp[h]
  exact j3 rfl zS rfl
 ·by_cases c:b<a
  ·simp[h,c]
   exact j3 rfl zS rfl
  ·simp[h,c]
   exact j3 rfl zS rfl
def jbc (r:Int):List V:=[.int .i32 r]
@[simp] theorem jdm (n:Int):(jbc n).length=1:=rfl
def jj9:List Int→List Int→Int
 | [],[]=>0
 | [],_::_=>-1
 | _::_,[]=>1
 | a::x,b::y=>if ju8 a b=0 then jj9 x y else ju8 a b
theorem jk4 (l:List Int) {i:Nat}(h:i<l.length):(l.flatMap jbc)[i]? = some (.int .i32 l[i]):=by
 have:=jW (f:=jbc) jdm l h (by decide:0<1)
 rw[Nat.mul_one,Nat.add_zero]at this
 rw[this]
 rfl
theorem ev293 (nx q:Bool) (x y:List Int) (t:x.length≤140737488355328):Ev E 293 [slOf nx jbc x,slOf q jbc y] (.int .i64 (jj9 x y)):=by
 refine jP (af:=F293) rfl ?_
 simp[F293]
 refine YT (n:=x.length) (fun k s=>∃i,k=x.length - i∧i≤x.length∧i≤y.length∧s.df=[]∧s.tm 0=slOf nx jbc x∧s.tm 1=slOf q jbc y∧s.tm 9=slOf nx jbc x∧s.tm 10=.int .i64 x.length∧s.tm 11=.int .i64 i∧jj9 (x.drop i) (y.drop i)=jj9 x y)
  ⟨0,zS⟩ ?_
 rintro k s ⟨i,rfl,u,r,j,m,h,o,c,f,b⟩
 by_cases d:i<x.length
 ·rw[List.drop_eq_getElem_cons d]at b
  by_cases a:i<y.length
  ·rw[List.drop_eq_getElem_cons a,jj9]at b
   have g:¬ (y.length:Int)≤i:=zO
   simp[h,o,c,f,d,g,a,j4 jdm,jk4 x d,jk4 y a]
   refine XX (vs:=[.int .i32 x[i],.int .i32 y[i]]) zS rfl rfl (ev304 x[i] y[i]) ?_
   by_cases l:ju8 x[i] y[i]=0
   ·rw[if_pos l]at b
    simp[l,m,h,o,c,f,j]
    exact⟨x.length - (i+1),zO,i+1,rfl,zO,zO,by rw[jm zO zO];simp,b⟩
   ·rw[if_neg l]at b
    have p:(ju8 x[i] y[i] != 0)=true:=by simpa using l
    simp[p]
    exact j3 (by simpa using j) (by simp[b]) rfl
  ·have g:(y.length:Int)≤i:=zO
   have e:y.drop i=[]:=List.drop_of_length_le zO
   rw[e,jj9]at b
   simp[h,o,c,f,d,g,j4 jdm,jk4 x d]
   exact j3 (by simpa using j) (by simp[b]) rfl
 ·have:i=x.length:=zO
  subst this
  rw[List.drop_length]at b
  by_cases a:x.length<y.length
  ·rw[List.drop_eq_getElem_cons a,jj9]at b
   simp[m,h,c,f,a]
   exact j3 (by simpa using j) (by simp[b]) rfl
  ·have e:y.drop x.length=[]:=List.drop_of_length_le zO
   rw[e,jj9]at b
   simp[m,h,c,f,a]
   exact j3 (by simpa using j) (by simp[b]) rfl
def J9 (s:List UInt8):List Int:=(XG s s.length 0).map fun r=>((r:Nat):Int)
theorem jnj {E:Env}{Yf:YF}{st:St}{ub:Nat}{K:St→Nat→Prop}{d:Option Nat}{nm:Bool}{x:A}{s:List UInt8}(b:eval E st.tm x=.str s) (c:(J9 s).length≤70368744177664)
 (h:WW K st d ub { v:=.sl (some (ub,1)) false (J9 s).length ((J9 s).flatMap jbc),add:=[ub] }):j6 E Yf ⟨d,.runesOfStr x,none,nm⟩ st ub K:=by
 have e:(XG s s.length 0).map (fun r=>V.int .i32 (r:Nat))=(J9 s).flatMap jbc:=by
  rw[J9,List.flatMap_map]
  generalize XG s s.length 0=l
  induction l with
  | nil=>rfl
  | cons r l a=>simp only[List.map_cons,List.flatMap_cons,a,jbc];rfl
 have f:(J9 s).length=(XG s s.length 0).length:=by simp[J9]
 rw[jM _ rfl rfl]
 simp only[aop,b]
 rw[← f,if_pos c,jN,e]
 exact h
theorem ev280 (a b:List UInt8) (d:(J9 a).length≤1000000) (c:(J9 b).length≤1000000):Ev E 280 [.str a,.str b] (.int .i64 (jj9 (J9 a) (J9 b))):=by
 refine jP (af:=F280) rfl ?_
 simp[F280]
 refine jnj (s:=a) zS zO ?_
 simp
 refine jnj (s:=b) zS zO ?_
 simp
 refine XX (vs:=[.sl (some (128,1)) false (J9 a).length ((J9 a).flatMap jbc),.sl (some (256,1)) false (J9 b).length ((J9 b).flatMap jbc)]) zS rfl rfl (ev293 false false _ _ zO) ?_
 simp
 exact j3 rfl zS rfl
theorem ev251 (a b:List UInt8) (d:(J9 a).length≤1000000) (c:(J9 b).length≤1000000):Ev E 251 [.str a,.str b] (.bool (decide (jj9 (J9 a) (J9 b)<0))):=by
 refine jP (af:=F251) rfl ?_
 simp[F251]
 refine XX (vs:=[.str a,.str b]) zS rfl rfl (ev280 a b d c) ?_
 simp
 exact j3 rfl zS rfl
def j1g (s:List UInt8):Bool:=s == [98,101,103,105,110] || s == [114,101,97,100] || s == [119,114,105,116,101] || s == [111,107] || s == [102,97,105,108] || s == [105,110,102,111] || s == [110,105,108]
theorem ev264 (s:List UInt8):Ev E 264 [.str s] (.bool (j1g s)):=by
 refine jP (af:=F264) rfl ?_
 unfold j1g
 generalize a:(s == [98,101,103,105,110])=b1
 generalize b:(s == [114,101,97,100])=b2
 generalize c:(s == [119,114,105,116,101])=b3
 generalize d:(s == [111,107])=b4
 generalize e:(s == [102,97,105,108])=b5
 generalize f:(s == [105,110,102,111])=b6
 generalize g:(s == [110,105,108])=b7
 cases b1
 ·cases b2
  ·cases b3
   ·cases b4
    ·cases b5
     ·cases b6
      ·cases b7
       all_goals (simp[F264,a,b,c,d,e,f,g];exact j3 rfl zS rfl)
      ·simp[F264,a,b,c,d,e,f];exact j3 rfl zS rfl
     ·simp[F264,a,b,c,d,e];exact j3 rfl zS rfl
    ·simp[F264,a,b,c,d];exact j3 rfl zS rfl
   ·simp[F264,a,b,c];exact j3 rfl zS rfl
  ·simp[F264,a,b];exact j3 rfl zS rfl
 ·simp[F264,a];exact j3 rfl zS rfl
theorem ev235 (s:List UInt8):Ev E 235 [.str s] (.bool (j1g s)):=by
 refine jP (af:=F235) rfl ?_
 unfold j1g
 generalize a:(s == [98,101,103,105,110])=b1
 generalize b:(s == [114,101,97,100])=b2
 generalize c:(s == [119,114,105,116,101])=b3
 generalize d:(s == [111,107])=b4
 generalize e:(s == [102,97,105,108])=b5
 generalize f:(s == [105,110,102,111])=b6
 generalize g:(s == [110,105,108])=b7
 cases b1
 ·cases b2
  ·cases b3
   ·cases b4
    ·cases b5
     ·cases b6
      ·cases b7
       all_goals (simp[F235,a,b,c,d,e,f,g];exact j3 rfl zS rfl)
      ·simp[F235,a,b,c,d,e,f];exact j3 rfl zS rfl
     ·simp[F235,a,b,c,d,e];exact j3 rfl zS rfl
    ·simp[F235,a,b,c,d];exact j3 rfl zS rfl
   ·simp[F235,a,b,c];exact j3 rfl zS rfl
  ·simp[F235,a,b];exact j3 rfl zS rfl
 ·simp[F235,a];exact j3 rfl zS rfl
def jbf (r:Int):Bool:=decide (127<r) || (r == 95) || W2 r || (decide (97≤r) && decide (r≤122)) || (decide (65≤r) && decide (r≤90))
theorem ev266 (r:Int):Ev E 266 [.int .i32 r] (.bool (jbf r)):=by
 refine jP (af:=F266) rfl ?_
 unfold jbf
 by_cases c:127<r
 ·simp[F266,c]
  exact j3 rfl zS rfl
 cases e:(r == 95)
 ·simp[F266,c,e]
  refine XX (vs:=[.int .i32 r]) zS rfl rfl (ev267 r) ?_
  cases g:W2 r
  ·by_cases a:97≤r
   ·by_cases d:r≤122
    ·simp[a,d]
     exact j3 rfl zS rfl
    ·have b:65≤r:=zO
     have f:¬ r≤90:=zO
     simp[a,d,b,f]
     exact j3 rfl zS rfl
   ·by_cases b:65≤r
    ·simp[a,b]
     exact j3 rfl zS rfl
    ·simp[a,b]
     exact j3 rfl zS rfl
  ·simp
   exact j3 rfl zS rfl
 ·simp[F266,c,e]
  exact j3 rfl zS rfl
def YI (n b0 b1 b2 b3:Nat):Nat × Nat :=
 if b0<128 then (1,b0)
 else if 194≤b0∧b0≤223 then (if n<2∨b1<128∨191<b1 then (1,65533) else (2,64*(b0 - 192)+b1 - 128))
 else if 224≤b0∧b0≤239 then (if n<3∨b1<128∨191<b1∨b2<128∨191<b2 then (1,65533) else
  if 64*(64*(b0 - 224)+b1 - 128)+b2 - 128<2048∨55296≤64*(64*(b0 - 224)+b1 - 128)+b2 - 128∧64*(64*(b0 - 224)+b1 - 128)+b2 - 128≤57343 then (1,65533) else (3,64*(64*(b0 - 224)+b1 - 128)+b2 - 128))
 else if 240≤b0∧b0≤244 then (if n<4∨b1<128∨191<b1∨b2<128∨191<b2∨b3<128∨191<b3 then (1,65533) else
  if 64*(64*(64*(b0 - 240)+b1 - 128)+b2 - 128)+b3 - 128<65536∨1114111<64*(64*(64*(b0 - 240)+b1 - 128)+b2 - 128)+b3 - 128 then (1,65533) else (4,64*(64*(64*(b0 - 240)+b1 - 128)+b2 - 128)+b3 - 128))
 else (1,65533)
theorem jrr (n a b1 b2 b3:Nat) (_:1≤n) (c:a<256) (d:b1<256) (e:b2<256) (b:b3<256):YI n a b1 b2 b3=((Lib.decodeN n a b1 b2 b3).2,(Lib.decodeN n a b1 b2 b3).1):=by
 unfold YI Lib.decodeN
 repeat' split
 all_goals first|(exfalso;omega)|(apply Prod.ext <;> simp only <;> omega)
theorem dlt_t {a b:Int}(h:a<b):decide (a<b)=true:=decide_eq_true h
theorem jp4 {a b:Int}(h:b≤a):decide (a<b)=false:=decide_eq_false zO
theorem jp5 {a b:Int}(h:a≤b):decide (a≤b)=true:=decide_eq_true h
theorem jfg {a b:Int}(h:b<a):decide (a≤b)=false:=decide_eq_false zO
theorem Xr {s:List UInt8}{i:Nat}{x:Int}(kk:IntKind) (h:i<s.length) (a:x=(i:Int)):Wr (.str s) (.int kk x)=some (.int .u8 ((s.getD i 0).toNat:Nat)):=by
 subst a
 simp[Wr,List.getElem?_eq_getElem h,List.getD]
theorem zJ {p:Prop}(h:p:=by(simp;unfold YI;(repeat' split) <;> omega)):p:=h
theorem ev273 (s:List UInt8) (S:s.length≤1000000) (p:Nat) (h:p<s.length):Ev E 273 [.str s,.int .i64 p]
 (.tup [.int .i64 ((YI (s.length - p) (s.getD p 0).toNat (s.getD (p+1) 0).toNat (s.getD (p+2) 0).toNat (s.getD (p+3) 0).toNat).1:Nat),
  .int .i64 ((YI (s.length - p) (s.getD p 0).toNat (s.getD (p+1) 0).toNat (s.getD (p+2) 0).toNat (s.getD (p+3) 0).toNat).2:Nat)]):=by
 have K:=Xr (s:=s) (x:=(p:Int)) .i64 h rfl
 have b:p+1<s.length→_:=fun h=>Xr (s:=s) (x:=(p:Int)+1) .i64 h zS
 have e:p+2<s.length→_:=fun h=>Xr (s:=s) (x:=(p:Int)+2) .i64 h zS
 have n:p+3<s.length→_:=fun h=>Xr (s:=s) (x:=(p:Int)+3) .i64 h zS
 have T:=(s.getD p 0).toNat_lt
 have Q:=(s.getD (p+1) 0).toNat_lt
 have N:=(s.getD (p+2) 0).toNat_lt
 have X:=(s.getD (p+3) 0).toNat_lt
 generalize (s.getD p 0).toNat=d at *
 generalize (s.getD (p+1) 0).toNat=i at *
 generalize (s.getD (p+2) 0).toNat=k at *
 generalize (s.getD (p+3) 0).toNat=o at *
 have H:IntKind.i64.wrap (d:Int)=d:=jm zO zO
 have U:IntKind.i64.wrap (i:Int)=i:=jm zO zO
 have M:IntKind.i64.wrap (k:Int)=k:=jm zO zO
 have O:IntKind.i64.wrap (o:Int)=o:=jm zO zO
 refine jP (af:=F273) rfl ?_
 simp[F273,K,XO,H]
 by_cases a1:(d:Int)<128
 ·simp[a1]
  exact JW rfl (by simp[YI,show d<128 by omega]) (by simp[YI,show d<128 by omega]) rfl rfl
 have a:∀x:Int,-1000000000≤x→x≤1000000000→IntKind.i64.wrap x=x:=fun x h P=>jm zO zO
 by_cases J:194≤(d:Int)∧(d:Int)≤223
 ·obtain⟨D,z⟩:=J
  by_cases m:(s.length:Int)<(p:Int)+2
  ·simp(disch:=omega) [a1,D,z,m,a,jfg,List.getElem?_cons_zero]
   exact JW rfl zJ zJ rfl rfl
  have b:=b zO
  simp(disch:=omega) [a1,D,z,m,a,jfg,List.getElem?_cons_zero]
  refine jc6 2 ?_
  by_cases c:(i:Int)<128
  ·simp(disch:=omega) [b,c,a,XO,List.getElem?_cons_zero]
   exact JW rfl zJ zJ rfl rfl
  by_cases B:191<(i:Int)
  ·simp(disch:=omega) [b,c,B,a,XO,List.getElem?_cons_zero]
   exact JW rfl zJ zJ rfl rfl
  simp(disch:=omega) [b,c,B,a,XO,List.getElem?_cons_zero,jp4,jfg]
  exact JW rfl zJ zJ rfl rfl
 by_cases L:224≤(d:Int)∧(d:Int)≤239
 ·obtain⟨u,y⟩:=L
  by_cases m:(s.length:Int)<(p:Int)+3
  ·simp(disch:=omega) [a1,u,y,m,a,jp5,jfg,List.getElem?_cons_zero]
   exact JW rfl zJ zJ rfl rfl
  have b:=b zO
  have e:=e zO
  simp(disch:=omega) [a1,u,y,m,a,jp5,jfg,List.getElem?_cons_zero]
  refine jc6 3 ?_
  by_cases c:(i:Int)<128
  ·simp(disch:=omega) [b,c,a,XO,List.getElem?_cons_zero]
   exact JW rfl zJ zJ rfl rfl
  by_cases f:191<(i:Int)
  ·simp(disch:=omega) [b,c,f,a,XO,List.getElem?_cons_zero]
   exact JW rfl zJ zJ rfl rfl
  by_cases g:(k:Int)<128
  ·simp(disch:=omega) [b,e,c,f,g,a,XO,List.getElem?_cons_zero]
   exact JW rfl zJ zJ rfl rfl
  by_cases j:191<(k:Int)
  ·simp(disch:=omega) [b,e,c,f,g,j,a,XO,List.getElem?_cons_zero]
   exact JW rfl zJ zJ rfl rfl
  by_cases l:64*(64*((d:Int) - 224)+i - 128)+k - 128<2048
  ·simp(disch:=omega) [b,e,c,f,g,j,l,a,XO,List.getElem?_cons_zero]
   exact JW rfl zJ zJ rfl rfl
  by_cases r:55296≤64*(64*((d:Int) - 224)+i - 128)+k - 128
  ·by_cases G:64*(64*((d:Int) - 224)+i - 128)+k - 128≤57343
   ·simp(disch:=omega) [b,e,c,f,g,j,l,r,G,a,jp4,XO,List.getElem?_cons_zero]
    exact JW rfl zJ zJ rfl rfl
   simp(disch:=omega) [b,e,c,f,g,j,l,r,G,a,jp4,XO,List.getElem?_cons_zero]
   exact JW rfl zJ zJ rfl rfl
  simp(disch:=omega) [b,e,c,f,g,j,l,r,a,jp4,XO,List.getElem?_cons_zero]
  exact JW rfl zJ zJ rfl rfl
 by_cases I:240≤(d:Int)∧(d:Int)≤244
 ·obtain⟨v,t⟩:=I
  by_cases m:(s.length:Int)<(p:Int)+4
  ·simp(disch:=omega) [a1,v,t,m,a,jp5,jfg,List.getElem?_cons_zero]
   exact JW rfl zJ zJ rfl rfl
  have b:=b zO
  have e:=e zO
  have n:=n zO
  simp(disch:=omega) [a1,v,t,m,a,jp5,jfg,List.getElem?_cons_zero]
  refine jc6 4 ?_
  by_cases c:(i:Int)<128
  ·simp(disch:=omega) [b,c,a,XO,List.getElem?_cons_zero]
   exact JW rfl zJ zJ rfl rfl
  by_cases f:191<(i:Int)
  ·simp(disch:=omega) [b,c,f,a,XO,List.getElem?_cons_zero]
   exact JW rfl zJ zJ rfl rfl
  by_cases g:(k:Int)<128
  ·simp(disch:=omega) [b,e,c,f,g,a,XO,List.getElem?_cons_zero]
   exact JW rfl zJ zJ rfl rfl
  by_cases j:191<(k:Int)
  ·simp(disch:=omega) [b,e,c,f,g,j,a,XO,List.getElem?_cons_zero]
   exact JW rfl zJ zJ rfl rfl
  by_cases w:(o:Int)<128
  ·simp(disch:=omega) [b,e,n,c,f,g,j,w,a,XO,List.getElem?_cons_zero]
   exact JW rfl zJ zJ rfl rfl
  by_cases F:191<(o:Int)
  ·simp(disch:=omega) [b,e,n,c,f,g,j,w,F,a,XO,List.getElem?_cons_zero]
   exact JW rfl zJ zJ rfl rfl
  by_cases l:64*(64*(64*((d:Int) - 240)+i - 128)+k - 128)+o - 128<65536
  ·simp(disch:=omega) [b,e,n,c,f,g,j,w,F,l,a,XO,List.getElem?_cons_zero]
   exact JW rfl zJ zJ rfl rfl
  by_cases r:1114111<64*(64*(64*((d:Int) - 240)+i - 128)+k - 128)+o - 128
  ·simp(disch:=omega) [b,e,n,c,f,g,j,w,F,l,r,a,XO,List.getElem?_cons_zero]
   exact JW rfl zJ zJ rfl rfl
  simp(disch:=omega) [b,e,n,c,f,g,j,w,F,l,r,a,jp5,jfg,XO,List.getElem?_cons_zero]
  exact JW rfl zJ zJ rfl rfl
 have q:d<194∨244<d:=zO
 rcases q with q|q
 ·simp(disch:=omega) [a1,jfg]
  exact JW rfl zJ zJ rfl rfl
 ·simp(disch:=omega) [a1,jp5,jfg]
  exact JW rfl zJ zJ rfl rfl
@[simp] theorem j5a (s:List UInt8):(V.str s).strip=.str s:=rfl
@[simp] theorem j0x (s:List UInt8):(V.str s).pureTop=true:=rfl
@[simp] theorem jza (s:List UInt8):(V.str s).pureLeaf=true:=rfl
@[simp] theorem sl_strip (t:Option (Nat × Nat)) (nl:Bool) (n:Nat) (cs:List V):(V.sl t nl n cs).strip=.sl none nl n cs:=rfl
@[simp] theorem j5j (t:Option (Nat × Nat)) (nl:Bool) (n:Nat) (cs:List V):(V.sl t nl n cs).strip1=.sl none nl n cs:=rfl
@[simp] theorem j4k (nl:Bool) (n:Nat) (cs:List V):(V.sl none nl n cs).pureTop=true:=rfl
@[simp] theorem j0z (nl:Bool) (n:Nat) (cs:List V):(V.sl none nl n cs).pureLeaf=true:=rfl
def rU (s:List UInt8) (p:Nat):Nat:=(Utf8.decode ⟨s.toArray⟩ p).1
def rW (s:List UInt8) (p:Nat):Nat:=(Utf8.decode ⟨s.toArray⟩ p).2
theorem jsa {s:List UInt8}{p:Nat}(h:p<s.length):YI (s.length - p) (s.getD p 0).toNat (s.getD (p+1) 0).toNat (s.getD (p+2) 0).toNat (s.getD (p+3) 0).toNat=(rW s p,rU s p):=by
 rw[jrr _ _ _ _ _ zO (s.getD p 0).toNat_lt (s.getD (p+1) 0).toNat_lt (s.getD (p+2) 0).toNat_lt (s.getD (p+3) 0).toNat_lt]
 unfold rW rU
 rw[Lib.decode_N]
theorem one_w (n a b1 b2 b3:Nat) (b:1≤n):1≤(YI n a b1 b2 b3).1∧(YI n a b1 b2 b3).1≤n:=by
 unfold YI
 repeat' split
 all_goals (simp only;omega)
theorem j1o (n a b1 b2 b3:Nat) (b:b1<256) (_:b2<256) (h:(YI n a b1 b2 b3).2=65533):(YI n a b1 b2 b3).1=1∨(YI n a b1 b2 b3).1=3:=by
 revert h
 unfold YI
 repeat' split
 all_goals (intro h;simp at h ⊢;try omega)
theorem jiw {s:List UInt8}{p:Nat}(h:p<s.length):1≤rW s p∧p+rW s p≤s.length:=by
 have:=one_w (s.length - p) (s.getD p 0).toNat (s.getD (p+1) 0).toNat (s.getD (p+2) 0).toNat (s.getD (p+3) 0).toNat zO
 rw[jsa h]at this
 simp only at this
 omega
theorem j5w {s:List UInt8}{p:Nat}(h:p<s.length) (a:rU s p=65533):rW s p=1∨rW s p=3:=by
 have:=j1o (s.length - p) (s.getD p 0).toNat (s.getD (p+1) 0).toNat (s.getD (p+2) 0).toNat (s.getD (p+3) 0).toNat (s.getD (p+1) 0).toNat_lt (s.getD (p+2) 0).toNat_lt
 rw[jsa h]at this
 exact this a
def RN (s:List UInt8) (p:Nat):List Int:=(XG s (s.length - p) p).map fun r=>((r:Nat):Int)
theorem jdl (s:List UInt8):J9 s=RN s 0:=rfl
theorem jdk (s:List UInt8):∀ (b a p:Nat),s.length≤p+b→s.length≤p+a→XG s b p=XG s a p
 | 0,0,_,_,_=>rfl
 | 0,a+1,p,h,_=>by
  unfold XG
  rw[if_neg zO]
 | b+1,0,p,_,h=>by
  unfold XG
  rw[if_neg zO]
 | b+1,a+1,p,h,h'=>by
  unfold XG
  by_cases c:p<s.length
  ·rw[if_pos c,if_pos c]
   have:=(jiw c).1
   unfold rW at this
   rw[jdk s b a _ zO zO]
  ·rw[if_neg c,if_neg c]
theorem juy {s:List UInt8}{p:Nat}(h:p<s.length):RN s p=(rU s p:Int)::RN s (p+rW s p):=by
 have a:=jiw h
 unfold RN
 obtain⟨n,b⟩:∃n,s.length - p=n+1:=⟨s.length - p - 1,zO⟩
 rw[b]
 conv=>lhs;unfold XG
 rw[if_pos h,List.map_cons]
 congr 2
 exact jdk s _ _ _ (by unfold rW at a;omega) (by unfold rW at a ⊢;omega)
theorem j0d {s:List UInt8}{p:Nat}(h:s.length≤p):RN s p=[]:=by
 unfold RN
 rw[show s.length - p=0 by omega]
 rfl
theorem jfr (s:List UInt8):∀ (b p:Nat),(XG s b p).length≤b
 | 0,_=>Nat.le_refl _
 | b+1,p=>by
  unfold XG
  split
  ·have:=jfr s b (p+(Utf8.decode ⟨s.toArray⟩ p).2)
   simp only[List.length_cons]
   omega
  ·simp
theorem Y8 (s:List UInt8):(J9 s).length≤s.length:=by
 rw[jdl,RN,List.length_map]
 exact jfr s _ _
def VD (s:List UInt8) (p:Nat):Bool:=Lib.validD (s.drop p)
theorem jyq (s:List UInt8) (p:Nat):Lib.decodeL (s.drop p)=(rU s p,rW s p):=Lib.decodeL_drop ⟨s.toArray⟩ p
theorem j39 {s:List UInt8}{p:Nat}(h:p<s.length):VD s p=if rU s p=65533∧rW s p=1 then false else VD s (p+rW s p):=by
 have a:s.drop p≠[]:=fun e=>by have:=congrArg List.length e;rw[List.length_drop]at this;simp at this;omega
 unfold VD
 rw[Lib.validD_step _ a,jyq]
 simp only[List.drop_drop]
theorem VD_end {s:List UInt8}{p:Nat}(h:s.length≤p):VD s p=true:=by
 unfold VD
 rw[List.drop_of_length_le h]
 rfl
theorem jz5 (s:List UInt8) (a:s.length≤1000000) (p:Nat) (h:p<s.length):Ev E 273 [.str s,.int .i64 p] (.tup [.int .i64 (rW s p:Nat),.int .i64 (rU s p:Nat)]):=by
 have:=ev273 s a p h
 rw[jsa h]at this
 exact this
theorem j3h (s:List UInt8) (o:s.length≤1000000):Ev E 234 [.str s] (.sl (some (0,1)) false (J9 s).length ((J9 s).flatMap intC)):=by
 refine jP (af:=F234) rfl ?_
 simp[F234]
 refine jS (cs:=[]) rfl rfl rfl ?_
 simp
 refine YU (n:=s.length) [(3,24)] (fun k e=>∃p u a,k=s.length - p∧p≤s.length∧e.tm 4=.int .i64 (p:Nat)∧J9 s=a++RN s p∧e.tm 3=.sl (some (u,1)) false a.length (a.flatMap intC)∧e.tk u=true) rfl rfl
  ⟨0,64,[],by simp[jdl]⟩ ?_
 rintro k e ⟨p,u,a,rfl,r,g,b,h,j⟩ f
 have i:e.tm 0=.str s:=by rw[f.t 0 zS];simp
 have m:a.length≤1000000:=by
  have l:=congrArg List.length b
  have q:=Y8 s
  rw[List.length_append]at l
  omega
 by_cases c:p<s.length
 ·have v:=jiw c
  simp[g,i,c]
  refine jR (jz5 s o p c) zS rfl rfl ?_
  simp[h]
  refine jS (cs:=[.int .i64 (rU s p)]) (by simp[j5]) rfl rfl ?_
  simp
  refine Jz (u:=u) (nl:=false) (n:=a.length) (cs:=a.flatMap intC) (ys:=[.int .i64 (rU s p)]) zS (by simp[JC,j]) (by simp[jI]) zS (by rw[j7 jC]) zD rfl (by simp;omega) (by simp;omega) ?_
  simp[g]
  refine⟨s.length - (p+rW s p),zO,p+rW s p,zO,zO,by rw[jm zO zO];simp,_,a++[(rU s p:Int)],?_,?_,Or.inl rfl⟩
  ·rw[b,juy c];simp
  ·simp[intC]
 ·have:p=s.length:=zO
  subst this
  simp[g,i]
  rw[j0d zR,List.append_nil]at b
  exact jet (u:=u) (by simp[f.d]) (by simp[h,b]) (by simpa using j)
theorem ev236 (s:List UInt8) (j:s.length≤1000000):Ev E 236 [.str s] (.bool (Lib.validD s)):=by
 refine jP (af:=F236) rfl ?_
 simp[F236]
 refine YU (n:=s.length) [(2,24)] (fun k g=>∃p,k=s.length - p∧p≤s.length∧g.tm 3=.int .i64 (p:Nat)∧Lib.validD s=VD s p) rfl rfl
  ⟨0,by simp[VD]⟩ ?_
 rintro k g ⟨p,rfl,m,c,b⟩ f
 have i:g.tm 0=.str s:=by rw[f.t 0 zS];simp
 by_cases a:p<s.length
 ·have l:=jiw a
  rw[j39 a]at b
  simp[c,i,a]
  refine jR (jz5 s j p a) zS rfl rfl ?_
  by_cases e:rU s p=65533
  ·rcases j5w a e with h1|h1
   ·rw[if_pos ⟨e,h1⟩]at b
    simp[e,h1]
    exact j3 (by simp[f.d]) (by simp[b]) rfl
   ·rw[if_neg zO]at b
    simp[e,h1,c]
    exact⟨s.length - (p+3),zO,p+3,rfl,zO,by rw[jm zO zO];simp,by rw[b,h1]⟩
  ·rw[if_neg zO]at b
   have h:((rU s p:Int) == 65533)=false:=by rw[beq_eq_false_iff_ne];omega
   simp[h,c]
   exact⟨s.length - (p+rW s p),zO,p+rW s p,rfl,zO,by rw[jm zO zO];simp,b⟩
 ·have:p=s.length:=zO
  subst this
  rw[VD_end zR]at b
  simp[c,i]
  exact j3 (by simp[f.d]) (by simp[b]) rfl
theorem JQ {b:Type}{f:b→List V}{k:Nat}(c:∀a,(f a).length=k) (t:Option (Nat × Nat)) (nl:Bool) (l:List b) (kk:IntKind) {i:Nat}(h:i<l.length):JK k (.sl t nl l.length (l.flatMap f)) (.int kk i)=some (.eptr (l.flatMap f) (i*k)):=by
 simp only[Ws,j7 c]
 rw[if_pos (by simp;omega)]
 rfl
theorem jl0 {b:Type}{f:b→List V}{k:Nat}(c:∀a,(f a).length=k) (t:Option (Nat × Nat)) (nl:Bool) (l:List b) (kk:IntKind) (h:0<l.length):JK k (.sl t nl l.length (l.flatMap f)) (.int kk 0)=some (.eptr (l.flatMap f) 0):=by
 have:=JQ c t nl l kk h
 simpa using this
theorem JP (l:List Int) {i:Nat}(h:i<l.length):(l.flatMap intC)[i]? = some (.int .i64 l[i]):=by
 have:=jW (f:=intC) jC l h (by decide:0<1)
 rw[Nat.mul_one,Nat.add_zero]at this
 rw[this]
 rfl
theorem jfl (l:List (List UInt8)) {i:Nat}(h:i<l.length):(l.flatMap Jj)[i]? = some (.str l[i]):=by
 have:=jW (f:=Jj) Y6 l h (by decide:0<1)
 rw[Nat.mul_one,Nat.add_zero]at this
 rw[this]
 rfl
theorem jh {i N:Nat}(h:i<N) (a:N≤1000000000):IntKind.i64.wrap ((i:Int)+1)=(i:Int)+1:=jm zO zO
theorem dne_t {a b:Int}(h:a<b∨b<a):(a != b)=true:=by simp;omega
theorem dne_f {a b:Int}(h:a=b):(a != b)=false:=by simp[h]
def jem:List Int→Bool
 | []=>false
 | c::_=>W2 c
def nmOk (l:List Int):Bool:=decide (1≤l.length) && decide (l.length≤20) && !(jem l) && l.all jbf
def jhe (s:List UInt8):Bool:=!j1g s && Lib.validD s && nmOk (J9 s)
def jhi (a b:List UInt8):Bool:=decide (jj9 (J9 a) (J9 b)<0)
def jpj (t:List (List UInt8)) (j:Nat):Bool:=jhe (t.getD j []) && (j == 0 || jhi (t.getD (j - 1) []) (t.getD j []))
def ju1 (t:List (List UInt8)):Bool:=(List.range t.length).all (jpj t)
theorem jt2 {l:List Int}(h:0<l.length):jem l=W2 l[0]:=by
 cases l with
 | nil=>simp at h
 | cons a l=>rfl
theorem all_at {b:Type}{p:b→Bool}{l:List b}(h:∀j (a:j<l.length),p l[j]=true):l.all p=true:=by
 rw[List.all_eq_true]
 intro x c
 obtain⟨j,a,rfl⟩:=List.getElem_of_mem c
 exact h j a
theorem jmb {a:Type}{p:a→Bool}{l:List a}{j:Nat}(b:j<l.length) (h:p l[j]=false):l.all p=false:=by
 rw[List.all_eq_false]
 exact⟨_,List.getElem_mem b,by rw[h];decide⟩
theorem jo8 (c:Int):(jbf c=false∧(c<48∨(57<c∧c<65)∨(90<c∧c<95)∨c=96∨(122<c∧c<128)))∨(jbf c=true∧((48≤c∧c≤57)∨(65≤c∧c≤90)∨c=95∨(97≤c∧c≤122)∨127<c)):=by
 simp[jbf,W2]
 omega
def L126:C:=.seq (.seq (.region [
 ⟨(some 37),.mov (.t 4),none,false⟩,
 ⟨(some 38),.mov (.t 3),none,false⟩,
 ⟨(some 39),.lenSl (.t 38),none,false⟩,
 ⟨(some 40),.bin .lss (.t 37) (.t 39),none,false⟩])
 (.cond (.t 40) (.skip)
  (.exit 0)))
 (.seq (.block 1 (.seq (.region [
  ⟨(some 43),.mov (.t 3),none,false⟩,
  ⟨(some 44),.mov (.t 4),none,false⟩,
  ⟨(some 45),.idxSl 1 (.t 43) (.t 44),none,false⟩,
  ⟨(some 46),.load none (.t 45),none,false⟩,
  ⟨(some 5),.mov (.t 46),none,false⟩])
  (.seq (.region [
   ⟨(some 47),.mov (.t 5),none,false⟩,
   ⟨(some 48),.bin .lss (.t 47) (.c (.int .i64 128)),none,false⟩,
   ⟨(some 49),.mov (.t 48),none,false⟩,
   ⟨(some 50),.mov (.t 5),(some (49,true)),false⟩,
   ⟨(some 51),.bin .neq (.t 50) (.c (.int .i64 95)),(some (49,true)),false⟩,
   ⟨(some 52),.pick (.t 49) (.t 51) (.c (.bool false)),none,false⟩,
   ⟨(some 53),.mov (.t 52),none,false⟩,
   ⟨(some 54),.mov (.t 5),(some (53,true)),false⟩,
   ⟨(some 55),.bin .lss (.t 54) (.c (.int .i64 48)),(some (53,true)),false⟩,
   ⟨(some 56),.mov (.t 55),(some (53,true)),false⟩,
   ⟨(some 57),.mov (.t 5),(some (56,false)),false⟩,
   ⟨(some 58),.bin .gtr (.t 57) (.c (.int .i64 57)),(some (56,false)),false⟩,
   ⟨(some 59),.pick (.t 56) (.c (.bool true)) (.t 58),(some (53,true)),false⟩,
   ⟨(some 60),.pick (.t 53) (.t 59) (.c (.bool false)),none,false⟩,
   ⟨(some 61),.mov (.t 60),none,false⟩,
   ⟨(some 62),.mov (.t 5),(some (61,true)),false⟩,
   ⟨(some 63),.bin .lss (.t 62) (.c (.int .i64 65)),(some (61,true)),false⟩,
   ⟨(some 64),.mov (.t 63),(some (61,true)),false⟩,
   ⟨(some 65),.mov (.t 5),(some (64,false)),false⟩,
   ⟨(some 66),.bin .gtr (.t 65) (.c (.int .i64 90)),(some (64,false)),false⟩,
   ⟨(some 67),.pick (.t 64) (.c (.bool true)) (.t 66),(some (61,true)),false⟩,
   ⟨(some 68),.pick (.t 61) (.t 67) (.c (.bool false)),none,false⟩,
   ⟨(some 69),.mov (.t 68),none,false⟩,
   ⟨(some 70),.mov (.t 5),(some (69,true)),false⟩,
   ⟨(some 71),.bin .lss (.t 70) (.c (.int .i64 97)),(some (69,true)),false⟩,
   ⟨(some 72),.mov (.t 71),(some (69,true)),false⟩,
   ⟨(some 73),.mov (.t 5),(some (72,false)),false⟩,
   ⟨(some 74),.bin .gtr (.t 73) (.c (.int .i64 122)),(some (72,false)),false⟩,
   ⟨(some 75),.pick (.t 72) (.c (.bool true)) (.t 74),(some (69,true)),false⟩,
   ⟨(some 76),.pick (.t 69) (.t 75) (.c (.bool false)),none,false⟩])
   (.cond (.t 76) (.seq (.region [
    ⟨(some 2),.mov (.c (.bool false)),none,false⟩])
    (.ret))
    (.skip)))))
  (.region [
   ⟨(some 41),.mov (.t 4),none,false⟩,
   ⟨(some 42),.bin .add (.t 41) (.c (.int .i64 1)),none,false⟩,
   ⟨(some 4),.mov (.t 42),none,false⟩]))
theorem ev172 (s:List UInt8) (y:s.length≤1000000):Ev E 172 [.str s] (.bool (jhe s)):=by
 refine jP (af:=F172) rfl ?_
 simp[F172]
 refine jR (j3h s y) zS rfl rfl ?_
 have H:=Y8 s
 unfold jhe nmOk
 generalize J:J9 s=l at *
 simp[Xg,toksRes,V.toks,V.tok,jbo,jbn,Y3]
 by_cases a1:(l.length:Int)<1
 ·simp[a1]
  exact j3 rfl (by simp;omega) rfl
 by_cases a2:20<(l.length:Int)
 ·simp[a1,a2]
  exact j3 rfl (by simp;omega) rfl
 have k:0<l.length:=zO
 have r:=jt2 k
 simp[a1,a2]
 refine jR (ev235 s) zS rfl rfl ?_
 cases b1:j1g s
 case true=>
  simp
  exact j3 rfl zS rfl
 simp
 refine jR (ev236 s y) zS rfl rfl ?_
 cases b2:Lib.validD s
 case false=>
  simp
  exact j3 rfl zS rfl
 have e:∀ {g:St},g.df=[]→g.tm 4=.int .i64 0→g.tm 3=.sl (some (128,1)) false l.length (l.flatMap intC)→jem l=false →
  wpC E Xx (.loop L126) g (kBlk 0 (jqj E Xx (.seq (.region [⟨(some 2),.mov (.c (.bool true)),none,false⟩]) (.ret)) (jzr [.t 2] (.bool (!false && true && (decide (1≤l.length) && decide (l.length≤20) && !(jem l) && l.all jbf)))))):=by
  intro g z p D F
  refine j9 [(2,2),(4,5),(37,76)] l.length (fun i s=>s.tm 4=.int .i64 i∧∀j (o:j<l.length),j<i→jbf l[j]=true) rfl rfl ⟨by simp[p],fun j _ h=>by omega⟩ ?_
  rintro i s I ⟨p,B⟩ f
  have v:s.tm 3=.sl (some (128,1)) false l.length (l.flatMap intC):=by rw[f.t 3 zS];simp[D]
  by_cases b:i<l.length
  ·have G:=jh b zO
   obtain⟨c,n⟩:∃c,l[i]=c:=⟨_,rfl⟩
   have a:=JP l b
   rw[n]at a
   rcases jo8 c with⟨w,q⟩|⟨w,q⟩
   ·rcases q with q|q|q|q|q
    all_goals
     simp(disch:=omega) [L126,p,v,b,JQ jC,a,dlt_t,jp4,dne_t]
     exact j3 (by simp[f.d,z]) (by simp[jmb b (n▸w)]) rfl
   ·rcases q with q|q|q|q|q
    all_goals
     simp(disch:=omega) [L126,p,v,b,JQ jC,a,dlt_t,jp4,dne_t,dne_f,G]
     intro j o x
     rcases Nat.lt_succ_iff_lt_or_eq.1 x with h|rfl
     ·exact B j o h
     ·exact n▸w
  ·have:i=l.length:=zO
   subst this
   simp[L126,p,v]
   exact j3 (by simp[f.d,z]) (by simp[F,all_at (fun j o=>B j o o)];omega) rfl
 obtain⟨c,n⟩:∃c,l[0]=c:=⟨_,rfl⟩
 have a:=JP l k
 rw[n]at r a
 by_cases m:48≤c
 ·by_cases u:c≤57
  ·simp[jl0 jC _ _ l _ k,a,m,u]
   exact j3 rfl (by simp[r,W2,m,u]) rfl
  simp[jl0 jC _ _ l _ k,a,m,u]
  exact e rfl zS zS (by simp[r,W2,u])
 simp[jl0 jC _ _ l _ k,a,m]
 exact e rfl zS zS (by simp[r,W2,m])
theorem j3s (a b:Int):(ju8 a b<0)=(a<b):=by
 unfold ju8
 split
 ·simp[*]
 ·split <;> simp[*]
theorem cmpI_z {a b:Int}:ju8 a b=0 ↔ a=b:=by
 unfold ju8
 split
 ·simp;omega
 ·split
  ·simp;omega
  ·simp;omega
theorem ev173 (a b:List UInt8) (B:a.length≤1000000) (G:b.length≤1000000):Ev E 173 [.str a,.str b] (.bool (jhi a b)):=by
 refine jP (af:=F173) rfl ?_
 simp[F173]
 refine jR (j3h a B) zS rfl rfl ?_
 have D:=Y8 a
 have H:=Y8 b
 unfold jhi
 simp[Xg,toksRes,V.toks,V.tok,jbo,jbn,Y3]
 refine jR (j3h b G) zS rfl rfl ?_
 generalize J9 a=x at *
 generalize J9 b=y at *
 simp[Xg,toksRes,V.toks,V.tok,jbo,jbn,Y3]
 refine j9 [(4,4),(7,7),(12,41)] x.length (fun i s=>s.tm 7=.int .i64 i∧i≤y.length∧jj9 (x.drop i) (y.drop i)=jj9 x y) rfl rfl ⟨zS,zS,zS⟩ ?_
 rintro i s J ⟨p,I,k⟩ f
 have o:s.tm 5=.sl (some (128,1)) false x.length (x.flatMap intC):=by rw[f.t 5 zS];simp
 have n:s.tm 6=.sl (some (256,1)) false y.length (y.flatMap intC):=by rw[f.t 6 zS];simp
 have r:s.df=[]:=by rw[f.d];simp
 clear f
 by_cases j:i<x.length
 ·by_cases g:i<y.length
  ·have F:=jh j zO
   rw[List.drop_eq_getElem_cons j,List.drop_eq_getElem_cons g,jj9]at k
   obtain⟨c,w⟩:∃c,x[i]=c:=⟨_,rfl⟩
   obtain⟨d,u⟩:∃d,y[i]=d:=⟨_,rfl⟩
   have m:=JP x j
   have l:=JP y g
   rw[w]at k m
   rw[u]at k l
   by_cases q:c=d
   ·rw[if_pos (cmpI_z.2 q)]at k
    simp[p,o,n,j,g,JQ jC,m,l,q,F]
    exact⟨zO,k⟩
   ·rw[if_neg (fun h=>q (cmpI_z.1 h))]at k
    have z:(c != d)=true:=by simpa using q
    simp[p,o,n,j,g,JQ jC,m,l,z]
    exact j3 (by simp[r]) (by simp[← k,j3s]) rfl
  ·have e:y.drop i=[]:=List.drop_of_length_le zO
   rw[List.drop_eq_getElem_cons j,e,jj9]at k
   have v:¬ x.length<y.length:=zO
   simp[p,o,n,j,g]
   exact j3 (by simp[r]) (by simp[← k,v]) rfl
 ·have:i=x.length:=zO
  subst this
  rw[List.drop_length]at k
  simp[p,o,n]
  by_cases g:x.length<y.length
  ·rw[List.drop_eq_getElem_cons g,jj9]at k
   exact j3 (by simp[r]) (by simp[← k,g]) rfl
  ·rw[List.drop_of_length_le (by omega:y.length≤x.length),jj9]at k
   exact j3 (by simp[r]) (by simp[← k,g]) rfl
theorem jy9 {t:List (List UInt8)}(h:∀j,j<t.length→jpj t j=true):ju1 t=true:=List.all_eq_true.2 fun j a=>h j (List.mem_range.1 a)
theorem jmn {t:List (List UInt8)}{j:Nat}(a:j<t.length) (h:jpj t j=false):ju1 t=false:=List.all_eq_false.2 ⟨j,List.mem_range.2 a,by rw[h];decide⟩
theorem JA {a:Type}{l:List a}{i:Nat}{d:a}(h:i<l.length):l.getD i d=l[i]:=by simp[List.getD,h]
theorem j4y {i:Nat}(h:0<i) (a:i≤1000000000):IntKind.i64.wrap ((i:Int) - 1)=((i - 1:Nat):Int):=by
 rw[jm zO zO];omega
theorem ev110 (nl:Bool) (t:List (List UInt8)) (J:t.length≤1000000) (z:∀s∈t,s.length≤1000000):Ev E 110 [slOf nl Jj t] (.bool (ju1 t)):=by
 refine jP (af:=F110) rfl ?_
 simp[F110]
 refine j9 [(2,4),(5,32)] t.length (fun i s=>s.tm 3=.int .i64 i∧∀j,j<t.length→j<i→jpj t j=true) rfl rfl ⟨zS,fun j _ h=>by omega⟩ ?_
 rintro i s I ⟨n,D⟩ f
 have w:s.tm 0=slOf nl Jj t:=by rw[f.t 0 zS];simp
 have y:s.df=[]:=by rw[f.d];simp
 clear f
 by_cases a:i<t.length
 ·have G:=jh a zO
  have b:jpj t i=(jhe t[i] && (i == 0 || jhi (t.getD (i - 1) []) t[i])):=by unfold jpj;rw[JA a]
  have l:=z _ (List.getElem_mem a)
  obtain⟨c,F⟩:∃c,t[i]=c:=⟨_,rfl⟩
  have k:=jfl t a
  rw[F]at b k l
  have jbx:jpj t i=true→∀j,j<t.length→j<i+1→jpj t j=true:=fun h j m x=>by
   rcases Nat.lt_succ_iff_lt_or_eq.1 x with h'|rfl
   ·exact D j m h'
   ·exact h
  simp[n,w,a,j4 Y6,k]
  refine JU (ev172 c l) zS rfl rfl ?_
  cases r:jhe c
  ·rw[r]at b
   simp
   exact j3 (by simp[y]) (by simp[jmn a b]) rfl
  ·rw[r]at b
   by_cases B:i=0
   ·subst B
    simp[n]
    exact⟨a,zD,fun j m h=>by subst h;exact jbx (by simp[b]) 0 m zO⟩
   ·have o:0<i:=zO
    have v:=j4y o zO
    have g:i - 1<t.length:=zO
    have p:=z _ (List.getElem_mem g)
    have u:=jfl t g
    rw[JA g]at b
    obtain⟨e,H⟩:∃e,t[i - 1]=e:=⟨_,rfl⟩
    rw[H]at b u p
    simp[n,w,o,v,g,j4 Y6,u,a,k]
    refine JU (ev173 e c p l) zS rfl rfl ?_
    cases q:jhi e c
    ·simp
     exact j3 (by simp[y]) (by simp[jmn a (by simp[b,q,B])]) rfl
    ·simp[n,G]
     exact⟨a,jbx (by simp[b,q])⟩
 ·have:i=t.length:=zO
  subst this
  simp[n,w]
  exact j3 (by simp[y]) (by simp[jy9 (fun j m=>D j m m)]) rfl
theorem jic {a b:Nat}(c:a<2 ^ 64) (d:b<2 ^ 64):Y5 .or (.int .u64 (a:Int)) (.int .u64 (b:Int))=some (.int .u64 ((a ||| b:Nat):Int)):=by
 have h:a ||| b<2 ^ 64:=Nat.or_lt_two_pow c d
 simp only[Y5,XN,if_true]
 have e:(BitVec.ofInt IntKind.u64.bits (a:Int) ||| BitVec.ofInt IntKind.u64.bits (b:Int)).toNat=a ||| b:=by
  rw[BitVec.toNat_or,BitVec.ofInt_natCast,BitVec.ofInt_natCast,BitVec.toNat_ofNat,BitVec.toNat_ofNat]
  rw[show IntKind.u64.bits=64 from rfl,Nat.mod_eq_of_lt c,Nat.mod_eq_of_lt d]
 rw[e,IntKind.wrap_u64]
 congr 2
 omega
theorem jkv {a b:Nat}{m:Int}(d:m=(b:Int)) (f:a<2 ^ 64) (c:b<2 ^ 64):Y5 .and (.int .u64 (a:Int)) (.int .u64 m)=some (.int .u64 ((a &&& b:Nat):Int)):=by
 subst d
 have h:a &&& b<2 ^ 64:=Nat.and_lt_two_pow _ c
 simp only[Y5,XN,if_true]
 have e:(BitVec.ofInt IntKind.u64.bits (a:Int) &&& BitVec.ofInt IntKind.u64.bits (b:Int)).toNat=a &&& b:=by
  rw[BitVec.toNat_and,BitVec.ofInt_natCast,BitVec.ofInt_natCast,BitVec.toNat_ofNat,BitVec.toNat_ofNat]
  rw[show IntKind.u64.bits=64 from rfl,Nat.mod_eq_of_lt f,Nat.mod_eq_of_lt c]
 rw[e,IntKind.wrap_u64]
 congr 2
 omega
theorem jqy {a k:Nat}{m:Int}(c:m=(k:Int)) (b:k≤64) (h:a*2 ^ k<2 ^ 64):Y5 .shl (.int .u64 (a:Int)) (.int .u64 m)=some (.int .u64 ((a*2 ^ k:Nat):Int)):=by
 subst c
 simp only[Y5,Q5]
 rw[if_neg zO]
 simp only[Int.toNat_natCast,show IntKind.u64.bits=64 from rfl,Nat.min_eq_left b]
 rw[IntKind.wrap_u64]
 congr 2
 have:((a:Int)*2 ^ k)=((a*2 ^ k:Nat):Int):=zS
 rw[this]
 omega
theorem JL {l:List UInt8}{kk:IntKind}{k:Nat}{x:Int}(a:x=(k:Int)) (h:k≤l.length):XR (some (.int kk x)) none (.str l)=some (.str (l.drop k)):=by
 subst a
 simp[XR,Jt,h]
def wd (l:List UInt8):Nat:=Lib.leNat (l.take 8)
theorem j52 (a b k:Nat) (h:a<2 ^ k):a ||| b*2 ^ k=a+b*2 ^ k:=by
 have:=Nat.shiftLeft_add_eq_or_of_lt h b
 rw[Nat.shiftLeft_eq]at this
 rw[Nat.or_comm,← this,Nat.add_comm]
theorem wd_8 (a b c d e f g h:UInt8) (t:List UInt8):wd (a::b::c::d::e::f::g::h::t) =
 a.toNat+b.toNat*2 ^ 8+c.toNat*2 ^ 16+d.toNat*2 ^ 24+e.toNat*2 ^ 32+f.toNat*2 ^ 40+g.toNat*2 ^ 48+h.toNat*2 ^ 56:=by
 simp only[wd,List.take,Lib.leNat]
 omega
theorem jdg (x:UInt8) (k:Nat) {m:Int}(c:m=(k:Int)) (d:k≤56):∃B:Nat,B=x.toNat*2 ^ k∧Y5 .shl (.int .u64 (x.toNat:Int)) (.int .u64 m)=some (.int .u64 (B:Int)):=by
 have b:=x.toNat_lt
 have a:x.toNat*2 ^ k<2 ^ 64:=by
  calc x.toNat*2 ^ k<2 ^ 8*2 ^ k:=Nat.mul_lt_mul_of_pos_right b (Nat.two_pow_pos k)
   _=2 ^ (8+k):=(Nat.pow_add ..).symm
   _≤2 ^ 64:=Nat.pow_le_pow_right zD zO
 exact⟨_,rfl,jqy c zO a⟩
theorem jlc {O B:Nat}(k c:Nat) (h:O<2 ^ k) (b:B=c*2 ^ k) (d:c<2 ^ 8) (f:k≤56):∃a:Nat,a=O+B∧a<2 ^ (k+8)∧Y5 .or (.int .u64 (O:Int)) (.int .u64 (B:Int))=some (.int .u64 (a:Int)):=by
 have g:B+2 ^ k≤2 ^ (k+8):=by
  rw[b,Nat.pow_add,Nat.mul_comm (2 ^ k),← Nat.succ_mul]
  exact Nat.mul_le_mul_right _ d
 have e:2 ^ (k+8)≤2 ^ 64:=Nat.pow_le_pow_right zD zO
 refine⟨O+B,rfl,zO,?_⟩
 rw[jic zO zO,b,j52 _ _ _ h]
theorem jl4 (l:List UInt8) (hl:8≤l.length):Ev E 289 [.str l] (.int .u64 (wd l)):=by
 match l,hl with
 | a::b::c::d::e::f::g::h::t,_=>
  rw[wd_8]
  have l0:=a.toNat_lt
  have l1:=b.toNat_lt
  have l2:=c.toNat_lt
  have l3:=d.toNat_lt
  have l4:=e.toNat_lt
  have S:=f.toNat_lt
  have l6:=g.toNat_lt
  have l7:=h.toNat_lt
  refine jP (af:=F289) rfl ?_
  have cv:∀x:UInt8,XO .u64 (.int .u8 (x.toNat:Int))=some (.int .u64 (x.toNat:Int)):=fun x=>by
   have:=x.toNat_lt
   simp only[XO,IntKind.wrap_u64]
   congr 2
   omega
  have j:∀ (s:List UInt8) (i:Nat) (x:UInt8) (y:Int),y=(i:Int)→s[i]? = some x→Wr (.str s) (.int .i64 y)=some (.int .u8 (x.toNat:Int)):=by
   intro s i x y hy hx
   subst hy
   simp[Wr,hx]
  have i0:=j (a::b::c::d::e::f::g::h::t) 0 a 0 rfl rfl
  have P:=j (a::b::c::d::e::f::g::h::t) 1 b 1 rfl rfl
  have i2:=j (a::b::c::d::e::f::g::h::t) 2 c 2 rfl rfl
  have i3:=j (a::b::c::d::e::f::g::h::t) 3 d 3 rfl rfl
  have i4:=j (a::b::c::d::e::f::g::h::t) 4 e 4 rfl rfl
  have i5:=j (a::b::c::d::e::f::g::h::t) 5 f 5 rfl rfl
  have i6:=j (a::b::c::d::e::f::g::h::t) 6 g 6 rfl rfl
  have i7:=j (a::b::c::d::e::f::g::h::t) 7 h 7 rfl rfl
  obtain⟨B1,o,s1⟩:=jdg b 8 (m:=8) rfl zD
  obtain⟨B2,p,s2⟩:=jdg c 16 (m:=16) rfl zD
  obtain⟨B3,u,s3⟩:=jdg d 24 (m:=24) rfl zD
  obtain⟨B4,r,s4⟩:=jdg e 32 (m:=32) rfl zD
  obtain⟨B5,v,Z⟩:=jdg f 40 (m:=40) rfl zD
  obtain⟨B6,n,s6⟩:=jdg g 48 (m:=48) rfl zD
  obtain⟨B7,k,s7⟩:=jdg h 56 (m:=56) rfl zD
  obtain⟨O1,H,K,o1⟩:=jlc (O:=a.toNat) 8 _ l0 o l1 zD
  obtain⟨Q,D,M,o2⟩:=jlc (O:=O1) 16 _ K p l2 zD
  obtain⟨O3,z,N,o3⟩:=jlc (O:=Q) 24 _ M u l3 zD
  obtain⟨O4,F,J,o4⟩:=jlc (O:=O3) 32 _ N r l4 zD
  obtain⟨O5,G,I,T⟩:=jlc (O:=O4) 40 _ J v S zD
  obtain⟨X,B,L,o6⟩:=jlc (O:=O5) 48 _ I n l6 zD
  obtain⟨O7,w,q7,U⟩:=jlc (O:=X) 56 _ L k l7 zD
  have q:O7=a.toNat+b.toNat*2 ^ 8+c.toNat*2 ^ 16+d.toNat*2 ^ 24+e.toNat*2 ^ 32+f.toNat*2 ^ 40+g.toNat*2 ^ 48+h.toNat*2 ^ 56:=zO
  rw[← q]
  clear q o p u r v n k w q7 B L G I F J z N D M H K
  simp[F289,cv,i0,P,i2,i3,i4,i5,i6,i7,s1,o1,s2,o2,s3,o3,s4,o4,Z,T,s6,o6,s7,U]
  exact j3 rfl zS rfl
theorem j3f (tm:Nat→V):eval E tm (.g 2)=.eptr utf8first 0:=rfl
theorem j3e (tm:Nat→V):eval E tm (.g 3)=.eptr accR 0:=rfl
theorem jye (b:Nat) (h:b<256):utf8first[b]? = some (.int .u8 (Lib.firstT b:Nat)):=by
 unfold utf8first
 rw[List.getElem?_map,List.getElem?_range h]
 rfl
theorem acc_at (y:Nat) (h:y<16):(accR.drop (y*2)).take 2=[.int .u8 (Lib.accLo y:Nat),.int .u8 (Lib.accHi y:Nat)]:=by
 have:y=0∨y=1∨y=2∨y=3∨y=4∨y=5∨y=6∨y=7∨y=8∨y=9∨y=10∨y=11∨y=12∨y=13∨y=14∨y=15:=zO
 rcases this with h|h|h|h|h|h|h|h|h|h|h|h|h|h|h|h <;> subst h <;> rfl
theorem and7:∀x:Fin 256,IntKind.u8.wrap ((BitVec.ofInt IntKind.u8.bits ((x.val:Nat):Int) &&& BitVec.ofInt IntKind.u8.bits 7).toNat:Int)=((x.val % 8:Nat):Int):=by decide +kernel
theorem j0q (x:Nat) (h:x<256):Y5 .and (.int .u8 (x:Int)) (.int .u8 7)=some (.int .u8 ((x % 8:Nat):Int)):=by
 simp only[Y5,XN,if_true]
 have:=and7 ⟨x,h⟩
 simp only at this
 rw[this]
theorem j0p (x:Nat) (_:x<256):Y5 .shr (.int .u8 (x:Int)) (.int .u64 4)=some (.int .u8 ((x / 16:Nat):Int)):=by
 simp only[Y5,Q5]
 rw[if_neg zD]
 have e:min (Int.toNat 4) IntKind.u8.bits=4:=by decide
 rw[e]
 congr 2
 rw[Int.fdiv_eq_ediv_of_nonneg _ zD]
 omega
theorem jyc (b:Nat):Lib.firstT b<256:=by
 unfold Lib.firstT
 repeat' split
 all_goals omega
abbrev M8:Nat:=9259542123273814144
theorem jkt (l:List UInt8):wd l<2 ^ 64:=by
 have h:=Lib.leNat_lt (l.take 8)
 have b:(256:Nat) ^ (l.take 8).length≤256 ^ 8:=Nat.pow_le_pow_right zD (by rw[List.length_take];omega)
 have a:(256:Nat) ^ 8=2 ^ 64:=by decide
 unfold wd
 omega
theorem W7 {l:List UInt8}(a:8≤l.length) (h:wd l &&& M8=0):Lib.validD l=Lib.validD (l.drop 8):=by
 have e:(l.take 8).length=8:=by rw[List.length_take];omega
 have:=(Lib.leNat_mask (l.take 8)).1 (by rw[e,Lib.maskN8];exact h)
 exact Lib.validD_ascii 8 l this
theorem juv (w:Nat) (a:w<2 ^ 64):∃q:Nat,q=w &&& M8∧Y5 .and (.int .u64 (w:Int)) (.int .u64 9259542123273814144)=some (.int .u64 (q:Int)) :=
 ⟨_,rfl,jkv (b:=M8) rfl a zD⟩
theorem jm3 {a b:Nat}(d:a<2 ^ 64) (c:b<2 ^ 64):∃q:Nat,q=a ||| b∧q<2 ^ 64∧Y5 .or (.int .u64 (a:Int)) (.int .u64 (b:Int))=some (.int .u64 (q:Int)) :=
 ⟨_,rfl,Nat.or_lt_two_pow d c,jic d c⟩
theorem beq0 (q:Nat):((q:Int) == 0)=decide (q=0):=by
 rw[Bool.eq_iff_iff];simp
theorem ev265 (s:List UInt8) (_:s.length≤1000000):Ev E 265 [.str s] (.bool (Lib.validD s)):=by
 refine jP (af:=F265) rfl ?_
 simp[F265]
 refine YU (n:=s.length) [(0,200)] (fun k st=>∃l,k=l.length∧st.tm 0=.str l∧Lib.validD s=Lib.validD l∧l.length≤s.length) rfl rfl ⟨s,zS⟩ ?_
 rintro k st ⟨l,rfl,p,hv,hl⟩ f
 have I:st.df=[]:=by rw[f.d];simp
 have fb:st.fb=0:=by rw[f.b];simp
 have fr:st.ro=0:=by rw[f.r];simp
 clear f
 cases J:l with
 | nil=>
  subst J
  simp[p]
  exact j3 (by simp[I]) (by simp[hv];rfl) rfl
 | cons b t=>
 rw[← J]
 have h3:l.length=t.length+1:=by rw[J];rfl
 have g8:=b.toNat_lt
 have P:l.getD 0 0=b:=by rw[J];rfl
 have i0:Wr (.str l) (.int .i64 0)=some (.int .u8 (b.toNat:Int)):=by
  have:=Xr (s:=l) (i:=0) (x:=0) .i64 zO rfl
  rw[P]at this
  exact this
 have M:0<l.length:=zO
 by_cases hb:(b.toNat:Int)<128
 ·have c5:Lib.validD s=Lib.validD t:=by rw[hv,J,Lib.validD_cons b t zO]
  have d1:XR (some (.int .i64 1)) none (.str l)=some (.str t):=by
   rw[JL (k:=1) (x:=1) rfl (by omega:1≤l.length),J];rfl
  by_cases h8:8<(t.length:Int)
  ·obtain⟨w,hw⟩:∃w,wd t=w:=⟨_,rfl⟩
   have f9:w<2 ^ 64:=hw▸jkt t
   obtain⟨q,hq,aq⟩:=juv w f9
   simp[p,M,i0,hb,d1,h8]
   refine jR (jl4 t zO) zS rfl rfl ?_
   rw[hw]
   by_cases c4:q=0
   ·have S:Lib.validD s=Lib.validD (t.drop 8):=by rw[c5,W7 zO (by rw[hw,← hq,c4])]
    have d8:XR (some (.int .i64 8)) none (.str t)=some (.str (t.drop 8)):=JL (k:=8) rfl zO
    have g7:(t.drop 8).length=t.length - 8:=List.length_drop
    obtain⟨u,hu⟩:∃u,t.drop 8=u:=⟨_,rfl⟩
    rw[hu]at S d8 g7
    simp[aq,c4,d8]
    by_cases f8:16<(u.length:Int)
    ·have f7:XR (some (.int .i64 8)) none (.str u)=some (.str (u.drop 8)):=JL (k:=8) rfl zO
     have d4:XR (some (.int .i64 16)) none (.str u)=some (.str (u.drop 16)):=JL (k:=16) rfl zO
     have g4:(u.drop 8).length=u.length - 8:=List.length_drop
     obtain⟨w1,c3⟩:∃w,wd u=w:=⟨_,rfl⟩
     obtain⟨w2,b9⟩:∃w,wd (u.drop 8)=w:=⟨_,rfl⟩
     obtain⟨o,ho,g1,oo⟩:=jm3 (c3▸jkt u) (b9▸jkt (u.drop 8))
     obtain⟨q2,g3,f5⟩:=juv o g1
     have e1:=jl4 u zO
     have H:=jl4 (u.drop 8) zO
     rw[c3]at e1
     rw[b9]at H
     obtain⟨u8,U⟩:∃x,u.drop 8=x:=⟨_,rfl⟩
     rw[U]at f7 H g4
     simp[f8]
     refine JU e1 zS rfl rfl ?_
     simp[f7]
     refine JU H zS rfl rfl ?_
     by_cases N:q2=0
     ·have d6:=(Lib.or_mask w1 w2 M8).1 (by rw[← ho,← g3,N])
      have b6:Lib.validD s=Lib.validD (u.drop 16):=by
       rw[S,W7 zO (by rw[c3];exact d6.1),U,W7 zO (by rw[← U,b9];exact d6.2),← U,List.drop_drop]
      have d9:(u.drop 16).length=u.length - 16:=List.length_drop
      obtain⟨v,g2⟩:∃x,u.drop 16=x:=⟨_,rfl⟩
      rw[g2]at d4 b6 d9
      simp[oo,f5,N,d4]
      refine YU (n:=v.length) [(0,0),(42,64)] (fun k st=>∃x,k=x.length∧st.tm 0=.str x∧Lib.validD s=Lib.validD x∧x.length≤v.length) rfl rfl ⟨v,by simp[b6]⟩ ?_
      rintro k h4 ⟨x,rfl,g0,gv,gl⟩ _
      by_cases d3:32<(x.length:Int)
      ·have d2:XR (some (.int .i64 8)) none (.str x)=some (.str (x.drop 8)):=JL (k:=8) rfl zO
       have b0:XR (some (.int .i64 16)) none (.str x)=some (.str (x.drop 16)):=JL (k:=16) rfl zO
       have b7:XR (some (.int .i64 24)) none (.str x)=some (.str (x.drop 24)):=JL (k:=24) rfl zO
       have b5:XR (some (.int .i64 32)) none (.str x)=some (.str (x.drop 32)):=JL (k:=32) rfl zO
       have c7:(x.drop 32).length=x.length - 32:=List.length_drop
       obtain⟨y0,Z⟩:∃w,wd x=w:=⟨_,rfl⟩
       obtain⟨y1,X⟩:∃w,wd (x.drop 8)=w:=⟨_,rfl⟩
       obtain⟨y2,a0⟩:∃w,wd (x.drop 16)=w:=⟨_,rfl⟩
       obtain⟨y3,T⟩:∃w,wd (x.drop 24)=w:=⟨_,rfl⟩
       obtain⟨p1,e6,e9,h1⟩:=jm3 (Z▸jkt x) (X▸jkt (x.drop 8))
       obtain⟨p2,e8,d5,f1⟩:=jm3 (a0▸jkt (x.drop 16)) (T▸jkt (x.drop 24))
       obtain⟨p3,c8,f4,c6⟩:=jm3 e9 d5
       obtain⟨q3,e0,f6⟩:=juv p3 f4
       have e1:=jl4 x zO
       have H:=jl4 (x.drop 8) (by rw[List.length_drop];omega)
       have e3:=jl4 (x.drop 16) (by rw[List.length_drop];omega)
       have e4:=jl4 (x.drop 24) (by rw[List.length_drop];omega)
       rw[Z]at e1
       rw[X]at H
       rw[a0]at e3
       rw[T]at e4
       have b8:q3=0→Lib.validD s=Lib.validD (x.drop 32):=by
        intro hz
        rw[e0,c8,Lib.or_mask,e6,e8,Lib.or_mask,Lib.or_mask]at hz
        obtain⟨⟨z0,z1⟩,z2,z3⟩:=hz
        rw[gv,W7 zO (by rw[Z];exact z0),W7 (by rw[List.length_drop];omega) (by rw[X];exact z1),List.drop_drop,
         W7 (by rw[List.length_drop];omega) (by rw[a0];exact z2),List.drop_drop,W7 (by rw[List.length_drop];omega) (by rw[T];exact z3),List.drop_drop]
       clear Z X a0 T e6 e8 c8 e0
       obtain⟨x8,g6⟩:∃z,x.drop 8=z:=⟨_,rfl⟩
       obtain⟨h5,f0⟩:∃z,x.drop 16=z:=⟨_,rfl⟩
       obtain⟨h6,e7⟩:∃z,x.drop 24=z:=⟨_,rfl⟩
       obtain⟨c9,d0⟩:∃z,x.drop 32=z:=⟨_,rfl⟩
       rw[g6]at d2 H
       rw[f0]at b0 e3
       rw[e7]at b7 e4
       rw[d0]at b5 c7 b8
       simp[g0,d3]
       refine JU e1 zS rfl rfl ?_
       simp[d2,g0]
       refine JU H zS rfl rfl ?_
       simp[b0,h1,g0]
       refine JU e3 zS rfl rfl ?_
       simp[b7,g0]
       refine JU e4 zS rfl rfl ?_
       by_cases O:q3=0
       ·simp[f1,c6,f6,O,b5,g0]
        exact⟨c9.length,zO,c9,rfl,rfl,b8 O,zO⟩
       ·simp[f1,c6,f6,beq0,O,g0]
        exact⟨x.length,zO,x,rfl,rfl,gv,zO⟩
      ·simp[g0,d3]
       exact⟨x.length,zO,x,rfl,rfl,gv,zO⟩
     ·simp[oo,f5,beq0,N]
      exact⟨u.length,zO,u,rfl,rfl,S,zO⟩
    ·simp[f8]
     exact⟨u.length,zO,u,rfl,rfl,S,zO⟩
   ·simp[aq,beq0,c4]
    exact⟨t.length,zO,t,rfl,rfl,c5,zO⟩
  ·simp[p,M,i0,hb,d1,h8]
   exact⟨t.length,zO,t,rfl,rfl,c5,zO⟩
 ·have a:=Lib.validD_lead l (by rw[J];simp) (by rw[P];omega)
  rw[P]at a
  rw[← hv]at a
  obtain⟨x,hx⟩:∃x,Lib.firstT b.toNat=x:=⟨_,rfl⟩
  have Q:x<256:=hx▸jyc _
  have d7:=jye b.toNat b.toNat_lt
  have h2:Yk 256 1 (.eptr utf8first 0) (.int .u8 (b.toNat:Int))=some (.eptr utf8first b.toNat):=by
   simp only[Yk]
   rw[if_pos zO]
   simp
  have a7:=j0q x Q
  have s4:=j0p x Q
  obtain⟨y,hy⟩:∃y,x / 16=y:=⟨_,rfl⟩
  obtain⟨g,g5⟩:∃y,x % 8=y:=⟨_,rfl⟩
  have e5:y<16:=zO
  have g9:Yk 16 2 (.eptr accR 0) (.int .u8 (y:Int))=some (.eptr accR (y*2)):=by
   simp only[Yk]
   rw[if_pos zO]
   simp
  have ld2:∀ob,Yw ob (some 2) (.eptr accR (y*2))=some (.agg [.int .u8 (Lib.accLo y:Nat),.int .u8 (Lib.accHi y:Nat)]):=fun ob=>by
   rw[jbk,Q9,acc_at y e5,if_pos (by show y*2+2≤32;omega)]
  have cv:XO .i64 (.int .u8 (g:Int))=some (.int .i64 (g:Int)):=by simp only[XO];rw[jm zO zO]
  rw[hx]at a d7
  rw[g5]at a7 a
  rw[hy]at s4 a
  have B:1<l.length→_:=fun h=>Xr (s:=l) (i:=1) (x:=1) .i64 h rfl
  have L:2<l.length→_:=fun h=>Xr (s:=l) (i:=2) (x:=2) .i64 h rfl
  have i3:3<l.length→_:=fun h=>Xr (s:=l) (i:=3) (x:=3) .i64 h rfl
  generalize (l.getD 1 0).toNat=b1 at *
  generalize (l.getD 2 0).toNat=b2 at *
  generalize (l.getD 3 0).toNat=b3 at *
  generalize Lib.accLo y=lo at *
  generalize Lib.accHi y=m at *
  simp[p,M,i0,hb,j3f,h2,d7,a7,cv,s4,j3e,g9,ld2,j0,fb,fr,j5]
  by_cases F:g=2
  ·by_cases D:(l.length:Int)<2
   ·have c:Lib.checkN l.length b1 b2 b3 g lo m=none:=by unfold Lib.checkN;simp[F];omega
    rw[c]at a
    simp[F,p,D]
    exact j3 (by simp[I]) (by simp[a]) rfl
   have B:=B zO
   by_cases G:(b1:Int)<lo
   ·have c:Lib.checkN l.length b1 b2 b3 g lo m=none:=by unfold Lib.checkN;simp[F];omega
    rw[c]at a
    simp[F,p,j0,D,B,G]
    exact j3 (by simp[I]) (by simp[a]) rfl
   by_cases K:(m:Int)<b1
   ·have c:Lib.checkN l.length b1 b2 b3 g lo m=none:=by unfold Lib.checkN;simp[F];omega
    rw[c]at a
    simp[F,p,j0,D,B,G,K]
    exact j3 (by simp[I]) (by simp[a]) rfl
   have c:Lib.checkN l.length b1 b2 b3 g lo m=some 2:=by unfold Lib.checkN;simp[F];omega
   rw[c]at a
   have dd:XR (some (.int .i64 2)) none (.str l)=some (.str (l.drop 2)):=JL (k:=2) rfl zO
   simp[F,p,j0,D,B,G,K,dd]
   exact⟨(l.drop 2).length,by rw[List.length_drop];omega,l.drop 2,zS,rfl,a,by rw[List.length_drop];omega⟩
  by_cases j:g=3
  ·by_cases D:(l.length:Int)<3
   ·have c:Lib.checkN l.length b1 b2 b3 g lo m=none:=by unfold Lib.checkN;simp[j];omega
    rw[c]at a
    simp[j,p,D]
    exact j3 (by simp[I]) (by simp[a]) rfl
   have B:=B zO
   have L:=L zO
   by_cases G:(b1:Int)<lo
   ·have c:Lib.checkN l.length b1 b2 b3 g lo m=none:=by unfold Lib.checkN;simp[j];omega
    rw[c]at a
    simp[j,p,j0,D,B,G]
    exact j3 (by simp[I]) (by simp[a]) rfl
   by_cases K:(m:Int)<b1
   ·have c:Lib.checkN l.length b1 b2 b3 g lo m=none:=by unfold Lib.checkN;simp[j];omega
    rw[c]at a
    simp[j,p,j0,D,B,G,K]
    exact j3 (by simp[I]) (by simp[a]) rfl
   by_cases H:(b2:Int)<128
   ·have c:Lib.checkN l.length b1 b2 b3 g lo m=none:=by unfold Lib.checkN;simp[j];omega
    rw[c]at a
    simp[j,p,j0,D,B,L,G,K,H]
    exact j3 (by simp[I]) (by simp[a]) rfl
   by_cases f2:191<(b2:Int)
   ·have c:Lib.checkN l.length b1 b2 b3 g lo m=none:=by unfold Lib.checkN;simp[j];omega
    rw[c]at a
    simp[j,p,j0,D,B,L,G,K,H,f2]
    exact j3 (by simp[I]) (by simp[a]) rfl
   have c:Lib.checkN l.length b1 b2 b3 g lo m=some 3:=by unfold Lib.checkN;simp[j];omega
   rw[c]at a
   have dd:XR (some (.int .i64 3)) none (.str l)=some (.str (l.drop 3)):=JL (k:=3) rfl zO
   simp[j,p,j0,D,B,L,G,K,H,f2,dd]
   exact⟨(l.drop 3).length,by rw[List.length_drop];omega,l.drop 3,zS,rfl,a,by rw[List.length_drop];omega⟩
  by_cases e:g=4
  ·by_cases D:(l.length:Int)<4
   ·have c:Lib.checkN l.length b1 b2 b3 g lo m=none:=by unfold Lib.checkN;simp[e];omega
    rw[c]at a
    simp[e,p,D]
    exact j3 (by simp[I]) (by simp[a]) rfl
   have B:=B zO
   have L:=L zO
   have i3:=i3 zO
   by_cases G:(b1:Int)<lo
   ·have c:Lib.checkN l.length b1 b2 b3 g lo m=none:=by unfold Lib.checkN;simp[e];omega
    rw[c]at a
    simp[e,p,j0,D,B,G]
    exact j3 (by simp[I]) (by simp[a]) rfl
   by_cases K:(m:Int)<b1
   ·have c:Lib.checkN l.length b1 b2 b3 g lo m=none:=by unfold Lib.checkN;simp[e];omega
    rw[c]at a
    simp[e,p,j0,D,B,G,K]
    exact j3 (by simp[I]) (by simp[a]) rfl
   by_cases H:(b2:Int)<128
   ·have c:Lib.checkN l.length b1 b2 b3 g lo m=none:=by unfold Lib.checkN;simp[e];omega
    rw[c]at a
    simp[e,p,j0,D,B,L,G,K,H]
    exact j3 (by simp[I]) (by simp[a]) rfl
   by_cases f2:191<(b2:Int)
   ·have c:Lib.checkN l.length b1 b2 b3 g lo m=none:=by unfold Lib.checkN;simp[e];omega
    rw[c]at a
    simp[e,p,j0,D,B,L,G,K,H,f2]
    exact j3 (by simp[I]) (by simp[a]) rfl
   by_cases e3:(b3:Int)<128
   ·have c:Lib.checkN l.length b1 b2 b3 g lo m=none:=by unfold Lib.checkN;simp[e];omega
    rw[c]at a
    simp[e,p,j0,D,B,L,i3,G,K,H,f2,e3]
    exact j3 (by simp[I]) (by simp[a]) rfl
   by_cases f3:191<(b3:Int)
   ·have c:Lib.checkN l.length b1 b2 b3 g lo m=none:=by unfold Lib.checkN;simp[e];omega
    rw[c]at a
    simp[e,p,j0,D,B,L,i3,G,K,H,f2,e3,f3]
    exact j3 (by simp[I]) (by simp[a]) rfl
   have c:Lib.checkN l.length b1 b2 b3 g lo m=some 4:=by unfold Lib.checkN;simp[e];omega
   rw[c]at a
   have dd:XR (some (.int .i64 4)) none (.str l)=some (.str (l.drop 4)):=JL (k:=4) rfl zO
   simp[e,p,j0,D,B,L,i3,G,K,H,f2,e3,f3,dd]
   exact⟨(l.drop 4).length,by rw[List.length_drop];omega,l.drop 4,zS,rfl,a,by rw[List.length_drop];omega⟩
  have c:Lib.checkN l.length b1 b2 b3 g lo m=none:=by unfold Lib.checkN;simp[F,j,e]
  rw[c]at a
  have z2:((g:Int) == 2)=false:=by simp;omega
  have z3:((g:Int) == 3)=false:=by simp;omega
  have z4:((g:Int) == 4)=false:=by simp;omega
  simp[z2,z3,z4]
  exact j3 (by simp[I]) (by simp[a]) rfl
def QX:Nat→List Int→Bool
 | n,[]=>decide (0<n) && decide (n≤20)
 | n,c::l=>if !jbf c || (decide (n=0) && W2 c) then false else QX (n+1) l
theorem jf5:∀ (l:List Int) (n:Nat),0<n→QX n l=(l.all jbf && decide (n+l.length≤20))
 | [],n,h=>by simp[QX,h]
 | c::l,n,h=>by
  have b:¬ n=0:=zO
  rw[QX,jf5 l (n+1) zO]
  cases a:jbf c
  ·simp[a]
  ·simp only[a,b,decide_false,Bool.false_and,Bool.or_false,Bool.not_true,Bool.false_eq_true,if_false,List.all_cons,Bool.true_and,List.length_cons]
   congr 2
   exact propext ⟨fun h=>by omega,fun h=>by omega⟩
theorem jw0 (l:List Int):QX 0 l=nmOk l:=by
 cases l with
 | nil=>rfl
 | cons c l=>
  rw[QX,jf5 l 1 zO]
  unfold nmOk jem
  have e:decide (1+l.length≤20)=decide (l.length+1≤20):=by rw[Nat.add_comm]
  cases b:jbf c <;> cases a:W2 c <;> simp[b,a,e]
  rw[Bool.and_comm]
theorem j2e {E:Env}{Yf:YF}{st:St}{ub:Nat}{K:St→Nat→Prop}{d:Option Nat}{nm:Bool}{x:A}{l u pos:Nat}{s:List UInt8}(c:eval E st.tm x=.iter l u) (e:st.ob l=some ⟨u,.siter s pos⟩) (a:st.ro≤u)
 (b:pos<s.length→WW K st d ub { v:=.tup [.bool true,.int .i64 pos,.int .i32 (rU s pos:Nat)],obs:=[(l,⟨u,.siter s (pos+rW s pos)⟩)] })
 (f:¬ pos<s.length→Qo K st d ub (.tup [.bool false])):j6 E Yf ⟨d,.nextStr x,none,nm⟩ st ub K:=jpr c e a b f
theorem ev229 (s:List UInt8) (w:s.length≤1000000):Ev E 229 [.str s] (.bool (jhe s)):=by
 refine jP (af:=F229) rfl ?_
 simp[F229]
 refine jR (ev264 s) zS rfl rfl ?_
 unfold jhe
 cases b1:j1g s
 case true=>
  simp
  exact j3 rfl zS rfl
 simp
 refine jR (ev265 s w) zS rfl rfl ?_
 cases b2:Lib.validD s
 case false=>
  simp
  exact j3 rfl zS rfl
 simp
 rw[← jw0]
 refine YU (n:=s.length) [(2,3),(5,5),(15,30)] (fun k h=>∃p n u,k=s.length - p∧p≤s.length∧n≤p∧h.tm 3=.int .i64 (n:Nat)∧h.tm 14=.iter 28 u∧h.ob 28=some ⟨u,.siter s p⟩∧QX 0 (J9 s)=QX n (RN s p)) rfl rfl
  ⟨0,0,640,by simp[jdl]⟩ ?_
 rintro k h ⟨p,n,u,rfl,B,x,j,i,t,a⟩ f
 have q:h.df=[]:=by rw[f.d];simp
 have z:h.fb=0:=by rw[f.b];simp
 have fr:h.ro=0:=by rw[f.r];simp
 clear f
 simp
 refine j2e (l:=28) (u:=u) (pos:=p) (s:=s) (by simp[i]) (by simp[t]) (by simp[fr]) (fun m=>?_) (fun y=>?_)
 ·have D:=jiw m
  rw[juy m,QX]at a
  obtain⟨c,v⟩:∃c:Int,(rU s p:Int)=c:=⟨_,rfl⟩
  rw[v]at a ⊢
  simp
  refine jR (ev266 c) zS rfl rfl ?_
  cases g:jbf c
  ·rw[g]at a
   simp
   exact j3 (by simp[q]) (by simp[a]) rfl
  ·by_cases e:n=0
   ·subst e
    simp[j]
    refine jR (ev267 c) zS rfl rfl ?_
    cases o:W2 c
    ·simp[j,i,o,g]at a ⊢
     exact⟨s.length - (p+rW s p),zO,p+rW s p,rfl,zO,1,zO,zD,rfl,a⟩
    ·simp[o,g]at a ⊢
     exact j3 (by simp[q]) (by simp[a]) rfl
   ·simp[j,i,g,beq0,e]at a ⊢
    exact⟨s.length - (p+rW s p),zO,p+rW s p,rfl,zO,n+1,zO,by rw[jm zO zO];simp,rfl,a⟩
 ·have:p=s.length:=zO
  subst this
  rw[j0d zR,QX]at a
  by_cases e:0<n
  ·simp[j,e]at a ⊢
   exact j3 (by simp[q]) (by simp[a];omega) rfl
  ·simp[j,e]at a ⊢
   exact j3 (by simp[q]) (by simp[a]) rfl
theorem ev212 (nl:Bool) (t:List (List UInt8)) (O:t.length≤1000000) (D:∀s∈t,s.length≤1000000):Ev E 212 [slOf nl Jj t] (.bool (ju1 t)):=by
 refine jP (af:=F212) rfl ?_
 simp[F212]
 refine j9 [(2,4),(7,29)] t.length (fun i s=>s.tm 7=.int .i64 i∧∀j,j<t.length→j<i→jpj t j=true) rfl rfl ⟨zS,fun j _ h=>by omega⟩ ?_
 rintro i s N ⟨u,B⟩ f
 have K:s.tm 0=slOf nl Jj t:=by rw[f.t 0 zS];simp
 have G:s.tm 5=slOf nl Jj t:=by rw[f.t 5 zS];simp
 have z:s.tm 6=.int .i64 t.length:=by rw[f.t 6 zS];simp
 have y:s.df=[]:=by rw[f.d];simp
 clear f
 by_cases a:i<t.length
 ·have H:=jh a zO
  have b:jpj t i=(jhe t[i] && (i == 0 || jhi (t.getD (i - 1) []) t[i])):=by unfold jpj;rw[JA a]
  have o:=D _ (List.getElem_mem a)
  obtain⟨c,J⟩:∃c,t[i]=c:=⟨_,rfl⟩
  have n:=jfl t a
  rw[J]at b n o
  have jbx:jpj t i=true→∀j,j<t.length→j<i+1→jpj t j=true:=fun h j m w=>by
   rcases Nat.lt_succ_iff_lt_or_eq.1 w with h'|rfl
   ·exact B j m h'
   ·exact h
  simp[u,G,z,a,j4 Y6,n]
  refine jR (ev229 c o) zS rfl rfl ?_
  cases p:jhe c
  ·rw[p]at b
   simp
   exact j3 (by simp[y]) (by simp[jmn a b]) rfl
  ·rw[p]at b
   by_cases F:i=0
   ·subst F
    simp[u]
    exact⟨a,zD,fun j m h=>by subst h;exact jbx (by simp[b]) 0 m zO⟩
   ·have q:0<i:=zO
    have x:=j4y q zO
    have l:i - 1<t.length:=zO
    have v:=D _ (List.getElem_mem l)
    have r:=jfl t l
    rw[JA l]at b
    obtain⟨e,M⟩:∃e,t[i - 1]=e:=⟨_,rfl⟩
    rw[M]at b r v
    have I:=Y8 e
    have L:=Y8 c
    simp[K,q,x,l,j4 Y6,r]
    refine jR (ev251 e c zO zO) zS rfl rfl ?_
    cases k:jhi e c
    ·have g:=k
     unfold jhi at g
     rw[g]
     simp
     exact j3 (by simp[y]) (by simp[jmn a (by simp[b,k,F])]) rfl
    ·have g:=k
     unfold jhi at g
     rw[g]
     simp[u,H]
     exact⟨a,jbx (by simp[b,k])⟩
 ·have:i=t.length:=zO
  subst this
  simp[u,z]
  exact j3 (by simp[y]) (by simp[jy9 (fun j m=>B j m m)]) rfl
def Fr1 (n:Nat) (ob ob':ZO):Prop:=∀key,(∀m,n≤m→key≠2*m+1)→ob' key=ob key
theorem jfx (h:Hist') (X:h.ts.length≤1000) (z:∀t∈h.ts,t.ops.length≤1000000) {asg bd:C}{ps:List Nat}(K:ps.length=2) (L:asg.one=true) (G:bd.one=true) {st:St}{f:A}{lh uh:Nat}
 (hf:eval E st.tm f=.fn (.func 215) [] [.ptr lh uh 0]) (oh:st.ob lh=some ⟨uh,.cells (histC h)⟩) (H:lh≠2*st.nx+1) (O:lh≠2*st.nx+3) (F:st.ro=0)
 (J:Nat→Nat→(ZO)→(Nat→Bool)→Nat→Prop) {Q:Ex→St→Prop}
 (d:∀i k ob c tk ub o,J i k ob tk ub→ub≤o→Fr1 st.nx ob c→J i k c tk o)
 (p:∀i (hi:i<h.ts.length) ob tk ub,J i (h.ts[i]).ops.length ob tk ub→J (i+1) 0 ob tk ub)
 (v:∀i (hi:i<h.ts.length) k (b:k<(h.ts[i]).ops.length) ob tk ub,J i k ob tk ub→ob (2*st.nx+1)=some ⟨st.nx,.loop .ready none⟩→ob (2*st.nx+3)=some ⟨st.nx+1,.dfr⟩→st.nx+64≤ub →
  wpC E Xx asg { tm:=jdh st.tm ps [.agg [.int .i64 i,.int .i64 k],.agg (opC (h.ts[i]).ops[k])],ob:=ob,tk:=tk,ro:=0,nx:=ub,fb:=st.fb,df:=[] } fun e D=>e=.nrm∧D.ob (2*st.nx+1)=some ⟨st.nx,.loop .ready none⟩ ∧
   wpC E Xx bd { D with ob:=upd D.ob (2*st.nx+1) (some ⟨st.nx,.loop .busy none⟩) } fun e n=>n.ob (2*st.nx+1)=some ⟨st.nx,.loop .busy none⟩∧n.ob (2*st.nx+3)=some ⟨st.nx+1,.dfr⟩∧st.nx+64≤n.nx∧e=.nrm∧J i (k+1) n.ob n.tk n.nx)
 (h0:J 0 0 st.ob st.tk (st.nx+64))
 (hQ:∀ob tk ub,J h.ts.length 0 ob tk ub→ob (2*st.nx+3)=some ⟨st.nx+1,.dfr⟩→st.nx+64≤ub→Q .nrm { st with ob:=ob,tk:=tk,nx:=ub,df:=(2*st.nx+3,st.nx+1)::st.df }) :
 wpC E Xx (.rangeFunc f ps asg bd) st Q:=by
 refine W6 (g:=215) (first:=[]) (captured:=[.ptr lh uh 0]) hf ?_
 have w:¬ 2*st.nx+3=2*st.nx+1:=zO
 have b0:¬ 2*st.nx+1=2*st.nx+3:=zO
 have:=jzf (Yf:=jft E Xx asg bd st ps (2*st.nx+1) st.nx) h X z (l:=2*st.nx+1) (u:=st.nx) (lh:=lh) (uh:=uh)
  (ob0:=upd (upd st.ob (2*st.nx+3) (some ⟨st.nx+1,.dfr⟩)) (2*st.nx+1) (some ⟨st.nx,.loop .ready none⟩)) (tk0:=st.tk) (ro:=st.ro) (base:=(st.fb+1023)*1024) (ub0:=st.nx+64)
  (by simp only[j2,H,O,if_false,oh]) zO
  (fun i k ob tk ub=>J i k ob tk ub∧ob (2*st.nx+1)=some ⟨st.nx,.loop .ready none⟩∧ob (2*st.nx+3)=some ⟨st.nx+1,.dfr⟩∧st.nx+64≤ub)
  (fun r=>∃s j,r.2.1 (2*st.nx+1)=some ⟨st.nx,.loop s j⟩∧s≠.busy∧st.ro≤st.nx∧Q (j.getD .nrm) { st with ob:=fun k=>if Nat.beq (2*st.nx+1) k then none else r.2.1 k,tk:=r.2.2.1,nx:=r.2.2.2,df:=(2*st.nx+3,st.nx+1)::st.df })
  ?_ ?_ ?_ ?_ ?_
 ·obtain⟨r,N,hP⟩:=this
  exact⟨r,N,hP⟩
 ·rintro i k ob c tk ub o ⟨q,x,y,B⟩ I M
  have f:∀a,(∀m,ub≤m→a≠2*m+1)→c a=ob a:=M
  exact⟨d _ _ _ _ _ _ _ q I (fun a b=>f a (fun m z=>b m zO)),by rw[f _ (fun m z=>by omega)];exact x,by rw[f _ (fun m z=>by omega)];exact y,zO⟩
 ·rintro i hi ob tk ub ⟨q,g⟩
  exact⟨p i hi ob tk ub q,g⟩
 ·rintro i hi k b ob tk ub ⟨q,x,y,B⟩ a0
  have hb:=v i hi k b ob tk ub q x y B
  have:=je8 (E:=E) (Yf:=Xx) (asg:=asg) (bd:=bd) (st:=st) (ps:=ps) (l:=2*st.nx+1) (u:=st.nx) (xs:=[.agg [.int .i64 i,.int .i64 k],.agg (opC (h.ts[i]).ops[k])]) (ob:=ob) (tk:=tk) (ro:=st.ro) (ub:=ub)
   (P:=fun r=>st.ro≤r.2.2.2∧r.1=.bool true∧J i (k+1) r.2.1 r.2.2.1 r.2.2.2∧r.2.1 (2*st.nx+1)=some ⟨st.nx,.loop .ready none⟩∧r.2.1 (2*st.nx+3)=some ⟨st.nx+1,.dfr⟩∧st.nx+64≤r.2.2.2)
   (by simp[K]) zO x L G (by
    rw[F]
    refine Jv (fun e D h1=>?_) hb
    obtain⟨e1,e2,Z⟩:=h1
    refine⟨e1,e2,Jv (fun e n h2=>?_) Z⟩
    obtain⟨k1,U,k3,T,k5⟩:=h2
    subst T
    refine⟨k1,zO,rfl,?_,?_,?_,k3⟩
    ·exact d _ _ _ _ _ _ _ k5 zR (fun a b=>J7 _ _ (b st.nx zR))
    ·exact YV _ _ _
    ·show upd n.ob _ _ _=_
     rw[J7 _ _ w];exact U)
  obtain⟨r,N,p1,p2,p3,p4,p5,p6⟩:=this
  exact⟨r,N,p1,.inl ⟨p2,p3,p4,p5,p6⟩⟩
 ·rintro ob tk ub ⟨q,x,y,B⟩
  refine⟨.ready,none,x,zS,zO,?_⟩
  have S:Fr1 st.nx ob (fun k=>if Nat.beq (2*st.nx+1) k then none else ob k):=fun a b=>j0b ob (b st.nx zR)
  exact hQ _ _ _ (d _ _ _ _ _ _ _ q zR S) ((j0b ob w).trans y) B
 ·refine⟨d _ _ _ _ _ _ _ h0 zR (fun a b=>?_),YV _ _ _,?_,zO⟩
  ·have h3:=b (st.nx+1) zO
   rw[J7 _ _ (b st.nx zR),J7 _ _ zO]
  ·rw[J7 _ _ w,YV]
@[simp] theorem cells_map (l u:Nat):(V.map l u).cells=[.map l u]:=rfl
@[simp] theorem leaf_map (l u:Nat):(V.map l u).leaf=true:=rfl
@[simp] theorem jz9:V.nilmap.cells=[.nilmap]:=rfl
@[simp] theorem j15:V.nilmap.leaf=true:=rfl
def Y4 (h:Hist'):Bool:=ju1 h.ss && (ju1 h.ks && (decide (h.ss.length≤20) && (decide (h.ks.length≤40) && decide (h.ts.length≤40))))
structure Small (h:Hist'):Prop where
 ss:h.ss.length≤1000
 sl:∀s∈h.ss,s.length≤1000
 ks:h.ks.length≤1000
 kl:∀s∈h.ks,s.length≤1000
 ts:h.ts.length≤1000
 os:∀t∈h.ts,t.ops.length≤1000
theorem ev152 {h:Hist'}(a:Small h):Ev E 152 [.agg (histC h)] (.bool (Y4 h)):=by
 refine jP (af:=F152) rfl ?_
 have c:=ev212 h.sn h.ss (by have:=a.ss;omega) (fun s h=>by have:=a.sl s h;omega)
 have b:=ev212 h.kn h.ks (by have:=a.ks;omega) (fun s h=>by have:=a.kl s h;omega)
 simp[F152,histC,j0]
 refine jR c zS rfl rfl ?_
 unfold Y4
 cases b1:ju1 h.ss
 ·simp
  exact j3 rfl zS rfl
 simp[j0]
 refine jR b zS rfl rfl ?_
 cases b2:ju1 h.ks
 ·simp
  exact j3 rfl zS rfl
 by_cases b3:(h.ss.length:Int)≤20
 ·by_cases b4:(h.ks.length:Int)≤40
  ·simp[j0,b3,b4]
   exact j3 rfl (by simp[show h.ss.length≤20 by omega,show h.ks.length≤40 by omega];omega) rfl
  ·simp[j0,b3,b4]
   exact j3 rfl (by simp;omega) rfl
 ·simp[j0,b3]
  exact j3 rfl (by simp;omega) rfl
def usesS (h:Hist'):List Int:=h.ts.map (·.s)
def usesK (h:Hist'):List Int:=(jcm h).map (·.key)
def joo (h:Hist'):Bool:=decide ((dd (usesS h)).length=h.ss.length) && decide ((dd (usesK h)).length=h.ks.length)
def jd4 (h:Hist') (i k:Nat):List Op':=(h.ts.take i).flatMap (·.ops)++(h.ts.getD i ⟨0,0,true,[]⟩).ops.take k
theorem jpd {h:Hist'}{i k:Nat}(hi:i<h.ts.length) (a:k<(h.ts[i]).ops.length):jd4 h i (k+1)=jd4 h i k++[(h.ts[i]).ops[k]]:=by
 unfold jd4
 rw[JA hi,List.take_succ_eq_append_getElem a,List.append_assoc]
theorem jpe {h:Hist'}{i:Nat}(hi:i<h.ts.length):jd4 h i (h.ts[i]).ops.length=jd4 h (i+1) 0:=by
 unfold jd4
 rw[JA hi,List.take_length,List.take_zero,List.append_nil,List.take_succ_eq_append_getElem hi,List.flatMap_append]
 simp
theorem jr4 (h:Hist'):jd4 h h.ts.length 0=jcm h:=by simp[jd4,jcm]
theorem jpc (h:Hist'):jd4 h 0 0=[]:=by simp[jd4]
theorem Ww {res:List ARes}{st:St}{l u:Nat}{v:V}(a:st.df=[(l,u)]) (c:st.ob l=some ⟨u,.dfr⟩) (d:st.ro≤u)
 (h:ja7 res (.ret,{ st with ob:=fun k=>if Nat.beq l k then none else st.ob k,df:=[] })=some v):ja7 res (.ret,st)=some v:=by
 have b:jz7 st=true:=by
  unfold jz7
  rw[a]
  simp only[List.all_cons,List.all_nil,c,Bool.and_true,List.map_cons,List.map_nil,nodup,List.any_nil,Bool.not_false,Bool.and_eq_true,Nat.beq_refl,true_and]
  exact Nat.ble_eq▸d
 have e:st.noDf = { st with ob:=fun k=>if Nat.beq l k then none else st.ob k,df:=[] }:=by
  unfold St.noDf
  rw[a]
  simp
 simp only[ja7,b,e,if_true]
 simp only[ja7]at h
 rw[Ym rfl,Yg rfl]at h
 exact h
theorem ev158 {h:Hist'}(hs:Small h):Ev E 158 [.agg (histC h)] (.bool (joo h)):=by
 refine jP (af:=F158) rfl ?_
 have c0:=hs.ts
 simp[F158,histC,j0,j5]
 refine j9 [(6,6),(15,23),(14,14)] h.ts.length (fun i s=>s.tm 14=.int .i64 i∧s.ob 2=some ⟨0,.cells (histC h)⟩∧s.ob 8=some ⟨256,.cells [.map 20 192]⟩∧s.ob 20=some ⟨192,.mp 0 []⟩ ∧
  ∃ver m,s.ob 18=some ⟨128,.mp ver (MP jx6 m)⟩∧m.map (·.1)=dd ((h.ts.take i).map (·.s))) rfl rfl ⟨zS,by simp[histC],zS,zS,0,[],by simp[MP],by simp[dd]⟩ ?_
 rintro i s Q ⟨B,Z,o8,H,ver,m,z,S⟩ f
 have c2:s.tm 12=slOf h.tn ji h.ts:=by rw[f.t 12 zS];simp
 have L:s.tm 13=.int .i64 h.ts.length:=by rw[f.t 13 zS];simp
 have f1:s.tm 1=.ptr 2 0 0:=by rw[f.t 1 zS];simp
 have f3:s.tm 3=.map 18 128:=by rw[f.t 3 zS];simp
 have f4:s.tm 4=.ptr 8 256 0:=by rw[f.t 4 zS];simp
 have fd:s.df=[]:=by rw[f.d];simp
 have X:s.fb=0:=by rw[f.b];simp
 have fr:s.ro=0:=by rw[f.r];simp
 clear f
 by_cases q:i<h.ts.length
 ·have hw:=jh q zO
  simp[B,c2,L,q,j4 j8,jb j8,ji,j0,X,fr,j5,f3,jgc m,jg,z]
  refine jap (f:=jx6) (a:=IntKind.i64.wrap (j4o m h.ts[i].s+1)) (ver:=ver) (l:=18) (u:=128) (k:=h.ts[i].s) m zS zS (by simp[jx6]) (by simp[z]) (by simp[fr]) ?_
  simp[B,hw,Z,o8,H,histC]
  refine⟨q,ver+1,jh3 m h.ts[i].s (IntKind.i64.wrap (j4o m h.ts[i].s+1)),zS,?_⟩
  rw[jjj,S,← List.map_take,List.take_succ_eq_append_getElem q,List.map_append]
  exact(jue _ _).symm
 ·have:i=h.ts.length:=zO
  subst this
  rw[List.take_length]at S
  simp[B,L]
  simp[f1,Z,j0,histC]
  refine jar (vs:=[.agg (histC h)]) (by simp[histC]) rfl ?_
  obtain⟨r,hr,e1,D,e3,e4⟩:=j3i (Yf:=Xx) h s.ob s.tk 0 (26*1024) (s.nx+64+64)
  refine⟨r,by simpa[fr,X] using hr,?_⟩
  simp
  refine jj fun e c=>?_
  have n2:¬ (2:Nat)=2*(s.nx+64+64)+1:=zO
  have n8:¬ (8:Nat)=2*(s.nx+64+64)+1:=zO
  have b6:¬ (18:Nat)=2*(s.nx+64+64)+1:=zO
  have b7:¬ (20:Nat)=2*(s.nx+64+64)+1:=zO
  have b9:e.tm 25=.fn (.func 215) [] [.ptr (2*(s.nx+64+64)+1) (s.nx+64+64) 0]:=by rw[c];simp[put,e1]
  have g1:e.tm 1=.ptr 2 0 0:=by rw[c];simp[put,j2,f1]
  have g3:e.tm 3=.map 18 128:=by rw[c];simp[put,j2,f3]
  have g4:e.tm 4=.ptr 8 256 0:=by rw[c];simp[put,j2,f4]
  have gd:e.df=[]:=by rw[c];simp[fd]
  have gb:e.fb=0:=by rw[c];simp[X]
  have gr:e.ro=0:=by rw[c];simp[fr]
  have gn:e.nx=s.nx+64+64+256:=by rw[c];simp[e4]
  have p2:e.ob 2=some ⟨0,.cells (histC h)⟩:=by rw[c];simp only[J8];rw[D,if_neg n2];exact Z
  have p8:e.ob 8=some ⟨256,.cells [.map 20 192]⟩:=by rw[c];simp only[J8];rw[D,if_neg n8];exact o8
  have a0:e.ob 18=some ⟨128,.mp ver (MP jx6 m)⟩:=by rw[c];simp only[J8];rw[D,if_neg b6];exact z
  have b0:e.ob 20=some ⟨192,.mp 0 []⟩:=by rw[c];simp only[J8];rw[D,if_neg b7];exact H
  have pl:e.ob (2*(s.nx+64+64)+1)=some ⟨s.nx+64+64,.cells (histC h)⟩:=by rw[c];simp only[J8];rw[D,if_pos rfl]
  clear c e1 D e3 e4 hr
  refine jfx h c0 (fun t ht=>by have:=hs.os t ht;omega) rfl rfl rfl (by simpa using b9) pl zO zO gr
   (fun i k ob N P=>ob 2=some ⟨0,.cells (histC h)⟩∧ob 8=some ⟨256,.cells [.map 20 192]⟩∧ob 18=some ⟨128,.mp ver (MP jx6 m)⟩∧∃F p,ob 20=some ⟨192,.mp F (MP jx6 p)⟩∧p.map (·.1)=dd ((jd4 h i k).map (·.key)))
   ?_ ?_ ?_ ?_ ?_
  ·rintro i k ob c4 N P c3 ⟨x,w,n,y,p,j,M⟩ I v
   exact⟨(v 2 (fun m _=>by omega)).trans x,(v 8 (fun m _=>by omega)).trans w,(v 18 (fun m _=>by omega)).trans n,y,p,(v 20 (fun m _=>by omega)).trans j,M⟩
  ·rintro i Q ob N P ⟨x,w,n,y,p,j,M⟩
   exact⟨x,w,n,y,p,j,by rw[M,jpe Q]⟩
  ·rintro i Q k M ob N P ⟨x,w,n,y,p,j,g⟩ w1 O I
   have r1:¬ 2*e.nx+1=16:=zO
   have r3:¬ 2*e.nx+3=16:=zO
   have c5:¬ 2*e.nx+3=2*e.nx+1:=zO
   have K:¬ 2*e.nx+1=20:=zO
   have J:¬ 2*e.nx+3=20:=zO
   have b5:¬ 16=2*e.nx+1:=zO
   have b8:¬ 8=2*e.nx+1:=zO
   have G:¬ 20=2*e.nx+1:=zO
   have b2:¬ 2=2*e.nx+1:=zO
   have T:¬ 18=2*e.nx+1:=zO
   simp[jdh,j2,opC,j0,gb,j5,g4,r1,w1,b5,b8,w,jgc p,jg,G,j]
   obtain⟨o,ho⟩:∃o,(h.ts[i]).ops[k]=o:=⟨_,rfl⟩
   rw[ho]
   refine jap (f:=jx6) (a:=IntKind.i64.wrap (j4o p o.key+1)) (ver:=y) (l:=20) (u:=192) (k:=o.key) p zS zS (by simp[jx6]) (by simp[j2,G,j]) zS ?_
   simp[j2,K,J,r3,b2,b8,T,x,w,n,O]
   refine⟨zO,y+1,jh3 p o.key (IntKind.i64.wrap (j4o p o.key+1)),zS,?_⟩
   rw[jjj,g,jpd Q M,List.map_append,ho]
   exact(jue _ _).symm
  ·exact⟨p2,p8,a0,0,[],b0,by rw[jpc];rfl⟩
  ·rintro ob N P ⟨x,w,n,y,p,j,g⟩ O I
   rw[jr4]at g
   have l1:m.length=(dd (usesS h)).length:=by rw[← List.length_map (f:=(·.1)),S];rfl
   have l2:p.length=(dd (usesK h)).length:=by rw[← List.length_map (f:=(·.1)),g];rfl
   simp[g3,g1,jg,n,x,j0,histC,l1]
   unfold joo
   by_cases c1:(dd (usesS h)).length=h.ss.length
   ·simp[c1,g4,g1,w,x,jg,j,j0,histC,l2]
    refine Ww (l:=2*e.nx+3) (u:=e.nx+1) (by simp[gd]) (by simp[O]) (by simp[gr]) (j3 rfl ?_ rfl)
    simp
    rw[Bool.eq_iff_iff];simp;omega
   ·have U:(((dd (usesS h)).length:Int) == (h.ss.length:Int))=false:=by simp;omega
    simp[U]
    refine Ww (l:=2*e.nx+3) (u:=e.nx+1) (by simp[gd]) (by simp[O]) (by simp[gr]) (j3 rfl ?_ rfl)
    simp[c1]
def Wp (h:Hist'):Bool:=Y4 h && (h.ts.all (jcp h) && ((jcm h).all (opB h) && joo h))
def errH (h:Hist'):Int:=if Wp h then 0 else 4
theorem j34 {b:Type}(p:b→Bool) (l:List b):(l.any fun t=>!p t) = !(l.all p):=by
 induction l with
 | nil=>rfl
 | cons a l c=>simp[c]
theorem jp1 {h:Hist'}(q:Small h):Ev E 103 [.agg (histC h)] (.int .i64 (errH h)):=by
 refine jP (af:=F103) rfl ?_
 have F:=q.ts
 have D:∀t∈h.ts,t.ops.length≤1000000:=fun t T=>by have:=q.os t T;omega
 have o:=ev152 q
 have n:=ev158 q
 obtain⟨R,B⟩:∃R,errH h=R:=⟨_,rfl⟩
 have a:R=if Y4 h && (h.ts.all (jcp h) && ((jcm h).all (opB h) && joo h)) then 0 else 4:=B.symm
 rw[B]
 clear B
 simp[F103,histC,j0]
 refine jR o (by simp[histC]) rfl (by simp[histC]) ?_
 cases b1:Y4 h
 ·rw[b1]at a
  simp at a
  subst a
  simp[j0,j5]
  exact J0 rfl (l:=[.int .i64 4]) (by simp[jp,j0]) rfl rfl
 rw[b1]at a
 simp[j0]
 refine js (vs:=[slOf h.tn ji h.ts,.fn (.func 154) [] [.ptr 2 0 0]]) zS rfl rfl (ev153 (p:=fun t=>!jcp h t) rfl (fun t J k L=>ev154 (h:=h) ⟨rfl,by simp[histC]⟩ t J k L) h.tn h.ts zO _ _ _) ?_
 rw[j34]
 cases b2:h.ts.all (jcp h)
 ·rw[b2]at a
  replace a:R=4:=a
  subst a
  simp[j0,j5]
  exact J0 rfl (l:=[.int .i64 4]) (by simp[jp,j0]) rfl rfl
 rw[b2]at a
 simp[j0]
 refine jar (vs:=[.agg (histC h)]) (by simp[histC]) rfl ?_
 obtain⟨r,N,M,v,X,y⟩:=j3i (Yf:=Xx) h _ _ 0 _ _
 refine⟨r,N,?_⟩
 simp
 refine jj fun d b=>?_
 obtain⟨U,H⟩:∃U,d.nx=U:=⟨_,rfl⟩
 obtain⟨m,hm,G,w,p2,Q,P⟩:∃m,m % 64=0∧m<U∧d.tm 15=.fn (.func 215) [] [.ptr (2*m+1) m 0]∧d.ob 2=some ⟨0,.cells (histC h)⟩∧d.ob 4=some ⟨64,.cells [.int .i64 0]⟩∧d.ob (2*m+1)=some ⟨m,.cells (histC h)⟩:=by
  refine⟨_,?_,?_,by rw[b];simp only[jk2,put,YV];exact M,?_,?_,?_⟩
  ·decide
  ·rw[← H,b,jgz,y];omega
  ·rw[b];simp only[J8];rw[v];simp[histC]
  ·rw[b];simp only[J8];rw[v];simp
  ·rw[b];simp only[J8];rw[v];simp
 have K:d.tm 1=.ptr 2 0 0:=by rw[b];simp[put,j2]
 have g:d.tm 2=.ptr 4 64 0:=by rw[b];simp[put,j2]
 have z:d.df=[]:=by rw[b];simp
 have gb:d.fb=0:=by rw[b];simp
 have s:d.ro=0:=by rw[b];simp
 have j:64≤U:=by rw[← H,b,jgz,y];omega
 clear b M v X y N
 refine j1j h F D U H j w ⟨m,rfl,G⟩ K g s gb p2 Q P ?_
 intro e ob J L c O x I S f
 rcases f with⟨b3,rfl,rfl⟩|⟨b3,rfl,rfl⟩
 ·rw[b3]at a
  simp[K,j0,O,histC]
  refine jR n (by simp[histC]) rfl (by simp[histC]) ?_
  have i:¬ 2*U+3=4:=zO
  have Z:¬ 4=2*U+3:=zO
  cases b4:joo h
  ·rw[b4]at a
   replace a:R=4:=a
   subst a
   simp[j0,g,x,s,j5]
   refine Ww (l:=2*U+3) (u:=U+1) (by simp[z]) (by simp[I,i]) zS (QI rfl (l:=[.int .i64 4]) ?_ rfl)
   simp[jp,j0,g,i]
  ·rw[b4]at a
   replace a:R=0:=a
   subst a
   simp[j0,g,x,s,j5]
   refine Ww (l:=2*U+3) (u:=U+1) (by simp[z]) (by simp[I,i]) zS (QI rfl (l:=[.int .i64 0]) ?_ rfl)
   simp[jp,j0,g,i]
 ·rw[b3]at a
  replace a:R=4:=a
  subst a
  have i:¬ 2*U+3=4:=zO
  have Z:¬ 4=2*U+3:=zO
  simp
  refine Ww (l:=2*U+3) (u:=U+1) (by simp[z]) (by simp[I]) (by simp[s]) (QI rfl (l:=[.int .i64 4]) ?_ rfl)
  simp[jp,j0,g,i,x]
def marks (bs:List Bool) (ks:List Int):List Bool:=ks.foldl (fun b k=>b.set k.toNat true) bs
theorem Xp (ks:List Int):∀a:List Bool,(marks a ks).length=a.length:=by
 induction ks with
 | nil=>intro a;rfl
 | cons k ks b=>intro a;exact(b _).trans List.length_set
theorem jf8 (bs:List Bool) (ks:List Int) (k:Int):marks bs (ks++[k])=(marks bs ks).set k.toNat true:=by simp[marks]
theorem jsw (bs:List Bool) (a b:List Int):marks bs (a++b)=marks (marks bs a) b:=by simp[marks]
theorem jfm (bs:List Bool) (k:Nat) (h:k<bs.length):j5 (bs.map V.bool) k [.bool true]=(bs.set k true).map V.bool:=by
 unfold j5
 rw[List.map_set,List.set_eq_take_append_cons_drop,if_pos (by simpa using h)]
 simp
def YS (h:Hist') (t:Txn'):Bool:=jcp h t && t.ops.all (opB h)
theorem jho {l u n:Nat}{kk:IntKind}{x:Int}(a:0≤x) (b:x<n):JK 1 (.osl l u 0 n 1) (.int kk x)=some (.ptr l u x.toNat):=by
 simp[JK,a,b]
theorem jh7 {n:Int}{l:Nat}(b:¬ n<0) (a:¬ (l:Int)≤n):YD n l=true:=by unfold YD;simp;omega
theorem jh9 {n:Int}{l:Nat}(a:n<0):YD n l=false:=by unfold YD;simp;omega
theorem jh8 {n:Int}{l:Nat}(a:(l:Int)≤n):YD n l=false:=by unfold YD;simp;omega
theorem ev111 {Yf:YF}{h:Hist'}{t:Txn'}(ht:t.ops.length≤1000000) {ob:ZO}{tk:Nat→Bool}{ro base ub l u:Nat}{bs:List Bool}(T:bs.length=h.ks.length) (ho:ob l=some ⟨u,.cells (bs.map V.bool)⟩) (S:ro≤u) (b9:ro≤ub)
 (hl:∀m,ub≤m→l≠2*m+1) :
 ∃r,EvS E Yf.y 111 [.agg (histC h),.agg (ji t),.osl l u 0 h.ks.length 1] ob tk ro base ub r∧r.1=.bool (YS h t)∧(YS h t=true →
  r.2.1 l=some ⟨u,.cells ((marks bs (t.ops.map (·.key))).map V.bool)⟩∧(∀a,a≠l→(∀m,ub≤m→a≠2*m+1)→r.2.1 a=ob a)∧r.2.2.1=tk∧ub≤r.2.2.2):=by
 refine X2 (af:=S111) rfl zD ?_
 show wpC E Yf S111.body _ (XY S111.res _)
 have n3:¬ 2*(ub+64)=2*ub:=zO
 have N:¬ 2*ub=2*(ub+64):=zO
 have c:∀ {e:Ex}{s:St},e=.ret→s.df=[]→s.tm 6=.bool false→YS h t=false→XY S111.res (fun r=>r.1=.bool (YS h t)∧(YS h t=true →
  r.2.1 l=some ⟨u,.cells ((marks bs (t.ops.map (·.key))).map V.bool)⟩∧(∀a,a≠l→(∀m,ub≤m→a≠2*m+1)→r.2.1 a=ob a)∧r.2.2.1=tk∧ub≤r.2.2.2)) e s:=by
  intro e s he hd h6 hg
  subst he
  refine⟨(.bool false,s.ob,s.tk,s.nx),?_,by rw[hg],fun h=>by rw[hg]at h;cases h⟩
  simp[endS,hd,S111,jp,h6]
 generalize hP:(fun r:V × (ZO) × (Nat→Bool) × Nat=>r.1=.bool (YS h t)∧(YS h t=true →
  r.2.1 l=some ⟨u,.cells ((marks bs (t.ops.map (·.key))).map V.bool)⟩∧(∀a,a≠l→(∀m,ub≤m→a≠2*m+1)→r.2.1 a=ob a)∧r.2.2.1=tk∧ub≤r.2.2.2))=P at c ⊢
 have Q:∀ {b:Bool},jcp h t=b→b=false→YS h t=false:=fun I z=>by unfold YS;rw[I,z];rfl
 simp[S111,histC,ji,j0]
 by_cases F:t.s<0
 ·simp[F]
  exact c rfl zS zS (Q (b:=false) (by unfold jcp;rw[jh9 F];rfl) rfl)
 by_cases J:(h.ss.length:Int)≤t.s
 ·simp[F,J,j0,N]
  exact c rfl zS zS (Q (b:=false) (by unfold jcp;rw[jh8 J];rfl) rfl)
 by_cases f1:t.f<1
 ·simp[F,J,f1,j0,N]
  exact c rfl zS zS (Q (b:=false) (by unfold jcp;simp;omega) rfl)
 by_cases O:3<t.f
 ·simp[F,J,f1,O,j0,N]
  exact c rfl zS zS (Q (b:=false) (by unfold jcp;simp;omega) rfl)
 by_cases l1:20<(t.ops.length:Int)
 ·simp[F,J,f1,O,l1,j0,N]
  exact c rfl zS zS (Q (b:=false) (by unfold jcp;simp;omega) rfl)
 have b5:jcp h t=true:=by unfold jcp;rw[jh7 F J];simp;omega
 simp[F,J,f1,O,l1,j0,N]
 refine j9 [(6,8),(36,78)] t.ops.length (fun i s=>s.tm 7=.int .i64 i∧s.ob (2*ub+1)=some ⟨ub,.cells (histC h)⟩∧s.ob (2*(ub+64)+1)=some ⟨ub+64,.cells (ji t)⟩ ∧
  s.ob l=some ⟨u,.cells ((marks bs ((t.ops.take i).map (·.key))).map V.bool)⟩∧(∀a,a≠l→(∀m,ub≤m→a≠2*m+1)→s.ob a=ob a)∧s.tk=tk∧ub+128≤s.nx∧(t.ops.take i).all (opB h)=true) rfl rfl ?_ ?_
 ·refine⟨zS,by simp[N,histC],by simp[ji],?_,?_,?_,?_,zS⟩
  ·have e1:=hl ub zO
   have e2:=hl (ub+64) zO
   simp[e1,e2,ho,marks]
  ·intro a _ hm
   have e1:=hm ub zO
   have e2:=hm (ub+64) zO
   simp[e1,e2]
  ·simp[JD]
  ·simp
 ·rintro i s hi ⟨h7,oa,x,ol,K,L,b7,p⟩ f
  have O:s.tm 2=.osl l u 0 h.ks.length 1:=by rw[f.t 2 zS];simp
  have f3:s.tm 3=.ptr (2*ub+1) ub 0:=by rw[f.t 3 zS];simp
  have f4:s.tm 4=.ptr (2*(ub+64)+1) (ub+64) 0:=by rw[f.t 4 zS];simp
  have fd:s.df=[]:=by rw[f.d];simp
  have fr:s.ro=ro:=by rw[f.r];simp
  clear f
  by_cases g:i<t.ops.length
  ·have hw:=jh g zO
   have x1:¬ 2*ub=2*(s.nx+64+64+64+64+64+64+64+64+64+64):=zO
   have x2:¬ 2*(ub+64)=2*(s.nx+64+64+64+64+64+64+64+64+64+64):=zO
   have x3:¬ l=2*(s.nx+64+64+64+64+64+64+64+64+64+64)+1:=hl _ zO
   have c0:¬ 2*(s.nx+64+64+64+64+64+64+64+64+64+64)+1=l:=fun e=>x3 e.symm
   have x4:¬ 2*ub+1=l:=fun e=>hl ub zO e.symm
   have x5:¬ 2*(ub+64)+1=l:=fun e=>hl (ub+64) zO e.symm
   have x6:ro≤s.nx+64+64+64+64+64+64+64+64+64+64:=zO
   obtain⟨o,q⟩:∃o,t.ops[i]=o:=⟨_,rfl⟩
   have b8:=jb jF s.ob t.ops g
   have B:opB h o=false→YS h t=false:=fun hb=>by
    unfold YS
    rw[jmb g (by rw[q];exact hb),Bool.and_false]
   simp[h7,f4,x,j0,ji,g,j4 jF,jb jF,q,opC,j5,fr,x6]
   by_cases U:o.key<0
   ·simp[U]
    exact c rfl (by simp[fd]) zS (B (by unfold opB;rw[jh9 U];rfl))
   by_cases k2:(h.ks.length:Int)≤o.key
   ·simp[U,k2,f3,oa,j0,x1,histC]
    exact c rfl (by simp[fd]) zS (B (by unfold opB;rw[jh8 k2];rfl))
   have D:=jh7 U k2
   simp[U,k2,f3,oa,j0,x1,histC]
   refine jR (ev174 o.v) (by simp[jv]) rfl (by simp[jv]) ?_
   cases k3:jon o.v
   ·simp
    exact c rfl (by simp[fd]) zS (B (by unfold opB;rw[D,k3];rfl))
   have b6:0≤o.key:=zO
   have b0:o.key<(h.ks.length:Int):=zO
   have Z:=jho (l:=l) (u:=u) (n:=h.ks.length) (kk:=.i64) b6 b0
   have X:=jfm (marks bs ((t.ops.take i).map (·.key))) o.key.toNat (by rw[Xp,T];omega)
   have a0:(marks bs ((t.ops.take i).map (·.key))).length=h.ks.length:=by rw[Xp,T]
   have j:marks bs ((t.ops.take (i+1)).map (·.key))=(marks bs ((t.ops.take i).map (·.key))).set o.key.toNat true:=by
    rw[List.take_succ_eq_append_getElem g,List.map_append,q]
    exact jf8 _ _ _
   have G:o.key.toNat+1≤h.ks.length:=zO
   have k:opB h o=true→(t.ops.take (i+1)).all (opB h)=true:=fun hb=>by
    rw[List.take_succ_eq_append_getElem g,List.all_append,p,q]
    simp[hb]
   generalize marks bs ((t.ops.take i).map (·.key))=mk at *
   cases k4:o.w
   ·have H:opB h o=true:=by unfold opB;rw[D,k3,k4];rfl
    simp[j0,x1,x2,x3,O,Z,ol,S,a0,G,X,fr,h7,hw]
    refine⟨g,?_,?_,?_,?_,L,?_,?_⟩
    ·rw[if_neg x4,oa];rfl
    ·rw[if_neg x5,x];rfl
    ·rw[← List.map_take,j,List.map_set]
    ·intro a I z
     rw[if_neg I,if_neg (z _ zO),if_neg (z _ zO)]
     exact K a I z
    ·omega
    ·have:=k H
     rw[List.all_eq_true]at this
     exact this
   ·cases k5:(o.v.kind == 1)
    ·have M:(o.v.kind != 1)=true:=by simpa using k5
     simp[j0,M]
     exact c rfl (by simp[fd]) zS (B (by unfold opB;rw[D,k3,k4,k5];rfl))
    ·have M:(o.v.kind != 1)=false:=by simpa using k5
     have H:opB h o=true:=by unfold opB;rw[D,k3,k4,k5];rfl
     simp[j0,x1,x2,x3,O,Z,ol,S,a0,G,X,fr,h7,hw,M]
     refine⟨g,?_,?_,?_,?_,L,?_,?_⟩
     ·rw[if_neg x4,oa];rfl
     ·rw[if_neg x5,x];rfl
     ·rw[← List.map_take,j,List.map_set]
     ·intro a I z
      rw[if_neg I,if_neg (z _ zO),if_neg (z _ zO)]
      exact K a I z
     ·omega
     ·have:=k H
      rw[List.all_eq_true]at this
      exact this
  ·have:i=t.ops.length:=zO
   subst this
   rw[List.take_length]at p ol
   have hg:YS h t=true:=by unfold YS;rw[b5,p];rfl
   simp[h7,f4,x,j0,ji]
   refine⟨(.bool true,s.ob,s.tk,s.nx+64+64+64+64+64+64),?_,?_⟩
   ·simp[endS,jp,fd]
   ·rw[← hP]
    exact⟨by rw[hg],fun _=>⟨ol,K,L,by show ub≤_;simp;omega⟩⟩
theorem jtm {E:Env}{st:St}{ub:Nat}{K:List FP→St→Prop}{d:Option Nat}{nm:Bool}{r:List AOpr}{sz a n:Nat}{zero:List V}{x y:A}(b:eval E st.tm x=.int .i64 (n:Int)) (e:eval E st.tm y=.int .i64 (n:Int)) (g:n*a≤140737488355328) (i:n≤140737488355328) (f:zero.length=sz) (c:0<sz)
 (h:jas E r K (eval E st.tm) (.mkSl true sz a zero x y) st d ub { v:=.osl (jH d nm st.fb ub) ub 0 n sz,obs:=[(jH d nm st.fb ub,⟨ub,.cells (QV n zero)⟩)] }):jE E (⟨d,.mkSl true sz a zero x y,none,nm⟩::r) st ub K:=by
 rw[XK rfl]
 simp only[aop,b,e]
 rw[if_pos (by refine⟨zO,zO,?_,zO,f,c⟩;rw[← Int.natCast_mul];exact Int.ofNat_le.2 g)]
 simp only[Bool.not_true,Bool.false_eq_true,false_and,if_false,Jd,jN,Jo,Int.toNat_natCast]
 exact h
theorem jfw (n:Nat):QV n [.bool false]=(List.replicate n false).map V.bool:=by
 unfold QV
 apply List.ext_getElem
 ·simp
 ·intro i b a
  simp[List.getD,Nat.mod_one]
theorem jjn (ks:List Int):∀ (bs:List Bool) (j:Nat) (a:j<bs.length),(∀k∈ks,0≤k)→(marks bs ks)[j]? = some (bs[j] || ks.any fun k=>k == (j:Int)):=by
 induction ks with
 | nil=>intro bs j a _;simp[marks,a]
 | cons k ks c=>
  intro bs j a h
  have f:=h k zS
  have:=c (bs.set k.toNat true) j (by simpa using a) (fun x d=>h x (by simp[d]))
  show(marks (bs.set k.toNat true) ks)[j]? = _
  rw[this,List.getElem_set,List.any_cons]
  by_cases b:k.toNat=j
  ·have:k=(j:Int):=zO
   simp[this]
  ·have:¬ k=(j:Int):=zO
   have e:(k == (j:Int))=false:=by simpa using this
   rw[if_neg b,e,Bool.false_or]
theorem jjo {ks:List Int}{n:Nat}(h:∀k∈ks,0≤k∧k<n):(marks (List.replicate n false) ks).all id=decide ((dd ks).length=n):=by
 have i:=(jzi n (dd ks) (jwz ks) (fun x b=>h x (mem_dd.1 b))).2
 rw[Bool.eq_iff_iff,List.all_eq_true,decide_eq_true_eq,i]
 constructor
 ·intro a k f
  have g:k<(marks (List.replicate n false) ks).length:=by rw[Xp];simpa using f
  have:=a _ (List.getElem_mem g)
  have d:=jjn ks (List.replicate n false) k (by simpa using f) (fun x b=>(h x b).1)
  rw[List.getElem?_eq_getElem g,Option.some.injEq]at d
  rw[d]at this
  simp at this
  exact mem_dd.2 this
 ·intro a x b
  obtain⟨j,e,rfl⟩:=List.getElem_of_mem b
  have c:j<n:=by rw[Xp]at e;simpa using e
  have d:=jjn ks (List.replicate n false) j (by simpa using c) (fun x b=>(h x b).1)
  rw[List.getElem?_eq_getElem e,Option.some.injEq]at d
  rw[d]
  have:=mem_dd.1 (a j c)
  simp
  exact this
theorem jjy (h:Hist'):h.ts.all (YS h)=(h.ts.all (jcp h) && (jcm h).all (opB h)):=by
 unfold jcm
 induction h.ts with
 | nil=>rfl
 | cons t l a=>
  simp only[List.all_cons,List.flatMap_cons,List.all_append,a,YS]
  cases jcp h t <;> cases t.ops.all (opB h) <;> cases l.all (jcp h) <;> simp
theorem within_iff {n:Int}{l:Nat}:YD n l=true ↔ 0≤n∧n<l:=by unfold YD;simp
theorem jw5 {h:Hist'}(d:Y4 h=true) (a:h.ts.all (YS h)=true):Wp h=((marks (List.replicate h.ks.length false) (usesK h)).all id && (marks (List.replicate h.ss.length false) (usesS h)).all id):=by
 rw[jjy,Bool.and_eq_true]at a
 have f:∀k∈usesS h,0≤k∧k<h.ss.length:=by
  intro k b
  obtain⟨t,c,rfl⟩:=List.mem_map.1 b
  have:=List.all_eq_true.1 a.1 t c
  unfold jcp at this
  rw[Bool.and_eq_true]at this
  exact within_iff.1 this.1
 have e:∀k∈usesK h,0≤k∧k<h.ks.length:=by
  intro k b
  obtain⟨t,c,rfl⟩:=List.mem_map.1 b
  have:=List.all_eq_true.1 a.2 t c
  unfold opB at this
  rw[Bool.and_eq_true]at this
  exact within_iff.1 this.1
 rw[jjo f,jjo e]
 unfold Wp joo
 rw[d,a.1,a.2]
 simp only[Bool.true_and]
 rw[Bool.and_comm]
theorem j3k {h:Hist'}(a:Y4 h=false):errH h=4:=by unfold errH Wp;rw[a];rfl
theorem j3j {h:Hist'}(a:h.ts.all (YS h)=false):errH h=4:=by
 unfold errH Wp
 rw[jjy]at a
 rw[← Bool.and_assoc (h.ts.all (jcp h)),a]
 simp
def jfa (l:List Bool):Bool:=l.all id
theorem job:jfa []=true:=rfl
theorem jkg {l:List Bool}{j:Nat}(h:j<l.length):jfa (l.take (j+1))=(jfa (l.take j) && l[j]):=by
 unfold jfa;rw[List.take_succ_eq_append_getElem h,List.all_append];simp
theorem ev58 {h:Hist'}(Q:Small h):Ev E 58 [.agg (histC h)] (.int .i64 (errH h)):=by
 refine jP (af:=F58) rfl ?_
 have d4:=Q.ts
 have d2:=Q.ks
 have d1:=Q.ss
 have e1:=ev110 h.sn h.ss zO (fun s hx=>by have:=Q.sl s hx;omega)
 have e2:=ev110 h.kn h.ks zO (fun s hx=>by have:=Q.kl s hx;omega)
 obtain⟨R,hR⟩:∃R,errH h=R:=⟨_,rfl⟩
 have y:Y4 h=false→R=4:=fun S=>hR▸j3k S
 have U:h.ts.all (YS h)=false→R=4:=fun S=>hR▸j3j S
 rw[hR]
 simp[F58,histC,j0]
 refine jR e1 zS rfl rfl ?_
 cases b1:ju1 h.ss
 ·rw[y (by unfold Y4;rw[b1];rfl)]
  simp
  exact j3 rfl zS rfl
 simp[j0]
 refine jR e2 zS rfl rfl ?_
 cases b2:ju1 h.ks
 ·rw[y (by unfold Y4;rw[b1,b2];rfl)]
  simp
  exact j3 rfl zS rfl
 by_cases c1:20<(h.ss.length:Int)
 ·rw[y (by unfold Y4;simp;omega)]
  simp[j0,c1]
  exact j3 rfl zS rfl
 by_cases c2:40<(h.ks.length:Int)
 ·rw[y (by unfold Y4;simp;omega)]
  simp[j0,c1,c2]
  exact j3 rfl zS rfl
 by_cases c3:40<(h.ts.length:Int)
 ·rw[y (by unfold Y4;simp;omega)]
  simp[j0,c1,c2,c3]
  exact j3 rfl zS rfl
 have S:Y4 h=true:=by unfold Y4;rw[b1,b2];simp;omega
 simp[j0,c1,c2,c3]
 refine jtm (n:=h.ks.length) zS zS zO zO rfl zD ?_
 simp[j0]
 refine jtm (n:=h.ss.length) zS zS zO zO rfl zD ?_
 simp[jfw]
 refine⟨by simp[XA,jay,jaz,jb9,rdOb,rdTk,lOf,Delta.wo,Delta.wt];decide,?_⟩
 refine jj fun p a=>?_
 have g1:p.tm 1=.ptr 1 0 0:=by rw[a];simp
 have g3:p.tm 3=.osl 4225 2112 0 h.ks.length 1:=by rw[a];simp
 have g4:p.tm 4=.osl 4737 2368 0 h.ss.length 1:=by rw[a];simp
 have g5:p.tm 5=.int .i64 0:=by rw[a];simp
 have p1:p.ob 1=some ⟨0,.cells (histC h)⟩:=by rw[a];simp[histC]
 have pk:p.ob 4225=some ⟨2112,.cells ((List.replicate h.ks.length false).map V.bool)⟩:=by rw[a];simp
 have ps:p.ob 4737=some ⟨2368,.cells ((List.replicate h.ss.length false).map V.bool)⟩:=by rw[a];simp
 have gd:p.df=[]:=by rw[a];simp
 have gb:p.fb=0:=by rw[a];simp
 have gr:p.ro=0:=by rw[a];simp
 have gn:2400≤p.nx:=by rw[a];simp
 clear a
 generalize hB:List.replicate h.ks.length false=B at *
 generalize hC:List.replicate h.ss.length false=D at *
 have a0:B.length=h.ks.length:=by rw[← hB];simp
 have X:D.length=h.ss.length:=by rw[← hC];simp
 refine j9 [(2,2),(5,5),(45,68)] h.ts.length (fun i s=>s.tm 5=.int .i64 i∧s.ob 1=some ⟨0,.cells (histC h)⟩∧s.ob 4225=some ⟨2112,.cells ((marks B ((h.ts.take i).flatMap fun t=>t.ops.map (·.key))).map V.bool)⟩ ∧
  s.ob 4737=some ⟨2368,.cells ((marks D ((h.ts.take i).map (·.s))).map V.bool)⟩∧2400≤s.nx∧(h.ts.take i).all (YS h)=true) rfl rfl ⟨by simp[g5],p1,by simp[pk,marks],by simp[ps,marks],gn,zS⟩ ?_
 rintro i s hi ⟨h5,o1,ok,os,e,z⟩ f
 have f1:s.tm 1=.ptr 1 0 0:=by rw[f.t 1 zS,g1]
 have f3:s.tm 3=.osl 4225 2112 0 h.ks.length 1:=by rw[f.t 3 zS,g3]
 have f4:s.tm 4=.osl 4737 2368 0 h.ss.length 1:=by rw[f.t 4 zS,g4]
 have fd:s.df=[]:=by rw[f.d,gd]
 have fb:s.fb=0:=by rw[f.b,gb]
 have fr:s.ro=0:=by rw[f.r,gr]
 clear f
 by_cases c:i<h.ts.length
 ·have N:=jh c zO
  obtain⟨t,J⟩:∃t,h.ts[i]=t:=⟨_,rfl⟩
  have b8:t∈h.ts:=J▸List.getElem_mem c
  have d3:=Q.os t b8
  have d0:=jb j8 s.ob h.ts c
  rw[J]at d0
  simp[h5,f1,o1,j0,histC,c,j4 j8,jb j8,J,f3]
  refine jar (vs:=[.agg (histC h),.agg (ji t),.osl 4225 2112 0 h.ks.length 1]) (by simp[histC]) rfl ?_
  simp[fr,fb]
  have b5:(marks B ((h.ts.take i).flatMap fun t=>t.ops.map (·.key))).length=h.ks.length:=by rw[Xp,a0]
  have O:(marks D ((h.ts.take i).map (·.s))).length=h.ss.length:=by rw[Xp,X]
  obtain⟨⟨v,c4,b9,c0⟩,hr,hv,hg⟩:=ev111 (Yf:=Xx) (h:=h) (t:=t) zO (ob:=s.ob) (tk:=s.tk) (ro:=0) (base:=61440) (ub:=s.nx+64+64+64+64+64+64+64+64+64+64+64+64) (l:=4225) (u:=2112) b5 ok zO zO (fun m hm=>by omega)
  refine⟨v,c4,b9,c0,hr,?_⟩
  simp only at hv hg
  subst hv
  cases o:YS h t
  ·rw[U (jmb c (by rw[J];exact o))]
   simp[put]
   exact j3 (by simp[fd]) zS rfl
  ·obtain⟨q1,q2,q3,q4⟩:=hg o
   have c9:=(q2 1 zD (fun m hm=>by omega)).trans o1
   have qs:=(q2 4737 zD (fun m hm=>by omega)).trans os
   have M:jcp h t=true:=by unfold YS at o;rw[Bool.and_eq_true]at o;exact o.1
   have b6:0≤t.s∧t.s<h.ss.length:=by unfold jcp at M;rw[Bool.and_eq_true]at M;exact within_iff.1 M.1
   have q:=jho (l:=4737) (u:=2368) (n:=h.ss.length) (kk:=.i64) b6.1 b6.2
   have c6:=jfm (marks D ((h.ts.take i).map (·.s))) t.s.toNat (by rw[O];omega)
   have c7:(h.ts.flatMap ji)[i*3]? = some (.int .i64 t.s):=by
    have:=jW j8 h.ts c (by decide:0<3)
    rw[Nat.add_zero,J]at this
    rw[this];rfl
   have c5:marks B ((h.ts.take (i+1)).flatMap fun t=>t.ops.map (·.key))=marks (marks B ((h.ts.take i).flatMap fun t=>t.ops.map (·.key))) (t.ops.map (·.key)):=by
    rw[List.take_succ_eq_append_getElem c,List.flatMap_append,jsw,J];simp
   have b7:marks D ((h.ts.take (i+1)).map (·.s))=(marks D ((h.ts.take i).map (·.s))).set t.s.toNat true:=by
    rw[List.take_succ_eq_append_getElem c,List.map_append,J];exact jf8 _ _ _
   have Z:(h.ts.take (i+1)).all (YS h)=true:=by
    rw[List.take_succ_eq_append_getElem c,List.all_append,z,J];simp[o]
   rw[← c5]at q1
   have b0:t.s.toNat+1≤h.ss.length:=zO
   obtain⟨mk,T⟩:∃m,marks B ((h.ts.take (i+1)).flatMap fun t=>t.ops.map (·.key))=m:=⟨_,rfl⟩
   rw[T]at q1
   generalize marks D ((h.ts.take i).map (·.s))=md at *
   simp[put,j2,f1,f4,h5,c9,j0,histC,c,j4 j8,c7,q,qs,O,c6,N,q1,b0]
   refine⟨by rw[T],by rw[← List.map_take,b7,List.map_set],zO,?_⟩
   rw[List.all_eq_true]at Z
   exact Z
 ·have:i=h.ts.length:=zO
  subst this
  rw[List.take_length]at z ok os
  have w:=jw5 S z
  have hK:(h.ts.flatMap fun t=>t.ops.map (·.key))=usesK h:=by unfold usesK jcm;rw[List.map_flatMap]
  have hS:h.ts.map (·.s)=usesS h:=rfl
  rw[hK]at ok
  rw[hS]at os
  rw[hB,hC]at w
  have b5:(marks B (usesK h)).length=h.ks.length:=by rw[Xp,a0]
  have O:(marks D (usesS h)).length=h.ss.length:=by rw[Xp,X]
  have I:R=if jfa (marks B (usesK h)) && jfa (marks D (usesS h)) then 0 else 4:=by rw[← hR,errH,w];rfl
  clear w hR
  generalize marks B (usesK h)=mk at *
  generalize marks D (usesS h)=md at *
  simp[h5,f1,o1,j0,histC]
  refine j9 [(6,7),(69,81)] h.ks.length (fun i L=>L.tm 7=.int .i64 i∧L.ob=s.ob∧L.tm 6=.bool (jfa (mk.take i))) rfl rfl ⟨zS,zS,by simp[job]⟩ ?_
  rintro j s1 hj ⟨k7,ko,P⟩ f
  have m3:s1.tm 3=.osl 4225 2112 0 h.ks.length 1:=by rw[f.t 3 zS];simp[f3]
  have m4:s1.tm 4=.osl 4737 2368 0 h.ss.length 1:=by rw[f.t 4 zS];simp[f4]
  have c8:s1.df=[]:=by rw[f.d];simp[fd]
  clear f
  by_cases g:j<h.ks.length
  ·have N:=jh g zO
   have F:j<mk.length:=zO
   have q:=jho (l:=4225) (u:=2112) (n:=h.ks.length) (kk:=.i64) (x:=(j:Int)) zO zO
   have e:jfa (mk.take (j+1))=(jfa (mk.take j) && mk[j]):=jkg F
   cases G:jfa (mk.take j)
   ·rw[G]at P e
    simp[k7,m3,g,P,N,ko]
    rw[e];rfl
   ·rw[G]at P e
    simp[k7,m3,g,P,N,ko,q,j0,ok,F]
    rw[e];rfl
  ·have:j=h.ks.length:=zO
   subst this
   have K:mk.take h.ks.length=mk:=List.take_of_length_le zO
   rw[K]at P
   simp[k7,m3]
   refine j9 [(6,6),(8,8),(82,94)] h.ss.length (fun i L=>L.tm 8=.int .i64 i∧L.ob=s.ob∧L.tm 6=.bool (jfa mk && jfa (md.take i))) rfl rfl ⟨zS,by simp[ko],by simp[P,job]⟩ ?_
   rintro j s2 hj ⟨z8,zo,H⟩ f
   have y4:s2.tm 4=.osl 4737 2368 0 h.ss.length 1:=by rw[f.t 4 zS];simp[m4]
   have yd:s2.df=[]:=by rw[f.d];simp[c8]
   clear f
   by_cases g:j<h.ss.length
   ·have N:=jh g zO
    have F:j<md.length:=zO
    have q:=jho (l:=4737) (u:=2368) (n:=h.ss.length) (kk:=.i64) (x:=(j:Int)) zO zO
    have e:jfa (md.take (j+1))=(jfa (md.take j) && md[j]):=jkg F
    cases G:(jfa mk && jfa (md.take j))
    ·have k:(jfa mk && jfa (md.take (j+1)))=false:=by rw[e,← Bool.and_assoc,G];rfl
     rw[G]at H
     simp[z8,y4,g,H,N,zo]
     intro hm;rw[hm]at k;exact k
    ·have k:(jfa mk && jfa (md.take (j+1)))=md[j]:=by rw[e,← Bool.and_assoc,G];rfl
     rw[G]at H
     simp[z8,y4,g,H,N,zo,q,j0,os,F]
     exact k.symm
   ·have:j=h.ss.length:=zO
    subst this
    have K:md.take h.ss.length=md:=List.take_of_length_le zO
    rw[K]at H
    cases G:(jfa mk && jfa md)
    ·rw[G]at H I
     simp[z8,y4,H]
     exact j3 (by simp[yd]) (by simp[I]) rfl
    ·rw[G]at H I
     simp[z8,y4,H]
     exact j3 (by simp[yd]) (by simp[I]) rfl
section
variable {E:Env}{Yf:YF}{st:St}{ub:Nat}{K:St→Nat→Prop}{d:Option Nat}{nm:Bool}
theorem Je {sz n:Nat}{zero:List V}{a:List (Nat × Nat × A)}{cs:List V}(c:fill zero (jx (eval E st.tm) a)=some cs) (b:cs.length=n*sz) (hp:cs.all V.leaf=true)
 (h:WW K st d ub { v:=.osl (jH d nm st.fb ub) ub 0 n sz,obs:=[(jH d nm st.fb ub,⟨ub,.cells cs⟩)] }):j6 E Yf ⟨d,.buildSl true sz zero a n,none,nm⟩ st ub K:=by
 rw[jM _ rfl rfl]
 simp only[aop,c,Option.bind_some,if_true,Jo]
 rw[if_pos ⟨b,hp⟩,Jd,jN]
 exact h
theorem X9 {sz a n:Nat}{cs ys:List V}{s x:A}(f:eval E st.tm s=.sl none true n cs) (g:jI st.ob sz (eval E st.tm x)=some ys) (c:ys≠[]) (e:0<sz) (hp:ys.all V.leaf=true)
 (i:(ys.length / sz)*a≤140737488355328) (b:ys.length / sz≤140737488355328) (h:WW K st d ub { v:=.osl (jH d nm st.fb ub) ub 0 (ys.length / sz) sz,obs:=[(jH d nm st.fb ub,⟨ub,.cells ys⟩)] }) :
 j6 E Yf ⟨d,.append true sz a s x,none,nm⟩ st ub K:=by
 rw[jM _ rfl rfl]
 simp only[aop,f,g,Option.bind_some,if_neg c,Bool.and_self,if_true,Jo]
 rw[if_pos ⟨e,hp,i,b⟩,Jd,jN]
 exact h
theorem YA {sz a l u n:Nat}{cs ys:List V}{s x:A}(k:eval E st.tm s=.osl l u 0 n sz) (g:jI st.ob sz (eval E st.tm x)=some ys) (j:st.ob l=some ⟨u,.cells cs⟩) (f:ys≠[]) (c:st.ro≤u) (o:n*sz≤cs.length) (i:0<sz) (hp:ys.all V.leaf=true)
 (m:(n+ys.length / sz)*a≤140737488355328) (e:n+ys.length / sz≤140737488355328)
 (h:WW K st d ub { v:=.osl (jH d nm st.fb ub) ub 0 (n+ys.length / sz) sz,obs:=[(jH d nm st.fb ub,⟨ub,.cells (cs.take (n*sz)++ys)⟩)],kill:=[l] }) :
 j6 E Yf ⟨d,.append true sz a s x,none,nm⟩ st ub K:=by
 rw[jM _ rfl rfl]
 have b:j0 st.ob l u=some cs:=by simp[j0,j]
 simp only[aop,k,g,Option.bind_some,b,if_neg f,Jo]
 rw[if_pos ⟨Nat.ble_eq▸c,trivial,trivial,o,i,hp,m,e⟩,jN]
 exact h
end
@[simp] theorem app_obk (st:St) (d:Option Nat) (v:V) (l k l':Nat) (o':Obj'):(st.app d { v:=v,obs:=[(l,o')],kill:=[l'] }).ob k=if k=l then some o' else if k=l' then none else st.ob k:=by
 have e:(Nat.beq k l')=decide (k=l'):=by rw[Bool.eq_iff_iff];simp
 simp only[St.app,JI,j2,List.any_cons,List.any_nil,Bool.or_false,e,decide_eq_true_eq]
end Go.Pv.T
namespace Go.Pv.T
open Go Go.Pv
end Go.Pv.T
namespace Go.Pv.T
open Go Go.Pv
@[simp] theorem cells_osl (a b c d e:Nat):(V.osl a b c d e).cells=[.osl a b c d e]:=rfl
@[simp] theorem leaf_osl (a b c d e:Nat):(V.osl a b c d e).leaf=true:=rfl
def jcn (st:St) (v:V) (nl:Bool) (n:Nat) (cs:List V):Prop:=∀keep i,∃a,jn st keep i v=some (.sl a nl n cs)∧(a=none∨∃z,a=some (i,z))
theorem WB (st:St) (t:Option (Nat × Nat)) (nl:Bool) (n:Nat) (cs:List V):jcn st (.sl t nl n cs) nl n cs:=by
 intro keep i
 cases t with
 | none=>exact⟨none,rfl,.inl rfl⟩
 | some p=>
  obtain⟨u,z⟩:=p
  refine⟨_,rfl,?_⟩
  split
  ·exact .inr ⟨z,rfl⟩
  ·exact .inl rfl
def jqg (r:V) (g:Hist'):Prop:=∃a b c:Option (Nat × Nat),r=.agg [.sl a g.sn g.ss.length (g.ss.flatMap Jj),.sl b g.kn g.ks.length (g.ks.flatMap Jj),.sl c g.tn g.ts.length (g.ts.flatMap ji)]∧(∀p∈a.toList++b.toList++c.toList,p.1<64)
theorem jgs (a:Option (Nat × Nat)) (nl:Bool) (n:Nat) (cs:List V):(V.sl a nl n cs).tok=a.toList.map (·.1):=by
 cases a with
 | none=>rfl
 | some p=>rfl
theorem tokm {a:Option (Nat × Nat)}{nl:Bool}{n:Nat}{cs:List V}{i:Nat}:i∈(V.sl a nl n cs).tok ↔ ∃p∈a.toList,p.1=i:=by rw[jgs,List.mem_map]
def Grow {α:Type}(tk:Nat→Bool) (lo nx:Nat) (f:α→List V) (sz:Nat) (l:List α) (v:V):Prop :=
 (l=[]∧v=.sl none true 0 [])∨(l≠[]∧∃u,v=.sl (some (u,sz)) false l.length (l.flatMap f)∧tk u=true∧lo≤u∧u<nx)
theorem Grow.nil {a:Type}(tk:Nat→Bool) (lo nx:Nat) (f:a→List V) (sz:Nat):Grow tk lo nx f sz [] (.sl none true 0 []):=.inl ⟨rfl,rfl⟩
theorem Grow.form {c:Type}{tk:Nat→Bool}{lo nx:Nat}{f:c→List V}{sz:Nat}{l:List c}{v:V}(h:Grow tk lo nx f sz l v):∃t,v=.sl t l.isEmpty l.length (l.flatMap f):=by
 rcases h with⟨rfl,rfl⟩|⟨b,u,rfl,_⟩
 ·exact⟨none,rfl⟩
 ·cases l with
  | nil=>exact absurd rfl b
  | cons a l=>exact⟨_,rfl⟩
theorem Grow.mono {e:Type}{tk a:Nat→Bool}{lo nx nx':Nat}{f:e→List V}{sz:Nat}{l:List e}{v:V}(h:Grow tk lo nx f sz l v) (k:∀u,lo≤u→u<nx→tk u=true→a u=true) (m:nx≤nx'):Grow a lo nx' f sz l v:=by
 rcases h with h|⟨b,u,j,i,c,g⟩
 ·exact .inl h
 ·exact .inr ⟨b,u,j,k u c g i,c,zO⟩
section
variable {E:Env}{Yf:YF}{st:St}{ub:Nat}{K:St→Nat→Prop}{d:Option Nat}{nm:Bool}
theorem YB {m:Type}{f:m→List V}{sz b lo hi:Nat}{l:List m}{a:m}{v:V}{s x:A}(t:Grow st.tk lo hi f sz l v) (o:eval E st.tm s=v) (n:jI st.ob sz (eval E st.tm x)=some (f a)) (k:∀a,(f a).length=sz) (i:0<sz)
 (hp:(f a).all V.pureLeaf=true) (p:(l.length+1)*b≤140737488355328) (j:l.length+1≤140737488355328)
 (h:∀del:Option Nat,(∀u,del=some u→lo≤u∧u<hi)→WW K st d ub { v:=.sl (some (ub,sz)) false (l.length+1) ((l++[a]).flatMap f),del:=del,add:=[ub] }):j6 E Yf ⟨d,.append false sz b s x,none,nm⟩ st ub K:=by
 have g:f a≠[]:=fun e=>by have:=k a;rw[e]at this;simp at this;omega
 have c:(f a).length / sz=1:=by rw[k];exact Nat.div_self i
 rcases t with⟨rfl,rfl⟩|⟨y,u,rfl,w,r,q⟩
 ·refine jhm o n g i hp (by rw[c];simpa using p) (by rw[c];simp) ?_
  rw[c]
  have:=h none (fun u e=>by cases e)
  simpa using this
 ·refine Jz o w n g (by rw[j7 k]) i hp (by rw[c];exact p) (by rw[c];exact j) ?_
  rw[c]
  have:=h (some u) (fun z e=>by cases e;exact⟨r,q⟩)
  simpa using this
end
theorem jil {b:Type}{f:b→List V}{k:Nat}(c:∀a,(f a).length=k) (ob:ZO) (nl:Bool) (l:List b):jI ob k (slOf nl f l)=some (l.flatMap f):=by
 simp only[slOf,jI,j7 c,if_true]
def jbl (res:List ARes) (P:V→Prop):Ex→St→Prop:=fun e s=>∃r,ja7 res (e,s)=some r∧P r
theorem XP {f:FuncId}{af:AF}{args:List V}{P:V→Prop}(g:E.fc f=some af) (b:af.body.one=true) (h:wpC E Xx af.body (QO args) (jbl af.res P)):∃r,Ev E f args r∧P r:=by
 obtain⟨n,x,c,r,e,d⟩:=ji8 b h fun _=>rfl
 refine⟨r,⟨n+1,?_⟩,d⟩
 simp only[callers,g,Option.bind_some]
 rw[show jX E (callers E n) noY n af.body (QO args)=some [x] from c]
 exact jhb (List.cons_ne_nil _ _) (fun y a=>by rw[List.mem_singleton]at a;subst a;exact e)
end Go.Pv.T
namespace Go.Pv.T
open Go Go.Pv
end Go.Pv.T
namespace Go.Pv.T
open Go Go.Pv
section
variable {E:Env}{st:St}{ub:Nat}{K:List FP→St→Prop}{d:Option Nat}{nm:Bool}{r:List AOpr}
theorem jfd {E:Env}{Yf:YF}{st:St}{ub:Nat}{K:St→Nat→Prop}{d:Option Nat}{nm:Bool}{q:Type}{f:q→List V}{sz b u:Nat}{l:List q}{s x:A}(p:eval E st.tm s=.sl (some (u,sz)) false 0 []) (g:st.tk u=true) (n:jI st.ob sz (eval E st.tm x)=some (l.flatMap f)) (o:∀a,(f a).length=sz) (i:0<sz)
 (hp:(l.flatMap f).all V.pureLeaf=true) (w:l.length*b≤140737488355328) (k:l.length≤140737488355328)
 (h:∀ (t:Option (Nat × Nat)) (del:Option Nat) (add:List Nat),(∀c∈add,c=ub)→(∀c,del=some c→c=u)→WW K st d ub { v:=.sl t false l.length (l.flatMap f),del:=del,add:=add }):j6 E Yf ⟨d,.append false sz b s x,none,nm⟩ st ub K:=by
 cases l with
 | nil=>
  rw[jM _ rfl rfl]
  simp only[aop,p,n,Option.bind_some,List.flatMap_nil,if_true,List.length_nil,Nat.zero_mul,Wa]
  exact h _ none [] (fun u g=>by cases g) (fun u e=>by cases e)
 | cons a l=>
  have j:((a::l).flatMap f).length / sz=(a::l).length:=by rw[j7 o];exact Nat.mul_div_cancel _ i
  have m:(a::l).flatMap f≠[]:=fun e=>by have:=congrArg List.length e;rw[j7 o]at this;have:=Nat.mul_pos (show 0<(a::l).length by simp) i;simp_all
  refine Jz p g n m zS i hp (by rw[j,Nat.zero_add];exact w) (by rw[j,Nat.zero_add];exact k) ?_
  rw[j,Nat.zero_add,List.nil_append]
  exact h _ (some u) [ub] (fun u g=>by simpa using g) (fun c e=>by cases e;rfl)
end
@[simp] theorem j4i (s:List UInt8):(V.str s).strip1=.str s:=rfl
theorem endH1 {st:St}{p l u:Nat}{x y z:V}{g:Hist'}(k:st.df=[]) (hp:st.tm p=.ptr l u 0) (o:st.ob l=some ⟨u,.cells [x,y,z]⟩)
 (n:jcn st x g.sn g.ss.length (g.ss.flatMap Jj)) (w:jcn st y g.kn g.ks.length (g.ks.flatMap Jj)) (t:jcn st z g.tn g.ts.length (g.ts.flatMap ji)):∃r,ja7 [.cell p (some 3)] (.ret,st)=some r∧jqg r g:=by
 have m:(j0 st.ob l u)=some [x,y,z]:=by simp[j0,o]
 have d:[ARes.cell p (some 3)].mapM (jp st)=some [.agg [x,y,z]]:=by
  simp[jp,hp,m]
 obtain⟨a,s,h⟩:=n (nodup (List.flatMap V.toks [.agg [x,y,z]])) 0
 obtain⟨b,v,f⟩:=w (nodup (List.flatMap V.toks [.agg [x,y,z]])) 1
 obtain⟨c,q,i⟩:=t (nodup (List.flatMap V.toks [.agg [x,y,z]])) 2
 refine⟨.agg [.sl a g.sn g.ss.length (g.ss.flatMap Jj),.sl b g.kn g.ks.length (g.ks.flatMap Jj),.sl c g.tn g.ts.length (g.ts.flatMap ji)],?_,a,b,c,rfl,?_⟩
 ·simp only[ja7,Ym k,Yg k,if_true,d,Option.bind_some,Yv]
  generalize nodup (List.flatMap V.toks [.agg [x,y,z]])=keep at *
  simp only[JJ,XS,XV,s,v,q,Nat.zero_add,Option.bind_some,Option.map_some]
  have j:nodup (List.flatMap V.toks [.agg [.sl a g.sn g.ss.length (g.ss.flatMap Jj),.sl b g.kn g.ks.length (g.ks.flatMap Jj),.sl c g.tn g.ts.length (g.ts.flatMap ji)]])=true:=by
   have e:∀x y z:V,List.flatMap V.toks [.agg [x,y,z]]=x.tok++(y.tok++z.tok):=fun x y z=>by simp[V.toks]
   rw[e,jgs,jgs,jgs]
   rcases h with rfl|⟨_,rfl⟩ <;> rcases f with rfl|⟨_,rfl⟩ <;> rcases i with rfl|⟨_,rfl⟩ <;> rfl
  show(if nodup (List.flatMap V.toks [.agg [.sl a g.sn g.ss.length (g.ss.flatMap Jj),.sl b g.kn g.ks.length (g.ks.flatMap Jj),.sl c g.tn g.ts.length (g.ts.flatMap ji)]])=true then some (V.agg [.sl a g.sn g.ss.length (g.ss.flatMap Jj),.sl b g.kn g.ks.length (g.ks.flatMap Jj),.sl c g.tn g.ts.length (g.ts.flatMap ji)]) else none)=_
  rw[if_pos j]
 ·intro p hp
  simp only[List.mem_append]at hp
  rcases hp with(hp|hp)|hp
  ·rcases h with rfl|⟨_,rfl⟩
   ·simp at hp
   ·simp at hp;subst hp;simp
  ·rcases f with rfl|⟨_,rfl⟩
   ·simp at hp
   ·simp at hp;subst hp;simp
  ·rcases i with rfl|⟨_,rfl⟩
   ·simp at hp
   ·simp at hp;subst hp;simp
theorem jo3 {ub:Nat}{r:V}{g:Hist'}(h:jqg r g):∃a b c add,Xg ub r=some { v:=.agg [.sl a g.sn g.ss.length (g.ss.flatMap Jj),.sl b g.kn g.ks.length (g.ks.flatMap Jj),.sl c g.tn g.ts.length (g.ts.flatMap ji)],add:=add }:=by
 obtain⟨a,b,c,rfl,l⟩:=h
 have e:∀x y z:V,toksRes (.agg [x,y,z])=x.tok++(y.tok++z.tok):=fun x y z=>by simp[toksRes,V.toks]
 have j:(toksRes (.agg [.sl a g.sn g.ss.length (g.ss.flatMap Jj),.sl b g.kn g.ks.length (g.ks.flatMap Jj),.sl c g.tn g.ts.length (g.ts.flatMap ji)])).all (fun i=>Nat.blt i 64)=true:=by
  rw[e,List.all_eq_true]
  intro i o
  have:∃p∈a.toList++b.toList++c.toList,p.1=i:=by
   rw[List.mem_append,List.mem_append,tokm,tokm,tokm]at o
   rcases o with⟨p,f,h⟩|⟨p,f,h⟩|⟨p,f,h⟩
   ·exact⟨p,by simp[f],h⟩
   ·exact⟨p,by simp[f],h⟩
   ·exact⟨p,by simp[f],h⟩
  obtain⟨p,f,rfl⟩:=this
  rw[Nat.blt_eq]
  exact l p f
 have d:∀ (t:Option (Nat × Nat)) (m:Bool) (n:Nat) (cs:List V),∃q,Y3 ub (.sl t m n cs)=.sl q m n cs:=fun t m n cs=>by
  cases t with
  | none=>exact⟨none,rfl⟩
  | some p=>exact⟨_,rfl⟩
 obtain⟨F,u⟩:=d a g.sn g.ss.length (g.ss.flatMap Jj)
 obtain⟨B,D⟩:=d b g.kn g.ks.length (g.ks.flatMap Jj)
 obtain⟨w,s⟩:=d c g.tn g.ts.length (g.ts.flatMap ji)
 refine⟨F,B,w,(toksRes (.agg [.sl a g.sn g.ss.length (g.ss.flatMap Jj),.sl b g.kn g.ks.length (g.ks.flatMap Jj),.sl c g.tn g.ts.length (g.ts.flatMap ji)])).map (ub + ·),?_⟩
 rw[Xg,if_pos j]
 have k:jbo ub (.agg [.sl a g.sn g.ss.length (g.ss.flatMap Jj),.sl b g.kn g.ks.length (g.ks.flatMap Jj),.sl c g.tn g.ts.length (g.ts.flatMap ji)]) =
  .agg [Y3 ub (.sl a g.sn g.ss.length (g.ss.flatMap Jj)),Y3 ub (.sl b g.kn g.ks.length (g.ks.flatMap Jj)),Y3 ub (.sl c g.tn g.ts.length (g.ts.flatMap ji))]:=rfl
 rw[k,u,D,s]
theorem kS_evV {E:Env}{Yf:YF}{st:St}{ub:Nat}{K:St→Nat→Prop}{d:Option Nat}{nm:Bool}{q:A}{xs:List A}{f:FuncId}{first captured args:List V}{v:V}(a:Ev E f args v) (e:eval E st.tm q=.fn (.func f) first captured)
 (b:(first++xs.map (eval E st.tm)++captured).map V.strip=args) (c:E.sh nm f=false) (hp:args.all V.pureTop=true) (h:wpD (Xg ub v) (WW K st d ub)):j6 E Yf ⟨d,.callV q xs,none,nm⟩ st ub K:=by
 refine jqq e ⟨⟨c,?_⟩,v,by rw[b];exact a,h⟩
 rw[← b,List.all_map]at hp
 exact hp
@[simp] theorem fn_strip0 (f:Fn):(V.fn f [] []).strip=.fn f [] []:=rfl
@[simp] theorem j28 (f:Fn):(V.fn f [] []).pureTop=true:=rfl
def SlR (v:V) (nl:Bool) (n:Nat) (cs:List V):Prop:=∃t:Option (Nat × Nat),v=.sl t nl n cs∧∀p∈t.toList,p.1<64
theorem jzc {st:St}{n k:Nat}{t:Option (Nat × Nat)}{nl:Bool}{cs:List V}(g:st.df=[]) (h:st.tm n=.sl t nl k cs):∃r,ja7 [.t n] (.ret,st)=some r∧SlR r nl k cs:=by
 have b:[ARes.t n].mapM (jp st)=some [.sl t nl k cs]:=by simp[jp,h]
 obtain⟨a,i,c⟩:=WB st t nl k cs (nodup (List.flatMap V.toks [.sl t nl k cs])) 0
 refine⟨.sl a nl k cs,?_,a,rfl,?_⟩
 ·simp only[ja7,Ym g,Yg g,if_true,b,Option.bind_some,Yv]
  generalize nodup (List.flatMap V.toks [.sl t nl k cs])=keep at *
  have e:XS st keep 0 (.sl t nl k cs)=some (.sl a nl k cs):=i
  simp only[JJ,e,Option.bind_some,Option.map_some]
  have f:nodup (List.flatMap V.toks [.sl a nl k cs])=true:=by
   rcases c with rfl|⟨_,rfl⟩ <;> rfl
  show(if nodup (List.flatMap V.toks [.sl a nl k cs])=true then some (V.sl a nl k cs) else none)=_
  rw[if_pos f]
 ·intro p d
  rcases c with rfl|⟨_,rfl⟩
  ·simp at d
  ·simp at d;subst d;simp
theorem jk5 {ub:Nat}{v:V}{nl:Bool}{n:Nat}{cs:List V}(h:SlR v nl n cs):∃t add,Xg ub v=some { v:=.sl t nl n cs,add:=add }:=by
 obtain⟨t,rfl,a⟩:=h
 cases t with
 | none=>exact⟨none,[],rfl⟩
 | some p=>
  have:=a p zS
  refine⟨some (ub+p.1,p.2),[ub+p.1],?_⟩
  rw[Xg,if_pos (by simp[toksRes,V.toks,V.tok,Nat.blt_eq,this])]
  rfl
theorem slE {st:St}{n k:Nat}{t:Option (Nat × Nat)}{nl:Bool}{cs:List V}{P:V→Prop}(c:∀r,SlR r nl k cs→P r) (a:st.df=[]) (h:st.tm n=.sl t nl k cs):jbl [.t n] P .ret st:=by
 obtain⟨r,b,d⟩:=jzc a h
 exact⟨r,b,c r d⟩
def j0e (l:List Int) (v:V):Prop:=∃nl,SlR v nl l.length (l.flatMap intC)
theorem ev160 (t:Txn'):Ev E 160 [.agg (ji t)] (.bool (X1 t)):=by
 refine jP (af:=F160) rfl ?_
 simp[F160,ji,j0]
 exact j3 rfl (by simp[X1]) rfl
theorem Yh {g:Hist'}(a:Wp g=true):errH g=0:=by unfold errH;rw[a];rfl
theorem ev159 {g:Hist'}(z:Small g) (F:Wp g=true):∃v,Ev E 159 [.agg (histC g),.fn (.func 160) [] []] v∧j0e (XT g) v:=by
 have n:=jp1 z
 rw[Yh F]at n
 have H:=z.ts
 refine XP (af:=F159) rfl zD ?_
 simp[F159,histC,j0]
 refine jR n (by simp[histC]) rfl (by simp[histC]) ?_
 simp[j0]
 refine j9 [(4,7),(14,26)] g.ts.length (fun i s=>s.tm 14=.int .i64 i∧Grow s.tk 0 s.nx intC 1 (numsTo X1 g.ts i) (s.tm 5)) rfl rfl ⟨zS,by simp[numsTo];exact Grow.nil _ _ _ _ _⟩ ?_
 rintro i s hi ⟨j,w⟩ f
 have J:s.tm 1=.fn (.func 160) [] []:=by rw[f.t 1 zS];simp
 have y:s.tm 12=slOf g.tn ji g.ts:=by rw[f.t 12 zS];simp
 have m:s.tm 13=.int .i64 g.ts.length:=by rw[f.t 13 zS];simp
 have K:s.df=[]:=by rw[f.d];simp
 have G:s.fb=0:=by rw[f.b];simp
 have fr:s.ro=0:=by rw[f.r];simp
 clear f
 by_cases e:i<g.ts.length
 ·have B:=jh e zO
  have c:=Jc (p:=X1) e
  obtain⟨t,q⟩:∃t,g.ts[i]=t:=⟨_,rfl⟩
  rw[q]at c
  have I:=JG X1 g.ts i
  simp[j,y,m,e,j4 j8,jb j8,q,ji,j0,G,fr,j5,J]
  refine kS_evV (f:=160) (first:=[]) (captured:=[]) (ev160 t) zS (by simp[ji]) rfl (by simp[ji]) ?_
  cases hi:X1 t
  ·rw[hi]at c
   simp only[Bool.false_eq_true,if_false,List.append_nil]at c
   simp[j,B]
   exact⟨e,by rw[c];exact w.mono (fun u _ _ h=>by simpa[JD] using h) zO⟩
  ·rw[hi]at c
   simp only[if_true]at c
   simp
   refine jS (cs:=[.int .i64 i]) (by simp[j5]) rfl rfl ?_
   simp
   refine YB (f:=intC) (lo:=0) (hi:=s.nx) (l:=numsTo X1 g.ts i) (a:=(i:Int)) (v:=s.tm 5) (w.mono (fun u _ _ h=>by simp[JC,h]) zR) zS (by simp[jI,intC]) jC zD rfl zO zO (fun L D=>?_)
   have x:numsTo X1 g.ts (i+1)≠[]:=by rw[c];simp
   have o:(numsTo X1 g.ts i).length+1=(numsTo X1 g.ts (i+1)).length:=by rw[c];simp
   rw[← c,o]
   simp[j,B]
   exact⟨e,.inr ⟨x,_,rfl,by simp[JC],Nat.zero_le _,zO⟩⟩
 ·have:i=g.ts.length:=zO
  subst this
  obtain⟨t,q⟩:=w.form
  simp[j,m]
  exact slE (t:=t) (nl:=(numsTo X1 g.ts g.ts.length).isEmpty) (k:=(XT g).length) (cs:=(XT g).flatMap intC) (fun r h=>⟨_,h⟩) (by simp[K]) (by simp[q,XT])
theorem ev104 {g:Hist'}(a:Small g) (b:Wp g=true):∃v,Ev E 104 [.agg (histC g)] v∧j0e (XT g) v:=by
 obtain⟨v,d,nl,e⟩:=ev159 a b
 refine XP (af:=F104) rfl zD ?_
 simp[F104,histC,j0]
 refine jR d (by simp[histC]) rfl (by simp[histC]) ?_
 obtain⟨t,add,c⟩:=jk5 (ub:=192) e
 rw[c]
 simp
 exact slE (t:=t) (nl:=nl) (k:=(XT g).length) (cs:=(XT g).flatMap intC) (fun r h=>⟨_,h⟩) rfl zS
theorem j5l {st:St}{n k l u:Nat}{t:Option (Nat × Nat)}{nl:Bool}{cs:List V}{P:V→Prop}(c:∀r,SlR r nl k cs→P r) (a:st.df=[(l,u)]) (d:st.ob l=some ⟨u,.dfr⟩) (e:st.ro≤u) (h:st.tm n=.sl t nl k cs):jbl [.t n] P .ret st:=by
 obtain⟨r,b,f⟩:=jzc (st:={ st with ob:=fun k=>if Nat.beq l k then none else st.ob k,df:=[] }) rfl h
 exact⟨r,Ww a d e b,c r f⟩
def jD (p:Int × Int):List V:=[.int .i64 p.1,.int .i64 p.2]
@[simp] theorem jO (p:Int × Int):(jD p).length=2:=rfl
def jd9 (i:Nat) (ops:List Op'):Nat→List (Int × Int)
 | 0=>[]
 | k+1=>jd9 i ops k++(match ops[k]? with|some o=>if o.v.kind == 2 then [((i:Int),(k:Int))] else []|none=>[])
def jd8 (ts:List Txn'):Nat→List (Int × Int)
 | 0=>[]
 | i+1=>jd8 ts i++(match ts[i]? with|some t=>jd9 i t.ops t.ops.length|none=>[])
def X0 (h:Hist') (i k:Nat):List (Int × Int):=jd8 h.ts i++(match h.ts[i]? with|some t=>jd9 i t.ops k|none=>[])
def jbj (h:Hist'):List (Int × Int):=jd8 h.ts h.ts.length
theorem jbi (i:Nat) (ops:List Op'):∀k,(jd9 i ops k).length≤k
 | 0=>Nat.le_refl _
 | k+1=>by
  have:=jbi i ops k
  simp only[jd9,List.length_append]
  split
  ·split <;> simp <;> omega
  ·simp;omega
theorem jbh {ts:List Txn'}(h:∀t∈ts,t.ops.length≤1000):∀i,(jd8 ts i).length≤i*1000
 | 0=>Nat.zero_le _
 | i+1=>by
  have:=jbh h i
  simp only[jd8,List.length_append]
  rw[show(i+1)*1000=i*1000+1000 by omega]
  split
  ·rename_i t a
   have c:=jbi i t.ops t.ops.length
   have b:=h t (List.mem_of_getElem? a)
   omega
  ·simp only[List.length_nil];omega
theorem jeb {h:Hist'}{i k:Nat}(hi:i<h.ts.length) (a:k<(h.ts[i]).ops.length):X0 h i (k+1)=X0 h i k++(if (h.ts[i]).ops[k].v.kind == 2 then [((i:Int),(k:Int))] else []):=by
 simp only[X0,List.getElem?_eq_getElem hi,jd9,List.getElem?_eq_getElem a,List.append_assoc]
theorem jec {h:Hist'}{i:Nat}(hi:i<h.ts.length):X0 h i (h.ts[i]).ops.length=X0 h (i+1) 0:=by
 simp only[X0,List.getElem?_eq_getElem hi,jd8]
 cases h.ts[i+1]? <;> simp[jd9]
theorem jga (h:Hist'):X0 h h.ts.length 0=jbj h:=by simp[X0,jbj]
theorem jea (h:Hist'):X0 h 0 0=[]:=by unfold X0;cases h.ts[0]? <;> rfl
theorem jf9 {h:Hist'}(a:Small h) {i k:Nat}(hi:i<h.ts.length) (c:k≤(h.ts[i]).ops.length):(X0 h i k).length≤1001000:=by
 have d:=jbh a.os i
 have f:=a.ts
 have b:=jbi i (h.ts[i]).ops k
 have e:=a.os _ (List.getElem_mem hi)
 simp only[X0,List.getElem?_eq_getElem hi,List.length_append]
 have:i*1000≤1000*1000:=Nat.mul_le_mul_right _ zO
 omega
def PlR (l:List (Int × Int)) (v:V):Prop:=∃nl,SlR v nl l.length (l.flatMap jD)
theorem ev105 {g:Hist'}(z:Small g) (hm:Wp g=true):∃v,Ev E 105 [.agg (histC g)] v∧PlR (jbj g) v:=by
 have w:=jp1 z
 rw[Yh hm]at w
 have L:=z.ts
 refine XP (af:=F105) rfl zD ?_
 simp[F105,histC,j0]
 refine jR w (by simp[histC]) rfl (by simp[histC]) ?_
 simp[j0]
 refine jar (vs:=[.agg (histC g)]) (by simp[histC]) rfl ?_
 obtain⟨r,X,T,D,e3,P⟩:=j3i (Yf:=Xx) g _ _ 0 _ _
 refine⟨r,X,?_⟩
 simp
 refine jj fun c d=>?_
 obtain⟨m,c0,c1,F,p2,H,pl⟩:∃m,m % 64=0∧m<c.nx∧c.tm 10=.fn (.func 215) [] [.ptr (2*m+1) m 0]∧c.ob 2=some ⟨0,.cells (histC g)⟩∧(∃u,c.tm 3=.ptr 6 u 0∧c.ob 6=some ⟨u,.cells [.sl none true 0 []]⟩)∧c.ob (2*m+1)=some ⟨m,.cells (histC g)⟩:=by
  refine⟨_,?_,?_,by rw[d];simp only[jk2,put,YV];exact T,?_,⟨320,?_,?_⟩,?_⟩
  ·decide
  ·rw[d,jgz,P];omega
  ·rw[d];simp only[J8];rw[D];simp[histC]
  ·rw[d];simp[put,j2]
  ·rw[d];simp only[J8];rw[D];simp
  ·rw[d];simp only[J8];rw[D];simp
 obtain⟨u6,G,H⟩:=H
 have gd:c.df=[]:=by rw[d];simp
 have gb:c.fb=0:=by rw[d];simp
 have N:c.ro=0:=by rw[d];simp
 clear d T D e3 P X
 refine jfx g L (fun t ht=>by have:=z.os t ht;omega) rfl rfl rfl (by simpa using F) pl zO zO N
  (fun i k ob s q=>∃j,ob 6=some ⟨u6,.cells [j]⟩∧Grow s 0 q jD 2 (X0 g i k) j) ?_ ?_ ?_ ?_ ?_
 ·rintro i k ob b9 s q b7 ⟨j,n,e⟩ p J
  exact⟨j,(J 6 (fun m _=>by omega)).trans n,e.mono (fun _ _ _ h=>h) p⟩
 ·rintro i hi ob s q ⟨j,n,e⟩
  exact⟨j,n,by rw[← jec hi];exact e⟩
 ·rintro i hi k U ob s q ⟨j,n,e⟩ w1 B p
  have r1:¬ 2*c.nx+1=8:=zO
  have r3:¬ 2*c.nx+1=10:=zO
  have r5:¬ 2*c.nx+1=6:=zO
  have O:¬ 2*c.nx+3=8:=zO
  have Z:¬ 2*c.nx+3=10:=zO
  have q5:¬ 2*c.nx+3=6:=zO
  have q7:¬ 2*c.nx+3=2*c.nx+1:=zO
  have b8:¬ 8=2*c.nx+1:=zO
  have I:¬ 10=2*c.nx+1:=zO
  have M:¬ 6=2*c.nx+1:=zO
  have b:=jeb hi U
  have b0:=jf9 z hi (Nat.le_of_lt U)
  obtain⟨o,ho⟩:∃o,(g.ts[i]).ops[k]=o:=⟨_,rfl⟩
  rw[ho]at b ⊢
  obtain⟨S,y⟩:=e.form
  simp[jdh,j2,opC,j0,gb,j5,r1,r3,w1,I]
  cases Q:(o.v.kind == 2)
  ·rw[Q]at b
   simp only[Bool.false_eq_true,if_false,List.append_nil]at b
   simp[j2,O,Z,B,M,n]
   exact⟨zO,by rw[b];exact e.mono (fun u _ _ h=>by simpa[JD] using h) zO⟩
  ·rw[Q]at b
   simp only[if_true]at b
   simp[G,j2,M,n,j0,b8]
   refine jS (cs:=jD (i,k)) (by simp[j5,jD]) rfl rfl ?_
   simp
   refine YB (f:=jD) (lo:=0) (hi:=q) (l:=X0 g i k) (a:=((i:Int),(k:Int))) (v:=j) (e.mono (fun u _ _ h=>by simp[JD,JC,h]) zR) zS (by simp[jI,jD]) jO zD rfl zO zO (fun b5 a0=>?_)
   have K:X0 g i (k+1)≠[]:=by rw[b];simp
   have x:(X0 g i k).length+1=(X0 g i (k+1)).length:=by rw[b];simp
   rw[← b,x]
   simp[G,j2,M,n,j0,j5,r5,q5,O,Z,B]
   exact⟨zO,.inr ⟨K,_,rfl,by simp[JD,JC],Nat.zero_le _,zO⟩⟩
 ·exact⟨_,H,by rw[jea];exact Grow.nil _ _ _ _ _⟩
 ·rintro ob s q ⟨j,n,e⟩ B p
  rw[jga]at e
  obtain⟨S,y⟩:=e.form
  simp[G,j0,n,y]
  exact j5l (l:=2*c.nx+3) (u:=c.nx+1) (t:=S) (nl:=(jbj g).isEmpty) (k:=(jbj g).length) (cs:=(jbj g).flatMap jD) (fun r h=>⟨_,h⟩) (by simp[gd]) (by simp[B]) (by simp[N]) zS
def GrowT {α:Type}(tk:Nat→Bool) (nx:Nat) (f:α→List V) (sz:Nat) (l:List α) (v:V):Prop:=∃u,v=.sl (some (u,sz)) false l.length (l.flatMap f)∧tk u=true∧u<nx
theorem GrowT.mono {b:Type}{tk a:Nat→Bool}{nx nx':Nat}{f:b→List V}{sz:Nat}{l:List b}{v:V}(h:GrowT tk nx f sz l v) (d:∀u,u<nx→tk u=true→a u=true) (i:nx≤nx'):GrowT a nx' f sz l v:=by
 obtain⟨u,g,c,e⟩:=h
 exact⟨u,g,d u e c,zO⟩
theorem QF {E:Env}{Yf:YF}{st:St}{ub:Nat}{K:St→Nat→Prop}{d:Option Nat}{nm:Bool}{k:Type}{f:k→List V}{sz b hi:Nat}{l:List k}{a:k}{v:V}{s x:A}(p:GrowT st.tk hi f sz l v) (q:eval E st.tm s=v) (o:jI st.ob sz (eval E st.tm x)=some (f a)) (i:∀a,(f a).length=sz) (m:0<sz)
 (hp:(f a).all V.pureLeaf=true) (r:(l.length+1)*b≤140737488355328) (g:l.length+1≤140737488355328)
 (h:∀del:Option Nat,(∀u,del=some u→u<hi)→WW K st d ub { v:=.sl (some (ub,sz)) false (l.length+1) ((l++[a]).flatMap f),del:=del,add:=[ub] }):j6 E Yf ⟨d,.append false sz b s x,none,nm⟩ st ub K:=by
 have j:f a≠[]:=fun e=>by have:=i a;rw[e]at this;simp at this;omega
 have c:(f a).length / sz=1:=by rw[i];exact Nat.div_self m
 obtain⟨u,rfl,t,n⟩:=p
 refine Jz q t o j (by rw[j7 i]) m hp (by rw[c];exact r) (by rw[c];exact g) ?_
 rw[c]
 have:=h (some u) (fun w e=>by cases e;exact n)
 simpa using this
theorem ev60 {g:Hist'}(G:Small g):∃v,Ev E 60 [.agg (histC g)] v∧PlR (jbj g) v:=by
 have X:=G.ts
 refine XP (af:=F60) rfl zD ?_
 simp[F60,histC]
 refine jS (cs:=[]) rfl rfl rfl ?_
 simp
 refine j9 [(3,5),(7,42)] g.ts.length (fun i s=>s.tm 4=.int .i64 i∧s.ob 2=some ⟨0,.cells (histC g)⟩∧GrowT s.tk s.nx jD 2 (X0 g i 0) (s.tm 3)) rfl rfl ⟨zS,by simp[histC],by rw[jea];exact⟨128,zS,by simp[JC],zS⟩⟩ ?_
 rintro i s hi ⟨H,F,J⟩ f
 have L:s.tm 1=.ptr 2 0 0:=by rw[f.t 1 zS];simp
 have N:s.df=[]:=by rw[f.d];simp
 clear f
 by_cases c:i<g.ts.length
 ·have S:=jh c zO
  simp[H,L,F,j0,histC,c]
  refine j9 [(3,3),(5,5),(14,42)] (g.ts[i]).ops.length (fun k j=>j.tm 5=.int .i64 k∧j.ob=s.ob∧GrowT j.tk j.nx jD 2 (X0 g i k) (j.tm 3)) rfl rfl ⟨zS,zS,by simp;exact J.mono (fun _ _ h=>h) zO⟩ ?_
  rintro k j hk ⟨D,p,m⟩ f
  have K:j.tm 1=.ptr 2 0 0:=by rw[f.t 1 zS];simp[L]
  have I:j.tm 4=.int .i64 i:=by rw[f.t 4 zS];simp[H]
  have Z:j.df=[]:=by rw[f.d];simp[N]
  clear f
  have x:j.ob 2=some ⟨0,.cells (histC g)⟩:=by rw[p];exact F
  obtain⟨t,z⟩:∃t,g.ts[i]=t:=⟨_,rfl⟩
  have U:=G.os t (z▸List.getElem_mem c)
  have n:(g.ts.flatMap ji)[i*3+2]? = some (slOf t.nl opC t.ops):=by
   rw[jW j8 g.ts c (by decide:2<3),z];rfl
  by_cases e:k<(g.ts[i]).ops.length
  ·have b:=jeb c e
   have Q:=jf9 G c (Nat.le_of_lt e)
   obtain⟨o,M⟩:∃o,(g.ts[i]).ops[k]=o:=⟨_,rfl⟩
   rw[M]at b
   subst z
   have q:=jh e zO
   have w:((g.ts[i]).ops.flatMap opC)[k*4+2]? = some (.int .i64 o.v.kind):=by
    rw[jW jF (g.ts[i]).ops e (by decide:2<4),M];rfl
   cases B:(o.v.kind == 2)
   ·rw[B]at b
    simp only[Bool.false_eq_true,if_false,List.append_nil]at b
    simp[D,K,I,j0,histC,c,j4 j8,n,e,j4 jF,w,B,q,p,F]
    rw[b]
    exact m.mono (fun _ _ h=>h) zO
   ·rw[B]at b
    simp only[if_true]at b
    simp[D,K,I,x,j0,histC,c,j4 j8,n,e,j4 jF,w,B,j5]
    refine jS (cs:=jD (i,k)) (by simp[j5,jD]) rfl rfl ?_
    simp
    refine QF (f:=jD) (hi:=j.nx) (l:=X0 g i k) (a:=((i:Int),(k:Int))) (v:=j.tm 3) (m.mono (fun u _ h=>by simp[JC,h]) zR) zS (by simp[jI,jD]) jO zD rfl zO zO (fun T O=>?_)
    have y:(X0 g i k).length+1=(X0 g i (k+1)).length:=by rw[b];simp
    rw[← b,y]
    simp[D,q,p]
    exact⟨e,_,rfl,by simp[JC],zO⟩
  ·have:k=(g.ts[i]).ops.length:=zO
   subst this
   subst z
   simp[D,K,I,x,j0,histC,c,j4 j8,n,S]
   rw[← jec c]
   exact m.mono (fun _ _ h=>h) zO
 ·have:i=g.ts.length:=zO
  subst this
  rw[jga]at J
  obtain⟨u,P,_,_⟩:=J
  simp[H,L,F,j0,histC]
  exact slE (t:=some (u,2)) (nl:=false) (k:=(jbj g).length) (cs:=(jbj g).flatMap jD) (fun r h=>⟨_,h⟩) (by simp[N]) (by simp[P])
def wkB (k:Int) (o:Op'):Bool:=o.w && o.key == k
def wrB (k:Int) (t:Txn'):Bool:=t.f != 2 && t.ops.any (wkB k)
def KeyAt (k:Int) (ob:ZO) (l u:Nat):Prop:=l % 2=0∧ob l=some ⟨u,.cells [.int .i64 k]⟩
theorem evo296 {k:Int}{ob:ZO}{l u:Nat}(c:KeyAt k ob l u) (o:Op') (tk:Nat→Bool) (base ub:Nat):EvO E 296 [.agg (opC o),.ptr l u 0] ob tk base ub (.bool (wkB k o)):=by
 obtain⟨e,d⟩:=c
 refine X6 (af:=S296) rfl ?_
 have a:¬ l=2*ub+1:=zO
 unfold wkB
 cases b:o.w
 ·simp[S296,opC,j0,b]
  exact j3 rfl zS rfl
 ·simp[S296,opC,j0,b,a,d]
  exact j3 rfl zS rfl
theorem evo305 {p:Op'→Bool}{g:FuncId}{cap:V}{ob:ZO}(y:E.sh true g=false) (e:cap.strip.pureTop=false) (hp:∀ (t:Op') (tk:Nat→Bool) (base ub:Nat),EvO E g [.agg (opC t),cap] ob tk base ub (.bool (p t)))
 (nl:Bool) (l:List Op') (u:l.length≤1000000000) (tk:Nat→Bool) (base ub:Nat):EvO E 305 [slOf nl opC l,.fn (.func g) [] [cap]] ob tk base ub (.int .i64 (jcb p l)):=by
 refine X6 (af:=S305) rfl ?_
 simp[S305]
 refine j9 [(4,5),(8,18)] l.length (fun i s=>s.tm 8=.int .i64 i∧s.ob=ob∧∀j (b:j<l.length),j<i→p l[j]=false) rfl rfl ⟨zS,zS,fun _ _ h=>by omega⟩ ?_
 rintro i s B ⟨n,o,m⟩ f
 have w:s.tm 0=slOf nl opC l:=by rw[f.t 0 zS];simp
 have x:s.tm 1=.fn (.func g) [] [cap]:=by rw[f.t 1 zS];simp
 have r:s.tm 7=.int .i64 l.length:=by rw[f.t 7 zS];simp
 have q:s.df=[]:=by rw[f.d];simp
 clear f
 by_cases a:i<l.length
 ·have z:=jh a u
  simp[w,x,r,n,a,j4 jF,jb jF]
  refine jaq (f:=g) (first:=[]) (captured:=[cap]) zS y (by simp[e]) (v:=.bool (p l[i])) (by simpa[o] using hp l[i] _ _ _) ?_
  cases c:p l[i]
  ·simp[n,z]
   refine⟨a,o,?_⟩
   intro j b k
   rcases Nat.lt_succ_iff_lt_or_eq.1 k with h|rfl
   ·exact m j b h
   ·exact c
  ·simp
   refine j3 (by simpa using q) ?_ rfl
   simp
   rw[jca a c m]
 ·have:i=l.length:=zO
  subst this
  simp[r,n]
  refine j3 (by simpa using q) ?_ rfl
  simp[jep (fun j b=>m j b b)]
theorem evo295 {p:Op'→Bool}{g:FuncId}{ob:ZO}{a b c:Nat}(e:E.sh true g=false) (hp:∀ (t:Op') (tk:Nat→Bool) (base ub:Nat),EvO E g [.agg (opC t),.ptr a b c] ob tk base ub (.bool (p t)))
 (nl:Bool) (l:List Op') (d:l.length≤1000000000) (tk:Nat→Bool) (base ub:Nat):EvO E 295 [slOf nl opC l,.fn (.func g) [] [.ptr a b c]] ob tk base ub (.bool (l.any p)):=by
 refine X6 (af:=S295) rfl ?_
 simp[S295]
 refine js (vs:=[slOf nl opC l,.fn (.func g) [] [.ptr a b c]]) zS rfl rfl (evo305 e rfl hp nl l d _ _ _) ?_
 simp
 exact j3 rfl (by simp[jgh]) rfl
theorem evo294 {k:Int}{ob:ZO}{l u:Nat}(c:KeyAt k ob l u) (t:Txn') (i:t.ops.length≤1000000) (tk:Nat→Bool) (base ub:Nat):EvO E 294 [.agg (ji t),.ptr l u 0] ob tk base ub (.bool (wrB k t)):=by
 have b:¬ l=2*ub+1:=by have:=c.1;omega
 refine X6 (af:=S294) rfl ?_
 unfold wrB
 cases d:(t.f != 2)
 ·simp[S294,ji,j0,d]
  exact j3 rfl zS rfl
 ·simp[S294,ji,j0,d]
  refine js (vs:=[slOf t.nl opC t.ops,.fn (.func 296) [] [.ptr l u 0]]) zS rfl rfl (evo295 (p:=wkB k) rfl (fun e tk base a=>evo296 ?_ e tk base a) t.nl t.ops zO _ _ _) ?_
  ·obtain⟨h,g⟩:=c
   exact⟨h,by simp[b,g]⟩
  ·simp
   exact j3 rfl zS rfl
def writersH (g:Hist') (k:Int):List Int:=numsTo (wrB k) g.ts g.ts.length
theorem ev281 {g:Hist'}(z:Small g) (G:Wp g=true) (k:Int):∃v,Ev E 281 [.agg (histC g),.int .i64 k] v∧j0e (writersH g k) v:=by
 have m:=jp1 z
 rw[Yh G]at m
 have J:=z.ts
 refine XP (af:=F281) rfl zD ?_
 simp[F281,histC,j0]
 refine jR m (by simp[histC]) rfl (by simp[histC]) ?_
 simp[j0]
 refine j9 [(4,4),(6,8),(16,28)] g.ts.length (fun i s=>s.tm 16=.int .i64 i∧s.ob 6=some ⟨64,.cells [.int .i64 k]⟩∧Grow s.tk 0 s.nx intC 1 (numsTo (wrB k) g.ts i) (s.tm 6)) rfl rfl ⟨zS,zS,by simp[numsTo];exact Grow.nil _ _ _ _ _⟩ ?_
 rintro i s hi ⟨j,B,x⟩ f
 have K:s.tm 5=.fn (.func 294) [] [.ptr 6 64 0]:=by rw[f.t 5 zS];simp
 have w:s.tm 14=slOf g.tn ji g.ts:=by rw[f.t 14 zS];simp
 have n:s.tm 15=.int .i64 g.ts.length:=by rw[f.t 15 zS];simp
 have M:s.df=[]:=by rw[f.d];simp
 have H:s.fb=0:=by rw[f.b];simp
 have fr:s.ro=0:=by rw[f.r];simp
 clear f
 by_cases e:i<g.ts.length
 ·have D:=jh e zO
  have c:=Jc (p:=wrB k) e
  obtain⟨t,o⟩:∃t,g.ts[i]=t:=⟨_,rfl⟩
  rw[o]at c
  have I:=z.os t (o▸List.getElem_mem e)
  have L:=JG (wrB k) g.ts i
  simp[j,w,n,e,j4 j8,jb j8,o,ji,j0,H,fr,j5,K]
  refine jaq (f:=294) (first:=[]) (captured:=[.ptr 6 64 0]) zS rfl (by simp;rfl) (evo294 (k:=k) (l:=6) (u:=64) ⟨rfl,by simp[B]⟩ t zO _ _ _) ?_
  cases hi:wrB k t
  ·rw[hi]at c
   simp only[Bool.false_eq_true,if_false,List.append_nil]at c
   simp[j,D,B]
   exact⟨e,by rw[c];exact x.mono (fun u _ _ h=>by simpa[JD] using h) zO⟩
  ·rw[hi]at c
   simp only[if_true]at c
   simp
   refine jS (cs:=[.int .i64 i]) (by simp[j5]) rfl rfl ?_
   simp
   refine YB (f:=intC) (lo:=0) (hi:=s.nx) (l:=numsTo (wrB k) g.ts i) (a:=(i:Int)) (v:=s.tm 6) (x.mono (fun u _ _ h=>by simp[JC,h]) zR) zS (by simp[jI,intC]) jC zD rfl zO zO (fun N F=>?_)
   have y:numsTo (wrB k) g.ts (i+1)≠[]:=by rw[c];simp
   have q:(numsTo (wrB k) g.ts i).length+1=(numsTo (wrB k) g.ts (i+1)).length:=by rw[c];simp
   rw[← c,q]
   simp[j,D,B]
   exact⟨e,.inr ⟨y,_,rfl,by simp[JC],Nat.zero_le _,zO⟩⟩
 ·have:i=g.ts.length:=zO
  subst this
  obtain⟨t,o⟩:=x.form
  simp[j,n]
  exact slE (t:=t) (nl:=(numsTo (wrB k) g.ts g.ts.length).isEmpty) (k:=(writersH g k).length) (cs:=(writersH g k).flatMap intC) (fun r h=>⟨_,h⟩) (by simp[M]) (by simp[o,writersH])
def jnc (g:Hist'):Nat→Nat
 | 0=>0
 | i+1=>max (jnc g i) (writersH g i).length
def mostH (g:Hist'):Nat:=jnc g g.ks.length
theorem jjk {g:Hist'}(a:Small g):∀i,jnc g i≤1000
 | 0=>Nat.zero_le _
 | i+1=>by
  have d:=jjk a i
  have c:=JG (wrB i) g.ts g.ts.length
  have b:=a.ts
  simp only[jnc,writersH]
  omega
def JM (k:Int) (ops:List Op'):Nat→Val' × Bool
 | 0=>(⟨0,0⟩,false)
 | i+1=>match ops[i]? with
  | some o=>if wkB k o then (o.v,true) else JM k ops i
  | none=>JM k ops i
theorem Q7 {k:Int}{ops:List Op'}{i:Nat}(h:i<ops.length):JM k ops (i+1)=if wkB k ops[i] then (ops[i].v,true) else JM k ops i:=by simp[JM,List.getElem?_eq_getElem h]
theorem jdw (k:Int) (ops:List Op'):∀i,i≤ops.length→(JM k ops i).2=(ops.take i).any (wkB k)
 | 0,_=>by simp[JM]
 | i+1,h=>by
  rw[Q7 zO,List.take_succ_eq_append_getElem zO,List.any_append,← jdw k ops i zO]
  cases a:wkB k ops[i] <;> simp[a]
theorem ev84 (t:Txn') (K:t.ops.length≤1000000) (k:Int):Ev E 84 [.agg (ji t),.int .i64 t.ops.length,.int .i64 k] (.tup [.agg (jv (JM k t.ops t.ops.length).1),.bool (JM k t.ops t.ops.length).2]):=by
 refine jP (af:=F84) rfl ?_
 simp[F84,ji,j0,j5]
 refine j9 [(9,10),(12,45)] t.ops.length (fun i s=>s.tm 10=.int .i64 i∧s.ob 6=some ⟨0,.cells (ji t)⟩∧s.ob 12=some ⟨64,.cells [.int .i64 0,.int .i64 0]⟩∧s.ob 16=some ⟨256,.cells (jv (JM k t.ops i).1)⟩∧s.tm 9=.bool (JM k t.ops i).2) rfl rfl
  ⟨zS,by simp[ji],zS,by simp[JM,jv],by simp[JM]⟩ ?_
 rintro i s J ⟨g,z,m,h,u⟩ f
 have q:s.tm 1=.int .i64 t.ops.length:=by rw[f.t 1 zS];simp
 have F:s.tm 2=.int .i64 k:=by rw[f.t 2 zS];simp
 have x:s.tm 3=.ptr 6 0 0:=by rw[f.t 3 zS];simp
 have G:s.tm 6=.ptr 12 64 0:=by rw[f.t 6 zS];simp
 have D:s.tm 8=.ptr 16 256 0:=by rw[f.t 8 zS];simp
 have I:s.df=[]:=by rw[f.d];simp
 have fr:s.ro=0:=by rw[f.r];simp
 clear f
 by_cases a:i<t.ops.length
 ·have B:=jh a zO
  have c:=Q7 (k:=k) a
  obtain⟨o,p⟩:∃o,t.ops[i]=o:=⟨_,rfl⟩
  rw[p]at c
  have y:(t.ops.flatMap opC)[i*4]? = some (.bool o.w):=by
   have:=jW jF t.ops a (by decide:0<4)
   rw[Nat.add_zero,p]at this
   rw[this];rfl
  have a1:(t.ops.flatMap opC)[i*4+1]? = some (.int .i64 o.key):=by
   rw[jW jF t.ops a (by decide:1<4),p];rfl
  have a2:∀ob,Yw ob (some 2) (.eptr (t.ops.flatMap opC) (i*4+2))=some (.agg (jv o.v)):=fun ob=>by
   have H:i*4+4≤t.ops.length*4:=zO
   rw[jbk,Q9,if_pos (by rw[j7 jF];omega)]
   have:=Xb jF t.ops i a
   rw[p]at this
   have e:((t.ops.flatMap opC).drop (i*4+2)).take 2=((((t.ops.flatMap opC).drop (i*4)).take 4).drop 2):=by
    rw[List.drop_take,List.drop_drop]
   rw[e,this]
   rfl
  cases b:o.w
  ·have n:wkB k o=false:=by unfold wkB;rw[b];rfl
   rw[n]at c
   simp only[Bool.false_eq_true,if_false]at c
   simp[g,q,x,z,j0,ji,a,j4 jF,y,b,B,m,h,u]
   exact⟨by rw[c],by rw[c]⟩
  ·cases j:(o.key == k)
   ·have n:wkB k o=false:=by unfold wkB;rw[b,j];rfl
    rw[n]at c
    simp only[Bool.false_eq_true,if_false]at c
    simp[g,q,F,x,z,j0,ji,a,j4 jF,y,a1,b,j,B,m,h,u]
    exact⟨by rw[c],by rw[c]⟩
   ·have n:wkB k o=true:=by unfold wkB;rw[b,j];rfl
    rw[n]at c
    simp only[if_true]at c
    simp[g,q,F,x,D,z,j0,ji,a,j4 jF,y,a1,a2,b,j,B,m,h,jv,fr,j5]
    rw[c]
    simp
 ·have:i=t.ops.length:=zO
  subst this
  simp[g,q,D,h,j0,u,G,m,jv,fr,j5]
  exact J0 (by simp[I]) (l:=[.agg (jv (JM k t.ops t.ops.length).1),.bool (JM k t.ops t.ops.length).2]) (by simp[jp,j0,G,jv]) rfl rfl
section
variable {E:Env}{Yf:YF}{st:St}{ub:Nat}{K:St→Nat→Prop}{d:Option Nat}{nm:Bool}
theorem jxh {sz a n:Nat}{zero:List V}{x y:A}(c:eval E st.tm x=.int .i64 (n:Int)) (f:eval E st.tm y=.int .i64 (n:Int)) (b:0<n) (g:n*a≤140737488355328) (j:n≤140737488355328) (i:zero.length=sz) (e:0<sz)
 (h:WW K st d ub { v:=.osl (jH d nm st.fb ub) ub 0 n sz,obs:=[(jH d nm st.fb ub,⟨ub,.cells (QV n zero)⟩)] }):j6 E Yf ⟨d,.mkSl false sz a zero x y,none,nm⟩ st ub K:=by
 rw[jM _ rfl rfl]
 simp only[aop,c,f]
 rw[if_pos (by refine⟨zO,zO,?_,zO,i,e⟩;rw[← Int.natCast_mul];exact Int.ofNat_le.2 g),if_neg (by intro h;omega),Jd,jN]
 simp only[Int.toNat_natCast,Jo]
 exact h
end
theorem jra {st:St}{L u n:Nat}{cs:List V}(f:st.ob L=some ⟨u,.cells cs⟩) (m:cs.length=n) (e:st.ro≤u) (hp:cs.all V.pureLeaf=true):JH st 6 (.osl L u 0 n 1)=some (.sl none false n cs):=by
 have b:j0 st.ob L u=some cs:=by simp[j0,f]
 have g:∀ (k:Nat) (l:List V),l.all V.pureLeaf=true→l.mapM (JH st (k+1))=some l:=by
  intro k l
  induction l with
  | nil=>intro _;rfl
  | cons a l j=>
   intro h
   simp only[List.all_cons,Bool.and_eq_true]at h
   rw[List.mapM_cons,j h.2]
   have:JH st (k+1) a=some a:=by
    have:=Xo (st:=st) (keep:=false) (i:=0) h.1
    cases a with
    | sl t o n cs=>cases t with
     | none=>rfl
     | some t=>cases h.1
    | osl=>cases h.1
    | _=>simp only[JH,h.1,if_true]
   rw[this]
   rfl
 show((j0 st.ob L u).bind fun cs=>if Nat.ble st.ro u=true∧0+n*1≤cs.length then (((cs.drop 0).take (n*1)).mapM (JH st 5)).map fun c=>V.sl none false n c else none)=_
 rw[b,Option.bind_some,if_pos ⟨Nat.ble_eq▸e,zO⟩,List.drop_zero,Nat.mul_one,List.take_of_length_le zO,g 4 cs hp]
 rfl
theorem jik {st:St}{L u n:Nat}{cs:List V}(c:st.ob L=some ⟨u,.cells cs⟩) (e:cs.length=n) (b:st.ro≤u) (hp:cs.all V.pureLeaf=true):jcn st (.osl L u 0 n 1) false n cs:=by
 intro keep i
 have a:j0 st.ob L u=some cs:=by simp[j0,c]
 have f:=jra c e b hp
 refine⟨_,by simp only[jn,f,Option.bind_some,a,Option.map_some];rfl,?_⟩
 split
 ·exact .inr ⟨_,rfl⟩
 ·exact .inl rfl
end Go.Pv.T
namespace Go.Pv.T
open Go Go.Pv
end Go.Pv.T
namespace Go.Pv.T
open Go Go.Pv
end Go.Pv.T
namespace Go.Pv.T
open Go Go.Pv
theorem jrt {l:List Txn'}(h:∀t∈l,t.ops.length≤1000):rcT l≤l.length*1000:=by
 induction l with
 | nil=>simp[rcT,rc]
 | cons t l a=>
  have c:=a (fun t b=>h t (List.mem_cons_of_mem _ b))
  have d:=h t (List.mem_cons_self ..)
  have e:=rc_le t.ops
  have:rcT (t::l)=rc t.ops+rcT l:=by rw[rcT,List.flatMap_cons,j5v];rfl
  rw[this,List.length_cons,Nat.succ_mul]
  omega
structure Bnd (g:Hist'):Prop where
 i:(XT g).length≤1000
 l:(jbj g).length≤1000000
 r:rcT g.ts≤1000000
 m:mostH g≤1000
 t:g.ts.length≤1000
theorem bnd_of {g:Hist'}(a:Small g):Bnd g:=by
 have b:=a.ts
 refine⟨?_,?_,?_,jjk a _,b⟩
 ·have:=JG X1 g.ts g.ts.length
  show(numsTo X1 g.ts g.ts.length).length≤1000
  omega
 ·have:=jbh a.os g.ts.length
  show(jd8 g.ts g.ts.length).length≤1000000
  have:g.ts.length*1000≤1000*1000:=Nat.mul_le_mul_right _ b
  omega
 ·have:=jrt a.os
  have:g.ts.length*1000≤1000*1000:=Nat.mul_le_mul_right _ b
  omega
theorem jmv {ub n:Nat}{cs:List V}:Xg ub (.sl (some (0,1)) false n cs)=some { v:=.sl (some (ub,1)) false n cs,add:=[ub] }:=by
 rw[Xg,if_pos (by rfl)];rfl
end Go.Pv.T
namespace Go.Pv.T
open Go Go.Pv
end Go.Pv.T
namespace Go.Pv.T
open Go Go.Pv
end Go.Pv.T
namespace Go.Pv.T
open Go Go.Pv
def W4 (n:Nat) (l:List (List UInt8)):List (List UInt8):=(l.take n).map (·.take 100)
def fewT (t:Txn'):Txn':={ t with nl:=false,ops:=t.ops.take 25 }
def j4t (h:Hist'):Hist':={ sn:=(W4 25 h.ss).isEmpty,ss:=W4 25 h.ss,kn:=(W4 45 h.ks).isEmpty,ks:=W4 45 h.ks,tn:=((h.ts.take 45).map fewT).isEmpty,ts:=(h.ts.take 45).map fewT }
theorem jrb (h:Hist'):Small (j4t h):=by
 refine⟨?_,?_,?_,?_,?_,?_⟩
 ·show(W4 25 h.ss).length≤1000
  simp[W4];omega
 ·intro s b
  obtain⟨a,_,rfl⟩:=List.mem_map.1 (show s∈W4 25 h.ss from b)
  simp;omega
 ·show(W4 45 h.ks).length≤1000
  simp[W4];omega
 ·intro s b
  obtain⟨a,_,rfl⟩:=List.mem_map.1 (show s∈W4 45 h.ks from b)
  simp;omega
 ·show((h.ts.take 45).map fewT).length≤1000
  simp;omega
 ·intro t c
  obtain⟨a,_,rfl⟩:=List.mem_map.1 (show t∈(h.ts.take 45).map fewT from c)
  simp[fewT];omega
theorem jj4 {n i:Nat}{l:List (List UInt8)}(hi:i<l.length) (_:i<n):W4 (i+1) l=W4 i l++[(l[i]).take 100]:=by
 rw[W4,List.take_succ_eq_append_getElem hi,List.map_append];rfl
theorem jn1 {n:Nat}{l:List (List UInt8)}{i:Nat}(hi:i≤l.length) (a:i≤n) (h:¬ (i<l.length∧i<n)):W4 i l=W4 n l:=by
 unfold W4
 congr 1
 by_cases b:i<l.length
 ·have:i=n:=zO
  rw[this]
 ·rw[List.take_of_length_le zO,List.take_of_length_le zO]
def tlC:C→C
 | .seq _ b=>b
 | c=>c
def hdC:C→C
 | .seq a _=>a
 | c=>c
theorem jbg (n m:Nat):Ql false [.int .i64 (n:Int),.int .i64 (m:Int)]=some (.int .i64 ((min n m:Nat):Int)):=by
 simp only[Ql,Wo]
 by_cases h:n≤m
 ·rw[Nat.min_eq_left h];simp[jhf];omega
 ·rw[Nat.min_eq_right (Nat.le_of_not_le h)];simp[jhf];omega
theorem jdb (c:List UInt8):c.take (min c.length 100)=c.take 100:=by
 rcases Nat.le_total c.length 100 with h'|h'
 ·rw[Nat.min_eq_left h',List.take_of_length_le zR,List.take_of_length_le h']
 ·rw[Nat.min_eq_right h']
theorem jn0 (n:Nat) (l:List (List UInt8)):(W4 n l).length≤n:=by simp[W4];omega
theorem jms {l:List UInt8}{kk:IntKind}{k:Nat}(h:k≤l.length):XR none (some (.int kk (k:Int))) (.str l)=some (.str (l.take k)):=by
 simp[XR,Jt,h]
theorem jrc {cs:List V}{kk:IntKind}{t:Option (Nat × Nat)}{nl:Bool}{sz n k:Nat}(h:k≤n) (a:cs.length=n*sz):QQ sz none (some (.int kk (k:Int))) (.sl t nl n cs)=some (.sl none nl k (cs.take (k*sz))):=by
 simp[QQ,Jt,h,a]
end Go.Pv.T
namespace Go.Pv.T
open Go Go.Pv
end Go.Pv.T
namespace Go.Pv.T
open Go Go.Pv
theorem j29 {h:Hist'}{i:Nat}(hi:i≤h.ts.length) (b:i≤45) (a:¬ (i<h.ts.length∧i<45)):(h.ts.take i).map fewT=(h.ts.take 45).map fewT:=by
 congr 1
 by_cases c:i<h.ts.length
 ·have:i=45:=zO
  rw[this]
 ·rw[List.take_of_length_le zO,List.take_of_length_le zO]
theorem jvr (l:List Op') (k:Nat):(l.flatMap opC).take (k*4)=(l.take k).flatMap opC:=by
 induction l generalizing k with
 | nil=>simp
 | cons a l b=>
  cases k with
  | zero=>simp
  | succ k=>
   rw[List.flatMap_cons,List.take_succ_cons,List.flatMap_cons,Nat.succ_mul,← b k]
   show(V.bool a.w::V.int .i64 a.key::V.int .i64 a.v.kind::V.int .i64 a.v.n::l.flatMap opC).take (k*4+4)=_
   simp[opC]
theorem kE1 {st:St}{p l u:Nat}{x y z:V}{g:Hist'}(a:st.df=[]) (hp:st.tm p=.ptr l u 0) (d:st.ob l=some ⟨u,.cells [x,y,z]⟩)
 (b:jcn st x g.sn g.ss.length (g.ss.flatMap Jj)) (c:jcn st y g.kn g.ks.length (g.ks.flatMap Jj)) (e:jcn st z g.tn g.ts.length (g.ts.flatMap ji)):jbl [.cell p (some 3)] (fun r=>jqg r g) .ret st:=endH1 a hp d b c e
theorem j5r {Yf:YF}(nl:Bool) (ops:List Op') (hm:ops.length≤1000000) {l u lh uh:Nat}{ob0:ZO}{tk0:Nat→Bool}{ro base ub0:Nat}(J:Nat→(ZO)→(Nat→Bool)→Nat→Prop) (P:V × (ZO) × (Nat→Bool) × Nat→Prop)
 (i:∀k ob g h b c,J k ob h b→b≤c→Fr b ob g→J k g h c) (n:∀k ob h b,J k ob h b→ob lh=some ⟨uh,.cells [slOf nl opC ops]⟩) (L:ro≤ub0)
 (o:∀k (_:k<ops.length) ob h b,J k ob h b→ro≤b→∃r,EvY Yf l u [.int .i64 (ops.length - 1 - k:Nat),.agg (opC (ops.getD (ops.length - 1 - k) ⟨false,0,0,0⟩))] ob h ro b r∧ro≤r.2.2.2 ∧
  ((r.1=.bool true∧J (k+1) r.2.1 r.2.2.1 r.2.2.2)∨(r.1=.bool false∧∀g c,r.2.2.2≤c→Fr r.2.2.2 r.2.1 g→P (.tup [],g,r.2.2.1,c))))
 (B:∀ob h b,J ops.length ob h b→P (.tup [],ob,h,b)) (M:J 0 ob0 tk0 ub0):∃r,EvS E Yf.y 274 [.yld l u,.ptr lh uh 0] ob0 tk0 ro base ub0 r∧P r:=by
 refine X2 (af:=S274) rfl zD ?_
 show wpC E Yf S274.body _ (XY S274.res P)
 have U:=n 0 ob0 tk0 ub0 M
 have w1:IntKind.i64.wrap ((ops.length:Int) - 1)=(ops.length:Int) - 1:=jm zO zO
 simp[S274,j0,U,w1]
 refine j9 [(3,3),(7,18)] ops.length (fun k s=>s.tm 3=.int .i64 ((ops.length:Int) - 1 - k)∧ro≤s.nx∧J k s.ob s.tk s.nx) rfl rfl ⟨zS,by simp;omega,i _ _ _ _ _ _ M (by simp;omega) (Fr.refl _ _)⟩ ?_
 rintro k s hk ⟨w,a0,K⟩ f
 have f0:s.tm 0=.yld l u:=by rw[f.t 0 zS];simp
 have f1:s.tm 1=.ptr lh uh 0:=by rw[f.t 1 zS];simp
 have N:s.df=[]:=by rw[f.d];simp
 have fr:s.ro=ro:=by rw[f.r];simp
 clear f
 have hc:=n _ _ _ _ K
 by_cases z:k<ops.length
 ·obtain⟨j,Z⟩:∃j,j=ops.length - 1 - k:=⟨_,rfl⟩
  have v:j<ops.length:=zO
  have e:(ops.length:Int) - 1 - k=(j:Int):=zO
  rw[e]at w
  have T:IntKind.i64.wrap ((j:Int) - 1)=(ops.length:Int) - 1 - (k+1):=by rw[jm zO zO];omega
  have G:ops.getD j ⟨false,0,0,0⟩=ops[j]:=by rw[List.getD_eq_getElem?_getD,List.getElem?_eq_getElem v];rfl
  simp[w,f0,f1,j0,hc,v,j4 jF,jb jF]
  refine jmp fun m a=>?_
  have H:m.tm 11=.yld l u:=by rw[a];simp
  have D:m.tm 12=.int .i64 j:=by rw[a];simp
  have F:m.tm 16=.agg (opC ops[j]):=by rw[a];simp
  have e3:m.tm 3=.int .i64 j:=by rw[a];simp[w]
  have ed:m.df=[]:=by rw[a];simp[N]
  have er:m.ro=ro:=by rw[a];simp[fr]
  have et:m.tk=s.tk:=by rw[a];simp
  have eo:m.ob=s.ob:=by rw[a];simp
  clear a
  obtain⟨r,O,b0,p⟩:=o k z m.ob s.tk (s.nx+64+64+64+64+64+64+64+64) (i _ _ _ _ _ _ K zO (by rw[eo];exact Fr.refl _ _)) zO
  rw[← Z,G]at O
  refine jh5 (l:=l) (u:=u) (by simpa using H) ⟨r,by simpa[D,F,et,er] using O,?_⟩
  rcases p with⟨q,I⟩|⟨q,Q⟩
  ·simp[q,put,j2,e3,T]
   exact⟨z,zO,i _ _ _ _ _ _ I zO (Fr.refl _ _)⟩
  ·simp[q,put]
   refine⟨(.tup [],r.2.1,r.2.2.1,r.2.2.2+64),?_,Q _ _ zO (Fr.refl _ _)⟩
   simp[endS,ed]
 ·have:k=ops.length:=zO
  subst this
  obtain⟨X,S⟩:∃x:Int,x=(ops.length:Int) - 1 - ops.length:=⟨_,rfl⟩
  rw[← S]at w
  have c1:¬ 0≤X:=zO
  simp[w,c1]
  refine⟨(.tup [],s.ob,s.tk,s.nx+64+64),?_,B _ _ _ (i _ _ _ _ _ _ K zO (Fr.refl _ _))⟩
  simp[endS,N]
def jy3:C:=.region [⟨some 7,.alloc [(.bool false),(.int .i64 0),(.int .i64 0),(.int .i64 0)],none,false⟩,⟨none,.store 4 (.t 7) (.t 11),none,false⟩]
def jqh:C:=.block 1 (.seq (.region [⟨some 12,.fieldAddr 0 (.t 7),none,false⟩,⟨some 13,.load none (.t 12),none,false⟩,⟨some 14,.mov (.t 13),none,false⟩,⟨some 15,.fieldAddr 1 (.t 7),(some (14,true)),false⟩,⟨some 16,.load none (.t 15),(some (14,true)),false⟩,⟨some 17,.load none (.t 3),(some (14,true)),false⟩,⟨some 18,.bin .eql (.t 16) (.t 17),(some (14,true)),false⟩,⟨some 19,.pick (.t 14) (.t 18) (.c (.bool false)),none,false⟩])
 (.cond (.t 19) (.seq (.region [⟨some 20,.fieldAddr 2 (.t 7),none,false⟩,⟨some 21,.load (some 2) (.t 20),none,false⟩,⟨none,.store 2 (.t 4) (.t 21),none,false⟩,⟨none,.store 1 (.t 5) (.c (.bool true)),none,false⟩]) (.ret)) (.skip)))
theorem jwe (nl:Bool) (ops:List Op') (q:ops.length≤1000000) (d:Int) {st:St}{lh uh:Nat}(U:Nat) (hU:st.nx=U) (c7:64≤U) (h9:st.tm 9=.fn (.func 274) [] [.ptr lh uh 0]) (hl:∃m,lh=2*m+1∧m<U)
 (h3:st.tm 3=.ptr 6 0 0) (h4:st.tm 4=.ptr 8 64 0) (h5:st.tm 5=.ptr 10 128 0) (P:st.ro=0) (Z:st.fb=0) (o6:st.ob 6=some ⟨0,.cells [.int .i64 d]⟩) (o8:st.ob 8=some ⟨64,.cells [.int .i64 0,.int .i64 0]⟩) (c5:st.ob 10=some ⟨128,.cells [.bool false]⟩)
 (oh:st.ob lh=some ⟨uh,.cells [slOf nl opC ops]⟩) {Q:Ex→St→Prop}
 (hQ:∀ (e:Ex) (ob:ZO) (tk:Nat→Bool) (ub:Nat) (v:Val') (b:Bool),ob 8=some ⟨64,.cells (jv v)⟩→ob 10=some ⟨128,.cells [.bool b]⟩→ob (2*U+3)=some ⟨U+1,.dfr⟩→U+64≤ub →
  JM d ops ops.length=(v,b)→(e=.nrm∧v=⟨0,0⟩∧b=false∨e=.ret)→Q e { st with ob:=ob,tk:=tk,nx:=ub,df:=(2*U+3,U+1)::st.df }) :
 wpC E Xx (.rangeFunc (.t 9) [10,11] jy3 jqh) st Q:=by
 obtain⟨m,rfl,c8⟩:=hl
 subst hU
 refine W6 (g:=274) (first:=[]) (captured:=[.ptr (2*m+1) uh 0]) (by simpa using h9) ?_
 have e1:¬ 2*m+1=2*st.nx+1:=zO
 have e2:¬ 2*m+1=2*st.nx+3:=zO
 have T:¬ 2*m=2*st.nx:=zO
 have c1:¬ 2*m=2*st.nx+2:=zO
 have:=j5r (Yf:=jft E Xx jy3 jqh st [10,11] (2*st.nx+1) st.nx) nl ops q (l:=2*st.nx+1) (u:=st.nx) (lh:=2*m+1) (uh:=uh)
  (ob0:=upd (upd st.ob (2*st.nx+3) (some ⟨st.nx+1,.dfr⟩)) (2*st.nx+1) (some ⟨st.nx,.loop .ready none⟩)) (tk0:=st.tk) (ro:=st.ro) (base:=(st.fb+1023)*1024) (ub0:=st.nx+64)
  (fun k ob tk ub=>JM d ops ops.length=JM d ops (ops.length - k)∧ob (2*st.nx+1)=some ⟨st.nx,.loop .ready none⟩∧ob (2*st.nx+3)=some ⟨st.nx+1,.dfr⟩∧ob 6=some ⟨0,.cells [.int .i64 d]⟩∧ob 8=some ⟨64,.cells [.int .i64 0,.int .i64 0]⟩∧ob 10=some ⟨128,.cells [.bool false]⟩∧ob (2*m+1)=some ⟨uh,.cells [slOf nl opC ops]⟩∧st.nx+64≤ub)
  (fun r=>∃s z,r.2.1 (2*st.nx+1)=some ⟨st.nx,.loop s z⟩∧s≠.busy∧st.ro≤st.nx∧Q (z.getD .nrm) { st with ob:=fun k=>if Nat.beq (2*st.nx+1) k then none else r.2.1 k,tk:=r.2.2.1,nx:=r.2.2.2,df:=(2*st.nx+3,st.nx+1)::st.df })
  ?_ ?_ zO ?_ ?_ ?_
 ·obtain⟨r,hr,hP⟩:=this
  exact⟨r,hr,hP⟩
 ·rintro k ob i tk ub X ⟨p,D,K,g4,N,M,L,g8⟩ c9 H
  have f:∀h,(∀m,ub≤m→h≠2*m+1)→i h=ob h:=H
  exact⟨p,by rw[f _ (fun m q=>by omega)];exact D,by rw[f _ (fun m q=>by omega)];exact K,by rw[f _ (fun m q=>by omega)];exact g4,by rw[f _ (fun m q=>by omega)];exact N,by rw[f _ (fun m q=>by omega)];exact M,by rw[f _ (fun m q=>by omega)];exact L,zO⟩
 ·rintro k ob tk ub ⟨p,D,K,g4,N,M,L,g8⟩
  exact L
 ·rintro k hk ob tk ub ⟨p,D,K,g4,N,M,L,g8⟩ d1
  obtain⟨j,hj⟩:∃j,j=ops.length - 1 - k:=⟨_,rfl⟩
  have O:j<ops.length:=zO
  have c3:ops.getD j ⟨false,0,0,0⟩=ops[j]:=by rw[List.getD_eq_getElem?_getD,List.getElem?_eq_getElem O];rfl
  have B:=Q7 (k:=d) O
  rw[← hj,c3]
  obtain⟨o,ho⟩:∃o,ops[j]=o:=⟨_,rfl⟩
  rw[ho]at B ⊢
  rw[show ops.length - k=j+1 by omega]at p
  rw[B]at p
  refine je8 (asg:=jy3) (bd:=jqh) (xs:=[.int .i64 (j:Nat),.agg (opC o)]) rfl zO D zD zD ?_
  simp[jy3,jdh,j0,Z,opC,P,j5]
  refine⟨by rw[if_neg zO,if_neg zO];exact D,jj fun c a=>?_⟩
  have f3:c.tm 3=.ptr 6 0 0:=by rw[a];simp[j2,h3]
  have f4:c.tm 4=.ptr 8 64 0:=by rw[a];simp[j2,h4]
  have f5:c.tm 5=.ptr 10 128 0:=by rw[a];simp[j2,h5]
  have f7:c.tm 7=.ptr 14 ub 0:=by rw[a];simp
  have n6:¬ 6=2*st.nx+1:=zO
  have n8:¬ 8=2*st.nx+1:=zO
  have x:¬ 10=2*st.nx+1:=zO
  have c0:¬ 14=2*st.nx+1:=zO
  have n3:¬ 2*st.nx+3=2*st.nx+1:=zO
  have S:¬ 2*st.nx+3=14:=zO
  have a0:¬ 2*m+1=14:=zO
  have p6:c.ob 6=some ⟨0,.cells [.int .i64 d]⟩:=by rw[a];simp[j2,n6,g4]
  have p8:c.ob 8=some ⟨64,.cells [.int .i64 0,.int .i64 0]⟩:=by rw[a];simp[j2,n8,N]
  have F:c.ob 10=some ⟨128,.cells [.bool false]⟩:=by rw[a];simp[j2,x,M]
  have J:c.ob 14=some ⟨ub,.cells (opC o)⟩:=by rw[a];simp[j2,c0,opC]
  have p3:c.ob (2*st.nx+3)=some ⟨st.nx+1,.dfr⟩:=by rw[a];simp[j2,S,K]
  have p1:c.ob (2*st.nx+1)=some ⟨st.nx,.loop .busy none⟩:=by rw[a];simp
  have ph:c.ob (2*m+1)=some ⟨uh,.cells [slOf nl opC ops]⟩:=by rw[a];simp[j2,T,a0,L]
  have fr:c.ro=0:=by rw[a]
  have fn:ub≤c.nx:=by rw[a];simp;omega
  clear a
  have b7:¬ 2*st.nx+1=8:=zO
  have b0:¬ 2*st.nx+1=10:=zO
  have c6:¬ 2*st.nx+3=8:=zO
  have b5:¬ 2*st.nx+3=10:=zO
  have skip:wkB d o=false→JM d ops ops.length=JM d ops (ops.length - (k+1)):=fun G=>by
   rw[G]at p
   rw[p,show ops.length - (k+1)=j by omega]
   rfl
  have done:wkB d o=false→(c2:True)→JM d ops ops.length=JM d ops (ops.length - (k+1))∧upd c.ob (2*st.nx+1) (some ⟨st.nx,.loop .ready none⟩) (2*st.nx+3)=some ⟨st.nx+1,.dfr⟩:=fun G _=>⟨skip G,by rw[j2,if_neg n3];exact p3⟩
  cases n:o.w
  ·have G:=skip (by unfold wkB;rw[n];rfl)
   simp[jqh,f7,J,j0,opC,n,p1,WD]
   exact⟨G,by rw[j2,if_neg n3];exact p3,by rw[j2,if_neg n6];exact p6,by rw[j2,if_neg n8];exact p8,by rw[j2,if_neg x];exact F,by rw[j2,if_neg e1];exact ph,zO⟩
  cases y:(o.key == d)
  ·have G:=skip (by unfold wkB;rw[n,y];rfl)
   simp[jqh,f7,J,j0,opC,n,f3,p6,y,p1,WD]
   exact⟨G,by rw[j2,if_neg n3];exact p3,by rw[j2,if_neg n6];exact p6,by rw[j2,if_neg n8];exact p8,by rw[j2,if_neg x];exact F,by rw[j2,if_neg e1];exact ph,zO⟩
  ·have b9:wkB d o=true:=by unfold wkB;rw[n,y];rfl
   rw[b9]at p
   simp only[if_true]at p
   simp[jqh,f7,J,j0,opC,n,f3,p6,y,f4,f5,p8,F,fr,j5,b7,b0,p1,WD]
   intro i X d0 H
   have fk:∀h,(∀m,c.nx+64+64+64+64+64+64+64+64+64+64+64+64≤m→h≠2*m+1)→i h=_:=H
   have I:∀ {k:Nat},k≠2*st.nx+1→(if 2*st.nx+1=k then none else i k)=i k:=fun hk=>if_neg fun e=>hk e.symm
   refine⟨.done,some .ret,?_,zS,?_⟩
   ·rw[fk _ (fun m q=>by omega)]
    simp
   ·have:=hQ .ret (fun k=>if 2*st.nx+1=k then none else i k) c.tk X o.v true (by rw[I n8,fk _ (fun m q=>by omega)];simp[j2,n8,jv]) (by rw[I x,fk _ (fun m q=>by omega)];simp[j2,x])
     (by rw[I n3,fk _ (fun m q=>by omega)];simp[j2,c6,b5,p3]) zO p (Or.inr rfl)
    rw[P,Z]at this
    simpa[JD] using this
 ·rintro ob tk ub ⟨p,D,K,g4,N,M,L,g8⟩
  refine⟨.ready,none,D,zS,zO,?_⟩
  rw[Nat.sub_self]at p
  exact hQ .nrm _ _ _ ⟨0,0⟩ false ((j0b ob zO).trans N) ((j0b ob zO).trans M) ((j0b ob zO).trans K) g8 p (Or.inl ⟨rfl,rfl,rfl⟩)
 ·have d2:¬ 2*st.nx+3=2*st.nx+1:=zO
  have a6:¬ 6=2*st.nx+1:=zO
  have b6:¬ 6=2*st.nx+3:=zO
  have a8:¬ 8=2*st.nx+1:=zO
  have b8:¬ 8=2*st.nx+3:=zO
  have a10:¬ 10=2*st.nx+1:=zO
  have c4:¬ 10=2*st.nx+3:=zO
  exact⟨by rw[Nat.sub_zero],zS,by simp[j2],by simp[j2,a6,b6,o6],by simp[j2,a8,b8,o8],by simp[j2,a10,c4,c5],by simp[j2,T,c1,oh],zO⟩
end Go.Pv.T
namespace Go.Pv.T
open Go Go.Pv
end Go.Pv.T
namespace Go.Pv.T
open Go Go.Pv
theorem Qm {g:Hist'}(a:Wp g=false):errH g=4:=by unfold errH;rw[a];rfl
end Go.Pv.T
namespace Go.Pv.T
open Go Go.Pv Go.Sort
def arr {α:Type}(f:α→List V) (d:Array α):List V:=d.toList.flatMap f
theorem juu {α:Type}{f:α→List V}{sz:Nat}(b:∀a,(f a).length=sz) (d:Array α):(arr f d).length=d.size*sz:=by
 unfold arr;rw[j7 b,Array.length_toList]
theorem jnx {α:Type}{f:α→List V}{sz:Nat}(b:∀a,(f a).length=sz) (a:α):∀ (l:List α) (i:Nat),i<l.length→j5 (l.flatMap f) (i*sz) (f a)=(l.set i a).flatMap f
 | [],_,h=>by simp at h
 | x::l,0,_=>by simp[j5,b]
 | x::l,i+1,h=>by
  have c:=jnx b a l i (by simpa using h)
  have e:(i+1)*sz=(f x).length+i*sz:=by rw[b,Nat.succ_mul,Nat.add_comm]
  unfold j5 at c ⊢
  rw[List.set_cons_succ,List.flatMap_cons,List.flatMap_cons,← c,e,List.take_length_add_append,Nat.add_assoc,List.drop_length_add_append]
  simp
section
variable {α:Type}[Inhabited α] {f:α→List V}{sz:Nat}{d:Array α}
theorem idxA {l u n:Nat}{kk:IntKind}{x:Int}(a:0≤x) (b:x<n):JK sz (.osl l u 0 n sz) (.int kk x)=some (.ptr l u (x.toNat*sz)):=by
 simp[JK,a,b]
end
@[simp] theorem arrI_len (d:Array Int):(arr intC d).length=d.size:=by rw[juu (sz:=1) jC,Nat.mul_one]
def At (l u:Nat) (cs:List V) (ob:ZO) (tk:Nat→Bool) (ub:Nat) (ob':ZO) (tk':Nat→Bool) (ub':Nat):Prop :=
 ob' l=some ⟨u,.cells cs⟩∧(∀key,key≠l→(∀m,ub≤m→key≠2*m+1)→ob' key=ob key)∧tk'=tk∧ub≤ub'
theorem jc3 {st:St}{P:V × (ZO) × (Nat→Bool) × Nat→Prop}{e:Ex}(b:e=.nrm∨e=.ret) (a:st.df=[]) (h:P (.tup [],st.ob,st.tk,st.nx)):XY [] P e st:=by
 refine⟨_,?_,h⟩
 rcases b with rfl|rfl <;> simp[endS,a]
theorem j4z {x:Int}(b:-1000000000≤x) (a:x≤1000000000):IntKind.i64.wrap x=x:=jm zO zO
theorem idxN {l u n x:Nat}{kk:IntKind}{X:Int}(a:X=(x:Nat)) (b:x<n):JK 1 (.osl l u 0 n 1) (.int kk X)=some (.ptr l u x):=by
 subst a
 have:=idxA (sz:=1) (l:=l) (u:=u) (n:=n) (kk:=kk) (x:=(x:Int)) zO zO
 simpa using this
theorem At.swap {l u:Nat}{o:Array Int}{cs:List V}{ob:ZO}{tk:Nat→Bool}{ub:Nat}{e:ZO}{f:Nat→Bool}{g:Nat}{d:ZO}{j:Nat→Bool}{i:Nat}(h:At l u (arr intC o) ob tk ub e f g)
 (m:d l=some ⟨u,.cells cs⟩) (n:∀c,c≠l→d c=e c) (k:j=f) (p:g≤i):At l u cs ob tk ub d j i :=
 ⟨m,fun c a b=>(n c a).trans (h.2.1 c a b),k.trans h.2.2.1,Nat.le_trans h.2.2.2 p⟩
def ju2 (st:St) (d:Option Nat) (v:V) (ob:ZO) (tk:Nat→Bool):St:={ st with tm:=put st.tm d v,ob:=ob,tk:=tk }
section
variable {st:St}{d:Option Nat}{v:V}{ob:ZO}{tk:Nat→Bool}
@[simp] theorem retS_tm (e n:Nat):(ju2 st (some e) v ob tk).tm n=if n=e then v else st.tm n:=by simp[ju2,put,j2]
@[simp] theorem retS_tm0 (n:Nat):(ju2 st none v ob tk).tm n=st.tm n:=rfl
@[simp] theorem jg3:(ju2 st d v ob tk).ob=ob:=rfl
@[simp] theorem retS_tk:(ju2 st d v ob tk).tk=tk:=rfl
@[simp] theorem retS_ro:(ju2 st d v ob tk).ro=st.ro:=rfl
@[simp] theorem retS_nx:(ju2 st d v ob tk).nx=st.nx:=rfl
@[simp] theorem retS_fb:(ju2 st d v ob tk).fb=st.fb:=rfl
@[simp] theorem retS_df:(ju2 st d v ob tk).df=st.df:=rfl
end
@[simp] theorem jw1 (l u o:Nat):jam (.ptr l u o)=some (.ptr l u o):=rfl
theorem jZ {Yf:YF}{f:FuncId}{xs:List A}{st:St}{ub:Nat}{K:St→Nat→Prop}{d:Option Nat}{nm:Bool}{vs:List V}{P:V × (ZO) × (Nat→Bool) × Nat→Prop}(e:xs.map (eval E st.tm)=vs) (i:E.sh nm f=true)
 (j:∃r,EvS E Yf.y f vs st.ob st.tk st.ro ((st.fb+d.getD 0+1)*1024) ub r∧P r) (h:∀v b c a,P (v,b,c,a)→K (ju2 st d v b c) a):j6 E Yf ⟨d,.call f xs,none,nm⟩ st ub K:=by
 obtain⟨r,k,g⟩:=j
 exact jar e i ⟨r,k,h r.1 r.2.1 r.2.2.1 r.2.2.2 g⟩
theorem jn4 {st:St}{x y:Nat}{P:V × (ZO) × (Nat→Bool) × Nat→Prop}(a:st.df=[]) (h:P (.tup [st.tm x,st.tm y],st.ob,st.tk,st.nx)):XY [.t x,.t y] P .ret st:=⟨_,by simp[endS,a,jp],h⟩
theorem W1 {st:St}{x:Nat}{P:V × (ZO) × (Nat→Bool) × Nat→Prop}(a:st.df=[]) (h:P (st.tm x,st.ob,st.tk,st.nx)):XY [.t x] P .ret st:=⟨_,by simp[endS,a,jp],h⟩
theorem At.refl {l u:Nat}{cs:List V}{ob:ZO}{tk:Nat→Bool}{ub:Nat}(h:ob l=some ⟨u,.cells cs⟩):At l u cs ob tk ub ob tk ub:=⟨h,fun _ _ _=>rfl,rfl,zR⟩
theorem At.trans {l u:Nat}{cs f:List V}{ob g j:ZO}{tk i o:Nat→Bool}{ub k c n:Nat}(h:At l u cs ob tk ub g i k) (p:At l u f g i c j o n) (r:k≤c):At l u f ob tk ub j o n :=
 ⟨p.1,fun e a b=>(p.2.1 e a (fun m q=>b m (by have:=h.2.2.2;omega))).trans (h.2.1 e a b),p.2.2.1.trans h.2.2.1,by have:=h.2.2.2;have:=p.2.2.2;omega⟩
end Go.Pv.T
namespace Go.Pv.T
open Go Go.Pv Go.Sort
end Go.Pv.T
namespace Go.Pv.T
open Go Go.Pv Go.Sort
theorem j2k {Yf:YF}{a b:C}{st:St}{Q:Ex→St→Prop}{c:Bool}(h:∀s,s=st→kIf E Yf a b s Q c):kIf E Yf a b st Q c:=h st rfl
end Go.Pv.T
namespace Go.Pv.T
open Go Go.Pv Go.Sort
end Go.Pv.T
namespace Go.Pv.T
open Go Go.Pv Go.Sort
end Go.Pv.T
namespace Go.Pv.T
open Go Go.Pv Go.Sort
end Go.Pv.T
namespace Go.Pv.T
open Go Go.Pv Go.Sort
@[simp] theorem convV_int (k a:IntKind) (n:Int):XO k (.int a n)=some (.int k (k.wrap n)):=rfl
end Go.Pv.T
namespace Go.Pv.T
open Go Go.Pv Go.Sort
end Go.Pv.T
namespace Go.Pv.T
open Go Go.Pv Go.Sort
end Go.Pv.T
namespace Go.Pv.T
open Go Go.Pv Go.Sort
theorem sv69n {Yf:YF}{ob:ZO}{tk:Nat→Bool}{ro base ub:Nat}:∃r,EvS E Yf.y 69 [.sl none true 0 []] ob tk ro base ub r∧r.2.1=ob∧r.2.2.1=tk∧ub≤r.2.2.2 :=
 ⟨(.tup [],ob,tk,ub),jh1 (m:=none) rfl rfl rfl,rfl,rfl,zR⟩
theorem jjx:∀L:List Int,(L.flatMap intC).mapM int64? = some L
 | []=>rfl
 | x::L=>by
  rw[List.flatMap_cons]
  show(V.int .i64 x::L.flatMap intC).mapM int64? = _
  simp only[List.mapM_cons,jjx L]
  rfl
theorem sv69 {Yf:YF}{l u:Nat}{L T:List Int}(hp:L.Perm T) (h:T.Pairwise (·≤·)) (i:L.length≤1000000000) {ob:ZO}{tk:Nat→Bool}{ro base ub:Nat}(f:ob l=some ⟨u,.cells (L.flatMap intC)⟩) (b:ro≤u) (_:∀m,ub≤m→l≠2*m+1) (_:ro≤ub) :
 ∃r,EvS E Yf.y 69 [.osl l u 0 L.length 1] ob tk ro base ub r∧At l u (T.flatMap intC) ob tk ub r.2.1 r.2.2.1 r.2.2.2:=by
 have j:jkz L=T:=jg6 ((Q4 L).trans hp) (jgx L) h
 have c:(L.flatMap intC).length=L.length:=by rw[j7 jC,Nat.mul_one]
 have a:∀T:List Int,T.map (V.int .i64)=T.flatMap intC:=fun T=>by induction T <;> simp_all [intC]
 refine⟨(.tup [],upd ob l (some ⟨u,.cells (T.flatMap intC)⟩),tk,ub),jh1 (m:=none) rfl ?_ rfl,zS,fun e d _=>by simp[J7 _ _ d],rfl,zR⟩
 have g:j0 ob l u=some (L.flatMap intC):=by simp[j0,f]
 simp only[jou,jig,jfb,jmq,WV,g,Option.bind_some,Nat.mul_one,if_true]
 rw[if_pos ⟨Nat.ble_eq▸b,trivial,zO,i⟩,List.drop_zero,List.take_of_length_le zO,jjx,Option.bind_some,j,a]
 have:(T.flatMap intC).length=(L.flatMap intC).length:=by rw[j7 jC,j7 jC,hp.length_eq]
 rw[j5,List.take_zero,List.nil_append,List.drop_of_length_le zO,List.append_nil]
end Go.Pv.T
namespace Go.Pv.T
open Go Go.Pv
theorem sv237 {Yf:YF}{b:V}(d:b.cells=[b]) (c:b.leaf=true) {ob:ZO}{tk:Nat→Bool}{ro base ub:Nat}:∃r,EvS E Yf.y 237 [b] ob tk ro base ub r ∧
 r.1=.fn (.func 274) [] [.ptr (2*ub+1) ub 0]∧(∀a,r.2.1 a=if a=2*ub+1 then some ⟨ub,.cells [b]⟩ else ob a)∧r.2.2.1=tk∧r.2.2.2=ub+256:=by
 refine X2 (af:=S237) rfl zD ?_
 show wpC E Yf S237.body _ (XY S237.res _)
 simp[S237,d,c]
 exact W1 zS ⟨zS,fun a=>by simp,by simp[JD],zS⟩
def WK (ops:List Op') (key:Int):Val' × Bool:=JM key ops ops.length
theorem ev177 (nl:Bool) (ops:List Op') (t:ops.length≤1000000) (key:Int):Ev E 177 [slOf nl opC ops,.int .i64 key] (.tup [.agg (jv (WK ops key).1),.bool (WK ops key).2]):=by
 refine jP (af:=F177) rfl ?_
 simp[F177]
 refine jZ (vs:=[slOf nl opC ops]) zS rfl (sv237 zS zS) ?_
 rintro v G H x ⟨r,f,z,o⟩
 simp only at r f z o
 subst r o
 simp
 refine jj fun c a=>?_
 have s:c.tm 3=.ptr 6 0 0:=by rw[a];simp
 have i:c.tm 4=.ptr 8 64 0:=by rw[a];simp
 have j:c.tm 5=.ptr 10 128 0:=by rw[a];simp
 have F:c.tm 9=.fn (.func 274) [] [.ptr 513 256 0]:=by rw[a];simp
 have p:c.df=[]:=by rw[a];simp
 have K:c.fb=0:=by rw[a];simp
 have m:c.ro=0:=by rw[a];simp
 have I:c.nx=512:=by rw[a];simp
 have w:c.ob 6=some ⟨0,.cells [.int .i64 key]⟩:=by rw[a];simp only[J8,jg3];rw[f];simp
 have J:c.ob 8=some ⟨64,.cells [.int .i64 0,.int .i64 0]⟩:=by rw[a];simp only[J8,jg3];rw[f];simp
 have k:c.ob 10=some ⟨128,.cells [.bool false]⟩:=by rw[a];simp only[J8,jg3];rw[f];simp
 have B:c.ob 513=some ⟨256,.cells [slOf nl opC ops]⟩:=by rw[a];simp only[J8,jg3];rw[f];simp
 clear a f
 refine jwe nl ops t key 512 I zO F ⟨256,rfl,zO⟩ s i j m K w J k B ?_
 intro e ob L M v b n h q y g d
 have D:WK ops key=(v,b):=g
 rw[D]
 rcases d with⟨rfl,rfl,rfl⟩|rfl
 ·simp[i,j,j0,n,h,m,j5,jv]
  refine Ww (l:=1027) (u:=513) (by simp[p]) (by simp[q]) zS (J0 rfl (l:=[.agg (jv ⟨0,0⟩),.bool false]) (by simp[jp,j0,i,j,jv]) rfl rfl)
 ·simp
  refine Ww (l:=1027) (u:=513) (by simp[p]) (by simp[q]) (by simp[m]) (J0 rfl (l:=[.agg (jv v),.bool b]) (by simp[jp,j0,i,j,n,h,jv]) rfl rfl)
def Jk (h:Hist') (i:Int):Bool × List Op':=if Wp h && (decide (0≤i) && decide (i<h.ts.length)) then ((h.ts.getD i.toNat ⟨0,0,true,[]⟩).nl,(h.ts.getD i.toNat ⟨0,0,true,[]⟩).ops) else (true,[])
theorem ev176 {h:Hist'}(k:Small h) (i:Int):Ev E 176 [.agg (histC h),.int .i64 i] (slOf (Jk h i).1 opC (Jk h i).2):=by
 have f:=jp1 k
 have l:=k.ts
 refine jP (af:=F176) rfl ?_
 obtain⟨R,a⟩:∃R,Jk h i=R:=⟨_,rfl⟩
 rw[a]
 unfold Jk at a
 simp[F176,histC,j0]
 refine jR f (by simp[histC]) rfl (by simp[histC]) ?_
 cases b:Wp h
 ·rw[Qm b]
  rw[b]at a
  subst a
  simp
  exact j3 rfl (by simp[slOf]) rfl
 rw[b]at a
 rw[Yh b]
 by_cases c:i<0
 ·rw[if_neg (by simp;omega)]at a
  subst a
  simp[c]
  exact j3 rfl (by simp[slOf]) rfl
 by_cases g:(h.ts.length:Int)≤i
 ·rw[if_neg (by simp;omega)]at a
  subst a
  simp[c,g,j0]
  exact j3 rfl (by simp[slOf]) rfl
 rw[if_pos (by simp;omega)]at a
 obtain⟨j,rfl⟩:∃j:Nat,i=j:=⟨i.toNat,zO⟩
 have d:j<h.ts.length:=zO
 have e:(h.ts.flatMap ji)[j*3+2]? = some (slOf (h.ts[j]).nl opC (h.ts[j]).ops):=by
  rw[jW j8 h.ts d (by decide:2<3)];rfl
 rw[Int.toNat_natCast,JA d]at a
 subst a
 simp[c,g,j0,d,j4 j8,e]
 exact j3 rfl zS rfl
theorem jr7 {h:Hist'}(c:Small h) (i:Int):(Jk h i).2.length≤1000:=by
 unfold Jk
 split
 ·rename_i b
  simp only[Bool.and_eq_true,decide_eq_true_eq]at b
  have a:i.toNat<h.ts.length:=zO
  rw[JA a]
  exact c.os _ (List.getElem_mem a)
 ·simp
theorem ev116 {h:Hist'}(c:Small h) (i key:Int):Ev E 116 [.agg (histC h),.int .i64 i,.int .i64 key] (.tup [.agg (jv (WK (Jk h i).2 key).1),.bool (WK (Jk h i).2 key).2]):=by
 have b:=ev176 c i
 have a:=ev177 (Jk h i).1 (Jk h i).2 (by have:=jr7 c i;omega) key
 refine jP (af:=F116) rfl ?_
 generalize (Jk h i).1=nl at *
 generalize (Jk h i).2=ops at *
 obtain⟨R,d⟩:∃R,WK ops key=R:=⟨_,rfl⟩
 rw[d]at a ⊢
 simp[F116,histC,j0]
 refine jR b (by simp[histC]) rfl (by simp[histC]) ?_
 rw[Y9 (show(slOf nl opC ops).plain=true from rfl)]
 simp
 refine jR a zS rfl zS ?_
 rw[Jh (by simp[V.plain,jv])]
 simp[j0,j5,jv]
 exact J0 zS (l:=[.agg (jv R.1),.bool R.2]) (by simp[jp,j0,jv]) rfl rfl
def opAt (h:Hist') (a b:Int):Option Op' :=
 if Wp h && (decide (0≤a) && (decide (a<h.ts.length) && (decide (0≤b) && decide (b<((h.ts.getD a.toNat ⟨0,0,true,[]⟩).ops.length:Nat))))) then (h.ts.getD a.toNat ⟨0,0,true,[]⟩).ops[b.toNat]? else none
def op0:Op':=⟨false,0,0,0⟩
theorem ev254 {h:Hist'}(v:Small h) (a b:Int):Ev E 254 [.agg (histC h),.agg (jD (a,b))] (.tup [.agg (opC ((opAt h a b).getD op0)),.bool ((opAt h a b).any fun o=>!o.w)]):=by
 have u:=jp1 v
 have Q:=v.ts
 refine jP (af:=F254) rfl ?_
 obtain⟨R,c⟩:∃R,opAt h a b=R:=⟨_,rfl⟩
 rw[c]
 unfold opAt at c
 simp[F254,histC,j0,jD]
 generalize q:jqj E Xx (C.seq (C.draw _ _) _) (jzr _ _)=K
 have d:∀s:St,jzr [.cell 4 (some 4),.t 5] (.tup [.agg (opC (R.getD op0)),.bool (R.any fun o=>!o.w)]) .ret s→K .ret s:=fun s h=>by
  rw[← q,jni]
  exact h
 refine JU u (by simp[histC]) rfl (by simp[histC]) ?_
 cases m:Wp h
 ·rw[Qm m]
  rw[m]at c
  subst c
  simp[j0,j5]
  exact d _ (J0 zS (l:=[.agg (opC op0),.bool false]) (by simp[jp,j0,opC,op0]) rfl rfl)
 rw[m]at c
 rw[Yh m]
 by_cases g:a<0
 ·rw[if_neg (by simp;omega)]at c
  subst c
  simp[g,j0,j5]
  exact d _ (J0 zS (l:=[.agg (opC op0),.bool false]) (by simp[jp,j0,opC,op0]) rfl rfl)
 by_cases n:(h.ts.length:Int)≤a
 ·rw[if_neg (by simp;omega)]at c
  subst c
  simp[g,n,j0,j5]
  exact d _ (J0 zS (l:=[.agg (opC op0),.bool false]) (by simp[jp,j0,opC,op0]) rfl rfl)
 obtain⟨i,rfl⟩:∃i:Nat,a=i:=⟨a.toNat,zO⟩
 have f:i<h.ts.length:=zO
 rw[Int.toNat_natCast,JA f]at c
 obtain⟨t,r⟩:∃t,h.ts[i]=t:=⟨_,rfl⟩
 rw[r]at c
 have P:=v.os t (r▸List.getElem_mem f)
 have e:(h.ts.flatMap ji)[i*3+2]? = some (slOf t.nl opC t.ops):=by
  rw[jW j8 h.ts f (by decide:2<3),r];rfl
 by_cases x:b<0
 ·rw[if_neg (by simp;omega)]at c
  subst c
  simp[g,n,x,j0,j5]
  exact d _ (J0 zS (l:=[.agg (opC op0),.bool false]) (by simp[jp,j0,opC,op0]) rfl rfl)
 by_cases y:(t.ops.length:Int)≤b
 ·rw[if_neg (by simp;omega)]at c
  subst c
  simp[g,n,x,y,j0,j5,f,j4 j8,e]
  exact d _ (J0 zS (l:=[.agg (opC op0),.bool false]) (by simp[jp,j0,opC,op0]) rfl rfl)
 obtain⟨j,rfl⟩:∃j:Nat,b=j:=⟨b.toNat,zO⟩
 have z:j<t.ops.length:=zO
 rw[if_pos (by simp;omega),Int.toNat_natCast,List.getElem?_eq_getElem z]at c
 obtain⟨o,B⟩:∃o,t.ops[j]=o:=⟨_,rfl⟩
 rw[B]at c
 subst c
 have G:¬ t.ops.length≤j:=zO
 have F:¬ h.ts.length≤i:=zO
 have k:∀s:St,s.tm 2=.ptr 4 0 0→s.tm 3=.ptr 6 64 0→s.tm 4=.ptr 8 128 0→s.ob 4=some ⟨0,.cells (histC h)⟩→s.ob 6=some ⟨64,.cells [.int .i64 i,.int .i64 j]⟩→s.ob 8=some ⟨128,.cells [.bool false,.int .i64 0,.int .i64 0,.int .i64 0]⟩→s.df=[]→s.ro=0→s.fb=0→K .nrm s:=by
  intro s J I p O L N H D M
  rw[← q,jhl]
  simp[J,I,O,L,j0,histC,f,j4 j8,e,z,j4 jF,jb jF,B,opC,j5,M,D]
  refine⟨by simp[XA,jay,jaz,jb9,rdOb,rdTk,lOf,Delta.wo,Delta.wt];try decide,?_⟩
  simp[p,N,j0,D,j5]
  refine⟨by simp[XA,jay,jaz,jb9,rdOb,rdTk,lOf,Delta.wo,Delta.wt,p];try decide,?_⟩
  exact J0 (by simp[H]) (l:=[.agg (opC o),.bool !o.w]) (by simp[jp,j0,opC,p]) rfl (by simp[j0t,opC])
 clear q
 simp[g,n,x,y,j0,f,j4 j8,e]
 exact k _ zS zS zS (by simp[histC]) zS zS zS zS zS
def valV (v:Val'):V:=.agg (jv v)
def WJ (g:Hist') (key i:Int):Val':=(WK (Jk g i).2 key).1
def Jb (g:Hist') (a key:Int) (W:List Int):List (Int × Val'):=(W.filter fun i=>!(i == a)).map fun i=>(i,WJ g key i)
theorem Wl {p:Txn'→Bool}{ts:List Txn'}:∀n,n≤ts.length→(∀x∈numsTo p ts n,0≤x∧x<n)∧(numsTo p ts n).Pairwise (· < ·)
 | 0,_=>by simp[numsTo]
 | n+1,h=>by
  have a:=Wl (p:=p) (ts:=ts) n zO
  have e:=Jc (p:=p) (show n<ts.length by omega)
  rw[e]
  cases d:p ts[n]
  ·simp only[Bool.false_eq_true,if_false,List.append_nil]
   exact⟨fun x b=>by have:=a.1 x b;omega,a.2⟩
  ·simp only[if_true]
   refine⟨fun x b=>?_,?_⟩
   ·rcases List.mem_append.1 b with h|h
    ·have:=a.1 x h;omega
    ·rw[List.mem_singleton]at h;omega
   ·rw[List.pairwise_append]
    refine⟨a.2,List.pairwise_singleton _ _,fun x b y c=>?_⟩
    rw[List.mem_singleton]at c
    have:=a.1 x b
    omega
theorem jw3 {b:Type}{m:List (Int × b)}{k:Int}{a:b}(h:k ∉ m.map (·.1)):jh3 m k a=m++[(k,a)]:=by
 unfold jh3
 rw[mfind_none.2 h]
theorem jg7 {g:Hist'}{a key:Int}{W:List Int}{i:Nat}(hi:i<W.length):Jb g a key (W.take (i+1))=Jb g a key (W.take i)++(if W[i]=a then [] else [(W[i],WJ g key W[i])]):=by
 unfold Jb
 rw[List.take_succ_eq_append_getElem hi,List.filter_append,List.map_append]
 by_cases h:W[i]=a <;> simp[h]
theorem ji5 {g:Hist'}{a key:Int}{W:List Int}(f:W.Pairwise (· < ·)) {i:Nat}(hi:i<W.length):W[i] ∉ (Jb g a key (W.take i)).map (·.1):=by
 intro h
 unfold Jb at h
 rw[List.map_map]at h
 obtain⟨x,d,c⟩:=List.mem_map.1 h
 have b:=(List.mem_filter.1 d).1
 simp only[Function.comp]at c
 obtain⟨j,e,rfl⟩:=List.getElem_of_mem b
 rw[List.length_take]at e
 rw[List.getElem_take]at c
 have:=List.pairwise_iff_getElem.1 f j i zO hi zO
 omega
def OthR (g:Hist') (a key:Int) (W:List Int) (ob:ZO) (ub:Nat) (r:V × (ZO) × (Nat→Bool) × Nat):Prop :=
 ∃M U ver:Nat,r.1=.map (2*M+1) U∧ub≤M∧M<r.2.2.2∧ub≤U∧r.2.1 (2*M+1)=some ⟨U,.mp ver (MP valV (Jb g a key W))⟩∧(∀k,(∀m,ub≤m→k≠2*m+1)→r.2.1 k=ob k)∧ub≤r.2.2.2
theorem sv255 {Yf:YF}{g:Hist'}(L:Small g) (hm:Wp g=true) (a key:Int) {ob:ZO}{tk:Nat→Bool}{ro base ub:Nat}(b6:ro≤ub) :
 ∃r,EvS E Yf.y 255 [.agg (histC g),.int .i64 a,.int .i64 key] ob tk ro base ub r∧OthR g a key (writersH g key) ob ub r:=by
 refine X2 (af:=S255) rfl zD ?_
 show wpC E Yf S255.body _ (XY S255.res _)
 obtain⟨vw,O,H⟩:=ev281 L hm key
 obtain⟨W,J⟩:∃W,writersH g key=W:=⟨_,rfl⟩
 have b0:W.length≤1000:=by have U:=JG (wrB key) g.ts g.ts.length;have X:=L.ts;rw[← J];unfold writersH;omega
 have T:W.Pairwise (· < ·):=by rw[← J];exact(Wl _ zR).2
 rw[J]at H ⊢
 have N:¬ 2*ub=2*(ub+64+64):=zO
 have n2:¬ 2*(ub+64+64)=2*ub:=zO
 simp[S255,histC,j0,N]
 refine jR O (by simp[histC]) rfl (by simp[histC]) ?_
 obtain⟨Q,H⟩:=H
 obtain⟨t,add,p⟩:=jk5 (ub:=ub+64+64+64+64+64+64) H
 rw[p]
 simp
 refine jj fun e b=>?_
 obtain⟨M,G⟩:∃M,M=ub+64+64:=⟨_,rfl⟩
 have g1:e.tm 1=.int .i64 a:=by rw[b];simp
 have g2:e.tm 2=.int .i64 key:=by rw[b];simp
 have g3:e.tm 3=.ptr (2*ub+1) ub 0:=by rw[b];simp
 have g7:e.tm 7=.map (2*M+1) M:=by rw[b,G];simp
 have K:e.tm 13=.sl t Q W.length (W.flatMap intC):=by rw[b];simp
 have S:e.tm 14=.int .i64 W.length:=by rw[b];simp
 have I:e.tm 15=.int .i64 0:=by rw[b];simp
 have gd:e.df=[]:=by rw[b];simp
 have gr:e.ro=ro:=by rw[b];simp
 have gn:M<e.nx:=by rw[b,G];simp
 have ph:e.ob (2*ub+1)=some ⟨ub,.cells (histC g)⟩:=by rw[b];simp[N,histC]
 have pm:e.ob (2*M+1)=some ⟨M,.mp 0 []⟩:=by rw[b,G];simp
 have pf:∀k,(∀m,ub≤m→k≠2*m+1)→e.ob k=ob k:=by
  intro k F
  have U:=F ub zO
  have X:=F (ub+64+64) zO
  rw[b];simp[U,X]
 clear b p
 have a0:ub<M:=zO
 clear G N n2
 refine j9 [(9,9),(15,31)] W.length (fun i s=>s.tm 15=.int .i64 i∧M<s.nx∧s.ob (2*ub+1)=some ⟨ub,.cells (histC g)⟩∧(∀k,(∀m,ub≤m→k≠2*m+1)→s.ob k=ob k)∧∃ver,s.ob (2*M+1)=some ⟨M,.mp ver (MP valV (Jb g a key (W.take i)))⟩) rfl rfl
  ⟨by simp[I],gn,ph,pf,0,by simp[pm,Jb,MP]⟩ ?_
 rintro i s hi ⟨n,hn,oh,of,ver,om⟩ f
 have Z:s.tm 1=.int .i64 a:=by rw[f.t 1 zS,g1]
 have f2:s.tm 2=.int .i64 key:=by rw[f.t 2 zS,g2]
 have f3:s.tm 3=.ptr (2*ub+1) ub 0:=by rw[f.t 3 zS,g3]
 have f7:s.tm 7=.map (2*M+1) M:=by rw[f.t 7 zS,g7]
 have B:s.tm 13=.sl t Q W.length (W.flatMap intC):=by rw[f.t 13 zS,K]
 have q:s.tm 14=.int .i64 W.length:=by rw[f.t 14 zS,S]
 have fd:s.df=[]:=by rw[f.d,gd]
 have fr:s.ro=ro:=by rw[f.r,gr]
 clear f
 by_cases c:i<W.length
 ·have hw:=jh c zO
  obtain⟨x,hx⟩:∃x,W[i]=x:=⟨_,rfl⟩
  have hI:JK 1 (.sl t Q W.length (W.flatMap intC)) (.int .i64 (i:Int))=some (.eptr (W.flatMap intC) i):=by
   simp[JK,c,j7 jC]
  have v:∀ob,Yw ob none (.eptr (W.flatMap intC) i)=some (.int .i64 x):=fun ob=>by
   have h:=jW jC W c (by decide:0<1)
   rw[hx,Nat.mul_one,Nat.add_zero]at h
   rw[jbk]
   simpa[XQ,intC] using h
  have j:=jg7 (g:=g) (a:=a) (key:=key) c
  have D:=ji5 (g:=g) (a:=a) (key:=key) T c
  rw[hx]at j D
  by_cases o:x=a
  ·rw[if_pos o,List.append_nil]at j
   subst o
   simp[n,B,q,c,hI,v,Z,hw]
   exact⟨zO,oh,of,ver,by rw[j];exact om⟩
  ·rw[if_neg o]at j
   have z:(x != a)=true:=by simpa using o
   have w:=ev116 L x key
   simp[n,B,q,c,hI,v,Z,z,f2,f3,oh,j0,f7,histC]
   refine jR w (by simp[histC]) rfl (by simp[histC]) ?_
   rw[Jh (by simp[V.plain,jv])]
   have b5:valV (WK (Jk g x).2 key).1=valV (WJ g key x):=rfl
   simp
   refine jap (f:=valV) (a:=WJ g key x) (ver:=ver) (l:=2*M+1) (u:=M) (k:=x) (Jb g a key (W.take i)) zS zS (by simp[valV,WJ,jv]) (by simpa using om) (by simp[fr];omega) ?_
   rw[jw3 D,← j]
   have nM:¬ 2*ub+1=2*M+1:=zO
   have P:¬ 2*ub=2*M:=zO
   simp[n,hw,P,oh,histC]
   refine⟨c,zO,fun k F=>?_⟩
   have:=F M zO
   rw[if_neg this]
   exact of k F
 ·have:i=W.length:=zO
  subst this
  rw[List.take_length]at om
  simp[n,q,f7]
  exact W1 (by simp[fd]) ⟨M,M,ver,zS,zO,by simp;omega,zO,by simpa using om,by simpa using of,by simp;omega⟩
section
variable {E:Env}{Yf:YF}{st:St}{ub:Nat}{K:St→Nat→Prop}{d:Option Nat}{nm:Bool}
theorem jlq {x:A}{l u ver:Nat}{es:List (V × V)}(c:eval E st.tm x=.map l u) (a:st.ob l=some ⟨u,.mp ver es⟩)
 (h:WW K st d ub { v:=.iter (jH d nm st.fb ub) ub,obs:=[(jH d nm st.fb ub,⟨ub,.miter l u ver es none⟩)] }):j6 E Yf ⟨d,.range false x,none,nm⟩ st ub K:=by
 rw[jM _ rfl rfl]
 have b:jg st.ob l u=some es:=by simp[jg,a]
 have e:jl st.ob l=ver:=by simp[jl,a]
 simp only[aop,c,b,e,Option.bind_some,Jd,jN,Jo]
 exact h
theorem ji2 {l u l' u' ver:Nat}{δ:Delta}:∀ {es c:List (V × V)},δ∈ji3 l u l' u' ver c es→∃a k v b,es=a++(k,v)::b∧δ = { v:=.tup [.bool true,k,v],obs:=[(l,⟨u,.miter l' u' ver (c++a++b) (some (k,v))⟩)] }
 | [],_,h=>by simp[ji3]at h
 | (k,v)::r,c,h=>by
  rw[ji3,List.mem_cons]at h
  rcases h with h|h
  ·exact⟨[],k,v,r,rfl,by rw[h];simp⟩
  ·obtain⟨a,i,g,b,e,f⟩:=ji2 h
   exact⟨(k,v)::a,i,g,b,by rw[e];rfl,by rw[f];simp⟩
theorem jps {x:A}{l u l' u' ver:Nat}{left es:List (V × V)}{g:Option (V × V)}(h:eval E st.tm x=.iter l u) (i:st.ob l=some ⟨u,.miter l' u' ver left g⟩) (j:st.ob l'=some ⟨u',.mp ver es⟩) (f:st.ro≤u)
 (o:left=[]→Qo K st d ub (.tup [.bool false]))
 (q:∀a k v b,left=a++(k,v)::b→WW K st d ub { v:=.tup [.bool true,k,v],obs:=[(l,⟨u,.miter l' u' ver (a++b) (some (k,v))⟩)] }):j6 E Yf ⟨d,.nextMap x,none,nm⟩ st ub K:=by
 have n:(jg st.ob l' u').isSome=true:=by simp[jg,j]
 have m:jl st.ob l'=ver:=by simp[jl,j]
 simp only[j6,wanted,jf,jB]
 cases left with
 | nil=>
  refine⟨[{ v:=.tup [.bool false] }],?_,?_⟩
  ·simp only[jlj,h,i]
   rw[if_pos ⟨Nat.ble_eq▸f,trivial,n,m⟩]
  ·intro t c
   rw[List.mem_singleton]at c
   subst c
   have:=o rfl
   rw[Qt]
   exact this
 | cons p r=>
  refine⟨ji3 l u l' u' ver [] (p::r),?_,?_⟩
  ·simp only[jlj,h,i]
   rw[if_pos ⟨Nat.ble_eq▸f,trivial,n,m⟩]
  ·intro t c
   obtain⟨a,k,v,b,e,s⟩:=ji2 c
   subst s
   exact q a k v b e
theorem jxm {x:A}{l u l' u' ver:Nat}{left es:List (V × V)}{k v:V}(e:eval E st.tm x=.iter l u) (f:st.ob l=some ⟨u,.miter l' u' ver left (some (k,v))⟩) (a:st.ob l'=some ⟨u',.mp ver es⟩)
 (h:Qo K st d ub (.tup [k,v])):j6 E Yf ⟨d,.entry x,none,nm⟩ st ub K:=by
 have c:(jg st.ob l' u').isSome=true:=by simp[jg,a]
 have b:jl st.ob l'=ver:=by simp[jl,a]
 rw[jM _ rfl rfl]
 simp only[aop,e,f]
 rw[if_pos ⟨trivial,c,b⟩,Wa,Qt]
 exact h
end
def IntsO (ob:ZO) (p:Nat→Prop) (l:List Int) (v:V):Prop :=
 (l=[]∧v=.sl none true 0 [])∨(l≠[]∧∃u,v=.osl (2*u+1) u 0 l.length 1∧ob (2*u+1)=some ⟨u,.cells (l.flatMap intC)⟩∧p u)
theorem IntsO.frame {ob ob':ZO}{p b:Nat→Prop}{l:List Int}{v:V}(h:IntsO ob p l v) (i:∀u,p u→ob' (2*u+1)=ob (2*u+1)) (f:∀u,p u→b u):IntsO ob' b l v:=by
 rcases h with h|⟨e,u,g,c,a⟩
 ·exact Or.inl h
 ·exact Or.inr ⟨e,u,g,(i u a).trans c,f u a⟩
theorem je2 (st:St) (d:Option Nat) (v:V) (l:Nat) (o:Obj') (kl:List Nat) (k:Nat):(st.app d { v:=v,obs:=[(l,o)],kill:=kl }).ob k=if k=l then some o else if kl.any (Nat.beq k) then none else st.ob k:=by
 simp[St.app,JI,j2]
theorem jhw (st:St) (d:Option Nat) (v:V) (l:Nat) (o:Obj') (kl:List Nat) (k:Nat) (h:k ∉ kl):(st.app d { v:=v,obs:=[(l,o)],kill:=kl }).ob k=if k=l then some o else st.ob k:=by
 rw[je2]
 have:(kl.any (Nat.beq k))=false:=by
  rw[List.any_eq_false]
  intro x a b
  exact h (Nat.eq_of_beq_eq_true b▸a)
 rw[this]
 rfl
theorem jfo (st:St) (k:Nat):∀l:List Int,(l.flatMap intC).mapM (JH st (k+1))=some (l.flatMap intC)
 | []=>rfl
 | a::l=>by
  show((V.int .i64 a)::l.flatMap intC).mapM _=_
  rw[List.mapM_cons,jfo st k l]
  rfl
def jhn (T:List Int):V:=if T.isEmpty then .sl none true 0 [] else .sl (some (0,1)) false T.length (T.flatMap intC)
theorem QC (T:List Int):j0e T (jhn T):=by
 cases T with
 | nil=>exact⟨true,none,rfl,zS⟩
 | cons a T=>exact⟨false,some (0,1),rfl,zS⟩
theorem Yx {st:St}{p:Nat→Prop}{n:Nat}{T:List Int}{v:V}(j:st.df=[]) (m:st.tm n=v) (h:IntsO st.ob p T v) (i:∀u,p u→st.ro≤u):jzr [.t n] (jhn T) .ret st:=by
 show ja7 [.t n] (.ret,st)=some (jhn T)
 rcases h with⟨rfl,rfl⟩|⟨c,u,rfl,l,q⟩
 ·exact j3 j (by rw[m];rfl) rfl
 ·have b:j0 st.ob (2*u+1) u=some (T.flatMap intC):=by simp[j0,l]
  have f:(T.flatMap intC).length=T.length:=by rw[j7 jC];omega
  have e:T.isEmpty=false:=by cases T with|nil=>exact absurd rfl c|cons=>rfl
  have a:0<T.length:=List.length_pos_iff.2 c
  have r:JH st 6 (.osl (2*u+1) u 0 T.length 1)=some (.sl none false T.length (T.flatMap intC)):=by
   show((j0 st.ob (2*u+1) u).bind fun cs=>if Nat.ble st.ro u=true∧0+T.length*1≤cs.length then (((cs.drop 0).take (T.length*1)).mapM (JH st 5)).map fun g=>V.sl none false T.length g else none)=_
   rw[b,Option.bind_some]
   rw[if_pos ⟨Nat.ble_eq▸i u q,zO⟩]
   rw[List.drop_zero,Nat.mul_one,List.take_of_length_le zO,jfo]
   rfl
  have o:jn st true 0 (.osl (2*u+1) u 0 T.length 1)=some (.sl (some (0,1)) false T.length (T.flatMap intC)):=by
   simp only[jn,r,Option.bind_some,b,Option.map_some]
   have w:(true && Nat.beq 0 0 && Nat.blt 0 T.length && Nat.beq (T.length*1) (T.flatMap intC).length)=true:=by
    rw[f,Nat.mul_one,Nat.beq_refl,Nat.beq_refl]
    simp
    exact a
   rw[w]
   rfl
  have k:XS st true 0 (.osl (2*u+1) u 0 T.length 1)=some (.sl (some (0,1)) false T.length (T.flatMap intC)):=o
  have s:[ARes.t n].mapM (jp st)=some [.osl (2*u+1) u 0 T.length 1]:=by simp[jp,m]
  simp only[ja7,Ym j,Yg j,if_true,s,Option.bind_some,Yv]
  have x:nodup ([V.osl (2*u+1) u 0 T.length 1].flatMap V.toks)=true:=rfl
  rw[x]
  simp only[JJ,k,Option.bind_some,Option.map_some]
  rw[jhn,e]
  rfl
theorem QG {E:Env}{Yf:YF}{st:St}{ub:Nat}{K:St→Nat→Prop}{d:Option Nat}{p:Nat→Prop}{l:List Int}{z:Int}{v:V}{s x:A}{X uX:Nat}(f:eval E st.tm s=v) (n:IntsO st.ob p l v) (j:eval E st.tm x=.osl X uX 0 1 1) (m:st.ob X=some ⟨uX,.cells [.int .i64 z]⟩) (b:∀u,p u→st.ro≤u) (q:l.length≤1000)
 (h:∀g:List Nat,(∀k∈g,∃u,p u∧k=2*u+1)→WW K st d ub { v:=.osl (2*ub+1) ub 0 (l++[z]).length 1,obs:=[(2*ub+1,⟨ub,.cells ((l++[z]).flatMap intC)⟩)],kill:=g }) :
 j6 E Yf ⟨d,.append true 1 8 s x,none,true⟩ st ub K:=by
 have a:jI st.ob 1 (eval E st.tm x)=some [.int .i64 z]:=by
  rw[j]
  simp[jI,j0,m]
 rcases n with⟨rfl,rfl⟩|⟨o,u,rfl,c,e⟩
 ·refine X9 f a zS zD rfl zS zS ?_
  simpa[intC,jH] using h [] zS
 ·have i:(l.flatMap intC).length=l.length:=by rw[j7 jC];omega
  refine YA (cs:=l.flatMap intC) f a c zS (b u e) zO zD rfl (by simp;omega) (by simp;omega) ?_
  have:=h [2*u+1] (by simp;exact⟨u,e,rfl⟩)
  rw[Nat.mul_one,List.take_of_length_le zO]
  simpa[intC,jH] using this
def jj3 (o:Op') (v:Val'):Bool:=o.v.kind == 2 || (v.kind == o.v.kind && v.n == o.v.n)
def Jl (o:Op'):List Int:=if o.v.kind=1 then [] else [-1]
def ofL (g:Hist') (a:Int) (o:Op'):List Int:=Jl o++(writersH g o.key).filter fun i=>!(i == a) && jj3 o (WJ g o.key i)
def ofH (g:Hist') (a b:Int):List Int:=match opAt g a b with
 | some o=>if o.w then [] else ofL g a o
 | none=>[]
theorem joe (g:Hist') (k:Int):(writersH g k).Pairwise (· < ·)∧∀x∈writersH g k,0≤x:=by
 have:=Wl (p:=wrB k) (ts:=g.ts) g.ts.length zR
 exact⟨this.2,fun x a=>(this.1 x a).1⟩
theorem jpk (g:Hist') (a:Int) (o:Op'):(ofL g a o).Pairwise (·≤·):=by
 have h:=joe g o.key
 unfold ofL Jl
 rw[List.pairwise_append]
 refine⟨?_,?_,?_⟩
 ·split <;> simp
 ·exact((h.1.imp (fun h=>Int.le_of_lt h)).filter _)
 ·intro x b y d
  have c:=h.2 y (List.mem_filter.1 d).1
  split at b
  ·cases b
  ·rw[List.mem_singleton]at b;omega
theorem jc5 (g:Hist') (k:Int):(writersH g k).length≤g.ts.length:=by
 unfold writersH
 exact JG (wrB k) g.ts g.ts.length
theorem j1w {g:Hist'}(d:g.ts.length≤40) (a:Int) (o:Op'):(ofL g a o).length≤41:=by
 unfold ofL Jl
 rw[List.length_append]
 have c:=List.length_filter_le (fun i=>!(i == a) && jj3 o (WJ g o.key i)) (writersH g o.key)
 have b:=jc5 g o.key
 split <;> simp <;> omega
theorem jzq {g:Hist'}(a:Wp g=true):g.ts.length≤40:=by
 unfold Wp Y4 at a
 simp only[Bool.and_eq_true,decide_eq_true_eq]at a
 exact a.1.2.2.2.2
def Xm (o:Op') (P:List (Int × Val')):List Int:=(P.filter fun p=>jj3 o p.2).map (·.1)
theorem jla {g:Hist'}{a:Int}{o:Op'}{P:List (Int × Val')}(h:P.Perm (Jb g a o.key (writersH g o.key))):(Jl o++Xm o P).Perm (ofL g a o):=by
 unfold ofL
 refine List.Perm.append_left _ ?_
 have b:(Xm o P).Perm (Xm o (Jb g a o.key (writersH g o.key))):=(h.filter _).map _
 refine b.trans ?_
 have e:Xm o (Jb g a o.key (writersH g o.key))=(writersH g o.key).filter fun i=>!(i == a) && jj3 o (WJ g o.key i):=by
  unfold Xm Jb
  rw[List.filter_map,List.map_map,List.filter_filter]
  have:((fun x:Int × Val'=>x.1) ∘ fun i=>(i,WJ g o.key i))=id:=rfl
  rw[this,List.map_id]
  congr 1
  funext i
  simp only[Function.comp,Bool.and_comm]
 rw[e]
theorem jy2 {m:List (Int × Val')}{A B:List (V × V)}{k v:V}(h:MP valV m=A++(k,v)::B):∃a p b,m=a++p::b∧A=MP valV a∧B=MP valV b∧k=.int .i64 p.1∧v=valV p.2:=by
 unfold MP at h
 obtain⟨a,C,f,e,g⟩:=List.map_eq_append_iff.1 h
 obtain⟨p,b,c,i,d⟩:=List.map_eq_cons_iff.1 g
 subst c
 have:=Prod.mk.inj i
 exact⟨a,p,b,f,e.symm,d.symm,this.1.symm,this.2.symm⟩
theorem j0f (a b:List (Int × Val')):MP valV a++MP valV b=MP valV (a++b):=by simp[MP]
theorem jzp {x:Nat}(h:640≤x):¬ 2*x=1152:=zO
theorem ev217 {g:Hist'}(hs:Small g) (a b:Int):Ev E 217 [.agg (histC g),.agg (jD (a,b))] (jhn (ofH g a b)):=by
 have T:=ev254 hs a b
 refine jP (af:=F217) rfl ?_
 unfold ofH
 cases O:opAt g a b with
 | none=>
  rw[O]at T
  simp[F217,histC,j0,jD]
  refine jR T (by simp[histC,jD]) rfl (by simp[histC,jD]) ?_
  rw[Jh (by simp[V.plain,opC])]
  simp[j5,opC,op0,j0]
  exact Yx (p:=fun _=>True) zS rfl (Or.inl ⟨rfl,zS⟩) zS
 | some o=>
  rw[O]at T
  simp only[Option.getD_some,Option.any_some]at T
  have b8:Wp g=true:=by
   unfold opAt at O
   cases hm:Wp g
   ·rw[hm]at O;cases O
   ·rfl
  have g6:=jzq b8
  simp[F217,histC,j0,jD]
  refine jR T (by simp[histC,jD]) rfl (by simp[histC,jD]) ?_
  rw[Jh (by simp[V.plain,opC])]
  cases hw:o.w
  ·simp[j5,opC,j0]
   generalize hK:jqj E Xx _ (jzr _ _)=K
   have c4:∀ (s:St) (v:V),s.tm 2=.ptr 1 0 0→s.tm 3=.ptr 129 64 0→s.tm 5=.ptr 1153 576 0→s.ob 1=some ⟨0,.cells (histC g)⟩→s.ob 129=some ⟨64,.cells [.int .i64 a,.int .i64 b]⟩→s.ob 1153=some ⟨576,.cells (opC o)⟩ →
    s.tm 7=v→IntsO s.ob (fun u=>640≤u∧u<s.nx) (Jl o) v→s.df=[]→s.ro=0→640≤s.nx→K .nrm s:=by
    intro s v h2 h3 h5 o1 o3 o5 N hv hd hr hn
    rw[← hK]
    clear hK
    simp[h2,h3,h5,o1,o3,o5,j0,opC,histC]
    refine jZ (vs:=[.agg (histC g),.int .i64 a,.int .i64 o.key]) (by simp[histC]) rfl (sv255 hs b8 a o.key (by simp[hr])) ?_
    rintro w e8 g4 c ⟨M,U,ver,e1,e2,e3,e4,e5,e6,e7⟩
    simp only at e1 e3 e5 e6 e7
    subst e1
    simp
    refine jlq (l:=2*M+1) (u:=U) (ver:=ver) zS (by simpa using e5) ?_
    simp
    refine jj fun x j=>?_
    have c0:640≤c:=by first|omega|(simp at e7;omega)
    have h1:640≤M:=by first|omega|(simp at e2;omega)
    obtain⟨D,a0⟩:∃l,Jb g a o.key (writersH g o.key)=l:=⟨_,rfl⟩
    rw[a0]at e5 j
    have c5:∀k,(∀m,s.nx≤m→k≠2*m+1)→e8 k=s.ob k:=fun k hk=>(e6 k (fun m hm=>hk m (by first|omega|(simp at hm;omega)))).trans zS
    have g9:s.nx≤M:=by first|omega|(simp at e2;omega)
    have g5:x.tm 5=.ptr 1153 576 0:=by rw[j];simp[h5]
    have g7:x.tm 7=v:=by rw[j];simp[N]
    have f7:x.tm 31=.iter (2*c+1) c:=by rw[j];simp
    have gd:x.df=[]:=by rw[j];simp[hd]
    have gr:x.ro=0:=by rw[j];simp[hr]
    have gn:c<x.nx:=by rw[j];simp
    have gf:∀k,k≠2*c+1→x.ob k=e8 k:=by
     intro k hk
     rw[j];simp[hk]
    have pi:x.ob (2*c+1)=some ⟨c,.miter (2*M+1) U ver (MP valV D) none⟩:=by rw[j];simp
    have pm:x.ob (2*M+1)=some ⟨U,.mp ver (MP valV D)⟩:=(gf _ zO).trans e5
    have p5:x.ob 1153=some ⟨576,.cells (opC o)⟩:=(gf _ zO).trans ((c5 _ (fun m hm=>by omega)).trans o5)
    have pv:IntsO x.ob (fun u=>640≤u∧u≠M∧u≠c∧u<x.nx) (Jl o++Xm o []) v:=by
     rw[show Xm o []=[] from rfl,List.append_nil]
     refine hv.frame (fun u y=>?_) (fun u y=>⟨y.1,zO,by first|omega|(simp at e7;omega),by first|omega|(simp at e7;omega)⟩)
     exact(gf _ (by first|omega|(simp at e7;omega))).trans (c5 _ (fun m hm=>by omega))
    clear j e6 e5 c5
    obtain⟨J,hJ⟩:∃J:Nat→St→Prop,J=fun n s=>∃ (P m':List (Int × Val')) (v:V) (b9:Option (V × V)),n=m'.length∧(P++m').Perm D∧s.tm 7=v∧IntsO s.ob (fun u=>640≤u∧u≠M∧u≠c∧u<s.nx) (Jl o++Xm o P) v ∧
     s.ob (2*c+1)=some ⟨c,.miter (2*M+1) U ver (MP valV m') b9⟩∧s.ob (2*M+1)=some ⟨U,.mp ver (MP valV D)⟩∧s.ob 1153=some ⟨576,.cells (opC o)⟩∧c<s.nx:=⟨_,rfl⟩
    refine YU (n:=D.length) [(7,9),(32,50)] J rfl rfl (by rw[hJ];exact⟨[],D,v,none,rfl,zS,g7,pv,pi,pm,p5,gn⟩) ?_
    clear N hv g7 pv pi pm p5 gn v
    intro n s e0 f
    rw[hJ]at e0
    obtain⟨P,m',v,b9,rfl,G,N,hv,oi,om,b6,f0⟩:=e0
    have f5:s.tm 5=.ptr 1153 576 0:=by rw[f.t 5 zS];exact g5
    have c9:s.tm 31=.iter (2*c+1) c:=by rw[f.t 31 zS];exact f7
    have fd:s.df=[]:=by rw[f.d];exact gd
    have fr:s.ro=0:=by rw[f.r];exact gr
    clear f
    have d0:(P++m').length≤40:=by
     rw[G.length_eq,← a0]
     unfold Jb
     rw[List.length_map]
     have:=List.length_filter_le (fun i=>!(i == a)) (writersH g o.key)
     have:=jc5 g o.key
     omega
    rw[List.length_append]at d0
    have h4:(Xm o P).length≤P.length:=by
     unfold Xm
     rw[List.length_map]
     exact List.length_filter_le _ _
    have h0:(Jl o).length≤1:=by unfold Jl;split <;> simp
    simp
    refine jps (l:=2*c+1) (u:=c) (l':=2*M+1) (u':=U) (ver:=ver) (es:=MP valV D) (left:=MP valV m') (by simp[c9]) oi om (by simp[fr]) ?_ ?_
    ·intro b7
     have e9:m'=[]:=by
      unfold MP at b7
      exact List.map_eq_nil_iff.1 b7
     subst e9
     rw[List.append_nil]at G
     have L:=jla (g:=g) (a:=a) (o:=o) (P:=P) (by rw[a0];exact G)
     have d4:=L.length_eq
     simp[N]
     rcases hv with⟨d5,rfl⟩|⟨g0,u,rfl,f2,y⟩
     ·rw[d5]at L
      have hT:ofL g a o=[]:=List.perm_nil.1 L.symm
      refine jZ (vs:=[.sl none true 0 []]) zS rfl sv69n ?_
      rintro w g1 f9 f3 ⟨q1,q2,q3⟩
      simp[N]
      exact Yx (p:=fun _=>True) (by simp[fd]) rfl (Or.inl ⟨hT,zS⟩) (by simp[fr])
     ·refine jZ (vs:=[.osl (2*u+1) u 0 (Jl o++Xm o P).length 1]) zS rfl (sv69 L (jpk g a o) (by rw[List.length_append];omega) (by simpa using f2) (by simp[fr]) (fun m hm=>by have:=y.2.2.2;first|omega|(simp at hm;omega)) (by simp[fr])) ?_
      rintro w g1 f9 f3 c8
      simp only at c8
      simp[N]
      refine Yx (p:=fun _=>True) (by simp[fd]) rfl (Or.inr ⟨?_,u,?_,by simpa using c8.1,trivial⟩) (by simp[fr])
      ·intro hT
       rw[hT]at L
       exact g0 (List.perm_nil.1 L)
      ·rw[← d4];simp
    ·intro A k w B f8
     obtain⟨A',q,B',rfl,rfl,rfl,rfl,rfl⟩:=jy2 f8
     have H:((P++[q])++(A'++B')).Perm D:=by
      refine List.Perm.trans ?_ G
      rw[List.append_assoc]
      exact List.Perm.append_left _ (by simpa using List.perm_middle.symm)
     have nM:¬ 2*M+1=2*c+1:=zO
     simp
     refine jxm (l:=2*c+1) (u:=c) (l':=2*M+1) (u':=U) (ver:=ver) (es:=MP valV D) (left:=MP valV A'++MP valV B') (k:=.int .i64 q.1) (v:=valV q.2) (by simp[c9]) zS (by simp[show ¬ 2*M=2*c by omega,om]) ?_
     have n5:¬ 1153=2*c+1:=zO
     simp[valV,jv,j5,fr,j0]
     generalize d6:jqj E Xx (C.cond _ _ _) _=K2
     have Q:∀ (F:St) (S:Bool),S=jj3 o q.2→F.tm 46=.bool S→F.tm 7=v→F.tm 8=.int .i64 q.1→IntsO F.ob (fun u=>640≤u∧u≠M∧u≠c∧u<F.nx) (Jl o++Xm o P) v →
      F.ob (2*c+1)=some ⟨c,.miter (2*M+1) U ver (MP valV (A'++B')) (some (.int .i64 q.1,valV q.2))⟩→F.ob (2*M+1)=some ⟨U,.mp ver (MP valV D)⟩→F.ob 1153=some ⟨576,.cells (opC o)⟩→c<F.nx→F.df=[]→F.ro=0→K2 .nrm F:=by
      intro F S d8 d9 N h8 hv oi om o5 hn hd hr
      rw[← d6]
      have I:Xm o (P++[q])=Xm o P++(if S then [q.1] else []):=by
       unfold Xm
       rw[List.filter_append,List.map_append,d8]
       cases hf:jj3 o q.2 <;> simp[hf]
      have h6:(A'++B').length<(A'++q::B').length:=zS
      cases S
      ·simp only[Bool.false_eq_true,if_false,List.append_nil]at I
       simp[d9]
       exact⟨(A'++B').length,zL,by rw[hJ];exact⟨P++[q],A'++B',v,some (.int .i64 q.1,valV q.2),rfl,H,by simp[N],by rw[I];exact hv.frame (fun u _=>by simp) (fun u y=>⟨y.1,y.2.1,y.2.2.1,by have:=y.2.2.2;first|omega|(simp;omega)⟩),by simp[oi],by simp[om],by simp[o5],by first|omega|(simp;omega)⟩⟩
      ·simp only[if_true]at I
       simp[d9,N,h8]
       refine Je (cs:=[.int .i64 q.1]) (by simp[j5]) rfl rfl ?_
       simp
       refine QG (p:=fun u=>640≤u∧u≠M∧u≠c∧u<F.nx) (l:=Jl o++Xm o P) (z:=q.1) (v:=v) (X:=2*(F.nx+64+64)+1) (uX:=F.nx+64+64) zS (hv.frame (fun u y=>?_) (fun _ h=>h)) zS zS (by simp[hr]) (by rw[List.length_append];simp at d0;omega) (fun kl c6=>?_)
       ·have:¬ 2*u=2*(F.nx+64+64):=by have:=y.2.2.2;omega
        simp[this]
       have nk:∀z:Nat,(∀u,640≤u→u≠M→u≠c→z≠2*u+1)→z ∉ kl:=fun z hz hm=>by
        obtain⟨u,y,e⟩:=c6 z hm
        exact hz u y.1 y.2.1 y.2.2.1 e
       have k1:=nk (2*c+1) (fun u _ _ h e=>h zO)
       have k2:=nk (2*M+1) (fun u _ h _ e=>h zO)
       have k3:=nk 1153 (fun u h _ _ e=>by omega)
       obtain⟨Z,hZ⟩:∃Z,F.nx+64+64+64=Z:=⟨_,rfl⟩
       have d1:¬ 2*c+1=2*Z+1:=zO
       have d2:¬ 2*M+1=2*Z+1:=zO
       have d3:¬ 1153=2*Z+1:=zO
       have b1:¬ 2*c+1=2*(F.nx+64+64)+1:=zO
       have b2:¬ 2*M+1=2*(F.nx+64+64)+1:=zO
       have b3:¬ 1153=2*(F.nx+64+64)+1:=zO
       have g8:∀X:Prop,X→X:=fun _ h=>h
       simp only[hZ]
       simp
       refine⟨(A'++B').length,zL,?_⟩
       rw[hJ]
       refine⟨P++[q],A'++B',.osl (2*Z+1) Z 0 (Jl o++Xm o (P++[q])).length 1,some (.int .i64 q.1,valV q.2),rfl,H,by simp[I],Or.inr ⟨by rw[I];simp,Z,rfl,?_,zO,zO,zO,?_⟩,?_,?_,?_,?_⟩
       ·simp only[J8,YG]
        rw[je2,if_pos rfl,I]
        simp
       ·first|omega|(simp;done)|(simp;omega)
       ·simp only[J8,YG]
        rw[jhw _ _ _ _ _ _ _ k1,if_neg d1]
        simp only[Ju,YG,if_neg b1]
        exact oi
       ·simp only[J8,YG]
        rw[jhw _ _ _ _ _ _ _ k2,if_neg d2]
        simp only[Ju,YG,if_neg b2]
        exact om
       ·simp only[J8,YG]
        rw[jhw _ _ _ _ _ _ _ k3,if_neg d3]
        simp only[Ju,YG,if_neg b3]
        exact o5
       ·first|omega|(simp;done)|(simp;omega)
     clear d6
     have c1:¬ 2*c=2*(s.nx+64+64+64+64+64):=zO
     have c2:¬ 2*M=2*(s.nx+64+64+64+64+64):=zO
     have c3:¬ 2*M=2*c:=zO
     have f6:640≤s.nx+64+64+64+64+64:=Nat.le_trans (Nat.le_trans c0 (Nat.le_of_lt f0)) (by simp[Nat.add_assoc])
     have nq:=jzp f6
     have b0:=jzp c0
     cases b5:(o.v.kind == 2)
     ·simp[f5,b6,j0,opC,n5,nq,b5]
      refine Q _ (q.2.kind == o.v.kind && q.2.n == o.v.n) (by unfold jj3;rw[b5];rfl) zS (by simp[N]) zS (hv.frame (fun u y=>?_) (fun u y=>⟨y.1,y.2.1,y.2.2.1,by have:=y.2.2.2;first|omega|(simp;omega)⟩)) (by simp[c1,j0f,valV,jv]) (by simp[c2,c3,om]) (by simp[nq,b0,b6,opC]) (by first|omega|(simp;omega)) (by simp[fd]) (by simp[fr])
      have a1:¬ 2*u=2*(s.nx+64+64+64+64+64):=by have:=y.2.2.2;omega
      have a2:¬ 2*u=2*c:=by have:=y.2.2.1;omega
      simp[a1,a2]
     ·simp[f5,b6,j0,opC,n5,nq,b5]
      refine Q _ true (by unfold jj3;rw[b5];rfl) zS (by simp[N]) zS (hv.frame (fun u y=>?_) (fun u y=>⟨y.1,y.2.1,y.2.2.1,by have:=y.2.2.2;first|omega|(simp;omega)⟩)) (by simp[c1,j0f,valV,jv]) (by simp[c2,c3,om]) (by simp[nq,b0,b6,opC]) (by first|omega|(simp;omega)) (by simp[fd]) (by simp[fr])
      have a1:¬ 2*u=2*(s.nx+64+64+64+64+64):=by have:=y.2.2.2;omega
      have a2:¬ 2*u=2*c:=by have:=y.2.2.1;omega
      simp[a1,a2]
   clear hK
   refine j2k fun x j=>?_
   have g2:x.tm 2=.ptr 1 0 0:=by rw[j];simp
   have g3:x.tm 3=.ptr 129 64 0:=by rw[j];simp
   have g5:x.tm 5=.ptr 1153 576 0:=by rw[j];simp
   have g7:x.tm 7=.sl none true 0 []:=by rw[j];simp
   have p1:x.ob 1=some ⟨0,.cells (histC g)⟩:=by rw[j];simp[histC]
   have p3:x.ob 129=some ⟨64,.cells [.int .i64 a,.int .i64 b]⟩:=by rw[j];simp
   have p5:x.ob 1153=some ⟨576,.cells (opC o)⟩:=by rw[j];simp[opC,hw]
   have gd:x.df=[]:=by rw[j];simp
   have gr:x.ro=0:=by rw[j];simp
   have gn:640≤x.nx:=by rw[j];simp
   clear j
   cases c7:(o.v.kind != 1)
   ·have hk:o.v.kind=1:=by simpa using c7
    simp
    exact c4 _ _ g2 g3 g5 p1 p3 p5 g7 (Or.inl ⟨by simp[Jl,hk],rfl⟩) gd gr gn
   ·have hk:¬ o.v.kind=1:=by simpa using c7
    simp[g7]
    refine Je (cs:=[.int .i64 (-1)]) (by simp[j5]) rfl rfl ?_
    simp
    refine QG (p:=fun _=>False) (l:=[]) (z:=-1) (v:=.sl none true 0 []) (X:=2*(x.nx+64)+1) (uX:=x.nx+64) zS (Or.inl ⟨rfl,rfl⟩) zS zS (fun _ h=>h.elim) zS (fun kl c6=>?_)
    have d7:kl=[]:=by
     cases kl with
     | nil=>rfl
     | cons k _=>obtain⟨_,h,_⟩:=c6 k zS;exact h.elim
    subst d7
    have n1:¬ 1=2*(x.nx+64+64)+1:=zO
    have f4:¬ 1=2*(x.nx+64)+1:=zO
    have n3:¬ 129=2*(x.nx+64+64)+1:=zO
    have f1:¬ 129=2*(x.nx+64)+1:=zO
    have n5:¬ 1153=2*(x.nx+64+64)+1:=zO
    have b0:¬ 1153=2*(x.nx+64)+1:=zO
    simp
    refine c4 _ (.osl (2*(x.nx+64+64)+1) (x.nx+64+64) 0 1 1) (by simp[g2]) (by simp[g3]) (by simp[g5]) ?_ ?_ ?_ zS (Or.inr ⟨by simp[Jl,hk],x.nx+64+64,by simp[Jl,hk],by simp[Jl,hk,intC],zO,zS⟩) (by simp[gd]) (by simp[gr]) (by simp;omega)
    ·simp only[J8,YG,Ju,if_neg n1,if_neg f4];exact p1
    ·simp only[J8,YG,Ju,if_neg n3,if_neg f1];exact p3
    ·simp only[J8,YG,Ju,if_neg n5,if_neg b0];exact p5
  ·simp[j5,opC,j0]
   exact Yx (p:=fun _=>True) zS rfl (Or.inl ⟨rfl,zS⟩) zS
end Go.Pv.T
namespace Go.Pv.T
open Go Go.Pv
end Go.Pv.T
namespace Go.Pv.T
open Go Go.Pv
theorem jd6 {g:Hist'}{a b:Int}{o:Op'}(h:opAt g a b=some o):∃i j:Nat,a=i∧b=j∧∃ (hi:i<g.ts.length) (d:j<(g.ts[i]).ops.length),(g.ts[i]).ops[j]=o:=by
 unfold opAt at h
 by_cases c:(Wp g && (decide (0≤a) && (decide (a<g.ts.length) && (decide (0≤b) && decide (b<((g.ts.getD a.toNat ⟨0,0,true,[]⟩).ops.length:Nat))))))=true
 ·rw[if_pos c]at h
  simp only[Bool.and_eq_true,decide_eq_true_eq]at c
  obtain⟨_,k,l,f,e⟩:=c
  obtain⟨i,rfl⟩:∃i:Nat,a=i:=⟨a.toNat,zO⟩
  obtain⟨j,rfl⟩:∃j:Nat,b=j:=⟨b.toNat,zO⟩
  have hi:i<g.ts.length:=zO
  rw[Int.toNat_natCast,JA hi]at h e
  have d:j<(g.ts[i]).ops.length:=zO
  rw[Int.toNat_natCast,List.getElem?_eq_getElem d]at h
  exact⟨i,j,rfl,rfl,hi,d,Option.some.inj h⟩
 ·rw[if_neg c]at h
  cases h
theorem Xv {ub:Nat}{v:V}{nl:Bool}{n:Nat}{cs:List V}{K:Delta→Prop}(b:SlR v nl n cs) (h:∀t add,K { v:=.sl t nl n cs,add:=add }):wpD (Xg ub v) K:=by
 obtain⟨t,add,a⟩:=jk5 (ub:=ub) b
 rw[a,jN]
 exact h t add
theorem len0 {a:Type}(l:List a):((l.length:Int) == 0)=l.isEmpty:=by cases l <;> simp <;> omega
theorem len0b {a b:Type}(l:List a) (m:List b):((l.length:Int)+m.length == 0)=(l.isEmpty && m.isEmpty):=by cases l <;> cases m <;> simp <;> omega
def JV (g:Hist'):Bool:=Wp g && ((XT g).isEmpty && (jbj g).isEmpty)
theorem ev52 {g:Hist'}(j:Small g):Ev E 52 [.agg (histC g)] (.bool (JV g)):=by
 have a:=jp1 j
 refine jP (af:=F52) rfl ?_
 unfold JV
 cases b:Wp g
 ·simp[F52,histC,j0]
  refine jR a (by simp[histC]) rfl (by simp[histC]) ?_
  have c:(errH g == 0)=false:=by simp[Qm b]
  simp[c]
  exact j3 zS zS rfl
 ·rw[Yh b]at a
  obtain⟨m,h,l,f⟩:=ev104 j b
  obtain⟨n,e,k,i⟩:=ev105 j b
  simp[F52,histC,j0]
  refine jR a (by simp[histC]) rfl (by simp[histC]) ?_
  simp[j0]
  refine jR h (by simp[histC]) rfl (by simp[histC]) ?_
  refine Xv f fun t add=>?_
  have d:=len0 (XT g)
  cases c:(XT g).isEmpty
  ·rw[c]at d
   simp[d]
   exact j3 zS zS rfl
  ·rw[c]at d
   simp[d,j0]
   refine jR e (by simp[histC]) rfl (by simp[histC]) ?_
   refine Xv i fun t add=>?_
   simp
   exact j3 zS (by simp[len0]) rfl
theorem ev21 {g:Hist'}(b:Small g):Ev E 21 [.agg (histC g)] (.bool (JV g)):=by
 have a:=ev58 b
 refine jP (af:=F21) rfl ?_
 unfold JV
 cases f:Wp g
 ·simp[F21,histC,j0]
  refine JU a (by simp[histC]) rfl (by simp[histC]) ?_
  have k:(errH g == 0)=false:=by simp[Qm f]
  simp[k]
  exact j3 zS zS rfl
 ·rw[Yh f]at a
  have d:=ev59 g (by have:=b.ts;omega)
  obtain⟨o,c,h,e⟩:=ev60 b
  have B:=bnd_of b
  have m:=B.i
  have n:=B.l
  have j:IntKind.i64.wrap (((XT g).length:Int)+(jbj g).length)=((XT g).length:Int)+(jbj g).length:=jm zO zO
  simp[F21,histC,j0]
  refine JU a (by simp[histC]) rfl (by simp[histC]) ?_
  simp[j0]
  refine JU d (by simp[histC]) rfl (by simp[histC]) ?_
  rw[jmv]
  simp[j0]
  refine JU c (by simp[histC]) rfl (by simp[histC]) ?_
  refine Xv e fun t add=>?_
  simp[j]
  exact j3 zS (by simp[len0b]) rfl
theorem ev32 {a b:Bool}(l m:List Int) (B:l.length≤1000000000) (D:m.length≤1000000000):Ev E 32 [slOf a intC l,slOf b intC m] (.bool (l == m)):=by
 refine jP (af:=F32) rfl ?_
 have r:∀ (l:List Int) (i:Nat) (h:i<l.length),(l.flatMap intC)[i]? = some (.int .i64 l[i]):=fun l i h=>by
  have:=jW jC l h (by decide:0<1)
  rw[Nat.mul_one,Nat.add_zero]at this
  rw[this];rfl
 by_cases k:l.length=m.length
 ·simp[F32,k]
  refine j9 [(4,5),(11,40)] l.length (fun i s=>s.tm 5=.int .i64 i∧l.take i=m.take i) rfl rfl ⟨zS,zS⟩ ?_
  rintro i s F ⟨n,p⟩ f
  have o:s.tm 0=slOf a intC l:=by rw[f.t 0 zS];simp
  have w:s.tm 1=slOf b intC m:=by rw[f.t 1 zS];simp
  have v:s.df=[]:=by rw[f.d];simp
  clear f
  by_cases j:i<l.length
  ·have x:=jh j zO
   have c:i<m.length:=zO
   have q:=r l i j
   have u:=r m i c
   cases g:(l[i] != m[i])
   ·have y:l[i]=m[i]:=by simpa using g
    simp[n,o,w,j,c,j4 jC,q,u,g,x]
    rw[List.take_succ_eq_append_getElem j,List.take_succ_eq_append_getElem c,p,y]
   ·have z:l[i]≠m[i]:=by simpa using g
    simp[n,o,w,j,c,j4 jC,q,u,g]
    refine j3 (by simp[v]) ?_ rfl
    have:(l == m)=false:=by
     rw[beq_eq_false_iff_ne]
     intro e
     subst e
     exact z rfl
    simp[this]
  ·have:i=l.length:=zO
   subst this
   simp[n,o]
   refine j3 (by simp[v]) ?_ rfl
   have:l=m:=by rw[List.take_length,k,List.take_length]at p;exact p
   simp[this]
 ·have g:((l.length:Int) != m.length)=true:=by simp;omega
  simp[F32,g]
  refine j3 zS ?_ rfl
  have:(l == m)=false:=by
   rw[beq_eq_false_iff_ne]
   intro e
   subst e
   exact k rfl
  simp[this]
end Go.Pv.T
