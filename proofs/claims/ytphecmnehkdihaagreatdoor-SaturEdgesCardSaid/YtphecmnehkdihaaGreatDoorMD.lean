/- The compiled functions, part 2. -/
import Derived.Test.YtphecmnehkdihaaGreatDoorMC
import Derived.Laws.BitsLemmas
import Derived.Lib.ValidLaws
import Derived.Laws.Bits64
import Derived.Sort.AssemblyPlain
set_option maxRecDepth 100000
set_option maxHeartbeats 8000000
namespace Go.Pv.T
open Go Go.Pv Go.Proofs
noncomputable section
def S96:AF:=⟨sr [qq 2 (.mov (.c (.sl none true 0 [])))] (sr [qq 7 (.buildSl true 2 [] [] 0),qv 3 7] (sq (sr [qm 4 0] (.block 0 (.loop (sq (sr [qv 8 4,qv 9 0,qq 10 (.nilCheck Z9),qf 11 0 10,ql 12 11,qb 13 .lss 8 12] (.cond Z13 .skip (.exit 0))) (sq (.block 1 (sr [qv 16 0,qv 17 4,qq 18 (.call 143 [Z16,Z17]),qv 5 18] (sr [qm 6 0] (.block 2 (.loop (sq (sr [qv 19 6,qv 20 5,qq 21 (lS Z20),qb 22 .lss 19 21] (.cond Z22 .skip (.exit 2))) (sq (.block 3 (rg [qv 25 3,qv 26 4,qv 27 5,qv 28 6,qx 29 1 27 28,ql 30 29,qq 31 (.build [(.int .i64 0),(.int .i64 0)] [(0,1,Z26),(1,1,Z30)]),qq 32 (.buildSl true 2 [(.int .i64 0),(.int .i64 0)] [(0,2,Z31)] 1),qq 33 (.append true 2 16 Z25 Z32),qv 3 33])) (rg [qv 23 6,qn 24 .add 23 1,qv 6 24])))))))) (rg [qv 14 4,qn 15 .add 14 1,qv 4 15])))))) (sr [qv 34 3,qv 2 34] .ret))),[.t 2]⟩
def S111:AF:=⟨sr [qq 3 (.box 3 Z0),qq 4 (.box 3 Z1),qq 6 (.mov aF)] (sq (sr [qf 9 0 4,ql 10 9,qn 11 .lss 10 0,qv 12 11,zF 13 (fA 0 Z4) 12,zF 14 (.load none Z13) 12,zF 15 (fA 0 Z3) 12,zF 16 (.load none Z15) 12,zF 17 (lS Z16) 12,zF 18 (.bin .geq Z14 Z17) 12,qq 19 (.pick Z12 aT Z18),qv 20 19,zF 21 (fA 1 Z4) 20,zF 22 (.load none Z21) 20,zF 23 (.bin .lss Z22 (nn 1)) 20,qq 24 (.pick Z20 aT Z23),qv 25 24,zF 26 (fA 1 Z4) 25,zF 27 (.load none Z26) 25,zF 28 (.bin .gtr Z27 (nn 3)) 25,qq 29 (.pick Z25 aT Z28),qv 30 29,zF 31 (fA 2 Z4) 30,zF 32 (.load none Z31) 30,zF 33 (lS Z32) 30,zF 34 (.bin .gtr Z33 (nn 20)) 30,qq 35 (.pick Z30 aT Z34)] (.cond Z35 (sr [qq 6 (.mov aF)] .ret) .skip)) (sq (sr [qm 7 0] (.block 0 (.loop (sq (sr [qv 36 7,qf 37 2 4,ql 38 37,qq 39 (lS Z38),qb 40 .lss 36 39] (.cond Z40 .skip (.exit 0))) (sq (.block 1 (sr [qf 43 2 4,ql 44 43,qv 45 7,qx 46 4 44 45,qs 47 4 46,qq 8 (.alloc [(.bool false),(.int .i64 0),(.int .i64 0),(.int .i64 0)]),qu (.store 4 Z8 Z47)] (sq (sr [qf 48 1 8,ql 49 48,qn 50 .lss 49 0,qv 51 50,zF 52 (fA 1 Z8) 51,zF 53 (.load none Z52) 51,zF 54 (fA 1 Z3) 51,zF 55 (.load none Z54) 51,zF 56 (lS Z55) 51,zF 57 (.bin .geq Z53 Z56) 51,qq 58 (.pick Z51 aT Z57),qv 59 58,zF 60 (fA 2 Z8) 59,zF 61 (.load (some 2) Z60) 59,zF 62 (.call 174 [Z61]) 59,zF 63 (.un .not Z62) 59,qq 64 (.pick Z59 aT Z63),qv 65 64,zF 66 (fA 0 Z8) 65,zF 67 (.load none Z66) 65,zF 68 (.mov (.t 67)) 65,zT 69 (fA 2 Z8) 68,zT 70 (fA 0 Z69) 68,zT 71 (.load none Z70) 68,zT 72 (.bin .neq (.t 71) (nn 1)) 68,zF 73 (.pick Z68 Z72 aF) 65,qq 74 (.pick Z65 aT Z73)] (.cond Z74 (sr [qq 6 (.mov aF)] .ret) .skip)) (rg [qv 75 2,qf 76 1 8,ql 77 76,qx 78 1 75 77,qu (.store 1 (.t 78) aT)])))) (rg [qv 41 7,qn 42 .add 41 1,qv 7 42])))))) (sr [qq 6 (.mov aT)] .ret))),[.t 6]⟩
def S124:AF:=⟨sr [qq 4 (.mov aF)] (sr [qv 5 0,qv 6 1,qq 7 (.call 128 [Z5,Z6]),qn 8 .eql 7 0,qv 9 8,zT 10 (.mov Z0) 9,zT 11 (.mov Z1) 9,zT 12 (.bin .quo Z11 (nn 64)) 9,zT 13 (.nilCheck Z10) 9,zT 14 (fA 0 Z13) 9,zT 15 (.idxArr 8 1 Z14 Z12) 9,zT 16 (.load none Z15) 9,zT 17 (.mov Z1) 9,zT 18 (.bin .rem Z17 (nn 64)) 9,zT 19 (.bin .shr Z16 Z18) 9,zT 20 (.bin .and Z19 (.c (.int .u64 1))) 9,zT 21 (.bin .eql Z20 (.c (.int .u64 1))) 9,qq 22 (.pick Z9 Z21 aF),qv 4 22] .ret),[.t 4]⟩
def S127:AF:=cf true true Tryz.f127
def S128:AF:=⟨sr [qm 4 0] (sq (.block 0 (sr [qv 6 0,qq 7 (.eq false .ptr Z6 (.c .nilptr)),qv 5 7] (.cond Z5 (sr [qm 4 4] .ret) (sr [qv 9 1,qq 10 (.call 189 [Z9]),qq 11 (.un .not Z10),qv 8 11] (.cond Z8 (sr [qm 4 2] .ret) .skip))))) (sr [qm 4 0] .ret)),[.t 4]⟩
def S130:AF:=⟨sr [qq 2 (.mov (.c (.sl none true 0 [])))] (sq (sr [qv 6 0,qq 7 (.eq false .ptr Z6 (.c .nilptr))] (.cond Z7 (sr [qq 2 (.mov (.c (.sl none true 0 [])))] .ret) .skip)) (sr [qq 3 (.mov (.c (.sl none true 0 [])))] (sq (sr [qv 8 0,qq 9 (.nilCheck Z8),qf 10 0 9,qs 11 8 10,qm 12 0] (.block 0 (.loop (sr [qn 13 .lss 12 8] (sq (.cond Z13 .skip (.exit 0)) (sq (.block 1 (sr [qv 14 12,qq 15 (.idxVal none 8 1 Z11 Z12),qv 4 14,qv 5 15] (.block 2 (.loop (sq (sr [qv 16 5,qq 17 (.bin .neq Z16 (.c (.int .u64 0)))] (.cond Z17 .skip (.exit 2))) (sq (.block 3 (rg [qv 22 3,qv 23 4,qn 24 .mul 23 64,qv 25 5,qq 26 (.call 190 [Z25]),qb 27 .add 24 26,qq 28 (.buildSl true 1 [(.int .i64 0)] [(0,1,Z27)] 1),qq 29 (.append true 1 8 Z22 Z28),qv 3 29])) (rg [qv 18 5,qv 19 5,qq 20 (.bin .sub Z19 (.c (.int .u64 1))),qb 21 .and 18 20,qv 5 21]))))))) (rg [qn 30 .add 12 1,qv 12 30]))))))) (sr [qv 31 3,qv 2 31] .ret)))),[.t 2]⟩
def S137:AF:=⟨.draw [qv 6 0,qv 7 0,qq 8 (.nilCheck Z7),qf 9 5 8,ql 10 9,qv 11 0,qv 12 1,qq 13 (.call 192 [Z11,Z12]),qv 14 0,qv 15 2,qq 16 (.call 192 [Z14,Z15]),qq 17 (.build [(.int .i64 0),(.int .i64 0)] [(0,1,Z13),(1,1,Z16)]),qq 18 (.buildSl true 2 [(.int .i64 0),(.int .i64 0)] [(0,2,Z17)] 1),qq 19 (.append true 2 16 Z10 Z18),qq 20 (.nilCheck Z6),qf 21 5 20,qu (.store 1 Z21 Z19)] [(4,12)],[]⟩
def S138:AF:=⟨sr [qq 1 (.box 1 Z0),qq 2 (.mov (.c .nilfn))] (sr [qq 3 (.alloc [(.sl none true 0 [])])] (sq (sr [ql 6 1,qq 7 (.nilCheck Z6),qf 8 5 7,ql 9 8,qq 10 (lS Z9),qm 11 0] (.block 0 (.loop (sr [qb 12 .lss 11 10] (sq (.cond Z12 .skip (.exit 0)) (sq (.block 1 (sr [qx 13 2 9 11,qs 14 2 13,qq 5 (.alloc [(.int .i64 0),(.int .i64 0)]),qu (.store 2 Z5 Z14)] (sq (.draw [qf 15 0 5,ql 16 15,ql 17 1,qq 18 (.nilCheck Z17),qf 19 0 18,qf 20 2 19,ql 21 20,qq 22 (lS Z21),qb 23 .lss 16 22] []) (.cond Z23 (rg [ql 24 3,qf 25 1 5,ql 26 25,qf 27 0 5,ql 28 27,qq 29 (.build [(.int .i64 0),(.int .i64 0)] [(0,1,Z26),(1,1,Z28)]),qq 30 (.buildSl true 2 [(.int .i64 0),(.int .i64 0)] [(0,2,Z29)] 1),qq 31 (.append true 2 16 Z24 Z30),qu (.store 1 Z3 Z31)]) .skip)))) (rg [qn 32 .add 11 1,qv 11 32]))))))) (sr [qq 33 (.mkFn (.func 193) [] [.t 1,.t 3]),qv 2 33] .ret))),[.t 2]⟩
def S139:AF:=⟨sr [qq 4 (.mov (.c (.sl none true 0 [])))] (sq (.seq (.draw [ql 5 1,ql 6 2,qq 7 (.nilCheck Z6),qf 8 4 7,ql 9 8,qv 10 0,qx 11 2 9 10,qf 12 0 11,ql 13 12] []) (rg [qq 14 (.callV Z5 [.t 13]),qv 4 14])) .ret),[.t 4]⟩
def S140:AF:=⟨sr [qq 3 (.mov (.c (.sl none true 0 [])))] (sr [qq 4 (.mov (.c (.sl none true 0 [])))] (sq (sr [ql 7 1,qq 8 (.nilCheck Z7),qf 9 4 8,ql 10 9,qq 11 (lS Z10),qm 12 0] (.block 0 (.loop (sr [qb 13 .lss 12 11] (sq (.cond Z13 .skip (.exit 0)) (sq (.block 1 (sr [qv 14 12,qx 15 2 10 12,qs 16 2 15,qq 6 (.alloc [(.int .i64 0),(.int .i64 0)]),qv 5 14,qu (.store 2 Z6 Z16)] (sq (.draw [qf 17 0 6,ql 18 17,ql 19 1,qq 20 (.nilCheck Z19),qf 21 4 20,ql 22 21,qv 23 0,qx 24 2 22 23,qf 25 0 24,ql 26 25,qb 27 .eql 18 26,qv 28 27,zT 29 (fA 1 Z6) 28,zT 30 (.load none Z29) 28,zT 31 (.load none Z1) 28,zT 32 (.nilCheck Z31) 28,zT 33 (fA 4 Z32) 28,zT 34 (.load none Z33) 28,zT 35 (.mov Z0) 28,zT 36 (.idxSl 2 Z34 Z35) 28,zT 37 (fA 1 Z36) 28,zT 38 (.load none Z37) 28,zT 39 (.bin .lss Z30 Z38) 28,qq 40 (.pick Z28 Z39 aF),qv 41 40,zT 42 (.load none Z1) 41,zT 43 (.nilCheck Z42) 41,zT 44 (fA 3 Z43) 41,zT 45 (.load none Z44) 41,zT 46 (.mov Z5) 41,zT 47 (.idxSl 1 Z45 Z46) 41,zT 48 (.load none Z47) 41,zT 49 (.bin .geq Z48 (nn 0)) 41,qq 50 (.pick Z41 Z49 aF)] []) (.cond Z50 (rg [qv 51 4,ql 52 1,qq 53 (.nilCheck Z52),qf 54 3 53,ql 55 54,qv 56 5,qx 57 1 55 56,ql 58 57,qq 59 (.buildSl true 1 [(.int .i64 0)] [(0,1,Z58)] 1),qq 60 (.append true 1 8 Z51 Z59),qv 4 60]) .skip)))) (rg [qn 61 .add 12 1,qv 12 61]))))))) (sr [qv 62 4,qv 3 62] .ret))),[.t 3]⟩
def S142:AF:=⟨sr [qq 6 (.mov aF),qm 7 0] (sq (sr [qv 8 1,qn 9 .lss 8 0,qv 10 9,zF 11 (.mov Z2) 10,zF 12 (.bin .lss Z11 (nn 0)) 10,qq 13 (.pick Z10 aT Z12),qv 14 13,zF 15 (.mov Z1) 14,zF 16 (.mov Z0) 14,zF 17 (.nilCheck Z16) 14,zF 18 (fA 0 Z17) 14,zF 19 (.load none Z18) 14,zF 20 (.bin .geq Z15 Z19) 14,qq 21 (.pick Z14 aT Z20),qv 22 21,zF 23 (.mov Z2) 22,zF 24 (.mov Z0) 22,zF 25 (.nilCheck Z24) 22,zF 26 (fA 0 Z25) 22,zF 27 (.load none Z26) 22,zF 28 (.bin .geq Z23 Z27) 22,qq 29 (.pick Z22 aT Z28)] (.cond Z29 (sr [qq 6 (.mov aF),qm 7 2] .ret) .skip)) (sq (sr [qv 30 0,qv 31 1,qv 32 2,qq 33 (.call 203 [Z30,Z31,Z32])] (.cond Z33 (sr [qq 6 (.mov aF),qm 7 0] .ret) .skip)) (sr [qv 34 0,qv 35 0,qq 36 (.nilCheck Z35),qf 37 1 36,ql 38 37,qv 39 1,qv 40 2,qq 41 (.build [(.int .i64 0),(.int .i64 0)] [(0,1,Z39),(1,1,Z40)]),qq 42 (.buildSl true 2 [(.int .i64 0),(.int .i64 0)] [(0,2,Z41)] 1),qq 43 (.append true 2 16 Z38 Z42),qq 44 (.nilCheck Z34),qf 45 1 44,qu (.store 1 Z45 Z43)] (sr [qq 6 (.mov aT),qm 7 0] .ret)))),[.t 6,.t 7]⟩
def S143:AF:=⟨sr [qq 4 (.mov (.c (.sl none true 0 [])))] (sr [qq 7 (.buildSl true 1 [] [] 0),qv 5 7] (sq (sr [qm 6 0] (.block 0 (.loop (sq (sr [qv 8 6,qv 9 0,qq 10 (.nilCheck Z9),qf 11 0 10,ql 12 11,qb 13 .lss 8 12] (.cond Z13 .skip (.exit 0))) (sq (.block 1 (sr [qv 16 0,qv 17 1,qv 18 6,qq 19 (.call 203 [Z16,Z17,Z18])] (.cond Z19 (rg [qv 20 5,qv 21 6,qq 22 (.buildSl true 1 [(.int .i64 0)] [(0,1,Z21)] 1),qq 23 (.append true 1 8 Z20 Z22),qv 5 23]) .skip))) (rg [qv 14 6,qn 15 .add 14 1,qv 6 15])))))) (sr [qv 24 5,qv 4 24] .ret))),[.t 4]⟩
def S144:AF:=⟨sr [qq 4 (.mov (.c .nilptr)),qm 5 0] (sr [qv 13 0,qq 14 (.call 204 [Z13]),qv 12 14,qe 15 12 0,qe 16 12 1,qv 6 15,qv 7 16] (sq (sr [qv 17 7,qn 18 .neq 17 0] (.cond Z18 (sr [qv 19 7,qq 4 (.mov (.c .nilptr)),qv 5 19] .ret) .skip)) (sq (sr [qv 20 1,qq 21 (lS Z20),qm 22 0] (.block 0 (.loop (sr [qb 23 .lss 22 21] (sq (.cond Z23 .skip (.exit 0)) (sq (.block 1 (sr [qx 24 2 20 22,qs 25 2 24,qq 9 (.alloc [(.int .i64 0),(.int .i64 0)]),qu (.store 2 Z9 Z25)] (sr [qv 27 6,qf 28 0 9,ql 29 28,qf 30 1 9,ql 31 30,qq 32 (.call 205 [Z27,Z29,Z31]),qv 26 32,qe 33 26 0,qe 34 26 1,qv 10 33,qv 11 34] (sr [qv 35 11,qn 36 .neq 35 0] (.cond Z36 (sr [qv 37 11,qq 4 (.mov (.c .nilptr)),qv 5 37] .ret) .skip))))) (rg [qn 38 .add 22 1,qv 22 38]))))))) (sr [qv 39 6,qv 40 7,qv 4 39,qv 5 40] .ret)))),[.t 4,.t 5]⟩
def S145:AF:=cf true true Tryz.f145
def S146:AF:=⟨sr [qq 4 (.mov (.c (.sl none true 0 [])))] (sq (sr [qv 5 0,qv 6 1,qq 7 (.call 206 [Z5,Z6]),qq 8 (.un .not Z7)] (.cond Z8 (sr [qq 4 (.mov (.c (.sl none true 0 [])))] .ret) .skip)) (sr [qv 9 0,qq 10 (.nilCheck Z9),qf 11 0 10,ql 12 11,qv 13 1,qx 14 1 12 13,ql 15 14,qq 16 (.call 130 [Z15]),qv 4 16] .ret)),[.t 4]⟩
def S147:AF:=cf true true Tryz.f147
def S148:AF:=cf true true Tryz.f148
def S149:AF:=cf true true Tryz.f149
def S153:AF:=⟨sr [qq 4 (.mov aF)] (sr [qv 5 0,qv 6 1,qq 7 (.call 213 [Z5,Z6]),qn 8 .geq 7 0,qv 4 8] .ret),[.t 4]⟩
def S154:AF:=⟨sr [qq 2 (.box 3 Z0),qq 3 (.mov aF)] (sr [qs 4 3 1,qs 5 3 2,qq 6 (.call 155 [Z4,Z5]),qq 7 (.un .not Z6),qv 3 7] .ret),[.t 3]⟩
def S156:AF:=⟨sr [qq 1 (.box 3 Z0),qq 2 (.mov (.c .nilfn))] (sr [qq 3 (.mkFn (.func 215) [] [.t 1]),qv 2 3] .ret),[.t 2]⟩
def S168:AF:=cf true true Tryz.f168
def S169:AF:=cf true true Tryz.f169
def S171:AF:=cf true true Tryz.f171
def S189:AF:=cf true true Tryz.f189
def S192:AF:=⟨sr [qm 4 0] (sq (sr [qv 5 1,qn 6 .lss 5 0] (.cond Z6 (sr [qv 7 0,qq 8 (.nilCheck Z7),qf 9 0 8,qf 10 2 9,ql 11 10,qq 12 (lS Z11),qv 4 12] .ret) .skip)) (sr [qv 13 1,qv 4 13] .ret)),[.t 4]⟩
def S193:AF:=⟨sr [qq 4 (.mov (.c (.sl none true 0 [])))] (sq (.seq (.draw [ql 8 1,qq 9 (.nilCheck Z8),qf 10 0 9,qf 11 2 10,ql 12 11,qq 13 (lS Z12),qv 14 0,ql 15 2] []) (sr [qq 16 (.call 194 [Z13,Z14,Z15])] (.draw [qu (.mov (.c (.tup []))),qu (.mov (.c (.tup []))),qu (.mov (.c (.tup []))),qu (.mov (.c (.tup []))),qu (.mov (.c (.tup []))),qu (.mov (.c (.tup []))),qu (.mov (.c (.tup []))),qu (.mov (.c (.tup []))),qu (.mov (.c (.tup []))),qv 7 16,qe 17 7 0,qe 18 7 1,qv 5 17,qv 6 18] []))) (sr [qv 19 5,qv 4 19] .ret)),[.t 4]⟩
def S194:AF:=⟨sr [qq 6 (.mov (.c (.sl none true 0 []))),qm 7 0] (sr [qv 11 0,qv 12 2,qq 13 (.call 144 [Z11,Z12]),qv 10 13,qe 14 10 0,qe 15 10 1,qv 8 14,qv 9 15] (sq (sr [qv 16 9,qn 17 .neq 16 0] (.cond Z17 (sr [qv 18 9,qq 6 (.mov (.c (.sl none true 0 []))),qv 7 18] .ret) .skip)) (sq (sr [qv 19 1,qn 20 .lss 19 0,qv 21 20,zF 22 (.mov Z1) 21,zF 23 (.mov Z0) 21,zF 24 (.bin .geq Z22 Z23) 21,qq 25 (.pick Z21 aT Z24)] (.cond Z25 (sr [qq 6 (.mov (.c (.sl none true 0 []))),qm 7 2] .ret) .skip)) (sr [qv 26 8,qq 27 (.call 244 [Z26]),qv 28 1,qx 29 1 27 28,ql 30 29,qq 31 (.call 130 [Z30]),qv 32 9,qv 6 31,qv 7 32] .ret)))),[.t 6,.t 7]⟩
def S203:AF:=⟨sr [qq 6 (.mov aF)] (sq (sr [qm 7 0] (.block 0 (.loop (sq (sr [qv 8 7,qv 9 0,qq 10 (.nilCheck Z9),qf 11 1 10,ql 12 11,qq 13 (lS Z12),qb 14 .lss 8 13] (.cond Z14 .skip (.exit 0))) (sq (.block 1 (sr [qv 17 0,qq 18 (.nilCheck Z17),qf 19 1 18,ql 20 19,qv 21 7,qx 22 2 20 21,qf 23 0 22,ql 24 23,qv 25 1,qb 26 .eql 24 25,qv 27 26,zT 28 (.mov Z0) 27,zT 29 (.nilCheck Z28) 27,zT 30 (fA 1 Z29) 27,zT 31 (.load none Z30) 27,zT 32 (.mov Z7) 27,zT 33 (.idxSl 2 Z31 Z32) 27,zT 34 (fA 1 Z33) 27,zT 35 (.load none Z34) 27,zT 36 (.mov Z2) 27,zT 37 (.bin .eql Z35 Z36) 27,qq 38 (.pick Z27 Z37 aF)] (.cond Z38 (sr [qq 6 (.mov aT)] .ret) .skip))) (rg [qv 15 7,qn 16 .add 15 1,qv 7 16])))))) (sr [qq 6 (.mov aF)] .ret)),[.t 6]⟩
def S204:AF:=⟨sr [qq 2 (.mov (.c .nilptr)),qm 3 0] (sq (sr [qv 5 0,qn 6 .lss 5 0,qv 7 6,zF 8 (.mov Z0) 7,zF 9 (.bin .gtr Z8 (nn 500)) 7,qq 10 (.pick Z7 aT Z9)] (.cond Z10 (sr [qq 2 (.mov (.c .nilptr)),qm 3 2] .ret) .skip)) (sr [qq 11 (.build [(.sl none true 0 []),(.sl none true 0 []),(.sl none true 0 []),(.bool false)] [(3,1,aT)]),qq 12 (.box 4 Z11),qv 4 12] (sq (sr [qv 13 0,qm 14 0] (.block 0 (.loop (sr [qb 15 .lss 14 13] (sq (.cond Z15 .skip (.exit 0)) (sq (.block 1 (.draw [qv 16 4,qv 17 4,qv 18 4,qq 19 (.nilCheck Z18),qf 20 0 19,ql 21 20,qq 22 (.call 78 [(.c (.sl none true 0 []))]),qq 23 (.buildSl true 1 [.nilptr] [(0,1,Z22)] 1),qq 24 (.append true 1 8 Z21 Z23),qv 25 4,qq 26 (.nilCheck Z25),qf 27 1 26,ql 28 27,qq 29 (.call 78 [(.c (.sl none true 0 []))]),qq 30 (.buildSl true 1 [.nilptr] [(0,1,Z29)] 1),qq 31 (.append true 1 8 Z28 Z30),qq 32 (.nilCheck Z16),qf 33 0 32,qu (.store 1 Z33 Z24),qq 34 (.nilCheck Z17),qf 35 1 34,qu (.store 1 Z35 Z31)] [(5,7),(7,12),(8,12),(12,14)])) (rg [qn 36 .add 14 1,qv 14 36]))))))) (sr [qv 37 4,qv 2 37,qm 3 0] .ret)))),[.t 2,.t 3]⟩
def S205:AF:=⟨sr [qq 6 (.mov aF),qm 7 0] (sq (.block 0 (sr [qv 9 0,qq 10 (.call 248 [Z9]),qq 11 (.un .not Z10),qv 8 11] (.cond Z8 (sr [qq 6 (.mov aF),qm 7 4] .ret) (sr [qv 13 0,qv 14 1,qq 15 (.call 206 [Z13,Z14]),qq 16 (.un .not Z15),qv 17 16,zF 18 (.mov Z0) 17,zF 19 (.mov Z2) 17,zF 20 (.call 206 [Z18,Z19]) 17,zF 21 (.un .not Z20) 17,qq 22 (.pick Z17 aT Z21),qv 12 22] (.cond Z12 (sr [qq 6 (.mov aF),qm 7 2] .ret) (sr [qv 24 0,qv 25 1,qv 26 2,qq 27 (.call 249 [Z24,Z25,Z26]),qv 23 27] (.cond Z23 (sr [qq 6 (.mov aF),qm 7 0] .ret) .skip))))))) (sr [qv 28 0,qq 29 (.nilCheck Z28),qf 30 0 29,ql 31 30,qv 32 1,qx 33 1 31 32,ql 34 33,qv 35 2,qq 36 (.call 81 [Z34,Z35])] (sr [qv 37 0,qq 38 (.nilCheck Z37),qf 39 1 38,ql 40 39,qv 41 2,qx 42 1 40 41,ql 43 42,qv 44 1,qq 45 (.call 81 [Z43,Z44])] (sr [qv 46 0,qv 47 0,qq 48 (.nilCheck Z47),qf 49 2 48,ql 50 49,qv 51 1,qv 52 2,qq 53 (.build [(.int .i64 0),(.int .i64 0)] [(0,1,Z51),(1,1,Z52)]),qq 54 (.buildSl true 2 [(.int .i64 0),(.int .i64 0)] [(0,2,Z53)] 1),qq 55 (.append true 2 16 Z50 Z54),qq 56 (.nilCheck Z46),qf 57 2 56,qu (.store 1 Z57 Z55)] (sr [qq 6 (.mov aT),qm 7 0] .ret))))),[.t 6,.t 7]⟩
def S206:AF:=⟨sr [qq 4 (.mov aF)] (sr [qv 5 0,qq 6 (.call 248 [Z5]),qv 7 6,zT 8 (.mov Z1) 7,zT 9 (.bin .geq Z8 (nn 0)) 7,qq 10 (.pick Z7 Z9 aF),qv 11 10,zT 12 (.mov Z1) 11,zT 13 (.mov Z0) 11,zT 14 (.nilCheck Z13) 11,zT 15 (fA 0 Z14) 11,zT 16 (.load none Z15) 11,zT 17 (lS Z16) 11,zT 18 (.bin .lss Z12 Z17) 11,qq 19 (.pick Z11 Z18 aF),qv 4 19] .ret),[.t 4]⟩
def S207:AF:=cf true true Tryz.f207
def S208:AF:=⟨sr [qm 2 0] (sq (sr [qv 3 0,qq 4 (.call 248 [Z3]),qq 5 (.un .not Z4)] (.cond Z5 (sr [qm 2 0] .ret) .skip)) (sr [qv 6 0,qq 7 (.nilCheck Z6),qf 8 0 7,ql 9 8,qq 10 (lS Z9),qv 2 10] .ret)),[.t 2]⟩
def S209:AF:=cf true true Tryz.f209
def S210:AF:=cf true true Tryz.f210
def S213:AF:=⟨sr [qm 4 0] (sq (sr [qv 6 0,qq 7 (lS Z6),qm 8 0] (.block 0 (.loop (sr [qb 9 .lss 8 7] (sq (.cond Z9 .skip (.exit 0)) (sq (.block 1 (sr [qv 10 8,qv 5 10] (sr [qv 11 1,qv 12 0,qv 13 5,qx 14 3 12 13,qs 15 3 14,qq 16 (.callV Z11 [.t 15])] (.cond Z16 (sr [qv 17 5,qv 4 17] .ret) .skip)))) (rg [qn 18 .add 8 1,qv 8 18]))))))) (sr [qq 4 (.mov (nn (-1)))] .ret)),[.t 4]⟩
def S215:AF:=⟨sr [qf 7 2 1,ql 8 7,qq 9 (lS Z8),qm 10 0] (.block 0 (.loop (sr [qb 11 .lss 10 9] (sq (.cond Z11 .skip (.exit 0)) (sq (.block 1 (sr [qv 12 10,qx 13 3 8 10,qs 14 3 13,qq 4 (.alloc [(.int .i64 0),(.int .i64 0),(.sl none true 0 [])]),qv 3 12,qu (.store 3 Z4 Z14)] (sr [qf 15 2 4,ql 16 15,qq 17 (lS Z16),qm 18 0] (.block 2 (.loop (sr [qb 19 .lss 18 17] (sq (.cond Z19 .skip (.exit 2)) (sq (.block 3 (sr [qv 20 18,qx 21 4 16 18,qs 22 4 21,qq 6 (.alloc [(.bool false),(.int .i64 0),(.int .i64 0),(.int .i64 0)]),qv 5 20,qu (.store 4 Z6 Z22)] (sr [qv 23 0,qv 24 3,qv 25 5,qq 26 (.build [(.int .i64 0),(.int .i64 0)] [(0,1,Z24),(1,1,Z25)]),qs 27 4 6,qq 28 (.callV Z23 [.t 26,.t 27]),qq 29 (.un .not Z28)] (.cond Z29 .ret .skip)))) (rg [qn 30 .add 18 1,qv 18 30]))))))))) (rg [qn 31 .add 10 1,qv 10 31])))))),[]⟩
def S231:AF:=cf true true Tryz.f231
def S232:AF:=cf true true Tryz.f232
def S237:AF:=⟨sr [qq 1 (.box 1 Z0),qq 2 (.mov (.c .nilfn))] (sr [qq 3 (.mkFn (.func 274) [] [.t 1]),qv 2 3] .ret),[.t 2]⟩
def S244:AF:=⟨sr [qq 2 (.mov (.c (.sl none true 0 [])))] (sr [qv 7 0,qq 8 (.call 208 [Z7]),qq 9 (.mkSl true 1 8 [.nilptr] Z8 Z8),qv 3 9] (sq (sr [qv 10 3,qq 11 (lS Z10),qm 12 0] (.block 0 (.loop (sr [qb 13 .lss 12 11] (sq (.cond Z13 .skip (.exit 0)) (sq (.block 1 (sr [qv 14 12,qv 4 14] (rg [qv 15 3,qv 16 4,qv 17 0,qv 18 4,qq 19 (.call 146 [Z17,Z18]),qq 20 (.call 78 [Z19]),qx 21 1 15 16,qu (.store 1 Z21 Z20)]))) (rg [qn 22 .add 12 1,qv 12 22]))))))) (sq (sr [qv 23 3,qq 24 (lS Z23),qm 25 0] (.block 2 (.loop (sr [qb 26 .lss 25 24] (sq (.cond Z26 .skip (.exit 2)) (sq (.block 3 (sr [qv 27 25,qv 5 27] (sr [qv 28 3,qq 29 (lS Z28),qm 30 0] (.block 4 (.loop (sr [qb 31 .lss 30 29] (sq (.cond Z31 .skip (.exit 4)) (sq (.block 5 (sr [qv 32 30,qv 6 32] (sr [qv 33 3,qv 34 6,qx 35 1 33 34,ql 36 35,qv 37 5,qq 38 (.call 124 [Z36,Z37])] (.cond Z38 (sq (.draw [qv 39 3,qv 40 6,qx 41 1 39 40,ql 42 41,qv 43 3,qv 44 5,qx 45 1 43 44,ql 46 45] []) (rg [qq 47 (.call 276 [Z42,Z46])])) .skip)))) (rg [qn 48 .add 30 1,qv 30 48]))))))))) (rg [qn 49 .add 25 1,qv 25 49]))))))) (sr [qv 50 3,qv 2 50] .ret)))),[.t 2]⟩
def S248:AF:=⟨sr [qq 2 (.mov aF)] (sr [qv 3 0,qq 4 (.eq true .ptr Z3 (.c .nilptr)),qv 5 4,zT 6 (.mov Z0) 5,zT 7 (.nilCheck Z6) 5,zT 8 (fA 3 Z7) 5,zT 9 (.load none Z8) 5,qq 10 (.pick Z5 Z9 aF),qv 2 10] .ret),[.t 2]⟩
def S249:AF:=⟨sr [qq 6 (.mov aF)] (sr [qv 7 0,qv 8 1,qq 9 (.call 206 [Z7,Z8]),qv 10 9,zT 11 (.mov Z0) 10,zT 12 (.nilCheck Z11) 10,zT 13 (fA 0 Z12) 10,zT 14 (.load none Z13) 10,zT 15 (.mov Z1) 10,zT 16 (.idxSl 1 Z14 Z15) 10,zT 17 (.load none Z16) 10,zT 18 (.mov Z2) 10,zT 19 (.call 124 [Z17,Z18]) 10,qq 20 (.pick Z10 Z19 aF),qv 6 20] .ret),[.t 6]⟩
def S255:AF:=⟨sr [qq 3 (.box 3 Z0),qq 6 (.mov (.c .nilmap))] (sr [qq 10 (.mkMap),qv 7 10] (sq (sr [qs 11 3 3,qv 12 2,qq 13 (.call 281 [Z11,Z12]),qq 14 (lS Z13),qm 15 0] (.block 0 (.loop (sr [qb 16 .lss 15 14] (sq (.cond Z16 .skip (.exit 0)) (sq (.block 1 (sr [qx 17 1 13 15,ql 18 17,qv 9 18] (sr [qv 19 9,qv 20 1,qb 21 .neq 19 20] (.cond Z21 (rg [qv 23 7,qv 24 9,qs 25 3 3,qv 26 9,qv 27 2,qq 28 (.call 116 [Z25,Z26,Z27]),qv 22 28,qe 29 22 0,qe 30 22 1,qu (.mapSet .int Z23 Z24 Z29)]) .skip)))) (rg [qn 31 .add 15 1,qv 15 31]))))))) (sr [qv 32 7,qv 6 32] .ret))),[.t 6]⟩
def S270:AF:=cf true true Tryz.f270
def S271:AF:=cf true true Tryz.f271
def S272:AF:=cf true true Tryz.f272
def S274:AF:=⟨sr [ql 4 1,qq 5 (lS Z4),qn 6 .sub 5 1,qv 3 6] (.block 0 (.loop (sq (sr [qv 7 3,qn 8 .geq 7 0] (.cond Z8 .skip (.exit 0))) (sq (.block 1 (sr [qv 11 0,qv 12 3,ql 13 1,qv 14 3,qx 15 4 13 14,qs 16 4 15,qq 17 (.callV Z11 [.t 12,.t 16]),qq 18 (.un .not Z17)] (.cond Z18 .ret .skip))) (rg [qv 9 3,qn 10 .sub 9 1,qv 3 10]))))),[]⟩
def S276:AF:=⟨sr [qq 4 (.mov aF)] (sq (sr [qv 8 0,qq 9 (.eq false .ptr Z8 (.c .nilptr)),qv 10 9,zF 11 (.mov Z1) 10,zF 12 (.eq false .ptr Z11 (.c .nilptr)) 10,qq 13 (.pick Z10 aT Z12)] (.cond Z13 (sr [qq 4 (.mov aF)] .ret) .skip)) (sr [qv 14 0,qq 15 (.nilCheck Z14),qf 16 0 15,qs 17 8 16,qq 5 (.alloc [(.int .u64 0),(.int .u64 0),(.int .u64 0),(.int .u64 0),(.int .u64 0),(.int .u64 0),(.int .u64 0),(.int .u64 0)]),qu (.store 8 Z5 Z17)] (sq (sr [qv 18 1,qq 19 (.nilCheck Z18),qf 20 0 19,qs 21 8 20,qm 22 0] (.block 0 (.loop (sr [qn 23 .lss 22 8] (sq (.cond Z23 .skip (.exit 0)) (sq (.block 1 (sr [qv 24 22,qq 25 (.idxVal none 8 1 Z21 Z22),qv 6 24,qv 7 25] (.draw [qv 26 0,qv 27 6,qq 28 (.nilCheck Z26),qf 29 0 28,qq 30 (.idxArr 8 1 Z29 Z27),ql 31 30,qv 32 7,qb 33 .or 31 32,qq 34 (.nilCheck Z26),qf 35 0 34,qq 36 (.idxArr 8 1 Z35 Z27),qu (.store 1 Z36 Z33)] []))) (rg [qn 37 .add 22 1,qv 22 37]))))))) (sq (.draw [qv 38 0,qq 39 (.nilCheck Z38),qf 40 0 39,qs 41 8 40,qs 42 8 5,qq 43 (.eq true (.struct [.int,.int,.int,.int,.int,.int,.int,.int]) Z41 Z42),qv 4 43] []) .ret)))),[.t 4]⟩
def S291:AF:=cf true true Tryz.f291
def S292:AF:=cf true true Tryz.f292
def S294:AF:=⟨sr [qq 2 (.box 3 Z0),qq 3 (.mov aF)] (sr [qf 4 1 2,ql 5 4,qn 6 .neq 5 2,qv 7 6,zT 8 (fA 2 Z2) 7,zT 9 (.load none Z8) 7,zT 10 (.mkFn (.func 296) [] [.t 1]) 7,zT 11 (.call 295 [Z9,Z10]) 7,qq 12 (.pick Z7 Z11 aF),qv 3 12] .ret),[.t 3]⟩
def S295:AF:=⟨sr [qq 4 (.mov aF)] (sr [qv 5 0,qv 6 1,qq 7 (.call 305 [Z5,Z6]),qn 8 .geq 7 0,qv 4 8] .ret),[.t 4]⟩
def S296:AF:=⟨sr [qq 2 (.box 4 Z0),qq 3 (.mov aF)] (sr [qf 4 0 2,ql 5 4,qv 6 5,zT 7 (fA 1 Z2) 6,zT 8 (.load none Z7) 6,zT 9 (.load none Z1) 6,zT 10 (.bin .eql Z8 Z9) 6,qq 11 (.pick Z6 Z10 aF),qv 3 11] .ret),[.t 3]⟩
def S303:AF:=cf true true Tryz.f303
def S305:AF:=⟨sr [qm 4 0] (sq (sr [qv 6 0,qq 7 (lS Z6),qm 8 0] (.block 0 (.loop (sr [qb 9 .lss 8 7] (sq (.cond Z9 .skip (.exit 0)) (sq (.block 1 (sr [qv 10 8,qv 5 10] (sr [qv 11 1,qv 12 0,qv 13 5,qx 14 4 12 13,qs 15 4 14,qq 16 (.callV Z11 [.t 15])] (.cond Z16 (sr [qv 17 5,qv 4 17] .ret) .skip)))) (rg [qn 18 .add 8 1,qv 8 18]))))))) (sr [qq 4 (.mov (nn (-1)))] .ret)),[.t 4]⟩
def S312:AF:=cf true true Tryz.f312
end
end Go.Pv.T
namespace Go.Pv.T
open Go Go.Pv
noncomputable section
def utf8first:List V:=(List.range 256).map fun i=>V.int .u8 (if i<128 then 240 else if i<194 then 241 else if i<224 then 2 else if i=224 then 19 else if i<237 then 3 else if i=237 then 35 else if i<240 then 3 else if i=240 then 52 else if i<244 then 4 else if i=244 then 68 else 241:Nat)
def words:List V:=[.str [],.str [98,101,103,105,110],.str [114,101,97,100],.str [119,114,105,116,101],.str [111,107],.str [102,97,105,108],.str [105,110,102,111]]
def accR:List V:=[.int .u8 128,.int .u8 191,.int .u8 160,.int .u8 191,.int .u8 128,.int .u8 159,.int .u8 144,.int .u8 191,.int .u8 128,.int .u8 143,.int .u8 0,.int .u8 0,.int .u8 0,.int .u8 0,.int .u8 0,.int .u8 0,.int .u8 0,.int .u8 0,.int .u8 0,.int .u8 0,.int .u8 0,.int .u8 0,.int .u8 0,.int .u8 0,.int .u8 0,.int .u8 0,.int .u8 0,.int .u8 0,.int .u8 0,.int .u8 0,.int .u8 0,.int .u8 0]
def j5n:List V:=[.int .u64 0,.int .u64 0,.int .u64 0,.int .u64 0,.int .u64 0,.int .u64 0,.int .u64 0,.int .u64 0]
def bruij:List V:=([0,1,56,2,57,49,28,3,61,58,42,50,38,29,17,4,62,47,59,36,45,43,51,22,53,39,33,30,24,18,12,5,63,55,48,27,60,41,37,16,46,35,44,21,52,32,23,11,54,26,40,15,34,20,31,10,25,14,19,9,13,8,7,6]:List Int).map (V.int .u8)
def fc_2:FuncId→Option AF
 | 251=>some F251
 | 252=>some F252
 | 253=>some F253
 | 254=>some F254
 | 258=>some F258
 | 259=>some F259
 | 261=>some F261
 | 262=>some F262
 | 263=>some F263
 | 264=>some F264
 | 265=>some F265
 | 266=>some F266
 | 267=>some F267
 | 268=>some F268
 | 269=>some F269
 | 273=>some F273
 | 278=>some F278
 | 279=>some F279
 | 280=>some F280
 | 281=>some F281
 | 284=>some F284
 | 285=>some F285
 | 286=>some F286
 | 287=>some F287
 | 288=>some F288
 | 289=>some F289
 | 290=>some F290
 | 293=>some F293
 | 300=>some F300
 | 301=>some F301
 | 302=>some F302
 | 304=>some F304
 | 307=>some F307
 | 311=>some F311
 | 320=>some F320
 | _=>none
def fc_1:FuncId→Option AF
 | 130=>some F130
 | 136=>some F136
 | 145=>some F145
 | 146=>some F146
 | 147=>some F147
 | 148=>some F148
 | 149=>some F149
 | 152=>some F152
 | 155=>some F155
 | 157=>some F157
 | 158=>some F158
 | 159=>some F159
 | 160=>some F160
 | 161=>some F161
 | 166=>some F166
 | 167=>some F167
 | 170=>some F170
 | 172=>some F172
 | 173=>some F173
 | 174=>some F174
 | 175=>some F175
 | 176=>some F176
 | 177=>some F177
 | 188=>some F188
 | 189=>some F189
 | 190=>some F190
 | 194=>some F194
 | 206=>some F206
 | 208=>some F208
 | 209=>some F209
 | 210=>some F210
 | 212=>some F212
 | 214=>some F214
 | 216=>some F216
 | 217=>some F217
 | 223=>some F223
 | 224=>some F224
 | 225=>some F225
 | 226=>some F226
 | 227=>some F227
 | 228=>some F228
 | 229=>some F229
 | 230=>some F230
 | 233=>some F233
 | 234=>some F234
 | 235=>some F235
 | 236=>some F236
 | 248=>some F248
 | 249=>some F249
 | 250=>some F250
 | f=>fc_2 f
def fc:FuncId→Option AF
 | 12=>some F12
 | 15=>some F15
 | 21=>some F21
 | 22=>some F22
 | 25=>some F25
 | 31=>some F31
 | 32=>some F32
 | 33=>some F33
 | 39=>some F39
 | 42=>some F42
 | 43=>some F43
 | 44=>some F44
 | 45=>some F45
 | 46=>some F46
 | 47=>some F47
 | 48=>some F48
 | 52=>some F52
 | 53=>some F53
 | 57=>some F57
 | 58=>some F58
 | 59=>some F59
 | 60=>some F60
 | 61=>some F61
 | 62=>some F62
 | 63=>some F63
 | 64=>some F64
 | 71=>some F71
 | 74=>some F74
 | 75=>some F75
 | 84=>some F84
 | 86=>some F86
 | 94=>some F94
 | 97=>some F97
 | 100=>some F100
 | 103=>some F103
 | 104=>some F104
 | 105=>some F105
 | 106=>some F106
 | 108=>some F108
 | 109=>some F109
 | 110=>some F110
 | 112=>some F112
 | 116=>some F116
 | 118=>some F118
 | 120=>some F120
 | 121=>some F121
 | 122=>some F122
 | 124=>some F124
 | 127=>some F127
 | 128=>some F128
 | f=>fc_1 f
def fs_1:FuncId→Option AF
 | 244=>some S244
 | 248=>some S248
 | 249=>some S249
 | 255=>some S255
 | 270=>some S270
 | 271=>some S271
 | 272=>some S272
 | 274=>some S274
 | 276=>some S276
 | 291=>some S291
 | 292=>some S292
 | 294=>some S294
 | 295=>some S295
 | 296=>some S296
 | 303=>some S303
 | 305=>some S305
 | 312=>some S312
 | _=>none
def fs:FuncId→Option AF
 | 51=>some S51
 | 78=>some S78
 | 81=>some S81
 | 87=>some S87
 | 88=>some S88
 | 89=>some S89
 | 90=>some S90
 | 93=>some S93
 | 95=>some S95
 | 96=>some S96
 | 111=>some S111
 | 124=>some S124
 | 127=>some S127
 | 128=>some S128
 | 130=>some S130
 | 137=>some S137
 | 138=>some S138
 | 139=>some S139
 | 140=>some S140
 | 142=>some S142
 | 143=>some S143
 | 144=>some S144
 | 145=>some S145
 | 146=>some S146
 | 147=>some S147
 | 148=>some S148
 | 149=>some S149
 | 153=>some S153
 | 154=>some S154
 | 156=>some S156
 | 168=>some S168
 | 169=>some S169
 | 171=>some S171
 | 189=>some S189
 | 192=>some S192
 | 193=>some S193
 | 194=>some S194
 | 203=>some S203
 | 204=>some S204
 | 205=>some S205
 | 206=>some S206
 | 207=>some S207
 | 208=>some S208
 | 209=>some S209
 | 210=>some S210
 | 213=>some S213
 | 215=>some S215
 | 231=>some S231
 | 232=>some S232
 | 237=>some S237
 | f=>fs_1 f
def shl:List Nat:=[55,56,65,68,69,72,73,76,77,78,79,81,87,88,89,90,91,93,95,98,107,111,113,125,137,138,142,144,156,162,168,204,205,207,218,231,237,240,244,255,270,271,274,276,291,292,303,312,313,314,315,316,317,318,319,323,324,325,326]
def shm:List Nat:=[25,51,217]
def fzl:List Nat:=[217]
def twl:List Nat:=[217]
def E:Env:={ sh:=fun nm f=>shl.any (Nat.beq f) || (nm && shm.any (Nat.beq f)),fz:=fun f=>fzl.any (Nat.beq f),tw:=fun f=>twl.any (Nat.beq f),srt:=fun f=>match f with|69=>some none|91=>some (some 92)|_=>none,fc:=fc,fs:=fs,gl:=(fun g=>match g with|0=>some bruij|1=>some words|2=>some utf8first|3=>some accR|_=>none),nw:=fun f=>match f with|78=>some j5n|_=>none }
end
structure Val' where
 kind:Int
 n:Int
 deriving DecidableEq
structure Op' where
 w:Bool
 key:Int
 v:Val'
 deriving DecidableEq
structure Txn' where
 s:Int
 f:Int
 nl:Bool
 ops:List Op'
structure Hist' where
 sn:Bool
 ss:List (List UInt8)
 kn:Bool
 ks:List (List UInt8)
 tn:Bool
 ts:List Txn'
def jv (v:Val'):List V:=[.int .i64 v.kind,.int .i64 v.n]
def opC (o:Op'):List V:=[.bool o.w,.int .i64 o.key,.int .i64 o.v.kind,.int .i64 o.v.n]
def slOf {α:Type}(nl:Bool) (f:α→List V) (l:List α):V:=.sl none nl l.length (l.flatMap f)
def jn (t:Txn'):List V:=[.int .i64 t.s,.int .i64 t.f,slOf t.nl opC t.ops]
def Jk (s:List UInt8):List V:=[.str s]
def histC (h:Hist'):List V:=[slOf h.sn Jk h.ss,slOf h.kn Jk h.ks,slOf h.tn jn h.ts]
@[simp] theorem j16 {a:Type}(nl:Bool) (f:a→List V) (l:List a):Qa (slOf nl f l)=some (.int .i64 l.length):=rfl
@[simp] theorem j5j {a:Type}(nl:Bool) (f:a→List V) (l:List a):(slOf nl f l).leaf=true:=rfl
@[simp] theorem j4m {a:Type}(nl:Bool) (f:a→List V) (l:List a):(slOf nl f l).cells=[slOf nl f l]:=rfl
@[simp] theorem j4l {a:Type}(nl:Bool) (f:a→List V) (l:List a):(slOf nl f l).strip=slOf nl f l:=rfl
@[simp] theorem j05 {a:Type}(nl:Bool) (f:a→List V) (l:List a):(slOf nl f l).strip1=slOf nl f l:=rfl
@[simp] theorem jzg {a:Type}(nl:Bool) (f:a→List V) (l:List a):(slOf nl f l).pureTop=true:=rfl
@[simp] theorem jvz {a:Type}(nl:Bool) (f:a→List V) (l:List a):(slOf nl f l).pureLeaf=true:=rfl
@[simp] theorem int_strip (k:IntKind) (n:Int):(V.int k n).strip=.int k n:=rfl
@[simp] theorem j4v (n:Bool):(V.bool n).strip=.bool n:=rfl
@[simp] theorem j4s (k:IntKind) (n:Int):(V.int k n).strip1=.int k n:=rfl
@[simp] theorem j3z (n:Bool):(V.bool n).strip1=.bool n:=rfl
@[simp] theorem j24 (k:IntKind) (n:Int):(V.int k n).pureTop=true:=rfl
@[simp] theorem j0e (n:Bool):(V.bool n).pureTop=true:=rfl
@[simp] theorem jzy (k:IntKind) (n:Int):(V.int k n).pureLeaf=true:=rfl
@[simp] theorem jyz (n:Bool):(V.bool n).pureLeaf=true:=rfl
@[simp] theorem agg_strip (cs:List V):(V.agg cs).strip=.agg (cs.map V.strip1):=rfl
@[simp] theorem j36 (cs:List V):(V.agg cs).pureTop=cs.all V.pureLeaf:=rfl
def YH (n:Int) (l:Nat):Bool:=decide (0≤n) && decide (n<l)
theorem ev214 (n:Int) (nl:Bool) (l:List (List UInt8)):Ev E 214 [.int .i64 n,slOf nl Jk l] (.bool (YH n l.length)):=by
 refine jQ (af:=F214) rfl ?_
 by_cases h:0≤n
 ·simp[F214,h]
  exact j1 rfl (by simp[YH,h]) rfl
 ·simp[F214,h]
  exact j1 rfl (by simp[YH,h]) rfl
def jcz (h:Hist') (t:Txn'):Bool:=YH t.s h.ss.length && (decide (1≤t.f) && (decide (t.f≤3) && decide (t.ops.length≤20)))
theorem ev155 (h:Hist') (t:Txn'):Ev E 155 [.agg (histC h),.agg (jn t)] (.bool (jcz h t)):=by
 refine jQ (af:=F155) rfl ?_
 simp[F155,histC,jn,objCells]
 refine Xe (vs:=[.int .i64 t.s,slOf h.sn Jk h.ss]) zS rfl zS (by simpa using ev214 t.s h.sn h.ss) ?_
 unfold jcz
 cases c:YH t.s h.ss.length
 ·simp
  exact j1 rfl zS rfl
 by_cases a:1≤t.f
 ·by_cases b:t.f≤3
  ·simp[objCells,a,b]
   exact j1 rfl (by simp;omega) rfl
  ·simp[objCells,a,b]
   exact j1 rfl zS rfl
 ·simp[objCells,a]
  exact j1 rfl zS rfl
def joo (v:Val'):Bool:=v.kind == 1 || ((v.kind == 0 || v.kind == 2) && v.n == 0)
theorem ev174 (v:Val'):Ev E 174 [.agg (jv v)] (.bool (joo v)):=by
 refine jQ (af:=F174) rfl ?_
 unfold joo
 cases a:v.kind == 1
 ·cases b:v.kind == 0
  ·cases c:v.kind == 2
   ·simp[F174,jv,objCells,a,b,c]
    exact j1 rfl zS rfl
   ·simp[F174,jv,objCells,a,b,c]
    exact j1 rfl zS rfl
  ·simp[F174,jv,objCells,a,b]
   exact j1 rfl zS rfl
 ·simp[F174,jv,objCells,a]
  exact j1 rfl zS rfl
def jb3 (v:Val'):V:=if v.kind=1 then .iface 2 (.int .i64 v.n) else if v.kind=2 then .iface 316 (.agg []) else .nilif
theorem ev253 (v:Val'):Ev E 253 [.agg (jv v)] (.agg [jb3 v]):=by
 refine jQ (af:=F253) rfl ?_
 unfold jb3
 by_cases a:v.kind=1
 ·simp[F253,jv,objCells,a]
  exact jz rfl (l:=[.agg [.iface 2 (.int .i64 v.n)]]) (by simp[jl,objCells]) rfl rfl
 ·have b1:(v.kind == 1)=false:=by simpa using a
  by_cases b:v.kind=2
  ·simp[F253,jv,objCells,b]
   exact jz rfl (l:=[.agg [.iface 316 (.agg [])]]) (by simp[jl,objCells]) rfl rfl
  ·have b2:(v.kind == 2)=false:=by simpa using b
   simp[F253,jv,objCells,a,b,b1,b2]
   exact jz rfl (l:=[.agg [.nilif]]) (by simp[jl,objCells]) rfl rfl
def jqa (v:Val'):Val':=if v.kind=1 then ⟨1,v.n⟩ else if v.kind=2 then ⟨2,0⟩ else ⟨0,0⟩
theorem ev252 (v:Val'):Ev E 252 [.agg [jb3 v]] (.tup [.agg (jv (jqa v)),.int .i64 0]):=by
 refine jQ (af:=F252) rfl ?_
 unfold jb3 jqa
 by_cases a:v.kind=1
 ·simp[F252,jv,objCells,a,ju3,eqV,jh3,j2]
  exact jz rfl (l:=[.agg [.int .i64 1,.int .i64 v.n],.int .i64 0]) (by simp[jl,objCells]) rfl rfl
 ·by_cases b:v.kind=2
  ·simp[F252,jv,objCells,b,ju3,eqV,jh3,j2]
   exact jz rfl (l:=[.agg [.int .i64 2,.int .i64 0],.int .i64 0]) (by simp[jl,objCells]) rfl rfl
  ·simp[F252,jv,objCells,a,b,ju3,eqV]
   exact jz rfl (l:=[.agg [.int .i64 0,.int .i64 0],.int .i64 0]) (by simp[jl,objCells]) rfl rfl
theorem jqu (v:Val'):joo v=((jqa v).kind == v.kind && (jqa v).n == v.n):=by
 obtain⟨k,n⟩:=v
 unfold joo jqa
 by_cases a:k=1
 ·simp[a]
 ·by_cases b:k=2
  ·rw[if_neg a,if_pos b,Bool.eq_iff_iff]
   simp only[Bool.or_eq_true,Bool.and_eq_true,beq_iff_eq]
   omega
  ·rw[if_neg a,if_neg b,Bool.eq_iff_iff]
   simp only[Bool.or_eq_true,Bool.and_eq_true,beq_iff_eq]
   omega
theorem jgt (v:Val'):(jb3 v).pureLeaf=true:=by unfold jb3;split;rfl;split <;> rfl
theorem jco (v:Val'):(jb3 v).strip1=jb3 v:=by unfold jb3;split;rfl;split <;> rfl
theorem ev216 (v:Val'):Ev E 216 [.agg (jv v)] (.bool (joo v)):=by
 refine jQ (af:=F216) rfl ?_
 simp[F216,jv,objCells]
 refine Xe (vs:=[.agg (jv v)]) (by simp[jv]) rfl (by simp[jv]) (by simpa[jv] using ev253 v) ?_
 simp[YC (v:=.agg [jb3 v]) (by simp[V.plain,jgt])]
 refine Xe (vs:=[.agg [jb3 v]]) zS rfl (by simp[jgt,jco]) (by simpa[jco] using ev252 v) ?_
 rw[jqu]
 generalize jqa v=b
 rw[Ji (by simp[V.plain,jv])]
 simp[jv,objCells]
 exact j1 rfl zS rfl
def opB (h:Hist') (o:Op'):Bool:=YH o.key h.ks.length && (joo o.v && (!o.w || o.v.kind == 1))
theorem ev157 (h:Hist') (o:Op'):Ev E 157 [.agg (histC h),.agg (opC o)] (.bool (opB h o)):=by
 refine jQ (af:=F157) rfl ?_
 simp[F157,histC,opC,objCells]
 refine Xe (vs:=[.int .i64 o.key,slOf h.kn Jk h.ks]) zS rfl zS (by simpa using ev214 o.key h.kn h.ks) ?_
 unfold opB
 cases a:YH o.key h.ks.length
 ·simp
  exact j1 rfl zS rfl
 simp[objCells]
 refine Xe (vs:=[.agg (jv o.v)]) (by simp[jv]) rfl (by simp[jv]) (by simpa[jv] using ev216 o.v) ?_
 cases c:joo o.v
 ·simp
  exact j1 rfl zS rfl
 cases b:o.w
 ·simp[objCells]
  exact j1 rfl zS rfl
 ·simp[objCells]
  exact j1 rfl zS rfl
@[simp] theorem j5a (args:List V) (ob:ZO) (tk:Nat→Bool) (ro base ub n:Nat):(Jm args ob tk ro base ub).tm n=args.getD n jq:=rfl
@[simp] theorem j5d (args:List V) (ob:ZO) (tk:Nat→Bool) (ro base ub:Nat):(Jm args ob tk ro base ub).ob=ob:=rfl
@[simp] theorem j5b (args:List V) (ob:ZO) (tk:Nat→Bool) (ro base ub:Nat):(Jm args ob tk ro base ub).tk=tk:=rfl
@[simp] theorem j5c (args:List V) (ob:ZO) (tk:Nat→Bool) (ro base ub:Nat):(Jm args ob tk ro base ub).ro=ro:=rfl
@[simp] theorem j5e (args:List V) (ob:ZO) (tk:Nat→Bool) (ro base ub:Nat):(Jm args ob tk ro base ub).nx=ub:=rfl
@[simp] theorem j5f (args:List V) (ob:ZO) (tk:Nat→Bool) (ro base ub:Nat):(Jm args ob tk ro base ub).fb=base:=rfl
@[simp] theorem j5g (args:List V) (ob:ZO) (tk:Nat→Bool) (ro base ub:Nat):(Jm args ob tk ro base ub).df=[]:=rfl
theorem jm {n:Int}(h:-9223372036854775808≤n) (a:n≤9223372036854775807):IntKind.i64.wrap n=n:=by
 rw[IntKind.wrap_i64];omega
section
variable {α:Type}{f:α→List V}{k:Nat}
theorem j4 (b:∀a,(f a).length=k):∀ (l:List α),(l.flatMap f).length=l.length*k
 | []=>by simp
 | a::l=>by rw[List.flatMap_cons,List.length_append,b,j4 b l,List.length_cons,Nat.succ_mul];omega
theorem XP (b:∀a,(f a).length=k):∀ (l:List α) (i:Nat) (h:i<l.length),((l.flatMap f).drop (i*k)).take k=f l[i]
 | a::l,0,_=>by rw[List.flatMap_cons,Nat.zero_mul,List.drop_zero,List.take_append_of_le_length (by rw[b];omega),List.take_of_length_le (by rw[b];omega)];rfl
 | a::l,i+1,h=>by
  rw[List.flatMap_cons,Nat.succ_mul,List.drop_append,List.drop_of_length_le (by rw[b];omega),List.nil_append,b,Nat.add_sub_cancel]
  exact XP b l i (by simpa using h)
theorem j5 (b:∀a,(f a).length=k) (nl:Bool) (l:List α) (kk:IntKind) {i:Nat}(h:i<l.length):JP k (slOf nl f l) (.int kk i)=some (.eptr (l.flatMap f) (i*k)):=by
 simp only[slOf,YQ,j4 b]
 rw[if_pos (by simp;omega)]
 rfl
theorem ja (b:∀a,(f a).length=k) (ob:ZO) (l:List α) {i:Nat}(h:i<l.length):Ws ob (some k) (.eptr (l.flatMap f) (i*k))=some (.agg (f l[i])):=by
 have:i*k+k≤l.length*k:=by rw[← Nat.succ_mul];exact Nat.mul_le_mul_right k h
 rw[jbu,QB,if_pos (by rw[j4 b];exact this),XP b l i h]
end
@[simp] theorem j7 (t:Txn'):(jn t).length=3:=rfl
@[simp] theorem jH (t:Op'):(opC t).length=4:=rfl
@[simp] theorem Y9 (t:List UInt8):(Jk t).length=1:=rfl
theorem ja0 {E:Env}{Yf:YF}{q:A}{xs:List A}{st:St}{ub:Nat}{K:St→Nat→Prop}{d:Option Nat}{nm:Bool}{f:FuncId}{first captured:List V}(e:eval E st.tm q=.fn (.func f) first captured) (c:E.sh nm f=false)
 (hp:((first++xs.map (eval E st.tm)++captured).all fun v=>v.strip.pureTop)=false) {v:V}(g:EvO E f (first++xs.map (eval E st.tm)++captured) st.ob st.tk ((st.fb+d.getD 0+1)*1024) ub v) (h:wpD (Xa ub v) (WZ K st d ub)) :
 j6 E Yf ⟨d,.callV q xs,none,nm⟩ st ub K:=by
 have b:jA E nm (eval E st.tm) (.callV q xs)=some (f,first++xs.map (eval E st.tm)++captured):=by simp only[jA,e,c,hp,Bool.not_false,Bool.true_and,Bool.false_eq_true,if_false]
 simp only[j6,wanted,jf,e,b]
 obtain⟨j,a,i⟩:=h
 exact .inr ⟨c,v,g,j,a,i⟩
theorem jh {E:Env}{Yf:YF}{f:FuncId}{xs:List A}{st:St}{ub:Nat}{K:St→Nat→Prop}{d:Option Nat}{nm:Bool}{vs:List V}(a:xs.map (eval E st.tm)=vs) (b:E.sh nm f=false) (hp:(vs.all fun v=>v.strip.pureTop)=false) {v:V}
 (c:EvO E f vs st.ob st.tk ((st.fb+d.getD 0+1)*1024) ub v) (h:wpD (Xa ub v) (WZ K st d ub)):j6 E Yf ⟨d,.call f xs,none,nm⟩ st ub K :=
 jqo b (by rw[a];exact hp) ⟨v,by rw[a];exact c,h⟩
theorem Jz {E:Env}{f:FuncId}{af:AF}{args:List V}{ob:ZO}{tk:Nat→Bool}{base ub:Nat}{r:V}(b:E.fs f=some af) (h:wpC E Y0 af.body (Jm args ob (fun _=>false) ub base ub) (jzu af.res r)) (a:E.fz f=false:=by rfl):EvO E f args ob tk base ub r:=EvO_wp b h a
def HistAt (h:Hist') (ob:ZO) (l u:Nat):Prop:=l % 2=0∧ob l=some ⟨u,.cells (histC h)⟩
theorem ev154 {h:Hist'}{ob:ZO}{l u:Nat}(c:HistAt h ob l u) (t:Txn') (tk:Nat→Bool) (base ub:Nat):EvO E 154 [.agg (jn t),.ptr l u 0] ob tk base ub (.bool (!jcz h t)):=by
 obtain⟨d,b⟩:=c
 refine Jz (af:=S154) rfl ?_
 have a:¬ l=2*ub+1:=zO
 simp[S154,objCells,a,b,jn,histC]
 refine Xe (vs:=[.agg (histC h),.agg (jn t)]) (by simp[histC,jn]) rfl (by simp[histC,jn]) (by simpa[histC,jn] using ev155 h t) ?_
 simp
 exact j1 rfl zS rfl
def jcj {α:Type}(p:α→Bool) (l:List α):Int:=match l.findIdx? p with
 | some i=>i
 | none=>-1
theorem jci {α:Type}{p:α→Bool}{l:List α}{i:Nat}(h:i<l.length) (c:p l[i]=true) (b:∀j (a:j<l.length),j<i→p l[j]=false):jcj p l=i:=by
 unfold jcj
 have:l.findIdx? p=some i:=by
  rw[List.findIdx?_eq_some_iff_getElem]
  exact⟨h,c,fun j a=>by rw[b j zO a];decide⟩
 rw[this]
theorem jes {α:Type}{p:α→Bool}{l:List α}(b:∀j (a:j<l.length),p l[j]=false):jcj p l = -1:=by
 unfold jcj
 have:l.findIdx? p=none:=by
  rw[List.findIdx?_eq_none_iff]
  intro x c
  obtain⟨j,a,e⟩:=List.getElem_of_mem c
  rw[← e]
  exact b j a
 rw[this]
theorem jgn {α:Type}(p:α→Bool) (l:List α):decide (0≤jcj p l)=l.any p:=by
 unfold jcj
 cases h:l.findIdx? p with
 | none=>
  rw[List.findIdx?_eq_none_iff]at h
  simp
  intro x c
  simpa using h x c
 | some i=>
  rw[List.findIdx?_eq_some_iff_getElem]at h
  obtain⟨a,b,_⟩:=h
  simp
  exact⟨_,List.getElem_mem a,b⟩
theorem ev213 {p:Txn'→Bool}{g:FuncId}{cap:V}{ob:ZO}(y:E.sh true g=false) (a:cap.strip.pureTop=false) (hp:∀ (t:Txn') (tk:Nat→Bool) (base ub:Nat),EvO E g [.agg (jn t),cap] ob tk base ub (.bool (p t)))
 (nl:Bool) (l:List Txn') (B:l.length≤140737488355328) (tk:Nat→Bool) (base ub:Nat):EvO E 213 [slOf nl jn l,.fn (.func g) [] [cap]] ob tk base ub (.int .i64 (jcj p l)):=by
 refine Jz (af:=S213) rfl ?_
 simp[S213]
 refine Ya (n:=l.length) (fun k s=>∃i,k=l.length - i∧i≤l.length∧s.df=[]∧s.ob=ob∧s.tm 0=slOf nl jn l∧s.tm 1=.fn (.func g) [] [cap]∧s.tm 7=.int .i64 l.length∧s.tm 8=.int .i64 i∧∀j (c:j<l.length),j<i→p l[j]=false)
  ⟨0,zS⟩ ?_
 rintro k s ⟨i,rfl,z,o,w,x,u,r,q,e⟩
 by_cases b:i<l.length
 ·simp[x,u,r,q,b,j5 j7,ja j7]
  refine ja0 (f:=g) (first:=[]) (captured:=[cap]) zS y (by simp[a]) (v:=.bool (p l[i])) (by simpa[w] using hp l[i] _ _ _) ?_
  cases d:p l[i]
  ·simp[x,u,r,q,o]
   refine⟨l.length - (i+1),zO,i+1,rfl,zO,w,by rw[jm zO zO];simp,?_⟩
   intro j c m
   rcases Nat.lt_succ_iff_lt_or_eq.1 m with h|rfl
   ·exact e j c h
   ·exact d
  ·simp
   refine j1 (by simpa using o) ?_ rfl
   simp
   rw[jci b d e]
 ·have:i=l.length:=zO
  subst this
  simp[r,q]
  refine j1 (by simpa using o) ?_ rfl
  simp[jes (fun j c=>e j c c)]
theorem ev153 {p:Txn'→Bool}{g:FuncId}{ob:ZO}{a b c:Nat}(e:E.sh true g=false) (hp:∀ (t:Txn') (tk:Nat→Bool) (base ub:Nat),EvO E g [.agg (jn t),.ptr a b c] ob tk base ub (.bool (p t)))
 (nl:Bool) (l:List Txn') (d:l.length≤140737488355328) (tk:Nat→Bool) (base ub:Nat):EvO E 153 [slOf nl jn l,.fn (.func g) [] [.ptr a b c]] ob tk base ub (.bool (l.any p)):=by
 refine Jz (af:=S153) rfl ?_
 simp[S153]
 refine jh (vs:=[slOf nl jn l,.fn (.func g) [] [.ptr a b c]]) zS rfl rfl (ev213 e rfl hp nl l d _ _ _) ?_
 simp
 exact j1 rfl (by simp[jgn]) rfl
def Fr (ub:Nat) (ob ob':ZO):Prop:=∀key,(∀m,ub≤m→key≠2*m+1)→ob' key=ob key
theorem Fr.refl (ub:Nat) (ob:ZO):Fr ub ob ob:=fun _ _=>rfl
def XT (res:List ARes) (P:V × (ZO) × (Nat→Bool) × Nat→Prop):Ex→St→Prop:=fun e s=>∃r,endS res (e,s)=some r∧P r
theorem JG (st:St) (d:Option Nat) (v:V) (obs:List (Nat × Obj')):(st.app d { v:=v,obs:=obs }).tk=st.tk:=by
 funext u
 simp[ju]
theorem Fr.two {ub m:Nat}{ob ob':ZO}(h:∀a,a≠2*m+1→ob' a=ob a) (b:ub≤m):Fr ub ob ob':=fun a c=>h a (c m b)
theorem jmu {E:Env}{Yf:YF}{o:AOpr}{st:St}{ub:Nat}{K:St→Nat→Prop}(h:∀a,a=st→j6 E Yf o a ub K):j6 E Yf o st ub K:=h st rfl
theorem jzi {Yf:YF}(h:Hist') (hn:h.ts.length≤1000) (hm:∀t∈h.ts,t.ops.length≤1000000) {l u lh uh:Nat}{ob0:ZO}{tk0:Nat→Bool}{ro base ub0:Nat}(hh:ob0 lh=some ⟨uh,.cells (histC h)⟩) (b9:ro≤ub0)
 (J:Nat→Nat→(ZO)→(Nat→Bool)→Nat→Prop) (P:V × (ZO) × (Nat→Bool) × Nat→Prop)
 (e:∀i k ob o p f g,J i k ob p f→f≤g→Fr f ob o→J i k o p g)
 (B:∀i (hi:i<h.ts.length) ob p f,J i (h.ts[i]).ops.length ob p f→J (i+1) 0 ob p f)
 (x:∀i (hi:i<h.ts.length) k (S:k<(h.ts[i]).ops.length) ob p f,J i k ob p f→ro≤f→∃r,EvY Yf l u [.agg [.int .i64 i,.int .i64 k],.agg (opC (h.ts[i]).ops[k])] ob p ro f r∧ro≤r.2.2.2 ∧
  ((r.1=.bool true∧J i (k+1) r.2.1 r.2.2.1 r.2.2.2)∨(r.1=.bool false∧∀o g,r.2.2.2≤g→Fr r.2.2.2 r.2.1 o→P (.tup [],o,r.2.2.1,g))))
 (Q:∀ob p f,J h.ts.length 0 ob p f→P (.tup [],ob,p,f))
 (w:J 0 0 ob0 tk0 ub0):∃r,EvS E Yf.y 215 [.yld l u,.ptr lh uh 0] ob0 tk0 ro base ub0 r∧P r:=by
 refine Jn (af:=S215) rfl zD ?_
 show wpC E Yf S215.body _ (XT S215.res P)
 simp[S215,objCells,hh,histC]
 refine Ya (n:=h.ts.length) (fun k s=>∃i,k=h.ts.length - i∧i≤h.ts.length∧s.df=[]∧s.fb=base∧s.ro=ro∧ro≤s.nx∧s.tm 0=.yld l u∧s.tm 8=slOf h.tn jn h.ts∧s.tm 9=.int .i64 h.ts.length∧s.tm 10=.int .i64 i∧J i 0 s.ob s.tk s.nx)
  ⟨0,by simp;exact⟨zO,e _ _ _ _ _ _ _ w zO (Fr.refl _ _)⟩⟩ ?_
 rintro k s ⟨i,rfl,hi,I,q,c,O,w,L,F,d,K⟩
 by_cases v:i<h.ts.length
 ·simp[L,F,d,v,j5 j7,ja j7,jn,objCells,c]
  refine⟨zO,?_⟩
  refine Ya (n:=(h.ts[i]).ops.length) (fun k s=>∃j,k=(h.ts[i]).ops.length - j∧j≤(h.ts[i]).ops.length∧s.df=[]∧s.fb=base∧s.ro=ro∧ro≤s.nx∧s.tm 0=.yld l u∧s.tm 8=slOf h.tn jn h.ts∧s.tm 9=.int .i64 h.ts.length∧s.tm 10=.int .i64 i ∧
   s.tm 3=.int .i64 i∧s.tm 16=slOf (h.ts[i]).nl opC (h.ts[i]).ops∧s.tm 17=.int .i64 (h.ts[i]).ops.length∧s.tm 18=.int .i64 j∧J i j s.ob s.tk s.nx) ⟨0,?_⟩ ?_
  ·simp[I,q,c,w,L,F,d]
   refine⟨zO,?_⟩
   rw[JG,jk4,JG]
   refine e _ _ _ _ _ _ _ K (by omega:s.nx≤_) (Fr.two (m:=s.nx+64+64+64+64) (fun U S=>?_) zO)
   simp[S]
  clear I q c O w L F d K s
  rintro k s ⟨j,rfl,hj,I,q,c,O,w,L,F,d,h3,M,H,D,K⟩
  by_cases N:j<(h.ts[i]).ops.length
  ·simp[w,h3,M,H,D,N,j5 jH,ja jH,opC,objCells,c,j2]
   refine⟨zO,jmu fun b a=>?_⟩
   have X:b.tm 23=.yld l u:=by rw[a];simp
   have b0:b.tm 26=.agg [.int .i64 i,.int .i64 j]:=by rw[a];simp
   have b7:b.tm 27=.agg (opC (h.ts[i]).ops[j]):=by rw[a];simp[opC]
   have e0:b.tm 0=.yld l u:=by rw[a];simp[w]
   have e8:b.tm 8=slOf h.tn jn h.ts:=by rw[a];simp[L]
   have e9:b.tm 9=.int .i64 h.ts.length:=by rw[a];simp[F]
   have a0:b.tm 10=.int .i64 i:=by rw[a];simp[d]
   have e3:b.tm 3=.int .i64 i:=by rw[a];simp[h3]
   have b8:b.tm 16=slOf (h.ts[i]).nl opC (h.ts[i]).ops:=by rw[a];simp[M]
   have b5:b.tm 17=.int .i64 (h.ts[i]).ops.length:=by rw[a];simp[H]
   have T:b.tm 18=.int .i64 j:=by rw[a];simp[D]
   have ed:b.df=[]:=by rw[a];simp[I]
   have ef:b.fb=base:=by rw[a];simp[q]
   have er:b.ro=ro:=by rw[a];simp[c]
   have et:b.tk=s.tk:=by rw[a];simp only[jk4,jrb,JG]
   have eo:Fr s.nx s.ob b.ob:=by
    rw[a]
    exact Fr.two (m:=s.nx+64+64+64+64) (fun U S=>by simp[S]) zO
   clear a
   obtain⟨r,hr,c0,z⟩:=x i v j N b.ob s.tk (s.nx+64+64+64+64+64+64+64+64+64+64+64+64) (e _ _ _ _ _ _ _ K zO eo) zO
   refine jid (l:=l) (u:=u) (by simpa using X) ⟨r,by simpa[b0,b7,et,er] using hr,?_⟩
   rcases z with⟨G,Z⟩|⟨G,hP⟩
   ·simp[G,put,j3,T]
    have hb:=hm h.ts[i] (List.getElem_mem v)
    refine⟨(h.ts[i]).ops.length - (j+1),zO,j+1,rfl,zO,ed,ef,er,zO,e0,e8,e9,a0,e3,b8,b5,by rw[jm zO zO];simp,?_⟩
    exact e _ _ _ _ _ _ _ Z zO (Fr.refl _ _)
   ·simp[G,put]
    refine⟨(.tup [],r.2.1,r.2.2.1,r.2.2.2+64),?_,hP _ _ zO (Fr.refl _ _)⟩
    simp[endS,ed]
  ·have:j=(h.ts[i]).ops.length:=zO
   subst this
   have b6:=B i v _ _ _ K
   simp[H,D,w,L,F,d,I,q,c]
   refine⟨h.ts.length - (i+1),zO,i+1,rfl,zO,zO,by rw[jm zO zO];simp,?_⟩
   exact e _ _ _ _ _ _ _ b6 zO (Fr.refl _ _)
 ·have:i=h.ts.length:=zO
  subst this
  simp[F,d]
  refine⟨(.tup [],s.ob,s.tk,s.nx+64),?_,Q _ _ _ (e _ _ _ _ _ _ _ K (Nat.le_add_right _ _) (Fr.refl _ _))⟩
  simp[endS,I]
theorem ja1 {E:Env}{Yf:YF}{f:FuncId}{xs:List A}{st:St}{ub:Nat}{K:St→Nat→Prop}{d:Option Nat}{nm:Bool}{vs:List V}(c:xs.map (eval E st.tm)=vs) (b:E.sh nm f=true)
 (h:∃r,EvS E Yf.y f vs st.ob st.tk st.ro ((st.fb+d.getD 0+1)*1024) ub r∧K { st with tm:=put st.tm d r.1,ob:=r.2.1,tk:=r.2.2.1 } r.2.2.2):j6 E Yf ⟨d,.call f xs,none,nm⟩ st ub K:=by
 have a:jA E nm (eval E st.tm) (.call f xs)=some (f,vs):=by simp only[jA,b,c,Bool.not_true,Bool.false_and,Bool.false_eq_true,if_false]
 simp only[j6,wanted,jf,a]
 obtain⟨r,g,e⟩:=h
 exact .inl ⟨b,EvS.list ⟨r,g,e⟩⟩
theorem j3k {Yf:YF}(h:Hist') (ob:ZO) (tk:Nat→Bool) (ro base ub:Nat):∃r,EvS E Yf.y 156 [.agg (histC h)] ob tk ro base ub r ∧
 r.1=.fn (.func 215) [] [.ptr (2*ub+1) ub 0]∧(∀a,r.2.1 a=if a=2*ub+1 then some ⟨ub,.cells (histC h)⟩ else ob a)∧r.2.2.1=tk∧r.2.2.2=ub+256:=by
 refine Jn (af:=S156) rfl zD ?_
 show wpC E Yf S156.body _ (XT S156.res _)
 simp[S156,histC]
 refine⟨(.fn (.func 215) [] [.ptr (2*ub+1) ub 0],_,_,_),rfl,?_⟩
 simp[JG]
def jcw (h:Hist'):List Op':=h.ts.flatMap (·.ops)
def jz1 (h:Hist') (i k:Nat):Prop:=∀i' (hi:i'<h.ts.length) k' (hk:k'<(h.ts[i']).ops.length),(i'<i∨i'=i∧k'<k)→opB h (h.ts[i']).ops[k']=true
def AS70:C:=.region [
 ⟨(some 4),.alloc [(.bool false),(.int .i64 0),(.int .i64 0),(.int .i64 0)],none,false⟩,
 ⟨none,.store 4 (.t 4) (.t 17),none,false⟩]
def BD70:C:=.block 1 (.seq (.region [
            ⟨(some 18),.load (some 3) (.t 1),none,false⟩,
            ⟨(some 19),.load (some 4) (.t 4),none,false⟩,
            ⟨(some 20),.call 157 [(.t 18),(.t 19)],none,false⟩,
            ⟨(some 21),.un .not (.t 20),none,false⟩])
 (.cond (.t 21) (.seq (.region [
  ⟨none,.store 1 (.t 2) (.c (.int .i64 4)),none,false⟩])
  (.ret))
  (.skip)))
theorem jp0 {h:Hist'}(c:jz1 h h.ts.length 0):(jcw h).all (opB h)=true:=by
 rw[List.all_eq_true]
 intro o d
 obtain⟨t,f,a⟩:=List.mem_flatMap.1 d
 obtain⟨i,b,rfl⟩:=List.getElem_of_mem f
 obtain⟨k,e,rfl⟩:=List.getElem_of_mem a
 exact c i b k e (Or.inl b)
theorem jY {E:Env}{Yf:YF}{c:C}{st:St}{Q:Ex→St→Prop}(h:∀a,a=st→wpC E Yf c a Q):wpC E Yf c st Q:=h st rfl
theorem j0f {l k:Nat}(ob:ZO) (h:k≠l):(if Nat.beq l k then none else ob k)=ob k:=by
 cases a:Nat.beq l k with
 | false=>rfl
 | true=>exact absurd (Nat.eq_of_beq_eq_true a).symm h
theorem j1n (h:Hist') (hn:h.ts.length≤1000) (p:∀t∈h.ts,t.ops.length≤1000000) {st:St}{lh uh:Nat}(U:Nat) (hU:st.nx=U) (b6:64≤U) (a0:st.tm 15=.fn (.func 215) [] [.ptr lh uh 0]) (hl:∃m,lh=2*m+1∧m<U)
 (h1:st.tm 1=.ptr 2 0 0) (h2:st.tm 2=.ptr 4 64 0) (F:st.ro=0) (P:st.fb=0) (o2:st.ob 2=some ⟨0,.cells (histC h)⟩) (o4:st.ob 4=some ⟨64,.cells [.int .i64 0]⟩) (oh:st.ob lh=some ⟨uh,.cells (histC h)⟩) {Q:Ex→St→Prop}
 (hQ:∀ (e:Ex) (ob:ZO) (tk:Nat→Bool) (ub:Nat) (c:Int),ob 2=some ⟨0,.cells (histC h)⟩→ob 4=some ⟨64,.cells [.int .i64 c]⟩→ob (2*U+3)=some ⟨U+1,.dfr⟩→U+64≤ub →
  ((jcw h).all (opB h)=true∧e=.nrm∧c=0∨(jcw h).all (opB h)=false∧e=.ret∧c=4)→Q e { st with ob:=ob,tk:=tk,nx:=ub,df:=(2*U+3,U+1)::st.df }) :
 wpC E Y0 (.rangeFunc (.t 15) [16,17] AS70 BD70) st Q:=by
 obtain⟨m,rfl,b7⟩:=hl
 subst hU
 refine WB (g:=215) (first:=[]) (captured:=[.ptr (2*m+1) uh 0]) (by simpa using a0) ?_
 have:=jzi (Yf:=jfv E Y0 AS70 BD70 st [16,17] (2*st.nx+1) st.nx) h hn p (l:=2*st.nx+1) (u:=st.nx) (lh:=2*m+1) (uh:=uh)
  (ob0:=upd (upd st.ob (2*st.nx+3) (some ⟨st.nx+1,.dfr⟩)) (2*st.nx+1) (some ⟨st.nx,.loop .ready none⟩)) (tk0:=st.tk) (ro:=st.ro) (base:=(st.fb+1023)*1024) (ub0:=st.nx+64)
  (by have O :¬ 2 * m+1=2 * st.nx+1:=by omega
      have L:¬ 2*m+1=2*st.nx+3:=zO
      simp only[j3,O,L,if_false,oh]) zO
  (fun i k ob tk ub=>jz1 h i k∧ob (2*st.nx+1)=some ⟨st.nx,.loop .ready none⟩∧ob (2*st.nx+3)=some ⟨st.nx+1,.dfr⟩∧ob 2=some ⟨0,.cells (histC h)⟩∧ob 4=some ⟨64,.cells [.int .i64 0]⟩∧st.nx+64≤ub)
  (fun r=>∃s w,r.2.1 (2*st.nx+1)=some ⟨st.nx,.loop s w⟩∧s≠.busy∧st.ro≤st.nx∧Q (w.getD .nrm) { st with ob:=fun k=>if Nat.beq (2*st.nx+1) k then none else r.2.1 k,tk:=r.2.2.1,nx:=r.2.2.2,df:=(2*st.nx+3,st.nx+1)::st.df })
  ?_ ?_ ?_ ?_ ?_
 ·obtain⟨r,hr,hP⟩:=this
  exact⟨r,hr,hP⟩
 ·-- what J says stands behind what is new
  rintro i k ob j tk ub G ⟨v,D,I,N,H,g6⟩ b8 x
  have f:∀d,(∀m,ub≤m→d≠2*m+1)→j d=ob d:=x
  exact⟨v,by rw[f _ (fun m p=>by omega)];exact D,by rw[f _ (fun m p=>by omega)];exact I,by rw[f _ (fun m p=>by omega)];exact N,by rw[f _ (fun m p=>by omega)];exact H,zO⟩
 ·rintro i hi ob tk ub ⟨v,g⟩
  refine⟨fun K n B b q=>?_,g⟩
  rcases q with z|⟨_,z⟩
  ·rcases Nat.lt_succ_iff_lt_or_eq.1 z with h''|rfl
   ·exact v K n B b (Or.inl h'')
   ·exact v K n B b (Or.inr ⟨rfl,b⟩)
  ·omega
 ·rintro i hi k hk ob tk ub ⟨v,D,I,N,H,g6⟩ b9
  refine jfb (asg:=AS70) (bd:=BD70) (xs:=[.agg [.int .i64 i,.int .i64 k],.agg (opC (h.ts[i]).ops[k])]) rfl zO D zD zD ?_
  simp[AS70,jdo,objCells,P,opC,F]
  refine⟨by rw[if_neg zO,if_neg zO];exact D,jY fun o a=>?_⟩
  have f1:o.tm 1=.ptr 2 0 0:=by rw[a];simp[j3,h1]
  have f2:o.tm 2=.ptr 4 64 0:=by rw[a];simp[j3,h2]
  have f4:o.tm 4=.ptr 8 ub 0:=by rw[a];simp
  have S:¬ 2=2*st.nx+1:=zO
  have Z:¬ 4=2*st.nx+1:=zO
  have n8:¬ 8=2*st.nx+1:=zO
  have T:¬ 2*st.nx+3=2*st.nx+1:=zO
  have b0:¬ 2*st.nx+3=8:=zO
  have p2:o.ob 2=some ⟨0,.cells (histC h)⟩:=by rw[a];simp only[j3,S,if_false,Jy];simp[N]
  have p4:o.ob 4=some ⟨64,.cells [.int .i64 0]⟩:=by rw[a];simp only[j3,Z,if_false,Jy];simp[H]
  have p8:o.ob 8=some ⟨ub,.cells (opC (h.ts[i]).ops[k])⟩:=by rw[a];simp only[j3,n8,if_false,Jy];simp[opC]
  have p3:o.ob (2*st.nx+3)=some ⟨st.nx+1,.dfr⟩:=by rw[a];simp only[j3,T,b0,if_false,Jy];exact I
  have p1:o.ob (2*st.nx+1)=some ⟨st.nx,.loop .busy none⟩:=by rw[a];simp
  have fr:o.ro=0:=by rw[a]
  have fn:ub≤o.nx:=by rw[a];simp;omega
  clear a
  simp[BD70,f1,f4,p2,p8,objCells,opC,histC]
  refine Xe (vs:=[.agg (histC h),.agg (opC (h.ts[i]).ops[k])]) (by simp[histC,opC]) rfl (by simp[histC,opC]) (by simpa[histC,opC] using ev157 h (h.ts[i]).ops[k]) ?_
  have m1:¬ 2*st.nx+1=4:=zO
  have m3:¬ 2*st.nx+3=4:=zO
  cases hb:opB h (h.ts[i]).ops[k]
  ·simp[f2,p4,objCells,fr,m1,p1,WJ,j2]
   intro j G b5 x
   have X:∀d,(∀m,o.nx+64+64+64+64+64≤m→d≠2*m+1)→j d=_:=x
   have M:(jcw h).all (opB h)=false:=by
    rw[List.all_eq_false]
    exact⟨_,List.mem_flatMap.2 ⟨_,List.getElem_mem hi,List.getElem_mem hk⟩,by rw[hb];decide⟩
   have y:∀ {k:Nat},k≠2*st.nx+1→(if 2*st.nx+1=k then none else j k)=j k:=fun hk=>if_neg fun e=>hk e.symm
   refine⟨.done,some .ret,?_,zS,?_⟩
   ·rw[X _ (fun m p=>by omega)]
    simp
   ·have:=hQ .ret (fun k=>if 2*st.nx+1=k then none else j k) o.tk G 4 (by rw[y S,X _ (fun m p=>by omega)];simp only[j3,S,if_false,Jy];simp[p2]) (by rw[y Z,X _ (fun m p=>by omega)];simp only[j3,Z,if_false,Jy];simp)
     (by rw[y T,X _ (fun m p=>by omega)];simp only[j3,T,m3,if_false,Jy];exact p3) zO (Or.inr ⟨M,rfl,rfl⟩)
    rw[F,P]at this
    exact this
  ·simp[p1,WJ]
   refine⟨fun K n B b q=>?_,?_,?_,?_,zO⟩
   ·rcases q with z|⟨rfl,z⟩
    ·exact v K n B b (Or.inl z)
    ·rcases Nat.lt_succ_iff_lt_or_eq.1 z with h''|rfl
     ·exact v _ n B b (Or.inr ⟨rfl,h''⟩)
     ·exact hb
   ·rw[j3,if_neg T];exact p3
   ·rw[j3,if_neg S];exact p2
   ·rw[j3,if_neg Z];exact p4
 ·rintro ob tk ub ⟨v,D,I,N,H,g6⟩
  refine⟨.ready,none,D,zS,zO,?_⟩
  exact hQ .nrm _ _ _ 0 ((j0f ob zO).trans N) ((j0f ob zO).trans H) ((j0f ob zO).trans I) g6 (Or.inl ⟨jp0 v,rfl,rfl⟩)
 ·refine⟨fun K n B b q=>by omega,?_,?_,?_,?_,zO⟩
  ·simp
  ·simp[j3]
  ·have O:¬ 2=2*st.nx+1:=zO
   have L:¬ 2=2*st.nx+3:=zO
   simp only[j3,O,L,if_false,o2]
  ·have O:¬ 4=2*st.nx+1:=zO
   have L:¬ 4=2*st.nx+3:=zO
   simp only[j3,O,L,if_false,o4]
def rc (l:List Op'):Nat:=(l.filter fun o=>!o.w).length
def rcT (l:List Txn'):Nat:=rc (l.flatMap (·.ops))
theorem rc_le (l:List Op'):rc l≤l.length:=List.length_filter_le _ _
theorem j5u (a b:List Op'):rc (a++b)=rc a+rc b:=by simp[rc]
section
variable {E:Env}{Yf:YF}{st:St}{ub:Nat}{K:St→Nat→Prop}{d:Option Nat}{nm:Bool}
theorem X4 {sz a u n:Nat}{nl:Bool}{cs ys:List V}{s x:A}(g:eval E st.tm s=.sl (some (u,sz)) nl n cs) (e:st.tk u=true) (j:slCells st.ob sz (eval E st.tm x)=some ys) (f:ys≠[]) (b:cs.length=n*sz) (k:0<sz)
 (hp:ys.all V.pureLeaf=true) (i:(n+ys.length / sz)*a≤140737488355328) (c:n+ys.length / sz≤140737488355328) (h:WZ K st d ub { v:=.sl (some (ub,sz)) false (n+ys.length / sz) (cs++ys),del:=some u,add:=[ub] }) :
 j6 E Yf ⟨d,.append false sz a s x,none,nm⟩ st ub K:=by
 rw[jP _ rfl rfl]
 simp only[aop,g,j,Option.bind_some,if_neg f,Bool.false_and,Bool.false_eq_true,if_false]
 rw[if_pos ⟨b,k,hp,i,c⟩,if_pos (by simp[e]),jK]
 exact h
theorem jhu {sz a:Nat}{ys:List V}{s x:A}(e:eval E st.tm s=.sl none true 0 []) (g:slCells st.ob sz (eval E st.tm x)=some ys) (c:ys≠[]) (f:0<sz)
 (hp:ys.all V.pureLeaf=true) (i:(0+ys.length / sz)*a≤140737488355328) (b:0+ys.length / sz≤140737488355328) (h:WZ K st d ub { v:=.sl (some (ub,sz)) false (0+ys.length / sz) ([]++ys),add:=[ub] }) :
 j6 E Yf ⟨d,.append false sz a s x,none,nm⟩ st ub K:=by
 rw[jP _ rfl rfl]
 simp only[aop,e,g,Option.bind_some,if_neg c,Bool.false_and,Bool.false_eq_true,if_false]
 rw[if_pos ⟨zS,f,hp,i,b⟩,if_pos trivial,jK]
 exact h
theorem jJ {sz n:Nat}{zero:List V}{a:List (Nat × Nat × A)}{cs:List V}(c:fill zero (jt (eval E st.tm) a)=some cs) (b:cs.length=n*sz) (hp:(cs.map V.strip1).all V.pureLeaf=true)
 (h:WZ K st d ub { v:=.sl (some (ub,sz)) false n (cs.map V.strip1),add:=[ub] }):j6 E Yf ⟨d,.buildSl false sz zero a n,none,nm⟩ st ub K:=by
 rw[jP _ rfl rfl]
 simp only[aop,c,Option.bind_some,Bool.false_eq_true,if_false]
 rw[if_pos ⟨b,hp⟩,jK]
 exact h
end
theorem jR {b:Type}{f:b→List V}{k:Nat}(e:∀a,(f a).length=k) (l:List b) {i o:Nat}(h:i<l.length) (c:o<k):(l.flatMap f)[i*k+o]? = (f l[i])[o]?:=by
 have:=XP e l i h
 rw[← this,List.getElem?_take,if_pos c,List.getElem?_drop]
def numsTo (p:Txn'→Bool) (l:List Txn'):Nat→List Int
 | 0=>[]
 | i+1=>numsTo p l i++(match l[i]? with|some t=>if p t then [(i:Int)] else []|none=>[])
theorem JJ (p:Txn'→Bool) (l:List Txn'):∀i,(numsTo p l i).length≤i
 | 0=>by simp[numsTo]
 | i+1=>by
  have:=JJ p l i
  simp only[numsTo,List.length_append]
  split
  ·split <;> simp <;> omega
  ·simp;omega
def intC (n:Int):List V:=[.int .i64 n]
theorem JM {p:Txn'→Bool}{l:List Txn'}{i:Nat}(h:i<l.length):numsTo p l (i+1)=numsTo p l i++(if p l[i] then [(i:Int)] else []):=by
 simp[numsTo,List.getElem?_eq_getElem h]
@[simp] theorem jC (n:Int):(intC n).length=1:=rfl
theorem jex {n u m:Nat}{st:St}{cs:List V}(a:st.df=[]) (h:st.tm n=.sl (some (u,1)) false m cs) (b:st.tk u=true):ja8 [.t n] (.ret,st)=some (.sl (some (0,1)) false m cs):=by
 simp only[ja8,YU a,YN a,if_true,List.mapM_cons,List.mapM_nil,jl,h]
 simp[Yg,JE,XS,ji,V.toks,V.tok,nodup,b]
def X7 (t:Txn'):Bool:=t.f == 3
def XX (h:Hist'):List Int:=numsTo X7 h.ts h.ts.length
theorem ev59 (h:Hist') (q:h.ts.length≤1000):Ev E 59 [.agg (histC h)] (.sl (some (0,1)) false (XX h).length ((XX h).flatMap intC)):=by
 refine jQ (af:=F59) rfl ?_
 simp[F59,histC]
 refine jJ (cs:=[]) rfl rfl rfl ?_
 simp
 refine Ya (n:=h.ts.length) (fun k s=>∃i u,k=h.ts.length - i∧i≤h.ts.length∧s.df=[]∧s.fb=0∧s.ro=0∧s.tm 1=.ptr 2 0 0∧s.ob 2=some ⟨0,.cells (histC h)⟩∧s.tm 4=.int .i64 i∧s.tk u=true ∧
  s.tm 3=.sl (some (u,1)) false (numsTo X7 h.ts i).length ((numsTo X7 h.ts i).flatMap intC))
  ⟨0,128,by simp[numsTo,histC]⟩ ?_
 rintro k s ⟨i,u,rfl,r,o,c,b,g,j,e,m,l⟩
 by_cases a:i<h.ts.length
 ·simp[g,j,e,objCells,histC,a,j5 j7,jR j7,jn]
  have t:=JJ X7 h.ts i
  cases p:h.ts[i].f == 3
  ·simp[e]
   refine⟨h.ts.length - (i+1),zO,i+1,⟨rfl,zO,o,c,b,g,by simpa[histC] using j,by rw[jm zO zO];simp,u,m,?_⟩⟩
   rw[l,JM a,X7,p]
   simp
  ·simp[l,e]
   refine jJ (cs:=[.int .i64 i]) (by simp[j2]) rfl rfl ?_
   simp
   refine X4 (u:=u) (nl:=false) (n:=(numsTo X7 h.ts i).length) (cs:=(numsTo X7 h.ts i).flatMap intC) (ys:=[.int .i64 i]) zS (by simp[ju,m]) (by simp[slCells]) zS (by rw[j4 jC]) zD rfl (by simp;omega) (by simp;omega) ?_
   simp[e,o,c,b,g,j,histC]
   refine⟨h.ts.length - (i+1),zO,i+1,rfl,zO,by rw[jm zO zO];simp,Or.inl ?_⟩
   rw[JM a,X7,p]
   simp[intC]
 ·have:i=h.ts.length:=zO
  subst this
  simp[g,j,e,objCells,histC]
  exact jex (u:=u) (by simpa using o) (by simp[l,XX]) (by simpa using m)
def W8 (r:Int):Bool:=decide (48≤r) && decide (r≤57)
theorem ev267 (r:Int):Ev E 267 [.int .i32 r] (.bool (W8 r)):=by
 refine jQ (af:=F267) rfl ?_
 unfold W8
 by_cases h:48≤r
 ·simp[F267,h]
  exact j1 rfl zS rfl
 ·simp[F267,h]
  exact j1 rfl zS rfl
theorem ev320 (r:Int):Ev E 320 [.int .i32 r] (.bool false):=by
 refine jQ (af:=F320) rfl ?_
 simp[F320]
 exact j1 rfl zS rfl
def ju4 (a b:Int):Int:=if a<b then -1 else if b<a then 1 else 0
theorem ev304 (a b:Int):Ev E 304 [.int .i32 a,.int .i32 b] (.int .i64 (ju4 a b)):=by
 refine jQ (af:=F304) rfl ?_
 simp[F304]
 refine Xe (vs:=[.int .i32 a]) zS rfl rfl (ev320 a) ?_
 simp
 refine Xe (vs:=[.int .i32 b]) zS rfl rfl (ev320 b) ?_
 unfold ju4
 by_cases h:a<b
 ·simp[h]
  exact j1 rfl zS rfl
 ·by_cases c:b<a
  ·simp[h,c]
   exact j1 rfl zS rfl
  ·simp[h,c]
   exact j1 rfl zS rfl
def jbm (r:Int):List V:=[.int .i32 r]
@[simp] theorem jdt (n:Int):(jbm n).length=1:=rfl
def jkf:List Int→List Int→Int
 | [],[]=>0
 | [],_::_=>-1
 | _::_,[]=>1
 | a::x,b::y=>if ju4 a b=0 then jkf x y else ju4 a b
theorem jk9 (l:List Int) {i:Nat}(h:i<l.length):(l.flatMap jbm)[i]? = some (.int .i32 l[i]):=by
 have:=jR (f:=jbm) jdt l h (by decide:0<1)
 rw[Nat.mul_one,Nat.add_zero]at this
 rw[this]
 rfl
theorem ev293 (nx q:Bool) (x y:List Int) (u:x.length≤140737488355328):Ev E 293 [slOf nx jbm x,slOf q jbm y] (.int .i64 (jkf x y)):=by
 refine jQ (af:=F293) rfl ?_
 simp[F293]
 refine Ya (n:=x.length) (fun k s=>∃i,k=x.length - i∧i≤x.length∧i≤y.length∧s.df=[]∧s.tm 0=slOf nx jbm x∧s.tm 1=slOf q jbm y∧s.tm 9=slOf nx jbm x∧s.tm 10=.int .i64 x.length∧s.tm 11=.int .i64 i∧jkf (x.drop i) (y.drop i)=jkf x y)
  ⟨0,zS⟩ ?_
 rintro k s ⟨i,rfl,t,r,j,p,h,o,c,d,b⟩
 by_cases f:i<x.length
 ·rw[List.drop_eq_getElem_cons f]at b
  by_cases a:i<y.length
  ·rw[List.drop_eq_getElem_cons a,jkf]at b
   have g:¬ (y.length:Int)≤i:=zO
   simp[h,o,c,d,f,g,a,j5 jdt,jk9 x f,jk9 y a]
   refine Xe (vs:=[.int .i32 x[i],.int .i32 y[i]]) zS rfl rfl (ev304 x[i] y[i]) ?_
   by_cases l:ju4 x[i] y[i]=0
   ·rw[if_pos l]at b
    simp[l,p,h,o,c,d,j]
    exact⟨x.length - (i+1),zO,i+1,rfl,zO,zO,by rw[jm zO zO];simp,b⟩
   ·rw[if_neg l]at b
    have m:(ju4 x[i] y[i] != 0)=true:=by simpa using l
    simp[m]
    exact j1 (by simpa using j) (by simp[b]) rfl
  ·have g:(y.length:Int)≤i:=zO
   have e:y.drop i=[]:=List.drop_of_length_le zO
   rw[e,jkf]at b
   simp[h,o,c,d,f,g,j5 jdt,jk9 x f]
   exact j1 (by simpa using j) (by simp[b]) rfl
 ·have:i=x.length:=zO
  subst this
  rw[List.drop_length]at b
  by_cases a:x.length<y.length
  ·rw[List.drop_eq_getElem_cons a,jkf]at b
   simp[p,h,c,d,a]
   exact j1 (by simpa using j) (by simp[b]) rfl
  ·have e:y.drop x.length=[]:=List.drop_of_length_le zO
   rw[e,jkf]at b
   simp[p,h,c,d,a]
   exact j1 (by simpa using j) (by simp[b]) rfl
def JB (s:List UInt8):List Int:=(XK s s.length 0).map fun r=>((r:Nat):Int)
theorem jnm {E:Env}{Yf:YF}{st:St}{ub:Nat}{K:St→Nat→Prop}{d:Option Nat}{nm:Bool}{x:A}{s:List UInt8}(b:eval E st.tm x=.str s) (c:(JB s).length≤70368744177664)
 (h:WZ K st d ub { v:=.sl (some (ub,1)) false (JB s).length ((JB s).flatMap jbm),add:=[ub] }):j6 E Yf ⟨d,.runesOfStr x,none,nm⟩ st ub K:=by
 have e:(XK s s.length 0).map (fun r=>V.int .i32 (r:Nat))=(JB s).flatMap jbm:=by
  rw[JB,List.flatMap_map]
  generalize XK s s.length 0=l
  induction l with
  | nil=>rfl
  | cons r l a=>simp only[List.map_cons,List.flatMap_cons,a,jbm];rfl
 have f:(JB s).length=(XK s s.length 0).length:=by simp[JB]
 rw[jP _ rfl rfl]
 simp only[aop,b]
 rw[← f,if_pos c,jK,e]
 exact h
theorem ev280 (a b:List UInt8) (c:(JB a).length≤1000000) (d:(JB b).length≤1000000):Ev E 280 [.str a,.str b] (.int .i64 (jkf (JB a) (JB b))):=by
 refine jQ (af:=F280) rfl ?_
 simp[F280]
 refine jnm (s:=a) zS zO ?_
 simp
 refine jnm (s:=b) zS zO ?_
 simp
 refine Xe (vs:=[.sl (some (128,1)) false (JB a).length ((JB a).flatMap jbm),.sl (some (256,1)) false (JB b).length ((JB b).flatMap jbm)]) zS rfl rfl (ev293 false false _ _ zO) ?_
 simp
 exact j1 rfl zS rfl
theorem ev251 (a b:List UInt8) (c:(JB a).length≤1000000) (d:(JB b).length≤1000000):Ev E 251 [.str a,.str b] (.bool (decide (jkf (JB a) (JB b)<0))):=by
 refine jQ (af:=F251) rfl ?_
 simp[F251]
 refine Xe (vs:=[.str a,.str b]) zS rfl rfl (ev280 a b c d) ?_
 simp
 exact j1 rfl zS rfl
def j1k (s:List UInt8):Bool:=s == [98,101,103,105,110] || s == [114,101,97,100] || s == [119,114,105,116,101] || s == [111,107] || s == [102,97,105,108] || s == [105,110,102,111] || s == [110,105,108]
theorem ev264 (s:List UInt8):Ev E 264 [.str s] (.bool (j1k s)):=by
 refine jQ (af:=F264) rfl ?_
 unfold j1k
 generalize a:(s == [98,101,103,105,110])=b1
 generalize b:(s == [114,101,97,100])=b2
 generalize c:(s == [119,114,105,116,101])=b3
 generalize d:(s == [111,107])=b4
 generalize e:(s == [102,97,105,108])=b5
 generalize f:(s == [105,110,102,111])=b6
 generalize g:(s == [110,105,108])=b7
 cases b1
 ·cases b2
  ·cases b3
   ·cases b4
    ·cases b5
     ·cases b6
      ·cases b7
       all_goals (simp[F264,a,b,c,d,e,f,g];exact j1 rfl zS rfl)
      ·simp[F264,a,b,c,d,e,f];exact j1 rfl zS rfl
     ·simp[F264,a,b,c,d,e];exact j1 rfl zS rfl
    ·simp[F264,a,b,c,d];exact j1 rfl zS rfl
   ·simp[F264,a,b,c];exact j1 rfl zS rfl
  ·simp[F264,a,b];exact j1 rfl zS rfl
 ·simp[F264,a];exact j1 rfl zS rfl
theorem ev235 (s:List UInt8):Ev E 235 [.str s] (.bool (j1k s)):=by
 refine jQ (af:=F235) rfl ?_
 unfold j1k
 generalize a:(s == [98,101,103,105,110])=b1
 generalize b:(s == [114,101,97,100])=b2
 generalize c:(s == [119,114,105,116,101])=b3
 generalize d:(s == [111,107])=b4
 generalize e:(s == [102,97,105,108])=b5
 generalize f:(s == [105,110,102,111])=b6
 generalize g:(s == [110,105,108])=b7
 cases b1
 ·cases b2
  ·cases b3
   ·cases b4
    ·cases b5
     ·cases b6
      ·cases b7
       all_goals (simp[F235,a,b,c,d,e,f,g];exact j1 rfl zS rfl)
      ·simp[F235,a,b,c,d,e,f];exact j1 rfl zS rfl
     ·simp[F235,a,b,c,d,e];exact j1 rfl zS rfl
    ·simp[F235,a,b,c,d];exact j1 rfl zS rfl
   ·simp[F235,a,b,c];exact j1 rfl zS rfl
  ·simp[F235,a,b];exact j1 rfl zS rfl
 ·simp[F235,a];exact j1 rfl zS rfl
def jbp (r:Int):Bool:=decide (127<r) || (r == 95) || W8 r || (decide (97≤r) && decide (r≤122)) || (decide (65≤r) && decide (r≤90))
theorem ev266 (r:Int):Ev E 266 [.int .i32 r] (.bool (jbp r)):=by
 refine jQ (af:=F266) rfl ?_
 unfold jbp
 by_cases c:127<r
 ·simp[F266,c]
  exact j1 rfl zS rfl
 cases d:(r == 95)
 ·simp[F266,c,d]
  refine Xe (vs:=[.int .i32 r]) zS rfl rfl (ev267 r) ?_
  cases g:W8 r
  ·by_cases b:97≤r
   ·by_cases e:r≤122
    ·simp[b,e]
     exact j1 rfl zS rfl
    ·have a:65≤r:=zO
     have f:¬ r≤90:=zO
     simp[b,e,a,f]
     exact j1 rfl zS rfl
   ·by_cases a:65≤r
    ·simp[b,a]
     exact j1 rfl zS rfl
    ·simp[b,a]
     exact j1 rfl zS rfl
  ·simp
   exact j1 rfl zS rfl
 ·simp[F266,c,d]
  exact j1 rfl zS rfl
def YL (n b0 b1 b2 b3:Nat):Nat × Nat :=
 if b0<128 then (1,b0)
 else if 194≤b0∧b0≤223 then (if n<2∨b1<128∨191<b1 then (1,65533) else (2,64*(b0 - 192)+b1 - 128))
 else if 224≤b0∧b0≤239 then (if n<3∨b1<128∨191<b1∨b2<128∨191<b2 then (1,65533) else
  if 64*(64*(b0 - 224)+b1 - 128)+b2 - 128<2048∨55296≤64*(64*(b0 - 224)+b1 - 128)+b2 - 128∧64*(64*(b0 - 224)+b1 - 128)+b2 - 128≤57343 then (1,65533) else (3,64*(64*(b0 - 224)+b1 - 128)+b2 - 128))
 else if 240≤b0∧b0≤244 then (if n<4∨b1<128∨191<b1∨b2<128∨191<b2∨b3<128∨191<b3 then (1,65533) else
  if 64*(64*(64*(b0 - 240)+b1 - 128)+b2 - 128)+b3 - 128<65536∨1114111<64*(64*(64*(b0 - 240)+b1 - 128)+b2 - 128)+b3 - 128 then (1,65533) else (4,64*(64*(64*(b0 - 240)+b1 - 128)+b2 - 128)+b3 - 128))
 else (1,65533)
theorem jrm (n a b1 b2 b3:Nat) (_:1≤n) (d:a<256) (b:b1<256) (e:b2<256) (c:b3<256):YL n a b1 b2 b3=((Lib.decodeN n a b1 b2 b3).2,(Lib.decodeN n a b1 b2 b3).1):=by
 unfold YL Lib.decodeN
 repeat' split
 all_goals first|(exfalso;omega)|(apply Prod.ext <;> simp only <;> omega)
theorem dlt_t {a b:Int}(h:a<b):decide (a<b)=true:=decide_eq_true h
theorem jp5 {a b:Int}(h:b≤a):decide (a<b)=false:=decide_eq_false zO
theorem jp6 {a b:Int}(h:a≤b):decide (a≤b)=true:=decide_eq_true h
theorem jfj {a b:Int}(h:b<a):decide (a≤b)=false:=decide_eq_false zO
theorem Xu {s:List UInt8}{i:Nat}{x:Int}(kk:IntKind) (h:i<s.length) (a:x=(i:Int)):Wv (.str s) (.int kk x)=some (.int .u8 ((s.getD i 0).toNat:Nat)):=by
 subst a
 simp[Wv,List.getElem?_eq_getElem h,List.getD]
theorem zJ {p:Prop}(h:p:=by(simp;unfold YL;(repeat' split) <;> omega)):p:=h
theorem ev273 (s:List UInt8) (U:s.length≤1000000) (p:Nat) (h:p<s.length):Ev E 273 [.str s,.int .i64 p]
 (.tup [.int .i64 ((YL (s.length - p) (s.getD p 0).toNat (s.getD (p+1) 0).toNat (s.getD (p+2) 0).toNat (s.getD (p+3) 0).toNat).1:Nat),
  .int .i64 ((YL (s.length - p) (s.getD p 0).toNat (s.getD (p+1) 0).toNat (s.getD (p+2) 0).toNat (s.getD (p+3) 0).toNat).2:Nat)]):=by
 have I:=Xu (s:=s) (x:=(p:Int)) .i64 h rfl
 have a:p+1<s.length→_:=fun h=>Xu (s:=s) (x:=(p:Int)+1) .i64 h zS
 have e:p+2<s.length→_:=fun h=>Xu (s:=s) (x:=(p:Int)+2) .i64 h zS
 have n:p+3<s.length→_:=fun h=>Xu (s:=s) (x:=(p:Int)+3) .i64 h zS
 have Q:=(s.getD p 0).toNat_lt
 have S:=(s.getD (p+1) 0).toNat_lt
 have X:=(s.getD (p+2) 0).toNat_lt
 have M:=(s.getD (p+3) 0).toNat_lt
 generalize (s.getD p 0).toNat=d at *
 generalize (s.getD (p+1) 0).toNat=i at *
 generalize (s.getD (p+2) 0).toNat=k at *
 generalize (s.getD (p+3) 0).toNat=r at *
 have J:IntKind.i64.wrap (d:Int)=d:=jm zO zO
 have P:IntKind.i64.wrap (i:Int)=i:=jm zO zO
 have N:IntKind.i64.wrap (k:Int)=k:=jm zO zO
 have T:IntKind.i64.wrap (r:Int)=r:=jm zO zO
 refine jQ (af:=F273) rfl ?_
 simp[F273,I,XV,J]
 by_cases a1:(d:Int)<128
 ·simp[a1]
  exact JZ rfl (by simp[YL,show d<128 by omega]) (by simp[YL,show d<128 by omega]) rfl rfl
 have b:∀x:Int,-1000000000≤x→x≤1000000000→IntKind.i64.wrap x=x:=fun x h O=>jm zO zO
 by_cases L:194≤(d:Int)∧(d:Int)≤223
 ·obtain⟨t,y⟩:=L
  by_cases m:(s.length:Int)<(p:Int)+2
  ·simp(disch:=omega) [a1,t,y,m,b,jfj,List.getElem?_cons_zero]
   exact JZ rfl zJ zJ rfl rfl
  have a:=a zO
  simp(disch:=omega) [a1,t,y,m,b,jfj,List.getElem?_cons_zero]
  refine jde 2 ?_
  by_cases c:(i:Int)<128
  ·simp(disch:=omega) [a,c,b,XV,List.getElem?_cons_zero]
   exact JZ rfl zJ zJ rfl rfl
  by_cases v:191<(i:Int)
  ·simp(disch:=omega) [a,c,v,b,XV,List.getElem?_cons_zero]
   exact JZ rfl zJ zJ rfl rfl
  simp(disch:=omega) [a,c,v,b,XV,List.getElem?_cons_zero,jp5,jfj]
  exact JZ rfl zJ zJ rfl rfl
 by_cases K:224≤(d:Int)∧(d:Int)≤239
 ·obtain⟨z,u⟩:=K
  by_cases m:(s.length:Int)<(p:Int)+3
  ·simp(disch:=omega) [a1,z,u,m,b,jp6,jfj,List.getElem?_cons_zero]
   exact JZ rfl zJ zJ rfl rfl
  have a:=a zO
  have e:=e zO
  simp(disch:=omega) [a1,z,u,m,b,jp6,jfj,List.getElem?_cons_zero]
  refine jde 3 ?_
  by_cases c:(i:Int)<128
  ·simp(disch:=omega) [a,c,b,XV,List.getElem?_cons_zero]
   exact JZ rfl zJ zJ rfl rfl
  by_cases f:191<(i:Int)
  ·simp(disch:=omega) [a,c,f,b,XV,List.getElem?_cons_zero]
   exact JZ rfl zJ zJ rfl rfl
  by_cases g:(k:Int)<128
  ·simp(disch:=omega) [a,e,c,f,g,b,XV,List.getElem?_cons_zero]
   exact JZ rfl zJ zJ rfl rfl
  by_cases j:191<(k:Int)
  ·simp(disch:=omega) [a,e,c,f,g,j,b,XV,List.getElem?_cons_zero]
   exact JZ rfl zJ zJ rfl rfl
  by_cases l:64*(64*((d:Int) - 224)+i - 128)+k - 128<2048
  ·simp(disch:=omega) [a,e,c,f,g,j,l,b,XV,List.getElem?_cons_zero]
   exact JZ rfl zJ zJ rfl rfl
  by_cases o:55296≤64*(64*((d:Int) - 224)+i - 128)+k - 128
  ·by_cases G:64*(64*((d:Int) - 224)+i - 128)+k - 128≤57343
   ·simp(disch:=omega) [a,e,c,f,g,j,l,o,G,b,jp5,XV,List.getElem?_cons_zero]
    exact JZ rfl zJ zJ rfl rfl
   simp(disch:=omega) [a,e,c,f,g,j,l,o,G,b,jp5,XV,List.getElem?_cons_zero]
   exact JZ rfl zJ zJ rfl rfl
  simp(disch:=omega) [a,e,c,f,g,j,l,o,b,jp5,XV,List.getElem?_cons_zero]
  exact JZ rfl zJ zJ rfl rfl
 by_cases H:240≤(d:Int)∧(d:Int)≤244
 ·obtain⟨B,D⟩:=H
  by_cases m:(s.length:Int)<(p:Int)+4
  ·simp(disch:=omega) [a1,B,D,m,b,jp6,jfj,List.getElem?_cons_zero]
   exact JZ rfl zJ zJ rfl rfl
  have a:=a zO
  have e:=e zO
  have n:=n zO
  simp(disch:=omega) [a1,B,D,m,b,jp6,jfj,List.getElem?_cons_zero]
  refine jde 4 ?_
  by_cases c:(i:Int)<128
  ·simp(disch:=omega) [a,c,b,XV,List.getElem?_cons_zero]
   exact JZ rfl zJ zJ rfl rfl
  by_cases f:191<(i:Int)
  ·simp(disch:=omega) [a,c,f,b,XV,List.getElem?_cons_zero]
   exact JZ rfl zJ zJ rfl rfl
  by_cases g:(k:Int)<128
  ·simp(disch:=omega) [a,e,c,f,g,b,XV,List.getElem?_cons_zero]
   exact JZ rfl zJ zJ rfl rfl
  by_cases j:191<(k:Int)
  ·simp(disch:=omega) [a,e,c,f,g,j,b,XV,List.getElem?_cons_zero]
   exact JZ rfl zJ zJ rfl rfl
  by_cases w:(r:Int)<128
  ·simp(disch:=omega) [a,e,n,c,f,g,j,w,b,XV,List.getElem?_cons_zero]
   exact JZ rfl zJ zJ rfl rfl
  by_cases F:191<(r:Int)
  ·simp(disch:=omega) [a,e,n,c,f,g,j,w,F,b,XV,List.getElem?_cons_zero]
   exact JZ rfl zJ zJ rfl rfl
  by_cases l:64*(64*(64*((d:Int) - 240)+i - 128)+k - 128)+r - 128<65536
  ·simp(disch:=omega) [a,e,n,c,f,g,j,w,F,l,b,XV,List.getElem?_cons_zero]
   exact JZ rfl zJ zJ rfl rfl
  by_cases o:1114111<64*(64*(64*((d:Int) - 240)+i - 128)+k - 128)+r - 128
  ·simp(disch:=omega) [a,e,n,c,f,g,j,w,F,l,o,b,XV,List.getElem?_cons_zero]
   exact JZ rfl zJ zJ rfl rfl
  simp(disch:=omega) [a,e,n,c,f,g,j,w,F,l,o,b,jp6,jfj,XV,List.getElem?_cons_zero]
  exact JZ rfl zJ zJ rfl rfl
 have q:d<194∨244<d:=zO
 rcases q with q|q
 ·simp(disch:=omega) [a1,jfj]
  exact JZ rfl zJ zJ rfl rfl
 ·simp(disch:=omega) [a1,jp6,jfj]
  exact JZ rfl zJ zJ rfl rfl
@[simp] theorem j49 (s:List UInt8):(V.str s).strip=.str s:=rfl
@[simp] theorem j01 (s:List UInt8):(V.str s).pureTop=true:=rfl
@[simp] theorem jzd (s:List UInt8):(V.str s).pureLeaf=true:=rfl
@[simp] theorem sl_strip (t:Option (Nat × Nat)) (nl:Bool) (n:Nat) (cs:List V):(V.sl t nl n cs).strip=.sl none nl n cs:=rfl
@[simp] theorem j5i (t:Option (Nat × Nat)) (nl:Bool) (n:Nat) (cs:List V):(V.sl t nl n cs).strip1=.sl none nl n cs:=rfl
@[simp] theorem j4k (nl:Bool) (n:Nat) (cs:List V):(V.sl none nl n cs).pureTop=true:=rfl
@[simp] theorem j03 (nl:Bool) (n:Nat) (cs:List V):(V.sl none nl n cs).pureLeaf=true:=rfl
def rU (s:List UInt8) (p:Nat):Nat:=(Utf8.decode ⟨s.toArray⟩ p).1
def rW (s:List UInt8) (p:Nat):Nat:=(Utf8.decode ⟨s.toArray⟩ p).2
theorem jr7 {s:List UInt8}{p:Nat}(h:p<s.length):YL (s.length - p) (s.getD p 0).toNat (s.getD (p+1) 0).toNat (s.getD (p+2) 0).toNat (s.getD (p+3) 0).toNat=(rW s p,rU s p):=by
 rw[jrm _ _ _ _ _ zO (s.getD p 0).toNat_lt (s.getD (p+1) 0).toNat_lt (s.getD (p+2) 0).toNat_lt (s.getD (p+3) 0).toNat_lt]
 unfold rW rU
 rw[Lib.decode_N]
theorem one_w (n a b1 b2 b3:Nat) (b:1≤n):1≤(YL n a b1 b2 b3).1∧(YL n a b1 b2 b3).1≤n:=by
 unfold YL
 repeat' split
 all_goals (simp only;omega)
theorem j1r (n a b1 b2 b3:Nat) (b:b1<256) (_:b2<256) (h:(YL n a b1 b2 b3).2=65533):(YL n a b1 b2 b3).1=1∨(YL n a b1 b2 b3).1=3:=by
 revert h
 unfold YL
 repeat' split
 all_goals (intro h;simp at h ⊢;try omega)
theorem ji6 {s:List UInt8}{p:Nat}(h:p<s.length):1≤rW s p∧p+rW s p≤s.length:=by
 have:=one_w (s.length - p) (s.getD p 0).toNat (s.getD (p+1) 0).toNat (s.getD (p+2) 0).toNat (s.getD (p+3) 0).toNat zO
 rw[jr7 h]at this
 simp only at this
 omega
theorem j5v {s:List UInt8}{p:Nat}(h:p<s.length) (a:rU s p=65533):rW s p=1∨rW s p=3:=by
 have:=j1r (s.length - p) (s.getD p 0).toNat (s.getD (p+1) 0).toNat (s.getD (p+2) 0).toNat (s.getD (p+3) 0).toNat (s.getD (p+1) 0).toNat_lt (s.getD (p+2) 0).toNat_lt
 rw[jr7 h]at this
 exact this a
def RN (s:List UInt8) (p:Nat):List Int:=(XK s (s.length - p) p).map fun r=>((r:Nat):Int)
theorem jds (s:List UInt8):JB s=RN s 0:=rfl
theorem jdr (s:List UInt8):∀ (b a p:Nat),s.length≤p+b→s.length≤p+a→XK s b p=XK s a p
 | 0,0,_,_,_=>rfl
 | 0,a+1,p,h,_=>by
  unfold XK
  rw[if_neg zO]
 | b+1,0,p,_,h=>by
  unfold XK
  rw[if_neg zO]
 | b+1,a+1,p,h,h'=>by
  unfold XK
  by_cases c:p<s.length
  ·rw[if_pos c,if_pos c]
   have:=(ji6 c).1
   unfold rW at this
   rw[jdr s b a _ zO zO]
  ·rw[if_neg c,if_neg c]
theorem juu {s:List UInt8}{p:Nat}(h:p<s.length):RN s p=(rU s p:Int)::RN s (p+rW s p):=by
 have a:=ji6 h
 unfold RN
 obtain⟨n,b⟩:∃n,s.length - p=n+1:=⟨s.length - p - 1,zO⟩
 rw[b]
 conv=>lhs;unfold XK
 rw[if_pos h,List.map_cons]
 congr 2
 exact jdr s _ _ _ (by unfold rW at a;omega) (by unfold rW at a ⊢;omega)
theorem j0h {s:List UInt8}{p:Nat}(h:s.length≤p):RN s p=[]:=by
 unfold RN
 rw[show s.length - p=0 by omega]
 rfl
theorem jft (s:List UInt8):∀ (b p:Nat),(XK s b p).length≤b
 | 0,_=>Nat.le_refl _
 | b+1,p=>by
  unfold XK
  split
  ·have:=jft s b (p+(Utf8.decode ⟨s.toArray⟩ p).2)
   simp only[List.length_cons]
   omega
  ·simp
theorem YB (s:List UInt8):(JB s).length≤s.length:=by
 rw[jds,RN,List.length_map]
 exact jft s _ _
def VD (s:List UInt8) (p:Nat):Bool:=Lib.validD (s.drop p)
theorem jyt (s:List UInt8) (p:Nat):Lib.decodeL (s.drop p)=(rU s p,rW s p):=Lib.decodeL_drop ⟨s.toArray⟩ p
theorem j39 {s:List UInt8}{p:Nat}(h:p<s.length):VD s p=if rU s p=65533∧rW s p=1 then false else VD s (p+rW s p):=by
 have a:s.drop p≠[]:=fun e=>by have:=congrArg List.length e;rw[List.length_drop]at this;simp at this;omega
 unfold VD
 rw[Lib.validD_step _ a,jyt]
 simp only[List.drop_drop]
theorem VD_end {s:List UInt8}{p:Nat}(h:s.length≤p):VD s p=true:=by
 unfold VD
 rw[List.drop_of_length_le h]
 rfl
theorem jz9 (s:List UInt8) (a:s.length≤1000000) (p:Nat) (h:p<s.length):Ev E 273 [.str s,.int .i64 p] (.tup [.int .i64 (rW s p:Nat),.int .i64 (rU s p:Nat)]):=by
 have:=ev273 s a p h
 rw[jr7 h]at this
 exact this
theorem j3j (s:List UInt8) (m:s.length≤1000000):Ev E 234 [.str s] (.sl (some (0,1)) false (JB s).length ((JB s).flatMap intC)):=by
 refine jQ (af:=F234) rfl ?_
 simp[F234]
 refine jJ (cs:=[]) rfl rfl rfl ?_
 simp
 refine Yb (n:=s.length) [(3,24)] (fun k e=>∃p u a,k=s.length - p∧p≤s.length∧e.tm 4=.int .i64 (p:Nat)∧JB s=a++RN s p∧e.tm 3=.sl (some (u,1)) false a.length (a.flatMap intC)∧e.tk u=true) rfl rfl
  ⟨0,64,[],by simp[jds]⟩ ?_
 rintro k e ⟨p,u,a,rfl,q,g,b,h,i⟩ f
 have j:e.tm 0=.str s:=by rw[f.t 0 zS];simp
 have o:a.length≤1000000:=by
  have l:=congrArg List.length b
  have v:=YB s
  rw[List.length_append]at l
  omega
 by_cases c:p<s.length
 ·have r:=ji6 c
  simp[g,j,c]
  refine jO (jz9 s m p c) zS rfl rfl ?_
  simp[h]
  refine jJ (cs:=[.int .i64 (rU s p)]) (by simp[j2]) rfl rfl ?_
  simp
  refine X4 (u:=u) (nl:=false) (n:=a.length) (cs:=a.flatMap intC) (ys:=[.int .i64 (rU s p)]) zS (by simp[ju,i]) (by simp[slCells]) zS (by rw[j4 jC]) zD rfl (by simp;omega) (by simp;omega) ?_
  simp[g]
  refine⟨s.length - (p+rW s p),zO,p+rW s p,zO,zO,by rw[jm zO zO];simp,_,a++[(rU s p:Int)],?_,?_,Or.inl rfl⟩
  ·rw[b,juu c];simp
  ·simp[intC]
 ·have:p=s.length:=zO
  subst this
  simp[g,j]
  rw[j0h zR,List.append_nil]at b
  exact jex (u:=u) (by simp[f.d]) (by simp[h,b]) (by simpa using i)
theorem ev236 (s:List UInt8) (j:s.length≤1000000):Ev E 236 [.str s] (.bool (Lib.validD s)):=by
 refine jQ (af:=F236) rfl ?_
 simp[F236]
 refine Yb (n:=s.length) [(2,24)] (fun k h=>∃p,k=s.length - p∧p≤s.length∧h.tm 3=.int .i64 (p:Nat)∧Lib.validD s=VD s p) rfl rfl
  ⟨0,by simp[VD]⟩ ?_
 rintro k h ⟨p,rfl,m,c,b⟩ f
 have i:h.tm 0=.str s:=by rw[f.t 0 zS];simp
 by_cases a:p<s.length
 ·have l:=ji6 a
  rw[j39 a]at b
  simp[c,i,a]
  refine jO (jz9 s j p a) zS rfl rfl ?_
  by_cases e:rU s p=65533
  ·rcases j5v a e with h1|h1
   ·rw[if_pos ⟨e,h1⟩]at b
    simp[e,h1]
    exact j1 (by simp[f.d]) (by simp[b]) rfl
   ·rw[if_neg zO]at b
    simp[e,h1,c]
    exact⟨s.length - (p+3),zO,p+3,rfl,zO,by rw[jm zO zO];simp,by rw[b,h1]⟩
  ·rw[if_neg zO]at b
   have g:((rU s p:Int) == 65533)=false:=by rw[beq_eq_false_iff_ne];omega
   simp[g,c]
   exact⟨s.length - (p+rW s p),zO,p+rW s p,rfl,zO,by rw[jm zO zO];simp,b⟩
 ·have:p=s.length:=zO
  subst this
  rw[VD_end zR]at b
  simp[c,i]
  exact j1 (by simp[f.d]) (by simp[b]) rfl
theorem JY {b:Type}{f:b→List V}{k:Nat}(c:∀a,(f a).length=k) (t:Option (Nat × Nat)) (nl:Bool) (l:List b) (kk:IntKind) {i:Nat}(h:i<l.length):JP k (.sl t nl l.length (l.flatMap f)) (.int kk i)=some (.eptr (l.flatMap f) (i*k)):=by
 simp only[YQ,j4 c]
 rw[if_pos (by simp;omega)]
 rfl
theorem jl4 {b:Type}{f:b→List V}{k:Nat}(c:∀a,(f a).length=k) (t:Option (Nat × Nat)) (nl:Bool) (l:List b) (kk:IntKind) (h:0<l.length):JP k (.sl t nl l.length (l.flatMap f)) (.int kk 0)=some (.eptr (l.flatMap f) 0):=by
 have:=JY c t nl l kk h
 simpa using this
theorem JX (l:List Int) {i:Nat}(h:i<l.length):(l.flatMap intC)[i]? = some (.int .i64 l[i]):=by
 have:=jR (f:=intC) jC l h (by decide:0<1)
 rw[Nat.mul_one,Nat.add_zero]at this
 rw[this]
 rfl
theorem jfn (l:List (List UInt8)) {i:Nat}(h:i<l.length):(l.flatMap Jk)[i]? = some (.str l[i]):=by
 have:=jR (f:=Jk) Y9 l h (by decide:0<1)
 rw[Nat.mul_one,Nat.add_zero]at this
 rw[this]
 rfl
theorem jb {i N:Nat}(h:i<N) (a:N≤1000000000):IntKind.i64.wrap ((i:Int)+1)=(i:Int)+1:=jm zO zO
theorem dne_t {a b:Int}(h:a<b∨b<a):(a != b)=true:=by simp;omega
theorem dne_f {a b:Int}(h:a=b):(a != b)=false:=by simp[h]
def jep:List Int→Bool
 | []=>false
 | c::_=>W8 c
def nmOk (l:List Int):Bool:=decide (1≤l.length) && decide (l.length≤20) && !(jep l) && l.all jbp
def jhn (s:List UInt8):Bool:=!j1k s && Lib.validD s && nmOk (JB s)
def jhq (a b:List UInt8):Bool:=decide (jkf (JB a) (JB b)<0)
def jpi (t:List (List UInt8)) (j:Nat):Bool:=jhn (t.getD j []) && (j == 0 || jhq (t.getD (j - 1) []) (t.getD j []))
def jux (t:List (List UInt8)):Bool:=(List.range t.length).all (jpi t)
theorem jt1 {l:List Int}(h:0<l.length):jep l=W8 l[0]:=by
 cases l with
 | nil=>simp at h
 | cons a l=>rfl
theorem all_at {a:Type}{p:a→Bool}{l:List a}(h:∀j (b:j<l.length),p l[j]=true):l.all p=true:=by
 rw[List.all_eq_true]
 intro x c
 obtain⟨j,b,rfl⟩:=List.getElem_of_mem c
 exact h j b
theorem jmg {a:Type}{p:a→Bool}{l:List a}{j:Nat}(b:j<l.length) (h:p l[j]=false):l.all p=false:=by
 rw[List.all_eq_false]
 exact⟨_,List.getElem_mem b,by rw[h];decide⟩
theorem jo8 (c:Int):(jbp c=false∧(c<48∨(57<c∧c<65)∨(90<c∧c<95)∨c=96∨(122<c∧c<128)))∨(jbp c=true∧((48≤c∧c≤57)∨(65≤c∧c≤90)∨c=95∨(97≤c∧c≤122)∨127<c)):=by
 simp[jbp,W8]
 omega
def L126:C:=.seq (.seq (.region [
 ⟨(some 37),.mov (.t 4),none,false⟩,
 ⟨(some 38),.mov (.t 3),none,false⟩,
 ⟨(some 39),.lenSl (.t 38),none,false⟩,
 ⟨(some 40),.bin .lss (.t 37) (.t 39),none,false⟩])
 (.cond (.t 40) (.skip)
  (.exit 0)))
 (.seq (.block 1 (.seq (.region [
  ⟨(some 43),.mov (.t 3),none,false⟩,
  ⟨(some 44),.mov (.t 4),none,false⟩,
  ⟨(some 45),.idxSl 1 (.t 43) (.t 44),none,false⟩,
  ⟨(some 46),.load none (.t 45),none,false⟩,
  ⟨(some 5),.mov (.t 46),none,false⟩])
  (.seq (.region [
   ⟨(some 47),.mov (.t 5),none,false⟩,
   ⟨(some 48),.bin .lss (.t 47) (.c (.int .i64 128)),none,false⟩,
   ⟨(some 49),.mov (.t 48),none,false⟩,
   ⟨(some 50),.mov (.t 5),(some (49,true)),false⟩,
   ⟨(some 51),.bin .neq (.t 50) (.c (.int .i64 95)),(some (49,true)),false⟩,
   ⟨(some 52),.pick (.t 49) (.t 51) (.c (.bool false)),none,false⟩,
   ⟨(some 53),.mov (.t 52),none,false⟩,
   ⟨(some 54),.mov (.t 5),(some (53,true)),false⟩,
   ⟨(some 55),.bin .lss (.t 54) (.c (.int .i64 48)),(some (53,true)),false⟩,
   ⟨(some 56),.mov (.t 55),(some (53,true)),false⟩,
   ⟨(some 57),.mov (.t 5),(some (56,false)),false⟩,
   ⟨(some 58),.bin .gtr (.t 57) (.c (.int .i64 57)),(some (56,false)),false⟩,
   ⟨(some 59),.pick (.t 56) (.c (.bool true)) (.t 58),(some (53,true)),false⟩,
   ⟨(some 60),.pick (.t 53) (.t 59) (.c (.bool false)),none,false⟩,
   ⟨(some 61),.mov (.t 60),none,false⟩,
   ⟨(some 62),.mov (.t 5),(some (61,true)),false⟩,
   ⟨(some 63),.bin .lss (.t 62) (.c (.int .i64 65)),(some (61,true)),false⟩,
   ⟨(some 64),.mov (.t 63),(some (61,true)),false⟩,
   ⟨(some 65),.mov (.t 5),(some (64,false)),false⟩,
   ⟨(some 66),.bin .gtr (.t 65) (.c (.int .i64 90)),(some (64,false)),false⟩,
   ⟨(some 67),.pick (.t 64) (.c (.bool true)) (.t 66),(some (61,true)),false⟩,
   ⟨(some 68),.pick (.t 61) (.t 67) (.c (.bool false)),none,false⟩,
   ⟨(some 69),.mov (.t 68),none,false⟩,
   ⟨(some 70),.mov (.t 5),(some (69,true)),false⟩,
   ⟨(some 71),.bin .lss (.t 70) (.c (.int .i64 97)),(some (69,true)),false⟩,
   ⟨(some 72),.mov (.t 71),(some (69,true)),false⟩,
   ⟨(some 73),.mov (.t 5),(some (72,false)),false⟩,
   ⟨(some 74),.bin .gtr (.t 73) (.c (.int .i64 122)),(some (72,false)),false⟩,
   ⟨(some 75),.pick (.t 72) (.c (.bool true)) (.t 74),(some (69,true)),false⟩,
   ⟨(some 76),.pick (.t 69) (.t 75) (.c (.bool false)),none,false⟩])
   (.cond (.t 76) (.seq (.region [
    ⟨(some 2),.mov (.c (.bool false)),none,false⟩])
    (.ret))
    (.skip)))))
  (.region [
   ⟨(some 41),.mov (.t 4),none,false⟩,
   ⟨(some 42),.bin .add (.t 41) (.c (.int .i64 1)),none,false⟩,
   ⟨(some 4),.mov (.t 42),none,false⟩]))
theorem ev172 (s:List UInt8) (y:s.length≤1000000):Ev E 172 [.str s] (.bool (jhn s)):=by
 refine jQ (af:=F172) rfl ?_
 simp[F172]
 refine jO (j3j s y) zS rfl rfl ?_
 have J:=YB s
 unfold jhn nmOk
 generalize I:JB s=l at *
 simp[Xa,toksRes,V.toks,V.tok,jbx,jbw,Y6]
 by_cases a1:(l.length:Int)<1
 ·simp[a1]
  exact j1 rfl (by simp;omega) rfl
 by_cases a2:20<(l.length:Int)
 ·simp[a1,a2]
  exact j1 rfl (by simp;omega) rfl
 have m:0<l.length:=zO
 have u:=jt1 m
 simp[a1,a2]
 refine jO (ev235 s) zS rfl rfl ?_
 cases b1:j1k s
 case true=>
  simp
  exact j1 rfl zS rfl
 simp
 refine jO (ev236 s y) zS rfl rfl ?_
 cases b2:Lib.validD s
 case false=>
  simp
  exact j1 rfl zS rfl
 have e:∀ {k:St},k.df=[]→k.tm 4=.int .i64 0→k.tm 3=.sl (some (128,1)) false l.length (l.flatMap intC)→jep l=false →
  wpC E Y0 (.loop L126) k (kBlk 0 (jqh E Y0 (.seq (.region [⟨(some 2),.mov (.c (.bool true)),none,false⟩]) (.ret)) (jzu [.t 2] (.bool (!false && true && (decide (1≤l.length) && decide (l.length≤20) && !(jep l) && l.all jbp)))))):=by
  intro k B o D F
  refine j8 [(2,2),(4,5),(37,76)] l.length (fun i s=>s.tm 4=.int .i64 i∧∀j (n:j<l.length),j<i→jbp l[j]=true) rfl rfl ⟨by simp[o],fun j _ h=>by omega⟩ ?_
  rintro i s H ⟨o,z⟩ f
  have w:s.tm 3=.sl (some (128,1)) false l.length (l.flatMap intC):=by rw[f.t 3 zS];simp[D]
  by_cases b:i<l.length
  ·have G:=jb b zO
   obtain⟨c,g⟩:∃c,l[i]=c:=⟨_,rfl⟩
   have a:=JX l b
   rw[g]at a
   rcases jo8 c with⟨v,q⟩|⟨v,q⟩
   ·rcases q with q|q|q|q|q
    all_goals
     simp(disch:=omega) [L126,o,w,b,JY jC,a,dlt_t,jp5,dne_t]
     exact j1 (by simp[f.d,B]) (by simp[jmg b (g▸v)]) rfl
   ·rcases q with q|q|q|q|q
    all_goals
     simp(disch:=omega) [L126,o,w,b,JY jC,a,dlt_t,jp5,dne_t,dne_f,G]
     intro j n x
     rcases Nat.lt_succ_iff_lt_or_eq.1 x with h|rfl
     ·exact z j n h
     ·exact g▸v
  ·have:i=l.length:=zO
   subst this
   simp[L126,o,w]
   exact j1 (by simp[f.d,B]) (by simp[F,all_at (fun j n=>z j n n)];omega) rfl
 obtain⟨c,g⟩:∃c,l[0]=c:=⟨_,rfl⟩
 have a:=JX l m
 rw[g]at u a
 by_cases p:48≤c
 ·by_cases r:c≤57
  ·simp[jl4 jC _ _ l _ m,a,p,r]
   exact j1 rfl (by simp[u,W8,p,r]) rfl
  simp[jl4 jC _ _ l _ m,a,p,r]
  exact e rfl zS zS (by simp[u,W8,r])
 simp[jl4 jC _ _ l _ m,a,p]
 exact e rfl zS zS (by simp[u,W8,p])
theorem j3t (a b:Int):(ju4 a b<0)=(a<b):=by
 unfold ju4
 split
 ·simp[*]
 ·split <;> simp[*]
theorem cmpI_z {a b:Int}:ju4 a b=0 ↔ a=b:=by
 unfold ju4
 split
 ·simp;omega
 ·split
  ·simp;omega
  ·simp;omega
theorem ev173 (a b:List UInt8) (B:a.length≤1000000) (F:b.length≤1000000):Ev E 173 [.str a,.str b] (.bool (jhq a b)):=by
 refine jQ (af:=F173) rfl ?_
 simp[F173]
 refine jO (j3j a B) zS rfl rfl ?_
 have H:=YB a
 have D:=YB b
 unfold jhq
 simp[Xa,toksRes,V.toks,V.tok,jbx,jbw,Y6]
 refine jO (j3j b F) zS rfl rfl ?_
 generalize JB a=x at *
 generalize JB b=y at *
 simp[Xa,toksRes,V.toks,V.tok,jbx,jbw,Y6]
 refine j8 [(4,4),(7,7),(12,41)] x.length (fun i s=>s.tm 7=.int .i64 i∧i≤y.length∧jkf (x.drop i) (y.drop i)=jkf x y) rfl rfl ⟨zS,zS,zS⟩ ?_
 rintro i s J ⟨p,G,k⟩ f
 have r:s.tm 5=.sl (some (128,1)) false x.length (x.flatMap intC):=by rw[f.t 5 zS];simp
 have n:s.tm 6=.sl (some (256,1)) false y.length (y.flatMap intC):=by rw[f.t 6 zS];simp
 have o:s.df=[]:=by rw[f.d];simp
 clear f
 by_cases j:i<x.length
 ·by_cases g:i<y.length
  ·have I:=jb j zO
   rw[List.drop_eq_getElem_cons j,List.drop_eq_getElem_cons g,jkf]at k
   obtain⟨c,z⟩:∃c,x[i]=c:=⟨_,rfl⟩
   obtain⟨d,u⟩:∃d,y[i]=d:=⟨_,rfl⟩
   have l:=JX x j
   have m:=JX y g
   rw[z]at k l
   rw[u]at k m
   by_cases q:c=d
   ·rw[if_pos (cmpI_z.2 q)]at k
    simp[p,r,n,j,g,JY jC,l,m,q,I]
    exact⟨zO,k⟩
   ·rw[if_neg (fun h=>q (cmpI_z.1 h))]at k
    have w:(c != d)=true:=by simpa using q
    simp[p,r,n,j,g,JY jC,l,m,w]
    exact j1 (by simp[o]) (by simp[← k,j3t]) rfl
  ·have e:y.drop i=[]:=List.drop_of_length_le zO
   rw[List.drop_eq_getElem_cons j,e,jkf]at k
   have v:¬ x.length<y.length:=zO
   simp[p,r,n,j,g]
   exact j1 (by simp[o]) (by simp[← k,v]) rfl
 ·have:i=x.length:=zO
  subst this
  rw[List.drop_length]at k
  simp[p,r,n]
  by_cases g:x.length<y.length
  ·rw[List.drop_eq_getElem_cons g,jkf]at k
   exact j1 (by simp[o]) (by simp[← k,g]) rfl
  ·rw[List.drop_of_length_le (by omega:y.length≤x.length),jkf]at k
   exact j1 (by simp[o]) (by simp[← k,g]) rfl
theorem jzc {t:List (List UInt8)}(h:∀j,j<t.length→jpi t j=true):jux t=true:=List.all_eq_true.2 fun j a=>h j (List.mem_range.1 a)
theorem jms {t:List (List UInt8)}{j:Nat}(a:j<t.length) (h:jpi t j=false):jux t=false:=List.all_eq_false.2 ⟨j,List.mem_range.2 a,by rw[h];decide⟩
theorem Jv {a:Type}{l:List a}{i:Nat}{d:a}(h:i<l.length):l.getD i d=l[i]:=by simp[List.getD,h]
theorem j4x {i:Nat}(h:0<i) (a:i≤1000000000):IntKind.i64.wrap ((i:Int) - 1)=((i - 1:Nat):Int):=by
 rw[jm zO zO];omega
theorem ev110 (nl:Bool) (t:List (List UInt8)) (I:t.length≤1000000) (B:∀s∈t,s.length≤1000000):Ev E 110 [slOf nl Jk t] (.bool (jux t)):=by
 refine jQ (af:=F110) rfl ?_
 simp[F110]
 refine j8 [(2,4),(5,32)] t.length (fun i s=>s.tm 3=.int .i64 i∧∀j,j<t.length→j<i→jpi t j=true) rfl rfl ⟨zS,fun j _ h=>by omega⟩ ?_
 rintro i s J ⟨n,z⟩ f
 have x:s.tm 0=slOf nl Jk t:=by rw[f.t 0 zS];simp
 have w:s.df=[]:=by rw[f.d];simp
 clear f
 by_cases a:i<t.length
 ·have H:=jb a zO
  have b:jpi t i=(jhn t[i] && (i == 0 || jhq (t.getD (i - 1) []) t[i])):=by unfold jpi;rw[Jv a]
  have k:=B _ (List.getElem_mem a)
  obtain⟨c,F⟩:∃c,t[i]=c:=⟨_,rfl⟩
  have l:=jfn t a
  rw[F]at b l k
  have jb8:jpi t i=true→∀j,j<t.length→j<i+1→jpi t j=true:=fun h j m v=>by
   rcases Nat.lt_succ_iff_lt_or_eq.1 v with h'|rfl
   ·exact z j m h'
   ·exact h
  simp[n,x,a,j5 Y9,l]
  refine X5 (ev172 c k) zS rfl rfl ?_
  cases r:jhn c
  ·rw[r]at b
   simp
   exact j1 (by simp[w]) (by simp[jms a b]) rfl
  ·rw[r]at b
   by_cases D:i=0
   ·subst D
    simp[n]
    exact⟨a,zD,fun j m h=>by subst h;exact jb8 (by simp[b]) 0 m zO⟩
   ·have q:0<i:=zO
    have y:=j4x q zO
    have g:i - 1<t.length:=zO
    have p:=B _ (List.getElem_mem g)
    have u:=jfn t g
    rw[Jv g]at b
    obtain⟨e,G⟩:∃e,t[i - 1]=e:=⟨_,rfl⟩
    rw[G]at b u p
    simp[n,x,q,y,g,j5 Y9,u,a,l]
    refine X5 (ev173 e c p k) zS rfl rfl ?_
    cases o:jhq e c
    ·simp
     exact j1 (by simp[w]) (by simp[jms a (by simp[b,o,D])]) rfl
    ·simp[n,H]
     exact⟨a,jb8 (by simp[b,o])⟩
 ·have:i=t.length:=zO
  subst this
  simp[n,x]
  exact j1 (by simp[w]) (by simp[jzc (fun j m=>z j m m)]) rfl
theorem jik {a b:Nat}(c:a<2 ^ 64) (d:b<2 ^ 64):Y8 .or (.int .u64 (a:Int)) (.int .u64 (b:Int))=some (.int .u64 ((a ||| b:Nat):Int)):=by
 have h:a ||| b<2 ^ 64:=Nat.or_lt_two_pow c d
 simp only[Y8,XU,if_true]
 have e:(BitVec.ofInt IntKind.u64.bits (a:Int) ||| BitVec.ofInt IntKind.u64.bits (b:Int)).toNat=a ||| b:=by
  rw[BitVec.toNat_or,BitVec.ofInt_natCast,BitVec.ofInt_natCast,BitVec.toNat_ofNat,BitVec.toNat_ofNat]
  rw[show IntKind.u64.bits=64 from rfl,Nat.mod_eq_of_lt c,Nat.mod_eq_of_lt d]
 rw[e,IntKind.wrap_u64]
 congr 2
 omega
theorem jkz {a b:Nat}{m:Int}(f:m=(b:Int)) (d:a<2 ^ 64) (c:b<2 ^ 64):Y8 .and (.int .u64 (a:Int)) (.int .u64 m)=some (.int .u64 ((a &&& b:Nat):Int)):=by
 subst f
 have h:a &&& b<2 ^ 64:=Nat.and_lt_two_pow _ c
 simp only[Y8,XU,if_true]
 have e:(BitVec.ofInt IntKind.u64.bits (a:Int) &&& BitVec.ofInt IntKind.u64.bits (b:Int)).toNat=a &&& b:=by
  rw[BitVec.toNat_and,BitVec.ofInt_natCast,BitVec.ofInt_natCast,BitVec.toNat_ofNat,BitVec.toNat_ofNat]
  rw[show IntKind.u64.bits=64 from rfl,Nat.mod_eq_of_lt d,Nat.mod_eq_of_lt c]
 rw[e,IntKind.wrap_u64]
 congr 2
 omega
theorem jqv {a k:Nat}{m:Int}(c:m=(k:Int)) (b:k≤64) (h:a*2 ^ k<2 ^ 64):Y8 .shl (.int .u64 (a:Int)) (.int .u64 m)=some (.int .u64 ((a*2 ^ k:Nat):Int)):=by
 subst c
 simp only[Y8,Q7]
 rw[if_neg zO]
 simp only[Int.toNat_natCast,show IntKind.u64.bits=64 from rfl,Nat.min_eq_left b]
 rw[IntKind.wrap_u64]
 congr 2
 have:((a:Int)*2 ^ k)=((a*2 ^ k:Nat):Int):=zS
 rw[this]
 omega
theorem JR {l:List UInt8}{kk:IntKind}{k:Nat}{x:Int}(a:x=(k:Int)) (h:k≤l.length):XW (some (.int kk x)) none (.str l)=some (.str (l.drop k)):=by
 subst a
 simp[XW,Jx,h]
def wd (l:List UInt8):Nat:=Lib.leNat (l.take 8)
theorem j51 (a b k:Nat) (h:a<2 ^ k):a ||| b*2 ^ k=a+b*2 ^ k:=by
 have:=Nat.shiftLeft_add_eq_or_of_lt h b
 rw[Nat.shiftLeft_eq]at this
 rw[Nat.or_comm,← this,Nat.add_comm]
theorem wd_8 (a b c d e f g h:UInt8) (t:List UInt8):wd (a::b::c::d::e::f::g::h::t) =
 a.toNat+b.toNat*2 ^ 8+c.toNat*2 ^ 16+d.toNat*2 ^ 24+e.toNat*2 ^ 32+f.toNat*2 ^ 40+g.toNat*2 ^ 48+h.toNat*2 ^ 56:=by
 simp only[wd,List.take,Lib.leNat]
 omega
theorem jdn (x:UInt8) (k:Nat) {m:Int}(b:m=(k:Int)) (d:k≤56):∃B:Nat,B=x.toNat*2 ^ k∧Y8 .shl (.int .u64 (x.toNat:Int)) (.int .u64 m)=some (.int .u64 (B:Int)):=by
 have c:=x.toNat_lt
 have a:x.toNat*2 ^ k<2 ^ 64:=by
  calc x.toNat*2 ^ k<2 ^ 8*2 ^ k:=Nat.mul_lt_mul_of_pos_right c (Nat.two_pow_pos k)
   _=2 ^ (8+k):=(Nat.pow_add ..).symm
   _≤2 ^ 64:=Nat.pow_le_pow_right zD zO
 exact⟨_,rfl,jqv b zO a⟩
theorem jli {O B:Nat}(k c:Nat) (h:O<2 ^ k) (b:B=c*2 ^ k) (d:c<2 ^ 8) (g:k≤56):∃a:Nat,a=O+B∧a<2 ^ (k+8)∧Y8 .or (.int .u64 (O:Int)) (.int .u64 (B:Int))=some (.int .u64 (a:Int)):=by
 have f:B+2 ^ k≤2 ^ (k+8):=by
  rw[b,Nat.pow_add,Nat.mul_comm (2 ^ k),← Nat.succ_mul]
  exact Nat.mul_le_mul_right _ d
 have e:2 ^ (k+8)≤2 ^ 64:=Nat.pow_le_pow_right zD zO
 refine⟨O+B,rfl,zO,?_⟩
 rw[jik zO zO,b,j51 _ _ _ h]
theorem jl8 (l:List UInt8) (hl:8≤l.length):Ev E 289 [.str l] (.int .u64 (wd l)):=by
 match l,hl with
 | a::b::c::d::e::f::g::h::t,_=>
  rw[wd_8]
  have l0:=a.toNat_lt
  have l1:=b.toNat_lt
  have l2:=c.toNat_lt
  have l3:=d.toNat_lt
  have l4:=e.toNat_lt
  have X:=f.toNat_lt
  have l6:=g.toNat_lt
  have l7:=h.toNat_lt
  refine jQ (af:=F289) rfl ?_
  have cv:∀x:UInt8,XV .u64 (.int .u8 (x.toNat:Int))=some (.int .u64 (x.toNat:Int)):=fun x=>by
   have:=x.toNat_lt
   simp only[XV,IntKind.wrap_u64]
   congr 2
   omega
  have j:∀ (s:List UInt8) (i:Nat) (x:UInt8) (y:Int),y=(i:Int)→s[i]? = some x→Wv (.str s) (.int .i64 y)=some (.int .u8 (x.toNat:Int)):=by
   intro s i x y hy hx
   subst hy
   simp[Wv,hx]
  have i0:=j (a::b::c::d::e::f::g::h::t) 0 a 0 rfl rfl
  have P:=j (a::b::c::d::e::f::g::h::t) 1 b 1 rfl rfl
  have i2:=j (a::b::c::d::e::f::g::h::t) 2 c 2 rfl rfl
  have Q:=j (a::b::c::d::e::f::g::h::t) 3 d 3 rfl rfl
  have i4:=j (a::b::c::d::e::f::g::h::t) 4 e 4 rfl rfl
  have i5:=j (a::b::c::d::e::f::g::h::t) 5 f 5 rfl rfl
  have i6:=j (a::b::c::d::e::f::g::h::t) 6 g 6 rfl rfl
  have T:=j (a::b::c::d::e::f::g::h::t) 7 h 7 rfl rfl
  obtain⟨B1,k,s1⟩:=jdn b 8 (m:=8) rfl zD
  obtain⟨B2,q,s2⟩:=jdn c 16 (m:=16) rfl zD
  obtain⟨B3,u,S⟩:=jdn d 24 (m:=24) rfl zD
  obtain⟨B4,o,s4⟩:=jdn e 32 (m:=32) rfl zD
  obtain⟨B5,v,s5⟩:=jdn f 40 (m:=40) rfl zD
  obtain⟨B6,p,s6⟩:=jdn g 48 (m:=48) rfl zD
  obtain⟨B7,n,s7⟩:=jdn h 56 (m:=56) rfl zD
  obtain⟨O1,H,K,U⟩:=jli (O:=a.toNat) 8 _ l0 k l1 zD
  obtain⟨O2,z,M,o2⟩:=jli (O:=O1) 16 _ K q l2 zD
  obtain⟨O3,B,N,o3⟩:=jli (O:=O2) 24 _ M u l3 zD
  obtain⟨O4,G,L,o4⟩:=jli (O:=O3) 32 _ N o l4 zD
  obtain⟨O5,w,J,o5⟩:=jli (O:=O4) 40 _ L v X zD
  obtain⟨O6,D,I,o6⟩:=jli (O:=O5) 48 _ J p l6 zD
  obtain⟨Z,F,q7,o7⟩:=jli (O:=O6) 56 _ I n l7 zD
  have r:Z=a.toNat+b.toNat*2 ^ 8+c.toNat*2 ^ 16+d.toNat*2 ^ 24+e.toNat*2 ^ 32+f.toNat*2 ^ 40+g.toNat*2 ^ 48+h.toNat*2 ^ 56:=zO
  rw[← r]
  clear r k q u o v p n F q7 D I w J G L B N z M H K
  simp[F289,cv,i0,P,i2,Q,i4,i5,i6,T,s1,U,s2,o2,S,o3,s4,o4,s5,o5,s6,o6,s7,o7]
  exact j1 rfl zS rfl
theorem j3i (tm:Nat→V):eval E tm (.g 2)=.eptr utf8first 0:=rfl
theorem j3h (tm:Nat→V):eval E tm (.g 3)=.eptr accR 0:=rfl
theorem jyg (b:Nat) (h:b<256):utf8first[b]? = some (.int .u8 (Lib.firstT b:Nat)):=by
 unfold utf8first
 rw[List.getElem?_map,List.getElem?_range h]
 rfl
theorem acc_at (y:Nat) (h:y<16):(accR.drop (y*2)).take 2=[.int .u8 (Lib.accLo y:Nat),.int .u8 (Lib.accHi y:Nat)]:=by
 have:y=0∨y=1∨y=2∨y=3∨y=4∨y=5∨y=6∨y=7∨y=8∨y=9∨y=10∨y=11∨y=12∨y=13∨y=14∨y=15:=zO
 rcases this with h|h|h|h|h|h|h|h|h|h|h|h|h|h|h|h <;> subst h <;> rfl
theorem and7:∀x:Fin 256,IntKind.u8.wrap ((BitVec.ofInt IntKind.u8.bits ((x.val:Nat):Int) &&& BitVec.ofInt IntKind.u8.bits 7).toNat:Int)=((x.val % 8:Nat):Int):=by decide +kernel
theorem j0u (x:Nat) (h:x<256):Y8 .and (.int .u8 (x:Int)) (.int .u8 7)=some (.int .u8 ((x % 8:Nat):Int)):=by
 simp only[Y8,XU,if_true]
 have:=and7 ⟨x,h⟩
 simp only at this
 rw[this]
theorem j0t (x:Nat) (_:x<256):Y8 .shr (.int .u8 (x:Int)) (.int .u64 4)=some (.int .u8 ((x / 16:Nat):Int)):=by
 simp only[Y8,Q7]
 rw[if_neg zD]
 have e:min (Int.toNat 4) IntKind.u8.bits=4:=by decide
 rw[e]
 congr 2
 rw[Int.fdiv_eq_ediv_of_nonneg _ zD]
 omega
theorem jye (b:Nat):Lib.firstT b<256:=by
 unfold Lib.firstT
 repeat' split
 all_goals omega
abbrev M8:Nat:=9259542123273814144
theorem jkx (l:List UInt8):wd l<2 ^ 64:=by
 have h:=Lib.leNat_lt (l.take 8)
 have b:(256:Nat) ^ (l.take 8).length≤256 ^ 8:=Nat.pow_le_pow_right zD (by rw[List.length_take];omega)
 have a:(256:Nat) ^ 8=2 ^ 64:=by decide
 unfold wd
 omega
theorem WC {l:List UInt8}(a:8≤l.length) (h:wd l &&& M8=0):Lib.validD l=Lib.validD (l.drop 8):=by
 have e:(l.take 8).length=8:=by rw[List.length_take];omega
 have:=(Lib.leNat_mask (l.take 8)).1 (by rw[e,Lib.maskN8];exact h)
 exact Lib.validD_ascii 8 l this
theorem jur (w:Nat) (a:w<2 ^ 64):∃q:Nat,q=w &&& M8∧Y8 .and (.int .u64 (w:Int)) (.int .u64 9259542123273814144)=some (.int .u64 (q:Int)) :=
 ⟨_,rfl,jkz (b:=M8) rfl a zD⟩
theorem jna {a b:Nat}(c:a<2 ^ 64) (d:b<2 ^ 64):∃q:Nat,q=a ||| b∧q<2 ^ 64∧Y8 .or (.int .u64 (a:Int)) (.int .u64 (b:Int))=some (.int .u64 (q:Int)) :=
 ⟨_,rfl,Nat.or_lt_two_pow c d,jik c d⟩
theorem beq0 (q:Nat):((q:Int) == 0)=decide (q=0):=by
 rw[Bool.eq_iff_iff];simp
theorem ev265 (s:List UInt8) (_:s.length≤1000000):Ev E 265 [.str s] (.bool (Lib.validD s)):=by
 refine jQ (af:=F265) rfl ?_
 simp[F265]
 refine Yb (n:=s.length) [(0,200)] (fun k st=>∃l,k=l.length∧st.tm 0=.str l∧Lib.validD s=Lib.validD l∧l.length≤s.length) rfl rfl ⟨s,zS⟩ ?_
 rintro k st ⟨l,rfl,m,hv,hl⟩ f
 have G:st.df=[]:=by rw[f.d];simp
 have fb:st.fb=0:=by rw[f.b];simp
 have fr:st.ro=0:=by rw[f.r];simp
 clear f
 cases J:l with
 | nil=>
  subst J
  simp[m]
  exact j1 (by simp[G]) (by simp[hv];rfl) rfl
 | cons b t=>
 rw[← J]
 have h3:l.length=t.length+1:=by rw[J];rfl
 have g2:=b.toNat_lt
 have Q:l.getD 0 0=b:=by rw[J];rfl
 have i0:Wv (.str l) (.int .i64 0)=some (.int .u8 (b.toNat:Int)):=by
  have:=Xu (s:=l) (i:=0) (x:=0) .i64 zO rfl
  rw[Q]at this
  exact this
 have O:0<l.length:=zO
 by_cases hb:(b.toNat:Int)<128
 ·have c4:Lib.validD s=Lib.validD t:=by rw[hv,J,Lib.validD_cons b t zO]
  have d1:XW (some (.int .i64 1)) none (.str l)=some (.str t):=by
   rw[JR (k:=1) (x:=1) rfl (by omega:1≤l.length),J];rfl
  by_cases h8:8<(t.length:Int)
  ·obtain⟨w,hw⟩:∃w,wd t=w:=⟨_,rfl⟩
   have h1:w<2 ^ 64:=hw▸jkx t
   obtain⟨q,hq,aq⟩:=jur w h1
   simp[m,O,i0,hb,d1,h8]
   refine jO (jl8 t zO) zS rfl rfl ?_
   rw[hw]
   by_cases c3:q=0
   ·have U:Lib.validD s=Lib.validD (t.drop 8):=by rw[c4,WC zO (by rw[hw,← hq,c3])]
    have d8:XW (some (.int .i64 8)) none (.str t)=some (.str (t.drop 8)):=JR (k:=8) rfl zO
    have h2:(t.drop 8).length=t.length - 8:=List.length_drop
    obtain⟨u,hu⟩:∃u,t.drop 8=u:=⟨_,rfl⟩
    rw[hu]at U d8 h2
    simp[aq,c3,d8]
    by_cases c8:16<(u.length:Int)
    ·have f6:XW (some (.int .i64 8)) none (.str u)=some (.str (u.drop 8)):=JR (k:=8) rfl zO
     have c9:XW (some (.int .i64 16)) none (.str u)=some (.str (u.drop 16)):=JR (k:=16) rfl zO
     have f9:(u.drop 8).length=u.length - 8:=List.length_drop
     obtain⟨w1,c5⟩:∃w,wd u=w:=⟨_,rfl⟩
     obtain⟨w2,b9⟩:∃w,wd (u.drop 8)=w:=⟨_,rfl⟩
     obtain⟨o,ho,g3,oo⟩:=jna (c5▸jkx u) (b9▸jkx (u.drop 8))
     obtain⟨q2,g4,f8⟩:=jur o g3
     have e1:=jl8 u zO
     have H:=jl8 (u.drop 8) zO
     rw[c5]at e1
     rw[b9]at H
     obtain⟨u8,a0⟩:∃x,u.drop 8=x:=⟨_,rfl⟩
     rw[a0]at f6 H f9
     simp[c8]
     refine X5 e1 zS rfl rfl ?_
     simp[f6]
     refine X5 H zS rfl rfl ?_
     by_cases M:q2=0
     ·have f4:=(Lib.or_mask w1 w2 M8).1 (by rw[← ho,← g4,M])
      have b6:Lib.validD s=Lib.validD (u.drop 16):=by
       rw[U,WC zO (by rw[c5];exact f4.1),a0,WC zO (by rw[← a0,b9];exact f4.2),← a0,List.drop_drop]
      have e8:(u.drop 16).length=u.length - 16:=List.length_drop
      obtain⟨v,g1⟩:∃x,u.drop 16=x:=⟨_,rfl⟩
      rw[g1]at c9 b6 e8
      simp[oo,f8,M,c9]
      refine Yb (n:=v.length) [(0,0),(42,64)] (fun k st=>∃x,k=x.length∧st.tm 0=.str x∧Lib.validD s=Lib.validD x∧x.length≤v.length) rfl rfl ⟨v,by simp[b6]⟩ ?_
      rintro k h5 ⟨x,rfl,g0,gv,gl⟩ _
      by_cases f0:32<(x.length:Int)
      ·have f7:XW (some (.int .i64 8)) none (.str x)=some (.str (x.drop 8)):=JR (k:=8) rfl zO
       have b5:XW (some (.int .i64 16)) none (.str x)=some (.str (x.drop 16)):=JR (k:=16) rfl zO
       have b7:XW (some (.int .i64 24)) none (.str x)=some (.str (x.drop 24)):=JR (k:=24) rfl zO
       have b0:XW (some (.int .i64 32)) none (.str x)=some (.str (x.drop 32)):=JR (k:=32) rfl zO
       have d9:(x.drop 32).length=x.length - 32:=List.length_drop
       obtain⟨y0,S⟩:∃w,wd x=w:=⟨_,rfl⟩
       obtain⟨y1,X⟩:∃w,wd (x.drop 8)=w:=⟨_,rfl⟩
       obtain⟨y2,T⟩:∃w,wd (x.drop 16)=w:=⟨_,rfl⟩
       obtain⟨y3,Z⟩:∃w,wd (x.drop 24)=w:=⟨_,rfl⟩
       obtain⟨p1,c7,c6,g8⟩:=jna (S▸jkx x) (X▸jkx (x.drop 8))
       obtain⟨p2,e5,d4,d7⟩:=jna (T▸jkx (x.drop 16)) (Z▸jkx (x.drop 24))
       obtain⟨p3,d0,d2,e0⟩:=jna c6 d4
       obtain⟨q3,e9,d3⟩:=jur p3 d2
       have e1:=jl8 x zO
       have H:=jl8 (x.drop 8) (by rw[List.length_drop];omega)
       have e3:=jl8 (x.drop 16) (by rw[List.length_drop];omega)
       have e4:=jl8 (x.drop 24) (by rw[List.length_drop];omega)
       rw[S]at e1
       rw[X]at H
       rw[T]at e3
       rw[Z]at e4
       have b8:q3=0→Lib.validD s=Lib.validD (x.drop 32):=by
        intro hz
        rw[e9,d0,Lib.or_mask,c7,e5,Lib.or_mask,Lib.or_mask]at hz
        obtain⟨⟨z0,z1⟩,z2,z3⟩:=hz
        rw[gv,WC zO (by rw[S];exact z0),WC (by rw[List.length_drop];omega) (by rw[X];exact z1),List.drop_drop,
         WC (by rw[List.length_drop];omega) (by rw[T];exact z2),List.drop_drop,WC (by rw[List.length_drop];omega) (by rw[Z];exact z3),List.drop_drop]
       clear S X T Z c7 e5 d0 e9
       obtain⟨x8,g7⟩:∃z,x.drop 8=z:=⟨_,rfl⟩
       obtain⟨h6,e7⟩:∃z,x.drop 16=z:=⟨_,rfl⟩
       obtain⟨h4,d5⟩:∃z,x.drop 24=z:=⟨_,rfl⟩
       obtain⟨f5,f1⟩:∃z,x.drop 32=z:=⟨_,rfl⟩
       rw[g7]at f7 H
       rw[e7]at b5 e3
       rw[d5]at b7 e4
       rw[f1]at b0 d9 b8
       simp[g0,f0]
       refine X5 e1 zS rfl rfl ?_
       simp[f7,g0]
       refine X5 H zS rfl rfl ?_
       simp[b5,g8,g0]
       refine X5 e3 zS rfl rfl ?_
       simp[b7,g0]
       refine X5 e4 zS rfl rfl ?_
       by_cases P:q3=0
       ·simp[d7,e0,d3,P,b0,g0]
        exact⟨f5.length,zO,f5,rfl,rfl,b8 P,zO⟩
       ·simp[d7,e0,d3,beq0,P,g0]
        exact⟨x.length,zO,x,rfl,rfl,gv,zO⟩
      ·simp[g0,f0]
       exact⟨x.length,zO,x,rfl,rfl,gv,zO⟩
     ·simp[oo,f8,beq0,M]
      exact⟨u.length,zO,u,rfl,rfl,U,zO⟩
    ·simp[c8]
     exact⟨u.length,zO,u,rfl,rfl,U,zO⟩
   ·simp[aq,beq0,c3]
    exact⟨t.length,zO,t,rfl,rfl,c4,zO⟩
  ·simp[m,O,i0,hb,d1,h8]
   exact⟨t.length,zO,t,rfl,rfl,c4,zO⟩
 ·have a:=Lib.validD_lead l (by rw[J];simp) (by rw[Q];omega)
  rw[Q]at a
  rw[← hv]at a
  obtain⟨x,hx⟩:∃x,Lib.firstT b.toNat=x:=⟨_,rfl⟩
  have N:x<256:=hx▸jye _
  have e6:=jyg b.toNat b.toNat_lt
  have g5:Yr 256 1 (.eptr utf8first 0) (.int .u8 (b.toNat:Int))=some (.eptr utf8first b.toNat):=by
   simp only[Yr]
   rw[if_pos zO]
   simp
  have a7:=j0u x N
  have s4:=j0t x N
  obtain⟨y,hy⟩:∃y,x / 16=y:=⟨_,rfl⟩
  obtain⟨j,g9⟩:∃y,x % 8=y:=⟨_,rfl⟩
  have d6:y<16:=zO
  have g6:Yr 16 2 (.eptr accR 0) (.int .u8 (y:Int))=some (.eptr accR (y*2)):=by
   simp only[Yr]
   rw[if_pos zO]
   simp
  have ld2:∀ob,Ws ob (some 2) (.eptr accR (y*2))=some (.agg [.int .u8 (Lib.accLo y:Nat),.int .u8 (Lib.accHi y:Nat)]):=fun ob=>by
   rw[jbu,QB,acc_at y d6,if_pos (by show y*2+2≤32;omega)]
  have cv:XV .i64 (.int .u8 (j:Int))=some (.int .i64 (j:Int)):=by simp only[XV];rw[jm zO zO]
  rw[hx]at a e6
  rw[g9]at a7 a
  rw[hy]at s4 a
  have B:1<l.length→_:=fun h=>Xu (s:=l) (i:=1) (x:=1) .i64 h rfl
  have L:2<l.length→_:=fun h=>Xu (s:=l) (i:=2) (x:=2) .i64 h rfl
  have i3:3<l.length→_:=fun h=>Xu (s:=l) (i:=3) (x:=3) .i64 h rfl
  generalize (l.getD 1 0).toNat=b1 at *
  generalize (l.getD 2 0).toNat=b2 at *
  generalize (l.getD 3 0).toNat=b3 at *
  generalize Lib.accLo y=lo at *
  generalize Lib.accHi y=p at *
  simp[m,O,i0,hb,j3i,g5,e6,a7,cv,s4,j3h,g6,ld2,objCells,fb,fr,j2]
  by_cases F:j=2
  ·by_cases D:(l.length:Int)<2
   ·have c:Lib.checkN l.length b1 b2 b3 j lo p=none:=by unfold Lib.checkN;simp[F];omega
    rw[c]at a
    simp[F,m,D]
    exact j1 (by simp[G]) (by simp[a]) rfl
   have B:=B zO
   by_cases I:(b1:Int)<lo
   ·have c:Lib.checkN l.length b1 b2 b3 j lo p=none:=by unfold Lib.checkN;simp[F];omega
    rw[c]at a
    simp[F,m,objCells,D,B,I]
    exact j1 (by simp[G]) (by simp[a]) rfl
   by_cases K:(p:Int)<b1
   ·have c:Lib.checkN l.length b1 b2 b3 j lo p=none:=by unfold Lib.checkN;simp[F];omega
    rw[c]at a
    simp[F,m,objCells,D,B,I,K]
    exact j1 (by simp[G]) (by simp[a]) rfl
   have c:Lib.checkN l.length b1 b2 b3 j lo p=some 2:=by unfold Lib.checkN;simp[F];omega
   rw[c]at a
   have dd:XW (some (.int .i64 2)) none (.str l)=some (.str (l.drop 2)):=JR (k:=2) rfl zO
   simp[F,m,objCells,D,B,I,K,dd]
   exact⟨(l.drop 2).length,by rw[List.length_drop];omega,l.drop 2,zS,rfl,a,by rw[List.length_drop];omega⟩
  by_cases g:j=3
  ·by_cases D:(l.length:Int)<3
   ·have c:Lib.checkN l.length b1 b2 b3 j lo p=none:=by unfold Lib.checkN;simp[g];omega
    rw[c]at a
    simp[g,m,D]
    exact j1 (by simp[G]) (by simp[a]) rfl
   have B:=B zO
   have L:=L zO
   by_cases I:(b1:Int)<lo
   ·have c:Lib.checkN l.length b1 b2 b3 j lo p=none:=by unfold Lib.checkN;simp[g];omega
    rw[c]at a
    simp[g,m,objCells,D,B,I]
    exact j1 (by simp[G]) (by simp[a]) rfl
   by_cases K:(p:Int)<b1
   ·have c:Lib.checkN l.length b1 b2 b3 j lo p=none:=by unfold Lib.checkN;simp[g];omega
    rw[c]at a
    simp[g,m,objCells,D,B,I,K]
    exact j1 (by simp[G]) (by simp[a]) rfl
   by_cases H:(b2:Int)<128
   ·have c:Lib.checkN l.length b1 b2 b3 j lo p=none:=by unfold Lib.checkN;simp[g];omega
    rw[c]at a
    simp[g,m,objCells,D,B,L,I,K,H]
    exact j1 (by simp[G]) (by simp[a]) rfl
   by_cases f2:191<(b2:Int)
   ·have c:Lib.checkN l.length b1 b2 b3 j lo p=none:=by unfold Lib.checkN;simp[g];omega
    rw[c]at a
    simp[g,m,objCells,D,B,L,I,K,H,f2]
    exact j1 (by simp[G]) (by simp[a]) rfl
   have c:Lib.checkN l.length b1 b2 b3 j lo p=some 3:=by unfold Lib.checkN;simp[g];omega
   rw[c]at a
   have dd:XW (some (.int .i64 3)) none (.str l)=some (.str (l.drop 3)):=JR (k:=3) rfl zO
   simp[g,m,objCells,D,B,L,I,K,H,f2,dd]
   exact⟨(l.drop 3).length,by rw[List.length_drop];omega,l.drop 3,zS,rfl,a,by rw[List.length_drop];omega⟩
  by_cases e:j=4
  ·by_cases D:(l.length:Int)<4
   ·have c:Lib.checkN l.length b1 b2 b3 j lo p=none:=by unfold Lib.checkN;simp[e];omega
    rw[c]at a
    simp[e,m,D]
    exact j1 (by simp[G]) (by simp[a]) rfl
   have B:=B zO
   have L:=L zO
   have i3:=i3 zO
   by_cases I:(b1:Int)<lo
   ·have c:Lib.checkN l.length b1 b2 b3 j lo p=none:=by unfold Lib.checkN;simp[e];omega
    rw[c]at a
    simp[e,m,objCells,D,B,I]
    exact j1 (by simp[G]) (by simp[a]) rfl
   by_cases K:(p:Int)<b1
   ·have c:Lib.checkN l.length b1 b2 b3 j lo p=none:=by unfold Lib.checkN;simp[e];omega
    rw[c]at a
    simp[e,m,objCells,D,B,I,K]
    exact j1 (by simp[G]) (by simp[a]) rfl
   by_cases H:(b2:Int)<128
   ·have c:Lib.checkN l.length b1 b2 b3 j lo p=none:=by unfold Lib.checkN;simp[e];omega
    rw[c]at a
    simp[e,m,objCells,D,B,L,I,K,H]
    exact j1 (by simp[G]) (by simp[a]) rfl
   by_cases f2:191<(b2:Int)
   ·have c:Lib.checkN l.length b1 b2 b3 j lo p=none:=by unfold Lib.checkN;simp[e];omega
    rw[c]at a
    simp[e,m,objCells,D,B,L,I,K,H,f2]
    exact j1 (by simp[G]) (by simp[a]) rfl
   by_cases e3:(b3:Int)<128
   ·have c:Lib.checkN l.length b1 b2 b3 j lo p=none:=by unfold Lib.checkN;simp[e];omega
    rw[c]at a
    simp[e,m,objCells,D,B,L,i3,I,K,H,f2,e3]
    exact j1 (by simp[G]) (by simp[a]) rfl
   by_cases f3:191<(b3:Int)
   ·have c:Lib.checkN l.length b1 b2 b3 j lo p=none:=by unfold Lib.checkN;simp[e];omega
    rw[c]at a
    simp[e,m,objCells,D,B,L,i3,I,K,H,f2,e3,f3]
    exact j1 (by simp[G]) (by simp[a]) rfl
   have c:Lib.checkN l.length b1 b2 b3 j lo p=some 4:=by unfold Lib.checkN;simp[e];omega
   rw[c]at a
   have dd:XW (some (.int .i64 4)) none (.str l)=some (.str (l.drop 4)):=JR (k:=4) rfl zO
   simp[e,m,objCells,D,B,L,i3,I,K,H,f2,e3,f3,dd]
   exact⟨(l.drop 4).length,by rw[List.length_drop];omega,l.drop 4,zS,rfl,a,by rw[List.length_drop];omega⟩
  have c:Lib.checkN l.length b1 b2 b3 j lo p=none:=by unfold Lib.checkN;simp[F,g,e]
  rw[c]at a
  have z2:((j:Int) == 2)=false:=by simp;omega
  have z3:((j:Int) == 3)=false:=by simp;omega
  have z4:((j:Int) == 4)=false:=by simp;omega
  simp[z2,z3,z4]
  exact j1 (by simp[G]) (by simp[a]) rfl
def QZ:Nat→List Int→Bool
 | n,[]=>decide (0<n) && decide (n≤20)
 | n,c::l=>if !jbp c || (decide (n=0) && W8 c) then false else QZ (n+1) l
theorem jf9:∀ (l:List Int) (n:Nat),0<n→QZ n l=(l.all jbp && decide (n+l.length≤20))
 | [],n,h=>by simp[QZ,h]
 | c::l,n,h=>by
  have b:¬ n=0:=zO
  rw[QZ,jf9 l (n+1) zO]
  cases a:jbp c
  ·simp[a]
  ·simp only[a,b,decide_false,Bool.false_and,Bool.or_false,Bool.not_true,Bool.false_eq_true,if_false,List.all_cons,Bool.true_and,List.length_cons]
   congr 2
   exact propext ⟨fun h=>by omega,fun h=>by omega⟩
theorem jw1 (l:List Int):QZ 0 l=nmOk l:=by
 cases l with
 | nil=>rfl
 | cons c l=>
  rw[QZ,jf9 l 1 zO]
  unfold nmOk jep
  have e:decide (1+l.length≤20)=decide (l.length+1≤20):=by rw[Nat.add_comm]
  cases b:jbp c <;> cases a:W8 c <;> simp[b,a,e]
  rw[Bool.and_comm]
theorem j2h {E:Env}{Yf:YF}{st:St}{ub:Nat}{K:St→Nat→Prop}{d:Option Nat}{nm:Bool}{x:A}{l u pos:Nat}{s:List UInt8}(e:eval E st.tm x=.iter l u) (c:st.ob l=some ⟨u,.siter s pos⟩) (a:st.ro≤u)
 (b:pos<s.length→WZ K st d ub { v:=.tup [.bool true,.int .i64 pos,.int .i32 (rU s pos:Nat)],obs:=[(l,⟨u,.siter s (pos+rW s pos)⟩)] })
 (f:¬ pos<s.length→Qr K st d ub (.tup [.bool false])):j6 E Yf ⟨d,.nextStr x,none,nm⟩ st ub K:=jpr e c a b f
theorem ev229 (s:List UInt8) (t:s.length≤1000000):Ev E 229 [.str s] (.bool (jhn s)):=by
 refine jQ (af:=F229) rfl ?_
 simp[F229]
 refine jO (ev264 s) zS rfl rfl ?_
 unfold jhn
 cases b1:j1k s
 case true=>
  simp
  exact j1 rfl zS rfl
 simp
 refine jO (ev265 s t) zS rfl rfl ?_
 cases b2:Lib.validD s
 case false=>
  simp
  exact j1 rfl zS rfl
 simp
 rw[← jw1]
 refine Yb (n:=s.length) [(2,3),(5,5),(15,30)] (fun k h=>∃p n u,k=s.length - p∧p≤s.length∧n≤p∧h.tm 3=.int .i64 (n:Nat)∧h.tm 14=.iter 28 u∧h.ob 28=some ⟨u,.siter s p⟩∧QZ 0 (JB s)=QZ n (RN s p)) rfl rfl
  ⟨0,0,640,by simp[jds]⟩ ?_
 rintro k h ⟨p,n,u,rfl,z,y,j,i,v,a⟩ f
 have q:h.df=[]:=by rw[f.d];simp
 have B:h.fb=0:=by rw[f.b];simp
 have fr:h.ro=0:=by rw[f.r];simp
 clear f
 simp
 refine j2h (l:=28) (u:=u) (pos:=p) (s:=s) (by simp[i]) (by simp[v]) (by simp[fr]) (fun m=>?_) (fun w=>?_)
 ·have D:=ji6 m
  rw[juu m,QZ]at a
  obtain⟨c,x⟩:∃c:Int,(rU s p:Int)=c:=⟨_,rfl⟩
  rw[x]at a ⊢
  simp
  refine jO (ev266 c) zS rfl rfl ?_
  cases g:jbp c
  ·rw[g]at a
   simp
   exact j1 (by simp[q]) (by simp[a]) rfl
  ·by_cases e:n=0
   ·subst e
    simp[j]
    refine jO (ev267 c) zS rfl rfl ?_
    cases o:W8 c
    ·simp[j,i,o,g]at a ⊢
     exact⟨s.length - (p+rW s p),zO,p+rW s p,rfl,zO,1,zO,zD,rfl,a⟩
    ·simp[o,g]at a ⊢
     exact j1 (by simp[q]) (by simp[a]) rfl
   ·simp[j,i,g,beq0,e]at a ⊢
    exact⟨s.length - (p+rW s p),zO,p+rW s p,rfl,zO,n+1,zO,by rw[jm zO zO];simp,rfl,a⟩
 ·have:p=s.length:=zO
  subst this
  rw[j0h zR,QZ]at a
  by_cases e:0<n
  ·simp[j,e]at a ⊢
   exact j1 (by simp[q]) (by simp[a];omega) rfl
  ·simp[j,e]at a ⊢
   exact j1 (by simp[q]) (by simp[a]) rfl
theorem ev212 (nl:Bool) (t:List (List UInt8)) (N:t.length≤1000000) (z:∀s∈t,s.length≤1000000):Ev E 212 [slOf nl Jk t] (.bool (jux t)):=by
 refine jQ (af:=F212) rfl ?_
 simp[F212]
 refine j8 [(2,4),(7,29)] t.length (fun i s=>s.tm 7=.int .i64 i∧∀j,j<t.length→j<i→jpi t j=true) rfl rfl ⟨zS,fun j _ h=>by omega⟩ ?_
 rintro i s O ⟨u,D⟩ f
 have M:s.tm 0=slOf nl Jk t:=by rw[f.t 0 zS];simp
 have L:s.tm 5=slOf nl Jk t:=by rw[f.t 5 zS];simp
 have B:s.tm 6=.int .i64 t.length:=by rw[f.t 6 zS];simp
 have w:s.df=[]:=by rw[f.d];simp
 clear f
 by_cases b:i<t.length
 ·have J:=jb b zO
  have a:jpi t i=(jhn t[i] && (i == 0 || jhq (t.getD (i - 1) []) t[i])):=by unfold jpi;rw[Jv b]
  have n:=z _ (List.getElem_mem b)
  obtain⟨c,K⟩:∃c,t[i]=c:=⟨_,rfl⟩
  have o:=jfn t b
  rw[K]at a o n
  have jb8:jpi t i=true→∀j,j<t.length→j<i+1→jpi t j=true:=fun h j m v=>by
   rcases Nat.lt_succ_iff_lt_or_eq.1 v with h'|rfl
   ·exact D j m h'
   ·exact h
  simp[u,L,B,b,j5 Y9,o]
  refine jO (ev229 c n) zS rfl rfl ?_
  cases q:jhn c
  ·rw[q]at a
   simp
   exact j1 (by simp[w]) (by simp[jms b a]) rfl
  ·rw[q]at a
   by_cases F:i=0
   ·subst F
    simp[u]
    exact⟨b,zD,fun j m h=>by subst h;exact jb8 (by simp[a]) 0 m zO⟩
   ·have p:0<i:=zO
    have x:=j4x p zO
    have k:i - 1<t.length:=zO
    have y:=z _ (List.getElem_mem k)
    have r:=jfn t k
    rw[Jv k]at a
    obtain⟨e,I⟩:∃e,t[i - 1]=e:=⟨_,rfl⟩
    rw[I]at a r y
    have G:=YB e
    have H:=YB c
    simp[M,p,x,k,j5 Y9,r]
    refine jO (ev251 e c zO zO) zS rfl rfl ?_
    cases l:jhq e c
    ·have g:=l
     unfold jhq at g
     rw[g]
     simp
     exact j1 (by simp[w]) (by simp[jms b (by simp[a,l,F])]) rfl
    ·have g:=l
     unfold jhq at g
     rw[g]
     simp[u,J]
     exact⟨b,jb8 (by simp[a,l])⟩
 ·have:i=t.length:=zO
  subst this
  simp[u,B]
  exact j1 (by simp[w]) (by simp[jzc (fun j m=>D j m m)]) rfl
def Fr1 (n:Nat) (ob ob':ZO):Prop:=∀key,(∀m,n≤m→key≠2*m+1)→ob' key=ob key
theorem jf1 (h:Hist') (hn:h.ts.length≤1000) (z:∀t∈h.ts,t.ops.length≤1000000) {asg bd:C}{ps:List Nat}(O:ps.length=2) (N:asg.one=true) (L:bd.one=true) {st:St}{f:A}{lh uh:Nat}
 (hf:eval E st.tm f=.fn (.func 215) [] [.ptr lh uh 0]) (oh:st.ob lh=some ⟨uh,.cells (histC h)⟩) (I:lh≠2*st.nx+1) (F:lh≠2*st.nx+3) (G:st.ro=0)
 (J:Nat→Nat→(ZO)→(Nat→Bool)→Nat→Prop) {Q:Ex→St→Prop}
 (d:∀i k ob c tk ub o,J i k ob tk ub→ub≤o→Fr1 st.nx ob c→J i k c tk o)
 (q:∀i (hi:i<h.ts.length) ob tk ub,J i (h.ts[i]).ops.length ob tk ub→J (i+1) 0 ob tk ub)
 (p:∀i (hi:i<h.ts.length) k (b:k<(h.ts[i]).ops.length) ob tk ub,J i k ob tk ub→ob (2*st.nx+1)=some ⟨st.nx,.loop .ready none⟩→ob (2*st.nx+3)=some ⟨st.nx+1,.dfr⟩→st.nx+64≤ub →
  wpC E Y0 asg { tm:=jdo st.tm ps [.agg [.int .i64 i,.int .i64 k],.agg (opC (h.ts[i]).ops[k])],ob:=ob,tk:=tk,ro:=0,nx:=ub,fb:=st.fb,df:=[] } fun e B=>e=.nrm∧B.ob (2*st.nx+1)=some ⟨st.nx,.loop .ready none⟩ ∧
   wpC E Y0 bd { B with ob:=upd B.ob (2*st.nx+1) (some ⟨st.nx,.loop .busy none⟩) } fun e n=>n.ob (2*st.nx+1)=some ⟨st.nx,.loop .busy none⟩∧n.ob (2*st.nx+3)=some ⟨st.nx+1,.dfr⟩∧st.nx+64≤n.nx∧e=.nrm∧J i (k+1) n.ob n.tk n.nx)
 (h0:J 0 0 st.ob st.tk (st.nx+64))
 (hQ:∀ob tk ub,J h.ts.length 0 ob tk ub→ob (2*st.nx+3)=some ⟨st.nx+1,.dfr⟩→st.nx+64≤ub→Q .nrm { st with ob:=ob,tk:=tk,nx:=ub,df:=(2*st.nx+3,st.nx+1)::st.df }) :
 wpC E Y0 (.rangeFunc f ps asg bd) st Q:=by
 refine WB (g:=215) (first:=[]) (captured:=[.ptr lh uh 0]) hf ?_
 have w:¬ 2*st.nx+3=2*st.nx+1:=zO
 have a0:¬ 2*st.nx+1=2*st.nx+3:=zO
 have:=jzi (Yf:=jfv E Y0 asg bd st ps (2*st.nx+1) st.nx) h hn z (l:=2*st.nx+1) (u:=st.nx) (lh:=lh) (uh:=uh)
  (ob0:=upd (upd st.ob (2*st.nx+3) (some ⟨st.nx+1,.dfr⟩)) (2*st.nx+1) (some ⟨st.nx,.loop .ready none⟩)) (tk0:=st.tk) (ro:=st.ro) (base:=(st.fb+1023)*1024) (ub0:=st.nx+64)
  (by simp only[j3,I,F,if_false,oh]) zO
  (fun i k ob tk ub=>J i k ob tk ub∧ob (2*st.nx+1)=some ⟨st.nx,.loop .ready none⟩∧ob (2*st.nx+3)=some ⟨st.nx+1,.dfr⟩∧st.nx+64≤ub)
  (fun r=>∃s j,r.2.1 (2*st.nx+1)=some ⟨st.nx,.loop s j⟩∧s≠.busy∧st.ro≤st.nx∧Q (j.getD .nrm) { st with ob:=fun k=>if Nat.beq (2*st.nx+1) k then none else r.2.1 k,tk:=r.2.2.1,nx:=r.2.2.2,df:=(2*st.nx+3,st.nx+1)::st.df })
  ?_ ?_ ?_ ?_ ?_
 ·obtain⟨r,M,X⟩:=this
  exact⟨r,M,X⟩
 ·rintro i k ob c tk ub o ⟨v,x,y,D⟩ K H
  have f:∀a,(∀m,ub≤m→a≠2*m+1)→c a=ob a:=H
  exact⟨d _ _ _ _ _ _ _ v K (fun a b=>f a (fun m z=>b m zO)),by rw[f _ (fun m z=>by omega)];exact x,by rw[f _ (fun m z=>by omega)];exact y,zO⟩
 ·rintro i hi ob tk ub ⟨v,g⟩
  exact⟨q i hi ob tk ub v,g⟩
 ·rintro i hi k b ob tk ub ⟨v,x,y,D⟩ b0
  have hb:=p i hi k b ob tk ub v x y D
  have:=jfb (E:=E) (Yf:=Y0) (asg:=asg) (bd:=bd) (st:=st) (ps:=ps) (l:=2*st.nx+1) (u:=st.nx) (xs:=[.agg [.int .i64 i,.int .i64 k],.agg (opC (h.ts[i]).ops[k])]) (ob:=ob) (tk:=tk) (ro:=st.ro) (ub:=ub)
   (P:=fun r=>st.ro≤r.2.2.2∧r.1=.bool true∧J i (k+1) r.2.1 r.2.2.1 r.2.2.2∧r.2.1 (2*st.nx+1)=some ⟨st.nx,.loop .ready none⟩∧r.2.1 (2*st.nx+3)=some ⟨st.nx+1,.dfr⟩∧st.nx+64≤r.2.2.2)
   (by simp[O]) zO x N L (by
    rw[G]
    refine X0 (fun e B T=>?_) hb
    obtain⟨e1,e2,e3⟩:=T
    refine⟨e1,e2,X0 (fun e n h2=>?_) e3⟩
    obtain⟨k1,k2,k3,U,k5⟩:=h2
    subst U
    refine⟨k1,zO,rfl,?_,?_,?_,k3⟩
    ·exact d _ _ _ _ _ _ _ k5 zR (fun a b=>J9 _ _ (b st.nx zR))
    ·exact Yc _ _ _
    ·show upd n.ob _ _ _=_
     rw[J9 _ _ w];exact k2)
  obtain⟨r,M,p1,Z,p3,p4,p5,p6⟩:=this
  exact⟨r,M,p1,.inl ⟨Z,p3,p4,p5,p6⟩⟩
 ·rintro ob tk ub ⟨v,x,y,D⟩
  refine⟨.ready,none,x,zS,zO,?_⟩
  have S:Fr1 st.nx ob (fun k=>if Nat.beq (2*st.nx+1) k then none else ob k):=fun a b=>j0f ob (b st.nx zR)
  exact hQ _ _ _ (d _ _ _ _ _ _ _ v zR S) ((j0f ob w).trans y) D
 ·refine⟨d _ _ _ _ _ _ _ h0 zR (fun a b=>?_),Yc _ _ _,?_,zO⟩
  ·have h3:=b (st.nx+1) zO
   rw[J9 _ _ (b st.nx zR),J9 _ _ zO]
  ·rw[J9 _ _ w,Yc]
@[simp] theorem cells_map (l u:Nat):(V.map l u).cells=[.map l u]:=rfl
@[simp] theorem leaf_map (l u:Nat):(V.map l u).leaf=true:=rfl
@[simp] theorem j0d:V.nilmap.cells=[.nilmap]:=rfl
@[simp] theorem j18:V.nilmap.leaf=true:=rfl
def Y7 (h:Hist'):Bool:=jux h.ss && (jux h.ks && (decide (h.ss.length≤20) && (decide (h.ks.length≤40) && decide (h.ts.length≤40))))
structure Small (h:Hist'):Prop where
 ss:h.ss.length≤1000
 sl:∀s∈h.ss,s.length≤1000
 ks:h.ks.length≤1000
 kl:∀s∈h.ks,s.length≤1000
 ts:h.ts.length≤1000
 os:∀t∈h.ts,t.ops.length≤1000
theorem ev152 {h:Hist'}(a:Small h):Ev E 152 [.agg (histC h)] (.bool (Y7 h)):=by
 refine jQ (af:=F152) rfl ?_
 have c:=ev212 h.sn h.ss (by have:=a.ss;omega) (fun s h=>by have:=a.sl s h;omega)
 have b:=ev212 h.kn h.ks (by have:=a.ks;omega) (fun s h=>by have:=a.kl s h;omega)
 simp[F152,histC,objCells]
 refine jO c zS rfl rfl ?_
 unfold Y7
 cases b1:jux h.ss
 ·simp
  exact j1 rfl zS rfl
 simp[objCells]
 refine jO b zS rfl rfl ?_
 cases b2:jux h.ks
 ·simp
  exact j1 rfl zS rfl
 by_cases b3:(h.ss.length:Int)≤20
 ·by_cases b4:(h.ks.length:Int)≤40
  ·simp[objCells,b3,b4]
   exact j1 rfl (by simp[show h.ss.length≤20 by omega,show h.ks.length≤40 by omega];omega) rfl
  ·simp[objCells,b3,b4]
   exact j1 rfl (by simp;omega) rfl
 ·simp[objCells,b3]
  exact j1 rfl (by simp;omega) rfl
def usesS (h:Hist'):List Int:=h.ts.map (·.s)
def usesK (h:Hist'):List Int:=(jcw h).map (·.key)
def jop (h:Hist'):Bool:=decide ((dd (usesS h)).length=h.ss.length) && decide ((dd (usesK h)).length=h.ks.length)
def jd7 (h:Hist') (i k:Nat):List Op':=(h.ts.take i).flatMap (·.ops)++(h.ts.getD i ⟨0,0,true,[]⟩).ops.take k
theorem jpc {h:Hist'}{i k:Nat}(hi:i<h.ts.length) (a:k<(h.ts[i]).ops.length):jd7 h i (k+1)=jd7 h i k++[(h.ts[i]).ops[k]]:=by
 unfold jd7
 rw[Jv hi,List.take_succ_eq_append_getElem a,List.append_assoc]
theorem jpd {h:Hist'}{i:Nat}(hi:i<h.ts.length):jd7 h i (h.ts[i]).ops.length=jd7 h (i+1) 0:=by
 unfold jd7
 rw[Jv hi,List.take_length,List.take_zero,List.append_nil,List.take_succ_eq_append_getElem hi,List.flatMap_append]
 simp
theorem jr1 (h:Hist'):jd7 h h.ts.length 0=jcw h:=by simp[jd7,jcw]
theorem jpb (h:Hist'):jd7 h 0 0=[]:=by simp[jd7]
theorem Wz {res:List ARes}{st:St}{l u:Nat}{v:V}(a:st.df=[(l,u)]) (c:st.ob l=some ⟨u,.dfr⟩) (e:st.ro≤u)
 (h:ja8 res (.ret,{ st with ob:=fun k=>if Nat.beq l k then none else st.ob k,df:=[] })=some v):ja8 res (.ret,st)=some v:=by
 have b:j0b st=true:=by
  unfold j0b
  rw[a]
  simp only[List.all_cons,List.all_nil,c,Bool.and_true,List.map_cons,List.map_nil,nodup,List.any_nil,Bool.not_false,Bool.and_eq_true,Nat.beq_refl,true_and]
  exact Nat.ble_eq▸e
 have d:st.noDf = { st with ob:=fun k=>if Nat.beq l k then none else st.ob k,df:=[] }:=by
  unfold St.noDf
  rw[a]
  simp
 simp only[ja8,b,d,if_true]
 simp only[ja8]at h
 rw[YU rfl,YN rfl]at h
 exact h
theorem ev158 {h:Hist'}(hs:Small h):Ev E 158 [.agg (histC h)] (.bool (jop h)):=by
 refine jQ (af:=F158) rfl ?_
 have b6:=hs.ts
 simp[F158,histC,objCells,j2]
 refine j8 [(6,6),(15,23),(14,14)] h.ts.length (fun i s=>s.tm 14=.int .i64 i∧s.ob 2=some ⟨0,.cells (histC h)⟩∧s.ob 8=some ⟨256,.cells [.map 20 192]⟩∧s.ob 20=some ⟨192,.mp 0 []⟩ ∧
  ∃ver m,s.ob 18=some ⟨128,.mp ver (MP jx8 m)⟩∧m.map (·.1)=dd ((h.ts.take i).map (·.s))) rfl rfl ⟨zS,by simp[histC],zS,zS,0,[],by simp[MP],by simp[dd]⟩ ?_
 rintro i s Q ⟨B,X,o8,G,ver,m,z,T⟩ f
 have b5:s.tm 12=slOf h.tn jn h.ts:=by rw[f.t 12 zS];simp
 have M:s.tm 13=.int .i64 h.ts.length:=by rw[f.t 13 zS];simp
 have f1:s.tm 1=.ptr 2 0 0:=by rw[f.t 1 zS];simp
 have f3:s.tm 3=.map 18 128:=by rw[f.t 3 zS];simp
 have f4:s.tm 4=.ptr 8 256 0:=by rw[f.t 4 zS];simp
 have fd:s.df=[]:=by rw[f.d];simp
 have fb:s.fb=0:=by rw[f.b];simp
 have fr:s.ro=0:=by rw[f.r];simp
 clear f
 by_cases v:i<h.ts.length
 ·have hw:=jb v zO
  simp[B,b5,M,v,j5 j7,ja j7,jn,objCells,fb,fr,j2,f3,jgh m,jg,z]
  refine jaz (f:=jx8) (a:=IntKind.i64.wrap (j4o m h.ts[i].s+1)) (ver:=ver) (l:=18) (u:=128) (k:=h.ts[i].s) m zS zS (by simp[jx8]) (by simp[z]) (by simp[fr]) ?_
  simp[B,hw,X,o8,G,histC]
  refine⟨v,ver+1,jib m h.ts[i].s (IntKind.i64.wrap (j4o m h.ts[i].s+1)),zS,?_⟩
  rw[jjp,T,← List.map_take,List.take_succ_eq_append_getElem v,List.map_append]
  exact(jud _ _).symm
 ·have:i=h.ts.length:=zO
  subst this
  rw[List.take_length]at T
  simp[B,M]
  simp[f1,X,objCells,histC]
  refine ja1 (vs:=[.agg (histC h)]) (by simp[histC]) rfl ?_
  obtain⟨r,hr,e1,D,e3,e4⟩:=j3k (Yf:=Y0) h s.ob s.tk 0 (26*1024) (s.nx+64+64)
  refine⟨r,by simpa[fr,fb] using hr,?_⟩
  simp
  refine jY fun e c=>?_
  have n2:¬ (2:Nat)=2*(s.nx+64+64)+1:=zO
  have n8:¬ (8:Nat)=2*(s.nx+64+64)+1:=zO
  have c0:¬ (18:Nat)=2*(s.nx+64+64)+1:=zO
  have b0:¬ (20:Nat)=2*(s.nx+64+64)+1:=zO
  have a0:e.tm 25=.fn (.func 215) [] [.ptr (2*(s.nx+64+64)+1) (s.nx+64+64) 0]:=by rw[c];simp[put,e1]
  have g1:e.tm 1=.ptr 2 0 0:=by rw[c];simp[put,j3,f1]
  have g3:e.tm 3=.map 18 128:=by rw[c];simp[put,j3,f3]
  have g4:e.tm 4=.ptr 8 256 0:=by rw[c];simp[put,j3,f4]
  have gd:e.df=[]:=by rw[c];simp[fd]
  have gb:e.fb=0:=by rw[c];simp[fb]
  have gr:e.ro=0:=by rw[c];simp[fr]
  have gn:e.nx=s.nx+64+64+256:=by rw[c];simp[e4]
  have p2:e.ob 2=some ⟨0,.cells (histC h)⟩:=by rw[c];simp only[JA];rw[D,if_neg n2];exact X
  have p8:e.ob 8=some ⟨256,.cells [.map 20 192]⟩:=by rw[c];simp only[JA];rw[D,if_neg n8];exact o8
  have U:e.ob 18=some ⟨128,.mp ver (MP jx8 m)⟩:=by rw[c];simp only[JA];rw[D,if_neg c0];exact z
  have Z:e.ob 20=some ⟨192,.mp 0 []⟩:=by rw[c];simp only[JA];rw[D,if_neg b0];exact G
  have pl:e.ob (2*(s.nx+64+64)+1)=some ⟨s.nx+64+64,.cells (histC h)⟩:=by rw[c];simp only[JA];rw[D,if_pos rfl]
  clear c e1 D e3 e4 hr
  refine jf1 h b6 (fun t ht=>by have:=hs.os t ht;omega) rfl rfl rfl (by simpa using a0) pl zO zO gr
   (fun i k ob P N=>ob 2=some ⟨0,.cells (histC h)⟩∧ob 8=some ⟨256,.cells [.map 20 192]⟩∧ob 18=some ⟨128,.mp ver (MP jx8 m)⟩∧∃I p,ob 20=some ⟨192,.mp I (MP jx8 p)⟩∧p.map (·.1)=dd ((jd7 h i k).map (·.key)))
   ?_ ?_ ?_ ?_ ?_
  ·rintro i k ob c3 P N c2 ⟨x,w,n,y,p,j,H⟩ J q
   exact⟨(q 2 (fun m _=>by omega)).trans x,(q 8 (fun m _=>by omega)).trans w,(q 18 (fun m _=>by omega)).trans n,y,p,(q 20 (fun m _=>by omega)).trans j,H⟩
  ·rintro i Q ob P N ⟨x,w,n,y,p,j,H⟩
   exact⟨x,w,n,y,p,j,by rw[H,jpd Q]⟩
  ·rintro i Q k H ob P N ⟨x,w,n,y,p,j,g⟩ w1 O J
   have r1:¬ 2*e.nx+1=16:=zO
   have r3:¬ 2*e.nx+3=16:=zO
   have c4:¬ 2*e.nx+3=2*e.nx+1:=zO
   have K:¬ 2*e.nx+1=20:=zO
   have F:¬ 2*e.nx+3=20:=zO
   have b7:¬ 16=2*e.nx+1:=zO
   have b8:¬ 8=2*e.nx+1:=zO
   have L:¬ 20=2*e.nx+1:=zO
   have b2:¬ 2=2*e.nx+1:=zO
   have b9:¬ 18=2*e.nx+1:=zO
   simp[jdo,j3,opC,objCells,gb,j2,g4,r1,w1,b7,b8,w,jgh p,jg,L,j]
   obtain⟨o,ho⟩:∃o,(h.ts[i]).ops[k]=o:=⟨_,rfl⟩
   rw[ho]
   refine jaz (f:=jx8) (a:=IntKind.i64.wrap (j4o p o.key+1)) (ver:=y) (l:=20) (u:=192) (k:=o.key) p zS zS (by simp[jx8]) (by simp[j3,L,j]) zS ?_
   simp[j3,K,F,r3,b2,b8,b9,x,w,n,O]
   refine⟨zO,y+1,jib p o.key (IntKind.i64.wrap (j4o p o.key+1)),zS,?_⟩
   rw[jjp,g,jpc Q H,List.map_append,ho]
   exact(jud _ _).symm
  ·exact⟨p2,p8,U,0,[],Z,by rw[jpb];rfl⟩
  ·rintro ob P N ⟨x,w,n,y,p,j,g⟩ O J
   rw[jr1]at g
   have l1:m.length=(dd (usesS h)).length:=by rw[← List.length_map (f:=(·.1)),T];rfl
   have l2:p.length=(dd (usesK h)).length:=by rw[← List.length_map (f:=(·.1)),g];rfl
   simp[g3,g1,jg,n,x,objCells,histC,l1]
   unfold jop
   by_cases c1:(dd (usesS h)).length=h.ss.length
   ·simp[c1,g4,g1,w,x,jg,j,objCells,histC,l2]
    refine Wz (l:=2*e.nx+3) (u:=e.nx+1) (by simp[gd]) (by simp[O]) (by simp[gr]) (j1 rfl ?_ rfl)
    simp
    rw[Bool.eq_iff_iff];simp;omega
   ·have S:(((dd (usesS h)).length:Int) == (h.ss.length:Int))=false:=by simp;omega
    simp[S]
    refine Wz (l:=2*e.nx+3) (u:=e.nx+1) (by simp[gd]) (by simp[O]) (by simp[gr]) (j1 rfl ?_ rfl)
    simp[c1]
def W2 (h:Hist'):Bool:=Y7 h && (h.ts.all (jcz h) && ((jcw h).all (opB h) && jop h))
def errH (h:Hist'):Int:=if W2 h then 0 else 4
theorem j34 {b:Type}(p:b→Bool) (l:List b):(l.any fun t=>!p t) = !(l.all p):=by
 induction l with
 | nil=>rfl
 | cons a l c=>simp[c]
theorem jp3 {h:Hist'}(s:Small h):Ev E 103 [.agg (histC h)] (.int .i64 (errH h)):=by
 refine jQ (af:=F103) rfl ?_
 have w:=s.ts
 have H:∀t∈h.ts,t.ops.length≤1000000:=fun t Z=>by have:=s.os t Z;omega
 have j:=ev152 s
 have k:=ev158 s
 obtain⟨R,G⟩:∃R,errH h=R:=⟨_,rfl⟩
 have a:R=if Y7 h && (h.ts.all (jcz h) && ((jcw h).all (opB h) && jop h)) then 0 else 4:=G.symm
 rw[G]
 clear G
 simp[F103,histC,objCells]
 refine jO j (by simp[histC]) rfl (by simp[histC]) ?_
 cases b1:Y7 h
 ·rw[b1]at a
  simp at a
  subst a
  simp[objCells,j2]
  exact jz rfl (l:=[.int .i64 4]) (by simp[jl,objCells]) rfl rfl
 rw[b1]at a
 simp[objCells]
 refine jh (vs:=[slOf h.tn jn h.ts,.fn (.func 154) [] [.ptr 2 0 0]]) zS rfl rfl (ev153 (p:=fun t=>!jcz h t) rfl (fun t M o K=>ev154 (h:=h) ⟨rfl,by simp[histC]⟩ t M o K) h.tn h.ts zO _ _ _) ?_
 rw[j34]
 cases b2:h.ts.all (jcz h)
 ·rw[b2]at a
  replace a:R=4:=a
  subst a
  simp[objCells,j2]
  exact jz rfl (l:=[.int .i64 4]) (by simp[jl,objCells]) rfl rfl
 rw[b2]at a
 simp[objCells]
 refine ja1 (vs:=[.agg (histC h)]) (by simp[histC]) rfl ?_
 obtain⟨r,J,N,v,e3,y⟩:=j3k (Yf:=Y0) h _ _ 0 _ _
 refine⟨r,J,?_⟩
 simp
 refine jY fun d b=>?_
 obtain⟨U,F⟩:∃U,d.nx=U:=⟨_,rfl⟩
 obtain⟨m,hm,B,x,P,Q,O⟩:∃m,m % 64=0∧m<U∧d.tm 15=.fn (.func 215) [] [.ptr (2*m+1) m 0]∧d.ob 2=some ⟨0,.cells (histC h)⟩∧d.ob 4=some ⟨64,.cells [.int .i64 0]⟩∧d.ob (2*m+1)=some ⟨m,.cells (histC h)⟩:=by
  refine⟨_,?_,?_,by rw[b];simp only[jk5,put,Yc];exact N,?_,?_,?_⟩
  ·decide
  ·rw[← F,b,jg6,y];omega
  ·rw[b];simp only[JA];rw[v];simp[histC]
  ·rw[b];simp only[JA];rw[v];simp
  ·rw[b];simp only[JA];rw[v];simp
 have L:d.tm 1=.ptr 2 0 0:=by rw[b];simp[put,j3]
 have g:d.tm 2=.ptr 4 64 0:=by rw[b];simp[put,j3]
 have z:d.df=[]:=by rw[b];simp
 have gb:d.fb=0:=by rw[b];simp
 have q:d.ro=0:=by rw[b];simp
 have n:64≤U:=by rw[← F,b,jg6,y];omega
 clear b N v e3 y J
 refine j1n h w H U F n x ⟨m,rfl,B⟩ L g q gb P Q O ?_
 intro e ob M K c S D I T f
 rcases f with⟨b3,rfl,rfl⟩|⟨b3,rfl,rfl⟩
 ·rw[b3]at a
  simp[L,objCells,S,histC]
  refine jO k (by simp[histC]) rfl (by simp[histC]) ?_
  have i:¬ 2*U+3=4:=zO
  have X:¬ 4=2*U+3:=zO
  cases b4:jop h
  ·rw[b4]at a
   replace a:R=4:=a
   subst a
   simp[objCells,g,D,q,j2]
   refine Wz (l:=2*U+3) (u:=U+1) (by simp[z]) (by simp[I,i]) zS (QK rfl (l:=[.int .i64 4]) ?_ rfl)
   simp[jl,objCells,g,i]
  ·rw[b4]at a
   replace a:R=0:=a
   subst a
   simp[objCells,g,D,q,j2]
   refine Wz (l:=2*U+3) (u:=U+1) (by simp[z]) (by simp[I,i]) zS (QK rfl (l:=[.int .i64 0]) ?_ rfl)
   simp[jl,objCells,g,i]
 ·rw[b3]at a
  replace a:R=4:=a
  subst a
  have i:¬ 2*U+3=4:=zO
  have X:¬ 4=2*U+3:=zO
  simp
  refine Wz (l:=2*U+3) (u:=U+1) (by simp[z]) (by simp[I]) (by simp[q]) (QK rfl (l:=[.int .i64 4]) ?_ rfl)
  simp[jl,objCells,g,i,D]
def marks (bs:List Bool) (ks:List Int):List Bool:=ks.foldl (fun b k=>b.set k.toNat true) bs
theorem Xs (ks:List Int):∀a:List Bool,(marks a ks).length=a.length:=by
 induction ks with
 | nil=>intro a;rfl
 | cons k ks b=>intro a;exact(b _).trans List.length_set
theorem jgd (bs:List Bool) (ks:List Int) (k:Int):marks bs (ks++[k])=(marks bs ks).set k.toNat true:=by simp[marks]
theorem jsv (bs:List Bool) (a b:List Int):marks bs (a++b)=marks (marks bs a) b:=by simp[marks]
theorem jfo (bs:List Bool) (k:Nat) (h:k<bs.length):j2 (bs.map V.bool) k [.bool true]=(bs.set k true).map V.bool:=by
 unfold j2
 rw[List.map_set,List.set_eq_take_append_cons_drop,if_pos (by simpa using h)]
 simp
def YZ (h:Hist') (t:Txn'):Bool:=jcz h t && t.ops.all (opB h)
theorem jhw {l u n:Nat}{kk:IntKind}{x:Int}(b:0≤x) (a:x<n):JP 1 (.osl l u 0 n 1) (.int kk x)=some (.ptr l u x.toNat):=by
 simp[JP,b,a]
theorem jif {n:Int}{l:Nat}(a:¬ n<0) (b:¬ (l:Int)≤n):YH n l=true:=by unfold YH;simp;omega
theorem jih {n:Int}{l:Nat}(a:n<0):YH n l=false:=by unfold YH;simp;omega
theorem jig {n:Int}{l:Nat}(a:(l:Int)≤n):YH n l=false:=by unfold YH;simp;omega
theorem ev111 {Yf:YF}{h:Hist'}{t:Txn'}(ht:t.ops.length≤1000000) {ob:ZO}{tk:Nat→Bool}{ro base ub l u:Nat}{bs:List Bool}(U:bs.length=h.ks.length) (ho:ob l=some ⟨u,.cells (bs.map V.bool)⟩) (Q:ro≤u) (b8:ro≤ub)
 (Z:∀m,ub≤m→l≠2*m+1) :
 ∃r,EvS E Yf.y 111 [.agg (histC h),.agg (jn t),.osl l u 0 h.ks.length 1] ob tk ro base ub r∧r.1=.bool (YZ h t)∧(YZ h t=true →
  r.2.1 l=some ⟨u,.cells ((marks bs (t.ops.map (·.key))).map V.bool)⟩∧(∀a,a≠l→(∀m,ub≤m→a≠2*m+1)→r.2.1 a=ob a)∧r.2.2.1=tk∧ub≤r.2.2.2):=by
 refine Jn (af:=S111) rfl zD ?_
 show wpC E Yf S111.body _ (XT S111.res _)
 have n3:¬ 2*(ub+64)=2*ub:=zO
 have O:¬ 2*ub=2*(ub+64):=zO
 have c:∀ {e:Ex}{s:St},e=.ret→s.df=[]→s.tm 6=.bool false→YZ h t=false→XT S111.res (fun r=>r.1=.bool (YZ h t)∧(YZ h t=true →
  r.2.1 l=some ⟨u,.cells ((marks bs (t.ops.map (·.key))).map V.bool)⟩∧(∀a,a≠l→(∀m,ub≤m→a≠2*m+1)→r.2.1 a=ob a)∧r.2.2.1=tk∧ub≤r.2.2.2)) e s:=by
  intro e s he hd h6 hg
  subst he
  refine⟨(.bool false,s.ob,s.tk,s.nx),?_,by rw[hg],fun h=>by rw[hg]at h;cases h⟩
  simp[endS,hd,S111,jl,h6]
 generalize hP:(fun r:V × (ZO) × (Nat→Bool) × Nat=>r.1=.bool (YZ h t)∧(YZ h t=true →
  r.2.1 l=some ⟨u,.cells ((marks bs (t.ops.map (·.key))).map V.bool)⟩∧(∀a,a≠l→(∀m,ub≤m→a≠2*m+1)→r.2.1 a=ob a)∧r.2.2.1=tk∧ub≤r.2.2.2))=P at c ⊢
 have gf:∀ {b:Bool},jcz h t=b→b=false→YZ h t=false:=fun H q=>by unfold YZ;rw[H,q];rfl
 simp[S111,histC,jn,objCells]
 by_cases G:t.s<0
 ·simp[G]
  exact c rfl zS zS (gf (b:=false) (by unfold jcz;rw[jih G];rfl) rfl)
 by_cases M:(h.ss.length:Int)≤t.s
 ·simp[G,M,objCells,O]
  exact c rfl zS zS (gf (b:=false) (by unfold jcz;rw[jig M];rfl) rfl)
 by_cases f1:t.f<1
 ·simp[G,M,f1,objCells,O]
  exact c rfl zS zS (gf (b:=false) (by unfold jcz;simp;omega) rfl)
 by_cases N:3<t.f
 ·simp[G,M,f1,N,objCells,O]
  exact c rfl zS zS (gf (b:=false) (by unfold jcz;simp;omega) rfl)
 by_cases l1:20<(t.ops.length:Int)
 ·simp[G,M,f1,N,l1,objCells,O]
  exact c rfl zS zS (gf (b:=false) (by unfold jcz;simp;omega) rfl)
 have b6:jcz h t=true:=by unfold jcz;rw[jif G M];simp;omega
 simp[G,M,f1,N,l1,objCells,O]
 refine j8 [(6,8),(36,78)] t.ops.length (fun i s=>s.tm 7=.int .i64 i∧s.ob (2*ub+1)=some ⟨ub,.cells (histC h)⟩∧s.ob (2*(ub+64)+1)=some ⟨ub+64,.cells (jn t)⟩ ∧
  s.ob l=some ⟨u,.cells ((marks bs ((t.ops.take i).map (·.key))).map V.bool)⟩∧(∀a,a≠l→(∀m,ub≤m→a≠2*m+1)→s.ob a=ob a)∧s.tk=tk∧ub+128≤s.nx∧(t.ops.take i).all (opB h)=true) rfl rfl ?_ ?_
 ·refine⟨zS,by simp[O,histC],by simp[jn],?_,?_,?_,?_,zS⟩
  ·have e1:=Z ub zO
   have e2:=Z (ub+64) zO
   simp[e1,e2,ho,marks]
  ·intro a _ hm
   have e1:=hm ub zO
   have e2:=hm (ub+64) zO
   simp[e1,e2]
  ·simp[JG]
  ·simp
 ·rintro i s hi ⟨h7,oa,x,ol,J,I,b9,p⟩ f
  have N:s.tm 2=.osl l u 0 h.ks.length 1:=by rw[f.t 2 zS];simp
  have f3:s.tm 3=.ptr (2*ub+1) ub 0:=by rw[f.t 3 zS];simp
  have f4:s.tm 4=.ptr (2*(ub+64)+1) (ub+64) 0:=by rw[f.t 4 zS];simp
  have T:s.df=[]:=by rw[f.d];simp
  have fr:s.ro=ro:=by rw[f.r];simp
  clear f
  by_cases g:i<t.ops.length
  ·have hw:=jb g zO
   have x1:¬ 2*ub=2*(s.nx+64+64+64+64+64+64+64+64+64+64):=zO
   have x2:¬ 2*(ub+64)=2*(s.nx+64+64+64+64+64+64+64+64+64+64):=zO
   have x3:¬ l=2*(s.nx+64+64+64+64+64+64+64+64+64+64)+1:=Z _ zO
   have b7:¬ 2*(s.nx+64+64+64+64+64+64+64+64+64+64)+1=l:=fun e=>x3 e.symm
   have x4:¬ 2*ub+1=l:=fun e=>Z ub zO e.symm
   have x5:¬ 2*(ub+64)+1=l:=fun e=>Z (ub+64) zO e.symm
   have x6:ro≤s.nx+64+64+64+64+64+64+64+64+64+64:=zO
   obtain⟨o,B⟩:∃o,t.ops[i]=o:=⟨_,rfl⟩
   have c0:=ja jH s.ob t.ops g
   have D:opB h o=false→YZ h t=false:=fun hb=>by
    unfold YZ
    rw[jmg g (by rw[B];exact hb),Bool.and_false]
   simp[h7,f4,x,objCells,jn,g,j5 jH,ja jH,B,opC,j2,fr,x6]
   by_cases k1:o.key<0
   ·simp[k1]
    exact c rfl (by simp[T]) zS (D (by unfold opB;rw[jih k1];rfl))
   by_cases k2:(h.ks.length:Int)≤o.key
   ·simp[k1,k2,f3,oa,objCells,x1,histC]
    exact c rfl (by simp[T]) zS (D (by unfold opB;rw[jig k2];rfl))
   have z:=jif k1 k2
   simp[k1,k2,f3,oa,objCells,x1,histC]
   refine jO (ev174 o.v) (by simp[jv]) rfl (by simp[jv]) ?_
   cases k3:joo o.v
   ·simp
    exact c rfl (by simp[T]) zS (D (by unfold opB;rw[z,k3];rfl))
   have b0:0≤o.key:=zO
   have b5:o.key<(h.ks.length:Int):=zO
   have S:=jhw (l:=l) (u:=u) (n:=h.ks.length) (kk:=.i64) b0 b5
   have a0:=jfo (marks bs ((t.ops.take i).map (·.key))) o.key.toNat (by rw[Xs,U];omega)
   have X:(marks bs ((t.ops.take i).map (·.key))).length=h.ks.length:=by rw[Xs,U]
   have k:marks bs ((t.ops.take (i+1)).map (·.key))=(marks bs ((t.ops.take i).map (·.key))).set o.key.toNat true:=by
    rw[List.take_succ_eq_append_getElem g,List.map_append,B]
    exact jgd _ _ _
   have F:o.key.toNat+1≤h.ks.length:=zO
   have j:opB h o=true→(t.ops.take (i+1)).all (opB h)=true:=fun hb=>by
    rw[List.take_succ_eq_append_getElem g,List.all_append,p,B]
    simp[hb]
   generalize marks bs ((t.ops.take i).map (·.key))=mk at *
   cases k4:o.w
   ·have L:opB h o=true:=by unfold opB;rw[z,k3,k4];rfl
    simp[objCells,x1,x2,x3,N,S,ol,Q,X,F,a0,fr,h7,hw]
    refine⟨g,?_,?_,?_,?_,I,?_,?_⟩
    ·rw[if_neg x4,oa];rfl
    ·rw[if_neg x5,x];rfl
    ·rw[← List.map_take,k,List.map_set]
    ·intro a H q
     rw[if_neg H,if_neg (q _ zO),if_neg (q _ zO)]
     exact J a H q
    ·omega
    ·have:=j L
     rw[List.all_eq_true]at this
     exact this
   ·cases k5:(o.v.kind == 1)
    ·have K:(o.v.kind != 1)=true:=by simpa using k5
     simp[objCells,K]
     exact c rfl (by simp[T]) zS (D (by unfold opB;rw[z,k3,k4,k5];rfl))
    ·have K:(o.v.kind != 1)=false:=by simpa using k5
     have L:opB h o=true:=by unfold opB;rw[z,k3,k4,k5];rfl
     simp[objCells,x1,x2,x3,N,S,ol,Q,X,F,a0,fr,h7,hw,K]
     refine⟨g,?_,?_,?_,?_,I,?_,?_⟩
     ·rw[if_neg x4,oa];rfl
     ·rw[if_neg x5,x];rfl
     ·rw[← List.map_take,k,List.map_set]
     ·intro a H q
      rw[if_neg H,if_neg (q _ zO),if_neg (q _ zO)]
      exact J a H q
     ·omega
     ·have:=j L
      rw[List.all_eq_true]at this
      exact this
  ·have:i=t.ops.length:=zO
   subst this
   rw[List.take_length]at p ol
   have hg:YZ h t=true:=by unfold YZ;rw[b6,p];rfl
   simp[h7,f4,x,objCells,jn]
   refine⟨(.bool true,s.ob,s.tk,s.nx+64+64+64+64+64+64),?_,?_⟩
   ·simp[endS,jl,T]
   ·rw[← hP]
    exact⟨by rw[hg],fun _=>⟨ol,J,I,by show ub≤_;simp;omega⟩⟩
theorem jtm {E:Env}{st:St}{ub:Nat}{K:List FP→St→Prop}{d:Option Nat}{nm:Bool}{r:List AOpr}{sz a n:Nat}{zero:List V}{x y:A}(f:eval E st.tm x=.int .i64 (n:Int)) (e:eval E st.tm y=.int .i64 (n:Int)) (c:n*a≤140737488355328) (i:n≤140737488355328) (b:zero.length=sz) (g:0<sz)
 (h:Wt E r K (eval E st.tm) (.mkSl true sz a zero x y) st d ub { v:=.osl (jG d nm st.fb ub) ub 0 n sz,obs:=[(jG d nm st.fb ub,⟨ub,.cells (QX n zero)⟩)] }):jE E (⟨d,.mkSl true sz a zero x y,none,nm⟩::r) st ub K:=by
 rw[Jo rfl]
 simp only[aop,f,e]
 rw[if_pos (by refine⟨zO,zO,?_,zO,b,g⟩;rw[← Int.natCast_mul];exact Int.ofNat_le.2 c)]
 simp only[Bool.not_true,Bool.false_eq_true,false_and,if_false,Jg,jK,Jq,Int.toNat_natCast]
 exact h
theorem jfy (n:Nat):QX n [.bool false]=(List.replicate n false).map V.bool:=by
 unfold QX
 apply List.ext_getElem
 ·simp
 ·intro i a b
  simp[List.getD,Nat.mod_one]
theorem jjt (ks:List Int):∀ (bs:List Bool) (j:Nat) (a:j<bs.length),(∀k∈ks,0≤k)→(marks bs ks)[j]? = some (bs[j] || ks.any fun k=>k == (j:Int)):=by
 induction ks with
 | nil=>intro bs j a _;simp[marks,a]
 | cons k ks c=>
  intro bs j a h
  have f:=h k zS
  have:=c (bs.set k.toNat true) j (by simpa using a) (fun x d=>h x (by simp[d]))
  show(marks (bs.set k.toNat true) ks)[j]? = _
  rw[this,List.getElem_set,List.any_cons]
  by_cases b:k.toNat=j
  ·have:k=(j:Int):=zO
   simp[this]
  ·have:¬ k=(j:Int):=zO
   have e:(k == (j:Int))=false:=by simpa using this
   rw[if_neg b,e,Bool.false_or]
theorem jju {ks:List Int}{n:Nat}(h:∀k∈ks,0≤k∧k<n):(marks (List.replicate n false) ks).all id=decide ((dd ks).length=n):=by
 have i:=(jzl n (dd ks) (jw0 ks) (fun x b=>h x (mem_dd.1 b))).2
 rw[Bool.eq_iff_iff,List.all_eq_true,decide_eq_true_eq,i]
 constructor
 ·intro a k g
  have f:k<(marks (List.replicate n false) ks).length:=by rw[Xs];simpa using g
  have:=a _ (List.getElem_mem f)
  have c:=jjt ks (List.replicate n false) k (by simpa using g) (fun x b=>(h x b).1)
  rw[List.getElem?_eq_getElem f,Option.some.injEq]at c
  rw[c]at this
  simp at this
  exact mem_dd.2 this
 ·intro a x b
  obtain⟨j,e,rfl⟩:=List.getElem_of_mem b
  have d:j<n:=by rw[Xs]at e;simpa using e
  have c:=jjt ks (List.replicate n false) j (by simpa using d) (fun x b=>(h x b).1)
  rw[List.getElem?_eq_getElem e,Option.some.injEq]at c
  rw[c]
  have:=mem_dd.1 (a j d)
  simp
  exact this
theorem jj4 (h:Hist'):h.ts.all (YZ h)=(h.ts.all (jcz h) && (jcw h).all (opB h)):=by
 unfold jcw
 induction h.ts with
 | nil=>rfl
 | cons t l a=>
  simp only[List.all_cons,List.flatMap_cons,List.all_append,a,YZ]
  cases jcz h t <;> cases t.ops.all (opB h) <;> cases l.all (jcz h) <;> simp
theorem within_iff {n:Int}{l:Nat}:YH n l=true ↔ 0≤n∧n<l:=by unfold YH;simp
theorem jw6 {h:Hist'}(d:Y7 h=true) (a:h.ts.all (YZ h)=true):W2 h=((marks (List.replicate h.ks.length false) (usesK h)).all id && (marks (List.replicate h.ss.length false) (usesS h)).all id):=by
 rw[jj4,Bool.and_eq_true]at a
 have e:∀k∈usesS h,0≤k∧k<h.ss.length:=by
  intro k b
  obtain⟨t,c,rfl⟩:=List.mem_map.1 b
  have:=List.all_eq_true.1 a.1 t c
  unfold jcz at this
  rw[Bool.and_eq_true]at this
  exact within_iff.1 this.1
 have f:∀k∈usesK h,0≤k∧k<h.ks.length:=by
  intro k b
  obtain⟨t,c,rfl⟩:=List.mem_map.1 b
  have:=List.all_eq_true.1 a.2 t c
  unfold opB at this
  rw[Bool.and_eq_true]at this
  exact within_iff.1 this.1
 rw[jju e,jju f]
 unfold W2 jop
 rw[d,a.1,a.2]
 simp only[Bool.true_and]
 rw[Bool.and_comm]
theorem j3m {h:Hist'}(a:Y7 h=false):errH h=4:=by unfold errH W2;rw[a];rfl
theorem j3l {h:Hist'}(a:h.ts.all (YZ h)=false):errH h=4:=by
 unfold errH W2
 rw[jj4]at a
 rw[← Bool.and_assoc (h.ts.all (jcz h)),a]
 simp
def jfc (l:List Bool):Bool:=l.all id
theorem joc:jfc []=true:=rfl
theorem jkl {l:List Bool}{j:Nat}(h:j<l.length):jfc (l.take (j+1))=(jfc (l.take j) && l[j]):=by
 unfold jfc;rw[List.take_succ_eq_append_getElem h,List.all_append];simp
theorem ev58 {h:Hist'}(P:Small h):Ev E 58 [.agg (histC h)] (.int .i64 (errH h)):=by
 refine jQ (af:=F58) rfl ?_
 have d2:=P.ts
 have d1:=P.ks
 have d3:=P.ss
 have e1:=ev110 h.sn h.ss zO (fun s hx=>by have:=P.sl s hx;omega)
 have e2:=ev110 h.kn h.ks zO (fun s hx=>by have:=P.kl s hx;omega)
 obtain⟨R,hR⟩:∃R,errH h=R:=⟨_,rfl⟩
 have y:Y7 h=false→R=4:=fun S=>hR▸j3m S
 have X:h.ts.all (YZ h)=false→R=4:=fun S=>hR▸j3l S
 rw[hR]
 simp[F58,histC,objCells]
 refine jO e1 zS rfl rfl ?_
 cases b1:jux h.ss
 ·rw[y (by unfold Y7;rw[b1];rfl)]
  simp
  exact j1 rfl zS rfl
 simp[objCells]
 refine jO e2 zS rfl rfl ?_
 cases b2:jux h.ks
 ·rw[y (by unfold Y7;rw[b1,b2];rfl)]
  simp
  exact j1 rfl zS rfl
 by_cases c1:20<(h.ss.length:Int)
 ·rw[y (by unfold Y7;simp;omega)]
  simp[objCells,c1]
  exact j1 rfl zS rfl
 by_cases c2:40<(h.ks.length:Int)
 ·rw[y (by unfold Y7;simp;omega)]
  simp[objCells,c1,c2]
  exact j1 rfl zS rfl
 by_cases c3:40<(h.ts.length:Int)
 ·rw[y (by unfold Y7;simp;omega)]
  simp[objCells,c1,c2,c3]
  exact j1 rfl zS rfl
 have S:Y7 h=true:=by unfold Y7;rw[b1,b2];simp;omega
 simp[objCells,c1,c2,c3]
 refine jtm (n:=h.ks.length) zS zS zO zO rfl zD ?_
 simp[objCells]
 refine jtm (n:=h.ss.length) zS zS zO zO rfl zD ?_
 simp[jfy]
 refine⟨by simp[Jw,QR,Qv,jbf,rdOb,rdTk,lOf,Delta.wo,Delta.wt];decide,?_⟩
 refine jY fun w a=>?_
 have g1:w.tm 1=.ptr 1 0 0:=by rw[a];simp
 have g3:w.tm 3=.osl 4225 2112 0 h.ks.length 1:=by rw[a];simp
 have g4:w.tm 4=.osl 4737 2368 0 h.ss.length 1:=by rw[a];simp
 have g5:w.tm 5=.int .i64 0:=by rw[a];simp
 have p1:w.ob 1=some ⟨0,.cells (histC h)⟩:=by rw[a];simp[histC]
 have pk:w.ob 4225=some ⟨2112,.cells ((List.replicate h.ks.length false).map V.bool)⟩:=by rw[a];simp
 have ps:w.ob 4737=some ⟨2368,.cells ((List.replicate h.ss.length false).map V.bool)⟩:=by rw[a];simp
 have gd:w.df=[]:=by rw[a];simp
 have gb:w.fb=0:=by rw[a];simp
 have gr:w.ro=0:=by rw[a];simp
 have gn:2400≤w.nx:=by rw[a];simp
 clear a
 generalize hB:List.replicate h.ks.length false=B at *
 generalize hC:List.replicate h.ss.length false=D at *
 have U:B.length=h.ks.length:=by rw[← hB];simp
 have b5:D.length=h.ss.length:=by rw[← hC];simp
 refine j8 [(2,2),(5,5),(45,68)] h.ts.length (fun i s=>s.tm 5=.int .i64 i∧s.ob 1=some ⟨0,.cells (histC h)⟩∧s.ob 4225=some ⟨2112,.cells ((marks B ((h.ts.take i).flatMap fun t=>t.ops.map (·.key))).map V.bool)⟩ ∧
  s.ob 4737=some ⟨2368,.cells ((marks D ((h.ts.take i).map (·.s))).map V.bool)⟩∧2400≤s.nx∧(h.ts.take i).all (YZ h)=true) rfl rfl ⟨by simp[g5],p1,by simp[pk,marks],by simp[ps,marks],gn,zS⟩ ?_
 rintro i s hi ⟨h5,o1,ok,os,e,z⟩ f
 have f1:s.tm 1=.ptr 1 0 0:=by rw[f.t 1 zS,g1]
 have f3:s.tm 3=.osl 4225 2112 0 h.ks.length 1:=by rw[f.t 3 zS,g3]
 have f4:s.tm 4=.osl 4737 2368 0 h.ss.length 1:=by rw[f.t 4 zS,g4]
 have fd:s.df=[]:=by rw[f.d,gd]
 have fb:s.fb=0:=by rw[f.b,gb]
 have fr:s.ro=0:=by rw[f.r,gr]
 clear f
 by_cases c:i<h.ts.length
 ·have K:=jb c zO
  obtain⟨t,J⟩:∃t,h.ts[i]=t:=⟨_,rfl⟩
  have c9:t∈h.ts:=J▸List.getElem_mem c
  have d4:=P.os t c9
  have b7:=ja j7 s.ob h.ts c
  rw[J]at b7
  simp[h5,f1,o1,objCells,histC,c,j5 j7,ja j7,J,f3]
  refine ja1 (vs:=[.agg (histC h),.agg (jn t),.osl 4225 2112 0 h.ks.length 1]) (by simp[histC]) rfl ?_
  simp[fr,fb]
  have a0:(marks B ((h.ts.take i).flatMap fun t=>t.ops.map (·.key))).length=h.ks.length:=by rw[Xs,U]
  have L:(marks D ((h.ts.take i).map (·.s))).length=h.ss.length:=by rw[Xs,b5]
  obtain⟨⟨v,c7,c6,b8⟩,hr,hv,hg⟩:=ev111 (Yf:=Y0) (h:=h) (t:=t) zO (ob:=s.ob) (tk:=s.tk) (ro:=0) (base:=61440) (ub:=s.nx+64+64+64+64+64+64+64+64+64+64+64+64) (l:=4225) (u:=2112) a0 ok zO zO (fun m hm=>by omega)
  refine⟨v,c7,c6,b8,hr,?_⟩
  simp only at hv hg
  subst hv
  cases o:YZ h t
  ·rw[X (jmg c (by rw[J];exact o))]
   simp[put]
   exact j1 (by simp[fd]) zS rfl
  ·obtain⟨q1,q2,q3,q4⟩:=hg o
   have c5:=(q2 1 zD (fun m hm=>by omega)).trans o1
   have qs:=(q2 4737 zD (fun m hm=>by omega)).trans os
   have N:jcz h t=true:=by unfold YZ at o;rw[Bool.and_eq_true]at o;exact o.1
   have b6:0≤t.s∧t.s<h.ss.length:=by unfold jcz at N;rw[Bool.and_eq_true]at N;exact within_iff.1 N.1
   have q:=jhw (l:=4737) (u:=2368) (n:=h.ss.length) (kk:=.i64) b6.1 b6.2
   have d0:=jfo (marks D ((h.ts.take i).map (·.s))) t.s.toNat (by rw[L];omega)
   have c8:(h.ts.flatMap jn)[i*3]? = some (.int .i64 t.s):=by
    have:=jR j7 h.ts c (by decide:0<3)
    rw[Nat.add_zero,J]at this
    rw[this];rfl
   have c4:marks B ((h.ts.take (i+1)).flatMap fun t=>t.ops.map (·.key))=marks (marks B ((h.ts.take i).flatMap fun t=>t.ops.map (·.key))) (t.ops.map (·.key)):=by
    rw[List.take_succ_eq_append_getElem c,List.flatMap_append,jsv,J];simp
   have b9:marks D ((h.ts.take (i+1)).map (·.s))=(marks D ((h.ts.take i).map (·.s))).set t.s.toNat true:=by
    rw[List.take_succ_eq_append_getElem c,List.map_append,J];exact jgd _ _ _
   have T:(h.ts.take (i+1)).all (YZ h)=true:=by
    rw[List.take_succ_eq_append_getElem c,List.all_append,z,J];simp[o]
   rw[← c4]at q1
   have Z:t.s.toNat+1≤h.ss.length:=zO
   obtain⟨mk,b0⟩:∃m,marks B ((h.ts.take (i+1)).flatMap fun t=>t.ops.map (·.key))=m:=⟨_,rfl⟩
   rw[b0]at q1
   generalize marks D ((h.ts.take i).map (·.s))=md at *
   simp[put,j3,f1,f4,h5,c5,objCells,histC,c,j5 j7,c8,q,qs,L,d0,K,q1,Z]
   refine⟨by rw[b0],by rw[← List.map_take,b9,List.map_set],zO,?_⟩
   rw[List.all_eq_true]at T
   exact T
 ·have:i=h.ts.length:=zO
  subst this
  rw[List.take_length]at z ok os
  have F:=jw6 S z
  have hK:(h.ts.flatMap fun t=>t.ops.map (·.key))=usesK h:=by unfold usesK jcw;rw[List.map_flatMap]
  have hS:h.ts.map (·.s)=usesS h:=rfl
  rw[hK]at ok
  rw[hS]at os
  rw[hB,hC]at F
  have a0:(marks B (usesK h)).length=h.ks.length:=by rw[Xs,U]
  have L:(marks D (usesS h)).length=h.ss.length:=by rw[Xs,b5]
  have H:R=if jfc (marks B (usesK h)) && jfc (marks D (usesS h)) then 0 else 4:=by rw[← hR,errH,F];rfl
  clear F hR
  generalize marks B (usesK h)=mk at *
  generalize marks D (usesS h)=md at *
  simp[h5,f1,o1,objCells,histC]
  refine j8 [(6,7),(69,81)] h.ks.length (fun i O=>O.tm 7=.int .i64 i∧O.ob=s.ob∧O.tm 6=.bool (jfc (mk.take i))) rfl rfl ⟨zS,zS,by simp[joc]⟩ ?_
  rintro j s1 hj ⟨k7,ko,Q⟩ f
  have m3:s1.tm 3=.osl 4225 2112 0 h.ks.length 1:=by rw[f.t 3 zS];simp[f3]
  have m4:s1.tm 4=.osl 4737 2368 0 h.ss.length 1:=by rw[f.t 4 zS];simp[f4]
  have c0:s1.df=[]:=by rw[f.d];simp[fd]
  clear f
  by_cases g:j<h.ks.length
  ·have K:=jb g zO
   have p:j<mk.length:=zO
   have q:=jhw (l:=4225) (u:=2112) (n:=h.ks.length) (kk:=.i64) (x:=(j:Int)) zO zO
   have e:jfc (mk.take (j+1))=(jfc (mk.take j) && mk[j]):=jkl p
   cases G:jfc (mk.take j)
   ·rw[G]at Q e
    simp[k7,m3,g,Q,K,ko]
    rw[e];rfl
   ·rw[G]at Q e
    simp[k7,m3,g,Q,K,ko,q,objCells,ok,p]
    rw[e];rfl
  ·have:j=h.ks.length:=zO
   subst this
   have M:mk.take h.ks.length=mk:=List.take_of_length_le zO
   rw[M]at Q
   simp[k7,m3]
   refine j8 [(6,6),(8,8),(82,94)] h.ss.length (fun i O=>O.tm 8=.int .i64 i∧O.ob=s.ob∧O.tm 6=.bool (jfc mk && jfc (md.take i))) rfl rfl ⟨zS,by simp[ko],by simp[Q,joc]⟩ ?_
   rintro j s2 hj ⟨z8,zo,I⟩ f
   have y4:s2.tm 4=.osl 4737 2368 0 h.ss.length 1:=by rw[f.t 4 zS];simp[m4]
   have yd:s2.df=[]:=by rw[f.d];simp[c0]
   clear f
   by_cases g:j<h.ss.length
   ·have K:=jb g zO
    have p:j<md.length:=zO
    have q:=jhw (l:=4737) (u:=2368) (n:=h.ss.length) (kk:=.i64) (x:=(j:Int)) zO zO
    have e:jfc (md.take (j+1))=(jfc (md.take j) && md[j]):=jkl p
    cases G:(jfc mk && jfc (md.take j))
    ·have k:(jfc mk && jfc (md.take (j+1)))=false:=by rw[e,← Bool.and_assoc,G];rfl
     rw[G]at I
     simp[z8,y4,g,I,K,zo]
     intro hm;rw[hm]at k;exact k
    ·have k:(jfc mk && jfc (md.take (j+1)))=md[j]:=by rw[e,← Bool.and_assoc,G];rfl
     rw[G]at I
     simp[z8,y4,g,I,K,zo,q,objCells,os,p]
     exact k.symm
   ·have:j=h.ss.length:=zO
    subst this
    have M:md.take h.ss.length=md:=List.take_of_length_le zO
    rw[M]at I
    cases G:(jfc mk && jfc md)
    ·rw[G]at I H
     simp[z8,y4,I]
     exact j1 (by simp[yd]) (by simp[H]) rfl
    ·rw[G]at I H
     simp[z8,y4,I]
     exact j1 (by simp[yd]) (by simp[H]) rfl
section
variable {E:Env}{Yf:YF}{st:St}{ub:Nat}{K:St→Nat→Prop}{d:Option Nat}{nm:Bool}
theorem jo {sz n:Nat}{zero:List V}{a:List (Nat × Nat × A)}{cs:List V}(c:fill zero (jt (eval E st.tm) a)=some cs) (b:cs.length=n*sz) (hp:cs.all V.leaf=true)
 (h:WZ K st d ub { v:=.osl (jG d nm st.fb ub) ub 0 n sz,obs:=[(jG d nm st.fb ub,⟨ub,.cells cs⟩)] }):j6 E Yf ⟨d,.buildSl true sz zero a n,none,nm⟩ st ub K:=by
 rw[jP _ rfl rfl]
 simp only[aop,c,Option.bind_some,if_true,Jq]
 rw[if_pos ⟨b,hp⟩,Jg,jK]
 exact h
theorem XE {sz a n:Nat}{cs ys:List V}{s x:A}(e:eval E st.tm s=.sl none true n cs) (g:slCells st.ob sz (eval E st.tm x)=some ys) (c:ys≠[]) (f:0<sz) (hp:ys.all V.leaf=true)
 (i:(ys.length / sz)*a≤140737488355328) (b:ys.length / sz≤140737488355328) (h:WZ K st d ub { v:=.osl (jG d nm st.fb ub) ub 0 (ys.length / sz) sz,obs:=[(jG d nm st.fb ub,⟨ub,.cells ys⟩)] }) :
 j6 E Yf ⟨d,.append true sz a s x,none,nm⟩ st ub K:=by
 rw[jP _ rfl rfl]
 simp only[aop,e,g,Option.bind_some,if_neg c,Bool.and_self,if_true,Jq]
 rw[if_pos ⟨f,hp,i,b⟩,Jg,jK]
 exact h
theorem XN {sz a l u n:Nat}{cs ys:List V}{s x:A}(g:eval E st.tm s=.osl l u 0 n sz) (k:slCells st.ob sz (eval E st.tm x)=some ys) (i:st.ob l=some ⟨u,.cells cs⟩) (e:ys≠[]) (c:st.ro≤u) (m:n*sz≤cs.length) (o:0<sz) (hp:ys.all V.leaf=true)
 (j:(n+ys.length / sz)*a≤140737488355328) (b:n+ys.length / sz≤140737488355328)
 (h:WZ K st d ub { v:=.osl (jG d nm st.fb ub) ub 0 (n+ys.length / sz) sz,obs:=[(jG d nm st.fb ub,⟨ub,.cells (cs.take (n*sz)++ys)⟩)],kill:=[l] }) :
 j6 E Yf ⟨d,.append true sz a s x,none,nm⟩ st ub K:=by
 rw[jP _ rfl rfl]
 have f:objCells st.ob l u=some cs:=by simp[objCells,i]
 simp only[aop,g,k,Option.bind_some,f,if_neg e,Jq]
 rw[if_pos ⟨Nat.ble_eq▸c,trivial,trivial,m,o,hp,j,b⟩,jK]
 exact h
end
@[simp] theorem app_obk (st:St) (d:Option Nat) (v:V) (l k l':Nat) (o':Obj'):(st.app d { v:=v,obs:=[(l,o')],kill:=[l'] }).ob k=if k=l then some o' else if k=l' then none else st.ob k:=by
 have e:(Nat.beq k l')=decide (k=l'):=by rw[Bool.eq_iff_iff];simp
 simp only[St.app,JK,j3,List.any_cons,List.any_nil,Bool.or_false,e,decide_eq_true_eq]
end Go.Pv.T
namespace Go.Pv.T
open Go Go.Pv
end Go.Pv.T
namespace Go.Pv.T
open Go Go.Pv
@[simp] theorem cells_osl (a b c d e:Nat):(V.osl a b c d e).cells=[.osl a b c d e]:=rfl
@[simp] theorem leaf_osl (a b c d e:Nat):(V.osl a b c d e).leaf=true:=rfl
def jcx (st:St) (v:V) (nl:Bool) (n:Nat) (cs:List V):Prop:=∀keep i,∃a,ji st keep i v=some (.sl a nl n cs)∧(a=none∨∃z,a=some (i,z))
theorem WH (st:St) (t:Option (Nat × Nat)) (nl:Bool) (n:Nat) (cs:List V):jcx st (.sl t nl n cs) nl n cs:=by
 intro keep i
 cases t with
 | none=>exact⟨none,rfl,.inl rfl⟩
 | some p=>
  obtain⟨u,z⟩:=p
  refine⟨_,rfl,?_⟩
  split
  ·exact .inr ⟨z,rfl⟩
  ·exact .inl rfl
def jqf (r:V) (g:Hist'):Prop:=∃a b c:Option (Nat × Nat),r=.agg [.sl a g.sn g.ss.length (g.ss.flatMap Jk),.sl b g.kn g.ks.length (g.ks.flatMap Jk),.sl c g.tn g.ts.length (g.ts.flatMap jn)]∧(∀p∈a.toList++b.toList++c.toList,p.1<64)
theorem jgz (a:Option (Nat × Nat)) (nl:Bool) (n:Nat) (cs:List V):(V.sl a nl n cs).tok=a.toList.map (·.1):=by
 cases a with
 | none=>rfl
 | some p=>rfl
theorem tokm {a:Option (Nat × Nat)}{nl:Bool}{n:Nat}{cs:List V}{i:Nat}:i∈(V.sl a nl n cs).tok ↔ ∃p∈a.toList,p.1=i:=by rw[jgz,List.mem_map]
def Grow {α:Type}(tk:Nat→Bool) (lo nx:Nat) (f:α→List V) (sz:Nat) (l:List α) (v:V):Prop :=
 (l=[]∧v=.sl none true 0 [])∨(l≠[]∧∃u,v=.sl (some (u,sz)) false l.length (l.flatMap f)∧tk u=true∧lo≤u∧u<nx)
theorem Grow.nil {a:Type}(tk:Nat→Bool) (lo nx:Nat) (f:a→List V) (sz:Nat):Grow tk lo nx f sz [] (.sl none true 0 []):=.inl ⟨rfl,rfl⟩
theorem Grow.form {c:Type}{tk:Nat→Bool}{lo nx:Nat}{f:c→List V}{sz:Nat}{l:List c}{v:V}(h:Grow tk lo nx f sz l v):∃t,v=.sl t l.isEmpty l.length (l.flatMap f):=by
 rcases h with⟨rfl,rfl⟩|⟨b,u,rfl,_⟩
 ·exact⟨none,rfl⟩
 ·cases l with
  | nil=>exact absurd rfl b
  | cons a l=>exact⟨_,rfl⟩
theorem Grow.mono {c:Type}{tk a:Nat→Bool}{lo nx nx':Nat}{f:c→List V}{sz:Nat}{l:List c}{v:V}(h:Grow tk lo nx f sz l v) (j:∀u,lo≤u→u<nx→tk u=true→a u=true) (m:nx≤nx'):Grow a lo nx' f sz l v:=by
 rcases h with h|⟨b,u,k,g,e,i⟩
 ·exact .inl h
 ·exact .inr ⟨b,u,k,j u e i g,e,zO⟩
section
variable {E:Env}{Yf:YF}{st:St}{ub:Nat}{K:St→Nat→Prop}{d:Option Nat}{nm:Bool}
theorem YE {k:Type}{f:k→List V}{sz b lo hi:Nat}{l:List k}{a:k}{v:V}{s x:A}(t:Grow st.tk lo hi f sz l v) (n:eval E st.tm s=v) (p:slCells st.ob sz (eval E st.tm x)=some (f a)) (j:∀a,(f a).length=sz) (m:0<sz)
 (hp:(f a).all V.pureLeaf=true) (o:(l.length+1)*b≤140737488355328) (i:l.length+1≤140737488355328)
 (h:∀del:Option Nat,(∀u,del=some u→lo≤u∧u<hi)→WZ K st d ub { v:=.sl (some (ub,sz)) false (l.length+1) ((l++[a]).flatMap f),del:=del,add:=[ub] }):j6 E Yf ⟨d,.append false sz b s x,none,nm⟩ st ub K:=by
 have g:f a≠[]:=fun e=>by have:=j a;rw[e]at this;simp at this;omega
 have c:(f a).length / sz=1:=by rw[j];exact Nat.div_self m
 rcases t with⟨rfl,rfl⟩|⟨y,u,rfl,r,w,q⟩
 ·refine jhu n p g m hp (by rw[c];simpa using o) (by rw[c];simp) ?_
  rw[c]
  have:=h none (fun u e=>by cases e)
  simpa using this
 ·refine X4 n r p g (by rw[j4 j]) m hp (by rw[c];exact o) (by rw[c];exact i) ?_
  rw[c]
  have:=h (some u) (fun z e=>by cases e;exact⟨w,q⟩)
  simpa using this
end
theorem jit {b:Type}{f:b→List V}{k:Nat}(c:∀a,(f a).length=k) (ob:ZO) (nl:Bool) (l:List b):slCells ob k (slOf nl f l)=some (l.flatMap f):=by
 simp only[slOf,slCells,j4 c,if_true]
def ja2 (res:List ARes) (P:V→Prop):Ex→St→Prop:=fun e s=>∃r,ja8 res (e,s)=some r∧P r
theorem XF {f:FuncId}{af:AF}{args:List V}{P:V→Prop}(e:E.fc f=some af) (b:af.body.one=true) (h:wpC E Y0 af.body (QP args) (ja2 af.res P)):∃r,Ev E f args r∧P r:=by
 obtain⟨n,x,d,r,g,c⟩:=jje b h fun _=>rfl
 refine⟨r,⟨n+1,?_⟩,c⟩
 simp only[callers,e,Option.bind_some]
 rw[show jW E (callers E n) noY n af.body (QP args)=some [x] from d]
 exact jhj (List.cons_ne_nil _ _) (fun y a=>by rw[List.mem_singleton]at a;subst a;exact g)
end Go.Pv.T
namespace Go.Pv.T
open Go Go.Pv
end Go.Pv.T
namespace Go.Pv.T
open Go Go.Pv
section
variable {E:Env}{st:St}{ub:Nat}{K:List FP→St→Prop}{d:Option Nat}{nm:Bool}{r:List AOpr}
theorem jpw {sz n:Nat}{zero:List V}{a:List (Nat × Nat × A)}{cs:List V}(c:fill zero (jt (eval E st.tm) a)=some cs) (b:cs.length=n*sz) (hp:(cs.map V.strip1).all V.pureLeaf=true)
 (h:Wt E r K (eval E st.tm) (.buildSl false sz zero a n) st d ub { v:=.sl (some (ub,sz)) false n (cs.map V.strip1),add:=[ub] }):jE E (⟨d,.buildSl false sz zero a n,none,nm⟩::r) st ub K:=by
 rw[Jo rfl]
 simp only[aop,c,Option.bind_some,Bool.false_eq_true,if_false]
 rw[if_pos ⟨b,hp⟩,jK]
 exact h
theorem jfg {E:Env}{Yf:YF}{st:St}{ub:Nat}{K:St→Nat→Prop}{d:Option Nat}{nm:Bool}{q:Type}{f:q→List V}{sz b u:Nat}{l:List q}{s x:A}(n:eval E st.tm s=.sl (some (u,sz)) false 0 []) (c:st.tk u=true) (o:slCells st.ob sz (eval E st.tm x)=some (l.flatMap f)) (p:∀a,(f a).length=sz) (k:0<sz)
 (hp:(l.flatMap f).all V.pureLeaf=true) (w:l.length*b≤140737488355328) (j:l.length≤140737488355328)
 (h:∀ (t:Option (Nat × Nat)) (del:Option Nat) (add:List Nat),(∀g∈add,g=ub)→(∀g,del=some g→g=u)→WZ K st d ub { v:=.sl t false l.length (l.flatMap f),del:=del,add:=add }):j6 E Yf ⟨d,.append false sz b s x,none,nm⟩ st ub K:=by
 cases l with
 | nil=>
  rw[jP _ rfl rfl]
  simp only[aop,n,o,Option.bind_some,List.flatMap_nil,if_true,List.length_nil,Nat.zero_mul,We]
  exact h _ none [] (fun u c=>by cases c) (fun u e=>by cases e)
 | cons a l=>
  have i:((a::l).flatMap f).length / sz=(a::l).length:=by rw[j4 p];exact Nat.mul_div_cancel _ k
  have m:(a::l).flatMap f≠[]:=fun e=>by have:=congrArg List.length e;rw[j4 p]at this;have:=Nat.mul_pos (show 0<(a::l).length by simp) k;simp_all
  refine X4 n c o m zS k hp (by rw[i,Nat.zero_add];exact w) (by rw[i,Nat.zero_add];exact j) ?_
  rw[i,Nat.zero_add,List.nil_append]
  exact h _ (some u) [ub] (fun u c=>by simpa using c) (fun g e=>by cases e;rfl)
end
@[simp] theorem j4i (s:List UInt8):(V.str s).strip1=.str s:=rfl
theorem endH1 {st:St}{p l u:Nat}{x y z:V}{g:Hist'}(k:st.df=[]) (hp:st.tm p=.ptr l u 0) (q:st.ob l=some ⟨u,.cells [x,y,z]⟩)
 (t:jcx st x g.sn g.ss.length (g.ss.flatMap Jk)) (w:jcx st y g.kn g.ks.length (g.ks.flatMap Jk)) (o:jcx st z g.tn g.ts.length (g.ts.flatMap jn)):∃r,ja8 [.cell p (some 3)] (.ret,st)=some r∧jqf r g:=by
 have m:(objCells st.ob l u)=some [x,y,z]:=by simp[objCells,q]
 have h:[ARes.cell p (some 3)].mapM (jl st)=some [.agg [x,y,z]]:=by
  simp[jl,hp,m]
 obtain⟨a,n,d⟩:=t (nodup (List.flatMap V.toks [.agg [x,y,z]])) 0
 obtain⟨b,s,i⟩:=w (nodup (List.flatMap V.toks [.agg [x,y,z]])) 1
 obtain⟨c,v,f⟩:=o (nodup (List.flatMap V.toks [.agg [x,y,z]])) 2
 refine⟨.agg [.sl a g.sn g.ss.length (g.ss.flatMap Jk),.sl b g.kn g.ks.length (g.ks.flatMap Jk),.sl c g.tn g.ts.length (g.ts.flatMap jn)],?_,a,b,c,rfl,?_⟩
 ·simp only[ja8,YU k,YN k,if_true,h,Option.bind_some,Yg]
  generalize nodup (List.flatMap V.toks [.agg [x,y,z]])=keep at *
  simp only[JE,XS,Xc,n,s,v,Nat.zero_add,Option.bind_some,Option.map_some]
  have j:nodup (List.flatMap V.toks [.agg [.sl a g.sn g.ss.length (g.ss.flatMap Jk),.sl b g.kn g.ks.length (g.ks.flatMap Jk),.sl c g.tn g.ts.length (g.ts.flatMap jn)]])=true:=by
   have e:∀x y z:V,List.flatMap V.toks [.agg [x,y,z]]=x.tok++(y.tok++z.tok):=fun x y z=>by simp[V.toks]
   rw[e,jgz,jgz,jgz]
   rcases d with rfl|⟨_,rfl⟩ <;> rcases i with rfl|⟨_,rfl⟩ <;> rcases f with rfl|⟨_,rfl⟩ <;> rfl
  show(if nodup (List.flatMap V.toks [.agg [.sl a g.sn g.ss.length (g.ss.flatMap Jk),.sl b g.kn g.ks.length (g.ks.flatMap Jk),.sl c g.tn g.ts.length (g.ts.flatMap jn)]])=true then some (V.agg [.sl a g.sn g.ss.length (g.ss.flatMap Jk),.sl b g.kn g.ks.length (g.ks.flatMap Jk),.sl c g.tn g.ts.length (g.ts.flatMap jn)]) else none)=_
  rw[if_pos j]
 ·intro p hp
  simp only[List.mem_append]at hp
  rcases hp with(hp|hp)|hp
  ·rcases d with rfl|⟨_,rfl⟩
   ·simp at hp
   ·simp at hp;subst hp;simp
  ·rcases i with rfl|⟨_,rfl⟩
   ·simp at hp
   ·simp at hp;subst hp;simp
  ·rcases f with rfl|⟨_,rfl⟩
   ·simp at hp
   ·simp at hp;subst hp;simp
theorem jo3 {ub:Nat}{r:V}{g:Hist'}(h:jqf r g):∃a b c add,Xa ub r=some { v:=.agg [.sl a g.sn g.ss.length (g.ss.flatMap Jk),.sl b g.kn g.ks.length (g.ks.flatMap Jk),.sl c g.tn g.ts.length (g.ts.flatMap jn)],add:=add }:=by
 obtain⟨a,b,c,rfl,l⟩:=h
 have e:∀x y z:V,toksRes (.agg [x,y,z])=x.tok++(y.tok++z.tok):=fun x y z=>by simp[toksRes,V.toks]
 have k:(toksRes (.agg [.sl a g.sn g.ss.length (g.ss.flatMap Jk),.sl b g.kn g.ks.length (g.ks.flatMap Jk),.sl c g.tn g.ts.length (g.ts.flatMap jn)])).all (fun i=>Nat.blt i 64)=true:=by
  rw[e,List.all_eq_true]
  intro i o
  have:∃p∈a.toList++b.toList++c.toList,p.1=i:=by
   rw[List.mem_append,List.mem_append,tokm,tokm,tokm]at o
   rcases o with⟨p,d,h⟩|⟨p,d,h⟩|⟨p,d,h⟩
   ·exact⟨p,by simp[d],h⟩
   ·exact⟨p,by simp[d],h⟩
   ·exact⟨p,by simp[d],h⟩
  obtain⟨p,d,rfl⟩:=this
  rw[Nat.blt_eq]
  exact l p d
 have f:∀ (t:Option (Nat × Nat)) (m:Bool) (n:Nat) (cs:List V),∃w,Y6 ub (.sl t m n cs)=.sl w m n cs:=fun t m n cs=>by
  cases t with
  | none=>exact⟨none,rfl⟩
  | some p=>exact⟨_,rfl⟩
 obtain⟨F,q⟩:=f a g.sn g.ss.length (g.ss.flatMap Jk)
 obtain⟨B,s⟩:=f b g.kn g.ks.length (g.ks.flatMap Jk)
 obtain⟨D,u⟩:=f c g.tn g.ts.length (g.ts.flatMap jn)
 refine⟨F,B,D,(toksRes (.agg [.sl a g.sn g.ss.length (g.ss.flatMap Jk),.sl b g.kn g.ks.length (g.ks.flatMap Jk),.sl c g.tn g.ts.length (g.ts.flatMap jn)])).map (ub + ·),?_⟩
 rw[Xa,if_pos k]
 have j:jbx ub (.agg [.sl a g.sn g.ss.length (g.ss.flatMap Jk),.sl b g.kn g.ks.length (g.ks.flatMap Jk),.sl c g.tn g.ts.length (g.ts.flatMap jn)]) =
  .agg [Y6 ub (.sl a g.sn g.ss.length (g.ss.flatMap Jk)),Y6 ub (.sl b g.kn g.ks.length (g.ks.flatMap Jk)),Y6 ub (.sl c g.tn g.ts.length (g.ts.flatMap jn))]:=rfl
 rw[j,q,s,u]
theorem kS_evV {E:Env}{Yf:YF}{st:St}{ub:Nat}{K:St→Nat→Prop}{d:Option Nat}{nm:Bool}{q:A}{xs:List A}{f:FuncId}{first captured args:List V}{v:V}(a:Ev E f args v) (e:eval E st.tm q=.fn (.func f) first captured)
 (b:(first++xs.map (eval E st.tm)++captured).map V.strip=args) (c:E.sh nm f=false) (hp:args.all V.pureTop=true) (h:wpD (Xa ub v) (WZ K st d ub)):j6 E Yf ⟨d,.callV q xs,none,nm⟩ st ub K:=by
 refine jqn e ⟨⟨c,?_⟩,v,by rw[b];exact a,h⟩
 rw[← b,List.all_map]at hp
 exact hp
@[simp] theorem fn_strip0 (f:Fn):(V.fn f [] []).strip=.fn f [] []:=rfl
@[simp] theorem j3b (f:Fn):(V.fn f [] []).pureTop=true:=rfl
def SlR (v:V) (nl:Bool) (n:Nat) (cs:List V):Prop:=∃t:Option (Nat × Nat),v=.sl t nl n cs∧∀p∈t.toList,p.1<64
theorem jzf {st:St}{n k:Nat}{t:Option (Nat × Nat)}{nl:Bool}{cs:List V}(g:st.df=[]) (h:st.tm n=.sl t nl k cs):∃r,ja8 [.t n] (.ret,st)=some r∧SlR r nl k cs:=by
 have c:[ARes.t n].mapM (jl st)=some [.sl t nl k cs]:=by simp[jl,h]
 obtain⟨a,i,b⟩:=WH st t nl k cs (nodup (List.flatMap V.toks [.sl t nl k cs])) 0
 refine⟨.sl a nl k cs,?_,a,rfl,?_⟩
 ·simp only[ja8,YU g,YN g,if_true,c,Option.bind_some,Yg]
  generalize nodup (List.flatMap V.toks [.sl t nl k cs])=keep at *
  have e:XS st keep 0 (.sl t nl k cs)=some (.sl a nl k cs):=i
  simp only[JE,e,Option.bind_some,Option.map_some]
  have f:nodup (List.flatMap V.toks [.sl a nl k cs])=true:=by
   rcases b with rfl|⟨_,rfl⟩ <;> rfl
  show(if nodup (List.flatMap V.toks [.sl a nl k cs])=true then some (V.sl a nl k cs) else none)=_
  rw[if_pos f]
 ·intro p d
  rcases b with rfl|⟨_,rfl⟩
  ·simp at d
  ·simp at d;subst d;simp
theorem jla {ub:Nat}{v:V}{nl:Bool}{n:Nat}{cs:List V}(h:SlR v nl n cs):∃t add,Xa ub v=some { v:=.sl t nl n cs,add:=add }:=by
 obtain⟨t,rfl,a⟩:=h
 cases t with
 | none=>exact⟨none,[],rfl⟩
 | some p=>
  have:=a p zS
  refine⟨some (ub+p.1,p.2),[ub+p.1],?_⟩
  rw[Xa,if_pos (by simp[toksRes,V.toks,V.tok,Nat.blt_eq,this])]
  rfl
theorem slE {st:St}{n k:Nat}{t:Option (Nat × Nat)}{nl:Bool}{cs:List V}{P:V→Prop}(c:∀r,SlR r nl k cs→P r) (b:st.df=[]) (h:st.tm n=.sl t nl k cs):ja2 [.t n] P .ret st:=by
 obtain⟨r,a,d⟩:=jzf b h
 exact⟨r,a,c r d⟩
def j0i (l:List Int) (v:V):Prop:=∃nl,SlR v nl l.length (l.flatMap intC)
theorem ev160 (t:Txn'):Ev E 160 [.agg (jn t)] (.bool (X7 t)):=by
 refine jQ (af:=F160) rfl ?_
 simp[F160,jn,objCells]
 exact j1 rfl (by simp[X7]) rfl
theorem Yo {g:Hist'}(a:W2 g=true):errH g=0:=by unfold errH;rw[a];rfl
theorem ev159 {g:Hist'}(z:Small g) (J:W2 g=true):∃v,Ev E 159 [.agg (histC g),.fn (.func 160) [] []] v∧j0i (XX g) v:=by
 have n:=jp3 z
 rw[Yo J]at n
 have H:=z.ts
 refine XF (af:=F159) rfl zD ?_
 simp[F159,histC,objCells]
 refine jO n (by simp[histC]) rfl (by simp[histC]) ?_
 simp[objCells]
 refine j8 [(4,7),(14,26)] g.ts.length (fun i s=>s.tm 14=.int .i64 i∧Grow s.tk 0 s.nx intC 1 (numsTo X7 g.ts i) (s.tm 5)) rfl rfl ⟨zS,by simp[numsTo];exact Grow.nil _ _ _ _ _⟩ ?_
 rintro i s hi ⟨j,x⟩ f
 have G:s.tm 1=.fn (.func 160) [] []:=by rw[f.t 1 zS];simp
 have w:s.tm 12=slOf g.tn jn g.ts:=by rw[f.t 12 zS];simp
 have o:s.tm 13=.int .i64 g.ts.length:=by rw[f.t 13 zS];simp
 have K:s.df=[]:=by rw[f.d];simp
 have I:s.fb=0:=by rw[f.b];simp
 have fr:s.ro=0:=by rw[f.r];simp
 clear f
 by_cases e:i<g.ts.length
 ·have B:=jb e zO
  have c:=JM (p:=X7) e
  obtain⟨t,q⟩:∃t,g.ts[i]=t:=⟨_,rfl⟩
  rw[q]at c
  have F:=JJ X7 g.ts i
  simp[j,w,o,e,j5 j7,ja j7,q,jn,objCells,I,fr,j2,G]
  refine kS_evV (f:=160) (first:=[]) (captured:=[]) (ev160 t) zS (by simp[jn]) rfl (by simp[jn]) ?_
  cases hi:X7 t
  ·rw[hi]at c
   simp only[Bool.false_eq_true,if_false,List.append_nil]at c
   simp[j,B]
   exact⟨e,by rw[c];exact x.mono (fun u _ _ h=>by simpa[JG] using h) zO⟩
  ·rw[hi]at c
   simp only[if_true]at c
   simp
   refine jJ (cs:=[.int .i64 i]) (by simp[j2]) rfl rfl ?_
   simp
   refine YE (f:=intC) (lo:=0) (hi:=s.nx) (l:=numsTo X7 g.ts i) (a:=(i:Int)) (v:=s.tm 5) (x.mono (fun u _ _ h=>by simp[ju,h]) zR) zS (by simp[slCells,intC]) jC zD rfl zO zO (fun L D=>?_)
   have y:numsTo X7 g.ts (i+1)≠[]:=by rw[c];simp
   have m:(numsTo X7 g.ts i).length+1=(numsTo X7 g.ts (i+1)).length:=by rw[c];simp
   rw[← c,m]
   simp[j,B]
   exact⟨e,.inr ⟨y,_,rfl,by simp[ju],Nat.zero_le _,zO⟩⟩
 ·have:i=g.ts.length:=zO
  subst this
  obtain⟨t,q⟩:=x.form
  simp[j,o]
  exact slE (t:=t) (nl:=(numsTo X7 g.ts g.ts.length).isEmpty) (k:=(XX g).length) (cs:=(XX g).flatMap intC) (fun r h=>⟨_,h⟩) (by simp[K]) (by simp[q,XX])
theorem ev104 {g:Hist'}(a:Small g) (e:W2 g=true):∃v,Ev E 104 [.agg (histC g)] v∧j0i (XX g) v:=by
 obtain⟨v,c,nl,b⟩:=ev159 a e
 refine XF (af:=F104) rfl zD ?_
 simp[F104,histC,objCells]
 refine jO c (by simp[histC]) rfl (by simp[histC]) ?_
 obtain⟨t,add,d⟩:=jla (ub:=192) b
 rw[d]
 simp
 exact slE (t:=t) (nl:=nl) (k:=(XX g).length) (cs:=(XX g).flatMap intC) (fun r h=>⟨_,h⟩) rfl zS
theorem j5k {st:St}{n k l u:Nat}{t:Option (Nat × Nat)}{nl:Bool}{cs:List V}{P:V→Prop}(c:∀r,SlR r nl k cs→P r) (b:st.df=[(l,u)]) (d:st.ob l=some ⟨u,.dfr⟩) (f:st.ro≤u) (h:st.tm n=.sl t nl k cs):ja2 [.t n] P .ret st:=by
 obtain⟨r,a,e⟩:=jzf (st:={ st with ob:=fun k=>if Nat.beq l k then none else st.ob k,df:=[] }) rfl h
 exact⟨r,Wz b d f a,c r e⟩
def jB (p:Int × Int):List V:=[.int .i64 p.1,.int .i64 p.2]
@[simp] theorem jN (p:Int × Int):(jB p).length=2:=rfl
def jed (i:Nat) (ops:List Op'):Nat→List (Int × Int)
 | 0=>[]
 | k+1=>jed i ops k++(match ops[k]? with|some o=>if o.v.kind == 2 then [((i:Int),(k:Int))] else []|none=>[])
def jec (ts:List Txn'):Nat→List (Int × Int)
 | 0=>[]
 | i+1=>jec ts i++(match ts[i]? with|some t=>jed i t.ops t.ops.length|none=>[])
def X6 (h:Hist') (i k:Nat):List (Int × Int):=jec h.ts i++(match h.ts[i]? with|some t=>jed i t.ops k|none=>[])
def jbt (h:Hist'):List (Int × Int):=jec h.ts h.ts.length
theorem jbs (i:Nat) (ops:List Op'):∀k,(jed i ops k).length≤k
 | 0=>Nat.le_refl _
 | k+1=>by
  have:=jbs i ops k
  simp only[jed,List.length_append]
  split
  ·split <;> simp <;> omega
  ·simp;omega
theorem jbr {ts:List Txn'}(h:∀t∈ts,t.ops.length≤1000):∀i,(jec ts i).length≤i*1000
 | 0=>Nat.zero_le _
 | i+1=>by
  have:=jbr h i
  simp only[jec,List.length_append]
  rw[show(i+1)*1000=i*1000+1000 by omega]
  split
  ·rename_i t a
   have b:=jbs i t.ops t.ops.length
   have c:=h t (List.mem_of_getElem? a)
   omega
  ·simp only[List.length_nil];omega
theorem jef {h:Hist'}{i k:Nat}(hi:i<h.ts.length) (a:k<(h.ts[i]).ops.length):X6 h i (k+1)=X6 h i k++(if (h.ts[i]).ops[k].v.kind == 2 then [((i:Int),(k:Int))] else []):=by
 simp only[X6,List.getElem?_eq_getElem hi,jed,List.getElem?_eq_getElem a,List.append_assoc]
theorem jeg {h:Hist'}{i:Nat}(hi:i<h.ts.length):X6 h i (h.ts[i]).ops.length=X6 h (i+1) 0:=by
 simp only[X6,List.getElem?_eq_getElem hi,jec]
 cases h.ts[i+1]? <;> simp[jed]
theorem jgf (h:Hist'):X6 h h.ts.length 0=jbt h:=by simp[X6,jbt]
theorem jee (h:Hist'):X6 h 0 0=[]:=by unfold X6;cases h.ts[0]? <;> rfl
theorem jge {h:Hist'}(a:Small h) {i k:Nat}(hi:i<h.ts.length) (f:k≤(h.ts[i]).ops.length):(X6 h i k).length≤1001000:=by
 have b:=jbr a.os i
 have d:=a.ts
 have c:=jbs i (h.ts[i]).ops k
 have e:=a.os _ (List.getElem_mem hi)
 simp only[X6,List.getElem?_eq_getElem hi,List.length_append]
 have:i*1000≤1000*1000:=Nat.mul_le_mul_right _ zO
 omega
def PlR (l:List (Int × Int)) (v:V):Prop:=∃nl,SlR v nl l.length (l.flatMap jB)
theorem ev105 {g:Hist'}(B:Small g) (hm:W2 g=true):∃v,Ev E 105 [.agg (histC g)] v∧PlR (jbt g) v:=by
 have y:=jp3 B
 rw[Yo hm]at y
 have F:=B.ts
 refine XF (af:=F105) rfl zD ?_
 simp[F105,histC,objCells]
 refine jO y (by simp[histC]) rfl (by simp[histC]) ?_
 simp[objCells]
 refine ja1 (vs:=[.agg (histC g)]) (by simp[histC]) rfl ?_
 obtain⟨r,N,X,D,e3,T⟩:=j3k (Yf:=Y0) g _ _ 0 _ _
 refine⟨r,N,?_⟩
 simp
 refine jY fun c d=>?_
 obtain⟨m,b0,b7,L,p2,K,pl⟩:∃m,m % 64=0∧m<c.nx∧c.tm 10=.fn (.func 215) [] [.ptr (2*m+1) m 0]∧c.ob 2=some ⟨0,.cells (histC g)⟩∧(∃u,c.tm 3=.ptr 6 u 0∧c.ob 6=some ⟨u,.cells [.sl none true 0 []]⟩)∧c.ob (2*m+1)=some ⟨m,.cells (histC g)⟩:=by
  refine⟨_,?_,?_,by rw[d];simp only[jk5,put,Yc];exact X,?_,⟨320,?_,?_⟩,?_⟩
  ·decide
  ·rw[d,jg6,T];omega
  ·rw[d];simp only[JA];rw[D];simp[histC]
  ·rw[d];simp[put,j3]
  ·rw[d];simp only[JA];rw[D];simp
  ·rw[d];simp only[JA];rw[D];simp
 obtain⟨u6,M,K⟩:=K
 have gd:c.df=[]:=by rw[d];simp
 have gb:c.fb=0:=by rw[d];simp
 have Q:c.ro=0:=by rw[d];simp
 clear d X D e3 T N
 refine jf1 g F (fun t ht=>by have:=B.os t ht;omega) rfl rfl rfl (by simpa using L) pl zO zO Q
  (fun i k ob s q=>∃n,ob 6=some ⟨u6,.cells [n]⟩∧Grow s 0 q jB 2 (X6 g i k) n) ?_ ?_ ?_ ?_ ?_
 ·rintro i k ob b5 s q a0 ⟨n,j,e⟩ p H
  exact⟨n,(H 6 (fun m _=>by omega)).trans j,e.mono (fun _ _ _ h=>h) p⟩
 ·rintro i hi ob s q ⟨n,j,e⟩
  exact⟨n,j,by rw[← jeg hi];exact e⟩
 ·rintro i hi k P ob s q ⟨n,j,e⟩ w1 z p
  have r1:¬ 2*c.nx+1=8:=zO
  have r3:¬ 2*c.nx+1=10:=zO
  have r5:¬ 2*c.nx+1=6:=zO
  have q1:¬ 2*c.nx+3=8:=zO
  have Z:¬ 2*c.nx+3=10:=zO
  have q5:¬ 2*c.nx+3=6:=zO
  have q7:¬ 2*c.nx+3=2*c.nx+1:=zO
  have b8:¬ 8=2*c.nx+1:=zO
  have J:¬ 10=2*c.nx+1:=zO
  have G:¬ 6=2*c.nx+1:=zO
  have b:=jef hi P
  have b9:=jge B hi (Nat.le_of_lt P)
  obtain⟨o,ho⟩:∃o,(g.ts[i]).ops[k]=o:=⟨_,rfl⟩
  rw[ho]at b ⊢
  obtain⟨O,w⟩:=e.form
  simp[jdo,j3,opC,objCells,gb,j2,r1,r3,w1,J]
  cases S:(o.v.kind == 2)
  ·rw[S]at b
   simp only[Bool.false_eq_true,if_false,List.append_nil]at b
   simp[j3,q1,Z,z,G,j]
   exact⟨zO,by rw[b];exact e.mono (fun u _ _ h=>by simpa[JG] using h) zO⟩
  ·rw[S]at b
   simp only[if_true]at b
   simp[M,j3,G,j,objCells,b8]
   refine jJ (cs:=jB (i,k)) (by simp[j2,jB]) rfl rfl ?_
   simp
   refine YE (f:=jB) (lo:=0) (hi:=q) (l:=X6 g i k) (a:=((i:Int),(k:Int))) (v:=n) (e.mono (fun u _ _ h=>by simp[JG,ju,h]) zR) zS (by simp[slCells,jB]) jN zD rfl zO zO (fun c0 U=>?_)
   have I:X6 g i (k+1)≠[]:=by rw[b];simp
   have x:(X6 g i k).length+1=(X6 g i (k+1)).length:=by rw[b];simp
   rw[← b,x]
   simp[M,j3,G,j,objCells,j2,r5,q5,q1,Z,z]
   exact⟨zO,.inr ⟨I,_,rfl,by simp[JG,ju],Nat.zero_le _,zO⟩⟩
 ·exact⟨_,K,by rw[jee];exact Grow.nil _ _ _ _ _⟩
 ·rintro ob s q ⟨n,j,e⟩ z p
  rw[jgf]at e
  obtain⟨O,w⟩:=e.form
  simp[M,objCells,j,w]
  exact j5k (l:=2*c.nx+3) (u:=c.nx+1) (t:=O) (nl:=(jbt g).isEmpty) (k:=(jbt g).length) (cs:=(jbt g).flatMap jB) (fun r h=>⟨_,h⟩) (by simp[gd]) (by simp[z]) (by simp[Q]) zS
def GrowT {α:Type}(tk:Nat→Bool) (nx:Nat) (f:α→List V) (sz:Nat) (l:List α) (v:V):Prop:=∃u,v=.sl (some (u,sz)) false l.length (l.flatMap f)∧tk u=true∧u<nx
theorem GrowT.mono {b:Type}{tk a:Nat→Bool}{nx nx':Nat}{f:b→List V}{sz:Nat}{l:List b}{v:V}(h:GrowT tk nx f sz l v) (g:∀u,u<nx→tk u=true→a u=true) (i:nx≤nx'):GrowT a nx' f sz l v:=by
 obtain⟨u,e,c,d⟩:=h
 exact⟨u,e,g u d c,zO⟩
theorem YD {E:Env}{Yf:YF}{st:St}{ub:Nat}{K:St→Nat→Prop}{d:Option Nat}{nm:Bool}{j:Type}{f:j→List V}{sz b hi:Nat}{l:List j}{a:j}{v:V}{s x:A}(t:GrowT st.tk hi f sz l v) (o:eval E st.tm s=v) (q:slCells st.ob sz (eval E st.tm x)=some (f a)) (i:∀a,(f a).length=sz) (m:0<sz)
 (hp:(f a).all V.pureLeaf=true) (p:(l.length+1)*b≤140737488355328) (g:l.length+1≤140737488355328)
 (h:∀del:Option Nat,(∀u,del=some u→u<hi)→WZ K st d ub { v:=.sl (some (ub,sz)) false (l.length+1) ((l++[a]).flatMap f),del:=del,add:=[ub] }):j6 E Yf ⟨d,.append false sz b s x,none,nm⟩ st ub K:=by
 have k:f a≠[]:=fun e=>by have:=i a;rw[e]at this;simp at this;omega
 have c:(f a).length / sz=1:=by rw[i];exact Nat.div_self m
 obtain⟨u,rfl,r,n⟩:=t
 refine X4 o r q k (by rw[j4 i]) m hp (by rw[c];exact p) (by rw[c];exact g) ?_
 rw[c]
 have:=h (some u) (fun w e=>by cases e;exact n)
 simpa using this
theorem ev60 {g:Hist'}(I:Small g):∃v,Ev E 60 [.agg (histC g)] v∧PlR (jbt g) v:=by
 have P:=I.ts
 refine XF (af:=F60) rfl zD ?_
 simp[F60,histC]
 refine jJ (cs:=[]) rfl rfl rfl ?_
 simp
 refine j8 [(3,5),(7,42)] g.ts.length (fun i s=>s.tm 4=.int .i64 i∧s.ob 2=some ⟨0,.cells (histC g)⟩∧GrowT s.tk s.nx jB 2 (X6 g i 0) (s.tm 3)) rfl rfl ⟨zS,by simp[histC],by rw[jee];exact⟨128,zS,by simp[ju],zS⟩⟩ ?_
 rintro i s hi ⟨K,B,L⟩ f
 have G:s.tm 1=.ptr 2 0 0:=by rw[f.t 1 zS];simp
 have N:s.df=[]:=by rw[f.d];simp
 clear f
 by_cases c:i<g.ts.length
 ·have Q:=jb c zO
  simp[K,G,B,objCells,histC,c]
  refine j8 [(3,3),(5,5),(14,42)] (g.ts[i]).ops.length (fun k j=>j.tm 5=.int .i64 k∧j.ob=s.ob∧GrowT j.tk j.nx jB 2 (X6 g i k) (j.tm 3)) rfl rfl ⟨zS,zS,by simp;exact L.mono (fun _ _ h=>h) zO⟩ ?_
  rintro k j Z ⟨D,n,p⟩ f
  have J:j.tm 1=.ptr 2 0 0:=by rw[f.t 1 zS];simp[G]
  have H:j.tm 4=.int .i64 i:=by rw[f.t 4 zS];simp[K]
  have ed:j.df=[]:=by rw[f.d];simp[N]
  clear f
  have x:j.ob 2=some ⟨0,.cells (histC g)⟩:=by rw[n];exact B
  obtain⟨t,F⟩:∃t,g.ts[i]=t:=⟨_,rfl⟩
  have T:=I.os t (F▸List.getElem_mem c)
  have m:(g.ts.flatMap jn)[i*3+2]? = some (slOf t.nl opC t.ops):=by
   rw[jR j7 g.ts c (by decide:2<3),F];rfl
  by_cases e:k<(g.ts[i]).ops.length
  ·have b:=jef c e
   have S:=jge I c (Nat.le_of_lt e)
   obtain⟨o,M⟩:∃o,(g.ts[i]).ops[k]=o:=⟨_,rfl⟩
   rw[M]at b
   subst F
   have q:=jb e zO
   have w:((g.ts[i]).ops.flatMap opC)[k*4+2]? = some (.int .i64 o.v.kind):=by
    rw[jR jH (g.ts[i]).ops e (by decide:2<4),M];rfl
   cases z:(o.v.kind == 2)
   ·rw[z]at b
    simp only[Bool.false_eq_true,if_false,List.append_nil]at b
    simp[D,J,H,objCells,histC,c,j5 j7,m,e,j5 jH,w,z,q,n,B]
    rw[b]
    exact p.mono (fun _ _ h=>h) zO
   ·rw[z]at b
    simp only[if_true]at b
    simp[D,J,H,x,objCells,histC,c,j5 j7,m,e,j5 jH,w,z,j2]
    refine jJ (cs:=jB (i,k)) (by simp[j2,jB]) rfl rfl ?_
    simp
    refine YD (f:=jB) (hi:=j.nx) (l:=X6 g i k) (a:=((i:Int),(k:Int))) (v:=j.tm 3) (p.mono (fun u _ h=>by simp[ju,h]) zR) zS (by simp[slCells,jB]) jN zD rfl zO zO (fun X O=>?_)
    have y:(X6 g i k).length+1=(X6 g i (k+1)).length:=by rw[b];simp
    rw[← b,y]
    simp[D,q,n]
    exact⟨e,_,rfl,by simp[ju],zO⟩
  ·have:k=(g.ts[i]).ops.length:=zO
   subst this
   subst F
   simp[D,J,H,x,objCells,histC,c,j5 j7,m,Q]
   rw[← jeg c]
   exact p.mono (fun _ _ h=>h) zO
 ·have:i=g.ts.length:=zO
  subst this
  rw[jgf]at L
  obtain⟨u,U,_,_⟩:=L
  simp[K,G,B,objCells,histC]
  exact slE (t:=some (u,2)) (nl:=false) (k:=(jbt g).length) (cs:=(jbt g).flatMap jB) (fun r h=>⟨_,h⟩) (by simp[N]) (by simp[U])
def wkB (k:Int) (o:Op'):Bool:=o.w && o.key == k
def wrB (k:Int) (t:Txn'):Bool:=t.f != 2 && t.ops.any (wkB k)
def KeyAt (k:Int) (ob:ZO) (l u:Nat):Prop:=l % 2=0∧ob l=some ⟨u,.cells [.int .i64 k]⟩
theorem evo296 {k:Int}{ob:ZO}{l u:Nat}(d:KeyAt k ob l u) (o:Op') (tk:Nat→Bool) (base ub:Nat):EvO E 296 [.agg (opC o),.ptr l u 0] ob tk base ub (.bool (wkB k o)):=by
 obtain⟨e,c⟩:=d
 refine Jz (af:=S296) rfl ?_
 have a:¬ l=2*ub+1:=zO
 unfold wkB
 cases b:o.w
 ·simp[S296,opC,objCells,b]
  exact j1 rfl zS rfl
 ·simp[S296,opC,objCells,b,a,c]
  exact j1 rfl zS rfl
theorem evo305 {p:Op'→Bool}{g:FuncId}{cap:V}{ob:ZO}(w:E.sh true g=false) (b:cap.strip.pureTop=false) (hp:∀ (t:Op') (tk:Nat→Bool) (base ub:Nat),EvO E g [.agg (opC t),cap] ob tk base ub (.bool (p t)))
 (nl:Bool) (l:List Op') (x:l.length≤1000000000) (tk:Nat→Bool) (base ub:Nat):EvO E 305 [slOf nl opC l,.fn (.func g) [] [cap]] ob tk base ub (.int .i64 (jcj p l)):=by
 refine Jz (af:=S305) rfl ?_
 simp[S305]
 refine j8 [(4,5),(8,18)] l.length (fun i s=>s.tm 8=.int .i64 i∧s.ob=ob∧∀j (c:j<l.length),j<i→p l[j]=false) rfl rfl ⟨zS,zS,fun _ _ h=>by omega⟩ ?_
 rintro i s B ⟨n,o,k⟩ f
 have z:s.tm 0=slOf nl opC l:=by rw[f.t 0 zS];simp
 have u:s.tm 1=.fn (.func g) [] [cap]:=by rw[f.t 1 zS];simp
 have r:s.tm 7=.int .i64 l.length:=by rw[f.t 7 zS];simp
 have q:s.df=[]:=by rw[f.d];simp
 clear f
 by_cases a:i<l.length
 ·have y:=jb a x
  simp[z,u,r,n,a,j5 jH,ja jH]
  refine ja0 (f:=g) (first:=[]) (captured:=[cap]) zS w (by simp[b]) (v:=.bool (p l[i])) (by simpa[o] using hp l[i] _ _ _) ?_
  cases e:p l[i]
  ·simp[n,y]
   refine⟨a,o,?_⟩
   intro j c m
   rcases Nat.lt_succ_iff_lt_or_eq.1 m with h|rfl
   ·exact k j c h
   ·exact e
  ·simp
   refine j1 (by simpa using q) ?_ rfl
   simp
   rw[jci a e k]
 ·have:i=l.length:=zO
  subst this
  simp[r,n]
  refine j1 (by simpa using q) ?_ rfl
  simp[jes (fun j c=>k j c c)]
theorem evo295 {p:Op'→Bool}{g:FuncId}{ob:ZO}{a b c:Nat}(e:E.sh true g=false) (hp:∀ (t:Op') (tk:Nat→Bool) (base ub:Nat),EvO E g [.agg (opC t),.ptr a b c] ob tk base ub (.bool (p t)))
 (nl:Bool) (l:List Op') (d:l.length≤1000000000) (tk:Nat→Bool) (base ub:Nat):EvO E 295 [slOf nl opC l,.fn (.func g) [] [.ptr a b c]] ob tk base ub (.bool (l.any p)):=by
 refine Jz (af:=S295) rfl ?_
 simp[S295]
 refine jh (vs:=[slOf nl opC l,.fn (.func g) [] [.ptr a b c]]) zS rfl rfl (evo305 e rfl hp nl l d _ _ _) ?_
 simp
 exact j1 rfl (by simp[jgn]) rfl
theorem evo294 {k:Int}{ob:ZO}{l u:Nat}(d:KeyAt k ob l u) (t:Txn') (i:t.ops.length≤1000000) (tk:Nat→Bool) (base ub:Nat):EvO E 294 [.agg (jn t),.ptr l u 0] ob tk base ub (.bool (wrB k t)):=by
 have b:¬ l=2*ub+1:=by have:=d.1;omega
 refine Jz (af:=S294) rfl ?_
 unfold wrB
 cases c:(t.f != 2)
 ·simp[S294,jn,objCells,c]
  exact j1 rfl zS rfl
 ·simp[S294,jn,objCells,c]
  refine jh (vs:=[slOf t.nl opC t.ops,.fn (.func 296) [] [.ptr l u 0]]) zS rfl rfl (evo295 (p:=wkB k) rfl (fun h tk base a=>evo296 ?_ h tk base a) t.nl t.ops zO _ _ _) ?_
  ·obtain⟨g,e⟩:=d
   exact⟨g,by simp[b,e]⟩
  ·simp
   exact j1 rfl zS rfl
def writersH (g:Hist') (k:Int):List Int:=numsTo (wrB k) g.ts g.ts.length
theorem ev281 {g:Hist'}(y:Small g) (J:W2 g=true) (k:Int):∃v,Ev E 281 [.agg (histC g),.int .i64 k] v∧j0i (writersH g k) v:=by
 have n:=jp3 y
 rw[Yo J]at n
 have H:=y.ts
 refine XF (af:=F281) rfl zD ?_
 simp[F281,histC,objCells]
 refine jO n (by simp[histC]) rfl (by simp[histC]) ?_
 simp[objCells]
 refine j8 [(4,4),(6,8),(16,28)] g.ts.length (fun i s=>s.tm 16=.int .i64 i∧s.ob 6=some ⟨64,.cells [.int .i64 k]⟩∧Grow s.tk 0 s.nx intC 1 (numsTo (wrB k) g.ts i) (s.tm 6)) rfl rfl ⟨zS,zS,by simp[numsTo];exact Grow.nil _ _ _ _ _⟩ ?_
 rintro i s hi ⟨j,w,z⟩ f
 have M:s.tm 5=.fn (.func 294) [] [.ptr 6 64 0]:=by rw[f.t 5 zS];simp
 have x:s.tm 14=slOf g.tn jn g.ts:=by rw[f.t 14 zS];simp
 have q:s.tm 15=.int .i64 g.ts.length:=by rw[f.t 15 zS];simp
 have K:s.df=[]:=by rw[f.d];simp
 have I:s.fb=0:=by rw[f.b];simp
 have fr:s.ro=0:=by rw[f.r];simp
 clear f
 by_cases e:i<g.ts.length
 ·have D:=jb e zO
  have c:=JM (p:=wrB k) e
  obtain⟨t,o⟩:∃t,g.ts[i]=t:=⟨_,rfl⟩
  rw[o]at c
  have L:=y.os t (o▸List.getElem_mem e)
  have G:=JJ (wrB k) g.ts i
  simp[j,x,q,e,j5 j7,ja j7,o,jn,objCells,I,fr,j2,M]
  refine ja0 (f:=294) (first:=[]) (captured:=[.ptr 6 64 0]) zS rfl (by simp;rfl) (evo294 (k:=k) (l:=6) (u:=64) ⟨rfl,by simp[w]⟩ t zO _ _ _) ?_
  cases hi:wrB k t
  ·rw[hi]at c
   simp only[Bool.false_eq_true,if_false,List.append_nil]at c
   simp[j,D,w]
   exact⟨e,by rw[c];exact z.mono (fun u _ _ h=>by simpa[JG] using h) zO⟩
  ·rw[hi]at c
   simp only[if_true]at c
   simp
   refine jJ (cs:=[.int .i64 i]) (by simp[j2]) rfl rfl ?_
   simp
   refine YE (f:=intC) (lo:=0) (hi:=s.nx) (l:=numsTo (wrB k) g.ts i) (a:=(i:Int)) (v:=s.tm 6) (z.mono (fun u _ _ h=>by simp[ju,h]) zR) zS (by simp[slCells,intC]) jC zD rfl zO zO (fun N F=>?_)
   have B:numsTo (wrB k) g.ts (i+1)≠[]:=by rw[c];simp
   have m:(numsTo (wrB k) g.ts i).length+1=(numsTo (wrB k) g.ts (i+1)).length:=by rw[c];simp
   rw[← c,m]
   simp[j,D,w]
   exact⟨e,.inr ⟨B,_,rfl,by simp[ju],Nat.zero_le _,zO⟩⟩
 ·have:i=g.ts.length:=zO
  subst this
  obtain⟨t,o⟩:=z.form
  simp[j,q]
  exact slE (t:=t) (nl:=(numsTo (wrB k) g.ts g.ts.length).isEmpty) (k:=(writersH g k).length) (cs:=(writersH g k).flatMap intC) (fun r h=>⟨_,h⟩) (by simp[K]) (by simp[o,writersH])
def jng (g:Hist'):Nat→Nat
 | 0=>0
 | i+1=>max (jng g i) (writersH g i).length
def mostH (g:Hist'):Nat:=jng g g.ks.length
theorem jjq {g:Hist'}(a:Small g):∀i,jng g i≤1000
 | 0=>Nat.zero_le _
 | i+1=>by
  have b:=jjq a i
  have d:=JJ (wrB i) g.ts g.ts.length
  have c:=a.ts
  simp only[jng,writersH]
  omega
def JL (k:Int) (ops:List Op'):Nat→Val' × Bool
 | 0=>(⟨0,0⟩,false)
 | i+1=>match ops[i]? with
  | some o=>if wkB k o then (o.v,true) else JL k ops i
  | none=>JL k ops i
theorem QA {k:Int}{ops:List Op'}{i:Nat}(h:i<ops.length):JL k ops (i+1)=if wkB k ops[i] then (ops[i].v,true) else JL k ops i:=by simp[JL,List.getElem?_eq_getElem h]
theorem jal (k:Int) (ops:List Op'):∀i,i≤ops.length→(JL k ops i).2=(ops.take i).any (wkB k)
 | 0,_=>by simp[JL]
 | i+1,h=>by
  rw[QA zO,List.take_succ_eq_append_getElem zO,List.any_append,← jal k ops i zO]
  cases a:wkB k ops[i] <;> simp[a]
theorem ev84 (t:Txn') (K:t.ops.length≤1000000) (k:Int):Ev E 84 [.agg (jn t),.int .i64 t.ops.length,.int .i64 k] (.tup [.agg (jv (JL k t.ops t.ops.length).1),.bool (JL k t.ops t.ops.length).2]):=by
 refine jQ (af:=F84) rfl ?_
 simp[F84,jn,objCells,j2]
 refine j8 [(9,10),(12,45)] t.ops.length (fun i s=>s.tm 10=.int .i64 i∧s.ob 6=some ⟨0,.cells (jn t)⟩∧s.ob 12=some ⟨64,.cells [.int .i64 0,.int .i64 0]⟩∧s.ob 16=some ⟨256,.cells (jv (JL k t.ops i).1)⟩∧s.tm 9=.bool (JL k t.ops i).2) rfl rfl
  ⟨zS,by simp[jn],zS,by simp[JL,jv],by simp[JL]⟩ ?_
 rintro i s J ⟨g,u,m,h,x⟩ f
 have p:s.tm 1=.int .i64 t.ops.length:=by rw[f.t 1 zS];simp
 have G:s.tm 2=.int .i64 k:=by rw[f.t 2 zS];simp
 have y:s.tm 3=.ptr 6 0 0:=by rw[f.t 3 zS];simp
 have F:s.tm 6=.ptr 12 64 0:=by rw[f.t 6 zS];simp
 have D:s.tm 8=.ptr 16 256 0:=by rw[f.t 8 zS];simp
 have I:s.df=[]:=by rw[f.d];simp
 have fr:s.ro=0:=by rw[f.r];simp
 clear f
 by_cases a:i<t.ops.length
 ·have z:=jb a zO
  have c:=QA (k:=k) a
  obtain⟨o,q⟩:∃o,t.ops[i]=o:=⟨_,rfl⟩
  rw[q]at c
  have B:(t.ops.flatMap opC)[i*4]? = some (.bool o.w):=by
   have:=jR jH t.ops a (by decide:0<4)
   rw[Nat.add_zero,q]at this
   rw[this];rfl
  have a1:(t.ops.flatMap opC)[i*4+1]? = some (.int .i64 o.key):=by
   rw[jR jH t.ops a (by decide:1<4),q];rfl
  have a2:∀ob,Ws ob (some 2) (.eptr (t.ops.flatMap opC) (i*4+2))=some (.agg (jv o.v)):=fun ob=>by
   have H:i*4+4≤t.ops.length*4:=zO
   rw[jbu,QB,if_pos (by rw[j4 jH];omega)]
   have:=XP jH t.ops i a
   rw[q]at this
   have e:((t.ops.flatMap opC).drop (i*4+2)).take 2=((((t.ops.flatMap opC).drop (i*4)).take 4).drop 2):=by
    rw[List.drop_take,List.drop_drop]
   rw[e,this]
   rfl
  cases b:o.w
  ·have n:wkB k o=false:=by unfold wkB;rw[b];rfl
   rw[n]at c
   simp only[Bool.false_eq_true,if_false]at c
   simp[g,p,y,u,objCells,jn,a,j5 jH,B,b,z,m,h,x]
   exact⟨by rw[c],by rw[c]⟩
  ·cases j:(o.key == k)
   ·have n:wkB k o=false:=by unfold wkB;rw[b,j];rfl
    rw[n]at c
    simp only[Bool.false_eq_true,if_false]at c
    simp[g,p,G,y,u,objCells,jn,a,j5 jH,B,a1,b,j,z,m,h,x]
    exact⟨by rw[c],by rw[c]⟩
   ·have n:wkB k o=true:=by unfold wkB;rw[b,j];rfl
    rw[n]at c
    simp only[if_true]at c
    simp[g,p,G,y,D,u,objCells,jn,a,j5 jH,B,a1,a2,b,j,z,m,h,jv,fr,j2]
    rw[c]
    simp
 ·have:i=t.ops.length:=zO
  subst this
  simp[g,p,D,h,objCells,x,F,m,jv,fr,j2]
  exact jz (by simp[I]) (l:=[.agg (jv (JL k t.ops t.ops.length).1),.bool (JL k t.ops t.ops.length).2]) (by simp[jl,objCells,F,jv]) rfl rfl
section
variable {E:Env}{Yf:YF}{st:St}{ub:Nat}{K:St→Nat→Prop}{d:Option Nat}{nm:Bool}
theorem jxi {sz a n:Nat}{zero:List V}{x y:A}(b:eval E st.tm x=.int .i64 (n:Int)) (i:eval E st.tm y=.int .i64 (n:Int)) (g:0<n) (f:n*a≤140737488355328) (j:n≤140737488355328) (c:zero.length=sz) (e:0<sz)
 (h:WZ K st d ub { v:=.osl (jG d nm st.fb ub) ub 0 n sz,obs:=[(jG d nm st.fb ub,⟨ub,.cells (QX n zero)⟩)] }):j6 E Yf ⟨d,.mkSl false sz a zero x y,none,nm⟩ st ub K:=by
 rw[jP _ rfl rfl]
 simp only[aop,b,i]
 rw[if_pos (by refine⟨zO,zO,?_,zO,c,e⟩;rw[← Int.natCast_mul];exact Int.ofNat_le.2 f),if_neg (by intro h;omega),Jg,jK]
 simp only[Int.toNat_natCast,Jq]
 exact h
end
theorem jq7 {st:St}{L u n:Nat}{cs:List V}(f:st.ob L=some ⟨u,.cells cs⟩) (m:cs.length=n) (b:st.ro≤u) (hp:cs.all V.pureLeaf=true):JC st 6 (.osl L u 0 n 1)=some (.sl none false n cs):=by
 have e:objCells st.ob L u=some cs:=by simp[objCells,f]
 have g:∀ (k:Nat) (l:List V),l.all V.pureLeaf=true→l.mapM (JC st (k+1))=some l:=by
  intro k l
  induction l with
  | nil=>intro _;rfl
  | cons a l j=>
   intro h
   simp only[List.all_cons,Bool.and_eq_true]at h
   rw[List.mapM_cons,j h.2]
   have:JC st (k+1) a=some a:=by
    have:=Xr (st:=st) (keep:=false) (i:=0) h.1
    cases a with
    | sl t o n cs=>cases t with
     | none=>rfl
     | some t=>cases h.1
    | osl=>cases h.1
    | _=>simp only[JC,h.1,if_true]
   rw[this]
   rfl
 show((objCells st.ob L u).bind fun cs=>if Nat.ble st.ro u=true∧0+n*1≤cs.length then (((cs.drop 0).take (n*1)).mapM (JC st 5)).map fun c=>V.sl none false n c else none)=_
 rw[e,Option.bind_some,if_pos ⟨Nat.ble_eq▸b,zO⟩,List.drop_zero,Nat.mul_one,List.take_of_length_le zO,g 4 cs hp]
 rfl
theorem jis {st:St}{L u n:Nat}{cs:List V}(c:st.ob L=some ⟨u,.cells cs⟩) (e:cs.length=n) (a:st.ro≤u) (hp:cs.all V.pureLeaf=true):jcx st (.osl L u 0 n 1) false n cs:=by
 intro keep i
 have b:objCells st.ob L u=some cs:=by simp[objCells,c]
 have f:=jq7 c e a hp
 refine⟨_,by simp only[ji,f,Option.bind_some,b,Option.map_some];rfl,?_⟩
 split
 ·exact .inr ⟨_,rfl⟩
 ·exact .inl rfl
end Go.Pv.T
namespace Go.Pv.T
open Go Go.Pv
end Go.Pv.T
namespace Go.Pv.T
open Go Go.Pv
end Go.Pv.T
namespace Go.Pv.T
open Go Go.Pv
theorem jrp {l:List Txn'}(h:∀t∈l,t.ops.length≤1000):rcT l≤l.length*1000:=by
 induction l with
 | nil=>simp[rcT,rc]
 | cons t l a=>
  have c:=a (fun t b=>h t (List.mem_cons_of_mem _ b))
  have d:=h t (List.mem_cons_self ..)
  have e:=rc_le t.ops
  have:rcT (t::l)=rc t.ops+rcT l:=by rw[rcT,List.flatMap_cons,j5u];rfl
  rw[this,List.length_cons,Nat.succ_mul]
  omega
structure Bnd (g:Hist'):Prop where
 i:(XX g).length≤1000
 l:(jbt g).length≤1000000
 r:rcT g.ts≤1000000
 m:mostH g≤1000
 t:g.ts.length≤1000
theorem bnd_of {g:Hist'}(a:Small g):Bnd g:=by
 have b:=a.ts
 refine⟨?_,?_,?_,jjq a _,b⟩
 ·have:=JJ X7 g.ts g.ts.length
  show(numsTo X7 g.ts g.ts.length).length≤1000
  omega
 ·have:=jbr a.os g.ts.length
  show(jec g.ts g.ts.length).length≤1000000
  have:g.ts.length*1000≤1000*1000:=Nat.mul_le_mul_right _ b
  omega
 ·have:=jrp a.os
  have:g.ts.length*1000≤1000*1000:=Nat.mul_le_mul_right _ b
  omega
theorem jm0 {ub n:Nat}{cs:List V}:Xa ub (.sl (some (0,1)) false n cs)=some { v:=.sl (some (ub,1)) false n cs,add:=[ub] }:=by
 rw[Xa,if_pos (by rfl)];rfl
end Go.Pv.T
namespace Go.Pv.T
open Go Go.Pv
end Go.Pv.T
namespace Go.Pv.T
open Go Go.Pv
end Go.Pv.T
namespace Go.Pv.T
open Go Go.Pv
def YY (n:Nat) (l:List (List UInt8)):List (List UInt8):=(l.take n).map (·.take 100)
def fewT (t:Txn'):Txn':={ t with nl:=false,ops:=t.ops.take 25 }
def jck (h:Hist'):Hist':={ sn:=(YY 25 h.ss).isEmpty,ss:=YY 25 h.ss,kn:=(YY 45 h.ks).isEmpty,ks:=YY 45 h.ks,tn:=((h.ts.take 45).map fewT).isEmpty,ts:=(h.ts.take 45).map fewT }
theorem jn3 (n:Nat) (l:List (List UInt8)):YY n (YY n l)=YY n l:=by
 simp[YY,← List.map_take,List.map_map,List.take_take,Function.comp_def]
theorem jq8 (h:Hist'):Small (jck h):=by
 refine⟨?_,?_,?_,?_,?_,?_⟩
 ·show(YY 25 h.ss).length≤1000
  simp[YY];omega
 ·intro s b
  obtain⟨a,_,rfl⟩:=List.mem_map.1 (show s∈YY 25 h.ss from b)
  simp;omega
 ·show(YY 45 h.ks).length≤1000
  simp[YY];omega
 ·intro s b
  obtain⟨a,_,rfl⟩:=List.mem_map.1 (show s∈YY 45 h.ks from b)
  simp;omega
 ·show((h.ts.take 45).map fewT).length≤1000
  simp;omega
 ·intro t c
  obtain⟨a,_,rfl⟩:=List.mem_map.1 (show t∈(h.ts.take 45).map fewT from c)
  simp[fewT];omega
theorem jj9 {n i:Nat}{l:List (List UInt8)}(hi:i<l.length) (_:i<n):YY (i+1) l=YY i l++[(l[i]).take 100]:=by
 rw[YY,List.take_succ_eq_append_getElem hi,List.map_append];rfl
theorem jn4 {n:Nat}{l:List (List UInt8)}{i:Nat}(hi:i≤l.length) (b:i≤n) (h:¬ (i<l.length∧i<n)):YY i l=YY n l:=by
 unfold YY
 congr 1
 by_cases a:i<l.length
 ·have:i=n:=zO
  rw[this]
 ·rw[List.take_of_length_le zO,List.take_of_length_le zO]
def tlC:C→C
 | .seq _ b=>b
 | c=>c
def hdC:C→C
 | .seq a _=>a
 | c=>c
theorem jd9 (n m:Nat):jbq false [.int .i64 (n:Int),.int .i64 (m:Int)]=some (.int .i64 ((min n m:Nat):Int)):=by
 simp only[jbq,Wr]
 by_cases h:n≤m
 ·rw[Nat.min_eq_left h];simp[jho];omega
 ·rw[Nat.min_eq_right (Nat.le_of_not_le h)];simp[jho];omega
theorem jdj (c:List UInt8):c.take (min c.length 100)=c.take 100:=by
 rcases Nat.le_total c.length 100 with h'|h'
 ·rw[Nat.min_eq_left h',List.take_of_length_le zR,List.take_of_length_le h']
 ·rw[Nat.min_eq_right h']
theorem jn2 (n:Nat) (l:List (List UInt8)):(YY n l).length≤n:=by simp[YY];omega
theorem jmx {l:List UInt8}{kk:IntKind}{k:Nat}(h:k≤l.length):XW none (some (.int kk (k:Int))) (.str l)=some (.str (l.take k)):=by
 simp[XW,Jx,h]
theorem jq9 {cs:List V}{kk:IntKind}{t:Option (Nat × Nat)}{nl:Bool}{sz n k:Nat}(h:k≤n) (a:cs.length=n*sz):Qi sz none (some (.int kk (k:Int))) (.sl t nl n cs)=some (.sl none nl k (cs.take (k*sz))):=by
 simp[Qi,Jx,h,a]
end Go.Pv.T
namespace Go.Pv.T
open Go Go.Pv
end Go.Pv.T
namespace Go.Pv.T
open Go Go.Pv
theorem j3c {h:Hist'}{i:Nat}(hi:i≤h.ts.length) (b:i≤45) (c:¬ (i<h.ts.length∧i<45)):(h.ts.take i).map fewT=(h.ts.take 45).map fewT:=by
 congr 1
 by_cases a:i<h.ts.length
 ·have:i=45:=zO
  rw[this]
 ·rw[List.take_of_length_le zO,List.take_of_length_le zO]
theorem jvn (l:List Op') (k:Nat):(l.flatMap opC).take (k*4)=(l.take k).flatMap opC:=by
 induction l generalizing k with
 | nil=>simp
 | cons a l b=>
  cases k with
  | zero=>simp
  | succ k=>
   rw[List.flatMap_cons,List.take_succ_cons,List.flatMap_cons,Nat.succ_mul,← b k]
   show(V.bool a.w::V.int .i64 a.key::V.int .i64 a.v.kind::V.int .i64 a.v.n::l.flatMap opC).take (k*4+4)=_
   simp[opC]
theorem kE1 {st:St}{p l u:Nat}{x y z:V}{g:Hist'}(a:st.df=[]) (hp:st.tm p=.ptr l u 0) (c:st.ob l=some ⟨u,.cells [x,y,z]⟩)
 (d:jcx st x g.sn g.ss.length (g.ss.flatMap Jk)) (e:jcx st y g.kn g.ks.length (g.ks.flatMap Jk)) (b:jcx st z g.tn g.ts.length (g.ts.flatMap jn)):ja2 [.cell p (some 3)] (fun r=>jqf r g) .ret st:=endH1 a hp c d e b
theorem j5q {Yf:YF}(nl:Bool) (ops:List Op') (hm:ops.length≤1000000) {l u lh uh:Nat}{ob0:ZO}{tk0:Nat→Bool}{ro base ub0:Nat}(J:Nat→(ZO)→(Nat→Bool)→Nat→Prop) (P:V × (ZO) × (Nat→Bool) × Nat→Prop)
 (m:∀k ob g h b c,J k ob h b→b≤c→Fr b ob g→J k g h c) (n:∀k ob h b,J k ob h b→ob lh=some ⟨uh,.cells [slOf nl opC ops]⟩) (N:ro≤ub0)
 (o:∀k (_:k<ops.length) ob h b,J k ob h b→ro≤b→∃r,EvY Yf l u [.int .i64 (ops.length - 1 - k:Nat),.agg (opC (ops.getD (ops.length - 1 - k) ⟨false,0,0,0⟩))] ob h ro b r∧ro≤r.2.2.2 ∧
  ((r.1=.bool true∧J (k+1) r.2.1 r.2.2.1 r.2.2.2)∨(r.1=.bool false∧∀g c,r.2.2.2≤c→Fr r.2.2.2 r.2.1 g→P (.tup [],g,r.2.2.1,c))))
 (B:∀ob h b,J ops.length ob h b→P (.tup [],ob,h,b)) (O:J 0 ob0 tk0 ub0):∃r,EvS E Yf.y 274 [.yld l u,.ptr lh uh 0] ob0 tk0 ro base ub0 r∧P r:=by
 refine Jn (af:=S274) rfl zD ?_
 show wpC E Yf S274.body _ (XT S274.res P)
 have hh:=n 0 ob0 tk0 ub0 O
 have w1:IntKind.i64.wrap ((ops.length:Int) - 1)=(ops.length:Int) - 1:=jm zO zO
 simp[S274,objCells,hh,w1]
 refine j8 [(3,3),(7,18)] ops.length (fun k s=>s.tm 3=.int .i64 ((ops.length:Int) - 1 - k)∧ro≤s.nx∧J k s.ob s.tk s.nx) rfl rfl ⟨zS,by simp;omega,m _ _ _ _ _ _ O (by simp;omega) (Fr.refl _ _)⟩ ?_
 rintro k s hk ⟨z,b0,D⟩ f
 have f0:s.tm 0=.yld l u:=by rw[f.t 0 zS];simp
 have Q:s.tm 1=.ptr lh uh 0:=by rw[f.t 1 zS];simp
 have M:s.df=[]:=by rw[f.d];simp
 have fr:s.ro=ro:=by rw[f.r];simp
 clear f
 have hc:=n _ _ _ _ D
 by_cases v:k<ops.length
 ·obtain⟨j,hj⟩:∃j,j=ops.length - 1 - k:=⟨_,rfl⟩
  have w:j<ops.length:=zO
  have e:(ops.length:Int) - 1 - k=(j:Int):=zO
  rw[e]at z
  have U:IntKind.i64.wrap ((j:Int) - 1)=(ops.length:Int) - 1 - (k+1):=by rw[jm zO zO];omega
  have K:ops.getD j ⟨false,0,0,0⟩=ops[j]:=by rw[List.getD_eq_getElem?_getD,List.getElem?_eq_getElem w];rfl
  simp[z,f0,Q,objCells,hc,w,j5 jH,ja jH]
  refine jmu fun i a=>?_
  have F:i.tm 11=.yld l u:=by rw[a];simp
  have H:i.tm 12=.int .i64 j:=by rw[a];simp
  have I:i.tm 16=.agg (opC ops[j]):=by rw[a];simp
  have e3:i.tm 3=.int .i64 j:=by rw[a];simp[z]
  have Z:i.df=[]:=by rw[a];simp[M]
  have er:i.ro=ro:=by rw[a];simp[fr]
  have et:i.tk=s.tk:=by rw[a];simp
  have eo:i.ob=s.ob:=by rw[a];simp
  clear a
  obtain⟨r,L,a0,p⟩:=o k v i.ob s.tk (s.nx+64+64+64+64+64+64+64+64) (m _ _ _ _ _ _ D zO (by rw[eo];exact Fr.refl _ _)) zO
  rw[← hj,K]at L
  refine jid (l:=l) (u:=u) (by simpa using F) ⟨r,by simpa[H,I,et,er] using L,?_⟩
  rcases p with⟨q,G⟩|⟨q,S⟩
  ·simp[q,put,j3,e3,U]
   exact⟨v,zO,m _ _ _ _ _ _ G zO (Fr.refl _ _)⟩
  ·simp[q,put]
   refine⟨(.tup [],r.2.1,r.2.2.1,r.2.2.2+64),?_,S _ _ zO (Fr.refl _ _)⟩
   simp[endS,Z]
 ·have:k=ops.length:=zO
  subst this
  obtain⟨X,T⟩:∃x:Int,x=(ops.length:Int) - 1 - ops.length:=⟨_,rfl⟩
  rw[← T]at z
  have c1:¬ 0≤X:=zO
  simp[z,c1]
  refine⟨(.tup [],s.ob,s.tk,s.nx+64+64),?_,B _ _ _ (m _ _ _ _ _ _ D zO (Fr.refl _ _))⟩
  simp[endS,M]
def jy6:C:=.region [⟨some 7,.alloc [(.bool false),(.int .i64 0),(.int .i64 0),(.int .i64 0)],none,false⟩,⟨none,.store 4 (.t 7) (.t 11),none,false⟩]
def jqg:C:=.block 1 (.seq (.region [⟨some 12,.fieldAddr 0 (.t 7),none,false⟩,⟨some 13,.load none (.t 12),none,false⟩,⟨some 14,.mov (.t 13),none,false⟩,⟨some 15,.fieldAddr 1 (.t 7),(some (14,true)),false⟩,⟨some 16,.load none (.t 15),(some (14,true)),false⟩,⟨some 17,.load none (.t 3),(some (14,true)),false⟩,⟨some 18,.bin .eql (.t 16) (.t 17),(some (14,true)),false⟩,⟨some 19,.pick (.t 14) (.t 18) (.c (.bool false)),none,false⟩])
 (.cond (.t 19) (.seq (.region [⟨some 20,.fieldAddr 2 (.t 7),none,false⟩,⟨some 21,.load (some 2) (.t 20),none,false⟩,⟨none,.store 2 (.t 4) (.t 21),none,false⟩,⟨none,.store 1 (.t 5) (.c (.bool true)),none,false⟩]) (.ret)) (.skip)))
theorem jwc (nl:Bool) (ops:List Op') (q:ops.length≤1000000) (d:Int) {st:St}{lh uh:Nat}(U:Nat) (hU:st.nx=U) (c9:64≤U) (h9:st.tm 9=.fn (.func 274) [] [.ptr lh uh 0]) (hl:∃m,lh=2*m+1∧m<U)
 (h3:st.tm 3=.ptr 6 0 0) (h4:st.tm 4=.ptr 8 64 0) (h5:st.tm 5=.ptr 10 128 0) (O:st.ro=0) (b7:st.fb=0) (o6:st.ob 6=some ⟨0,.cells [.int .i64 d]⟩) (o8:st.ob 8=some ⟨64,.cells [.int .i64 0,.int .i64 0]⟩) (c7:st.ob 10=some ⟨128,.cells [.bool false]⟩)
 (oh:st.ob lh=some ⟨uh,.cells [slOf nl opC ops]⟩) {Q:Ex→St→Prop}
 (hQ:∀ (e:Ex) (ob:ZO) (tk:Nat→Bool) (ub:Nat) (v:Val') (b:Bool),ob 8=some ⟨64,.cells (jv v)⟩→ob 10=some ⟨128,.cells [.bool b]⟩→ob (2*U+3)=some ⟨U+1,.dfr⟩→U+64≤ub →
  JL d ops ops.length=(v,b)→(e=.nrm∧v=⟨0,0⟩∧b=false∨e=.ret)→Q e { st with ob:=ob,tk:=tk,nx:=ub,df:=(2*U+3,U+1)::st.df }) :
 wpC E Y0 (.rangeFunc (.t 9) [10,11] jy6 jqg) st Q:=by
 obtain⟨m,rfl,d0⟩:=hl
 subst hU
 refine WB (g:=274) (first:=[]) (captured:=[.ptr (2*m+1) uh 0]) (by simpa using h9) ?_
 have e1:¬ 2*m+1=2*st.nx+1:=zO
 have e2:¬ 2*m+1=2*st.nx+3:=zO
 have X:¬ 2*m=2*st.nx:=zO
 have c2:¬ 2*m=2*st.nx+2:=zO
 have:=j5q (Yf:=jfv E Y0 jy6 jqg st [10,11] (2*st.nx+1) st.nx) nl ops q (l:=2*st.nx+1) (u:=st.nx) (lh:=2*m+1) (uh:=uh)
  (ob0:=upd (upd st.ob (2*st.nx+3) (some ⟨st.nx+1,.dfr⟩)) (2*st.nx+1) (some ⟨st.nx,.loop .ready none⟩)) (tk0:=st.tk) (ro:=st.ro) (base:=(st.fb+1023)*1024) (ub0:=st.nx+64)
  (fun k ob tk ub=>JL d ops ops.length=JL d ops (ops.length - k)∧ob (2*st.nx+1)=some ⟨st.nx,.loop .ready none⟩∧ob (2*st.nx+3)=some ⟨st.nx+1,.dfr⟩∧ob 6=some ⟨0,.cells [.int .i64 d]⟩∧ob 8=some ⟨64,.cells [.int .i64 0,.int .i64 0]⟩∧ob 10=some ⟨128,.cells [.bool false]⟩∧ob (2*m+1)=some ⟨uh,.cells [slOf nl opC ops]⟩∧st.nx+64≤ub)
  (fun r=>∃s z,r.2.1 (2*st.nx+1)=some ⟨st.nx,.loop s z⟩∧s≠.busy∧st.ro≤st.nx∧Q (z.getD .nrm) { st with ob:=fun k=>if Nat.beq (2*st.nx+1) k then none else r.2.1 k,tk:=r.2.2.1,nx:=r.2.2.2,df:=(2*st.nx+3,st.nx+1)::st.df })
  ?_ ?_ zO ?_ ?_ ?_
 ·obtain⟨r,hr,hP⟩:=this
  exact⟨r,hr,hP⟩
 ·rintro k ob i tk ub P ⟨n,I,L,g4,K,N,M,g8⟩ d1 F
  have f:∀h,(∀m,ub≤m→h≠2*m+1)→i h=ob h:=F
  exact⟨n,by rw[f _ (fun m q=>by omega)];exact I,by rw[f _ (fun m q=>by omega)];exact L,by rw[f _ (fun m q=>by omega)];exact g4,by rw[f _ (fun m q=>by omega)];exact K,by rw[f _ (fun m q=>by omega)];exact N,by rw[f _ (fun m q=>by omega)];exact M,zO⟩
 ·rintro k ob tk ub ⟨n,I,L,g4,K,N,M,g8⟩
  exact M
 ·rintro k hk ob tk ub ⟨n,I,L,g4,K,N,M,g8⟩ d2
  obtain⟨j,hj⟩:∃j,j=ops.length - 1 - k:=⟨_,rfl⟩
  have Z:j<ops.length:=zO
  have c6:ops.getD j ⟨false,0,0,0⟩=ops[j]:=by rw[List.getD_eq_getElem?_getD,List.getElem?_eq_getElem Z];rfl
  have B:=QA (k:=d) Z
  rw[← hj,c6]
  obtain⟨o,ho⟩:∃o,ops[j]=o:=⟨_,rfl⟩
  rw[ho]at B ⊢
  rw[show ops.length - k=j+1 by omega]at n
  rw[B]at n
  refine jfb (asg:=jy6) (bd:=jqg) (xs:=[.int .i64 (j:Nat),.agg (opC o)]) rfl zO I zD zD ?_
  simp[jy6,jdo,objCells,b7,opC,O,j2]
  refine⟨by rw[if_neg zO,if_neg zO];exact I,jY fun c a=>?_⟩
  have f3:c.tm 3=.ptr 6 0 0:=by rw[a];simp[j3,h3]
  have f4:c.tm 4=.ptr 8 64 0:=by rw[a];simp[j3,h4]
  have f5:c.tm 5=.ptr 10 128 0:=by rw[a];simp[j3,h5]
  have f7:c.tm 7=.ptr 14 ub 0:=by rw[a];simp
  have n6:¬ 6=2*st.nx+1:=zO
  have T:¬ 8=2*st.nx+1:=zO
  have x:¬ 10=2*st.nx+1:=zO
  have c4:¬ 14=2*st.nx+1:=zO
  have n3:¬ 2*st.nx+3=2*st.nx+1:=zO
  have b5:¬ 2*st.nx+3=14:=zO
  have b0:¬ 2*m+1=14:=zO
  have p6:c.ob 6=some ⟨0,.cells [.int .i64 d]⟩:=by rw[a];simp[j3,n6,g4]
  have p8:c.ob 8=some ⟨64,.cells [.int .i64 0,.int .i64 0]⟩:=by rw[a];simp[j3,T,K]
  have H:c.ob 10=some ⟨128,.cells [.bool false]⟩:=by rw[a];simp[j3,x,N]
  have G:c.ob 14=some ⟨ub,.cells (opC o)⟩:=by rw[a];simp[j3,c4,opC]
  have p3:c.ob (2*st.nx+3)=some ⟨st.nx+1,.dfr⟩:=by rw[a];simp[j3,b5,L]
  have p1:c.ob (2*st.nx+1)=some ⟨st.nx,.loop .busy none⟩:=by rw[a];simp
  have ph:c.ob (2*m+1)=some ⟨uh,.cells [slOf nl opC ops]⟩:=by rw[a];simp[j3,X,b0,M]
  have fr:c.ro=0:=by rw[a]
  have fn:ub≤c.nx:=by rw[a];simp;omega
  clear a
  have c3:¬ 2*st.nx+1=8:=zO
  have S:¬ 2*st.nx+1=10:=zO
  have c1:¬ 2*st.nx+3=8:=zO
  have a0:¬ 2*st.nx+3=10:=zO
  have skip:wkB d o=false→JL d ops ops.length=JL d ops (ops.length - (k+1)):=fun D=>by
   rw[D]at n
   rw[n,show ops.length - (k+1)=j by omega]
   rfl
  have done:wkB d o=false→(b9:True)→JL d ops ops.length=JL d ops (ops.length - (k+1))∧upd c.ob (2*st.nx+1) (some ⟨st.nx,.loop .ready none⟩) (2*st.nx+3)=some ⟨st.nx+1,.dfr⟩:=fun D _=>⟨skip D,by rw[j3,if_neg n3];exact p3⟩
  cases p:o.w
  ·have D:=skip (by unfold wkB;rw[p];rfl)
   simp[jqg,f7,G,objCells,opC,p,p1,WJ]
   exact⟨D,by rw[j3,if_neg n3];exact p3,by rw[j3,if_neg n6];exact p6,by rw[j3,if_neg T];exact p8,by rw[j3,if_neg x];exact H,by rw[j3,if_neg e1];exact ph,zO⟩
  cases y:(o.key == d)
  ·have D:=skip (by unfold wkB;rw[p,y];rfl)
   simp[jqg,f7,G,objCells,opC,p,f3,p6,y,p1,WJ]
   exact⟨D,by rw[j3,if_neg n3];exact p3,by rw[j3,if_neg n6];exact p6,by rw[j3,if_neg T];exact p8,by rw[j3,if_neg x];exact H,by rw[j3,if_neg e1];exact ph,zO⟩
  ·have c0:wkB d o=true:=by unfold wkB;rw[p,y];rfl
   rw[c0]at n
   simp only[if_true]at n
   simp[jqg,f7,G,objCells,opC,p,f3,p6,y,f4,f5,p8,H,fr,j2,c3,S,p1,WJ]
   intro i P c8 F
   have fk:∀h,(∀m,c.nx+64+64+64+64+64+64+64+64+64+64+64+64≤m→h≠2*m+1)→i h=_:=F
   have J:∀ {k:Nat},k≠2*st.nx+1→(if 2*st.nx+1=k then none else i k)=i k:=fun hk=>if_neg fun e=>hk e.symm
   refine⟨.done,some .ret,?_,zS,?_⟩
   ·rw[fk _ (fun m q=>by omega)]
    simp
   ·have:=hQ .ret (fun k=>if 2*st.nx+1=k then none else i k) c.tk P o.v true (by rw[J T,fk _ (fun m q=>by omega)];simp[j3,T,jv]) (by rw[J x,fk _ (fun m q=>by omega)];simp[j3,x])
     (by rw[J n3,fk _ (fun m q=>by omega)];simp[j3,c1,a0,p3]) zO n (Or.inr rfl)
    rw[O,b7]at this
    simpa[JG] using this
 ·rintro ob tk ub ⟨n,I,L,g4,K,N,M,g8⟩
  refine⟨.ready,none,I,zS,zO,?_⟩
  rw[Nat.sub_self]at n
  exact hQ .nrm _ _ _ ⟨0,0⟩ false ((j0f ob zO).trans K) ((j0f ob zO).trans N) ((j0f ob zO).trans L) g8 n (Or.inl ⟨rfl,rfl,rfl⟩)
 ·have d3:¬ 2*st.nx+3=2*st.nx+1:=zO
  have a6:¬ 6=2*st.nx+1:=zO
  have b6:¬ 6=2*st.nx+3:=zO
  have a8:¬ 8=2*st.nx+1:=zO
  have b8:¬ 8=2*st.nx+3:=zO
  have a10:¬ 10=2*st.nx+1:=zO
  have c5:¬ 10=2*st.nx+3:=zO
  exact⟨by rw[Nat.sub_zero],zS,by simp[j3],by simp[j3,a6,b6,o6],by simp[j3,a8,b8,o8],by simp[j3,a10,c5,c7],by simp[j3,X,c2,oh],zO⟩
end Go.Pv.T
namespace Go.Pv.T
open Go Go.Pv
end Go.Pv.T
namespace Go.Pv.T
open Go Go.Pv
theorem Qp {g:Hist'}(a:W2 g=false):errH g=4:=by unfold errH;rw[a];rfl
end Go.Pv.T
namespace Go.Pv.T
open Go Go.Pv Go.Sort
def arr {α:Type}(f:α→List V) (d:Array α):List V:=d.toList.flatMap f
theorem juq {α:Type}{f:α→List V}{sz:Nat}(b:∀a,(f a).length=sz) (d:Array α):(arr f d).length=d.size*sz:=by
 unfold arr;rw[j4 b,Array.length_toList]
theorem jnz {α:Type}{f:α→List V}{sz:Nat}(b:∀a,(f a).length=sz) (a:α):∀ (l:List α) (i:Nat),i<l.length→j2 (l.flatMap f) (i*sz) (f a)=(l.set i a).flatMap f
 | [],_,h=>by simp at h
 | x::l,0,_=>by simp[j2,b]
 | x::l,i+1,h=>by
  have c:=jnz b a l i (by simpa using h)
  have e:(i+1)*sz=(f x).length+i*sz:=by rw[b,Nat.succ_mul,Nat.add_comm]
  unfold j2 at c ⊢
  rw[List.set_cons_succ,List.flatMap_cons,List.flatMap_cons,← c,e,List.take_length_add_append,Nat.add_assoc,List.drop_length_add_append]
  simp
section
variable {α:Type}[Inhabited α] {f:α→List V}{sz:Nat}{d:Array α}
theorem idxA {l u n:Nat}{kk:IntKind}{x:Int}(b:0≤x) (a:x<n):JP sz (.osl l u 0 n sz) (.int kk x)=some (.ptr l u (x.toNat*sz)):=by
 simp[JP,b,a]
end
@[simp] theorem arrI_len (d:Array Int):(arr intC d).length=d.size:=by rw[juq (sz:=1) jC,Nat.mul_one]
def At (l u:Nat) (cs:List V) (ob:ZO) (tk:Nat→Bool) (ub:Nat) (ob':ZO) (tk':Nat→Bool) (ub':Nat):Prop :=
 ob' l=some ⟨u,.cells cs⟩∧(∀key,key≠l→(∀m,ub≤m→key≠2*m+1)→ob' key=ob key)∧tk'=tk∧ub≤ub'
theorem jda {st:St}{P:V × (ZO) × (Nat→Bool) × Nat→Prop}{e:Ex}(b:e=.nrm∨e=.ret) (a:st.df=[]) (h:P (.tup [],st.ob,st.tk,st.nx)):XT [] P e st:=by
 refine⟨_,?_,h⟩
 rcases b with rfl|rfl <;> simp[endS,a]
theorem j4y {x:Int}(a:-1000000000≤x) (b:x≤1000000000):IntKind.i64.wrap x=x:=jm zO zO
theorem idxN {l u n x:Nat}{kk:IntKind}{X:Int}(a:X=(x:Nat)) (b:x<n):JP 1 (.osl l u 0 n 1) (.int kk X)=some (.ptr l u x):=by
 subst a
 have:=idxA (sz:=1) (l:=l) (u:=u) (n:=n) (kk:=kk) (x:=(x:Int)) zO zO
 simpa using this
theorem At.swap {l u:Nat}{p:Array Int}{cs:List V}{ob:ZO}{tk:Nat→Bool}{ub:Nat}{j:ZO}{e:Nat→Bool}{f:Nat}{d:ZO}{g:Nat→Bool}{i:Nat}(h:At l u (arr intC p) ob tk ub j e f)
 (k:d l=some ⟨u,.cells cs⟩) (n:∀c,c≠l→d c=j c) (m:g=e) (o:f≤i):At l u cs ob tk ub d g i :=
 ⟨k,fun c a b=>(n c a).trans (h.2.1 c a b),m.trans h.2.2.1,Nat.le_trans h.2.2.2 o⟩
def juz (st:St) (d:Option Nat) (v:V) (ob:ZO) (tk:Nat→Bool):St:={ st with tm:=put st.tm d v,ob:=ob,tk:=tk }
section
variable {st:St}{d:Option Nat}{v:V}{ob:ZO}{tk:Nat→Bool}
@[simp] theorem retS_tm (e n:Nat):(juz st (some e) v ob tk).tm n=if n=e then v else st.tm n:=by simp[juz,put,j3]
@[simp] theorem retS_tm0 (n:Nat):(juz st none v ob tk).tm n=st.tm n:=rfl
@[simp] theorem jhb:(juz st d v ob tk).ob=ob:=rfl
@[simp] theorem retS_tk:(juz st d v ob tk).tk=tk:=rfl
@[simp] theorem retS_ro:(juz st d v ob tk).ro=st.ro:=rfl
@[simp] theorem retS_nx:(juz st d v ob tk).nx=st.nx:=rfl
@[simp] theorem retS_fb:(juz st d v ob tk).fb=st.fb:=rfl
@[simp] theorem retS_df:(juz st d v ob tk).df=st.df:=rfl
end
@[simp] theorem jw2 (l u o:Nat):jat (.ptr l u o)=some (.ptr l u o):=rfl
theorem jU {Yf:YF}{f:FuncId}{xs:List A}{st:St}{ub:Nat}{K:St→Nat→Prop}{d:Option Nat}{nm:Bool}{vs:List V}{P:V × (ZO) × (Nat→Bool) × Nat→Prop}(i:xs.map (eval E st.tm)=vs) (g:E.sh nm f=true)
 (k:∃r,EvS E Yf.y f vs st.ob st.tk st.ro ((st.fb+d.getD 0+1)*1024) ub r∧P r) (h:∀v c b a,P (v,c,b,a)→K (juz st d v c b) a):j6 E Yf ⟨d,.call f xs,none,nm⟩ st ub K:=by
 obtain⟨r,j,e⟩:=k
 exact ja1 i g ⟨r,j,h r.1 r.2.1 r.2.2.1 r.2.2.2 e⟩
theorem jgp {st:St}{x y:Nat}{P:V × (ZO) × (Nat→Bool) × Nat→Prop}(a:st.df=[]) (h:P (.tup [st.tm x,st.tm y],st.ob,st.tk,st.nx)):XT [.t x,.t y] P .ret st:=⟨_,by simp[endS,a,jl],h⟩
theorem Yi {st:St}{x:Nat}{P:V × (ZO) × (Nat→Bool) × Nat→Prop}(a:st.df=[]) (h:P (st.tm x,st.ob,st.tk,st.nx)):XT [.t x] P .ret st:=⟨_,by simp[endS,a,jl],h⟩
theorem At.refl {l u:Nat}{cs:List V}{ob:ZO}{tk:Nat→Bool}{ub:Nat}(h:ob l=some ⟨u,.cells cs⟩):At l u cs ob tk ub ob tk ub:=⟨h,fun _ _ _=>rfl,rfl,zR⟩
theorem At.trans {l u:Nat}{cs k:List V}{ob o j:ZO}{tk e g:Nat→Bool}{ub f c n:Nat}(h:At l u cs ob tk ub o e f) (p:At l u k o e c j g n) (q:f≤c):At l u k ob tk ub j g n :=
 ⟨p.1,fun i a b=>(p.2.1 i a (fun m r=>b m (by have:=h.2.2.2;omega))).trans (h.2.1 i a b),p.2.2.1.trans h.2.2.1,by have:=h.2.2.2;have:=p.2.2.2;omega⟩
end Go.Pv.T
namespace Go.Pv.T
open Go Go.Pv Go.Sort
end Go.Pv.T
namespace Go.Pv.T
open Go Go.Pv Go.Sort
theorem j2n {Yf:YF}{a b:C}{st:St}{Q:Ex→St→Prop}{c:Bool}(h:∀s,s=st→kIf E Yf a b s Q c):kIf E Yf a b st Q c:=h st rfl
end Go.Pv.T
namespace Go.Pv.T
open Go Go.Pv Go.Sort
end Go.Pv.T
namespace Go.Pv.T
open Go Go.Pv Go.Sort
end Go.Pv.T
namespace Go.Pv.T
open Go Go.Pv Go.Sort
end Go.Pv.T
namespace Go.Pv.T
open Go Go.Pv Go.Sort
@[simp] theorem convV_int (k a:IntKind) (n:Int):XV k (.int a n)=some (.int k (k.wrap n)):=rfl
end Go.Pv.T
namespace Go.Pv.T
open Go Go.Pv Go.Sort
end Go.Pv.T
namespace Go.Pv.T
open Go Go.Pv Go.Sort
end Go.Pv.T
namespace Go.Pv.T
open Go Go.Pv Go.Sort
theorem sv69n {Yf:YF}{ob:ZO}{tk:Nat→Bool}{ro base ub:Nat}:∃r,EvS E Yf.y 69 [.sl none true 0 []] ob tk ro base ub r∧r.2.1=ob∧r.2.2.1=tk∧ub≤r.2.2.2 :=
 ⟨(.tup [],ob,tk,ub),jia (m:=none) rfl rfl rfl,rfl,rfl,zR⟩
theorem jj3:∀L:List Int,(L.flatMap intC).mapM int64? = some L
 | []=>rfl
 | x::L=>by
  rw[List.flatMap_cons]
  show(V.int .i64 x::L.flatMap intC).mapM int64? = _
  simp only[List.mapM_cons,jj3 L]
  rfl
theorem sv69 {Yf:YF}{l u:Nat}{L T:List Int}(hp:L.Perm T) (e:T.Pairwise (·≤·)) (g:L.length≤1000000000) {ob:ZO}{tk:Nat→Bool}{ro base ub:Nat}(f:ob l=some ⟨u,.cells (L.flatMap intC)⟩) (b:ro≤u) (_:∀m,ub≤m→l≠2*m+1) (_:ro≤ub) :
 ∃r,EvS E Yf.y 69 [.osl l u 0 L.length 1] ob tk ro base ub r∧At l u (T.flatMap intC) ob tk ub r.2.1 r.2.2.1 r.2.2.2:=by
 have j:jk3 L=T:=jhe ((Q6 L).trans hp) (jg4 L) e
 have c:(L.flatMap intC).length=L.length:=by rw[j4 jC,Nat.mul_one]
 have a:∀T:List Int,T.map (V.int .i64)=T.flatMap intC:=fun T=>by induction T <;> simp_all [intC]
 refine⟨(.tup [],upd ob l (some ⟨u,.cells (T.flatMap intC)⟩),tk,ub),jia (m:=none) rfl ?_ rfl,zS,fun h d _=>by simp[J9 _ _ d],rfl,zR⟩
 have i:objCells ob l u=some (L.flatMap intC):=by simp[objCells,f]
 simp only[jou,jio,jfd,jmv,Wb,i,Option.bind_some,Nat.mul_one,if_true]
 rw[if_pos ⟨Nat.ble_eq▸b,trivial,zO,g⟩,List.drop_zero,List.take_of_length_le zO,jj3,Option.bind_some,j,a]
 have:(T.flatMap intC).length=(L.flatMap intC).length:=by rw[j4 jC,j4 jC,hp.length_eq]
 rw[j2,List.take_zero,List.nil_append,List.drop_of_length_le zO,List.append_nil]
end Go.Pv.T
namespace Go.Pv.T
open Go Go.Pv
theorem sv237 {Yf:YF}{b:V}(d:b.cells=[b]) (c:b.leaf=true) {ob:ZO}{tk:Nat→Bool}{ro base ub:Nat}:∃r,EvS E Yf.y 237 [b] ob tk ro base ub r ∧
 r.1=.fn (.func 274) [] [.ptr (2*ub+1) ub 0]∧(∀a,r.2.1 a=if a=2*ub+1 then some ⟨ub,.cells [b]⟩ else ob a)∧r.2.2.1=tk∧r.2.2.2=ub+256:=by
 refine Jn (af:=S237) rfl zD ?_
 show wpC E Yf S237.body _ (XT S237.res _)
 simp[S237,d,c]
 exact Yi zS ⟨zS,fun a=>by simp,by simp[JG],zS⟩
def W3 (ops:List Op') (key:Int):Val' × Bool:=JL key ops ops.length
theorem ev177 (nl:Bool) (ops:List Op') (w:ops.length≤1000000) (key:Int):Ev E 177 [slOf nl opC ops,.int .i64 key] (.tup [.agg (jv (W3 ops key).1),.bool (W3 ops key).2]):=by
 refine jQ (af:=F177) rfl ?_
 simp[F177]
 refine jU (vs:=[slOf nl opC ops]) zS rfl (sv237 zS zS) ?_
 rintro v y s t ⟨r,f,K,n⟩
 simp only at r f K n
 subst r n
 simp
 refine jY fun c a=>?_
 have J:c.tm 3=.ptr 6 0 0:=by rw[a];simp
 have j:c.tm 4=.ptr 8 64 0:=by rw[a];simp
 have i:c.tm 5=.ptr 10 128 0:=by rw[a];simp
 have z:c.tm 9=.fn (.func 274) [] [.ptr 513 256 0]:=by rw[a];simp
 have p:c.df=[]:=by rw[a];simp
 have I:c.fb=0:=by rw[a];simp
 have m:c.ro=0:=by rw[a];simp
 have H:c.nx=512:=by rw[a];simp
 have D:c.ob 6=some ⟨0,.cells [.int .i64 key]⟩:=by rw[a];simp only[JA,jhb];rw[f];simp
 have B:c.ob 8=some ⟨64,.cells [.int .i64 0,.int .i64 0]⟩:=by rw[a];simp only[JA,jhb];rw[f];simp
 have k:c.ob 10=some ⟨128,.cells [.bool false]⟩:=by rw[a];simp only[JA,jhb];rw[f];simp
 have G:c.ob 513=some ⟨256,.cells [slOf nl opC ops]⟩:=by rw[a];simp only[JA,jhb];rw[f];simp
 clear a f
 refine jwc nl ops w key 512 H zO z ⟨256,rfl,zO⟩ J j i m I D B k G ?_
 intro e ob M L v b o g q F h d
 have x:W3 ops key=(v,b):=h
 rw[x]
 rcases d with⟨rfl,rfl,rfl⟩|rfl
 ·simp[j,i,objCells,o,g,m,j2,jv]
  refine Wz (l:=1027) (u:=513) (by simp[p]) (by simp[q]) zS (jz rfl (l:=[.agg (jv ⟨0,0⟩),.bool false]) (by simp[jl,objCells,j,i,jv]) rfl rfl)
 ·simp
  refine Wz (l:=1027) (u:=513) (by simp[p]) (by simp[q]) (by simp[m]) (jz rfl (l:=[.agg (jv v),.bool b]) (by simp[jl,objCells,j,i,o,g,jv]) rfl rfl)
def Jp (h:Hist') (i:Int):Bool × List Op':=if W2 h && (decide (0≤i) && decide (i<h.ts.length)) then ((h.ts.getD i.toNat ⟨0,0,true,[]⟩).nl,(h.ts.getD i.toNat ⟨0,0,true,[]⟩).ops) else (true,[])
theorem ev176 {h:Hist'}(g:Small h) (i:Int):Ev E 176 [.agg (histC h),.int .i64 i] (slOf (Jp h i).1 opC (Jp h i).2):=by
 have e:=jp3 g
 have l:=g.ts
 refine jQ (af:=F176) rfl ?_
 obtain⟨R,a⟩:∃R,Jp h i=R:=⟨_,rfl⟩
 rw[a]
 unfold Jp at a
 simp[F176,histC,objCells]
 refine jO e (by simp[histC]) rfl (by simp[histC]) ?_
 cases b:W2 h
 ·rw[Qp b]
  rw[b]at a
  subst a
  simp
  exact j1 rfl (by simp[slOf]) rfl
 rw[b]at a
 rw[Yo b]
 by_cases f:i<0
 ·rw[if_neg (by simp;omega)]at a
  subst a
  simp[f]
  exact j1 rfl (by simp[slOf]) rfl
 by_cases k:(h.ts.length:Int)≤i
 ·rw[if_neg (by simp;omega)]at a
  subst a
  simp[f,k,objCells]
  exact j1 rfl (by simp[slOf]) rfl
 rw[if_pos (by simp;omega)]at a
 obtain⟨j,rfl⟩:∃j:Nat,i=j:=⟨i.toNat,zO⟩
 have c:j<h.ts.length:=zO
 have d:(h.ts.flatMap jn)[j*3+2]? = some (slOf (h.ts[j]).nl opC (h.ts[j]).ops):=by
  rw[jR j7 h.ts c (by decide:2<3)];rfl
 rw[Int.toNat_natCast,Jv c]at a
 subst a
 simp[f,k,objCells,c,j5 j7,d]
 exact j1 rfl zS rfl
theorem jr4 {h:Hist'}(b:Small h) (i:Int):(Jp h i).2.length≤1000:=by
 unfold Jp
 split
 ·rename_i c
  simp only[Bool.and_eq_true,decide_eq_true_eq]at c
  have a:i.toNat<h.ts.length:=zO
  rw[Jv a]
  exact b.os _ (List.getElem_mem a)
 ·simp
theorem ev116 {h:Hist'}(c:Small h) (i key:Int):Ev E 116 [.agg (histC h),.int .i64 i,.int .i64 key] (.tup [.agg (jv (W3 (Jp h i).2 key).1),.bool (W3 (Jp h i).2 key).2]):=by
 have b:=ev176 c i
 have a:=ev177 (Jp h i).1 (Jp h i).2 (by have:=jr4 c i;omega) key
 refine jQ (af:=F116) rfl ?_
 generalize (Jp h i).1=nl at *
 generalize (Jp h i).2=ops at *
 obtain⟨R,d⟩:∃R,W3 ops key=R:=⟨_,rfl⟩
 rw[d]at a ⊢
 simp[F116,histC,objCells]
 refine jO b (by simp[histC]) rfl (by simp[histC]) ?_
 rw[YC (show(slOf nl opC ops).plain=true from rfl)]
 simp
 refine jO a zS rfl zS ?_
 rw[Ji (by simp[V.plain,jv])]
 simp[objCells,j2,jv]
 exact jz zS (l:=[.agg (jv R.1),.bool R.2]) (by simp[jl,objCells,jv]) rfl rfl
def opAt (h:Hist') (a b:Int):Option Op' :=
 if W2 h && (decide (0≤a) && (decide (a<h.ts.length) && (decide (0≤b) && decide (b<((h.ts.getD a.toNat ⟨0,0,true,[]⟩).ops.length:Nat))))) then (h.ts.getD a.toNat ⟨0,0,true,[]⟩).ops[b.toNat]? else none
def op0:Op':=⟨false,0,0,0⟩
theorem ev254 {h:Hist'}(v:Small h) (a b:Int):Ev E 254 [.agg (histC h),.agg (jB (a,b))] (.tup [.agg (opC ((opAt h a b).getD op0)),.bool ((opAt h a b).any fun o=>!o.w)]):=by
 have p:=jp3 v
 have L:=v.ts
 refine jQ (af:=F254) rfl ?_
 obtain⟨R,c⟩:∃R,opAt h a b=R:=⟨_,rfl⟩
 rw[c]
 unfold opAt at c
 simp[F254,histC,objCells,jB]
 generalize r:jqh E Y0 (C.seq (C.draw _ _) _) (jzu _ _)=K
 have d:∀s:St,jzu [.cell 4 (some 4),.t 5] (.tup [.agg (opC (R.getD op0)),.bool (R.any fun o=>!o.w)]) .ret s→K .ret s:=fun s h=>by
  rw[← r,jnl]
  exact h
 refine X5 p (by simp[histC]) rfl (by simp[histC]) ?_
 cases m:W2 h
 ·rw[Qp m]
  rw[m]at c
  subst c
  simp[objCells,j2]
  exact d _ (jz zS (l:=[.agg (opC op0),.bool false]) (by simp[jl,objCells,opC,op0]) rfl rfl)
 rw[m]at c
 rw[Yo m]
 by_cases k:a<0
 ·rw[if_neg (by simp;omega)]at c
  subst c
  simp[k,objCells,j2]
  exact d _ (jz zS (l:=[.agg (opC op0),.bool false]) (by simp[jl,objCells,opC,op0]) rfl rfl)
 by_cases n:(h.ts.length:Int)≤a
 ·rw[if_neg (by simp;omega)]at c
  subst c
  simp[k,n,objCells,j2]
  exact d _ (jz zS (l:=[.agg (opC op0),.bool false]) (by simp[jl,objCells,opC,op0]) rfl rfl)
 obtain⟨i,rfl⟩:∃i:Nat,a=i:=⟨a.toNat,zO⟩
 have f:i<h.ts.length:=zO
 rw[Int.toNat_natCast,Jv f]at c
 obtain⟨t,q⟩:∃t,h.ts[i]=t:=⟨_,rfl⟩
 rw[q]at c
 have Q:=v.os t (q▸List.getElem_mem f)
 have e:(h.ts.flatMap jn)[i*3+2]? = some (slOf t.nl opC t.ops):=by
  rw[jR j7 h.ts f (by decide:2<3),q];rfl
 by_cases u:b<0
 ·rw[if_neg (by simp;omega)]at c
  subst c
  simp[k,n,u,objCells,j2]
  exact d _ (jz zS (l:=[.agg (opC op0),.bool false]) (by simp[jl,objCells,opC,op0]) rfl rfl)
 by_cases y:(t.ops.length:Int)≤b
 ·rw[if_neg (by simp;omega)]at c
  subst c
  simp[k,n,u,y,objCells,j2,f,j5 j7,e]
  exact d _ (jz zS (l:=[.agg (opC op0),.bool false]) (by simp[jl,objCells,opC,op0]) rfl rfl)
 obtain⟨j,rfl⟩:∃j:Nat,b=j:=⟨b.toNat,zO⟩
 have z:j<t.ops.length:=zO
 rw[if_pos (by simp;omega),Int.toNat_natCast,List.getElem?_eq_getElem z]at c
 obtain⟨o,B⟩:∃o,t.ops[j]=o:=⟨_,rfl⟩
 rw[B]at c
 subst c
 have O:¬ t.ops.length≤j:=zO
 have F:¬ h.ts.length≤i:=zO
 have g:∀s:St,s.tm 2=.ptr 4 0 0→s.tm 3=.ptr 6 64 0→s.tm 4=.ptr 8 128 0→s.ob 4=some ⟨0,.cells (histC h)⟩→s.ob 6=some ⟨64,.cells [.int .i64 i,.int .i64 j]⟩→s.ob 8=some ⟨128,.cells [.bool false,.int .i64 0,.int .i64 0,.int .i64 0]⟩→s.df=[]→s.ro=0→s.fb=0→K .nrm s:=by
  intro s H P x J N I G D M
  rw[← r,jht]
  simp[H,P,J,N,objCells,histC,f,j5 j7,e,z,j5 jH,ja jH,B,opC,j2,M,D]
  refine⟨by simp[Jw,QR,Qv,jbf,rdOb,rdTk,lOf,Delta.wo,Delta.wt];try decide,?_⟩
  simp[x,I,objCells,D,j2]
  refine⟨by simp[Jw,QR,Qv,jbf,rdOb,rdTk,lOf,Delta.wo,Delta.wt,x];try decide,?_⟩
  exact jz (by simp[G]) (l:=[.agg (opC o),.bool !o.w]) (by simp[jl,objCells,opC,x]) rfl (by simp[j0x,opC])
 clear r
 simp[k,n,u,y,objCells,f,j5 j7,e]
 exact g _ zS zS zS (by simp[histC]) zS zS zS zS zS
def valV (v:Val'):V:=.agg (jv v)
def Y1 (g:Hist') (key i:Int):Val':=(W3 (Jp g i).2 key).1
def Jf (g:Hist') (a key:Int) (W:List Int):List (Int × Val'):=(W.filter fun i=>!(i == a)).map fun i=>(i,Y1 g key i)
theorem Wo {p:Txn'→Bool}{ts:List Txn'}:∀n,n≤ts.length→(∀x∈numsTo p ts n,0≤x∧x<n)∧(numsTo p ts n).Pairwise (· < ·)
 | 0,_=>by simp[numsTo]
 | n+1,h=>by
  have a:=Wo (p:=p) (ts:=ts) n zO
  have e:=JM (p:=p) (show n<ts.length by omega)
  rw[e]
  cases d:p ts[n]
  ·simp only[Bool.false_eq_true,if_false,List.append_nil]
   exact⟨fun x b=>by have:=a.1 x b;omega,a.2⟩
  ·simp only[if_true]
   refine⟨fun x b=>?_,?_⟩
   ·rcases List.mem_append.1 b with h|h
    ·have:=a.1 x h;omega
    ·rw[List.mem_singleton]at h;omega
   ·rw[List.pairwise_append]
    refine⟨a.2,List.pairwise_singleton _ _,fun x b y c=>?_⟩
    rw[List.mem_singleton]at c
    have:=a.1 x b
    omega
theorem jw4 {b:Type}{m:List (Int × b)}{k:Int}{a:b}(h:k ∉ m.map (·.1)):jib m k a=m++[(k,a)]:=by
 unfold jib
 rw[mfind_none.2 h]
theorem jhf {g:Hist'}{a key:Int}{W:List Int}{i:Nat}(hi:i<W.length):Jf g a key (W.take (i+1))=Jf g a key (W.take i)++(if W[i]=a then [] else [(W[i],Y1 g key W[i])]):=by
 unfold Jf
 rw[List.take_succ_eq_append_getElem hi,List.filter_append,List.map_append]
 by_cases h:W[i]=a <;> simp[h]
theorem jjd {g:Hist'}{a key:Int}{W:List Int}(f:W.Pairwise (· < ·)) {i:Nat}(hi:i<W.length):W[i] ∉ (Jf g a key (W.take i)).map (·.1):=by
 intro h
 unfold Jf at h
 rw[List.map_map]at h
 obtain⟨x,e,c⟩:=List.mem_map.1 h
 have b:=(List.mem_filter.1 e).1
 simp only[Function.comp]at c
 obtain⟨j,d,rfl⟩:=List.getElem_of_mem b
 rw[List.length_take]at d
 rw[List.getElem_take]at c
 have:=List.pairwise_iff_getElem.1 f j i zO hi zO
 omega
def OthR (g:Hist') (a key:Int) (W:List Int) (ob:ZO) (ub:Nat) (r:V × (ZO) × (Nat→Bool) × Nat):Prop :=
 ∃M U ver:Nat,r.1=.map (2*M+1) U∧ub≤M∧M<r.2.2.2∧ub≤U∧r.2.1 (2*M+1)=some ⟨U,.mp ver (MP valV (Jf g a key W))⟩∧(∀k,(∀m,ub≤m→k≠2*m+1)→r.2.1 k=ob k)∧ub≤r.2.2.2
theorem sv255 {Yf:YF}{g:Hist'}(S:Small g) (hm:W2 g=true) (a key:Int) {ob:ZO}{tk:Nat→Bool}{ro base ub:Nat}(b0:ro≤ub) :
 ∃r,EvS E Yf.y 255 [.agg (histC g),.int .i64 a,.int .i64 key] ob tk ro base ub r∧OthR g a key (writersH g key) ob ub r:=by
 refine Jn (af:=S255) rfl zD ?_
 show wpC E Yf S255.body _ (XT S255.res _)
 obtain⟨vw,K,H⟩:=ev281 S hm key
 obtain⟨W,J⟩:∃W,writersH g key=W:=⟨_,rfl⟩
 have b5:W.length≤1000:=by have U:=JJ (wrB key) g.ts g.ts.length;have h2:=S.ts;rw[← J];unfold writersH;omega
 have P:W.Pairwise (· < ·):=by rw[← J];exact(Wo _ zR).2
 rw[J]at H ⊢
 have N:¬ 2*ub=2*(ub+64+64):=zO
 have n2:¬ 2*(ub+64+64)=2*ub:=zO
 simp[S255,histC,objCells,N]
 refine jO K (by simp[histC]) rfl (by simp[histC]) ?_
 obtain⟨T,H⟩:=H
 obtain⟨t,add,p⟩:=jla (ub:=ub+64+64+64+64+64+64) H
 rw[p]
 simp
 refine jY fun e b=>?_
 obtain⟨M,G⟩:∃M,M=ub+64+64:=⟨_,rfl⟩
 have g1:e.tm 1=.int .i64 a:=by rw[b];simp
 have g2:e.tm 2=.int .i64 key:=by rw[b];simp
 have g3:e.tm 3=.ptr (2*ub+1) ub 0:=by rw[b];simp
 have g7:e.tm 7=.map (2*M+1) M:=by rw[b,G];simp
 have Q:e.tm 13=.sl t T W.length (W.flatMap intC):=by rw[b];simp
 have O:e.tm 14=.int .i64 W.length:=by rw[b];simp
 have I:e.tm 15=.int .i64 0:=by rw[b];simp
 have gd:e.df=[]:=by rw[b];simp
 have gr:e.ro=ro:=by rw[b];simp
 have gn:M<e.nx:=by rw[b,G];simp
 have ph:e.ob (2*ub+1)=some ⟨ub,.cells (histC g)⟩:=by rw[b];simp[N,histC]
 have pm:e.ob (2*M+1)=some ⟨M,.mp 0 []⟩:=by rw[b,G];simp
 have pf:∀k,(∀m,ub≤m→k≠2*m+1)→e.ob k=ob k:=by
  intro k v
  have U:=v ub zO
  have h2:=v (ub+64+64) zO
  rw[b];simp[U,h2]
 clear b p
 have b6:ub<M:=zO
 clear G N n2
 refine j8 [(9,9),(15,31)] W.length (fun i s=>s.tm 15=.int .i64 i∧M<s.nx∧s.ob (2*ub+1)=some ⟨ub,.cells (histC g)⟩∧(∀k,(∀m,ub≤m→k≠2*m+1)→s.ob k=ob k)∧∃ver,s.ob (2*M+1)=some ⟨M,.mp ver (MP valV (Jf g a key (W.take i)))⟩) rfl rfl
  ⟨by simp[I],gn,ph,pf,0,by simp[pm,Jf,MP]⟩ ?_
 rintro i s hi ⟨o,hn,oh,of,ver,om⟩ f
 have f1:s.tm 1=.int .i64 a:=by rw[f.t 1 zS,g1]
 have f2:s.tm 2=.int .i64 key:=by rw[f.t 2 zS,g2]
 have f3:s.tm 3=.ptr (2*ub+1) ub 0:=by rw[f.t 3 zS,g3]
 have Z:s.tm 7=.map (2*M+1) M:=by rw[f.t 7 zS,g7]
 have F:s.tm 13=.sl t T W.length (W.flatMap intC):=by rw[f.t 13 zS,Q]
 have q:s.tm 14=.int .i64 W.length:=by rw[f.t 14 zS,O]
 have fd:s.df=[]:=by rw[f.d,gd]
 have fr:s.ro=ro:=by rw[f.r,gr]
 clear f
 by_cases c:i<W.length
 ·have hw:=jb c zO
  obtain⟨x,X⟩:∃x,W[i]=x:=⟨_,rfl⟩
  have hI:JP 1 (.sl t T W.length (W.flatMap intC)) (.int .i64 (i:Int))=some (.eptr (W.flatMap intC) i):=by
   simp[JP,c,j4 jC]
  have B:∀ob,Ws ob none (.eptr (W.flatMap intC) i)=some (.int .i64 x):=fun ob=>by
   have h:=jR jC W c (by decide:0<1)
   rw[X,Nat.mul_one,Nat.add_zero]at h
   rw[jbu]
   simpa[Xb,intC] using h
  have j:=jhf (g:=g) (a:=a) (key:=key) c
  have D:=jjd (g:=g) (a:=a) (key:=key) P c
  rw[X]at j D
  by_cases n:x=a
  ·rw[if_pos n,List.append_nil]at j
   subst n
   simp[o,F,q,c,hI,B,f1,hw]
   exact⟨zO,oh,of,ver,by rw[j];exact om⟩
  ·rw[if_neg n]at j
   have w:(x != a)=true:=by simpa using n
   have z:=ev116 S x key
   simp[o,F,q,c,hI,B,f1,w,f2,f3,oh,objCells,Z,histC]
   refine jO z (by simp[histC]) rfl (by simp[histC]) ?_
   rw[Ji (by simp[V.plain,jv])]
   have a0:valV (W3 (Jp g x).2 key).1=valV (Y1 g key x):=rfl
   simp
   refine jaz (f:=valV) (a:=Y1 g key x) (ver:=ver) (l:=2*M+1) (u:=M) (k:=x) (Jf g a key (W.take i)) zS zS (by simp[valV,Y1,jv]) (by simpa using om) (by simp[fr];omega) ?_
   rw[jw4 D,← j]
   have nM:¬ 2*ub+1=2*M+1:=zO
   have L:¬ 2*ub=2*M:=zO
   simp[o,hw,L,oh,histC]
   refine⟨c,zO,fun k v=>?_⟩
   have:=v M zO
   rw[if_neg this]
   exact of k v
 ·have:i=W.length:=zO
  subst this
  rw[List.take_length]at om
  simp[o,q,Z]
  exact Yi (by simp[fd]) ⟨M,M,ver,zS,zO,by simp;omega,zO,by simpa using om,by simpa using of,by simp;omega⟩
section
variable {E:Env}{Yf:YF}{st:St}{ub:Nat}{K:St→Nat→Prop}{d:Option Nat}{nm:Bool}
theorem jlw {x:A}{l u ver:Nat}{es:List (V × V)}(e:eval E st.tm x=.map l u) (a:st.ob l=some ⟨u,.mp ver es⟩)
 (h:WZ K st d ub { v:=.iter (jG d nm st.fb ub) ub,obs:=[(jG d nm st.fb ub,⟨ub,.miter l u ver es none⟩)] }):j6 E Yf ⟨d,.range false x,none,nm⟩ st ub K:=by
 rw[jP _ rfl rfl]
 have b:jg st.ob l u=some es:=by simp[jg,a]
 have c:jk st.ob l=ver:=by simp[jk,a]
 simp only[aop,e,b,c,Option.bind_some,Jg,jK,Jq]
 exact h
theorem jja {l u l' u' ver:Nat}{δ:Delta}:∀ {es c:List (V × V)},δ∈jjb l u l' u' ver c es→∃a k v b,es=a++(k,v)::b∧δ = { v:=.tup [.bool true,k,v],obs:=[(l,⟨u,.miter l' u' ver (c++a++b) (some (k,v))⟩)] }
 | [],_,h=>by simp[jjb]at h
 | (k,v)::r,c,h=>by
  rw[jjb,List.mem_cons]at h
  rcases h with h|h
  ·exact⟨[],k,v,r,rfl,by rw[h];simp⟩
  ·obtain⟨a,i,f,b,e,g⟩:=jja h
   exact⟨(k,v)::a,i,f,b,by rw[e];rfl,by rw[g];simp⟩
theorem jps {x:A}{l u l' u' ver:Nat}{left es:List (V × V)}{g:Option (V × V)}(i:eval E st.tm x=.iter l u) (h:st.ob l=some ⟨u,.miter l' u' ver left g⟩) (m:st.ob l'=some ⟨u',.mp ver es⟩) (f:st.ro≤u)
 (s:left=[]→Qr K st d ub (.tup [.bool false]))
 (o:∀a k v b,left=a++(k,v)::b→WZ K st d ub { v:=.tup [.bool true,k,v],obs:=[(l,⟨u,.miter l' u' ver (a++b) (some (k,v))⟩)] }):j6 E Yf ⟨d,.nextMap x,none,nm⟩ st ub K:=by
 have n:(jg st.ob l' u').isSome=true:=by simp[jg,m]
 have j:jk st.ob l'=ver:=by simp[jk,m]
 simp only[j6,wanted,jf,jA]
 cases left with
 | nil=>
  refine⟨[{ v:=.tup [.bool false] }],?_,?_⟩
  ·simp only[jlp,i,h]
   rw[if_pos ⟨Nat.ble_eq▸f,trivial,n,j⟩]
  ·intro t c
   rw[List.mem_singleton]at c
   subst c
   have:=s rfl
   rw[Qx]
   exact this
 | cons p r=>
  refine⟨jjb l u l' u' ver [] (p::r),?_,?_⟩
  ·simp only[jlp,i,h]
   rw[if_pos ⟨Nat.ble_eq▸f,trivial,n,j⟩]
  ·intro t c
   obtain⟨a,k,v,b,e,q⟩:=jja c
   subst q
   exact o a k v b e
theorem jxn {x:A}{l u l' u' ver:Nat}{left es:List (V × V)}{k v:V}(c:eval E st.tm x=.iter l u) (e:st.ob l=some ⟨u,.miter l' u' ver left (some (k,v))⟩) (a:st.ob l'=some ⟨u',.mp ver es⟩)
 (h:Qr K st d ub (.tup [k,v])):j6 E Yf ⟨d,.entry x,none,nm⟩ st ub K:=by
 have b:(jg st.ob l' u').isSome=true:=by simp[jg,a]
 have f:jk st.ob l'=ver:=by simp[jk,a]
 rw[jP _ rfl rfl]
 simp only[aop,c,e]
 rw[if_pos ⟨trivial,b,f⟩,We,Qx]
 exact h
end
def IntsO (ob:ZO) (p:Nat→Prop) (l:List Int) (v:V):Prop :=
 (l=[]∧v=.sl none true 0 [])∨(l≠[]∧∃u,v=.osl (2*u+1) u 0 l.length 1∧ob (2*u+1)=some ⟨u,.cells (l.flatMap intC)⟩∧p u)
theorem IntsO.frame {ob ob':ZO}{p b:Nat→Prop}{l:List Int}{v:V}(h:IntsO ob p l v) (g:∀u,p u→ob' (2*u+1)=ob (2*u+1)) (i:∀u,p u→b u):IntsO ob' b l v:=by
 rcases h with h|⟨c,u,f,e,a⟩
 ·exact Or.inl h
 ·exact Or.inr ⟨c,u,f,(g u a).trans e,i u a⟩
theorem je7 (st:St) (d:Option Nat) (v:V) (l:Nat) (o:Obj') (kl:List Nat) (k:Nat):(st.app d { v:=v,obs:=[(l,o)],kill:=kl }).ob k=if k=l then some o else if kl.any (Nat.beq k) then none else st.ob k:=by
 simp[St.app,JK,j3]
theorem jh4 (st:St) (d:Option Nat) (v:V) (l:Nat) (o:Obj') (kl:List Nat) (k:Nat) (h:k ∉ kl):(st.app d { v:=v,obs:=[(l,o)],kill:=kl }).ob k=if k=l then some o else st.ob k:=by
 rw[je7]
 have:(kl.any (Nat.beq k))=false:=by
  rw[List.any_eq_false]
  intro x b a
  exact h (Nat.eq_of_beq_eq_true a▸b)
 rw[this]
 rfl
theorem jfq (st:St) (k:Nat):∀l:List Int,(l.flatMap intC).mapM (JC st (k+1))=some (l.flatMap intC)
 | []=>rfl
 | a::l=>by
  show((V.int .i64 a)::l.flatMap intC).mapM _=_
  rw[List.mapM_cons,jfq st k l]
  rfl
def jhv (T:List Int):V:=if T.isEmpty then .sl none true 0 [] else .sl (some (0,1)) false T.length (T.flatMap intC)
theorem QE (T:List Int):j0i T (jhv T):=by
 cases T with
 | nil=>exact⟨true,none,rfl,zS⟩
 | cons a T=>exact⟨false,some (0,1),rfl,zS⟩
theorem W4 {st:St}{p:Nat→Prop}{n:Nat}{T:List Int}{v:V}(j:st.df=[]) (m:st.tm n=v) (h:IntsO st.ob p T v) (g:∀u,p u→st.ro≤u):jzu [.t n] (jhv T) .ret st:=by
 show ja8 [.t n] (.ret,st)=some (jhv T)
 rcases h with⟨rfl,rfl⟩|⟨e,u,rfl,l,w⟩
 ·exact j1 j (by rw[m];rfl) rfl
 ·have f:objCells st.ob (2*u+1) u=some (T.flatMap intC):=by simp[objCells,l]
  have a:(T.flatMap intC).length=T.length:=by rw[j4 jC];omega
  have b:T.isEmpty=false:=by cases T with|nil=>exact absurd rfl e|cons=>rfl
  have c:0<T.length:=List.length_pos_iff.2 e
  have o:JC st 6 (.osl (2*u+1) u 0 T.length 1)=some (.sl none false T.length (T.flatMap intC)):=by
   show((objCells st.ob (2*u+1) u).bind fun cs=>if Nat.ble st.ro u=true∧0+T.length*1≤cs.length then (((cs.drop 0).take (T.length*1)).mapM (JC st 5)).map fun k=>V.sl none false T.length k else none)=_
   rw[f,Option.bind_some]
   rw[if_pos ⟨Nat.ble_eq▸g u w,zO⟩]
   rw[List.drop_zero,Nat.mul_one,List.take_of_length_le zO,jfq]
   rfl
  have q:ji st true 0 (.osl (2*u+1) u 0 T.length 1)=some (.sl (some (0,1)) false T.length (T.flatMap intC)):=by
   simp only[ji,o,Option.bind_some,f,Option.map_some]
   have r:(true && Nat.beq 0 0 && Nat.blt 0 T.length && Nat.beq (T.length*1) (T.flatMap intC).length)=true:=by
    rw[a,Nat.mul_one,Nat.beq_refl,Nat.beq_refl]
    simp
    exact c
   rw[r]
   rfl
  have i:XS st true 0 (.osl (2*u+1) u 0 T.length 1)=some (.sl (some (0,1)) false T.length (T.flatMap intC)):=q
  have x:[ARes.t n].mapM (jl st)=some [.osl (2*u+1) u 0 T.length 1]:=by simp[jl,m]
  simp only[ja8,YU j,YN j,if_true,x,Option.bind_some,Yg]
  have s:nodup ([V.osl (2*u+1) u 0 T.length 1].flatMap V.toks)=true:=rfl
  rw[s]
  simp only[JE,i,Option.bind_some,Option.map_some]
  rw[jhv,b]
  rfl
theorem QH {E:Env}{Yf:YF}{st:St}{ub:Nat}{K:St→Nat→Prop}{d:Option Nat}{p:Nat→Prop}{l:List Int}{z:Int}{v:V}{s x:A}{X uX:Nat}(f:eval E st.tm s=v) (n:IntsO st.ob p l v) (j:eval E st.tm x=.osl X uX 0 1 1) (m:st.ob X=some ⟨uX,.cells [.int .i64 z]⟩) (b:∀u,p u→st.ro≤u) (q:l.length≤1000)
 (h:∀i:List Nat,(∀k∈i,∃u,p u∧k=2*u+1)→WZ K st d ub { v:=.osl (2*ub+1) ub 0 (l++[z]).length 1,obs:=[(2*ub+1,⟨ub,.cells ((l++[z]).flatMap intC)⟩)],kill:=i }) :
 j6 E Yf ⟨d,.append true 1 8 s x,none,true⟩ st ub K:=by
 have a:slCells st.ob 1 (eval E st.tm x)=some [.int .i64 z]:=by
  rw[j]
  simp[slCells,objCells,m]
 rcases n with⟨rfl,rfl⟩|⟨o,u,rfl,c,g⟩
 ·refine XE f a zS zD rfl zS zS ?_
  simpa[intC,jG] using h [] zS
 ·have e:(l.flatMap intC).length=l.length:=by rw[j4 jC];omega
  refine XN (cs:=l.flatMap intC) f a c zS (b u g) zO zD rfl (by simp;omega) (by simp;omega) ?_
  have:=h [2*u+1] (by simp;exact⟨u,g,rfl⟩)
  rw[Nat.mul_one,List.take_of_length_le zO]
  simpa[intC,jG] using this
end Go.Pv.T
