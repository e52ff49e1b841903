/- The compiled functions, part 1. -/
import Derived.Test.YtphecmnehkdihaaGreatDoorOC
import Derived.KernelRfl
import Derived.Test.YtphecmnehkdihaaGreatDoorRows
import Derived.Laws.BitsLemmas
import Derived.Lib.ValidLaws
import Derived.Laws.Bits64
set_option maxRecDepth 100000
namespace Go.Pv.T
open Go Go.Pv Go.Proofs
noncomputable section
noncomputable def cf (m r:Bool) (f:Func):AF:=(j3z Tryz.prog m r f).getD ⟨.stuck,[]⟩
abbrev oo (d:Nat) (p:AOp):AOpr:=⟨some d,p,none,false⟩
abbrev qq (d:Nat) (p:AOp):AOpr:=⟨some d,p,none,true⟩
abbrev ou (p:AOp):AOpr:=⟨none,p,none,false⟩
abbrev qu (p:AOp):AOpr:=⟨none,p,none,true⟩
abbrev og (d:Nat) (p:AOp) (t:Nat) (b:Bool):AOpr:=⟨some d,p,some (t,b),false⟩
abbrev qg (d:Nat) (p:AOp) (t:Nat) (b:Bool):AOpr:=⟨some d,p,some (t,b),true⟩
abbrev oh (p:AOp) (t:Nat) (b:Bool):AOpr:=⟨none,p,some (t,b),false⟩
abbrev qh (p:AOp) (t:Nat) (b:Bool):AOpr:=⟨none,p,some (t,b),true⟩
abbrev ov (d k:Nat):AOpr:=⟨some d,.mov (.t k),none,false⟩
abbrev qv (d k:Nat):AOpr:=⟨some d,.mov (.t k),none,true⟩
abbrev nn (k:Int):A:=.c (.int .i64 k)
abbrev ol (d k:Nat):AOpr:=⟨some d,.load none (.t k),none,false⟩
abbrev os (d n k:Nat):AOpr:=⟨some d,.load (some n) (.t k),none,false⟩
abbrev ox (d s a b:Nat):AOpr:=⟨some d,.idxSl s (.t a) (.t b),none,false⟩
abbrev om (d:Nat) (k:Int):AOpr:=⟨some d,.mov (nn k),none,false⟩
abbrev oe (d k i:Nat):AOpr:=⟨some d,.extract (.t k) i,none,false⟩
abbrev of (d n k:Nat):AOpr:=⟨some d,.fieldAddr n (.t k),none,false⟩
abbrev on (d:Nat) (p:BinOp) (a:Nat) (k:Int):AOpr:=⟨some d,.bin p (.t a) (nn k),none,false⟩
abbrev ob (d:Nat) (p:BinOp) (a b:Nat):AOpr:=⟨some d,.bin p (.t a) (.t b),none,false⟩
abbrev ql (d k:Nat):AOpr:=⟨some d,.load none (.t k),none,true⟩
abbrev qs (d n k:Nat):AOpr:=⟨some d,.load (some n) (.t k),none,true⟩
abbrev qx (d s a b:Nat):AOpr:=⟨some d,.idxSl s (.t a) (.t b),none,true⟩
abbrev qm (d:Nat) (k:Int):AOpr:=⟨some d,.mov (nn k),none,true⟩
abbrev qe (d k i:Nat):AOpr:=⟨some d,.extract (.t k) i,none,true⟩
abbrev qf (d n k:Nat):AOpr:=⟨some d,.fieldAddr n (.t k),none,true⟩
abbrev qn (d:Nat) (p:BinOp) (a:Nat) (k:Int):AOpr:=⟨some d,.bin p (.t a) (nn k),none,true⟩
abbrev qb (d:Nat) (p:BinOp) (a b:Nat):AOpr:=⟨some d,.bin p (.t a) (.t b),none,true⟩
abbrev sr (l:List AOpr) (b:C):C:=.seq (.region l) b
abbrev aF:A:=.c (.bool false)
abbrev aT:A:=.c (.bool true)
abbrev fA:=AOp.fieldAddr
abbrev sq:=C.seq
abbrev rg:=C.region
abbrev lS:=AOp.lenSl
abbrev Z0:A:=.t 0
abbrev Z1:A:=.t 1
abbrev Z2:A:=.t 2
abbrev Z3:A:=.t 3
abbrev Z4:A:=.t 4
abbrev Z5:A:=.t 5
abbrev Z6:A:=.t 6
abbrev Z7:A:=.t 7
abbrev Z8:A:=.t 8
abbrev Z9:A:=.t 9
abbrev Z10:A:=.t 10
abbrev Z11:A:=.t 11
abbrev Z12:A:=.t 12
abbrev Z13:A:=.t 13
abbrev Z14:A:=.t 14
abbrev Z15:A:=.t 15
abbrev Z16:A:=.t 16
abbrev Z17:A:=.t 17
abbrev Z18:A:=.t 18
abbrev Z19:A:=.t 19
abbrev Z20:A:=.t 20
abbrev Z21:A:=.t 21
abbrev Z22:A:=.t 22
abbrev Z23:A:=.t 23
abbrev Z24:A:=.t 24
abbrev Z25:A:=.t 25
abbrev Z26:A:=.t 26
abbrev Z27:A:=.t 27
abbrev Z28:A:=.t 28
abbrev Z29:A:=.t 29
abbrev Z30:A:=.t 30
abbrev Z31:A:=.t 31
abbrev Z32:A:=.t 32
abbrev Z33:A:=.t 33
abbrev Z34:A:=.t 34
abbrev Z35:A:=.t 35
abbrev Z36:A:=.t 36
abbrev Z37:A:=.t 37
abbrev Z38:A:=.t 38
abbrev Z39:A:=.t 39
abbrev Z40:A:=.t 40
abbrev Z41:A:=.t 41
abbrev Z42:A:=.t 42
abbrev Z43:A:=.t 43
abbrev Z44:A:=.t 44
abbrev Z45:A:=.t 45
abbrev Z46:A:=.t 46
abbrev Z47:A:=.t 47
abbrev Z49:A:=.t 49
abbrev Z50:A:=.t 50
abbrev Z51:A:=.t 51
abbrev Z52:A:=.t 52
abbrev Z53:A:=.t 53
abbrev Z54:A:=.t 54
abbrev Z55:A:=.t 55
abbrev Z56:A:=.t 56
abbrev Z57:A:=.t 57
abbrev Z59:A:=.t 59
abbrev Z60:A:=.t 60
abbrev Z62:A:=.t 62
abbrev Z63:A:=.t 63
abbrev Z65:A:=.t 65
abbrev Z66:A:=.t 66
abbrev Z67:A:=.t 67
abbrev Z68:A:=.t 68
abbrev Z69:A:=.t 69
abbrev Z70:A:=.t 70
abbrev Z72:A:=.t 72
abbrev Z73:A:=.t 73
abbrev Z74:A:=.t 74
abbrev Z75:A:=.t 75
abbrev Z78:A:=.t 78
abbrev Z79:A:=.t 79
abbrev Z80:A:=.t 80
abbrev Z81:A:=.t 81
abbrev Z83:A:=.t 83
abbrev Z85:A:=.t 85
abbrev Z86:A:=.t 86
abbrev Z89:A:=.t 89
abbrev Z90:A:=.t 90
abbrev Z91:A:=.t 91
abbrev Z92:A:=.t 92
abbrev wT (d:Nat) (p:AOp) (t:Nat):AOpr:=og d p t true
abbrev wF (d:Nat) (p:AOp) (t:Nat):AOpr:=og d p t false
abbrev zT (d:Nat) (p:AOp) (t:Nat):AOpr:=qg d p t true
abbrev zF (d:Nat) (p:AOp) (t:Nat):AOpr:=qg d p t false
abbrev uT (p:AOp) (t:Nat):AOpr:=oh p t true
abbrev uF (p:AOp) (t:Nat):AOpr:=oh p t false
abbrev vT (p:AOp) (t:Nat):AOpr:=qh p t true
abbrev vF (p:AOp) (t:Nat):AOpr:=qh p t false
def F9:AF:=⟨sr [oo 3 (.box 3 Z0),oo 6 (.mov aF)] (sq (.draw [os 13 3 3,oo 14 (.call 15 [Z13]),ov 15 1,ov 16 1,oo 17 (lS Z16),oo 18 (.minmax false [Z17,(nn 60)]),oo 19 (.slSl 1 Z15 none (some Z18)),oo 20 (.call 25 [Z19]),ou (.store 3 Z3 Z14),ov 1 20] []) (sr [os 22 3 3,oo 23 (.call 15 [Z22]),ov 24 1,oo 25 (.call 25 [Z24]),ov 26 2,oo 27 (.call 34 [Z23,Z25,Z26]),ov 21 27,oe 28 21 0,oe 29 21 1,oe 30 21 2,ov 7 28,ov 8 29,ov 9 30] (sr [os 32 3 3,ov 33 1,ov 34 2,oo 35 (.call 35 [Z32,Z33,Z34]),ov 31 35,oe 36 31 0,oe 37 31 1,oe 38 31 2,ov 10 36,ov 11 37,ov 12 38] (sr [ov 39 7,ov 40 10,oo 41 (.call 32 [Z39,Z40]),ov 42 41,wT 43 (.mov Z8) 42,wT 44 (.mov Z11) 42,wT 45 (.bin .eql Z43 Z44) 42,oo 46 (.pick Z42 Z45 aF),ov 47 46,wT 48 (.mov Z9) 47,wT 49 (.mov Z12) 47,wT 50 (.bin .eql (.t 48) Z49) 47,oo 51 (.pick Z47 Z50 aF),ov 52 51,wT 53 (.call 36 []) 52,oo 54 (.pick Z52 Z53 aF),ov 6 54] .ret)))),[.t 6]⟩
def F15:AF:=⟨sr [qq 1 (.box 3 Z0),qq 2 (.alloc [(.sl none true 0 []),(.sl none true 0 []),(.sl none true 0 [])])] (sr [qs 4 3 1,qq 5 (.call 51 [Z4]),qu (.store 3 Z1 Z5)] (sq (sr [qf 6 2 1,ql 7 6,qq 8 (lS Z7),qn 9 .gtr 8 8] (.cond Z9 (rg [qf 10 2 1,qu (.store 1 Z10 (.c (.sl none true 0 [])))]) .skip)) (sq (sr [qm 3 0] (.block 0 (.loop (sq (sr [qv 11 3,qf 12 2 1,ql 13 12,qq 14 (lS Z13),qb 15 .lss 11 14] (.cond Z15 .skip (.exit 0))) (sq (.block 1 (.draw [qf 18 2 1,ql 19 18,qv 20 3,qf 21 2 1,ql 22 21,qv 23 3,qx 24 3 22 23,qf 25 2 24,ql 26 25,qf 27 2 1,ql 28 27,qv 29 3,qx 30 3 28 29,qf 31 2 30,ql 32 31,qq 33 (lS Z32),qq 34 (.minmax false [Z33,(nn 6)]),qq 35 (.slSl 4 Z26 none (some Z34)),qx 36 3 19 20,qf 37 2 36,qu (.store 1 Z37 Z35)] [])) (rg [qv 16 3,qn 17 .add 16 1,qv 3 17])))))) (sr [qs 38 3 1,qu (.store 3 Z2 Z38)] .ret)))),[.cell 2 (some 3)]⟩
def F21:AF:=⟨sr [oo 1 (.box 3 Z0),oo 2 (.mov aF)] (sq (.draw [os 3 3 1,oo 4 (.call 58 [Z3]),on 5 .eql 4 0,ov 6 5,wT 7 (.load (some 3) Z1) 6,wT 8 (.call 59 [Z7]) 6,wT 9 (lS Z8) 6,wT 10 (.load (some 3) Z1) 6,wT 11 (.call 60 [Z10]) 6,wT 12 (lS Z11) 6,wT 13 (.bin .add Z9 Z12) 6,wT 14 (.bin .eql Z13 (nn 0)) 6,oo 15 (.pick Z6 Z14 aF),ov 2 15] []) .ret),[.t 2]⟩
def F22:AF:=⟨sr [oo 2 (.box 3 Z0),oo 4 (.mov aF)] (sq (sr [os 7 3 2,oo 8 (.call 21 [Z7]),oo 9 (.un .not Z8)] (.cond Z9 (sr [oo 4 (.mov aF)] .ret) .skip)) (sr [os 10 3 2,oo 11 (.call 61 [Z10]),ov 5 11] (sq (sr [ov 12 1,oo 13 (lS Z12),ov 14 5,oo 15 (lS Z14),ob 16 .neq 13 15] (.cond Z16 (sr [oo 4 (.mov aF)] .ret) .skip)) (sq (sr [om 6 0] (.block 0 (.loop (sq (sr [ov 17 6,ov 18 5,oo 19 (lS Z18),ob 20 .lss 17 19] (.cond Z20 .skip (.exit 0))) (sq (.block 1 (sq (.draw [ov 23 5,ov 24 6,ox 25 1 23 24,ol 26 25,ov 27 1,ov 28 6,ox 29 1 27 28,ol 30 29,oo 31 (.call 62 [Z26,Z30]),oo 32 (.un .not Z31)] []) (.cond Z32 (sr [oo 4 (.mov aF)] .ret) .skip))) (rg [ov 21 6,on 22 .add 21 1,ov 6 22])))))) (sr [oo 4 (.mov aT)] .ret))))),[.t 4]⟩
def F25:AF:=⟨sr [oo 2 (.mov (.c (.sl none true 0 [])))] (sr [oo 3 (.buildSl false 1 [] [] 0),ov 4 0,oo 5 (.append false 1 8 Z3 Z4),ov 2 5] .ret),[.t 2]⟩
def F31:AF:=⟨sr [oo 1 (.box 3 Z0),oo 2 (.mov (.c (.sl none true 0 [])))] (sr [oo 7 (.buildSl false 2 [] [] 0),ov 3 7] (sq (sr [om 4 0] (.block 0 (.loop (sq (sr [ov 8 4,of 9 2 1,ol 10 9,oo 11 (lS Z10),ob 12 .lss 8 11] (.cond Z12 .skip (.exit 0))) (sq (.block 1 (sr [om 5 0] (.block 2 (.loop (sq (sr [ov 15 5,of 16 2 1,ol 17 16,ov 18 4,ox 19 3 17 18,of 20 2 19,ol 21 20,oo 22 (lS Z21),ob 23 .lss 15 22] (.cond Z23 .skip (.exit 2))) (sq (.block 3 (sr [ov 26 4,ov 27 5,oo 28 (.build [(.int .i64 0),(.int .i64 0)] [(0,1,Z26),(1,1,Z27)]),oo 6 (.alloc [(.int .i64 0),(.int .i64 0)]),ou (.store 2 Z6 Z28)] (sr [of 29 2 1,ol 30 29,ov 31 4,ox 32 3 30 31,of 33 1 32,ol 34 33,on 35 .eql 34 1,ov 36 35,wT 37 (.load (some 3) Z1) 36,wT 38 (.load (some 2) Z6) 36,wT 39 (.call 74 [Z37,Z38]) 36,oo 40 (.pick Z36 Z39 aF)] (.cond Z40 (rg [ov 41 3,os 42 2 6,oo 43 (.buildSl false 2 [(.int .i64 0),(.int .i64 0)] [(0,2,Z42)] 1),oo 44 (.append false 2 16 Z41 Z43),ov 3 44]) .skip)))) (rg [ov 24 5,on 25 .add 24 1,ov 5 25]))))))) (rg [ov 13 4,on 14 .add 13 1,ov 4 14])))))) (sr [ov 45 3,ov 2 45] .ret))),[.t 2]⟩
def F32:AF:=⟨sr [oo 4 (.mov aF)] (sq (sr [ov 6 0,oo 7 (lS Z6),ov 8 1,oo 9 (lS Z8),ob 10 .neq 7 9] (.cond Z10 (sr [oo 4 (.mov aF)] .ret) .skip)) (sq (sr [om 5 0] (.block 0 (.loop (sq (sr [ov 11 5,ov 12 0,oo 13 (lS Z12),ob 14 .lss 11 13] (.cond Z14 .skip (.exit 0))) (sq (.block 1 (sq (.draw [ov 17 0,ov 18 5,ox 19 1 17 18,ol 20 19,ov 21 1,ov 22 5,ox 23 1 21 22,ol 24 23,ob 25 .neq 20 24] []) (.cond Z25 (sr [oo 4 (.mov aF)] .ret) .skip))) (rg [ov 15 5,on 16 .add 15 1,ov 5 16])))))) (sr [oo 4 (.mov aT)] .ret))),[.t 4]⟩
def F34:AF:=⟨sr [qq 3 (.box 3 Z0),qq 6 (.mov (.c (.sl none true 0 []))),qm 7 0,qm 8 0] (sq (.block 0 (sr [qs 12 3 3,qq 13 (.call 52 [Z12]),qq 14 (.un .not Z13),qv 11 14] (.cond Z11 (sr [qq 6 (.mov (.c (.sl none true 0 []))),qm 7 0,qm 8 4] .ret) (sr [qs 16 3 3,qv 17 1,qq 18 (.call 53 [Z16,Z17]),qq 19 (.un .not Z18),qv 20 19,zF 21 (.mov Z2) 20,zF 22 (.bin .lss Z21 (nn 0)) 20,qq 23 (.pick Z20 aT Z22),qv 15 23] (.cond Z15 (sr [qq 6 (.mov (.c (.sl none true 0 []))),qm 7 0,qm 8 2] .ret) .skip))))) (sr [qs 24 3 3,qv 25 1,qq 26 (.call 76 [Z24,Z25]),qv 9 26] (sr [qv 27 9,qv 28 2,qq 29 (.nilCheck Z27),qf 30 8 29,qu (.store 1 Z30 Z28)] (sr [qv 31 9,qq 32 (.call 78 [(.c (.sl none true 0 []))]),qq 33 (.call 77 [Z31,Z32]),qv 10 33] (sq (.block 1 (sr [qv 35 9,qq 36 (.nilCheck Z35),qf 37 9 36,ql 38 37,qv 34 38] (.cond Z34 (sr [qv 39 9,qq 40 (.nilCheck Z39),qf 41 7 40,ql 42 41,qq 43 (.lenMap Z42),qq 6 (.mov (.c (.sl none true 0 []))),qv 7 43,qm 8 13] .ret) (sr [qv 45 10,qq 46 (.un .not Z45),qv 44 46] (.cond Z44 (sr [qv 47 9,qq 48 (.nilCheck Z47),qf 49 7 48,ql 50 49,qq 51 (.lenMap Z50),qq 6 (.mov (.c (.sl none true 0 []))),qv 7 51,qm 8 3] .ret) .skip))))) (sq (.draw [qv 52 9,qq 53 (.nilCheck Z52),qf 54 10 53,ql 55 54,qv 56 9,qq 57 (.nilCheck Z56),qf 58 7 57,ql 59 58,qq 60 (.lenMap Z59),qv 6 55,qv 7 60,qm 8 0] []) .ret)))))),[.t 6,.t 7,.t 8]⟩
def F35:AF:=⟨sr [qq 3 (.box 3 Z0),qq 6 (.mov (.c (.sl none true 0 []))),qm 7 0,qm 8 0] (sq (sr [qs 12 3 3,qq 13 (.call 21 [Z12]),qq 14 (.un .not Z13)] (.cond Z14 (sr [qq 6 (.mov (.c (.sl none true 0 []))),qm 7 0,qm 8 4] .ret) .skip)) (sq (sr [qs 15 3 3,qv 16 1,qq 17 (.call 22 [Z15,Z16]),qq 18 (.un .not Z17),qv 19 18,zF 20 (.mov Z2) 19,zF 21 (.bin .lss Z20 (nn 0)) 19,qq 22 (.pick Z19 aT Z21)] (.cond Z22 (sr [qq 6 (.mov (.c (.sl none true 0 []))),qm 7 0,qm 8 2] .ret) .skip)) (sr [qs 23 3 3,qv 24 1,qv 25 2,qq 26 (.build [(.sl none true 0 []),(.sl none true 0 []),(.sl none true 0 []),(.sl none true 0 []),(.sl none true 0 []),(.int .i64 0),(.bool false)] [(0,3,Z23),(3,1,Z24),(5,1,Z25)]),qq 27 (.box 7 Z26),qv 9 27] (sq (.seq (.draw [qv 29 9,qf 30 2 3,ql 31 30,qq 32 (lS Z31),qq 33 (.mkSl true 1 1 [(.bool false)] Z32 Z32),qs 34 3 3,qq 35 (.call 39 [Z34]),qq 36 (lS Z35)] [(4,5),(4,6)]) (sr [qq 37 (.call 79 [Z29,Z33,(.c (.sl none true 0 [])),Z36])] (.draw [qu (.mov (.c (.tup []))),qu (.mov (.c (.tup []))),qu (.mov (.c (.tup []))),qu (.mov (.c (.tup []))),qu (.mov (.c (.tup []))),qu (.mov (.c (.tup []))),qu (.mov (.c (.tup []))),qu (.mov (.c (.tup []))),qu (.mov (.c (.tup []))),qv 28 37,qe 38 28 0,qe 39 28 1,qv 10 38,qv 11 39] [(4,5),(4,6)]))) (sq (sr [qv 40 9,qq 41 (.nilCheck Z40),qf 42 6 41,ql 43 42] (.cond Z43 (sq (.draw [qv 44 9,qq 45 (.nilCheck Z44),qf 46 4 45,ql 47 46,qq 48 (lS Z47),qq 6 (.mov (.c (.sl none true 0 []))),qv 7 48,qm 8 13] []) .ret) .skip)) (sq (sr [qv 49 11,qq 50 (.un .not Z49)] (.cond Z50 (sq (.draw [qv 51 9,qq 52 (.nilCheck Z51),qf 53 4 52,ql 54 53,qq 55 (lS Z54),qq 6 (.mov (.c (.sl none true 0 []))),qv 7 55,qm 8 3] []) .ret) .skip)) (sq (.draw [qv 56 10,qv 57 9,qq 58 (.nilCheck Z57),qf 59 4 58,ql 60 59,qq 61 (lS Z60),qv 6 56,qv 7 61,qm 8 0] []) .ret))))))),[.t 6,.t 7,.t 8]⟩
def F36:AF:=⟨sr [oo 0 (.mov aF)] (sr [oo 8 (.call 57 [(.c (.str [98,101,103,105,110,32,115,10,114,101,97,100,32,115,32,120,32,110,105,108,10,111,107,32,115]))]),ov 7 8,oe 9 7 0,oe 10 7 1,oe 11 7 2,oo 1 (.alloc [(.sl none true 0 []),(.sl none true 0 []),(.sl none true 0 [])]),ou (.store 3 Z1 Z9),ov 2 10,ov 3 11] (sr [os 13 3 1,oo 14 (.buildSl false 1 [(.int .i64 0)] [(0,1,(nn (-1)))] 1),oo 15 (.call 34 [Z13,Z14,(nn 9)]),ov 12 15,oe 16 12 0,oe 17 12 1,oe 18 12 2,ov 4 16,ov 5 17,ov 6 18] (sr [ov 19 3,on 20 .eql 19 0,ov 21 20,wT 22 (.mov Z6) 21,wT 23 (.bin .eql Z22 (nn 0)) 21,oo 24 (.pick Z21 Z23 aF),ov 25 24,wT 26 (.mov Z5) 25,wT 27 (.bin .eql Z26 (nn 2)) 25,oo 28 (.pick Z25 Z27 aF),ov 29 28,wT 30 (.mov Z4) 29,wT 31 (.buildSl false 1 [(.int .i64 0)] [(0,1,(nn 0))] 1) 29,wT 32 (.call 32 [Z30,Z31]) 29,oo 33 (.pick Z29 Z32 aF),ov 34 33,wT 35 (.load (some 3) Z1) 34,wT 36 (.buildSl false 1 [(.int .i64 0)] [(0,1,(nn (-1)))] 1) 34,og 37 (.call 37 [Z35,Z36,(.c (.sl none true 0 [])),(nn 0)]) 34 true,oo 38 (.pick Z34 Z37 aF),ov 0 38] .ret))),[.t 0]⟩
def F37:AF:=⟨sr [qq 4 (.box 3 Z0),qq 8 (.mov aF)] (sq (sr [qs 13 3 4,qv 14 1,qq 15 (.call 53 [Z13,Z14]),qq 16 (.un .not Z15),qv 17 16,zF 18 (.mov Z3) 17,zF 19 (.bin .lss Z18 (nn 0)) 17,qq 20 (.pick Z17 aT Z19),qv 21 20,zF 22 (.mov Z3) 21,zF 23 (fA 2 Z4) 21,zF 24 (.load none Z23) 21,zF 25 (lS Z24) 21,zF 26 (.bin .geq Z22 Z25) 21,qq 27 (.pick Z21 aT Z26),qv 28 27,zF 29 (fA 2 Z4) 28,zF 30 (.load none Z29) 28,zF 31 (.mov Z3) 28,zF 32 (.idxSl 3 Z30 Z31) 28,zF 33 (fA 1 Z32) 28,zF 34 (.load none Z33) 28,zF 35 (.bin .neq Z34 (nn 1)) 28,qq 36 (.pick Z28 aT Z35),qv 37 36,zF 38 (.mov Z2) 37,zF 39 (.mov Z3) 37,zF 40 (.call 80 [Z38,Z39]) 37,qq 41 (.pick Z37 aT Z40)] (.cond Z41 (sr [qq 8 (.mov aF)] .ret) .skip)) (sr [qs 42 3 4,qv 43 1,qq 44 (.call 76 [Z42,Z43]),qv 9 44] (sr [qq 45 (.call 78 [(.c (.sl none true 0 []))]),qv 10 45] (sq (sr [qv 46 9,qq 47 (.nilCheck Z46),qf 48 6 47,ql 49 48,qq 50 (lS Z49),qm 51 0] (.block 0 (.loop (sr [qb 52 .lss 51 50] (sq (.cond Z52 .skip (.exit 0)) (sq (.block 1 (sr [qx 53 1 49 51,ql 54 53,qv 12 54] (sr [qv 55 2,qv 56 12,qq 57 (.call 80 [Z55,Z56])] (.cond Z57 (rg [qv 58 10,qv 59 12,qq 60 (.call 81 [.t 58,Z59])]) .skip)))) (rg [qn 61 .add 51 1,qv 51 61]))))))) (sr [qv 62 9,qv 63 10,qv 64 3,qq 65 (.call 82 [Z62,Z63,.t 64]),qv 8 65] .ret))))),[.t 8]⟩
def F39:AF:=⟨sr [oo 1 (.box 3 Z0),oo 2 (.mov (.c (.sl none true 0 [])))] (sr [oo 5 (.buildSl false 1 [] [] 0),ov 3 5] (sq (sr [om 4 0] (.block 0 (.loop (sq (sr [ov 6 4,of 7 2 1,ol 8 7,oo 9 (lS Z8),ob 10 .lss 6 9] (.cond Z10 .skip (.exit 0))) (sq (.block 1 (sr [of 13 2 1,ol 14 13,ov 15 4,ox 16 3 14 15,of 17 1 16,ol 18 17,on 19 .eql 18 1] (.cond Z19 (rg [ov 20 3,ov 21 4,oo 22 (.buildSl false 1 [(.int .i64 0)] [(0,1,Z21)] 1),oo 23 (.append false 1 8 Z20 Z22),ov 3 23]) .skip))) (rg [ov 11 4,on 12 .add 11 1,ov 4 12])))))) (sr [ov 24 3,ov 2 24] .ret))),[.t 2]⟩
def F52:AF:=⟨sr [oo 1 (.box 3 Z0),oo 2 (.mov aF)] (sr [os 3 3 1,oo 4 (.call 103 [Z3]),on 5 .eql 4 0,ov 6 5,wT 7 (.load (some 3) Z1) 6,wT 8 (.call 104 [Z7]) 6,wT 9 (lS Z8) 6,wT 10 (.bin .eql Z9 (nn 0)) 6,oo 11 (.pick Z6 Z10 aF),ov 12 11,wT 13 (.load (some 3) Z1) 12,wT 14 (.call 105 [Z13]) 12,wT 15 (lS Z14) 12,wT 16 (.bin .eql Z15 (nn 0)) 12,oo 17 (.pick Z12 Z16 aF),ov 2 17] .ret),[.t 2]⟩
def F53:AF:=⟨sr [oo 2 (.box 3 Z0),oo 4 (.mov aF)] (sr [os 9 3 2,ov 10 1,oo 11 (.call 106 [Z9,Z10]),ov 8 11,oe 12 8 0,oe 13 8 1,oe 14 8 2,ov 5 12,ov 6 13,ov 7 14] (sr [ov 15 7,ov 4 15] .ret)),[.t 4]⟩
def F57:AF:=cf false false Tryz.f57
def F58:AF:=⟨sr [qq 1 (.box 3 Z0),qm 2 0] (sq (sr [qf 9 0 1,ql 10 9,qq 11 (.call 110 [Z10]),qq 12 (.un .not Z11),qv 13 12,zF 14 (fA 1 Z1) 13,zF 15 (.load none Z14) 13,zF 16 (.call 110 [Z15]) 13,zF 17 (.un .not Z16) 13,qq 18 (.pick Z13 aT Z17),qv 19 18,zF 20 (fA 0 Z1) 19,zF 21 (.load none Z20) 19,zF 22 (lS Z21) 19,zF 23 (.bin .gtr Z22 (nn 20)) 19,qq 24 (.pick Z19 aT Z23),qv 25 24,zF 26 (fA 1 Z1) 25,zF 27 (.load none Z26) 25,zF 28 (lS Z27) 25,zF 29 (.bin .gtr Z28 (nn 40)) 25,qq 30 (.pick Z25 aT Z29),qv 31 30,zF 32 (fA 2 Z1) 31,zF 33 (.load none Z32) 31,zF 34 (lS Z33) 31,zF 35 (.bin .gtr Z34 (nn 40)) 31,qq 36 (.pick Z31 aT Z35)] (.cond Z36 (sr [qm 2 4] .ret) .skip)) (sq (.draw [qf 37 1 1,ql 38 37,qq 39 (lS Z38),qq 40 (.mkSl true 1 1 [(.bool false)] Z39 Z39),qf 41 0 1,ql 42 41,qq 43 (lS Z42),qq 44 (.mkSl true 1 1 [(.bool false)] Z43 Z43),qv 3 40,qv 4 44] [(3,5),(1,7),(3,7)]) (sq (sr [qm 5 0] (.block 0 (.loop (sq (sr [qv 45 5,qf 46 2 1,ql 47 46,qq 48 (lS Z47),qb 49 .lss 45 48] (.cond Z49 .skip (.exit 0))) (sq (.block 1 (sq (.seq (sq (.draw [qs 52 3 1,qf 53 2 1,ql 54 53,qv 55 5,qx 56 3 54 55,qs 57 3 56,qv 58 3] []) (rg [qq 59 (.call 111 [Z52,Z57,.t 58]),qq 60 (.un .not Z59)])) (.cond Z60 (sr [qm 2 4] .ret) .skip)) (rg [qv 61 4,qf 62 2 1,ql 63 62,qv 64 5,qx 65 3 63 64,qf 66 0 65,ql 67 66,qx 68 1 61 67,qu (.store 1 Z68 aT)]))) (rg [qv 50 5,qn 51 .add 50 1,qv 5 51])))))) (sr [qq 6 (.mov aT)] (sq (sr [qm 7 0] (.block 2 (.loop (sq (sr [qv 69 7,qv 70 3,qq 71 (lS Z70),qb 72 .lss 69 71] (.cond Z72 .skip (.exit 2))) (sq (.block 3 (rg [qv 75 6,qv 76 75,zT 77 (.mov Z3) 76,zT 78 (.mov Z7) 76,zT 79 (.idxSl 1 (.t 77) Z78) 76,zT 80 (.load none Z79) 76,qq 81 (.pick (.t 76) Z80 aF),qv 6 81])) (rg [qv 73 7,qn 74 .add 73 1,qv 7 74])))))) (sq (sr [qm 8 0] (.block 4 (.loop (sq (sr [qv 82 8,qv 83 4,qq 84 (lS Z83),qb 85 .lss 82 84] (.cond Z85 .skip (.exit 4))) (sq (.block 5 (rg [qv 88 6,qv 89 88,zT 90 (.mov Z4) 89,zT 91 (.mov Z8) 89,zT 92 (.idxSl 1 Z90 Z91) 89,zT 93 (.load none Z92) 89,qq 94 (.pick Z89 (.t 93) aF),qv 6 94])) (rg [qv 86 8,qn 87 .add 86 1,qv 8 87])))))) (sq (sr [qv 95 6,qq 96 (.un .not (.t 95))] (.cond (.t 96) (sr [qm 2 4] .ret) .skip)) (sr [qm 2 0] .ret)))))))),[.t 2]⟩
def F59:AF:=⟨sr [oo 1 (.box 3 Z0),oo 2 (.mov (.c (.sl none true 0 [])))] (sr [oo 5 (.buildSl false 1 [] [] 0),ov 3 5] (sq (sr [om 4 0] (.block 0 (.loop (sq (sr [ov 6 4,of 7 2 1,ol 8 7,oo 9 (lS Z8),ob 10 .lss 6 9] (.cond Z10 .skip (.exit 0))) (sq (.block 1 (sr [of 13 2 1,ol 14 13,ov 15 4,ox 16 3 14 15,of 17 1 16,ol 18 17,on 19 .eql 18 3] (.cond Z19 (rg [ov 20 3,ov 21 4,oo 22 (.buildSl false 1 [(.int .i64 0)] [(0,1,Z21)] 1),oo 23 (.append false 1 8 Z20 Z22),ov 3 23]) .skip))) (rg [ov 11 4,on 12 .add 11 1,ov 4 12])))))) (sr [ov 24 3,ov 2 24] .ret))),[.t 2]⟩
def F60:AF:=⟨sr [oo 1 (.box 3 Z0),oo 2 (.mov (.c (.sl none true 0 [])))] (sr [oo 6 (.buildSl false 2 [] [] 0),ov 3 6] (sq (sr [om 4 0] (.block 0 (.loop (sq (sr [ov 7 4,of 8 2 1,ol 9 8,oo 10 (lS Z9),ob 11 .lss 7 10] (.cond Z11 .skip (.exit 0))) (sq (.block 1 (sr [om 5 0] (.block 2 (.loop (sq (sr [ov 14 5,of 15 2 1,ol 16 15,ov 17 4,ox 18 3 16 17,of 19 2 18,ol 20 19,oo 21 (lS Z20),ob 22 .lss 14 21] (.cond Z22 .skip (.exit 2))) (sq (.block 3 (sr [of 25 2 1,ol 26 25,ov 27 4,ox 28 3 26 27,of 29 2 28,ol 30 29,ov 31 5,ox 32 4 30 31,of 33 2 32,of 34 0 33,ol 35 34,on 36 .eql 35 2] (.cond Z36 (rg [ov 37 3,ov 38 4,ov 39 5,oo 40 (.build [(.int .i64 0),(.int .i64 0)] [(0,1,Z38),(1,1,Z39)]),oo 41 (.buildSl false 2 [(.int .i64 0),(.int .i64 0)] [(0,2,Z40)] 1),oo 42 (.append false 2 16 Z37 Z41),ov 3 42]) .skip))) (rg [ov 23 5,on 24 .add 23 1,ov 5 24]))))))) (rg [ov 12 4,on 13 .add 12 1,ov 4 13])))))) (sr [ov 43 3,ov 2 43] .ret))),[.t 2]⟩
def F61:AF:=⟨sr [oo 1 (.box 3 Z0),oo 2 (.mov (.c (.sl none true 0 [])))] (sr [os 6 3 1,oo 7 (.call 31 [Z6]),oo 8 (.buildSl false 1 [] [] 0),ov 3 7,ov 4 8] (sq (sr [om 5 0] (.block 0 (.loop (sq (sr [ov 9 5,ov 10 3,oo 11 (lS Z10),ob 12 .lss 9 11] (.cond Z12 .skip (.exit 0))) (sq (.block 1 (.draw [ov 15 4,os 16 3 1,ov 17 3,ov 18 5,ox 19 2 17 18,os 20 2 19,oo 21 (.call 112 [Z16,Z20]),oo 22 (.buildSl false 1 [(.sl none true 0 [])] [(0,1,Z21)] 1),oo 23 (.append false 1 24 Z15 Z22),ov 4 23] [])) (rg [ov 13 5,on 14 .add 13 1,ov 5 14])))))) (sr [ov 24 4,ov 2 24] .ret))),[.t 2]⟩
def F62:AF:=⟨sr [oo 4 (.mov aF)] (sq (sr [om 5 0] (.block 0 (.loop (sq (sr [ov 6 5,ov 7 0,oo 8 (lS Z7),ob 9 .lss 6 8] (.cond Z9 .skip (.exit 0))) (sq (.block 1 (sr [ov 12 0,ov 13 5,ox 14 1 12 13,ol 15 14,ov 16 1,ob 17 .eql 15 16] (.cond Z17 (sr [oo 4 (.mov aT)] .ret) .skip))) (rg [ov 10 5,on 11 .add 10 1,ov 5 11])))))) (sr [oo 4 (.mov aF)] .ret)),[.t 4]⟩
def F71:AF:=⟨sr [oo 1 (.box 3 Z0),oo 2 (.mov (.c (.sl none true 0 [])))] (sq (sr [os 6 3 1,oo 7 (.call 52 [Z6]),oo 8 (.un .not Z7)] (.cond Z8 (sr [oo 2 (.mov (.c (.sl none true 0 [])))] .ret) .skip)) (sr [oo 3 (.mov (.c (.sl none true 0 [])))] (sq (sr [of 9 2 1,ol 10 9,oo 11 (lS Z10),om 12 0] (.block 0 (.loop (sr [ob 13 .lss 12 11] (sq (.cond Z13 .skip (.exit 0)) (sq (.block 1 (sr [ov 14 12,ox 15 3 10 12,os 16 3 15,oo 5 (.alloc [(.int .i64 0),(.int .i64 0),(.sl none true 0 [])]),ov 4 14,ou (.store 3 Z5 Z16)] (sr [of 17 1 5,ol 18 17,on 19 .eql 18 1] (.cond Z19 (rg [ov 20 3,ov 21 4,oo 22 (.buildSl false 1 [(.int .i64 0)] [(0,1,Z21)] 1),oo 23 (.append false 1 8 Z20 Z22),ov 3 23]) .skip)))) (rg [on 24 .add 12 1,ov 12 24]))))))) (sr [ov 25 3,ov 2 25] .ret)))),[.t 2]⟩
def F74:AF:=⟨sr [oo 2 (.box 3 Z0),oo 3 (.box 2 Z1),oo 4 (.mov aF)] (sq (.seq (.draw [os 7 3 2,os 8 2 3,oo 9 (.call 120 [Z7,Z8]),oo 10 (.un .not Z9),ov 11 10,wF 12 (fA 2 Z2) 11,wF 13 (.load none Z12) 11,wF 14 (fA 0 Z3) 11,wF 15 (.load none Z14) 11,wF 16 (.idxSl 3 Z13 Z15) 11,wF 17 (fA 2 Z16) 11,wF 18 (.load none Z17) 11,wF 19 (fA 1 Z3) 11,wF 20 (.load none Z19) 11,wF 21 (.idxSl 4 Z18 Z20) 11,wF 22 (fA 0 Z21) 11,wF 23 (.load none Z22) 11,oo 24 (.pick Z11 aT Z23)] []) (.cond Z24 (sr [oo 4 (.mov aF)] .ret) .skip)) (sr [os 26 3 2,os 27 2 3,oo 28 (.call 121 [Z26,Z27]),ov 25 28,oe 29 25 0,oe 30 25 1,oo 5 (.alloc [(.int .i64 0),(.int .i64 0)]),ou (.store 2 Z5 Z29),ov 6 30] (sr [ov 31 6,oo 32 (.un .not Z31),ov 4 32] .ret))),[.t 4]⟩
def F80:AF:=⟨sr [oo 4 (.mov aF)] (sr [ov 5 0,ov 6 1,oo 7 (.call 127 [Z5,Z6]),on 8 .geq 7 0,ov 4 8] .ret),[.t 4]⟩
def F84:AF:=⟨sr [oo 3 (.box 3 Z0),oo 6 (.alloc [(.int .i64 0),(.int .i64 0)]),oo 7 (.mov aF)] (sr [oo 11 (.build [(.int .i64 0),(.int .i64 0)] []),oo 8 (.alloc [(.int .i64 0),(.int .i64 0)]),ou (.store 2 Z8 Z11),oo 9 (.mov aF)] (sq (sr [om 10 0] (.block 0 (.loop (sq (sr [ov 12 10,ov 13 1,ob 14 .lss 12 13,ov 15 14,wT 16 (.mov Z10) 15,wT 17 (fA 2 Z3) 15,wT 18 (.load none Z17) 15,wT 19 (lS Z18) 15,wT 20 (.bin .lss Z16 Z19) 15,oo 21 (.pick Z15 Z20 aF)] (.cond Z21 .skip (.exit 0))) (sq (.block 1 (sr [of 24 2 3,ol 25 24,ov 26 10,ox 27 4 25 26,of 28 0 27,ol 29 28,ov 30 29,wT 31 (fA 2 Z3) 30,wT 32 (.load none Z31) 30,wT 33 (.mov Z10) 30,wT 34 (.idxSl 4 Z32 Z33) 30,wT 35 (fA 1 Z34) 30,wT 36 (.load none Z35) 30,wT 37 (.mov Z2) 30,wT 38 (.bin .eql Z36 Z37) 30,oo 39 (.pick Z30 Z38 aF)] (.cond Z39 (rg [of 40 2 3,ol 41 40,ov 42 10,ox 43 4 41 42,of 44 2 43,os 45 2 44,ou (.store 2 Z8 Z45),oo 9 (.mov aT)]) .skip))) (rg [ov 22 10,on 23 .add 22 1,ov 10 23])))))) (sr [os 46 2 8,ov 47 9,ou (.store 2 Z6 Z46),ov 7 47] .ret))),[.cell 6 (some 2),.t 7]⟩
def F86:AF:=⟨sr [oo 1 (.box 3 Z0),oo 2 (.mov (.c (.sl none true 0 [])))] (sr [oo 3 (.mov (.c (.sl none true 0 [])))] (sq (sr [os 8 3 1,oo 9 (.call 71 [Z8]),oo 10 (lS Z9),om 11 0] (.block 0 (.loop (sr [ob 12 .lss 11 10] (sq (.cond Z12 .skip (.exit 0)) (sq (.block 1 (sr [ox 13 1 9 11,ol 14 13,ov 5 14] (sr [of 15 2 1,ol 16 15,ov 17 5,ox 18 3 16 17,of 19 2 18,ol 20 19,oo 21 (lS Z20),om 22 0] (.block 2 (.loop (sr [ob 23 .lss 22 21] (sq (.cond Z23 .skip (.exit 2)) (sq (.block 3 (sr [ov 24 22,ov 6 24] (sr [ov 25 5,ov 26 6,oo 27 (.build [(.int .i64 0),(.int .i64 0)] [(0,1,Z25),(1,1,Z26)]),oo 7 (.alloc [(.int .i64 0),(.int .i64 0)]),ou (.store 2 Z7 Z27)] (sr [os 28 3 1,os 29 2 7,oo 30 (.call 136 [Z28,Z29])] (.cond Z30 (rg [ov 31 3,os 32 2 7,oo 33 (.buildSl false 2 [(.int .i64 0),(.int .i64 0)] [(0,2,Z32)] 1),oo 34 (.append false 2 16 Z31 Z33),ov 3 34]) .skip))))) (rg [on 35 .add 22 1,ov 22 35]))))))))) (rg [on 36 .add 11 1,ov 11 36]))))))) (sr [ov 37 3,ov 2 37] .ret))),[.t 2]⟩
def F103:AF:=⟨sr [oo 1 (.box 3 Z0),oo 2 (.alloc [(.int .i64 0)])] (sq (sr [os 5 3 1,oo 6 (.call 152 [Z5]),oo 7 (.un .not Z6),ov 8 7,wF 9 (fA 2 Z1) 8,wF 10 (.load none Z9) 8,wF 11 (.mkFn (.func 154) [] [.t 1]) 8,wF 12 (.call 153 [Z10,Z11]) 8,oo 13 (.pick Z8 aT Z12)] (.cond Z13 (sr [ou (.store 1 Z2 (nn 4))] .ret) .skip)) (sq (sr [os 14 3 1,oo 15 (.call 156 [Z14])] (.block 0 (.rangeFunc Z15 [16,17] (rg [oo 4 (.alloc [(.bool false),(.int .i64 0),(.int .i64 0),(.int .i64 0)]),ou (.store 4 Z4 Z17)]) (.block 1 (sr [os 18 3 1,os 19 4 4,oo 20 (.call 157 [Z18,Z19]),oo 21 (.un .not Z20)] (.cond Z21 (sr [ou (.store 1 Z2 (nn 4))] .ret) .skip)))))) (sq (sr [os 22 3 1,oo 23 (.call 158 [Z22]),oo 24 (.un .not Z23)] (.cond Z24 (sr [ou (.store 1 Z2 (nn 4))] .ret) .skip)) (sr [ou (.store 1 Z2 (nn 0))] .ret)))),[.cell 2 none]⟩
def F104:AF:=⟨sr [oo 1 (.box 3 Z0),oo 2 (.mov (.c (.sl none true 0 [])))] (sr [os 3 3 1,oo 4 (.call 159 [Z3,(.c (.fn (.func 160) [] []))]),ov 2 4] .ret),[.t 2]⟩
def F105:AF:=⟨sr [oo 1 (.box 3 Z0),oo 2 (.mov (.c (.sl none true 0 [])))] (sq (sr [os 6 3 1,oo 7 (.call 103 [Z6]),on 8 .neq 7 0] (.cond Z8 (sr [oo 2 (.mov (.c (.sl none true 0 [])))] .ret) .skip)) (sr [oo 3 (.alloc [(.sl none true 0 [])])] (sq (sr [os 9 3 1,oo 10 (.call 156 [Z9])] (.block 0 (.rangeFunc Z10 [11,12] (sr [oo 4 (.alloc [(.int .i64 0),(.int .i64 0)]),ou (.store 2 Z4 Z11)] (rg [oo 5 (.alloc [(.bool false),(.int .i64 0),(.int .i64 0),(.int .i64 0)]),ou (.store 4 Z5 Z12)])) (.block 1 (sr [of 13 2 5,of 14 0 13,ol 15 14,on 16 .eql 15 2] (.cond Z16 (rg [ol 17 3,os 18 2 4,oo 19 (.buildSl false 2 [(.int .i64 0),(.int .i64 0)] [(0,2,Z18)] 1),oo 20 (.append false 2 16 Z17 Z19),ou (.store 1 Z3 Z20)]) .skip)))))) (sr [ol 21 3,ov 2 21] .ret)))),[.t 2]⟩
def F106:AF:=⟨sr [qq 2 (.box 3 Z0),qq 4 (.mov (.c (.sl none true 0 []))),qq 5 (.mov (.c (.sl none true 0 []))),qq 6 (.mov aF)] (sr [qs 11 3 2,qq 12 (.call 161 [Z11]),qv 7 12] (sq (sr [qs 13 3 2,qq 14 (.call 52 [Z13]),qq 15 (.un .not Z14),qv 16 15,zF 17 (.mov Z7) 16,zF 18 (lS Z17) 16,zF 19 (.mov Z1) 16,zF 20 (lS Z19) 16,zF 21 (.bin .neq Z18 Z20) 16,qq 22 (.pick Z16 aT Z21)] (.cond Z22 (sr [qq 4 (.mov (.c (.sl none true 0 []))),qq 5 (.mov (.c (.sl none true 0 []))),qq 6 (.mov aF)] .ret) .skip)) (sr [qv 23 1,qq 24 (lS Z23),qq 25 (.mkSl true 1 8 [(.int .i64 0)] Z24 Z24),qv 8 25] (sq (sr [qv 26 7,qq 27 (lS Z26),qm 28 0] (.block 0 (.loop (sr [qb 29 .lss 28 27] (sq (.cond Z29 .skip (.exit 0)) (sq (.block 1 (sr [qv 30 28,qx 31 1 26 28,ql 32 31,qv 9 30,qv 10 32] (sr [qv 33 8,qv 34 9,qv 35 10,qv 36 1,qv 37 9,qx 38 1 36 37,ql 39 38,qq 40 (.call 127 [Z35,Z39]),qx 41 1 33 34,qu (.store 1 Z41 Z40)] (sr [qv 42 8,qv 43 9,qx 44 1 42 43,ql 45 44,qn 46 .lss 45 0] (.cond Z46 (sr [qq 4 (.mov (.c (.sl none true 0 []))),qq 5 (.mov (.c (.sl none true 0 []))),qq 6 (.mov aF)] .ret) .skip))))) (rg [qn 47 .add 28 1,qv 28 47]))))))) (sr [qv 48 7,qv 49 8,qv 4 48,qv 5 49,qq 6 (.mov aT)] .ret))))),[.t 4,.t 5,.t 6]⟩
def F108:AF:=cf false false Tryz.f108
def F109:AF:=cf true false Tryz.f109
def F110:AF:=⟨sr [oo 2 (.mov aF)] (sq (sr [om 3 0] (.block 0 (.loop (sq (sr [ov 4 3,ov 5 0,oo 6 (lS Z5),ob 7 .lss 4 6] (.cond Z7 .skip (.exit 0))) (sq (.block 1 (sq (.draw [ov 10 0,ov 11 3,ox 12 1 10 11,ol 13 12,oo 14 (.call 172 [Z13]),oo 15 (.un .not Z14),ov 16 15,wF 17 (.mov Z3) 16,wF 18 (.bin .gtr Z17 (nn 0)) 16,wF 19 (.mov Z18) 16,wT 20 (.mov Z0) 19,wT 21 (.mov Z3) 19,wT 22 (.bin .sub Z21 (nn 1)) 19,wT 23 (.idxSl 1 Z20 Z22) 19,wT 24 (.load none Z23) 19,wT 25 (.mov Z0) 19,wT 26 (.mov Z3) 19,wT 27 (.idxSl 1 Z25 Z26) 19,wT 28 (.load none Z27) 19,wT 29 (.call 173 [Z24,Z28]) 19,wT 30 (.un .not Z29) 19,wF 31 (.pick Z19 Z30 aF) 16,oo 32 (.pick Z16 aT Z31)] []) (.cond Z32 (sr [oo 2 (.mov aF)] .ret) .skip))) (rg [ov 8 3,on 9 .add 8 1,ov 3 9])))))) (sr [oo 2 (.mov aT)] .ret)),[.t 2]⟩
def F112:AF:=⟨sr [oo 2 (.box 3 Z0),oo 3 (.box 2 Z1),oo 4 (.mov (.c (.sl none true 0 [])))] (sr [oo 10 (.buildSl false 1 [] [] 0),ov 5 10] (sq (sr [os 11 3 2,os 12 2 3,oo 13 (.call 175 [Z11,Z12]),oo 14 (.un .not Z13)] (.cond Z14 (sr [ov 15 5,ov 4 15] .ret) .skip)) (sq (.draw [of 16 2 2,ol 17 16,of 18 0 3,ol 19 18,ox 20 3 17 19,of 21 2 20,ol 22 21,of 23 1 3,ol 24 23,ox 25 4 22 24,os 26 4 25,oo 6 (.alloc [(.bool false),(.int .i64 0),(.int .i64 0),(.int .i64 0)]),ou (.store 4 Z6 Z26)] [(1,11),(3,11),(6,11),(8,11),(10,11)]) (sq (sr [of 27 2 6,of 28 0 27,ol 29 28,on 30 .neq 29 1] (.cond Z30 (rg [ov 31 5,oo 32 (.buildSl false 1 [(.int .i64 0)] [(0,1,(nn (-1)))] 1),oo 33 (.append false 1 8 Z31 Z32),ov 5 33]) .skip)) (sq (sr [om 7 0] (.block 0 (.loop (sq (sr [ov 34 7,of 35 2 2,ol 36 35,oo 37 (lS Z36),ob 38 .lss 34 37] (.cond Z38 .skip (.exit 0))) (sq (.block 1 (sq (.draw [of 42 2 2,ol 43 42,ov 44 7,ox 45 3 43 44,os 46 3 45,of 47 2 2,ol 48 47,ov 49 7,ox 50 3 48 49,of 51 2 50,ol 52 51,oo 53 (lS Z52),of 54 1 6,ol 55 54,oo 56 (.call 84 [Z46,Z53,Z55]),ov 41 56,oe 57 41 0,oe 58 41 1,oo 8 (.alloc [(.int .i64 0),(.int .i64 0)]),ou (.store 2 Z8 Z57),ov 9 58] [(1,18),(4,18),(6,18),(10,18),(13,18),(14,18)]) (sr [ov 59 7,of 60 0 3,ol 61 60,ob 62 .neq 59 61,ov 63 62,wT 64 (fA 2 Z2) 63,wT 65 (.load none (.t 64)) 63,wT 66 (.mov Z7) 63,wT 67 (.idxSl 3 Z65 Z66) 63,wT 68 (fA 1 Z67) 63,wT 69 (.load none Z68) 63,wT 70 (.bin .neq Z69 (nn 2)) 63,oo 71 (.pick Z63 Z70 aF),ov 72 71,wT 73 (.mov Z9) 72,oo 74 (.pick Z72 Z73 aF),ov 75 74,wT 76 (fA 2 Z6) 75,wT 77 (fA 0 (.t 76)) 75,wT 78 (.load none (.t 77)) 75,wT 79 (.bin .eql Z78 (nn 2)) 75,wT 80 (.mov Z79) 75,wF 81 (.load (some 2) Z8) 80,wF 82 (fA 2 Z6) 80,wF 83 (.load (some 2) (.t 82)) 80,wF 84 (.eq false (.struct [.int,.int]) Z81 Z83) 80,wT 85 (.pick Z80 aT (.t 84)) 75,oo 86 (.pick Z75 Z85 aF)] (.cond Z86 (rg [ov 87 5,ov 88 7,oo 89 (.buildSl false 1 [(.int .i64 0)] [(0,1,(.t 88))] 1),oo 90 (.append false 1 8 (.t 87) Z89),ov 5 90]) .skip)))) (rg [ov 39 7,on 40 .add 39 1,ov 7 40])))))) (sr [ov 91 5,ov 4 91] .ret)))))),[.t 4]⟩
def F116:AF:=⟨sr [oo 3 (.box 3 Z0),oo 6 (.alloc [(.int .i64 0),(.int .i64 0)]),oo 7 (.mov aF)] (sr [os 8 3 3,ov 9 1,oo 10 (.call 176 [Z8,Z9]),ov 11 2,oo 12 (.call 177 [Z10,Z11]),oe 13 12 0,oe 14 12 1,ou (.store 2 Z6 Z13),ov 7 14] .ret),[.cell 6 (some 2),.t 7]⟩
def F118:AF:=cf false false Tryz.f118
def F120:AF:=⟨sr [oo 2 (.box 3 Z0),oo 3 (.box 2 Z1),oo 4 (.mov aF)] (sq (.draw [os 5 3 2,oo 6 (.call 58 [Z5]),on 7 .eql 6 0,ov 8 7,wT 9 (fA 0 Z3) 8,wT 10 (.load none Z9) 8,wT 11 (.bin .geq Z10 (nn 0)) 8,oo 12 (.pick Z8 Z11 aF),ov 13 12,wT 14 (fA 0 Z3) 13,wT 15 (.load none Z14) 13,wT 16 (fA 2 Z2) 13,wT 17 (.load none Z16) 13,wT 18 (lS Z17) 13,wT 19 (.bin .lss Z15 Z18) 13,oo 20 (.pick Z13 Z19 aF),ov 21 20,wT 22 (fA 1 Z3) 21,wT 23 (.load none Z22) 21,wT 24 (.bin .geq Z23 (nn 0)) 21,oo 25 (.pick Z21 Z24 aF),ov 26 25,wT 27 (fA 1 Z3) 26,wT 28 (.load none Z27) 26,wT 29 (fA 2 Z2) 26,wT 30 (.load none Z29) 26,wT 31 (fA 0 Z3) 26,wT 32 (.load none Z31) 26,wT 33 (.idxSl 3 Z30 Z32) 26,wT 34 (fA 2 Z33) 26,wT 35 (.load none Z34) 26,wT 36 (lS Z35) 26,wT 37 (.bin .lss Z28 Z36) 26,oo 38 (.pick Z26 Z37 aF),ov 4 38] []) .ret),[.t 4]⟩
def F121:AF:=⟨sr [oo 2 (.box 3 Z0),oo 3 (.box 2 Z1),oo 4 (.alloc [(.int .i64 0),(.int .i64 0)]),oo 5 (.mov aF)] (sq (sr [os 6 3 2,os 7 2 3,oo 8 (.call 120 [Z6,Z7]),oo 9 (.un .not Z8)] (.cond Z9 (sr [oo 10 (.build [(.int .i64 0),(.int .i64 0)] []),ou (.store 2 Z4 Z10),oo 5 (.mov aF)] .ret) .skip)) (sq (.draw [of 11 2 2,ol 12 11,of 13 0 3,ol 14 13,ox 15 3 12 14,os 16 3 15,of 17 1 3,ol 18 17,of 19 2 2,ol 20 19,of 21 0 3,ol 22 21,ox 23 3 20 22,of 24 2 23,ol 25 24,of 26 1 3,ol 27 26,ox 28 4 25 27,of 29 1 28,ol 30 29,oo 31 (.call 84 [Z16,Z18,Z30]),oe 32 31 0,oe 33 31 1,ou (.store 2 Z4 Z32),ov 5 33] []) .ret)),[.cell 4 (some 2),.t 5]⟩
def F127:AF:=⟨sr [om 4 0] (sq (sr [ov 6 0,oo 7 (lS Z6),om 8 0] (.block 0 (.loop (sr [ob 9 .lss 8 7] (sq (.cond Z9 .skip (.exit 0)) (sq (.block 1 (sr [ov 10 8,ov 5 10] (sr [ov 11 1,ov 12 0,ov 13 5,ox 14 1 12 13,ol 15 14,ob 16 .eql 11 15] (.cond Z16 (sr [ov 17 5,ov 4 17] .ret) .skip)))) (rg [on 18 .add 8 1,ov 8 18]))))))) (sr [oo 4 (.mov (nn (-1)))] .ret)),[.t 4]⟩
def F135:AF:=⟨sr [oo 2 (.box 3 Z0),oo 4 (.mov aF)] (sq (sr [om 5 0] (.block 0 (.loop (sq (sr [ov 6 5,of 7 2 2,ol 8 7,oo 9 (lS Z8),ob 10 .lss 6 9] (.cond Z10 .skip (.exit 0))) (sq (.block 1 (sr [of 13 2 2,ol 14 13,ov 15 5,ox 16 4 14 15,of 17 0 16,ol 18 17,ov 19 18,wT 20 (fA 2 Z2) 19,wT 21 (.load none Z20) 19,wT 22 (.mov Z5) 19,wT 23 (.idxSl 4 Z21 Z22) 19,wT 24 (fA 1 Z23) 19,wT 25 (.load none Z24) 19,wT 26 (.mov Z1) 19,wT 27 (.bin .eql Z25 Z26) 19,oo 28 (.pick Z19 Z27 aF)] (.cond Z28 (sr [oo 4 (.mov aT)] .ret) .skip))) (rg [ov 11 5,on 12 .add 11 1,ov 5 12])))))) (sr [oo 4 (.mov aF)] .ret)),[.t 4]⟩
def F136:AF:=⟨sr [oo 2 (.box 3 Z0),oo 3 (.box 2 Z1),oo 4 (.mov aF)] (sr [os 8 3 2,of 9 0 3,ol 10 9,oo 11 (.call 176 [Z8,Z10]),ov 5 11] (sq (sr [of 12 1 3,ol 13 12,on 14 .lss 13 0,ov 15 14,wF 16 (fA 1 Z3) 15,wF 17 (.load none Z16) 15,wF 18 (.mov Z5) 15,wF 19 (lS Z18) 15,wF 20 (.bin .geq Z17 Z19) 15,oo 21 (.pick Z15 aT Z20),ov 22 21,wF 23 (.mov Z5) 22,wF 24 (fA 1 Z3) 22,wF 25 (.load none Z24) 22,wF 26 (.idxSl 4 Z23 Z25) 22,wF 27 (fA 0 Z26) 22,wF 28 (.load none Z27) 22,oo 29 (.pick Z22 aT Z28)] (.cond Z29 (sr [oo 4 (.mov aF)] .ret) .skip)) (sq (.draw [ov 31 5,of 32 1 3,ol 33 32,oo 34 (.slSl 4 Z31 none (some Z33)),ov 35 5,of 36 1 3,ol 37 36,ox 38 4 35 37,of 39 1 38,ol 40 39,oo 41 (.call 177 [Z34,Z40]),ov 30 41,oe 42 30 0,oe 43 30 1,oo 6 (.alloc [(.int .i64 0),(.int .i64 0)]),ou (.store 2 Z6 Z42),ov 7 43] [(2,14),(6,14),(9,14),(10,14)]) (sr [ov 44 7,oo 45 (.un .not Z44),ov 4 45] .ret)))),[.t 4]⟩
def F152:AF:=⟨sr [oo 1 (.box 3 Z0),oo 2 (.mov aF)] (sr [of 3 0 1,ol 4 3,oo 5 (.call 212 [Z4]),ov 6 5,wT 7 (fA 1 Z1) 6,wT 8 (.load none Z7) 6,wT 9 (.call 212 [Z8]) 6,oo 10 (.pick Z6 Z9 aF),ov 11 10,wT 12 (fA 0 Z1) 11,wT 13 (.load none Z12) 11,wT 14 (lS Z13) 11,wT 15 (.bin .leq Z14 (nn 20)) 11,oo 16 (.pick Z11 Z15 aF),ov 17 16,wT 18 (fA 1 Z1) 17,wT 19 (.load none Z18) 17,wT 20 (lS Z19) 17,wT 21 (.bin .leq Z20 (nn 40)) 17,oo 22 (.pick Z17 Z21 aF),ov 23 22,wT 24 (fA 2 Z1) 23,wT 25 (.load none Z24) 23,wT 26 (lS Z25) 23,wT 27 (.bin .leq Z26 (nn 40)) 23,oo 28 (.pick Z23 Z27 aF),ov 2 28] .ret),[.t 2]⟩
def F155:AF:=⟨sr [oo 2 (.box 3 Z0),oo 3 (.box 3 Z1),oo 4 (.mov aF)] (sr [of 5 0 3,ol 6 5,of 7 0 2,ol 8 7,oo 9 (.call 214 [Z6,Z8]),ov 10 9,wT 11 (fA 1 Z3) 10,wT 12 (.load none Z11) 10,wT 13 (.bin .geq Z12 (nn 1)) 10,oo 14 (.pick Z10 Z13 aF),ov 15 14,wT 16 (fA 1 Z3) 15,wT 17 (.load none Z16) 15,wT 18 (.bin .leq Z17 (nn 3)) 15,oo 19 (.pick Z15 Z18 aF),ov 20 19,wT 21 (fA 2 Z3) 20,wT 22 (.load none Z21) 20,wT 23 (lS Z22) 20,wT 24 (.bin .leq Z23 (nn 20)) 20,oo 25 (.pick Z20 Z24 aF),ov 4 25] .ret),[.t 4]⟩
def F157:AF:=⟨sr [oo 2 (.box 3 Z0),oo 3 (.box 4 Z1),oo 4 (.mov aF)] (sr [of 5 1 3,ol 6 5,of 7 1 2,ol 8 7,oo 9 (.call 214 [Z6,Z8]),ov 10 9,wT 11 (fA 2 Z3) 10,wT 12 (.load (some 2) Z11) 10,wT 13 (.call 216 [Z12]) 10,oo 14 (.pick Z10 Z13 aF),ov 15 14,wT 16 (fA 0 Z3) 15,wT 17 (.load none Z16) 15,wT 18 (.un .not Z17) 15,wT 19 (.mov Z18) 15,wF 20 (fA 2 Z3) 19,wF 21 (fA 0 Z20) 19,wF 22 (.load none Z21) 19,wF 23 (.bin .eql Z22 (nn 1)) 19,wT 24 (.pick Z19 aT Z23) 15,oo 25 (.pick Z15 Z24 aF),ov 4 25] .ret),[.t 4]⟩
def F158:AF:=⟨sr [oo 1 (.box 3 Z0),oo 2 (.mov aF)] (sr [oo 9 (.mkMap),oo 10 (.mkMap),oo 4 (.alloc [.nilmap]),ov 3 9,ou (.store 1 Z4 Z10)] (sq (sr [of 11 2 1,ol 12 11,oo 13 (lS Z12),om 14 0] (.block 0 (.loop (sr [ob 15 .lss 14 13] (sq (.cond Z15 .skip (.exit 0)) (sq (.block 1 (sr [ox 16 3 12 14,os 17 3 16,oo 6 (.alloc [(.int .i64 0),(.int .i64 0),(.sl none true 0 [])]),ou (.store 3 Z6 Z17)] (rg [ov 18 3,of 19 0 6,ol 20 19,oo 21 (.lookup .int (.int .i64 0) false Z18 Z20),on 22 .add 21 1,ou (.mapSet .int Z18 Z20 Z22)]))) (rg [on 23 .add 14 1,ov 14 23]))))))) (sq (sr [os 24 3 1,oo 25 (.call 156 [Z24])] (.block 2 (.rangeFunc Z25 [26,27] (rg [oo 8 (.alloc [(.bool false),(.int .i64 0),(.int .i64 0),(.int .i64 0)]),ou (.store 4 Z8 Z27)]) (.block 3 (rg [ol 28 4,of 29 1 8,ol 30 29,oo 31 (.lookup .int (.int .i64 0) false Z28 Z30),on 32 .add 31 1,ou (.mapSet .int Z28 Z30 Z32)]))))) (sr [ov 33 3,oo 34 (.lenMap Z33),of 35 0 1,ol 36 35,oo 37 (lS Z36),ob 38 .eql 34 37,ov 39 38,wT 40 (.load none Z4) 39,wT 41 (.lenMap Z40) 39,wT 42 (fA 1 Z1) 39,wT 43 (.load none Z42) 39,wT 44 (lS Z43) 39,wT 45 (.bin .eql Z41 Z44) 39,oo 46 (.pick Z39 Z45 aF),ov 2 46] .ret)))),[.t 2]⟩
def F159:AF:=⟨sr [oo 2 (.box 3 Z0),oo 4 (.mov (.c (.sl none true 0 [])))] (sq (sr [os 8 3 2,oo 9 (.call 103 [Z8]),on 10 .neq 9 0] (.cond Z10 (sr [oo 4 (.mov (.c (.sl none true 0 [])))] .ret) .skip)) (sr [oo 5 (.mov (.c (.sl none true 0 [])))] (sq (sr [of 11 2 2,ol 12 11,oo 13 (lS Z12),om 14 0] (.block 0 (.loop (sr [ob 15 .lss 14 13] (sq (.cond Z15 .skip (.exit 0)) (sq (.block 1 (sr [ov 16 14,ox 17 3 12 14,os 18 3 17,oo 7 (.alloc [(.int .i64 0),(.int .i64 0),(.sl none true 0 [])]),ov 6 16,ou (.store 3 Z7 Z18)] (sr [ov 19 1,os 20 3 7,oo 21 (.callV Z19 [.t 20])] (.cond Z21 (rg [ov 22 5,ov 23 6,oo 24 (.buildSl false 1 [(.int .i64 0)] [(0,1,Z23)] 1),oo 25 (.append false 1 8 Z22 Z24),ov 5 25]) .skip)))) (rg [on 26 .add 14 1,ov 14 26]))))))) (sr [ov 27 5,ov 4 27] .ret)))),[.t 4]⟩
def F160:AF:=⟨sr [oo 1 (.box 3 Z0),oo 2 (.mov aF)] (sr [of 3 1 1,ol 4 3,on 5 .eql 4 3,ov 2 5] .ret),[.t 2]⟩
def F161:AF:=⟨sr [oo 1 (.box 3 Z0),oo 2 (.mov (.c (.sl none true 0 [])))] (sr [oo 3 (.mov (.c (.sl none true 0 [])))] (sq (sr [os 6 3 1,oo 7 (.call 86 [Z6]),oo 8 (lS Z7),om 9 0] (.block 0 (.loop (sr [ob 10 .lss 9 8] (sq (.cond Z10 .skip (.exit 0)) (sq (.block 1 (sr [ox 11 2 7 9,os 12 2 11,oo 5 (.alloc [(.int .i64 0),(.int .i64 0)]),ou (.store 2 Z5 Z12)] (rg [ov 13 3,os 14 3 1,os 15 2 5,oo 16 (.call 217 [Z14,Z15]),oo 17 (.buildSl false 1 [(.sl none true 0 [])] [(0,1,Z16)] 1),oo 18 (.append false 1 24 Z13 Z17),ov 3 18]))) (rg [on 19 .add 9 1,ov 9 19]))))))) (sr [ov 20 3,ov 2 20] .ret))),[.t 2]⟩
def F166:AF:=cf false false Tryz.f166
def F167:AF:=cf false false Tryz.f167
def F170:AF:=cf false false Tryz.f170
def F172:AF:=⟨sr [oo 2 (.mov aF)] (sr [ov 6 0,oo 7 (.call 234 [Z6]),ov 3 7] (sq (sr [ov 8 3,oo 9 (lS Z8),on 10 .lss 9 1,ov 11 10,wF 12 (.mov Z3) 11,wF 13 (lS Z12) 11,wF 14 (.bin .gtr Z13 (nn 20)) 11,oo 15 (.pick Z11 aT Z14),ov 16 15,wF 17 (.mov Z0) 16,wF 18 (.call 235 [Z17]) 16,oo 19 (.pick Z16 aT Z18),ov 20 19,wF 21 (.mov Z0) 20,wF 22 (.call 236 [Z21]) 20,wF 23 (.un .not Z22) 20,oo 24 (.pick Z20 aT Z23),ov 25 24,wF 26 (.mov Z3) 25,wF 27 (.idxSl 1 Z26 (nn 0)) 25,wF 28 (.load none Z27) 25,wF 29 (.bin .geq Z28 (nn 48)) 25,wF 30 (.mov Z29) 25,wT 31 (.mov Z3) 30,wT 32 (.idxSl 1 Z31 (nn 0)) 30,wT 33 (.load none Z32) 30,wT 34 (.bin .leq Z33 (nn 57)) 30,wF 35 (.pick Z30 Z34 aF) 25,oo 36 (.pick Z25 aT Z35)] (.cond Z36 (sr [oo 2 (.mov aF)] .ret) .skip)) (sq (sr [om 4 0] (.block 0 (.loop (sq (sr [ov 37 4,ov 38 3,oo 39 (lS Z38),ob 40 .lss 37 39] (.cond Z40 .skip (.exit 0))) (sq (.block 1 (sr [ov 43 3,ov 44 4,ox 45 1 43 44,ol 46 45,ov 5 46] (sr [ov 47 5,on 48 .lss 47 128,ov 49 48,wT 50 (.mov Z5) 49,wT 51 (.bin .neq Z50 (nn 95)) 49,oo 52 (.pick Z49 Z51 aF),ov 53 52,wT 54 (.mov Z5) 53,wT 55 (.bin .lss Z54 (nn 48)) 53,wT 56 (.mov Z55) 53,wF 57 (.mov Z5) 56,wF 58 (.bin .gtr Z57 (nn 57)) 56,wT 59 (.pick Z56 aT (.t 58)) 53,oo 60 (.pick Z53 Z59 aF),ov 61 60,wT 62 (.mov Z5) 61,wT 63 (.bin .lss Z62 (nn 65)) 61,wT 64 (.mov Z63) 61,wF 65 (.mov Z5) 64,wF 66 (.bin .gtr Z65 (nn 90)) 64,wT 67 (.pick (.t 64) aT Z66) 61,oo 68 (.pick (.t 61) Z67 aF),ov 69 68,wT 70 (.mov Z5) 69,wT 71 (.bin .lss Z70 (nn 97)) 69,wT 72 (.mov (.t 71)) 69,wF 73 (.mov Z5) 72,wF 74 (.bin .gtr Z73 (nn 122)) 72,wT 75 (.pick Z72 aT Z74) 69,oo 76 (.pick Z69 Z75 aF)] (.cond (.t 76) (sr [oo 2 (.mov aF)] .ret) .skip)))) (rg [ov 41 4,on 42 .add 41 1,ov 4 42])))))) (sr [oo 2 (.mov aT)] .ret)))),[.t 2]⟩
def F173:AF:=⟨sr [oo 4 (.mov aF)] (sr [ov 8 0,oo 9 (.call 234 [Z8]),ov 10 1,oo 11 (.call 234 [Z10]),ov 5 9,ov 6 11] (sq (sr [om 7 0] (.block 0 (.loop (sq (sr [ov 12 7,ov 13 5,oo 14 (lS Z13),ob 15 .lss 12 14,ov 16 15,wT 17 (.mov Z7) 16,wT 18 (.mov Z6) 16,wT 19 (lS Z18) 16,wT 20 (.bin .lss Z17 Z19) 16,oo 21 (.pick Z16 Z20 aF)] (.cond Z21 .skip (.exit 0))) (sq (.block 1 (sq (.draw [ov 24 5,ov 25 7,ox 26 1 24 25,ol 27 26,ov 28 6,ov 29 7,ox 30 1 28 29,ol 31 30,ob 32 .neq 27 31] []) (.cond Z32 (sq (.draw [ov 33 5,ov 34 7,ox 35 1 33 34,ol 36 35,ov 37 6,ov 38 7,ox 39 1 37 38,ol 40 39,ob 41 .lss 36 40,ov 4 41] []) .ret) .skip))) (rg [ov 22 7,on 23 .add 22 1,ov 7 23])))))) (sr [ov 42 5,oo 43 (lS Z42),ov 44 6,oo 45 (lS Z44),ob 46 .lss 43 45,ov 4 46] .ret))),[.t 4]⟩
def F174:AF:=⟨sr [oo 1 (.box 2 Z0),oo 2 (.mov aF)] (sr [of 3 0 1,ol 4 3,on 5 .eql 4 1,ov 6 5,wF 7 (fA 0 Z1) 6,wF 8 (.load none Z7) 6,wF 9 (.bin .eql Z8 (nn 0)) 6,wF 10 (.mov Z9) 6,wF 11 (fA 0 Z1) 10,wF 12 (.load none Z11) 10,wF 13 (.bin .eql Z12 (nn 2)) 10,wF 14 (.pick Z10 aT Z13) 6,wF 15 (.mov Z14) 6,wT 16 (fA 1 Z1) 15,wT 17 (.load none Z16) 15,wT 18 (.bin .eql Z17 (nn 0)) 15,wF 19 (.pick Z15 Z18 aF) 6,oo 20 (.pick Z6 aT Z19),ov 2 20] .ret),[.t 2]⟩
def F175:AF:=⟨sr [oo 2 (.box 3 Z0),oo 3 (.box 2 Z1),oo 4 (.mov aF)] (sq (.draw [os 5 3 2,oo 6 (.call 58 [Z5]),on 7 .eql 6 0,ov 8 7,wT 9 (fA 0 Z3) 8,wT 10 (.load none Z9) 8,wT 11 (.bin .geq Z10 (nn 0)) 8,oo 12 (.pick Z8 Z11 aF),ov 13 12,wT 14 (fA 0 Z3) 13,wT 15 (.load none Z14) 13,wT 16 (fA 2 Z2) 13,wT 17 (.load none Z16) 13,wT 18 (lS Z17) 13,wT 19 (.bin .lss Z15 Z18) 13,oo 20 (.pick Z13 Z19 aF),ov 21 20,wT 22 (fA 1 Z3) 21,wT 23 (.load none Z22) 21,wT 24 (.bin .geq Z23 (nn 0)) 21,oo 25 (.pick Z21 Z24 aF),ov 26 25,wT 27 (fA 1 Z3) 26,wT 28 (.load none Z27) 26,wT 29 (fA 2 Z2) 26,wT 30 (.load none Z29) 26,wT 31 (fA 0 Z3) 26,wT 32 (.load none Z31) 26,wT 33 (.idxSl 3 Z30 Z32) 26,wT 34 (fA 2 Z33) 26,wT 35 (.load none Z34) 26,wT 36 (lS Z35) 26,wT 37 (.bin .lss Z28 Z36) 26,oo 38 (.pick Z26 Z37 aF),ov 39 38,wT 40 (fA 2 Z2) 39,wT 41 (.load none Z40) 39,wT 42 (fA 0 Z3) 39,wT 43 (.load none Z42) 39,wT 44 (.idxSl 3 Z41 Z43) 39,wT 45 (fA 2 Z44) 39,wT 46 (.load none Z45) 39,wT 47 (fA 1 Z3) 39,wT 48 (.load none Z47) 39,wT 49 (.idxSl 4 Z46 (.t 48)) 39,wT 50 (fA 0 Z49) 39,wT 51 (.load none Z50) 39,wT 52 (.un .not Z51) 39,oo 53 (.pick Z39 Z52 aF),ov 4 53] []) .ret),[.t 4]⟩
def F176:AF:=⟨sr [oo 2 (.box 3 Z0),oo 4 (.mov (.c (.sl none true 0 [])))] (sq (sr [os 5 3 2,oo 6 (.call 103 [Z5]),on 7 .neq 6 0,ov 8 7,wF 9 (.mov Z1) 8,wF 10 (.bin .lss Z9 (nn 0)) 8,oo 11 (.pick Z8 aT Z10),ov 12 11,wF 13 (.mov Z1) 12,wF 14 (fA 2 Z2) 12,wF 15 (.load none Z14) 12,wF 16 (lS Z15) 12,wF 17 (.bin .geq Z13 Z16) 12,oo 18 (.pick Z12 aT Z17)] (.cond Z18 (sr [oo 4 (.mov (.c (.sl none true 0 [])))] .ret) .skip)) (sr [of 19 2 2,ol 20 19,ov 21 1,ox 22 3 20 21,of 23 2 22,ol 24 23,ov 4 24] .ret)),[.t 4]⟩
def F177:AF:=⟨sr [oo 3 (.box 1 Z1),oo 4 (.alloc [(.int .i64 0),(.int .i64 0)]),oo 5 (.alloc [(.bool false)])] (sq (sr [ov 8 0,oo 9 (.call 237 [Z8])] (.block 0 (.rangeFunc Z9 [10,11] (rg [oo 7 (.alloc [(.bool false),(.int .i64 0),(.int .i64 0),(.int .i64 0)]),ou (.store 4 Z7 Z11)]) (.block 1 (sr [of 12 0 7,ol 13 12,ov 14 13,wT 15 (fA 1 Z7) 14,wT 16 (.load none Z15) 14,wT 17 (.load none Z3) 14,wT 18 (.bin .eql Z16 Z17) 14,oo 19 (.pick Z14 Z18 aF)] (.cond Z19 (sr [of 20 2 7,os 21 2 20,ou (.store 2 Z4 Z21),ou (.store 1 Z5 aT)] .ret) .skip)))))) (sr [oo 22 (.build [(.int .i64 0),(.int .i64 0)] []),ou (.store 2 Z4 Z22),ou (.store 1 Z5 aF)] .ret)),[.cell 4 (some 2),.cell 5 none]⟩
def F188:AF:=cf false false Tryz.f188
def F189:AF:=⟨sr [oo 2 (.mov aF)] (sr [ov 3 0,on 4 .geq 3 0,ov 5 4,wT 6 (.mov Z0) 5,wT 7 (.bin .lss Z6 (nn 500)) 5,oo 8 (.pick Z5 Z7 aF),ov 2 8] .ret),[.t 2]⟩
def F190:AF:=cf false false Tryz.f190
def F212:AF:=⟨sr [oo 2 (.mov aF)] (sq (sr [ov 5 0,oo 6 (lS Z5),om 7 0] (.block 0 (.loop (sr [ob 8 .lss 7 6] (sq (.cond Z8 .skip (.exit 0)) (sq (.block 1 (sr [ov 9 7,ox 10 1 5 7,ol 11 10,ov 3 9,ov 4 11] (sr [ov 12 4,oo 13 (.call 229 [Z12]),oo 14 (.un .not Z13),ov 15 14,wF 16 (.mov Z3) 15,wF 17 (.bin .gtr Z16 (nn 0)) 15,wF 18 (.mov Z17) 15,wT 19 (.mov Z0) 18,wT 20 (.mov Z3) 18,wT 21 (.bin .sub Z20 (nn 1)) 18,wT 22 (.idxSl 1 Z19 Z21) 18,wT 23 (.load none Z22) 18,wT 24 (.mov Z4) 18,wT 25 (.call 251 [Z23,Z24]) 18,wT 26 (.un .not Z25) 18,wF 27 (.pick Z18 Z26 aF) 15,oo 28 (.pick Z15 aT Z27)] (.cond Z28 (sr [oo 2 (.mov aF)] .ret) .skip)))) (rg [on 29 .add 7 1,ov 7 29]))))))) (sr [oo 2 (.mov aT)] .ret)),[.t 2]⟩
def F214:AF:=⟨sr [oo 4 (.mov aF)] (sr [ov 5 0,on 6 .geq 5 0,ov 7 6,wT 8 (.mov Z0) 7,wT 9 (.mov Z1) 7,wT 10 (lS Z9) 7,wT 11 (.bin .lss Z8 Z10) 7,oo 12 (.pick Z7 Z11 aF),ov 4 12] .ret),[.t 4]⟩
def F216:AF:=⟨sr [oo 1 (.box 2 Z0),oo 2 (.mov aF)] (sr [os 6 2 1,oo 7 (.call 253 [Z6]),oo 8 (.call 252 [Z7]),ov 5 8,oe 9 5 0,oe 10 5 1,oo 3 (.alloc [(.int .i64 0),(.int .i64 0)]),ou (.store 2 Z3 Z9),ov 4 10] (sr [ov 11 4,on 12 .eql 11 0,ov 13 12,wT 14 (.load (some 2) Z3) 13,wT 15 (.load (some 2) Z1) 13,wT 16 (.eq false (.struct [.int,.int]) Z14 Z15) 13,oo 17 (.pick Z13 Z16 aF),ov 2 17] .ret)),[.t 2]⟩
def F217:AF:=⟨sr [qq 2 (.box 3 Z0),qq 3 (.box 2 Z1),qq 4 (.mov (.c (.sl none true 0 [])))] (sr [qs 11 3 2,qs 12 2 3,qq 13 (.call 254 [Z11,Z12]),qv 10 13,qe 14 10 0,qe 15 10 1,qq 5 (.alloc [(.bool false),(.int .i64 0),(.int .i64 0),(.int .i64 0)]),qu (.store 4 Z5 Z14),qv 6 15] (sq (sr [qv 16 6,qq 17 (.un .not Z16)] (.cond Z17 (sr [qq 4 (.mov (.c (.sl none true 0 [])))] .ret) .skip)) (sr [qq 7 (.mov (.c (.sl none true 0 [])))] (sq (sr [qf 18 2 5,qf 19 0 18,ql 20 19,qn 21 .neq 20 1] (.cond Z21 (rg [qv 22 7,qq 23 (.buildSl true 1 [(.int .i64 0)] [(0,1,(nn (-1)))] 1),qq 24 (.append true 1 8 Z22 Z23),qv 7 24]) .skip)) (sq (sr [qs 25 3 2,qf 26 0 3,ql 27 26,qf 28 1 5,ql 29 28,qq 30 (.call 255 [Z25,Z27,Z29]),qq 31 (.range false Z30)] (.block 0 (.loop (sr [qq 32 (.nextMap Z31),qe 33 32 0] (sq (.cond Z33 .skip (.exit 0)) (.block 1 (sr [qq 34 (.entry Z31),qe 35 34 0,qe 36 34 1,qq 9 (.alloc [(.int .i64 0),(.int .i64 0)]),qv 8 35,qu (.store 2 Z9 Z36)] (sr [qf 37 2 5,qf 38 0 37,ql 39 38,qn 40 .eql 39 2,qv 41 40,zF 42 (.load (some 2) Z9) 41,zF 43 (fA 2 Z5) 41,zF 44 (.load (some 2) Z43) 41,zF 45 (.eq false (.struct [.int,.int]) Z42 Z44) 41,qq 46 (.pick Z41 aT Z45)] (.cond Z46 (rg [qv 47 7,qv 48 8,qq 49 (.buildSl true 1 [(.int .i64 0)] [(0,1,(.t 48))] 1),qq 50 (.append true 1 8 Z47 Z49),qv 7 50]) .skip))))))))) (sr [qv 51 7,qq 52 (.call 69 [Z51])] (sr [qv 53 7,qv 4 53] .ret))))))),[.t 4]⟩
def F223:AF:=cf false false Tryz.f223
def F224:AF:=cf false false Tryz.f224
def F225:AF:=cf false false Tryz.f225
def F226:AF:=cf false false Tryz.f226
def F227:AF:=cf false false Tryz.f227
def F228:AF:=cf false false Tryz.f228
def F229:AF:=⟨sr [oo 2 (.mov aF)] (sq (sr [ov 6 0,oo 7 (.call 264 [Z6]),ov 8 7,wF 9 (.mov Z0) 8,wF 10 (.call 265 [Z9]) 8,wF 11 (.un .not Z10) 8,oo 12 (.pick Z8 aT Z11)] (.cond Z12 (sr [oo 2 (.mov aF)] .ret) .skip)) (sr [om 3 0] (sq (sr [ov 13 0,oo 14 (.range true Z13)] (.block 0 (.loop (sr [oo 15 (.nextStr Z14),oe 16 15 0] (sq (.cond Z16 .skip (.exit 0)) (.block 1 (sr [oe 17 15 2,ov 5 17] (sq (sr [ov 18 5,oo 19 (.call 266 [Z18]),oo 20 (.un .not Z19),ov 21 20,wF 22 (.mov Z3) 21,wF 23 (.bin .eql Z22 (nn 0)) 21,wF 24 (.mov Z23) 21,wT 25 (.mov Z5) 24,wT 26 (.call 267 [Z25]) 24,wF 27 (.pick Z24 Z26 aF) 21,oo 28 (.pick Z21 aT Z27)] (.cond Z28 (sr [oo 2 (.mov aF)] .ret) .skip)) (rg [ov 29 3,on 30 .add 29 1,ov 3 30]))))))))) (sr [ov 31 3,on 32 .gtr 31 0,ov 33 32,wT 34 (.mov Z3) 33,wT 35 (.bin .leq Z34 (nn 20)) 33,oo 36 (.pick Z33 Z35 aF),ov 2 36] .ret)))),[.t 2]⟩
def F230:AF:=cf false false Tryz.f230
def F233:AF:=cf false false Tryz.f233
def F234:AF:=⟨sr [oo 2 (.mov (.c (.sl none true 0 [])))] (sr [oo 7 (.buildSl false 1 [] [] 0),ov 3 7] (sq (sr [om 4 0] (.block 0 (.loop (sq (sr [ov 8 4,ov 9 0,oo 10 (.lenStr Z9),ob 11 .lss 8 10] (.cond Z11 .skip (.exit 0))) (.block 1 (sr [ov 13 0,ov 14 4,oo 15 (.call 273 [Z13,Z14]),ov 12 15,oe 16 12 0,oe 17 12 1,ov 5 16,ov 6 17] (sr [ov 18 3,ov 19 6,oo 20 (.buildSl false 1 [(.int .i64 0)] [(0,1,Z19)] 1),oo 21 (.append false 1 8 Z18 Z20),ov 3 21] (rg [ov 22 4,ov 23 5,ob 24 .add 22 23,ov 4 24])))))))) (sr [ov 25 3,ov 2 25] .ret))),[.t 2]⟩
def F235:AF:=⟨sr [oo 2 (.mov aF)] (sr [ov 3 0,oo 4 (.bin .eql Z3 (.c (.str [98,101,103,105,110]))),ov 5 4,wF 6 (.mov Z0) 5,wF 7 (.bin .eql Z6 (.c (.str [114,101,97,100]))) 5,oo 8 (.pick Z5 aT Z7),ov 9 8,wF 10 (.mov Z0) 9,wF 11 (.bin .eql Z10 (.c (.str [119,114,105,116,101]))) 9,oo 12 (.pick Z9 aT Z11),ov 13 12,wF 14 (.mov Z0) 13,wF 15 (.bin .eql Z14 (.c (.str [111,107]))) 13,oo 16 (.pick Z13 aT Z15),ov 17 16,wF 18 (.mov Z0) 17,wF 19 (.bin .eql Z18 (.c (.str [102,97,105,108]))) 17,oo 20 (.pick Z17 aT Z19),ov 21 20,wF 22 (.mov Z0) 21,wF 23 (.bin .eql Z22 (.c (.str [105,110,102,111]))) 21,oo 24 (.pick Z21 aT Z23),ov 25 24,wF 26 (.mov Z0) 25,wF 27 (.bin .eql Z26 (.c (.str [110,105,108]))) 25,oo 28 (.pick Z25 aT Z27),ov 2 28] .ret),[.t 2]⟩
def F236:AF:=⟨sr [oo 2 (.mov aF)] (sq (sr [om 3 0] (.block 0 (.loop (sq (sr [ov 6 3,ov 7 0,oo 8 (.lenStr Z7),ob 9 .lss 6 8] (.cond Z9 .skip (.exit 0))) (.block 1 (sr [ov 11 0,ov 12 3,oo 13 (.call 273 [Z11,Z12]),ov 10 13,oe 14 10 0,oe 15 10 1,ov 4 14,ov 5 15] (sq (sr [ov 16 5,on 17 .eql 16 65533,ov 18 17,wT 19 (.mov Z4) 18,wT 20 (.bin .neq Z19 (nn 3)) 18,oo 21 (.pick Z18 Z20 aF)] (.cond Z21 (sr [oo 2 (.mov aF)] .ret) .skip)) (rg [ov 22 3,ov 23 4,ob 24 .add 22 23,ov 3 24])))))))) (sr [oo 2 (.mov aT)] .ret)),[.t 2]⟩
def F251:AF:=⟨sr [oo 4 (.mov aF)] (sr [ov 5 0,ov 6 1,oo 7 (.call 280 [Z5,Z6]),on 8 .lss 7 0,ov 4 8] .ret),[.t 4]⟩
def F252:AF:=⟨sr [oo 1 (.box 1 Z0),oo 2 (.alloc [(.int .i64 0),(.int .i64 0)]),om 3 0] (sq (sr [of 7 0 1,ol 8 7] (.block 0 (sr [oo 9 (.eq false .iface Z8 (.c .nilif))] (.cond Z9 (sr [ov 4 8] (sr [oo 10 (.build [(.int .i64 0),(.int .i64 0)] []),ou (.store 2 Z2 Z10),om 3 0] .ret)) (sr [oo 11 (.assert 2 (.int .i64 0) true Z8),oe 12 11 1,oe 13 11 0] (.cond Z12 (sr [ov 5 13] (sr [ov 14 5,oo 15 (.build [(.int .i64 0),(.int .i64 0)] [(0,1,(nn 1)),(1,1,Z14)]),ou (.store 2 Z2 Z15),om 3 0] .ret)) (sr [oo 16 (.assert 316 (.agg []) true Z8),oe 17 16 1,oe 18 16 0] (.cond Z17 (sr [oo 6 (.alloc []),ou (.store 0 Z6 Z18)] (sr [oo 19 (.build [(.int .i64 0),(.int .i64 0)] [(0,1,(nn 2))]),ou (.store 2 Z2 Z19),om 3 0] .ret)) .skip)))))))) (sr [oo 20 (.build [(.int .i64 0),(.int .i64 0)] []),ou (.store 2 Z2 Z20),om 3 15] .ret)),[.cell 2 (some 2),.t 3]⟩
def F253:AF:=⟨sr [oo 1 (.box 2 Z0),oo 2 (.alloc [.nilif])] (sq (sr [of 3 0 1,ol 4 3] (.block 0 (sr [on 6 .eql 4 1,ov 5 6] (.cond Z5 (sr [of 7 1 1,ol 8 7,oo 9 (.iface 2 Z8),oo 10 (.build [.nilif] [(0,1,Z9)]),ou (.store 1 Z2 Z10)] .ret) (sr [on 12 .eql 4 2,ov 11 12] (.cond Z11 (sr [oo 13 (.build [] []),oo 14 (.iface 316 Z13),oo 15 (.build [.nilif] [(0,1,Z14)]),ou (.store 1 Z2 Z15)] .ret) .skip)))))) (sr [oo 16 (.build [.nilif] []),ou (.store 1 Z2 Z16)] .ret)),[.cell 2 (some 1)]⟩
def F254:AF:=⟨sr [oo 2 (.box 3 Z0),oo 3 (.box 2 Z1),oo 4 (.alloc [(.bool false),(.int .i64 0),(.int .i64 0),(.int .i64 0)]),oo 5 (.mov aF)] (sq (.seq (.draw [os 7 3 2,oo 8 (.call 103 [Z7]),on 9 .neq 8 0,ov 10 9,wF 11 (fA 0 Z3) 10,wF 12 (.load none Z11) 10,wF 13 (.bin .lss Z12 (nn 0)) 10,oo 14 (.pick Z10 aT Z13),ov 15 14,wF 16 (fA 0 Z3) 15,wF 17 (.load none Z16) 15,wF 18 (fA 2 Z2) 15,wF 19 (.load none Z18) 15,wF 20 (lS Z19) 15,wF 21 (.bin .geq Z17 Z20) 15,oo 22 (.pick Z15 aT Z21),ov 23 22,wF 24 (fA 1 Z3) 23,wF 25 (.load none Z24) 23,wF 26 (.bin .lss Z25 (nn 0)) 23,oo 27 (.pick Z23 aT Z26),ov 28 27,wF 29 (fA 1 Z3) 28,wF 30 (.load none Z29) 28,wF 31 (fA 2 Z2) 28,wF 32 (.load none Z31) 28,wF 33 (fA 0 Z3) 28,wF 34 (.load none Z33) 28,wF 35 (.idxSl 3 Z32 Z34) 28,wF 36 (fA 2 Z35) 28,wF 37 (.load none Z36) 28,wF 38 (lS Z37) 28,wF 39 (.bin .geq Z30 Z38) 28,oo 40 (.pick Z28 aT Z39)] []) (.cond Z40 (sr [oo 41 (.build [(.bool false),(.int .i64 0),(.int .i64 0),(.int .i64 0)] []),ou (.store 4 Z4 Z41),oo 5 (.mov aF)] .ret) .skip)) (sq (.draw [of 42 2 2,ol 43 42,of 44 0 3,ol 45 44,ox 46 3 43 45,of 47 2 46,ol 48 47,of 49 1 3,ol 50 49,ox 51 4 48 50,os 52 4 51,oo 6 (.alloc [(.bool false),(.int .i64 0),(.int .i64 0),(.int .i64 0)]),ou (.store 4 Z6 Z52)] [(1,11),(3,11),(6,11),(8,11),(10,11)]) (sq (.draw [os 53 4 6,of 54 0 6,ol 55 54,oo 56 (.un .not Z55),ou (.store 4 Z4 Z53),ov 5 56] [(2,4)]) .ret))),[.cell 4 (some 4),.t 5]⟩
def F258:AF:=cf false false Tryz.f258
def F259:AF:=cf false false Tryz.f259
def F261:AF:=cf false false Tryz.f261
def F262:AF:=cf false false Tryz.f262
def F263:AF:=cf false false Tryz.f263
def F264:AF:=⟨sr [oo 2 (.mov aF)] (sq (sr [ov 3 0] (.block 0 (sq (sr [oo 5 (.bin .eql Z3 (.c (.str [98,101,103,105,110]))),ov 4 5] (.cond Z4 .skip (sr [oo 6 (.bin .eql Z3 (.c (.str [114,101,97,100]))),ov 4 6] (.cond Z4 .skip (sr [oo 7 (.bin .eql Z3 (.c (.str [119,114,105,116,101]))),ov 4 7] (.cond Z4 .skip (sr [oo 8 (.bin .eql Z3 (.c (.str [111,107]))),ov 4 8] (.cond Z4 .skip (sr [oo 9 (.bin .eql Z3 (.c (.str [102,97,105,108]))),ov 4 9] (.cond Z4 .skip (sr [oo 10 (.bin .eql Z3 (.c (.str [105,110,102,111]))),ov 4 10] (.cond Z4 .skip (rg [oo 11 (.bin .eql Z3 (.c (.str [110,105,108]))),ov 4 11]))))))))))))) (.cond Z4 (sr [oo 2 (.mov aT)] .ret) .skip)))) (sr [oo 2 (.mov aF)] .ret)),[.t 2]⟩
def F265:AF:=⟨sr [oo 2 (.mov aF)] (sq (.block 0 (.loop (sq (sr [ov 7 0,oo 8 (.lenStr Z7),on 9 .gtr 8 0] (.cond Z9 .skip (.exit 0))) (.block 1 (sr [ov 10 0,oo 11 (.idxStr Z10 (nn 0)),ov 3 11] (sq (sr [ov 12 3,oo 13 (.bin .lss Z12 (.c (.int .u8 128)))] (.cond Z13 (sr [ov 14 0,oo 15 (.slStr Z14 (some (nn 1)) none),ov 0 15] (sq (sr [ov 16 0,oo 17 (.lenStr Z16),on 18 .gtr 17 8,ov 19 18,wT 20 (.mov Z0) 19,wT 21 (.call 289 [Z20]) 19,wT 22 (.bin .and Z21 (.c (.int .u64 9259542123273814144))) 19,wT 23 (.bin .eql Z22 (.c (.int .u64 0))) 19,oo 24 (.pick Z19 Z23 aF)] (.cond Z24 (sr [ov 25 0,oo 26 (.slStr Z25 (some (nn 8)) none),ov 0 26] (sq (.draw [ov 27 0,oo 28 (.lenStr Z27),on 29 .gtr 28 16,ov 30 29,wT 31 (.mov Z0) 30,wT 32 (.call 289 [Z31]) 30,wT 33 (.mov Z0) 30,wT 34 (.slStr Z33 (some (nn 8)) none) 30,wT 35 (.call 289 [Z34]) 30,wT 36 (.bin .or Z32 Z35) 30,wT 37 (.bin .and Z36 (.c (.int .u64 9259542123273814144))) 30,wT 38 (.bin .eql Z37 (.c (.int .u64 0))) 30,oo 39 (.pick Z30 Z38 aF)] []) (.cond Z39 (sr [ov 40 0,oo 41 (.slStr Z40 (some (nn 16)) none),ov 0 41] (.block 2 (.loop (sq (.seq (.draw [ov 42 0,oo 43 (.lenStr Z42),on 44 .gtr 43 32,ov 45 44,wT 46 (.mov Z0) 45,wT 47 (.call 289 [Z46]) 45,wT 48 (.mov Z0) 45,wT 49 (.slStr (.t 48) (some (nn 8)) none) 45,wT 50 (.call 289 [Z49]) 45,wT 51 (.bin .or Z47 Z50) 45,wT 52 (.mov Z0) 45,wT 53 (.slStr Z52 (some (nn 16)) none) 45,wT 54 (.call 289 [Z53]) 45,wT 55 (.mov Z0) 45,wT 56 (.slStr Z55 (some (nn 24)) none) 45,wT 57 (.call 289 [Z56]) 45,wT 58 (.bin .or Z54 Z57) 45,wT 59 (.bin .or Z51 (.t 58)) 45,wT 60 (.bin .and Z59 (.c (.int .u64 9259542123273814144))) 45,wT 61 (.bin .eql Z60 (.c (.int .u64 0))) 45,oo 62 (.pick Z45 (.t 61) aF)] []) (.cond Z62 .skip (.exit 2))) (.block 3 (rg [ov 63 0,oo 64 (.slStr Z63 (some (nn 32)) none),ov 0 64])))))) .skip))) .skip)) (.exit 1))) .skip)) (sr [ov 65 3,oo 66 (.idxArr 256 1 (.g 2) Z65),ol 67 66,ov 4 67] (sr [ov 68 4,oo 69 (.bin .and Z68 (.c (.int .u8 7))),oo 70 (.conv .i64 Z69),ov 5 70] (sr [ov 71 4,oo 72 (.bin .shr (.t 71) (.c (.int .u64 4))),oo 73 (.idxArr 16 2 (.g 3) Z72),os 74 2 73,oo 6 (.alloc [(.int .u8 0),(.int .u8 0)]),ou (.store 2 Z6 Z74)] (sr [ov 75 5] (.block 4 (sr [on 77 .eql 75 2,ov 76 77] (.cond (.t 76) (sq (.seq (.draw [ov 78 0,oo 79 (.lenStr Z78),on 80 .lss 79 2,ov 81 80,wF 82 (.mov Z0) 81,wF 83 (.idxStr (.t 82) (nn 1)) 81,wF 84 (fA 0 Z6) 81,wF 85 (.load none (.t 84)) 81,wF 86 (.bin .lss Z83 Z85) 81,oo 87 (.pick Z81 aT Z86),ov 88 87,wF 89 (fA 1 Z6) 88,wF 90 (.load none Z89) 88,wF 91 (.mov Z0) 88,wF 92 (.idxStr Z91 (nn 1)) 88,wF 93 (.bin .lss Z90 Z92) 88,oo 94 (.pick (.t 88) aT (.t 93))] []) (.cond (.t 94) (sr [oo 2 (.mov aF)] .ret) .skip)) (rg [ov 95 0,oo 96 (.slStr (.t 95) (some (nn 2)) none),ov 0 96])) (sr [on 98 .eql 75 3,ov 97 98] (.cond (.t 97) (sq (.seq (.draw [ov 99 0,oo 100 (.lenStr (.t 99)),on 101 .lss 100 3,ov 102 101,wF 103 (.mov Z0) 102,wF 104 (.idxStr (.t 103) (nn 1)) 102,wF 105 (fA 0 Z6) 102,wF 106 (.load none (.t 105)) 102,wF 107 (.bin .lss (.t 104) (.t 106)) 102,oo 108 (.pick (.t 102) aT (.t 107)),ov 109 108,wF 110 (fA 1 Z6) 109,wF 111 (.load none (.t 110)) 109,wF 112 (.mov Z0) 109,wF 113 (.idxStr (.t 112) (nn 1)) 109,wF 114 (.bin .lss (.t 111) (.t 113)) 109,oo 115 (.pick (.t 109) aT (.t 114)),ov 116 115,wF 117 (.mov Z0) 116,wF 118 (.idxStr (.t 117) (nn 2)) 116,wF 119 (.bin .lss (.t 118) (.c (.int .u8 128))) 116,oo 120 (.pick (.t 116) aT (.t 119)),ov 121 120,wF 122 (.mov Z0) 121,wF 123 (.idxStr (.t 122) (nn 2)) 121,wF 124 (.bin .lss (.c (.int .u8 191)) (.t 123)) 121,oo 125 (.pick (.t 121) aT (.t 124))] []) (.cond (.t 125) (sr [oo 2 (.mov aF)] .ret) .skip)) (rg [ov 126 0,oo 127 (.slStr (.t 126) (some (nn 3)) none),ov 0 127])) (sr [on 129 .eql 75 4,ov 128 129] (.cond (.t 128) (sq (.seq (.draw [ov 130 0,oo 131 (.lenStr (.t 130)),on 132 .lss 131 4,ov 133 132,wF 134 (.mov Z0) 133,wF 135 (.idxStr (.t 134) (nn 1)) 133,wF 136 (fA 0 Z6) 133,wF 137 (.load none (.t 136)) 133,wF 138 (.bin .lss (.t 135) (.t 137)) 133,oo 139 (.pick (.t 133) aT (.t 138)),ov 140 139,wF 141 (fA 1 Z6) 140,wF 142 (.load none (.t 141)) 140,wF 143 (.mov Z0) 140,wF 144 (.idxStr (.t 143) (nn 1)) 140,wF 145 (.bin .lss (.t 142) (.t 144)) 140,oo 146 (.pick (.t 140) aT (.t 145)),ov 147 146,wF 148 (.mov Z0) 147,wF 149 (.idxStr (.t 148) (nn 2)) 147,wF 150 (.bin .lss (.t 149) (.c (.int .u8 128))) 147,oo 151 (.pick (.t 147) aT (.t 150)),ov 152 151,wF 153 (.mov Z0) 152,wF 154 (.idxStr (.t 153) (nn 2)) 152,wF 155 (.bin .lss (.c (.int .u8 191)) (.t 154)) 152,oo 156 (.pick (.t 152) aT (.t 155)),ov 157 156,wF 158 (.mov Z0) 157,wF 159 (.idxStr (.t 158) (nn 3)) 157,wF 160 (.bin .lss (.t 159) (.c (.int .u8 128))) 157,oo 161 (.pick (.t 157) aT (.t 160)),ov 162 161,wF 163 (.mov Z0) 162,wF 164 (.idxStr (.t 163) (nn 3)) 162,wF 165 (.bin .lss (.c (.int .u8 191)) (.t 164)) 162,oo 166 (.pick (.t 162) aT (.t 165))] []) (.cond (.t 166) (sr [oo 2 (.mov aF)] .ret) .skip)) (rg [ov 167 0,oo 168 (.slStr (.t 167) (some (nn 4)) none),ov 0 168])) (sr [oo 2 (.mov aF)] .ret)))))))))))))))))) (sr [oo 2 (.mov aT)] .ret)),[.t 2]⟩
def F266:AF:=⟨sr [oo 2 (.mov aF)] (sr [ov 3 0,oo 4 (.bin .gtr Z3 (.c (.int .i32 127))),ov 5 4,wF 6 (.mov Z0) 5,wF 7 (.bin .eql Z6 (.c (.int .i32 95))) 5,oo 8 (.pick Z5 aT Z7),ov 9 8,wF 10 (.mov Z0) 9,wF 11 (.call 267 [Z10]) 9,oo 12 (.pick Z9 aT Z11),ov 13 12,wF 14 (.mov Z0) 13,wF 15 (.bin .geq Z14 (.c (.int .i32 97))) 13,wF 16 (.mov Z15) 13,wT 17 (.mov Z0) 16,wT 18 (.bin .leq Z17 (.c (.int .i32 122))) 16,wF 19 (.pick Z16 Z18 aF) 13,oo 20 (.pick Z13 aT Z19),ov 21 20,wF 22 (.mov Z0) 21,wF 23 (.bin .geq Z22 (.c (.int .i32 65))) 21,wF 24 (.mov Z23) 21,wT 25 (.mov Z0) 24,wT 26 (.bin .leq Z25 (.c (.int .i32 90))) 24,wF 27 (.pick Z24 Z26 aF) 21,oo 28 (.pick Z21 aT Z27),ov 2 28] .ret),[.t 2]⟩
def F267:AF:=⟨sr [oo 2 (.mov aF)] (sr [ov 3 0,oo 4 (.bin .geq Z3 (.c (.int .i32 48))),ov 5 4,wT 6 (.mov Z0) 5,wT 7 (.bin .leq Z6 (.c (.int .i32 57))) 5,oo 8 (.pick Z5 Z7 aF),ov 2 8] .ret),[.t 2]⟩
def F268:AF:=cf false false Tryz.f268
def F269:AF:=cf false false Tryz.f269
def F273:AF:=⟨sr [om 4 0,om 5 0] (sr [ov 12 0,ov 13 1,oo 14 (.idxStr Z12 Z13),oo 15 (.conv .i64 Z14),ov 6 15] (sq (sr [ov 16 6,on 17 .lss 16 128] (.cond Z17 (sr [ov 18 6,om 4 1,ov 5 18] .ret) .skip)) (sr [om 7 0,om 8 0,om 9 0] (sq (sr [ov 19 6,on 20 .geq 19 194,ov 21 20,wT 22 (.mov Z6) 21,wT 23 (.bin .leq Z22 (nn 223)) 21,oo 24 (.pick Z21 Z23 aF)] (.cond Z24 (rg [ov 25 6,on 26 .sub 25 192,om 7 2,om 8 128,ov 9 26]) .skip)) (sq (sr [ov 27 6,on 28 .geq 27 224,ov 29 28,wT 30 (.mov Z6) 29,wT 31 (.bin .leq Z30 (nn 239)) 29,oo 32 (.pick Z29 Z31 aF)] (.cond Z32 (rg [ov 33 6,on 34 .sub 33 224,om 7 3,om 8 2048,ov 9 34]) .skip)) (sq (sr [ov 35 6,on 36 .geq 35 240,ov 37 36,wT 38 (.mov Z6) 37,wT 39 (.bin .leq Z38 (nn 244)) 37,oo 40 (.pick Z37 Z39 aF)] (.cond Z40 (rg [ov 41 6,on 42 .sub 41 240,om 7 4,om 8 65536,ov 9 42]) .skip)) (sq (sr [ov 43 7,on 44 .eql 43 0,ov 45 44,wF 46 (.mov Z1) 45,wF 47 (.mov Z7) 45,wF 48 (.bin .add Z46 Z47) 45,wF 49 (.mov Z0) 45,wF 50 (.lenStr Z49) 45,wF 51 (.bin .gtr (.t 48) Z50) 45,oo 52 (.pick Z45 aT Z51)] (.cond Z52 (sr [om 4 1,om 5 65533] .ret) .skip)) (sq (sr [om 10 1] (.block 0 (.loop (sq (sr [ov 53 10,ov 54 7,ob 55 .lss 53 54] (.cond Z55 .skip (.exit 0))) (sq (.block 1 (sr [ov 58 0,ov 59 1,ov 60 10,ob 61 .add 59 60,oo 62 (.idxStr (.t 58) (.t 61)),oo 63 (.conv .i64 Z62),ov 11 63] (sq (sr [ov 64 11,on 65 .lss 64 128,ov 66 65,wF 67 (.mov Z11) 66,wF 68 (.bin .gtr Z67 (nn 191)) 66,oo 69 (.pick Z66 aT Z68)] (.cond Z69 (sr [om 4 1,om 5 65533] .ret) .skip)) (rg [ov 70 9,oo 71 (.bin .mul (nn 64) Z70),ov 72 11,ob 73 .add 71 72,on 74 .sub 73 128,ov 9 74])))) (rg [ov 56 10,on 57 .add 56 1,ov 10 57])))))) (sq (sr [ov 75 9,ov 76 8,ob 77 .lss 75 76,ov 78 77,wF 79 (.mov Z9) 78,wF 80 (.bin .gtr Z79 (nn 1114111)) 78,oo 81 (.pick Z78 aT Z80),ov 82 81,wF 83 (.mov Z9) 82,wF 84 (.bin .geq Z83 (nn 55296)) 82,wF 85 (.mov (.t 84)) 82,wT 86 (.mov Z9) 85,wT 87 (.bin .leq Z86 (nn 57343)) 85,wF 88 (.pick Z85 (.t 87) aF) 82,oo 89 (.pick (.t 82) aT (.t 88))] (.cond Z89 (sr [om 4 1,om 5 65533] .ret) .skip)) (sr [ov 90 7,ov 91 9,ov 4 90,ov 5 91] .ret)))))))))),[.t 4,.t 5]⟩
def F280:AF:=⟨sr [om 4 0] (sr [ov 5 0,oo 6 (.runesOfStr Z5),ov 7 1,oo 8 (.runesOfStr Z7),oo 9 (.call 293 [Z6,Z8]),ov 4 9] .ret),[.t 4]⟩
def F281:AF:=⟨sr [oo 2 (.box 3 Z0),oo 3 (.box 1 Z1),oo 4 (.mov (.c (.sl none true 0 [])))] (sq (sr [os 9 3 2,oo 10 (.call 103 [Z9]),on 11 .neq 10 0] (.cond Z11 (sr [oo 4 (.mov (.c (.sl none true 0 [])))] .ret) .skip)) (sr [oo 12 (.mkFn (.func 294) [] [.t 3]),ov 5 12] (sr [oo 6 (.mov (.c (.sl none true 0 [])))] (sq (sr [of 13 2 2,ol 14 13,oo 15 (lS Z14),om 16 0] (.block 0 (.loop (sr [ob 17 .lss 16 15] (sq (.cond Z17 .skip (.exit 0)) (sq (.block 1 (sr [ov 18 16,ox 19 3 14 16,os 20 3 19,oo 8 (.alloc [(.int .i64 0),(.int .i64 0),(.sl none true 0 [])]),ov 7 18,ou (.store 3 Z8 Z20)] (sr [ov 21 5,os 22 3 8,oo 23 (.callV Z21 [.t 22])] (.cond Z23 (rg [ov 24 6,ov 25 7,oo 26 (.buildSl false 1 [(.int .i64 0)] [(0,1,Z25)] 1),oo 27 (.append false 1 8 Z24 Z26),ov 6 27]) .skip)))) (rg [on 28 .add 16 1,ov 16 28]))))))) (sr [ov 29 6,ov 4 29] .ret))))),[.t 4]⟩
def F284:AF:=cf false false Tryz.f284
def F285:AF:=cf false false Tryz.f285
def F286:AF:=cf false false Tryz.f286
def F288:AF:=cf false false Tryz.f288
def F289:AF:=⟨sr [oo 2 (.mov (.c (.int .u64 0)))] (sq (.cond aF (sq (.draw [ov 3 0,oo 4 (.idxStr Z3 (nn 0)),oo 5 (.conv .u64 Z4),ov 6 0,oo 7 (.idxStr Z6 (nn 1)),oo 8 (.conv .u64 Z7),oo 9 (.bin .shl Z8 (.c (.int .u64 8))),ob 10 .or 5 9,ov 11 0,oo 12 (.idxStr Z11 (nn 2)),oo 13 (.conv .u64 Z12),oo 14 (.bin .shl Z13 (.c (.int .u64 16))),ob 15 .or 10 14,ov 16 0,oo 17 (.idxStr Z16 (nn 3)),oo 18 (.conv .u64 Z17),oo 19 (.bin .shl Z18 (.c (.int .u64 24))),ob 20 .or 15 19,ov 2 20] []) .ret) .skip) (sq (.draw [ov 21 0,oo 22 (.idxStr Z21 (nn 0)),oo 23 (.conv .u64 Z22),ov 24 0,oo 25 (.idxStr Z24 (nn 1)),oo 26 (.conv .u64 Z25),oo 27 (.bin .shl Z26 (.c (.int .u64 8))),ob 28 .or 23 27,ov 29 0,oo 30 (.idxStr Z29 (nn 2)),oo 31 (.conv .u64 Z30),oo 32 (.bin .shl Z31 (.c (.int .u64 16))),ob 33 .or 28 32,ov 34 0,oo 35 (.idxStr Z34 (nn 3)),oo 36 (.conv .u64 Z35),oo 37 (.bin .shl Z36 (.c (.int .u64 24))),ob 38 .or 33 37,ov 39 0,oo 40 (.idxStr Z39 (nn 4)),oo 41 (.conv .u64 Z40),oo 42 (.bin .shl Z41 (.c (.int .u64 32))),ob 43 .or 38 42,ov 44 0,oo 45 (.idxStr Z44 (nn 5)),oo 46 (.conv .u64 Z45),oo 47 (.bin .shl Z46 (.c (.int .u64 40))),ob 48 .or 43 47,ov 49 0,oo 50 (.idxStr Z49 (nn 6)),oo 51 (.conv .u64 Z50),oo 52 (.bin .shl Z51 (.c (.int .u64 48))),ob 53 .or 48 52,ov 54 0,oo 55 (.idxStr Z54 (nn 7)),oo 56 (.conv .u64 Z55),oo 57 (.bin .shl Z56 (.c (.int .u64 56))),ob 58 .or 53 57,ov 2 58] []) .ret)),[.t 2]⟩
def F293:AF:=⟨sr [om 4 0] (sq (sr [ov 9 0,oo 10 (lS Z9),om 11 0] (.block 0 (.loop (sr [ob 12 .lss 11 10] (sq (.cond Z12 .skip (.exit 0)) (sq (.block 1 (sr [ov 13 11,ox 14 1 9 11,ol 15 14,ov 5 13,ov 6 15] (sq (sr [ov 16 5,ov 17 1,oo 18 (lS Z17),ob 19 .geq 16 18] (.cond Z19 (sr [om 4 1] .ret) .skip)) (sr [ov 20 1,ov 21 5,ox 22 1 20 21,ol 23 22,ov 7 23] (sr [ov 24 6,ov 25 7,oo 26 (.call 304 [Z24,Z25]),ov 8 26] (sr [ov 27 8,on 28 .neq 27 0] (.cond Z28 (sr [ov 29 8,ov 4 29] .ret) .skip))))))) (rg [on 30 .add 11 1,ov 11 30]))))))) (sq (sr [ov 31 0,oo 32 (lS Z31),ov 33 1,oo 34 (lS Z33),ob 35 .lss 32 34] (.cond Z35 (sr [oo 4 (.mov (nn (-1)))] .ret) .skip)) (sr [om 4 0] .ret))),[.t 4]⟩
def F300:AF:=cf false false Tryz.f300
def F304:AF:=⟨sr [om 4 0] (sr [ov 7 0,oo 8 (.call 320 [Z7]),ov 5 8] (sr [ov 9 1,oo 10 (.call 320 [Z9]),ov 6 10] (sq (sr [ov 11 5] (.cond Z11 (sq (sr [ov 12 6] (.cond Z12 (sr [om 4 0] .ret) .skip)) (sr [oo 4 (.mov (nn (-1)))] .ret)) .skip)) (sq (sr [ov 13 6] (.cond Z13 (sr [om 4 1] .ret) .skip)) (sq (sr [ov 14 0,ov 15 1,ob 16 .lss 14 15] (.cond Z16 (sr [oo 4 (.mov (nn (-1)))] .ret) .skip)) (sq (sr [ov 17 0,ov 18 1,ob 19 .gtr 17 18] (.cond Z19 (sr [om 4 1] .ret) .skip)) (sr [om 4 0] .ret))))))),[.t 4]⟩
def F307:AF:=cf false false Tryz.f307
def F320:AF:=⟨sr [oo 2 (.mov aF)] (sr [ov 3 0,ov 4 0,ob 5 .neq 3 4,ov 2 5] .ret),[.t 2]⟩
def S25:AF:=⟨sr [qq 2 (.mov (.c (.sl none true 0 [])))] (sr [qq 3 (.buildSl true 1 [] [] 0),qv 4 0,qq 5 (.append true 1 8 Z3 Z4),qv 2 5] .ret),[.t 2]⟩
def S51:AF:=⟨sr [qq 1 (.box 3 Z0),qq 2 (.alloc [(.sl none true 0 []),(.sl none true 0 []),(.sl none true 0 [])])] (sr [qq 8 (.build [(.sl none true 0 []),(.sl none true 0 []),(.sl none true 0 [])] []),qq 3 (.alloc [(.sl none true 0 []),(.sl none true 0 []),(.sl none true 0 [])]),qu (.store 3 Z3 Z8)] (sq (sr [qm 4 0] (.block 0 (.loop (sq (sr [qv 9 4,qf 10 0 1,ql 11 10,qq 12 (lS Z11),qb 13 .lss 9 12,qv 14 13,zT 15 (.mov Z4) 14,zT 16 (.bin .lss Z15 (nn 25)) 14,qq 17 (.pick Z14 Z16 aF)] (.cond Z17 .skip (.exit 0))) (sq (.block 1 (.draw [qf 20 0 3,ql 21 20,qf 22 0 1,ql 23 22,qv 24 4,qx 25 1 23 24,ql 26 25,qf 27 0 1,ql 28 27,qv 29 4,qx 30 1 28 29,ql 31 30,qq 32 (.lenStr Z31),qq 33 (.minmax false [Z32,(nn 100)]),qq 34 (.slStr Z26 none (some Z33)),qq 35 (.buildSl true 1 [(.str [])] [(0,1,Z34)] 1),qq 36 (.append true 1 16 Z21 Z35),qf 37 0 3,qu (.store 1 Z37 Z36)] [(1,15)])) (rg [qv 18 4,qn 19 .add 18 1,qv 4 19])))))) (sq (sr [qm 5 0] (.block 2 (.loop (sq (sr [qv 38 5,qf 39 1 1,ql 40 39,qq 41 (lS Z40),qb 42 .lss 38 41,qv 43 42,zT 44 (.mov Z5) 43,zT 45 (.bin .lss Z44 (nn 45)) 43,qq 46 (.pick Z43 Z45 aF)] (.cond Z46 .skip (.exit 2))) (sq (.block 3 (.draw [qf 49 1 3,ql 50 49,qf 51 1 1,ql 52 51,qv 53 5,qx 54 1 52 53,ql 55 54,qf 56 1 1,ql 57 56,qv 58 5,qx 59 1 57 58,ql 60 59,qq 61 (.lenStr Z60),qq 62 (.minmax false [(.t 61),(nn 100)]),qq 63 (.slStr Z55 none (some Z62)),qq 64 (.buildSl true 1 [(.str [])] [(0,1,Z63)] 1),qq 65 (.append true 1 16 Z50 (.t 64)),qf 66 1 3,qu (.store 1 Z66 Z65)] [(1,15)])) (rg [qv 47 5,qn 48 .add 47 1,qv 5 48])))))) (sq (sr [qm 6 0] (.block 4 (.loop (sq (sr [qv 67 6,qf 68 2 1,ql 69 68,qq 70 (lS Z69),qb 71 .lss 67 70,qv 72 71,zT 73 (.mov Z6) 72,zT 74 (.bin .lss Z73 (nn 45)) 72,qq 75 (.pick Z72 Z74 aF)] (.cond Z75 .skip (.exit 4))) (sq (.block 5 (sr [qf 78 2 1,ql 79 78,qv 80 6,qx 81 3 79 80,qs 82 3 81,qq 7 (.alloc [(.int .i64 0),(.int .i64 0),(.sl none true 0 [])]),qu (.store 3 Z7 (.t 82))] (sr [qq 83 (.buildSl true 4 [] [] 0),qf 84 2 7,ql 85 84,qf 86 2 7,ql 87 86,qq 88 (lS (.t 87)),qq 89 (.minmax false [(.t 88),(nn 25)]),qq 90 (.slSl 4 Z85 none (some Z89)),qq 91 (.append true 4 32 Z83 Z90),qf 92 2 7,qu (.store 1 Z92 Z91)] (rg [qf 93 2 3,ql 94 93,qs 95 3 7,qq 96 (.buildSl true 3 [(.int .i64 0),(.int .i64 0),(.sl none true 0 [])] [(0,3,(.t 95))] 1),qq 97 (.append true 3 40 (.t 94) (.t 96)),qf 98 2 3,qu (.store 1 (.t 98) (.t 97))])))) (rg [qv 76 6,qn 77 .add 76 1,qv 6 77])))))) (sr [qs 99 3 3,qu (.store 3 Z2 (.t 99))] .ret))))),[.cell 2 (some 3)]⟩
def S76:AF:=⟨sr [qq 2 (.box 3 Z0),qq 4 (.mov (.c .nilptr))] (sq (.draw [qs 15 3 2,qq 16 (.mkMap),qq 17 (.mkMap),qs 18 3 2,qq 19 (.call 71 [Z18]),qq 20 (.mkMap),qq 21 (.build [(.sl none true 0 []),(.sl none true 0 []),(.sl none true 0 []),(.sl none true 0 []),.nilmap,.nilmap,(.sl none true 0 []),.nilmap,(.int .i64 0),(.bool false),(.sl none true 0 [])] [(0,3,Z15),(4,1,Z16),(5,1,Z17),(6,1,Z19),(7,1,Z20)]),qq 22 (.box 11 Z21),qv 5 22] [(0,1),(0,2),(1,2),(1,3),(2,3),(1,4),(2,4),(0,5),(1,5),(2,5),(3,5),(4,5)]) (sq (sr [qs 23 3 2,qq 24 (.call 86 [Z23]),qq 25 (lS Z24),qm 26 0] (.block 0 (.loop (sr [qb 27 .lss 26 25] (sq (.cond Z27 .skip (.exit 0)) (sq (.block 1 (sr [qv 28 26,qx 29 2 24 26,qs 30 2 29,qq 7 (.alloc [(.int .i64 0),(.int .i64 0)]),qv 6 28,qu (.store 2 Z7 Z30)] (.draw [qv 31 5,qv 32 5,qq 33 (.nilCheck Z32),qf 34 3 33,ql 35 34,qf 36 0 7,ql 37 36,qv 38 1,qv 39 6,qx 40 1 38 39,ql 41 40,qf 42 2 2,ql 43 42,qf 44 0 7,ql 45 44,qx 46 3 43 45,qf 47 2 46,ql 48 47,qf 49 1 7,ql 50 49,qx 51 4 48 50,qf 52 1 51,ql 53 52,qq 54 (.build [(.int .i64 0),(.int .i64 0),(.int .i64 0)] [(0,1,Z37),(1,1,Z41),(2,1,Z53)]),qq 55 (.buildSl true 3 [(.int .i64 0),(.int .i64 0),(.int .i64 0)] [(0,3,Z54)] 1),qq 56 (.append true 3 24 Z35 Z55),qq 57 (.nilCheck Z31),qf 58 3 57,qu (.store 1 (.t 58) Z56)] [(4,24)]))) (rg [qn 59 .add 26 1,qv 26 59]))))))) (sq (sr [qv 60 5,qq 61 (.nilCheck Z60),qf 62 6 61,ql 63 62,qq 64 (lS Z63),qm 65 0] (.block 2 (.loop (sr [qb 66 .lss 65 64] (sq (.cond Z66 .skip (.exit 2)) (sq (.block 3 (sr [qv 67 65,qx 68 1 63 65,ql 69 68,qv 8 67,qv 9 69] (sq (.draw [qv 70 5,qq 71 (.nilCheck Z70),qf 72 4 71,ql 73 72,qv 74 9,qv 75 5,qq 76 (.nilCheck Z75),qf 77 5 76,ql 78 77,qv 79 9,qq 80 (.call 78 [(.c (.sl none true 0 []))]),qq 81 (.call 78 [(.c (.sl none true 0 []))]),qq 82 (.mapEnt .int .nilptr Z73 Z74),qe 83 82 1,qu (.entSt Z73 Z83 Z80),qq 84 (.mapEnt .int .nilptr Z78 Z79),qe 85 84 1,qu (.entSt Z78 Z85 Z81)] []) (sq (sr [qv 86 5,qq 87 (.nilCheck Z86),qf 88 6 87,ql 89 88,qv 90 8,qq 91 (.slSl 1 Z89 none (some Z90)),qq 92 (lS Z91),qm 93 0] (.block 4 (.loop (sr [qb 94 .lss 93 92] (sq (.cond (.t 94) .skip (.exit 4)) (sq (.block 5 (sr [qx 95 1 91 93,ql 96 95,qv 11 96] (sq (.draw [qf 97 2 2,ql 98 97,qv 99 11,qx 100 3 98 99,qf 101 0 100,ql 102 101,qf 103 2 2,ql 104 103,qv 105 9,qx 106 3 104 105,qf 107 0 106,ql 108 107,qb 109 .eql 102 108] []) (.cond (.t 109) (rg [qv 110 5,qq 111 (.nilCheck (.t 110)),qf 112 4 111,ql 113 112,qv 114 9,qq 115 (.lookup .int .nilptr false (.t 113) (.t 114)),qv 116 11,qq 117 (.call 81 [.t 115,.t 116])]) .skip)))) (rg [qn 118 .add 93 1,qv 93 118]))))))) (sr [qf 119 1 2,ql 120 119,qq 121 (lS (.t 120)),qm 122 0] (.block 6 (.loop (sr [qb 123 .lss 122 121] (sq (.cond (.t 123) .skip (.exit 6)) (sq (.block 7 (sr [qv 124 122,qv 12 124] (sr [qs 126 3 2,qv 127 9,qv 128 12,qq 129 (.call 116 [.t 126,.t 127,.t 128]),qv 125 129,qe 130 125 0,qe 131 125 1,qq 13 (.alloc [(.int .i64 0),(.int .i64 0)]),qu (.store 2 Z13 (.t 130)),qv 14 131] (sr [qv 132 14] (.cond (.t 132) (rg [qv 133 5,qq 134 (.nilCheck (.t 133)),qf 135 5 134,ql 136 135,qv 137 9,qq 138 (.lookup .int .nilptr false (.t 136) (.t 137)),qv 139 12,qq 140 (.call 81 [.t 138,.t 139])]) .skip))))) (rg [qn 141 .add 122 1,qv 122 141]))))))))))) (rg [qn 142 .add 65 1,qv 65 142]))))))) (sr [qv 143 5,qv 4 143] .ret)))),[.t 4]⟩
def S77:AF:=⟨sr [qq 4 (.mov aF)] (sq (.seq (.draw [qv 7 0,qq 8 (.nilCheck Z7),qf 9 7 8,ql 10 9,qq 11 (.lenMap Z10),qv 12 0,qq 13 (.nilCheck Z12),qf 14 8 13,ql 15 14,qb 16 .eql 11 15] []) (.cond Z16 (sr [qv 17 0,qq 18 (.nilCheck Z17),qf 19 9 18,qu (.store 1 Z19 aT)] (sr [qq 4 (.mov aF)] .ret)) .skip)) (sq (.draw [qv 20 0,qq 21 (.nilCheck Z20),qf 22 7 21,ql 23 22,qv 24 1,qq 25 (.call 123 [Z24]),qq 26 (.lookup .int (.int .i64 0) false Z23 Z25),qn 27 .add 26 1,qu (.mapSet .int Z23 Z25 Z27)] []) (sq (.seq (.draw [qv 28 0,qq 29 (.nilCheck Z28),qf 30 10 29,ql 31 30,qq 32 (lS Z31),qv 33 0,qq 34 (.nilCheck Z33),qf 35 6 34,ql 36 35,qq 37 (lS Z36),qb 38 .eql 32 37] []) (.cond Z38 (sr [qq 4 (.mov aT)] .ret) .skip)) (sq (sr [qv 39 0,qq 40 (.nilCheck Z39),qf 41 6 40,ql 42 41,qq 43 (lS Z42),qm 44 0] (.block 0 (.loop (sr [qb 45 .lss 44 43] (sq (.cond Z45 .skip (.exit 0)) (sq (.block 1 (sr [qx 46 1 42 44,ql 47 46,qv 6 47] (sq (.seq (.draw [qv 48 1,qv 49 6,qq 50 (.call 124 [.t 48,Z49]),qv 51 50,zF 52 (.mov Z0) 51,zF 53 (.mov Z1) 51,zF 54 (.mov Z6) 51,zF 55 (.call 82 [Z52,Z53,Z54]) 51,zF 56 (.un .not Z55) 51,qq 57 (.pick Z51 aT Z56),qv 58 57,zF 59 (.mov Z0) 58,zF 60 (.nilCheck Z59) 58,zF 61 (fA 7 Z60) 58,zF 62 (.load none (.t 61)) 58,zF 63 (.mov Z1) 58,zF 64 (.call 123 [Z63]) 58,zF 65 (.mov Z6) 58,zF 66 (.bin .shl (.c (.int .u64 1)) Z65) 58,zF 67 (.bin .or (.t 64) Z66) 58,zF 68 (.lookup .int (.int .i64 0) false Z62 Z67) 58,zF 69 (.bin .gtr Z68 (nn 0)) 58,qq 70 (.pick (.t 58) aT Z69)] []) (.cond Z70 (.exit 1) .skip)) (sr [qv 71 1,qv 72 6,qq 73 (.call 81 [.t 71,Z72])] (sr [qv 74 0,qv 75 0,qq 76 (.nilCheck Z75),qf 77 10 76,ql 78 77,qv 79 6,qq 80 (.buildSl true 1 [(.int .i64 0)] [(0,1,Z79)] 1),qq 81 (.append true 1 8 Z78 Z80),qq 82 (.nilCheck Z74),qf 83 10 82,qu (.store 1 Z83 Z81)] (sq (sr [qv 84 0,qv 85 1,qq 86 (.call 77 [.t 84,Z85])] (.cond Z86 (sr [qq 4 (.mov aT)] .ret) .skip)) (sq (sr [qv 87 0,qq 88 (.nilCheck (.t 87)),qf 89 9 88,ql 90 89] (.cond Z90 (sr [qq 4 (.mov aF)] .ret) .skip)) (sq (.draw [qv 91 0,qv 92 0,qq 93 (.nilCheck Z92),qf 94 10 93,ql 95 94,qv 96 0,qq 97 (.nilCheck (.t 96)),qf 98 10 97,ql 99 98,qq 100 (lS (.t 99)),qn 101 .sub 100 1,qq 102 (.slSl 1 (.t 95) none (some (.t 101))),qq 103 (.nilCheck Z91),qf 104 10 103,qu (.store 1 (.t 104) (.t 102))] []) (rg [qv 105 1,qv 106 6,qq 107 (.call 125 [.t 105,.t 106])]))))))))) (rg [qn 108 .add 44 1,qv 44 108]))))))) (sr [qq 4 (.mov aF)] .ret))))),[.t 4]⟩
def S78:AF:=⟨sr [qq 2 (.mov (.c .nilptr))] (sr [qq 6 (.build [(.int .u64 0),(.int .u64 0),(.int .u64 0),(.int .u64 0),(.int .u64 0),(.int .u64 0),(.int .u64 0),(.int .u64 0)] []),qq 7 (.box 8 Z6),qv 3 7] (sq (sr [qv 8 0,qq 9 (lS Z8),qm 10 0] (.block 0 (.loop (sr [qb 11 .lss 10 9] (sq (.cond Z11 .skip (.exit 0)) (sq (.block 1 (sr [qx 12 1 8 10,ql 13 12,qv 5 13] (rg [qv 14 3,qv 15 5,qq 16 (.call 81 [Z14,Z15])]))) (rg [qn 17 .add 10 1,qv 10 17]))))))) (sr [qv 18 3,qv 2 18] .ret))),[.t 2]⟩
def S79:AF:=⟨sr [qq 8 (.mov (.c (.sl none true 0 []))),qq 9 (.mov aF)] (sq (.seq (.draw [qv 14 0,qq 15 (.nilCheck Z14),qf 16 4 15,ql 17 16,qq 18 (lS Z17),qv 19 0,qq 20 (.nilCheck Z19),qf 21 5 20,ql 22 21,qb 23 .eql 18 22] []) (.cond Z23 (sr [qv 24 0,qq 25 (.nilCheck Z24),qf 26 6 25,qu (.store 1 Z26 aT)] (sr [qq 8 (.mov (.c (.sl none true 0 []))),qq 9 (.mov aF)] .ret)) .skip)) (sq (.draw [qv 27 0,qv 28 0,qq 29 (.nilCheck Z28),qf 30 4 29,ql 31 30,qq 32 (.buildSl true 1 [] [] 0),qv 33 1,qq 34 (.append true 1 1 Z32 Z33),qq 35 (.buildSl true 1 [(.sl none true 0 [])] [(0,1,Z34)] 1),qq 36 (.append true 1 24 Z31 Z35),qq 37 (.nilCheck Z27),qf 38 4 37,qu (.store 1 Z38 Z36)] [(4,5),(4,7),(4,8)]) (sq (sr [qv 39 2,qq 40 (lS Z39),qv 41 3,qb 42 .eql 40 41] (.cond Z42 (sr [qv 43 2,qv 8 43,qq 9 (.mov aT)] .ret) .skip)) (sq (sr [qm 10 0] (.block 0 (.loop (sq (sr [qv 44 10,qv 45 0,qq 46 (.nilCheck Z45),qf 47 0 46,qf 48 2 47,ql 49 48,qq 50 (lS Z49),qb 51 .lss 44 50] (.cond Z51 .skip (.exit 0))) (sq (.block 1 (sq (.seq (sq (.draw [qv 54 0,qq 55 (.nilCheck Z54),qf 56 0 55,qf 57 2 56,ql 58 57,qv 59 10,qx 60 3 58 59,qf 61 1 60,ql 62 61,qn 63 .neq 62 1,qv 64 63,zF 65 (.mov Z1) 64,zF 66 (.mov Z10) 64,zF 67 (.idxSl 1 Z65 Z66) 64,zF 68 (.load none Z67) 64,qq 69 (.pick (.t 64) aT Z68),qv 70 69,zF 71 (.mov Z0) 70,zF 72 (.nilCheck (.t 71)) 70,zF 73 (fA 0 Z72) 70,zF 74 (.load (some 3) Z73) 70,zF 75 (.mov Z0) 70,zF 76 (.nilCheck Z75) 70,zF 77 (fA 3 (.t 76)) 70,zF 78 (.load none (.t 77)) 70,zF 79 (.mov Z1) 70,zF 80 (.mov Z10) 70] []) (rg [zF 81 (.call 83 [Z74,Z78,Z79,Z80]) 70,zF 82 (.un .not Z81) 70,qq 83 (.pick Z70 aT (.t 82))])) (.cond Z83 (.exit 1) .skip)) (sr [qq 84 (.buildSl true 1 [] [] 0),qv 85 1,qq 86 (.append true 1 1 (.t 84) Z85),qv 11 86] (sr [qv 87 11,qv 88 10,qx 89 1 87 88,qu (.store 1 Z89 aT)] (sq (sr [qv 90 0,qv 91 11,qq 92 (.call 126 [Z90,Z91])] (.cond Z92 (.exit 1) .skip)) (sr [qv 94 0,qv 95 11,qv 96 2,qq 97 (.call 25 [.t 96]),qv 98 10,qq 99 (.buildSl true 1 [(.int .i64 0)] [(0,1,(.t 98))] 1),qq 100 (.append true 1 8 (.t 97) (.t 99)),qv 101 3,qq 102 (.call 79 [.t 94,.t 95,.t 100,.t 101]),qv 93 102,qe 103 93 0,qe 104 93 1,qv 12 103,qv 13 104] (sr [qv 105 13,qv 106 105,zF 107 (.mov Z0) 106,zF 108 (.nilCheck (.t 107)) 106,zF 109 (fA 6 (.t 108)) 106,zF 110 (.load none (.t 109)) 106,qq 111 (.pick (.t 106) aT (.t 110))] (.cond (.t 111) (sr [qv 112 12,qv 113 13,qv 8 112,qv 9 113] .ret) .skip)))))))) (rg [qv 52 10,qn 53 .add 52 1,qv 10 53])))))) (sr [qq 8 (.mov (.c (.sl none true 0 []))),qq 9 (.mov aF)] .ret))))),[.t 8,.t 9]⟩
def S81:AF:=⟨sr [qm 4 0] (sr [qv 6 0,qv 7 1,qq 8 (.call 128 [Z6,Z7]),qv 5 8] (sq (sr [qv 9 5,qn 10 .eql 9 0] (.cond Z10 (.draw [qv 11 0,qv 12 1,qn 13 .quo 12 64,qq 14 (.nilCheck Z11),qf 15 0 14,qq 16 (.idxArr 8 1 Z15 Z13),ql 17 16,qv 18 1,qn 19 .rem 18 64,qq 20 (.bin .shl (.c (.int .u64 1)) Z19),qb 21 .or 17 20,qq 22 (.nilCheck Z11),qf 23 0 22,qq 24 (.idxArr 8 1 Z23 Z13),qu (.store 1 Z24 Z21)] []) .skip)) (sr [qv 25 5,qv 4 25] .ret))),[.t 4]⟩
def S82:AF:=⟨sr [qq 3 (.box 1 Z0),qq 4 (.box 1 Z1),qq 5 (.box 1 Z2),qq 6 (.mov aF)] (sq (.seq (sq (.draw [ql 7 3,qq 8 (.nilCheck Z7),qf 9 4 8,ql 10 9,ql 11 5,qq 12 (.lookup .int .nilptr false Z10 Z11),qq 13 (.call 130 [Z12]),qq 14 (.mkFn (.func 131) [] [.t 4])] []) (rg [qq 15 (.call 129 [Z13,Z14])])) (.cond Z15 (sr [qq 6 (.mov aF)] .ret) .skip)) (sr [ql 16 3,qq 17 (.nilCheck Z16),qf 18 3 17,ql 19 18,qq 20 (.mkFn (.func 133) [] [.t 5,.t 4,.t 3]),qq 21 (.call 132 [Z19,Z20]),qq 22 (.un .not Z21),qv 6 22] .ret)),[.t 6]⟩
def S83:AF:=⟨sr [qq 4 (.box 3 Z0),qq 8 (.mov aF)] (sq (sr [qm 9 0] (.block 0 (.loop (sq (sr [qv 14 9,qv 15 3,qb 16 .lss 14 15] (.cond Z16 .skip (.exit 0))) (sq (.block 1 (sq (.draw [qf 19 2 4,ql 20 19,qv 21 9,qx 22 3 20 21,qf 23 1 22,ql 24 23,qn 25 .eql 24 1,qv 26 25,zT 27 (fA 2 Z4) 26,zT 28 (.load none Z27) 26,zT 29 (.mov Z9) 26,zT 30 (.idxSl 3 Z28 Z29) 26,zT 31 (fA 0 Z30) 26,zT 32 (.load none Z31) 26,zT 33 (fA 2 Z4) 26,zT 34 (.load none Z33) 26,zT 35 (.mov Z3) 26,zT 36 (.idxSl 3 Z34 Z35) 26,zT 37 (fA 0 Z36) 26,zT 38 (.load none Z37) 26,zT 39 (.bin .eql Z32 Z38) 26,qq 40 (.pick Z26 Z39 aF),qv 41 40,zT 42 (.mov Z2) 41,zT 43 (.mov Z9) 41,zT 44 (.idxSl 1 Z42 Z43) 41,zT 45 (.load none Z44) 41,zT 46 (.un .not Z45) 41,qq 47 (.pick Z41 Z46 aF)] []) (.cond Z47 (sr [qq 8 (.mov aF)] .ret) .skip))) (rg [qv 17 9,qn 18 .add 17 1,qv 9 18])))))) (sr [qs 48 3 4,qq 49 (.call 31 [.t 48]),qv 10 49] (sq (sr [qm 11 0] (.block 2 (.loop (sq (sr [qv 50 11,qv 51 10,qq 52 (lS Z51),qb 53 .lss 50 52] (.cond Z53 .skip (.exit 2))) (sq (.block 3 (sr [qv 56 10,qv 57 11,qx 58 2 56 57,qs 59 2 58,qq 12 (.alloc [(.int .i64 0),(.int .i64 0)]),qu (.store 2 Z12 Z59)] (sr [qv 60 1,qv 61 11,qx 62 1 60 61,ql 63 62,qn 64 .lss 63 0,qv 65 64,zF 66 (.mov Z2) 65,zF 67 (.mov Z1) 65,zF 68 (.mov Z11) 65,zF 69 (.idxSl 1 Z67 Z68) 65,zF 70 (.load none Z69) 65,zF 71 (.idxSl 1 Z66 Z70) 65,zF 72 (.load none (.t 71)) 65,qq 73 (.pick Z65 aT Z72),qv 13 73] (sq (sr [qf 74 0 12,ql 75 74,qv 76 3,qb 77 .eql 75 76,qv 78 77,zT 79 (.mov Z13) 78,zT 80 (.un .not Z79) 78,qq 81 (.pick Z78 Z80 aF)] (.cond Z81 (sr [qq 8 (.mov aF)] .ret) .skip)) (sq (.seq (.draw [qf 82 0 12,ql 83 82,qv 84 3,qb 85 .neq 83 84,qv 86 85,zT 87 (.mov Z2) 86,zT 88 (fA 0 Z12) 86,zT 89 (.load none (.t 88)) 86,zT 90 (.idxSl 1 (.t 87) Z89) 86,zT 91 (.load none Z90) 86,zT 92 (.un .not Z91) 86,qq 93 (.pick Z86 Z92 aF),qv 94 93,zT 95 (.mov Z13) 94,qq 96 (.pick (.t 94) (.t 95) aF),qv 97 96,zT 98 (fA 2 Z4) 97,zT 99 (.load none (.t 98)) 97,zT 100 (.mov Z3) 97,zT 101 (.idxSl 3 (.t 99) (.t 100)) 97,zT 102 (.load (some 3) (.t 101)) 97,zT 103 (fA 2 Z4) 97,zT 104 (.load none (.t 103)) 97,zT 105 (fA 0 Z12) 97,zT 106 (.load none (.t 105)) 97,zT 107 (.idxSl 3 (.t 104) (.t 106)) 97,zT 108 (fA 2 (.t 107)) 97,zT 109 (.load none (.t 108)) 97,zT 110 (fA 1 Z12) 97,zT 111 (.load none (.t 110)) 97,zT 112 (.idxSl 4 (.t 109) (.t 111)) 97,zT 113 (fA 1 (.t 112)) 97,zT 114 (.load none (.t 113)) 97] []) (rg [zT 115 (.call 135 [.t 102,.t 114]) 97,qq 116 (.pick (.t 97) (.t 115) aF)])) (.cond (.t 116) (sr [qq 8 (.mov aF)] .ret) .skip)))))) (rg [qv 54 11,qn 55 .add 54 1,qv 11 55])))))) (sr [qq 8 (.mov aT)] .ret)))),[.t 8]⟩
def S111:AF:=⟨sr [qq 3 (.box 3 Z0),qq 4 (.box 3 Z1),qq 6 (.mov aF)] (sq (sr [qf 9 0 4,ql 10 9,qn 11 .lss 10 0,qv 12 11,zF 13 (fA 0 Z4) 12,zF 14 (.load none Z13) 12,zF 15 (fA 0 Z3) 12,zF 16 (.load none Z15) 12,zF 17 (lS Z16) 12,zF 18 (.bin .geq Z14 Z17) 12,qq 19 (.pick Z12 aT Z18),qv 20 19,zF 21 (fA 1 Z4) 20,zF 22 (.load none Z21) 20,zF 23 (.bin .lss Z22 (nn 1)) 20,qq 24 (.pick Z20 aT Z23),qv 25 24,zF 26 (fA 1 Z4) 25,zF 27 (.load none Z26) 25,zF 28 (.bin .gtr Z27 (nn 3)) 25,qq 29 (.pick Z25 aT Z28),qv 30 29,zF 31 (fA 2 Z4) 30,zF 32 (.load none Z31) 30,zF 33 (lS Z32) 30,zF 34 (.bin .gtr Z33 (nn 20)) 30,qq 35 (.pick Z30 aT Z34)] (.cond Z35 (sr [qq 6 (.mov aF)] .ret) .skip)) (sq (sr [qm 7 0] (.block 0 (.loop (sq (sr [qv 36 7,qf 37 2 4,ql 38 37,qq 39 (lS Z38),qb 40 .lss 36 39] (.cond Z40 .skip (.exit 0))) (sq (.block 1 (sr [qf 43 2 4,ql 44 43,qv 45 7,qx 46 4 44 45,qs 47 4 46,qq 8 (.alloc [(.bool false),(.int .i64 0),(.int .i64 0),(.int .i64 0)]),qu (.store 4 Z8 Z47)] (sq (sr [qf 48 1 8,ql 49 48,qn 50 .lss 49 0,qv 51 50,zF 52 (fA 1 Z8) 51,zF 53 (.load none Z52) 51,zF 54 (fA 1 Z3) 51,zF 55 (.load none Z54) 51,zF 56 (lS Z55) 51,zF 57 (.bin .geq Z53 Z56) 51,qq 58 (.pick Z51 aT Z57),qv 59 58,zF 60 (fA 2 Z8) 59,zF 61 (.load (some 2) Z60) 59,zF 62 (.call 174 [.t 61]) 59,zF 63 (.un .not Z62) 59,qq 64 (.pick Z59 aT Z63),qv 65 64,zF 66 (fA 0 Z8) 65,zF 67 (.load none Z66) 65,zF 68 (.mov Z67) 65,zT 69 (fA 2 Z8) 68,zT 70 (fA 0 Z69) 68,zT 71 (.load none Z70) 68,zT 72 (.bin .neq (.t 71) (nn 1)) 68,zF 73 (.pick Z68 Z72 aF) 65,qq 74 (.pick Z65 aT Z73)] (.cond Z74 (sr [qq 6 (.mov aF)] .ret) .skip)) (rg [qv 75 2,qf 76 1 8,ql 77 76,qx 78 1 75 77,qu (.store 1 Z78 aT)])))) (rg [qv 41 7,qn 42 .add 41 1,qv 7 42])))))) (sr [qq 6 (.mov aT)] .ret))),[.t 6]⟩
def S123:AF:=⟨sr [qq 2 (.mov (.c (.int .u64 0)))] (sr [qq 3 (.mov (.c (.int .u64 0)))] (sq (sr [qv 6 0,qq 7 (.call 130 [Z6]),qq 8 (lS Z7),qm 9 0] (.block 0 (.loop (sr [qb 10 .lss 9 8] (sq (.cond Z10 .skip (.exit 0)) (sq (.block 1 (sr [qx 11 1 7 9,ql 12 11,qv 5 12] (rg [qv 13 3,qv 14 5,qq 15 (.bin .shl (.c (.int .u64 1)) Z14),qb 16 .or 13 15,qv 3 16]))) (rg [qn 17 .add 9 1,qv 9 17]))))))) (sr [qv 18 3,qv 2 18] .ret))),[.t 2]⟩
def S124:AF:=⟨sr [qq 4 (.mov aF)] (sr [qv 5 0,qv 6 1,qq 7 (.call 128 [Z5,Z6]),qn 8 .eql 7 0,qv 9 8,zT 10 (.mov Z0) 9,zT 11 (.mov Z1) 9,zT 12 (.bin .quo Z11 (nn 64)) 9,zT 13 (.nilCheck Z10) 9,zT 14 (fA 0 Z13) 9,zT 15 (.idxArr 8 1 Z14 Z12) 9,zT 16 (.load none Z15) 9,zT 17 (.mov Z1) 9,zT 18 (.bin .rem Z17 (nn 64)) 9,zT 19 (.bin .shr Z16 Z18) 9,zT 20 (.bin .and Z19 (.c (.int .u64 1))) 9,zT 21 (.bin .eql Z20 (.c (.int .u64 1))) 9,qq 22 (.pick Z9 Z21 aF),qv 4 22] .ret),[.t 4]⟩
def S125:AF:=⟨sr [qm 4 0] (sr [qv 6 0,qv 7 1,qq 8 (.call 128 [Z6,Z7]),qv 5 8] (sq (sr [qv 9 5,qn 10 .eql 9 0] (.cond Z10 (.draw [qv 11 0,qv 12 1,qn 13 .quo 12 64,qq 14 (.nilCheck Z11),qf 15 0 14,qq 16 (.idxArr 8 1 Z15 Z13),ql 17 16,qv 18 1,qn 19 .rem 18 64,qq 20 (.bin .shl (.c (.int .u64 1)) Z19),qb 21 .andNot 17 20,qq 22 (.nilCheck Z11),qf 23 0 22,qq 24 (.idxArr 8 1 Z23 Z13),qu (.store 1 Z24 Z21)] []) .skip)) (sr [qv 25 5,qv 4 25] .ret))),[.t 4]⟩
def S126:AF:=⟨sr [qq 4 (.mov aF)] (sq (sr [qm 5 0] (.block 0 (.loop (sq (sr [qv 8 5,qv 9 0,qq 10 (.nilCheck Z9),qf 11 4 10,ql 12 11,qq 13 (lS Z12),qb 14 .lss 8 13] (.cond Z14 .skip (.exit 0))) (sq (.block 1 (sr [qq 6 (.mov aT)] (sq (sr [qm 7 0] (.block 2 (.loop (sq (sr [qv 17 7,qv 18 1,qq 19 (lS Z18),qb 20 .lss 17 19] (.cond Z20 .skip (.exit 2))) (sq (.block 3 (.draw [qv 23 6,qv 24 23,zT 25 (.mov Z0) 24,zT 26 (.nilCheck Z25) 24,zT 27 (fA 4 Z26) 24,zT 28 (.load none Z27) 24,zT 29 (.mov Z5) 24,zT 30 (.idxSl 1 Z28 Z29) 24,zT 31 (.load none Z30) 24,zT 32 (.mov Z7) 24,zT 33 (.idxSl 1 Z31 Z32) 24,zT 34 (.load none Z33) 24,zT 35 (.mov Z1) 24,zT 36 (.mov Z7) 24,zT 37 (.idxSl 1 Z35 Z36) 24,zT 38 (.load none Z37) 24,zT 39 (.eq false .bool Z34 Z38) 24,qq 40 (.pick Z24 Z39 aF),qv 6 40] [])) (rg [qv 21 7,qn 22 .add 21 1,qv 7 22])))))) (sr [qv 41 6] (.cond Z41 (sr [qq 4 (.mov aT)] .ret) .skip))))) (rg [qv 15 5,qn 16 .add 15 1,qv 5 16])))))) (sr [qq 4 (.mov aF)] .ret)),[.t 4]⟩
def S128:AF:=⟨sr [qm 4 0] (sq (.block 0 (sr [qv 6 0,qq 7 (.eq false .ptr Z6 (.c .nilptr)),qv 5 7] (.cond Z5 (sr [qm 4 4] .ret) (sr [qv 9 1,qq 10 (.call 189 [Z9]),qq 11 (.un .not Z10),qv 8 11] (.cond Z8 (sr [qm 4 2] .ret) .skip))))) (sr [qm 4 0] .ret)),[.t 4]⟩
def S129:AF:=⟨sr [qq 4 (.mov aF)] (sr [qv 5 0,qv 6 1,qq 7 (.call 147 [Z5,Z6]),qn 8 .geq 7 0,qv 4 8] .ret),[.t 4]⟩
def S130:AF:=⟨sr [qq 2 (.mov (.c (.sl none true 0 [])))] (sq (sr [qv 6 0,qq 7 (.eq false .ptr Z6 (.c .nilptr))] (.cond Z7 (sr [qq 2 (.mov (.c (.sl none true 0 [])))] .ret) .skip)) (sr [qq 3 (.mov (.c (.sl none true 0 [])))] (sq (sr [qv 8 0,qq 9 (.nilCheck Z8),qf 10 0 9,qs 11 8 10,qm 12 0] (.block 0 (.loop (sr [qn 13 .lss 12 8] (sq (.cond Z13 .skip (.exit 0)) (sq (.block 1 (sr [qv 14 12,qq 15 (.idxVal none 8 1 Z11 Z12),qv 4 14,qv 5 15] (.block 2 (.loop (sq (sr [qv 16 5,qq 17 (.bin .neq Z16 (.c (.int .u64 0)))] (.cond Z17 .skip (.exit 2))) (sq (.block 3 (rg [qv 22 3,qv 23 4,qn 24 .mul 23 64,qv 25 5,qq 26 (.call 190 [Z25]),qb 27 .add 24 26,qq 28 (.buildSl true 1 [(.int .i64 0)] [(0,1,Z27)] 1),qq 29 (.append true 1 8 Z22 Z28),qv 3 29])) (rg [qv 18 5,qv 19 5,qq 20 (.bin .sub Z19 (.c (.int .u64 1))),qb 21 .and 18 20,qv 5 21]))))))) (rg [qn 30 .add 12 1,qv 12 30]))))))) (sr [qv 31 3,qv 2 31] .ret)))),[.t 2]⟩
def S131:AF:=⟨sr [qq 3 (.mov aF)] (sr [ql 4 1,qv 5 0,qq 6 (.call 124 [Z4,Z5]),qq 7 (.un .not Z6),qv 3 7] .ret),[.t 3]⟩
def S132:AF:=⟨sr [qq 4 (.mov aF)] (sr [qv 5 0,qv 6 1,qq 7 (.call 191 [Z5,Z6]),qn 8 .geq 7 0,qv 4 8] .ret),[.t 4]⟩
def S133:AF:=⟨sr [qq 4 (.box 3 Z0),qq 5 (.mov aF)] (sq (sr [qf 6 0 4,ql 7 6,ql 8 1,qb 9 .eql 7 8] (.cond Z9 (sr [ql 10 2,qf 11 1 4,ql 12 11,qq 13 (.call 134 [Z10,Z12]),qq 14 (.un .not Z13),qv 5 14] .ret) .skip)) (sq (.seq (.draw [ql 15 2,qf 16 0 4,ql 17 16,qq 18 (.call 124 [Z15,Z17]),qq 19 (.un .not Z18),qv 20 19,zT 21 (.load none Z2) 20,zT 22 (fA 1 Z4) 20,zT 23 (.load none Z22) 20,zT 24 (.call 134 [Z21,Z23]) 20,qq 25 (.pick Z20 Z24 aF),qv 26 25,zT 27 (.load none Z3) 26,zT 28 (.nilCheck Z27) 26,zT 29 (fA 5 Z28) 26,zT 30 (.load none Z29) 26,zT 31 (.load none Z1) 26,zT 32 (.lookup .int .nilptr false Z30 Z31) 26,zT 33 (fA 2 Z4) 26,zT 34 (.load none Z33) 26] []) (rg [zT 35 (.call 124 [Z32,Z34]) 26,qq 36 (.pick Z26 Z35 aF),qv 5 36])) .ret)),[.t 5]⟩
def S134:AF:=⟨sr [qq 4 (.mov aF)] (sr [qv 5 1,qn 6 .lss 5 0,qv 7 6,zF 8 (.mov Z0) 7,zF 9 (.mov Z1) 7,zF 10 (.call 124 [Z8,Z9]) 7,qq 11 (.pick Z7 aT Z10),qv 4 11] .ret),[.t 4]⟩
def S147:AF:=⟨sr [qm 4 0] (sq (sr [qv 6 0,qq 7 (lS Z6),qm 8 0] (.block 0 (.loop (sr [qb 9 .lss 8 7] (sq (.cond Z9 .skip (.exit 0)) (sq (.block 1 (sr [qv 10 8,qv 5 10] (sr [qv 11 1,qv 12 0,qv 13 5,qx 14 1 12 13,ql 15 14,qq 16 (.callV Z11 [.t 15])] (.cond Z16 (sr [qv 17 5,qv 4 17] .ret) .skip)))) (rg [qn 18 .add 8 1,qv 8 18]))))))) (sr [qq 4 (.mov (nn (-1)))] .ret)),[.t 4]⟩
def S153:AF:=⟨sr [qq 4 (.mov aF)] (sr [qv 5 0,qv 6 1,qq 7 (.call 213 [Z5,Z6]),qn 8 .geq 7 0,qv 4 8] .ret),[.t 4]⟩
def S154:AF:=⟨sr [qq 2 (.box 3 Z0),qq 3 (.mov aF)] (sr [qs 4 3 1,qs 5 3 2,qq 6 (.call 155 [Z4,Z5]),qq 7 (.un .not Z6),qv 3 7] .ret),[.t 3]⟩
def S156:AF:=⟨sr [qq 1 (.box 3 Z0),qq 2 (.mov (.c .nilfn))] (sr [qq 3 (.mkFn (.func 215) [] [.t 1]),qv 2 3] .ret),[.t 2]⟩
def S168:AF:=cf true true Tryz.f168
def S169:AF:=cf true true Tryz.f169
def S171:AF:=cf true true Tryz.f171
def S191:AF:=⟨sr [qm 4 0] (sq (sr [qv 6 0,qq 7 (lS Z6),qm 8 0] (.block 0 (.loop (sr [qb 9 .lss 8 7] (sq (.cond Z9 .skip (.exit 0)) (sq (.block 1 (sr [qv 10 8,qv 5 10] (sr [qv 11 1,qv 12 0,qv 13 5,qx 14 3 12 13,qs 15 3 14,qq 16 (.callV Z11 [.t 15])] (.cond Z16 (sr [qv 17 5,qv 4 17] .ret) .skip)))) (rg [qn 18 .add 8 1,qv 8 18]))))))) (sr [qq 4 (.mov (nn (-1)))] .ret)),[.t 4]⟩
def S213:AF:=⟨sr [qm 4 0] (sq (sr [qv 6 0,qq 7 (lS Z6),qm 8 0] (.block 0 (.loop (sr [qb 9 .lss 8 7] (sq (.cond Z9 .skip (.exit 0)) (sq (.block 1 (sr [qv 10 8,qv 5 10] (sr [qv 11 1,qv 12 0,qv 13 5,qx 14 3 12 13,qs 15 3 14,qq 16 (.callV Z11 [.t 15])] (.cond Z16 (sr [qv 17 5,qv 4 17] .ret) .skip)))) (rg [qn 18 .add 8 1,qv 8 18]))))))) (sr [qq 4 (.mov (nn (-1)))] .ret)),[.t 4]⟩
def S215:AF:=⟨sr [qf 7 2 1,ql 8 7,qq 9 (lS Z8),qm 10 0] (.block 0 (.loop (sr [qb 11 .lss 10 9] (sq (.cond Z11 .skip (.exit 0)) (sq (.block 1 (sr [qv 12 10,qx 13 3 8 10,qs 14 3 13,qq 4 (.alloc [(.int .i64 0),(.int .i64 0),(.sl none true 0 [])]),qv 3 12,qu (.store 3 Z4 Z14)] (sr [qf 15 2 4,ql 16 15,qq 17 (lS Z16),qm 18 0] (.block 2 (.loop (sr [qb 19 .lss 18 17] (sq (.cond Z19 .skip (.exit 2)) (sq (.block 3 (sr [qv 20 18,qx 21 4 16 18,qs 22 4 21,qq 6 (.alloc [(.bool false),(.int .i64 0),(.int .i64 0),(.int .i64 0)]),qv 5 20,qu (.store 4 Z6 Z22)] (sr [qv 23 0,qv 24 3,qv 25 5,qq 26 (.build [(.int .i64 0),(.int .i64 0)] [(0,1,Z24),(1,1,Z25)]),qs 27 4 6,qq 28 (.callV Z23 [.t 26,.t 27]),qq 29 (.un .not Z28)] (.cond Z29 .ret .skip)))) (rg [qn 30 .add 18 1,qv 18 30]))))))))) (rg [qn 31 .add 10 1,qv 10 31])))))),[]⟩
def S231:AF:=cf true true Tryz.f231
def S232:AF:=cf true true Tryz.f232
def S237:AF:=⟨sr [qq 1 (.box 1 Z0),qq 2 (.mov (.c .nilfn))] (sr [qq 3 (.mkFn (.func 274) [] [.t 1]),qv 2 3] .ret),[.t 2]⟩
def S255:AF:=⟨sr [qq 3 (.box 3 Z0),qq 6 (.mov (.c .nilmap))] (sr [qq 10 (.mkMap),qv 7 10] (sq (sr [qs 11 3 3,qv 12 2,qq 13 (.call 281 [Z11,Z12]),qq 14 (lS Z13),qm 15 0] (.block 0 (.loop (sr [qb 16 .lss 15 14] (sq (.cond Z16 .skip (.exit 0)) (sq (.block 1 (sr [qx 17 1 13 15,ql 18 17,qv 9 18] (sr [qv 19 9,qv 20 1,qb 21 .neq 19 20] (.cond Z21 (rg [qv 23 7,qv 24 9,qs 25 3 3,qv 26 9,qv 27 2,qq 28 (.call 116 [Z25,Z26,Z27]),qv 22 28,qe 29 22 0,qe 30 22 1,qu (.mapSet .int Z23 Z24 Z29)]) .skip)))) (rg [qn 31 .add 15 1,qv 15 31]))))))) (sr [qv 32 7,qv 6 32] .ret))),[.t 6]⟩
def S270:AF:=cf true true Tryz.f270
def S271:AF:=cf true true Tryz.f271
def S272:AF:=cf true true Tryz.f272
def S274:AF:=⟨sr [ql 4 1,qq 5 (lS Z4),qn 6 .sub 5 1,qv 3 6] (.block 0 (.loop (sq (sr [qv 7 3,qn 8 .geq 7 0] (.cond Z8 .skip (.exit 0))) (sq (.block 1 (sr [qv 11 0,qv 12 3,ql 13 1,qv 14 3,qx 15 4 13 14,qs 16 4 15,qq 17 (.callV Z11 [.t 12,.t 16]),qq 18 (.un .not Z17)] (.cond Z18 .ret .skip))) (rg [qv 9 3,qn 10 .sub 9 1,qv 3 10]))))),[]⟩
end
noncomputable section
def S291:AF:=cf true true Tryz.f291
def S292:AF:=cf true true Tryz.f292
def S294:AF:=⟨sr [qq 2 (.box 3 Z0),qq 3 (.mov aF)] (sr [qf 4 1 2,ql 5 4,qn 6 .neq 5 2,qv 7 6,zT 8 (fA 2 Z2) 7,zT 9 (.load none Z8) 7,zT 10 (.mkFn (.func 296) [] [.t 1]) 7,zT 11 (.call 295 [Z9,Z10]) 7,qq 12 (.pick Z7 Z11 aF),qv 3 12] .ret),[.t 3]⟩
def S295:AF:=⟨sr [qq 4 (.mov aF)] (sr [qv 5 0,qv 6 1,qq 7 (.call 305 [Z5,Z6]),qn 8 .geq 7 0,qv 4 8] .ret),[.t 4]⟩
def S296:AF:=⟨sr [qq 2 (.box 4 Z0),qq 3 (.mov aF)] (sr [qf 4 0 2,ql 5 4,qv 6 5,zT 7 (fA 1 Z2) 6,zT 8 (.load none Z7) 6,zT 9 (.load none Z1) 6,zT 10 (.bin .eql Z8 Z9) 6,qq 11 (.pick Z6 Z10 aF),qv 3 11] .ret),[.t 3]⟩
def S303:AF:=cf true true Tryz.f303
def S305:AF:=⟨sr [qm 4 0] (sq (sr [qv 6 0,qq 7 (lS Z6),qm 8 0] (.block 0 (.loop (sr [qb 9 .lss 8 7] (sq (.cond Z9 .skip (.exit 0)) (sq (.block 1 (sr [qv 10 8,qv 5 10] (sr [qv 11 1,qv 12 0,qv 13 5,qx 14 4 12 13,qs 15 4 14,qq 16 (.callV Z11 [.t 15])] (.cond Z16 (sr [qv 17 5,qv 4 17] .ret) .skip)))) (rg [qn 18 .add 8 1,qv 8 18]))))))) (sr [qq 4 (.mov (nn (-1)))] .ret)),[.t 4]⟩
def S312:AF:=cf true true Tryz.f312
end
end Go.Pv.T
namespace Go.Pv.T
open Go Go.Pv
noncomputable section
def utf8first:List V:=(List.range 256).map fun i=>V.int .u8 (if i<128 then 240 else if i<194 then 241 else if i<224 then 2 else if i=224 then 19 else if i<237 then 3 else if i=237 then 35 else if i<240 then 3 else if i=240 then 52 else if i<244 then 4 else if i=244 then 68 else 241:Nat)
def words:List V:=[.str [],.str [98,101,103,105,110],.str [114,101,97,100],.str [119,114,105,116,101],.str [111,107],.str [102,97,105,108],.str [105,110,102,111]]
def accR:List V:=[.int .u8 128,.int .u8 191,.int .u8 160,.int .u8 191,.int .u8 128,.int .u8 159,.int .u8 144,.int .u8 191,.int .u8 128,.int .u8 143,.int .u8 0,.int .u8 0,.int .u8 0,.int .u8 0,.int .u8 0,.int .u8 0,.int .u8 0,.int .u8 0,.int .u8 0,.int .u8 0,.int .u8 0,.int .u8 0,.int .u8 0,.int .u8 0,.int .u8 0,.int .u8 0,.int .u8 0,.int .u8 0,.int .u8 0,.int .u8 0,.int .u8 0,.int .u8 0]
def j5u:List V:=[.int .u64 0,.int .u64 0,.int .u64 0,.int .u64 0,.int .u64 0,.int .u64 0,.int .u64 0,.int .u64 0]
def bruij:List V:=([0,1,56,2,57,49,28,3,61,58,42,50,38,29,17,4,62,47,59,36,45,43,51,22,53,39,33,30,24,18,12,5,63,55,48,27,60,41,37,16,46,35,44,21,52,32,23,11,54,26,40,15,34,20,31,10,25,14,19,9,13,8,7,6]:List Int).map (V.int .u8)
def fc_2:FuncId→Option AF
 | 304=>some F304
 | 307=>some F307
 | 320=>some F320
 | _=>none
def fc_1:FuncId→Option AF
 | 172=>some F172
 | 173=>some F173
 | 174=>some F174
 | 175=>some F175
 | 176=>some F176
 | 177=>some F177
 | 188=>some F188
 | 189=>some F189
 | 190=>some F190
 | 212=>some F212
 | 214=>some F214
 | 216=>some F216
 | 217=>some F217
 | 223=>some F223
 | 224=>some F224
 | 225=>some F225
 | 226=>some F226
 | 227=>some F227
 | 228=>some F228
 | 229=>some F229
 | 230=>some F230
 | 233=>some F233
 | 234=>some F234
 | 235=>some F235
 | 236=>some F236
 | 251=>some F251
 | 252=>some F252
 | 253=>some F253
 | 254=>some F254
 | 258=>some F258
 | 259=>some F259
 | 261=>some F261
 | 262=>some F262
 | 263=>some F263
 | 264=>some F264
 | 265=>some F265
 | 266=>some F266
 | 267=>some F267
 | 268=>some F268
 | 269=>some F269
 | 273=>some F273
 | 280=>some F280
 | 281=>some F281
 | 284=>some F284
 | 285=>some F285
 | 286=>some F286
 | 288=>some F288
 | 289=>some F289
 | 293=>some F293
 | 300=>some F300
 | f=>fc_2 f
def fc:FuncId→Option AF
 | 9=>some F9
 | 15=>some F15
 | 21=>some F21
 | 22=>some F22
 | 25=>some F25
 | 31=>some F31
 | 32=>some F32
 | 34=>some F34
 | 35=>some F35
 | 36=>some F36
 | 37=>some F37
 | 39=>some F39
 | 52=>some F52
 | 53=>some F53
 | 57=>some F57
 | 58=>some F58
 | 59=>some F59
 | 60=>some F60
 | 61=>some F61
 | 62=>some F62
 | 71=>some F71
 | 74=>some F74
 | 80=>some F80
 | 84=>some F84
 | 86=>some F86
 | 103=>some F103
 | 104=>some F104
 | 105=>some F105
 | 106=>some F106
 | 108=>some F108
 | 109=>some F109
 | 110=>some F110
 | 112=>some F112
 | 116=>some F116
 | 118=>some F118
 | 120=>some F120
 | 121=>some F121
 | 127=>some F127
 | 135=>some F135
 | 136=>some F136
 | 152=>some F152
 | 155=>some F155
 | 157=>some F157
 | 158=>some F158
 | 159=>some F159
 | 160=>some F160
 | 161=>some F161
 | 166=>some F166
 | 167=>some F167
 | 170=>some F170
 | f=>fc_1 f
def fs:FuncId→Option AF
 | 25=>some S25
 | 51=>some S51
 | 76=>some S76
 | 77=>some S77
 | 78=>some S78
 | 79=>some S79
 | 81=>some S81
 | 82=>some S82
 | 83=>some S83
 | 111=>some S111
 | 123=>some S123
 | 124=>some S124
 | 125=>some S125
 | 126=>some S126
 | 128=>some S128
 | 129=>some S129
 | 130=>some S130
 | 131=>some S131
 | 132=>some S132
 | 133=>some S133
 | 134=>some S134
 | 147=>some S147
 | 153=>some S153
 | 154=>some S154
 | 156=>some S156
 | 168=>some S168
 | 169=>some S169
 | 171=>some S171
 | 191=>some S191
 | 213=>some S213
 | 215=>some S215
 | 231=>some S231
 | 232=>some S232
 | 237=>some S237
 | 255=>some S255
 | 270=>some S270
 | 271=>some S271
 | 272=>some S272
 | 274=>some S274
 | 291=>some S291
 | 292=>some S292
 | 294=>some S294
 | 295=>some S295
 | 296=>some S296
 | 303=>some S303
 | 305=>some S305
 | 312=>some S312
 | _=>none
def shl:List Nat:=[55,56,65,68,69,72,73,76,77,78,79,81,91,93,98,107,111,113,125,141,156,162,168,195,196,197,198,199,200,201,202,218,231,237,240,245,246,247,255,270,271,274,276,277,291,292,303,312,313,314,315,316,317,318,319,323,324,325,326]
def shm:List Nat:=[25,51,217]
def fzl:List Nat:=[217]
def twl:List Nat:=[217]
def srl:List Nat:=[69]
def E:Env:={ sh:=fun nm f=>shl.any (Nat.beq f) || (nm && shm.any (Nat.beq f)),fz:=fun f=>fzl.any (Nat.beq f),tw:=fun f=>twl.any (Nat.beq f),srt:=fun f=>srl.any (Nat.beq f),fc:=fc,fs:=fs,gl:=(fun g=>match g with|0=>some bruij|1=>some words|2=>some utf8first|3=>some accR|_=>none),nw:=fun f=>match f with|78=>some j5u|_=>none }
end
structure Val' where
 kind:Int
 n:Int
 deriving DecidableEq
structure Op' where
 w:Bool
 key:Int
 v:Val'
 deriving DecidableEq
structure Txn' where
 s:Int
 f:Int
 nl:Bool
 ops:List Op'
structure Hist' where
 sn:Bool
 ss:List (List UInt8)
 kn:Bool
 ks:List (List UInt8)
 tn:Bool
 ts:List Txn'
def JH (v:Val'):List V:=[.int .i64 v.kind,.int .i64 v.n]
def opC (o:Op'):List V:=[.bool o.w,.int .i64 o.key,.int .i64 o.v.kind,.int .i64 o.v.n]
def jN {α:Type}(nl:Bool) (f:α→List V) (l:List α):V:=.sl none nl l.length (l.flatMap f)
def jl (t:Txn'):List V:=[.int .i64 t.s,.int .i64 t.f,jN t.nl opC t.ops]
def JL (s:List UInt8):List V:=[.str s]
def j2 (h:Hist'):List V:=[jN h.sn JL h.ss,jN h.kn JL h.ks,jN h.tn jl h.ts]
@[simp] theorem j2i {α:Type}(nl:Bool) (f:α→List V) (l:List α):Q7 (jN nl f l)=some (.int .i64 l.length):=rfl
@[simp] theorem j5q {α:Type}(nl:Bool) (f:α→List V) (l:List α):(jN nl f l).leaf=true:=rfl
@[simp] theorem j4v {α:Type}(nl:Bool) (f:α→List V) (l:List α):(jN nl f l).cells=[jN nl f l]:=rfl
@[simp] theorem j4u {α:Type}(nl:Bool) (f:α→List V) (l:List α):(jN nl f l).strip=jN nl f l:=rfl
@[simp] theorem j08 {α:Type}(nl:Bool) (f:α→List V) (l:List α):(jN nl f l).strip1=jN nl f l:=rfl
@[simp] theorem jzl {α:Type}(nl:Bool) (f:α→List V) (l:List α):(jN nl f l).pureTop=true:=rfl
@[simp] theorem jwd {α:Type}(nl:Bool) (f:α→List V) (l:List α):(jN nl f l).pureLeaf=true:=rfl
@[simp] theorem int_strip (k:IntKind) (n:Int):(V.int k n).strip=.int k n:=rfl
@[simp] theorem j44 (n:Bool):(V.bool n).strip=.bool n:=rfl
@[simp] theorem j41 (k:IntKind) (n:Int):(V.int k n).strip1=.int k n:=rfl
@[simp] theorem j38 (n:Bool):(V.bool n).strip1=.bool n:=rfl
@[simp] theorem j3f (k:IntKind) (n:Int):(V.int k n).pureTop=true:=rfl
@[simp] theorem j0e (n:Bool):(V.bool n).pureTop=true:=rfl
@[simp] theorem jz4 (k:IntKind) (n:Int):(V.int k n).pureLeaf=true:=rfl
@[simp] theorem jy6 (n:Bool):(V.bool n).pureLeaf=true:=rfl
@[simp] theorem agg_strip (cs:List V):(V.agg cs).strip=.agg (cs.map V.strip1):=rfl
@[simp] theorem j4h (cs:List V):(V.agg cs).pureTop=cs.all V.pureLeaf:=rfl
def YA (n:Int) (l:Nat):Bool:=decide (0≤n) && decide (n<l)
theorem ev214 (n:Int) (nl:Bool) (l:List (List UInt8)):Ev E 214 [.int .i64 n,jN nl JL l] (.bool (YA n l.length)):=by
 refine jU (af:=F214) rfl ?_
 by_cases h:0≤n
 ·simp[F214,h]
  exact j4 rfl (by simp[YA,h]) rfl
 ·simp[F214,h]
  exact j4 rfl (by simp[YA,h]) rfl
def jc4 (h:Hist') (t:Txn'):Bool:=YA t.s h.ss.length && (decide (1≤t.f) && (decide (t.f≤3) && decide (t.ops.length≤20)))
theorem ev155 (h:Hist') (t:Txn'):Ev E 155 [.agg (j2 h),.agg (jl t)] (.bool (jc4 h t)):=by
 refine jU (af:=F155) rfl ?_
 simp[F155,j2,jl,j1]
 refine Xg (vs:=[.int .i64 t.s,jN h.sn JL h.ss]) zS rfl zS (by simpa using ev214 t.s h.sn h.ss) ?_
 unfold jc4
 cases h1:YA t.s h.ss.length
 ·simp
  exact j4 rfl zS rfl
 by_cases h2:1≤t.f
 ·by_cases h3:t.f≤3
  ·simp[j1,h2,h3]
   exact j4 rfl (by simp;omega) rfl
  ·simp[j1,h2,h3]
   exact j4 rfl zS rfl
 ·simp[j1,h2]
  exact j4 rfl zS rfl
def jim (v:Val'):Bool:=v.kind == 1 || ((v.kind == 0 || v.kind == 2) && v.n == 0)
theorem ev174 (v:Val'):Ev E 174 [.agg (JH v)] (.bool (jim v)):=by
 refine jU (af:=F174) rfl ?_
 unfold jim
 cases h1:v.kind == 1
 ·cases h0:v.kind == 0
  ·cases h2:v.kind == 2
   ·simp[F174,JH,j1,h1,h0,h2]
    exact j4 rfl zS rfl
   ·simp[F174,JH,j1,h1,h0,h2]
    exact j4 rfl zS rfl
  ·simp[F174,JH,j1,h1,h0]
   exact j4 rfl zS rfl
 ·simp[F174,JH,j1,h1]
  exact j4 rfl zS rfl
def jcg (v:Val'):V:=if v.kind=1 then .iface 2 (.int .i64 v.n) else if v.kind=2 then .iface 316 (.agg []) else .nilif
theorem ev253 (v:Val'):Ev E 253 [.agg (JH v)] (.agg [jcg v]):=by
 refine jU (af:=F253) rfl ?_
 unfold jcg
 by_cases h1:v.kind=1
 ·simp[F253,JH,j1,h1]
  exact JP rfl (l:=[.agg [.iface 2 (.int .i64 v.n)]]) (by simp[jw,j1]) rfl rfl
 ·have b1:(v.kind == 1)=false:=by simpa using h1
  by_cases h2:v.kind=2
  ·simp[F253,JH,j1,h2]
   exact JP rfl (l:=[.agg [.iface 316 (.agg [])]]) (by simp[jw,j1]) rfl rfl
  ·have b2:(v.kind == 2)=false:=by simpa using h2
   simp[F253,JH,j1,h1,h2,b1,b2]
   exact JP rfl (l:=[.agg [.nilif]]) (by simp[jw,j1]) rfl rfl
def jqp (v:Val'):Val':=if v.kind=1 then ⟨1,v.n⟩ else if v.kind=2 then ⟨2,0⟩ else ⟨0,0⟩
theorem ev252 (v:Val'):Ev E 252 [.agg [jcg v]] (.tup [.agg (JH (jqp v)),.int .i64 0]):=by
 refine jU (af:=F252) rfl ?_
 unfold jcg jqp
 by_cases h1:v.kind=1
 ·simp[F252,JH,j1,h1,jvj,eqV,jh8,j6]
  exact JP rfl (l:=[.agg [.int .i64 1,.int .i64 v.n],.int .i64 0]) (by simp[jw,j1]) rfl rfl
 ·by_cases h2:v.kind=2
  ·simp[F252,JH,j1,h2,jvj,eqV,jh8,j6]
   exact JP rfl (l:=[.agg [.int .i64 2,.int .i64 0],.int .i64 0]) (by simp[jw,j1]) rfl rfl
  ·simp[F252,JH,j1,h1,h2,jvj,eqV]
   exact JP rfl (l:=[.agg [.int .i64 0,.int .i64 0],.int .i64 0]) (by simp[jw,j1]) rfl rfl
theorem jra (v:Val'):jim v=((jqp v).kind == v.kind && (jqp v).n == v.n):=by
 obtain⟨k,n⟩:=v
 unfold jim jqp
 by_cases h1:k=1
 ·simp[h1]
 ·by_cases h2:k=2
  ·rw[if_neg h1,if_pos h2,Bool.eq_iff_iff]
   simp only[Bool.or_eq_true,Bool.and_eq_true,beq_iff_eq]
   omega
  ·rw[if_neg h1,if_neg h2,Bool.eq_iff_iff]
   simp only[Bool.or_eq_true,Bool.and_eq_true,beq_iff_eq]
   omega
theorem jgw (v:Val'):(jcg v).pureLeaf=true:=by unfold jcg;split;rfl;split <;> rfl
theorem jcy (v:Val'):(jcg v).strip1=jcg v:=by unfold jcg;split;rfl;split <;> rfl
theorem ev216 (v:Val'):Ev E 216 [.agg (JH v)] (.bool (jim v)):=by
 refine jU (af:=F216) rfl ?_
 simp[F216,JH,j1]
 refine Xg (vs:=[.agg (JH v)]) (by simp[JH]) rfl (by simp[JH]) (by simpa[JH] using ev253 v) ?_
 simp[Jk (v:=.agg [jcg v]) (by simp[V.plain,jgw])]
 refine Xg (vs:=[.agg [jcg v]]) zS rfl (by simp[jgw,jcy]) (by simpa[jcy] using ev252 v) ?_
 rw[jra]
 generalize jqp v=b
 rw[XB (by simp[V.plain,JH])]
 simp[JH,j1]
 exact j4 rfl zS rfl
def opB (h:Hist') (o:Op'):Bool:=YA o.key h.ks.length && (jim o.v && (!o.w || o.v.kind == 1))
theorem ev157 (h:Hist') (o:Op'):Ev E 157 [.agg (j2 h),.agg (opC o)] (.bool (opB h o)):=by
 refine jU (af:=F157) rfl ?_
 simp[F157,j2,opC,j1]
 refine Xg (vs:=[.int .i64 o.key,jN h.kn JL h.ks]) zS rfl zS (by simpa using ev214 o.key h.kn h.ks) ?_
 unfold opB
 cases h1:YA o.key h.ks.length
 ·simp
  exact j4 rfl zS rfl
 simp[j1]
 refine Xg (vs:=[.agg (JH o.v)]) (by simp[JH]) rfl (by simp[JH]) (by simpa[JH] using ev216 o.v) ?_
 cases h2:jim o.v
 ·simp
  exact j4 rfl zS rfl
 cases h3:o.w
 ·simp[j1]
  exact j4 rfl zS rfl
 ·simp[j1]
  exact j4 rfl zS rfl
@[simp] theorem j5h (args:List V) (ob:ZO) (tk:Nat→Bool) (ro base ub n:Nat):(X5 args ob tk ro base ub).tm n=args.getD n jm:=rfl
@[simp] theorem j5k (args:List V) (ob:ZO) (tk:Nat→Bool) (ro base ub:Nat):(X5 args ob tk ro base ub).ob=ob:=rfl
@[simp] theorem j5i (args:List V) (ob:ZO) (tk:Nat→Bool) (ro base ub:Nat):(X5 args ob tk ro base ub).tk=tk:=rfl
@[simp] theorem j5j (args:List V) (ob:ZO) (tk:Nat→Bool) (ro base ub:Nat):(X5 args ob tk ro base ub).ro=ro:=rfl
@[simp] theorem j5l (args:List V) (ob:ZO) (tk:Nat→Bool) (ro base ub:Nat):(X5 args ob tk ro base ub).nx=ub:=rfl
@[simp] theorem j5m (args:List V) (ob:ZO) (tk:Nat→Bool) (ro base ub:Nat):(X5 args ob tk ro base ub).fb=base:=rfl
@[simp] theorem j5n (args:List V) (ob:ZO) (tk:Nat→Bool) (ro base ub:Nat):(X5 args ob tk ro base ub).df=[]:=rfl
theorem jy {n:Int}(h:-9223372036854775808≤n) (h':n≤9223372036854775807):IntKind.i64.wrap n=n:=by
 rw[IntKind.wrap_i64];omega
section
variable {α:Type}{f:α→List V}{k:Nat}
theorem j9 (hf:∀a,(f a).length=k):∀ (l:List α),(l.flatMap f).length=l.length*k
 | []=>by simp
 | a::l=>by rw[List.flatMap_cons,List.length_append,hf,j9 hf l,List.length_cons,Nat.succ_mul];omega
theorem Xk (hf:∀a,(f a).length=k):∀ (l:List α) (i:Nat) (h:i<l.length),((l.flatMap f).drop (i*k)).take k=f l[i]
 | a::l,0,_=>by rw[List.flatMap_cons,Nat.zero_mul,List.drop_zero,List.take_append_of_le_length (by rw[hf];omega),List.take_of_length_le (by rw[hf];omega)];rfl
 | a::l,i+1,h=>by
  rw[List.flatMap_cons,Nat.succ_mul,List.drop_append,List.drop_of_length_le (by rw[hf];omega),List.nil_append,hf,Nat.add_sub_cancel]
  exact Xk hf l i (by simpa using h)
theorem j7 (hf:∀a,(f a).length=k) (nl:Bool) (l:List α) (kk:IntKind) {i:Nat}(h:i<l.length):Jn k (jN nl f l) (.int kk i)=some (.eptr (l.flatMap f) (i*k)):=by
 simp only[jN,YU,j9 hf]
 rw[if_pos (by simp;omega)]
 rfl
theorem jk (hf:∀a,(f a).length=k) (ob:ZO) (l:List α) {i:Nat}(h:i<l.length):Qh ob (some k) (.eptr (l.flatMap f) (i*k))=some (.agg (f l[i])):=by
 have:i*k+k≤l.length*k:=by rw[← Nat.succ_mul];exact Nat.mul_le_mul_right k h
 rw[jb4,W5,if_pos (by rw[j9 hf];exact this),Xk hf l i h]
end
@[simp] theorem jA (t:Txn'):(jl t).length=3:=rfl
@[simp] theorem jK (t:Op'):(opC t).length=4:=rfl
@[simp] theorem YG (t:List UInt8):(JL t).length=1:=rfl
theorem Q8 {E:Env}{Yf:YF}{q:A}{xs:List A}{st:St}{ub:Nat}{K:St→Nat→Prop}{d:Option Nat}{nm:Bool}{f:FuncId}{first captured:List V}(hq:eval E st.tm q=.fn (.func f) first captured) (hs:E.sh nm f=false)
 (hp:((first++xs.map (eval E st.tm)++captured).all fun v=>v.strip.pureTop)=false) {v:V}(hv:EvO E f (first++xs.map (eval E st.tm)++captured) st.ob st.tk ((st.fb+d.getD 0+1)*1024) ub v) (h:wpD (YB ub v) (jaj K st d ub)) :
 j8 E Yf ⟨d,.callV q xs,none,nm⟩ st ub K:=by
 have hsh:jD E nm (eval E st.tm) (.callV q xs)=some (f,first++xs.map (eval E st.tm)++captured):=by simp only[jD,hq,hs,hp,Bool.not_false,Bool.true_and,Bool.false_eq_true,if_false]
 simp only[j8,wanted,jj,hq,hsh]
 obtain⟨δ,hδ,hK⟩:=h
 exact .inr ⟨hs,v,hv,δ,hδ,hK⟩
theorem J7 {E:Env}{Yf:YF}{f:FuncId}{xs:List A}{st:St}{ub:Nat}{K:St→Nat→Prop}{d:Option Nat}{nm:Bool}{vs:List V}(hx:xs.map (eval E st.tm)=vs) (hs:E.sh nm f=false) (hp:(vs.all fun v=>v.strip.pureTop)=false) {v:V}
 (hv:EvO E f vs st.ob st.tk ((st.fb+d.getD 0+1)*1024) ub v) (h:wpD (YB ub v) (jaj K st d ub)):j8 E Yf ⟨d,.call f xs,none,nm⟩ st ub K :=
 jq4 hs (by rw[hx];exact hp) ⟨v,by rw[hx];exact hv,h⟩
theorem JR {E:Env}{f:FuncId}{af:AF}{args:List V}{ob:ZO}{tk:Nat→Bool}{base ub:Nat}{r:V}(hf:E.fs f=some af) (h:wpC E YC af.body (X5 args ob (fun _=>false) ub base ub) (jz1 af.res r)) (hz:E.fz f=false:=by rfl):EvO E f args ob tk base ub r:=EvO_wp hf h hz
def HistAt (h:Hist') (ob:ZO) (l u:Nat):Prop:=l % 2=0∧ob l=some ⟨u,.cells (j2 h)⟩
theorem ev154 {h:Hist'}{ob:ZO}{l u:Nat}(hh:HistAt h ob l u) (t:Txn') (tk:Nat→Bool) (base ub:Nat):EvO E 154 [.agg (jl t),.ptr l u 0] ob tk base ub (.bool (!jc4 h t)):=by
 obtain⟨h2,ho⟩:=hh
 refine JR (af:=S154) rfl ?_
 have hne:¬ l=2*ub+1:=by omega
 simp[S154,j1,hne,ho,jl,j2]
 refine Xg (vs:=[.agg (j2 h),.agg (jl t)]) (by simp[j2,jl]) rfl (by simp[j2,jl]) (by simpa[j2,jl] using ev155 h t) ?_
 simp
 exact j4 rfl zS rfl
def Qo {α:Type}(p:α→Bool) (l:List α):Int:=match l.findIdx? p with
 | some i=>i
 | none=>-1
theorem Yl {α:Type}{p:α→Bool}{l:List α}{i:Nat}(h:i<l.length) (hn:p l[i]=true) (hb:∀j (hj:j<l.length),j<i→p l[j]=false):Qo p l=i:=by
 unfold Qo
 have:l.findIdx? p=some i:=by
  rw[List.findIdx?_eq_some_iff_getElem]
  exact⟨h,hn,fun j hj=>by rw[hb j zO hj];decide⟩
 rw[this]
theorem Wg {α:Type}{p:α→Bool}{l:List α}(hb:∀j (hj:j<l.length),p l[j]=false):Qo p l = -1:=by
 unfold Qo
 have:l.findIdx? p=none:=by
  rw[List.findIdx?_eq_none_iff]
  intro x hx
  obtain⟨j,hj,e⟩:=List.getElem_of_mem hx
  rw[← e]
  exact hb j hj
 rw[this]
theorem QV {α:Type}(p:α→Bool) (l:List α):decide (0≤Qo p l)=l.any p:=by
 unfold Qo
 cases h:l.findIdx? p with
 | none=>
  rw[List.findIdx?_eq_none_iff]at h
  simp
  intro x hx
  simpa using h x hx
 | some i=>
  rw[List.findIdx?_eq_some_iff_getElem]at h
  obtain⟨hi,hp,_⟩:=h
  simp
  exact⟨_,List.getElem_mem hi,hp⟩
theorem ev213 {p:Txn'→Bool}{g:FuncId}{cap:V}{ob:ZO}(hs:E.sh true g=false) (hcap:cap.strip.pureTop=false) (hp:∀ (t:Txn') (tk:Nat→Bool) (base ub:Nat),EvO E g [.agg (jl t),cap] ob tk base ub (.bool (p t)))
 (nl:Bool) (l:List Txn') (hl:l.length≤140737488355328) (tk:Nat→Bool) (base ub:Nat):EvO E 213 [jN nl jl l,.fn (.func g) [] [cap]] ob tk base ub (.int .i64 (Qo p l)):=by
 refine JR (af:=S213) rfl ?_
 simp[S213]
 refine WL (n:=l.length) (fun k s=>∃i,k=l.length - i∧i≤l.length∧s.df=[]∧s.ob=ob∧s.tm 0=jN nl jl l∧s.tm 1=.fn (.func g) [] [cap]∧s.tm 7=.int .i64 l.length∧s.tm 8=.int .i64 i∧∀j (hj:j<l.length),j<i→p l[j]=false)
  ⟨0,zS⟩ ?_
 rintro k s ⟨i,rfl,hi,hd,ho,h0,h1,h7,h8,hb⟩
 by_cases hlt:i<l.length
 ·simp[h0,h1,h7,h8,hlt,j7 jA,jk jA]
  refine Q8 (f:=g) (first:=[]) (captured:=[cap]) zS hs (by simp[hcap]) (v:=.bool (p l[i])) (by simpa[ho] using hp l[i] _ _ _) ?_
  cases hpi:p l[i]
  ·simp[h0,h1,h7,h8,hd]
   refine⟨l.length - (i+1),zO,i+1,rfl,zO,ho,by rw[jy zO zO];simp,?_⟩
   intro j hj hji
   rcases Nat.lt_succ_iff_lt_or_eq.1 hji with h|rfl
   ·exact hb j hj h
   ·exact hpi
  ·simp
   refine j4 (by simpa using hd) ?_ rfl
   simp
   rw[Yl hlt hpi hb]
 ·have:i=l.length:=by omega
  subst this
  simp[h7,h8]
  refine j4 (by simpa using hd) ?_ rfl
  simp[Wg (fun j hj=>hb j hj hj)]
theorem ev153 {p:Txn'→Bool}{g:FuncId}{ob:ZO}{a b c:Nat}(hs:E.sh true g=false) (hp:∀ (t:Txn') (tk:Nat→Bool) (base ub:Nat),EvO E g [.agg (jl t),.ptr a b c] ob tk base ub (.bool (p t)))
 (nl:Bool) (l:List Txn') (hl:l.length≤140737488355328) (tk:Nat→Bool) (base ub:Nat):EvO E 153 [jN nl jl l,.fn (.func g) [] [.ptr a b c]] ob tk base ub (.bool (l.any p)):=by
 refine JR (af:=S153) rfl ?_
 simp[S153]
 refine J7 (vs:=[jN nl jl l,.fn (.func g) [] [.ptr a b c]]) zS rfl rfl (ev213 hs rfl hp nl l hl _ _ _) ?_
 simp
 exact j4 rfl (by simp[QV]) rfl
def Fr (ub:Nat) (ob ob':ZO):Prop:=∀key,(∀m,ub≤m→key≠2*m+1)→ob' key=ob key
theorem Fr.refl (ub:Nat) (ob:ZO):Fr ub ob ob:=fun _ _=>rfl
def We (res:List ARes) (P:V × (ZO) × (Nat→Bool) × Nat→Prop):Ex→St→Prop:=fun e s=>∃r,jof res (e,s)=some r∧P r
theorem JG (st:St) (d:Option Nat) (v:V) (obs:List (Nat × Obj')):(st.app d { v:=v,obs:=obs }).tk=st.tk:=by
 funext u
 simp[jv]
theorem Fr.two {ub m:Nat}{ob ob':ZO}(h:∀key,key≠2*m+1→ob' key=ob key) (hm:ub≤m):Fr ub ob ob':=fun key hk=>h key (hk m hm)
theorem jmy {E:Env}{Yf:YF}{o:AOpr}{st:St}{ub:Nat}{K:St→Nat→Prop}(h:∀s',s'=st→j8 E Yf o s' ub K):j8 E Yf o st ub K:=h st rfl
theorem jzo {Yf:YF}(h:Hist') (hn:h.ts.length≤1000) (hm:∀t∈h.ts,t.ops.length≤1000000) {l u lh uh:Nat}{ob0:ZO}{tk0:Nat→Bool}{ro base ub0:Nat}(hh:ob0 lh=some ⟨uh,.cells (j2 h)⟩) (hro:ro≤ub0)
 (J:Nat→Nat→(ZO)→(Nat→Bool)→Nat→Prop) (P:V × (ZO) × (Nat→Bool) × Nat→Prop)
 (hfr:∀i k ob ob' tk ub ub',J i k ob tk ub→ub≤ub'→Fr ub ob ob'→J i k ob' tk ub')
 (hnext:∀i (hi:i<h.ts.length) ob tk ub,J i (h.ts[i]).ops.length ob tk ub→J (i+1) 0 ob tk ub)
 (hstep:∀i (hi:i<h.ts.length) k (hk:k<(h.ts[i]).ops.length) ob tk ub,J i k ob tk ub→ro≤ub→∃r,EvY Yf l u [.agg [.int .i64 i,.int .i64 k],.agg (opC (h.ts[i]).ops[k])] ob tk ro ub r∧ro≤r.2.2.2 ∧
  ((r.1=.bool true∧J i (k+1) r.2.1 r.2.2.1 r.2.2.2)∨(r.1=.bool false∧∀ob' ub',r.2.2.2≤ub'→Fr r.2.2.2 r.2.1 ob'→P (.tup [],ob',r.2.2.1,ub'))))
 (hend:∀ob tk ub,J h.ts.length 0 ob tk ub→P (.tup [],ob,tk,ub))
 (h0:J 0 0 ob0 tk0 ub0):∃r,EvS E Yf.y 215 [.yld l u,.ptr lh uh 0] ob0 tk0 ro base ub0 r∧P r:=by
 refine Yb (af:=S215) rfl (by decide) ?_
 show wpC E Yf S215.body _ (We S215.res P)
 simp[S215,j1,hh,j2]
 refine WL (n:=h.ts.length) (fun k s=>∃i,k=h.ts.length - i∧i≤h.ts.length∧s.df=[]∧s.fb=base∧s.ro=ro∧ro≤s.nx∧s.tm 0=.yld l u∧s.tm 8=jN h.tn jl h.ts∧s.tm 9=.int .i64 h.ts.length∧s.tm 10=.int .i64 i∧J i 0 s.ob s.tk s.nx)
  ⟨0,by simp;exact⟨zO,hfr _ _ _ _ _ _ _ h0 zO (Fr.refl _ _)⟩⟩ ?_
 rintro k s ⟨i,rfl,hi,hd,hfb,hsr,hnx,h0,h8,h9,h10,hJ⟩
 by_cases hlt:i<h.ts.length
 ·simp[h8,h9,h10,hlt,j7 jA,jk jA,jl,j1,hsr]
  refine⟨zO,?_⟩
  refine WL (n:=(h.ts[i]).ops.length) (fun k s=>∃j,k=(h.ts[i]).ops.length - j∧j≤(h.ts[i]).ops.length∧s.df=[]∧s.fb=base∧s.ro=ro∧ro≤s.nx∧s.tm 0=.yld l u∧s.tm 8=jN h.tn jl h.ts∧s.tm 9=.int .i64 h.ts.length∧s.tm 10=.int .i64 i ∧
   s.tm 3=.int .i64 i∧s.tm 16=jN (h.ts[i]).nl opC (h.ts[i]).ops∧s.tm 17=.int .i64 (h.ts[i]).ops.length∧s.tm 18=.int .i64 j∧J i j s.ob s.tk s.nx) ⟨0,?_⟩ ?_
  ·simp[hd,hfb,hsr,h0,h8,h9,h10]
   refine⟨zO,?_⟩
   rw[JG,jkx,JG]
   refine hfr _ _ _ _ _ _ _ hJ (by omega:s.nx≤_) (Fr.two (m:=s.nx+64+64+64+64) (fun key hk=>?_) zO)
   simp[hk]
  clear hd hfb hsr hnx h0 h8 h9 h10 hJ s
  rintro k s ⟨j,rfl,hj,hd,hfb,hsr,hnx,h0,h8,h9,h10,h3,h16,h17,h18,hJ⟩
  by_cases hjt:j<(h.ts[i]).ops.length
  ·simp[h0,h3,h16,h17,h18,hjt,j7 jK,jk jK,opC,j1,hsr,j6]
   refine⟨zO,jmy fun s' hs'=>?_⟩
   have e23:s'.tm 23=.yld l u:=by rw[hs'];simp
   have e26:s'.tm 26=.agg [.int .i64 i,.int .i64 j]:=by rw[hs'];simp
   have e27:s'.tm 27=.agg (opC (h.ts[i]).ops[j]):=by rw[hs'];simp[opC]
   have e0:s'.tm 0=.yld l u:=by rw[hs'];simp[h0]
   have e8:s'.tm 8=jN h.tn jl h.ts:=by rw[hs'];simp[h8]
   have e9:s'.tm 9=.int .i64 h.ts.length:=by rw[hs'];simp[h9]
   have e10:s'.tm 10=.int .i64 i:=by rw[hs'];simp[h10]
   have e3:s'.tm 3=.int .i64 i:=by rw[hs'];simp[h3]
   have e16:s'.tm 16=jN (h.ts[i]).nl opC (h.ts[i]).ops:=by rw[hs'];simp[h16]
   have e17:s'.tm 17=.int .i64 (h.ts[i]).ops.length:=by rw[hs'];simp[h17]
   have e18:s'.tm 18=.int .i64 j:=by rw[hs'];simp[h18]
   have ed:s'.df=[]:=by rw[hs'];simp[hd]
   have ef:s'.fb=base:=by rw[hs'];simp[hfb]
   have er:s'.ro=ro:=by rw[hs'];simp[hsr]
   have et:s'.tk=s.tk:=by rw[hs'];simp only[jkx,jrr,JG]
   have eo:Fr s.nx s.ob s'.ob:=by
    rw[hs']
    exact Fr.two (m:=s.nx+64+64+64+64) (fun key hk=>by simp[hk]) zO
   clear hs'
   obtain⟨r,hr,hru,hcase⟩:=hstep i hlt j hjt s'.ob s.tk (s.nx+64+64+64+64+64+64+64+64+64+64+64+64) (hfr _ _ _ _ _ _ _ hJ zO eo) zO
   refine jif (l:=l) (u:=u) (by simpa using e23) ⟨r,by simpa[e26,e27,et,er] using hr,?_⟩
   rcases hcase with⟨hr1,hJ2⟩|⟨hr1,hP⟩
   ·simp[hr1,put,j5,e18]
    have hb:=hm h.ts[i] (List.getElem_mem hlt)
    refine⟨(h.ts[i]).ops.length - (j+1),zO,j+1,rfl,zO,ed,ef,er,zO,e0,e8,e9,e10,e3,e16,e17,by rw[jy zO zO];simp,?_⟩
    exact hfr _ _ _ _ _ _ _ hJ2 zO (Fr.refl _ _)
   ·simp[hr1,put]
    refine⟨(.tup [],r.2.1,r.2.2.1,r.2.2.2+64),?_,hP _ _ zO (Fr.refl _ _)⟩
    simp[jof,ed]
  ·have:j=(h.ts[i]).ops.length:=by omega
   subst this
   have hJ':=hnext i hlt _ _ _ hJ
   simp[h17,h18,h0,h8,h9,h10,hd,hfb,hsr]
   refine⟨h.ts.length - (i+1),zO,i+1,rfl,zO,zO,by rw[jy zO zO];simp,?_⟩
   exact hfr _ _ _ _ _ _ _ hJ' zO (Fr.refl _ _)
 ·have:i=h.ts.length:=by omega
  subst this
  simp[h9,h10]
  refine⟨(.tup [],s.ob,s.tk,s.nx+64),?_,hend _ _ _ (hfr _ _ _ _ _ _ _ hJ (Nat.le_add_right _ _) (Fr.refl _ _))⟩
  simp[jof,hd]
theorem ja7 {E:Env}{Yf:YF}{f:FuncId}{xs:List A}{st:St}{ub:Nat}{K:St→Nat→Prop}{d:Option Nat}{nm:Bool}{vs:List V}(hx:xs.map (eval E st.tm)=vs) (hs:E.sh nm f=true)
 (h:∃r,EvS E Yf.y f vs st.ob st.tk st.ro ((st.fb+d.getD 0+1)*1024) ub r∧K { st with tm:=put st.tm d r.1,ob:=r.2.1,tk:=r.2.2.1 } r.2.2.2):j8 E Yf ⟨d,.call f xs,none,nm⟩ st ub K:=by
 have hsh:jD E nm (eval E st.tm) (.call f xs)=some (f,vs):=by simp only[jD,hs,hx,Bool.not_true,Bool.false_and,Bool.false_eq_true,if_false]
 simp only[j8,wanted,jj,hsh]
 obtain⟨r,hr,hK⟩:=h
 exact .inl ⟨hs,EvS.list ⟨r,hr,hK⟩⟩
theorem j3v {Yf:YF}(h:Hist') (ob:ZO) (tk:Nat→Bool) (ro base ub:Nat):∃r,EvS E Yf.y 156 [.agg (j2 h)] ob tk ro base ub r ∧
 r.1=.fn (.func 215) [] [.ptr (2*ub+1) ub 0]∧(∀key,r.2.1 key=if key=2*ub+1 then some ⟨ub,.cells (j2 h)⟩ else ob key)∧r.2.2.1=tk∧r.2.2.2=ub+256:=by
 refine Yb (af:=S156) rfl (by decide) ?_
 show wpC E Yf S156.body _ (We S156.res _)
 simp[S156,j2]
 refine⟨(.fn (.func 215) [] [.ptr (2*ub+1) ub 0],_,_,_),rfl,?_⟩
 simp[JG]
def jab (h:Hist'):List Op':=h.ts.flatMap (·.ops)
def jz6 (h:Hist') (i k:Nat):Prop:=∀i' (hi:i'<h.ts.length) k' (hk:k'<(h.ts[i']).ops.length),(i'<i∨i'=i∧k'<k)→opB h (h.ts[i']).ops[k']=true
def AS70:C:=.region [
 ⟨(some 4),.alloc [(.bool false),(.int .i64 0),(.int .i64 0),(.int .i64 0)],none,false⟩,
 ⟨none,.store 4 (.t 4) (.t 17),none,false⟩]
def BD70:C:=.block 1 (.seq (.region [
            ⟨(some 18),.load (some 3) (.t 1),none,false⟩,
            ⟨(some 19),.load (some 4) (.t 4),none,false⟩,
            ⟨(some 20),.call 157 [(.t 18),(.t 19)],none,false⟩,
            ⟨(some 21),.un .not (.t 20),none,false⟩])
 (.cond (.t 21) (.seq (.region [
  ⟨none,.store 1 (.t 2) (.c (.int .i64 4)),none,false⟩])
  (.ret))
  (.skip)))
theorem jp9 {h:Hist'}(hg:jz6 h h.ts.length 0):(jab h).all (opB h)=true:=by
 rw[List.all_eq_true]
 intro o ho
 obtain⟨t,ht,hot⟩:=List.mem_flatMap.1 ho
 obtain⟨i,hi,rfl⟩:=List.getElem_of_mem ht
 obtain⟨k,hk,rfl⟩:=List.getElem_of_mem hot
 exact hg i hi k hk (Or.inl hi)
theorem JS {E:Env}{Yf:YF}{c:C}{st:St}{Q:Ex→St→Prop}(h:∀s',s'=st→wpC E Yf c s' Q):wpC E Yf c st Q:=h st rfl
theorem j0f {l k:Nat}(ob:ZO) (h:k≠l):(if Nat.beq l k then none else ob k)=ob k:=by
 cases hb:Nat.beq l k with
 | false=>rfl
 | true=>exact absurd (Nat.eq_of_beq_eq_true hb).symm h
theorem j1v (h:Hist') (hn:h.ts.length≤1000) (hm:∀t∈h.ts,t.ops.length≤1000000) {st:St}{lh uh:Nat}(U:Nat) (hU:st.nx=U) (hU0:64≤U) (h15:st.tm 15=.fn (.func 215) [] [.ptr lh uh 0]) (hl:∃m,lh=2*m+1∧m<U)
 (h1:st.tm 1=.ptr 2 0 0) (h2:st.tm 2=.ptr 4 64 0) (hro:st.ro=0) (hfb:st.fb=0) (o2:st.ob 2=some ⟨0,.cells (j2 h)⟩) (o4:st.ob 4=some ⟨64,.cells [.int .i64 0]⟩) (oh:st.ob lh=some ⟨uh,.cells (j2 h)⟩) {Q:Ex→St→Prop}
 (hQ:∀ (e:Ex) (ob:ZO) (tk:Nat→Bool) (ub:Nat) (c:Int),ob 2=some ⟨0,.cells (j2 h)⟩→ob 4=some ⟨64,.cells [.int .i64 c]⟩→ob (2*U+3)=some ⟨U+1,.dfr⟩→U+64≤ub →
  ((jab h).all (opB h)=true∧e=.nrm∧c=0∨(jab h).all (opB h)=false∧e=.ret∧c=4)→Q e { st with ob:=ob,tk:=tk,nx:=ub,df:=(2*U+3,U+1)::st.df }) :
 wpC E YC (.rangeFunc (.t 15) [16,17] AS70 BD70) st Q:=by
 obtain⟨m,rfl,hmU⟩:=hl
 subst hU
 refine WO (g:=215) (first:=[]) (captured:=[.ptr (2*m+1) uh 0]) (by simpa using h15) ?_
 have:=jzo (Yf:=jf3 E YC AS70 BD70 st [16,17] (2*st.nx+1) st.nx) h hn hm (l:=2*st.nx+1) (u:=st.nx) (lh:=2*m+1) (uh:=uh)
  (ob0:=upd (upd st.ob (2*st.nx+3) (some ⟨st.nx+1,.dfr⟩)) (2*st.nx+1) (some ⟨st.nx,.loop .ready none⟩)) (tk0:=st.tk) (ro:=st.ro) (base:=(st.fb+1023)*1024) (ub0:=st.nx+64)
  (by have e1:¬ 2 * m+1=2 * st.nx+1:=by omega
      have e2:¬ 2*m+1=2*st.nx+3:=by omega
      simp only[j5,e1,e2,if_false,oh]) zO
  (fun i k ob tk ub=>jz6 h i k∧ob (2*st.nx+1)=some ⟨st.nx,.loop .ready none⟩∧ob (2*st.nx+3)=some ⟨st.nx+1,.dfr⟩∧ob 2=some ⟨0,.cells (j2 h)⟩∧ob 4=some ⟨64,.cells [.int .i64 0]⟩∧st.nx+64≤ub)
  (fun r=>∃s pend,r.2.1 (2*st.nx+1)=some ⟨st.nx,.loop s pend⟩∧s≠.busy∧st.ro≤st.nx∧Q (pend.getD .nrm) { st with ob:=fun k=>if Nat.beq (2*st.nx+1) k then none else r.2.1 k,tk:=r.2.2.1,nx:=r.2.2.2,df:=(2*st.nx+3,st.nx+1)::st.df })
  ?_ ?_ ?_ ?_ ?_
 ·obtain⟨r,hr,hP⟩:=this
  exact⟨r,hr,hP⟩
 ·-- what J says stands behind what is new
  rintro i k ob ob' tk ub ub' ⟨g1,g2,g3,g4,g5,g6⟩ hub hfr
  have f:∀key,(∀m,ub≤m→key≠2*m+1)→ob' key=ob key:=hfr
  exact⟨g1,by rw[f _ (fun m hm=>by omega)];exact g2,by rw[f _ (fun m hm=>by omega)];exact g3,by rw[f _ (fun m hm=>by omega)];exact g4,by rw[f _ (fun m hm=>by omega)];exact g5,zO⟩
 ·rintro i hi ob tk ub ⟨g1,g⟩
  refine⟨fun i' hi' k' hk' hlt=>?_,g⟩
  rcases hlt with h'|⟨_,h'⟩
  ·rcases Nat.lt_succ_iff_lt_or_eq.1 h' with h''|rfl
   ·exact g1 i' hi' k' hk' (Or.inl h'')
   ·exact g1 i' hi' k' hk' (Or.inr ⟨rfl,hk'⟩)
  ·omega
 ·rintro i hi k hk ob tk ub ⟨g1,g2,g3,g4,g5,g6⟩ hru
  refine jfi (asg:=AS70) (bd:=BD70) (xs:=[.agg [.int .i64 i,.int .i64 k],.agg (opC (h.ts[i]).ops[k])]) rfl zO g2 (by decide) (by decide) ?_
  simp[AS70,jdx,j1,hfb,opC,hro]
  refine⟨by rw[if_neg zO,if_neg zO];exact g2,JS fun s' hs'=>?_⟩
  have f1:s'.tm 1=.ptr 2 0 0:=by rw[hs'];simp[j5,h1]
  have f2:s'.tm 2=.ptr 4 64 0:=by rw[hs'];simp[j5,h2]
  have f4:s'.tm 4=.ptr 8 ub 0:=by rw[hs'];simp
  have n2:¬ 2=2*st.nx+1:=by omega
  have n4:¬ 4=2*st.nx+1:=by omega
  have n8:¬ 8=2*st.nx+1:=by omega
  have n3:¬ 2*st.nx+3=2*st.nx+1:=by omega
  have n38:¬ 2*st.nx+3=8:=by omega
  have p2:s'.ob 2=some ⟨0,.cells (j2 h)⟩:=by rw[hs'];simp only[j5,n2,if_false,Jy];simp[g4]
  have p4:s'.ob 4=some ⟨64,.cells [.int .i64 0]⟩:=by rw[hs'];simp only[j5,n4,if_false,Jy];simp[g5]
  have p8:s'.ob 8=some ⟨ub,.cells (opC (h.ts[i]).ops[k])⟩:=by rw[hs'];simp only[j5,n8,if_false,Jy];simp[opC]
  have p3:s'.ob (2*st.nx+3)=some ⟨st.nx+1,.dfr⟩:=by rw[hs'];simp only[j5,n3,n38,if_false,Jy];exact g3
  have p1:s'.ob (2*st.nx+1)=some ⟨st.nx,.loop .busy none⟩:=by rw[hs'];simp
  have fr:s'.ro=0:=by rw[hs']
  have fn:ub≤s'.nx:=by rw[hs'];simp;omega
  clear hs'
  simp[BD70,f1,f4,p2,p8,j1,opC,j2]
  refine Xg (vs:=[.agg (j2 h),.agg (opC (h.ts[i]).ops[k])]) (by simp[j2,opC]) rfl (by simp[j2,opC]) (by simpa[j2,opC] using ev157 h (h.ts[i]).ops[k]) ?_
  have m1:¬ 2*st.nx+1=4:=by omega
  have m3:¬ 2*st.nx+3=4:=by omega
  cases hb:opB h (h.ts[i]).ops[k]
  ·simp[f2,p4,j1,fr,m1,p1,WV,j6]
   intro ob' ub' hle hfr
   have fk:∀key,(∀m,s'.nx+64+64+64+64+64≤m→key≠2*m+1)→ob' key=_:=hfr
   have hall:(jab h).all (opB h)=false:=by
    rw[List.all_eq_false]
    exact⟨_,List.mem_flatMap.2 ⟨_,List.getElem_mem hi,List.getElem_mem hk⟩,by rw[hb];decide⟩
   have n1':∀ {k:Nat},k≠2*st.nx+1→(if 2*st.nx+1=k then none else ob' k)=ob' k:=fun hk=>if_neg fun e=>hk e.symm
   refine⟨.done,some .ret,?_,zS,?_⟩
   ·rw[fk _ (fun m hm=>by omega)]
    simp
   ·have:=hQ .ret (fun k=>if 2*st.nx+1=k then none else ob' k) s'.tk ub' 4 (by rw[n1' n2,fk _ (fun m hm=>by omega)];simp only[j5,n2,if_false,Jy];simp[p2]) (by rw[n1' n4,fk _ (fun m hm=>by omega)];simp only[j5,n4,if_false,Jy];simp)
     (by rw[n1' n3,fk _ (fun m hm=>by omega)];simp only[j5,n3,m3,if_false,Jy];exact p3) zO (Or.inr ⟨hall,rfl,rfl⟩)
    rw[hro,hfb]at this
    exact this
  ·simp[p1,WV]
   refine⟨fun i' hi' k' hk' hlt=>?_,?_,?_,?_,zO⟩
   ·rcases hlt with h'|⟨rfl,h'⟩
    ·exact g1 i' hi' k' hk' (Or.inl h')
    ·rcases Nat.lt_succ_iff_lt_or_eq.1 h' with h''|rfl
     ·exact g1 _ hi' k' hk' (Or.inr ⟨rfl,h''⟩)
     ·exact hb
   ·rw[j5,if_neg n3];exact p3
   ·rw[j5,if_neg n2];exact p2
   ·rw[j5,if_neg n4];exact p4
 ·rintro ob tk ub ⟨g1,g2,g3,g4,g5,g6⟩
  refine⟨.ready,none,g2,zS,zO,?_⟩
  exact hQ .nrm _ _ _ 0 ((j0f ob zO).trans g4) ((j0f ob zO).trans g5) ((j0f ob zO).trans g3) g6 (Or.inl ⟨jp9 g1,rfl,rfl⟩)
 ·refine⟨fun i' hi' k' hk' hlt=>by omega,?_,?_,?_,?_,zO⟩
  ·simp
  ·simp[j5]
  ·have e1:¬ 2=2*st.nx+1:=by omega
   have e2:¬ 2=2*st.nx+3:=by omega
   simp only[j5,e1,e2,if_false,o2]
  ·have e1:¬ 4=2*st.nx+1:=by omega
   have e2:¬ 4=2*st.nx+3:=by omega
   simp only[j5,e1,e2,if_false,o4]
def rc (l:List Op'):Nat:=(l.filter fun o=>!o.w).length
def rcT (l:List Txn'):Nat:=rc (l.flatMap (·.ops))
theorem rc_le (l:List Op'):rc l≤l.length:=List.length_filter_le _ _
theorem j50 (a b:List Op'):rc (a++b)=rc a+rc b:=by simp[rc]
section
variable {E:Env}{Yf:YF}{st:St}{ub:Nat}{K:St→Nat→Prop}{d:Option Nat}{nm:Bool}
theorem X3 {sz bytes u n:Nat}{nl:Bool}{cs ys:List V}{s x:A}(hs:eval E st.tm s=.sl (some (u,sz)) nl n cs) (htk:st.tk u=true) (hx:jI st.ob sz (eval E st.tm x)=some ys) (hne:ys≠[]) (hlen:cs.length=n*sz) (h0:0<sz)
 (hp:ys.all V.pureLeaf=true) (hb:(n+ys.length / sz)*bytes≤140737488355328) (hb2:n+ys.length / sz≤140737488355328) (h:jaj K st d ub { v:=.sl (some (ub,sz)) false (n+ys.length / sz) (cs++ys),del:=some u,add:=[ub] }) :
 j8 E Yf ⟨d,.append false sz bytes s x,none,nm⟩ st ub K:=by
 rw[jT _ rfl rfl]
 simp only[aop,hs,hx,Option.bind_some,if_neg hne,Bool.false_and,Bool.false_eq_true,if_false]
 rw[if_pos ⟨hlen,h0,hp,hb,hb2⟩,if_pos (by simp[htk]),jM]
 exact h
theorem jhw {sz bytes:Nat}{ys:List V}{s x:A}(hs:eval E st.tm s=.sl none true 0 []) (hx:jI st.ob sz (eval E st.tm x)=some ys) (hne:ys≠[]) (h0:0<sz)
 (hp:ys.all V.pureLeaf=true) (hb:(0+ys.length / sz)*bytes≤140737488355328) (hb2:0+ys.length / sz≤140737488355328) (h:jaj K st d ub { v:=.sl (some (ub,sz)) false (0+ys.length / sz) ([]++ys),add:=[ub] }) :
 j8 E Yf ⟨d,.append false sz bytes s x,none,nm⟩ st ub K:=by
 rw[jT _ rfl rfl]
 simp only[aop,hs,hx,Option.bind_some,if_neg hne,Bool.false_and,Bool.false_eq_true,if_false]
 rw[if_pos ⟨zS,h0,hp,hb,hb2⟩,if_pos trivial,jM]
 exact h
theorem jS {sz n:Nat}{zero:List V}{parts:List (Nat × Nat × A)}{cs:List V}(hf:fill zero (jq (eval E st.tm) parts)=some cs) (hl:cs.length=n*sz) (hp:(cs.map V.strip1).all V.pureLeaf=true)
 (h:jaj K st d ub { v:=.sl (some (ub,sz)) false n (cs.map V.strip1),add:=[ub] }):j8 E Yf ⟨d,.buildSl false sz zero parts n,none,nm⟩ st ub K:=by
 rw[jT _ rfl rfl]
 simp only[aop,hf,Option.bind_some,Bool.false_eq_true,if_false]
 rw[if_pos ⟨hl,hp⟩,jM]
 exact h
end
theorem jh {α:Type}{f:α→List V}{k:Nat}(hf:∀a,(f a).length=k) (l:List α) {i o:Nat}(h:i<l.length) (ho:o<k):(l.flatMap f)[i*k+o]? = (f l[i])[o]?:=by
 have:=Xk hf l i h
 rw[← this,List.getElem?_take,if_pos ho,List.getElem?_drop]
def numsTo (p:Txn'→Bool) (l:List Txn'):Nat→List Int
 | 0=>[]
 | i+1=>numsTo p l i++(match l[i]? with|some t=>if p t then [(i:Int)] else []|none=>[])
theorem JJ (p:Txn'→Bool) (l:List Txn'):∀i,(numsTo p l i).length≤i
 | 0=>by simp[numsTo]
 | i+1=>by
  have:=JJ p l i
  simp only[numsTo,List.length_append]
  split
  ·split <;> simp <;> omega
  ·simp;omega
def intC (n:Int):List V:=[.int .i64 n]
theorem JM {p:Txn'→Bool}{l:List Txn'}{i:Nat}(h:i<l.length):numsTo p l (i+1)=numsTo p l i++(if p l[i] then [(i:Int)] else []):=by
 simp[numsTo,List.getElem?_eq_getElem h]
@[simp] theorem jG (n:Int):(intC n).length=1:=rfl
theorem je3 {n u m:Nat}{st:St}{cs:List V}(hd:st.df=[]) (h:st.tm n=.sl (some (u,1)) false m cs) (ht:st.tk u=true):jce [.t n] (.ret,st)=some (.sl (some (0,1)) false m cs):=by
 simp only[jce,Wj hd,Wb hd,if_true,List.mapM_cons,List.mapM_nil,jw,h]
 simp[Wp,JU,Xv,jr,V.toks,V.tok,nodup,ht]
def Jv (t:Txn'):Bool:=t.f == 3
def Xa (h:Hist'):List Int:=numsTo Jv h.ts h.ts.length
theorem ev59 (h:Hist') (hn:h.ts.length≤1000):Ev E 59 [.agg (j2 h)] (.sl (some (0,1)) false (Xa h).length ((Xa h).flatMap intC)):=by
 refine jU (af:=F59) rfl ?_
 simp[F59,j2]
 refine jS (cs:=[]) rfl rfl rfl ?_
 simp
 refine WL (n:=h.ts.length) (fun k s=>∃i u,k=h.ts.length - i∧i≤h.ts.length∧s.df=[]∧s.fb=0∧s.ro=0∧s.tm 1=.ptr 2 0 0∧s.ob 2=some ⟨0,.cells (j2 h)⟩∧s.tm 4=.int .i64 i∧s.tk u=true ∧
  s.tm 3=.sl (some (u,1)) false (numsTo Jv h.ts i).length ((numsTo Jv h.ts i).flatMap intC))
  ⟨0,128,by simp[numsTo,j2]⟩ ?_
 rintro k s ⟨i,u,rfl,hi,hd,hfb,hro,h1,o2,h4,hu,h3⟩
 by_cases hlt:i<h.ts.length
 ·simp[h1,o2,h4,j1,j2,hlt,j7 jA,jh jA,jl]
  have hl:=JJ Jv h.ts i
  cases hf:h.ts[i].f == 3
  ·simp[h4]
   refine⟨h.ts.length - (i+1),zO,i+1,⟨rfl,zO,hd,hfb,hro,h1,by simpa[j2] using o2,by rw[jy zO zO];simp,u,hu,?_⟩⟩
   rw[h3,JM hlt,Jv,hf]
   simp
  ·simp[h3,h4]
   refine jS (cs:=[.int .i64 i]) (by simp[j6]) rfl rfl ?_
   simp
   refine X3 (u:=u) (nl:=false) (n:=(numsTo Jv h.ts i).length) (cs:=(numsTo Jv h.ts i).flatMap intC) (ys:=[.int .i64 i]) zS (by simp[jv,hu]) (by simp[jI]) zS (by rw[j9 jG]) (by decide) rfl (by simp;omega) (by simp;omega) ?_
   simp[h4,hd,hfb,hro,h1,o2,j2]
   refine⟨h.ts.length - (i+1),zO,i+1,rfl,zO,by rw[jy zO zO];simp,Or.inl ?_⟩
   rw[JM hlt,Jv,hf]
   simp[intC]
 ·have:i=h.ts.length:=by omega
  subst this
  simp[h1,o2,h4,j1,j2]
  exact je3 (u:=u) (by simpa using hd) (by simp[h3,Xa]) (by simpa using hu)
def WH (r:Int):Bool:=decide (48≤r) && decide (r≤57)
theorem ev267 (r:Int):Ev E 267 [.int .i32 r] (.bool (WH r)):=by
 refine jU (af:=F267) rfl ?_
 unfold WH
 by_cases h:48≤r
 ·simp[F267,h]
  exact j4 rfl zS rfl
 ·simp[F267,h]
  exact j4 rfl zS rfl
theorem ev320 (r:Int):Ev E 320 [.int .i32 r] (.bool false):=by
 refine jU (af:=F320) rfl ?_
 simp[F320]
 exact j4 rfl zS rfl
def jvk (a b:Int):Int:=if a<b then -1 else if b<a then 1 else 0
theorem ev304 (a b:Int):Ev E 304 [.int .i32 a,.int .i32 b] (.int .i64 (jvk a b)):=by
 refine jU (af:=F304) rfl ?_
 simp[F304]
 refine Xg (vs:=[.int .i32 a]) zS rfl rfl (ev320 a) ?_
 simp
 refine Xg (vs:=[.int .i32 b]) zS rfl rfl (ev320 b) ?_
 unfold jvk
 by_cases h:a<b
 ·simp[h]
  exact j4 rfl zS rfl
 ·by_cases h2:b<a
  ·simp[h,h2]
   exact j4 rfl zS rfl
  ·simp[h,h2]
   exact j4 rfl zS rfl
def jbt (r:Int):List V:=[.int .i32 r]
@[simp] theorem jd1 (n:Int):(jbt n).length=1:=rfl
def jj9:List Int→List Int→Int
 | [],[]=>0
 | [],_::_=>-1
 | _::_,[]=>1
 | a::x,b::y=>if jvk a b=0 then jj9 x y else jvk a b
theorem jkz (l:List Int) {i:Nat}(h:i<l.length):(l.flatMap jbt)[i]? = some (.int .i32 l[i]):=by
 have:=jh (f:=jbt) jd1 l h (by decide:0<1)
 rw[Nat.mul_one,Nat.add_zero]at this
 rw[this]
 rfl
theorem ev293 (nx ny:Bool) (x y:List Int) (hx:x.length≤140737488355328):Ev E 293 [jN nx jbt x,jN ny jbt y] (.int .i64 (jj9 x y)):=by
 refine jU (af:=F293) rfl ?_
 simp[F293]
 refine WL (n:=x.length) (fun k s=>∃i,k=x.length - i∧i≤x.length∧i≤y.length∧s.df=[]∧s.tm 0=jN nx jbt x∧s.tm 1=jN ny jbt y∧s.tm 9=jN nx jbt x∧s.tm 10=.int .i64 x.length∧s.tm 11=.int .i64 i∧jj9 (x.drop i) (y.drop i)=jj9 x y)
  ⟨0,zS⟩ ?_
 rintro k s ⟨i,rfl,hi,hiy,hd,h0,h1,h9,h10,h11,hc⟩
 by_cases hlt:i<x.length
 ·rw[List.drop_eq_getElem_cons hlt]at hc
  by_cases hly:i<y.length
  ·rw[List.drop_eq_getElem_cons hly,jj9]at hc
   have hny:¬ (y.length:Int)≤i:=by omega
   simp[h1,h9,h10,h11,hlt,hny,hly,j7 jd1,jkz x hlt,jkz y hly]
   refine Xg (vs:=[.int .i32 x[i],.int .i32 y[i]]) zS rfl rfl (ev304 x[i] y[i]) ?_
   by_cases hz:jvk x[i] y[i]=0
   ·rw[if_pos hz]at hc
    simp[hz,h0,h1,h9,h10,h11,hd]
    exact⟨x.length - (i+1),zO,i+1,rfl,zO,zO,by rw[jy zO zO];simp,hc⟩
   ·rw[if_neg hz]at hc
    have hz':(jvk x[i] y[i] != 0)=true:=by simpa using hz
    simp[hz']
    exact j4 (by simpa using hd) (by simp[hc]) rfl
  ·have hny:(y.length:Int)≤i:=by omega
   have e:y.drop i=[]:=List.drop_of_length_le zO
   rw[e,jj9]at hc
   simp[h1,h9,h10,h11,hlt,hny,j7 jd1,jkz x hlt]
   exact j4 (by simpa using hd) (by simp[hc]) rfl
 ·have:i=x.length:=by omega
  subst this
  rw[List.drop_length]at hc
  by_cases hly:x.length<y.length
  ·rw[List.drop_eq_getElem_cons hly,jj9]at hc
   simp[h0,h1,h10,h11,hly]
   exact j4 (by simpa using hd) (by simp[hc]) rfl
  ·have e:y.drop x.length=[]:=List.drop_of_length_le zO
   rw[e,jj9]at hc
   simp[h0,h1,h10,h11,hly]
   exact j4 (by simpa using hd) (by simp[hc]) rfl
def JE (s:List UInt8):List Int:=(XK s s.length 0).map fun r=>((r:Nat):Int)
theorem jnx {E:Env}{Yf:YF}{st:St}{ub:Nat}{K:St→Nat→Prop}{d:Option Nat}{nm:Bool}{x:A}{s:List UInt8}(hs:eval E st.tm x=.str s) (hb:(JE s).length≤70368744177664)
 (h:jaj K st d ub { v:=.sl (some (ub,1)) false (JE s).length ((JE s).flatMap jbt),add:=[ub] }):j8 E Yf ⟨d,.runesOfStr x,none,nm⟩ st ub K:=by
 have e:(XK s s.length 0).map (fun r=>V.int .i32 (r:Nat))=(JE s).flatMap jbt:=by
  rw[JE,List.flatMap_map]
  generalize XK s s.length 0=l
  induction l with
  | nil=>rfl
  | cons r l ih=>simp only[List.map_cons,List.flatMap_cons,ih,jbt];rfl
 have el:(JE s).length=(XK s s.length 0).length:=by simp[JE]
 rw[jT _ rfl rfl]
 simp only[aop,hs]
 rw[← el,if_pos hb,jM,e]
 exact h
theorem ev280 (a b:List UInt8) (ha:(JE a).length≤1000000) (hb:(JE b).length≤1000000):Ev E 280 [.str a,.str b] (.int .i64 (jj9 (JE a) (JE b))):=by
 refine jU (af:=F280) rfl ?_
 simp[F280]
 refine jnx (s:=a) zS zO ?_
 simp
 refine jnx (s:=b) zS zO ?_
 simp
 refine Xg (vs:=[.sl (some (128,1)) false (JE a).length ((JE a).flatMap jbt),.sl (some (256,1)) false (JE b).length ((JE b).flatMap jbt)]) zS rfl rfl (ev293 false false _ _ zO) ?_
 simp
 exact j4 rfl zS rfl
theorem ev251 (a b:List UInt8) (ha:(JE a).length≤1000000) (hb:(JE b).length≤1000000):Ev E 251 [.str a,.str b] (.bool (decide (jj9 (JE a) (JE b)<0))):=by
 refine jU (af:=F251) rfl ?_
 simp[F251]
 refine Xg (vs:=[.str a,.str b]) zS rfl rfl (ev280 a b ha hb) ?_
 simp
 exact j4 rfl zS rfl
def j1o (s:List UInt8):Bool:=s == [98,101,103,105,110] || s == [114,101,97,100] || s == [119,114,105,116,101] || s == [111,107] || s == [102,97,105,108] || s == [105,110,102,111] || s == [110,105,108]
theorem ev264 (s:List UInt8):Ev E 264 [.str s] (.bool (j1o s)):=by
 refine jU (af:=F264) rfl ?_
 unfold j1o
 generalize h1:(s == [98,101,103,105,110])=b1
 generalize h2:(s == [114,101,97,100])=b2
 generalize h3:(s == [119,114,105,116,101])=b3
 generalize h4:(s == [111,107])=b4
 generalize h5:(s == [102,97,105,108])=b5
 generalize h6:(s == [105,110,102,111])=b6
 generalize h7:(s == [110,105,108])=b7
 cases b1
 ·cases b2
  ·cases b3
   ·cases b4
    ·cases b5
     ·cases b6
      ·cases b7
       all_goals (simp[F264,h1,h2,h3,h4,h5,h6,h7];exact j4 rfl zS rfl)
      ·simp[F264,h1,h2,h3,h4,h5,h6];exact j4 rfl zS rfl
     ·simp[F264,h1,h2,h3,h4,h5];exact j4 rfl zS rfl
    ·simp[F264,h1,h2,h3,h4];exact j4 rfl zS rfl
   ·simp[F264,h1,h2,h3];exact j4 rfl zS rfl
  ·simp[F264,h1,h2];exact j4 rfl zS rfl
 ·simp[F264,h1];exact j4 rfl zS rfl
theorem ev235 (s:List UInt8):Ev E 235 [.str s] (.bool (j1o s)):=by
 refine jU (af:=F235) rfl ?_
 unfold j1o
 generalize h1:(s == [98,101,103,105,110])=b1
 generalize h2:(s == [114,101,97,100])=b2
 generalize h3:(s == [119,114,105,116,101])=b3
 generalize h4:(s == [111,107])=b4
 generalize h5:(s == [102,97,105,108])=b5
 generalize h6:(s == [105,110,102,111])=b6
 generalize h7:(s == [110,105,108])=b7
 cases b1
 ·cases b2
  ·cases b3
   ·cases b4
    ·cases b5
     ·cases b6
      ·cases b7
       all_goals (simp[F235,h1,h2,h3,h4,h5,h6,h7];exact j4 rfl zS rfl)
      ·simp[F235,h1,h2,h3,h4,h5,h6];exact j4 rfl zS rfl
     ·simp[F235,h1,h2,h3,h4,h5];exact j4 rfl zS rfl
    ·simp[F235,h1,h2,h3,h4];exact j4 rfl zS rfl
   ·simp[F235,h1,h2,h3];exact j4 rfl zS rfl
  ·simp[F235,h1,h2];exact j4 rfl zS rfl
 ·simp[F235,h1];exact j4 rfl zS rfl
def jbw (r:Int):Bool:=decide (127<r) || (r == 95) || WH r || (decide (97≤r) && decide (r≤122)) || (decide (65≤r) && decide (r≤90))
theorem ev266 (r:Int):Ev E 266 [.int .i32 r] (.bool (jbw r)):=by
 refine jU (af:=F266) rfl ?_
 unfold jbw
 by_cases h1:127<r
 ·simp[F266,h1]
  exact j4 rfl zS rfl
 cases h2:(r == 95)
 ·simp[F266,h1,h2]
  refine Xg (vs:=[.int .i32 r]) zS rfl rfl (ev267 r) ?_
  cases h3:WH r
  ·by_cases h4:97≤r
   ·by_cases h5:r≤122
    ·simp[h4,h5]
     exact j4 rfl zS rfl
    ·have h6:65≤r:=by omega
     have h7:¬ r≤90:=by omega
     simp[h4,h5,h6,h7]
     exact j4 rfl zS rfl
   ·by_cases h6:65≤r
    ·simp[h4,h6]
     exact j4 rfl zS rfl
    ·simp[h4,h6]
     exact j4 rfl zS rfl
  ·simp
   exact j4 rfl zS rfl
 ·simp[F266,h1,h2]
  exact j4 rfl zS rfl
def jQ (n b0 b1 b2 b3:Nat):Nat × Nat :=
 if b0<128 then (1,b0)
 else if 194≤b0∧b0≤223 then (if n<2∨b1<128∨191<b1 then (1,65533) else (2,64*(b0 - 192)+b1 - 128))
 else if 224≤b0∧b0≤239 then (if n<3∨b1<128∨191<b1∨b2<128∨191<b2 then (1,65533) else
  if 64*(64*(b0 - 224)+b1 - 128)+b2 - 128<2048∨55296≤64*(64*(b0 - 224)+b1 - 128)+b2 - 128∧64*(64*(b0 - 224)+b1 - 128)+b2 - 128≤57343 then (1,65533) else (3,64*(64*(b0 - 224)+b1 - 128)+b2 - 128))
 else if 240≤b0∧b0≤244 then (if n<4∨b1<128∨191<b1∨b2<128∨191<b2∨b3<128∨191<b3 then (1,65533) else
  if 64*(64*(64*(b0 - 240)+b1 - 128)+b2 - 128)+b3 - 128<65536∨1114111<64*(64*(64*(b0 - 240)+b1 - 128)+b2 - 128)+b3 - 128 then (1,65533) else (4,64*(64*(64*(b0 - 240)+b1 - 128)+b2 - 128)+b3 - 128))
 else (1,65533)
set_option maxHeartbeats 4000000 in
theorem jr2 (n b0 b1 b2 b3:Nat) (_:1≤n) (h0:b0<256) (h1:b1<256) (h2:b2<256) (h3:b3<256):jQ n b0 b1 b2 b3=((Lib.decodeN n b0 b1 b2 b3).2,(Lib.decodeN n b0 b1 b2 b3).1):=by
 unfold jQ Lib.decodeN
 repeat' split
 all_goals first|(exfalso;omega)|(apply Prod.ext <;> simp only <;> omega)
theorem dlt_t {a b:Int}(h:a<b):decide (a<b)=true:=decide_eq_true h
theorem jqh {a b:Int}(h:b≤a):decide (a<b)=false:=decide_eq_false zO
theorem jqi {a b:Int}(h:a≤b):decide (a≤b)=true:=decide_eq_true h
theorem jfv {a b:Int}(h:b<a):decide (a≤b)=false:=decide_eq_false zO
theorem Y0 {s:List UInt8}{i:Nat}{x:Int}(kk:IntKind) (h:i<s.length) (hx:x=(i:Int)):QD (.str s) (.int kk x)=some (.int .u8 ((s.getD i 0).toNat:Nat)):=by
 subst hx
 simp[QD,List.getElem?_eq_getElem h,List.getD]
set_option maxHeartbeats 8000000 in
theorem ev273 (s:List UInt8) (hs:s.length≤1000000) (p:Nat) (h:p<s.length):Ev E 273 [.str s,.int .i64 p]
 (.tup [.int .i64 ((jQ (s.length - p) (s.getD p 0).toNat (s.getD (p+1) 0).toNat (s.getD (p+2) 0).toNat (s.getD (p+3) 0).toNat).1:Nat),
  .int .i64 ((jQ (s.length - p) (s.getD p 0).toNat (s.getD (p+1) 0).toNat (s.getD (p+2) 0).toNat (s.getD (p+3) 0).toNat).2:Nat)]):=by
 have g0:=Y0 (s:=s) (x:=(p:Int)) .i64 h rfl
 have g1:p+1<s.length→_:=fun h=>Y0 (s:=s) (x:=(p:Int)+1) .i64 h zS
 have g2:p+2<s.length→_:=fun h=>Y0 (s:=s) (x:=(p:Int)+2) .i64 h zS
 have g3:p+3<s.length→_:=fun h=>Y0 (s:=s) (x:=(p:Int)+3) .i64 h zS
 have l0:=(s.getD p 0).toNat_lt
 have l1:=(s.getD (p+1) 0).toNat_lt
 have l2:=(s.getD (p+2) 0).toNat_lt
 have l3:=(s.getD (p+3) 0).toNat_lt
 generalize (s.getD p 0).toNat=c0 at *
 generalize (s.getD (p+1) 0).toNat=c1 at *
 generalize (s.getD (p+2) 0).toNat=c2 at *
 generalize (s.getD (p+3) 0).toNat=c3 at *
 have w0:IntKind.i64.wrap (c0:Int)=c0:=jy zO zO
 have w1:IntKind.i64.wrap (c1:Int)=c1:=jy zO zO
 have w2:IntKind.i64.wrap (c2:Int)=c2:=jy zO zO
 have w3:IntKind.i64.wrap (c3:Int)=c3:=jy zO zO
 refine jU (af:=F273) rfl ?_
 simp[F273,g0,XY,w0]
 by_cases a1:(c0:Int)<128
 ·simp[a1]
  exact Ja rfl (by simp[jQ,show c0<128 by omega]) (by simp[jQ,show c0<128 by omega]) rfl rfl
 have v0:∀x:Int,-1000000000≤x→x≤1000000000→IntKind.i64.wrap x=x:=fun x h h'=>jy zO zO
 by_cases k2:194≤(c0:Int)∧(c0:Int)≤223
 ·obtain⟨k2a,k2b⟩:=k2
  by_cases hl:(s.length:Int)<(p:Int)+2
  ·simp(disch:=omega) [a1,k2a,k2b,hl,v0,jfv,List.getElem?_cons_zero]
   exact Ja     rfl (by simp;unfold jQ    ;repeat' split
                        all_goals omega) (by simp;unfold jQ    ;repeat' split
                                             all_goals omega) rfl rfl
  have g1:=g1 zO
  simp(disch:=omega) [a1,k2a,k2b,hl,v0,jfv,List.getElem?_cons_zero]
  refine jdo 2 ?_
  by_cases d1:(c1:Int)<128
  ·simp(disch:=omega) [g1,d1,v0,XY,List.getElem?_cons_zero]
   exact Ja     rfl (by simp;unfold jQ    ;repeat' split
                        all_goals omega) (by simp;unfold jQ    ;repeat' split
                                             all_goals omega) rfl rfl
  by_cases d1':191<(c1:Int)
  ·simp(disch:=omega) [g1,d1,d1',v0,XY,List.getElem?_cons_zero]
   exact Ja     rfl (by simp;unfold jQ    ;repeat' split
                        all_goals omega) (by simp;unfold jQ    ;repeat' split
                                             all_goals omega) rfl rfl
  simp(disch:=omega) [g1,d1,d1',v0,XY,List.getElem?_cons_zero,jqh,jfv]
  exact Ja     rfl (by simp;unfold jQ    ;repeat' split
                       all_goals omega) (by simp;unfold jQ    ;repeat' split
                                            all_goals omega) rfl rfl
 by_cases k3:224≤(c0:Int)∧(c0:Int)≤239
 ·obtain⟨k3a,k3b⟩:=k3
  by_cases hl:(s.length:Int)<(p:Int)+3
  ·simp(disch:=omega) [a1,k3a,k3b,hl,v0,jqi,jfv,List.getElem?_cons_zero]
   exact Ja     rfl (by simp;unfold jQ    ;repeat' split
                        all_goals omega) (by simp;unfold jQ    ;repeat' split
                                             all_goals omega) rfl rfl
  have g1:=g1 zO
  have g2:=g2 zO
  simp(disch:=omega) [a1,k3a,k3b,hl,v0,jqi,jfv,List.getElem?_cons_zero]
  refine jdo 3 ?_
  by_cases d1:(c1:Int)<128
  ·simp(disch:=omega) [g1,d1,v0,XY,List.getElem?_cons_zero]
   exact Ja     rfl (by simp;unfold jQ    ;repeat' split
                        all_goals omega) (by simp;unfold jQ    ;repeat' split
                                             all_goals omega) rfl rfl
  by_cases e1:191<(c1:Int)
  ·simp(disch:=omega) [g1,d1,e1,v0,XY,List.getElem?_cons_zero]
   exact Ja     rfl (by simp;unfold jQ    ;repeat' split
                        all_goals omega) (by simp;unfold jQ    ;repeat' split
                                             all_goals omega) rfl rfl
  by_cases d2:(c2:Int)<128
  ·simp(disch:=omega) [g1,g2,d1,e1,d2,v0,XY,List.getElem?_cons_zero]
   exact Ja     rfl (by simp;unfold jQ    ;repeat' split
                        all_goals omega) (by simp;unfold jQ    ;repeat' split
                                             all_goals omega) rfl rfl
  by_cases e2:191<(c2:Int)
  ·simp(disch:=omega) [g1,g2,d1,e1,d2,e2,v0,XY,List.getElem?_cons_zero]
   exact Ja     rfl (by simp;unfold jQ    ;repeat' split
                        all_goals omega) (by simp;unfold jQ    ;repeat' split
                                             all_goals omega) rfl rfl
  by_cases f1:64*(64*((c0:Int) - 224)+c1 - 128)+c2 - 128<2048
  ·simp(disch:=omega) [g1,g2,d1,e1,d2,e2,f1,v0,XY,List.getElem?_cons_zero]
   exact Ja     rfl (by simp;unfold jQ    ;repeat' split
                        all_goals omega) (by simp;unfold jQ    ;repeat' split
                                             all_goals omega) rfl rfl
  by_cases f2:55296≤64*(64*((c0:Int) - 224)+c1 - 128)+c2 - 128
  ·by_cases f3:64*(64*((c0:Int) - 224)+c1 - 128)+c2 - 128≤57343
   ·simp(disch:=omega) [g1,g2,d1,e1,d2,e2,f1,f2,f3,v0,jqh,XY,List.getElem?_cons_zero]
    exact Ja     rfl (by simp;unfold jQ    ;repeat' split
                         all_goals omega) (by simp;unfold jQ    ;repeat' split
                                              all_goals omega) rfl rfl
   simp(disch:=omega) [g1,g2,d1,e1,d2,e2,f1,f2,f3,v0,jqh,XY,List.getElem?_cons_zero]
   exact Ja     rfl (by simp;unfold jQ    ;repeat' split
                        all_goals omega) (by simp;unfold jQ    ;repeat' split
                                             all_goals omega) rfl rfl
  simp(disch:=omega) [g1,g2,d1,e1,d2,e2,f1,f2,v0,jqh,XY,List.getElem?_cons_zero]
  exact Ja     rfl (by simp;unfold jQ    ;repeat' split
                       all_goals omega) (by simp;unfold jQ    ;repeat' split
                                            all_goals omega) rfl rfl
 by_cases k4:240≤(c0:Int)∧(c0:Int)≤244
 ·obtain⟨k4a,k4b⟩:=k4
  by_cases hl:(s.length:Int)<(p:Int)+4
  ·simp(disch:=omega) [a1,k4a,k4b,hl,v0,jqi,jfv,List.getElem?_cons_zero]
   exact Ja     rfl (by simp;unfold jQ    ;repeat' split
                        all_goals omega) (by simp;unfold jQ    ;repeat' split
                                             all_goals omega) rfl rfl
  have g1:=g1 zO
  have g2:=g2 zO
  have g3:=g3 zO
  simp(disch:=omega) [a1,k4a,k4b,hl,v0,jqi,jfv,List.getElem?_cons_zero]
  refine jdo 4 ?_
  by_cases d1:(c1:Int)<128
  ·simp(disch:=omega) [g1,d1,v0,XY,List.getElem?_cons_zero]
   exact Ja     rfl (by simp;unfold jQ    ;repeat' split
                        all_goals omega) (by simp;unfold jQ    ;repeat' split
                                             all_goals omega) rfl rfl
  by_cases e1:191<(c1:Int)
  ·simp(disch:=omega) [g1,d1,e1,v0,XY,List.getElem?_cons_zero]
   exact Ja     rfl (by simp;unfold jQ    ;repeat' split
                        all_goals omega) (by simp;unfold jQ    ;repeat' split
                                             all_goals omega) rfl rfl
  by_cases d2:(c2:Int)<128
  ·simp(disch:=omega) [g1,g2,d1,e1,d2,v0,XY,List.getElem?_cons_zero]
   exact Ja     rfl (by simp;unfold jQ    ;repeat' split
                        all_goals omega) (by simp;unfold jQ    ;repeat' split
                                             all_goals omega) rfl rfl
  by_cases e2:191<(c2:Int)
  ·simp(disch:=omega) [g1,g2,d1,e1,d2,e2,v0,XY,List.getElem?_cons_zero]
   exact Ja     rfl (by simp;unfold jQ    ;repeat' split
                        all_goals omega) (by simp;unfold jQ    ;repeat' split
                                             all_goals omega) rfl rfl
  by_cases d3:(c3:Int)<128
  ·simp(disch:=omega) [g1,g2,g3,d1,e1,d2,e2,d3,v0,XY,List.getElem?_cons_zero]
   exact Ja     rfl (by simp;unfold jQ    ;repeat' split
                        all_goals omega) (by simp;unfold jQ    ;repeat' split
                                             all_goals omega) rfl rfl
  by_cases e3:191<(c3:Int)
  ·simp(disch:=omega) [g1,g2,g3,d1,e1,d2,e2,d3,e3,v0,XY,List.getElem?_cons_zero]
   exact Ja     rfl (by simp;unfold jQ    ;repeat' split
                        all_goals omega) (by simp;unfold jQ    ;repeat' split
                                             all_goals omega) rfl rfl
  by_cases f1:64*(64*(64*((c0:Int) - 240)+c1 - 128)+c2 - 128)+c3 - 128<65536
  ·simp(disch:=omega) [g1,g2,g3,d1,e1,d2,e2,d3,e3,f1,v0,XY,List.getElem?_cons_zero]
   exact Ja     rfl (by simp;unfold jQ    ;repeat' split
                        all_goals omega) (by simp;unfold jQ    ;repeat' split
                                             all_goals omega) rfl rfl
  by_cases f2:1114111<64*(64*(64*((c0:Int) - 240)+c1 - 128)+c2 - 128)+c3 - 128
  ·simp(disch:=omega) [g1,g2,g3,d1,e1,d2,e2,d3,e3,f1,f2,v0,XY,List.getElem?_cons_zero]
   exact Ja     rfl (by simp;unfold jQ    ;repeat' split
                        all_goals omega) (by simp;unfold jQ    ;repeat' split
                                             all_goals omega) rfl rfl
  simp(disch:=omega) [g1,g2,g3,d1,e1,d2,e2,d3,e3,f1,f2,v0,jqi,jfv,XY,List.getElem?_cons_zero]
  exact Ja     rfl (by simp;unfold jQ    ;repeat' split
                       all_goals omega) (by simp;unfold jQ    ;repeat' split
                                            all_goals omega) rfl rfl
 have q:c0<194∨244<c0:=by omega
 rcases q with q|q
 ·simp(disch:=omega) [a1,jfv]
  exact Ja     rfl (by simp;unfold jQ    ;repeat' split
                       all_goals omega) (by simp;unfold jQ    ;repeat' split
                                            all_goals omega) rfl rfl
 ·simp(disch:=omega) [a1,jqi,jfv]
  exact Ja     rfl (by simp;unfold jQ    ;repeat' split
                       all_goals omega) (by simp;unfold jQ    ;repeat' split
                                            all_goals omega) rfl rfl
@[simp] theorem j5g (s:List UInt8):(V.str s).strip=.str s:=rfl
@[simp] theorem j04 (s:List UInt8):(V.str s).pureTop=true:=rfl
@[simp] theorem jzi (s:List UInt8):(V.str s).pureLeaf=true:=rfl
@[simp] theorem sl_strip (t:Option (Nat × Nat)) (nl:Bool) (n:Nat) (cs:List V):(V.sl t nl n cs).strip=.sl none nl n cs:=rfl
@[simp] theorem j5p (t:Option (Nat × Nat)) (nl:Bool) (n:Nat) (cs:List V):(V.sl t nl n cs).strip1=.sl none nl n cs:=rfl
@[simp] theorem j4t (nl:Bool) (n:Nat) (cs:List V):(V.sl none nl n cs).pureTop=true:=rfl
@[simp] theorem j07 (nl:Bool) (n:Nat) (cs:List V):(V.sl none nl n cs).pureLeaf=true:=rfl
def rU (s:List UInt8) (p:Nat):Nat:=(Utf8.decode ⟨s.toArray⟩ p).1
def rW (s:List UInt8) (p:Nat):Nat:=(Utf8.decode ⟨s.toArray⟩ p).2
theorem jsl {s:List UInt8}{p:Nat}(h:p<s.length):jQ (s.length - p) (s.getD p 0).toNat (s.getD (p+1) 0).toNat (s.getD (p+2) 0).toNat (s.getD (p+3) 0).toNat=(rW s p,rU s p):=by
 rw[jr2 _ _ _ _ _ zO (s.getD p 0).toNat_lt (s.getD (p+1) 0).toNat_lt (s.getD (p+2) 0).toNat_lt (s.getD (p+3) 0).toNat_lt]
 unfold rW rU
 rw[Lib.decode_N]
theorem one_w (n b0 b1 b2 b3:Nat) (hn:1≤n):1≤(jQ n b0 b1 b2 b3).1∧(jQ n b0 b1 b2 b3).1≤n:=by
 unfold jQ
 repeat' split
 all_goals (simp only;omega)
theorem j11 (n b0 b1 b2 b3:Nat) (h1:b1<256) (_:b2<256) (h:(jQ n b0 b1 b2 b3).2=65533):(jQ n b0 b1 b2 b3).1=1∨(jQ n b0 b1 b2 b3).1=3:=by
 revert h
 unfold jQ
 repeat' split
 all_goals (intro h;simp at h ⊢;try omega)
theorem jiz {s:List UInt8}{p:Nat}(h:p<s.length):1≤rW s p∧p+rW s p≤s.length:=by
 have:=one_w (s.length - p) (s.getD p 0).toNat (s.getD (p+1) 0).toNat (s.getD (p+2) 0).toNat (s.getD (p+3) 0).toNat zO
 rw[jsl h]at this
 simp only at this
 omega
theorem j52 {s:List UInt8}{p:Nat}(h:p<s.length) (hu:rU s p=65533):rW s p=1∨rW s p=3:=by
 have:=j11 (s.length - p) (s.getD p 0).toNat (s.getD (p+1) 0).toNat (s.getD (p+2) 0).toNat (s.getD (p+3) 0).toNat (s.getD (p+1) 0).toNat_lt (s.getD (p+2) 0).toNat_lt
 rw[jsl h]at this
 exact this hu
def RN (s:List UInt8) (p:Nat):List Int:=(XK s (s.length - p) p).map fun r=>((r:Nat):Int)
theorem jd0 (s:List UInt8):JE s=RN s 0:=rfl
theorem jdz (s:List UInt8):∀ (b b' p:Nat),s.length≤p+b→s.length≤p+b'→XK s b p=XK s b' p
 | 0,0,_,_,_=>rfl
 | 0,b'+1,p,h,_=>by
  unfold XK
  rw[if_neg zO]
 | b+1,0,p,_,h=>by
  unfold XK
  rw[if_neg zO]
 | b+1,b'+1,p,h,h'=>by
  unfold XK
  by_cases hp:p<s.length
  ·rw[if_pos hp,if_pos hp]
   have:=(jiz hp).1
   unfold rW at this
   rw[jdz s b b' _ zO zO]
  ·rw[if_neg hp,if_neg hp]
theorem jvb {s:List UInt8}{p:Nat}(h:p<s.length):RN s p=(rU s p:Int)::RN s (p+rW s p):=by
 have hw:=jiz h
 unfold RN
 obtain⟨n,hn⟩:∃n,s.length - p=n+1:=⟨s.length - p - 1,zO⟩
 rw[hn]
 conv=>lhs;unfold XK
 rw[if_pos h,List.map_cons]
 congr 2
 exact jdz s _ _ _ (by unfold rW at hw;omega) (by unfold rW at hw ⊢;omega)
theorem j0j {s:List UInt8}{p:Nat}(h:s.length≤p):RN s p=[]:=by
 unfold RN
 rw[show s.length - p=0 by omega]
 rfl
theorem jf2 (s:List UInt8):∀ (b p:Nat),(XK s b p).length≤b
 | 0,_=>Nat.le_refl _
 | b+1,p=>by
  unfold XK
  split
  ·have:=jf2 s b (p+(Utf8.decode ⟨s.toArray⟩ p).2)
   simp only[List.length_cons]
   omega
  ·simp
theorem YK (s:List UInt8):(JE s).length≤s.length:=by
 rw[jd0,RN,List.length_map]
 exact jf2 s _ _
def VD (s:List UInt8) (p:Nat):Bool:=Lib.validD (s.drop p)
theorem jy1 (s:List UInt8) (p:Nat):Lib.decodeL (s.drop p)=(rU s p,rW s p):=Lib.decodeL_drop ⟨s.toArray⟩ p
theorem j4k {s:List UInt8}{p:Nat}(h:p<s.length):VD s p=if rU s p=65533∧rW s p=1 then false else VD s (p+rW s p):=by
 have hne:s.drop p≠[]:=fun e=>by have:=congrArg List.length e;rw[List.length_drop]at this;simp at this;omega
 unfold VD
 rw[Lib.validD_step _ hne,jy1]
 simp only[List.drop_drop]
theorem VD_end {s:List UInt8}{p:Nat}(h:s.length≤p):VD s p=true:=by
 unfold VD
 rw[List.drop_of_length_le h]
 rfl
theorem j0b (s:List UInt8) (hs:s.length≤1000000) (p:Nat) (h:p<s.length):Ev E 273 [.str s,.int .i64 p] (.tup [.int .i64 (rW s p:Nat),.int .i64 (rU s p:Nat)]):=by
 have:=ev273 s hs p h
 rw[jsl h]at this
 exact this
theorem j3u (s:List UInt8) (hs:s.length≤1000000):Ev E 234 [.str s] (.sl (some (0,1)) false (JE s).length ((JE s).flatMap intC)):=by
 refine jU (af:=F234) rfl ?_
 simp[F234]
 refine jS (cs:=[]) rfl rfl rfl ?_
 simp
 refine Ye (n:=s.length) [(3,24)] (fun k st=>∃p u pre,k=s.length - p∧p≤s.length∧st.tm 4=.int .i64 (p:Nat)∧JE s=pre++RN s p∧st.tm 3=.sl (some (u,1)) false pre.length (pre.flatMap intC)∧st.tk u=true) rfl rfl
  ⟨0,64,[],by simp[jd0]⟩ ?_
 rintro k st ⟨p,u,pre,rfl,hp,h4,hpre,h3,hu⟩ f
 have f0:st.tm 0=.str s:=by rw[f.t 0 zS];simp
 have hpl:pre.length≤1000000:=by
  have h1:=congrArg List.length hpre
  have h2:=YK s
  rw[List.length_append]at h1
  omega
 by_cases hlt:p<s.length
 ·have hw:=jiz hlt
  simp[h4,f0,hlt]
  refine jV (j0b s hs p hlt) zS rfl rfl ?_
  simp[h3]
  refine jS (cs:=[.int .i64 (rU s p)]) (by simp[j6]) rfl rfl ?_
  simp
  refine X3 (u:=u) (nl:=false) (n:=pre.length) (cs:=pre.flatMap intC) (ys:=[.int .i64 (rU s p)]) zS (by simp[jv,hu]) (by simp[jI]) zS (by rw[j9 jG]) (by decide) rfl (by simp;omega) (by simp;omega) ?_
  simp[h4]
  refine⟨s.length - (p+rW s p),zO,p+rW s p,zO,zO,by rw[jy zO zO];simp,_,pre++[(rU s p:Int)],?_,?_,Or.inl rfl⟩
  ·rw[hpre,jvb hlt];simp
  ·simp[intC]
 ·have:p=s.length:=by omega
  subst this
  simp[h4,f0]
  rw[j0j (Nat.le_refl _),List.append_nil]at hpre
  exact je3 (u:=u) (by simp[f.d]) (by simp[h3,hpre]) (by simpa using hu)
theorem ev236 (s:List UInt8) (hs:s.length≤1000000):Ev E 236 [.str s] (.bool (Lib.validD s)):=by
 refine jU (af:=F236) rfl ?_
 simp[F236]
 refine Ye (n:=s.length) [(2,24)] (fun k st=>∃p,k=s.length - p∧p≤s.length∧st.tm 3=.int .i64 (p:Nat)∧Lib.validD s=VD s p) rfl rfl
  ⟨0,by simp[VD]⟩ ?_
 rintro k st ⟨p,rfl,hp,h3,hv⟩ f
 have f0:st.tm 0=.str s:=by rw[f.t 0 zS];simp
 by_cases hlt:p<s.length
 ·have hw:=jiz hlt
  rw[j4k hlt]at hv
  simp[h3,f0,hlt]
  refine jV (j0b s hs p hlt) zS rfl rfl ?_
  by_cases hb:rU s p=65533
  ·rcases j52 hlt hb with h1|h1
   ·rw[if_pos ⟨hb,h1⟩]at hv
    simp[hb,h1]
    exact j4 (by simp[f.d]) (by simp[hv]) rfl
   ·rw[if_neg zO]at hv
    simp[hb,h1,h3]
    exact⟨s.length - (p+3),zO,p+3,rfl,zO,by rw[jy zO zO];simp,by rw[hv,h1]⟩
  ·rw[if_neg zO]at hv
   have hb':((rU s p:Int) == 65533)=false:=by rw[beq_eq_false_iff_ne];omega
   simp[hb',h3]
   exact⟨s.length - (p+rW s p),zO,p+rW s p,rfl,zO,by rw[jy zO zO];simp,hv⟩
 ·have:p=s.length:=by omega
  subst this
  rw[VD_end (Nat.le_refl _)]at hv
  simp[h3,f0]
  exact j4 (by simp[f.d]) (by simp[hv]) rfl
theorem WD {α:Type}{f:α→List V}{k:Nat}(hf:∀a,(f a).length=k) (t:Option (Nat × Nat)) (nl:Bool) (l:List α) (kk:IntKind) {i:Nat}(h:i<l.length):Jn k (.sl t nl l.length (l.flatMap f)) (.int kk i)=some (.eptr (l.flatMap f) (i*k)):=by
 simp only[YU,j9 hf]
 rw[if_pos (by simp;omega)]
 rfl
theorem jly {α:Type}{f:α→List V}{k:Nat}(hf:∀a,(f a).length=k) (t:Option (Nat × Nat)) (nl:Bool) (l:List α) (kk:IntKind) (h:0<l.length):Jn k (.sl t nl l.length (l.flatMap f)) (.int kk 0)=some (.eptr (l.flatMap f) 0):=by
 have:=WD hf t nl l kk h
 simpa using this
theorem XP (l:List Int) {i:Nat}(h:i<l.length):(l.flatMap intC)[i]? = some (.int .i64 l[i]):=by
 have:=jh (f:=intC) jG l h (by decide:0<1)
 rw[Nat.mul_one,Nat.add_zero]at this
 rw[this]
 rfl
theorem jfz (l:List (List UInt8)) {i:Nat}(h:i<l.length):(l.flatMap JL)[i]? = some (.str l[i]):=by
 have:=jh (f:=JL) YG l h (by decide:0<1)
 rw[Nat.mul_one,Nat.add_zero]at this
 rw[this]
 rfl
theorem J0 {i N:Nat}(h:i<N) (hN:N≤1000000000):IntKind.i64.wrap ((i:Int)+1)=(i:Int)+1:=jy zO zO
theorem dne_t {a b:Int}(h:a<b∨b<a):(a != b)=true:=by simp;omega
theorem dne_f {a b:Int}(h:a=b):(a != b)=false:=by simp[h]
def jez:List Int→Bool
 | []=>false
 | c::_=>WH c
def nmOk (l:List Int):Bool:=decide (1≤l.length) && decide (l.length≤20) && !(jez l) && l.all jbw
def jhm (s:List UInt8):Bool:=!j1o s && Lib.validD s && nmOk (JE s)
def jhs (a b:List UInt8):Bool:=decide (jj9 (JE a) (JE b)<0)
def jpl (t:List (List UInt8)) (j:Nat):Bool:=jhm (t.getD j []) && (j == 0 || jhs (t.getD (j - 1) []) (t.getD j []))
def jvf (t:List (List UInt8)):Bool:=(List.range t.length).all (jpl t)
theorem jun {l:List Int}(h:0<l.length):jez l=WH l[0]:=by
 cases l with
 | nil=>simp at h
 | cons a l=>rfl
theorem all_at {α:Type}{p:α→Bool}{l:List α}(h:∀j (hj:j<l.length),p l[j]=true):l.all p=true:=by
 rw[List.all_eq_true]
 intro x hx
 obtain⟨j,hj,rfl⟩:=List.getElem_of_mem hx
 exact h j hj
theorem jmi {α:Type}{p:α→Bool}{l:List α}{j:Nat}(hj:j<l.length) (h:p l[j]=false):l.all p=false:=by
 rw[List.all_eq_false]
 exact⟨_,List.getElem_mem hj,by rw[h];decide⟩
theorem jpc (c:Int):(jbw c=false∧(c<48∨(57<c∧c<65)∨(90<c∧c<95)∨c=96∨(122<c∧c<128)))∨(jbw c=true∧((48≤c∧c≤57)∨(65≤c∧c≤90)∨c=95∨(97≤c∧c≤122)∨127<c)):=by
 simp[jbw,WH]
 omega
def L126:C:=.seq (.seq (.region [
 ⟨(some 37),.mov (.t 4),none,false⟩,
 ⟨(some 38),.mov (.t 3),none,false⟩,
 ⟨(some 39),.lenSl (.t 38),none,false⟩,
 ⟨(some 40),.bin .lss (.t 37) (.t 39),none,false⟩])
 (.cond (.t 40) (.skip)
  (.exit 0)))
 (.seq (.block 1 (.seq (.region [
  ⟨(some 43),.mov (.t 3),none,false⟩,
  ⟨(some 44),.mov (.t 4),none,false⟩,
  ⟨(some 45),.idxSl 1 (.t 43) (.t 44),none,false⟩,
  ⟨(some 46),.load none (.t 45),none,false⟩,
  ⟨(some 5),.mov (.t 46),none,false⟩])
  (.seq (.region [
   ⟨(some 47),.mov (.t 5),none,false⟩,
   ⟨(some 48),.bin .lss (.t 47) (.c (.int .i64 128)),none,false⟩,
   ⟨(some 49),.mov (.t 48),none,false⟩,
   ⟨(some 50),.mov (.t 5),(some (49,true)),false⟩,
   ⟨(some 51),.bin .neq (.t 50) (.c (.int .i64 95)),(some (49,true)),false⟩,
   ⟨(some 52),.pick (.t 49) (.t 51) (.c (.bool false)),none,false⟩,
   ⟨(some 53),.mov (.t 52),none,false⟩,
   ⟨(some 54),.mov (.t 5),(some (53,true)),false⟩,
   ⟨(some 55),.bin .lss (.t 54) (.c (.int .i64 48)),(some (53,true)),false⟩,
   ⟨(some 56),.mov (.t 55),(some (53,true)),false⟩,
   ⟨(some 57),.mov (.t 5),(some (56,false)),false⟩,
   ⟨(some 58),.bin .gtr (.t 57) (.c (.int .i64 57)),(some (56,false)),false⟩,
   ⟨(some 59),.pick (.t 56) (.c (.bool true)) (.t 58),(some (53,true)),false⟩,
   ⟨(some 60),.pick (.t 53) (.t 59) (.c (.bool false)),none,false⟩,
   ⟨(some 61),.mov (.t 60),none,false⟩,
   ⟨(some 62),.mov (.t 5),(some (61,true)),false⟩,
   ⟨(some 63),.bin .lss (.t 62) (.c (.int .i64 65)),(some (61,true)),false⟩,
   ⟨(some 64),.mov (.t 63),(some (61,true)),false⟩,
   ⟨(some 65),.mov (.t 5),(some (64,false)),false⟩,
   ⟨(some 66),.bin .gtr (.t 65) (.c (.int .i64 90)),(some (64,false)),false⟩,
   ⟨(some 67),.pick (.t 64) (.c (.bool true)) (.t 66),(some (61,true)),false⟩,
   ⟨(some 68),.pick (.t 61) (.t 67) (.c (.bool false)),none,false⟩,
   ⟨(some 69),.mov (.t 68),none,false⟩,
   ⟨(some 70),.mov (.t 5),(some (69,true)),false⟩,
   ⟨(some 71),.bin .lss (.t 70) (.c (.int .i64 97)),(some (69,true)),false⟩,
   ⟨(some 72),.mov (.t 71),(some (69,true)),false⟩,
   ⟨(some 73),.mov (.t 5),(some (72,false)),false⟩,
   ⟨(some 74),.bin .gtr (.t 73) (.c (.int .i64 122)),(some (72,false)),false⟩,
   ⟨(some 75),.pick (.t 72) (.c (.bool true)) (.t 74),(some (69,true)),false⟩,
   ⟨(some 76),.pick (.t 69) (.t 75) (.c (.bool false)),none,false⟩])
   (.cond (.t 76) (.seq (.region [
    ⟨(some 2),.mov (.c (.bool false)),none,false⟩])
    (.ret))
    (.skip)))))
  (.region [
   ⟨(some 41),.mov (.t 4),none,false⟩,
   ⟨(some 42),.bin .add (.t 41) (.c (.int .i64 1)),none,false⟩,
   ⟨(some 4),.mov (.t 42),none,false⟩]))
theorem ev172 (s:List UInt8) (hs:s.length≤1000000):Ev E 172 [.str s] (.bool (jhm s)):=by
 refine jU (af:=F172) rfl ?_
 simp[F172]
 refine jV (j3u s hs) zS rfl rfl ?_
 have hl:=YK s
 unfold jhm nmOk
 generalize hr:JE s=l at *
 simp[YB,toksRes,V.toks,V.tok,jb9,jb8,YD]
 by_cases a1:(l.length:Int)<1
 ·simp[a1]
  exact j4 rfl (by simp;omega) rfl
 by_cases a2:20<(l.length:Int)
 ·simp[a1,a2]
  exact j4 rfl (by simp;omega) rfl
 have h0:0<l.length:=by omega
 have hh:=jun h0
 simp[a1,a2]
 refine jV (ev235 s) zS rfl rfl ?_
 cases b1:j1o s
 case true=>
  simp
  exact j4 rfl zS rfl
 simp
 refine jV (ev236 s hs) zS rfl rfl ?_
 cases b2:Lib.validD s
 case false=>
  simp
  exact j4 rfl zS rfl
 have goon:∀ {st:St},st.df=[]→st.tm 4=.int .i64 0→st.tm 3=.sl (some (128,1)) false l.length (l.flatMap intC)→jez l=false →
  wpC E YC (.loop L126) st (kBlk 0 (jvh E YC (.seq (.region [⟨(some 2),.mov (.c (.bool true)),none,false⟩]) (.ret)) (jz1 [.t 2] (.bool (!false && true && (decide (1≤l.length) && decide (l.length≤20) && !(jez l) && l.all jbw)))))):=by
  intro st hd h4 h3 hg
  refine jE [(2,2),(4,5),(37,76)] l.length (fun i s=>s.tm 4=.int .i64 i∧∀j (hj:j<l.length),j<i→jbw l[j]=true) rfl rfl ⟨by simp[h4],fun j _ h=>by omega⟩ ?_
  rintro i s hi ⟨h4,hb⟩ f
  have f3:s.tm 3=.sl (some (128,1)) false l.length (l.flatMap intC):=by rw[f.t 3 zS];simp[h3]
  by_cases hlt:i<l.length
  ·have hw:=J0 hlt zO
   obtain⟨c,hc⟩:∃c,l[i]=c:=⟨_,rfl⟩
   have hi0:=XP l hlt
   rw[hc]at hi0
   rcases jpc c with⟨hp,q⟩|⟨hp,q⟩
   ·rcases q with q|q|q|q|q
    all_goals
     simp(disch:=omega) [L126,h4,f3,hlt,WD jG,hi0,dlt_t,jqh,dne_t]
     exact j4 (by simp[f.d,hd]) (by simp[jmi hlt (hc▸hp)]) rfl
   ·rcases q with q|q|q|q|q
    all_goals
     simp(disch:=omega) [L126,h4,f3,hlt,WD jG,hi0,dlt_t,jqh,dne_t,dne_f,hw]
     intro j hj hji
     rcases Nat.lt_succ_iff_lt_or_eq.1 hji with h|rfl
     ·exact hb j hj h
     ·exact hc▸hp
  ·have:i=l.length:=by omega
   subst this
   simp[L126,h4,f3]
   exact j4 (by simp[f.d,hd]) (by simp[hg,all_at (fun j hj=>hb j hj hj)];omega) rfl
 obtain⟨c,hc⟩:∃c,l[0]=c:=⟨_,rfl⟩
 have hi0:=XP l h0
 rw[hc]at hh hi0
 by_cases d1:48≤c
 ·by_cases d2:c≤57
  ·simp[jly jG _ _ l _ h0,hi0,d1,d2]
   exact j4 rfl (by simp[hh,WH,d1,d2]) rfl
  simp[jly jG _ _ l _ h0,hi0,d1,d2]
  exact goon rfl zS zS (by simp[hh,WH,d2])
 simp[jly jG _ _ l _ h0,hi0,d1]
 exact goon rfl zS zS (by simp[hh,WH,d1])
theorem j31 (a b:Int):(jvk a b<0)=(a<b):=by
 unfold jvk
 split
 ·simp[*]
 ·split <;> simp[*]
theorem cmpI_z {a b:Int}:jvk a b=0 ↔ a=b:=by
 unfold jvk
 split
 ·simp;omega
 ·split
  ·simp;omega
  ·simp;omega
theorem ev173 (a b:List UInt8) (ha:a.length≤1000000) (hb:b.length≤1000000):Ev E 173 [.str a,.str b] (.bool (jhs a b)):=by
 refine jU (af:=F173) rfl ?_
 simp[F173]
 refine jV (j3u a ha) zS rfl rfl ?_
 have hxl:=YK a
 have hyl:=YK b
 unfold jhs
 simp[YB,toksRes,V.toks,V.tok,jb9,jb8,YD]
 refine jV (j3u b hb) zS rfl rfl ?_
 generalize JE a=x at *
 generalize JE b=y at *
 simp[YB,toksRes,V.toks,V.tok,jb9,jb8,YD]
 refine jE [(4,4),(7,7),(12,41)] x.length (fun i s=>s.tm 7=.int .i64 i∧i≤y.length∧jj9 (x.drop i) (y.drop i)=jj9 x y) rfl rfl ⟨zS,zS,zS⟩ ?_
 rintro i s hi ⟨h7,hiy,hc⟩ f
 have f5:s.tm 5=.sl (some (128,1)) false x.length (x.flatMap intC):=by rw[f.t 5 zS];simp
 have f6:s.tm 6=.sl (some (256,1)) false y.length (y.flatMap intC):=by rw[f.t 6 zS];simp
 have fd:s.df=[]:=by rw[f.d];simp
 clear f
 by_cases hlt:i<x.length
 ·by_cases hly:i<y.length
  ·have hw:=J0 hlt zO
   rw[List.drop_eq_getElem_cons hlt,List.drop_eq_getElem_cons hly,jj9]at hc
   obtain⟨c,hxc⟩:∃c,x[i]=c:=⟨_,rfl⟩
   obtain⟨d,hyd⟩:∃d,y[i]=d:=⟨_,rfl⟩
   have hx0:=XP x hlt
   have hy0:=XP y hly
   rw[hxc]at hc hx0
   rw[hyd]at hc hy0
   by_cases he:c=d
   ·rw[if_pos (cmpI_z.2 he)]at hc
    simp[h7,f5,f6,hlt,hly,WD jG,hx0,hy0,he,hw]
    exact⟨zO,hc⟩
   ·rw[if_neg (fun h=>he (cmpI_z.1 h))]at hc
    have he':(c != d)=true:=by simpa using he
    simp[h7,f5,f6,hlt,hly,WD jG,hx0,hy0,he']
    exact j4 (by simp[fd]) (by simp[← hc,j31]) rfl
  ·have e:y.drop i=[]:=List.drop_of_length_le zO
   rw[List.drop_eq_getElem_cons hlt,e,jj9]at hc
   have hnl:¬ x.length<y.length:=by omega
   simp[h7,f5,f6,hlt,hly]
   exact j4 (by simp[fd]) (by simp[← hc,hnl]) rfl
 ·have:i=x.length:=by omega
  subst this
  rw[List.drop_length]at hc
  simp[h7,f5,f6]
  by_cases hly:x.length<y.length
  ·rw[List.drop_eq_getElem_cons hly,jj9]at hc
   exact j4 (by simp[fd]) (by simp[← hc,hly]) rfl
  ·rw[List.drop_of_length_le (by omega:y.length≤x.length),jj9]at hc
   exact j4 (by simp[fd]) (by simp[← hc,hly]) rfl
theorem jzh {t:List (List UInt8)}(h:∀j,j<t.length→jpl t j=true):jvf t=true:=List.all_eq_true.2 fun j hj=>h j (List.mem_range.1 hj)
theorem jmw {t:List (List UInt8)}{j:Nat}(hj:j<t.length) (h:jpl t j=false):jvf t=false:=List.all_eq_false.2 ⟨j,List.mem_range.2 hj,by rw[h];decide⟩
theorem JQ {α:Type}{l:List α}{i:Nat}{d:α}(h:i<l.length):l.getD i d=l[i]:=by simp[List.getD,h]
theorem j46 {i:Nat}(h:0<i) (hN:i≤1000000000):IntKind.i64.wrap ((i:Int) - 1)=((i - 1:Nat):Int):=by
 rw[jy zO zO];omega
theorem ev110 (nl:Bool) (t:List (List UInt8)) (hn:t.length≤1000000) (hl:∀s∈t,s.length≤1000000):Ev E 110 [jN nl JL t] (.bool (jvf t)):=by
 refine jU (af:=F110) rfl ?_
 simp[F110]
 refine jE [(2,4),(5,32)] t.length (fun i s=>s.tm 3=.int .i64 i∧∀j,j<t.length→j<i→jpl t j=true) rfl rfl ⟨zS,fun j _ h=>by omega⟩ ?_
 rintro i s hi ⟨h3,hb⟩ f
 have f0:s.tm 0=jN nl JL t:=by rw[f.t 0 zS];simp
 have fd:s.df=[]:=by rw[f.d];simp
 clear f
 by_cases hlt:i<t.length
 ·have hw:=J0 hlt zO
  have hok:jpl t i=(jhm t[i] && (i == 0 || jhs (t.getD (i - 1) []) t[i])):=by unfold jpl;rw[JQ hlt]
  have hsi:=hl _ (List.getElem_mem hlt)
  obtain⟨c,hc⟩:∃c,t[i]=c:=⟨_,rfl⟩
  have ht0:=jfz t hlt
  rw[hc]at hok ht0 hsi
  have jcj:jpl t i=true→∀j,j<t.length→j<i+1→jpl t j=true:=fun h j hj hji=>by
   rcases Nat.lt_succ_iff_lt_or_eq.1 hji with h'|rfl
   ·exact hb j hj h'
   ·exact h
  simp[h3,f0,hlt,j7 YG,ht0]
  refine Xy (ev172 c hsi) zS rfl rfl ?_
  cases hnm:jhm c
  ·rw[hnm]at hok
   simp
   exact j4 (by simp[fd]) (by simp[jmw hlt hok]) rfl
  ·rw[hnm]at hok
   by_cases h0:i=0
   ·subst h0
    simp[h3]
    exact⟨hlt,by decide,fun j hj h=>by subst h;exact jcj (by simp[hok]) 0 hj zO⟩
   ·have h0':0<i:=by omega
    have hwp:=j46 h0' zO
    have hlp:i - 1<t.length:=by omega
    have hsp:=hl _ (List.getElem_mem hlp)
    have ht1:=jfz t hlp
    rw[JQ hlp]at hok
    obtain⟨e,he⟩:∃e,t[i - 1]=e:=⟨_,rfl⟩
    rw[he]at hok ht1 hsp
    simp[h3,f0,h0',hwp,hlp,j7 YG,ht1,hlt,ht0]
    refine Xy (ev173 e c hsp hsi) zS rfl rfl ?_
    cases hls:jhs e c
    ·simp
     exact j4 (by simp[fd]) (by simp[jmw hlt (by simp[hok,hls,h0])]) rfl
    ·simp[h3,hw]
     exact⟨hlt,jcj (by simp[hok,hls])⟩
 ·have:i=t.length:=by omega
  subst this
  simp[h3,f0]
  exact j4 (by simp[fd]) (by simp[jzh (fun j hj=>hb j hj hj)]) rfl
theorem jin {a b:Nat}(ha:a<2 ^ 64) (hb:b<2 ^ 64):Y9 .or (.int .u64 (a:Int)) (.int .u64 (b:Int))=some (.int .u64 ((a ||| b:Nat):Int)):=by
 have h:a ||| b<2 ^ 64:=Nat.or_lt_two_pow ha hb
 simp only[Y9,XQ,if_true]
 have e:(BitVec.ofInt IntKind.u64.bits (a:Int) ||| BitVec.ofInt IntKind.u64.bits (b:Int)).toNat=a ||| b:=by
  rw[BitVec.toNat_or,BitVec.ofInt_natCast,BitVec.ofInt_natCast,BitVec.toNat_ofNat,BitVec.toNat_ofNat]
  rw[show IntKind.u64.bits=64 from rfl,Nat.mod_eq_of_lt ha,Nat.mod_eq_of_lt hb]
 rw[e,IntKind.wrap_u64]
 congr 2
 omega
theorem jkt {a b:Nat}{m:Int}(hm:m=(b:Int)) (ha:a<2 ^ 64) (hb:b<2 ^ 64):Y9 .and (.int .u64 (a:Int)) (.int .u64 m)=some (.int .u64 ((a &&& b:Nat):Int)):=by
 subst hm
 have h:a &&& b<2 ^ 64:=Nat.and_lt_two_pow _ hb
 simp only[Y9,XQ,if_true]
 have e:(BitVec.ofInt IntKind.u64.bits (a:Int) &&& BitVec.ofInt IntKind.u64.bits (b:Int)).toNat=a &&& b:=by
  rw[BitVec.toNat_and,BitVec.ofInt_natCast,BitVec.ofInt_natCast,BitVec.toNat_ofNat,BitVec.toNat_ofNat]
  rw[show IntKind.u64.bits=64 from rfl,Nat.mod_eq_of_lt ha,Nat.mod_eq_of_lt hb]
 rw[e,IntKind.wrap_u64]
 congr 2
 omega
theorem jrb {a k:Nat}{m:Int}(hm:m=(k:Int)) (hk:k≤64) (h:a*2 ^ k<2 ^ 64):Y9 .shl (.int .u64 (a:Int)) (.int .u64 m)=some (.int .u64 ((a*2 ^ k:Nat):Int)):=by
 subst hm
 simp only[Y9,QN]
 rw[if_neg zO]
 simp only[Int.toNat_natCast,show IntKind.u64.bits=64 from rfl,Nat.min_eq_left hk]
 rw[IntKind.wrap_u64]
 congr 2
 have:((a:Int)*2 ^ k)=((a*2 ^ k:Nat):Int):=by simp
 rw[this]
 omega
theorem JT {l:List UInt8}{kk:IntKind}{k:Nat}{x:Int}(hx:x=(k:Int)) (h:k≤l.length):XZ (some (.int kk x)) none (.str l)=some (.str (l.drop k)):=by
 subst hx
 simp[XZ,X6,h]
def wd (l:List UInt8):Nat:=Lib.leNat (l.take 8)
theorem j58 (a b k:Nat) (h:a<2 ^ k):a ||| b*2 ^ k=a+b*2 ^ k:=by
 have:=Nat.shiftLeft_add_eq_or_of_lt h b
 rw[Nat.shiftLeft_eq]at this
 rw[Nat.or_comm,← this,Nat.add_comm]
theorem wd_8 (a b c d e f g h:UInt8) (t:List UInt8):wd (a::b::c::d::e::f::g::h::t) =
 a.toNat+b.toNat*2 ^ 8+c.toNat*2 ^ 16+d.toNat*2 ^ 24+e.toNat*2 ^ 32+f.toNat*2 ^ 40+g.toNat*2 ^ 48+h.toNat*2 ^ 56:=by
 simp only[wd,List.take,Lib.leNat]
 omega
theorem jdw (x:UInt8) (k:Nat) {m:Int}(hm:m=(k:Int)) (hk:k≤56):∃B:Nat,B=x.toNat*2 ^ k∧Y9 .shl (.int .u64 (x.toNat:Int)) (.int .u64 m)=some (.int .u64 (B:Int)):=by
 have hx:=x.toNat_lt
 have h1:x.toNat*2 ^ k<2 ^ 64:=by
  calc x.toNat*2 ^ k<2 ^ 8*2 ^ k:=Nat.mul_lt_mul_of_pos_right hx (Nat.two_pow_pos k)
   _=2 ^ (8+k):=(Nat.pow_add ..).symm
   _≤2 ^ 64:=Nat.pow_le_pow_right (by decide) zO
 exact⟨_,rfl,jrb hm zO h1⟩
theorem jk9 {O B:Nat}(k c:Nat) (h:O<2 ^ k) (hB:B=c*2 ^ k) (hc:c<2 ^ 8) (hk:k≤56):∃O':Nat,O'=O+B∧O'<2 ^ (k+8)∧Y9 .or (.int .u64 (O:Int)) (.int .u64 (B:Int))=some (.int .u64 (O':Int)):=by
 have h2:B+2 ^ k≤2 ^ (k+8):=by
  rw[hB,Nat.pow_add,Nat.mul_comm (2 ^ k),← Nat.succ_mul]
  exact Nat.mul_le_mul_right _ hc
 have h3:2 ^ (k+8)≤2 ^ 64:=Nat.pow_le_pow_right (by decide) zO
 refine⟨O+B,rfl,zO,?_⟩
 rw[jin zO zO,hB,j58 _ _ _ h]
theorem jl6 (l:List UInt8) (hl:8≤l.length):Ev E 289 [.str l] (.int .u64 (wd l)):=by
 match l,hl with
 | a::b::c::d::e::f::g::h::t,_=>
  rw[wd_8]
  have l0:=a.toNat_lt
  have l1:=b.toNat_lt
  have l2:=c.toNat_lt
  have l3:=d.toNat_lt
  have l4:=e.toNat_lt
  have l5:=f.toNat_lt
  have l6:=g.toNat_lt
  have l7:=h.toNat_lt
  refine jU (af:=F289) rfl ?_
  have cv:∀x:UInt8,XY .u64 (.int .u8 (x.toNat:Int))=some (.int .u64 (x.toNat:Int)):=fun x=>by
   have:=x.toNat_lt
   simp only[XY,IntKind.wrap_u64]
   congr 2
   omega
  have iv:∀ (s:List UInt8) (i:Nat) (x:UInt8) (y:Int),y=(i:Int)→s[i]? = some x→QD (.str s) (.int .i64 y)=some (.int .u8 (x.toNat:Int)):=by
   intro s i x y hy hx
   subst hy
   simp[QD,hx]
  have i0:=iv (a::b::c::d::e::f::g::h::t) 0 a 0 rfl rfl
  have i1:=iv (a::b::c::d::e::f::g::h::t) 1 b 1 rfl rfl
  have i2:=iv (a::b::c::d::e::f::g::h::t) 2 c 2 rfl rfl
  have i3:=iv (a::b::c::d::e::f::g::h::t) 3 d 3 rfl rfl
  have i4:=iv (a::b::c::d::e::f::g::h::t) 4 e 4 rfl rfl
  have i5:=iv (a::b::c::d::e::f::g::h::t) 5 f 5 rfl rfl
  have i6:=iv (a::b::c::d::e::f::g::h::t) 6 g 6 rfl rfl
  have i7:=iv (a::b::c::d::e::f::g::h::t) 7 h 7 rfl rfl
  obtain⟨B1,hB1,s1⟩:=jdw b 8 (m:=8) rfl (by decide)
  obtain⟨B2,hB2,s2⟩:=jdw c 16 (m:=16) rfl (by decide)
  obtain⟨B3,hB3,s3⟩:=jdw d 24 (m:=24) rfl (by decide)
  obtain⟨B4,hB4,s4⟩:=jdw e 32 (m:=32) rfl (by decide)
  obtain⟨B5,hB5,s5⟩:=jdw f 40 (m:=40) rfl (by decide)
  obtain⟨B6,hB6,s6⟩:=jdw g 48 (m:=48) rfl (by decide)
  obtain⟨B7,hB7,s7⟩:=jdw h 56 (m:=56) rfl (by decide)
  obtain⟨O1,hO1,q1,o1⟩:=jk9 (O:=a.toNat) 8 _ l0 hB1 l1 (by decide)
  obtain⟨O2,hO2,q2,o2⟩:=jk9 (O:=O1) 16 _ q1 hB2 l2 (by decide)
  obtain⟨O3,hO3,q3,o3⟩:=jk9 (O:=O2) 24 _ q2 hB3 l3 (by decide)
  obtain⟨O4,hO4,q4,o4⟩:=jk9 (O:=O3) 32 _ q3 hB4 l4 (by decide)
  obtain⟨O5,hO5,q5,o5⟩:=jk9 (O:=O4) 40 _ q4 hB5 l5 (by decide)
  obtain⟨O6,hO6,q6,o6⟩:=jk9 (O:=O5) 48 _ q5 hB6 l6 (by decide)
  obtain⟨O7,hO7,q7,o7⟩:=jk9 (O:=O6) 56 _ q6 hB7 l7 (by decide)
  have tot:O7=a.toNat+b.toNat*2 ^ 8+c.toNat*2 ^ 16+d.toNat*2 ^ 24+e.toNat*2 ^ 32+f.toNat*2 ^ 40+g.toNat*2 ^ 48+h.toNat*2 ^ 56:=by omega
  rw[← tot]
  clear tot hB1 hB2 hB3 hB4 hB5 hB6 hB7 hO7 q7 hO6 q6 hO5 q5 hO4 q4 hO3 q3 hO2 q2 hO1 q1
  simp[F289,cv,i0,i1,i2,i3,i4,i5,i6,i7,s1,o1,s2,o2,s3,o3,s4,o4,s5,o5,s6,o6,s7,o7]
  exact j4 rfl zS rfl
theorem j3t (tm:Nat→V):eval E tm (.g 2)=.eptr utf8first 0:=rfl
theorem j3s (tm:Nat→V):eval E tm (.g 3)=.eptr accR 0:=rfl
theorem jyp (b:Nat) (h:b<256):utf8first[b]? = some (.int .u8 (Lib.firstT b:Nat)):=by
 unfold utf8first
 rw[List.getElem?_map,List.getElem?_range h]
 rfl
theorem acc_at (y:Nat) (h:y<16):(accR.drop (y*2)).take 2=[.int .u8 (Lib.accLo y:Nat),.int .u8 (Lib.accHi y:Nat)]:=by
 have:y=0∨y=1∨y=2∨y=3∨y=4∨y=5∨y=6∨y=7∨y=8∨y=9∨y=10∨y=11∨y=12∨y=13∨y=14∨y=15:=by omega
 rcases this with h|h|h|h|h|h|h|h|h|h|h|h|h|h|h|h <;> subst h <;> rfl
theorem and7:∀x:Fin 256,IntKind.u8.wrap ((BitVec.ofInt IntKind.u8.bits ((x.val:Nat):Int) &&& BitVec.ofInt IntKind.u8.bits 7).toNat:Int)=((x.val % 8:Nat):Int):=by decide +kernel
theorem j0y (x:Nat) (h:x<256):Y9 .and (.int .u8 (x:Int)) (.int .u8 7)=some (.int .u8 ((x % 8:Nat):Int)):=by
 simp only[Y9,XQ,if_true]
 have:=and7 ⟨x,h⟩
 simp only at this
 rw[this]
theorem j0x (x:Nat) (_:x<256):Y9 .shr (.int .u8 (x:Int)) (.int .u64 4)=some (.int .u8 ((x / 16:Nat):Int)):=by
 simp only[Y9,QN]
 rw[if_neg (by decide)]
 have e:min (Int.toNat 4) IntKind.u8.bits=4:=by decide
 rw[e]
 congr 2
 rw[Int.fdiv_eq_ediv_of_nonneg _ (by decide)]
 omega
theorem jyn (b:Nat):Lib.firstT b<256:=by
 unfold Lib.firstT
 repeat' split
 all_goals omega
abbrev M8:Nat:=9259542123273814144
theorem jkq (l:List UInt8):wd l<2 ^ 64:=by
 have h:=Lib.leNat_lt (l.take 8)
 have h2:(256:Nat) ^ (l.take 8).length≤256 ^ 8:=Nat.pow_le_pow_right (by decide) (by rw[List.length_take];omega)
 have h3:(256:Nat) ^ 8=2 ^ 64:=by decide
 unfold wd
 omega
theorem WP {l:List UInt8}(h8:8≤l.length) (h:wd l &&& M8=0):Lib.validD l=Lib.validD (l.drop 8):=by
 have e:(l.take 8).length=8:=by rw[List.length_take];omega
 have:=(Lib.leNat_mask (l.take 8)).1 (by rw[e,Lib.maskN8];exact h)
 exact Lib.validD_ascii 8 l this
theorem ju8 (w:Nat) (hw:w<2 ^ 64):∃q:Nat,q=w &&& M8∧Y9 .and (.int .u64 (w:Int)) (.int .u64 9259542123273814144)=some (.int .u64 (q:Int)) :=
 ⟨_,rfl,jkt (b:=M8) rfl hw (by decide)⟩
theorem jne {a b:Nat}(ha:a<2 ^ 64) (hb:b<2 ^ 64):∃q:Nat,q=a ||| b∧q<2 ^ 64∧Y9 .or (.int .u64 (a:Int)) (.int .u64 (b:Int))=some (.int .u64 (q:Int)) :=
 ⟨_,rfl,Nat.or_lt_two_pow ha hb,jin ha hb⟩
theorem beq0 (q:Nat):((q:Int) == 0)=decide (q=0):=by
 rw[Bool.eq_iff_iff];simp
set_option maxHeartbeats 8000000 in
theorem ev265 (s:List UInt8) (_:s.length≤1000000):Ev E 265 [.str s] (.bool (Lib.validD s)):=by
 refine jU (af:=F265) rfl ?_
 simp[F265]
 refine Ye (n:=s.length) [(0,200)] (fun k st=>∃l,k=l.length∧st.tm 0=.str l∧Lib.validD s=Lib.validD l∧l.length≤s.length) rfl rfl ⟨s,zS⟩ ?_
 rintro k st ⟨l,rfl,h0,hv,hl⟩ f
 have fd:st.df=[]:=by rw[f.d];simp
 have fb:st.fb=0:=by rw[f.b];simp
 have fr:st.ro=0:=by rw[f.r];simp
 clear f
 cases hl0:l with
 | nil=>
  subst hl0
  simp[h0]
  exact j4 (by simp[fd]) (by simp[hv];rfl) rfl
 | cons b t=>
 rw[← hl0]
 have hlen:l.length=t.length+1:=by rw[hl0];rfl
 have hb256:=b.toNat_lt
 have hget:l.getD 0 0=b:=by rw[hl0];rfl
 have i0:QD (.str l) (.int .i64 0)=some (.int .u8 (b.toNat:Int)):=by
  have:=Y0 (s:=l) (i:=0) (x:=0) .i64 zO rfl
  rw[hget]at this
  exact this
 have hpos:0<l.length:=by omega
 by_cases hb:(b.toNat:Int)<128
 ·have hvt:Lib.validD s=Lib.validD t:=by rw[hv,hl0,Lib.validD_cons b t zO]
  have d1:XZ (some (.int .i64 1)) none (.str l)=some (.str t):=by
   rw[JT (k:=1) (x:=1) rfl (by omega:1≤l.length),hl0];rfl
  by_cases h8:8<(t.length:Int)
  ·obtain⟨w,hw⟩:∃w,wd t=w:=⟨_,rfl⟩
   have hwl:w<2 ^ 64:=hw▸jkq t
   obtain⟨q,hq,aq⟩:=ju8 w hwl
   simp[h0,hpos,i0,hb,d1,h8]
   refine jV (jl6 t zO) zS rfl rfl ?_
   rw[hw]
   by_cases hq0:q=0
   ·have hv8:Lib.validD s=Lib.validD (t.drop 8):=by rw[hvt,WP zO (by rw[hw,← hq,hq0])]
    have d8:XZ (some (.int .i64 8)) none (.str t)=some (.str (t.drop 8)):=JT (k:=8) rfl zO
    have hl8:(t.drop 8).length=t.length - 8:=List.length_drop
    obtain⟨u,hu⟩:∃u,t.drop 8=u:=⟨_,rfl⟩
    rw[hu]at hv8 d8 hl8
    simp[aq,hq0,d8]
    by_cases h16:16<(u.length:Int)
    ·have d8u:XZ (some (.int .i64 8)) none (.str u)=some (.str (u.drop 8)):=JT (k:=8) rfl zO
     have d16:XZ (some (.int .i64 16)) none (.str u)=some (.str (u.drop 16)):=JT (k:=16) rfl zO
     have hlu:(u.drop 8).length=u.length - 8:=List.length_drop
     obtain⟨w1,hw1⟩:∃w,wd u=w:=⟨_,rfl⟩
     obtain⟨w2,hw2⟩:∃w,wd (u.drop 8)=w:=⟨_,rfl⟩
     obtain⟨o,ho,hol,oo⟩:=jne (hw1▸jkq u) (hw2▸jkq (u.drop 8))
     obtain⟨q2,hq2,aq2⟩:=ju8 o hol
     have e1:=jl6 u zO
     have e2:=jl6 (u.drop 8) zO
     rw[hw1]at e1
     rw[hw2]at e2
     obtain⟨u8,hu8⟩:∃x,u.drop 8=x:=⟨_,rfl⟩
     rw[hu8]at d8u e2 hlu
     simp[h16]
     refine Xy e1 zS rfl rfl ?_
     simp[d8u]
     refine Xy e2 zS rfl rfl ?_
     by_cases hq20:q2=0
     ·have hb2:=(Lib.or_mask w1 w2 M8).1 (by rw[← ho,← hq2,hq20])
      have hv16:Lib.validD s=Lib.validD (u.drop 16):=by
       rw[hv8,WP zO (by rw[hw1];exact hb2.1),hu8,WP zO (by rw[← hu8,hw2];exact hb2.2),← hu8,List.drop_drop]
      have hl16:(u.drop 16).length=u.length - 16:=List.length_drop
      obtain⟨v,hv'⟩:∃x,u.drop 16=x:=⟨_,rfl⟩
      rw[hv']at d16 hv16 hl16
      simp[oo,aq2,hq20,d16]
      refine Ye (n:=v.length) [(0,0),(42,64)] (fun k st=>∃x,k=x.length∧st.tm 0=.str x∧Lib.validD s=Lib.validD x∧x.length≤v.length) rfl rfl ⟨v,by simp[hv16]⟩ ?_
      rintro k st' ⟨x,rfl,g0,gv,gl⟩ _
      by_cases h32:32<(x.length:Int)
      ·have d8x:XZ (some (.int .i64 8)) none (.str x)=some (.str (x.drop 8)):=JT (k:=8) rfl zO
       have d16x:XZ (some (.int .i64 16)) none (.str x)=some (.str (x.drop 16)):=JT (k:=16) rfl zO
       have d24x:XZ (some (.int .i64 24)) none (.str x)=some (.str (x.drop 24)):=JT (k:=24) rfl zO
       have d32x:XZ (some (.int .i64 32)) none (.str x)=some (.str (x.drop 32)):=JT (k:=32) rfl zO
       have hl32:(x.drop 32).length=x.length - 32:=List.length_drop
       obtain⟨y0,hy0⟩:∃w,wd x=w:=⟨_,rfl⟩
       obtain⟨y1,hy1⟩:∃w,wd (x.drop 8)=w:=⟨_,rfl⟩
       obtain⟨y2,hy2⟩:∃w,wd (x.drop 16)=w:=⟨_,rfl⟩
       obtain⟨y3,hy3⟩:∃w,wd (x.drop 24)=w:=⟨_,rfl⟩
       obtain⟨p1,hp1,hp1l,op1⟩:=jne (hy0▸jkq x) (hy1▸jkq (x.drop 8))
       obtain⟨p2,hp2,hp2l,op2⟩:=jne (hy2▸jkq (x.drop 16)) (hy3▸jkq (x.drop 24))
       obtain⟨p3,hp3,hp3l,op3⟩:=jne hp1l hp2l
       obtain⟨q3,hq3,aq3⟩:=ju8 p3 hp3l
       have e1:=jl6 x zO
       have e2:=jl6 (x.drop 8) (by rw[List.length_drop];omega)
       have e3:=jl6 (x.drop 16) (by rw[List.length_drop];omega)
       have e4:=jl6 (x.drop 24) (by rw[List.length_drop];omega)
       rw[hy0]at e1
       rw[hy1]at e2
       rw[hy2]at e3
       rw[hy3]at e4
       have hall:q3=0→Lib.validD s=Lib.validD (x.drop 32):=by
        intro hz
        rw[hq3,hp3,Lib.or_mask,hp1,hp2,Lib.or_mask,Lib.or_mask]at hz
        obtain⟨⟨z0,z1⟩,z2,z3⟩:=hz
        rw[gv,WP zO (by rw[hy0];exact z0),WP (by rw[List.length_drop];omega) (by rw[hy1];exact z1),List.drop_drop,
         WP (by rw[List.length_drop];omega) (by rw[hy2];exact z2),List.drop_drop,WP (by rw[List.length_drop];omega) (by rw[hy3];exact z3),List.drop_drop]
       clear hy0 hy1 hy2 hy3 hp1 hp2 hp3 hq3
       obtain⟨x8,hx8⟩:∃z,x.drop 8=z:=⟨_,rfl⟩
       obtain⟨x16,hx16⟩:∃z,x.drop 16=z:=⟨_,rfl⟩
       obtain⟨x24,hx24⟩:∃z,x.drop 24=z:=⟨_,rfl⟩
       obtain⟨x32,hx32⟩:∃z,x.drop 32=z:=⟨_,rfl⟩
       rw[hx8]at d8x e2
       rw[hx16]at d16x e3
       rw[hx24]at d24x e4
       rw[hx32]at d32x hl32 hall
       simp[g0,h32]
       refine Xy e1 zS rfl rfl ?_
       simp[d8x,g0]
       refine Xy e2 zS rfl rfl ?_
       simp[d16x,op1,g0]
       refine Xy e3 zS rfl rfl ?_
       simp[d24x,g0]
       refine Xy e4 zS rfl rfl ?_
       by_cases hq30:q3=0
       ·simp[op2,op3,aq3,hq30,d32x,g0]
        exact⟨x32.length,zO,x32,rfl,rfl,hall hq30,zO⟩
       ·simp[op2,op3,aq3,beq0,hq30,g0]
        exact⟨x.length,zO,x,rfl,rfl,gv,zO⟩
      ·simp[g0,h32]
       exact⟨x.length,zO,x,rfl,rfl,gv,zO⟩
     ·simp[oo,aq2,beq0,hq20]
      exact⟨u.length,zO,u,rfl,rfl,hv8,zO⟩
    ·simp[h16]
     exact⟨u.length,zO,u,rfl,rfl,hv8,zO⟩
   ·simp[aq,beq0,hq0]
    exact⟨t.length,zO,t,rfl,rfl,hvt,zO⟩
  ·simp[h0,hpos,i0,hb,d1,h8]
   exact⟨t.length,zO,t,rfl,rfl,hvt,zO⟩
 ·have hlead:=Lib.validD_lead l (by rw[hl0];simp) (by rw[hget];omega)
  rw[hget]at hlead
  rw[← hv]at hlead
  obtain⟨x,hx⟩:∃x,Lib.firstT b.toNat=x:=⟨_,rfl⟩
  have hx256:x<256:=hx▸jyn _
  have ld1:=jyp b.toNat b.toNat_lt
  have ia1:QE 256 1 (.eptr utf8first 0) (.int .u8 (b.toNat:Int))=some (.eptr utf8first b.toNat):=by
   simp only[QE]
   rw[if_pos zO]
   simp
  have a7:=j0y x hx256
  have s4:=j0x x hx256
  obtain⟨y,hy⟩:∃y,x / 16=y:=⟨_,rfl⟩
  obtain⟨sz,hsz⟩:∃y,x % 8=y:=⟨_,rfl⟩
  have hy16:y<16:=by omega
  have ia2:QE 16 2 (.eptr accR 0) (.int .u8 (y:Int))=some (.eptr accR (y*2)):=by
   simp only[QE]
   rw[if_pos zO]
   simp
  have ld2:∀ob,Qh ob (some 2) (.eptr accR (y*2))=some (.agg [.int .u8 (Lib.accLo y:Nat),.int .u8 (Lib.accHi y:Nat)]):=fun ob=>by
   rw[jb4,W5,acc_at y hy16,if_pos (by show y*2+2≤32;omega)]
  have cv:XY .i64 (.int .u8 (sz:Int))=some (.int .i64 (sz:Int)):=by simp only[XY];rw[jy zO zO]
  rw[hx]at hlead ld1
  rw[hsz]at a7 hlead
  rw[hy]at s4 hlead
  have i1:1<l.length→_:=fun h=>Y0 (s:=l) (i:=1) (x:=1) .i64 h rfl
  have i2:2<l.length→_:=fun h=>Y0 (s:=l) (i:=2) (x:=2) .i64 h rfl
  have i3:3<l.length→_:=fun h=>Y0 (s:=l) (i:=3) (x:=3) .i64 h rfl
  generalize (l.getD 1 0).toNat=b1 at *
  generalize (l.getD 2 0).toNat=b2 at *
  generalize (l.getD 3 0).toNat=b3 at *
  generalize Lib.accLo y=lo at *
  generalize Lib.accHi y=hi at *
  simp[h0,hpos,i0,hb,j3t,ia1,ld1,a7,cv,s4,j3s,ia2,ld2,j1,fb,fr,j6]
  by_cases hs2:sz=2
  ·by_cases c0:(l.length:Int)<2
   ·have hc:Lib.checkN l.length b1 b2 b3 sz lo hi=none:=by unfold Lib.checkN;simp[hs2];omega
    rw[hc]at hlead
    simp[hs2,h0,c0]
    exact j4 (by simp[fd]) (by simp[hlead]) rfl
   have i1:=i1 zO
   by_cases c1:(b1:Int)<lo
   ·have hc:Lib.checkN l.length b1 b2 b3 sz lo hi=none:=by unfold Lib.checkN;simp[hs2];omega
    rw[hc]at hlead
    simp[hs2,h0,j1,c0,i1,c1]
    exact j4 (by simp[fd]) (by simp[hlead]) rfl
   by_cases c2:(hi:Int)<b1
   ·have hc:Lib.checkN l.length b1 b2 b3 sz lo hi=none:=by unfold Lib.checkN;simp[hs2];omega
    rw[hc]at hlead
    simp[hs2,h0,j1,c0,i1,c1,c2]
    exact j4 (by simp[fd]) (by simp[hlead]) rfl
   have hc:Lib.checkN l.length b1 b2 b3 sz lo hi=some 2:=by unfold Lib.checkN;simp[hs2];omega
   rw[hc]at hlead
   have dd:XZ (some (.int .i64 2)) none (.str l)=some (.str (l.drop 2)):=JT (k:=2) rfl zO
   simp[hs2,h0,j1,c0,i1,c1,c2,dd]
   exact⟨(l.drop 2).length,by rw[List.length_drop];omega,l.drop 2,zS,rfl,hlead,by rw[List.length_drop];omega⟩
  by_cases hs3:sz=3
  ·by_cases c0:(l.length:Int)<3
   ·have hc:Lib.checkN l.length b1 b2 b3 sz lo hi=none:=by unfold Lib.checkN;simp[hs3];omega
    rw[hc]at hlead
    simp[hs3,h0,c0]
    exact j4 (by simp[fd]) (by simp[hlead]) rfl
   have i1:=i1 zO
   have i2:=i2 zO
   by_cases c1:(b1:Int)<lo
   ·have hc:Lib.checkN l.length b1 b2 b3 sz lo hi=none:=by unfold Lib.checkN;simp[hs3];omega
    rw[hc]at hlead
    simp[hs3,h0,j1,c0,i1,c1]
    exact j4 (by simp[fd]) (by simp[hlead]) rfl
   by_cases c2:(hi:Int)<b1
   ·have hc:Lib.checkN l.length b1 b2 b3 sz lo hi=none:=by unfold Lib.checkN;simp[hs3];omega
    rw[hc]at hlead
    simp[hs3,h0,j1,c0,i1,c1,c2]
    exact j4 (by simp[fd]) (by simp[hlead]) rfl
   by_cases e2:(b2:Int)<128
   ·have hc:Lib.checkN l.length b1 b2 b3 sz lo hi=none:=by unfold Lib.checkN;simp[hs3];omega
    rw[hc]at hlead
    simp[hs3,h0,j1,c0,i1,i2,c1,c2,e2]
    exact j4 (by simp[fd]) (by simp[hlead]) rfl
   by_cases f2:191<(b2:Int)
   ·have hc:Lib.checkN l.length b1 b2 b3 sz lo hi=none:=by unfold Lib.checkN;simp[hs3];omega
    rw[hc]at hlead
    simp[hs3,h0,j1,c0,i1,i2,c1,c2,e2,f2]
    exact j4 (by simp[fd]) (by simp[hlead]) rfl
   have hc:Lib.checkN l.length b1 b2 b3 sz lo hi=some 3:=by unfold Lib.checkN;simp[hs3];omega
   rw[hc]at hlead
   have dd:XZ (some (.int .i64 3)) none (.str l)=some (.str (l.drop 3)):=JT (k:=3) rfl zO
   simp[hs3,h0,j1,c0,i1,i2,c1,c2,e2,f2,dd]
   exact⟨(l.drop 3).length,by rw[List.length_drop];omega,l.drop 3,zS,rfl,hlead,by rw[List.length_drop];omega⟩
  by_cases hs4:sz=4
  ·by_cases c0:(l.length:Int)<4
   ·have hc:Lib.checkN l.length b1 b2 b3 sz lo hi=none:=by unfold Lib.checkN;simp[hs4];omega
    rw[hc]at hlead
    simp[hs4,h0,c0]
    exact j4 (by simp[fd]) (by simp[hlead]) rfl
   have i1:=i1 zO
   have i2:=i2 zO
   have i3:=i3 zO
   by_cases c1:(b1:Int)<lo
   ·have hc:Lib.checkN l.length b1 b2 b3 sz lo hi=none:=by unfold Lib.checkN;simp[hs4];omega
    rw[hc]at hlead
    simp[hs4,h0,j1,c0,i1,c1]
    exact j4 (by simp[fd]) (by simp[hlead]) rfl
   by_cases c2:(hi:Int)<b1
   ·have hc:Lib.checkN l.length b1 b2 b3 sz lo hi=none:=by unfold Lib.checkN;simp[hs4];omega
    rw[hc]at hlead
    simp[hs4,h0,j1,c0,i1,c1,c2]
    exact j4 (by simp[fd]) (by simp[hlead]) rfl
   by_cases e2:(b2:Int)<128
   ·have hc:Lib.checkN l.length b1 b2 b3 sz lo hi=none:=by unfold Lib.checkN;simp[hs4];omega
    rw[hc]at hlead
    simp[hs4,h0,j1,c0,i1,i2,c1,c2,e2]
    exact j4 (by simp[fd]) (by simp[hlead]) rfl
   by_cases f2:191<(b2:Int)
   ·have hc:Lib.checkN l.length b1 b2 b3 sz lo hi=none:=by unfold Lib.checkN;simp[hs4];omega
    rw[hc]at hlead
    simp[hs4,h0,j1,c0,i1,i2,c1,c2,e2,f2]
    exact j4 (by simp[fd]) (by simp[hlead]) rfl
   by_cases e3:(b3:Int)<128
   ·have hc:Lib.checkN l.length b1 b2 b3 sz lo hi=none:=by unfold Lib.checkN;simp[hs4];omega
    rw[hc]at hlead
    simp[hs4,h0,j1,c0,i1,i2,i3,c1,c2,e2,f2,e3]
    exact j4 (by simp[fd]) (by simp[hlead]) rfl
   by_cases f3:191<(b3:Int)
   ·have hc:Lib.checkN l.length b1 b2 b3 sz lo hi=none:=by unfold Lib.checkN;simp[hs4];omega
    rw[hc]at hlead
    simp[hs4,h0,j1,c0,i1,i2,i3,c1,c2,e2,f2,e3,f3]
    exact j4 (by simp[fd]) (by simp[hlead]) rfl
   have hc:Lib.checkN l.length b1 b2 b3 sz lo hi=some 4:=by unfold Lib.checkN;simp[hs4];omega
   rw[hc]at hlead
   have dd:XZ (some (.int .i64 4)) none (.str l)=some (.str (l.drop 4)):=JT (k:=4) rfl zO
   simp[hs4,h0,j1,c0,i1,i2,i3,c1,c2,e2,f2,e3,f3,dd]
   exact⟨(l.drop 4).length,by rw[List.length_drop];omega,l.drop 4,zS,rfl,hlead,by rw[List.length_drop];omega⟩
  have hc:Lib.checkN l.length b1 b2 b3 sz lo hi=none:=by unfold Lib.checkN;simp[hs2,hs3,hs4]
  rw[hc]at hlead
  have z2:((sz:Int) == 2)=false:=by simp;omega
  have z3:((sz:Int) == 3)=false:=by simp;omega
  have z4:((sz:Int) == 4)=false:=by simp;omega
  simp[z2,z3,z4]
  exact j4 (by simp[fd]) (by simp[hlead]) rfl
def Qn:Nat→List Int→Bool
 | n,[]=>decide (0<n) && decide (n≤20)
 | n,c::l=>if !jbw c || (decide (n=0) && WH c) then false else Qn (n+1) l
theorem jgh:∀ (l:List Int) (n:Nat),0<n→Qn n l=(l.all jbw && decide (n+l.length≤20))
 | [],n,h=>by simp[Qn,h]
 | c::l,n,h=>by
  have h0:¬ n=0:=by omega
  rw[Qn,jgh l (n+1) zO]
  cases hp:jbw c
  ·simp[hp]
  ·simp only[hp,h0,decide_false,Bool.false_and,Bool.or_false,Bool.not_true,Bool.false_eq_true,if_false,List.all_cons,Bool.true_and,List.length_cons]
   congr 2
   exact propext ⟨fun h=>by omega,fun h=>by omega⟩
theorem jw8 (l:List Int):Qn 0 l=nmOk l:=by
 cases l with
 | nil=>rfl
 | cons c l=>
  rw[Qn,jgh l 1 zO]
  unfold nmOk jez
  have e:decide (1+l.length≤20)=decide (l.length+1≤20):=by rw[Nat.add_comm]
  cases hp:jbw c <;> cases hd:WH c <;> simp[hp,hd,e]
  rw[Bool.and_comm]
theorem j2q {E:Env}{Yf:YF}{st:St}{ub:Nat}{K:St→Nat→Prop}{d:Option Nat}{nm:Bool}{x:A}{l u pos:Nat}{s:List UInt8}(hx:eval E st.tm x=.iter l u) (ho:st.ob l=some ⟨u,.siter s pos⟩) (hro:st.ro≤u)
 (h1:pos<s.length→jaj K st d ub { v:=.tup [.bool true,.int .i64 pos,.int .i32 (rU s pos:Nat)],obs:=[(l,⟨u,.siter s (pos+rW s pos)⟩)] })
 (h2:¬ pos<s.length→QT K st d ub (.tup [.bool false])):j8 E Yf ⟨d,.nextStr x,none,nm⟩ st ub K:=jpw hx ho hro h1 h2
theorem ev229 (s:List UInt8) (hs:s.length≤1000000):Ev E 229 [.str s] (.bool (jhm s)):=by
 refine jU (af:=F229) rfl ?_
 simp[F229]
 refine jV (ev264 s) zS rfl rfl ?_
 unfold jhm
 cases b1:j1o s
 case true=>
  simp
  exact j4 rfl zS rfl
 simp
 refine jV (ev265 s hs) zS rfl rfl ?_
 cases b2:Lib.validD s
 case false=>
  simp
  exact j4 rfl zS rfl
 simp
 rw[← jw8]
 refine Ye (n:=s.length) [(2,3),(5,5),(15,30)] (fun k st=>∃p n u,k=s.length - p∧p≤s.length∧n≤p∧st.tm 3=.int .i64 (n:Nat)∧st.tm 14=.iter 28 u∧st.ob 28=some ⟨u,.siter s p⟩∧Qn 0 (JE s)=Qn n (RN s p)) rfl rfl
  ⟨0,0,640,by simp[jd0]⟩ ?_
 rintro k st ⟨p,n,u,rfl,hp,hnp,h3,h14,ho,hsc⟩ f
 have fd:st.df=[]:=by rw[f.d];simp
 have fb:st.fb=0:=by rw[f.b];simp
 have fr:st.ro=0:=by rw[f.r];simp
 clear f
 simp
 refine j2q (l:=28) (u:=u) (pos:=p) (s:=s) (by simp[h14]) (by simp[ho]) (by simp[fr]) (fun hlt=>?_) (fun hge=>?_)
 ·have hw:=jiz hlt
  rw[jvb hlt,Qn]at hsc
  obtain⟨c,hc⟩:∃c:Int,(rU s p:Int)=c:=⟨_,rfl⟩
  rw[hc]at hsc ⊢
  simp
  refine jV (ev266 c) zS rfl rfl ?_
  cases hpc:jbw c
  ·rw[hpc]at hsc
   simp
   exact j4 (by simp[fd]) (by simp[hsc]) rfl
  ·by_cases hn0:n=0
   ·subst hn0
    simp[h3]
    refine jV (ev267 c) zS rfl rfl ?_
    cases hdc:WH c
    ·simp[h3,h14,hdc,hpc]at hsc ⊢
     exact⟨s.length - (p+rW s p),zO,p+rW s p,rfl,zO,1,zO,by decide,rfl,hsc⟩
    ·simp[hdc,hpc]at hsc ⊢
     exact j4 (by simp[fd]) (by simp[hsc]) rfl
   ·simp[h3,h14,hpc,beq0,hn0]at hsc ⊢
    exact⟨s.length - (p+rW s p),zO,p+rW s p,rfl,zO,n+1,zO,by rw[jy zO zO];simp,rfl,hsc⟩
 ·have:p=s.length:=by omega
  subst this
  rw[j0j (Nat.le_refl _),Qn]at hsc
  by_cases hn0:0<n
  ·simp[h3,hn0]at hsc ⊢
   exact j4 (by simp[fd]) (by simp[hsc];omega) rfl
  ·simp[h3,hn0]at hsc ⊢
   exact j4 (by simp[fd]) (by simp[hsc]) rfl
theorem ev212 (nl:Bool) (t:List (List UInt8)) (hn:t.length≤1000000) (hl:∀s∈t,s.length≤1000000):Ev E 212 [jN nl JL t] (.bool (jvf t)):=by
 refine jU (af:=F212) rfl ?_
 simp[F212]
 refine jE [(2,4),(7,29)] t.length (fun i s=>s.tm 7=.int .i64 i∧∀j,j<t.length→j<i→jpl t j=true) rfl rfl ⟨zS,fun j _ h=>by omega⟩ ?_
 rintro i s hi ⟨h7,hb⟩ f
 have f0:s.tm 0=jN nl JL t:=by rw[f.t 0 zS];simp
 have f5:s.tm 5=jN nl JL t:=by rw[f.t 5 zS];simp
 have f6:s.tm 6=.int .i64 t.length:=by rw[f.t 6 zS];simp
 have fd:s.df=[]:=by rw[f.d];simp
 clear f
 by_cases hlt:i<t.length
 ·have hw:=J0 hlt zO
  have hok:jpl t i=(jhm t[i] && (i == 0 || jhs (t.getD (i - 1) []) t[i])):=by unfold jpl;rw[JQ hlt]
  have hsi:=hl _ (List.getElem_mem hlt)
  obtain⟨c,hc⟩:∃c,t[i]=c:=⟨_,rfl⟩
  have ht0:=jfz t hlt
  rw[hc]at hok ht0 hsi
  have jcj:jpl t i=true→∀j,j<t.length→j<i+1→jpl t j=true:=fun h j hj hji=>by
   rcases Nat.lt_succ_iff_lt_or_eq.1 hji with h'|rfl
   ·exact hb j hj h'
   ·exact h
  simp[h7,f5,f6,hlt,j7 YG,ht0]
  refine jV (ev229 c hsi) zS rfl rfl ?_
  cases hnm:jhm c
  ·rw[hnm]at hok
   simp
   exact j4 (by simp[fd]) (by simp[jmw hlt hok]) rfl
  ·rw[hnm]at hok
   by_cases h0:i=0
   ·subst h0
    simp[h7]
    exact⟨hlt,by decide,fun j hj h=>by subst h;exact jcj (by simp[hok]) 0 hj zO⟩
   ·have h0':0<i:=by omega
    have hwp:=j46 h0' zO
    have hlp:i - 1<t.length:=by omega
    have hsp:=hl _ (List.getElem_mem hlp)
    have ht1:=jfz t hlp
    rw[JQ hlp]at hok
    obtain⟨e,he⟩:∃e,t[i - 1]=e:=⟨_,rfl⟩
    rw[he]at hok ht1 hsp
    have hle:=YK e
    have hlc:=YK c
    simp[f0,h0',hwp,hlp,j7 YG,ht1]
    refine jV (ev251 e c zO zO) zS rfl rfl ?_
    cases hls:jhs e c
    ·have hls':=hls
     unfold jhs at hls'
     rw[hls']
     simp
     exact j4 (by simp[fd]) (by simp[jmw hlt (by simp[hok,hls,h0])]) rfl
    ·have hls':=hls
     unfold jhs at hls'
     rw[hls']
     simp[h7,hw]
     exact⟨hlt,jcj (by simp[hok,hls])⟩
 ·have:i=t.length:=by omega
  subst this
  simp[h7,f6]
  exact j4 (by simp[fd]) (by simp[jzh (fun j hj=>hb j hj hj)]) rfl
def Fr1 (n:Nat) (ob ob':ZO):Prop:=∀key,(∀m,n≤m→key≠2*m+1)→ob' key=ob key
theorem jga (h:Hist') (hn:h.ts.length≤1000) (hm:∀t∈h.ts,t.ops.length≤1000000) {asg bd:C}{ps:List Nat}(hps:ps.length=2) (has:asg.one=true) (hbd:bd.one=true) {st:St}{f:A}{lh uh:Nat}
 (hf:eval E st.tm f=.fn (.func 215) [] [.ptr lh uh 0]) (oh:st.ob lh=some ⟨uh,.cells (j2 h)⟩) (hl1:lh≠2*st.nx+1) (hl3:lh≠2*st.nx+3) (hro:st.ro=0)
 (J:Nat→Nat→(ZO)→(Nat→Bool)→Nat→Prop) {Q:Ex→St→Prop}
 (hJf:∀i k ob ob' tk ub ub',J i k ob tk ub→ub≤ub'→Fr1 st.nx ob ob'→J i k ob' tk ub')
 (hnext:∀i (hi:i<h.ts.length) ob tk ub,J i (h.ts[i]).ops.length ob tk ub→J (i+1) 0 ob tk ub)
 (hbody:∀i (hi:i<h.ts.length) k (hk:k<(h.ts[i]).ops.length) ob tk ub,J i k ob tk ub→ob (2*st.nx+1)=some ⟨st.nx,.loop .ready none⟩→ob (2*st.nx+3)=some ⟨st.nx+1,.dfr⟩→st.nx+64≤ub →
  wpC E YC asg { tm:=jdx st.tm ps [.agg [.int .i64 i,.int .i64 k],.agg (opC (h.ts[i]).ops[k])],ob:=ob,tk:=tk,ro:=0,nx:=ub,fb:=st.fb,df:=[] } fun e s1=>e=.nrm∧s1.ob (2*st.nx+1)=some ⟨st.nx,.loop .ready none⟩ ∧
   wpC E YC bd { s1 with ob:=upd s1.ob (2*st.nx+1) (some ⟨st.nx,.loop .busy none⟩) } fun e s2=>s2.ob (2*st.nx+1)=some ⟨st.nx,.loop .busy none⟩∧s2.ob (2*st.nx+3)=some ⟨st.nx+1,.dfr⟩∧st.nx+64≤s2.nx∧e=.nrm∧J i (k+1) s2.ob s2.tk s2.nx)
 (h0:J 0 0 st.ob st.tk (st.nx+64))
 (hQ:∀ob tk ub,J h.ts.length 0 ob tk ub→ob (2*st.nx+3)=some ⟨st.nx+1,.dfr⟩→st.nx+64≤ub→Q .nrm { st with ob:=ob,tk:=tk,nx:=ub,df:=(2*st.nx+3,st.nx+1)::st.df }) :
 wpC E YC (.rangeFunc f ps asg bd) st Q:=by
 refine WO (g:=215) (first:=[]) (captured:=[.ptr lh uh 0]) hf ?_
 have n13:¬ 2*st.nx+3=2*st.nx+1:=by omega
 have n31:¬ 2*st.nx+1=2*st.nx+3:=by omega
 have:=jzo (Yf:=jf3 E YC asg bd st ps (2*st.nx+1) st.nx) h hn hm (l:=2*st.nx+1) (u:=st.nx) (lh:=lh) (uh:=uh)
  (ob0:=upd (upd st.ob (2*st.nx+3) (some ⟨st.nx+1,.dfr⟩)) (2*st.nx+1) (some ⟨st.nx,.loop .ready none⟩)) (tk0:=st.tk) (ro:=st.ro) (base:=(st.fb+1023)*1024) (ub0:=st.nx+64)
  (by simp only[j5,hl1,hl3,if_false,oh]) zO
  (fun i k ob tk ub=>J i k ob tk ub∧ob (2*st.nx+1)=some ⟨st.nx,.loop .ready none⟩∧ob (2*st.nx+3)=some ⟨st.nx+1,.dfr⟩∧st.nx+64≤ub)
  (fun r=>∃s pend,r.2.1 (2*st.nx+1)=some ⟨st.nx,.loop s pend⟩∧s≠.busy∧st.ro≤st.nx∧Q (pend.getD .nrm) { st with ob:=fun k=>if Nat.beq (2*st.nx+1) k then none else r.2.1 k,tk:=r.2.2.1,nx:=r.2.2.2,df:=(2*st.nx+3,st.nx+1)::st.df })
  ?_ ?_ ?_ ?_ ?_
 ·obtain⟨r,hr,hP⟩:=this
  exact⟨r,hr,hP⟩
 ·rintro i k ob ob' tk ub ub' ⟨g1,g2,g3,g4⟩ hub hfr
  have f:∀key,(∀m,ub≤m→key≠2*m+1)→ob' key=ob key:=hfr
  exact⟨hJf _ _ _ _ _ _ _ g1 hub (fun key hk=>f key (fun m hm=>hk m zO)),by rw[f _ (fun m hm=>by omega)];exact g2,by rw[f _ (fun m hm=>by omega)];exact g3,zO⟩
 ·rintro i hi ob tk ub ⟨g1,g⟩
  exact⟨hnext i hi ob tk ub g1,g⟩
 ·rintro i hi k hk ob tk ub ⟨g1,g2,g3,g4⟩ hru
  have hb:=hbody i hi k hk ob tk ub g1 g2 g3 g4
  have:=jfi (E:=E) (Yf:=YC) (asg:=asg) (bd:=bd) (st:=st) (ps:=ps) (l:=2*st.nx+1) (u:=st.nx) (xs:=[.agg [.int .i64 i,.int .i64 k],.agg (opC (h.ts[i]).ops[k])]) (ob:=ob) (tk:=tk) (ro:=st.ro) (ub:=ub)
   (P:=fun r=>st.ro≤r.2.2.2∧r.1=.bool true∧J i (k+1) r.2.1 r.2.2.1 r.2.2.2∧r.2.1 (2*st.nx+1)=some ⟨st.nx,.loop .ready none⟩∧r.2.1 (2*st.nx+3)=some ⟨st.nx+1,.dfr⟩∧st.nx+64≤r.2.2.2)
   (by simp[hps]) zO g2 has hbd (by
    rw[hro]
    refine Jz (fun e s1 h1=>?_) hb
    obtain⟨e1,e2,e3⟩:=h1
    refine⟨e1,e2,Jz (fun e s2 h2=>?_) e3⟩
    obtain⟨k1,k2,k3,k4,k5⟩:=h2
    subst k4
    refine⟨k1,zO,rfl,?_,?_,?_,k3⟩
    ·exact hJf _ _ _ _ _ _ _ k5 (Nat.le_refl _) (fun key hk=>J9 _ _ (hk st.nx (Nat.le_refl _)))
    ·exact Yg _ _ _
    ·show upd s2.ob _ _ _=_
     rw[J9 _ _ n13];exact k2)
  obtain⟨r,hr,p1,p2,p3,p4,p5,p6⟩:=this
  exact⟨r,hr,p1,.inl ⟨p2,p3,p4,p5,p6⟩⟩
 ·rintro ob tk ub ⟨g1,g2,g3,g4⟩
  refine⟨.ready,none,g2,zS,zO,?_⟩
  have hob:Fr1 st.nx ob (fun k=>if Nat.beq (2*st.nx+1) k then none else ob k):=fun key hk=>j0f ob (hk st.nx (Nat.le_refl _))
  exact hQ _ _ _ (hJf _ _ _ _ _ _ _ g1 (Nat.le_refl _) hob) ((j0f ob n13).trans g3) g4
 ·refine⟨hJf _ _ _ _ _ _ _ h0 (Nat.le_refl _) (fun key hk=>?_),Yg _ _ _,?_,zO⟩
  ·have h3:=hk (st.nx+1) zO
   rw[J9 _ _ (hk st.nx (Nat.le_refl _)),J9 _ _ zO]
  ·rw[J9 _ _ n13,Yg]
@[simp] theorem cells_map (l u:Nat):(V.map l u).cells=[.map l u]:=rfl
@[simp] theorem leaf_map (l u:Nat):(V.map l u).leaf=true:=rfl
@[simp] theorem j0d:V.nilmap.cells=[.nilmap]:=rfl
@[simp] theorem j2k:V.nilmap.leaf=true:=rfl
def XR (h:Hist'):Bool:=jvf h.ss && (jvf h.ks && (decide (h.ss.length≤20) && (decide (h.ks.length≤40) && decide (h.ts.length≤40))))
structure Small (h:Hist'):Prop where
 ss:h.ss.length≤1000
 sl:∀s∈h.ss,s.length≤1000
 ks:h.ks.length≤1000
 kl:∀s∈h.ks,s.length≤1000
 ts:h.ts.length≤1000
 os:∀t∈h.ts,t.ops.length≤1000
theorem ev152 {h:Hist'}(hs:Small h):Ev E 152 [.agg (j2 h)] (.bool (XR h)):=by
 refine jU (af:=F152) rfl ?_
 have e1:=ev212 h.sn h.ss (by have:=hs.ss;omega) (fun s h=>by have:=hs.sl s h;omega)
 have e2:=ev212 h.kn h.ks (by have:=hs.ks;omega) (fun s h=>by have:=hs.kl s h;omega)
 simp[F152,j2,j1]
 refine jV e1 zS rfl rfl ?_
 unfold XR
 cases b1:jvf h.ss
 ·simp
  exact j4 rfl zS rfl
 simp[j1]
 refine jV e2 zS rfl rfl ?_
 cases b2:jvf h.ks
 ·simp
  exact j4 rfl zS rfl
 by_cases b3:(h.ss.length:Int)≤20
 ·by_cases b4:(h.ks.length:Int)≤40
  ·simp[j1,b3,b4]
   exact j4 rfl (by simp[show h.ss.length≤20 by omega,show h.ks.length≤40 by omega];omega) rfl
  ·simp[j1,b3,b4]
   exact j4 rfl (by simp;omega) rfl
 ·simp[j1,b3]
  exact j4 rfl (by simp;omega) rfl
def usesS (h:Hist'):List Int:=h.ts.map (·.s)
def usesK (h:Hist'):List Int:=(jab h).map (·.key)
def jks (h:Hist'):Bool:=decide ((dd (usesS h)).length=h.ss.length) && decide ((dd (usesK h)).length=h.ks.length)
def jeg (h:Hist') (i k:Nat):List Op':=(h.ts.take i).flatMap (·.ops)++(h.ts.getD i ⟨0,0,true,[]⟩).ops.take k
theorem jpf {h:Hist'}{i k:Nat}(hi:i<h.ts.length) (hk:k<(h.ts[i]).ops.length):jeg h i (k+1)=jeg h i k++[(h.ts[i]).ops[k]]:=by
 unfold jeg
 rw[JQ hi,List.take_succ_eq_append_getElem hk,List.append_assoc]
theorem jpg {h:Hist'}{i:Nat}(hi:i<h.ts.length):jeg h i (h.ts[i]).ops.length=jeg h (i+1) 0:=by
 unfold jeg
 rw[JQ hi,List.take_length,List.take_zero,List.append_nil,List.take_succ_eq_append_getElem hi,List.flatMap_append]
 simp
theorem jsf (h:Hist'):jeg h h.ts.length 0=jab h:=by simp[jeg,jab]
theorem jpe (h:Hist'):jeg h 0 0=[]:=by simp[jeg]
theorem QI {res:List ARes}{st:St}{l u:Nat}{v:V}(hd:st.df=[(l,u)]) (ho:st.ob l=some ⟨u,.dfr⟩) (hr:st.ro≤u)
 (h:jce res (.ret,{ st with ob:=fun k=>if Nat.beq l k then none else st.ob k,df:=[] })=some v):jce res (.ret,st)=some v:=by
 have h1:j0c st=true:=by
  unfold j0c
  rw[hd]
  simp only[List.all_cons,List.all_nil,ho,Bool.and_true,List.map_cons,List.map_nil,nodup,List.any_nil,Bool.not_false,Bool.and_eq_true,Nat.beq_refl,true_and]
  exact Nat.ble_eq▸hr
 have h2:st.noDf = { st with ob:=fun k=>if Nat.beq l k then none else st.ob k,df:=[] }:=by
  unfold St.noDf
  rw[hd]
  simp
 simp only[jce,h1,h2,if_true]
 simp only[jce]at h
 rw[Wj rfl,Wb rfl]at h
 exact h
theorem ev158 {h:Hist'}(hs:Small h):Ev E 158 [.agg (j2 h)] (.bool (jks h)):=by
 refine jU (af:=F158) rfl ?_
 have hts:=hs.ts
 simp[F158,j2,j1,j6]
 refine jE [(6,6),(15,23),(14,14)] h.ts.length (fun i s=>s.tm 14=.int .i64 i∧s.ob 2=some ⟨0,.cells (j2 h)⟩∧s.ob 8=some ⟨256,.cells [.map 20 192]⟩∧s.ob 20=some ⟨192,.mp 0 []⟩ ∧
  ∃ver m,s.ob 18=some ⟨128,.mp ver (MP jbl m)⟩∧m.map (·.1)=dd ((h.ts.take i).map (·.s))) rfl rfl ⟨zS,by simp[j2],zS,zS,0,[],by simp[MP],by simp[dd]⟩ ?_
 rintro i s hi ⟨h14,o2,o8,o20,ver,m,o18,hm⟩ f
 have f12:s.tm 12=jN h.tn jl h.ts:=by rw[f.t 12 zS];simp
 have f13:s.tm 13=.int .i64 h.ts.length:=by rw[f.t 13 zS];simp
 have f1:s.tm 1=.ptr 2 0 0:=by rw[f.t 1 zS];simp
 have f3:s.tm 3=.map 18 128:=by rw[f.t 3 zS];simp
 have f4:s.tm 4=.ptr 8 256 0:=by rw[f.t 4 zS];simp
 have fd:s.df=[]:=by rw[f.d];simp
 have fb:s.fb=0:=by rw[f.b];simp
 have fr:s.ro=0:=by rw[f.r];simp
 clear f
 by_cases hlt:i<h.ts.length
 ·have hw:=J0 hlt zO
  simp[h14,f12,f13,hlt,j7 jA,jk jA,jl,j1,fb,fr,j6,f3,QS m,jR,o18]
  refine jeq (f:=jbl) (a:=IntKind.i64.wrap (XE m h.ts[i].s+1)) (ver:=ver) (l:=18) (u:=128) (k:=h.ts[i].s) m zS zS (by simp[jbl]) (by simp[o18]) (by simp[fr]) ?_
  simp[h14,hw,o2,o8,o20,j2]
  refine⟨hlt,ver+1,YR m h.ts[i].s (IntKind.i64.wrap (XE m h.ts[i].s+1)),zS,?_⟩
  rw[jjg,hm,← List.map_take,List.take_succ_eq_append_getElem hlt,List.map_append]
  exact(juw _ _).symm
 ·have:i=h.ts.length:=by omega
  subst this
  rw[List.take_length]at hm
  simp[h14,f13]
  simp[f1,o2,j1,j2]
  refine ja7 (vs:=[.agg (j2 h)]) (by simp[j2]) rfl ?_
  obtain⟨r,hr,e1,e2,e3,e4⟩:=j3v (Yf:=YC) h s.ob s.tk 0 (26*1024) (s.nx+64+64)
  refine⟨r,by simpa[fr,fb] using hr,?_⟩
  simp
  refine JS fun st hst=>?_
  have n2:¬ (2:Nat)=2*(s.nx+64+64)+1:=by omega
  have n8:¬ (8:Nat)=2*(s.nx+64+64)+1:=by omega
  have n18:¬ (18:Nat)=2*(s.nx+64+64)+1:=by omega
  have n20:¬ (20:Nat)=2*(s.nx+64+64)+1:=by omega
  have g25:st.tm 25=.fn (.func 215) [] [.ptr (2*(s.nx+64+64)+1) (s.nx+64+64) 0]:=by rw[hst];simp[put,e1]
  have g1:st.tm 1=.ptr 2 0 0:=by rw[hst];simp[put,j5,f1]
  have g3:st.tm 3=.map 18 128:=by rw[hst];simp[put,j5,f3]
  have g4:st.tm 4=.ptr 8 256 0:=by rw[hst];simp[put,j5,f4]
  have gd:st.df=[]:=by rw[hst];simp[fd]
  have gb:st.fb=0:=by rw[hst];simp[fb]
  have gr:st.ro=0:=by rw[hst];simp[fr]
  have gn:st.nx=s.nx+64+64+256:=by rw[hst];simp[e4]
  have p2:st.ob 2=some ⟨0,.cells (j2 h)⟩:=by rw[hst];simp only[JD];rw[e2,if_neg n2];exact o2
  have p8:st.ob 8=some ⟨256,.cells [.map 20 192]⟩:=by rw[hst];simp only[JD];rw[e2,if_neg n8];exact o8
  have p18:st.ob 18=some ⟨128,.mp ver (MP jbl m)⟩:=by rw[hst];simp only[JD];rw[e2,if_neg n18];exact o18
  have p20:st.ob 20=some ⟨192,.mp 0 []⟩:=by rw[hst];simp only[JD];rw[e2,if_neg n20];exact o20
  have pl:st.ob (2*(s.nx+64+64)+1)=some ⟨s.nx+64+64,.cells (j2 h)⟩:=by rw[hst];simp only[JD];rw[e2,if_pos rfl]
  clear hst e1 e2 e3 e4 hr
  refine jga h hts (fun t ht=>by have:=hs.os t ht;omega) rfl rfl rfl (by simpa using g25) pl zO zO gr
   (fun i k ob tk ub=>ob 2=some ⟨0,.cells (j2 h)⟩∧ob 8=some ⟨256,.cells [.map 20 192]⟩∧ob 18=some ⟨128,.mp ver (MP jbl m)⟩∧∃ver' m',ob 20=some ⟨192,.mp ver' (MP jbl m')⟩∧m'.map (·.1)=dd ((jeg h i k).map (·.key)))
   ?_ ?_ ?_ ?_ ?_
  ·rintro i k ob ob' tk ub ub' ⟨q2,q8,q18,v',m',q20,hk⟩ hub hfr
   exact⟨(hfr 2 (fun m _=>by omega)).trans q2,(hfr 8 (fun m _=>by omega)).trans q8,(hfr 18 (fun m _=>by omega)).trans q18,v',m',(hfr 20 (fun m _=>by omega)).trans q20,hk⟩
  ·rintro i hi ob tk ub ⟨q2,q8,q18,v',m',q20,hk⟩
   exact⟨q2,q8,q18,v',m',q20,by rw[hk,jpg hi]⟩
  ·rintro i hi k hk ob tk ub ⟨q2,q8,q18,v',m',q20,hkeys⟩ w1 w3 hub
   have r1:¬ 2*st.nx+1=16:=by omega
   have r3:¬ 2*st.nx+3=16:=by omega
   have r31:¬ 2*st.nx+3=2*st.nx+1:=by omega
   have r120:¬ 2*st.nx+1=20:=by omega
   have r320:¬ 2*st.nx+3=20:=by omega
   have b16:¬ 16=2*st.nx+1:=by omega
   have b8:¬ 8=2*st.nx+1:=by omega
   have b20:¬ 20=2*st.nx+1:=by omega
   have b2:¬ 2=2*st.nx+1:=by omega
   have b18:¬ 18=2*st.nx+1:=by omega
   simp[jdx,j5,opC,j1,gb,j6,g4,r1,w1,b16,b8,q8,QS m',jR,b20,q20]
   obtain⟨o,ho⟩:∃o,(h.ts[i]).ops[k]=o:=⟨_,rfl⟩
   rw[ho]
   refine jeq (f:=jbl) (a:=IntKind.i64.wrap (XE m' o.key+1)) (ver:=v') (l:=20) (u:=192) (k:=o.key) m' zS zS (by simp[jbl]) (by simp[j5,b20,q20]) zS ?_
   simp[j5,r120,r320,r3,b2,b8,b18,q2,q8,q18,w3]
   refine⟨zO,v'+1,YR m' o.key (IntKind.i64.wrap (XE m' o.key+1)),zS,?_⟩
   rw[jjg,hkeys,jpf hi hk,List.map_append,ho]
   exact(juw _ _).symm
  ·exact⟨p2,p8,p18,0,[],p20,by rw[jpe];rfl⟩
  ·rintro ob tk ub ⟨q2,q8,q18,v',m',q20,hkeys⟩ w3 hub
   rw[jsf]at hkeys
   have l1:m.length=(dd (usesS h)).length:=by rw[← List.length_map (f:=(·.1)),hm];rfl
   have l2:m'.length=(dd (usesK h)).length:=by rw[← List.length_map (f:=(·.1)),hkeys];rfl
   simp[g3,g1,jR,q18,q2,j1,j2,l1]
   unfold jks
   by_cases c1:(dd (usesS h)).length=h.ss.length
   ·simp[c1,g4,g1,q8,q2,jR,q20,j1,j2,l2]
    refine QI (l:=2*st.nx+3) (u:=st.nx+1) (by simp[gd]) (by simp[w3]) (by simp[gr]) (j4 rfl ?_ rfl)
    simp
    rw[Bool.eq_iff_iff];simp;omega
   ·have c1':(((dd (usesS h)).length:Int) == (h.ss.length:Int))=false:=by simp;omega
    simp[c1']
    refine QI (l:=2*st.nx+3) (u:=st.nx+1) (by simp[gd]) (by simp[w3]) (by simp[gr]) (j4 rfl ?_ rfl)
    simp[c1]
def XC (h:Hist'):Bool:=XR h && (h.ts.all (jc4 h) && ((jab h).all (opB h) && jks h))
def errH (h:Hist'):Int:=if XC h then 0 else 4
theorem j4g {α:Type}(p:α→Bool) (l:List α):(l.any fun t=>!p t) = !(l.all p):=by
 induction l with
 | nil=>rfl
 | cons a l ih=>simp[ih]
theorem jqe {h:Hist'}(hs:Small h):Ev E 103 [.agg (j2 h)] (.int .i64 (errH h)):=by
 refine jU (af:=F103) rfl ?_
 have hts:=hs.ts
 have hos:∀t∈h.ts,t.ops.length≤1000000:=fun t ht=>by have:=hs.os t ht;omega
 have e107:=ev152 hs
 have e112:=ev158 hs
 obtain⟨R,hR⟩:∃R,errH h=R:=⟨_,rfl⟩
 have hR':R=if XR h && (h.ts.all (jc4 h) && ((jab h).all (opB h) && jks h)) then 0 else 4:=hR.symm
 rw[hR]
 clear hR
 simp[F103,j2,j1]
 refine jV e107 (by simp[j2]) rfl (by simp[j2]) ?_
 cases b1:XR h
 ·rw[b1]at hR'
  simp at hR'
  subst hR'
  simp[j1,j6]
  exact JP rfl (l:=[.int .i64 4]) (by simp[jw,j1]) rfl rfl
 rw[b1]at hR'
 simp[j1]
 refine J7 (vs:=[jN h.tn jl h.ts,.fn (.func 154) [] [.ptr 2 0 0]]) zS rfl rfl (ev153 (p:=fun t=>!jc4 h t) rfl (fun t tk base ub=>ev154 (h:=h) ⟨rfl,by simp[j2]⟩ t tk base ub) h.tn h.ts zO _ _ _) ?_
 rw[j4g]
 cases b2:h.ts.all (jc4 h)
 ·rw[b2]at hR'
  replace hR':R=4:=hR'
  subst hR'
  simp[j1,j6]
  exact JP rfl (l:=[.int .i64 4]) (by simp[jw,j1]) rfl rfl
 rw[b2]at hR'
 simp[j1]
 refine ja7 (vs:=[.agg (j2 h)]) (by simp[j2]) rfl ?_
 obtain⟨r,hr,e1,e2,e3,e4⟩:=j3v (Yf:=YC) h _ _ 0 _ _
 refine⟨r,hr,?_⟩
 simp
 refine JS fun st hst=>?_
 obtain⟨U,hU⟩:∃U,st.nx=U:=⟨_,rfl⟩
 obtain⟨m,hm,hmU,g15,p2,p4,pl⟩:∃m,m % 64=0∧m<U∧st.tm 15=.fn (.func 215) [] [.ptr (2*m+1) m 0]∧st.ob 2=some ⟨0,.cells (j2 h)⟩∧st.ob 4=some ⟨64,.cells [.int .i64 0]⟩∧st.ob (2*m+1)=some ⟨m,.cells (j2 h)⟩:=by
  refine⟨_,?_,?_,by rw[hst];simp only[jky,put,Yg];exact e1,?_,?_,?_⟩
  ·decide
  ·rw[← hU,hst,jg7,e4];omega
  ·rw[hst];simp only[JD];rw[e2];simp[j2]
  ·rw[hst];simp only[JD];rw[e2];simp
  ·rw[hst];simp only[JD];rw[e2];simp
 have g1:st.tm 1=.ptr 2 0 0:=by rw[hst];simp[put,j5]
 have g2:st.tm 2=.ptr 4 64 0:=by rw[hst];simp[put,j5]
 have gd:st.df=[]:=by rw[hst];simp
 have gb:st.fb=0:=by rw[hst];simp
 have gr:st.ro=0:=by rw[hst];simp
 have hU64:64≤U:=by rw[← hU,hst,jg7,e4];omega
 clear hst e1 e2 e3 e4 hr
 refine j1v h hts hos U hU hU64 g15 ⟨m,rfl,hmU⟩ g1 g2 gr gb p2 p4 pl ?_
 intro e ob tk ub c q2 q4 q3 hub hcase
 rcases hcase with⟨b3,rfl,rfl⟩|⟨b3,rfl,rfl⟩
 ·rw[b3]at hR'
  simp[g1,j1,q2,j2]
  refine jV e112 (by simp[j2]) rfl (by simp[j2]) ?_
  have n3:¬ 2*U+3=4:=by omega
  have n4:¬ 4=2*U+3:=by omega
  cases b4:jks h
  ·rw[b4]at hR'
   replace hR':R=4:=hR'
   subst hR'
   simp[j1,g2,q4,gr,j6]
   refine QI (l:=2*U+3) (u:=U+1) (by simp[gd]) (by simp[q3,n3]) zS (QY rfl (l:=[.int .i64 4]) ?_ rfl)
   simp[jw,j1,g2,n3]
  ·rw[b4]at hR'
   replace hR':R=0:=hR'
   subst hR'
   simp[j1,g2,q4,gr,j6]
   refine QI (l:=2*U+3) (u:=U+1) (by simp[gd]) (by simp[q3,n3]) zS (QY rfl (l:=[.int .i64 0]) ?_ rfl)
   simp[jw,j1,g2,n3]
 ·rw[b3]at hR'
  replace hR':R=4:=hR'
  subst hR'
  have n3:¬ 2*U+3=4:=by omega
  have n4:¬ 4=2*U+3:=by omega
  simp
  refine QI (l:=2*U+3) (u:=U+1) (by simp[gd]) (by simp[q3]) (by simp[gr]) (QY rfl (l:=[.int .i64 4]) ?_ rfl)
  simp[jw,j1,g2,n3,q4]
def marks (bs:List Bool) (ks:List Int):List Bool:=ks.foldl (fun b k=>b.set k.toNat true) bs
theorem Xx (ks:List Int):∀bs:List Bool,(marks bs ks).length=bs.length:=by
 induction ks with
 | nil=>intro bs;rfl
 | cons k ks ih=>intro bs;exact(ih _).trans List.length_set
theorem jgl (bs:List Bool) (ks:List Int) (k:Int):marks bs (ks++[k])=(marks bs ks).set k.toNat true:=by simp[marks]
theorem jti (bs:List Bool) (a b:List Int):marks bs (a++b)=marks (marks bs a) b:=by simp[marks]
theorem jf0 (bs:List Bool) (k:Nat) (h:k<bs.length):j6 (bs.map V.bool) k [.bool true]=(bs.set k true).map V.bool:=by
 unfold j6
 rw[List.map_set,List.set_eq_take_append_cons_drop,if_pos (by simpa using h)]
 simp
def Yd (h:Hist') (t:Txn'):Bool:=jc4 h t && t.ops.all (opB h)
theorem jhy {l u n:Nat}{kk:IntKind}{x:Int}(h0:0≤x) (h1:x<n):Jn 1 (.osl l u 0 n 1) (.int kk x)=some (.ptr l u x.toNat):=by
 simp[Jn,h0,h1]
theorem jih {n:Int}{l:Nat}(h1:¬ n<0) (h2:¬ (l:Int)≤n):YA n l=true:=by unfold YA;simp;omega
theorem jij {n:Int}{l:Nat}(h1:n<0):YA n l=false:=by unfold YA;simp;omega
theorem jii {n:Int}{l:Nat}(h1:(l:Int)≤n):YA n l=false:=by unfold YA;simp;omega
theorem ev111 {Yf:YF}{h:Hist'}{t:Txn'}(ht:t.ops.length≤1000000) {ob:ZO}{tk:Nat→Bool}{ro base ub l u:Nat}{bs:List Bool}(hbs:bs.length=h.ks.length) (ho:ob l=some ⟨u,.cells (bs.map V.bool)⟩) (hro:ro≤u) (hrb:ro≤ub)
 (hl:∀m,ub≤m→l≠2*m+1) :
 ∃r,EvS E Yf.y 111 [.agg (j2 h),.agg (jl t),.osl l u 0 h.ks.length 1] ob tk ro base ub r∧r.1=.bool (Yd h t)∧(Yd h t=true →
  r.2.1 l=some ⟨u,.cells ((marks bs (t.ops.map (·.key))).map V.bool)⟩∧(∀key,key≠l→(∀m,ub≤m→key≠2*m+1)→r.2.1 key=ob key)∧r.2.2.1=tk∧ub≤r.2.2.2):=by
 refine Yb (af:=S111) rfl (by decide) ?_
 show wpC E Yf S111.body _ (We S111.res _)
 have n3:¬ 2*(ub+64)=2*ub:=by omega
 have n4:¬ 2*ub=2*(ub+64):=by omega
 have fin:∀ {e:Ex}{s:St},e=.ret→s.df=[]→s.tm 6=.bool false→Yd h t=false→We S111.res (fun r=>r.1=.bool (Yd h t)∧(Yd h t=true →
  r.2.1 l=some ⟨u,.cells ((marks bs (t.ops.map (·.key))).map V.bool)⟩∧(∀key,key≠l→(∀m,ub≤m→key≠2*m+1)→r.2.1 key=ob key)∧r.2.2.1=tk∧ub≤r.2.2.2)) e s:=by
  intro e s he hd h6 hg
  subst he
  refine⟨(.bool false,s.ob,s.tk,s.nx),?_,by rw[hg],fun h=>by rw[hg]at h;cases h⟩
  simp[jof,hd,S111,jw,h6]
 generalize hP:(fun r:V × (ZO) × (Nat→Bool) × Nat=>r.1=.bool (Yd h t)∧(Yd h t=true →
  r.2.1 l=some ⟨u,.cells ((marks bs (t.ops.map (·.key))).map V.bool)⟩∧(∀key,key≠l→(∀m,ub≤m→key≠2*m+1)→r.2.1 key=ob key)∧r.2.2.1=tk∧ub≤r.2.2.2))=P at fin ⊢
 have gf:∀ {b:Bool},jc4 h t=b→b=false→Yd h t=false:=fun h1 h2=>by unfold Yd;rw[h1,h2];rfl
 simp[S111,j2,jl,j1]
 by_cases s1:t.s<0
 ·simp[s1]
  exact fin rfl zS zS (gf (b:=false) (by unfold jc4;rw[jij s1];rfl) rfl)
 by_cases s2:(h.ss.length:Int)≤t.s
 ·simp[s1,s2,j1,n4]
  exact fin rfl zS zS (gf (b:=false) (by unfold jc4;rw[jii s2];rfl) rfl)
 by_cases f1:t.f<1
 ·simp[s1,s2,f1,j1,n4]
  exact fin rfl zS zS (gf (b:=false) (by unfold jc4;simp;omega) rfl)
 by_cases f2:3<t.f
 ·simp[s1,s2,f1,f2,j1,n4]
  exact fin rfl zS zS (gf (b:=false) (by unfold jc4;simp;omega) rfl)
 by_cases l1:20<(t.ops.length:Int)
 ·simp[s1,s2,f1,f2,l1,j1,n4]
  exact fin rfl zS zS (gf (b:=false) (by unfold jc4;simp;omega) rfl)
 have htx:jc4 h t=true:=by unfold jc4;rw[jih s1 s2];simp;omega
 simp[s1,s2,f1,f2,l1,j1,n4]
 refine jE [(6,8),(36,78)] t.ops.length (fun i s=>s.tm 7=.int .i64 i∧s.ob (2*ub+1)=some ⟨ub,.cells (j2 h)⟩∧s.ob (2*(ub+64)+1)=some ⟨ub+64,.cells (jl t)⟩ ∧
  s.ob l=some ⟨u,.cells ((marks bs ((t.ops.take i).map (·.key))).map V.bool)⟩∧(∀key,key≠l→(∀m,ub≤m→key≠2*m+1)→s.ob key=ob key)∧s.tk=tk∧ub+128≤s.nx∧(t.ops.take i).all (opB h)=true) rfl rfl ?_ ?_
 ·refine⟨zS,by simp[n4,j2],by simp[jl],?_,?_,?_,?_,zS⟩
  ·have e1:=hl ub zO
   have e2:=hl (ub+64) zO
   simp[e1,e2,ho,marks]
  ·intro key _ hm
   have e1:=hm ub zO
   have e2:=hm (ub+64) zO
   simp[e1,e2]
  ·simp[JG]
  ·simp
 ·rintro i s hi ⟨h7,oa,ob',ol,hfr,htk,hnx,hall⟩ f
  have f2:s.tm 2=.osl l u 0 h.ks.length 1:=by rw[f.t 2 zS];simp
  have f3:s.tm 3=.ptr (2*ub+1) ub 0:=by rw[f.t 3 zS];simp
  have f4:s.tm 4=.ptr (2*(ub+64)+1) (ub+64) 0:=by rw[f.t 4 zS];simp
  have fd:s.df=[]:=by rw[f.d];simp
  have fr:s.ro=ro:=by rw[f.r];simp
  clear f
  by_cases hlt:i<t.ops.length
  ·have hw:=J0 hlt zO
   have x1:¬ 2*ub=2*(s.nx+64+64+64+64+64+64+64+64+64+64):=by omega
   have x2:¬ 2*(ub+64)=2*(s.nx+64+64+64+64+64+64+64+64+64+64):=by omega
   have x3:¬ l=2*(s.nx+64+64+64+64+64+64+64+64+64+64)+1:=hl _ zO
   have x3':¬ 2*(s.nx+64+64+64+64+64+64+64+64+64+64)+1=l:=fun e=>x3 e.symm
   have x4:¬ 2*ub+1=l:=fun e=>hl ub zO e.symm
   have x5:¬ 2*(ub+64)+1=l:=fun e=>hl (ub+64) zO e.symm
   have x6:ro≤s.nx+64+64+64+64+64+64+64+64+64+64:=by omega
   obtain⟨o,hoo⟩:∃o,t.ops[i]=o:=⟨_,rfl⟩
   have hl4:=jk jK s.ob t.ops hlt
   have bad:opB h o=false→Yd h t=false:=fun hb=>by
    unfold Yd
    rw[jmi hlt (by rw[hoo];exact hb),Bool.and_false]
   simp[h7,f4,ob',j1,jl,hlt,j7 jK,jk jK,hoo,opC,j6,fr,x6]
   by_cases k1:o.key<0
   ·simp[k1]
    exact fin rfl (by simp[fd]) zS (bad (by unfold opB;rw[jij k1];rfl))
   by_cases k2:(h.ks.length:Int)≤o.key
   ·simp[k1,k2,f3,oa,j1,x1,j2]
    exact fin rfl (by simp[fd]) zS (bad (by unfold opB;rw[jii k2];rfl))
   have hwi:=jih k1 k2
   simp[k1,k2,f3,oa,j1,x1,j2]
   refine jV (ev174 o.v) (by simp[JH]) rfl (by simp[JH]) ?_
   cases k3:jim o.v
   ·simp
    exact fin rfl (by simp[fd]) zS (bad (by unfold opB;rw[hwi,k3];rfl))
   have hk0:0≤o.key:=by omega
   have hk1:o.key<(h.ks.length:Int):=by omega
   have hio:=jhy (l:=l) (u:=u) (n:=h.ks.length) (kk:=.i64) hk0 hk1
   have hsp:=jf0 (marks bs ((t.ops.take i).map (·.key))) o.key.toNat (by rw[Xx,hbs];omega)
   have hml:(marks bs ((t.ops.take i).map (·.key))).length=h.ks.length:=by rw[Xx,hbs]
   have hnext:marks bs ((t.ops.take (i+1)).map (·.key))=(marks bs ((t.ops.take i).map (·.key))).set o.key.toNat true:=by
    rw[List.take_succ_eq_append_getElem hlt,List.map_append,hoo]
    exact jgl _ _ _
   have hlen:o.key.toNat+1≤h.ks.length:=by omega
   have hall':opB h o=true→(t.ops.take (i+1)).all (opB h)=true:=fun hb=>by
    rw[List.take_succ_eq_append_getElem hlt,List.all_append,hall,hoo]
    simp[hb]
   generalize marks bs ((t.ops.take i).map (·.key))=mk at *
   cases k4:o.w
   ·have hgo:opB h o=true:=by unfold opB;rw[hwi,k3,k4];rfl
    simp[j1,x1,x2,x3,f2,hio,ol,hro,hml,hlen,hsp,fr,h7,hw]
    refine⟨hlt,?_,?_,?_,?_,htk,?_,?_⟩
    ·rw[if_neg x4,oa];rfl
    ·rw[if_neg x5,ob'];rfl
    ·rw[← List.map_take,hnext,List.map_set]
    ·intro key h1 h2
     rw[if_neg h1,if_neg (h2 _ zO),if_neg (h2 _ zO)]
     exact hfr key h1 h2
    ·omega
    ·have:=hall' hgo
     rw[List.all_eq_true]at this
     exact this
   ·cases k5:(o.v.kind == 1)
    ·have k5':(o.v.kind != 1)=true:=by simpa using k5
     simp[j1,k5']
     exact fin rfl (by simp[fd]) zS (bad (by unfold opB;rw[hwi,k3,k4,k5];rfl))
    ·have k5':(o.v.kind != 1)=false:=by simpa using k5
     have hgo:opB h o=true:=by unfold opB;rw[hwi,k3,k4,k5];rfl
     simp[j1,x1,x2,x3,f2,hio,ol,hro,hml,hlen,hsp,fr,h7,hw,k5']
     refine⟨hlt,?_,?_,?_,?_,htk,?_,?_⟩
     ·rw[if_neg x4,oa];rfl
     ·rw[if_neg x5,ob'];rfl
     ·rw[← List.map_take,hnext,List.map_set]
     ·intro key h1 h2
      rw[if_neg h1,if_neg (h2 _ zO),if_neg (h2 _ zO)]
      exact hfr key h1 h2
     ·omega
     ·have:=hall' hgo
      rw[List.all_eq_true]at this
      exact this
  ·have:i=t.ops.length:=by omega
   subst this
   rw[List.take_length]at hall ol
   have hg:Yd h t=true:=by unfold Yd;rw[htx,hall];rfl
   simp[h7,f4,ob',j1,jl]
   refine⟨(.bool true,s.ob,s.tk,s.nx+64+64+64+64+64+64),?_,?_⟩
   ·simp[jof,jw,fd]
   ·rw[← hP]
    exact⟨by rw[hg],fun _=>⟨ol,hfr,htk,by show ub≤_;simp;omega⟩⟩
theorem jlv {E:Env}{st:St}{ub:Nat}{K:List FP→St→Prop}{d:Option Nat}{nm:Bool}{r:List AOpr}{sz bytes n:Nat}{zero:List V}{x y:A}(hl:eval E st.tm x=.int .i64 (n:Int)) (hc:eval E st.tm y=.int .i64 (n:Int)) (hb:n*bytes≤140737488355328) (hn:n≤140737488355328) (hz:zero.length=sz) (h0:0<sz)
 (h:YS E r K (eval E st.tm) (.mkSl true sz bytes zero x y) st d ub { v:=.osl (jL d nm st.fb ub) ub 0 n sz,obs:=[(jL d nm st.fb ub,⟨ub,.cells (jcp n zero)⟩)] }):jF E (⟨d,.mkSl true sz bytes zero x y,none,nm⟩::r) st ub K:=by
 rw[jt rfl]
 simp only[aop,hl,hc]
 rw[if_pos (by refine⟨zO,zO,?_,zO,hz,h0⟩;rw[← Int.natCast_mul];exact Int.ofNat_le.2 hb)]
 simp only[Bool.not_true,Bool.false_eq_true,false_and,if_false,Jh,jM,Jq,Int.toNat_natCast]
 exact h
theorem jf7 (n:Nat):jcp n [.bool false]=(List.replicate n false).map V.bool:=by
 unfold jcp
 apply List.ext_getElem
 ·simp
 ·intro i h1 h2
  simp[List.getD,Nat.mod_one]
theorem jjm (ks:List Int):∀ (bs:List Bool) (j:Nat) (hj:j<bs.length),(∀k∈ks,0≤k)→(marks bs ks)[j]? = some (bs[j] || ks.any fun k=>k == (j:Int)):=by
 induction ks with
 | nil=>intro bs j hj _;simp[marks,hj]
 | cons k ks ih=>
  intro bs j hj h
  have hk:=h k zS
  have:=ih (bs.set k.toNat true) j (by simpa using hj) (fun x hx=>h x (by simp[hx]))
  show(marks (bs.set k.toNat true) ks)[j]? = _
  rw[this,List.getElem_set,List.any_cons]
  by_cases hkj:k.toNat=j
  ·have:k=(j:Int):=by omega
   simp[this]
  ·have:¬ k=(j:Int):=by omega
   have e:(k == (j:Int))=false:=by simpa using this
   rw[if_neg hkj,e,Bool.false_or]
theorem jjn {ks:List Int}{n:Nat}(h:∀k∈ks,0≤k∧k<n):(marks (List.replicate n false) ks).all id=decide ((dd ks).length=n):=by
 have hp:=(jzr n (dd ks) (jw7 ks) (fun x hx=>h x (mem_dd.1 hx))).2
 rw[Bool.eq_iff_iff,List.all_eq_true,decide_eq_true_eq,hp]
 constructor
 ·intro hall k hk
  have hl:k<(marks (List.replicate n false) ks).length:=by rw[Xx];simpa using hk
  have:=hall _ (List.getElem_mem hl)
  have hg:=jjm ks (List.replicate n false) k (by simpa using hk) (fun x hx=>(h x hx).1)
  rw[List.getElem?_eq_getElem hl,Option.some.injEq]at hg
  rw[hg]at this
  simp at this
  exact mem_dd.2 this
 ·intro hall x hx
  obtain⟨j,hj,rfl⟩:=List.getElem_of_mem hx
  have hjn:j<n:=by rw[Xx]at hj;simpa using hj
  have hg:=jjm ks (List.replicate n false) j (by simpa using hjn) (fun x hx=>(h x hx).1)
  rw[List.getElem?_eq_getElem hj,Option.some.injEq]at hg
  rw[hg]
  have:=mem_dd.1 (hall j hjn)
  simp
  exact this
theorem jj0 (h:Hist'):h.ts.all (Yd h)=(h.ts.all (jc4 h) && (jab h).all (opB h)):=by
 unfold jab
 induction h.ts with
 | nil=>rfl
 | cons t l ih=>
  simp only[List.all_cons,List.flatMap_cons,List.all_append,ih,Yd]
  cases jc4 h t <;> cases t.ops.all (opB h) <;> cases l.all (jc4 h) <;> simp
theorem within_iff {n:Int}{l:Nat}:YA n l=true ↔ 0≤n∧n<l:=by unfold YA;simp
theorem jxf {h:Hist'}(hd:XR h=true) (hg:h.ts.all (Yd h)=true):XC h=((marks (List.replicate h.ks.length false) (usesK h)).all id && (marks (List.replicate h.ss.length false) (usesS h)).all id):=by
 rw[jj0,Bool.and_eq_true]at hg
 have hS:∀k∈usesS h,0≤k∧k<h.ss.length:=by
  intro k hk
  obtain⟨t,ht,rfl⟩:=List.mem_map.1 hk
  have:=List.all_eq_true.1 hg.1 t ht
  unfold jc4 at this
  rw[Bool.and_eq_true]at this
  exact within_iff.1 this.1
 have hK:∀k∈usesK h,0≤k∧k<h.ks.length:=by
  intro k hk
  obtain⟨t,ht,rfl⟩:=List.mem_map.1 hk
  have:=List.all_eq_true.1 hg.2 t ht
  unfold opB at this
  rw[Bool.and_eq_true]at this
  exact within_iff.1 this.1
 rw[jjn hS,jjn hK]
 unfold XC jks
 rw[hd,hg.1,hg.2]
 simp only[Bool.true_and]
 rw[Bool.and_comm]
theorem j3x {h:Hist'}(hd:XR h=false):errH h=4:=by unfold errH XC;rw[hd];rfl
theorem j3w {h:Hist'}(hg:h.ts.all (Yd h)=false):errH h=4:=by
 unfold errH XC
 rw[jj0]at hg
 rw[← Bool.and_assoc (h.ts.all (jc4 h)),hg]
 simp
def jfj (l:List Bool):Bool:=l.all id
theorem jok:jfj []=true:=rfl
theorem jkf {l:List Bool}{j:Nat}(h:j<l.length):jfj (l.take (j+1))=(jfj (l.take j) && l[j]):=by
 unfold jfj;rw[List.take_succ_eq_append_getElem h,List.all_append];simp
theorem ev58 {h:Hist'}(hs:Small h):Ev E 58 [.agg (j2 h)] (.int .i64 (errH h)):=by
 refine jU (af:=F58) rfl ?_
 have hts:=hs.ts
 have hks:=hs.ks
 have hss:=hs.ss
 have e1:=ev110 h.sn h.ss zO (fun s hx=>by have:=hs.sl s hx;omega)
 have e2:=ev110 h.kn h.ks zO (fun s hx=>by have:=hs.kl s hx;omega)
 obtain⟨R,hR⟩:∃R,errH h=R:=⟨_,rfl⟩
 have bad:XR h=false→R=4:=fun hd=>hR▸j3x hd
 have bad2:h.ts.all (Yd h)=false→R=4:=fun hd=>hR▸j3w hd
 rw[hR]
 simp[F58,j2,j1]
 refine jV e1 zS rfl rfl ?_
 cases b1:jvf h.ss
 ·rw[bad (by unfold XR;rw[b1];rfl)]
  simp
  exact j4 rfl zS rfl
 simp[j1]
 refine jV e2 zS rfl rfl ?_
 cases b2:jvf h.ks
 ·rw[bad (by unfold XR;rw[b1,b2];rfl)]
  simp
  exact j4 rfl zS rfl
 by_cases c1:20<(h.ss.length:Int)
 ·rw[bad (by unfold XR;simp;omega)]
  simp[j1,c1]
  exact j4 rfl zS rfl
 by_cases c2:40<(h.ks.length:Int)
 ·rw[bad (by unfold XR;simp;omega)]
  simp[j1,c1,c2]
  exact j4 rfl zS rfl
 by_cases c3:40<(h.ts.length:Int)
 ·rw[bad (by unfold XR;simp;omega)]
  simp[j1,c1,c2,c3]
  exact j4 rfl zS rfl
 have hd:XR h=true:=by unfold XR;rw[b1,b2];simp;omega
 simp[j1,c1,c2,c3]
 refine jlv (n:=h.ks.length) zS zS zO zO rfl (by decide) ?_
 simp[j1]
 refine jlv (n:=h.ss.length) zS zS zO zO rfl (by decide) ?_
 simp[jf7]
 refine⟨by simp[Jo,QC,jc5,jbe,rdOb,rdTk,lOf,Delta.wo,Delta.wt];decide,?_⟩
 refine JS fun st hst=>?_
 have g1:st.tm 1=.ptr 1 0 0:=by rw[hst];simp
 have g3:st.tm 3=.osl 4225 2112 0 h.ks.length 1:=by rw[hst];simp
 have g4:st.tm 4=.osl 4737 2368 0 h.ss.length 1:=by rw[hst];simp
 have g5:st.tm 5=.int .i64 0:=by rw[hst];simp
 have p1:st.ob 1=some ⟨0,.cells (j2 h)⟩:=by rw[hst];simp[j2]
 have pk:st.ob 4225=some ⟨2112,.cells ((List.replicate h.ks.length false).map V.bool)⟩:=by rw[hst];simp
 have ps:st.ob 4737=some ⟨2368,.cells ((List.replicate h.ss.length false).map V.bool)⟩:=by rw[hst];simp
 have gd:st.df=[]:=by rw[hst];simp
 have gb:st.fb=0:=by rw[hst];simp
 have gr:st.ro=0:=by rw[hst];simp
 have gn:2400≤st.nx:=by rw[hst];simp
 clear hst
 generalize hB:List.replicate h.ks.length false=B at *
 generalize hC:List.replicate h.ss.length false=D at *
 have hBl:B.length=h.ks.length:=by rw[← hB];simp
 have hDl:D.length=h.ss.length:=by rw[← hC];simp
 refine jE [(2,2),(5,5),(45,68)] h.ts.length (fun i s=>s.tm 5=.int .i64 i∧s.ob 1=some ⟨0,.cells (j2 h)⟩∧s.ob 4225=some ⟨2112,.cells ((marks B ((h.ts.take i).flatMap fun t=>t.ops.map (·.key))).map V.bool)⟩ ∧
  s.ob 4737=some ⟨2368,.cells ((marks D ((h.ts.take i).map (·.s))).map V.bool)⟩∧2400≤s.nx∧(h.ts.take i).all (Yd h)=true) rfl rfl ⟨by simp[g5],p1,by simp[pk,marks],by simp[ps,marks],gn,zS⟩ ?_
 rintro i s hi ⟨h5,o1,ok,os,hnx,hall⟩ f
 have f1:s.tm 1=.ptr 1 0 0:=by rw[f.t 1 zS,g1]
 have f3:s.tm 3=.osl 4225 2112 0 h.ks.length 1:=by rw[f.t 3 zS,g3]
 have f4:s.tm 4=.osl 4737 2368 0 h.ss.length 1:=by rw[f.t 4 zS,g4]
 have fd:s.df=[]:=by rw[f.d,gd]
 have fb:s.fb=0:=by rw[f.b,gb]
 have fr:s.ro=0:=by rw[f.r,gr]
 clear f
 by_cases hlt:i<h.ts.length
 ·have hw:=J0 hlt zO
  obtain⟨t,ht⟩:∃t,h.ts[i]=t:=⟨_,rfl⟩
  have htm:t∈h.ts:=ht▸List.getElem_mem hlt
  have hos:=hs.os t htm
  have hl3:=jk jA s.ob h.ts hlt
  rw[ht]at hl3
  simp[h5,f1,o1,j1,j2,hlt,j7 jA,jk jA,ht,f3]
  refine ja7 (vs:=[.agg (j2 h),.agg (jl t),.osl 4225 2112 0 h.ks.length 1]) (by simp[j2]) rfl ?_
  simp[fr,fb]
  have hml:(marks B ((h.ts.take i).flatMap fun t=>t.ops.map (·.key))).length=h.ks.length:=by rw[Xx,hBl]
  have hmd:(marks D ((h.ts.take i).map (·.s))).length=h.ss.length:=by rw[Xx,hDl]
  obtain⟨⟨v,ob',tk',ub'⟩,hr,hv,hg⟩:=ev111 (Yf:=YC) (h:=h) (t:=t) zO (ob:=s.ob) (tk:=s.tk) (ro:=0) (base:=61440) (ub:=s.nx+64+64+64+64+64+64+64+64+64+64+64+64) (l:=4225) (u:=2112) hml ok zO zO (fun m hm=>by omega)
  refine⟨v,ob',tk',ub',hr,?_⟩
  simp only at hv hg
  subst hv
  cases hgt:Yd h t
  ·rw[bad2 (jmi hlt (by rw[ht];exact hgt))]
   simp[put]
   exact j4 (by simp[fd]) zS rfl
  ·obtain⟨q1,q2,q3,q4⟩:=hg hgt
   have q1':=(q2 1 (by decide) (fun m hm=>by omega)).trans o1
   have qs:=(q2 4737 (by decide) (fun m hm=>by omega)).trans os
   have htx:jc4 h t=true:=by unfold Yd at hgt;rw[Bool.and_eq_true]at hgt;exact hgt.1
   have hwi:0≤t.s∧t.s<h.ss.length:=by unfold jc4 at htx;rw[Bool.and_eq_true]at htx;exact within_iff.1 htx.1
   have hio:=jhy (l:=4737) (u:=2368) (n:=h.ss.length) (kk:=.i64) hwi.1 hwi.2
   have hsp:=jf0 (marks D ((h.ts.take i).map (·.s))) t.s.toNat (by rw[hmd];omega)
   have hfl:(h.ts.flatMap jl)[i*3]? = some (.int .i64 t.s):=by
    have:=jh jA h.ts hlt (by decide:0<3)
    rw[Nat.add_zero,ht]at this
    rw[this];rfl
   have hnk:marks B ((h.ts.take (i+1)).flatMap fun t=>t.ops.map (·.key))=marks (marks B ((h.ts.take i).flatMap fun t=>t.ops.map (·.key))) (t.ops.map (·.key)):=by
    rw[List.take_succ_eq_append_getElem hlt,List.flatMap_append,jti,ht];simp
   have hns:marks D ((h.ts.take (i+1)).map (·.s))=(marks D ((h.ts.take i).map (·.s))).set t.s.toNat true:=by
    rw[List.take_succ_eq_append_getElem hlt,List.map_append,ht];exact jgl _ _ _
   have hal:(h.ts.take (i+1)).all (Yd h)=true:=by
    rw[List.take_succ_eq_append_getElem hlt,List.all_append,hall,ht];simp[hgt]
   rw[← hnk]at q1
   have hts1:t.s.toNat+1≤h.ss.length:=by omega
   obtain⟨mk,hmk⟩:∃m,marks B ((h.ts.take (i+1)).flatMap fun t=>t.ops.map (·.key))=m:=⟨_,rfl⟩
   rw[hmk]at q1
   generalize marks D ((h.ts.take i).map (·.s))=md at *
   simp[put,j5,f1,f4,h5,q1',j1,j2,hlt,j7 jA,hfl,hio,qs,hmd,hsp,hw,q1,hts1]
   refine⟨by rw[hmk],by rw[← List.map_take,hns,List.map_set],zO,?_⟩
   rw[List.all_eq_true]at hal
   exact hal
 ·have:i=h.ts.length:=by omega
  subst this
  rw[List.take_length]at hall ok os
  have hmay:=jxf hd hall
  have hK:(h.ts.flatMap fun t=>t.ops.map (·.key))=usesK h:=by unfold usesK jab;rw[List.map_flatMap]
  have hS:h.ts.map (·.s)=usesS h:=rfl
  rw[hK]at ok
  rw[hS]at os
  rw[hB,hC]at hmay
  have hml:(marks B (usesK h)).length=h.ks.length:=by rw[Xx,hBl]
  have hmd:(marks D (usesS h)).length=h.ss.length:=by rw[Xx,hDl]
  have hR':R=if jfj (marks B (usesK h)) && jfj (marks D (usesS h)) then 0 else 4:=by rw[← hR,errH,hmay];rfl
  clear hmay hR
  generalize marks B (usesK h)=mk at *
  generalize marks D (usesS h)=md at *
  simp[h5,f1,o1,j1,j2]
  refine jE [(6,7),(69,81)] h.ks.length (fun i s'=>s'.tm 7=.int .i64 i∧s'.ob=s.ob∧s'.tm 6=.bool (jfj (mk.take i))) rfl rfl ⟨zS,zS,by simp[jok]⟩ ?_
  rintro j s1 hj ⟨k7,ko,k6⟩ f
  have m3:s1.tm 3=.osl 4225 2112 0 h.ks.length 1:=by rw[f.t 3 zS];simp[f3]
  have m4:s1.tm 4=.osl 4737 2368 0 h.ss.length 1:=by rw[f.t 4 zS];simp[f4]
  have md1:s1.df=[]:=by rw[f.d];simp[fd]
  clear f
  by_cases hjt:j<h.ks.length
  ·have hw:=J0 hjt zO
   have hjm:j<mk.length:=by omega
   have hio:=jhy (l:=4225) (u:=2112) (n:=h.ks.length) (kk:=.i64) (x:=(j:Int)) zO zO
   have hnx:jfj (mk.take (j+1))=(jfj (mk.take j) && mk[j]):=jkf hjm
   cases hb:jfj (mk.take j)
   ·rw[hb]at k6 hnx
    simp[k7,m3,hjt,k6,hw,ko]
    rw[hnx];rfl
   ·rw[hb]at k6 hnx
    simp[k7,m3,hjt,k6,hw,ko,hio,j1,ok,hjm]
    rw[hnx];rfl
  ·have:j=h.ks.length:=by omega
   subst this
   have hmt:mk.take h.ks.length=mk:=List.take_of_length_le zO
   rw[hmt]at k6
   simp[k7,m3]
   refine jE [(6,6),(8,8),(82,94)] h.ss.length (fun i s'=>s'.tm 8=.int .i64 i∧s'.ob=s.ob∧s'.tm 6=.bool (jfj mk && jfj (md.take i))) rfl rfl ⟨zS,by simp[ko],by simp[k6,jok]⟩ ?_
   rintro j s2 hj ⟨z8,zo,z6⟩ f
   have y4:s2.tm 4=.osl 4737 2368 0 h.ss.length 1:=by rw[f.t 4 zS];simp[m4]
   have yd:s2.df=[]:=by rw[f.d];simp[md1]
   clear f
   by_cases hjt:j<h.ss.length
   ·have hw:=J0 hjt zO
    have hjm:j<md.length:=by omega
    have hio:=jhy (l:=4737) (u:=2368) (n:=h.ss.length) (kk:=.i64) (x:=(j:Int)) zO zO
    have hnx:jfj (md.take (j+1))=(jfj (md.take j) && md[j]):=jkf hjm
    cases hb:(jfj mk && jfj (md.take j))
    ·have hnx':(jfj mk && jfj (md.take (j+1)))=false:=by rw[hnx,← Bool.and_assoc,hb];rfl
     rw[hb]at z6
     simp[z8,y4,hjt,z6,hw,zo]
     intro hm;rw[hm]at hnx';exact hnx'
    ·have hnx':(jfj mk && jfj (md.take (j+1)))=md[j]:=by rw[hnx,← Bool.and_assoc,hb];rfl
     rw[hb]at z6
     simp[z8,y4,hjt,z6,hw,zo,hio,j1,os,hjm]
     exact hnx'.symm
   ·have:j=h.ss.length:=by omega
    subst this
    have hmt:md.take h.ss.length=md:=List.take_of_length_le zO
    rw[hmt]at z6
    cases hb:(jfj mk && jfj md)
    ·rw[hb]at z6 hR'
     simp[z8,y4,z6]
     exact j4 (by simp[yd]) (by simp[hR']) rfl
    ·rw[hb]at z6 hR'
     simp[z8,y4,z6]
     exact j4 (by simp[yd]) (by simp[hR']) rfl
section
variable {E:Env}{Yf:YF}{st:St}{ub:Nat}{K:St→Nat→Prop}{d:Option Nat}{nm:Bool}
theorem JO {sz n:Nat}{zero:List V}{parts:List (Nat × Nat × A)}{cs:List V}(hf:fill zero (jq (eval E st.tm) parts)=some cs) (hl:cs.length=n*sz) (hp:cs.all V.leaf=true)
 (h:jaj K st d ub { v:=.osl (jL d nm st.fb ub) ub 0 n sz,obs:=[(jL d nm st.fb ub,⟨ub,.cells cs⟩)] }):j8 E Yf ⟨d,.buildSl true sz zero parts n,none,nm⟩ st ub K:=by
 rw[jT _ rfl rfl]
 simp only[aop,hf,Option.bind_some,if_true,Jq]
 rw[if_pos ⟨hl,hp⟩,Jh,jM]
 exact h
theorem Yu {sz bytes n:Nat}{cs ys:List V}{s x:A}(hs:eval E st.tm s=.sl none true n cs) (hx:jI st.ob sz (eval E st.tm x)=some ys) (hne:ys≠[]) (h0:0<sz) (hp:ys.all V.leaf=true)
 (hb:(ys.length / sz)*bytes≤140737488355328) (hb2:ys.length / sz≤140737488355328) (h:jaj K st d ub { v:=.osl (jL d nm st.fb ub) ub 0 (ys.length / sz) sz,obs:=[(jL d nm st.fb ub,⟨ub,.cells ys⟩)] }) :
 j8 E Yf ⟨d,.append true sz bytes s x,none,nm⟩ st ub K:=by
 rw[jT _ rfl rfl]
 simp only[aop,hs,hx,Option.bind_some,if_neg hne,Bool.and_self,if_true,Jq]
 rw[if_pos ⟨h0,hp,hb,hb2⟩,Jh,jM]
 exact h
theorem XN {sz bytes l u n:Nat}{cs ys:List V}{s x:A}(hs:eval E st.tm s=.osl l u 0 n sz) (hx:jI st.ob sz (eval E st.tm x)=some ys) (ho:st.ob l=some ⟨u,.cells cs⟩) (hne:ys≠[]) (hro:st.ro≤u) (hn:n*sz≤cs.length) (h0:0<sz) (hp:ys.all V.leaf=true)
 (hb:(n+ys.length / sz)*bytes≤140737488355328) (hb2:n+ys.length / sz≤140737488355328)
 (h:jaj K st d ub { v:=.osl (jL d nm st.fb ub) ub 0 (n+ys.length / sz) sz,obs:=[(jL d nm st.fb ub,⟨ub,.cells (cs.take (n*sz)++ys)⟩)],kill:=[l] }) :
 j8 E Yf ⟨d,.append true sz bytes s x,none,nm⟩ st ub K:=by
 rw[jT _ rfl rfl]
 have hoc:j1 st.ob l u=some cs:=by simp[j1,ho]
 simp only[aop,hs,hx,Option.bind_some,hoc,if_neg hne,Jq]
 rw[if_pos ⟨Nat.ble_eq▸hro,trivial,trivial,hn,h0,hp,hb,hb2⟩,jM]
 exact h
end
@[simp] theorem app_obk (st:St) (d:Option Nat) (v:V) (l k l':Nat) (o':Obj'):(st.app d { v:=v,obs:=[(l,o')],kill:=[l'] }).ob k=if k=l then some o' else if k=l' then none else st.ob k:=by
 have e:(Nat.beq k l')=decide (k=l'):=by rw[Bool.eq_iff_iff];simp
 simp only[St.app,JK,j5,List.any_cons,List.any_nil,Bool.or_false,e,decide_eq_true_eq]
theorem ju7 (st:St) (d:Option Nat) (v:V) (obs:List (Nat × Obj')) (kl:List Nat):(st.app d { v:=v,obs:=obs,kill:=kl }).tk=st.tk:=by
 funext u
 simp[jv]
theorem jte {α:Type}{m:List (Int × α)}{k:Int}{a b:α}{i:Nat}(h:jg m k=some (i,b)) (k':Int):(jg (m.set i (k,a)) k').map (·.2)=if k'=k then some a else (jg m k').map (·.2):=by
 induction m generalizing i with
 | nil=>cases h
 | cons p m ih=>
  obtain⟨q,c⟩:=p
  by_cases hk:k=q
  ·simp only[jg,hk,if_true,Option.some.injEq,Prod.mk.injEq]at h
   obtain⟨rfl,rfl⟩:=h
   subst hk
   simp only[List.set_cons_zero,jg]
   split <;> rfl
  ·simp only[jg,hk,if_false,Option.map_eq_some_iff,Prod.mk.injEq]at h
   obtain⟨⟨j,b'⟩,hj,rfl,rfl⟩:=h
   simp only[List.set_cons_succ,jg]
   by_cases hq:k'=q
   ·have:¬ q=k:=fun e=>hk e.symm
    simp[hq,this]
   ·simp only[hq,if_false,Option.map_map]
    have:=ih hj
    simpa[Function.comp_def] using this
theorem jtf {α:Type}{m:List (Int × α)}{k:Int}{a:α}(h:jg m k=none) (k':Int):(jg (m++[(k,a)]) k').map (·.2)=if k'=k then some a else (jg m k').map (·.2):=by
 induction m with
 | nil=>simp[jg];try (split <;> simp)
 | cons p m ih=>
  obtain⟨q,c⟩:=p
  by_cases hk:k=q
  ·simp[jg,hk]at h
  ·simp only[jg,hk,if_false,Option.map_eq_none_iff]at h
   simp only[List.cons_append,jg]
   by_cases hq:k'=q
   ·have:¬ q=k:=fun e=>hk e.symm
    simp[hq,this]
   ·simp only[hq,if_false,Option.map_map]
    have:=ih h
    simpa[Function.comp_def] using this
theorem XV (m:List (Int × Int)) (k a k':Int):XE (YR m k a) k'=if k'=k then a else XE m k':=by
 unfold XE YR
 cases h:jg m k with
 | none=>simp only[];rw[jtf h];split <;> rfl
 | some p=>
  obtain⟨i,b⟩:=p
  simp only[]
  rw[jte h]
  split <;> rfl
end Go.Pv.T
namespace Go.Pv.T
open Go Go.Pv
end Go.Pv.T
namespace Go.Pv.T
open Go Go.Pv
@[simp] theorem cells_osl (a b c d e:Nat):(V.osl a b c d e).cells=[.osl a b c d e]:=rfl
@[simp] theorem leaf_osl (a b c d e:Nat):(V.osl a b c d e).leaf=true:=rfl
def jfh (st:St) (v:V) (nl:Bool) (n:Nat) (cs:List V):Prop:=∀keep i,∃a,jr st keep i v=some (.sl a nl n cs)∧(a=none∨∃z,a=some (i,z))
theorem jc8 (st:St) (t:Option (Nat × Nat)) (nl:Bool) (n:Nat) (cs:List V):jfh st (.sl t nl n cs) nl n cs:=by
 intro keep i
 cases t with
 | none=>exact⟨none,rfl,.inl rfl⟩
 | some p=>
  obtain⟨u,z⟩:=p
  refine⟨_,rfl,?_⟩
  split
  ·exact .inr ⟨z,rfl⟩
  ·exact .inl rfl
def jqu (r:V) (g:Hist'):Prop:=∃a b c:Option (Nat × Nat),r=.agg [.sl a g.sn g.ss.length (g.ss.flatMap JL),.sl b g.kn g.ks.length (g.ks.flatMap JL),.sl c g.tn g.ts.length (g.ts.flatMap jl)]∧(∀p∈a.toList++b.toList++c.toList,p.1<64)
theorem jg3 (a:Option (Nat × Nat)) (nl:Bool) (n:Nat) (cs:List V):(V.sl a nl n cs).tok=a.toList.map (·.1):=by
 cases a with
 | none=>rfl
 | some p=>rfl
theorem tokm {a:Option (Nat × Nat)}{nl:Bool}{n:Nat}{cs:List V}{i:Nat}:i∈(V.sl a nl n cs).tok ↔ ∃p∈a.toList,p.1=i:=by rw[jg3,List.mem_map]
def Grow {α:Type}(tk:Nat→Bool) (lo nx:Nat) (f:α→List V) (sz:Nat) (l:List α) (v:V):Prop :=
 (l=[]∧v=.sl none true 0 [])∨(l≠[]∧∃u,v=.sl (some (u,sz)) false l.length (l.flatMap f)∧tk u=true∧lo≤u∧u<nx)
theorem Grow.nil {α:Type}(tk:Nat→Bool) (lo nx:Nat) (f:α→List V) (sz:Nat):Grow tk lo nx f sz [] (.sl none true 0 []):=.inl ⟨rfl,rfl⟩
theorem Grow.form {α:Type}{tk:Nat→Bool}{lo nx:Nat}{f:α→List V}{sz:Nat}{l:List α}{v:V}(h:Grow tk lo nx f sz l v):∃t,v=.sl t l.isEmpty l.length (l.flatMap f):=by
 rcases h with⟨rfl,rfl⟩|⟨hne,u,rfl,_⟩
 ·exact⟨none,rfl⟩
 ·cases l with
  | nil=>exact absurd rfl hne
  | cons a l=>exact⟨_,rfl⟩
theorem Grow.mono {α:Type}{tk tk':Nat→Bool}{lo nx nx':Nat}{f:α→List V}{sz:Nat}{l:List α}{v:V}(h:Grow tk lo nx f sz l v) (ht:∀u,lo≤u→u<nx→tk u=true→tk' u=true) (hn:nx≤nx'):Grow tk' lo nx' f sz l v:=by
 rcases h with h|⟨hne,u,hv,h1,h2,h3⟩
 ·exact .inl h
 ·exact .inr ⟨hne,u,hv,ht u h2 h3 h1,h2,zO⟩
section
variable {E:Env}{Yf:YF}{st:St}{ub:Nat}{K:St→Nat→Prop}{d:Option Nat}{nm:Bool}
theorem YL {α:Type}{f:α→List V}{sz bytes lo hi:Nat}{l:List α}{a:α}{v:V}{s x:A}(hg:Grow st.tk lo hi f sz l v) (hs:eval E st.tm s=v) (hx:jI st.ob sz (eval E st.tm x)=some (f a)) (hf:∀a,(f a).length=sz) (h0:0<sz)
 (hp:(f a).all V.pureLeaf=true) (hb:(l.length+1)*bytes≤140737488355328) (hb2:l.length+1≤140737488355328)
 (h:∀del:Option Nat,(∀u,del=some u→lo≤u∧u<hi)→jaj K st d ub { v:=.sl (some (ub,sz)) false (l.length+1) ((l++[a]).flatMap f),del:=del,add:=[ub] }):j8 E Yf ⟨d,.append false sz bytes s x,none,nm⟩ st ub K:=by
 have hne:f a≠[]:=fun e=>by have:=hf a;rw[e]at this;simp at this;omega
 have h1:(f a).length / sz=1:=by rw[hf];exact Nat.div_self h0
 rcases hg with⟨rfl,rfl⟩|⟨hl,u,rfl,ht,h2,h3⟩
 ·refine jhw hs hx hne h0 hp (by rw[h1];simpa using hb) (by rw[h1];simp) ?_
  rw[h1]
  have:=h none (fun u e=>by cases e)
  simpa using this
 ·refine X3 hs ht hx hne (by rw[j9 hf]) h0 hp (by rw[h1];exact hb) (by rw[h1];exact hb2) ?_
  rw[h1]
  have:=h (some u) (fun u' e=>by cases e;exact⟨h2,h3⟩)
  simpa using this
end
theorem Wx {α:Type}{f:α→List V}{k:Nat}(hf:∀a,(f a).length=k) (ob:ZO) (nl:Bool) (l:List α):jI ob k (jN nl f l)=some (l.flatMap f):=by
 simp only[jN,jI,j9 hf,if_true]
def jfr (res:List ARes) (P:V→Prop):Ex→St→Prop:=fun e s=>∃r,jce res (e,s)=some r∧P r
theorem YE {f:FuncId}{af:AF}{args:List V}{P:V→Prop}(hf:E.fc f=some af) (h1:af.body.one=true) (h:wpC E YC af.body (Qf args) (jfr af.res P)):∃r,Ev E f args r∧P r:=by
 obtain⟨n,x,hx,r,hr,hP⟩:=jnh h1 h fun _=>rfl
 refine⟨r,⟨n+1,?_⟩,hP⟩
 simp only[callers,hf,Option.bind_some]
 rw[show ja E (callers E n) noY n af.body (Qf args)=some [x] from hx]
 exact jlb (List.cons_ne_nil _ _) (fun y hy=>by rw[List.mem_singleton]at hy;subst hy;exact hr)
end Go.Pv.T
namespace Go.Pv.T
open Go Go.Pv
end Go.Pv.T
namespace Go.Pv.T
open Go Go.Pv
section
variable {E:Env}{st:St}{ub:Nat}{K:List FP→St→Prop}{d:Option Nat}{nm:Bool}{r:List AOpr}
theorem jp2 {sz n:Nat}{zero:List V}{parts:List (Nat × Nat × A)}{cs:List V}(hf:fill zero (jq (eval E st.tm) parts)=some cs) (hl:cs.length=n*sz) (hp:(cs.map V.strip1).all V.pureLeaf=true)
 (h:YS E r K (eval E st.tm) (.buildSl false sz zero parts n) st d ub { v:=.sl (some (ub,sz)) false n (cs.map V.strip1),add:=[ub] }):jF E (⟨d,.buildSl false sz zero parts n,none,nm⟩::r) st ub K:=by
 rw[jt rfl]
 simp only[aop,hf,Option.bind_some,Bool.false_eq_true,if_false]
 rw[if_pos ⟨hl,hp⟩,jM]
 exact h
theorem jfq {E:Env}{Yf:YF}{st:St}{ub:Nat}{K:St→Nat→Prop}{d:Option Nat}{nm:Bool}{α:Type}{f:α→List V}{sz bytes u:Nat}{l:List α}{s x:A}(hs:eval E st.tm s=.sl (some (u,sz)) false 0 []) (hu:st.tk u=true) (hx:jI st.ob sz (eval E st.tm x)=some (l.flatMap f)) (hf:∀a,(f a).length=sz) (h0:0<sz)
 (hp:(l.flatMap f).all V.pureLeaf=true) (hb:l.length*bytes≤140737488355328) (hb2:l.length≤140737488355328)
 (h:∀ (t:Option (Nat × Nat)) (del:Option Nat) (add:List Nat),(∀u'∈add,u'=ub)→(∀u',del=some u'→u'=u)→jaj K st d ub { v:=.sl t false l.length (l.flatMap f),del:=del,add:=add }):j8 E Yf ⟨d,.append false sz bytes s x,none,nm⟩ st ub K:=by
 cases l with
 | nil=>
  rw[jT _ rfl rfl]
  simp only[aop,hs,hx,Option.bind_some,List.flatMap_nil,if_true,List.length_nil,Nat.zero_mul,Yo]
  exact h _ none [] (fun u hu=>by cases hu) (fun u e=>by cases e)
 | cons a l=>
  have h1:((a::l).flatMap f).length / sz=(a::l).length:=by rw[j9 hf];exact Nat.mul_div_cancel _ h0
  have hne:(a::l).flatMap f≠[]:=fun e=>by have:=congrArg List.length e;rw[j9 hf]at this;have:=Nat.mul_pos (show 0<(a::l).length by simp) h0;simp_all
  refine X3 hs hu hx hne zS h0 hp (by rw[h1,Nat.zero_add];exact hb) (by rw[h1,Nat.zero_add];exact hb2) ?_
  rw[h1,Nat.zero_add,List.nil_append]
  exact h _ (some u) [ub] (fun u hu=>by simpa using hu) (fun u' e=>by cases e;rfl)
end
@[simp] theorem j4r (s:List UInt8):(V.str s).strip1=.str s:=rfl
theorem endH1 {st:St}{p l u:Nat}{x y z:V}{g:Hist'}(hd:st.df=[]) (hp:st.tm p=.ptr l u 0) (ho:st.ob l=some ⟨u,.cells [x,y,z]⟩)
 (hx:jfh st x g.sn g.ss.length (g.ss.flatMap JL)) (hy:jfh st y g.kn g.ks.length (g.ks.flatMap JL)) (hz:jfh st z g.tn g.ts.length (g.ts.flatMap jl)):∃r,jce [.cell p (some 3)] (.ret,st)=some r∧jqu r g:=by
 have h1:(j1 st.ob l u)=some [x,y,z]:=by simp[j1,ho]
 have hres:[ARes.cell p (some 3)].mapM (jw st)=some [.agg [x,y,z]]:=by
  simp[jw,hp,h1]
 obtain⟨a,ha,ha'⟩:=hx (nodup (List.flatMap V.toks [.agg [x,y,z]])) 0
 obtain⟨b,hb,hb'⟩:=hy (nodup (List.flatMap V.toks [.agg [x,y,z]])) 1
 obtain⟨c,hc,hc'⟩:=hz (nodup (List.flatMap V.toks [.agg [x,y,z]])) 2
 refine⟨.agg [.sl a g.sn g.ss.length (g.ss.flatMap JL),.sl b g.kn g.ks.length (g.ks.flatMap JL),.sl c g.tn g.ts.length (g.ts.flatMap jl)],?_,a,b,c,rfl,?_⟩
 ·simp only[jce,Wj hd,Wb hd,if_true,hres,Option.bind_some,Wp]
  generalize nodup (List.flatMap V.toks [.agg [x,y,z]])=keep at *
  simp only[JU,Xv,Xc,ha,hb,hc,Nat.zero_add,Option.bind_some,Option.map_some]
  have hnd:nodup (List.flatMap V.toks [.agg [.sl a g.sn g.ss.length (g.ss.flatMap JL),.sl b g.kn g.ks.length (g.ks.flatMap JL),.sl c g.tn g.ts.length (g.ts.flatMap jl)]])=true:=by
   have e:∀x y z:V,List.flatMap V.toks [.agg [x,y,z]]=x.tok++(y.tok++z.tok):=fun x y z=>by simp[V.toks]
   rw[e,jg3,jg3,jg3]
   rcases ha' with rfl|⟨_,rfl⟩ <;> rcases hb' with rfl|⟨_,rfl⟩ <;> rcases hc' with rfl|⟨_,rfl⟩ <;> rfl
  show(if nodup (List.flatMap V.toks [.agg [.sl a g.sn g.ss.length (g.ss.flatMap JL),.sl b g.kn g.ks.length (g.ks.flatMap JL),.sl c g.tn g.ts.length (g.ts.flatMap jl)]])=true then some (V.agg [.sl a g.sn g.ss.length (g.ss.flatMap JL),.sl b g.kn g.ks.length (g.ks.flatMap JL),.sl c g.tn g.ts.length (g.ts.flatMap jl)]) else none)=_
  rw[if_pos hnd]
 ·intro p hp
  simp only[List.mem_append]at hp
  rcases hp with(hp|hp)|hp
  ·rcases ha' with rfl|⟨_,rfl⟩
   ·simp at hp
   ·simp at hp;subst hp;simp
  ·rcases hb' with rfl|⟨_,rfl⟩
   ·simp at hp
   ·simp at hp;subst hp;simp
  ·rcases hc' with rfl|⟨_,rfl⟩
   ·simp at hp
   ·simp at hp;subst hp;simp
theorem jo7 {ub:Nat}{r:V}{g:Hist'}(h:jqu r g):∃a b c add,YB ub r=some { v:=.agg [.sl a g.sn g.ss.length (g.ss.flatMap JL),.sl b g.kn g.ks.length (g.ks.flatMap JL),.sl c g.tn g.ts.length (g.ts.flatMap jl)],add:=add }:=by
 obtain⟨a,b,c,rfl,hlt⟩:=h
 have e:∀x y z:V,toksRes (.agg [x,y,z])=x.tok++(y.tok++z.tok):=fun x y z=>by simp[toksRes,V.toks]
 have hall:(toksRes (.agg [.sl a g.sn g.ss.length (g.ss.flatMap JL),.sl b g.kn g.ks.length (g.ks.flatMap JL),.sl c g.tn g.ts.length (g.ts.flatMap jl)])).all (fun i=>Nat.blt i 64)=true:=by
  rw[e,List.all_eq_true]
  intro i hi
  have:∃p∈a.toList++b.toList++c.toList,p.1=i:=by
   rw[List.mem_append,List.mem_append,tokm,tokm,tokm]at hi
   rcases hi with⟨p,hp,h⟩|⟨p,hp,h⟩|⟨p,hp,h⟩
   ·exact⟨p,by simp[hp],h⟩
   ·exact⟨p,by simp[hp],h⟩
   ·exact⟨p,by simp[hp],h⟩
  obtain⟨p,hp,rfl⟩:=this
  rw[Nat.blt_eq]
  exact hlt p hp
 have hin:∀ (t:Option (Nat × Nat)) (nl:Bool) (n:Nat) (cs:List V),∃t',YD ub (.sl t nl n cs)=.sl t' nl n cs:=fun t nl n cs=>by
  cases t with
  | none=>exact⟨none,rfl⟩
  | some p=>exact⟨_,rfl⟩
 obtain⟨a',ha⟩:=hin a g.sn g.ss.length (g.ss.flatMap JL)
 obtain⟨b',hb⟩:=hin b g.kn g.ks.length (g.ks.flatMap JL)
 obtain⟨c',hc⟩:=hin c g.tn g.ts.length (g.ts.flatMap jl)
 refine⟨a',b',c',(toksRes (.agg [.sl a g.sn g.ss.length (g.ss.flatMap JL),.sl b g.kn g.ks.length (g.ks.flatMap JL),.sl c g.tn g.ts.length (g.ts.flatMap jl)])).map (ub + ·),?_⟩
 rw[YB,if_pos hall]
 have hin2:jb9 ub (.agg [.sl a g.sn g.ss.length (g.ss.flatMap JL),.sl b g.kn g.ks.length (g.ks.flatMap JL),.sl c g.tn g.ts.length (g.ts.flatMap jl)]) =
  .agg [YD ub (.sl a g.sn g.ss.length (g.ss.flatMap JL)),YD ub (.sl b g.kn g.ks.length (g.ks.flatMap JL)),YD ub (.sl c g.tn g.ts.length (g.ts.flatMap jl))]:=rfl
 rw[hin2,ha,hb,hc]
theorem j9y {E:Env}{Yf:YF}{st:St}{ub:Nat}{K:St→Nat→Prop}{d:Option Nat}{nm:Bool}{q:A}{xs:List A}{f:FuncId}{first captured args:List V}{v:V}(hev:Ev E f args v) (hq:eval E st.tm q=.fn (.func f) first captured)
 (hx:(first++xs.map (eval E st.tm)++captured).map V.strip=args) (hs:E.sh nm f=false) (hp:args.all V.pureTop=true) (h:wpD (YB ub v) (jaj K st d ub)):j8 E Yf ⟨d,.callV q xs,none,nm⟩ st ub K:=by
 refine jq3 hq ⟨⟨hs,?_⟩,v,by rw[hx];exact hev,h⟩
 rw[← hx,List.all_map]at hp
 exact hp
@[simp] theorem fn_strip0 (f:Fn):(V.fn f [] []).strip=.fn f [] []:=rfl
@[simp] theorem j3m (f:Fn):(V.fn f [] []).pureTop=true:=rfl
def IntsAt (ob:ZO) (nx:Nat) (l:List Int) (v:V):Prop :=
 (l=[]∧v=.sl none true 0 [])∨(l≠[]∧∃L u,v=.osl L u 0 l.length 1∧ob L=some ⟨u,.cells (l.flatMap intC)⟩∧u<nx∧L=2*u+1)
end Go.Pv.T
