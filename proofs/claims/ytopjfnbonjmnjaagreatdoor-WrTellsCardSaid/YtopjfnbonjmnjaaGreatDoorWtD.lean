/- The compiled functions, part 1. -/
import Derived.Test.YtopjfnbonjmnjaaGreatDoorWtC
import Derived.KernelRfl
import Derived.Laws.BitsLemmas
namespace Go.Pv.T
open Go Go.Pv

abbrev oo (d : Nat) (p : AOp) : AOpr := ⟨some d, p, none, false⟩
abbrev qq (d : Nat) (p : AOp) : AOpr := ⟨some d, p, none, true⟩
abbrev ou (p : AOp) : AOpr := ⟨none, p, none, false⟩
abbrev qu (p : AOp) : AOpr := ⟨none, p, none, true⟩
abbrev og (d : Nat) (p : AOp) (t : Nat) (b : Bool) : AOpr := ⟨some d, p, some (t, b), false⟩
abbrev qg (d : Nat) (p : AOp) (t : Nat) (b : Bool) : AOpr := ⟨some d, p, some (t, b), true⟩
abbrev oh (p : AOp) (t : Nat) (b : Bool) : AOpr := ⟨none, p, some (t, b), false⟩
abbrev qh (p : AOp) (t : Nat) (b : Bool) : AOpr := ⟨none, p, some (t, b), true⟩
abbrev ov (d k : Nat) : AOpr := ⟨some d, .mov (.t k), none, false⟩
abbrev qv (d k : Nat) : AOpr := ⟨some d, .mov (.t k), none, true⟩
abbrev nn (k : Int) : A := .c (.int .i64 k)
abbrev ol (d k : Nat) : AOpr := ⟨some d, .load none (.t k), none, false⟩
abbrev os (d n k : Nat) : AOpr := ⟨some d, .load (some n) (.t k), none, false⟩
abbrev ox (d s a b : Nat) : AOpr := ⟨some d, .idxSl s (.t a) (.t b), none, false⟩
abbrev om (d : Nat) (k : Int) : AOpr := ⟨some d, .mov (nn k), none, false⟩
abbrev oe (d k i : Nat) : AOpr := ⟨some d, .extract (.t k) i, none, false⟩
abbrev of (d n k : Nat) : AOpr := ⟨some d, .fieldAddr n (.t k), none, false⟩
abbrev on (d : Nat) (p : BinOp) (a : Nat) (k : Int) : AOpr := ⟨some d, .bin p (.t a) (nn k), none, false⟩
abbrev ob (d : Nat) (p : BinOp) (a b : Nat) : AOpr := ⟨some d, .bin p (.t a) (.t b), none, false⟩
abbrev ql (d k : Nat) : AOpr := ⟨some d, .load none (.t k), none, true⟩
abbrev qs (d n k : Nat) : AOpr := ⟨some d, .load (some n) (.t k), none, true⟩
abbrev qx (d s a b : Nat) : AOpr := ⟨some d, .idxSl s (.t a) (.t b), none, true⟩
abbrev qm (d : Nat) (k : Int) : AOpr := ⟨some d, .mov (nn k), none, true⟩
abbrev qe (d k i : Nat) : AOpr := ⟨some d, .extract (.t k) i, none, true⟩
abbrev qf (d n k : Nat) : AOpr := ⟨some d, .fieldAddr n (.t k), none, true⟩
abbrev qn (d : Nat) (p : BinOp) (a : Nat) (k : Int) : AOpr := ⟨some d, .bin p (.t a) (nn k), none, true⟩
abbrev qb (d : Nat) (p : BinOp) (a b : Nat) : AOpr := ⟨some d, .bin p (.t a) (.t b), none, true⟩
abbrev sr (l : List AOpr) (b : C) : C := .seq (.region l) b

def F10 : AF := ⟨sr [oo 2 (.box 3 (.t 0)),oo 4 (.mov (.c (.bool false)))] (.seq (.draw [os 9 3 2,oo 10 (.call 14 [.t 9]),ov 11 1,ov 12 1,oo 13 (.lenSl (.t 12)),oo 14 (.minmax false [(.t 13),(nn 50)]),oo 15 (.slSl 1 (.t 11) none (some (.t 14))),oo 16 (.call 18 [.t 15]),ou (.store 3 (.t 2) (.t 10)),ov 1 16] []) (.seq (.draw [os 17 3 2,oo 18 (.call 14 [.t 17]),oo 19 (.call 42 [.t 18]),os 20 3 2,oo 21 (.call 14 [.t 20]),oo 22 (.call 43 [.t 21]),ov 5 19,ov 6 22] []) (.seq (.seq (.draw [os 23 3 2,oo 24 (.call 14 [.t 23]),ov 25 1,oo 26 (.call 18 [.t 25]),oo 27 (.call 44 [.t 24,.t 26]),os 28 3 2,ov 29 1,oo 30 (.call 35 [.t 28,.t 29]),oo 31 (.eq true .bool (.t 27) (.t 30))] []) (.cond (.t 31) (sr [oo 4 (.mov (.c (.bool false)))] (.ret)) (.skip))) (.seq (sr [os 32 3 2,oo 33 (.call 37 [.t 32]),oo 34 (.un .not (.t 33))] (.cond (.t 34) (sr [ov 35 5,oo 36 (.lenSl (.t 35)),ov 37 6,oo 38 (.lenSl (.t 37)),ob 39 .add 36 38,on 40 .eql 39 0,ov 41 40,og 42 (.call 39 []) 41 true,oo 43 (.pick (.t 41) (.t 42) (.c (.bool false))),ov 4 43] (.ret)) (.skip))) (sr [os 44 3 2,oo 45 (.call 45 [.t 44]),ov 7 45] (.seq (sr [ov 46 5,os 47 3 2,oo 48 (.call 47 [.t 47]),oo 49 (.call 46 [.t 46,.t 48]),oo 50 (.un .not (.t 49)),ov 51 50,og 52 (.mov (.t 6)) 51 false,og 53 (.lenSl (.t 52)) 51 false,og 54 (.mov (.t 7)) 51 false,og 55 (.lenSl (.t 54)) 51 false,og 56 (.bin .neq (.t 53) (.t 55)) 51 false,oo 57 (.pick (.t 51) (.c (.bool true)) (.t 56))] (.cond (.t 57) (sr [oo 4 (.mov (.c (.bool false)))] (.ret)) (.skip))) (.seq (sr [om 8 0] (.block 0 (.loop (.seq (sr [ov 58 8,ov 59 7,oo 60 (.lenSl (.t 59)),ob 61 .lss 58 60] (.cond (.t 61) (.skip) (.exit 0))) (.seq (.block 1 (.seq (.draw [ov 64 6,ov 65 8,ox 66 1 64 65,ol 67 66,ov 68 7,ov 69 8,ox 70 1 68 69,ol 71 70,oo 72 (.call 26 [.t 67,.t 71]),oo 73 (.un .not (.t 72))] []) (.cond (.t 73) (sr [oo 4 (.mov (.c (.bool false)))] (.ret)) (.skip)))) (.region [ov 62 8,on 63 .add 62 1,ov 8 63])))))) (sr [oo 74 (.call 39 []),ov 4 74] (.ret))))))))),[.t 4]⟩
def F14 : AF := ⟨sr [oo 1 (.box 3 (.t 0)),oo 2 (.alloc [(.sl none true 0 []),(.sl none true 0 []),(.sl none true 0 [])])] (sr [oo 8 (.build [(.sl none true 0 []),(.sl none true 0 []),(.sl none true 0 [])] []),oo 3 (.alloc [(.sl none true 0 []),(.sl none true 0 []),(.sl none true 0 [])]),ou (.store 3 (.t 3) (.t 8))] (.seq (sr [om 4 0] (.block 0 (.loop (.seq (sr [ov 9 4,of 10 0 1,ol 11 10,oo 12 (.lenSl (.t 11)),ob 13 .lss 9 12,ov 14 13,og 15 (.mov (.t 4)) 14 true,og 16 (.bin .lss (.t 15) (nn 25)) 14 true,oo 17 (.pick (.t 14) (.t 16) (.c (.bool false)))] (.cond (.t 17) (.skip) (.exit 0))) (.seq (.block 1 (.draw [of 20 0 3,ol 21 20,of 22 0 1,ol 23 22,ov 24 4,ox 25 1 23 24,ol 26 25,of 27 0 1,ol 28 27,ov 29 4,ox 30 1 28 29,ol 31 30,oo 32 (.lenStr (.t 31)),oo 33 (.minmax false [(.t 32),(nn 100)]),oo 34 (.slStr (.t 26) none (some (.t 33))),oo 35 (.buildSl false 1 [(.str [])] [(0,1,(.t 34))] 1),oo 36 (.append false 1 16 (.t 21) (.t 35)),of 37 0 3,ou (.store 1 (.t 37) (.t 36))] [(1,15)])) (.region [ov 18 4,on 19 .add 18 1,ov 4 19])))))) (.seq (sr [om 5 0] (.block 2 (.loop (.seq (sr [ov 38 5,of 39 1 1,ol 40 39,oo 41 (.lenSl (.t 40)),ob 42 .lss 38 41,ov 43 42,og 44 (.mov (.t 5)) 43 true,og 45 (.bin .lss (.t 44) (nn 45)) 43 true,oo 46 (.pick (.t 43) (.t 45) (.c (.bool false)))] (.cond (.t 46) (.skip) (.exit 2))) (.seq (.block 3 (.draw [of 49 1 3,ol 50 49,of 51 1 1,ol 52 51,ov 53 5,ox 54 1 52 53,ol 55 54,of 56 1 1,ol 57 56,ov 58 5,ox 59 1 57 58,ol 60 59,oo 61 (.lenStr (.t 60)),oo 62 (.minmax false [(.t 61),(nn 100)]),oo 63 (.slStr (.t 55) none (some (.t 62))),oo 64 (.buildSl false 1 [(.str [])] [(0,1,(.t 63))] 1),oo 65 (.append false 1 16 (.t 50) (.t 64)),of 66 1 3,ou (.store 1 (.t 66) (.t 65))] [(1,15)])) (.region [ov 47 5,on 48 .add 47 1,ov 5 48])))))) (.seq (sr [om 6 0] (.block 4 (.loop (.seq (sr [ov 67 6,of 68 2 1,ol 69 68,oo 70 (.lenSl (.t 69)),ob 71 .lss 67 70,ov 72 71,og 73 (.mov (.t 6)) 72 true,og 74 (.bin .lss (.t 73) (nn 45)) 72 true,oo 75 (.pick (.t 72) (.t 74) (.c (.bool false)))] (.cond (.t 75) (.skip) (.exit 4))) (.seq (.block 5 (sr [of 78 2 1,ol 79 78,ov 80 6,ox 81 3 79 80,os 82 3 81,oo 7 (.alloc [(.int .i64 0),(.int .i64 0),(.sl none true 0 [])]),ou (.store 3 (.t 7) (.t 82))] (sr [oo 83 (.buildSl false 4 [] [] 0),of 84 2 7,ol 85 84,of 86 2 7,ol 87 86,oo 88 (.lenSl (.t 87)),oo 89 (.minmax false [(.t 88),(nn 25)]),oo 90 (.slSl 4 (.t 85) none (some (.t 89))),oo 91 (.append false 4 32 (.t 83) (.t 90)),of 92 2 7,ou (.store 1 (.t 92) (.t 91))] (.region [of 93 2 3,ol 94 93,os 95 3 7,oo 96 (.buildSl false 3 [(.int .i64 0),(.int .i64 0),(.sl none true 0 [])] [(0,3,(.t 95))] 1),oo 97 (.append false 3 40 (.t 94) (.t 96)),of 98 2 3,ou (.store 1 (.t 98) (.t 97))])))) (.region [ov 76 6,on 77 .add 76 1,ov 6 77])))))) (sr [os 99 3 3,ou (.store 3 (.t 2) (.t 99))] (.ret)))))),[.cell 2 (some 3)]⟩
def F18 : AF := ⟨sr [oo 2 (.mov (.c (.sl none true 0 [])))] (sr [oo 3 (.buildSl false 1 [] [] 0),ov 4 0,oo 5 (.append false 1 8 (.t 3) (.t 4)),ov 2 5] (.ret)),[.t 2]⟩
def F26 : AF := ⟨sr [oo 4 (.mov (.c (.bool false)))] (.seq (sr [ov 6 0,oo 7 (.lenSl (.t 6)),ov 8 1,oo 9 (.lenSl (.t 8)),ob 10 .neq 7 9] (.cond (.t 10) (sr [oo 4 (.mov (.c (.bool false)))] (.ret)) (.skip))) (.seq (sr [om 5 0] (.block 0 (.loop (.seq (sr [ov 11 5,ov 12 0,oo 13 (.lenSl (.t 12)),ob 14 .lss 11 13] (.cond (.t 14) (.skip) (.exit 0))) (.seq (.block 1 (.seq (.draw [ov 17 0,ov 18 5,ox 19 1 17 18,ol 20 19,ov 21 1,ov 22 5,ox 23 1 21 22,ol 24 23,ob 25 .neq 20 24] []) (.cond (.t 25) (sr [oo 4 (.mov (.c (.bool false)))] (.ret)) (.skip)))) (.region [ov 15 5,on 16 .add 15 1,ov 5 16])))))) (sr [oo 4 (.mov (.c (.bool true)))] (.ret)))),[.t 4]⟩
def F27 : AF := ⟨sr [qq 2 (.box 3 (.t 0)),qq 3 (.box 2 (.t 1)),qq 4 (.mov (.c (.sl none true 0 [])))] (sr [qs 11 3 2,qs 12 2 3,qq 13 (.call 74 [.t 11,.t 12]),qv 10 13,qe 14 10 0,qe 15 10 1,qq 5 (.alloc [(.bool false),(.int .i64 0),(.int .i64 0),(.int .i64 0)]),qu (.store 4 (.t 5) (.t 14)),qv 6 15] (.seq (sr [qv 16 6,qq 17 (.un .not (.t 16))] (.cond (.t 17) (sr [qq 4 (.mov (.c (.sl none true 0 [])))] (.ret)) (.skip))) (sr [qq 7 (.mov (.c (.sl none true 0 [])))] (.seq (sr [qf 18 2 5,qf 19 0 18,ql 20 19,qn 21 .neq 20 1] (.cond (.t 21) (.region [qv 22 7,qq 23 (.buildSl true 1 [(.int .i64 0)] [(0,1,(nn (-1)))] 1),qq 24 (.append true 1 8 (.t 22) (.t 23)),qv 7 24]) (.skip))) (.seq (sr [qs 25 3 2,qf 26 0 3,ql 27 26,qf 28 1 5,ql 29 28,qq 30 (.call 75 [.t 25,.t 27,.t 29]),qq 31 (.range false (.t 30))] (.block 0 (.loop (sr [qq 32 (.nextMap (.t 31)),qe 33 32 0] (.seq (.cond (.t 33) (.skip) (.exit 0)) (.block 1 (sr [qq 34 (.entry (.t 31)),qe 35 34 0,qe 36 34 1,qq 9 (.alloc [(.int .i64 0),(.int .i64 0)]),qv 8 35,qu (.store 2 (.t 9) (.t 36))] (sr [qf 37 2 5,qf 38 0 37,ql 39 38,qn 40 .eql 39 2,qv 41 40,qg 42 (.load (some 2) (.t 9)) 41 false,qg 43 (.fieldAddr 2 (.t 5)) 41 false,qg 44 (.load (some 2) (.t 43)) 41 false,qg 45 (.eq false (.struct [.int,.int]) (.t 42) (.t 44)) 41 false,qq 46 (.pick (.t 41) (.c (.bool true)) (.t 45))] (.cond (.t 46) (.region [qv 47 7,qv 48 8,qq 49 (.buildSl true 1 [(.int .i64 0)] [(0,1,(.t 48))] 1),qq 50 (.append true 1 8 (.t 47) (.t 49)),qv 7 50]) (.skip)))))))))) (sr [qv 51 7,qq 52 (.call 76 [.t 51])] (sr [qv 53 7,qv 4 53] (.ret)))))))),[.t 4]⟩
def F28 : AF := ⟨sr [oo 2 (.box 3 (.t 0)),oo 3 (.box 2 (.t 1)),oo 4 (.mov (.c (.sl none true 0 [])))] (sr [oo 10 (.buildSl false 1 [] [] 0),ov 5 10] (.seq (sr [os 11 3 2,os 12 2 3,oo 13 (.call 77 [.t 11,.t 12]),oo 14 (.un .not (.t 13))] (.cond (.t 14) (sr [ov 15 5,ov 4 15] (.ret)) (.skip))) (.seq (.draw [of 16 2 2,ol 17 16,of 18 0 3,ol 19 18,ox 20 3 17 19,of 21 2 20,ol 22 21,of 23 1 3,ol 24 23,ox 25 4 22 24,os 26 4 25,oo 6 (.alloc [(.bool false),(.int .i64 0),(.int .i64 0),(.int .i64 0)]),ou (.store 4 (.t 6) (.t 26))] [(1,11),(3,11),(6,11),(8,11),(10,11)]) (.seq (sr [of 27 2 6,of 28 0 27,ol 29 28,on 30 .neq 29 1] (.cond (.t 30) (.region [ov 31 5,oo 32 (.buildSl false 1 [(.int .i64 0)] [(0,1,(nn (-1)))] 1),oo 33 (.append false 1 8 (.t 31) (.t 32)),ov 5 33]) (.skip))) (.seq (sr [om 7 0] (.block 0 (.loop (.seq (sr [ov 34 7,of 35 2 2,ol 36 35,oo 37 (.lenSl (.t 36)),ob 38 .lss 34 37] (.cond (.t 38) (.skip) (.exit 0))) (.seq (.block 1 (.seq (.draw [of 42 2 2,ol 43 42,ov 44 7,ox 45 3 43 44,os 46 3 45,of 47 2 2,ol 48 47,ov 49 7,ox 50 3 48 49,of 51 2 50,ol 52 51,oo 53 (.lenSl (.t 52)),of 54 1 6,ol 55 54,oo 56 (.call 78 [.t 46,.t 53,.t 55]),ov 41 56,oe 57 41 0,oe 58 41 1,oo 8 (.alloc [(.int .i64 0),(.int .i64 0)]),ou (.store 2 (.t 8) (.t 57)),ov 9 58] [(1,18),(4,18),(6,18),(10,18),(13,18),(14,18)]) (sr [ov 59 7,of 60 0 3,ol 61 60,ob 62 .neq 59 61,ov 63 62,og 64 (.fieldAddr 2 (.t 2)) 63 true,og 65 (.load none (.t 64)) 63 true,og 66 (.mov (.t 7)) 63 true,og 67 (.idxSl 3 (.t 65) (.t 66)) 63 true,og 68 (.fieldAddr 1 (.t 67)) 63 true,og 69 (.load none (.t 68)) 63 true,og 70 (.bin .neq (.t 69) (nn 2)) 63 true,oo 71 (.pick (.t 63) (.t 70) (.c (.bool false))),ov 72 71,og 73 (.mov (.t 9)) 72 true,oo 74 (.pick (.t 72) (.t 73) (.c (.bool false))),ov 75 74,og 76 (.fieldAddr 2 (.t 6)) 75 true,og 77 (.fieldAddr 0 (.t 76)) 75 true,og 78 (.load none (.t 77)) 75 true,og 79 (.bin .eql (.t 78) (nn 2)) 75 true,og 80 (.mov (.t 79)) 75 true,og 81 (.load (some 2) (.t 8)) 80 false,og 82 (.fieldAddr 2 (.t 6)) 80 false,og 83 (.load (some 2) (.t 82)) 80 false,og 84 (.eq false (.struct [.int,.int]) (.t 81) (.t 83)) 80 false,og 85 (.pick (.t 80) (.c (.bool true)) (.t 84)) 75 true,oo 86 (.pick (.t 75) (.t 85) (.c (.bool false)))] (.cond (.t 86) (.region [ov 87 5,ov 88 7,oo 89 (.buildSl false 1 [(.int .i64 0)] [(0,1,(.t 88))] 1),oo 90 (.append false 1 8 (.t 87) (.t 89)),ov 5 90]) (.skip))))) (.region [ov 39 7,on 40 .add 39 1,ov 7 40])))))) (sr [ov 91 5,ov 4 91] (.ret))))))),[.t 4]⟩
def F32 : AF := ⟨sr [qq 1 (.box 3 (.t 0)),qm 2 0] (.seq (sr [qf 9 0 1,ql 10 9,qq 11 (.call 81 [.t 10]),qq 12 (.un .not (.t 11)),qv 13 12,qg 14 (.fieldAddr 1 (.t 1)) 13 false,qg 15 (.load none (.t 14)) 13 false,qg 16 (.call 81 [.t 15]) 13 false,qg 17 (.un .not (.t 16)) 13 false,qq 18 (.pick (.t 13) (.c (.bool true)) (.t 17)),qv 19 18,qg 20 (.fieldAddr 0 (.t 1)) 19 false,qg 21 (.load none (.t 20)) 19 false,qg 22 (.lenSl (.t 21)) 19 false,qg 23 (.bin .gtr (.t 22) (nn 20)) 19 false,qq 24 (.pick (.t 19) (.c (.bool true)) (.t 23)),qv 25 24,qg 26 (.fieldAddr 1 (.t 1)) 25 false,qg 27 (.load none (.t 26)) 25 false,qg 28 (.lenSl (.t 27)) 25 false,qg 29 (.bin .gtr (.t 28) (nn 40)) 25 false,qq 30 (.pick (.t 25) (.c (.bool true)) (.t 29)),qv 31 30,qg 32 (.fieldAddr 2 (.t 1)) 31 false,qg 33 (.load none (.t 32)) 31 false,qg 34 (.lenSl (.t 33)) 31 false,qg 35 (.bin .gtr (.t 34) (nn 40)) 31 false,qq 36 (.pick (.t 31) (.c (.bool true)) (.t 35))] (.cond (.t 36) (sr [qm 2 4] (.ret)) (.skip))) (.seq (.draw [qf 37 1 1,ql 38 37,qq 39 (.lenSl (.t 38)),qq 40 (.mkSl true 1 1 [(.bool false)] (.t 39) (.t 39)),qf 41 0 1,ql 42 41,qq 43 (.lenSl (.t 42)),qq 44 (.mkSl true 1 1 [(.bool false)] (.t 43) (.t 43)),qv 3 40,qv 4 44] [(3,5),(1,7),(3,7)]) (.seq (sr [qm 5 0] (.block 0 (.loop (.seq (sr [qv 45 5,qf 46 2 1,ql 47 46,qq 48 (.lenSl (.t 47)),qb 49 .lss 45 48] (.cond (.t 49) (.skip) (.exit 0))) (.seq (.block 1 (.seq (.seq (.seq (.draw [qs 52 3 1,qf 53 2 1,ql 54 53,qv 55 5,qx 56 3 54 55,qs 57 3 56,qv 58 3] []) (.region [qq 59 (.call 82 [.t 52,.t 57,.t 58]),qq 60 (.un .not (.t 59))])) (.cond (.t 60) (sr [qm 2 4] (.ret)) (.skip))) (.region [qv 61 4,qf 62 2 1,ql 63 62,qv 64 5,qx 65 3 63 64,qf 66 0 65,ql 67 66,qx 68 1 61 67,qu (.store 1 (.t 68) (.c (.bool true)))]))) (.region [qv 50 5,qn 51 .add 50 1,qv 5 51])))))) (sr [qq 6 (.mov (.c (.bool true)))] (.seq (sr [qm 7 0] (.block 2 (.loop (.seq (sr [qv 69 7,qv 70 3,qq 71 (.lenSl (.t 70)),qb 72 .lss 69 71] (.cond (.t 72) (.skip) (.exit 2))) (.seq (.block 3 (.region [qv 75 6,qv 76 75,qg 77 (.mov (.t 3)) 76 true,qg 78 (.mov (.t 7)) 76 true,qg 79 (.idxSl 1 (.t 77) (.t 78)) 76 true,qg 80 (.load none (.t 79)) 76 true,qq 81 (.pick (.t 76) (.t 80) (.c (.bool false))),qv 6 81])) (.region [qv 73 7,qn 74 .add 73 1,qv 7 74])))))) (.seq (sr [qm 8 0] (.block 4 (.loop (.seq (sr [qv 82 8,qv 83 4,qq 84 (.lenSl (.t 83)),qb 85 .lss 82 84] (.cond (.t 85) (.skip) (.exit 4))) (.seq (.block 5 (.region [qv 88 6,qv 89 88,qg 90 (.mov (.t 4)) 89 true,qg 91 (.mov (.t 8)) 89 true,qg 92 (.idxSl 1 (.t 90) (.t 91)) 89 true,qg 93 (.load none (.t 92)) 89 true,qq 94 (.pick (.t 89) (.t 93) (.c (.bool false))),qv 6 94])) (.region [qv 86 8,qn 87 .add 86 1,qv 8 87])))))) (.seq (sr [qv 95 6,qq 96 (.un .not (.t 95))] (.cond (.t 96) (sr [qm 2 4] (.ret)) (.skip))) (sr [qm 2 0] (.ret))))))))),[.t 2]⟩
def F33 : AF := ⟨sr [oo 1 (.box 3 (.t 0)),oo 2 (.mov (.c (.sl none true 0 []))),om 3 0] (.seq (sr [os 7 3 1,oo 8 (.call 83 [.t 7]),oo 9 (.un .not (.t 8))] (.cond (.t 9) (sr [oo 2 (.mov (.c (.sl none true 0 []))),om 3 4] (.ret)) (.skip))) (sr [oo 4 (.mov (.c (.sl none true 0 [])))] (.seq (sr [os 10 3 1,oo 11 (.call 43 [.t 10]),oo 12 (.lenSl (.t 11)),om 13 0] (.block 0 (.loop (sr [ob 14 .lss 13 12] (.seq (.cond (.t 14) (.skip) (.exit 0)) (.seq (.block 1 (sr [ox 15 1 11 13,ol 16 15,ov 6 16] (.seq (sr [ov 17 6,oo 18 (.lenSl (.t 17)),on 19 .eql 18 0] (.cond (.t 19) (sr [oo 2 (.mov (.c (.sl none true 0 []))),om 3 3] (.ret)) (.skip))) (.region [ov 20 4,ov 21 6,oo 22 (.idxSl 1 (.t 21) (nn 0)),ol 23 22,oo 24 (.buildSl false 1 [(.int .i64 0)] [(0,1,(.t 23))] 1),oo 25 (.append false 1 8 (.t 20) (.t 24)),ov 4 25])))) (.region [on 26 .add 13 1,ov 13 26]))))))) (sr [ov 27 4,ov 2 27,om 3 0] (.ret))))),[.t 2,.t 3]⟩
def F34 : AF := ⟨sr [qq 2 (.box 3 (.t 0)),qq 4 (.mov (.c (.sl none true 0 []))),qq 5 (.mov (.c (.bool false)))] (sr [qs 13 3 2,qv 14 1,qq 15 (.call 84 [.t 13,.t 14]),qv 12 15,qe 16 12 0,qe 17 12 1,qe 18 12 2,qq 6 (.alloc [(.sl none true 0 [])]),qq 7 (.alloc [(.sl none true 0 [])]),qu (.store 1 (.t 6) (.t 16)),qu (.store 1 (.t 7) (.t 17)),qv 8 18] (.seq (sr [qv 19 8,qq 20 (.un .not (.t 19))] (.cond (.t 20) (sr [qq 4 (.mov (.c (.sl none true 0 []))),qq 5 (.mov (.c (.bool false)))] (.ret)) (.skip))) (sr [qv 21 1,qq 22 (.call 85 [.t 21]),qq 9 (.alloc [(.sl none true 0 [])]),qu (.store 1 (.t 9) (.t 22))] (sr [qq 23 (.mkFn (.func 86) [] [.t 7,.t 6,.t 9]),qv 10 23] (.seq (sr [qv 24 1,qq 25 (.lenSl (.t 24)),qn 26 .sub 25 1,qv 11 26] (.block 0 (.loop (.seq (sr [qv 27 11,qn 28 .geq 27 0] (.cond (.t 28) (.skip) (.exit 0))) (.seq (.block 1 (sr [qv 31 10,qv 32 11,qq 33 (.callV (.t 31) [.t 32])] (.cond (.t 33) (sr [ql 34 9,qv 4 34,qq 5 (.mov (.c (.bool true)))] (.ret)) (.skip)))) (.region [qv 29 11,qn 30 .sub 29 1,qv 11 30])))))) (sr [qq 4 (.mov (.c (.sl none true 0 []))),qq 5 (.mov (.c (.bool false)))] (.ret))))))),[.t 4,.t 5]⟩
def F35 : AF := ⟨sr [oo 2 (.box 3 (.t 0)),oo 4 (.mov (.c (.bool false)))] (.seq (sr [os 7 3 2,oo 8 (.call 37 [.t 7]),oo 9 (.un .not (.t 8))] (.cond (.t 9) (sr [oo 4 (.mov (.c (.bool false)))] (.ret)) (.skip))) (sr [os 10 3 2,oo 11 (.call 45 [.t 10]),ov 5 11] (.seq (sr [ov 12 1,oo 13 (.lenSl (.t 12)),ov 14 5,oo 15 (.lenSl (.t 14)),ob 16 .neq 13 15] (.cond (.t 16) (sr [oo 4 (.mov (.c (.bool false)))] (.ret)) (.skip))) (.seq (sr [om 6 0] (.block 0 (.loop (.seq (sr [ov 17 6,ov 18 5,oo 19 (.lenSl (.t 18)),ob 20 .lss 17 19] (.cond (.t 20) (.skip) (.exit 0))) (.seq (.block 1 (.seq (.draw [ov 23 5,ov 24 6,ox 25 1 23 24,ol 26 25,ov 27 1,ov 28 6,ox 29 1 27 28,ol 30 29,oo 31 (.call 87 [.t 26,.t 30]),oo 32 (.un .not (.t 31))] []) (.cond (.t 32) (sr [oo 4 (.mov (.c (.bool false)))] (.ret)) (.skip)))) (.region [ov 21 6,on 22 .add 21 1,ov 6 22])))))) (sr [oo 4 (.mov (.c (.bool true)))] (.ret)))))),[.t 4]⟩
def F37 : AF := ⟨sr [oo 1 (.box 3 (.t 0)),oo 2 (.mov (.c (.bool false)))] (.seq (.draw [os 3 3 1,oo 4 (.call 32 [.t 3]),on 5 .eql 4 0,ov 6 5,og 7 (.load (some 3) (.t 1)) 6 true,og 8 (.call 52 [.t 7]) 6 true,og 9 (.lenSl (.t 8)) 6 true,og 10 (.load (some 3) (.t 1)) 6 true,og 11 (.call 66 [.t 10]) 6 true,og 12 (.lenSl (.t 11)) 6 true,og 13 (.bin .add (.t 9) (.t 12)) 6 true,og 14 (.bin .eql (.t 13) (nn 0)) 6 true,oo 15 (.pick (.t 6) (.t 14) (.c (.bool false))),ov 2 15] []) (.ret)),[.t 2]⟩
def F38 : AF := ⟨sr [oo 1 (.box 3 (.t 0)),om 2 0] (.seq (sr [os 6 3 1,oo 7 (.call 83 [.t 6]),oo 8 (.un .not (.t 7))] (.cond (.t 8) (sr [om 2 0] (.ret)) (.skip))) (sr [om 3 1] (.seq (sr [os 9 3 1,oo 10 (.call 43 [.t 9]),oo 11 (.lenSl (.t 10)),om 12 0] (.block 0 (.loop (sr [ob 13 .lss 12 11] (.seq (.cond (.t 13) (.skip) (.exit 0)) (.seq (.block 1 (sr [ox 14 1 10 12,ol 15 14,ov 5 15] (.region [ov 16 3,ov 17 5,oo 18 (.lenSl (.t 17)),ob 19 .mul 16 18,oo 20 (.minmax false [(.t 19),(nn 1000000)]),ov 3 20]))) (.region [on 21 .add 12 1,ov 12 21]))))))) (sr [ov 22 3,ov 2 22] (.ret))))),[.t 2]⟩
def F39 : AF := ⟨sr [oo 0 (.mov (.c (.bool false)))] (sr [oo 9 (.call 67 [(.c (.str [98,101,103,105,110,32,115,10,119,114,105,116,101,32,115,32,120,32,49,10,111,107,32,115,10,98,101,103,105,110,32,115,10,119,114,105,116,101,32,115,32,120,32,49,10,111,107,32,115,10,98,101,103,105,110,32,116,10,114,101,97,100,32,116,32,120,32,49,10,111,107,32,116]))]),ov 8 9,oe 10 8 0,oe 11 8 1,oe 12 8 2,oo 1 (.alloc [(.sl none true 0 []),(.sl none true 0 []),(.sl none true 0 [])]),ou (.store 3 (.t 1) (.t 10)),ov 2 11,ov 3 12] (sr [os 14 3 1,oo 15 (.call 33 [.t 14]),ov 13 15,oe 16 13 0,oe 17 13 1,ov 4 16,ov 5 17] (sr [os 19 3 1,ov 20 4,oo 21 (.call 34 [.t 19,.t 20]),ov 18 21,oe 22 18 0,oe 23 18 1,ov 6 22,ov 7 23] (sr [ov 24 3,on 25 .eql 24 0,ov 26 25,og 27 (.mov (.t 5)) 26 true,og 28 (.bin .eql (.t 27) (nn 0)) 26 true,oo 29 (.pick (.t 26) (.t 28) (.c (.bool false))),ov 30 29,og 31 (.mov (.t 7)) 30 true,oo 32 (.pick (.t 30) (.t 31) (.c (.bool false))),ov 33 32,og 34 (.mov (.t 4)) 33 true,og 35 (.buildSl false 1 [(.int .i64 0)] [(0,1,(nn 0))] 1) 33 true,og 36 (.call 26 [.t 34,.t 35]) 33 true,oo 37 (.pick (.t 33) (.t 36) (.c (.bool false))),ov 38 37,og 39 (.mov (.t 6)) 38 true,og 40 (.buildSl false 1 [(.int .i64 0)] [(0,1,(nn 1))] 1) 38 true,og 41 (.call 26 [.t 39,.t 40]) 38 true,oo 42 (.pick (.t 38) (.t 41) (.c (.bool false))),ov 43 42,og 44 (.load (some 3) (.t 1)) 43 true,og 45 (.call 38 [.t 44]) 43 true,og 46 (.bin .eql (.t 45) (nn 2)) 43 true,oo 47 (.pick (.t 43) (.t 46) (.c (.bool false))),ov 0 47] (.ret))))),[.t 0]⟩
def F42 : AF := ⟨sr [oo 1 (.box 3 (.t 0)),oo 2 (.mov (.c (.sl none true 0 [])))] (sr [oo 3 (.mov (.c (.sl none true 0 [])))] (.seq (sr [os 8 3 1,oo 9 (.call 88 [.t 8]),oo 10 (.lenSl (.t 9)),om 11 0] (.block 0 (.loop (sr [ob 12 .lss 11 10] (.seq (.cond (.t 12) (.skip) (.exit 0)) (.seq (.block 1 (sr [ox 13 1 9 11,ol 14 13,ov 5 14] (sr [of 15 2 1,ol 16 15,ov 17 5,ox 18 3 16 17,of 19 2 18,ol 20 19,oo 21 (.lenSl (.t 20)),om 22 0] (.block 2 (.loop (sr [ob 23 .lss 22 21] (.seq (.cond (.t 23) (.skip) (.exit 2)) (.seq (.block 3 (sr [ov 24 22,ov 6 24] (sr [ov 25 5,ov 26 6,oo 27 (.build [(.int .i64 0),(.int .i64 0)] [(0,1,(.t 25)),(1,1,(.t 26))]),oo 7 (.alloc [(.int .i64 0),(.int .i64 0)]),ou (.store 2 (.t 7) (.t 27))] (sr [os 28 3 1,os 29 2 7,oo 30 (.call 89 [.t 28,.t 29])] (.cond (.t 30) (.region [ov 31 3,os 32 2 7,oo 33 (.buildSl false 2 [(.int .i64 0),(.int .i64 0)] [(0,2,(.t 32))] 1),oo 34 (.append false 2 16 (.t 31) (.t 33)),ov 3 34]) (.skip)))))) (.region [on 35 .add 22 1,ov 22 35]))))))))) (.region [on 36 .add 11 1,ov 11 36]))))))) (sr [ov 37 3,ov 2 37] (.ret)))),[.t 2]⟩
def F43 : AF := ⟨sr [oo 1 (.box 3 (.t 0)),oo 2 (.mov (.c (.sl none true 0 [])))] (sr [oo 3 (.mov (.c (.sl none true 0 [])))] (.seq (sr [os 6 3 1,oo 7 (.call 42 [.t 6]),oo 8 (.lenSl (.t 7)),om 9 0] (.block 0 (.loop (sr [ob 10 .lss 9 8] (.seq (.cond (.t 10) (.skip) (.exit 0)) (.seq (.block 1 (sr [ox 11 2 7 9,os 12 2 11,oo 5 (.alloc [(.int .i64 0),(.int .i64 0)]),ou (.store 2 (.t 5) (.t 12))] (.region [ov 13 3,os 14 3 1,os 15 2 5,oo 16 (.call 27 [.t 14,.t 15]),oo 17 (.buildSl false 1 [(.sl none true 0 [])] [(0,1,(.t 16))] 1),oo 18 (.append false 1 24 (.t 13) (.t 17)),ov 3 18]))) (.region [on 19 .add 9 1,ov 9 19]))))))) (sr [ov 20 3,ov 2 20] (.ret)))),[.t 2]⟩
def F44 : AF := ⟨sr [oo 2 (.box 3 (.t 0)),oo 4 (.mov (.c (.bool false)))] (sr [os 9 3 2,ov 10 1,oo 11 (.call 84 [.t 9,.t 10]),ov 8 11,oe 12 8 0,oe 13 8 1,oe 14 8 2,ov 5 12,ov 6 13,ov 7 14] (sr [ov 15 7,ov 4 15] (.ret))),[.t 4]⟩
def F45 : AF := ⟨sr [oo 1 (.box 3 (.t 0)),oo 2 (.mov (.c (.sl none true 0 [])))] (sr [os 6 3 1,oo 7 (.call 47 [.t 6]),oo 8 (.buildSl false 1 [] [] 0),ov 3 7,ov 4 8] (.seq (sr [om 5 0] (.block 0 (.loop (.seq (sr [ov 9 5,ov 10 3,oo 11 (.lenSl (.t 10)),ob 12 .lss 9 11] (.cond (.t 12) (.skip) (.exit 0))) (.seq (.block 1 (.draw [ov 15 4,os 16 3 1,ov 17 3,ov 18 5,ox 19 2 17 18,os 20 2 19,oo 21 (.call 28 [.t 16,.t 20]),oo 22 (.buildSl false 1 [(.sl none true 0 [])] [(0,1,(.t 21))] 1),oo 23 (.append false 1 24 (.t 15) (.t 22)),ov 4 23] [])) (.region [ov 13 5,on 14 .add 13 1,ov 5 14])))))) (sr [ov 24 4,ov 2 24] (.ret)))),[.t 2]⟩
def F46 : AF := ⟨sr [oo 4 (.mov (.c (.bool false)))] (.seq (sr [ov 6 0,oo 7 (.lenSl (.t 6)),ov 8 1,oo 9 (.lenSl (.t 8)),ob 10 .neq 7 9] (.cond (.t 10) (sr [oo 4 (.mov (.c (.bool false)))] (.ret)) (.skip))) (.seq (sr [om 5 0] (.block 0 (.loop (.seq (sr [ov 11 5,ov 12 0,oo 13 (.lenSl (.t 12)),ob 14 .lss 11 13] (.cond (.t 14) (.skip) (.exit 0))) (.seq (.block 1 (.seq (.draw [ov 17 0,ov 18 5,ox 19 2 17 18,os 20 2 19,ov 21 1,ov 22 5,ox 23 2 21 22,os 24 2 23,oo 25 (.eq true (.struct [.int,.int]) (.t 20) (.t 24))] []) (.cond (.t 25) (sr [oo 4 (.mov (.c (.bool false)))] (.ret)) (.skip)))) (.region [ov 15 5,on 16 .add 15 1,ov 5 16])))))) (sr [oo 4 (.mov (.c (.bool true)))] (.ret)))),[.t 4]⟩
def F47 : AF := ⟨sr [oo 1 (.box 3 (.t 0)),oo 2 (.mov (.c (.sl none true 0 [])))] (sr [oo 7 (.buildSl false 2 [] [] 0),ov 3 7] (.seq (sr [om 4 0] (.block 0 (.loop (.seq (sr [ov 8 4,of 9 2 1,ol 10 9,oo 11 (.lenSl (.t 10)),ob 12 .lss 8 11] (.cond (.t 12) (.skip) (.exit 0))) (.seq (.block 1 (sr [om 5 0] (.block 2 (.loop (.seq (sr [ov 15 5,of 16 2 1,ol 17 16,ov 18 4,ox 19 3 17 18,of 20 2 19,ol 21 20,oo 22 (.lenSl (.t 21)),ob 23 .lss 15 22] (.cond (.t 23) (.skip) (.exit 2))) (.seq (.block 3 (sr [ov 26 4,ov 27 5,oo 28 (.build [(.int .i64 0),(.int .i64 0)] [(0,1,(.t 26)),(1,1,(.t 27))]),oo 6 (.alloc [(.int .i64 0),(.int .i64 0)]),ou (.store 2 (.t 6) (.t 28))] (sr [of 29 2 1,ol 30 29,ov 31 4,ox 32 3 30 31,of 33 1 32,ol 34 33,on 35 .eql 34 1,ov 36 35,og 37 (.load (some 3) (.t 1)) 36 true,og 38 (.load (some 2) (.t 6)) 36 true,og 39 (.call 90 [.t 37,.t 38]) 36 true,oo 40 (.pick (.t 36) (.t 39) (.c (.bool false)))] (.cond (.t 40) (.region [ov 41 3,os 42 2 6,oo 43 (.buildSl false 2 [(.int .i64 0),(.int .i64 0)] [(0,2,(.t 42))] 1),oo 44 (.append false 2 16 (.t 41) (.t 43)),ov 3 44]) (.skip))))) (.region [ov 24 5,on 25 .add 24 1,ov 5 25]))))))) (.region [ov 13 4,on 14 .add 13 1,ov 4 14])))))) (sr [ov 45 3,ov 2 45] (.ret)))),[.t 2]⟩
def F52 : AF := ⟨sr [oo 1 (.box 3 (.t 0)),oo 2 (.mov (.c (.sl none true 0 [])))] (sr [oo 5 (.buildSl false 1 [] [] 0),ov 3 5] (.seq (sr [om 4 0] (.block 0 (.loop (.seq (sr [ov 6 4,of 7 2 1,ol 8 7,oo 9 (.lenSl (.t 8)),ob 10 .lss 6 9] (.cond (.t 10) (.skip) (.exit 0))) (.seq (.block 1 (sr [of 13 2 1,ol 14 13,ov 15 4,ox 16 3 14 15,of 17 1 16,ol 18 17,on 19 .eql 18 3] (.cond (.t 19) (.region [ov 20 3,ov 21 4,oo 22 (.buildSl false 1 [(.int .i64 0)] [(0,1,(.t 21))] 1),oo 23 (.append false 1 8 (.t 20) (.t 22)),ov 3 23]) (.skip)))) (.region [ov 11 4,on 12 .add 11 1,ov 4 12])))))) (sr [ov 24 3,ov 2 24] (.ret)))),[.t 2]⟩
def F61 : AF := ⟨sr [oo 1 (.box 3 (.t 0)),oo 2 (.mov (.c (.sl none true 0 [])))] (sr [os 3 3 1,oo 4 (.call 100 [(.t 3),(.c (.fn (.func 101) [] []))]),ov 2 4] (.ret)),[.t 2]⟩
def F62 : AF := ⟨sr [oo 1 (.box 3 (.t 0)),oo 2 (.mov (.c (.sl none true 0 [])))] (.seq (sr [os 6 3 1,oo 7 (.call 70 [.t 6]),on 8 .neq 7 0] (.cond (.t 8) (sr [oo 2 (.mov (.c (.sl none true 0 [])))] (.ret)) (.skip))) (sr [oo 3 (.alloc [(.sl none true 0 [])])] (.seq (sr [os 9 3 1,oo 10 (.call 102 [.t 9])] (.block 0 (.rangeFunc (.t 10) [11,12] (sr [oo 4 (.alloc [(.int .i64 0),(.int .i64 0)]),ou (.store 2 (.t 4) (.t 11))] (.region [oo 5 (.alloc [(.bool false),(.int .i64 0),(.int .i64 0),(.int .i64 0)]),ou (.store 4 (.t 5) (.t 12))])) (.block 1 (sr [of 13 2 5,of 14 0 13,ol 15 14,on 16 .eql 15 2] (.cond (.t 16) (.region [ol 17 3,os 18 2 4,oo 19 (.buildSl false 2 [(.int .i64 0),(.int .i64 0)] [(0,2,(.t 18))] 1),oo 20 (.append false 2 16 (.t 17) (.t 19)),ou (.store 1 (.t 3) (.t 20))]) (.skip))))))) (sr [ol 21 3,ov 2 21] (.ret))))),[.t 2]⟩
def F66 : AF := ⟨sr [oo 1 (.box 3 (.t 0)),oo 2 (.mov (.c (.sl none true 0 [])))] (sr [oo 6 (.buildSl false 2 [] [] 0),ov 3 6] (.seq (sr [om 4 0] (.block 0 (.loop (.seq (sr [ov 7 4,of 8 2 1,ol 9 8,oo 10 (.lenSl (.t 9)),ob 11 .lss 7 10] (.cond (.t 11) (.skip) (.exit 0))) (.seq (.block 1 (sr [om 5 0] (.block 2 (.loop (.seq (sr [ov 14 5,of 15 2 1,ol 16 15,ov 17 4,ox 18 3 16 17,of 19 2 18,ol 20 19,oo 21 (.lenSl (.t 20)),ob 22 .lss 14 21] (.cond (.t 22) (.skip) (.exit 2))) (.seq (.block 3 (sr [of 25 2 1,ol 26 25,ov 27 4,ox 28 3 26 27,of 29 2 28,ol 30 29,ov 31 5,ox 32 4 30 31,of 33 2 32,of 34 0 33,ol 35 34,on 36 .eql 35 2] (.cond (.t 36) (.region [ov 37 3,ov 38 4,ov 39 5,oo 40 (.build [(.int .i64 0),(.int .i64 0)] [(0,1,(.t 38)),(1,1,(.t 39))]),oo 41 (.buildSl false 2 [(.int .i64 0),(.int .i64 0)] [(0,2,(.t 40))] 1),oo 42 (.append false 2 16 (.t 37) (.t 41)),ov 3 42]) (.skip)))) (.region [ov 23 5,on 24 .add 23 1,ov 5 24]))))))) (.region [ov 12 4,on 13 .add 12 1,ov 4 13])))))) (sr [ov 43 3,ov 2 43] (.ret)))),[.t 2]⟩
def F67 : AF := ⟨sr [oo 2 (.alloc [(.sl none true 0 []),(.sl none true 0 []),(.sl none true 0 [])]),om 3 0,om 4 0] (sr [ov 9 0,oo 10 (.call 104 [.t 9]),ov 8 10,oe 11 8 0,oe 12 8 1,oe 13 8 2,ov 5 11,ov 6 12,ov 7 13] (.seq (sr [ov 14 7,on 15 .neq 14 0] (.cond (.t 15) (sr [oo 16 (.build [(.sl none true 0 []),(.sl none true 0 []),(.sl none true 0 [])] []),ov 17 6,ov 18 7,ou (.store 3 (.t 2) (.t 16)),ov 3 17,ov 4 18] (.ret)) (.skip))) (sr [ov 19 5,oo 20 (.call 105 [.t 19]),oe 21 20 0,oe 22 20 1,oe 23 20 2,ou (.store 3 (.t 2) (.t 21)),ov 3 22,ov 4 23] (.ret)))),[.cell 2 (some 3),.t 3,.t 4]⟩
def F70 : AF := ⟨sr [oo 1 (.box 3 (.t 0)),oo 2 (.alloc [(.int .i64 0)])] (.seq (sr [os 5 3 1,oo 6 (.call 107 [.t 5]),oo 7 (.un .not (.t 6)),ov 8 7,og 9 (.fieldAddr 2 (.t 1)) 8 false,og 10 (.load none (.t 9)) 8 false,og 11 (.mkFn (.func 109) [] [.t 1]) 8 false,og 12 (.call 108 [.t 10,.t 11]) 8 false,oo 13 (.pick (.t 8) (.c (.bool true)) (.t 12))] (.cond (.t 13) (sr [ou (.store 1 (.t 2) (nn 4))] (.ret)) (.skip))) (.seq (sr [os 14 3 1,oo 15 (.call 102 [.t 14])] (.block 0 (.rangeFunc (.t 15) [16,17] (.region [oo 4 (.alloc [(.bool false),(.int .i64 0),(.int .i64 0),(.int .i64 0)]),ou (.store 4 (.t 4) (.t 17))]) (.block 1 (sr [os 18 3 1,os 19 4 4,oo 20 (.call 111 [.t 18,.t 19]),oo 21 (.un .not (.t 20))] (.cond (.t 21) (sr [ou (.store 1 (.t 2) (nn 4))] (.ret)) (.skip))))))) (.seq (sr [os 22 3 1,oo 23 (.call 112 [.t 22]),oo 24 (.un .not (.t 23))] (.cond (.t 24) (sr [ou (.store 1 (.t 2) (nn 4))] (.ret)) (.skip))) (sr [ou (.store 1 (.t 2) (nn 0))] (.ret))))),[.cell 2 none]⟩
def F72 : AF := ⟨sr [oo 2 (.box 3 (.t 0)),oo 3 (.box 1 (.t 1)),oo 4 (.mov (.c (.sl none true 0 [])))] (.seq (sr [os 9 3 2,oo 10 (.call 70 [.t 9]),on 11 .neq 10 0] (.cond (.t 11) (sr [oo 4 (.mov (.c (.sl none true 0 [])))] (.ret)) (.skip))) (sr [oo 12 (.mkFn (.func 113) [] [.t 3]),ov 5 12] (sr [oo 6 (.mov (.c (.sl none true 0 [])))] (.seq (sr [of 13 2 2,ol 14 13,oo 15 (.lenSl (.t 14)),om 16 0] (.block 0 (.loop (sr [ob 17 .lss 16 15] (.seq (.cond (.t 17) (.skip) (.exit 0)) (.seq (.block 1 (sr [ov 18 16,ox 19 3 14 16,os 20 3 19,oo 8 (.alloc [(.int .i64 0),(.int .i64 0),(.sl none true 0 [])]),ov 7 18,ou (.store 3 (.t 8) (.t 20))] (sr [ov 21 5,os 22 3 8,oo 23 (.callV (.t 21) [.t 22])] (.cond (.t 23) (.region [ov 24 6,ov 25 7,oo 26 (.buildSl false 1 [(.int .i64 0)] [(0,1,(.t 25))] 1),oo 27 (.append false 1 8 (.t 24) (.t 26)),ov 6 27]) (.skip))))) (.region [on 28 .add 16 1,ov 16 28]))))))) (sr [ov 29 6,ov 4 29] (.ret)))))),[.t 4]⟩
def F74 : AF := ⟨sr [oo 2 (.box 3 (.t 0)),oo 3 (.box 2 (.t 1)),oo 4 (.alloc [(.bool false),(.int .i64 0),(.int .i64 0),(.int .i64 0)]),oo 5 (.mov (.c (.bool false)))] (.seq (.seq (.draw [os 7 3 2,oo 8 (.call 70 [.t 7]),on 9 .neq 8 0,ov 10 9,og 11 (.fieldAddr 0 (.t 3)) 10 false,og 12 (.load none (.t 11)) 10 false,og 13 (.bin .lss (.t 12) (nn 0)) 10 false,oo 14 (.pick (.t 10) (.c (.bool true)) (.t 13)),ov 15 14,og 16 (.fieldAddr 0 (.t 3)) 15 false,og 17 (.load none (.t 16)) 15 false,og 18 (.fieldAddr 2 (.t 2)) 15 false,og 19 (.load none (.t 18)) 15 false,og 20 (.lenSl (.t 19)) 15 false,og 21 (.bin .geq (.t 17) (.t 20)) 15 false,oo 22 (.pick (.t 15) (.c (.bool true)) (.t 21)),ov 23 22,og 24 (.fieldAddr 1 (.t 3)) 23 false,og 25 (.load none (.t 24)) 23 false,og 26 (.bin .lss (.t 25) (nn 0)) 23 false,oo 27 (.pick (.t 23) (.c (.bool true)) (.t 26)),ov 28 27,og 29 (.fieldAddr 1 (.t 3)) 28 false,og 30 (.load none (.t 29)) 28 false,og 31 (.fieldAddr 2 (.t 2)) 28 false,og 32 (.load none (.t 31)) 28 false,og 33 (.fieldAddr 0 (.t 3)) 28 false,og 34 (.load none (.t 33)) 28 false,og 35 (.idxSl 3 (.t 32) (.t 34)) 28 false,og 36 (.fieldAddr 2 (.t 35)) 28 false,og 37 (.load none (.t 36)) 28 false,og 38 (.lenSl (.t 37)) 28 false,og 39 (.bin .geq (.t 30) (.t 38)) 28 false,oo 40 (.pick (.t 28) (.c (.bool true)) (.t 39))] []) (.cond (.t 40) (sr [oo 41 (.build [(.bool false),(.int .i64 0),(.int .i64 0),(.int .i64 0)] []),ou (.store 4 (.t 4) (.t 41)),oo 5 (.mov (.c (.bool false)))] (.ret)) (.skip))) (.seq (.draw [of 42 2 2,ol 43 42,of 44 0 3,ol 45 44,ox 46 3 43 45,of 47 2 46,ol 48 47,of 49 1 3,ol 50 49,ox 51 4 48 50,os 52 4 51,oo 6 (.alloc [(.bool false),(.int .i64 0),(.int .i64 0),(.int .i64 0)]),ou (.store 4 (.t 6) (.t 52))] [(1,11),(3,11),(6,11),(8,11),(10,11)]) (.seq (.draw [os 53 4 6,of 54 0 6,ol 55 54,oo 56 (.un .not (.t 55)),ou (.store 4 (.t 4) (.t 53)),ov 5 56] [(2,4)]) (.ret)))),[.cell 4 (some 4),.t 5]⟩
def F77 : AF := ⟨sr [oo 2 (.box 3 (.t 0)),oo 3 (.box 2 (.t 1)),oo 4 (.mov (.c (.bool false)))] (.seq (.draw [os 5 3 2,oo 6 (.call 32 [.t 5]),on 7 .eql 6 0,ov 8 7,og 9 (.fieldAddr 0 (.t 3)) 8 true,og 10 (.load none (.t 9)) 8 true,og 11 (.bin .geq (.t 10) (nn 0)) 8 true,oo 12 (.pick (.t 8) (.t 11) (.c (.bool false))),ov 13 12,og 14 (.fieldAddr 0 (.t 3)) 13 true,og 15 (.load none (.t 14)) 13 true,og 16 (.fieldAddr 2 (.t 2)) 13 true,og 17 (.load none (.t 16)) 13 true,og 18 (.lenSl (.t 17)) 13 true,og 19 (.bin .lss (.t 15) (.t 18)) 13 true,oo 20 (.pick (.t 13) (.t 19) (.c (.bool false))),ov 21 20,og 22 (.fieldAddr 1 (.t 3)) 21 true,og 23 (.load none (.t 22)) 21 true,og 24 (.bin .geq (.t 23) (nn 0)) 21 true,oo 25 (.pick (.t 21) (.t 24) (.c (.bool false))),ov 26 25,og 27 (.fieldAddr 1 (.t 3)) 26 true,og 28 (.load none (.t 27)) 26 true,og 29 (.fieldAddr 2 (.t 2)) 26 true,og 30 (.load none (.t 29)) 26 true,og 31 (.fieldAddr 0 (.t 3)) 26 true,og 32 (.load none (.t 31)) 26 true,og 33 (.idxSl 3 (.t 30) (.t 32)) 26 true,og 34 (.fieldAddr 2 (.t 33)) 26 true,og 35 (.load none (.t 34)) 26 true,og 36 (.lenSl (.t 35)) 26 true,og 37 (.bin .lss (.t 28) (.t 36)) 26 true,oo 38 (.pick (.t 26) (.t 37) (.c (.bool false))),ov 39 38,og 40 (.fieldAddr 2 (.t 2)) 39 true,og 41 (.load none (.t 40)) 39 true,og 42 (.fieldAddr 0 (.t 3)) 39 true,og 43 (.load none (.t 42)) 39 true,og 44 (.idxSl 3 (.t 41) (.t 43)) 39 true,og 45 (.fieldAddr 2 (.t 44)) 39 true,og 46 (.load none (.t 45)) 39 true,og 47 (.fieldAddr 1 (.t 3)) 39 true,og 48 (.load none (.t 47)) 39 true,og 49 (.idxSl 4 (.t 46) (.t 48)) 39 true,og 50 (.fieldAddr 0 (.t 49)) 39 true,og 51 (.load none (.t 50)) 39 true,og 52 (.un .not (.t 51)) 39 true,oo 53 (.pick (.t 39) (.t 52) (.c (.bool false))),ov 4 53] []) (.ret)),[.t 4]⟩
def F78 : AF := ⟨sr [oo 3 (.box 3 (.t 0)),oo 6 (.alloc [(.int .i64 0),(.int .i64 0)]),oo 7 (.mov (.c (.bool false)))] (sr [oo 11 (.build [(.int .i64 0),(.int .i64 0)] []),oo 8 (.alloc [(.int .i64 0),(.int .i64 0)]),ou (.store 2 (.t 8) (.t 11)),oo 9 (.mov (.c (.bool false)))] (.seq (sr [om 10 0] (.block 0 (.loop (.seq (sr [ov 12 10,ov 13 1,ob 14 .lss 12 13,ov 15 14,og 16 (.mov (.t 10)) 15 true,og 17 (.fieldAddr 2 (.t 3)) 15 true,og 18 (.load none (.t 17)) 15 true,og 19 (.lenSl (.t 18)) 15 true,og 20 (.bin .lss (.t 16) (.t 19)) 15 true,oo 21 (.pick (.t 15) (.t 20) (.c (.bool false)))] (.cond (.t 21) (.skip) (.exit 0))) (.seq (.block 1 (sr [of 24 2 3,ol 25 24,ov 26 10,ox 27 4 25 26,of 28 0 27,ol 29 28,ov 30 29,og 31 (.fieldAddr 2 (.t 3)) 30 true,og 32 (.load none (.t 31)) 30 true,og 33 (.mov (.t 10)) 30 true,og 34 (.idxSl 4 (.t 32) (.t 33)) 30 true,og 35 (.fieldAddr 1 (.t 34)) 30 true,og 36 (.load none (.t 35)) 30 true,og 37 (.mov (.t 2)) 30 true,og 38 (.bin .eql (.t 36) (.t 37)) 30 true,oo 39 (.pick (.t 30) (.t 38) (.c (.bool false)))] (.cond (.t 39) (.region [of 40 2 3,ol 41 40,ov 42 10,ox 43 4 41 42,of 44 2 43,os 45 2 44,ou (.store 2 (.t 8) (.t 45)),oo 9 (.mov (.c (.bool true)))]) (.skip)))) (.region [ov 22 10,on 23 .add 22 1,ov 10 23])))))) (sr [os 46 2 8,ov 47 9,ou (.store 2 (.t 6) (.t 46)),ov 7 47] (.ret)))),[.cell 6 (some 2),.t 7]⟩
def F81 : AF := ⟨sr [oo 2 (.mov (.c (.bool false)))] (.seq (sr [om 3 0] (.block 0 (.loop (.seq (sr [ov 4 3,ov 5 0,oo 6 (.lenSl (.t 5)),ob 7 .lss 4 6] (.cond (.t 7) (.skip) (.exit 0))) (.seq (.block 1 (.seq (.draw [ov 10 0,ov 11 3,ox 12 1 10 11,ol 13 12,oo 14 (.call 126 [.t 13]),oo 15 (.un .not (.t 14)),ov 16 15,og 17 (.mov (.t 3)) 16 false,og 18 (.bin .gtr (.t 17) (nn 0)) 16 false,og 19 (.mov (.t 18)) 16 false,og 20 (.mov (.t 0)) 19 true,og 21 (.mov (.t 3)) 19 true,og 22 (.bin .sub (.t 21) (nn 1)) 19 true,og 23 (.idxSl 1 (.t 20) (.t 22)) 19 true,og 24 (.load none (.t 23)) 19 true,og 25 (.mov (.t 0)) 19 true,og 26 (.mov (.t 3)) 19 true,og 27 (.idxSl 1 (.t 25) (.t 26)) 19 true,og 28 (.load none (.t 27)) 19 true,og 29 (.call 127 [.t 24,.t 28]) 19 true,og 30 (.un .not (.t 29)) 19 true,og 31 (.pick (.t 19) (.t 30) (.c (.bool false))) 16 false,oo 32 (.pick (.t 16) (.c (.bool true)) (.t 31))] []) (.cond (.t 32) (sr [oo 2 (.mov (.c (.bool false)))] (.ret)) (.skip)))) (.region [ov 8 3,on 9 .add 8 1,ov 3 9])))))) (sr [oo 2 (.mov (.c (.bool true)))] (.ret))),[.t 2]⟩
def F83 : AF := ⟨sr [oo 1 (.box 3 (.t 0)),oo 2 (.mov (.c (.bool false)))] (sr [os 3 3 1,oo 4 (.call 70 [.t 3]),on 5 .eql 4 0,ov 6 5,og 7 (.load (some 3) (.t 1)) 6 true,og 8 (.call 61 [.t 7]) 6 true,og 9 (.lenSl (.t 8)) 6 true,og 10 (.bin .eql (.t 9) (nn 0)) 6 true,oo 11 (.pick (.t 6) (.t 10) (.c (.bool false))),ov 12 11,og 13 (.load (some 3) (.t 1)) 12 true,og 14 (.call 62 [.t 13]) 12 true,og 15 (.lenSl (.t 14)) 12 true,og 16 (.bin .eql (.t 15) (nn 0)) 12 true,oo 17 (.pick (.t 12) (.t 16) (.c (.bool false))),ov 2 17] (.ret)),[.t 2]⟩
def F84 : AF := ⟨sr [qq 2 (.box 3 (.t 0)),qq 4 (.mov (.c (.sl none true 0 []))),qq 5 (.mov (.c (.sl none true 0 []))),qq 6 (.mov (.c (.bool false)))] (sr [qs 11 3 2,qq 12 (.call 43 [.t 11]),qv 7 12] (.seq (sr [qs 13 3 2,qq 14 (.call 83 [.t 13]),qq 15 (.un .not (.t 14)),qv 16 15,qg 17 (.mov (.t 7)) 16 false,qg 18 (.lenSl (.t 17)) 16 false,qg 19 (.mov (.t 1)) 16 false,qg 20 (.lenSl (.t 19)) 16 false,qg 21 (.bin .neq (.t 18) (.t 20)) 16 false,qq 22 (.pick (.t 16) (.c (.bool true)) (.t 21))] (.cond (.t 22) (sr [qq 4 (.mov (.c (.sl none true 0 []))),qq 5 (.mov (.c (.sl none true 0 []))),qq 6 (.mov (.c (.bool false)))] (.ret)) (.skip))) (sr [qv 23 1,qq 24 (.lenSl (.t 23)),qq 25 (.mkSl true 1 8 [(.int .i64 0)] (.t 24) (.t 24)),qv 8 25] (.seq (sr [qv 26 7,qq 27 (.lenSl (.t 26)),qm 28 0] (.block 0 (.loop (sr [qb 29 .lss 28 27] (.seq (.cond (.t 29) (.skip) (.exit 0)) (.seq (.block 1 (sr [qv 30 28,qx 31 1 26 28,ql 32 31,qv 9 30,qv 10 32] (sr [qv 33 8,qv 34 9,qv 35 10,qv 36 1,qv 37 9,qx 38 1 36 37,ql 39 38,qq 40 (.call 128 [.t 35,.t 39]),qx 41 1 33 34,qu (.store 1 (.t 41) (.t 40))] (sr [qv 42 8,qv 43 9,qx 44 1 42 43,ql 45 44,qn 46 .lss 45 0] (.cond (.t 46) (sr [qq 4 (.mov (.c (.sl none true 0 []))),qq 5 (.mov (.c (.sl none true 0 []))),qq 6 (.mov (.c (.bool false)))] (.ret)) (.skip)))))) (.region [qn 47 .add 28 1,qv 28 47]))))))) (sr [qv 48 7,qv 49 8,qv 4 48,qv 5 49,qq 6 (.mov (.c (.bool true)))] (.ret)))))),[.t 4,.t 5,.t 6]⟩
def F87 : AF := ⟨sr [oo 4 (.mov (.c (.bool false)))] (.seq (sr [om 5 0] (.block 0 (.loop (.seq (sr [ov 6 5,ov 7 0,oo 8 (.lenSl (.t 7)),ob 9 .lss 6 8] (.cond (.t 9) (.skip) (.exit 0))) (.seq (.block 1 (sr [ov 12 0,ov 13 5,ox 14 1 12 13,ol 15 14,ov 16 1,ob 17 .eql 15 16] (.cond (.t 17) (sr [oo 4 (.mov (.c (.bool true)))] (.ret)) (.skip)))) (.region [ov 10 5,on 11 .add 10 1,ov 5 11])))))) (sr [oo 4 (.mov (.c (.bool false)))] (.ret))),[.t 4]⟩
def F88 : AF := ⟨sr [oo 1 (.box 3 (.t 0)),oo 2 (.mov (.c (.sl none true 0 [])))] (.seq (sr [os 6 3 1,oo 7 (.call 83 [.t 6]),oo 8 (.un .not (.t 7))] (.cond (.t 8) (sr [oo 2 (.mov (.c (.sl none true 0 [])))] (.ret)) (.skip))) (sr [oo 3 (.mov (.c (.sl none true 0 [])))] (.seq (sr [of 9 2 1,ol 10 9,oo 11 (.lenSl (.t 10)),om 12 0] (.block 0 (.loop (sr [ob 13 .lss 12 11] (.seq (.cond (.t 13) (.skip) (.exit 0)) (.seq (.block 1 (sr [ov 14 12,ox 15 3 10 12,os 16 3 15,oo 5 (.alloc [(.int .i64 0),(.int .i64 0),(.sl none true 0 [])]),ov 4 14,ou (.store 3 (.t 5) (.t 16))] (sr [of 17 1 5,ol 18 17,on 19 .eql 18 1] (.cond (.t 19) (.region [ov 20 3,ov 21 4,oo 22 (.buildSl false 1 [(.int .i64 0)] [(0,1,(.t 21))] 1),oo 23 (.append false 1 8 (.t 20) (.t 22)),ov 3 23]) (.skip))))) (.region [on 24 .add 12 1,ov 12 24]))))))) (sr [ov 25 3,ov 2 25] (.ret))))),[.t 2]⟩
def F89 : AF := ⟨sr [oo 2 (.box 3 (.t 0)),oo 3 (.box 2 (.t 1)),oo 4 (.mov (.c (.bool false)))] (sr [os 8 3 2,of 9 0 3,ol 10 9,oo 11 (.call 129 [.t 8,.t 10]),ov 5 11] (.seq (sr [of 12 1 3,ol 13 12,on 14 .lss 13 0,ov 15 14,og 16 (.fieldAddr 1 (.t 3)) 15 false,og 17 (.load none (.t 16)) 15 false,og 18 (.mov (.t 5)) 15 false,og 19 (.lenSl (.t 18)) 15 false,og 20 (.bin .geq (.t 17) (.t 19)) 15 false,oo 21 (.pick (.t 15) (.c (.bool true)) (.t 20)),ov 22 21,og 23 (.mov (.t 5)) 22 false,og 24 (.fieldAddr 1 (.t 3)) 22 false,og 25 (.load none (.t 24)) 22 false,og 26 (.idxSl 4 (.t 23) (.t 25)) 22 false,og 27 (.fieldAddr 0 (.t 26)) 22 false,og 28 (.load none (.t 27)) 22 false,oo 29 (.pick (.t 22) (.c (.bool true)) (.t 28))] (.cond (.t 29) (sr [oo 4 (.mov (.c (.bool false)))] (.ret)) (.skip))) (.seq (.draw [ov 31 5,of 32 1 3,ol 33 32,oo 34 (.slSl 4 (.t 31) none (some (.t 33))),ov 35 5,of 36 1 3,ol 37 36,ox 38 4 35 37,of 39 1 38,ol 40 39,oo 41 (.call 130 [.t 34,.t 40]),ov 30 41,oe 42 30 0,oe 43 30 1,oo 6 (.alloc [(.int .i64 0),(.int .i64 0)]),ou (.store 2 (.t 6) (.t 42)),ov 7 43] [(2,14),(6,14),(9,14),(10,14)]) (sr [ov 44 7,oo 45 (.un .not (.t 44)),ov 4 45] (.ret))))),[.t 4]⟩
def F90 : AF := ⟨sr [oo 2 (.box 3 (.t 0)),oo 3 (.box 2 (.t 1)),oo 4 (.mov (.c (.bool false)))] (.seq (.seq (.draw [os 7 3 2,os 8 2 3,oo 9 (.call 131 [.t 7,.t 8]),oo 10 (.un .not (.t 9)),ov 11 10,og 12 (.fieldAddr 2 (.t 2)) 11 false,og 13 (.load none (.t 12)) 11 false,og 14 (.fieldAddr 0 (.t 3)) 11 false,og 15 (.load none (.t 14)) 11 false,og 16 (.idxSl 3 (.t 13) (.t 15)) 11 false,og 17 (.fieldAddr 2 (.t 16)) 11 false,og 18 (.load none (.t 17)) 11 false,og 19 (.fieldAddr 1 (.t 3)) 11 false,og 20 (.load none (.t 19)) 11 false,og 21 (.idxSl 4 (.t 18) (.t 20)) 11 false,og 22 (.fieldAddr 0 (.t 21)) 11 false,og 23 (.load none (.t 22)) 11 false,oo 24 (.pick (.t 11) (.c (.bool true)) (.t 23))] []) (.cond (.t 24) (sr [oo 4 (.mov (.c (.bool false)))] (.ret)) (.skip))) (sr [os 26 3 2,os 27 2 3,oo 28 (.call 132 [.t 26,.t 27]),ov 25 28,oe 29 25 0,oe 30 25 1,oo 5 (.alloc [(.int .i64 0),(.int .i64 0)]),ou (.store 2 (.t 5) (.t 29)),ov 6 30] (sr [ov 31 6,oo 32 (.un .not (.t 31)),ov 4 32] (.ret)))),[.t 4]⟩
def F100 : AF := ⟨sr [oo 2 (.box 3 (.t 0)),oo 4 (.mov (.c (.sl none true 0 [])))] (.seq (sr [os 8 3 2,oo 9 (.call 70 [.t 8]),on 10 .neq 9 0] (.cond (.t 10) (sr [oo 4 (.mov (.c (.sl none true 0 [])))] (.ret)) (.skip))) (sr [oo 5 (.mov (.c (.sl none true 0 [])))] (.seq (sr [of 11 2 2,ol 12 11,oo 13 (.lenSl (.t 12)),om 14 0] (.block 0 (.loop (sr [ob 15 .lss 14 13] (.seq (.cond (.t 15) (.skip) (.exit 0)) (.seq (.block 1 (sr [ov 16 14,ox 17 3 12 14,os 18 3 17,oo 7 (.alloc [(.int .i64 0),(.int .i64 0),(.sl none true 0 [])]),ov 6 16,ou (.store 3 (.t 7) (.t 18))] (sr [ov 19 1,os 20 3 7,oo 21 (.callV (.t 19) [.t 20])] (.cond (.t 21) (.region [ov 22 5,ov 23 6,oo 24 (.buildSl false 1 [(.int .i64 0)] [(0,1,(.t 23))] 1),oo 25 (.append false 1 8 (.t 22) (.t 24)),ov 5 25]) (.skip))))) (.region [on 26 .add 14 1,ov 14 26]))))))) (sr [ov 27 5,ov 4 27] (.ret))))),[.t 4]⟩
def F101 : AF := ⟨sr [oo 1 (.box 3 (.t 0)),oo 2 (.mov (.c (.bool false)))] (sr [of 3 1 1,ol 4 3,on 5 .eql 4 3,ov 2 5] (.ret)),[.t 2]⟩
def F104 : AF := ⟨sr [oo 2 (.mov (.c (.sl none true 0 []))),om 3 0,om 4 0] (sr [ov 15 0,oo 16 (.call 147 [.t 15]),ov 14 16,oe 17 14 0,oe 18 14 1,oe 19 14 2,ov 5 17,ov 6 18,ov 7 19] (.seq (sr [ov 20 7,on 21 .neq 20 0] (.cond (.t 21) (sr [ov 22 6,ov 23 7,oo 2 (.mov (.c (.sl none true 0 []))),ov 3 22,ov 4 23] (.ret)) (.skip))) (sr [oo 8 (.mov (.c (.sl none true 0 [])))] (.seq (sr [ov 24 5,oo 25 (.lenSl (.t 24)),om 26 0] (.block 0 (.loop (sr [ob 27 .lss 26 25] (.seq (.cond (.t 27) (.skip) (.exit 0)) (.seq (.block 1 (sr [ov 28 26,ox 29 1 24 26,ol 30 29,ov 9 28,ov 10 30] (sr [ov 32 10,oo 33 (.call 148 [.t 32]),ov 31 33,oe 34 31 0,oe 35 31 1,oe 36 31 2,oo 11 (.alloc [(.int .i64 0),(.str []),(.str []),(.int .i64 0),(.int .i64 0),(.int .i64 0)]),ou (.store 6 (.t 11) (.t 34)),ov 12 35,ov 13 36] (.seq (sr [ov 37 12,ov 38 37,og 39 (.mov (.t 8)) 38 true,og 40 (.lenSl (.t 39)) 38 true,og 41 (.bin .eql (.t 40) (nn 1000)) 38 true,oo 42 (.pick (.t 38) (.t 41) (.c (.bool false)))] (.cond (.t 42) (.region [om 13 7]) (.skip))) (.seq (sr [ov 43 13,on 44 .neq 43 0] (.cond (.t 44) (sr [ov 45 9,on 46 .add 45 1,ov 47 13,oo 2 (.mov (.c (.sl none true 0 []))),ov 3 46,ov 4 47] (.ret)) (.skip))) (sr [ov 48 12] (.cond (.t 48) (sr [ov 49 9,on 50 .add 49 1,of 51 5 11,ou (.store 1 (.t 51) (.t 50))] (.region [ov 52 8,os 53 6 11,oo 54 (.buildSl false 6 [(.int .i64 0),(.str []),(.str []),(.int .i64 0),(.int .i64 0),(.int .i64 0)] [(0,6,(.t 53))] 1),oo 55 (.append false 6 64 (.t 52) (.t 54)),ov 8 55])) (.skip)))))))) (.region [on 56 .add 26 1,ov 26 56]))))))) (sr [ov 57 8,ov 2 57,om 3 0,om 4 0] (.ret)))))),[.t 2,.t 3,.t 4]⟩
def F105 : AF := ⟨sr [qq 2 (.alloc [(.sl none true 0 []),(.sl none true 0 []),(.sl none true 0 [])]),qm 3 0,qm 4 0] (sr [qv 14 0,qq 15 (.call 149 [.t 14]),qv 13 15,qe 16 13 0,qe 17 13 1,qe 18 13 2,qv 5 16,qv 6 17,qv 7 18] (.seq (sr [qv 19 7,qn 20 .neq 19 0] (.cond (.t 20) (sr [qq 21 (.build [(.sl none true 0 []),(.sl none true 0 []),(.sl none true 0 [])] []),qv 22 6,qv 23 7,qu (.store 3 (.t 2) (.t 21)),qv 3 22,qv 4 23] (.ret)) (.skip))) (.seq (.draw [qv 24 5,qq 25 (.nilCheck (.t 24)),qf 26 2 25,ql 27 26,qq 28 (.call 150 [.t 27]),qv 29 5,qq 30 (.nilCheck (.t 29)),qf 31 3 30,ql 32 31,qq 33 (.call 150 [.t 32]),qq 34 (.build [(.sl none true 0 []),(.sl none true 0 []),(.sl none true 0 [])] [(0,1,(.t 28)),(1,1,(.t 33))]),qq 8 (.alloc [(.sl none true 0 []),(.sl none true 0 []),(.sl none true 0 [])]),qu (.store 3 (.t 8) (.t 34))] [(3,11),(4,11),(8,11),(9,11)]) (.seq (sr [qv 35 5,qq 36 (.nilCheck (.t 35)),qf 37 0 36,ql 38 37,qq 39 (.lenSl (.t 38)),qm 40 0] (.block 0 (.loop (sr [qb 41 .lss 40 39] (.seq (.cond (.t 41) (.skip) (.exit 0)) (.seq (.block 1 (sr [qx 42 1 38 40,ql 43 42,qv 10 43] (.seq (.seq (.draw [qv 44 5,qq 45 (.nilCheck (.t 44)),qf 46 1 45,ql 47 46,qv 48 10,qq 49 (.nilCheck (.t 48)),qf 50 0 49,ql 51 50,qq 52 (.lookup .str .nilptr false (.t 47) (.t 51)),qv 53 10,qq 54 (.eq false .ptr (.t 52) (.t 53))] []) (.cond (.t 54) (.seq (.draw [qq 55 (.build [(.sl none true 0 []),(.sl none true 0 []),(.sl none true 0 [])] []),qv 56 10,qq 57 (.nilCheck (.t 56)),qf 58 2 57,ql 59 58,qu (.store 3 (.t 2) (.t 55)),qv 3 59,qm 4 12] [(4,5)]) (.ret)) (.skip))) (.seq (.draw [qv 61 10,qf 62 0 8,ql 63 62,qv 64 10,qq 65 (.nilCheck (.t 64)),qf 66 0 65,ql 67 66,qq 68 (.call 151 [.t 63,.t 67]),qv 60 68,qe 69 60 0,qe 70 60 1,qq 71 (.nilCheck (.t 61)),qf 72 3 71,qf 73 0 72,qu (.store 1 (.t 73) (.t 69))] []) (.seq (.seq (.draw [qv 74 10,qq 75 (.nilCheck (.t 74)),qf 76 1 75,ql 77 76,qf 78 1 8,ql 79 78,qq 80 (.call 152 [.t 77,.t 79]),qq 81 (.lenSl (.t 80)),qm 82 0] []) (.block 2 (.loop (sr [qb 83 .lss 82 81] (.seq (.cond (.t 83) (.skip) (.exit 2)) (.seq (.block 3 (sr [qv 84 82,qx 85 1 80 82,ql 86 85,qv 11 84,qv 12 86] (.region [qv 87 10,qq 88 (.nilCheck (.t 87)),qf 89 3 88,qf 90 2 89,ql 91 90,qv 92 11,qv 93 12,qx 94 4 91 92,qf 95 1 94,qu (.store 1 (.t 95) (.t 93))]))) (.region [qn 96 .add 82 1,qv 82 96]))))))) (.draw [qf 97 2 8,ql 98 97,qv 99 10,qq 100 (.nilCheck (.t 99)),qf 101 3 100,qs 102 3 101,qq 103 (.buildSl true 3 [(.int .i64 0),(.int .i64 0),(.sl none true 0 [])] [(0,3,(.t 102))] 1),qq 104 (.append true 3 40 (.t 98) (.t 103)),qf 105 2 8,qu (.store 1 (.t 105) (.t 104))] [(1,6)])))))) (.region [qn 106 .add 40 1,qv 40 106]))))))) (sr [qs 107 3 8,qu (.store 3 (.t 2) (.t 107)),qm 3 0,qm 4 0] (.ret)))))),[.cell 2 (some 3),.t 3,.t 4]⟩
def F107 : AF := ⟨sr [oo 1 (.box 3 (.t 0)),oo 2 (.mov (.c (.bool false)))] (sr [of 3 0 1,ol 4 3,oo 5 (.call 153 [.t 4]),ov 6 5,og 7 (.fieldAddr 1 (.t 1)) 6 true,og 8 (.load none (.t 7)) 6 true,og 9 (.call 153 [.t 8]) 6 true,oo 10 (.pick (.t 6) (.t 9) (.c (.bool false))),ov 11 10,og 12 (.fieldAddr 0 (.t 1)) 11 true,og 13 (.load none (.t 12)) 11 true,og 14 (.lenSl (.t 13)) 11 true,og 15 (.bin .leq (.t 14) (nn 20)) 11 true,oo 16 (.pick (.t 11) (.t 15) (.c (.bool false))),ov 17 16,og 18 (.fieldAddr 1 (.t 1)) 17 true,og 19 (.load none (.t 18)) 17 true,og 20 (.lenSl (.t 19)) 17 true,og 21 (.bin .leq (.t 20) (nn 40)) 17 true,oo 22 (.pick (.t 17) (.t 21) (.c (.bool false))),ov 23 22,og 24 (.fieldAddr 2 (.t 1)) 23 true,og 25 (.load none (.t 24)) 23 true,og 26 (.lenSl (.t 25)) 23 true,og 27 (.bin .leq (.t 26) (nn 40)) 23 true,oo 28 (.pick (.t 23) (.t 27) (.c (.bool false))),ov 2 28] (.ret)),[.t 2]⟩
def F110 : AF := ⟨sr [oo 2 (.box 3 (.t 0)),oo 3 (.box 3 (.t 1)),oo 4 (.mov (.c (.bool false)))] (sr [of 5 0 3,ol 6 5,of 7 0 2,ol 8 7,oo 9 (.call 155 [.t 6,.t 8]),ov 10 9,og 11 (.fieldAddr 1 (.t 3)) 10 true,og 12 (.load none (.t 11)) 10 true,og 13 (.bin .geq (.t 12) (nn 1)) 10 true,oo 14 (.pick (.t 10) (.t 13) (.c (.bool false))),ov 15 14,og 16 (.fieldAddr 1 (.t 3)) 15 true,og 17 (.load none (.t 16)) 15 true,og 18 (.bin .leq (.t 17) (nn 3)) 15 true,oo 19 (.pick (.t 15) (.t 18) (.c (.bool false))),ov 20 19,og 21 (.fieldAddr 2 (.t 3)) 20 true,og 22 (.load none (.t 21)) 20 true,og 23 (.lenSl (.t 22)) 20 true,og 24 (.bin .leq (.t 23) (nn 20)) 20 true,oo 25 (.pick (.t 20) (.t 24) (.c (.bool false))),ov 4 25] (.ret)),[.t 4]⟩
def F111 : AF := ⟨sr [oo 2 (.box 3 (.t 0)),oo 3 (.box 4 (.t 1)),oo 4 (.mov (.c (.bool false)))] (sr [of 5 1 3,ol 6 5,of 7 1 2,ol 8 7,oo 9 (.call 155 [.t 6,.t 8]),ov 10 9,og 11 (.fieldAddr 2 (.t 3)) 10 true,og 12 (.load (some 2) (.t 11)) 10 true,og 13 (.call 119 [.t 12]) 10 true,oo 14 (.pick (.t 10) (.t 13) (.c (.bool false))),ov 15 14,og 16 (.fieldAddr 0 (.t 3)) 15 true,og 17 (.load none (.t 16)) 15 true,og 18 (.un .not (.t 17)) 15 true,og 19 (.mov (.t 18)) 15 true,og 20 (.fieldAddr 2 (.t 3)) 19 false,og 21 (.fieldAddr 0 (.t 20)) 19 false,og 22 (.load none (.t 21)) 19 false,og 23 (.bin .eql (.t 22) (nn 1)) 19 false,og 24 (.pick (.t 19) (.c (.bool true)) (.t 23)) 15 true,oo 25 (.pick (.t 15) (.t 24) (.c (.bool false))),ov 4 25] (.ret)),[.t 4]⟩
def F112 : AF := ⟨sr [oo 1 (.box 3 (.t 0)),oo 2 (.mov (.c (.bool false)))] (sr [oo 9 (.mkMap),oo 10 (.mkMap),oo 4 (.alloc [.nilmap]),ov 3 9,ou (.store 1 (.t 4) (.t 10))] (.seq (sr [of 11 2 1,ol 12 11,oo 13 (.lenSl (.t 12)),om 14 0] (.block 0 (.loop (sr [ob 15 .lss 14 13] (.seq (.cond (.t 15) (.skip) (.exit 0)) (.seq (.block 1 (sr [ox 16 3 12 14,os 17 3 16,oo 6 (.alloc [(.int .i64 0),(.int .i64 0),(.sl none true 0 [])]),ou (.store 3 (.t 6) (.t 17))] (.region [ov 18 3,of 19 0 6,ol 20 19,oo 21 (.lookup .int (.int .i64 0) false (.t 18) (.t 20)),on 22 .add 21 1,ou (.mapSet .int (.t 18) (.t 20) (.t 22))]))) (.region [on 23 .add 14 1,ov 14 23]))))))) (.seq (sr [os 24 3 1,oo 25 (.call 102 [.t 24])] (.block 2 (.rangeFunc (.t 25) [26,27] (.region [oo 8 (.alloc [(.bool false),(.int .i64 0),(.int .i64 0),(.int .i64 0)]),ou (.store 4 (.t 8) (.t 27))]) (.block 3 (.region [ol 28 4,of 29 1 8,ol 30 29,oo 31 (.lookup .int (.int .i64 0) false (.t 28) (.t 30)),on 32 .add 31 1,ou (.mapSet .int (.t 28) (.t 30) (.t 32))]))))) (sr [ov 33 3,oo 34 (.lenMap (.t 33)),of 35 0 1,ol 36 35,oo 37 (.lenSl (.t 36)),ob 38 .eql 34 37,ov 39 38,og 40 (.load none (.t 4)) 39 true,og 41 (.lenMap (.t 40)) 39 true,og 42 (.fieldAddr 1 (.t 1)) 39 true,og 43 (.load none (.t 42)) 39 true,og 44 (.lenSl (.t 43)) 39 true,og 45 (.bin .eql (.t 41) (.t 44)) 39 true,oo 46 (.pick (.t 39) (.t 45) (.c (.bool false))),ov 2 46] (.ret))))),[.t 2]⟩
def F116 : AF := ⟨sr [oo 3 (.box 3 (.t 0)),oo 6 (.alloc [(.int .i64 0),(.int .i64 0)]),oo 7 (.mov (.c (.bool false)))] (sr [os 8 3 3,ov 9 1,oo 10 (.call 129 [.t 8,.t 9]),ov 11 2,oo 12 (.call 130 [.t 10,.t 11]),oe 13 12 0,oe 14 12 1,ou (.store 2 (.t 6) (.t 13)),ov 7 14] (.ret)),[.cell 6 (some 2),.t 7]⟩
def F118 : AF := ⟨sr [om 2 0] (.seq (.cond (.c (.bool false)) (sr [ov 3 0,oo 4 (.conv .u32 (.t 3)),oo 5 (.call 166 [.t 4]),ov 2 5] (.ret)) (.skip)) (sr [ov 6 0,oo 7 (.call 167 [.t 6]),ov 2 7] (.ret))),[.t 2]⟩
def F119 : AF := ⟨sr [oo 1 (.box 2 (.t 0)),oo 2 (.mov (.c (.bool false)))] (sr [os 6 2 1,oo 7 (.call 169 [.t 6]),oo 8 (.call 168 [.t 7]),ov 5 8,oe 9 5 0,oe 10 5 1,oo 3 (.alloc [(.int .i64 0),(.int .i64 0)]),ou (.store 2 (.t 3) (.t 9)),ov 4 10] (sr [ov 11 4,on 12 .eql 11 0,ov 13 12,og 14 (.load (some 2) (.t 3)) 13 true,og 15 (.load (some 2) (.t 1)) 13 true,og 16 (.eq false (.struct [.int,.int]) (.t 14) (.t 15)) 13 true,oo 17 (.pick (.t 13) (.t 16) (.c (.bool false))),ov 2 17] (.ret))),[.t 2]⟩
def F124 : AF := ⟨sr [oo 1 (.box 2 (.t 0)),oo 2 (.mov (.c (.bool false)))] (sr [of 3 0 1,ol 4 3,on 5 .eql 4 1,ov 6 5,og 7 (.fieldAddr 0 (.t 1)) 6 false,og 8 (.load none (.t 7)) 6 false,og 9 (.bin .eql (.t 8) (nn 0)) 6 false,og 10 (.mov (.t 9)) 6 false,og 11 (.fieldAddr 0 (.t 1)) 10 false,og 12 (.load none (.t 11)) 10 false,og 13 (.bin .eql (.t 12) (nn 2)) 10 false,og 14 (.pick (.t 10) (.c (.bool true)) (.t 13)) 6 false,og 15 (.mov (.t 14)) 6 false,og 16 (.fieldAddr 1 (.t 1)) 15 true,og 17 (.load none (.t 16)) 15 true,og 18 (.bin .eql (.t 17) (nn 0)) 15 true,og 19 (.pick (.t 15) (.t 18) (.c (.bool false))) 6 false,oo 20 (.pick (.t 6) (.c (.bool true)) (.t 19)),ov 2 20] (.ret)),[.t 2]⟩
def F126 : AF := ⟨sr [oo 2 (.mov (.c (.bool false)))] (sr [ov 6 0,oo 7 (.call 172 [.t 6]),ov 3 7] (.seq (sr [ov 8 3,oo 9 (.lenSl (.t 8)),on 10 .lss 9 1,ov 11 10,og 12 (.mov (.t 3)) 11 false,og 13 (.lenSl (.t 12)) 11 false,og 14 (.bin .gtr (.t 13) (nn 20)) 11 false,oo 15 (.pick (.t 11) (.c (.bool true)) (.t 14)),ov 16 15,og 17 (.mov (.t 0)) 16 false,og 18 (.call 173 [.t 17]) 16 false,oo 19 (.pick (.t 16) (.c (.bool true)) (.t 18)),ov 20 19,og 21 (.mov (.t 0)) 20 false,og 22 (.call 174 [.t 21]) 20 false,og 23 (.un .not (.t 22)) 20 false,oo 24 (.pick (.t 20) (.c (.bool true)) (.t 23)),ov 25 24,og 26 (.mov (.t 3)) 25 false,og 27 (.idxSl 1 (.t 26) (nn 0)) 25 false,og 28 (.load none (.t 27)) 25 false,og 29 (.bin .geq (.t 28) (nn 48)) 25 false,og 30 (.mov (.t 29)) 25 false,og 31 (.mov (.t 3)) 30 true,og 32 (.idxSl 1 (.t 31) (nn 0)) 30 true,og 33 (.load none (.t 32)) 30 true,og 34 (.bin .leq (.t 33) (nn 57)) 30 true,og 35 (.pick (.t 30) (.t 34) (.c (.bool false))) 25 false,oo 36 (.pick (.t 25) (.c (.bool true)) (.t 35))] (.cond (.t 36) (sr [oo 2 (.mov (.c (.bool false)))] (.ret)) (.skip))) (.seq (sr [om 4 0] (.block 0 (.loop (.seq (sr [ov 37 4,ov 38 3,oo 39 (.lenSl (.t 38)),ob 40 .lss 37 39] (.cond (.t 40) (.skip) (.exit 0))) (.seq (.block 1 (sr [ov 43 3,ov 44 4,ox 45 1 43 44,ol 46 45,ov 5 46] (sr [ov 47 5,on 48 .lss 47 128,ov 49 48,og 50 (.mov (.t 5)) 49 true,og 51 (.bin .neq (.t 50) (nn 95)) 49 true,oo 52 (.pick (.t 49) (.t 51) (.c (.bool false))),ov 53 52,og 54 (.mov (.t 5)) 53 true,og 55 (.bin .lss (.t 54) (nn 48)) 53 true,og 56 (.mov (.t 55)) 53 true,og 57 (.mov (.t 5)) 56 false,og 58 (.bin .gtr (.t 57) (nn 57)) 56 false,og 59 (.pick (.t 56) (.c (.bool true)) (.t 58)) 53 true,oo 60 (.pick (.t 53) (.t 59) (.c (.bool false))),ov 61 60,og 62 (.mov (.t 5)) 61 true,og 63 (.bin .lss (.t 62) (nn 65)) 61 true,og 64 (.mov (.t 63)) 61 true,og 65 (.mov (.t 5)) 64 false,og 66 (.bin .gtr (.t 65) (nn 90)) 64 false,og 67 (.pick (.t 64) (.c (.bool true)) (.t 66)) 61 true,oo 68 (.pick (.t 61) (.t 67) (.c (.bool false))),ov 69 68,og 70 (.mov (.t 5)) 69 true,og 71 (.bin .lss (.t 70) (nn 97)) 69 true,og 72 (.mov (.t 71)) 69 true,og 73 (.mov (.t 5)) 72 false,og 74 (.bin .gtr (.t 73) (nn 122)) 72 false,og 75 (.pick (.t 72) (.c (.bool true)) (.t 74)) 69 true,oo 76 (.pick (.t 69) (.t 75) (.c (.bool false)))] (.cond (.t 76) (sr [oo 2 (.mov (.c (.bool false)))] (.ret)) (.skip))))) (.region [ov 41 4,on 42 .add 41 1,ov 4 42])))))) (sr [oo 2 (.mov (.c (.bool true)))] (.ret))))),[.t 2]⟩
def F127 : AF := ⟨sr [oo 4 (.mov (.c (.bool false)))] (sr [ov 8 0,oo 9 (.call 172 [.t 8]),ov 10 1,oo 11 (.call 172 [.t 10]),ov 5 9,ov 6 11] (.seq (sr [om 7 0] (.block 0 (.loop (.seq (sr [ov 12 7,ov 13 5,oo 14 (.lenSl (.t 13)),ob 15 .lss 12 14,ov 16 15,og 17 (.mov (.t 7)) 16 true,og 18 (.mov (.t 6)) 16 true,og 19 (.lenSl (.t 18)) 16 true,og 20 (.bin .lss (.t 17) (.t 19)) 16 true,oo 21 (.pick (.t 16) (.t 20) (.c (.bool false)))] (.cond (.t 21) (.skip) (.exit 0))) (.seq (.block 1 (.seq (.draw [ov 24 5,ov 25 7,ox 26 1 24 25,ol 27 26,ov 28 6,ov 29 7,ox 30 1 28 29,ol 31 30,ob 32 .neq 27 31] []) (.cond (.t 32) (.seq (.draw [ov 33 5,ov 34 7,ox 35 1 33 34,ol 36 35,ov 37 6,ov 38 7,ox 39 1 37 38,ol 40 39,ob 41 .lss 36 40,ov 4 41] []) (.ret)) (.skip)))) (.region [ov 22 7,on 23 .add 22 1,ov 7 23])))))) (sr [ov 42 5,oo 43 (.lenSl (.t 42)),ov 44 6,oo 45 (.lenSl (.t 44)),ob 46 .lss 43 45,ov 4 46] (.ret)))),[.t 4]⟩
def F128 : AF := ⟨sr [om 4 0] (.seq (sr [ov 6 0,oo 7 (.lenSl (.t 6)),om 8 0] (.block 0 (.loop (sr [ob 9 .lss 8 7] (.seq (.cond (.t 9) (.skip) (.exit 0)) (.seq (.block 1 (sr [ov 10 8,ov 5 10] (sr [ov 11 1,ov 12 0,ov 13 5,ox 14 1 12 13,ol 15 14,ob 16 .eql 11 15] (.cond (.t 16) (sr [ov 17 5,ov 4 17] (.ret)) (.skip))))) (.region [on 18 .add 8 1,ov 8 18]))))))) (sr [oo 4 (.mov (nn (-1)))] (.ret))),[.t 4]⟩
def F129 : AF := ⟨sr [oo 2 (.box 3 (.t 0)),oo 4 (.mov (.c (.sl none true 0 [])))] (.seq (sr [os 5 3 2,oo 6 (.call 70 [.t 5]),on 7 .neq 6 0,ov 8 7,og 9 (.mov (.t 1)) 8 false,og 10 (.bin .lss (.t 9) (nn 0)) 8 false,oo 11 (.pick (.t 8) (.c (.bool true)) (.t 10)),ov 12 11,og 13 (.mov (.t 1)) 12 false,og 14 (.fieldAddr 2 (.t 2)) 12 false,og 15 (.load none (.t 14)) 12 false,og 16 (.lenSl (.t 15)) 12 false,og 17 (.bin .geq (.t 13) (.t 16)) 12 false,oo 18 (.pick (.t 12) (.c (.bool true)) (.t 17))] (.cond (.t 18) (sr [oo 4 (.mov (.c (.sl none true 0 [])))] (.ret)) (.skip))) (sr [of 19 2 2,ol 20 19,ov 21 1,ox 22 3 20 21,of 23 2 22,ol 24 23,ov 4 24] (.ret))),[.t 4]⟩
def F130 : AF := ⟨sr [oo 3 (.box 1 (.t 1)),oo 4 (.alloc [(.int .i64 0),(.int .i64 0)]),oo 5 (.alloc [(.bool false)])] (.seq (sr [ov 8 0,oo 9 (.call 175 [.t 8])] (.block 0 (.rangeFunc (.t 9) [10,11] (.region [oo 7 (.alloc [(.bool false),(.int .i64 0),(.int .i64 0),(.int .i64 0)]),ou (.store 4 (.t 7) (.t 11))]) (.block 1 (sr [of 12 0 7,ol 13 12,ov 14 13,og 15 (.fieldAddr 1 (.t 7)) 14 true,og 16 (.load none (.t 15)) 14 true,og 17 (.load none (.t 3)) 14 true,og 18 (.bin .eql (.t 16) (.t 17)) 14 true,oo 19 (.pick (.t 14) (.t 18) (.c (.bool false)))] (.cond (.t 19) (sr [of 20 2 7,os 21 2 20,ou (.store 2 (.t 4) (.t 21)),ou (.store 1 (.t 5) (.c (.bool true)))] (.ret)) (.skip))))))) (sr [oo 22 (.build [(.int .i64 0),(.int .i64 0)] []),ou (.store 2 (.t 4) (.t 22)),ou (.store 1 (.t 5) (.c (.bool false)))] (.ret))),[.cell 4 (some 2),.cell 5 none]⟩
def F131 : AF := ⟨sr [oo 2 (.box 3 (.t 0)),oo 3 (.box 2 (.t 1)),oo 4 (.mov (.c (.bool false)))] (.seq (.draw [os 5 3 2,oo 6 (.call 32 [.t 5]),on 7 .eql 6 0,ov 8 7,og 9 (.fieldAddr 0 (.t 3)) 8 true,og 10 (.load none (.t 9)) 8 true,og 11 (.bin .geq (.t 10) (nn 0)) 8 true,oo 12 (.pick (.t 8) (.t 11) (.c (.bool false))),ov 13 12,og 14 (.fieldAddr 0 (.t 3)) 13 true,og 15 (.load none (.t 14)) 13 true,og 16 (.fieldAddr 2 (.t 2)) 13 true,og 17 (.load none (.t 16)) 13 true,og 18 (.lenSl (.t 17)) 13 true,og 19 (.bin .lss (.t 15) (.t 18)) 13 true,oo 20 (.pick (.t 13) (.t 19) (.c (.bool false))),ov 21 20,og 22 (.fieldAddr 1 (.t 3)) 21 true,og 23 (.load none (.t 22)) 21 true,og 24 (.bin .geq (.t 23) (nn 0)) 21 true,oo 25 (.pick (.t 21) (.t 24) (.c (.bool false))),ov 26 25,og 27 (.fieldAddr 1 (.t 3)) 26 true,og 28 (.load none (.t 27)) 26 true,og 29 (.fieldAddr 2 (.t 2)) 26 true,og 30 (.load none (.t 29)) 26 true,og 31 (.fieldAddr 0 (.t 3)) 26 true,og 32 (.load none (.t 31)) 26 true,og 33 (.idxSl 3 (.t 30) (.t 32)) 26 true,og 34 (.fieldAddr 2 (.t 33)) 26 true,og 35 (.load none (.t 34)) 26 true,og 36 (.lenSl (.t 35)) 26 true,og 37 (.bin .lss (.t 28) (.t 36)) 26 true,oo 38 (.pick (.t 26) (.t 37) (.c (.bool false))),ov 4 38] []) (.ret)),[.t 4]⟩
def F132 : AF := ⟨sr [oo 2 (.box 3 (.t 0)),oo 3 (.box 2 (.t 1)),oo 4 (.alloc [(.int .i64 0),(.int .i64 0)]),oo 5 (.mov (.c (.bool false)))] (.seq (sr [os 6 3 2,os 7 2 3,oo 8 (.call 131 [.t 6,.t 7]),oo 9 (.un .not (.t 8))] (.cond (.t 9) (sr [oo 10 (.build [(.int .i64 0),(.int .i64 0)] []),ou (.store 2 (.t 4) (.t 10)),oo 5 (.mov (.c (.bool false)))] (.ret)) (.skip))) (.seq (.draw [of 11 2 2,ol 12 11,of 13 0 3,ol 14 13,ox 15 3 12 14,os 16 3 15,of 17 1 3,ol 18 17,of 19 2 2,ol 20 19,of 21 0 3,ol 22 21,ox 23 3 20 22,of 24 2 23,ol 25 24,of 26 1 3,ol 27 26,ox 28 4 25 27,of 29 1 28,ol 30 29,oo 31 (.call 78 [.t 16,.t 18,.t 30]),oe 32 31 0,oe 33 31 1,ou (.store 2 (.t 4) (.t 32)),ov 5 33] []) (.ret))),[.cell 4 (some 2),.t 5]⟩
def F147 : AF := ⟨sr [oo 2 (.mov (.c (.sl none true 0 []))),om 3 0,om 4 0] (.seq (sr [ov 10 0,oo 11 (.lenStr (.t 10)),on 12 .gtr 11 65536] (.cond (.t 12) (sr [oo 2 (.mov (.c (.sl none true 0 []))),om 3 0,om 4 6] (.ret)) (.skip))) (.seq (sr [ov 13 0,oo 14 (.bin .eql (.t 13) (.c (.str [])))] (.cond (.t 14) (sr [oo 2 (.mov (.c (.sl none true 0 []))),om 3 0,om 4 0] (.ret)) (.skip))) (sr [ov 15 0,oo 16 (.call 189 [(.t 15),(.c (.str [10]))]),oo 17 (.call 188 [(.t 16),(.c (.str [10]))]),ov 5 17] (.seq (sr [ov 18 5,oo 19 (.lenSl (.t 18)),om 20 0] (.block 0 (.loop (sr [ob 21 .lss 20 19] (.seq (.cond (.t 21) (.skip) (.exit 0)) (.seq (.block 1 (sr [ov 22 20,ox 23 1 18 20,ol 24 23,ov 6 22,ov 7 24] (sr [ov 26 7,oo 27 (.call 190 [.t 26]),ov 25 27,oe 28 25 0,oe 29 25 1,ov 8 28,ov 9 29] (sr [ov 30 9,oo 31 (.un .not (.t 30))] (.cond (.t 31) (sr [ov 32 6,on 33 .add 32 1,oo 2 (.mov (.c (.sl none true 0 []))),ov 3 33,om 4 5] (.ret)) (.skip)))))) (.region [on 34 .add 20 1,ov 20 34]))))))) (sr [ov 35 5,ov 2 35,om 3 0,om 4 0] (.ret)))))),[.t 2,.t 3,.t 4]⟩
def F148 : AF := ⟨sr [oo 2 (.alloc [(.int .i64 0),(.str []),(.str []),(.int .i64 0),(.int .i64 0),(.int .i64 0)]),oo 3 (.mov (.c (.bool false))),om 4 0] (sr [ov 11 0,oo 12 (.call 191 [.t 11]),ov 10 12,oe 13 10 0,oe 14 10 1,ov 5 13,ov 6 14] (.seq (sr [ov 15 6,on 16 .neq 15 0,ov 17 16,og 18 (.mov (.t 5)) 17 false,og 19 (.lenSl (.t 18)) 17 false,og 20 (.bin .eql (.t 19) (nn 0)) 17 false,oo 21 (.pick (.t 17) (.c (.bool true)) (.t 20))] (.cond (.t 21) (sr [oo 22 (.build [(.int .i64 0),(.str []),(.str []),(.int .i64 0),(.int .i64 0),(.int .i64 0)] []),ov 23 6,ou (.store 6 (.t 2) (.t 22)),oo 3 (.mov (.c (.bool false))),ov 4 23] (.ret)) (.skip))) (sr [ov 24 5,oo 25 (.idxSl 2 (.t 24) (nn 0)),of 26 0 25,ol 27 26,oo 28 (.call 192 [.t 27]),ov 7 28] (sr [om 8 2] (.seq (sr [ov 29 7,oo 30 (.call 193 [.t 29])] (.cond (.t 30) (.region [om 8 4]) (.skip))) (.seq (sr [ov 31 7,on 32 .eql 31 0,ov 33 32,og 34 (.mov (.t 5)) 33 false,og 35 (.lenSl (.t 34)) 33 false,og 36 (.mov (.t 8)) 33 false,og 37 (.bin .neq (.t 35) (.t 36)) 33 false,oo 38 (.pick (.t 33) (.c (.bool true)) (.t 37)),ov 39 38,og 40 (.mov (.t 5)) 39 false,og 41 (.idxSl 2 (.t 40) (nn 1)) 39 false,og 42 (.fieldAddr 0 (.t 41)) 39 false,og 43 (.load none (.t 42)) 39 false,og 44 (.call 194 [.t 43]) 39 false,og 45 (.un .not (.t 44)) 39 false,oo 46 (.pick (.t 39) (.c (.bool true)) (.t 45)),ov 47 46,og 48 (.mov (.t 8)) 47 false,og 49 (.bin .eql (.t 48) (nn 4)) 47 false,og 50 (.mov (.t 49)) 47 false,og 51 (.mov (.t 5)) 50 true,og 52 (.idxSl 2 (.t 51) (nn 2)) 50 true,og 53 (.fieldAddr 0 (.t 52)) 50 true,og 54 (.load none (.t 53)) 50 true,og 55 (.call 194 [.t 54]) 50 true,og 56 (.un .not (.t 55)) 50 true,og 57 (.pick (.t 50) (.t 56) (.c (.bool false))) 47 false,oo 58 (.pick (.t 47) (.c (.bool true)) (.t 57))] (.cond (.t 58) (sr [oo 59 (.build [(.int .i64 0),(.str []),(.str []),(.int .i64 0),(.int .i64 0),(.int .i64 0)] []),ou (.store 6 (.t 2) (.t 59)),oo 3 (.mov (.c (.bool false))),om 4 5] (.ret)) (.skip))) (sr [ov 60 7,ov 61 5,oo 62 (.idxSl 2 (.t 61) (nn 1)),of 63 0 62,ol 64 63,oo 65 (.build [(.int .i64 0),(.str []),(.str []),(.int .i64 0),(.int .i64 0),(.int .i64 0)] [(0,1,(.t 60)),(1,1,(.t 64))]),oo 9 (.alloc [(.int .i64 0),(.str []),(.str []),(.int .i64 0),(.int .i64 0),(.int .i64 0)]),ou (.store 6 (.t 9) (.t 65))] (.seq (sr [ov 66 8,on 67 .eql 66 4] (.cond (.t 67) (.draw [ov 69 7,ov 70 5,oo 71 (.idxSl 2 (.t 70) (nn 1)),of 72 0 71,ol 73 72,ov 74 5,oo 75 (.idxSl 2 (.t 74) (nn 2)),of 76 0 75,ol 77 76,ov 78 5,oo 79 (.idxSl 2 (.t 78) (nn 3)),of 80 0 79,ol 81 80,oo 82 (.call 195 [.t 69,.t 73,.t 77,.t 81]),ov 68 82,oe 83 68 0,oe 84 68 1,ou (.store 6 (.t 9) (.t 83)),ov 6 84] []) (.skip))) (sr [os 85 6 9,ov 86 6,on 87 .eql 86 0,ov 88 6,ou (.store 6 (.t 2) (.t 85)),ov 3 87,ov 4 88] (.ret)))))))))),[.cell 2 (some 6),.t 3,.t 4]⟩
def F151 : AF := ⟨sr [om 4 0,oo 5 (.mov (.c (.bool false)))] (.seq (sr [ov 7 0,oo 8 (.call 153 [.t 7]),oo 9 (.un .not (.t 8))] (.cond (.t 9) (sr [om 4 0,oo 5 (.mov (.c (.bool false)))] (.ret)) (.skip))) (sr [ov 10 0,ov 11 1,oo 12 (.call 198 [.t 10,.t 11]),ov 6 12] (sr [ov 13 6,oo 14 (.minmax true [(.t 13),(nn 0)]),ov 15 6,on 16 .geq 15 0,ov 4 14,ov 5 16] (.ret)))),[.t 4,.t 5]⟩
def F153 : AF := ⟨sr [oo 2 (.mov (.c (.bool false)))] (.seq (sr [ov 5 0,oo 6 (.lenSl (.t 5)),om 7 0] (.block 0 (.loop (sr [ob 8 .lss 7 6] (.seq (.cond (.t 8) (.skip) (.exit 0)) (.seq (.block 1 (sr [ov 9 7,ox 10 1 5 7,ol 11 10,ov 3 9,ov 4 11] (sr [ov 12 4,oo 13 (.call 194 [.t 12]),oo 14 (.un .not (.t 13)),ov 15 14,og 16 (.mov (.t 3)) 15 false,og 17 (.bin .gtr (.t 16) (nn 0)) 15 false,og 18 (.mov (.t 17)) 15 false,og 19 (.mov (.t 0)) 18 true,og 20 (.mov (.t 3)) 18 true,og 21 (.bin .sub (.t 20) (nn 1)) 18 true,og 22 (.idxSl 1 (.t 19) (.t 21)) 18 true,og 23 (.load none (.t 22)) 18 true,og 24 (.mov (.t 4)) 18 true,og 25 (.call 199 [.t 23,.t 24]) 18 true,og 26 (.un .not (.t 25)) 18 true,og 27 (.pick (.t 18) (.t 26) (.c (.bool false))) 15 false,oo 28 (.pick (.t 15) (.c (.bool true)) (.t 27))] (.cond (.t 28) (sr [oo 2 (.mov (.c (.bool false)))] (.ret)) (.skip))))) (.region [on 29 .add 7 1,ov 7 29]))))))) (sr [oo 2 (.mov (.c (.bool true)))] (.ret))),[.t 2]⟩
def F155 : AF := ⟨sr [oo 4 (.mov (.c (.bool false)))] (sr [ov 5 0,on 6 .geq 5 0,ov 7 6,og 8 (.mov (.t 0)) 7 true,og 9 (.mov (.t 1)) 7 true,og 10 (.lenSl (.t 9)) 7 true,og 11 (.bin .lss (.t 8) (.t 10)) 7 true,oo 12 (.pick (.t 7) (.t 11) (.c (.bool false))),ov 4 12] (.ret)),[.t 4]⟩
def F163 : AF := ⟨sr [oo 4 (.mov (.c (.bool false)))] (sr [ov 5 0,oo 6 (.call 205 [.t 5]),ov 7 6,og 8 (.mov (.t 1)) 7 true,og 9 (.call 205 [.t 8]) 7 true,og 10 (.un .not (.t 9)) 7 true,oo 11 (.pick (.t 7) (.t 10) (.c (.bool false))),ov 12 11,og 13 (.mov (.t 0)) 12 false,og 14 (.mov (.t 1)) 12 false,og 15 (.bin .lss (.t 13) (.t 14)) 12 false,oo 16 (.pick (.t 12) (.c (.bool true)) (.t 15)),ov 4 16] (.ret)),[.t 4]⟩
def F167 : AF := ⟨sr [om 2 0] (.seq (sr [ov 3 0,oo 4 (.bin .geq (.t 3) (.c (.int .u64 4294967296)))] (.cond (.t 4) (sr [ov 5 0,oo 6 (.bin .shr (.t 5) (.c (.int .u64 32))),ov 0 6] (.region [om 2 32])) (.skip))) (.seq (sr [ov 7 0,oo 8 (.bin .geq (.t 7) (.c (.int .u64 65536)))] (.cond (.t 8) (sr [ov 9 0,oo 10 (.bin .shr (.t 9) (.c (.int .u64 16))),ov 0 10] (.region [ov 11 2,on 12 .add 11 16,ov 2 12])) (.skip))) (.seq (sr [ov 13 0,oo 14 (.bin .geq (.t 13) (.c (.int .u64 256)))] (.cond (.t 14) (sr [ov 15 0,oo 16 (.bin .shr (.t 15) (.c (.int .u64 8))),ov 0 16] (.region [ov 17 2,on 18 .add 17 8,ov 2 18])) (.skip))) (sr [ov 19 2,ov 20 0,oo 21 (.conv .u8 (.t 20)),oo 22 (.idxStr (.c (.str [0,1,2,2,3,3,3,3,4,4,4,4,4,4,4,4,5,5,5,5,5,5,5,5,5,5,5,5,5,5,5,5,6,6,6,6,6,6,6,6,6,6,6,6,6,6,6,6,6,6,6,6,6,6,6,6,6,6,6,6,6,6,6,6,7,7,7,7,7,7,7,7,7,7,7,7,7,7,7,7,7,7,7,7,7,7,7,7,7,7,7,7,7,7,7,7,7,7,7,7,7,7,7,7,7,7,7,7,7,7,7,7,7,7,7,7,7,7,7,7,7,7,7,7,7,7,7,7,8,8,8,8,8,8,8,8,8,8,8,8,8,8,8,8,8,8,8,8,8,8,8,8,8,8,8,8,8,8,8,8,8,8,8,8,8,8,8,8,8,8,8,8,8,8,8,8,8,8,8,8,8,8,8,8,8,8,8,8,8,8,8,8,8,8,8,8,8,8,8,8,8,8,8,8,8,8,8,8,8,8,8,8,8,8,8,8,8,8,8,8,8,8,8,8,8,8,8,8,8,8,8,8,8,8,8,8,8,8,8,8,8,8,8,8,8,8,8,8,8,8,8,8,8,8,8,8])) (.t 21)),oo 23 (.conv .i64 (.t 22)),ob 24 .add 19 23,ov 2 24] (.ret))))),[.t 2]⟩
def F168 : AF := ⟨sr [oo 1 (.box 1 (.t 0)),oo 2 (.alloc [(.int .i64 0),(.int .i64 0)]),om 3 0] (.seq (sr [of 7 0 1,ol 8 7] (.block 0 (sr [oo 9 (.eq false .iface (.t 8) (.c .nilif))] (.cond (.t 9) (sr [ov 4 8] (sr [oo 10 (.build [(.int .i64 0),(.int .i64 0)] []),ou (.store 2 (.t 2) (.t 10)),om 3 0] (.ret))) (sr [oo 11 (.assert 2 (.int .i64 0) true (.t 8)),oe 12 11 1,oe 13 11 0] (.cond (.t 12) (sr [ov 5 13] (sr [ov 14 5,oo 15 (.build [(.int .i64 0),(.int .i64 0)] [(0,1,(nn 1)),(1,1,(.t 14))]),ou (.store 2 (.t 2) (.t 15)),om 3 0] (.ret))) (sr [oo 16 (.assert 253 (.agg []) true (.t 8)),oe 17 16 1,oe 18 16 0] (.cond (.t 17) (sr [oo 6 (.alloc []),ou (.store 0 (.t 6) (.t 18))] (sr [oo 19 (.build [(.int .i64 0),(.int .i64 0)] [(0,1,(nn 2))]),ou (.store 2 (.t 2) (.t 19)),om 3 0] (.ret))) (.skip))))))))) (sr [oo 20 (.build [(.int .i64 0),(.int .i64 0)] []),ou (.store 2 (.t 2) (.t 20)),om 3 15] (.ret))),[.cell 2 (some 2),.t 3]⟩
def F169 : AF := ⟨sr [oo 1 (.box 2 (.t 0)),oo 2 (.alloc [.nilif])] (.seq (sr [of 3 0 1,ol 4 3] (.block 0 (sr [on 6 .eql 4 1,ov 5 6] (.cond (.t 5) (sr [of 7 1 1,ol 8 7,oo 9 (.iface 2 (.t 8)),oo 10 (.build [.nilif] [(0,1,(.t 9))]),ou (.store 1 (.t 2) (.t 10))] (.ret)) (sr [on 12 .eql 4 2,ov 11 12] (.cond (.t 11) (sr [oo 13 (.build [] []),oo 14 (.iface 253 (.t 13)),oo 15 (.build [.nilif] [(0,1,(.t 14))]),ou (.store 1 (.t 2) (.t 15))] (.ret)) (.skip))))))) (sr [oo 16 (.build [.nilif] []),ou (.store 1 (.t 2) (.t 16))] (.ret))),[.cell 2 (some 1)]⟩
def F172 : AF := ⟨sr [oo 2 (.mov (.c (.sl none true 0 [])))] (sr [oo 7 (.buildSl false 1 [] [] 0),ov 3 7] (.seq (sr [om 4 0] (.block 0 (.loop (.seq (sr [ov 8 4,ov 9 0,oo 10 (.lenStr (.t 9)),ob 11 .lss 8 10] (.cond (.t 11) (.skip) (.exit 0))) (.block 1 (sr [ov 13 0,ov 14 4,oo 15 (.call 216 [.t 13,.t 14]),ov 12 15,oe 16 12 0,oe 17 12 1,ov 5 16,ov 6 17] (sr [ov 18 3,ov 19 6,oo 20 (.buildSl false 1 [(.int .i64 0)] [(0,1,(.t 19))] 1),oo 21 (.append false 1 8 (.t 18) (.t 20)),ov 3 21] (.region [ov 22 4,ov 23 5,ob 24 .add 22 23,ov 4 24])))))))) (sr [ov 25 3,ov 2 25] (.ret)))),[.t 2]⟩
def F173 : AF := ⟨sr [oo 2 (.mov (.c (.bool false)))] (sr [ov 3 0,oo 4 (.bin .eql (.t 3) (.c (.str [98,101,103,105,110]))),ov 5 4,og 6 (.mov (.t 0)) 5 false,og 7 (.bin .eql (.t 6) (.c (.str [114,101,97,100]))) 5 false,oo 8 (.pick (.t 5) (.c (.bool true)) (.t 7)),ov 9 8,og 10 (.mov (.t 0)) 9 false,og 11 (.bin .eql (.t 10) (.c (.str [119,114,105,116,101]))) 9 false,oo 12 (.pick (.t 9) (.c (.bool true)) (.t 11)),ov 13 12,og 14 (.mov (.t 0)) 13 false,og 15 (.bin .eql (.t 14) (.c (.str [111,107]))) 13 false,oo 16 (.pick (.t 13) (.c (.bool true)) (.t 15)),ov 17 16,og 18 (.mov (.t 0)) 17 false,og 19 (.bin .eql (.t 18) (.c (.str [102,97,105,108]))) 17 false,oo 20 (.pick (.t 17) (.c (.bool true)) (.t 19)),ov 21 20,og 22 (.mov (.t 0)) 21 false,og 23 (.bin .eql (.t 22) (.c (.str [105,110,102,111]))) 21 false,oo 24 (.pick (.t 21) (.c (.bool true)) (.t 23)),ov 25 24,og 26 (.mov (.t 0)) 25 false,og 27 (.bin .eql (.t 26) (.c (.str [110,105,108]))) 25 false,oo 28 (.pick (.t 25) (.c (.bool true)) (.t 27)),ov 2 28] (.ret)),[.t 2]⟩
def F174 : AF := ⟨sr [oo 2 (.mov (.c (.bool false)))] (.seq (sr [om 3 0] (.block 0 (.loop (.seq (sr [ov 6 3,ov 7 0,oo 8 (.lenStr (.t 7)),ob 9 .lss 6 8] (.cond (.t 9) (.skip) (.exit 0))) (.block 1 (sr [ov 11 0,ov 12 3,oo 13 (.call 216 [.t 11,.t 12]),ov 10 13,oe 14 10 0,oe 15 10 1,ov 4 14,ov 5 15] (.seq (sr [ov 16 5,on 17 .eql 16 65533,ov 18 17,og 19 (.mov (.t 4)) 18 true,og 20 (.bin .neq (.t 19) (nn 3)) 18 true,oo 21 (.pick (.t 18) (.t 20) (.c (.bool false)))] (.cond (.t 21) (sr [oo 2 (.mov (.c (.bool false)))] (.ret)) (.skip))) (.region [ov 22 3,ov 23 4,ob 24 .add 22 23,ov 3 24])))))))) (sr [oo 2 (.mov (.c (.bool true)))] (.ret))),[.t 2]⟩
def F188 : AF := ⟨sr [oo 4 (.mov (.c (.sl none true 0 [])))] (sr [ov 5 0,ov 6 1,oo 7 (.call 224 [(.t 5),(.t 6),(nn 0),(nn (-1))]),ov 4 7] (.ret)),[.t 4]⟩
def F189 : AF := ⟨sr [oo 4 (.mov (.c (.str [])))] (sr [ov 5 0,ov 6 1,oo 7 (.call 225 [.t 5,.t 6]),ov 4 7] (.ret)),[.t 4]⟩
def F190 : AF := ⟨sr [om 2 0,oo 3 (.mov (.c (.bool false)))] (sr [om 4 0] (.seq (sr [ov 7 0,oo 8 (.range true (.t 7))] (.block 0 (.loop (sr [oo 9 (.nextStr (.t 8)),oe 10 9 0] (.seq (.cond (.t 10) (.skip) (.exit 0)) (.block 1 (sr [oe 11 9 1,oe 12 9 2,ov 5 11,ov 6 12] (.seq (sr [ov 13 6,oo 14 (.bin .eql (.t 13) (.c (.int .i32 65533))),ov 15 14,og 16 (.mov (.t 0)) 15 true,og 17 (.mov (.t 5)) 15 true,og 18 (.slStr (.t 16) (some (.t 17)) none) 15 true,og 19 (.call 226 [(.t 18),(.c (.str [239,191,189]))]) 15 true,og 20 (.un .not (.t 19)) 15 true,oo 21 (.pick (.t 15) (.t 20) (.c (.bool false)))] (.cond (.t 21) (sr [om 2 0,oo 3 (.mov (.c (.bool false)))] (.ret)) (.skip))) (.region [ov 22 4,on 23 .add 22 1,ov 4 23]))))))))) (sr [ov 24 4,ov 2 24,oo 3 (.mov (.c (.bool true)))] (.ret)))),[.t 2,.t 3]⟩
def F191 : AF := ⟨sr [oo 2 (.mov (.c (.sl none true 0 []))),om 3 0] (.seq (sr [ov 13 0,oo 14 (.call 190 [.t 13]),ov 12 14,oe 15 12 0,oe 16 12 1,ov 4 15,ov 5 16] (sr [ov 17 5,oo 18 (.un .not (.t 17)),ov 19 18,og 20 (.mov (.t 0)) 19 false,og 21 (.call 227 [(.t 20),(.c (.str [10]))]) 19 false,oo 22 (.pick (.t 19) (.c (.bool true)) (.t 21))] (.cond (.t 22) (sr [oo 2 (.mov (.c (.sl none true 0 []))),om 3 5] (.ret)) (.skip)))) (sr [ov 24 0,oo 25 (.call 228 [(.t 24),(.c (.str [35]))]),ov 23 25,oe 26 23 0,oe 27 23 1,oe 28 23 2,ov 0 26] (sr [oo 6 (.mov (.c (.sl none true 0 [])))] (sr [oo 7 (.mov (nn (-1))),om 8 0,om 9 0] (.seq (sr [ov 29 0,oo 30 (.range true (.t 29))] (.block 0 (.loop (sr [oo 31 (.nextStr (.t 30)),oe 32 31 0] (.seq (.cond (.t 32) (.skip) (.exit 0)) (.block 1 (sr [oe 33 31 1,oe 34 31 2,ov 10 33,ov 11 34] (sr [ov 35 9,on 36 .add 35 1,ov 9 36] (.block 2 (sr [ov 38 11,oo 39 (.call 229 [.t 38]),oo 40 (.un .not (.t 39)),ov 41 40,og 42 (.mov (.t 7)) 41 true,og 43 (.bin .lss (.t 42) (nn 0)) 41 true,oo 44 (.pick (.t 41) (.t 43) (.c (.bool false))),ov 37 44] (.cond (.t 37) (.region [ov 45 10,ov 46 9,ov 7 45,ov 8 46]) (sr [ov 48 11,oo 49 (.call 229 [.t 48]),ov 50 49,og 51 (.mov (.t 7)) 50 true,og 52 (.bin .geq (.t 51) (nn 0)) 50 true,oo 53 (.pick (.t 50) (.t 52) (.c (.bool false))),ov 47 53] (.cond (.t 47) (sr [ov 54 6,ov 55 0,ov 56 7,ov 57 10,oo 58 (.slStr (.t 55) (some (.t 56)) (some (.t 57))),ov 59 8,oo 60 (.build [(.str []),(.int .i64 0)] [(0,1,(.t 58)),(1,1,(.t 59))]),oo 61 (.buildSl false 2 [(.str []),(.int .i64 0)] [(0,2,(.t 60))] 1),oo 62 (.append false 2 24 (.t 54) (.t 61)),ov 6 62] (.region [oo 7 (.mov (nn (-1)))])) (.skip)))))))))))))) (.seq (sr [ov 63 7,on 64 .geq 63 0] (.cond (.t 64) (.region [ov 65 6,ov 66 0,ov 67 7,oo 68 (.slStr (.t 66) (some (.t 67)) none),ov 69 8,oo 70 (.build [(.str []),(.int .i64 0)] [(0,1,(.t 68)),(1,1,(.t 69))]),oo 71 (.buildSl false 2 [(.str []),(.int .i64 0)] [(0,2,(.t 70))] 1),oo 72 (.append false 2 24 (.t 65) (.t 71)),ov 6 72]) (.skip))) (sr [ov 73 6,ov 2 73,om 3 0] (.ret)))))))),[.t 2,.t 3]⟩
def F192 : AF := ⟨sr [om 2 0] (.seq (sr [oo 5 (.load (some 7) (.g 0)),om 6 0] (.block 0 (.loop (sr [on 7 .lss 6 7] (.seq (.cond (.t 7) (.skip) (.exit 0)) (.seq (.block 1 (sr [ov 8 6,oo 9 (.idxVal none 7 1 (.t 5) (.t 6)),ov 3 8,ov 4 9] (sr [ov 10 3,on 11 .gtr 10 0,ov 12 11,og 13 (.mov (.t 4)) 12 true,og 14 (.mov (.t 0)) 12 true,og 15 (.bin .eql (.t 13) (.t 14)) 12 true,oo 16 (.pick (.t 12) (.t 15) (.c (.bool false)))] (.cond (.t 16) (sr [ov 17 3,ov 2 17] (.ret)) (.skip))))) (.region [on 18 .add 6 1,ov 6 18]))))))) (sr [om 2 0] (.ret))),[.t 2]⟩
def F193 : AF := ⟨sr [oo 2 (.mov (.c (.bool false)))] (sr [ov 3 0,on 4 .eql 3 2,ov 5 4,og 6 (.mov (.t 0)) 5 false,og 7 (.bin .eql (.t 6) (nn 3)) 5 false,oo 8 (.pick (.t 5) (.c (.bool true)) (.t 7)),ov 2 8] (.ret)),[.t 2]⟩
def F194 : AF := ⟨sr [oo 2 (.mov (.c (.bool false)))] (.seq (sr [ov 6 0,oo 7 (.call 230 [.t 6]),ov 8 7,og 9 (.mov (.t 0)) 8 false,og 10 (.call 231 [.t 9]) 8 false,og 11 (.un .not (.t 10)) 8 false,oo 12 (.pick (.t 8) (.c (.bool true)) (.t 11))] (.cond (.t 12) (sr [oo 2 (.mov (.c (.bool false)))] (.ret)) (.skip))) (sr [om 3 0] (.seq (sr [ov 13 0,oo 14 (.range true (.t 13))] (.block 0 (.loop (sr [oo 15 (.nextStr (.t 14)),oe 16 15 0] (.seq (.cond (.t 16) (.skip) (.exit 0)) (.block 1 (sr [oe 17 15 2,ov 5 17] (.seq (sr [ov 18 5,oo 19 (.call 232 [.t 18]),oo 20 (.un .not (.t 19)),ov 21 20,og 22 (.mov (.t 3)) 21 false,og 23 (.bin .eql (.t 22) (nn 0)) 21 false,og 24 (.mov (.t 23)) 21 false,og 25 (.mov (.t 5)) 24 true,og 26 (.call 233 [.t 25]) 24 true,og 27 (.pick (.t 24) (.t 26) (.c (.bool false))) 21 false,oo 28 (.pick (.t 21) (.c (.bool true)) (.t 27))] (.cond (.t 28) (sr [oo 2 (.mov (.c (.bool false)))] (.ret)) (.skip))) (.region [ov 29 3,on 30 .add 29 1,ov 3 30]))))))))) (sr [ov 31 3,on 32 .gtr 31 0,ov 33 32,og 34 (.mov (.t 3)) 33 true,og 35 (.bin .leq (.t 34) (nn 20)) 33 true,oo 36 (.pick (.t 33) (.t 35) (.c (.bool false))),ov 2 36] (.ret))))),[.t 2]⟩
def F195 : AF := ⟨sr [oo 8 (.alloc [(.int .i64 0),(.str []),(.str []),(.int .i64 0),(.int .i64 0),(.int .i64 0)]),om 9 0] (sr [ov 13 3,oo 14 (.call 234 [.t 13]),ov 12 14,oe 15 12 0,oe 16 12 1,oo 10 (.alloc [(.int .i64 0),(.int .i64 0)]),ou (.store 2 (.t 10) (.t 15)),ov 11 16] (.seq (.block 0 (sr [ov 18 11,on 19 .neq 18 0,ov 17 19] (.cond (.t 17) (sr [oo 20 (.build [(.int .i64 0),(.str []),(.str []),(.int .i64 0),(.int .i64 0),(.int .i64 0)] []),ov 21 11,ou (.store 6 (.t 8) (.t 20)),ov 9 21] (.ret)) (sr [ov 23 0,on 24 .eql 23 3,ov 25 24,og 26 (.fieldAddr 0 (.t 10)) 25 true,og 27 (.load none (.t 26)) 25 true,og 28 (.bin .eql (.t 27) (nn 0)) 25 true,oo 29 (.pick (.t 25) (.t 28) (.c (.bool false))),ov 22 29] (.cond (.t 22) (sr [oo 30 (.build [(.int .i64 0),(.str []),(.str []),(.int .i64 0),(.int .i64 0),(.int .i64 0)] []),ou (.store 6 (.t 8) (.t 30)),om 9 11] (.ret)) (sr [ov 32 0,on 33 .eql 32 3,ov 34 33,og 35 (.fieldAddr 0 (.t 10)) 34 true,og 36 (.load none (.t 35)) 34 true,og 37 (.bin .eql (.t 36) (nn 2)) 34 true,oo 38 (.pick (.t 34) (.t 37) (.c (.bool false))),ov 31 38] (.cond (.t 31) (sr [oo 39 (.build [(.int .i64 0),(.str []),(.str []),(.int .i64 0),(.int .i64 0),(.int .i64 0)] []),ou (.store 6 (.t 8) (.t 39)),om 9 5] (.ret)) (.skip)))))))) (sr [ov 40 0,ov 41 1,ov 42 2,os 43 2 10,oo 44 (.build [(.int .i64 0),(.str []),(.str []),(.int .i64 0),(.int .i64 0),(.int .i64 0)] [(0,1,(.t 40)),(1,1,(.t 41)),(2,1,(.t 42)),(3,2,(.t 43))]),ov 45 11,ou (.store 6 (.t 8) (.t 44)),ov 9 45] (.ret)))),[.cell 8 (some 6),.t 9]⟩
def F198 : AF := ⟨sr [om 4 0] (.seq (sr [ov 6 0,oo 7 (.lenSl (.t 6)),om 8 0] (.block 0 (.loop (sr [ob 9 .lss 8 7] (.seq (.cond (.t 9) (.skip) (.exit 0)) (.seq (.block 1 (sr [ov 10 8,ov 5 10] (sr [ov 11 1,ov 12 0,ov 13 5,ox 14 1 12 13,ol 15 14,ob 16 .eql 11 15] (.cond (.t 16) (sr [ov 17 5,ov 4 17] (.ret)) (.skip))))) (.region [on 18 .add 8 1,ov 8 18]))))))) (sr [oo 4 (.mov (nn (-1)))] (.ret))),[.t 4]⟩
def F199 : AF := ⟨sr [oo 4 (.mov (.c (.bool false)))] (sr [ov 5 0,ov 6 1,oo 7 (.call 239 [.t 5,.t 6]),on 8 .lss 7 0,ov 4 8] (.ret)),[.t 4]⟩
def F205 : AF := ⟨sr [oo 2 (.mov (.c (.bool false)))] (sr [ov 3 0,ov 4 0,ob 5 .neq 3 4,ov 2 5] (.ret)),[.t 2]⟩
def F216 : AF := ⟨sr [om 4 0,om 5 0] (sr [ov 12 0,ov 13 1,oo 14 (.idxStr (.t 12) (.t 13)),oo 15 (.conv .i64 (.t 14)),ov 6 15] (.seq (sr [ov 16 6,on 17 .lss 16 128] (.cond (.t 17) (sr [ov 18 6,om 4 1,ov 5 18] (.ret)) (.skip))) (sr [om 7 0,om 8 0,om 9 0] (.seq (sr [ov 19 6,on 20 .geq 19 194,ov 21 20,og 22 (.mov (.t 6)) 21 true,og 23 (.bin .leq (.t 22) (nn 223)) 21 true,oo 24 (.pick (.t 21) (.t 23) (.c (.bool false)))] (.cond (.t 24) (.region [ov 25 6,on 26 .sub 25 192,om 7 2,om 8 128,ov 9 26]) (.skip))) (.seq (sr [ov 27 6,on 28 .geq 27 224,ov 29 28,og 30 (.mov (.t 6)) 29 true,og 31 (.bin .leq (.t 30) (nn 239)) 29 true,oo 32 (.pick (.t 29) (.t 31) (.c (.bool false)))] (.cond (.t 32) (.region [ov 33 6,on 34 .sub 33 224,om 7 3,om 8 2048,ov 9 34]) (.skip))) (.seq (sr [ov 35 6,on 36 .geq 35 240,ov 37 36,og 38 (.mov (.t 6)) 37 true,og 39 (.bin .leq (.t 38) (nn 244)) 37 true,oo 40 (.pick (.t 37) (.t 39) (.c (.bool false)))] (.cond (.t 40) (.region [ov 41 6,on 42 .sub 41 240,om 7 4,om 8 65536,ov 9 42]) (.skip))) (.seq (sr [ov 43 7,on 44 .eql 43 0,ov 45 44,og 46 (.mov (.t 1)) 45 false,og 47 (.mov (.t 7)) 45 false,og 48 (.bin .add (.t 46) (.t 47)) 45 false,og 49 (.mov (.t 0)) 45 false,og 50 (.lenStr (.t 49)) 45 false,og 51 (.bin .gtr (.t 48) (.t 50)) 45 false,oo 52 (.pick (.t 45) (.c (.bool true)) (.t 51))] (.cond (.t 52) (sr [om 4 1,om 5 65533] (.ret)) (.skip))) (.seq (sr [om 10 1] (.block 0 (.loop (.seq (sr [ov 53 10,ov 54 7,ob 55 .lss 53 54] (.cond (.t 55) (.skip) (.exit 0))) (.seq (.block 1 (sr [ov 58 0,ov 59 1,ov 60 10,ob 61 .add 59 60,oo 62 (.idxStr (.t 58) (.t 61)),oo 63 (.conv .i64 (.t 62)),ov 11 63] (.seq (sr [ov 64 11,on 65 .lss 64 128,ov 66 65,og 67 (.mov (.t 11)) 66 false,og 68 (.bin .gtr (.t 67) (nn 191)) 66 false,oo 69 (.pick (.t 66) (.c (.bool true)) (.t 68))] (.cond (.t 69) (sr [om 4 1,om 5 65533] (.ret)) (.skip))) (.region [ov 70 9,oo 71 (.bin .mul (nn 64) (.t 70)),ov 72 11,ob 73 .add 71 72,on 74 .sub 73 128,ov 9 74])))) (.region [ov 56 10,on 57 .add 56 1,ov 10 57])))))) (.seq (sr [ov 75 9,ov 76 8,ob 77 .lss 75 76,ov 78 77,og 79 (.mov (.t 9)) 78 false,og 80 (.bin .gtr (.t 79) (nn 1114111)) 78 false,oo 81 (.pick (.t 78) (.c (.bool true)) (.t 80)),ov 82 81,og 83 (.mov (.t 9)) 82 false,og 84 (.bin .geq (.t 83) (nn 55296)) 82 false,og 85 (.mov (.t 84)) 82 false,og 86 (.mov (.t 9)) 85 true,og 87 (.bin .leq (.t 86) (nn 57343)) 85 true,og 88 (.pick (.t 85) (.t 87) (.c (.bool false))) 82 false,oo 89 (.pick (.t 82) (.c (.bool true)) (.t 88))] (.cond (.t 89) (sr [om 4 1,om 5 65533] (.ret)) (.skip))) (sr [ov 90 7,ov 91 9,ov 4 90,ov 5 91] (.ret))))))))))),[.t 4,.t 5]⟩
def F224 : AF := ⟨sr [oo 8 (.mov (.c (.sl none true 0 [])))] (.seq (sr [ov 12 3,on 13 .eql 12 0] (.cond (.t 13) (sr [oo 8 (.mov (.c (.sl none true 0 [])))] (.ret)) (.skip))) (.seq (sr [ov 14 1,oo 15 (.bin .eql (.t 14) (.c (.str [])))] (.cond (.t 15) (sr [ov 16 0,ov 17 3,oo 18 (.call 246 [.t 16,.t 17]),ov 8 18] (.ret)) (.skip))) (.seq (sr [ov 19 3,on 20 .lss 19 0] (.cond (.t 20) (.region [ov 21 0,ov 22 1,oo 23 (.call 247 [.t 21,.t 22]),on 24 .add 23 1,ov 3 24]) (.skip))) (sr [ov 25 3,ov 26 0,oo 27 (.lenStr (.t 26)),on 28 .add 27 1,oo 29 (.minmax false [.t 25,.t 28]),ov 3 29] (sr [ov 30 3,oo 31 (.mkSl false 1 16 [(.str [])] (.t 30) (.t 30)),ov 9 31] (sr [ov 32 3,on 33 .sub 32 1,ov 3 33] (sr [om 10 0] (.seq (.block 0 (.loop (.seq (sr [ov 34 10,ov 35 3,ob 36 .lss 34 35] (.cond (.t 36) (.skip) (.exit 0))) (.block 1 (sr [ov 37 0,ov 38 1,oo 39 (.call 248 [.t 37,.t 38]),ov 11 39] (.seq (sr [ov 40 11,on 41 .lss 40 0] (.cond (.t 41) (.exit 0) (.skip))) (sr [ov 42 9,ov 43 10,ov 44 0,ov 45 11,ov 46 2,ob 47 .add 45 46,oo 48 (.slStr (.t 44) none (some (.t 47))),ox 49 1 42 43,ou (.store 1 (.t 49) (.t 48))] (sr [ov 50 0,ov 51 11,ov 52 1,oo 53 (.lenStr (.t 52)),ob 54 .add 51 53,oo 55 (.slStr (.t 50) (some (.t 54)) none),ov 0 55] (.region [ov 56 10,on 57 .add 56 1,ov 10 57]))))))))) (sr [ov 58 9,ov 59 10,ov 60 0,ox 61 1 58 59,ou (.store 1 (.t 61) (.t 60))] (sr [ov 62 9,ov 63 10,on 64 .add 63 1,oo 65 (.slSl 1 (.t 62) none (some (.t 64))),ov 8 65] (.ret))))))))))),[.t 8]⟩
def F225 : AF := ⟨sr [oo 4 (.mov (.c (.str [])))] (.seq (sr [ov 5 0,ov 6 1,oo 7 (.call 249 [.t 5,.t 6])] (.cond (.t 7) (sr [ov 8 0,ov 9 0,oo 10 (.lenStr (.t 9)),ov 11 1,oo 12 (.lenStr (.t 11)),ob 13 .sub 10 12,oo 14 (.slStr (.t 8) none (some (.t 13))),ov 4 14] (.ret)) (.skip))) (sr [ov 15 0,ov 4 15] (.ret))),[.t 4]⟩
def F227 : AF := ⟨sr [oo 4 (.mov (.c (.bool false)))] (sr [ov 5 0,ov 6 1,oo 7 (.call 248 [.t 5,.t 6]),on 8 .geq 7 0,ov 4 8] (.ret)),[.t 4]⟩
def F228 : AF := ⟨sr [oo 4 (.mov (.c (.str []))),oo 5 (.mov (.c (.str []))),oo 6 (.mov (.c (.bool false)))] (sr [ov 7 0,ov 8 1,oo 9 (.call 251 [.t 7,.t 8]),oe 10 9 0,oe 11 9 1,oe 12 9 2,ov 4 10,ov 5 11,ov 6 12] (.ret)),[.t 4,.t 5,.t 6]⟩
def F229 : AF := ⟨sr [oo 2 (.mov (.c (.bool false)))] (sr [ov 3 0,oo 4 (.bin .eql (.t 3) (.c (.int .i32 32))),ov 5 4,og 6 (.mov (.t 0)) 5 false,og 7 (.bin .eql (.t 6) (.c (.int .i32 9))) 5 false,oo 8 (.pick (.t 5) (.c (.bool true)) (.t 7)),ov 9 8,og 10 (.mov (.t 0)) 9 false,og 11 (.bin .eql (.t 10) (.c (.int .i32 13))) 9 false,oo 12 (.pick (.t 9) (.c (.bool true)) (.t 11)),ov 2 12] (.ret)),[.t 2]⟩
def F230 : AF := ⟨sr [oo 2 (.mov (.c (.bool false)))] (.seq (sr [ov 3 0] (.block 0 (.seq (sr [oo 5 (.bin .eql (.t 3) (.c (.str [98,101,103,105,110]))),ov 4 5] (.cond (.t 4) (.skip) (sr [oo 6 (.bin .eql (.t 3) (.c (.str [114,101,97,100]))),ov 4 6] (.cond (.t 4) (.skip) (sr [oo 7 (.bin .eql (.t 3) (.c (.str [119,114,105,116,101]))),ov 4 7] (.cond (.t 4) (.skip) (sr [oo 8 (.bin .eql (.t 3) (.c (.str [111,107]))),ov 4 8] (.cond (.t 4) (.skip) (sr [oo 9 (.bin .eql (.t 3) (.c (.str [102,97,105,108]))),ov 4 9] (.cond (.t 4) (.skip) (sr [oo 10 (.bin .eql (.t 3) (.c (.str [105,110,102,111]))),ov 4 10] (.cond (.t 4) (.skip) (.region [oo 11 (.bin .eql (.t 3) (.c (.str [110,105,108]))),ov 4 11]))))))))))))) (.cond (.t 4) (sr [oo 2 (.mov (.c (.bool true)))] (.ret)) (.skip))))) (sr [oo 2 (.mov (.c (.bool false)))] (.ret))),[.t 2]⟩
def F231 : AF := ⟨sr [oo 2 (.mov (.c (.bool false)))] (.seq (.block 0 (.loop (.seq (sr [ov 7 0,oo 8 (.lenStr (.t 7)),on 9 .gtr 8 0] (.cond (.t 9) (.skip) (.exit 0))) (.block 1 (sr [ov 10 0,oo 11 (.idxStr (.t 10) (nn 0)),ov 3 11] (.seq (sr [ov 12 3,oo 13 (.bin .lss (.t 12) (.c (.int .u8 128)))] (.cond (.t 13) (sr [ov 14 0,oo 15 (.slStr (.t 14) (some (nn 1)) none),ov 0 15] (.seq (sr [ov 16 0,oo 17 (.lenStr (.t 16)),on 18 .gtr 17 8,ov 19 18,og 20 (.mov (.t 0)) 19 true,og 21 (.call 252 [.t 20]) 19 true,og 22 (.bin .and (.t 21) (.c (.int .u64 9259542123273814144))) 19 true,og 23 (.bin .eql (.t 22) (.c (.int .u64 0))) 19 true,oo 24 (.pick (.t 19) (.t 23) (.c (.bool false)))] (.cond (.t 24) (sr [ov 25 0,oo 26 (.slStr (.t 25) (some (nn 8)) none),ov 0 26] (.seq (.draw [ov 27 0,oo 28 (.lenStr (.t 27)),on 29 .gtr 28 16,ov 30 29,og 31 (.mov (.t 0)) 30 true,og 32 (.call 252 [.t 31]) 30 true,og 33 (.mov (.t 0)) 30 true,og 34 (.slStr (.t 33) (some (nn 8)) none) 30 true,og 35 (.call 252 [.t 34]) 30 true,og 36 (.bin .or (.t 32) (.t 35)) 30 true,og 37 (.bin .and (.t 36) (.c (.int .u64 9259542123273814144))) 30 true,og 38 (.bin .eql (.t 37) (.c (.int .u64 0))) 30 true,oo 39 (.pick (.t 30) (.t 38) (.c (.bool false)))] []) (.cond (.t 39) (sr [ov 40 0,oo 41 (.slStr (.t 40) (some (nn 16)) none),ov 0 41] (.block 2 (.loop (.seq (.seq (.draw [ov 42 0,oo 43 (.lenStr (.t 42)),on 44 .gtr 43 32,ov 45 44,og 46 (.mov (.t 0)) 45 true,og 47 (.call 252 [.t 46]) 45 true,og 48 (.mov (.t 0)) 45 true,og 49 (.slStr (.t 48) (some (nn 8)) none) 45 true,og 50 (.call 252 [.t 49]) 45 true,og 51 (.bin .or (.t 47) (.t 50)) 45 true,og 52 (.mov (.t 0)) 45 true,og 53 (.slStr (.t 52) (some (nn 16)) none) 45 true,og 54 (.call 252 [.t 53]) 45 true,og 55 (.mov (.t 0)) 45 true,og 56 (.slStr (.t 55) (some (nn 24)) none) 45 true,og 57 (.call 252 [.t 56]) 45 true,og 58 (.bin .or (.t 54) (.t 57)) 45 true,og 59 (.bin .or (.t 51) (.t 58)) 45 true,og 60 (.bin .and (.t 59) (.c (.int .u64 9259542123273814144))) 45 true,og 61 (.bin .eql (.t 60) (.c (.int .u64 0))) 45 true,oo 62 (.pick (.t 45) (.t 61) (.c (.bool false)))] []) (.cond (.t 62) (.skip) (.exit 2))) (.block 3 (.region [ov 63 0,oo 64 (.slStr (.t 63) (some (nn 32)) none),ov 0 64])))))) (.skip)))) (.skip))) (.exit 1))) (.skip))) (sr [ov 65 3,oo 66 (.idxArr 256 1 (.g 1) (.t 65)),ol 67 66,ov 4 67] (sr [ov 68 4,oo 69 (.bin .and (.t 68) (.c (.int .u8 7))),oo 70 (.conv .i64 (.t 69)),ov 5 70] (sr [ov 71 4,oo 72 (.bin .shr (.t 71) (.c (.int .u64 4))),oo 73 (.idxArr 16 2 (.g 2) (.t 72)),os 74 2 73,oo 6 (.alloc [(.int .u8 0),(.int .u8 0)]),ou (.store 2 (.t 6) (.t 74))] (sr [ov 75 5] (.block 4 (sr [on 77 .eql 75 2,ov 76 77] (.cond (.t 76) (.seq (.seq (.draw [ov 78 0,oo 79 (.lenStr (.t 78)),on 80 .lss 79 2,ov 81 80,og 82 (.mov (.t 0)) 81 false,og 83 (.idxStr (.t 82) (nn 1)) 81 false,og 84 (.fieldAddr 0 (.t 6)) 81 false,og 85 (.load none (.t 84)) 81 false,og 86 (.bin .lss (.t 83) (.t 85)) 81 false,oo 87 (.pick (.t 81) (.c (.bool true)) (.t 86)),ov 88 87,og 89 (.fieldAddr 1 (.t 6)) 88 false,og 90 (.load none (.t 89)) 88 false,og 91 (.mov (.t 0)) 88 false,og 92 (.idxStr (.t 91) (nn 1)) 88 false,og 93 (.bin .lss (.t 90) (.t 92)) 88 false,oo 94 (.pick (.t 88) (.c (.bool true)) (.t 93))] []) (.cond (.t 94) (sr [oo 2 (.mov (.c (.bool false)))] (.ret)) (.skip))) (.region [ov 95 0,oo 96 (.slStr (.t 95) (some (nn 2)) none),ov 0 96])) (sr [on 98 .eql 75 3,ov 97 98] (.cond (.t 97) (.seq (.seq (.draw [ov 99 0,oo 100 (.lenStr (.t 99)),on 101 .lss 100 3,ov 102 101,og 103 (.mov (.t 0)) 102 false,og 104 (.idxStr (.t 103) (nn 1)) 102 false,og 105 (.fieldAddr 0 (.t 6)) 102 false,og 106 (.load none (.t 105)) 102 false,og 107 (.bin .lss (.t 104) (.t 106)) 102 false,oo 108 (.pick (.t 102) (.c (.bool true)) (.t 107)),ov 109 108,og 110 (.fieldAddr 1 (.t 6)) 109 false,og 111 (.load none (.t 110)) 109 false,og 112 (.mov (.t 0)) 109 false,og 113 (.idxStr (.t 112) (nn 1)) 109 false,og 114 (.bin .lss (.t 111) (.t 113)) 109 false,oo 115 (.pick (.t 109) (.c (.bool true)) (.t 114)),ov 116 115,og 117 (.mov (.t 0)) 116 false,og 118 (.idxStr (.t 117) (nn 2)) 116 false,og 119 (.bin .lss (.t 118) (.c (.int .u8 128))) 116 false,oo 120 (.pick (.t 116) (.c (.bool true)) (.t 119)),ov 121 120,og 122 (.mov (.t 0)) 121 false,og 123 (.idxStr (.t 122) (nn 2)) 121 false,og 124 (.bin .lss (.c (.int .u8 191)) (.t 123)) 121 false,oo 125 (.pick (.t 121) (.c (.bool true)) (.t 124))] []) (.cond (.t 125) (sr [oo 2 (.mov (.c (.bool false)))] (.ret)) (.skip))) (.region [ov 126 0,oo 127 (.slStr (.t 126) (some (nn 3)) none),ov 0 127])) (sr [on 129 .eql 75 4,ov 128 129] (.cond (.t 128) (.seq (.seq (.draw [ov 130 0,oo 131 (.lenStr (.t 130)),on 132 .lss 131 4,ov 133 132,og 134 (.mov (.t 0)) 133 false,og 135 (.idxStr (.t 134) (nn 1)) 133 false,og 136 (.fieldAddr 0 (.t 6)) 133 false,og 137 (.load none (.t 136)) 133 false,og 138 (.bin .lss (.t 135) (.t 137)) 133 false,oo 139 (.pick (.t 133) (.c (.bool true)) (.t 138)),ov 140 139,og 141 (.fieldAddr 1 (.t 6)) 140 false,og 142 (.load none (.t 141)) 140 false,og 143 (.mov (.t 0)) 140 false,og 144 (.idxStr (.t 143) (nn 1)) 140 false,og 145 (.bin .lss (.t 142) (.t 144)) 140 false,oo 146 (.pick (.t 140) (.c (.bool true)) (.t 145)),ov 147 146,og 148 (.mov (.t 0)) 147 false,og 149 (.idxStr (.t 148) (nn 2)) 147 false,og 150 (.bin .lss (.t 149) (.c (.int .u8 128))) 147 false,oo 151 (.pick (.t 147) (.c (.bool true)) (.t 150)),ov 152 151,og 153 (.mov (.t 0)) 152 false,og 154 (.idxStr (.t 153) (nn 2)) 152 false,og 155 (.bin .lss (.c (.int .u8 191)) (.t 154)) 152 false,oo 156 (.pick (.t 152) (.c (.bool true)) (.t 155)),ov 157 156,og 158 (.mov (.t 0)) 157 false,og 159 (.idxStr (.t 158) (nn 3)) 157 false,og 160 (.bin .lss (.t 159) (.c (.int .u8 128))) 157 false,oo 161 (.pick (.t 157) (.c (.bool true)) (.t 160)),ov 162 161,og 163 (.mov (.t 0)) 162 false,og 164 (.idxStr (.t 163) (nn 3)) 162 false,og 165 (.bin .lss (.c (.int .u8 191)) (.t 164)) 162 false,oo 166 (.pick (.t 162) (.c (.bool true)) (.t 165))] []) (.cond (.t 166) (sr [oo 2 (.mov (.c (.bool false)))] (.ret)) (.skip))) (.region [ov 167 0,oo 168 (.slStr (.t 167) (some (nn 4)) none),ov 0 168])) (sr [oo 2 (.mov (.c (.bool false)))] (.ret))))))))))))))))))) (sr [oo 2 (.mov (.c (.bool true)))] (.ret))),[.t 2]⟩
def F232 : AF := ⟨sr [oo 2 (.mov (.c (.bool false)))] (sr [ov 3 0,oo 4 (.bin .gtr (.t 3) (.c (.int .i32 127))),ov 5 4,og 6 (.mov (.t 0)) 5 false,og 7 (.bin .eql (.t 6) (.c (.int .i32 95))) 5 false,oo 8 (.pick (.t 5) (.c (.bool true)) (.t 7)),ov 9 8,og 10 (.mov (.t 0)) 9 false,og 11 (.call 233 [.t 10]) 9 false,oo 12 (.pick (.t 9) (.c (.bool true)) (.t 11)),ov 13 12,og 14 (.mov (.t 0)) 13 false,og 15 (.bin .geq (.t 14) (.c (.int .i32 97))) 13 false,og 16 (.mov (.t 15)) 13 false,og 17 (.mov (.t 0)) 16 true,og 18 (.bin .leq (.t 17) (.c (.int .i32 122))) 16 true,og 19 (.pick (.t 16) (.t 18) (.c (.bool false))) 13 false,oo 20 (.pick (.t 13) (.c (.bool true)) (.t 19)),ov 21 20,og 22 (.mov (.t 0)) 21 false,og 23 (.bin .geq (.t 22) (.c (.int .i32 65))) 21 false,og 24 (.mov (.t 23)) 21 false,og 25 (.mov (.t 0)) 24 true,og 26 (.bin .leq (.t 25) (.c (.int .i32 90))) 24 true,og 27 (.pick (.t 24) (.t 26) (.c (.bool false))) 21 false,oo 28 (.pick (.t 21) (.c (.bool true)) (.t 27)),ov 2 28] (.ret)),[.t 2]⟩
def F233 : AF := ⟨sr [oo 2 (.mov (.c (.bool false)))] (sr [ov 3 0,oo 4 (.bin .geq (.t 3) (.c (.int .i32 48))),ov 5 4,og 6 (.mov (.t 0)) 5 true,og 7 (.bin .leq (.t 6) (.c (.int .i32 57))) 5 true,oo 8 (.pick (.t 5) (.t 7) (.c (.bool false))),ov 2 8] (.ret)),[.t 2]⟩
def F234 : AF := ⟨sr [oo 2 (.alloc [(.int .i64 0),(.int .i64 0)]),om 3 0] (.seq (sr [ov 6 0] (.block 0 (sr [oo 8 (.bin .eql (.t 6) (.c (.str [110,105,108]))),ov 7 8] (.cond (.t 7) (sr [oo 9 (.build [(.int .i64 0),(.int .i64 0)] []),ou (.store 2 (.t 2) (.t 9)),om 3 0] (.ret)) (sr [oo 11 (.bin .eql (.t 6) (.c (.str [63]))),ov 10 11] (.cond (.t 10) (sr [oo 12 (.build [(.int .i64 0),(.int .i64 0)] [(0,1,(nn 2))]),ou (.store 2 (.t 2) (.t 12)),om 3 0] (.ret)) (.skip))))))) (sr [ov 14 0,oo 15 (.call 253 [.t 14]),ov 13 15,oe 16 13 0,oe 17 13 1,ov 4 16,ov 5 17] (.seq (sr [ov 18 5,on 19 .neq 18 0] (.cond (.t 19) (sr [oo 20 (.build [(.int .i64 0),(.int .i64 0)] []),ov 21 5,ou (.store 2 (.t 2) (.t 20)),ov 3 21] (.ret)) (.skip))) (sr [ov 22 4,oo 23 (.build [(.int .i64 0),(.int .i64 0)] [(0,1,(nn 1)),(1,1,(.t 22))]),ov 24 5,ou (.store 2 (.t 2) (.t 23)),ov 3 24] (.ret))))),[.cell 2 (some 2),.t 3]⟩
def F235 : AF := ⟨sr [oo 1 (.box 6 (.t 0)),oo 2 (.mov (.c (.bool false)))] (.seq (.block 0 (sr [of 4 0 1,ol 5 4,on 6 .lss 5 1,ov 7 6,og 8 (.fieldAddr 0 (.t 1)) 7 false,og 9 (.load none (.t 8)) 7 false,og 10 (.bin .gtr (.t 9) (nn 6)) 7 false,oo 11 (.pick (.t 7) (.c (.bool true)) (.t 10)),ov 12 11,og 13 (.fieldAddr 1 (.t 1)) 12 false,og 14 (.load none (.t 13)) 12 false,og 15 (.call 194 [.t 14]) 12 false,og 16 (.un .not (.t 15)) 12 false,oo 17 (.pick (.t 12) (.c (.bool true)) (.t 16)),ov 3 17] (.cond (.t 3) (sr [oo 2 (.mov (.c (.bool false)))] (.ret)) (sr [of 19 0 1,ol 20 19,oo 21 (.call 193 [.t 20]),oo 22 (.un .not (.t 21)),ov 18 22] (.cond (.t 18) (sr [of 23 2 1,ol 24 23,oo 25 (.bin .eql (.t 24) (.c (.str []))),ov 26 25,og 27 (.fieldAddr 3 (.t 1)) 26 true,og 28 (.load (some 2) (.t 27)) 26 true,og 29 (.build [(.int .i64 0),(.int .i64 0)] []) 26 true,og 30 (.eq false (.struct [.int,.int]) (.t 28) (.t 29)) 26 true,oo 31 (.pick (.t 26) (.t 30) (.c (.bool false))),ov 2 31] (.ret)) (.skip)))))) (sr [of 32 2 1,ol 33 32,oo 34 (.call 194 [.t 33]),ov 35 34,og 36 (.fieldAddr 3 (.t 1)) 35 true,og 37 (.load (some 2) (.t 36)) 35 true,og 38 (.call 119 [.t 37]) 35 true,oo 39 (.pick (.t 35) (.t 38) (.c (.bool false))),ov 40 39,og 41 (.fieldAddr 0 (.t 1)) 40 true,og 42 (.load none (.t 41)) 40 true,og 43 (.bin .eql (.t 42) (nn 2)) 40 true,og 44 (.mov (.t 43)) 40 true,og 45 (.fieldAddr 3 (.t 1)) 44 false,og 46 (.fieldAddr 0 (.t 45)) 44 false,og 47 (.load none (.t 46)) 44 false,og 48 (.bin .eql (.t 47) (nn 1)) 44 false,og 49 (.pick (.t 44) (.c (.bool true)) (.t 48)) 40 true,oo 50 (.pick (.t 40) (.t 49) (.c (.bool false))),ov 2 50] (.ret))),[.t 2]⟩
def F239 : AF := ⟨sr [om 4 0] (sr [ov 5 0,oo 6 (.runesOfStr (.t 5)),ov 7 1,oo 8 (.runesOfStr (.t 7)),oo 9 (.call 256 [.t 6,.t 8]),ov 4 9] (.ret)),[.t 4]⟩
def F247 : AF := ⟨sr [om 4 0] (.seq (sr [ov 7 1,oo 8 (.lenStr (.t 7)),on 9 .eql 8 0] (.cond (.t 9) (sr [ov 10 0,oo 11 (.call 258 [.t 10]),on 12 .add 11 1,ov 4 12] (.ret)) (.skip))) (.seq (sr [ov 13 1,oo 14 (.lenStr (.t 13)),on 15 .eql 14 1] (.cond (.t 15) (sr [ov 16 0,ov 17 1,oo 18 (.idxStr (.t 17) (nn 0)),oo 19 (.ext .count [.t 16,.t 18]),ov 4 19] (.ret)) (.skip))) (sr [om 5 0] (.block 0 (.loop (.block 1 (sr [ov 20 0,ov 21 1,oo 22 (.call 248 [.t 20,.t 21]),ov 6 22] (.seq (sr [ov 23 6,oo 24 (.bin .eql (.t 23) (nn (-1)))] (.cond (.t 24) (sr [ov 25 5,ov 4 25] (.ret)) (.skip))) (sr [ov 26 5,on 27 .add 26 1,ov 5 27] (.region [ov 28 0,ov 29 6,ov 30 1,oo 31 (.lenStr (.t 30)),ob 32 .add 29 31,oo 33 (.slStr (.t 28) (some (.t 32)) none),ov 0 33])))))))))),[.t 4]⟩
def F248 : AF := ⟨sr [om 4 0] (sr [ov 5 0,ov 6 1,oo 7 (.call 261 [.t 5,.t 6]),ov 4 7] (.ret)),[.t 4]⟩
def F249 : AF := ⟨sr [oo 4 (.mov (.c (.bool false)))] (sr [ov 5 0,oo 6 (.lenStr (.t 5)),ov 7 1,oo 8 (.lenStr (.t 7)),ob 9 .geq 6 8,ov 10 9,og 11 (.mov (.t 0)) 10 true,og 12 (.mov (.t 0)) 10 true,og 13 (.lenStr (.t 12)) 10 true,og 14 (.mov (.t 1)) 10 true,og 15 (.lenStr (.t 14)) 10 true,og 16 (.bin .sub (.t 13) (.t 15)) 10 true,og 17 (.slStr (.t 11) (some (.t 16)) none) 10 true,og 18 (.mov (.t 1)) 10 true,og 19 (.bin .eql (.t 17) (.t 18)) 10 true,oo 20 (.pick (.t 10) (.t 19) (.c (.bool false))),ov 4 20] (.ret)),[.t 4]⟩
def F250 : AF := ⟨sr [oo 4 (.mov (.c (.bool false)))] (sr [ov 5 0,oo 6 (.lenStr (.t 5)),ov 7 1,oo 8 (.lenStr (.t 7)),ob 9 .geq 6 8,ov 10 9,og 11 (.mov (.t 0)) 10 true,og 12 (.mov (.t 1)) 10 true,og 13 (.lenStr (.t 12)) 10 true,og 14 (.slStr (.t 11) none (some (.t 13))) 10 true,og 15 (.mov (.t 1)) 10 true,og 16 (.bin .eql (.t 14) (.t 15)) 10 true,oo 17 (.pick (.t 10) (.t 16) (.c (.bool false))),ov 4 17] (.ret)),[.t 4]⟩
def F251 : AF := ⟨sr [oo 4 (.mov (.c (.str []))),oo 5 (.mov (.c (.str []))),oo 6 (.mov (.c (.bool false)))] (.seq (sr [ov 8 0,ov 9 1,oo 10 (.call 261 [.t 8,.t 9]),ov 7 10] (sr [ov 11 7,on 12 .geq 11 0] (.cond (.t 12) (.seq (.draw [ov 13 0,ov 14 7,oo 15 (.slStr (.t 13) none (some (.t 14))),ov 16 0,ov 17 7,ov 18 1,oo 19 (.lenStr (.t 18)),ob 20 .add 17 19,oo 21 (.slStr (.t 16) (some (.t 20)) none),ov 4 15,ov 5 21,oo 6 (.mov (.c (.bool true)))] []) (.ret)) (.skip)))) (sr [ov 22 0,ov 4 22,oo 5 (.mov (.c (.str []))),oo 6 (.mov (.c (.bool false)))] (.ret))),[.t 4,.t 5,.t 6]⟩
def F252 : AF := ⟨sr [oo 2 (.mov (.c (.int .u64 0)))] (.seq (.cond (.c (.bool false)) (.seq (.draw [ov 3 0,oo 4 (.idxStr (.t 3) (nn 0)),oo 5 (.conv .u64 (.t 4)),ov 6 0,oo 7 (.idxStr (.t 6) (nn 1)),oo 8 (.conv .u64 (.t 7)),oo 9 (.bin .shl (.t 8) (.c (.int .u64 8))),ob 10 .or 5 9,ov 11 0,oo 12 (.idxStr (.t 11) (nn 2)),oo 13 (.conv .u64 (.t 12)),oo 14 (.bin .shl (.t 13) (.c (.int .u64 16))),ob 15 .or 10 14,ov 16 0,oo 17 (.idxStr (.t 16) (nn 3)),oo 18 (.conv .u64 (.t 17)),oo 19 (.bin .shl (.t 18) (.c (.int .u64 24))),ob 20 .or 15 19,ov 2 20] []) (.ret)) (.skip)) (.seq (.draw [ov 21 0,oo 22 (.idxStr (.t 21) (nn 0)),oo 23 (.conv .u64 (.t 22)),ov 24 0,oo 25 (.idxStr (.t 24) (nn 1)),oo 26 (.conv .u64 (.t 25)),oo 27 (.bin .shl (.t 26) (.c (.int .u64 8))),ob 28 .or 23 27,ov 29 0,oo 30 (.idxStr (.t 29) (nn 2)),oo 31 (.conv .u64 (.t 30)),oo 32 (.bin .shl (.t 31) (.c (.int .u64 16))),ob 33 .or 28 32,ov 34 0,oo 35 (.idxStr (.t 34) (nn 3)),oo 36 (.conv .u64 (.t 35)),oo 37 (.bin .shl (.t 36) (.c (.int .u64 24))),ob 38 .or 33 37,ov 39 0,oo 40 (.idxStr (.t 39) (nn 4)),oo 41 (.conv .u64 (.t 40)),oo 42 (.bin .shl (.t 41) (.c (.int .u64 32))),ob 43 .or 38 42,ov 44 0,oo 45 (.idxStr (.t 44) (nn 5)),oo 46 (.conv .u64 (.t 45)),oo 47 (.bin .shl (.t 46) (.c (.int .u64 40))),ob 48 .or 43 47,ov 49 0,oo 50 (.idxStr (.t 49) (nn 6)),oo 51 (.conv .u64 (.t 50)),oo 52 (.bin .shl (.t 51) (.c (.int .u64 48))),ob 53 .or 48 52,ov 54 0,oo 55 (.idxStr (.t 54) (nn 7)),oo 56 (.conv .u64 (.t 55)),oo 57 (.bin .shl (.t 56) (.c (.int .u64 56))),ob 58 .or 53 57,ov 2 58] []) (.ret))),[.t 2]⟩
def F253 : AF := ⟨sr [om 2 0,om 3 0] (.seq (sr [ov 9 0,oo 10 (.call 262 [.t 9]),oo 11 (.un .not (.t 10))] (.cond (.t 11) (sr [om 2 0,om 3 5] (.ret)) (.skip))) (sr [ov 13 0,oo 14 (.call 263 [(.t 13),(.c (.str [45]))]),ov 12 14,oe 15 12 0,oe 16 12 1,ov 4 15,ov 5 16] (sr [om 6 0] (.seq (sr [ov 17 4,oo 18 (.lenStr (.t 17)),om 19 0] (.block 0 (.loop (sr [ob 20 .lss 19 18] (.seq (.cond (.t 20) (.skip) (.exit 0)) (.seq (.block 1 (sr [ov 21 19,ov 7 21] (sr [ov 22 4,ov 23 7,oo 24 (.idxStr (.t 22) (.t 23)),oo 25 (.bin .sub (.t 24) (.c (.int .u8 48))),oo 26 (.conv .i64 (.t 25)),ov 8 26] (.seq (sr [ov 27 6,oo 28 (.bin .lss (.t 27) (nn (-922337203685477580))),ov 29 28,og 30 (.mov (.t 6)) 29 false,og 31 (.bin .eql (.t 30) (nn (-922337203685477580))) 29 false,og 32 (.mov (.t 31)) 29 false,og 33 (.mov (.t 8)) 32 true,og 34 (.bin .gtr (.t 33) (nn 8)) 32 true,og 35 (.pick (.t 32) (.t 34) (.c (.bool false))) 29 false,oo 36 (.pick (.t 29) (.c (.bool true)) (.t 35))] (.cond (.t 36) (sr [om 2 0,om 3 8] (.ret)) (.skip))) (.region [ov 37 6,on 38 .mul 37 10,ov 39 8,ob 40 .sub 38 39,ov 6 40]))))) (.region [on 41 .add 19 1,ov 19 41]))))))) (.seq (sr [ov 42 5] (.cond (.t 42) (sr [ov 43 6,ov 2 43,om 3 0] (.ret)) (.skip))) (.seq (sr [ov 44 6,oo 45 (.bin .eql (.t 44) (nn (-9223372036854775808)))] (.cond (.t 45) (sr [om 2 0,om 3 8] (.ret)) (.skip))) (sr [ov 46 6,oo 47 (.un .neg (.t 46)),ov 2 47,om 3 0] (.ret)))))))),[.t 2,.t 3]⟩
def F256 : AF := ⟨sr [om 4 0] (.seq (sr [ov 9 0,oo 10 (.lenSl (.t 9)),om 11 0] (.block 0 (.loop (sr [ob 12 .lss 11 10] (.seq (.cond (.t 12) (.skip) (.exit 0)) (.seq (.block 1 (sr [ov 13 11,ox 14 1 9 11,ol 15 14,ov 5 13,ov 6 15] (.seq (sr [ov 16 5,ov 17 1,oo 18 (.lenSl (.t 17)),ob 19 .geq 16 18] (.cond (.t 19) (sr [om 4 1] (.ret)) (.skip))) (sr [ov 20 1,ov 21 5,ox 22 1 20 21,ol 23 22,ov 7 23] (sr [ov 24 6,ov 25 7,oo 26 (.call 265 [.t 24,.t 25]),ov 8 26] (sr [ov 27 8,on 28 .neq 27 0] (.cond (.t 28) (sr [ov 29 8,ov 4 29] (.ret)) (.skip)))))))) (.region [on 30 .add 11 1,ov 11 30]))))))) (.seq (sr [ov 31 0,oo 32 (.lenSl (.t 31)),ov 33 1,oo 34 (.lenSl (.t 33)),ob 35 .lss 32 34] (.cond (.t 35) (sr [oo 4 (.mov (nn (-1)))] (.ret)) (.skip))) (sr [om 4 0] (.ret)))),[.t 4]⟩
def F261 : AF := ⟨sr [om 4 0] (sr [ov 14 1,oo 15 (.lenStr (.t 14)),ov 5 15] (.seq (.block 0 (sr [ov 17 5,on 18 .eql 17 0,ov 19 18,og 20 (.mov (.t 1)) 19 false,og 21 (.mov (.t 0)) 19 false,og 22 (.bin .eql (.t 20) (.t 21)) 19 false,oo 23 (.pick (.t 19) (.c (.bool true)) (.t 22)),ov 16 23] (.cond (.t 16) (sr [om 4 0] (.ret)) (sr [ov 25 5,on 26 .eql 25 1,ov 24 26] (.cond (.t 24) (sr [ov 27 0,ov 28 1,oo 29 (.idxStr (.t 28) (nn 0)),oo 30 (.call 267 [.t 27,.t 29]),ov 4 30] (.ret)) (sr [ov 32 5,ov 33 0,oo 34 (.lenStr (.t 33)),ob 35 .geq 32 34,ov 31 35] (.cond (.t 31) (sr [oo 4 (.mov (nn (-1)))] (.ret)) (sr [ov 37 5,oo 38 (.load none (.g 3)),ob 39 .leq 37 38,ov 40 39,og 41 (.mov (.t 0)) 40 true,og 42 (.lenStr (.t 41)) 40 true,og 43 (.bin .leq (.t 42) (nn 64)) 40 true,oo 44 (.pick (.t 40) (.t 43) (.c (.bool false))),ov 36 44] (.cond (.t 36) (sr [ov 45 0,ov 46 1,oo 47 (.call 268 [.t 45,.t 46]),ov 4 47] (.ret)) (.skip)))))))))) (sr [ov 48 1,oo 49 (.idxStr (.t 48) (nn 0)),ov 6 49] (sr [ov 50 1,oo 51 (.idxStr (.t 50) (nn 1)),ov 7 51] (sr [om 8 0] (sr [ov 52 0,oo 53 (.lenStr (.t 52)),ov 54 5,ob 55 .sub 53 54,on 56 .add 55 1,ov 9 56] (sr [om 10 0] (.seq (.block 1 (.loop (.seq (sr [ov 57 8,ov 58 9,ob 59 .lss 57 58] (.cond (.t 59) (.skip) (.exit 1))) (.block 2 (.seq (sr [ov 60 0,ov 61 8,oo 62 (.idxStr (.t 60) (.t 61)),ov 63 6,ob 64 .neq 62 63] (.cond (.t 64) (sr [ov 65 0,ov 66 8,on 67 .add 66 1,ov 68 9,oo 69 (.slStr (.t 65) (some (.t 67)) (some (.t 68))),ov 70 6,oo 71 (.call 267 [.t 69,.t 70]),ov 11 71] (.seq (sr [ov 72 11,on 73 .lss 72 0] (.cond (.t 73) (sr [oo 4 (.mov (nn (-1)))] (.ret)) (.skip))) (.region [ov 74 8,ov 75 11,on 76 .add 75 1,ob 77 .add 74 76,ov 8 77]))) (.skip))) (.seq (sr [ov 78 0,ov 79 8,on 80 .add 79 1,oo 81 (.idxStr (.t 78) (.t 80)),ov 82 7,ob 83 .eql 81 82,ov 84 83,og 85 (.mov (.t 0)) 84 true,og 86 (.mov (.t 8)) 84 true,og 87 (.mov (.t 8)) 84 true,og 88 (.mov (.t 5)) 84 true,og 89 (.bin .add (.t 87) (.t 88)) 84 true,og 90 (.slStr (.t 85) (some (.t 86)) (some (.t 89))) 84 true,og 91 (.mov (.t 1)) 84 true,og 92 (.bin .eql (.t 90) (.t 91)) 84 true,oo 93 (.pick (.t 84) (.t 92) (.c (.bool false)))] (.cond (.t 93) (sr [ov 94 8,ov 4 94] (.ret)) (.skip))) (sr [ov 95 8,on 96 .add 95 1,ov 8 96] (sr [ov 97 10,on 98 .add 97 1,ov 10 98] (sr [ov 99 5,oo 100 (.load none (.g 3)),ob 101 .leq 99 100,ov 102 101,og 103 (.mov (.t 10)) 102 true,og 104 (.mov (.t 8)) 102 true,og 105 (.call 269 [.t 104]) 102 true,og 106 (.bin .gtr (.t 103) (.t 105)) 102 true,oo 107 (.pick (.t 102) (.t 106) (.c (.bool false)))] (.cond (.t 107) (sr [ov 108 0,ov 109 8,oo 110 (.slStr (.t 108) (some (.t 109)) none),ov 111 1,oo 112 (.call 268 [.t 110,.t 111]),ov 12 112] (.seq (sr [ov 113 12,on 114 .geq 113 0] (.cond (.t 114) (sr [ov 115 12,ov 116 8,ob 117 .add 115 116,ov 4 117] (.ret)) (.skip))) (sr [oo 4 (.mov (nn (-1)))] (.ret)))) (sr [ov 118 5,oo 119 (.load none (.g 3)),ob 120 .gtr 118 119,ov 121 120,og 122 (.mov (.t 10)) 121 true,og 123 (.mov (.t 8)) 121 true,og 124 (.bin .shr (.t 123) (.c (.int .u64 4))) 121 true,og 125 (.bin .add (nn 4) (.t 124)) 121 true,og 126 (.bin .geq (.t 122) (.t 125)) 121 true,oo 127 (.pick (.t 121) (.t 126) (.c (.bool false))),ov 128 127,og 129 (.mov (.t 8)) 128 true,og 130 (.mov (.t 9)) 128 true,og 131 (.bin .lss (.t 129) (.t 130)) 128 true,oo 132 (.pick (.t 128) (.t 131) (.c (.bool false)))] (.cond (.t 132) (sr [ov 133 0,ov 134 8,oo 135 (.slStr (.t 133) (some (.t 134)) none),ov 136 1,oo 137 (.call 270 [.t 135,.t 136]),ov 13 137] (.seq (sr [ov 138 13,on 139 .lss 138 0] (.cond (.t 139) (sr [oo 4 (.mov (nn (-1)))] (.ret)) (.skip))) (sr [ov 140 8,ov 141 13,ob 142 .add 140 141,ov 4 142] (.ret)))) (.skip))))))))))))) (sr [oo 4 (.mov (nn (-1)))] (.ret)))))))))),[.t 4]⟩
def F262 : AF := ⟨sr [oo 2 (.mov (.c (.bool false)))] (sr [ov 7 0,oo 8 (.call 263 [(.t 7),(.c (.str [45]))]),ov 6 8,oe 9 6 0,oe 10 6 1,ov 3 9,ov 4 10] (.seq (sr [ov 11 3,oo 12 (.bin .eql (.t 11) (.c (.str []))),ov 13 12,og 14 (.mov (.t 3)) 13 false,og 15 (.idxStr (.t 14) (nn 0)) 13 false,og 16 (.bin .eql (.t 15) (.c (.int .u8 48))) 13 false,og 17 (.mov (.t 16)) 13 false,og 18 (.mov (.t 4)) 17 true,og 19 (.mov (.t 18)) 17 true,og 20 (.mov (.t 3)) 19 false,og 21 (.lenStr (.t 20)) 19 false,og 22 (.bin .gtr (.t 21) (nn 1)) 19 false,og 23 (.pick (.t 19) (.c (.bool true)) (.t 22)) 17 true,og 24 (.pick (.t 17) (.t 23) (.c (.bool false))) 13 false,oo 25 (.pick (.t 13) (.c (.bool true)) (.t 24))] (.cond (.t 25) (sr [oo 2 (.mov (.c (.bool false)))] (.ret)) (.skip))) (.seq (sr [ov 26 3,oo 27 (.lenStr (.t 26)),om 28 0] (.block 0 (.loop (sr [ob 29 .lss 28 27] (.seq (.cond (.t 29) (.skip) (.exit 0)) (.seq (.block 1 (sr [ov 30 28,ov 5 30] (sr [ov 31 3,ov 32 5,oo 33 (.idxStr (.t 31) (.t 32)),oo 34 (.bin .lss (.t 33) (.c (.int .u8 48))),ov 35 34,og 36 (.mov (.t 3)) 35 false,og 37 (.mov (.t 5)) 35 false,og 38 (.idxStr (.t 36) (.t 37)) 35 false,og 39 (.bin .gtr (.t 38) (.c (.int .u8 57))) 35 false,oo 40 (.pick (.t 35) (.c (.bool true)) (.t 39))] (.cond (.t 40) (sr [oo 2 (.mov (.c (.bool false)))] (.ret)) (.skip))))) (.region [on 41 .add 28 1,ov 28 41]))))))) (sr [oo 2 (.mov (.c (.bool true)))] (.ret))))),[.t 2]⟩
def F263 : AF := ⟨sr [oo 4 (.mov (.c (.str []))),oo 5 (.mov (.c (.bool false)))] (sr [ov 6 0,ov 7 1,oo 8 (.call 271 [.t 6,.t 7]),oe 9 8 0,oe 10 8 1,ov 4 9,ov 5 10] (.ret)),[.t 4,.t 5]⟩
def F265 : AF := ⟨sr [om 4 0] (sr [ov 7 0,oo 8 (.call 280 [.t 7]),ov 5 8] (sr [ov 9 1,oo 10 (.call 280 [.t 9]),ov 6 10] (.seq (sr [ov 11 5] (.cond (.t 11) (.seq (sr [ov 12 6] (.cond (.t 12) (sr [om 4 0] (.ret)) (.skip))) (sr [oo 4 (.mov (nn (-1)))] (.ret))) (.skip))) (.seq (sr [ov 13 6] (.cond (.t 13) (sr [om 4 1] (.ret)) (.skip))) (.seq (sr [ov 14 0,ov 15 1,ob 16 .lss 14 15] (.cond (.t 16) (sr [oo 4 (.mov (nn (-1)))] (.ret)) (.skip))) (.seq (sr [ov 17 0,ov 18 1,ob 19 .gtr 17 18] (.cond (.t 19) (sr [om 4 1] (.ret)) (.skip))) (sr [om 4 0] (.ret)))))))),[.t 4]⟩
def F267 : AF := ⟨sr [om 4 0] (sr [ov 5 0,ov 6 1,oo 7 (.ext .indexByte [.t 5,.t 6]),ov 4 7] (.ret)),[.t 4]⟩
def F271 : AF := ⟨sr [oo 4 (.mov (.c (.str []))),oo 5 (.mov (.c (.bool false)))] (.seq (sr [ov 6 0,ov 7 1,oo 8 (.call 250 [.t 6,.t 7]),oo 9 (.un .not (.t 8))] (.cond (.t 9) (sr [ov 10 0,ov 4 10,oo 5 (.mov (.c (.bool false)))] (.ret)) (.skip))) (sr [ov 11 0,ov 12 1,oo 13 (.lenStr (.t 12)),oo 14 (.slStr (.t 11) (some (.t 13)) none),ov 4 14,oo 5 (.mov (.c (.bool true)))] (.ret))),[.t 4,.t 5]⟩
def F280 : AF := ⟨sr [oo 2 (.mov (.c (.bool false)))] (sr [ov 3 0,ov 4 0,ob 5 .neq 3 4,ov 2 5] (.ret)),[.t 2]⟩
def S75 : AF := ⟨sr [qq 3 (.box 3 (.t 0)),qq 6 (.mov (.c .nilmap))] (sr [qq 10 (.mkMap),qv 7 10] (.seq (sr [qs 11 3 3,qv 12 2,qq 13 (.call 72 [.t 11,.t 12]),qq 14 (.lenSl (.t 13)),qm 15 0] (.block 0 (.loop (sr [qb 16 .lss 15 14] (.seq (.cond (.t 16) (.skip) (.exit 0)) (.seq (.block 1 (sr [qx 17 1 13 15,ql 18 17,qv 9 18] (sr [qv 19 9,qv 20 1,qb 21 .neq 19 20] (.cond (.t 21) (.region [qv 23 7,qv 24 9,qs 25 3 3,qv 26 9,qv 27 2,qq 28 (.call 116 [.t 25,.t 26,.t 27]),qv 22 28,qe 29 22 0,qe 30 22 1,qu (.mapSet .int (.t 23) (.t 24) (.t 29))]) (.skip))))) (.region [qn 31 .add 15 1,qv 15 31]))))))) (sr [qv 32 7,qv 6 32] (.ret)))),[.t 6]⟩
def S76 : AF := ⟨sr [qv 3 0,qq 4 (.lenSl (.t 3)),qv 2 4] (.region [qv 5 0,qv 6 2,qv 7 2,qq 8 (.conv .u64 (.t 7)),qq 9 (.call 118 [.t 8]),qq 10 (.call 117 [(.t 5),(nn 0),(.t 6),(.t 9)])]),[]⟩
def S82 : AF := ⟨sr [qq 3 (.box 3 (.t 0)),qq 4 (.box 3 (.t 1)),qq 6 (.mov (.c (.bool false)))] (.seq (sr [qf 9 0 4,ql 10 9,qn 11 .lss 10 0,qv 12 11,qg 13 (.fieldAddr 0 (.t 4)) 12 false,qg 14 (.load none (.t 13)) 12 false,qg 15 (.fieldAddr 0 (.t 3)) 12 false,qg 16 (.load none (.t 15)) 12 false,qg 17 (.lenSl (.t 16)) 12 false,qg 18 (.bin .geq (.t 14) (.t 17)) 12 false,qq 19 (.pick (.t 12) (.c (.bool true)) (.t 18)),qv 20 19,qg 21 (.fieldAddr 1 (.t 4)) 20 false,qg 22 (.load none (.t 21)) 20 false,qg 23 (.bin .lss (.t 22) (nn 1)) 20 false,qq 24 (.pick (.t 20) (.c (.bool true)) (.t 23)),qv 25 24,qg 26 (.fieldAddr 1 (.t 4)) 25 false,qg 27 (.load none (.t 26)) 25 false,qg 28 (.bin .gtr (.t 27) (nn 3)) 25 false,qq 29 (.pick (.t 25) (.c (.bool true)) (.t 28)),qv 30 29,qg 31 (.fieldAddr 2 (.t 4)) 30 false,qg 32 (.load none (.t 31)) 30 false,qg 33 (.lenSl (.t 32)) 30 false,qg 34 (.bin .gtr (.t 33) (nn 20)) 30 false,qq 35 (.pick (.t 30) (.c (.bool true)) (.t 34))] (.cond (.t 35) (sr [qq 6 (.mov (.c (.bool false)))] (.ret)) (.skip))) (.seq (sr [qm 7 0] (.block 0 (.loop (.seq (sr [qv 36 7,qf 37 2 4,ql 38 37,qq 39 (.lenSl (.t 38)),qb 40 .lss 36 39] (.cond (.t 40) (.skip) (.exit 0))) (.seq (.block 1 (sr [qf 43 2 4,ql 44 43,qv 45 7,qx 46 4 44 45,qs 47 4 46,qq 8 (.alloc [(.bool false),(.int .i64 0),(.int .i64 0),(.int .i64 0)]),qu (.store 4 (.t 8) (.t 47))] (.seq (sr [qf 48 1 8,ql 49 48,qn 50 .lss 49 0,qv 51 50,qg 52 (.fieldAddr 1 (.t 8)) 51 false,qg 53 (.load none (.t 52)) 51 false,qg 54 (.fieldAddr 1 (.t 3)) 51 false,qg 55 (.load none (.t 54)) 51 false,qg 56 (.lenSl (.t 55)) 51 false,qg 57 (.bin .geq (.t 53) (.t 56)) 51 false,qq 58 (.pick (.t 51) (.c (.bool true)) (.t 57)),qv 59 58,qg 60 (.fieldAddr 2 (.t 8)) 59 false,qg 61 (.load (some 2) (.t 60)) 59 false,qg 62 (.call 124 [.t 61]) 59 false,qg 63 (.un .not (.t 62)) 59 false,qq 64 (.pick (.t 59) (.c (.bool true)) (.t 63)),qv 65 64,qg 66 (.fieldAddr 0 (.t 8)) 65 false,qg 67 (.load none (.t 66)) 65 false,qg 68 (.mov (.t 67)) 65 false,qg 69 (.fieldAddr 2 (.t 8)) 68 true,qg 70 (.fieldAddr 0 (.t 69)) 68 true,qg 71 (.load none (.t 70)) 68 true,qg 72 (.bin .neq (.t 71) (nn 1)) 68 true,qg 73 (.pick (.t 68) (.t 72) (.c (.bool false))) 65 false,qq 74 (.pick (.t 65) (.c (.bool true)) (.t 73))] (.cond (.t 74) (sr [qq 6 (.mov (.c (.bool false)))] (.ret)) (.skip))) (.region [qv 75 2,qf 76 1 8,ql 77 76,qx 78 1 75 77,qu (.store 1 (.t 78) (.c (.bool true)))])))) (.region [qv 41 7,qn 42 .add 41 1,qv 7 42])))))) (sr [qq 6 (.mov (.c (.bool true)))] (.ret)))),[.t 6]⟩
def S85 : AF := ⟨sr [qq 2 (.mov (.c (.sl none true 0 [])))] (.seq (sr [qv 3 0,qq 4 (.eq false .sl (.t 3) (.c (.sl none true 0 [])))] (.cond (.t 4) (sr [qq 2 (.mov (.c (.sl none true 0 [])))] (.ret)) (.skip))) (sr [qq 5 (.buildSl true 1 [] [] 0),qv 6 0,qq 7 (.append true 1 8 (.t 5) (.t 6)),qv 2 7] (.ret))),[.t 2]⟩
def S86 : AF := ⟨sr [qq 5 (.mov (.c (.bool false)))] (.seq (.draw [ql 7 1,qv 8 0,qx 9 1 7 8,ql 10 9,qn 11 .add 10 1,ql 12 2,qv 13 0,qx 14 1 12 13,ql 15 14,qq 16 (.lenSl (.t 15)),qb 17 .rem 11 16,qv 6 17] []) (.seq (.draw [ql 18 3,qv 19 0,ql 20 2,qv 21 0,qx 22 1 20 21,ql 23 22,qv 24 6,qx 25 1 23 24,ql 26 25,qx 27 1 18 19,qu (.store 1 (.t 27) (.t 26))] []) (sr [qv 28 6,qn 29 .gtr 28 0,qv 5 29] (.ret)))),[.t 5]⟩
def S102 : AF := ⟨sr [qq 1 (.box 3 (.t 0)),qq 2 (.mov (.c .nilfn))] (sr [qq 3 (.mkFn (.func 146) [] [.t 1]),qv 2 3] (.ret)),[.t 2]⟩
def S108 : AF := ⟨sr [qq 4 (.mov (.c (.bool false)))] (sr [qv 5 0,qv 6 1,qq 7 (.call 154 [.t 5,.t 6]),qn 8 .geq 7 0,qv 4 8] (.ret)),[.t 4]⟩
def S109 : AF := ⟨sr [qq 2 (.box 3 (.t 0)),qq 3 (.mov (.c (.bool false)))] (sr [qs 4 3 1,qs 5 3 2,qq 6 (.call 110 [.t 4,.t 5]),qq 7 (.un .not (.t 6)),qv 3 7] (.ret)),[.t 3]⟩
def S113 : AF := ⟨sr [qq 2 (.box 3 (.t 0)),qq 3 (.mov (.c (.bool false)))] (sr [qf 4 1 2,ql 5 4,qn 6 .neq 5 2,qv 7 6,qg 8 (.fieldAddr 2 (.t 2)) 7 true,qg 9 (.load none (.t 8)) 7 true,qg 10 (.mkFn (.func 115) [] [.t 1]) 7 true,qg 11 (.call 114 [.t 9,.t 10]) 7 true,qq 12 (.pick (.t 7) (.t 11) (.c (.bool false))),qv 3 12] (.ret)),[.t 3]⟩
def S114 : AF := ⟨sr [qq 4 (.mov (.c (.bool false)))] (sr [qv 5 0,qv 6 1,qq 7 (.call 156 [.t 5,.t 6]),qn 8 .geq 7 0,qv 4 8] (.ret)),[.t 4]⟩
def S115 : AF := ⟨sr [qq 2 (.box 4 (.t 0)),qq 3 (.mov (.c (.bool false)))] (sr [qf 4 0 2,ql 5 4,qv 6 5,qg 7 (.fieldAddr 1 (.t 2)) 6 true,qg 8 (.load none (.t 7)) 6 true,qg 9 (.load none (.t 1)) 6 true,qg 10 (.bin .eql (.t 8) (.t 9)) 6 true,qq 11 (.pick (.t 6) (.t 10) (.c (.bool false))),qv 3 11] (.ret)),[.t 3]⟩
def S117 : AF := ⟨sr [qq 8 (.mov (.c (.bool true)))] (sr [qq 9 (.mov (.c (.bool true)))] (.block 0 (.loop (.block 1 (sr [qv 19 2,qv 20 1,qb 21 .sub 19 20,qv 10 21] (.seq (sr [qv 22 10,qn 23 .leq 22 12] (.cond (.t 23) (sr [qv 24 0,qv 25 1,qv 26 2,qq 27 (.call 157 [.t 24,.t 25,.t 26])] (.ret)) (.skip))) (.seq (sr [qv 28 3,qn 29 .eql 28 0] (.cond (.t 29) (sr [qv 30 0,qv 31 1,qv 32 2,qq 33 (.call 158 [.t 30,.t 31,.t 32])] (.ret)) (.skip))) (.seq (sr [qv 34 8,qq 35 (.un .not (.t 34))] (.cond (.t 35) (sr [qv 36 0,qv 37 1,qv 38 2,qq 39 (.call 159 [.t 36,.t 37,.t 38])] (.region [qv 40 3,qn 41 .sub 40 1,qv 3 41])) (.skip))) (sr [qv 43 0,qv 44 1,qv 45 2,qq 46 (.call 160 [.t 43,.t 44,.t 45]),qv 42 46,qe 47 42 0,qe 48 42 1,qv 11 47,qv 12 48] (.seq (sr [qv 49 12,qn 50 .eql 49 2] (.cond (.t 50) (sr [qv 51 0,qv 52 1,qv 53 2,qq 54 (.call 161 [.t 51,.t 52,.t 53])] (sr [qv 55 2,qn 56 .sub 55 1,qv 57 11,qv 58 1,qb 59 .sub 57 58,qb 60 .sub 56 59,qv 11 60] (.region [qm 12 1]))) (.skip))) (.seq (sr [qv 61 8,qv 62 61,qg 63 (.mov (.t 9)) 62 true,qq 64 (.pick (.t 62) (.t 63) (.c (.bool false))),qv 65 64,qg 66 (.mov (.t 12)) 65 true,qg 67 (.bin .eql (.t 66) (nn 1)) 65 true,qq 68 (.pick (.t 65) (.t 67) (.c (.bool false)))] (.cond (.t 68) (sr [qv 69 0,qv 70 1,qv 71 2,qq 72 (.call 162 [.t 69,.t 70,.t 71])] (.cond (.t 72) (.ret) (.skip))) (.skip))) (.seq (.seq (.seq (.draw [qv 73 1,qn 74 .gtr 73 0,qv 75 74,qg 76 (.mov (.t 0)) 75 true,qg 77 (.mov (.t 1)) 75 true,qg 78 (.bin .sub (.t 77) (nn 1)) 75 true,qg 79 (.idxSl 1 (.t 76) (.t 78)) 75 true,qg 80 (.load none (.t 79)) 75 true,qg 81 (.mov (.t 0)) 75 true,qg 82 (.mov (.t 11)) 75 true,qg 83 (.idxSl 1 (.t 81) (.t 82)) 75 true,qg 84 (.load none (.t 83)) 75 true] []) (.region [qg 85 (.call 163 [.t 80,.t 84]) 75 true,qg 86 (.un .not (.t 85)) 75 true,qq 87 (.pick (.t 75) (.t 86) (.c (.bool false)))])) (.cond (.t 87) (sr [qv 88 0,qv 89 1,qv 90 2,qv 91 11,qq 92 (.call 164 [.t 88,.t 89,.t 90,.t 91]),qv 13 92] (sr [qv 93 13,qv 1 93] (.exit 1))) (.skip))) (sr [qv 95 0,qv 96 1,qv 97 2,qv 98 11,qq 99 (.call 165 [.t 95,.t 96,.t 97,.t 98]),qv 94 99,qe 100 94 0,qe 101 94 1,qv 14 100,qv 15 101] (sr [qv 102 15,qv 9 102] (sr [qv 103 14,qv 104 1,qb 105 .sub 103 104,qv 106 2,qv 107 14,qb 108 .sub 106 107,qv 16 105,qv 17 108] (sr [qv 109 10,qn 110 .quo 109 8,qv 18 110] (sr [qv 111 16,qv 112 17,qb 113 .lss 111 112] (.cond (.t 113) (sr [qv 114 16,qv 115 18,qb 116 .geq 114 115,qv 8 116] (sr [qv 117 0,qv 118 1,qv 119 14,qv 120 3,qq 121 (.call 117 [.t 117,.t 118,.t 119,.t 120])] (.region [qv 122 14,qn 123 .add 122 1,qv 1 123]))) (sr [qv 124 17,qv 125 18,qb 126 .geq 124 125,qv 8 126] (sr [qv 127 0,qv 128 14,qn 129 .add 128 1,qv 130 2,qv 131 3,qq 132 (.call 117 [.t 127,.t 129,.t 130,.t 131])] (.region [qv 133 14,qv 2 133]))))))))))))))))))))),[]⟩
def S146 : AF := ⟨sr [qf 7 2 1,ql 8 7,qq 9 (.lenSl (.t 8)),qm 10 0] (.block 0 (.loop (sr [qb 11 .lss 10 9] (.seq (.cond (.t 11) (.skip) (.exit 0)) (.seq (.block 1 (sr [qv 12 10,qx 13 3 8 10,qs 14 3 13,qq 4 (.alloc [(.int .i64 0),(.int .i64 0),(.sl none true 0 [])]),qv 3 12,qu (.store 3 (.t 4) (.t 14))] (sr [qf 15 2 4,ql 16 15,qq 17 (.lenSl (.t 16)),qm 18 0] (.block 2 (.loop (sr [qb 19 .lss 18 17] (.seq (.cond (.t 19) (.skip) (.exit 2)) (.seq (.block 3 (sr [qv 20 18,qx 21 4 16 18,qs 22 4 21,qq 6 (.alloc [(.bool false),(.int .i64 0),(.int .i64 0),(.int .i64 0)]),qv 5 20,qu (.store 4 (.t 6) (.t 22))] (sr [qv 23 0,qv 24 3,qv 25 5,qq 26 (.build [(.int .i64 0),(.int .i64 0)] [(0,1,(.t 24)),(1,1,(.t 25))]),qs 27 4 6,qq 28 (.callV (.t 23) [.t 26,.t 27]),qq 29 (.un .not (.t 28))] (.cond (.t 29) (.ret) (.skip))))) (.region [qn 30 .add 18 1,qv 18 30]))))))))) (.region [qn 31 .add 10 1,qv 10 31])))))),[]⟩
def S149 : AF := ⟨sr [qq 2 (.mov (.c .nilptr)),qm 3 0,qm 4 0] (sr [qq 9 (.mkMap),qq 10 (.mkMap),qq 11 (.mkMap),qq 12 (.build [(.sl none true 0 []),.nilmap,.nilmap,.nilmap] [(1,1,(.t 9)),(2,1,(.t 10)),(3,1,(.t 11))]),qq 13 (.box 4 (.t 12)),qv 5 13] (.seq (sr [qv 14 0,qq 15 (.lenSl (.t 14)),qm 16 0] (.block 0 (.loop (sr [qb 17 .lss 16 15] (.seq (.cond (.t 17) (.skip) (.exit 0)) (.seq (.block 1 (sr [qx 18 6 14 16,qs 19 6 18,qq 7 (.alloc [(.int .i64 0),(.str []),(.str []),(.int .i64 0),(.int .i64 0),(.int .i64 0)]),qu (.store 6 (.t 7) (.t 19))] (sr [qv 20 5,qs 21 6 7,qq 22 (.call 196 [.t 20,.t 21]),qv 8 22] (sr [qv 23 8,qn 24 .neq 23 0] (.cond (.t 24) (.seq (.draw [qv 25 5,qf 26 5 7,ql 27 26,qv 28 8,qv 2 25,qv 3 27,qv 4 28] []) (.ret)) (.skip)))))) (.region [qn 29 .add 16 1,qv 16 29]))))))) (sr [qv 30 5,qv 2 30,qm 3 0,qm 4 0] (.ret)))),[.t 2,.t 3,.t 4]⟩
def S150 : AF := ⟨sr [qq 2 (.mov (.c (.sl none true 0 [])))] (sr [qq 3 (.mov (.c (.sl none true 0 [])))] (.seq (sr [qv 5 0,qq 6 (.range false (.t 5))] (.block 0 (.loop (sr [qq 7 (.nextMap (.t 6)),qe 8 7 0] (.seq (.cond (.t 8) (.skip) (.exit 0)) (.block 1 (sr [qq 9 (.entry (.t 6)),qe 10 9 0,qv 4 10] (.region [qv 11 3,qv 12 4,qq 13 (.buildSl true 1 [(.str [])] [(0,1,(.t 12))] 1),qq 14 (.append true 1 16 (.t 11) (.t 13)),qv 3 14])))))))) (sr [qv 15 3,qq 16 (.call 197 [.t 15]),qv 2 16] (.ret)))),[.t 2]⟩
def S152 : AF := ⟨sr [qq 4 (.mov (.c (.sl none true 0 [])))] (sr [qv 10 0,qq 11 (.lenSl (.t 10)),qq 12 (.mkSl true 1 8 [(.int .i64 0)] (.t 11) (.t 11)),qv 5 12] (.seq (sr [qv 13 0,qq 14 (.lenSl (.t 13)),qm 15 0] (.block 0 (.loop (sr [qb 16 .lss 15 14] (.seq (.cond (.t 16) (.skip) (.exit 0)) (.seq (.block 1 (sr [qv 17 15,qx 18 1 13 15,ql 19 18,qv 6 17,qv 7 19] (sr [qv 21 1,qv 22 7,qq 23 (.call 151 [.t 21,.t 22]),qv 20 23,qe 24 20 0,qe 25 20 1,qv 8 24,qv 9 25] (.seq (sr [qv 26 9,qq 27 (.un .not (.t 26))] (.cond (.t 27) (.region [qq 8 (.mov (nn (-1)))]) (.skip))) (.region [qv 28 5,qv 29 6,qv 30 8,qx 31 1 28 29,qu (.store 1 (.t 31) (.t 30))]))))) (.region [qn 32 .add 15 1,qv 15 32]))))))) (sr [qv 33 5,qv 4 33] (.ret)))),[.t 4]⟩
def S154 : AF := ⟨sr [qm 4 0] (.seq (sr [qv 6 0,qq 7 (.lenSl (.t 6)),qm 8 0] (.block 0 (.loop (sr [qb 9 .lss 8 7] (.seq (.cond (.t 9) (.skip) (.exit 0)) (.seq (.block 1 (sr [qv 10 8,qv 5 10] (sr [qv 11 1,qv 12 0,qv 13 5,qx 14 3 12 13,qs 15 3 14,qq 16 (.callV (.t 11) [.t 15])] (.cond (.t 16) (sr [qv 17 5,qv 4 17] (.ret)) (.skip))))) (.region [qn 18 .add 8 1,qv 8 18]))))))) (sr [qq 4 (.mov (nn (-1)))] (.ret))),[.t 4]⟩
def S156 : AF := ⟨sr [qm 4 0] (.seq (sr [qv 6 0,qq 7 (.lenSl (.t 6)),qm 8 0] (.block 0 (.loop (sr [qb 9 .lss 8 7] (.seq (.cond (.t 9) (.skip) (.exit 0)) (.seq (.block 1 (sr [qv 10 8,qv 5 10] (sr [qv 11 1,qv 12 0,qv 13 5,qx 14 4 12 13,qs 15 4 14,qq 16 (.callV (.t 11) [.t 15])] (.cond (.t 16) (sr [qv 17 5,qv 4 17] (.ret)) (.skip))))) (.region [qn 18 .add 8 1,qv 8 18]))))))) (sr [qq 4 (.mov (nn (-1)))] (.ret))),[.t 4]⟩
def S157 : AF := ⟨sr [qv 8 1,qn 9 .add 8 1,qv 6 9] (.block 0 (.loop (.seq (sr [qv 10 6,qv 11 2,qb 12 .lss 10 11] (.cond (.t 12) (.skip) (.exit 0))) (.seq (.block 1 (sr [qv 15 6,qv 7 15] (.block 2 (.loop (.seq (.seq (.seq (.draw [qv 16 7,qv 17 1,qb 18 .gtr 16 17,qv 19 18,qg 20 (.mov (.t 0)) 19 true,qg 21 (.mov (.t 7)) 19 true,qg 22 (.idxSl 1 (.t 20) (.t 21)) 19 true,qg 23 (.load none (.t 22)) 19 true,qg 24 (.mov (.t 0)) 19 true,qg 25 (.mov (.t 7)) 19 true,qg 26 (.bin .sub (.t 25) (nn 1)) 19 true,qg 27 (.idxSl 1 (.t 24) (.t 26)) 19 true,qg 28 (.load none (.t 27)) 19 true] []) (.region [qg 29 (.call 163 [.t 23,.t 28]) 19 true,qq 30 (.pick (.t 19) (.t 29) (.c (.bool false)))])) (.cond (.t 30) (.skip) (.exit 2))) (.seq (.block 3 (.draw [qv 33 0,qv 34 7,qv 35 0,qv 36 7,qn 37 .sub 36 1,qv 38 0,qv 39 7,qn 40 .sub 39 1,qx 41 1 38 40,ql 42 41,qv 43 0,qv 44 7,qx 45 1 43 44,ql 46 45,qx 47 1 33 34,qu (.store 1 (.t 47) (.t 42)),qx 48 1 35 37,qu (.store 1 (.t 48) (.t 46))] [])) (.region [qv 31 7,qn 32 .sub 31 1,qv 7 32]))))))) (.region [qv 13 6,qn 14 .add 13 1,qv 6 14]))))),[]⟩
def S158 : AF := ⟨sr [qv 11 1,qv 6 11] (sr [qm 7 0] (sr [qv 12 2,qv 13 1,qb 14 .sub 12 13,qv 8 14] (.seq (sr [qv 15 8,qn 16 .sub 15 1,qn 17 .quo 16 2,qv 9 17] (.block 0 (.loop (.seq (sr [qv 18 9,qn 19 .geq 18 0] (.cond (.t 19) (.skip) (.exit 0))) (.seq (.block 1 (.region [qv 22 0,qv 23 9,qv 24 8,qv 25 6,qq 26 (.call 200 [.t 22,.t 23,.t 24,.t 25])])) (.region [qv 20 9,qn 21 .sub 20 1,qv 9 21])))))) (sr [qv 27 8,qn 28 .sub 27 1,qv 10 28] (.block 2 (.loop (.seq (sr [qv 29 10,qn 30 .geq 29 0] (.cond (.t 30) (.skip) (.exit 2))) (.seq (.block 3 (.seq (.draw [qv 33 0,qv 34 6,qv 35 0,qv 36 6,qv 37 10,qb 38 .add 36 37,qv 39 0,qv 40 6,qv 41 10,qb 42 .add 40 41,qx 43 1 39 42,ql 44 43,qv 45 0,qv 46 6,qx 47 1 45 46,ql 48 47,qx 49 1 33 34,qu (.store 1 (.t 49) (.t 44)),qx 50 1 35 38,qu (.store 1 (.t 50) (.t 48))] []) (.region [qv 51 0,qv 52 7,qv 53 10,qv 54 6,qq 55 (.call 200 [.t 51,.t 52,.t 53,.t 54])]))) (.region [qv 31 10,qn 32 .sub 31 1,qv 10 32]))))))))),[]⟩
def S159 : AF := ⟨sr [qv 11 2,qv 12 1,qb 13 .sub 11 12,qv 6 13] (sr [qv 14 6,qn 15 .geq 14 8] (.cond (.t 15) (sr [qv 16 6,qq 17 (.conv .u64 (.t 16)),qq 7 (.alloc [(.int .u64 0)]),qu (.store 1 (.t 7) (.t 17))] (sr [qv 18 6,qq 19 (.call 201 [.t 18]),qv 8 19] (sr [qv 20 1,qv 21 6,qn 22 .quo 21 4,qn 23 .mul 22 2,qb 24 .add 20 23,qn 25 .sub 24 1,qv 9 25] (.block 0 (.loop (.seq (sr [qv 26 9,qv 27 1,qv 28 6,qn 29 .quo 28 4,qn 30 .mul 29 2,qb 31 .add 27 30,qn 32 .add 31 1,qb 33 .leq 26 32] (.cond (.t 33) (.skip) (.exit 0))) (.seq (.block 1 (sr [qq 36 (.call 202 [.t 7]),qv 37 8,qq 38 (.bin .sub (.t 37) (.c (.int .u64 1))),qb 39 .and 36 38,qq 40 (.conv .i64 (.t 39)),qv 10 40] (.seq (sr [qv 41 10,qv 42 6,qb 43 .geq 41 42] (.cond (.t 43) (.region [qv 44 10,qv 45 6,qb 46 .sub 44 45,qv 10 46]) (.skip))) (.draw [qv 47 0,qv 48 9,qv 49 0,qv 50 1,qv 51 10,qb 52 .add 50 51,qv 53 0,qv 54 1,qv 55 10,qb 56 .add 54 55,qx 57 1 53 56,ql 58 57,qv 59 0,qv 60 9,qx 61 1 59 60,ql 62 61,qx 63 1 47 48,qu (.store 1 (.t 63) (.t 58)),qx 64 1 49 52,qu (.store 1 (.t 64) (.t 62))] [])))) (.region [qv 34 9,qn 35 .add 34 1,qv 9 35])))))))) (.skip))),[]⟩
def S160 : AF := ⟨sr [qm 6 0,qm 7 0] (sr [qv 13 2,qv 14 1,qb 15 .sub 13 14,qv 8 15] (sr [qq 9 (.alloc [(.int .i64 0)])] (sr [qv 16 1,qv 17 8,qn 18 .quo 17 4,qn 19 .mul 18 1,qb 20 .add 16 19,qv 10 20] (sr [qv 21 1,qv 22 8,qn 23 .quo 22 4,qn 24 .mul 23 2,qb 25 .add 21 24,qv 11 25] (sr [qv 26 1,qv 27 8,qn 28 .quo 27 4,qn 29 .mul 28 3,qb 30 .add 26 29,qv 12 30] (.seq (sr [qv 31 8,qn 32 .geq 31 8] (.cond (.t 32) (.seq (sr [qv 33 8,qn 34 .geq 33 50] (.cond (.t 34) (sr [qv 35 0,qv 36 10,qq 37 (.call 203 [.t 35,.t 36,.t 9]),qv 10 37] (sr [qv 38 0,qv 39 11,qq 40 (.call 203 [.t 38,.t 39,.t 9]),qv 11 40] (.region [qv 41 0,qv 42 12,qq 43 (.call 203 [.t 41,.t 42,.t 9]),qv 12 43]))) (.skip))) (.region [qv 44 0,qv 45 10,qv 46 11,qv 47 12,qq 48 (.call 204 [.t 44,.t 45,.t 46,.t 47,.t 9]),qv 11 48])) (.skip))) (sr [ql 49 9] (.block 0 (sr [qn 52 .eql 49 0,qv 51 52] (.cond (.t 51) (sr [qv 53 11,qv 6 53,qm 7 1] (.ret)) (sr [qn 55 .eql 49 12,qv 54 55] (.cond (.t 54) (sr [qv 56 11,qv 6 56,qm 7 2] (.ret)) (sr [qv 50 11,qv 6 50,qm 7 0] (.ret)))))))))))))),[.t 6,.t 7]⟩
def S161 : AF := ⟨sr [qv 8 1,qv 6 8] (sr [qv 9 2,qn 10 .sub 9 1,qv 7 10] (.block 0 (.loop (.seq (sr [qv 11 6,qv 12 7,qb 13 .lss 11 12] (.cond (.t 13) (.skip) (.exit 0))) (.block 1 (.seq (.draw [qv 14 0,qv 15 6,qv 16 0,qv 17 7,qv 18 0,qv 19 7,qx 20 1 18 19,ql 21 20,qv 22 0,qv 23 6,qx 24 1 22 23,ql 25 24,qx 26 1 14 15,qu (.store 1 (.t 26) (.t 21)),qx 27 1 16 17,qu (.store 1 (.t 27) (.t 25))] []) (sr [qv 28 6,qn 29 .add 28 1,qv 6 29] (.region [qv 30 7,qn 31 .sub 30 1,qv 7 31])))))))),[]⟩
def S162 : AF := ⟨sr [qq 6 (.mov (.c (.bool false)))] (sr [qv 11 1,qn 12 .add 11 1,qv 7 12] (.seq (sr [qm 8 0] (.block 0 (.loop (.seq (sr [qv 13 8,qn 14 .lss 13 5] (.cond (.t 14) (.skip) (.exit 0))) (.seq (.block 1 (.seq (.block 2 (.loop (.seq (.seq (.seq (.draw [qv 17 7,qv 18 2,qb 19 .lss 17 18,qv 20 19,qg 21 (.mov (.t 0)) 20 true,qg 22 (.mov (.t 7)) 20 true,qg 23 (.idxSl 1 (.t 21) (.t 22)) 20 true,qg 24 (.load none (.t 23)) 20 true,qg 25 (.mov (.t 0)) 20 true,qg 26 (.mov (.t 7)) 20 true,qg 27 (.bin .sub (.t 26) (nn 1)) 20 true,qg 28 (.idxSl 1 (.t 25) (.t 27)) 20 true,qg 29 (.load none (.t 28)) 20 true] []) (.region [qg 30 (.call 163 [.t 24,.t 29]) 20 true,qg 31 (.un .not (.t 30)) 20 true,qq 32 (.pick (.t 20) (.t 31) (.c (.bool false)))])) (.cond (.t 32) (.skip) (.exit 2))) (.block 3 (.region [qv 33 7,qn 34 .add 33 1,qv 7 34]))))) (.seq (sr [qv 35 7,qv 36 2,qb 37 .eql 35 36] (.cond (.t 37) (sr [qq 6 (.mov (.c (.bool true)))] (.ret)) (.skip))) (.seq (sr [qv 38 2,qv 39 1,qb 40 .sub 38 39,qn 41 .lss 40 50] (.cond (.t 41) (sr [qq 6 (.mov (.c (.bool false)))] (.ret)) (.skip))) (.seq (.draw [qv 42 0,qv 43 7,qv 44 0,qv 45 7,qn 46 .sub 45 1,qv 47 0,qv 48 7,qn 49 .sub 48 1,qx 50 1 47 49,ql 51 50,qv 52 0,qv 53 7,qx 54 1 52 53,ql 55 54,qx 56 1 42 43,qu (.store 1 (.t 56) (.t 51)),qx 57 1 44 46,qu (.store 1 (.t 57) (.t 55))] []) (.seq (sr [qv 58 7,qv 59 1,qb 60 .sub 58 59,qn 61 .geq 60 2] (.cond (.t 61) (sr [qv 62 7,qn 63 .sub 62 1,qv 9 63] (.block 4 (.loop (.seq (sr [qv 64 9,qn 65 .geq 64 1] (.cond (.t 65) (.skip) (.exit 4))) (.seq (.block 5 (.seq (.seq (.seq (.draw [qv 68 0,qv 69 9,qx 70 1 68 69,ql 71 70,qv 72 0,qv 73 9,qn 74 .sub 73 1,qx 75 1 72 74,ql 76 75] []) (.region [qq 77 (.call 163 [.t 71,.t 76]),qq 78 (.un .not (.t 77))])) (.cond (.t 78) (.exit 4) (.skip))) (.draw [qv 79 0,qv 80 9,qv 81 0,qv 82 9,qn 83 .sub 82 1,qv 84 0,qv 85 9,qn 86 .sub 85 1,qx 87 1 84 86,ql 88 87,qv 89 0,qv 90 9,qx 91 1 89 90,ql 92 91,qx 93 1 79 80,qu (.store 1 (.t 93) (.t 88)),qx 94 1 81 83,qu (.store 1 (.t 94) (.t 92))] []))) (.region [qv 66 9,qn 67 .sub 66 1,qv 9 67])))))) (.skip))) (sr [qv 95 2,qv 96 7,qb 97 .sub 95 96,qn 98 .geq 97 2] (.cond (.t 98) (sr [qv 99 7,qn 100 .add 99 1,qv 10 100] (.block 6 (.loop (.seq (sr [qv 101 10,qv 102 2,qb 103 .lss 101 102] (.cond (.t 103) (.skip) (.exit 6))) (.seq (.block 7 (.seq (.seq (.seq (.draw [qv 106 0,qv 107 10,qx 108 1 106 107,ql 109 108,qv 110 0,qv 111 10,qn 112 .sub 111 1,qx 113 1 110 112,ql 114 113] []) (.region [qq 115 (.call 163 [.t 109,.t 114]),qq 116 (.un .not (.t 115))])) (.cond (.t 116) (.exit 6) (.skip))) (.draw [qv 117 0,qv 118 10,qv 119 0,qv 120 10,qn 121 .sub 120 1,qv 122 0,qv 123 10,qn 124 .sub 123 1,qx 125 1 122 124,ql 126 125,qv 127 0,qv 128 10,qx 129 1 127 128,ql 130 129,qx 131 1 117 118,qu (.store 1 (.t 131) (.t 126)),qx 132 1 119 121,qu (.store 1 (.t 132) (.t 130))] []))) (.region [qv 104 10,qn 105 .add 104 1,qv 10 105])))))) (.skip))))))))) (.region [qv 15 8,qn 16 .add 15 1,qv 8 16])))))) (sr [qq 6 (.mov (.c (.bool false)))] (.ret)))),[.t 6]⟩
def S164 : AF := ⟨sr [qm 8 0] (.seq (.draw [qv 11 0,qv 12 1,qv 13 0,qv 14 3,qv 15 0,qv 16 3,qx 17 1 15 16,ql 18 17,qv 19 0,qv 20 1,qx 21 1 19 20,ql 22 21,qx 23 1 11 12,qu (.store 1 (.t 23) (.t 18)),qx 24 1 13 14,qu (.store 1 (.t 24) (.t 22))] []) (sr [qv 25 1,qn 26 .add 25 1,qv 27 2,qn 28 .sub 27 1,qv 9 26,qv 10 28] (.seq (.block 0 (.loop (.block 1 (.seq (.block 2 (.loop (.seq (.seq (.seq (.draw [qv 29 9,qv 30 10,qb 31 .leq 29 30,qv 32 31,qg 33 (.mov (.t 0)) 32 true,qg 34 (.mov (.t 1)) 32 true,qg 35 (.idxSl 1 (.t 33) (.t 34)) 32 true,qg 36 (.load none (.t 35)) 32 true,qg 37 (.mov (.t 0)) 32 true,qg 38 (.mov (.t 9)) 32 true,qg 39 (.idxSl 1 (.t 37) (.t 38)) 32 true,qg 40 (.load none (.t 39)) 32 true] []) (.region [qg 41 (.call 163 [.t 36,.t 40]) 32 true,qg 42 (.un .not (.t 41)) 32 true,qq 43 (.pick (.t 32) (.t 42) (.c (.bool false)))])) (.cond (.t 43) (.skip) (.exit 2))) (.block 3 (.region [qv 44 9,qn 45 .add 44 1,qv 9 45]))))) (.seq (.block 4 (.loop (.seq (.seq (.seq (.draw [qv 46 9,qv 47 10,qb 48 .leq 46 47,qv 49 48,qg 50 (.mov (.t 0)) 49 true,qg 51 (.mov (.t 1)) 49 true,qg 52 (.idxSl 1 (.t 50) (.t 51)) 49 true,qg 53 (.load none (.t 52)) 49 true,qg 54 (.mov (.t 0)) 49 true,qg 55 (.mov (.t 10)) 49 true,qg 56 (.idxSl 1 (.t 54) (.t 55)) 49 true,qg 57 (.load none (.t 56)) 49 true] []) (.region [qg 58 (.call 163 [.t 53,.t 57]) 49 true,qq 59 (.pick (.t 49) (.t 58) (.c (.bool false)))])) (.cond (.t 59) (.skip) (.exit 4))) (.block 5 (.region [qv 60 10,qn 61 .sub 60 1,qv 10 61]))))) (.seq (sr [qv 62 9,qv 63 10,qb 64 .gtr 62 63] (.cond (.t 64) (.exit 0) (.skip))) (.seq (.draw [qv 65 0,qv 66 9,qv 67 0,qv 68 10,qv 69 0,qv 70 10,qx 71 1 69 70,ql 72 71,qv 73 0,qv 74 9,qx 75 1 73 74,ql 76 75,qx 77 1 65 66,qu (.store 1 (.t 77) (.t 72)),qx 78 1 67 68,qu (.store 1 (.t 78) (.t 76))] []) (sr [qv 79 9,qn 80 .add 79 1,qv 9 80] (.region [qv 81 10,qn 82 .sub 81 1,qv 10 82]))))))))) (sr [qv 83 9,qv 8 83] (.ret))))),[.t 8]⟩
def S165 : AF := ⟨sr [qm 8 0,qq 9 (.mov (.c (.bool false)))] (.seq (.draw [qv 12 0,qv 13 1,qv 14 0,qv 15 3,qv 16 0,qv 17 3,qx 18 1 16 17,ql 19 18,qv 20 0,qv 21 1,qx 22 1 20 21,ql 23 22,qx 24 1 12 13,qu (.store 1 (.t 24) (.t 19)),qx 25 1 14 15,qu (.store 1 (.t 25) (.t 23))] []) (sr [qv 26 1,qn 27 .add 26 1,qv 28 2,qn 29 .sub 28 1,qv 10 27,qv 11 29] (.seq (.block 0 (.loop (.seq (.seq (.seq (.draw [qv 30 10,qv 31 11,qb 32 .leq 30 31,qv 33 32,qg 34 (.mov (.t 0)) 33 true,qg 35 (.mov (.t 10)) 33 true,qg 36 (.idxSl 1 (.t 34) (.t 35)) 33 true,qg 37 (.load none (.t 36)) 33 true,qg 38 (.mov (.t 0)) 33 true,qg 39 (.mov (.t 1)) 33 true,qg 40 (.idxSl 1 (.t 38) (.t 39)) 33 true,qg 41 (.load none (.t 40)) 33 true] []) (.region [qg 42 (.call 163 [.t 37,.t 41]) 33 true,qq 43 (.pick (.t 33) (.t 42) (.c (.bool false)))])) (.cond (.t 43) (.skip) (.exit 0))) (.block 1 (.region [qv 44 10,qn 45 .add 44 1,qv 10 45]))))) (.seq (.block 2 (.loop (.seq (.seq (.seq (.draw [qv 46 10,qv 47 11,qb 48 .leq 46 47,qv 49 48,qg 50 (.mov (.t 0)) 49 true,qg 51 (.mov (.t 11)) 49 true,qg 52 (.idxSl 1 (.t 50) (.t 51)) 49 true,qg 53 (.load none (.t 52)) 49 true,qg 54 (.mov (.t 0)) 49 true,qg 55 (.mov (.t 1)) 49 true,qg 56 (.idxSl 1 (.t 54) (.t 55)) 49 true,qg 57 (.load none (.t 56)) 49 true] []) (.region [qg 58 (.call 163 [.t 53,.t 57]) 49 true,qg 59 (.un .not (.t 58)) 49 true,qq 60 (.pick (.t 49) (.t 59) (.c (.bool false)))])) (.cond (.t 60) (.skip) (.exit 2))) (.block 3 (.region [qv 61 11,qn 62 .sub 61 1,qv 11 62]))))) (.seq (sr [qv 63 10,qv 64 11,qb 65 .gtr 63 64] (.cond (.t 65) (.seq (.draw [qv 66 0,qv 67 11,qv 68 0,qv 69 1,qv 70 0,qv 71 1,qx 72 1 70 71,ql 73 72,qv 74 0,qv 75 11,qx 76 1 74 75,ql 77 76,qx 78 1 66 67,qu (.store 1 (.t 78) (.t 73)),qx 79 1 68 69,qu (.store 1 (.t 79) (.t 77))] []) (sr [qv 80 11,qv 8 80,qq 9 (.mov (.c (.bool true)))] (.ret))) (.skip))) (.seq (.draw [qv 81 0,qv 82 10,qv 83 0,qv 84 11,qv 85 0,qv 86 11,qx 87 1 85 86,ql 88 87,qv 89 0,qv 90 10,qx 91 1 89 90,ql 92 91,qx 93 1 81 82,qu (.store 1 (.t 93) (.t 88)),qx 94 1 83 84,qu (.store 1 (.t 94) (.t 92))] []) (sr [qv 95 10,qn 96 .add 95 1,qv 10 96] (sr [qv 97 11,qn 98 .sub 97 1,qv 11 98] (.seq (.block 4 (.loop (.block 5 (.seq (.block 6 (.loop (.seq (.seq (.seq (.draw [qv 99 10,qv 100 11,qb 101 .leq 99 100,qv 102 101,qg 103 (.mov (.t 0)) 102 true,qg 104 (.mov (.t 10)) 102 true,qg 105 (.idxSl 1 (.t 103) (.t 104)) 102 true,qg 106 (.load none (.t 105)) 102 true,qg 107 (.mov (.t 0)) 102 true,qg 108 (.mov (.t 1)) 102 true,qg 109 (.idxSl 1 (.t 107) (.t 108)) 102 true,qg 110 (.load none (.t 109)) 102 true] []) (.region [qg 111 (.call 163 [.t 106,.t 110]) 102 true,qq 112 (.pick (.t 102) (.t 111) (.c (.bool false)))])) (.cond (.t 112) (.skip) (.exit 6))) (.block 7 (.region [qv 113 10,qn 114 .add 113 1,qv 10 114]))))) (.seq (.block 8 (.loop (.seq (.seq (.seq (.draw [qv 115 10,qv 116 11,qb 117 .leq 115 116,qv 118 117,qg 119 (.mov (.t 0)) 118 true,qg 120 (.mov (.t 11)) 118 true,qg 121 (.idxSl 1 (.t 119) (.t 120)) 118 true,qg 122 (.load none (.t 121)) 118 true,qg 123 (.mov (.t 0)) 118 true,qg 124 (.mov (.t 1)) 118 true,qg 125 (.idxSl 1 (.t 123) (.t 124)) 118 true,qg 126 (.load none (.t 125)) 118 true] []) (.region [qg 127 (.call 163 [.t 122,.t 126]) 118 true,qg 128 (.un .not (.t 127)) 118 true,qq 129 (.pick (.t 118) (.t 128) (.c (.bool false)))])) (.cond (.t 129) (.skip) (.exit 8))) (.block 9 (.region [qv 130 11,qn 131 .sub 130 1,qv 11 131]))))) (.seq (sr [qv 132 10,qv 133 11,qb 134 .gtr 132 133] (.cond (.t 134) (.exit 4) (.skip))) (.seq (.draw [qv 135 0,qv 136 10,qv 137 0,qv 138 11,qv 139 0,qv 140 11,qx 141 1 139 140,ql 142 141,qv 143 0,qv 144 10,qx 145 1 143 144,ql 146 145,qx 147 1 135 136,qu (.store 1 (.t 147) (.t 142)),qx 148 1 137 138,qu (.store 1 (.t 148) (.t 146))] []) (sr [qv 149 10,qn 150 .add 149 1,qv 10 150] (.region [qv 151 11,qn 152 .sub 151 1,qv 11 152]))))))))) (.seq (.draw [qv 153 0,qv 154 11,qv 155 0,qv 156 1,qv 157 0,qv 158 1,qx 159 1 157 158,ql 160 159,qv 161 0,qv 162 11,qx 163 1 161 162,ql 164 163,qx 165 1 153 154,qu (.store 1 (.t 165) (.t 160)),qx 166 1 155 156,qu (.store 1 (.t 166) (.t 164))] []) (sr [qv 167 11,qv 8 167,qq 9 (.mov (.c (.bool false)))] (.ret)))))))))))),[.t 8,.t 9]⟩
def S175 : AF := ⟨sr [qq 1 (.box 1 (.t 0)),qq 2 (.mov (.c .nilfn))] (sr [qq 3 (.mkFn (.func 217) [] [.t 1]),qv 2 3] (.ret)),[.t 2]⟩
def S196 : AF := ⟨sr [qq 3 (.box 6 (.t 1)),qm 4 0] (.seq (sr [qs 6 6 3,qq 7 (.call 235 [.t 6]),qq 8 (.un .not (.t 7))] (.cond (.t 8) (sr [qm 4 4] (.ret)) (.skip))) (.seq (sr [qf 9 0 3,ql 10 9,qn 11 .eql 10 1] (.cond (.t 11) (sr [qv 12 0,qs 13 6 3,qq 14 (.call 236 [.t 12,.t 13]),qv 4 14] (.ret)) (.skip))) (.seq (.draw [qv 15 0,qq 16 (.nilCheck (.t 15)),qf 17 1 16,ql 18 17,qf 19 1 3,ql 20 19,qq 21 (.lookup .str .nilptr false (.t 18) (.t 20)),qv 5 21] []) (.seq (.block 0 (sr [qv 27 5,qq 28 (.eq false .ptr (.t 27) (.c .nilptr)),qv 26 28] (.cond (.t 26) (sr [qm 4 10] (.ret)) (sr [qf 30 0 3,ql 31 30,qn 32 .eql 31 2,qv 33 32,qg 34 (.fieldAddr 0 (.t 3)) 33 false,qg 35 (.load none (.t 34)) 33 false,qg 36 (.bin .eql (.t 35) (nn 3)) 33 false,qq 37 (.pick (.t 33) (.c (.bool true)) (.t 36)),qv 29 37] (.cond (.t 29) (sr [qv 38 0,qv 39 5,qs 40 6 3,qq 41 (.call 237 [.t 38,.t 39,.t 40]),qv 4 41] (.ret)) (sr [qf 43 0 3,ql 44 43,qn 45 .eql 44 4,qv 42 45] (.cond (.t 42) (.region [qv 46 5,qq 47 (.nilCheck (.t 46)),qf 48 3 47,qf 49 1 48,qu (.store 1 (.t 49) (nn 1))]) (sr [qf 51 0 3,ql 52 51,qn 53 .eql 52 5,qv 50 53] (.cond (.t 50) (.region [qv 54 5,qq 55 (.nilCheck (.t 54)),qf 56 3 55,qf 57 1 56,qu (.store 1 (.t 57) (nn 2))]) (.region [qv 22 5,qq 23 (.nilCheck (.t 22)),qf 24 3 23,qf 25 1 24,qu (.store 1 (.t 25) (nn 3))])))))))))) (.seq (.draw [qv 58 0,qq 59 (.nilCheck (.t 58)),qf 60 1 59,ql 61 60,qf 62 1 3,ql 63 62,qu (.mapDel .str (.t 61) (.t 63))] []) (sr [qm 4 0] (.ret))))))),[.t 4]⟩
def S197 : AF := ⟨sr [qq 2 (.mov (.c (.sl none true 0 [])))] (sr [qv 3 0,qq 4 (.call 238 [.t 3]),qv 2 4] (.ret)),[.t 2]⟩
def S200 : AF := ⟨sr [qv 10 1,qv 8 10] (.block 0 (.loop (.block 1 (sr [qv 11 8,qq 12 (.bin .mul (nn 2) (.t 11)),qn 13 .add 12 1,qv 9 13] (.seq (sr [qv 14 9,qv 15 2,qb 16 .geq 14 15] (.cond (.t 16) (.exit 0) (.skip))) (.seq (.seq (.seq (.draw [qv 17 9,qn 18 .add 17 1,qv 19 2,qb 20 .lss 18 19,qv 21 20,qg 22 (.mov (.t 0)) 21 true,qg 23 (.mov (.t 3)) 21 true,qg 24 (.mov (.t 9)) 21 true,qg 25 (.bin .add (.t 23) (.t 24)) 21 true,qg 26 (.idxSl 1 (.t 22) (.t 25)) 21 true,qg 27 (.load none (.t 26)) 21 true,qg 28 (.mov (.t 0)) 21 true,qg 29 (.mov (.t 3)) 21 true,qg 30 (.mov (.t 9)) 21 true,qg 31 (.bin .add (.t 29) (.t 30)) 21 true,qg 32 (.bin .add (.t 31) (nn 1)) 21 true,qg 33 (.idxSl 1 (.t 28) (.t 32)) 21 true,qg 34 (.load none (.t 33)) 21 true] []) (.region [qg 35 (.call 163 [.t 27,.t 34]) 21 true,qq 36 (.pick (.t 21) (.t 35) (.c (.bool false)))])) (.cond (.t 36) (.region [qv 37 9,qn 38 .add 37 1,qv 9 38]) (.skip))) (.seq (.seq (.seq (.draw [qv 39 0,qv 40 3,qv 41 8,qb 42 .add 40 41,qx 43 1 39 42,ql 44 43,qv 45 0,qv 46 3,qv 47 9,qb 48 .add 46 47,qx 49 1 45 48,ql 50 49] []) (.region [qq 51 (.call 163 [.t 44,.t 50]),qq 52 (.un .not (.t 51))])) (.cond (.t 52) (.ret) (.skip))) (.seq (.draw [qv 53 0,qv 54 3,qv 55 8,qb 56 .add 54 55,qv 57 0,qv 58 3,qv 59 9,qb 60 .add 58 59,qv 61 0,qv 62 3,qv 63 9,qb 64 .add 62 63,qx 65 1 61 64,ql 66 65,qv 67 0,qv 68 3,qv 69 8,qb 70 .add 68 69,qx 71 1 67 70,ql 72 71,qx 73 1 53 56,qu (.store 1 (.t 73) (.t 66)),qx 74 1 57 60,qu (.store 1 (.t 74) (.t 72))] []) (.region [qv 75 9,qv 8 75]))))))))),[]⟩
def S202 : AF := ⟨sr [qq 2 (.mov (.c (.int .u64 0)))] (.seq (.draw [qv 3 0,qq 4 (.nilCheck (.t 3)),ql 5 4,qv 6 0,qq 7 (.nilCheck (.t 6)),ql 8 7,qq 9 (.bin .shl (.t 8) (.c (.int .u64 13))),qb 10 .xor 5 9,qq 11 (.nilCheck (.t 3)),qu (.store 1 (.t 11) (.t 10))] []) (.seq (.draw [qv 12 0,qq 13 (.nilCheck (.t 12)),ql 14 13,qv 15 0,qq 16 (.nilCheck (.t 15)),ql 17 16,qq 18 (.bin .shr (.t 17) (.c (.int .u64 7))),qb 19 .xor 14 18,qq 20 (.nilCheck (.t 12)),qu (.store 1 (.t 20) (.t 19))] []) (.seq (.draw [qv 21 0,qq 22 (.nilCheck (.t 21)),ql 23 22,qv 24 0,qq 25 (.nilCheck (.t 24)),ql 26 25,qq 27 (.bin .shl (.t 26) (.c (.int .u64 17))),qb 28 .xor 23 27,qq 29 (.nilCheck (.t 21)),qu (.store 1 (.t 29) (.t 28))] []) (sr [qv 30 0,qq 31 (.nilCheck (.t 30)),ql 32 31,qv 2 32] (.ret))))),[.t 2]⟩
def S204 : AF := ⟨sr [qm 10 0] (sr [qv 12 0,qv 13 1,qv 14 2,qv 15 4,qq 16 (.call 240 [.t 12,.t 13,.t 14,.t 15]),qv 11 16,qe 17 11 0,qe 18 11 1,qv 1 17,qv 2 18] (sr [qv 20 0,qv 21 2,qv 22 3,qv 23 4,qq 24 (.call 240 [.t 20,.t 21,.t 22,.t 23]),qv 19 24,qe 25 19 0,qe 26 19 1,qv 2 25,qv 3 26] (sr [qv 28 0,qv 29 1,qv 30 2,qv 31 4,qq 32 (.call 240 [.t 28,.t 29,.t 30,.t 31]),qv 27 32,qe 33 27 0,qe 34 27 1,qv 1 33,qv 2 34] (sr [qv 35 2,qv 10 35] (.ret))))),[.t 10]⟩
def S217 : AF := ⟨sr [ql 4 1,qq 5 (.lenSl (.t 4)),qn 6 .sub 5 1,qv 3 6] (.block 0 (.loop (.seq (sr [qv 7 3,qn 8 .geq 7 0] (.cond (.t 8) (.skip) (.exit 0))) (.seq (.block 1 (sr [qv 11 0,qv 12 3,ql 13 1,qv 14 3,qx 15 4 13 14,qs 16 4 15,qq 17 (.callV (.t 11) [.t 12,.t 16]),qq 18 (.un .not (.t 17))] (.cond (.t 18) (.ret) (.skip)))) (.region [qv 9 3,qn 10 .sub 9 1,qv 3 10]))))),[]⟩
def S236 : AF := ⟨sr [qq 3 (.box 6 (.t 1)),qm 4 0] (.seq (.block 0 (.seq (.draw [qv 7 0,qq 8 (.nilCheck (.t 7)),qf 9 1 8,ql 10 9,qf 11 1 3,ql 12 11,qq 13 (.lookup .str .nilptr false (.t 10) (.t 12)),qq 14 (.eq true .ptr (.t 13) (.c .nilptr)),qv 6 14] []) (.cond (.t 6) (sr [qm 4 9] (.ret)) (.seq (.draw [qv 16 0,qq 17 (.nilCheck (.t 16)),qf 18 2 17,ql 19 18,qf 20 1 3,ql 21 20,qq 22 (.lookup .str (.int .i64 0) false (.t 19) (.t 21)),qn 23 .eql 22 0,qv 24 23,qg 25 (.mov (.t 0)) 24 true,qg 26 (.nilCheck (.t 25)) 24 true,qg 27 (.fieldAddr 2 (.t 26)) 24 true,qg 28 (.load none (.t 27)) 24 true,qg 29 (.lenMap (.t 28)) 24 true,qg 30 (.bin .eql (.t 29) (nn 20)) 24 true,qq 31 (.pick (.t 24) (.t 30) (.c (.bool false))),qv 32 31,qg 33 (.mov (.t 0)) 32 false,qg 34 (.nilCheck (.t 33)) 32 false,qg 35 (.fieldAddr 0 (.t 34)) 32 false,qg 36 (.load none (.t 35)) 32 false,qg 37 (.lenSl (.t 36)) 32 false,qg 38 (.bin .eql (.t 37) (nn 40)) 32 false,qq 39 (.pick (.t 32) (.c (.bool true)) (.t 38)),qv 15 39] []) (.cond (.t 15) (sr [qm 4 7] (.ret)) (.skip)))))) (sr [qf 40 1 3,ql 41 40,qf 42 5 3,ql 43 42,qq 44 (.build [(.str []),(.sl none true 0 []),(.int .i64 0),(.int .i64 0),(.int .i64 0),(.sl none true 0 [])] [(0,1,(.t 41)),(2,1,(.t 43))]),qq 45 (.box 6 (.t 44)),qv 5 45] (sr [qv 46 0,qv 47 0,qq 48 (.nilCheck (.t 47)),qf 49 0 48,ql 50 49,qv 51 5,qq 52 (.buildSl true 1 [.nilptr] [(0,1,(.t 51))] 1),qq 53 (.append true 1 8 (.t 50) (.t 52)),qq 54 (.nilCheck (.t 46)),qf 55 0 54,qu (.store 1 (.t 55) (.t 53))] (.seq (.draw [qv 56 0,qq 57 (.nilCheck (.t 56)),qf 58 1 57,ql 59 58,qf 60 1 3,ql 61 60,qv 62 5,qu (.mapSet .str (.t 59) (.t 61) (.t 62))] []) (.seq (.draw [qv 63 0,qq 64 (.nilCheck (.t 63)),qf 65 2 64,ql 66 65,qf 67 1 3,ql 68 67,qq 69 (.lookup .str (.int .i64 0) false (.t 66) (.t 68)),qn 70 .add 69 1,qu (.mapSet .str (.t 66) (.t 68) (.t 70))] []) (sr [qm 4 0] (.ret))))))),[.t 4]⟩
def S237 : AF := ⟨sr [qq 5 (.box 6 (.t 2)),qm 6 0] (.seq (.seq (.draw [qv 7 1,qq 8 (.nilCheck (.t 7)),qf 9 3 8,qf 10 2 9,ql 11 10,qq 12 (.lenSl (.t 11)),qn 13 .eql 12 20,qv 14 13,qg 15 (.mov (.t 0)) 14 false,qg 16 (.nilCheck (.t 15)) 14 false,qg 17 (.fieldAddr 3 (.t 16)) 14 false,qg 18 (.load none (.t 17)) 14 false,qg 19 (.fieldAddr 2 (.t 5)) 14 false,qg 20 (.load none (.t 19)) 14 false,qg 21 (.lookup .str (.int .i64 0) false (.t 18) (.t 20)) 14 false,qg 22 (.bin .eql (.t 21) (nn 0)) 14 false,qg 23 (.mov (.t 22)) 14 false,qg 24 (.mov (.t 0)) 23 true,qg 25 (.nilCheck (.t 24)) 23 true,qg 26 (.fieldAddr 3 (.t 25)) 23 true,qg 27 (.load none (.t 26)) 23 true,qg 28 (.lenMap (.t 27)) 23 true,qg 29 (.bin .eql (.t 28) (nn 40)) 23 true,qg 30 (.pick (.t 23) (.t 29) (.c (.bool false))) 14 false,qq 31 (.pick (.t 14) (.c (.bool true)) (.t 30))] []) (.cond (.t 31) (sr [qm 6 7] (.ret)) (.skip))) (.seq (.draw [qv 32 0,qq 33 (.nilCheck (.t 32)),qf 34 3 33,ql 35 34,qf 36 2 5,ql 37 36,qq 38 (.lookup .str (.int .i64 0) false (.t 35) (.t 37)),qn 39 .add 38 1,qu (.mapSet .str (.t 35) (.t 37) (.t 39))] []) (.seq (.draw [qv 40 1,qv 41 1,qq 42 (.nilCheck (.t 41)),qf 43 3 42,qf 44 2 43,ql 45 44,qf 46 0 5,ql 47 46,qn 48 .eql 47 3,qf 49 3 5,qs 50 2 49,qq 51 (.build [(.bool false),(.int .i64 0),(.int .i64 0),(.int .i64 0)] [(0,1,(.t 48)),(2,2,(.t 50))]),qq 52 (.buildSl true 4 [(.bool false),(.int .i64 0),(.int .i64 0),(.int .i64 0)] [(0,4,(.t 51))] 1),qq 53 (.append true 4 32 (.t 45) (.t 52)),qq 54 (.nilCheck (.t 40)),qf 55 3 54,qf 56 2 55,qu (.store 1 (.t 56) (.t 53))] [(5,12)]) (.seq (.draw [qv 57 1,qv 58 1,qq 59 (.nilCheck (.t 58)),qf 60 1 59,ql 61 60,qf 62 2 5,ql 63 62,qq 64 (.buildSl true 1 [(.str [])] [(0,1,(.t 63))] 1),qq 65 (.append true 1 16 (.t 61) (.t 64)),qq 66 (.nilCheck (.t 57)),qf 67 1 66,qu (.store 1 (.t 67) (.t 65))] [(4,7)]) (sr [qm 6 0] (.ret)))))),[.t 6]⟩
end Go.Pv.T

/- The compiled functions, part 2. -/
namespace Go.Pv.T
open Go Go.Pv

def S238 : AF := ⟨sr [qq 2 (.mov (.c (.sl none true 0 [])))] (sr [qq 3 (.mov (.c (.sl none true 0 [])))] (.seq (sr [qv 6 0,qq 7 (.lenSl (.t 6)),qm 8 0] (.block 0 (.loop (sr [qb 9 .lss 8 7] (.seq (.cond (.t 9) (.skip) (.exit 0)) (.seq (.block 1 (sr [qx 10 1 6 8,ql 11 10,qv 5 11] (sr [qv 12 5,qq 13 (.call 194 [.t 12])] (.cond (.t 13) (.region [qv 14 3,qv 15 5,qq 16 (.buildSl true 1 [(.str [])] [(0,1,(.t 15))] 1),qq 17 (.append true 1 16 (.t 14) (.t 16)),qv 3 17]) (.skip))))) (.region [qn 18 .add 8 1,qv 8 18]))))))) (sr [qv 19 3,qq 20 (.call 254 [(.t 19),(.c (.fn (.func 239) [] []))])] (sr [qv 21 3,qq 22 (.call 255 [.t 21]),qv 2 22] (.ret))))),[.t 2]⟩
def S240 : AF := ⟨sr [qm 8 0,qm 9 0] (.seq (.seq (.seq (.draw [qv 10 0,qv 11 2,qx 12 1 10 11,ql 13 12,qv 14 0,qv 15 1,qx 16 1 14 15,ql 17 16] []) (.region [qq 18 (.call 163 [.t 13,.t 17])])) (.cond (.t 18) (sr [qv 19 3,qq 20 (.nilCheck (.t 19)),ql 21 20,qn 22 .add 21 1,qq 23 (.nilCheck (.t 19)),qu (.store 1 (.t 23) (.t 22))] (sr [qv 24 2,qv 25 1,qv 8 24,qv 9 25] (.ret))) (.skip))) (sr [qv 26 1,qv 27 2,qv 8 26,qv 9 27] (.ret))),[.t 8,.t 9]⟩
def S254 : AF := ⟨sr [qv 5 0,qq 6 (.lenSl (.t 5)),qv 4 6] (.region [qv 7 0,qv 8 4,qv 9 4,qq 10 (.conv .u64 (.t 9)),qq 11 (.call 118 [.t 10]),qv 12 1,qq 13 (.call 264 [(.t 7),(nn 0),(.t 8),(.t 11),(.t 12)])]),[]⟩
def S255 : AF := ⟨sr [qq 2 (.mov (.c (.sl none true 0 [])))] (.seq (sr [qv 6 0,qq 7 (.lenSl (.t 6)),qn 8 .lss 7 2] (.cond (.t 8) (sr [qv 9 0,qv 2 9] (.ret)) (.skip))) (.seq (sr [qm 3 1] (.block 0 (.loop (.seq (sr [qv 10 3,qv 11 0,qq 12 (.lenSl (.t 11)),qb 13 .lss 10 12] (.cond (.t 13) (.skip) (.exit 0))) (.seq (.block 1 (.seq (.draw [qv 16 0,qv 17 3,qx 18 1 16 17,ql 19 18,qv 20 0,qv 21 3,qn 22 .sub 21 1,qx 23 1 20 22,ql 24 23,qb 25 .eql 19 24] []) (.cond (.t 25) (sr [qv 26 0,qv 27 3,qq 28 (.slSl 1 (.t 26) (some (.t 27)) none),qv 4 28] (.seq (sr [qm 5 1] (.block 2 (.loop (.seq (sr [qv 29 5,qv 30 4,qq 31 (.lenSl (.t 30)),qb 32 .lss 29 31] (.cond (.t 32) (.skip) (.exit 2))) (.seq (.block 3 (.seq (.draw [qv 35 4,qv 36 5,qx 37 1 35 36,ql 38 37,qv 39 4,qv 40 5,qn 41 .sub 40 1,qx 42 1 39 41,ql 43 42,qb 44 .neq 38 43] []) (.cond (.t 44) (sr [qv 45 0,qv 46 3,qv 47 4,qv 48 5,qx 49 1 47 48,ql 50 49,qx 51 1 45 46,qu (.store 1 (.t 51) (.t 50))] (.region [qv 52 3,qn 53 .add 52 1,qv 3 53])) (.skip)))) (.region [qv 33 5,qn 34 .add 33 1,qv 5 34])))))) (sr [qv 54 0,qv 55 3,qq 56 (.slSl 1 (.t 54) (some (.t 55)) none),qu (.clear 1 [(.str [])] (.t 56))] (sr [qv 57 0,qv 58 3,qq 59 (.slSl 1 (.t 57) none (some (.t 58))),qv 2 59] (.ret))))) (.skip)))) (.region [qv 14 3,qn 15 .add 14 1,qv 3 15])))))) (sr [qv 60 0,qv 2 60] (.ret)))),[.t 2]⟩
def S264 : AF := ⟨sr [qq 10 (.mov (.c (.bool true)))] (sr [qq 11 (.mov (.c (.bool true)))] (.block 0 (.loop (.block 1 (sr [qv 21 2,qv 22 1,qb 23 .sub 21 22,qv 12 23] (.seq (sr [qv 24 12,qn 25 .leq 24 12] (.cond (.t 25) (sr [qv 26 0,qv 27 1,qv 28 2,qv 29 4,qq 30 (.call 272 [.t 26,.t 27,.t 28,.t 29])] (.ret)) (.skip))) (.seq (sr [qv 31 3,qn 32 .eql 31 0] (.cond (.t 32) (sr [qv 33 0,qv 34 1,qv 35 2,qv 36 4,qq 37 (.call 273 [.t 33,.t 34,.t 35,.t 36])] (.ret)) (.skip))) (.seq (sr [qv 38 10,qq 39 (.un .not (.t 38))] (.cond (.t 39) (sr [qv 40 0,qv 41 1,qv 42 2,qv 43 4,qq 44 (.call 274 [.t 40,.t 41,.t 42,.t 43])] (.region [qv 45 3,qn 46 .sub 45 1,qv 3 46])) (.skip))) (sr [qv 48 0,qv 49 1,qv 50 2,qv 51 4,qq 52 (.call 275 [.t 48,.t 49,.t 50,.t 51]),qv 47 52,qe 53 47 0,qe 54 47 1,qv 13 53,qv 14 54] (.seq (sr [qv 55 14,qn 56 .eql 55 2] (.cond (.t 56) (sr [qv 57 0,qv 58 1,qv 59 2,qv 60 4,qq 61 (.call 276 [.t 57,.t 58,.t 59,.t 60])] (sr [qv 62 2,qn 63 .sub 62 1,qv 64 13,qv 65 1,qb 66 .sub 64 65,qb 67 .sub 63 66,qv 13 67] (.region [qm 14 1]))) (.skip))) (.seq (sr [qv 68 10,qv 69 68,qg 70 (.mov (.t 11)) 69 true,qq 71 (.pick (.t 69) (.t 70) (.c (.bool false))),qv 72 71,qg 73 (.mov (.t 14)) 72 true,qg 74 (.bin .eql (.t 73) (nn 1)) 72 true,qq 75 (.pick (.t 72) (.t 74) (.c (.bool false)))] (.cond (.t 75) (sr [qv 76 0,qv 77 1,qv 78 2,qv 79 4,qq 80 (.call 277 [.t 76,.t 77,.t 78,.t 79])] (.cond (.t 80) (.ret) (.skip))) (.skip))) (.seq (.seq (.seq (.draw [qv 81 1,qn 82 .gtr 81 0,qv 83 82,qg 84 (.mov (.t 4)) 83 true,qg 85 (.mov (.t 0)) 83 true,qg 86 (.mov (.t 1)) 83 true,qg 87 (.bin .sub (.t 86) (nn 1)) 83 true,qg 88 (.idxSl 1 (.t 85) (.t 87)) 83 true,qg 89 (.load none (.t 88)) 83 true,qg 90 (.mov (.t 0)) 83 true,qg 91 (.mov (.t 13)) 83 true,qg 92 (.idxSl 1 (.t 90) (.t 91)) 83 true,qg 93 (.load none (.t 92)) 83 true] []) (.region [qg 94 (.callV (.t 84) [.t 89,.t 93]) 83 true,qg 95 (.bin .lss (.t 94) (nn 0)) 83 true,qg 96 (.un .not (.t 95)) 83 true,qq 97 (.pick (.t 83) (.t 96) (.c (.bool false)))])) (.cond (.t 97) (sr [qv 98 0,qv 99 1,qv 100 2,qv 101 13,qv 102 4,qq 103 (.call 278 [.t 98,.t 99,.t 100,.t 101,.t 102]),qv 15 103] (sr [qv 104 15,qv 1 104] (.exit 1))) (.skip))) (sr [qv 106 0,qv 107 1,qv 108 2,qv 109 13,qv 110 4,qq 111 (.call 279 [.t 106,.t 107,.t 108,.t 109,.t 110]),qv 105 111,qe 112 105 0,qe 113 105 1,qv 16 112,qv 17 113] (sr [qv 114 17,qv 11 114] (sr [qv 115 16,qv 116 1,qb 117 .sub 115 116,qv 118 2,qv 119 16,qb 120 .sub 118 119,qv 18 117,qv 19 120] (sr [qv 121 12,qn 122 .quo 121 8,qv 20 122] (sr [qv 123 18,qv 124 19,qb 125 .lss 123 124] (.cond (.t 125) (sr [qv 126 18,qv 127 20,qb 128 .geq 126 127,qv 10 128] (sr [qv 129 0,qv 130 1,qv 131 16,qv 132 3,qv 133 4,qq 134 (.call 264 [.t 129,.t 130,.t 131,.t 132,.t 133])] (.region [qv 135 16,qn 136 .add 135 1,qv 1 136]))) (sr [qv 137 19,qv 138 20,qb 139 .geq 137 138,qv 10 139] (sr [qv 140 0,qv 141 16,qn 142 .add 141 1,qv 143 2,qv 144 3,qv 145 4,qq 146 (.call 264 [.t 140,.t 142,.t 143,.t 144,.t 145])] (.region [qv 147 16,qv 2 147]))))))))))))))))))))),[]⟩
def S272 : AF := ⟨sr [qv 10 1,qn 11 .add 10 1,qv 8 11] (.block 0 (.loop (.seq (sr [qv 12 8,qv 13 2,qb 14 .lss 12 13] (.cond (.t 14) (.skip) (.exit 0))) (.seq (.block 1 (sr [qv 17 8,qv 9 17] (.block 2 (.loop (.seq (.seq (.seq (.draw [qv 18 9,qv 19 1,qb 20 .gtr 18 19,qv 21 20,qg 22 (.mov (.t 3)) 21 true,qg 23 (.mov (.t 0)) 21 true,qg 24 (.mov (.t 9)) 21 true,qg 25 (.idxSl 1 (.t 23) (.t 24)) 21 true,qg 26 (.load none (.t 25)) 21 true,qg 27 (.mov (.t 0)) 21 true,qg 28 (.mov (.t 9)) 21 true,qg 29 (.bin .sub (.t 28) (nn 1)) 21 true,qg 30 (.idxSl 1 (.t 27) (.t 29)) 21 true,qg 31 (.load none (.t 30)) 21 true] []) (.region [qg 32 (.callV (.t 22) [.t 26,.t 31]) 21 true,qg 33 (.bin .lss (.t 32) (nn 0)) 21 true,qq 34 (.pick (.t 21) (.t 33) (.c (.bool false)))])) (.cond (.t 34) (.skip) (.exit 2))) (.seq (.block 3 (.draw [qv 37 0,qv 38 9,qv 39 0,qv 40 9,qn 41 .sub 40 1,qv 42 0,qv 43 9,qn 44 .sub 43 1,qx 45 1 42 44,ql 46 45,qv 47 0,qv 48 9,qx 49 1 47 48,ql 50 49,qx 51 1 37 38,qu (.store 1 (.t 51) (.t 46)),qx 52 1 39 41,qu (.store 1 (.t 52) (.t 50))] [])) (.region [qv 35 9,qn 36 .sub 35 1,qv 9 36]))))))) (.region [qv 15 8,qn 16 .add 15 1,qv 8 16]))))),[]⟩
end Go.Pv.T

/- The environment. -/
namespace Go.Pv.T
open Go Go.Pv

def utf8first : List V := (List.range 256).map fun i => V.int .u8 (if i < 128 then 240 else if i < 194 then 241 else if i < 224 then 2 else if i = 224 then 19 else if i < 237 then 3 else if i = 237 then 35 else if i < 240 then 3 else if i = 240 then 52 else if i < 244 then 4 else if i = 244 then 68 else 241 : Nat)
def words : List V := [.str [], .str [98, 101, 103, 105, 110], .str [114, 101, 97, 100], .str [119, 114, 105, 116, 101], .str [111, 107], .str [102, 97, 105, 108], .str [105, 110, 102, 111]]
def accR : List V := [.int .u8 128, .int .u8 191, .int .u8 160, .int .u8 191, .int .u8 128, .int .u8 159, .int .u8 144, .int .u8 191, .int .u8 128, .int .u8 143, .int .u8 0, .int .u8 0, .int .u8 0, .int .u8 0, .int .u8 0, .int .u8 0, .int .u8 0, .int .u8 0, .int .u8 0, .int .u8 0, .int .u8 0, .int .u8 0, .int .u8 0, .int .u8 0, .int .u8 0, .int .u8 0, .int .u8 0, .int .u8 0, .int .u8 0, .int .u8 0, .int .u8 0, .int .u8 0]
def fc_2 : FuncId → Option AF
  | 262 => some F262
  | 263 => some F263
  | 265 => some F265
  | 267 => some F267
  | 271 => some F271
  | 280 => some F280
  | _ => none
def fc_1 : FuncId → Option AF
  | 128 => some F128
  | 129 => some F129
  | 130 => some F130
  | 131 => some F131
  | 132 => some F132
  | 147 => some F147
  | 148 => some F148
  | 151 => some F151
  | 153 => some F153
  | 155 => some F155
  | 163 => some F163
  | 167 => some F167
  | 168 => some F168
  | 169 => some F169
  | 172 => some F172
  | 173 => some F173
  | 174 => some F174
  | 188 => some F188
  | 189 => some F189
  | 190 => some F190
  | 191 => some F191
  | 192 => some F192
  | 193 => some F193
  | 194 => some F194
  | 195 => some F195
  | 198 => some F198
  | 199 => some F199
  | 205 => some F205
  | 216 => some F216
  | 224 => some F224
  | 225 => some F225
  | 227 => some F227
  | 228 => some F228
  | 229 => some F229
  | 230 => some F230
  | 231 => some F231
  | 232 => some F232
  | 233 => some F233
  | 234 => some F234
  | 235 => some F235
  | 239 => some F239
  | 247 => some F247
  | 248 => some F248
  | 249 => some F249
  | 250 => some F250
  | 251 => some F251
  | 252 => some F252
  | 253 => some F253
  | 256 => some F256
  | 261 => some F261
  | f => fc_2 f
def fc : FuncId → Option AF
  | 10 => some F10
  | 14 => some F14
  | 18 => some F18
  | 26 => some F26
  | 27 => some F27
  | 28 => some F28
  | 32 => some F32
  | 33 => some F33
  | 34 => some F34
  | 35 => some F35
  | 37 => some F37
  | 38 => some F38
  | 39 => some F39
  | 42 => some F42
  | 43 => some F43
  | 44 => some F44
  | 45 => some F45
  | 46 => some F46
  | 47 => some F47
  | 52 => some F52
  | 61 => some F61
  | 62 => some F62
  | 66 => some F66
  | 67 => some F67
  | 70 => some F70
  | 72 => some F72
  | 74 => some F74
  | 77 => some F77
  | 78 => some F78
  | 81 => some F81
  | 83 => some F83
  | 84 => some F84
  | 87 => some F87
  | 88 => some F88
  | 89 => some F89
  | 90 => some F90
  | 100 => some F100
  | 101 => some F101
  | 104 => some F104
  | 105 => some F105
  | 107 => some F107
  | 110 => some F110
  | 111 => some F111
  | 112 => some F112
  | 116 => some F116
  | 118 => some F118
  | 119 => some F119
  | 124 => some F124
  | 126 => some F126
  | 127 => some F127
  | f => fc_1 f
def fs : FuncId → Option AF
  | 75 => some S75
  | 76 => some S76
  | 82 => some S82
  | 85 => some S85
  | 86 => some S86
  | 102 => some S102
  | 108 => some S108
  | 109 => some S109
  | 113 => some S113
  | 114 => some S114
  | 115 => some S115
  | 117 => some S117
  | 146 => some S146
  | 149 => some S149
  | 150 => some S150
  | 152 => some S152
  | 154 => some S154
  | 156 => some S156
  | 157 => some S157
  | 158 => some S158
  | 159 => some S159
  | 160 => some S160
  | 161 => some S161
  | 162 => some S162
  | 164 => some S164
  | 165 => some S165
  | 175 => some S175
  | 196 => some S196
  | 197 => some S197
  | 200 => some S200
  | 202 => some S202
  | 204 => some S204
  | 217 => some S217
  | 236 => some S236
  | 237 => some S237
  | 238 => some S238
  | 240 => some S240
  | 254 => some S254
  | 255 => some S255
  | 264 => some S264
  | 272 => some S272
  | _ => none
def shl : List Nat := [65, 75, 76, 82, 85, 86, 91, 92, 102, 117, 120, 123, 133, 134, 135, 142, 149, 157, 158, 159, 160, 161, 162, 164, 165, 170, 175, 177, 178, 179, 196, 200, 202, 203, 204, 206, 207, 208, 209, 210, 211, 212, 213, 217, 218, 236, 237, 240, 241, 242, 243, 254, 255, 257, 264, 272, 273, 274, 275, 276, 277, 278, 279, 283, 284, 285, 286]
def shm : List Nat := [18]
def fzl : List Nat := [27]
def E : Env := { sh := fun nm f => shl.any (Nat.beq f) || (nm && shm.any (Nat.beq f)), fz := fun f => fzl.any (Nat.beq f), fc := fc, fs := fs, gl := fun g => match g with | 0 => some words | 1 => some utf8first | 2 => some accR | _ => none }
end Go.Pv.T

/- Histories, as the interpreter has them; first functions on them. -/
namespace Go.Pv.T
open Go Go.Pv

structure Val' where
  kind : Int
  n : Int
  deriving DecidableEq
structure Op' where
  w : Bool
  key : Int
  v : Val'
  deriving DecidableEq
structure Txn' where
  s : Int
  f : Int
  nl : Bool
  ops : List Op'
structure Hist' where
  sn : Bool
  ss : List (List UInt8)
  kn : Bool
  ks : List (List UInt8)
  tn : Bool
  ts : List Txn'

def valC (v : Val') : List V := [.int .i64 v.kind, .int .i64 v.n]
def opC (o : Op') : List V := [.bool o.w, .int .i64 o.key, .int .i64 o.v.kind, .int .i64 o.v.n]
def slOf {α : Type} (nl : Bool) (f : α → List V) (l : List α) : V := .sl none nl l.length (l.flatMap f)
def txnC (t : Txn') : List V := [.int .i64 t.s, .int .i64 t.f, slOf t.nl opC t.ops]
def strC (s : List UInt8) : List V := [.str s]
def histC (h : Hist') : List V := [slOf h.sn strC h.ss, slOf h.kn strC h.ks, slOf h.tn txnC h.ts]

@[simp] theorem lenSlV_slOf {α : Type} (nl : Bool) (f : α → List V) (l : List α) : lenSlV (slOf nl f l) = some (.int .i64 l.length) := rfl
@[simp] theorem slOf_leaf {α : Type} (nl : Bool) (f : α → List V) (l : List α) : (slOf nl f l).leaf = true := rfl
@[simp] theorem slOf_cells {α : Type} (nl : Bool) (f : α → List V) (l : List α) : (slOf nl f l).cells = [slOf nl f l] := rfl
@[simp] theorem slOf_strip {α : Type} (nl : Bool) (f : α → List V) (l : List α) : (slOf nl f l).strip = slOf nl f l := rfl
@[simp] theorem slOf_strip1 {α : Type} (nl : Bool) (f : α → List V) (l : List α) : (slOf nl f l).strip1 = slOf nl f l := rfl
@[simp] theorem slOf_pureTop {α : Type} (nl : Bool) (f : α → List V) (l : List α) : (slOf nl f l).pureTop = true := rfl
@[simp] theorem slOf_pureLeaf {α : Type} (nl : Bool) (f : α → List V) (l : List α) : (slOf nl f l).pureLeaf = true := rfl
@[simp] theorem int_strip (k : IntKind) (n : Int) : (V.int k n).strip = .int k n := rfl
@[simp] theorem bool_strip (n : Bool) : (V.bool n).strip = .bool n := rfl
@[simp] theorem int_strip1 (k : IntKind) (n : Int) : (V.int k n).strip1 = .int k n := rfl
@[simp] theorem bool_strip1 (n : Bool) : (V.bool n).strip1 = .bool n := rfl
@[simp] theorem int_pureTop (k : IntKind) (n : Int) : (V.int k n).pureTop = true := rfl
@[simp] theorem bool_pureTop (n : Bool) : (V.bool n).pureTop = true := rfl
@[simp] theorem int_pureLeaf (k : IntKind) (n : Int) : (V.int k n).pureLeaf = true := rfl
@[simp] theorem bool_pureLeaf (n : Bool) : (V.bool n).pureLeaf = true := rfl
@[simp] theorem agg_strip (cs : List V) : (V.agg cs).strip = .agg (cs.map V.strip1) := rfl
@[simp] theorem agg_pureTop (cs : List V) : (V.agg cs).pureTop = cs.all V.pureLeaf := rfl

def within (n : Int) (l : Nat) : Bool := decide (0 ≤ n) && decide (n < l)

theorem ev155 (n : Int) (nl : Bool) (l : List (List UInt8)) : Ev E 155 [.int .i64 n, slOf nl strC l] (.bool (within n l.length)) := by
  refine Ev_wpK (af := F155) rfl ?_
  by_cases h : 0 ≤ n
  · simp [F155, h]
    exact endV_1 rfl (by simp [within, h]) rfl
  · simp [F155, h]
    exact endV_1 rfl (by simp [within, h]) rfl


def txnB (h : Hist') (t : Txn') : Bool := within t.s h.ss.length && (decide (1 ≤ t.f) && (decide (t.f ≤ 3) && decide (t.ops.length ≤ 20)))
theorem ev110 (h : Hist') (t : Txn') : Ev E 110 [.agg (histC h), .agg (txnC t)] (.bool (txnB h t)) := by
  refine Ev_wpK (af := F110) rfl ?_
  simp [F110, histC, txnC, objCells]
  refine kS_call (vs := [.int .i64 t.s, slOf h.sn strC h.ss]) (by simp) rfl (by simp) (by simpa using ev155 t.s h.sn h.ss) ?_
  unfold txnB
  cases h1 : within t.s h.ss.length
  · simp
    exact endV_1 rfl (by simp) rfl
  by_cases h2 : 1 ≤ t.f
  · by_cases h3 : t.f ≤ 3
    · simp [objCells, h2, h3]
      exact endV_1 rfl (by simp; omega) rfl
    · simp [objCells, h2, h3]
      exact endV_1 rfl (by simp) rfl
  · simp [objCells, h2]
    exact endV_1 rfl (by simp) rfl

def valB (v : Val') : Bool := v.kind == 1 || ((v.kind == 0 || v.kind == 2) && v.n == 0)
theorem ev124 (v : Val') : Ev E 124 [.agg (valC v)] (.bool (valB v)) := by
  refine Ev_wpK (af := F124) rfl ?_
  unfold valB
  cases h1 : v.kind == 1
  · cases h0 : v.kind == 0
    · cases h2 : v.kind == 2
      · simp [F124, valC, objCells, h1, h0, h2]
        exact endV_1 rfl (by simp) rfl
      · simp [F124, valC, objCells, h1, h0, h2]
        exact endV_1 rfl (by simp) rfl
    · simp [F124, valC, objCells, h1, h0]
      exact endV_1 rfl (by simp) rfl
  · simp [F124, valC, objCells, h1]
    exact endV_1 rfl (by simp) rfl
def cellV (v : Val') : V := if v.kind = 1 then .iface 2 (.int .i64 v.n) else if v.kind = 2 then .iface 253 (.agg []) else .nilif
theorem ev169 (v : Val') : Ev E 169 [.agg (valC v)] (.agg [cellV v]) := by
  refine Ev_wpK (af := F169) rfl ?_
  unfold cellV
  by_cases h1 : v.kind = 1
  · simp [F169, valC, objCells, h1]
    exact kEnd_of rfl (l := [.agg [.iface 2 (.int .i64 v.n)]]) (by simp [resOf, objCells]) rfl rfl
  · have b1 : (v.kind == 1) = false := by simpa using h1
    by_cases h2 : v.kind = 2
    · simp [F169, valC, objCells, h2]
      exact kEnd_of rfl (l := [.agg [.iface 253 (.agg [])]]) (by simp [resOf, objCells]) rfl rfl
    · have b2 : (v.kind == 2) = false := by simpa using h2
      simp [F169, valC, objCells, h1, h2, b1, b2]
      exact kEnd_of rfl (l := [.agg [.nilif]]) (by simp [resOf, objCells]) rfl rfl
def backV (v : Val') : Val' := if v.kind = 1 then ⟨1, v.n⟩ else if v.kind = 2 then ⟨2, 0⟩ else ⟨0, 0⟩
theorem ev168 (v : Val') : Ev E 168 [.agg [cellV v]] (.tup [.agg (valC (backV v)), .int .i64 0]) := by
  refine Ev_wpK (af := F168) rfl ?_
  unfold cellV backV
  by_cases h1 : v.kind = 1
  · simp [F168, valC, objCells, h1, eqVV, eqV, assertV, splice]
    exact kEnd_of rfl (l := [.agg [.int .i64 1, .int .i64 v.n], .int .i64 0]) (by simp [resOf, objCells]) rfl rfl
  · by_cases h2 : v.kind = 2
    · simp [F168, valC, objCells, h2, eqVV, eqV, assertV, splice]
      exact kEnd_of rfl (l := [.agg [.int .i64 2, .int .i64 0], .int .i64 0]) (by simp [resOf, objCells]) rfl rfl
    · simp [F168, valC, objCells, h1, h2, eqVV, eqV]
      exact kEnd_of rfl (l := [.agg [.int .i64 0, .int .i64 0], .int .i64 0]) (by simp [resOf, objCells]) rfl rfl
theorem valB_back (v : Val') : valB v = ((backV v).kind == v.kind && (backV v).n == v.n) := by
  obtain ⟨k, n⟩ := v
  unfold valB backV
  by_cases h1 : k = 1
  · simp [h1]
  · by_cases h2 : k = 2
    · rw [if_neg h1, if_pos h2, Bool.eq_iff_iff]
      simp only [Bool.or_eq_true, Bool.and_eq_true, beq_iff_eq]
      omega
    · rw [if_neg h1, if_neg h2, Bool.eq_iff_iff]
      simp only [Bool.or_eq_true, Bool.and_eq_true, beq_iff_eq]
      omega
theorem cellV_leaf (v : Val') : (cellV v).pureLeaf = true := by unfold cellV; split; rfl; split <;> rfl
theorem cellV_strip1 (v : Val') : (cellV v).strip1 = cellV v := by unfold cellV; split; rfl; split <;> rfl
theorem ev119 (v : Val') : Ev E 119 [.agg (valC v)] (.bool (valB v)) := by
  refine Ev_wpK (af := F119) rfl ?_
  simp [F119, valC, objCells]
  refine kS_call (vs := [.agg (valC v)]) (by simp [valC]) rfl (by simp [valC]) (by simpa [valC] using ev169 v) ?_
  simp [retA_plain (v := .agg [cellV v]) (by simp [V.plain, cellV_leaf])]
  refine kS_call (vs := [.agg [cellV v]]) (by simp) rfl (by simp [cellV_leaf, cellV_strip1]) (by simpa [cellV_strip1] using ev168 v) ?_
  rw [valB_back]
  generalize backV v = b
  rw [retA_tupl (by simp [V.plain, valC])]
  simp [valC, objCells]
  exact endV_1 rfl (by simp) rfl

def opB (h : Hist') (o : Op') : Bool := within o.key h.ks.length && (valB o.v && (!o.w || o.v.kind == 1))
theorem ev111 (h : Hist') (o : Op') : Ev E 111 [.agg (histC h), .agg (opC o)] (.bool (opB h o)) := by
  refine Ev_wpK (af := F111) rfl ?_
  simp [F111, histC, opC, objCells]
  refine kS_call (vs := [.int .i64 o.key, slOf h.kn strC h.ks]) (by simp) rfl (by simp) (by simpa using ev155 o.key h.kn h.ks) ?_
  unfold opB
  cases h1 : within o.key h.ks.length
  · simp
    exact endV_1 rfl (by simp) rfl
  simp [objCells]
  refine kS_call (vs := [.agg (valC o.v)]) (by simp [valC]) rfl (by simp [valC]) (by simpa [valC] using ev119 o.v) ?_
  cases h2 : valB o.v
  · simp
    exact endV_1 rfl (by simp) rfl
  cases h3 : o.w
  · simp [objCells]
    exact endV_1 rfl (by simp) rfl
  · simp [objCells]
    exact endV_1 rfl (by simp) rfl
end Go.Pv.T

/- Looking through slices; an observer's round of a predicate. -/
namespace Go.Pv.T
open Go Go.Pv

@[simp] theorem startS_tm (args : List V) (ob : Nat → Option Obj') (tk : Nat → Bool) (ro base ub n : Nat) : (startS args ob tk ro base ub).tm n = args.getD n none' := rfl
@[simp] theorem startS_ob (args : List V) (ob : Nat → Option Obj') (tk : Nat → Bool) (ro base ub : Nat) : (startS args ob tk ro base ub).ob = ob := rfl
@[simp] theorem startS_tk (args : List V) (ob : Nat → Option Obj') (tk : Nat → Bool) (ro base ub : Nat) : (startS args ob tk ro base ub).tk = tk := rfl
@[simp] theorem startS_ro (args : List V) (ob : Nat → Option Obj') (tk : Nat → Bool) (ro base ub : Nat) : (startS args ob tk ro base ub).ro = ro := rfl
@[simp] theorem startS_nx (args : List V) (ob : Nat → Option Obj') (tk : Nat → Bool) (ro base ub : Nat) : (startS args ob tk ro base ub).nx = ub := rfl
@[simp] theorem startS_fb (args : List V) (ob : Nat → Option Obj') (tk : Nat → Bool) (ro base ub : Nat) : (startS args ob tk ro base ub).fb = base := rfl
@[simp] theorem startS_df (args : List V) (ob : Nat → Option Obj') (tk : Nat → Bool) (ro base ub : Nat) : (startS args ob tk ro base ub).df = [] := rfl

theorem wrap64' {n : Int} (h : -9223372036854775808 ≤ n) (h' : n ≤ 9223372036854775807) : IntKind.i64.wrap n = n := by
  rw [IntKind.wrap_i64]; omega

section
variable {α : Type} {f : α → List V} {k : Nat}
theorem flatMap_len (hf : ∀ a, (f a).length = k) : ∀ (l : List α), (l.flatMap f).length = l.length * k
  | [] => by simp
  | a :: l => by rw [List.flatMap_cons, List.length_append, hf, flatMap_len hf l, List.length_cons, Nat.succ_mul]; omega
theorem flatMap_at (hf : ∀ a, (f a).length = k) : ∀ (l : List α) (i : Nat) (h : i < l.length), ((l.flatMap f).drop (i * k)).take k = f l[i]
  | a :: l, 0, _ => by rw [List.flatMap_cons, Nat.zero_mul, List.drop_zero, List.take_append_of_le_length (by rw [hf]; omega), List.take_of_length_le (by rw [hf]; omega)]; rfl
  | a :: l, i + 1, h => by
    rw [List.flatMap_cons, Nat.succ_mul, List.drop_append, List.drop_of_length_le (by rw [hf]; omega), List.nil_append, hf, Nat.add_sub_cancel]
    exact flatMap_at hf l i (by simpa using h)
theorem idx_slOf (hf : ∀ a, (f a).length = k) (nl : Bool) (l : List α) (kk : IntKind) {i : Nat} (h : i < l.length) : idxSlV k (slOf nl f l) (.int kk i) = some (.eptr (l.flatMap f) (i * k)) := by
  simp only [slOf, idxSlV_sl, flatMap_len hf]
  rw [if_pos (by simp; omega)]
  rfl
theorem load_slOf (hf : ∀ a, (f a).length = k) (ob : Nat → Option Obj') (l : List α) {i : Nat} (h : i < l.length) : loadV ob (some k) (.eptr (l.flatMap f) (i * k)) = some (.agg (f l[i])) := by
  have : i * k + k ≤ l.length * k := by rw [← Nat.succ_mul]; exact Nat.mul_le_mul_right k h
  rw [loadV_e, pick1_some, if_pos (by rw [flatMap_len hf]; exact this), flatMap_at hf l i h]
end
@[simp] theorem txnC_len (t : Txn') : (txnC t).length = 3 := rfl
@[simp] theorem opC_len (t : Op') : (opC t).length = 4 := rfl
@[simp] theorem strC_len (t : List UInt8) : (strC t).length = 1 := rfl

theorem kS_callVO {E : Env} {Yf : YF} {q : A} {xs : List A} {st : St} {ub : Nat} {K : St → Nat → Prop} {d : Option Nat} {nm : Bool} {f : FuncId} {first captured : List V} (hq : eval E st.tm q = .fn (.func f) first captured) (hs : E.sh nm f = false)
    (hp : ((first ++ xs.map (eval E st.tm) ++ captured).all fun v => v.strip.pureTop) = false) {v : V} (hv : EvO E f (first ++ xs.map (eval E st.tm) ++ captured) st.ob st.tk ((st.fb + d.getD 0 + 1) * 1024) ub v) (h : wpD (retA ub v) (kApp K st d ub)) :
    wpStep E Yf ⟨d, .callV q xs, none, nm⟩ st ub K := by
  have hsh : sharedCall E nm (eval E st.tm) (.callV q xs) = some (f, first ++ xs.map (eval E st.tm) ++ captured) := by simp only [sharedCall, hq, hs, hp, Bool.not_false, Bool.true_and, Bool.false_eq_true, if_false]
  simp only [wpStep, wanted, yieldCall, hq, hsh]
  obtain ⟨δ, hδ, hK⟩ := h
  exact .inr ⟨hs, v, hv, δ, hδ, hK⟩
theorem kS_callO {E : Env} {Yf : YF} {f : FuncId} {xs : List A} {st : St} {ub : Nat} {K : St → Nat → Prop} {d : Option Nat} {nm : Bool} {vs : List V} (hx : xs.map (eval E st.tm) = vs) (hs : E.sh nm f = false) (hp : (vs.all fun v => v.strip.pureTop) = false) {v : V}
    (hv : EvO E f vs st.ob st.tk ((st.fb + d.getD 0 + 1) * 1024) ub v) (h : wpD (retA ub v) (kApp K st d ub)) : wpStep E Yf ⟨d, .call f xs, none, nm⟩ st ub K :=
  wpS_callO hs (by rw [hx]; exact hp) ⟨v, by rw [hx]; exact hv, h⟩
theorem EvO_wpK {E : Env} {f : FuncId} {af : AF} {args : List V} {ob : Nat → Option Obj'} {tk : Nat → Bool} {base ub : Nat} {r : V} (hf : E.fs f = some af) (h : wpC E noYF af.body (startS args ob (fun _ => false) ub base ub) (kEnd af.res r)) (hz : E.fz f = false := by rfl) : EvO E f args ob tk base ub r := EvO_wp hf h hz

def HistAt (h : Hist') (ob : Nat → Option Obj') (l u : Nat) : Prop := l % 2 = 0 ∧ ob l = some ⟨u, .cells (histC h)⟩

theorem ev109 {h : Hist'} {ob : Nat → Option Obj'} {l u : Nat} (hh : HistAt h ob l u) (t : Txn') (tk : Nat → Bool) (base ub : Nat) : EvO E 109 [.agg (txnC t), .ptr l u 0] ob tk base ub (.bool (!txnB h t)) := by
  obtain ⟨h2, ho⟩ := hh
  refine EvO_wpK (af := S109) rfl ?_
  have hne : ¬ l = 2 * ub + 1 := by omega
  simp [S109, objCells, hne, ho, txnC, histC]
  refine kS_call (vs := [.agg (histC h), .agg (txnC t)]) (by simp [histC, txnC]) rfl (by simp [histC, txnC]) (by simpa [histC, txnC] using ev110 h t) ?_
  simp
  exact endV_1 rfl (by simp) rfl
def firstI {α : Type} (p : α → Bool) (l : List α) : Int := match l.findIdx? p with
  | some i => i
  | none => -1
theorem firstI_found {α : Type} {p : α → Bool} {l : List α} {i : Nat} (h : i < l.length) (hn : p l[i] = true) (hb : ∀ j (hj : j < l.length), j < i → p l[j] = false) : firstI p l = i := by
  unfold firstI
  have : l.findIdx? p = some i := by
    rw [List.findIdx?_eq_some_iff_getElem]
    exact ⟨h, hn, fun j hj => by rw [hb j (by omega) hj]; decide⟩
  rw [this]
theorem firstI_none {α : Type} {p : α → Bool} {l : List α} (hb : ∀ j (hj : j < l.length), p l[j] = false) : firstI p l = -1 := by
  unfold firstI
  have : l.findIdx? p = none := by
    rw [List.findIdx?_eq_none_iff]
    intro x hx
    obtain ⟨j, hj, e⟩ := List.getElem_of_mem hx
    rw [← e]
    exact hb j hj
  rw [this]
theorem firstI_any {α : Type} (p : α → Bool) (l : List α) : decide (0 ≤ firstI p l) = l.any p := by
  unfold firstI
  cases h : l.findIdx? p with
  | none =>
    rw [List.findIdx?_eq_none_iff] at h
    simp
    intro x hx
    simpa using h x hx
  | some i =>
    rw [List.findIdx?_eq_some_iff_getElem] at h
    obtain ⟨hi, hp, _⟩ := h
    simp
    exact ⟨_, List.getElem_mem hi, hp⟩

theorem ev154 {p : Txn' → Bool} {g : FuncId} {cap : V} {ob : Nat → Option Obj'} (hs : E.sh true g = false) (hcap : cap.strip.pureTop = false) (hp : ∀ (t : Txn') (tk : Nat → Bool) (base ub : Nat), EvO E g [.agg (txnC t), cap] ob tk base ub (.bool (p t)))
    (nl : Bool) (l : List Txn') (hl : l.length ≤ 140737488355328) (tk : Nat → Bool) (base ub : Nat) : EvO E 154 [slOf nl txnC l, .fn (.func g) [] [cap]] ob tk base ub (.int .i64 (firstI p l)) := by
  refine EvO_wpK (af := S154) rfl ?_
  simp [S154]
  refine wp_loopK (n := l.length) (fun k s => ∃ i, k = l.length - i ∧ i ≤ l.length ∧ s.df = [] ∧ s.ob = ob ∧ s.tm 0 = slOf nl txnC l ∧ s.tm 1 = .fn (.func g) [] [cap] ∧ s.tm 7 = .int .i64 l.length ∧ s.tm 8 = .int .i64 i ∧ ∀ j (hj : j < l.length), j < i → p l[j] = false)
    ⟨0, by simp⟩ ?_
  rintro k s ⟨i, rfl, hi, hd, ho, h0, h1, h7, h8, hb⟩
  by_cases hlt : i < l.length
  · simp [h0, h1, h7, h8, hlt, idx_slOf txnC_len, load_slOf txnC_len]
    refine kS_callVO (f := g) (first := []) (captured := [cap]) (by simp) hs (by simp [hcap]) (v := .bool (p l[i])) (by simpa [ho] using hp l[i] _ _ _) ?_
    cases hpi : p l[i]
    · simp [h0, h1, h7, h8, hd]
      refine ⟨l.length - (i + 1), by omega, i + 1, rfl, by omega, ho, by rw [wrap64' (by omega) (by omega)]; simp, ?_⟩
      intro j hj hji
      rcases Nat.lt_succ_iff_lt_or_eq.1 hji with h | rfl
      · exact hb j hj h
      · exact hpi
    · simp
      refine endV_1 (by simpa using hd) ?_ rfl
      simp
      rw [firstI_found hlt hpi hb]
  · have : i = l.length := by omega
    subst this
    simp [h7, h8]
    refine endV_1 (by simpa using hd) ?_ rfl
    simp [firstI_none (fun j hj => hb j hj hj)]

theorem ev108 {p : Txn' → Bool} {g : FuncId} {ob : Nat → Option Obj'} {a b c : Nat} (hs : E.sh true g = false) (hp : ∀ (t : Txn') (tk : Nat → Bool) (base ub : Nat), EvO E g [.agg (txnC t), .ptr a b c] ob tk base ub (.bool (p t)))
    (nl : Bool) (l : List Txn') (hl : l.length ≤ 140737488355328) (tk : Nat → Bool) (base ub : Nat) : EvO E 108 [slOf nl txnC l, .fn (.func g) [] [.ptr a b c]] ob tk base ub (.bool (l.any p)) := by
  refine EvO_wpK (af := S108) rfl ?_
  simp [S108]
  refine kS_callO (vs := [slOf nl txnC l, .fn (.func g) [] [.ptr a b c]]) (by simp) rfl rfl (ev154 hs rfl hp nl l hl _ _ _) ?_
  simp
  exact endV_1 rfl (by simp [firstI_any]) rfl
end Go.Pv.T

/- The walk through all ops of a history, whoever is yielded to. -/
namespace Go.Pv.T
open Go Go.Pv

def Fr (ub : Nat) (ob ob' : Nat → Option Obj') : Prop := ∀ key, (∀ m, ub ≤ m → key ≠ 2 * m + 1) → ob' key = ob key
theorem Fr.refl (ub : Nat) (ob : Nat → Option Obj') : Fr ub ob ob := fun _ _ => rfl
def kEndS (res : List ARes) (P : V × (Nat → Option Obj') × (Nat → Bool) × Nat → Prop) : Ex → St → Prop := fun e s => ∃ r, endS res (e, s) = some r ∧ P r

theorem app_tk0 (st : St) (d : Option Nat) (v : V) (obs : List (Nat × Obj')) : (st.app d { v := v, obs := obs }).tk = st.tk := by
  funext u
  simp [app_tk]
theorem Fr.two {ub m : Nat} {ob ob' : Nat → Option Obj'} (h : ∀ key, key ≠ 2 * m + 1 → ob' key = ob key) (hm : ub ≤ m) : Fr ub ob ob' := fun key hk => h key (hk m hm)

theorem step_gen {E : Env} {Yf : YF} {o : AOpr} {st : St} {ub : Nat} {K : St → Nat → Prop} (h : ∀ s', s' = st → wpStep E Yf o s' ub K) : wpStep E Yf o st ub K := h st rfl

theorem run146 {Yf : YF} (h : Hist') (hn : h.ts.length ≤ 1000) (hm : ∀ t ∈ h.ts, t.ops.length ≤ 1000000) {l u lh uh : Nat} {ob0 : Nat → Option Obj'} {tk0 : Nat → Bool} {ro base ub0 : Nat} (hh : ob0 lh = some ⟨uh, .cells (histC h)⟩) (hro : ro ≤ ub0)
    (J : Nat → Nat → (Nat → Option Obj') → (Nat → Bool) → Nat → Prop) (P : V × (Nat → Option Obj') × (Nat → Bool) × Nat → Prop)
    (hfr : ∀ i k ob ob' tk ub ub', J i k ob tk ub → ub ≤ ub' → Fr ub ob ob' → J i k ob' tk ub')
    (hnext : ∀ i (hi : i < h.ts.length) ob tk ub, J i (h.ts[i]).ops.length ob tk ub → J (i + 1) 0 ob tk ub)
    (hstep : ∀ i (hi : i < h.ts.length) k (hk : k < (h.ts[i]).ops.length) ob tk ub, J i k ob tk ub → ro ≤ ub → ∃ r, EvY Yf l u [.agg [.int .i64 i, .int .i64 k], .agg (opC (h.ts[i]).ops[k])] ob tk ro ub r ∧ ro ≤ r.2.2.2 ∧
      ((r.1 = .bool true ∧ J i (k + 1) r.2.1 r.2.2.1 r.2.2.2) ∨ (r.1 = .bool false ∧ ∀ ob' ub', r.2.2.2 ≤ ub' → Fr r.2.2.2 r.2.1 ob' → P (.tup [], ob', r.2.2.1, ub'))))
    (hend : ∀ ob tk ub, J h.ts.length 0 ob tk ub → P (.tup [], ob, tk, ub))
    (h0 : J 0 0 ob0 tk0 ub0) : ∃ r, EvS E Yf.y 146 [.yld l u, .ptr lh uh 0] ob0 tk0 ro base ub0 r ∧ P r := by
  refine EvS_wp (af := S146) rfl (by decide) ?_
  show wpC E Yf S146.body _ (kEndS S146.res P)
  simp [S146, objCells, hh, histC]
  refine wp_loopK (n := h.ts.length) (fun k s => ∃ i, k = h.ts.length - i ∧ i ≤ h.ts.length ∧ s.df = [] ∧ s.fb = base ∧ s.ro = ro ∧ ro ≤ s.nx ∧ s.tm 0 = .yld l u ∧ s.tm 8 = slOf h.tn txnC h.ts ∧ s.tm 9 = .int .i64 h.ts.length ∧ s.tm 10 = .int .i64 i ∧ J i 0 s.ob s.tk s.nx)
    ⟨0, by simp; exact ⟨by omega, hfr _ _ _ _ _ _ _ h0 (by omega) (Fr.refl _ _)⟩⟩ ?_
  rintro k s ⟨i, rfl, hi, hd, hfb, hsr, hnx, h0, h8, h9, h10, hJ⟩
  by_cases hlt : i < h.ts.length
  · simp [h8, h9, h10, hlt, idx_slOf txnC_len, load_slOf txnC_len, txnC, objCells, hsr]
    refine ⟨by omega, ?_⟩
    refine wp_loopK (n := (h.ts[i]).ops.length) (fun k s => ∃ j, k = (h.ts[i]).ops.length - j ∧ j ≤ (h.ts[i]).ops.length ∧ s.df = [] ∧ s.fb = base ∧ s.ro = ro ∧ ro ≤ s.nx ∧ s.tm 0 = .yld l u ∧ s.tm 8 = slOf h.tn txnC h.ts ∧ s.tm 9 = .int .i64 h.ts.length ∧ s.tm 10 = .int .i64 i ∧
      s.tm 3 = .int .i64 i ∧ s.tm 16 = slOf (h.ts[i]).nl opC (h.ts[i]).ops ∧ s.tm 17 = .int .i64 (h.ts[i]).ops.length ∧ s.tm 18 = .int .i64 j ∧ J i j s.ob s.tk s.nx) ⟨0, ?_⟩ ?_
    · simp [hd, hfb, hsr, h0, h8, h9, h10]
      refine ⟨by omega, ?_⟩
      rw [app_tk0, setT_tk, app_tk0]
      refine hfr _ _ _ _ _ _ _ hJ (by omega : s.nx ≤ _) (Fr.two (m := s.nx + 64 + 64 + 64 + 64) (fun key hk => ?_) (by omega))
      simp [hk]
    clear hd hfb hsr hnx h0 h8 h9 h10 hJ s
    rintro k s ⟨j, rfl, hj, hd, hfb, hsr, hnx, h0, h8, h9, h10, h3, h16, h17, h18, hJ⟩
    by_cases hjt : j < (h.ts[i]).ops.length
    · simp [h0, h3, h16, h17, h18, hjt, idx_slOf opC_len, load_slOf opC_len, opC, objCells, hsr, splice]
      refine ⟨by omega, step_gen fun s' hs' => ?_⟩
      have e23 : s'.tm 23 = .yld l u := by rw [hs']; simp
      have e26 : s'.tm 26 = .agg [.int .i64 i, .int .i64 j] := by rw [hs']; simp
      have e27 : s'.tm 27 = .agg (opC (h.ts[i]).ops[j]) := by rw [hs']; simp [opC]
      have e0 : s'.tm 0 = .yld l u := by rw [hs']; simp [h0]
      have e8 : s'.tm 8 = slOf h.tn txnC h.ts := by rw [hs']; simp [h8]
      have e9 : s'.tm 9 = .int .i64 h.ts.length := by rw [hs']; simp [h9]
      have e10 : s'.tm 10 = .int .i64 i := by rw [hs']; simp [h10]
      have e3 : s'.tm 3 = .int .i64 i := by rw [hs']; simp [h3]
      have e16 : s'.tm 16 = slOf (h.ts[i]).nl opC (h.ts[i]).ops := by rw [hs']; simp [h16]
      have e17 : s'.tm 17 = .int .i64 (h.ts[i]).ops.length := by rw [hs']; simp [h17]
      have e18 : s'.tm 18 = .int .i64 j := by rw [hs']; simp [h18]
      have ed : s'.df = [] := by rw [hs']; simp [hd]
      have ef : s'.fb = base := by rw [hs']; simp [hfb]
      have er : s'.ro = ro := by rw [hs']; simp [hsr]
      have et : s'.tk = s.tk := by rw [hs']; simp only [setT_tk, setN_tk, app_tk0]
      have eo : Fr s.nx s.ob s'.ob := by
        rw [hs']
        exact Fr.two (m := s.nx + 64 + 64 + 64 + 64) (fun key hk => by simp [hk]) (by omega)
      clear hs'
      obtain ⟨r, hr, hru, hcase⟩ := hstep i hlt j hjt s'.ob s.tk (s.nx + 64 + 64 + 64 + 64 + 64 + 64 + 64 + 64 + 64 + 64 + 64 + 64) (hfr _ _ _ _ _ _ _ hJ (by omega) eo) (by omega)
      refine wpS_yield (l := l) (u := u) (by simpa using e23) ⟨r, by simpa [e26, e27, et, er] using hr, ?_⟩
      rcases hcase with ⟨hr1, hJ2⟩ | ⟨hr1, hP⟩
      · simp [hr1, put, upd_apply, e18]
        have hb := hm h.ts[i] (List.getElem_mem hlt)
        refine ⟨(h.ts[i]).ops.length - (j + 1), by omega, j + 1, rfl, by omega, ed, ef, er, by omega, e0, e8, e9, e10, e3, e16, e17, by rw [wrap64' (by omega) (by omega)]; simp, ?_⟩
        exact hfr _ _ _ _ _ _ _ hJ2 (by omega) (Fr.refl _ _)
      · simp [hr1, put]
        refine ⟨(.tup [], r.2.1, r.2.2.1, r.2.2.2 + 64), ?_, hP _ _ (by omega) (Fr.refl _ _)⟩
        simp [endS, ed]
    · have : j = (h.ts[i]).ops.length := by omega
      subst this
      have hJ' := hnext i hlt _ _ _ hJ
      simp [h17, h18, h0, h8, h9, h10, hd, hfb, hsr]
      refine ⟨h.ts.length - (i + 1), by omega, i + 1, rfl, by omega, by omega, by rw [wrap64' (by omega) (by omega)]; simp, ?_⟩
      exact hfr _ _ _ _ _ _ _ hJ' (by omega) (Fr.refl _ _)
  · have : i = h.ts.length := by omega
    subst this
    simp [h9, h10]
    refine ⟨(.tup [], s.ob, s.tk, s.nx + 64), ?_, hend _ _ _ (hfr _ _ _ _ _ _ _ hJ (Nat.le_add_right _ _) (Fr.refl _ _))⟩
    simp [endS, hd]
end Go.Pv.T

/- The range of hist.May. -/
namespace Go.Pv.T
open Go Go.Pv

theorem kS_callS {E : Env} {Yf : YF} {f : FuncId} {xs : List A} {st : St} {ub : Nat} {K : St → Nat → Prop} {d : Option Nat} {nm : Bool} {vs : List V} (hx : xs.map (eval E st.tm) = vs) (hs : E.sh nm f = true)
    (h : ∃ r, EvS E Yf.y f vs st.ob st.tk st.ro ((st.fb + d.getD 0 + 1) * 1024) ub r ∧ K { st with tm := put st.tm d r.1, ob := r.2.1, tk := r.2.2.1 } r.2.2.2) : wpStep E Yf ⟨d, .call f xs, none, nm⟩ st ub K := by
  have hsh : sharedCall E nm (eval E st.tm) (.call f xs) = some (f, vs) := by simp only [sharedCall, hs, hx, Bool.not_true, Bool.false_and, Bool.false_eq_true, if_false]
  simp only [wpStep, wanted, yieldCall, hsh]
  obtain ⟨r, hr, hK⟩ := h
  exact .inl ⟨hs, r, hr, hK⟩

theorem ev102 {Yf : YF} (h : Hist') (ob : Nat → Option Obj') (tk : Nat → Bool) (ro base ub : Nat) : ∃ r, EvS E Yf.y 102 [.agg (histC h)] ob tk ro base ub r ∧
    r.1 = .fn (.func 146) [] [.ptr (2 * ub + 1) ub 0] ∧ (∀ key, r.2.1 key = if key = 2 * ub + 1 then some ⟨ub, .cells (histC h)⟩ else ob key) ∧ r.2.2.1 = tk ∧ r.2.2.2 = ub + 256 := by
  refine EvS_wp (af := S102) rfl (by decide) ?_
  show wpC E Yf S102.body _ (kEndS S102.res _)
  simp [S102, histC]
  refine ⟨(.fn (.func 146) [] [.ptr (2 * ub + 1) ub 0], _, _, _), rfl, ?_⟩
  simp [app_tk0]

def opsOf (h : Hist') : List Op' := h.ts.flatMap (·.ops)
def goodTo (h : Hist') (i k : Nat) : Prop := ∀ i' (hi : i' < h.ts.length) k' (hk : k' < (h.ts[i']).ops.length), (i' < i ∨ i' = i ∧ k' < k) → opB h (h.ts[i']).ops[k'] = true
def AS70 : C := .region [
          ⟨(some 4), .alloc [(.bool false), (.int .i64 0), (.int .i64 0), (.int .i64 0)], none, false⟩,
          ⟨none, .store 4 (.t 4) (.t 17), none, false⟩]
def BD70 : C := .block 1 (.seq (.region [
            ⟨(some 18), .load (some 3) (.t 1), none, false⟩,
            ⟨(some 19), .load (some 4) (.t 4), none, false⟩,
            ⟨(some 20), .call 111 [(.t 18), (.t 19)], none, false⟩,
            ⟨(some 21), .un .not (.t 20), none, false⟩])
          (.cond (.t 21) (.seq (.region [
              ⟨none, .store 1 (.t 2) (.c (.int .i64 4)), none, false⟩])
            (.ret))
           (.skip)))

theorem goodTo_all {h : Hist'} (hg : goodTo h h.ts.length 0) : (opsOf h).all (opB h) = true := by
  rw [List.all_eq_true]
  intro o ho
  obtain ⟨t, ht, hot⟩ := List.mem_flatMap.1 ho
  obtain ⟨i, hi, rfl⟩ := List.getElem_of_mem ht
  obtain ⟨k, hk, rfl⟩ := List.getElem_of_mem hot
  exact hg i hi k hk (Or.inl hi)

theorem wpC_gen {E : Env} {Yf : YF} {c : C} {st : St} {Q : Ex → St → Prop} (h : ∀ s', s' = st → wpC E Yf c s' Q) : wpC E Yf c st Q := h st rfl
theorem away {l k : Nat} (ob : Nat → Option Obj') (h : k ≠ l) : (if Nat.beq l k then none else ob k) = ob k := by
  cases hb : Nat.beq l k with
  | false => rfl
  | true => exact absurd (Nat.eq_of_beq_eq_true hb).symm h

theorem range70 (h : Hist') (hn : h.ts.length ≤ 1000) (hm : ∀ t ∈ h.ts, t.ops.length ≤ 1000000) {st : St} {lh uh : Nat} (U : Nat) (hU : st.nx = U) (hU0 : 64 ≤ U) (h15 : st.tm 15 = .fn (.func 146) [] [.ptr lh uh 0]) (hl : ∃ m, lh = 2 * m + 1 ∧ m < U)
    (h1 : st.tm 1 = .ptr 2 0 0) (h2 : st.tm 2 = .ptr 4 64 0) (hro : st.ro = 0) (hfb : st.fb = 0) (o2 : st.ob 2 = some ⟨0, .cells (histC h)⟩) (o4 : st.ob 4 = some ⟨64, .cells [.int .i64 0]⟩) (oh : st.ob lh = some ⟨uh, .cells (histC h)⟩) {Q : Ex → St → Prop}
    (hQ : ∀ (e : Ex) (ob : Nat → Option Obj') (tk : Nat → Bool) (ub : Nat) (c : Int), ob 2 = some ⟨0, .cells (histC h)⟩ → ob 4 = some ⟨64, .cells [.int .i64 c]⟩ → ob (2 * U + 3) = some ⟨U + 1, .dfr⟩ → U + 64 ≤ ub →
      ((opsOf h).all (opB h) = true ∧ e = .nrm ∧ c = 0 ∨ (opsOf h).all (opB h) = false ∧ e = .ret ∧ c = 4) → Q e { st with ob := ob, tk := tk, nx := ub, df := (2 * U + 3, U + 1) :: st.df }) :
    wpC E noYF (.rangeFunc (.t 15) [16, 17] AS70 BD70) st Q := by
  obtain ⟨m, rfl, hmU⟩ := hl
  subst hU
  refine wpC_rangeFunc (g := 146) (first := []) (captured := [.ptr (2 * m + 1) uh 0]) (by simpa using h15) ?_
  have := run146 (Yf := roundF E noYF AS70 BD70 st [16, 17] (2 * st.nx + 1) st.nx) h hn hm (l := 2 * st.nx + 1) (u := st.nx) (lh := 2 * m + 1) (uh := uh)
    (ob0 := upd (upd st.ob (2 * st.nx + 3) (some ⟨st.nx + 1, .dfr⟩)) (2 * st.nx + 1) (some ⟨st.nx, .loop .ready none⟩)) (tk0 := st.tk) (ro := st.ro) (base := (st.fb + 1023) * 1024) (ub0 := st.nx + 64)
    (by have e1 : ¬ 2 * m + 1 = 2 * st.nx + 1 := by omega
        have e2 : ¬ 2 * m + 1 = 2 * st.nx + 3 := by omega
        simp only [upd_apply, e1, e2, if_false, oh]) (by omega)
    (fun i k ob tk ub => goodTo h i k ∧ ob (2 * st.nx + 1) = some ⟨st.nx, .loop .ready none⟩ ∧ ob (2 * st.nx + 3) = some ⟨st.nx + 1, .dfr⟩ ∧ ob 2 = some ⟨0, .cells (histC h)⟩ ∧ ob 4 = some ⟨64, .cells [.int .i64 0]⟩ ∧ st.nx + 64 ≤ ub)
    (fun r => ∃ s pend, r.2.1 (2 * st.nx + 1) = some ⟨st.nx, .loop s pend⟩ ∧ s ≠ .busy ∧ st.ro ≤ st.nx ∧ Q (pend.getD .nrm) { st with ob := fun k => if Nat.beq (2 * st.nx + 1) k then none else r.2.1 k, tk := r.2.2.1, nx := r.2.2.2, df := (2 * st.nx + 3, st.nx + 1) :: st.df })
    ?_ ?_ ?_ ?_ ?_
  · obtain ⟨r, hr, hP⟩ := this
    exact ⟨r, hr, hP⟩
  · -- what J says stands behind what is new
    rintro i k ob ob' tk ub ub' ⟨g1, g2, g3, g4, g5, g6⟩ hub hfr
    have f : ∀ key, (∀ m, ub ≤ m → key ≠ 2 * m + 1) → ob' key = ob key := hfr
    exact ⟨g1, by rw [f _ (fun m hm => by omega)]; exact g2, by rw [f _ (fun m hm => by omega)]; exact g3, by rw [f _ (fun m hm => by omega)]; exact g4, by rw [f _ (fun m hm => by omega)]; exact g5, by omega⟩
  · rintro i hi ob tk ub ⟨g1, g⟩
    refine ⟨fun i' hi' k' hk' hlt => ?_, g⟩
    rcases hlt with h' | ⟨_, h'⟩
    · rcases Nat.lt_succ_iff_lt_or_eq.1 h' with h'' | rfl
      · exact g1 i' hi' k' hk' (Or.inl h'')
      · exact g1 i' hi' k' hk' (Or.inr ⟨rfl, hk'⟩)
    · omega
  · rintro i hi k hk ob tk ub ⟨g1, g2, g3, g4, g5, g6⟩ hru
    refine EvY_round (as := AS70) (bd := BD70) (xs := [.agg [.int .i64 i, .int .i64 k], .agg (opC (h.ts[i]).ops[k])]) rfl (by omega) g2 (by decide) (by decide) ?_
    simp [AS70, setPs, objCells, hfb, opC, hro]
    refine ⟨by rw [if_neg (by omega), if_neg (by omega)]; exact g2, wpC_gen fun s' hs' => ?_⟩
    have f1 : s'.tm 1 = .ptr 2 0 0 := by rw [hs']; simp [upd_apply, h1]
    have f2 : s'.tm 2 = .ptr 4 64 0 := by rw [hs']; simp [upd_apply, h2]
    have f4 : s'.tm 4 = .ptr 8 ub 0 := by rw [hs']; simp
    have n2 : ¬ 2 = 2 * st.nx + 1 := by omega
    have n4 : ¬ 4 = 2 * st.nx + 1 := by omega
    have n8 : ¬ 8 = 2 * st.nx + 1 := by omega
    have n3 : ¬ 2 * st.nx + 3 = 2 * st.nx + 1 := by omega
    have n38 : ¬ 2 * st.nx + 3 = 8 := by omega
    have p2 : s'.ob 2 = some ⟨0, .cells (histC h)⟩ := by rw [hs']; simp only [upd_apply, n2, if_false, app_ob1]; simp [g4]
    have p4 : s'.ob 4 = some ⟨64, .cells [.int .i64 0]⟩ := by rw [hs']; simp only [upd_apply, n4, if_false, app_ob1]; simp [g5]
    have p8 : s'.ob 8 = some ⟨ub, .cells (opC (h.ts[i]).ops[k])⟩ := by rw [hs']; simp only [upd_apply, n8, if_false, app_ob1]; simp [opC]
    have p3 : s'.ob (2 * st.nx + 3) = some ⟨st.nx + 1, .dfr⟩ := by rw [hs']; simp only [upd_apply, n3, n38, if_false, app_ob1]; exact g3
    have p1 : s'.ob (2 * st.nx + 1) = some ⟨st.nx, .loop .busy none⟩ := by rw [hs']; simp
    have fr : s'.ro = 0 := by rw [hs']
    have fn : ub ≤ s'.nx := by rw [hs']; simp; omega
    clear hs'
    simp [BD70, f1, f4, p2, p8, objCells, opC, histC]
    refine kS_call (vs := [.agg (histC h), .agg (opC (h.ts[i]).ops[k])]) (by simp [histC, opC]) rfl (by simp [histC, opC]) (by simpa [histC, opC] using ev111 h (h.ts[i]).ops[k]) ?_
    have m1 : ¬ 2 * st.nx + 1 = 4 := by omega
    have m3 : ¬ 2 * st.nx + 3 = 4 := by omega
    cases hb : opB h (h.ts[i]).ops[k]
    · simp [f2, p4, objCells, fr, m1, p1, roundAns, splice]
      intro ob' ub' hle hfr
      have fk : ∀ key, (∀ m, s'.nx + 64 + 64 + 64 + 64 + 64 ≤ m → key ≠ 2 * m + 1) → ob' key = _ := hfr
      have hall : (opsOf h).all (opB h) = false := by
        rw [List.all_eq_false]
        exact ⟨_, List.mem_flatMap.2 ⟨_, List.getElem_mem hi, List.getElem_mem hk⟩, by rw [hb]; decide⟩
      have n1' : ∀ {k : Nat}, k ≠ 2 * st.nx + 1 → (if 2 * st.nx + 1 = k then none else ob' k) = ob' k := fun hk => if_neg fun e => hk e.symm
      refine ⟨.done, some .ret, ?_, by simp, ?_⟩
      · rw [fk _ (fun m hm => by omega)]
        simp
      · have := hQ .ret (fun k => if 2 * st.nx + 1 = k then none else ob' k) s'.tk ub' 4 (by rw [n1' n2, fk _ (fun m hm => by omega)]; simp only [upd_apply, n2, if_false, app_ob1]; simp [p2]) (by rw [n1' n4, fk _ (fun m hm => by omega)]; simp only [upd_apply, n4, if_false, app_ob1]; simp)
          (by rw [n1' n3, fk _ (fun m hm => by omega)]; simp only [upd_apply, n3, m3, if_false, app_ob1]; exact p3) (by omega) (Or.inr ⟨hall, rfl, rfl⟩)
        rw [hro, hfb] at this
        exact this
    · simp [p1, roundAns]
      refine ⟨fun i' hi' k' hk' hlt => ?_, ?_, ?_, ?_, by omega⟩
      · rcases hlt with h' | ⟨rfl, h'⟩
        · exact g1 i' hi' k' hk' (Or.inl h')
        · rcases Nat.lt_succ_iff_lt_or_eq.1 h' with h'' | rfl
          · exact g1 _ hi' k' hk' (Or.inr ⟨rfl, h''⟩)
          · exact hb
      · rw [upd_apply, if_neg n3]; exact p3
      · rw [upd_apply, if_neg n2]; exact p2
      · rw [upd_apply, if_neg n4]; exact p4
  · rintro ob tk ub ⟨g1, g2, g3, g4, g5, g6⟩
    refine ⟨.ready, none, g2, by simp, by omega, ?_⟩
    exact hQ .nrm _ _ _ 0 ((away ob (by omega)).trans g4) ((away ob (by omega)).trans g5) ((away ob (by omega)).trans g3) g6 (Or.inl ⟨goodTo_all g1, rfl, rfl⟩)
  · refine ⟨fun i' hi' k' hk' hlt => by omega, ?_, ?_, ?_, ?_, by omega⟩
    · simp
    · simp [upd_apply]
    · have e1 : ¬ 2 = 2 * st.nx + 1 := by omega
      have e2 : ¬ 2 = 2 * st.nx + 3 := by omega
      simp only [upd_apply, e1, e2, if_false, o2]
    · have e1 : ¬ 4 = 2 * st.nx + 1 := by omega
      have e2 : ¬ 4 = 2 * st.nx + 3 := by omega
      simp only [upd_apply, e1, e2, if_false, o4]
end Go.Pv.T

/- How many reads there are. -/
namespace Go.Pv.T
open Go Go.Pv

def rc (l : List Op') : Nat := (l.filter fun o => !o.w).length
def rcT (l : List Txn') : Nat := rc (l.flatMap (·.ops))
theorem rc_le (l : List Op') : rc l ≤ l.length := List.length_filter_le _ _
theorem rc_app (a b : List Op') : rc (a ++ b) = rc a + rc b := by simp [rc]

end Go.Pv.T

/- Appending. -/
namespace Go.Pv.T
open Go Go.Pv

section
variable {E : Env} {Yf : YF} {st : St} {ub : Nat} {K : St → Nat → Prop} {d : Option Nat} {nm : Bool}
theorem kS_append_tok {sz bytes u n : Nat} {nl : Bool} {cs ys : List V} {s x : A} (hs : eval E st.tm s = .sl (some (u, sz)) nl n cs) (htk : st.tk u = true) (hx : slCells st.ob sz (eval E st.tm x) = some ys) (hne : ys ≠ []) (hlen : cs.length = n * sz) (h0 : 0 < sz)
    (hp : ys.all V.pureLeaf = true) (hb : (n + ys.length / sz) * bytes ≤ 140737488355328) (hb2 : n + ys.length / sz ≤ 140737488355328) (h : kApp K st d ub { v := .sl (some (ub, sz)) false (n + ys.length / sz) (cs ++ ys), del := some u, add := [ub] }) :
    wpStep E Yf ⟨d, .append false sz bytes s x, none, nm⟩ st ub K := by
  rw [wpStep_of _ rfl rfl]
  simp only [aop, hs, hx, Option.bind_some, if_neg hne, Bool.false_and, Bool.false_eq_true, if_false]
  rw [if_pos ⟨hlen, h0, hp, hb, hb2⟩, if_pos (by simp [htk]), wpD_some]
  exact h
theorem kS_append_nil {sz bytes : Nat} {ys : List V} {s x : A} (hs : eval E st.tm s = .sl none true 0 []) (hx : slCells st.ob sz (eval E st.tm x) = some ys) (hne : ys ≠ []) (h0 : 0 < sz)
    (hp : ys.all V.pureLeaf = true) (hb : (0 + ys.length / sz) * bytes ≤ 140737488355328) (hb2 : 0 + ys.length / sz ≤ 140737488355328) (h : kApp K st d ub { v := .sl (some (ub, sz)) false (0 + ys.length / sz) ([] ++ ys), add := [ub] }) :
    wpStep E Yf ⟨d, .append false sz bytes s x, none, nm⟩ st ub K := by
  rw [wpStep_of _ rfl rfl]
  simp only [aop, hs, hx, Option.bind_some, if_neg hne, Bool.false_and, Bool.false_eq_true, if_false]
  rw [if_pos ⟨by simp, h0, hp, hb, hb2⟩, if_pos trivial, wpD_some]
  exact h
theorem kS_buildSl {sz n : Nat} {zero : List V} {parts : List (Nat × Nat × A)} {cs : List V} (hf : fill zero (evalParts (eval E st.tm) parts) = some cs) (hl : cs.length = n * sz) (hp : (cs.map V.strip1).all V.pureLeaf = true)
    (h : kApp K st d ub { v := .sl (some (ub, sz)) false n (cs.map V.strip1), add := [ub] }) : wpStep E Yf ⟨d, .buildSl false sz zero parts n, none, nm⟩ st ub K := by
  rw [wpStep_of _ rfl rfl]
  simp only [aop, hf, Option.bind_some, Bool.false_eq_true, if_false]
  rw [if_pos ⟨hl, hp⟩, wpD_some]
  exact h
end
theorem fld_at {α : Type} {f : α → List V} {k : Nat} (hf : ∀ a, (f a).length = k) (l : List α) {i o : Nat} (h : i < l.length) (ho : o < k) : (l.flatMap f)[i * k + o]? = (f l[i])[o]? := by
  have := flatMap_at hf l i h
  rw [← this, List.getElem?_take, if_pos ho, List.getElem?_drop]
def numsTo (p : Txn' → Bool) (l : List Txn') : Nat → List Int
  | 0 => []
  | i + 1 => numsTo p l i ++ (match l[i]? with | some t => if p t then [(i : Int)] else [] | none => [])
theorem numsTo_len (p : Txn' → Bool) (l : List Txn') : ∀ i, (numsTo p l i).length ≤ i
  | 0 => by simp [numsTo]
  | i + 1 => by
    have := numsTo_len p l i
    simp only [numsTo, List.length_append]
    split
    · split <;> simp <;> omega
    · simp; omega
def intC (n : Int) : List V := [.int .i64 n]
theorem numsTo_succ {p : Txn' → Bool} {l : List Txn'} {i : Nat} (h : i < l.length) : numsTo p l (i + 1) = numsTo p l i ++ (if p l[i] then [(i : Int)] else []) := by
  simp [numsTo, List.getElem?_eq_getElem h]
@[simp] theorem intC_len (n : Int) : (intC n).length = 1 := rfl
theorem endV_tokG {n u m : Nat} {st : St} {cs : List V} (hd : st.df = []) (h : st.tm n = .sl (some (u, 1)) false m cs) (ht : st.tk u = true) : endV [.t n] (.ret, st) = some (.sl (some (0, 1)) false m cs) := by
  simp only [endV, dfOk_of hd, noDf_of hd, if_true, List.mapM_cons, List.mapM_nil, resOf, h]
  simp [outRes, outTops, outTop, outLeaf, V.toks, V.tok, nodup, ht]

def isInfo (t : Txn') : Bool := t.f == 3
def infosH (h : Hist') : List Int := numsTo isInfo h.ts h.ts.length
theorem ev52 (h : Hist') (hn : h.ts.length ≤ 1000) : Ev E 52 [.agg (histC h)] (.sl (some (0, 1)) false (infosH h).length ((infosH h).flatMap intC)) := by
  refine Ev_wpK (af := F52) rfl ?_
  simp [F52, histC]
  refine kS_buildSl (cs := []) rfl rfl rfl ?_
  simp
  refine wp_loopK (n := h.ts.length) (fun k s => ∃ i u, k = h.ts.length - i ∧ i ≤ h.ts.length ∧ s.df = [] ∧ s.fb = 0 ∧ s.ro = 0 ∧ s.tm 1 = .ptr 2 0 0 ∧ s.ob 2 = some ⟨0, .cells (histC h)⟩ ∧ s.tm 4 = .int .i64 i ∧ s.tk u = true ∧
      s.tm 3 = .sl (some (u, 1)) false (numsTo isInfo h.ts i).length ((numsTo isInfo h.ts i).flatMap intC))
    ⟨0, 128, by simp [numsTo, histC]⟩ ?_
  rintro k s ⟨i, u, rfl, hi, hd, hfb, hro, h1, o2, h4, hu, h3⟩
  by_cases hlt : i < h.ts.length
  · simp [h1, o2, h4, objCells, histC, hlt, idx_slOf txnC_len, fld_at txnC_len, txnC]
    have hl := numsTo_len isInfo h.ts i
    cases hf : h.ts[i].f == 3
    · simp [h4]
      refine ⟨h.ts.length - (i + 1), by omega, i + 1, ⟨rfl, by omega, hd, hfb, hro, h1, by simpa [histC] using o2, by rw [wrap64' (by omega) (by omega)]; simp, u, hu, ?_⟩⟩
      rw [h3, numsTo_succ hlt, isInfo, hf]
      simp
    · simp [h3, h4]
      refine kS_buildSl (cs := [.int .i64 i]) (by simp [splice]) rfl rfl ?_
      simp
      refine kS_append_tok (u := u) (nl := false) (n := (numsTo isInfo h.ts i).length) (cs := (numsTo isInfo h.ts i).flatMap intC) (ys := [.int .i64 i]) (by simp) (by simp [app_tk, hu]) (by simp [slCells]) (by simp) (by rw [flatMap_len intC_len]) (by decide) rfl (by simp; omega) (by simp; omega) ?_
      simp [h4, hd, hfb, hro, h1, o2, histC]
      refine ⟨h.ts.length - (i + 1), by omega, i + 1, rfl, by omega, by rw [wrap64' (by omega) (by omega)]; simp, Or.inl ?_⟩
      rw [numsTo_succ hlt, isInfo, hf]
      simp [intC]
  · have : i = h.ts.length := by omega
    subst this
    simp [h1, o2, h4, objCells, histC]
    exact endV_tokG (u := u) (by simpa using hd) (by simp [h3, infosH]) (by simpa using hu)
end Go.Pv.T

/- Runes: small functions on them. -/
namespace Go.Pv.T
open Go Go.Pv

def digitB (r : Int) : Bool := decide (48 ≤ r) && decide (r ≤ 57)
theorem ev233 (r : Int) : Ev E 233 [.int .i32 r] (.bool (digitB r)) := by
  refine Ev_wpK (af := F233) rfl ?_
  unfold digitB
  by_cases h : 48 ≤ r
  · simp [F233, h]
    exact endV_1 rfl (by simp) rfl
  · simp [F233, h]
    exact endV_1 rfl (by simp) rfl
theorem ev280 (r : Int) : Ev E 280 [.int .i32 r] (.bool false) := by
  refine Ev_wpK (af := F280) rfl ?_
  simp [F280]
  exact endV_1 rfl (by simp) rfl
def cmpI (a b : Int) : Int := if a < b then -1 else if b < a then 1 else 0
theorem ev265 (a b : Int) : Ev E 265 [.int .i32 a, .int .i32 b] (.int .i64 (cmpI a b)) := by
  refine Ev_wpK (af := F265) rfl ?_
  simp [F265]
  refine kS_call (vs := [.int .i32 a]) (by simp) rfl rfl (ev280 a) ?_
  simp
  refine kS_call (vs := [.int .i32 b]) (by simp) rfl rfl (ev280 b) ?_
  unfold cmpI
  by_cases h : a < b
  · simp [h]
    exact endV_1 rfl (by simp) rfl
  · by_cases h2 : b < a
    · simp [h, h2]
      exact endV_1 rfl (by simp) rfl
    · simp [h, h2]
      exact endV_1 rfl (by simp) rfl
def runeC (r : Int) : List V := [.int .i32 r]
@[simp] theorem runeC_len (n : Int) : (runeC n).length = 1 := rfl
def cmpL : List Int → List Int → Int
  | [], [] => 0
  | [], _ :: _ => -1
  | _ :: _, [] => 1
  | a :: x, b :: y => if cmpI a b = 0 then cmpL x y else cmpI a b
theorem rune_at (l : List Int) {i : Nat} (h : i < l.length) : (l.flatMap runeC)[i]? = some (.int .i32 l[i]) := by
  have := fld_at (f := runeC) runeC_len l h (by decide : 0 < 1)
  rw [Nat.mul_one, Nat.add_zero] at this
  rw [this]
  rfl
theorem ev256 (nx ny : Bool) (x y : List Int) (hx : x.length ≤ 140737488355328) : Ev E 256 [slOf nx runeC x, slOf ny runeC y] (.int .i64 (cmpL x y)) := by
  refine Ev_wpK (af := F256) rfl ?_
  simp [F256]
  refine wp_loopK (n := x.length) (fun k s => ∃ i, k = x.length - i ∧ i ≤ x.length ∧ i ≤ y.length ∧ s.df = [] ∧ s.tm 0 = slOf nx runeC x ∧ s.tm 1 = slOf ny runeC y ∧ s.tm 9 = slOf nx runeC x ∧ s.tm 10 = .int .i64 x.length ∧ s.tm 11 = .int .i64 i ∧ cmpL (x.drop i) (y.drop i) = cmpL x y)
    ⟨0, by simp⟩ ?_
  rintro k s ⟨i, rfl, hi, hiy, hd, h0, h1, h9, h10, h11, hc⟩
  by_cases hlt : i < x.length
  · rw [List.drop_eq_getElem_cons hlt] at hc
    by_cases hly : i < y.length
    · rw [List.drop_eq_getElem_cons hly, cmpL] at hc
      have hny : ¬ (y.length : Int) ≤ i := by omega
      simp [h1, h9, h10, h11, hlt, hny, hly, idx_slOf runeC_len, rune_at x hlt, rune_at y hly]
      refine kS_call (vs := [.int .i32 x[i], .int .i32 y[i]]) (by simp) rfl rfl (ev265 x[i] y[i]) ?_
      by_cases hz : cmpI x[i] y[i] = 0
      · rw [if_pos hz] at hc
        simp [hz, h0, h1, h9, h10, h11, hd]
        exact ⟨x.length - (i + 1), by omega, i + 1, rfl, by omega, by omega, by rw [wrap64' (by omega) (by omega)]; simp, hc⟩
      · rw [if_neg hz] at hc
        have hz' : (cmpI x[i] y[i] != 0) = true := by simpa using hz
        simp [hz']
        exact endV_1 (by simpa using hd) (by simp [hc]) rfl
    · have hny : (y.length : Int) ≤ i := by omega
      have e : y.drop i = [] := List.drop_of_length_le (by omega)
      rw [e, cmpL] at hc
      simp [h1, h9, h10, h11, hlt, hny, idx_slOf runeC_len, rune_at x hlt]
      exact endV_1 (by simpa using hd) (by simp [hc]) rfl
  · have : i = x.length := by omega
    subst this
    rw [List.drop_length] at hc
    by_cases hly : x.length < y.length
    · rw [List.drop_eq_getElem_cons hly, cmpL] at hc
      simp [h0, h1, h10, h11, hly]
      exact endV_1 (by simpa using hd) (by simp [hc]) rfl
    · have e : y.drop x.length = [] := List.drop_of_length_le (by omega)
      rw [e, cmpL] at hc
      simp [h0, h1, h10, h11, hly]
      exact endV_1 (by simpa using hd) (by simp [hc]) rfl
end Go.Pv.T

/- The order of names. -/
namespace Go.Pv.T
open Go Go.Pv

def runesI (s : List UInt8) : List Int := (runesL s s.length 0).map fun r => ((r : Nat) : Int)
theorem kS_runes {E : Env} {Yf : YF} {st : St} {ub : Nat} {K : St → Nat → Prop} {d : Option Nat} {nm : Bool} {x : A} {s : List UInt8} (hs : eval E st.tm x = .str s) (hb : (runesI s).length ≤ 70368744177664)
    (h : kApp K st d ub { v := .sl (some (ub, 1)) false (runesI s).length ((runesI s).flatMap runeC), add := [ub] }) : wpStep E Yf ⟨d, .runesOfStr x, none, nm⟩ st ub K := by
  have e : (runesL s s.length 0).map (fun r => V.int .i32 (r : Nat)) = (runesI s).flatMap runeC := by
    rw [runesI, List.flatMap_map]
    generalize runesL s s.length 0 = l
    induction l with
    | nil => rfl
    | cons r l ih => simp only [List.map_cons, List.flatMap_cons, ih, runeC]; rfl
  have el : (runesI s).length = (runesL s s.length 0).length := by simp [runesI]
  rw [wpStep_of _ rfl rfl]
  simp only [aop, hs]
  rw [← el, if_pos hb, wpD_some, e]
  exact h
theorem ev239 (a b : List UInt8) (ha : (runesI a).length ≤ 1000000) (hb : (runesI b).length ≤ 1000000) : Ev E 239 [.str a, .str b] (.int .i64 (cmpL (runesI a) (runesI b))) := by
  refine Ev_wpK (af := F239) rfl ?_
  simp [F239]
  refine kS_runes (s := a) (by simp) (by omega) ?_
  simp
  refine kS_runes (s := b) (by simp) (by omega) ?_
  simp
  refine kS_call (vs := [.sl (some (128, 1)) false (runesI a).length ((runesI a).flatMap runeC), .sl (some (256, 1)) false (runesI b).length ((runesI b).flatMap runeC)]) (by simp) rfl rfl (ev256 false false _ _ (by omega)) ?_
  simp
  exact endV_1 rfl (by simp) rfl
theorem ev199 (a b : List UInt8) (ha : (runesI a).length ≤ 1000000) (hb : (runesI b).length ≤ 1000000) : Ev E 199 [.str a, .str b] (.bool (decide (cmpL (runesI a) (runesI b) < 0))) := by
  refine Ev_wpK (af := F199) rfl ?_
  simp [F199]
  refine kS_call (vs := [.str a, .str b]) (by simp) rfl rfl (ev239 a b ha hb) ?_
  simp
  exact endV_1 rfl (by simp) rfl
end Go.Pv.T

/- Words that are no names. -/
namespace Go.Pv.T
open Go Go.Pv

def resB (s : List UInt8) : Bool := s == [98, 101, 103, 105, 110] || s == [114, 101, 97, 100] || s == [119, 114, 105, 116, 101] || s == [111, 107] || s == [102, 97, 105, 108] || s == [105, 110, 102, 111] || s == [110, 105, 108]
theorem ev230 (s : List UInt8) : Ev E 230 [.str s] (.bool (resB s)) := by
  refine Ev_wpK (af := F230) rfl ?_
  unfold resB
  generalize h1 : (s == [98, 101, 103, 105, 110]) = b1
  generalize h2 : (s == [114, 101, 97, 100]) = b2
  generalize h3 : (s == [119, 114, 105, 116, 101]) = b3
  generalize h4 : (s == [111, 107]) = b4
  generalize h5 : (s == [102, 97, 105, 108]) = b5
  generalize h6 : (s == [105, 110, 102, 111]) = b6
  generalize h7 : (s == [110, 105, 108]) = b7
  cases b1
  · cases b2
    · cases b3
      · cases b4
        · cases b5
          · cases b6
            · cases b7
              all_goals (simp [F230, h1, h2, h3, h4, h5, h6, h7]; exact endV_1 rfl (by simp) rfl)
            · simp [F230, h1, h2, h3, h4, h5, h6]; exact endV_1 rfl (by simp) rfl
          · simp [F230, h1, h2, h3, h4, h5]; exact endV_1 rfl (by simp) rfl
        · simp [F230, h1, h2, h3, h4]; exact endV_1 rfl (by simp) rfl
      · simp [F230, h1, h2, h3]; exact endV_1 rfl (by simp) rfl
    · simp [F230, h1, h2]; exact endV_1 rfl (by simp) rfl
  · simp [F230, h1]; exact endV_1 rfl (by simp) rfl
theorem ev173 (s : List UInt8) : Ev E 173 [.str s] (.bool (resB s)) := by
  refine Ev_wpK (af := F173) rfl ?_
  unfold resB
  generalize h1 : (s == [98, 101, 103, 105, 110]) = b1
  generalize h2 : (s == [114, 101, 97, 100]) = b2
  generalize h3 : (s == [119, 114, 105, 116, 101]) = b3
  generalize h4 : (s == [111, 107]) = b4
  generalize h5 : (s == [102, 97, 105, 108]) = b5
  generalize h6 : (s == [105, 110, 102, 111]) = b6
  generalize h7 : (s == [110, 105, 108]) = b7
  cases b1
  · cases b2
    · cases b3
      · cases b4
        · cases b5
          · cases b6
            · cases b7
              all_goals (simp [F173, h1, h2, h3, h4, h5, h6, h7]; exact endV_1 rfl (by simp) rfl)
            · simp [F173, h1, h2, h3, h4, h5, h6]; exact endV_1 rfl (by simp) rfl
          · simp [F173, h1, h2, h3, h4, h5]; exact endV_1 rfl (by simp) rfl
        · simp [F173, h1, h2, h3, h4]; exact endV_1 rfl (by simp) rfl
      · simp [F173, h1, h2, h3]; exact endV_1 rfl (by simp) rfl
    · simp [F173, h1, h2]; exact endV_1 rfl (by simp) rfl
  · simp [F173, h1]; exact endV_1 rfl (by simp) rfl
end Go.Pv.T

/- What a name may have in it. -/
namespace Go.Pv.T
open Go Go.Pv

def partB (r : Int) : Bool := decide (127 < r) || (r == 95) || digitB r || (decide (97 ≤ r) && decide (r ≤ 122)) || (decide (65 ≤ r) && decide (r ≤ 90))
theorem ev232 (r : Int) : Ev E 232 [.int .i32 r] (.bool (partB r)) := by
  refine Ev_wpK (af := F232) rfl ?_
  unfold partB
  by_cases h1 : 127 < r
  · simp [F232, h1]
    exact endV_1 rfl (by simp) rfl
  cases h2 : (r == 95)
  · simp [F232, h1, h2]
    refine kS_call (vs := [.int .i32 r]) (by simp) rfl rfl (ev233 r) ?_
    cases h3 : digitB r
    · by_cases h4 : 97 ≤ r
      · by_cases h5 : r ≤ 122
        · simp [h4, h5]
          exact endV_1 rfl (by simp) rfl
        · have h6 : 65 ≤ r := by omega
          have h7 : ¬ r ≤ 90 := by omega
          simp [h4, h5, h6, h7]
          exact endV_1 rfl (by simp) rfl
      · by_cases h6 : 65 ≤ r
        · simp [h4, h6]
          exact endV_1 rfl (by simp) rfl
        · simp [h4, h6]
          exact endV_1 rfl (by simp) rfl
    · simp
      exact endV_1 rfl (by simp) rfl
  · simp [F232, h1, h2]
    exact endV_1 rfl (by simp) rfl
end Go.Pv.T

/- Regions of which any order is drawn; loops that count up; what a loop leaves alone. -/
namespace Go.Pv
open Go

def AOp.plainOp : AOp → Bool
  | .call .. | .callV .. | .entry _ | .nextMap _ => false
  | _ => true
def AOp.valOp : AOp → Bool
  | .mov _ | .pick .. | .bin .. | .eq .. | .un .. | .build .. | .load .. | .nilCheck _ | .fieldAddr .. | .idxSl .. | .idxArr .. | .part .. | .idxStr .. | .idxVal .. | .slStr .. | .slSl .. | .lenStr _ | .lenSl _ | .lenMap _ | .extract .. | .mkFn .. | .lookup .. | .iface .. | .assert .. | .conv .. | .minmax .. => true
  | _ => false

def kDr (E : Env) (r : List AOpr) (K : List FP → St → Prop) : St → Nat → Prop := fun st ub => wpDraw E r st ub K
def kFp (f : FP) (K : List FP → St → Prop) : List FP → St → Prop := fun fs s => K (f :: fs) s
def kDQ (free : List (Nat × Nat)) (Q : Ex → St → Prop) : List FP → St → Prop := fun fs s => drawOk free fs = true ∧ Q .nrm s
def kDGd (E : Env) (o : AOpr) (r : List AOpr) (st : St) (ub : Nat) (K : List FP → St → Prop) : Bool → Prop
  | true => wpDraw E (o :: r) st ub K
  | false => wpDraw E r (st.setT o.dst none') (ub + 64) (kFp {} K)
def kDApp (E : Env) (r : List AOpr) (K : List FP → St → Prop) (ρ : A → V) (op : AOp) (st : St) (d : Option Nat) (ub : Nat) : Delta → Prop := fun δ => wpDraw E r (st.app d δ) (ub + 64) (kFp (fpOf ρ op δ) K)

theorem val_delta {call : FuncId → List V → Option V} {ρ : A → V} {ob : Nat → Option Obj'} {tk : Nat → Bool} {ro du ub : Nat} {op : AOp} {δ : Delta} (h : op.valOp = true) (ha : aop call ρ ob tk ro du ub op = some δ) : ∃ v, δ = { v := v } := by
  have key : ∀ {o : Option V}, o.bind one = some δ → ∃ v, δ = { v := v } := fun {o} hb => by
    cases o with
    | none => cases hb
    | some v => cases hb; exact ⟨v, rfl⟩
  cases op <;> first | (cases h; done) | skip
  all_goals simp only [aop] at ha
  all_goals first
    | exact key ha
    | exact key (o := some _) ha
    | (repeat' split at ha) <;> first | (cases ha; done) | exact key ha | exact key (o := some _) ha | skip
  all_goals (try simp only [Option.bind_eq_some_iff] at ha)
  all_goals first
    | (obtain ⟨_, _, hb⟩ := ha; exact key (o := some _) hb)
    | skip
  all_goals
    obtain ⟨_, _, x, _, hb⟩ := ha
    first | exact key (o := some _) hb | (rcases x with _ | ⟨_, _⟩ <;> exact key (o := some _) hb)

section
variable {E : Env} {Yf : YF} {st : St} {ub : Nat} {K : List FP → St → Prop} {d : Option Nat} {nm : Bool} {Q : Ex → St → Prop} {r : List AOpr}
theorem kDr_app : kDr E r K st ub = wpDraw E r st ub K := propext Iff.rfl
theorem kFp_app {f : FP} {fs : List FP} : kFp f K fs st = K (f :: fs) st := propext Iff.rfl
theorem kDQ_app {free : List (Nat × Nat)} {fs : List FP} : kDQ free Q fs st = (drawOk free fs = true ∧ Q .nrm st) := propext Iff.rfl
theorem kC_draw {ops : List AOpr} {free : List (Nat × Nat)} : wpC E Yf (.draw ops free) st Q = wpDraw E ops st st.nx (kDQ free Q) := propext Iff.rfl
theorem kDr_nil : wpDraw E [] st ub K = K [] (st.setN ub) := propext Iff.rfl
theorem kDGd_true {o : AOpr} : kDGd E o r st ub K true = wpDraw E (o :: r) st ub K := propext Iff.rfl
theorem kDGd_false {o : AOpr} : kDGd E o r st ub K false = wpDraw E r (st.setT o.dst none') (ub + 64) (kFp {} K) := propext Iff.rfl
theorem kDr_guard {op : AOp} {t : Nat} {b : Bool} : wpDraw E (⟨d, op, some (t, b), nm⟩ :: r) st ub K = gdK (st.tm t) b (kDGd E ⟨d, op, none, nm⟩ r st ub K) := by
  have hn : AOpr.name ⟨d, op, some (t, b), nm⟩ = AOpr.name ⟨d, op, none, nm⟩ := rfl
  have ht : ∀ c, st.tm t = .bool c → (wpDraw E (⟨d, op, some (t, b), nm⟩ :: r) st ub K = kDGd E ⟨d, op, none, nm⟩ r st ub K (c == b)) := fun c hc => by
    cases hcb : (c == b)
    · have : wanted ⟨d, op, some (t, b), nm⟩ st.tm = some false := by simp [wanted, hc, hcb]
      rw [wpDraw, this, kDGd_false, ← app_v]; rfl
    · have : wanted ⟨d, op, some (t, b), nm⟩ st.tm = some true := by simp [wanted, hc, hcb]
      rw [wpDraw, this, kDGd_true, wpDraw]; rfl
  cases h : st.tm t with
  | bool c => rw [ht c h]; rfl
  | tup l => cases l with
    | nil =>
      have : wanted ⟨d, op, some (t, b), nm⟩ st.tm = some false := by simp [wanted, h]
      rw [wpDraw, this]
      show _ = kDGd E ⟨d, op, none, nm⟩ r st ub K false
      rw [kDGd_false, ← app_v]; rfl
    | cons a l =>
      have : wanted ⟨d, op, some (t, b), nm⟩ st.tm = none := by simp [wanted, h]
      rw [wpDraw, this]; rfl
  | _ =>
    have : wanted ⟨d, op, some (t, b), nm⟩ st.tm = none := by simp [wanted, h]
    rw [wpDraw, this]; rfl
theorem wpDraw_of {op : AOp} (h : op.plainOp = true) : wpDraw E (⟨d, op, none, nm⟩ :: r) st ub K = wpD (aop (fun _ _ => none) (eval E st.tm) st.ob st.tk st.ro (AOpr.name ⟨d, op, none, nm⟩ st.fb ub) ub op) (kDApp E r K (eval E st.tm) op st d ub) := by
  cases op <;> first | cases h; done | (simp only [wpDraw, wanted, sharedCall, AOp.far, true_and]; rfl)
theorem kD_val {op : AOp} (h : op.valOp = true) : wpDraw E (⟨d, op, none, nm⟩ :: r) st ub K = wpStep E Yf ⟨d, op, none, nm⟩ st ub (kDr E r (kFp { ro := rdOb (eval E st.tm) op, rt := rdTk (eval E st.tm) op } K)) := by
  have h1 : op.plainOp = true := by cases op <;> first | rfl | cases h
  have h2 : op.isCall = false := by cases op <;> first | rfl | cases h
  have h3 : op.isNext = false := by cases op <;> first | rfl | cases h
  rw [wpDraw_of h1, wpStep_of _ h2 h3]
  refine propext ⟨?_, ?_⟩
  · rintro ⟨δ, hδ, hk⟩
    obtain ⟨v, rfl⟩ := val_delta h hδ
    exact ⟨_, hδ, hk⟩
  · rintro ⟨δ, hδ, hk⟩
    obtain ⟨v, rfl⟩ := val_delta h hδ
    exact ⟨_, hδ, hk⟩
theorem kD_store {sz : Nat} {p x : A} : wpDraw E (⟨d, .store sz p x, none, nm⟩ :: r) st ub K = wpStore st sz (eval E st.tm x) (kDApp E r K (eval E st.tm) (.store sz p x) st d ub) (eval E st.tm p) := by
  rw [wpDraw_of rfl]
  simp only [aop]
  generalize he : kDApp E r K (eval E st.tm) (.store sz p x) st d ub = k
  clear he
  generalize eval E st.tm p = vp
  cases vp <;> simp only [wpD_none, wpStore]
  rename_i l u off
  cases objCells st.ob l u with
  | none => simp [wpD]
  | some cs => simp only [Option.bind_some, wpD_ite, wpD_some, Option.some.injEq, exists_eq_left', Nat.ble_eq, and_assoc]
theorem kD_alloc {z : List V} : wpDraw E (⟨d, .alloc z, none, nm⟩ :: r) st ub K = kDApp E r K (eval E st.tm) (.alloc z) st d ub { v := .ptr (objName d nm st.fb ub) ub 0, obs := [(objName d nm st.fb ub, ⟨ub, .cells z⟩)] } := by
  rw [wpDraw_of rfl]; simp only [aop, mkObj, wpD_some, name_eq]
theorem kD_box {sz : Nat} {x : A} : wpDraw E (⟨d, .box sz x, none, nm⟩ :: r) st ub K = (((eval E st.tm x).cells.length = sz ∧ (eval E st.tm x).cells.all V.leaf = true) ∧ kDApp E r K (eval E st.tm) (.box sz x) st d ub { v := .ptr (objName d nm st.fb ub) ub 0, obs := [(objName d nm st.fb ub, ⟨ub, .cells (eval E st.tm x).cells⟩)] }) := by
  rw [wpDraw_of rfl]; simp only [aop, mkObj, wpD_ite, wpD_some, name_eq]
theorem kDApp_v {ρ : A → V} {op : AOp} {v : V} : kDApp E r K ρ op st d ub { v := v } = wpDraw E r (st.setT d v) (ub + 64) (kFp (fpOf ρ op { v := v }) K) := by rw [kDApp, app_v]
theorem kDApp_app {ρ : A → V} {op : AOp} {δ : Delta} : kDApp E r K ρ op st d ub δ = wpDraw E r (st.app d δ) (ub + 64) (kFp (fpOf ρ op δ) K) := propext Iff.rfl
theorem kD_ev {f : FuncId} {xs : List A} {args : List V} {v : V} (hev : Ev E f args v) (hx : (xs.map fun x => (eval E st.tm x).strip) = args) (hs : E.sh nm f = false) (hp : args.all V.pureTop = true) (h : wpD (retA ub v) (kDApp E r K (eval E st.tm) (.call f xs) st d ub)) :
    wpDraw E (⟨d, .call f xs, none, nm⟩ :: r) st ub K := by
  have hp' : (xs.all fun x => (eval E st.tm x).strip.pureTop) = true := by rw [← hx, List.all_map] at hp; exact hp
  have hsh : sharedCall E nm (eval E st.tm) (.call f xs) = none := by simp only [sharedCall, hs, hp', Bool.not_false, Bool.and_self, if_true]
  obtain ⟨δ, hδ, hk⟩ := h
  simp only [wpDraw, wanted, hsh, AOp.far, true_and]
  exact ⟨hp', v, hx ▸ hev, δ, hδ, hk⟩
theorem kS_ev {K : St → Nat → Prop} {f : FuncId} {xs : List A} {args : List V} {v : V} (hev : Ev E f args v) (hx : (xs.map fun x => (eval E st.tm x).strip) = args) (hs : E.sh nm f = false) (hp : args.all V.pureTop = true) (h : wpD (retA ub v) (kApp K st d ub)) :
    wpStep E Yf ⟨d, .call f xs, none, nm⟩ st ub K := by
  have hp' : (xs.all fun x => (eval E st.tm x).strip.pureTop) = true := by rw [← hx, List.all_map] at hp; exact hp
  have hsh : sharedCall E nm (eval E st.tm) (.call f xs) = none := by simp only [sharedCall, hs, hp', Bool.not_false, Bool.and_self, if_true]
  obtain ⟨δ, hδ, hk⟩ := h
  simp only [wpStep, wanted, yieldCall, hsh, wpCall]
  exact ⟨by rw [hx]; exact hp, v, hx ▸ hev, δ, hδ, hk⟩
end

/-! What a loop leaves alone. -/
def inR (t : Nat) : List (Nat × Nat) → Bool
  | [] => false
  | (a, b) :: l => (decide (a ≤ t) && decide (t ≤ b)) || inR t l
@[simp] theorem inR_nil (t : Nat) : inR t [] = false := rfl
@[simp] theorem inR_cons (t a b : Nat) (l : List (Nat × Nat)) : inR t ((a, b) :: l) = ((decide (a ≤ t) && decide (t ≤ b)) || inR t l) := rfl
def C.ws : C → List Nat
  | .region ops | .draw ops _ => ops.filterMap (·.dst)
  | .seq a b | .cond _ a b => a.ws ++ b.ws
  | .block _ a | .loop a => a.ws
  | _ => []
def C.noRF : C → Bool
  | .rangeFunc .. => false
  | .seq a b | .cond _ a b => a.noRF && b.noRF
  | .block _ a | .loop a => a.noRF
  | _ => true
structure Keeps (p : Nat → Prop) (st s : St) : Prop where
  b : s.fb = st.fb
  r : s.ro = st.ro
  d : s.df = st.df
  t : ∀ t, ¬ p t → s.tm t = st.tm t
theorem Keeps.rfl' (p : Nat → Prop) (st : St) : Keeps p st st := ⟨rfl, rfl, rfl, fun _ _ => rfl⟩
theorem Keeps.trans {p q q' : Nat → Prop} {a b c : St} (h : Keeps p a b) (h' : Keeps q b c) (hp : ∀ t, p t → q' t) (hq : ∀ t, q t → q' t) : Keeps q' a c :=
  ⟨h'.b.trans h.b, h'.r.trans h.r, h'.d.trans h.d, fun t ht => (h'.t t fun h => ht (hq t h)).trans (h.t t fun h => ht (hp t h))⟩
theorem Keeps.weak {p q : Nat → Prop} {a b : St} (h : Keeps p a b) (hp : ∀ t, p t → q t) : Keeps q a b := ⟨h.b, h.r, h.d, fun t ht => h.t t fun h => ht (hp t h)⟩
theorem put_ne {tm : Nat → V} {d : Option Nat} {v : V} {t : Nat} (h : ¬ t ∈ d.toList) : put tm d v t = tm t := by
  cases d with
  | none => rfl
  | some d => exact upd_ne tm v (fun e => h (by simp [e]))
theorem Keeps.app {st : St} {d : Option Nat} {δ : Delta} : Keeps (· ∈ d.toList) st (st.app d δ) := ⟨rfl, rfl, rfl, fun _ ht => put_ne ht⟩
section
variable {E : Env} {Yf : YF}
theorem wpStep_keeps {o : AOpr} {st : St} {ub : Nat} {K : St → Nat → Prop} (hk : wpStep E Yf o st ub K) : wpStep E Yf o st ub fun s u => K s u ∧ Keeps (· ∈ o.dst.toList) st s := by
  have call : ∀ {f : FuncId} {xs : List V}, wpCall E f xs st o.dst ub K → wpCall E f xs st o.dst ub fun s u => K s u ∧ Keeps (· ∈ o.dst.toList) st s := by
    rintro f xs ⟨hp, v, hv, δ, hδ, hK⟩
    exact ⟨hp, v, hv, δ, hδ, hK, Keeps.app⟩
  unfold wpStep at hk ⊢
  cases hw : wanted o st.tm with
  | none => simp only [hw] at hk
  | some b =>
    cases b with
    | false => simp only [hw] at hk ⊢; exact ⟨hk, rfl, rfl, rfl, fun _ ht => put_ne ht⟩
    | true =>
      simp only [hw] at hk ⊢
      cases hy : yieldCall (eval E st.tm) o.op with
      | some x =>
       obtain ⟨l, u, xs⟩ := x
       simp only [hy] at hk ⊢
       obtain ⟨r, hr, hK⟩ := hk
       exact ⟨r, hr, hK, rfl, rfl, rfl, fun _ ht => put_ne ht⟩
      | none =>
      simp only [hy] at hk ⊢
      cases hsh : sharedCall E o.nm (eval E st.tm) o.op with
      | some fx =>
        simp only [hsh] at hk ⊢
        rcases hk with ⟨h1, r, hr, hK⟩ | ⟨h1, v, hv, δ, hδ, hK⟩
        · exact .inl ⟨h1, r, hr, hK, rfl, rfl, rfl, fun _ ht => put_ne ht⟩
        · exact .inr ⟨h1, v, hv, δ, hδ, hK, Keeps.app⟩
      | none =>
        simp only [hsh] at hk ⊢
        cases ho : o.op <;> simp only [ho] at hk ⊢
        case call f xs => exact call hk
        case callV q xs =>
          obtain ⟨f, first, captured, hev, hk⟩ := hk
          exact ⟨f, first, captured, hev, call hk⟩
        case nextMap x =>
          obtain ⟨l, hl, hK⟩ := hk
          exact ⟨l, hl, fun δ hδ => ⟨hK δ hδ, Keeps.app⟩⟩
        all_goals
          obtain ⟨δ, hδ, hK⟩ := hk
          exact ⟨δ, hδ, hK, Keeps.app⟩
theorem wpStep_mono {o : AOpr} {st : St} {ub : Nat} {K K' : St → Nat → Prop} (h : ∀ s u, K s u → K' s u) (hk : wpStep E Yf o st ub K) : wpStep E Yf o st ub K' := by
  have call : ∀ {f : FuncId} {xs : List V}, wpCall E f xs st o.dst ub K → wpCall E f xs st o.dst ub K' := by
    rintro f xs ⟨hp, v, hv, δ, hδ, hK⟩
    exact ⟨hp, v, hv, δ, hδ, h _ _ hK⟩
  unfold wpStep at hk ⊢
  cases hw : wanted o st.tm with
  | none => simp only [hw] at hk
  | some b =>
    cases b with
    | false => simp only [hw] at hk ⊢; exact h _ _ hk
    | true =>
      simp only [hw] at hk ⊢
      cases hy : yieldCall (eval E st.tm) o.op with
      | some x =>
       obtain ⟨l, u, xs⟩ := x
       simp only [hy] at hk ⊢
       obtain ⟨r, hr, hK⟩ := hk
       exact ⟨r, hr, h _ _ hK⟩
      | none =>
      simp only [hy] at hk ⊢
      cases hsh : sharedCall E o.nm (eval E st.tm) o.op with
      | some fx =>
        simp only [hsh] at hk ⊢
        rcases hk with ⟨h1, r, hr, hK⟩ | ⟨h1, v, hv, δ, hδ, hK⟩
        · exact .inl ⟨h1, r, hr, h _ _ hK⟩
        · exact .inr ⟨h1, v, hv, δ, hδ, h _ _ hK⟩
      | none =>
        simp only [hsh] at hk ⊢
        cases ho : o.op <;> simp only [ho] at hk ⊢
        case call f xs => exact call hk
        case callV q xs =>
          obtain ⟨f, first, captured, hev, hk⟩ := hk
          exact ⟨f, first, captured, hev, call hk⟩
        case nextMap x =>
          obtain ⟨l, hl, hK⟩ := hk
          exact ⟨l, hl, fun δ hδ => h _ _ (hK δ hδ)⟩
        all_goals
          obtain ⟨δ, hδ, hK⟩ := hk
          exact ⟨δ, hδ, h _ _ hK⟩
theorem mem_ws_cons {o : AOpr} {r : List AOpr} {t : Nat} : t ∈ (o :: r).filterMap (·.dst) ↔ t ∈ o.dst.toList ∨ t ∈ r.filterMap (·.dst) := by
  cases h : o.dst with
  | none => simp [h]
  | some d => simp [h]
theorem wpOps_keeps : ∀ {ops : List AOpr} {st : St} {ub : Nat} {K : St → Prop}, wpOps' E Yf ops st ub K → wpOps' E Yf ops st ub fun s => K s ∧ Keeps (· ∈ ops.filterMap (·.dst)) st s
  | [], st, ub, K, hk => ⟨hk, rfl, rfl, rfl, fun _ _ => rfl⟩
  | o :: r, st, ub, K, hk => by
    refine wpStep_mono (fun s u h => ?_) (wpStep_keeps hk)
    refine wpOps_mono (fun s' h' => ?_) (wpOps_keeps h.1)
    exact ⟨h'.1, h.2.trans h'.2 (fun t ht => mem_ws_cons.2 (.inl ht)) (fun t ht => mem_ws_cons.2 (.inr ht))⟩
theorem wpDraw_keeps : ∀ {ops : List AOpr} {st : St} {ub : Nat} {K : List FP → St → Prop}, wpDraw E ops st ub K → wpDraw E ops st ub fun f s => K f s ∧ Keeps (· ∈ ops.filterMap (·.dst)) st s
  | [], st, ub, K, hk => ⟨hk, rfl, rfl, rfl, fun _ _ => rfl⟩
  | o :: r, st, ub, K, hk => by
    have key : ∀ {δ : Delta} {f : List FP → List FP} {ub : Nat}, wpDraw E r (st.app o.dst δ) ub (fun fs s => K (f fs) s) → wpDraw E r (st.app o.dst δ) ub fun fs s => K (f fs) s ∧ Keeps (· ∈ (o :: r).filterMap (·.dst)) st s := fun h =>
      wpDraw_mono (fun f s h' => ⟨h'.1, Keeps.app.trans h'.2 (fun t ht => mem_ws_cons.2 (.inl ht)) (fun t ht => mem_ws_cons.2 (.inr ht))⟩) (wpDraw_keeps h)
    unfold wpDraw at hk ⊢
    cases hw : wanted o st.tm with
    | none => simp only [hw] at hk
    | some b =>
      cases b with
      | false => simp only [hw] at hk ⊢; exact key (f := fun fs => {} :: fs) hk
      | true =>
        simp only [hw] at hk ⊢
        cases hsh : sharedCall E o.nm (eval E st.tm) o.op with
        | some fx =>
          simp only [hsh] at hk ⊢
          obtain ⟨h1, v, hv, δ, hδ, hK⟩ := hk
          exact ⟨h1, v, hv, δ, hδ, key (f := fun fs => { wt := δ.wt, all := true, seen := fun l => (st.ob l).isSome } :: fs) hK⟩
        | none =>
          simp only [hsh] at hk ⊢
          refine ⟨hk.1, ?_⟩
          have hk := hk.2
          cases ho : o.op <;> simp only [ho] at hk ⊢
          case call f xs =>
            obtain ⟨h1, v, hv, δ, hδ, hK⟩ := hk
            exact ⟨h1, v, hv, δ, hδ, key (f := fun fs => fpOf (eval E st.tm) (.call f xs) δ :: fs) hK⟩
          case callV q xs =>
            obtain ⟨f, first, captured, hev, h1, v, hv, δ, hδ, hK⟩ := hk
            exact ⟨f, first, captured, hev, h1, v, hv, δ, hδ, key (f := fun fs => fpOf (eval E st.tm) (.callV q xs) δ :: fs) hK⟩
          all_goals
            obtain ⟨δ, hδ, hK⟩ := hk
            exact ⟨δ, hδ, key (f := fun fs => fpOf (eval E st.tm) _ δ :: fs) hK⟩
theorem wpC_keeps : ∀ {c : C}, c.noRF = true → ∀ {st : St} {Q : Ex → St → Prop}, wpC E Yf c st Q → wpC E Yf c st fun e s => Q e s ∧ Keeps (· ∈ c.ws) st s := by
  intro c
  induction c with
  | skip => intro _ st Q hk; exact ⟨hk, Keeps.rfl' _ _⟩
  | ret => intro _ st Q hk; exact ⟨hk, Keeps.rfl' _ _⟩
  | exit id => intro _ st Q hk; exact ⟨hk, Keeps.rfl' _ _⟩
  | stuck => intro _ st Q hk; exact hk
  | rangeFunc f ps a b => intro hn; cases hn
  | region ops => intro _ st Q hk; exact wpOps_keeps hk
  | draw ops free => intro _ st Q hk; exact wpDraw_mono (fun f s h => ⟨h.1.1, h.1.2, h.2⟩) (wpDraw_keeps hk)
  | seq a b iha ihb =>
    intro hn st Q hk
    have hn := Bool.and_eq_true_iff.1 hn
    rw [kC_seq]
    refine wpC_mono (fun e s he => ?_) (iha hn.1 hk)
    obtain ⟨he, hf⟩ := he
    cases e
    · refine wpC_mono (fun e s' he' => ?_) (ihb hn.2 he)
      exact ⟨he'.1, hf.trans he'.2 (fun t ht => List.mem_append.2 (.inl ht)) (fun t ht => List.mem_append.2 (.inr ht))⟩
    · exact ⟨he, hf.weak (fun t ht => List.mem_append.2 (.inl ht))⟩
    · exact ⟨he, hf.weak (fun t ht => List.mem_append.2 (.inl ht))⟩
  | cond q a b iha ihb =>
    intro hn st Q hk
    have hn := Bool.and_eq_true_iff.1 hn
    obtain ⟨t, ht, h1, h2⟩ := hk
    exact ⟨t, ht, fun e => wpC_mono (fun e s he => ⟨he.1, he.2.weak (fun t ht => List.mem_append.2 (.inl ht))⟩) (iha hn.1 (h1 e)),
      fun e => wpC_mono (fun e s he => ⟨he.1, he.2.weak (fun t ht => List.mem_append.2 (.inr ht))⟩) (ihb hn.2 (h2 e))⟩
  | block id a ih =>
    intro hn st Q hk
    rw [kC_block]
    refine wpC_mono (fun e s he => ?_) (ih hn hk)
    obtain ⟨he, hf⟩ := he
    cases e
    · exact ⟨he, hf⟩
    · simp only [kBlk_exit] at he ⊢
      split at he
      · rename_i hi; simp only [hi, if_true]; exact ⟨he, hf⟩
      · rename_i hi; simp only [hi, if_false]; exact ⟨he, hf⟩
    · exact ⟨he, hf⟩
  | loop a ih =>
    intro hn st Q hk
    obtain ⟨N, hk⟩ := hk
    refine ⟨N, ?_⟩
    have key : ∀ (N : Nat) (st : St), wpLoop (wpC E Yf a) N st Q → wpLoop (wpC E Yf a) N st fun e s => Q e s ∧ Keeps (· ∈ a.ws) st s := by
      intro N
      induction N with
      | zero => intro st h; exact h
      | succ N ihN =>
        intro st h
        refine wpC_mono (fun e s he => ?_) (ih hn h)
        obtain ⟨he, hf⟩ := he
        cases e
        · exact wpLoop_mono (W := wpC E Yf a) (fun _ _ _ h hk => wpC_mono h hk) (fun e s' he' => ⟨he'.1, hf.trans he'.2 (fun _ h => h) (fun _ h => h)⟩) (ihN s he)
        · exact ⟨he, hf⟩
        · exact ⟨he, hf⟩
    exact key N st hk

theorem wp_loopF {a : C} {Q : Ex → St → Prop} {n : Nat} {st : St} (ws : List (Nat × Nat)) (I : Nat → St → Prop) (hn : a.noRF = true) (hw : (a.ws.all fun t => inR t ws) = true) (h0 : I n st)
    (hs : ∀ k s, I k s → Keeps (fun t => inR t ws = true) st s → wpC E Yf a s (kLoop I k Q)) : wpC E Yf (.loop a) st Q := by
  refine wp_loopK (fun k s => I k s ∧ Keeps (fun t => inR t ws = true) st s) (n := n) ⟨h0, Keeps.rfl' _ _⟩ fun k s ⟨hI, hf⟩ => ?_
  refine wpC_mono (fun e s' he => ?_) (wpC_keeps hn (hs k s hI hf))
  obtain ⟨he, hf'⟩ := he
  cases e
  · obtain ⟨j, hj, hI'⟩ := he
    exact ⟨j, hj, hI', hf.trans hf' (fun _ h => h) (fun t ht => List.all_eq_true.1 hw t ht)⟩
  · exact he
  · exact he
def kUp (I : Nat → St → Prop) (N i : Nat) (Q : Ex → St → Prop) : Ex → St → Prop := fun e s => match e with
  | .nrm => i < N ∧ I (i + 1) s
  | e => Q e s
theorem wp_loopUp {a : C} {Q : Ex → St → Prop} {st : St} (ws : List (Nat × Nat)) (N : Nat) (I : Nat → St → Prop) (hn : a.noRF = true) (hw : (a.ws.all fun t => inR t ws) = true) (h0 : I 0 st)
    (hs : ∀ i s, i ≤ N → I i s → Keeps (fun t => inR t ws = true) st s → wpC E Yf a s (kUp I N i Q)) : wpC E Yf (.loop a) st Q := by
  refine wp_loopF (n := N) ws (fun k s => ∃ i, k = N - i ∧ i ≤ N ∧ I i s) hn hw ⟨0, rfl, Nat.zero_le _, h0⟩ ?_
  rintro k s ⟨i, rfl, hi, hI⟩ hf
  refine wpC_mono (fun e s' he => ?_) (hs i s hi hI hf)
  cases e
  · obtain ⟨h1, h2⟩ := he
    exact ⟨N - (i + 1), by omega, i + 1, rfl, by omega, h2⟩
  · exact he
  · exact he
end
theorem kUp_nrm {I : Nat → St → Prop} {N i : Nat} {Q : Ex → St → Prop} {st : St} : kUp I N i Q .nrm st = (i < N ∧ I (i + 1) st) := propext Iff.rfl
theorem kUp_exit {I : Nat → St → Prop} {N i j : Nat} {Q : Ex → St → Prop} {st : St} : kUp I N i Q (.exit j) st = Q (.exit j) st := propext Iff.rfl
theorem kUp_ret {I : Nat → St → Prop} {N i : Nat} {Q : Ex → St → Prop} {st : St} : kUp I N i Q .ret st = Q .ret st := propext Iff.rfl
theorem drawOk_nil (fs : List FP) : drawOk [] fs = true := rfl
section
variable {E : Env} {st : St} {ub : Nat} {K : List FP → St → Prop} {d : Option Nat} {nm : Bool} {r : List AOpr}
theorem kD_mov {x : A} : wpDraw E (⟨d, .mov x, none, nm⟩ :: r) st ub K = wpStep E noYF ⟨d, .mov x, none, nm⟩ st ub (kDr E r (kFp { ro := rdOb (eval E st.tm) (.mov x), rt := rdTk (eval E st.tm) (.mov x) } K)) := kD_val rfl
theorem kD_pick {c a b : A} : wpDraw E (⟨d, .pick c a b, none, nm⟩ :: r) st ub K = wpStep E noYF ⟨d, .pick c a b, none, nm⟩ st ub (kDr E r (kFp { ro := rdOb (eval E st.tm) (.pick c a b), rt := rdTk (eval E st.tm) (.pick c a b) } K)) := kD_val rfl
theorem kD_bin {op : BinOp} {x y : A} : wpDraw E (⟨d, .bin op x y, none, nm⟩ :: r) st ub K = wpStep E noYF ⟨d, .bin op x y, none, nm⟩ st ub (kDr E r (kFp { ro := rdOb (eval E st.tm) (.bin op x y), rt := rdTk (eval E st.tm) (.bin op x y) } K)) := kD_val rfl
theorem kD_eq {neg : Bool} {k : EqK} {x y : A} : wpDraw E (⟨d, .eq neg k x y, none, nm⟩ :: r) st ub K = wpStep E noYF ⟨d, .eq neg k x y, none, nm⟩ st ub (kDr E r (kFp { ro := rdOb (eval E st.tm) (.eq neg k x y), rt := rdTk (eval E st.tm) (.eq neg k x y) } K)) := kD_val rfl
theorem kD_un {op : UnOp} {x : A} : wpDraw E (⟨d, .un op x, none, nm⟩ :: r) st ub K = wpStep E noYF ⟨d, .un op x, none, nm⟩ st ub (kDr E r (kFp { ro := rdOb (eval E st.tm) (.un op x), rt := rdTk (eval E st.tm) (.un op x) } K)) := kD_val rfl
theorem kD_build {z : List V} {ps : List (Nat × Nat × A)} : wpDraw E (⟨d, .build z ps, none, nm⟩ :: r) st ub K = wpStep E noYF ⟨d, .build z ps, none, nm⟩ st ub (kDr E r (kFp { ro := rdOb (eval E st.tm) (.build z ps), rt := rdTk (eval E st.tm) (.build z ps) } K)) := kD_val rfl
theorem kD_load {g : Option Nat} {x : A} : wpDraw E (⟨d, .load g x, none, nm⟩ :: r) st ub K = wpStep E noYF ⟨d, .load g x, none, nm⟩ st ub (kDr E r (kFp { ro := rdOb (eval E st.tm) (.load g x), rt := rdTk (eval E st.tm) (.load g x) } K)) := kD_val rfl
theorem kD_nilCheck {x : A} : wpDraw E (⟨d, .nilCheck x, none, nm⟩ :: r) st ub K = wpStep E noYF ⟨d, .nilCheck x, none, nm⟩ st ub (kDr E r (kFp { ro := rdOb (eval E st.tm) (.nilCheck x), rt := rdTk (eval E st.tm) (.nilCheck x) } K)) := kD_val rfl
theorem kD_fieldAddr {o : Nat} {x : A} : wpDraw E (⟨d, .fieldAddr o x, none, nm⟩ :: r) st ub K = wpStep E noYF ⟨d, .fieldAddr o x, none, nm⟩ st ub (kDr E r (kFp { ro := rdOb (eval E st.tm) (.fieldAddr o x), rt := rdTk (eval E st.tm) (.fieldAddr o x) } K)) := kD_val rfl
theorem kD_idxSl {sz : Nat} {x i : A} : wpDraw E (⟨d, .idxSl sz x i, none, nm⟩ :: r) st ub K = wpStep E noYF ⟨d, .idxSl sz x i, none, nm⟩ st ub (kDr E r (kFp { ro := rdOb (eval E st.tm) (.idxSl sz x i), rt := rdTk (eval E st.tm) (.idxSl sz x i) } K)) := kD_val rfl
theorem kD_idxArr {len sz : Nat} {x i : A} : wpDraw E (⟨d, .idxArr len sz x i, none, nm⟩ :: r) st ub K = wpStep E noYF ⟨d, .idxArr len sz x i, none, nm⟩ st ub (kDr E r (kFp { ro := rdOb (eval E st.tm) (.idxArr len sz x i), rt := rdTk (eval E st.tm) (.idxArr len sz x i) } K)) := kD_val rfl
theorem kD_part {g : Option Nat} {o : Nat} {x : A} : wpDraw E (⟨d, .part g o x, none, nm⟩ :: r) st ub K = wpStep E noYF ⟨d, .part g o x, none, nm⟩ st ub (kDr E r (kFp { ro := rdOb (eval E st.tm) (.part g o x), rt := rdTk (eval E st.tm) (.part g o x) } K)) := kD_val rfl
theorem kD_idxStr {x i : A} : wpDraw E (⟨d, .idxStr x i, none, nm⟩ :: r) st ub K = wpStep E noYF ⟨d, .idxStr x i, none, nm⟩ st ub (kDr E r (kFp { ro := rdOb (eval E st.tm) (.idxStr x i), rt := rdTk (eval E st.tm) (.idxStr x i) } K)) := kD_val rfl
theorem kD_slStr {x : A} {lo hi : Option A} : wpDraw E (⟨d, .slStr x lo hi, none, nm⟩ :: r) st ub K = wpStep E noYF ⟨d, .slStr x lo hi, none, nm⟩ st ub (kDr E r (kFp { ro := rdOb (eval E st.tm) (.slStr x lo hi), rt := rdTk (eval E st.tm) (.slStr x lo hi) } K)) := kD_val rfl
theorem kD_slSl {sz : Nat} {x : A} {lo hi : Option A} : wpDraw E (⟨d, .slSl sz x lo hi, none, nm⟩ :: r) st ub K = wpStep E noYF ⟨d, .slSl sz x lo hi, none, nm⟩ st ub (kDr E r (kFp { ro := rdOb (eval E st.tm) (.slSl sz x lo hi), rt := rdTk (eval E st.tm) (.slSl sz x lo hi) } K)) := kD_val rfl
theorem kD_lenStr {x : A} : wpDraw E (⟨d, .lenStr x, none, nm⟩ :: r) st ub K = wpStep E noYF ⟨d, .lenStr x, none, nm⟩ st ub (kDr E r (kFp { ro := rdOb (eval E st.tm) (.lenStr x), rt := rdTk (eval E st.tm) (.lenStr x) } K)) := kD_val rfl
theorem kD_lenSl {x : A} : wpDraw E (⟨d, .lenSl x, none, nm⟩ :: r) st ub K = wpStep E noYF ⟨d, .lenSl x, none, nm⟩ st ub (kDr E r (kFp { ro := rdOb (eval E st.tm) (.lenSl x), rt := rdTk (eval E st.tm) (.lenSl x) } K)) := kD_val rfl
theorem kD_lenMap {x : A} : wpDraw E (⟨d, .lenMap x, none, nm⟩ :: r) st ub K = wpStep E noYF ⟨d, .lenMap x, none, nm⟩ st ub (kDr E r (kFp { ro := rdOb (eval E st.tm) (.lenMap x), rt := rdTk (eval E st.tm) (.lenMap x) } K)) := kD_val rfl
theorem kD_extract {x : A} {i : Nat} : wpDraw E (⟨d, .extract x i, none, nm⟩ :: r) st ub K = wpStep E noYF ⟨d, .extract x i, none, nm⟩ st ub (kDr E r (kFp { ro := rdOb (eval E st.tm) (.extract x i), rt := rdTk (eval E st.tm) (.extract x i) } K)) := kD_val rfl
theorem kD_mkFn {f : Fn} {a b : List A} : wpDraw E (⟨d, .mkFn f a b, none, nm⟩ :: r) st ub K = wpStep E noYF ⟨d, .mkFn f a b, none, nm⟩ st ub (kDr E r (kFp { ro := rdOb (eval E st.tm) (.mkFn f a b), rt := rdTk (eval E st.tm) (.mkFn f a b) } K)) := kD_val rfl
theorem kD_lookup {q : LK} {z : V} {ok : Bool} {m k : A} : wpDraw E (⟨d, .lookup q z ok m k, none, nm⟩ :: r) st ub K = wpStep E noYF ⟨d, .lookup q z ok m k, none, nm⟩ st ub (kDr E r (kFp { ro := rdOb (eval E st.tm) (.lookup q z ok m k), rt := rdTk (eval E st.tm) (.lookup q z ok m k) } K)) := kD_val rfl
theorem kD_conv {k : IntKind} {x : A} : wpDraw E (⟨d, .conv k x, none, nm⟩ :: r) st ub K = wpStep E noYF ⟨d, .conv k x, none, nm⟩ st ub (kDr E r (kFp { ro := rdOb (eval E st.tm) (.conv k x), rt := rdTk (eval E st.tm) (.conv k x) } K)) := kD_val rfl
theorem kD_minmax {b : Bool} {xs : List A} : wpDraw E (⟨d, .minmax b xs, none, nm⟩ :: r) st ub K = wpStep E noYF ⟨d, .minmax b xs, none, nm⟩ st ub (kDr E r (kFp { ro := rdOb (eval E st.tm) (.minmax b xs), rt := rdTk (eval E st.tm) (.minmax b xs) } K)) := kD_val rfl
end
attribute [simp ↓] kC_draw kDr_nil kDr_guard kD_store kD_alloc kD_box kD_mov kD_pick kD_bin kD_eq kD_un kD_build kD_load kD_nilCheck kD_fieldAddr kD_idxSl kD_idxArr kD_part kD_idxStr kD_slStr kD_slSl kD_lenStr kD_lenSl kD_lenMap kD_extract kD_mkFn kD_lookup kD_conv kD_minmax
attribute [simp ↓] kDr_app kFp_app kDQ_app kDGd_true kDGd_false kDApp_v kDApp_app kUp_nrm kUp_exit kUp_ret
attribute [simp] drawOk_nil
end Go.Pv

/- Maps, ranges over texts, loops unrolled. -/
namespace Go.Pv
open Go

def kL (E : Env) (Yf : YF) (a : C) (n : Nat) (Q : Ex → St → Prop) : Ex → St → Prop := fun e s => match e with
  | .nrm => wpLoop (wpC E Yf a) n s Q
  | e => Q e s
section
variable {E : Env} {Yf : YF} {a : C} {Q : Ex → St → Prop} {s : St} {n : Nat}
theorem kL_nrm : kL E Yf a n Q .nrm s = wpLoop (wpC E Yf a) n s Q := propext Iff.rfl
theorem kL_exit {i : Nat} : kL E Yf a n Q (.exit i) s = Q (.exit i) s := propext Iff.rfl
theorem kL_ret : kL E Yf a n Q .ret s = Q .ret s := propext Iff.rfl
theorem wpLoop_1 : wpLoop (wpC E Yf a) 1 s Q = wpC E Yf a s (kL E Yf a 0 Q) := propext Iff.rfl
theorem wpLoop_2 : wpLoop (wpC E Yf a) 2 s Q = wpC E Yf a s (kL E Yf a 1 Q) := propext Iff.rfl
theorem wpLoop_3 : wpLoop (wpC E Yf a) 3 s Q = wpC E Yf a s (kL E Yf a 2 Q) := propext Iff.rfl
theorem wpLoop_4 : wpLoop (wpC E Yf a) 4 s Q = wpC E Yf a s (kL E Yf a 3 Q) := propext Iff.rfl
theorem wp_unroll (n : Nat) (h : wpLoop (wpC E Yf a) n s Q) : wpC E Yf (.loop a) s Q := ⟨n, h⟩
end
def wpStr (k : List UInt8 → Prop) : V → Prop
  | .str s => k s
  | _ => False
@[simp] theorem wpStr_str (k : List UInt8 → Prop) (s : List UInt8) : wpStr k (.str s) = k s := rfl
def MP {α : Type} (f : α → V) (m : List (Int × α)) : List (V × V) := m.map fun p => (.int .i64 p.1, f p.2)
def mfind {α : Type} : List (Int × α) → Int → Option (Nat × α)
  | [], _ => none
  | (k', a) :: m, k => if k = k' then some (0, a) else (mfind m k).map fun p => (p.1 + 1, p.2)
def mset {α : Type} (m : List (Int × α)) (k : Int) (a : α) : List (Int × α) := match mfind m k with
  | some (i, _) => m.set i (k, a)
  | none => m ++ [(k, a)]
theorem findKey_MP {α : Type} (f : α → V) (k : Int) : ∀ m : List (Int × α), findKey .int (.int .i64 k) (MP f m) = some ((mfind m k).map fun p => (p.1, f p.2))
  | [] => rfl
  | (k', a) :: m => by
    have ih := findKey_MP f k m
    unfold MP at ih ⊢
    simp only [List.map_cons, findKey, eqLeaf, if_true, mfind]
    by_cases h : k = k'
    · simp [h]
    · rw [if_neg h, show (k == k') = false by simpa using h]
      simp only [ih, Option.map_some, Option.map_map]
      rfl
@[simp] theorem MP_length {α : Type} (f : α → V) (m : List (Int × α)) : (MP f m).length = m.length := by simp [MP]
def intV (n : Int) : V := .int .i64 n
def mcnt (m : List (Int × Int)) (k : Int) : Int := ((mfind m k).map (·.2)).getD 0
theorem lookupV_MP {α : Type} {f : α → V} {ob : Nat → Option Obj'} {l u : Nat} {z : V} {ok : Bool} {k : Int} (m : List (Int × α)) (h : objMap ob l u = some (MP f m)) :
    lookupV ob .int z ok (.map l u) (.int .i64 k) = some (match mfind m k with | some p => if ok then .tup [f p.2, .bool true] else f p.2 | none => if ok then .tup [z, .bool false] else z) := by
  simp only [lookupV, isKey, if_true, h, Option.bind_some, findKey_MP, Option.map_some]
  cases mfind m k <;> rfl
theorem lookupV_MI {ob : Nat → Option Obj'} {l u : Nat} {k : Int} (m : List (Int × Int)) (h : objMap ob l u = some (MP intV m)) : lookupV ob .int (.int .i64 0) false (.map l u) (.int .i64 k) = some (.int .i64 (mcnt m k)) := by
  rw [lookupV_MP m h, mcnt]
  cases mfind m k <;> rfl
section
variable {E : Env} {Yf : YF} {st : St} {ub : Nat} {K : St → Nat → Prop} {d : Option Nat} {nm : Bool}
theorem kS_rangeStr {x : A} : wpStep E Yf ⟨d, .range true x, none, nm⟩ st ub K = wpStr (fun s => kApp K st d ub { v := .iter (objName d nm st.fb ub) ub, obs := [(objName d nm st.fb ub, ⟨ub, .siter s 0⟩)] }) (eval E st.tm x) := by
  rw [wpStep_of _ rfl rfl]
  simp only [aop, name_eq]
  cases eval E st.tm x <;> simp only [wpD_none, wpStr, mkObj, wpD_some]
  rfl
theorem kS_nextStr {x : A} {l u pos : Nat} {s : List UInt8} (hx : eval E st.tm x = .iter l u) (ho : st.ob l = some ⟨u, .siter s pos⟩) (hro : st.ro ≤ u)
    (h1 : pos < s.length → kApp K st d ub { v := .tup [.bool true, .int .i64 pos, .int .i32 ((Utf8.decode ⟨s.toArray⟩ pos).1 : Nat)], obs := [(l, ⟨u, .siter s (pos + (Utf8.decode ⟨s.toArray⟩ pos).2)⟩)] })
    (h2 : ¬ pos < s.length → kSet K st d ub (.tup [.bool false])) : wpStep E Yf ⟨d, .nextStr x, none, nm⟩ st ub K := by
  rw [wpStep_of _ rfl rfl]
  simp only [aop, hx, ho]
  rw [if_pos (by simpa using hro)]
  by_cases h : pos < s.length
  · rw [if_pos h, wpD_some]; exact h1 h
  · rw [if_neg h, wpD_one, app_v]; exact h2 h
theorem kS_mkMap : wpStep E Yf ⟨d, .mkMap, none, nm⟩ st ub K = kApp K st d ub { v := .map (objName d nm st.fb ub) ub, obs := [(objName d nm st.fb ub, ⟨ub, .mp 0 []⟩)] } := by
  rw [wpStep_of _ rfl rfl]
  simp only [aop, mkObj, wpD_some, name_eq]
  rfl
theorem kS_mapSet {α : Type} {f : α → V} {x y z : A} {l u ver : Nat} {k : Int} {a : α} (m : List (Int × α)) (hm : eval E st.tm x = .map l u) (hk : eval E st.tm y = .int .i64 k) (hv : (eval E st.tm z).strip = f a)
    (ho : st.ob l = some ⟨u, .mp ver (MP f m)⟩) (hro : st.ro ≤ u) (h : kApp K st d ub { v := none', obs := [(l, ⟨u, .mp (ver + 1) (MP f (mset m k a))⟩)] }) : wpStep E Yf ⟨d, .mapSet .int x y z, none, nm⟩ st ub K := by
  have hob : objMap st.ob l u = some (MP f m) := by simp [objMap, ho]
  have hver : objVer st.ob l = ver := by simp [objVer, ho]
  rw [wpStep_of _ rfl rfl]
  simp only [aop, hm, hk, isKey, if_true, hob, Option.bind_some, findKey_MP, hver, hv]
  rw [if_pos (by simpa using hro)]
  unfold mset at h
  cases hf : mfind m k with
  | none =>
    rw [hf] at h
    simp only [Option.map_none, wpD_some]
    simpa [MP] using h
  | some p =>
    rw [hf] at h
    simp only [Option.map_some, wpD_some]
    have e : (MP f m).set p.1 (V.int .i64 k, f a) = MP f (m.set p.1 (k, a)) := by simp [MP, List.map_set]
    rw [e]
    exact h
end
attribute [simp ↓] kL_nrm kL_exit kL_ret wpLoop_1 wpLoop_2 wpLoop_3 wpLoop_4 kS_rangeStr kS_mkMap
@[simp] theorem lenMapV_map (ob : Nat → Option Obj') (l u : Nat) : lenMapV ob (.map l u) = (objMap ob l u).map fun es => .int .i64 es.length := rfl

def ddAdd (l : List Int) (k : Int) : List Int := if k ∈ l then l else l ++ [k]
def dd (l : List Int) : List Int := l.foldl ddAdd []
theorem dd_snoc (l : List Int) (k : Int) : dd (l ++ [k]) = ddAdd (dd l) k := by simp [dd]
theorem mfind_none {α : Type} {m : List (Int × α)} {k : Int} : mfind m k = none ↔ k ∉ m.map (·.1) := by
  induction m with
  | nil => simp [mfind]
  | cons p m ih =>
    obtain ⟨k', a⟩ := p
    by_cases h : k = k'
    · simp [mfind, h]
    · simp [mfind, h, ih]
theorem mfind_some {α : Type} {m : List (Int × α)} {k : Int} {i : Nat} {a : α} (h : mfind m k = some (i, a)) : ∃ hi : i < m.length, m[i] = (k, a) := by
  induction m generalizing i with
  | nil => cases h
  | cons p m ih =>
    obtain ⟨k', a'⟩ := p
    by_cases hk : k = k'
    · simp only [mfind, hk, if_true, Option.some.injEq, Prod.mk.injEq] at h
      obtain ⟨rfl, rfl⟩ := h
      exact ⟨by simp, by simp [hk]⟩
    · simp only [mfind, hk, if_false, Option.map_eq_some_iff, Prod.mk.injEq] at h
      obtain ⟨⟨j, b⟩, hj, rfl, rfl⟩ := h
      obtain ⟨h1, h2⟩ := ih hj
      exact ⟨by simpa using h1, by simpa using h2⟩
theorem mset_keys {α : Type} (m : List (Int × α)) (k : Int) (a : α) : (mset m k a).map (·.1) = ddAdd (m.map (·.1)) k := by
  unfold mset ddAdd
  cases h : mfind m k with
  | none => rw [if_neg (mfind_none.1 h)]; simp
  | some p =>
    obtain ⟨i, b⟩ := p
    obtain ⟨hi, hb⟩ := mfind_some h
    have hmem : k ∈ m.map (·.1) := List.mem_map.2 ⟨_, List.getElem_mem hi, by rw [hb]⟩
    rw [if_pos hmem, List.map_set]
    apply List.ext_getElem (by simp)
    intro j h1 h2
    simp only [List.getElem_set, List.getElem_map]
    split
    · rename_i hij; subst hij; rw [hb]
    · rfl
theorem mem_ddAdd {l : List Int} {k x : Int} : x ∈ ddAdd l k ↔ x ∈ l ∨ x = k := by
  unfold ddAdd
  split
  · constructor
    · exact .inl
    · rintro (h | rfl) <;> assumption
  · simp
theorem mem_dd {l : List Int} {x : Int} : x ∈ dd l ↔ x ∈ l := by
  have key : ∀ (l acc : List Int), x ∈ l.foldl ddAdd acc ↔ x ∈ acc ∨ x ∈ l := by
    intro l
    induction l with
    | nil => intro acc; simp
    | cons a l ih => intro acc; simp only [List.foldl_cons, ih, mem_ddAdd, List.mem_cons, or_assoc]
  simpa [dd] using key l []
theorem nodup_ddAdd {l : List Int} {k : Int} (h : l.Nodup) : (ddAdd l k).Nodup := by
  unfold ddAdd
  split
  · exact h
  · rename_i hk
    rw [List.nodup_append]
    refine ⟨h, by simp, ?_⟩
    intro a ha b hb e
    simp only [List.mem_singleton] at hb
    subst hb
    subst e
    exact hk ha
theorem nodup_dd (l : List Int) : (dd l).Nodup := by
  have key : ∀ (l acc : List Int), acc.Nodup → (l.foldl ddAdd acc).Nodup := by
    intro l
    induction l with
    | nil => intro acc h; exact h
    | cons a l ih => intro acc h; exact ih _ (nodup_ddAdd h)
  exact key l [] List.nodup_nil
theorem pigeon : ∀ (n : Nat) (l : List Int), l.Nodup → (∀ x ∈ l, 0 ≤ x ∧ x < n) → l.length ≤ n ∧ (l.length = n ↔ ∀ k : Nat, k < n → (k : Int) ∈ l)
  | 0, l, hn, hb => by
    have : l = [] := by
      cases l with
      | nil => rfl
      | cons a l => have := hb a (by simp); omega
    subst this
    simp
  | n + 1, l, hn, hb => by
    have hn' : (l.erase (n : Int)).Nodup := hn.erase _
    have hb' : ∀ x ∈ l.erase (n : Int), 0 ≤ x ∧ x < n := fun x hx => by
      have h1 := hb x (List.mem_of_mem_erase hx)
      have h2 : x ≠ n := fun e => by subst e; exact (List.Nodup.not_mem_erase hn) hx
      omega
    obtain ⟨h1, h2⟩ := pigeon n _ hn' hb'
    by_cases hm : (n : Int) ∈ l
    · have hl := List.length_erase_of_mem hm
      have hp : 0 < l.length := List.length_pos_of_mem hm
      refine ⟨by omega, ?_⟩
      constructor
      · intro e k hk
        rcases Nat.lt_succ_iff_lt_or_eq.1 hk with h | rfl
        · exact List.mem_of_mem_erase (h2.1 (by omega) k h)
        · exact hm
      · intro hall
        have := h2.2 (fun k hk => (List.Nodup.mem_erase_iff hn).2 ⟨by omega, hall k (by omega)⟩)
        omega
    · rw [List.erase_of_not_mem hm] at h1 h2
      refine ⟨by omega, ?_⟩
      constructor
      · intro e; omega
      · intro hall; exact absurd (hall n (by omega)) hm
end Go.Pv
