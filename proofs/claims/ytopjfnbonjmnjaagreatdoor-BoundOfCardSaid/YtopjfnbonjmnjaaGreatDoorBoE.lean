/- The compiled functions, part 2. -/
import Derived.Test.YtopjfnbonjmnjaaGreatDoorBoD
import Derived.Laws.BitsLemmas
import Derived.Lib.ValidLaws
namespace Go.Pv.T
open Go Go.Pv

/-- deemster/hist.within -/
def F155 : AF := ⟨.seq (.region [ ⟨some 4,.mov (.c (.bool false)),none,false⟩]) (.seq (.region [ ⟨some 5,.mov (.t 0),none,false⟩,⟨some 6,.bin .geq (.t 5) (.c (.int .i64 0)),none,false⟩,⟨some 7,.mov (.t 6),none,false⟩,⟨some 8,.mov (.t 0), (some (7, true)), false⟩,⟨some 9,.mov (.t 1), (some (7, true)), false⟩,⟨some 10,.lenSl (.t 9), (some (7, true)), false⟩,⟨some 11,.bin .lss (.t 8) (.t 10), (some (7, true)), false⟩,⟨some 12,.pick (.t 7) (.t 11) (.c (.bool false)),none,false⟩,⟨some 4,.mov (.t 12),none,false⟩]) (.ret)), [.t 4]⟩
/-- slices.IndexFunc[[]deemster/api.Op,deemster/api.Op] -/
def F156 : AF := ⟨.seq (.region [ ⟨some 4,.mov (.c (.int .i64 0)),none,false⟩]) (.seq (.seq (.region [ ⟨some 6,.mov (.t 0),none,false⟩,⟨some 7,.lenSl (.t 6),none,false⟩,⟨some 8,.mov (.c (.int .i64 0)),none,false⟩]) (.block 0 (.loop (.seq (.region [ ⟨some 9,.bin .lss (.t 8) (.t 7),none,false⟩]) (.seq (.cond (.t 9) (.skip) (.exit 0)) (.seq (.block 1 (.seq (.region [ ⟨some 10,.mov (.t 8),none,false⟩,⟨some 5,.mov (.t 10),none,false⟩]) (.seq (.region [ ⟨some 11,.mov (.t 1),none,false⟩,⟨some 12,.mov (.t 0),none,false⟩,⟨some 13,.mov (.t 5),none,false⟩,⟨some 14,.idxSl 4 (.t 12) (.t 13),none,false⟩,⟨some 15,.load (some 4) (.t 14),none,false⟩,⟨some 16,.callV (.t 11) [(.t 15)],none,false⟩]) (.cond (.t 16) (.seq (.region [ ⟨some 17,.mov (.t 5),none,false⟩,⟨some 4,.mov (.t 17),none,false⟩]) (.ret)) (.skip))))) (.region [ ⟨some 18,.bin .add (.t 8) (.c (.int .i64 1)),none,false⟩,⟨some 8,.mov (.t 18),none,false⟩]))))))) (.seq (.region [ ⟨some 4,.mov (.c (.int .i64 (-1))),none,false⟩]) (.ret))), [.t 4]⟩
/-- math/bits.Len64 -/
def F167 : AF := ⟨.seq (.region [ ⟨some 2,.mov (.c (.int .i64 0)),none,false⟩]) (.seq (.seq (.region [ ⟨some 3,.mov (.t 0),none,false⟩,⟨some 4,.bin .geq (.t 3) (.c (.int .u64 4294967296)),none,false⟩]) (.cond (.t 4) (.seq (.region [ ⟨some 5,.mov (.t 0),none,false⟩,⟨some 6,.bin .shr (.t 5) (.c (.int .u64 32)),none,false⟩,⟨some 0,.mov (.t 6),none,false⟩]) (.region [ ⟨some 2,.mov (.c (.int .i64 32)),none,false⟩])) (.skip))) (.seq (.seq (.region [ ⟨some 7,.mov (.t 0),none,false⟩,⟨some 8,.bin .geq (.t 7) (.c (.int .u64 65536)),none,false⟩]) (.cond (.t 8) (.seq (.region [ ⟨some 9,.mov (.t 0),none,false⟩,⟨some 10,.bin .shr (.t 9) (.c (.int .u64 16)),none,false⟩,⟨some 0,.mov (.t 10),none,false⟩]) (.region [ ⟨some 11,.mov (.t 2),none,false⟩,⟨some 12,.bin .add (.t 11) (.c (.int .i64 16)),none,false⟩,⟨some 2,.mov (.t 12),none,false⟩])) (.skip))) (.seq (.seq (.region [ ⟨some 13,.mov (.t 0),none,false⟩,⟨some 14,.bin .geq (.t 13) (.c (.int .u64 256)),none,false⟩]) (.cond (.t 14) (.seq (.region [ ⟨some 15,.mov (.t 0),none,false⟩,⟨some 16,.bin .shr (.t 15) (.c (.int .u64 8)),none,false⟩,⟨some 0,.mov (.t 16),none,false⟩]) (.region [ ⟨some 17,.mov (.t 2),none,false⟩,⟨some 18,.bin .add (.t 17) (.c (.int .i64 8)),none,false⟩,⟨some 2,.mov (.t 18),none,false⟩])) (.skip))) (.seq (.region [ ⟨some 19,.mov (.t 2),none,false⟩,⟨some 20,.mov (.t 0),none,false⟩,⟨some 21,.conv .u8 (.t 20),none,false⟩,⟨some 22,.idxStr (.c (.str [0, 1, 2, 2, 3, 3, 3, 3, 4, 4, 4, 4, 4, 4, 4, 4, 5, 5, 5, 5, 5, 5, 5, 5, 5, 5, 5, 5, 5, 5, 5, 5, 6, 6, 6, 6, 6, 6, 6, 6, 6, 6, 6, 6, 6, 6, 6, 6, 6, 6, 6, 6, 6, 6, 6, 6, 6, 6, 6, 6, 6, 6, 6, 6, 7, 7, 7, 7, 7, 7, 7, 7, 7, 7, 7, 7, 7, 7, 7, 7, 7, 7, 7, 7, 7, 7, 7, 7, 7, 7, 7, 7, 7, 7, 7, 7, 7, 7, 7, 7, 7, 7, 7, 7, 7, 7, 7, 7, 7, 7, 7, 7, 7, 7, 7, 7, 7, 7, 7, 7, 7, 7, 7, 7, 7, 7, 7, 7, 8, 8, 8, 8, 8, 8, 8, 8, 8, 8, 8, 8, 8, 8, 8, 8, 8, 8, 8, 8, 8, 8, 8, 8, 8, 8, 8, 8, 8, 8, 8, 8, 8, 8, 8, 8, 8, 8, 8, 8, 8, 8, 8, 8, 8, 8, 8, 8, 8, 8, 8, 8, 8, 8, 8, 8, 8, 8, 8, 8, 8, 8, 8, 8, 8, 8, 8, 8, 8, 8, 8, 8, 8, 8, 8, 8, 8, 8, 8, 8, 8, 8, 8, 8, 8, 8, 8, 8, 8, 8, 8, 8, 8, 8, 8, 8, 8, 8, 8, 8, 8, 8, 8, 8, 8, 8, 8, 8, 8, 8, 8, 8, 8, 8, 8, 8, 8, 8, 8, 8, 8, 8, 8, 8, 8, 8, 8, 8])) (.t 21),none,false⟩,⟨some 23,.conv .i64 (.t 22),none,false⟩,⟨some 24,.bin .add (.t 19) (.t 23),none,false⟩,⟨some 2,.mov (.t 24),none,false⟩]) (.ret))))), [.t 2]⟩
/-- deemster/cell.Back -/
def F168 : AF := ⟨.seq (.region [ ⟨some 1,.box 1 (.t 0),none,false⟩,⟨some 2,.alloc [(.int .i64 0), (.int .i64 0)],none,false⟩,⟨some 3,.mov (.c (.int .i64 0)),none,false⟩]) (.seq (.seq (.region [ ⟨some 7,.fieldAddr 0 (.t 1),none,false⟩,⟨some 8,.load none (.t 7),none,false⟩]) (.block 0 (.seq (.region [ ⟨some 9,.eq false .iface (.t 8) (.c .nilif),none,false⟩]) (.cond (.t 9) (.seq (.region [ ⟨some 4,.mov (.t 8),none,false⟩]) (.seq (.region [ ⟨some 10,.build [(.int .i64 0), (.int .i64 0)] [],none,false⟩,⟨none, .store 2 (.t 2) (.t 10),none,false⟩,⟨some 3,.mov (.c (.int .i64 0)),none,false⟩]) (.ret))) (.seq (.region [ ⟨some 11,.assert 2 (.int .i64 0) true (.t 8),none,false⟩,⟨some 12,.extract (.t 11) 1,none,false⟩,⟨some 13,.extract (.t 11) 0,none,false⟩]) (.cond (.t 12) (.seq (.region [ ⟨some 5,.mov (.t 13),none,false⟩]) (.seq (.region [ ⟨some 14,.mov (.t 5),none,false⟩,⟨some 15,.build [(.int .i64 0), (.int .i64 0)] [(0, 1, (.c (.int .i64 1))), (1, 1, (.t 14))],none,false⟩,⟨none, .store 2 (.t 2) (.t 15),none,false⟩,⟨some 3,.mov (.c (.int .i64 0)),none,false⟩]) (.ret))) (.seq (.region [ ⟨some 16,.assert 253 (.agg []) true (.t 8),none,false⟩,⟨some 17,.extract (.t 16) 1,none,false⟩,⟨some 18,.extract (.t 16) 0,none,false⟩]) (.cond (.t 17) (.seq (.region [ ⟨some 6,.alloc [],none,false⟩,⟨none, .store 0 (.t 6) (.t 18),none,false⟩]) (.seq (.region [ ⟨some 19,.build [(.int .i64 0), (.int .i64 0)] [(0, 1, (.c (.int .i64 2)))],none,false⟩,⟨none, .store 2 (.t 2) (.t 19),none,false⟩,⟨some 3,.mov (.c (.int .i64 0)),none,false⟩]) (.ret))) (.skip))))))))) (.seq (.region [ ⟨some 20,.build [(.int .i64 0), (.int .i64 0)] [],none,false⟩,⟨none, .store 2 (.t 2) (.t 20),none,false⟩,⟨some 3,.mov (.c (.int .i64 15)),none,false⟩]) (.ret))), [.cell 2 (some 2), .t 3]⟩
/-- deemster/cell.Of -/
def F169 : AF := ⟨.seq (.region [ ⟨some 1,.box 2 (.t 0),none,false⟩,⟨some 2,.alloc [.nilif],none,false⟩]) (.seq (.seq (.region [ ⟨some 3,.fieldAddr 0 (.t 1),none,false⟩,⟨some 4,.load none (.t 3),none,false⟩]) (.block 0 (.seq (.region [ ⟨some 6,.bin .eql (.t 4) (.c (.int .i64 1)),none,false⟩,⟨some 5,.mov (.t 6),none,false⟩]) (.cond (.t 5) (.seq (.region [ ⟨some 7,.fieldAddr 1 (.t 1),none,false⟩,⟨some 8,.load none (.t 7),none,false⟩,⟨some 9,.iface 2 (.t 8),none,false⟩,⟨some 10,.build [.nilif] [(0, 1, (.t 9))],none,false⟩,⟨none, .store 1 (.t 2) (.t 10),none,false⟩]) (.ret)) (.seq (.region [ ⟨some 12,.bin .eql (.t 4) (.c (.int .i64 2)),none,false⟩,⟨some 11,.mov (.t 12),none,false⟩]) (.cond (.t 11) (.seq (.region [ ⟨some 13,.build [] [],none,false⟩,⟨some 14,.iface 253 (.t 13),none,false⟩,⟨some 15,.build [.nilif] [(0, 1, (.t 14))],none,false⟩,⟨none, .store 1 (.t 2) (.t 15),none,false⟩]) (.ret)) (.skip))))))) (.seq (.region [ ⟨some 16,.build [.nilif] [],none,false⟩,⟨none, .store 1 (.t 2) (.t 16),none,false⟩]) (.ret))), [.cell 2 (some 1)]⟩
/-- deemster/deemsterref02.Runes -/
def F172 : AF := ⟨.seq (.region [ ⟨some 2,.mov (.c (.sl none true 0 [])),none,false⟩]) (.seq (.region [ ⟨some 7,.buildSl false 1 [] [] 0,none,false⟩,⟨some 3,.mov (.t 7),none,false⟩]) (.seq (.seq (.region [ ⟨some 4,.mov (.c (.int .i64 0)),none,false⟩]) (.block 0 (.loop (.seq (.seq (.region [ ⟨some 8,.mov (.t 4),none,false⟩,⟨some 9,.mov (.t 0),none,false⟩,⟨some 10,.lenStr (.t 9),none,false⟩,⟨some 11,.bin .lss (.t 8) (.t 10),none,false⟩]) (.cond (.t 11) (.skip) (.exit 0))) (.block 1 (.seq (.region [ ⟨some 13,.mov (.t 0),none,false⟩,⟨some 14,.mov (.t 4),none,false⟩,⟨some 15,.call 216 [(.t 13), (.t 14)],none,false⟩,⟨some 12,.mov (.t 15),none,false⟩,⟨some 16,.extract (.t 12) 0,none,false⟩,⟨some 17,.extract (.t 12) 1,none,false⟩,⟨some 5,.mov (.t 16),none,false⟩,⟨some 6,.mov (.t 17),none,false⟩]) (.seq (.region [ ⟨some 18,.mov (.t 3),none,false⟩,⟨some 19,.mov (.t 6),none,false⟩,⟨some 20,.buildSl false 1 [(.int .i64 0)] [(0, 1, (.t 19))] 1,none,false⟩,⟨some 21,.append false 1 8 (.t 18) (.t 20),none,false⟩,⟨some 3,.mov (.t 21),none,false⟩]) (.region [ ⟨some 22,.mov (.t 4),none,false⟩,⟨some 23,.mov (.t 5),none,false⟩,⟨some 24,.bin .add (.t 22) (.t 23),none,false⟩,⟨some 4,.mov (.t 24),none,false⟩])))))))) (.seq (.region [ ⟨some 25,.mov (.t 3),none,false⟩,⟨some 2,.mov (.t 25),none,false⟩]) (.ret)))), [.t 2]⟩
/-- deemster/deemsterref02.Reserved -/
def F173 : AF := ⟨.seq (.region [ ⟨some 2,.mov (.c (.bool false)),none,false⟩]) (.seq (.region [ ⟨some 3,.mov (.t 0),none,false⟩,⟨some 4,.bin .eql (.t 3) (.c (.str [98, 101, 103, 105, 110])),none,false⟩,⟨some 5,.mov (.t 4),none,false⟩,⟨some 6,.mov (.t 0), (some (5, false)), false⟩,⟨some 7,.bin .eql (.t 6) (.c (.str [114, 101, 97, 100])), (some (5, false)), false⟩,⟨some 8,.pick (.t 5) (.c (.bool true)) (.t 7),none,false⟩,⟨some 9,.mov (.t 8),none,false⟩,⟨some 10,.mov (.t 0), (some (9, false)), false⟩,⟨some 11,.bin .eql (.t 10) (.c (.str [119, 114, 105, 116, 101])), (some (9, false)), false⟩,⟨some 12,.pick (.t 9) (.c (.bool true)) (.t 11),none,false⟩,⟨some 13,.mov (.t 12),none,false⟩,⟨some 14,.mov (.t 0), (some (13, false)), false⟩,⟨some 15,.bin .eql (.t 14) (.c (.str [111, 107])), (some (13, false)), false⟩,⟨some 16,.pick (.t 13) (.c (.bool true)) (.t 15),none,false⟩,⟨some 17,.mov (.t 16),none,false⟩,⟨some 18,.mov (.t 0), (some (17, false)), false⟩,⟨some 19,.bin .eql (.t 18) (.c (.str [102, 97, 105, 108])), (some (17, false)), false⟩,⟨some 20,.pick (.t 17) (.c (.bool true)) (.t 19),none,false⟩,⟨some 21,.mov (.t 20),none,false⟩,⟨some 22,.mov (.t 0), (some (21, false)), false⟩,⟨some 23,.bin .eql (.t 22) (.c (.str [105, 110, 102, 111])), (some (21, false)), false⟩,⟨some 24,.pick (.t 21) (.c (.bool true)) (.t 23),none,false⟩,⟨some 25,.mov (.t 24),none,false⟩,⟨some 26,.mov (.t 0), (some (25, false)), false⟩,⟨some 27,.bin .eql (.t 26) (.c (.str [110, 105, 108])), (some (25, false)), false⟩,⟨some 28,.pick (.t 25) (.c (.bool true)) (.t 27),none,false⟩,⟨some 2,.mov (.t 28),none,false⟩]) (.ret)), [.t 2]⟩
/-- deemster/deemsterref02.Clean -/
def F174 : AF := ⟨.seq (.region [ ⟨some 2,.mov (.c (.bool false)),none,false⟩]) (.seq (.seq (.region [ ⟨some 3,.mov (.c (.int .i64 0)),none,false⟩]) (.block 0 (.loop (.seq (.seq (.region [ ⟨some 6,.mov (.t 3),none,false⟩,⟨some 7,.mov (.t 0),none,false⟩,⟨some 8,.lenStr (.t 7),none,false⟩,⟨some 9,.bin .lss (.t 6) (.t 8),none,false⟩]) (.cond (.t 9) (.skip) (.exit 0))) (.block 1 (.seq (.region [ ⟨some 11,.mov (.t 0),none,false⟩,⟨some 12,.mov (.t 3),none,false⟩,⟨some 13,.call 216 [(.t 11), (.t 12)],none,false⟩,⟨some 10,.mov (.t 13),none,false⟩,⟨some 14,.extract (.t 10) 0,none,false⟩,⟨some 15,.extract (.t 10) 1,none,false⟩,⟨some 4,.mov (.t 14),none,false⟩,⟨some 5,.mov (.t 15),none,false⟩]) (.seq (.seq (.region [ ⟨some 16,.mov (.t 5),none,false⟩,⟨some 17,.bin .eql (.t 16) (.c (.int .i64 65533)),none,false⟩,⟨some 18,.mov (.t 17),none,false⟩,⟨some 19,.mov (.t 4), (some (18, true)), false⟩,⟨some 20,.bin .neq (.t 19) (.c (.int .i64 3)), (some (18, true)), false⟩,⟨some 21,.pick (.t 18) (.t 20) (.c (.bool false)),none,false⟩]) (.cond (.t 21) (.seq (.region [ ⟨some 2,.mov (.c (.bool false)),none,false⟩]) (.ret)) (.skip))) (.region [ ⟨some 22,.mov (.t 3),none,false⟩,⟨some 23,.mov (.t 4),none,false⟩,⟨some 24,.bin .add (.t 22) (.t 23),none,false⟩,⟨some 3,.mov (.t 24),none,false⟩])))))))) (.seq (.region [ ⟨some 2,.mov (.c (.bool true)),none,false⟩]) (.ret))), [.t 2]⟩
/-- strings.Split -/
def F188 : AF := ⟨.seq (.region [ ⟨some 4,.mov (.c (.sl none true 0 [])),none,false⟩]) (.seq (.region [ ⟨some 5,.mov (.t 0),none,false⟩,⟨some 6,.mov (.t 1),none,false⟩,⟨some 7,.call 224 [(.t 5), (.t 6), (.c (.int .i64 0)), (.c (.int .i64 (-1)))],none,false⟩,⟨some 4,.mov (.t 7),none,false⟩]) (.ret)), [.t 4]⟩
/-- strings.TrimSuffix -/
def F189 : AF := ⟨.seq (.region [ ⟨some 4,.mov (.c (.str [])),none,false⟩]) (.seq (.region [ ⟨some 5,.mov (.t 0),none,false⟩,⟨some 6,.mov (.t 1),none,false⟩,⟨some 7,.call 225 [(.t 5), (.t 6)],none,false⟩,⟨some 4,.mov (.t 7),none,false⟩]) (.ret)), [.t 4]⟩
/-- deemster/line.Runes -/
def F190 : AF := ⟨.seq (.region [ ⟨some 2,.mov (.c (.int .i64 0)),none,false⟩,⟨some 3,.mov (.c (.bool false)),none,false⟩]) (.seq (.region [ ⟨some 4,.mov (.c (.int .i64 0)),none,false⟩]) (.seq (.seq (.region [ ⟨some 7,.mov (.t 0),none,false⟩,⟨some 8,.range true (.t 7),none,false⟩]) (.block 0 (.loop (.seq (.region [ ⟨some 9,.nextStr (.t 8),none,false⟩,⟨some 10,.extract (.t 9) 0,none,false⟩]) (.seq (.cond (.t 10) (.skip) (.exit 0)) (.block 1 (.seq (.region [ ⟨some 11,.extract (.t 9) 1,none,false⟩,⟨some 12,.extract (.t 9) 2,none,false⟩,⟨some 5,.mov (.t 11),none,false⟩,⟨some 6,.mov (.t 12),none,false⟩]) (.seq (.seq (.region [ ⟨some 13,.mov (.t 6),none,false⟩,⟨some 14,.bin .eql (.t 13) (.c (.int .i32 65533)),none,false⟩,⟨some 15,.mov (.t 14),none,false⟩,⟨some 16,.mov (.t 0), (some (15, true)), false⟩,⟨some 17,.mov (.t 5), (some (15, true)), false⟩,⟨some 18,.slStr (.t 16) (some (.t 17)) none, (some (15, true)), false⟩,⟨some 19,.call 226 [(.t 18), (.c (.str [239, 191, 189]))], (some (15, true)), false⟩,⟨some 20,.un .not (.t 19), (some (15, true)), false⟩,⟨some 21,.pick (.t 15) (.t 20) (.c (.bool false)),none,false⟩]) (.cond (.t 21) (.seq (.region [ ⟨some 2,.mov (.c (.int .i64 0)),none,false⟩,⟨some 3,.mov (.c (.bool false)),none,false⟩]) (.ret)) (.skip))) (.region [ ⟨some 22,.mov (.t 4),none,false⟩,⟨some 23,.bin .add (.t 22) (.c (.int .i64 1)),none,false⟩,⟨some 4,.mov (.t 23),none,false⟩]))))))))) (.seq (.region [ ⟨some 24,.mov (.t 4),none,false⟩,⟨some 2,.mov (.t 24),none,false⟩,⟨some 3,.mov (.c (.bool true)),none,false⟩]) (.ret)))), [.t 2, .t 3]⟩
/-- deemster/split.Words -/
def F191 : AF := ⟨.seq (.region [ ⟨some 2,.mov (.c (.sl none true 0 [])),none,false⟩,⟨some 3,.mov (.c (.int .i64 0)),none,false⟩]) (.seq (.seq (.region [ ⟨some 13,.mov (.t 0),none,false⟩,⟨some 14,.call 190 [(.t 13)],none,false⟩,⟨some 12,.mov (.t 14),none,false⟩,⟨some 15,.extract (.t 12) 0,none,false⟩,⟨some 16,.extract (.t 12) 1,none,false⟩,⟨some 4,.mov (.t 15),none,false⟩,⟨some 5,.mov (.t 16),none,false⟩]) (.seq (.region [ ⟨some 17,.mov (.t 5),none,false⟩,⟨some 18,.un .not (.t 17),none,false⟩,⟨some 19,.mov (.t 18),none,false⟩,⟨some 20,.mov (.t 0), (some (19, false)), false⟩,⟨some 21,.call 227 [(.t 20), (.c (.str [10]))], (some (19, false)), false⟩,⟨some 22,.pick (.t 19) (.c (.bool true)) (.t 21),none,false⟩]) (.cond (.t 22) (.seq (.region [ ⟨some 2,.mov (.c (.sl none true 0 [])),none,false⟩,⟨some 3,.mov (.c (.int .i64 5)),none,false⟩]) (.ret)) (.skip)))) (.seq (.region [ ⟨some 24,.mov (.t 0),none,false⟩,⟨some 25,.call 228 [(.t 24), (.c (.str [35]))],none,false⟩,⟨some 23,.mov (.t 25),none,false⟩,⟨some 26,.extract (.t 23) 0,none,false⟩,⟨some 27,.extract (.t 23) 1,none,false⟩,⟨some 28,.extract (.t 23) 2,none,false⟩,⟨some 0,.mov (.t 26),none,false⟩]) (.seq (.region [ ⟨some 6,.mov (.c (.sl none true 0 [])),none,false⟩]) (.seq (.region [ ⟨some 7,.mov (.c (.int .i64 (-1))),none,false⟩,⟨some 8,.mov (.c (.int .i64 0)),none,false⟩,⟨some 9,.mov (.c (.int .i64 0)),none,false⟩]) (.seq (.seq (.region [ ⟨some 29,.mov (.t 0),none,false⟩,⟨some 30,.range true (.t 29),none,false⟩]) (.block 0 (.loop (.seq (.region [ ⟨some 31,.nextStr (.t 30),none,false⟩,⟨some 32,.extract (.t 31) 0,none,false⟩]) (.seq (.cond (.t 32) (.skip) (.exit 0)) (.block 1 (.seq (.region [ ⟨some 33,.extract (.t 31) 1,none,false⟩,⟨some 34,.extract (.t 31) 2,none,false⟩,⟨some 10,.mov (.t 33),none,false⟩,⟨some 11,.mov (.t 34),none,false⟩]) (.seq (.region [ ⟨some 35,.mov (.t 9),none,false⟩,⟨some 36,.bin .add (.t 35) (.c (.int .i64 1)),none,false⟩,⟨some 9,.mov (.t 36),none,false⟩]) (.block 2 (.seq (.region [ ⟨some 38,.mov (.t 11),none,false⟩,⟨some 39,.call 229 [(.t 38)],none,false⟩,⟨some 40,.un .not (.t 39),none,false⟩,⟨some 41,.mov (.t 40),none,false⟩,⟨some 42,.mov (.t 7), (some (41, true)), false⟩,⟨some 43,.bin .lss (.t 42) (.c (.int .i64 0)), (some (41, true)), false⟩,⟨some 44,.pick (.t 41) (.t 43) (.c (.bool false)),none,false⟩,⟨some 37,.mov (.t 44),none,false⟩]) (.cond (.t 37) (.region [ ⟨some 45,.mov (.t 10),none,false⟩,⟨some 46,.mov (.t 9),none,false⟩,⟨some 7,.mov (.t 45),none,false⟩,⟨some 8,.mov (.t 46),none,false⟩]) (.seq (.region [ ⟨some 48,.mov (.t 11),none,false⟩,⟨some 49,.call 229 [(.t 48)],none,false⟩,⟨some 50,.mov (.t 49),none,false⟩,⟨some 51,.mov (.t 7), (some (50, true)), false⟩,⟨some 52,.bin .geq (.t 51) (.c (.int .i64 0)), (some (50, true)), false⟩,⟨some 53,.pick (.t 50) (.t 52) (.c (.bool false)),none,false⟩,⟨some 47,.mov (.t 53),none,false⟩]) (.cond (.t 47) (.seq (.region [ ⟨some 54,.mov (.t 6),none,false⟩,⟨some 55,.mov (.t 0),none,false⟩,⟨some 56,.mov (.t 7),none,false⟩,⟨some 57,.mov (.t 10),none,false⟩,⟨some 58,.slStr (.t 55) (some (.t 56)) (some (.t 57)),none,false⟩,⟨some 59,.mov (.t 8),none,false⟩,⟨some 60,.build [(.str []), (.int .i64 0)] [(0, 1, (.t 58)), (1, 1, (.t 59))],none,false⟩,⟨some 61,.buildSl false 2 [(.str []), (.int .i64 0)] [(0, 2, (.t 60))] 1,none,false⟩,⟨some 62,.append false 2 24 (.t 54) (.t 61),none,false⟩,⟨some 6,.mov (.t 62),none,false⟩]) (.region [ ⟨some 7,.mov (.c (.int .i64 (-1))),none,false⟩])) (.skip)))))))))))))) (.seq (.seq (.region [ ⟨some 63,.mov (.t 7),none,false⟩,⟨some 64,.bin .geq (.t 63) (.c (.int .i64 0)),none,false⟩]) (.cond (.t 64) (.region [ ⟨some 65,.mov (.t 6),none,false⟩,⟨some 66,.mov (.t 0),none,false⟩,⟨some 67,.mov (.t 7),none,false⟩,⟨some 68,.slStr (.t 66) (some (.t 67)) none,none,false⟩,⟨some 69,.mov (.t 8),none,false⟩,⟨some 70,.build [(.str []), (.int .i64 0)] [(0, 1, (.t 68)), (1, 1, (.t 69))],none,false⟩,⟨some 71,.buildSl false 2 [(.str []), (.int .i64 0)] [(0, 2, (.t 70))] 1,none,false⟩,⟨some 72,.append false 2 24 (.t 65) (.t 71),none,false⟩,⟨some 6,.mov (.t 72),none,false⟩]) (.skip))) (.seq (.region [ ⟨some 73,.mov (.t 6),none,false⟩,⟨some 2,.mov (.t 73),none,false⟩,⟨some 3,.mov (.c (.int .i64 0)),none,false⟩]) (.ret)))))))), [.t 2, .t 3]⟩
/-- deemster/event.kind -/
def F192 : AF := ⟨.seq (.region [ ⟨some 2,.mov (.c (.int .i64 0)),none,false⟩]) (.seq (.seq (.region [ ⟨some 5,.load (some 7) (.g 0),none,false⟩,⟨some 6,.mov (.c (.int .i64 0)),none,false⟩]) (.block 0 (.loop (.seq (.region [ ⟨some 7,.bin .lss (.t 6) (.c (.int .i64 7)),none,false⟩]) (.seq (.cond (.t 7) (.skip) (.exit 0)) (.seq (.block 1 (.seq (.region [ ⟨some 8,.mov (.t 6),none,false⟩,⟨some 9,.idxVal none 7 1 (.t 5) (.t 6),none,false⟩,⟨some 3,.mov (.t 8),none,false⟩,⟨some 4,.mov (.t 9),none,false⟩]) (.seq (.region [ ⟨some 10,.mov (.t 3),none,false⟩,⟨some 11,.bin .gtr (.t 10) (.c (.int .i64 0)),none,false⟩,⟨some 12,.mov (.t 11),none,false⟩,⟨some 13,.mov (.t 4), (some (12, true)), false⟩,⟨some 14,.mov (.t 0), (some (12, true)), false⟩,⟨some 15,.bin .eql (.t 13) (.t 14), (some (12, true)), false⟩,⟨some 16,.pick (.t 12) (.t 15) (.c (.bool false)),none,false⟩]) (.cond (.t 16) (.seq (.region [ ⟨some 17,.mov (.t 3),none,false⟩,⟨some 2,.mov (.t 17),none,false⟩]) (.ret)) (.skip))))) (.region [ ⟨some 18,.bin .add (.t 6) (.c (.int .i64 1)),none,false⟩,⟨some 6,.mov (.t 18),none,false⟩]))))))) (.seq (.region [ ⟨some 2,.mov (.c (.int .i64 0)),none,false⟩]) (.ret))), [.t 2]⟩
/-- deemster/event.long -/
def F193 : AF := ⟨.seq (.region [ ⟨some 2,.mov (.c (.bool false)),none,false⟩]) (.seq (.region [ ⟨some 3,.mov (.t 0),none,false⟩,⟨some 4,.bin .eql (.t 3) (.c (.int .i64 2)),none,false⟩,⟨some 5,.mov (.t 4),none,false⟩,⟨some 6,.mov (.t 0), (some (5, false)), false⟩,⟨some 7,.bin .eql (.t 6) (.c (.int .i64 3)), (some (5, false)), false⟩,⟨some 8,.pick (.t 5) (.c (.bool true)) (.t 7),none,false⟩,⟨some 2,.mov (.t 8),none,false⟩]) (.ret)), [.t 2]⟩
/-- deemster/name.Is -/
def F194 : AF := ⟨.seq (.region [ ⟨some 2,.mov (.c (.bool false)),none,false⟩]) (.seq (.seq (.region [ ⟨some 6,.mov (.t 0),none,false⟩,⟨some 7,.call 230 [(.t 6)],none,false⟩,⟨some 8,.mov (.t 7),none,false⟩,⟨some 9,.mov (.t 0), (some (8, false)), false⟩,⟨some 10,.call 231 [(.t 9)], (some (8, false)), false⟩,⟨some 11,.un .not (.t 10), (some (8, false)), false⟩,⟨some 12,.pick (.t 8) (.c (.bool true)) (.t 11),none,false⟩]) (.cond (.t 12) (.seq (.region [ ⟨some 2,.mov (.c (.bool false)),none,false⟩]) (.ret)) (.skip))) (.seq (.region [ ⟨some 3,.mov (.c (.int .i64 0)),none,false⟩]) (.seq (.seq (.region [ ⟨some 13,.mov (.t 0),none,false⟩,⟨some 14,.range true (.t 13),none,false⟩]) (.block 0 (.loop (.seq (.region [ ⟨some 15,.nextStr (.t 14),none,false⟩,⟨some 16,.extract (.t 15) 0,none,false⟩]) (.seq (.cond (.t 16) (.skip) (.exit 0)) (.block 1 (.seq (.region [ ⟨some 17,.extract (.t 15) 2,none,false⟩,⟨some 5,.mov (.t 17),none,false⟩]) (.seq (.seq (.region [ ⟨some 18,.mov (.t 5),none,false⟩,⟨some 19,.call 232 [(.t 18)],none,false⟩,⟨some 20,.un .not (.t 19),none,false⟩,⟨some 21,.mov (.t 20),none,false⟩,⟨some 22,.mov (.t 3), (some (21, false)), false⟩,⟨some 23,.bin .eql (.t 22) (.c (.int .i64 0)), (some (21, false)), false⟩,⟨some 24,.mov (.t 23), (some (21, false)), false⟩,⟨some 25,.mov (.t 5), (some (24, true)), false⟩,⟨some 26,.call 233 [(.t 25)], (some (24, true)), false⟩,⟨some 27,.pick (.t 24) (.t 26) (.c (.bool false)), (some (21, false)), false⟩,⟨some 28,.pick (.t 21) (.c (.bool true)) (.t 27),none,false⟩]) (.cond (.t 28) (.seq (.region [ ⟨some 2,.mov (.c (.bool false)),none,false⟩]) (.ret)) (.skip))) (.region [ ⟨some 29,.mov (.t 3),none,false⟩,⟨some 30,.bin .add (.t 29) (.c (.int .i64 1)),none,false⟩,⟨some 3,.mov (.t 30),none,false⟩]))))))))) (.seq (.region [ ⟨some 31,.mov (.t 3),none,false⟩,⟨some 32,.bin .gtr (.t 31) (.c (.int .i64 0)),none,false⟩,⟨some 33,.mov (.t 32),none,false⟩,⟨some 34,.mov (.t 3), (some (33, true)), false⟩,⟨some 35,.bin .leq (.t 34) (.c (.int .i64 20)), (some (33, true)), false⟩,⟨some 36,.pick (.t 33) (.t 35) (.c (.bool false)),none,false⟩,⟨some 2,.mov (.t 36),none,false⟩]) (.ret))))), [.t 2]⟩
/-- deemster/table.Make -/
def F197 : AF := ⟨.seq (.region [ ⟨some 2,.mov (.c (.sl none true 0 [])),none,true⟩]) (.seq (.region [ ⟨some 3,.mov (.t 0),none,true⟩,⟨some 4,.call 238 [(.t 3)],none,true⟩,⟨some 2,.mov (.t 4),none,true⟩]) (.ret)), [.t 2]⟩
/-- slices.Index[[]string,string] -/
def F198 : AF := ⟨.seq (.region [ ⟨some 4,.mov (.c (.int .i64 0)),none,false⟩]) (.seq (.seq (.region [ ⟨some 6,.mov (.t 0),none,false⟩,⟨some 7,.lenSl (.t 6),none,false⟩,⟨some 8,.mov (.c (.int .i64 0)),none,false⟩]) (.block 0 (.loop (.seq (.region [ ⟨some 9,.bin .lss (.t 8) (.t 7),none,false⟩]) (.seq (.cond (.t 9) (.skip) (.exit 0)) (.seq (.block 1 (.seq (.region [ ⟨some 10,.mov (.t 8),none,false⟩,⟨some 5,.mov (.t 10),none,false⟩]) (.seq (.region [ ⟨some 11,.mov (.t 1),none,false⟩,⟨some 12,.mov (.t 0),none,false⟩,⟨some 13,.mov (.t 5),none,false⟩,⟨some 14,.idxSl 1 (.t 12) (.t 13),none,false⟩,⟨some 15,.load none (.t 14),none,false⟩,⟨some 16,.bin .eql (.t 11) (.t 15),none,false⟩]) (.cond (.t 16) (.seq (.region [ ⟨some 17,.mov (.t 5),none,false⟩,⟨some 4,.mov (.t 17),none,false⟩]) (.ret)) (.skip))))) (.region [ ⟨some 18,.bin .add (.t 8) (.c (.int .i64 1)),none,false⟩,⟨some 8,.mov (.t 18),none,false⟩]))))))) (.seq (.region [ ⟨some 4,.mov (.c (.int .i64 (-1))),none,false⟩]) (.ret))), [.t 4]⟩
/-- deemster/name.Less -/
def F199 : AF := ⟨.seq (.region [ ⟨some 4,.mov (.c (.bool false)),none,false⟩]) (.seq (.region [ ⟨some 5,.mov (.t 0),none,false⟩,⟨some 6,.mov (.t 1),none,false⟩,⟨some 7,.call 239 [(.t 5), (.t 6)],none,false⟩,⟨some 8,.bin .lss (.t 7) (.c (.int .i64 0)),none,false⟩,⟨some 4,.mov (.t 8),none,false⟩]) (.ret)), [.t 4]⟩
/-- deemster/deemsterref02.one -/
def F216 : AF := ⟨.seq (.region [ ⟨some 4,.mov (.c (.int .i64 0)),none,false⟩,⟨some 5,.mov (.c (.int .i64 0)),none,false⟩]) (.seq (.region [ ⟨some 12,.mov (.t 0),none,false⟩,⟨some 13,.mov (.t 1),none,false⟩,⟨some 14,.idxStr (.t 12) (.t 13),none,false⟩,⟨some 15,.conv .i64 (.t 14),none,false⟩,⟨some 6,.mov (.t 15),none,false⟩]) (.seq (.seq (.region [ ⟨some 16,.mov (.t 6),none,false⟩,⟨some 17,.bin .lss (.t 16) (.c (.int .i64 128)),none,false⟩]) (.cond (.t 17) (.seq (.region [ ⟨some 18,.mov (.t 6),none,false⟩,⟨some 4,.mov (.c (.int .i64 1)),none,false⟩,⟨some 5,.mov (.t 18),none,false⟩]) (.ret)) (.skip))) (.seq (.region [ ⟨some 7,.mov (.c (.int .i64 0)),none,false⟩,⟨some 8,.mov (.c (.int .i64 0)),none,false⟩,⟨some 9,.mov (.c (.int .i64 0)),none,false⟩]) (.seq (.seq (.region [ ⟨some 19,.mov (.t 6),none,false⟩,⟨some 20,.bin .geq (.t 19) (.c (.int .i64 194)),none,false⟩,⟨some 21,.mov (.t 20),none,false⟩,⟨some 22,.mov (.t 6), (some (21, true)), false⟩,⟨some 23,.bin .leq (.t 22) (.c (.int .i64 223)), (some (21, true)), false⟩,⟨some 24,.pick (.t 21) (.t 23) (.c (.bool false)),none,false⟩]) (.cond (.t 24) (.region [ ⟨some 25,.mov (.t 6),none,false⟩,⟨some 26,.bin .sub (.t 25) (.c (.int .i64 192)),none,false⟩,⟨some 7,.mov (.c (.int .i64 2)),none,false⟩,⟨some 8,.mov (.c (.int .i64 128)),none,false⟩,⟨some 9,.mov (.t 26),none,false⟩]) (.skip))) (.seq (.seq (.region [ ⟨some 27,.mov (.t 6),none,false⟩,⟨some 28,.bin .geq (.t 27) (.c (.int .i64 224)),none,false⟩,⟨some 29,.mov (.t 28),none,false⟩,⟨some 30,.mov (.t 6), (some (29, true)), false⟩,⟨some 31,.bin .leq (.t 30) (.c (.int .i64 239)), (some (29, true)), false⟩,⟨some 32,.pick (.t 29) (.t 31) (.c (.bool false)),none,false⟩]) (.cond (.t 32) (.region [ ⟨some 33,.mov (.t 6),none,false⟩,⟨some 34,.bin .sub (.t 33) (.c (.int .i64 224)),none,false⟩,⟨some 7,.mov (.c (.int .i64 3)),none,false⟩,⟨some 8,.mov (.c (.int .i64 2048)),none,false⟩,⟨some 9,.mov (.t 34),none,false⟩]) (.skip))) (.seq (.seq (.region [ ⟨some 35,.mov (.t 6),none,false⟩,⟨some 36,.bin .geq (.t 35) (.c (.int .i64 240)),none,false⟩,⟨some 37,.mov (.t 36),none,false⟩,⟨some 38,.mov (.t 6), (some (37, true)), false⟩,⟨some 39,.bin .leq (.t 38) (.c (.int .i64 244)), (some (37, true)), false⟩,⟨some 40,.pick (.t 37) (.t 39) (.c (.bool false)),none,false⟩]) (.cond (.t 40) (.region [ ⟨some 41,.mov (.t 6),none,false⟩,⟨some 42,.bin .sub (.t 41) (.c (.int .i64 240)),none,false⟩,⟨some 7,.mov (.c (.int .i64 4)),none,false⟩,⟨some 8,.mov (.c (.int .i64 65536)),none,false⟩,⟨some 9,.mov (.t 42),none,false⟩]) (.skip))) (.seq (.seq (.region [ ⟨some 43,.mov (.t 7),none,false⟩,⟨some 44,.bin .eql (.t 43) (.c (.int .i64 0)),none,false⟩,⟨some 45,.mov (.t 44),none,false⟩,⟨some 46,.mov (.t 1), (some (45, false)), false⟩,⟨some 47,.mov (.t 7), (some (45, false)), false⟩,⟨some 48,.bin .add (.t 46) (.t 47), (some (45, false)), false⟩,⟨some 49,.mov (.t 0), (some (45, false)), false⟩,⟨some 50,.lenStr (.t 49), (some (45, false)), false⟩,⟨some 51,.bin .gtr (.t 48) (.t 50), (some (45, false)), false⟩,⟨some 52,.pick (.t 45) (.c (.bool true)) (.t 51),none,false⟩]) (.cond (.t 52) (.seq (.region [ ⟨some 4,.mov (.c (.int .i64 1)),none,false⟩,⟨some 5,.mov (.c (.int .i64 65533)),none,false⟩]) (.ret)) (.skip))) (.seq (.seq (.region [ ⟨some 10,.mov (.c (.int .i64 1)),none,false⟩]) (.block 0 (.loop (.seq (.seq (.region [ ⟨some 53,.mov (.t 10),none,false⟩,⟨some 54,.mov (.t 7),none,false⟩,⟨some 55,.bin .lss (.t 53) (.t 54),none,false⟩]) (.cond (.t 55) (.skip) (.exit 0))) (.seq (.block 1 (.seq (.region [ ⟨some 58,.mov (.t 0),none,false⟩,⟨some 59,.mov (.t 1),none,false⟩,⟨some 60,.mov (.t 10),none,false⟩,⟨some 61,.bin .add (.t 59) (.t 60),none,false⟩,⟨some 62,.idxStr (.t 58) (.t 61),none,false⟩,⟨some 63,.conv .i64 (.t 62),none,false⟩,⟨some 11,.mov (.t 63),none,false⟩]) (.seq (.seq (.region [ ⟨some 64,.mov (.t 11),none,false⟩,⟨some 65,.bin .lss (.t 64) (.c (.int .i64 128)),none,false⟩,⟨some 66,.mov (.t 65),none,false⟩,⟨some 67,.mov (.t 11), (some (66, false)), false⟩,⟨some 68,.bin .gtr (.t 67) (.c (.int .i64 191)), (some (66, false)), false⟩,⟨some 69,.pick (.t 66) (.c (.bool true)) (.t 68),none,false⟩]) (.cond (.t 69) (.seq (.region [ ⟨some 4,.mov (.c (.int .i64 1)),none,false⟩,⟨some 5,.mov (.c (.int .i64 65533)),none,false⟩]) (.ret)) (.skip))) (.region [ ⟨some 70,.mov (.t 9),none,false⟩,⟨some 71,.bin .mul (.c (.int .i64 64)) (.t 70),none,false⟩,⟨some 72,.mov (.t 11),none,false⟩,⟨some 73,.bin .add (.t 71) (.t 72),none,false⟩,⟨some 74,.bin .sub (.t 73) (.c (.int .i64 128)),none,false⟩,⟨some 9,.mov (.t 74),none,false⟩])))) (.region [ ⟨some 56,.mov (.t 10),none,false⟩,⟨some 57,.bin .add (.t 56) (.c (.int .i64 1)),none,false⟩,⟨some 10,.mov (.t 57),none,false⟩])))))) (.seq (.seq (.region [ ⟨some 75,.mov (.t 9),none,false⟩,⟨some 76,.mov (.t 8),none,false⟩,⟨some 77,.bin .lss (.t 75) (.t 76),none,false⟩,⟨some 78,.mov (.t 77),none,false⟩,⟨some 79,.mov (.t 9), (some (78, false)), false⟩,⟨some 80,.bin .gtr (.t 79) (.c (.int .i64 1114111)), (some (78, false)), false⟩,⟨some 81,.pick (.t 78) (.c (.bool true)) (.t 80),none,false⟩,⟨some 82,.mov (.t 81),none,false⟩,⟨some 83,.mov (.t 9), (some (82, false)), false⟩,⟨some 84,.bin .geq (.t 83) (.c (.int .i64 55296)), (some (82, false)), false⟩,⟨some 85,.mov (.t 84), (some (82, false)), false⟩,⟨some 86,.mov (.t 9), (some (85, true)), false⟩,⟨some 87,.bin .leq (.t 86) (.c (.int .i64 57343)), (some (85, true)), false⟩,⟨some 88,.pick (.t 85) (.t 87) (.c (.bool false)), (some (82, false)), false⟩,⟨some 89,.pick (.t 82) (.c (.bool true)) (.t 88),none,false⟩]) (.cond (.t 89) (.seq (.region [ ⟨some 4,.mov (.c (.int .i64 1)),none,false⟩,⟨some 5,.mov (.c (.int .i64 65533)),none,false⟩]) (.ret)) (.skip))) (.seq (.region [ ⟨some 90,.mov (.t 7),none,false⟩,⟨some 91,.mov (.t 9),none,false⟩,⟨some 4,.mov (.t 90),none,false⟩,⟨some 5,.mov (.t 91),none,false⟩]) (.ret))))))))))), [.t 4, .t 5]⟩
/-- strings.genSplit -/
def F224 : AF := ⟨.seq (.region [ ⟨some 8,.mov (.c (.sl none true 0 [])),none,false⟩]) (.seq (.seq (.region [ ⟨some 12,.mov (.t 3),none,false⟩,⟨some 13,.bin .eql (.t 12) (.c (.int .i64 0)),none,false⟩]) (.cond (.t 13) (.seq (.region [ ⟨some 8,.mov (.c (.sl none true 0 [])),none,false⟩]) (.ret)) (.skip))) (.seq (.seq (.region [ ⟨some 14,.mov (.t 1),none,false⟩,⟨some 15,.bin .eql (.t 14) (.c (.str [])),none,false⟩]) (.cond (.t 15) (.seq (.region [ ⟨some 16,.mov (.t 0),none,false⟩,⟨some 17,.mov (.t 3),none,false⟩,⟨some 18,.call 246 [(.t 16), (.t 17)],none,false⟩,⟨some 8,.mov (.t 18),none,false⟩]) (.ret)) (.skip))) (.seq (.seq (.region [ ⟨some 19,.mov (.t 3),none,false⟩,⟨some 20,.bin .lss (.t 19) (.c (.int .i64 0)),none,false⟩]) (.cond (.t 20) (.region [ ⟨some 21,.mov (.t 0),none,false⟩,⟨some 22,.mov (.t 1),none,false⟩,⟨some 23,.call 247 [(.t 21), (.t 22)],none,false⟩,⟨some 24,.bin .add (.t 23) (.c (.int .i64 1)),none,false⟩,⟨some 3,.mov (.t 24),none,false⟩]) (.skip))) (.seq (.region [ ⟨some 25,.mov (.t 3),none,false⟩,⟨some 26,.mov (.t 0),none,false⟩,⟨some 27,.lenStr (.t 26),none,false⟩,⟨some 28,.bin .add (.t 27) (.c (.int .i64 1)),none,false⟩,⟨some 29,.minmax false [(.t 25), (.t 28)],none,false⟩,⟨some 3,.mov (.t 29),none,false⟩]) (.seq (.region [ ⟨some 30,.mov (.t 3),none,false⟩,⟨some 31,.mkSl false 1 16 [(.str [])] (.t 30) (.t 30),none,false⟩,⟨some 9,.mov (.t 31),none,false⟩]) (.seq (.region [ ⟨some 32,.mov (.t 3),none,false⟩,⟨some 33,.bin .sub (.t 32) (.c (.int .i64 1)),none,false⟩,⟨some 3,.mov (.t 33),none,false⟩]) (.seq (.region [ ⟨some 10,.mov (.c (.int .i64 0)),none,false⟩]) (.seq (.block 0 (.loop (.seq (.seq (.region [ ⟨some 34,.mov (.t 10),none,false⟩,⟨some 35,.mov (.t 3),none,false⟩,⟨some 36,.bin .lss (.t 34) (.t 35),none,false⟩]) (.cond (.t 36) (.skip) (.exit 0))) (.block 1 (.seq (.region [ ⟨some 37,.mov (.t 0),none,false⟩,⟨some 38,.mov (.t 1),none,false⟩,⟨some 39,.call 248 [(.t 37), (.t 38)],none,false⟩,⟨some 11,.mov (.t 39),none,false⟩]) (.seq (.seq (.region [ ⟨some 40,.mov (.t 11),none,false⟩,⟨some 41,.bin .lss (.t 40) (.c (.int .i64 0)),none,false⟩]) (.cond (.t 41) (.exit 0) (.skip))) (.seq (.region [ ⟨some 42,.mov (.t 9),none,false⟩,⟨some 43,.mov (.t 10),none,false⟩,⟨some 44,.mov (.t 0),none,false⟩,⟨some 45,.mov (.t 11),none,false⟩,⟨some 46,.mov (.t 2),none,false⟩,⟨some 47,.bin .add (.t 45) (.t 46),none,false⟩,⟨some 48,.slStr (.t 44) none (some (.t 47)),none,false⟩,⟨some 49,.idxSl 1 (.t 42) (.t 43),none,false⟩,⟨none, .store 1 (.t 49) (.t 48),none,false⟩]) (.seq (.region [ ⟨some 50,.mov (.t 0),none,false⟩,⟨some 51,.mov (.t 11),none,false⟩,⟨some 52,.mov (.t 1),none,false⟩,⟨some 53,.lenStr (.t 52),none,false⟩,⟨some 54,.bin .add (.t 51) (.t 53),none,false⟩,⟨some 55,.slStr (.t 50) (some (.t 54)) none,none,false⟩,⟨some 0,.mov (.t 55),none,false⟩]) (.region [ ⟨some 56,.mov (.t 10),none,false⟩,⟨some 57,.bin .add (.t 56) (.c (.int .i64 1)),none,false⟩,⟨some 10,.mov (.t 57),none,false⟩]))))))))) (.seq (.region [ ⟨some 58,.mov (.t 9),none,false⟩,⟨some 59,.mov (.t 10),none,false⟩,⟨some 60,.mov (.t 0),none,false⟩,⟨some 61,.idxSl 1 (.t 58) (.t 59),none,false⟩,⟨none, .store 1 (.t 61) (.t 60),none,false⟩]) (.seq (.region [ ⟨some 62,.mov (.t 9),none,false⟩,⟨some 63,.mov (.t 10),none,false⟩,⟨some 64,.bin .add (.t 63) (.c (.int .i64 1)),none,false⟩,⟨some 65,.slSl 1 (.t 62) none (some (.t 64)),none,false⟩,⟨some 8,.mov (.t 65),none,false⟩]) (.ret))))))))))), [.t 8]⟩
/-- internal/stringslite.TrimSuffix -/
def F225 : AF := ⟨.seq (.region [ ⟨some 4,.mov (.c (.str [])),none,false⟩]) (.seq (.seq (.region [ ⟨some 5,.mov (.t 0),none,false⟩,⟨some 6,.mov (.t 1),none,false⟩,⟨some 7,.call 249 [(.t 5), (.t 6)],none,false⟩]) (.cond (.t 7) (.seq (.region [ ⟨some 8,.mov (.t 0),none,false⟩,⟨some 9,.mov (.t 0),none,false⟩,⟨some 10,.lenStr (.t 9),none,false⟩,⟨some 11,.mov (.t 1),none,false⟩,⟨some 12,.lenStr (.t 11),none,false⟩,⟨some 13,.bin .sub (.t 10) (.t 12),none,false⟩,⟨some 14,.slStr (.t 8) none (some (.t 13)),none,false⟩,⟨some 4,.mov (.t 14),none,false⟩]) (.ret)) (.skip))) (.seq (.region [ ⟨some 15,.mov (.t 0),none,false⟩,⟨some 4,.mov (.t 15),none,false⟩]) (.ret))), [.t 4]⟩
/-- strings.Contains -/
def F227 : AF := ⟨.seq (.region [ ⟨some 4,.mov (.c (.bool false)),none,false⟩]) (.seq (.region [ ⟨some 5,.mov (.t 0),none,false⟩,⟨some 6,.mov (.t 1),none,false⟩,⟨some 7,.call 248 [(.t 5), (.t 6)],none,false⟩,⟨some 8,.bin .geq (.t 7) (.c (.int .i64 0)),none,false⟩,⟨some 4,.mov (.t 8),none,false⟩]) (.ret)), [.t 4]⟩
/-- strings.Cut -/
def F228 : AF := ⟨.seq (.region [ ⟨some 4,.mov (.c (.str [])),none,false⟩,⟨some 5,.mov (.c (.str [])),none,false⟩,⟨some 6,.mov (.c (.bool false)),none,false⟩]) (.seq (.region [ ⟨some 7,.mov (.t 0),none,false⟩,⟨some 8,.mov (.t 1),none,false⟩,⟨some 9,.call 251 [(.t 7), (.t 8)],none,false⟩,⟨some 10,.extract (.t 9) 0,none,false⟩,⟨some 11,.extract (.t 9) 1,none,false⟩,⟨some 12,.extract (.t 9) 2,none,false⟩,⟨some 4,.mov (.t 10),none,false⟩,⟨some 5,.mov (.t 11),none,false⟩,⟨some 6,.mov (.t 12),none,false⟩]) (.ret)), [.t 4, .t 5, .t 6]⟩
/-- deemster/split.blank -/
def F229 : AF := ⟨.seq (.region [ ⟨some 2,.mov (.c (.bool false)),none,false⟩]) (.seq (.region [ ⟨some 3,.mov (.t 0),none,false⟩,⟨some 4,.bin .eql (.t 3) (.c (.int .i32 32)),none,false⟩,⟨some 5,.mov (.t 4),none,false⟩,⟨some 6,.mov (.t 0), (some (5, false)), false⟩,⟨some 7,.bin .eql (.t 6) (.c (.int .i32 9)), (some (5, false)), false⟩,⟨some 8,.pick (.t 5) (.c (.bool true)) (.t 7),none,false⟩,⟨some 9,.mov (.t 8),none,false⟩,⟨some 10,.mov (.t 0), (some (9, false)), false⟩,⟨some 11,.bin .eql (.t 10) (.c (.int .i32 13)), (some (9, false)), false⟩,⟨some 12,.pick (.t 9) (.c (.bool true)) (.t 11),none,false⟩,⟨some 2,.mov (.t 12),none,false⟩]) (.ret)), [.t 2]⟩
/-- deemster/name.Reserved -/
def F230 : AF := ⟨.seq (.region [ ⟨some 2,.mov (.c (.bool false)),none,false⟩]) (.seq (.seq (.region [ ⟨some 3,.mov (.t 0),none,false⟩]) (.block 0 (.seq (.seq (.region [ ⟨some 5,.bin .eql (.t 3) (.c (.str [98, 101, 103, 105, 110])),none,false⟩,⟨some 4,.mov (.t 5),none,false⟩]) (.cond (.t 4) (.skip) (.seq (.region [ ⟨some 6,.bin .eql (.t 3) (.c (.str [114, 101, 97, 100])),none,false⟩,⟨some 4,.mov (.t 6),none,false⟩]) (.cond (.t 4) (.skip) (.seq (.region [ ⟨some 7,.bin .eql (.t 3) (.c (.str [119, 114, 105, 116, 101])),none,false⟩,⟨some 4,.mov (.t 7),none,false⟩]) (.cond (.t 4) (.skip) (.seq (.region [ ⟨some 8,.bin .eql (.t 3) (.c (.str [111, 107])),none,false⟩,⟨some 4,.mov (.t 8),none,false⟩]) (.cond (.t 4) (.skip) (.seq (.region [ ⟨some 9,.bin .eql (.t 3) (.c (.str [102, 97, 105, 108])),none,false⟩,⟨some 4,.mov (.t 9),none,false⟩]) (.cond (.t 4) (.skip) (.seq (.region [ ⟨some 10,.bin .eql (.t 3) (.c (.str [105, 110, 102, 111])),none,false⟩,⟨some 4,.mov (.t 10),none,false⟩]) (.cond (.t 4) (.skip) (.region [ ⟨some 11,.bin .eql (.t 3) (.c (.str [110, 105, 108])),none,false⟩,⟨some 4,.mov (.t 11),none,false⟩]))))))))))))) (.cond (.t 4) (.seq (.region [ ⟨some 2,.mov (.c (.bool true)),none,false⟩]) (.ret)) (.skip))))) (.seq (.region [ ⟨some 2,.mov (.c (.bool false)),none,false⟩]) (.ret))), [.t 2]⟩
/-- unicode/utf8.ValidString -/
def F231 : AF := ⟨.seq (.region [ ⟨some 2,.mov (.c (.bool false)),none,false⟩]) (.seq (.block 0 (.loop (.seq (.seq (.region [ ⟨some 7,.mov (.t 0),none,false⟩,⟨some 8,.lenStr (.t 7),none,false⟩,⟨some 9,.bin .gtr (.t 8) (.c (.int .i64 0)),none,false⟩]) (.cond (.t 9) (.skip) (.exit 0))) (.block 1 (.seq (.region [ ⟨some 10,.mov (.t 0),none,false⟩,⟨some 11,.idxStr (.t 10) (.c (.int .i64 0)),none,false⟩,⟨some 3,.mov (.t 11),none,false⟩]) (.seq (.seq (.region [ ⟨some 12,.mov (.t 3),none,false⟩,⟨some 13,.bin .lss (.t 12) (.c (.int .u8 128)),none,false⟩]) (.cond (.t 13) (.seq (.region [ ⟨some 14,.mov (.t 0),none,false⟩,⟨some 15,.slStr (.t 14) (some (.c (.int .i64 1))) none,none,false⟩,⟨some 0,.mov (.t 15),none,false⟩]) (.seq (.seq (.region [ ⟨some 16,.mov (.t 0),none,false⟩,⟨some 17,.lenStr (.t 16),none,false⟩,⟨some 18,.bin .gtr (.t 17) (.c (.int .i64 8)),none,false⟩,⟨some 19,.mov (.t 18),none,false⟩,⟨some 20,.mov (.t 0), (some (19, true)), false⟩,⟨some 21,.call 252 [(.t 20)], (some (19, true)), false⟩,⟨some 22,.bin .and (.t 21) (.c (.int .u64 9259542123273814144)), (some (19, true)), false⟩,⟨some 23,.bin .eql (.t 22) (.c (.int .u64 0)), (some (19, true)), false⟩,⟨some 24,.pick (.t 19) (.t 23) (.c (.bool false)),none,false⟩]) (.cond (.t 24) (.seq (.region [ ⟨some 25,.mov (.t 0),none,false⟩,⟨some 26,.slStr (.t 25) (some (.c (.int .i64 8))) none,none,false⟩,⟨some 0,.mov (.t 26),none,false⟩]) (.seq (.draw [ ⟨some 27,.mov (.t 0),none,false⟩,⟨some 28,.lenStr (.t 27),none,false⟩,⟨some 29,.bin .gtr (.t 28) (.c (.int .i64 16)),none,false⟩,⟨some 30,.mov (.t 29),none,false⟩,⟨some 31,.mov (.t 0), (some (30, true)), false⟩,⟨some 32,.call 252 [(.t 31)], (some (30, true)), false⟩,⟨some 33,.mov (.t 0), (some (30, true)), false⟩,⟨some 34,.slStr (.t 33) (some (.c (.int .i64 8))) none, (some (30, true)), false⟩,⟨some 35,.call 252 [(.t 34)], (some (30, true)), false⟩,⟨some 36,.bin .or (.t 32) (.t 35), (some (30, true)), false⟩,⟨some 37,.bin .and (.t 36) (.c (.int .u64 9259542123273814144)), (some (30, true)), false⟩,⟨some 38,.bin .eql (.t 37) (.c (.int .u64 0)), (some (30, true)), false⟩,⟨some 39,.pick (.t 30) (.t 38) (.c (.bool false)),none,false⟩] []) (.cond (.t 39) (.seq (.region [ ⟨some 40,.mov (.t 0),none,false⟩,⟨some 41,.slStr (.t 40) (some (.c (.int .i64 16))) none,none,false⟩,⟨some 0,.mov (.t 41),none,false⟩]) (.block 2 (.loop (.seq (.seq (.draw [ ⟨some 42,.mov (.t 0),none,false⟩,⟨some 43,.lenStr (.t 42),none,false⟩,⟨some 44,.bin .gtr (.t 43) (.c (.int .i64 32)),none,false⟩,⟨some 45,.mov (.t 44),none,false⟩,⟨some 46,.mov (.t 0), (some (45, true)), false⟩,⟨some 47,.call 252 [(.t 46)], (some (45, true)), false⟩,⟨some 48,.mov (.t 0), (some (45, true)), false⟩,⟨some 49,.slStr (.t 48) (some (.c (.int .i64 8))) none, (some (45, true)), false⟩,⟨some 50,.call 252 [(.t 49)], (some (45, true)), false⟩,⟨some 51,.bin .or (.t 47) (.t 50), (some (45, true)), false⟩,⟨some 52,.mov (.t 0), (some (45, true)), false⟩,⟨some 53,.slStr (.t 52) (some (.c (.int .i64 16))) none, (some (45, true)), false⟩,⟨some 54,.call 252 [(.t 53)], (some (45, true)), false⟩,⟨some 55,.mov (.t 0), (some (45, true)), false⟩,⟨some 56,.slStr (.t 55) (some (.c (.int .i64 24))) none, (some (45, true)), false⟩,⟨some 57,.call 252 [(.t 56)], (some (45, true)), false⟩,⟨some 58,.bin .or (.t 54) (.t 57), (some (45, true)), false⟩,⟨some 59,.bin .or (.t 51) (.t 58), (some (45, true)), false⟩,⟨some 60,.bin .and (.t 59) (.c (.int .u64 9259542123273814144)), (some (45, true)), false⟩,⟨some 61,.bin .eql (.t 60) (.c (.int .u64 0)), (some (45, true)), false⟩,⟨some 62,.pick (.t 45) (.t 61) (.c (.bool false)),none,false⟩] []) (.cond (.t 62) (.skip) (.exit 2))) (.block 3 (.region [ ⟨some 63,.mov (.t 0),none,false⟩,⟨some 64,.slStr (.t 63) (some (.c (.int .i64 32))) none,none,false⟩,⟨some 0,.mov (.t 64),none,false⟩])))))) (.skip)))) (.skip))) (.exit 1))) (.skip))) (.seq (.region [ ⟨some 65,.mov (.t 3),none,false⟩,⟨some 66,.idxArr 256 1 (.g 1) (.t 65),none,false⟩,⟨some 67,.load none (.t 66),none,false⟩,⟨some 4,.mov (.t 67),none,false⟩]) (.seq (.region [ ⟨some 68,.mov (.t 4),none,false⟩,⟨some 69,.bin .and (.t 68) (.c (.int .u8 7)),none,false⟩,⟨some 70,.conv .i64 (.t 69),none,false⟩,⟨some 5,.mov (.t 70),none,false⟩]) (.seq (.region [ ⟨some 71,.mov (.t 4),none,false⟩,⟨some 72,.bin .shr (.t 71) (.c (.int .u64 4)),none,false⟩,⟨some 73,.idxArr 16 2 (.g 2) (.t 72),none,false⟩,⟨some 74,.load (some 2) (.t 73),none,false⟩,⟨some 6,.alloc [(.int .u8 0), (.int .u8 0)],none,false⟩,⟨none, .store 2 (.t 6) (.t 74),none,false⟩]) (.seq (.region [ ⟨some 75,.mov (.t 5),none,false⟩]) (.block 4 (.seq (.region [ ⟨some 77,.bin .eql (.t 75) (.c (.int .i64 2)),none,false⟩,⟨some 76,.mov (.t 77),none,false⟩]) (.cond (.t 76) (.seq (.seq (.draw [ ⟨some 78,.mov (.t 0),none,false⟩,⟨some 79,.lenStr (.t 78),none,false⟩,⟨some 80,.bin .lss (.t 79) (.c (.int .i64 2)),none,false⟩,⟨some 81,.mov (.t 80),none,false⟩,⟨some 82,.mov (.t 0), (some (81, false)), false⟩,⟨some 83,.idxStr (.t 82) (.c (.int .i64 1)), (some (81, false)), false⟩,⟨some 84,.fieldAddr 0 (.t 6), (some (81, false)), false⟩,⟨some 85,.load none (.t 84), (some (81, false)), false⟩,⟨some 86,.bin .lss (.t 83) (.t 85), (some (81, false)), false⟩,⟨some 87,.pick (.t 81) (.c (.bool true)) (.t 86),none,false⟩,⟨some 88,.mov (.t 87),none,false⟩,⟨some 89,.fieldAddr 1 (.t 6), (some (88, false)), false⟩,⟨some 90,.load none (.t 89), (some (88, false)), false⟩,⟨some 91,.mov (.t 0), (some (88, false)), false⟩,⟨some 92,.idxStr (.t 91) (.c (.int .i64 1)), (some (88, false)), false⟩,⟨some 93,.bin .lss (.t 90) (.t 92), (some (88, false)), false⟩,⟨some 94,.pick (.t 88) (.c (.bool true)) (.t 93),none,false⟩] []) (.cond (.t 94) (.seq (.region [ ⟨some 2,.mov (.c (.bool false)),none,false⟩]) (.ret)) (.skip))) (.region [ ⟨some 95,.mov (.t 0),none,false⟩,⟨some 96,.slStr (.t 95) (some (.c (.int .i64 2))) none,none,false⟩,⟨some 0,.mov (.t 96),none,false⟩])) (.seq (.region [ ⟨some 98,.bin .eql (.t 75) (.c (.int .i64 3)),none,false⟩,⟨some 97,.mov (.t 98),none,false⟩]) (.cond (.t 97) (.seq (.seq (.draw [ ⟨some 99,.mov (.t 0),none,false⟩,⟨some 100,.lenStr (.t 99),none,false⟩,⟨some 101,.bin .lss (.t 100) (.c (.int .i64 3)),none,false⟩,⟨some 102,.mov (.t 101),none,false⟩,⟨some 103,.mov (.t 0), (some (102, false)), false⟩,⟨some 104,.idxStr (.t 103) (.c (.int .i64 1)), (some (102, false)), false⟩,⟨some 105,.fieldAddr 0 (.t 6), (some (102, false)), false⟩,⟨some 106,.load none (.t 105), (some (102, false)), false⟩,⟨some 107,.bin .lss (.t 104) (.t 106), (some (102, false)), false⟩,⟨some 108,.pick (.t 102) (.c (.bool true)) (.t 107),none,false⟩,⟨some 109,.mov (.t 108),none,false⟩,⟨some 110,.fieldAddr 1 (.t 6), (some (109, false)), false⟩,⟨some 111,.load none (.t 110), (some (109, false)), false⟩,⟨some 112,.mov (.t 0), (some (109, false)), false⟩,⟨some 113,.idxStr (.t 112) (.c (.int .i64 1)), (some (109, false)), false⟩,⟨some 114,.bin .lss (.t 111) (.t 113), (some (109, false)), false⟩,⟨some 115,.pick (.t 109) (.c (.bool true)) (.t 114),none,false⟩,⟨some 116,.mov (.t 115),none,false⟩,⟨some 117,.mov (.t 0), (some (116, false)), false⟩,⟨some 118,.idxStr (.t 117) (.c (.int .i64 2)), (some (116, false)), false⟩,⟨some 119,.bin .lss (.t 118) (.c (.int .u8 128)), (some (116, false)), false⟩,⟨some 120,.pick (.t 116) (.c (.bool true)) (.t 119),none,false⟩,⟨some 121,.mov (.t 120),none,false⟩,⟨some 122,.mov (.t 0), (some (121, false)), false⟩,⟨some 123,.idxStr (.t 122) (.c (.int .i64 2)), (some (121, false)), false⟩,⟨some 124,.bin .lss (.c (.int .u8 191)) (.t 123), (some (121, false)), false⟩,⟨some 125,.pick (.t 121) (.c (.bool true)) (.t 124),none,false⟩] []) (.cond (.t 125) (.seq (.region [ ⟨some 2,.mov (.c (.bool false)),none,false⟩]) (.ret)) (.skip))) (.region [ ⟨some 126,.mov (.t 0),none,false⟩,⟨some 127,.slStr (.t 126) (some (.c (.int .i64 3))) none,none,false⟩,⟨some 0,.mov (.t 127),none,false⟩])) (.seq (.region [ ⟨some 129,.bin .eql (.t 75) (.c (.int .i64 4)),none,false⟩,⟨some 128,.mov (.t 129),none,false⟩]) (.cond (.t 128) (.seq (.seq (.draw [ ⟨some 130,.mov (.t 0),none,false⟩,⟨some 131,.lenStr (.t 130),none,false⟩,⟨some 132,.bin .lss (.t 131) (.c (.int .i64 4)),none,false⟩,⟨some 133,.mov (.t 132),none,false⟩,⟨some 134,.mov (.t 0), (some (133, false)), false⟩,⟨some 135,.idxStr (.t 134) (.c (.int .i64 1)), (some (133, false)), false⟩,⟨some 136,.fieldAddr 0 (.t 6), (some (133, false)), false⟩,⟨some 137,.load none (.t 136), (some (133, false)), false⟩,⟨some 138,.bin .lss (.t 135) (.t 137), (some (133, false)), false⟩,⟨some 139,.pick (.t 133) (.c (.bool true)) (.t 138),none,false⟩,⟨some 140,.mov (.t 139),none,false⟩,⟨some 141,.fieldAddr 1 (.t 6), (some (140, false)), false⟩,⟨some 142,.load none (.t 141), (some (140, false)), false⟩,⟨some 143,.mov (.t 0), (some (140, false)), false⟩,⟨some 144,.idxStr (.t 143) (.c (.int .i64 1)), (some (140, false)), false⟩,⟨some 145,.bin .lss (.t 142) (.t 144), (some (140, false)), false⟩,⟨some 146,.pick (.t 140) (.c (.bool true)) (.t 145),none,false⟩,⟨some 147,.mov (.t 146),none,false⟩,⟨some 148,.mov (.t 0), (some (147, false)), false⟩,⟨some 149,.idxStr (.t 148) (.c (.int .i64 2)), (some (147, false)), false⟩,⟨some 150,.bin .lss (.t 149) (.c (.int .u8 128)), (some (147, false)), false⟩,⟨some 151,.pick (.t 147) (.c (.bool true)) (.t 150),none,false⟩,⟨some 152,.mov (.t 151),none,false⟩,⟨some 153,.mov (.t 0), (some (152, false)), false⟩,⟨some 154,.idxStr (.t 153) (.c (.int .i64 2)), (some (152, false)), false⟩,⟨some 155,.bin .lss (.c (.int .u8 191)) (.t 154), (some (152, false)), false⟩,⟨some 156,.pick (.t 152) (.c (.bool true)) (.t 155),none,false⟩,⟨some 157,.mov (.t 156),none,false⟩,⟨some 158,.mov (.t 0), (some (157, false)), false⟩,⟨some 159,.idxStr (.t 158) (.c (.int .i64 3)), (some (157, false)), false⟩,⟨some 160,.bin .lss (.t 159) (.c (.int .u8 128)), (some (157, false)), false⟩,⟨some 161,.pick (.t 157) (.c (.bool true)) (.t 160),none,false⟩,⟨some 162,.mov (.t 161),none,false⟩,⟨some 163,.mov (.t 0), (some (162, false)), false⟩,⟨some 164,.idxStr (.t 163) (.c (.int .i64 3)), (some (162, false)), false⟩,⟨some 165,.bin .lss (.c (.int .u8 191)) (.t 164), (some (162, false)), false⟩,⟨some 166,.pick (.t 162) (.c (.bool true)) (.t 165),none,false⟩] []) (.cond (.t 166) (.seq (.region [ ⟨some 2,.mov (.c (.bool false)),none,false⟩]) (.ret)) (.skip))) (.region [ ⟨some 167,.mov (.t 0),none,false⟩,⟨some 168,.slStr (.t 167) (some (.c (.int .i64 4))) none,none,false⟩,⟨some 0,.mov (.t 168),none,false⟩])) (.seq (.region [ ⟨some 2,.mov (.c (.bool false)),none,false⟩]) (.ret))))))))))))))))))) (.seq (.region [ ⟨some 2,.mov (.c (.bool true)),none,false⟩]) (.ret))), [.t 2]⟩
/-- deemster/name.part -/
def F232 : AF := ⟨.seq (.region [ ⟨some 2,.mov (.c (.bool false)),none,false⟩]) (.seq (.region [ ⟨some 3,.mov (.t 0),none,false⟩,⟨some 4,.bin .gtr (.t 3) (.c (.int .i32 127)),none,false⟩,⟨some 5,.mov (.t 4),none,false⟩,⟨some 6,.mov (.t 0), (some (5, false)), false⟩,⟨some 7,.bin .eql (.t 6) (.c (.int .i32 95)), (some (5, false)), false⟩,⟨some 8,.pick (.t 5) (.c (.bool true)) (.t 7),none,false⟩,⟨some 9,.mov (.t 8),none,false⟩,⟨some 10,.mov (.t 0), (some (9, false)), false⟩,⟨some 11,.call 233 [(.t 10)], (some (9, false)), false⟩,⟨some 12,.pick (.t 9) (.c (.bool true)) (.t 11),none,false⟩,⟨some 13,.mov (.t 12),none,false⟩,⟨some 14,.mov (.t 0), (some (13, false)), false⟩,⟨some 15,.bin .geq (.t 14) (.c (.int .i32 97)), (some (13, false)), false⟩,⟨some 16,.mov (.t 15), (some (13, false)), false⟩,⟨some 17,.mov (.t 0), (some (16, true)), false⟩,⟨some 18,.bin .leq (.t 17) (.c (.int .i32 122)), (some (16, true)), false⟩,⟨some 19,.pick (.t 16) (.t 18) (.c (.bool false)), (some (13, false)), false⟩,⟨some 20,.pick (.t 13) (.c (.bool true)) (.t 19),none,false⟩,⟨some 21,.mov (.t 20),none,false⟩,⟨some 22,.mov (.t 0), (some (21, false)), false⟩,⟨some 23,.bin .geq (.t 22) (.c (.int .i32 65)), (some (21, false)), false⟩,⟨some 24,.mov (.t 23), (some (21, false)), false⟩,⟨some 25,.mov (.t 0), (some (24, true)), false⟩,⟨some 26,.bin .leq (.t 25) (.c (.int .i32 90)), (some (24, true)), false⟩,⟨some 27,.pick (.t 24) (.t 26) (.c (.bool false)), (some (21, false)), false⟩,⟨some 28,.pick (.t 21) (.c (.bool true)) (.t 27),none,false⟩,⟨some 2,.mov (.t 28),none,false⟩]) (.ret)), [.t 2]⟩
/-- deemster/name.digit -/
def F233 : AF := ⟨.seq (.region [ ⟨some 2,.mov (.c (.bool false)),none,false⟩]) (.seq (.region [ ⟨some 3,.mov (.t 0),none,false⟩,⟨some 4,.bin .geq (.t 3) (.c (.int .i32 48)),none,false⟩,⟨some 5,.mov (.t 4),none,false⟩,⟨some 6,.mov (.t 0), (some (5, true)), false⟩,⟨some 7,.bin .leq (.t 6) (.c (.int .i32 57)), (some (5, true)), false⟩,⟨some 8,.pick (.t 5) (.t 7) (.c (.bool false)),none,false⟩,⟨some 2,.mov (.t 8),none,false⟩]) (.ret)), [.t 2]⟩
/-- deemster/event.May -/
def F235 : AF := ⟨.seq (.region [ ⟨some 1,.box 6 (.t 0),none,false⟩,⟨some 2,.mov (.c (.bool false)),none,false⟩]) (.seq (.block 0 (.seq (.region [ ⟨some 4,.fieldAddr 0 (.t 1),none,false⟩,⟨some 5,.load none (.t 4),none,false⟩,⟨some 6,.bin .lss (.t 5) (.c (.int .i64 1)),none,false⟩,⟨some 7,.mov (.t 6),none,false⟩,⟨some 8,.fieldAddr 0 (.t 1), (some (7, false)), false⟩,⟨some 9,.load none (.t 8), (some (7, false)), false⟩,⟨some 10,.bin .gtr (.t 9) (.c (.int .i64 6)), (some (7, false)), false⟩,⟨some 11,.pick (.t 7) (.c (.bool true)) (.t 10),none,false⟩,⟨some 12,.mov (.t 11),none,false⟩,⟨some 13,.fieldAddr 1 (.t 1), (some (12, false)), false⟩,⟨some 14,.load none (.t 13), (some (12, false)), false⟩,⟨some 15,.call 194 [(.t 14)], (some (12, false)), false⟩,⟨some 16,.un .not (.t 15), (some (12, false)), false⟩,⟨some 17,.pick (.t 12) (.c (.bool true)) (.t 16),none,false⟩,⟨some 3,.mov (.t 17),none,false⟩]) (.cond (.t 3) (.seq (.region [ ⟨some 2,.mov (.c (.bool false)),none,false⟩]) (.ret)) (.seq (.region [ ⟨some 19,.fieldAddr 0 (.t 1),none,false⟩,⟨some 20,.load none (.t 19),none,false⟩,⟨some 21,.call 193 [(.t 20)],none,false⟩,⟨some 22,.un .not (.t 21),none,false⟩,⟨some 18,.mov (.t 22),none,false⟩]) (.cond (.t 18) (.seq (.region [ ⟨some 23,.fieldAddr 2 (.t 1),none,false⟩,⟨some 24,.load none (.t 23),none,false⟩,⟨some 25,.bin .eql (.t 24) (.c (.str [])),none,false⟩,⟨some 26,.mov (.t 25),none,false⟩,⟨some 27,.fieldAddr 3 (.t 1), (some (26, true)), false⟩,⟨some 28,.load (some 2) (.t 27), (some (26, true)), false⟩,⟨some 29,.build [(.int .i64 0), (.int .i64 0)] [], (some (26, true)), false⟩,⟨some 30,.eq false (.struct [.int, .int]) (.t 28) (.t 29), (some (26, true)), false⟩,⟨some 31,.pick (.t 26) (.t 30) (.c (.bool false)),none,false⟩,⟨some 2,.mov (.t 31),none,false⟩]) (.ret)) (.skip)))))) (.seq (.region [ ⟨some 32,.fieldAddr 2 (.t 1),none,false⟩,⟨some 33,.load none (.t 32),none,false⟩,⟨some 34,.call 194 [(.t 33)],none,false⟩,⟨some 35,.mov (.t 34),none,false⟩,⟨some 36,.fieldAddr 3 (.t 1), (some (35, true)), false⟩,⟨some 37,.load (some 2) (.t 36), (some (35, true)), false⟩,⟨some 38,.call 119 [(.t 37)], (some (35, true)), false⟩,⟨some 39,.pick (.t 35) (.t 38) (.c (.bool false)),none,false⟩,⟨some 40,.mov (.t 39),none,false⟩,⟨some 41,.fieldAddr 0 (.t 1), (some (40, true)), false⟩,⟨some 42,.load none (.t 41), (some (40, true)), false⟩,⟨some 43,.bin .eql (.t 42) (.c (.int .i64 2)), (some (40, true)), false⟩,⟨some 44,.mov (.t 43), (some (40, true)), false⟩,⟨some 45,.fieldAddr 3 (.t 1), (some (44, false)), false⟩,⟨some 46,.fieldAddr 0 (.t 45), (some (44, false)), false⟩,⟨some 47,.load none (.t 46), (some (44, false)), false⟩,⟨some 48,.bin .eql (.t 47) (.c (.int .i64 1)), (some (44, false)), false⟩,⟨some 49,.pick (.t 44) (.c (.bool true)) (.t 48), (some (40, true)), false⟩,⟨some 50,.pick (.t 40) (.t 49) (.c (.bool false)),none,false⟩,⟨some 2,.mov (.t 50),none,false⟩]) (.ret))), [.t 2]⟩
/-- deemster/name.Sorted -/
def F238 : AF := ⟨.seq (.region [ ⟨some 2,.mov (.c (.sl none true 0 [])),none,true⟩]) (.seq (.region [ ⟨some 3,.mov (.c (.sl none true 0 [])),none,true⟩]) (.seq (.seq (.region [ ⟨some 6,.mov (.t 0),none,true⟩,⟨some 7,.lenSl (.t 6),none,true⟩,⟨some 8,.mov (.c (.int .i64 0)),none,true⟩]) (.block 0 (.loop (.seq (.region [ ⟨some 9,.bin .lss (.t 8) (.t 7),none,true⟩]) (.seq (.cond (.t 9) (.skip) (.exit 0)) (.seq (.block 1 (.seq (.region [ ⟨some 10,.idxSl 1 (.t 6) (.t 8),none,true⟩,⟨some 11,.load none (.t 10),none,true⟩,⟨some 5,.mov (.t 11),none,true⟩]) (.seq (.region [ ⟨some 12,.mov (.t 5),none,true⟩,⟨some 13,.call 194 [(.t 12)],none,true⟩]) (.cond (.t 13) (.region [ ⟨some 14,.mov (.t 3),none,true⟩,⟨some 15,.mov (.t 5),none,true⟩,⟨some 16,.buildSl true 1 [(.str [])] [(0, 1, (.t 15))] 1,none,true⟩,⟨some 17,.append true 1 16 (.t 14) (.t 16),none,true⟩,⟨some 3,.mov (.t 17),none,true⟩]) (.skip))))) (.region [ ⟨some 18,.bin .add (.t 8) (.c (.int .i64 1)),none,true⟩,⟨some 8,.mov (.t 18),none,true⟩]))))))) (.seq (.region [ ⟨some 19,.mov (.t 3),none,true⟩,⟨some 20,.call 254 [(.t 19), (.c (.fn (.func 239) [] []))],none,true⟩]) (.seq (.region [ ⟨some 21,.mov (.t 3),none,true⟩,⟨some 22,.call 255 [(.t 21)],none,true⟩,⟨some 2,.mov (.t 22),none,true⟩]) (.ret))))), [.t 2]⟩
/-- deemster/name.compare -/
def F239 : AF := ⟨.seq (.region [ ⟨some 4,.mov (.c (.int .i64 0)),none,false⟩]) (.seq (.region [ ⟨some 5,.mov (.t 0),none,false⟩,⟨some 6,.runesOfStr (.t 5),none,false⟩,⟨some 7,.mov (.t 1),none,false⟩,⟨some 8,.runesOfStr (.t 7),none,false⟩,⟨some 9,.call 256 [(.t 6), (.t 8)],none,false⟩,⟨some 4,.mov (.t 9),none,false⟩]) (.ret)), [.t 4]⟩
/-- strings.Count -/
def F247 : AF := ⟨.seq (.region [ ⟨some 4,.mov (.c (.int .i64 0)),none,false⟩]) (.seq (.seq (.region [ ⟨some 7,.mov (.t 1),none,false⟩,⟨some 8,.lenStr (.t 7),none,false⟩,⟨some 9,.bin .eql (.t 8) (.c (.int .i64 0)),none,false⟩]) (.cond (.t 9) (.seq (.region [ ⟨some 10,.mov (.t 0),none,false⟩,⟨some 11,.call 258 [(.t 10)],none,false⟩,⟨some 12,.bin .add (.t 11) (.c (.int .i64 1)),none,false⟩,⟨some 4,.mov (.t 12),none,false⟩]) (.ret)) (.skip))) (.seq (.seq (.region [ ⟨some 13,.mov (.t 1),none,false⟩,⟨some 14,.lenStr (.t 13),none,false⟩,⟨some 15,.bin .eql (.t 14) (.c (.int .i64 1)),none,false⟩]) (.cond (.t 15) (.seq (.region [ ⟨some 16,.mov (.t 0),none,false⟩,⟨some 17,.mov (.t 1),none,false⟩,⟨some 18,.idxStr (.t 17) (.c (.int .i64 0)),none,false⟩,⟨some 19,.ext .count [(.t 16), (.t 18)],none,false⟩,⟨some 4,.mov (.t 19),none,false⟩]) (.ret)) (.skip))) (.seq (.region [ ⟨some 5,.mov (.c (.int .i64 0)),none,false⟩]) (.block 0 (.loop (.block 1 (.seq (.region [ ⟨some 20,.mov (.t 0),none,false⟩,⟨some 21,.mov (.t 1),none,false⟩,⟨some 22,.call 248 [(.t 20), (.t 21)],none,false⟩,⟨some 6,.mov (.t 22),none,false⟩]) (.seq (.seq (.region [ ⟨some 23,.mov (.t 6),none,false⟩,⟨some 24,.bin .eql (.t 23) (.c (.int .i64 (-1))),none,false⟩]) (.cond (.t 24) (.seq (.region [ ⟨some 25,.mov (.t 5),none,false⟩,⟨some 4,.mov (.t 25),none,false⟩]) (.ret)) (.skip))) (.seq (.region [ ⟨some 26,.mov (.t 5),none,false⟩,⟨some 27,.bin .add (.t 26) (.c (.int .i64 1)),none,false⟩,⟨some 5,.mov (.t 27),none,false⟩]) (.region [ ⟨some 28,.mov (.t 0),none,false⟩,⟨some 29,.mov (.t 6),none,false⟩,⟨some 30,.mov (.t 1),none,false⟩,⟨some 31,.lenStr (.t 30),none,false⟩,⟨some 32,.bin .add (.t 29) (.t 31),none,false⟩,⟨some 33,.slStr (.t 28) (some (.t 32)) none,none,false⟩,⟨some 0,.mov (.t 33),none,false⟩])))))))))), [.t 4]⟩
/-- strings.Index -/
def F248 : AF := ⟨.seq (.region [ ⟨some 4,.mov (.c (.int .i64 0)),none,false⟩]) (.seq (.region [ ⟨some 5,.mov (.t 0),none,false⟩,⟨some 6,.mov (.t 1),none,false⟩,⟨some 7,.call 261 [(.t 5), (.t 6)],none,false⟩,⟨some 4,.mov (.t 7),none,false⟩]) (.ret)), [.t 4]⟩
/-- internal/stringslite.HasSuffix -/
def F249 : AF := ⟨.seq (.region [ ⟨some 4,.mov (.c (.bool false)),none,false⟩]) (.seq (.region [ ⟨some 5,.mov (.t 0),none,false⟩,⟨some 6,.lenStr (.t 5),none,false⟩,⟨some 7,.mov (.t 1),none,false⟩,⟨some 8,.lenStr (.t 7),none,false⟩,⟨some 9,.bin .geq (.t 6) (.t 8),none,false⟩,⟨some 10,.mov (.t 9),none,false⟩,⟨some 11,.mov (.t 0), (some (10, true)), false⟩,⟨some 12,.mov (.t 0), (some (10, true)), false⟩,⟨some 13,.lenStr (.t 12), (some (10, true)), false⟩,⟨some 14,.mov (.t 1), (some (10, true)), false⟩,⟨some 15,.lenStr (.t 14), (some (10, true)), false⟩,⟨some 16,.bin .sub (.t 13) (.t 15), (some (10, true)), false⟩,⟨some 17,.slStr (.t 11) (some (.t 16)) none, (some (10, true)), false⟩,⟨some 18,.mov (.t 1), (some (10, true)), false⟩,⟨some 19,.bin .eql (.t 17) (.t 18), (some (10, true)), false⟩,⟨some 20,.pick (.t 10) (.t 19) (.c (.bool false)),none,false⟩,⟨some 4,.mov (.t 20),none,false⟩]) (.ret)), [.t 4]⟩
/-- internal/stringslite.Cut -/
def F251 : AF := ⟨.seq (.region [ ⟨some 4,.mov (.c (.str [])),none,false⟩,⟨some 5,.mov (.c (.str [])),none,false⟩,⟨some 6,.mov (.c (.bool false)),none,false⟩]) (.seq (.seq (.region [ ⟨some 8,.mov (.t 0),none,false⟩,⟨some 9,.mov (.t 1),none,false⟩,⟨some 10,.call 261 [(.t 8), (.t 9)],none,false⟩,⟨some 7,.mov (.t 10),none,false⟩]) (.seq (.region [ ⟨some 11,.mov (.t 7),none,false⟩,⟨some 12,.bin .geq (.t 11) (.c (.int .i64 0)),none,false⟩]) (.cond (.t 12) (.seq (.draw [ ⟨some 13,.mov (.t 0),none,false⟩,⟨some 14,.mov (.t 7),none,false⟩,⟨some 15,.slStr (.t 13) none (some (.t 14)),none,false⟩,⟨some 16,.mov (.t 0),none,false⟩,⟨some 17,.mov (.t 7),none,false⟩,⟨some 18,.mov (.t 1),none,false⟩,⟨some 19,.lenStr (.t 18),none,false⟩,⟨some 20,.bin .add (.t 17) (.t 19),none,false⟩,⟨some 21,.slStr (.t 16) (some (.t 20)) none,none,false⟩,⟨some 4,.mov (.t 15),none,false⟩,⟨some 5,.mov (.t 21),none,false⟩,⟨some 6,.mov (.c (.bool true)),none,false⟩] []) (.ret)) (.skip)))) (.seq (.region [ ⟨some 22,.mov (.t 0),none,false⟩,⟨some 4,.mov (.t 22),none,false⟩,⟨some 5,.mov (.c (.str [])),none,false⟩,⟨some 6,.mov (.c (.bool false)),none,false⟩]) (.ret))), [.t 4, .t 5, .t 6]⟩
/-- unicode/utf8.word[string] -/
def F252 : AF := ⟨.seq (.region [ ⟨some 2,.mov (.c (.int .u64 0)),none,false⟩]) (.seq (.cond (.c (.bool false)) (.seq (.draw [ ⟨some 3,.mov (.t 0),none,false⟩,⟨some 4,.idxStr (.t 3) (.c (.int .i64 0)),none,false⟩,⟨some 5,.conv .u64 (.t 4),none,false⟩,⟨some 6,.mov (.t 0),none,false⟩,⟨some 7,.idxStr (.t 6) (.c (.int .i64 1)),none,false⟩,⟨some 8,.conv .u64 (.t 7),none,false⟩,⟨some 9,.bin .shl (.t 8) (.c (.int .u64 8)),none,false⟩,⟨some 10,.bin .or (.t 5) (.t 9),none,false⟩,⟨some 11,.mov (.t 0),none,false⟩,⟨some 12,.idxStr (.t 11) (.c (.int .i64 2)),none,false⟩,⟨some 13,.conv .u64 (.t 12),none,false⟩,⟨some 14,.bin .shl (.t 13) (.c (.int .u64 16)),none,false⟩,⟨some 15,.bin .or (.t 10) (.t 14),none,false⟩,⟨some 16,.mov (.t 0),none,false⟩,⟨some 17,.idxStr (.t 16) (.c (.int .i64 3)),none,false⟩,⟨some 18,.conv .u64 (.t 17),none,false⟩,⟨some 19,.bin .shl (.t 18) (.c (.int .u64 24)),none,false⟩,⟨some 20,.bin .or (.t 15) (.t 19),none,false⟩,⟨some 2,.mov (.t 20),none,false⟩] []) (.ret)) (.skip)) (.seq (.draw [ ⟨some 21,.mov (.t 0),none,false⟩,⟨some 22,.idxStr (.t 21) (.c (.int .i64 0)),none,false⟩,⟨some 23,.conv .u64 (.t 22),none,false⟩,⟨some 24,.mov (.t 0),none,false⟩,⟨some 25,.idxStr (.t 24) (.c (.int .i64 1)),none,false⟩,⟨some 26,.conv .u64 (.t 25),none,false⟩,⟨some 27,.bin .shl (.t 26) (.c (.int .u64 8)),none,false⟩,⟨some 28,.bin .or (.t 23) (.t 27),none,false⟩,⟨some 29,.mov (.t 0),none,false⟩,⟨some 30,.idxStr (.t 29) (.c (.int .i64 2)),none,false⟩,⟨some 31,.conv .u64 (.t 30),none,false⟩,⟨some 32,.bin .shl (.t 31) (.c (.int .u64 16)),none,false⟩,⟨some 33,.bin .or (.t 28) (.t 32),none,false⟩,⟨some 34,.mov (.t 0),none,false⟩,⟨some 35,.idxStr (.t 34) (.c (.int .i64 3)),none,false⟩,⟨some 36,.conv .u64 (.t 35),none,false⟩,⟨some 37,.bin .shl (.t 36) (.c (.int .u64 24)),none,false⟩,⟨some 38,.bin .or (.t 33) (.t 37),none,false⟩,⟨some 39,.mov (.t 0),none,false⟩,⟨some 40,.idxStr (.t 39) (.c (.int .i64 4)),none,false⟩,⟨some 41,.conv .u64 (.t 40),none,false⟩,⟨some 42,.bin .shl (.t 41) (.c (.int .u64 32)),none,false⟩,⟨some 43,.bin .or (.t 38) (.t 42),none,false⟩,⟨some 44,.mov (.t 0),none,false⟩,⟨some 45,.idxStr (.t 44) (.c (.int .i64 5)),none,false⟩,⟨some 46,.conv .u64 (.t 45),none,false⟩,⟨some 47,.bin .shl (.t 46) (.c (.int .u64 40)),none,false⟩,⟨some 48,.bin .or (.t 43) (.t 47),none,false⟩,⟨some 49,.mov (.t 0),none,false⟩,⟨some 50,.idxStr (.t 49) (.c (.int .i64 6)),none,false⟩,⟨some 51,.conv .u64 (.t 50),none,false⟩,⟨some 52,.bin .shl (.t 51) (.c (.int .u64 48)),none,false⟩,⟨some 53,.bin .or (.t 48) (.t 52),none,false⟩,⟨some 54,.mov (.t 0),none,false⟩,⟨some 55,.idxStr (.t 54) (.c (.int .i64 7)),none,false⟩,⟨some 56,.conv .u64 (.t 55),none,false⟩,⟨some 57,.bin .shl (.t 56) (.c (.int .u64 56)),none,false⟩,⟨some 58,.bin .or (.t 53) (.t 57),none,false⟩,⟨some 2,.mov (.t 58),none,false⟩] []) (.ret))), [.t 2]⟩
/-- slices.Compare[[]rune,rune] -/
def F256 : AF := ⟨.seq (.region [ ⟨some 4,.mov (.c (.int .i64 0)),none,false⟩]) (.seq (.seq (.region [ ⟨some 9,.mov (.t 0),none,false⟩,⟨some 10,.lenSl (.t 9),none,false⟩,⟨some 11,.mov (.c (.int .i64 0)),none,false⟩]) (.block 0 (.loop (.seq (.region [ ⟨some 12,.bin .lss (.t 11) (.t 10),none,false⟩]) (.seq (.cond (.t 12) (.skip) (.exit 0)) (.seq (.block 1 (.seq (.region [ ⟨some 13,.mov (.t 11),none,false⟩,⟨some 14,.idxSl 1 (.t 9) (.t 11),none,false⟩,⟨some 15,.load none (.t 14),none,false⟩,⟨some 5,.mov (.t 13),none,false⟩,⟨some 6,.mov (.t 15),none,false⟩]) (.seq (.seq (.region [ ⟨some 16,.mov (.t 5),none,false⟩,⟨some 17,.mov (.t 1),none,false⟩,⟨some 18,.lenSl (.t 17),none,false⟩,⟨some 19,.bin .geq (.t 16) (.t 18),none,false⟩]) (.cond (.t 19) (.seq (.region [ ⟨some 4,.mov (.c (.int .i64 1)),none,false⟩]) (.ret)) (.skip))) (.seq (.region [ ⟨some 20,.mov (.t 1),none,false⟩,⟨some 21,.mov (.t 5),none,false⟩,⟨some 22,.idxSl 1 (.t 20) (.t 21),none,false⟩,⟨some 23,.load none (.t 22),none,false⟩,⟨some 7,.mov (.t 23),none,false⟩]) (.seq (.region [ ⟨some 24,.mov (.t 6),none,false⟩,⟨some 25,.mov (.t 7),none,false⟩,⟨some 26,.call 265 [(.t 24), (.t 25)],none,false⟩,⟨some 8,.mov (.t 26),none,false⟩]) (.seq (.region [ ⟨some 27,.mov (.t 8),none,false⟩,⟨some 28,.bin .neq (.t 27) (.c (.int .i64 0)),none,false⟩]) (.cond (.t 28) (.seq (.region [ ⟨some 29,.mov (.t 8),none,false⟩,⟨some 4,.mov (.t 29),none,false⟩]) (.ret)) (.skip)))))))) (.region [ ⟨some 30,.bin .add (.t 11) (.c (.int .i64 1)),none,false⟩,⟨some 11,.mov (.t 30),none,false⟩]))))))) (.seq (.seq (.region [ ⟨some 31,.mov (.t 0),none,false⟩,⟨some 32,.lenSl (.t 31),none,false⟩,⟨some 33,.mov (.t 1),none,false⟩,⟨some 34,.lenSl (.t 33),none,false⟩,⟨some 35,.bin .lss (.t 32) (.t 34),none,false⟩]) (.cond (.t 35) (.seq (.region [ ⟨some 4,.mov (.c (.int .i64 (-1))),none,false⟩]) (.ret)) (.skip))) (.seq (.region [ ⟨some 4,.mov (.c (.int .i64 0)),none,false⟩]) (.ret)))), [.t 4]⟩
/-- internal/stringslite.Index -/
def F261 : AF := ⟨.seq (.region [ ⟨some 4,.mov (.c (.int .i64 0)),none,false⟩]) (.seq (.region [ ⟨some 14,.mov (.t 1),none,false⟩,⟨some 15,.lenStr (.t 14),none,false⟩,⟨some 5,.mov (.t 15),none,false⟩]) (.seq (.block 0 (.seq (.region [ ⟨some 17,.mov (.t 5),none,false⟩,⟨some 18,.bin .eql (.t 17) (.c (.int .i64 0)),none,false⟩,⟨some 19,.mov (.t 18),none,false⟩,⟨some 20,.mov (.t 1), (some (19, false)), false⟩,⟨some 21,.mov (.t 0), (some (19, false)), false⟩,⟨some 22,.bin .eql (.t 20) (.t 21), (some (19, false)), false⟩,⟨some 23,.pick (.t 19) (.c (.bool true)) (.t 22),none,false⟩,⟨some 16,.mov (.t 23),none,false⟩]) (.cond (.t 16) (.seq (.region [ ⟨some 4,.mov (.c (.int .i64 0)),none,false⟩]) (.ret)) (.seq (.region [ ⟨some 25,.mov (.t 5),none,false⟩,⟨some 26,.bin .eql (.t 25) (.c (.int .i64 1)),none,false⟩,⟨some 24,.mov (.t 26),none,false⟩]) (.cond (.t 24) (.seq (.region [ ⟨some 27,.mov (.t 0),none,false⟩,⟨some 28,.mov (.t 1),none,false⟩,⟨some 29,.idxStr (.t 28) (.c (.int .i64 0)),none,false⟩,⟨some 30,.call 267 [(.t 27), (.t 29)],none,false⟩,⟨some 4,.mov (.t 30),none,false⟩]) (.ret)) (.seq (.region [ ⟨some 32,.mov (.t 5),none,false⟩,⟨some 33,.mov (.t 0),none,false⟩,⟨some 34,.lenStr (.t 33),none,false⟩,⟨some 35,.bin .geq (.t 32) (.t 34),none,false⟩,⟨some 31,.mov (.t 35),none,false⟩]) (.cond (.t 31) (.seq (.region [ ⟨some 4,.mov (.c (.int .i64 (-1))),none,false⟩]) (.ret)) (.seq (.region [ ⟨some 37,.mov (.t 5),none,false⟩,⟨some 38,.load none (.g 3),none,false⟩,⟨some 39,.bin .leq (.t 37) (.t 38),none,false⟩,⟨some 40,.mov (.t 39),none,false⟩,⟨some 41,.mov (.t 0), (some (40, true)), false⟩,⟨some 42,.lenStr (.t 41), (some (40, true)), false⟩,⟨some 43,.bin .leq (.t 42) (.c (.int .i64 64)), (some (40, true)), false⟩,⟨some 44,.pick (.t 40) (.t 43) (.c (.bool false)),none,false⟩,⟨some 36,.mov (.t 44),none,false⟩]) (.cond (.t 36) (.seq (.region [ ⟨some 45,.mov (.t 0),none,false⟩,⟨some 46,.mov (.t 1),none,false⟩,⟨some 47,.call 268 [(.t 45), (.t 46)],none,false⟩,⟨some 4,.mov (.t 47),none,false⟩]) (.ret)) (.skip)))))))))) (.seq (.region [ ⟨some 48,.mov (.t 1),none,false⟩,⟨some 49,.idxStr (.t 48) (.c (.int .i64 0)),none,false⟩,⟨some 6,.mov (.t 49),none,false⟩]) (.seq (.region [ ⟨some 50,.mov (.t 1),none,false⟩,⟨some 51,.idxStr (.t 50) (.c (.int .i64 1)),none,false⟩,⟨some 7,.mov (.t 51),none,false⟩]) (.seq (.region [ ⟨some 8,.mov (.c (.int .i64 0)),none,false⟩]) (.seq (.region [ ⟨some 52,.mov (.t 0),none,false⟩,⟨some 53,.lenStr (.t 52),none,false⟩,⟨some 54,.mov (.t 5),none,false⟩,⟨some 55,.bin .sub (.t 53) (.t 54),none,false⟩,⟨some 56,.bin .add (.t 55) (.c (.int .i64 1)),none,false⟩,⟨some 9,.mov (.t 56),none,false⟩]) (.seq (.region [ ⟨some 10,.mov (.c (.int .i64 0)),none,false⟩]) (.seq (.block 1 (.loop (.seq (.seq (.region [ ⟨some 57,.mov (.t 8),none,false⟩,⟨some 58,.mov (.t 9),none,false⟩,⟨some 59,.bin .lss (.t 57) (.t 58),none,false⟩]) (.cond (.t 59) (.skip) (.exit 1))) (.block 2 (.seq (.seq (.region [ ⟨some 60,.mov (.t 0),none,false⟩,⟨some 61,.mov (.t 8),none,false⟩,⟨some 62,.idxStr (.t 60) (.t 61),none,false⟩,⟨some 63,.mov (.t 6),none,false⟩,⟨some 64,.bin .neq (.t 62) (.t 63),none,false⟩]) (.cond (.t 64) (.seq (.region [ ⟨some 65,.mov (.t 0),none,false⟩,⟨some 66,.mov (.t 8),none,false⟩,⟨some 67,.bin .add (.t 66) (.c (.int .i64 1)),none,false⟩,⟨some 68,.mov (.t 9),none,false⟩,⟨some 69,.slStr (.t 65) (some (.t 67)) (some (.t 68)),none,false⟩,⟨some 70,.mov (.t 6),none,false⟩,⟨some 71,.call 267 [(.t 69), (.t 70)],none,false⟩,⟨some 11,.mov (.t 71),none,false⟩]) (.seq (.seq (.region [ ⟨some 72,.mov (.t 11),none,false⟩,⟨some 73,.bin .lss (.t 72) (.c (.int .i64 0)),none,false⟩]) (.cond (.t 73) (.seq (.region [ ⟨some 4,.mov (.c (.int .i64 (-1))),none,false⟩]) (.ret)) (.skip))) (.region [ ⟨some 74,.mov (.t 8),none,false⟩,⟨some 75,.mov (.t 11),none,false⟩,⟨some 76,.bin .add (.t 75) (.c (.int .i64 1)),none,false⟩,⟨some 77,.bin .add (.t 74) (.t 76),none,false⟩,⟨some 8,.mov (.t 77),none,false⟩]))) (.skip))) (.seq (.seq (.region [ ⟨some 78,.mov (.t 0),none,false⟩,⟨some 79,.mov (.t 8),none,false⟩,⟨some 80,.bin .add (.t 79) (.c (.int .i64 1)),none,false⟩,⟨some 81,.idxStr (.t 78) (.t 80),none,false⟩,⟨some 82,.mov (.t 7),none,false⟩,⟨some 83,.bin .eql (.t 81) (.t 82),none,false⟩,⟨some 84,.mov (.t 83),none,false⟩,⟨some 85,.mov (.t 0), (some (84, true)), false⟩,⟨some 86,.mov (.t 8), (some (84, true)), false⟩,⟨some 87,.mov (.t 8), (some (84, true)), false⟩,⟨some 88,.mov (.t 5), (some (84, true)), false⟩,⟨some 89,.bin .add (.t 87) (.t 88), (some (84, true)), false⟩,⟨some 90,.slStr (.t 85) (some (.t 86)) (some (.t 89)), (some (84, true)), false⟩,⟨some 91,.mov (.t 1), (some (84, true)), false⟩,⟨some 92,.bin .eql (.t 90) (.t 91), (some (84, true)), false⟩,⟨some 93,.pick (.t 84) (.t 92) (.c (.bool false)),none,false⟩]) (.cond (.t 93) (.seq (.region [ ⟨some 94,.mov (.t 8),none,false⟩,⟨some 4,.mov (.t 94),none,false⟩]) (.ret)) (.skip))) (.seq (.region [ ⟨some 95,.mov (.t 8),none,false⟩,⟨some 96,.bin .add (.t 95) (.c (.int .i64 1)),none,false⟩,⟨some 8,.mov (.t 96),none,false⟩]) (.seq (.region [ ⟨some 97,.mov (.t 10),none,false⟩,⟨some 98,.bin .add (.t 97) (.c (.int .i64 1)),none,false⟩,⟨some 10,.mov (.t 98),none,false⟩]) (.seq (.region [ ⟨some 99,.mov (.t 5),none,false⟩,⟨some 100,.load none (.g 3),none,false⟩,⟨some 101,.bin .leq (.t 99) (.t 100),none,false⟩,⟨some 102,.mov (.t 101),none,false⟩,⟨some 103,.mov (.t 10), (some (102, true)), false⟩,⟨some 104,.mov (.t 8), (some (102, true)), false⟩,⟨some 105,.call 269 [(.t 104)], (some (102, true)), false⟩,⟨some 106,.bin .gtr (.t 103) (.t 105), (some (102, true)), false⟩,⟨some 107,.pick (.t 102) (.t 106) (.c (.bool false)),none,false⟩]) (.cond (.t 107) (.seq (.region [ ⟨some 108,.mov (.t 0),none,false⟩,⟨some 109,.mov (.t 8),none,false⟩,⟨some 110,.slStr (.t 108) (some (.t 109)) none,none,false⟩,⟨some 111,.mov (.t 1),none,false⟩,⟨some 112,.call 268 [(.t 110), (.t 111)],none,false⟩,⟨some 12,.mov (.t 112),none,false⟩]) (.seq (.seq (.region [ ⟨some 113,.mov (.t 12),none,false⟩,⟨some 114,.bin .geq (.t 113) (.c (.int .i64 0)),none,false⟩]) (.cond (.t 114) (.seq (.region [ ⟨some 115,.mov (.t 12),none,false⟩,⟨some 116,.mov (.t 8),none,false⟩,⟨some 117,.bin .add (.t 115) (.t 116),none,false⟩,⟨some 4,.mov (.t 117),none,false⟩]) (.ret)) (.skip))) (.seq (.region [ ⟨some 4,.mov (.c (.int .i64 (-1))),none,false⟩]) (.ret)))) (.seq (.region [ ⟨some 118,.mov (.t 5),none,false⟩,⟨some 119,.load none (.g 3),none,false⟩,⟨some 120,.bin .gtr (.t 118) (.t 119),none,false⟩,⟨some 121,.mov (.t 120),none,false⟩,⟨some 122,.mov (.t 10), (some (121, true)), false⟩,⟨some 123,.mov (.t 8), (some (121, true)), false⟩,⟨some 124,.bin .shr (.t 123) (.c (.int .u64 4)), (some (121, true)), false⟩,⟨some 125,.bin .add (.c (.int .i64 4)) (.t 124), (some (121, true)), false⟩,⟨some 126,.bin .geq (.t 122) (.t 125), (some (121, true)), false⟩,⟨some 127,.pick (.t 121) (.t 126) (.c (.bool false)),none,false⟩,⟨some 128,.mov (.t 127),none,false⟩,⟨some 129,.mov (.t 8), (some (128, true)), false⟩,⟨some 130,.mov (.t 9), (some (128, true)), false⟩,⟨some 131,.bin .lss (.t 129) (.t 130), (some (128, true)), false⟩,⟨some 132,.pick (.t 128) (.t 131) (.c (.bool false)),none,false⟩]) (.cond (.t 132) (.seq (.region [ ⟨some 133,.mov (.t 0),none,false⟩,⟨some 134,.mov (.t 8),none,false⟩,⟨some 135,.slStr (.t 133) (some (.t 134)) none,none,false⟩,⟨some 136,.mov (.t 1),none,false⟩,⟨some 137,.call 270 [(.t 135), (.t 136)],none,false⟩,⟨some 13,.mov (.t 137),none,false⟩]) (.seq (.seq (.region [ ⟨some 138,.mov (.t 13),none,false⟩,⟨some 139,.bin .lss (.t 138) (.c (.int .i64 0)),none,false⟩]) (.cond (.t 139) (.seq (.region [ ⟨some 4,.mov (.c (.int .i64 (-1))),none,false⟩]) (.ret)) (.skip))) (.seq (.region [ ⟨some 140,.mov (.t 8),none,false⟩,⟨some 141,.mov (.t 13),none,false⟩,⟨some 142,.bin .add (.t 140) (.t 141),none,false⟩,⟨some 4,.mov (.t 142),none,false⟩]) (.ret)))) (.skip))))))))))))) (.seq (.region [ ⟨some 4,.mov (.c (.int .i64 (-1))),none,false⟩]) (.ret)))))))))), [.t 4]⟩
/-- cmp.Compare[rune] -/
def F265 : AF := ⟨.seq (.region [ ⟨some 4,.mov (.c (.int .i64 0)),none,false⟩]) (.seq (.region [ ⟨some 7,.mov (.t 0),none,false⟩,⟨some 8,.call 280 [(.t 7)],none,false⟩,⟨some 5,.mov (.t 8),none,false⟩]) (.seq (.region [ ⟨some 9,.mov (.t 1),none,false⟩,⟨some 10,.call 280 [(.t 9)],none,false⟩,⟨some 6,.mov (.t 10),none,false⟩]) (.seq (.seq (.region [ ⟨some 11,.mov (.t 5),none,false⟩]) (.cond (.t 11) (.seq (.seq (.region [ ⟨some 12,.mov (.t 6),none,false⟩]) (.cond (.t 12) (.seq (.region [ ⟨some 4,.mov (.c (.int .i64 0)),none,false⟩]) (.ret)) (.skip))) (.seq (.region [ ⟨some 4,.mov (.c (.int .i64 (-1))),none,false⟩]) (.ret))) (.skip))) (.seq (.seq (.region [ ⟨some 13,.mov (.t 6),none,false⟩]) (.cond (.t 13) (.seq (.region [ ⟨some 4,.mov (.c (.int .i64 1)),none,false⟩]) (.ret)) (.skip))) (.seq (.seq (.region [ ⟨some 14,.mov (.t 0),none,false⟩,⟨some 15,.mov (.t 1),none,false⟩,⟨some 16,.bin .lss (.t 14) (.t 15),none,false⟩]) (.cond (.t 16) (.seq (.region [ ⟨some 4,.mov (.c (.int .i64 (-1))),none,false⟩]) (.ret)) (.skip))) (.seq (.seq (.region [ ⟨some 17,.mov (.t 0),none,false⟩,⟨some 18,.mov (.t 1),none,false⟩,⟨some 19,.bin .gtr (.t 17) (.t 18),none,false⟩]) (.cond (.t 19) (.seq (.region [ ⟨some 4,.mov (.c (.int .i64 1)),none,false⟩]) (.ret)) (.skip))) (.seq (.region [ ⟨some 4,.mov (.c (.int .i64 0)),none,false⟩]) (.ret)))))))), [.t 4]⟩
/-- internal/stringslite.IndexByte -/
def F267 : AF := ⟨.seq (.region [ ⟨some 4,.mov (.c (.int .i64 0)),none,false⟩]) (.seq (.region [ ⟨some 5,.mov (.t 0),none,false⟩,⟨some 6,.mov (.t 1),none,false⟩,⟨some 7,.ext .indexByte [(.t 5), (.t 6)],none,false⟩,⟨some 4,.mov (.t 7),none,false⟩]) (.ret)), [.t 4]⟩
/-- cmp.isNaN[rune] -/
def F280 : AF := ⟨.seq (.region [ ⟨some 2,.mov (.c (.bool false)),none,false⟩]) (.seq (.region [ ⟨some 3,.mov (.t 0),none,false⟩,⟨some 4,.mov (.t 0),none,false⟩,⟨some 5,.bin .neq (.t 3) (.t 4),none,false⟩,⟨some 2,.mov (.t 5),none,false⟩]) (.ret)), [.t 2]⟩
/-- deemster/deemsterref41.Product, sharing -/
def S20 : AF := ⟨.seq (.region [ ⟨some 2,.mov (.c (.int .i64 0)),none,true⟩,⟨some 3,.mov (.c (.int .i64 0)),none,true⟩]) (.seq (.region [ ⟨some 4,.mov (.c (.int .i64 1)),none,true⟩]) (.seq (.seq (.region [ ⟨some 5,.mov (.c (.int .i64 0)),none,true⟩]) (.block 0 (.loop (.seq (.seq (.region [ ⟨some 7,.mov (.t 5),none,true⟩,⟨some 8,.mov (.t 0),none,true⟩,⟨some 9,.lenSl (.t 8),none,true⟩,⟨some 10,.bin .lss (.t 7) (.t 9),none,true⟩]) (.cond (.t 10) (.skip) (.exit 0))) (.seq (.block 1 (.seq (.region [ ⟨some 13,.mov (.t 0),none,true⟩,⟨some 14,.mov (.t 5),none,true⟩,⟨some 15,.idxSl 1 (.t 13) (.t 14),none,true⟩,⟨some 16,.load none (.t 15),none,true⟩,⟨some 17,.bin .lss (.t 16) (.c (.int .i64 0)),none,true⟩]) (.cond (.t 17) (.seq (.region [ ⟨some 2,.mov (.c (.int .i64 0)),none,true⟩,⟨some 3,.mov (.c (.int .i64 2)),none,true⟩]) (.ret)) (.skip)))) (.region [ ⟨some 11,.mov (.t 5),none,true⟩,⟨some 12,.bin .add (.t 11) (.c (.int .i64 1)),none,true⟩,⟨some 5,.mov (.t 12),none,true⟩])))))) (.seq (.seq (.region [ ⟨some 6,.mov (.c (.int .i64 0)),none,true⟩]) (.block 2 (.loop (.seq (.seq (.region [ ⟨some 18,.mov (.t 6),none,true⟩,⟨some 19,.mov (.t 0),none,true⟩,⟨some 20,.lenSl (.t 19),none,true⟩,⟨some 21,.bin .lss (.t 18) (.t 20),none,true⟩]) (.cond (.t 21) (.skip) (.exit 2))) (.seq (.block 3 (.seq (.seq (.region [ ⟨some 24,.mov (.t 0),none,true⟩,⟨some 25,.mov (.t 6),none,true⟩,⟨some 26,.idxSl 1 (.t 24) (.t 25),none,true⟩,⟨some 27,.load none (.t 26),none,true⟩,⟨some 28,.bin .gtr (.t 27) (.c (.int .i64 0)),none,true⟩,⟨some 29,.mov (.t 28),none,true⟩,⟨some 30,.mov (.t 4), (some (29, true)), true⟩,⟨some 31,.mov (.t 0), (some (29, true)), true⟩,⟨some 32,.mov (.t 6), (some (29, true)), true⟩,⟨some 33,.idxSl 1 (.t 31) (.t 32), (some (29, true)), true⟩,⟨some 34,.load none (.t 33), (some (29, true)), true⟩,⟨some 35,.bin .quo (.c (.int .i64 4611686018427387904)) (.t 34), (some (29, true)), true⟩,⟨some 36,.bin .gtr (.t 30) (.t 35), (some (29, true)), true⟩,⟨some 37,.pick (.t 29) (.t 36) (.c (.bool false)),none,true⟩]) (.cond (.t 37) (.seq (.region [ ⟨some 2,.mov (.c (.int .i64 0)),none,true⟩,⟨some 3,.mov (.c (.int .i64 6)),none,true⟩]) (.ret)) (.skip))) (.region [ ⟨some 38,.mov (.t 4),none,true⟩,⟨some 39,.mov (.t 0),none,true⟩,⟨some 40,.mov (.t 6),none,true⟩,⟨some 41,.idxSl 1 (.t 39) (.t 40),none,true⟩,⟨some 42,.load none (.t 41),none,true⟩,⟨some 43,.bin .mul (.t 38) (.t 42),none,true⟩,⟨some 4,.mov (.t 43),none,true⟩]))) (.region [ ⟨some 22,.mov (.t 6),none,true⟩,⟨some 23,.bin .add (.t 22) (.c (.int .i64 1)),none,true⟩,⟨some 6,.mov (.t 23),none,true⟩])))))) (.seq (.region [ ⟨some 44,.mov (.t 4),none,true⟩,⟨some 2,.mov (.t 44),none,true⟩,⟨some 3,.mov (.c (.int .i64 0)),none,true⟩]) (.ret))))), [.t 2, .t 3]⟩
/-- deemster/deemsterref41.power, sharing -/
def S65 : AF := ⟨.seq (.region [ ⟨some 6,.mov (.c (.sl none true 0 [])),none,true⟩]) (.seq (.seq (.region [ ⟨some 7,.mov (.c (.int .i64 0)),none,true⟩]) (.block 0 (.loop (.seq (.seq (.region [ ⟨some 8,.mov (.t 7),none,true⟩,⟨some 9,.mov (.t 2),none,true⟩,⟨some 10,.bin .lss (.t 8) (.t 9),none,true⟩]) (.cond (.t 10) (.skip) (.exit 0))) (.seq (.block 1 (.region [ ⟨some 13,.mov (.t 0),none,true⟩,⟨some 14,.mov (.t 1),none,true⟩,⟨some 15,.buildSl true 1 [(.int .i64 0)] [(0, 1, (.t 14))] 1,none,true⟩,⟨some 16,.append true 1 8 (.t 13) (.t 15),none,true⟩,⟨some 0,.mov (.t 16),none,true⟩])) (.region [ ⟨some 11,.mov (.t 7),none,true⟩,⟨some 12,.bin .add (.t 11) (.c (.int .i64 1)),none,true⟩,⟨some 7,.mov (.t 12),none,true⟩])))))) (.seq (.region [ ⟨some 17,.mov (.t 0),none,true⟩,⟨some 6,.mov (.t 17),none,true⟩]) (.ret))), [.t 6]⟩
/-- deemster/deemsterref11.ops, sharing -/
def S82 : AF := ⟨.seq (.region [ ⟨some 3,.box 3 (.t 0),none,true⟩,⟨some 4,.box 3 (.t 1),none,true⟩,⟨some 6,.mov (.c (.bool false)),none,true⟩]) (.seq (.seq (.region [ ⟨some 9,.fieldAddr 0 (.t 4),none,true⟩,⟨some 10,.load none (.t 9),none,true⟩,⟨some 11,.bin .lss (.t 10) (.c (.int .i64 0)),none,true⟩,⟨some 12,.mov (.t 11),none,true⟩,⟨some 13,.fieldAddr 0 (.t 4), (some (12, false)), true⟩,⟨some 14,.load none (.t 13), (some (12, false)), true⟩,⟨some 15,.fieldAddr 0 (.t 3), (some (12, false)), true⟩,⟨some 16,.load none (.t 15), (some (12, false)), true⟩,⟨some 17,.lenSl (.t 16), (some (12, false)), true⟩,⟨some 18,.bin .geq (.t 14) (.t 17), (some (12, false)), true⟩,⟨some 19,.pick (.t 12) (.c (.bool true)) (.t 18),none,true⟩,⟨some 20,.mov (.t 19),none,true⟩,⟨some 21,.fieldAddr 1 (.t 4), (some (20, false)), true⟩,⟨some 22,.load none (.t 21), (some (20, false)), true⟩,⟨some 23,.bin .lss (.t 22) (.c (.int .i64 1)), (some (20, false)), true⟩,⟨some 24,.pick (.t 20) (.c (.bool true)) (.t 23),none,true⟩,⟨some 25,.mov (.t 24),none,true⟩,⟨some 26,.fieldAddr 1 (.t 4), (some (25, false)), true⟩,⟨some 27,.load none (.t 26), (some (25, false)), true⟩,⟨some 28,.bin .gtr (.t 27) (.c (.int .i64 3)), (some (25, false)), true⟩,⟨some 29,.pick (.t 25) (.c (.bool true)) (.t 28),none,true⟩,⟨some 30,.mov (.t 29),none,true⟩,⟨some 31,.fieldAddr 2 (.t 4), (some (30, false)), true⟩,⟨some 32,.load none (.t 31), (some (30, false)), true⟩,⟨some 33,.lenSl (.t 32), (some (30, false)), true⟩,⟨some 34,.bin .gtr (.t 33) (.c (.int .i64 20)), (some (30, false)), true⟩,⟨some 35,.pick (.t 30) (.c (.bool true)) (.t 34),none,true⟩]) (.cond (.t 35) (.seq (.region [ ⟨some 6,.mov (.c (.bool false)),none,true⟩]) (.ret)) (.skip))) (.seq (.seq (.region [ ⟨some 7,.mov (.c (.int .i64 0)),none,true⟩]) (.block 0 (.loop (.seq (.seq (.region [ ⟨some 36,.mov (.t 7),none,true⟩,⟨some 37,.fieldAddr 2 (.t 4),none,true⟩,⟨some 38,.load none (.t 37),none,true⟩,⟨some 39,.lenSl (.t 38),none,true⟩,⟨some 40,.bin .lss (.t 36) (.t 39),none,true⟩]) (.cond (.t 40) (.skip) (.exit 0))) (.seq (.block 1 (.seq (.region [ ⟨some 43,.fieldAddr 2 (.t 4),none,true⟩,⟨some 44,.load none (.t 43),none,true⟩,⟨some 45,.mov (.t 7),none,true⟩,⟨some 46,.idxSl 4 (.t 44) (.t 45),none,true⟩,⟨some 47,.load (some 4) (.t 46),none,true⟩,⟨some 8,.alloc [(.bool false), (.int .i64 0), (.int .i64 0), (.int .i64 0)],none,true⟩,⟨none, .store 4 (.t 8) (.t 47),none,true⟩]) (.seq (.seq (.region [ ⟨some 48,.fieldAddr 1 (.t 8),none,true⟩,⟨some 49,.load none (.t 48),none,true⟩,⟨some 50,.bin .lss (.t 49) (.c (.int .i64 0)),none,true⟩,⟨some 51,.mov (.t 50),none,true⟩,⟨some 52,.fieldAddr 1 (.t 8), (some (51, false)), true⟩,⟨some 53,.load none (.t 52), (some (51, false)), true⟩,⟨some 54,.fieldAddr 1 (.t 3), (some (51, false)), true⟩,⟨some 55,.load none (.t 54), (some (51, false)), true⟩,⟨some 56,.lenSl (.t 55), (some (51, false)), true⟩,⟨some 57,.bin .geq (.t 53) (.t 56), (some (51, false)), true⟩,⟨some 58,.pick (.t 51) (.c (.bool true)) (.t 57),none,true⟩,⟨some 59,.mov (.t 58),none,true⟩,⟨some 60,.fieldAddr 2 (.t 8), (some (59, false)), true⟩,⟨some 61,.load (some 2) (.t 60), (some (59, false)), true⟩,⟨some 62,.call 124 [(.t 61)], (some (59, false)), true⟩,⟨some 63,.un .not (.t 62), (some (59, false)), true⟩,⟨some 64,.pick (.t 59) (.c (.bool true)) (.t 63),none,true⟩,⟨some 65,.mov (.t 64),none,true⟩,⟨some 66,.fieldAddr 0 (.t 8), (some (65, false)), true⟩,⟨some 67,.load none (.t 66), (some (65, false)), true⟩,⟨some 68,.mov (.t 67), (some (65, false)), true⟩,⟨some 69,.fieldAddr 2 (.t 8), (some (68, true)), true⟩,⟨some 70,.fieldAddr 0 (.t 69), (some (68, true)), true⟩,⟨some 71,.load none (.t 70), (some (68, true)), true⟩,⟨some 72,.bin .neq (.t 71) (.c (.int .i64 1)), (some (68, true)), true⟩,⟨some 73,.pick (.t 68) (.t 72) (.c (.bool false)), (some (65, false)), true⟩,⟨some 74,.pick (.t 65) (.c (.bool true)) (.t 73),none,true⟩]) (.cond (.t 74) (.seq (.region [ ⟨some 6,.mov (.c (.bool false)),none,true⟩]) (.ret)) (.skip))) (.region [ ⟨some 75,.mov (.t 2),none,true⟩,⟨some 76,.fieldAddr 1 (.t 8),none,true⟩,⟨some 77,.load none (.t 76),none,true⟩,⟨some 78,.idxSl 1 (.t 75) (.t 77),none,true⟩,⟨none, .store 1 (.t 78) (.c (.bool true)),none,true⟩])))) (.region [ ⟨some 41,.mov (.t 7),none,true⟩,⟨some 42,.bin .add (.t 41) (.c (.int .i64 1)),none,true⟩,⟨some 7,.mov (.t 42),none,true⟩])))))) (.seq (.region [ ⟨some 6,.mov (.c (.bool true)),none,true⟩]) (.ret)))), [.t 6]⟩
/-- deemster/hist.ops, sharing -/
def S102 : AF := ⟨.seq (.region [ ⟨some 1,.box 3 (.t 0),none,true⟩,⟨some 2,.mov (.c .nilfn),none,true⟩]) (.seq (.region [ ⟨some 3,.mkFn (.func 146) [] [(.t 1)],none,true⟩,⟨some 2,.mov (.t 3),none,true⟩]) (.ret)), [.t 2]⟩
/-- slices.ContainsFunc[[]deemster/api.Txn,deemster/api.Txn], sharing -/
def S108 : AF := ⟨.seq (.region [ ⟨some 4,.mov (.c (.bool false)),none,true⟩]) (.seq (.region [ ⟨some 5,.mov (.t 0),none,true⟩,⟨some 6,.mov (.t 1),none,true⟩,⟨some 7,.call 154 [(.t 5), (.t 6)],none,true⟩,⟨some 8,.bin .geq (.t 7) (.c (.int .i64 0)),none,true⟩,⟨some 4,.mov (.t 8),none,true⟩]) (.ret)), [.t 4]⟩
/-- deemster/hist.May$1, sharing -/
def S109 : AF := ⟨.seq (.region [ ⟨some 2,.box 3 (.t 0),none,true⟩,⟨some 3,.mov (.c (.bool false)),none,true⟩]) (.seq (.region [ ⟨some 4,.load (some 3) (.t 1),none,true⟩,⟨some 5,.load (some 3) (.t 2),none,true⟩,⟨some 6,.call 110 [(.t 4), (.t 5)],none,true⟩,⟨some 7,.un .not (.t 6),none,true⟩,⟨some 3,.mov (.t 7),none,true⟩]) (.ret)), [.t 3]⟩
/-- deemster/inner.Writers$1, sharing -/
def S113 : AF := ⟨.seq (.region [ ⟨some 2,.box 3 (.t 0),none,true⟩,⟨some 3,.mov (.c (.bool false)),none,true⟩]) (.seq (.region [ ⟨some 4,.fieldAddr 1 (.t 2),none,true⟩,⟨some 5,.load none (.t 4),none,true⟩,⟨some 6,.bin .neq (.t 5) (.c (.int .i64 2)),none,true⟩,⟨some 7,.mov (.t 6),none,true⟩,⟨some 8,.fieldAddr 2 (.t 2), (some (7, true)), true⟩,⟨some 9,.load none (.t 8), (some (7, true)), true⟩,⟨some 10,.mkFn (.func 115) [] [(.t 1)], (some (7, true)), true⟩,⟨some 11,.call 114 [(.t 9), (.t 10)], (some (7, true)), true⟩,⟨some 12,.pick (.t 7) (.t 11) (.c (.bool false)),none,true⟩,⟨some 3,.mov (.t 12),none,true⟩]) (.ret)), [.t 3]⟩
/-- slices.ContainsFunc[[]deemster/api.Op,deemster/api.Op], sharing -/
def S114 : AF := ⟨.seq (.region [ ⟨some 4,.mov (.c (.bool false)),none,true⟩]) (.seq (.region [ ⟨some 5,.mov (.t 0),none,true⟩,⟨some 6,.mov (.t 1),none,true⟩,⟨some 7,.call 156 [(.t 5), (.t 6)],none,true⟩,⟨some 8,.bin .geq (.t 7) (.c (.int .i64 0)),none,true⟩,⟨some 4,.mov (.t 8),none,true⟩]) (.ret)), [.t 4]⟩
/-- deemster/inner.Writers$1$1, sharing -/
def S115 : AF := ⟨.seq (.region [ ⟨some 2,.box 4 (.t 0),none,true⟩,⟨some 3,.mov (.c (.bool false)),none,true⟩]) (.seq (.region [ ⟨some 4,.fieldAddr 0 (.t 2),none,true⟩,⟨some 5,.load none (.t 4),none,true⟩,⟨some 6,.mov (.t 5),none,true⟩,⟨some 7,.fieldAddr 1 (.t 2), (some (6, true)), true⟩,⟨some 8,.load none (.t 7), (some (6, true)), true⟩,⟨some 9,.load none (.t 1), (some (6, true)), true⟩,⟨some 10,.bin .eql (.t 8) (.t 9), (some (6, true)), true⟩,⟨some 11,.pick (.t 6) (.t 10) (.c (.bool false)),none,true⟩,⟨some 3,.mov (.t 11),none,true⟩]) (.ret)), [.t 3]⟩
/-- deemster/erase.kept, sharing -/
def S142 : AF := ⟨.seq (.region [ ⟨some 1,.box 3 (.t 0),none,true⟩,⟨some 2,.mov (.c (.sl none true 0 [])),none,true⟩,⟨some 3,.mov (.c .nilmap),none,true⟩]) (.seq (.region [ ⟨some 13,.mkMap,none,true⟩,⟨some 4,.mov (.t 13),none,true⟩]) (.seq (.seq (.region [ ⟨some 14,.fieldAddr 2 (.t 1),none,true⟩,⟨some 15,.load none (.t 14),none,true⟩,⟨some 16,.lenSl (.t 15),none,true⟩,⟨some 17,.mov (.c (.int .i64 0)),none,true⟩]) (.block 0 (.loop (.seq (.region [ ⟨some 18,.bin .lss (.t 17) (.t 16),none,true⟩]) (.seq (.cond (.t 18) (.skip) (.exit 0)) (.seq (.block 1 (.seq (.region [ ⟨some 19,.idxSl 3 (.t 15) (.t 17),none,true⟩,⟨some 20,.load (some 3) (.t 19),none,true⟩,⟨some 6,.alloc [(.int .i64 0), (.int .i64 0), (.sl none true 0 [])],none,true⟩,⟨none, .store 3 (.t 6) (.t 20),none,true⟩]) (.seq (.region [ ⟨some 21,.fieldAddr 2 (.t 6),none,true⟩,⟨some 22,.load none (.t 21),none,true⟩,⟨some 23,.lenSl (.t 22),none,true⟩,⟨some 24,.mov (.c (.int .i64 0)),none,true⟩]) (.block 2 (.loop (.seq (.region [ ⟨some 25,.bin .lss (.t 24) (.t 23),none,true⟩]) (.seq (.cond (.t 25) (.skip) (.exit 2)) (.seq (.block 3 (.seq (.region [ ⟨some 26,.idxSl 4 (.t 22) (.t 24),none,true⟩,⟨some 27,.load (some 4) (.t 26),none,true⟩,⟨some 8,.alloc [(.bool false), (.int .i64 0), (.int .i64 0), (.int .i64 0)],none,true⟩,⟨none, .store 4 (.t 8) (.t 27),none,true⟩]) (.seq (.region [ ⟨some 28,.load (some 4) (.t 8),none,true⟩,⟨some 29,.call 143 [(.t 28)],none,true⟩,⟨some 30,.un .not (.t 29),none,true⟩]) (.cond (.t 30) (.region [ ⟨some 31,.mov (.t 4),none,true⟩,⟨some 32,.fieldAddr 1 (.t 8),none,true⟩,⟨some 33,.load none (.t 32),none,true⟩,⟨some 34,.lookup .int (.int .i64 0) false (.t 31) (.t 33),none,true⟩,⟨some 35,.bin .add (.t 34) (.c (.int .i64 1)),none,true⟩,⟨none, .mapSet .int (.t 31) (.t 33) (.t 35),none,true⟩]) (.skip))))) (.region [ ⟨some 36,.bin .add (.t 24) (.c (.int .i64 1)),none,true⟩,⟨some 24,.mov (.t 36),none,true⟩]))))))))) (.region [ ⟨some 37,.bin .add (.t 17) (.c (.int .i64 1)),none,true⟩,⟨some 17,.mov (.t 37),none,true⟩]))))))) (.seq (.region [ ⟨some 9,.mov (.c (.sl none true 0 [])),none,true⟩]) (.seq (.region [ ⟨some 38,.mkMap,none,true⟩,⟨some 10,.mov (.t 38),none,true⟩]) (.seq (.seq (.region [ ⟨some 39,.fieldAddr 1 (.t 1),none,true⟩,⟨some 40,.load none (.t 39),none,true⟩,⟨some 41,.lenSl (.t 40),none,true⟩,⟨some 42,.mov (.c (.int .i64 0)),none,true⟩]) (.block 4 (.loop (.seq (.region [ ⟨some 43,.bin .lss (.t 42) (.t 41),none,true⟩]) (.seq (.cond (.t 43) (.skip) (.exit 4)) (.seq (.block 5 (.seq (.region [ ⟨some 44,.mov (.t 42),none,true⟩,⟨some 45,.idxSl 1 (.t 40) (.t 42),none,true⟩,⟨some 46,.load none (.t 45),none,true⟩,⟨some 11,.mov (.t 44),none,true⟩,⟨some 12,.mov (.t 46),none,true⟩]) (.seq (.region [ ⟨some 47,.mov (.t 4),none,true⟩,⟨some 48,.mov (.t 11),none,true⟩,⟨some 49,.lookup .int (.int .i64 0) false (.t 47) (.t 48),none,true⟩,⟨some 50,.bin .gtr (.t 49) (.c (.int .i64 0)),none,true⟩]) (.cond (.t 50) (.seq (.region [ ⟨some 51,.mov (.t 10),none,true⟩,⟨some 52,.mov (.t 11),none,true⟩,⟨some 53,.mov (.t 9),none,true⟩,⟨some 54,.lenSl (.t 53),none,true⟩,⟨none, .mapSet .int (.t 51) (.t 52) (.t 54),none,true⟩]) (.region [ ⟨some 55,.mov (.t 9),none,true⟩,⟨some 56,.mov (.t 12),none,true⟩,⟨some 57,.buildSl true 1 [(.str [])] [(0, 1, (.t 56))] 1,none,true⟩,⟨some 58,.append true 1 16 (.t 55) (.t 57),none,true⟩,⟨some 9,.mov (.t 58),none,true⟩])) (.skip))))) (.region [ ⟨some 59,.bin .add (.t 42) (.c (.int .i64 1)),none,true⟩,⟨some 42,.mov (.t 59),none,true⟩]))))))) (.seq (.region [ ⟨some 60,.mov (.t 9),none,true⟩,⟨some 61,.mov (.t 10),none,true⟩,⟨some 2,.mov (.t 60),none,true⟩,⟨some 3,.mov (.t 61),none,true⟩]) (.ret))))))), [.t 2, .t 3]⟩
/-- deemster/hist.ops$1, sharing -/
def S146 : AF := ⟨.seq (.region [ ⟨some 7,.fieldAddr 2 (.t 1),none,true⟩,⟨some 8,.load none (.t 7),none,true⟩,⟨some 9,.lenSl (.t 8),none,true⟩,⟨some 10,.mov (.c (.int .i64 0)),none,true⟩]) (.block 0 (.loop (.seq (.region [ ⟨some 11,.bin .lss (.t 10) (.t 9),none,true⟩]) (.seq (.cond (.t 11) (.skip) (.exit 0)) (.seq (.block 1 (.seq (.region [ ⟨some 12,.mov (.t 10),none,true⟩,⟨some 13,.idxSl 3 (.t 8) (.t 10),none,true⟩,⟨some 14,.load (some 3) (.t 13),none,true⟩,⟨some 4,.alloc [(.int .i64 0), (.int .i64 0), (.sl none true 0 [])],none,true⟩,⟨some 3,.mov (.t 12),none,true⟩,⟨none, .store 3 (.t 4) (.t 14),none,true⟩]) (.seq (.region [ ⟨some 15,.fieldAddr 2 (.t 4),none,true⟩,⟨some 16,.load none (.t 15),none,true⟩,⟨some 17,.lenSl (.t 16),none,true⟩,⟨some 18,.mov (.c (.int .i64 0)),none,true⟩]) (.block 2 (.loop (.seq (.region [ ⟨some 19,.bin .lss (.t 18) (.t 17),none,true⟩]) (.seq (.cond (.t 19) (.skip) (.exit 2)) (.seq (.block 3 (.seq (.region [ ⟨some 20,.mov (.t 18),none,true⟩,⟨some 21,.idxSl 4 (.t 16) (.t 18),none,true⟩,⟨some 22,.load (some 4) (.t 21),none,true⟩,⟨some 6,.alloc [(.bool false), (.int .i64 0), (.int .i64 0), (.int .i64 0)],none,true⟩,⟨some 5,.mov (.t 20),none,true⟩,⟨none, .store 4 (.t 6) (.t 22),none,true⟩]) (.seq (.region [ ⟨some 23,.mov (.t 0),none,true⟩,⟨some 24,.mov (.t 3),none,true⟩,⟨some 25,.mov (.t 5),none,true⟩,⟨some 26,.build [(.int .i64 0), (.int .i64 0)] [(0, 1, (.t 24)), (1, 1, (.t 25))],none,true⟩,⟨some 27,.load (some 4) (.t 6),none,true⟩,⟨some 28,.callV (.t 23) [(.t 26), (.t 27)],none,true⟩,⟨some 29,.un .not (.t 28),none,true⟩]) (.cond (.t 29) (.ret) (.skip))))) (.region [ ⟨some 30,.bin .add (.t 18) (.c (.int .i64 1)),none,true⟩,⟨some 18,.mov (.t 30),none,true⟩]))))))))) (.region [ ⟨some 31,.bin .add (.t 10) (.c (.int .i64 1)),none,true⟩,⟨some 10,.mov (.t 31),none,true⟩])))))), []⟩
/-- deemster/pair.made, sharing -/
def S149 : AF := ⟨.seq (.region [ ⟨some 2,.mov (.c .nilptr),none,true⟩,⟨some 3,.mov (.c (.int .i64 0)),none,true⟩,⟨some 4,.mov (.c (.int .i64 0)),none,true⟩]) (.seq (.region [ ⟨some 9,.mkMap,none,true⟩,⟨some 10,.mkMap,none,true⟩,⟨some 11,.mkMap,none,true⟩,⟨some 12,.build [(.sl none true 0 []), .nilmap, .nilmap, .nilmap] [(1, 1, (.t 9)), (2, 1, (.t 10)), (3, 1, (.t 11))],none,true⟩,⟨some 13,.box 4 (.t 12),none,true⟩,⟨some 5,.mov (.t 13),none,true⟩]) (.seq (.seq (.region [ ⟨some 14,.mov (.t 0),none,true⟩,⟨some 15,.lenSl (.t 14),none,true⟩,⟨some 16,.mov (.c (.int .i64 0)),none,true⟩]) (.block 0 (.loop (.seq (.region [ ⟨some 17,.bin .lss (.t 16) (.t 15),none,true⟩]) (.seq (.cond (.t 17) (.skip) (.exit 0)) (.seq (.block 1 (.seq (.region [ ⟨some 18,.idxSl 6 (.t 14) (.t 16),none,true⟩,⟨some 19,.load (some 6) (.t 18),none,true⟩,⟨some 7,.alloc [(.int .i64 0), (.str []), (.str []), (.int .i64 0), (.int .i64 0), (.int .i64 0)],none,true⟩,⟨none, .store 6 (.t 7) (.t 19),none,true⟩]) (.seq (.region [ ⟨some 20,.mov (.t 5),none,true⟩,⟨some 21,.load (some 6) (.t 7),none,true⟩,⟨some 22,.call 196 [(.t 20), (.t 21)],none,true⟩,⟨some 8,.mov (.t 22),none,true⟩]) (.seq (.region [ ⟨some 23,.mov (.t 8),none,true⟩,⟨some 24,.bin .neq (.t 23) (.c (.int .i64 0)),none,true⟩]) (.cond (.t 24) (.seq (.draw [ ⟨some 25,.mov (.t 5),none,true⟩,⟨some 26,.fieldAddr 5 (.t 7),none,true⟩,⟨some 27,.load none (.t 26),none,true⟩,⟨some 28,.mov (.t 8),none,true⟩,⟨some 2,.mov (.t 25),none,true⟩,⟨some 3,.mov (.t 27),none,true⟩,⟨some 4,.mov (.t 28),none,true⟩] []) (.ret)) (.skip)))))) (.region [ ⟨some 29,.bin .add (.t 16) (.c (.int .i64 1)),none,true⟩,⟨some 16,.mov (.t 29),none,true⟩]))))))) (.seq (.region [ ⟨some 30,.mov (.t 5),none,true⟩,⟨some 2,.mov (.t 30),none,true⟩,⟨some 3,.mov (.c (.int .i64 0)),none,true⟩,⟨some 4,.mov (.c (.int .i64 0)),none,true⟩]) (.ret)))), [.t 2, .t 3, .t 4]⟩
/-- deemster/pair.names, sharing -/
def S150 : AF := ⟨.seq (.region [ ⟨some 2,.mov (.c (.sl none true 0 [])),none,true⟩]) (.seq (.region [ ⟨some 3,.mov (.c (.sl none true 0 [])),none,true⟩]) (.seq (.seq (.region [ ⟨some 5,.mov (.t 0),none,true⟩,⟨some 6,.range false (.t 5),none,true⟩]) (.block 0 (.loop (.seq (.region [ ⟨some 7,.nextMap (.t 6),none,true⟩,⟨some 8,.extract (.t 7) 0,none,true⟩]) (.seq (.cond (.t 8) (.skip) (.exit 0)) (.block 1 (.seq (.region [ ⟨some 9,.entry (.t 6),none,true⟩,⟨some 10,.extract (.t 9) 0,none,true⟩,⟨some 4,.mov (.t 10),none,true⟩]) (.region [ ⟨some 11,.mov (.t 3),none,true⟩,⟨some 12,.mov (.t 4),none,true⟩,⟨some 13,.buildSl true 1 [(.str [])] [(0, 1, (.t 12))] 1,none,true⟩,⟨some 14,.append true 1 16 (.t 11) (.t 13),none,true⟩,⟨some 3,.mov (.t 14),none,true⟩])))))))) (.seq (.region [ ⟨some 15,.mov (.t 3),none,true⟩,⟨some 16,.call 197 [(.t 15)],none,true⟩,⟨some 2,.mov (.t 16),none,true⟩]) (.ret)))), [.t 2]⟩
/-- slices.IndexFunc[[]deemster/api.Txn,deemster/api.Txn], sharing -/
def S154 : AF := ⟨.seq (.region [ ⟨some 4,.mov (.c (.int .i64 0)),none,true⟩]) (.seq (.seq (.region [ ⟨some 6,.mov (.t 0),none,true⟩,⟨some 7,.lenSl (.t 6),none,true⟩,⟨some 8,.mov (.c (.int .i64 0)),none,true⟩]) (.block 0 (.loop (.seq (.region [ ⟨some 9,.bin .lss (.t 8) (.t 7),none,true⟩]) (.seq (.cond (.t 9) (.skip) (.exit 0)) (.seq (.block 1 (.seq (.region [ ⟨some 10,.mov (.t 8),none,true⟩,⟨some 5,.mov (.t 10),none,true⟩]) (.seq (.region [ ⟨some 11,.mov (.t 1),none,true⟩,⟨some 12,.mov (.t 0),none,true⟩,⟨some 13,.mov (.t 5),none,true⟩,⟨some 14,.idxSl 3 (.t 12) (.t 13),none,true⟩,⟨some 15,.load (some 3) (.t 14),none,true⟩,⟨some 16,.callV (.t 11) [(.t 15)],none,true⟩]) (.cond (.t 16) (.seq (.region [ ⟨some 17,.mov (.t 5),none,true⟩,⟨some 4,.mov (.t 17),none,true⟩]) (.ret)) (.skip))))) (.region [ ⟨some 18,.bin .add (.t 8) (.c (.int .i64 1)),none,true⟩,⟨some 8,.mov (.t 18),none,true⟩]))))))) (.seq (.region [ ⟨some 4,.mov (.c (.int .i64 (-1))),none,true⟩]) (.ret))), [.t 4]⟩
/-- slices.IndexFunc[[]deemster/api.Op,deemster/api.Op], sharing -/
def S156 : AF := ⟨.seq (.region [ ⟨some 4,.mov (.c (.int .i64 0)),none,true⟩]) (.seq (.seq (.region [ ⟨some 6,.mov (.t 0),none,true⟩,⟨some 7,.lenSl (.t 6),none,true⟩,⟨some 8,.mov (.c (.int .i64 0)),none,true⟩]) (.block 0 (.loop (.seq (.region [ ⟨some 9,.bin .lss (.t 8) (.t 7),none,true⟩]) (.seq (.cond (.t 9) (.skip) (.exit 0)) (.seq (.block 1 (.seq (.region [ ⟨some 10,.mov (.t 8),none,true⟩,⟨some 5,.mov (.t 10),none,true⟩]) (.seq (.region [ ⟨some 11,.mov (.t 1),none,true⟩,⟨some 12,.mov (.t 0),none,true⟩,⟨some 13,.mov (.t 5),none,true⟩,⟨some 14,.idxSl 4 (.t 12) (.t 13),none,true⟩,⟨some 15,.load (some 4) (.t 14),none,true⟩,⟨some 16,.callV (.t 11) [(.t 15)],none,true⟩]) (.cond (.t 16) (.seq (.region [ ⟨some 17,.mov (.t 5),none,true⟩,⟨some 4,.mov (.t 17),none,true⟩]) (.ret)) (.skip))))) (.region [ ⟨some 18,.bin .add (.t 8) (.c (.int .i64 1)),none,true⟩,⟨some 8,.mov (.t 18),none,true⟩]))))))) (.seq (.region [ ⟨some 4,.mov (.c (.int .i64 (-1))),none,true⟩]) (.ret))), [.t 4]⟩
/-- (*deemster/pair.maker).put, sharing -/
def S196 : AF := ⟨.seq (.region [ ⟨some 3,.box 6 (.t 1),none,true⟩,⟨some 4,.mov (.c (.int .i64 0)),none,true⟩]) (.seq (.seq (.region [ ⟨some 6,.load (some 6) (.t 3),none,true⟩,⟨some 7,.call 235 [(.t 6)],none,true⟩,⟨some 8,.un .not (.t 7),none,true⟩]) (.cond (.t 8) (.seq (.region [ ⟨some 4,.mov (.c (.int .i64 4)),none,true⟩]) (.ret)) (.skip))) (.seq (.seq (.region [ ⟨some 9,.fieldAddr 0 (.t 3),none,true⟩,⟨some 10,.load none (.t 9),none,true⟩,⟨some 11,.bin .eql (.t 10) (.c (.int .i64 1)),none,true⟩]) (.cond (.t 11) (.seq (.region [ ⟨some 12,.mov (.t 0),none,true⟩,⟨some 13,.load (some 6) (.t 3),none,true⟩,⟨some 14,.call 236 [(.t 12), (.t 13)],none,true⟩,⟨some 4,.mov (.t 14),none,true⟩]) (.ret)) (.skip))) (.seq (.draw [ ⟨some 15,.mov (.t 0),none,true⟩,⟨some 16,.nilCheck (.t 15),none,true⟩,⟨some 17,.fieldAddr 1 (.t 16),none,true⟩,⟨some 18,.load none (.t 17),none,true⟩,⟨some 19,.fieldAddr 1 (.t 3),none,true⟩,⟨some 20,.load none (.t 19),none,true⟩,⟨some 21,.lookup .str .nilptr false (.t 18) (.t 20),none,true⟩,⟨some 5,.mov (.t 21),none,true⟩] []) (.seq (.block 0 (.seq (.region [ ⟨some 27,.mov (.t 5),none,true⟩,⟨some 28,.eq false .ptr (.t 27) (.c .nilptr),none,true⟩,⟨some 26,.mov (.t 28),none,true⟩]) (.cond (.t 26) (.seq (.region [ ⟨some 4,.mov (.c (.int .i64 10)),none,true⟩]) (.ret)) (.seq (.region [ ⟨some 30,.fieldAddr 0 (.t 3),none,true⟩,⟨some 31,.load none (.t 30),none,true⟩,⟨some 32,.bin .eql (.t 31) (.c (.int .i64 2)),none,true⟩,⟨some 33,.mov (.t 32),none,true⟩,⟨some 34,.fieldAddr 0 (.t 3), (some (33, false)), true⟩,⟨some 35,.load none (.t 34), (some (33, false)), true⟩,⟨some 36,.bin .eql (.t 35) (.c (.int .i64 3)), (some (33, false)), true⟩,⟨some 37,.pick (.t 33) (.c (.bool true)) (.t 36),none,true⟩,⟨some 29,.mov (.t 37),none,true⟩]) (.cond (.t 29) (.seq (.region [ ⟨some 38,.mov (.t 0),none,true⟩,⟨some 39,.mov (.t 5),none,true⟩,⟨some 40,.load (some 6) (.t 3),none,true⟩,⟨some 41,.call 237 [(.t 38), (.t 39), (.t 40)],none,true⟩,⟨some 4,.mov (.t 41),none,true⟩]) (.ret)) (.seq (.region [ ⟨some 43,.fieldAddr 0 (.t 3),none,true⟩,⟨some 44,.load none (.t 43),none,true⟩,⟨some 45,.bin .eql (.t 44) (.c (.int .i64 4)),none,true⟩,⟨some 42,.mov (.t 45),none,true⟩]) (.cond (.t 42) (.region [ ⟨some 46,.mov (.t 5),none,true⟩,⟨some 47,.nilCheck (.t 46),none,true⟩,⟨some 48,.fieldAddr 3 (.t 47),none,true⟩,⟨some 49,.fieldAddr 1 (.t 48),none,true⟩,⟨none, .store 1 (.t 49) (.c (.int .i64 1)),none,true⟩]) (.seq (.region [ ⟨some 51,.fieldAddr 0 (.t 3),none,true⟩,⟨some 52,.load none (.t 51),none,true⟩,⟨some 53,.bin .eql (.t 52) (.c (.int .i64 5)),none,true⟩,⟨some 50,.mov (.t 53),none,true⟩]) (.cond (.t 50) (.region [ ⟨some 54,.mov (.t 5),none,true⟩,⟨some 55,.nilCheck (.t 54),none,true⟩,⟨some 56,.fieldAddr 3 (.t 55),none,true⟩,⟨some 57,.fieldAddr 1 (.t 56),none,true⟩,⟨none, .store 1 (.t 57) (.c (.int .i64 2)),none,true⟩]) (.region [ ⟨some 22,.mov (.t 5),none,true⟩,⟨some 23,.nilCheck (.t 22),none,true⟩,⟨some 24,.fieldAddr 3 (.t 23),none,true⟩,⟨some 25,.fieldAddr 1 (.t 24),none,true⟩,⟨none, .store 1 (.t 25) (.c (.int .i64 3)),none,true⟩])))))))))) (.seq (.draw [ ⟨some 58,.mov (.t 0),none,true⟩,⟨some 59,.nilCheck (.t 58),none,true⟩,⟨some 60,.fieldAddr 1 (.t 59),none,true⟩,⟨some 61,.load none (.t 60),none,true⟩,⟨some 62,.fieldAddr 1 (.t 3),none,true⟩,⟨some 63,.load none (.t 62),none,true⟩,⟨none, .mapDel .str (.t 61) (.t 63),none,true⟩] []) (.seq (.region [ ⟨some 4,.mov (.c (.int .i64 0)),none,true⟩]) (.ret))))))), [.t 4]⟩
/-- deemster/table.Make, sharing -/
def S197 : AF := ⟨.seq (.region [ ⟨some 2,.mov (.c (.sl none true 0 [])),none,true⟩]) (.seq (.region [ ⟨some 3,.mov (.t 0),none,true⟩,⟨some 4,.call 238 [(.t 3)],none,true⟩,⟨some 2,.mov (.t 4),none,true⟩]) (.ret)), [.t 2]⟩
/-- (*deemster/pair.maker).begin, sharing -/
def S236 : AF := ⟨.seq (.region [ ⟨some 3,.box 6 (.t 1),none,true⟩,⟨some 4,.mov (.c (.int .i64 0)),none,true⟩]) (.seq (.block 0 (.seq (.draw [ ⟨some 7,.mov (.t 0),none,true⟩,⟨some 8,.nilCheck (.t 7),none,true⟩,⟨some 9,.fieldAddr 1 (.t 8),none,true⟩,⟨some 10,.load none (.t 9),none,true⟩,⟨some 11,.fieldAddr 1 (.t 3),none,true⟩,⟨some 12,.load none (.t 11),none,true⟩,⟨some 13,.lookup .str .nilptr false (.t 10) (.t 12),none,true⟩,⟨some 14,.eq true .ptr (.t 13) (.c .nilptr),none,true⟩,⟨some 6,.mov (.t 14),none,true⟩] []) (.cond (.t 6) (.seq (.region [ ⟨some 4,.mov (.c (.int .i64 9)),none,true⟩]) (.ret)) (.seq (.draw [ ⟨some 16,.mov (.t 0),none,true⟩,⟨some 17,.nilCheck (.t 16),none,true⟩,⟨some 18,.fieldAddr 2 (.t 17),none,true⟩,⟨some 19,.load none (.t 18),none,true⟩,⟨some 20,.fieldAddr 1 (.t 3),none,true⟩,⟨some 21,.load none (.t 20),none,true⟩,⟨some 22,.lookup .str (.int .i64 0) false (.t 19) (.t 21),none,true⟩,⟨some 23,.bin .eql (.t 22) (.c (.int .i64 0)),none,true⟩,⟨some 24,.mov (.t 23),none,true⟩,⟨some 25,.mov (.t 0), (some (24, true)), true⟩,⟨some 26,.nilCheck (.t 25), (some (24, true)), true⟩,⟨some 27,.fieldAddr 2 (.t 26), (some (24, true)), true⟩,⟨some 28,.load none (.t 27), (some (24, true)), true⟩,⟨some 29,.lenMap (.t 28), (some (24, true)), true⟩,⟨some 30,.bin .eql (.t 29) (.c (.int .i64 20)), (some (24, true)), true⟩,⟨some 31,.pick (.t 24) (.t 30) (.c (.bool false)),none,true⟩,⟨some 32,.mov (.t 31),none,true⟩,⟨some 33,.mov (.t 0), (some (32, false)), true⟩,⟨some 34,.nilCheck (.t 33), (some (32, false)), true⟩,⟨some 35,.fieldAddr 0 (.t 34), (some (32, false)), true⟩,⟨some 36,.load none (.t 35), (some (32, false)), true⟩,⟨some 37,.lenSl (.t 36), (some (32, false)), true⟩,⟨some 38,.bin .eql (.t 37) (.c (.int .i64 40)), (some (32, false)), true⟩,⟨some 39,.pick (.t 32) (.c (.bool true)) (.t 38),none,true⟩,⟨some 15,.mov (.t 39),none,true⟩] []) (.cond (.t 15) (.seq (.region [ ⟨some 4,.mov (.c (.int .i64 7)),none,true⟩]) (.ret)) (.skip)))))) (.seq (.region [ ⟨some 40,.fieldAddr 1 (.t 3),none,true⟩,⟨some 41,.load none (.t 40),none,true⟩,⟨some 42,.fieldAddr 5 (.t 3),none,true⟩,⟨some 43,.load none (.t 42),none,true⟩,⟨some 44,.build [(.str []), (.sl none true 0 []), (.int .i64 0), (.int .i64 0), (.int .i64 0), (.sl none true 0 [])] [(0, 1, (.t 41)), (2, 1, (.t 43))],none,true⟩,⟨some 45,.box 6 (.t 44),none,true⟩,⟨some 5,.mov (.t 45),none,true⟩]) (.seq (.region [ ⟨some 46,.mov (.t 0),none,true⟩,⟨some 47,.mov (.t 0),none,true⟩,⟨some 48,.nilCheck (.t 47),none,true⟩,⟨some 49,.fieldAddr 0 (.t 48),none,true⟩,⟨some 50,.load none (.t 49),none,true⟩,⟨some 51,.mov (.t 5),none,true⟩,⟨some 52,.buildSl true 1 [.nilptr] [(0, 1, (.t 51))] 1,none,true⟩,⟨some 53,.append true 1 8 (.t 50) (.t 52),none,true⟩,⟨some 54,.nilCheck (.t 46),none,true⟩,⟨some 55,.fieldAddr 0 (.t 54),none,true⟩,⟨none, .store 1 (.t 55) (.t 53),none,true⟩]) (.seq (.draw [ ⟨some 56,.mov (.t 0),none,true⟩,⟨some 57,.nilCheck (.t 56),none,true⟩,⟨some 58,.fieldAddr 1 (.t 57),none,true⟩,⟨some 59,.load none (.t 58),none,true⟩,⟨some 60,.fieldAddr 1 (.t 3),none,true⟩,⟨some 61,.load none (.t 60),none,true⟩,⟨some 62,.mov (.t 5),none,true⟩,⟨none, .mapSet .str (.t 59) (.t 61) (.t 62),none,true⟩] []) (.seq (.draw [ ⟨some 63,.mov (.t 0),none,true⟩,⟨some 64,.nilCheck (.t 63),none,true⟩,⟨some 65,.fieldAddr 2 (.t 64),none,true⟩,⟨some 66,.load none (.t 65),none,true⟩,⟨some 67,.fieldAddr 1 (.t 3),none,true⟩,⟨some 68,.load none (.t 67),none,true⟩,⟨some 69,.lookup .str (.int .i64 0) false (.t 66) (.t 68),none,true⟩,⟨some 70,.bin .add (.t 69) (.c (.int .i64 1)),none,true⟩,⟨none, .mapSet .str (.t 66) (.t 68) (.t 70),none,true⟩] []) (.seq (.region [ ⟨some 4,.mov (.c (.int .i64 0)),none,true⟩]) (.ret))))))), [.t 4]⟩
/-- deemster/name.Sorted, sharing -/
def S238 : AF := ⟨.seq (.region [ ⟨some 2,.mov (.c (.sl none true 0 [])),none,true⟩]) (.seq (.region [ ⟨some 3,.mov (.c (.sl none true 0 [])),none,true⟩]) (.seq (.seq (.region [ ⟨some 6,.mov (.t 0),none,true⟩,⟨some 7,.lenSl (.t 6),none,true⟩,⟨some 8,.mov (.c (.int .i64 0)),none,true⟩]) (.block 0 (.loop (.seq (.region [ ⟨some 9,.bin .lss (.t 8) (.t 7),none,true⟩]) (.seq (.cond (.t 9) (.skip) (.exit 0)) (.seq (.block 1 (.seq (.region [ ⟨some 10,.idxSl 1 (.t 6) (.t 8),none,true⟩,⟨some 11,.load none (.t 10),none,true⟩,⟨some 5,.mov (.t 11),none,true⟩]) (.seq (.region [ ⟨some 12,.mov (.t 5),none,true⟩,⟨some 13,.call 194 [(.t 12)],none,true⟩]) (.cond (.t 13) (.region [ ⟨some 14,.mov (.t 3),none,true⟩,⟨some 15,.mov (.t 5),none,true⟩,⟨some 16,.buildSl true 1 [(.str [])] [(0, 1, (.t 15))] 1,none,true⟩,⟨some 17,.append true 1 16 (.t 14) (.t 16),none,true⟩,⟨some 3,.mov (.t 17),none,true⟩]) (.skip))))) (.region [ ⟨some 18,.bin .add (.t 8) (.c (.int .i64 1)),none,true⟩,⟨some 8,.mov (.t 18),none,true⟩]))))))) (.seq (.region [ ⟨some 19,.mov (.t 3),none,true⟩,⟨some 20,.call 254 [(.t 19), (.c (.fn (.func 239) [] []))],none,true⟩]) (.seq (.region [ ⟨some 21,.mov (.t 3),none,true⟩,⟨some 22,.call 255 [(.t 21)],none,true⟩,⟨some 2,.mov (.t 22),none,true⟩]) (.ret))))), [.t 2]⟩
/-- slices.SortFunc[[]string,string], sharing -/
def S254 : AF := ⟨.seq (.region [ ⟨some 5,.mov (.t 0),none,true⟩,⟨some 6,.lenSl (.t 5),none,true⟩,⟨some 4,.mov (.t 6),none,true⟩]) (.region [ ⟨some 7,.mov (.t 0),none,true⟩,⟨some 8,.mov (.t 4),none,true⟩,⟨some 9,.mov (.t 4),none,true⟩,⟨some 10,.conv .u64 (.t 9),none,true⟩,⟨some 11,.call 118 [(.t 10)],none,true⟩,⟨some 12,.mov (.t 1),none,true⟩,⟨some 13,.call 264 [(.t 7), (.c (.int .i64 0)), (.t 8), (.t 11), (.t 12)],none,true⟩]), []⟩
/-- slices.Compact[[]string,string], sharing -/
def S255 : AF := ⟨.seq (.region [ ⟨some 2,.mov (.c (.sl none true 0 [])),none,true⟩]) (.seq (.seq (.region [ ⟨some 6,.mov (.t 0),none,true⟩,⟨some 7,.lenSl (.t 6),none,true⟩,⟨some 8,.bin .lss (.t 7) (.c (.int .i64 2)),none,true⟩]) (.cond (.t 8) (.seq (.region [ ⟨some 9,.mov (.t 0),none,true⟩,⟨some 2,.mov (.t 9),none,true⟩]) (.ret)) (.skip))) (.seq (.seq (.region [ ⟨some 3,.mov (.c (.int .i64 1)),none,true⟩]) (.block 0 (.loop (.seq (.seq (.region [ ⟨some 10,.mov (.t 3),none,true⟩,⟨some 11,.mov (.t 0),none,true⟩,⟨some 12,.lenSl (.t 11),none,true⟩,⟨some 13,.bin .lss (.t 10) (.t 12),none,true⟩]) (.cond (.t 13) (.skip) (.exit 0))) (.seq (.block 1 (.seq (.draw [ ⟨some 16,.mov (.t 0),none,true⟩,⟨some 17,.mov (.t 3),none,true⟩,⟨some 18,.idxSl 1 (.t 16) (.t 17),none,true⟩,⟨some 19,.load none (.t 18),none,true⟩,⟨some 20,.mov (.t 0),none,true⟩,⟨some 21,.mov (.t 3),none,true⟩,⟨some 22,.bin .sub (.t 21) (.c (.int .i64 1)),none,true⟩,⟨some 23,.idxSl 1 (.t 20) (.t 22),none,true⟩,⟨some 24,.load none (.t 23),none,true⟩,⟨some 25,.bin .eql (.t 19) (.t 24),none,true⟩] []) (.cond (.t 25) (.seq (.region [ ⟨some 26,.mov (.t 0),none,true⟩,⟨some 27,.mov (.t 3),none,true⟩,⟨some 28,.slSl 1 (.t 26) (some (.t 27)) none,none,true⟩,⟨some 4,.mov (.t 28),none,true⟩]) (.seq (.seq (.region [ ⟨some 5,.mov (.c (.int .i64 1)),none,true⟩]) (.block 2 (.loop (.seq (.seq (.region [ ⟨some 29,.mov (.t 5),none,true⟩,⟨some 30,.mov (.t 4),none,true⟩,⟨some 31,.lenSl (.t 30),none,true⟩,⟨some 32,.bin .lss (.t 29) (.t 31),none,true⟩]) (.cond (.t 32) (.skip) (.exit 2))) (.seq (.block 3 (.seq (.draw [ ⟨some 35,.mov (.t 4),none,true⟩,⟨some 36,.mov (.t 5),none,true⟩,⟨some 37,.idxSl 1 (.t 35) (.t 36),none,true⟩,⟨some 38,.load none (.t 37),none,true⟩,⟨some 39,.mov (.t 4),none,true⟩,⟨some 40,.mov (.t 5),none,true⟩,⟨some 41,.bin .sub (.t 40) (.c (.int .i64 1)),none,true⟩,⟨some 42,.idxSl 1 (.t 39) (.t 41),none,true⟩,⟨some 43,.load none (.t 42),none,true⟩,⟨some 44,.bin .neq (.t 38) (.t 43),none,true⟩] []) (.cond (.t 44) (.seq (.region [ ⟨some 45,.mov (.t 0),none,true⟩,⟨some 46,.mov (.t 3),none,true⟩,⟨some 47,.mov (.t 4),none,true⟩,⟨some 48,.mov (.t 5),none,true⟩,⟨some 49,.idxSl 1 (.t 47) (.t 48),none,true⟩,⟨some 50,.load none (.t 49),none,true⟩,⟨some 51,.idxSl 1 (.t 45) (.t 46),none,true⟩,⟨none, .store 1 (.t 51) (.t 50),none,true⟩]) (.region [ ⟨some 52,.mov (.t 3),none,true⟩,⟨some 53,.bin .add (.t 52) (.c (.int .i64 1)),none,true⟩,⟨some 3,.mov (.t 53),none,true⟩])) (.skip)))) (.region [ ⟨some 33,.mov (.t 5),none,true⟩,⟨some 34,.bin .add (.t 33) (.c (.int .i64 1)),none,true⟩,⟨some 5,.mov (.t 34),none,true⟩])))))) (.seq (.region [ ⟨some 54,.mov (.t 0),none,true⟩,⟨some 55,.mov (.t 3),none,true⟩,⟨some 56,.slSl 1 (.t 54) (some (.t 55)) none,none,true⟩,⟨none, .clear 1 [(.str [])] (.t 56),none,true⟩]) (.seq (.region [ ⟨some 57,.mov (.t 0),none,true⟩,⟨some 58,.mov (.t 3),none,true⟩,⟨some 59,.slSl 1 (.t 57) none (some (.t 58)),none,true⟩,⟨some 2,.mov (.t 59),none,true⟩]) (.ret))))) (.skip)))) (.region [ ⟨some 14,.mov (.t 3),none,true⟩,⟨some 15,.bin .add (.t 14) (.c (.int .i64 1)),none,true⟩,⟨some 3,.mov (.t 15),none,true⟩])))))) (.seq (.region [ ⟨some 60,.mov (.t 0),none,true⟩,⟨some 2,.mov (.t 60),none,true⟩]) (.ret)))), [.t 2]⟩
/-- slices.pdqsortCmpFunc[string], sharing -/
def S264 : AF := ⟨.seq (.region [ ⟨some 10,.mov (.c (.bool true)),none,true⟩]) (.seq (.region [ ⟨some 11,.mov (.c (.bool true)),none,true⟩]) (.block 0 (.loop (.block 1 (.seq (.region [ ⟨some 21,.mov (.t 2),none,true⟩,⟨some 22,.mov (.t 1),none,true⟩,⟨some 23,.bin .sub (.t 21) (.t 22),none,true⟩,⟨some 12,.mov (.t 23),none,true⟩]) (.seq (.seq (.region [ ⟨some 24,.mov (.t 12),none,true⟩,⟨some 25,.bin .leq (.t 24) (.c (.int .i64 12)),none,true⟩]) (.cond (.t 25) (.seq (.region [ ⟨some 26,.mov (.t 0),none,true⟩,⟨some 27,.mov (.t 1),none,true⟩,⟨some 28,.mov (.t 2),none,true⟩,⟨some 29,.mov (.t 4),none,true⟩,⟨some 30,.call 272 [(.t 26), (.t 27), (.t 28), (.t 29)],none,true⟩]) (.ret)) (.skip))) (.seq (.seq (.region [ ⟨some 31,.mov (.t 3),none,true⟩,⟨some 32,.bin .eql (.t 31) (.c (.int .i64 0)),none,true⟩]) (.cond (.t 32) (.seq (.region [ ⟨some 33,.mov (.t 0),none,true⟩,⟨some 34,.mov (.t 1),none,true⟩,⟨some 35,.mov (.t 2),none,true⟩,⟨some 36,.mov (.t 4),none,true⟩,⟨some 37,.call 273 [(.t 33), (.t 34), (.t 35), (.t 36)],none,true⟩]) (.ret)) (.skip))) (.seq (.seq (.region [ ⟨some 38,.mov (.t 10),none,true⟩,⟨some 39,.un .not (.t 38),none,true⟩]) (.cond (.t 39) (.seq (.region [ ⟨some 40,.mov (.t 0),none,true⟩,⟨some 41,.mov (.t 1),none,true⟩,⟨some 42,.mov (.t 2),none,true⟩,⟨some 43,.mov (.t 4),none,true⟩,⟨some 44,.call 274 [(.t 40), (.t 41), (.t 42), (.t 43)],none,true⟩]) (.region [ ⟨some 45,.mov (.t 3),none,true⟩,⟨some 46,.bin .sub (.t 45) (.c (.int .i64 1)),none,true⟩,⟨some 3,.mov (.t 46),none,true⟩])) (.skip))) (.seq (.region [ ⟨some 48,.mov (.t 0),none,true⟩,⟨some 49,.mov (.t 1),none,true⟩,⟨some 50,.mov (.t 2),none,true⟩,⟨some 51,.mov (.t 4),none,true⟩,⟨some 52,.call 275 [(.t 48), (.t 49), (.t 50), (.t 51)],none,true⟩,⟨some 47,.mov (.t 52),none,true⟩,⟨some 53,.extract (.t 47) 0,none,true⟩,⟨some 54,.extract (.t 47) 1,none,true⟩,⟨some 13,.mov (.t 53),none,true⟩,⟨some 14,.mov (.t 54),none,true⟩]) (.seq (.seq (.region [ ⟨some 55,.mov (.t 14),none,true⟩,⟨some 56,.bin .eql (.t 55) (.c (.int .i64 2)),none,true⟩]) (.cond (.t 56) (.seq (.region [ ⟨some 57,.mov (.t 0),none,true⟩,⟨some 58,.mov (.t 1),none,true⟩,⟨some 59,.mov (.t 2),none,true⟩,⟨some 60,.mov (.t 4),none,true⟩,⟨some 61,.call 276 [(.t 57), (.t 58), (.t 59), (.t 60)],none,true⟩]) (.seq (.region [ ⟨some 62,.mov (.t 2),none,true⟩,⟨some 63,.bin .sub (.t 62) (.c (.int .i64 1)),none,true⟩,⟨some 64,.mov (.t 13),none,true⟩,⟨some 65,.mov (.t 1),none,true⟩,⟨some 66,.bin .sub (.t 64) (.t 65),none,true⟩,⟨some 67,.bin .sub (.t 63) (.t 66),none,true⟩,⟨some 13,.mov (.t 67),none,true⟩]) (.region [ ⟨some 14,.mov (.c (.int .i64 1)),none,true⟩]))) (.skip))) (.seq (.seq (.region [ ⟨some 68,.mov (.t 10),none,true⟩,⟨some 69,.mov (.t 68),none,true⟩,⟨some 70,.mov (.t 11), (some (69, true)), true⟩,⟨some 71,.pick (.t 69) (.t 70) (.c (.bool false)),none,true⟩,⟨some 72,.mov (.t 71),none,true⟩,⟨some 73,.mov (.t 14), (some (72, true)), true⟩,⟨some 74,.bin .eql (.t 73) (.c (.int .i64 1)), (some (72, true)), true⟩,⟨some 75,.pick (.t 72) (.t 74) (.c (.bool false)),none,true⟩]) (.cond (.t 75) (.seq (.region [ ⟨some 76,.mov (.t 0),none,true⟩,⟨some 77,.mov (.t 1),none,true⟩,⟨some 78,.mov (.t 2),none,true⟩,⟨some 79,.mov (.t 4),none,true⟩,⟨some 80,.call 277 [(.t 76), (.t 77), (.t 78), (.t 79)],none,true⟩]) (.cond (.t 80) (.ret) (.skip))) (.skip))) (.seq (.seq (.seq (.draw [ ⟨some 81,.mov (.t 1),none,true⟩,⟨some 82,.bin .gtr (.t 81) (.c (.int .i64 0)),none,true⟩,⟨some 83,.mov (.t 82),none,true⟩,⟨some 84,.mov (.t 4), (some (83, true)), true⟩,⟨some 85,.mov (.t 0), (some (83, true)), true⟩,⟨some 86,.mov (.t 1), (some (83, true)), true⟩,⟨some 87,.bin .sub (.t 86) (.c (.int .i64 1)), (some (83, true)), true⟩,⟨some 88,.idxSl 1 (.t 85) (.t 87), (some (83, true)), true⟩,⟨some 89,.load none (.t 88), (some (83, true)), true⟩,⟨some 90,.mov (.t 0), (some (83, true)), true⟩,⟨some 91,.mov (.t 13), (some (83, true)), true⟩,⟨some 92,.idxSl 1 (.t 90) (.t 91), (some (83, true)), true⟩,⟨some 93,.load none (.t 92), (some (83, true)), true⟩] []) (.region [ ⟨some 94,.callV (.t 84) [(.t 89), (.t 93)], (some (83, true)), true⟩,⟨some 95,.bin .lss (.t 94) (.c (.int .i64 0)), (some (83, true)), true⟩,⟨some 96,.un .not (.t 95), (some (83, true)), true⟩,⟨some 97,.pick (.t 83) (.t 96) (.c (.bool false)),none,true⟩])) (.cond (.t 97) (.seq (.region [ ⟨some 98,.mov (.t 0),none,true⟩,⟨some 99,.mov (.t 1),none,true⟩,⟨some 100,.mov (.t 2),none,true⟩,⟨some 101,.mov (.t 13),none,true⟩,⟨some 102,.mov (.t 4),none,true⟩,⟨some 103,.call 278 [(.t 98), (.t 99), (.t 100), (.t 101), (.t 102)],none,true⟩,⟨some 15,.mov (.t 103),none,true⟩]) (.seq (.region [ ⟨some 104,.mov (.t 15),none,true⟩,⟨some 1,.mov (.t 104),none,true⟩]) (.exit 1))) (.skip))) (.seq (.region [ ⟨some 106,.mov (.t 0),none,true⟩,⟨some 107,.mov (.t 1),none,true⟩,⟨some 108,.mov (.t 2),none,true⟩,⟨some 109,.mov (.t 13),none,true⟩,⟨some 110,.mov (.t 4),none,true⟩,⟨some 111,.call 279 [(.t 106), (.t 107), (.t 108), (.t 109), (.t 110)],none,true⟩,⟨some 105,.mov (.t 111),none,true⟩,⟨some 112,.extract (.t 105) 0,none,true⟩,⟨some 113,.extract (.t 105) 1,none,true⟩,⟨some 16,.mov (.t 112),none,true⟩,⟨some 17,.mov (.t 113),none,true⟩]) (.seq (.region [ ⟨some 114,.mov (.t 17),none,true⟩,⟨some 11,.mov (.t 114),none,true⟩]) (.seq (.region [ ⟨some 115,.mov (.t 16),none,true⟩,⟨some 116,.mov (.t 1),none,true⟩,⟨some 117,.bin .sub (.t 115) (.t 116),none,true⟩,⟨some 118,.mov (.t 2),none,true⟩,⟨some 119,.mov (.t 16),none,true⟩,⟨some 120,.bin .sub (.t 118) (.t 119),none,true⟩,⟨some 18,.mov (.t 117),none,true⟩,⟨some 19,.mov (.t 120),none,true⟩]) (.seq (.region [ ⟨some 121,.mov (.t 12),none,true⟩,⟨some 122,.bin .quo (.t 121) (.c (.int .i64 8)),none,true⟩,⟨some 20,.mov (.t 122),none,true⟩]) (.seq (.region [ ⟨some 123,.mov (.t 18),none,true⟩,⟨some 124,.mov (.t 19),none,true⟩,⟨some 125,.bin .lss (.t 123) (.t 124),none,true⟩]) (.cond (.t 125) (.seq (.region [ ⟨some 126,.mov (.t 18),none,true⟩,⟨some 127,.mov (.t 20),none,true⟩,⟨some 128,.bin .geq (.t 126) (.t 127),none,true⟩,⟨some 10,.mov (.t 128),none,true⟩]) (.seq (.region [ ⟨some 129,.mov (.t 0),none,true⟩,⟨some 130,.mov (.t 1),none,true⟩,⟨some 131,.mov (.t 16),none,true⟩,⟨some 132,.mov (.t 3),none,true⟩,⟨some 133,.mov (.t 4),none,true⟩,⟨some 134,.call 264 [(.t 129), (.t 130), (.t 131), (.t 132), (.t 133)],none,true⟩]) (.region [ ⟨some 135,.mov (.t 16),none,true⟩,⟨some 136,.bin .add (.t 135) (.c (.int .i64 1)),none,true⟩,⟨some 1,.mov (.t 136),none,true⟩]))) (.seq (.region [ ⟨some 137,.mov (.t 19),none,true⟩,⟨some 138,.mov (.t 20),none,true⟩,⟨some 139,.bin .geq (.t 137) (.t 138),none,true⟩,⟨some 10,.mov (.t 139),none,true⟩]) (.seq (.region [ ⟨some 140,.mov (.t 0),none,true⟩,⟨some 141,.mov (.t 16),none,true⟩,⟨some 142,.bin .add (.t 141) (.c (.int .i64 1)),none,true⟩,⟨some 143,.mov (.t 2),none,true⟩,⟨some 144,.mov (.t 3),none,true⟩,⟨some 145,.mov (.t 4),none,true⟩,⟨some 146,.call 264 [(.t 140), (.t 142), (.t 143), (.t 144), (.t 145)],none,true⟩]) (.region [ ⟨some 147,.mov (.t 16),none,true⟩,⟨some 2,.mov (.t 147),none,true⟩]))))))))))))))))))))), []⟩
/-- slices.insertionSortCmpFunc[string], sharing -/
def S272 : AF := ⟨.seq (.region [ ⟨some 10,.mov (.t 1),none,true⟩,⟨some 11,.bin .add (.t 10) (.c (.int .i64 1)),none,true⟩,⟨some 8,.mov (.t 11),none,true⟩]) (.block 0 (.loop (.seq (.seq (.region [ ⟨some 12,.mov (.t 8),none,true⟩,⟨some 13,.mov (.t 2),none,true⟩,⟨some 14,.bin .lss (.t 12) (.t 13),none,true⟩]) (.cond (.t 14) (.skip) (.exit 0))) (.seq (.block 1 (.seq (.region [ ⟨some 17,.mov (.t 8),none,true⟩,⟨some 9,.mov (.t 17),none,true⟩]) (.block 2 (.loop (.seq (.seq (.seq (.draw [ ⟨some 18,.mov (.t 9),none,true⟩,⟨some 19,.mov (.t 1),none,true⟩,⟨some 20,.bin .gtr (.t 18) (.t 19),none,true⟩,⟨some 21,.mov (.t 20),none,true⟩,⟨some 22,.mov (.t 3), (some (21, true)), true⟩,⟨some 23,.mov (.t 0), (some (21, true)), true⟩,⟨some 24,.mov (.t 9), (some (21, true)), true⟩,⟨some 25,.idxSl 1 (.t 23) (.t 24), (some (21, true)), true⟩,⟨some 26,.load none (.t 25), (some (21, true)), true⟩,⟨some 27,.mov (.t 0), (some (21, true)), true⟩,⟨some 28,.mov (.t 9), (some (21, true)), true⟩,⟨some 29,.bin .sub (.t 28) (.c (.int .i64 1)), (some (21, true)), true⟩,⟨some 30,.idxSl 1 (.t 27) (.t 29), (some (21, true)), true⟩,⟨some 31,.load none (.t 30), (some (21, true)), true⟩] []) (.region [ ⟨some 32,.callV (.t 22) [(.t 26), (.t 31)], (some (21, true)), true⟩,⟨some 33,.bin .lss (.t 32) (.c (.int .i64 0)), (some (21, true)), true⟩,⟨some 34,.pick (.t 21) (.t 33) (.c (.bool false)),none,true⟩])) (.cond (.t 34) (.skip) (.exit 2))) (.seq (.block 3 (.draw [ ⟨some 37,.mov (.t 0),none,true⟩,⟨some 38,.mov (.t 9),none,true⟩,⟨some 39,.mov (.t 0),none,true⟩,⟨some 40,.mov (.t 9),none,true⟩,⟨some 41,.bin .sub (.t 40) (.c (.int .i64 1)),none,true⟩,⟨some 42,.mov (.t 0),none,true⟩,⟨some 43,.mov (.t 9),none,true⟩,⟨some 44,.bin .sub (.t 43) (.c (.int .i64 1)),none,true⟩,⟨some 45,.idxSl 1 (.t 42) (.t 44),none,true⟩,⟨some 46,.load none (.t 45),none,true⟩,⟨some 47,.mov (.t 0),none,true⟩,⟨some 48,.mov (.t 9),none,true⟩,⟨some 49,.idxSl 1 (.t 47) (.t 48),none,true⟩,⟨some 50,.load none (.t 49),none,true⟩,⟨some 51,.idxSl 1 (.t 37) (.t 38),none,true⟩,⟨none, .store 1 (.t 51) (.t 46),none,true⟩,⟨some 52,.idxSl 1 (.t 39) (.t 41),none,true⟩,⟨none, .store 1 (.t 52) (.t 50),none,true⟩] [])) (.region [ ⟨some 35,.mov (.t 9),none,true⟩,⟨some 36,.bin .sub (.t 35) (.c (.int .i64 1)),none,true⟩,⟨some 9,.mov (.t 36),none,true⟩]))))))) (.region [ ⟨some 15,.mov (.t 8),none,true⟩,⟨some 16,.bin .add (.t 15) (.c (.int .i64 1)),none,true⟩,⟨some 8,.mov (.t 16),none,true⟩]))))), []⟩
end Go.Pv.T

/- The environment. -/
namespace Go.Pv.T
open Go Go.Pv

def utf8first : List V := (List.range 256).map fun i => V.int .u8 (if i < 128 then 240 else if i < 194 then 241 else if i < 224 then 2 else if i = 224 then 19 else if i < 237 then 3 else if i = 237 then 35 else if i < 240 then 3 else if i = 240 then 52 else if i < 244 then 4 else if i = 244 then 68 else 241 : Nat)
def words : List V := [.str [], .str [98, 101, 103, 105, 110], .str [114, 101, 97, 100], .str [119, 114, 105, 116, 101], .str [111, 107], .str [102, 97, 105, 108], .str [105, 110, 102, 111]]
def accR : List V := [.int .u8 128, .int .u8 191, .int .u8 160, .int .u8 191, .int .u8 128, .int .u8 159, .int .u8 144, .int .u8 191, .int .u8 128, .int .u8 143, .int .u8 0, .int .u8 0, .int .u8 0, .int .u8 0, .int .u8 0, .int .u8 0, .int .u8 0, .int .u8 0, .int .u8 0, .int .u8 0, .int .u8 0, .int .u8 0, .int .u8 0, .int .u8 0, .int .u8 0, .int .u8 0, .int .u8 0, .int .u8 0, .int .u8 0, .int .u8 0, .int .u8 0, .int .u8 0]
def fc_2 : FuncId → Option AF
  | 267 => some F267
  | 280 => some F280
  | _ => none
def fc_1 : FuncId → Option AF
  | 127 => some F127
  | 143 => some F143
  | 144 => some F144
  | 145 => some F145
  | 146 => some F146
  | 147 => some F147
  | 148 => some F148
  | 151 => some F151
  | 152 => some F152
  | 153 => some F153
  | 154 => some F154
  | 155 => some F155
  | 156 => some F156
  | 167 => some F167
  | 168 => some F168
  | 169 => some F169
  | 172 => some F172
  | 173 => some F173
  | 174 => some F174
  | 188 => some F188
  | 189 => some F189
  | 190 => some F190
  | 191 => some F191
  | 192 => some F192
  | 193 => some F193
  | 194 => some F194
  | 197 => some F197
  | 198 => some F198
  | 199 => some F199
  | 216 => some F216
  | 224 => some F224
  | 225 => some F225
  | 227 => some F227
  | 228 => some F228
  | 229 => some F229
  | 230 => some F230
  | 231 => some F231
  | 232 => some F232
  | 233 => some F233
  | 235 => some F235
  | 238 => some F238
  | 239 => some F239
  | 247 => some F247
  | 248 => some F248
  | 249 => some F249
  | 251 => some F251
  | 252 => some F252
  | 256 => some F256
  | 261 => some F261
  | 265 => some F265
  | f => fc_2 f
def fc : FuncId → Option AF
  | 3 => some F3
  | 14 => some F14
  | 15 => some F15
  | 16 => some F16
  | 17 => some F17
  | 19 => some F19
  | 20 => some F20
  | 21 => some F21
  | 22 => some F22
  | 23 => some F23
  | 24 => some F24
  | 32 => some F32
  | 52 => some F52
  | 59 => some F59
  | 60 => some F60
  | 61 => some F61
  | 62 => some F62
  | 63 => some F63
  | 64 => some F64
  | 66 => some F66
  | 67 => some F67
  | 68 => some F68
  | 69 => some F69
  | 70 => some F70
  | 71 => some F71
  | 72 => some F72
  | 73 => some F73
  | 78 => some F78
  | 81 => some F81
  | 98 => some F98
  | 99 => some F99
  | 100 => some F100
  | 101 => some F101
  | 103 => some F103
  | 104 => some F104
  | 105 => some F105
  | 106 => some F106
  | 107 => some F107
  | 108 => some F108
  | 109 => some F109
  | 110 => some F110
  | 111 => some F111
  | 112 => some F112
  | 113 => some F113
  | 114 => some F114
  | 115 => some F115
  | 118 => some F118
  | 119 => some F119
  | 124 => some F124
  | 126 => some F126
  | f => fc_1 f
def fs : FuncId → Option AF
  | 20 => some S20
  | 65 => some S65
  | 82 => some S82
  | 102 => some S102
  | 108 => some S108
  | 109 => some S109
  | 113 => some S113
  | 114 => some S114
  | 115 => some S115
  | 142 => some S142
  | 146 => some S146
  | 149 => some S149
  | 150 => some S150
  | 154 => some S154
  | 156 => some S156
  | 196 => some S196
  | 197 => some S197
  | 236 => some S236
  | 238 => some S238
  | 254 => some S254
  | 255 => some S255
  | 264 => some S264
  | 272 => some S272
  | _ => none
def shl : List Nat := [65, 75, 76, 82, 85, 86, 91, 92, 102, 117, 120, 123, 133, 134, 135, 142, 149, 157, 158, 159, 160, 161, 162, 164, 165, 170, 175, 177, 178, 179, 196, 200, 202, 203, 204, 206, 207, 208, 209, 210, 211, 212, 213, 217, 218, 236, 237, 240, 241, 242, 243, 254, 255, 257, 264, 272, 273, 274, 275, 276, 277, 278, 279, 283, 284, 285, 286]
def E : Env := { sh := fun f => shl.any (Nat.beq f), fc := fc, fs := fs, gl := fun g => match g with | 0 => some words | 1 => some utf8first | 2 => some accR | _ => none }
end Go.Pv.T

/- Histories, as the interpreter has them; first functions on them. -/
namespace Go.Pv.T
open Go Go.Pv

structure Val' where
  kind : Int
  n : Int
  deriving DecidableEq
structure Op' where
  w : Bool
  key : Int
  v : Val'
  deriving DecidableEq
structure Txn' where
  s : Int
  f : Int
  nl : Bool
  ops : List Op'
structure Hist' where
  sn : Bool
  ss : List (List UInt8)
  kn : Bool
  ks : List (List UInt8)
  tn : Bool
  ts : List Txn'

def valC (v : Val') : List V := [.int .i64 v.kind, .int .i64 v.n]
def opC (o : Op') : List V := [.bool o.w, .int .i64 o.key, .int .i64 o.v.kind, .int .i64 o.v.n]
def slOf {α : Type} (nl : Bool) (f : α → List V) (l : List α) : V := .sl none nl l.length (l.flatMap f)
def txnC (t : Txn') : List V := [.int .i64 t.s, .int .i64 t.f, slOf t.nl opC t.ops]
def strC (s : List UInt8) : List V := [.str s]
def histC (h : Hist') : List V := [slOf h.sn strC h.ss, slOf h.kn strC h.ks, slOf h.tn txnC h.ts]

@[simp] theorem lenSlV_slOf {α : Type} (nl : Bool) (f : α → List V) (l : List α) : lenSlV (slOf nl f l) = some (.int .i64 l.length) := rfl
@[simp] theorem slOf_leaf {α : Type} (nl : Bool) (f : α → List V) (l : List α) : (slOf nl f l).leaf = true := rfl
@[simp] theorem slOf_cells {α : Type} (nl : Bool) (f : α → List V) (l : List α) : (slOf nl f l).cells = [slOf nl f l] := rfl
@[simp] theorem slOf_strip {α : Type} (nl : Bool) (f : α → List V) (l : List α) : (slOf nl f l).strip = slOf nl f l := rfl
@[simp] theorem slOf_strip1 {α : Type} (nl : Bool) (f : α → List V) (l : List α) : (slOf nl f l).strip1 = slOf nl f l := rfl
@[simp] theorem slOf_pureTop {α : Type} (nl : Bool) (f : α → List V) (l : List α) : (slOf nl f l).pureTop = true := rfl
@[simp] theorem slOf_pureLeaf {α : Type} (nl : Bool) (f : α → List V) (l : List α) : (slOf nl f l).pureLeaf = true := rfl
@[simp] theorem int_strip (k : IntKind) (n : Int) : (V.int k n).strip = .int k n := rfl
@[simp] theorem bool_strip (n : Bool) : (V.bool n).strip = .bool n := rfl
@[simp] theorem int_strip1 (k : IntKind) (n : Int) : (V.int k n).strip1 = .int k n := rfl
@[simp] theorem bool_strip1 (n : Bool) : (V.bool n).strip1 = .bool n := rfl
@[simp] theorem int_pureTop (k : IntKind) (n : Int) : (V.int k n).pureTop = true := rfl
@[simp] theorem bool_pureTop (n : Bool) : (V.bool n).pureTop = true := rfl
@[simp] theorem int_pureLeaf (k : IntKind) (n : Int) : (V.int k n).pureLeaf = true := rfl
@[simp] theorem bool_pureLeaf (n : Bool) : (V.bool n).pureLeaf = true := rfl
@[simp] theorem agg_strip (cs : List V) : (V.agg cs).strip = .agg (cs.map V.strip1) := rfl
@[simp] theorem agg_pureTop (cs : List V) : (V.agg cs).pureTop = cs.all V.pureLeaf := rfl

/-- Is there a member of that number? -/
def within (n : Int) (l : Nat) : Bool := decide (0 ≤ n) && decide (n < l)

theorem ev155 (n : Int) (nl : Bool) (l : List (List UInt8)) : Ev E 155 [.int .i64 n, slOf nl strC l] (.bool (within n l.length)) := by
  refine Ev_wpK (af := F155) rfl ?_
  by_cases h : 0 ≤ n
  · simp [F155, h]
    exact endV_1 rfl (by simp [within, h]) rfl
  · simp [F155, h]
    exact endV_1 rfl (by simp [within, h]) rfl

theorem ev143 (o : Op') : Ev E 143 [.agg (opC o)] (.bool (o.v.kind == 2)) := by
  refine Ev_wpK (af := F143) rfl ?_
  simp [F143, opC, objCells]
  exact endV_1 rfl (by simp) rfl

def txnB (h : Hist') (t : Txn') : Bool := within t.s h.ss.length && (decide (1 ≤ t.f) && (decide (t.f ≤ 3) && decide (t.ops.length ≤ 20)))
theorem ev110 (h : Hist') (t : Txn') : Ev E 110 [.agg (histC h), .agg (txnC t)] (.bool (txnB h t)) := by
  refine Ev_wpK (af := F110) rfl ?_
  simp [F110, histC, txnC, objCells]
  refine kS_call (vs := [.int .i64 t.s, slOf h.sn strC h.ss]) (by simp) rfl (by simp) (by simpa using ev155 t.s h.sn h.ss) ?_
  unfold txnB
  cases h1 : within t.s h.ss.length
  · simp
    exact endV_1 rfl (by simp) rfl
  by_cases h2 : 1 ≤ t.f
  · by_cases h3 : t.f ≤ 3
    · simp [objCells, h2, h3]
      exact endV_1 rfl (by simp; omega) rfl
    · simp [objCells, h2, h3]
      exact endV_1 rfl (by simp) rfl
  · simp [objCells, h2]
    exact endV_1 rfl (by simp) rfl

/-- May a value be? -/
def valB (v : Val') : Bool := v.kind == 1 || ((v.kind == 0 || v.kind == 2) && v.n == 0)
theorem ev124 (v : Val') : Ev E 124 [.agg (valC v)] (.bool (valB v)) := by
  refine Ev_wpK (af := F124) rfl ?_
  unfold valB
  cases h1 : v.kind == 1
  · cases h0 : v.kind == 0
    · cases h2 : v.kind == 2
      · simp [F124, valC, objCells, h1, h0, h2]
        exact endV_1 rfl (by simp) rfl
      · simp [F124, valC, objCells, h1, h0, h2]
        exact endV_1 rfl (by simp) rfl
    · simp [F124, valC, objCells, h1, h0]
      exact endV_1 rfl (by simp) rfl
  · simp [F124, valC, objCells, h1]
    exact endV_1 rfl (by simp) rfl
/-- The value in its cell. -/
def cellV (v : Val') : V := if v.kind = 1 then .iface 2 (.int .i64 v.n) else if v.kind = 2 then .iface 253 (.agg []) else .nilif
theorem ev169 (v : Val') : Ev E 169 [.agg (valC v)] (.agg [cellV v]) := by
  refine Ev_wpK (af := F169) rfl ?_
  unfold cellV
  by_cases h1 : v.kind = 1
  · simp [F169, valC, objCells, h1]
    exact kEnd_of rfl (l := [.agg [.iface 2 (.int .i64 v.n)]]) (by simp [resOf, objCells]) rfl rfl
  · have b1 : (v.kind == 1) = false := by simpa using h1
    by_cases h2 : v.kind = 2
    · simp [F169, valC, objCells, h2]
      exact kEnd_of rfl (l := [.agg [.iface 253 (.agg [])]]) (by simp [resOf, objCells]) rfl rfl
    · have b2 : (v.kind == 2) = false := by simpa using h2
      simp [F169, valC, objCells, h1, h2, b1, b2]
      exact kEnd_of rfl (l := [.agg [.nilif]]) (by simp [resOf, objCells]) rfl rfl
/-- And back. -/
def backV (v : Val') : Val' := if v.kind = 1 then ⟨1, v.n⟩ else if v.kind = 2 then ⟨2, 0⟩ else ⟨0, 0⟩
theorem ev168 (v : Val') : Ev E 168 [.agg [cellV v]] (.tup [.agg (valC (backV v)), .int .i64 0]) := by
  refine Ev_wpK (af := F168) rfl ?_
  unfold cellV backV
  by_cases h1 : v.kind = 1
  · simp [F168, valC, objCells, h1, eqVV, eqV, assertV, splice]
    exact kEnd_of rfl (l := [.agg [.int .i64 1, .int .i64 v.n], .int .i64 0]) (by simp [resOf, objCells]) rfl rfl
  · by_cases h2 : v.kind = 2
    · simp [F168, valC, objCells, h2, eqVV, eqV, assertV, splice]
      exact kEnd_of rfl (l := [.agg [.int .i64 2, .int .i64 0], .int .i64 0]) (by simp [resOf, objCells]) rfl rfl
    · simp [F168, valC, objCells, h1, h2, eqVV, eqV]
      exact kEnd_of rfl (l := [.agg [.int .i64 0, .int .i64 0], .int .i64 0]) (by simp [resOf, objCells]) rfl rfl
theorem valB_back (v : Val') : valB v = ((backV v).kind == v.kind && (backV v).n == v.n) := by
  obtain ⟨k, n⟩ := v
  unfold valB backV
  by_cases h1 : k = 1
  · simp [h1]
  · by_cases h2 : k = 2
    · rw [if_neg h1, if_pos h2, Bool.eq_iff_iff]
      simp only [Bool.or_eq_true, Bool.and_eq_true, beq_iff_eq]
      omega
    · rw [if_neg h1, if_neg h2, Bool.eq_iff_iff]
      simp only [Bool.or_eq_true, Bool.and_eq_true, beq_iff_eq]
      omega
theorem cellV_leaf (v : Val') : (cellV v).pureLeaf = true := by unfold cellV; split; rfl; split <;> rfl
theorem cellV_strip1 (v : Val') : (cellV v).strip1 = cellV v := by unfold cellV; split; rfl; split <;> rfl
theorem ev119 (v : Val') : Ev E 119 [.agg (valC v)] (.bool (valB v)) := by
  refine Ev_wpK (af := F119) rfl ?_
  simp [F119, valC, objCells]
  refine kS_call (vs := [.agg (valC v)]) (by simp [valC]) rfl (by simp [valC]) (by simpa [valC] using ev169 v) ?_
  simp [retA_plain (v := .agg [cellV v]) (by simp [V.plain, cellV_leaf])]
  refine kS_call (vs := [.agg [cellV v]]) (by simp) rfl (by simp [cellV_leaf, cellV_strip1]) (by simpa [cellV_strip1] using ev168 v) ?_
  rw [valB_back]
  generalize backV v = b
  rw [retA_tupl (by simp [V.plain, valC])]
  simp [valC, objCells]
  exact endV_1 rfl (by simp) rfl

def opB (h : Hist') (o : Op') : Bool := within o.key h.ks.length && (valB o.v && (!o.w || o.v.kind == 1))
theorem ev111 (h : Hist') (o : Op') : Ev E 111 [.agg (histC h), .agg (opC o)] (.bool (opB h o)) := by
  refine Ev_wpK (af := F111) rfl ?_
  simp [F111, histC, opC, objCells]
  refine kS_call (vs := [.int .i64 o.key, slOf h.kn strC h.ks]) (by simp) rfl (by simp) (by simpa using ev155 o.key h.kn h.ks) ?_
  unfold opB
  cases h1 : within o.key h.ks.length
  · simp
    exact endV_1 rfl (by simp) rfl
  simp [objCells]
  refine kS_call (vs := [.agg (valC o.v)]) (by simp [valC]) rfl (by simp [valC]) (by simpa [valC] using ev119 o.v) ?_
  cases h2 : valB o.v
  · simp
    exact endV_1 rfl (by simp) rfl
  cases h3 : o.w
  · simp [objCells]
    exact endV_1 rfl (by simp) rfl
  · simp [objCells]
    exact endV_1 rfl (by simp) rfl
end Go.Pv.T

/- Looking through slices; an observer's round of a predicate. -/
namespace Go.Pv.T
open Go Go.Pv

@[simp] theorem startS_tm (args : List V) (ob : Nat → Option Obj') (tk : Nat → Bool) (ro base ub n : Nat) : (startS args ob tk ro base ub).tm n = args.getD n none' := rfl
@[simp] theorem startS_ob (args : List V) (ob : Nat → Option Obj') (tk : Nat → Bool) (ro base ub : Nat) : (startS args ob tk ro base ub).ob = ob := rfl
@[simp] theorem startS_tk (args : List V) (ob : Nat → Option Obj') (tk : Nat → Bool) (ro base ub : Nat) : (startS args ob tk ro base ub).tk = tk := rfl
@[simp] theorem startS_ro (args : List V) (ob : Nat → Option Obj') (tk : Nat → Bool) (ro base ub : Nat) : (startS args ob tk ro base ub).ro = ro := rfl
@[simp] theorem startS_nx (args : List V) (ob : Nat → Option Obj') (tk : Nat → Bool) (ro base ub : Nat) : (startS args ob tk ro base ub).nx = ub := rfl
@[simp] theorem startS_fb (args : List V) (ob : Nat → Option Obj') (tk : Nat → Bool) (ro base ub : Nat) : (startS args ob tk ro base ub).fb = base := rfl
@[simp] theorem startS_df (args : List V) (ob : Nat → Option Obj') (tk : Nat → Bool) (ro base ub : Nat) : (startS args ob tk ro base ub).df = [] := rfl

theorem wrap64' {n : Int} (h : -9223372036854775808 ≤ n) (h' : n ≤ 9223372036854775807) : IntKind.i64.wrap n = n := by
  rw [IntKind.wrap_i64]; omega

section
variable {α : Type} {f : α → List V} {k : Nat}
theorem flatMap_len (hf : ∀ a, (f a).length = k) : ∀ (l : List α), (l.flatMap f).length = l.length * k
  | [] => by simp
  | a :: l => by rw [List.flatMap_cons, List.length_append, hf, flatMap_len hf l, List.length_cons, Nat.succ_mul]; omega
theorem flatMap_at (hf : ∀ a, (f a).length = k) : ∀ (l : List α) (i : Nat) (h : i < l.length), ((l.flatMap f).drop (i * k)).take k = f l[i]
  | a :: l, 0, _ => by rw [List.flatMap_cons, Nat.zero_mul, List.drop_zero, List.take_append_of_le_length (by rw [hf]; omega), List.take_of_length_le (by rw [hf]; omega)]; rfl
  | a :: l, i + 1, h => by
    rw [List.flatMap_cons, Nat.succ_mul, List.drop_append, List.drop_of_length_le (by rw [hf]; omega), List.nil_append, hf, Nat.add_sub_cancel]
    exact flatMap_at hf l i (by simpa using h)
theorem idx_slOf (hf : ∀ a, (f a).length = k) (nl : Bool) (l : List α) (kk : IntKind) {i : Nat} (h : i < l.length) : idxSlV k (slOf nl f l) (.int kk i) = some (.eptr (l.flatMap f) (i * k)) := by
  simp only [slOf, idxSlV_sl, flatMap_len hf]
  rw [if_pos (by simp; omega)]
  rfl
theorem load_slOf (hf : ∀ a, (f a).length = k) (ob : Nat → Option Obj') (l : List α) {i : Nat} (h : i < l.length) : loadV ob (some k) (.eptr (l.flatMap f) (i * k)) = some (.agg (f l[i])) := by
  have : i * k + k ≤ l.length * k := by rw [← Nat.succ_mul]; exact Nat.mul_le_mul_right k h
  rw [loadV_e, pick1_some, if_pos (by rw [flatMap_len hf]; exact this), flatMap_at hf l i h]
end
@[simp] theorem txnC_len (t : Txn') : (txnC t).length = 3 := rfl
@[simp] theorem opC_len (t : Op') : (opC t).length = 4 := rfl
@[simp] theorem strC_len (t : List UInt8) : (strC t).length = 1 := rfl

theorem kS_callVO {E : Env} {Yf : YF} {q : A} {xs : List A} {st : St} {ub : Nat} {K : St → Nat → Prop} {d : Option Nat} {nm : Bool} {f : FuncId} {first captured : List V} (hq : eval E st.tm q = .fn (.func f) first captured) (hs : E.sh f = false)
    (hp : ((first ++ xs.map (eval E st.tm) ++ captured).all fun v => v.strip.pureTop) = false) {v : V} (hv : EvO E f (first ++ xs.map (eval E st.tm) ++ captured) st.ob st.tk ((st.fb + d.getD 0 + 1) * 1024) ub v) (h : wpD (retA ub v) (kApp K st d ub)) :
    wpStep E Yf ⟨d, .callV q xs, none, nm⟩ st ub K := by
  have hsh : sharedCall E (eval E st.tm) (.callV q xs) = some (f, first ++ xs.map (eval E st.tm) ++ captured) := by simp only [sharedCall, hq, hs, hp, Bool.not_false, Bool.true_and, Bool.false_eq_true, if_false]
  simp only [wpStep, wanted, yieldCall, hq, hsh]
  obtain ⟨δ, hδ, hK⟩ := h
  exact .inr ⟨hs, v, hv, δ, hδ, hK⟩
theorem kS_callO {E : Env} {Yf : YF} {f : FuncId} {xs : List A} {st : St} {ub : Nat} {K : St → Nat → Prop} {d : Option Nat} {nm : Bool} {vs : List V} (hx : xs.map (eval E st.tm) = vs) (hs : E.sh f = false) (hp : (vs.all fun v => v.strip.pureTop) = false) {v : V}
    (hv : EvO E f vs st.ob st.tk ((st.fb + d.getD 0 + 1) * 1024) ub v) (h : wpD (retA ub v) (kApp K st d ub)) : wpStep E Yf ⟨d, .call f xs, none, nm⟩ st ub K :=
  wpS_callO hs (by rw [hx]; exact hp) ⟨v, by rw [hx]; exact hv, h⟩
theorem EvO_wpK {E : Env} {f : FuncId} {af : AF} {args : List V} {ob : Nat → Option Obj'} {tk : Nat → Bool} {base ub : Nat} {r : V} (hf : E.fs f = some af) (h : wpC E noYF af.body (startS args ob (fun _ => false) ub base ub) (kEnd af.res r)) : EvO E f args ob tk base ub r := EvO_wp hf h

/-- What is looked at there. -/
def HistAt (h : Hist') (ob : Nat → Option Obj') (l u : Nat) : Prop := l % 2 = 0 ∧ ob l = some ⟨u, .cells (histC h)⟩

theorem ev109 {h : Hist'} {ob : Nat → Option Obj'} {l u : Nat} (hh : HistAt h ob l u) (t : Txn') (tk : Nat → Bool) (base ub : Nat) : EvO E 109 [.agg (txnC t), .ptr l u 0] ob tk base ub (.bool (!txnB h t)) := by
  obtain ⟨h2, ho⟩ := hh
  refine EvO_wpK (af := S109) rfl ?_
  have hne : ¬ l = 2 * ub + 1 := by omega
  simp [S109, objCells, hne, ho, txnC, histC]
  refine kS_call (vs := [.agg (histC h), .agg (txnC t)]) (by simp [histC, txnC]) rfl (by simp [histC, txnC]) (by simpa [histC, txnC] using ev110 h t) ?_
  simp
  exact endV_1 rfl (by simp) rfl
/-- Where the first such one stands. -/
def firstI {α : Type} (p : α → Bool) (l : List α) : Int := match l.findIdx? p with
  | some i => i
  | none => -1
theorem firstI_found {α : Type} {p : α → Bool} {l : List α} {i : Nat} (h : i < l.length) (hn : p l[i] = true) (hb : ∀ j (hj : j < l.length), j < i → p l[j] = false) : firstI p l = i := by
  unfold firstI
  have : l.findIdx? p = some i := by
    rw [List.findIdx?_eq_some_iff_getElem]
    exact ⟨h, hn, fun j hj => by rw [hb j (by omega) hj]; decide⟩
  rw [this]
theorem firstI_none {α : Type} {p : α → Bool} {l : List α} (hb : ∀ j (hj : j < l.length), p l[j] = false) : firstI p l = -1 := by
  unfold firstI
  have : l.findIdx? p = none := by
    rw [List.findIdx?_eq_none_iff]
    intro x hx
    obtain ⟨j, hj, e⟩ := List.getElem_of_mem hx
    rw [← e]
    exact hb j hj
  rw [this]
theorem firstI_any {α : Type} (p : α → Bool) (l : List α) : decide (0 ≤ firstI p l) = l.any p := by
  unfold firstI
  cases h : l.findIdx? p with
  | none =>
    rw [List.findIdx?_eq_none_iff] at h
    simp
    intro x hx
    simpa using h x hx
  | some i =>
    rw [List.findIdx?_eq_some_iff_getElem] at h
    obtain ⟨hi, hp, _⟩ := h
    simp
    exact ⟨_, List.getElem_mem hi, hp⟩

theorem ev154 {p : Txn' → Bool} {g : FuncId} {cap : V} {ob : Nat → Option Obj'} (hs : E.sh g = false) (hcap : cap.strip.pureTop = false) (hp : ∀ (t : Txn') (tk : Nat → Bool) (base ub : Nat), EvO E g [.agg (txnC t), cap] ob tk base ub (.bool (p t)))
    (nl : Bool) (l : List Txn') (hl : l.length ≤ 140737488355328) (tk : Nat → Bool) (base ub : Nat) : EvO E 154 [slOf nl txnC l, .fn (.func g) [] [cap]] ob tk base ub (.int .i64 (firstI p l)) := by
  refine EvO_wpK (af := S154) rfl ?_
  simp [S154]
  refine wp_loopK (n := l.length) (fun k s => ∃ i, k = l.length - i ∧ i ≤ l.length ∧ s.df = [] ∧ s.ob = ob ∧ s.tm 0 = slOf nl txnC l ∧ s.tm 1 = .fn (.func g) [] [cap] ∧ s.tm 7 = .int .i64 l.length ∧ s.tm 8 = .int .i64 i ∧ ∀ j (hj : j < l.length), j < i → p l[j] = false)
    ⟨0, by simp⟩ ?_
  rintro k s ⟨i, rfl, hi, hd, ho, h0, h1, h7, h8, hb⟩
  by_cases hlt : i < l.length
  · simp [h0, h1, h7, h8, hlt, idx_slOf txnC_len, load_slOf txnC_len]
    refine kS_callVO (f := g) (first := []) (captured := [cap]) (by simp) hs (by simp [hcap]) (v := .bool (p l[i])) (by simpa [ho] using hp l[i] _ _ _) ?_
    cases hpi : p l[i]
    · simp [h0, h1, h7, h8, hd]
      refine ⟨l.length - (i + 1), by omega, i + 1, rfl, by omega, ho, by rw [wrap64' (by omega) (by omega)]; simp, ?_⟩
      intro j hj hji
      rcases Nat.lt_succ_iff_lt_or_eq.1 hji with h | rfl
      · exact hb j hj h
      · exact hpi
    · simp
      refine endV_1 (by simpa using hd) ?_ rfl
      simp
      rw [firstI_found hlt hpi hb]
  · have : i = l.length := by omega
    subst this
    simp [h7, h8]
    refine endV_1 (by simpa using hd) ?_ rfl
    simp [firstI_none (fun j hj => hb j hj hj)]

theorem ev108 {p : Txn' → Bool} {g : FuncId} {ob : Nat → Option Obj'} {a b c : Nat} (hs : E.sh g = false) (hp : ∀ (t : Txn') (tk : Nat → Bool) (base ub : Nat), EvO E g [.agg (txnC t), .ptr a b c] ob tk base ub (.bool (p t)))
    (nl : Bool) (l : List Txn') (hl : l.length ≤ 140737488355328) (tk : Nat → Bool) (base ub : Nat) : EvO E 108 [slOf nl txnC l, .fn (.func g) [] [.ptr a b c]] ob tk base ub (.bool (l.any p)) := by
  refine EvO_wpK (af := S108) rfl ?_
  simp [S108]
  refine kS_callO (vs := [slOf nl txnC l, .fn (.func g) [] [.ptr a b c]]) (by simp) rfl rfl (ev154 hs rfl hp nl l hl _ _ _) ?_
  simp
  exact endV_1 rfl (by simp [firstI_any]) rfl
end Go.Pv.T

/- The walk through all ops of a history, whoever is yielded to. -/
namespace Go.Pv.T
open Go Go.Pv

/-- Nothing but what is new is another. -/
def Fr (ub : Nat) (ob ob' : Nat → Option Obj') : Prop := ∀ key, (∀ m, ub ≤ m → key ≠ 2 * m + 1) → ob' key = ob key
theorem Fr.refl (ub : Nat) (ob : Nat → Option Obj') : Fr ub ob ob := fun _ _ => rfl
def kEndS (res : List ARes) (P : V × (Nat → Option Obj') × (Nat → Bool) × Nat → Prop) : Ex → St → Prop := fun e s => ∃ r, endS res (e, s) = some r ∧ P r

theorem app_tk0 (st : St) (d : Option Nat) (v : V) (obs : List (Nat × Obj')) : (st.app d { v := v, obs := obs }).tk = st.tk := by
  funext u
  simp [app_tk]
theorem Fr.two {ub m : Nat} {ob ob' : Nat → Option Obj'} (h : ∀ key, key ≠ 2 * m + 1 → ob' key = ob key) (hm : ub ≤ m) : Fr ub ob ob' := fun key hk => h key (hk m hm)

theorem step_gen {E : Env} {Yf : YF} {o : AOpr} {st : St} {ub : Nat} {K : St → Nat → Prop} (h : ∀ s', s' = st → wpStep E Yf o s' ub K) : wpStep E Yf o st ub K := h st rfl

theorem run146 {Yf : YF} (h : Hist') (hn : h.ts.length ≤ 1000) (hm : ∀ t ∈ h.ts, t.ops.length ≤ 1000000) {l u lh uh : Nat} {ob0 : Nat → Option Obj'} {tk0 : Nat → Bool} {ro base ub0 : Nat} (hh : ob0 lh = some ⟨uh, .cells (histC h)⟩) (hro : ro ≤ ub0)
    (J : Nat → Nat → (Nat → Option Obj') → (Nat → Bool) → Nat → Prop) (P : V × (Nat → Option Obj') × (Nat → Bool) × Nat → Prop)
    (hfr : ∀ i k ob ob' tk ub ub', J i k ob tk ub → ub ≤ ub' → Fr ub ob ob' → J i k ob' tk ub')
    (hnext : ∀ i (hi : i < h.ts.length) ob tk ub, J i (h.ts[i]).ops.length ob tk ub → J (i + 1) 0 ob tk ub)
    (hstep : ∀ i (hi : i < h.ts.length) k (hk : k < (h.ts[i]).ops.length) ob tk ub, J i k ob tk ub → ro ≤ ub → ∃ r, EvY Yf l u [.agg [.int .i64 i, .int .i64 k], .agg (opC (h.ts[i]).ops[k])] ob tk ro ub r ∧ ro ≤ r.2.2.2 ∧
      ((r.1 = .bool true ∧ J i (k + 1) r.2.1 r.2.2.1 r.2.2.2) ∨ (r.1 = .bool false ∧ ∀ ob' ub', r.2.2.2 ≤ ub' → Fr r.2.2.2 r.2.1 ob' → P (.tup [], ob', r.2.2.1, ub'))))
    (hend : ∀ ob tk ub, J h.ts.length 0 ob tk ub → P (.tup [], ob, tk, ub))
    (h0 : J 0 0 ob0 tk0 ub0) : ∃ r, EvS E Yf.y 146 [.yld l u, .ptr lh uh 0] ob0 tk0 ro base ub0 r ∧ P r := by
  refine EvS_wp (af := S146) rfl (by decide) ?_
  show wpC E Yf S146.body _ (kEndS S146.res P)
  simp [S146, objCells, hh, histC]
  refine wp_loopK (n := h.ts.length) (fun k s => ∃ i, k = h.ts.length - i ∧ i ≤ h.ts.length ∧ s.df = [] ∧ s.fb = base ∧ s.ro = ro ∧ ro ≤ s.nx ∧ s.tm 0 = .yld l u ∧ s.tm 8 = slOf h.tn txnC h.ts ∧ s.tm 9 = .int .i64 h.ts.length ∧ s.tm 10 = .int .i64 i ∧ J i 0 s.ob s.tk s.nx)
    ⟨0, by simp; exact ⟨by omega, hfr _ _ _ _ _ _ _ h0 (by omega) (Fr.refl _ _)⟩⟩ ?_
  rintro k s ⟨i, rfl, hi, hd, hfb, hsr, hnx, h0, h8, h9, h10, hJ⟩
  by_cases hlt : i < h.ts.length
  · simp [h8, h9, h10, hlt, idx_slOf txnC_len, load_slOf txnC_len, txnC, objCells, hsr]
    refine ⟨by omega, ?_⟩
    refine wp_loopK (n := (h.ts[i]).ops.length) (fun k s => ∃ j, k = (h.ts[i]).ops.length - j ∧ j ≤ (h.ts[i]).ops.length ∧ s.df = [] ∧ s.fb = base ∧ s.ro = ro ∧ ro ≤ s.nx ∧ s.tm 0 = .yld l u ∧ s.tm 8 = slOf h.tn txnC h.ts ∧ s.tm 9 = .int .i64 h.ts.length ∧ s.tm 10 = .int .i64 i ∧
      s.tm 3 = .int .i64 i ∧ s.tm 16 = slOf (h.ts[i]).nl opC (h.ts[i]).ops ∧ s.tm 17 = .int .i64 (h.ts[i]).ops.length ∧ s.tm 18 = .int .i64 j ∧ J i j s.ob s.tk s.nx) ⟨0, ?_⟩ ?_
    · simp [hd, hfb, hsr, h0, h8, h9, h10]
      refine ⟨by omega, ?_⟩
      rw [app_tk0, setT_tk, app_tk0]
      refine hfr _ _ _ _ _ _ _ hJ (by omega : s.nx ≤ _) (Fr.two (m := s.nx + 64 + 64 + 64 + 64) (fun key hk => ?_) (by omega))
      simp [hk]
    clear hd hfb hsr hnx h0 h8 h9 h10 hJ s
    rintro k s ⟨j, rfl, hj, hd, hfb, hsr, hnx, h0, h8, h9, h10, h3, h16, h17, h18, hJ⟩
    by_cases hjt : j < (h.ts[i]).ops.length
    · simp [h0, h3, h16, h17, h18, hjt, idx_slOf opC_len, load_slOf opC_len, opC, objCells, hsr, splice]
      refine ⟨by omega, step_gen fun s' hs' => ?_⟩
      have e23 : s'.tm 23 = .yld l u := by rw [hs']; simp
      have e26 : s'.tm 26 = .agg [.int .i64 i, .int .i64 j] := by rw [hs']; simp
      have e27 : s'.tm 27 = .agg (opC (h.ts[i]).ops[j]) := by rw [hs']; simp [opC]
      have e0 : s'.tm 0 = .yld l u := by rw [hs']; simp [h0]
      have e8 : s'.tm 8 = slOf h.tn txnC h.ts := by rw [hs']; simp [h8]
      have e9 : s'.tm 9 = .int .i64 h.ts.length := by rw [hs']; simp [h9]
      have e10 : s'.tm 10 = .int .i64 i := by rw [hs']; simp [h10]
      have e3 : s'.tm 3 = .int .i64 i := by rw [hs']; simp [h3]
      have e16 : s'.tm 16 = slOf (h.ts[i]).nl opC (h.ts[i]).ops := by rw [hs']; simp [h16]
      have e17 : s'.tm 17 = .int .i64 (h.ts[i]).ops.length := by rw [hs']; simp [h17]
      have e18 : s'.tm 18 = .int .i64 j := by rw [hs']; simp [h18]
      have ed : s'.df = [] := by rw [hs']; simp [hd]
      have ef : s'.fb = base := by rw [hs']; simp [hfb]
      have er : s'.ro = ro := by rw [hs']; simp [hsr]
      have et : s'.tk = s.tk := by rw [hs']; simp only [setT_tk, setN_tk, app_tk0]
      have eo : Fr s.nx s.ob s'.ob := by
        rw [hs']
        exact Fr.two (m := s.nx + 64 + 64 + 64 + 64) (fun key hk => by simp [hk]) (by omega)
      clear hs'
      obtain ⟨r, hr, hru, hcase⟩ := hstep i hlt j hjt s'.ob s.tk (s.nx + 64 + 64 + 64 + 64 + 64 + 64 + 64 + 64 + 64 + 64 + 64 + 64) (hfr _ _ _ _ _ _ _ hJ (by omega) eo) (by omega)
      refine wpS_yield (l := l) (u := u) (by simpa using e23) ⟨r, by simpa [e26, e27, et, er] using hr, ?_⟩
      rcases hcase with ⟨hr1, hJ2⟩ | ⟨hr1, hP⟩
      · simp [hr1, put, upd_apply, e18]
        have hb := hm h.ts[i] (List.getElem_mem hlt)
        refine ⟨(h.ts[i]).ops.length - (j + 1), by omega, j + 1, rfl, by omega, ed, ef, er, by omega, e0, e8, e9, e10, e3, e16, e17, by rw [wrap64' (by omega) (by omega)]; simp, ?_⟩
        exact hfr _ _ _ _ _ _ _ hJ2 (by omega) (Fr.refl _ _)
      · simp [hr1, put]
        refine ⟨(.tup [], r.2.1, r.2.2.1, r.2.2.2 + 64), ?_, hP _ _ (by omega) (Fr.refl _ _)⟩
        simp [endS, ed]
    · have : j = (h.ts[i]).ops.length := by omega
      subst this
      have hJ' := hnext i hlt _ _ _ hJ
      simp [h17, h18, h0, h8, h9, h10, hd, hfb, hsr]
      refine ⟨h.ts.length - (i + 1), by omega, i + 1, rfl, by omega, by omega, by rw [wrap64' (by omega) (by omega)]; simp, ?_⟩
      exact hfr _ _ _ _ _ _ _ hJ' (by omega) (Fr.refl _ _)
  · have : i = h.ts.length := by omega
    subst this
    simp [h9, h10]
    refine ⟨(.tup [], s.ob, s.tk, s.nx + 64), ?_, hend _ _ _ (hfr _ _ _ _ _ _ _ hJ (Nat.le_add_right _ _) (Fr.refl _ _))⟩
    simp [endS, hd]
end Go.Pv.T

/- The range of hist.May. -/
namespace Go.Pv.T
open Go Go.Pv

theorem kS_callS {E : Env} {Yf : YF} {f : FuncId} {xs : List A} {st : St} {ub : Nat} {K : St → Nat → Prop} {d : Option Nat} {nm : Bool} {vs : List V} (hx : xs.map (eval E st.tm) = vs) (hs : E.sh f = true)
    (h : ∃ r, EvS E Yf.y f vs st.ob st.tk st.ro ((st.fb + d.getD 0 + 1) * 1024) ub r ∧ K { st with tm := put st.tm d r.1, ob := r.2.1, tk := r.2.2.1 } r.2.2.2) : wpStep E Yf ⟨d, .call f xs, none, nm⟩ st ub K := by
  have hsh : sharedCall E (eval E st.tm) (.call f xs) = some (f, vs) := by simp only [sharedCall, hs, hx, Bool.not_true, Bool.false_and, Bool.false_eq_true, if_false]
  simp only [wpStep, wanted, yieldCall, hsh]
  obtain ⟨r, hr, hK⟩ := h
  exact .inl ⟨hs, r, hr, hK⟩

theorem ev102 {Yf : YF} (h : Hist') (ob : Nat → Option Obj') (tk : Nat → Bool) (ro base ub : Nat) : ∃ r, EvS E Yf.y 102 [.agg (histC h)] ob tk ro base ub r ∧
    r.1 = .fn (.func 146) [] [.ptr (2 * ub + 1) ub 0] ∧ (∀ key, r.2.1 key = if key = 2 * ub + 1 then some ⟨ub, .cells (histC h)⟩ else ob key) ∧ r.2.2.1 = tk ∧ r.2.2.2 = ub + 256 := by
  refine EvS_wp (af := S102) rfl (by decide) ?_
  show wpC E Yf S102.body _ (kEndS S102.res _)
  simp [S102, histC]
  refine ⟨(.fn (.func 146) [] [.ptr (2 * ub + 1) ub 0], _, _, _), rfl, ?_⟩
  simp [app_tk0]

def opsOf (h : Hist') : List Op' := h.ts.flatMap (·.ops)
/-- All ahead of a place may be. -/
def goodTo (h : Hist') (i k : Nat) : Prop := ∀ i' (hi : i' < h.ts.length) k' (hk : k' < (h.ts[i']).ops.length), (i' < i ∨ i' = i ∧ k' < k) → opB h (h.ts[i']).ops[k'] = true
def AS70 : C := .region [
          ⟨(some 4), .alloc [(.bool false), (.int .i64 0), (.int .i64 0), (.int .i64 0)], none, false⟩,
          ⟨none, .store 4 (.t 4) (.t 17), none, false⟩]
def BD70 : C := .block 1 (.seq (.region [
            ⟨(some 18), .load (some 3) (.t 1), none, false⟩,
            ⟨(some 19), .load (some 4) (.t 4), none, false⟩,
            ⟨(some 20), .call 111 [(.t 18), (.t 19)], none, false⟩,
            ⟨(some 21), .un .not (.t 20), none, false⟩])
          (.cond (.t 21) (.seq (.region [
              ⟨none, .store 1 (.t 2) (.c (.int .i64 4)), none, false⟩])
            (.ret))
           (.skip)))

theorem goodTo_all {h : Hist'} (hg : goodTo h h.ts.length 0) : (opsOf h).all (opB h) = true := by
  rw [List.all_eq_true]
  intro o ho
  obtain ⟨t, ht, hot⟩ := List.mem_flatMap.1 ho
  obtain ⟨i, hi, rfl⟩ := List.getElem_of_mem ht
  obtain ⟨k, hk, rfl⟩ := List.getElem_of_mem hot
  exact hg i hi k hk (Or.inl hi)

theorem wpC_gen {E : Env} {Yf : YF} {c : C} {st : St} {Q : Ex → St → Prop} (h : ∀ s', s' = st → wpC E Yf c s' Q) : wpC E Yf c st Q := h st rfl
theorem away {l k : Nat} (ob : Nat → Option Obj') (h : k ≠ l) : (if Nat.beq l k then none else ob k) = ob k := by
  cases hb : Nat.beq l k with
  | false => rfl
  | true => exact absurd (Nat.eq_of_beq_eq_true hb).symm h

theorem range70 (h : Hist') (hn : h.ts.length ≤ 1000) (hm : ∀ t ∈ h.ts, t.ops.length ≤ 1000000) {st : St} {lh uh : Nat} (U : Nat) (hU : st.nx = U) (hU0 : 64 ≤ U) (h15 : st.tm 15 = .fn (.func 146) [] [.ptr lh uh 0]) (hl : ∃ m, lh = 2 * m + 1 ∧ m < U)
    (h1 : st.tm 1 = .ptr 2 0 0) (h2 : st.tm 2 = .ptr 4 64 0) (hro : st.ro = 0) (hfb : st.fb = 0) (o2 : st.ob 2 = some ⟨0, .cells (histC h)⟩) (o4 : st.ob 4 = some ⟨64, .cells [.int .i64 0]⟩) (oh : st.ob lh = some ⟨uh, .cells (histC h)⟩) {Q : Ex → St → Prop}
    (hQ : ∀ (e : Ex) (ob : Nat → Option Obj') (tk : Nat → Bool) (ub : Nat) (c : Int), ob 2 = some ⟨0, .cells (histC h)⟩ → ob 4 = some ⟨64, .cells [.int .i64 c]⟩ → ob (2 * U + 3) = some ⟨U + 1, .dfr⟩ → U + 64 ≤ ub →
      ((opsOf h).all (opB h) = true ∧ e = .nrm ∧ c = 0 ∨ (opsOf h).all (opB h) = false ∧ e = .ret ∧ c = 4) → Q e { st with ob := ob, tk := tk, nx := ub, df := (2 * U + 3, U + 1) :: st.df }) :
    wpC E noYF (.rangeFunc (.t 15) [16, 17] AS70 BD70) st Q := by
  obtain ⟨m, rfl, hmU⟩ := hl
  subst hU
  refine wpC_rangeFunc (g := 146) (first := []) (captured := [.ptr (2 * m + 1) uh 0]) (by simpa using h15) ?_
  have := run146 (Yf := roundF E noYF AS70 BD70 st [16, 17] (2 * st.nx + 1) st.nx) h hn hm (l := 2 * st.nx + 1) (u := st.nx) (lh := 2 * m + 1) (uh := uh)
    (ob0 := upd (upd st.ob (2 * st.nx + 3) (some ⟨st.nx + 1, .dfr⟩)) (2 * st.nx + 1) (some ⟨st.nx, .loop .ready none⟩)) (tk0 := st.tk) (ro := st.ro) (base := (st.fb + 1023) * 1024) (ub0 := st.nx + 64)
    (by have e1 : ¬ 2 * m + 1 = 2 * st.nx + 1 := by omega
        have e2 : ¬ 2 * m + 1 = 2 * st.nx + 3 := by omega
        simp only [upd_apply, e1, e2, if_false, oh]) (by omega)
    (fun i k ob tk ub => goodTo h i k ∧ ob (2 * st.nx + 1) = some ⟨st.nx, .loop .ready none⟩ ∧ ob (2 * st.nx + 3) = some ⟨st.nx + 1, .dfr⟩ ∧ ob 2 = some ⟨0, .cells (histC h)⟩ ∧ ob 4 = some ⟨64, .cells [.int .i64 0]⟩ ∧ st.nx + 64 ≤ ub)
    (fun r => ∃ s pend, r.2.1 (2 * st.nx + 1) = some ⟨st.nx, .loop s pend⟩ ∧ s ≠ .busy ∧ st.ro ≤ st.nx ∧ Q (pend.getD .nrm) { st with ob := fun k => if Nat.beq (2 * st.nx + 1) k then none else r.2.1 k, tk := r.2.2.1, nx := r.2.2.2, df := (2 * st.nx + 3, st.nx + 1) :: st.df })
    ?_ ?_ ?_ ?_ ?_
  · obtain ⟨r, hr, hP⟩ := this
    exact ⟨r, hr, hP⟩
  · -- what J says stands behind what is new
    rintro i k ob ob' tk ub ub' ⟨g1, g2, g3, g4, g5, g6⟩ hub hfr
    have f : ∀ key, (∀ m, ub ≤ m → key ≠ 2 * m + 1) → ob' key = ob key := hfr
    exact ⟨g1, by rw [f _ (fun m hm => by omega)]; exact g2, by rw [f _ (fun m hm => by omega)]; exact g3, by rw [f _ (fun m hm => by omega)]; exact g4, by rw [f _ (fun m hm => by omega)]; exact g5, by omega⟩
  · rintro i hi ob tk ub ⟨g1, g⟩
    refine ⟨fun i' hi' k' hk' hlt => ?_, g⟩
    rcases hlt with h' | ⟨_, h'⟩
    · rcases Nat.lt_succ_iff_lt_or_eq.1 h' with h'' | rfl
      · exact g1 i' hi' k' hk' (Or.inl h'')
      · exact g1 i' hi' k' hk' (Or.inr ⟨rfl, hk'⟩)
    · omega
  · rintro i hi k hk ob tk ub ⟨g1, g2, g3, g4, g5, g6⟩ hru
    refine EvY_round (as := AS70) (bd := BD70) (xs := [.agg [.int .i64 i, .int .i64 k], .agg (opC (h.ts[i]).ops[k])]) rfl (by omega) g2 (by decide) (by decide) ?_
    simp [AS70, setPs, objCells, hfb, opC, hro]
    refine ⟨by rw [if_neg (by omega), if_neg (by omega)]; exact g2, wpC_gen fun s' hs' => ?_⟩
    have f1 : s'.tm 1 = .ptr 2 0 0 := by rw [hs']; simp [upd_apply, h1]
    have f2 : s'.tm 2 = .ptr 4 64 0 := by rw [hs']; simp [upd_apply, h2]
    have f4 : s'.tm 4 = .ptr 8 ub 0 := by rw [hs']; simp
    have n2 : ¬ 2 = 2 * st.nx + 1 := by omega
    have n4 : ¬ 4 = 2 * st.nx + 1 := by omega
    have n8 : ¬ 8 = 2 * st.nx + 1 := by omega
    have n3 : ¬ 2 * st.nx + 3 = 2 * st.nx + 1 := by omega
    have n38 : ¬ 2 * st.nx + 3 = 8 := by omega
    have p2 : s'.ob 2 = some ⟨0, .cells (histC h)⟩ := by rw [hs']; simp only [upd_apply, n2, if_false, app_ob1]; simp [g4]
    have p4 : s'.ob 4 = some ⟨64, .cells [.int .i64 0]⟩ := by rw [hs']; simp only [upd_apply, n4, if_false, app_ob1]; simp [g5]
    have p8 : s'.ob 8 = some ⟨ub, .cells (opC (h.ts[i]).ops[k])⟩ := by rw [hs']; simp only [upd_apply, n8, if_false, app_ob1]; simp [opC]
    have p3 : s'.ob (2 * st.nx + 3) = some ⟨st.nx + 1, .dfr⟩ := by rw [hs']; simp only [upd_apply, n3, n38, if_false, app_ob1]; exact g3
    have p1 : s'.ob (2 * st.nx + 1) = some ⟨st.nx, .loop .busy none⟩ := by rw [hs']; simp
    have fr : s'.ro = 0 := by rw [hs']
    have fn : ub ≤ s'.nx := by rw [hs']; simp; omega
    clear hs'
    simp [BD70, f1, f4, p2, p8, objCells, opC, histC]
    refine kS_call (vs := [.agg (histC h), .agg (opC (h.ts[i]).ops[k])]) (by simp [histC, opC]) rfl (by simp [histC, opC]) (by simpa [histC, opC] using ev111 h (h.ts[i]).ops[k]) ?_
    have m1 : ¬ 2 * st.nx + 1 = 4 := by omega
    have m3 : ¬ 2 * st.nx + 3 = 4 := by omega
    cases hb : opB h (h.ts[i]).ops[k]
    · simp [f2, p4, objCells, fr, m1, p1, roundAns, splice]
      intro ob' ub' hle hfr
      have fk : ∀ key, (∀ m, s'.nx + 64 + 64 + 64 + 64 + 64 ≤ m → key ≠ 2 * m + 1) → ob' key = _ := hfr
      have hall : (opsOf h).all (opB h) = false := by
        rw [List.all_eq_false]
        exact ⟨_, List.mem_flatMap.2 ⟨_, List.getElem_mem hi, List.getElem_mem hk⟩, by rw [hb]; decide⟩
      have n1' : ∀ {k : Nat}, k ≠ 2 * st.nx + 1 → (if 2 * st.nx + 1 = k then none else ob' k) = ob' k := fun hk => if_neg fun e => hk e.symm
      refine ⟨.done, some .ret, ?_, by simp, ?_⟩
      · rw [fk _ (fun m hm => by omega)]
        simp
      · have := hQ .ret (fun k => if 2 * st.nx + 1 = k then none else ob' k) s'.tk ub' 4 (by rw [n1' n2, fk _ (fun m hm => by omega)]; simp only [upd_apply, n2, if_false, app_ob1]; simp [p2]) (by rw [n1' n4, fk _ (fun m hm => by omega)]; simp only [upd_apply, n4, if_false, app_ob1]; simp)
          (by rw [n1' n3, fk _ (fun m hm => by omega)]; simp only [upd_apply, n3, m3, if_false, app_ob1]; exact p3) (by omega) (Or.inr ⟨hall, rfl, rfl⟩)
        rw [hro, hfb] at this
        exact this
    · simp [p1, roundAns]
      refine ⟨fun i' hi' k' hk' hlt => ?_, ?_, ?_, ?_, by omega⟩
      · rcases hlt with h' | ⟨rfl, h'⟩
        · exact g1 i' hi' k' hk' (Or.inl h')
        · rcases Nat.lt_succ_iff_lt_or_eq.1 h' with h'' | rfl
          · exact g1 _ hi' k' hk' (Or.inr ⟨rfl, h''⟩)
          · exact hb
      · rw [upd_apply, if_neg n3]; exact p3
      · rw [upd_apply, if_neg n2]; exact p2
      · rw [upd_apply, if_neg n4]; exact p4
  · rintro ob tk ub ⟨g1, g2, g3, g4, g5, g6⟩
    refine ⟨.ready, none, g2, by simp, by omega, ?_⟩
    exact hQ .nrm _ _ _ 0 ((away ob (by omega)).trans g4) ((away ob (by omega)).trans g5) ((away ob (by omega)).trans g3) g6 (Or.inl ⟨goodTo_all g1, rfl, rfl⟩)
  · refine ⟨fun i' hi' k' hk' hlt => by omega, ?_, ?_, ?_, ?_, by omega⟩
    · simp
    · simp [upd_apply]
    · have e1 : ¬ 2 = 2 * st.nx + 1 := by omega
      have e2 : ¬ 2 = 2 * st.nx + 3 := by omega
      simp only [upd_apply, e1, e2, if_false, o2]
    · have e1 : ¬ 4 = 2 * st.nx + 1 := by omega
      have e2 : ¬ 4 = 2 * st.nx + 3 := by omega
      simp only [upd_apply, e1, e2, if_false, o4]
end Go.Pv.T

/- How many reads there are. -/
namespace Go.Pv.T
open Go Go.Pv

def rc (l : List Op') : Nat := (l.filter fun o => !o.w).length
def rcT (l : List Txn') : Nat := rc (l.flatMap (·.ops))
theorem rc_le (l : List Op') : rc l ≤ l.length := List.length_filter_le _ _
theorem rc_app (a b : List Op') : rc (a ++ b) = rc a + rc b := by simp [rc]
theorem rcT_succ {l : List Txn'} {i : Nat} (h : i < l.length) : rcT (l.take (i + 1)) = rcT (l.take i) + rc (l[i]).ops := by
  rw [rcT, List.take_succ_eq_append_getElem h, List.flatMap_append, rc_app]
  simp [rcT]
theorem rc_succ {l : List Op'} {i : Nat} (h : i < l.length) : rc (l.take (i + 1)) = rc (l.take i) + (if l[i].w then 0 else 1) := by
  rw [List.take_succ_eq_append_getElem h, rc_app]
  congr 1
  cases hw : l[i].w <;> simp [rc, hw]
theorem rcT_le {l : List Txn'} (h2 : ∀ t ∈ l, t.ops.length ≤ 1000000) : rcT l ≤ l.length * 1000000 := by
  induction l with
  | nil => simp [rcT, rc]
  | cons t l ih =>
    have h3 := ih (fun t ht => h2 t (List.mem_cons_of_mem _ ht))
    have h4 := h2 t (List.mem_cons_self ..)
    have h5 := rc_le t.ops
    have : rcT (t :: l) = rc t.ops + rcT l := by rw [rcT, List.flatMap_cons, rc_app]; rfl
    rw [this, List.length_cons, Nat.succ_mul]
    omega

theorem ev63 (h : Hist') (hn : h.ts.length ≤ 1000) (hm : ∀ t ∈ h.ts, t.ops.length ≤ 1000000) : Ev E 63 [.agg (histC h)] (.int .i64 (rcT h.ts)) := by
  refine Ev_wpK (af := F63) rfl ?_
  simp [F63, histC, objCells]
  have bnd : ∀ i, rcT (h.ts.take i) ≤ 1000000000 := fun i => by
    have h1 := rcT_le (l := h.ts.take i) (fun t ht => hm t (List.mem_of_mem_take ht))
    have h2 : (h.ts.take i).length ≤ 1000 := by rw [List.length_take]; omega
    calc rcT (h.ts.take i) ≤ (h.ts.take i).length * 1000000 := h1
      _ ≤ 1000 * 1000000 := Nat.mul_le_mul_right _ h2
  refine wp_loopK (n := h.ts.length) (fun k s => ∃ i, k = h.ts.length - i ∧ i ≤ h.ts.length ∧ s.df = [] ∧ s.fb = 0 ∧ s.ro = 0 ∧ s.tm 9 = slOf h.tn txnC h.ts ∧ s.tm 10 = .int .i64 h.ts.length ∧ s.tm 11 = .int .i64 i ∧ s.tm 3 = .int .i64 (rcT (h.ts.take i)))
    ⟨0, by simp [rcT, rc]⟩ ?_
  rintro k s ⟨i, rfl, hi, hd, hfb, hro, h9, h10, h11, h3⟩
  by_cases hlt : i < h.ts.length
  · simp [h9, h10, h11, hlt, idx_slOf txnC_len, load_slOf txnC_len, txnC, objCells, hro, hfb]
    refine wp_loopK (n := (h.ts[i]).ops.length) (fun k s => ∃ j, k = (h.ts[i]).ops.length - j ∧ j ≤ (h.ts[i]).ops.length ∧ s.df = [] ∧ s.fb = 0 ∧ s.ro = 0 ∧ s.tm 9 = slOf h.tn txnC h.ts ∧ s.tm 10 = .int .i64 h.ts.length ∧ s.tm 11 = .int .i64 i ∧
      s.tm 16 = slOf (h.ts[i]).nl opC (h.ts[i]).ops ∧ s.tm 17 = .int .i64 (h.ts[i]).ops.length ∧ s.tm 18 = .int .i64 j ∧ s.tm 3 = .int .i64 ((rcT (h.ts.take i) + rc ((h.ts[i]).ops.take j) : Nat) : Int)) ⟨0, ?_⟩ ?_
    · simp [hd, hfb, hro, h9, h10, h11, h3, rc]
    clear hd hfb hro h9 h10 h11 h3 s
    rintro k s ⟨j, rfl, hj, hd, hfb, hro, h9, h10, h11, h16, h17, h18, h3⟩
    have hb := hm h.ts[i] (List.getElem_mem hlt)
    have hbi := bnd i
    by_cases hjt : j < (h.ts[i]).ops.length
    · have hrs := rc_succ hjt
      have hrl := rc_le ((h.ts[i]).ops.take j)
      rw [List.length_take] at hrl
      cases hw : (h.ts[i]).ops[j].w
      · simp [h16, h17, h18, h3, hjt, idx_slOf opC_len, load_slOf opC_len, opC, objCells, hro, hfb, hw, h9, h10, h11, hd]
        refine ⟨(h.ts[i]).ops.length - (j + 1), by omega, j + 1, rfl, by omega, by rw [wrap64' (by omega) (by omega)]; simp, ?_⟩
        rw [wrap64' (by omega) (by omega), hrs, hw]
        simp
        omega
      · simp [h16, h17, h18, h3, hjt, idx_slOf opC_len, load_slOf opC_len, opC, objCells, hro, hfb, hw, h9, h10, h11, hd]
        refine ⟨(h.ts[i]).ops.length - (j + 1), by omega, j + 1, rfl, by omega, by rw [wrap64' (by omega) (by omega)]; simp, ?_⟩
        rw [hrs, hw]
        simp
    · have : j = (h.ts[i]).ops.length := by omega
      subst this
      simp [h17, h18, h9, h10, h11, h3, hd, hfb, hro]
      refine ⟨h.ts.length - (i + 1), by omega, i + 1, rfl, by omega, by rw [wrap64' (by omega) (by omega)]; simp, ?_⟩
      rw [rcT_succ hlt]
      simp
  · have : i = h.ts.length := by omega
    subst this
    simp [h10, h11]
    refine endV_1 (by simpa using hd) ?_ rfl
    simp [h3]
end Go.Pv.T

/- Appending. -/
namespace Go.Pv.T
open Go Go.Pv

section
variable {E : Env} {Yf : YF} {st : St} {ub : Nat} {K : St → Nat → Prop} {d : Option Nat} {nm : Bool}
theorem kS_append_tok {sz bytes u n : Nat} {nl : Bool} {cs ys : List V} {s x : A} (hs : eval E st.tm s = .sl (some (u, sz)) nl n cs) (htk : st.tk u = true) (hx : slCells st.ob sz (eval E st.tm x) = some ys) (hne : ys ≠ []) (hlen : cs.length = n * sz) (h0 : 0 < sz)
    (hp : ys.all V.pureLeaf = true) (hb : (n + ys.length / sz) * bytes ≤ 140737488355328) (hb2 : n + ys.length / sz ≤ 140737488355328) (h : kApp K st d ub { v := .sl (some (ub, sz)) false (n + ys.length / sz) (cs ++ ys), del := some u, add := [ub] }) :
    wpStep E Yf ⟨d, .append false sz bytes s x, none, nm⟩ st ub K := by
  rw [wpStep_of _ rfl rfl]
  simp only [aop, hs, hx, Option.bind_some, if_neg hne, Bool.false_and, Bool.false_eq_true, if_false]
  rw [if_pos ⟨hlen, h0, hp, hb, hb2⟩, if_pos (by simp [htk]), wpD_some]
  exact h
theorem kS_append_nil {sz bytes : Nat} {ys : List V} {s x : A} (hs : eval E st.tm s = .sl none true 0 []) (hx : slCells st.ob sz (eval E st.tm x) = some ys) (hne : ys ≠ []) (h0 : 0 < sz)
    (hp : ys.all V.pureLeaf = true) (hb : (0 + ys.length / sz) * bytes ≤ 140737488355328) (hb2 : 0 + ys.length / sz ≤ 140737488355328) (h : kApp K st d ub { v := .sl (some (ub, sz)) false (0 + ys.length / sz) ([] ++ ys), add := [ub] }) :
    wpStep E Yf ⟨d, .append false sz bytes s x, none, nm⟩ st ub K := by
  rw [wpStep_of _ rfl rfl]
  simp only [aop, hs, hx, Option.bind_some, if_neg hne, Bool.false_and, Bool.false_eq_true, if_false]
  rw [if_pos ⟨by simp, h0, hp, hb, hb2⟩, if_pos trivial, wpD_some]
  exact h
theorem kS_buildSl {sz n : Nat} {zero : List V} {parts : List (Nat × Nat × A)} {cs : List V} (hf : fill zero (evalParts (eval E st.tm) parts) = some cs) (hl : cs.length = n * sz) (hp : (cs.map V.strip1).all V.pureLeaf = true)
    (h : kApp K st d ub { v := .sl (some (ub, sz)) false n (cs.map V.strip1), add := [ub] }) : wpStep E Yf ⟨d, .buildSl false sz zero parts n, none, nm⟩ st ub K := by
  rw [wpStep_of _ rfl rfl]
  simp only [aop, hf, Option.bind_some, Bool.false_eq_true, if_false]
  rw [if_pos ⟨hl, hp⟩, wpD_some]
  exact h
end
theorem fld_at {α : Type} {f : α → List V} {k : Nat} (hf : ∀ a, (f a).length = k) (l : List α) {i o : Nat} (h : i < l.length) (ho : o < k) : (l.flatMap f)[i * k + o]? = (f l[i])[o]? := by
  have := flatMap_at hf l i h
  rw [← this, List.getElem?_take, if_pos ho, List.getElem?_drop]
/-- The numbers of those that are so. -/
def numsTo (p : Txn' → Bool) (l : List Txn') : Nat → List Int
  | 0 => []
  | i + 1 => numsTo p l i ++ (match l[i]? with | some t => if p t then [(i : Int)] else [] | none => [])
theorem numsTo_len (p : Txn' → Bool) (l : List Txn') : ∀ i, (numsTo p l i).length ≤ i
  | 0 => by simp [numsTo]
  | i + 1 => by
    have := numsTo_len p l i
    simp only [numsTo, List.length_append]
    split
    · split <;> simp <;> omega
    · simp; omega
def intC (n : Int) : List V := [.int .i64 n]
theorem numsTo_succ {p : Txn' → Bool} {l : List Txn'} {i : Nat} (h : i < l.length) : numsTo p l (i + 1) = numsTo p l i ++ (if p l[i] then [(i : Int)] else []) := by
  simp [numsTo, List.getElem?_eq_getElem h]
@[simp] theorem intC_len (n : Int) : (intC n).length = 1 := rfl
theorem endV_tokG {n u m : Nat} {st : St} {cs : List V} (hd : st.df = []) (h : st.tm n = .sl (some (u, 1)) false m cs) (ht : st.tk u = true) : endV [.t n] (.ret, st) = some (.sl (some (0, 1)) false m cs) := by
  simp only [endV, dfOk_of hd, noDf_of hd, if_true, List.mapM_cons, List.mapM_nil, resOf, h]
  simp [outRes, outTops, outTop, outLeaf, V.toks, V.tok, nodup, ht]

def isInfo (t : Txn') : Bool := t.f == 3
def infosH (h : Hist') : List Int := numsTo isInfo h.ts h.ts.length
theorem ev52 (h : Hist') (hn : h.ts.length ≤ 1000) : Ev E 52 [.agg (histC h)] (.sl (some (0, 1)) false (infosH h).length ((infosH h).flatMap intC)) := by
  refine Ev_wpK (af := F52) rfl ?_
  simp [F52, histC]
  refine kS_buildSl (cs := []) rfl rfl rfl ?_
  simp
  refine wp_loopK (n := h.ts.length) (fun k s => ∃ i u, k = h.ts.length - i ∧ i ≤ h.ts.length ∧ s.df = [] ∧ s.fb = 0 ∧ s.ro = 0 ∧ s.tm 1 = .ptr 2 0 0 ∧ s.ob 2 = some ⟨0, .cells (histC h)⟩ ∧ s.tm 4 = .int .i64 i ∧ s.tk u = true ∧
      s.tm 3 = .sl (some (u, 1)) false (numsTo isInfo h.ts i).length ((numsTo isInfo h.ts i).flatMap intC))
    ⟨0, 128, by simp [numsTo, histC]⟩ ?_
  rintro k s ⟨i, u, rfl, hi, hd, hfb, hro, h1, o2, h4, hu, h3⟩
  by_cases hlt : i < h.ts.length
  · simp [h1, o2, h4, objCells, histC, hlt, idx_slOf txnC_len, fld_at txnC_len, txnC]
    have hl := numsTo_len isInfo h.ts i
    cases hf : h.ts[i].f == 3
    · simp [h4]
      refine ⟨h.ts.length - (i + 1), by omega, i + 1, ⟨rfl, by omega, hd, hfb, hro, h1, by simpa [histC] using o2, by rw [wrap64' (by omega) (by omega)]; simp, u, hu, ?_⟩⟩
      rw [h3, numsTo_succ hlt, isInfo, hf]
      simp
    · simp [h3, h4]
      refine kS_buildSl (cs := [.int .i64 i]) (by simp [splice]) rfl rfl ?_
      simp
      refine kS_append_tok (u := u) (nl := false) (n := (numsTo isInfo h.ts i).length) (cs := (numsTo isInfo h.ts i).flatMap intC) (ys := [.int .i64 i]) (by simp) (by simp [app_tk, hu]) (by simp [slCells]) (by simp) (by rw [flatMap_len intC_len]) (by decide) rfl (by simp; omega) (by simp; omega) ?_
      simp [h4, hd, hfb, hro, h1, o2, histC]
      refine ⟨h.ts.length - (i + 1), by omega, i + 1, rfl, by omega, by rw [wrap64' (by omega) (by omega)]; simp, Or.inl ?_⟩
      rw [numsTo_succ hlt, isInfo, hf]
      simp [intC]
  · have : i = h.ts.length := by omega
    subst this
    simp [h1, o2, h4, objCells, histC]
    exact endV_tokG (u := u) (by simpa using hd) (by simp [h3, infosH]) (by simpa using hu)
end Go.Pv.T

/- Runes: small functions on them. -/
namespace Go.Pv.T
open Go Go.Pv

def digitB (r : Int) : Bool := decide (48 ≤ r) && decide (r ≤ 57)
theorem ev233 (r : Int) : Ev E 233 [.int .i32 r] (.bool (digitB r)) := by
  refine Ev_wpK (af := F233) rfl ?_
  unfold digitB
  by_cases h : 48 ≤ r
  · simp [F233, h]
    exact endV_1 rfl (by simp) rfl
  · simp [F233, h]
    exact endV_1 rfl (by simp) rfl
theorem ev280 (r : Int) : Ev E 280 [.int .i32 r] (.bool false) := by
  refine Ev_wpK (af := F280) rfl ?_
  simp [F280]
  exact endV_1 rfl (by simp) rfl
def cmpI (a b : Int) : Int := if a < b then -1 else if b < a then 1 else 0
theorem ev265 (a b : Int) : Ev E 265 [.int .i32 a, .int .i32 b] (.int .i64 (cmpI a b)) := by
  refine Ev_wpK (af := F265) rfl ?_
  simp [F265]
  refine kS_call (vs := [.int .i32 a]) (by simp) rfl rfl (ev280 a) ?_
  simp
  refine kS_call (vs := [.int .i32 b]) (by simp) rfl rfl (ev280 b) ?_
  unfold cmpI
  by_cases h : a < b
  · simp [h]
    exact endV_1 rfl (by simp) rfl
  · by_cases h2 : b < a
    · simp [h, h2]
      exact endV_1 rfl (by simp) rfl
    · simp [h, h2]
      exact endV_1 rfl (by simp) rfl
def runeC (r : Int) : List V := [.int .i32 r]
@[simp] theorem runeC_len (n : Int) : (runeC n).length = 1 := rfl
def cmpL : List Int → List Int → Int
  | [], [] => 0
  | [], _ :: _ => -1
  | _ :: _, [] => 1
  | a :: x, b :: y => if cmpI a b = 0 then cmpL x y else cmpI a b
theorem rune_at (l : List Int) {i : Nat} (h : i < l.length) : (l.flatMap runeC)[i]? = some (.int .i32 l[i]) := by
  have := fld_at (f := runeC) runeC_len l h (by decide : 0 < 1)
  rw [Nat.mul_one, Nat.add_zero] at this
  rw [this]
  rfl
theorem ev256 (nx ny : Bool) (x y : List Int) (hx : x.length ≤ 140737488355328) : Ev E 256 [slOf nx runeC x, slOf ny runeC y] (.int .i64 (cmpL x y)) := by
  refine Ev_wpK (af := F256) rfl ?_
  simp [F256]
  refine wp_loopK (n := x.length) (fun k s => ∃ i, k = x.length - i ∧ i ≤ x.length ∧ i ≤ y.length ∧ s.df = [] ∧ s.tm 0 = slOf nx runeC x ∧ s.tm 1 = slOf ny runeC y ∧ s.tm 9 = slOf nx runeC x ∧ s.tm 10 = .int .i64 x.length ∧ s.tm 11 = .int .i64 i ∧ cmpL (x.drop i) (y.drop i) = cmpL x y)
    ⟨0, by simp⟩ ?_
  rintro k s ⟨i, rfl, hi, hiy, hd, h0, h1, h9, h10, h11, hc⟩
  by_cases hlt : i < x.length
  · rw [List.drop_eq_getElem_cons hlt] at hc
    by_cases hly : i < y.length
    · rw [List.drop_eq_getElem_cons hly, cmpL] at hc
      have hny : ¬ (y.length : Int) ≤ i := by omega
      simp [h1, h9, h10, h11, hlt, hny, hly, idx_slOf runeC_len, rune_at x hlt, rune_at y hly]
      refine kS_call (vs := [.int .i32 x[i], .int .i32 y[i]]) (by simp) rfl rfl (ev265 x[i] y[i]) ?_
      by_cases hz : cmpI x[i] y[i] = 0
      · rw [if_pos hz] at hc
        simp [hz, h0, h1, h9, h10, h11, hd]
        exact ⟨x.length - (i + 1), by omega, i + 1, rfl, by omega, by omega, by rw [wrap64' (by omega) (by omega)]; simp, hc⟩
      · rw [if_neg hz] at hc
        have hz' : (cmpI x[i] y[i] != 0) = true := by simpa using hz
        simp [hz']
        exact endV_1 (by simpa using hd) (by simp [hc]) rfl
    · have hny : (y.length : Int) ≤ i := by omega
      have e : y.drop i = [] := List.drop_of_length_le (by omega)
      rw [e, cmpL] at hc
      simp [h1, h9, h10, h11, hlt, hny, idx_slOf runeC_len, rune_at x hlt]
      exact endV_1 (by simpa using hd) (by simp [hc]) rfl
  · have : i = x.length := by omega
    subst this
    rw [List.drop_length] at hc
    by_cases hly : x.length < y.length
    · rw [List.drop_eq_getElem_cons hly, cmpL] at hc
      simp [h0, h1, h10, h11, hly]
      exact endV_1 (by simpa using hd) (by simp [hc]) rfl
    · have e : y.drop x.length = [] := List.drop_of_length_le (by omega)
      rw [e, cmpL] at hc
      simp [h0, h1, h10, h11, hly]
      exact endV_1 (by simpa using hd) (by simp [hc]) rfl
end Go.Pv.T

/- The order of names. -/
namespace Go.Pv.T
open Go Go.Pv

def runesI (s : List UInt8) : List Int := (runesL s s.length 0).map fun r => ((r : Nat) : Int)
theorem kS_runes {E : Env} {Yf : YF} {st : St} {ub : Nat} {K : St → Nat → Prop} {d : Option Nat} {nm : Bool} {x : A} {s : List UInt8} (hs : eval E st.tm x = .str s) (hb : (runesI s).length ≤ 70368744177664)
    (h : kApp K st d ub { v := .sl (some (ub, 1)) false (runesI s).length ((runesI s).flatMap runeC), add := [ub] }) : wpStep E Yf ⟨d, .runesOfStr x, none, nm⟩ st ub K := by
  have e : (runesL s s.length 0).map (fun r => V.int .i32 (r : Nat)) = (runesI s).flatMap runeC := by
    rw [runesI, List.flatMap_map]
    generalize runesL s s.length 0 = l
    induction l with
    | nil => rfl
    | cons r l ih => simp only [List.map_cons, List.flatMap_cons, ih, runeC]; rfl
  have el : (runesI s).length = (runesL s s.length 0).length := by simp [runesI]
  rw [wpStep_of _ rfl rfl]
  simp only [aop, hs]
  rw [← el, if_pos hb, wpD_some, e]
  exact h
theorem ev239 (a b : List UInt8) (ha : (runesI a).length ≤ 1000000) (hb : (runesI b).length ≤ 1000000) : Ev E 239 [.str a, .str b] (.int .i64 (cmpL (runesI a) (runesI b))) := by
  refine Ev_wpK (af := F239) rfl ?_
  simp [F239]
  refine kS_runes (s := a) (by simp) (by omega) ?_
  simp
  refine kS_runes (s := b) (by simp) (by omega) ?_
  simp
  refine kS_call (vs := [.sl (some (128, 1)) false (runesI a).length ((runesI a).flatMap runeC), .sl (some (256, 1)) false (runesI b).length ((runesI b).flatMap runeC)]) (by simp) rfl rfl (ev256 false false _ _ (by omega)) ?_
  simp
  exact endV_1 rfl (by simp) rfl
theorem ev199 (a b : List UInt8) (ha : (runesI a).length ≤ 1000000) (hb : (runesI b).length ≤ 1000000) : Ev E 199 [.str a, .str b] (.bool (decide (cmpL (runesI a) (runesI b) < 0))) := by
  refine Ev_wpK (af := F199) rfl ?_
  simp [F199]
  refine kS_call (vs := [.str a, .str b]) (by simp) rfl rfl (ev239 a b ha hb) ?_
  simp
  exact endV_1 rfl (by simp) rfl
end Go.Pv.T

/- Words that are no names. -/
namespace Go.Pv.T
open Go Go.Pv

def resB (s : List UInt8) : Bool := s == [98, 101, 103, 105, 110] || s == [114, 101, 97, 100] || s == [119, 114, 105, 116, 101] || s == [111, 107] || s == [102, 97, 105, 108] || s == [105, 110, 102, 111] || s == [110, 105, 108]
theorem ev230 (s : List UInt8) : Ev E 230 [.str s] (.bool (resB s)) := by
  refine Ev_wpK (af := F230) rfl ?_
  unfold resB
  generalize h1 : (s == [98, 101, 103, 105, 110]) = b1
  generalize h2 : (s == [114, 101, 97, 100]) = b2
  generalize h3 : (s == [119, 114, 105, 116, 101]) = b3
  generalize h4 : (s == [111, 107]) = b4
  generalize h5 : (s == [102, 97, 105, 108]) = b5
  generalize h6 : (s == [105, 110, 102, 111]) = b6
  generalize h7 : (s == [110, 105, 108]) = b7
  cases b1
  · cases b2
    · cases b3
      · cases b4
        · cases b5
          · cases b6
            · cases b7
              all_goals (simp [F230, h1, h2, h3, h4, h5, h6, h7]; exact endV_1 rfl (by simp) rfl)
            · simp [F230, h1, h2, h3, h4, h5, h6]; exact endV_1 rfl (by simp) rfl
          · simp [F230, h1, h2, h3, h4, h5]; exact endV_1 rfl (by simp) rfl
        · simp [F230, h1, h2, h3, h4]; exact endV_1 rfl (by simp) rfl
      · simp [F230, h1, h2, h3]; exact endV_1 rfl (by simp) rfl
    · simp [F230, h1, h2]; exact endV_1 rfl (by simp) rfl
  · simp [F230, h1]; exact endV_1 rfl (by simp) rfl
theorem ev173 (s : List UInt8) : Ev E 173 [.str s] (.bool (resB s)) := by
  refine Ev_wpK (af := F173) rfl ?_
  unfold resB
  generalize h1 : (s == [98, 101, 103, 105, 110]) = b1
  generalize h2 : (s == [114, 101, 97, 100]) = b2
  generalize h3 : (s == [119, 114, 105, 116, 101]) = b3
  generalize h4 : (s == [111, 107]) = b4
  generalize h5 : (s == [102, 97, 105, 108]) = b5
  generalize h6 : (s == [105, 110, 102, 111]) = b6
  generalize h7 : (s == [110, 105, 108]) = b7
  cases b1
  · cases b2
    · cases b3
      · cases b4
        · cases b5
          · cases b6
            · cases b7
              all_goals (simp [F173, h1, h2, h3, h4, h5, h6, h7]; exact endV_1 rfl (by simp) rfl)
            · simp [F173, h1, h2, h3, h4, h5, h6]; exact endV_1 rfl (by simp) rfl
          · simp [F173, h1, h2, h3, h4, h5]; exact endV_1 rfl (by simp) rfl
        · simp [F173, h1, h2, h3, h4]; exact endV_1 rfl (by simp) rfl
      · simp [F173, h1, h2, h3]; exact endV_1 rfl (by simp) rfl
    · simp [F173, h1, h2]; exact endV_1 rfl (by simp) rfl
  · simp [F173, h1]; exact endV_1 rfl (by simp) rfl
end Go.Pv.T

/- What a name may have in it. -/
namespace Go.Pv.T
open Go Go.Pv

def partB (r : Int) : Bool := decide (127 < r) || (r == 95) || digitB r || (decide (97 ≤ r) && decide (r ≤ 122)) || (decide (65 ≤ r) && decide (r ≤ 90))
theorem ev232 (r : Int) : Ev E 232 [.int .i32 r] (.bool (partB r)) := by
  refine Ev_wpK (af := F232) rfl ?_
  unfold partB
  by_cases h1 : 127 < r
  · simp [F232, h1]
    exact endV_1 rfl (by simp) rfl
  cases h2 : (r == 95)
  · simp [F232, h1, h2]
    refine kS_call (vs := [.int .i32 r]) (by simp) rfl rfl (ev233 r) ?_
    cases h3 : digitB r
    · by_cases h4 : 97 ≤ r
      · by_cases h5 : r ≤ 122
        · simp [h4, h5]
          exact endV_1 rfl (by simp) rfl
        · have h6 : 65 ≤ r := by omega
          have h7 : ¬ r ≤ 90 := by omega
          simp [h4, h5, h6, h7]
          exact endV_1 rfl (by simp) rfl
      · by_cases h6 : 65 ≤ r
        · simp [h4, h6]
          exact endV_1 rfl (by simp) rfl
        · simp [h4, h6]
          exact endV_1 rfl (by simp) rfl
    · simp
      exact endV_1 rfl (by simp) rfl
  · simp [F232, h1, h2]
    exact endV_1 rfl (by simp) rfl
end Go.Pv.T

/- Regions of which any order is drawn; loops that count up; what a loop leaves alone. -/
namespace Go.Pv
open Go

def AOp.plainOp : AOp → Bool
  | .call .. | .callV .. | .entry _ | .nextMap _ => false
  | _ => true
/-- An operation that writes nothing. -/
def AOp.valOp : AOp → Bool
  | .mov _ | .pick .. | .bin .. | .eq .. | .un .. | .build .. | .load .. | .nilCheck _ | .fieldAddr .. | .idxSl .. | .idxArr .. | .part .. | .idxStr .. | .idxVal .. | .slStr .. | .slSl .. | .lenStr _ | .lenSl _ | .lenMap _ | .extract .. | .mkFn .. | .lookup .. | .iface .. | .assert .. | .conv .. | .minmax .. => true
  | _ => false

def kDr (E : Env) (r : List AOpr) (K : List FP → St → Prop) : St → Nat → Prop := fun st ub => wpDraw E r st ub K
def kFp (f : FP) (K : List FP → St → Prop) : List FP → St → Prop := fun fs s => K (f :: fs) s
def kDQ (free : List (Nat × Nat)) (Q : Ex → St → Prop) : List FP → St → Prop := fun fs s => drawOk free fs = true ∧ Q .nrm s
def kDGd (E : Env) (o : AOpr) (r : List AOpr) (st : St) (ub : Nat) (K : List FP → St → Prop) : Bool → Prop
  | true => wpDraw E (o :: r) st ub K
  | false => wpDraw E r (st.setT o.dst none') (ub + 64) (kFp {} K)
def kDApp (E : Env) (r : List AOpr) (K : List FP → St → Prop) (ρ : A → V) (op : AOp) (st : St) (d : Option Nat) (ub : Nat) : Delta → Prop := fun δ => wpDraw E r (st.app d δ) (ub + 64) (kFp (fpOf ρ op δ) K)

theorem val_delta {call : FuncId → List V → Option V} {ρ : A → V} {ob : Nat → Option Obj'} {tk : Nat → Bool} {ro du ub : Nat} {op : AOp} {δ : Delta} (h : op.valOp = true) (ha : aop call ρ ob tk ro du ub op = some δ) : ∃ v, δ = { v := v } := by
  have key : ∀ {o : Option V}, o.bind one = some δ → ∃ v, δ = { v := v } := fun {o} hb => by
    cases o with
    | none => cases hb
    | some v => cases hb; exact ⟨v, rfl⟩
  cases op <;> first | (cases h; done) | skip
  all_goals simp only [aop] at ha
  all_goals first
    | exact key ha
    | exact key (o := some _) ha
    | (repeat' split at ha) <;> first | (cases ha; done) | exact key ha | exact key (o := some _) ha | skip
  all_goals (try simp only [Option.bind_eq_some_iff] at ha)
  all_goals first
    | (obtain ⟨_, _, hb⟩ := ha; exact key (o := some _) hb)
    | skip
  all_goals
    obtain ⟨_, _, x, _, hb⟩ := ha
    first | exact key (o := some _) hb | (rcases x with _ | ⟨_, _⟩ <;> exact key (o := some _) hb)

section
variable {E : Env} {Yf : YF} {st : St} {ub : Nat} {K : List FP → St → Prop} {d : Option Nat} {nm : Bool} {Q : Ex → St → Prop} {r : List AOpr}
theorem kDr_app : kDr E r K st ub = wpDraw E r st ub K := propext Iff.rfl
theorem kFp_app {f : FP} {fs : List FP} : kFp f K fs st = K (f :: fs) st := propext Iff.rfl
theorem kDQ_app {free : List (Nat × Nat)} {fs : List FP} : kDQ free Q fs st = (drawOk free fs = true ∧ Q .nrm st) := propext Iff.rfl
theorem kC_draw {ops : List AOpr} {free : List (Nat × Nat)} : wpC E Yf (.draw ops free) st Q = wpDraw E ops st st.nx (kDQ free Q) := propext Iff.rfl
theorem kDr_nil : wpDraw E [] st ub K = K [] (st.setN ub) := propext Iff.rfl
theorem kDGd_true {o : AOpr} : kDGd E o r st ub K true = wpDraw E (o :: r) st ub K := propext Iff.rfl
theorem kDGd_false {o : AOpr} : kDGd E o r st ub K false = wpDraw E r (st.setT o.dst none') (ub + 64) (kFp {} K) := propext Iff.rfl
theorem kDr_guard {op : AOp} {t : Nat} {b : Bool} : wpDraw E (⟨d, op, some (t, b), nm⟩ :: r) st ub K = gdK (st.tm t) b (kDGd E ⟨d, op, none, nm⟩ r st ub K) := by
  have hn : AOpr.name ⟨d, op, some (t, b), nm⟩ = AOpr.name ⟨d, op, none, nm⟩ := rfl
  have ht : ∀ c, st.tm t = .bool c → (wpDraw E (⟨d, op, some (t, b), nm⟩ :: r) st ub K = kDGd E ⟨d, op, none, nm⟩ r st ub K (c == b)) := fun c hc => by
    cases hcb : (c == b)
    · have : wanted ⟨d, op, some (t, b), nm⟩ st.tm = some false := by simp [wanted, hc, hcb]
      rw [wpDraw, this, kDGd_false, ← app_v]; rfl
    · have : wanted ⟨d, op, some (t, b), nm⟩ st.tm = some true := by simp [wanted, hc, hcb]
      rw [wpDraw, this, kDGd_true, wpDraw]; rfl
  cases h : st.tm t with
  | bool c => rw [ht c h]; rfl
  | tup l => cases l with
    | nil =>
      have : wanted ⟨d, op, some (t, b), nm⟩ st.tm = some false := by simp [wanted, h]
      rw [wpDraw, this]
      show _ = kDGd E ⟨d, op, none, nm⟩ r st ub K false
      rw [kDGd_false, ← app_v]; rfl
    | cons a l =>
      have : wanted ⟨d, op, some (t, b), nm⟩ st.tm = none := by simp [wanted, h]
      rw [wpDraw, this]; rfl
  | _ =>
    have : wanted ⟨d, op, some (t, b), nm⟩ st.tm = none := by simp [wanted, h]
    rw [wpDraw, this]; rfl
theorem wpDraw_of {op : AOp} (h : op.plainOp = true) : wpDraw E (⟨d, op, none, nm⟩ :: r) st ub K = wpD (aop (fun _ _ => none) (eval E st.tm) st.ob st.tk st.ro (AOpr.name ⟨d, op, none, nm⟩ st.fb ub) ub op) (kDApp E r K (eval E st.tm) op st d ub) := by
  cases op <;> first | cases h; done | (simp only [wpDraw, wanted, sharedCall, AOp.far, true_and]; rfl)
theorem kD_val {op : AOp} (h : op.valOp = true) : wpDraw E (⟨d, op, none, nm⟩ :: r) st ub K = wpStep E Yf ⟨d, op, none, nm⟩ st ub (kDr E r (kFp { ro := rdOb (eval E st.tm) op, rt := rdTk (eval E st.tm) op } K)) := by
  have h1 : op.plainOp = true := by cases op <;> first | rfl | cases h
  have h2 : op.isCall = false := by cases op <;> first | rfl | cases h
  have h3 : op.isNext = false := by cases op <;> first | rfl | cases h
  rw [wpDraw_of h1, wpStep_of _ h2 h3]
  refine propext ⟨?_, ?_⟩
  · rintro ⟨δ, hδ, hk⟩
    obtain ⟨v, rfl⟩ := val_delta h hδ
    exact ⟨_, hδ, hk⟩
  · rintro ⟨δ, hδ, hk⟩
    obtain ⟨v, rfl⟩ := val_delta h hδ
    exact ⟨_, hδ, hk⟩
theorem kD_store {sz : Nat} {p x : A} : wpDraw E (⟨d, .store sz p x, none, nm⟩ :: r) st ub K = wpStore st sz (eval E st.tm x) (kDApp E r K (eval E st.tm) (.store sz p x) st d ub) (eval E st.tm p) := by
  rw [wpDraw_of rfl]
  simp only [aop]
  generalize he : kDApp E r K (eval E st.tm) (.store sz p x) st d ub = k
  clear he
  generalize eval E st.tm p = vp
  cases vp <;> simp only [wpD_none, wpStore]
  rename_i l u off
  cases objCells st.ob l u with
  | none => simp [wpD]
  | some cs => simp only [Option.bind_some, wpD_ite, wpD_some, Option.some.injEq, exists_eq_left', Nat.ble_eq, and_assoc]
theorem kD_alloc {z : List V} : wpDraw E (⟨d, .alloc z, none, nm⟩ :: r) st ub K = kDApp E r K (eval E st.tm) (.alloc z) st d ub { v := .ptr (objName d nm st.fb ub) ub 0, obs := [(objName d nm st.fb ub, ⟨ub, .cells z⟩)] } := by
  rw [wpDraw_of rfl]; simp only [aop, mkObj, wpD_some, name_eq]
theorem kD_box {sz : Nat} {x : A} : wpDraw E (⟨d, .box sz x, none, nm⟩ :: r) st ub K = (((eval E st.tm x).cells.length = sz ∧ (eval E st.tm x).cells.all V.leaf = true) ∧ kDApp E r K (eval E st.tm) (.box sz x) st d ub { v := .ptr (objName d nm st.fb ub) ub 0, obs := [(objName d nm st.fb ub, ⟨ub, .cells (eval E st.tm x).cells⟩)] }) := by
  rw [wpDraw_of rfl]; simp only [aop, mkObj, wpD_ite, wpD_some, name_eq]
theorem kDApp_v {ρ : A → V} {op : AOp} {v : V} : kDApp E r K ρ op st d ub { v := v } = wpDraw E r (st.setT d v) (ub + 64) (kFp (fpOf ρ op { v := v }) K) := by rw [kDApp, app_v]
theorem kDApp_app {ρ : A → V} {op : AOp} {δ : Delta} : kDApp E r K ρ op st d ub δ = wpDraw E r (st.app d δ) (ub + 64) (kFp (fpOf ρ op δ) K) := propext Iff.rfl
theorem kD_ev {f : FuncId} {xs : List A} {args : List V} {v : V} (hev : Ev E f args v) (hx : (xs.map fun x => (eval E st.tm x).strip) = args) (hs : E.sh f = false) (hp : args.all V.pureTop = true) (h : wpD (retA ub v) (kDApp E r K (eval E st.tm) (.call f xs) st d ub)) :
    wpDraw E (⟨d, .call f xs, none, nm⟩ :: r) st ub K := by
  have hp' : (xs.all fun x => (eval E st.tm x).strip.pureTop) = true := by rw [← hx, List.all_map] at hp; exact hp
  have hsh : sharedCall E (eval E st.tm) (.call f xs) = none := by simp only [sharedCall, hs, hp', Bool.not_false, Bool.and_self, if_true]
  obtain ⟨δ, hδ, hk⟩ := h
  simp only [wpDraw, wanted, hsh, AOp.far, true_and]
  exact ⟨hp', v, hx ▸ hev, δ, hδ, hk⟩
theorem kS_ev {K : St → Nat → Prop} {f : FuncId} {xs : List A} {args : List V} {v : V} (hev : Ev E f args v) (hx : (xs.map fun x => (eval E st.tm x).strip) = args) (hs : E.sh f = false) (hp : args.all V.pureTop = true) (h : wpD (retA ub v) (kApp K st d ub)) :
    wpStep E Yf ⟨d, .call f xs, none, nm⟩ st ub K := by
  have hp' : (xs.all fun x => (eval E st.tm x).strip.pureTop) = true := by rw [← hx, List.all_map] at hp; exact hp
  have hsh : sharedCall E (eval E st.tm) (.call f xs) = none := by simp only [sharedCall, hs, hp', Bool.not_false, Bool.and_self, if_true]
  obtain ⟨δ, hδ, hk⟩ := h
  simp only [wpStep, wanted, yieldCall, hsh, wpCall]
  exact ⟨by rw [hx]; exact hp, v, hx ▸ hev, δ, hδ, hk⟩
end

/-! What a loop leaves alone. -/
def inR (t : Nat) : List (Nat × Nat) → Bool
  | [] => false
  | (a, b) :: l => (decide (a ≤ t) && decide (t ≤ b)) || inR t l
@[simp] theorem inR_nil (t : Nat) : inR t [] = false := rfl
@[simp] theorem inR_cons (t a b : Nat) (l : List (Nat × Nat)) : inR t ((a, b) :: l) = ((decide (a ≤ t) && decide (t ≤ b)) || inR t l) := rfl
def C.ws : C → List Nat
  | .region ops | .draw ops _ => ops.filterMap (·.dst)
  | .seq a b | .cond _ a b => a.ws ++ b.ws
  | .block _ a | .loop a => a.ws
  | _ => []
def C.noRF : C → Bool
  | .rangeFunc .. => false
  | .seq a b | .cond _ a b => a.noRF && b.noRF
  | .block _ a | .loop a => a.noRF
  | _ => true
structure Keeps (p : Nat → Prop) (st s : St) : Prop where
  b : s.fb = st.fb
  r : s.ro = st.ro
  d : s.df = st.df
  t : ∀ t, ¬ p t → s.tm t = st.tm t
theorem Keeps.rfl' (p : Nat → Prop) (st : St) : Keeps p st st := ⟨rfl, rfl, rfl, fun _ _ => rfl⟩
theorem Keeps.trans {p q q' : Nat → Prop} {a b c : St} (h : Keeps p a b) (h' : Keeps q b c) (hp : ∀ t, p t → q' t) (hq : ∀ t, q t → q' t) : Keeps q' a c :=
  ⟨h'.b.trans h.b, h'.r.trans h.r, h'.d.trans h.d, fun t ht => (h'.t t fun h => ht (hq t h)).trans (h.t t fun h => ht (hp t h))⟩
theorem Keeps.weak {p q : Nat → Prop} {a b : St} (h : Keeps p a b) (hp : ∀ t, p t → q t) : Keeps q a b := ⟨h.b, h.r, h.d, fun t ht => h.t t fun h => ht (hp t h)⟩
theorem put_ne {tm : Nat → V} {d : Option Nat} {v : V} {t : Nat} (h : ¬ t ∈ d.toList) : put tm d v t = tm t := by
  cases d with
  | none => rfl
  | some d => exact upd_ne tm v (fun e => h (by simp [e]))
theorem Keeps.app {st : St} {d : Option Nat} {δ : Delta} : Keeps (· ∈ d.toList) st (st.app d δ) := ⟨rfl, rfl, rfl, fun _ ht => put_ne ht⟩
section
variable {E : Env} {Yf : YF}
theorem wpStep_keeps {o : AOpr} {st : St} {ub : Nat} {K : St → Nat → Prop} (hk : wpStep E Yf o st ub K) : wpStep E Yf o st ub fun s u => K s u ∧ Keeps (· ∈ o.dst.toList) st s := by
  have call : ∀ {f : FuncId} {xs : List V}, wpCall E f xs st o.dst ub K → wpCall E f xs st o.dst ub fun s u => K s u ∧ Keeps (· ∈ o.dst.toList) st s := by
    rintro f xs ⟨hp, v, hv, δ, hδ, hK⟩
    exact ⟨hp, v, hv, δ, hδ, hK, Keeps.app⟩
  unfold wpStep at hk ⊢
  cases hw : wanted o st.tm with
  | none => simp only [hw] at hk
  | some b =>
    cases b with
    | false => simp only [hw] at hk ⊢; exact ⟨hk, rfl, rfl, rfl, fun _ ht => put_ne ht⟩
    | true =>
      simp only [hw] at hk ⊢
      cases hy : yieldCall (eval E st.tm) o.op with
      | some x =>
       obtain ⟨l, u, xs⟩ := x
       simp only [hy] at hk ⊢
       obtain ⟨r, hr, hK⟩ := hk
       exact ⟨r, hr, hK, rfl, rfl, rfl, fun _ ht => put_ne ht⟩
      | none =>
      simp only [hy] at hk ⊢
      cases hsh : sharedCall E (eval E st.tm) o.op with
      | some fx =>
        simp only [hsh] at hk ⊢
        rcases hk with ⟨h1, r, hr, hK⟩ | ⟨h1, v, hv, δ, hδ, hK⟩
        · exact .inl ⟨h1, r, hr, hK, rfl, rfl, rfl, fun _ ht => put_ne ht⟩
        · exact .inr ⟨h1, v, hv, δ, hδ, hK, Keeps.app⟩
      | none =>
        simp only [hsh] at hk ⊢
        cases ho : o.op <;> simp only [ho] at hk ⊢
        case call f xs => exact call hk
        case callV q xs =>
          obtain ⟨f, first, captured, hev, hk⟩ := hk
          exact ⟨f, first, captured, hev, call hk⟩
        case nextMap x =>
          obtain ⟨l, hl, hK⟩ := hk
          exact ⟨l, hl, fun δ hδ => ⟨hK δ hδ, Keeps.app⟩⟩
        all_goals
          obtain ⟨δ, hδ, hK⟩ := hk
          exact ⟨δ, hδ, hK, Keeps.app⟩
theorem wpStep_mono {o : AOpr} {st : St} {ub : Nat} {K K' : St → Nat → Prop} (h : ∀ s u, K s u → K' s u) (hk : wpStep E Yf o st ub K) : wpStep E Yf o st ub K' := by
  have call : ∀ {f : FuncId} {xs : List V}, wpCall E f xs st o.dst ub K → wpCall E f xs st o.dst ub K' := by
    rintro f xs ⟨hp, v, hv, δ, hδ, hK⟩
    exact ⟨hp, v, hv, δ, hδ, h _ _ hK⟩
  unfold wpStep at hk ⊢
  cases hw : wanted o st.tm with
  | none => simp only [hw] at hk
  | some b =>
    cases b with
    | false => simp only [hw] at hk ⊢; exact h _ _ hk
    | true =>
      simp only [hw] at hk ⊢
      cases hy : yieldCall (eval E st.tm) o.op with
      | some x =>
       obtain ⟨l, u, xs⟩ := x
       simp only [hy] at hk ⊢
       obtain ⟨r, hr, hK⟩ := hk
       exact ⟨r, hr, h _ _ hK⟩
      | none =>
      simp only [hy] at hk ⊢
      cases hsh : sharedCall E (eval E st.tm) o.op with
      | some fx =>
        simp only [hsh] at hk ⊢
        rcases hk with ⟨h1, r, hr, hK⟩ | ⟨h1, v, hv, δ, hδ, hK⟩
        · exact .inl ⟨h1, r, hr, h _ _ hK⟩
        · exact .inr ⟨h1, v, hv, δ, hδ, h _ _ hK⟩
      | none =>
        simp only [hsh] at hk ⊢
        cases ho : o.op <;> simp only [ho] at hk ⊢
        case call f xs => exact call hk
        case callV q xs =>
          obtain ⟨f, first, captured, hev, hk⟩ := hk
          exact ⟨f, first, captured, hev, call hk⟩
        case nextMap x =>
          obtain ⟨l, hl, hK⟩ := hk
          exact ⟨l, hl, fun δ hδ => h _ _ (hK δ hδ)⟩
        all_goals
          obtain ⟨δ, hδ, hK⟩ := hk
          exact ⟨δ, hδ, h _ _ hK⟩
theorem mem_ws_cons {o : AOpr} {r : List AOpr} {t : Nat} : t ∈ (o :: r).filterMap (·.dst) ↔ t ∈ o.dst.toList ∨ t ∈ r.filterMap (·.dst) := by
  cases h : o.dst with
  | none => simp [h]
  | some d => simp [h]
theorem wpOps_keeps : ∀ {ops : List AOpr} {st : St} {ub : Nat} {K : St → Prop}, wpOps' E Yf ops st ub K → wpOps' E Yf ops st ub fun s => K s ∧ Keeps (· ∈ ops.filterMap (·.dst)) st s
  | [], st, ub, K, hk => ⟨hk, rfl, rfl, rfl, fun _ _ => rfl⟩
  | o :: r, st, ub, K, hk => by
    refine wpStep_mono (fun s u h => ?_) (wpStep_keeps hk)
    refine wpOps_mono (fun s' h' => ?_) (wpOps_keeps h.1)
    exact ⟨h'.1, h.2.trans h'.2 (fun t ht => mem_ws_cons.2 (.inl ht)) (fun t ht => mem_ws_cons.2 (.inr ht))⟩
theorem wpDraw_keeps : ∀ {ops : List AOpr} {st : St} {ub : Nat} {K : List FP → St → Prop}, wpDraw E ops st ub K → wpDraw E ops st ub fun f s => K f s ∧ Keeps (· ∈ ops.filterMap (·.dst)) st s
  | [], st, ub, K, hk => ⟨hk, rfl, rfl, rfl, fun _ _ => rfl⟩
  | o :: r, st, ub, K, hk => by
    have key : ∀ {δ : Delta} {f : List FP → List FP} {ub : Nat}, wpDraw E r (st.app o.dst δ) ub (fun fs s => K (f fs) s) → wpDraw E r (st.app o.dst δ) ub fun fs s => K (f fs) s ∧ Keeps (· ∈ (o :: r).filterMap (·.dst)) st s := fun h =>
      wpDraw_mono (fun f s h' => ⟨h'.1, Keeps.app.trans h'.2 (fun t ht => mem_ws_cons.2 (.inl ht)) (fun t ht => mem_ws_cons.2 (.inr ht))⟩) (wpDraw_keeps h)
    unfold wpDraw at hk ⊢
    cases hw : wanted o st.tm with
    | none => simp only [hw] at hk
    | some b =>
      cases b with
      | false => simp only [hw] at hk ⊢; exact key (f := fun fs => {} :: fs) hk
      | true =>
        simp only [hw] at hk ⊢
        cases hsh : sharedCall E (eval E st.tm) o.op with
        | some fx =>
          simp only [hsh] at hk ⊢
          obtain ⟨h1, v, hv, δ, hδ, hK⟩ := hk
          exact ⟨h1, v, hv, δ, hδ, key (f := fun fs => { wt := δ.wt, all := true, seen := fun l => (st.ob l).isSome } :: fs) hK⟩
        | none =>
          simp only [hsh] at hk ⊢
          refine ⟨hk.1, ?_⟩
          have hk := hk.2
          cases ho : o.op <;> simp only [ho] at hk ⊢
          case call f xs =>
            obtain ⟨h1, v, hv, δ, hδ, hK⟩ := hk
            exact ⟨h1, v, hv, δ, hδ, key (f := fun fs => fpOf (eval E st.tm) (.call f xs) δ :: fs) hK⟩
          case callV q xs =>
            obtain ⟨f, first, captured, hev, h1, v, hv, δ, hδ, hK⟩ := hk
            exact ⟨f, first, captured, hev, h1, v, hv, δ, hδ, key (f := fun fs => fpOf (eval E st.tm) (.callV q xs) δ :: fs) hK⟩
          all_goals
            obtain ⟨δ, hδ, hK⟩ := hk
            exact ⟨δ, hδ, key (f := fun fs => fpOf (eval E st.tm) _ δ :: fs) hK⟩
theorem wpC_keeps : ∀ {c : C}, c.noRF = true → ∀ {st : St} {Q : Ex → St → Prop}, wpC E Yf c st Q → wpC E Yf c st fun e s => Q e s ∧ Keeps (· ∈ c.ws) st s := by
  intro c
  induction c with
  | skip => intro _ st Q hk; exact ⟨hk, Keeps.rfl' _ _⟩
  | ret => intro _ st Q hk; exact ⟨hk, Keeps.rfl' _ _⟩
  | exit id => intro _ st Q hk; exact ⟨hk, Keeps.rfl' _ _⟩
  | stuck => intro _ st Q hk; exact hk
  | rangeFunc f ps a b => intro hn; cases hn
  | region ops => intro _ st Q hk; exact wpOps_keeps hk
  | draw ops free => intro _ st Q hk; exact wpDraw_mono (fun f s h => ⟨h.1.1, h.1.2, h.2⟩) (wpDraw_keeps hk)
  | seq a b iha ihb =>
    intro hn st Q hk
    have hn := Bool.and_eq_true_iff.1 hn
    rw [kC_seq]
    refine wpC_mono (fun e s he => ?_) (iha hn.1 hk)
    obtain ⟨he, hf⟩ := he
    cases e
    · refine wpC_mono (fun e s' he' => ?_) (ihb hn.2 he)
      exact ⟨he'.1, hf.trans he'.2 (fun t ht => List.mem_append.2 (.inl ht)) (fun t ht => List.mem_append.2 (.inr ht))⟩
    · exact ⟨he, hf.weak (fun t ht => List.mem_append.2 (.inl ht))⟩
    · exact ⟨he, hf.weak (fun t ht => List.mem_append.2 (.inl ht))⟩
  | cond q a b iha ihb =>
    intro hn st Q hk
    have hn := Bool.and_eq_true_iff.1 hn
    obtain ⟨t, ht, h1, h2⟩ := hk
    exact ⟨t, ht, fun e => wpC_mono (fun e s he => ⟨he.1, he.2.weak (fun t ht => List.mem_append.2 (.inl ht))⟩) (iha hn.1 (h1 e)),
      fun e => wpC_mono (fun e s he => ⟨he.1, he.2.weak (fun t ht => List.mem_append.2 (.inr ht))⟩) (ihb hn.2 (h2 e))⟩
  | block id a ih =>
    intro hn st Q hk
    rw [kC_block]
    refine wpC_mono (fun e s he => ?_) (ih hn hk)
    obtain ⟨he, hf⟩ := he
    cases e
    · exact ⟨he, hf⟩
    · simp only [kBlk_exit] at he ⊢
      split at he
      · rename_i hi; simp only [hi, if_true]; exact ⟨he, hf⟩
      · rename_i hi; simp only [hi, if_false]; exact ⟨he, hf⟩
    · exact ⟨he, hf⟩
  | loop a ih =>
    intro hn st Q hk
    obtain ⟨N, hk⟩ := hk
    refine ⟨N, ?_⟩
    have key : ∀ (N : Nat) (st : St), wpLoop (wpC E Yf a) N st Q → wpLoop (wpC E Yf a) N st fun e s => Q e s ∧ Keeps (· ∈ a.ws) st s := by
      intro N
      induction N with
      | zero => intro st h; exact h
      | succ N ihN =>
        intro st h
        refine wpC_mono (fun e s he => ?_) (ih hn h)
        obtain ⟨he, hf⟩ := he
        cases e
        · exact wpLoop_mono (W := wpC E Yf a) (fun _ _ _ h hk => wpC_mono h hk) (fun e s' he' => ⟨he'.1, hf.trans he'.2 (fun _ h => h) (fun _ h => h)⟩) (ihN s he)
        · exact ⟨he, hf⟩
        · exact ⟨he, hf⟩
    exact key N st hk

/-- A loop: it leaves alone what it does not write. -/
theorem wp_loopF {a : C} {Q : Ex → St → Prop} {n : Nat} {st : St} (ws : List (Nat × Nat)) (I : Nat → St → Prop) (hn : a.noRF = true) (hw : (a.ws.all fun t => inR t ws) = true) (h0 : I n st)
    (hs : ∀ k s, I k s → Keeps (fun t => inR t ws = true) st s → wpC E Yf a s (kLoop I k Q)) : wpC E Yf (.loop a) st Q := by
  refine wp_loopK (fun k s => I k s ∧ Keeps (fun t => inR t ws = true) st s) (n := n) ⟨h0, Keeps.rfl' _ _⟩ fun k s ⟨hI, hf⟩ => ?_
  refine wpC_mono (fun e s' he => ?_) (wpC_keeps hn (hs k s hI hf))
  obtain ⟨he, hf'⟩ := he
  cases e
  · obtain ⟨j, hj, hI'⟩ := he
    exact ⟨j, hj, hI', hf.trans hf' (fun _ h => h) (fun t ht => List.all_eq_true.1 hw t ht)⟩
  · exact he
  · exact he
def kUp (I : Nat → St → Prop) (N i : Nat) (Q : Ex → St → Prop) : Ex → St → Prop := fun e s => match e with
  | .nrm => i < N ∧ I (i + 1) s
  | e => Q e s
/-- A loop that counts up. -/
theorem wp_loopUp {a : C} {Q : Ex → St → Prop} {st : St} (ws : List (Nat × Nat)) (N : Nat) (I : Nat → St → Prop) (hn : a.noRF = true) (hw : (a.ws.all fun t => inR t ws) = true) (h0 : I 0 st)
    (hs : ∀ i s, i ≤ N → I i s → Keeps (fun t => inR t ws = true) st s → wpC E Yf a s (kUp I N i Q)) : wpC E Yf (.loop a) st Q := by
  refine wp_loopF (n := N) ws (fun k s => ∃ i, k = N - i ∧ i ≤ N ∧ I i s) hn hw ⟨0, rfl, Nat.zero_le _, h0⟩ ?_
  rintro k s ⟨i, rfl, hi, hI⟩ hf
  refine wpC_mono (fun e s' he => ?_) (hs i s hi hI hf)
  cases e
  · obtain ⟨h1, h2⟩ := he
    exact ⟨N - (i + 1), by omega, i + 1, rfl, by omega, h2⟩
  · exact he
  · exact he
end
theorem kUp_nrm {I : Nat → St → Prop} {N i : Nat} {Q : Ex → St → Prop} {st : St} : kUp I N i Q .nrm st = (i < N ∧ I (i + 1) st) := propext Iff.rfl
theorem kUp_exit {I : Nat → St → Prop} {N i j : Nat} {Q : Ex → St → Prop} {st : St} : kUp I N i Q (.exit j) st = Q (.exit j) st := propext Iff.rfl
theorem kUp_ret {I : Nat → St → Prop} {N i : Nat} {Q : Ex → St → Prop} {st : St} : kUp I N i Q .ret st = Q .ret st := propext Iff.rfl
theorem drawOk_nil (fs : List FP) : drawOk [] fs = true := rfl
section
variable {E : Env} {st : St} {ub : Nat} {K : List FP → St → Prop} {d : Option Nat} {nm : Bool} {r : List AOpr}
theorem kD_mov {x : A} : wpDraw E (⟨d, .mov x, none, nm⟩ :: r) st ub K = wpStep E noYF ⟨d, .mov x, none, nm⟩ st ub (kDr E r (kFp { ro := rdOb (eval E st.tm) (.mov x), rt := rdTk (eval E st.tm) (.mov x) } K)) := kD_val rfl
theorem kD_pick {c a b : A} : wpDraw E (⟨d, .pick c a b, none, nm⟩ :: r) st ub K = wpStep E noYF ⟨d, .pick c a b, none, nm⟩ st ub (kDr E r (kFp { ro := rdOb (eval E st.tm) (.pick c a b), rt := rdTk (eval E st.tm) (.pick c a b) } K)) := kD_val rfl
theorem kD_bin {op : BinOp} {x y : A} : wpDraw E (⟨d, .bin op x y, none, nm⟩ :: r) st ub K = wpStep E noYF ⟨d, .bin op x y, none, nm⟩ st ub (kDr E r (kFp { ro := rdOb (eval E st.tm) (.bin op x y), rt := rdTk (eval E st.tm) (.bin op x y) } K)) := kD_val rfl
theorem kD_eq {neg : Bool} {k : EqK} {x y : A} : wpDraw E (⟨d, .eq neg k x y, none, nm⟩ :: r) st ub K = wpStep E noYF ⟨d, .eq neg k x y, none, nm⟩ st ub (kDr E r (kFp { ro := rdOb (eval E st.tm) (.eq neg k x y), rt := rdTk (eval E st.tm) (.eq neg k x y) } K)) := kD_val rfl
theorem kD_un {op : UnOp} {x : A} : wpDraw E (⟨d, .un op x, none, nm⟩ :: r) st ub K = wpStep E noYF ⟨d, .un op x, none, nm⟩ st ub (kDr E r (kFp { ro := rdOb (eval E st.tm) (.un op x), rt := rdTk (eval E st.tm) (.un op x) } K)) := kD_val rfl
theorem kD_build {z : List V} {ps : List (Nat × Nat × A)} : wpDraw E (⟨d, .build z ps, none, nm⟩ :: r) st ub K = wpStep E noYF ⟨d, .build z ps, none, nm⟩ st ub (kDr E r (kFp { ro := rdOb (eval E st.tm) (.build z ps), rt := rdTk (eval E st.tm) (.build z ps) } K)) := kD_val rfl
theorem kD_load {g : Option Nat} {x : A} : wpDraw E (⟨d, .load g x, none, nm⟩ :: r) st ub K = wpStep E noYF ⟨d, .load g x, none, nm⟩ st ub (kDr E r (kFp { ro := rdOb (eval E st.tm) (.load g x), rt := rdTk (eval E st.tm) (.load g x) } K)) := kD_val rfl
theorem kD_nilCheck {x : A} : wpDraw E (⟨d, .nilCheck x, none, nm⟩ :: r) st ub K = wpStep E noYF ⟨d, .nilCheck x, none, nm⟩ st ub (kDr E r (kFp { ro := rdOb (eval E st.tm) (.nilCheck x), rt := rdTk (eval E st.tm) (.nilCheck x) } K)) := kD_val rfl
theorem kD_fieldAddr {o : Nat} {x : A} : wpDraw E (⟨d, .fieldAddr o x, none, nm⟩ :: r) st ub K = wpStep E noYF ⟨d, .fieldAddr o x, none, nm⟩ st ub (kDr E r (kFp { ro := rdOb (eval E st.tm) (.fieldAddr o x), rt := rdTk (eval E st.tm) (.fieldAddr o x) } K)) := kD_val rfl
theorem kD_idxSl {sz : Nat} {x i : A} : wpDraw E (⟨d, .idxSl sz x i, none, nm⟩ :: r) st ub K = wpStep E noYF ⟨d, .idxSl sz x i, none, nm⟩ st ub (kDr E r (kFp { ro := rdOb (eval E st.tm) (.idxSl sz x i), rt := rdTk (eval E st.tm) (.idxSl sz x i) } K)) := kD_val rfl
theorem kD_idxArr {len sz : Nat} {x i : A} : wpDraw E (⟨d, .idxArr len sz x i, none, nm⟩ :: r) st ub K = wpStep E noYF ⟨d, .idxArr len sz x i, none, nm⟩ st ub (kDr E r (kFp { ro := rdOb (eval E st.tm) (.idxArr len sz x i), rt := rdTk (eval E st.tm) (.idxArr len sz x i) } K)) := kD_val rfl
theorem kD_part {g : Option Nat} {o : Nat} {x : A} : wpDraw E (⟨d, .part g o x, none, nm⟩ :: r) st ub K = wpStep E noYF ⟨d, .part g o x, none, nm⟩ st ub (kDr E r (kFp { ro := rdOb (eval E st.tm) (.part g o x), rt := rdTk (eval E st.tm) (.part g o x) } K)) := kD_val rfl
theorem kD_idxStr {x i : A} : wpDraw E (⟨d, .idxStr x i, none, nm⟩ :: r) st ub K = wpStep E noYF ⟨d, .idxStr x i, none, nm⟩ st ub (kDr E r (kFp { ro := rdOb (eval E st.tm) (.idxStr x i), rt := rdTk (eval E st.tm) (.idxStr x i) } K)) := kD_val rfl
theorem kD_slStr {x : A} {lo hi : Option A} : wpDraw E (⟨d, .slStr x lo hi, none, nm⟩ :: r) st ub K = wpStep E noYF ⟨d, .slStr x lo hi, none, nm⟩ st ub (kDr E r (kFp { ro := rdOb (eval E st.tm) (.slStr x lo hi), rt := rdTk (eval E st.tm) (.slStr x lo hi) } K)) := kD_val rfl
theorem kD_slSl {sz : Nat} {x : A} {lo hi : Option A} : wpDraw E (⟨d, .slSl sz x lo hi, none, nm⟩ :: r) st ub K = wpStep E noYF ⟨d, .slSl sz x lo hi, none, nm⟩ st ub (kDr E r (kFp { ro := rdOb (eval E st.tm) (.slSl sz x lo hi), rt := rdTk (eval E st.tm) (.slSl sz x lo hi) } K)) := kD_val rfl
theorem kD_lenStr {x : A} : wpDraw E (⟨d, .lenStr x, none, nm⟩ :: r) st ub K = wpStep E noYF ⟨d, .lenStr x, none, nm⟩ st ub (kDr E r (kFp { ro := rdOb (eval E st.tm) (.lenStr x), rt := rdTk (eval E st.tm) (.lenStr x) } K)) := kD_val rfl
theorem kD_lenSl {x : A} : wpDraw E (⟨d, .lenSl x, none, nm⟩ :: r) st ub K = wpStep E noYF ⟨d, .lenSl x, none, nm⟩ st ub (kDr E r (kFp { ro := rdOb (eval E st.tm) (.lenSl x), rt := rdTk (eval E st.tm) (.lenSl x) } K)) := kD_val rfl
theorem kD_lenMap {x : A} : wpDraw E (⟨d, .lenMap x, none, nm⟩ :: r) st ub K = wpStep E noYF ⟨d, .lenMap x, none, nm⟩ st ub (kDr E r (kFp { ro := rdOb (eval E st.tm) (.lenMap x), rt := rdTk (eval E st.tm) (.lenMap x) } K)) := kD_val rfl
theorem kD_extract {x : A} {i : Nat} : wpDraw E (⟨d, .extract x i, none, nm⟩ :: r) st ub K = wpStep E noYF ⟨d, .extract x i, none, nm⟩ st ub (kDr E r (kFp { ro := rdOb (eval E st.tm) (.extract x i), rt := rdTk (eval E st.tm) (.extract x i) } K)) := kD_val rfl
theorem kD_mkFn {f : Fn} {a b : List A} : wpDraw E (⟨d, .mkFn f a b, none, nm⟩ :: r) st ub K = wpStep E noYF ⟨d, .mkFn f a b, none, nm⟩ st ub (kDr E r (kFp { ro := rdOb (eval E st.tm) (.mkFn f a b), rt := rdTk (eval E st.tm) (.mkFn f a b) } K)) := kD_val rfl
theorem kD_lookup {q : LK} {z : V} {ok : Bool} {m k : A} : wpDraw E (⟨d, .lookup q z ok m k, none, nm⟩ :: r) st ub K = wpStep E noYF ⟨d, .lookup q z ok m k, none, nm⟩ st ub (kDr E r (kFp { ro := rdOb (eval E st.tm) (.lookup q z ok m k), rt := rdTk (eval E st.tm) (.lookup q z ok m k) } K)) := kD_val rfl
theorem kD_conv {k : IntKind} {x : A} : wpDraw E (⟨d, .conv k x, none, nm⟩ :: r) st ub K = wpStep E noYF ⟨d, .conv k x, none, nm⟩ st ub (kDr E r (kFp { ro := rdOb (eval E st.tm) (.conv k x), rt := rdTk (eval E st.tm) (.conv k x) } K)) := kD_val rfl
theorem kD_minmax {b : Bool} {xs : List A} : wpDraw E (⟨d, .minmax b xs, none, nm⟩ :: r) st ub K = wpStep E noYF ⟨d, .minmax b xs, none, nm⟩ st ub (kDr E r (kFp { ro := rdOb (eval E st.tm) (.minmax b xs), rt := rdTk (eval E st.tm) (.minmax b xs) } K)) := kD_val rfl
end
attribute [simp ↓] kC_draw kDr_nil kDr_guard kD_store kD_alloc kD_box kD_mov kD_pick kD_bin kD_eq kD_un kD_build kD_load kD_nilCheck kD_fieldAddr kD_idxSl kD_idxArr kD_part kD_idxStr kD_slStr kD_slSl kD_lenStr kD_lenSl kD_lenMap kD_extract kD_mkFn kD_lookup kD_conv kD_minmax
attribute [simp ↓] kDr_app kFp_app kDQ_app kDGd_true kDGd_false kDApp_v kDApp_app kUp_nrm kUp_exit kUp_ret
attribute [simp] drawOk_nil
end Go.Pv

/- Maps, ranges over texts, loops unrolled. -/
namespace Go.Pv
open Go

def kL (E : Env) (Yf : YF) (a : C) (n : Nat) (Q : Ex → St → Prop) : Ex → St → Prop := fun e s => match e with
  | .nrm => wpLoop (wpC E Yf a) n s Q
  | e => Q e s
section
variable {E : Env} {Yf : YF} {a : C} {Q : Ex → St → Prop} {s : St} {n : Nat}
theorem kL_nrm : kL E Yf a n Q .nrm s = wpLoop (wpC E Yf a) n s Q := propext Iff.rfl
theorem kL_exit {i : Nat} : kL E Yf a n Q (.exit i) s = Q (.exit i) s := propext Iff.rfl
theorem kL_ret : kL E Yf a n Q .ret s = Q .ret s := propext Iff.rfl
theorem wpLoop_1 : wpLoop (wpC E Yf a) 1 s Q = wpC E Yf a s (kL E Yf a 0 Q) := propext Iff.rfl
theorem wpLoop_2 : wpLoop (wpC E Yf a) 2 s Q = wpC E Yf a s (kL E Yf a 1 Q) := propext Iff.rfl
theorem wpLoop_3 : wpLoop (wpC E Yf a) 3 s Q = wpC E Yf a s (kL E Yf a 2 Q) := propext Iff.rfl
theorem wpLoop_4 : wpLoop (wpC E Yf a) 4 s Q = wpC E Yf a s (kL E Yf a 3 Q) := propext Iff.rfl
/-- So many rounds at most, one by one. -/
theorem wp_unroll (n : Nat) (h : wpLoop (wpC E Yf a) n s Q) : wpC E Yf (.loop a) s Q := ⟨n, h⟩
end
def wpStr (k : List UInt8 → Prop) : V → Prop
  | .str s => k s
  | _ => False
@[simp] theorem wpStr_str (k : List UInt8 → Prop) (s : List UInt8) : wpStr k (.str s) = k s := rfl
/-- A number's entries in a map. -/
def MP {α : Type} (f : α → V) (m : List (Int × α)) : List (V × V) := m.map fun p => (.int .i64 p.1, f p.2)
def mfind {α : Type} : List (Int × α) → Int → Option (Nat × α)
  | [], _ => none
  | (k', a) :: m, k => if k = k' then some (0, a) else (mfind m k).map fun p => (p.1 + 1, p.2)
def mset {α : Type} (m : List (Int × α)) (k : Int) (a : α) : List (Int × α) := match mfind m k with
  | some (i, _) => m.set i (k, a)
  | none => m ++ [(k, a)]
theorem findKey_MP {α : Type} (f : α → V) (k : Int) : ∀ m : List (Int × α), findKey .int (.int .i64 k) (MP f m) = some ((mfind m k).map fun p => (p.1, f p.2))
  | [] => rfl
  | (k', a) :: m => by
    have ih := findKey_MP f k m
    unfold MP at ih ⊢
    simp only [List.map_cons, findKey, eqLeaf, if_true, mfind]
    by_cases h : k = k'
    · simp [h]
    · rw [if_neg h, show (k == k') = false by simpa using h]
      simp only [ih, Option.map_some, Option.map_map]
      rfl
@[simp] theorem MP_length {α : Type} (f : α → V) (m : List (Int × α)) : (MP f m).length = m.length := by simp [MP]
def intV (n : Int) : V := .int .i64 n
def mcnt (m : List (Int × Int)) (k : Int) : Int := ((mfind m k).map (·.2)).getD 0
theorem lookupV_MP {α : Type} {f : α → V} {ob : Nat → Option Obj'} {l u : Nat} {z : V} {ok : Bool} {k : Int} (m : List (Int × α)) (h : objMap ob l u = some (MP f m)) :
    lookupV ob .int z ok (.map l u) (.int .i64 k) = some (match mfind m k with | some p => if ok then .tup [f p.2, .bool true] else f p.2 | none => if ok then .tup [z, .bool false] else z) := by
  simp only [lookupV, isKey, if_true, h, Option.bind_some, findKey_MP, Option.map_some]
  cases mfind m k <;> rfl
theorem lookupV_MI {ob : Nat → Option Obj'} {l u : Nat} {k : Int} (m : List (Int × Int)) (h : objMap ob l u = some (MP intV m)) : lookupV ob .int (.int .i64 0) false (.map l u) (.int .i64 k) = some (.int .i64 (mcnt m k)) := by
  rw [lookupV_MP m h, mcnt]
  cases mfind m k <;> rfl
section
variable {E : Env} {Yf : YF} {st : St} {ub : Nat} {K : St → Nat → Prop} {d : Option Nat} {nm : Bool}
theorem kS_rangeStr {x : A} : wpStep E Yf ⟨d, .range true x, none, nm⟩ st ub K = wpStr (fun s => kApp K st d ub { v := .iter (objName d nm st.fb ub) ub, obs := [(objName d nm st.fb ub, ⟨ub, .siter s 0⟩)] }) (eval E st.tm x) := by
  rw [wpStep_of _ rfl rfl]
  simp only [aop, name_eq]
  cases eval E st.tm x <;> simp only [wpD_none, wpStr, mkObj, wpD_some]
  rfl
theorem kS_nextStr {x : A} {l u pos : Nat} {s : List UInt8} (hx : eval E st.tm x = .iter l u) (ho : st.ob l = some ⟨u, .siter s pos⟩) (hro : st.ro ≤ u)
    (h1 : pos < s.length → kApp K st d ub { v := .tup [.bool true, .int .i64 pos, .int .i32 ((Utf8.decode ⟨s.toArray⟩ pos).1 : Nat)], obs := [(l, ⟨u, .siter s (pos + (Utf8.decode ⟨s.toArray⟩ pos).2)⟩)] })
    (h2 : ¬ pos < s.length → kSet K st d ub (.tup [.bool false])) : wpStep E Yf ⟨d, .nextStr x, none, nm⟩ st ub K := by
  rw [wpStep_of _ rfl rfl]
  simp only [aop, hx, ho]
  rw [if_pos (by simpa using hro)]
  by_cases h : pos < s.length
  · rw [if_pos h, wpD_some]; exact h1 h
  · rw [if_neg h, wpD_one, app_v]; exact h2 h
theorem kS_mkMap : wpStep E Yf ⟨d, .mkMap, none, nm⟩ st ub K = kApp K st d ub { v := .map (objName d nm st.fb ub) ub, obs := [(objName d nm st.fb ub, ⟨ub, .mp 0 []⟩)] } := by
  rw [wpStep_of _ rfl rfl]
  simp only [aop, mkObj, wpD_some, name_eq]
  rfl
theorem kS_mapSet {α : Type} {f : α → V} {x y z : A} {l u ver : Nat} {k : Int} {a : α} (m : List (Int × α)) (hm : eval E st.tm x = .map l u) (hk : eval E st.tm y = .int .i64 k) (hv : (eval E st.tm z).strip = f a)
    (ho : st.ob l = some ⟨u, .mp ver (MP f m)⟩) (hro : st.ro ≤ u) (h : kApp K st d ub { v := none', obs := [(l, ⟨u, .mp (ver + 1) (MP f (mset m k a))⟩)] }) : wpStep E Yf ⟨d, .mapSet .int x y z, none, nm⟩ st ub K := by
  have hob : objMap st.ob l u = some (MP f m) := by simp [objMap, ho]
  have hver : objVer st.ob l = ver := by simp [objVer, ho]
  rw [wpStep_of _ rfl rfl]
  simp only [aop, hm, hk, isKey, if_true, hob, Option.bind_some, findKey_MP, hver, hv]
  rw [if_pos (by simpa using hro)]
  unfold mset at h
  cases hf : mfind m k with
  | none =>
    rw [hf] at h
    simp only [Option.map_none, wpD_some]
    simpa [MP] using h
  | some p =>
    rw [hf] at h
    simp only [Option.map_some, wpD_some]
    have e : (MP f m).set p.1 (V.int .i64 k, f a) = MP f (m.set p.1 (k, a)) := by simp [MP, List.map_set]
    rw [e]
    exact h
end
attribute [simp ↓] kL_nrm kL_exit kL_ret wpLoop_1 wpLoop_2 wpLoop_3 wpLoop_4 kS_rangeStr kS_mkMap
@[simp] theorem lenMapV_map (ob : Nat → Option Obj') (l u : Nat) : lenMapV ob (.map l u) = (objMap ob l u).map fun es => .int .i64 es.length := rfl

/-- The keys of a map, in the order in which they came. -/
def ddAdd (l : List Int) (k : Int) : List Int := if k ∈ l then l else l ++ [k]
def dd (l : List Int) : List Int := l.foldl ddAdd []
theorem dd_snoc (l : List Int) (k : Int) : dd (l ++ [k]) = ddAdd (dd l) k := by simp [dd]
theorem mfind_none {α : Type} {m : List (Int × α)} {k : Int} : mfind m k = none ↔ k ∉ m.map (·.1) := by
  induction m with
  | nil => simp [mfind]
  | cons p m ih =>
    obtain ⟨k', a⟩ := p
    by_cases h : k = k'
    · simp [mfind, h]
    · simp [mfind, h, ih]
theorem mfind_some {α : Type} {m : List (Int × α)} {k : Int} {i : Nat} {a : α} (h : mfind m k = some (i, a)) : ∃ hi : i < m.length, m[i] = (k, a) := by
  induction m generalizing i with
  | nil => cases h
  | cons p m ih =>
    obtain ⟨k', a'⟩ := p
    by_cases hk : k = k'
    · simp only [mfind, hk, if_true, Option.some.injEq, Prod.mk.injEq] at h
      obtain ⟨rfl, rfl⟩ := h
      exact ⟨by simp, by simp [hk]⟩
    · simp only [mfind, hk, if_false, Option.map_eq_some_iff, Prod.mk.injEq] at h
      obtain ⟨⟨j, b⟩, hj, rfl, rfl⟩ := h
      obtain ⟨h1, h2⟩ := ih hj
      exact ⟨by simpa using h1, by simpa using h2⟩
theorem mset_keys {α : Type} (m : List (Int × α)) (k : Int) (a : α) : (mset m k a).map (·.1) = ddAdd (m.map (·.1)) k := by
  unfold mset ddAdd
  cases h : mfind m k with
  | none => rw [if_neg (mfind_none.1 h)]; simp
  | some p =>
    obtain ⟨i, b⟩ := p
    obtain ⟨hi, hb⟩ := mfind_some h
    have hmem : k ∈ m.map (·.1) := List.mem_map.2 ⟨_, List.getElem_mem hi, by rw [hb]⟩
    rw [if_pos hmem, List.map_set]
    apply List.ext_getElem (by simp)
    intro j h1 h2
    simp only [List.getElem_set, List.getElem_map]
    split
    · rename_i hij; subst hij; rw [hb]
    · rfl
theorem mem_ddAdd {l : List Int} {k x : Int} : x ∈ ddAdd l k ↔ x ∈ l ∨ x = k := by
  unfold ddAdd
  split
  · constructor
    · exact .inl
    · rintro (h | rfl) <;> assumption
  · simp
theorem mem_dd {l : List Int} {x : Int} : x ∈ dd l ↔ x ∈ l := by
  have key : ∀ (l acc : List Int), x ∈ l.foldl ddAdd acc ↔ x ∈ acc ∨ x ∈ l := by
    intro l
    induction l with
    | nil => intro acc; simp
    | cons a l ih => intro acc; simp only [List.foldl_cons, ih, mem_ddAdd, List.mem_cons, or_assoc]
  simpa [dd] using key l []
theorem nodup_ddAdd {l : List Int} {k : Int} (h : l.Nodup) : (ddAdd l k).Nodup := by
  unfold ddAdd
  split
  · exact h
  · rename_i hk
    rw [List.nodup_append]
    refine ⟨h, by simp, ?_⟩
    intro a ha b hb e
    simp only [List.mem_singleton] at hb
    subst hb
    subst e
    exact hk ha
theorem nodup_dd (l : List Int) : (dd l).Nodup := by
  have key : ∀ (l acc : List Int), acc.Nodup → (l.foldl ddAdd acc).Nodup := by
    intro l
    induction l with
    | nil => intro acc h; exact h
    | cons a l ih => intro acc h; exact ih _ (nodup_ddAdd h)
  exact key l [] List.nodup_nil
/-- As many as there may be: then each is there. -/
theorem pigeon : ∀ (n : Nat) (l : List Int), l.Nodup → (∀ x ∈ l, 0 ≤ x ∧ x < n) → l.length ≤ n ∧ (l.length = n ↔ ∀ k : Nat, k < n → (k : Int) ∈ l)
  | 0, l, hn, hb => by
    have : l = [] := by
      cases l with
      | nil => rfl
      | cons a l => have := hb a (by simp); omega
    subst this
    simp
  | n + 1, l, hn, hb => by
    have hn' : (l.erase (n : Int)).Nodup := hn.erase _
    have hb' : ∀ x ∈ l.erase (n : Int), 0 ≤ x ∧ x < n := fun x hx => by
      have h1 := hb x (List.mem_of_mem_erase hx)
      have h2 : x ≠ n := fun e => by subst e; exact (List.Nodup.not_mem_erase hn) hx
      omega
    obtain ⟨h1, h2⟩ := pigeon n _ hn' hb'
    by_cases hm : (n : Int) ∈ l
    · have hl := List.length_erase_of_mem hm
      have hp : 0 < l.length := List.length_pos_of_mem hm
      refine ⟨by omega, ?_⟩
      constructor
      · intro e k hk
        rcases Nat.lt_succ_iff_lt_or_eq.1 hk with h | rfl
        · exact List.mem_of_mem_erase (h2.1 (by omega) k h)
        · exact hm
      · intro hall
        have := h2.2 (fun k hk => (List.Nodup.mem_erase_iff hn).2 ⟨by omega, hall k (by omega)⟩)
        omega
    · rw [List.erase_of_not_mem hm] at h1 h2
      refine ⟨by omega, ?_⟩
      constructor
      · intro e; omega
      · intro hall; exact absurd (hall n (by omega)) hm
end Go.Pv

/- The reference's runes are the decoder's. -/
namespace Go.Pv.T
open Go Go.Pv

def refOne (n b0 b1 b2 b3 : Nat) : Nat × Nat :=
  if b0 < 128 then (1, b0)
  else if 194 ≤ b0 ∧ b0 ≤ 223 then (if n < 2 ∨ b1 < 128 ∨ 191 < b1 then (1, 65533) else (2, 64 * (b0 - 192) + b1 - 128))
  else if 224 ≤ b0 ∧ b0 ≤ 239 then (if n < 3 ∨ b1 < 128 ∨ 191 < b1 ∨ b2 < 128 ∨ 191 < b2 then (1, 65533) else
    if 64 * (64 * (b0 - 224) + b1 - 128) + b2 - 128 < 2048 ∨ 55296 ≤ 64 * (64 * (b0 - 224) + b1 - 128) + b2 - 128 ∧ 64 * (64 * (b0 - 224) + b1 - 128) + b2 - 128 ≤ 57343 then (1, 65533) else (3, 64 * (64 * (b0 - 224) + b1 - 128) + b2 - 128))
  else if 240 ≤ b0 ∧ b0 ≤ 244 then (if n < 4 ∨ b1 < 128 ∨ 191 < b1 ∨ b2 < 128 ∨ 191 < b2 ∨ b3 < 128 ∨ 191 < b3 then (1, 65533) else
    if 64 * (64 * (64 * (b0 - 240) + b1 - 128) + b2 - 128) + b3 - 128 < 65536 ∨ 1114111 < 64 * (64 * (64 * (b0 - 240) + b1 - 128) + b2 - 128) + b3 - 128 then (1, 65533) else (4, 64 * (64 * (64 * (b0 - 240) + b1 - 128) + b2 - 128) + b3 - 128))
  else (1, 65533)
set_option maxRecDepth 100000 in
set_option maxHeartbeats 4000000 in
theorem refOne_eq (n b0 b1 b2 b3 : Nat) (_ : 1 ≤ n) (h0 : b0 < 256) (h1 : b1 < 256) (h2 : b2 < 256) (h3 : b3 < 256) : refOne n b0 b1 b2 b3 = ((Lib.decodeN n b0 b1 b2 b3).2, (Lib.decodeN n b0 b1 b2 b3).1) := by
  unfold refOne Lib.decodeN
  repeat' split
  all_goals first | (exfalso; omega) | (apply Prod.ext <;> simp only <;> omega)
theorem dlt_t {a b : Int} (h : a < b) : decide (a < b) = true := decide_eq_true h
theorem dlt_f {a b : Int} (h : b ≤ a) : decide (a < b) = false := decide_eq_false (by omega)
theorem dle_t {a b : Int} (h : a ≤ b) : decide (a ≤ b) = true := decide_eq_true h
theorem dle_f {a b : Int} (h : b < a) : decide (a ≤ b) = false := decide_eq_false (by omega)
theorem idxStr_at {s : List UInt8} {i : Nat} {x : Int} (kk : IntKind) (h : i < s.length) (hx : x = (i : Int)) : idxStrV (.str s) (.int kk x) = some (.int .u8 ((s.getD i 0).toNat : Nat)) := by
  subst hx
  simp [idxStrV, List.getElem?_eq_getElem h, List.getD]
set_option maxRecDepth 100000 in
set_option maxHeartbeats 8000000 in
theorem ev216 (s : List UInt8) (hs : s.length ≤ 1000000) (p : Nat) (h : p < s.length) : Ev E 216 [.str s, .int .i64 p]
    (.tup [.int .i64 ((refOne (s.length - p) (s.getD p 0).toNat (s.getD (p + 1) 0).toNat (s.getD (p + 2) 0).toNat (s.getD (p + 3) 0).toNat).1 : Nat),
      .int .i64 ((refOne (s.length - p) (s.getD p 0).toNat (s.getD (p + 1) 0).toNat (s.getD (p + 2) 0).toNat (s.getD (p + 3) 0).toNat).2 : Nat)]) := by
  have g0 := idxStr_at (s := s) (x := (p : Int)) .i64 h rfl
  have g1 : p + 1 < s.length → _ := fun h => idxStr_at (s := s) (x := (p : Int) + 1) .i64 h (by simp)
  have g2 : p + 2 < s.length → _ := fun h => idxStr_at (s := s) (x := (p : Int) + 2) .i64 h (by simp)
  have g3 : p + 3 < s.length → _ := fun h => idxStr_at (s := s) (x := (p : Int) + 3) .i64 h (by simp)
  have l0 := (s.getD p 0).toNat_lt
  have l1 := (s.getD (p + 1) 0).toNat_lt
  have l2 := (s.getD (p + 2) 0).toNat_lt
  have l3 := (s.getD (p + 3) 0).toNat_lt
  generalize (s.getD p 0).toNat = c0 at *
  generalize (s.getD (p + 1) 0).toNat = c1 at *
  generalize (s.getD (p + 2) 0).toNat = c2 at *
  generalize (s.getD (p + 3) 0).toNat = c3 at *
  have w0 : IntKind.i64.wrap (c0 : Int) = c0 := wrap64' (by omega) (by omega)
  have w1 : IntKind.i64.wrap (c1 : Int) = c1 := wrap64' (by omega) (by omega)
  have w2 : IntKind.i64.wrap (c2 : Int) = c2 := wrap64' (by omega) (by omega)
  have w3 : IntKind.i64.wrap (c3 : Int) = c3 := wrap64' (by omega) (by omega)
  refine Ev_wpK (af := F216) rfl ?_
  simp [F216, g0, convV, w0]
  by_cases a1 : (c0 : Int) < 128
  · simp [a1]
    exact endV_2 rfl (by simp [refOne, show c0 < 128 by omega]) (by simp [refOne, show c0 < 128 by omega]) rfl rfl
  have v0 : ∀ x : Int, -1000000000 ≤ x → x ≤ 1000000000 → IntKind.i64.wrap x = x := fun x h h' => wrap64' (by omega) (by omega)
  by_cases k2 : 194 ≤ (c0 : Int) ∧ (c0 : Int) ≤ 223
  · obtain ⟨k2a, k2b⟩ := k2
    by_cases hl : (s.length : Int) < (p : Int) + 2
    · simp (disch := omega) [a1, k2a, k2b, hl, v0, dle_f, List.getElem?_cons_zero]
      exact endV_2 rfl (by simp; unfold refOne; repeat' split
                           all_goals omega) (by simp; unfold refOne; repeat' split
                                                all_goals omega) rfl rfl
    have g1 := g1 (by omega)
    simp (disch := omega) [a1, k2a, k2b, hl, v0, dle_f, List.getElem?_cons_zero]
    refine wp_unroll 2 ?_
    by_cases d1 : (c1 : Int) < 128
    · simp (disch := omega) [g1, d1, v0, convV, List.getElem?_cons_zero]
      exact endV_2 rfl (by simp; unfold refOne; repeat' split
                           all_goals omega) (by simp; unfold refOne; repeat' split
                                                all_goals omega) rfl rfl
    by_cases d1' : 191 < (c1 : Int)
    · simp (disch := omega) [g1, d1, d1', v0, convV, List.getElem?_cons_zero]
      exact endV_2 rfl (by simp; unfold refOne; repeat' split
                           all_goals omega) (by simp; unfold refOne; repeat' split
                                                all_goals omega) rfl rfl
    simp (disch := omega) [g1, d1, d1', v0, convV, List.getElem?_cons_zero, dlt_f, dle_f]
    exact endV_2 rfl (by simp; unfold refOne; repeat' split
                         all_goals omega) (by simp; unfold refOne; repeat' split
                                              all_goals omega) rfl rfl
  by_cases k3 : 224 ≤ (c0 : Int) ∧ (c0 : Int) ≤ 239
  · obtain ⟨k3a, k3b⟩ := k3
    by_cases hl : (s.length : Int) < (p : Int) + 3
    · simp (disch := omega) [a1, k3a, k3b, hl, v0, dle_t, dle_f, List.getElem?_cons_zero]
      exact endV_2 rfl (by simp; unfold refOne; repeat' split
                           all_goals omega) (by simp; unfold refOne; repeat' split
                                                all_goals omega) rfl rfl
    have g1 := g1 (by omega)
    have g2 := g2 (by omega)
    simp (disch := omega) [a1, k3a, k3b, hl, v0, dle_t, dle_f, List.getElem?_cons_zero]
    refine wp_unroll 3 ?_
    by_cases d1 : (c1 : Int) < 128
    · simp (disch := omega) [g1, d1, v0, convV, List.getElem?_cons_zero]
      exact endV_2 rfl (by simp; unfold refOne; repeat' split
                           all_goals omega) (by simp; unfold refOne; repeat' split
                                                all_goals omega) rfl rfl
    by_cases e1 : 191 < (c1 : Int)
    · simp (disch := omega) [g1, d1, e1, v0, convV, List.getElem?_cons_zero]
      exact endV_2 rfl (by simp; unfold refOne; repeat' split
                           all_goals omega) (by simp; unfold refOne; repeat' split
                                                all_goals omega) rfl rfl
    by_cases d2 : (c2 : Int) < 128
    · simp (disch := omega) [g1, g2, d1, e1, d2, v0, convV, List.getElem?_cons_zero]
      exact endV_2 rfl (by simp; unfold refOne; repeat' split
                           all_goals omega) (by simp; unfold refOne; repeat' split
                                                all_goals omega) rfl rfl
    by_cases e2 : 191 < (c2 : Int)
    · simp (disch := omega) [g1, g2, d1, e1, d2, e2, v0, convV, List.getElem?_cons_zero]
      exact endV_2 rfl (by simp; unfold refOne; repeat' split
                           all_goals omega) (by simp; unfold refOne; repeat' split
                                                all_goals omega) rfl rfl
    by_cases f1 : 64 * (64 * ((c0 : Int) - 224) + c1 - 128) + c2 - 128 < 2048
    · simp (disch := omega) [g1, g2, d1, e1, d2, e2, f1, v0, convV, List.getElem?_cons_zero]
      exact endV_2 rfl (by simp; unfold refOne; repeat' split
                           all_goals omega) (by simp; unfold refOne; repeat' split
                                                all_goals omega) rfl rfl
    by_cases f2 : 55296 ≤ 64 * (64 * ((c0 : Int) - 224) + c1 - 128) + c2 - 128
    · by_cases f3 : 64 * (64 * ((c0 : Int) - 224) + c1 - 128) + c2 - 128 ≤ 57343
      · simp (disch := omega) [g1, g2, d1, e1, d2, e2, f1, f2, f3, v0, dlt_f, convV, List.getElem?_cons_zero]
        exact endV_2 rfl (by simp; unfold refOne; repeat' split
                             all_goals omega) (by simp; unfold refOne; repeat' split
                                                  all_goals omega) rfl rfl
      simp (disch := omega) [g1, g2, d1, e1, d2, e2, f1, f2, f3, v0, dlt_f, convV, List.getElem?_cons_zero]
      exact endV_2 rfl (by simp; unfold refOne; repeat' split
                           all_goals omega) (by simp; unfold refOne; repeat' split
                                                all_goals omega) rfl rfl
    simp (disch := omega) [g1, g2, d1, e1, d2, e2, f1, f2, v0, dlt_f, convV, List.getElem?_cons_zero]
    exact endV_2 rfl (by simp; unfold refOne; repeat' split
                         all_goals omega) (by simp; unfold refOne; repeat' split
                                              all_goals omega) rfl rfl
  by_cases k4 : 240 ≤ (c0 : Int) ∧ (c0 : Int) ≤ 244
  · obtain ⟨k4a, k4b⟩ := k4
    by_cases hl : (s.length : Int) < (p : Int) + 4
    · simp (disch := omega) [a1, k4a, k4b, hl, v0, dle_t, dle_f, List.getElem?_cons_zero]
      exact endV_2 rfl (by simp; unfold refOne; repeat' split
                           all_goals omega) (by simp; unfold refOne; repeat' split
                                                all_goals omega) rfl rfl
    have g1 := g1 (by omega)
    have g2 := g2 (by omega)
    have g3 := g3 (by omega)
    simp (disch := omega) [a1, k4a, k4b, hl, v0, dle_t, dle_f, List.getElem?_cons_zero]
    refine wp_unroll 4 ?_
    by_cases d1 : (c1 : Int) < 128
    · simp (disch := omega) [g1, d1, v0, convV, List.getElem?_cons_zero]
      exact endV_2 rfl (by simp; unfold refOne; repeat' split
                           all_goals omega) (by simp; unfold refOne; repeat' split
                                                all_goals omega) rfl rfl
    by_cases e1 : 191 < (c1 : Int)
    · simp (disch := omega) [g1, d1, e1, v0, convV, List.getElem?_cons_zero]
      exact endV_2 rfl (by simp; unfold refOne; repeat' split
                           all_goals omega) (by simp; unfold refOne; repeat' split
                                                all_goals omega) rfl rfl
    by_cases d2 : (c2 : Int) < 128
    · simp (disch := omega) [g1, g2, d1, e1, d2, v0, convV, List.getElem?_cons_zero]
      exact endV_2 rfl (by simp; unfold refOne; repeat' split
                           all_goals omega) (by simp; unfold refOne; repeat' split
                                                all_goals omega) rfl rfl
    by_cases e2 : 191 < (c2 : Int)
    · simp (disch := omega) [g1, g2, d1, e1, d2, e2, v0, convV, List.getElem?_cons_zero]
      exact endV_2 rfl (by simp; unfold refOne; repeat' split
                           all_goals omega) (by simp; unfold refOne; repeat' split
                                                all_goals omega) rfl rfl
    by_cases d3 : (c3 : Int) < 128
    · simp (disch := omega) [g1, g2, g3, d1, e1, d2, e2, d3, v0, convV, List.getElem?_cons_zero]
      exact endV_2 rfl (by simp; unfold refOne; repeat' split
                           all_goals omega) (by simp; unfold refOne; repeat' split
                                                all_goals omega) rfl rfl
    by_cases e3 : 191 < (c3 : Int)
    · simp (disch := omega) [g1, g2, g3, d1, e1, d2, e2, d3, e3, v0, convV, List.getElem?_cons_zero]
      exact endV_2 rfl (by simp; unfold refOne; repeat' split
                           all_goals omega) (by simp; unfold refOne; repeat' split
                                                all_goals omega) rfl rfl
    by_cases f1 : 64 * (64 * (64 * ((c0 : Int) - 240) + c1 - 128) + c2 - 128) + c3 - 128 < 65536
    · simp (disch := omega) [g1, g2, g3, d1, e1, d2, e2, d3, e3, f1, v0, convV, List.getElem?_cons_zero]
      exact endV_2 rfl (by simp; unfold refOne; repeat' split
                           all_goals omega) (by simp; unfold refOne; repeat' split
                                                all_goals omega) rfl rfl
    by_cases f2 : 1114111 < 64 * (64 * (64 * ((c0 : Int) - 240) + c1 - 128) + c2 - 128) + c3 - 128
    · simp (disch := omega) [g1, g2, g3, d1, e1, d2, e2, d3, e3, f1, f2, v0, convV, List.getElem?_cons_zero]
      exact endV_2 rfl (by simp; unfold refOne; repeat' split
                           all_goals omega) (by simp; unfold refOne; repeat' split
                                                all_goals omega) rfl rfl
    simp (disch := omega) [g1, g2, g3, d1, e1, d2, e2, d3, e3, f1, f2, v0, dle_t, dle_f, convV, List.getElem?_cons_zero]
    exact endV_2 rfl (by simp; unfold refOne; repeat' split
                         all_goals omega) (by simp; unfold refOne; repeat' split
                                              all_goals omega) rfl rfl
  have q : c0 < 194 ∨ 244 < c0 := by omega
  rcases q with q | q
  · simp (disch := omega) [a1, dle_f]
    exact endV_2 rfl (by simp; unfold refOne; repeat' split
                         all_goals omega) (by simp; unfold refOne; repeat' split
                                              all_goals omega) rfl rfl
  · simp (disch := omega) [a1, dle_t, dle_f]
    exact endV_2 rfl (by simp; unfold refOne; repeat' split
                         all_goals omega) (by simp; unfold refOne; repeat' split
                                              all_goals omega) rfl rfl
end Go.Pv.T

/- Runes of a text, the reference's way. -/
namespace Go.Pv.T
open Go Go.Pv

@[simp] theorem str_strip (s : List UInt8) : (V.str s).strip = .str s := rfl
@[simp] theorem str_pureTop (s : List UInt8) : (V.str s).pureTop = true := rfl
@[simp] theorem str_pureLeaf (s : List UInt8) : (V.str s).pureLeaf = true := rfl
@[simp] theorem sl_strip (t : Option (Nat × Nat)) (nl : Bool) (n : Nat) (cs : List V) : (V.sl t nl n cs).strip = .sl none nl n cs := rfl
@[simp] theorem sl_strip1 (t : Option (Nat × Nat)) (nl : Bool) (n : Nat) (cs : List V) : (V.sl t nl n cs).strip1 = .sl none nl n cs := rfl
@[simp] theorem sl_pureTop (nl : Bool) (n : Nat) (cs : List V) : (V.sl none nl n cs).pureTop = true := rfl
@[simp] theorem sl_pureLeaf (nl : Bool) (n : Nat) (cs : List V) : (V.sl none nl n cs).pureLeaf = true := rfl
/-- The rune at a place, and its width. -/
def rU (s : List UInt8) (p : Nat) : Nat := (Utf8.decode ⟨s.toArray⟩ p).1
def rW (s : List UInt8) (p : Nat) : Nat := (Utf8.decode ⟨s.toArray⟩ p).2
theorem one_eq {s : List UInt8} {p : Nat} (h : p < s.length) : refOne (s.length - p) (s.getD p 0).toNat (s.getD (p + 1) 0).toNat (s.getD (p + 2) 0).toNat (s.getD (p + 3) 0).toNat = (rW s p, rU s p) := by
  rw [refOne_eq _ _ _ _ _ (by omega) (s.getD p 0).toNat_lt (s.getD (p + 1) 0).toNat_lt (s.getD (p + 2) 0).toNat_lt (s.getD (p + 3) 0).toNat_lt]
  unfold rW rU
  rw [Lib.decode_N]
set_option maxRecDepth 100000 in
theorem one_w (n b0 b1 b2 b3 : Nat) (hn : 1 ≤ n) : 1 ≤ (refOne n b0 b1 b2 b3).1 ∧ (refOne n b0 b1 b2 b3).1 ≤ n := by
  unfold refOne
  repeat' split
  all_goals (simp only; omega)
set_option maxRecDepth 100000 in
theorem one_bad (n b0 b1 b2 b3 : Nat) (h1 : b1 < 256) (_h2 : b2 < 256) (h : (refOne n b0 b1 b2 b3).2 = 65533) : (refOne n b0 b1 b2 b3).1 = 1 ∨ (refOne n b0 b1 b2 b3).1 = 3 := by
  revert h
  unfold refOne
  repeat' split
  all_goals (intro h; simp at h ⊢; try omega)
theorem rW_pos {s : List UInt8} {p : Nat} (h : p < s.length) : 1 ≤ rW s p ∧ p + rW s p ≤ s.length := by
  have := one_w (s.length - p) (s.getD p 0).toNat (s.getD (p + 1) 0).toNat (s.getD (p + 2) 0).toNat (s.getD (p + 3) 0).toNat (by omega)
  rw [one_eq h] at this
  simp only at this
  omega
theorem rU_bad {s : List UInt8} {p : Nat} (h : p < s.length) (hu : rU s p = 65533) : rW s p = 1 ∨ rW s p = 3 := by
  have := one_bad (s.length - p) (s.getD p 0).toNat (s.getD (p + 1) 0).toNat (s.getD (p + 2) 0).toNat (s.getD (p + 3) 0).toNat (s.getD (p + 1) 0).toNat_lt (s.getD (p + 2) 0).toNat_lt
  rw [one_eq h] at this
  exact this hu
/-- The runes from a place on. -/
def RN (s : List UInt8) (p : Nat) : List Int := (runesL s (s.length - p) p).map fun r => ((r : Nat) : Int)
theorem runesI_eq (s : List UInt8) : runesI s = RN s 0 := rfl
theorem runesL_fuel (s : List UInt8) : ∀ (b b' p : Nat), s.length ≤ p + b → s.length ≤ p + b' → runesL s b p = runesL s b' p
  | 0, 0, _, _, _ => rfl
  | 0, b' + 1, p, h, _ => by
    unfold runesL
    rw [if_neg (by omega)]
  | b + 1, 0, p, _, h => by
    unfold runesL
    rw [if_neg (by omega)]
  | b + 1, b' + 1, p, h, h' => by
    unfold runesL
    by_cases hp : p < s.length
    · rw [if_pos hp, if_pos hp]
      have := (rW_pos hp).1
      unfold rW at this
      rw [runesL_fuel s b b' _ (by omega) (by omega)]
    · rw [if_neg hp, if_neg hp]
theorem RN_step {s : List UInt8} {p : Nat} (h : p < s.length) : RN s p = (rU s p : Int) :: RN s (p + rW s p) := by
  have hw := rW_pos h
  unfold RN
  obtain ⟨n, hn⟩ : ∃ n, s.length - p = n + 1 := ⟨s.length - p - 1, by omega⟩
  rw [hn]
  conv => lhs; unfold runesL
  rw [if_pos h, List.map_cons]
  congr 2
  exact runesL_fuel s _ _ _ (by unfold rW at hw; omega) (by unfold rW at hw ⊢; omega)
theorem RN_end {s : List UInt8} {p : Nat} (h : s.length ≤ p) : RN s p = [] := by
  unfold RN
  rw [show s.length - p = 0 by omega]
  rfl
theorem runesL_len (s : List UInt8) : ∀ (b p : Nat), (runesL s b p).length ≤ b
  | 0, _ => Nat.le_refl _
  | b + 1, p => by
    unfold runesL
    split
    · have := runesL_len s b (p + (Utf8.decode ⟨s.toArray⟩ p).2)
      simp only [List.length_cons]
      omega
    · simp
theorem runesI_len (s : List UInt8) : (runesI s).length ≤ s.length := by
  rw [runesI_eq, RN, List.length_map]
  exact runesL_len s _ _
/-- Is it all UTF-8 from a place on? -/
def VD (s : List UInt8) (p : Nat) : Bool := Lib.validD (s.drop p)
theorem dec_drop (s : List UInt8) (p : Nat) : Lib.decodeL (s.drop p) = (rU s p, rW s p) := Lib.decodeL_drop ⟨s.toArray⟩ p
theorem VD_step {s : List UInt8} {p : Nat} (h : p < s.length) : VD s p = if rU s p = 65533 ∧ rW s p = 1 then false else VD s (p + rW s p) := by
  have hne : s.drop p ≠ [] := fun e => by have := congrArg List.length e; rw [List.length_drop] at this; simp at this; omega
  unfold VD
  rw [Lib.validD_step _ hne, dec_drop]
  simp only [List.drop_drop]
theorem VD_end {s : List UInt8} {p : Nat} (h : s.length ≤ p) : VD s p = true := by
  unfold VD
  rw [List.drop_of_length_le h]
  rfl
theorem ev216' (s : List UInt8) (hs : s.length ≤ 1000000) (p : Nat) (h : p < s.length) : Ev E 216 [.str s, .int .i64 p] (.tup [.int .i64 (rW s p : Nat), .int .i64 (rU s p : Nat)]) := by
  have := ev216 s hs p h
  rw [one_eq h] at this
  exact this

theorem ev172 (s : List UInt8) (hs : s.length ≤ 1000000) : Ev E 172 [.str s] (.sl (some (0, 1)) false (runesI s).length ((runesI s).flatMap intC)) := by
  refine Ev_wpK (af := F172) rfl ?_
  simp [F172]
  refine kS_buildSl (cs := []) rfl rfl rfl ?_
  simp
  refine wp_loopF (n := s.length) [(3, 24)] (fun k st => ∃ p u pre, k = s.length - p ∧ p ≤ s.length ∧ st.tm 4 = .int .i64 (p : Nat) ∧ runesI s = pre ++ RN s p ∧ st.tm 3 = .sl (some (u, 1)) false pre.length (pre.flatMap intC) ∧ st.tk u = true) rfl rfl
    ⟨0, 64, [], by simp [runesI_eq]⟩ ?_
  rintro k st ⟨p, u, pre, rfl, hp, h4, hpre, h3, hu⟩ f
  have f0 : st.tm 0 = .str s := by rw [f.t 0 (by simp)]; simp
  have hpl : pre.length ≤ 1000000 := by
    have h1 := congrArg List.length hpre
    have h2 := runesI_len s
    rw [List.length_append] at h1
    omega
  by_cases hlt : p < s.length
  · have hw := rW_pos hlt
    simp [h4, f0, hlt]
    refine kS_ev (ev216' s hs p hlt) (by simp) rfl rfl ?_
    simp [h3]
    refine kS_buildSl (cs := [.int .i64 (rU s p)]) (by simp [splice]) rfl rfl ?_
    simp
    refine kS_append_tok (u := u) (nl := false) (n := pre.length) (cs := pre.flatMap intC) (ys := [.int .i64 (rU s p)]) (by simp) (by simp [app_tk, hu]) (by simp [slCells]) (by simp) (by rw [flatMap_len intC_len]) (by decide) rfl (by simp; omega) (by simp; omega) ?_
    simp [h4]
    refine ⟨s.length - (p + rW s p), by omega, p + rW s p, by omega, by omega, by rw [wrap64' (by omega) (by omega)]; simp, _, pre ++ [(rU s p : Int)], ?_, ?_, Or.inl rfl⟩
    · rw [hpre, RN_step hlt]; simp
    · simp [intC]
  · have : p = s.length := by omega
    subst this
    simp [h4, f0]
    rw [RN_end (Nat.le_refl _), List.append_nil] at hpre
    exact endV_tokG (u := u) (by simp [f.d]) (by simp [h3, hpre]) (by simpa using hu)

theorem ev174 (s : List UInt8) (hs : s.length ≤ 1000000) : Ev E 174 [.str s] (.bool (Lib.validD s)) := by
  refine Ev_wpK (af := F174) rfl ?_
  simp [F174]
  refine wp_loopF (n := s.length) [(2, 24)] (fun k st => ∃ p, k = s.length - p ∧ p ≤ s.length ∧ st.tm 3 = .int .i64 (p : Nat) ∧ Lib.validD s = VD s p) rfl rfl
    ⟨0, by simp [VD]⟩ ?_
  rintro k st ⟨p, rfl, hp, h3, hv⟩ f
  have f0 : st.tm 0 = .str s := by rw [f.t 0 (by simp)]; simp
  by_cases hlt : p < s.length
  · have hw := rW_pos hlt
    rw [VD_step hlt] at hv
    simp [h3, f0, hlt]
    refine kS_ev (ev216' s hs p hlt) (by simp) rfl rfl ?_
    by_cases hb : rU s p = 65533
    · rcases rU_bad hlt hb with h1 | h1
      · rw [if_pos ⟨hb, h1⟩] at hv
        simp [hb, h1]
        exact endV_1 (by simp [f.d]) (by simp [hv]) rfl
      · rw [if_neg (by omega)] at hv
        simp [hb, h1, h3]
        exact ⟨s.length - (p + 3), by omega, p + 3, rfl, by omega, by rw [wrap64' (by omega) (by omega)]; simp, by rw [hv, h1]⟩
    · rw [if_neg (by omega)] at hv
      have hb' : ((rU s p : Int) == 65533) = false := by rw [beq_eq_false_iff_ne]; omega
      simp [hb', h3]
      exact ⟨s.length - (p + rW s p), by omega, p + rW s p, rfl, by omega, by rw [wrap64' (by omega) (by omega)]; simp, hv⟩
  · have : p = s.length := by omega
    subst this
    rw [VD_end (Nat.le_refl _)] at hv
    simp [h3, f0]
    exact endV_1 (by simp [f.d]) (by simp [hv]) rfl
end Go.Pv.T
