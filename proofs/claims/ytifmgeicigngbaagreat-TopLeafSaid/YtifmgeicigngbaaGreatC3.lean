/- A part of the proof. -/
import Derived.Test.YtifmgeicigngbaaGreatN3
import Derived.Test.YtifmgeicigngbaaGreatProg
set_option maxRecDepth 100000
set_option maxHeartbeats 8000000
set_option linter.all false
namespace Go.Proofs.Tryz
open Go.AL
noncomputable def c112:ae:=(.seq (aU 75 f112.cO.cA) (.seq (aU 75 f112.cO.cB.cA) (.seq (aU 75 f112.cO.cB.cB.cA) (.seq (.ops [⟨(some 7),none,.mv true (.c (.bool false))⟩]) (.seq (.seq (aU 75 f112.cO.cB.cB.cB.cB.cA.cA) (.cond (.t 30) (.seq (aU 75 f112.cO.cB.cB.cB.cB.cA.cB.cA.cA) (.block 0 (.loop (.seq (.ops [⟨(some 36),none,.bin .lss (.t 35) (.t 34)⟩]) (.seq (.cond (.t 36) (.skip) (.exit 0)) (aU 75 f112.cO.cB.cB.cB.cB.cA.cB.cA.cB.cB.cB.cB.cB)))))) (aU 75 f112.cO.cB.cB.cB.cB.cA.cB.cB))) (aU 75 f112.cO.cB.cB.cB.cB.cB))))))
noncomputable def c142:ae:=(.seq (.ops [⟨(some 5),none,.mv true (.c (.bool false))⟩]) (.seq (aU 70 f142.cO.cB.cA) (.seq (aU 70 f142.cO.cB.cB.cA) (.seq (.seq (aU 70 f142.cO.cB.cB.cB.cA.cA) (.block 0 (.loop (.seq (.ops [⟨(some 28),none,.bin .lss (.t 27) (.t 26)⟩]) (.seq (.cond (.t 28) (.skip) (.exit 0)) (.seq (.block 1 (.seq (aU 70 f142.cO.cB.cB.cB.cA.cB.cB.cB.cB.cB.cA.cB.cA) (.seq (.seq (.cM [⟨(some 31),none,.load (.box 6) false 1 (.t 6)⟩,⟨(some 32),none,.bin .gtr (.t 31) (.c (.int .i64 0))⟩,⟨(some 33),none,.mv false (.t 32)⟩,⟨(some 34),(some (33,true)),.load (.box 8) false 1 (.t 8)⟩,⟨(some 35),(some (33,true)),.load (.box 0) false 1 (.t 0)⟩,⟨(some 36),(some (33,true)),.load (.box 6) false 1 (.t 6)⟩,⟨(some 37),(some (33,true)),.bin .sub (.t 36) (.c (.int .i64 1))⟩,⟨(some 38),(some (33,true)),.indexAddr 1 (.t 35) (.t 37)⟩,⟨(some 39),(some (33,true)),.load .ref false 1 (.t 38)⟩,⟨(some 40),(some (33,true)),.bin .leq (.t 34) (.t 39)⟩,⟨(some 41),none,.pick (.t 33) (.t 40) (.c (.bool false))⟩,⟨(some 42),none,.mv false (.t 41)⟩,⟨(some 43),(some (42,false)),.load (.box 1) true 5 (.t 1)⟩,⟨(some 44),(some (42,false)),.load (.box 6) false 1 (.t 6)⟩,⟨(some 45),(some (42,false)),.load (.box 8) false 1 (.t 8)⟩,⟨(some 46),(some (42,false)),.load (.box 3) false 1 (.t 3)⟩,⟨(some 47),(some (42,false)),.call 143 [(.t 43),(.t 44),(.t 45),(.t 46)]⟩,⟨(some 48),(some (42,false)),.not (.t 47)⟩,⟨(some 49),none,.pick (.t 42) (.c (.bool true)) (.t 48)⟩])<|.cond (.t 49) (.exit 1) (.skip)) (.seq (aU 70 f142.cO.cB.cB.cB.cA.cB.cB.cB.cB.cB.cA.cB.cB.cB.cA) (aU 70 f142.cO.cB.cB.cB.cA.cB.cB.cB.cB.cB.cA.cB.cB.cB.cB))))) (.ops [⟨(some 69),none,.bin .add (.t 27) (.c (.int .i64 1))⟩,⟨(some 27),none,.mv false (.t 69)⟩]))))))) (.seq (.ops [⟨(some 5),none,.mv true (.c (.bool true))⟩])<|.ret)))))
noncomputable def c122:ae:=(.seq (.ops [⟨(some 2),none,.box 36 10 (.t 0)⟩,⟨(some 4),none,.mv true (.c (.slice .nil []))⟩]) (.seq (.ops [⟨(some 5),none,.mv true (.c (.slice .nil []))⟩]) (.seq (.seq (aU 50 f122.cO.cB.cB.cA.cA) (.block 0 (.loop (.seq (.ops [⟨(some 13),none,.bin .lss (.t 12) (.t 11)⟩]) (.seq (.cond (.t 13) (.skip) (.exit 0)) (.seq (.block 1 (.seq (.ops [⟨(some 14),none,.mv false (.t 12)⟩,⟨(some 6),none,.mv true (.t 14)⟩]) (.seq (aU 50 f122.cO.cB.cB.cA.cB.cB.cB.cB.cB.cA.cB.cB.cA) (.seq (aU 50 f122.cO.cB.cB.cA.cB.cB.cB.cB.cB.cA.cB.cB.cB.cA) (aU 50 f122.cO.cB.cB.cA.cB.cB.cB.cB.cB.cA.cB.cB.cB.cB))))) (.ops [⟨(some 48),none,.bin .add (.t 12) (.c (.int .i64 1))⟩,⟨(some 12),none,.mv false (.t 48)⟩]))))))) (.seq (.ops [⟨(some 49),none,.mv false (.t 5)⟩,⟨(some 4),none,.mv true (.t 49)⟩])<|.ret))))
noncomputable def c127:ae:=(.seq (aU 46 f127.cO.cA) (.seq (.ops [⟨(some 7),none,.mv true (.c (.slice .nil []))⟩]) (.seq (.seq (aU 46 f127.cO.cB.cB.cA.cA) (.block 0 (.loop (.seq (.ops [⟨(some 14),none,.bin .lss (.t 13) (.t 12)⟩]) (.seq (.cond (.t 14) (.skip) (.exit 0)) (aU 46 f127.cO.cB.cB.cA.cB.cB.cB.cB.cB)))))) (aU 46 f127.cO.cB.cB.cB))))
noncomputable def c29:ae:=(.seq (.ops [⟨(some 1),none,.box 30 3 (.t 0)⟩,⟨(some 2),none,.mv true (.c (.bool false))⟩]) (.seq (.ops [⟨(some 3),none,.mv true (.f 71)⟩]) (.seq (.ops [⟨(some 4),none,.mv true (.f 73)⟩]) (.seq (aU 41 f29.cO.cB.cB.cB.cA) (.ret)))))
noncomputable def c40:ae:=(.seq (aU 27 f40.cO.cA) (.seq (aU 27 f40.cO.cB.cA) (.seq (aU 27 f40.cO.cB.cB.cA) (aU 27 f40.cO.cB.cB.cB))))
noncomputable def c84:ae:=(.seq (.ops [⟨(some 5),none,.box 89 5 (.t 0)⟩]) (.seq (aU 41 f84.cO.cB.cA) (aU 41 f84.cO.cB.cB)))
noncomputable def c174:ae:=(.seq (aU 34 f174.cO.cA) (.seq (.seq (aU 34 f174.cO.cB.cA.cA) (.block 0 (.loop (.seq (aU 34 f174.cO.cB.cA.cB.cB.cB.cA) (aU 34 f174.cO.cB.cA.cB.cB.cB.cB))))) (.seq (.ops [⟨(some 8),none,.mv true (.c (.bool false))⟩])<|.ret)))
noncomputable def c158:ae:=(.seq (aU 27 f158.cO.cA) (.seq (.seq (.ops [⟨(some 5),none,.mv true (.c (.int .i64 1))⟩]) (.block 0 (.loop (.seq (aU 27 f158.cO.cB.cA.cB.cB.cB.cA) (aU 27 f158.cO.cB.cA.cB.cB.cB.cB))))) (.seq (.ops [⟨(some 4),none,.mv true (.c (.bool false))⟩])<|.ret)))
noncomputable def c7:ae:=(.seq (.ops [⟨(some 0),none,.mv true (.c (.bool false))⟩]) (.seq (aU 30 f7.cO.cB.cA) (aU 30 f7.cO.cB.cB)))
noncomputable def c98:ae:=(.seq (aU 31 f98.cO.cA) (.seq (.cM [⟨(some 8),none,.fieldAddr 1 (.t 3)⟩,⟨(some 9),none,.load (.box 3) false 1 (.t 8)⟩,⟨(some 10),none,.lI (.t 9)⟩,⟨(some 11),none,.fieldAddr 1 (.t 4)⟩,⟨(some 12),none,.load (.box 4) false 1 (.t 11)⟩,⟨(some 13),none,.lI (.t 12)⟩,⟨(some 6),none,.mv true (.t 10)⟩,⟨(some 7),none,.mv true (.t 13)⟩])<|.seq (.cM [⟨(some 14),none,.mv false (.t 6)⟩,⟨(some 15),none,.mv false (.t 7)⟩,⟨(some 16),none,.bin .lss (.t 14) (.t 15)⟩,⟨(some 17),none,.mv false (.t 16)⟩,⟨(some 18),(some (17,false)),.mv false (.t 6)⟩,⟨(some 19),(some (17,false)),.mv false (.t 7)⟩,⟨(some 20),(some (17,false)),.bin .eql (.t 18) (.t 19)⟩,⟨(some 21),(some (17,false)),.mv false (.t 20)⟩,⟨(some 22),(some (21,true)),.load (.box 2) true 11 (.t 2)⟩,⟨(some 23),(some (21,true)),.load (.box 3) true 2 (.t 3)⟩,⟨(some 24),(some (21,true)),.call 99 [(.t 22),(.t 23)]⟩,⟨(some 25),(some (21,true)),.load (.box 2) true 11 (.t 2)⟩,⟨(some 26),(some (21,true)),.load (.box 4) true 2 (.t 4)⟩,⟨(some 27),(some (21,true)),.call 99 [(.t 25),(.t 26)]⟩,⟨(some 28),(some (21,true)),.bin .gtr (.t 24) (.t 27)⟩,⟨(some 29),(some (17,false)),.pick (.t 21) (.t 28) (.c (.bool false))⟩,⟨(some 30),none,.pick (.t 17) (.c (.bool true)) (.t 29)⟩,⟨(some 5),none,.mv true (.t 30)⟩])<|.ret))
noncomputable def c23:ae:=(.seq (.ops [⟨(some 0),none,.alloc 30 [(.slice .nil []),(.slice .nil []),(.slice .nil [])]⟩]) (.seq (aU 16 f23.cO.cB.cA) (.ret)))
noncomputable def c115:ae:=(aU 24 f115.cO)
noncomputable def c106:ae:=(aU 24 f106.cO)
noncomputable def c16:ae:=(aU 20 f16.cO)
noncomputable def c148:ae:=(aU 19 f148.cO)
noncomputable def c153:ae:=(aU 19 f153.cO)
noncomputable def c145:ae:=(aU 19 f145.cO)
noncomputable def c176:ae:=(aU 14 f176.cO)
noncomputable def c173:ae:=(aU 17 f173.cO)
noncomputable def c117:ae:=(aU 20 f117.cO)
noncomputable def c163:ae:=(aU 17 f163.cO)
noncomputable def c21:ae:=(aU 5 f21.cO)
noncomputable def c86:ae:=(aU 18 f86.cO)
noncomputable def c166:ae:=(aU 16 f166.cO)
noncomputable def c6:ae:=(aU 15 f6.cO)
noncomputable def c110:ae:=(aU 11 f110.cO)
noncomputable def c79:ae:=(aU 11 f79.cO)
noncomputable def c64:ae:=(aU 10 f64.cO)
noncomputable def c119:ae:=(aU 8 f119.cO)
noncomputable def c118:ae:=(aU 9 f118.cO)
noncomputable def c81:ae:=(aU 9 f81.cO)
noncomputable def c74:ae:=(aU 9 f74.cO)
noncomputable def c78:ae:=(aU 8 f78.cO)
noncomputable def c116:ae:=(aU 6 f116.cO)
noncomputable def c100:ae:=(aU 5 f100.cO)
noncomputable def c70:ae:=(aU 4 f70.cO)
end Go.Proofs.Tryz
