/- A part of the proof. -/
import Derived.Test.YtifmgeicigngbaaGreatN3
import Derived.Test.YtifmgeicigngbaaGreatProg
set_option maxRecDepth 100000
set_option maxHeartbeats 8000000
set_option linter.all false
namespace Go.Proofs.Tryz
open Go.AL
noncomputable def c50:ae:=(.seq (aP 81 f50.cO.cA) (.seq (.ops [⟨(some 5),none,.mv true (.c (.slice .nil []))⟩]) (.seq (.ops [⟨(some 6),none,.mv true (.c (.int .i64 0))⟩,⟨(some 7),none,.mv true (.c (.int .i64 0))⟩]) (.seq (.seq (aP 81 f50.cO.cB.cB.cB.cA.cA) (.block 0 (.loop (.seq (.ops [⟨(some 15),none,.bin .lss (.t 14) (.t 13)⟩]) (.seq (.cond (.t 15) (.skip) (.exit 0)) (.seq (.block 1 (.seq (aP 81 f50.cO.cB.cB.cB.cA.cB.cB.cB.cB.cB.cA.cB.cA) (.seq (aP 81 f50.cO.cB.cB.cB.cA.cB.cB.cB.cB.cB.cA.cB.cB.cA) (.seq (.block 2 (.loop (.seq (aP 81 f50.cO.cB.cB.cB.cA.cB.cB.cB.cB.cB.cA.cB.cB.cB.cA.cB.cB.cA) (.seq (.block 3 (.seq (aP 81 f50.cO.cB.cB.cB.cA.cB.cB.cB.cB.cB.cA.cB.cB.cB.cA.cB.cB.cB.cA.cB.cA) (aP 81 f50.cO.cB.cB.cB.cA.cB.cB.cB.cB.cB.cA.cB.cB.cB.cA.cB.cB.cB.cA.cB.cB))) (aP 81 f50.cO.cB.cB.cB.cA.cB.cB.cB.cB.cB.cA.cB.cB.cB.cA.cB.cB.cB.cB))))) (aP 81 f50.cO.cB.cB.cB.cA.cB.cB.cB.cB.cB.cA.cB.cB.cB.cB))))) (.ops [⟨(some 79),none,.bin .add (.t 14) (.c (.int .i64 1))⟩,⟨(some 14),none,.mv false (.t 79)⟩]))))))) (.seq (.ops [⟨(some 80),none,.mv false (.t 5)⟩,⟨(some 4),none,.mv true (.t 80)⟩])<|.ret)))))
noncomputable def c142:ae:=(.seq (.ops [⟨(some 5),none,.mv true (.c (.bool false))⟩]) (.seq (aP 70 f142.cO.cB.cA) (.seq (aP 70 f142.cO.cB.cB.cA) (.seq (.seq (aP 70 f142.cO.cB.cB.cB.cA.cA) (.block 0 (.loop (.seq (.ops [⟨(some 28),none,.bin .lss (.t 27) (.t 26)⟩]) (.seq (.cond (.t 28) (.skip) (.exit 0)) (.seq (.block 1 (.seq (aP 70 f142.cO.cB.cB.cB.cA.cB.cB.cB.cB.cB.cA.cB.cA) (.seq (.seq (.dc [⟨(some 31),none,.load (.box 6) false 1 (.t 6)⟩,⟨(some 32),none,.bin .gtr (.t 31) (.c (.int .i64 0))⟩,⟨(some 33),none,.mv false (.t 32)⟩,⟨(some 34),(some (33,true)),.load (.box 8) false 1 (.t 8)⟩,⟨(some 35),(some (33,true)),.load (.box 0) false 1 (.t 0)⟩,⟨(some 36),(some (33,true)),.load (.box 6) false 1 (.t 6)⟩,⟨(some 37),(some (33,true)),.bin .sub (.t 36) (.c (.int .i64 1))⟩,⟨(some 38),(some (33,true)),.indexAddr 1 (.t 35) (.t 37)⟩,⟨(some 39),(some (33,true)),.load .ref false 1 (.t 38)⟩,⟨(some 40),(some (33,true)),.bin .leq (.t 34) (.t 39)⟩,⟨(some 41),none,.pick (.t 33) (.t 40) (.c (.bool false))⟩,⟨(some 42),none,.mv false (.t 41)⟩,⟨(some 43),(some (42,false)),.load (.box 1) true 5 (.t 1)⟩,⟨(some 44),(some (42,false)),.load (.box 6) false 1 (.t 6)⟩,⟨(some 45),(some (42,false)),.load (.box 8) false 1 (.t 8)⟩,⟨(some 46),(some (42,false)),.load (.box 3) false 1 (.t 3)⟩,⟨(some 47),(some (42,false)),.call 143 [(.t 43),(.t 44),(.t 45),(.t 46)]⟩,⟨(some 48),(some (42,false)),.not (.t 47)⟩,⟨(some 49),none,.pick (.t 42) (.c (.bool true)) (.t 48)⟩])<|.cond (.t 49) (.exit 1) (.skip)) (.seq (aP 70 f142.cO.cB.cB.cB.cA.cB.cB.cB.cB.cB.cA.cB.cB.cB.cA) (aP 70 f142.cO.cB.cB.cB.cA.cB.cB.cB.cB.cB.cA.cB.cB.cB.cB))))) (.ops [⟨(some 69),none,.bin .add (.t 27) (.c (.int .i64 1))⟩,⟨(some 27),none,.mv false (.t 69)⟩]))))))) (.seq (.ops [⟨(some 5),none,.mv true (.c (.bool true))⟩])<|.ret)))))
noncomputable def c65:ae:=(.seq (aP 47 f65.cO.cA) (.seq (aP 47 f65.cO.cB.cA) (.seq (.ops [⟨(some 10),none,.fieldAddr 7 (.t 5)⟩,⟨none,none,.store .any 1 (.t 10) (.c (.slice .nil []))⟩]) (.seq (.seq (aP 47 f65.cO.cB.cB.cB.cA.cA) (.block 0 (.loop (.seq (.ops [⟨(some 15),none,.bin .lss (.t 14) (.t 13)⟩]) (.seq (.cond (.t 15) (.skip) (.exit 0)) (.seq (.block 1 (.seq (aP 47 f65.cO.cB.cB.cB.cA.cB.cB.cB.cB.cB.cA.cB.cA) (.seq (aP 47 f65.cO.cB.cB.cB.cA.cB.cB.cB.cB.cB.cA.cB.cB.cA) (.seq (aP 47 f65.cO.cB.cB.cB.cA.cB.cB.cB.cB.cB.cA.cB.cB.cB.cA) (aP 47 f65.cO.cB.cB.cB.cA.cB.cB.cB.cB.cB.cA.cB.cB.cB.cB))))) (.ops [⟨(some 45),none,.bin .add (.t 14) (.c (.int .i64 1))⟩,⟨(some 14),none,.mv false (.t 45)⟩]))))))) (.seq (.ops [⟨(some 46),none,.load .any true 10 (.t 5)⟩,⟨none,none,.store .any 10 (.t 4) (.t 46)⟩])<|.ret)))))
noncomputable def c122:ae:=(.seq (.ops [⟨(some 2),none,.box 36 10 (.t 0)⟩,⟨(some 4),none,.mv true (.c (.slice .nil []))⟩]) (.seq (.ops [⟨(some 5),none,.mv true (.c (.slice .nil []))⟩]) (.seq (.seq (aP 50 f122.cO.cB.cB.cA.cA) (.block 0 (.loop (.seq (.ops [⟨(some 13),none,.bin .lss (.t 12) (.t 11)⟩]) (.seq (.cond (.t 13) (.skip) (.exit 0)) (.seq (.block 1 (.seq (.ops [⟨(some 14),none,.mv false (.t 12)⟩,⟨(some 6),none,.mv true (.t 14)⟩]) (.seq (aP 50 f122.cO.cB.cB.cA.cB.cB.cB.cB.cB.cA.cB.cB.cA) (.seq (aP 50 f122.cO.cB.cB.cA.cB.cB.cB.cB.cB.cA.cB.cB.cB.cA) (aP 50 f122.cO.cB.cB.cA.cB.cB.cB.cB.cB.cA.cB.cB.cB.cB))))) (.ops [⟨(some 48),none,.bin .add (.t 12) (.c (.int .i64 1))⟩,⟨(some 12),none,.mv false (.t 48)⟩]))))))) (.seq (.ops [⟨(some 49),none,.mv false (.t 5)⟩,⟨(some 4),none,.mv true (.t 49)⟩])<|.ret))))
noncomputable def c18:ae:=(.seq (aP 43 f18.cO.cA) (.seq (aP 43 f18.cO.cB.cA) (.seq (aP 43 f18.cO.cB.cB.cA) (.seq (.ops [⟨(some 7),none,.mv true (.c (.slice .nil []))⟩]) (.seq (aP 43 f18.cO.cB.cB.cB.cB.cA) (aP 43 f18.cO.cB.cB.cB.cB.cB))))))
noncomputable def c54:ae:=(.seq (.ops [⟨(some 1),none,.box 69 3 (.t 0)⟩,⟨(some 2),none,.mv true (.c (.bool false))⟩]) (.seq (aP 37 f54.cO.cB.cA) (aP 37 f54.cO.cB.cB)))
noncomputable def c55:ae:=(.seq (.ops [⟨(some 2),none,.box 69 3 (.t 0)⟩,⟨(some 4),none,.mv true (.c (.bool false))⟩]) (.seq (aP 38 f55.cO.cB.cA) (.seq (.seq (aP 38 f55.cO.cB.cB.cA.cA) (.block 0 (.loop (.seq (.ops [⟨(some 16),none,.bin .lss (.t 15) (.t 14)⟩]) (.seq (.cond (.t 16) (.skip) (.exit 0)) (.seq (aP 38 f55.cO.cB.cB.cA.cB.cB.cB.cB.cB.cA) (.ops [⟨(some 37),none,.bin .add (.t 15) (.c (.int .i64 1))⟩,⟨(some 15),none,.mv false (.t 37)⟩]))))))) (.seq (.ops [⟨(some 4),none,.mv true (.c (.bool true))⟩])<|.ret))))
noncomputable def c40:ae:=(.seq (aP 27 f40.cO.cA) (.seq (aP 27 f40.cO.cB.cA) (.seq (aP 27 f40.cO.cB.cB.cA) (aP 27 f40.cO.cB.cB.cB))))
noncomputable def c84:ae:=(.seq (.ops [⟨(some 5),none,.box 89 5 (.t 0)⟩]) (.seq (aP 41 f84.cO.cB.cA) (aP 41 f84.cO.cB.cB)))
noncomputable def c67:ae:=(.seq (aP 16 f67.cO.cA) (.seq (aP 16 f67.cO.cB.cA) (.ret)))
noncomputable def c76:ae:=(.seq (.ops [⟨(some 2),none,.mv true (.c (.bool false))⟩]) (.seq (.seq (aP 24 f76.cO.cB.cA.cA) (aP 24 f76.cO.cB.cA.cB)) (.seq (.ops [⟨(some 2),none,.mv true (.c (.bool true))⟩])<|.ret)))
noncomputable def c63:ae:=(.seq (.ops [⟨(some 4),none,.alloc 149 [(.int .i64 0),(.int .i64 0)]⟩]) (.seq (aP 25 f63.cO.cB.cA) (aP 25 f63.cO.cB.cB)))
noncomputable def c24:ae:=(.seq (.ops [⟨(some 4),none,.mv true (.c (.bool false))⟩]) (.seq (aP 26 f24.cO.cB.cA) (aP 26 f24.cO.cB.cB)))
noncomputable def c13:ae:=(.seq (aP 20 f13.cO.cA) (aP 20 f13.cO.cB))
noncomputable def c120:ae:=(aP 27 f120.cO)
noncomputable def c51:ae:=(aP 23 f51.cO)
noncomputable def c149:ae:=(aP 16 f149.cO)
noncomputable def c160:ae:=(aP 19 f160.cO)
noncomputable def c145:ae:=(aP 19 f145.cO)
noncomputable def c176:ae:=(aP 14 f176.cO)
noncomputable def c22:ae:=(aP 17 f22.cO)
noncomputable def c168:ae:=(aP 17 f168.cO)
noncomputable def c117:ae:=(aP 20 f117.cO)
noncomputable def c163:ae:=(aP 17 f163.cO)
noncomputable def c121:ae:=(aP 14 f121.cO)
noncomputable def c56:ae:=(aP 9 f56.cO)
noncomputable def c144:ae:=(aP 14 f144.cO)
noncomputable def c113:ae:=(aP 15 f113.cO)
noncomputable def c6:ae:=(aP 15 f6.cO)
noncomputable def c161:ae:=(aP 11 f161.cO)
noncomputable def c171:ae:=(aP 11 f171.cO)
noncomputable def c131:ae:=(aP 7 f131.cO)
noncomputable def c68:ae:=(aP 8 f68.cO)
noncomputable def c81:ae:=(aP 9 f81.cO)
noncomputable def c74:ae:=(aP 9 f74.cO)
noncomputable def c140:ae:=(aP 13 f140.cO)
noncomputable def c172:ae:=(aP 9 f172.cO)
noncomputable def c116:ae:=(aP 6 f116.cO)
noncomputable def c62:ae:=(aP 4 f62.cO)
noncomputable def c70:ae:=(aP 4 f70.cO)
end Go.Proofs.Tryz
