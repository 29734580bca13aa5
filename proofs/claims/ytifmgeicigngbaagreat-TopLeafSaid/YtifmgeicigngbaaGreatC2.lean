/- A part of the proof. -/
import Derived.Test.YtifmgeicigngbaaGreatN3
import Derived.Test.YtifmgeicigngbaaGreatProg
set_option maxRecDepth 100000
set_option maxHeartbeats 8000000
set_option linter.all false
namespace Go.Proofs.Tryz
open Go.AL
noncomputable def c50:ae:=(.seq (aU 81 f50.cO.cA) (.seq (.ops [⟨(some 5),none,.mv true (.c (.slice .nil []))⟩]) (.seq (.ops [⟨(some 6),none,.mv true (.c (.int .i64 0))⟩,⟨(some 7),none,.mv true (.c (.int .i64 0))⟩]) (.seq (.seq (aU 81 f50.cO.cB.cB.cB.cA.cA) (.block 0 (.loop (.seq (.ops [⟨(some 15),none,.bin .lss (.t 14) (.t 13)⟩]) (.seq (.cond (.t 15) (.skip) (.exit 0)) (.seq (.block 1 (.seq (aU 81 f50.cO.cB.cB.cB.cA.cB.cB.cB.cB.cB.cA.cB.cA) (.seq (aU 81 f50.cO.cB.cB.cB.cA.cB.cB.cB.cB.cB.cA.cB.cB.cA) (.seq (.block 2 (.loop (.seq (aU 81 f50.cO.cB.cB.cB.cA.cB.cB.cB.cB.cB.cA.cB.cB.cB.cA.cB.cB.cA) (.seq (.block 3 (.seq (aU 81 f50.cO.cB.cB.cB.cA.cB.cB.cB.cB.cB.cA.cB.cB.cB.cA.cB.cB.cB.cA.cB.cA) (aU 81 f50.cO.cB.cB.cB.cA.cB.cB.cB.cB.cB.cA.cB.cB.cB.cA.cB.cB.cB.cA.cB.cB))) (aU 81 f50.cO.cB.cB.cB.cA.cB.cB.cB.cB.cB.cA.cB.cB.cB.cA.cB.cB.cB.cB))))) (aU 81 f50.cO.cB.cB.cB.cA.cB.cB.cB.cB.cB.cA.cB.cB.cB.cB))))) (.ops [⟨(some 79),none,.bin .add (.t 14) (.c (.int .i64 1))⟩,⟨(some 14),none,.mv false (.t 79)⟩]))))))) (.seq (.ops [⟨(some 80),none,.mv false (.t 5)⟩,⟨(some 4),none,.mv true (.t 80)⟩])<|.ret)))))
noncomputable def c143:ae:=(.seq (aU 75 f143.cO.cA) (.seq (aU 75 f143.cO.cB.cA) (.seq (aU 75 f143.cO.cB.cB.cA) (.seq (.ops [⟨(some 12),none,.mv true (.c (.bool false))⟩]) (.seq (.seq (aU 75 f143.cO.cB.cB.cB.cB.cA.cA) (.cond (.t 36) (aU 75 f143.cO.cB.cB.cB.cB.cA.cB.cA) (.seq (aU 75 f143.cO.cB.cB.cB.cB.cA.cB.cB.cA) (.block 0 (.loop (.seq (.ops [⟨(some 49),none,.bin .lss (.t 48) (.t 47)⟩]) (.seq (.cond (.t 49) (.skip) (.exit 0)) (.seq (.block 1 (.seq (aU 75 f143.cO.cB.cB.cB.cB.cA.cB.cB.cB.cB.cB.cB.cB.cA.cB.cA) (.seq (aU 75 f143.cO.cB.cB.cB.cB.cA.cB.cB.cB.cB.cB.cB.cB.cA.cB.cB.cA) (aU 75 f143.cO.cB.cB.cB.cB.cA.cB.cB.cB.cB.cB.cB.cB.cA.cB.cB.cB)))) (.ops [⟨(some 70),none,.bin .add (.t 48) (.c (.int .i64 1))⟩,⟨(some 48),none,.mv false (.t 70)⟩]))))))))) (aU 75 f143.cO.cB.cB.cB.cB.cB))))))
noncomputable def c123:ae:=(.seq (.ops [⟨(some 8),none,.mv true (.c (.bool false))⟩]) (.seq (aU 53 f123.cO.cB.cA) (.seq (.seq (.ops [⟨(some 21),none,.mv false (.t 0)⟩,⟨(some 9),none,.mv true (.t 21)⟩]) (.block 0 (.loop (.seq (aU 53 f123.cO.cB.cB.cA.cB.cB.cB.cA) (aU 53 f123.cO.cB.cB.cA.cB.cB.cB.cB))))) (.seq (.ops [⟨(some 8),none,.mv true (.c (.bool true))⟩])<|.ret))))
noncomputable def c136:ae:=(.seq (.ops [⟨(some 4),none,.mv true (.c (.slice .nil []))⟩]) (.seq (aU 42 f136.cO.cB.cA) (.seq (aU 42 f136.cO.cB.cB.cA) (.seq (.seq (aU 42 f136.cO.cB.cB.cB.cA.cA) (aU 42 f136.cO.cB.cB.cB.cA.cB)) (aU 42 f136.cO.cB.cB.cB.cB)))))
noncomputable def c165:ae:=(.seq (aU 43 f165.cO.cA) (.seq (aU 43 f165.cO.cB.cA) (.seq (aU 43 f165.cO.cB.cB.cA) (aU 43 f165.cO.cB.cB.cB))))
noncomputable def c48:ae:=(.seq (aU 27 f48.cO.cA) (.seq (aU 27 f48.cO.cB.cA) (aU 27 f48.cO.cB.cB)))
noncomputable def c162:ae:=(.seq (.ops [⟨(some 6),none,.mv true (.c (.bool false))⟩]) (.seq (.seq (aU 35 f162.cO.cB.cA.cA) (.block 0 (.loop (.seq (.ops [⟨(some 12),none,.bin .lss (.t 11) (.t 10)⟩]) (.seq (.cond (.t 12) (.skip) (.exit 0)) (.seq (.block 1 (.seq (aU 35 f162.cO.cB.cA.cB.cB.cB.cB.cB.cA.cB.cA) (aU 35 f162.cO.cB.cA.cB.cB.cB.cB.cB.cA.cB.cB))) (.ops [⟨(some 34),none,.bin .add (.t 11) (.c (.int .i64 1))⟩,⟨(some 11),none,.mv false (.t 34)⟩]))))))) (.seq (.ops [⟨(some 6),none,.mv true (.c (.bool true))⟩])<|.ret)))
noncomputable def c156:ae:=(.seq (aU 35 f156.cO.cA) (.seq (aU 35 f156.cO.cB.cA) (.ret)))
noncomputable def c15:ae:=(.seq (aU 22 f15.cO.cA) (aU 22 f15.cO.cB))
noncomputable def c31:ae:=(.seq (aU 46 f31.cO.cA) (.seq (aU 46 f31.cO.cB.cA) (.seq (.seq (.ops [⟨(some 10),none,.fieldAddr 0 (.t 1)⟩,⟨(some 11),none,.load .any false 1 (.t 10)⟩,⟨(some 12),none,.lI (.t 11)⟩,⟨(some 13),none,.mv false (.c (.int .i64 0))⟩])<|.block 0<|.loop<|.seq (.ops [⟨(some 14),none,.bin .lss (.t 13) (.t 12)⟩])<|.seq (.cond (.t 14) (.skip) (.exit 0))<|.seq (.block 1<|.seq (.ops [⟨(some 15),none,.mv false (.t 13)⟩,⟨(some 16),none,.indexAddr 2 (.t 11) (.t 13)⟩,⟨(some 17),none,.load .any true 2 (.t 16)⟩,⟨(some 5),none,.alloc 33 [(.int .i64 0),(.int .i64 0)]⟩,⟨(some 4),none,.mv true (.t 15)⟩,⟨none,none,.store .any 2 (.t 5) (.t 17)⟩])<|.bad)<|.ops [⟨(some 44),none,.bin .add (.t 13) (.c (.int .i64 1))⟩,⟨(some 13),none,.mv false (.t 44)⟩])<|.seq (.ops [⟨(some 45),none,.load .any true 5 (.t 3)⟩,⟨none,none,.store .any 5 (.t 2) (.t 45)⟩])<|.ret)))
noncomputable def c97:ae:=(.seq (.ops [⟨(some 4),none,.alloc 108 [(.slice .nil []),(.slice .nil [])]⟩]) (.seq (aU 25 f97.cO.cB.cA) (aU 25 f97.cO.cB.cB)))
noncomputable def c170:ae:=(.seq (aU 26 f170.cO.cA) (aU 26 f170.cO.cB))
noncomputable def c114:ae:=(aU 26 f114.cO)
noncomputable def c17:ae:=(aU 38 f17.cO)
noncomputable def c149:ae:=(aU 16 f149.cO)
noncomputable def c160:ae:=(aU 19 f160.cO)
noncomputable def c146:ae:=(aU 19 f146.cO)
noncomputable def c99:ae:=(aU 18 f99.cO)
noncomputable def c22:ae:=(aU 17 f22.cO)
noncomputable def c164:ae:=(aU 17 f164.cO)
noncomputable def c44:ae:=(aU 14 f44.cO)
noncomputable def c71:ae:=(aU 15 f71.cO)
noncomputable def c45:ae:=(aU 15 f45.cO)
noncomputable def c154:ae:=(aU 10 f154.cO)
noncomputable def c113:ae:=(aU 15 f113.cO)
noncomputable def c101:ae:=(aU 15 f101.cO)
noncomputable def c125:ae:=(aU 8 f125.cO)
noncomputable def c124:ae:=(aU 8 f124.cO)
noncomputable def c161:ae:=(aU 11 f161.cO)
noncomputable def c171:ae:=(aU 11 f171.cO)
noncomputable def c68:ae:=(aU 8 f68.cO)
noncomputable def c102:ae:=(aU 9 f102.cO)
noncomputable def c75:ae:=(aU 9 f75.cO)
noncomputable def c140:ae:=(aU 13 f140.cO)
noncomputable def c172:ae:=(aU 9 f172.cO)
noncomputable def c53:ae:=(aU 8 f53.cO)
noncomputable def c108:ae:=(aU 4 f108.cO)
noncomputable def c66:ae:=(.seq (.ops [⟨(some 2),none,.box 125 11 (.t 0)⟩,⟨(some 4),none,.mv true (.c (.bool false))⟩])<|.bad)
end Go.Proofs.Tryz
