/- A part of the proof. -/
import Derived.Test.YtifmgeicigngbaaGreatN3
import Derived.Test.YtifmgeicigngbaaGreatProg
set_option maxRecDepth 100000
set_option maxHeartbeats 8000000
set_option linter.all false
namespace Go.Proofs.Tryz
open Go.AL
noncomputable def c89:ae:=(.seq (aP 76 f89.cO.cA) (.seq (aP 76 f89.cO.cB.cA) (.seq (aP 76 f89.cO.cB.cB.cA) (.seq (aP 76 f89.cO.cB.cB.cB.cA) (.seq (.seq (aP 76 f89.cO.cB.cB.cB.cB.cA.cA) (.block 0 (.loop (.seq (.ops [⟨(some 34),none,.bin .lss (.t 33) (.t 32)⟩]) (.seq (.cond (.t 34) (.skip) (.exit 0)) (.seq (.block 1 (.seq (aP 76 f89.cO.cB.cB.cB.cB.cA.cB.cB.cB.cB.cB.cA.cB.cA) (.seq (aP 76 f89.cO.cB.cB.cB.cB.cA.cB.cB.cB.cB.cB.cA.cB.cB.cA) (.seq (.seq (aP 76 f89.cO.cB.cB.cB.cB.cA.cB.cB.cB.cB.cB.cA.cB.cB.cB.cA.cA) (.block 2 (.loop (.seq (.ops [⟨(some 48),none,.bin .lss (.t 47) (.t 46)⟩]) (.seq (.cond (.t 48) (.skip) (.exit 2)) (.seq (aP 76 f89.cO.cB.cB.cB.cB.cA.cB.cB.cB.cB.cB.cA.cB.cB.cB.cA.cB.cB.cB.cB.cB.cA) (.ops [⟨(some 67),none,.bin .add (.t 47) (.c (.int .i64 1))⟩,⟨(some 47),none,.mv false (.t 67)⟩]))))))) (aP 76 f89.cO.cB.cB.cB.cB.cA.cB.cB.cB.cB.cB.cA.cB.cB.cB.cB))))) (.ops [⟨(some 74),none,.bin .add (.t 33) (.c (.int .i64 1))⟩,⟨(some 33),none,.mv false (.t 74)⟩]))))))) (.seq (.ops [⟨(some 75),none,.load .any true 16 (.t 6)⟩,⟨none,none,.store .any 16 (.t 2) (.t 75)⟩])<|.ret))))))
noncomputable def c143:ae:=(.seq (aP 75 f143.cO.cA) (.seq (aP 75 f143.cO.cB.cA) (.seq (aP 75 f143.cO.cB.cB.cA) (.seq (.ops [⟨(some 12),none,.mv true (.c (.bool false))⟩]) (.seq (.seq (aP 75 f143.cO.cB.cB.cB.cB.cA.cA) (.cond (.t 36) (aP 75 f143.cO.cB.cB.cB.cB.cA.cB.cA) (.seq (aP 75 f143.cO.cB.cB.cB.cB.cA.cB.cB.cA) (.block 0 (.loop (.seq (.ops [⟨(some 49),none,.bin .lss (.t 48) (.t 47)⟩]) (.seq (.cond (.t 49) (.skip) (.exit 0)) (.seq (.block 1 (.seq (aP 75 f143.cO.cB.cB.cB.cB.cA.cB.cB.cB.cB.cB.cB.cB.cA.cB.cA) (.seq (aP 75 f143.cO.cB.cB.cB.cB.cA.cB.cB.cB.cB.cB.cB.cB.cA.cB.cB.cA) (aP 75 f143.cO.cB.cB.cB.cB.cA.cB.cB.cB.cB.cB.cB.cB.cA.cB.cB.cB)))) (.ops [⟨(some 70),none,.bin .add (.t 48) (.c (.int .i64 1))⟩,⟨(some 48),none,.mv false (.t 70)⟩]))))))))) (aP 75 f143.cO.cB.cB.cB.cB.cB))))))
noncomputable def c135:ae:=(.seq (.ops [⟨(some 7),none,.other⟩,⟨(some 3),none,.mv true (.t 7)⟩]) (.seq (aP 54 f135.cO.cB.cA) (.seq (.ops [⟨(some 5),none,.mv true (.c (.int .i64 0))⟩]) (.seq (aP 54 f135.cO.cB.cB.cB.cA) (.block 2 (.loop (.seq (.ops [⟨(some 34),none,.bin .lss (.t 33) (.t 32)⟩]) (.seq (.cond (.t 34) (.skip) (.exit 2)) (aP 54 f135.cO.cB.cB.cB.cB.cB.cB.cB.cB)))))))))
noncomputable def c57:ae:=(.seq (.ops [⟨(some 3),none,.box 142 7 (.t 0)⟩,⟨(some 6),none,.mv true (.c (.int .i64 0))⟩]) (.seq (aP 58 f57.cO.cB.cA) (.seq (aP 58 f57.cO.cB.cB.cA) (.seq (aP 58 f57.cO.cB.cB.cB.cA) (.seq (aP 58 f57.cO.cB.cB.cB.cB.cA) (aP 58 f57.cO.cB.cB.cB.cB.cB))))))
noncomputable def c20:ae:=(.seq (aP 38 f20.cO.cA) (.seq (aP 38 f20.cO.cB.cA) (.seq (.ops [⟨(some 4),none,.mv true (.c (.int .i64 0))⟩]) (.seq (aP 38 f20.cO.cB.cB.cB.cA) (aP 38 f20.cO.cB.cB.cB.cB)))))
noncomputable def c36:ae:=(.seq (.ops [⟨(some 1),none,.box 40 15 (.t 0)⟩,⟨(some 2),none,.mv true (.c (.bool false))⟩]) (.seq (.ops [⟨(some 3),none,.mv true (.f 90)⟩]) (.seq (aP 44 f36.cO.cB.cB.cA) (.ret))))
noncomputable def c29:ae:=(.seq (.ops [⟨(some 1),none,.box 30 3 (.t 0)⟩,⟨(some 2),none,.mv true (.c (.bool false))⟩]) (.seq (.ops [⟨(some 3),none,.mv true (.f 71)⟩]) (.seq (.ops [⟨(some 4),none,.mv true (.f 73)⟩]) (.seq (aP 41 f29.cO.cB.cB.cB.cA) (.ret)))))
noncomputable def c48:ae:=(.seq (aP 27 f48.cO.cA) (.seq (aP 27 f48.cO.cB.cA) (aP 27 f48.cO.cB.cB)))
noncomputable def c8:ae:=(.seq (aP 24 f8.cO.cA) (.seq (aP 24 f8.cO.cB.cA) (aP 24 f8.cO.cB.cB)))
noncomputable def c133:ae:=(.seq (.ops [⟨(some 3),none,.box 142 7 (.t 0)⟩,⟨(some 6),none,.mv true (.c (.int .i64 0))⟩]) (.seq (aP 37 f133.cO.cB.cA) (aP 37 f133.cO.cB.cB)))
noncomputable def c7:ae:=(.seq (.ops [⟨(some 0),none,.mv true (.c (.bool false))⟩]) (.seq (aP 30 f7.cO.cB.cA) (aP 30 f7.cO.cB.cB)))
noncomputable def c97:ae:=(.seq (.ops [⟨(some 4),none,.alloc 108 [(.slice .nil []),(.slice .nil [])]⟩]) (.seq (aP 25 f97.cO.cB.cA) (aP 25 f97.cO.cB.cB)))
noncomputable def c35:ae:=(.seq (aP 15 f35.cO.cA) (aP 15 f35.cO.cB))
noncomputable def c23:ae:=(.seq (.ops [⟨(some 0),none,.alloc 30 [(.slice .nil []),(.slice .nil []),(.slice .nil [])]⟩]) (.seq (aP 16 f23.cO.cB.cA) (.ret)))
noncomputable def c114:ae:=(aP 26 f114.cO)
noncomputable def c115:ae:=(aP 24 f115.cO)
noncomputable def c26:ae:=(aP 19 f26.cO)
noncomputable def c151:ae:=(aP 19 f151.cO)
noncomputable def c34:ae:=(aP 24 f34.cO)
noncomputable def c150:ae:=(aP 14 f150.cO)
noncomputable def c60:ae:=(aP 23 f60.cO)
noncomputable def c58:ae:=(aP 17 f58.cO)
noncomputable def c138:ae:=(aP 19 f138.cO)
noncomputable def c73:ae:=(aP 15 f73.cO)
noncomputable def c86:ae:=(aP 18 f86.cO)
noncomputable def c85:ae:=(aP 18 f85.cO)
noncomputable def c38:ae:=(aP 44 f38.cO)
noncomputable def c72:ae:=(aP 15 f72.cO)
noncomputable def c124:ae:=(aP 8 f124.cO)
noncomputable def c79:ae:=(aP 11 f79.cO)
noncomputable def c93:ae:=(aP 6 f93.cO)
noncomputable def c119:ae:=(aP 8 f119.cO)
noncomputable def c25:ae:=(aP 6 f25.cO)
noncomputable def c92:ae:=(aP 9 f92.cO)
noncomputable def c75:ae:=(aP 9 f75.cO)
noncomputable def c94:ae:=(aP 6 f94.cO)
noncomputable def c78:ae:=(aP 8 f78.cO)
noncomputable def c49:ae:=(aP 6 f49.cO)
noncomputable def c69:ae:=(aP 5 f69.cO)
noncomputable def c66:ae:=(.seq (.ops [⟨(some 2),none,.box 125 11 (.t 0)⟩,⟨(some 4),none,.mv true (.c (.bool false))⟩])<|.bad)
end Go.Proofs.Tryz
