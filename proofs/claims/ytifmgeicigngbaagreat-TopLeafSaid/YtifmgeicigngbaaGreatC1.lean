/- A part of the proof. -/
import Derived.Test.YtifmgeicigngbaaGreatN3
import Derived.Test.YtifmgeicigngbaaGreatProg
set_option maxRecDepth 100000
set_option maxHeartbeats 8000000
set_option linter.all false
namespace Go.Proofs.Tryz
open Go.AL
noncomputable def c47:ae:=(.seq (.ops [⟨(some 1),none,.box 36 10 (.t 0)⟩,⟨(some 2),none,.mv true (.c (.bool false))⟩]) (.seq (aU 89 f47.cO.cB.cA) (.seq (.seq (aU 89 f47.cO.cB.cB.cA.cA) (.block 0 (.loop (.seq (.ops [⟨(some 28),none,.bin .lss (.t 27) (.t 26)⟩]) (.seq (.cond (.t 28) (.skip) (.exit 0)) (.seq (.block 1 (.seq (aU 89 f47.cO.cB.cB.cA.cB.cB.cB.cB.cB.cA.cB.cA) (.seq (.cM [⟨(some 32),none,.load (.box 1) true 10 (.t 1)⟩,⟨(some 33),none,.load (.box 4) true 4 (.t 4)⟩,⟨(some 34),none,.call 114 [(.t 32),(.t 33)]⟩,⟨(some 35),none,.not (.t 34)⟩,⟨(some 36),none,.mv false (.t 35)⟩,⟨(some 37),(some (36,false)),.mv false (.t 3)⟩,⟨(some 38),(some (36,false)),.bin .gtr (.t 37) (.c (.int .i64 0))⟩,⟨(some 39),(some (36,false)),.mv false (.t 38)⟩,⟨(some 40),(some (39,true)),.fieldAddr 1 (.t 1)⟩,⟨(some 41),(some (39,true)),.load (.box 1) false 1 (.t 40)⟩,⟨(some 42),(some (39,true)),.mv false (.t 3)⟩,⟨(some 43),(some (39,true)),.bin .sub (.t 42) (.c (.int .i64 1))⟩,⟨(some 44),(some (39,true)),.indexAddr 4 (.t 41) (.t 43)⟩,⟨(some 45),(some (39,true)),.load .ref true 4 (.t 44)⟩,⟨(some 46),(some (39,true)),.load (.box 4) true 4 (.t 4)⟩,⟨(some 47),(some (39,true)),.call 115 [(.t 45),(.t 46)]⟩,⟨(some 48),(some (39,true)),.not (.t 47)⟩,⟨(some 49),(some (36,false)),.pick (.t 39) (.t 48) (.c (.bool false))⟩,⟨(some 50),none,.pick (.t 36) (.c (.bool true)) (.t 49)⟩])<|.cond (.t 50) (.seq (.ops [⟨(some 2),none,.mv true (.c (.bool false))⟩])<|.ret) (.skip)))) (.ops [⟨(some 51),none,.bin .add (.t 27) (.c (.int .i64 1))⟩,⟨(some 27),none,.mv false (.t 51)⟩]))))))) (.seq (.ops [⟨(some 5),none,.mv true (.f 116)⟩]) (.seq (aU 89 f47.cO.cB.cB.cB.cB.cA) (.ret))))))
noncomputable def c65:ae:=(.seq (aU 47 f65.cO.cA) (.seq (aU 47 f65.cO.cB.cA) (.seq (.ops [⟨(some 10),none,.fieldAddr 7 (.t 5)⟩,⟨none,none,.store .any 1 (.t 10) (.c (.slice .nil []))⟩]) (.seq (.seq (aU 47 f65.cO.cB.cB.cB.cA.cA) (.block 0 (.loop (.seq (.ops [⟨(some 15),none,.bin .lss (.t 14) (.t 13)⟩]) (.seq (.cond (.t 15) (.skip) (.exit 0)) (.seq (.block 1 (.seq (aU 47 f65.cO.cB.cB.cB.cA.cB.cB.cB.cB.cB.cA.cB.cA) (.seq (aU 47 f65.cO.cB.cB.cB.cA.cB.cB.cB.cB.cB.cA.cB.cB.cA) (.seq (aU 47 f65.cO.cB.cB.cB.cA.cB.cB.cB.cB.cB.cA.cB.cB.cB.cA) (aU 47 f65.cO.cB.cB.cB.cA.cB.cB.cB.cB.cB.cA.cB.cB.cB.cB))))) (.ops [⟨(some 45),none,.bin .add (.t 14) (.c (.int .i64 1))⟩,⟨(some 14),none,.mv false (.t 45)⟩]))))))) (.seq (.ops [⟨(some 46),none,.load .any true 10 (.t 5)⟩,⟨none,none,.store .any 10 (.t 4) (.t 46)⟩])<|.ret)))))
noncomputable def c41:ae:=(.seq (.ops [⟨(some 1),none,.box 56 6 (.t 0)⟩,⟨(some 2),none,.mv true (.c (.bool false))⟩]) (.seq (.seq (aU 53 f41.cO.cB.cA.cA) (.cond (.t 41) (.seq (.ops [⟨(some 2),none,.mv true (.c (.bool false))⟩])<|.ret) (.skip))) (aU 53 f41.cO.cB.cB)))
noncomputable def c20:ae:=(.seq (aU 38 f20.cO.cA) (.seq (aU 38 f20.cO.cB.cA) (.seq (.ops [⟨(some 4),none,.mv true (.c (.int .i64 0))⟩]) (.seq (aU 38 f20.cO.cB.cB.cB.cA) (aU 38 f20.cO.cB.cB.cB.cB)))))
noncomputable def c157:ae:=(.seq (aU 40 f157.cO.cA) (.seq (.ops [⟨(some 5),none,.mv true (.c (.slice .nil []))⟩]) (.seq (.seq (aU 40 f157.cO.cB.cB.cA.cA) (.block 0 (.loop (.seq (.ops [⟨(some 13),none,.bin .lss (.t 12) (.t 11)⟩]) (aU 40 f157.cO.cB.cB.cA.cB.cB.cB.cB))))) (aU 40 f157.cO.cB.cB.cB))))
noncomputable def c104:ae:=(.seq (.ops [⟨(some 1),none,.box 52 4 (.t 0)⟩,⟨(some 2),none,.mv true (.c (.bool false))⟩]) (.seq (aU 40 f104.cO.cB.cA) (.ret)))
noncomputable def c126:ae:=(.seq (aU 39 f126.cO.cA) (.seq (.ops [⟨(some 7),none,.mv true (.c (.slice .nil []))⟩]) (.seq (aU 39 f126.cO.cB.cB.cA) (aU 39 f126.cO.cB.cB.cB))))
noncomputable def c43:ae:=(.seq (.ops [⟨(some 2),none,.box 56 6 (.t 0)⟩,⟨(some 4),none,.mv true (.c (.bool false))⟩]) (.seq (.seq (aU 32 f43.cO.cB.cA.cA) (.block 0 (.loop (.seq (.ops [⟨(some 10),none,.bin .lss (.t 9) (.t 8)⟩]) (.seq (.cond (.t 10) (.skip) (.exit 0)) (.seq (aU 32 f43.cO.cB.cA.cB.cB.cB.cB.cB.cA) (.ops [⟨(some 31),none,.bin .add (.t 9) (.c (.int .i64 1))⟩,⟨(some 9),none,.mv false (.t 31)⟩]))))))) (.seq (.ops [⟨(some 4),none,.mv true (.c (.bool true))⟩])<|.ret)))
noncomputable def c67:ae:=(.seq (aU 16 f67.cO.cA) (.seq (aU 16 f67.cO.cB.cA) (.ret)))
noncomputable def c76:ae:=(.seq (.ops [⟨(some 2),none,.mv true (.c (.bool false))⟩]) (.seq (.seq (aU 24 f76.cO.cB.cA.cA) (aU 24 f76.cO.cB.cA.cB)) (.seq (.ops [⟨(some 2),none,.mv true (.c (.bool true))⟩])<|.ret)))
noncomputable def c24:ae:=(.seq (.ops [⟨(some 4),none,.mv true (.c (.bool false))⟩]) (.seq (aU 26 f24.cO.cB.cA) (aU 26 f24.cO.cB.cB)))
noncomputable def c120:ae:=(aU 27 f120.cO)
noncomputable def c52:ae:=(aU 25 f52.cO)
noncomputable def c51:ae:=(aU 23 f51.cO)
noncomputable def c26:ae:=(aU 19 f26.cO)
noncomputable def c147:ae:=(aU 19 f147.cO)
noncomputable def c152:ae:=(aU 19 f152.cO)
noncomputable def c34:ae:=(aU 24 f34.cO)
noncomputable def c46:ae:=(aU 18 f46.cO)
noncomputable def c14:ae:=(aU 17 f14.cO)
noncomputable def c138:ae:=(aU 19 f138.cO)
noncomputable def c73:ae:=(aU 15 f73.cO)
noncomputable def c121:ae:=(aU 14 f121.cO)
noncomputable def c85:ae:=(aU 18 f85.cO)
noncomputable def c144:ae:=(aU 14 f144.cO)
noncomputable def c72:ae:=(aU 15 f72.cO)
noncomputable def c111:ae:=(aU 8 f111.cO)
noncomputable def c96:ae:=(aU 19 f96.cO)
noncomputable def c109:ae:=(aU 10 f109.cO)
noncomputable def c107:ae:=(aU 37 f107.cO)
noncomputable def c139:ae:=(aU 8 f139.cO)
noncomputable def c105:ae:=(aU 9 f105.cO)
noncomputable def c77:ae:=(aU 9 f77.cO)
noncomputable def c42:ae:=(aU 6 f42.cO)
noncomputable def c103:ae:=(aU 6 f103.cO)
noncomputable def c49:ae:=(aU 6 f49.cO)
noncomputable def c69:ae:=(aU 5 f69.cO)
end Go.Proofs.Tryz
