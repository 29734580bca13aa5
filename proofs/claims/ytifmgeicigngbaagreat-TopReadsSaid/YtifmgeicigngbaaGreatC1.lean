/- A part of the proof. -/
import Derived.Test.YtifmgeicigngbaaGreatN3
import Derived.Test.YtifmgeicigngbaaGreatProg
set_option maxRecDepth 100000
set_option maxHeartbeats 8000000
set_option linter.all false
namespace Go.Proofs.Tryz
open Go.AL
noncomputable def c47:ae:=(.seq (.ops [⟨(some 1),none,.box 36 10 (.t 0)⟩,⟨(some 2),none,.mv true (.c (.bool false))⟩]) (.seq (aP 89 f47.cO.cB.cA) (.seq (.seq (aP 89 f47.cO.cB.cB.cA.cA) (.block 0 (.loop (.seq (.ops [⟨(some 28),none,.bin .lss (.t 27) (.t 26)⟩]) (.seq (.cond (.t 28) (.skip) (.exit 0)) (.seq (.block 1 (.seq (aP 89 f47.cO.cB.cB.cA.cB.cB.cB.cB.cB.cA.cB.cA) (.seq (.dc [⟨(some 32),none,.load (.box 1) true 10 (.t 1)⟩,⟨(some 33),none,.load (.box 4) true 4 (.t 4)⟩,⟨(some 34),none,.call 114 [(.t 32),(.t 33)]⟩,⟨(some 35),none,.not (.t 34)⟩,⟨(some 36),none,.mv false (.t 35)⟩,⟨(some 37),(some (36,false)),.mv false (.t 3)⟩,⟨(some 38),(some (36,false)),.bin .gtr (.t 37) (.c (.int .i64 0))⟩,⟨(some 39),(some (36,false)),.mv false (.t 38)⟩,⟨(some 40),(some (39,true)),.fieldAddr 1 (.t 1)⟩,⟨(some 41),(some (39,true)),.load (.box 1) false 1 (.t 40)⟩,⟨(some 42),(some (39,true)),.mv false (.t 3)⟩,⟨(some 43),(some (39,true)),.bin .sub (.t 42) (.c (.int .i64 1))⟩,⟨(some 44),(some (39,true)),.indexAddr 4 (.t 41) (.t 43)⟩,⟨(some 45),(some (39,true)),.load .ref true 4 (.t 44)⟩,⟨(some 46),(some (39,true)),.load (.box 4) true 4 (.t 4)⟩,⟨(some 47),(some (39,true)),.call 115 [(.t 45),(.t 46)]⟩,⟨(some 48),(some (39,true)),.not (.t 47)⟩,⟨(some 49),(some (36,false)),.pick (.t 39) (.t 48) (.c (.bool false))⟩,⟨(some 50),none,.pick (.t 36) (.c (.bool true)) (.t 49)⟩])<|.cond (.t 50) (.seq (.ops [⟨(some 2),none,.mv true (.c (.bool false))⟩])<|.ret) (.skip)))) (.ops [⟨(some 51),none,.bin .add (.t 27) (.c (.int .i64 1))⟩,⟨(some 27),none,.mv false (.t 51)⟩]))))))) (.seq (.ops [⟨(some 5),none,.mv true (.f 116)⟩]) (.seq (aP 89 f47.cO.cB.cB.cB.cB.cA) (.ret))))))
noncomputable def c19:ae:=(.seq (aP 56 f19.cO.cA) (.seq (aP 56 f19.cO.cB.cA) (.seq (aP 56 f19.cO.cB.cB.cA) (.seq (aP 56 f19.cO.cB.cB.cB.cA) (.seq (.ops [⟨(some 8),none,.mv true (.c (.slice .nil []))⟩]) (.seq (.seq (aP 56 f19.cO.cB.cB.cB.cB.cB.cA.cA) (aP 56 f19.cO.cB.cB.cB.cB.cB.cA.cB)) (aP 56 f19.cO.cB.cB.cB.cB.cB.cB)))))))
noncomputable def c129:ae:=(.seq (.ops [⟨(some 2),none,.box 69 3 (.t 0)⟩,⟨(some 4),none,.mv true (.c (.bool false))⟩]) (.seq (aP 63 f129.cO.cB.cA) (.seq (.seq (aP 63 f129.cO.cB.cB.cA.cA) (.block 0 (.loop (.seq (.ops [⟨(some 17),none,.bin .lss (.t 16) (.t 15)⟩]) (.seq (.cond (.t 17) (.skip) (.exit 0)) (.seq (.block 1 (.seq (aP 63 f129.cO.cB.cB.cA.cB.cB.cB.cB.cB.cA.cB.cA) (aP 63 f129.cO.cB.cB.cA.cB.cB.cB.cB.cB.cA.cB.cB))) (.ops [⟨(some 40),none,.bin .add (.t 16) (.c (.int .i64 1))⟩,⟨(some 16),none,.mv false (.t 40)⟩]))))))) (aP 63 f129.cO.cB.cB.cB))))
noncomputable def c123:ae:=(.seq (.ops [⟨(some 8),none,.mv true (.c (.bool false))⟩]) (.seq (aP 53 f123.cO.cB.cA) (.seq (.seq (.ops [⟨(some 21),none,.mv false (.t 0)⟩,⟨(some 9),none,.mv true (.t 21)⟩]) (.block 0 (.loop (.seq (aP 53 f123.cO.cB.cB.cA.cB.cB.cB.cA) (aP 53 f123.cO.cB.cB.cA.cB.cB.cB.cB))))) (.seq (.ops [⟨(some 8),none,.mv true (.c (.bool true))⟩])<|.ret))))
noncomputable def c127:ae:=(.seq (aP 46 f127.cO.cA) (.seq (.ops [⟨(some 7),none,.mv true (.c (.slice .nil []))⟩]) (.seq (.seq (aP 46 f127.cO.cB.cB.cA.cA) (.block 0 (.loop (.seq (.ops [⟨(some 14),none,.bin .lss (.t 13) (.t 12)⟩]) (.seq (.cond (.t 14) (.skip) (.exit 0)) (aP 46 f127.cO.cB.cB.cA.cB.cB.cB.cB.cB)))))) (aP 46 f127.cO.cB.cB.cB))))
noncomputable def c136:ae:=(.seq (.ops [⟨(some 4),none,.mv true (.c (.slice .nil []))⟩]) (.seq (aP 42 f136.cO.cB.cA) (.seq (aP 42 f136.cO.cB.cB.cA) (.seq (.seq (aP 42 f136.cO.cB.cB.cB.cA.cA) (aP 42 f136.cO.cB.cB.cB.cA.cB)) (aP 42 f136.cO.cB.cB.cB.cB)))))
noncomputable def c165:ae:=(.seq (aP 43 f165.cO.cA) (.seq (aP 43 f165.cO.cB.cA) (.seq (aP 43 f165.cO.cB.cB.cA) (aP 43 f165.cO.cB.cB.cB))))
noncomputable def c126:ae:=(.seq (aP 39 f126.cO.cA) (.seq (.ops [⟨(some 7),none,.mv true (.c (.slice .nil []))⟩]) (.seq (aP 39 f126.cO.cB.cB.cA) (aP 39 f126.cO.cB.cB.cB))))
noncomputable def c162:ae:=(.seq (.ops [⟨(some 6),none,.mv true (.c (.bool false))⟩]) (.seq (.seq (aP 35 f162.cO.cB.cA.cA) (.block 0 (.loop (.seq (.ops [⟨(some 12),none,.bin .lss (.t 11) (.t 10)⟩]) (.seq (.cond (.t 12) (.skip) (.exit 0)) (.seq (.block 1 (.seq (aP 35 f162.cO.cB.cA.cB.cB.cB.cB.cB.cA.cB.cA) (aP 35 f162.cO.cB.cA.cB.cB.cB.cB.cB.cA.cB.cB))) (.ops [⟨(some 34),none,.bin .add (.t 11) (.c (.int .i64 1))⟩,⟨(some 11),none,.mv false (.t 34)⟩]))))))) (.seq (.ops [⟨(some 6),none,.mv true (.c (.bool true))⟩])<|.ret)))
noncomputable def c39:ae:=(.seq (.ops [⟨(some 2),none,.box 40 15 (.t 0)⟩,⟨(some 4),none,.mv true (.c (.slice .nil []))⟩]) (.seq (aP 29 f39.cO.cB.cA) (aP 29 f39.cO.cB.cB)))
noncomputable def c31:ae:=(.seq (aP 46 f31.cO.cA) (.seq (aP 46 f31.cO.cB.cA) (.seq (.seq (.ops [⟨(some 10),none,.fieldAddr 0 (.t 1)⟩,⟨(some 11),none,.load .any false 1 (.t 10)⟩,⟨(some 12),none,.pn (.t 11)⟩,⟨(some 13),none,.mv false (.c (.int .i64 0))⟩])<|.block 0<|.loop<|.seq (.ops [⟨(some 14),none,.bin .lss (.t 13) (.t 12)⟩])<|.seq (.cond (.t 14) (.skip) (.exit 0))<|.seq (.block 1<|.seq (.ops [⟨(some 15),none,.mv false (.t 13)⟩,⟨(some 16),none,.indexAddr 2 (.t 11) (.t 13)⟩,⟨(some 17),none,.load .any true 2 (.t 16)⟩,⟨(some 5),none,.alloc 33 [(.int .i64 0),(.int .i64 0)]⟩,⟨(some 4),none,.mv true (.t 15)⟩,⟨none,none,.store .any 2 (.t 5) (.t 17)⟩])<|.bad)<|.ops [⟨(some 44),none,.bin .add (.t 13) (.c (.int .i64 1))⟩,⟨(some 13),none,.mv false (.t 44)⟩])<|.seq (.ops [⟨(some 45),none,.load .any true 5 (.t 3)⟩,⟨none,none,.store .any 5 (.t 2) (.t 45)⟩])<|.ret)))
noncomputable def c175:ae:=(.seq (aP 25 f175.cO.cA) (aP 25 f175.cO.cB))
noncomputable def c98:ae:=(.seq (aP 31 f98.cO.cA) (.seq (.dc [⟨(some 8),none,.fieldAddr 1 (.t 3)⟩,⟨(some 9),none,.load (.box 3) false 1 (.t 8)⟩,⟨(some 10),none,.pn (.t 9)⟩,⟨(some 11),none,.fieldAddr 1 (.t 4)⟩,⟨(some 12),none,.load (.box 4) false 1 (.t 11)⟩,⟨(some 13),none,.pn (.t 12)⟩,⟨(some 6),none,.mv true (.t 10)⟩,⟨(some 7),none,.mv true (.t 13)⟩])<|.seq (.dc [⟨(some 14),none,.mv false (.t 6)⟩,⟨(some 15),none,.mv false (.t 7)⟩,⟨(some 16),none,.bin .lss (.t 14) (.t 15)⟩,⟨(some 17),none,.mv false (.t 16)⟩,⟨(some 18),(some (17,false)),.mv false (.t 6)⟩,⟨(some 19),(some (17,false)),.mv false (.t 7)⟩,⟨(some 20),(some (17,false)),.bin .eql (.t 18) (.t 19)⟩,⟨(some 21),(some (17,false)),.mv false (.t 20)⟩,⟨(some 22),(some (21,true)),.load (.box 2) true 11 (.t 2)⟩,⟨(some 23),(some (21,true)),.load (.box 3) true 2 (.t 3)⟩,⟨(some 24),(some (21,true)),.call 99 [(.t 22),(.t 23)]⟩,⟨(some 25),(some (21,true)),.load (.box 2) true 11 (.t 2)⟩,⟨(some 26),(some (21,true)),.load (.box 4) true 2 (.t 4)⟩,⟨(some 27),(some (21,true)),.call 99 [(.t 25),(.t 26)]⟩,⟨(some 28),(some (21,true)),.bin .gtr (.t 24) (.t 27)⟩,⟨(some 29),(some (17,false)),.pick (.t 21) (.t 28) (.c (.bool false))⟩,⟨(some 30),none,.pick (.t 17) (.c (.bool true)) (.t 29)⟩,⟨(some 5),none,.mv true (.t 30)⟩])<|.ret))
noncomputable def c170:ae:=(.seq (aP 26 f170.cO.cA) (aP 26 f170.cO.cB))
noncomputable def c12:ae:=(.seq (aP 20 f12.cO.cA) (aP 20 f12.cO.cB))
noncomputable def c59:ae:=(aP 26 f59.cO)
noncomputable def c148:ae:=(aP 19 f148.cO)
noncomputable def c147:ae:=(aP 19 f147.cO)
noncomputable def c146:ae:=(aP 19 f146.cO)
noncomputable def c99:ae:=(aP 18 f99.cO)
noncomputable def c90:ae:=(aP 18 f90.cO)
noncomputable def c164:ae:=(aP 17 f164.cO)
noncomputable def c167:ae:=(aP 20 f167.cO)
noncomputable def c71:ae:=(aP 15 f71.cO)
noncomputable def c21:ae:=(aP 5 f21.cO)
noncomputable def c166:ae:=(aP 16 f166.cO)
noncomputable def c128:ae:=(aP 15 f128.cO)
noncomputable def c91:ae:=(aP 15 f91.cO)
noncomputable def c125:ae:=(aP 8 f125.cO)
noncomputable def c96:ae:=(aP 19 f96.cO)
noncomputable def c64:ae:=(aP 10 f64.cO)
noncomputable def c132:ae:=(aP 7 f132.cO)
noncomputable def c139:ae:=(aP 8 f139.cO)
noncomputable def c118:ae:=(aP 9 f118.cO)
noncomputable def c77:ae:=(aP 9 f77.cO)
noncomputable def c95:ae:=(aP 6 f95.cO)
noncomputable def c134:ae:=(aP 13 f134.cO)
noncomputable def c130:ae:=(aP 6 f130.cO)
noncomputable def c61:ae:=(aP 5 f61.cO)
end Go.Proofs.Tryz
