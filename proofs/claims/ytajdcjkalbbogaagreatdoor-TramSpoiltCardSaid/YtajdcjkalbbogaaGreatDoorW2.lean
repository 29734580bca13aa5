/- A part of the proof. -/
import Derived.Test.YtajdcjkalbbogaaGreatDoorV3
import Derived.Test.YtajdcjkalbbogaaGreatDoorProg
set_option maxRecDepth 100000
set_option maxHeartbeats 8000000
set_option linter.all false
namespace Go.Proofs.Tryz
open Go.AL
noncomputable def c7:af:=(.seq (.ops [⟨(some 0),none,.mv true (.c (.bool false))⟩]) (.seq (bc 195 f7.cO.cB.cA) (.seq (bc 195 f7.cO.cB.cB.cA) (.seq (bc 195 f7.cO.cB.cB.cB.cA) (.seq (bc 195 f7.cO.cB.cB.cB.cB.cA) (.seq (bc 195 f7.cO.cB.cB.cB.cB.cB.cA) (.seq (bc 195 f7.cO.cB.cB.cB.cB.cB.cB.cA) (.seq (bc 195 f7.cO.cB.cB.cB.cB.cB.cB.cB.cA) (.seq (bc 195 f7.cO.cB.cB.cB.cB.cB.cB.cB.cB.cA) (.seq (bc 195 f7.cO.cB.cB.cB.cB.cB.cB.cB.cB.cB.cA) (.seq (bc 195 f7.cO.cB.cB.cB.cB.cB.cB.cB.cB.cB.cB.cA) (.seq (bc 195 f7.cO.cB.cB.cB.cB.cB.cB.cB.cB.cB.cB.cB.cA) (.seq (bc 195 f7.cO.cB.cB.cB.cB.cB.cB.cB.cB.cB.cB.cB.cB.cA) (.seq (.seq (bc 195 f7.cO.cB.cB.cB.cB.cB.cB.cB.cB.cB.cB.cB.cB.cB.cA.cA) (.cond (.t 134) (.seq (.ops [⟨(some 0),none,.mv true (.c (.bool false))⟩])<|.ret) (.skip))) (.seq (.seq (bc 195 f7.cO.cB.cB.cB.cB.cB.cB.cB.cB.cB.cB.cB.cB.cB.cB.cA.cA) (.cond (.t 170) (.seq (.ops [⟨(some 0),none,.mv true (.c (.bool false))⟩])<|.ret) (.skip))) (.seq (bc 195 f7.cO.cB.cB.cB.cB.cB.cB.cB.cB.cB.cB.cB.cB.cB.cB.cB.cA) (.ret)))))))))))))))))
noncomputable def c47:af:=(.seq (.ops [⟨(some 1),none,.box 29 10 (.t 0)⟩,⟨(some 2),none,.mv true (.c (.str []))⟩]) (.seq (.cV [⟨(some 9),none,.fieldAddr 8 (.t 1)⟩,⟨(some 10),none,.load (.box 1) false 1 (.t 9)⟩,⟨(some 11),none,.fieldAddr 9 (.t 1)⟩,⟨(some 12),none,.load (.box 1) false 1 (.t 11)⟩,⟨(some 13),none,.buildSlice 23 3 1 [(.t 10),(.t 12)]⟩,⟨(some 14),none,.call 105 [(.c (.str [102,114,111,110,116])),(.t 13)]⟩,⟨(some 15),none,.fieldAddr 2 (.t 1)⟩,⟨(some 16),none,.fieldAddr 0 (.t 15)⟩,⟨(some 17),none,.load (.box 1) false 1 (.t 16)⟩,⟨(some 18),none,.fieldAddr 2 (.t 1)⟩,⟨(some 19),none,.fieldAddr 1 (.t 18)⟩,⟨(some 20),none,.load (.box 1) false 1 (.t 19)⟩,⟨(some 21),none,.fieldAddr 4 (.t 1)⟩,⟨(some 22),none,.fieldAddr 0 (.t 21)⟩,⟨(some 23),none,.load (.box 1) false 1 (.t 22)⟩,⟨(some 24),none,.fieldAddr 4 (.t 1)⟩,⟨(some 25),none,.fieldAddr 1 (.t 24)⟩,⟨(some 26),none,.load (.box 1) false 1 (.t 25)⟩,⟨(some 27),none,.fieldAddr 6 (.t 1)⟩,⟨(some 28),none,.load (.box 1) false 1 (.t 27)⟩,⟨(some 29),none,.buildSlice 23 3 1 [(.t 17),(.t 20),(.t 23),(.t 26),(.t 28)]⟩,⟨(some 30),none,.call 105 [(.c (.str [115,112,97,99,101,115])),(.t 29)]⟩,⟨(some 31),none,.buildSlice 78 9 1 [(.t 14),(.t 30)]⟩,⟨(some 3),none,.mv true (.t 31)⟩]) (.seq (bc 114 f47.cO.cB.cB.cA) (.seq (.seq (.ops [⟨(some 5),none,.mv true (.c (.int .i64 0))⟩]) (.block 2 (.loop (.seq (bc 114 f47.cO.cB.cB.cB.cA.cB.cB.cB.cA) (.seq (bc 114 f47.cO.cB.cB.cB.cA.cB.cB.cB.cB.cA) (bc 114 f47.cO.cB.cB.cB.cA.cB.cB.cB.cB.cB)))))) (.seq (.seq (.ops [⟨(some 7),none,.mv true (.c (.int .i64 0))⟩]) (.block 4 (.loop (.seq (bc 114 f47.cO.cB.cB.cB.cB.cA.cB.cB.cB.cA) (.seq (.block 5 (.seq (.ops [⟨(some 8),none,.mv true (.c (.str [110,111]))⟩]) (.seq (bc 114 f47.cO.cB.cB.cB.cB.cA.cB.cB.cB.cB.cA.cB.cB.cA) (.cV [⟨(some 89),none,.mv true (.t 3)⟩,⟨(some 90),none,.mv false (.t 8)⟩,⟨(some 91),none,.bin .add (.c (.str [119,111,114,100,32])) (.t 90)⟩,⟨(some 92),none,.bin .add (.t 91) (.c (.str [32]))⟩,⟨(some 93),none,.fieldAddr 7 (.t 1)⟩,⟨(some 94),none,.load (.box 1) false 1 (.t 93)⟩,⟨(some 95),none,.mv false (.t 7)⟩,⟨(some 96),none,.indexAddr 3 (.t 94) (.t 95)⟩,⟨(some 97),none,.fieldAddr 0 (.t 96)⟩,⟨(some 98),none,.load .ref false 1 (.t 97)⟩,⟨(some 99),none,.call 107 [(.t 98)]⟩,⟨(some 100),none,.bin .add (.t 92) (.t 99)⟩,⟨(some 101),none,.bin .add (.t 100) (.c (.str [32]))⟩,⟨(some 102),none,.fieldAddr 7 (.t 1)⟩,⟨(some 103),none,.load (.box 1) false 1 (.t 102)⟩,⟨(some 104),none,.mv false (.t 7)⟩,⟨(some 105),none,.indexAddr 3 (.t 103) (.t 104)⟩,⟨(some 106),none,.fieldAddr 1 (.t 105)⟩,⟨(some 107),none,.load .ref false 1 (.t 106)⟩,⟨(some 108),none,.call 107 [(.t 107)]⟩,⟨(some 109),none,.bin .add (.t 101) (.t 108)⟩,⟨(some 110),none,.buildSlice 78 9 1 [(.t 109)]⟩,⟨(some 111),none,.append 78 9 1 16 (.t 89) (.t 110)⟩,⟨(some 3),none,.mv true (.t 111)⟩])))) (bc 114 f47.cO.cB.cB.cB.cB.cA.cB.cB.cB.cB.cB)))))) (bc 114 f47.cO.cB.cB.cB.cB.cB))))))
noncomputable def c170:af:=(.seq (bc 81 f170.cO.cA) (.seq (.ops [⟨(some 5),none,.mv true (.c (.slice .nil []))⟩]) (.seq (.ops [⟨(some 6),none,.mv true (.c (.int .i64 0))⟩,⟨(some 7),none,.mv true (.c (.int .i64 0))⟩]) (.seq (.seq (bc 81 f170.cO.cB.cB.cB.cA.cA) (.block 0 (.loop (.seq (.ops [⟨(some 15),none,.bin .lss (.t 14) (.t 13)⟩]) (.seq (.cond (.t 15) (.skip) (.exit 0)) (.seq (.block 1 (.seq (bc 81 f170.cO.cB.cB.cB.cA.cB.cB.cB.cB.cB.cA.cB.cA) (.seq (.cV [⟨(some 18),none,.fieldAddr 1 (.t 9)⟩,⟨(some 19),none,.load (.box 9) false 1 (.t 18)⟩,⟨(some 20),none,.fieldAddr 0 (.t 2)⟩,⟨(some 21),none,.fieldAddr 7 (.t 20)⟩,⟨(some 22),none,.load (.box 2) false 1 (.t 21)⟩,⟨(some 23),none,.fieldAddr 0 (.t 9)⟩,⟨(some 24),none,.load (.box 9) false 1 (.t 23)⟩,⟨(some 25),none,.indexAddr 3 (.t 22) (.t 24)⟩,⟨(some 26),none,.fieldAddr 0 (.t 25)⟩,⟨(some 27),none,.load .ref false 1 (.t 26)⟩,⟨(some 28),none,.kN (.t 27)⟩,⟨(some 29),none,.bin .lss (.t 19) (.t 28)⟩,⟨(some 30),none,.build [(.slice .nil []),(.bool false)] [(1,1,(.t 29))]⟩,⟨(some 10),none,.alloc 249 [(.slice .nil []),(.bool false)]⟩,⟨none,none,.store (.box 10) 2 (.t 10) (.t 30)⟩]) (.seq (.block 2 (.loop (.seq (bc 81 f170.cO.cB.cB.cB.cA.cB.cB.cB.cB.cB.cA.cB.cB.cB.cA.cB.cB.cA) (.seq (.block 3 (.seq (bc 81 f170.cO.cB.cB.cB.cA.cB.cB.cB.cB.cB.cA.cB.cB.cB.cA.cB.cB.cB.cA.cB.cA) (bc 81 f170.cO.cB.cB.cB.cA.cB.cB.cB.cB.cB.cA.cB.cB.cB.cA.cB.cB.cB.cA.cB.cB))) (bc 81 f170.cO.cB.cB.cB.cA.cB.cB.cB.cB.cB.cA.cB.cB.cB.cA.cB.cB.cB.cB))))) (bc 81 f170.cO.cB.cB.cB.cA.cB.cB.cB.cB.cB.cA.cB.cB.cB.cB))))) (.ops [⟨(some 79),none,.bin .add (.t 14) (.c (.int .i64 1))⟩,⟨(some 14),none,.mv false (.t 79)⟩]))))))) (.seq (.ops [⟨(some 80),none,.mv false (.t 5)⟩,⟨(some 4),none,.mv true (.t 80)⟩])<|.ret)))))
noncomputable def c39:af:=bc 73 f39.cO
noncomputable def c24:af:=bc 56 f24.cO
noncomputable def c106:af:=bc 65 f106.cO
noncomputable def c28:af:=(.seq (bc 45 f28.cO.cA) (.seq (bc 45 f28.cO.cB.cA) (.seq (bc 45 f28.cO.cB.cB.cA) (.seq (.ops [⟨(some 7),none,.mv true (.c (.slice .nil []))⟩]) (.seq (bc 45 f28.cO.cB.cB.cB.cB.cA) (bc 45 f28.cO.cB.cB.cB.cB.cB))))))
noncomputable def c166:af:=bc 50 f166.cO
noncomputable def c72:af:=bc 50 f72.cO
noncomputable def c58:af:=(.seq (.ops [⟨(some 2),none,.box 31 15 (.t 0)⟩,⟨(some 4),none,.mv true (.c (.bool false))⟩]) (.seq (.seq (bc 45 f58.cO.cB.cA.cA) (.block 0 (.loop (.seq (.ops [⟨(some 10),none,.bin .lss (.t 9) (.t 8)⟩]) (.seq (.cond (.t 10) (.skip) (.exit 0)) (.seq (.block 1 (.seq (bc 45 f58.cO.cB.cA.cB.cB.cB.cB.cB.cA.cB.cA) (.seq (.cV [⟨(some 14),none,.mv false (.t 5)⟩,⟨(some 15),none,.fieldAddr 0 (.t 2)⟩,⟨(some 16),none,.load (.box 2) false 1 (.t 15)⟩,⟨(some 17),none,.kN (.t 16)⟩,⟨(some 18),none,.bin .geq (.t 14) (.t 17)⟩,⟨(some 19),none,.mv false (.t 18)⟩,⟨(some 20),(some (19,false)),.mv false (.t 6)⟩,⟨(some 21),(some (19,false)),.fieldAddr 0 (.t 2)⟩,⟨(some 22),(some (19,false)),.load (.box 2) false 1 (.t 21)⟩,⟨(some 23),(some (19,false)),.mv false (.t 5)⟩,⟨(some 24),(some (19,false)),.indexAddr 3 (.t 22) (.t 23)⟩,⟨(some 25),(some (19,false)),.fieldAddr 0 (.t 24)⟩,⟨(some 26),(some (19,false)),.fieldAddr 0 (.t 25)⟩,⟨(some 27),(some (19,false)),.load .ref false 1 (.t 26)⟩,⟨(some 28),(some (19,false)),.fieldAddr 0 (.t 2)⟩,⟨(some 29),(some (19,false)),.load (.box 2) false 1 (.t 28)⟩,⟨(some 30),(some (19,false)),.mv false (.t 5)⟩,⟨(some 31),(some (19,false)),.indexAddr 3 (.t 29) (.t 30)⟩,⟨(some 32),(some (19,false)),.fieldAddr 0 (.t 31)⟩,⟨(some 33),(some (19,false)),.fieldAddr 1 (.t 32)⟩,⟨(some 34),(some (19,false)),.load .ref false 1 (.t 33)⟩,⟨(some 35),(some (19,false)),.call 61 [(.t 20),(.t 27),(.t 34)]⟩,⟨(some 36),(some (19,false)),.not (.t 35)⟩,⟨(some 37),none,.pick (.t 19) (.c (.bool true)) (.t 36)⟩]) (.cond (.t 37) (.seq (.ops [⟨(some 4),none,.mv true (.c (.bool false))⟩])<|.ret) (.skip))))) (.ops [⟨(some 38),none,.bin .add (.t 9) (.c (.int .i64 1))⟩,⟨(some 9),none,.mv false (.t 38)⟩]))))))) (bc 45 f58.cO.cB.cB)))
noncomputable def c119:af:=bc 34 f119.cO
noncomputable def c43:af:=bc 21 f43.cO
noncomputable def c117:af:=bc 27 f117.cO
noncomputable def c136:af:=bc 35 f136.cO
noncomputable def c20:af:=(.seq (bc 26 f20.cO.cA) (.seq (.cV [⟨(some 9),none,.load (.box 2) true 15 (.t 2)⟩,⟨(some 10),none,.load (.box 2) true 15 (.t 2)⟩,⟨(some 11),none,.call 32 [(.t 10)]⟩,⟨(some 12),none,.mv false (.t 11)⟩,⟨(some 13),(some (12,true)),.load (.box 2) true 15 (.t 2)⟩,⟨(some 14),(some (12,true)),.mv false (.t 1)⟩,⟨(some 15),(some (12,true)),.call 58 [(.t 13),(.t 14)]⟩,⟨(some 16),none,.pick (.t 12) (.t 15) (.c (.bool false))⟩,⟨(some 17),none,.call 53 [(.t 9),(.t 16)]⟩,⟨(some 8),none,.mv false (.t 17)⟩,⟨(some 18),none,.extract (.t 8) 0⟩,⟨(some 19),none,.extract (.t 8) 1⟩,⟨(some 6),none,.alloc 87 [(.slice .nil []),(.int .i64 0),(.int .i64 0),(.int .i64 0),(.int .i64 0),(.slice .nil []),(.slice .nil []),(.int .i64 0),(.int .i64 0),(.int .i64 0),(.int .i64 0),(.int .i64 0),(.slice .nil []),(.int .i64 0),(.int .i64 0),(.slice .nil [])]⟩,⟨none,none,.store (.box 6) 16 (.t 6) (.t 18)⟩,⟨(some 7),none,.mv true (.t 19)⟩]) (bc 26 f20.cO.cB.cB)))
noncomputable def c17:af:=bc 11 f17.cO
noncomputable def c65:af:=bc 25 f65.cO
noncomputable def c31:af:=bc 26 f31.cO
noncomputable def c22:af:=bc 20 f22.cO
noncomputable def c96:af:=bc 26 f96.cO
noncomputable def c171:af:=bc 23 f171.cO
noncomputable def c8:af:=bc 20 f8.cO
noncomputable def c130:af:=bc 19 f130.cO
noncomputable def c134:af:=bc 19 f134.cO
noncomputable def c210:af:=bc 19 f210.cO
noncomputable def c143:af:=bc 18 f143.cO
noncomputable def c64:af:=bc 23 f64.cO
noncomputable def c217:af:=bc 17 f217.cO
noncomputable def c78:af:=(.seq (.ops [⟨(some 2),none,.mv true (.c (.str []))⟩])<|.seq (.ops [⟨(some 3),none,.mv true (.c (.int .i64 0))⟩])<|.seq (.seq (.ops [⟨(some 4),none,.mv false (.t 0)⟩])<|.block 0<|.seq (.ops [⟨(some 5),none,.assert 123 (.agg [(.int .i64 0),(.int .i64 0),(.bool false)]) (.t 4)⟩,⟨(some 6),none,.extract (.t 5) 1⟩,⟨(some 7),none,.extract (.t 5) 0⟩])<|.cond (.t 6) (.ops [⟨(some 3),none,.mv true (.c (.int .i64 1))⟩]) (.skip))<|.seq (.cV [⟨(some 8),none,.call 122 []⟩,⟨(some 9),none,.mv false (.t 3)⟩,⟨(some 10),none,.mN false 2 1 (.t 8) (.t 9)⟩,⟨(some 11),none,.buildSlice 78 9 1 [(.t 10)]⟩,⟨(some 12),none,.mv false (.t 0)⟩,⟨(some 13),none,.gy (.m 12 [(120,209),(123,211)]) []⟩,⟨(some 14),none,.append 78 9 1 16 (.t 11) (.t 13)⟩,⟨(some 15),none,.call 121 [(.t 14),(.c (.str [32]))]⟩,⟨(some 2),none,.mv true (.t 15)⟩])<|.ret)
noncomputable def c83:af:=bc 17 f83.cO
noncomputable def c190:af:=bc 17 f190.cO
noncomputable def c193:af:=bc 16 f193.cO
noncomputable def c67:af:=bc 12 f67.cO
noncomputable def c212:af:=bc 11 f212.cO
noncomputable def c61:af:=bc 15 f61.cO
noncomputable def c132:af:=bc 8 f132.cO
noncomputable def c15:af:=bc 9 f15.cO
noncomputable def c140:af:=bc 19 f140.cO
noncomputable def c135:af:=bc 11 f135.cO
noncomputable def c66:af:=bc 10 f66.cO
noncomputable def c102:af:=bc 8 f102.cO
noncomputable def c114:af:=bc 8 f114.cO
noncomputable def c99:af:=bc 9 f99.cO
noncomputable def c90:af:=bc 9 f90.cO
noncomputable def c118:af:=bc 8 f118.cO
noncomputable def c122:af:=bc 2 f122.cO
noncomputable def c84:af:=bc 5 f84.cO
noncomputable def c37:af:=bc 5 f37.cO
noncomputable def c29:af:=bc 32 f29.cO
end Go.Proofs.Tryz
