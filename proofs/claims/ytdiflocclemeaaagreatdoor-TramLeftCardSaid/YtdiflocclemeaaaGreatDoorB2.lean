/-
  A part of the proof.
-/
import Derived.Test.YtdiflocclemeaaaGreatDoorM3
import Derived.Test.YtdiflocclemeaaaGreatDoorProg
set_option maxRecDepth 100000
set_option maxHeartbeats 8000000
set_option linter.all false
set_option linter.unusedVariables false
set_option linter.unusedSimpArgs false
set_option linter.deprecated false
namespace Go.Proofs.Tryz
open Go.AL
noncomputable def c22:af:=(.seq (.ops [⟨(some 0),none,.mv true (.c (.bool false))⟩]) (.seq (bu 195 f22.cO.cB.cA) (.seq (bu 195 f22.cO.cB.cB.cA) (.seq (bu 195 f22.cO.cB.cB.cB.cA) (.seq (bu 195 f22.cO.cB.cB.cB.cB.cA) (.seq (bu 195 f22.cO.cB.cB.cB.cB.cB.cA) (.seq (bu 195 f22.cO.cB.cB.cB.cB.cB.cB.cA) (.seq (bu 195 f22.cO.cB.cB.cB.cB.cB.cB.cB.cA) (.seq (bu 195 f22.cO.cB.cB.cB.cB.cB.cB.cB.cB.cA) (.seq (bu 195 f22.cO.cB.cB.cB.cB.cB.cB.cB.cB.cB.cA) (.seq (bu 195 f22.cO.cB.cB.cB.cB.cB.cB.cB.cB.cB.cB.cA) (.seq (bu 195 f22.cO.cB.cB.cB.cB.cB.cB.cB.cB.cB.cB.cB.cA) (.seq (bu 195 f22.cO.cB.cB.cB.cB.cB.cB.cB.cB.cB.cB.cB.cB.cA) (.seq (.seq (bu 195 f22.cO.cB.cB.cB.cB.cB.cB.cB.cB.cB.cB.cB.cB.cB.cA.cA) (.cond (.t 134) (.seq (.ops [⟨(some 0),none,.mv true (.c (.bool false))⟩])<|.ret) (.skip))) (.seq (.seq (bu 195 f22.cO.cB.cB.cB.cB.cB.cB.cB.cB.cB.cB.cB.cB.cB.cB.cA.cA) (.cond (.t 170) (.seq (.ops [⟨(some 0),none,.mv true (.c (.bool false))⟩])<|.ret) (.skip))) (.seq (bu 195 f22.cO.cB.cB.cB.cB.cB.cB.cB.cB.cB.cB.cB.cB.cB.cB.cB.cA) (.ret)))))))))))))))))
noncomputable def c108:af:=bu 76 f108.cO
noncomputable def c94:af:=bu 73 f94.cO
noncomputable def c30:af:=(.seq (.ops [⟨(some 1),none,.box 31 15 (.t 0)⟩,⟨(some 2),none,.mv true (.c (.bool false))⟩]) (.seq (.seq (.ops [⟨(some 3),none,.mv true (.c (.int .i64 0))⟩]) (.block 0 (.loop (.seq (bu 68 f30.cO.cB.cA.cB.cB.cB.cA) (.seq (.block 1 (.seq (.dc [⟨(some 11),none,.fieldAddr 0 (.t 1)⟩,⟨(some 12),none,.load (.box 1) false 1 (.t 11)⟩,⟨(some 13),none,.mv false (.t 3)⟩,⟨(some 14),none,.indexAddr 3 (.t 12) (.t 13)⟩,⟨(some 15),none,.fieldAddr 0 (.t 14)⟩,⟨(some 16),none,.fieldAddr 0 (.t 15)⟩,⟨(some 17),none,.load .ref false 1 (.t 16)⟩,⟨(some 18),none,.call 88 [(.t 17),(.c (.int .i64 1)),(.c (.int .i64 20))]⟩,⟨(some 19),none,.not (.t 18)⟩,⟨(some 20),none,.mv false (.t 19)⟩,⟨(some 21),(some (20,false)),.fieldAddr 0 (.t 1)⟩,⟨(some 22),(some (20,false)),.load (.box 1) false 1 (.t 21)⟩,⟨(some 23),(some (20,false)),.mv false (.t 3)⟩,⟨(some 24),(some (20,false)),.indexAddr 3 (.t 22) (.t 23)⟩,⟨(some 25),(some (20,false)),.fieldAddr 0 (.t 24)⟩,⟨(some 26),(some (20,false)),.fieldAddr 1 (.t 25)⟩,⟨(some 27),(some (20,false)),.load .ref false 1 (.t 26)⟩,⟨(some 28),(some (20,false)),.fieldAddr 0 (.t 1)⟩,⟨(some 29),(some (20,false)),.load (.box 1) false 1 (.t 28)⟩,⟨(some 30),(some (20,false)),.mv false (.t 3)⟩,⟨(some 31),(some (20,false)),.indexAddr 3 (.t 29) (.t 30)⟩,⟨(some 32),(some (20,false)),.fieldAddr 0 (.t 31)⟩,⟨(some 33),(some (20,false)),.fieldAddr 0 (.t 32)⟩,⟨(some 34),(some (20,false)),.load .ref false 1 (.t 33)⟩,⟨(some 35),(some (20,false)),.call 88 [(.t 27),(.t 34),(.c (.int .i64 20))]⟩,⟨(some 36),(some (20,false)),.not (.t 35)⟩,⟨(some 37),none,.pick (.t 20) (.c (.bool true)) (.t 36)⟩]) (.cond (.t 37) (.seq (.ops [⟨(some 2),none,.mv true (.c (.bool false))⟩])<|.ret) (.skip)))) (bu 68 f30.cO.cB.cA.cB.cB.cB.cB.cB)))))) (.seq (bu 68 f30.cO.cB.cB.cA) (.ret))))
noncomputable def c28:af:=bu 61 f28.cO
noncomputable def c68:af:=(.seq (.ops [⟨(some 2),none,.box 29 10 (.t 0)⟩,⟨(some 4),none,.mv true (.c (.bool false))⟩]) (.seq (.seq (.ops [⟨(some 5),none,.mv true (.c (.int .i64 0))⟩]) (.block 0 (.loop (.seq (bu 56 f68.cO.cB.cA.cB.cB.cB.cA) (.seq (.block 1 (.seq (.dc [⟨(some 12),none,.mv false (.t 1)⟩,⟨(some 13),none,.mv false (.t 5)⟩,⟨(some 14),none,.indexAddr 1 (.t 12) (.t 13)⟩,⟨(some 15),none,.load .ref false 1 (.t 14)⟩,⟨(some 16),none,.fieldAddr 7 (.t 2)⟩,⟨(some 17),none,.load (.box 2) false 1 (.t 16)⟩,⟨(some 18),none,.j6 (.t 17)⟩,⟨(some 19),none,.bin .sub (.t 18) (.c (.int .i64 1))⟩,⟨(some 20),none,.call 84 [(.t 15),(.c (.int .i64 0)),(.t 19)]⟩,⟨(some 21),none,.not (.t 20)⟩,⟨(some 22),none,.mv false (.t 21)⟩,⟨(some 23),(some (22,false)),.fieldAddr 7 (.t 2)⟩,⟨(some 24),(some (22,false)),.load (.box 2) false 1 (.t 23)⟩,⟨(some 25),(some (22,false)),.mv false (.t 1)⟩,⟨(some 26),(some (22,false)),.mv false (.t 5)⟩,⟨(some 27),(some (22,false)),.indexAddr 1 (.t 25) (.t 26)⟩,⟨(some 28),(some (22,false)),.load .ref false 1 (.t 27)⟩,⟨(some 29),(some (22,false)),.indexAddr 3 (.t 24) (.t 28)⟩,⟨(some 30),(some (22,false)),.fieldAddr 2 (.t 29)⟩,⟨(some 31),(some (22,false)),.load .ref false 1 (.t 30)⟩,⟨(some 32),(some (22,false)),.not (.t 31)⟩,⟨(some 33),none,.pick (.t 22) (.c (.bool true)) (.t 32)⟩,⟨(some 34),none,.mv false (.t 33)⟩,⟨(some 35),(some (34,false)),.mv false (.t 5)⟩,⟨(some 36),(some (34,false)),.bin .gtr (.t 35) (.c (.int .i64 0))⟩,⟨(some 37),(some (34,false)),.mv false (.t 36)⟩,⟨(some 38),(some (37,true)),.mv false (.t 1)⟩,⟨(some 39),(some (37,true)),.mv false (.t 5)⟩,⟨(some 40),(some (37,true)),.indexAddr 1 (.t 38) (.t 39)⟩,⟨(some 41),(some (37,true)),.load .ref false 1 (.t 40)⟩,⟨(some 42),(some (37,true)),.mv false (.t 1)⟩,⟨(some 43),(some (37,true)),.mv false (.t 5)⟩,⟨(some 44),(some (37,true)),.bin .sub (.t 43) (.c (.int .i64 1))⟩,⟨(some 45),(some (37,true)),.indexAddr 1 (.t 42) (.t 44)⟩,⟨(some 46),(some (37,true)),.load .ref false 1 (.t 45)⟩,⟨(some 47),(some (37,true)),.bin .leq (.t 41) (.t 46)⟩,⟨(some 48),(some (34,false)),.pick (.t 37) (.t 47) (.c (.bool false))⟩,⟨(some 49),none,.pick (.t 34) (.c (.bool true)) (.t 48)⟩]) (.cond (.t 49) (.seq (.ops [⟨(some 4),none,.mv true (.c (.bool false))⟩])<|.ret) (.skip)))) (bu 56 f68.cO.cB.cA.cB.cB.cB.cB.cB)))))) (bu 56 f68.cO.cB.cB)))
noncomputable def c57:af:=(.seq (bu 47 f57.cO.cA) (.seq (.seq (.ops [⟨(some 4),none,.mv true (.c (.int .i64 0))⟩]) (.block 0 (.loop (.seq (bu 47 f57.cO.cB.cA.cB.cB.cB.cA) (.seq (.block 1 (.seq (bu 47 f57.cO.cB.cA.cB.cB.cB.cB.cA.cB.cA) (.seq (.ops [⟨(some 6),none,.mv true (.c (.int .i64 0))⟩]) (.block 2 (.loop (.seq (bu 47 f57.cO.cB.cA.cB.cB.cB.cB.cA.cB.cB.cB.cB.cB.cA) (.seq (.block 3<|.seq (.dc [⟨(some 27),none,.fieldAddr 5 (.t 1)⟩,⟨(some 28),none,.load (.box 1) true 10 (.t 27)⟩,⟨(some 29),none,.mv false (.t 5)⟩,⟨(some 30),none,.mv false (.t 6)⟩,⟨(some 31),none,.indexAddr 1 (.t 29) (.t 30)⟩,⟨(some 32),none,.load .ref false 1 (.t 31)⟩,⟨(some 33),none,.call 68 [(.t 28),(.t 32)]⟩,⟨(some 34),none,.mv false (.t 33)⟩,⟨(some 35),(some (34,true)),.load (.box 1) true 15 (.t 1)⟩,⟨(some 36),(some (34,true)),.mv false (.t 5)⟩,⟨(some 37),(some (34,true)),.mv false (.t 6)⟩,⟨(some 38),(some (34,true)),.indexAddr 1 (.t 36) (.t 37)⟩,⟨(some 39),(some (34,true)),.load .ref false 1 (.t 38)⟩,⟨(some 40),(some (34,true)),.call 69 [(.t 35),(.t 39)]⟩,⟨(some 41),(some (34,true)),.call 116 [(.t 40)]⟩,⟨(some 42),none,.pick (.t 34) (.t 41) (.c (.bool false))⟩])<|.cond (.t 42) (.seq (.ops [⟨(some 43),none,.mv false (.t 5)⟩,⟨(some 44),none,.mv false (.t 6)⟩,⟨(some 45),none,.indexAddr 1 (.t 43) (.t 44)⟩,⟨(some 46),none,.load .any false 1 (.t 45)⟩,⟨(some 2),none,.mv true (.t 46)⟩,⟨(some 3),none,.mv true (.c (.bool true))⟩])<|.ret) (.skip)) (bu 47 f57.cO.cB.cA.cB.cB.cB.cB.cA.cB.cB.cB.cB.cB.cB.cB)))))))) (bu 47 f57.cO.cB.cA.cB.cB.cB.cB.cB)))))) (bu 47 f57.cO.cB.cB)))
noncomputable def c36:af:=(.seq (bu 41 f36.cO.cA) (.seq (.dc [⟨(some 9),none,.load (.box 2) true 15 (.t 2)⟩,⟨(some 10),none,.load (.box 2) true 15 (.t 2)⟩,⟨(some 11),none,.call 77 [(.t 10)]⟩,⟨(some 12),none,.mv false (.t 11)⟩,⟨(some 13),(some (12,true)),.mv false (.t 1)⟩,⟨(some 14),(some (12,true)),.fieldAddr 5 (.t 2)⟩,⟨(some 15),(some (12,true)),.fieldAddr 7 (.t 14)⟩,⟨(some 16),(some (12,true)),.load (.box 2) false 1 (.t 15)⟩,⟨(some 17),(some (12,true)),.j6 (.t 16)⟩,⟨(some 18),(some (12,true)),.bin .sub (.t 17) (.c (.int .i64 1))⟩,⟨(some 19),(some (12,true)),.call 99 [(.t 13),(.c (.int .i64 0)),(.t 18)]⟩,⟨(some 20),none,.pick (.t 12) (.t 19) (.c (.bool false))⟩,⟨(some 21),none,.call 76 [(.t 9),(.t 20)]⟩,⟨(some 8),none,.mv false (.t 21)⟩,⟨(some 22),none,.extract (.t 8) 0⟩,⟨(some 23),none,.extract (.t 8) 1⟩,⟨(some 6),none,.alloc 102 [(.slice .nil []),(.int .i64 0),(.int .i64 0),(.int .i64 0),(.int .i64 0),(.slice .nil []),(.slice .nil []),(.int .i64 0),(.int .i64 0),(.int .i64 0),(.int .i64 0),(.int .i64 0),(.slice .nil []),(.int .i64 0),(.int .i64 0),(.slice .nil [])]⟩,⟨none,none,.store (.box 6) 16 (.t 6) (.t 22)⟩,⟨(some 7),none,.mv true (.t 23)⟩]) (.seq (bu 41 f36.cO.cB.cB.cA) (bu 41 f36.cO.cB.cB.cB))))
noncomputable def c112:af:=bu 50 f112.cO
noncomputable def c160:af:=bu 34 f160.cO
noncomputable def c226:af:=(.seq (bu 43 f226.cO.cA) (.seq (bu 43 f226.cO.cB.cA) (.seq (.seq (.dc [⟨(some 22),none,.fieldAddr 10 (.t 4)⟩,⟨(some 23),none,.load (.box 4) false 1 (.t 22)⟩,⟨(some 24),none,.load (.box 4) true 11 (.t 4)⟩,⟨(some 25),none,.load (.box 5) true 2 (.t 5)⟩,⟨(some 26),none,.call 224 [(.t 24),(.t 25)]⟩,⟨(some 27),none,.load (.box 4) true 11 (.t 4)⟩,⟨(some 28),none,.load (.box 6) true 2 (.t 6)⟩,⟨(some 29),none,.call 224 [(.t 27),(.t 28)]⟩,⟨(some 30),none,.build [(.int .i64 0),(.int .i64 0)] [(0,1,(.t 26)),(1,1,(.t 29))]⟩,⟨(some 31),none,.lookup 2 (.agg [(.int .i64 0),(.int .i64 0)]) (.t 23) (.t 30)⟩,⟨(some 21),none,.mv false (.t 31)⟩,⟨(some 32),none,.extract (.t 21) 0⟩,⟨(some 33),none,.extract (.t 21) 1⟩,⟨(some 9),none,.alloc 26 [(.int .i64 0),(.int .i64 0)]⟩,⟨none,none,.store (.box 9) 2 (.t 9) (.t 32)⟩,⟨(some 10),none,.mv true (.t 33)⟩])<|.seq (.ops [⟨(some 34),none,.mv false (.t 10)⟩])<|.cond (.t 34) (.seq (.ops [⟨(some 35),none,.load .any true 2 (.t 9)⟩,⟨(some 36),none,.mv false (.t 3)⟩,⟨(some 37),none,.call 227 [(.t 35),(.t 36)]⟩,⟨(some 8),none,.mv true (.t 37)⟩])<|.ret) (.skip)) (bu 43 f226.cO.cB.cB.cB))))
noncomputable def c79:af:=bu 27 f79.cO
noncomputable def c61:af:=bu 34 f61.cO
noncomputable def c173:af:=(.seq (.ops [⟨(some 2),none,.mv true (.c (.str []))⟩]) (.seq (.ops [⟨(some 3),none,.mv true (.c (.int .i64 0))⟩]) (.seq (bu 25 f173.cO.cB.cB.cA) (.seq (.dc [⟨(some 17),none,.call 206 []⟩,⟨(some 18),none,.mv false (.t 3)⟩,⟨(some 19),none,.nx false 5 1 (.t 17) (.t 18)⟩,⟨(some 20),none,.buildSlice 152 9 1 [(.t 19)]⟩,⟨(some 21),none,.mv false (.t 0)⟩,⟨(some 22),none,.ik (.m 21 [(211,281),(212,283),(215,284),(217,285),(219,286)]) []⟩,⟨(some 23),none,.append 152 9 1 16 (.t 20) (.t 22)⟩,⟨(some 24),none,.call 199 [(.t 23),(.c (.str [32]))]⟩,⟨(some 2),none,.mv true (.t 24)⟩])<|.ret))))
noncomputable def c231:af:=bu 37 f231.cO
noncomputable def c214:af:=bu 30 f214.cO
noncomputable def c110:af:=bu 25 f110.cO
noncomputable def c60:af:=bu 26 f60.cO
noncomputable def c117:af:=bu 29 f117.cO
noncomputable def c100:af:=bu 23 f100.cO
noncomputable def c141:af:=bu 24 f141.cO
noncomputable def c216:af:=bu 19 f216.cO
noncomputable def c165:af:=bu 19 f165.cO
noncomputable def c183:af:=bu 19 f183.cO
noncomputable def c83:af:=bu 18 f83.cO
noncomputable def c230:af:=bu 18 f230.cO
noncomputable def c136:af:=bu 18 f136.cO
noncomputable def c149:af:=bu 19 f149.cO
noncomputable def c144:af:=bu 20 f144.cO
noncomputable def c203:af:=bu 18 f203.cO
noncomputable def c27:af:=bu 10 f27.cO
noncomputable def c107:af:=bu 12 f107.cO
noncomputable def c84:af:=bu 15 f84.cO
noncomputable def c21:af:=bu 9 f21.cO
noncomputable def c80:af:=bu 19 f80.cO
noncomputable def c65:af:=bu 9 f65.cO
noncomputable def c75:af:=bu 3 f75.cO
noncomputable def c54:af:=bu 10 f54.cO
noncomputable def c145:af:=bu 9 f145.cO
noncomputable def c168:af:=bu 9 f168.cO
noncomputable def c159:af:=bu 8 f159.cO
noncomputable def c167:af:=bu 8 f167.cO
noncomputable def c49:af:=bu 5 f49.cO
noncomputable def c56:af:=bu 32 f56.cO
end Go.Proofs.Tryz
