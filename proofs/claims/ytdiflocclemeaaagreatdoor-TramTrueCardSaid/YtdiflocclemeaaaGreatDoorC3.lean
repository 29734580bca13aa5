/-
  A part of the proof.
-/
import Derived.Test.YtdiflocclemeaaaGreatDoorN3
import Derived.Test.YtdiflocclemeaaaGreatDoorProg
set_option maxRecDepth 100000
set_option maxHeartbeats 8000000
set_option linter.all false
set_option linter.unusedVariables false
set_option linter.unusedSimpArgs false
set_option linter.deprecated false
namespace Go.Proofs.Tryz
open Go.AL
noncomputable def c123:af:=gO 115 f123.cO
noncomputable def c121:af:=(.seq (gO 94 f121.cO.cA) (.seq (gO 94 f121.cO.cB.cA) (.seq (gO 94 f121.cO.cB.cB.cA) (.seq (gO 94 f121.cO.cB.cB.cB.cA) (.seq (gO 94 f121.cO.cB.cB.cB.cB.cA) (.seq (.seq (gO 94 f121.cO.cB.cB.cB.cB.cB.cA.cA) (.block 0 (.loop (.seq (.ops [⟨(some 24),none,.bin .lss (.t 23) (.t 22)⟩]) (.seq (.cond (.t 24) (.skip) (.exit 0)) (.seq (.block 1 (.seq (gO 94 f121.cO.cB.cB.cB.cB.cB.cA.cB.cB.cB.cB.cB.cA.cB.cA) (.seq (gO 94 f121.cO.cB.cB.cB.cB.cB.cA.cB.cB.cB.cB.cB.cA.cB.cB.cA) (.seq (.seq (.ops [⟨(some 30),none,.mv false (.t 7)⟩,⟨(some 31),none,.bin .eql (.t 30) (.c (.int .i64 0))⟩]) (.cond (.t 31) (.seq (gO 94 f121.cO.cB.cB.cB.cB.cB.cA.cB.cB.cB.cB.cB.cA.cB.cB.cB.cA.cB.cA.cA) (.seq (.eB [⟨(some 37),none,.mv false (.t 9)⟩,⟨(some 38),none,.indexAddr 1 (.t 37) (.c (.int .i64 1))⟩,⟨(some 39),none,.load .ref false 1 (.t 38)⟩,⟨(some 40),none,.call 169 [(.t 39)]⟩,⟨(some 41),none,.mv false (.t 9)⟩,⟨(some 42),none,.indexAddr 1 (.t 41) (.c (.int .i64 2))⟩,⟨(some 43),none,.load .ref false 1 (.t 42)⟩,⟨(some 44),none,.call 169 [(.t 43)]⟩,⟨(some 45),none,.mv false (.t 9)⟩,⟨(some 46),none,.indexAddr 1 (.t 45) (.c (.int .i64 3))⟩,⟨(some 47),none,.load .ref false 1 (.t 46)⟩,⟨(some 48),none,.call 169 [(.t 47)]⟩,⟨(some 49),none,.mv false (.t 9)⟩,⟨(some 50),none,.indexAddr 1 (.t 49) (.c (.int .i64 4))⟩,⟨(some 51),none,.load .ref false 1 (.t 50)⟩,⟨(some 52),none,.call 169 [(.t 51)]⟩,⟨(some 53),none,.fieldAddr 1 (.t 6)⟩,⟨none,none,.store (.box 6) 1 (.t 53) (.t 40)⟩,⟨(some 54),none,.fieldAddr 2 (.t 6)⟩,⟨none,none,.store (.box 6) 1 (.t 54) (.t 44)⟩,⟨(some 55),none,.fieldAddr 3 (.t 6)⟩,⟨none,none,.store (.box 6) 1 (.t 55) (.t 48)⟩,⟨(some 56),none,.fieldAddr 4 (.t 6)⟩,⟨none,none,.store (.box 6) 1 (.t 56) (.t 52)⟩])<|.exit 1)) (.skip))) (.seq (gO 94 f121.cO.cB.cB.cB.cB.cB.cA.cB.cB.cB.cB.cB.cA.cB.cB.cB.cB.cA) (.eB [⟨(some 62),none,.fieldAddr 0 (.t 6)⟩,⟨(some 63),none,.loadT (.box 6) (.t 62)⟩,⟨(some 64),none,.mv false (.t 9)⟩,⟨(some 65),none,.indexAddr 1 (.t 64) (.c (.int .i64 1))⟩,⟨(some 66),none,.load .ref false 1 (.t 65)⟩,⟨(some 67),none,.call 169 [(.t 66)]⟩,⟨(some 68),none,.mv false (.t 9)⟩,⟨(some 69),none,.indexAddr 1 (.t 68) (.c (.int .i64 2))⟩,⟨(some 70),none,.load .ref false 1 (.t 69)⟩,⟨(some 71),none,.call 169 [(.t 70)]⟩,⟨(some 72),none,.build [(.int .i64 0),(.int .i64 0)] [(0,1,(.t 67)),(1,1,(.t 71))]⟩,⟨(some 73),none,.mv false (.t 9)⟩,⟨(some 74),none,.indexAddr 1 (.t 73) (.c (.int .i64 3))⟩,⟨(some 75),none,.load .ref false 1 (.t 74)⟩,⟨(some 76),none,.bin .eql (.t 75) (.c (.str [121,101,115]))⟩,⟨(some 77),none,.build [(.int .i64 0),(.int .i64 0),(.bool false)] [(0,2,(.t 72)),(2,1,(.t 76))]⟩,⟨(some 78),none,.buildSlice 22 52 3 [(.t 77)]⟩,⟨(some 79),none,.append 22 52 3 24 (.t 63) (.t 78)⟩,⟨(some 80),none,.fieldAddr 0 (.t 6)⟩,⟨none,none,.store (.box 6) 1 (.t 80) (.t 79)⟩])))))) (.ops [⟨(some 81),none,.bin .add (.t 23) (.c (.int .i64 1))⟩,⟨(some 23),none,.mv false (.t 81)⟩]))))))) (gO 94 f121.cO.cB.cB.cB.cB.cB.cB)))))))
noncomputable def c118:af:=gO 80 f118.cO
noncomputable def c63:af:=gO 42 f63.cO
noncomputable def c152:af:=(.seq (gO 62 f152.cO.cA) (.seq (gO 62 f152.cO.cB.cA) (.seq (.seq (.ops [⟨(some 6),none,.mv true (.c (.int .i64 0))⟩]) (.block 2 (.loop (.seq (gO 62 f152.cO.cB.cB.cA.cB.cB.cB.cA) (.seq (.block 3 (.seq (.eB [⟨(some 29),none,.fieldAddr 1 (.t 3)⟩,⟨(some 30),none,.load (.box 3) false 1 (.t 29)⟩,⟨(some 31),none,.mv false (.t 6)⟩,⟨(some 32),none,.indexAddr 1 (.t 30) (.t 31)⟩,⟨(some 33),none,.load .ref false 1 (.t 32)⟩,⟨(some 34),none,.fieldAddr 0 (.t 3)⟩,⟨(some 35),none,.load (.box 3) false 1 (.t 34)⟩,⟨(some 36),none,.lO (.t 35)⟩,⟨(some 37),none,.bin .sub (.t 36) (.c (.int .i64 1))⟩,⟨(some 38),none,.call 84 [(.t 33),(.c (.int .i64 1)),(.t 37)]⟩,⟨(some 39),none,.not (.t 38)⟩,⟨(some 40),none,.mv false (.t 39)⟩,⟨(some 41),(some (40,false)),.mv false (.t 6)⟩,⟨(some 42),(some (40,false)),.bin .gtr (.t 41) (.c (.int .i64 0))⟩,⟨(some 43),(some (40,false)),.mv false (.t 42)⟩,⟨(some 44),(some (43,true)),.fieldAddr 1 (.t 3)⟩,⟨(some 45),(some (43,true)),.load (.box 3) false 1 (.t 44)⟩,⟨(some 46),(some (43,true)),.mv false (.t 6)⟩,⟨(some 47),(some (43,true)),.indexAddr 1 (.t 45) (.t 46)⟩,⟨(some 48),(some (43,true)),.load .ref false 1 (.t 47)⟩,⟨(some 49),(some (43,true)),.fieldAddr 1 (.t 3)⟩,⟨(some 50),(some (43,true)),.load (.box 3) false 1 (.t 49)⟩,⟨(some 51),(some (43,true)),.mv false (.t 6)⟩,⟨(some 52),(some (43,true)),.bin .sub (.t 51) (.c (.int .i64 1))⟩,⟨(some 53),(some (43,true)),.indexAddr 1 (.t 50) (.t 52)⟩,⟨(some 54),(some (43,true)),.load .ref false 1 (.t 53)⟩,⟨(some 55),(some (43,true)),.bin .leq (.t 48) (.t 54)⟩,⟨(some 56),(some (40,false)),.pick (.t 43) (.t 55) (.c (.bool false))⟩,⟨(some 57),none,.pick (.t 40) (.c (.bool true)) (.t 56)⟩]) (.cond (.t 57) (.seq (.ops [⟨(some 4),none,.mv true (.c (.bool false))⟩])<|.ret) (.skip)))) (gO 62 f152.cO.cB.cB.cA.cB.cB.cB.cB.cB)))))) (gO 62 f152.cO.cB.cB.cB))))
noncomputable def c243:af:=(.seq (.ops [⟨(some 3),none,.box 29 10 (.t 0)⟩,⟨(some 6),none,.mv true (.c (.slice .nil []))⟩]) (.seq (.ops [⟨(some 7),none,.mv true (.c (.slice .nil []))⟩]) (.seq (.ops [⟨(some 8),none,.mv true (.c (.int .i64 0))⟩]) (.seq (.seq (.ops [⟨(some 9),none,.mv true (.c (.int .i64 0))⟩]) (.block 0 (.loop (.seq (gO 59 f243.cO.cB.cB.cB.cA.cB.cB.cB.cA) (.seq (.block 1 (.seq (.seq (.ops [⟨(some 17),none,.mv false (.t 9)⟩,⟨(some 18),none,.bin .gtr (.t 17) (.c (.int .i64 0))⟩]) (.cond (.t 18) (.seq (gO 59 f243.cO.cB.cB.cB.cA.cB.cB.cB.cB.cA.cB.cA.cB.cA.cA) (gO 59 f243.cO.cB.cB.cB.cA.cB.cB.cB.cB.cA.cB.cA.cB.cA.cB)) (.skip))) (gO 59 f243.cO.cB.cB.cB.cA.cB.cB.cB.cB.cA.cB.cB))) (gO 59 f243.cO.cB.cB.cB.cA.cB.cB.cB.cB.cB)))))) (gO 59 f243.cO.cB.cB.cB.cB)))))
noncomputable def c95:af:=(.seq (gO 58 f95.cO.cA) (.seq (gO 58 f95.cO.cB.cA) (.seq (gO 58 f95.cO.cB.cB.cA) (.seq (.seq (.ops [⟨(some 8),none,.mv true (.c (.int .i64 0))⟩]) (.block 0 (.loop (.seq (gO 58 f95.cO.cB.cB.cB.cA.cB.cB.cB.cA) (.seq (.block 1 (.seq (gO 58 f95.cO.cB.cB.cB.cA.cB.cB.cB.cB.cA.cB.cA) (.seq (.eB [⟨(some 35),none,.fieldAddr 1 (.t 4)⟩,⟨(some 36),none,.load (.box 4) false 1 (.t 35)⟩,⟨(some 37),none,.mv false (.t 8)⟩,⟨(some 38),none,.indexAddr 2 (.t 36) (.t 37)⟩,⟨(some 39),none,.fieldAddr 1 (.t 38)⟩,⟨(some 40),none,.load .ref false 1 (.t 39)⟩,⟨(some 41),none,.fieldAddr 5 (.t 1)⟩,⟨(some 42),none,.fieldAddr 7 (.t 41)⟩,⟨(some 43),none,.load (.box 1) false 1 (.t 42)⟩,⟨(some 44),none,.mv false (.t 9)⟩,⟨(some 45),none,.indexAddr 3 (.t 43) (.t 44)⟩,⟨(some 46),none,.fieldAddr 0 (.t 45)⟩,⟨(some 47),none,.load .ref false 1 (.t 46)⟩,⟨(some 48),none,.lO (.t 47)⟩,⟨(some 49),none,.bin .lss (.t 40) (.t 48)⟩])<|.cond (.t 49) (.ops [⟨(some 50),none,.mv false (.t 7)⟩,⟨(some 51),none,.mv false (.t 9)⟩,⟨(some 52),none,.indexAddr 1 (.t 50) (.t 51)⟩,⟨(some 53),none,.load .any false 1 (.t 52)⟩,⟨(some 54),none,.bin .add (.t 53) (.c (.int .i64 1))⟩,⟨(some 55),none,.indexAddr 1 (.t 50) (.t 51)⟩,⟨none,none,.store .any 1 (.t 55) (.t 54)⟩]) (.skip)))) (gO 58 f95.cO.cB.cB.cB.cA.cB.cB.cB.cB.cB)))))) (gO 58 f95.cO.cB.cB.cB.cB)))))
noncomputable def c156:af:=gO 50 f156.cO
noncomputable def c112:af:=gO 50 f112.cO
noncomputable def c213:af:=(.seq (gO 46 f213.cO.cA) (.seq (.ops [⟨(some 7),none,.mv true (.c (.slice .nil []))⟩]) (.seq (.seq (gO 46 f213.cO.cB.cB.cA.cA) (.block 0 (.loop (.seq (.ops [⟨(some 14),none,.bin .lss (.t 13) (.t 12)⟩]) (.seq (.cond (.t 14) (.skip) (.exit 0)) (.seq (.block 1<|.seq (.ops [⟨(some 15),none,.mv false (.t 13)⟩,⟨(some 16),none,.indexAddr 2 (.t 11) (.t 13)⟩,⟨(some 17),none,.load .any true 2 (.t 16)⟩,⟨(some 9),none,.alloc 261 [(.int .i64 0),(.int .i64 0)]⟩,⟨(some 8),none,.mv true (.t 15)⟩,⟨none,none,.store .any 2 (.t 9) (.t 17)⟩])<|.seq (.ops [⟨(some 18),none,.mv false (.t 8)⟩,⟨(some 19),none,.bin .gtr (.t 18) (.c (.int .i64 0))⟩])<|.cond (.t 19) (.eB [⟨(some 20),none,.mv true (.t 7)⟩,⟨(some 21),none,.load (.box 3) true 11 (.t 3)⟩,⟨(some 22),none,.fieldAddr 0 (.t 4)⟩,⟨(some 23),none,.load (.box 4) false 1 (.t 22)⟩,⟨(some 24),none,.mv false (.t 8)⟩,⟨(some 25),none,.bin .sub (.t 24) (.c (.int .i64 1))⟩,⟨(some 26),none,.indexAddr 2 (.t 23) (.t 25)⟩,⟨(some 27),none,.load .ref true 2 (.t 26)⟩,⟨(some 28),none,.load (.box 9) true 2 (.t 9)⟩,⟨(some 29),none,.mv false (.t 2)⟩,⟨(some 30),none,.call 226 [(.t 21),(.t 27),(.t 28),(.t 29)]⟩,⟨(some 31),none,.buildSlice 23 3 1 [(.t 30)]⟩,⟨(some 32),none,.append 23 3 1 8 (.t 20) (.t 31)⟩,⟨(some 7),none,.mv true (.t 32)⟩]) (.skip))<|.ops [⟨(some 33),none,.bin .add (.t 13) (.c (.int .i64 1))⟩,⟨(some 13),none,.mv false (.t 33)⟩])))))) (gO 46 f213.cO.cB.cB.cB))))
noncomputable def c210:af:=(.seq (.ops [⟨(some 2),none,.mv true (.c (.str []))⟩]) (.seq (gO 44 f210.cO.cB.cA) (.seq (gO 44 f210.cO.cB.cB.cA) (gO 44 f210.cO.cB.cB.cB))))
noncomputable def c169:af:=gO 41 f169.cO
noncomputable def c61:af:=gO 34 f61.cO
noncomputable def c196:af:=gO 33 f196.cO
noncomputable def c173:af:=(.seq (.ops [⟨(some 2),none,.mv true (.c (.str []))⟩]) (.seq (.ops [⟨(some 3),none,.mv true (.c (.int .i64 0))⟩]) (.seq (gO 25 f173.cO.cB.cB.cA) (.seq (.eB [⟨(some 17),none,.call 206 []⟩,⟨(some 18),none,.mv false (.t 3)⟩,⟨(some 19),none,.te false 5 1 (.t 17) (.t 18)⟩,⟨(some 20),none,.buildSlice 152 9 1 [(.t 19)]⟩,⟨(some 21),none,.mv false (.t 0)⟩,⟨(some 22),none,.nP (.m 21 [(211,281),(212,283),(215,284),(217,285),(219,286)]) []⟩,⟨(some 23),none,.append 152 9 1 16 (.t 20) (.t 22)⟩,⟨(some 24),none,.call 199 [(.t 23),(.c (.str [32]))]⟩,⟨(some 2),none,.mv true (.t 24)⟩])<|.ret))))
noncomputable def c195:af:=gO 31 f195.cO
noncomputable def c81:af:=gO 25 f81.cO
noncomputable def c110:af:=gO 25 f110.cO
noncomputable def c60:af:=gO 26 f60.cO
noncomputable def c35:af:=gO 20 f35.cO
noncomputable def c46:af:=gO 22 f46.cO
noncomputable def c101:af:=gO 23 f101.cO
noncomputable def c193:af:=gO 23 f193.cO
noncomputable def c165:af:=gO 19 f165.cO
noncomputable def c183:af:=gO 19 f183.cO
noncomputable def c83:af:=gO 18 f83.cO
noncomputable def c230:af:=gO 18 f230.cO
noncomputable def c225:af:=gO 17 f225.cO
noncomputable def c161:af:=(.seq (.ops [⟨(some 2),none,.mv true (.c (.str []))⟩])<|.seq (.ops [⟨(some 3),none,.mv true (.c (.int .i64 0))⟩])<|.seq (.seq (.ops [⟨(some 4),none,.mv false (.t 0)⟩])<|.block 0<|.seq (.ops [⟨(some 5),none,.assert 197 (.agg [(.int .i64 0),(.int .i64 0),(.bool false)]) (.t 4)⟩,⟨(some 6),none,.extract (.t 5) 1⟩,⟨(some 7),none,.extract (.t 5) 0⟩])<|.cond (.t 6) (.ops [⟨(some 3),none,.mv true (.c (.int .i64 1))⟩]) (.skip))<|.seq (.eB [⟨(some 8),none,.call 200 []⟩,⟨(some 9),none,.mv false (.t 3)⟩,⟨(some 10),none,.te false 2 1 (.t 8) (.t 9)⟩,⟨(some 11),none,.buildSlice 152 9 1 [(.t 10)]⟩,⟨(some 12),none,.mv false (.t 0)⟩,⟨(some 13),none,.nP (.m 12 [(194,278),(197,280)]) []⟩,⟨(some 14),none,.append 152 9 1 16 (.t 11) (.t 13)⟩,⟨(some 15),none,.call 199 [(.t 14),(.c (.str [32]))]⟩,⟨(some 2),none,.mv true (.t 15)⟩])<|.ret)
noncomputable def c285:af:=gO 19 f285.cO
noncomputable def c224:af:=gO 17 f224.cO
noncomputable def c203:af:=gO 18 f203.cO
noncomputable def c107:af:=gO 12 f107.cO
noncomputable def c55:af:=gO 8 f55.cO
noncomputable def c281:af:=gO 11 f281.cO
noncomputable def c84:af:=gO 15 f84.cO
noncomputable def c190:af:=gO 8 f190.cO
noncomputable def c26:af:=gO 11 f26.cO
noncomputable def c75:af:=gO 3 f75.cO
noncomputable def c59:af:=gO 6 f59.cO
noncomputable def c182:af:=gO 8 f182.cO
noncomputable def c145:af:=gO 9 f145.cO
noncomputable def c168:af:=gO 9 f168.cO
noncomputable def c159:af:=gO 8 f159.cO
noncomputable def c167:af:=gO 8 f167.cO
noncomputable def c93:af:=gO 5 f93.cO
end Go.Proofs.Tryz
