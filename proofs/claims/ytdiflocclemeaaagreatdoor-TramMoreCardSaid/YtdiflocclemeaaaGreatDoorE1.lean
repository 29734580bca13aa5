/-
  A part of the proof.
-/
import Derived.Test.YtdiflocclemeaaaGreatDoorR3
import Derived.Test.YtdiflocclemeaaaGreatDoorProg
set_option maxRecDepth 100000
set_option maxHeartbeats 8000000
set_option linter.all false
set_option linter.unusedVariables false
set_option linter.unusedSimpArgs false
set_option linter.deprecated false
namespace Go.Proofs.Tryz
open Go.AL
noncomputable def c172:ae:=(.seq (bH 171 f172.cO.cA) (.seq (bH 171 f172.cO.cB.cA) (.seq (bH 171 f172.cO.cB.cB.cA) (.seq (bH 171 f172.cO.cB.cB.cB.cA) (.seq (bH 171 f172.cO.cB.cB.cB.cB.cA) (.seq (.seq (bH 171 f172.cO.cB.cB.cB.cB.cB.cA.cA) (.block 0 (.loop (.seq (.ops [⟨(some 28),none,.bin .lss (.t 27) (.t 26)⟩]) (.seq (.cond (.t 28) (.skip) (.exit 0)) (.seq (.block 1 (.seq (bH 171 f172.cO.cB.cB.cB.cB.cB.cA.cB.cB.cB.cB.cB.cA.cB.cA) (.seq (bH 171 f172.cO.cB.cB.cB.cB.cB.cA.cB.cB.cB.cB.cB.cA.cB.cB.cA) (.seq (bH 171 f172.cO.cB.cB.cB.cB.cB.cA.cB.cB.cB.cB.cB.cA.cB.cB.cB.cA) (.block 2 (.seq (bH 171 f172.cO.cB.cB.cB.cB.cB.cA.cB.cB.cB.cB.cB.cA.cB.cB.cB.cB.cB.cA) (.cond (.t 40) (bH 171 f172.cO.cB.cB.cB.cB.cB.cA.cB.cB.cB.cB.cB.cA.cB.cB.cB.cB.cB.cB.cA) (.seq (bH 171 f172.cO.cB.cB.cB.cB.cB.cA.cB.cB.cB.cB.cB.cA.cB.cB.cB.cB.cB.cB.cB.cA) (.cond (.t 59) (.seq (bH 171 f172.cO.cB.cB.cB.cB.cB.cA.cB.cB.cB.cB.cB.cA.cB.cB.cB.cB.cB.cB.cB.cB.cA.cA) (.c_ [⟨(some 70),none,.mv false (.t 11)⟩,⟨(some 71),none,.indexAddr 1 (.t 70) (.c (.int .i64 0))⟩,⟨(some 72),none,.load .ref false 1 (.t 71)⟩,⟨(some 73),none,.mv false (.t 11)⟩,⟨(some 74),none,.indexAddr 1 (.t 73) (.c (.int .i64 1))⟩,⟨(some 75),none,.load .ref false 1 (.t 74)⟩,⟨(some 76),none,.build [(.int .i64 0),(.int .i64 0)] [(0,1,(.t 72)),(1,1,(.t 75))]⟩,⟨(some 77),none,.mv false (.t 11)⟩,⟨(some 78),none,.indexAddr 1 (.t 77) (.c (.int .i64 2))⟩,⟨(some 79),none,.load .ref false 1 (.t 78)⟩,⟨(some 80),none,.mv false (.t 11)⟩,⟨(some 81),none,.indexAddr 1 (.t 80) (.c (.int .i64 3))⟩,⟨(some 82),none,.load .ref false 1 (.t 81)⟩,⟨(some 83),none,.build [(.int .i64 0),(.int .i64 0)] [(0,1,(.t 79)),(1,1,(.t 82))]⟩,⟨(some 84),none,.mv false (.t 11)⟩,⟨(some 85),none,.indexAddr 1 (.t 84) (.c (.int .i64 4))⟩,⟨(some 86),none,.load .ref false 1 (.t 85)⟩,⟨(some 87),none,.fieldAddr 2 (.t 4)⟩,⟨none,none,.store (.box 4) 2 (.t 87) (.t 76)⟩,⟨(some 88),none,.fieldAddr 4 (.t 4)⟩,⟨none,none,.store (.box 4) 2 (.t 88) (.t 83)⟩,⟨(some 89),none,.fieldAddr 6 (.t 4)⟩,⟨none,none,.store (.box 4) 1 (.t 89) (.t 86)⟩])) (.seq (bH 171 f172.cO.cB.cB.cB.cB.cB.cA.cB.cB.cB.cB.cB.cA.cB.cB.cB.cB.cB.cB.cB.cB.cB.cA) (.cond (.t 90) (bH 171 f172.cO.cB.cB.cB.cB.cB.cA.cB.cB.cB.cB.cB.cA.cB.cB.cB.cB.cB.cB.cB.cB.cB.cB.cA) (.seq (bH 171 f172.cO.cB.cB.cB.cB.cB.cA.cB.cB.cB.cB.cB.cA.cB.cB.cB.cB.cB.cB.cB.cB.cB.cB.cB.cA) (.cond (.t 107) (.seq (bH 171 f172.cO.cB.cB.cB.cB.cB.cA.cB.cB.cB.cB.cB.cA.cB.cB.cB.cB.cB.cB.cB.cB.cB.cB.cB.cB.cA.cA) (.c_ [⟨(some 118),none,.fieldAddr 1 (.t 4)⟩,⟨(some 119),none,.loadT (.box 4) (.t 118)⟩,⟨(some 120),none,.mv false (.t 12)⟩,⟨(some 121),none,.indexAddr 1 (.t 120) (.c (.int .i64 0))⟩,⟨(some 122),none,.load .ref false 1 (.t 121)⟩,⟨(some 123),none,.mv false (.t 12)⟩,⟨(some 124),none,.indexAddr 1 (.t 123) (.c (.int .i64 1))⟩,⟨(some 125),none,.load .ref false 1 (.t 124)⟩,⟨(some 126),none,.mv false (.t 12)⟩,⟨(some 127),none,.indexAddr 1 (.t 126) (.c (.int .i64 2))⟩,⟨(some 128),none,.load .ref false 1 (.t 127)⟩,⟨(some 129),none,.mv false (.t 12)⟩,⟨(some 130),none,.indexAddr 1 (.t 129) (.c (.int .i64 3))⟩,⟨(some 131),none,.load .ref false 1 (.t 130)⟩,⟨(some 132),none,.build [(.int .i64 0),(.int .i64 0)] [(0,1,(.t 128)),(1,1,(.t 131))]⟩,⟨(some 133),none,.build [(.int .i64 0),(.int .i64 0),(.int .i64 0),(.int .i64 0)] [(0,1,(.t 122)),(1,1,(.t 125)),(2,2,(.t 132))]⟩,⟨(some 134),none,.buildSlice 24 166 4 [(.t 133)]⟩,⟨(some 135),none,.append 24 166 4 32 (.t 119) (.t 134)⟩,⟨(some 136),none,.fieldAddr 1 (.t 4)⟩,⟨none,none,.store (.box 4) 1 (.t 136) (.t 135)⟩])) (.seq (bH 171 f172.cO.cB.cB.cB.cB.cB.cA.cB.cB.cB.cB.cB.cA.cB.cB.cB.cB.cB.cB.cB.cB.cB.cB.cB.cB.cB.cA) (.cond (.t 137) (.c_ [⟨(some 145),none,.fieldAddr 7 (.t 4)⟩,⟨(some 146),none,.loadT (.box 4) (.t 145)⟩,⟨(some 147),none,.mv false (.t 8)⟩,⟨(some 148),none,.indexAddr 1 (.t 147) (.c (.int .i64 2))⟩,⟨(some 149),none,.load .ref false 1 (.t 148)⟩,⟨(some 150),none,.call 209 [(.t 149)]⟩,⟨(some 151),none,.mv false (.t 8)⟩,⟨(some 152),none,.indexAddr 1 (.t 151) (.c (.int .i64 3))⟩,⟨(some 153),none,.load .ref false 1 (.t 152)⟩,⟨(some 154),none,.call 209 [(.t 153)]⟩,⟨(some 155),none,.mv false (.t 8)⟩,⟨(some 156),none,.indexAddr 1 (.t 155) (.c (.int .i64 1))⟩,⟨(some 157),none,.load .ref false 1 (.t 156)⟩,⟨(some 158),none,.bin .eql (.t 157) (.c (.str [121,101,115]))⟩,⟨(some 159),none,.build [(.slice .nil []),(.slice .nil []),(.bool false)] [(0,1,(.t 150)),(1,1,(.t 154)),(2,1,(.t 158))]⟩,⟨(some 160),none,.buildSlice 27 44 3 [(.t 159)]⟩,⟨(some 161),none,.append 27 44 3 56 (.t 146) (.t 160)⟩,⟨(some 162),none,.fieldAddr 7 (.t 4)⟩,⟨none,none,.store (.box 4) 1 (.t 162) (.t 161)⟩]) (bH 171 f172.cO.cB.cB.cB.cB.cB.cA.cB.cB.cB.cB.cB.cA.cB.cB.cB.cB.cB.cB.cB.cB.cB.cB.cB.cB.cB.cB.cB)))))))))))))))) (.ops [⟨(some 163),none,.bin .add (.t 27) (.c (.int .i64 1))⟩,⟨(some 27),none,.mv false (.t 163)⟩]))))))) (bH 171 f172.cO.cB.cB.cB.cB.cB.cB)))))))
noncomputable def c192:ae:=(.seq (bH 81 f192.cO.cA) (.seq (.ops [⟨(some 5),none,.mv true (.c (.slice .nil []))⟩]) (.seq (.ops [⟨(some 6),none,.mv true (.c (.int .i64 0))⟩,⟨(some 7),none,.mv true (.c (.int .i64 0))⟩]) (.seq (.seq (bH 81 f192.cO.cB.cB.cB.cA.cA) (.block 0 (.loop (.seq (.ops [⟨(some 15),none,.bin .lss (.t 14) (.t 13)⟩]) (.seq (.cond (.t 15) (.skip) (.exit 0)) (.seq (.block 1 (.seq (bH 81 f192.cO.cB.cB.cB.cA.cB.cB.cB.cB.cB.cA.cB.cA) (.seq (.c_ [⟨(some 18),none,.fieldAddr 1 (.t 9)⟩,⟨(some 19),none,.load (.box 9) false 1 (.t 18)⟩,⟨(some 20),none,.fieldAddr 0 (.t 2)⟩,⟨(some 21),none,.fieldAddr 7 (.t 20)⟩,⟨(some 22),none,.load (.box 2) false 1 (.t 21)⟩,⟨(some 23),none,.fieldAddr 0 (.t 9)⟩,⟨(some 24),none,.load (.box 9) false 1 (.t 23)⟩,⟨(some 25),none,.indexAddr 3 (.t 22) (.t 24)⟩,⟨(some 26),none,.fieldAddr 0 (.t 25)⟩,⟨(some 27),none,.load .ref false 1 (.t 26)⟩,⟨(some 28),none,.lV (.t 27)⟩,⟨(some 29),none,.bin .lss (.t 19) (.t 28)⟩,⟨(some 30),none,.build [(.slice .nil []),(.bool false)] [(1,1,(.t 29))]⟩,⟨(some 10),none,.alloc 239 [(.slice .nil []),(.bool false)]⟩,⟨none,none,.store (.box 10) 2 (.t 10) (.t 30)⟩]) (.seq (.block 2 (.loop (.seq (bH 81 f192.cO.cB.cB.cB.cA.cB.cB.cB.cB.cB.cA.cB.cB.cB.cA.cB.cB.cA) (.seq (.block 3 (.seq (bH 81 f192.cO.cB.cB.cB.cA.cB.cB.cB.cB.cB.cA.cB.cB.cB.cA.cB.cB.cB.cA.cB.cA) (bH 81 f192.cO.cB.cB.cB.cA.cB.cB.cB.cB.cB.cA.cB.cB.cB.cA.cB.cB.cB.cA.cB.cB))) (bH 81 f192.cO.cB.cB.cB.cA.cB.cB.cB.cB.cB.cA.cB.cB.cB.cA.cB.cB.cB.cB))))) (bH 81 f192.cO.cB.cB.cB.cA.cB.cB.cB.cB.cB.cA.cB.cB.cB.cB))))) (.ops [⟨(some 79),none,.bin .add (.t 14) (.c (.int .i64 1))⟩,⟨(some 14),none,.mv false (.t 79)⟩]))))))) (.seq (.ops [⟨(some 80),none,.mv false (.t 5)⟩,⟨(some 4),none,.mv true (.t 80)⟩])<|.ret)))))
noncomputable def c94:ae:=bH 73 f94.cO
noncomputable def c175:ae:=bH 65 f175.cO
noncomputable def c52:ae:=(.seq (bH 45 f52.cO.cA) (.seq (bH 45 f52.cO.cB.cA) (.seq (bH 45 f52.cO.cB.cB.cA) (.seq (.ops [⟨(some 7),none,.mv true (.c (.slice .nil []))⟩]) (.seq (bH 45 f52.cO.cB.cB.cB.cB.cA) (bH 45 f52.cO.cB.cB.cB.cB.cB))))))
noncomputable def c189:ae:=bH 53 f189.cO
noncomputable def c160:ae:=bH 34 f160.cO
noncomputable def c122:ae:=bH 21 f122.cO
noncomputable def c24:ae:=bH 27 f24.cO
noncomputable def c180:ae:=bH 35 f180.cO
noncomputable def c176:ae:=bH 26 f176.cO
noncomputable def c110:ae:=bH 25 f110.cO
noncomputable def c60:ae:=bH 26 f60.cO
noncomputable def c35:ae:=bH 20 f35.cO
noncomputable def c141:ae:=bH 24 f141.cO
noncomputable def c174:ae:=bH 21 f174.cO
noncomputable def c184:ae:=bH 19 f184.cO
noncomputable def c185:ae:=bH 19 f185.cO
noncomputable def c83:ae:=bH 18 f83.cO
noncomputable def c102:ae:=bH 17 f102.cO
noncomputable def c144:ae:=bH 20 f144.cO
noncomputable def c278:ae:=bH 17 f278.cO
noncomputable def c187:ae:=bH 14 f187.cO
noncomputable def c51:ae:=bH 8 f51.cO
noncomputable def c139:ae:=bH 15 f139.cO
noncomputable def c287:ae:=bH 9 f287.cO
noncomputable def c206:ae:=bH 2 f206.cO
noncomputable def c114:ae:=bH 8 f114.cO
noncomputable def c111:ae:=bH 10 f111.cO
noncomputable def c54:ae:=bH 10 f54.cO
noncomputable def c145:ae:=bH 9 f145.cO
noncomputable def c168:ae:=bH 9 f168.cO
noncomputable def c159:ae:=bH 8 f159.cO
noncomputable def c167:ae:=bH 8 f167.cO
noncomputable def c93:ae:=bH 5 f93.cO
noncomputable def c90:ae:=bH 4 f90.cO
end Go.Proofs.Tryz
