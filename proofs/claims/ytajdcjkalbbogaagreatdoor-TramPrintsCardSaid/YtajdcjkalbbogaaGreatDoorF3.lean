/- A part of the proof. -/
import Derived.Test.YtajdcjkalbbogaaGreatDoorY3
import Derived.Test.YtajdcjkalbbogaaGreatDoorProg
set_option maxRecDepth 100000
set_option maxHeartbeats 8000000
set_option linter.all false
namespace Go.Proofs.Tryz
open Go.AL
noncomputable def c48:ah:=(.seq (bc 124 f48.cO.cA) (.seq (.seq (.ops [⟨(some 9),none,.fieldAddr 0 (.t 2)⟩,⟨(some 10),none,.load .any false 1 (.t 9)⟩,⟨(some 11),none,.fieldAddr 0 (.t 3)⟩,⟨(some 12),none,.load .any false 1 (.t 11)⟩,⟨(some 13),none,.call 30 [(.t 10),(.t 12)]⟩,⟨(some 14),none,.not (.t 13)⟩,⟨(some 15),none,.mv false (.t 14)⟩,⟨(some 16),(some (15,false)),.fieldAddr 1 (.t 2)⟩,⟨(some 17),(some (15,false)),.load .any false 1 (.t 16)⟩,⟨(some 18),(some (15,false)),.kM (.t 17)⟩,⟨(some 19),(some (15,false)),.fieldAddr 1 (.t 3)⟩,⟨(some 20),(some (15,false)),.load .any false 1 (.t 19)⟩,⟨(some 21),(some (15,false)),.kM (.t 20)⟩,⟨(some 22),(some (15,false)),.bin .neq (.t 18) (.t 21)⟩,⟨(some 23),none,.pick (.t 15) (.c (.bool true)) (.t 22)⟩,⟨(some 24),none,.mv false (.t 23)⟩,⟨(some 25),(some (24,false)),.fieldAddr 7 (.t 2)⟩,⟨(some 26),(some (24,false)),.load .any false 1 (.t 25)⟩,⟨(some 27),(some (24,false)),.kM (.t 26)⟩,⟨(some 28),(some (24,false)),.fieldAddr 7 (.t 3)⟩,⟨(some 29),(some (24,false)),.load .any false 1 (.t 28)⟩,⟨(some 30),(some (24,false)),.kM (.t 29)⟩,⟨(some 31),(some (24,false)),.bin .neq (.t 27) (.t 30)⟩,⟨(some 32),none,.pick (.t 24) (.c (.bool true)) (.t 31)⟩,⟨(some 33),none,.mv false (.t 32)⟩,⟨(some 34),(some (33,false)),.fieldAddr 2 (.t 2)⟩,⟨(some 35),(some (33,false)),.load .any true 2 (.t 34)⟩,⟨(some 36),(some (33,false)),.fieldAddr 2 (.t 3)⟩,⟨(some 37),(some (33,false)),.load .any true 2 (.t 36)⟩,⟨(some 38),(some (33,false)),.eqs true 2 (.t 35) (.t 37)⟩,⟨(some 39),none,.pick (.t 33) (.c (.bool true)) (.t 38)⟩,⟨(some 40),none,.mv false (.t 39)⟩,⟨(some 41),(some (40,false)),.fieldAddr 4 (.t 2)⟩,⟨(some 42),(some (40,false)),.load .any true 2 (.t 41)⟩,⟨(some 43),(some (40,false)),.fieldAddr 4 (.t 3)⟩,⟨(some 44),(some (40,false)),.load .any true 2 (.t 43)⟩,⟨(some 45),(some (40,false)),.eqs true 2 (.t 42) (.t 44)⟩,⟨(some 46),none,.pick (.t 40) (.c (.bool true)) (.t 45)⟩,⟨(some 47),none,.mv false (.t 46)⟩,⟨(some 48),(some (47,false)),.fieldAddr 6 (.t 2)⟩,⟨(some 49),(some (47,false)),.load .any false 1 (.t 48)⟩,⟨(some 50),(some (47,false)),.fieldAddr 6 (.t 3)⟩,⟨(some 51),(some (47,false)),.load .any false 1 (.t 50)⟩,⟨(some 52),(some (47,false)),.bin .neq (.t 49) (.t 51)⟩,⟨(some 53),none,.pick (.t 47) (.c (.bool true)) (.t 52)⟩,⟨(some 54),none,.mv false (.t 53)⟩,⟨(some 55),(some (54,false)),.fieldAddr 8 (.t 2)⟩,⟨(some 56),(some (54,false)),.load .any false 1 (.t 55)⟩,⟨(some 57),(some (54,false)),.fieldAddr 8 (.t 3)⟩,⟨(some 58),(some (54,false)),.load .any false 1 (.t 57)⟩,⟨(some 59),(some (54,false)),.bin .neq (.t 56) (.t 58)⟩,⟨(some 60),none,.pick (.t 54) (.c (.bool true)) (.t 59)⟩,⟨(some 61),none,.mv false (.t 60)⟩,⟨(some 62),(some (61,false)),.fieldAddr 9 (.t 2)⟩,⟨(some 63),(some (61,false)),.load .any false 1 (.t 62)⟩,⟨(some 64),(some (61,false)),.fieldAddr 9 (.t 3)⟩,⟨(some 65),(some (61,false)),.load .any false 1 (.t 64)⟩,⟨(some 66),(some (61,false)),.bin .neq (.t 63) (.t 65)⟩,⟨(some 67),none,.pick (.t 61) (.c (.bool true)) (.t 66)⟩]) (.cond (.t 67) (.seq (.ops [⟨(some 4),none,.mv true (.c (.bool false))⟩])<|.ret) (.skip))) (.seq (bc 124 f48.cO.cB.cB.cA) (.seq (.seq (.ops [⟨(some 6),none,.mv true (.c (.int .i64 0))⟩]) (.block 2 (.loop (.seq (bc 124 f48.cO.cB.cB.cB.cA.cB.cB.cB.cA) (.seq (.block 3 (.seq (.cU [⟨(some 93),none,.fieldAddr 7 (.t 2)⟩,⟨(some 94),none,.load (.box 2) false 1 (.t 93)⟩,⟨(some 95),none,.mv false (.t 6)⟩,⟨(some 96),none,.indexAddr 3 (.t 94) (.t 95)⟩,⟨(some 97),none,.load .ref true 3 (.t 96)⟩,⟨(some 98),none,.fieldAddr 7 (.t 3)⟩,⟨(some 99),none,.load (.box 3) false 1 (.t 98)⟩,⟨(some 100),none,.mv false (.t 6)⟩,⟨(some 101),none,.indexAddr 3 (.t 99) (.t 100)⟩,⟨(some 102),none,.load .ref true 3 (.t 101)⟩,⟨(some 7),none,.alloc 48 [(.slice .nil []),(.slice .nil []),(.bool false)]⟩,⟨(some 8),none,.alloc 48 [(.slice .nil []),(.slice .nil []),(.bool false)]⟩,⟨none,none,.store (.box 7) 3 (.t 7) (.t 97)⟩,⟨none,none,.store (.box 8) 3 (.t 8) (.t 102)⟩]) (bc 124 f48.cO.cB.cB.cB.cA.cB.cB.cB.cB.cA.cB.cB))) (bc 124 f48.cO.cB.cB.cB.cA.cB.cB.cB.cB.cB)))))) (.seq (.ops [⟨(some 4),none,.mv true (.c (.bool true))⟩])<|.ret)))))
noncomputable def c45:ah:=bc 115 f45.cO
noncomputable def c44:ah:=(.seq (.ops [⟨(some 1),none,.box 29 10 (.t 0)⟩,⟨(some 2),none,.mv true (.c (.bool false))⟩]) (.seq (bc 89 f44.cO.cB.cA) (.seq (.seq (bc 89 f44.cO.cB.cB.cA.cA) (.block 0 (.loop (.seq (.ops [⟨(some 28),none,.bin .lss (.t 27) (.t 26)⟩]) (.seq (.cond (.t 28) (.skip) (.exit 0)) (.seq (.block 1 (.seq (bc 89 f44.cO.cB.cB.cA.cB.cB.cB.cB.cB.cA.cB.cA) (.seq (.cU [⟨(some 32),none,.load (.box 1) true 10 (.t 1)⟩,⟨(some 33),none,.load (.box 4) true 4 (.t 4)⟩,⟨(some 34),none,.call 96 [(.t 32),(.t 33)]⟩,⟨(some 35),none,.not (.t 34)⟩,⟨(some 36),none,.mv false (.t 35)⟩,⟨(some 37),(some (36,false)),.mv false (.t 3)⟩,⟨(some 38),(some (36,false)),.bin .gtr (.t 37) (.c (.int .i64 0))⟩,⟨(some 39),(some (36,false)),.mv false (.t 38)⟩,⟨(some 40),(some (39,true)),.fieldAddr 1 (.t 1)⟩,⟨(some 41),(some (39,true)),.load (.box 1) false 1 (.t 40)⟩,⟨(some 42),(some (39,true)),.mv false (.t 3)⟩,⟨(some 43),(some (39,true)),.bin .sub (.t 42) (.c (.int .i64 1))⟩,⟨(some 44),(some (39,true)),.indexAddr 4 (.t 41) (.t 43)⟩,⟨(some 45),(some (39,true)),.load .ref true 4 (.t 44)⟩,⟨(some 46),(some (39,true)),.load (.box 4) true 4 (.t 4)⟩,⟨(some 47),(some (39,true)),.call 97 [(.t 45),(.t 46)]⟩,⟨(some 48),(some (39,true)),.not (.t 47)⟩,⟨(some 49),(some (36,false)),.pick (.t 39) (.t 48) (.c (.bool false))⟩,⟨(some 50),none,.pick (.t 36) (.c (.bool true)) (.t 49)⟩])<|.cond (.t 50) (.seq (.ops [⟨(some 2),none,.mv true (.c (.bool false))⟩])<|.ret) (.skip)))) (.ops [⟨(some 51),none,.bin .add (.t 27) (.c (.int .i64 1))⟩,⟨(some 27),none,.mv false (.t 51)⟩]))))))) (.seq (.ops [⟨(some 5),none,.mv true (.f 98)⟩]) (.seq (bc 89 f44.cO.cB.cB.cB.cB.cA) (.ret))))))
noncomputable def c33:ah:=bc 80 f33.cO
noncomputable def c10:ah:=bc 42 f10.cO
noncomputable def c81:ah:=(.seq (bc 62 f81.cO.cA) (.seq (bc 62 f81.cO.cB.cA) (.seq (.seq (.ops [⟨(some 6),none,.mv true (.c (.int .i64 0))⟩]) (.block 2 (.loop (.seq (bc 62 f81.cO.cB.cB.cA.cB.cB.cB.cA) (.seq (.block 3 (.seq (.cU [⟨(some 29),none,.fieldAddr 1 (.t 3)⟩,⟨(some 30),none,.load (.box 3) false 1 (.t 29)⟩,⟨(some 31),none,.mv false (.t 6)⟩,⟨(some 32),none,.indexAddr 1 (.t 30) (.t 31)⟩,⟨(some 33),none,.load .ref false 1 (.t 32)⟩,⟨(some 34),none,.fieldAddr 0 (.t 3)⟩,⟨(some 35),none,.load (.box 3) false 1 (.t 34)⟩,⟨(some 36),none,.kM (.t 35)⟩,⟨(some 37),none,.bin .sub (.t 36) (.c (.int .i64 1))⟩,⟨(some 38),none,.call 80 [(.t 33),(.c (.int .i64 1)),(.t 37)]⟩,⟨(some 39),none,.not (.t 38)⟩,⟨(some 40),none,.mv false (.t 39)⟩,⟨(some 41),(some (40,false)),.mv false (.t 6)⟩,⟨(some 42),(some (40,false)),.bin .gtr (.t 41) (.c (.int .i64 0))⟩,⟨(some 43),(some (40,false)),.mv false (.t 42)⟩,⟨(some 44),(some (43,true)),.fieldAddr 1 (.t 3)⟩,⟨(some 45),(some (43,true)),.load (.box 3) false 1 (.t 44)⟩,⟨(some 46),(some (43,true)),.mv false (.t 6)⟩,⟨(some 47),(some (43,true)),.indexAddr 1 (.t 45) (.t 46)⟩,⟨(some 48),(some (43,true)),.load .ref false 1 (.t 47)⟩,⟨(some 49),(some (43,true)),.fieldAddr 1 (.t 3)⟩,⟨(some 50),(some (43,true)),.load (.box 3) false 1 (.t 49)⟩,⟨(some 51),(some (43,true)),.mv false (.t 6)⟩,⟨(some 52),(some (43,true)),.bin .sub (.t 51) (.c (.int .i64 1))⟩,⟨(some 53),(some (43,true)),.indexAddr 1 (.t 50) (.t 52)⟩,⟨(some 54),(some (43,true)),.load .ref false 1 (.t 53)⟩,⟨(some 55),(some (43,true)),.bin .leq (.t 48) (.t 54)⟩,⟨(some 56),(some (40,false)),.pick (.t 43) (.t 55) (.c (.bool false))⟩,⟨(some 57),none,.pick (.t 40) (.c (.bool true)) (.t 56)⟩]) (.cond (.t 57) (.seq (.ops [⟨(some 4),none,.mv true (.c (.bool false))⟩])<|.ret) (.skip)))) (bc 62 f81.cO.cB.cB.cA.cB.cB.cB.cB.cB)))))) (bc 62 f81.cO.cB.cB.cB))))
noncomputable def c6:ah:=bc 61 f6.cO
noncomputable def c113:ah:=bc 54 f113.cO
noncomputable def c167:ah:=bc 53 f167.cO
noncomputable def c185:ah:=(.seq (bc 46 f185.cO.cA) (.seq (.ops [⟨(some 7),none,.mv true (.c (.slice .nil []))⟩]) (.seq (.seq (bc 46 f185.cO.cB.cB.cA.cA) (.block 0 (.loop (.seq (.ops [⟨(some 14),none,.bin .lss (.t 13) (.t 12)⟩]) (.seq (.cond (.t 14) (.skip) (.exit 0)) (.seq (.block 1<|.seq (.ops [⟨(some 15),none,.mv false (.t 13)⟩,⟨(some 16),none,.indexAddr 2 (.t 11) (.t 13)⟩,⟨(some 17),none,.load .any true 2 (.t 16)⟩,⟨(some 9),none,.alloc 261 [(.int .i64 0),(.int .i64 0)]⟩,⟨(some 8),none,.mv true (.t 15)⟩,⟨none,none,.store .any 2 (.t 9) (.t 17)⟩])<|.seq (.ops [⟨(some 18),none,.mv false (.t 8)⟩,⟨(some 19),none,.bin .gtr (.t 18) (.c (.int .i64 0))⟩])<|.cond (.t 19) (.cU [⟨(some 20),none,.mv true (.t 7)⟩,⟨(some 21),none,.load (.box 3) true 11 (.t 3)⟩,⟨(some 22),none,.fieldAddr 0 (.t 4)⟩,⟨(some 23),none,.load (.box 4) false 1 (.t 22)⟩,⟨(some 24),none,.mv false (.t 8)⟩,⟨(some 25),none,.bin .sub (.t 24) (.c (.int .i64 1))⟩,⟨(some 26),none,.indexAddr 2 (.t 23) (.t 25)⟩,⟨(some 27),none,.load .ref true 2 (.t 26)⟩,⟨(some 28),none,.load (.box 9) true 2 (.t 9)⟩,⟨(some 29),none,.mv false (.t 2)⟩,⟨(some 30),none,.call 192 [(.t 21),(.t 27),(.t 28),(.t 29)]⟩,⟨(some 31),none,.buildSlice 23 3 1 [(.t 30)]⟩,⟨(some 32),none,.append 23 3 1 8 (.t 20) (.t 31)⟩,⟨(some 7),none,.mv true (.t 32)⟩]) (.skip))<|.ops [⟨(some 33),none,.bin .add (.t 13) (.c (.int .i64 1))⟩,⟨(some 13),none,.mv false (.t 33)⟩])))))) (bc 46 f185.cO.cB.cB.cB))))
noncomputable def c25:ah:=bc 33 f25.cO
noncomputable def c27:ah:=bc 29 f27.cO
noncomputable def c91:ah:=bc 41 f91.cO
noncomputable def c184:ah:=bc 39 f184.cO
noncomputable def c57:ah:=bc 16 f57.cO
noncomputable def c60:ah:=bc 29 f60.cO
noncomputable def c70:ah:=bc 25 f70.cO
noncomputable def c53:ah:=bc 15 f53.cO
noncomputable def c169:ah:=bc 26 f169.cO
noncomputable def c103:ah:=bc 27 f103.cO
noncomputable def c63:ah:=bc 26 f63.cO
noncomputable def c214:ah:=bc 24 f214.cO
noncomputable def c154:ah:=bc 19 f154.cO
noncomputable def c87:ah:=bc 19 f87.cO
noncomputable def c213:ah:=bc 19 f213.cO
noncomputable def c16:ah:=bc 16 f16.cO
noncomputable def c85:ah:=bc 14 f85.cO
noncomputable def c191:ah:=bc 17 f191.cO
noncomputable def c216:ah:=bc 19 f216.cO
noncomputable def c209:ah:=bc 17 f209.cO
noncomputable def c73:ah:=bc 14 f73.cO
noncomputable def c165:ah:=bc 14 f165.cO
noncomputable def c68:ah:=bc 8 f68.cO
noncomputable def c59:ah:=bc 44 f59.cO
noncomputable def c80:ah:=bc 15 f80.cO
noncomputable def c218:ah:=bc 9 f218.cO
noncomputable def c140:ah:=bc 19 f140.cO
noncomputable def c135:ah:=bc 11 f135.cO
noncomputable def c26:ah:=bc 3 f26.cO
noncomputable def c77:ah:=bc 6 f77.cO
noncomputable def c102:ah:=bc 8 f102.cO
noncomputable def c99:ah:=bc 9 f99.cO
noncomputable def c90:ah:=bc 9 f90.cO
noncomputable def c112:ah:=bc 13 f112.cO
noncomputable def c122:ah:=bc 2 f122.cO
noncomputable def c152:ah:=bc 6 f152.cO
noncomputable def c37:ah:=bc 5 f37.cO
noncomputable def c55:ah:=bc 4 f55.cO
end Go.Proofs.Tryz
