/-
  A part of the proof.
-/
import Derived.Test.YtdiflocclemeaaaGreatDoorR3
import Derived.Test.YtdiflocclemeaaaGreatDoorProg
set_option maxRecDepth 100000
set_option maxHeartbeats 8000000
set_option linter.all false
set_option linter.unusedVariables false
set_option linter.unusedSimpArgs false
set_option linter.deprecated false
namespace Go.Proofs.Tryz
open Go.AL
noncomputable def c123:ae:=bH 115 f123.cO
noncomputable def c78:ae:=(.seq (.ops [⟨(some 1),none,.box 29 10 (.t 0)⟩,⟨(some 2),none,.mv true (.c (.bool false))⟩]) (.seq (bH 89 f78.cO.cB.cA) (.seq (.seq (bH 89 f78.cO.cB.cB.cA.cA) (.block 0 (.loop (.seq (.ops [⟨(some 28),none,.bin .lss (.t 27) (.t 26)⟩]) (.seq (.cond (.t 28) (.skip) (.exit 0)) (.seq (.block 1 (.seq (bH 89 f78.cO.cB.cB.cA.cB.cB.cB.cB.cB.cA.cB.cA) (.seq (.c_ [⟨(some 32),none,.load (.box 1) true 10 (.t 1)⟩,⟨(some 33),none,.load (.box 4) true 4 (.t 4)⟩,⟨(some 34),none,.call 140 [(.t 32),(.t 33)]⟩,⟨(some 35),none,.not (.t 34)⟩,⟨(some 36),none,.mv false (.t 35)⟩,⟨(some 37),(some (36,false)),.mv false (.t 3)⟩,⟨(some 38),(some (36,false)),.bin .gtr (.t 37) (.c (.int .i64 0))⟩,⟨(some 39),(some (36,false)),.mv false (.t 38)⟩,⟨(some 40),(some (39,true)),.fieldAddr 1 (.t 1)⟩,⟨(some 41),(some (39,true)),.load (.box 1) false 1 (.t 40)⟩,⟨(some 42),(some (39,true)),.mv false (.t 3)⟩,⟨(some 43),(some (39,true)),.bin .sub (.t 42) (.c (.int .i64 1))⟩,⟨(some 44),(some (39,true)),.indexAddr 4 (.t 41) (.t 43)⟩,⟨(some 45),(some (39,true)),.load .ref true 4 (.t 44)⟩,⟨(some 46),(some (39,true)),.load (.box 4) true 4 (.t 4)⟩,⟨(some 47),(some (39,true)),.call 141 [(.t 45),(.t 46)]⟩,⟨(some 48),(some (39,true)),.not (.t 47)⟩,⟨(some 49),(some (36,false)),.pick (.t 39) (.t 48) (.c (.bool false))⟩,⟨(some 50),none,.pick (.t 36) (.c (.bool true)) (.t 49)⟩])<|.cond (.t 50) (.seq (.ops [⟨(some 2),none,.mv true (.c (.bool false))⟩])<|.ret) (.skip)))) (.ops [⟨(some 51),none,.bin .add (.t 27) (.c (.int .i64 1))⟩,⟨(some 27),none,.mv false (.t 51)⟩]))))))) (.seq (.ops [⟨(some 5),none,.mv true (.f 142)⟩]) (.seq (bH 89 f78.cO.cB.cB.cB.cB.cA) (.ret))))))
noncomputable def c153:ae:=(.seq (.ops [⟨(some 1),none,.box 29 10 (.t 0)⟩,⟨(some 2),none,.mv true (.c (.bool false))⟩]) (.seq (.seq (.ops [⟨(some 3),none,.mv true (.c (.int .i64 0))⟩]) (.block 0 (.loop (.seq (bH 77 f153.cO.cB.cA.cB.cB.cB.cA) (.seq (.block 1 (.seq (bH 77 f153.cO.cB.cA.cB.cB.cB.cB.cA.cB.cA) (.seq (bH 77 f153.cO.cB.cA.cB.cB.cB.cB.cA.cB.cB.cA) (.seq (.c_ [⟨(some 35),none,.mv false (.t 3)⟩,⟨(some 36),none,.bin .gtr (.t 35) (.c (.int .i64 0))⟩,⟨(some 37),none,.mv false (.t 36)⟩,⟨(some 38),(some (37,true)),.fieldAddr 1 (.t 1)⟩,⟨(some 39),(some (37,true)),.load (.box 1) false 1 (.t 38)⟩,⟨(some 40),(some (37,true)),.mv false (.t 3)⟩,⟨(some 41),(some (37,true)),.bin .sub (.t 40) (.c (.int .i64 1))⟩,⟨(some 42),(some (37,true)),.indexAddr 4 (.t 39) (.t 41)⟩,⟨(some 43),(some (37,true)),.fieldAddr 0 (.t 42)⟩,⟨(some 44),(some (37,true)),.load .ref false 1 (.t 43)⟩,⟨(some 45),(some (37,true)),.fieldAddr 0 (.t 4)⟩,⟨(some 46),(some (37,true)),.load (.box 4) false 1 (.t 45)⟩,⟨(some 47),(some (37,true)),.bin .gtr (.t 44) (.t 46)⟩,⟨(some 48),(some (37,true)),.mv false (.t 47)⟩,⟨(some 49),(some (48,false)),.fieldAddr 1 (.t 1)⟩,⟨(some 50),(some (48,false)),.load (.box 1) false 1 (.t 49)⟩,⟨(some 51),(some (48,false)),.mv false (.t 3)⟩,⟨(some 52),(some (48,false)),.bin .sub (.t 51) (.c (.int .i64 1))⟩,⟨(some 53),(some (48,false)),.indexAddr 4 (.t 50) (.t 52)⟩,⟨(some 54),(some (48,false)),.fieldAddr 0 (.t 53)⟩,⟨(some 55),(some (48,false)),.load .ref false 1 (.t 54)⟩,⟨(some 56),(some (48,false)),.fieldAddr 0 (.t 4)⟩,⟨(some 57),(some (48,false)),.load (.box 4) false 1 (.t 56)⟩,⟨(some 58),(some (48,false)),.bin .eql (.t 55) (.t 57)⟩,⟨(some 59),(some (48,false)),.mv false (.t 58)⟩,⟨(some 60),(some (59,true)),.fieldAddr 1 (.t 1)⟩,⟨(some 61),(some (59,true)),.load (.box 1) false 1 (.t 60)⟩,⟨(some 62),(some (59,true)),.mv false (.t 3)⟩,⟨(some 63),(some (59,true)),.bin .sub (.t 62) (.c (.int .i64 1))⟩,⟨(some 64),(some (59,true)),.indexAddr 4 (.t 61) (.t 63)⟩,⟨(some 65),(some (59,true)),.fieldAddr 1 (.t 64)⟩,⟨(some 66),(some (59,true)),.load .ref false 1 (.t 65)⟩,⟨(some 67),(some (59,true)),.fieldAddr 1 (.t 4)⟩,⟨(some 68),(some (59,true)),.load (.box 4) false 1 (.t 67)⟩,⟨(some 69),(some (59,true)),.bin .geq (.t 66) (.t 68)⟩,⟨(some 70),(some (48,false)),.pick (.t 59) (.t 69) (.c (.bool false))⟩,⟨(some 71),(some (37,true)),.pick (.t 48) (.c (.bool true)) (.t 70)⟩,⟨(some 72),none,.pick (.t 37) (.t 71) (.c (.bool false))⟩]) (.cond (.t 72) (.seq (.ops [⟨(some 2),none,.mv true (.c (.bool false))⟩])<|.ret) (.skip)))))) (bH 77 f153.cO.cB.cA.cB.cB.cB.cB.cB)))))) (bH 77 f153.cO.cB.cB)))
noncomputable def c40:ae:=bH 56 f40.cO
noncomputable def c208:ae:=bH 55 f208.cO
noncomputable def c124:ae:=(.seq (.ops [⟨(some 1),none,.box 31 15 (.t 0)⟩,⟨(some 2),none,.mv true (.c (.str []))⟩]) (.seq (bH 53 f124.cO.cB.cA) (.seq (.seq (.ops [⟨(some 4),none,.mv true (.c (.int .i64 0))⟩]) (.block 0 (.loop (.seq (bH 53 f124.cO.cB.cB.cA.cB.cB.cB.cA) (.seq (.block 1 (.seq (.ops [⟨(some 5),none,.mv true (.c (.str [32,110,111]))⟩]) (.seq (bH 53 f124.cO.cB.cB.cA.cB.cB.cB.cB.cA.cB.cB.cA) (.c_ [⟨(some 30),none,.mv true (.t 3)⟩,⟨(some 31),none,.fieldAddr 0 (.t 1)⟩,⟨(some 32),none,.load (.box 1) false 1 (.t 31)⟩,⟨(some 33),none,.mv false (.t 4)⟩,⟨(some 34),none,.indexAddr 3 (.t 32) (.t 33)⟩,⟨(some 35),none,.fieldAddr 0 (.t 34)⟩,⟨(some 36),none,.fieldAddr 0 (.t 35)⟩,⟨(some 37),none,.load .ref false 1 (.t 36)⟩,⟨(some 38),none,.fieldAddr 0 (.t 1)⟩,⟨(some 39),none,.load (.box 1) false 1 (.t 38)⟩,⟨(some 40),none,.mv false (.t 4)⟩,⟨(some 41),none,.indexAddr 3 (.t 39) (.t 40)⟩,⟨(some 42),none,.fieldAddr 0 (.t 41)⟩,⟨(some 43),none,.fieldAddr 1 (.t 42)⟩,⟨(some 44),none,.load .ref false 1 (.t 43)⟩,⟨(some 45),none,.buildSlice 23 3 1 [(.t 37),(.t 44)]⟩,⟨(some 46),none,.call 174 [(.c (.str [99,101,108,108])),(.t 45)]⟩,⟨(some 47),none,.mv false (.t 5)⟩,⟨(some 48),none,.bin .add (.t 46) (.t 47)⟩,⟨(some 49),none,.buildSlice 152 9 1 [(.t 48)]⟩,⟨(some 50),none,.append 152 9 1 16 (.t 30) (.t 49)⟩,⟨(some 3),none,.mv true (.t 50)⟩])))) (bH 53 f124.cO.cB.cB.cA.cB.cB.cB.cB.cB)))))) (bH 53 f124.cO.cB.cB.cB))))
noncomputable def c112:ae:=bH 50 f112.cO
noncomputable def c77:ae:=bH 44 f77.cO
noncomputable def c210:ae:=(.seq (.ops [⟨(some 2),none,.mv true (.c (.str []))⟩]) (.seq (bH 44 f210.cO.cB.cA) (.seq (bH 44 f210.cO.cB.cB.cA) (bH 44 f210.cO.cB.cB.cB))))
noncomputable def c212:ae:=bH 39 f212.cO
noncomputable def c134:ae:=bH 16 f134.cO
noncomputable def c98:ae:=bH 29 f98.cO
noncomputable def c82:ae:=(.seq (bH 31 f82.cO.cA) (.seq (.c_ [⟨(some 8),none,.fieldAddr 1 (.t 3)⟩,⟨(some 9),none,.load (.box 3) false 1 (.t 8)⟩,⟨(some 10),none,.lV (.t 9)⟩,⟨(some 11),none,.fieldAddr 1 (.t 4)⟩,⟨(some 12),none,.load (.box 4) false 1 (.t 11)⟩,⟨(some 13),none,.lV (.t 12)⟩,⟨(some 6),none,.mv true (.t 10)⟩,⟨(some 7),none,.mv true (.t 13)⟩])<|.seq (.c_ [⟨(some 14),none,.mv false (.t 6)⟩,⟨(some 15),none,.mv false (.t 7)⟩,⟨(some 16),none,.bin .lss (.t 14) (.t 15)⟩,⟨(some 17),none,.mv false (.t 16)⟩,⟨(some 18),(some (17,false)),.mv false (.t 6)⟩,⟨(some 19),(some (17,false)),.mv false (.t 7)⟩,⟨(some 20),(some (17,false)),.bin .eql (.t 18) (.t 19)⟩,⟨(some 21),(some (17,false)),.mv false (.t 20)⟩,⟨(some 22),(some (21,true)),.load (.box 2) true 11 (.t 2)⟩,⟨(some 23),(some (21,true)),.load (.box 3) true 2 (.t 3)⟩,⟨(some 24),(some (21,true)),.call 83 [(.t 22),(.t 23)]⟩,⟨(some 25),(some (21,true)),.load (.box 2) true 11 (.t 2)⟩,⟨(some 26),(some (21,true)),.load (.box 4) true 2 (.t 4)⟩,⟨(some 27),(some (21,true)),.call 83 [(.t 25),(.t 26)]⟩,⟨(some 28),(some (21,true)),.bin .gtr (.t 24) (.t 27)⟩,⟨(some 29),(some (17,false)),.pick (.t 21) (.t 28) (.c (.bool false))⟩,⟨(some 30),none,.pick (.t 17) (.c (.bool true)) (.t 29)⟩,⟨(some 5),none,.mv true (.t 30)⟩])<|.ret))
noncomputable def c191:ae:=bH 26 f191.cO
noncomputable def c147:ae:=bH 27 f147.cO
noncomputable def c103:ae:=bH 26 f103.cO
noncomputable def c216:ae:=bH 19 f216.cO
noncomputable def c282:ae:=bH 19 f282.cO
noncomputable def c280:ae:=bH 20 f280.cO
noncomputable def c163:ae:=bH 14 f163.cO
noncomputable def c286:ae:=bH 17 f286.cO
noncomputable def c285:ae:=bH 19 f285.cO
noncomputable def c224:ae:=bH 17 f224.cO
noncomputable def c27:ae:=bH 10 f27.cO
noncomputable def c227:ae:=bH 16 f227.cO
noncomputable def c88:ae:=bH 15 f88.cO
noncomputable def c133:ae:=bH 12 f133.cO
noncomputable def c194:ae:=bH 11 f194.cO
noncomputable def c186:ae:=bH 11 f186.cO
noncomputable def c106:ae:=bH 10 f106.cO
noncomputable def c146:ae:=bH 8 f146.cO
noncomputable def c198:ae:=bH 9 f198.cO
noncomputable def c205:ae:=bH 9 f205.cO
noncomputable def c150:ae:=bH 13 f150.cO
noncomputable def c148:ae:=bH 6 f148.cO
noncomputable def c166:ae:=bH 5 f166.cO
end Go.Proofs.Tryz
