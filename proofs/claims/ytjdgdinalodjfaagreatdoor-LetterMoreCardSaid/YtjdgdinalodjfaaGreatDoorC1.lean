/-
  A part of the proof: CdE Cd0 Cd1 Cd2 Cd3 Cd4 Cd5.
-/
import Derived.Test.YtjdgdinalodjfaaGreatDoorProg
import Derived.Test.YtjdgdinalodjfaaGreatDoorA2
set_option linter.all false
set_option linter.unusedVariables false
set_option linter.unusedSimpArgs false
set_option linter.deprecated false
namespace Go.Proofs.Tryz
open Go.AL
noncomputable def codeOf (f:Go.Func):Go.Code:=match f.body with | some c=>c | none=>f.body.get!
abbrev Ev (n:Nat) (f:Go.Func):={c:ACode // compC prog n (codeOf f)=c}
end Go.Proofs.Tryz
namespace Go.Proofs.Tryz
open Go.AL
end Go.Proofs.Tryz
namespace Go.Proofs.Tryz
open Go.AL
set_option maxRecDepth 100000
set_option maxHeartbeats 4000000
noncomputable def c17:ACode := .seq (.ops [⟨(some 5),none,.box 28 10 (.t 0)⟩,
 ⟨(some 10),none,.mv true (.c (.bool false))⟩]) <|
 .seq (.seq (.ops [⟨(some 24),none,.load .any true 10 (.t 5)⟩,
 ⟨(some 25),none,.call 29 [(.t 24)]⟩,
 ⟨(some 26),none,.not (.t 25)⟩,
 ⟨(some 27),none,.mv false (.t 26)⟩,
 ⟨(some 28),(some (27,false)),.load .any true 10 (.t 5)⟩,
 ⟨(some 29),(some (27,false)),.call 33 [(.t 28)]⟩,
 ⟨(some 30),(some (27,false)),.not (.t 29)⟩,
 ⟨(some 31),none,.pick (.t 27) (.c (.bool true)) (.t 30)⟩,
 ⟨(some 32),none,.mv false (.t 31)⟩,
 ⟨(some 33),(some (32,false)),.mv false (.t 1)⟩,
 ⟨(some 34),(some (32,false)),.bin .lss (.t 33) (.c (.int .i64 0))⟩,
 ⟨(some 35),none,.pick (.t 32) (.c (.bool true)) (.t 34)⟩,
 ⟨(some 36),none,.mv false (.t 35)⟩,
 ⟨(some 37),(some (36,false)),.mv false (.t 1)⟩,
 ⟨(some 38),(some (36,false)),.bin .gtr (.t 37) (.c (.int .i64 400))⟩,
 ⟨(some 39),none,.pick (.t 36) (.c (.bool true)) (.t 38)⟩,
 ⟨(some 40),none,.mv false (.t 39)⟩,
 ⟨(some 41),(some (40,false)),.mv false (.t 2)⟩,
 ⟨(some 42),(some (40,false)),.bin .lss (.t 41) (.c (.int .i64 0))⟩,
 ⟨(some 43),none,.pick (.t 40) (.c (.bool true)) (.t 42)⟩,
 ⟨(some 44),none,.mv false (.t 43)⟩,
 ⟨(some 45),(some (44,false)),.mv false (.t 2)⟩,
 ⟨(some 46),(some (44,false)),.bin .gtr (.t 45) (.c (.int .i64 3))⟩,
 ⟨(some 47),none,.pick (.t 44) (.c (.bool true)) (.t 46)⟩,
 ⟨(some 48),none,.mv false (.t 47)⟩,
 ⟨(some 49),(some (48,false)),.mv false (.t 3)⟩,
 ⟨(some 50),(some (48,false)),.bin .lss (.t 49) (.c (.int .i64 0))⟩,
 ⟨(some 51),none,.pick (.t 48) (.c (.bool true)) (.t 50)⟩,
 ⟨(some 52),none,.mv false (.t 51)⟩,
 ⟨(some 53),(some (52,false)),.mv false (.t 3)⟩,
 ⟨(some 54),(some (52,false)),.fieldAddr 7 (.t 5)⟩,
 ⟨(some 55),(some (52,false)),.load .any false 1 (.t 54)⟩,
 ⟨(some 56),(some (52,false)),.lenL (.t 55)⟩,
 ⟨(some 57),(some (52,false)),.bin .geq (.t 53) (.t 56)⟩,
 ⟨(some 58),none,.pick (.t 52) (.c (.bool true)) (.t 57)⟩,
 ⟨(some 59),none,.mv false (.t 58)⟩,
 ⟨(some 60),(some (59,false)),.mv false (.t 4)⟩,
 ⟨(some 61),(some (59,false)),.bin .lss (.t 60) (.c (.int .i64 1))⟩,
 ⟨(some 62),none,.pick (.t 59) (.c (.bool true)) (.t 61)⟩,
 ⟨(some 63),none,.mv false (.t 62)⟩,
 ⟨(some 64),(some (63,false)),.mv false (.t 4)⟩,
 ⟨(some 65),(some (63,false)),.fieldAddr 7 (.t 5)⟩,
 ⟨(some 66),(some (63,false)),.load .any false 1 (.t 65)⟩,
 ⟨(some 67),(some (63,false)),.mv false (.t 3)⟩,
 ⟨(some 68),(some (63,false)),.indexAddr 3 (.t 66) (.t 67)⟩,
 ⟨(some 69),(some (63,false)),.fieldAddr 0 (.t 68)⟩,
 ⟨(some 70),(some (63,false)),.load .any false 1 (.t 69)⟩,
 ⟨(some 71),(some (63,false)),.lenL (.t 70)⟩,
 ⟨(some 72),(some (63,false)),.bin .geq (.t 64) (.t 71)⟩,
 ⟨(some 73),none,.pick (.t 63) (.c (.bool true)) (.t 72)⟩]) <|
 .cond (.t 73)
 (.seq (.ops [⟨(some 74),none,.call 24 []⟩,
 ⟨(some 10),none,.mv true (.t 74)⟩]) <|
 .ret)
 (.skip)) <|
 .seq (.ops [⟨(some 75),none,.load .any true 10 (.t 5)⟩,
 ⟨(some 11),none,.alloc 28 [(.slice .nil []),(.slice .nil []),(.int .i64 0),(.int .i64 0),(.int .i64 0),(.int .i64 0),(.int .i64 0),(.slice .nil []),(.int .i64 0),(.int .i64 0)]⟩,
 ⟨none,none,.store .any 10 (.t 11) (.t 75)⟩]) <|
 .seq (.dops [⟨(some 76),none,.fieldAddr 8 (.t 5)⟩,
 ⟨(some 77),none,.load (.box 5) false 1 (.t 76)⟩,
 ⟨(some 78),none,.mv false (.t 1)⟩,
 ⟨(some 79),none,.bin .add (.t 77) (.t 78)⟩,
 ⟨(some 80),none,.min (.c (.int .i64 400)) (.t 79)⟩,
 ⟨(some 81),none,.fieldAddr 9 (.t 5)⟩,
 ⟨(some 82),none,.load (.box 5) false 1 (.t 81)⟩,
 ⟨(some 83),none,.mv false (.t 2)⟩,
 ⟨(some 84),none,.bin .add (.t 82) (.t 83)⟩,
 ⟨(some 85),none,.min (.c (.int .i64 3)) (.t 84)⟩,
 ⟨(some 86),none,.fieldAddr 8 (.t 11)⟩,
 ⟨none,none,.store (.box 11) 1 (.t 86) (.t 80)⟩,
 ⟨(some 87),none,.fieldAddr 9 (.t 11)⟩,
 ⟨none,none,.store (.box 11) 1 (.t 87) (.t 85)⟩]) <|
 .seq (.ops [⟨(some 88),none,.fieldAddr 7 (.t 5)⟩,
 ⟨(some 89),none,.load .any false 1 (.t 88)⟩,
 ⟨(some 90),none,.append 26 77 3 56 (.c (.slice .nil [])) (.t 89)⟩,
 ⟨(some 91),none,.fieldAddr 7 (.t 11)⟩,
 ⟨none,none,.store .any 1 (.t 91) (.t 90)⟩]) <|
 .seq (.dops [⟨(some 92),none,.fieldAddr 7 (.t 11)⟩,
 ⟨(some 93),none,.load (.box 11) false 1 (.t 92)⟩,
 ⟨(some 94),none,.mv false (.t 3)⟩,
 ⟨(some 95),none,.fieldAddr 7 (.t 5)⟩,
 ⟨(some 96),none,.load (.box 5) false 1 (.t 95)⟩,
 ⟨(some 97),none,.mv false (.t 3)⟩,
 ⟨(some 98),none,.indexAddr 3 (.t 96) (.t 97)⟩,
 ⟨(some 99),none,.fieldAddr 1 (.t 98)⟩,
 ⟨(some 100),none,.load .ref false 1 (.t 99)⟩,
 ⟨(some 101),none,.mv false (.t 4)⟩,
 ⟨(some 102),none,.call 64 [(.t 100),(.t 101)]⟩,
 ⟨(some 103),none,.indexAddr 3 (.t 93) (.t 94)⟩,
 ⟨(some 104),none,.fieldAddr 1 (.t 103)⟩,
 ⟨none,none,.store .ref 1 (.t 104) (.t 102)⟩]) <|
 .seq (.ops [⟨(some 106),none,.load .any true 10 (.t 5)⟩,
 ⟨(some 107),none,.call 39 [(.t 106)]⟩,
 ⟨(some 105),none,.mv false (.t 107)⟩,
 ⟨(some 108),none,.extract (.t 105) 0⟩,
 ⟨(some 109),none,.extract (.t 105) 1⟩,
 ⟨(some 12),none,.mv true (.t 108)⟩,
 ⟨(some 13),none,.mv true (.t 109)⟩]) <|
 .seq (.ops [⟨(some 111),none,.load .any true 10 (.t 11)⟩,
 ⟨(some 112),none,.call 39 [(.t 111)]⟩,
 ⟨(some 110),none,.mv false (.t 112)⟩,
 ⟨(some 113),none,.extract (.t 110) 0⟩,
 ⟨(some 114),none,.extract (.t 110) 1⟩,
 ⟨(some 14),none,.mv true (.t 113)⟩,
 ⟨(some 15),none,.mv true (.t 114)⟩]) <|
 .seq (.ops [⟨(some 116),none,.load .any true 10 (.t 5)⟩,
 ⟨(some 117),none,.call 45 [(.t 116)]⟩,
 ⟨(some 115),none,.mv false (.t 117)⟩,
 ⟨(some 118),none,.extract (.t 115) 0⟩,
 ⟨(some 119),none,.extract (.t 115) 1⟩,
 ⟨(some 16),none,.mv true (.t 118)⟩,
 ⟨(some 17),none,.mv true (.t 119)⟩]) <|
 .seq (.ops [⟨(some 121),none,.load .any true 10 (.t 11)⟩,
 ⟨(some 122),none,.call 45 [(.t 121)]⟩,
 ⟨(some 120),none,.mv false (.t 122)⟩,
 ⟨(some 123),none,.extract (.t 120) 0⟩,
 ⟨(some 124),none,.extract (.t 120) 1⟩,
 ⟨(some 18),none,.mv true (.t 123)⟩,
 ⟨(some 19),none,.mv true (.t 124)⟩]) <|
 .seq (.ops [⟨(some 126),none,.load .any true 10 (.t 5)⟩,
 ⟨(some 127),none,.call 56 [(.t 126)]⟩,
 ⟨(some 125),none,.mv false (.t 127)⟩,
 ⟨(some 128),none,.extract (.t 125) 0⟩,
 ⟨(some 129),none,.extract (.t 125) 1⟩,
 ⟨(some 20),none,.mv true (.t 128)⟩,
 ⟨(some 21),none,.mv true (.t 129)⟩]) <|
 .seq (.ops [⟨(some 131),none,.load .any true 10 (.t 11)⟩,
 ⟨(some 132),none,.call 56 [(.t 131)]⟩,
 ⟨(some 130),none,.mv false (.t 132)⟩,
 ⟨(some 133),none,.extract (.t 130) 0⟩,
 ⟨(some 134),none,.extract (.t 130) 1⟩,
 ⟨(some 22),none,.mv true (.t 133)⟩,
 ⟨(some 23),none,.mv true (.t 134)⟩]) <|
 .seq (.seq (.ops [⟨(some 135),none,.mv false (.t 13)⟩,
 ⟨(some 136),none,.bin .neq (.t 135) (.c (.int .i64 0))⟩,
 ⟨(some 137),none,.mv false (.t 136)⟩,
 ⟨(some 138),(some (137,true)),.mv false (.t 13)⟩,
 ⟨(some 139),(some (137,true)),.bin .neq (.t 138) (.c (.int .i64 5))⟩,
 ⟨(some 140),none,.pick (.t 137) (.t 139) (.c (.bool false))⟩,
 ⟨(some 141),none,.mv false (.t 140)⟩,
 ⟨(some 142),(some (141,false)),.mv false (.t 15)⟩,
 ⟨(some 143),(some (141,false)),.bin .neq (.t 142) (.c (.int .i64 0))⟩,
 ⟨(some 144),(some (141,false)),.mv false (.t 143)⟩,
 ⟨(some 145),(some (144,true)),.mv false (.t 15)⟩,
 ⟨(some 146),(some (144,true)),.bin .neq (.t 145) (.c (.int .i64 5))⟩,
 ⟨(some 147),(some (141,false)),.pick (.t 144) (.t 146) (.c (.bool false))⟩,
 ⟨(some 148),none,.pick (.t 141) (.c (.bool true)) (.t 147)⟩,
 ⟨(some 149),none,.mv false (.t 148)⟩,
 ⟨(some 150),(some (149,false)),.mv false (.t 17)⟩,
 ⟨(some 151),(some (149,false)),.bin .neq (.t 150) (.c (.int .i64 0))⟩,
 ⟨(some 152),none,.pick (.t 149) (.c (.bool true)) (.t 151)⟩,
 ⟨(some 153),none,.mv false (.t 152)⟩,
 ⟨(some 154),(some (153,false)),.mv false (.t 19)⟩,
 ⟨(some 155),(some (153,false)),.bin .neq (.t 154) (.c (.int .i64 0))⟩,
 ⟨(some 156),none,.pick (.t 153) (.c (.bool true)) (.t 155)⟩,
 ⟨(some 157),none,.mv false (.t 156)⟩,
 ⟨(some 158),(some (157,false)),.mv false (.t 21)⟩,
 ⟨(some 159),(some (157,false)),.bin .neq (.t 158) (.c (.int .i64 0))⟩,
 ⟨(some 160),none,.pick (.t 157) (.c (.bool true)) (.t 159)⟩,
 ⟨(some 161),none,.mv false (.t 160)⟩,
 ⟨(some 162),(some (161,false)),.mv false (.t 23)⟩,
 ⟨(some 163),(some (161,false)),.bin .neq (.t 162) (.c (.int .i64 0))⟩,
 ⟨(some 164),none,.pick (.t 161) (.c (.bool true)) (.t 163)⟩]) <|
 .cond (.t 164)
 (.seq (.ops [⟨(some 10),none,.mv true (.c (.bool false))⟩]) <|
 .ret)
 (.skip)) <|
 .seq (.ops [⟨(some 165),none,.mv false (.t 13)⟩,
 ⟨(some 166),none,.bin .neq (.t 165) (.c (.int .i64 0))⟩,
 ⟨(some 167),none,.mv false (.t 166)⟩,
 ⟨(some 168),(some (167,false)),.mv false (.t 15)⟩,
 ⟨(some 169),(some (167,false)),.bin .eql (.t 168) (.c (.int .i64 0))⟩,
 ⟨(some 170),(some (167,false)),.mv false (.t 169)⟩,
 ⟨(some 171),(some (170,true)),.mv false (.t 14)⟩,
 ⟨(some 172),(some (170,true)),.mv false (.t 12)⟩,
 ⟨(some 173),(some (170,true)),.bin .leq (.t 171) (.t 172)⟩,
 ⟨(some 174),(some (167,false)),.pick (.t 170) (.t 173) (.c (.bool false))⟩,
 ⟨(some 175),none,.pick (.t 167) (.c (.bool true)) (.t 174)⟩,
 ⟨(some 176),none,.mv false (.t 175)⟩,
 ⟨(some 177),(some (176,true)),.mv false (.t 18)⟩,
 ⟨(some 178),(some (176,true)),.mv false (.t 16)⟩,
 ⟨(some 179),(some (176,true)),.bin .geq (.t 177) (.t 178)⟩,
 ⟨(some 180),none,.pick (.t 176) (.t 179) (.c (.bool false))⟩,
 ⟨(some 181),none,.mv false (.t 180)⟩,
 ⟨(some 182),(some (181,true)),.mv false (.t 22)⟩,
 ⟨(some 183),(some (181,true)),.mv false (.t 20)⟩,
 ⟨(some 184),(some (181,true)),.bin .leq (.t 182) (.t 183)⟩,
 ⟨(some 185),none,.pick (.t 181) (.t 184) (.c (.bool false))⟩,
 ⟨(some 186),none,.mv false (.t 185)⟩,
 ⟨(some 187),(some (186,true)),.call 24 []⟩,
 ⟨(some 188),none,.pick (.t 186) (.t 187) (.c (.bool false))⟩,
 ⟨(some 10),none,.mv true (.t 188)⟩]) <|
 .ret
noncomputable def c24:ACode := .seq (.ops [⟨(some 0),none,.mv true (.c (.bool false))⟩]) <|
 .seq (.ops [⟨(some 28),none,.call 73 []⟩,
 ⟨(some 29),none,.call 74 []⟩,
 ⟨(some 30),none,.call 26 [(.t 28),(.t 29),(.c (.int .i64 0))]⟩,
 ⟨(some 27),none,.mv false (.t 30)⟩,
 ⟨(some 31),none,.extract (.t 27) 0⟩,
 ⟨(some 32),none,.extract (.t 27) 1⟩,
 ⟨(some 1),none,.mv true (.t 31)⟩,
 ⟨(some 2),none,.mv true (.t 32)⟩]) <|
 .seq (.ops [⟨(some 34),none,.call 73 []⟩,
 ⟨(some 35),none,.call 75 []⟩,
 ⟨(some 36),none,.call 31 [(.t 34),(.t 35),(.c (.int .i64 9))]⟩,
 ⟨(some 33),none,.mv false (.t 36)⟩,
 ⟨(some 37),none,.extract (.t 33) 0⟩,
 ⟨(some 38),none,.extract (.t 33) 1⟩,
 ⟨(some 3),none,.mv true (.t 37)⟩,
 ⟨(some 4),none,.mv true (.t 38)⟩]) <|
 .seq (.ops [⟨(some 40),none,.call 73 []⟩,
 ⟨(some 41),none,.call 75 []⟩,
 ⟨(some 42),none,.call 32 [(.t 40),(.t 41)]⟩,
 ⟨(some 39),none,.mv false (.t 42)⟩,
 ⟨(some 43),none,.extract (.t 39) 0⟩,
 ⟨(some 44),none,.extract (.t 39) 1⟩,
 ⟨(some 5),none,.mv true (.t 43)⟩,
 ⟨(some 6),none,.mv true (.t 44)⟩]) <|
 .seq (.ops [⟨(some 46),none,.call 73 []⟩,
 ⟨(some 47),none,.call 75 []⟩,
 ⟨(some 48),none,.call 25 [(.t 46),(.t 47),(.c (.int .i64 9))]⟩,
 ⟨(some 45),none,.mv false (.t 48)⟩,
 ⟨(some 49),none,.extract (.t 45) 0⟩,
 ⟨(some 50),none,.extract (.t 45) 1⟩,
 ⟨(some 7),none,.mv true (.t 49)⟩,
 ⟨(some 8),none,.mv true (.t 50)⟩]) <|
 .seq (.ops [⟨(some 52),none,.call 73 []⟩,
 ⟨(some 53),none,.call 39 [(.t 52)]⟩,
 ⟨(some 51),none,.mv false (.t 53)⟩,
 ⟨(some 54),none,.extract (.t 51) 0⟩,
 ⟨(some 55),none,.extract (.t 51) 1⟩,
 ⟨(some 9),none,.mv true (.t 54)⟩,
 ⟨(some 10),none,.mv true (.t 55)⟩]) <|
 .seq (.ops [⟨(some 57),none,.call 73 []⟩,
 ⟨(some 58),none,.call 40 [(.t 57)]⟩,
 ⟨(some 56),none,.mv false (.t 58)⟩,
 ⟨(some 59),none,.extract (.t 56) 0⟩,
 ⟨(some 60),none,.extract (.t 56) 1⟩,
 ⟨(some 61),none,.extract (.t 56) 2⟩,
 ⟨(some 11),none,.alloc 31 [(.slice .nil []),(.slice .nil [])]⟩,
 ⟨none,none,.store .any 2 (.t 11) (.t 59)⟩,
 ⟨(some 12),none,.mv true (.t 60)⟩,
 ⟨(some 13),none,.mv true (.t 61)⟩]) <|
 .seq (.ops [⟨(some 63),none,.call 73 []⟩,
 ⟨(some 64),none,.call 45 [(.t 63)]⟩,
 ⟨(some 62),none,.mv false (.t 64)⟩,
 ⟨(some 65),none,.extract (.t 62) 0⟩,
 ⟨(some 66),none,.extract (.t 62) 1⟩,
 ⟨(some 14),none,.mv true (.t 65)⟩,
 ⟨(some 15),none,.mv true (.t 66)⟩]) <|
 .seq (.ops [⟨(some 68),none,.call 76 []⟩,
 ⟨(some 69),none,.call 46 [(.t 68)]⟩,
 ⟨(some 67),none,.mv false (.t 69)⟩,
 ⟨(some 70),none,.extract (.t 67) 0⟩,
 ⟨(some 71),none,.extract (.t 67) 1⟩,
 ⟨(some 16),none,.mv true (.t 70)⟩,
 ⟨(some 17),none,.mv true (.t 71)⟩]) <|
 .seq (.ops [⟨(some 73),none,.call 76 []⟩,
 ⟨(some 74),none,.call 50 [(.t 73)]⟩,
 ⟨(some 72),none,.mv false (.t 74)⟩,
 ⟨(some 75),none,.extract (.t 72) 0⟩,
 ⟨(some 76),none,.extract (.t 72) 1⟩,
 ⟨(some 18),none,.mv true (.t 75)⟩,
 ⟨(some 19),none,.mv true (.t 76)⟩]) <|
 .seq (.ops [⟨(some 78),none,.call 77 []⟩,
 ⟨(some 79),none,.call 56 [(.t 78)]⟩,
 ⟨(some 77),none,.mv false (.t 79)⟩,
 ⟨(some 80),none,.extract (.t 77) 0⟩,
 ⟨(some 81),none,.extract (.t 77) 1⟩,
 ⟨(some 20),none,.mv true (.t 80)⟩,
 ⟨(some 21),none,.mv true (.t 81)⟩]) <|
 .seq (.ops [⟨(some 83),none,.call 78 []⟩,
 ⟨(some 84),none,.call 61 [(.t 83)]⟩,
 ⟨(some 82),none,.mv false (.t 84)⟩,
 ⟨(some 85),none,.extract (.t 82) 0⟩,
 ⟨(some 86),none,.extract (.t 82) 1⟩,
 ⟨(some 87),none,.extract (.t 82) 2⟩,
 ⟨(some 22),none,.mv true (.t 85)⟩,
 ⟨(some 23),none,.mv true (.t 86)⟩,
 ⟨(some 24),none,.mv true (.t 87)⟩]) <|
 .seq (.ops [⟨(some 89),none,.call 68 [(.c (.str [102,114,111,110,116,32,49,32,49,10,115,112,97,99,101,115,32,48,32,48,32,48,32,48,32,49,10,115,105,103,110,32,49,10,119,111,114,100,32,110,111,32,48,32,45,10,101,110,100,32,48,57,56,10]))]⟩,
 ⟨(some 88),none,.mv false (.t 89)⟩,
 ⟨(some 90),none,.extract (.t 88) 0⟩,
 ⟨(some 91),none,.extract (.t 88) 1⟩,
 ⟨(some 25),none,.alloc 28 [(.slice .nil []),(.slice .nil []),(.int .i64 0),(.int .i64 0),(.int .i64 0),(.int .i64 0),(.int .i64 0),(.slice .nil []),(.int .i64 0),(.int .i64 0)]⟩,
 ⟨none,none,.store .any 10 (.t 25) (.t 90)⟩,
 ⟨(some 26),none,.mv true (.t 91)⟩]) <|
 .seq (.seq (.ops [⟨(some 92),none,.mv false (.t 2)⟩,
 ⟨(some 93),none,.bin .neq (.t 92) (.c (.int .i64 0))⟩,
 ⟨(some 94),none,.mv false (.t 93)⟩,
 ⟨(some 95),(some (94,false)),.mv false (.t 4)⟩,
 ⟨(some 96),(some (94,false)),.bin .neq (.t 95) (.c (.int .i64 0))⟩,
 ⟨(some 97),none,.pick (.t 94) (.c (.bool true)) (.t 96)⟩,
 ⟨(some 98),none,.mv false (.t 97)⟩,
 ⟨(some 99),(some (98,false)),.mv false (.t 6)⟩,
 ⟨(some 100),(some (98,false)),.bin .neq (.t 99) (.c (.int .i64 0))⟩,
 ⟨(some 101),none,.pick (.t 98) (.c (.bool true)) (.t 100)⟩,
 ⟨(some 102),none,.mv false (.t 101)⟩,
 ⟨(some 103),(some (102,false)),.mv false (.t 8)⟩,
 ⟨(some 104),(some (102,false)),.bin .neq (.t 103) (.c (.int .i64 0))⟩,
 ⟨(some 105),none,.pick (.t 102) (.c (.bool true)) (.t 104)⟩,
 ⟨(some 106),none,.mv false (.t 105)⟩,
 ⟨(some 107),(some (106,false)),.mv false (.t 10)⟩,
 ⟨(some 108),(some (106,false)),.bin .neq (.t 107) (.c (.int .i64 0))⟩,
 ⟨(some 109),none,.pick (.t 106) (.c (.bool true)) (.t 108)⟩,
 ⟨(some 110),none,.mv false (.t 109)⟩,
 ⟨(some 111),(some (110,false)),.mv false (.t 13)⟩,
 ⟨(some 112),(some (110,false)),.bin .neq (.t 111) (.c (.int .i64 0))⟩,
 ⟨(some 113),none,.pick (.t 110) (.c (.bool true)) (.t 112)⟩,
 ⟨(some 114),none,.mv false (.t 113)⟩,
 ⟨(some 115),(some (114,false)),.mv false (.t 15)⟩,
 ⟨(some 116),(some (114,false)),.bin .neq (.t 115) (.c (.int .i64 0))⟩,
 ⟨(some 117),none,.pick (.t 114) (.c (.bool true)) (.t 116)⟩,
 ⟨(some 118),none,.mv false (.t 117)⟩,
 ⟨(some 119),(some (118,false)),.mv false (.t 17)⟩,
 ⟨(some 120),(some (118,false)),.bin .neq (.t 119) (.c (.int .i64 0))⟩,
 ⟨(some 121),none,.pick (.t 118) (.c (.bool true)) (.t 120)⟩,
 ⟨(some 122),none,.mv false (.t 121)⟩,
 ⟨(some 123),(some (122,false)),.mv false (.t 19)⟩,
 ⟨(some 124),(some (122,false)),.bin .neq (.t 123) (.c (.int .i64 0))⟩,
 ⟨(some 125),none,.pick (.t 122) (.c (.bool true)) (.t 124)⟩,
 ⟨(some 126),none,.mv false (.t 125)⟩,
 ⟨(some 127),(some (126,false)),.mv false (.t 21)⟩,
 ⟨(some 128),(some (126,false)),.bin .neq (.t 127) (.c (.int .i64 0))⟩,
 ⟨(some 129),none,.pick (.t 126) (.c (.bool true)) (.t 128)⟩,
 ⟨(some 130),none,.mv false (.t 129)⟩,
 ⟨(some 131),(some (130,false)),.mv false (.t 24)⟩,
 ⟨(some 132),(some (130,false)),.bin .neq (.t 131) (.c (.int .i64 0))⟩,
 ⟨(some 133),none,.pick (.t 130) (.c (.bool true)) (.t 132)⟩,
 ⟨(some 134),none,.mv false (.t 133)⟩,
 ⟨(some 135),(some (134,false)),.mv false (.t 26)⟩,
 ⟨(some 136),(some (134,false)),.bin .neq (.t 135) (.c (.int .i64 0))⟩,
 ⟨(some 137),none,.pick (.t 134) (.c (.bool true)) (.t 136)⟩]) <|
 .cond (.t 137)
 (.seq (.ops [⟨(some 0),none,.mv true (.c (.bool false))⟩]) <|
 .ret)
 (.skip)) <|
 .seq (.seq (.dops [⟨(some 138),none,.mv false (.t 1)⟩,
 ⟨(some 139),none,.buildSlice 22 3 1 [(.c (.int .i64 35)),(.c (.int .i64 8))]⟩,
 ⟨(some 140),none,.call 52 [(.t 138),(.t 139)]⟩,
 ⟨(some 141),none,.not (.t 140)⟩,
 ⟨(some 142),none,.mv false (.t 141)⟩,
 ⟨(some 143),(some (142,false)),.mv false (.t 3)⟩,
 ⟨(some 144),(some (142,false)),.not (.t 143)⟩,
 ⟨(some 145),none,.pick (.t 142) (.c (.bool true)) (.t 144)⟩,
 ⟨(some 146),none,.mv false (.t 145)⟩,
 ⟨(some 147),(some (146,false)),.mv false (.t 5)⟩,
 ⟨(some 148),(some (146,false)),.bin .neq (.t 147) (.c (.int .i64 9))⟩,
 ⟨(some 149),none,.pick (.t 146) (.c (.bool true)) (.t 148)⟩,
 ⟨(some 150),none,.mv false (.t 149)⟩,
 ⟨(some 151),(some (150,false)),.mv false (.t 7)⟩,
 ⟨(some 152),(some (150,false)),.buildSlice 22 3 1 [(.c (.int .i64 0)),(.c (.int .i64 9)),(.c (.int .i64 17))]⟩,
 ⟨(some 153),(some (150,false)),.buildSlice 22 3 1 [(.c (.int .i64 0)),(.c (.int .i64 9))]⟩,
 ⟨(some 154),(some (150,false)),.buildSlice 35 22 1 [(.t 152),(.t 153)]⟩,
 ⟨(some 155),(some (150,false)),.call 37 [(.t 151),(.t 154)]⟩,
 ⟨(some 156),(some (150,false)),.not (.t 155)⟩,
 ⟨(some 157),none,.pick (.t 150) (.c (.bool true)) (.t 156)⟩,
 ⟨(some 158),none,.mv false (.t 157)⟩,
 ⟨(some 159),(some (158,false)),.mv false (.t 9)⟩,
 ⟨(some 160),(some (158,false)),.bin .neq (.t 159) (.c (.int .i64 2))⟩,
 ⟨(some 161),none,.pick (.t 158) (.c (.bool true)) (.t 160)⟩,
 ⟨(some 162),none,.mv false (.t 161)⟩,
 ⟨(some 163),(some (162,false)),.load (.box 11) true 2 (.t 11)⟩,
 ⟨(some 164),(some (162,false)),.call 75 []⟩,
 ⟨(some 165),(some (162,false)),.call 41 [(.t 163),(.t 164)]⟩,
 ⟨(some 166),(some (162,false)),.not (.t 165)⟩,
 ⟨(some 167),none,.pick (.t 162) (.c (.bool true)) (.t 166)⟩,
 ⟨(some 168),none,.mv false (.t 167)⟩,
 ⟨(some 169),(some (168,false)),.mv false (.t 12)⟩,
 ⟨(some 170),(some (168,false)),.bin .neq (.t 169) (.c (.int .i64 9))⟩,
 ⟨(some 171),none,.pick (.t 168) (.c (.bool true)) (.t 170)⟩]) <|
 .cond (.t 171)
 (.seq (.ops [⟨(some 0),none,.mv true (.c (.bool false))⟩]) <|
 .ret)
 (.skip)) <|
 .seq (.ops [⟨(some 172),none,.mv false (.t 14)⟩,
 ⟨(some 173),none,.bin .eql (.t 172) (.c (.int .i64 1))⟩,
 ⟨(some 174),none,.mv false (.t 173)⟩,
 ⟨(some 175),(some (174,true)),.mv false (.t 16)⟩,
 ⟨(some 176),(some (174,true)),.bin .eql (.t 175) (.c (.int .i64 40))⟩,
 ⟨(some 177),none,.pick (.t 174) (.t 176) (.c (.bool false))⟩,
 ⟨(some 178),none,.mv false (.t 177)⟩,
 ⟨(some 179),(some (178,true)),.mv false (.t 18)⟩,
 ⟨(some 180),(some (178,true)),.buildSlice 22 3 1 [(.c (.int .i64 1))]⟩,
 ⟨(some 181),(some (178,true)),.call 52 [(.t 179),(.t 180)]⟩,
 ⟨(some 182),none,.pick (.t 178) (.t 181) (.c (.bool false))⟩,
 ⟨(some 183),none,.mv false (.t 182)⟩,
 ⟨(some 184),(some (183,true)),.mv false (.t 20)⟩,
 ⟨(some 185),(some (183,true)),.bin .eql (.t 184) (.c (.int .i64 3))⟩,
 ⟨(some 186),none,.pick (.t 183) (.t 185) (.c (.bool false))⟩,
 ⟨(some 187),none,.mv false (.t 186)⟩,
 ⟨(some 188),(some (187,true)),.mv false (.t 22)⟩,
 ⟨(some 189),(some (187,true)),.bin .eql (.t 188) (.c (.int .i64 0))⟩,
 ⟨(some 190),none,.pick (.t 187) (.t 189) (.c (.bool false))⟩,
 ⟨(some 191),none,.mv false (.t 190)⟩,
 ⟨(some 192),(some (191,true)),.mv false (.t 23)⟩,
 ⟨(some 193),(some (191,true)),.bin .eql (.t 192) (.c (.int .i64 1))⟩,
 ⟨(some 194),none,.pick (.t 191) (.t 193) (.c (.bool false))⟩,
 ⟨(some 195),none,.mv false (.t 194)⟩,
 ⟨(some 196),(some (195,true)),.load .any true 10 (.t 25)⟩,
 ⟨(some 197),(some (195,true)),.call 69 [(.t 196)]⟩,
 ⟨(some 198),(some (195,true)),.bin .eql (.t 197) (.c (.str [102,114,111,110,116,32,49,32,49,10,115,112,97,99,101,115,32,48,32,48,32,48,32,48,32,49,10,115,105,103,110,32,49,10,119,111,114,100,32,110,111,32,48,32,45,10,101,110,100,32,48,57,56,10]))⟩,
 ⟨(some 199),none,.pick (.t 195) (.t 198) (.c (.bool false))⟩,
 ⟨(some 0),none,.mv true (.t 199)⟩]) <|
 .ret
noncomputable def c25:ACode := .seq (.ops [⟨(some 3),none,.box 28 10 (.t 0)⟩,
 ⟨(some 4),none,.box 31 2 (.t 1)⟩,
 ⟨(some 6),none,.mv true (.c (.slice .nil []))⟩,
 ⟨(some 7),none,.mv true (.c (.int .i64 0))⟩]) <|
 .seq (.seq (.ops [⟨(some 17),none,.load .any true 10 (.t 3)⟩,
 ⟨(some 18),none,.load .any true 2 (.t 4)⟩,
 ⟨(some 19),none,.mv false (.t 2)⟩,
 ⟨(some 20),none,.call 79 [(.t 17),(.t 18),(.t 19)]⟩,
 ⟨(some 21),none,.not (.t 20)⟩]) <|
 .cond (.t 21)
 (.seq (.ops [⟨(some 6),none,.mv true (.c (.slice .nil []))⟩,
 ⟨(some 7),none,.mv true (.c (.int .i64 2))⟩]) <|
 .ret)
 (.skip)) <|
 .seq (.ops [⟨(some 22),none,.load .any true 10 (.t 3)⟩,
 ⟨(some 23),none,.call 80 [(.t 22)]⟩,
 ⟨(some 8),none,.alloc 103 [(.slice .nil []),(.slice .nil []),(.int .i64 0),(.int .i64 0),(.int .i64 0),(.int .i64 0),(.int .i64 0),(.slice .nil []),(.int .i64 0),(.int .i64 0),(.map [] [])]⟩,
 ⟨none,none,.store .any 11 (.t 8) (.t 23)⟩]) <|
 .seq (.ops [⟨(some 9),none,.mv true (.c (.slice .nil []))⟩]) <|
 .seq (.seq (.ops [⟨(some 24),none,.load .any true 11 (.t 8)⟩,
 ⟨(some 25),none,.load .any true 2 (.t 4)⟩,
 ⟨(some 26),none,.call 81 [(.t 24),(.t 25)]⟩,
 ⟨(some 27),none,.lenL (.t 26)⟩,
 ⟨(some 28),none,.mv false (.c (.int .i64 0))⟩]) <|
 .block 0 <| .loop <|
 .seq (.ops [⟨(some 29),none,.bin .lss (.t 28) (.t 27)⟩]) <|
 .seq (.cond (.t 29)
 (.skip)
 (.exit 0)) <|
 .seq (.block 1 <| .seq (.ops [⟨(some 30),none,.indexAddr 2 (.t 26) (.t 28)⟩,
 ⟨(some 31),none,.load .any true 2 (.t 30)⟩,
 ⟨(some 11),none,.alloc 109 [(.slice .nil []),(.bool false)]⟩,
 ⟨none,none,.store .any 2 (.t 11) (.t 31)⟩]) <|
 .seq (.ops [⟨(some 12),none,.mv true (.c (.slice .nil []))⟩]) <|
 .seq (.seq (.ops [⟨(some 32),none,.fieldAddr 0 (.t 11)⟩,
 ⟨(some 33),none,.load .any false 1 (.t 32)⟩,
 ⟨(some 34),none,.lenL (.t 33)⟩,
 ⟨(some 35),none,.mv false (.c (.int .i64 0))⟩]) <|
 .block 2 <| .loop <|
 .seq (.ops [⟨(some 36),none,.bin .lss (.t 35) (.t 34)⟩]) <|
 .seq (.cond (.t 36)
 (.skip)
 (.exit 2)) <|
 .seq (.block 3 <| .seq (.ops [⟨(some 37),none,.mv false (.t 35)⟩,
 ⟨(some 38),none,.indexAddr 2 (.t 33) (.t 35)⟩,
 ⟨(some 39),none,.load .any true 2 (.t 38)⟩,
 ⟨(some 14),none,.alloc 111 [(.int .i64 0),(.int .i64 0)]⟩,
 ⟨(some 13),none,.mv true (.t 37)⟩,
 ⟨none,none,.store .any 2 (.t 14) (.t 39)⟩]) <|
 .seq (.ops [⟨(some 15),none,.mv true (.c (.int .i64 0))⟩]) <|
 .seq (.seq (.ops [⟨(some 40),none,.mv false (.t 13)⟩,
 ⟨(some 41),none,.bin .gtr (.t 40) (.c (.int .i64 0))⟩]) <|
 .cond (.t 41)
 (.seq (.ops [⟨(some 42),none,.fieldAddr 0 (.t 11)⟩,
 ⟨(some 43),none,.load .any false 1 (.t 42)⟩,
 ⟨(some 44),none,.mv false (.t 13)⟩,
 ⟨(some 45),none,.bin .sub (.t 44) (.c (.int .i64 1))⟩,
 ⟨(some 46),none,.indexAddr 2 (.t 43) (.t 45)⟩,
 ⟨(some 47),none,.load .any true 2 (.t 46)⟩,
 ⟨(some 16),none,.alloc 111 [(.int .i64 0),(.int .i64 0)]⟩,
 ⟨none,none,.store .any 2 (.t 16) (.t 47)⟩]) <|
 .dops [⟨(some 48),none,.mv false (.t 12)⟩,
 ⟨(some 49),none,.mv false (.t 13)⟩,
 ⟨(some 50),none,.bin .sub (.t 49) (.c (.int .i64 1))⟩,
 ⟨(some 51),none,.indexAddr 1 (.t 48) (.t 50)⟩,
 ⟨(some 52),none,.load .ref false 1 (.t 51)⟩,
 ⟨(some 53),none,.fieldAddr 0 (.t 8)⟩,
 ⟨(some 54),none,.fieldAddr 0 (.t 53)⟩,
 ⟨(some 55),none,.load (.box 8) false 1 (.t 54)⟩,
 ⟨(some 56),none,.load (.box 8) true 11 (.t 8)⟩,
 ⟨(some 57),none,.load (.box 16) true 2 (.t 16)⟩,
 ⟨(some 58),none,.call 82 [(.t 56),(.t 57)]⟩,
 ⟨(some 59),none,.indexAddr 1 (.t 55) (.t 58)⟩,
 ⟨(some 60),none,.load .ref false 1 (.t 59)⟩,
 ⟨(some 61),none,.bin .add (.t 52) (.t 60)⟩,
 ⟨(some 62),none,.load (.box 8) true 11 (.t 8)⟩,
 ⟨(some 63),none,.load (.box 16) true 2 (.t 16)⟩,
 ⟨(some 64),none,.load (.box 14) true 2 (.t 14)⟩,
 ⟨(some 65),none,.mv false (.t 2)⟩,
 ⟨(some 66),none,.call 83 [(.t 62),(.t 63),(.t 64),(.t 65)]⟩,
 ⟨(some 67),none,.bin .add (.t 61) (.t 66)⟩,
 ⟨(some 15),none,.mv true (.t 67)⟩])
 (.skip)) <|
 .ops [⟨(some 68),none,.mv true (.t 12)⟩,
 ⟨(some 69),none,.mv false (.t 15)⟩,
 ⟨(some 70),none,.buildSlice 22 3 1 [(.t 69)]⟩,
 ⟨(some 71),none,.append 22 3 1 8 (.t 68) (.t 70)⟩,
 ⟨(some 12),none,.mv true (.t 71)⟩]) <|
 .ops [⟨(some 72),none,.bin .add (.t 35) (.c (.int .i64 1))⟩,
 ⟨(some 35),none,.mv false (.t 72)⟩]) <|
 .ops [⟨(some 73),none,.mv true (.t 9)⟩,
 ⟨(some 74),none,.mv false (.t 12)⟩,
 ⟨(some 75),none,.buildSlice 35 22 1 [(.t 74)]⟩,
 ⟨(some 76),none,.append 35 22 1 24 (.t 73) (.t 75)⟩,
 ⟨(some 9),none,.mv true (.t 76)⟩]) <|
 .ops [⟨(some 77),none,.bin .add (.t 28) (.c (.int .i64 1))⟩,
 ⟨(some 28),none,.mv false (.t 77)⟩]) <|
 .seq (.ops [⟨(some 78),none,.mv false (.t 9)⟩,
 ⟨(some 6),none,.mv true (.t 78)⟩,
 ⟨(some 7),none,.mv true (.c (.int .i64 0))⟩]) <|
 .ret
noncomputable def c26:ACode:=(by refine ⟨?_,?_⟩;rotate_left;conv=>lhs;cbv:Ev 36 f26).1
noncomputable def c29:ACode := .seq (.ops [⟨(some 1),none,.box 28 10 (.t 0)⟩,
 ⟨(some 2),none,.mv true (.c (.bool false))⟩]) <|
 .seq (.seq (.ops [⟨(some 3),none,.mv true (.c (.int .i64 0))⟩]) <|
 .block 0 <| .loop <|
 .seq (.seq (.ops [⟨(some 4),none,.mv false (.t 3)⟩,
 ⟨(some 5),none,.fieldAddr 7 (.t 1)⟩,
 ⟨(some 6),none,.load .any false 1 (.t 5)⟩,
 ⟨(some 7),none,.lenL (.t 6)⟩,
 ⟨(some 8),none,.bin .lss (.t 4) (.t 7)⟩,
 ⟨(some 9),none,.mv false (.t 8)⟩,
 ⟨(some 10),(some (9,true)),.mv false (.t 3)⟩,
 ⟨(some 11),(some (9,true)),.bin .lss (.t 10) (.c (.int .i64 6))⟩,
 ⟨(some 12),none,.pick (.t 9) (.t 11) (.c (.bool false))⟩]) <|
 .cond (.t 12)
 (.skip)
 (.exit 0)) <|
 .seq (.block 1 <| .seq (.ops [⟨(some 15),none,.fieldAddr 7 (.t 1)⟩,
 ⟨(some 16),none,.load .any false 1 (.t 15)⟩,
 ⟨(some 17),none,.mv false (.t 3)⟩,
 ⟨(some 18),none,.indexAddr 3 (.t 16) (.t 17)⟩,
 ⟨(some 19),none,.fieldAddr 0 (.t 18)⟩,
 ⟨(some 20),none,.load .any false 1 (.t 19)⟩,
 ⟨(some 21),none,.lenL (.t 20)⟩,
 ⟨(some 22),none,.bin .gtr (.t 21) (.c (.int .i64 8))⟩,
 ⟨(some 23),none,.mv false (.t 22)⟩,
 ⟨(some 24),(some (23,false)),.fieldAddr 7 (.t 1)⟩,
 ⟨(some 25),(some (23,false)),.load .any false 1 (.t 24)⟩,
 ⟨(some 26),(some (23,false)),.mv false (.t 3)⟩,
 ⟨(some 27),(some (23,false)),.indexAddr 3 (.t 25) (.t 26)⟩,
 ⟨(some 28),(some (23,false)),.fieldAddr 1 (.t 27)⟩,
 ⟨(some 29),(some (23,false)),.load .any false 1 (.t 28)⟩,
 ⟨(some 30),(some (23,false)),.lenL (.t 29)⟩,
 ⟨(some 31),(some (23,false)),.bin .gtr (.t 30) (.c (.int .i64 8))⟩,
 ⟨(some 32),none,.pick (.t 23) (.c (.bool true)) (.t 31)⟩]) <|
 .cond (.t 32)
 (.seq (.ops [⟨(some 2),none,.mv true (.c (.bool false))⟩]) <|
 .ret)
 (.skip)) <|
 .ops [⟨(some 13),none,.mv false (.t 3)⟩,
 ⟨(some 14),none,.bin .add (.t 13) (.c (.int .i64 1))⟩,
 ⟨(some 3),none,.mv true (.t 14)⟩]) <|
 .seq (.ops [⟨(some 33),none,.fieldAddr 0 (.t 1)⟩,
 ⟨(some 34),none,.load .any false 1 (.t 33)⟩,
 ⟨(some 35),none,.lenL (.t 34)⟩,
 ⟨(some 36),none,.bin .leq (.t 35) (.c (.int .i64 8))⟩,
 ⟨(some 37),none,.mv false (.t 36)⟩,
 ⟨(some 38),(some (37,true)),.fieldAddr 1 (.t 1)⟩,
 ⟨(some 39),(some (37,true)),.load .any false 1 (.t 38)⟩,
 ⟨(some 40),(some (37,true)),.lenL (.t 39)⟩,
 ⟨(some 41),(some (37,true)),.bin .leq (.t 40) (.c (.int .i64 8))⟩,
 ⟨(some 42),none,.pick (.t 37) (.t 41) (.c (.bool false))⟩,
 ⟨(some 43),none,.mv false (.t 42)⟩,
 ⟨(some 44),(some (43,true)),.fieldAddr 7 (.t 1)⟩,
 ⟨(some 45),(some (43,true)),.load .any false 1 (.t 44)⟩,
 ⟨(some 46),(some (43,true)),.lenL (.t 45)⟩,
 ⟨(some 47),(some (43,true)),.bin .leq (.t 46) (.c (.int .i64 6))⟩,
 ⟨(some 48),none,.pick (.t 43) (.t 47) (.c (.bool false))⟩,
 ⟨(some 2),none,.mv true (.t 48)⟩]) <|
 .ret
noncomputable def c31:ACode:=(by refine ⟨?_,?_⟩;rotate_left;conv=>lhs;cbv:Ev 18 f31).1
noncomputable def c32:ACode:=(by refine ⟨?_,?_⟩;rotate_left;conv=>lhs;cbv:Ev 18 f32).1
noncomputable def c33:ACode := .seq (.ops [⟨(some 1),none,.box 28 10 (.t 0)⟩,
 ⟨(some 2),none,.mv true (.c (.bool false))⟩]) <|
 .seq (.seq (.ops [⟨(some 3),none,.mv true (.c (.int .i64 0))⟩]) <|
 .block 0 <| .loop <|
 .seq (.seq (.ops [⟨(some 5),none,.mv false (.t 3)⟩,
 ⟨(some 6),none,.fieldAddr 0 (.t 1)⟩,
 ⟨(some 7),none,.load .any false 1 (.t 6)⟩,
 ⟨(some 8),none,.lenL (.t 7)⟩,
 ⟨(some 9),none,.bin .lss (.t 5) (.t 8)⟩]) <|
 .cond (.t 9)
 (.skip)
 (.exit 0)) <|
 .seq (.block 1 <| .seq (.ops [⟨(some 12),none,.fieldAddr 0 (.t 1)⟩,
 ⟨(some 13),none,.load .any false 1 (.t 12)⟩,
 ⟨(some 14),none,.mv false (.t 3)⟩,
 ⟨(some 15),none,.indexAddr 1 (.t 13) (.t 14)⟩,
 ⟨(some 16),none,.load .any false 1 (.t 15)⟩,
 ⟨(some 17),none,.call 72 [(.t 16),(.c (.int .i64 1)),(.c (.int .i64 20))]⟩,
 ⟨(some 18),none,.not (.t 17)⟩]) <|
 .cond (.t 18)
 (.seq (.ops [⟨(some 2),none,.mv true (.c (.bool false))⟩]) <|
 .ret)
 (.skip)) <|
 .ops [⟨(some 10),none,.mv false (.t 3)⟩,
 ⟨(some 11),none,.bin .add (.t 10) (.c (.int .i64 1))⟩,
 ⟨(some 3),none,.mv true (.t 11)⟩]) <|
 .seq (.seq (.ops [⟨(some 4),none,.mv true (.c (.int .i64 0))⟩]) <|
 .block 2 <| .loop <|
 .seq (.seq (.ops [⟨(some 19),none,.mv false (.t 4)⟩,
 ⟨(some 20),none,.fieldAddr 7 (.t 1)⟩,
 ⟨(some 21),none,.load .any false 1 (.t 20)⟩,
 ⟨(some 22),none,.lenL (.t 21)⟩,
 ⟨(some 23),none,.bin .lss (.t 19) (.t 22)⟩]) <|
 .cond (.t 23)
 (.skip)
 (.exit 2)) <|
 .seq (.block 3 <| .seq (.dops [⟨(some 26),none,.load (.box 1) true 10 (.t 1)⟩,
 ⟨(some 27),none,.fieldAddr 7 (.t 1)⟩,
 ⟨(some 28),none,.load (.box 1) false 1 (.t 27)⟩,
 ⟨(some 29),none,.mv false (.t 4)⟩,
 ⟨(some 30),none,.indexAddr 3 (.t 28) (.t 29)⟩,
 ⟨(some 31),none,.load .ref true 3 (.t 30)⟩,
 ⟨(some 32),none,.call 88 [(.t 26),(.t 31)]⟩,
 ⟨(some 33),none,.not (.t 32)⟩]) <|
 .cond (.t 33)
 (.seq (.ops [⟨(some 2),none,.mv true (.c (.bool false))⟩]) <|
 .ret)
 (.skip)) <|
 .ops [⟨(some 24),none,.mv false (.t 4)⟩,
 ⟨(some 25),none,.bin .add (.t 24) (.c (.int .i64 1))⟩,
 ⟨(some 4),none,.mv true (.t 25)⟩]) <|
 .seq (.ops [⟨(some 34),none,.fieldAddr 0 (.t 1)⟩,
 ⟨(some 35),none,.load .any false 1 (.t 34)⟩,
 ⟨(some 36),none,.lenL (.t 35)⟩,
 ⟨(some 37),none,.call 72 [(.t 36),(.c (.int .i64 1)),(.c (.int .i64 6))]⟩,
 ⟨(some 38),none,.mv false (.t 37)⟩,
 ⟨(some 39),(some (38,true)),.load .any true 10 (.t 1)⟩,
 ⟨(some 40),(some (38,true)),.call 89 [(.t 39)]⟩,
 ⟨(some 41),none,.pick (.t 38) (.t 40) (.c (.bool false))⟩,
 ⟨(some 42),none,.mv false (.t 41)⟩,
 ⟨(some 43),(some (42,true)),.fieldAddr 2 (.t 1)⟩,
 ⟨(some 44),(some (42,true)),.load .any true 2 (.t 43)⟩,
 ⟨(some 45),(some (42,true)),.call 90 [(.t 44),(.c (.int .i64 9))]⟩,
 ⟨(some 46),none,.pick (.t 42) (.t 45) (.c (.bool false))⟩,
 ⟨(some 47),none,.mv false (.t 46)⟩,
 ⟨(some 48),(some (47,true)),.fieldAddr 4 (.t 1)⟩,
 ⟨(some 49),(some (47,true)),.load .any true 2 (.t 48)⟩,
 ⟨(some 50),(some (47,true)),.call 90 [(.t 49),(.c (.int .i64 20))]⟩,
 ⟨(some 51),none,.pick (.t 47) (.t 50) (.c (.bool false))⟩,
 ⟨(some 52),none,.mv false (.t 51)⟩,
 ⟨(some 53),(some (52,true)),.fieldAddr 6 (.t 1)⟩,
 ⟨(some 54),(some (52,true)),.load .any false 1 (.t 53)⟩,
 ⟨(some 55),(some (52,true)),.call 72 [(.t 54),(.c (.int .i64 1)),(.c (.int .i64 20))]⟩,
 ⟨(some 56),none,.pick (.t 52) (.t 55) (.c (.bool false))⟩,
 ⟨(some 57),none,.mv false (.t 56)⟩,
 ⟨(some 58),(some (57,true)),.fieldAddr 7 (.t 1)⟩,
 ⟨(some 59),(some (57,true)),.load .any false 1 (.t 58)⟩,
 ⟨(some 60),(some (57,true)),.lenL (.t 59)⟩,
 ⟨(some 61),(some (57,true)),.call 72 [(.t 60),(.c (.int .i64 1)),(.c (.int .i64 4))]⟩,
 ⟨(some 62),none,.pick (.t 57) (.t 61) (.c (.bool false))⟩,
 ⟨(some 63),none,.mv false (.t 62)⟩,
 ⟨(some 64),(some (63,true)),.fieldAddr 8 (.t 1)⟩,
 ⟨(some 65),(some (63,true)),.load .any false 1 (.t 64)⟩,
 ⟨(some 66),(some (63,true)),.call 60 [(.t 65)]⟩,
 ⟨(some 67),none,.pick (.t 63) (.t 66) (.c (.bool false))⟩,
 ⟨(some 68),none,.mv false (.t 67)⟩,
 ⟨(some 69),(some (68,true)),.fieldAddr 9 (.t 1)⟩,
 ⟨(some 70),(some (68,true)),.load .any false 1 (.t 69)⟩,
 ⟨(some 71),(some (68,true)),.call 72 [(.t 70),(.c (.int .i64 1)),(.c (.int .i64 3))]⟩,
 ⟨(some 72),none,.pick (.t 68) (.t 71) (.c (.bool false))⟩,
 ⟨(some 2),none,.mv true (.t 72)⟩]) <|
 .ret
noncomputable def c37:ACode:=(by refine ⟨?_,?_⟩;rotate_left;conv=>lhs;cbv:Ev 27 f37).1
noncomputable def c39:ACode:=(by refine ⟨?_,?_⟩;rotate_left;conv=>lhs;cbv:Ev 17 f39).1
noncomputable def c40:ACode := .seq (.ops [⟨(some 1),none,.box 28 10 (.t 0)⟩,
 ⟨(some 2),none,.alloc 31 [(.slice .nil []),(.slice .nil [])]⟩,
 ⟨(some 3),none,.mv true (.c (.int .i64 0))⟩,
 ⟨(some 4),none,.mv true (.c (.int .i64 0))⟩]) <|
 .seq (.seq (.ops [⟨(some 8),none,.load .any true 10 (.t 1)⟩,
 ⟨(some 9),none,.call 96 [(.t 8)]⟩,
 ⟨(some 10),none,.not (.t 9)⟩]) <|
 .cond (.t 10)
 (.seq (.ops [⟨(some 11),none,.build [(.slice .nil []),(.slice .nil [])] []⟩,
 ⟨none,none,.store .any 2 (.t 2) (.t 11)⟩,
 ⟨(some 3),none,.mv true (.c (.int .i64 0))⟩,
 ⟨(some 4),none,.mv true (.c (.int .i64 2))⟩]) <|
 .ret)
 (.skip)) <|
 .seq (.ops [⟨(some 12),none,.load .any true 10 (.t 1)⟩,
 ⟨(some 13),none,.call 80 [(.t 12)]⟩,
 ⟨(some 5),none,.alloc 103 [(.slice .nil []),(.slice .nil []),(.int .i64 0),(.int .i64 0),(.int .i64 0),(.int .i64 0),(.int .i64 0),(.slice .nil []),(.int .i64 0),(.int .i64 0),(.map [] [])]⟩,
 ⟨none,none,.store .any 11 (.t 5) (.t 13)⟩]) <|
 .seq (.ops [⟨(some 14),none,.load .any true 11 (.t 5)⟩,
 ⟨(some 15),none,.call 97 [(.t 14),(.c (.slice .nil []))]⟩,
 ⟨(some 6),none,.mv true (.t 15)⟩]) <|
 .seq (.seq (.ops [⟨(some 16),none,.mv false (.t 6)⟩,
 ⟨(some 17),none,.lenL (.t 16)⟩,
 ⟨(some 18),none,.bin .eql (.t 17) (.c (.int .i64 0))⟩]) <|
 .cond (.t 18)
 (.seq (.ops [⟨(some 19),none,.build [(.slice .nil []),(.slice .nil [])] []⟩,
 ⟨none,none,.store .any 2 (.t 2) (.t 19)⟩,
 ⟨(some 3),none,.mv true (.c (.int .i64 0))⟩,
 ⟨(some 4),none,.mv true (.c (.int .i64 5))⟩]) <|
 .ret)
 (.skip)) <|
 .seq (.ops [⟨(some 20),none,.mv false (.t 6)⟩,
 ⟨(some 21),none,.mkf (.func 99) [] [(.t 5)]⟩,
 ⟨(some 22),none,.call 98 [(.t 20),(.t 21)]⟩,
 ⟨(some 7),none,.alloc 31 [(.slice .nil []),(.slice .nil [])]⟩,
 ⟨none,none,.store .any 2 (.t 7) (.t 22)⟩]) <|
 .seq (.dops [⟨(some 23),none,.load (.box 7) true 2 (.t 7)⟩,
 ⟨(some 24),none,.load (.box 5) true 11 (.t 5)⟩,
 ⟨(some 25),none,.load (.box 7) true 2 (.t 7)⟩,
 ⟨(some 26),none,.call 87 [(.t 24),(.t 25)]⟩,
 ⟨none,none,.store (.box 2) 2 (.t 2) (.t 23)⟩,
 ⟨(some 3),none,.mv true (.t 26)⟩,
 ⟨(some 4),none,.mv true (.c (.int .i64 0))⟩]) <|
 .ret
noncomputable def c41:ACode:=(by refine ⟨?_,?_⟩;rotate_left;conv=>lhs;cbv:Ev 17 f41).1
noncomputable def c45:ACode:=(by refine ⟨?_,?_⟩;rotate_left;conv=>lhs;cbv:Ev 11 f45).1
noncomputable def c46:ACode := .seq (.ops [⟨(some 1),none,.box 28 10 (.t 0)⟩,
 ⟨(some 2),none,.mv true (.c (.int .i64 0))⟩,
 ⟨(some 3),none,.mv true (.c (.int .i64 0))⟩]) <|
 .seq (.seq (.ops [⟨(some 10),none,.load .any true 10 (.t 1)⟩,
 ⟨(some 11),none,.call 96 [(.t 10)]⟩,
 ⟨(some 12),none,.not (.t 11)⟩]) <|
 .cond (.t 12)
 (.seq (.ops [⟨(some 2),none,.mv true (.c (.int .i64 0))⟩,
 ⟨(some 3),none,.mv true (.c (.int .i64 2))⟩]) <|
 .ret)
 (.skip)) <|
 .seq (.ops [⟨(some 13),none,.load .any true 10 (.t 1)⟩,
 ⟨(some 14),none,.call 80 [(.t 13)]⟩,
 ⟨(some 4),none,.alloc 103 [(.slice .nil []),(.slice .nil []),(.int .i64 0),(.int .i64 0),(.int .i64 0),(.int .i64 0),(.int .i64 0),(.slice .nil []),(.int .i64 0),(.int .i64 0),(.map [] [])]⟩,
 ⟨none,none,.store .any 11 (.t 4) (.t 14)⟩]) <|
 .seq (.ops [⟨(some 5),none,.alloc 22 [(.slice .nil [])]⟩]) <|
 .seq (.seq (.ops [⟨(some 15),none,.load .any true 11 (.t 4)⟩,
 ⟨(some 16),none,.call 102 [(.t 15),(.c (.slice .nil []))]⟩]) <|
 .block 0 <| .bad) <|
 .seq (.ops [⟨(some 36),none,.load .any false 1 (.t 5)⟩,
 ⟨(some 37),none,.call 103 [(.t 36),(.f 104)]⟩,
 ⟨(some 2),none,.mv true (.t 37)⟩,
 ⟨(some 3),none,.mv true (.c (.int .i64 0))⟩]) <|
 .ret
end Go.Proofs.Tryz
namespace Go.Proofs.Tryz
open Go.AL
set_option maxRecDepth 100000
set_option maxHeartbeats 4000000
noncomputable def c50:ACode:=(by refine ⟨?_,?_⟩;rotate_left;conv=>lhs;cbv:Ev 60 f50).1
noncomputable def c52:ACode:=(by refine ⟨?_,?_⟩;rotate_left;conv=>lhs;cbv:Ev 26 f52).1
noncomputable def c56:ACode:=(by refine ⟨?_,?_⟩;rotate_left;conv=>lhs;cbv:Ev 38 f56).1
noncomputable def c60:ACode := .seq (.ops [⟨(some 2),none,.mv true (.c (.bool false))⟩]) <|
 .seq (.ops [⟨(some 3),none,.mv false (.t 0)⟩,
 ⟨(some 4),none,.call 72 [(.t 3),(.c (.int .i64 1)),(.c (.int .i64 400))]⟩,
 ⟨(some 2),none,.mv true (.t 4)⟩]) <|
 .ret
noncomputable def c61:ACode:=(by refine ⟨?_,?_⟩;rotate_left;conv=>lhs;cbv:Ev 50 f61).1
noncomputable def c64:ACode:=(by refine ⟨?_,?_⟩;rotate_left;conv=>lhs;cbv:Ev 54 f64).1
noncomputable def c68:ACode := .seq (.ops [⟨(some 1),none,.box 9 1 (.t 0)⟩,
 ⟨(some 2),none,.alloc 28 [(.slice .nil []),(.slice .nil []),(.int .i64 0),(.int .i64 0),(.int .i64 0),(.int .i64 0),(.int .i64 0),(.slice .nil []),(.int .i64 0),(.int .i64 0)]⟩,
 ⟨(some 3),none,.mv true (.c (.int .i64 0))⟩]) <|
 .seq (.seq (.ops [⟨(some 6),none,.load .any false 1 (.t 1)⟩,
 ⟨(some 7),none,.lenS (.t 6)⟩,
 ⟨(some 8),none,.bin .gtr (.t 7) (.c (.int .i64 320))⟩]) <|
 .cond (.t 8)
 (.seq (.ops [⟨(some 9),none,.build [(.slice .nil []),(.slice .nil []),(.int .i64 0),(.int .i64 0),(.int .i64 0),(.int .i64 0),(.int .i64 0),(.slice .nil []),(.int .i64 0),(.int .i64 0)] []⟩,
 ⟨none,none,.store .any 10 (.t 2) (.t 9)⟩,
 ⟨(some 3),none,.mv true (.c (.int .i64 3))⟩]) <|
 .ret)
 (.skip)) <|
 .seq (.ops [⟨(some 4),none,.alloc 28 [(.slice .nil []),(.slice .nil []),(.int .i64 0),(.int .i64 0),(.int .i64 0),(.int .i64 0),(.int .i64 0),(.slice .nil []),(.int .i64 0),(.int .i64 0)]⟩]) <|
 .seq (.seq (.ops [⟨(some 10),none,.mkf (.func 118) [] [(.t 1),(.t 4)]⟩,
 ⟨(some 11),none,.call 117 [(.t 10)]⟩,
 ⟨(some 5),none,.mv true (.t 11)⟩]) <|
 .seq (.ops [⟨(some 12),none,.mv false (.t 5)⟩,
 ⟨(some 13),none,.bin .neq (.t 12) (.c (.int .i64 0))⟩]) <|
 .cond (.t 13)
 (.seq (.ops [⟨(some 14),none,.build [(.slice .nil []),(.slice .nil []),(.int .i64 0),(.int .i64 0),(.int .i64 0),(.int .i64 0),(.int .i64 0),(.slice .nil []),(.int .i64 0),(.int .i64 0)] []⟩,
 ⟨(some 15),none,.mv false (.t 5)⟩,
 ⟨none,none,.store .any 10 (.t 2) (.t 14)⟩,
 ⟨(some 3),none,.mv true (.t 15)⟩]) <|
 .ret)
 (.skip)) <|
 .seq (.seq (.ops [⟨(some 16),none,.load .any true 10 (.t 4)⟩,
 ⟨(some 17),none,.call 96 [(.t 16)]⟩,
 ⟨(some 18),none,.not (.t 17)⟩]) <|
 .cond (.t 18)
 (.seq (.ops [⟨(some 19),none,.build [(.slice .nil []),(.slice .nil []),(.int .i64 0),(.int .i64 0),(.int .i64 0),(.int .i64 0),(.int .i64 0),(.slice .nil []),(.int .i64 0),(.int .i64 0)] []⟩,
 ⟨none,none,.store .any 10 (.t 2) (.t 19)⟩,
 ⟨(some 3),none,.mv true (.c (.int .i64 2))⟩]) <|
 .ret)
 (.skip)) <|
 .seq (.ops [⟨(some 20),none,.load .any true 10 (.t 4)⟩,
 ⟨none,none,.store .any 10 (.t 2) (.t 20)⟩,
 ⟨(some 3),none,.mv true (.c (.int .i64 0))⟩]) <|
 .ret
noncomputable def c69:ACode := .seq (.ops [⟨(some 1),none,.box 28 10 (.t 0)⟩,
 ⟨(some 2),none,.mv true (.c (.str []))⟩]) <|
 .seq (.dops [⟨(some 9),none,.fieldAddr 8 (.t 1)⟩,
 ⟨(some 10),none,.load (.box 1) false 1 (.t 9)⟩,
 ⟨(some 11),none,.fieldAddr 9 (.t 1)⟩,
 ⟨(some 12),none,.load (.box 1) false 1 (.t 11)⟩,
 ⟨(some 13),none,.buildSlice 22 3 1 [(.t 10),(.t 12)]⟩,
 ⟨(some 14),none,.call 120 [(.c (.str [102,114,111,110,116])),(.t 13)]⟩,
 ⟨(some 15),none,.fieldAddr 2 (.t 1)⟩,
 ⟨(some 16),none,.fieldAddr 0 (.t 15)⟩,
 ⟨(some 17),none,.load (.box 1) false 1 (.t 16)⟩,
 ⟨(some 18),none,.fieldAddr 2 (.t 1)⟩,
 ⟨(some 19),none,.fieldAddr 1 (.t 18)⟩,
 ⟨(some 20),none,.load (.box 1) false 1 (.t 19)⟩,
 ⟨(some 21),none,.fieldAddr 4 (.t 1)⟩,
 ⟨(some 22),none,.fieldAddr 0 (.t 21)⟩,
 ⟨(some 23),none,.load (.box 1) false 1 (.t 22)⟩,
 ⟨(some 24),none,.fieldAddr 4 (.t 1)⟩,
 ⟨(some 25),none,.fieldAddr 1 (.t 24)⟩,
 ⟨(some 26),none,.load (.box 1) false 1 (.t 25)⟩,
 ⟨(some 27),none,.fieldAddr 6 (.t 1)⟩,
 ⟨(some 28),none,.load (.box 1) false 1 (.t 27)⟩,
 ⟨(some 29),none,.buildSlice 22 3 1 [(.t 17),(.t 20),(.t 23),(.t 26),(.t 28)]⟩,
 ⟨(some 30),none,.call 120 [(.c (.str [115,112,97,99,101,115])),(.t 29)]⟩,
 ⟨(some 31),none,.buildSlice 147 9 1 [(.t 14),(.t 30)]⟩,
 ⟨(some 3),none,.mv true (.t 31)⟩]) <|
 .seq (.seq (.ops [⟨(some 4),none,.mv true (.c (.int .i64 0))⟩]) <|
 .block 0 <| .loop <|
 .seq (.seq (.ops [⟨(some 32),none,.mv false (.t 4)⟩,
 ⟨(some 33),none,.fieldAddr 0 (.t 1)⟩,
 ⟨(some 34),none,.load .any false 1 (.t 33)⟩,
 ⟨(some 35),none,.lenL (.t 34)⟩,
 ⟨(some 36),none,.bin .lss (.t 32) (.t 35)⟩]) <|
 .cond (.t 36)
 (.skip)
 (.exit 0)) <|
 .seq (.block 1 <| .ops [⟨(some 39),none,.mv true (.t 3)⟩,
 ⟨(some 40),none,.fieldAddr 0 (.t 1)⟩,
 ⟨(some 41),none,.load .any false 1 (.t 40)⟩,
 ⟨(some 42),none,.mv false (.t 4)⟩,
 ⟨(some 43),none,.indexAddr 1 (.t 41) (.t 42)⟩,
 ⟨(some 44),none,.load .any false 1 (.t 43)⟩,
 ⟨(some 45),none,.buildSlice 22 3 1 [(.t 44)]⟩,
 ⟨(some 46),none,.call 120 [(.c (.str [115,105,103,110])),(.t 45)]⟩,
 ⟨(some 47),none,.buildSlice 147 9 1 [(.t 46)]⟩,
 ⟨(some 48),none,.append 147 9 1 16 (.t 39) (.t 47)⟩,
 ⟨(some 3),none,.mv true (.t 48)⟩]) <|
 .ops [⟨(some 37),none,.mv false (.t 4)⟩,
 ⟨(some 38),none,.bin .add (.t 37) (.c (.int .i64 1))⟩,
 ⟨(some 4),none,.mv true (.t 38)⟩]) <|
 .seq (.seq (.ops [⟨(some 5),none,.mv true (.c (.int .i64 0))⟩]) <|
 .block 2 <| .loop <|
 .seq (.seq (.ops [⟨(some 49),none,.mv false (.t 5)⟩,
 ⟨(some 50),none,.fieldAddr 1 (.t 1)⟩,
 ⟨(some 51),none,.load .any false 1 (.t 50)⟩,
 ⟨(some 52),none,.lenL (.t 51)⟩,
 ⟨(some 53),none,.bin .lss (.t 49) (.t 52)⟩]) <|
 .cond (.t 53)
 (.skip)
 (.exit 2)) <|
 .seq (.block 3 <| .seq (.ops [⟨(some 56),none,.fieldAddr 1 (.t 1)⟩,
 ⟨(some 57),none,.load .any false 1 (.t 56)⟩,
 ⟨(some 58),none,.mv false (.t 5)⟩,
 ⟨(some 59),none,.indexAddr 4 (.t 57) (.t 58)⟩,
 ⟨(some 60),none,.load .any true 4 (.t 59)⟩,
 ⟨(some 6),none,.alloc 119 [(.int .i64 0),(.int .i64 0),(.int .i64 0),(.int .i64 0)]⟩,
 ⟨none,none,.store .any 4 (.t 6) (.t 60)⟩]) <|
 .ops [⟨(some 61),none,.mv true (.t 3)⟩,
 ⟨(some 62),none,.fieldAddr 0 (.t 6)⟩,
 ⟨(some 63),none,.load .any false 1 (.t 62)⟩,
 ⟨(some 64),none,.fieldAddr 1 (.t 6)⟩,
 ⟨(some 65),none,.load .any false 1 (.t 64)⟩,
 ⟨(some 66),none,.fieldAddr 2 (.t 6)⟩,
 ⟨(some 67),none,.fieldAddr 0 (.t 66)⟩,
 ⟨(some 68),none,.load .any false 1 (.t 67)⟩,
 ⟨(some 69),none,.fieldAddr 2 (.t 6)⟩,
 ⟨(some 70),none,.fieldAddr 1 (.t 69)⟩,
 ⟨(some 71),none,.load .any false 1 (.t 70)⟩,
 ⟨(some 72),none,.buildSlice 22 3 1 [(.t 63),(.t 65),(.t 68),(.t 71)]⟩,
 ⟨(some 73),none,.call 120 [(.c (.str [112,97,105,114])),(.t 72)]⟩,
 ⟨(some 74),none,.buildSlice 147 9 1 [(.t 73)]⟩,
 ⟨(some 75),none,.append 147 9 1 16 (.t 61) (.t 74)⟩,
 ⟨(some 3),none,.mv true (.t 75)⟩]) <|
 .ops [⟨(some 54),none,.mv false (.t 5)⟩,
 ⟨(some 55),none,.bin .add (.t 54) (.c (.int .i64 1))⟩,
 ⟨(some 5),none,.mv true (.t 55)⟩]) <|
 .seq (.seq (.ops [⟨(some 7),none,.mv true (.c (.int .i64 0))⟩]) <|
 .block 4 <| .loop <|
 .seq (.seq (.ops [⟨(some 76),none,.mv false (.t 7)⟩,
 ⟨(some 77),none,.fieldAddr 7 (.t 1)⟩,
 ⟨(some 78),none,.load .any false 1 (.t 77)⟩,
 ⟨(some 79),none,.lenL (.t 78)⟩,
 ⟨(some 80),none,.bin .lss (.t 76) (.t 79)⟩]) <|
 .cond (.t 80)
 (.skip)
 (.exit 4)) <|
 .seq (.block 5 <| .seq (.ops [⟨(some 8),none,.mv true (.c (.str [110,111]))⟩]) <|
 .seq (.seq (.ops [⟨(some 83),none,.fieldAddr 7 (.t 1)⟩,
 ⟨(some 84),none,.load .any false 1 (.t 83)⟩,
 ⟨(some 85),none,.mv false (.t 7)⟩,
 ⟨(some 86),none,.indexAddr 3 (.t 84) (.t 85)⟩,
 ⟨(some 87),none,.fieldAddr 2 (.t 86)⟩,
 ⟨(some 88),none,.load .any false 1 (.t 87)⟩]) <|
 .cond (.t 88)
 (.ops [⟨(some 8),none,.mv true (.c (.str [121,101,115]))⟩])
 (.skip)) <|
 .dops [⟨(some 89),none,.mv true (.t 3)⟩,
 ⟨(some 90),none,.mv false (.t 8)⟩,
 ⟨(some 91),none,.bin .add (.c (.str [119,111,114,100,32])) (.t 90)⟩,
 ⟨(some 92),none,.bin .add (.t 91) (.c (.str [32]))⟩,
 ⟨(some 93),none,.fieldAddr 7 (.t 1)⟩,
 ⟨(some 94),none,.load (.box 1) false 1 (.t 93)⟩,
 ⟨(some 95),none,.mv false (.t 7)⟩,
 ⟨(some 96),none,.indexAddr 3 (.t 94) (.t 95)⟩,
 ⟨(some 97),none,.fieldAddr 0 (.t 96)⟩,
 ⟨(some 98),none,.load .ref false 1 (.t 97)⟩,
 ⟨(some 99),none,.call 121 [(.t 98)]⟩,
 ⟨(some 100),none,.bin .add (.t 92) (.t 99)⟩,
 ⟨(some 101),none,.bin .add (.t 100) (.c (.str [32]))⟩,
 ⟨(some 102),none,.fieldAddr 7 (.t 1)⟩,
 ⟨(some 103),none,.load (.box 1) false 1 (.t 102)⟩,
 ⟨(some 104),none,.mv false (.t 7)⟩,
 ⟨(some 105),none,.indexAddr 3 (.t 103) (.t 104)⟩,
 ⟨(some 106),none,.fieldAddr 1 (.t 105)⟩,
 ⟨(some 107),none,.load .ref false 1 (.t 106)⟩,
 ⟨(some 108),none,.call 121 [(.t 107)]⟩,
 ⟨(some 109),none,.bin .add (.t 101) (.t 108)⟩,
 ⟨(some 110),none,.buildSlice 147 9 1 [(.t 109)]⟩,
 ⟨(some 111),none,.append 147 9 1 16 (.t 89) (.t 110)⟩,
 ⟨(some 3),none,.mv true (.t 111)⟩]) <|
 .ops [⟨(some 81),none,.mv false (.t 7)⟩,
 ⟨(some 82),none,.bin .add (.t 81) (.c (.int .i64 1))⟩,
 ⟨(some 7),none,.mv true (.t 82)⟩]) <|
 .seq (.ops [⟨(some 112),none,.mv false (.t 3)⟩,
 ⟨(some 113),none,.call 122 [(.t 112),(.c (.int .i64 173))]⟩,
 ⟨(some 2),none,.mv true (.t 113)⟩]) <|
 .ret
noncomputable def c72:ACode := .seq (.ops [⟨(some 6),none,.mv true (.c (.bool false))⟩]) <|
 .seq (.ops [⟨(some 7),none,.mv false (.t 0)⟩,
 ⟨(some 8),none,.mv false (.t 1)⟩,
 ⟨(some 9),none,.bin .geq (.t 7) (.t 8)⟩,
 ⟨(some 10),none,.mv false (.t 9)⟩,
 ⟨(some 11),(some (10,true)),.mv false (.t 0)⟩,
 ⟨(some 12),(some (10,true)),.mv false (.t 2)⟩,
 ⟨(some 13),(some (10,true)),.bin .leq (.t 11) (.t 12)⟩,
 ⟨(some 14),none,.pick (.t 10) (.t 13) (.c (.bool false))⟩,
 ⟨(some 6),none,.mv true (.t 14)⟩]) <|
 .ret
noncomputable def c73:ACode:=(by refine ⟨?_,?_⟩;rotate_left;conv=>lhs;cbv:Ev 16 f73).1
noncomputable def c74:ACode:=(by refine ⟨?_,?_⟩;rotate_left;conv=>lhs;cbv:Ev 5 f74).1
noncomputable def c75:ACode:=(by refine ⟨?_,?_⟩;rotate_left;conv=>lhs;cbv:Ev 5 f75).1
noncomputable def c76:ACode:=(by refine ⟨?_,?_⟩;rotate_left;conv=>lhs;cbv:Ev 5 f76).1
noncomputable def c77:ACode:=(by refine ⟨?_,?_⟩;rotate_left;conv=>lhs;cbv:Ev 5 f77).1
noncomputable def c79:ACode:=(by refine ⟨?_,?_⟩;rotate_left;conv=>lhs;cbv:Ev 18 f79).1
noncomputable def c80:ACode := .seq (.ops [⟨(some 1),none,.box 28 10 (.t 0)⟩,
 ⟨(some 2),none,.alloc 103 [(.slice .nil []),(.slice .nil []),(.int .i64 0),(.int .i64 0),(.int .i64 0),(.int .i64 0),(.int .i64 0),(.slice .nil []),(.int .i64 0),(.int .i64 0),(.map [] [])]⟩]) <|
 .seq (.ops [⟨(some 6),none,.load .any true 10 (.t 1)⟩,
 ⟨(some 7),none,.other⟩,
 ⟨(some 8),none,.build [(.slice .nil []),(.slice .nil []),(.int .i64 0),(.int .i64 0),(.int .i64 0),(.int .i64 0),(.int .i64 0),(.slice .nil []),(.int .i64 0),(.int .i64 0),(.map [] [])] [(0,10,(.t 6)),(10,1,(.t 7))]⟩,
 ⟨(some 3),none,.alloc 103 [(.slice .nil []),(.slice .nil []),(.int .i64 0),(.int .i64 0),(.int .i64 0),(.int .i64 0),(.int .i64 0),(.slice .nil []),(.int .i64 0),(.int .i64 0),(.map [] [])]⟩,
 ⟨none,none,.store .any 11 (.t 3) (.t 8)⟩]) <|
 .seq (.seq (.ops [⟨(some 9),none,.fieldAddr 1 (.t 1)⟩,
 ⟨(some 10),none,.load .any false 1 (.t 9)⟩,
 ⟨(some 11),none,.lenL (.t 10)⟩,
 ⟨(some 12),none,.mv false (.c (.int .i64 0))⟩]) <|
 .block 0 <| .loop <|
 .seq (.ops [⟨(some 13),none,.bin .lss (.t 12) (.t 11)⟩]) <|
 .seq (.cond (.t 13)
 (.skip)
 (.exit 0)) <|
 .seq (.block 1 <| .seq (.ops [⟨(some 14),none,.indexAddr 4 (.t 10) (.t 12)⟩,
 ⟨(some 15),none,.load .any true 4 (.t 14)⟩,
 ⟨(some 5),none,.alloc 119 [(.int .i64 0),(.int .i64 0),(.int .i64 0),(.int .i64 0)]⟩,
 ⟨none,none,.store .any 4 (.t 5) (.t 15)⟩]) <|
 .ops [⟨(some 16),none,.fieldAddr 10 (.t 3)⟩,
 ⟨(some 17),none,.load .any false 1 (.t 16)⟩,
 ⟨(some 18),none,.fieldAddr 0 (.t 5)⟩,
 ⟨(some 19),none,.load .any false 1 (.t 18)⟩,
 ⟨(some 20),none,.fieldAddr 1 (.t 5)⟩,
 ⟨(some 21),none,.load .any false 1 (.t 20)⟩,
 ⟨(some 22),none,.build [(.int .i64 0),(.int .i64 0)] [(0,1,(.t 19)),(1,1,(.t 21))]⟩,
 ⟨(some 23),none,.fieldAddr 2 (.t 5)⟩,
 ⟨(some 24),none,.load .any true 2 (.t 23)⟩,
 ⟨none,none,.other⟩]) <|
 .ops [⟨(some 25),none,.bin .add (.t 12) (.c (.int .i64 1))⟩,
 ⟨(some 12),none,.mv false (.t 25)⟩]) <|
 .seq (.ops [⟨(some 26),none,.load .any true 11 (.t 3)⟩,
 ⟨none,none,.store .any 11 (.t 2) (.t 26)⟩]) <|
 .ret
noncomputable def c81:ACode := .seq (.ops [⟨(some 2),none,.box 103 11 (.t 0)⟩,
 ⟨(some 3),none,.box 31 2 (.t 1)⟩,
 ⟨(some 4),none,.mv true (.c (.slice .nil []))⟩]) <|
 .seq (.ops [⟨(some 5),none,.mv true (.c (.slice .nil []))⟩]) <|
 .seq (.ops [⟨(some 6),none,.mv true (.c (.int .i64 0))⟩,
 ⟨(some 7),none,.mv true (.c (.int .i64 0))⟩]) <|
 .seq (.seq (.ops [⟨(some 11),none,.fieldAddr 1 (.t 3)⟩,
 ⟨(some 12),none,.load .any false 1 (.t 11)⟩,
 ⟨(some 13),none,.lenL (.t 12)⟩,
 ⟨(some 14),none,.mv false (.c (.int .i64 0))⟩]) <|
 .block 0 <| .loop <|
 .seq (.ops [⟨(some 15),none,.bin .lss (.t 14) (.t 13)⟩]) <|
 .seq (.cond (.t 15)
 (.skip)
 (.exit 0)) <|
 .seq (.block 1 <| .seq (.ops [⟨(some 16),none,.indexAddr 2 (.t 12) (.t 14)⟩,
 ⟨(some 17),none,.load .any true 2 (.t 16)⟩,
 ⟨(some 9),none,.alloc 116 [(.int .i64 0),(.int .i64 0)]⟩,
 ⟨none,none,.store .any 2 (.t 9) (.t 17)⟩]) <|
 .seq (.dops [⟨(some 18),none,.fieldAddr 1 (.t 9)⟩,
 ⟨(some 19),none,.load (.box 9) false 1 (.t 18)⟩,
 ⟨(some 20),none,.fieldAddr 0 (.t 2)⟩,
 ⟨(some 21),none,.fieldAddr 7 (.t 20)⟩,
 ⟨(some 22),none,.load (.box 2) false 1 (.t 21)⟩,
 ⟨(some 23),none,.fieldAddr 0 (.t 9)⟩,
 ⟨(some 24),none,.load (.box 9) false 1 (.t 23)⟩,
 ⟨(some 25),none,.indexAddr 3 (.t 22) (.t 24)⟩,
 ⟨(some 26),none,.fieldAddr 0 (.t 25)⟩,
 ⟨(some 27),none,.load .ref false 1 (.t 26)⟩,
 ⟨(some 28),none,.lenL (.t 27)⟩,
 ⟨(some 29),none,.bin .lss (.t 19) (.t 28)⟩,
 ⟨(some 30),none,.build [(.slice .nil []),(.bool false)] [(1,1,(.t 29))]⟩,
 ⟨(some 10),none,.alloc 109 [(.slice .nil []),(.bool false)]⟩,
 ⟨none,none,.store (.box 10) 2 (.t 10) (.t 30)⟩]) <|
 .seq (.block 2 <| .loop <|
 .seq (.seq (.ops [⟨(some 31),none,.mv false (.t 6)⟩,
 ⟨(some 32),none,.fieldAddr 0 (.t 9)⟩,
 ⟨(some 33),none,.load .any false 1 (.t 32)⟩,
 ⟨(some 34),none,.bin .lss (.t 31) (.t 33)⟩,
 ⟨(some 35),none,.mv false (.t 34)⟩,
 ⟨(some 36),(some (35,false)),.mv false (.t 6)⟩,
 ⟨(some 37),(some (35,false)),.fieldAddr 0 (.t 9)⟩,
 ⟨(some 38),(some (35,false)),.load .any false 1 (.t 37)⟩,
 ⟨(some 39),(some (35,false)),.bin .eql (.t 36) (.t 38)⟩,
 ⟨(some 40),(some (35,false)),.mv false (.t 39)⟩,
 ⟨(some 41),(some (40,true)),.mv false (.t 7)⟩,
 ⟨(some 42),(some (40,true)),.fieldAddr 1 (.t 9)⟩,
 ⟨(some 43),(some (40,true)),.load .any false 1 (.t 42)⟩,
 ⟨(some 44),(some (40,true)),.bin .lss (.t 41) (.t 43)⟩,
 ⟨(some 45),(some (35,false)),.pick (.t 40) (.t 44) (.c (.bool false))⟩,
 ⟨(some 46),none,.pick (.t 35) (.c (.bool true)) (.t 45)⟩]) <|
 .cond (.t 46)
 (.skip)
 (.exit 2)) <|
 .seq (.block 3 <| .seq (.seq (.ops [⟨(some 49),none,.fieldAddr 0 (.t 3)⟩,
 ⟨(some 50),none,.load .any false 1 (.t 49)⟩,
 ⟨(some 51),none,.mv false (.t 6)⟩,
 ⟨(some 52),none,.call 129 [(.t 50),(.t 51)]⟩,
 ⟨(some 53),none,.mv false (.t 52)⟩,
 ⟨(some 54),(some (53,false)),.mv false (.t 7)⟩,
 ⟨(some 55),(some (53,false)),.fieldAddr 0 (.t 2)⟩,
 ⟨(some 56),(some (53,false)),.fieldAddr 7 (.t 55)⟩,
 ⟨(some 57),(some (53,false)),.load .any false 1 (.t 56)⟩,
 ⟨(some 58),(some (53,false)),.mv false (.t 6)⟩,
 ⟨(some 59),(some (53,false)),.indexAddr 3 (.t 57) (.t 58)⟩,
 ⟨(some 60),(some (53,false)),.fieldAddr 0 (.t 59)⟩,
 ⟨(some 61),(some (53,false)),.load .any false 1 (.t 60)⟩,
 ⟨(some 62),(some (53,false)),.lenL (.t 61)⟩,
 ⟨(some 63),(some (53,false)),.bin .eql (.t 54) (.t 62)⟩,
 ⟨(some 64),none,.pick (.t 53) (.c (.bool true)) (.t 63)⟩]) <|
 .cond (.t 64)
 (.seq (.ops [⟨(some 65),none,.mv false (.t 6)⟩,
 ⟨(some 66),none,.bin .add (.t 65) (.c (.int .i64 1))⟩,
 ⟨(some 6),none,.mv true (.t 66)⟩,
 ⟨(some 7),none,.mv true (.c (.int .i64 (-1)))⟩]) <|
 .exit 3)
 (.skip)) <|
 .ops [⟨(some 67),none,.fieldAddr 0 (.t 10)⟩,
 ⟨(some 68),none,.loadT .any (.t 67)⟩,
 ⟨(some 69),none,.mv false (.t 6)⟩,
 ⟨(some 70),none,.mv false (.t 7)⟩,
 ⟨(some 71),none,.build [(.int .i64 0),(.int .i64 0)] [(0,1,(.t 69)),(1,1,(.t 70))]⟩,
 ⟨(some 72),none,.buildSlice 107 111 2 [(.t 71)]⟩,
 ⟨(some 73),none,.append 107 111 2 16 (.t 68) (.t 72)⟩,
 ⟨(some 74),none,.fieldAddr 0 (.t 10)⟩,
 ⟨none,none,.store .any 1 (.t 74) (.t 73)⟩]) <|
 .ops [⟨(some 47),none,.mv false (.t 7)⟩,
 ⟨(some 48),none,.bin .add (.t 47) (.c (.int .i64 1))⟩,
 ⟨(some 7),none,.mv true (.t 48)⟩]) <|
 .ops [⟨(some 75),none,.mv true (.t 5)⟩,
 ⟨(some 76),none,.load .any true 2 (.t 10)⟩,
 ⟨(some 77),none,.buildSlice 105 109 2 [(.t 76)]⟩,
 ⟨(some 78),none,.append 105 109 2 32 (.t 75) (.t 77)⟩,
 ⟨(some 5),none,.mv true (.t 78)⟩]) <|
 .ops [⟨(some 79),none,.bin .add (.t 14) (.c (.int .i64 1))⟩,
 ⟨(some 14),none,.mv false (.t 79)⟩]) <|
 .seq (.ops [⟨(some 80),none,.mv false (.t 5)⟩,
 ⟨(some 4),none,.mv true (.t 80)⟩]) <|
 .ret
noncomputable def c82:ACode:=(by refine ⟨?_,?_⟩;rotate_left;conv=>lhs;cbv:Ev 17 f82).1
noncomputable def c83:ACode := .seq (.ops [⟨(some 4),none,.box 103 11 (.t 0)⟩,
 ⟨(some 5),none,.box 111 2 (.t 1)⟩,
 ⟨(some 6),none,.box 111 2 (.t 2)⟩,
 ⟨(some 8),none,.mv true (.c (.int .i64 0))⟩]) <|
 .seq (.seq (.ops [⟨(some 11),none,.fieldAddr 0 (.t 5)⟩,
 ⟨(some 12),none,.load .any false 1 (.t 11)⟩,
 ⟨(some 13),none,.fieldAddr 0 (.t 6)⟩,
 ⟨(some 14),none,.load .any false 1 (.t 13)⟩,
 ⟨(some 15),none,.bin .neq (.t 12) (.t 14)⟩]) <|
 .cond (.t 15)
 (.seq (.ops [⟨(some 16),none,.fieldAddr 0 (.t 4)⟩,
 ⟨(some 17),none,.fieldAddr 4 (.t 16)⟩,
 ⟨(some 18),none,.load .any true 2 (.t 17)⟩,
 ⟨(some 19),none,.mv false (.t 3)⟩,
 ⟨(some 20),none,.call 130 [(.t 18),(.t 19)]⟩,
 ⟨(some 8),none,.mv true (.t 20)⟩]) <|
 .ret)
 (.skip)) <|
 .seq (.seq (.dops [⟨(some 22),none,.fieldAddr 10 (.t 4)⟩,
 ⟨(some 23),none,.load (.box 4) false 1 (.t 22)⟩,
 ⟨(some 24),none,.load (.box 4) true 11 (.t 4)⟩,
 ⟨(some 25),none,.load (.box 5) true 2 (.t 5)⟩,
 ⟨(some 26),none,.call 82 [(.t 24),(.t 25)]⟩,
 ⟨(some 27),none,.load (.box 4) true 11 (.t 4)⟩,
 ⟨(some 28),none,.load (.box 6) true 2 (.t 6)⟩,
 ⟨(some 29),none,.call 82 [(.t 27),(.t 28)]⟩,
 ⟨(some 30),none,.build [(.int .i64 0),(.int .i64 0)] [(0,1,(.t 26)),(1,1,(.t 29))]⟩,
 ⟨(some 31),none,.lookup 2 (.agg [(.int .i64 0),(.int .i64 0)]) (.t 23) (.t 30)⟩,
 ⟨(some 21),none,.mv false (.t 31)⟩,
 ⟨(some 32),none,.extract (.t 21) 0⟩,
 ⟨(some 33),none,.extract (.t 21) 1⟩,
 ⟨(some 9),none,.alloc 25 [(.int .i64 0),(.int .i64 0)]⟩,
 ⟨none,none,.store (.box 9) 2 (.t 9) (.t 32)⟩,
 ⟨(some 10),none,.mv true (.t 33)⟩]) <|
 .seq (.ops [⟨(some 34),none,.mv false (.t 10)⟩]) <|
 .cond (.t 34)
 (.seq (.ops [⟨(some 35),none,.load .any true 2 (.t 9)⟩,
 ⟨(some 36),none,.mv false (.t 3)⟩,
 ⟨(some 37),none,.call 130 [(.t 35),(.t 36)]⟩,
 ⟨(some 8),none,.mv true (.t 37)⟩]) <|
 .ret)
 (.skip)) <|
 .seq (.ops [⟨(some 38),none,.fieldAddr 0 (.t 4)⟩,
 ⟨(some 39),none,.fieldAddr 2 (.t 38)⟩,
 ⟨(some 40),none,.load .any true 2 (.t 39)⟩,
 ⟨(some 41),none,.mv false (.t 3)⟩,
 ⟨(some 42),none,.call 130 [(.t 40),(.t 41)]⟩,
 ⟨(some 8),none,.mv true (.t 42)⟩]) <|
 .ret
noncomputable def c84:ACode:=(by refine ⟨?_,?_⟩;rotate_left;conv=>lhs;cbv:Ev 23 f84).1
end Go.Proofs.Tryz
namespace Go.Proofs.Tryz
open Go.AL
set_option maxRecDepth 100000
set_option maxHeartbeats 4000000
noncomputable def c86:ACode:=(by refine ⟨?_,?_⟩;rotate_left;conv=>lhs;cbv:Ev 19 f86).1
noncomputable def c87:ACode:=(by refine ⟨?_,?_⟩;rotate_left;conv=>lhs;cbv:Ev 18 f87).1
noncomputable def c88:ACode := .seq (.ops [⟨(some 2),none,.box 28 10 (.t 0)⟩,
 ⟨(some 3),none,.box 77 3 (.t 1)⟩,
 ⟨(some 4),none,.mv true (.c (.bool false))⟩]) <|
 .seq (.seq (.ops [⟨(some 5),none,.mv true (.c (.int .i64 0))⟩]) <|
 .block 0 <| .loop <|
 .seq (.seq (.ops [⟨(some 7),none,.mv false (.t 5)⟩,
 ⟨(some 8),none,.fieldAddr 0 (.t 3)⟩,
 ⟨(some 9),none,.load .any false 1 (.t 8)⟩,
 ⟨(some 10),none,.lenL (.t 9)⟩,
 ⟨(some 11),none,.bin .lss (.t 7) (.t 10)⟩]) <|
 .cond (.t 11)
 (.skip)
 (.exit 0)) <|
 .seq (.block 1 <| .seq (.dops [⟨(some 14),none,.load (.box 2) true 10 (.t 2)⟩,
 ⟨(some 15),none,.fieldAddr 0 (.t 3)⟩,
 ⟨(some 16),none,.load (.box 3) false 1 (.t 15)⟩,
 ⟨(some 17),none,.mv false (.t 5)⟩,
 ⟨(some 18),none,.indexAddr 1 (.t 16) (.t 17)⟩,
 ⟨(some 19),none,.load .ref false 1 (.t 18)⟩,
 ⟨(some 20),none,.call 134 [(.t 14),(.t 19)]⟩,
 ⟨(some 21),none,.not (.t 20)⟩]) <|
 .cond (.t 21)
 (.seq (.ops [⟨(some 4),none,.mv true (.c (.bool false))⟩]) <|
 .ret)
 (.skip)) <|
 .ops [⟨(some 12),none,.mv false (.t 5)⟩,
 ⟨(some 13),none,.bin .add (.t 12) (.c (.int .i64 1))⟩,
 ⟨(some 5),none,.mv true (.t 13)⟩]) <|
 .seq (.seq (.ops [⟨(some 6),none,.mv true (.c (.int .i64 0))⟩]) <|
 .block 2 <| .loop <|
 .seq (.seq (.ops [⟨(some 22),none,.mv false (.t 6)⟩,
 ⟨(some 23),none,.fieldAddr 1 (.t 3)⟩,
 ⟨(some 24),none,.load .any false 1 (.t 23)⟩,
 ⟨(some 25),none,.lenL (.t 24)⟩,
 ⟨(some 26),none,.bin .lss (.t 22) (.t 25)⟩]) <|
 .cond (.t 26)
 (.skip)
 (.exit 2)) <|
 .seq (.block 3 <| .seq (.dops [⟨(some 29),none,.fieldAddr 1 (.t 3)⟩,
 ⟨(some 30),none,.load (.box 3) false 1 (.t 29)⟩,
 ⟨(some 31),none,.mv false (.t 6)⟩,
 ⟨(some 32),none,.indexAddr 1 (.t 30) (.t 31)⟩,
 ⟨(some 33),none,.load .ref false 1 (.t 32)⟩,
 ⟨(some 34),none,.fieldAddr 0 (.t 3)⟩,
 ⟨(some 35),none,.load (.box 3) false 1 (.t 34)⟩,
 ⟨(some 36),none,.lenL (.t 35)⟩,
 ⟨(some 37),none,.bin .sub (.t 36) (.c (.int .i64 1))⟩,
 ⟨(some 38),none,.call 72 [(.t 33),(.c (.int .i64 1)),(.t 37)]⟩,
 ⟨(some 39),none,.not (.t 38)⟩,
 ⟨(some 40),none,.mv false (.t 39)⟩,
 ⟨(some 41),(some (40,false)),.mv false (.t 6)⟩,
 ⟨(some 42),(some (40,false)),.bin .gtr (.t 41) (.c (.int .i64 0))⟩,
 ⟨(some 43),(some (40,false)),.mv false (.t 42)⟩,
 ⟨(some 44),(some (43,true)),.fieldAddr 1 (.t 3)⟩,
 ⟨(some 45),(some (43,true)),.load (.box 3) false 1 (.t 44)⟩,
 ⟨(some 46),(some (43,true)),.mv false (.t 6)⟩,
 ⟨(some 47),(some (43,true)),.indexAddr 1 (.t 45) (.t 46)⟩,
 ⟨(some 48),(some (43,true)),.load .ref false 1 (.t 47)⟩,
 ⟨(some 49),(some (43,true)),.fieldAddr 1 (.t 3)⟩,
 ⟨(some 50),(some (43,true)),.load (.box 3) false 1 (.t 49)⟩,
 ⟨(some 51),(some (43,true)),.mv false (.t 6)⟩,
 ⟨(some 52),(some (43,true)),.bin .sub (.t 51) (.c (.int .i64 1))⟩,
 ⟨(some 53),(some (43,true)),.indexAddr 1 (.t 50) (.t 52)⟩,
 ⟨(some 54),(some (43,true)),.load .ref false 1 (.t 53)⟩,
 ⟨(some 55),(some (43,true)),.bin .leq (.t 48) (.t 54)⟩,
 ⟨(some 56),(some (40,false)),.pick (.t 43) (.t 55) (.c (.bool false))⟩,
 ⟨(some 57),none,.pick (.t 40) (.c (.bool true)) (.t 56)⟩]) <|
 .cond (.t 57)
 (.seq (.ops [⟨(some 4),none,.mv true (.c (.bool false))⟩]) <|
 .ret)
 (.skip)) <|
 .ops [⟨(some 27),none,.mv false (.t 6)⟩,
 ⟨(some 28),none,.bin .add (.t 27) (.c (.int .i64 1))⟩,
 ⟨(some 6),none,.mv true (.t 28)⟩]) <|
 .seq (.ops [⟨(some 58),none,.fieldAddr 0 (.t 3)⟩,
 ⟨(some 59),none,.load .any false 1 (.t 58)⟩,
 ⟨(some 60),none,.lenL (.t 59)⟩,
 ⟨(some 61),none,.call 72 [(.t 60),(.c (.int .i64 1)),(.c (.int .i64 6))]⟩,
 ⟨(some 4),none,.mv true (.t 61)⟩]) <|
 .ret
noncomputable def c89:ACode := .seq (.ops [⟨(some 1),none,.box 28 10 (.t 0)⟩,
 ⟨(some 2),none,.mv true (.c (.bool false))⟩]) <|
 .seq (.seq (.ops [⟨(some 3),none,.mv true (.c (.int .i64 0))⟩]) <|
 .block 0 <| .loop <|
 .seq (.seq (.ops [⟨(some 5),none,.mv false (.t 3)⟩,
 ⟨(some 6),none,.fieldAddr 1 (.t 1)⟩,
 ⟨(some 7),none,.load .any false 1 (.t 6)⟩,
 ⟨(some 8),none,.lenL (.t 7)⟩,
 ⟨(some 9),none,.bin .lss (.t 5) (.t 8)⟩]) <|
 .cond (.t 9)
 (.skip)
 (.exit 0)) <|
 .seq (.block 1 <| .seq (.ops [⟨(some 12),none,.fieldAddr 1 (.t 1)⟩,
 ⟨(some 13),none,.load .any false 1 (.t 12)⟩,
 ⟨(some 14),none,.mv false (.t 3)⟩,
 ⟨(some 15),none,.indexAddr 4 (.t 13) (.t 14)⟩,
 ⟨(some 16),none,.load .any true 4 (.t 15)⟩,
 ⟨(some 4),none,.alloc 119 [(.int .i64 0),(.int .i64 0),(.int .i64 0),(.int .i64 0)]⟩,
 ⟨none,none,.store .any 4 (.t 4) (.t 16)⟩]) <|
 .seq (.seq (.ops [⟨(some 17),none,.load .any true 10 (.t 1)⟩,
 ⟨(some 18),none,.fieldAddr 0 (.t 4)⟩,
 ⟨(some 19),none,.load .any false 1 (.t 18)⟩,
 ⟨(some 20),none,.call 134 [(.t 17),(.t 19)]⟩,
 ⟨(some 21),none,.not (.t 20)⟩,
 ⟨(some 22),none,.mv false (.t 21)⟩,
 ⟨(some 23),(some (22,false)),.load .any true 10 (.t 1)⟩,
 ⟨(some 24),(some (22,false)),.fieldAddr 1 (.t 4)⟩,
 ⟨(some 25),(some (22,false)),.load .any false 1 (.t 24)⟩,
 ⟨(some 26),(some (22,false)),.call 134 [(.t 23),(.t 25)]⟩,
 ⟨(some 27),(some (22,false)),.not (.t 26)⟩,
 ⟨(some 28),none,.pick (.t 22) (.c (.bool true)) (.t 27)⟩,
 ⟨(some 29),none,.mv false (.t 28)⟩,
 ⟨(some 30),(some (29,false)),.fieldAddr 2 (.t 4)⟩,
 ⟨(some 31),(some (29,false)),.load .any true 2 (.t 30)⟩,
 ⟨(some 32),(some (29,false)),.call 90 [(.t 31),(.c (.int .i64 9))]⟩,
 ⟨(some 33),(some (29,false)),.not (.t 32)⟩,
 ⟨(some 34),none,.pick (.t 29) (.c (.bool true)) (.t 33)⟩]) <|
 .cond (.t 34)
 (.seq (.ops [⟨(some 2),none,.mv true (.c (.bool false))⟩]) <|
 .ret)
 (.skip)) <|
 .seq (.dops [⟨(some 35),none,.mv false (.t 3)⟩,
 ⟨(some 36),none,.bin .gtr (.t 35) (.c (.int .i64 0))⟩,
 ⟨(some 37),none,.mv false (.t 36)⟩,
 ⟨(some 38),(some (37,true)),.fieldAddr 1 (.t 1)⟩,
 ⟨(some 39),(some (37,true)),.load (.box 1) false 1 (.t 38)⟩,
 ⟨(some 40),(some (37,true)),.mv false (.t 3)⟩,
 ⟨(some 41),(some (37,true)),.bin .sub (.t 40) (.c (.int .i64 1))⟩,
 ⟨(some 42),(some (37,true)),.indexAddr 4 (.t 39) (.t 41)⟩,
 ⟨(some 43),(some (37,true)),.fieldAddr 0 (.t 42)⟩,
 ⟨(some 44),(some (37,true)),.load .ref false 1 (.t 43)⟩,
 ⟨(some 45),(some (37,true)),.fieldAddr 0 (.t 4)⟩,
 ⟨(some 46),(some (37,true)),.load (.box 4) false 1 (.t 45)⟩,
 ⟨(some 47),(some (37,true)),.bin .gtr (.t 44) (.t 46)⟩,
 ⟨(some 48),(some (37,true)),.mv false (.t 47)⟩,
 ⟨(some 49),(some (48,false)),.fieldAddr 1 (.t 1)⟩,
 ⟨(some 50),(some (48,false)),.load (.box 1) false 1 (.t 49)⟩,
 ⟨(some 51),(some (48,false)),.mv false (.t 3)⟩,
 ⟨(some 52),(some (48,false)),.bin .sub (.t 51) (.c (.int .i64 1))⟩,
 ⟨(some 53),(some (48,false)),.indexAddr 4 (.t 50) (.t 52)⟩,
 ⟨(some 54),(some (48,false)),.fieldAddr 0 (.t 53)⟩,
 ⟨(some 55),(some (48,false)),.load .ref false 1 (.t 54)⟩,
 ⟨(some 56),(some (48,false)),.fieldAddr 0 (.t 4)⟩,
 ⟨(some 57),(some (48,false)),.load (.box 4) false 1 (.t 56)⟩,
 ⟨(some 58),(some (48,false)),.bin .eql (.t 55) (.t 57)⟩,
 ⟨(some 59),(some (48,false)),.mv false (.t 58)⟩,
 ⟨(some 60),(some (59,true)),.fieldAddr 1 (.t 1)⟩,
 ⟨(some 61),(some (59,true)),.load (.box 1) false 1 (.t 60)⟩,
 ⟨(some 62),(some (59,true)),.mv false (.t 3)⟩,
 ⟨(some 63),(some (59,true)),.bin .sub (.t 62) (.c (.int .i64 1))⟩,
 ⟨(some 64),(some (59,true)),.indexAddr 4 (.t 61) (.t 63)⟩,
 ⟨(some 65),(some (59,true)),.fieldAddr 1 (.t 64)⟩,
 ⟨(some 66),(some (59,true)),.load .ref false 1 (.t 65)⟩,
 ⟨(some 67),(some (59,true)),.fieldAddr 1 (.t 4)⟩,
 ⟨(some 68),(some (59,true)),.load (.box 4) false 1 (.t 67)⟩,
 ⟨(some 69),(some (59,true)),.bin .geq (.t 66) (.t 68)⟩,
 ⟨(some 70),(some (48,false)),.pick (.t 59) (.t 69) (.c (.bool false))⟩,
 ⟨(some 71),(some (37,true)),.pick (.t 48) (.c (.bool true)) (.t 70)⟩,
 ⟨(some 72),none,.pick (.t 37) (.t 71) (.c (.bool false))⟩]) <|
 .cond (.t 72)
 (.seq (.ops [⟨(some 2),none,.mv true (.c (.bool false))⟩]) <|
 .ret)
 (.skip)) <|
 .ops [⟨(some 10),none,.mv false (.t 3)⟩,
 ⟨(some 11),none,.bin .add (.t 10) (.c (.int .i64 1))⟩,
 ⟨(some 3),none,.mv true (.t 11)⟩]) <|
 .seq (.ops [⟨(some 73),none,.fieldAddr 1 (.t 1)⟩,
 ⟨(some 74),none,.load .any false 1 (.t 73)⟩,
 ⟨(some 75),none,.lenL (.t 74)⟩,
 ⟨(some 76),none,.bin .leq (.t 75) (.c (.int .i64 6))⟩,
 ⟨(some 2),none,.mv true (.t 76)⟩]) <|
 .ret
noncomputable def c90:ACode := .seq (.ops [⟨(some 2),none,.box 25 2 (.t 0)⟩,
 ⟨(some 4),none,.mv true (.c (.bool false))⟩]) <|
 .seq (.ops [⟨(some 5),none,.fieldAddr 0 (.t 2)⟩,
 ⟨(some 6),none,.load .any false 1 (.t 5)⟩,
 ⟨(some 7),none,.mv false (.t 1)⟩,
 ⟨(some 8),none,.call 72 [(.t 6),(.c (.int .i64 0)),(.t 7)]⟩,
 ⟨(some 9),none,.mv false (.t 8)⟩,
 ⟨(some 10),(some (9,true)),.fieldAddr 1 (.t 2)⟩,
 ⟨(some 11),(some (9,true)),.load .any false 1 (.t 10)⟩,
 ⟨(some 12),(some (9,true)),.fieldAddr 0 (.t 2)⟩,
 ⟨(some 13),(some (9,true)),.load .any false 1 (.t 12)⟩,
 ⟨(some 14),(some (9,true)),.mv false (.t 1)⟩,
 ⟨(some 15),(some (9,true)),.call 72 [(.t 11),(.t 13),(.t 14)]⟩,
 ⟨(some 16),none,.pick (.t 9) (.t 15) (.c (.bool false))⟩,
 ⟨(some 4),none,.mv true (.t 16)⟩]) <|
 .ret
noncomputable def c96:ACode := .seq (.ops [⟨(some 1),none,.box 28 10 (.t 0)⟩,
 ⟨(some 2),none,.mv true (.c (.bool false))⟩]) <|
 .seq (.seq (.ops [⟨(some 6),none,.fieldAddr 0 (.t 1)⟩,
 ⟨(some 7),none,.load .any false 1 (.t 6)⟩,
 ⟨(some 8),none,.lenL (.t 7)⟩,
 ⟨(some 9),none,.call 128 [(.t 8),(.c (.int .i64 1)),(.c (.int .i64 6))]⟩,
 ⟨(some 10),none,.not (.t 9)⟩,
 ⟨(some 11),none,.mv false (.t 10)⟩,
 ⟨(some 12),(some (11,false)),.fieldAddr 1 (.t 1)⟩,
 ⟨(some 13),(some (11,false)),.load .any false 1 (.t 12)⟩,
 ⟨(some 14),(some (11,false)),.lenL (.t 13)⟩,
 ⟨(some 15),(some (11,false)),.bin .gtr (.t 14) (.c (.int .i64 6))⟩,
 ⟨(some 16),none,.pick (.t 11) (.c (.bool true)) (.t 15)⟩,
 ⟨(some 17),none,.mv false (.t 16)⟩,
 ⟨(some 18),(some (17,false)),.fieldAddr 7 (.t 1)⟩,
 ⟨(some 19),(some (17,false)),.load .any false 1 (.t 18)⟩,
 ⟨(some 20),(some (17,false)),.lenL (.t 19)⟩,
 ⟨(some 21),(some (17,false)),.call 128 [(.t 20),(.c (.int .i64 1)),(.c (.int .i64 4))]⟩,
 ⟨(some 22),(some (17,false)),.not (.t 21)⟩,
 ⟨(some 23),none,.pick (.t 17) (.c (.bool true)) (.t 22)⟩]) <|
 .cond (.t 23)
 (.seq (.ops [⟨(some 2),none,.mv true (.c (.bool false))⟩]) <|
 .ret)
 (.skip)) <|
 .seq (.seq (.ops [⟨(some 24),none,.fieldAddr 1 (.t 1)⟩,
 ⟨(some 25),none,.load .any false 1 (.t 24)⟩,
 ⟨(some 26),none,.lenL (.t 25)⟩,
 ⟨(some 27),none,.mv false (.c (.int .i64 0))⟩]) <|
 .block 0 <| .loop <|
 .seq (.ops [⟨(some 28),none,.bin .lss (.t 27) (.t 26)⟩]) <|
 .seq (.cond (.t 28)
 (.skip)
 (.exit 0)) <|
 .seq (.block 1 <| .seq (.ops [⟨(some 29),none,.mv false (.t 27)⟩,
 ⟨(some 30),none,.indexAddr 4 (.t 25) (.t 27)⟩,
 ⟨(some 31),none,.load .any true 4 (.t 30)⟩,
 ⟨(some 4),none,.alloc 119 [(.int .i64 0),(.int .i64 0),(.int .i64 0),(.int .i64 0)]⟩,
 ⟨(some 3),none,.mv true (.t 29)⟩,
 ⟨none,none,.store .any 4 (.t 4) (.t 31)⟩]) <|
 .seq (.dops [⟨(some 32),none,.load (.box 1) true 10 (.t 1)⟩,
 ⟨(some 33),none,.load (.box 4) true 4 (.t 4)⟩,
 ⟨(some 34),none,.call 136 [(.t 32),(.t 33)]⟩,
 ⟨(some 35),none,.not (.t 34)⟩,
 ⟨(some 36),none,.mv false (.t 35)⟩,
 ⟨(some 37),(some (36,false)),.mv false (.t 3)⟩,
 ⟨(some 38),(some (36,false)),.bin .gtr (.t 37) (.c (.int .i64 0))⟩,
 ⟨(some 39),(some (36,false)),.mv false (.t 38)⟩,
 ⟨(some 40),(some (39,true)),.fieldAddr 1 (.t 1)⟩,
 ⟨(some 41),(some (39,true)),.load (.box 1) false 1 (.t 40)⟩,
 ⟨(some 42),(some (39,true)),.mv false (.t 3)⟩,
 ⟨(some 43),(some (39,true)),.bin .sub (.t 42) (.c (.int .i64 1))⟩,
 ⟨(some 44),(some (39,true)),.indexAddr 4 (.t 41) (.t 43)⟩,
 ⟨(some 45),(some (39,true)),.load .ref true 4 (.t 44)⟩,
 ⟨(some 46),(some (39,true)),.load (.box 4) true 4 (.t 4)⟩,
 ⟨(some 47),(some (39,true)),.call 137 [(.t 45),(.t 46)]⟩,
 ⟨(some 48),(some (39,true)),.not (.t 47)⟩,
 ⟨(some 49),(some (36,false)),.pick (.t 39) (.t 48) (.c (.bool false))⟩,
 ⟨(some 50),none,.pick (.t 36) (.c (.bool true)) (.t 49)⟩]) <|
 .cond (.t 50)
 (.seq (.ops [⟨(some 2),none,.mv true (.c (.bool false))⟩]) <|
 .ret)
 (.skip)) <|
 .ops [⟨(some 51),none,.bin .add (.t 27) (.c (.int .i64 1))⟩,
 ⟨(some 27),none,.mv false (.t 51)⟩]) <|
 .seq (.ops [⟨(some 5),none,.mv true (.f 138)⟩]) <|
 .seq (.ops [⟨(some 52),none,.fieldAddr 0 (.t 1)⟩,
 ⟨(some 53),none,.load .any false 1 (.t 52)⟩,
 ⟨(some 54),none,.mv false (.t 5)⟩,
 ⟨(some 55),none,.call 139 [(.t 53),(.t 54)]⟩,
 ⟨(some 56),none,.not (.t 55)⟩,
 ⟨(some 57),none,.mv false (.t 56)⟩,
 ⟨(some 58),(some (57,true)),.fieldAddr 2 (.t 1)⟩,
 ⟨(some 59),(some (57,true)),.load .any true 2 (.t 58)⟩,
 ⟨(some 60),(some (57,true)),.call 140 [(.t 59),(.c (.int .i64 0)),(.c (.int .i64 9))]⟩,
 ⟨(some 61),none,.pick (.t 57) (.t 60) (.c (.bool false))⟩,
 ⟨(some 62),none,.mv false (.t 61)⟩,
 ⟨(some 63),(some (62,true)),.fieldAddr 4 (.t 1)⟩,
 ⟨(some 64),(some (62,true)),.load .any true 2 (.t 63)⟩,
 ⟨(some 65),(some (62,true)),.call 140 [(.t 64),(.c (.int .i64 0)),(.c (.int .i64 20))]⟩,
 ⟨(some 66),none,.pick (.t 62) (.t 65) (.c (.bool false))⟩,
 ⟨(some 67),none,.mv false (.t 66)⟩,
 ⟨(some 68),(some (67,true)),.fieldAddr 6 (.t 1)⟩,
 ⟨(some 69),(some (67,true)),.load .any false 1 (.t 68)⟩,
 ⟨(some 70),(some (67,true)),.call 128 [(.t 69),(.c (.int .i64 1)),(.c (.int .i64 20))]⟩,
 ⟨(some 71),none,.pick (.t 67) (.t 70) (.c (.bool false))⟩,
 ⟨(some 72),none,.mv false (.t 71)⟩,
 ⟨(some 73),(some (72,true)),.fieldAddr 7 (.t 1)⟩,
 ⟨(some 74),(some (72,true)),.load .any false 1 (.t 73)⟩,
 ⟨(some 75),(some (72,true)),.mkf (.func 142) [] [(.t 1)]⟩,
 ⟨(some 76),(some (72,true)),.call 141 [(.t 74),(.t 75)]⟩,
 ⟨(some 77),(some (72,true)),.not (.t 76)⟩,
 ⟨(some 78),none,.pick (.t 72) (.t 77) (.c (.bool false))⟩,
 ⟨(some 79),none,.mv false (.t 78)⟩,
 ⟨(some 80),(some (79,true)),.fieldAddr 8 (.t 1)⟩,
 ⟨(some 81),(some (79,true)),.load .any false 1 (.t 80)⟩,
 ⟨(some 82),(some (79,true)),.call 128 [(.t 81),(.c (.int .i64 1)),(.c (.int .i64 400))]⟩,
 ⟨(some 83),none,.pick (.t 79) (.t 82) (.c (.bool false))⟩,
 ⟨(some 84),none,.mv false (.t 83)⟩,
 ⟨(some 85),(some (84,true)),.fieldAddr 9 (.t 1)⟩,
 ⟨(some 86),(some (84,true)),.load .any false 1 (.t 85)⟩,
 ⟨(some 87),(some (84,true)),.call 128 [(.t 86),(.c (.int .i64 1)),(.c (.int .i64 3))]⟩,
 ⟨(some 88),none,.pick (.t 84) (.t 87) (.c (.bool false))⟩,
 ⟨(some 2),none,.mv true (.t 88)⟩]) <|
 .ret
noncomputable def c97:ACode := .seq (.ops [⟨(some 2),none,.box 103 11 (.t 0)⟩,
 ⟨(some 4),none,.mv true (.c (.slice .nil []))⟩]) <|
 .seq (.ops [⟨(some 5),none,.alloc 129 [(.slice .nil [])]⟩]) <|
 .seq (.seq (.ops [⟨(some 7),none,.load .any true 11 (.t 2)⟩,
 ⟨(some 8),none,.mv false (.t 1)⟩,
 ⟨(some 9),none,.call 102 [(.t 7),(.t 8)]⟩]) <|
 .block 0 <| .bad) <|
 .seq (.ops [⟨(some 18),none,.load .any false 1 (.t 5)⟩,
 ⟨(some 4),none,.mv true (.t 18)⟩]) <|
 .ret
noncomputable def c98:ACode:=(by refine ⟨?_,?_⟩;rotate_left;conv=>lhs;cbv:Ev 25 f98).1
noncomputable def c99:ACode := .seq (.ops [⟨(some 3),none,.box 31 2 (.t 0)⟩,
 ⟨(some 4),none,.box 31 2 (.t 1)⟩,
 ⟨(some 5),none,.mv true (.c (.bool false))⟩]) <|
 .seq (.dops [⟨(some 8),none,.fieldAddr 1 (.t 3)⟩,
 ⟨(some 9),none,.load (.box 3) false 1 (.t 8)⟩,
 ⟨(some 10),none,.lenL (.t 9)⟩,
 ⟨(some 11),none,.fieldAddr 1 (.t 4)⟩,
 ⟨(some 12),none,.load (.box 4) false 1 (.t 11)⟩,
 ⟨(some 13),none,.lenL (.t 12)⟩,
 ⟨(some 6),none,.mv true (.t 10)⟩,
 ⟨(some 7),none,.mv true (.t 13)⟩]) <|
 .seq (.dops [⟨(some 14),none,.mv false (.t 6)⟩,
 ⟨(some 15),none,.mv false (.t 7)⟩,
 ⟨(some 16),none,.bin .lss (.t 14) (.t 15)⟩,
 ⟨(some 17),none,.mv false (.t 16)⟩,
 ⟨(some 18),(some (17,false)),.mv false (.t 6)⟩,
 ⟨(some 19),(some (17,false)),.mv false (.t 7)⟩,
 ⟨(some 20),(some (17,false)),.bin .eql (.t 18) (.t 19)⟩,
 ⟨(some 21),(some (17,false)),.mv false (.t 20)⟩,
 ⟨(some 22),(some (21,true)),.load (.box 2) true 11 (.t 2)⟩,
 ⟨(some 23),(some (21,true)),.load (.box 3) true 2 (.t 3)⟩,
 ⟨(some 24),(some (21,true)),.call 87 [(.t 22),(.t 23)]⟩,
 ⟨(some 25),(some (21,true)),.load (.box 2) true 11 (.t 2)⟩,
 ⟨(some 26),(some (21,true)),.load (.box 4) true 2 (.t 4)⟩,
 ⟨(some 27),(some (21,true)),.call 87 [(.t 25),(.t 26)]⟩,
 ⟨(some 28),(some (21,true)),.bin .gtr (.t 24) (.t 27)⟩,
 ⟨(some 29),(some (17,false)),.pick (.t 21) (.t 28) (.c (.bool false))⟩,
 ⟨(some 30),none,.pick (.t 17) (.c (.bool true)) (.t 29)⟩,
 ⟨(some 5),none,.mv true (.t 30)⟩]) <|
 .ret
noncomputable def c100:ACode:=(by refine ⟨?_,?_⟩;rotate_left;conv=>lhs;cbv:Ev 26 f100).1
noncomputable def c102:ACode := .seq (.ops [⟨(some 2),none,.box 103 11 (.t 0)⟩,
 ⟨(some 3),none,.box 22 1 (.t 1)⟩,
 ⟨(some 4),none,.mv true (.c (.val .nilFunc))⟩]) <|
 .seq (.ops [⟨(some 5),none,.mkf (.func 144) [] [(.t 2),(.t 3)]⟩,
 ⟨(some 4),none,.mv true (.t 5)⟩]) <|
 .ret
noncomputable def c103:ACode := .seq (.ops [⟨(some 4),none,.mv true (.c (.int .i64 0))⟩]) <|
 .seq (.ops [⟨(some 8),none,.mv false (.t 0)⟩,
 ⟨(some 9),none,.indexAddr 1 (.t 8) (.c (.int .i64 0))⟩,
 ⟨(some 10),none,.load .any false 1 (.t 9)⟩,
 ⟨(some 5),none,.mv true (.t 10)⟩]) <|
 .seq (.seq (.ops [⟨(some 11),none,.mv false (.t 0)⟩,
 ⟨(some 12),none,.sliceL 1 (.t 11) (some (.c (.int .i64 1))) none⟩,
 ⟨(some 13),none,.lenL (.t 12)⟩,
 ⟨(some 14),none,.mv false (.c (.int .i64 0))⟩]) <|
 .block 0 <| .loop <|
 .seq (.ops [⟨(some 15),none,.bin .lss (.t 14) (.t 13)⟩]) <|
 .seq (.cond (.t 15)
 (.skip)
 (.exit 0)) <|
 .seq (.block 1 <| .seq (.ops [⟨(some 16),none,.indexAddr 1 (.t 12) (.t 14)⟩,
 ⟨(some 17),none,.load .any false 1 (.t 16)⟩,
 ⟨(some 7),none,.mv true (.t 17)⟩]) <|
 .seq (.ops [⟨(some 18),none,.mv false (.t 1)⟩,
 ⟨(some 19),none,.mv false (.t 7)⟩,
 ⟨(some 20),none,.mv false (.t 5)⟩,
 ⟨(some 21),none,.callv (.t 18) [(.t 19),(.t 20)]⟩]) <|
 .cond (.t 21)
 (.ops [⟨(some 22),none,.mv false (.t 7)⟩,
 ⟨(some 5),none,.mv true (.t 22)⟩])
 (.skip)) <|
 .ops [⟨(some 23),none,.bin .add (.t 14) (.c (.int .i64 1))⟩,
 ⟨(some 14),none,.mv false (.t 23)⟩]) <|
 .seq (.ops [⟨(some 24),none,.mv false (.t 5)⟩,
 ⟨(some 4),none,.mv true (.t 24)⟩]) <|
 .ret
noncomputable def c104:ACode := .seq (.ops [⟨(some 4),none,.mv true (.c (.bool false))⟩]) <|
 .seq (.ops [⟨(some 5),none,.mv false (.t 0)⟩,
 ⟨(some 6),none,.mv false (.t 1)⟩,
 ⟨(some 7),none,.bin .lss (.t 5) (.t 6)⟩,
 ⟨(some 4),none,.mv true (.t 7)⟩]) <|
 .ret
noncomputable def c106:ACode:=(by refine ⟨?_,?_⟩;rotate_left;conv=>lhs;cbv:Ev 25 f106).1
noncomputable def c107:ACode := .seq (.ops [⟨(some 2),none,.box 103 11 (.t 0)⟩,
 ⟨(some 4),none,.mv true (.c (.bool false))⟩]) <|
 .bad
noncomputable def c108:ACode := .seq (.ops [⟨(some 2),none,.mv true (.c (.slice .nil []))⟩]) <|
 .seq (.seq (.ops [⟨(some 3),none,.mv false (.t 0)⟩,
 ⟨(some 4),none,.isNil false (.t 3)⟩]) <|
 .cond (.t 4)
 (.seq (.ops [⟨(some 2),none,.mv true (.c (.slice .nil []))⟩]) <|
 .ret)
 (.skip)) <|
 .seq (.ops [⟨(some 5),none,.empty 3⟩,
 ⟨(some 6),none,.mv false (.t 0)⟩,
 ⟨(some 7),none,.append 22 3 1 8 (.t 5) (.t 6)⟩,
 ⟨(some 2),none,.mv true (.t 7)⟩]) <|
 .ret
noncomputable def c110:ACode := .seq (.ops [⟨(some 2),none,.box 28 10 (.t 0)⟩,
 ⟨(some 4),none,.alloc 28 [(.slice .nil []),(.slice .nil []),(.int .i64 0),(.int .i64 0),(.int .i64 0),(.int .i64 0),(.int .i64 0),(.slice .nil []),(.int .i64 0),(.int .i64 0)]⟩]) <|
 .seq (.ops [⟨(some 9),none,.load .any true 10 (.t 2)⟩,
 ⟨(some 5),none,.alloc 28 [(.slice .nil []),(.slice .nil []),(.int .i64 0),(.int .i64 0),(.int .i64 0),(.int .i64 0),(.int .i64 0),(.slice .nil []),(.int .i64 0),(.int .i64 0)]⟩,
 ⟨none,none,.store .any 10 (.t 5) (.t 9)⟩]) <|
 .seq (.ops [⟨(some 10),none,.fieldAddr 7 (.t 5)⟩,
 ⟨none,none,.store .any 1 (.t 10) (.c (.slice .nil []))⟩]) <|
 .seq (.seq (.ops [⟨(some 11),none,.fieldAddr 7 (.t 2)⟩,
 ⟨(some 12),none,.load .any false 1 (.t 11)⟩,
 ⟨(some 13),none,.lenL (.t 12)⟩,
 ⟨(some 14),none,.mv false (.c (.int .i64 0))⟩]) <|
 .block 0 <| .loop <|
 .seq (.ops [⟨(some 15),none,.bin .lss (.t 14) (.t 13)⟩]) <|
 .seq (.cond (.t 15)
 (.skip)
 (.exit 0)) <|
 .seq (.block 1 <| .seq (.ops [⟨(some 16),none,.indexAddr 3 (.t 12) (.t 14)⟩,
 ⟨(some 17),none,.load .any true 3 (.t 16)⟩,
 ⟨(some 7),none,.alloc 77 [(.slice .nil []),(.slice .nil []),(.bool false)]⟩,
 ⟨none,none,.store .any 3 (.t 7) (.t 17)⟩]) <|
 .seq (.seq (.ops [⟨(some 18),none,.mv false (.t 1)⟩,
 ⟨(some 19),none,.bin .eql (.t 18) (.c (.int .i64 0))⟩]) <|
 .cond (.t 19)
 (.exit 0)
 (.skip)) <|
 .seq (.ops [⟨(some 20),none,.mv false (.t 1)⟩,
 ⟨(some 21),none,.fieldAddr 0 (.t 7)⟩,
 ⟨(some 22),none,.load .any false 1 (.t 21)⟩,
 ⟨(some 23),none,.lenL (.t 22)⟩,
 ⟨(some 24),none,.min (.t 20) (.t 23)⟩,
 ⟨(some 8),none,.alloc 3 [(.int .i64 0)]⟩,
 ⟨none,none,.store .any 1 (.t 8) (.t 24)⟩]) <|
 .seq (.ops [⟨(some 25),none,.mv false (.t 1)⟩,
 ⟨(some 26),none,.load .any false 1 (.t 8)⟩,
 ⟨(some 27),none,.bin .sub (.t 25) (.t 26)⟩,
 ⟨(some 1),none,.mv true (.t 27)⟩]) <|
 .seq (.ops [⟨(some 28),none,.fieldAddr 0 (.t 7)⟩,
 ⟨(some 29),none,.load .any false 1 (.t 28)⟩,
 ⟨(some 30),none,.load .any false 1 (.t 8)⟩,
 ⟨(some 31),none,.sliceL 1 (.t 29) none (some (.t 30))⟩,
 ⟨(some 32),none,.fieldAddr 0 (.t 7)⟩,
 ⟨none,none,.store .any 1 (.t 32) (.t 31)⟩]) <|
 .seq (.ops [⟨(some 33),none,.fieldAddr 1 (.t 7)⟩,
 ⟨(some 34),none,.load .any false 1 (.t 33)⟩,
 ⟨(some 35),none,.call 108 [(.t 34)]⟩,
 ⟨(some 36),none,.mkf (.func 153) [] [(.t 8)]⟩,
 ⟨(some 37),none,.call 152 [(.t 35),(.t 36)]⟩,
 ⟨(some 38),none,.fieldAddr 1 (.t 7)⟩,
 ⟨none,none,.store .any 1 (.t 38) (.t 37)⟩]) <|
 .ops [⟨(some 39),none,.fieldAddr 7 (.t 5)⟩,
 ⟨(some 40),none,.loadT .any (.t 39)⟩,
 ⟨(some 41),none,.load .any true 3 (.t 7)⟩,
 ⟨(some 42),none,.buildSlice 26 77 3 [(.t 41)]⟩,
 ⟨(some 43),none,.append 26 77 3 56 (.t 40) (.t 42)⟩,
 ⟨(some 44),none,.fieldAddr 7 (.t 5)⟩,
 ⟨none,none,.store .any 1 (.t 44) (.t 43)⟩]) <|
 .ops [⟨(some 45),none,.bin .add (.t 14) (.c (.int .i64 1))⟩,
 ⟨(some 14),none,.mv false (.t 45)⟩]) <|
 .seq (.ops [⟨(some 46),none,.load .any true 10 (.t 5)⟩,
 ⟨none,none,.store .any 10 (.t 4) (.t 46)⟩]) <|
 .ret
noncomputable def c111:ACode := .seq (.ops [⟨(some 1),none,.box 77 3 (.t 0)⟩,
 ⟨(some 2),none,.mv true (.c (.slice .nil []))⟩]) <|
 .seq (.ops [⟨(some 5),none,.fieldAddr 0 (.t 1)⟩,
 ⟨(some 6),none,.load .any false 1 (.t 5)⟩,
 ⟨(some 7),none,.buildSlice 35 22 1 [(.t 6)]⟩,
 ⟨(some 3),none,.mv true (.t 7)⟩]) <|
 .seq (.seq (.ops [⟨(some 8),none,.fieldAddr 0 (.t 1)⟩,
 ⟨(some 9),none,.load .any false 1 (.t 8)⟩,
 ⟨(some 10),none,.lenL (.t 9)⟩,
 ⟨(some 11),none,.bin .eql (.t 10) (.c (.int .i64 1))⟩]) <|
 .cond (.t 11)
 (.seq (.ops [⟨(some 12),none,.mv false (.t 3)⟩,
 ⟨(some 2),none,.mv true (.t 12)⟩]) <|
 .ret)
 (.skip)) <|
 .seq (.seq (.ops [⟨(some 13),none,.fieldAddr 0 (.t 1)⟩,
 ⟨(some 14),none,.load .any false 1 (.t 13)⟩,
 ⟨(some 15),none,.lenL (.t 14)⟩,
 ⟨(some 16),none,.mv false (.c (.int .i64 0))⟩]) <|
 .block 0 <| .loop <|
 .seq (.ops [⟨(some 17),none,.bin .lss (.t 16) (.t 15)⟩]) <|
 .seq (.cond (.t 17)
 (.skip)
 (.exit 0)) <|
 .seq (.block 1 <| .seq (.ops [⟨(some 18),none,.mv false (.t 16)⟩,
 ⟨(some 4),none,.mv true (.t 18)⟩]) <|
 .ops [⟨(some 19),none,.mv true (.t 3)⟩,
 ⟨(some 20),none,.fieldAddr 0 (.t 1)⟩,
 ⟨(some 21),none,.load .any false 1 (.t 20)⟩,
 ⟨(some 22),none,.call 108 [(.t 21)]⟩,
 ⟨(some 23),none,.mv false (.t 4)⟩,
 ⟨(some 24),none,.mv false (.t 4)⟩,
 ⟨(some 25),none,.bin .add (.t 24) (.c (.int .i64 1))⟩,
 ⟨(some 26),none,.call 154 [(.t 22),(.t 23),(.t 25)]⟩,
 ⟨(some 27),none,.buildSlice 35 22 1 [(.t 26)]⟩,
 ⟨(some 28),none,.append 35 22 1 24 (.t 19) (.t 27)⟩,
 ⟨(some 3),none,.mv true (.t 28)⟩]) <|
 .ops [⟨(some 29),none,.bin .add (.t 16) (.c (.int .i64 1))⟩,
 ⟨(some 16),none,.mv false (.t 29)⟩]) <|
 .seq (.ops [⟨(some 30),none,.mv false (.t 3)⟩,
 ⟨(some 2),none,.mv true (.t 30)⟩]) <|
 .ret
noncomputable def c112:ACode:=(by refine ⟨?_,?_⟩;rotate_left;conv=>lhs;cbv:Ev 9 f112).1
noncomputable def c113:ACode:=(by refine ⟨?_,?_⟩;rotate_left;conv=>lhs;cbv:Ev 7 f113).1
noncomputable def c114:ACode:=(by refine ⟨?_,?_⟩;rotate_left;conv=>lhs;cbv:Ev 26 f114).1
noncomputable def c116:ACode:=(by refine ⟨?_,?_⟩;rotate_left;conv=>lhs;cbv:Ev 115 f116).1
noncomputable def c119:ACode := .seq (.ops [⟨(some 2),none,.alloc 28 [(.slice .nil []),(.slice .nil []),(.int .i64 0),(.int .i64 0),(.int .i64 0),(.int .i64 0),(.int .i64 0),(.slice .nil []),(.int .i64 0),(.int .i64 0)]⟩]) <|
 .seq (.ops [⟨(some 13),none,.mv false (.t 0)⟩,
 ⟨(some 14),none,.call 159 [(.t 13),(.c (.str [10]))]⟩,
 ⟨(some 3),none,.mv true (.t 14)⟩]) <|
 .seq (.ops [⟨(some 15),none,.mv false (.t 3)⟩,
 ⟨(some 16),none,.lenL (.t 15)⟩,
 ⟨(some 17),none,.bin .geq (.t 16) (.c (.int .i64 2))⟩,
 ⟨(some 18),none,.mv false (.t 0)⟩,
 ⟨(some 19),none,.call 160 [(.t 17),(.t 18)]⟩]) <|
 .seq (.ops [⟨(some 4),none,.alloc 28 [(.slice .nil []),(.slice .nil []),(.int .i64 0),(.int .i64 0),(.int .i64 0),(.int .i64 0),(.int .i64 0),(.slice .nil []),(.int .i64 0),(.int .i64 0)]⟩]) <|
 .seq (.ops [⟨(some 20),none,.call 161 []⟩,
 ⟨(some 5),none,.alloc 195 [(.str []),(.str []),(.str []),(.str []),(.str [])]⟩,
 ⟨none,none,.store .any 5 (.t 5) (.t 20)⟩]) <|
 .seq (.seq (.ops [⟨(some 21),none,.mv false (.t 3)⟩,
 ⟨(some 22),none,.mv false (.t 3)⟩,
 ⟨(some 23),none,.lenL (.t 22)⟩,
 ⟨(some 24),none,.bin .sub (.t 23) (.c (.int .i64 2))⟩,
 ⟨(some 25),none,.sliceL 1 (.t 21) none (some (.t 24))⟩,
 ⟨(some 26),none,.lenL (.t 25)⟩,
 ⟨(some 27),none,.mv false (.c (.int .i64 0))⟩]) <|
 .block 0 <| .loop <|
 .seq (.ops [⟨(some 28),none,.bin .lss (.t 27) (.t 26)⟩]) <|
 .seq (.cond (.t 28)
 (.skip)
 (.exit 0)) <|
 .seq (.block 1 <| .seq (.ops [⟨(some 29),none,.indexAddr 1 (.t 25) (.t 27)⟩,
 ⟨(some 30),none,.load .any false 1 (.t 29)⟩,
 ⟨(some 7),none,.mv true (.t 30)⟩]) <|
 .seq (.ops [⟨(some 31),none,.mv false (.t 7)⟩,
 ⟨(some 32),none,.call 159 [(.t 31),(.c (.str [32]))]⟩,
 ⟨(some 8),none,.mv true (.t 32)⟩]) <|
 .seq (.dops [⟨(some 33),none,.sliceR 5 (.t 5)⟩,
 ⟨(some 34),none,.mv false (.t 8)⟩,
 ⟨(some 35),none,.indexAddr 1 (.t 34) (.c (.int .i64 0))⟩,
 ⟨(some 36),none,.load .ref false 1 (.t 35)⟩,
 ⟨(some 37),none,.call 162 [(.t 33),(.t 36)]⟩,
 ⟨(some 9),none,.mv true (.t 37)⟩]) <|
 .block 2 <| .seq (.ops [⟨(some 41),none,.mv false (.t 9)⟩,
 ⟨(some 42),none,.bin .eql (.t 41) (.c (.int .i64 0))⟩,
 ⟨(some 43),none,.mv false (.t 42)⟩,
 ⟨(some 44),(some (43,true)),.mv false (.t 8)⟩,
 ⟨(some 45),(some (43,true)),.lenL (.t 44)⟩,
 ⟨(some 46),(some (43,true)),.bin .eql (.t 45) (.c (.int .i64 3))⟩,
 ⟨(some 47),none,.pick (.t 43) (.t 46) (.c (.bool false))⟩,
 ⟨(some 40),none,.mv true (.t 47)⟩]) <|
 .cond (.t 40)
 (.seq (.ops [⟨(some 48),none,.mv false (.t 8)⟩,
 ⟨(some 49),none,.sliceL 1 (.t 48) (some (.c (.int .i64 1))) none⟩,
 ⟨(some 50),none,.call 163 [(.t 49)]⟩,
 ⟨(some 10),none,.mv true (.t 50)⟩]) <|
 .dops [⟨(some 51),none,.mv false (.t 10)⟩,
 ⟨(some 52),none,.indexAddr 1 (.t 51) (.c (.int .i64 0))⟩,
 ⟨(some 53),none,.load .ref false 1 (.t 52)⟩,
 ⟨(some 54),none,.mv false (.t 10)⟩,
 ⟨(some 55),none,.indexAddr 1 (.t 54) (.c (.int .i64 1))⟩,
 ⟨(some 56),none,.load .ref false 1 (.t 55)⟩,
 ⟨(some 57),none,.fieldAddr 8 (.t 4)⟩,
 ⟨none,none,.store (.box 4) 1 (.t 57) (.t 53)⟩,
 ⟨(some 58),none,.fieldAddr 9 (.t 4)⟩,
 ⟨none,none,.store (.box 4) 1 (.t 58) (.t 56)⟩])
 (.seq (.ops [⟨(some 60),none,.mv false (.t 9)⟩,
 ⟨(some 61),none,.bin .eql (.t 60) (.c (.int .i64 1))⟩,
 ⟨(some 62),none,.mv false (.t 61)⟩,
 ⟨(some 63),(some (62,true)),.mv false (.t 8)⟩,
 ⟨(some 64),(some (62,true)),.lenL (.t 63)⟩,
 ⟨(some 65),(some (62,true)),.bin .eql (.t 64) (.c (.int .i64 6))⟩,
 ⟨(some 66),none,.pick (.t 62) (.t 65) (.c (.bool false))⟩,
 ⟨(some 59),none,.mv true (.t 66)⟩]) <|
 .cond (.t 59)
 (.seq (.ops [⟨(some 67),none,.mv false (.t 8)⟩,
 ⟨(some 68),none,.sliceL 1 (.t 67) (some (.c (.int .i64 1))) none⟩,
 ⟨(some 69),none,.call 163 [(.t 68)]⟩,
 ⟨(some 11),none,.mv true (.t 69)⟩]) <|
 .dops [⟨(some 70),none,.mv false (.t 11)⟩,
 ⟨(some 71),none,.indexAddr 1 (.t 70) (.c (.int .i64 0))⟩,
 ⟨(some 72),none,.load .ref false 1 (.t 71)⟩,
 ⟨(some 73),none,.mv false (.t 11)⟩,
 ⟨(some 74),none,.indexAddr 1 (.t 73) (.c (.int .i64 1))⟩,
 ⟨(some 75),none,.load .ref false 1 (.t 74)⟩,
 ⟨(some 76),none,.build [(.int .i64 0),(.int .i64 0)] [(0,1,(.t 72)),(1,1,(.t 75))]⟩,
 ⟨(some 77),none,.mv false (.t 11)⟩,
 ⟨(some 78),none,.indexAddr 1 (.t 77) (.c (.int .i64 2))⟩,
 ⟨(some 79),none,.load .ref false 1 (.t 78)⟩,
 ⟨(some 80),none,.mv false (.t 11)⟩,
 ⟨(some 81),none,.indexAddr 1 (.t 80) (.c (.int .i64 3))⟩,
 ⟨(some 82),none,.load .ref false 1 (.t 81)⟩,
 ⟨(some 83),none,.build [(.int .i64 0),(.int .i64 0)] [(0,1,(.t 79)),(1,1,(.t 82))]⟩,
 ⟨(some 84),none,.mv false (.t 11)⟩,
 ⟨(some 85),none,.indexAddr 1 (.t 84) (.c (.int .i64 4))⟩,
 ⟨(some 86),none,.load .ref false 1 (.t 85)⟩,
 ⟨(some 87),none,.fieldAddr 2 (.t 4)⟩,
 ⟨none,none,.store (.box 4) 2 (.t 87) (.t 76)⟩,
 ⟨(some 88),none,.fieldAddr 4 (.t 4)⟩,
 ⟨none,none,.store (.box 4) 2 (.t 88) (.t 83)⟩,
 ⟨(some 89),none,.fieldAddr 6 (.t 4)⟩,
 ⟨none,none,.store (.box 4) 1 (.t 89) (.t 86)⟩])
 (.seq (.ops [⟨(some 91),none,.mv false (.t 9)⟩,
 ⟨(some 92),none,.bin .eql (.t 91) (.c (.int .i64 2))⟩,
 ⟨(some 93),none,.mv false (.t 92)⟩,
 ⟨(some 94),(some (93,true)),.mv false (.t 8)⟩,
 ⟨(some 95),(some (93,true)),.lenL (.t 94)⟩,
 ⟨(some 96),(some (93,true)),.bin .eql (.t 95) (.c (.int .i64 2))⟩,
 ⟨(some 97),none,.pick (.t 93) (.t 96) (.c (.bool false))⟩,
 ⟨(some 90),none,.mv true (.t 97)⟩]) <|
 .cond (.t 90)
 (.dops [⟨(some 98),none,.fieldAddr 0 (.t 4)⟩,
 ⟨(some 99),none,.loadT (.box 4) (.t 98)⟩,
 ⟨(some 100),none,.mv false (.t 8)⟩,
 ⟨(some 101),none,.indexAddr 1 (.t 100) (.c (.int .i64 1))⟩,
 ⟨(some 102),none,.load .ref false 1 (.t 101)⟩,
 ⟨(some 103),none,.buildSlice 147 9 1 [(.t 102)]⟩,
 ⟨(some 104),none,.call 163 [(.t 103)]⟩,
 ⟨(some 105),none,.append 22 3 1 8 (.t 99) (.t 104)⟩,
 ⟨(some 106),none,.fieldAddr 0 (.t 4)⟩,
 ⟨none,none,.store (.box 4) 1 (.t 106) (.t 105)⟩])
 (.seq (.ops [⟨(some 108),none,.mv false (.t 9)⟩,
 ⟨(some 109),none,.bin .eql (.t 108) (.c (.int .i64 3))⟩,
 ⟨(some 110),none,.mv false (.t 109)⟩,
 ⟨(some 111),(some (110,true)),.mv false (.t 8)⟩,
 ⟨(some 112),(some (110,true)),.lenL (.t 111)⟩,
 ⟨(some 113),(some (110,true)),.bin .eql (.t 112) (.c (.int .i64 5))⟩,
 ⟨(some 114),none,.pick (.t 110) (.t 113) (.c (.bool false))⟩,
 ⟨(some 107),none,.mv true (.t 114)⟩]) <|
 .cond (.t 107)
 (.seq (.ops [⟨(some 115),none,.mv false (.t 8)⟩,
 ⟨(some 116),none,.sliceL 1 (.t 115) (some (.c (.int .i64 1))) none⟩,
 ⟨(some 117),none,.call 163 [(.t 116)]⟩,
 ⟨(some 12),none,.mv true (.t 117)⟩]) <|
 .dops [⟨(some 118),none,.fieldAddr 1 (.t 4)⟩,
 ⟨(some 119),none,.loadT (.box 4) (.t 118)⟩,
 ⟨(some 120),none,.mv false (.t 12)⟩,
 ⟨(some 121),none,.indexAddr 1 (.t 120) (.c (.int .i64 0))⟩,
 ⟨(some 122),none,.load .ref false 1 (.t 121)⟩,
 ⟨(some 123),none,.mv false (.t 12)⟩,
 ⟨(some 124),none,.indexAddr 1 (.t 123) (.c (.int .i64 1))⟩,
 ⟨(some 125),none,.load .ref false 1 (.t 124)⟩,
 ⟨(some 126),none,.mv false (.t 12)⟩,
 ⟨(some 127),none,.indexAddr 1 (.t 126) (.c (.int .i64 2))⟩,
 ⟨(some 128),none,.load .ref false 1 (.t 127)⟩,
 ⟨(some 129),none,.mv false (.t 12)⟩,
 ⟨(some 130),none,.indexAddr 1 (.t 129) (.c (.int .i64 3))⟩,
 ⟨(some 131),none,.load .ref false 1 (.t 130)⟩,
 ⟨(some 132),none,.build [(.int .i64 0),(.int .i64 0)] [(0,1,(.t 128)),(1,1,(.t 131))]⟩,
 ⟨(some 133),none,.build [(.int .i64 0),(.int .i64 0),(.int .i64 0),(.int .i64 0)] [(0,1,(.t 122)),(1,1,(.t 125)),(2,2,(.t 132))]⟩,
 ⟨(some 134),none,.buildSlice 23 119 4 [(.t 133)]⟩,
 ⟨(some 135),none,.append 23 119 4 32 (.t 119) (.t 134)⟩,
 ⟨(some 136),none,.fieldAddr 1 (.t 4)⟩,
 ⟨none,none,.store (.box 4) 1 (.t 136) (.t 135)⟩])
 (.seq (.ops [⟨(some 138),none,.mv false (.t 9)⟩,
 ⟨(some 139),none,.bin .eql (.t 138) (.c (.int .i64 4))⟩,
 ⟨(some 140),none,.mv false (.t 139)⟩,
 ⟨(some 141),(some (140,true)),.mv false (.t 8)⟩,
 ⟨(some 142),(some (140,true)),.lenL (.t 141)⟩,
 ⟨(some 143),(some (140,true)),.bin .eql (.t 142) (.c (.int .i64 4))⟩,
 ⟨(some 144),none,.pick (.t 140) (.t 143) (.c (.bool false))⟩,
 ⟨(some 137),none,.mv true (.t 144)⟩]) <|
 .cond (.t 137)
 (.dops [⟨(some 145),none,.fieldAddr 7 (.t 4)⟩,
 ⟨(some 146),none,.loadT (.box 4) (.t 145)⟩,
 ⟨(some 147),none,.mv false (.t 8)⟩,
 ⟨(some 148),none,.indexAddr 1 (.t 147) (.c (.int .i64 2))⟩,
 ⟨(some 149),none,.load .ref false 1 (.t 148)⟩,
 ⟨(some 150),none,.call 164 [(.t 149)]⟩,
 ⟨(some 151),none,.mv false (.t 8)⟩,
 ⟨(some 152),none,.indexAddr 1 (.t 151) (.c (.int .i64 3))⟩,
 ⟨(some 153),none,.load .ref false 1 (.t 152)⟩,
 ⟨(some 154),none,.call 164 [(.t 153)]⟩,
 ⟨(some 155),none,.mv false (.t 8)⟩,
 ⟨(some 156),none,.indexAddr 1 (.t 155) (.c (.int .i64 1))⟩,
 ⟨(some 157),none,.load .ref false 1 (.t 156)⟩,
 ⟨(some 158),none,.bin .eql (.t 157) (.c (.str [121,101,115]))⟩,
 ⟨(some 159),none,.build [(.slice .nil []),(.slice .nil []),(.bool false)] [(0,1,(.t 150)),(1,1,(.t 154)),(2,1,(.t 158))]⟩,
 ⟨(some 160),none,.buildSlice 26 77 3 [(.t 159)]⟩,
 ⟨(some 161),none,.append 26 77 3 56 (.t 146) (.t 160)⟩,
 ⟨(some 162),none,.fieldAddr 7 (.t 4)⟩,
 ⟨none,none,.store (.box 4) 1 (.t 162) (.t 161)⟩])
 (.ops [⟨(some 38),none,.mv false (.t 7)⟩,
 ⟨(some 39),none,.call 160 [(.c (.bool false)),(.t 38)]⟩])))))) <|
 .ops [⟨(some 163),none,.bin .add (.t 27) (.c (.int .i64 1))⟩,
 ⟨(some 27),none,.mv false (.t 163)⟩]) <|
 .seq (.ops [⟨(some 164),none,.load .any true 10 (.t 4)⟩,
 ⟨(some 165),none,.call 116 [(.t 164)]⟩,
 ⟨(some 166),none,.mv false (.t 0)⟩,
 ⟨(some 167),none,.bin .eql (.t 165) (.t 166)⟩,
 ⟨(some 168),none,.mv false (.t 0)⟩,
 ⟨(some 169),none,.call 160 [(.t 167),(.t 168)]⟩]) <|
 .seq (.ops [⟨(some 170),none,.load .any true 10 (.t 4)⟩,
 ⟨none,none,.store .any 10 (.t 2) (.t 170)⟩]) <|
 .ret
noncomputable def c120:ACode:=(by refine ⟨?_,?_⟩;rotate_left;conv=>lhs;cbv:Ev 21 f120).1
noncomputable def c121:ACode:=(by refine ⟨?_,?_⟩;rotate_left;conv=>lhs;cbv:Ev 26 f121).1
noncomputable def c122:ACode:=(by refine ⟨?_,?_⟩;rotate_left;conv=>lhs;cbv:Ev 65 f122).1
noncomputable def c126:ACode:=(by refine ⟨?_,?_⟩;rotate_left;conv=>lhs;cbv:Ev 8 f126).1
noncomputable def c127:ACode:=(by refine ⟨?_,?_⟩;rotate_left;conv=>lhs;cbv:Ev 45 f127).1
noncomputable def c128:ACode := .seq (.ops [⟨(some 6),none,.mv true (.c (.bool false))⟩]) <|
 .seq (.ops [⟨(some 7),none,.mv false (.t 0)⟩,
 ⟨(some 8),none,.mv false (.t 1)⟩,
 ⟨(some 9),none,.bin .geq (.t 7) (.t 8)⟩,
 ⟨(some 10),none,.mv false (.t 9)⟩,
 ⟨(some 11),(some (10,true)),.mv false (.t 0)⟩,
 ⟨(some 12),(some (10,true)),.mv false (.t 2)⟩,
 ⟨(some 13),(some (10,true)),.bin .leq (.t 11) (.t 12)⟩,
 ⟨(some 14),none,.pick (.t 10) (.t 13) (.c (.bool false))⟩,
 ⟨(some 6),none,.mv true (.t 14)⟩]) <|
 .ret
noncomputable def c129:ACode := .seq (.ops [⟨(some 4),none,.mv true (.c (.bool false))⟩]) <|
 .seq (.ops [⟨(some 5),none,.mv false (.t 0)⟩,
 ⟨(some 6),none,.mv false (.t 1)⟩,
 ⟨(some 7),none,.call 168 [(.t 5),(.t 6)]⟩,
 ⟨(some 8),none,.bin .geq (.t 7) (.c (.int .i64 0))⟩,
 ⟨(some 4),none,.mv true (.t 8)⟩]) <|
 .ret
noncomputable def c130:ACode := .seq (.ops [⟨(some 2),none,.box 25 2 (.t 0)⟩,
 ⟨(some 4),none,.mv true (.c (.int .i64 0))⟩]) <|
 .seq (.ops [⟨(some 5),none,.fieldAddr 0 (.t 2)⟩,
 ⟨(some 6),none,.load .any false 1 (.t 5)⟩,
 ⟨(some 7),none,.fieldAddr 1 (.t 2)⟩,
 ⟨(some 8),none,.load .any false 1 (.t 7)⟩,
 ⟨(some 9),none,.fieldAddr 0 (.t 2)⟩,
 ⟨(some 10),none,.load .any false 1 (.t 9)⟩,
 ⟨(some 11),none,.bin .sub (.t 8) (.t 10)⟩,
 ⟨(some 12),none,.mv false (.t 1)⟩,
 ⟨(some 13),none,.bin .mul (.t 11) (.t 12)⟩,
 ⟨(some 14),none,.bin .quo (.t 13) (.c (.int .i64 10))⟩,
 ⟨(some 15),none,.bin .add (.t 6) (.t 14)⟩,
 ⟨(some 4),none,.mv true (.t 15)⟩]) <|
 .ret
end Go.Proofs.Tryz
namespace Go.Proofs.Tryz
open Go.AL
set_option maxRecDepth 100000
set_option maxHeartbeats 4000000
noncomputable def c131:ACode:=(by refine ⟨?_,?_⟩;rotate_left;conv=>lhs;cbv:Ev 39 f131).1
noncomputable def c132:ACode:=(by refine ⟨?_,?_⟩;rotate_left;conv=>lhs;cbv:Ev 46 f132).1
noncomputable def c133:ACode:=(by refine ⟨?_,?_⟩;rotate_left;conv=>lhs;cbv:Ev 26 f133).1
noncomputable def c134:ACode := .seq (.ops [⟨(some 2),none,.box 28 10 (.t 0)⟩,
 ⟨(some 4),none,.mv true (.c (.bool false))⟩]) <|
 .seq (.ops [⟨(some 5),none,.mv false (.t 1)⟩,
 ⟨(some 6),none,.fieldAddr 0 (.t 2)⟩,
 ⟨(some 7),none,.load .any false 1 (.t 6)⟩,
 ⟨(some 8),none,.lenL (.t 7)⟩,
 ⟨(some 9),none,.bin .sub (.t 8) (.c (.int .i64 1))⟩,
 ⟨(some 10),none,.call 72 [(.t 5),(.c (.int .i64 0)),(.t 9)]⟩,
 ⟨(some 4),none,.mv true (.t 10)⟩]) <|
 .ret
noncomputable def c136:ACode:=(by refine ⟨?_,?_⟩;rotate_left;conv=>lhs;cbv:Ev 26 f136).1
noncomputable def c137:ACode:=(by refine ⟨?_,?_⟩;rotate_left;conv=>lhs;cbv:Ev 24 f137).1
noncomputable def c138:ACode := .seq (.ops [⟨(some 2),none,.mv true (.c (.bool false))⟩]) <|
 .seq (.ops [⟨(some 3),none,.mv false (.t 0)⟩,
 ⟨(some 4),none,.call 128 [(.t 3),(.c (.int .i64 1)),(.c (.int .i64 20))]⟩,
 ⟨(some 5),none,.not (.t 4)⟩,
 ⟨(some 2),none,.mv true (.t 5)⟩]) <|
 .ret
noncomputable def c139:ACode := .seq (.ops [⟨(some 4),none,.mv true (.c (.bool false))⟩]) <|
 .seq (.ops [⟨(some 5),none,.mv false (.t 0)⟩,
 ⟨(some 6),none,.mv false (.t 1)⟩,
 ⟨(some 7),none,.call 170 [(.t 5),(.t 6)]⟩,
 ⟨(some 8),none,.bin .geq (.t 7) (.c (.int .i64 0))⟩,
 ⟨(some 4),none,.mv true (.t 8)⟩]) <|
 .ret
noncomputable def c140:ACode := .seq (.ops [⟨(some 3),none,.box 25 2 (.t 0)⟩,
 ⟨(some 6),none,.mv true (.c (.bool false))⟩]) <|
 .seq (.ops [⟨(some 7),none,.fieldAddr 0 (.t 3)⟩,
 ⟨(some 8),none,.load .any false 1 (.t 7)⟩,
 ⟨(some 9),none,.mv false (.t 1)⟩,
 ⟨(some 10),none,.mv false (.t 2)⟩,
 ⟨(some 11),none,.call 128 [(.t 8),(.t 9),(.t 10)]⟩,
 ⟨(some 12),none,.mv false (.t 11)⟩,
 ⟨(some 13),(some (12,true)),.fieldAddr 1 (.t 3)⟩,
 ⟨(some 14),(some (12,true)),.load .any false 1 (.t 13)⟩,
 ⟨(some 15),(some (12,true)),.fieldAddr 0 (.t 3)⟩,
 ⟨(some 16),(some (12,true)),.load .any false 1 (.t 15)⟩,
 ⟨(some 17),(some (12,true)),.mv false (.t 2)⟩,
 ⟨(some 18),(some (12,true)),.call 128 [(.t 14),(.t 16),(.t 17)]⟩,
 ⟨(some 19),none,.pick (.t 12) (.t 18) (.c (.bool false))⟩,
 ⟨(some 6),none,.mv true (.t 19)⟩]) <|
 .ret
noncomputable def c141:ACode := .seq (.ops [⟨(some 4),none,.mv true (.c (.bool false))⟩]) <|
 .seq (.ops [⟨(some 5),none,.mv false (.t 0)⟩,
 ⟨(some 6),none,.mv false (.t 1)⟩,
 ⟨(some 7),none,.call 171 [(.t 5),(.t 6)]⟩,
 ⟨(some 8),none,.bin .geq (.t 7) (.c (.int .i64 0))⟩,
 ⟨(some 4),none,.mv true (.t 8)⟩]) <|
 .ret
noncomputable def c142:ACode := .seq (.ops [⟨(some 2),none,.box 77 3 (.t 0)⟩,
 ⟨(some 3),none,.mv true (.c (.bool false))⟩]) <|
 .seq (.ops [⟨(some 4),none,.load .any true 10 (.t 1)⟩,
 ⟨(some 5),none,.load .any true 3 (.t 2)⟩,
 ⟨(some 6),none,.call 143 [(.t 4),(.t 5)]⟩,
 ⟨(some 7),none,.not (.t 6)⟩,
 ⟨(some 3),none,.mv true (.t 7)⟩]) <|
 .ret
noncomputable def c143:ACode:=(by refine ⟨?_,?_⟩;rotate_left;conv=>lhs;cbv:Ev 27 f143).1
noncomputable def c144:ACode := .seq (.ops [⟨(some 3),none,.box 49 1 (.t 0)⟩]) <|
 .seq (.ops [⟨(some 7),none,.fieldAddr 0 (.t 1)⟩,
 ⟨(some 8),none,.load .any true 10 (.t 7)⟩,
 ⟨(some 9),none,.load .any false 1 (.t 2)⟩,
 ⟨(some 10),none,.call 145 [(.t 8),(.t 9)]⟩,
 ⟨(some 4),none,.alloc 29 [(.slice .nil [])]⟩,
 ⟨none,none,.store .any 1 (.t 4) (.t 10)⟩]) <|
 .seq (.ops [⟨(some 5),none,.alloc 29 [(.slice .nil [])]⟩]) <|
 .seq (.ops [⟨(some 6),none,.alloc 33 [(.val .nilFunc)]⟩]) <|
 .seq (.ops [⟨(some 11),none,.mkf (.func 146) [] [(.t 4),(.t 3),(.t 2),(.t 5),(.t 1),(.t 6)]⟩,
 ⟨none,none,.store .any 1 (.t 6) (.t 11)⟩]) <|
 .ops [⟨(some 12),none,.load .any false 1 (.t 6)⟩,
 ⟨(some 13),none,.callv (.t 12) [(.c (.int .i64 0))]⟩]
noncomputable def c145:ACode := .seq (.ops [⟨(some 2),none,.box 28 10 (.t 0)⟩,
 ⟨(some 4),none,.mv true (.c (.slice .nil []))⟩]) <|
 .seq (.ops [⟨(some 5),none,.mv true (.c (.slice .nil []))⟩]) <|
 .seq (.seq (.ops [⟨(some 9),none,.fieldAddr 7 (.t 2)⟩,
 ⟨(some 10),none,.load .any false 1 (.t 9)⟩,
 ⟨(some 11),none,.lenL (.t 10)⟩,
 ⟨(some 12),none,.mv false (.c (.int .i64 0))⟩]) <|
 .block 0 <| .loop <|
 .seq (.ops [⟨(some 13),none,.bin .lss (.t 12) (.t 11)⟩]) <|
 .seq (.cond (.t 13)
 (.skip)
 (.exit 0)) <|
 .seq (.block 1 <| .seq (.ops [⟨(some 14),none,.mv false (.t 12)⟩,
 ⟨(some 6),none,.mv true (.t 14)⟩]) <|
 .seq (.seq (.ops [⟨(some 15),none,.mv false (.t 1)⟩,
 ⟨(some 16),none,.mv false (.t 6)⟩,
 ⟨(some 17),none,.call 129 [(.t 15),(.t 16)]⟩]) <|
 .cond (.t 17)
 (.exit 1)
 (.skip)) <|
 .seq (.seq (.ops [⟨(some 18),none,.fieldAddr 7 (.t 2)⟩,
 ⟨(some 19),none,.load .any false 1 (.t 18)⟩,
 ⟨(some 20),none,.mv false (.t 6)⟩,
 ⟨(some 21),none,.indexAddr 3 (.t 19) (.t 20)⟩,
 ⟨(some 22),none,.fieldAddr 1 (.t 21)⟩,
 ⟨(some 23),none,.load .any false 1 (.t 22)⟩,
 ⟨(some 24),none,.lenL (.t 23)⟩,
 ⟨(some 25),none,.mv false (.c (.int .i64 0))⟩]) <|
 .block 2 <| .loop <|
 .seq (.ops [⟨(some 26),none,.bin .lss (.t 25) (.t 24)⟩]) <|
 .seq (.cond (.t 26)
 (.skip)
 (.exit 2)) <|
 .seq (.block 3 <| .seq (.ops [⟨(some 27),none,.indexAddr 1 (.t 23) (.t 25)⟩,
 ⟨(some 28),none,.load .any false 1 (.t 27)⟩,
 ⟨(some 8),none,.mv true (.t 28)⟩]) <|
 .ops [⟨(some 29),none,.mv true (.t 5)⟩,
 ⟨(some 30),none,.mv false (.t 6)⟩,
 ⟨(some 31),none,.mv false (.t 8)⟩,
 ⟨(some 32),none,.build [(.int .i64 0),(.int .i64 0)] [(0,1,(.t 30)),(1,1,(.t 31))]⟩,
 ⟨(some 33),none,.buildSlice 29 116 2 [(.t 32)]⟩,
 ⟨(some 34),none,.append 29 116 2 16 (.t 29) (.t 33)⟩,
 ⟨(some 5),none,.mv true (.t 34)⟩]) <|
 .ops [⟨(some 35),none,.bin .add (.t 25) (.c (.int .i64 1))⟩,
 ⟨(some 25),none,.mv false (.t 35)⟩]) <|
 .ops [⟨(some 36),none,.mv true (.t 5)⟩,
 ⟨(some 37),none,.mv false (.t 6)⟩,
 ⟨(some 38),none,.fieldAddr 7 (.t 2)⟩,
 ⟨(some 39),none,.load .any false 1 (.t 38)⟩,
 ⟨(some 40),none,.mv false (.t 6)⟩,
 ⟨(some 41),none,.indexAddr 3 (.t 39) (.t 40)⟩,
 ⟨(some 42),none,.fieldAddr 0 (.t 41)⟩,
 ⟨(some 43),none,.load .any false 1 (.t 42)⟩,
 ⟨(some 44),none,.lenL (.t 43)⟩,
 ⟨(some 45),none,.build [(.int .i64 0),(.int .i64 0)] [(0,1,(.t 37)),(1,1,(.t 44))]⟩,
 ⟨(some 46),none,.buildSlice 29 116 2 [(.t 45)]⟩,
 ⟨(some 47),none,.append 29 116 2 16 (.t 36) (.t 46)⟩,
 ⟨(some 5),none,.mv true (.t 47)⟩]) <|
 .ops [⟨(some 48),none,.bin .add (.t 12) (.c (.int .i64 1))⟩,
 ⟨(some 12),none,.mv false (.t 48)⟩]) <|
 .seq (.ops [⟨(some 49),none,.mv false (.t 5)⟩,
 ⟨(some 4),none,.mv true (.t 49)⟩]) <|
 .ret
noncomputable def c146:ACode := .seq (.ops [⟨(some 8),none,.mv true (.c (.bool false))⟩]) <|
 .seq (.seq (.ops [⟨(some 10),none,.mv false (.t 0)⟩,
 ⟨(some 11),none,.load .any false 1 (.t 1)⟩,
 ⟨(some 12),none,.lenL (.t 11)⟩,
 ⟨(some 13),none,.bin .eql (.t 10) (.t 12)⟩]) <|
 .cond (.t 13)
 (.seq (.dops [⟨(some 14),none,.load (.box 2) false 1 (.t 2)⟩,
 ⟨(some 15),none,.load (.box 3) false 1 (.t 3)⟩,
 ⟨(some 16),none,.call 108 [(.t 15)]⟩,
 ⟨(some 17),none,.load (.box 4) false 1 (.t 4)⟩,
 ⟨(some 18),none,.call 147 [(.t 17)]⟩,
 ⟨(some 19),none,.build [(.slice .nil []),(.slice .nil [])] [(0,1,(.t 16)),(1,1,(.t 18))]⟩,
 ⟨(some 20),none,.callv (.t 14) [(.t 19)]⟩,
 ⟨(some 8),none,.mv true (.t 20)⟩]) <|
 .ret)
 (.skip)) <|
 .seq (.seq (.ops [⟨(some 21),none,.mv false (.t 0)⟩,
 ⟨(some 9),none,.mv true (.t 21)⟩]) <|
 .block 0 <| .loop <|
 .seq (.seq (.ops [⟨(some 22),none,.mv false (.t 9)⟩,
 ⟨(some 23),none,.load .any false 1 (.t 1)⟩,
 ⟨(some 24),none,.lenL (.t 23)⟩,
 ⟨(some 25),none,.bin .lss (.t 22) (.t 24)⟩,
 ⟨(some 26),none,.mv false (.t 25)⟩,
 ⟨(some 27),(some (26,true)),.load .any false 1 (.t 4)⟩,
 ⟨(some 28),(some (26,true)),.lenL (.t 27)⟩,
 ⟨(some 29),(some (26,true)),.fieldAddr 0 (.t 5)⟩,
 ⟨(some 30),(some (26,true)),.fieldAddr 9 (.t 29)⟩,
 ⟨(some 31),(some (26,true)),.load .any false 1 (.t 30)⟩,
 ⟨(some 32),(some (26,true)),.bin .lss (.t 28) (.t 31)⟩,
 ⟨(some 33),none,.pick (.t 26) (.t 32) (.c (.bool false))⟩]) <|
 .cond (.t 33)
 (.skip)
 (.exit 0)) <|
 .seq (.block 1 <| .seq (.dops [⟨(some 36),none,.loadT (.box 4) (.t 4)⟩,
 ⟨(some 37),none,.load (.box 1) false 1 (.t 1)⟩,
 ⟨(some 38),none,.mv false (.t 9)⟩,
 ⟨(some 39),none,.indexAddr 2 (.t 37) (.t 38)⟩,
 ⟨(some 40),none,.load .ref true 2 (.t 39)⟩,
 ⟨(some 41),none,.buildSlice 29 116 2 [(.t 40)]⟩,
 ⟨(some 42),none,.append 29 116 2 16 (.t 36) (.t 41)⟩,
 ⟨none,none,.store (.box 4) 1 (.t 4) (.t 42)⟩]) <|
 .seq (.seq (.ops [⟨(some 43),none,.load .any false 1 (.t 6)⟩,
 ⟨(some 44),none,.mv false (.t 9)⟩,
 ⟨(some 45),none,.bin .add (.t 44) (.c (.int .i64 1))⟩,
 ⟨(some 46),none,.callv (.t 43) [(.t 45)]⟩,
 ⟨(some 47),none,.not (.t 46)⟩]) <|
 .cond (.t 47)
 (.seq (.ops [⟨(some 8),none,.mv true (.c (.bool false))⟩]) <|
 .ret)
 (.skip)) <|
 .ops [⟨(some 48),none,.load .any false 1 (.t 4)⟩,
 ⟨(some 49),none,.load .any false 1 (.t 4)⟩,
 ⟨(some 50),none,.lenL (.t 49)⟩,
 ⟨(some 51),none,.bin .sub (.t 50) (.c (.int .i64 1))⟩,
 ⟨(some 52),none,.sliceL 2 (.t 48) none (some (.t 51))⟩,
 ⟨none,none,.store .any 1 (.t 4) (.t 52)⟩]) <|
 .ops [⟨(some 34),none,.mv false (.t 9)⟩,
 ⟨(some 35),none,.bin .add (.t 34) (.c (.int .i64 1))⟩,
 ⟨(some 9),none,.mv true (.t 35)⟩]) <|
 .seq (.ops [⟨(some 8),none,.mv true (.c (.bool true))⟩]) <|
 .ret
noncomputable def c147:ACode := .seq (.ops [⟨(some 2),none,.mv true (.c (.slice .nil []))⟩]) <|
 .seq (.seq (.ops [⟨(some 3),none,.mv false (.t 0)⟩,
 ⟨(some 4),none,.isNil false (.t 3)⟩]) <|
 .cond (.t 4)
 (.seq (.ops [⟨(some 2),none,.mv true (.c (.slice .nil []))⟩]) <|
 .ret)
 (.skip)) <|
 .seq (.ops [⟨(some 5),none,.empty 116⟩,
 ⟨(some 6),none,.mv false (.t 0)⟩,
 ⟨(some 7),none,.append 29 116 2 16 (.t 5) (.t 6)⟩,
 ⟨(some 2),none,.mv true (.t 7)⟩]) <|
 .ret
noncomputable def c150:ACode := .seq (.ops [⟨(some 6),none,.mv true (.c (.bool false))⟩]) <|
 .seq (.seq (.ops [⟨(some 9),none,.mv false (.t 0)⟩,
 ⟨(some 10),none,.lenL (.t 9)⟩,
 ⟨(some 11),none,.mv false (.c (.int .i64 0))⟩]) <|
 .block 0 <| .loop <|
 .seq (.ops [⟨(some 12),none,.bin .lss (.t 11) (.t 10)⟩]) <|
 .seq (.cond (.t 12)
 (.skip)
 (.exit 0)) <|
 .seq (.block 1 <| .seq (.ops [⟨(some 13),none,.mv false (.t 11)⟩,
 ⟨(some 14),none,.indexAddr 1 (.t 9) (.t 11)⟩,
 ⟨(some 15),none,.load .any false 1 (.t 14)⟩,
 ⟨(some 7),none,.mv true (.t 13)⟩,
 ⟨(some 8),none,.mv true (.t 15)⟩]) <|
 .seq (.ops [⟨(some 16),none,.mv false (.t 8)⟩,
 ⟨(some 17),none,.mv false (.t 1)⟩,
 ⟨(some 18),none,.mv false (.t 2)⟩,
 ⟨(some 19),none,.call 128 [(.t 16),(.t 17),(.t 18)]⟩,
 ⟨(some 20),none,.not (.t 19)⟩,
 ⟨(some 21),none,.mv false (.t 20)⟩,
 ⟨(some 22),(some (21,false)),.mv false (.t 7)⟩,
 ⟨(some 23),(some (21,false)),.bin .gtr (.t 22) (.c (.int .i64 0))⟩,
 ⟨(some 24),(some (21,false)),.mv false (.t 23)⟩,
 ⟨(some 25),(some (24,true)),.mv false (.t 8)⟩,
 ⟨(some 26),(some (24,true)),.mv false (.t 0)⟩,
 ⟨(some 27),(some (24,true)),.mv false (.t 7)⟩,
 ⟨(some 28),(some (24,true)),.bin .sub (.t 27) (.c (.int .i64 1))⟩,
 ⟨(some 29),(some (24,true)),.indexAddr 1 (.t 26) (.t 28)⟩,
 ⟨(some 30),(some (24,true)),.load .any false 1 (.t 29)⟩,
 ⟨(some 31),(some (24,true)),.bin .leq (.t 25) (.t 30)⟩,
 ⟨(some 32),(some (21,false)),.pick (.t 24) (.t 31) (.c (.bool false))⟩,
 ⟨(some 33),none,.pick (.t 21) (.c (.bool true)) (.t 32)⟩]) <|
 .cond (.t 33)
 (.seq (.ops [⟨(some 6),none,.mv true (.c (.bool false))⟩]) <|
 .ret)
 (.skip)) <|
 .ops [⟨(some 34),none,.bin .add (.t 11) (.c (.int .i64 1))⟩,
 ⟨(some 11),none,.mv false (.t 34)⟩]) <|
 .seq (.ops [⟨(some 6),none,.mv true (.c (.bool true))⟩]) <|
 .ret
noncomputable def c151:ACode:=(by refine ⟨?_,?_⟩;rotate_left;conv=>lhs;cbv:Ev 11 f151).1
noncomputable def c152:ACode := .seq (.ops [⟨(some 4),none,.mv true (.c (.slice .nil []))⟩]) <|
 .seq (.ops [⟨(some 8),none,.mv false (.t 0)⟩,
 ⟨(some 9),none,.mv false (.t 1)⟩,
 ⟨(some 10),none,.call 170 [(.t 8),(.t 9)]⟩,
 ⟨(some 5),none,.mv true (.t 10)⟩]) <|
 .seq (.seq (.ops [⟨(some 11),none,.mv false (.t 5)⟩,
 ⟨(some 12),none,.bin .eql (.t 11) (.c (.int .i64 (-1)))⟩]) <|
 .cond (.t 12)
 (.seq (.ops [⟨(some 13),none,.mv false (.t 0)⟩,
 ⟨(some 4),none,.mv true (.t 13)⟩]) <|
 .ret)
 (.skip)) <|
 .seq (.seq (.ops [⟨(some 14),none,.mv false (.t 5)⟩,
 ⟨(some 15),none,.bin .add (.t 14) (.c (.int .i64 1))⟩,
 ⟨(some 6),none,.mv true (.t 15)⟩]) <|
 .block 0 <| .loop <|
 .seq (.seq (.ops [⟨(some 16),none,.mv false (.t 6)⟩,
 ⟨(some 17),none,.mv false (.t 0)⟩,
 ⟨(some 18),none,.lenL (.t 17)⟩,
 ⟨(some 19),none,.bin .lss (.t 16) (.t 18)⟩]) <|
 .cond (.t 19)
 (.skip)
 (.exit 0)) <|
 .seq (.block 1 <| .seq (.ops [⟨(some 22),none,.mv false (.t 0)⟩,
 ⟨(some 23),none,.mv false (.t 6)⟩,
 ⟨(some 24),none,.indexAddr 1 (.t 22) (.t 23)⟩,
 ⟨(some 25),none,.load .any false 1 (.t 24)⟩,
 ⟨(some 7),none,.mv true (.t 25)⟩]) <|
 .seq (.ops [⟨(some 26),none,.mv false (.t 1)⟩,
 ⟨(some 27),none,.mv false (.t 7)⟩,
 ⟨(some 28),none,.callv (.t 26) [(.t 27)]⟩,
 ⟨(some 29),none,.not (.t 28)⟩]) <|
 .cond (.t 29)
 (.seq (.ops [⟨(some 30),none,.mv false (.t 0)⟩,
 ⟨(some 31),none,.mv false (.t 5)⟩,
 ⟨(some 32),none,.mv false (.t 7)⟩,
 ⟨(some 33),none,.indexAddr 1 (.t 30) (.t 31)⟩,
 ⟨none,none,.store .any 1 (.t 33) (.t 32)⟩]) <|
 .ops [⟨(some 34),none,.mv false (.t 5)⟩,
 ⟨(some 35),none,.bin .add (.t 34) (.c (.int .i64 1))⟩,
 ⟨(some 5),none,.mv true (.t 35)⟩])
 (.skip)) <|
 .ops [⟨(some 20),none,.mv false (.t 6)⟩,
 ⟨(some 21),none,.bin .add (.t 20) (.c (.int .i64 1))⟩,
 ⟨(some 6),none,.mv true (.t 21)⟩]) <|
 .seq (.ops [⟨(some 36),none,.mv false (.t 0)⟩,
 ⟨(some 37),none,.mv false (.t 5)⟩,
 ⟨(some 38),none,.sliceL 1 (.t 36) (some (.t 37)) none⟩,
 ⟨none,none,.other⟩]) <|
 .seq (.ops [⟨(some 39),none,.mv false (.t 0)⟩,
 ⟨(some 40),none,.mv false (.t 5)⟩,
 ⟨(some 41),none,.sliceL 1 (.t 39) none (some (.t 40))⟩,
 ⟨(some 4),none,.mv true (.t 41)⟩]) <|
 .ret
noncomputable def c153:ACode:=(by refine ⟨?_,?_⟩;rotate_left;conv=>lhs;cbv:Ev 7 f153).1
noncomputable def c155:ACode:=(by refine ⟨?_,?_⟩;rotate_left;conv=>lhs;cbv:Ev 19 f155).1
noncomputable def c156:ACode := .seq (.ops [⟨(some 2),none,.mv true (.c (.str []))⟩]) <|
 .seq (.ops [⟨(some 3),none,.mv true (.c (.int .i64 0))⟩]) <|
 .seq (.seq (.ops [⟨(some 4),none,.mv false (.t 0)⟩]) <|
 .block 0 <| .seq (.ops [⟨(some 5),none,.assert 179 (.agg [(.slice .nil []),(.slice .nil []),(.int .i64 0),(.int .i64 0),(.int .i64 0),(.int .i64 0),(.int .i64 0),(.slice .nil []),(.int .i64 0),(.int .i64 0)]) (.t 4)⟩,
 ⟨(some 6),none,.extract (.t 5) 1⟩,
 ⟨(some 7),none,.extract (.t 5) 0⟩]) <|
 .cond (.t 6)
 (.ops [⟨(some 3),none,.mv true (.c (.int .i64 1))⟩])
 (.seq (.ops [⟨(some 8),none,.assert 182 (.agg [(.int .i64 0)]) (.t 4)⟩,
 ⟨(some 9),none,.extract (.t 8) 1⟩,
 ⟨(some 10),none,.extract (.t 8) 0⟩]) <|
 .cond (.t 9)
 (.ops [⟨(some 3),none,.mv true (.c (.int .i64 2))⟩])
 (.seq (.ops [⟨(some 11),none,.assert 184 (.agg [(.int .i64 0),(.int .i64 0),(.int .i64 0),(.int .i64 0)]) (.t 4)⟩,
 ⟨(some 12),none,.extract (.t 11) 1⟩,
 ⟨(some 13),none,.extract (.t 11) 0⟩]) <|
 .cond (.t 12)
 (.ops [⟨(some 3),none,.mv true (.c (.int .i64 3))⟩])
 (.seq (.ops [⟨(some 14),none,.assert 186 (.agg [(.slice .nil []),(.slice .nil []),(.bool false)]) (.t 4)⟩,
 ⟨(some 15),none,.extract (.t 14) 1⟩,
 ⟨(some 16),none,.extract (.t 14) 0⟩]) <|
 .cond (.t 15)
 (.ops [⟨(some 3),none,.mv true (.c (.int .i64 4))⟩])
 (.skip))))) <|
 .seq (.dops [⟨(some 17),none,.call 161 []⟩,
 ⟨(some 18),none,.mv false (.t 3)⟩,
 ⟨(some 19),none,.indexA false 5 1 (.t 17) (.t 18)⟩,
 ⟨(some 20),none,.buildSlice 147 9 1 [(.t 19)]⟩,
 ⟨(some 21),none,.mv false (.t 0)⟩,
 ⟨(some 22),none,.callv (.m 21 [(178,225),(179,227),(182,228),(184,229),(186,230)]) []⟩,
 ⟨(some 23),none,.append 147 9 1 16 (.t 20) (.t 22)⟩,
 ⟨(some 24),none,.call 173 [(.t 23),(.c (.str [32]))]⟩,
 ⟨(some 2),none,.mv true (.t 24)⟩]) <|
 .ret
noncomputable def c158:ACode := .seq (.ops [⟨(some 5),none,.other⟩]) <|
 .block 0 <| .seq (.ops [⟨(some 7),none,.other⟩]) <|
 .cond (.t 7)
 (.ops [⟨(some 1),none,.mv true (.t 5)⟩])
 (.seq (.ops [⟨(some 8),none,.assert 161 (.agg [(.int .i64 0)]) (.t 5)⟩,
 ⟨(some 9),none,.extract (.t 8) 1⟩,
 ⟨(some 10),none,.extract (.t 8) 0⟩]) <|
 .cond (.t 9)
 (.seq (.ops [⟨(some 2),none,.alloc 161 [(.int .i64 0)]⟩,
 ⟨none,none,.store .any 1 (.t 2) (.t 10)⟩]) <|
 .ops [⟨none,none,.store .any 1 (.t 0) (.c (.int .i64 5))⟩])
 (.seq (.ops [⟨(some 11),none,.assert 192 (.agg [(.str [])]) (.t 5)⟩,
 ⟨(some 12),none,.extract (.t 11) 1⟩,
 ⟨(some 13),none,.extract (.t 11) 0⟩]) <|
 .cond (.t 12)
 (.seq (.ops [⟨(some 3),none,.alloc 192 [(.str [])]⟩,
 ⟨none,none,.store .any 1 (.t 3) (.t 13)⟩]) <|
 .ops [⟨none,none,.store .any 1 (.t 0) (.c (.int .i64 4))⟩])
 (.seq (.ops [⟨(some 4),none,.mv true (.t 5)⟩]) <|
 .ops [⟨(some 6),none,.mv false (.t 4)⟩,
 ⟨none,none,.panic (.t 6)⟩])))
noncomputable def c160:ACode := .seq (.ops [⟨(some 4),none,.mv false (.t 0)⟩,
 ⟨(some 5),none,.not (.t 4)⟩]) <|
 .cond (.t 5)
 (.ops [⟨(some 6),none,.mv false (.t 1)⟩,
 ⟨(some 7),none,.build [(.str [])] [(0,1,(.t 6))]⟩,
 ⟨(some 8),none,.iface 192 (.t 7)⟩,
 ⟨none,none,.panic (.t 8)⟩])
 (.skip)
noncomputable def c161:ACode:=(by refine ⟨?_,?_⟩;rotate_left;conv=>lhs;cbv:Ev 2 f161).1
noncomputable def c162:ACode:=(by refine ⟨?_,?_⟩;rotate_left;conv=>lhs;cbv:Ev 19 f162).1
noncomputable def c163:ACode := .seq (.ops [⟨(some 2),none,.mv true (.c (.slice .nil []))⟩]) <|
 .seq (.ops [⟨(some 3),none,.mv true (.c (.slice .nil []))⟩]) <|
 .seq (.seq (.ops [⟨(some 9),none,.mv false (.t 0)⟩,
 ⟨(some 10),none,.lenL (.t 9)⟩,
 ⟨(some 11),none,.mv false (.c (.int .i64 0))⟩]) <|
 .block 0 <| .loop <|
 .seq (.ops [⟨(some 12),none,.bin .lss (.t 11) (.t 10)⟩]) <|
 .seq (.cond (.t 12)
 (.skip)
 (.exit 0)) <|
 .seq (.block 1 <| .seq (.ops [⟨(some 13),none,.indexAddr 1 (.t 9) (.t 11)⟩,
 ⟨(some 14),none,.load .any false 1 (.t 13)⟩,
 ⟨(some 5),none,.mv true (.t 14)⟩]) <|
 .seq (.ops [⟨(some 6),none,.mv true (.c (.int .i64 0))⟩]) <|
 .seq (.seq (.ops [⟨(some 15),none,.mv false (.t 5)⟩,
 ⟨(some 16),none,.other⟩]) <|
 .block 2 <| .loop <|
 .seq (.ops [⟨(some 17),none,.other⟩,
 ⟨(some 18),none,.extract (.t 17) 0⟩]) <|
 .seq (.cond (.t 18)
 (.skip)
 (.exit 2)) <|
 .block 3 <| .seq (.ops [⟨(some 19),none,.extract (.t 17) 2⟩,
 ⟨(some 8),none,.mv true (.t 19)⟩]) <|
 .seq (.ops [⟨(some 20),none,.mv false (.t 8)⟩,
 ⟨(some 21),none,.bin .geq (.t 20) (.c (.int .i32 48))⟩,
 ⟨(some 22),none,.mv false (.t 21)⟩,
 ⟨(some 23),(some (22,true)),.mv false (.t 8)⟩,
 ⟨(some 24),(some (22,true)),.bin .leq (.t 23) (.c (.int .i32 57))⟩,
 ⟨(some 25),none,.pick (.t 22) (.t 24) (.c (.bool false))⟩,
 ⟨(some 26),none,.mv false (.t 25)⟩,
 ⟨(some 27),(some (26,true)),.mv false (.t 5)⟩,
 ⟨(some 28),(some (26,true)),.lenS (.t 27)⟩,
 ⟨(some 29),(some (26,true)),.bin .leq (.t 28) (.c (.int .i64 3))⟩,
 ⟨(some 30),none,.pick (.t 26) (.t 29) (.c (.bool false))⟩,
 ⟨(some 31),none,.mv false (.t 5)⟩,
 ⟨(some 32),none,.call 160 [(.t 30),(.t 31)]⟩]) <|
 .ops [⟨(some 33),none,.mv false (.t 6)⟩,
 ⟨(some 34),none,.bin .mul (.c (.int .i64 10)) (.t 33)⟩,
 ⟨(some 35),none,.mv false (.t 8)⟩,
 ⟨(some 36),none,.bin .sub (.t 35) (.c (.int .i32 48))⟩,
 ⟨(some 37),none,.conv .i64 (.t 36)⟩,
 ⟨(some 38),none,.bin .add (.t 34) (.t 37)⟩,
 ⟨(some 6),none,.mv true (.t 38)⟩]) <|
 .seq (.ops [⟨(some 39),none,.mv false (.t 5)⟩,
 ⟨(some 40),none,.bin .neq (.t 39) (.c (.str []))⟩,
 ⟨(some 41),none,.mv false (.t 40)⟩,
 ⟨(some 42),(some (41,true)),.mv false (.t 6)⟩,
 ⟨(some 43),(some (41,true)),.call 157 [(.t 42)]⟩,
 ⟨(some 44),(some (41,true)),.mv false (.t 5)⟩,
 ⟨(some 45),(some (41,true)),.bin .eql (.t 43) (.t 44)⟩,
 ⟨(some 46),none,.pick (.t 41) (.t 45) (.c (.bool false))⟩,
 ⟨(some 47),none,.mv false (.t 5)⟩,
 ⟨(some 48),none,.call 160 [(.t 46),(.t 47)]⟩]) <|
 .ops [⟨(some 49),none,.mv true (.t 3)⟩,
 ⟨(some 50),none,.mv false (.t 6)⟩,
 ⟨(some 51),none,.buildSlice 22 3 1 [(.t 50)]⟩,
 ⟨(some 52),none,.append 22 3 1 8 (.t 49) (.t 51)⟩,
 ⟨(some 3),none,.mv true (.t 52)⟩]) <|
 .ops [⟨(some 53),none,.bin .add (.t 11) (.c (.int .i64 1))⟩,
 ⟨(some 11),none,.mv false (.t 53)⟩]) <|
 .seq (.ops [⟨(some 54),none,.mv false (.t 3)⟩,
 ⟨(some 2),none,.mv true (.t 54)⟩]) <|
 .ret
noncomputable def c164:ACode:=(by refine ⟨?_,?_⟩;rotate_left;conv=>lhs;cbv:Ev 8 f164).1
noncomputable def c165:ACode:=(by refine ⟨?_,?_⟩;rotate_left;conv=>lhs;cbv:Ev 44 f165).1
noncomputable def c167:ACode:=(by refine ⟨?_,?_⟩;rotate_left;conv=>lhs;cbv:Ev 19 f167).1
noncomputable def c168:ACode := .seq (.ops [⟨(some 4),none,.mv true (.c (.int .i64 0))⟩]) <|
 .seq (.seq (.ops [⟨(some 6),none,.mv false (.t 0)⟩,
 ⟨(some 7),none,.lenL (.t 6)⟩,
 ⟨(some 8),none,.mv false (.c (.int .i64 0))⟩]) <|
 .block 0 <| .loop <|
 .seq (.ops [⟨(some 9),none,.bin .lss (.t 8) (.t 7)⟩]) <|
 .seq (.cond (.t 9)
 (.skip)
 (.exit 0)) <|
 .seq (.block 1 <| .seq (.ops [⟨(some 10),none,.mv false (.t 8)⟩,
 ⟨(some 5),none,.mv true (.t 10)⟩]) <|
 .seq (.ops [⟨(some 11),none,.mv false (.t 1)⟩,
 ⟨(some 12),none,.mv false (.t 0)⟩,
 ⟨(some 13),none,.mv false (.t 5)⟩,
 ⟨(some 14),none,.indexAddr 1 (.t 12) (.t 13)⟩,
 ⟨(some 15),none,.load .any false 1 (.t 14)⟩,
 ⟨(some 16),none,.bin .eql (.t 11) (.t 15)⟩]) <|
 .cond (.t 16)
 (.seq (.ops [⟨(some 17),none,.mv false (.t 5)⟩,
 ⟨(some 4),none,.mv true (.t 17)⟩]) <|
 .ret)
 (.skip)) <|
 .ops [⟨(some 18),none,.bin .add (.t 8) (.c (.int .i64 1))⟩,
 ⟨(some 8),none,.mv false (.t 18)⟩]) <|
 .seq (.ops [⟨(some 4),none,.mv true (.c (.int .i64 (-1)))⟩]) <|
 .ret
noncomputable def c169:ACode := .seq (.ops [⟨(some 2),none,.mv true (.c (.int .i64 0))⟩]) <|
 .seq (.ops [⟨(some 3),none,.mv true (.c (.int .i64 0))⟩]) <|
 .seq (.seq (.ops [⟨(some 6),none,.mv false (.t 0)⟩,
 ⟨(some 7),none,.lenL (.t 6)⟩,
 ⟨(some 8),none,.mv false (.c (.int .i64 0))⟩]) <|
 .block 0 <| .loop <|
 .seq (.ops [⟨(some 9),none,.bin .lss (.t 8) (.t 7)⟩]) <|
 .seq (.cond (.t 9)
 (.skip)
 (.exit 0)) <|
 .seq (.block 1 <| .seq (.ops [⟨(some 10),none,.indexAddr 1 (.t 6) (.t 8)⟩,
 ⟨(some 11),none,.load .any false 1 (.t 10)⟩,
 ⟨(some 5),none,.mv true (.t 11)⟩]) <|
 .ops [⟨(some 12),none,.mv false (.t 3)⟩,
 ⟨(some 13),none,.mv false (.t 5)⟩,
 ⟨(some 14),none,.bin .add (.t 12) (.t 13)⟩,
 ⟨(some 3),none,.mv true (.t 14)⟩]) <|
 .ops [⟨(some 15),none,.bin .add (.t 8) (.c (.int .i64 1))⟩,
 ⟨(some 8),none,.mv false (.t 15)⟩]) <|
 .seq (.ops [⟨(some 16),none,.mv false (.t 3)⟩,
 ⟨(some 2),none,.mv true (.t 16)⟩]) <|
 .ret
noncomputable def c170:ACode := .seq (.ops [⟨(some 4),none,.mv true (.c (.int .i64 0))⟩]) <|
 .seq (.seq (.ops [⟨(some 6),none,.mv false (.t 0)⟩,
 ⟨(some 7),none,.lenL (.t 6)⟩,
 ⟨(some 8),none,.mv false (.c (.int .i64 0))⟩]) <|
 .block 0 <| .loop <|
 .seq (.ops [⟨(some 9),none,.bin .lss (.t 8) (.t 7)⟩]) <|
 .seq (.cond (.t 9)
 (.skip)
 (.exit 0)) <|
 .seq (.block 1 <| .seq (.ops [⟨(some 10),none,.mv false (.t 8)⟩,
 ⟨(some 5),none,.mv true (.t 10)⟩]) <|
 .seq (.ops [⟨(some 11),none,.mv false (.t 1)⟩,
 ⟨(some 12),none,.mv false (.t 0)⟩,
 ⟨(some 13),none,.mv false (.t 5)⟩,
 ⟨(some 14),none,.indexAddr 1 (.t 12) (.t 13)⟩,
 ⟨(some 15),none,.load .any false 1 (.t 14)⟩,
 ⟨(some 16),none,.callv (.t 11) [(.t 15)]⟩]) <|
 .cond (.t 16)
 (.seq (.ops [⟨(some 17),none,.mv false (.t 5)⟩,
 ⟨(some 4),none,.mv true (.t 17)⟩]) <|
 .ret)
 (.skip)) <|
 .ops [⟨(some 18),none,.bin .add (.t 8) (.c (.int .i64 1))⟩,
 ⟨(some 8),none,.mv false (.t 18)⟩]) <|
 .seq (.ops [⟨(some 4),none,.mv true (.c (.int .i64 (-1)))⟩]) <|
 .ret
noncomputable def c171:ACode := .seq (.ops [⟨(some 4),none,.mv true (.c (.int .i64 0))⟩]) <|
 .seq (.seq (.ops [⟨(some 6),none,.mv false (.t 0)⟩,
 ⟨(some 7),none,.lenL (.t 6)⟩,
 ⟨(some 8),none,.mv false (.c (.int .i64 0))⟩]) <|
 .block 0 <| .loop <|
 .seq (.ops [⟨(some 9),none,.bin .lss (.t 8) (.t 7)⟩]) <|
 .seq (.cond (.t 9)
 (.skip)
 (.exit 0)) <|
 .seq (.block 1 <| .seq (.ops [⟨(some 10),none,.mv false (.t 8)⟩,
 ⟨(some 5),none,.mv true (.t 10)⟩]) <|
 .seq (.ops [⟨(some 11),none,.mv false (.t 1)⟩,
 ⟨(some 12),none,.mv false (.t 0)⟩,
 ⟨(some 13),none,.mv false (.t 5)⟩,
 ⟨(some 14),none,.indexAddr 3 (.t 12) (.t 13)⟩,
 ⟨(some 15),none,.load .any true 3 (.t 14)⟩,
 ⟨(some 16),none,.callv (.t 11) [(.t 15)]⟩]) <|
 .cond (.t 16)
 (.seq (.ops [⟨(some 17),none,.mv false (.t 5)⟩,
 ⟨(some 4),none,.mv true (.t 17)⟩]) <|
 .ret)
 (.skip)) <|
 .ops [⟨(some 18),none,.bin .add (.t 8) (.c (.int .i64 1))⟩,
 ⟨(some 8),none,.mv false (.t 18)⟩]) <|
 .seq (.ops [⟨(some 4),none,.mv true (.c (.int .i64 (-1)))⟩]) <|
 .ret
noncomputable def c172:ACode := .seq (.ops [⟨(some 3),none,.mv true (.c (.bool false))⟩]) <|
 .seq (.ops [⟨(some 4),none,.mv false (.t 0)⟩,
 ⟨(some 5),none,.fieldAddr 0 (.t 1)⟩,
 ⟨(some 6),none,.load .any false 1 (.t 5)⟩,
 ⟨(some 7),none,.lenL (.t 6)⟩,
 ⟨(some 8),none,.bin .sub (.t 7) (.c (.int .i64 1))⟩,
 ⟨(some 9),none,.call 128 [(.t 4),(.c (.int .i64 0)),(.t 8)]⟩,
 ⟨(some 10),none,.not (.t 9)⟩,
 ⟨(some 3),none,.mv true (.t 10)⟩]) <|
 .ret
noncomputable def c174:ACode:=(by refine ⟨?_,?_⟩;rotate_left;conv=>lhs;cbv:Ev 5 f174).1
noncomputable def c225:ACode:=(by refine ⟨?_,?_⟩;rotate_left;conv=>lhs;cbv:Ev 11 f225).1
noncomputable def c226:ACode:=(by refine ⟨?_,?_⟩;rotate_left;conv=>lhs;cbv:Ev 19 f226).1
noncomputable def c227:ACode:=(by refine ⟨?_,?_⟩;rotate_left;conv=>lhs;cbv:Ev 24 f227).1
noncomputable def c228:ACode:=(by refine ⟨?_,?_⟩;rotate_left;conv=>lhs;cbv:Ev 7 f228).1
noncomputable def c229:ACode:=(by refine ⟨?_,?_⟩;rotate_left;conv=>lhs;cbv:Ev 19 f229).1
noncomputable def c230:ACode:=(by refine ⟨?_,?_⟩;rotate_left;conv=>lhs;cbv:Ev 17 f230).1
noncomputable def c231:ACode:=(by refine ⟨?_,?_⟩;rotate_left;conv=>lhs;cbv:Ev 9 f231).1
end Go.Proofs.Tryz
namespace Go.Proofs.Tryz
open Go.AL
end Go.Proofs.Tryz
