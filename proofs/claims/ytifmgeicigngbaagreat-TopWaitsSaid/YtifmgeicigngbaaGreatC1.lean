/-
  A part of the proof: CdE Cd0 Cd1 Cd2.
-/
import Derived.Test.YtifmgeicigngbaaGreatProg
import Derived.Test.YtifmgeicigngbaaGreatA2
set_option linter.all false
set_option linter.unusedVariables false
set_option linter.unusedSimpArgs false
set_option linter.deprecated false
namespace Go.Proofs.Tryz
open Go.AL
noncomputable def codeOf (f:Go.Func):Go.Code:=match f.body with | some c=>c | none=>f.body.get!
abbrev Ev (n:Nat) (f:Go.Func):={c:ACode // compC prog n (codeOf f)=c}
end Go.Proofs.Tryz
namespace Go.Proofs.Tryz
open Go.AL
set_option maxRecDepth 100000
set_option maxHeartbeats 4000000
noncomputable def c3:ACode := .seq (.ops [⟨(some 6),none,.mv true (.c (.bool false))⟩]) <|
 .seq (.ops [⟨(some 21),none,.mv false (.t 0)⟩,
 ⟨(some 22),none,.lenL (.t 21)⟩,
 ⟨(some 7),none,.mv true (.t 22)⟩]) <|
 .seq (.seq (.ops [⟨(some 23),none,.mv false (.t 7)⟩,
 ⟨(some 24),none,.call 6 [(.t 23),(.c (.int .i64 1)),(.c (.int .i64 12))]⟩,
 ⟨(some 25),none,.not (.t 24)⟩,
 ⟨(some 26),none,.mv false (.t 25)⟩,
 ⟨(some 27),(some (26,false)),.mv false (.t 1)⟩,
 ⟨(some 28),(some (26,false)),.call 6 [(.t 27),(.c (.int .i64 1)),(.c (.int .i64 6))]⟩,
 ⟨(some 29),(some (26,false)),.not (.t 28)⟩,
 ⟨(some 30),none,.pick (.t 26) (.c (.bool true)) (.t 29)⟩,
 ⟨(some 31),none,.mv false (.t 30)⟩,
 ⟨(some 32),(some (31,false)),.mv false (.t 2)⟩,
 ⟨(some 33),(some (31,false)),.call 6 [(.t 32),(.c (.int .i64 1)),(.c (.int .i64 9))]⟩,
 ⟨(some 34),(some (31,false)),.not (.t 33)⟩,
 ⟨(some 35),none,.pick (.t 31) (.c (.bool true)) (.t 34)⟩]) <|
 .cond (.t 35)
 (.seq (.ops [⟨(some 36),none,.call 7 []⟩,
 ⟨(some 6),none,.mv true (.t 36)⟩]) <|
 .ret)
 (.skip)) <|
 .seq (.ops [⟨(some 37),none,.mv false (.t 2)⟩,
 ⟨(some 38),none,.mv false (.t 1)⟩,
 ⟨(some 39),none,.bin .mul (.t 37) (.t 38)⟩,
 ⟨(some 40),none,.build [(.int .i64 0),(.int .i64 0)] [(0,1,(.t 39)),(1,1,(.c (.int .i64 400)))]⟩,
 ⟨(some 41),none,.buildSlice 27 26 2 [(.t 40)]⟩,
 ⟨(some 42),none,.build [(.slice .nil []),(.slice .nil []),(.slice .nil [])] [(2,1,(.t 41))]⟩,
 ⟨(some 8),none,.alloc 30 [(.slice .nil []),(.slice .nil []),(.slice .nil [])]⟩,
 ⟨none,none,.store .any 3 (.t 8) (.t 42)⟩]) <|
 .seq (.ops [⟨(some 43),none,.mv false (.t 7)⟩,
 ⟨(some 44),none,.mv false (.t 2)⟩,
 ⟨(some 45),none,.mv false (.t 1)⟩,
 ⟨(some 46),none,.buildSlice 28 3 1 [(.t 45)]⟩,
 ⟨(some 47),none,.call 8 [(.t 46)]⟩,
 ⟨(some 48),none,.build [(.slice .nil []),(.int .i64 0),(.int .i64 0),(.int .i64 0),(.int .i64 0),(.slice .nil []),(.slice .nil []),(.int .i64 0),(.int .i64 0),(.int .i64 0),(.int .i64 0),(.int .i64 0),(.slice .nil []),(.int .i64 0),(.int .i64 0)] [(1,1,(.t 43)),(2,1,(.c (.int .i64 12))),(3,1,(.t 44)),(5,10,(.t 47))]⟩,
 ⟨(some 9),none,.alloc 40 [(.slice .nil []),(.int .i64 0),(.int .i64 0),(.int .i64 0),(.int .i64 0),(.slice .nil []),(.slice .nil []),(.int .i64 0),(.int .i64 0),(.int .i64 0),(.int .i64 0),(.int .i64 0),(.slice .nil []),(.int .i64 0),(.int .i64 0)]⟩,
 ⟨none,none,.store .any 15 (.t 9) (.t 48)⟩]) <|
 .seq (.seq (.ops [⟨(some 10),none,.mv true (.c (.int .i64 0))⟩]) <|
 .block 0 <| .loop <|
 .seq (.seq (.ops [⟨(some 49),none,.mv false (.t 10)⟩,
 ⟨(some 50),none,.mv false (.t 7)⟩,
 ⟨(some 51),none,.bin .lss (.t 49) (.t 50)⟩]) <|
 .cond (.t 51)
 (.skip)
 (.exit 0)) <|
 .seq (.block 1 <| .seq (.seq (.dops [⟨(some 54),none,.mv false (.t 0)⟩,
 ⟨(some 55),none,.mv false (.t 10)⟩,
 ⟨(some 56),none,.indexAddr 2 (.t 54) (.t 55)⟩,
 ⟨(some 57),none,.fieldAddr 0 (.t 56)⟩,
 ⟨(some 58),none,.load .ref false 1 (.t 57)⟩,
 ⟨(some 59),none,.call 6 [(.t 58),(.c (.int .i64 1)),(.c (.int .i64 20))]⟩,
 ⟨(some 60),none,.not (.t 59)⟩,
 ⟨(some 61),none,.mv false (.t 60)⟩,
 ⟨(some 62),(some (61,false)),.mv false (.t 0)⟩,
 ⟨(some 63),(some (61,false)),.mv false (.t 10)⟩,
 ⟨(some 64),(some (61,false)),.indexAddr 2 (.t 62) (.t 63)⟩,
 ⟨(some 65),(some (61,false)),.fieldAddr 1 (.t 64)⟩,
 ⟨(some 66),(some (61,false)),.load .ref false 1 (.t 65)⟩,
 ⟨(some 67),(some (61,false)),.mv false (.t 0)⟩,
 ⟨(some 68),(some (61,false)),.mv false (.t 10)⟩,
 ⟨(some 69),(some (61,false)),.indexAddr 2 (.t 67) (.t 68)⟩,
 ⟨(some 70),(some (61,false)),.fieldAddr 0 (.t 69)⟩,
 ⟨(some 71),(some (61,false)),.load .ref false 1 (.t 70)⟩,
 ⟨(some 72),(some (61,false)),.call 6 [(.t 66),(.t 71),(.c (.int .i64 20))]⟩,
 ⟨(some 73),(some (61,false)),.not (.t 72)⟩,
 ⟨(some 74),none,.pick (.t 61) (.c (.bool true)) (.t 73)⟩]) <|
 .cond (.t 74)
 (.seq (.ops [⟨(some 75),none,.call 7 []⟩,
 ⟨(some 6),none,.mv true (.t 75)⟩]) <|
 .ret)
 (.skip)) <|
 .seq (.bad) <|
 .dops [⟨(some 91),none,.fieldAddr 0 (.t 9)⟩,
 ⟨(some 92),none,.loadT (.box 9) (.t 91)⟩,
 ⟨(some 93),none,.mv false (.t 0)⟩,
 ⟨(some 94),none,.mv false (.t 10)⟩,
 ⟨(some 95),none,.indexAddr 2 (.t 93) (.t 94)⟩,
 ⟨(some 96),none,.load .ref true 2 (.t 95)⟩,
 ⟨(some 97),none,.build [(.int .i64 0),(.int .i64 0),(.bool false)] [(0,2,(.t 96))]⟩,
 ⟨(some 98),none,.buildSlice 38 42 3 [(.t 97)]⟩,
 ⟨(some 99),none,.append 38 42 3 24 (.t 92) (.t 98)⟩,
 ⟨(some 100),none,.fieldAddr 0 (.t 9)⟩,
 ⟨none,none,.store (.box 9) 1 (.t 100) (.t 99)⟩]) <|
 .ops [⟨(some 52),none,.mv false (.t 10)⟩,
 ⟨(some 53),none,.bin .add (.t 52) (.c (.int .i64 1))⟩,
 ⟨(some 10),none,.mv true (.t 53)⟩]) <|
 .seq (.ops [⟨(some 102),none,.load .any true 3 (.t 8)⟩,
 ⟨(some 103),none,.call 9 [(.t 102)]⟩,
 ⟨(some 101),none,.mv false (.t 103)⟩,
 ⟨(some 104),none,.extract (.t 101) 0⟩,
 ⟨(some 105),none,.extract (.t 101) 1⟩,
 ⟨(some 11),none,.mv true (.t 104)⟩,
 ⟨(some 12),none,.mv true (.t 105)⟩]) <|
 .seq (.ops [⟨(some 107),none,.load .any true 3 (.t 8)⟩,
 ⟨(some 108),none,.buildSlice 28 3 1 [(.c (.int .i64 0))]⟩,
 ⟨(some 109),none,.call 10 [(.t 107),(.t 108)]⟩,
 ⟨(some 106),none,.mv false (.t 109)⟩,
 ⟨(some 110),none,.extract (.t 106) 0⟩,
 ⟨(some 111),none,.extract (.t 106) 1⟩,
 ⟨(some 13),none,.mv true (.t 110)⟩,
 ⟨(some 14),none,.mv true (.t 111)⟩]) <|
 .seq (.ops [⟨(some 113),none,.load .any true 15 (.t 9)⟩,
 ⟨(some 114),none,.call 11 [(.t 113)]⟩,
 ⟨(some 112),none,.mv false (.t 114)⟩,
 ⟨(some 115),none,.extract (.t 112) 0⟩,
 ⟨(some 116),none,.extract (.t 112) 1⟩,
 ⟨(some 15),none,.mv true (.t 115)⟩,
 ⟨(some 16),none,.mv true (.t 116)⟩]) <|
 .seq (.ops [⟨(some 118),none,.load .any true 15 (.t 9)⟩,
 ⟨(some 119),none,.call 12 [(.t 118)]⟩,
 ⟨(some 117),none,.mv false (.t 119)⟩,
 ⟨(some 120),none,.extract (.t 117) 0⟩,
 ⟨(some 121),none,.extract (.t 117) 1⟩,
 ⟨(some 17),none,.mv true (.t 120)⟩,
 ⟨(some 18),none,.mv true (.t 121)⟩]) <|
 .seq (.ops [⟨(some 123),none,.load .any true 15 (.t 9)⟩,
 ⟨(some 124),none,.call 13 [(.t 123)]⟩,
 ⟨(some 122),none,.mv false (.t 124)⟩,
 ⟨(some 125),none,.extract (.t 122) 0⟩,
 ⟨(some 126),none,.extract (.t 122) 1⟩,
 ⟨(some 19),none,.mv true (.t 125)⟩,
 ⟨(some 20),none,.mv true (.t 126)⟩]) <|
 .seq (.seq (.ops [⟨(some 127),none,.mv false (.t 12)⟩,
 ⟨(some 128),none,.bin .neq (.t 127) (.c (.int .i64 0))⟩,
 ⟨(some 129),none,.mv false (.t 128)⟩,
 ⟨(some 130),(some (129,true)),.mv false (.t 12)⟩,
 ⟨(some 131),(some (129,true)),.bin .neq (.t 130) (.c (.int .i64 5))⟩,
 ⟨(some 132),none,.pick (.t 129) (.t 131) (.c (.bool false))⟩,
 ⟨(some 133),none,.mv false (.t 132)⟩,
 ⟨(some 134),(some (133,false)),.mv false (.t 14)⟩,
 ⟨(some 135),(some (133,false)),.bin .neq (.t 134) (.c (.int .i64 0))⟩,
 ⟨(some 136),none,.pick (.t 133) (.c (.bool true)) (.t 135)⟩,
 ⟨(some 137),none,.mv false (.t 136)⟩,
 ⟨(some 138),(some (137,false)),.mv false (.t 16)⟩,
 ⟨(some 139),(some (137,false)),.mv false (.t 12)⟩,
 ⟨(some 140),(some (137,false)),.bin .neq (.t 138) (.t 139)⟩,
 ⟨(some 141),none,.pick (.t 137) (.c (.bool true)) (.t 140)⟩,
 ⟨(some 142),none,.mv false (.t 141)⟩,
 ⟨(some 143),(some (142,false)),.mv false (.t 18)⟩,
 ⟨(some 144),(some (142,false)),.bin .neq (.t 143) (.c (.int .i64 0))⟩,
 ⟨(some 145),none,.pick (.t 142) (.c (.bool true)) (.t 144)⟩,
 ⟨(some 146),none,.mv false (.t 145)⟩,
 ⟨(some 147),(some (146,false)),.mv false (.t 20)⟩,
 ⟨(some 148),(some (146,false)),.bin .neq (.t 147) (.c (.int .i64 0))⟩,
 ⟨(some 149),none,.pick (.t 146) (.c (.bool true)) (.t 148)⟩,
 ⟨(some 150),none,.mv false (.t 149)⟩,
 ⟨(some 151),(some (150,false)),.mv false (.t 17)⟩,
 ⟨(some 152),(some (150,false)),.call 6 [(.t 151),(.c (.int .i64 0)),(.c (.int .i64 1))]⟩,
 ⟨(some 153),(some (150,false)),.not (.t 152)⟩,
 ⟨(some 154),none,.pick (.t 150) (.c (.bool true)) (.t 153)⟩,
 ⟨(some 155),none,.mv false (.t 154)⟩,
 ⟨(some 156),(some (155,false)),.mv false (.t 19)⟩,
 ⟨(some 157),(some (155,false)),.mv false (.t 17)⟩,
 ⟨(some 158),(some (155,false)),.call 6 [(.t 156),(.t 157),(.c (.int .i64 1))]⟩,
 ⟨(some 159),(some (155,false)),.not (.t 158)⟩,
 ⟨(some 160),none,.pick (.t 155) (.c (.bool true)) (.t 159)⟩]) <|
 .cond (.t 160)
 (.seq (.ops [⟨(some 6),none,.mv true (.c (.bool false))⟩]) <|
 .ret)
 (.skip)) <|
 .seq (.seq (.ops [⟨(some 161),none,.mv false (.t 12)⟩,
 ⟨(some 162),none,.bin .eql (.t 161) (.c (.int .i64 0))⟩,
 ⟨(some 163),none,.mv false (.t 162)⟩,
 ⟨(some 164),(some (163,true)),.mv false (.t 11)⟩,
 ⟨(some 165),(some (163,true)),.mv false (.t 7)⟩,
 ⟨(some 166),(some (163,true)),.bin .sub (.t 165) (.c (.int .i64 1))⟩,
 ⟨(some 167),(some (163,true)),.call 6 [(.t 164),(.c (.int .i64 0)),(.t 166)]⟩,
 ⟨(some 168),(some (163,true)),.not (.t 167)⟩,
 ⟨(some 169),(some (163,true)),.mv false (.t 168)⟩,
 ⟨(some 170),(some (169,false)),.mv false (.t 15)⟩,
 ⟨(some 171),(some (169,false)),.mv false (.t 7)⟩,
 ⟨(some 172),(some (169,false)),.mv false (.t 11)⟩,
 ⟨(some 173),(some (169,false)),.bin .sub (.t 171) (.t 172)⟩,
 ⟨(some 174),(some (169,false)),.bin .neq (.t 170) (.t 173)⟩,
 ⟨(some 175),(some (163,true)),.pick (.t 169) (.c (.bool true)) (.t 174)⟩,
 ⟨(some 176),none,.pick (.t 163) (.t 175) (.c (.bool false))⟩]) <|
 .cond (.t 176)
 (.seq (.ops [⟨(some 6),none,.mv true (.c (.bool false))⟩]) <|
 .ret)
 (.skip)) <|
 .seq (.ops [⟨(some 177),none,.mv false (.t 17)⟩,
 ⟨(some 178),none,.bin .eql (.t 177) (.c (.int .i64 1))⟩,
 ⟨(some 179),none,.mv false (.t 12)⟩,
 ⟨(some 180),none,.bin .eql (.t 179) (.c (.int .i64 0))⟩,
 ⟨(some 181),none,.eqB false (.t 178) (.t 180)⟩,
 ⟨(some 182),none,.mv false (.t 181)⟩,
 ⟨(some 183),(some (182,true)),.mv false (.t 13)⟩,
 ⟨(some 184),(some (182,true)),.bin .eql (.t 183) (.c (.int .i64 3))⟩,
 ⟨(some 185),(some (182,true)),.mv false (.t 17)⟩,
 ⟨(some 186),(some (182,true)),.bin .eql (.t 185) (.c (.int .i64 1))⟩,
 ⟨(some 187),(some (182,true)),.eqB false (.t 184) (.t 186)⟩,
 ⟨(some 188),none,.pick (.t 182) (.t 187) (.c (.bool false))⟩,
 ⟨(some 189),none,.mv false (.t 188)⟩,
 ⟨(some 190),(some (189,true)),.mv false (.t 13)⟩,
 ⟨(some 191),(some (189,true)),.bin .eql (.t 190) (.c (.int .i64 1))⟩,
 ⟨(some 192),(some (189,true)),.mv false (.t 19)⟩,
 ⟨(some 193),(some (189,true)),.bin .eql (.t 192) (.c (.int .i64 0))⟩,
 ⟨(some 194),(some (189,true)),.eqB false (.t 191) (.t 193)⟩,
 ⟨(some 195),none,.pick (.t 189) (.t 194) (.c (.bool false))⟩,
 ⟨(some 196),none,.mv false (.t 195)⟩,
 ⟨(some 197),(some (196,true)),.call 7 []⟩,
 ⟨(some 198),none,.pick (.t 196) (.t 197) (.c (.bool false))⟩,
 ⟨(some 6),none,.mv true (.t 198)⟩]) <|
 .ret
noncomputable def c6:ACode:=(by refine ⟨?_,?_⟩;rotate_left;conv=>lhs;cbv:Ev 15 f6).1
noncomputable def c7:ACode:=(by refine ⟨?_,?_⟩;rotate_left;conv=>lhs;cbv:Ev 30 f7).1
noncomputable def c8:ACode:=(by refine ⟨?_,?_⟩;rotate_left;conv=>lhs;cbv:Ev 24 f8).1
noncomputable def c9:ACode:=(by refine ⟨?_,?_⟩;rotate_left;conv=>lhs;cbv:Ev 18 f9).1
noncomputable def c10:ACode := .seq (.ops [⟨(some 2),none,.box 30 3 (.t 0)⟩,
 ⟨(some 4),none,.mv true (.c (.int .i64 0))⟩,
 ⟨(some 5),none,.mv true (.c (.int .i64 0))⟩]) <|
 .seq (.seq (.ops [⟨(some 14),none,.load .any true 3 (.t 2)⟩,
 ⟨(some 15),none,.call 29 [(.t 14)]⟩,
 ⟨(some 16),none,.not (.t 15)⟩,
 ⟨(some 17),none,.mv false (.t 16)⟩,
 ⟨(some 18),(some (17,false)),.load .any true 3 (.t 2)⟩,
 ⟨(some 19),(some (17,false)),.mv false (.t 1)⟩,
 ⟨(some 20),(some (17,false)),.call 30 [(.t 18),(.t 19)]⟩,
 ⟨(some 21),(some (17,false)),.not (.t 20)⟩,
 ⟨(some 22),none,.pick (.t 17) (.c (.bool true)) (.t 21)⟩]) <|
 .cond (.t 22)
 (.seq (.ops [⟨(some 4),none,.mv true (.c (.int .i64 0))⟩,
 ⟨(some 5),none,.mv true (.c (.int .i64 2))⟩]) <|
 .ret)
 (.skip)) <|
 .seq (.ops [⟨(some 23),none,.load .any true 3 (.t 2)⟩,
 ⟨(some 24),none,.call 31 [(.t 23)]⟩,
 ⟨(some 6),none,.alloc 89 [(.slice .nil []),(.slice .nil []),(.slice .nil []),(.slice .nil []),(.slice .nil [])]⟩,
 ⟨none,none,.store .any 5 (.t 6) (.t 24)⟩]) <|
 .seq (.seq (.ops [⟨(some 26),none,.load .any true 5 (.t 6)⟩,
 ⟨(some 27),none,.mv false (.t 1)⟩,
 ⟨(some 28),none,.call 32 [(.t 26),(.t 27)]⟩,
 ⟨(some 25),none,.mv false (.t 28)⟩,
 ⟨(some 29),none,.extract (.t 25) 0⟩,
 ⟨(some 30),none,.extract (.t 25) 1⟩,
 ⟨(some 7),none,.alloc 93 [(.int .i64 0),(.int .i64 0)]⟩,
 ⟨none,none,.store .any 2 (.t 7) (.t 29)⟩,
 ⟨(some 8),none,.mv true (.t 30)⟩]) <|
 .seq (.ops [⟨(some 31),none,.mv false (.t 8)⟩,
 ⟨(some 32),none,.bin .eql (.t 31) (.c (.int .i64 0))⟩]) <|
 .cond (.t 32)
 (.seq (.ops [⟨(some 4),none,.mv true (.c (.int .i64 3))⟩,
 ⟨(some 5),none,.mv true (.c (.int .i64 0))⟩]) <|
 .ret)
 (.skip)) <|
 .seq (.seq (.ops [⟨(some 33),none,.mv false (.t 1)⟩,
 ⟨(some 34),none,.lenL (.t 33)⟩,
 ⟨(some 35),none,.mv false (.c (.int .i64 0))⟩]) <|
 .block 0 <| .loop <|
 .seq (.ops [⟨(some 36),none,.bin .lss (.t 35) (.t 34)⟩]) <|
 .seq (.cond (.t 36)
 (.skip)
 (.exit 0)) <|
 .seq (.block 1 <| .seq (.ops [⟨(some 37),none,.mv false (.t 35)⟩,
 ⟨(some 38),none,.indexAddr 1 (.t 33) (.t 35)⟩,
 ⟨(some 39),none,.load .any false 1 (.t 38)⟩,
 ⟨(some 9),none,.mv true (.t 37)⟩,
 ⟨(some 10),none,.mv true (.t 39)⟩]) <|
 .seq (.ops [⟨(some 41),none,.load .any true 5 (.t 6)⟩,
 ⟨(some 42),none,.mv false (.t 1)⟩,
 ⟨(some 43),none,.mv false (.t 9)⟩,
 ⟨(some 44),none,.call 33 [(.t 41),(.t 42),(.t 43)]⟩,
 ⟨(some 40),none,.mv false (.t 44)⟩,
 ⟨(some 45),none,.extract (.t 40) 0⟩,
 ⟨(some 46),none,.extract (.t 40) 1⟩,
 ⟨(some 11),none,.mv true (.t 45)⟩,
 ⟨(some 12),none,.mv true (.t 46)⟩]) <|
 .seq (.ops [⟨(some 47),none,.load .any true 5 (.t 6)⟩,
 ⟨(some 48),none,.mv false (.t 10)⟩,
 ⟨(some 49),none,.mv false (.t 11)⟩,
 ⟨(some 50),none,.call 34 [(.t 47),(.t 48),(.t 49)]⟩,
 ⟨(some 13),none,.alloc 33 [(.int .i64 0),(.int .i64 0)]⟩,
 ⟨none,none,.store .any 2 (.t 13) (.t 50)⟩]) <|
 .seq (.dops [⟨(some 51),none,.fieldAddr 1 (.t 13)⟩,
 ⟨(some 52),none,.load (.box 13) false 1 (.t 51)⟩,
 ⟨(some 53),none,.fieldAddr 2 (.t 2)⟩,
 ⟨(some 54),none,.load (.box 2) false 1 (.t 53)⟩,
 ⟨(some 55),none,.mv false (.t 9)⟩,
 ⟨(some 56),none,.indexAddr 2 (.t 54) (.t 55)⟩,
 ⟨(some 57),none,.fieldAddr 0 (.t 56)⟩,
 ⟨(some 58),none,.load .ref false 1 (.t 57)⟩,
 ⟨(some 59),none,.bin .lss (.t 52) (.t 58)⟩,
 ⟨(some 60),none,.mv false (.t 59)⟩,
 ⟨(some 61),(some (60,false)),.mv false (.t 12)⟩,
 ⟨(some 62),(some (60,false)),.mv false (.t 61)⟩,
 ⟨(some 63),(some (62,true)),.fieldAddr 0 (.t 13)⟩,
 ⟨(some 64),(some (62,true)),.load (.box 13) false 1 (.t 63)⟩,
 ⟨(some 65),(some (62,true)),.fieldAddr 2 (.t 2)⟩,
 ⟨(some 66),(some (62,true)),.load (.box 2) false 1 (.t 65)⟩,
 ⟨(some 67),(some (62,true)),.mv false (.t 9)⟩,
 ⟨(some 68),(some (62,true)),.indexAddr 2 (.t 66) (.t 67)⟩,
 ⟨(some 69),(some (62,true)),.fieldAddr 1 (.t 68)⟩,
 ⟨(some 70),(some (62,true)),.load .ref false 1 (.t 69)⟩,
 ⟨(some 71),(some (62,true)),.bin .gtr (.t 64) (.t 70)⟩,
 ⟨(some 72),(some (60,false)),.pick (.t 62) (.t 71) (.c (.bool false))⟩,
 ⟨(some 73),none,.pick (.t 60) (.c (.bool true)) (.t 72)⟩]) <|
 .cond (.t 73)
 (.seq (.ops [⟨(some 4),none,.mv true (.c (.int .i64 1))⟩,
 ⟨(some 5),none,.mv true (.c (.int .i64 0))⟩]) <|
 .ret)
 (.skip)) <|
 .ops [⟨(some 74),none,.bin .add (.t 35) (.c (.int .i64 1))⟩,
 ⟨(some 35),none,.mv false (.t 74)⟩]) <|
 .seq (.ops [⟨(some 4),none,.mv true (.c (.int .i64 2))⟩,
 ⟨(some 5),none,.mv true (.c (.int .i64 0))⟩]) <|
 .ret
noncomputable def c11:ACode:=(by refine ⟨?_,?_⟩;rotate_left;conv=>lhs;cbv:Ev 33 f11).1
noncomputable def c12:ACode:=(by refine ⟨?_,?_⟩;rotate_left;conv=>lhs;cbv:Ev 20 f12).1
noncomputable def c13:ACode:=(by refine ⟨?_,?_⟩;rotate_left;conv=>lhs;cbv:Ev 20 f13).1
noncomputable def c20:ACode:=(by refine ⟨?_,?_⟩;rotate_left;conv=>lhs;cbv:Ev 38 f20).1
noncomputable def c21:ACode:=(by refine ⟨?_,?_⟩;rotate_left;conv=>lhs;cbv:Ev 5 f21).1
noncomputable def c22:ACode:=(by refine ⟨?_,?_⟩;rotate_left;conv=>lhs;cbv:Ev 17 f22).1
noncomputable def c23:ACode:=(by refine ⟨?_,?_⟩;rotate_left;conv=>lhs;cbv:Ev 16 f23).1
noncomputable def c24:ACode:=(by refine ⟨?_,?_⟩;rotate_left;conv=>lhs;cbv:Ev 26 f24).1
noncomputable def c25:ACode:=(by refine ⟨?_,?_⟩;rotate_left;conv=>lhs;cbv:Ev 6 f25).1
noncomputable def c26:ACode:=(by refine ⟨?_,?_⟩;rotate_left;conv=>lhs;cbv:Ev 19 f26).1
noncomputable def c27:ACode:=(by refine ⟨?_,?_⟩;rotate_left;conv=>lhs;cbv:Ev 25 f27).1
noncomputable def c28:ACode:=(by refine ⟨?_,?_⟩;rotate_left;conv=>lhs;cbv:Ev 12 f28).1
noncomputable def c29:ACode:=(by refine ⟨?_,?_⟩;rotate_left;conv=>lhs;cbv:Ev 41 f29).1
noncomputable def c30:ACode:=(by refine ⟨?_,?_⟩;rotate_left;conv=>lhs;cbv:Ev 21 f30).1
noncomputable def c31:ACode := .seq (.ops [⟨(some 1),none,.box 30 3 (.t 0)⟩,
 ⟨(some 2),none,.alloc 89 [(.slice .nil []),(.slice .nil []),(.slice .nil []),(.slice .nil []),(.slice .nil [])]⟩]) <|
 .seq (.ops [⟨(some 6),none,.load .any true 3 (.t 1)⟩,
 ⟨(some 7),none,.buildSlice 28 3 1 [(.c (.int .i64 0))]⟩,
 ⟨(some 8),none,.buildSlice 28 3 1 [(.c (.int .i64 0))]⟩,
 ⟨(some 9),none,.build [(.slice .nil []),(.slice .nil []),(.slice .nil []),(.slice .nil []),(.slice .nil [])] [(0,3,(.t 6)),(3,1,(.t 7)),(4,1,(.t 8))]⟩,
 ⟨(some 3),none,.alloc 89 [(.slice .nil []),(.slice .nil []),(.slice .nil []),(.slice .nil []),(.slice .nil [])]⟩,
 ⟨none,none,.store .any 5 (.t 3) (.t 9)⟩]) <|
 .seq (.seq (.ops [⟨(some 10),none,.fieldAddr 0 (.t 1)⟩,
 ⟨(some 11),none,.load .any false 1 (.t 10)⟩,
 ⟨(some 12),none,.lenL (.t 11)⟩,
 ⟨(some 13),none,.mv false (.c (.int .i64 0))⟩]) <|
 .block 0 <| .loop <|
 .seq (.ops [⟨(some 14),none,.bin .lss (.t 13) (.t 12)⟩]) <|
 .seq (.cond (.t 14)
 (.skip)
 (.exit 0)) <|
 .seq (.block 1 <| .seq (.ops [⟨(some 15),none,.mv false (.t 13)⟩,
 ⟨(some 16),none,.indexAddr 2 (.t 11) (.t 13)⟩,
 ⟨(some 17),none,.load .any true 2 (.t 16)⟩,
 ⟨(some 5),none,.alloc 33 [(.int .i64 0),(.int .i64 0)]⟩,
 ⟨(some 4),none,.mv true (.t 15)⟩,
 ⟨none,none,.store .any 2 (.t 5) (.t 17)⟩]) <|
 .bad) <|
 .ops [⟨(some 44),none,.bin .add (.t 13) (.c (.int .i64 1))⟩,
 ⟨(some 13),none,.mv false (.t 44)⟩]) <|
 .seq (.ops [⟨(some 45),none,.load .any true 5 (.t 3)⟩,
 ⟨none,none,.store .any 5 (.t 2) (.t 45)⟩]) <|
 .ret
noncomputable def c32:ACode:=(by refine ⟨?_,?_⟩;rotate_left;conv=>lhs;cbv:Ev 10 f32).1
noncomputable def c33:ACode:=(by refine ⟨?_,?_⟩;rotate_left;conv=>lhs;cbv:Ev 22 f33).1
noncomputable def c34:ACode:=(by refine ⟨?_,?_⟩;rotate_left;conv=>lhs;cbv:Ev 24 f34).1
noncomputable def c35:ACode:=(by refine ⟨?_,?_⟩;rotate_left;conv=>lhs;cbv:Ev 15 f35).1
noncomputable def c36:ACode:=(by refine ⟨?_,?_⟩;rotate_left;conv=>lhs;cbv:Ev 44 f36).1
noncomputable def c37:ACode:=(by refine ⟨?_,?_⟩;rotate_left;conv=>lhs;cbv:Ev 12 f37).1
noncomputable def c38:ACode:=(by refine ⟨?_,?_⟩;rotate_left;conv=>lhs;cbv:Ev 44 f38).1
noncomputable def c39:ACode:=(by refine ⟨?_,?_⟩;rotate_left;conv=>lhs;cbv:Ev 29 f39).1
noncomputable def c40:ACode:=(by refine ⟨?_,?_⟩;rotate_left;conv=>lhs;cbv:Ev 27 f40).1
end Go.Proofs.Tryz
namespace Go.Proofs.Tryz
open Go.AL
set_option maxRecDepth 100000
set_option maxHeartbeats 4000000
noncomputable def c47:ACode := .seq (.ops [⟨(some 1),none,.box 36 10 (.t 0)⟩,
 ⟨(some 2),none,.mv true (.c (.bool false))⟩]) <|
 .seq (.seq (.ops [⟨(some 6),none,.fieldAddr 0 (.t 1)⟩,
 ⟨(some 7),none,.load .any false 1 (.t 6)⟩,
 ⟨(some 8),none,.lenL (.t 7)⟩,
 ⟨(some 9),none,.call 113 [(.t 8),(.c (.int .i64 1)),(.c (.int .i64 6))]⟩,
 ⟨(some 10),none,.not (.t 9)⟩,
 ⟨(some 11),none,.mv false (.t 10)⟩,
 ⟨(some 12),(some (11,false)),.fieldAddr 1 (.t 1)⟩,
 ⟨(some 13),(some (11,false)),.load .any false 1 (.t 12)⟩,
 ⟨(some 14),(some (11,false)),.lenL (.t 13)⟩,
 ⟨(some 15),(some (11,false)),.bin .gtr (.t 14) (.c (.int .i64 6))⟩,
 ⟨(some 16),none,.pick (.t 11) (.c (.bool true)) (.t 15)⟩,
 ⟨(some 17),none,.mv false (.t 16)⟩,
 ⟨(some 18),(some (17,false)),.fieldAddr 7 (.t 1)⟩,
 ⟨(some 19),(some (17,false)),.load .any false 1 (.t 18)⟩,
 ⟨(some 20),(some (17,false)),.lenL (.t 19)⟩,
 ⟨(some 21),(some (17,false)),.call 113 [(.t 20),(.c (.int .i64 1)),(.c (.int .i64 4))]⟩,
 ⟨(some 22),(some (17,false)),.not (.t 21)⟩,
 ⟨(some 23),none,.pick (.t 17) (.c (.bool true)) (.t 22)⟩]) <|
 .cond (.t 23)
 (.seq (.ops [⟨(some 2),none,.mv true (.c (.bool false))⟩]) <|
 .ret)
 (.skip)) <|
 .seq (.seq (.ops [⟨(some 24),none,.fieldAddr 1 (.t 1)⟩,
 ⟨(some 25),none,.load .any false 1 (.t 24)⟩,
 ⟨(some 26),none,.lenL (.t 25)⟩,
 ⟨(some 27),none,.mv false (.c (.int .i64 0))⟩]) <|
 .block 0 <| .loop <|
 .seq (.ops [⟨(some 28),none,.bin .lss (.t 27) (.t 26)⟩]) <|
 .seq (.cond (.t 28)
 (.skip)
 (.exit 0)) <|
 .seq (.block 1 <| .seq (.ops [⟨(some 29),none,.mv false (.t 27)⟩,
 ⟨(some 30),none,.indexAddr 4 (.t 25) (.t 27)⟩,
 ⟨(some 31),none,.load .any true 4 (.t 30)⟩,
 ⟨(some 4),none,.alloc 200 [(.int .i64 0),(.int .i64 0),(.int .i64 0),(.int .i64 0)]⟩,
 ⟨(some 3),none,.mv true (.t 29)⟩,
 ⟨none,none,.store .any 4 (.t 4) (.t 31)⟩]) <|
 .seq (.dops [⟨(some 32),none,.load (.box 1) true 10 (.t 1)⟩,
 ⟨(some 33),none,.load (.box 4) true 4 (.t 4)⟩,
 ⟨(some 34),none,.call 114 [(.t 32),(.t 33)]⟩,
 ⟨(some 35),none,.not (.t 34)⟩,
 ⟨(some 36),none,.mv false (.t 35)⟩,
 ⟨(some 37),(some (36,false)),.mv false (.t 3)⟩,
 ⟨(some 38),(some (36,false)),.bin .gtr (.t 37) (.c (.int .i64 0))⟩,
 ⟨(some 39),(some (36,false)),.mv false (.t 38)⟩,
 ⟨(some 40),(some (39,true)),.fieldAddr 1 (.t 1)⟩,
 ⟨(some 41),(some (39,true)),.load (.box 1) false 1 (.t 40)⟩,
 ⟨(some 42),(some (39,true)),.mv false (.t 3)⟩,
 ⟨(some 43),(some (39,true)),.bin .sub (.t 42) (.c (.int .i64 1))⟩,
 ⟨(some 44),(some (39,true)),.indexAddr 4 (.t 41) (.t 43)⟩,
 ⟨(some 45),(some (39,true)),.load .ref true 4 (.t 44)⟩,
 ⟨(some 46),(some (39,true)),.load (.box 4) true 4 (.t 4)⟩,
 ⟨(some 47),(some (39,true)),.call 115 [(.t 45),(.t 46)]⟩,
 ⟨(some 48),(some (39,true)),.not (.t 47)⟩,
 ⟨(some 49),(some (36,false)),.pick (.t 39) (.t 48) (.c (.bool false))⟩,
 ⟨(some 50),none,.pick (.t 36) (.c (.bool true)) (.t 49)⟩]) <|
 .cond (.t 50)
 (.seq (.ops [⟨(some 2),none,.mv true (.c (.bool false))⟩]) <|
 .ret)
 (.skip)) <|
 .ops [⟨(some 51),none,.bin .add (.t 27) (.c (.int .i64 1))⟩,
 ⟨(some 27),none,.mv false (.t 51)⟩]) <|
 .seq (.ops [⟨(some 5),none,.mv true (.f 116)⟩]) <|
 .seq (.ops [⟨(some 52),none,.fieldAddr 0 (.t 1)⟩,
 ⟨(some 53),none,.load .any false 1 (.t 52)⟩,
 ⟨(some 54),none,.mv false (.t 5)⟩,
 ⟨(some 55),none,.call 77 [(.t 53),(.t 54)]⟩,
 ⟨(some 56),none,.not (.t 55)⟩,
 ⟨(some 57),none,.mv false (.t 56)⟩,
 ⟨(some 58),(some (57,true)),.fieldAddr 2 (.t 1)⟩,
 ⟨(some 59),(some (57,true)),.load .any true 2 (.t 58)⟩,
 ⟨(some 60),(some (57,true)),.call 117 [(.t 59),(.c (.int .i64 0)),(.c (.int .i64 9))]⟩,
 ⟨(some 61),none,.pick (.t 57) (.t 60) (.c (.bool false))⟩,
 ⟨(some 62),none,.mv false (.t 61)⟩,
 ⟨(some 63),(some (62,true)),.fieldAddr 4 (.t 1)⟩,
 ⟨(some 64),(some (62,true)),.load .any true 2 (.t 63)⟩,
 ⟨(some 65),(some (62,true)),.call 117 [(.t 64),(.c (.int .i64 0)),(.c (.int .i64 20))]⟩,
 ⟨(some 66),none,.pick (.t 62) (.t 65) (.c (.bool false))⟩,
 ⟨(some 67),none,.mv false (.t 66)⟩,
 ⟨(some 68),(some (67,true)),.fieldAddr 6 (.t 1)⟩,
 ⟨(some 69),(some (67,true)),.load .any false 1 (.t 68)⟩,
 ⟨(some 70),(some (67,true)),.call 113 [(.t 69),(.c (.int .i64 1)),(.c (.int .i64 20))]⟩,
 ⟨(some 71),none,.pick (.t 67) (.t 70) (.c (.bool false))⟩,
 ⟨(some 72),none,.mv false (.t 71)⟩,
 ⟨(some 73),(some (72,true)),.fieldAddr 7 (.t 1)⟩,
 ⟨(some 74),(some (72,true)),.load .any false 1 (.t 73)⟩,
 ⟨(some 75),(some (72,true)),.mkf (.func 119) [] [(.t 1)]⟩,
 ⟨(some 76),(some (72,true)),.call 118 [(.t 74),(.t 75)]⟩,
 ⟨(some 77),(some (72,true)),.not (.t 76)⟩,
 ⟨(some 78),none,.pick (.t 72) (.t 77) (.c (.bool false))⟩,
 ⟨(some 79),none,.mv false (.t 78)⟩,
 ⟨(some 80),(some (79,true)),.fieldAddr 8 (.t 1)⟩,
 ⟨(some 81),(some (79,true)),.load .any false 1 (.t 80)⟩,
 ⟨(some 82),(some (79,true)),.call 113 [(.t 81),(.c (.int .i64 1)),(.c (.int .i64 400))]⟩,
 ⟨(some 83),none,.pick (.t 79) (.t 82) (.c (.bool false))⟩,
 ⟨(some 84),none,.mv false (.t 83)⟩,
 ⟨(some 85),(some (84,true)),.fieldAddr 9 (.t 1)⟩,
 ⟨(some 86),(some (84,true)),.load .any false 1 (.t 85)⟩,
 ⟨(some 87),(some (84,true)),.call 113 [(.t 86),(.c (.int .i64 1)),(.c (.int .i64 3))]⟩,
 ⟨(some 88),none,.pick (.t 84) (.t 87) (.c (.bool false))⟩,
 ⟨(some 2),none,.mv true (.t 88)⟩]) <|
 .ret
noncomputable def c48:ACode:=(by refine ⟨?_,?_⟩;rotate_left;conv=>lhs;cbv:Ev 27 f48).1
noncomputable def c49:ACode:=(by refine ⟨?_,?_⟩;rotate_left;conv=>lhs;cbv:Ev 6 f49).1
noncomputable def c50:ACode:=(by refine ⟨?_,?_⟩;rotate_left;conv=>lhs;cbv:Ev 81 f50).1
noncomputable def c51:ACode:=(by refine ⟨?_,?_⟩;rotate_left;conv=>lhs;cbv:Ev 23 f51).1
noncomputable def c58:ACode:=(by refine ⟨?_,?_⟩;rotate_left;conv=>lhs;cbv:Ev 17 f58).1
noncomputable def c62:ACode:=(by refine ⟨?_,?_⟩;rotate_left;conv=>lhs;cbv:Ev 4 f62).1
noncomputable def c64:ACode:=(by refine ⟨?_,?_⟩;rotate_left;conv=>lhs;cbv:Ev 10 f64).1
noncomputable def c65:ACode:=(by refine ⟨?_,?_⟩;rotate_left;conv=>lhs;cbv:Ev 47 f65).1
noncomputable def c66:ACode:=(by refine ⟨?_,?_⟩;rotate_left;conv=>lhs;cbv:Ev 15 f66).1
noncomputable def c67:ACode:=(by refine ⟨?_,?_⟩;rotate_left;conv=>lhs;cbv:Ev 16 f67).1
noncomputable def c68:ACode:=(by refine ⟨?_,?_⟩;rotate_left;conv=>lhs;cbv:Ev 8 f68).1
noncomputable def c69:ACode:=(by refine ⟨?_,?_⟩;rotate_left;conv=>lhs;cbv:Ev 5 f69).1
noncomputable def c70:ACode:=(by refine ⟨?_,?_⟩;rotate_left;conv=>lhs;cbv:Ev 4 f70).1
noncomputable def c71:ACode:=(by refine ⟨?_,?_⟩;rotate_left;conv=>lhs;cbv:Ev 15 f71).1
noncomputable def c72:ACode:=(by refine ⟨?_,?_⟩;rotate_left;conv=>lhs;cbv:Ev 15 f72).1
noncomputable def c73:ACode:=(by refine ⟨?_,?_⟩;rotate_left;conv=>lhs;cbv:Ev 15 f73).1
noncomputable def c74:ACode:=(by refine ⟨?_,?_⟩;rotate_left;conv=>lhs;cbv:Ev 9 f74).1
noncomputable def c75:ACode:=(by refine ⟨?_,?_⟩;rotate_left;conv=>lhs;cbv:Ev 9 f75).1
noncomputable def c76:ACode:=(by refine ⟨?_,?_⟩;rotate_left;conv=>lhs;cbv:Ev 24 f76).1
noncomputable def c77:ACode:=(by refine ⟨?_,?_⟩;rotate_left;conv=>lhs;cbv:Ev 9 f77).1
noncomputable def c78:ACode:=(by refine ⟨?_,?_⟩;rotate_left;conv=>lhs;cbv:Ev 8 f78).1
noncomputable def c79:ACode:=(by refine ⟨?_,?_⟩;rotate_left;conv=>lhs;cbv:Ev 11 f79).1
noncomputable def c80:ACode:=(by refine ⟨?_,?_⟩;rotate_left;conv=>lhs;cbv:Ev 9 f80).1
noncomputable def c81:ACode:=(by refine ⟨?_,?_⟩;rotate_left;conv=>lhs;cbv:Ev 9 f81).1
noncomputable def c83:ACode:=(by refine ⟨?_,?_⟩;rotate_left;conv=>lhs;cbv:Ev 27 f83).1
noncomputable def c84:ACode:=(by refine ⟨?_,?_⟩;rotate_left;conv=>lhs;cbv:Ev 41 f84).1
noncomputable def c85:ACode:=(by refine ⟨?_,?_⟩;rotate_left;conv=>lhs;cbv:Ev 18 f85).1
noncomputable def c86:ACode:=(by refine ⟨?_,?_⟩;rotate_left;conv=>lhs;cbv:Ev 18 f86).1
noncomputable def c89:ACode:=(by refine ⟨?_,?_⟩;rotate_left;conv=>lhs;cbv:Ev 76 f89).1
noncomputable def c90:ACode:=(by refine ⟨?_,?_⟩;rotate_left;conv=>lhs;cbv:Ev 18 f90).1
noncomputable def c91:ACode:=(by refine ⟨?_,?_⟩;rotate_left;conv=>lhs;cbv:Ev 15 f91).1
noncomputable def c92:ACode:=(by refine ⟨?_,?_⟩;rotate_left;conv=>lhs;cbv:Ev 9 f92).1
noncomputable def c93:ACode:=(by refine ⟨?_,?_⟩;rotate_left;conv=>lhs;cbv:Ev 6 f93).1
noncomputable def c94:ACode:=(by refine ⟨?_,?_⟩;rotate_left;conv=>lhs;cbv:Ev 6 f94).1
noncomputable def c95:ACode:=(by refine ⟨?_,?_⟩;rotate_left;conv=>lhs;cbv:Ev 6 f95).1
noncomputable def c96:ACode:=(by refine ⟨?_,?_⟩;rotate_left;conv=>lhs;cbv:Ev 19 f96).1
noncomputable def c97:ACode:=(by refine ⟨?_,?_⟩;rotate_left;conv=>lhs;cbv:Ev 25 f97).1
noncomputable def c98:ACode := .seq (.ops [⟨(some 3),none,.box 108 2 (.t 0)⟩,
 ⟨(some 4),none,.box 108 2 (.t 1)⟩,
 ⟨(some 5),none,.mv true (.c (.bool false))⟩]) <|
 .seq (.dops [⟨(some 8),none,.fieldAddr 1 (.t 3)⟩,
 ⟨(some 9),none,.load (.box 3) false 1 (.t 8)⟩,
 ⟨(some 10),none,.lenL (.t 9)⟩,
 ⟨(some 11),none,.fieldAddr 1 (.t 4)⟩,
 ⟨(some 12),none,.load (.box 4) false 1 (.t 11)⟩,
 ⟨(some 13),none,.lenL (.t 12)⟩,
 ⟨(some 6),none,.mv true (.t 10)⟩,
 ⟨(some 7),none,.mv true (.t 13)⟩]) <|
 .seq (.dops [⟨(some 14),none,.mv false (.t 6)⟩,
 ⟨(some 15),none,.mv false (.t 7)⟩,
 ⟨(some 16),none,.bin .lss (.t 14) (.t 15)⟩,
 ⟨(some 17),none,.mv false (.t 16)⟩,
 ⟨(some 18),(some (17,false)),.mv false (.t 6)⟩,
 ⟨(some 19),(some (17,false)),.mv false (.t 7)⟩,
 ⟨(some 20),(some (17,false)),.bin .eql (.t 18) (.t 19)⟩,
 ⟨(some 21),(some (17,false)),.mv false (.t 20)⟩,
 ⟨(some 22),(some (21,true)),.load (.box 2) true 11 (.t 2)⟩,
 ⟨(some 23),(some (21,true)),.load (.box 3) true 2 (.t 3)⟩,
 ⟨(some 24),(some (21,true)),.call 99 [(.t 22),(.t 23)]⟩,
 ⟨(some 25),(some (21,true)),.load (.box 2) true 11 (.t 2)⟩,
 ⟨(some 26),(some (21,true)),.load (.box 4) true 2 (.t 4)⟩,
 ⟨(some 27),(some (21,true)),.call 99 [(.t 25),(.t 26)]⟩,
 ⟨(some 28),(some (21,true)),.bin .gtr (.t 24) (.t 27)⟩,
 ⟨(some 29),(some (17,false)),.pick (.t 21) (.t 28) (.c (.bool false))⟩,
 ⟨(some 30),none,.pick (.t 17) (.c (.bool true)) (.t 29)⟩,
 ⟨(some 5),none,.mv true (.t 30)⟩]) <|
 .ret
noncomputable def c99:ACode:=(by refine ⟨?_,?_⟩;rotate_left;conv=>lhs;cbv:Ev 18 f99).1
noncomputable def c113:ACode:=(by refine ⟨?_,?_⟩;rotate_left;conv=>lhs;cbv:Ev 15 f113).1
noncomputable def c114:ACode:=(by refine ⟨?_,?_⟩;rotate_left;conv=>lhs;cbv:Ev 26 f114).1
noncomputable def c115:ACode:=(by refine ⟨?_,?_⟩;rotate_left;conv=>lhs;cbv:Ev 24 f115).1
noncomputable def c116:ACode:=(by refine ⟨?_,?_⟩;rotate_left;conv=>lhs;cbv:Ev 6 f116).1
noncomputable def c117:ACode:=(by refine ⟨?_,?_⟩;rotate_left;conv=>lhs;cbv:Ev 20 f117).1
noncomputable def c118:ACode:=(by refine ⟨?_,?_⟩;rotate_left;conv=>lhs;cbv:Ev 9 f118).1
noncomputable def c119:ACode:=(by refine ⟨?_,?_⟩;rotate_left;conv=>lhs;cbv:Ev 8 f119).1
noncomputable def c120:ACode:=(by refine ⟨?_,?_⟩;rotate_left;conv=>lhs;cbv:Ev 27 f120).1
noncomputable def c121:ACode:=(by refine ⟨?_,?_⟩;rotate_left;conv=>lhs;cbv:Ev 14 f121).1
noncomputable def c122:ACode:=(by refine ⟨?_,?_⟩;rotate_left;conv=>lhs;cbv:Ev 50 f122).1
end Go.Proofs.Tryz
namespace Go.Proofs.Tryz
open Go.AL
set_option maxRecDepth 100000
set_option maxHeartbeats 4000000
noncomputable def c123:ACode:=(by refine ⟨?_,?_⟩;rotate_left;conv=>lhs;cbv:Ev 53 f123).1
noncomputable def c124:ACode:=(by refine ⟨?_,?_⟩;rotate_left;conv=>lhs;cbv:Ev 8 f124).1
noncomputable def c125:ACode:=(by refine ⟨?_,?_⟩;rotate_left;conv=>lhs;cbv:Ev 8 f125).1
noncomputable def c126:ACode:=(by refine ⟨?_,?_⟩;rotate_left;conv=>lhs;cbv:Ev 39 f126).1
noncomputable def c127:ACode:=(by refine ⟨?_,?_⟩;rotate_left;conv=>lhs;cbv:Ev 46 f127).1
noncomputable def c135:ACode:=(by refine ⟨?_,?_⟩;rotate_left;conv=>lhs;cbv:Ev 54 f135).1
noncomputable def c136:ACode:=(by refine ⟨?_,?_⟩;rotate_left;conv=>lhs;cbv:Ev 42 f136).1
noncomputable def c138:ACode:=(by refine ⟨?_,?_⟩;rotate_left;conv=>lhs;cbv:Ev 19 f138).1
noncomputable def c139:ACode:=(by refine ⟨?_,?_⟩;rotate_left;conv=>lhs;cbv:Ev 8 f139).1
noncomputable def c140:ACode:=(by refine ⟨?_,?_⟩;rotate_left;conv=>lhs;cbv:Ev 13 f140).1
noncomputable def c142:ACode := .seq (.ops [⟨(some 5),none,.mv true (.c (.bool false))⟩]) <|
 .seq (.ops [⟨(some 11),none,.load .any false 1 (.t 0)⟩,
 ⟨(some 12),none,.lenL (.t 11)⟩,
 ⟨(some 6),none,.alloc 3 [(.int .i64 0)]⟩,
 ⟨none,none,.store .any 1 (.t 6) (.t 12)⟩]) <|
 .seq (.seq (.ops [⟨(some 13),none,.load .any false 1 (.t 6)⟩,
 ⟨(some 14),none,.fieldAddr 0 (.t 1)⟩,
 ⟨(some 15),none,.fieldAddr 2 (.t 14)⟩,
 ⟨(some 16),none,.load .any false 1 (.t 15)⟩,
 ⟨(some 17),none,.lenL (.t 16)⟩,
 ⟨(some 18),none,.bin .eql (.t 13) (.t 17)⟩]) <|
 .cond (.t 18)
 (.seq (.dops [⟨(some 19),none,.load (.box 2) false 1 (.t 2)⟩,
 ⟨(some 20),none,.load (.box 0) false 1 (.t 0)⟩,
 ⟨(some 21),none,.call 124 [(.t 20)]⟩,
 ⟨(some 22),none,.callv (.t 19) [(.t 21)]⟩,
 ⟨(some 5),none,.mv true (.t 22)⟩]) <|
 .ret)
 (.skip)) <|
 .seq (.seq (.ops [⟨(some 23),none,.fieldAddr 0 (.t 1)⟩,
 ⟨(some 24),none,.fieldAddr 1 (.t 23)⟩,
 ⟨(some 25),none,.load .any false 1 (.t 24)⟩,
 ⟨(some 26),none,.lenL (.t 25)⟩,
 ⟨(some 27),none,.mv false (.c (.int .i64 0))⟩]) <|
 .block 0 <| .loop <|
 .seq (.ops [⟨(some 28),none,.bin .lss (.t 27) (.t 26)⟩]) <|
 .seq (.cond (.t 28)
 (.skip)
 (.exit 0)) <|
 .seq (.block 1 <| .seq (.ops [⟨(some 29),none,.indexAddr 1 (.t 25) (.t 27)⟩,
 ⟨(some 30),none,.load .any false 1 (.t 29)⟩,
 ⟨(some 8),none,.alloc 3 [(.int .i64 0)]⟩,
 ⟨none,none,.store .any 1 (.t 8) (.t 30)⟩]) <|
 .seq (.seq (.dops [⟨(some 31),none,.load (.box 6) false 1 (.t 6)⟩,
 ⟨(some 32),none,.bin .gtr (.t 31) (.c (.int .i64 0))⟩,
 ⟨(some 33),none,.mv false (.t 32)⟩,
 ⟨(some 34),(some (33,true)),.load (.box 8) false 1 (.t 8)⟩,
 ⟨(some 35),(some (33,true)),.load (.box 0) false 1 (.t 0)⟩,
 ⟨(some 36),(some (33,true)),.load (.box 6) false 1 (.t 6)⟩,
 ⟨(some 37),(some (33,true)),.bin .sub (.t 36) (.c (.int .i64 1))⟩,
 ⟨(some 38),(some (33,true)),.indexAddr 1 (.t 35) (.t 37)⟩,
 ⟨(some 39),(some (33,true)),.load .ref false 1 (.t 38)⟩,
 ⟨(some 40),(some (33,true)),.bin .leq (.t 34) (.t 39)⟩,
 ⟨(some 41),none,.pick (.t 33) (.t 40) (.c (.bool false))⟩,
 ⟨(some 42),none,.mv false (.t 41)⟩,
 ⟨(some 43),(some (42,false)),.load (.box 1) true 5 (.t 1)⟩,
 ⟨(some 44),(some (42,false)),.load (.box 6) false 1 (.t 6)⟩,
 ⟨(some 45),(some (42,false)),.load (.box 8) false 1 (.t 8)⟩,
 ⟨(some 46),(some (42,false)),.load (.box 3) false 1 (.t 3)⟩,
 ⟨(some 47),(some (42,false)),.call 143 [(.t 43),(.t 44),(.t 45),(.t 46)]⟩,
 ⟨(some 48),(some (42,false)),.not (.t 47)⟩,
 ⟨(some 49),none,.pick (.t 42) (.c (.bool true)) (.t 48)⟩]) <|
 .cond (.t 49)
 (.exit 1)
 (.skip)) <|
 .seq (.seq (.ops [⟨(some 50),none,.load .any false 1 (.t 6)⟩,
 ⟨(some 51),none,.bin .gtr (.t 50) (.c (.int .i64 0))⟩]) <|
 .cond (.t 51)
 (.seq (.ops [⟨(some 53),none,.mkf (.func 144) [] [(.t 1),(.t 6),(.t 0),(.t 8)]⟩,
 ⟨(some 54),none,.call 82 [(.t 53)]⟩,
 ⟨(some 52),none,.mv false (.t 54)⟩,
 ⟨(some 55),none,.extract (.t 52) 0⟩,
 ⟨(some 56),none,.extract (.t 52) 1⟩,
 ⟨(some 9),none,.alloc 93 [(.int .i64 0),(.int .i64 0)]⟩,
 ⟨none,none,.store .any 2 (.t 9) (.t 55)⟩,
 ⟨(some 10),none,.mv true (.t 56)⟩]) <|
 .seq (.ops [⟨(some 57),none,.mv false (.t 10)⟩,
 ⟨(some 58),none,.bin .neq (.t 57) (.c (.int .i64 0))⟩]) <|
 .cond (.t 58)
 (.exit 1)
 (.skip))
 (.skip)) <|
 .seq (.ops [⟨(some 59),none,.loadT .any (.t 0)⟩,
 ⟨(some 60),none,.load .any false 1 (.t 8)⟩,
 ⟨(some 61),none,.buildSlice 28 3 1 [(.t 60)]⟩,
 ⟨(some 62),none,.append 28 3 1 8 (.t 59) (.t 61)⟩,
 ⟨none,none,.store .any 1 (.t 0) (.t 62)⟩]) <|
 .seq (.seq (.ops [⟨(some 63),none,.load .any false 1 (.t 4)⟩,
 ⟨(some 64),none,.callv (.t 63) []⟩,
 ⟨(some 65),none,.not (.t 64)⟩]) <|
 .cond (.t 65)
 (.seq (.ops [⟨(some 5),none,.mv true (.c (.bool false))⟩]) <|
 .ret)
 (.skip)) <|
 .ops [⟨(some 66),none,.load .any false 1 (.t 0)⟩,
 ⟨(some 67),none,.load .any false 1 (.t 6)⟩,
 ⟨(some 68),none,.sliceL 1 (.t 66) none (some (.t 67))⟩,
 ⟨none,none,.store .any 1 (.t 0) (.t 68)⟩]) <|
 .ops [⟨(some 69),none,.bin .add (.t 27) (.c (.int .i64 1))⟩,
 ⟨(some 27),none,.mv false (.t 69)⟩]) <|
 .seq (.ops [⟨(some 5),none,.mv true (.c (.bool true))⟩]) <|
 .ret
noncomputable def c143:ACode:=(by refine ⟨?_,?_⟩;rotate_left;conv=>lhs;cbv:Ev 75 f143).1
noncomputable def c144:ACode:=(by refine ⟨?_,?_⟩;rotate_left;conv=>lhs;cbv:Ev 14 f144).1
noncomputable def c145:ACode:=(by refine ⟨?_,?_⟩;rotate_left;conv=>lhs;cbv:Ev 19 f145).1
noncomputable def c146:ACode:=(by refine ⟨?_,?_⟩;rotate_left;conv=>lhs;cbv:Ev 19 f146).1
noncomputable def c147:ACode:=(by refine ⟨?_,?_⟩;rotate_left;conv=>lhs;cbv:Ev 19 f147).1
noncomputable def c148:ACode:=(by refine ⟨?_,?_⟩;rotate_left;conv=>lhs;cbv:Ev 19 f148).1
noncomputable def c149:ACode:=(by refine ⟨?_,?_⟩;rotate_left;conv=>lhs;cbv:Ev 16 f149).1
noncomputable def c150:ACode:=(by refine ⟨?_,?_⟩;rotate_left;conv=>lhs;cbv:Ev 14 f150).1
noncomputable def c151:ACode:=(by refine ⟨?_,?_⟩;rotate_left;conv=>lhs;cbv:Ev 19 f151).1
noncomputable def c160:ACode:=(by refine ⟨?_,?_⟩;rotate_left;conv=>lhs;cbv:Ev 19 f160).1
noncomputable def c161:ACode:=(by refine ⟨?_,?_⟩;rotate_left;conv=>lhs;cbv:Ev 11 f161).1
noncomputable def c162:ACode:=(by refine ⟨?_,?_⟩;rotate_left;conv=>lhs;cbv:Ev 35 f162).1
noncomputable def c163:ACode:=(by refine ⟨?_,?_⟩;rotate_left;conv=>lhs;cbv:Ev 17 f163).1
noncomputable def c164:ACode:=(by refine ⟨?_,?_⟩;rotate_left;conv=>lhs;cbv:Ev 17 f164).1
noncomputable def c165:ACode:=(by refine ⟨?_,?_⟩;rotate_left;conv=>lhs;cbv:Ev 43 f165).1
noncomputable def c166:ACode:=(by refine ⟨?_,?_⟩;rotate_left;conv=>lhs;cbv:Ev 16 f166).1
noncomputable def c170:ACode:=(by refine ⟨?_,?_⟩;rotate_left;conv=>lhs;cbv:Ev 26 f170).1
noncomputable def c171:ACode:=(by refine ⟨?_,?_⟩;rotate_left;conv=>lhs;cbv:Ev 11 f171).1
noncomputable def c172:ACode:=(by refine ⟨?_,?_⟩;rotate_left;conv=>lhs;cbv:Ev 9 f172).1
noncomputable def c176:ACode:=(by refine ⟨?_,?_⟩;rotate_left;conv=>lhs;cbv:Ev 14 f176).1
end Go.Proofs.Tryz
