/-
  A part of the proof: Cd4.
-/
import Derived.Test.YtjdgdinalodjfaaGreatDoorA2
set_option linter.all false
set_option linter.unusedVariables false
set_option linter.unusedSimpArgs false
set_option linter.deprecated false
namespace Go.Proofs.Tryz
open Go.AL
noncomputable def c131 : ACode := .seq (.ops [⟨(some 3),none,.box 103 11 (.t 0)⟩,
 ⟨(some 4),none,.box 109 2 (.t 1)⟩,
 ⟨(some 6),none,.mv true (.c (.int .i64 0))⟩]) <|
 .seq (.ops [⟨(some 7),none,.mv true (.c (.slice .nil []))⟩]) <|
 .seq (.seq (.ops [⟨(some 10),none,.fieldAddr 0 (.t 4)⟩,
 ⟨(some 11),none,.load .any false 1 (.t 10)⟩,
 ⟨(some 12),none,.lenL (.t 11)⟩,
 ⟨(some 13),none,.mv false (.c (.int .i64 0))⟩]) <|
 .block 0 <| .loop <|
 .seq (.ops [⟨(some 14),none,.bin .lss (.t 13) (.t 12)⟩]) <|
 .seq (.cond (.t 14)
 (.skip)
 (.exit 0)) <|
 .seq (.block 1 <| .seq (.ops [⟨(some 15),none,.indexAddr 2 (.t 11) (.t 13)⟩,
 ⟨(some 16),none,.load .any true 2 (.t 15)⟩,
 ⟨(some 9),none,.alloc 111 [(.int .i64 0),(.int .i64 0)]⟩,
 ⟨none,none,.store .any 2 (.t 9) (.t 16)⟩]) <|
 .dops [⟨(some 17),none,.mv true (.t 7)⟩,
 ⟨(some 18),none,.fieldAddr 0 (.t 3)⟩,
 ⟨(some 19),none,.fieldAddr 0 (.t 18)⟩,
 ⟨(some 20),none,.load (.box 3) false 1 (.t 19)⟩,
 ⟨(some 21),none,.load (.box 3) true 11 (.t 3)⟩,
 ⟨(some 22),none,.load (.box 9) true 2 (.t 9)⟩,
 ⟨(some 23),none,.call 82 [(.t 21),(.t 22)]⟩,
 ⟨(some 24),none,.indexAddr 1 (.t 20) (.t 23)⟩,
 ⟨(some 25),none,.load .ref false 1 (.t 24)⟩,
 ⟨(some 26),none,.buildSlice 22 3 1 [(.t 25)]⟩,
 ⟨(some 27),none,.append 22 3 1 8 (.t 17) (.t 26)⟩,
 ⟨(some 7),none,.mv true (.t 27)⟩]) <|
 .ops [⟨(some 28),none,.bin .add (.t 13) (.c (.int .i64 1))⟩,
 ⟨(some 13),none,.mv false (.t 28)⟩]) <|
 .seq (.seq (.ops [⟨(some 29),none,.fieldAddr 1 (.t 4)⟩,
 ⟨(some 30),none,.load .any false 1 (.t 29)⟩]) <|
 .cond (.t 30)
 (.ops [⟨(some 31),none,.mv true (.t 7)⟩,
 ⟨(some 32),none,.fieldAddr 0 (.t 3)⟩,
 ⟨(some 33),none,.fieldAddr 6 (.t 32)⟩,
 ⟨(some 34),none,.load .any false 1 (.t 33)⟩,
 ⟨(some 35),none,.buildSlice 22 3 1 [(.t 34)]⟩,
 ⟨(some 36),none,.append 22 3 1 8 (.t 31) (.t 35)⟩,
 ⟨(some 7),none,.mv true (.t 36)⟩])
 (.skip)) <|
 .seq (.ops [⟨(some 37),none,.mv false (.t 7)⟩,
 ⟨(some 38),none,.call 169 [(.t 37)]⟩,
 ⟨(some 6),none,.mv true (.t 38)⟩]) <|
 .ret
noncomputable def c132 : ACode := .seq (.ops [⟨(some 3),none,.box 103 11 (.t 0)⟩,
 ⟨(some 4),none,.box 109 2 (.t 1)⟩,
 ⟨(some 6),none,.mv true (.c (.int .i64 0))⟩]) <|
 .seq (.ops [⟨(some 7),none,.mv true (.c (.slice .nil []))⟩]) <|
 .seq (.seq (.ops [⟨(some 10),none,.fieldAddr 0 (.t 4)⟩,
 ⟨(some 11),none,.load .any false 1 (.t 10)⟩,
 ⟨(some 12),none,.lenL (.t 11)⟩,
 ⟨(some 13),none,.mv false (.c (.int .i64 0))⟩]) <|
 .block 0 <| .loop <|
 .seq (.ops [⟨(some 14),none,.bin .lss (.t 13) (.t 12)⟩]) <|
 .seq (.cond (.t 14)
 (.skip)
 (.exit 0)) <|
 .seq (.block 1 <| .seq (.ops [⟨(some 15),none,.mv false (.t 13)⟩,
 ⟨(some 16),none,.indexAddr 2 (.t 11) (.t 13)⟩,
 ⟨(some 17),none,.load .any true 2 (.t 16)⟩,
 ⟨(some 9),none,.alloc 111 [(.int .i64 0),(.int .i64 0)]⟩,
 ⟨(some 8),none,.mv true (.t 15)⟩,
 ⟨none,none,.store .any 2 (.t 9) (.t 17)⟩]) <|
 .seq (.ops [⟨(some 18),none,.mv false (.t 8)⟩,
 ⟨(some 19),none,.bin .gtr (.t 18) (.c (.int .i64 0))⟩]) <|
 .cond (.t 19)
 (.dops [⟨(some 20),none,.mv true (.t 7)⟩,
 ⟨(some 21),none,.load (.box 3) true 11 (.t 3)⟩,
 ⟨(some 22),none,.fieldAddr 0 (.t 4)⟩,
 ⟨(some 23),none,.load (.box 4) false 1 (.t 22)⟩,
 ⟨(some 24),none,.mv false (.t 8)⟩,
 ⟨(some 25),none,.bin .sub (.t 24) (.c (.int .i64 1))⟩,
 ⟨(some 26),none,.indexAddr 2 (.t 23) (.t 25)⟩,
 ⟨(some 27),none,.load .ref true 2 (.t 26)⟩,
 ⟨(some 28),none,.load (.box 9) true 2 (.t 9)⟩,
 ⟨(some 29),none,.mv false (.t 2)⟩,
 ⟨(some 30),none,.call 83 [(.t 21),(.t 27),(.t 28),(.t 29)]⟩,
 ⟨(some 31),none,.buildSlice 22 3 1 [(.t 30)]⟩,
 ⟨(some 32),none,.append 22 3 1 8 (.t 20) (.t 31)⟩,
 ⟨(some 7),none,.mv true (.t 32)⟩])
 (.skip)) <|
 .ops [⟨(some 33),none,.bin .add (.t 13) (.c (.int .i64 1))⟩,
 ⟨(some 13),none,.mv false (.t 33)⟩]) <|
 .seq (.seq (.ops [⟨(some 34),none,.fieldAddr 1 (.t 4)⟩,
 ⟨(some 35),none,.load .any false 1 (.t 34)⟩]) <|
 .cond (.t 35)
 (.ops [⟨(some 36),none,.mv true (.t 7)⟩,
 ⟨(some 37),none,.fieldAddr 0 (.t 3)⟩,
 ⟨(some 38),none,.fieldAddr 2 (.t 37)⟩,
 ⟨(some 39),none,.load .any true 2 (.t 38)⟩,
 ⟨(some 40),none,.mv false (.t 2)⟩,
 ⟨(some 41),none,.call 130 [(.t 39),(.t 40)]⟩,
 ⟨(some 42),none,.buildSlice 22 3 1 [(.t 41)]⟩,
 ⟨(some 43),none,.append 22 3 1 8 (.t 36) (.t 42)⟩,
 ⟨(some 7),none,.mv true (.t 43)⟩])
 (.skip)) <|
 .seq (.ops [⟨(some 44),none,.mv false (.t 7)⟩,
 ⟨(some 45),none,.call 169 [(.t 44)]⟩,
 ⟨(some 6),none,.mv true (.t 45)⟩]) <|
 .ret
noncomputable def c133 : ACode := .seq (.ops [⟨(some 5),none,.load .any true 11 (.t 0)⟩,
 ⟨(some 6),none,.load .any true 2 (.t 1)⟩,
 ⟨(some 7),none,.call 81 [(.t 5),(.t 6)]⟩,
 ⟨(some 8),none,.lenL (.t 7)⟩,
 ⟨(some 9),none,.mv false (.c (.int .i64 0))⟩]) <|
 .block 0 <| .loop <|
 .seq (.ops [⟨(some 10),none,.bin .lss (.t 9) (.t 8)⟩]) <|
 .seq (.cond (.t 10)
 (.skip)
 (.exit 0)) <|
 .seq (.block 1 <| .seq (.ops [⟨(some 11),none,.mv false (.t 9)⟩,
 ⟨(some 12),none,.indexAddr 2 (.t 7) (.t 9)⟩,
 ⟨(some 13),none,.load .any true 2 (.t 12)⟩,
 ⟨(some 4),none,.alloc 109 [(.slice .nil []),(.bool false)]⟩,
 ⟨(some 3),none,.mv true (.t 11)⟩,
 ⟨none,none,.store .any 2 (.t 4) (.t 13)⟩]) <|
 .seq (.dops [⟨(some 14),none,.load (.box 0) true 11 (.t 0)⟩,
 ⟨(some 15),none,.load (.box 4) true 2 (.t 4)⟩,
 ⟨(some 16),none,.load (.box 2) false 1 (.t 2)⟩,
 ⟨(some 17),none,.call 84 [(.t 14),(.t 15),(.t 16)]⟩,
 ⟨(some 18),none,.fieldAddr 0 (.t 0)⟩,
 ⟨(some 19),none,.fieldAddr 8 (.t 18)⟩,
 ⟨(some 20),none,.load (.box 0) false 1 (.t 19)⟩,
 ⟨(some 21),none,.bin .gtr (.t 17) (.t 20)⟩]) <|
 .cond (.t 21)
 (.ops [⟨(some 22),none,.mv false (.t 3)⟩,
 ⟨(some 23),none,.build [(.int .i64 0)] [(0,1,(.t 22))]⟩,
 ⟨(some 24),none,.iface 161 (.t 23)⟩,
 ⟨none,none,.panic (.t 24)⟩])
 (.skip)) <|
 .ops [⟨(some 25),none,.bin .add (.t 9) (.c (.int .i64 1))⟩,
 ⟨(some 9),none,.mv false (.t 25)⟩]
noncomputable def c134 : ACode := .seq (.ops [⟨(some 2),none,.box 28 10 (.t 0)⟩,
 ⟨(some 4),none,.mv true (.c (.bool false))⟩]) <|
 .seq (.ops [⟨(some 5),none,.mv false (.t 1)⟩,
 ⟨(some 6),none,.fieldAddr 0 (.t 2)⟩,
 ⟨(some 7),none,.load .any false 1 (.t 6)⟩,
 ⟨(some 8),none,.lenL (.t 7)⟩,
 ⟨(some 9),none,.bin .sub (.t 8) (.c (.int .i64 1))⟩,
 ⟨(some 10),none,.call 72 [(.t 5),(.c (.int .i64 0)),(.t 9)]⟩,
 ⟨(some 4),none,.mv true (.t 10)⟩]) <|
 .ret
noncomputable def c135 : ACode := .seq (.ops [⟨(some 2),none,.box 28 10 (.t 0)⟩,
 ⟨(some 3),none,.box 45 2 (.t 1)⟩,
 ⟨(some 4),none,.mv true (.c (.int .i64 0))⟩]) <|
 .seq (.seq (.ops [⟨(some 5),none,.fieldAddr 1 (.t 3)⟩,
 ⟨(some 6),none,.load .any false 1 (.t 5)⟩,
 ⟨(some 7),none,.bin .lss (.t 6) (.c (.int .i64 0))⟩]) <|
 .cond (.t 7)
 (.seq (.ops [⟨(some 8),none,.fieldAddr 6 (.t 2)⟩,
 ⟨(some 9),none,.load .any false 1 (.t 8)⟩,
 ⟨(some 4),none,.mv true (.t 9)⟩]) <|
 .ret)
 (.skip)) <|
 .seq (.ops [⟨(some 10),none,.fieldAddr 0 (.t 2)⟩,
 ⟨(some 11),none,.load .any false 1 (.t 10)⟩,
 ⟨(some 12),none,.fieldAddr 1 (.t 3)⟩,
 ⟨(some 13),none,.load .any false 1 (.t 12)⟩,
 ⟨(some 14),none,.indexAddr 1 (.t 11) (.t 13)⟩,
 ⟨(some 15),none,.load .any false 1 (.t 14)⟩,
 ⟨(some 4),none,.mv true (.t 15)⟩]) <|
 .ret
noncomputable def c136 : ACode := .seq (.ops [⟨(some 2),none,.box 28 10 (.t 0)⟩,
 ⟨(some 3),none,.box 119 4 (.t 1)⟩,
 ⟨(some 4),none,.mv true (.c (.bool false))⟩]) <|
 .seq (.ops [⟨(some 5),none,.fieldAddr 0 (.t 3)⟩,
 ⟨(some 6),none,.load .any false 1 (.t 5)⟩,
 ⟨(some 7),none,.fieldAddr 0 (.t 2)⟩,
 ⟨(some 8),none,.load .any false 1 (.t 7)⟩,
 ⟨(some 9),none,.lenL (.t 8)⟩,
 ⟨(some 10),none,.bin .sub (.t 9) (.c (.int .i64 1))⟩,
 ⟨(some 11),none,.call 128 [(.t 6),(.c (.int .i64 0)),(.t 10)]⟩,
 ⟨(some 12),none,.mv false (.t 11)⟩,
 ⟨(some 13),(some (12,true)),.fieldAddr 1 (.t 3)⟩,
 ⟨(some 14),(some (12,true)),.load .any false 1 (.t 13)⟩,
 ⟨(some 15),(some (12,true)),.fieldAddr 0 (.t 2)⟩,
 ⟨(some 16),(some (12,true)),.load .any false 1 (.t 15)⟩,
 ⟨(some 17),(some (12,true)),.lenL (.t 16)⟩,
 ⟨(some 18),(some (12,true)),.bin .sub (.t 17) (.c (.int .i64 1))⟩,
 ⟨(some 19),(some (12,true)),.call 128 [(.t 14),(.c (.int .i64 0)),(.t 18)]⟩,
 ⟨(some 20),none,.pick (.t 12) (.t 19) (.c (.bool false))⟩,
 ⟨(some 21),none,.mv false (.t 20)⟩,
 ⟨(some 22),(some (21,true)),.fieldAddr 2 (.t 3)⟩,
 ⟨(some 23),(some (21,true)),.load .any true 2 (.t 22)⟩,
 ⟨(some 24),(some (21,true)),.call 140 [(.t 23),(.c (.int .i64 0)),(.c (.int .i64 9))]⟩,
 ⟨(some 25),none,.pick (.t 21) (.t 24) (.c (.bool false))⟩,
 ⟨(some 4),none,.mv true (.t 25)⟩]) <|
 .ret
noncomputable def c137 : ACode := .seq (.ops [⟨(some 2),none,.box 119 4 (.t 0)⟩,
 ⟨(some 3),none,.box 119 4 (.t 1)⟩,
 ⟨(some 4),none,.mv true (.c (.bool false))⟩]) <|
 .seq (.ops [⟨(some 5),none,.fieldAddr 0 (.t 2)⟩,
 ⟨(some 6),none,.load .any false 1 (.t 5)⟩,
 ⟨(some 7),none,.fieldAddr 0 (.t 3)⟩,
 ⟨(some 8),none,.load .any false 1 (.t 7)⟩,
 ⟨(some 9),none,.bin .lss (.t 6) (.t 8)⟩,
 ⟨(some 10),none,.mv false (.t 9)⟩,
 ⟨(some 11),(some (10,false)),.fieldAddr 0 (.t 2)⟩,
 ⟨(some 12),(some (10,false)),.load .any false 1 (.t 11)⟩,
 ⟨(some 13),(some (10,false)),.fieldAddr 0 (.t 3)⟩,
 ⟨(some 14),(some (10,false)),.load .any false 1 (.t 13)⟩,
 ⟨(some 15),(some (10,false)),.bin .eql (.t 12) (.t 14)⟩,
 ⟨(some 16),(some (10,false)),.mv false (.t 15)⟩,
 ⟨(some 17),(some (16,true)),.fieldAddr 1 (.t 2)⟩,
 ⟨(some 18),(some (16,true)),.load .any false 1 (.t 17)⟩,
 ⟨(some 19),(some (16,true)),.fieldAddr 1 (.t 3)⟩,
 ⟨(some 20),(some (16,true)),.load .any false 1 (.t 19)⟩,
 ⟨(some 21),(some (16,true)),.bin .lss (.t 18) (.t 20)⟩,
 ⟨(some 22),(some (10,false)),.pick (.t 16) (.t 21) (.c (.bool false))⟩,
 ⟨(some 23),none,.pick (.t 10) (.c (.bool true)) (.t 22)⟩,
 ⟨(some 4),none,.mv true (.t 23)⟩]) <|
 .ret
noncomputable def c138 : ACode := .seq (.ops [⟨(some 2),none,.mv true (.c (.bool false))⟩]) <|
 .seq (.ops [⟨(some 3),none,.mv false (.t 0)⟩,
 ⟨(some 4),none,.call 128 [(.t 3),(.c (.int .i64 1)),(.c (.int .i64 20))]⟩,
 ⟨(some 5),none,.not (.t 4)⟩,
 ⟨(some 2),none,.mv true (.t 5)⟩]) <|
 .ret
noncomputable def c139 : ACode := .seq (.ops [⟨(some 4),none,.mv true (.c (.bool false))⟩]) <|
 .seq (.ops [⟨(some 5),none,.mv false (.t 0)⟩,
 ⟨(some 6),none,.mv false (.t 1)⟩,
 ⟨(some 7),none,.call 170 [(.t 5),(.t 6)]⟩,
 ⟨(some 8),none,.bin .geq (.t 7) (.c (.int .i64 0))⟩,
 ⟨(some 4),none,.mv true (.t 8)⟩]) <|
 .ret
noncomputable def c140 : ACode := .seq (.ops [⟨(some 3),none,.box 25 2 (.t 0)⟩,
 ⟨(some 6),none,.mv true (.c (.bool false))⟩]) <|
 .seq (.ops [⟨(some 7),none,.fieldAddr 0 (.t 3)⟩,
 ⟨(some 8),none,.load .any false 1 (.t 7)⟩,
 ⟨(some 9),none,.mv false (.t 1)⟩,
 ⟨(some 10),none,.mv false (.t 2)⟩,
 ⟨(some 11),none,.call 128 [(.t 8),(.t 9),(.t 10)]⟩,
 ⟨(some 12),none,.mv false (.t 11)⟩,
 ⟨(some 13),(some (12,true)),.fieldAddr 1 (.t 3)⟩,
 ⟨(some 14),(some (12,true)),.load .any false 1 (.t 13)⟩,
 ⟨(some 15),(some (12,true)),.fieldAddr 0 (.t 3)⟩,
 ⟨(some 16),(some (12,true)),.load .any false 1 (.t 15)⟩,
 ⟨(some 17),(some (12,true)),.mv false (.t 2)⟩,
 ⟨(some 18),(some (12,true)),.call 128 [(.t 14),(.t 16),(.t 17)]⟩,
 ⟨(some 19),none,.pick (.t 12) (.t 18) (.c (.bool false))⟩,
 ⟨(some 6),none,.mv true (.t 19)⟩]) <|
 .ret
noncomputable def c141 : ACode := .seq (.ops [⟨(some 4),none,.mv true (.c (.bool false))⟩]) <|
 .seq (.ops [⟨(some 5),none,.mv false (.t 0)⟩,
 ⟨(some 6),none,.mv false (.t 1)⟩,
 ⟨(some 7),none,.call 171 [(.t 5),(.t 6)]⟩,
 ⟨(some 8),none,.bin .geq (.t 7) (.c (.int .i64 0))⟩,
 ⟨(some 4),none,.mv true (.t 8)⟩]) <|
 .ret
noncomputable def c142 : ACode := .seq (.ops [⟨(some 2),none,.box 77 3 (.t 0)⟩,
 ⟨(some 3),none,.mv true (.c (.bool false))⟩]) <|
 .seq (.ops [⟨(some 4),none,.load .any true 10 (.t 1)⟩,
 ⟨(some 5),none,.load .any true 3 (.t 2)⟩,
 ⟨(some 6),none,.call 143 [(.t 4),(.t 5)]⟩,
 ⟨(some 7),none,.not (.t 6)⟩,
 ⟨(some 3),none,.mv true (.t 7)⟩]) <|
 .ret
noncomputable def c143 : ACode := .seq (.ops [⟨(some 2),none,.box 28 10 (.t 0)⟩,
 ⟨(some 3),none,.box 77 3 (.t 1)⟩,
 ⟨(some 4),none,.mv true (.c (.bool false))⟩]) <|
 .seq (.ops [⟨(some 7),none,.fieldAddr 0 (.t 3)⟩,
 ⟨(some 8),none,.load .any false 1 (.t 7)⟩,
 ⟨(some 9),none,.lenL (.t 8)⟩,
 ⟨(some 5),none,.mv true (.t 9)⟩]) <|
 .seq (.ops [⟨(some 10),none,.mkf (.func 172) [] [(.t 2)]⟩,
 ⟨(some 6),none,.mv true (.t 10)⟩]) <|
 .seq (.ops [⟨(some 11),none,.mv false (.t 5)⟩,
 ⟨(some 12),none,.call 128 [(.t 11),(.c (.int .i64 1)),(.c (.int .i64 6))]⟩,
 ⟨(some 13),none,.mv false (.t 12)⟩,
 ⟨(some 14),(some (13,true)),.fieldAddr 0 (.t 3)⟩,
 ⟨(some 15),(some (13,true)),.load .any false 1 (.t 14)⟩,
 ⟨(some 16),(some (13,true)),.mv false (.t 6)⟩,
 ⟨(some 17),(some (13,true)),.call 139 [(.t 15),(.t 16)]⟩,
 ⟨(some 18),(some (13,true)),.not (.t 17)⟩,
 ⟨(some 19),none,.pick (.t 13) (.t 18) (.c (.bool false))⟩,
 ⟨(some 20),none,.mv false (.t 19)⟩,
 ⟨(some 21),(some (20,true)),.fieldAddr 1 (.t 3)⟩,
 ⟨(some 22),(some (20,true)),.load .any false 1 (.t 21)⟩,
 ⟨(some 23),(some (20,true)),.mv false (.t 5)⟩,
 ⟨(some 24),(some (20,true)),.bin .sub (.t 23) (.c (.int .i64 1))⟩,
 ⟨(some 25),(some (20,true)),.call 150 [(.t 22),(.c (.int .i64 1)),(.t 24)]⟩,
 ⟨(some 26),none,.pick (.t 20) (.t 25) (.c (.bool false))⟩,
 ⟨(some 4),none,.mv true (.t 26)⟩]) <|
 .ret
noncomputable def c144 : ACode := .seq (.ops [⟨(some 3),none,.box 49 1 (.t 0)⟩]) <|
 .seq (.ops [⟨(some 7),none,.fieldAddr 0 (.t 1)⟩,
 ⟨(some 8),none,.load .any true 10 (.t 7)⟩,
 ⟨(some 9),none,.load .any false 1 (.t 2)⟩,
 ⟨(some 10),none,.call 145 [(.t 8),(.t 9)]⟩,
 ⟨(some 4),none,.alloc 29 [(.slice .nil [])]⟩,
 ⟨none,none,.store .any 1 (.t 4) (.t 10)⟩]) <|
 .seq (.ops [⟨(some 5),none,.alloc 29 [(.slice .nil [])]⟩]) <|
 .seq (.ops [⟨(some 6),none,.alloc 33 [(.val .nilFunc)]⟩]) <|
 .seq (.ops [⟨(some 11),none,.mkf (.func 146) [] [(.t 4),(.t 3),(.t 2),(.t 5),(.t 1),(.t 6)]⟩,
 ⟨none,none,.store .any 1 (.t 6) (.t 11)⟩]) <|
 .ops [⟨(some 12),none,.load .any false 1 (.t 6)⟩,
 ⟨(some 13),none,.callv (.t 12) [(.c (.int .i64 0))]⟩]
noncomputable def c145 : ACode := .seq (.ops [⟨(some 2),none,.box 28 10 (.t 0)⟩,
 ⟨(some 4),none,.mv true (.c (.slice .nil []))⟩]) <|
 .seq (.ops [⟨(some 5),none,.mv true (.c (.slice .nil []))⟩]) <|
 .seq (.seq (.ops [⟨(some 9),none,.fieldAddr 7 (.t 2)⟩,
 ⟨(some 10),none,.load .any false 1 (.t 9)⟩,
 ⟨(some 11),none,.lenL (.t 10)⟩,
 ⟨(some 12),none,.mv false (.c (.int .i64 0))⟩]) <|
 .block 0 <| .loop <|
 .seq (.ops [⟨(some 13),none,.bin .lss (.t 12) (.t 11)⟩]) <|
 .seq (.cond (.t 13)
 (.skip)
 (.exit 0)) <|
 .seq (.block 1 <| .seq (.ops [⟨(some 14),none,.mv false (.t 12)⟩,
 ⟨(some 6),none,.mv true (.t 14)⟩]) <|
 .seq (.seq (.ops [⟨(some 15),none,.mv false (.t 1)⟩,
 ⟨(some 16),none,.mv false (.t 6)⟩,
 ⟨(some 17),none,.call 129 [(.t 15),(.t 16)]⟩]) <|
 .cond (.t 17)
 (.exit 1)
 (.skip)) <|
 .seq (.seq (.ops [⟨(some 18),none,.fieldAddr 7 (.t 2)⟩,
 ⟨(some 19),none,.load .any false 1 (.t 18)⟩,
 ⟨(some 20),none,.mv false (.t 6)⟩,
 ⟨(some 21),none,.indexAddr 3 (.t 19) (.t 20)⟩,
 ⟨(some 22),none,.fieldAddr 1 (.t 21)⟩,
 ⟨(some 23),none,.load .any false 1 (.t 22)⟩,
 ⟨(some 24),none,.lenL (.t 23)⟩,
 ⟨(some 25),none,.mv false (.c (.int .i64 0))⟩]) <|
 .block 2 <| .loop <|
 .seq (.ops [⟨(some 26),none,.bin .lss (.t 25) (.t 24)⟩]) <|
 .seq (.cond (.t 26)
 (.skip)
 (.exit 2)) <|
 .seq (.block 3 <| .seq (.ops [⟨(some 27),none,.indexAddr 1 (.t 23) (.t 25)⟩,
 ⟨(some 28),none,.load .any false 1 (.t 27)⟩,
 ⟨(some 8),none,.mv true (.t 28)⟩]) <|
 .ops [⟨(some 29),none,.mv true (.t 5)⟩,
 ⟨(some 30),none,.mv false (.t 6)⟩,
 ⟨(some 31),none,.mv false (.t 8)⟩,
 ⟨(some 32),none,.build [(.int .i64 0),(.int .i64 0)] [(0,1,(.t 30)),(1,1,(.t 31))]⟩,
 ⟨(some 33),none,.buildSlice 29 116 2 [(.t 32)]⟩,
 ⟨(some 34),none,.append 29 116 2 16 (.t 29) (.t 33)⟩,
 ⟨(some 5),none,.mv true (.t 34)⟩]) <|
 .ops [⟨(some 35),none,.bin .add (.t 25) (.c (.int .i64 1))⟩,
 ⟨(some 25),none,.mv false (.t 35)⟩]) <|
 .ops [⟨(some 36),none,.mv true (.t 5)⟩,
 ⟨(some 37),none,.mv false (.t 6)⟩,
 ⟨(some 38),none,.fieldAddr 7 (.t 2)⟩,
 ⟨(some 39),none,.load .any false 1 (.t 38)⟩,
 ⟨(some 40),none,.mv false (.t 6)⟩,
 ⟨(some 41),none,.indexAddr 3 (.t 39) (.t 40)⟩,
 ⟨(some 42),none,.fieldAddr 0 (.t 41)⟩,
 ⟨(some 43),none,.load .any false 1 (.t 42)⟩,
 ⟨(some 44),none,.lenL (.t 43)⟩,
 ⟨(some 45),none,.build [(.int .i64 0),(.int .i64 0)] [(0,1,(.t 37)),(1,1,(.t 44))]⟩,
 ⟨(some 46),none,.buildSlice 29 116 2 [(.t 45)]⟩,
 ⟨(some 47),none,.append 29 116 2 16 (.t 36) (.t 46)⟩,
 ⟨(some 5),none,.mv true (.t 47)⟩]) <|
 .ops [⟨(some 48),none,.bin .add (.t 12) (.c (.int .i64 1))⟩,
 ⟨(some 12),none,.mv false (.t 48)⟩]) <|
 .seq (.ops [⟨(some 49),none,.mv false (.t 5)⟩,
 ⟨(some 4),none,.mv true (.t 49)⟩]) <|
 .ret
noncomputable def c146 : ACode := .seq (.ops [⟨(some 8),none,.mv true (.c (.bool false))⟩]) <|
 .seq (.seq (.ops [⟨(some 10),none,.mv false (.t 0)⟩,
 ⟨(some 11),none,.load .any false 1 (.t 1)⟩,
 ⟨(some 12),none,.lenL (.t 11)⟩,
 ⟨(some 13),none,.bin .eql (.t 10) (.t 12)⟩]) <|
 .cond (.t 13)
 (.seq (.dops [⟨(some 14),none,.load (.box 2) false 1 (.t 2)⟩,
 ⟨(some 15),none,.load (.box 3) false 1 (.t 3)⟩,
 ⟨(some 16),none,.call 108 [(.t 15)]⟩,
 ⟨(some 17),none,.load (.box 4) false 1 (.t 4)⟩,
 ⟨(some 18),none,.call 147 [(.t 17)]⟩,
 ⟨(some 19),none,.build [(.slice .nil []),(.slice .nil [])] [(0,1,(.t 16)),(1,1,(.t 18))]⟩,
 ⟨(some 20),none,.callv (.t 14) [(.t 19)]⟩,
 ⟨(some 8),none,.mv true (.t 20)⟩]) <|
 .ret)
 (.skip)) <|
 .seq (.seq (.ops [⟨(some 21),none,.mv false (.t 0)⟩,
 ⟨(some 9),none,.mv true (.t 21)⟩]) <|
 .block 0 <| .loop <|
 .seq (.seq (.ops [⟨(some 22),none,.mv false (.t 9)⟩,
 ⟨(some 23),none,.load .any false 1 (.t 1)⟩,
 ⟨(some 24),none,.lenL (.t 23)⟩,
 ⟨(some 25),none,.bin .lss (.t 22) (.t 24)⟩,
 ⟨(some 26),none,.mv false (.t 25)⟩,
 ⟨(some 27),(some (26,true)),.load .any false 1 (.t 4)⟩,
 ⟨(some 28),(some (26,true)),.lenL (.t 27)⟩,
 ⟨(some 29),(some (26,true)),.fieldAddr 0 (.t 5)⟩,
 ⟨(some 30),(some (26,true)),.fieldAddr 9 (.t 29)⟩,
 ⟨(some 31),(some (26,true)),.load .any false 1 (.t 30)⟩,
 ⟨(some 32),(some (26,true)),.bin .lss (.t 28) (.t 31)⟩,
 ⟨(some 33),none,.pick (.t 26) (.t 32) (.c (.bool false))⟩]) <|
 .cond (.t 33)
 (.skip)
 (.exit 0)) <|
 .seq (.block 1 <| .seq (.dops [⟨(some 36),none,.loadT (.box 4) (.t 4)⟩,
 ⟨(some 37),none,.load (.box 1) false 1 (.t 1)⟩,
 ⟨(some 38),none,.mv false (.t 9)⟩,
 ⟨(some 39),none,.indexAddr 2 (.t 37) (.t 38)⟩,
 ⟨(some 40),none,.load .ref true 2 (.t 39)⟩,
 ⟨(some 41),none,.buildSlice 29 116 2 [(.t 40)]⟩,
 ⟨(some 42),none,.append 29 116 2 16 (.t 36) (.t 41)⟩,
 ⟨none,none,.store (.box 4) 1 (.t 4) (.t 42)⟩]) <|
 .seq (.seq (.ops [⟨(some 43),none,.load .any false 1 (.t 6)⟩,
 ⟨(some 44),none,.mv false (.t 9)⟩,
 ⟨(some 45),none,.bin .add (.t 44) (.c (.int .i64 1))⟩,
 ⟨(some 46),none,.callv (.t 43) [(.t 45)]⟩,
 ⟨(some 47),none,.not (.t 46)⟩]) <|
 .cond (.t 47)
 (.seq (.ops [⟨(some 8),none,.mv true (.c (.bool false))⟩]) <|
 .ret)
 (.skip)) <|
 .ops [⟨(some 48),none,.load .any false 1 (.t 4)⟩,
 ⟨(some 49),none,.load .any false 1 (.t 4)⟩,
 ⟨(some 50),none,.lenL (.t 49)⟩,
 ⟨(some 51),none,.bin .sub (.t 50) (.c (.int .i64 1))⟩,
 ⟨(some 52),none,.sliceL 2 (.t 48) none (some (.t 51))⟩,
 ⟨none,none,.store .any 1 (.t 4) (.t 52)⟩]) <|
 .ops [⟨(some 34),none,.mv false (.t 9)⟩,
 ⟨(some 35),none,.bin .add (.t 34) (.c (.int .i64 1))⟩,
 ⟨(some 9),none,.mv true (.t 35)⟩]) <|
 .seq (.ops [⟨(some 8),none,.mv true (.c (.bool true))⟩]) <|
 .ret
noncomputable def c147 : ACode := .seq (.ops [⟨(some 2),none,.mv true (.c (.slice .nil []))⟩]) <|
 .seq (.seq (.ops [⟨(some 3),none,.mv false (.t 0)⟩,
 ⟨(some 4),none,.isNil false (.t 3)⟩]) <|
 .cond (.t 4)
 (.seq (.ops [⟨(some 2),none,.mv true (.c (.slice .nil []))⟩]) <|
 .ret)
 (.skip)) <|
 .seq (.ops [⟨(some 5),none,.empty 116⟩,
 ⟨(some 6),none,.mv false (.t 0)⟩,
 ⟨(some 7),none,.append 29 116 2 16 (.t 5) (.t 6)⟩,
 ⟨(some 2),none,.mv true (.t 7)⟩]) <|
 .ret
noncomputable def c148 : ACode := .seq (.ops [⟨(some 6),none,.mv true (.c (.slice .nil []))⟩]) <|
 .seq (.seq (.ops [⟨(some 9),none,.mv false (.t 1)⟩,
 ⟨(some 10),none,.lenL (.t 9)⟩,
 ⟨(some 11),none,.bin .eql (.t 10) (.c (.int .i64 0))⟩]) <|
 .cond (.t 11)
 (.seq (.ops [⟨(some 12),none,.mv false (.t 0)⟩,
 ⟨(some 13),none,.buildSlice 171 29 1 [(.t 12)]⟩,
 ⟨(some 6),none,.mv true (.t 13)⟩]) <|
 .ret)
 (.skip)) <|
 .seq (.seq (.ops [⟨(some 14),none,.mv false (.t 2)⟩,
 ⟨(some 15),none,.bin .eql (.t 14) (.c (.int .i64 0))⟩]) <|
 .cond (.t 15)
 (.seq (.ops [⟨(some 6),none,.mv true (.c (.slice .nil []))⟩]) <|
 .ret)
 (.skip)) <|
 .seq (.ops [⟨(some 7),none,.mv true (.c (.slice .nil []))⟩]) <|
 .seq (.seq (.ops [⟨(some 8),none,.mv true (.c (.int .i64 0))⟩]) <|
 .block 0 <| .loop <|
 .seq (.seq (.ops [⟨(some 16),none,.mv false (.t 8)⟩,
 ⟨(some 17),none,.mv false (.t 1)⟩,
 ⟨(some 18),none,.lenL (.t 17)⟩,
 ⟨(some 19),none,.bin .lss (.t 16) (.t 18)⟩]) <|
 .cond (.t 19)
 (.skip)
 (.exit 0)) <|
 .seq (.block 1 <| .dops [⟨(some 22),none,.mv true (.t 7)⟩,
 ⟨(some 23),none,.mv false (.t 0)⟩,
 ⟨(some 24),none,.append 29 116 2 16 (.c (.slice .nil [])) (.t 23)⟩,
 ⟨(some 25),none,.mv false (.t 1)⟩,
 ⟨(some 26),none,.mv false (.t 8)⟩,
 ⟨(some 27),none,.indexAddr 2 (.t 25) (.t 26)⟩,
 ⟨(some 28),none,.load .ref true 2 (.t 27)⟩,
 ⟨(some 29),none,.buildSlice 29 116 2 [(.t 28)]⟩,
 ⟨(some 30),none,.append 29 116 2 16 (.t 24) (.t 29)⟩,
 ⟨(some 31),none,.mv false (.t 1)⟩,
 ⟨(some 32),none,.mv false (.t 8)⟩,
 ⟨(some 33),none,.bin .add (.t 32) (.c (.int .i64 1))⟩,
 ⟨(some 34),none,.sliceL 2 (.t 31) (some (.t 33)) none⟩,
 ⟨(some 35),none,.mv false (.t 2)⟩,
 ⟨(some 36),none,.bin .sub (.t 35) (.c (.int .i64 1))⟩,
 ⟨(some 37),none,.call 148 [(.t 30),(.t 34),(.t 36)]⟩,
 ⟨(some 38),none,.append 171 29 1 24 (.t 22) (.t 37)⟩,
 ⟨(some 7),none,.mv true (.t 38)⟩]) <|
 .ops [⟨(some 20),none,.mv false (.t 8)⟩,
 ⟨(some 21),none,.bin .add (.t 20) (.c (.int .i64 1))⟩,
 ⟨(some 8),none,.mv true (.t 21)⟩]) <|
 .seq (.ops [⟨(some 39),none,.mv false (.t 7)⟩,
 ⟨(some 6),none,.mv true (.t 39)⟩]) <|
 .ret
noncomputable def c149 : ACode := .seq (.ops [⟨(some 2),none,.box 28 10 (.t 0)⟩,
 ⟨(some 4),none,.mv true (.c (.slice .nil []))⟩]) <|
 .seq (.ops [⟨(some 5),none,.mv true (.c (.slice .nil []))⟩]) <|
 .seq (.seq (.ops [⟨(some 6),none,.mv true (.c (.int .i64 0))⟩]) <|
 .block 0 <| .loop <|
 .seq (.seq (.ops [⟨(some 8),none,.mv false (.t 6)⟩,
 ⟨(some 9),none,.fieldAddr 7 (.t 2)⟩,
 ⟨(some 10),none,.load .any false 1 (.t 9)⟩,
 ⟨(some 11),none,.lenL (.t 10)⟩,
 ⟨(some 12),none,.bin .lss (.t 8) (.t 11)⟩]) <|
 .cond (.t 12)
 (.skip)
 (.exit 0)) <|
 .seq (.block 1 <| .seq (.ops [⟨(some 7),none,.mv true (.c (.int .i64 1))⟩]) <|
 .block 2 <| .loop <|
 .seq (.seq (.ops [⟨(some 15),none,.mv false (.t 7)⟩,
 ⟨(some 16),none,.fieldAddr 7 (.t 2)⟩,
 ⟨(some 17),none,.load .any false 1 (.t 16)⟩,
 ⟨(some 18),none,.mv false (.t 6)⟩,
 ⟨(some 19),none,.indexAddr 3 (.t 17) (.t 18)⟩,
 ⟨(some 20),none,.fieldAddr 0 (.t 19)⟩,
 ⟨(some 21),none,.load .any false 1 (.t 20)⟩,
 ⟨(some 22),none,.lenL (.t 21)⟩,
 ⟨(some 23),none,.bin .leq (.t 15) (.t 22)⟩,
 ⟨(some 24),none,.mv false (.t 23)⟩,
 ⟨(some 25),(some (24,true)),.mv false (.t 1)⟩,
 ⟨(some 26),(some (24,true)),.mv false (.t 6)⟩,
 ⟨(some 27),(some (24,true)),.call 91 [(.t 25),(.t 26)]⟩,
 ⟨(some 28),(some (24,true)),.not (.t 27)⟩,
 ⟨(some 29),none,.pick (.t 24) (.t 28) (.c (.bool false))⟩]) <|
 .cond (.t 29)
 (.skip)
 (.exit 2)) <|
 .seq (.block 3 <| .seq (.ops [⟨(some 32),none,.mv false (.t 7)⟩,
 ⟨(some 33),none,.fieldAddr 7 (.t 2)⟩,
 ⟨(some 34),none,.load .any false 1 (.t 33)⟩,
 ⟨(some 35),none,.mv false (.t 6)⟩,
 ⟨(some 36),none,.indexAddr 3 (.t 34) (.t 35)⟩,
 ⟨(some 37),none,.fieldAddr 0 (.t 36)⟩,
 ⟨(some 38),none,.load .any false 1 (.t 37)⟩,
 ⟨(some 39),none,.lenL (.t 38)⟩,
 ⟨(some 40),none,.bin .eql (.t 32) (.t 39)⟩,
 ⟨(some 41),none,.mv false (.t 40)⟩,
 ⟨(some 42),(some (41,false)),.fieldAddr 7 (.t 2)⟩,
 ⟨(some 43),(some (41,false)),.load .any false 1 (.t 42)⟩,
 ⟨(some 44),(some (41,false)),.mv false (.t 6)⟩,
 ⟨(some 45),(some (41,false)),.indexAddr 3 (.t 43) (.t 44)⟩,
 ⟨(some 46),(some (41,false)),.fieldAddr 1 (.t 45)⟩,
 ⟨(some 47),(some (41,false)),.load .any false 1 (.t 46)⟩,
 ⟨(some 48),(some (41,false)),.mv false (.t 7)⟩,
 ⟨(some 49),(some (41,false)),.call 91 [(.t 47),(.t 48)]⟩,
 ⟨(some 50),none,.pick (.t 41) (.c (.bool true)) (.t 49)⟩]) <|
 .cond (.t 50)
 (.ops [⟨(some 51),none,.mv true (.t 5)⟩,
 ⟨(some 52),none,.mv false (.t 6)⟩,
 ⟨(some 53),none,.mv false (.t 7)⟩,
 ⟨(some 54),none,.build [(.int .i64 0),(.int .i64 0)] [(0,1,(.t 52)),(1,1,(.t 53))]⟩,
 ⟨(some 55),none,.buildSlice 29 116 2 [(.t 54)]⟩,
 ⟨(some 56),none,.append 29 116 2 16 (.t 51) (.t 55)⟩,
 ⟨(some 5),none,.mv true (.t 56)⟩])
 (.skip)) <|
 .ops [⟨(some 30),none,.mv false (.t 7)⟩,
 ⟨(some 31),none,.bin .add (.t 30) (.c (.int .i64 1))⟩,
 ⟨(some 7),none,.mv true (.t 31)⟩]) <|
 .ops [⟨(some 13),none,.mv false (.t 6)⟩,
 ⟨(some 14),none,.bin .add (.t 13) (.c (.int .i64 1))⟩,
 ⟨(some 6),none,.mv true (.t 14)⟩]) <|
 .seq (.ops [⟨(some 57),none,.mv false (.t 5)⟩,
 ⟨(some 4),none,.mv true (.t 57)⟩]) <|
 .ret
noncomputable def c150 : ACode := .seq (.ops [⟨(some 6),none,.mv true (.c (.bool false))⟩]) <|
 .seq (.seq (.ops [⟨(some 9),none,.mv false (.t 0)⟩,
 ⟨(some 10),none,.lenL (.t 9)⟩,
 ⟨(some 11),none,.mv false (.c (.int .i64 0))⟩]) <|
 .block 0 <| .loop <|
 .seq (.ops [⟨(some 12),none,.bin .lss (.t 11) (.t 10)⟩]) <|
 .seq (.cond (.t 12)
 (.skip)
 (.exit 0)) <|
 .seq (.block 1 <| .seq (.ops [⟨(some 13),none,.mv false (.t 11)⟩,
 ⟨(some 14),none,.indexAddr 1 (.t 9) (.t 11)⟩,
 ⟨(some 15),none,.load .any false 1 (.t 14)⟩,
 ⟨(some 7),none,.mv true (.t 13)⟩,
 ⟨(some 8),none,.mv true (.t 15)⟩]) <|
 .seq (.ops [⟨(some 16),none,.mv false (.t 8)⟩,
 ⟨(some 17),none,.mv false (.t 1)⟩,
 ⟨(some 18),none,.mv false (.t 2)⟩,
 ⟨(some 19),none,.call 128 [(.t 16),(.t 17),(.t 18)]⟩,
 ⟨(some 20),none,.not (.t 19)⟩,
 ⟨(some 21),none,.mv false (.t 20)⟩,
 ⟨(some 22),(some (21,false)),.mv false (.t 7)⟩,
 ⟨(some 23),(some (21,false)),.bin .gtr (.t 22) (.c (.int .i64 0))⟩,
 ⟨(some 24),(some (21,false)),.mv false (.t 23)⟩,
 ⟨(some 25),(some (24,true)),.mv false (.t 8)⟩,
 ⟨(some 26),(some (24,true)),.mv false (.t 0)⟩,
 ⟨(some 27),(some (24,true)),.mv false (.t 7)⟩,
 ⟨(some 28),(some (24,true)),.bin .sub (.t 27) (.c (.int .i64 1))⟩,
 ⟨(some 29),(some (24,true)),.indexAddr 1 (.t 26) (.t 28)⟩,
 ⟨(some 30),(some (24,true)),.load .any false 1 (.t 29)⟩,
 ⟨(some 31),(some (24,true)),.bin .leq (.t 25) (.t 30)⟩,
 ⟨(some 32),(some (21,false)),.pick (.t 24) (.t 31) (.c (.bool false))⟩,
 ⟨(some 33),none,.pick (.t 21) (.c (.bool true)) (.t 32)⟩]) <|
 .cond (.t 33)
 (.seq (.ops [⟨(some 6),none,.mv true (.c (.bool false))⟩]) <|
 .ret)
 (.skip)) <|
 .ops [⟨(some 34),none,.bin .add (.t 11) (.c (.int .i64 1))⟩,
 ⟨(some 11),none,.mv false (.t 34)⟩]) <|
 .seq (.ops [⟨(some 6),none,.mv true (.c (.bool true))⟩]) <|
 .ret
noncomputable def c151 : ACode := .seq (.ops [⟨(some 3),none,.mv true (.c (.bool false))⟩]) <|
 .seq (.ops [⟨(some 4),none,.fieldAddr 7 (.t 1)⟩,
 ⟨(some 5),none,.load .any false 1 (.t 4)⟩,
 ⟨(some 6),none,.mv false (.t 0)⟩,
 ⟨(some 7),none,.indexAddr 3 (.t 5) (.t 6)⟩,
 ⟨(some 8),none,.fieldAddr 2 (.t 7)⟩,
 ⟨(some 9),none,.load .any false 1 (.t 8)⟩,
 ⟨(some 10),none,.not (.t 9)⟩,
 ⟨(some 3),none,.mv true (.t 10)⟩]) <|
 .ret
noncomputable def c152 : ACode := .seq (.ops [⟨(some 4),none,.mv true (.c (.slice .nil []))⟩]) <|
 .seq (.ops [⟨(some 8),none,.mv false (.t 0)⟩,
 ⟨(some 9),none,.mv false (.t 1)⟩,
 ⟨(some 10),none,.call 170 [(.t 8),(.t 9)]⟩,
 ⟨(some 5),none,.mv true (.t 10)⟩]) <|
 .seq (.seq (.ops [⟨(some 11),none,.mv false (.t 5)⟩,
 ⟨(some 12),none,.bin .eql (.t 11) (.c (.int .i64 (-1)))⟩]) <|
 .cond (.t 12)
 (.seq (.ops [⟨(some 13),none,.mv false (.t 0)⟩,
 ⟨(some 4),none,.mv true (.t 13)⟩]) <|
 .ret)
 (.skip)) <|
 .seq (.seq (.ops [⟨(some 14),none,.mv false (.t 5)⟩,
 ⟨(some 15),none,.bin .add (.t 14) (.c (.int .i64 1))⟩,
 ⟨(some 6),none,.mv true (.t 15)⟩]) <|
 .block 0 <| .loop <|
 .seq (.seq (.ops [⟨(some 16),none,.mv false (.t 6)⟩,
 ⟨(some 17),none,.mv false (.t 0)⟩,
 ⟨(some 18),none,.lenL (.t 17)⟩,
 ⟨(some 19),none,.bin .lss (.t 16) (.t 18)⟩]) <|
 .cond (.t 19)
 (.skip)
 (.exit 0)) <|
 .seq (.block 1 <| .seq (.ops [⟨(some 22),none,.mv false (.t 0)⟩,
 ⟨(some 23),none,.mv false (.t 6)⟩,
 ⟨(some 24),none,.indexAddr 1 (.t 22) (.t 23)⟩,
 ⟨(some 25),none,.load .any false 1 (.t 24)⟩,
 ⟨(some 7),none,.mv true (.t 25)⟩]) <|
 .seq (.ops [⟨(some 26),none,.mv false (.t 1)⟩,
 ⟨(some 27),none,.mv false (.t 7)⟩,
 ⟨(some 28),none,.callv (.t 26) [(.t 27)]⟩,
 ⟨(some 29),none,.not (.t 28)⟩]) <|
 .cond (.t 29)
 (.seq (.ops [⟨(some 30),none,.mv false (.t 0)⟩,
 ⟨(some 31),none,.mv false (.t 5)⟩,
 ⟨(some 32),none,.mv false (.t 7)⟩,
 ⟨(some 33),none,.indexAddr 1 (.t 30) (.t 31)⟩,
 ⟨none,none,.store .any 1 (.t 33) (.t 32)⟩]) <|
 .ops [⟨(some 34),none,.mv false (.t 5)⟩,
 ⟨(some 35),none,.bin .add (.t 34) (.c (.int .i64 1))⟩,
 ⟨(some 5),none,.mv true (.t 35)⟩])
 (.skip)) <|
 .ops [⟨(some 20),none,.mv false (.t 6)⟩,
 ⟨(some 21),none,.bin .add (.t 20) (.c (.int .i64 1))⟩,
 ⟨(some 6),none,.mv true (.t 21)⟩]) <|
 .seq (.ops [⟨(some 36),none,.mv false (.t 0)⟩,
 ⟨(some 37),none,.mv false (.t 5)⟩,
 ⟨(some 38),none,.sliceL 1 (.t 36) (some (.t 37)) none⟩,
 ⟨none,none,.other⟩]) <|
 .seq (.ops [⟨(some 39),none,.mv false (.t 0)⟩,
 ⟨(some 40),none,.mv false (.t 5)⟩,
 ⟨(some 41),none,.sliceL 1 (.t 39) none (some (.t 40))⟩,
 ⟨(some 4),none,.mv true (.t 41)⟩]) <|
 .ret
noncomputable def c153 : ACode := .seq (.ops [⟨(some 3),none,.mv true (.c (.bool false))⟩]) <|
 .seq (.ops [⟨(some 4),none,.mv false (.t 0)⟩,
 ⟨(some 5),none,.load .any false 1 (.t 1)⟩,
 ⟨(some 6),none,.bin .geq (.t 4) (.t 5)⟩,
 ⟨(some 3),none,.mv true (.t 6)⟩]) <|
 .ret
noncomputable def c155 : ACode := .seq (.ops [⟨(some 4),none,.mv true (.c (.int .i64 0))⟩]) <|
 .seq (.seq (.ops [⟨(some 6),none,.mv false (.t 0)⟩,
 ⟨(some 7),none,.lenL (.t 6)⟩,
 ⟨(some 8),none,.mv false (.c (.int .i64 0))⟩]) <|
 .block 0 <| .loop <|
 .seq (.ops [⟨(some 9),none,.bin .lss (.t 8) (.t 7)⟩]) <|
 .seq (.cond (.t 9)
 (.skip)
 (.exit 0)) <|
 .seq (.block 1 <| .seq (.ops [⟨(some 10),none,.mv false (.t 8)⟩,
 ⟨(some 5),none,.mv true (.t 10)⟩]) <|
 .seq (.ops [⟨(some 11),none,.mv false (.t 1)⟩,
 ⟨(some 12),none,.mv false (.t 0)⟩,
 ⟨(some 13),none,.mv false (.t 5)⟩,
 ⟨(some 14),none,.indexAddr 1 (.t 12) (.t 13)⟩,
 ⟨(some 15),none,.load .any false 1 (.t 14)⟩,
 ⟨(some 16),none,.callv (.t 11) [(.t 15)]⟩]) <|
 .cond (.t 16)
 (.seq (.ops [⟨(some 17),none,.mv false (.t 5)⟩,
 ⟨(some 4),none,.mv true (.t 17)⟩]) <|
 .ret)
 (.skip)) <|
 .ops [⟨(some 18),none,.bin .add (.t 8) (.c (.int .i64 1))⟩,
 ⟨(some 8),none,.mv false (.t 18)⟩]) <|
 .seq (.ops [⟨(some 4),none,.mv true (.c (.int .i64 (-1)))⟩]) <|
 .ret
noncomputable def c156 : ACode := .seq (.ops [⟨(some 2),none,.mv true (.c (.str []))⟩]) <|
 .seq (.ops [⟨(some 3),none,.mv true (.c (.int .i64 0))⟩]) <|
 .seq (.seq (.ops [⟨(some 4),none,.mv false (.t 0)⟩]) <|
 .block 0 <| .seq (.ops [⟨(some 5),none,.assert 179 (.agg [(.slice .nil []),(.slice .nil []),(.int .i64 0),(.int .i64 0),(.int .i64 0),(.int .i64 0),(.int .i64 0),(.slice .nil []),(.int .i64 0),(.int .i64 0)]) (.t 4)⟩,
 ⟨(some 6),none,.extract (.t 5) 1⟩,
 ⟨(some 7),none,.extract (.t 5) 0⟩]) <|
 .cond (.t 6)
 (.ops [⟨(some 3),none,.mv true (.c (.int .i64 1))⟩])
 (.seq (.ops [⟨(some 8),none,.assert 182 (.agg [(.int .i64 0)]) (.t 4)⟩,
 ⟨(some 9),none,.extract (.t 8) 1⟩,
 ⟨(some 10),none,.extract (.t 8) 0⟩]) <|
 .cond (.t 9)
 (.ops [⟨(some 3),none,.mv true (.c (.int .i64 2))⟩])
 (.seq (.ops [⟨(some 11),none,.assert 184 (.agg [(.int .i64 0),(.int .i64 0),(.int .i64 0),(.int .i64 0)]) (.t 4)⟩,
 ⟨(some 12),none,.extract (.t 11) 1⟩,
 ⟨(some 13),none,.extract (.t 11) 0⟩]) <|
 .cond (.t 12)
 (.ops [⟨(some 3),none,.mv true (.c (.int .i64 3))⟩])
 (.seq (.ops [⟨(some 14),none,.assert 186 (.agg [(.slice .nil []),(.slice .nil []),(.bool false)]) (.t 4)⟩,
 ⟨(some 15),none,.extract (.t 14) 1⟩,
 ⟨(some 16),none,.extract (.t 14) 0⟩]) <|
 .cond (.t 15)
 (.ops [⟨(some 3),none,.mv true (.c (.int .i64 4))⟩])
 (.skip))))) <|
 .seq (.dops [⟨(some 17),none,.call 161 []⟩,
 ⟨(some 18),none,.mv false (.t 3)⟩,
 ⟨(some 19),none,.indexA false 5 1 (.t 17) (.t 18)⟩,
 ⟨(some 20),none,.buildSlice 147 9 1 [(.t 19)]⟩,
 ⟨(some 21),none,.mv false (.t 0)⟩,
 ⟨(some 22),none,.callv (.m 21 [(178,225),(179,227),(182,228),(184,229),(186,230)]) []⟩,
 ⟨(some 23),none,.append 147 9 1 16 (.t 20) (.t 22)⟩,
 ⟨(some 24),none,.call 173 [(.t 23),(.c (.str [32]))]⟩,
 ⟨(some 2),none,.mv true (.t 24)⟩]) <|
 .ret
noncomputable def c158 : ACode := .seq (.ops [⟨(some 5),none,.other⟩]) <|
 .block 0 <| .seq (.ops [⟨(some 7),none,.other⟩]) <|
 .cond (.t 7)
 (.ops [⟨(some 1),none,.mv true (.t 5)⟩])
 (.seq (.ops [⟨(some 8),none,.assert 161 (.agg [(.int .i64 0)]) (.t 5)⟩,
 ⟨(some 9),none,.extract (.t 8) 1⟩,
 ⟨(some 10),none,.extract (.t 8) 0⟩]) <|
 .cond (.t 9)
 (.seq (.ops [⟨(some 2),none,.alloc 161 [(.int .i64 0)]⟩,
 ⟨none,none,.store .any 1 (.t 2) (.t 10)⟩]) <|
 .ops [⟨none,none,.store .any 1 (.t 0) (.c (.int .i64 5))⟩])
 (.seq (.ops [⟨(some 11),none,.assert 192 (.agg [(.str [])]) (.t 5)⟩,
 ⟨(some 12),none,.extract (.t 11) 1⟩,
 ⟨(some 13),none,.extract (.t 11) 0⟩]) <|
 .cond (.t 12)
 (.seq (.ops [⟨(some 3),none,.alloc 192 [(.str [])]⟩,
 ⟨none,none,.store .any 1 (.t 3) (.t 13)⟩]) <|
 .ops [⟨none,none,.store .any 1 (.t 0) (.c (.int .i64 4))⟩])
 (.seq (.ops [⟨(some 4),none,.mv true (.t 5)⟩]) <|
 .ops [⟨(some 6),none,.mv false (.t 4)⟩,
 ⟨none,none,.panic (.t 6)⟩])))
noncomputable def c160 : ACode := .seq (.ops [⟨(some 4),none,.mv false (.t 0)⟩,
 ⟨(some 5),none,.not (.t 4)⟩]) <|
 .cond (.t 5)
 (.ops [⟨(some 6),none,.mv false (.t 1)⟩,
 ⟨(some 7),none,.build [(.str [])] [(0,1,(.t 6))]⟩,
 ⟨(some 8),none,.iface 192 (.t 7)⟩,
 ⟨none,none,.panic (.t 8)⟩])
 (.skip)
noncomputable def c161 : ACode := .seq (.ops [⟨(some 0),none,.alloc 195 [(.str []),(.str []),(.str []),(.str []),(.str [])]⟩]) <|
 .seq (.ops [⟨(some 1),none,.build [(.str []),(.str []),(.str []),(.str []),(.str [])] [(0,1,(.c (.str [102,114,111,110,116]))),(1,1,(.c (.str [115,112,97,99,101,115]))),(2,1,(.c (.str [115,105,103,110]))),(3,1,(.c (.str [112,97,105,114]))),(4,1,(.c (.str [119,111,114,100])))]⟩,
 ⟨none,none,.store .any 5 (.t 0) (.t 1)⟩]) <|
 .ret
noncomputable def c162 : ACode := .seq (.ops [⟨(some 4),none,.mv true (.c (.int .i64 0))⟩]) <|
 .seq (.seq (.ops [⟨(some 6),none,.mv false (.t 0)⟩,
 ⟨(some 7),none,.lenL (.t 6)⟩,
 ⟨(some 8),none,.mv false (.c (.int .i64 0))⟩]) <|
 .block 0 <| .loop <|
 .seq (.ops [⟨(some 9),none,.bin .lss (.t 8) (.t 7)⟩]) <|
 .seq (.cond (.t 9)
 (.skip)
 (.exit 0)) <|
 .seq (.block 1 <| .seq (.ops [⟨(some 10),none,.mv false (.t 8)⟩,
 ⟨(some 5),none,.mv true (.t 10)⟩]) <|
 .seq (.ops [⟨(some 11),none,.mv false (.t 1)⟩,
 ⟨(some 12),none,.mv false (.t 0)⟩,
 ⟨(some 13),none,.mv false (.t 5)⟩,
 ⟨(some 14),none,.indexAddr 1 (.t 12) (.t 13)⟩,
 ⟨(some 15),none,.load .any false 1 (.t 14)⟩,
 ⟨(some 16),none,.bin .eql (.t 11) (.t 15)⟩]) <|
 .cond (.t 16)
 (.seq (.ops [⟨(some 17),none,.mv false (.t 5)⟩,
 ⟨(some 4),none,.mv true (.t 17)⟩]) <|
 .ret)
 (.skip)) <|
 .ops [⟨(some 18),none,.bin .add (.t 8) (.c (.int .i64 1))⟩,
 ⟨(some 8),none,.mv false (.t 18)⟩]) <|
 .seq (.ops [⟨(some 4),none,.mv true (.c (.int .i64 (-1)))⟩]) <|
 .ret
noncomputable def c163 : ACode := .seq (.ops [⟨(some 2),none,.mv true (.c (.slice .nil []))⟩]) <|
 .seq (.ops [⟨(some 3),none,.mv true (.c (.slice .nil []))⟩]) <|
 .seq (.seq (.ops [⟨(some 9),none,.mv false (.t 0)⟩,
 ⟨(some 10),none,.lenL (.t 9)⟩,
 ⟨(some 11),none,.mv false (.c (.int .i64 0))⟩]) <|
 .block 0 <| .loop <|
 .seq (.ops [⟨(some 12),none,.bin .lss (.t 11) (.t 10)⟩]) <|
 .seq (.cond (.t 12)
 (.skip)
 (.exit 0)) <|
 .seq (.block 1 <| .seq (.ops [⟨(some 13),none,.indexAddr 1 (.t 9) (.t 11)⟩,
 ⟨(some 14),none,.load .any false 1 (.t 13)⟩,
 ⟨(some 5),none,.mv true (.t 14)⟩]) <|
 .seq (.ops [⟨(some 6),none,.mv true (.c (.int .i64 0))⟩]) <|
 .seq (.seq (.ops [⟨(some 15),none,.mv false (.t 5)⟩,
 ⟨(some 16),none,.other⟩]) <|
 .block 2 <| .loop <|
 .seq (.ops [⟨(some 17),none,.other⟩,
 ⟨(some 18),none,.extract (.t 17) 0⟩]) <|
 .seq (.cond (.t 18)
 (.skip)
 (.exit 2)) <|
 .block 3 <| .seq (.ops [⟨(some 19),none,.extract (.t 17) 2⟩,
 ⟨(some 8),none,.mv true (.t 19)⟩]) <|
 .seq (.ops [⟨(some 20),none,.mv false (.t 8)⟩,
 ⟨(some 21),none,.bin .geq (.t 20) (.c (.int .i32 48))⟩,
 ⟨(some 22),none,.mv false (.t 21)⟩,
 ⟨(some 23),(some (22,true)),.mv false (.t 8)⟩,
 ⟨(some 24),(some (22,true)),.bin .leq (.t 23) (.c (.int .i32 57))⟩,
 ⟨(some 25),none,.pick (.t 22) (.t 24) (.c (.bool false))⟩,
 ⟨(some 26),none,.mv false (.t 25)⟩,
 ⟨(some 27),(some (26,true)),.mv false (.t 5)⟩,
 ⟨(some 28),(some (26,true)),.lenS (.t 27)⟩,
 ⟨(some 29),(some (26,true)),.bin .leq (.t 28) (.c (.int .i64 3))⟩,
 ⟨(some 30),none,.pick (.t 26) (.t 29) (.c (.bool false))⟩,
 ⟨(some 31),none,.mv false (.t 5)⟩,
 ⟨(some 32),none,.call 160 [(.t 30),(.t 31)]⟩]) <|
 .ops [⟨(some 33),none,.mv false (.t 6)⟩,
 ⟨(some 34),none,.bin .mul (.c (.int .i64 10)) (.t 33)⟩,
 ⟨(some 35),none,.mv false (.t 8)⟩,
 ⟨(some 36),none,.bin .sub (.t 35) (.c (.int .i32 48))⟩,
 ⟨(some 37),none,.conv .i64 (.t 36)⟩,
 ⟨(some 38),none,.bin .add (.t 34) (.t 37)⟩,
 ⟨(some 6),none,.mv true (.t 38)⟩]) <|
 .seq (.ops [⟨(some 39),none,.mv false (.t 5)⟩,
 ⟨(some 40),none,.bin .neq (.t 39) (.c (.str []))⟩,
 ⟨(some 41),none,.mv false (.t 40)⟩,
 ⟨(some 42),(some (41,true)),.mv false (.t 6)⟩,
 ⟨(some 43),(some (41,true)),.call 157 [(.t 42)]⟩,
 ⟨(some 44),(some (41,true)),.mv false (.t 5)⟩,
 ⟨(some 45),(some (41,true)),.bin .eql (.t 43) (.t 44)⟩,
 ⟨(some 46),none,.pick (.t 41) (.t 45) (.c (.bool false))⟩,
 ⟨(some 47),none,.mv false (.t 5)⟩,
 ⟨(some 48),none,.call 160 [(.t 46),(.t 47)]⟩]) <|
 .ops [⟨(some 49),none,.mv true (.t 3)⟩,
 ⟨(some 50),none,.mv false (.t 6)⟩,
 ⟨(some 51),none,.buildSlice 22 3 1 [(.t 50)]⟩,
 ⟨(some 52),none,.append 22 3 1 8 (.t 49) (.t 51)⟩,
 ⟨(some 3),none,.mv true (.t 52)⟩]) <|
 .ops [⟨(some 53),none,.bin .add (.t 11) (.c (.int .i64 1))⟩,
 ⟨(some 11),none,.mv false (.t 53)⟩]) <|
 .seq (.ops [⟨(some 54),none,.mv false (.t 3)⟩,
 ⟨(some 2),none,.mv true (.t 54)⟩]) <|
 .ret
noncomputable def c164 : ACode := .seq (.ops [⟨(some 2),none,.mv true (.c (.slice .nil []))⟩]) <|
 .seq (.seq (.ops [⟨(some 3),none,.mv false (.t 0)⟩,
 ⟨(some 4),none,.bin .eql (.t 3) (.c (.str [45]))⟩]) <|
 .cond (.t 4)
 (.seq (.ops [⟨(some 2),none,.mv true (.c (.slice .nil []))⟩]) <|
 .ret)
 (.skip)) <|
 .seq (.ops [⟨(some 5),none,.mv false (.t 0)⟩,
 ⟨(some 6),none,.call 159 [(.t 5),(.c (.str [44]))]⟩,
 ⟨(some 7),none,.call 163 [(.t 6)]⟩,
 ⟨(some 2),none,.mv true (.t 7)⟩]) <|
 .ret
noncomputable def c165 : ACode := .seq (.ops [⟨(some 2),none,.mv true (.c (.str []))⟩]) <|
 .seq (.seq (.ops [⟨(some 3),none,.mv false (.t 0)⟩,
 ⟨(some 4),none,.bin .gtr (.t 3) (.c (.int .i64 (-10)))⟩,
 ⟨(some 5),none,.mv false (.t 4)⟩,
 ⟨(some 6),(some (5,true)),.mv false (.t 0)⟩,
 ⟨(some 7),(some (5,true)),.bin .lss (.t 6) (.c (.int .i64 0))⟩,
 ⟨(some 8),none,.pick (.t 5) (.t 7) (.c (.bool false))⟩]) <|
 .cond (.t 8)
 (.seq (.ops [⟨(some 9),none,.mv false (.t 0)⟩,
 ⟨(some 10),none,.bin .sub (.c (.int .i64 48)) (.t 9)⟩,
 ⟨(some 11),none,.conv .u8 (.t 10)⟩,
 ⟨(some 12),none,.buildSlice 97 5 1 [(.t 11)]⟩,
 ⟨(some 13),none,.bstr (.t 12)⟩,
 ⟨(some 14),none,.bin .add (.c (.str [45])) (.t 13)⟩,
 ⟨(some 2),none,.mv true (.t 14)⟩]) <|
 .ret)
 (.skip)) <|
 .seq (.seq (.ops [⟨(some 15),none,.mv false (.t 0)⟩,
 ⟨(some 16),none,.bin .lss (.t 15) (.c (.int .i64 0))⟩]) <|
 .cond (.t 16)
 (.seq (.dops [⟨(some 17),none,.mv false (.t 0)⟩,
 ⟨(some 18),none,.bin .quo (.t 17) (.c (.int .i64 10))⟩,
 ⟨(some 19),none,.call 165 [(.t 18)]⟩,
 ⟨(some 20),none,.mv false (.t 0)⟩,
 ⟨(some 21),none,.bin .rem (.t 20) (.c (.int .i64 10))⟩,
 ⟨(some 22),none,.bin .sub (.c (.int .i64 48)) (.t 21)⟩,
 ⟨(some 23),none,.conv .u8 (.t 22)⟩,
 ⟨(some 24),none,.buildSlice 97 5 1 [(.t 23)]⟩,
 ⟨(some 25),none,.bstr (.t 24)⟩,
 ⟨(some 26),none,.bin .add (.t 19) (.t 25)⟩,
 ⟨(some 2),none,.mv true (.t 26)⟩]) <|
 .ret)
 (.skip)) <|
 .seq (.seq (.ops [⟨(some 27),none,.mv false (.t 0)⟩,
 ⟨(some 28),none,.bin .lss (.t 27) (.c (.int .i64 10))⟩]) <|
 .cond (.t 28)
 (.seq (.ops [⟨(some 29),none,.mv false (.t 0)⟩,
 ⟨(some 30),none,.bin .add (.c (.int .i64 48)) (.t 29)⟩,
 ⟨(some 31),none,.conv .u8 (.t 30)⟩,
 ⟨(some 32),none,.buildSlice 97 5 1 [(.t 31)]⟩,
 ⟨(some 33),none,.bstr (.t 32)⟩,
 ⟨(some 2),none,.mv true (.t 33)⟩]) <|
 .ret)
 (.skip)) <|
 .seq (.dops [⟨(some 34),none,.mv false (.t 0)⟩,
 ⟨(some 35),none,.bin .quo (.t 34) (.c (.int .i64 10))⟩,
 ⟨(some 36),none,.call 165 [(.t 35)]⟩,
 ⟨(some 37),none,.mv false (.t 0)⟩,
 ⟨(some 38),none,.bin .rem (.t 37) (.c (.int .i64 10))⟩,
 ⟨(some 39),none,.bin .add (.c (.int .i64 48)) (.t 38)⟩,
 ⟨(some 40),none,.conv .u8 (.t 39)⟩,
 ⟨(some 41),none,.buildSlice 97 5 1 [(.t 40)]⟩,
 ⟨(some 42),none,.bstr (.t 41)⟩,
 ⟨(some 43),none,.bin .add (.t 36) (.t 42)⟩,
 ⟨(some 2),none,.mv true (.t 43)⟩]) <|
 .ret
noncomputable def c166 : ACode := .seq (.ops [⟨(some 4),none,.mv true (.c (.slice .nil []))⟩,
 ⟨(some 5),none,.mv true (.c (.bool false))⟩]) <|
 .seq (.ops [⟨(some 6),none,.mv true (.c (.slice .nil []))⟩]) <|
 .seq (.seq (.ops [⟨(some 7),none,.mv true (.c (.int .i64 0))⟩]) <|
 .block 0 <| .loop <|
 .seq (.seq (.ops [⟨(some 10),none,.mv false (.t 7)⟩,
 ⟨(some 11),none,.mv false (.t 0)⟩,
 ⟨(some 12),none,.lenL (.t 11)⟩,
 ⟨(some 13),none,.bin .lss (.t 10) (.t 12)⟩]) <|
 .cond (.t 13)
 (.skip)
 (.exit 0)) <|
 .seq (.block 1 <| .seq (.ops [⟨(some 17),none,.mv false (.t 0)⟩,
 ⟨(some 18),none,.mv false (.t 7)⟩,
 ⟨(some 19),none,.indexAddr 1 (.t 17) (.t 18)⟩,
 ⟨(some 20),none,.load .any false 1 (.t 19)⟩,
 ⟨(some 21),none,.mv false (.t 1)⟩,
 ⟨(some 22),none,.call 176 [(.t 20),(.t 21)]⟩,
 ⟨(some 16),none,.mv false (.t 22)⟩,
 ⟨(some 23),none,.extract (.t 16) 0⟩,
 ⟨(some 24),none,.extract (.t 16) 1⟩,
 ⟨(some 8),none,.mv true (.t 23)⟩,
 ⟨(some 9),none,.mv true (.t 24)⟩]) <|
 .seq (.seq (.ops [⟨(some 25),none,.mv false (.t 9)⟩,
 ⟨(some 26),none,.not (.t 25)⟩]) <|
 .cond (.t 26)
 (.seq (.ops [⟨(some 4),none,.mv true (.c (.slice .nil []))⟩,
 ⟨(some 5),none,.mv true (.c (.bool false))⟩]) <|
 .ret)
 (.skip)) <|
 .ops [⟨(some 27),none,.mv true (.t 6)⟩,
 ⟨(some 28),none,.mv false (.t 8)⟩,
 ⟨(some 29),none,.buildSlice 22 3 1 [(.t 28)]⟩,
 ⟨(some 30),none,.append 22 3 1 8 (.t 27) (.t 29)⟩,
 ⟨(some 6),none,.mv true (.t 30)⟩]) <|
 .ops [⟨(some 14),none,.mv false (.t 7)⟩,
 ⟨(some 15),none,.bin .add (.t 14) (.c (.int .i64 1))⟩,
 ⟨(some 7),none,.mv true (.t 15)⟩]) <|
 .seq (.ops [⟨(some 31),none,.mv false (.t 6)⟩,
 ⟨(some 4),none,.mv true (.t 31)⟩,
 ⟨(some 5),none,.mv true (.c (.bool true))⟩]) <|
 .ret
noncomputable def c167 : ACode := .seq (.ops [⟨(some 3),none,.box 116 2 (.t 1)⟩,
 ⟨(some 4),none,.mv true (.c (.int .i64 0))⟩]) <|
 .seq (.seq (.ops [⟨(some 6),none,.mv false (.t 0)⟩,
 ⟨(some 7),none,.lenL (.t 6)⟩,
 ⟨(some 8),none,.mv false (.c (.int .i64 0))⟩]) <|
 .block 0 <| .loop <|
 .seq (.ops [⟨(some 9),none,.bin .lss (.t 8) (.t 7)⟩]) <|
 .seq (.cond (.t 9)
 (.skip)
 (.exit 0)) <|
 .seq (.block 1 <| .seq (.ops [⟨(some 10),none,.mv false (.t 8)⟩,
 ⟨(some 5),none,.mv true (.t 10)⟩]) <|
 .seq (.dops [⟨(some 11),none,.load (.box 3) true 2 (.t 3)⟩,
 ⟨(some 12),none,.mv false (.t 0)⟩,
 ⟨(some 13),none,.mv false (.t 5)⟩,
 ⟨(some 14),none,.indexAddr 2 (.t 12) (.t 13)⟩,
 ⟨(some 15),none,.load .ref true 2 (.t 14)⟩,
 ⟨(some 16),none,.eqs false 2 (.t 11) (.t 15)⟩]) <|
 .cond (.t 16)
 (.seq (.ops [⟨(some 17),none,.mv false (.t 5)⟩,
 ⟨(some 4),none,.mv true (.t 17)⟩]) <|
 .ret)
 (.skip)) <|
 .ops [⟨(some 18),none,.bin .add (.t 8) (.c (.int .i64 1))⟩,
 ⟨(some 8),none,.mv false (.t 18)⟩]) <|
 .seq (.ops [⟨(some 4),none,.mv true (.c (.int .i64 (-1)))⟩]) <|
 .ret
noncomputable def c168 : ACode := .seq (.ops [⟨(some 4),none,.mv true (.c (.int .i64 0))⟩]) <|
 .seq (.seq (.ops [⟨(some 6),none,.mv false (.t 0)⟩,
 ⟨(some 7),none,.lenL (.t 6)⟩,
 ⟨(some 8),none,.mv false (.c (.int .i64 0))⟩]) <|
 .block 0 <| .loop <|
 .seq (.ops [⟨(some 9),none,.bin .lss (.t 8) (.t 7)⟩]) <|
 .seq (.cond (.t 9)
 (.skip)
 (.exit 0)) <|
 .seq (.block 1 <| .seq (.ops [⟨(some 10),none,.mv false (.t 8)⟩,
 ⟨(some 5),none,.mv true (.t 10)⟩]) <|
 .seq (.ops [⟨(some 11),none,.mv false (.t 1)⟩,
 ⟨(some 12),none,.mv false (.t 0)⟩,
 ⟨(some 13),none,.mv false (.t 5)⟩,
 ⟨(some 14),none,.indexAddr 1 (.t 12) (.t 13)⟩,
 ⟨(some 15),none,.load .any false 1 (.t 14)⟩,
 ⟨(some 16),none,.bin .eql (.t 11) (.t 15)⟩]) <|
 .cond (.t 16)
 (.seq (.ops [⟨(some 17),none,.mv false (.t 5)⟩,
 ⟨(some 4),none,.mv true (.t 17)⟩]) <|
 .ret)
 (.skip)) <|
 .ops [⟨(some 18),none,.bin .add (.t 8) (.c (.int .i64 1))⟩,
 ⟨(some 8),none,.mv false (.t 18)⟩]) <|
 .seq (.ops [⟨(some 4),none,.mv true (.c (.int .i64 (-1)))⟩]) <|
 .ret
noncomputable def c169 : ACode := .seq (.ops [⟨(some 2),none,.mv true (.c (.int .i64 0))⟩]) <|
 .seq (.ops [⟨(some 3),none,.mv true (.c (.int .i64 0))⟩]) <|
 .seq (.seq (.ops [⟨(some 6),none,.mv false (.t 0)⟩,
 ⟨(some 7),none,.lenL (.t 6)⟩,
 ⟨(some 8),none,.mv false (.c (.int .i64 0))⟩]) <|
 .block 0 <| .loop <|
 .seq (.ops [⟨(some 9),none,.bin .lss (.t 8) (.t 7)⟩]) <|
 .seq (.cond (.t 9)
 (.skip)
 (.exit 0)) <|
 .seq (.block 1 <| .seq (.ops [⟨(some 10),none,.indexAddr 1 (.t 6) (.t 8)⟩,
 ⟨(some 11),none,.load .any false 1 (.t 10)⟩,
 ⟨(some 5),none,.mv true (.t 11)⟩]) <|
 .ops [⟨(some 12),none,.mv false (.t 3)⟩,
 ⟨(some 13),none,.mv false (.t 5)⟩,
 ⟨(some 14),none,.bin .add (.t 12) (.t 13)⟩,
 ⟨(some 3),none,.mv true (.t 14)⟩]) <|
 .ops [⟨(some 15),none,.bin .add (.t 8) (.c (.int .i64 1))⟩,
 ⟨(some 8),none,.mv false (.t 15)⟩]) <|
 .seq (.ops [⟨(some 16),none,.mv false (.t 3)⟩,
 ⟨(some 2),none,.mv true (.t 16)⟩]) <|
 .ret
noncomputable def c170 : ACode := .seq (.ops [⟨(some 4),none,.mv true (.c (.int .i64 0))⟩]) <|
 .seq (.seq (.ops [⟨(some 6),none,.mv false (.t 0)⟩,
 ⟨(some 7),none,.lenL (.t 6)⟩,
 ⟨(some 8),none,.mv false (.c (.int .i64 0))⟩]) <|
 .block 0 <| .loop <|
 .seq (.ops [⟨(some 9),none,.bin .lss (.t 8) (.t 7)⟩]) <|
 .seq (.cond (.t 9)
 (.skip)
 (.exit 0)) <|
 .seq (.block 1 <| .seq (.ops [⟨(some 10),none,.mv false (.t 8)⟩,
 ⟨(some 5),none,.mv true (.t 10)⟩]) <|
 .seq (.ops [⟨(some 11),none,.mv false (.t 1)⟩,
 ⟨(some 12),none,.mv false (.t 0)⟩,
 ⟨(some 13),none,.mv false (.t 5)⟩,
 ⟨(some 14),none,.indexAddr 1 (.t 12) (.t 13)⟩,
 ⟨(some 15),none,.load .any false 1 (.t 14)⟩,
 ⟨(some 16),none,.callv (.t 11) [(.t 15)]⟩]) <|
 .cond (.t 16)
 (.seq (.ops [⟨(some 17),none,.mv false (.t 5)⟩,
 ⟨(some 4),none,.mv true (.t 17)⟩]) <|
 .ret)
 (.skip)) <|
 .ops [⟨(some 18),none,.bin .add (.t 8) (.c (.int .i64 1))⟩,
 ⟨(some 8),none,.mv false (.t 18)⟩]) <|
 .seq (.ops [⟨(some 4),none,.mv true (.c (.int .i64 (-1)))⟩]) <|
 .ret
noncomputable def c171 : ACode := .seq (.ops [⟨(some 4),none,.mv true (.c (.int .i64 0))⟩]) <|
 .seq (.seq (.ops [⟨(some 6),none,.mv false (.t 0)⟩,
 ⟨(some 7),none,.lenL (.t 6)⟩,
 ⟨(some 8),none,.mv false (.c (.int .i64 0))⟩]) <|
 .block 0 <| .loop <|
 .seq (.ops [⟨(some 9),none,.bin .lss (.t 8) (.t 7)⟩]) <|
 .seq (.cond (.t 9)
 (.skip)
 (.exit 0)) <|
 .seq (.block 1 <| .seq (.ops [⟨(some 10),none,.mv false (.t 8)⟩,
 ⟨(some 5),none,.mv true (.t 10)⟩]) <|
 .seq (.ops [⟨(some 11),none,.mv false (.t 1)⟩,
 ⟨(some 12),none,.mv false (.t 0)⟩,
 ⟨(some 13),none,.mv false (.t 5)⟩,
 ⟨(some 14),none,.indexAddr 3 (.t 12) (.t 13)⟩,
 ⟨(some 15),none,.load .any true 3 (.t 14)⟩,
 ⟨(some 16),none,.callv (.t 11) [(.t 15)]⟩]) <|
 .cond (.t 16)
 (.seq (.ops [⟨(some 17),none,.mv false (.t 5)⟩,
 ⟨(some 4),none,.mv true (.t 17)⟩]) <|
 .ret)
 (.skip)) <|
 .ops [⟨(some 18),none,.bin .add (.t 8) (.c (.int .i64 1))⟩,
 ⟨(some 8),none,.mv false (.t 18)⟩]) <|
 .seq (.ops [⟨(some 4),none,.mv true (.c (.int .i64 (-1)))⟩]) <|
 .ret
noncomputable def c172 : ACode := .seq (.ops [⟨(some 3),none,.mv true (.c (.bool false))⟩]) <|
 .seq (.ops [⟨(some 4),none,.mv false (.t 0)⟩,
 ⟨(some 5),none,.fieldAddr 0 (.t 1)⟩,
 ⟨(some 6),none,.load .any false 1 (.t 5)⟩,
 ⟨(some 7),none,.lenL (.t 6)⟩,
 ⟨(some 8),none,.bin .sub (.t 7) (.c (.int .i64 1))⟩,
 ⟨(some 9),none,.call 128 [(.t 4),(.c (.int .i64 0)),(.t 8)]⟩,
 ⟨(some 10),none,.not (.t 9)⟩,
 ⟨(some 3),none,.mv true (.t 10)⟩]) <|
 .ret
noncomputable def c174 : ACode := .seq (.ops [⟨(some 2),none,.mv true (.c (.str []))⟩]) <|
 .seq (.ops [⟨(some 3),none,.mv false (.t 0)⟩,
 ⟨(some 4),none,.call 180 [(.t 3),(.c (.int .i64 10))]⟩,
 ⟨(some 2),none,.mv true (.t 4)⟩]) <|
 .ret
noncomputable def c225 : ACode := .seq (.ops [⟨(some 1),none,.box 178 10 (.t 0)⟩,
 ⟨(some 2),none,.mv true (.c (.slice .nil []))⟩]) <|
 .seq (.ops [⟨(some 3),none,.fieldAddr 0 (.t 1)⟩,
 ⟨(some 4),none,.fieldAddr 8 (.t 3)⟩,
 ⟨(some 5),none,.load .any false 1 (.t 4)⟩,
 ⟨(some 6),none,.fieldAddr 0 (.t 1)⟩,
 ⟨(some 7),none,.fieldAddr 9 (.t 6)⟩,
 ⟨(some 8),none,.load .any false 1 (.t 7)⟩,
 ⟨(some 9),none,.buildSlice 22 3 1 [(.t 5),(.t 8)]⟩,
 ⟨(some 10),none,.call 226 [(.t 9)]⟩,
 ⟨(some 2),none,.mv true (.t 10)⟩]) <|
 .ret
noncomputable def c226 : ACode := .seq (.ops [⟨(some 2),none,.mv true (.c (.slice .nil []))⟩]) <|
 .seq (.ops [⟨(some 3),none,.mv true (.c (.slice .nil []))⟩]) <|
 .seq (.seq (.ops [⟨(some 6),none,.mv false (.t 0)⟩,
 ⟨(some 7),none,.lenL (.t 6)⟩,
 ⟨(some 8),none,.mv false (.c (.int .i64 0))⟩]) <|
 .block 0 <| .loop <|
 .seq (.ops [⟨(some 9),none,.bin .lss (.t 8) (.t 7)⟩]) <|
 .seq (.cond (.t 9)
 (.skip)
 (.exit 0)) <|
 .seq (.block 1 <| .seq (.ops [⟨(some 10),none,.indexAddr 1 (.t 6) (.t 8)⟩,
 ⟨(some 11),none,.load .any false 1 (.t 10)⟩,
 ⟨(some 5),none,.mv true (.t 11)⟩]) <|
 .ops [⟨(some 12),none,.mv true (.t 3)⟩,
 ⟨(some 13),none,.mv false (.t 5)⟩,
 ⟨(some 14),none,.call 157 [(.t 13)]⟩,
 ⟨(some 15),none,.buildSlice 147 9 1 [(.t 14)]⟩,
 ⟨(some 16),none,.append 147 9 1 16 (.t 12) (.t 15)⟩,
 ⟨(some 3),none,.mv true (.t 16)⟩]) <|
 .ops [⟨(some 17),none,.bin .add (.t 8) (.c (.int .i64 1))⟩,
 ⟨(some 8),none,.mv false (.t 17)⟩]) <|
 .seq (.ops [⟨(some 18),none,.mv false (.t 3)⟩,
 ⟨(some 2),none,.mv true (.t 18)⟩]) <|
 .ret
noncomputable def c227 : ACode := .seq (.ops [⟨(some 1),none,.box 179 10 (.t 0)⟩,
 ⟨(some 2),none,.mv true (.c (.slice .nil []))⟩]) <|
 .seq (.ops [⟨(some 3),none,.fieldAddr 0 (.t 1)⟩,
 ⟨(some 4),none,.fieldAddr 2 (.t 3)⟩,
 ⟨(some 5),none,.fieldAddr 0 (.t 4)⟩,
 ⟨(some 6),none,.load .any false 1 (.t 5)⟩,
 ⟨(some 7),none,.fieldAddr 0 (.t 1)⟩,
 ⟨(some 8),none,.fieldAddr 2 (.t 7)⟩,
 ⟨(some 9),none,.fieldAddr 1 (.t 8)⟩,
 ⟨(some 10),none,.load .any false 1 (.t 9)⟩,
 ⟨(some 11),none,.fieldAddr 0 (.t 1)⟩,
 ⟨(some 12),none,.fieldAddr 4 (.t 11)⟩,
 ⟨(some 13),none,.fieldAddr 0 (.t 12)⟩,
 ⟨(some 14),none,.load .any false 1 (.t 13)⟩,
 ⟨(some 15),none,.fieldAddr 0 (.t 1)⟩,
 ⟨(some 16),none,.fieldAddr 4 (.t 15)⟩,
 ⟨(some 17),none,.fieldAddr 1 (.t 16)⟩,
 ⟨(some 18),none,.load .any false 1 (.t 17)⟩,
 ⟨(some 19),none,.fieldAddr 0 (.t 1)⟩,
 ⟨(some 20),none,.fieldAddr 6 (.t 19)⟩,
 ⟨(some 21),none,.load .any false 1 (.t 20)⟩,
 ⟨(some 22),none,.buildSlice 22 3 1 [(.t 6),(.t 10),(.t 14),(.t 18),(.t 21)]⟩,
 ⟨(some 23),none,.call 226 [(.t 22)]⟩,
 ⟨(some 2),none,.mv true (.t 23)⟩]) <|
 .ret
noncomputable def c228 : ACode := .seq (.ops [⟨(some 1),none,.box 182 1 (.t 0)⟩,
 ⟨(some 2),none,.mv true (.c (.slice .nil []))⟩]) <|
 .seq (.ops [⟨(some 3),none,.fieldAddr 0 (.t 1)⟩,
 ⟨(some 4),none,.load .any false 1 (.t 3)⟩,
 ⟨(some 5),none,.buildSlice 22 3 1 [(.t 4)]⟩,
 ⟨(some 6),none,.call 226 [(.t 5)]⟩,
 ⟨(some 2),none,.mv true (.t 6)⟩]) <|
 .ret
noncomputable def c229 : ACode := .seq (.ops [⟨(some 1),none,.box 184 4 (.t 0)⟩,
 ⟨(some 2),none,.mv true (.c (.slice .nil []))⟩]) <|
 .seq (.ops [⟨(some 3),none,.fieldAddr 0 (.t 1)⟩,
 ⟨(some 4),none,.fieldAddr 0 (.t 3)⟩,
 ⟨(some 5),none,.load .any false 1 (.t 4)⟩,
 ⟨(some 6),none,.fieldAddr 0 (.t 1)⟩,
 ⟨(some 7),none,.fieldAddr 1 (.t 6)⟩,
 ⟨(some 8),none,.load .any false 1 (.t 7)⟩,
 ⟨(some 9),none,.fieldAddr 0 (.t 1)⟩,
 ⟨(some 10),none,.fieldAddr 2 (.t 9)⟩,
 ⟨(some 11),none,.fieldAddr 0 (.t 10)⟩,
 ⟨(some 12),none,.load .any false 1 (.t 11)⟩,
 ⟨(some 13),none,.fieldAddr 0 (.t 1)⟩,
 ⟨(some 14),none,.fieldAddr 2 (.t 13)⟩,
 ⟨(some 15),none,.fieldAddr 1 (.t 14)⟩,
 ⟨(some 16),none,.load .any false 1 (.t 15)⟩,
 ⟨(some 17),none,.buildSlice 22 3 1 [(.t 5),(.t 8),(.t 12),(.t 16)]⟩,
 ⟨(some 18),none,.call 226 [(.t 17)]⟩,
 ⟨(some 2),none,.mv true (.t 18)⟩]) <|
 .ret
noncomputable def c230 : ACode := .seq (.ops [⟨(some 1),none,.box 186 3 (.t 0)⟩,
 ⟨(some 2),none,.mv true (.c (.slice .nil []))⟩]) <|
 .seq (.ops [⟨(some 3),none,.mv true (.c (.str [110,111]))⟩]) <|
 .seq (.seq (.ops [⟨(some 4),none,.fieldAddr 0 (.t 1)⟩,
 ⟨(some 5),none,.fieldAddr 2 (.t 4)⟩,
 ⟨(some 6),none,.load .any false 1 (.t 5)⟩]) <|
 .cond (.t 6)
 (.ops [⟨(some 3),none,.mv true (.c (.str [121,101,115]))⟩])
 (.skip)) <|
 .seq (.dops [⟨(some 7),none,.mv false (.t 3)⟩,
 ⟨(some 8),none,.fieldAddr 0 (.t 1)⟩,
 ⟨(some 9),none,.fieldAddr 0 (.t 8)⟩,
 ⟨(some 10),none,.load (.box 1) false 1 (.t 9)⟩,
 ⟨(some 11),none,.call 231 [(.t 10)]⟩,
 ⟨(some 12),none,.fieldAddr 0 (.t 1)⟩,
 ⟨(some 13),none,.fieldAddr 1 (.t 12)⟩,
 ⟨(some 14),none,.load (.box 1) false 1 (.t 13)⟩,
 ⟨(some 15),none,.call 231 [(.t 14)]⟩,
 ⟨(some 16),none,.buildSlice 147 9 1 [(.t 7),(.t 11),(.t 15)]⟩,
 ⟨(some 2),none,.mv true (.t 16)⟩]) <|
 .ret
noncomputable def c231 : ACode := .seq (.ops [⟨(some 2),none,.mv true (.c (.str []))⟩]) <|
 .seq (.seq (.ops [⟨(some 3),none,.mv false (.t 0)⟩,
 ⟨(some 4),none,.lenL (.t 3)⟩,
 ⟨(some 5),none,.bin .eql (.t 4) (.c (.int .i64 0))⟩]) <|
 .cond (.t 5)
 (.seq (.ops [⟨(some 2),none,.mv true (.c (.str [45]))⟩]) <|
 .ret)
 (.skip)) <|
 .seq (.ops [⟨(some 6),none,.mv false (.t 0)⟩,
 ⟨(some 7),none,.call 226 [(.t 6)]⟩,
 ⟨(some 8),none,.call 173 [(.t 7),(.c (.str [44]))]⟩,
 ⟨(some 2),none,.mv true (.t 8)⟩]) <|
 .ret
end Go.Proofs.Tryz
