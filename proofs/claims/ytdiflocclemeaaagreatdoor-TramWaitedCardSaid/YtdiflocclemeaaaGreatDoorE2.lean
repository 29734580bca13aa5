/-
  A part of the proof.
-/
import Derived.Test.YtdiflocclemeaaaGreatDoorR3
import Derived.Test.YtdiflocclemeaaaGreatDoorProg
set_option maxRecDepth 100000
set_option maxHeartbeats 8000000
set_option linter.all false
set_option linter.unusedVariables false
set_option linter.unusedSimpArgs false
set_option linter.deprecated false
namespace Go.Proofs.Tryz
open Go.AL
noncomputable def c22:ae:=(.seq (.ops [⟨(some 0),none,.mv true (.c (.bool false))⟩]) (.seq (bH 195 f22.cO.cB.cA) (.seq (bH 195 f22.cO.cB.cB.cA) (.seq (bH 195 f22.cO.cB.cB.cB.cA) (.seq (bH 195 f22.cO.cB.cB.cB.cB.cA) (.seq (bH 195 f22.cO.cB.cB.cB.cB.cB.cA) (.seq (bH 195 f22.cO.cB.cB.cB.cB.cB.cB.cA) (.seq (bH 195 f22.cO.cB.cB.cB.cB.cB.cB.cB.cA) (.seq (bH 195 f22.cO.cB.cB.cB.cB.cB.cB.cB.cB.cA) (.seq (bH 195 f22.cO.cB.cB.cB.cB.cB.cB.cB.cB.cB.cA) (.seq (bH 195 f22.cO.cB.cB.cB.cB.cB.cB.cB.cB.cB.cB.cA) (.seq (bH 195 f22.cO.cB.cB.cB.cB.cB.cB.cB.cB.cB.cB.cB.cA) (.seq (bH 195 f22.cO.cB.cB.cB.cB.cB.cB.cB.cB.cB.cB.cB.cB.cA) (.seq (.seq (bH 195 f22.cO.cB.cB.cB.cB.cB.cB.cB.cB.cB.cB.cB.cB.cB.cA.cA) (.cond (.t 134) (.seq (.ops [⟨(some 0),none,.mv true (.c (.bool false))⟩])<|.ret) (.skip))) (.seq (.seq (bH 195 f22.cO.cB.cB.cB.cB.cB.cB.cB.cB.cB.cB.cB.cB.cB.cB.cA.cA) (.cond (.t 170) (.seq (.ops [⟨(some 0),none,.mv true (.c (.bool false))⟩])<|.ret) (.skip))) (.seq (bH 195 f22.cO.cB.cB.cB.cB.cB.cB.cB.cB.cB.cB.cB.cB.cB.cB.cB.cA) (.ret)))))))))))))))))
noncomputable def c108:ae:=bH 76 f108.cO
noncomputable def c63:ae:=bH 42 f63.cO
noncomputable def c152:ae:=(.seq (bH 62 f152.cO.cA) (.seq (bH 62 f152.cO.cB.cA) (.seq (.seq (.ops [⟨(some 6),none,.mv true (.c (.int .i64 0))⟩]) (.block 2 (.loop (.seq (bH 62 f152.cO.cB.cB.cA.cB.cB.cB.cA) (.seq (.block 3 (.seq (.c_ [⟨(some 29),none,.fieldAddr 1 (.t 3)⟩,⟨(some 30),none,.load (.box 3) false 1 (.t 29)⟩,⟨(some 31),none,.mv false (.t 6)⟩,⟨(some 32),none,.indexAddr 1 (.t 30) (.t 31)⟩,⟨(some 33),none,.load .ref false 1 (.t 32)⟩,⟨(some 34),none,.fieldAddr 0 (.t 3)⟩,⟨(some 35),none,.load (.box 3) false 1 (.t 34)⟩,⟨(some 36),none,.lV (.t 35)⟩,⟨(some 37),none,.bin .sub (.t 36) (.c (.int .i64 1))⟩,⟨(some 38),none,.call 84 [(.t 33),(.c (.int .i64 1)),(.t 37)]⟩,⟨(some 39),none,.not (.t 38)⟩,⟨(some 40),none,.mv false (.t 39)⟩,⟨(some 41),(some (40,false)),.mv false (.t 6)⟩,⟨(some 42),(some (40,false)),.bin .gtr (.t 41) (.c (.int .i64 0))⟩,⟨(some 43),(some (40,false)),.mv false (.t 42)⟩,⟨(some 44),(some (43,true)),.fieldAddr 1 (.t 3)⟩,⟨(some 45),(some (43,true)),.load (.box 3) false 1 (.t 44)⟩,⟨(some 46),(some (43,true)),.mv false (.t 6)⟩,⟨(some 47),(some (43,true)),.indexAddr 1 (.t 45) (.t 46)⟩,⟨(some 48),(some (43,true)),.load .ref false 1 (.t 47)⟩,⟨(some 49),(some (43,true)),.fieldAddr 1 (.t 3)⟩,⟨(some 50),(some (43,true)),.load (.box 3) false 1 (.t 49)⟩,⟨(some 51),(some (43,true)),.mv false (.t 6)⟩,⟨(some 52),(some (43,true)),.bin .sub (.t 51) (.c (.int .i64 1))⟩,⟨(some 53),(some (43,true)),.indexAddr 1 (.t 50) (.t 52)⟩,⟨(some 54),(some (43,true)),.load .ref false 1 (.t 53)⟩,⟨(some 55),(some (43,true)),.bin .leq (.t 48) (.t 54)⟩,⟨(some 56),(some (40,false)),.pick (.t 43) (.t 55) (.c (.bool false))⟩,⟨(some 57),none,.pick (.t 40) (.c (.bool true)) (.t 56)⟩]) (.cond (.t 57) (.seq (.ops [⟨(some 4),none,.mv true (.c (.bool false))⟩])<|.ret) (.skip)))) (bH 62 f152.cO.cB.cB.cA.cB.cB.cB.cB.cB)))))) (bH 62 f152.cO.cB.cB.cB))))
noncomputable def c151:ae:=bH 54 f151.cO
noncomputable def c36:ae:=(.seq (bH 41 f36.cO.cA) (.seq (.c_ [⟨(some 9),none,.load (.box 2) true 15 (.t 2)⟩,⟨(some 10),none,.load (.box 2) true 15 (.t 2)⟩,⟨(some 11),none,.call 77 [(.t 10)]⟩,⟨(some 12),none,.mv false (.t 11)⟩,⟨(some 13),(some (12,true)),.mv false (.t 1)⟩,⟨(some 14),(some (12,true)),.fieldAddr 5 (.t 2)⟩,⟨(some 15),(some (12,true)),.fieldAddr 7 (.t 14)⟩,⟨(some 16),(some (12,true)),.load (.box 2) false 1 (.t 15)⟩,⟨(some 17),(some (12,true)),.lV (.t 16)⟩,⟨(some 18),(some (12,true)),.bin .sub (.t 17) (.c (.int .i64 1))⟩,⟨(some 19),(some (12,true)),.call 99 [(.t 13),(.c (.int .i64 0)),(.t 18)]⟩,⟨(some 20),none,.pick (.t 12) (.t 19) (.c (.bool false))⟩,⟨(some 21),none,.call 76 [(.t 9),(.t 20)]⟩,⟨(some 8),none,.mv false (.t 21)⟩,⟨(some 22),none,.extract (.t 8) 0⟩,⟨(some 23),none,.extract (.t 8) 1⟩,⟨(some 6),none,.alloc 102 [(.slice .nil []),(.int .i64 0),(.int .i64 0),(.int .i64 0),(.int .i64 0),(.slice .nil []),(.slice .nil []),(.int .i64 0),(.int .i64 0),(.int .i64 0),(.int .i64 0),(.int .i64 0),(.slice .nil []),(.int .i64 0),(.int .i64 0),(.slice .nil [])]⟩,⟨none,none,.store (.box 6) 16 (.t 6) (.t 22)⟩,⟨(some 7),none,.mv true (.t 23)⟩]) (.seq (bH 41 f36.cO.cB.cB.cA) (bH 41 f36.cO.cB.cB.cB))))
noncomputable def c44:ae:=bH 33 f44.cO
noncomputable def c45:ae:=bH 29 f45.cO
noncomputable def c79:ae:=bH 27 f79.cO
noncomputable def c173:ae:=(.seq (.ops [⟨(some 2),none,.mv true (.c (.str []))⟩]) (.seq (.ops [⟨(some 3),none,.mv true (.c (.int .i64 0))⟩]) (.seq (bH 25 f173.cO.cB.cB.cA) (.seq (.c_ [⟨(some 17),none,.call 206 []⟩,⟨(some 18),none,.mv false (.t 3)⟩,⟨(some 19),none,.mX false 5 1 (.t 17) (.t 18)⟩,⟨(some 20),none,.buildSlice 152 9 1 [(.t 19)]⟩,⟨(some 21),none,.mv false (.t 0)⟩,⟨(some 22),none,.gx (.m 21 [(211,281),(212,283),(215,284),(217,285),(219,286)]) []⟩,⟨(some 23),none,.append 152 9 1 16 (.t 20) (.t 22)⟩,⟨(some 24),none,.call 199 [(.t 23),(.c (.str [32]))]⟩,⟨(some 2),none,.mv true (.t 24)⟩])<|.ret))))
noncomputable def c29:ae:=(.seq (bH 26 f29.cO.cA) (.seq (.c_ [⟨(some 9),none,.load (.box 2) true 15 (.t 2)⟩,⟨(some 10),none,.load (.box 2) true 15 (.t 2)⟩,⟨(some 11),none,.call 77 [(.t 10)]⟩,⟨(some 12),none,.mv false (.t 11)⟩,⟨(some 13),(some (12,true)),.load (.box 2) true 15 (.t 2)⟩,⟨(some 14),(some (12,true)),.mv false (.t 1)⟩,⟨(some 15),(some (12,true)),.call 91 [(.t 13),(.t 14)]⟩,⟨(some 16),none,.pick (.t 12) (.t 15) (.c (.bool false))⟩,⟨(some 17),none,.call 76 [(.t 9),(.t 16)]⟩,⟨(some 8),none,.mv false (.t 17)⟩,⟨(some 18),none,.extract (.t 8) 0⟩,⟨(some 19),none,.extract (.t 8) 1⟩,⟨(some 6),none,.alloc 102 [(.slice .nil []),(.int .i64 0),(.int .i64 0),(.int .i64 0),(.int .i64 0),(.slice .nil []),(.slice .nil []),(.int .i64 0),(.int .i64 0),(.int .i64 0),(.int .i64 0),(.int .i64 0),(.slice .nil []),(.int .i64 0),(.int .i64 0),(.slice .nil [])]⟩,⟨none,none,.store (.box 6) 16 (.t 6) (.t 18)⟩,⟨(some 7),none,.mv true (.t 19)⟩]) (bH 26 f29.cO.cB.cB)))
noncomputable def c105:ae:=bH 25 f105.cO
noncomputable def c58:ae:=bH 26 f58.cO
noncomputable def c140:ae:=bH 26 f140.cO
noncomputable def c74:ae:=bH 10 f74.cO
noncomputable def c207:ae:=bH 19 f207.cO
noncomputable def c279:ae:=bH 19 f279.cO
noncomputable def c23:ae:=bH 16 f23.cO
noncomputable def c104:ae:=bH 23 f104.cO
noncomputable def c136:ae:=bH 18 f136.cO
noncomputable def c161:ae:=(.seq (.ops [⟨(some 2),none,.mv true (.c (.str []))⟩])<|.seq (.ops [⟨(some 3),none,.mv true (.c (.int .i64 0))⟩])<|.seq (.seq (.ops [⟨(some 4),none,.mv false (.t 0)⟩])<|.block 0<|.seq (.ops [⟨(some 5),none,.assert 197 (.agg [(.int .i64 0),(.int .i64 0),(.bool false)]) (.t 4)⟩,⟨(some 6),none,.extract (.t 5) 1⟩,⟨(some 7),none,.extract (.t 5) 0⟩])<|.cond (.t 6) (.ops [⟨(some 3),none,.mv true (.c (.int .i64 1))⟩]) (.skip))<|.seq (.c_ [⟨(some 8),none,.call 200 []⟩,⟨(some 9),none,.mv false (.t 3)⟩,⟨(some 10),none,.mX false 2 1 (.t 8) (.t 9)⟩,⟨(some 11),none,.buildSlice 152 9 1 [(.t 10)]⟩,⟨(some 12),none,.mv false (.t 0)⟩,⟨(some 13),none,.gx (.m 12 [(194,278),(197,280)]) []⟩,⟨(some 14),none,.append 152 9 1 16 (.t 11) (.t 13)⟩,⟨(some 15),none,.call 199 [(.t 14),(.c (.str [32]))]⟩,⟨(some 2),none,.mv true (.t 15)⟩])<|.ret)
noncomputable def c203:ae:=bH 18 f203.cO
noncomputable def c43:ae:=(.seq (.ops [⟨(some 3),none,.box 31 15 (.t 0)⟩,⟨(some 6),none,.alloc 31 [(.slice .nil []),(.int .i64 0),(.int .i64 0),(.int .i64 0),(.int .i64 0),(.slice .nil []),(.slice .nil []),(.int .i64 0),(.int .i64 0),(.int .i64 0),(.int .i64 0),(.int .i64 0),(.slice .nil []),(.int .i64 0),(.int .i64 0)]⟩])<|.seq (.ops [⟨(some 7),none,.fieldAddr 0 (.t 3)⟩,⟨(some 8),none,.load .any false 1 (.t 7)⟩,⟨(some 9),none,.append 22 52 3 24 (.c (.slice .nil [])) (.t 8)⟩,⟨(some 10),none,.fieldAddr 0 (.t 3)⟩,⟨none,none,.store .any 1 (.t 10) (.t 9)⟩])<|.seq (.bad)<|.seq (.ops [⟨(some 41),none,.load .any true 15 (.t 3)⟩,⟨none,none,.store .any 15 (.t 6) (.t 41)⟩])<|.ret)
noncomputable def c107:ae:=bH 12 f107.cO
noncomputable def c99:ae:=bH 15 f99.cO
noncomputable def c209:ae:=bH 8 f209.cO
noncomputable def c21:ae:=bH 9 f21.cO
noncomputable def c80:ae:=bH 19 f80.cO
noncomputable def c65:ae:=bH 9 f65.cO
noncomputable def c138:ae:=bH 6 f138.cO
noncomputable def c143:ae:=bH 9 f143.cO
noncomputable def c158:ae:=bH 6 f158.cO
noncomputable def c142:ae:=bH 6 f142.cO
noncomputable def c155:ae:=bH 5 f155.cO
noncomputable def c49:ae:=bH 5 f49.cO
noncomputable def c56:ae:=bH 32 f56.cO
end Go.Proofs.Tryz
