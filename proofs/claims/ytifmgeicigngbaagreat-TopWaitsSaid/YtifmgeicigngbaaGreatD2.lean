/-
  A part of the proof: C2 C3 C14 C15 C16 C17 C18 C4 C19 C20 C21 C5 C6.
-/
import Derived.Test.YtifmgeicigngbaaGreatA2
import Derived.Test.YtifmgeicigngbaaGreatK1
import Derived.Test.YtifmgeicigngbaaGreatQ1
import Derived.Test.YtifmgeicigngbaaGreatD1
import Derived.Test.YtifmgeicigngbaaGreatA3
set_option linter.all false
set_option linter.unusedVariables false
set_option linter.unusedSimpArgs false
set_option linter.deprecated false
namespace Go.Proofs.Tryz
open Go Go.AL Go.RowKit Go.Proofs
attribute [local simp] awp_all qs_all ops_all dops_all ops_nil dops_nil ops_call ops_callv ops_alloc ops_box dops_call dops_alloc kO_eq kD_eq awanted apure ev Eff.S Eff.H tmpOf upd putD AL.start AV.dem AV.cells AV.storable AV.scells splice scrub abin loadA HR.okB post ares aress ares1 AV.out AV.isData ints_len ints_get fz fz1 AV.vw AV.vw1 boxy vI int undefA assignQ thenQ blockQ seqQ panQ prol prolH allocOf
variable {GI:World→Prop}
def accI:Int→List Int→List Int
  |a,[]=>[a]
  |a,x::l=>a::accI (a+x) l
theorem accI_len (l:List Int):∀ a,(accI a l).length=l.length+1:=by
  induction l with
  |nil=>intro a;rfl
  |cons x l ih=>intro a;simp [accI,ih]
theorem accI_get (l:List Int):∀ a i,i≤l.length→(accI a l)[i]? = some (a+(l.take i).sum):=by
  induction l with
  | nil => intro a i hi; have : i = 0 := by simpa using hi
           subst this;simp [accI]
  |cons x l ih =>
    intro a i hi
    cases i with
    |zero=>simp [accI]
    |succ i =>
      simp only [accI,List.getElem?_cons_succ,List.take_succ_cons,List.sum_cons]
      rw [ih _ i (by simpa using hi)]
      congr 1;omega
theorem accI_snoc (l:List Int) (x:Int):∀ a,accI a (l++[x])=accI a l++[a+l.sum+x]:=by
  induction l with
  |nil=>intro a;simp [accI]
  |cons y l ih=>intro a;simp only [List.cons_append,accI,ih,List.sum_cons];congr 3;omega
def lowS (s:CSheet):List Int:=s.dry.map (·.1)
def highS (s:CSheet):List Int:=s.dry.map (·.2)
def shopL (s:CSheet):List AV:=cshL s++[vI (accI 0 (lowS s)),vI (accI 0 (highS s))]
def shopA (s:CSheet):AV := .agg (shopL s)
def dryOK (s:CSheet):Prop:=∀ x∈s.dry,0≤x.1∧x.1≤24∧0≤x.2∧x.2≤24
theorem sum_bound (l:List Int) (h:∀ x∈l,0≤x∧x≤24):0≤l.sum∧l.sum≤24 * l.length:=by
  induction l with
  |nil=>simp
  |cons x l ih =>
    have h1:=h x (by simp)
    have h2:=ih fun y hy=>h y (List.mem_cons_of_mem _ hy)
    simp only [List.sum_cons,List.length_cons]
    omega
theorem low_bound {s:CSheet} (hb:dryOK s) (i:Nat):0≤((lowS s).take i).sum∧((lowS s).take i).sum≤24 * s.dry.length:=by
  have h:=sum_bound ((lowS s).take i) fun x hx=>by
    obtain ⟨y,hy,rfl⟩:=List.mem_map.1 (List.mem_of_mem_take hx)
    have:=hb y hy
    omega
  have:((lowS s).take i).length≤s.dry.length:=by simp [lowS];omega
  omega
theorem high_bound {s:CSheet} (hb:dryOK s) (i:Nat):0≤((highS s).take i).sum∧((highS s).take i).sum≤24 * s.dry.length:=by
  have h:=sum_bound ((highS s).take i) fun x hx=>by
    obtain ⟨y,hy,rfl⟩:=List.mem_map.1 (List.mem_of_mem_take hx)
    have:=hb y hy
    omega
  have:((highS s).take i).length≤s.dry.length:=by simp [highS];omega
  omega
theorem built89 {u0 u1 u2 c7 c8:Value} (h7:c7.oneCell'=true) (h8:c8.oneCell'=true):prog.built 89 [(0,.agg #[u0,u1,u2]),(1,c7),(2,c8)]=some #[u0,u1,u2,c7,c8]:=by
  have e:∀ c c7 c8:Value,prog.built 89 [(0,c),(1,c7),(2,c8)]=Instr.fill (fun x => #[(0,3),(3,1),(4,1)][x]?) #[.slice none 0 0,.slice none 0 0,.slice none 0 0,.slice none 0 0,.slice none 0 0] [(0,c),(1,c7),(2,c8)]:=by intro c c7 c8;kernel_rfl
  rw [e]
  have e6:(Value.agg #[u0,u1,u2]).cells = #[u0,u1,u2]:=rfl
  simp [Instr.fill,cells_of_one h7,cells_of_one h8,e6]
def F31 (s:CSheet) (i:Nat) (S:Slots) (H:Boxes):Prop :=
  S 2 = .box 2 0∧(∃ cs,H 2=some cs∧cs.length=5)∧S 3 = .box 3 0∧H 3=some (cshL s++[.slice (.own 3) (ints (accI 0 ((lowS s).take i))),.slice (.own 3) (ints (accI 0 ((highS s).take i)))]) ∧
  S 11 = .slice .view (endsA s.dry)∧S 12 = .int .i64 s.dry.length∧S 13 = .int .i64 (i:Nat)
noncomputable def dr31:List AOpr:=[⟨(some 18),none,.fieldAddr 3 (.t 3)⟩,
  ⟨(some 19),none,.loadT (.box 3) (.t 18)⟩,
  ⟨(some 20),none,.fieldAddr 3 (.t 3)⟩,
  ⟨(some 21),none,.load (.box 3) false 1 (.t 20)⟩,
  ⟨(some 22),none,.mv false (.t 4)⟩,
  ⟨(some 23),none,.indexAddr 1 (.t 21) (.t 22)⟩,
  ⟨(some 24),none,.load .ref false 1 (.t 23)⟩,
  ⟨(some 25),none,.fieldAddr 0 (.t 5)⟩,
  ⟨(some 26),none,.load (.box 5) false 1 (.t 25)⟩,
  ⟨(some 27),none,.bin .add (.t 24) (.t 26)⟩,
  ⟨(some 28),none,.buildSlice 28 3 1 [(.t 27)]⟩,
  ⟨(some 29),none,.append 28 3 1 8 (.t 19) (.t 28)⟩,
  ⟨(some 30),none,.fieldAddr 4 (.t 3)⟩,
  ⟨(some 31),none,.loadT (.box 3) (.t 30)⟩,
  ⟨(some 32),none,.fieldAddr 4 (.t 3)⟩,
  ⟨(some 33),none,.load (.box 3) false 1 (.t 32)⟩,
  ⟨(some 34),none,.mv false (.t 4)⟩,
  ⟨(some 35),none,.indexAddr 1 (.t 33) (.t 34)⟩,
  ⟨(some 36),none,.load .ref false 1 (.t 35)⟩,
  ⟨(some 37),none,.fieldAddr 1 (.t 5)⟩,
  ⟨(some 38),none,.load (.box 5) false 1 (.t 37)⟩,
  ⟨(some 39),none,.bin .add (.t 36) (.t 38)⟩,
  ⟨(some 40),none,.buildSlice 28 3 1 [(.t 39)]⟩,
  ⟨(some 41),none,.append 28 3 1 8 (.t 31) (.t 40)⟩,
  ⟨(some 42),none,.fieldAddr 3 (.t 3)⟩,
  ⟨none,none,.store (.box 3) 1 (.t 42) (.t 29)⟩,
  ⟨(some 43),none,.fieldAddr 4 (.t 3)⟩,
  ⟨none,none,.store (.box 3) 1 (.t 43) (.t 41)⟩]
theorem run_build3 {P:Program} {a:Act} {o:Oper} {t:TypeId} {x y z:Operand} {i j k:Nat} {cells:Array Value} (w:World) (ho:o.op = .build t #[(i,x),(j,y),(k,z)]) (hb:P.built t [(i,a.eval x),(j,a.eval y),(k,a.eval z)]=some cells):(execOp a.eval o).run P w = .ok (.value (.agg cells)) w:=by
  have h:=run_build (P:=P) w t #[(i,a.eval x),(j,a.eval y),(k,a.eval z)] cells hb
  unfold execOp
  simp only [ho,Sem.run_bind,List.map_toArray,List.map_cons,List.map_nil,h,Result.andThen_ok]
  rfl
theorem arr_three {vs:Array Value} (h:vs.size=3):∃ u0 u1 u2,vs = #[u0,u1,u2]:=⟨vs[0],vs[1],vs[2],by
  apply Array.ext
  · simpa using h
  · intro i h1 h2
    match i,h2 with
    |0,_=>rfl
    |1,_=>rfl
    |2,_=>rfl⟩
theorem setRow_twice (w:World) {b:Nat} {vs vs' vs2:Array Value} {ty:TypeId} (h:w.heap[b]? = some (.cells vs ty (0,0))):(w.setRow b vs').setRow b vs2=w.setRow b vs2:=by
  have h1:=setRow_heap w b vs vs' ty (0,0) h
  rw [setRow_putObj _ h1 (cs':=vs2),setRow_putObj w h (cs':=vs'),setRow_putObj w h (cs':=vs2)]
  simp [World.putObj]
def zero5:List AV:=[.slice .nil [],.slice .nil [],.slice .nil [],.slice .nil [],.slice .nil []]
theorem rds_zero5 (Pr:Nat→Nat→Prop) (w:World):RDs Pr w zero5 #[.slice none 0 0,.slice none 0 0,.slice none 0 0,.slice none 0 0,.slice none 0 0]:=by
  refine ⟨rfl,fun i h h' => ?_,fun i h => ?_⟩
  · match i,h with
    |0,_ | 1,_ | 2,_ | 3,_ | 4,_=>exact .nils _
  · match i,h with
    |0,_ | 1,_ | 2,_ | 3,_ | 4,_=>rfl
noncomputable def bd31:ACode:=ACode.snd (ACode.snd (ACode.snd (ACode.fst (ACode.snd (ACode.snd c31)))))
set_option maxRecDepth 100000 in
theorem ac31 (hG:Stable GI) (s:CSheet) (hl:s.dry.length≤1000) (hb:dryOK s):AC prog GI 31 [cshA s] (.ret (shopA s)):=by
  refine AC.of_SW func31 rfl ntmps31 (by simp) fun cc w => ?_
  refine SW.cut hG hmix (by kernel_rfl) (ac:=ACode.fst c31) (by kernel_rfl) (fun _ _ h=>h) (fun S' H'=>S' 1 = .box 1 0∧H' 1=some (cshL s)∧S' 2 = .box 2 0∧H' 2=some zero5) ?_ ?_
  · simp [c31,ACode.fst,cshA,cshL,zero5]
  rintro S1 H1 ⟨s1,h1,s2,h2⟩
  refine SW.seq (SW.hand hG (p:=3) (lm:=[3,4,5]) (l2:=[]) (os1:=[_,_,_]) (oh:=[_,_,_]) (os2:=[]) rfl rfl rfl rfl (by kernel_rfl) (fun _ h=>h)
    (al1:=(ACode.dl (ACode.fst (ACode.snd c31))).take 3) (al2:=[]) (by kernel_rfl) rfl (by kernel_rfl) rfl
    (K1:=fun S H=>S 1 = .box 1 0∧H 1=some (cshL s)∧S 2 = .box 2 0∧H 2=some zero5∧S 6=cshA s∧S 7 = .slice (.own 3) [.int .i64 0]∧S 8 = .slice (.own 3) [.int .i64 0])
    (K2:=fun o S H=>o=Old.plain cc w∧S 1 = .box 1 0∧H 1=some (cshL s)∧S 2 = .box 2 0∧H 2=some zero5∧S 3 = .box 3 0∧H 3=some (cshL s++[.slice (.own 3) [.int .i64 0],.slice (.own 3) [.int .i64 0]]))
    (K3:=fun o S H=>o=Old.plain cc w∧S 1 = .box 1 0∧H 1=some (cshL s)∧S 2 = .box 2 0∧H 2=some zero5∧S 3 = .box 3 0∧H 3=some (cshL s++[.slice (.own 3) [.int .i64 0],.slice (.own 3) [.int .i64 0]])) ?_ ?_ ?_ ?_)
  · simp [c31,ACode.fst,ACode.snd,ACode.dl,cshA,cshL,elemsOK,s1,h1,s2,h2]
  · rintro w0 g S2 H2 a w' m hG0 ho R ⟨s1,h1,s2,h2,s6,s7,s8⟩
    have hsz:=R.size
    have r6:=R.slot 6 (by decide) id
    rw [s6] at r6
    obtain ⟨u0,u1,u2,e6⟩:∃ u0 u1 u2,a.tmps.getD 6 undef = .agg #[u0,u1,u2]:=by
      generalize a.tmps.getD 6 undef=c at r6
      cases r6 with
      |data _ _ h =>
        cases h with
        |agg cs vs hl hone hr =>
          obtain ⟨u0,u1,u2,rfl⟩:=arr_three (vs:=vs) (by rw [← hl];rfl)
          exact ⟨u0,u1,u2,rfl⟩
    rw [e6] at r6
    have r6d:∀ j (h:j < (cshL s).length) (h':j < #[u0,u1,u2].size),RD g.Pr w' (cshL s)[j] #[u0,u1,u2][j]:=by
      cases r6 with
      |data _ _ h =>
        cases h with
        |agg cs vs hl hone hr=>exact hr
    have r7:RD g.Pr w' (.slice (.own 3) [.int .i64 0]) (a.tmps.getD 7 undef):=by
      have:=R.slot 7 (by decide) id
      rw [s7] at this
      exact this.toData rfl
    have r8:RD g.Pr w' (.slice (.own 3) [.int .i64 0]) (a.tmps.getD 8 undef):=by
      have:=R.slot 8 (by decide) id
      rw [s8] at this
      exact this.toData rfl
    obtain ⟨c7,e7⟩:∃ c,a.tmps.getD 7 undef=c:=⟨_,rfl⟩
    obtain ⟨c8,e8⟩:∃ c,a.tmps.getD 8 undef=c:=⟨_,rfl⟩
    rw [e7] at r7
    rw [e8] at r8
    have o7:c7.oneCell'=true:=r7.one rfl
    have o8:c8.oneCell'=true:=r8.one rfl
    have hgp:∀ (a:Act) (d t:Nat) (c:Value),t≠d→(a.put (some d) c).tmps.getD t undef=a.tmps.getD t undef:=fun a d t c h=>by
      simp [Act.put,Array.getElem?_setIfInBounds_ne (Ne.symm h)]
    have hgs:∀ (a:Act) (d:Nat) (c:Value),a.tmps.size=46→d < 46→(a.put (some d) c).tmps.getD d undef=c:=fun a d c h hd=>by
      simp [Act.put,h,hd]
    refine opIn_val rfl rfl (by rfl) (run_build3 (t:=89) (x := .tmp 6) (y := .tmp 7) (z := .tmp 8) w' rfl (cells := #[u0,u1,u2,c7,c8]) ?_) ?_
    · show prog.built 89 [(0,a.tmps.getD 6 undef),(1,a.tmps.getD 7 undef),(2,a.tmps.getD 8 undef)]=_
      rw [e6,e7,e8]
      exact built89 o7 o8
    have R3:=R.forget 9 (by decide) (.agg #[u0,u1,u2,c7,c8])
    obtain ⟨a3,ha3⟩:∃ a3,a.put (some 9) (.agg #[u0,u1,u2,c7,c8])=a3:=⟨_,rfl⟩
    show wpOpsIn _ _ _ _ _ [4,5] (a.put (some 9) _) w'
    rw [ha3] at R3 ⊢
    have z3:a3.tmps.size=46:=R3.size
    have f9:a3.tmps.getD 9 undef = .agg #[u0,u1,u2,c7,c8]:=by rw [← ha3];exact hgs _ _ _ hsz (by decide)
    have f7:a3.tmps.getD 7 undef=c7:=by rw [← ha3,hgp _ _ _ _ (by decide)];exact e7
    have f8:a3.tmps.getD 8 undef=c8:=by rw [← ha3,hgp _ _ _ _ (by decide)];exact e8
    obtain ⟨it,hi,hz⟩:=Option.bind_eq_some_iff.1 (show (prog.info? 89).bind (·.zero)=some (.agg #[.slice none 0 0,.slice none 0 0,.slice none 0 0,.slice none 0 0,.slice none 0 0]) by kernel_rfl)
    have his:it.size=5:=by
      have:(prog.info? 89).map (·.size)=some 5:=by kernel_rfl
      rw [hi] at this
      exact Option.some.inj this
    refine opIn_val rfl rfl (by rfl) (run_allocZ (t:=89) rfl hi hz) ?_
    obtain ⟨g4,q1,q2,q3,q4,q5,R4⟩:=R3.layBox 3 (by decide) (by rw [ho];exact fun h=>h) zero5 _ 89 (rds_zero5 _ _) (fun g' j h h'=>by
      match j,h with
      |0,_ | 1,_ | 2,_ | 3,_ | 4,_=>exact ⟨trivial,trivial⟩)
    obtain ⟨b,hb⟩:∃ b,w'.heap.size=b:=⟨_,rfl⟩
    obtain ⟨w4,hw4⟩:∃ w4,w'.alloc (.cells #[.slice none 0 0,.slice none 0 0,.slice none 0 0,.slice none 0 0,.slice none 0 0] 89)=w4:=⟨_,rfl⟩
    have hw4b:w4.heap[b]? = some (.cells #[.slice none 0 0,.slice none 0 0,.slice none 0 0,.slice none 0 0,.slice none 0 0] 89 (0,0)):=by rw [← hw4,← hb];exact World.alloc_heap_new w' _
    have hbl:Below w'.heap.size w' w4:=by rw [← hw4];exact (Below.refl _ _).alloc (Nat.le_refl _) _
    have hPr4:g4.Pr=g.Pr:=by unfold Gh.Pr;rw [q1,q2,q3]
    have hK4:Keeps g.Pr g.Pr w' w4:=Keeps.of_blocks (fun b h=>hbl.block b h) fun _ _ _ h=>h
    rw [hb] at R4 q5
    obtain ⟨a4,ha4⟩:∃ a4,a3.put (some 3) (.pointer (some ⟨b,0,none⟩))=a4:=⟨_,rfl⟩
    show wpOpsIn _ _ _ _ _ [5] (a3.put (some 3) (.pointer (some ⟨w'.heap.size,0,none⟩))) (w'.alloc (.cells #[.slice none 0 0,.slice none 0 0,.slice none 0 0,.slice none 0 0,.slice none 0 0] 89))
    rw [hb,hw4,ha4]
    rw [hw4,ha4] at R4
    have g9:a4.tmps.getD 9 undef = .agg #[u0,u1,u2,c7,c8]:=by rw [← ha4,hgp _ _ _ _ (by decide)];exact f9
    have g7:a4.tmps.getD 7 undef=c7:=by rw [← ha4,hgp _ _ _ _ (by decide)];exact f7
    have g8:a4.tmps.getD 8 undef=c8:=by rw [← ha4,hgp _ _ _ _ (by decide)];exact f8
    have g3:a4.tmps.getD 3 undef = .pointer (some ⟨b,0,none⟩):=by rw [← ha4];exact hgs _ _ _ z3 (by decide)
    have hone:∀ u∈(Value.agg #[u0,u1,u2,c7,c8]).cells.toList,u.oneCell'=true:=by
      have h3:∀ j (h:j < 3),(#[u0,u1,u2][j]).oneCell'=true:=fun j h=>(r6d j h h).one (by match j,h with | 0,_ | 1,_ | 2,_=>rfl)
      intro u hu
      simp [Value.cells] at hu
      rcases hu with rfl | rfl | rfl | rfl | rfl
      · exact h3 0 (by decide)
      · exact h3 1 (by decide)
      · exact h3 2 (by decide)
      · exact o7
      · exact o8
    refine opIn_skip rfl rfl (by rfl) (run_storeAll (t:=89) (x := .tmp 3) (y := .tmp 9) rfl g3 hi hw4b g9 (by rw [his];rfl) (by rw [his];rfl) hone) ?_
    show HQ prog w0 46 _ .normal a4 (w4.setRow b #[u0,u1,u2,c7,c8])
    have hRD:∀ {v:AV} {c:Value},RD g.Pr w' v c→RD g.Pr w4 v c:=fun h=>h.mono hK4
    obtain ⟨g5,p1,p2,p3,p4,R5,own7⟩:=R4.take (x := .tmp 7) (y := .t 7) rfl (fun _ _=>id) (.cell 3 3)
    have hPr5:g5.Pr=g.Pr:=by rw [← hPr4];unfold Gh.Pr;rw [p1,p2,p4]
    have ev7:AL.ev (upd (fun t=>scrub 3 (upd S2 9 .junk t)) 3 (.box 3 0)) (.t 7) = .slice (.own 3) [.int .i64 0]:=by simp [AL.ev,upd,s7,scrub]
    rw [ev7] at own7
    have own7:OwnAt prog w4 g5 (.cell 3 3) (.slice (.own 3) [.int .i64 0]) c7:=by rw [← g7];exact own7
    have R6:=R5.setBox 3 b (by rw [p3];exact q5) _ #[u0,u1,u2,c7,c8] 89 hw4b (cshL s++[.slice (.own 3) [.int .i64 0],.slice .view [.int .i64 0]]) rfl (fun j h h'=>by
      rw [hPr5]
      match j,h with
      |0,_=>exact hRD (r6d 0 (by simp [cshL]) (by simp))
      |1,_=>exact hRD (r6d 1 (by simp [cshL]) (by simp))
      |2,_=>exact hRD (r6d 2 (by simp [cshL]) (by simp))
      |3,_=>exact hRD r7
      |4,_=>exact RD.anyFlag (hRD r8)) (fun j h h'=>by
      match j,h with
      |0,_ | 1,_ | 2,_ | 4,_=>trivial
      |3,_=>exact own7) (fun j h=>by
      match j,h with
      |0,_ | 1,_ | 2,_ | 3,_ | 4,_=>rfl)
    have hw6:(w4.setRow b #[u0,u1,u2,c7,c8]).heap[b]? = some (.cells #[u0,u1,u2,c7,c8] 89 (0,0)):=setRow_heap w4 b _ _ _ _ hw4b
    obtain ⟨g7',t1,t2,t3,t4,R7,own8⟩:=R6.take (x := .tmp 8) (y := .t 8) rfl (fun _ _=>id) (.cell 3 4)
    have ev8:AL.ev (demS (upd (fun t=>scrub 3 (upd S2 9 .junk t)) 3 (.box 3 0)) (.t 7)) (.t 8) = .slice (.own 3) [.int .i64 0]:=by simp [AL.ev,demS,tmpOf,upd,s8,scrub]
    rw [ev8] at own8
    have own8:OwnAt prog (w4.setRow b #[u0,u1,u2,c7,c8]) g7' (.cell 3 4) (.slice (.own 3) [.int .i64 0]) c8:=by
      have h:=own8
      change OwnAt _ _ _ _ _ (a4.tmps.getD 8 undef) at h
      rw [g8] at h
      exact h
    have al7:g7'.al 3=some b:=by rw [t3,p3];exact q5
    obtain ⟨cs,vs,ty,k0,k1,k2,k3,k4,k5,k6,k7,k8⟩:=R7.box 3 b al7
    rw [upd_same] at k0
    cases k0
    rw [hw6] at k2
    cases k2
    have hPr7:g7'.Pr=g.Pr:=by rw [← hPr5];unfold Gh.Pr;rw [t1,t2,t4]
    have r8':RD g7'.Pr (w4.setRow b #[u0,u1,u2,c7,c8]) (.slice (.own 3) [.int .i64 0]) c8:=by
      have:=R6.slot 8 (by decide) id
      have e:demS (upd (fun t=>scrub 3 (upd S2 9 .junk t)) 3 (.box 3 0)) (.t 7) 8 = .slice (.own 3) [.int .i64 0]:=ev8
      rw [e,g8] at this
      rw [hPr7,← hPr5]
      exact this.toData rfl
    have R8:=R7.setBox 3 b al7 _ #[u0,u1,u2,c7,c8] 89 hw6 (cshL s++[.slice (.own 3) [.int .i64 0],.slice (.own 3) [.int .i64 0]]) rfl (fun j h h'=>by
      match j,h with
      |0,_=>exact k6 0 (by simp [cshL]) (by simp)
      |1,_=>exact k6 1 (by simp [cshL]) (by simp)
      |2,_=>exact k6 2 (by simp [cshL]) (by simp)
      |3,_=>exact k6 3 (by simp [cshL]) (by simp)
      |4,_=>exact r8') (fun j h h'=>by
      match j,h with
      |0,_ | 1,_ | 2,_=>trivial
      |3,_=>exact k7 3 (by simp [cshL]) (by simp)
      |4,_=>exact own8) (fun j h=>by
      match j,h with
      |0,_ | 1,_ | 2,_ | 3,_ | 4,_=>rfl)
    rw [setRow_twice w4 hw4b] at R8
    refine ⟨g7',_,_,R8,by rw [t2,p2,q2,ho],by simp [demS,tmpOf,upd,s1,scrub],by simp [upd,h1],by simp [demS,tmpOf,upd,s2,scrub],by simp [upd,h2],by simp [demS,tmpOf,upd],by simp [upd]⟩
  · rintro o S2 H2 h
    exact ⟨fun d hd=>by rw [h.1] at hd;exact hd,h⟩
  rintro o S2 H2 ⟨rfl,s1,h1,s2,h2,s3,h3⟩
  show SW prog GI 46 none (.seq (.seq _ (.block 0 (.loop _))) (.seq _ .ret)) _ _ _ _
  refine SW.seq (SW.cut hG hmix (by kernel_rfl) (ac:=ACode.fst (ACode.fst (ACode.snd (ACode.snd c31)))) (by kernel_rfl) (fun _ _ h=>h) (F31 s 0) ?_ ?_)
  · simp [c31,ACode.fst,ACode.snd,cshL,s1,h1,s2,h2,s3,h3,F31,zero5,endsA,accI,ints]
  intro S3 H3 hF
  refine SW.block (SW.loop (fun o S' H'=>∃ i,o=Old.plain cc w∧i≤s.dry.length∧F31 s i S' H') (fun S' _=>match S' 13 with | .int _ j=>s.dry.length - j.toNat | _=>0) ⟨0,rfl,Nat.zero_le _,hF⟩ ?_)
  rintro o S4 H4 ⟨i,rfl,hi,hF⟩
  have m13:S4 13 = .int .i64 (i:Nat):=hF.2.2.2.2.2.2
  show SW prog GI 46 none (.seq _ (.seq (.cond _ _ _) (.seq (.block 1 (.seq _ _)) _))) _ _ _ _
  refine SW.cut hG hmix (by kernel_rfl) (ac:=ACode.fst bd31) (by kernel_rfl) (fun _ _ h=>h) (fun S' H'=>S' 14 = .bool (decide (i < s.dry.length))∧F31 s i S' H') ?_ ?_
  · obtain ⟨s2,⟨cs,h2,hcs⟩,s3,h3,s11,s12,s13⟩:=hF
    simp [c31,bd31,ACode.fst,ACode.snd,F31,s2,h2,s3,h3,s11,s12,s13,hcs]
  rintro S5 H5 ⟨s14,hF⟩
  by_cases hlt:i < s.dry.length
  case neg =>
    refine SW.seq (SW.cond rfl false (by show S5 14=_;rw [s14];simp [hlt]) (SW.exit ?_))
    have hil:i=s.dry.length:=by omega
    subst hil
    obtain ⟨s2,⟨cs,h2,hcs⟩,s3,h3,s11,s12,s13⟩:=hF
    have el:(lowS s).take s.dry.length=lowS s:=List.take_of_length_le (by simp [lowS])
    have eh:(highS s).take s.dry.length=highS s:=List.take_of_length_le (by simp [highS])
    rw [el,eh] at h3
    show SW prog GI 46 none (.seq _ .ret) _ _ _ _
    refine SW.cut hG hmix (by kernel_rfl) (ac:=ACode.fst (ACode.snd (ACode.snd (ACode.snd c31)))) (by kernel_rfl) (fun _ _ h=>h) (fun S' H'=>S' 2 = .box 2 0∧H' 2=some (shopL s)) ?_ ?_
    · simp [c31,ACode.fst,ACode.snd,s2,h2,s3,h3,hcs,cshL,shopL]
    rintro S7 H7 ⟨s2,h2⟩
    refine SW.ret ⟨Marked.plain rfl,rfl,_,?_,rfl⟩
    obtain ⟨i89,hi89,hs89⟩:=info_size (P:=prog) (t:=89) (s:=5) (by kernel_rfl)
    obtain ⟨fs,hfs⟩:=under_struct (P:=prog) (t:=89) (by kernel_rfl)
    show ares prog 46 [.cell 2 89] S7 H7=_
    simp [ares,aress,ares1,s2,h2,hi89,hfs,hs89,loadA,aggT,AV.out,shopA,shopL,cshL,vI,AV.dem,AV.isData]
    try exact ⟨rfl,rfl,rfl,rfl,rfl⟩
  case pos =>
    refine SW.seq (SW.cond rfl true (by show S5 14=_;rw [s14];simp [hlt]) (SW.skip ?_))
    show SW prog GI 46 none (.seq (.block 1 (.seq _ _)) _) _ _ _ _
    refine SW.seq (SW.block (SW.cut hG hmix (by kernel_rfl) (ac:=ACode.fst (ACode.snd (ACode.fst (ACode.snd (ACode.snd bd31))))) (by kernel_rfl) (fun _ _ h=>h) (fun S' H'=>S' 4 = .int .i64 (i:Nat)∧S' 5 = .box 5 0∧H' 5=some [.int .i64 s.dry[i].1,.int .i64 s.dry[i].2]∧F31 s i S' H') ?_ ?_))
    · obtain ⟨s2,⟨cs,h2,hcs⟩,s3,h3,s11,s12,s13⟩:=hF
      simp [c31,bd31,ACode.fst,ACode.snd,F31,s2,h2,s3,h3,s11,s12,s13,hcs,endsA,endA,hlt]
    rintro S6 H6 ⟨s4,s5,h5,hF⟩
    have hll:(lowS s).length=s.dry.length:=by simp [lowS]
    have hhl:(highS s).length=s.dry.length:=by simp [highS]
    have ll:(accI 0 ((lowS s).take i)).length=i+1:=by rw [accI_len];simp;omega
    have lh:(accI 0 ((highS s).take i)).length=i+1:=by rw [accI_len];simp;omega
    have gl:(accI 0 ((lowS s).take i))[i]'(by omega)=((lowS s).take i).sum:=by
      have:=accI_get ((lowS s).take i) 0 i (by simp;omega)
      rw [List.getElem?_eq_getElem (by omega)] at this
      simpa [List.take_take] using this
    have gh:(accI 0 ((highS s).take i))[i]'(by omega)=((highS s).take i).sum:=by
      have:=accI_get ((highS s).take i) 0 i (by simp;omega)
      rw [List.getElem?_eq_getElem (by omega)] at this
      simpa [List.take_take] using this
    have hbi:=hb _ (List.getElem_mem hlt)
    have wl:IntKind.i64.wrap (((lowS s).take i).sum+s.dry[i].1)=((lowS s).take i).sum+s.dry[i].1:=wrapI (by have:=low_bound hb i;omega)
    have wh:IntKind.i64.wrap (((highS s).take i).sum+s.dry[i].2)=((highS s).take i).sum+s.dry[i].2:=wrapI (by have:=high_bound hb i;omega)
    have nl:accI 0 ((lowS s).take i)++[((lowS s).take i).sum+s.dry[i].1]=accI 0 ((lowS s).take (i+1)):=by
      have e:(lowS s).take (i+1)=(lowS s).take i++[s.dry[i].1]:=by
        rw [List.take_succ,List.getElem?_eq_getElem (by rw [hll];exact hlt)]
        simp [lowS]
      rw [e,accI_snoc];simp
    have nh:accI 0 ((highS s).take i)++[((highS s).take i).sum+s.dry[i].2]=accI 0 ((highS s).take (i+1)):=by
      have e:(highS s).take (i+1)=(highS s).take i++[s.dry[i].2]:=by
        rw [List.take_succ,List.getElem?_eq_getElem (by rw [hhl];exact hlt)]
        simp [highS]
      rw [e,accI_snoc];simp
    refine SW.mono (Q:=fun e o S H=>e = .normal∧o=Old.plain cc w∧S 2 = .box 2 0∧(∃ cs,H 2=some cs∧cs.length=5)∧S 3 = .box 3 0∧H 3=some (cshL s++[.slice (.own 3) (ints (accI 0 ((lowS s).take (i+1)))),.slice (.own 3) (ints (accI 0 ((highS s).take (i+1))))])∧S 11 = .slice .view (endsA s.dry)∧S 12 = .int .i64 s.dry.length∧S 13 = .int .i64 (i:Nat)) ?_
      (SW.drawX hG hmix (p:=1) (q:=13) [0,12] [2,3,4,5,6,7,8,9,10,11,13,14,15,16,17,18,19,20,21,22,23,24,25,26,27] (by kernel_rfl) (by kernel_rfl) (by decide) (by decide) (l:=dr31) (by kernel_rfl) [_,_] [_,_,_,_,_,_,_,_,_,_,_,_,_,_,_,_,_,_,_,_,_,_,_,_,_] _ _ rfl rfl rfl rfl ?_)
    · rintro e o S7 H7 ⟨rfl,rfl,s2,⟨cs,h2,hcs⟩,s3,h3,s11,s12,s13⟩
      show SW prog GI 46 none _ _ _ _ _
      have hw:IntKind.i64.wrap ((i:Int)+1)=i+1:=wrapI (by omega)
      refine SW.of_awp hG hmix (by kernel_rfl) (fun _ _ h=>h) (ac:=ACode.snd (ACode.snd (ACode.snd bd31))) (by kernel_rfl) ?_
      simp [c31,bd31,ACode.fst,ACode.snd,F31,thenS,Post.awp,s2,h2,s3,h3,s11,s12,s13,hcs,hw]
      refine ⟨⟨i+1,by omega,⟨rfl,rfl⟩,by simp⟩,?_⟩
      rw [m13]
      simp
      omega
    · obtain ⟨s2,⟨cs,h2,hcs⟩,s3,h3,s11,s12,s13⟩:=hF
      have hne:¬ (i:Int) < 0:=by omega
      have hsm:i+1+1 < 1048576:=by omega
      simp only [ints] at h3 ⊢
      simp [dops,SepAt,awanted,dstep,apure,astep,Eff.S,Eff.H,ev,upd,putD,s2,h2,hcs,s3,h3,s4,s5,h5,s11,s12,s13,loadA,cshL,AV.dem,AV.vw,AV.vw1,AV.cells,AV.storable,AV.scells,splice,HR.okB,tmpOf,elemsOK,abin,vI,ints,ll,lh,gl,gh,wl,wh,hsm,← nl,← nh]
      exact ⟨3,3,⟨rfl,rfl⟩,3,4,⟨rfl,rfl⟩,.inr (by decide)⟩
end Go.Proofs.Tryz
namespace Go.Proofs.Tryz
open Go Go.AL Go.RowKit Go.Proofs
attribute [local simp] awp_all qs_all ops_all dops_all ops_nil dops_nil ops_call ops_callv ops_alloc ops_box dops_call dops_alloc kO_eq kD_eq awanted apure ev Eff.S Eff.H tmpOf upd putD AL.start AV.dem AV.cells AV.storable AV.scells splice scrub abin loadA HR.okB post ares aress ares1 AV.out AV.isData ints_len ints_get fz fz1 AV.vw AV.vw1 boxy vI int undefA assignQ thenQ blockQ seqQ panQ prol prolH allocOf
variable {GI:World→Prop}
def sumS (l:List Int) (a b:Nat):Int:=(l.take b).sum - (l.take a).sum
theorem acc_at (l:List Int) {i:Nat} (h:i≤l.length):(accI 0 l)[i]'(by rw [accI_len];omega)=(l.take i).sum:=by
 have:=accI_get l 0 i h
 rw [List.getElem?_eq_getElem (by rw [accI_len];omega)] at this
 simpa using this
theorem ac85 (hG:Stable GI) (s:CSheet) (hl:s.dry.length≤1000) (hb:dryOK s) {a b:Nat} (ha:a≤s.dry.length) (hb':b≤s.dry.length):AC prog GI 85 [shopA s,.int .i64 (a:Nat),.int .i64 (b:Nat)] (.ret (.int .i64 (sumS (lowS s) a b))):=by
 have hll:(lowS s).length=s.dry.length:=by simp [lowS]
 have h1:=low_bound hb a
 have h2:=low_bound hb b
 have hw:IntKind.i64.wrap (((lowS s).take b).sum - ((lowS s).take a).sum)=((lowS s).take b).sum - ((lowS s).take a).sum:=wrapI (by omega)
 have e1:=acc_at (lowS s) (i:=a) (by omega)
 have e2:=acc_at (lowS s) (i:=b) (by omega)
 have g1:a < (accI 0 (lowS s)).length:=by rw [accI_len];omega
 have g2:b < (accI 0 (lowS s)).length:=by rw [accI_len];omega
 have n1:¬ (a:Int) < 0:=by omega
 have n2:¬ (b:Int) < 0:=by omega
 refine AC.of_body hG hmix func85 rfl ntmps85 (by simp) (ac:=c85) (by kernel_rfl) ?_
 simp [c85,shopA,shopL,cshL,e1,e2,g1,g2,hw,n1,n2,dops,dstep,astep,sumS]
theorem ac86 (hG:Stable GI) (s:CSheet) (hl:s.dry.length≤1000) (hb:dryOK s) {a b:Nat} (ha:a≤s.dry.length) (hb':b≤s.dry.length):AC prog GI 86 [shopA s,.int .i64 (a:Nat),.int .i64 (b:Nat)] (.ret (.int .i64 (sumS (highS s) a b))):=by
 have hll:(highS s).length=s.dry.length:=by simp [highS]
 have h1:=high_bound hb a
 have h2:=high_bound hb b
 have hw:IntKind.i64.wrap (((highS s).take b).sum - ((highS s).take a).sum)=((highS s).take b).sum - ((highS s).take a).sum:=wrapI (by omega)
 have e1:=acc_at (highS s) (i:=a) (by omega)
 have e2:=acc_at (highS s) (i:=b) (by omega)
 have g1:a < (accI 0 (highS s)).length:=by rw [accI_len];omega
 have g2:b < (accI 0 (highS s)).length:=by rw [accI_len];omega
 have n1:¬ (a:Int) < 0:=by omega
 have n2:¬ (b:Int) < 0:=by omega
 refine AC.of_body hG hmix func86 rfl ntmps86 (by simp) (ac:=c86) (by kernel_rfl) ?_
 simp [c86,shopA,shopL,cshL,e1,e2,g1,g2,hw,n1,n2,dops,dstep,astep,sumS]
theorem RV.fagg2 {Pr:Nat→Nat→Prop} {al:Nat→Option Nat} {w:World} {f1 f2:Nat} {A:AV} {c:Value} (h:RV Pr al w (.fagg [.func (.func f1) [A] [],.func (.func f2) [A] []]) c) (hA:A.isData=true) :
  ∃ x1 x2,c = .agg #[.func (.func f1) #[x1] #[],.func (.func f2) #[x2] #[]]∧RD Pr w A x1∧RD Pr w A x2:=by
 have one:∀ {f:Nat} {c:Value},RV Pr al w (.func (.func f) [A] []) c→∃ x,c = .func (.func f) #[x] #[]∧RD Pr w A x:=by
  intro f c h
  cases h with
  |data _ _ h=>cases h
  |func _ _ _ vs us h1 h2 r1 r2 =>
   obtain ⟨x,rfl⟩:=arr_one (vs:=vs) (by rw [← h1];rfl)
   have:us = #[]:=Array.eq_empty_of_size_eq_zero (by simpa using h2.symm)
   subst this
   exact ⟨x,rfl,(r1 0 (by simp) (by simp)).toData hA⟩
 cases h with
 |data _ _ h=>cases h
 |fagg _ vs hl hr =>
  have hs:vs.size=2:=by rw [← hl];rfl
  obtain ⟨x1,e1,q1⟩:=one (hr 0 (by simp) (by omega))
  obtain ⟨x2,e2,q2⟩:=one (hr 1 (by simp) (by omega))
  refine ⟨x1,x2,?_,q1,q2⟩
  congr 1
  apply Array.ext
  ·simpa using hs
  ·intro i h1 h2
   match i,h2 with
   |0,_=>exact e1
   |1,_=>exact e2
theorem slot_box {w0:World} {n:Nat} {g:Gh} {S:Slots} {H:Boxes} {a:Act} {w:World} (R:Rel prog w0 n NoU g S H a w) {t i:Nat} (ht:t < n) (hs:S t = .box i 0):∃ b,g.al i=some b∧a.tmps.getD t undef = .pointer (some ⟨b,0,none⟩):=by
 have h:=R.slot t ht id
 rw [hs] at h
 generalize a.tmps.getD t undef=c at h
 cases h with
 |data _ _ h=>cases h
 |box _ _ b h=>exact ⟨b,h,rfl⟩
theorem slot_int {w0:World} {n:Nat} {g:Gh} {S:Slots} {H:Boxes} {a:Act} {w:World} (R:Rel prog w0 n NoU g S H a w) {t:Nat} {k:Int} (ht:t < n) (hs:S t = .int .i64 k):a.tmps.getD t undef = .int .i64 k:=by
 have h:=R.slot t ht id
 rw [hs] at h
 exact h.int_eq
def val34 (bT:Nat) (f1 f2:Value) (a b l h:Int):Nat→Value
 |13 => .pointer (some ⟨bT,0,none⟩) | 14=>f1 | 15 => .int .i64 a | 16 => .int .i64 b | 17 => .int .i64 l
 |18 => .pointer (some ⟨bT,1,none⟩) | 19=>f2 | 20 => .int .i64 a | 21 => .int .i64 b | 22 => .int .i64 h
 |23 => .agg #[.int .i64 l,.int .i64 h] | _=>undef
theorem built33 {c1 c2:Value} (h1:c1.oneCell'=true) (h2:c2.oneCell'=true):prog.built 33 [(0,c1),(1,c2)]=some #[c1,c2]:=by
 have e:∀ u v:Value,prog.built 33 [(0,u),(1,v)]=Instr.fill (fun x => #[(0,1),(1,1)][x]?) #[.int .i64 0,.int .i64 0] [(0,u),(1,v)]:=by intro u v;kernel_rfl
 rw [e]
 simp [Instr.fill,cells_of_one h1,cells_of_one h2]
theorem run_build2 {P:Program} {a:Act} {o:Oper} {t:TypeId} {x y:Operand} {i j:Nat} {cells:Array Value} (w:World) (ho:o.op = .build t #[(i,x),(j,y)]) (hb:P.built t [(i,a.eval x),(j,a.eval y)]=some cells):(execOp a.eval o).run P w = .ok (.value (.agg cells)) w:=by
 have h:=run_build (P:=P) w t #[(i,a.eval x),(j,a.eval y)] cells hb
 unfold execOp
 simp only [ho,Sem.run_bind,List.map_toArray,List.map_cons,List.map_nil,h,Result.andThen_ok]
 rfl
set_option maxRecDepth 100000 in
theorem ac34 (hG:Stable GI) (s:CSheet) (hl:s.dry.length≤1000) (hb:dryOK s) {a b:Nat} (ha:a≤s.dry.length) (hb':b≤s.dry.length):AC prog GI 34 [shopA s,.int .i64 (a:Nat),.int .i64 (b:Nat)] (.ret (endA (sumS (lowS s) a b,sumS (highS s) a b))):=by
 intro w old cargs hGw hlen hr
 refine (callsIn_FR (ro:=none) (m:=0)).1 (callsIn_of_wp func34 rfl trivial ?_)
 have R:Rel prog w 24 NoU _ (AL.start [shopA s,.int .i64 (a:Nat),.int .i64 (b:Nat)]) (fun _=>none) { tmps:=cargs++Array.replicate (f34.ntmps - cargs.size) undef,defers:=[] } w:=Rel.begin (old:=old) ntmps34 (by simp) hlen hr
 refine wpIn_seq ?_
 refine region_step R hG hGw hmix (ac:=ACode.fst c34) (W:=fun t=>decide (3≤t)) (by kernel_rfl) (by kernel_rfl) (by kernel_rfl) (fun _ h=>h) (K:=fun S H=>S 1 = .int .i64 (a:Nat)∧S 2 = .int .i64 (b:Nat)∧S 3 = .box 3 0∧H 3=some (shopL s)∧S 6 = .box 6 0∧H 6=some [.int .i64 0,.int .i64 0]) ?_ ?_
 ·simp [c34,ACode.fst,shopA,shopL,cshL]
 rintro g1 S1 H1 a1 w1 ho1 R1 ⟨s1,s2,s3,h3,s6,h6⟩ hs1
 show Code.wpIn _ _ _ _ _ a1 w1
 refine wpIn_seq ?_
 refine front_step R1 hG hGw (p:=5) (l2:=[5,6]) rfl (by kernel_rfl) (by kernel_rfl) (l:=(ACode.dl (ACode.fst (ACode.snd c34))).take 5) (by kernel_rfl) (by decide) (W:=fun t=>decide (3≤t)) (by kernel_rfl) (by rw [ho1];exact fun _ h=>h)
  (K:=fun S H=>S 1 = .int .i64 (a:Nat)∧S 2 = .int .i64 (b:Nat)∧S 6 = .box 6 0∧H 6=some [.int .i64 0,.int .i64 0]∧S 12 = .fagg [.func (.func 85) [shopA s] [],.func (.func 86) [shopA s] []]) ?_ ?_
 ·simp [c34,ACode.fst,ACode.snd,ACode.dl,aops,awanted,astep,apure,Eff.S,Eff.H,ev,upd,putD,s1,s2,s3,h3,s6,h6,loadA,AV.dem,shopL,shopA,cshL,vI,HR.okB,isFn]
 rintro g2 S2 H2 a2 w2 ho2 R2 ⟨s1,s2,s6,h6,s12⟩ hs2
 obtain ⟨x1,x2,e12,q1,q2⟩:=RV.fagg2 (by have:=R2.slot 12 (by decide) id;rw [s12] at this;exact this) rfl
 obtain ⟨b6,al6,e6⟩:=slot_box R2 (by decide) s6
 have e1:=slot_int R2 (by decide) s1
 have e2:=slot_int R2 (by decide) s2
 obtain ⟨cs,vs,ty6,k0,k1,k2,k3,k4,k5,k6,k7,k8⟩:=R2.box 6 b6 al6
 rw [h6] at k0
 cases k0
 have hv2:vs.size=2:=by rw [← k5];rfl
 have hbl:Below w.heap.size w w2:=by have:=R2.below;rwa [R2.base] at this
 have hb6:w.heap.size≤b6:=by rw [← R2.base];exact k1
 have hd2:a2.defers=[]:=by rw [R2.defers,ho2,ho1];rfl
 have z2:=R2.size
 have hgp:∀ (a:Act) (d t:Nat) (c:Value),t≠d→(a.put (some d) c).tmps.getD t undef=a.tmps.getD t undef:=fun a d t c h=>by
  simp [Act.put,Array.getElem?_setIfInBounds_ne (Ne.symm h)]
 have hgs:∀ (a:Act) (d:Nat) (c:Value),a.tmps.size=24→d < 24→(a.put (some d) c).tmps.getD d undef=c:=fun a d c h hd=>by
  simp [Act.put,h,hd]
 obtain ⟨it,hi,hz⟩:=Option.bind_eq_some_iff.1 (show (prog.info? 170).bind (·.zero)=some (.agg #[.nilFunc,.nilFunc]) by kernel_rfl)
 have his:it.size=2:=by
  have:(prog.info? 170).map (·.size)=some 2:=by kernel_rfl
  rw [hi] at this
  exact Option.some.inj this
 refine opIn_val rfl rfl (by rfl) (run_allocZ (t:=170) rfl hi hz) ?_
 obtain ⟨bT,hbT⟩:∃ bT,w2.heap.size=bT:=⟨_,rfl⟩
 obtain ⟨w3,hw3⟩:∃ w3,w2.alloc (.cells #[.nilFunc,.nilFunc] 170)=w3:=⟨_,rfl⟩
 have h3T:w3.heap[bT]? = some (.cells #[.nilFunc,.nilFunc] 170 (0,0)):=by rw [← hw3,← hbT];exact World.alloc_heap_new w2 _
 have hb3:Below w2.heap.size w2 w3:=by rw [← hw3];exact (Below.refl _ _).alloc (Nat.le_refl _) _
 obtain ⟨a3,ha3⟩:∃ a3,a2.put (some 7) (.pointer (some ⟨bT,0,none⟩))=a3:=⟨_,rfl⟩
 show wpOpsIn _ _ _ _ _ [6] (a2.put (some 7) (.pointer (some ⟨w2.heap.size,0,none⟩))) (w2.alloc (.cells #[.nilFunc,.nilFunc] 170))
 rw [hbT,hw3,ha3]
 have z3:a3.tmps.size=24:=by rw [← ha3];simpa [Act.put] using z2
 have d3:a3.defers=[]:=by rw [← ha3];exact hd2
 have f7:a3.tmps.getD 7 undef = .pointer (some ⟨bT,0,none⟩):=by rw [← ha3];exact hgs _ _ _ z2 (by decide)
 have f12:a3.tmps.getD 12 undef = .agg #[.func (.func 85) #[x1] #[],.func (.func 86) #[x2] #[]]:=by rw [← ha3,hgp _ _ _ _ (by decide)];exact e12
 have f1:a3.tmps.getD 1 undef = .int .i64 (a:Nat):=by rw [← ha3,hgp _ _ _ _ (by decide)];exact e1
 have f2:a3.tmps.getD 2 undef = .int .i64 (b:Nat):=by rw [← ha3,hgp _ _ _ _ (by decide)];exact e2
 have f6:a3.tmps.getD 6 undef = .pointer (some ⟨b6,0,none⟩):=by rw [← ha3,hgp _ _ _ _ (by decide)];exact e6
 refine opIn_skip rfl rfl (by rfl) (run_storeAll (t:=170) (x := .tmp 7) (y := .tmp 12) rfl f7 hi h3T f12 (by rw [his];rfl) (by rw [his];rfl) (by intro u hu;simp [Value.cells] at hu;rcases hu with rfl | rfl<;>rfl)) ?_
 obtain ⟨w4,hw4⟩:∃ w4,w3.setRow bT #[.func (.func 85) #[x1] #[],.func (.func 86) #[x2] #[]]=w4:=⟨_,rfl⟩
 show Code.wpIn _ _ _ _ _ a3 (w3.setRow bT #[.func (.func 85) #[x1] #[],.func (.func 86) #[x2] #[]])
 rw [hw4]
 have h4T:w4.heap[bT]? = some (.cells #[.func (.func 85) #[x1] #[],.func (.func 86) #[x2] #[]] 170 (0,0)):=by rw [← hw4];exact setRow_heap w3 bT _ _ _ _ h3T
 have h4o:∀ k,k < bT→w4.heap[k]? = w2.heap[k]? := fun k hk=>by
  rw [← hw4,setRow_other w3 bT k _ (by omega)]
  exact hb3.block k (by omega)
 have h4s:w4.heap.size=bT+1:=by rw [← hw4,← hw3];simp [hbT]
 have hb4:Below w2.heap.size w2 w4:=by
  refine ⟨?_,?_,?_,by omega,fun k hk=>h4o k (by omega)⟩
  ·rw [← hw4];exact hb3.os
  ·rw [← hw4];exact hb3.tape
  ·rw [← hw4];exact hb3.output
 have hlt6:b6 < bT:=by have:=(Array.getElem?_eq_some_iff.1 k2).1;omega
 have call:∀ (f:Nat) (x:Value) (r:Int) (wx:World),Below w4.heap.size w4 wx→RD g2.Pr w2 (shopA s) x→AC prog GI f [shopA s,.int .i64 (a:Nat),.int .i64 (b:Nat)] (.ret (.int .i64 r)) →
   Calls prog f #[x,.int .i64 (a:Nat),.int .i64 (b:Nat)] wx fun e w'=>e = .returned (.int .i64 r)∧Below w4.heap.size w4 w':=by
  intro f x r wx hbx hx hac
  have hbx2:Below w2.heap.size w2 wx:=hb4.trans (hbx.mono (by omega))
  have hGx:GI wx:=hG w wx hGw (hbl.trans (hbx2.mono hbl.size))
  refine (hac wx g2.Pr #[x,.int .i64 (a:Nat),.int .i64 (b:Nat)] hGx rfl (fun i h h' => ?_)).mono ?_
  ·match i,h with
   |0,_=>exact .data _ _ (hx.mono (Keeps.of_blocks (fun k hk=>hbx2.block k hk) fun _ _ _ h=>h))
   |1,_=>exact .data _ _ (.int _ _)
   |2,_=>exact .data _ _ (.int _ _)
  ·rintro e w' ⟨hbw,hh,hfr,c,rfl,hc,_⟩
   have hc':=hc.int_eq
   subst hc'
   exact ⟨rfl,hbx.trans (hbw.mono hbx.size)⟩
 refine wpIn_seq ?_
 refine region_valsB hmix (p:=11) (n:=24) (val:=val34 bT (.func (.func 85) #[x1] #[]) (.func (.func 86) #[x2] #[]) a b (sumS (lowS s) a b) (sumS (highS s) a b)) (by kernel_rfl) (by kernel_rfl) (by kernel_rfl) z3 (fun wx=>Below w4.heap.size w4 wx) ((Below.refl _ w4).drew) ?_ ?_
 ·intro i o l aX wx ho hI hW hw
  obtain ⟨i170,hi170,hs170⟩:=info_size (P:=prog) (t:=144) (s:=1) (by kernel_rfl)
  obtain ⟨ln,el,hla,hle⟩:∃ len el,prog.underlying 170=some (.array len el)∧(len=2∧el=144):=⟨2,144,by kernel_rfl,rfl,rfl⟩
  obtain ⟨rfl,rfl⟩:=hle
  obtain ⟨d144,hd144,hd144'⟩:=under_agg (P:=prog) (t:=144) (by kernel_rfl)
  have hT:wx.heap[bT]? = some (.cells #[.func (.func 85) #[x1] #[],.func (.func 86) #[x2] #[]] 170 (0,0)):=(hW.block bT (by omega)).trans h4T
  have x7:aX.tmps.getD 7 undef = .pointer (some ⟨bT,0,none⟩):=(hI.keep (by kernel_rfl)).trans f7
  have x1':aX.tmps.getD 1 undef = .int .i64 (a:Nat):=(hI.keep (by kernel_rfl)).trans f1
  have x2':aX.tmps.getD 2 undef = .int .i64 (b:Nat):=(hI.keep (by kernel_rfl)).trans f2
  match i,ho with
  |0,ho =>
   have e:=Option.some.inj (ho.symm.trans (rfl:_=some _));subst e
   exact ⟨13,rfl,.inl ⟨wx,(run_indexAddrA (s:=170) (el:=144) (len:=2) (x1 := .tmp 7) (x2 := .const (.int .i64 ((0:Nat):Int))) (k:=0) rfl hla hi170 x7 rfl (by decide)).trans (by simp [val34]),hW⟩⟩
  |1,ho =>
   have e:=Option.some.inj (ho.symm.trans (rfl:_=some _));subst e
   exact ⟨14,rfl,.inl ⟨wx,run_load1V (t:=144) (x := .tmp 13) (b:=bT) (off:=0) rfl (hI.at 0 13 ⟨_,rfl,rfl⟩ (hw ⟨0,.data⟩ (by simp) rfl)) hd144 hd144' hT rfl,hW⟩⟩
  |2,ho =>
   have e:=Option.some.inj (ho.symm.trans (rfl:_=some _));subst e
   exact ⟨15,rfl,.inl ⟨wx,(run_move (x := .tmp 1) wx rfl).trans (congrArg (fun v=>Result.ok (Next.value v) wx) x1'),hW⟩⟩
  |3,ho =>
   have e:=Option.some.inj (ho.symm.trans (rfl:_=some _));subst e
   exact ⟨16,rfl,.inl ⟨wx,(run_move (x := .tmp 2) wx rfl).trans (congrArg (fun v=>Result.ok (Next.value v) wx) x2'),hW⟩⟩
  |4,ho =>
   have e:=Option.some.inj (ho.symm.trans (rfl:_=some _));subst e
   have e14:aX.eval (.tmp 14) = .func (.func 85) #[x1] #[]:=hI.at 1 14 ⟨_,rfl,rfl⟩ (hw ⟨1,.data⟩ (by simp) rfl)
   have e15:aX.eval (.tmp 15) = .int .i64 (a:Nat):=hI.at 2 15 ⟨_,rfl,rfl⟩ (hw ⟨2,.data⟩ (by simp) rfl)
   have e16:aX.eval (.tmp 16) = .int .i64 (b:Nat):=hI.at 3 16 ⟨_,rfl,rfl⟩ (hw ⟨3,.data⟩ (by simp) rfl)
   refine ⟨17,rfl,.inr ⟨85,_,run_callvN (f := .tmp 14) (k:=85) (first := #[x1]) (cap := #[]) wx rfl rfl e14 (by kernel_rfl),?_⟩⟩
   have hargs : #[x1] ++ #[Operand.tmp 15,Operand.tmp 16].map aX.eval ++ #[] = #[x1,.int .i64 (a:Nat),.int .i64 (b:Nat)]:=by simp [e15,e16]
   rw [hargs]
   exact call 85 x1 _ wx hW q1 (ac85 hG s hl hb ha hb')
  |5,ho =>
   have e:=Option.some.inj (ho.symm.trans (rfl:_=some _));subst e
   exact ⟨18,rfl,.inl ⟨wx,(run_indexAddrA (s:=170) (el:=144) (len:=2) (x1 := .tmp 7) (x2 := .const (.int .i64 ((1:Nat):Int))) (k:=1) rfl hla hi170 x7 rfl (by decide)).trans (by simp [val34,hs170]),hW⟩⟩
  |6,ho =>
   have e:=Option.some.inj (ho.symm.trans (rfl:_=some _));subst e
   exact ⟨19,rfl,.inl ⟨wx,run_load1V (t:=144) (x := .tmp 18) (b:=bT) (off:=1) rfl (hI.at 5 18 ⟨_,rfl,rfl⟩ (hw ⟨5,.data⟩ (by simp) rfl)) hd144 hd144' hT rfl,hW⟩⟩
  |7,ho =>
   have e:=Option.some.inj (ho.symm.trans (rfl:_=some _));subst e
   exact ⟨20,rfl,.inl ⟨wx,(run_move (x := .tmp 1) wx rfl).trans (congrArg (fun v=>Result.ok (Next.value v) wx) x1'),hW⟩⟩
  |8,ho =>
   have e:=Option.some.inj (ho.symm.trans (rfl:_=some _));subst e
   exact ⟨21,rfl,.inl ⟨wx,(run_move (x := .tmp 2) wx rfl).trans (congrArg (fun v=>Result.ok (Next.value v) wx) x2'),hW⟩⟩
  |9,ho =>
   have e:=Option.some.inj (ho.symm.trans (rfl:_=some _));subst e
   have e19:aX.eval (.tmp 19) = .func (.func 86) #[x2] #[]:=hI.at 6 19 ⟨_,rfl,rfl⟩ (hw ⟨6,.data⟩ (by simp) rfl)
   have e20:aX.eval (.tmp 20) = .int .i64 (a:Nat):=hI.at 7 20 ⟨_,rfl,rfl⟩ (hw ⟨7,.data⟩ (by simp) rfl)
   have e21:aX.eval (.tmp 21) = .int .i64 (b:Nat):=hI.at 8 21 ⟨_,rfl,rfl⟩ (hw ⟨8,.data⟩ (by simp) rfl)
   refine ⟨22,rfl,.inr ⟨86,_,run_callvN (f := .tmp 19) (k:=86) (first := #[x2]) (cap := #[]) wx rfl rfl e19 (by kernel_rfl),?_⟩⟩
   have hargs : #[x2] ++ #[Operand.tmp 20,Operand.tmp 21].map aX.eval ++ #[] = #[x2,.int .i64 (a:Nat),.int .i64 (b:Nat)]:=by simp [e20,e21]
   rw [hargs]
   exact call 86 x2 _ wx hW q2 (ac86 hG s hl hb ha hb')
  |10,ho =>
   have e:=Option.some.inj (ho.symm.trans (rfl:_=some _));subst e
   have e17:aX.eval (.tmp 17) = .int .i64 (sumS (lowS s) a b):=hI.at 4 17 ⟨_,rfl,rfl⟩ (hw ⟨4,.data⟩ (by simp) rfl)
   have e22:aX.eval (.tmp 22) = .int .i64 (sumS (highS s) a b):=hI.at 9 22 ⟨_,rfl,rfl⟩ (hw ⟨9,.data⟩ (by simp) rfl)
   exact ⟨23,rfl,.inl ⟨wx,run_build2 (t:=33) (x := .tmp 17) (y := .tmp 22) wx rfl (by rw [e17,e22];exact built33 rfl rfl),hW⟩⟩
  |n+11,ho=>exact absurd ho (by simp)
 ·intro aX wx hI hW
  show wpOpsIn _ _ _ _ _ [11] aX wx
  obtain ⟨i33,hi33,hs33⟩:=info_size (P:=prog) (t:=33) (s:=2) (by kernel_rfl)
  obtain ⟨fs,hfs⟩:=under_struct (P:=prog) (t:=33) (by kernel_rfl)
  have x6:aX.tmps.getD 6 undef = .pointer (some ⟨b6,0,none⟩):=(hI.keep (by kernel_rfl)).trans f6
  have x23:aX.tmps.getD 23 undef = .agg #[.int .i64 (sumS (lowS s) a b),.int .i64 (sumS (highS s) a b)]:=hI.at 10 23 ⟨_,rfl,rfl⟩ rfl
  have hx6:wx.heap[b6]? = some (.cells vs ty6 (0,0)):=(hW.block b6 (by omega)).trans ((h4o b6 hlt6).trans k2)
  refine opIn_skip rfl rfl (by rfl) (run_storeAll (t:=33) (x := .tmp 6) (y := .tmp 23) rfl x6 hi33 hx6 x23 (by rw [hs33];rfl) (by rw [hs33];exact hv2) (by intro u hu;simp [Value.cells] at hu;rcases hu with rfl | rfl<;>rfl)) ?_
  show Code.wpIn _ _ _ _ _ aX (wx.setRow b6 #[.int .i64 (sumS (lowS s) a b),.int .i64 (sumS (highS s) a b)])
  have hr6:=setRow_heap wx b6 vs #[.int .i64 (sumS (lowS s) a b),.int .i64 (sumS (highS s) a b)] ty6 (0,0) hx6
  refine wpIn_ret ⟨by rw [hI.defers];exact d3,_,results_cell2 rfl x6 hr6 hfs hi33 hs33,?_⟩
  have hbx:Below w.heap.size w wx:=hbl.trans ((hb4.trans (hW.mono (by omega))).mono hbl.size)
  refine ⟨⟨hbx.os,hbx.tape,hbx.output,by simpa using hbx.size,fun k hk=>(setRow_other wx b6 k _ (by omega)).trans (hbx.block k hk)⟩,fun _=>0,fun _ _=>rfl,_,rfl,.data _ _ (.agg _ _ rfl (fun i hi => ?_) (fun i hi hi' => ?_)),trivial⟩
  ·match i,hi with
   |0,_ | 1,_=>rfl
  ·match i,hi with
   |0,_ | 1,_=>exact .int _ _
end Go.Proofs.Tryz
namespace Go.Proofs.Tryz
open Go Go.AL Go.RowKit Go.Proofs
attribute [local simp] awp_all qs_all ops_all dops_all ops_nil dops_nil ops_call ops_callv ops_alloc ops_box dops_call dops_alloc kO_eq kD_eq awanted apure ev Eff.S Eff.H tmpOf upd putD AL.start AV.dem AV.cells AV.storable AV.scells splice scrub abin loadA HR.okB post ares aress ares1 AV.out AV.isData ints_len ints_get fz fz1 AV.vw AV.vw1 boxy vI int undefA assignQ thenQ blockQ seqQ panQ prol prolH allocOf
variable {GI:World→Prop}
def fnV (k:Nat):Value := .func (.func k) #[] #[]
def tickT (e:Nat) (c:TCell):Int:=if e=0 then c.lo else c.hi
def rideT (e:Nat) (s:TSheet):List Int:=s.cells.map (tickT e)
def tell39 (e:Nat):Nat→Op→Op
 |2,_ => .fieldAddr 25 (.tmp 5) e
 |3,_ => .move (.func (94+e))
 |_,op=>op
def F39 (s:TSheet) (e i:Nat) (S:Slots) (H:Boxes):Prop :=
 S 1 = .int .i64 (e:Nat)∧S 2 = .box 2 0∧H 2=some (tshL s)∧S 5 = .box 5 0∧H 5=some [.val (fnV 94),.val (fnV 95)]∧S 6=grow 3 (ints ((rideT e s).take i))∧S 11 = .int .i64 s.cells.length∧S 12 = .int .i64 (i:Nat)
noncomputable def bd39:ACode:=ACode.snd (ACode.snd (ACode.snd (ACode.fst (ACode.snd (ACode.snd (ACode.snd c39))))))
def dr39 (e:Nat):List AOpr:=[⟨some 15,none,.mv true (.t 6)⟩,⟨some 16,none,.mv false (.t 1)⟩,⟨some 17,none,.fieldAddr e (.t 5)⟩,⟨some 18,none,.mv false (.f (94+e))⟩,⟨some 19,none,.fieldAddr 0 (.t 2)⟩,
 ⟨some 20,none,.load (.box 2) false 1 (.t 19)⟩,⟨some 21,none,.mv false (.t 7)⟩,⟨some 22,none,.indexAddr 3 (.t 20) (.t 21)⟩,⟨some 23,none,.load .ref true 3 (.t 22)⟩,⟨some 24,none,.callv (.t 18) [.t 23]⟩,
 ⟨some 25,none,.buildSlice 28 3 1 [.t 24]⟩,⟨some 26,none,.append 28 3 1 8 (.t 15) (.t 25)⟩,⟨some 6,none,.mv true (.t 26)⟩]
theorem fagg_plain2 {Pr:Nat→Nat→Prop} {al:Nat→Option Nat} {w:World} {f1 f2:Nat} {c:Value} (h:RV Pr al w (.fagg [.func (.func f1) [] [],.func (.func f2) [] []]) c):c = .agg #[fnV f1,fnV f2]:=by
 have one:∀ {f:Nat} {c:Value},RV Pr al w (.func (.func f) [] []) c→c=fnV f:=by
  intro f c h
  cases h with
  |data _ _ h=>cases h
  |func _ _ _ vs us h1 h2 r1 r2 =>
   have:vs = #[]:=Array.eq_empty_of_size_eq_zero (by simpa using h1.symm)
   subst this
   have:us = #[]:=Array.eq_empty_of_size_eq_zero (by simpa using h2.symm)
   subst this
   rfl
 cases h with
 |data _ _ h=>cases h
 |fagg _ vs hl hr =>
  have hs:vs.size=2:=by rw [← hl];rfl
  have e1:=one (hr 0 (by simp) (by omega))
  have e2:=one (hr 1 (by simp) (by omega))
  congr 1
  apply Array.ext
  ·simpa using hs
  ·intro i h1 h2
   match i,h2 with
   |0,_=>exact e1
   |1,_=>exact e2
theorem dops_callvF {rest:List AOpr} {K:Slots→Boxes→Prop} {S:Slots} {H:Boxes} {d j k:Nat} {args:List Opd} {v:AV} (hj:S j = .func (.func k) [] []) (hk:callable prog k=true) (hb:(args.map (ev S)).any boxy=false)
  (hAC:AC prog GI k ((args.map (ev S)).map (fz H)) (.ret v)) (h:dops prog GI rest K (upd S d v) H):dops prog GI (⟨some d,none,.callv (.t j) args⟩::rest) K S H:=by
 have e:ev S (.t j) = .func (.func k) [] []:=hj
 show dstep prog GI (.callv (.t j) args) (some d) (dops prog GI rest K) S H
 simp only [dstep,astep,e]
 refine ⟨by simpa using hb,.ret v,hk,by simpa using hAC,fun hh => ?_,h⟩
 simp only [List.nil_append,List.append_nil] at hh
 rw [hb] at hh;cases hh
theorem dops_row39 {K:Slots→Boxes→Prop} {S:Slots} {H:Boxes} {l:List Int} {x:Int} (h15:S 15=grow 3 (ints l)) (h24:S 24 = .int .i64 x) (hn:l.length+1 < 1048576)
  (h:∀ S',S' 6=grow 3 (ints (l++[x]))→(∀ k,k∉[6,15,25,26]→S' k=S k)→K S' H):dops prog GI [⟨some 25,none,.buildSlice 28 3 1 [.t 24]⟩,⟨some 26,none,.append 28 3 1 8 (.t 15) (.t 25)⟩,⟨some 6,none,.mv true (.t 26)⟩] K S H:=by
 have hb:apure S H (.buildSlice 28 3 1 [.t 24])=some { v := .slice (.own 3) [.int .i64 x] }:=by simp [apure,ev,h24,elemsOK,AV.storable,AV.cells,AV.vw,AV.vw1]
 show dstep prog GI (.buildSlice 28 3 1 [.t 24]) (some 25) (dops prog GI _ K) S H
 simp only [dstep,astep,hb]
 refine dops_app (e:=3) (ints l) (.int .i64 x) (.own 3) (by simp [Eff.S,putD,upd,h15]) (by simp [Eff.S,putD,upd]) rfl (ints_ok _) (by simpa [ints] using hn) ?_
 intro S' d1 d2
 have hap:ints l++[.int .i64 x]=ints (l++[x]):=by simp [ints]
 rw [hap] at d1
 have hm:∃ dm,(dm=none∨dm=some 26)∧apure S' H (.mv true (.t 26))=some { v:=grow 3 (ints (l++[x])),dm:=dm }:=by
  refine ⟨some 26,.inr rfl,?_⟩
  simp only [apure,ev,d1]
  rfl
 obtain ⟨dm,hdm,hm⟩:=hm
 obtain ⟨k1,k2⟩:=eff_keep (S:=S') (d:=6) hdm (grow 3 (ints (l++[x])))
 show dstep prog GI (.mv true (.t 26)) (some 6) (dops prog GI [] K) S' H
 simp only [dstep,astep,hm]
 refine h _ k1 fun k hk => ?_
 simp only [List.mem_cons,List.not_mem_nil,or_false,not_or] at hk
 rw [k2 k hk.1 hk.2.2.2,d2 k hk.2.2.2 hk.2.1]
 simp [Eff.S,putD,upd,hk.2.2.1]
structure I39 (e b2 b5:Nat) (l:Array Bool) (a:Act) (w:World):Prop where
 size:a.tmps.size=29
 t1:a.tmps.getD 1 undef = .int .i64 (e:Nat)
 t2:a.tmps.getD 2 undef = .pointer (some ⟨b2,0,none⟩)
 t5:a.tmps.getD 5 undef = .pointer (some ⟨b5,0,none⟩)
 t16:l.getD 1 false=true→a.tmps.getD 16 undef = .int .i64 (e:Nat)
 t17:l.getD 2 false=true→a.tmps.getD 17 undef = .pointer (some ⟨b5,e,none⟩)
 heap:∃ ty,w.heap[b5]? = some (.cells #[fnV 94,fnV 95] ty (0,0))
 c9:l.getD 9 false=true→l.getD 3 false=true
 c10:l.getD 10 false=true→l.getD 9 false=true
 c11:l.getD 11 false=true→l.getD 10 false=true
 c3:l.getD 3 false=true→l.getD 2 false=true
def J39 (e b2 b5:Nat) (l:Array Bool) (a:Act) (w:World):Prop:=(l.getD 2 false=true∧l.getD 3 false=true)∨I39 e b2 b5 l a w
theorem getD_set_self {l:Array Bool} {i:Nat} (h:i < l.size):(l.setIfInBounds i true).getD i false=true:=by
 simp [Array.getD_eq_getD_getElem?,h]
theorem getD_set_other {l:Array Bool} {i j:Nat} (h:i≠j):(l.setIfInBounds i true).getD j false=l.getD j false:=by
 simp [Array.getD_eq_getD_getElem?,Array.getElem?_setIfInBounds_ne h]
theorem I39.put {e b2 b5:Nat} {l:Array Bool} {a:Act} {w:World} (h:I39 e b2 b5 l a w) (i t:Nat) (v:Value) (ht:t≠1∧t≠2∧t≠5) (hl:l.size=13) (hi:i < 9) (h3:i≠3) (h1:i=1→t=16∧v = .int .i64 (e:Nat)) (h2:i=2→t=17∧v = .pointer (some ⟨b5,e,none⟩)) (ho:i≠1→t≠16) (ho2:i≠2→t≠17) (htn:t < 29) :
  I39 e b2 b5 (l.setIfInBounds i true) (a.put (some t) v) w:=by
 have hgp:∀ k,k≠t→(a.put (some t) v).tmps.getD k undef=a.tmps.getD k undef:=fun k hk=>by
  simp [Act.put,Array.getElem?_setIfInBounds_ne (Ne.symm hk)]
 have hgs:(a.put (some t) v).tmps.getD t undef=v:=by simp [Act.put,h.size,htn]
 refine ⟨by simp [Act.put,h.size],by rw [hgp 1 (Ne.symm ht.1)];exact h.t1,by rw [hgp 2 (Ne.symm ht.2.1)];exact h.t2,by rw [hgp 5 (Ne.symm ht.2.2)];exact h.t5,?_,?_,h.heap,?_,?_,?_,?_⟩
 ·by_cases hi1:i=1
  ·obtain ⟨rfl,rfl⟩:=h1 hi1
   exact fun _=>hgs
  ·rw [getD_set_other hi1,hgp 16 (Ne.symm (ho hi1))]
   exact h.t16
 ·by_cases hi2:i=2
  ·obtain ⟨rfl,rfl⟩:=h2 hi2
   exact fun _=>hgs
  ·rw [getD_set_other hi2,hgp 17 (Ne.symm (ho2 hi2))]
   exact h.t17
 ·rw [getD_set_other (by omega),getD_set_other h3];exact h.c9
 ·rw [getD_set_other (by omega),getD_set_other (by omega)];exact h.c10
 ·rw [getD_set_other (by omega),getD_set_other (by omega)];exact h.c11
 ·rw [getD_set_other h3]
  by_cases hi2:i=2
  ·subst hi2;exact fun _=>getD_set_self (by omega)
  ·rw [getD_set_other hi2];exact h.c3
theorem ac9X (hG:Stable GI) (e:Nat) (he:e=0∨e=1) (x:TCell):AC prog GI (94+e) [tcA x] (.ret (.int .i64 (tickT e x))):=by
 rcases he with rfl | rfl
 ·exact ac94 hG x
 ·exact ac95 hG x
set_option maxRecDepth 100000 in
theorem ac39 (hG:Stable GI) (s:TSheet) (hs:s.cells.length < 1000) (e:Nat) (he:e=0∨e=1):AC prog GI 39 [tshA s,.int .i64 (e:Nat)] (.ret (vI (rideT e s))):=by
 refine AC.as_view (o:=if rideT e s=[] then .nil else .view) ?_
 refine AC.of_SW func39 rfl ntmps39 (by simp) fun cc w => ?_
 refine SW.cut hG hmix (by kernel_rfl) (ac:=ACode.fst c39) (by kernel_rfl) (fun _ _ h=>h) (fun S' H'=>S' 1 = .int .i64 (e:Nat)∧S' 2 = .box 2 0∧H' 2=some (tshL s)) ?_ ?_
 ·simp [c39,ACode.fst,tshA,tshL,sheetL]
 rintro S1 H1 ⟨s1,s2,h2⟩
 refine SW.seq (SW.hand hG (p:=1) (lm:=[1,2]) (l2:=[]) (os1:=[_]) (oh:=[_,_]) (os2:=[]) rfl rfl rfl rfl (by kernel_rfl) (fun _ h=>h)
  (al1:=(ACode.dl (ACode.fst (ACode.snd c39))).take 1) (al2:=[]) (by kernel_rfl) rfl (by kernel_rfl) rfl
  (K1:=fun S H=>S 1 = .int .i64 (e:Nat)∧S 2 = .box 2 0∧H 2=some (tshL s)∧S 8 = .fagg [.func (.func 94) [] [],.func (.func 95) [] []])
  (K2:=fun o S H=>o=Old.plain cc w∧S 1 = .int .i64 (e:Nat)∧S 2 = .box 2 0∧H 2=some (tshL s)∧S 5 = .box 5 0∧H 5=some [.val (fnV 94),.val (fnV 95)])
  (K3:=fun o S H=>o=Old.plain cc w∧S 1 = .int .i64 (e:Nat)∧S 2 = .box 2 0∧H 2=some (tshL s)∧S 5 = .box 5 0∧H 5=some [.val (fnV 94),.val (fnV 95)]) ?_ ?_ ?_ ?_)
 ·simp [c39,ACode.fst,ACode.snd,ACode.dl,s1,s2,h2,isFn]
 ·rintro w0 g S2 H2 a w' m hG0 ho R ⟨s1,s2,h2,s8⟩
  have hsz:=R.size
  have e8:a.tmps.getD 8 undef = .agg #[fnV 94,fnV 95]:=by
   have:=R.slot 8 (by decide) id
   rw [s8] at this
   exact fagg_plain2 this
  have hgp:∀ (a:Act) (d t:Nat) (c:Value),t≠d→(a.put (some d) c).tmps.getD t undef=a.tmps.getD t undef:=fun a d t c h=>by
   simp [Act.put,Array.getElem?_setIfInBounds_ne (Ne.symm h)]
  have hgs:∀ (a:Act) (d:Nat) (c:Value),a.tmps.size=29→d < 29→(a.put (some d) c).tmps.getD d undef=c:=fun a d c h hd=>by
   simp [Act.put,h,hd]
  obtain ⟨it,hi,hz⟩:=Option.bind_eq_some_iff.1 (show (prog.info? 179).bind (·.zero)=some (.agg #[.nilFunc,.nilFunc]) by kernel_rfl)
  have his:it.size=2:=by
   have:(prog.info? 179).map (·.size)=some 2:=by kernel_rfl
   rw [hi] at this
   exact Option.some.inj this
  refine opIn_val rfl rfl (by rfl) (run_allocZ (t:=179) rfl hi hz) ?_
  obtain ⟨g4,q1,q2,q3,q4,q5,R4⟩:=R.layBox 5 (by decide) (by rw [ho];exact fun h=>h) [.val .nilFunc,.val .nilFunc] #[.nilFunc,.nilFunc] 179 ⟨rfl,fun j h h'=>by
   match j,h with
   |0,_ | 1,_=>exact .val _ rfl,fun j h=>by
   match j,h with
   |0,_ | 1,_=>rfl⟩ (fun g' j h h'=>by
   match j,h with
   |0,_ | 1,_=>exact ⟨trivial,trivial⟩)
  obtain ⟨b,hb⟩:∃ b,w'.heap.size=b:=⟨_,rfl⟩
  obtain ⟨w4,hw4⟩:∃ w4,w'.alloc (.cells #[.nilFunc,.nilFunc] 179)=w4:=⟨_,rfl⟩
  have hw4b:w4.heap[b]? = some (.cells #[.nilFunc,.nilFunc] 179 (0,0)):=by rw [← hw4,← hb];exact World.alloc_heap_new w' _
  rw [hb] at R4 q5
  obtain ⟨a4,ha4⟩:∃ a4,a.put (some 5) (.pointer (some ⟨b,0,none⟩))=a4:=⟨_,rfl⟩
  show wpOpsIn _ _ _ _ _ [2] (a.put (some 5) (.pointer (some ⟨w'.heap.size,0,none⟩))) (w'.alloc (.cells #[.nilFunc,.nilFunc] 179))
  rw [hb,hw4,ha4]
  rw [hw4,ha4] at R4
  have g8:a4.tmps.getD 8 undef = .agg #[fnV 94,fnV 95]:=by rw [← ha4,hgp _ _ _ _ (by decide)];exact e8
  have g5:a4.tmps.getD 5 undef = .pointer (some ⟨b,0,none⟩):=by rw [← ha4];exact hgs _ _ _ hsz (by decide)
  refine opIn_skip rfl rfl (by rfl) (run_storeAll (t:=179) (x := .tmp 5) (y := .tmp 8) rfl g5 hi hw4b g8 (by rw [his];rfl) (by rw [his];rfl) (by intro u hu;simp [Value.cells] at hu;rcases hu with rfl | rfl<;>rfl)) ?_
  show HQ prog w0 29 _ .normal a4 (w4.setRow b #[fnV 94,fnV 95])
  have R5:=R4.setBox 5 b q5 _ #[fnV 94,fnV 95] 179 hw4b [.val (fnV 94),.val (fnV 95)] rfl (fun j h h'=>by
   match j,h with
   |0,_ | 1,_=>exact .val _ rfl) (fun j h h'=>by
   match j,h with
   |0,_ | 1,_=>trivial) (fun j h=>by
   match j,h with
   |0,_ | 1,_=>rfl)
  exact ⟨g4,_,_,R5,by rw [q2,ho],by simp [upd,s1,scrub],by simp [upd,s2,scrub],by simp [upd,h2],by simp [upd],by simp [upd]⟩
 ·rintro o S2 H2 h
  exact ⟨fun d hd=>by rw [h.1] at hd;exact hd,h⟩
 rintro o S2 H2 ⟨rfl,s1,s2,h2,s5,h5⟩
 show SW prog GI 29 none (.seq _ (.seq (.seq _ (.block 0 (.loop _))) (.seq _ .ret))) _ _ _ _
 refine SW.cut hG hmix (by kernel_rfl) (ac:=ACode.fst (ACode.snd (ACode.snd c39))) (by kernel_rfl) (fun _ _ h=>h) (fun S H=>S 1 = .int .i64 (e:Nat)∧S 2 = .box 2 0∧H 2=some (tshL s)∧S 5 = .box 5 0∧H 5=some [.val (fnV 94),.val (fnV 95)]∧S 6 = .slice .nil []) ?_ ?_
 ·simp [c39,ACode.fst,ACode.snd,s1,s2,h2,s5,h5,grow]
 clear s1 s2 h2 s5 h5 S2 H2
 rintro S2 H2 ⟨s1,s2,h2,s5,h5,s6⟩
 refine SW.seq (SW.cut hG hmix (by kernel_rfl) (ac:=ACode.fst (ACode.fst (ACode.snd (ACode.snd (ACode.snd c39))))) (by kernel_rfl) (fun _ _ h=>h) (F39 s e 0) ?_ ?_)
 ·simp [c39,ACode.fst,ACode.snd,tshL,sheetL,s1,s2,h2,s5,h5,s6,F39,grow]
  exact ⟨rfl,rfl⟩
 clear s1 s2 h2 s5 h5 s6 S2 H2
 intro S3 H3 hF
 refine SW.block (SW.loop (fun o S' H'=>∃ i,o=Old.plain cc w∧i≤s.cells.length∧F39 s e i S' H') (fun S' _=>match S' 12 with | .int _ j=>s.cells.length - j.toNat | _=>0) ⟨0,rfl,Nat.zero_le _,hF⟩ ?_)
 rintro o S4 H4 ⟨i,rfl,hi,hF⟩
 have m12:S4 12 = .int .i64 (i:Nat):=hF.2.2.2.2.2.2.2
 show SW prog GI 29 none (.seq _ (.seq (.cond _ _ _) (.seq (.block 1 (.seq _ _)) _))) _ _ _ _
 refine SW.cut hG hmix (by kernel_rfl) (ac:=ACode.fst bd39) (by kernel_rfl) (fun _ _ h=>h) (fun S' H'=>S' 13 = .bool (decide (i < s.cells.length))∧F39 s e i S' H') ?_ ?_
 ·obtain ⟨s1,s2,h2,s5,h5,s6,s11,s12⟩:=hF
  simp [c39,bd39,ACode.fst,ACode.snd,F39,s1,s2,h2,s5,h5,s6,s11,s12]
 rintro S5 H5 ⟨s13,hF⟩
 by_cases hlt:i < s.cells.length
 case neg =>
  have hil:i=s.cells.length:=by omega
  refine SW.seq (SW.cond rfl false (by show S5 13=_;rw [s13];simp [hlt]) (SW.exit ?_))
  subst hil
  obtain ⟨s1,s2,h2,s5,h5,s6,s11,s12⟩:=hF
  have el:(rideT e s).take s.cells.length=rideT e s:=List.take_of_length_le (by simp [rideT])
  rw [el] at s6
  show SW prog GI 29 none (.seq _ .ret) _ _ _ _
  refine SW.of_awp hG hmix (by kernel_rfl) (fun _ _ h=>h) (ac:=ACode.snd (ACode.snd (ACode.snd (ACode.snd c39)))) (by kernel_rfl) ?_
  by_cases h0:rideT e s=[]
  ·have s6':S5 6 = .slice .nil []:=by rw [s6,h0];rfl
   simp [c39,ACode.snd,Post.awp,retS,s1,s2,h2,s5,h5,s6',s11,s12,h0]
   exact ⟨Marked.plain rfl,rfl,rfl⟩
  ·have h0':ints (rideT e s)≠[]:=by simpa [ints] using h0
   have s6':S5 6 = .slice (.own 3) (ints (rideT e s)):=by rw [s6];simp [grow,h0']
   simp [c39,ACode.snd,Post.awp,retS,s1,s2,h2,s5,h5,s6',s11,s12,h0]
   try exact ⟨Marked.plain rfl,rfl⟩
 case pos =>
  refine SW.seq (SW.cond rfl true (by show S5 13=_;rw [s13];simp [hlt]) (SW.skip ?_))
  show SW prog GI 29 none (.seq (.block 1 (.seq _ _)) _) _ _ _ _
  refine SW.seq (SW.block (SW.cut hG hmix (by kernel_rfl) (ac:=ACode.fst (ACode.snd (ACode.fst (ACode.snd (ACode.snd bd39))))) (by kernel_rfl) (fun _ _ h=>h) (fun S' H'=>S' 7 = .int .i64 (i:Nat)∧F39 s e i S' H') ?_ ?_))
  ·obtain ⟨s1,s2,h2,s5,h5,s6,s11,s12⟩:=hF
   simp [c39,bd39,ACode.fst,ACode.snd,F39,s1,s2,h2,s5,h5,s6,s11,s12]
  clear s13 hF
  rintro S6 H6 ⟨s7,hF⟩
  have hx:=ac9X hG e he s.cells[i]
  have hxe:(rideT e s).take (i+1)=(rideT e s).take i++[tickT e s.cells[i]]:=by
   rw [List.take_succ,List.getElem?_eq_getElem (by simpa [rideT] using hlt)]
   simp [rideT]
  refine SW.mono (Q:=fun x o S H=>x = .normal∧o=Old.plain cc w∧S 1 = .int .i64 (e:Nat)∧S 2 = .box 2 0∧H 2=some (tshL s)∧S 5 = .box 5 0∧H 5=some [.val (fnV 94),.val (fnV 95)]∧S 6=grow 3 (ints ((rideT e s).take (i+1)))∧S 11 = .int .i64 s.cells.length∧S 12 = .int .i64 (i:Nat)) ?_ (SW.swapD hG hmix (ops':=retell (tell39 e) _) (retell_same _ (by kernel_rfl)) ?_ ?_ (l:=dr39 e) ?_ ?_ ?_)
  ·rintro x o S7 H7 ⟨rfl,rfl,s1,s2,h2,s5,h5,s6,s11,s12⟩
   show SW prog GI 29 none _ _ _ _ _
   have hw:IntKind.i64.wrap ((i:Int)+1)=i+1:=wrapI (by omega)
   refine SW.of_awp hG hmix (by kernel_rfl) (fun _ _ h=>h) (ac:=ACode.snd (ACode.snd (ACode.snd bd39))) (by kernel_rfl) ?_
   have m12:S4 12 = .int .i64 (i:Nat):=by assumption
   simp [c39,bd39,ACode.fst,ACode.snd,F39,thenS,Post.awp,s1,s2,h2,s5,h5,s6,s11,s12,hw]
   refine ⟨⟨i+1,by omega,rfl,by simp⟩,?_⟩
   rw [m12]
   simp
   omega
  ·rcases he with rfl | rfl<;>kernel_rfl
  ·rcases he with rfl | rfl<;>kernel_rfl
  ·rcases he with rfl | rfl<;>kernel_rfl
  ·intro w0 g a w' hgo R
   obtain ⟨s1,s2,h2,s5,h5,s6,s11,s12⟩:=hF
   obtain ⟨b2,al2,e2⟩:=slot_box R (by decide) s2
   obtain ⟨b5,al5,e5⟩:=slot_box R (by decide) s5
   obtain ⟨cs,vs,ty5,k0,k1,k2,k3,k4,k5,k6,k7,k8⟩:=R.box 5 b5 al5
   rw [h5] at k0
   cases k0
   have hv2:vs.size=2:=by rw [← k5];rfl
   have hvs:vs = #[fnV 94,fnV 95]:=by
    have c0:=k6 0 (by simp) (by omega)
    have c1:=k6 1 (by simp) (by omega)
    simp only [List.getElem_cons_zero,List.getElem_cons_succ] at c0 c1
    apply Array.ext
    ·simpa using hv2
    ·intro j h1 h2
     match j,h2 with
     |0,_=>exact (RV.data (al:=noneA) _ _ c0).val_eq
     |1,_=>exact (RV.data (al:=noneA) _ _ c1).val_eq
   subst hvs
   refine ⟨J39 e b2 b5,.inr ⟨R.size,slot_int R (by decide) s1,e2,e5,by simp,by simp,⟨ty5,k2⟩,by simp,by simp,by simp,by simp⟩,?_⟩
   intro i o o' l a w hoi hoi' hl hun hJ hall
   have hl:l.size=13:=hl
   rw [retell_get,hoi] at hoi'
   simp only [Option.map_some,Option.some.injEq] at hoi'
   have flip:∀ j,j < 13→l.getD j true=l.getD j false:=fun j hj=>by simp [Array.getD_eq_getD_getElem?,hl,hj]
   have mono:∀ j,l.getD j false=true→(l.setIfInBounds i true).getD j false=true:=fun j hj=>by
    by_cases hij:i=j
    ·subst hij;exact getD_set_self (by
      rw [hl]
      exact (Array.getElem?_eq_some_iff.1 hoi).1)
    ·rw [getD_set_other hij];exact hj
   rcases hJ with ⟨h2,h3⟩ | hI
   ·have n2:i≠2:=by rintro rfl;rw [flip 2 (by omega),h2] at hun;cases hun
    have n3:i≠3:=by rintro rfl;rw [flip 3 (by omega),h3] at hun;cases hun
    refine ⟨?_,.inl fun a' w' => .inl ⟨mono 2 h2,mono 3 h3⟩⟩
    subst hoi'
    have:tell39 e i o.op=o.op:=by unfold tell39;split<;>first | omega | rfl
    rw [this]
   ·have aft:∀ j,(o.after.any fun ed=>Region.binds .any ed && ed.on==j)=true→l.getD j false=true:=fun j hj=>by
     obtain ⟨ed,he1,he2⟩:=Array.any_eq_true'.1 hj
     simp only [Bool.and_eq_true,beq_iff_eq] at he2
     have:=hall ed he1 he2.1
     rwa [he2.2] at this
    have done:l.getD 3 false=true→J39 e b2 b5 (l.setIfInBounds i true)=fun _ _=>True:=fun h3=>by
     funext a' w'
     exact eq_true (.inl ⟨mono 2 (hI.c3 h3),mono 3 h3⟩)
    match i,hoi with
    |0,hoi =>
     have e0:=Option.some.inj (hoi.symm.trans (rfl:_=some _));subst hoi'
     have hop:o.op = .move (.tmp 6):=by rw [e0];rfl
     have hd:o.dst=some 15:=by rw [e0];rfl
     refine ⟨rfl,.inr fun x w' hr => ?_⟩
     have hr':(execOp a.eval o).run prog w = .ok x w':=hr
     obtain ⟨rfl,v,rfl⟩:=ro_val (by rw [hop]) hr'
     rw [hd]
     exact ⟨v,rfl,.inr (hI.put 0 15 v (by decide) hl (by decide) (by decide) (fun h=>absurd h (by decide)) (fun h=>absurd h (by decide)) (by decide) (by decide) (by decide))⟩
    |1,hoi =>
     have e0:=Option.some.inj (hoi.symm.trans (rfl:_=some _));subst hoi'
     have hop:o.op = .move (.tmp 1):=by rw [e0];rfl
     have hd:o.dst=some 16:=by rw [e0];rfl
     refine ⟨rfl,.inr fun x w' hr => ?_⟩
     have hr':(execOp a.eval o).run prog w = .ok x w':=hr
     have h1':a.eval (.tmp 1) = .int .i64 (e:Nat):=hI.t1
     rw [run_move (x := .tmp 1) w hop,h1'] at hr'
     cases hr'
     rw [hd]
     exact ⟨_,rfl,.inr (hI.put 1 16 _ (by decide) hl (by decide) (by decide) (fun _=>⟨rfl,rfl⟩) (fun h=>absurd h (by decide)) (by decide) (by decide) (by decide))⟩
    |2,hoi =>
     have e0:=Option.some.inj (hoi.symm.trans (rfl:_=some _));subst hoi'
     have hop:o.op = .indexAddr 179 (.tmp 5) (.tmp 16):=by rw [e0];rfl
     have hd:o.dst=some 17:=by rw [e0];rfl
     have h16:a.eval (.tmp 16) = .int .i64 (e:Nat):=hI.t16 (aft 1 (by rw [e0];kernel_rfl))
     have h5':a.eval (.tmp 5) = .pointer (some ⟨b5,0,none⟩):=hI.t5
     have he2:e < 2:=by omega
     have hund:prog.underlying 179=some (.array 2 176):=by kernel_rfl
     obtain ⟨i176,hi176,hs176⟩:=info_size (P:=prog) (t:=176) (s:=1) (by kernel_rfl)
     have r1:(execOp a.eval o).run prog w = .ok (.value (.pointer (some ⟨b5,e,none⟩))) w:=by
      have:=run_indexAddrA (P:=prog) (w:=w) (o:=o) hop hund hi176 h5' h16 he2
      rw [hs176,Nat.mul_one,Nat.zero_add] at this
      exact this
     have r2:(execOp a.eval { o with op:=tell39 e 2 o.op }).run prog w = .ok (.value (.pointer (some ⟨b5,e,none⟩))) w:=by
      have hc:fieldC prog 25 e=some (e,1):=by rcases he with rfl | rfl<;>kernel_rfl
      have:=run_fieldAddrC (P:=prog) (w:=w) (a:=a) (o:={ o with op:=tell39 e 2 o.op }) hc (by decide) rfl h5'
      rw [Nat.zero_add] at this
      exact this
     refine ⟨r1.trans r2.symm,.inr fun x w' hr => ?_⟩
     have hr':(execOp a.eval o).run prog w = .ok x w':=hr
     rw [r1] at hr'
     cases hr'
     rw [hd]
     exact ⟨_,rfl,.inr (hI.put 2 17 _ (by decide) hl (by decide) (by decide) (fun h=>absurd h (by decide)) (fun _=>⟨rfl,rfl⟩) (by decide) (by decide) (by decide))⟩
    |3,hoi =>
     have e0:=Option.some.inj (hoi.symm.trans (rfl:_=some _));subst hoi'
     have hop:o.op = .load 176 (.tmp 17):=by rw [e0];rfl
     have hd:o.dst=some 18:=by rw [e0];rfl
     have hl2:l.getD 2 false=true:=aft 2 (by rw [e0];kernel_rfl)
     have h17:a.eval (.tmp 17) = .pointer (some ⟨b5,e,none⟩):=hI.t17 hl2
     obtain ⟨ty,hheap⟩:=hI.heap
     obtain ⟨d,hdd,hnd⟩:=under_agg (P:=prog) (t:=176) (by kernel_rfl)
     have r1:(execOp a.eval o).run prog w = .ok (.value (fnV (94+e))) w :=
      run_load1V (P:=prog) (o:=o) hop h17 hdd hnd hheap (by rcases he with rfl | rfl<;>rfl)
     have r2:(execOp a.eval { o with op:=tell39 e 3 o.op }).run prog w = .ok (.value (fnV (94+e))) w :=
      run_move (x := .func (94+e)) w rfl
     refine ⟨r1.trans r2.symm,.inl fun a' w' => .inl ⟨mono 2 hl2,?_⟩⟩
     exact getD_set_self (by omega)
    |4,hoi =>
     have e0:=Option.some.inj (hoi.symm.trans (rfl:_=some _));subst hoi'
     have hop:o.op = .fieldAddr 40 (.tmp 2) 0:=by rw [e0];rfl
     have hd:o.dst=some 19:=by rw [e0];rfl
     have h2':a.eval (.tmp 2) = .pointer (some ⟨b2,0,none⟩):=hI.t2
     have r1:(execOp a.eval o).run prog w = .ok (.value (.pointer (some ⟨b2,0+0,none⟩))) w:=run_fieldAddrC (P:=prog) (w:=w) (a:=a) (o:=o) (show fieldC prog 40 0=some (0,1) by kernel_rfl) (by decide) hop h2'
     refine ⟨rfl,.inr fun x w' hr => ?_⟩
     have hr':(execOp a.eval o).run prog w = .ok x w':=hr
     rw [r1] at hr'
     cases hr'
     rw [hd]
     exact ⟨_,rfl,.inr (hI.put 4 19 _ (by decide) hl (by decide) (by decide) (fun h=>absurd h (by decide)) (fun h=>absurd h (by decide)) (by decide) (by decide) (by decide))⟩
    |5,hoi =>
     have e0:=Option.some.inj (hoi.symm.trans (rfl:_=some _));subst hoi'
     have hop:o.op = .load 38 (.tmp 19):=by rw [e0];rfl
     have hd:o.dst=some 20:=by rw [e0];rfl
     refine ⟨rfl,.inr fun x w' hr => ?_⟩
     have hr':(execOp a.eval o).run prog w = .ok x w':=hr
     obtain ⟨rfl,v,rfl⟩:=ro_val (by rw [hop]) hr'
     rw [hd]
     exact ⟨v,rfl,.inr (hI.put 5 20 v (by decide) hl (by decide) (by decide) (fun h=>absurd h (by decide)) (fun h=>absurd h (by decide)) (by decide) (by decide) (by decide))⟩
    |6,hoi =>
     have e0:=Option.some.inj (hoi.symm.trans (rfl:_=some _));subst hoi'
     have hop:o.op = .move (.tmp 7):=by rw [e0];rfl
     have hd:o.dst=some 21:=by rw [e0];rfl
     refine ⟨rfl,.inr fun x w' hr => ?_⟩
     have hr':(execOp a.eval o).run prog w = .ok x w':=hr
     obtain ⟨rfl,v,rfl⟩:=ro_val (by rw [hop]) hr'
     rw [hd]
     exact ⟨v,rfl,.inr (hI.put 6 21 v (by decide) hl (by decide) (by decide) (fun h=>absurd h (by decide)) (fun h=>absurd h (by decide)) (by decide) (by decide) (by decide))⟩
    |7,hoi =>
     have e0:=Option.some.inj (hoi.symm.trans (rfl:_=some _));subst hoi'
     have hop:o.op = .indexAddr 38 (.tmp 20) (.tmp 21):=by rw [e0];rfl
     have hd:o.dst=some 22:=by rw [e0];rfl
     refine ⟨rfl,.inr fun x w' hr => ?_⟩
     have hr':(execOp a.eval o).run prog w = .ok x w':=hr
     obtain ⟨rfl,v,rfl⟩:=ro_val (by rw [hop]) hr'
     rw [hd]
     exact ⟨v,rfl,.inr (hI.put 7 22 v (by decide) hl (by decide) (by decide) (fun h=>absurd h (by decide)) (fun h=>absurd h (by decide)) (by decide) (by decide) (by decide))⟩
    |8,hoi =>
     have e0:=Option.some.inj (hoi.symm.trans (rfl:_=some _));subst hoi'
     have hop:o.op = .load 42 (.tmp 22):=by rw [e0];rfl
     have hd:o.dst=some 23:=by rw [e0];rfl
     refine ⟨rfl,.inr fun x w' hr => ?_⟩
     have hr':(execOp a.eval o).run prog w = .ok x w':=hr
     obtain ⟨rfl,v,rfl⟩:=ro_val (by rw [hop]) hr'
     rw [hd]
     exact ⟨v,rfl,.inr (hI.put 8 23 v (by decide) hl (by decide) (by decide) (fun h=>absurd h (by decide)) (fun h=>absurd h (by decide)) (by decide) (by decide) (by decide))⟩
    |9,hoi =>
     have e0:=Option.some.inj (hoi.symm.trans (rfl:_=some _));subst hoi'
     exact ⟨rfl,.inl fun a' w'=>by rw [done (aft 3 (by rw [e0];kernel_rfl))];trivial⟩
    |10,hoi =>
     have e0:=Option.some.inj (hoi.symm.trans (rfl:_=some _));subst hoi'
     exact ⟨rfl,.inl fun a' w'=>by rw [done (hI.c9 (aft 9 (by rw [e0];kernel_rfl)))];trivial⟩
    |11,hoi =>
     have e0:=Option.some.inj (hoi.symm.trans (rfl:_=some _));subst hoi'
     exact ⟨rfl,.inl fun a' w'=>by rw [done (hI.c9 (hI.c10 (aft 10 (by rw [e0];kernel_rfl))))];trivial⟩
    |12,hoi =>
     have e0:=Option.some.inj (hoi.symm.trans (rfl:_=some _));subst hoi'
     exact ⟨rfl,.inl fun a' w'=>by rw [done (hI.c9 (hI.c10 (hI.c11 (aft 11 (by rw [e0];kernel_rfl)))))];trivial⟩
    |k+13,hoi=>exact absurd hoi (by simp)
  ·obtain ⟨s1,s2,h2,s5,h5,s6,s11,s12⟩:=hF
   simp only [dr39]
   simp [s1,s2,h2,s5,h5,s7,s11,s12,tshL,sheetL,hlt,tcA]
   refine dops_callvF (k:=94+e) (v := .int .i64 (tickT e s.cells[i])) (by simp [upd]) (by rcases he with rfl | rfl<;>kernel_rfl) (by simp [ev,upd,boxy]) (by simpa [ev,upd,fz,fz1,tcA,AV.vw,AV.vw1] using hx) ?_
   refine dops_row39 (l:=(rideT e s).take i) (x:=tickT e s.cells[i]) (by simp only [upd_ne _ _ (show (15:Nat)≠24 by decide),upd_ne _ _ (show (15:Nat)≠23 by decide),upd_ne _ _ (show (15:Nat)≠22 by decide),upd_ne _ _ (show (15:Nat)≠21 by decide),upd_ne _ _ (show (15:Nat)≠20 by decide),upd_ne _ _ (show (15:Nat)≠19 by decide),upd_ne _ _ (show (15:Nat)≠18 by decide),upd_ne _ _ (show (15:Nat)≠17 by decide),upd_ne _ _ (show (15:Nat)≠16 by decide),upd_same];exact s6) (upd_same _ _ _) (by simp;omega) ?_
   intro S' d1 d2
   rw [hxe]
   refine ⟨?_,?_,?_,?_,h5,d1,?_,?_⟩
   ·rw [d2 1 (by decide)];simp [upd,s1]
   ·rw [d2 2 (by decide)];simp [upd,s2]
   ·rw [h2];rfl
   ·rw [d2 5 (by decide)];simp [upd,s5]
   ·rw [d2 11 (by decide)];simp [upd,s11]
   ·rw [d2 12 (by decide)];simp [upd,s12]
end Go.Proofs.Tryz
namespace Go.Proofs.Tryz
open Go Go.AL Go.RowKit
set_option maxRecDepth 100000 in
theorem catch_wideT {bE:Nat} {u:Value} {ty:TypeId} (w:World) (hE:w.heap[bE]? = some (.cells #[u] ty (0,0))) (n:Int) :
    CallsD prog 150 #[.pointer (some ⟨bE,0,none⟩)] (.panicking [{ v := .iface 241 (.agg #[.int .i64 n]),recovered:=false }]) w fun e u' w' =>
      e = .returned (.tuple #[])∧u' = .panicking [{ v := .iface 241 (.agg #[.int .i64 n]),recovered:=true }]∧∃ w1,Below w.heap.size w w1∧w'=w1.setRow bE #[.int .i64 7]:=by
  refine callsD_of_wpS func150 rfl fun c₀ cs hu => ?_
  apply wpS_seq
  apply wpS_region
  simp [wpOpsS,go_sem,recoverD,hu,ntmps150,Exit.thenS]
  refine wpS_of_wp ?_
  refine (wpIn_FR_none (m:=0)).1 ?_
  refine anyAct (fun a=>a.tmps.size=14∧a.defers=[]∧a.tmps.getD 0 undef = .pointer (some ⟨bE,0,none⟩)∧a.tmps.getD 5 undef = .iface 241 (.agg #[.int .i64 n])) ⟨by simp,rfl,by simp,by simp⟩ ?_
  rintro a ⟨hsz,hds,h0,h5⟩
  have hlt:=(Array.getElem?_eq_some_iff.1 hE).1
  refine wpIn_block (wpIn_seq (wpIn_region ?_))
  show wpOpsIn _ _ _ _ _ [0] a w
  refine opIn_val rfl rfl (by rfl) (run_eqNil (x := .tmp 5) w rfl h5) ?_
  show Code.wpIn _ _ _ _ _ (a.put (some 7) (.bool false)) w
  have h7:(a.put (some 7) (.bool false)).tmps.getD 7 undef = .bool false:=by simp [Act.put,hsz]
  refine wpIn_cond (t:=false) h7 ?_
  simp only [Bool.false_eq_true,if_false]
  refine anyAct (fun a=>a.tmps.size=14∧a.defers=[]∧a.tmps.getD 0 undef = .pointer (some ⟨bE,0,none⟩)∧a.tmps.getD 5 undef = .iface 241 (.agg #[.int .i64 n])) ⟨by simp [Act.put,hsz],hds,by simpa [Act.put,Array.getElem?_setIfInBounds_ne] using h0,by simpa [Act.put,Array.getElem?_setIfInBounds_ne] using h5⟩ ?_
  clear h7 h5 h0 hds hsz a
  rintro a ⟨hsz,hds,h0,h5⟩
  have hS:∀ (a:Act) (w:World),a.tmps.getD 5 undef = .iface 241 (.agg #[.int .i64 n])→∀ t,t < 14→((fun t=>if t=5 then AV.iface 241 (.agg [.int .i64 n]) else AV.junk:Slots) t).dem=(fun t=>if t=5 then AV.iface 241 (.agg [.int .i64 n]) else AV.junk:Slots) t ∧
      RV (fun _ _=>True) noneA w ((fun t=>if t=5 then AV.iface 241 (.agg [.int .i64 n]) else AV.junk:Slots) t) (a.tmps.getD t undef):=by
    intro a w h5 t ht
    by_cases h:t=5
    · subst h
      rw [h5]
      refine ⟨rfl,.data _ _ (.iface _ _ _ (.agg _ _ rfl (fun i hi => ?_) (fun i hi hi' => ?_)))⟩
      · have:i=0:=by simpa using hi
        subst this;rfl
      · have:i=0:=by simpa using hi
        subst this;exact .int _ _
    · simp only [h,if_false];exact ⟨rfl,.junk _⟩
  refine wpIn_seq ?_
  refine region_anew (GI:=fun _=>True) (fun _ _ _ _=>trivial) hmix (ac:=ACode.fst (ACode.snd (ACode.snd (ACode.snd (ACode.snd c150))))) (W:=fun t=>decide (8≤t)) (by kernel_rfl) (by kernel_rfl) (by kernel_rfl) trivial (fun _ _=>True) _ hsz hds (hS a w h5) (K:=fun S' _=>S' 9 = .bool true∧S' 10 = .agg [.int .i64 n]) ?_ ?_
  · simp [c150,ACode.fst,ACode.snd,awp,aops,awanted,astep,apure,assignQ,Eff.S,Eff.H,ev,upd,putD,AV.dem]
  rintro g S' H' a' w' hg R1 ⟨h9,h10⟩ hsame
  have t9:=R1.slot 9 (by decide) (fun h=>h)
  rw [h9] at t9
  have t9:=t9.bool_eq
  have t10:=R1.slot 10 (by decide) (fun h=>h)
  rw [h10] at t10
  have b1:Below w.heap.size w w':=by have:=R1.below;rwa [R1.base] at this
  show Code.wpIn _ _ _ _ _ a' w'
  refine wpIn_cond (t:=true) t9 ?_
  simp only [if_true]
  refine wpIn_seq ?_
  refine region_step R1 (GI:=fun _=>True) (fun _ _ _ _=>trivial) trivial hmix (ac:=ACode.fst (ACode.fst (ACode.snd (ACode.snd (ACode.snd (ACode.snd (ACode.snd c150))))))) (W:=fun t=>decide (1≤t)) (by kernel_rfl) (by kernel_rfl) (by kernel_rfl) (by rw [hg];exact fun _ h=>h) (K:=fun _ _=>True) ?_ ?_
  · simp [c150,ACode.fst,ACode.snd,awp,aops,awanted,astep,apure,assignQ,Eff.S,Eff.H,ev,upd,putD,AV.dem,h10,scrub,HR.okB,AV.cells,AV.storable,splice,AV.scells,tmpOf]
  rintro g2 S2 H2 a2 w2 hg2 R2 _ hsame2
  have b2:Below w.heap.size w w2:=by have:=R2.below;rwa [R2.base] at this
  have e0:a2.tmps.getD 0 undef = .pointer (some ⟨bE,0,none⟩):=(hsame2 0 rfl).trans ((hsame 0 rfl).trans h0)
  have hE2:w2.heap[bE]? = some (.cells #[u] ty (0,0)):=(b2.block bE hlt).trans hE
  obtain ⟨i36,hi36,hs36⟩:=info_size (P:=prog) (t:=43) (s:=1) (by kernel_rfl)
  show Code.wpIn _ _ _ _ _ a2 w2
  refine wpIn_region ?_
  show wpOpsIn _ _ _ _ _ [0] a2 w2
  refine opIn_skip rfl rfl (by rfl) (run_store1 (x := .tmp 0) (y := .const (.int .i64 7)) (v := .int .i64 7) rfl e0 hi36 hs36 hE2 rfl rfl) ?_
  refine ⟨by show a2.defers=[];rw [R2.defers,hg2,hg];rfl,_,rfl,.tuple #[],?_,rfl,rfl,w2,b2,rfl⟩
  simp [results,results150]
set_option maxRecDepth 100000 in
theorem catch_textT {bE:Nat} {u:Value} {ty:TypeId} (w:World) (hE:w.heap[bE]? = some (.cells #[u] ty (0,0))) (n:List UInt8) :
    CallsD prog 150 #[.pointer (some ⟨bE,0,none⟩)] (.panicking [{ v := .iface 243 (.agg #[.string ⟨n.toArray⟩]),recovered:=false }]) w fun e u' w' =>
      e = .returned (.tuple #[])∧u' = .panicking [{ v := .iface 243 (.agg #[.string ⟨n.toArray⟩]),recovered:=true }]∧∃ w1,Below w.heap.size w w1∧w'=w1.setRow bE #[.int .i64 4]:=by
  refine callsD_of_wpS func150 rfl fun c₀ cs hu => ?_
  apply wpS_seq
  apply wpS_region
  simp [wpOpsS,go_sem,recoverD,hu,ntmps150,Exit.thenS]
  refine wpS_of_wp ?_
  refine (wpIn_FR_none (m:=0)).1 ?_
  refine anyAct (fun a=>a.tmps.size=14∧a.defers=[]∧a.tmps.getD 0 undef = .pointer (some ⟨bE,0,none⟩)∧a.tmps.getD 5 undef = .iface 243 (.agg #[.string ⟨n.toArray⟩])) ⟨by simp,rfl,by simp,by simp⟩ ?_
  rintro a ⟨hsz,hds,h0,h5⟩
  have hlt:=(Array.getElem?_eq_some_iff.1 hE).1
  refine wpIn_block (wpIn_seq (wpIn_region ?_))
  show wpOpsIn _ _ _ _ _ [0] a w
  refine opIn_val rfl rfl (by rfl) (run_eqNil (x := .tmp 5) w rfl h5) ?_
  show Code.wpIn _ _ _ _ _ (a.put (some 7) (.bool false)) w
  have h7:(a.put (some 7) (.bool false)).tmps.getD 7 undef = .bool false:=by simp [Act.put,hsz]
  refine wpIn_cond (t:=false) h7 ?_
  simp only [Bool.false_eq_true,if_false]
  refine anyAct (fun a=>a.tmps.size=14∧a.defers=[]∧a.tmps.getD 0 undef = .pointer (some ⟨bE,0,none⟩)∧a.tmps.getD 5 undef = .iface 243 (.agg #[.string ⟨n.toArray⟩])) ⟨by simp [Act.put,hsz],hds,by simpa [Act.put,Array.getElem?_setIfInBounds_ne] using h0,by simpa [Act.put,Array.getElem?_setIfInBounds_ne] using h5⟩ ?_
  clear h7 h5 h0 hds hsz a
  rintro a ⟨hsz,hds,h0,h5⟩
  have hS:∀ (a:Act) (w:World),a.tmps.getD 5 undef = .iface 243 (.agg #[.string ⟨n.toArray⟩])→∀ t,t < 14→((fun t=>if t=5 then AV.iface 243 (.agg [.str n]) else AV.junk:Slots) t).dem=(fun t=>if t=5 then AV.iface 243 (.agg [.str n]) else AV.junk:Slots) t ∧
      RV (fun _ _=>True) noneA w ((fun t=>if t=5 then AV.iface 243 (.agg [.str n]) else AV.junk:Slots) t) (a.tmps.getD t undef):=by
    intro a w h5 t ht
    by_cases h:t=5
    · subst h
      rw [h5]
      refine ⟨rfl,.data _ _ (.iface _ _ _ (.agg _ _ rfl (fun i hi => ?_) (fun i hi hi' => ?_)))⟩
      · have:i=0:=by simpa using hi
        subst this;rfl
      · have:i=0:=by simpa using hi
        subst this;exact .str _
    · simp only [h,if_false];exact ⟨rfl,.junk _⟩
  refine wpIn_seq ?_
  refine region_anew (GI:=fun _=>True) (fun _ _ _ _=>trivial) hmix (ac:=ACode.fst (ACode.snd (ACode.snd (ACode.snd (ACode.snd c150))))) (W:=fun t=>decide (8≤t)) (by kernel_rfl) (by kernel_rfl) (by kernel_rfl) trivial (fun _ _=>True) _ hsz hds (hS a w h5) (K:=fun S' _=>S' 9 = .bool false∧S' 5 = .iface 243 (.agg [.str n])) ?_ ?_
  · simp [c150,ACode.fst,ACode.snd,awp,aops,awanted,astep,apure,assignQ,Eff.S,Eff.H,ev,upd,putD,AV.dem]
  rintro g0 S0 H0 a0 w0' hg0 R0 ⟨h90,h50⟩ hsame0
  have t90:=R0.slot 9 (by decide) (fun h=>h)
  rw [h90] at t90
  have t90:=t90.bool_eq
  show Code.wpIn _ _ _ _ _ a0 w0'
  refine wpIn_cond (t:=false) t90 ?_
  simp only [Bool.false_eq_true,if_false]
  refine wpIn_seq ?_
  refine region_step R0 (GI:=fun _=>True) (fun _ _ _ _=>trivial) trivial hmix (ac:=ACode.fst (ACode.snd (ACode.snd (ACode.snd (ACode.snd (ACode.snd (ACode.snd c150))))))) (W:=fun t=>decide (8≤t)) (by kernel_rfl) (by kernel_rfl) (by kernel_rfl) (by rw [hg0];exact fun _ h=>h) (K:=fun S' _=>S' 12 = .bool true∧S' 13 = .agg [.str n]) ?_ ?_
  · simp [c150,ACode.fst,ACode.snd,awp,aops,awanted,astep,apure,assignQ,Eff.S,Eff.H,ev,upd,putD,AV.dem,h50]
  rintro g S' H' a' w' hg R1 ⟨h9,h10⟩ hsame'
  have hsame:=hsame0.trans hsame'
  rw [hg0] at hg
  have t9:=R1.slot 12 (by decide) (fun h=>h)
  rw [h9] at t9
  have t9:=t9.bool_eq
  have t10:=R1.slot 13 (by decide) (fun h=>h)
  rw [h10] at t10
  have b1:Below w.heap.size w w':=by have:=R1.below;rwa [R1.base] at this
  show Code.wpIn _ _ _ _ _ a' w'
  refine wpIn_cond (t:=true) t9 ?_
  simp only [if_true]
  refine wpIn_seq ?_
  refine region_step R1 (GI:=fun _=>True) (fun _ _ _ _=>trivial) trivial hmix (ac:=ACode.fst (ACode.fst (ACode.snd (ACode.snd (ACode.snd (ACode.snd (ACode.snd (ACode.snd (ACode.snd c150))))))))) (W:=fun t=>decide (1≤t)) (by kernel_rfl) (by kernel_rfl) (by kernel_rfl) (by rw [hg];exact fun _ h=>h) (K:=fun _ _=>True) ?_ ?_
  · simp [c150,ACode.fst,ACode.snd,awp,aops,awanted,astep,apure,assignQ,Eff.S,Eff.H,ev,upd,putD,AV.dem,h10,scrub,HR.okB,AV.cells,AV.storable,splice,AV.scells,tmpOf]
  rintro g2 S2 H2 a2 w2 hg2 R2 _ hsame2
  have b2:Below w.heap.size w w2:=by have:=R2.below;rwa [R2.base] at this
  have e0:a2.tmps.getD 0 undef = .pointer (some ⟨bE,0,none⟩):=(hsame2 0 rfl).trans ((hsame 0 rfl).trans h0)
  have hE2:w2.heap[bE]? = some (.cells #[u] ty (0,0)):=(b2.block bE hlt).trans hE
  obtain ⟨i36,hi36,hs36⟩:=info_size (P:=prog) (t:=43) (s:=1) (by kernel_rfl)
  show Code.wpIn _ _ _ _ _ a2 w2
  refine wpIn_region ?_
  show wpOpsIn _ _ _ _ _ [0] a2 w2
  refine opIn_skip rfl rfl (by rfl) (run_store1 (x := .tmp 0) (y := .const (.int .i64 4)) (v := .int .i64 4) rfl e0 hi36 hs36 hE2 rfl rfl) ?_
  refine ⟨by show a2.defers=[];rw [R2.defers,hg2,hg];rfl,_,rfl,.tuple #[],?_,rfl,rfl,w2,b2,rfl⟩
  simp [results,results150]
theorem catch_idleT (p:Addr) (w:World) :
    CallsD prog 150 #[.pointer (some p)] .returning w fun e u' w'=>e = .returned (.tuple #[])∧u' = .returning∧w'=w:=by
  refine callsD_of_wpS func150 rfl fun c₀ cs hu => ?_
  apply wpS_seq
  apply wpS_region
  simp [wpOpsS,go_sem,recoverD,hu,ntmps150,Exit.thenS]
  refine wpS_of_wp ?_
  go_wp2
  cases c₀
  simp_all [bodyPostS,results,results150]
theorem resT87 {a:Act} {w:World} {b:Nat} {v:Value} {ty:TypeId} (h2:a.tmps.getD 2 undef = .pointer (some ⟨b,0,none⟩)) (h:w.heap[b]? = some (.cells #[v] ty (0,0))):(results f87 a.tmps).run prog w = .ok v w:=by
  obtain ⟨d,hd1,hd2⟩:=under_agg (P:=prog) (t:=43) (by kernel_rfl)
  have hagg:(isAgg 43).run prog w = .ok false w:=by
    unfold isAgg
    rw [Sem.run_bind,run_underlying hd1 w]
    cases d<;>simp_all [aggT]
  have hl:(loadVar 43 ⟨b,0,none⟩).run prog w = .ok v w:=by
    simp [loadVar,Sem.run_bind,hagg,World.cell?,h]
  have hr:f87.results = #[.cell 2 43]:=rfl
  have h2':a.tmps[2]?.getD undef = .pointer (some ⟨b,0,none⟩):=by rw [← h2];simp
  simp [results,hr,h2',asAddr,hl]
set_option maxRecDepth 100000 in
theorem attempt_callsT {k:Nat} {us:Array Value} {w:World} {R1 R:Ending→World→Prop} (hcb:callable prog k=true) (hc:Calls prog k us (w.alloc (.cells #[.int .i64 0] 43)) R1)
    (h:∀ e w2,R1 e w2→w.heap.size < w2.heap.size∧(∃ u ty,w2.heap[w.heap.size]? = some (.cells #[u] ty (0,0))) ∧
      ((∃ c,e = .returned c∧R (.returned (.int .i64 0)) (w2.setRow w.heap.size #[.int .i64 0])) ∨
       (∃ n,e = .panicked [{ v := .iface 241 (.agg #[.int .i64 n]),recovered:=false }]∧∀ w3,Below w2.heap.size w2 w3→R (.returned (.int .i64 7)) (w3.setRow w.heap.size #[.int .i64 7])) ∨
       (∃ s:List UInt8,e = .panicked [{ v := .iface 243 (.agg #[.string ⟨s.toArray⟩]),recovered:=false }]∧∀ w3,Below w2.heap.size w2 w3→R (.returned (.int .i64 4)) (w3.setRow w.heap.size #[.int .i64 4])))) :
    Calls prog 87 #[.func (.func k) #[] us] w R:=by
  refine calls_of_wp_defers func87 rfl ?_
  refine (wpIn_FR_none (m:=0)).1 ?_
  refine anyAct (fun a=>a.tmps.size=6∧a.defers=[]∧a.tmps.getD 0 undef = .func (.func k) #[] us) ⟨by simp [ntmps87],rfl,args_get _ _ 0 (by simp)⟩ ?_
  rintro a ⟨hsz,hds,h0⟩
  obtain ⟨bE,hbE⟩:∃ bE,w.heap.size=bE:=⟨_,rfl⟩
  have hgp:∀ (a:Act) (d t:Nat) (c:Value),t≠d→(a.put (some d) c).tmps.getD t undef=a.tmps.getD t undef:=fun a d t c h=>by
    simp [Act.put,Array.getElem?_setIfInBounds_ne (Ne.symm h)]
  have hgs:∀ (a:Act) (d:Nat) (c:Value),a.tmps.size=6→d < 6→(a.put (some d) c).tmps.getD d undef=c:=fun a d c h hd=>by
    simp [Act.put,h,hd]
  have hps:∀ (a:Act) (d:Option Nat) (c:Value),(a.put d c).tmps.size=a.tmps.size:=fun a d c=>by cases d<;>simp [Act.put]
  refine wpIn_seq (wpIn_region ?_)
  show wpOpsIn _ _ _ _ _ [0] a w
  refine opIn_val rfl rfl (by rfl) (run_alloc1 (t:=43) (z := .int .i64 0) rfl (by kernel_rfl)) ?_
  show Code.wpIn _ _ _ _ _ (a.put (some 2) (.pointer (some ⟨w.heap.size,0,none⟩))) (w.alloc (.cells #[.int .i64 0] 43))
  rw [hbE] at h
  simp only [hbE]
  obtain ⟨w1,hw1⟩:∃ w1,w.alloc (.cells #[.int .i64 0] 43)=w1:=⟨_,rfl⟩
  rw [hw1] at hc ⊢
  refine anyAct (fun a=>a.tmps.size=6∧a.defers=[]∧a.tmps.getD 0 undef = .func (.func k) #[] us∧a.tmps.getD 2 undef = .pointer (some ⟨bE,0,none⟩)) ⟨by rw [hps];exact hsz,hds,by rw [hgp _ _ _ _ (by decide)];exact h0,hgs _ _ _ hsz (by decide)⟩ ?_
  clear h0 hds hsz a
  rintro a ⟨hsz,hds,h0,h2⟩
  refine wpIn_seq (wpIn_region ?_)
  show wpOpsIn _ _ _ _ _ [0,1] a w1
  refine opIn_val rfl rfl (by rfl) (run_mkf (fn := .func 150) (c := #[.tmp 2]) rfl) ?_
  have hcap:(#[Operand.tmp 2].map a.eval) = #[.pointer (some ⟨bE,0,none⟩)]:=by
    simp only [List.map_toArray,List.map_cons,List.map_nil,Act.eval]
    rw [h2]
  rw [hcap]
  show wpOpsIn _ _ _ _ _ [1] (a.put (some 3) (.func (.func 150) #[] #[.pointer (some ⟨bE,0,none⟩)])) w1
  obtain ⟨a2,ha2⟩:∃ a2,a.put (some 3) (.func (.func 150) #[] #[.pointer (some ⟨bE,0,none⟩)])=a2:=⟨_,rfl⟩
  rw [ha2]
  have z2:a2.tmps.size=6:=by rw [← ha2,hps];exact hsz
  have u3:a2.tmps.getD 3 undef = .func (.func 150) #[] #[.pointer (some ⟨bE,0,none⟩)]:=by rw [← ha2];exact hgs _ _ _ hsz (by decide)
  have u0:a2.tmps.getD 0 undef = .func (.func k) #[] us:=by rw [← ha2,hgp _ _ _ _ (by decide)];exact h0
  have u2:a2.tmps.getD 2 undef = .pointer (some ⟨bE,0,none⟩):=by rw [← ha2,hgp _ _ _ _ (by decide)];exact h2
  have ud:a2.defers=[]:=by rw [← ha2];exact hds
  refine opIn_defer rfl rfl (d:={ target := .fn (.func 150) #[.pointer (some ⟨bE,0,none⟩)],args := #[] }) (w':=w1) ?_ ?_
  · unfold execOp
    simp [run_resolve_func,Deferred.ofValue,Act.eval,u3]
  have hlv:∀ (w:World),(invoke (.fn (.func 150) #[.pointer (some ⟨bE,0,none⟩)]) #[]).run prog w = .ok (.enter 150 #[.pointer (some ⟨bE,0,none⟩)]) w:=fun w=>by
    simp [invoke,run_callFunc (P:=prog) (f:=150) (by kernel_rfl)]
  show Code.wpIn _ _ _ _ _ { a2 with defers:={ target := .fn (.func 150) #[.pointer (some ⟨bE,0,none⟩)],args := #[] }::a2.defers } w1
  refine anyAct (fun a=>a.tmps.size=6∧a.defers=[{ target := .fn (.func 150) #[.pointer (some ⟨bE,0,none⟩)],args := #[] }]∧a.tmps.getD 0 undef = .func (.func k) #[] us∧a.tmps.getD 2 undef = .pointer (some ⟨bE,0,none⟩)) ⟨z2,by show _::a2.defers=_;rw [ud],u0,u2⟩ ?_
  clear u0 u2 u3 ud z2 ha2 a2 h0 h2 hds hsz hcap a
  rintro a ⟨hsz,hds,h0,h2⟩
  refine wpIn_seq (wpIn_region ?_)
  show wpOpsIn _ _ _ _ _ [0,1] a w1
  refine opIn_val rfl rfl (by rfl) (run_move (x := .tmp 0) w1 rfl) ?_
  have e0:a.eval (.tmp 0) = .func (.func k) #[] us:=h0
  rw [e0]
  show wpOpsIn _ _ _ _ _ [1] (a.put (some 4) (.func (.func k) #[] us)) w1
  obtain ⟨a2,ha2⟩:∃ a2,a.put (some 4) (.func (.func k) #[] us)=a2:=⟨_,rfl⟩
  rw [ha2]
  have z2:a2.tmps.size=6:=by rw [← ha2,hps];exact hsz
  have u4:a2.eval (.tmp 4) = .func (.func k) #[] us:=by show a2.tmps.getD 4 undef=_;rw [← ha2];exact hgs _ _ _ hsz (by decide)
  have u2:a2.tmps.getD 2 undef = .pointer (some ⟨bE,0,none⟩):=by rw [← ha2,hgp _ _ _ _ (by decide)];exact h2
  have ud:a2.defers=[{ target := .fn (.func 150) #[.pointer (some ⟨bE,0,none⟩)],args := #[] }]:=by rw [← ha2];exact hds
  refine opIn_callE rfl rfl (by rfl) (run_callv0 (f := .tmp 4) w1 rfl rfl rfl u4 hcb) hc ?_
  intro e w2 he
  obtain ⟨hlt,⟨uE,tyE,hE⟩,hcase⟩:=h e w2 he
  have dmono:∀ {args:Array Value} {u:FrameMode} {w:World} {R R':Ending→FrameMode→World→Prop},CallsD prog 150 args u w R→(∀ e u w,R e u w→R' e u w)→CallsD prog 150 args u w R':=fun h hr c cs hu =>
    let ⟨e,u',w',fr,r,rest⟩:=h c cs hu;⟨e,u',w',fr,hr _ _ _ r,rest⟩
  have caught:∀ (p:PanicEntry) (v:Value) (hv:CallsD prog 150 #[.pointer (some ⟨bE,0,none⟩)] (.panicking [p]) w2 fun e u' w'=>e = .returned (.tuple #[])∧u' = .panicking [{ p with recovered:=true }]∧∃ w1,Below w2.heap.size w2 w1∧w'=w1.setRow bE #[v]),
      p.goexit=false→(∀ w3,Below w2.heap.size w2 w3→R (.returned v) (w3.setRow bE #[v]))→Leaves prog f87 a2.tmps R a2.defers (.panicking [p]) w2:=by
    intro p v hv hgo hR
    rw [ud]
    refine leaves_cons (by simp) (hlv w2) (dmono hv ?_)
    rintro e u' w' ⟨rfl,rfl,w3,hb3,rfl⟩
    have hE3:w3.heap[bE]? = some (.cells #[uE] tyE (0,0)):=(hb3.block bE hlt).trans hE
    show Leaves prog f87 a2.tmps R [] .returning (w3.setRow bE #[v])
    exact ⟨v,resT87 u2 (cell36 hE3),hR w3 hb3⟩
  rcases hcase with ⟨c,rfl,hR⟩ | ⟨n,rfl,hR⟩ | ⟨s,rfl,hR⟩
  · show Code.wpIn _ _ _ _ _ (a2.put (some 5) c) w2
    have u2':(a2.put (some 5) c).tmps.getD 2 undef = .pointer (some ⟨bE,0,none⟩):=by rw [hgp _ _ _ _ (by decide)];exact u2
    refine wpIn_seq (wpIn_region ?_)
    show wpOpsIn _ _ _ _ _ [0] (a2.put (some 5) c) w2
    obtain ⟨i36,hi36,hs36⟩:=info_size (P:=prog) (t:=43) (s:=1) (by kernel_rfl)
    refine opIn_skip rfl rfl (by rfl) (run_store1 (x := .tmp 2) (y := .const (.int .i64 0)) (v := .int .i64 0) rfl u2' hi36 hs36 hE rfl rfl) ?_
    show Code.wpIn _ _ _ _ _ (a2.put (some 5) c) (w2.setRow bE #[.int .i64 0])
    refine wpIn_ret ?_
    show Leaves prog f87 (a2.put (some 5) c).tmps R a2.defers .returning (w2.setRow bE #[.int .i64 0])
    rw [ud]
    refine leaves_cons (by simp) (hlv _) (dmono (catch_idleT _ _) ?_)
    rintro e u' w' ⟨rfl,rfl,rfl⟩
    exact ⟨_,resT87 u2' (cell36 hE),hR⟩
  · exact caught _ _ (catch_wideT w2 hE n) rfl hR
  · exact caught _ _ (catch_textT w2 hE s) rfl hR
end Go.Proofs.Tryz
namespace Go.Proofs.Tryz
open Go Go.AL Go.RowKit Go.Proofs
attribute [local simp] awp_all qs_all ops_all dops_all ops_nil dops_nil ops_call ops_callv ops_alloc ops_box dops_call dops_alloc kO_eq kD_eq awanted apure ev Eff.S Eff.H tmpOf upd putD AL.start AV.dem AV.cells AV.storable AV.scells splice scrub abin loadA HR.okB post ares aress ares1 AV.out AV.isData ints_len ints_get fz fz1 AV.vw AV.vw1 boxy vI int undefA assignQ thenQ blockQ seqQ panQ prol prolH allocOf
variable {GI:World→Prop}
def setE (s:Sheet):Option (List End):=match goodS s [] with
 |[]=>none
 |x::l=>some (bestL (betterE s) x l)
def cntE (es:List End) (i n:Nat):Nat:=es.countP fun e=>decide (e.1=((i:Nat):Int)) && decide (e.2 < ((n:Nat):Int))
def needT (s:TSheet) (es:List End) (i:Nat):Int:=s.pace * lenW s.name i+s.turn * cntE es i (lenW s.name i)
def needsT (s:TSheet) (es:List End):List Int:=(List.range s.name.words.length).map (needT s es)
def tourL (s:TSheet) (needs:List Int):List AV:=tshL s++[vI needs]
def tourA (s:TSheet) (needs:List Int):AV := .agg (tourL s needs)
def noName (n:Int):AV := .iface 241 (.agg [.int .i64 n])
structure TGood (s:TSheet):Prop where
 cells:1≤s.cells.length∧s.cells.length≤12
 ticks:∀ c∈s.cells,1≤c.lo∧c.lo≤c.hi∧c.hi≤20
 pos:1≤s.pos∧s.pos≤s.cells.length
 reach:1≤s.reach∧s.reach≤12
 pace:1≤s.pace∧s.pace≤9
 turn:0≤s.turn∧s.turn≤9
 name:sheetI s.name=true
theorem tsh_good {s:TSheet} (h:tshI s=true):TGood s:=by
 simp only [tshI,Bool.and_eq_true,inI,decide_eq_true_eq,Bool.not_eq_true',List.any_eq_false] at h
 obtain ⟨⟨⟨⟨⟨⟨⟨h1,h2⟩,h3⟩,h4,h5⟩,h6,h7⟩,h8,h9⟩,h10,h11⟩,h12⟩:=h
 refine ⟨⟨by omega,by omega⟩,fun c hc => ?_,⟨h4,h5⟩,⟨h6,h7⟩,⟨h8,h9⟩,⟨h10,h11⟩,h12⟩
 have:=h3 c hc
 simp [wrongT,inI] at this
 omega
theorem setE_len {s:Sheet} (hsh:sheetI s=true) {es:List End} (h:setE s=some es):es.length≤3:=by
 unfold setE at h
 cases hg:goodS s [] with
 |nil=>rw [hg] at h;cases h
 |cons x l =>
  rw [hg] at h
  cases h
  exact (good_ok hsh (by rw [hg];exact bestL_mem (betterE s) l x)).2.1
theorem cnt_le (es:List End) (i n:Nat):cntE es i n≤es.length:=List.countP_le_length
theorem need_bound {s:TSheet} (h:TGood s) {es:List End} (he:es.length≤3) {i:Nat} (hi:lenW s.name i≤6):0≤needT s es i∧needT s es i≤81:=by
 have h1:=cnt_le es i (lenW s.name i)
 have hp:=h.pace
 have ht:=h.turn
 unfold needT
 have a1:0≤s.pace * (lenW s.name i:Int):=Int.mul_nonneg (by omega) (by omega)
 have a2:s.pace * (lenW s.name i:Int)≤9 * 6:=Int.mul_le_mul (by omega) (by omega) (by omega) (by omega)
 have a3:0≤s.turn * (cntE es i (lenW s.name i):Int):=Int.mul_nonneg (by omega) (by omega)
 have a4:s.turn * (cntE es i (lenW s.name i):Int)≤9 * 3:=Int.mul_le_mul (by omega) (by omega) (by omega) (by omega)
 omega
def F89 (s:TSheet) (es:List End) (i:Nat) (S:Slots) (H:Boxes):Prop :=
 S 1 = .box 1 0∧H 1=some (tshL s)∧S 2 = .box 2 0∧(∃ z,H 2=some z∧z.length=16)∧S 3 = .box 3 0∧H 3=some [vI [],.slice .view (es.map endA)]∧S 6 = .box 6 0∧H 6=some (tshL s++[grow 3 (ints ((needsT s es).take i))]) ∧
 S 31 = .slice .view (s.name.words.map wordA)∧S 32 = .int .i64 s.name.words.length∧S 33 = .int .i64 (i:Nat)
theorem ac89_no (hG:Stable GI) (s:TSheet) (hs:TSlim s) (h:TGood s) (hno:setE s.name=none):AC prog GI 89 [tshA s] (.panic (noName s.name.words.length)):=by
 have h40:=ac40 hG s.name hs.name
 have hset:setO s.name=[settingA [] [],.int .i64 0,.int .i64 5]:=by
  unfold setE at hno
  unfold setO
  rw [if_pos h.name]
  split at hno
  ·rename_i hg;rw [hg]
  ·cases hno
 rw [hset] at h40
 refine AC.of_body hG hmix func89 rfl ntmps89 (by simp) (ac:=c89) (by kernel_rfl) ?_
 simp [c89,tshA,tshL,sheetL]
 refine ⟨_,by kernel_rfl,h40,by simp [boxy],?_⟩
 simp [settingA,endsA,noName,fillA,aops,astep]
set_option maxHeartbeats 1000000 in
theorem ac89 (hG:Stable GI) (s:TSheet) (hs:TSlim s) (h:TGood s) {es:List End} (hes:setE s.name=some es):AC prog GI 89 [tshA s] (.ret (tourA s (needsT s es))):=by
 have h40:=ac40 hG s.name hs.name
 have hset:∃ m:Int,setO s.name=[settingA [] es,.int .i64 m,.int .i64 0]:=by
  unfold setE at hes
  unfold setO
  rw [if_pos h.name]
  split at hes
  ·cases hes
  ·rename_i x l hg;cases hes;rw [hg];exact ⟨_,rfl⟩
 obtain ⟨m,hset⟩:=hset
 rw [hset] at h40
 have hle:=setE_len h.name hes
 have hF:=sheetF h.name
 have hlen:∀ i,lenW s.name i≤6:=fun i=>by
  unfold lenW
  split
  ·rename_i x hx
   obtain ⟨hlt,rfl⟩:=List.getElem?_eq_some_iff.1 hx
   exact (wordF h.name (List.getElem_mem hlt)).len6
  ·omega
 obtain ⟨i100,hi100,hs100⟩:=info_size (P:=prog) (t:=100) (s:=16) (by kernel_rfl)
 obtain ⟨fs,hfs⟩:=under_struct (P:=prog) (t:=100) (by kernel_rfl)
 refine AC.of_body hG hmix func89 rfl ntmps89 (by simp) (ac:=c89) (by kernel_rfl) ?_
 refine awp_cut (fun S H=>S 1 = .box 1 0∧H 1=some (tshL s)∧S 2 = .box 2 0∧∃ z,H 2=some z∧z.length=16) (by simp [tshA,tshL,sheetL]) ?_
 rintro S H ⟨s1,h1,s2,z,h2,hz⟩
 refine awp_cut (fun S H=>S 1 = .box 1 0∧H 1=some (tshL s)∧S 2 = .box 2 0∧(∃ z,H 2=some z∧z.length=16)∧S 3 = .box 3 0∧H 3=some [vI [],.slice .view (es.map endA)]∧S 5 = .int .i64 0) ?_ ?_
 ·simp [tshL,sheetL,s1,h1,s2,h2,hz]
  refine ⟨_,by kernel_rfl,h40,by simp [boxy],?_⟩
  simp [settingA,endsA,fillA,s1,h1,s2,h2,hz]
  try rfl
 clear s1 h1 s2 h2 hz z S H
 rintro S H ⟨s1,h1,s2,⟨z,h2,hz⟩,s3,h3,s5⟩
 refine awp_cut (fun S H=>S 1 = .box 1 0∧H 1=some (tshL s)∧S 2 = .box 2 0∧(∃ z,H 2=some z∧z.length=16)∧S 3 = .box 3 0∧H 3=some [vI [],.slice .view (es.map endA)]) ?_ ?_
 ·simp [tshL,sheetL,s1,h1,s2,h2,hz,s3,h3,s5]
  try rfl
 clear s1 h1 s2 h2 hz z s3 h3 s5 S H
 rintro S H ⟨s1,h1,s2,⟨z,h2,hz⟩,s3,h3⟩
 refine awp_cut (fun S H=>S 1 = .box 1 0∧H 1=some (tshL s)∧S 2 = .box 2 0∧(∃ z,H 2=some z∧z.length=16)∧S 3 = .box 3 0∧H 3=some [vI [],.slice .view (es.map endA)]∧S 6 = .box 6 0∧H 6=some (tshL s++[.slice .nil []])) ?_ ?_
 ·simp [tshL,sheetL,s1,h1,s2,h2,hz,s3,h3,fillA]
  try rfl
 clear s1 h1 s2 h2 hz z s3 h3 S H
 rintro S H ⟨s1,h1,s2,⟨z,h2,hz⟩,s3,h3,s6,h6⟩
 have hnl:(needsT s es).length=s.name.words.length:=by simp [needsT]
 have hwl:=hF.words
 refine awp_cut (F89 s es s.name.words.length) ?_ ?_
 ·refine awp_cut (F89 s es 0) ?_ ?_
  ·have hg:grow 3 (ints ([]:List Int)) = .slice .nil []:=rfl
   simp [tshL,sheetL,s1,h1,s2,h2,hz,s3,h3,s6,h6,F89,hg]
   try rfl
  clear s1 h1 s2 h2 hz z s3 h3 s6 h6 S H
  intro S H hF0
  refine awp_loop 33 s.name.words.length (F89 s es) (fun i S H h=>h.2.2.2.2.2.2.2.2.2.2) hF0 ?_
  clear hF0 S H
  rintro i hi S H ⟨s1,h1,s2,⟨z,h2,hz⟩,s3,h3,s6,h6,s31,s32,s33⟩
  by_cases hlt:i < s.name.words.length
  case neg =>
   have hil:i=s.name.words.length:=by omega
   subst hil
   simp [s1,h1,s2,h2,hz,s3,h3,s6,h6,s31,s32,s33,F89]
  have hw:IntKind.i64.wrap ((i:Int)+1)=i+1:=wrapI (by omega)
  simp [s1,h1,s2,h2,hz,s3,h3,s6,h6,s31,s32,s33,hlt,tshL,sheetL,wordA,fillA]
  have hln:=hlen i
  have hle6:s.name.words[i].signs.length≤6:=by rw [← lenW_eq hlt];exact hln
  have hp:=h.pace
  have ht:=h.turn
  have hm0:0≤s.pace * (s.name.words[i].signs.length:Int):=Int.mul_nonneg (by omega) (by omega)
  have hm1:s.pace * (s.name.words[i].signs.length:Int)≤9 * 6:=Int.mul_le_mul (by omega) (by omega) (by omega) (by omega)
  have hwm:IntKind.i64.wrap (s.pace * (s.name.words[i].signs.length:Int))=s.pace * (s.name.words[i].signs.length:Int):=wrapI (by omega)
  refine awp_loop 47 es.length (fun j S H=>S 1 = .box 1 0∧H 1=some (tshL s)∧S 2 = .box 2 0∧(∃ z,H 2=some z∧z.length=16)∧S 3 = .box 3 0∧H 3=some [vI [],.slice .view (es.map endA)]∧S 6 = .box 6 0∧H 6=some (tshL s++[grow 3 (ints ((needsT s es).take i))]) ∧
   S 31 = .slice .view (s.name.words.map wordA)∧S 32 = .int .i64 s.name.words.length∧S 33 = .int .i64 (i:Nat)∧S 7 = .int .i64 (i:Nat)∧S 8 = .box 8 0∧H 8=some [vI s.name.words[i].signs,vI s.name.words[i].cuts,.bool s.name.words[i].free] ∧
   S 9 = .int .i64 (s.pace * (s.name.words[i].signs.length:Int)+s.turn * (cntE (es.take j) i s.name.words[i].signs.length:Int))∧S 45 = .slice .view (es.map endA)∧S 46 = .int .i64 es.length∧S 47 = .int .i64 (j:Nat)) (fun j S H h=>h.2.2.2.2.2.2.2.2.2.2.2.2.2.2.2.2.2) ?_ ?_
  ·simp [s1,h1,s2,h2,hz,s3,h3,s6,h6,s31,s32,s33,tshL,sheetL,hwm,cntE]
  clear s1 h1 s2 h2 hz z s3 h3 s6 h6 s31 s32 s33 S H
  rintro j hj S H ⟨s1,h1,s2,⟨z,h2,hz⟩,s3,h3,s6,h6,s31,s32,s33,s7,s8,h8,s9,s45,s46,s47⟩
  have hc3:=cnt_le (es.take j) i s.name.words[i].signs.length
  have hc4:(es.take j).length≤3:=by simp;omega
  have hq0:0≤s.turn * (cntE (es.take j) i s.name.words[i].signs.length:Int):=Int.mul_nonneg (by omega) (by omega)
  have hq1:s.turn * (cntE (es.take j) i s.name.words[i].signs.length:Int)≤9 * 3:=Int.mul_le_mul (by omega) (by omega) (by omega) (by omega)
  by_cases hjl:j < es.length
  case pos =>
   have hw2:IntKind.i64.wrap ((j:Int)+1)=j+1:=wrapI (by omega)
   have hw3:IntKind.i64.wrap (s.pace * (s.name.words[i].signs.length:Int)+s.turn * (cntE (es.take j) i s.name.words[i].signs.length:Int)+s.turn)=s.pace * (s.name.words[i].signs.length:Int)+s.turn * (cntE (es.take j) i s.name.words[i].signs.length:Int)+s.turn:=wrapI (by omega)
   have hstep:cntE (es.take (j+1)) i s.name.words[i].signs.length=cntE (es.take j) i s.name.words[i].signs.length+if es[j].1=((i:Nat):Int)∧es[j].2 < ((s.name.words[i].signs.length:Nat):Int) then 1 else 0:=by
    rw [List.take_succ,List.getElem?_eq_getElem hjl]
    unfold cntE
    rw [Option.toList_some,List.countP_append,List.countP_singleton]
    by_cases q1:es[j].1=((i:Nat):Int)<;>by_cases q2:es[j].2 < ((s.name.words[i].signs.length:Nat):Int)<;>simp [q1,q2]
   by_cases c1:es[j].1=((i:Nat):Int)
   ·by_cases c2:es[j].2 < ((s.name.words[i].signs.length:Nat):Int)
    ·rw [if_pos ⟨c1,c2⟩] at hstep
     simp [s1,h1,s2,h2,hz,s3,h3,s6,h6,s31,s32,s33,s7,s8,h8,s9,s45,s46,s47,hjl,tshL,sheetL,endA,fillA,hw2,hw3,c1,c2,hstep]
     rw [Int.mul_add,Int.mul_one,Int.add_assoc]
    ·rw [if_neg (fun h=>c2 h.2)] at hstep
     simp [s1,h1,s2,h2,hz,s3,h3,s6,h6,s31,s32,s33,s7,s8,h8,s9,s45,s46,s47,hjl,tshL,sheetL,endA,fillA,hw2,hw3,c1,c2,hstep]
   ·rw [if_neg (fun h=>c1 h.1)] at hstep
    have c1':(es[j].1==((i:Nat):Int))=false:=by simpa using c1
    simp [s1,h1,s2,h2,hz,s3,h3,s6,h6,s31,s32,s33,s7,s8,h8,s9,s45,s46,s47,hjl,tshL,sheetL,endA,fillA,hw2,hw3,c1,c1',hstep]
  case neg =>
   have hjl':j=es.length:=by omega
   subst hjl'
   have hT:es.take es.length=es:=List.take_of_length_le (Nat.le_refl _)
   rw [hT] at s9
   have hnx:(needsT s es).take (i+1)=(needsT s es).take i++[s.pace * (s.name.words[i].signs.length:Int)+s.turn * (cntE es i s.name.words[i].signs.length:Int)]:=by
    rw [List.take_succ,List.getElem?_eq_getElem (by rw [hnl];exact hlt)]
    simp [needsT,needT,lenW_eq hlt]
   have hok:elemsOK 1 (ints ((needsT s es).take i))=true:=ints_ok _
   have hap:ints ((needsT s es).take i)++[.int .i64 (s.pace * (s.name.words[i].signs.length:Int)+s.turn * (cntE es i s.name.words[i].signs.length:Int))]=ints ((needsT s es).take (i+1)):=by rw [hnx];simp [ints]
   have hne:ints ((needsT s es).take (i+1))≠[]:=by rw [← hap];simp
   have hgn:grow 3 (ints ((needsT s es).take (i+1))) = .slice (.own 3) (ints ((needsT s es).take (i+1))):=by unfold grow;rw [if_neg hne]
   have hok1:elemsOK 1 [.int .i64 (s.pace * (s.name.words[i].signs.length:Int)+s.turn * (cntE es i s.name.words[i].signs.length:Int))]=true:=rfl
   have hmin:min i (needsT s es).length+1 < 1048576:=by omega
   by_cases h0:ints ((needsT s es).take i)=[]
   ·have hg0:grow 3 (ints ((needsT s es).take i)) = .slice .nil []:=by unfold grow;rw [if_pos h0,h0]
    rw [hg0] at h6
    rw [h0,List.nil_append] at hap
    simp [s1,h1,s2,h2,hz,s3,h3,s6,h6,s31,s32,s33,s7,s8,h8,s9,s45,s46,s47,tshL,sheetL,hw,hok1,F89,hgn,← hap]
    rw [hap];exact hgn.symm
   ·have hg0:grow 3 (ints ((needsT s es).take i)) = .slice (.own 3) (ints ((needsT s es).take i)):=by unfold grow;rw [if_neg h0]
    rw [hg0] at h6
    simp [s1,h1,s2,h2,hz,s3,h3,s6,h6,s31,s32,s33,s7,s8,h8,s9,s45,s46,s47,tshL,sheetL,hw,hok1,hok,hmin,F89,hgn,← hap]
    rw [hap];exact hgn.symm
 clear s1 h1 s2 h2 hz z s3 h3 s6 h6 S H
 rintro S H ⟨s1,h1,s2,⟨z,h2,hz⟩,s3,h3,s6,h6,s31,s32,s33⟩
 have hT:(needsT s es).take s.name.words.length=needsT s es:=List.take_of_length_le (by omega)
 rw [hT] at h6
 have hgr:∃ o,grow 3 (ints (needsT s es)) = .slice o (ints (needsT s es)):=⟨_,rfl⟩
 obtain ⟨o,hgr⟩:=hgr
 rw [hgr] at h6
 have hsp:splice z 0 (tshL s++[.slice .view (ints (needsT s es))])=tshL s++[.slice .view (ints (needsT s es))]:=by simp [splice,hz,tshL,sheetL]
 simp [s1,h1,s2,h2,hz,s3,h3,s6,h6,s31,s32,s33,hi100,hs100,hfs,tshL,sheetL,tourA,tourL,aggT]
 cases o<;>rfl
end Go.Proofs.Tryz
namespace Go.AL
theorem Rel.unkeep {P:Program} {w0:World} {n:Nat} {g:Gh} {S:Slots} {H:Boxes} {a:Act} {w:World} (R:Rel P w0 n NoU g S H a w) (b:Nat):Rel P w0 n NoU { g with old:={ g.old with keep:=upd g.old.keep b none } } S H a w:={
 size:=R.size
 defers:=R.defers
 facts:=R.facts
 slot:=R.slot
 own t ht hu:=(R.own t ht hu).keep rfl fun b hb=>⟨rfl,rfl,hb⟩
 box i c hi:=by
  obtain ⟨cs,vs,ty,h1,h2,h3,h4,h5,h6,h7,h8,h9⟩:=R.box i c hi
  exact ⟨cs,vs,ty,h1,h2,h3,h4,h5,h6,h7,fun j hj hj'=>(h8 j hj hj').keep rfl fun b hb=>⟨rfl,rfl,hb⟩,h9⟩
 alH:=R.alH
 alU:=R.alU
 inj:=R.inj
 base:=R.base
 below:=R.below
 fresh:=R.fresh
 still:=R.still
 grown:=R.grown
 kept c o h:=by
  have hc:c≠b:=by rintro rfl;simp [upd] at h
  exact R.kept c o (by simpa [upd,hc] using h) }
end Go.AL
namespace Go.Proofs.Tryz
open Go Go.AL Go.RowKit Go.Proofs
variable {GI:World→Prop}
theorem put_twice (a:Act) (d:Nat) (c c':Value):(a.put (some d) c).put (some d) c'=a.put (some d) c':=by
 simp [Act.put]
theorem tsh_vw (s:TSheet):(AV.agg (tshL s)).vw = .agg (tshL s):=by simp [AV.vw,tshL,sheetL,AV.vw1,vI]
theorem noNameI {Pr:Nat→Nat→Prop} {w:World} {n:Int} {c:Value} (h:RD Pr w (noName n) c):c = .iface 241 (.agg #[.int .i64 n]):=by
 unfold noName at h
 cases h with
 |iface _ _ c h =>
  cases h with
  |agg _ vs hl h1 hr =>
   obtain ⟨u,rfl⟩:=arr_one (vs:=vs) (by rw [← hl];rfl)
   have:=hr 0 (by simp) (by simp)
   have:=(RV.data (al:=noneA) _ _ this).int_eq
   simp only [List.getElem_toArray,List.getElem_cons_zero] at this
   rw [this]
section
variable {w0:World} {n:Nat} {g:Gh} {S:Slots} {H:Boxes} {a:Act} {w:World} {d i2 i6:Nat} {s:TSheet} {z:List AV}
theorem calls88_front (hG:Stable GI) (hG0:GI w0) (R:Rel prog w0 n NoU g S H a w) (hd:d < n) (h2n:i2 < n) (h6n:i6 < n) (hd6:d≠i6)
  (hS2:S i2 = .box i2 0) (hH2:H i2=some (tshL s)) (hS6:S i6 = .box i6 0) (hH6:H i6=some z) {R':Ending→World→Prop}
  (h:∀ (c1:Value) (g1:Gh),g1.old=g.old→Rel prog w0 n NoU g1 (upd S d (.agg (tshL s))) H (a.put (some d) c1) w→GI w→RV (callOld g1 false) (fun _=>none) w (tshA s) c1→∀ (b6:Nat),a.tmps.getD i6 undef = .pointer (some ⟨b6,0,none⟩) →
   ∃ RR:Ending→World→Prop,Calls prog 89 #[c1] w RR∧∀ en w2,RR en w2→match en with
    |.returned v=>∀ (aC:Act) (o:Oper),aC.eval (.tmp 1) = .pointer (some ⟨b6,0,none⟩)→aC.eval (.tmp 3)=v→o.op = .store 100 (.tmp 1) (.tmp 3) →
      ∃ w3,((execOp aC.eval o).run prog w2 = .ok .skip w3∨∃ u,(execOp aC.eval o).run prog w2 = .ok (.value u) w3)∧R' (.returned (.tuple #[])) w3
    |.panicked ch=>R' (.panicked ch) w2
    |.outgrown=>False) :
  Calls prog 88 #[a.tmps.getD i2 undef,a.tmps.getD i6 undef] w R':=by
 obtain ⟨b2,al2,e2⟩:=slot_box R h2n hS2
 obtain ⟨b6,al6,e6⟩:=slot_box R h6n hS6
 have hsz:=R.size
 have hb0:=R.below
 rw [R.base] at hb0
 have hGw:GI w:=hG w0 w hG0 hb0
 obtain ⟨i40,hi40,hs40⟩:=info_size (P:=prog) (t:=40) (s:=15) (by kernel_rfl)
 obtain ⟨fs,hfs⟩:=under_struct (P:=prog) (t:=40) (by kernel_rfl)
 have hap:apure S H (.load .any (aggT (.struct fs)) i40.size (.t i2))=some { v := .agg (tshL s) }:=by
  simp [apure,ev,hS2,hH2,HR.okB,hs40,aggT,loadA,tshL,sheetL,AV.dem,vI]
 obtain ⟨c1,w1,g1,hrun,hgb,hgo,R1⟩:=does_load R (o:={ dst:=some d,op := .load 40 (.tmp i2),type:=0,pos := "",after := #[],guard:=none }) (x := .tmp i2) (y := .t i2) rfl (fun t ht=>by cases ht;exact ⟨hd,id⟩) hi40 hfs (by simp [opd,h2n]) (fun _ _=>id) hap
 have hw1:w1=w:=by
  rcases hrun with hrun | ⟨hrun,_⟩
  ·exact (ro_val (P:=prog) (by rfl) hrun).1
  ·obtain ⟨_,v,hv⟩:=ro_val (P:=prog) (by rfl) hrun
   cases hv
 subst hw1
 have hrun':(execOp a.eval { dst:=some d,op := .load 40 (.tmp i2),type:=0,pos := "",after := #[],guard:=none }).run prog w1 = .ok (.value c1) w1:=by
  rcases hrun with hrun | ⟨hrun,_⟩
  ·exact hrun
  ·obtain ⟨_,v,hv⟩:=ro_val (P:=prog) (by rfl) hrun
   cases hv
 have R1':Rel prog w0 n NoU g1 (upd S d (.agg (tshL s))) H (a.put (some d) c1) w1:=R1
 have hgs0:∀ (a:Act) (d:Nat) (c:Value),d < a.tmps.size→(a.put (some d) c).tmps.getD d undef=c:=fun a d c h=>by
  simp [Act.put,h]
 have hc1:RV (callOld g1 false) (fun _=>none) w1 (tshA s) c1:=by
  have h1:=R1'.slot d hd id
  rw [upd_same,hgs0 a d c1 (by omega)] at h1
  have:=R1'.fz1 h1 false (by simp [boxy1])
  have e:Go.AL.fz1 H (.agg (tshL s)) = .agg (tshL s):=tsh_vw s
  rw [e] at this
  exact this
 obtain ⟨RR,hcall,hRR⟩:=h c1 g1 hgo R1' hGw hc1 b6 e6
 rw [e2,e6]
 refine calls_of_wp func88 rfl ?_
 refine (wpIn_FR_none (m:=0)).1 ?_
 refine anyAct (fun a=>a.tmps.size=4∧a.defers=[]∧a.tmps.getD 0 undef = .pointer (some ⟨b2,0,none⟩)∧a.tmps.getD 1 undef = .pointer (some ⟨b6,0,none⟩)) ⟨by simp [ntmps88],rfl,args_get _ _ 0 (by simp),args_get _ _ 1 (by simp)⟩ ?_
 rintro aC ⟨zC,dC,t0,t1⟩
 have hgs:∀ (a:Act) (d:Nat) (c:Value),a.tmps.size=4→d < 4→(a.put (some d) c).tmps.getD d undef=c:=fun a d c h hd=>by
  simp [Act.put,h,hd]
 have hgp:∀ (a:Act) (d t:Nat) (c:Value),t≠d→(a.put (some d) c).tmps.getD t undef=a.tmps.getD t undef:=fun a d t c h=>by
  simp [Act.put,Array.getElem?_setIfInBounds_ne (Ne.symm h)]
 refine wpIn_region ?_
 show wpOpsIn _ _ _ _ _ [0,1,2] aC w1
 have hload:∀ o:Oper,o.op = .load 40 (.tmp 0)→(execOp aC.eval o).run prog w1 = .ok (.value c1) w1:=by
  intro o ho
  have h1:aC.eval (.tmp 0)=a.eval (.tmp i2):=t0.trans e2.symm
  rw [← hrun']
  unfold execOp
  simp only [ho,h1]
 refine opIn_val rfl rfl (by rfl) (hload _ rfl) ?_
 show wpOpsIn _ _ _ _ _ [1,2] (aC.put (some 2) c1) w1
 refine opIn_callE rfl rfl (by rfl) (run_callF (k:=89) (args := #[c1]) w1 rfl rfl ?_ (by kernel_rfl)) hcall ?_
 ·simp only [List.map_toArray,List.map_cons,List.map_nil]
  show #[(aC.put (some 2) c1).tmps.getD 2 undef]=_
  rw [hgs _ _ _ zC (by decide)]
 rintro en w2 hen
 have:=hRR en w2 hen
 cases en with
 |returned v =>
  show wpOpsIn _ _ _ _ _ [2] ((aC.put (some 2) c1).put (some 3) v) w2
  obtain ⟨w3,hr3,hfin⟩:=this ((aC.put (some 2) c1).put (some 3) v) { dst:=none,op := .store 100 (.tmp 1) (.tmp 3),type:=0,pos := "",after := #[],guard:=none }
   (by show ((aC.put (some 2) c1).put (some 3) v).tmps.getD 1 undef=_;rw [hgp _ _ _ _ (by decide),hgp _ _ _ _ (by decide)];exact t1)
   (by show ((aC.put (some 2) c1).put (some 3) v).tmps.getD 3 undef=_;exact hgs _ _ _ (by simpa [Act.put] using zC) (by decide)) rfl
  have fin:∀ u:Value,((aC.put (some 2) c1).put (some 3) v).defers=[]∧∃ v',(results f88 ((aC.put (some 2) c1).put (some 3) v).tmps).run prog w3 = .ok v' w3∧R' (.returned v') w3:=fun u=>⟨dC,.tuple #[],by simp [results,results88],hfin⟩
  have hst:∀ o:Oper,o.op = .store 100 (.tmp 1) (.tmp 3)→(execOp ((aC.put (some 2) c1).put (some 3) v).eval o).run prog w2=(execOp ((aC.put (some 2) c1).put (some 3) v).eval { dst:=none,op := .store 100 (.tmp 1) (.tmp 3),type:=0,pos := "",after := #[],guard:=none }).run prog w2:=by
   intro o ho
   unfold execOp
   simp only [ho]
  rcases hr3 with hr | ⟨u,hr⟩
  ·exact opIn_skip rfl rfl (by rfl) ((hst _ rfl).trans hr) (fin undef)
  ·exact opIn_val rfl rfl (by rfl) ((hst _ rfl).trans hr) (fin u)
 |panicked ch=>exact ⟨dC,this⟩
 |outgrown=>exact this.elim
theorem calls88 (hG:Stable GI) (hG0:GI w0) (R:Rel prog w0 n NoU g S H a w) (hd:d < n) (h2n:i2 < n) (h6n:i6 < n) (hd6:d≠i6)
  (hS2:S i2 = .box i2 0) (hH2:H i2=some (tshL s)) (hS6:S i6 = .box i6 0) (hH6:H i6=some z) (hz:z.length=16) {ns:List Int} (h89:AC prog GI 89 [tshA s] (.ret (tourA s ns))) :
  Calls prog 88 #[a.tmps.getD i2 undef,a.tmps.getD i6 undef] w fun e w2=>e = .returned (.tuple #[])∧∃ (c:Value) (g':Gh) (S':Slots) (H':Boxes),g'.old=g.old∧Rel prog w0 n NoU g' S' H' (a.put (some d) c) w2∧(∀ t,t≠d→S' t=S t)∧H'=upd H i6 (some (tourL s ns)):=by
 refine calls88_front hG hG0 R hd h2n h6n hd6 hS2 hH2 hS6 hH6 fun c1 g1 hg1 R1 hGw hc1 b6 e6 => ?_
 refine ⟨_,h89 w (callOld g1 false) #[c1] hGw rfl (fun i h h'=>by
  match i,h with
  |0,_=>exact hc1),?_⟩
 rintro en w2 ⟨hb2,hi,hfr,c,rfl,hrv,hown⟩
 intro aC o q1 q3 ho
 obtain ⟨g',hgb,hgo,R2⟩:=R1.call (some d) (fun t ht=>by cases ht;exact ⟨hd,id⟩) false hb2 hfr hrv hown (fun h=>by cases h)
 rw [put_twice] at R2
 have hSd:∀ t,t≠d→putD (upd S d (.agg (tshL s))) (some d) (tourA s ns) t=S t:=fun t ht=>by simp [AL.putD,upd,ht]
 obtain ⟨i100,hi100,hs100⟩:=info_size (P:=prog) (t:=100) (s:=16) (by kernel_rfl)
 have hsp:splice z 0 ((tourL s ns).map AV.dem)=tourL s ns:=by
  have:(tourL s ns).map AV.dem=tourL s ns:=by simp [tourL,tshL,sheetL,vI,AV.dem]
  rw [this]
  simp [splice,hz,tourL,tshL,sheetL]
 have hap:apure (putD (upd S d (.agg (tshL s))) (some d) (tourA s ns)) H (.store .any i100.size (.t i6) (.t d))=some { v:=undefA,dm:=some d,hw:=some (i6,tourL s ns) }:=by
  show apure (putD (upd S d (.agg (tshL s))) (some d) (.agg (tourL s ns))) H (.store .any i100.size (.t i6) (.t d))=_
  have e1:ev (putD (upd S d (.agg (tshL s))) (some d) (.agg (tourL s ns))) (.t i6) = .box i6 0:=(hSd i6 (Ne.symm hd6)).trans hS6
  have e2:ev (putD (upd S d (.agg (tshL s))) (some d) (.agg (tourL s ns))) (.t d) = .agg (tourL s ns):=by simp [ev,AL.putD,upd]
  have hl:(tourL s ns).length=16:=by simp [tourL,tshL,sheetL]
  simp only [apure,e1,e2,hH6,HR.okB]
  simp [AV.cells,AV.storable,hs100,hl,hz,tmpOf,hsp,AV.scells]
 obtain ⟨c2,w3,g3,hrun,hg3b,hg3o,R3⟩:=does_store R2 (o:={ dst:=none,op := .store 100 (.tmp i6) (.tmp d),type:=0,pos := "",after := #[],guard:=none }) (x1 := .tmp i6) (x2 := .tmp d) (y1 := .t i6) (y2 := .t d) (hr := .any) rfl rfl hi100 (by simp [opd,h6n]) (by simp [opd,hd]) (fun _ _=>id) (fun _ _=>id) hap
 have hsz:=R.size
 have f6:(a.put (some d) c).eval (.tmp i6) = .pointer (some ⟨b6,0,none⟩):=by
  show (a.put (some d) c).tmps.getD i6 undef=_
  rw [← e6]
  simp [Act.put,Array.getElem?_setIfInBounds_ne hd6]
 have fd:(a.put (some d) c).eval (.tmp d)=c:=by
  show (a.put (some d) c).tmps.getD d undef=_
  simp [Act.put,hsz,hd]
 have hsame:(execOp aC.eval o).run prog w2=(execOp (a.put (some d) c).eval { dst:=none,op := .store 100 (.tmp i6) (.tmp d),type:=0,pos := "",after := #[],guard:=none }).run prog w2:=by
  unfold execOp
  simp only [ho,q1,q3,f6,fd]
 refine ⟨w3,?_,rfl,c,g3,_,_,by rw [hg3o,hgo,hg1],R3,fun t ht => ?_,rfl⟩
 ·rcases hrun with hrun | ⟨hrun,_⟩
  ·exact .inr ⟨_,hsame.trans hrun⟩
  ·exact .inl (hsame.trans hrun)
 ·rw [← hSd t ht]
  simp [Eff.S,AL.putD,upd,ht]
theorem calls88p (hG:Stable GI) (hG0:GI w0) (R:Rel prog w0 n NoU g S H a w) (hd:d < n) (h2n:i2 < n) (h6n:i6 < n) (hd6:d≠i6)
  (hS2:S i2 = .box i2 0) (hH2:H i2=some (tshL s)) (hS6:S i6 = .box i6 0) (hH6:H i6=some z) {k:Int} (h89:AC prog GI 89 [tshA s] (.panic (noName k))) :
  Calls prog 88 #[a.tmps.getD i2 undef,a.tmps.getD i6 undef] w fun e w2=>e = .panicked [{ v := .iface 241 (.agg #[.int .i64 k]),recovered:=false }]∧Below w.heap.size w w2:=by
 refine calls88_front hG hG0 R hd h2n h6n hd6 hS2 hH2 hS6 hH6 fun c1 g1 hg1 R1 hGw hc1 b6 e6 => ?_
 refine ⟨_,h89 w (callOld g1 false) #[c1] hGw rfl (fun i h h'=>by
  match i,h with
  |0,_=>exact hc1),?_⟩
 rintro en w2 ⟨hb2,hi,hfr,c,rfl,hrd⟩
 have hc:=noNameI hrd
 subst hc
 exact ⟨rfl,hb2⟩
theorem kept_none (R:Rel prog w0 n NoU g S H a w):g.old.keep w.heap.size=none:=by
 cases h:g.old.keep w.heap.size with
 |none=>rfl
 |some o =>
  have:=(Array.getElem?_eq_some_iff.1 (R.kept _ o h).2.1).1
  omega
theorem calls87 (hG:Stable GI) (hG0:GI w0) (R:Rel prog w0 n NoU g S H a w) (hd:d < n) (h2n:i2 < n) (h6n:i6 < n) (hd6:d≠i6)
  (hS2:S i2 = .box i2 0) (hH2:H i2=some (tshL s)) (hS6:S i6 = .box i6 0) (hH6:H i6=some z) (hz:z.length=16) {ns:List Int} (h89:AC prog GI 89 [tshA s] (.ret (tourA s ns))) :
  Calls prog 87 #[.func (.func 88) #[] #[a.tmps.getD i2 undef,a.tmps.getD i6 undef]] w fun e w2=>e = .returned (.int .i64 0)∧∃ (c:Value) (g':Gh) (S':Slots) (H':Boxes),g'.old=g.old∧Rel prog w0 n NoU g' S' H' (a.put (some d) c) w2∧(∀ t,t≠d→S' t=S t)∧H'=upd H i6 (some (tourL s ns)):=by
 have R1:=R.keepNew (.cells #[.int .i64 0] 43)
 have hkn:=kept_none R
 refine attempt_callsT (by kernel_rfl) (calls88 hG hG0 R1 hd h2n h6n hd6 hS2 hH2 hS6 hH6 hz h89) ?_
 rintro e w2 ⟨rfl,c,g',S',H',ho,R2,hS',hH'⟩
 have hk:g'.old.keep w.heap.size=some (.cells #[.int .i64 0] 43):=by rw [ho];exact upd_same _ _ _
 have hk2:=(R2.kept _ _ hk).2.1
 have hlt:=(Array.getElem?_eq_some_iff.1 hk2).1
 refine ⟨hlt,⟨_,_,hk2⟩,.inl ⟨_,rfl,rfl,c,_,S',H',?_,(R2.unkeep w.heap.size).grow' ?_,hS',hH'⟩⟩
 ·show ({ g'.old with keep:=upd g'.old.keep w.heap.size none }:Old)=_
  rw [ho]
  have:upd (upd g.old.keep w.heap.size (some (.cells #[.int .i64 0] 43))) w.heap.size none=g.old.keep:=by
   funext b
   by_cases hb:b=w.heap.size
   ·subst hb;simp [upd,hkn]
   ·simp [upd,hb]
  show ({ g.old with keep:=upd (upd g.old.keep w.heap.size (some (.cells #[.int .i64 0] 43))) w.heap.size none }:Old)=_
  rw [this]
 ·refine ⟨rfl,rfl,rfl,by simp,fun k hk' => ?_⟩
  by_cases hb:k=w.heap.size
  ·subst hb
   rw [setRow_heap w2 _ _ _ _ _ hk2,hk2]
  ·exact setRow_other w2 _ k _ hb
theorem calls87p (hG:Stable GI) (hG0:GI w0) (R:Rel prog w0 n NoU g S H a w) (hd:d < n) (h2n:i2 < n) (h6n:i6 < n) (hd6:d≠i6)
  (hS2:S i2 = .box i2 0) (hH2:H i2=some (tshL s)) (hS6:S i6 = .box i6 0) (hH6:H i6=some z) {k:Int} (h89:AC prog GI 89 [tshA s] (.panic (noName k))) :
  Calls prog 87 #[.func (.func 88) #[] #[a.tmps.getD i2 undef,a.tmps.getD i6 undef]] w fun e w2=>e = .returned (.int .i64 7)∧∃ g',g'.old=g.old∧Rel prog w0 n NoU g' S H a w2:=by
 have R1:=R.keepNew (.cells #[.int .i64 0] 43)
 have hkn:=kept_none R
 refine attempt_callsT (by kernel_rfl) (calls88p hG hG0 R1 hd h2n h6n hd6 hS2 hH2 hS6 hH6 h89) ?_
 rintro en w2 ⟨rfl,hb2⟩
 have R2:=R1.grow' hb2
 have hk:upd g.old.keep w.heap.size (some (.cells #[.int .i64 0] 43)) w.heap.size=some (.cells #[.int .i64 0] 43):=upd_same _ _ _
 have hk2:=(R2.kept _ _ hk).2.1
 have hlt:=(Array.getElem?_eq_some_iff.1 hk2).1
 refine ⟨hlt,⟨_,_,hk2⟩,.inr (.inl ⟨k,rfl,fun w3 hb3=>⟨rfl,?_⟩⟩)⟩
 have R3:=R2.grow' hb3
 have hk3:=(R3.kept _ _ hk).2.1
 have R4:=R3.rekeep hk (.cells #[.int .i64 7] 43)
 rw [setRow_putObj w3 hk3]
 refine ⟨_,?_,R4.unkeep w.heap.size⟩
 have:upd (upd (upd g.old.keep w.heap.size (some (.cells #[.int .i64 0] 43))) w.heap.size (some (.cells #[.int .i64 7] 43))) w.heap.size none=g.old.keep:=by
  funext b
  by_cases hb:b=w.heap.size
  ·subst hb;simp [upd,hkn]
  ·simp [upd,hb]
 show ({ g.old with keep:=upd (upd (upd g.old.keep w.heap.size (some (.cells #[.int .i64 0] 43))) w.heap.size (some (.cells #[.int .i64 7] 43))) w.heap.size none }:Old)=_
 rw [this]
end
end Go.Proofs.Tryz
namespace Go.Proofs.Tryz
open Go Go.AL Go.RowKit Go.Proofs
attribute [local simp] awp_all qs_all ops_all dops_all ops_nil dops_nil ops_call ops_callv ops_alloc ops_box dops_call dops_alloc kO_eq kD_eq awanted apure ev Eff.S Eff.H tmpOf upd putD AL.start AV.dem AV.cells AV.storable AV.scells splice scrub abin loadA HR.okB post ares aress ares1 AV.out AV.isData ints_len ints_get fz fz1 AV.vw AV.vw1 boxy vI int undefA assignQ thenQ blockQ seqQ panQ prol prolH allocOf
variable {GI:World→Prop}
def zT:TSheet:=⟨[],0,0,0,0,⟨[],[],0,0,0,0,0,[],0,0⟩⟩
def openedO (s:TSheet) (b:Bool):List AV :=
 if b then (match setE s.name with | some es=>[tourA s (needsT s es),.int .i64 0] | none=>[tourA zT [],.int .i64 7]) else [tourA zT [],.int .i64 2]
def zero16:List AV:=[.slice .nil [],.int .i64 0,.int .i64 0,.int .i64 0,.int .i64 0,.slice .nil [],.slice .nil [],.int .i64 0,.int .i64 0,.int .i64 0,.int .i64 0,.int .i64 0,.slice .nil [],.int .i64 0,.int .i64 0,.slice .nil []]
theorem ac35_no (hG:Stable GI) (s:TSheet):AC prog GI 35 [tshA s,.bool false] (.ret (.tup [tourA zT [],.int .i64 2])):=by
 obtain ⟨i100,hi100,hs100⟩:=info_size (P:=prog) (t:=100) (s:=16) (by kernel_rfl)
 obtain ⟨fs,hfs⟩:=under_struct (P:=prog) (t:=100) (by kernel_rfl)
 refine AC.of_body hG hmix func35 rfl ntmps35 (by simp) (ac:=c35) (by kernel_rfl) ?_
 simp [c35,tshA,tshL,sheetL,fillA,hi100,hs100,hfs,aggT,tourA,tourL,zT]
 rfl
set_option maxRecDepth 100000 in
theorem ac35 (hG:Stable GI) (s:TSheet) (hs:TSlim s):AC prog GI 35 [tshA s,.bool (tshI s)] (.ret (.tup (openedO s (tshI s)))):=by
 cases hI:tshI s with
 |false=>exact ac35_no hG s
 |true =>
 have hgood:=tsh_good hI
 refine AC.of_SW func35 rfl ntmps35 (by simp) fun cc w => ?_
 refine SW.cut hG hmix (by kernel_rfl) (ac:=ACode.fst c35) (by kernel_rfl) (fun _ _ h=>h) (fun S' H'=>S' 1 = .bool true∧S' 2 = .box 2 0∧H' 2=some (tshL s)∧S' 4 = .box 4 0∧H' 4=some zero16) ?_ ?_
 ·simp [c35,ACode.fst,tshA,tshL,sheetL,zero16]
 rintro S1 H1 ⟨s1,s2,h2,s4,h4⟩
 refine SW.seq (SW.cut hG hmix (by kernel_rfl) (ac:=ACode.fst (ACode.fst (ACode.snd c35))) (by kernel_rfl) (fun _ _ h=>h) (fun S' H'=>S' 9 = .bool false∧S' 2 = .box 2 0∧H' 2=some (tshL s)∧S' 4 = .box 4 0∧H' 4=some zero16) ?_ ?_)
 ·simp [c35,ACode.fst,ACode.snd,s1,s2,h2,s4,h4]
 clear s1 s2 h2 s4 h4
 rintro S2 H2 ⟨s9,s2,h2,s4,h4⟩
 refine SW.cond rfl false (by show S2 9=_;rw [s9]) (SW.skip ?_)
 show SW prog GI 15 none (.seq _ (.seq _ (.seq _ .ret))) _ _ _ _
 refine SW.cut hG hmix (by kernel_rfl) (ac:=ACode.fst (ACode.snd (ACode.snd c35))) (by kernel_rfl) (fun _ _ h=>h) (fun S' H'=>S' 2 = .box 2 0∧H' 2=some (tshL s)∧S' 4 = .box 4 0∧H' 4=some zero16∧S' 6 = .box 6 0∧H' 6=some zero16) ?_ ?_
 ·simp [c35,ACode.fst,ACode.snd,s2,h2,s4,h4,zero16]
 clear s9 s2 h2 s4 h4
 rintro S3 H3 ⟨s2,h2,s4,h4,s6,h6⟩
 obtain ⟨l,e,hle,hO,hcalls⟩:∃ (l:List AV) (e:Int),l.length=16∧openedO s true=[(AV.agg (l.map AV.dem)).vw,.int .i64 e] ∧
   ∀ (w0:World) (g:Gh) (S:Slots) (H:Boxes) (a:Act) (w:World),GI w0→Rel prog w0 15 NoU g S H a w→S 2 = .box 2 0→H 2=some (tshL s)→S 6 = .box 6 0→H 6=some zero16 →
    Calls prog 87 #[.func (.func 88) #[] #[a.tmps.getD 2 undef,a.tmps.getD 6 undef]] w fun en w2=>en = .returned (.int .i64 e)∧∃ (c:Value) (g':Gh) (S':Slots) (H':Boxes),g'.old=g.old∧Rel prog w0 15 NoU g' S' H' (a.put (some 12) c) w2∧(∀ t,t≠12→S' t=S t)∧H'=upd H 6 (some l):=by
  cases hset:setE s.name with
  |some es =>
   refine ⟨tourL s (needsT s es),0,by simp [tourL,tshL,sheetL],?_,fun w0 g S H a w hG0 R q2 qh2 q6 qh6=>calls87 hG hG0 R (by decide) (by decide) (by decide) (by decide) q2 qh2 q6 qh6 rfl (ac89 hG s hs hgood hset)⟩
   simp [openedO,hset,tourA,tourL,tshL,sheetL,vI,AV.dem,AV.vw,AV.vw1]
  |none =>
   refine ⟨zero16,7,rfl,?_,fun w0 g S H a w hG0 R q2 qh2 q6 qh6=>(calls87p hG hG0 R (d:=12) (by decide) (by decide) (by decide) (by decide) q2 qh2 q6 qh6 (ac89_no hG s hs hgood hset)).mono ?_⟩
   ·simp [openedO,hset,tourA,tourL,tshL,sheetL,zT,zero16,vI,ints,AV.dem,AV.vw,AV.vw1]
   ·rintro en w2 ⟨rfl,g',hg',R'⟩
    refine ⟨rfl,undef,g',upd S 12 .junk,H,hg',R'.put 12 .junk undef (by decide) (.junk _) trivial,fun t ht=>upd_ne _ _ ht,?_⟩
    funext k
    by_cases hk:k=6
    ·subst hk;rw [upd_same];exact qh6
    ·rw [upd_ne _ _ hk]
 rw [hO]
 refine SW.seq (SW.hand hG (p:=0) (lm:=[0,1]) (l2:=[2]) (os1:=[]) (oh:=[_,_]) (os2:=[_]) rfl rfl rfl rfl (by kernel_rfl) (fun _ h=>h) (al1:=[]) (al2:=(ACode.dl (ACode.fst (ACode.snd (ACode.snd (ACode.snd c35))))).drop 2) rfl (by kernel_rfl) rfl (by kernel_rfl)
  (K1:=fun S' H'=>S' 2 = .box 2 0∧H' 2=some (tshL s)∧S' 4 = .box 4 0∧H' 4=some zero16∧S' 6 = .box 6 0∧H' 6=some zero16)
  (K2:=fun o S' H'=>o=Old.plain cc w∧S' 4 = .box 4 0∧H' 4=some zero16∧S' 6 = .box 6 0∧H' 6=some l∧S' 12 = .int .i64 e)
  (K3:=fun o S' H'=>o=Old.plain cc w∧S' 4 = .box 4 0∧H' 4=some zero16∧S' 6 = .box 6 0∧H' 6=some l∧S' 7 = .int .i64 e) ⟨s2,h2,s4,h4,s6,h6⟩ ?_ ?_ ?_)
 ·rintro w0 g S5 H5 a w5 m hG0 ho R ⟨s2,h2,s4,h4,s6,h6⟩
  have hsz:=R.size
  refine opIn_val rfl rfl (by rfl) (run_mkf (fn := .func 88) (c := #[.tmp 2,.tmp 6]) rfl) ?_
  obtain ⟨fv,hfv⟩:∃ fv:Value,fv = .func (.func 88) #[] (#[Operand.tmp 2,.tmp 6].map a.eval):=⟨_,rfl⟩
  show wpOpsIn _ _ _ _ _ [1] (a.put (some 11) (.func (.func 88) #[] (#[Operand.tmp 2,.tmp 6].map a.eval))) w5
  rw [← hfv]
  have R1:=R.put 11 .junk fv (by decide) (.junk _) trivial
  obtain ⟨a1,ha1⟩:∃ a1,a.put (some 11) fv=a1:=⟨_,rfl⟩
  rw [ha1] at R1 ⊢
  have hfv2:fv = .func (.func 88) #[] #[a1.tmps.getD 2 undef,a1.tmps.getD 6 undef]:=by
   have e1:=put_get a 11 2 fv (by omega)
   have e4:=put_get a 11 6 fv (by omega)
   rw [if_neg (by decide),ha1] at e1 e4
   have e1':a1.tmps.getD 2 undef=a.eval (.tmp 2):=e1
   have e4':a1.tmps.getD 6 undef=a.eval (.tmp 6):=e4
   rw [e1',e4',hfv]
   simp only [List.map_toArray,List.map_cons,List.map_nil]
  have e10:a1.eval (.tmp 11)=fv:=by rw [← ha1,put_get _ _ _ _ (by omega),if_pos rfl]
  refine opIn_call rfl rfl (by rfl) (run_callF (k:=87) (args := #[.func (.func 88) #[] #[a1.tmps.getD 2 undef,a1.tmps.getD 6 undef]]) w5 rfl rfl ?_ (by kernel_rfl)) (hcalls w0 g _ _ a1 w5 hG0 R1 (by simp [upd,s2]) h2 (by simp [upd,s6]) h6) ?_
  ·simp only [List.map_toArray,List.map_cons,List.map_nil,e10,← hfv2]
  ·rintro en w6 ⟨rfl,c,g',S',H',ho',R2,hS',hH'⟩
   refine ⟨_,rfl,?_⟩
   have R3:=R2.put 12 (.int .i64 e) (.int .i64 e) (by decide) (.data _ _ (.int _ _)) trivial
   rw [put_twice] at R3
   refine ⟨g',_,H',R3,ho'.trans ho,?_,?_,?_,?_,upd_same _ _ _⟩
   ·show upd S' 12 _ 4=_
    rw [upd_ne _ _ (by decide),hS' 4 (by decide)];simp [upd,s4]
   ·rw [hH',upd_ne _ _ (by decide)];exact h4
   ·show upd S' 12 _ 6=_
    rw [upd_ne _ _ (by decide),hS' 6 (by decide)];simp [upd,s6]
   ·rw [hH'];exact upd_same _ _ _
 ·rintro o S5 H5 ⟨rfl,s4,h4,s6,h6,s12⟩
  refine ⟨fun _ h=>h,?_⟩
  simp [c35,ACode.fst,ACode.snd,ACode.dl,aops,awanted,astep,apure,ev,Eff.S,Eff.H,upd,putD,s4,h4,s6,h6,s12,AV.dem,tmpOf]
 ·rintro o S5 H5 ⟨rfl,s4,h4,s6,h6,s7⟩
  show SW prog GI 15 none (.seq _ .ret) _ _ _ _
  have hT:List.take 16 (l.map AV.dem)=l.map AV.dem:=List.take_of_length_le (by simp;omega)
  refine SW.cut hG hmix (by kernel_rfl) (ac:=ACode.fst (ACode.snd (ACode.snd (ACode.snd (ACode.snd c35))))) (by kernel_rfl) (fun _ _ h=>h) (fun S' H'=>S' 4 = .box 4 0∧H' 4=some (l.map AV.dem)∧S' 5 = .int .i64 e) ?_ ?_
  ·simp [c35,ACode.fst,ACode.snd,s4,h4,s6,h6,s7,hle,hT,zero16,dem_dem]
  rintro S6 H6 ⟨s4,h4,s5⟩
  obtain ⟨i100,hi100,hs100⟩:=info_size (P:=prog) (t:=100) (s:=16) (by kernel_rfl)
  obtain ⟨fs,hfs⟩:=under_struct (P:=prog) (t:=100) (by kernel_rfl)
  refine SW.ret ⟨Marked.plain rfl,rfl,_,?_,rfl⟩
  show ares prog 15 [.cell 4 100,.tmp 5] S6 H6=_
  simp [ares,aress,ares1,s4,h4,s5,hi100,hfs,hs100,loadA,aggT,hle,hT,dem_dem,AV.out,AV.isData]
  try rfl
end Go.Proofs.Tryz
namespace Go.Proofs.Tryz
open Go Go.AL Go.RowKit Go.Proofs
attribute [local simp] awp_all qs_all ops_all dops_all ops_nil dops_nil ops_call ops_callv ops_alloc ops_box dops_call dops_alloc kO_eq kD_eq awanted apure ev Eff.S Eff.H tmpOf upd putD AL.start AV.dem AV.cells AV.storable AV.scells splice scrub abin loadA HR.okB post ares aress ares1 AV.out AV.isData ints_len ints_get fz fz1 AV.vw AV.vw1 boxy vI int undefA assignQ thenQ blockQ seqQ panQ prol prolH allocOf
variable {GI:World→Prop}
def faultA (coat why:Int):AV := .iface 93 (.agg [.int .i64 coat,.int .i64 why])
def needS (s:CSheet) (k:Nat):Int:=(s.coats.getD k (0,0)).1
def peelS (s:CSheet) (k:Nat):Int:=(s.coats.getD k (0,0)).2
def standsO (s:CSheet) (k a b:Nat) (p:Bool):AOut :=
 if sumS (lowS s) a b < needS s k then .panic (faultA k 1) else if p && decide (peelS s k < sumS (highS s) a b) then .panic (faultA k 2) else .ret (.tup [])
theorem ac84 (hG:Stable GI) (s:CSheet) (hl:s.dry.length≤1000) (hb:dryOK s) {k a b:Nat} (p:Bool) (hk:k < s.coats.length) (ha:a≤s.dry.length) (hb':b≤s.dry.length):AC prog GI 84 [shopA s,.int .i64 (k:Nat),.int .i64 (a:Nat),.int .i64 (b:Nat),.bool p] (standsO s k a b p):=by
 have n1:¬ (k:Int) < 0:=by omega
 have en:needS s k=s.coats[k].1:=by simp [needS,hk]
 have ep:peelS s k=s.coats[k].2:=by simp [peelS,hk]
 refine AC.of_SW func84 rfl ntmps84 (by simp) fun cc w => ?_
 refine SW.cut hG hmix (by kernel_rfl) (ac:=ACode.fst c84) (by kernel_rfl) (fun _ _ h=>h) (fun S H=>S 1 = .int .i64 (k:Nat)∧S 2 = .int .i64 (a:Nat)∧S 3 = .int .i64 (b:Nat)∧S 4 = .bool p∧S 5 = .box 5 0∧H 5=some (shopL s)) ?_ ?_
 ·simp [c84,ACode.fst,shopA,shopL,cshL]
 rintro S1 H1 ⟨s1,s2,s3,s4,s5,h5⟩
 refine SW.cut hG hmix (by kernel_rfl) (ac:=ACode.fst (ACode.snd c84)) (by kernel_rfl) (fun _ _ h=>h) (fun S H=>S 1 = .int .i64 (k:Nat)∧S 4 = .bool p∧S 10 = .box 10 0∧H 10=some [.int .i64 (sumS (lowS s) a b),.int .i64 (sumS (highS s) a b)]∧S 11 = .box 11 0∧H 11=some [.int .i64 (needS s k),.int .i64 (peelS s k)]) ?_ ?_
 ·rw [en,ep]
  simp [c84,ACode.fst,ACode.snd,shopL,cshL,endsA,endA,hk,n1,s1,s2,s3,s4,s5,h5,dops,dstep,astep]
  refine ⟨_,by kernel_rfl,ac34 hG s hl hb ha hb',by simp [boxy],?_⟩
  simp [endA,hk,s1,s4]
 rintro S2 H2 ⟨s1,s4,s10,h10,s11,h11⟩
 refine SW.of_awp hG hmix (by kernel_rfl) (fun _ _ h=>h) (ac:=ACode.snd (ACode.snd c84)) (by kernel_rfl) ?_
 unfold standsO
 by_cases h1:sumS (lowS s) a b < needS s k
 ·rw [if_pos h1]
  simp [c84,ACode.snd,Post.awp,retS,s1,s4,s10,h10,s11,h11,h1,faultA,fillA,aops,astep]
  try exact ⟨rfl,rfl⟩
 rw [if_neg h1]
 cases p
 ·simp [c84,ACode.snd,Post.awp,retS,s1,s4,s10,h10,s11,h11,h1,faultA]
  exact ⟨Marked.plain rfl,rfl⟩
 ·by_cases h2:peelS s k < sumS (highS s) a b
  ·simp [c84,ACode.snd,Post.awp,retS,s1,s4,s10,h10,s11,h11,h1,h2,faultA,fillA,aops,astep]
   try exact ⟨rfl,rfl⟩
  ·simp [c84,ACode.snd,Post.awp,retS,s1,s4,s10,h10,s11,h11,h1,h2,faultA]
   exact ⟨Marked.plain rfl,rfl⟩
def faultV (c r:Int):Value := .iface 93 (.agg #[.int .i64 c,.int .i64 r])
theorem aggI2 {Pr:Nat→Nat→Prop} {al:Nat→Option Nat} {w:World} {x y:Int} {c:Value} (h:RV Pr al w (.agg [.int .i64 x,.int .i64 y]) c):c = .agg #[.int .i64 x,.int .i64 y]:=by
 cases h with
 |data _ _ h =>
  cases h with
  |agg cs vs hl hone hr =>
   have hs:vs.size=2:=by rw [← hl];rfl
   have h0:=(RV.data (al:=noneA) _ _ (hr 0 (by simp) (by omega))).int_eq
   have h1:=(RV.data (al:=noneA) _ _ (hr 1 (by simp) (by omega))).int_eq
   congr 1
   apply Array.ext
   ·simpa using hs
   ·intro i h2 h3
    match i,h3 with
    |0,_=>exact h0
    |1,_=>exact h1
set_option maxRecDepth 100000 in
theorem catch_fault {bA bE:Nat} {vs ve:Array Value} {ty te:TypeId} (w:World) (hA:w.heap[bA]? = some (.cells vs ty (0,0))) (hv:vs.size=2) (hE:w.heap[bE]? = some (.cells ve te (0,0))) (hve:ve.size=1) (hne:bA≠bE) (n r:Int) :
  CallsD prog 149 #[.pointer (some ⟨bA,0,none⟩),.pointer (some ⟨bE,0,none⟩)] (.panicking [{ v:=faultV n r,recovered:=false }]) w fun e u' w' =>
   e = .returned (.tuple #[])∧u' = .panicking [{ v:=faultV n r,recovered:=true }]∧∃ w1,Below w.heap.size w w1∧w'=(w1.setRow bA #[.int .i64 n,.int .i64 r]).setRow bE #[.int .i64 7]:=by
 refine callsD_of_wpS func149 rfl fun c₀ cs hu => ?_
 apply wpS_seq
 apply wpS_region
 simp [wpOpsS,go_sem,recoverD,hu,ntmps149,Exit.thenS]
 refine wpS_of_wp ?_
 refine (wpIn_FR_none (m:=0)).1 ?_
 refine anyAct (fun a=>a.tmps.size=16∧a.defers=[]∧a.tmps.getD 0 undef = .pointer (some ⟨bA,0,none⟩)∧a.tmps.getD 1 undef = .pointer (some ⟨bE,0,none⟩)∧a.tmps.getD 6 undef=faultV n r) ⟨by simp,rfl,by simp,by simp,by simp⟩ ?_
 rintro a ⟨hsz,hds,h0,h1,h6⟩
 have hltA:=(Array.getElem?_eq_some_iff.1 hA).1
 have hltE:=(Array.getElem?_eq_some_iff.1 hE).1
 refine wpIn_block (wpIn_seq (wpIn_region ?_))
 show wpOpsIn _ _ _ _ _ [0] a w
 refine opIn_val rfl rfl (by rfl) (run_eqNil (x := .tmp 6) w rfl h6) ?_
 show Code.wpIn _ _ _ _ _ (a.put (some 8) (.bool false)) w
 have h8:(a.put (some 8) (.bool false)).tmps.getD 8 undef = .bool false:=by simp [Act.put,hsz]
 refine wpIn_cond (t:=false) h8 ?_
 simp only [Bool.false_eq_true,if_false]
 refine anyAct (fun a=>a.tmps.size=16∧a.defers=[]∧a.tmps.getD 0 undef = .pointer (some ⟨bA,0,none⟩)∧a.tmps.getD 1 undef = .pointer (some ⟨bE,0,none⟩)∧a.tmps.getD 6 undef=faultV n r) ⟨by simp [Act.put,hsz],hds,by simpa [Act.put,Array.getElem?_setIfInBounds_ne] using h0,by simpa [Act.put,Array.getElem?_setIfInBounds_ne] using h1,by simpa [Act.put,Array.getElem?_setIfInBounds_ne] using h6⟩ ?_
 clear h8 h6 h1 h0 hds hsz a
 rintro a ⟨hsz,hds,h0,h1,h6⟩
 have hS:∀ t,t < 16→((fun t=>if t=6 then faultA n r else AV.junk:Slots) t).dem=(fun t=>if t=6 then faultA n r else AV.junk:Slots) t ∧
   RV (fun _ _=>True) noneA w ((fun t=>if t=6 then faultA n r else AV.junk:Slots) t) (a.tmps.getD t undef):=by
  intro t ht
  by_cases h:t=6
  ·subst h
   rw [h6]
   refine ⟨rfl,.data _ _ (.iface _ _ _ (.agg _ _ rfl (fun i hi => ?_) (fun i hi hi' => ?_)))⟩
   ·match i,hi with
    |0,_ | 1,_=>rfl
   ·match i,hi with
    |0,_ | 1,_=>exact .int _ _
  ·simp only [h,if_false];exact ⟨rfl,.junk _⟩
 refine wpIn_seq ?_
 refine region_anew (GI:=fun _=>True) (fun _ _ _ _=>trivial) hmix (ac:=ACode.fst (ACode.snd (ACode.snd (ACode.snd (ACode.snd c149))))) (W:=fun t=>decide (9≤t)) (by kernel_rfl) (by kernel_rfl) (by kernel_rfl) trivial (fun _ _=>True) _ hsz hds hS (K:=fun S' _=>S' 10 = .bool true∧S' 11 = .agg [.int .i64 n,.int .i64 r]) ?_ ?_
 ·simp [c149,ACode.fst,ACode.snd,awp,aops,awanted,astep,apure,assignQ,Eff.S,Eff.H,ev,upd,putD,AV.dem,faultA]
 rintro g S' H' a' w' hg R1 ⟨h10,h11⟩ hsame
 have t10:=R1.slot 10 (by decide) (fun h=>h)
 rw [h10] at t10
 have t10:=t10.bool_eq
 show Code.wpIn _ _ _ _ _ a' w'
 refine wpIn_cond (t:=true) t10 ?_
 simp only [if_true]
 refine wpIn_seq ?_
 refine region_step R1 (GI:=fun _=>True) (fun _ _ _ _=>trivial) trivial hmix (ac:=ACode.fst (ACode.fst (ACode.snd (ACode.snd (ACode.snd (ACode.snd (ACode.snd c149))))))) (W:=fun t=>decide (2≤t)) (by kernel_rfl) (by kernel_rfl) (by kernel_rfl) (by rw [hg];exact fun _ h=>h) (K:=fun S H=>S 3 = .box 3 0∧H 3=some [.int .i64 n,.int .i64 r]) ?_ ?_
 ·simp [c149,ACode.fst,ACode.snd,awp,aops,awanted,astep,apure,assignQ,Eff.S,Eff.H,ev,upd,putD,AV.dem,h11,scrub,HR.okB,AV.cells,AV.storable,splice,AV.scells,tmpOf]
 rintro g2 S2 H2 a2 w2 hg2 R2 ⟨s3,k3⟩ hsame2
 show Code.wpIn _ _ _ _ _ a2 w2
 refine front_step R2 (GI:=fun _=>True) (fun _ _ _ _=>trivial) trivial (p:=1) (l2:=[1,2]) rfl (by kernel_rfl) (by kernel_rfl) (l:=(ACode.dl (ACode.snd (ACode.fst (ACode.snd (ACode.snd (ACode.snd (ACode.snd (ACode.snd c149)))))))).take 1) (by kernel_rfl) (by decide) (W:=fun t=>decide (2≤t)) (by kernel_rfl) (by rw [hg2,hg];exact fun _ h=>h) (K:=fun S H=>S 12 = .agg [.int .i64 n,.int .i64 r]) ?_ ?_
 ·simp [c149,ACode.fst,ACode.snd,ACode.dl,aops,awanted,astep,apure,Eff.S,Eff.H,ev,upd,putD,s3,k3,loadA,AV.dem,HR.okB]
 rintro g3 S3 H3 a3 w3 hg3 R3 h12 hsame3
 have b3:Below w.heap.size w w3:=by have:=R3.below;rwa [R3.base] at this
 have e12:=R3.slot 12 (by decide) id
 rw [h12] at e12
 have e12:=aggI2 e12
 have e0:a3.tmps.getD 0 undef = .pointer (some ⟨bA,0,none⟩):=(hsame3 0 rfl).trans ((hsame2 0 rfl).trans ((hsame 0 rfl).trans h0))
 have e1:a3.tmps.getD 1 undef = .pointer (some ⟨bE,0,none⟩):=(hsame3 1 rfl).trans ((hsame2 1 rfl).trans ((hsame 1 rfl).trans h1))
 have hA3:w3.heap[bA]? = some (.cells vs ty (0,0)):=(b3.block bA hltA).trans hA
 have hE3:w3.heap[bE]? = some (.cells ve te (0,0)):=(b3.block bE hltE).trans hE
 obtain ⟨i93,hi93,hs93⟩:=info_size (P:=prog) (t:=93) (s:=2) (by kernel_rfl)
 obtain ⟨i43,hi43,hs43⟩:=info_size (P:=prog) (t:=43) (s:=1) (by kernel_rfl)
 refine opIn_skip rfl rfl (by rfl) (run_storeAll (t:=93) (x := .tmp 0) (y := .tmp 12) rfl e0 hi93 hA3 e12 (by rw [hs93];rfl) (by rw [hs93];exact hv) (by intro u hu;simp [Value.cells] at hu;rcases hu with rfl | rfl<;>rfl)) ?_
 show wpOpsIn _ _ _ _ _ [2] a3 (w3.setRow bA #[.int .i64 n,.int .i64 r])
 have hE4:(w3.setRow bA #[.int .i64 n,.int .i64 r]).heap[bE]? = some (.cells ve te (0,0)):=(setRow_other w3 bA bE _ (Ne.symm hne)).trans hE3
 refine opIn_skip rfl rfl (by rfl) (run_storeAll (t:=43) (x := .tmp 1) (y := .const (.int .i64 7)) (c := .int .i64 7) rfl e1 hi43 hE4 rfl (by rw [hs43];rfl) (by rw [hs43];exact hve) (by intro u hu;simp [Value.cells] at hu;subst hu;rfl)) ?_
 refine ⟨by show a3.defers=[];rw [R3.defers,hg3,hg2,hg];rfl,_,rfl,.tuple #[],?_,rfl,rfl,w3,b3,rfl⟩
 simp [results,results149]
theorem catch_idleC (p q:Addr) (w:World) :
  CallsD prog 149 #[.pointer (some p),.pointer (some q)] .returning w fun e u' w'=>e = .returned (.tuple #[])∧u' = .returning∧w'=w:=by
 refine callsD_of_wpS func149 rfl fun c₀ cs hu => ?_
 apply wpS_seq
 apply wpS_region
 simp [wpOpsS,go_sem,recoverD,hu,ntmps149,Exit.thenS]
 refine wpS_of_wp ?_
 go_wp2
 cases c₀
 simp_all [bodyPostS,results,results149]
theorem res82 {tmps:Array Value} {w:World} {bA bE:Nat} {u v e:Value} {ty te:TypeId} (h2:tmps.getD 2 undef = .pointer (some ⟨bA,0,none⟩)) (h3:tmps.getD 3 undef = .pointer (some ⟨bE,0,none⟩)) (hA:w.heap[bA]? = some (.cells #[u,v] ty (0,0))) (hE:w.heap[bE]? = some (.cells #[e] te (0,0))) :
  (results f82 tmps).run prog w = .ok (.tuple #[.agg #[u,v],e]) w:=by
 obtain ⟨i93,hi93,hs93⟩:=info_size (P:=prog) (t:=93) (s:=2) (by kernel_rfl)
 obtain ⟨fs,hfs⟩:=under_struct (P:=prog) (t:=93) (by kernel_rfl)
 obtain ⟨d43,hd43,hd43'⟩:=under_agg (P:=prog) (t:=43) (by kernel_rfl)
 have hr:f82.results = #[.cell 2 93,.cell 3 43]:=rfl
 have h2':tmps[2]?.getD undef = .pointer (some ⟨bA,0,none⟩):=by rw [← h2];simp
 have h3':tmps[3]?.getD undef = .pointer (some ⟨bE,0,none⟩):=by rw [← h3];simp
 have g1:(isAgg 93).run prog w = .ok true w:=by
  unfold isAgg
  rw [Sem.run_bind,run_underlying hfs w]
  rfl
 have g2:(isAgg 43).run prog w = .ok false w:=by
  unfold isAgg
  rw [Sem.run_bind,run_underlying hd43 w]
  cases d43<;>simp_all [aggT]
 have c0:w.cell? ⟨bA,0,none⟩=some u:=by simp [World.cell?,hA]
 have c1:w.cell? ⟨bA,1,none⟩=some v:=by simp [World.cell?,hA]
 have l1:(loadVar 93 ⟨bA,0,none⟩).run prog w = .ok (.agg #[u,v]) w:=by
  simp [loadVar,Sem.run_bind,g1,sizeOf,typeInfo,hi93,hs93,loadCells,loadCellsFrom,run_load,Addr.add_lit,c0,c1]
 have l2:(loadVar 43 ⟨bE,0,none⟩).run prog w = .ok e w:=by
  simp [loadVar,Sem.run_bind,g2,World.cell?,hE]
 simp [results,hr,h2',h3',asAddr,l1,l2]
theorem run_build0 {P:Program} {a:Act} {o:Oper} {t:TypeId} {cells:Array Value} (w:World) (ho:o.op = .build t #[]) (hb:P.built t []=some cells):(execOp a.eval o).run P w = .ok (.value (.agg cells)) w:=by
 have h:=run_build (P:=P) w t #[] cells hb
 unfold execOp
 simp only [ho,Sem.run_bind,List.map_toArray,List.map_nil,h,Result.andThen_ok]
 rfl
theorem built93:prog.built 93 []=some #[.int .i64 0,.int .i64 0]:=by kernel_rfl
def zF:Value := .agg #[.int .i64 0,.int .i64 0]
def attO (c r e:Int):AV := .tup [.agg [.int .i64 c,.int .i64 r],.int .i64 e]
set_option maxRecDepth 100000 in
theorem ac82 (hG:Stable GI) {k:Nat} {caps:List AV} {out:AOut} {c r e:Int} (hcb:callable prog k=true) (hAC:AC prog GI k caps out)
  (hout:(∃ v,out = .ret v∧c=0∧r=0∧e=0)∨(out = .panic (faultA c r)∧e=7)) :
  AC prog GI 82 [.func (.func k) [] caps] (.ret (attO c r e)):=by
 intro w old cargs hGw hlen hr
 obtain ⟨fv,rfl⟩:∃ fv,cargs = #[fv]:=arr_one (by simpa using hlen.symm)
 have h0:=hr 0 (by simp) (by simp)
 simp only [List.getElem_cons_zero,List.getElem_toArray] at h0
 obtain ⟨us,rfl,hl,hrr⟩:∃ us:Array Value,fv = .func (.func k) #[] us∧caps.length=us.size∧∀ i (h:i < caps.length) (h':i < us.size),RV old (fun _=>none) w caps[i] us[i]:=by
  cases h0 with
  |data _ _ h=>cases h
  |func _ _ _ vs us h1 h2 r1 r2 =>
   have:vs = #[]:=Array.eq_empty_of_size_eq_zero (by simpa using h1.symm)
   subst this
   exact ⟨us,rfl,h2,r2⟩
 clear h0 hr
 refine calls_of_wp_defers func82 rfl ?_
 refine (wpIn_FR_none (m:=0)).1 ?_
 refine anyAct (fun a=>a.tmps.size=8∧a.defers=[]∧a.tmps.getD 0 undef = .func (.func k) #[] us) ⟨by simp [ntmps82],rfl,args_get _ _ 0 (by simp)⟩ ?_
 rintro a ⟨hsz,hds,h0⟩
 have hgp:∀ (a:Act) (d t:Nat) (c:Value),t≠d→(a.put (some d) c).tmps.getD t undef=a.tmps.getD t undef:=fun a d t c h=>by
  simp [Act.put,Array.getElem?_setIfInBounds_ne (Ne.symm h)]
 have hgs:∀ (a:Act) (d:Nat) (c:Value),a.tmps.size=8→d < 8→(a.put (some d) c).tmps.getD d undef=c:=fun a d c h hd=>by
  simp [Act.put,h,hd]
 have hps:∀ (a:Act) (d:Option Nat) (c:Value),(a.put d c).tmps.size=a.tmps.size:=fun a d c=>by cases d<;>simp [Act.put]
 obtain ⟨bA,hbA⟩:∃ b,w.heap.size=b:=⟨_,rfl⟩
 refine wpIn_seq (wpIn_region ?_)
 show wpOpsIn _ _ _ _ _ [0,1] a w
 obtain ⟨it,hit,hz⟩:=Option.bind_eq_some_iff.1 (show (prog.info? 93).bind (·.zero)=some zF by kernel_rfl)
 have his:it.size=2:=by
  have:(prog.info? 93).map (·.size)=some 2:=by kernel_rfl
  rw [hit] at this
  exact Option.some.inj this
 refine opIn_val rfl rfl (by rfl) (run_allocZ (t:=93) rfl hit hz) ?_
 show wpOpsIn _ _ _ _ _ [1] (a.put (some 2) (.pointer (some ⟨w.heap.size,0,none⟩))) (w.alloc (.cells #[.int .i64 0,.int .i64 0] 93))
 rw [hbA]
 obtain ⟨w0,hw0⟩:∃ w0,w.alloc (.cells #[.int .i64 0,.int .i64 0] 93)=w0:=⟨_,rfl⟩
 have s0:w0.heap.size=bA+1:=by rw [← hw0];simp [hbA]
 have b0:Below w.heap.size w w0:=by rw [← hw0];exact (Below.refl _ _).alloc (Nat.le_refl _) _
 have n0:w0.heap[bA]? = some (.cells #[.int .i64 0,.int .i64 0] 93 (0,0)):=by rw [← hw0,← hbA];exact World.alloc_heap_new w _
 rw [hw0]
 refine opIn_val rfl rfl (by rfl) (run_alloc1 (t:=43) (z := .int .i64 0) rfl (by kernel_rfl)) ?_
 show Code.wpIn _ _ _ _ _ ((a.put (some 2) (.pointer (some ⟨bA,0,none⟩))).put (some 3) (.pointer (some ⟨w0.heap.size,0,none⟩))) (w0.alloc (.cells #[.int .i64 0] 43))
 rw [s0]
 obtain ⟨w1,hw1⟩:∃ w1,w0.alloc (.cells #[.int .i64 0] 43)=w1:=⟨_,rfl⟩
 have s1:w1.heap.size=bA+2:=by rw [← hw1];simp [s0]
 have b1:Below w0.heap.size w0 w1:=by rw [← hw1];exact (Below.refl _ _).alloc (Nat.le_refl _) _
 have hb1:Below w.heap.size w w1:=b0.trans (b1.mono (by omega))
 have nA:w1.heap[bA]? = some (.cells #[.int .i64 0,.int .i64 0] 93 (0,0)):=(b1.block bA (by omega)).trans n0
 have nE:w1.heap[bA+1]? = some (.cells #[.int .i64 0] 43 (0,0)):=by rw [← hw1,← s0];exact World.alloc_heap_new w0 _
 rw [hw1]
 refine anyAct (fun a=>a.tmps.size=8∧a.defers=[]∧a.tmps.getD 0 undef = .func (.func k) #[] us∧a.tmps.getD 2 undef = .pointer (some ⟨bA,0,none⟩)∧a.tmps.getD 3 undef = .pointer (some ⟨bA+1,0,none⟩))
  ⟨by rw [hps,hps];exact hsz,hds,by rw [hgp _ _ _ _ (by decide),hgp _ _ _ _ (by decide)];exact h0,by rw [hgp _ _ _ _ (by decide)];exact hgs _ _ _ hsz (by decide),hgs _ _ _ (by rw [hps];exact hsz) (by decide)⟩ ?_
 clear h0 hds hsz a
 rintro a ⟨hsz,hds,h0,h2,h3⟩
 refine wpIn_seq (wpIn_region ?_)
 show wpOpsIn _ _ _ _ _ [0,1] a w1
 refine opIn_val rfl rfl (by rfl) (run_mkf (fn := .func 149) (c := #[.tmp 2,.tmp 3]) rfl) ?_
 have hcap:(#[Operand.tmp 2,Operand.tmp 3].map a.eval) = #[.pointer (some ⟨bA,0,none⟩),.pointer (some ⟨bA+1,0,none⟩)]:=by
  simp only [List.map_toArray,List.map_cons,List.map_nil,Act.eval]
  rw [h2,h3]
 rw [hcap]
 obtain ⟨dv,hdv⟩:∃ dv:Array Value,dv = #[.pointer (some ⟨bA,0,none⟩),.pointer (some ⟨bA+1,0,none⟩)]:=⟨_,rfl⟩
 rw [← hdv]
 show wpOpsIn _ _ _ _ _ [1] (a.put (some 4) (.func (.func 149) #[] dv)) w1
 obtain ⟨a2,ha2⟩:∃ a2,a.put (some 4) (.func (.func 149) #[] dv)=a2:=⟨_,rfl⟩
 rw [ha2]
 have z2:a2.tmps.size=8:=by rw [← ha2,hps];exact hsz
 have u4:a2.tmps.getD 4 undef = .func (.func 149) #[] dv:=by rw [← ha2];exact hgs _ _ _ hsz (by decide)
 have u0:a2.tmps.getD 0 undef = .func (.func k) #[] us:=by rw [← ha2,hgp _ _ _ _ (by decide)];exact h0
 have u2:a2.tmps.getD 2 undef = .pointer (some ⟨bA,0,none⟩):=by rw [← ha2,hgp _ _ _ _ (by decide)];exact h2
 have u3:a2.tmps.getD 3 undef = .pointer (some ⟨bA+1,0,none⟩):=by rw [← ha2,hgp _ _ _ _ (by decide)];exact h3
 have ud:a2.defers=[]:=by rw [← ha2];exact hds
 refine opIn_defer rfl rfl (d:={ target := .fn (.func 149) dv,args := #[] }) (w':=w1) ?_ ?_
 ·unfold execOp
  simp [run_resolve_func,Deferred.ofValue,Act.eval,u4]
 have hlv:∀ (w:World),(invoke (.fn (.func 149) dv) #[]).run prog w = .ok (.enter 149 dv) w:=fun w=>by
  simp [invoke,run_callFunc (P:=prog) (f:=149) (by kernel_rfl)]
 show Code.wpIn _ _ _ _ _ { a2 with defers:={ target := .fn (.func 149) dv,args := #[] }::a2.defers } w1
 refine anyAct (fun a=>a.tmps.size=8∧a.defers=[{ target := .fn (.func 149) dv,args := #[] }]∧a.tmps.getD 0 undef = .func (.func k) #[] us∧a.tmps.getD 2 undef = .pointer (some ⟨bA,0,none⟩)∧a.tmps.getD 3 undef = .pointer (some ⟨bA+1,0,none⟩)) ⟨z2,by show _::a2.defers=_;rw [ud],u0,u2,u3⟩ ?_
 clear u0 u2 u3 u4 ud z2 ha2 a2 h0 h2 h3 hds hsz hcap a
 rintro a ⟨hsz,hds,h0,h2,h3⟩
 refine wpIn_seq (wpIn_region ?_)
 show wpOpsIn _ _ _ _ _ [0,1] a w1
 refine opIn_val rfl rfl (by rfl) (run_move (x := .tmp 0) w1 rfl) ?_
 have e0:a.eval (.tmp 0) = .func (.func k) #[] us:=h0
 rw [e0]
 show wpOpsIn _ _ _ _ _ [1] (a.put (some 5) (.func (.func k) #[] us)) w1
 obtain ⟨a2,ha2⟩:∃ a2,a.put (some 5) (.func (.func k) #[] us)=a2:=⟨_,rfl⟩
 rw [ha2]
 have z2:a2.tmps.size=8:=by rw [← ha2,hps];exact hsz
 have u5:a2.eval (.tmp 5) = .func (.func k) #[] us:=by show a2.tmps.getD 5 undef=_;rw [← ha2];exact hgs _ _ _ hsz (by decide)
 have u2:a2.tmps.getD 2 undef = .pointer (some ⟨bA,0,none⟩):=by rw [← ha2,hgp _ _ _ _ (by decide)];exact h2
 have u3:a2.tmps.getD 3 undef = .pointer (some ⟨bA+1,0,none⟩):=by rw [← ha2,hgp _ _ _ _ (by decide)];exact h3
 have ud:a2.defers=[{ target := .fn (.func 149) dv,args := #[] }]:=by rw [← ha2];exact hds
 have hk1:Keeps old old w w1:=Keeps.of_blocks (fun b h=>hb1.block b h) fun _ _ _ h=>h
 refine opIn_callE rfl rfl (by rfl) (run_callv0 (f := .tmp 5) w1 rfl rfl rfl u5 hcb) (hAC w1 old us (hG _ _ hGw hb1) hl (fun i h h'=>(hrr i h h').mono hk1 fun _ _ h=>h)) ?_
 rintro en w2 ⟨hb2,hi,hfr,hcase⟩
 have nA2:w2.heap[bA]? = some (.cells #[.int .i64 0,.int .i64 0] 93 (0,0)):=(hb2.block bA (by omega)).trans nA
 have nE2:w2.heap[bA+1]? = some (.cells #[.int .i64 0] 43 (0,0)):=(hb2.block (bA+1) (by omega)).trans nE
 have dmono:∀ {args:Array Value} {u:FrameMode} {w:World} {R R':Ending→FrameMode→World→Prop},CallsD prog 149 args u w R→(∀ e u w,R e u w→R' e u w)→CallsD prog 149 args u w R':=fun h hr c cs hu =>
  let ⟨e,u',w',fr,r,rest⟩:=h c cs hu;⟨e,u',w',fr,hr _ _ _ r,rest⟩
 have fin:∀ (w3:World) (c r e:Int),Below w2.heap.size w2 w3→AL.Ends prog old w (.ret (attO c r e)) (.returned (.tuple #[.agg #[.int .i64 c,.int .i64 r],.int .i64 e])) ((w3.setRow bA #[.int .i64 c,.int .i64 r]).setRow (bA+1) #[.int .i64 e]):=by
  intro w3 c r e hb3
  have hbl:Below w.heap.size w w3:=by
   have h1:=hb1.trans (hb2.mono (by omega))
   exact h1.trans (hb3.mono (by have:=hb2.size;omega))
  refine ⟨⟨hbl.os,hbl.tape,hbl.output,by simpa using hbl.size,fun b hb=>((setRow_other _ _ b _ (by omega)).trans (setRow_other w3 _ b _ (by omega))).trans (hbl.block b hb)⟩,fun _=>0,fun _ _=>rfl,_,rfl,?_,trivial⟩
  refine .data _ _ (.tup _ _ rfl (fun i hi hi' => ?_))
  ·match i,hi with
   |0,_ =>
    refine .agg _ _ rfl (fun i hi => ?_) (fun i hi hi' => ?_)
    ·match i,hi with
     |0,_ | 1,_=>rfl
    ·match i,hi with
     |0,_ | 1,_=>exact .int _ _
   |1,_=>exact .int _ _
 obtain ⟨i93,hi93,hs93⟩:=info_size (P:=prog) (t:=93) (s:=2) (by kernel_rfl)
 obtain ⟨i43,hi43,hs43⟩:=info_size (P:=prog) (t:=43) (s:=1) (by kernel_rfl)
 rcases hout with ⟨v,rfl,rfl,rfl,rfl⟩ | ⟨rfl,rfl⟩
 ·obtain ⟨cv,rfl,_,_⟩:=hcase
  show Code.wpIn _ _ _ _ _ (a2.put (some 6) cv) w2
  refine anyAct (fun a=>a.tmps.size=8∧a.defers=[{ target := .fn (.func 149) dv,args := #[] }]∧a.tmps.getD 2 undef = .pointer (some ⟨bA,0,none⟩)∧a.tmps.getD 3 undef = .pointer (some ⟨bA+1,0,none⟩)) ⟨by rw [hps];exact z2,ud,by rw [hgp _ _ _ _ (by decide)];exact u2,by rw [hgp _ _ _ _ (by decide)];exact u3⟩ ?_
  rintro a3 ⟨z3,d3,v2,v3⟩
  refine wpIn_seq (wpIn_region ?_)
  show wpOpsIn _ _ _ _ _ [0,1,2] a3 w2
  refine opIn_val rfl rfl (by rfl) (run_build0 (t:=93) w2 rfl built93) ?_
  obtain ⟨a4,ha4⟩:∃ a4,a3.put (some 7) (.agg #[.int .i64 0,.int .i64 0])=a4:=⟨_,rfl⟩
  show wpOpsIn _ _ _ _ _ [1,2] (a3.put (some 7) (.agg #[.int .i64 0,.int .i64 0])) w2
  rw [ha4]
  have y7:a4.tmps.getD 7 undef = .agg #[.int .i64 0,.int .i64 0]:=by rw [← ha4];exact hgs _ _ _ z3 (by decide)
  have y2:a4.tmps.getD 2 undef = .pointer (some ⟨bA,0,none⟩):=by rw [← ha4,hgp _ _ _ _ (by decide)];exact v2
  have y3:a4.tmps.getD 3 undef = .pointer (some ⟨bA+1,0,none⟩):=by rw [← ha4,hgp _ _ _ _ (by decide)];exact v3
  have yd:a4.defers=[{ target := .fn (.func 149) dv,args := #[] }]:=by rw [← ha4];exact d3
  refine opIn_skip rfl rfl (by rfl) (run_storeAll (t:=93) (x := .tmp 2) (y := .tmp 7) rfl y2 hi93 nA2 y7 (by rw [hs93];rfl) (by rw [hs93];rfl) (by intro u hu;simp [Value.cells] at hu;subst hu;rfl)) ?_
  show wpOpsIn _ _ _ _ _ [2] a4 (w2.setRow bA #[.int .i64 0,.int .i64 0])
  have nE3:(w2.setRow bA #[.int .i64 0,.int .i64 0]).heap[bA+1]? = some (.cells #[.int .i64 0] 43 (0,0)):=(setRow_other w2 bA (bA+1) _ (by omega)).trans nE2
  refine opIn_skip rfl rfl (by rfl) (run_storeAll (t:=43) (x := .tmp 3) (y := .const (.int .i64 0)) (c := .int .i64 0) rfl y3 hi43 nE3 rfl (by rw [hs43];rfl) (by rw [hs43];rfl) (by intro u hu;simp [Value.cells] at hu;subst hu;rfl)) ?_
  show Code.wpIn _ _ _ _ _ a4 ((w2.setRow bA #[.int .i64 0,.int .i64 0]).setRow (bA+1) #[.int .i64 0])
  refine wpIn_ret ?_
  show Leaves prog f82 a4.tmps _ a4.defers .returning _
  rw [yd]
  refine leaves_cons (by simp) (hlv _) (dmono (by rw [hdv];exact catch_idleC _ _ _) ?_)
  rintro e u' w' ⟨rfl,rfl,rfl⟩
  exact ⟨_,res82 y2 y3 ((setRow_other _ (bA+1) bA _ (by omega)).trans (setRow_heap w2 bA _ _ _ _ nA2)) (setRow_heap _ (bA+1) _ _ _ _ nE3),fin w2 0 0 0 (Below.refl _ _)⟩
 ·obtain ⟨cv,rfl,hc⟩:=hcase
  obtain rfl:cv=faultV c r:=by
   cases hc with
   |iface _ _ c h=>rw [aggI2 (.data (al:=noneA) _ _ h)];rfl
  show Leaves prog f82 a2.tmps _ a2.defers (.panicking [{ v:=faultV c r,recovered:=false }]) w2
  rw [ud]
  refine leaves_cons (by simp) (hlv w2) (dmono (by rw [hdv];exact catch_fault w2 nA2 rfl nE2 rfl (by omega) c r) ?_)
  rintro e u' w' ⟨rfl,rfl,w3,hb3,rfl⟩
  have nA3:w3.heap[bA]? = some (.cells #[.int .i64 0,.int .i64 0] 93 (0,0)):=(hb3.block bA (by have:=hb2.size;omega)).trans nA2
  have nE3:w3.heap[bA+1]? = some (.cells #[.int .i64 0] 43 (0,0)):=(hb3.block (bA+1) (by have:=hb2.size;omega)).trans nE2
  show Leaves prog f82 a2.tmps _ [] .returning _
  exact ⟨_,res82 u2 u3 ((setRow_other _ (bA+1) bA _ (by omega)).trans (setRow_heap w3 bA _ _ _ _ nA3)) (setRow_heap _ (bA+1) _ _ _ _ ((setRow_other w3 bA (bA+1) _ (by omega)).trans nE3)),fin w3 c r 7 hb3⟩
end Go.Proofs.Tryz
namespace Go.AL
section
variable {P:Program} {a:Act} {w:World} {m:Nat} {Q:Exit→Act→World→Prop}
theorem opIn_roundG {ops:Array Oper} {i:Nat} {rest:List Nat} {o:Oper} (ho:ops[i]? = some o) (hw:Region.wanted o (yielded ops a.tmps)=true) (hnd:calmOp o.op=true) {l f:Nat} {tmps:Array Value} {asg bd:Code} {w':World}
  (hr:(execOp a.eval o).run P w = .ok (.round l f tmps asg bd) w') {R:Ending→World→Prop} (hc:∀ m,RoundIn (FR none) m P l f tmps asg bd w' R) (hk:∀ e w'',R e w''→∃ v,e = .returned v∧wpOpsIn (FR none) m P ops Q rest (a.put o.dst v) w''):wpOpsIn (FR none) m P ops Q (i::rest) a w:=by
 simp only [wpOpsIn,ho]
 rw [if_pos hw]
 refine ⟨fun _ _=>trivial,?_⟩
 rw [Oper.semAt_eq _ _ _ (fun c hc=>by rw [hc] at hnd;cases hnd),hr]
 refine ⟨fun h=>by simp [FR,Fence.wide] at h,(hc (m - 1)).mono fun e w'' hh => ?_⟩
 obtain ⟨v,rfl,h⟩:=hk e w'' hh
 exact h
theorem run_not1 {o:Oper} {t:TypeId} {x:Operand} {b:Bool} (ho:o.op = .unOp .not t x) (hx:a.eval x = .bool b):(execOp a.eval o).run P w = .ok (.value (.bool !b)) w:=by
 unfold execOp
 simp [ho,hx,Op.unary]
end
end Go.AL
namespace Go.Proofs.Tryz
open Go Go.AL Go.RowKit Go.Proofs Go.Proofs.Tram
attribute [local simp] awp_all qs_all ops_all dops_all ops_nil dops_nil ops_call ops_callv ops_alloc ops_box dops_call dops_alloc kO_eq kD_eq awanted apure ev Eff.S Eff.H tmpOf upd putD AL.start AV.dem AV.cells AV.storable AV.scells splice scrub abin loadA HR.okB post ares aress ares1 AV.out AV.isData ints_len ints_get fz fz1 AV.vw AV.vw1 boxy vI int undefA assignQ thenQ blockQ seqQ panQ prol prolH allocOf
variable {GI:World→Prop}
def hidT (s:TSheet) (i:Nat):Bool:=match s.cells[i]? with | some c=>c.hid | none=>false
def lowT (s:TSheet):Nat:=(s.pos - s.reach).toNat
def seenT (s:TSheet) (i:Nat):Bool:=decide (lowT s≤i) && (decide (i < s.pos.toNat) && !hidT s i)
def mapT (s:TSheet) (i:Nat):List (Int×Value):=(List.range' (lowT s) (i - lowT s)).map fun j:Nat=>((j:Int),Value.bool (!hidT s j))
def viewsT (s:TSheet):List End:=(viewsP (seenT s) s.cells.length).map fun v=>((v.1:Int),(v.2:Int))
theorem mapT_new (s:TSheet) {i:Nat}:lookK (i:Int) (mapT s i) 0=none:=lookK_none fun x hx=>by
 obtain ⟨j,hj,rfl⟩:=List.mem_map.1 hx
 have:=List.mem_range'_1.1 hj
 simp only
 omega
theorem mapT_succ (s:TSheet) {i:Nat} (h:lowT s≤i):mapT s (i+1)=mapT s i++[((i:Int),Value.bool (!hidT s i))]:=by
 unfold mapT
 have e:lowT s+1 * (i - lowT s)=i:=by omega
 rw [show i+1 - lowT s=(i - lowT s)+1 by omega,List.range'_concat,List.map_append,e]
 rfl
theorem lookK_range (f:Nat→Bool) (i:Nat):∀ (n a k:Nat),((lookK (i:Int) ((List.range' a n).map fun j:Nat=>((j:Int),Value.bool (f j))) k).map (·.2)).getD (.bool false) = .bool (decide (a≤i) && (decide (i < a+n) && f i))
 |0,a,k=>by
  have:¬ (a≤i∧i < a+0):=by omega
  simp [lookK]
  intro h1 h2;omega
 |n+1,a,k=>by
  rw [List.range'_succ,List.map_cons]
  unfold lookK
  by_cases h:i=a
  ·subst h
   simp
  ·have hb:((i:Int)==(a:Int))=false:=by simp;omega
   rw [hb]
   simp only [Bool.false_eq_true,if_false]
   rw [lookK_range f i n (a+1) (k+1)]
   congr 1
   rw [Bool.eq_iff_iff]
   simp
   constructor
   ·rintro ⟨h1,h2,h3⟩;exact ⟨by omega,by omega,h3⟩
   ·rintro ⟨h1,h2,h3⟩;exact ⟨by omega,by omega,h3⟩
theorem look_seen (s:TSheet) (hp:lowT s≤s.pos.toNat) (i:Nat):((lookK (i:Int) (mapT s s.pos.toNat) 0).map (·.2)).getD (.bool false) = .bool (seenT s i):=by
 unfold mapT
 rw [lookK_range (fun j => !hidT s j)]
 congr 1
 unfold seenT
 rw [show lowT s+(s.pos.toNat - lowT s)=s.pos.toNat by omega]
def mapVT (b:Nat):Value := .map (some b)
theorem look_mem {α β:Type} [BEq α] [LawfulBEq α] {t:α} {v:β}:∀ {l:List (α×β)},l.lookup t=some v→(t,v)∈l
 |[],h=>by cases h
 |(a,b)::l,h=>by
  rw [List.lookup_cons] at h
  by_cases ht:(t==a)=true
  ·rw [ht] at h
   have:=eq_of_beq ht
   cases h
   subst this
   exact List.mem_cons_self
  ·have ht':(t==a)=false:=by simpa using ht
   rw [ht'] at h
   exact List.mem_cons_of_mem _ (look_mem h)
def foldT (s:TSheet) (i:Nat):Nat×List (Nat×Nat):=(List.range i).foldl (stepP (seenT s)) (0,[])
theorem foldT_succ (s:TSheet) (i:Nat):foldT s (i+1)=stepP (seenT s) (foldT s i) i:=by
 unfold foldT
 rw [List.range_succ,List.foldl_append]
 rfl
theorem foldT_pre (s:TSheet):∀ (d i:Nat),∃ t,(foldT s (i+d)).2=(foldT s i).2++t
 |0,i=>⟨[],by simp⟩
 |d+1,i=>by
  obtain ⟨t,ht⟩:=foldT_pre s d i
  rw [show i+(d+1)=i+d+1 by omega,foldT_succ]
  unfold stepP
  split
  ·exact ⟨t,ht⟩
  ·simp only
   split
   ·exact ⟨t++[((foldT s (i+d)).1,i+d - 1)],by rw [ht,List.append_assoc]⟩
   ·exact ⟨t,ht⟩
theorem foldT_le (s:TSheet):∀ i,(foldT s i).1≤i
 |0=>Nat.le_refl _
 |i+1=>by
  rw [foldT_succ]
  unfold stepP
  have:=foldT_le s i
  split
  ·omega
  ·simp
variable {l:Nat} {xs:List AV}
def exS (l:Nat) (s:TSheet) (bM:Nat) (ex:List (Nat×AV)):Slots:=fun t=>if t=0 then .val (.func (.yield l) #[] #[]) else if t=1 then .ref (tshL s) else if t=3 then .val (mapVT bM) else match ex.lookup t with | some v=>v | none => .junk
structure VS (C:Cons prog GI l xs) (s:TSheet) (cX:Value) (bM:Nat) (ex:List (Nat×AV)) (l':List (Int×Value)) (k:Nat) (a:Act) (w:World):Prop where
 size:a.tmps.size=54
 defers:a.defers=[]
 t0:a.tmps.getD 0 undef = .func (.yield l) #[] #[]
 t1:a.tmps.getD 1 undef=cX
 t3:a.tmps.getD 3 undef=mapVT bM
 ex:∀ p∈ex,4≤p.1∧scal1 p.2=true∧RD (fun _ _=>False) w p.2 (a.tmps.getD p.1 undef)
 st:∃ M Pr,C.J k M Pr w∧(∀ b,M b→b < w.heap.size)∧M bM∧(∃ es clock,w.heap[bM]? = some (.map es clock)∧EntK (.int .i64) es l')∧RD Pr w (.ref (tshL s)) cX
variable {C:Cons prog GI l xs} {s:TSheet} {cX:Value} {bM:Nat} {ex ex':List (Nat×AV)} {l':List (Int×Value)} {k:Nat} {a:Act} {w:World}
theorem VS.slots (h:VS C s cX bM ex l' k a w):∀ t,t < 54→(exS l s bM ex t).dem=exS l s bM ex t∧RV (fun b _=>b≠bM) noneA w (exS l s bM ex t) (a.tmps.getD t undef):=by
 intro t ht
 obtain ⟨M,Pr,hj,hlt,hM,_,hx⟩:=h.st
 unfold exS
 by_cases t0:t=0
 ·subst t0;simp only [if_true];rw [h.t0];exact ⟨rfl,.data _ _ (.val _ rfl)⟩
 rw [if_neg t0]
 by_cases t1:t=1
 ·subst t1;simp only [if_true];rw [h.t1]
  exact ⟨rfl,.data _ _ (hx.mono (Keeps.same fun b k _ hp=>by rintro rfl;exact C.apart hj _ k hM hp))⟩
 rw [if_neg t1]
 by_cases t3:t=3
 ·subst t3;simp only [if_true];rw [h.t3];exact ⟨rfl,.data _ _ (.val _ rfl)⟩
 rw [if_neg t3]
 cases hl:ex.lookup t with
 |none=>exact ⟨rfl,.junk _⟩
 |some v =>
  have hm:(t,v)∈ex:=look_mem hl
  obtain ⟨_,h2,h3⟩:=h.ex _ hm
  refine ⟨?_,.data _ _ (h3.scal1 h2)⟩
  cases v<;>first | rfl | cases h2
theorem VS.grow (h:VS C s cX bM ex l' k a w) {a':Act} {w':World} (hb:Below w.heap.size w w') (hsz:a'.tmps.size=54) (hds:a'.defers=[]) (h0:∀ t,t < 4→a'.tmps.getD t undef=a.tmps.getD t undef)
  (hex:∀ p∈ex',4≤p.1∧scal1 p.2=true∧RD (fun _ _=>False) w' p.2 (a'.tmps.getD p.1 undef)):VS C s cX bM ex' l' k a' w':=by
 obtain ⟨M,Pr,hj,hlt,hM,⟨es,clock,hm,he⟩,hx⟩:=h.st
 refine ⟨hsz,hds,(h0 0 (by decide)).trans h.t0,(h0 1 (by decide)).trans h.t1,(h0 3 (by decide)).trans h.t3,hex,M,Pr,C.turn hj (Turn.of_below hb) fun b hb'=>⟨Nat.lt_of_lt_of_le (hlt b hb') hb.size,.inl hb'⟩,fun b hb'=>Nat.lt_of_lt_of_le (hlt b hb') hb.size,hM,
  ⟨es,clock,(hb.block bM (hlt bM hM)).trans hm,he⟩,hx.mono (Keeps.of_blocks (fun b h=>hb.block b h) fun _ _ _ h=>h)⟩
def W4:Nat→Bool:=fun t=>decide (4≤t)
theorem VS.region (hG:Stable GI) {C:Cons prog GI l xs} (h:VS C s cX bM ex l' k a w) {id:Nat} {ops:Array Oper} {ac:ACode} {Q:Exit→Act→World→Prop} {m:Nat} (hc:calmC (.region id ops false)=true) (hac:compC prog 54 (.region id ops false)=ac) (hW:Writes ops W4=true)
  (ex':List (Nat×AV)) (hs:ex'.all (fun p=>decide (4≤p.1) && (decide (p.1 < 54) && scal1 p.2))=true) (haw:awp prog GI ac (assignQ fun S' _=>∀ p∈ex',S' p.1=p.2) (exS l s bM ex) (fun _=>none)) (hk:∀ a' w',VS C s cX bM ex' l' k a' w'→Q .normal a' w'):(Code.region id ops false).wpIn (FR none) m prog Q a w:=by
 obtain ⟨M,Pr,hj,hlt,hM,hmm,hx⟩:=h.st
 refine region_anew hG hmix hc hac hW (C.gi hj) (fun b _=>b≠bM) (exS l s bM ex) h.size h.defers h.slots haw ?_
 intro g S' H' a' w' hg R1 hK hsame
 refine hk a' w' (h.grow (by have:=R1.below;rwa [R1.base] at this) R1.size (by rw [R1.defers,hg];rfl) (fun t ht=>hsame t (by simp [W4];omega)) fun p hp => ?_)
 have hp':=List.all_eq_true.1 hs p hp
 simp only [Bool.and_eq_true,decide_eq_true_eq] at hp'
 refine ⟨hp'.1,hp'.2.2,?_⟩
 have r:=R1.slot p.1 hp'.2.1 (fun h=>h)
 rw [hK p hp] at r
 exact (r.toData (by have:=hp'.2.2;revert this;cases p.2<;>simp [Go.AL.scal1,AV.isData])).scal1 hp'.2.2
theorem VS.bool (h:VS C s cX bM ex l' k a w) {t:Nat} {b:Bool} (hm:(t,AV.bool b)∈ex):a.tmps.getD t undef = .bool b:=(RV.data (al:=noneA) _ _ (h.ex _ hm).2.2).bool_eq
theorem VS.int (h:VS C s cX bM ex l' k a w) {t:Nat} {b:Int} (hm:(t,AV.int .i64 b)∈ex):a.tmps.getD t undef = .int .i64 b:=(RV.data (al:=noneA) _ _ (h.ex _ hm).2.2).int_eq
theorem VS.keep (h:VS C s cX bM ex l' k a w) {a':Act} {w':World} (N:Nat) (hN:4≤N) (hb:Below w.heap.size w w') (hsz:a'.tmps.size=54) (hds:a'.defers=[]) (h0:∀ t,t < N→a'.tmps.getD t undef=a.tmps.getD t undef)
  (hex:ex.all (fun p=>decide (p.1 < N))=true):VS C s cX bM ex l' k a' w' :=
 h.grow hb hsz hds (fun t ht=>h0 t (by omega)) fun p hp=>by
  obtain ⟨q1,q2,q3⟩:=h.ex p hp
  have:=List.all_eq_true.1 hex p hp
  rw [h0 p.1 (by simpa using this)]
  exact ⟨q1,q2,q3.scal1 q2⟩
theorem VS.sub (h:VS C s cX bM ex l' k a w) (hsub:∀ p∈ex',p∈ex):VS C s cX bM ex' l' k a w :=
 ⟨h.size,h.defers,h.t0,h.t1,h.t3,fun p hp=>h.ex p (hsub p hp),h.st⟩
theorem VS.put (h:VS C s cX bM ex l' k a w) (t:Nat) (v:Value) (ht:4≤t) (hex:ex.all (fun p=>p.1 != t)=true):VS C s cX bM ex l' k (a.put (some t) v) w:=by
 have hgp:∀ k,k≠t→(a.put (some t) v).tmps.getD k undef=a.tmps.getD k undef:=fun k hk=>by
  simp [Act.put,Array.getElem?_setIfInBounds_ne (Ne.symm hk)]
 refine ⟨by simp [Act.put,h.size],h.defers,(hgp 0 (by omega)).trans h.t0,(hgp 1 (by omega)).trans h.t1,(hgp 3 (by omega)).trans h.t3,fun p hp => ?_,h.st⟩
 have:=List.all_eq_true.1 hex p hp
 rw [hgp p.1 (by simpa using this)]
 exact h.ex p hp
noncomputable def lo1:ACode:=ACode.snd (ACode.snd (ACode.snd (ACode.fst (ACode.snd c135))))
noncomputable def lo2:ACode:=ACode.snd (ACode.snd (ACode.snd (ACode.snd (ACode.snd (ACode.snd c135)))))
set_option maxRecDepth 100000 in
theorem it135 (hG:Stable GI) (s:TSheet) (h:TGood s):IterC prog GI 135 [.ref (tshL s)] ((viewsT s).map endA):=by
 intro l C w Pr cargs hJ hlen hr
 obtain ⟨cX,rfl⟩:∃ cX,cargs = #[cX]:=arr_one (by simpa using hlen.symm)
 have hrX:=hr 0 (by simp) (by simp)
 simp only [List.getElem_cons_zero,List.getElem_toArray] at hrX
 refine (callsIn_FR (ro:=none) (m:=0)).1 (callsIn_of_wp func135 rfl trivial ?_)
 refine anyAct (fun a=>a.tmps.size=54∧a.defers=[]∧a.tmps.getD 0 undef = .func (.yield l) #[] #[]∧a.tmps.getD 1 undef=cX) ⟨by simp [ntmps135],rfl,args_get _ _ 0 (by simp),args_get _ _ 1 (by simp)⟩ ?_
 rintro a ⟨hsz,hds,e0,e1⟩
 have hgp:∀ (a:Act) (d t:Nat) (c:Value),t≠d→(a.put (some d) c).tmps.getD t undef=a.tmps.getD t undef:=fun a d t c h=>by
  simp [Act.put,Array.getElem?_setIfInBounds_ne (Ne.symm h)]
 have hgs:∀ (a:Act) (d:Nat) (c:Value),a.tmps.size=54→d < 54→(a.put (some d) c).tmps.getD d undef=c:=fun a d c h hd=>by
  simp [Act.put,h,hd]
 have hps:∀ (a:Act) (d:Option Nat) (c:Value),(a.put d c).tmps.size=a.tmps.size:=fun a d c=>by cases d<;>simp [Act.put]
 refine wpIn_seq (wpIn_region ?_)
 show wpOpsIn _ _ _ _ _ [0,1] a w
 refine opIn_val rfl rfl (by rfl) (run_makeMap (t:=228) rfl) ?_
 obtain ⟨bM,hbM⟩:∃ b,w.heap.size=b:=⟨_,rfl⟩
 obtain ⟨w1,hw1⟩:∃ w1,w.alloc (.map #[] 0)=w1:=⟨_,rfl⟩
 have s1:w1.heap.size=bM+1:=by rw [← hw1];simp [hbM]
 have n1:w1.heap[bM]? = some (.map #[] 0):=by rw [← hw1,← hbM];exact World.alloc_heap_new w _
 have b1:Below w.heap.size w w1:=by rw [← hw1];exact (Below.refl _ _).alloc (Nat.le_refl _) _
 show wpOpsIn _ _ _ _ _ [1] (a.put (some 7) (.map (some w.heap.size))) (w.alloc (.map #[] 0))
 rw [hw1,hbM]
 have h7:(a.put (some 7) (.map (some bM))).eval (.tmp 7) = .map (some bM):=hgs _ _ _ hsz (by decide)
 refine opIn_val rfl rfl (by rfl) (run_assign (x := .tmp 7) w1 rfl) ?_
 rw [h7]
 show Code.wpIn _ _ _ _ _ ((a.put (some 7) (.map (some bM))).put (some 3) (.map (some bM))) w1
 have vs:VS C s cX bM [] [] 0 ((a.put (some 7) (.map (some bM))).put (some 3) (.map (some bM))) w1:=by
  refine ⟨by rw [hps,hps];exact hsz,hds,by rw [hgp _ _ _ _ (by decide),hgp _ _ _ _ (by decide)];exact e0,by rw [hgp _ _ _ _ (by decide),hgp _ _ _ _ (by decide)];exact e1,hgs _ _ _ (by rw [hps];exact hsz) (by decide),fun p hp=>(by cases hp),fun b=>b=bM,Pr,C.turn hJ (Turn.of_below b1) fun b hb => ?_,fun b hb => ?_,rfl,⟨#[],0,n1,rfl,fun i hi=>(by simp at hi)⟩,?_⟩
  ·exact ⟨by omega,.inr (by omega)⟩
  ·omega
  ·exact (hrX.toData rfl).mono (Keeps.of_blocks (fun b h=>b1.block b h) fun _ _ _ h=>h)
 generalize (a.put (some 7) (.map (some bM))).put (some 3) (.map (some bM))=a1 at vs ⊢
 clear h7 e0 e1 hds hsz n1 s1 b1 hw1 hbM hJ hr hrX hlen a
 obtain ⟨p,hp⟩:∃ p:Nat,s.pos=p:=⟨s.pos.toNat,by have:=h.pos;omega⟩
 have hpt:s.pos.toNat=p:=by omega
 have hpos:=h.pos
 have hreach:=h.reach
 have hcells:=h.cells
 have hlp:lowT s≤p:=by unfold lowT;omega
 have hwr:IntKind.i64.wrap (s.pos - s.reach)=s.pos - s.reach:=wrapI (by omega)
 have hmax:max 0 (s.pos - s.reach)=(lowT s:Int):=by unfold lowT;omega
 have hmax2:(if s.pos - s.reach≤0 then (0:Int) else s.pos - s.reach)=(lowT s:Int):=by unfold lowT;split<;>omega
 refine wpIn_seq (wpIn_seq ?_)
 refine vs.region hG (ac:=ACode.fst (ACode.fst (ACode.snd c135))) (by kernel_rfl) (by kernel_rfl) (by kernel_rfl) [(4,.int .i64 (lowT s))] rfl ?_ ?_
 ·simp [c135,ACode.fst,ACode.snd,exS,List.lookup,tshL,hwr]
  exact hmax
 clear vs
 intro a w vs
 have vs0:VS C s cX bM [(4,.int .i64 ((lowT s:Nat):Int))] (mapT s (lowT s)) 0 a w:=by
  have:mapT s (lowT s)=[]:=by simp [mapT]
  rw [this];exact vs
 clear vs
 show Code.wpIn _ _ _ _ _ a w
 refine wpIn_block (wpIn_loop (fun a w=>∃ i,lowT s≤i∧i≤p∧VS C s cX bM [(4,.int .i64 (i:Nat))] (mapT s i) 0 a w) (fun a _=>match a.tmps.getD 4 undef with | .int _ i=>p - i.toNat | _=>0) ⟨lowT s,Nat.le_refl _,hlp,vs0⟩ ?_)
 clear vs0 a w
 rintro a w ⟨i,hli,hip,vs⟩
 have h4:a.tmps.getD 4 undef = .int .i64 (i:Nat):=vs.int (by simp)
 refine wpIn_seq (wpIn_seq ?_)
 refine vs.region hG (ac:=ACode.fst (ACode.fst lo1)) (by kernel_rfl) (by kernel_rfl) (by kernel_rfl) [(4,.int .i64 (i:Nat)),(17,.bool (decide (i < p)))] rfl ?_ ?_
 ·simp [c135,lo1,ACode.fst,ACode.snd,exS,List.lookup,tshL,hp]
 clear vs
 intro a2 w2 vs
 show Code.wpIn _ _ _ _ _ a2 w2
 refine wpIn_cond (t:=decide (i < p)) (vs.bool (by simp)) ?_
 by_cases hlt:i < p
 case neg =>
  simp only [hlt,decide_false,Bool.false_eq_true,if_false]
  refine wpIn_exit ?_
  have hipe:i=p:=by omega
  subst hipe
  show Code.wpIn _ _ _ _ _ a2 w2
  clear hli hip h4 hlt a w
  have hseen:mapT s i=mapT s s.pos.toNat:=by rw [hpt]
  refine wpIn_seq ?_
  refine vs.region hG (ac:=ACode.fst (ACode.snd (ACode.snd c135))) (by kernel_rfl) (by kernel_rfl) (by kernel_rfl) [(5,.int .i64 0)] rfl ?_ ?_
  ·simp [c135,ACode.fst,ACode.snd,exS,List.lookup]
  clear vs
  intro a w vs
  show Code.wpIn _ _ _ _ _ a w
  have hwn:IntKind.i64.wrap ((s.cells.length:Int)+1)=s.cells.length+1:=wrapI (by omega)
  refine wpIn_seq ?_
  refine vs.region hG (ac:=ACode.fst (ACode.snd (ACode.snd (ACode.snd c135)))) (by kernel_rfl) (by kernel_rfl) (by kernel_rfl) [(5,.int .i64 ((0:Nat):Int)),(32,.int .i64 (s.cells.length+1)),(33,.int .i64 ((0:Nat):Int))] rfl ?_ ?_
  ·simp [c135,ACode.fst,ACode.snd,exS,List.lookup,tshL,hwn]
  clear vs
  intro a w vs
  show Code.wpIn _ _ _ _ _ a w
  refine wpIn_block (wpIn_loop (fun a w=>∃ j,j≤s.cells.length+1∧VS C s cX bM [(5,.int .i64 ((foldT s j).1:Nat)),(32,.int .i64 (s.cells.length+1)),(33,.int .i64 (j:Nat))] (mapT s i) (foldT s j).2.length a w) (fun a _=>match a.tmps.getD 33 undef with | .int _ j=>s.cells.length+1 - j.toNat | _=>0) ⟨0,Nat.zero_le _,vs⟩ ?_)
  clear vs a w
  rintro a w ⟨j,hj,vs⟩
  have h33:a.tmps.getD 33 undef = .int .i64 (j:Nat):=vs.int (by simp)
  refine wpIn_seq ?_
  refine vs.region hG (ac:=ACode.fst lo2) (by kernel_rfl) (by kernel_rfl) (by kernel_rfl) [(5,.int .i64 ((foldT s j).1:Nat)),(32,.int .i64 (s.cells.length+1)),(33,.int .i64 (j:Nat)),(34,.bool (decide (j < s.cells.length+1)))] rfl ?_ ?_
  ·simp [c135,lo2,ACode.fst,ACode.snd,exS,List.lookup]
   omega
  clear vs
  intro a3 w3 vs
  show Code.wpIn _ _ _ _ _ a3 w3
  refine wpIn_seq (wpIn_cond (t:=decide (j < s.cells.length+1)) (vs.bool (by simp)) ?_)
  by_cases hjl:j < s.cells.length+1
  case neg =>
   simp only [hjl,decide_false,Bool.false_eq_true,if_false]
   refine wpIn_exit ?_
   have hje:j=s.cells.length+1:=by omega
   subst hje
   change bodyPost prog f135 (fun e w'=>∃ v M Pr',e=Ending.returned v∧(C.J (List.map endA (viewsT s)).length M Pr' w'∨C.X M Pr' w')) .normal a3 w3
   obtain ⟨M,Pr',hj',_⟩:=vs.st
   have hl:((viewsT s).map endA).length=(foldT s (s.cells.length+1)).2.length:=by simp [viewsT,viewsP,foldT]
   refine ⟨vs.defers,.tuple #[],?_,.tuple #[],M,Pr',rfl,.inl (by rw [hl];exact hj')⟩
   simp [results,results135]
  simp only [hjl,decide_true,if_true]
  refine wpIn_skip ?_
  show Code.wpIn _ _ _ _ _ a3 w3
  refine wpIn_seq (wpIn_mono (Q:=fun e a w=>(e = .normal∧VS C s cX bM [(5,.int .i64 ((foldT s (j+1)).1:Nat)),(32,.int .i64 (s.cells.length+1)),(33,.int .i64 (j:Nat))] (mapT s i) (foldT s (j+1)).2.length a w)∨(e = .ret∧a.defers=[]∧∃ M Pr,C.X M Pr w)) ?_ ?_)
  ·refine wpIn_block ?_
   refine wpIn_seq ?_
   refine vs.region hG (ac:=ACode.fst (ACode.snd (ACode.fst (ACode.snd (ACode.snd lo2))))) (by kernel_rfl) (by kernel_rfl) (by kernel_rfl) [(5,.int .i64 ((foldT s j).1:Nat)),(32,.int .i64 (s.cells.length+1)),(33,.int .i64 (j:Nat)),(6,.int .i64 (j:Nat))] rfl ?_ ?_
   ·simp [c135,lo2,ACode.fst,ACode.snd,exS,List.lookup]
   clear vs
   intro a4 w4 vs
   show Code.wpIn _ _ _ _ _ a4 w4
   refine wpIn_seq (wpIn_seq ?_)
   obtain ⟨M,Pr',hj',hMlt,hM,⟨es,clock,hm,he⟩,hx⟩:=vs.st
   refine front_anew hG (GI:=GI) (p:=2) (l2:=[2]) rfl (by kernel_rfl) (by kernel_rfl) (l:=(ACode.dl (ACode.fst (ACode.fst (ACode.snd (ACode.snd (ACode.fst (ACode.snd (ACode.snd lo2)))))))).take 2) (by kernel_rfl) (by decide) (W:=fun t=>decide (36≤t)) (by kernel_rfl) (C.gi hj') (fun b _=>b≠bM) (exS l s bM [(5,.int .i64 ((foldT s j).1:Nat)),(32,.int .i64 (s.cells.length+1)),(33,.int .i64 (j:Nat)),(6,.int .i64 (j:Nat))]) vs.size vs.defers vs.slots
    (K:=fun S _=>S 36 = .val (mapVT bM)∧S 37 = .int .i64 (j:Nat)) ?_ ?_
   ·simp [c135,lo2,ACode.fst,ACode.snd,ACode.dl,exS,List.lookup]
   intro g S' H' a5 w5 hg R1 ⟨q36,q37⟩ hsame
   have hb5:Below w4.heap.size w4 w5:=by have:=R1.below;rwa [R1.base] at this
   have e36:a5.eval (.tmp 36) = .map (some bM):=by
    have:=R1.slot 36 (by decide) (fun h=>h)
    rw [q36] at this
    exact this.val_eq
   have e37:a5.eval (.tmp 37) = .int .i64 (j:Nat):=slot_int R1 (by decide) q37
   have vs5:=vs.keep 36 (by decide) hb5 R1.size (by rw [R1.defers,hg];rfl) (fun t ht=>hsame t (by simp;omega)) rfl
   have hm5:w5.heap[bM]? = some (.map es clock):=(hb5.block bM (hMlt bM hM)).trans hm
   have hmt:prog.underlying 228=some (.map 3 4):=by kernel_rfl
   have hkt:prog.underlying 3=some (.int .i64):=by kernel_rfl
   obtain ⟨i4,hi4,hz4⟩:=Option.bind_eq_some_iff.1 (show (prog.info? 4).bind (·.zero)=some (.bool false) by kernel_rfl)
   refine opIn_val rfl rfl (by rfl) (v := .bool (seenT s j)) (w':=w5) ((run_mapGetI (t:=228) (x1 := .tmp 36) (x2 := .tmp 37) rfl hmt hkt hi4 hz4 e36 e37 hm5 he).trans (congrArg (fun v=>Result.ok (Next.value v) w5) (by rw [hseen];exact look_seen s (by omega) j))) ?_
   show Code.wpIn _ _ _ _ _ (a5.put (some 38) (.bool (seenT s j))) w5
   have vs6:=vs5.put 38 (.bool (seenT s j)) (by decide) rfl
   have h38:(a5.put (some 38) (.bool (seenT s j))).tmps.getD 38 undef = .bool (seenT s j):=hgs _ _ _ vs5.size (by decide)
   generalize a5.put (some 38) (.bool (seenT s j))=a6 at vs6 h38 ⊢
   clear vs vs5 hj' hMlt hM hm he hx M Pr' es clock hb5 R1 hsame hg q36 q37 e36 e37 hm5
   refine wpIn_cond (t:=seenT s j) h38 ?_
   cases hsj:seenT s j with
   |true =>
    simp only [if_true]
    have hf:foldT s (j+1)=foldT s j:=by rw [foldT_succ];unfold stepP;rw [if_pos hsj]
    refine wpIn_exit (.inl ⟨rfl,?_⟩)
    rw [hf]
    exact vs6.sub fun q hq=>by simp at hq ⊢;rcases hq with rfl | rfl | rfl<;>simp
   |false =>
    simp only [Bool.false_eq_true,if_false]
    refine wpIn_skip ?_
    show Code.wpIn _ _ _ _ _ a6 w5
    have hfl:=foldT_le s j
    have hf:foldT s (j+1)=(j+1,if (foldT s j).1 < j then (foldT s j).2++[((foldT s j).1,j - 1)] else (foldT s j).2):=by
     rw [foldT_succ];unfold stepP;rw [if_neg (by rw [hsj];simp)]
    refine wpIn_seq (wpIn_mono (Q:=fun e a w=>(e = .normal∧VS C s cX bM [(5,.int .i64 ((foldT s j).1:Nat)),(32,.int .i64 (s.cells.length+1)),(33,.int .i64 (j:Nat)),(6,.int .i64 (j:Nat))] (mapT s i) (foldT s (j+1)).2.length a w)∨(e = .ret∧a.defers=[]∧∃ M Pr,C.X M Pr w)) ?_ ?_)
    ·refine wpIn_seq ?_
     by_cases hfj:(foldT s j).1 < j
     case neg =>
      have hf2:(foldT s (j+1)).2=(foldT s j).2:=by rw [hf];simp [hfj]
      refine vs6.region hG (ac:=ACode.fst (ACode.fst (ACode.snd (ACode.snd (ACode.snd (ACode.fst (ACode.snd (ACode.snd lo2)))))))) (by kernel_rfl) (by kernel_rfl) (by kernel_rfl) [(5,.int .i64 ((foldT s j).1:Nat)),(32,.int .i64 (s.cells.length+1)),(33,.int .i64 (j:Nat)),(6,.int .i64 (j:Nat)),(50,.bool false)] rfl ?_ ?_
      ·have:¬ ((foldT s j).1:Int) < j:=by omega
       simp [c135,lo2,ACode.fst,ACode.snd,exS,List.lookup,hfj]
      intro a7 w7 vs7
      show Code.wpIn _ _ _ _ _ a7 w7
      refine wpIn_cond (t:=false) (vs7.bool (by simp)) ?_
      simp only [Bool.false_eq_true,if_false]
      refine wpIn_skip (.inl ⟨rfl,?_⟩)
      rw [hf2]
      exact vs7.sub fun q hq=>by simp at hq ⊢;rcases hq with rfl | rfl | rfl | rfl<;>simp
     case pos =>
      have hf2:(foldT s (j+1)).2=(foldT s j).2++[((foldT s j).1,j - 1)]:=by rw [hf];simp [hfj]
      obtain ⟨M,Pr',hj',hMlt,hM,⟨es,clock,hm,he⟩,hx⟩:=vs6.st
      have hwj:IntKind.i64.wrap ((j:Int) - 1)=((j - 1:Nat):Int):=by rw [wrapI (by omega)];omega
      have hlt':((foldT s j).1:Int) < j:=by omega
      refine front_anew hG (GI:=GI) (p:=9) (l2:=[9,10,11]) rfl (by kernel_rfl) (by kernel_rfl) (l:=(ACode.dl (ACode.fst (ACode.fst (ACode.snd (ACode.snd (ACode.snd (ACode.fst (ACode.snd (ACode.snd lo2))))))))).take 9) (by kernel_rfl) (by decide) (W:=fun t=>decide (39≤t)) (by kernel_rfl) (C.gi hj') (fun b _=>b≠bM) (exS l s bM [(5,.int .i64 ((foldT s j).1:Nat)),(32,.int .i64 (s.cells.length+1)),(33,.int .i64 (j:Nat)),(6,.int .i64 (j:Nat))]) vs6.size vs6.defers vs6.slots
       (K:=fun S _=>S 42 = .bool true∧S 43 = .val (.func (.yield l) #[] #[])∧S 47 = .agg [.int .i64 ((foldT s j).1:Nat),.int .i64 ((j - 1:Nat):Int)]) ?_ ?_
      ·simp [c135,lo2,ACode.fst,ACode.snd,ACode.dl,exS,List.lookup,hfj,hwj,fillA]
      intro g S' H' a7 w7 hg R1 ⟨q42,q43,q47⟩ hsame
      have hb7:Below w5.heap.size w5 w7:=by have:=R1.below;rwa [R1.base] at this
      have e42:a7.tmps.getD 42 undef = .bool true:=by
       have:=R1.slot 42 (by decide) (fun h=>h)
       rw [q42] at this
       exact this.bool_eq
      have e43:a7.eval (.tmp 43) = .func (.yield l) #[] #[]:=by
       have:=R1.slot 43 (by decide) (fun h=>h)
       rw [q43] at this
       exact this.val_eq
      have e47:a7.eval (.tmp 47) = .agg #[.int .i64 ((foldT s j).1:Nat),.int .i64 ((j - 1:Nat):Int)]:=by
       have:=R1.slot 47 (by decide) (fun h=>h)
       rw [q47] at this
       exact aggI2 this
      have vs7:=vs6.keep 39 (by decide) hb7 R1.size (by rw [R1.defers,hg];rfl) (fun t ht=>hsame t (by simp;omega)) rfl
      clear vs6 hj' hMlt hM hm he hx M Pr' es clock hb7 R1 hsame hg q42 q43 q47 h38
      obtain ⟨M,Pr',hj',hMlt,hM,⟨es,clock,hm,he⟩,hx⟩:=vs7.st
      have hz7:=vs7.size
      have e42':a7.tmps[42]? = some (.bool true):=by
       have h2:a7.tmps[42]? = some (a7.tmps.getD 42 undef):=by simp [hz7]
       rw [h2,e42]
      obtain ⟨tl,htl⟩:=foldT_pre s (s.cells.length+1 - (j+1)) (j+1)
      rw [show j+1+(s.cells.length+1 - (j+1))=s.cells.length+1 by omega,hf2] at htl
      have hxs:(viewsT s).map endA=((foldT s (s.cells.length+1)).2.map fun v=>endA ((v.1:Int),(v.2:Int))):=by simp [viewsT,viewsP,foldT]
      have hkx:(foldT s j).2.length < ((viewsT s).map endA).length:=by
       rw [hxs,htl];simp
      have hxk:((viewsT s).map endA)[(foldT s j).2.length]=endA (((foldT s j).1:Int),((j - 1:Nat):Int)):=by
       have:((viewsT s).map endA)[(foldT s j).2.length]? = some (endA (((foldT s j).1:Int),((j - 1:Nat):Int))):=by
        rw [hxs,htl]
        simp
       rw [List.getElem?_eq_getElem hkx] at this
       exact Option.some.inj this
      have hrd:RD (fun b j=>Pr' b j∨((fun _=>False) b∧j < (fun _=>0) b)) w7 ((viewsT s).map endA)[(foldT s j).2.length] (a7.eval (.tmp 47)):=by
       rw [hxk,e47]
       refine .agg _ _ rfl (fun i hi => ?_) (fun i hi hi' => ?_)
       ·match i,hi with
        |0,_ | 1,_=>rfl
       ·match i,hi with
        |0,_ | 1,_=>exact .int _ _
      obtain ⟨ff,tmps,asg,bd,hy1,hround⟩:=C.round hkx (fun _=>False) (fun _=>0) _ hj' (fun b hb=>hb.elim) hrd
      refine opIn_roundG rfl (by simp [Region.wanted,yielded,dstOf,e42']) (by rfl) ((run_callv_yield (f := .tmp 43) (x := .tmp 47) w7 rfl rfl rfl e43).trans hy1) hround ?_
      rintro e w8 ⟨hs8,Pr8,hkp,hend⟩
      have hlen2:(foldT s (j+1)).2.length=(foldT s j).2.length+1:=by rw [hf2];simp
      obtain ⟨b,rfl,hT,hF⟩:∃ b:Bool,e = .returned (.bool b)∧(b=true→VS C s cX bM [(5,.int .i64 ((foldT s j).1:Nat)),(32,.int .i64 (s.cells.length+1)),(33,.int .i64 (j:Nat)),(6,.int .i64 (j:Nat))] (mapT s i) (foldT s (j+1)).2.length a7 w8)∧(b=false→∃ M Pr,C.X M Pr w8):=by
       rcases hend with ⟨rfl,hj8⟩ | ⟨rfl,hX8⟩
       ·refine ⟨true,rfl,fun _ => ?_,fun h=>(by cases h)⟩
        have hsame8:∀ b,M b→w8.heap[b]? = w7.heap[b]? := fun b hb=>hs8 b hb (fun h=>h)
        refine ⟨vs7.size,vs7.defers,vs7.t0,vs7.t1,vs7.t3,fun q hq => ?_,fun b=>M b∧¬ (fun _=>False) b,Pr8,by rw [hlen2];exact hj8,fun b hb => ?_,⟨hM,fun h=>h⟩,⟨es,clock,(hsame8 bM hM).trans hm,he⟩,hx.mono hkp⟩
        ·obtain ⟨q1,q2,q3⟩:=vs7.ex q hq
         exact ⟨q1,q2,q3.scal1 q2⟩
        ·have h1:=hsame8 b hb.1
         rw [Array.getElem?_eq_getElem (hMlt b hb.1)] at h1
         exact (Array.getElem?_eq_some_iff.1 h1).1
       ·exact ⟨false,rfl,fun h=>(by cases h),fun _=>⟨_,_,hX8⟩⟩
      refine ⟨_,rfl,?_⟩
      show wpOpsIn _ _ _ _ _ [10,11] (a7.put (some 48) (.bool b)) w8
      have z8:(a7.put (some 48) (.bool b)).tmps.size=54:=by rw [hps];exact hz7
      have h48:(a7.put (some 48) (.bool b)).eval (.tmp 48) = .bool b:=hgs _ _ _ hz7 (by decide)
      have h42:(a7.put (some 48) (.bool b)).tmps[42]? = some (.bool true):=by
       have h2:(a7.put (some 48) (.bool b)).tmps[42]? = some ((a7.put (some 48) (.bool b)).tmps.getD 42 undef):=by simp [z8]
       rw [h2,hgp _ _ _ _ (by decide),e42]
      refine opIn_valG rfl (by simp [Region.wanted,yielded,dstOf,h42]) (by rfl) (run_not1 (x := .tmp 48) rfl h48) ?_
      show wpOpsIn _ _ _ _ _ [11] ((a7.put (some 48) (.bool b)).put (some 49) (.bool !b)) w8
      have h49:((a7.put (some 48) (.bool b)).put (some 49) (.bool !b)).eval (.tmp 49) = .bool !b:=hgs _ _ _ z8 (by decide)
      have h42b:((a7.put (some 48) (.bool b)).put (some 49) (.bool !b)).eval (.tmp 42) = .bool true:=by
       show Array.getD _ _ _=_
       rw [hgp _ _ _ _ (by decide),hgp _ _ _ _ (by decide),e42]
      have z9:((a7.put (some 48) (.bool b)).put (some 49) (.bool !b)).tmps.size=54:=by rw [hps];exact z8
      have hpk:∀ o:Oper,o.op = .pick (.tmp 42) (.tmp 49) (.const (.bool false))→(execOp ((a7.put (some 48) (.bool b)).put (some 49) (.bool !b)).eval o).run prog w8 = .ok (.value (.bool !b)) w8:=by
       intro o ho
       unfold execOp
       simp [ho,h42b,h49,asBool]
      refine opIn_val rfl rfl (by rfl) (hpk _ rfl) ?_
      show Code.wpIn _ _ _ _ _ (((a7.put (some 48) (.bool b)).put (some 49) (.bool !b)).put (some 50) (.bool !b)) w8
      refine wpIn_cond (t := !b) (hgs _ _ _ z9 (by decide)) ?_
      cases b with
      |true =>
       simp only [Bool.not_true,Bool.false_eq_true,if_false]
       exact wpIn_skip (.inl ⟨rfl,(((hT rfl).put 48 _ (by decide) rfl).put 49 _ (by decide) rfl).put 50 _ (by decide) rfl⟩)
      |false =>
       simp only [Bool.not_false,if_true]
       exact wpIn_ret (.inr ⟨rfl,vs7.defers,hF rfl⟩)
    ·rintro e a w (⟨rfl,vs⟩ | ⟨rfl,hd,M,Pr',hX⟩)
     ·show Code.wpIn _ _ _ _ _ a w
      refine vs.region hG (ac:=ACode.snd (ACode.snd (ACode.snd (ACode.snd (ACode.fst (ACode.snd (ACode.snd lo2))))))) (by kernel_rfl) (by kernel_rfl) (by kernel_rfl) [(5,.int .i64 ((foldT s (j+1)).1:Nat)),(32,.int .i64 (s.cells.length+1)),(33,.int .i64 (j:Nat))] rfl ?_ fun a w vs => .inl ⟨rfl,vs⟩
      have hw:IntKind.i64.wrap ((j:Int)+1)=j+1:=wrapI (by omega)
      simp [c135,lo2,ACode.fst,ACode.snd,exS,List.lookup,hw,hf]
     ·exact .inr ⟨rfl,hd,M,Pr',hX⟩
  ·rintro e a w (⟨rfl,vs⟩ | ⟨rfl,hd,M,Pr',hX⟩)
   ·show Code.wpIn _ _ _ _ _ a w
    refine vs.region hG (ac:=ACode.snd (ACode.snd (ACode.snd lo2))) (by kernel_rfl) (by kernel_rfl) (by kernel_rfl) [(5,.int .i64 ((foldT s (j+1)).1:Nat)),(32,.int .i64 (s.cells.length+1)),(33,.int .i64 ((j+1:Nat):Int))] rfl ?_ ?_
    ·have hw:IntKind.i64.wrap ((j:Int)+1)=j+1:=wrapI (by omega)
     simp [c135,lo2,ACode.fst,ACode.snd,exS,List.lookup,hw]
    intro a5 w5 vs5
    have h335:a5.tmps.getD 33 undef = .int .i64 ((j+1:Nat):Int):=vs5.int (by simp)
    refine ⟨⟨j+1,by omega,vs5⟩,?_⟩
    simp only [h335,h33]
    simp
    omega
   ·change bodyPost prog f135 (fun e w'=>∃ v M Pr',e=Ending.returned v∧(C.J (List.map endA (viewsT s)).length M Pr' w'∨C.X M Pr' w')) .ret a w
    refine ⟨hd,.tuple #[],?_,.tuple #[],M,Pr',rfl,.inr hX⟩
    simp [results,results135]
 case pos =>
  simp only [hlt,decide_true,if_true]
  refine wpIn_skip ?_
  show Code.wpIn _ _ _ _ _ a2 w2
  have hic:i < s.cells.length:=by omega
  have hhid:hidT s i=s.cells[i].hid:=by unfold hidT;rw [List.getElem?_eq_getElem hic]
  refine wpIn_seq (wpIn_block ?_)
  obtain ⟨M,Pr,hj,hMlt,hM,⟨es,clock,hm,he⟩,hx⟩:=vs.st
  refine front_anew hG (GI:=GI) (p:=9) (l2:=[9]) rfl (by kernel_rfl) (by kernel_rfl) (l:=(ACode.dl (ACode.snd (ACode.fst (ACode.snd lo1)))).take 9) (by kernel_rfl) (by decide) (W:=W4) (by kernel_rfl) (C.gi hj) (fun b _=>b≠bM) (exS l s bM [(4,.int .i64 (i:Nat)),(17,.bool (decide (i < p)))]) vs.size vs.defers vs.slots
   (K:=fun S _=>S 20 = .val (mapVT bM)∧S 21 = .int .i64 (i:Nat)∧S 28 = .bool (!hidT s i)∧S 4 = .int .i64 (i:Nat)) ?_ ?_
  ·simp [c135,lo1,ACode.fst,ACode.snd,ACode.dl,exS,List.lookup,tshL,hic,hhid,tcA]
  intro g S' H' a3 w3 hg R1 ⟨q20,q21,q28,q4⟩ hsame
  have hb3:Below w2.heap.size w2 w3:=by have:=R1.below;rwa [R1.base] at this
  have e20:a3.eval (.tmp 20) = .map (some bM):=by
   have:=R1.slot 20 (by decide) (fun h=>h)
   rw [q20] at this
   exact this.val_eq
  have e21:a3.eval (.tmp 21) = .int .i64 (i:Nat):=slot_int R1 (by decide) q21
  have e28:a3.eval (.tmp 28) = .bool (!hidT s i):=by
   have:=R1.slot 28 (by decide) (fun h=>h)
   rw [q28] at this
   exact this.bool_eq
  have e4:a3.tmps.getD 4 undef = .int .i64 (i:Nat):=slot_int R1 (by decide) q4
  have vs3:VS C s cX bM [(4,.int .i64 (i:Nat))] (mapT s i) 0 a3 w3:=vs.grow hb3 R1.size (by rw [R1.defers,hg];rfl) (fun t ht=>hsame t (by simp [W4];omega)) fun q hq=>by
   rw [List.mem_singleton] at hq
   subst hq
   exact ⟨Nat.le_refl _,rfl,by rw [e4];exact .int _ _⟩
  clear vs hj hMlt hM hm he hx M Pr es clock hb3 R1 hsame hg q20 q21 q28 q4
  obtain ⟨M,Pr,hj,hMlt,hM,⟨es,clock,hm,he⟩,hx⟩:=vs3.st
  have hmt:prog.underlying 228=some (.map 3 4):=by kernel_rfl
  have hkt:prog.underlying 3=some (.int .i64):=by kernel_rfl
  refine opIn_skip rfl rfl (by rfl) (run_mapSetI (t:=228) (x1 := .tmp 20) (x2 := .tmp 21) (x3 := .tmp 28) rfl hmt hkt e20 e21 hm he (mapT_new s)) ?_
  rw [e28]
  obtain ⟨w4,hw4⟩:∃ w4,w3.putObj bM (.map (es.push { key := .int .i64 (i:Nat),val := .bool (!hidT s i),born:=clock }) (clock+1))=w4:=⟨_,rfl⟩
  show Code.wpIn _ _ _ _ _ a3 (w3.putObj bM (.map (es.push { key := .int .i64 (i:Nat),val := .bool (!hidT s i),born:=clock }) (clock+1)))
  rw [hw4]
  have hltM:=hMlt bM hM
  have h10:w4.heap[bM]? = some (.map (es.push { key := .int .i64 (i:Nat),val := .bool (!hidT s i),born:=clock }) (clock+1)):=by rw [← hw4];exact World.putObj_heap_same hltM
  have ht10:Turn M w3 w4:=by
   rw [← hw4]
   exact ⟨rfl,rfl,rfl,by simp [World.putObj],fun b _ hb=>World.putObj_heap_other (by rintro rfl;exact hb hM)⟩
  have hsz4:w4.heap.size=w3.heap.size:=by rw [← hw4];simp [World.putObj]
  have vs4:VS C s cX bM [(4,.int .i64 (i:Nat))] (mapT s (i+1)) 0 a3 w4:=by
   refine ⟨vs3.size,vs3.defers,vs3.t0,vs3.t1,vs3.t3,fun q hq => ?_,M,Pr,C.turn hj ht10 fun b hb=>⟨by rw [hsz4];exact hMlt b hb,.inl hb⟩,fun b hb=>by rw [hsz4];exact hMlt b hb,hM,⟨_,_,h10,?_⟩,hx.mono (Keeps.of_moved fun b k _ hp=>ht10.block b ?_ ?_)⟩
   ·obtain ⟨q1,q2,q3⟩:=vs3.ex q hq
    exact ⟨q1,q2,q3.scal1 q2⟩
   ·rw [mapT_succ s hli]
    exact he.push (i:Int) (.bool (!hidT s i)) clock
   ·assumption
   ·intro hmb;exact C.apart hj _ k hmb hp
  refine vs4.region hG (ac:=ACode.snd (ACode.snd lo1)) (by kernel_rfl) (by kernel_rfl) (by kernel_rfl) [(4,.int .i64 ((i+1:Nat):Int))] rfl ?_ ?_
  ·have hw:IntKind.i64.wrap ((i:Int)+1)=i+1:=wrapI (by omega)
   simp [c135,lo1,ACode.fst,ACode.snd,exS,List.lookup,hw]
  intro a5 w5 vs5
  have h45:a5.tmps.getD 4 undef = .int .i64 ((i+1:Nat):Int):=vs5.int (by simp)
  refine ⟨⟨i+1,by omega,by omega,vs5⟩,?_⟩
  simp only [h45,h4]
  simp
  omega
end Go.Proofs.Tryz
namespace Go.Proofs.Tryz
open Go Go.AL Go.RowKit Go.Proofs Go.Proofs.Tram
attribute [local simp] awp_all qs_all ops_all dops_all ops_nil dops_nil ops_call ops_callv ops_alloc ops_box dops_call dops_alloc kO_eq kD_eq awanted apure ev Eff.S Eff.H tmpOf upd putD AL.start AV.dem AV.cells AV.storable AV.scells splice scrub abin loadA HR.okB post ares aress ares1 AV.out AV.isData ints_len ints_get fz fz1 AV.vw AV.vw1 boxy vI int undefA assignQ thenQ blockQ seqQ panQ prol prolH allocOf
variable {GI:World→Prop}
theorem ac58 (hG:Stable GI) (l:List Int) (hl:l.length < 100000) (h:∀ x∈l,0≤x∧x≤1000):AC prog GI 58 [vI l] (.ret (.int .i64 l.sum)):=by
 refine AC.of_body hG hmix func58 rfl ntmps58 (by simp) (ac:=c58) (by kernel_rfl) ?_
 simp [c58,awp_all,qs_all,ops_all,dops_all,ops_nil,dops_nil,ops_call,ops_callv,ops_alloc,ops_box,dops_call,dops_alloc,kO_eq,kD_eq,awanted,apure,ev,Eff.S,Eff.H,tmpOf,upd,putD,AL.start,AV.dem,AV.cells,AV.storable,AV.scells,splice,scrub,abin,loadA,HR.okB,post,ares,aress,ares1,AV.out,AV.isData,ints_len,ints_get,fz,fz1,AV.vw,AV.vw1,boxy,vI,int,undefA,assignQ,thenQ,blockQ,seqQ,panQ,prol,prolH,allocOf]
 refine awp_loop 8 l.length (fun i S H=>S 6=vI l∧S 7 = .int .i64 l.length∧S 8 = .int .i64 (i:Nat)∧S 3 = .int .i64 (l.take i).sum) (fun i S H h=>h.2.2.1) ⟨by simp [awp_all,qs_all,ops_all,dops_all,ops_nil,dops_nil,ops_call,ops_callv,ops_alloc,ops_box,dops_call,dops_alloc,kO_eq,kD_eq,awanted,apure,ev,Eff.S,Eff.H,tmpOf,upd,putD,AL.start,AV.dem,AV.cells,AV.storable,AV.scells,splice,scrub,abin,loadA,HR.okB,post,ares,aress,ares1,AV.out,AV.isData,ints_len,ints_get,fz,fz1,AV.vw,AV.vw1,boxy,vI,int,undefA,assignQ,thenQ,blockQ,seqQ,panQ,prol,prolH,allocOf],by simp [awp_all,qs_all,ops_all,dops_all,ops_nil,dops_nil,ops_call,ops_callv,ops_alloc,ops_box,dops_call,dops_alloc,kO_eq,kD_eq,awanted,apure,ev,Eff.S,Eff.H,tmpOf,upd,putD,AL.start,AV.dem,AV.cells,AV.storable,AV.scells,splice,scrub,abin,loadA,HR.okB,post,ares,aress,ares1,AV.out,AV.isData,ints_len,ints_get,fz,fz1,AV.vw,AV.vw1,boxy,vI,int,undefA,assignQ,thenQ,blockQ,seqQ,panQ,prol,prolH,allocOf],by simp [awp_all,qs_all,ops_all,dops_all,ops_nil,dops_nil,ops_call,ops_callv,ops_alloc,ops_box,dops_call,dops_alloc,kO_eq,kD_eq,awanted,apure,ev,Eff.S,Eff.H,tmpOf,upd,putD,AL.start,AV.dem,AV.cells,AV.storable,AV.scells,splice,scrub,abin,loadA,HR.okB,post,ares,aress,ares1,AV.out,AV.isData,ints_len,ints_get,fz,fz1,AV.vw,AV.vw1,boxy,vI,int,undefA,assignQ,thenQ,blockQ,seqQ,panQ,prol,prolH,allocOf],by simp [awp_all,qs_all,ops_all,dops_all,ops_nil,dops_nil,ops_call,ops_callv,ops_alloc,ops_box,dops_call,dops_alloc,kO_eq,kD_eq,awanted,apure,ev,Eff.S,Eff.H,tmpOf,upd,putD,AL.start,AV.dem,AV.cells,AV.storable,AV.scells,splice,scrub,abin,loadA,HR.okB,post,ares,aress,ares1,AV.out,AV.isData,ints_len,ints_get,fz,fz1,AV.vw,AV.vw1,boxy,vI,int,undefA,assignQ,thenQ,blockQ,seqQ,panQ,prol,prolH,allocOf]⟩ ?_
 rintro i hi S H ⟨s6,s7,s8,s3⟩
 by_cases hlt:i < l.length
 ·have hb:=sum_bounds (l:=l.take i) fun x hx=>h x (List.mem_of_mem_take hx)
  have hx:=h l[i] (List.getElem_mem hlt)
  rw [List.length_take] at hb
  have hw:IntKind.i64.wrap ((i:Int)+1)=i+1:=wrapI (by omega)
  have hw2:IntKind.i64.wrap ((l.take i).sum+l[i])=(l.take i).sum+l[i]:=wrapI (by omega)
  rw [sum_take hlt]
  generalize (l.take i).sum=y at s3 hw2 ⊢
  simp [awp_all,qs_all,ops_all,dops_all,ops_nil,dops_nil,ops_call,ops_callv,ops_alloc,ops_box,dops_call,dops_alloc,kO_eq,kD_eq,awanted,apure,ev,Eff.S,Eff.H,tmpOf,upd,putD,AL.start,AV.dem,AV.cells,AV.storable,AV.scells,splice,scrub,abin,loadA,HR.okB,post,ares,aress,ares1,AV.out,AV.isData,ints_len,ints_get,fz,fz1,AV.vw,AV.vw1,boxy,vI,int,undefA,assignQ,thenQ,blockQ,seqQ,panQ,prol,prolH,allocOf,s6,s7,s8,s3,hlt,hw,hw2]
 ·have hil:i=l.length:=by omega
  subst hil
  rw [List.take_length] at s3
  simp [awp_all,qs_all,ops_all,dops_all,ops_nil,dops_nil,ops_call,ops_callv,ops_alloc,ops_box,dops_call,dops_alloc,kO_eq,kD_eq,awanted,apure,ev,Eff.S,Eff.H,tmpOf,upd,putD,AL.start,AV.dem,AV.cells,AV.storable,AV.scells,splice,scrub,abin,loadA,HR.okB,post,ares,aress,ares1,AV.out,AV.isData,ints_len,ints_get,fz,fz1,AV.vw,AV.vw1,boxy,vI,int,undefA,assignQ,thenQ,blockQ,seqQ,panQ,prol,prolH,allocOf,s6,s7,s8,s3]
def rideF (l:List Int) (i:Nat):Int:=l.getD i 0
theorem sumR_slice (l:List Int) {a b:Nat} (hab:a≤b) (hb:b≤l.length):((l.take b).drop a).sum=sumR (rideF l) a b:=by
 unfold sumR
 congr 1
 apply List.ext_getElem?
 intro i
 rw [List.getElem?_map]
 by_cases hi:i < b - a
 ·rw [List.getElem?_drop,List.getElem?_take_of_lt (by omega),List.getElem?_eq_getElem (by omega),List.getElem?_eq_getElem (by simpa using hi)]
  simp [rideF,List.getD_eq_getElem?_getD,show a+i < l.length by omega]
 ·rw [List.getElem?_eq_none (by simp;omega),List.getElem?_eq_none (by simp;omega)]
  rfl
theorem ac62 (hG:Stable GI) (s:TSheet):AC prog GI 62 [tshA s] (.ret (.func (.func 135) [] [.ref (tshL s)])):=by
 refine AC.of_bodyF hG hmix func62 rfl ntmps62 (by simp) (ac:=c62) (by kernel_rfl) ?_
 simp [c62,tshA,tshL,sheetL,awp,aops,awanted,astep,apure,thenQ,ev,Eff.S,Eff.H,upd,putD,AL.start,AV.dem,AV.cells,AV.storable,scrub,scrub1,tmpOf,vI]
 refine ⟨2,.func 135,[],[.box 1 0],rfl,by decide,by simp [upd],?_⟩
 simp [upd,fz,fz1,AV.vw1]
def aa38:ACode := .ops [⟨(some 6),none,.alloc 33 [(.int .i64 0),(.int .i64 0)]⟩,⟨none,none,.store .any 2 (.t 6) (.t 11)⟩]
def ab38 : ACode := .block 1 <| .seq (.ops [⟨(some 12), none, .load .any false 1 (.t 3)⟩,
    ⟨(some 13),none,.fieldAddr 0 (.t 6)⟩,
    ⟨(some 14),none,.load .any false 1 (.t 13)⟩,
    ⟨(some 15),none,.fieldAddr 1 (.t 6)⟩,
    ⟨(some 16),none,.load .any false 1 (.t 15)⟩,
    ⟨(some 17),none,.bin .add (.t 16) (.c (.int .i64 1))⟩,
    ⟨(some 18),none,.sliceL 1 (.t 12) (some (.t 14)) (some (.t 17))⟩,
    ⟨(some 19),none,.call 58 [(.t 18)]⟩,
    ⟨(some 7),none,.mv true (.t 19)⟩]) <|
  .block 2 <| .loop <|
   .seq (.seq (.ops [⟨(some 20),none,.load .any false 1 (.t 5)⟩,
     ⟨(some 21),none,.fieldAddr 15 (.t 2)⟩,
     ⟨(some 22),none,.load .any false 1 (.t 21)⟩,
     ⟨(some 23),none,.lenL (.t 22)⟩,
     ⟨(some 24),none,.bin .lss (.t 20) (.t 23)⟩,
     ⟨(some 25),none,.mv false (.t 24)⟩,
     ⟨(some 26),(some (25,true)),.fieldAddr 15 (.t 2)⟩,
     ⟨(some 27),(some (25,true)),.load .any false 1 (.t 26)⟩,
     ⟨(some 28),(some (25,true)),.load .any false 1 (.t 5)⟩,
     ⟨(some 29),(some (25,true)),.indexAddr 1 (.t 27) (.t 28)⟩,
     ⟨(some 30),(some (25,true)),.load .any false 1 (.t 29)⟩,
     ⟨(some 31),(some (25,true)),.mv false (.t 7)⟩,
     ⟨(some 32),(some (25,true)),.bin .leq (.t 30) (.t 31)⟩,
     ⟨(some 33),none,.pick (.t 25) (.t 32) (.c (.bool false))⟩]) <|
   .cond (.t 33)
    (.skip)
    (.exit 2)) <|
   .block 3 <| .seq (.ops [⟨(some 34),none,.mv false (.t 7)⟩,
      ⟨(some 35),none,.fieldAddr 15 (.t 2)⟩,
      ⟨(some 36),none,.load .any false 1 (.t 35)⟩,
      ⟨(some 37),none,.load .any false 1 (.t 5)⟩,
      ⟨(some 38),none,.indexAddr 1 (.t 36) (.t 37)⟩,
      ⟨(some 39),none,.load .any false 1 (.t 38)⟩,
      ⟨(some 40),none,.bin .sub (.t 34) (.t 39)⟩,
      ⟨(some 7),none,.mv true (.t 40)⟩]) <|
    .ops [⟨(some 41),none,.load .any false 1 (.t 5)⟩,
      ⟨(some 42),none,.bin .add (.t 41) (.c (.int .i64 1))⟩,
      ⟨none,none,.store .any 1 (.t 5) (.t 42)⟩]
def lp38:ACode :=
   .seq (.seq (.ops [⟨(some 20),none,.load .any false 1 (.t 5)⟩,
     ⟨(some 21),none,.fieldAddr 15 (.t 2)⟩,
     ⟨(some 22),none,.load .any false 1 (.t 21)⟩,
     ⟨(some 23),none,.lenL (.t 22)⟩,
     ⟨(some 24),none,.bin .lss (.t 20) (.t 23)⟩,
     ⟨(some 25),none,.mv false (.t 24)⟩,
     ⟨(some 26),(some (25,true)),.fieldAddr 15 (.t 2)⟩,
     ⟨(some 27),(some (25,true)),.load .any false 1 (.t 26)⟩,
     ⟨(some 28),(some (25,true)),.load .any false 1 (.t 5)⟩,
     ⟨(some 29),(some (25,true)),.indexAddr 1 (.t 27) (.t 28)⟩,
     ⟨(some 30),(some (25,true)),.load .any false 1 (.t 29)⟩,
     ⟨(some 31),(some (25,true)),.mv false (.t 7)⟩,
     ⟨(some 32),(some (25,true)),.bin .leq (.t 30) (.t 31)⟩,
     ⟨(some 33),none,.pick (.t 25) (.t 32) (.c (.bool false))⟩]) <|
   .cond (.t 33)
    (.skip)
    (.exit 2)) <|
   .block 3 <| .seq (.ops [⟨(some 34),none,.mv false (.t 7)⟩,
      ⟨(some 35),none,.fieldAddr 15 (.t 2)⟩,
      ⟨(some 36),none,.load .any false 1 (.t 35)⟩,
      ⟨(some 37),none,.load .any false 1 (.t 5)⟩,
      ⟨(some 38),none,.indexAddr 1 (.t 36) (.t 37)⟩,
      ⟨(some 39),none,.load .any false 1 (.t 38)⟩,
      ⟨(some 40),none,.bin .sub (.t 34) (.t 39)⟩,
      ⟨(some 7),none,.mv true (.t 40)⟩]) <|
    .ops [⟨(some 41),none,.load .any false 1 (.t 5)⟩,
      ⟨(some 42),none,.bin .add (.t 41) (.c (.int .i64 1))⟩,
      ⟨none,none,.store .any 1 (.t 5) (.t 42)⟩]
set_option maxHeartbeats 2000000 in
theorem loop38 {s:TSheet} {needs:List Int} {n tot:Nat} {T:Int} (hn:∀ x∈needs,0≤x∧x≤1000) (hnl:needs.length≤1000) (hnk:n≤needs.length) (hT:0≤T∧T≤100000) (htot:(eat (needs.drop n) T).1=tot) {S:Slots} {H:Boxes} {x3:AV} {Q:AExit→Slots→Boxes→Prop}
  (s2:S 2 = .box 2 0) (h2:H 2=some (tourL s needs)) (h3:H 3=some [x3]) (s5:S 5 = .box 5 0) (h5:H 5=some [.int .i64 (n:Nat)]) (s7:S 7 = .int .i64 T)
  (hQ:∀ S H,H 2=some (tourL s needs)→H 3=some [x3]→H 5=some [.int .i64 ((n+tot:Nat):Int)]→Q (.exit 2) S H):awp prog GI (.loop lp38) Q S H:=by
 have htl:tot≤needs.length - n:=by rw [← htot];have:=eat_le (needs.drop n) T;simpa using this
 refine ⟨fun S H=>∃ m:Nat,m≤tot∧S 2 = .box 2 0∧H 2=some (tourL s needs)∧H 3=some [x3]∧S 5 = .box 5 0∧H 5=some [.int .i64 ((n+m:Nat):Int)]∧S 7 = .int .i64 (T - ((needs.drop n).take m).sum)∧T - ((needs.drop n).take m).sum≤T∧0≤T - ((needs.drop n).take m).sum,
  fun S H=>match H 5 with | some [.int _ j]=>(needs.length - j).toNat | _=>0,⟨0,Nat.zero_le _,s2,h2,h3,s5,h5,by simpa using s7,by simp,by simpa using hT.1⟩,?_⟩
 clear h5 h3 h2 s2 s5 s7 S H
 rintro S H ⟨m,hm,s2,h2,h3,s5,h5,s7,hb1,hb2⟩
 have hsp:=eat_split (needs.drop n) T m (by omega)
 rw [List.drop_drop] at hsp
 have hsp1:tot=m+(eat (needs.drop (n+m)) (T - ((needs.drop n).take m).sum)).1:=by
  rw [← htot,hsp]
 obtain ⟨left,hleft⟩:∃ left,T - ((needs.drop n).take m).sum=left:=⟨_,rfl⟩
 rw [hleft] at hsp1 s7 hb1 hb2
 have h5':H 5=some [.int .i64 ((n:Int)+m)]:=by rw [h5];simp
 by_cases hnm:n+m < needs.length
 case neg =>
  have hm0:(eat (needs.drop (n+m)) left).1=0:=by
   have:=eat_le (needs.drop (n+m)) left
   simp at this;omega
  have hnn:¬ ((n:Int)+m < needs.length):=by omega
  have htm:tot=m:=by omega
  subst htm
  have hq:=hQ
  simp [lp38,tourL,tshL,sheetL,s2,h2,h3,s5,h5,s7,hnm,hnn]
  refine hq _ _ ?_ ?_ ?_
  ·rw [h2]
  ·rw [h3]
  ·rw [h5]
 have hd:needs.drop (n+m)=needs[n+m]::needs.drop (n+m+1):=List.drop_eq_getElem_cons hnm
 have hx:=hn needs[n+m] (List.getElem_mem hnm)
 have hnn:(n:Int)+m < needs.length:=by omega
 have hn0:(0:Int)≤(n:Int)+m:=by omega
 have htn:((n:Int)+m).toNat=n+m:=by omega
 by_cases hle:needs[n+m]≤left
 case neg =>
  have hm0:(eat (needs.drop (n+m)) left).1=0:=by rw [hd,eat,if_neg hle]
  have htm:tot=m:=by omega
  subst htm
  simp [lp38,tourL,tshL,sheetL,s2,h2,h3,s5,h5,s7,hnm,hnn,hn0,htn,hle]
  refine hQ _ _ ?_ ?_ ?_
  ·rw [h2]
  ·rw [h3]
  ·rw [h5]
 case pos =>
  have hm1:m+1≤tot:=by rw [hd,eat,if_pos hle] at hsp1;omega
  have hw1:IntKind.i64.wrap (left - needs[n+m])=left - needs[n+m]:=wrapI (by omega)
  have hw2:IntKind.i64.wrap ((n:Int)+m+1)=n+m+1:=wrapI (by omega)
  have hsum1:T - ((needs.drop n).take (m+1)).sum=left - needs[n+m]:=by
   rw [List.take_succ_eq_append_getElem (by simp;omega),List.sum_append]
   simp
   omega
  simp [lp38,tourL,tshL,sheetL,s2,h2,h3,s5,h5,s7,hnm,hnn,hn0,htn,hle,hw1,hw2]
  refine ⟨⟨m+1,hm1,by omega,by rw [hsum1],by omega,by omega⟩,by omega⟩
def nT (s:TSheet) (needs ride:List Int) (k:Nat):Nat:=readV needs (rideF ride) ((viewsP (seenT s) s.cells.length).take k)
set_option maxRecDepth 100000 in
set_option maxHeartbeats 1000000 in
theorem ac38 (hG:Stable GI) (s:TSheet) (h:TGood s) (needs:List Int) (hn:∀ x∈needs,0≤x∧x≤1000) (hnl:needs.length≤1000) (ride:List Int) (hr:ride.length=s.cells.length) (hrb:∀ x∈ride,0≤x∧x≤1000) :
  AC prog GI 38 [tourA s needs,vI ride] (.ret (.int .i64 (readV needs (rideF ride) (viewsP (seenT s) s.cells.length)))):=by
 have hcells:=h.cells
 refine AC.of_SW func38 rfl ntmps38 (by simp) fun cc w => ?_
 refine SW.cut hG hmix (by kernel_rfl) (ac:=ACode.fst c38) (by kernel_rfl) (fun _ _ h=>h) (fun S' H'=>S' 2 = .box 2 0∧H' 2=some (tourL s needs)∧S' 3 = .box 3 0∧H' 3=some [vI ride]) ?_ ?_
 ·simp [c38,ACode.fst,tourA,tourL,tshL,sheetL]
 rintro S1 H1 ⟨s2,h2,s3,h3⟩
 refine SW.cut hG hmix (by kernel_rfl) (ac:=ACode.fst (ACode.snd c38)) (by kernel_rfl) (fun _ _ h=>h) (fun S' H'=>S' 2 = .box 2 0∧H' 2=some (tourL s needs)∧S' 3 = .box 3 0∧H' 3=some [vI ride]∧S' 5 = .box 5 0∧H' 5=some [.int .i64 0]) ?_ ?_
 ·simp [c38,ACode.fst,ACode.snd,tourL,tshL,sheetL,s2,h2,s3,h3]
  try rfl
 clear s2 h2 s3 h3
 rintro S2 H2 ⟨s2,h2,s3,h3,s5,h5⟩
 refine SW.seq (SW.cut hG hmix (by kernel_rfl) (ac:=ACode.fst (ACode.fst (ACode.snd (ACode.snd c38)))) (by kernel_rfl) (fun _ _ h=>h) (fun S' H'=>S' 2 = .box 2 0∧H' 2=some (tourL s needs)∧S' 3 = .box 3 0∧H' 3=some [vI ride]∧S' 5 = .box 5 0∧H' 5=some [.int .i64 0]∧S' 10 = .func (.func 135) [] [.ref (tshL s)]) ?_ ?_)
 ·simp [c38,ACode.fst,ACode.snd,tourL,tshL,sheetL,s2,h2,s3,h3,s5,h5]
  refine ⟨_,by kernel_rfl,ac62 hG s,by simp [boxy],?_⟩
  simp [s2,h2,s3,h3,s5,h5,tourL,tshL,sheetL]
  try rfl
 clear s2 h2 s3 h3 s5 h5
 rintro S3 H3 ⟨s2,h2,s3,h3,s5,h5,s10⟩
 have s2':noL (fun d=>d==6) (S3 2) = .box 2 0:=by rw [s2];rfl
 have s3':noL (fun d=>d==6) (S3 3) = .box 3 0:=by rw [s3];rfl
 have s5':noL (fun d=>d==6) (S3 5) = .box 5 0:=by rw [s5];rfl
 refine SW.block (SW.range hG hmix (gop := .tmp 10) (y := .t 10) (p:=11) (f:=135) (caps:=[.ref (tshL s)]) (xs:=(viewsT s).map endA) rfl s10 (by kernel_rfl) rfl (it135 hG s h) (by decide) (fun x hx=>by obtain ⟨e,_,rfl⟩:=List.mem_map.1 hx;rfl)
  (fun d=>d==6) (aa:=aa38) (ab:=ab38) (by kernel_rfl) (by kernel_rfl) (by simp [aa38,ACode.names,AOpr.lays,AOp.lays]) (by simp [ab38,ACode.names,AOpr.lays,AOp.lays]) (fun _ _ h=>h) (by kernel_rfl) (by kernel_rfl)
  (fun k H'=>H' 2=some (tourL s needs)∧H' 3=some [vI ride]∧H' 5=some [.int .i64 (nT s needs ride k:Nat)]) (fun _ _=>False) ⟨h2,h3,by rw [h5];rfl⟩ ?_ ?_ ?_)
 ·rintro k hk H' ⟨h2,h3,h5⟩
  have hk':k < (viewsP (seenT s) s.cells.length).length:=by simpa [viewsT] using hk
  obtain ⟨f,t,hft⟩:∃ f t,(viewsP (seenT s) s.cells.length)[k]=(f,t):=⟨_,_,rfl⟩
  have hxk:((viewsT s).map endA)[k] = .agg [.int .i64 (f:Nat),.int .i64 (t:Nat)]:=by simp [viewsT,hft,endA]
  have hno:seenT s s.cells.length=false:=by
   have:=h.pos
   unfold seenT
   have:¬ s.cells.length < s.pos.toNat:=by omega
   simp [this]
  have hok:=(views_ok hno).1 (f,t) (by rw [← hft];exact List.getElem_mem hk')
  simp only at hok
  obtain ⟨hft1,hft2⟩:=hok
  have hw:IntKind.i64.wrap ((t:Int)+1)=t+1:=wrapI (by omega)
  have hsum:=sumR_slice ride (a:=f) (b:=t+1) (by omega) (by omega)
  have hcall:=ac58 hG ((ride.take (t+1)).drop f) (by simp;omega) (fun x hx=>hrb x (List.mem_of_mem_take (List.mem_of_mem_drop hx)))
  have hT0:=sum_bounds (l:=(ride.take (t+1)).drop f) (fun x hx=>hrb x (List.mem_of_mem_take (List.mem_of_mem_drop hx)))
  have hTl:((ride.take (t+1)).drop f).length≤12:=by simp;omega
  have hstep:nT s needs ride (k+1)=nT s needs ride k+(eat (needs.drop (nT s needs ride k)) (sumR (rideF ride) f (t+1))).1:=by
   unfold nT
   rw [List.take_succ_eq_append_getElem hk',hft,readV_append]
  rw [← hsum] at hstep
  have hnk:nT s needs ride k≤needs.length:=readV_le _ _ _
  rw [hxk]
  generalize hTT:((ride.take (t+1)).drop f).sum=T at hcall hT0 hstep
  generalize nT s needs ride k=n at hstep hnk h5
  have i1:((t:Int)+1).toNat=t+1:=by omega
  have i2:t+1≤ride.length:=by omega
  have i3:f≤t+1:=by omega
  have j1:(f:Int)≤(t:Int)+1:=by omega
  have j2:(t:Int)+1≤ride.length:=by omega
  have hsl:List.drop f (List.take (t+1) (ints ride))=ints (List.drop f (List.take (t+1) ride)):=by simp [ints,List.map_drop,List.map_take]
  have hok1:elemsOK 1 (ints ride)=true:=ints_ok _
  simp [aa38,ab38,tourL,tshL,sheetL,s2',h2,s3',h3,s5',h5,hw,i1,i2,i3,j1,j2,bound,hsl,hok1]
  refine ⟨_,by kernel_rfl,hcall,by simp [boxy],?_⟩
  simp [tourL,tshL,sheetL,s2',h2,s3',h3,s5',h5]
  obtain ⟨tot,htot⟩:∃ tot,(eat (needs.drop n) T).1=tot:=⟨_,rfl⟩
  rw [htot] at hstep
  have htl:tot≤needs.length - n:=by rw [← htot];have:=eat_le (needs.drop n) T;simpa using this
  refine loop38 (s:=s) (x3:=vI ride) hn hnl hnk ⟨hT0.1,by omega⟩ htot (by simp [s2']) (by simp [upd,h2]) (by simp [upd,h3]) (by simp [s5']) (by simp [upd,h5]) (by simp [upd]) ?_
  intro S H q2 q3 q5
  simp only [blockQ,if_true,roundQ]
  refine ⟨?_,?_,?_⟩
  ·rw [q2];rfl
  ·rw [q3];rfl
  ·rw [q5,hstep]
 ·rintro D H' hD ⟨h2,h3,h5⟩
  show SW prog GI 44 none (.seq _ .ret) _ _ _ _
  have htk:nT s needs ride ((viewsT s).map endA).length=readV needs (rideF ride) (viewsP (seenT s) s.cells.length):=by
   unfold nT
   rw [List.take_of_length_le (by simp [viewsT])]
  rw [htk] at h5
  refine SW.cut hG hmix (by kernel_rfl) (ac:=ACode.fst (ACode.snd (ACode.snd (ACode.snd c38)))) (by kernel_rfl) (fun _ _ h=>h) (fun S' _=>S' 4 = .int .i64 (readV needs (rideF ride) (viewsP (seenT s) s.cells.length))) ?_ ?_
  ·simp [c38,ACode.fst,ACode.snd,s5',h5]
  intro S4 H4 s4
  refine SW.ret ⟨(Marked.plain rfl).mark hD,rfl,_,?_,rfl⟩
  show ares prog 44 [.tmp 4] S4 H4=_
  simp [ares,aress,ares1,s4,AV.isData,AV.out]
  try rfl
 ·exact fun _ _ _ _ _ h=>h.elim
end Go.Proofs.Tryz
namespace Go.Proofs.Tryz
open Go Go.AL Go.RowKit Go.Proofs Go.Proofs.Tram
attribute [local simp] awp_all qs_all ops_all dops_all ops_nil dops_nil ops_call ops_callv ops_alloc ops_box dops_call dops_alloc kO_eq kD_eq awanted apure ev Eff.S Eff.H tmpOf upd putD AL.start AV.dem AV.cells AV.storable AV.scells splice scrub abin loadA HR.okB post ares aress ares1 AV.out AV.isData ints_len ints_get fz fz1 AV.vw AV.vw1 boxy vI int undefA assignQ thenQ blockQ seqQ panQ prol prolH allocOf
variable {GI:World→Prop}
def readT (e:Nat) (s:TSheet) (needs:List Int):Nat:=readV needs (rideF (rideT e s)) (viewsP (seenT s) s.cells.length)
theorem needs_ok {s:TSheet} (h:TGood s) {es:List End} (he:es.length≤3):(∀ x∈needsT s es,0≤x∧x≤1000)∧(needsT s es).length≤1000:=by
 refine ⟨fun x hx => ?_,?_⟩
 ·obtain ⟨i,hi,rfl⟩:=List.mem_map.1 hx
  have:=need_bound h he (i:=i) (by
   unfold lenW
   split
   ·rename_i x hx
    obtain ⟨hlt,rfl⟩:=List.getElem?_eq_some_iff.1 hx
    exact (wordF h.name (List.getElem_mem hlt)).len6
   ·omega)
  omega
 ·have:=(sheetF h.name).words
  simp [needsT];omega
theorem ride_ok {s:TSheet} (h:TGood s) (e:Nat):(rideT e s).length=s.cells.length∧∀ x∈rideT e s,0≤x∧x≤1000:=by
 refine ⟨by simp [rideT],fun x hx => ?_⟩
 obtain ⟨c,hc,rfl⟩:=List.mem_map.1 hx
 have:=h.ticks c hc
 unfold tickT
 split<;>omega
theorem ac38r (hG:Stable GI) (s:TSheet) (h:TGood s) (needs:List Int) (hn:(∀ x∈needs,0≤x∧x≤1000)∧needs.length≤1000) (e:Nat):AC prog GI 38 [tourA s needs,vI (rideT e s)] (.ret (.int .i64 (readT e s needs))) :=
 ac38 hG s h needs hn.1 hn.2 (rideT e s) (ride_ok h e).1 (ride_ok h e).2
theorem ac37 (hG:Stable GI) (s:TSheet) (h:TGood s) (needs:List Int) (hn:(∀ x∈needs,0≤x∧x≤1000)∧needs.length≤1000):AC prog GI 37 [tourA s needs] (.ret (.bool (decide (readT 0 s needs=needs.length)))):=by
 have h39:=ac39 hG s (by have:=h.cells;omega) 0 (.inl rfl)
 have h38:=ac38r hG s h needs hn 0
 refine AC.of_body hG hmix func37 rfl ntmps37 (by simp) (ac:=c37) (by kernel_rfl) ?_
 simp [c37,tourA,tourL,tshL,sheetL]
 refine ⟨_,by kernel_rfl,h39,by simp [boxy],?_⟩
 simp
 refine ⟨_,by kernel_rfl,h38,by simp [boxy],?_⟩
 simp
 rw [Bool.eq_iff_iff]
 simp
 omega
def sureO (e:Nat) (s:TSheet):List AV :=
 if tshI s then (match setE s.name with | some es=>[.int .i64 (readT e s (needsT s es)),.int .i64 0] | none=>[.int .i64 0,.int .i64 7]) else [.int .i64 0,.int .i64 2]
theorem opened_cases (s:TSheet):(tshI s=true∧∃ es,setE s.name=some es∧openedO s (tshI s)=[tourA s (needsT s es),.int .i64 0]) ∨
  (∃ e:Int,e≠0∧openedO s (tshI s)=[tourA zT [],.int .i64 e]∧∀ k,sureO k s=[.int .i64 0,.int .i64 e]):=by
 cases hI:tshI s with
 |false=>exact .inr ⟨2,by decide,by simp [openedO],fun k=>by simp [sureO,hI]⟩
 |true =>
  cases hs:setE s.name with
  |some es=>exact .inl ⟨rfl,es,rfl,by simp [openedO,hs]⟩
  |none=>exact .inr ⟨7,by decide,by simp [openedO,hs],fun k=>by simp [sureO,hI,hs]⟩
theorem ac12 (hG:Stable GI) (s:TSheet) (hs:TSlim s):AC prog GI 12 [tshA s] (.ret (.tup (sureO 0 s))):=by
 have h36:=ac36 hG s hs
 have h35:=ac35 hG s hs
 rcases opened_cases s with ⟨hI,es,hset,ho⟩ | ⟨e,he,ho,hse⟩
 ·rw [ho] at h35
  have hg:=tsh_good hI
  have h39:=ac39 hG s (by have:=hg.cells;omega) 0 (.inl rfl)
  have h38:=ac38r hG s hg _ (needs_ok hg (setE_len hg.name hset)) 0
  have hse:sureO 0 s=[.int .i64 (readT 0 s (needsT s es)),.int .i64 0]:=by simp [sureO,hI,hset]
  rw [hse]
  refine AC.of_body hG hmix func12 rfl ntmps12 (by simp) (ac:=c12) (by kernel_rfl) ?_
  simp [c12,tshA,tshL,sheetL]
  refine ⟨_,by kernel_rfl,h36,by simp [boxy],?_⟩
  simp
  refine ⟨_,by kernel_rfl,h35,by simp [boxy],?_⟩
  simp [tourA,tourL,tshL,sheetL,fillA]
  refine ⟨_,by kernel_rfl,h39,by simp [boxy],?_⟩
  simp
  refine ⟨_,by kernel_rfl,h38,by simp [boxy],?_⟩
  simp
 ·rw [ho] at h35
  rw [hse]
  have he':(e != 0)=true:=by simpa using he
  refine AC.of_body hG hmix func12 rfl ntmps12 (by simp) (ac:=c12) (by kernel_rfl) ?_
  simp [c12,tshA,tshL,sheetL]
  refine ⟨_,by kernel_rfl,h36,by simp [boxy],?_⟩
  simp
  refine ⟨_,by kernel_rfl,h35,by simp [boxy],?_⟩
  simp [tourA,tourL,tshL,sheetL,zT,fillA,he,he']
theorem ac13 (hG:Stable GI) (s:TSheet) (hs:TSlim s):AC prog GI 13 [tshA s] (.ret (.tup (sureO 1 s))):=by
 have h36:=ac36 hG s hs
 have h35:=ac35 hG s hs
 rcases opened_cases s with ⟨hI,es,hset,ho⟩ | ⟨e,he,ho,hse⟩
 ·rw [ho] at h35
  have hg:=tsh_good hI
  have h39:=ac39 hG s (by have:=hg.cells;omega) 1 (.inr rfl)
  have h38:=ac38r hG s hg _ (needs_ok hg (setE_len hg.name hset)) 1
  have hse:sureO 1 s=[.int .i64 (readT 1 s (needsT s es)),.int .i64 0]:=by simp [sureO,hI,hset]
  rw [hse]
  refine AC.of_body hG hmix func13 rfl ntmps13 (by simp) (ac:=c13) (by kernel_rfl) ?_
  simp [c13,tshA,tshL,sheetL]
  refine ⟨_,by kernel_rfl,h36,by simp [boxy],?_⟩
  simp
  refine ⟨_,by kernel_rfl,h35,by simp [boxy],?_⟩
  simp [tourA,tourL,tshL,sheetL,fillA]
  refine ⟨_,by kernel_rfl,h39,by simp [boxy],?_⟩
  simp
  refine ⟨_,by kernel_rfl,h38,by simp [boxy],?_⟩
  simp
 ·rw [ho] at h35
  rw [hse]
  have he':(e != 0)=true:=by simpa using he
  refine AC.of_body hG hmix func13 rfl ntmps13 (by simp) (ac:=c13) (by kernel_rfl) ?_
  simp [c13,tshA,tshL,sheetL]
  refine ⟨_,by kernel_rfl,h36,by simp [boxy],?_⟩
  simp
  refine ⟨_,by kernel_rfl,h35,by simp [boxy],?_⟩
  simp [tourA,tourL,tshL,sheetL,zT,fillA,he,he']
def atR (s:TSheet) (r:Nat):TSheet:={ s with reach:=r }
theorem atR_good {s:TSheet} (h:TGood s) {r:Nat} (h1:1≤r) (h2:r≤12):TGood (atR s r):=⟨h.cells,h.ticks,h.pos,⟨by show (1:Int)≤(r:Int);omega,by show (r:Int)≤12;omega⟩,h.pace,h.turn,h.name⟩
def farB (s:TSheet) (needs:List Int) (r:Nat):Bool:=decide (readT 0 (atR s r) needs=needs.length)
def farO (s:TSheet):List AV :=
 if tshI s then (match setE s.name with | some es=>(match (List.range' 1 12).find? (farB s (needsT s es)) with | some r=>[.int .i64 (r:Nat),.int .i64 0] | none=>[.int .i64 0,.int .i64 5]) | none=>[.int .i64 0,.int .i64 7]) else [.int .i64 0,.int .i64 2]
theorem find_first {p:Nat→Bool} {r n:Nat} (h1:1≤r) (h2:r≤n) (hp:p r=true) (hb:∀ k,1≤k→k < r→p k=false):(List.range' 1 n).find? p=some r:=by
 rw [show n=(r - 1)+(n - (r - 1)) by omega,← List.range'_append_1,List.find?_append]
 have h0:(List.range' 1 (r - 1)).find? p=none:=by
  rw [List.find?_eq_none]
  intro x hx
  have:=List.mem_range'_1.1 hx
  rw [hb x this.1 (by omega)];simp
 rw [h0,Option.none_or,show n - (r - 1)=(n - r)+1 by omega,List.range'_succ,List.find?_cons]
 rw [show 1+(r - 1)=r by omega,hp]
theorem find_nothing {p:Nat→Bool} {n:Nat} (hb:∀ k,1≤k→k≤n→p k=false):(List.range' 1 n).find? p=none:=by
 rw [List.find?_eq_none]
 intro x hx
 have:=List.mem_range'_1.1 hx
 rw [hb x this.1 (by omega)];simp
theorem ac11 (hG:Stable GI) (s:TSheet) (hs:TSlim s):AC prog GI 11 [tshA s] (.ret (.tup (farO s))):=by
 have h36:=ac36 hG s hs
 have h35:=ac35 hG s hs
 rcases opened_cases s with ⟨hI,es,hset,ho⟩ | ⟨e,he,ho,hse⟩
 ·rw [ho] at h35
  have hg:=tsh_good hI
  have hn:=needs_ok hg (setE_len hg.name hset)
  have hfo:farO s=(match (List.range' 1 12).find? (farB s (needsT s es)) with | some r=>[.int .i64 (r:Nat),.int .i64 0] | none=>[.int .i64 0,.int .i64 5]):=by simp [farO,hI,hset]
  rw [hfo]
  generalize needsT s es=needs at h35 hn ⊢
  refine AC.of_body hG hmix func11 rfl ntmps11 (by simp) (ac:=c11) (by kernel_rfl) ?_
  simp [c11,tshA,tshL,sheetL]
  refine ⟨_,by kernel_rfl,h36,by simp [boxy],?_⟩
  simp
  refine ⟨_,by kernel_rfl,h35,by simp [boxy],?_⟩
  simp [tourA,tourL,tshL,sheetL,fillA]
  refine ⟨fun S H=>∃ r:Nat,1≤r∧r≤13∧S 4 = .box 4 0∧H 4=some (tourL (atR s r) needs)∧∀ k,1≤k→k < r→farB s needs k=false,fun _ H=>match H 4 with | some (_::_ :: .int _ r::_)=>(13 - r).toNat | _=>0,⟨1,Nat.le_refl _,by decide,?_⟩,?_⟩
  ·simp [tourL,tshL,sheetL,atR]
   intro k h1 h2;omega
  rintro S H ⟨r,hr1,hr2,s4,h4,hb⟩
  by_cases hle:r≤12
  case neg =>
   have hr:r=13:=by omega
   subst hr
   rw [find_nothing fun k h1 h2=>hb k h1 (by omega)]
   simp [tourL,tshL,sheetL,atR,s4,h4]
  have hle':(r:Int)≤12:=by omega
  have h37:=ac37 hG (atR s r) (atR_good hg hr1 hle) needs hn
  cases hf:farB s needs r with
  |true =>
   unfold farB at hf
   rw [hf] at h37
   rw [find_first hr1 hle (show farB s needs r=true from hf) hb]
   simp [tourL,tshL,sheetL,atR,s4,h4,hle']
   refine ⟨_,by kernel_rfl,h37,by simp [boxy],?_⟩
   simp [tourL,tshL,sheetL,atR,s4,h4]
  |false =>
   have hf':=hf
   unfold farB at hf'
   rw [hf'] at h37
   have hw:IntKind.i64.wrap ((r:Int)+1)=r+1:=wrapI (by omega)
   simp [tourL,tshL,sheetL,atR,s4,h4,hle']
   refine ⟨_,by kernel_rfl,h37,by simp [boxy],?_⟩
   simp [tourL,tshL,sheetL,atR,s4,h4,hw]
   refine ⟨⟨r+1,by omega,by omega,by omega,fun k h1 h2 => ?_⟩,by omega⟩
   by_cases hk:k=r
   ·rw [hk];exact hf
   ·exact hb k h1 (by omega)
 ·rw [ho] at h35
  have hfe:farO s=[.int .i64 0,.int .i64 e]:=by
   have:=hse 0
   unfold sureO at this
   unfold farO
   cases hI:tshI s with
   |false=>simpa [hI] using this
   |true =>
    cases hset:setE s.name with
    |none=>simpa [hI,hset] using this
    |some es=>simp [hI,hset,openedO] at ho;exact absurd ho.2.symm he
  rw [hfe]
  have he':(e != 0)=true:=by simpa using he
  refine AC.of_body hG hmix func11 rfl ntmps11 (by simp) (ac:=c11) (by kernel_rfl) ?_
  simp [c11,tshA,tshL,sheetL]
  refine ⟨_,by kernel_rfl,h36,by simp [boxy],?_⟩
  simp
  refine ⟨_,by kernel_rfl,h35,by simp [boxy],?_⟩
  simp [tourA,tourL,tshL,sheetL,zT,fillA,he,he']
end Go.Proofs.Tryz
namespace Go.Proofs.Tryz
open Go Go.AL Go.RowKit Go.Proofs
attribute [local simp] awp_all qs_all ops_all dops_all ops_nil dops_nil ops_call ops_callv ops_alloc ops_box dops_call dops_alloc kO_eq kD_eq awanted apure ev Eff.S Eff.H tmpOf upd putD AL.start AV.dem AV.cells AV.storable AV.scells splice scrub abin loadA HR.okB post ares aress ares1 AV.out AV.isData ints_len ints_get fz fz1 AV.vw AV.vw1 boxy vI int undefA assignQ thenQ blockQ seqQ panQ prol prolH allocOf
variable {GI:World→Prop}
def standsI (s:CSheet) (k a b:Nat) (p:Bool):Bool := !decide (sumS (lowS s) a b < needS s k) && !(p && decide (peelS s k < sumS (highS s) a b))
theorem standsO_cases (s:CSheet) (k a b:Nat) (p:Bool):(standsI s k a b p=true∧standsO s k a b p = .ret (.tup []))∨(standsI s k a b p=false∧∃ r,standsO s k a b p = .panic (faultA k r)):=by
 unfold standsI standsO
 by_cases h1:sumS (lowS s) a b < needS s k
 ·exact .inr ⟨by simp [h1],1,by simp [h1]⟩
 by_cases h2:(p && decide (peelS s k < sumS (highS s) a b))=true
 ·exact .inr ⟨by simp [h1,h2],2,by simp [h1,h2]⟩
 ·exact .inl ⟨by simp [h1,h2],by simp [h1,h2]⟩
theorem ac171 (hG:Stable GI) (s:CSheet) (hl:s.dry.length≤1000) (hb:dryOK s) {k a:Nat} (hk:k < s.coats.length) (ha:a≤s.dry.length):AC prog GI 171 [.ref (shopL s),.ref [.int .i64 (k:Nat)],.ref [.int .i64 (a:Nat)]] (standsO s k a s.dry.length false):=by
 have h:=ac84 hG s hl hb false hk ha (Nat.le_refl _)
 rcases standsO_cases s k a s.dry.length false with ⟨_,e⟩ | ⟨_,r,e⟩
 ·rw [e] at h ⊢
  refine AC.of_body hG hmix func171 rfl ntmps171 (by simp) (ac:=c171) (by kernel_rfl) ?_
  simp [c171,shopA,shopL,cshL,endsA]
  exact ⟨_,by kernel_rfl,h,by simp [boxy],by simp⟩
 ·rw [e] at h ⊢
  refine AC.of_body hG hmix func171 rfl ntmps171 (by simp) (ac:=c171) (by kernel_rfl) ?_
  simp [c171,shopA,shopL,cshL,endsA]
  exact ⟨_,by kernel_rfl,h,by simp [boxy,faultA,AOut.scal],by simp [faultA]⟩
theorem ac172 (hG:Stable GI) (s:CSheet) (hl:s.dry.length≤1000) (hb:dryOK s) {k a b:Nat} (hk:k < s.coats.length) (ha:a≤s.dry.length) (hb':b≤s.dry.length):AC prog GI 172 [.ref (shopL s),.ref [.int .i64 (k:Nat)],.ref [.int .i64 (a:Nat)],.ref [.int .i64 (b:Nat)]] (standsO s k a b true):=by
 have h:=ac84 hG s hl hb true hk ha hb'
 rcases standsO_cases s k a b true with ⟨_,e⟩ | ⟨_,r,e⟩
 ·rw [e] at h ⊢
  refine AC.of_body hG hmix func172 rfl ntmps172 (by simp) (ac:=c172) (by kernel_rfl) ?_
  simp [c172,shopA,shopL,cshL,endsA]
  exact ⟨_,by kernel_rfl,h,by simp [boxy],by simp⟩
 ·rw [e] at h ⊢
  refine AC.of_body hG hmix func172 rfl ntmps172 (by simp) (ac:=c172) (by kernel_rfl) ?_
  simp [c172,shopA,shopL,cshL,endsA]
  exact ⟨_,by kernel_rfl,h,by simp [boxy,faultA,AOut.scal],by simp [faultA]⟩
theorem att_of (hG:Stable GI) (s:CSheet) {f k a b:Nat} {p:Bool} {caps:List AV} (hf:callable prog f=true) (h:AC prog GI f caps (standsO s k a b p)):∃ c r,AC prog GI 82 [.func (.func f) [] caps] (.ret (attO c r (if standsI s k a b p then 0 else 7))):=by
 rcases standsO_cases s k a b p with ⟨e1,e⟩ | ⟨e1,r,e⟩
 ·rw [e] at h
  exact ⟨0,0,by rw [e1];exact ac82 hG hf h (.inl ⟨_,rfl,rfl,rfl,rfl⟩)⟩
 ·rw [e] at h
  exact ⟨k,r,by rw [e1];exact ac82 hG hf h (.inr ⟨rfl,rfl⟩)⟩
def goesI (s:CSheet):Nat→Nat→Nat→Bool
 |0,k,d=>standsI s k d s.dry.length false
 |r+1,k,d=>s.work.any fun x=>decide ((d:Int) < x) && (standsI s k d x.toNat true && goesI s r (k+1) x.toNat)
def Coh (s:CSheet) (l:List (List Int×Value)):Prop:=∀ x∈l,∃ k d r:Nat,x=([(k:Int),(d:Int)],.bool (goesI s r k d))∧k+r+1=s.coats.length
end Go.Proofs.Tryz
namespace Go.Proofs.Tryz
open Go Go.AL Go.RowKit Go.Proofs
attribute [local simp] awp_all qs_all ops_all dops_all ops_nil dops_nil ops_call ops_callv ops_alloc ops_box dops_call dops_alloc kO_eq kD_eq awanted apure ev Eff.S Eff.H tmpOf upd putD AL.start AV.dem AV.cells AV.storable AV.scells splice scrub abin loadA HR.okB post ares aress ares1 AV.out AV.isData ints_len ints_get fz fz1 AV.vw AV.vw1 boxy vI int undefA assignQ thenQ blockQ seqQ panQ prol prolH allocOf
abbrev GT:World→Prop:=fun _=>True
theorem hGT:Stable GT:=fun _ _ _ _=>trivial
def encS (k:List Int):Value := .agg (intsV k)
def mapV (b:Nat):Value := .map (some b)
def MapS (s:CSheet) (bM:Nat) (l0:List (List Int×Value)) (k:Nat) (w:World):Prop :=
 ∃ es clock l,w.heap[bM]? = some (.map es clock)∧EntK encS es l∧Coh s l∧∀ x∈l,x∈l0∨∃ k' d':Nat,x.1=[(k':Int),(d':Int)]∧k≤k'
def FG (s:CSheet) (k d bM:Nat) (S:Slots):Prop :=
 S 3 = .val (mapV bM)∧S 4 = .ref (shopL s)∧S 5 = .ref [.int .i64 (k:Nat)]∧S 6 = .ref [.int .i64 (d:Nat)]∧S 9 = .ref [.int .i64 (k:Nat),.int .i64 (d:Nat)]
theorem writes_all (ops:Array Oper):Writes ops (fun _=>true)=true:=by
 unfold Writes
 rw [Array.all_eq_true']
 intro o _
 cases o.dst<;>rfl
def GS (s:CSheet) (k d bM:Nat) (l0:List (List Int×Value)) (wS:World) (o0:Old) (kk:Nat) (E:Slots→Boxes→Prop) (a:Act) (w:World):Prop :=
 ∃ wB g S H,Rel prog wB 75 NoU g S H a w∧g.old=o0∧Turn (fun b=>b=bM) wS wB∧wB.heap.size=wS.heap.size∧FG s k d bM S∧E S H∧MapS s bM l0 kk w
section
variable {s:CSheet} {k d bM kk:Nat} {l0:List (List Int×Value)} {wS:World} {o0:Old} {E E':Slots→Boxes→Prop} {a:Act} {w:World} {Q:Exit→Act→World→Prop} {m:Nat}
theorem MapS.same {w w':World} {k:Nat} (h:MapS s bM l0 k w) (he:w'.heap[bM]? = w.heap[bM]?):MapS s bM l0 k w':=by
 obtain ⟨es,clock,l,h1,h2⟩:=h
 exact ⟨es,clock,l,by rw [he];exact h1,h2⟩
theorem GS.region (h:GS s k d bM l0 wS o0 kk E a w) (hlt:bM < wS.heap.size) (hbx:∀ d,¬ o0.bx d) {id:Nat} {ops:Array Oper} {ac:ACode} (hc:calmC (.region id ops false)=true) (hac:compC prog 75 (.region id ops false)=ac)
  (haw:∀ S H,FG s k d bM S→E S H→awp prog GT ac (assignQ fun S' H'=>FG s k d bM S'∧E' S' H') S H) (hk:∀ a' w',GS s k d bM l0 wS o0 kk E' a' w'→Q .normal a' w'):(Code.region id ops false).wpIn (FR none) m prog Q a w:=by
 obtain ⟨wB,g,S,H,R,ho,ht,hsz,hF,hE,hM⟩:=h
 refine region_step R hGT trivial hmix hc hac (W:=fun _=>true) (writes_all ops) (by rw [ho];exact hbx) (haw S H hF hE) ?_
 rintro g' S' H' a' w' ho' R' ⟨hF',hE'⟩ _
 refine hk a' w' ⟨wB,g',S',H',R',ho'.trans ho,ht,hsz,hF',hE',hM.same ?_⟩
 have hb:bM < g.base:=by rw [R.base,hsz];exact hlt
 have hb':bM < g'.base:=by rw [R'.base,hsz];exact hlt
 rw [R'.below.block bM hb',R.below.block bM hb]
theorem GS.bool (h:GS s k d bM l0 wS o0 kk E a w) {t:Nat} (ht:t < 75) {b:Bool} (hS:∀ S H,E S H→S t = .bool b):a.tmps.getD t undef = .bool b:=by
 obtain ⟨wB,g,S,H,R,ho,_,hsz,hF,hE,hM⟩:=h
 have:=R.slot t ht id
 rw [hS S H hE] at this
 exact this.bool_eq
theorem GS.fin (h:GS s k d bM l0 wS o0 kk E a w) (hd:o0.ds=[]):a.defers=[]∧Turn (fun b=>b=bM) wS w∧MapS s bM l0 kk w:=by
 obtain ⟨wB,g,S,H,R,ho,ht,hsz,hF,hE,hM⟩:=h
 have hb:Below wS.heap.size wB w:=by have:=R.below;rwa [R.base,hsz] at this
 refine ⟨by rw [R.defers,ho];exact hd,⟨hb.os.trans ht.os,hb.tape.trans ht.tape,hb.output.trans ht.output,by rw [← hsz];have:=hb.size;omega,fun b hlt hne=>(hb.block b hlt).trans (ht.block b hlt hne)⟩,hM⟩
theorem GS.mono (h:GS s k d bM l0 wS o0 kk E a w) (he:∀ S H,E S H→E' S H):GS s k d bM l0 wS o0 kk E' a w:=by
 obtain ⟨wB,g,S,H,R,ho,ht,hsz,hF,hE,hM⟩:=h
 exact ⟨wB,g,S,H,R,ho,ht,hsz,hF,he S H hE,hM⟩
end
noncomputable def tl143:ACode:=ACode.snd (ACode.snd (ACode.snd (ACode.snd c143)))
noncomputable def md143:ACode:=ACode.fst tl143
noncomputable def oth143:ACode:=ACode.snd (ACode.snd md143)
noncomputable def bd143:ACode:=ACode.snd (ACode.snd (ACode.snd oth143))
noncomputable def in143:ACode:=ACode.snd (ACode.fst (ACode.snd (ACode.snd bd143)))
def ACode.lft:ACode→ACode
 |.cond _ x _=>x
 |c=>c
theorem MapS.weak {s:CSheet} {bM:Nat} {l0:List (List Int×Value)} {k k':Nat} {w:World} (h:MapS s bM l0 k w) (hk:k'≤k):MapS s bM l0 k' w:=by
 obtain ⟨es,clock,l,h1,h2,h3,h4⟩:=h
 refine ⟨es,clock,l,h1,h2,h3,fun x hx => ?_⟩
 rcases h4 x hx with h | ⟨a,b,e,hab⟩
 ·exact .inl h
 ·exact .inr ⟨a,b,e,by omega⟩
theorem turn_swap {wS wB w9 w10:World} {bM k:Nat} {o:Obj} (ht:Turn (fun b=>b=bM) wS wB) (hsz:wB.heap.size=wS.heap.size) (hB:Below k wB w9) (ht10:Turn (fun b=>b=bM) w9 w10):Turn (fun b=>b=bM) wS (swapW wB w10 bM o):=by
 refine ⟨by simp only [swapW];rw [ht10.os,hB.os,ht.os],by simp only [swapW];rw [ht10.tape,hB.tape,ht.tape],by simp only [swapW];rw [ht10.output,hB.output,ht.output],by simp [swapW,hsz],fun b hb hne => ?_⟩
 simp only [swapW]
 rw [Array.getElem?_setIfInBounds_ne (Ne.symm hne)]
 exact ht.block b hb hne
theorem Coh.len {s:CSheet} {l:List (List Int×Value)} (h:Coh s l):∀ x∈l,x.1.length=2:=fun x hx=>by
 obtain ⟨k,d,r,rfl,_⟩:=h x hx
 rfl
def predG (s:CSheet) (r k d:Nat) (x:Int):Bool:=decide ((d:Int) < x) && (standsI s k d x.toNat true && goesI s r (k+1) x.toNat)
theorem shopL_dem (s:CSheet):(shopL s).map AV.dem=shopL s:=by simp [shopL,cshL,vI,AV.dem]
set_option maxRecDepth 100000 in
theorem goes_ok (s:CSheet) (hl:s.dry.length≤1000) (hb:dryOK s) (hwk:∀ x∈s.work,0≤x∧x < s.dry.length) (hwl:s.work.length≤1000) (hcl:s.coats.length≤1000) :
  ∀ (r k d:Nat),k+r+1=s.coats.length→d≤s.dry.length→∀ (w:World) (Pr:Nat→Nat→Prop) (bM:Nat) (es:Array MapEntry) (clock:Nat) (l:List (List Int×Value)) (c0:Value),
   w.heap[bM]? = some (.map es clock)→EntK encS es l→Coh s l→(∀ j,¬ Pr bM j)→RD Pr w (shopA s) c0 →
   Calls prog 143 #[c0,.int .i64 (k:Nat),.int .i64 (d:Nat),mapV bM] w fun e w'=>e = .returned (.bool (goesI s r k d))∧Turn (fun b=>b=bM) w w'∧MapS s bM l k w':=by
 intro r
 induction r using Nat.strongRecOn with
 |_ r ih =>
 intro k d hk hd w Pr bM es clock l c0 hM hes hcoh hno hc0
 have hlt:bM < w.heap.size:=(Array.getElem?_eq_some_iff.1 hM).1
 have hkc:k < s.coats.length:=by omega
 refine (callsIn_FR (ro:=none) (m:=0)).1 (callsIn_of_wp func143 rfl trivial ?_)
 have R:Rel prog w 75 NoU _ (AL.start [shopA s,.int .i64 (k:Nat),.int .i64 (d:Nat),.val (mapV bM)]) (fun _=>none) { tmps := #[c0,.int .i64 (k:Nat),.int .i64 (d:Nat),mapV bM]++Array.replicate (f143.ntmps - 4) undef,defers:=[] } w:=Rel.begin (old:=Pr) ntmps143 (by simp) rfl (fun i h h'=>by
  match i,h with
  |0,_=>exact .data _ _ hc0
  |1,_=>exact .data _ _ (.int _ _)
  |2,_=>exact .data _ _ (.int _ _)
  |3,_=>exact .data _ _ (.val _ rfl))
 refine wpIn_seq ?_
 refine region_step R hGT trivial hmix (ac:=ACode.fst c143) (W:=fun _=>true) (by kernel_rfl) (by kernel_rfl) (writes_all _) (fun _ h=>h) (K:=fun S H=>S 3 = .val (mapV bM)∧S 4 = .box 4 0∧H 4=some (shopL s)∧S 5 = .box 5 0∧H 5=some [.int .i64 (k:Nat)]∧S 6 = .box 6 0∧H 6=some [.int .i64 (d:Nat)]) ?_ ?_
 ·simp [c143,ACode.fst,shopA,shopL,cshL]
 rintro g1 S1 H1 a1 w1 ho1 R1 ⟨s3,s4,h4,s5,h5,s6,h6⟩ _
 show Code.wpIn _ _ _ _ _ a1 w1
 refine wpIn_seq ?_
 refine region_step R1 hGT trivial hmix (ac:=ACode.fst (ACode.snd c143)) (W:=fun _=>true) (by kernel_rfl) (by kernel_rfl) (writes_all _) (by rw [ho1];exact fun _ h=>h) (K:=fun S H=>S 3 = .val (mapV bM)∧S 4 = .box 4 0∧H 4=some (shopL s)∧S 5 = .box 5 0∧H 5=some [.int .i64 (k:Nat)]∧S 6 = .box 6 0∧H 6=some [.int .i64 (d:Nat)]∧S 9 = .box 9 0∧H 9=some [.int .i64 (k:Nat),.int .i64 (d:Nat)]) ?_ ?_
 ·simp [c143,ACode.fst,ACode.snd,fillA,s3,s4,h4,s5,h5,s6,h6]
 rintro g2 S2 H2 a2 w2 ho2 R2 ⟨s3,s4,h4,s5,h5,s6,h6,s9,h9⟩ _
 show Code.wpIn _ _ _ _ _ a2 w2
 obtain ⟨g21,o21,R21⟩:=R2.freeze h4 (by rw [ho2,ho1];rfl)
 obtain ⟨g22,o22,R22⟩:=R21.freeze (i:=5) (by rw [upd_ne _ _ (by decide)];exact h5) (by rw [o21,ho2,ho1];rfl)
 obtain ⟨g23,o23,R23⟩:=R22.freeze (i:=6) (by rw [upd_ne _ _ (by decide),upd_ne _ _ (by decide)];exact h6) (by rw [o22,o21,ho2,ho1];rfl)
 obtain ⟨g24,o24,R24⟩:=R23.freeze (i:=9) (by rw [upd_ne _ _ (by decide),upd_ne _ _ (by decide),upd_ne _ _ (by decide)];exact h9) (by rw [o23,o22,o21,ho2,ho1];rfl)
 obtain ⟨SF,hSF⟩:∃ SF:Slots,SF=fun t=>frz 9 [.int .i64 (k:Nat),.int .i64 (d:Nat)] (frz 6 [.int .i64 (d:Nat)] (frz 5 [.int .i64 (k:Nat)] (frz 4 (shopL s) (S2 t)))):=⟨_,rfl⟩
 rw [← hSF] at R24
 have hF:FG s k d bM SF:=by
  rw [hSF]
  refine ⟨?_,?_,?_,?_,?_⟩
  ·simp [frz,s3,scrub]
  ·simp [frz,s4,scrub,shopL,cshL,vI,AV.dem]
  ·simp [frz,s5,scrub,AV.dem]
  ·simp [frz,s6,scrub,AV.dem]
  ·simp [frz,s9,scrub,AV.dem]
 have hM2:w2.heap[bM]? = some (.map es clock):=by
  rw [R2.below.block bM (by rw [R2.base];exact hlt)];exact hM
 have og:∃ o0,g24.old=o0∧(∀ d,¬ o0.bx d)∧o0.ds=[]∧o0.c=Pr∧o0.facts=[]:=⟨_,rfl,by rw [o24,o23,o22,o21,ho2,ho1];exact fun _ h=>h,by rw [o24,o23,o22,o21,ho2,ho1];rfl,by rw [o24,o23,o22,o21,ho2,ho1];rfl,by rw [o24,o23,o22,o21,ho2,ho1];rfl⟩
 obtain ⟨o0,ho0,hbx,hds,hoc,hof⟩:=og
 have hmt:prog.underlying 232=some (.map 259 4):=by kernel_rfl
 obtain ⟨fs,hfs⟩:=under_struct (P:=prog) (t:=259) (by kernel_rfl)
 have hfl:flatI prog 10000 259=some 2:=by kernel_rfl
 obtain ⟨i4,hi4,hz4⟩:=Option.bind_eq_some_iff.1 (show (prog.info? 4).bind (·.zero)=some (.bool false) by kernel_rfl)
 refine wpIn_seq (wpIn_seq ?_)
 refine front_step R24 hGT trivial (p:=2) (l2:=[2,3,4,5,6,7]) rfl (by kernel_rfl) (by kernel_rfl) (l:=(ACode.dl (ACode.fst (ACode.fst (ACode.snd (ACode.snd c143))))).take 2) (by kernel_rfl) (by decide) (W:=fun _=>true) (writes_all _) (by rw [ho0];exact hbx)
  (K:=fun S H=>FG s k d bM S∧S 23 = .val (mapV bM)∧S 24 = .agg [.int .i64 (k:Nat),.int .i64 (d:Nat)]) ?_ ?_
 ·obtain ⟨s3,s4,s5,s6,s9⟩:=hF
  simp [c143,ACode.fst,ACode.snd,ACode.dl,aops,awanted,astep,apure,Eff.S,Eff.H,ev,upd,putD,FG,s3,s4,s5,s6,s9,loadA,AV.dem,HR.okB]
 clear hF hSF
 rintro g3 S3 H3 a3 w3 ho3 R3 ⟨hF,s23,s24⟩ _
 rw [ho0] at ho3
 have hbase:bM < g3.base:=by rw [R3.base];exact hlt
 have hM3:w3.heap[bM]? = some (.map es clock):=by
  rw [R3.below.block bM hbase];exact hM
 have e23:a3.eval (.tmp 23)=mapV bM:=by
  have:=R3.slot 23 (by decide) id
  rw [s23] at this
  exact this.val_eq
 have e24:a3.eval (.tmp 24) = .agg (intsV [(k:Int),(d:Int)]):=by
  have:=R3.slot 24 (by decide) id
  rw [s24] at this
  exact aggI2 this
 have look:∃ (b1 b2:Bool),(∀ o:Oper,o.op = .lookup 232 (.tmp 23) (.tmp 24) true→(execOp a3.eval o).run prog w3 = .ok (.value (.tuple #[.bool b1,.bool b2])) w3)∧(b2=true→b1=goesI s r k d)∧(b2=false→∀ x∈l,x.1≠[(k:Int),(d:Int)]):=by
  have hrun:∀ o:Oper,o.op = .lookup 232 (.tmp 23) (.tmp 24) true→_:=fun o ho=>run_mapGetS (P:=prog) (a:=a3) (w:=w3) (t:=232) (x1 := .tmp 23) (x2 := .tmp 24) (key:=[(k:Int),(d:Int)]) ho hmt hfs hfl hi4 hz4 e23 e24 rfl hM3 hes hcoh.len
  cases hlk:lookK [(k:Int),(d:Int)] l 0 with
  |none =>
   refine ⟨false,false,fun o ho => ?_,(fun h=>by cases h),fun _=>lookK_no hlk⟩
   have:=hrun o ho
   rw [hlk] at this
   exact this
  |some q =>
   obtain ⟨j,v⟩:=q
   obtain ⟨k',d',r',e,hkr⟩:=hcoh _ (lookK_mem hlk)
   simp only [Prod.mk.injEq,List.cons.injEq,and_true] at e
   obtain ⟨⟨e1,e2⟩,rfl⟩:=e
   have e1:k=k':=by omega
   have e2:d=d':=by omega
   subst e1 e2
   have:r'=r:=by omega
   subst this
   refine ⟨_,true,fun o ho => ?_,fun _=>rfl,(fun h=>by cases h)⟩
   have:=hrun o ho
   rw [hlk] at this
   exact this
 obtain ⟨b1,b2,hlk,hb1,hb2⟩:=look
 refine opIn_val rfl rfl (by rfl) (hlk _ rfl) ?_
 show wpOpsIn _ _ _ _ _ [3,4,5,6,7] (a3.put (some 25) (.tuple #[.bool b1,.bool b2])) w3
 have R4:=R3.put 25 (.tup [.bool b1,.bool b2]) (.tuple #[.bool b1,.bool b2]) (by decide) (.data _ _ (.tup _ _ rfl (fun i hi hi'=>by
  match i,hi with
  |0,_ | 1,_=>exact .bool _))) trivial
 refine rest_step R4 hGT trivial (l2:=[3,4,5,6,7]) (os2:=[_,_,_,_,_]) rfl (by kernel_rfl) (al:=(ACode.dl (ACode.fst (ACode.fst (ACode.snd (ACode.snd c143))))).drop 3) (by kernel_rfl) (by kernel_rfl) (W:=fun _=>true) (writes_all _) (by rw [ho3];exact hbx)
  (K:=fun S H=>FG s k d bM S∧S 10 = .bool b1∧S 11 = .bool b2) ?_ ?_
 ·obtain ⟨s3,s4,s5,s6,s9⟩:=hF
  simp [c143,ACode.fst,ACode.snd,ACode.dl,aops,awanted,astep,apure,Eff.S,Eff.H,ev,upd,putD,FG,s3,s4,s5,s6,s9,loadA,AV.dem,HR.okB,tmpOf]
 clear hF
 rintro g5 S5 H5 a5 w5 ho5 R5 ⟨hF,s10,s11⟩ _
 rw [ho3] at ho5
 have hM5:w5.heap[bM]? = some (.map es clock):=by
  rw [R5.below.block bM (by rw [R5.base];exact hlt)];exact hM
 have hg:GS s k d bM l w o0 (k+1) (fun S _=>S 10 = .bool b1∧S 11 = .bool b2) a5 w5:=⟨w,g5,S5,H5,R5,ho5,Turn.refl _ _,rfl,hF,⟨s10,s11⟩,es,clock,l,hM5,hes,hcoh,fun x hx => .inl hx⟩
 clear R5 hF s10 s11 R4 R3 R24 R23 R22 R21 R2 R1 R s23 s24 e23 e24
 have ret:∀ (E:Slots→Boxes→Prop) (b:Bool) (a:Act) (w':World) (kk:Nat),GS s k d bM l w o0 kk E a w'→(∀ S H,E S H→S 8 = .bool b)→k≤kk→b=goesI s r k d→bodyPost prog f143 (fun e w'=>e = .returned (.bool (goesI s r k d))∧Turn (fun b=>b=bM) w w'∧MapS s bM l k w') .ret a w':=by
  intro E b a w' kk h he hkk hbb
  obtain ⟨f1,f2,f3⟩:=h.fin hds
  refine ⟨f1,.bool b,results_tmp results143 (h.bool (by decide) he),by rw [hbb],f2,f3.weak hkk⟩
 show Code.wpIn _ _ _ _ _ a5 w5
 refine wpIn_seq (hg.region hlt hbx (by kernel_rfl) (ac:=ACode.fst (ACode.snd (ACode.fst (ACode.snd (ACode.snd c143))))) (by kernel_rfl) (E':=fun S _=>S 28 = .bool b2∧S 10 = .bool b1) ?_ ?_)
 ·rintro S H ⟨s3,s4,s5,s6,s9⟩ ⟨s10,s11⟩
  simp [c143,ACode.fst,ACode.snd,FG,s3,s4,s5,s6,s9,s10,s11]
 intro a6 w6 hg
 show Code.wpIn _ _ _ _ _ a6 w6
 refine wpIn_cond (t:=b2) (hg.bool (by decide) fun _ _ h=>h.1) ?_
 cases b2 with
 |true =>
  simp only [if_true]
  refine wpIn_seq (hg.region hlt hbx (by kernel_rfl) (ac:=ACode.fst (ACode.lft (ACode.snd (ACode.snd (ACode.fst (ACode.snd (ACode.snd c143))))))) (by kernel_rfl) (E':=fun S _=>S 8 = .bool b1) ?_ ?_)
  ·rintro S H ⟨s3,s4,s5,s6,s9⟩ ⟨s28,s10⟩
   simp [c143,ACode.fst,ACode.snd,ACode.lft,FG,s3,s4,s5,s6,s9,s28,s10]
  intro a7 w7 hg
  exact wpIn_ret (ret _ b1 a7 w7 _ hg (fun _ _ h=>h) (by omega) (hb1 rfl))
 |false =>
  have hnot:=hb2 rfl
  simp only [Bool.false_eq_true,if_false]
  refine wpIn_skip ?_
  show Code.wpIn _ _ _ _ _ a6 w6
  refine wpIn_seq (hg.region hlt hbx (by kernel_rfl) (ac:=ACode.fst (ACode.snd (ACode.snd (ACode.snd c143)))) (by kernel_rfl) (E':=fun S _=>S 12 = .bool false) ?_ ?_)
  ·rintro S H ⟨s3,s4,s5,s6,s9⟩ ⟨s28,s10⟩
   simp [c143,ACode.fst,ACode.snd,FG,s3,s4,s5,s6,s9]
  clear hg
  intro a7 w7 hg
  show Code.wpIn _ _ _ _ _ a7 w7
  refine wpIn_seq (wpIn_mono (Q:=fun e a w'=>e = .normal∧GS s k d bM l w o0 (k+1) (fun S _=>S 12 = .bool (goesI s r k d)) a w') ?_ ?_)
  ·
   refine wpIn_seq (hg.region hlt hbx (by kernel_rfl) (ac:=ACode.fst md143) (by kernel_rfl) (E':=fun S _=>S 12 = .bool false∧S 36 = .bool (decide (r=0))) ?_ ?_)
   ·rintro S H ⟨s3,s4,s5,s6,s9⟩ s12
    have hw:IntKind.i64.wrap ((s.coats.length:Int) - 1)=s.coats.length - 1:=wrapI (by omega)
    have hr:((k:Int)=s.coats.length - 1)↔r=0:=by omega
    simp [c143,md143,tl143,ACode.fst,ACode.snd,FG,shopL,cshL,endsA,s3,s4,s5,s6,s9,s12,hw]
    rw [Bool.eq_iff_iff]
    simp [hr]
   clear hg
   intro a8 w8 hg
   show Code.wpIn _ _ _ _ _ a8 w8
   refine wpIn_cond (t:=decide (r=0)) (hg.bool (by decide) fun _ _ h=>h.2) ?_
   cases r with
   |zero =>
    simp only [decide_true,if_true]
    obtain ⟨c,e',hatt⟩:=att_of hGT s (f:=171) (by kernel_rfl) (ac171 hGT s hl hb hkc hd)
    refine wpIn_seq (hg.region hlt hbx (by kernel_rfl) (ac:=ACode.fst (ACode.lft (ACode.snd md143))) (by kernel_rfl) (E':=fun S _=>S 14 = .int .i64 (if standsI s k d s.dry.length false then 0 else 7)) ?_ ?_)
    ·rintro S H ⟨s3,s4,s5,s6,s9⟩ ⟨s12,s36⟩
     simp [c143,md143,tl143,ACode.fst,ACode.snd,ACode.lft,FG,s3,s4,s5,s6,s9]
     refine ⟨_,by kernel_rfl,hatt,by simp [boxy,boxy1],?_⟩
     simp [attO,s3,s4,s5,s6,s9]
    clear hg
    intro a9 w9 hg
    show Code.wpIn _ _ _ _ _ a9 w9
    refine hg.region hlt hbx (by kernel_rfl) (ac:=ACode.snd (ACode.lft (ACode.snd md143))) (by kernel_rfl) (E':=fun S _=>S 12 = .bool (goesI s 0 k d)) ?_ ?_
    ·rintro S H ⟨s3,s4,s5,s6,s9⟩ s14
     simp only [goesI]
     cases hst:standsI s k d s.dry.length false<;>simp [c143,md143,tl143,ACode.fst,ACode.snd,ACode.lft,FG,s3,s4,s5,s6,s9,s14,hst]
    clear hg
    intro a10 w10 hg
    exact ⟨rfl,hg⟩
   |succ r =>
    simp only [Nat.succ_ne_zero,decide_false,Bool.false_eq_true,if_false]
    refine wpIn_seq (hg.region hlt hbx (by kernel_rfl) (ac:=ACode.fst oth143) (by kernel_rfl) (E':=fun S _=>S 12 = .bool false∧S 46=vI s.work∧S 47 = .int .i64 s.work.length∧S 48 = .int .i64 (0:Nat)) ?_ ?_)
    ·rintro S H ⟨s3,s4,s5,s6,s9⟩ ⟨s12,s36⟩
     simp [c143,oth143,md143,tl143,ACode.fst,ACode.snd,FG,shopL,cshL,s3,s4,s5,s6,s9,s12]
    clear hg
    intro a9 w9 hg
    show Code.wpIn _ _ _ _ _ a9 w9
    obtain ⟨EL,hEL⟩:∃ EL:Nat→Slots→Boxes→Prop,EL=fun i S _=>S 12 = .bool false∧S 46=vI s.work∧S 47 = .int .i64 s.work.length∧S 48 = .int .i64 (i:Nat):=⟨_,rfl⟩
    have hg:GS s k d bM l w o0 (k+1) (EL 0) a9 w9:=by rw [hEL];exact hg
    refine wpIn_block (wpIn_loop (fun a w'=>∃ i,i≤s.work.length∧GS s k d bM l w o0 (k+1) (EL i) a w'∧∀ j (hj:j < s.work.length),j < i→predG s r k d s.work[j]=false) (fun a _=>match a.tmps.getD 48 undef with | .int _ i=>s.work.length - i.toNat | _=>0) ⟨0,Nat.zero_le _,hg,fun j hj h=>absurd h (Nat.not_lt_zero _)⟩ ?_)
    clear hg
    rintro a wl ⟨i,hi,hg,hpre⟩
    have h48:a.tmps.getD 48 undef = .int .i64 (i:Nat):=by
     obtain ⟨wB,g,S,H,R,ho,ht,hsz,hF,hE,hM⟩:=hg
     rw [hEL] at hE
     exact slot_int R (by decide) hE.2.2.2
    refine wpIn_seq (hg.region hlt hbx (by kernel_rfl) (ac:=ACode.fst bd143) (by kernel_rfl) (E':=fun S H=>EL i S H∧S 49 = .bool (decide (i < s.work.length))) ?_ ?_)
    ·rw [hEL]
     rintro S H ⟨s3,s4,s5,s6,s9⟩ ⟨s12,s46,s47,s48⟩
     simp [c143,bd143,oth143,md143,tl143,ACode.fst,ACode.snd,FG,s3,s4,s5,s6,s9,s12,s46,s47,s48]
    clear hg
    intro a10 w10 hg
    show Code.wpIn _ _ _ _ _ a10 w10
    refine wpIn_seq (wpIn_cond (t:=decide (i < s.work.length)) (hg.bool (by decide) fun _ _ h=>h.2) ?_)
    by_cases hlt':i < s.work.length
    case neg =>
     simp only [hlt',decide_false,Bool.false_eq_true,if_false]
     refine wpIn_exit ?_
     refine ⟨rfl,hg.mono ?_⟩
     rw [hEL]
     rintro S H ⟨⟨s12,_⟩,_⟩
     rw [s12]
     have:goesI s (r+1) k d=false:=by
      simp only [goesI]
      rw [List.any_eq_false]
      intro x hx
      obtain ⟨j,hj,rfl⟩:=List.getElem_of_mem hx
      have:=hpre j hj (by omega)
      unfold predG at this
      rw [this];simp
     rw [this]
    case pos =>
     simp only [hlt',decide_true,if_true]
     refine wpIn_skip ?_
     show Code.wpIn _ _ _ _ _ a10 w10
     obtain ⟨x,hx⟩:∃ x,s.work[i]=x:=⟨_,rfl⟩
     have hxm:x∈s.work:=by rw [← hx];exact List.getElem_mem hlt'
     obtain ⟨hx0,hxn⟩:=hwk x hxm
     obtain ⟨xn,rfl⟩:∃ xn:Nat,x=xn:=⟨x.toNat,by omega⟩
     refine wpIn_seq (wpIn_block (wpIn_mono (Q:=fun e a w'=>((e = .normal∨e = .exit 1)∧GS s k d bM l w o0 (k+1) (EL i) a w'∧predG s r k d xn=false)∨(e = .exit 0∧GS s k d bM l w o0 (k+1) (fun S _=>S 12 = .bool true) a w'∧predG s r k d xn=true)) ?_ ?_))
     ·refine wpIn_seq (hg.region hlt hbx (by kernel_rfl) (ac:=ACode.fst in143) (by kernel_rfl) (E':=fun S H=>EL i S H∧S 16 = .box 16 0∧H 16=some [.int .i64 (xn:Nat)]) ?_ ?_)
      ·rw [hEL]
       rintro S H ⟨s3,s4,s5,s6,s9⟩ ⟨⟨s12,s46,s47,s48⟩,s49⟩
       simp [c143,in143,bd143,oth143,md143,tl143,ACode.fst,ACode.snd,FG,s3,s4,s5,s6,s9,s12,s46,s47,s48,hlt',hx]
      clear hg
      intro a11 w11 hg
      show Code.wpIn _ _ _ _ _ a11 w11
      have hg:GS s k d bM l w o0 (k+1) (fun S H=>EL i S H∧S 16 = .ref [.int .i64 (xn:Nat)]) a11 w11:=by
       obtain ⟨wB,g,S,H,R,ho,ht,hsz,⟨s3,s4,s5,s6,s9⟩,⟨hE,s16,h16⟩,hM⟩:=hg
       obtain ⟨g',og',R'⟩:=R.freeze h16 (by rw [ho];exact hof)
       refine ⟨wB,g',_,_,R',og'.trans ho,ht,hsz,⟨?_,?_,?_,?_,?_⟩,?_,hM⟩
       ·simp [frz,s3,scrub]
       ·simp [frz,s4,scrub]
       ·simp [frz,s5,scrub]
       ·simp [frz,s6,scrub]
       ·simp [frz,s9,scrub]
       ·rw [hEL] at hE ⊢
        obtain ⟨s12,s46,s47,s48⟩:=hE
        simp [frz,s12,s46,s47,s48,s16,scrub,vI,AV.dem]
      refine wpIn_seq (wpIn_seq (hg.region hlt hbx (by kernel_rfl) (ac:=ACode.fst (ACode.fst (ACode.snd in143))) (by kernel_rfl) (E':=fun S H=>(EL i S H∧S 16 = .ref [.int .i64 (xn:Nat)])∧S 54 = .bool (decide (xn≤d))) ?_ ?_))
      ·rw [hEL]
       rintro S H ⟨s3,s4,s5,s6,s9⟩ ⟨⟨s12,s46,s47,s48⟩,s16⟩
       simp [c143,in143,bd143,oth143,md143,tl143,ACode.fst,ACode.snd,FG,s3,s4,s5,s6,s9,s12,s46,s47,s48,s16]
      clear hg
      intro a12 w12 hg
      show Code.wpIn _ _ _ _ _ a12 w12
      refine wpIn_cond (t:=decide (xn≤d)) (hg.bool (by decide) fun _ _ h=>h.2) ?_
      by_cases hle:xn≤d
      ·simp only [hle,decide_true,if_true]
       refine wpIn_exit (.inl ⟨.inr rfl,hg.mono fun _ _ h=>h.1.1,?_⟩)
       have:¬ (d:Int) < xn:=by omega
       simp only [predG,this,decide_false,Bool.false_and]
      simp only [hle,decide_false,Bool.false_eq_true,if_false]
      have hdx:(d:Int) < xn:=by omega
      refine wpIn_skip ?_
      show Code.wpIn _ _ _ _ _ a12 w12
      obtain ⟨c,e',hatt⟩:=att_of hGT s (f:=172) (by kernel_rfl) (ac172 hGT s hl hb hkc hd (b:=xn) (by omega))
      refine wpIn_seq (hg.region hlt hbx (by kernel_rfl) (ac:=ACode.fst (ACode.snd (ACode.snd in143))) (by kernel_rfl) (E':=fun S H=>(EL i S H∧S 16 = .ref [.int .i64 (xn:Nat)])∧S 18 = .int .i64 (if standsI s k d xn true then 0 else 7)) ?_ ?_)
      ·rw [hEL]
       rintro S H ⟨s3,s4,s5,s6,s9⟩ ⟨⟨⟨s12,s46,s47,s48⟩,s16⟩,s54⟩
       simp [c143,in143,bd143,oth143,md143,tl143,ACode.fst,ACode.snd,FG,s3,s4,s5,s6,s9,s12,s46,s47,s48,s16]
       refine ⟨_,by kernel_rfl,hatt,by simp [boxy,boxy1],?_⟩
       simp [attO,s3,s4,s5,s6,s9,s12,s46,s47,s48,s16]
      clear hg
      intro a13 w13 hg
      show Code.wpIn _ _ _ _ _ a13 w13
      cases hst:standsI s k d xn true with
      |false =>
       have hp:predG s r k d xn=false:=by
        simp only [predG,Int.toNat_natCast,hst,Bool.false_and,Bool.and_false]
       refine wpIn_seq (hg.region hlt hbx (by kernel_rfl) (ac:=ACode.fst (ACode.snd (ACode.snd (ACode.snd in143)))) (by kernel_rfl) (E':=fun S H=>EL i S H∧S 69 = .bool false) ?_ ?_)
       ·rw [hEL,hst]
        rintro S H ⟨s3,s4,s5,s6,s9⟩ ⟨⟨⟨s12,s46,s47,s48⟩,s16⟩,s18⟩
        simp [c143,in143,bd143,oth143,md143,tl143,ACode.fst,ACode.snd,FG,s3,s4,s5,s6,s9,s12,s46,s47,s48,s16,s18]
       clear hg
       intro a14 w14 hg
       show Code.wpIn _ _ _ _ _ a14 w14
       refine wpIn_cond (t:=false) (hg.bool (by decide) fun _ _ h=>h.2) ?_
       simp only [Bool.false_eq_true,if_false]
       exact wpIn_skip (.inl ⟨.inl rfl,hg.mono fun _ _ h=>h.1,hp⟩)
      |true =>
       rw [hst] at hg
       simp only [if_true] at hg
       obtain ⟨wB,g,S,H,R,ho,ht,hsz,hF,⟨⟨hE,s16⟩,s18⟩,hM⟩:=hg
       refine wpIn_seq ?_
       refine front_step R hGT trivial (p:=8) (l2:=[8,9]) rfl (by kernel_rfl) (by kernel_rfl) (l:=(ACode.dl (ACode.fst (ACode.snd (ACode.snd (ACode.snd in143))))).take 8) (by kernel_rfl) (by decide) (W:=fun _=>true) (writes_all _) (by rw [ho];exact hbx)
        (K:=fun S H=>FG s k d bM S∧EL i S H∧S 62 = .bool true∧S 63=shopA s∧S 65 = .int .i64 ((k+1:Nat):Int)∧S 66 = .int .i64 (xn:Nat)∧S 67 = .val (mapV bM)) ?_ ?_
       ·rw [hEL] at hE ⊢
        obtain ⟨s3,s4,s5,s6,s9⟩:=hF
        obtain ⟨s12,s46,s47,s48⟩:=hE
        have hw:IntKind.i64.wrap ((k:Int)+1)=k+1:=wrapI (by omega)
        simp [c143,in143,bd143,oth143,md143,tl143,ACode.fst,ACode.snd,ACode.dl,aops,awanted,astep,apure,Eff.S,Eff.H,ev,upd,putD,FG,shopA,shopL,cshL,s3,s4,s5,s6,s9,s12,s46,s47,s48,s16,s18,loadA,AV.dem,abin,hw,vI]
       clear hF hE s16 s18
       rintro g9 S9 H9 a9 w9 ho9 R9 ⟨hF,hE,s62,s63,s65,s66,s67⟩ _
       rw [ho] at ho9
       have hb9:bM < g9.base:=by rw [R9.base,hsz];exact hlt
       have hbB:bM < g.base:=by rw [R.base,hsz];exact hlt
       have hM9:=hM.same (show w9.heap[bM]? = w13.heap[bM]? by rw [R9.below.block bM hb9,R.below.block bM hbB])
       obtain ⟨es9,ck9,l9,m1,m2,m3,m4⟩:=hM9
       have e62:a9.tmps.getD 62 undef = .bool true:=by
        have:=R9.slot 62 (by decide) id
        rw [s62] at this
        exact this.bool_eq
       have e62':a9.tmps[62]? = some (.bool true):=by
        have hs:=R9.size
        have h2:a9.tmps[62]? = some (a9.tmps.getD 62 undef):=by simp [hs]
        rw [h2,e62]
       have r63:RD g9.Pr w9 (shopA s) (a9.tmps.getD 63 undef):=by
        have:=R9.slot 63 (by decide) id
        rw [s63] at this
        exact this.toData rfl
       have e65:a9.tmps.getD 65 undef = .int .i64 ((k+1:Nat):Int):=slot_int R9 (by decide) s65
       have e66:a9.tmps.getD 66 undef = .int .i64 (xn:Nat):=slot_int R9 (by decide) s66
       have e67:a9.tmps.getD 67 undef=mapV bM:=by
        have:=R9.slot 67 (by decide) id
        rw [s67] at this
        exact this.val_eq
       have hcall:=ih r (Nat.lt_succ_self r) (k+1) xn (by omega) (by omega) w9 g9.Pr bM es9 ck9 l9 (a9.tmps.getD 63 undef) m1 m2 m3 (fun j hp=>by
        rcases hp with hp | hp
        ·rw [ho9,hoc] at hp;exact hno j hp.2
        ·omega) r63
       refine opIn_callG rfl (by simp [Region.wanted,yielded,dstOf,e62']) (by rfl) (run_callF (k:=143) (args := #[a9.tmps.getD 63 undef,.int .i64 ((k+1:Nat):Int),.int .i64 (xn:Nat),mapV bM]) w9 rfl rfl ?_ (by kernel_rfl)) hcall ?_
       ·simp only [List.map_toArray,List.map_cons,List.map_nil,Act.eval]
        rw [e65,e66,e67]
       rintro e w10 ⟨rfl,ht10,hM10⟩
       refine ⟨_,rfl,?_⟩
       obtain ⟨es10,ck10,l10,n1,n2,n3,n4⟩:=hM10
       have R10:=R9.turn1 ht10 hb9 (by rw [ho9,hoc];exact hno) n1
       have R11:=R10.put 68 (.bool (goesI s r (k+1) xn)) (.bool (goesI s r (k+1) xn)) (by decide) (.data _ _ (.bool _)) trivial
       refine rest_step R11 hGT trivial (l2:=[9]) (os2:=[_]) rfl (by kernel_rfl) (al:=(ACode.dl (ACode.fst (ACode.snd (ACode.snd (ACode.snd in143))))).drop 9) (by kernel_rfl) (by kernel_rfl) (W:=fun _=>true) (writes_all _) (by rw [ho9];exact hbx)
        (K:=fun S H=>FG s k d bM S∧EL i S H∧S 69 = .bool (goesI s r (k+1) xn)) ?_ ?_
       ·rw [hEL] at hE ⊢
        obtain ⟨s3,s4,s5,s6,s9⟩:=hF
        obtain ⟨s12,s46,s47,s48⟩:=hE
        simp [c143,in143,bd143,oth143,md143,tl143,ACode.fst,ACode.snd,ACode.dl,aops,awanted,astep,apure,Eff.S,Eff.H,ev,upd,putD,FG,s3,s4,s5,s6,s9,s12,s46,s47,s48,s62,AV.dem]
       clear hF hE
       rintro g12 S12 H12 a12 w12 ho12 R12 ⟨hF,hE,s69⟩ _
       have hb12:bM < g12.base:=by rw [R12.base];simp only [swapW,Array.size_setIfInBounds];rw [hsz];exact hlt
       have hb10:bM < g9.base:=hb9
       have hg:GS s k d bM l w o0 (k+1) (fun S H=>EL i S H∧S 69 = .bool (goesI s r (k+1) xn)) a12 w12:=by
        refine ⟨_,g12,S12,H12,R12,ho12.trans ho9,turn_swap ht hsz R9.below ht10,by simp [swapW,hsz],hF,⟨hE,s69⟩,es10,ck10,l10,?_,n2,n3,fun x hx => ?_⟩
        ·rw [R12.below.block bM hb12]
         simp [swapW,hsz,hlt,n1]
        ·rcases n4 x hx with h | h
         ·exact m4 x h
         ·exact .inr h
       show Code.wpIn _ _ _ _ _ a12 w12
       refine wpIn_cond (t:=goesI s r (k+1) xn) (hg.bool (by decide) fun _ _ h=>h.2) ?_
       cases hgo:goesI s r (k+1) xn with
       |false =>
        simp only [Bool.false_eq_true,if_false]
        exact wpIn_skip (.inl ⟨.inl rfl,hg.mono fun _ _ h=>h.1,by simp only [predG,Int.toNat_natCast,hgo,Bool.and_false]⟩)
       |true =>
        simp only [if_true]
        refine wpIn_seq (hg.region hlt hbx (by kernel_rfl) (ac:=ACode.fst (ACode.lft (ACode.snd (ACode.snd (ACode.snd (ACode.snd in143)))))) (by kernel_rfl) (E':=fun S _=>S 12 = .bool true) ?_ ?_)
        ·rintro S H ⟨s3,s4,s5,s6,s9⟩ _
         simp [c143,in143,bd143,oth143,md143,tl143,ACode.fst,ACode.snd,ACode.lft,FG,s3,s4,s5,s6,s9]
        clear hg
        intro a15 w15 hg
        exact wpIn_exit (.inr ⟨rfl,hg,by simp only [predG,Int.toNat_natCast,hst,hgo,hdx,decide_true,Bool.and_true]⟩)
     ·have hw:IntKind.i64.wrap ((i:Int)+1)=i+1:=wrapI (by omega)
      rintro e a2 w2' (⟨rfl | rfl,hg,hp⟩ | ⟨rfl,hg,hp⟩)
      all_goals try
       show Code.wpIn _ _ _ _ _ a2 w2'
       refine hg.region hlt hbx (by kernel_rfl) (ac:=ACode.snd (ACode.snd (ACode.snd bd143))) (by kernel_rfl) (E':=EL (i+1)) ?_ ?_
       ·rw [hEL]
        rintro S H ⟨s3,s4,s5,s6,s9⟩ ⟨s12,s46,s47,s48⟩
        simp [c143,bd143,oth143,md143,tl143,ACode.fst,ACode.snd,FG,s3,s4,s5,s6,s9,s12,s46,s47,s48,hw]
       ·intro a16 w16 hg
        have e48:a16.tmps.getD 48 undef = .int .i64 ((i+1:Nat):Int):=by
         obtain ⟨wB,g,S,H,R,ho,ht,hsz,hF,hE,hM⟩:=hg
         rw [hEL] at hE
         exact slot_int R (by decide) hE.2.2.2
        refine ⟨⟨i+1,by omega,hg,fun j hj hji => ?_⟩,?_⟩
        ·by_cases hji':j=i
         ·subst hji';rw [hx];exact hp
         ·exact hpre j hj (by omega)
        ·simp only [e48,h48]
         simp
         omega
      ·refine ⟨rfl,hg.mono ?_⟩
       rintro S H s12
       rw [s12]
       have:goesI s (r+1) k d=true:=by
        simp only [goesI]
        rw [List.any_eq_true]
        exact ⟨_,hxm,hp⟩
       rw [this]
  ·rintro e a w8 ⟨rfl,hg⟩
   show Code.wpIn _ _ _ _ _ a w8
   obtain ⟨wB,g,S,H,R,ho,ht,hsz,hF,s12,hM⟩:=hg
   refine wpIn_seq ?_
   refine front_step R hGT trivial (p:=3) (l2:=[3]) rfl (by kernel_rfl) (by kernel_rfl) (l:=(ACode.dl (ACode.fst (ACode.snd tl143))).take 3) (by kernel_rfl) (by decide) (W:=fun _=>true) (writes_all _) (by rw [ho];exact hbx)
    (K:=fun S H=>FG s k d bM S∧S 12 = .bool (goesI s r k d)∧S 71 = .val (mapV bM)∧S 72 = .agg [.int .i64 (k:Nat),.int .i64 (d:Nat)]∧S 73 = .bool (goesI s r k d)) ?_ ?_
   ·obtain ⟨s3,s4,s5,s6,s9⟩:=hF
    simp [c143,tl143,ACode.fst,ACode.snd,ACode.dl,aops,awanted,astep,apure,Eff.S,Eff.H,ev,upd,putD,FG,s3,s4,s5,s6,s9,s12,loadA,AV.dem,HR.okB]
   clear hF s12
   rintro g9 S9 H9 a9 w9 ho9 R9 ⟨hF,s12,s71,s72,s73⟩ _
   rw [ho] at ho9
   have hb9:bM < g9.base:=by rw [R9.base,hsz];exact hlt
   have hbB:bM < g.base:=by rw [R.base,hsz];exact hlt
   have hM9:=hM.same (show w9.heap[bM]? = w8.heap[bM]? by rw [R9.below.block bM hb9,R.below.block bM hbB])
   obtain ⟨es9,ck9,l9,m1,m2,m3,m4⟩:=hM9
   have e71:a9.eval (.tmp 71)=mapV bM:=by
    have:=R9.slot 71 (by decide) id
    rw [s71] at this
    exact this.val_eq
   have e72:a9.eval (.tmp 72) = .agg (intsV [(k:Int),(d:Int)]):=by
    have:=R9.slot 72 (by decide) id
    rw [s72] at this
    exact aggI2 this
   have e73:a9.eval (.tmp 73) = .bool (goesI s r k d):=by
    have:=R9.slot 73 (by decide) id
    rw [s73] at this
    exact this.bool_eq
   have hno9:lookK [(k:Int),(d:Int)] l9 0=none:=lookK_none fun x hx=>by
    rcases m4 x hx with h | ⟨k',d',e,hkk⟩
    ·exact hnot x h
    ·rw [e]
     intro h
     simp only [List.cons.injEq,and_true] at h
     omega
   refine opIn_skip rfl rfl (by rfl) (run_mapSetS (t:=232) (x1 := .tmp 71) (x2 := .tmp 72) (x3 := .tmp 73) (key:=[(k:Int),(d:Int)]) rfl hmt hfs hfl e71 e72 rfl m1 m2 m3.len hno9) ?_
   rw [e73]
   obtain ⟨w10,hw10⟩:∃ w10,w9.putObj bM (.map (es9.push { key := .agg (intsV [(k:Int),(d:Int)]),val := .bool (goesI s r k d),born:=ck9 }) (ck9+1))=w10:=⟨_,rfl⟩
   show Code.wpIn _ _ _ _ _ a9 (w9.putObj bM (.map (es9.push { key := .agg (intsV [(k:Int),(d:Int)]),val := .bool (goesI s r k d),born:=ck9 }) (ck9+1)))
   rw [hw10]
   have hlt9:=(Array.getElem?_eq_some_iff.1 m1).1
   have h10:w10.heap[bM]? = some (.map (es9.push { key := .agg (intsV [(k:Int),(d:Int)]),val := .bool (goesI s r k d),born:=ck9 }) (ck9+1)):=by rw [← hw10];exact World.putObj_heap_same hlt9
   have ht10:Turn (fun b=>b=bM) w9 w10:=by
    rw [← hw10]
    exact ⟨rfl,rfl,rfl,by simp [World.putObj],fun b _ hb=>World.putObj_heap_other hb⟩
   have R10:=R9.turn1 ht10 hb9 (by rw [ho9,hoc];exact hno) h10
   have hg:GS s k d bM l w o0 k (fun S _=>S 12 = .bool (goesI s r k d)) a9 w10:=by
    refine ⟨_,g9,S9,H9,R10,ho9,?_,by simp [swapW,hsz],hF,s12,_,_,l9++[([(k:Int),(d:Int)],.bool (goesI s r k d))],h10,(by exact m2.push [(k:Int),(d:Int)] (.bool (goesI s r k d)) ck9),?_,?_⟩
    ·exact turn_swap ht hsz R9.below ht10
    ·intro x hx
     rcases List.mem_append.1 hx with h | h
     ·exact m3 x h
     ·rw [List.mem_singleton] at h
      exact ⟨k,d,r,h,hk⟩
    ·intro x hx
     rcases List.mem_append.1 hx with h | h
     ·rcases m4 x h with h | ⟨k',d',e,hkk⟩
      ·exact .inl h
      ·exact .inr ⟨k',d',e,by omega⟩
     ·rw [List.mem_singleton] at h
      exact .inr ⟨k,d,by rw [h],Nat.le_refl _⟩
   refine wpIn_seq (hg.region hlt hbx (by kernel_rfl) (ac:=ACode.fst (ACode.snd (ACode.snd tl143))) (by kernel_rfl) (E':=fun S _=>S 8 = .bool (goesI s r k d)) ?_ ?_)
   ·rintro S H ⟨s3,s4,s5,s6,s9⟩ s12
    simp [c143,tl143,ACode.fst,ACode.snd,FG,s3,s4,s5,s6,s9,s12]
   clear hg
   intro a11 w11 hg
   exact wpIn_ret (ret _ _ a11 w11 _ hg (fun _ _ h=>h) (Nat.le_refl _) rfl)
end Go.Proofs.Tryz
