/-
  A part of the proof: Tb K1 K2 K4 K5 K6 K7 K8 K9 K10a K10 K10b K13 K16 K20 K23.
-/
import Derived.Test.YtifmgeicigngbaaGreatProg
import Derived.Defers
import Derived.Recover
import Derived.Tactics
import Derived.Tactics2
import Derived.Laws.Pointers
import Derived.Test.YtifmgeicigngbaaGreatShelf
import Derived.Test.YtifmgeicigngbaaGreatA2
import Derived.Test.YtifmgeicigngbaaGreatC1
set_option linter.all false
set_option linter.unusedVariables false
set_option linter.unusedSimpArgs false
set_option linter.deprecated false

namespace Go.Proofs.Tryz
open Go.AL
variable {GI:World→Prop}
theorem hmix:prog.follows .mixedOrders=true:=by kernel_rfl
theorem ac124 (hG:Stable GI) (es:List AV) (hok:elemsOK 1 es=true) (hl:es.length < 1048576) :
  AC prog GI 124 [.slice .view es] (.ret (.slice (if es.isEmpty then .nil else .own 3) es)):=by
 refine AC.of_body hG hmix func124 rfl ntmps124 (by simp) (ac:=c124) (by kernel_rfl) ?_
 cases es with
 |nil=>simp [c124,awp,aops,awanted,astep,apure,ev,Eff.S,Eff.H,tmpOf,thenQ,upd,putD,AL.start,AV.dem,elemsOK,post,ares,aress,ares1,AV.out,AV.isData]
 |cons x es =>
  have hl':es.length+1 < 1048576:=hl
  simp [c124,awp,aops,awanted,astep,apure,ev,Eff.S,Eff.H,tmpOf,thenQ,upd,putD,AL.start,AV.dem,hok,hl',post,ares,aress,ares1,AV.out,AV.isData]
theorem ac125 (hG:Stable GI) (es:List AV) (hok:elemsOK 2 es=true) (hl:es.length < 1048576) :
  AC prog GI 125 [.slice .view es] (.ret (.slice (if es.isEmpty then .nil else .own 214) es)):=by
 refine AC.of_body hG hmix func125 rfl ntmps125 (by simp) (ac:=c125) (by kernel_rfl) ?_
 cases es with
 |nil=>simp [c125,awp,aops,awanted,astep,apure,ev,Eff.S,Eff.H,tmpOf,thenQ,upd,putD,AL.start,AV.dem,elemsOK,post,ares,aress,ares1,AV.out,AV.isData]
 |cons x es =>
  have hl':es.length+1 < 1048576:=hl
  simp [c125,awp,aops,awanted,astep,apure,ev,Eff.S,Eff.H,tmpOf,thenQ,upd,putD,AL.start,AV.dem,hok,hl',post,ares,aress,ares1,AV.out,AV.isData]
end Go.Proofs.Tryz
namespace Go.AL
theorem wrapI {n:Int} (h : -9223372036854775808≤n∧n < 9223372036854775808):IntKind.i64.wrap n=n:=by
 have key:∀ m:Int,m=n % 18446744073709551616→(if decide (m≥9223372036854775808)=true then m - 18446744073709551616 else m)=n:=by
  intro m hm
  split
  ·rename_i hd
   have:=of_decide_eq_true hd
   omega
  ·rename_i hd
   have hd':¬ m≥9223372036854775808:=fun hh=>hd (decide_eq_true hh)
   omega
 exact key _ rfl
def ints (l:List Int):List AV:=l.map (.int .i64)
theorem ints_len (l:List Int):(ints l).length=l.length:=by simp [ints]
theorem ints_get (l:List Int) (i:Nat) (h:i < (ints l).length):(ints l)[i] = .int .i64 (l[i]'(by simpa [ints] using h)):=by simp [ints]
def vI (l:List Int):AV := .slice .view (ints l)
def int (n:Int):AV := .int .i64 n
end Go.AL
namespace Go.Proofs.Tryz
open Go.AL
variable {GI:World→Prop}
end Go.Proofs.Tryz
namespace Go.AL
theorem Keeps.of_eq {Pr Pr':Nat→Nat→Prop} {w w':World} (h:∀ b k,Pr b k→Pr' b k∧w'.heap[b]? = w.heap[b]?):Keeps Pr Pr' w w':={
 cell b k hp u hu:=⟨(h b k hp).1,by rw [World.cell?_of_block (w:=w) (h b k hp).2];exact hu⟩
 map b hp es c hm:=⟨(h b 0 hp).1,by rw [(h b 0 hp).2];exact hm⟩ }
theorem RV.bool_eq {Pr:Nat→Nat→Prop} {al:Nat→Option Nat} {w:World} {b:Bool} {c:Value} (h:RV Pr al w (.bool b) c):c = .bool b:=by
 cases h;rename_i h;cases h;rfl
theorem RV.int_eq {Pr:Nat→Nat→Prop} {al:Nat→Option Nat} {w:World} {k:IntKind} {n:Int} {c:Value} (h:RV Pr al w (.int k n) c):c = .int k n:=by
 cases h;rename_i h;cases h;rfl
theorem RV.val_eq {Pr:Nat→Nat→Prop} {al:Nat→Option Nat} {w:World} {v c:Value} (h:RV Pr al w (.val v) c):c=v:=by
 cases h;rename_i h;cases h;rfl
end Go.AL
namespace Go.Proofs.Tryz
open Go Go.AL Go.RowKit
abbrev End:=Int×Int
def endA (e:End):AV := .agg [.int .i64 e.1,.int .i64 e.2]
def endsA (l:List End):List AV:=l.map endA
def settingA (out:List Int) (es:List End):AV := .agg [.slice .view (ints out),.slice .view (endsA es)]
def lp:List End→List End→Nat→List (List End)
 |_,[],_=>[]
 |now,a::r,m=>(if r=[] then [now++[a]] else match m with | 0=>[] | m+1=>lp (now++[a]) r m)++lp now r m
def ch (now l:List End) (m:Nat):List (List End):=if l=[] then [now] else match m with | 0=>[] | m+1=>lp now l m
variable {GI:World→Prop} {l:Nat} {xs:List AV}
structure Fx (C:Cons prog GI l xs) (all:List End) (out:List Int) (fA:List AV) (rows:Nat) where
 bN:Nat
 cA:Value
 cY:Value
 cO:Value
 cF:Value
 cR:Value
 MI:Nat→Prop
 wI:World
 bA:Nat
 hdr:Value
 hA0:cA = .pointer (some ⟨bA,0,none⟩)
 hA1:MI bA∧bA < bN
 hA2:∃ ty,wI.heap[bA]? = some (.cells #[hdr] ty (0,0))
 hY:RV (fun b _=>MI b) noneA wI (.ref [.val (.func (.yield l) #[] #[])]) cY
 hR:RV (fun b _=>MI b) noneA wI (.ref [.val (.func (.func 123) #[] #[cA,cY,cO,.pointer (some ⟨bN,0,none⟩),cF,cR])]) cR
 f9:fA[9]? = some (.int .i64 rows)
variable {C:Cons prog GI l xs} {all:List End} {out:List Int} {fA:List AV} {rows:Nat}
structure St (X:Fx C all out fA rows) (k:Nat) (M:Nat→Prop) (Pr:Nat→Nat→Prop) (es:List End) (w:World):Prop where
 j:C.J k M Pr w
 lt:∀ b,M b→b < w.heap.size
 mi:∀ b,X.MI b→M b∧b≠X.bN∧w.heap[b]? = X.wI.heap[b]?
 now:∃ v ty xs',w.heap[X.bN]? = some (.cells #[v] ty (0,0))∧M X.bN∧w.ownsRow (X.bN+1) 214 2 v es.length xs'∧FlatOf (fun _ _=>False) w 2 (endsA es) xs'∧∀ b,v.ownBlock=some b→M b∧¬ X.MI b
 f:RV Pr noneA w (.ref fA) X.cF
 o:RV Pr noneA w (.ref [.slice .view (ints out)]) X.cO
 e:RD (fun b k=>b < X.bN∧(X.MI b∨Pr b k)) w (.slice .view (endsA all)) X.hdr
theorem keepsE {MI:Nat→Prop} {bN:Nat} {Pr Pr':Nat→Nat→Prop} {w w':World} (hm:∀ b,MI b→w'.heap[b]? = w.heap[b]?) (hk:Keeps Pr Pr' w w'):Keeps (fun b k=>b < bN∧(MI b∨Pr b k)) (fun b k=>b < bN∧(MI b∨Pr' b k)) w w':={
 cell b k hp u hu:=by
  rcases hp.2 with h | h
  ·exact ⟨⟨hp.1,.inl h⟩,by rw [World.cell?_of_block (w:=w) (hm b h)];exact hu⟩
  ·obtain ⟨h1,h2⟩:=hk.cell b k h u hu
   exact ⟨⟨hp.1,.inr h1⟩,h2⟩
 map b hp es c hm':=by
  rcases hp.2 with h | h
  ·exact ⟨⟨hp.1,.inl h⟩,by rw [hm b h];exact hm'⟩
  ·obtain ⟨h1,h2⟩:=hk.map b h es c hm'
   exact ⟨⟨hp.1,.inr h1⟩,h2⟩ }
theorem St.allR {X:Fx C all out fA rows} {k:Nat} {M:Nat→Prop} {Pr:Nat→Nat→Prop} {es:List End} {w:World} (s:St X k M Pr es w):RV (fun b k=>b < X.bN∧(X.MI b∨Pr b k)) noneA w (.ref [.slice .view (endsA all)]) X.cA:=by
 obtain ⟨ty,h2⟩:=X.hA2
 rw [X.hA0]
 have hb:w.heap[X.bA]? = some (.cells #[X.hdr] ty (0,0)):=(s.mi _ X.hA1.1).2.2.trans h2
 refine .data _ _ (.ref _ _ _ (fun _=>X.hdr) (fun i hi => ?_) (fun k hk=>⟨⟨X.hA1.2,.inl X.hA1.1⟩,?_⟩) (fun k hk => ?_))
 ·have:i=0:=by simpa using hi
  subst this;rfl
 ·have:k=0:=by simpa using hk
  subst this
  simp [World.cell?,hb]
 ·have:k=0:=by simpa using hk
  subst this
  exact s.e
structure Fr (X:Fx C all out fA rows) (n:Int) (a:Act):Prop where
 size:a.tmps.size=53
 defers:a.defers=[]
 t0:a.tmps.getD 0 undef = .int .i64 n
 t1:a.tmps.getD 1 undef=X.cA
 t2:a.tmps.getD 2 undef=X.cY
 t3:a.tmps.getD 3 undef=X.cO
 t4:a.tmps.getD 4 undef = .pointer (some ⟨X.bN,0,none⟩)
 t5:a.tmps.getD 5 undef=X.cF
 t6:a.tmps.getD 6 undef=X.cR
def slots (l:Nat) (all es:List End) (out:List Int) (fA:List AV) (fv:Value) (n:Int) (v9:AV):Slots:=fun t=>match t with
 |0 => .int .i64 n
 |1 => .ref [.slice .view (endsA all)]
 |2 => .ref [.val (.func (.yield l) #[] #[])]
 |3 => .ref [.slice .view (ints out)]
 |4 => .ref [.slice .view (endsA es)]
 |5 => .ref fA
 |6 => .ref [.val fv]
 |9=>v9
 |_ => .junk
def Fx.fv (X:Fx C all out fA rows):Value := .func (.func 123) #[] #[X.cA,X.cY,X.cO,.pointer (some ⟨X.bN,0,none⟩),X.cF,X.cR]
theorem St.slots_ok {X:Fx C all out fA rows} {k:Nat} {M:Nat→Prop} {Pr:Nat→Nat→Prop} {es:List End} {w:World} (s:St X k M Pr es w) {n:Int} {a:Act} (fr:Fr X n a) {v9:AV} (h9:v9.dem=v9∧RV (fun _ _=>True) noneA w v9 (a.tmps.getD 9 undef)) :
  ∀ t,t < 53→(slots l all es out fA X.fv n v9 t).dem=slots l all es out fA X.fv n v9 t∧RV (fun _ _=>True) noneA w (slots l all es out fA X.fv n v9 t) (a.tmps.getD t undef):=by
 intro t ht
 have hmi:∀ {P':Nat→Nat→Prop},(∀ b k,P' b k→X.MI b)→Keeps P' (fun _ _=>True) X.wI w:=fun h=>Keeps.of_eq fun b k hp=>⟨trivial,(s.mi b (h b k hp)).2.2⟩
 unfold slots
 split
 ·rw [fr.t0];exact ⟨rfl,.data _ _ (.int _ _)⟩
 ·rw [fr.t1];exact ⟨rfl,s.allR.mono (Keeps.same fun _ _ _ _=>trivial) fun _ _ h=>h⟩
 ·rw [fr.t2];exact ⟨rfl,X.hY.mono (hmi fun b k h=>h) fun _ _ h=>h⟩
 ·rw [fr.t3];exact ⟨rfl,s.o.mono (Keeps.same fun _ _ _ _=>trivial) fun _ _ h=>h⟩
 ·rw [fr.t4]
  obtain ⟨v,ty,xs',h1,h2,h3,h4,h5⟩:=s.now
  refine ⟨rfl,.data _ _ (.ref _ _ _ (fun _=>v) (fun i hi => ?_) (fun k hk=>⟨trivial,?_⟩) (fun k hk => ?_))⟩
  ·have:i=0:=by simpa using hi
   subst this;rfl
  ·have:k=0:=by simpa using hk
   subst this
   simp [World.cell?,h1]
  ·have:k=0:=by simpa using hk
   subst this
   exact RD.ofRow (size:=2) (es:=endsA es) (by simpa [endsA] using h3) (h4.mono (Keeps.same fun _ _ _ h=>h.elim)) fun _ _ _ _=>trivial
 ·rw [fr.t5];exact ⟨rfl,s.f.mono (Keeps.same fun _ _ _ _=>trivial) fun _ _ h=>h⟩
 ·rw [fr.t6];exact ⟨rfl,X.hR.mono (hmi fun b k h=>h) fun _ _ h=>h⟩
 ·exact h9
 ·exact ⟨rfl,.junk _⟩
theorem St.grow {X:Fx C all out fA rows} {k:Nat} {M:Nat→Prop} {Pr:Nat→Nat→Prop} {es:List End} {w w':World} (s:St X k M Pr es w) (hb:Below w.heap.size w w'):St X k M Pr es w':=by
 have hM:=s.lt
 have hsame:∀ b,M b→w'.heap[b]? = w.heap[b]? := fun b h=>hb.block b (hM b h)
 have hk:Keeps Pr Pr w w':=Keeps.of_blocks (fun b h=>hb.block b h) fun _ _ _ h=>h
 obtain ⟨v,ty,xs',h1,h2,h3,h4,h5⟩:=s.now
 refine ⟨C.turn s.j (Turn.of_below hb) fun b h=>⟨Nat.lt_of_lt_of_le (hM b h) hb.size,.inl h⟩,fun b h=>Nat.lt_of_lt_of_le (hM b h) hb.size,fun b h=>⟨(s.mi b h).1,(s.mi b h).2.1,(hsame b (s.mi b h).1).trans (s.mi b h).2.2⟩,⟨v,ty,xs',(hsame _ h2).trans h1,h2,?_,h4.mono (Keeps.of_eq fun _ _ h=>h.elim),h5⟩,s.f.mono hk fun _ _ h=>h,s.o.mono hk fun _ _ h=>h,s.e.mono (keepsE (fun b h=>hsame b (s.mi b h).1) hk)⟩
 refine ⟨h3.1,?_⟩
 rcases h3.2 with h | ⟨gg,cap,cur,rfl,hbg,hgg,rest⟩
 ·exact .inl h
 ·exact .inr ⟨gg,cap,cur,rfl,hbg,(hsame gg (h5 gg rfl).1).trans hgg,rest⟩
def ACode.fst:ACode→ACode
 |.seq x _=>x
 |.cond _ x _=>x
 |c=>c
def ACode.snd:ACode→ACode
 |.seq _ y=>y
 |.cond _ _ y=>y
 |.block _ c=>c
 |.loop c=>c
 |c=>c
def ACode.dl:ACode→List AOpr
 |.dops l | .ops l=>l
 |_=>[]
def W36:Nat→Bool:=fun t=>decide (36≤t)
def W7:Nat→Bool:=fun t=>decide (7≤t)
noncomputable def lA123:ACode:=ACode.snd (ACode.snd (ACode.snd (ACode.fst (ACode.snd (ACode.snd c123)))))
theorem Fr.step {X:Fx C all out fA rows} {n:Int} {a a':Act} (fr:Fr X n a) (hsz:a'.tmps.size=53) (hds:a'.defers=[]) (h:Same W7 a a'):Fr X n a' :=
 ⟨hsz,hds,(h 0 rfl).trans fr.t0,(h 1 rfl).trans fr.t1,(h 2 rfl).trans fr.t2,(h 3 rfl).trans fr.t3,(h 4 rfl).trans fr.t4,(h 5 rfl).trans fr.t5,(h 6 rfl).trans fr.t6⟩
theorem args_get (args:Array Value) (k t:Nat) (h:t < args.size):(args++Array.replicate k undef).getD t undef=args[t]:=by
 simp [Array.getElem?_append,h]
theorem ints_ok (l:List Int):elemsOK 1 (ints l)=true:=by
 simp [elemsOK,ints,AV.storable,AV.cells]
theorem ends_ok (l:List End):elemsOK 2 (endsA l)=true:=by
 simp [elemsOK,endsA,endA,AV.storable,AV.cells]
theorem ends_one (es:List End):∀ x∈endsA es,x.cells.length=2∧x.storable=true∧∀ c∈x.cells,c.one=true:=by
 intro x hx
 obtain ⟨e,_,rfl⟩:=List.mem_map.1 hx
 refine ⟨rfl,rfl,fun c hc => ?_⟩
 simp [endA,AV.cells] at hc
 rcases hc with rfl | rfl<;>rfl
theorem ends_scal (es:List End):∀ x∈endsA es,∀ c∈x.cells,scal1 c=true:=by
 intro x hx c hc
 obtain ⟨e,_,rfl⟩:=List.mem_map.1 hx
 simp [endA,AV.cells] at hc
 rcases hc with rfl | rfl<;>rfl
theorem info_size {P:Program} {t:TypeId} {s:Nat} (h:(P.info? t).map (·.size)=some s):∃ i,P.info? t=some i∧i.size=s:=by
 cases hi:P.info? t with
 |none=>rw [hi] at h;cases h
 |some i=>rw [hi] at h;exact ⟨i,rfl,Option.some.inj h⟩
theorem run_callv_yield {P:Program} {a:Act} {o:Oper} {cl:Call} {f x:Operand} {l:Nat} (w:World) (ho:o.op = .call cl) (hc:cl.callee = .value f) (ha:cl.args = #[x]) (hf:a.eval f = .func (.yield l) #[] #[]) :
  (execOp a.eval o).run P w=(Instr.yield l #[a.eval x]).run P w:=by
 unfold execOp
 simp [ho,run_resolve_func hc,hf,Deferred.ofValue,invoke,ha]
theorem run_callv_func {P:Program} {a:Act} {o:Oper} {cl:Call} {f x:Operand} {k:Nat} {cap:Array Value} (w:World) (ho:o.op = .call cl) (hc:cl.callee = .value f) (ha:cl.args = #[x]) (hf:a.eval f = .func (.func k) #[] cap) (hk:callable P k=true) :
  (execOp a.eval o).run P w = .ok (.enter k (#[a.eval x]++cap)) w:=by
 unfold execOp
 simp [ho,run_resolve_func hc,hf,Deferred.ofValue,invoke,ha,run_callFunc hk]
theorem run_notB {P:Program} {a:Act} {o:Oper} {x:Operand} {t:TypeId} {b:Bool} (w:World) (ho:o.op = .unOp .not t x) (hx:a.eval x = .bool b):(execOp a.eval o).run P w = .ok (.value (.bool !b)) w:=by
 unfold execOp
 simp [ho,hx,Op.unary]
theorem Same.weaken {W W':Nat→Bool} {a a':Act} (h:Same W a a') (hw:∀ t,W' t=false→W t=false):Same W' a a':=fun t ht=>h t (hw t ht)
theorem results_tmp {P:Program} {fn:Func} {tmps:Array Value} {t:Tmp} {v:Value} {w:World} (hr:fn.results = #[.tmp t]) (h:tmps.getD t undef=v):(results fn tmps).run P w = .ok v w:=by
 rw [← h]
 simp [results,hr]
theorem run_assign {P:Program} {a:Act} {o:Oper} {x:Operand} (w:World) (ho:o.op = .assign x):(execOp a.eval o).run P w = .ok (.value (a.eval x)) w:=by
 unfold execOp
 simp only [ho]
 rfl
theorem St.after {X:Fx C all out fA rows} {k k':Nat} {M G:Nat→Prop} {Pr Pr':Nat→Nat→Prop} {es:List End} {w w':World} (s:St X k M Pr es w) (hj:C.J k' (fun b=>(M b∨G b)∧¬ G b) Pr' w') (hG:∀ b,G b→¬ M b)
  (hs:∀ b,M b∨G b→¬ G b→w'.heap[b]? = w.heap[b]?) (hk:Keeps Pr Pr' w w'):St X k' (fun b=>(M b∨G b)∧¬ G b) Pr' es w':=by
 have hMG:∀ b,M b→¬ G b:=fun b hb hg=>hG b hg hb
 have hsame:∀ b,M b→w'.heap[b]? = w.heap[b]? := fun b hb=>hs b (.inl hb) (hMG b hb)
 obtain ⟨v,ty,xs',h1,h2,h3,h4,h5⟩:=s.now
 refine ⟨hj,fun b hb => ?_,fun b h=>⟨⟨.inl (s.mi b h).1,hMG b (s.mi b h).1⟩,(s.mi b h).2.1,(hsame b (s.mi b h).1).trans (s.mi b h).2.2⟩,⟨v,ty,xs',(hsame _ h2).trans h1,⟨.inl h2,hMG _ h2⟩,?_,h4.mono (Keeps.of_eq fun _ _ h=>h.elim),fun b hb=>⟨⟨.inl (h5 b hb).1,hMG b (h5 b hb).1⟩,(h5 b hb).2⟩⟩,s.f.mono hk fun _ _ h=>h,s.o.mono hk fun _ _ h=>h,s.e.mono (keepsE (fun b h=>hsame b (s.mi b h).1) hk)⟩
 ·have hb1:M b:=hb.1.resolve_right hb.2
  have:=s.lt b hb1
  have h2:=hsame b hb1
  rw [Array.getElem?_eq_getElem this] at h2
  exact (Array.getElem?_eq_some_iff.1 h2).1
 ·refine ⟨h3.1,?_⟩
  rcases h3.2 with h | ⟨gg,cap,cur,rfl,hbg,hgg,rest⟩
  ·exact .inl h
  ·exact .inr ⟨gg,cap,cur,rfl,hbg,(hsame gg (h5 gg rfl).1).trans hgg,rest⟩
theorem execOp_build {P:Program} {ρ:Operand→Value} {o:Oper} {t:TypeId} {ps:Array (Nat×Operand)} (ho:o.op = .build t ps) (w:World) (N:Value→Prop)
  (h:∀ v w',(execOp ρ o).run P w = .ok (.value v) w'→N v):match (execOp ρ o).run P w with | .ok (.value v) _=>N v | .ok _ _=>False | .halt _ _=>True:=by
 have key:∀ r,(execOp ρ o).run P w=r→match r with | .ok (.value v) _=>N v | .ok _ _=>False | .halt _ _=>True:=by
  intro r hr
  have h0:=hr
  unfold execOp at hr
  simp only [ho,Sem.run_bind] at hr
  cases hb:(Instr.build t (ps.map fun (i,x)=>(i,ρ x))).run P w with
  |ok v w' =>
   rw [hb] at hr
   have:r = .ok (.value v) w':=by rw [← hr];rfl
   subst this
   exact h v w' h0
  |halt x w' =>
   rw [hb] at hr
   have:r = .halt x w':=by rw [← hr];rfl
   subst this;trivial
 exact key _ rfl
theorem cells_of_one {c:Value} (h:c.oneCell'=true):c.cells = #[c]:=by cases c<;>first | rfl | cases h
theorem built31 {u v:Value} (hu:u.oneCell'=true) (hv:v.oneCell'=true):prog.built 108 [(0,u),(1,v)]=some #[u,v]:=by
 have e:∀ u v:Value,prog.built 108 [(0,u),(1,v)]=Instr.fill (fun x => #[(0,1),(1,1)][x]?) #[.slice none 0 0,.slice none 0 0] [(0,u),(1,v)]:=by intro u v;kernel_rfl
 rw [e]
 simp [Instr.fill,cells_of_one hu,cells_of_one hv]
theorem lp_cons (es r:List End) (x:End) (m:Nat):lp es (x::r) m=ch (es++[x]) r m++lp es r m:=by
 cases m<;>rfl
theorem ch_nil (es:List End) (m:Nat):ch es [] m=[es]:=by simp [ch]
set_option maxRecDepth 100000 in
set_option maxHeartbeats 400000 in
theorem from_ok (hG:Stable GI) (X:Fx C all out fA rows) (hall:all.length≤1000) (hrows:rows≤1000) (hout:out.length≤1000) :
  ∀ (d n:Nat) (es:List End) (k:Nat) (M:Nat→Prop) (Pr:Nat→Nat→Prop) (w:World) (tail:List AV),n+d=all.length→es.length≤n→St X k M Pr es w →
   xs.drop k=(ch es (all.drop n) (rows - es.length)).map (settingA out)++tail →
   Calls prog 123 #[.int .i64 n,X.cA,X.cY,X.cO,.pointer (some ⟨X.bN,0,none⟩),X.cF,X.cR] w fun e w'=>∃ M' Pr',
    (e = .returned (.bool true)∧St X (k+(ch es (all.drop n) (rows - es.length)).length) M' Pr' es w')∨(e = .returned (.bool false)∧C.X M' Pr' w'):=by
 intro d
 induction d using Nat.strongRecOn with
 |_ d ih =>
 intro n es k M Pr w tail hnd hes st hxs
 refine (callsIn_FR (ro:=none) (m:=0)).1 (callsIn_of_wp func123 rfl trivial ?_)
 have fr:Fr X n { tmps := #[.int .i64 n,X.cA,X.cY,X.cO,.pointer (some ⟨X.bN,0,none⟩),X.cF,X.cR]++Array.replicate (f123.ntmps - 7) undef,defers:=[] }:=by
  refine ⟨by simp [ntmps123],rfl,args_get _ _ 0 (by simp),args_get _ _ 1 (by simp),args_get _ _ 2 (by simp),args_get _ _ 3 (by simp),args_get _ _ 4 (by simp),args_get _ _ 5 (by simp),args_get _ _ 6 (by simp)⟩
 generalize hc:(fun e w'=>∃ M' Pr',(e=Ending.returned (.bool true)∧St X (k+(ch es (all.drop n) (rows - es.length)).length) M' Pr' es w')∨(e = .returned (.bool false)∧C.X M' Pr' w'))=R
 have h9:∀ (a:Act) (w:World),(AV.junk).dem=AV.junk∧RV (fun _ _=>True) noneA w AV.junk (a.tmps.getD 9 undef):=fun a w=>⟨rfl,.junk _⟩
 refine wpIn_seq ?_
 refine region_anew hG hmix (ac:=ACode.fst c123) (W:=W7) (by kernel_rfl) (by kernel_rfl) (by kernel_rfl) (C.gi st.j) (fun _ _=>True) (slots l all es out fA X.fv n .junk) fr.size fr.defers (st.slots_ok fr (h9 _ _)) (K:=fun _ _=>True) ?_ ?_
 ·simp [c123,ACode.fst,awp,aops,awanted,astep,apure,assignQ]
 intro g S' H' a w1 hg R1 _ hsame
 have fr:=fr.step R1.size (by rw [R1.defers,hg];rfl) hsame
 have st:=st.grow (by have:=R1.below;rwa [R1.base] at this)
 clear hsame R1 hg g S' H'
 show Code.wpIn _ _ _ _ _ a w1
 refine wpIn_seq (wpIn_seq ?_)
 refine region_anew hG hmix (ac:=ACode.fst (ACode.fst (ACode.snd c123))) (W:=W7) (by kernel_rfl) (by kernel_rfl) (by kernel_rfl) (C.gi st.j) (fun _ _=>True) (slots l all es out fA X.fv n .junk) fr.size fr.defers (st.slots_ok fr (h9 _ _)) (K:=fun S' _=>∃ b,S' 13 = .bool b∧(b=true↔n=all.length)) ?_ ?_
 ·simp [c123,ACode.fst,ACode.snd,awp,aops,awanted,astep,apure,assignQ,Eff.S,Eff.H,ev,upd,putD,slots,loadA,AV.dem,abin,endsA]
  omega
 rintro g S' H' a w2 hg R1 ⟨b,hb,hbn⟩ hsame
 have fr:=fr.step R1.size (by rw [R1.defers,hg];rfl) hsame
 have st:=st.grow (by have:=R1.below;rwa [R1.base] at this)
 have ht:=R1.slot 13 (by decide) (fun h=>h)
 rw [hb] at ht
 have ht':=ht.bool_eq
 clear ht hsame
 show Code.wpIn _ _ _ _ _ a w2
 refine wpIn_cond (t:=b) ht' ?_
 cases b with
 |true =>
  have hn:n=all.length:=hbn.1 rfl
  have hch:ch es (all.drop n) (rows - es.length)=[es]:=by rw [hn,List.drop_length];exact ch_nil _ _
  rw [hch] at hxs hc
  simp only [if_true]
  refine wpIn_seq ?_
  refine cut_note hG hmix (n:=53) (p:=6) (j:=5) (d:=19) (T:=[16,18]) (W:=W7) (l:=(ACode.dl (ACode.fst (ACode.fst (ACode.snd (ACode.fst (ACode.snd c123)))))).take 6) (by kernel_rfl) (by kernel_rfl) (by kernel_rfl) (by kernel_rfl) (by kernel_rfl) (by kernel_rfl) (C.gi st.j) (fun _ _=>True) (slots l all es out fA X.fv n .junk) (oj:=⟨some 19,.build 108 #[(0,.tmp 16),(1,.tmp 18)],108, "name.go:18",#[⟨2,.data⟩,⟨4,.data⟩],none⟩) ?_ rfl rfl
   (fun a=>(a.tmps.getD 16 undef).oneCell'=true→(a.tmps.getD 18 undef).oneCell'=true→a.tmps.getD 19 undef = .agg #[a.tmps.getD 16 undef,a.tmps.getD 18 undef]) ?_ ?_ (by kernel_rfl) (by kernel_rfl) fr.size fr.defers (st.slots_ok fr (h9 _ _)) (K:=fun S' _=>S' 14 = .val (.func (.yield l) #[] #[])∧S' 16 = .slice (if (ints out).isEmpty then .nil else .own 3) (ints out)∧S' 18 = .slice (if (endsA es).isEmpty then .nil else .own 214) (endsA es) ∧
    ∃ o1 o2,S' 19 = .agg [.slice o1 (ints out),.slice o2 (endsA es)]) ?_ ?_
  ·rfl
  ·intro a a' h1 h2 hN g16 g18
   rw [h2 16 (by simp)] at g16 ⊢
   rw [h2 18 (by simp)] at g18 ⊢
   rw [h1]
   exact hN g16 g18
  ·intro a w hsz
   refine execOp_build rfl w _ ?_
   intro v w' hr
   have e16:(a.put (some 19) v).tmps.getD 16 undef=a.tmps.getD 16 undef:=by simp [Act.put,Array.getElem?_setIfInBounds_ne]
   have e18:(a.put (some 19) v).tmps.getD 18 undef=a.tmps.getD 18 undef:=by simp [Act.put,Array.getElem?_setIfInBounds_ne]
   have e19:(a.put (some 19) v).tmps.getD 19 undef=v:=by simp [Act.put,hsz]
   show (((a.put (some 19) v).tmps.getD 16 undef).oneCell'=true→_→(a.put (some 19) v).tmps.getD 19 undef=_)
   rw [e16,e18,e19]
   intro g16 g18
   have hb:=run_build (P:=prog) w 108 #[(0,a.tmps.getD 16 undef),(1,a.tmps.getD 18 undef)] _ (built31 g16 g18)
   unfold execOp at hr
   simp only [Sem.run_bind,Act.eval,List.map_toArray,List.map_cons,List.map_nil] at hr
   rw [hb] at hr
   simp only [Result.andThen_ok,Sem.run_pure] at hr
   cases hr
   rfl
  ·simp [c123,ACode.fst,ACode.snd,ACode.dl,prol,prolH,allocOf,dops,awanted,dstep,apure,astep,Eff.S,Eff.H,ev,upd,putD,slots,loadA,AV.dem,AV.vw,AV.cells,AV.storable,AV.vw1,fz,fz1,acall,onOut,fillA,splice]
   refine ⟨rfl,by kernel_rfl,_,ac124 hG _ (ints_ok out) (by rw [ints_len];omega),by simp [boxy],?_⟩
   refine ⟨rfl,by kernel_rfl,_,ac125 hG _ (ends_ok es) (by simp [endsA];omega),by simp [boxy],?_⟩
   by_cases ho:ints out=[]<;>by_cases he:endsA es=[]<;>simp [ho,he,upd]
  ·intro g' S' H' a w3 hg R3 ⟨hy,h16,h18,o1,o2,h19⟩ hsame hN
   have hbl:Below w2.heap.size w2 w3:=by have:=R3.below;rwa [R3.base] at this
   have fr:=fr.step R3.size (by rw [R3.defers,hg];rfl) hsame
   have st3:=st.grow hbl
   have e14:=(R3.slot 14 (by decide) (fun h=>h))
   rw [hy] at e14
   have e14:=e14.val_eq
   obtain ⟨i3,hi3,hs3⟩:=info_size (P:=prog) (t:=3) (s:=1) (by kernel_rfl)
   obtain ⟨i116,hi116,hs116⟩:=info_size (P:=prog) (t:=214) (s:=2) (by kernel_rfl)
   have fs16:=R3.freshSlice (t:=16) (by decide) (e:=3) hi3 (es:=ints out) h16 (fun x hx=>by obtain ⟨k,_,rfl⟩:=List.mem_map.1 hx;exact ⟨hs3.symm,rfl,fun c hc=>by simp [AV.cells] at hc;subst hc;rfl⟩) (fun x hx c hc=>by obtain ⟨k,_,rfl⟩:=List.mem_map.1 hx;simp [AV.cells] at hc;subst hc;rfl)
   have fs18:=R3.freshSlice (t:=18) (by decide) (e:=214) hi116 (es:=endsA es) h18 (by rw [hs116];exact ends_one es) (ends_scal es)
   rw [R3.base] at fs16 fs18
   let G:Nat→Prop:=fun b=>w2.heap.size≤b∧b < w3.heap.size
   have hj:C.J k (fun b=>M b∨G b) Pr w3:=C.turn st.j (Turn.of_below hbl) fun b hb=>by
    rcases hb with hb | hb
    ·exact ⟨st3.lt b hb,.inl hb⟩
    ·exact ⟨hb.2,.inr hb.1⟩
   have hkx:k < xs.length:=by
    have:=congrArg List.length hxs
    simp at this;omega
   have hxk:xs[k]=settingA out es:=by
    have:=congrArg (·[0]?) hxs
    simp at this
    rw [List.getElem?_eq_getElem hkx] at this
    exact Option.some.inj this
   have hone:∀ {u:Value} {es:List AV} {p:Nat→Nat→Prop},RD p w3 (.slice .view es) u→u.oneCell'=true:=fun h=>h.one rfl
   have h19:=hN (hone fs16) (hone fs18)
   have hx:RD (fun b j=>Pr b j∨(G b∧j < g'.hi b)) w3 xs[k] (a.tmps.getD 19 undef):=by
    rw [hxk,h19]
    refine .agg _ _ rfl (fun i hi => ?_) (fun i hi hi' => ?_)
    ·match i,hi with
     |0,_=>rfl
     |1,_=>rfl
    ·match i,hi with
     |0,_=>exact fs16.mono (Keeps.same fun b j _ h => .inr h)
     |1,_=>exact fs18.mono (Keeps.same fun b j _ h => .inr h)
   obtain ⟨ff,tmps,asg,bd,hy1,hround⟩:=C.round hkx G g'.hi _ hj (fun b hb => .inr hb) hx
   show wpOpsIn _ _ _ _ _ [6,7] a w3
   refine opIn_round rfl rfl (by rfl) ?_ hround ?_
   ·exact (run_callv_yield (f := .tmp 14) (x := .tmp 19) w3 rfl rfl rfl e14).trans hy1
   ·rintro e w4 ⟨hs4,Pr',hkp,hend⟩
    have hst:∀ {k'},C.J k' (fun b=>(M b∨G b)∧¬ G b) Pr' w4→St X k' (fun b=>(M b∨G b)∧¬ G b) Pr' es w4:=fun hj=>st3.after hj (fun b hg hm=>by have:=st.lt b hm;have:=hg.1;omega) hs4 hkp
    obtain ⟨b,rfl,hR⟩:∃ b:Bool,e = .returned (.bool b)∧R (.returned (.bool b)) w4:=by
     rcases hend with ⟨rfl,hj'⟩ | ⟨rfl,hx'⟩
     ·exact ⟨true,rfl,by rw [← hc];exact ⟨_,_,.inl ⟨rfl,hst hj'⟩⟩⟩
     ·exact ⟨false,rfl,by rw [← hc];exact ⟨_,_,.inr ⟨rfl,hx'⟩⟩⟩
    refine ⟨_,rfl,?_⟩
    have h20:(a.put (some 20) (.bool b)).tmps.getD 20 undef = .bool b:=by simp [Act.put,fr.size]
    refine opIn_val rfl rfl (by rfl) (v := .bool b) (w':=w4) ((run_assign (x := .tmp 20) w4 rfl).trans (congrArg (fun v=>Result.ok (Next.value v) w4) h20)) ?_
    show Code.wpIn _ _ _ _ _ _ _
    refine wpIn_ret ⟨fr.defers,.bool b,?_,hR⟩
    have h8:((a.put (some 20) (.bool b)).put (some 8) (.bool b)).tmps.getD 8 undef = .bool b:=by simp [Act.put,fr.size]
    show (results f123 ((a.put (some 20) (.bool b)).put (some 8) (.bool b)).tmps).run prog w4=_
    exact results_tmp results123 h8
 |false =>
  have hn:n < all.length:=by
   have:¬ n=all.length:=fun h=>by have:=hbn.2 h;cases this
   omega
  simp only [Bool.false_eq_true,if_false]
  refine wpIn_skip ?_
  show Code.wpIn _ _ _ _ _ a w2
  refine wpIn_seq (wpIn_seq ?_)
  refine region_anew hG hmix (ac:=ACode.fst (ACode.fst (ACode.snd (ACode.snd c123)))) (W:=W7) (by kernel_rfl) (by kernel_rfl) (by kernel_rfl) (C.gi st.j) (fun _ _=>True) (slots l all es out fA X.fv n .junk) fr.size fr.defers (st.slots_ok fr (h9 _ _)) (K:=fun S' _=>S' 9 = .int .i64 n) ?_ ?_
  ·simp [c123,ACode.fst,ACode.snd,awp,aops,awanted,astep,apure,assignQ,Eff.S,Eff.H,ev,upd,putD,slots,loadA,AV.dem,abin,endsA]
  rintro g S' H' a w3 hg R1 hb9 hsame
  have fr:=fr.step R1.size (by rw [R1.defers,hg];rfl) hsame
  have st:=st.grow (by have:=R1.below;rwa [R1.base] at this)
  have ht9:=R1.slot 9 (by decide) (fun h=>h)
  rw [hb9] at ht9
  have ht9':=ht9.int_eq
  clear ht9 hsame
  show Code.wpIn _ _ _ _ _ a w3
  obtain ⟨rem,hrem⟩:∃ rem:Nat→List (List End),rem=fun i=>if es.length < rows then lp es (all.drop i) (rows - es.length - 1) else []:=⟨_,rfl⟩
  have hch:ch es (all.drop n) (rows - es.length)=rem n:=by
   have hne:all.drop n≠[]:=by intro h;have:=congrArg List.length h;simp at this;omega
   rw [hrem]
   unfold ch
   rw [if_neg hne]
   by_cases hlt:es.length < rows
   ·simp only [if_pos hlt]
    obtain ⟨m,hm⟩:∃ m,rows - es.length=m+1:=⟨rows - es.length - 1,by omega⟩
    rw [hm];rfl
   ·simp only [if_neg hlt]
    have:rows - es.length=0:=by omega
    rw [this]
  rw [hch] at hxs hc
  refine wpIn_block (wpIn_loop (fun a w=>∃ i k' M' Pr',Fr X n a∧a.tmps.getD 9 undef = .int .i64 (i:Nat)∧n≤i∧i≤all.length∧St X k' M' Pr' es w∧xs.drop k'=(rem i).map (settingA out)++tail∧k'+(rem i).length=k+(rem n).length)
   (fun a _=>match a.tmps.getD 9 undef with | .int _ i=>all.length - i.toNat | _=>0) ⟨n,k,M,Pr,fr,ht9',Nat.le_refl _,by omega,st,hxs,rfl⟩ ?_)
  clear hb9 ht9' R1 hg hxs st fr
  rintro a w ⟨i,k',M,Pr,fr,h9i,hni,hil,st,hxs,hcnt⟩
  have h9':(AV.int .i64 (i:Int)).dem = .int .i64 (i:Int)∧RV (fun _ _=>True) noneA w (.int .i64 (i:Int)) (a.tmps.getD 9 undef):=⟨rfl,by rw [h9i];exact .data _ _ (.int _ _)⟩
  refine wpIn_seq (wpIn_seq ?_)
  refine region_anew hG hmix (ac:=ACode.fst (ACode.fst (ACode.snd (ACode.snd (ACode.snd (ACode.fst (ACode.snd (ACode.snd c123)))))))) (W:=W7) (by kernel_rfl) (by kernel_rfl) (by kernel_rfl) (C.gi st.j) (fun _ _=>True) (slots l all es out fA X.fv n (.int .i64 (i:Int))) fr.size fr.defers (st.slots_ok fr h9') (K:=fun S' _=>S' 9 = .int .i64 i∧∃ b,S' 33 = .bool b∧(b=true↔i < all.length∧es.length < rows)) ?_ ?_
  ·by_cases hlt:i < all.length
   ·have hlt':(i:Int) < all.length:=by omega
    simp [c123,ACode.fst,ACode.snd,awp,aops,awanted,astep,apure,assignQ,Eff.S,Eff.H,ev,upd,putD,slots,loadA,AV.dem,abin,endsA,hlt,X.f9,undefA]
    omega
   ·have hlt':¬ (i:Int) < all.length:=by omega
    simp [c123,ACode.fst,ACode.snd,awp,aops,awanted,astep,apure,assignQ,Eff.S,Eff.H,ev,upd,putD,slots,loadA,AV.dem,abin,endsA,hlt,X.f9,undefA]
  rintro g S' H' a' w' hg R1 ⟨hs9,b,hb,hbi⟩ hsame
  have fr':=fr.step R1.size (by rw [R1.defers,hg];rfl) hsame
  have st':=st.grow (by have:=R1.below;rwa [R1.base] at this)
  have ht9:=R1.slot 9 (by decide) (fun h=>h)
  rw [hs9] at ht9
  have h9i':=ht9.int_eq
  have ht33:=R1.slot 33 (by decide) (fun h=>h)
  rw [hb] at ht33
  have ht33':=ht33.bool_eq
  show Code.wpIn _ _ _ _ _ a' w'
  refine wpIn_cond (t:=b) ht33' ?_
  cases b with
  |false =>
   simp only [Bool.false_eq_true,if_false]
   refine wpIn_exit ?_
   have hno:¬ (i < all.length∧es.length < rows):=fun h=>by have:=hbi.2 h;cases this
   have hri:rem i=[]:=by
    rw [hrem]
    by_cases hlt:es.length < rows
    ·have:i=all.length:=by
      rcases Nat.lt_or_ge i all.length with h | h
      ·exact absurd ⟨h,hlt⟩ hno
      ·omega
     simp only [if_pos hlt,this,List.drop_length]
     rfl
    ·simp only [if_neg hlt]
   rw [hri] at hcnt
   simp only [Exit.then,Exit.inBlock,if_true]
   refine wpIn_seq ?_
   refine wpIn_region ?_
   show wpOpsIn _ _ _ _ _ [0] a' w'
   refine opIn_val rfl rfl (by rfl) (v := .bool true) (w':=w') (run_assign (x := .const (.bool true)) w' rfl) ?_
   show Code.wpIn _ _ _ _ _ _ _
   refine wpIn_ret ⟨fr'.defers,.bool true,?_,?_⟩
   ·have h8:(a'.put (some 8) (.bool true)).tmps.getD 8 undef = .bool true:=by simp [Act.put,fr'.size]
    show (results f123 (a'.put (some 8) (.bool true)).tmps).run prog w'=_
    exact results_tmp results123 h8
   ·rw [← hc]
    refine ⟨M,Pr,.inl ⟨rfl,?_⟩⟩
    rw [← hcnt]
    exact st'
  |true =>
   obtain ⟨hlt,hrw⟩:=hbi.1 rfl
   simp only [if_true]
   refine wpIn_skip ?_
   show Code.wpIn _ _ _ _ _ a' w'
   clear ht33 ht33' ht9 hb hs9 R1 hg hsame
   refine wpIn_seq (wpIn_block (wpIn_seq ?_))
   obtain ⟨v,ty,xs',hN,hMN,hown,hfl,hvM⟩:=st'.now
   obtain ⟨i116,hi116,hs116⟩:=info_size (P:=prog) (t:=214) (s:=2) (by kernel_rfl)
   have hlA:(endsA es).length=es.length:=by simp [endsA]
   refine region_stack hmix (n:=53) (ac:=ACode.fst (ACode.snd (ACode.fst (ACode.snd lA123)))) (by kernel_rfl) (by kernel_rfl) (by kernel_rfl) (W:=W36) (by kernel_rfl) (fun b k=>X.MI b∨Pr b k)
    (fun t=>match t with | 1 => .ref [.slice .view (endsA all)] | 4 => .box 4 0 | 9 => .int .i64 (i:Int) | _ => .junk) (nm:=4) (tp:=4) (es:=endsA es) (es':=endsA (es++[all[i]])) (by decide) rfl fr'.t4 fr'.size fr'.defers hN hi116 (by rw [hs116,hlA];exact hown) (by rw [hs116];exact hfl.mono (Keeps.same fun _ _ _ h=>h.elim)) ?_ ?_ (by rw [hs116];exact ends_one _) (ends_scal _) ?_
   ·intro t ht
    split
    ·exact ⟨rfl,.inr (by rw [fr'.t1];exact st'.allR)⟩
    ·exact ⟨rfl,.inl ⟨rfl,fr'.t4⟩⟩
    ·exact ⟨rfl,.inr (by rw [h9i'];exact .data _ _ (.int _ _))⟩
    ·exact ⟨rfl,.inr (.junk _)⟩
   ·have hne:¬ (i:Int) < 0:=by omega
    have hsm:es.length+1 < 1048576:=by omega
    cases hvo:v.ownBlock with
    |none =>
     have he:es=[]:=by
      rcases hown.2 with ⟨_,h⟩ | ⟨gg,cap,cur,rfl,_⟩
      ·exact List.eq_nil_of_length_eq_zero h
      ·cases hvo
     subst he
     simp [c123,lA123,ACode.fst,ACode.snd,awp,prol,prolH,allocOf,dops,awanted,dstep,apure,astep,Eff.S,Eff.H,ev,upd,putD,loadA,AV.dem,AV.vw,AV.cells,AV.storable,AV.vw1,assignQ,stackA,hvo,HR.okB,tmpOf,endsA,endA,hlt,elemsOK,splice,AV.scells,hne]
    |some bv =>
     simp [c123,lA123,ACode.fst,ACode.snd,awp,prol,prolH,allocOf,dops,awanted,dstep,apure,astep,Eff.S,Eff.H,ev,upd,putD,loadA,AV.dem,AV.vw,AV.cells,AV.storable,AV.vw1,assignQ,stackA,hvo,HR.okB,tmpOf,endsA,endA,hlt,elemsOK,splice,AV.scells,hne,hsm]
   ·intro a2 w2 v' ty' xs2 hsz2 hds2 hsame2 hN2 hown2 hfl2 hturn hnew
    have fr2:=fr'.step hsz2 hds2 (Same.weaken hsame2 fun t ht=>by simp [W7] at ht;simp [W36];omega)
    have h92:a2.tmps.getD 9 undef = .int .i64 (i:Int):=(hsame2 9 rfl).trans h9i'
    have hMv:∀ b,(b=X.bN∨v.ownBlock=some b)→M b∧¬ X.MI b:=by
     rintro b (rfl | hb)
     ·exact ⟨hMN,fun h=>(st'.mi _ h).2.1 rfl⟩
     ·exact hvM b hb
    have hk2:Keeps Pr Pr w' w2:=Keeps.of_moved fun b k hlt hp=>hturn.block b hlt fun hm=>C.apart st'.j b k (hMv b hm).1 hp
    have hmiv:∀ b,X.MI b→w2.heap[b]? = w'.heap[b]? := fun b h=>hturn.block b (st'.lt b (st'.mi b h).1) fun hm=>(hMv b hm).2 h
    have hlA2:(endsA (es++[all[i]])).length=(es++[all[i]]).length:=by simp [endsA]
    have st2:St X k' (fun b=>M b∨(w'.heap.size≤b∧b < w2.heap.size)) Pr (es++[all[i]]) w2:=by
     refine ⟨C.turn st'.j (M':=fun b=>M b∨(w'.heap.size≤b∧b < w2.heap.size)) ⟨hturn.os,hturn.tape,hturn.output,hturn.size,fun b hb hm=>hturn.block b hb fun h=>hm (hMv b h).1⟩ fun b hb => ?_,fun b hb => ?_,fun b h=>⟨.inl (st'.mi b h).1,(st'.mi b h).2.1,(hmiv b h).trans (st'.mi b h).2.2⟩,⟨v',ty',xs2,hN2,.inl hMN,?_,?_,fun b hb => ?_⟩,st'.f.mono hk2 fun _ _ h=>h,st'.o.mono hk2 fun _ _ h=>h,st'.e.mono (keepsE hmiv hk2)⟩
     ·rcases hb with hb | hb
      ·exact ⟨Nat.lt_of_lt_of_le (st'.lt b hb) hturn.size,.inl hb⟩
      ·exact ⟨hb.2,.inr hb.1⟩
     ·rcases hb with hb | hb
      ·exact Nat.lt_of_lt_of_le (st'.lt b hb) hturn.size
      ·exact hb.2
     ·rw [hs116,hlA2] at hown2;exact hown2
     ·rw [hs116] at hfl2;exact hfl2
     ·rcases hnew b hb with h | h
      ·exact ⟨.inl (hvM b h).1,(hvM b h).2⟩
      ·refine ⟨.inr ⟨h,(hown2.lt b hb).2⟩,fun hm => ?_⟩
       have:=st'.lt b (st'.mi b hm).1
       omega
    clear hMv hk2 hmiv hnew hown2 hfl2 hN2 hturn
    show Code.wpIn _ _ _ _ _ a2 w2
    have h92':(AV.int .i64 (i:Int)).dem = .int .i64 (i:Int)∧RV (fun _ _=>True) noneA w2 (.int .i64 (i:Int)) (a2.tmps.getD 9 undef):=⟨rfl,by rw [h92];exact .data _ _ (.int _ _)⟩
    refine wpIn_seq (wpIn_seq ?_)
    refine front_anew hG (p:=3) (l2:=[3,4]) rfl (by kernel_rfl) (by kernel_rfl) (l:=(ACode.dl (ACode.fst (ACode.fst (ACode.snd (ACode.snd (ACode.fst (ACode.snd lA123))))))).take 3) (by kernel_rfl) (by decide) (W:=W36) (by kernel_rfl) (C.gi st2.j) (fun _ _=>True) (slots l all (es++[all[i]]) out fA X.fv n (.int .i64 (i:Int))) fr2.size fr2.defers (st2.slots_ok fr2 h92') (K:=fun S' _=>S' 43 = .val X.fv∧S' 45 = .int .i64 ((i+1:Nat):Int)) ?_ ?_
    ·have hwr:IntKind.i64.wrap ((i:Int)+1)=i+1:=wrapI (by omega)
     simp [c123,lA123,ACode.fst,ACode.snd,ACode.dl,aops,awanted,astep,apure,Eff.S,Eff.H,ev,upd,putD,slots,loadA,AV.dem,abin,hwr]
    rintro g S' H' a3 w3 hg R1 ⟨h43,h45⟩ hsame3
    have fr3:=fr2.step R1.size (by rw [R1.defers,hg];rfl) (Same.weaken hsame3 fun t ht=>by simp [W7] at ht;simp [W36];omega)
    have st3:=st2.grow (by have:=R1.below;rwa [R1.base] at this)
    have h93:a3.tmps.getD 9 undef = .int .i64 (i:Int):=(hsame3 9 rfl).trans h92
    have e43:=R1.slot 43 (by decide) (fun h=>h)
    rw [h43] at e43
    have e43:=e43.val_eq
    have e45:=R1.slot 45 (by decide) (fun h=>h)
    rw [h45] at e45
    have e45:=e45.int_eq
    clear R1 hg hsame3
    have hdrop:all.drop i=all[i]::all.drop (i+1):=List.drop_eq_getElem_cons hlt
    have hri:rem i=ch (es++[all[i]]) (all.drop (i+1)) (rows - (es++[all[i]]).length)++rem (i+1):=by
     rw [hrem]
     simp only [if_pos hrw,hdrop,lp_cons]
     congr 2
     simp;omega
    rw [hri] at hxs hcnt
    rw [List.map_append,List.append_assoc] at hxs
    have hcall:=ih (all.length - (i+1)) (by omega) (i+1) (es++[all[i]]) k' _ Pr w3 _ (by omega) (by simp;omega) st3 hxs
    refine opIn_call rfl rfl (by rfl) (run_callv_func (f := .tmp 43) (x := .tmp 45) w3 rfl rfl rfl e43 (by kernel_rfl)) (R:=fun e w'=>∃ M' Pr',(e = .returned (.bool true)∧St X (k'+(ch (es++[all[i]]) (all.drop (i+1)) (rows - (es++[all[i]]).length)).length) M' Pr' (es++[all[i]]) w')∨(e = .returned (.bool false)∧C.X M' Pr' w')) ?_ ?_
    ·have : #[a3.eval (.tmp 45)] ++ #[X.cA,X.cY,X.cO,.pointer (some ⟨X.bN,0,none⟩),X.cF,X.cR] = #[.int .i64 ((i+1:Nat):Int),X.cA,X.cY,X.cO,.pointer (some ⟨X.bN,0,none⟩),X.cF,X.cR]:=by
      show #[a3.tmps.getD 45 undef]++_=_
      rw [e45];rfl
     rw [this]
     exact hcall
    rintro e w4 ⟨M4,Pr4,hend⟩
    obtain ⟨b,rfl⟩:∃ b:Bool,e = .returned (.bool b):=by rcases hend with ⟨rfl,_⟩ | ⟨rfl,_⟩<;>exact ⟨_,rfl⟩
    refine ⟨_,rfl,?_⟩
    have h46:(a3.put (some 46) (.bool b)).tmps.getD 46 undef = .bool b:=by simp [Act.put,fr3.size]
    refine opIn_val rfl rfl (by rfl) (v := .bool !b) (w':=w4) (run_notB (x := .tmp 46) w4 rfl h46) ?_
    show Code.wpIn _ _ _ _ _ ((a3.put (some 46) (.bool b)).put (some 47) (.bool !b)) w4
    obtain ⟨a4,ha4⟩:∃ a4,(a3.put (some 46) (.bool b)).put (some 47) (.bool !b)=a4:=⟨_,rfl⟩
    rw [ha4]
    have hgp:∀ (a:Act) (d t:Nat) (c:Value),t≠d→(a.put (some d) c).tmps.getD t undef=a.tmps.getD t undef:=fun a d t c h=>by
     simp [Act.put,Array.getElem?_setIfInBounds_ne (Ne.symm h)]
    have hs4:Same W36 a3 a4:=fun t ht=>by
     have:t < 36:=by simp [W36] at ht;omega
     rw [← ha4,hgp _ _ _ _ (by omega),hgp _ _ _ _ (by omega)]
    have hsz4:a4.tmps.size=53:=by rw [← ha4];simp [Act.put,fr3.size]
    have hds4:a4.defers=[]:=by rw [← ha4];exact fr3.defers
    have fr4:=fr3.step hsz4 hds4 (Same.weaken hs4 fun t ht=>by simp [W7] at ht;simp [W36];omega)
    have h94:a4.tmps.getD 9 undef = .int .i64 (i:Int):=(hs4 9 rfl).trans h93
    have h47:a4.tmps.getD 47 undef = .bool !b:=by rw [← ha4];simp [Act.put,fr3.size]
    refine wpIn_cond (t := !b) h47 ?_
    cases b with
    |false =>
     have hX:C.X M4 Pr4 w4:=by
      rcases hend with ⟨h,_⟩ | ⟨_,h⟩
      ·cases h
      ·exact h
     simp only [Bool.not_false,if_true]
     refine wpIn_seq ?_
     refine wpIn_region ?_
     show wpOpsIn _ _ _ _ _ [0] a4 w4
     refine opIn_val rfl rfl (by rfl) (v := .bool false) (w':=w4) (run_assign (x := .const (.bool false)) w4 rfl) ?_
     show Code.wpIn _ _ _ _ _ _ _
     refine wpIn_ret ⟨fr4.defers,.bool false,?_,?_⟩
     ·have h8:(a4.put (some 8) (.bool false)).tmps.getD 8 undef = .bool false:=by simp [Act.put,fr4.size]
      show (results f123 (a4.put (some 8) (.bool false)).tmps).run prog w4=_
      exact results_tmp results123 h8
     ·rw [← hc]
      exact ⟨M4,Pr4,.inr ⟨rfl,hX⟩⟩
    |true =>
     have st4:St X (k'+(ch (es++[all[i]]) (all.drop (i+1)) (rows - (es++[all[i]]).length)).length) M4 Pr4 (es++[all[i]]) w4:=by
      rcases hend with ⟨_,h⟩ | ⟨h,_⟩
      ·exact h
      ·cases h
     simp only [Bool.not_true,Bool.false_eq_true,if_false]
     refine wpIn_skip ?_
     show Code.wpIn _ _ _ _ _ a4 w4
     obtain ⟨v4,ty4,xs4,hN4,hMN4,hown4,hfl4,hvM4⟩:=st4.now
     have hl4:xs4.length=(es.length+1) * 2:=by have:=hown4.1;simpa using this
     obtain ⟨i29,hi29,hs29⟩:=info_size (P:=prog) (t:=106) (s:=1) (by kernel_rfl)
     refine wpIn_region ?_
     show wpOpsIn _ _ _ _ _ [0,1,2,3,4,5] a4 w4
     refine pop_ops (P:=prog) (n:=53) (T:=106) (el:=214) (p:=4) (t1:=48) (t2:=49) (t3:=50) (t4:=51) (t5:=52) (bN:=X.bN) (i:=i116) (iT:=i29) (v:=v4) (ty:=ty4) (k:=es.length) (xs:=xs4.take (es.length * 2)) (last:=xs4.drop (es.length * 2))
      rfl rfl rfl rfl rfl rfl ⟨rfl,rfl,rfl⟩ ⟨rfl,rfl,rfl⟩ ⟨rfl,rfl,rfl⟩ ⟨rfl,rfl,rfl⟩ ⟨rfl,rfl,rfl⟩ ⟨rfl,rfl,rfl⟩ rfl rfl rfl (by kernel_rfl) hi29 hs29 hi116 (by decide) fr4.size (by decide) fr4.t4 hN4 (by rw [List.take_append_drop,hs116];simpa using hown4) (by rw [hs116,List.length_take,hl4];omega) (by omega) ?_
     intro a5 v5 hsz5 hds5 hs5 hob hobs hown5
     have hgg:∀ b,v5.ownBlock=some b→M4 b∧¬ X.MI b:=fun b hb=>hvM4 b (by rw [← hob];exact hb)
     have hoth:∀ b,b≠X.bN→(w4.setRow X.bN #[v5]).heap[b]? = w4.heap[b]? := fun b hb=>setRow_other w4 X.bN b #[v5] hb
     have hsz5w:(w4.setRow X.bN #[v5]).heap.size=w4.heap.size:=by simp
     have hk5:Keeps Pr4 Pr4 w4 (w4.setRow X.bN #[v5]):=Keeps.of_moved fun b k _ hp=>hoth b (by rintro rfl;exact C.apart st4.j _ k hMN4 hp)
     have st5:St X (k'+(ch (es++[all[i]]) (all.drop (i+1)) (rows - (es++[all[i]]).length)).length) M4 Pr4 es (w4.setRow X.bN #[v5]):=by
      refine ⟨C.turn st4.j ⟨rfl,rfl,rfl,by rw [hsz5w];exact Nat.le_refl _,fun b _ hm=>hoth b (by rintro rfl;exact hm hMN4)⟩ fun b hb=>⟨by rw [hsz5w];exact st4.lt b hb,.inl hb⟩,fun b hb=>by rw [hsz5w];exact st4.lt b hb,fun b h=>⟨(st4.mi b h).1,(st4.mi b h).2.1,(hoth b (st4.mi b h).2.1).trans (st4.mi b h).2.2⟩,
       ⟨v5,ty4,xs4.take (es.length * 2),setRow_heap w4 X.bN _ #[v5] ty4 (0,0) hN4,hMN4,?_,?_,hgg⟩,st4.f.mono hk5 fun _ _ h=>h,st4.o.mono hk5 fun _ _ h=>h,st4.e.mono (keepsE (fun b h=>hoth b (st4.mi b h).2.1) hk5)⟩
      ·rw [hs116] at hown5
       refine ⟨hown5.1,?_⟩
       rcases hown5.2 with h | ⟨gg,cap,cur,rfl,hbg,hgg',rest⟩
       ·exact .inl h
       ·exact .inr ⟨gg,cap,cur,rfl,hbg,(hoth gg (by omega)).trans hgg',rest⟩
      ·refine ⟨ends_one es,fun j hj k hk => ?_⟩
       have hje:j < es.length:=by simpa [endsA] using hj
       have hj':j < (endsA (es++[all[i]])).length:=by simp [endsA];omega
       have hget:(endsA (es++[all[i]]))[j]=(endsA es)[j]:=by
        simp only [endsA,List.map_append,List.map_cons,List.map_nil]
        exact List.getElem_append_left (by simpa using hje)
       obtain ⟨u,u1,u2⟩:=hfl4.2 j hj' k (by rw [hget];exact hk)
       refine ⟨u,?_,?_⟩
       ·have hk2:k < 2:=by
         have:=ends_one es _ (List.getElem_mem hj)
         rw [this.1] at hk;exact hk
        rw [List.getElem?_take_of_lt (by omega)];exact u1
       ·simp only [hget] at u2
        exact u2.mono (Keeps.of_eq fun _ _ h=>h.elim)
     have hs45:Same W36 a4 a5:=fun t ht=>by
      have:t < 36:=by simp [W36] at ht;omega
      exact hs5 t (by omega) (by omega) (by omega) (by omega) (by omega)
     have fr5:=fr4.step hsz5 (hds5.trans fr4.defers) (Same.weaken hs45 fun t ht=>by simp [W7] at ht;simp [W36];omega)
     have h95:a5.tmps.getD 9 undef = .int .i64 (i:Int):=(hs45 9 rfl).trans h94
     clear hoth hgg hk5 hown5 hs45 hs5 hsz5w
     generalize w4.setRow X.bN #[v5]=w5 at st5 ⊢
     simp only [Exit.then,Exit.inBlock]
     have h95':(AV.int .i64 (i:Int)).dem = .int .i64 (i:Int)∧RV (fun _ _=>True) noneA w5 (.int .i64 (i:Int)) (a5.tmps.getD 9 undef):=⟨rfl,by rw [h95];exact .data _ _ (.int _ _)⟩
     refine region_anew hG hmix (ac:=ACode.snd (ACode.snd lA123)) (W:=W7) (by kernel_rfl) (by kernel_rfl) (by kernel_rfl) (C.gi st5.j) (fun _ _=>True) (slots l all es out fA X.fv n (.int .i64 (i:Int))) fr5.size fr5.defers (st5.slots_ok fr5 h95') (K:=fun S' _=>S' 9 = .int .i64 ((i+1:Nat):Int)) ?_ ?_
     ·have hwr:IntKind.i64.wrap ((i:Int)+1)=i+1:=wrapI (by omega)
      simp [c123,lA123,ACode.fst,ACode.snd,awp,aops,awanted,astep,apure,assignQ,Eff.S,Eff.H,ev,upd,putD,slots,AV.dem,abin,hwr]
     intro g S' H' a6 w6 hg R1 h96 hsame6
     have fr6:=fr5.step R1.size (by rw [R1.defers,hg];rfl) hsame6
     have st6:=st5.grow (by have:=R1.below;rwa [R1.base] at this)
     have e96:=R1.slot 9 (by decide) (fun h=>h)
     rw [h96] at e96
     have e96:=e96.int_eq
     refine ⟨⟨i+1,_,M4,Pr4,fr6,e96,by omega,by omega,st6,?_,?_⟩,?_⟩
     ·rw [← List.drop_drop,hxs,List.drop_append_of_le_length (by simp)]
      simp
     ·have e := @List.length_append _ (ch (es++[all[i]]) (all.drop (i+1)) (rows - (es++[all[i]]).length)) (rem (i+1))
      omega
     ·rw [e96,h9i]
      show all.length - ((i+1:Nat):Int).toNat < all.length - (i:Int).toNat
      rw [Int.toNat_natCast,Int.toNat_natCast]
      omega
end Go.Proofs.Tryz
namespace Go.AL
open Go.RowKit
section
variable {P:Program} {GI:World→Prop} {n:Nat} {a:Act} {w w0:World} {m:Nat} {Q:Exit→Act→World→Prop} {g:Gh} {S:Slots} {H:Boxes} {ro:Option Nat}
theorem region_step (R:Rel P w0 n NoU g S H a w) (hG:Stable GI) (hG0:GI w0) (hm:P.follows .mixedOrders=true) {id:Nat} {ops:Array Oper} {draw:Bool} (hc:calmC (.region id ops draw)=true) {ac:ACode} (hac:compC P n (.region id ops draw)=ac) {W:Nat→Bool} (hW:Writes ops W=true)
  (hbx:∀ d,¬ g.old.bx d) {K:Slots→Boxes→Prop} (h:awp P GI ac (assignQ K) S H)
  (hk:∀ g' S' H' a' w',g'.old=g.old→Rel P w0 n NoU g' S' H' a' w'→K S' H'→Same W a a'→Q .normal a' w'):(Code.region id ops draw).wpIn (FR ro) m P Q a w:=by
 subst hac
 have fin:∀ e a' w',frQ W a (QQ P w0 n g.old (assignQ K)) e a' w'→Q e a' w':=by
  intro e a' w' hq
  cases e with
  |normal =>
   obtain ⟨⟨g',S',H',h1,h2,h3⟩,h4⟩:=hq
   exact hk g' S' H' a' w' h1 h2 h3 h4
  |exit id=>obtain ⟨_,_,_,_,_,h⟩:=hq;exact h.elim
  |ret=>obtain ⟨_,_,_,_,_,h⟩:=hq;exact h.elim
  |panic ch=>obtain ⟨_,_,_,_,_,_,_,_,_,_,h⟩:=hq;exact h.elim
  |goto l=>exact hq.elim
  |outgrown=>exact hq.elim
 simp only [compC] at h
 cases draw with
 |true =>
  simp only [if_true] at h
  split at h
  case isFalse=>exact h.elim
  rename_i hok
  exact wpIn_region_any hm (wpAnyIn_mono fin _ _ _ _ (wpAnyIn_frame hW _ _ _ _ (dregion_any hG hG0 hm hc hok (fun _ _ _ _=>hbx _) rfl R h)))
 |false =>
  simp only [Bool.false_eq_true,if_false] at h
  split at h
  case isFalse=>exact h.elim
  rename_i hok
  exact wpIn_region (wpOpsIn_mono fin _ _ _ (wpOpsIn_frame hW _ _ _ (region_ops hG hG0 hc hok (fun _ _ _ _=>hbx _) rfl R h)))
theorem run_alloc1 {o:Oper} {t:TypeId} {z:Value} (ho:o.op = .alloc t) (hz:(P.info? t).bind (·.zero)=some z):(execOp a.eval o).run P w = .ok (.value (.pointer (some ⟨w.heap.size,0,none⟩))) (w.alloc (.cells z.cells t)):=by
 obtain ⟨it,h1,h2⟩:=Option.bind_eq_some_iff.1 hz
 unfold execOp
 simp [ho,Instr.alloc,zeroValue,typeInfo,h1,h2,newVar,newRow]
theorem run_mkf {o:Oper} {fn:Fn} {c:Array Operand} (ho:o.op = .makeFunc fn #[] c):(execOp a.eval o).run P w = .ok (.value (.func fn #[] (c.map a.eval))) w:=by
 simp [execOp,ho,Instr.makeFunc]
end
end Go.AL
namespace Go.Proofs.Tryz
open Go Go.AL Go.RowKit
variable {GI:World→Prop}
theorem arr_one {vs:Array Value} (h:vs.size=1):∃ v,vs = #[v]:=⟨vs[0],by
 apply Array.ext
 ·simpa using h
 ·intro i h1 h2
  have:i=0:=by simpa using h2
  subst this;rfl⟩
theorem under_agg {P:Program} {t:TypeId} (h:(P.underlying t).map aggT=some false):∃ d,P.underlying t=some d∧aggT d=false:=by
 cases hi:P.underlying t with
 |none=>rw [hi] at h;cases h
 |some i=>rw [hi] at h;exact ⟨i,rfl,Option.some.inj h⟩
theorem vw1_dem:AV.vw1 ∘ AV.dem=AV.vw1:=by
 funext v
 cases v<;>try rfl
 rename_i o es;cases o<;>rfl
theorem RD.anyFlag {Pr:Nat→Nat→Prop} {w:World} {o:Ow} {es:List AV} {c:Value} (h:RD Pr w (.slice o es) c):RD Pr w (.slice .view es) c:=by
 cases h with
 |nils=>exact .nils _
 |slice _ _ b off cap size cs hcap hn hsz h1 hc hr=>exact .slice _ _ b off cap size cs hcap (fun h=>by cases h) hsz h1 hc hr
 |emps _ a=>exact .emps _ a
set_option maxRecDepth 100000 in
set_option maxHeartbeats 400000 in
theorem it121 (hG:Stable GI) {oE:Ow} {all:List End} {out:List Int} {fA:List AV} {rows:Nat} (hall:all.length≤1000) (hrows:rows≤1000) (hout:out.length≤1000) (hfl:fA.length=11) (hf1:∀ x∈fA.take 10,x.storable=true∧x.one=true∧x.dem=x) (h9:fA[9]? = some (.int .i64 rows))
  (hends:AC prog GI 122 [.agg ((fA.take 10).map AV.vw1),vI out] (.ret (.slice oE (endsA all)))) :
  IterC prog GI 121 [.ref fA,.ref [vI out]] ((ch [] all rows).map (settingA out)):=by
 intro l C w Pr cargs hJ hlen hr
 obtain ⟨cF,cO,rfl⟩:∃ cF cO,cargs = #[cF,cO]:=by
  have:cargs.size=2:=by simpa using hlen.symm
  exact ⟨cargs[0],cargs[1],by
   apply Array.ext
   ·simpa using this
   ·intro i h1 h2
    match i,h2 with
    |0,_=>rfl
    |1,_=>rfl⟩
 have hrF:=hr 0 (by simp) (by simp)
 have hrO:=hr 1 (by simp) (by simp)
 simp only [List.getElem_cons_zero,List.getElem_cons_succ,List.getElem_toArray] at hrF hrO
 refine (callsIn_FR (ro:=none) (m:=0)).1 (callsIn_of_wp func121 rfl trivial ?_)
 have hG0:=C.gi hJ
 have R:Rel prog w 14 NoU _ (AL.start [.val (.func (.yield l) #[] #[]),.ref fA,.ref [vI out]]) (fun _=>none) { tmps:=(#[.func (.yield l) #[] #[]] ++ #[cF,cO])++Array.replicate (f121.ntmps - (#[Value.func (.yield l) #[] #[]] ++ #[cF,cO]).size) undef,defers:=[] } w:=Rel.begin (args:=[.val (.func (.yield l) #[] #[]),.ref fA,.ref [vI out]]) (old:=Pr) ntmps121 (by simp) rfl (fun i h h'=>by
  match i,h with
  |0,_=>exact .data _ _ (.val _ rfl)
  |1,_=>exact hrF
  |2,_=>exact hrO)
 have e1:({ tmps:=(#[Value.func (.yield l) #[] #[]] ++ #[cF,cO])++Array.replicate (f121.ntmps - (#[Value.func (.yield l) #[] #[]] ++ #[cF,cO]).size) undef,defers:=[] }:Act).tmps.getD 1 undef=cF:=args_get _ _ 1 (by simp)
 have e2:({ tmps:=(#[Value.func (.yield l) #[] #[]] ++ #[cF,cO])++Array.replicate (f121.ntmps - (#[Value.func (.yield l) #[] #[]] ++ #[cF,cO]).size) undef,defers:=[] }:Act).tmps.getD 2 undef=cO:=args_get _ _ 2 (by simp)
 have W3:∃ W:Nat→Bool,W=fun t=>decide (3≤t):=⟨_,rfl⟩
 refine wpIn_seq ?_
 refine region_step R hG hG0 hmix (ac:=ACode.fst c121) (W:=fun t=>decide (3≤t)) (by kernel_rfl) (by kernel_rfl) (by kernel_rfl) (fun _ h=>h) (K:=fun S' H'=>S' 1 = .ref fA∧S' 2 = .ref [vI out]∧S' 3 = .box 3 0∧H' 3=some [.val (.func (.yield l) #[] #[])]) ?_ ?_
 ·simp [c121,ACode.fst,awp,aops,awanted,astep,assignQ,ev,AL.start,AV.dem,AV.cells,AV.storable,upd,scrub,vI]
 rintro g1 S1 H1 a1 w1 ho1 R1 ⟨s1,s2,s3,h3⟩ hs1
 refine wpIn_seq ?_
 refine region_step R1 hG hG0 hmix (ac:=ACode.fst (ACode.snd c121)) (W:=fun t=>decide (3≤t)) (by kernel_rfl) (by kernel_rfl) (by kernel_rfl) (by rw [ho1];exact fun _ h=>h) (K:=fun S' H'=>S' 3 = .box 3 0∧S' 4 = .box 4 0∧H' 3=some [.val (.func (.yield l) #[] #[])]∧H' 4=some [.slice oE (endsA all)]) ?_ ?_
 ·simp [c121,ACode.fst,ACode.snd,awp,aops,awanted,astep,assignQ,ev,apure,Eff.S,Eff.H,putD,loadA,s1,s2,s3,h3,upd,AV.dem,vI,hfl,acall]
  have e8:fz H1 (.agg (List.take 10 (List.map AV.dem fA))) = .agg ((fA.take 10).map AV.vw1):=by
   simp only [fz,fz1,AV.vw,← List.map_take,List.map_map,vw1_dem]
  have e9:fz H1 (.slice .view (ints out))=vI out:=rfl
  rw [e8,e9]
  refine ⟨by kernel_rfl,_,hends,by simp [boxy],?_⟩
  cases oE<;>simp [onOut,scrub,AV.cells,AV.storable,HR.okB,tmpOf,splice,AV.scells,upd,AV.dem,s3,h3]
 rintro g2 S2 H2 a2 w2 ho2 R2 ⟨t3,t4,k3,k4⟩ hs2
 have hbase:g2.base=w.heap.size:=R2.base
 have hbl:Below w.heap.size w w2:=by have:=R2.below;rwa [hbase] at this
 obtain ⟨bY,hY⟩:∃ b,g2.al 3=some b∧a2.tmps.getD 3 undef = .pointer (some ⟨b,0,none⟩):=by
  have h:=R2.slot 3 (by decide) (fun h=>h)
  rw [t3] at h
  generalize a2.tmps.getD 3 undef=c at h
  cases h with
  |data _ _ h=>cases h
  |box _ _ b h=>exact ⟨b,h,rfl⟩
 obtain ⟨bA,hA⟩:∃ b,g2.al 4=some b∧a2.tmps.getD 4 undef = .pointer (some ⟨b,0,none⟩):=by
  have h:=R2.slot 4 (by decide) (fun h=>h)
  rw [t4] at h
  generalize a2.tmps.getD 4 undef=c at h
  cases h with
  |data _ _ h=>cases h
  |box _ _ b h=>exact ⟨b,h,rfl⟩
 obtain ⟨csY,vsY,tyY,q1,q2,q3,q4,q5,q6,q7,q8,q9⟩:=R2.box 3 bY hY.1
 rw [k3] at q1
 cases q1
 have hvY:vsY = #[.func (.yield l) #[] #[]]:=by
  have h0:=q7 0 (by simp) (by rw [← q6];simp)
  simp only [List.getElem_cons_zero] at h0
  apply Array.ext
  ·rw [← q6];rfl
  ·intro i h1 h2
   have:i=0:=by simpa using h2
   subst this
   exact (RV.data (al:=noneA) _ _ h0).val_eq
 subst hvY
 obtain ⟨csA,vsA,tyA,r1,r2,r3,r4,r5,r6,r7,r8,r9⟩:=R2.box 4 bA hA.1
 rw [k4] at r1
 cases r1
 obtain ⟨hdr,rfl⟩:=arr_one (vs:=vsA) (by rw [← r6];rfl)
 have hA0:=r7 0 (by simp) (by simp)
 have hO0:=r8 0 (by simp) (by simp)
 simp only [List.getElem_cons_zero,List.getElem_toArray] at hA0 hO0
 have hfresh:RD (fun b k=>(b < w.heap.size∧Pr b k)∨(w.heap.size≤b∧b < w2.heap.size)) w2 (.slice .view (endsA all)) hdr:=by
  have hd:=hA0.dem
  have hd:RD g2.Pr w2 (.slice .view (endsA all)) hdr:=by
   have e:RD g2.Pr w2 (.slice oE (endsA all)) hdr:=hA0
   exact RD.anyFlag e
  refine hd.mono (Keeps.of_eq fun b k hp=>⟨?_,rfl⟩)
  rcases hp with ⟨h1,h2⟩ | ⟨h1,h2⟩
  ·rw [ho2,ho1] at h2
   exact .inl ⟨by rw [← hbase];exact h1,h2⟩
  ·refine .inr ⟨by rw [← hbase];exact h1,?_⟩
   by_cases hlt:b < w2.heap.size
   ·exact hlt
   ·rw [(R2.fresh b (by omega)).1] at h2;omega
 have hbY:w.heap.size≤bY∧bY < w2.heap.size:=⟨by rw [← hbase];exact q2,(Array.getElem?_eq_some_iff.1 q3).1⟩
 have hbA:w.heap.size≤bA∧bA < w2.heap.size:=⟨by rw [← hbase];exact r2,(Array.getElem?_eq_some_iff.1 r3).1⟩
 have e1:a2.tmps.getD 1 undef=cF:=((hs1.trans hs2) 1 rfl).trans e1
 have e2:a2.tmps.getD 2 undef=cO:=((hs1.trans hs2) 2 rfl).trans e2
 have hsz2:a2.tmps.size=14:=R2.size
 have hds2:a2.defers=[]:=by rw [R2.defers,ho2,ho1];rfl
 obtain ⟨bN,hbN⟩:∃ bN,w2.heap.size=bN:=⟨_,rfl⟩
 have hgp:∀ (a:Act) (d t:Nat) (c:Value),t≠d→(a.put (some d) c).tmps.getD t undef=a.tmps.getD t undef:=fun a d t c h=>by
  simp [Act.put,Array.getElem?_setIfInBounds_ne (Ne.symm h)]
 have hgs:∀ (a:Act) (d:Nat) (c:Value),a.tmps.size=14→d < 14→(a.put (some d) c).tmps.getD d undef=c:=fun a d c h hd=>by
  simp [Act.put,h,hd]
 have hps:∀ (a:Act) (d:Option Nat) (c:Value),(a.put d c).tmps.size=a.tmps.size:=fun a d c=>by cases d<;>simp [Act.put]
 have hpd:∀ (a:Act) (d:Option Nat) (c:Value),(a.put d c).defers=a.defers:=fun a d c=>by cases d<;>rfl
 refine wpIn_seq (wpIn_region ?_)
 show wpOpsIn _ _ _ _ _ [0] a2 w2
 refine opIn_val rfl rfl (by rfl) (run_alloc1 (t:=106) (z := .slice none 0 0) rfl (by kernel_rfl)) ?_
 show Code.wpIn _ _ _ _ _ (a2.put (some 5) (.pointer (some ⟨w2.heap.size,0,none⟩))) (w2.alloc (.cells #[.slice none 0 0] 106))
 obtain ⟨a3,ha3⟩:∃ a3,a2.put (some 5) (.pointer (some ⟨w2.heap.size,0,none⟩))=a3:=⟨_,rfl⟩
 obtain ⟨w3,hw3⟩:∃ w3,w2.alloc (.cells #[.slice none 0 0] 106)=w3:=⟨_,rfl⟩
 have hw3s:w3.heap.size=bN+1:=by rw [← hw3,← hbN];simp
 have hw3N:w3.heap[bN]? = some (.cells #[.slice none 0 0] 106 (0,0)):=by rw [← hw3,← hbN];exact World.alloc_heap_new w2 _
 have hw3o:∀ b,b < bN→w3.heap[b]? = w2.heap[b]? := fun b hb=>by rw [← hw3];exact Below.heap_alloc _ _ _ (by omega)
 rw [ha3,hw3]
 refine wpIn_seq (wpIn_region ?_)
 show wpOpsIn _ _ _ _ _ [0] a3 w3
 refine opIn_val rfl rfl (by rfl) (run_alloc1 (t:=121) (z := .nilFunc) rfl (by kernel_rfl)) ?_
 show Code.wpIn _ _ _ _ _ (a3.put (some 6) (.pointer (some ⟨w3.heap.size,0,none⟩))) (w3.alloc (.cells #[.nilFunc] 121))
 obtain ⟨a4,ha4⟩:∃ a4,a3.put (some 6) (.pointer (some ⟨w3.heap.size,0,none⟩))=a4:=⟨_,rfl⟩
 obtain ⟨w4,hw4⟩:∃ w4,w3.alloc (.cells #[.nilFunc] 121)=w4:=⟨_,rfl⟩
 have hw4s:w4.heap.size=bN+2:=by rw [← hw4];simp [hw3s]
 have hw4R:w4.heap[bN+1]? = some (.cells #[.nilFunc] 121 (0,0)):=by rw [← hw4,← hw3s];exact World.alloc_heap_new w3 _
 have hw4o:∀ b,b < bN+1→w4.heap[b]? = w3.heap[b]? := fun b hb=>by rw [← hw4];exact Below.heap_alloc _ _ _ (by omega)
 rw [ha4,hw4]
 have z3:a3.tmps.size=14:=by rw [← ha3,hps];exact hsz2
 have z4:a4.tmps.size=14:=by rw [← ha4,hps];exact z3
 have u5:a4.tmps.getD 5 undef = .pointer (some ⟨bN,0,none⟩):=by rw [← ha4,hgp _ _ _ _ (by decide),← ha3,hgs _ _ _ hsz2 (by decide),hbN]
 have u6:a4.tmps.getD 6 undef = .pointer (some ⟨bN+1,0,none⟩):=by rw [← ha4,hgs _ _ _ z3 (by decide),hw3s]
 have u:∀ t,t < 5→a4.tmps.getD t undef=a2.tmps.getD t undef:=fun t ht=>by rw [← ha4,hgp _ _ _ _ (by omega),← ha3,hgp _ _ _ _ (by omega)]
 refine wpIn_seq (wpIn_region ?_)
 show wpOpsIn _ _ _ _ _ [0,1] a4 w4
 refine opIn_val rfl rfl (by rfl) (run_mkf (fn := .func 123) (c := #[.tmp 4,.tmp 3,.tmp 2,.tmp 5,.tmp 1,.tmp 6]) rfl) ?_
 have hcap:(#[Operand.tmp 4,.tmp 3,.tmp 2,.tmp 5,.tmp 1,.tmp 6].map a4.eval) = #[.pointer (some ⟨bA,0,none⟩),.pointer (some ⟨bY,0,none⟩),cO,.pointer (some ⟨bN,0,none⟩),cF,.pointer (some ⟨bN+1,0,none⟩)]:=by
  simp only [List.map_toArray,List.map_cons,List.map_nil,Act.eval]
  rw [u 4 (by omega),u 3 (by omega),u 2 (by omega),u5,u 1 (by omega),u6,hA.2,hY.2,e2,e1]
 rw [hcap]
 obtain ⟨fv,hfv⟩:∃ fv:Value,fv = .func (.func 123) #[] #[.pointer (some ⟨bA,0,none⟩),.pointer (some ⟨bY,0,none⟩),cO,.pointer (some ⟨bN,0,none⟩),cF,.pointer (some ⟨bN+1,0,none⟩)]:=⟨_,rfl⟩
 rw [← hfv]
 obtain ⟨a5,ha5⟩:∃ a5,a4.put (some 11) fv=a5:=⟨_,rfl⟩
 show wpOpsIn _ _ _ _ _ [1] (a4.put (some 11) fv) w4
 rw [ha5]
 have z5:a5.tmps.size=14:=by rw [← ha5,hps];exact z4
 have u11:a5.tmps.getD 11 undef=fv:=by rw [← ha5];exact hgs _ _ _ z4 (by decide)
 have u65:a5.tmps.getD 6 undef = .pointer (some ⟨bN+1,0,none⟩):=by rw [← ha5,hgp _ _ _ _ (by decide)];exact u6
 obtain ⟨i33,hi33,hs33⟩:=info_size (P:=prog) (t:=121) (s:=1) (by kernel_rfl)
 refine opIn_skip rfl rfl (by rfl) (run_store1 (x := .tmp 6) (y := .tmp 11) rfl u65 hi33 hs33 hw4R u11 (by rw [hfv];rfl)) ?_
 obtain ⟨w5,hw5⟩:∃ w5,w4.setRow (bN+1) #[fv]=w5:=⟨_,rfl⟩
 show Code.wpIn _ _ _ _ _ (a5.put none undef) (w4.setRow (bN+1) #[fv])
 rw [hw5]
 have hw5s:w5.heap.size=bN+2:=by rw [← hw5];simpa using hw4s
 have hw5R:w5.heap[bN+1]? = some (.cells #[fv] 121 (0,0)):=by rw [← hw5];exact setRow_heap w4 _ _ _ _ _ hw4R
 have hw5o:∀ b,b < bN+1→w5.heap[b]? = w4.heap[b]? := fun b hb=>by rw [← hw5];exact setRow_other w4 _ _ _ (by omega)
 have hw5l:∀ b,b < bN→w5.heap[b]? = w2.heap[b]? := fun b hb=>by rw [hw5o b (by omega),hw4o b (by omega),hw3o b hb]
 refine wpIn_region ?_
 show wpOpsIn _ _ _ _ _ [0,1] a5 w5
 obtain ⟨d33,hd33,hd33'⟩:=under_agg (P:=prog) (t:=121) (by kernel_rfl)
 refine opIn_val rfl rfl (by rfl) (run_load1 (x := .tmp 6) (v:=fv) rfl u65 hd33 hd33' (by simp [World.cell?,hw5R])) ?_
 show wpOpsIn _ _ _ _ _ [1] (a5.put (some 12) fv) w5
 obtain ⟨a6,ha6⟩:∃ a6,a5.put (some 12) fv=a6:=⟨_,rfl⟩
 rw [ha6]
 have z6:a6.tmps.size=14:=by rw [← ha6,hps];exact z5
 have u12:a6.tmps.getD 12 undef=fv:=by rw [← ha6];exact hgs _ _ _ z5 (by decide)
 have hds6:a6.defers=[]:=by rw [← ha6,hpd,← ha5,hpd,← ha4,hpd,← ha3,hpd];exact hds2
 have hc6:∀ {P':Nat→Nat→Prop},(∀ b k,P' b k→b < bN)→Keeps P' P' w2 w5:=fun h=>Keeps.of_eq fun b k hp=>⟨hp,hw5l b (h b k hp)⟩
 let X:Fx C all out fA rows:={
  bN:=bN
  cA := .pointer (some ⟨bA,0,none⟩)
  cY := .pointer (some ⟨bY,0,none⟩)
  cO:=cO
  cF:=cF
  cR := .pointer (some ⟨bN+1,0,none⟩)
  MI:=fun b=>w.heap.size≤b∧b < bN+2∧b≠bN
  wI:=w5
  bA:=bA
  hdr:=hdr
  hA0:=rfl
  hA1:=⟨⟨hbA.1,by omega,by omega⟩,by omega⟩
  hA2:=⟨tyA,(hw5l bA (by omega)).trans r3⟩
  hY:=by
   refine .data _ _ (.ref _ _ _ (fun _ => .func (.yield l) #[] #[]) (fun i hi => ?_) (fun k hk=>⟨?_,?_⟩) (fun k hk => ?_))
   ·have:i=0:=by simpa using hi
    subst this;rfl
   ·exact ⟨hbY.1,by omega,by omega⟩
   ·have:k=0:=by simpa using hk
    subst this
    have:w5.heap[bY]? = some (.cells #[.func (.yield l) #[] #[]] tyY (0,0)):=(hw5l bY (by omega)).trans q3
    simp [World.cell?,this]
   ·have:k=0:=by simpa using hk
    subst this
    exact .val _ rfl
  hR:=by
   refine .data _ _ (.ref _ _ _ (fun _=>fv) (fun i hi => ?_) (fun k hk=>⟨?_,?_⟩) (fun k hk => ?_))
   ·have:i=0:=by simpa using hi
    subst this;rfl
   ·exact ⟨by omega,by omega,by omega⟩
   ·have:k=0:=by simpa using hk
    subst this
    simp [World.cell?,hw5R]
   ·have:k=0:=by simpa using hk
    subst this
    rw [hfv]
    exact .val _ rfl
  f9:=h9 }
 have hturn:Turn (fun _=>False) w w5:=by
  refine ⟨?_,?_,?_,by omega,fun b hb _=>(hw5l b (by omega)).trans (hbl.block b hb)⟩
  ·rw [← hw5,← hw4,← hw3];exact hbl.os
  ·rw [← hw5,← hw4,← hw3];exact hbl.tape
  ·rw [← hw5,← hw4,← hw3];exact hbl.output
 have hkeep:Keeps Pr Pr w w5:=Keeps.of_moved fun b k hb _=>hturn.block b hb (fun h=>h)
 have st:St X 0 (fun b=>w.heap.size≤b∧b < bN+2) Pr [] w5:=by
  refine ⟨C.turn hJ hturn fun b hb=>⟨by omega,.inr hb.1⟩,fun b hb=>by omega,fun b hb=>⟨⟨hb.1,hb.2.1⟩,hb.2.2,rfl⟩,⟨.slice none 0 0,106,[],?_,?_,⟨rfl,.inl ⟨rfl,rfl⟩⟩,⟨fun x hx=>(by cases hx),fun j hj=>(by simp [endsA] at hj)⟩,fun b hb=>(by cases hb)⟩,hrF.mono hkeep fun _ _ h=>h,hrO.mono hkeep fun _ _ h=>h,hfresh.mono (Keeps.of_eq fun b k hp => ?_)⟩
  ·show w5.heap[bN]? = _
   rw [hw5o bN (by omega),hw4o bN (by omega)];exact hw3N
  ·show w.heap.size≤bN∧bN < bN+2
   exact ⟨by rw [← hbN];exact hbl.size,by omega⟩
  ·have hsz:=hbl.size
   have hlt:b < bN:=by
    rcases hp with h | h<;>omega
   refine ⟨⟨hlt,?_⟩,hw5l b hlt⟩
   rcases hp with h | h
   ·exact .inr h.2
   ·exact .inl (show w.heap.size≤b∧b < bN+2∧b≠bN from ⟨h.1,by omega,by omega⟩)
 have hmain:=from_ok hG X hall hrows hout all.length 0 [] 0 _ Pr w5 [] (by omega) (Nat.le_refl _) st (by simp)
 have hargs:(#[a6.eval (.const (.int .i64 0))] ++ #[.pointer (some ⟨bA,0,none⟩),.pointer (some ⟨bY,0,none⟩),cO,.pointer (some ⟨bN,0,none⟩),cF,.pointer (some ⟨bN+1,0,none⟩)]) = #[.int .i64 ((0:Nat):Int),X.cA,X.cY,X.cO,.pointer (some ⟨X.bN,0,none⟩),X.cF,X.cR]:=by
  simp [Act.eval,X]
 rw [← hargs] at hmain
 have u12':a6.eval (.tmp 12) = .func (.func 123) #[] #[.pointer (some ⟨bA,0,none⟩),.pointer (some ⟨bY,0,none⟩),cO,.pointer (some ⟨bN,0,none⟩),cF,.pointer (some ⟨bN+1,0,none⟩)]:=u12.trans hfv
 refine opIn_call rfl rfl (by rfl) (run_callv_func (f := .tmp 12) (x := .const (.int .i64 0)) w5 rfl rfl rfl u12' (by kernel_rfl)) hmain ?_
 rintro e w6 ⟨M',Pr',hend⟩
 obtain ⟨b,rfl,hv⟩:∃ b:Bool,e = .returned (.bool b)∧(C.J ((ch [] all rows).map (settingA out)).length M' Pr' w6∨C.X M' Pr' w6):=by
  rcases hend with ⟨rfl,h⟩ | ⟨rfl,h⟩
  ·refine ⟨true,rfl,.inl ?_⟩
   have:=h.j
   simpa using this
  ·exact ⟨false,rfl,.inr h⟩
 refine ⟨_,rfl,?_⟩
 show bodyPost prog f121 _ .normal (a6.put (some 13) (.bool b)) w6
 refine ⟨by rw [hpd];exact hds6,.tuple #[],?_,.tuple #[],_,_,rfl,hv⟩
 simp [results,results121]
end Go.Proofs.Tryz
namespace Go.AL
theorem anyAct {P:Program} {ro:Option Nat} {m:Nat} {c:Code} {Q:Exit→Act→World→Prop} {a:Act} {w:World} (A:Act→Prop) (ha:A a) (h:∀ a,A a→c.wpIn (FR ro) m P Q a w):c.wpIn (FR ro) m P Q a w:=h a ha
theorem opIn_callE {P:Program} {a:Act} {w:World} {ro:Option Nat} {m:Nat} {Q:Exit→Act→World→Prop} {ops:Array Oper} {i:Nat} {rest:List Nat} {o:Oper} (ho:ops[i]? = some o) (hg:o.guard=none) (hnd:calmOp o.op=true) {f:Nat} {args:Array Value} {w':World}
    (hr:(execOp a.eval o).run P w = .ok (.enter f args) w') {R:Ending→World→Prop} (hc:Calls P f args w' R)
    (hk:∀ e w'',R e w''→match e with | .returned v=>wpOpsIn (FR ro) m P ops Q rest (a.put o.dst v) w'' | .panicked ch=>Q (.panic ch) a w'' | .outgrown=>False):wpOpsIn (FR ro) m P ops Q (i::rest) a w:=by
  simp only [wpOpsIn,ho]
  have:Region.wanted o (yielded ops a.tmps)=true:=by simp [Region.wanted,hg]
  rw [if_pos this]
  refine ⟨fun _ _=>trivial,?_⟩
  rw [Oper.semAt_eq _ _ _ (fun c hc=>by rw [hc] at hnd;cases hnd),hr]
  refine ⟨fun h=>by simp [FR,Fence.wide] at h,callsIn_FR.2 (hc.mono fun e w'' hh => ?_)⟩
  have:=hk e w'' hh
  cases e with
  |returned v=>exact this
  |panicked ch=>exact this
  |outgrown=>exact this.elim
theorem opIn_defer {P:Program} {a:Act} {w:World} {m:Nat} {Q:Exit→Act→World→Prop} {ops:Array Oper} {i:Nat} {rest:List Nat} {o:Oper} (ho:ops[i]? = some o) (hg:o.guard=none) {d:Deferred} {w':World}
    (hr:(execOp a.eval o).run P w = .ok (.defer d) w') (hk:wpOpsIn (FR none) m P ops Q rest ({ a with defers:=d::a.defers }.put o.dst undef) w'):wpOpsIn (FR none) m P ops Q (i::rest) a w:=by
  simp only [wpOpsIn,ho]
  have:Region.wanted o (yielded ops a.tmps)=true:=by simp [Region.wanted,hg]
  rw [if_pos this]
  refine ⟨fun _ _=>trivial,?_⟩
  show Oper.uponIn _ _ _ _ _ _ _ ((Oper.semAt none a.eval o).run P w)
  rw [Oper.semAt_none,hr]
  exact hk
end Go.AL
namespace Go.Proofs.Tryz
open Go Go.AL Go.RowKit
variable {GI:World→Prop}
def isIfaceT:TypeDesc→Bool
  |.interface _=>true
  |_=>false
theorem under_iface {P:Program} {t:TypeId} (h:(P.underlying t).map isIfaceT=some true):∃ ms,P.underlying t=some (.interface ms):=by
  cases hi:P.underlying t with
  |none=>rw [hi] at h;cases h
  |some d =>
    rw [hi] at h
    cases d<;>first | (cases h;done) | exact ⟨_,rfl⟩
theorem eql_nil (T:Nat) (v:Value) (w:World):(binOp .eql 20 (.iface T v) .nilIface).run prog w = .ok (.bool false) w:=by
  have:(Op.equal 20 (.iface T v) .nilIface).run prog w = .ok false w:=by
    obtain ⟨ms,hm⟩:=under_iface (P:=prog) (t:=20) (by kernel_rfl)
    unfold Op.equal Op.maxDepth Op.equalIn
    simp [run_underlying hm]
  simp [binOp,this]
theorem run_eqNil {a:Act} {o:Oper} {T:Nat} {v:Value} {x:Operand} (w:World) (ho:o.op = .binOp .eql 20 x (.const .nilIface) 20) (hx:a.eval x = .iface T v):(execOp a.eval o).run prog w = .ok (.value (.bool false)) w:=by
  have h0:(eqGuard .eql 20 x (.const .nilIface) (.iface T v) .nilIface).run prog w = .ok () w:=run_eqGuard_other _ _ _ _ _ _ rfl
  have hc:a.eval (.const .nilIface) = .nilIface:=rfl
  simp [execOp,ho,hx,hc,h0,eql_nil]
set_option maxRecDepth 100000 in
theorem catch_wide {bE:Nat} {u:Value} {ty:TypeId} (w:World) (hE:w.heap[bE]? = some (.cells #[u] ty (0,0))) (n:Int) :
    CallsD prog 176 #[.pointer (some ⟨bE,0,none⟩)] (.panicking [{ v := .iface 257 (.agg #[.int .i64 n]),recovered:=false }]) w fun e u' w' =>
      e = .returned (.tuple #[])∧u' = .panicking [{ v := .iface 257 (.agg #[.int .i64 n]),recovered:=true }]∧∃ w1,Below w.heap.size w w1∧w'=w1.setRow bE #[.int .i64 5]:=by
  refine callsD_of_wpS func176 rfl fun c₀ cs hu => ?_
  apply wpS_seq
  apply wpS_region
  simp [wpOpsS,go_sem,recoverD,hu,ntmps176,Exit.thenS]
  refine wpS_of_wp ?_
  refine (wpIn_FR_none (m:=0)).1 ?_
  refine anyAct (fun a=>a.tmps.size=14∧a.defers=[]∧a.tmps.getD 0 undef = .pointer (some ⟨bE,0,none⟩)∧a.tmps.getD 5 undef = .iface 257 (.agg #[.int .i64 n])) ⟨by simp,rfl,by simp,by simp⟩ ?_
  rintro a ⟨hsz,hds,h0,h5⟩
  have hlt:=(Array.getElem?_eq_some_iff.1 hE).1
  refine wpIn_block (wpIn_seq (wpIn_region ?_))
  show wpOpsIn _ _ _ _ _ [0] a w
  refine opIn_val rfl rfl (by rfl) (run_eqNil (x := .tmp 5) w rfl h5) ?_
  show Code.wpIn _ _ _ _ _ (a.put (some 7) (.bool false)) w
  have h7:(a.put (some 7) (.bool false)).tmps.getD 7 undef = .bool false:=by simp [Act.put,hsz]
  refine wpIn_cond (t:=false) h7 ?_
  simp only [Bool.false_eq_true,if_false]
  refine anyAct (fun a=>a.tmps.size=14∧a.defers=[]∧a.tmps.getD 0 undef = .pointer (some ⟨bE,0,none⟩)∧a.tmps.getD 5 undef = .iface 257 (.agg #[.int .i64 n])) ⟨by simp [Act.put,hsz],hds,by simpa [Act.put,Array.getElem?_setIfInBounds_ne] using h0,by simpa [Act.put,Array.getElem?_setIfInBounds_ne] using h5⟩ ?_
  clear h7 h5 h0 hds hsz a
  rintro a ⟨hsz,hds,h0,h5⟩
  have hS:∀ (a:Act) (w:World),a.tmps.getD 5 undef = .iface 257 (.agg #[.int .i64 n])→∀ t,t < 14→((fun t=>if t=5 then AV.iface 257 (.agg [.int .i64 n]) else AV.junk:Slots) t).dem=(fun t=>if t=5 then AV.iface 257 (.agg [.int .i64 n]) else AV.junk:Slots) t ∧
      RV (fun _ _=>True) noneA w ((fun t=>if t=5 then AV.iface 257 (.agg [.int .i64 n]) else AV.junk:Slots) t) (a.tmps.getD t undef):=by
    intro a w h5 t ht
    by_cases h:t=5
    · subst h
      rw [h5]
      refine ⟨rfl,.data _ _ (.iface _ _ _ (.agg _ _ rfl (fun i hi => ?_) (fun i hi hi' => ?_)))⟩
      · have:i=0:=by simpa using hi
        subst this;rfl
      · have:i=0:=by simpa using hi
        subst this;exact .int _ _
    · simp only [h,if_false];exact ⟨rfl,.junk _⟩
  refine wpIn_seq ?_
  refine region_anew (GI:=fun _=>True) (fun _ _ _ _=>trivial) hmix (ac:=ACode.fst (ACode.snd (ACode.snd (ACode.snd (ACode.snd c176))))) (W:=fun t=>decide (8≤t)) (by kernel_rfl) (by kernel_rfl) (by kernel_rfl) trivial (fun _ _=>True) _ hsz hds (hS a w h5) (K:=fun S' _=>S' 9 = .bool true∧S' 10 = .agg [.int .i64 n]) ?_ ?_
  · simp [c176,ACode.fst,ACode.snd,awp,aops,awanted,astep,apure,assignQ,Eff.S,Eff.H,ev,upd,putD,AV.dem]
  rintro g S' H' a' w' hg R1 ⟨h9,h10⟩ hsame
  have t9:=R1.slot 9 (by decide) (fun h=>h)
  rw [h9] at t9
  have t9:=t9.bool_eq
  have t10:=R1.slot 10 (by decide) (fun h=>h)
  rw [h10] at t10
  have b1:Below w.heap.size w w':=by have:=R1.below;rwa [R1.base] at this
  show Code.wpIn _ _ _ _ _ a' w'
  refine wpIn_cond (t:=true) t9 ?_
  simp only [if_true]
  refine wpIn_seq ?_
  refine region_step R1 (GI:=fun _=>True) (fun _ _ _ _=>trivial) trivial hmix (ac:=ACode.fst (ACode.fst (ACode.snd (ACode.snd (ACode.snd (ACode.snd (ACode.snd c176))))))) (W:=fun t=>decide (1≤t)) (by kernel_rfl) (by kernel_rfl) (by kernel_rfl) (by rw [hg];exact fun _ h=>h) (K:=fun _ _=>True) ?_ ?_
  · simp [c176,ACode.fst,ACode.snd,awp,aops,awanted,astep,apure,assignQ,Eff.S,Eff.H,ev,upd,putD,AV.dem,h10,scrub,HR.okB,AV.cells,AV.storable,splice,AV.scells,tmpOf]
  rintro g2 S2 H2 a2 w2 hg2 R2 _ hsame2
  have b2:Below w.heap.size w w2:=by have:=R2.below;rwa [R2.base] at this
  have e0:a2.tmps.getD 0 undef = .pointer (some ⟨bE,0,none⟩):=(hsame2 0 rfl).trans ((hsame 0 rfl).trans h0)
  have hE2:w2.heap[bE]? = some (.cells #[u] ty (0,0)):=(b2.block bE hlt).trans hE
  obtain ⟨i36,hi36,hs36⟩:=info_size (P:=prog) (t:=43) (s:=1) (by kernel_rfl)
  show Code.wpIn _ _ _ _ _ a2 w2
  refine wpIn_region ?_
  show wpOpsIn _ _ _ _ _ [0] a2 w2
  refine opIn_skip rfl rfl (by rfl) (run_store1 (x := .tmp 0) (y := .const (.int .i64 5)) (v := .int .i64 5) rfl e0 hi36 hs36 hE2 rfl rfl) ?_
  refine ⟨by show a2.defers=[];rw [R2.defers,hg2,hg];rfl,_,rfl,.tuple #[],?_,rfl,rfl,w2,b2,rfl⟩
  simp [results,results176]
set_option maxRecDepth 100000 in
theorem catch_text {bE:Nat} {u:Value} {ty:TypeId} (w:World) (hE:w.heap[bE]? = some (.cells #[u] ty (0,0))) (n:List UInt8) :
    CallsD prog 176 #[.pointer (some ⟨bE,0,none⟩)] (.panicking [{ v := .iface 264 (.agg #[.string ⟨n.toArray⟩]),recovered:=false }]) w fun e u' w' =>
      e = .returned (.tuple #[])∧u' = .panicking [{ v := .iface 264 (.agg #[.string ⟨n.toArray⟩]),recovered:=true }]∧∃ w1,Below w.heap.size w w1∧w'=w1.setRow bE #[.int .i64 4]:=by
  refine callsD_of_wpS func176 rfl fun c₀ cs hu => ?_
  apply wpS_seq
  apply wpS_region
  simp [wpOpsS,go_sem,recoverD,hu,ntmps176,Exit.thenS]
  refine wpS_of_wp ?_
  refine (wpIn_FR_none (m:=0)).1 ?_
  refine anyAct (fun a=>a.tmps.size=14∧a.defers=[]∧a.tmps.getD 0 undef = .pointer (some ⟨bE,0,none⟩)∧a.tmps.getD 5 undef = .iface 264 (.agg #[.string ⟨n.toArray⟩])) ⟨by simp,rfl,by simp,by simp⟩ ?_
  rintro a ⟨hsz,hds,h0,h5⟩
  have hlt:=(Array.getElem?_eq_some_iff.1 hE).1
  refine wpIn_block (wpIn_seq (wpIn_region ?_))
  show wpOpsIn _ _ _ _ _ [0] a w
  refine opIn_val rfl rfl (by rfl) (run_eqNil (x := .tmp 5) w rfl h5) ?_
  show Code.wpIn _ _ _ _ _ (a.put (some 7) (.bool false)) w
  have h7:(a.put (some 7) (.bool false)).tmps.getD 7 undef = .bool false:=by simp [Act.put,hsz]
  refine wpIn_cond (t:=false) h7 ?_
  simp only [Bool.false_eq_true,if_false]
  refine anyAct (fun a=>a.tmps.size=14∧a.defers=[]∧a.tmps.getD 0 undef = .pointer (some ⟨bE,0,none⟩)∧a.tmps.getD 5 undef = .iface 264 (.agg #[.string ⟨n.toArray⟩])) ⟨by simp [Act.put,hsz],hds,by simpa [Act.put,Array.getElem?_setIfInBounds_ne] using h0,by simpa [Act.put,Array.getElem?_setIfInBounds_ne] using h5⟩ ?_
  clear h7 h5 h0 hds hsz a
  rintro a ⟨hsz,hds,h0,h5⟩
  have hS:∀ (a:Act) (w:World),a.tmps.getD 5 undef = .iface 264 (.agg #[.string ⟨n.toArray⟩])→∀ t,t < 14→((fun t=>if t=5 then AV.iface 264 (.agg [.str n]) else AV.junk:Slots) t).dem=(fun t=>if t=5 then AV.iface 264 (.agg [.str n]) else AV.junk:Slots) t ∧
      RV (fun _ _=>True) noneA w ((fun t=>if t=5 then AV.iface 264 (.agg [.str n]) else AV.junk:Slots) t) (a.tmps.getD t undef):=by
    intro a w h5 t ht
    by_cases h:t=5
    · subst h
      rw [h5]
      refine ⟨rfl,.data _ _ (.iface _ _ _ (.agg _ _ rfl (fun i hi => ?_) (fun i hi hi' => ?_)))⟩
      · have:i=0:=by simpa using hi
        subst this;rfl
      · have:i=0:=by simpa using hi
        subst this;exact .str _
    · simp only [h,if_false];exact ⟨rfl,.junk _⟩
  refine wpIn_seq ?_
  refine region_anew (GI:=fun _=>True) (fun _ _ _ _=>trivial) hmix (ac:=ACode.fst (ACode.snd (ACode.snd (ACode.snd (ACode.snd c176))))) (W:=fun t=>decide (8≤t)) (by kernel_rfl) (by kernel_rfl) (by kernel_rfl) trivial (fun _ _=>True) _ hsz hds (hS a w h5) (K:=fun S' _=>S' 9 = .bool false∧S' 5 = .iface 264 (.agg [.str n])) ?_ ?_
  · simp [c176,ACode.fst,ACode.snd,awp,aops,awanted,astep,apure,assignQ,Eff.S,Eff.H,ev,upd,putD,AV.dem]
  rintro g0 S0 H0 a0 w0' hg0 R0 ⟨h90,h50⟩ hsame0
  have t90:=R0.slot 9 (by decide) (fun h=>h)
  rw [h90] at t90
  have t90:=t90.bool_eq
  show Code.wpIn _ _ _ _ _ a0 w0'
  refine wpIn_cond (t:=false) t90 ?_
  simp only [Bool.false_eq_true,if_false]
  refine wpIn_seq ?_
  refine region_step R0 (GI:=fun _=>True) (fun _ _ _ _=>trivial) trivial hmix (ac:=ACode.fst (ACode.snd (ACode.snd (ACode.snd (ACode.snd (ACode.snd (ACode.snd c176))))))) (W:=fun t=>decide (8≤t)) (by kernel_rfl) (by kernel_rfl) (by kernel_rfl) (by rw [hg0];exact fun _ h=>h) (K:=fun S' _=>S' 12 = .bool true∧S' 13 = .agg [.str n]) ?_ ?_
  · simp [c176,ACode.fst,ACode.snd,awp,aops,awanted,astep,apure,assignQ,Eff.S,Eff.H,ev,upd,putD,AV.dem,h50]
  rintro g S' H' a' w' hg R1 ⟨h9,h10⟩ hsame'
  have hsame:=hsame0.trans hsame'
  rw [hg0] at hg
  have t9:=R1.slot 12 (by decide) (fun h=>h)
  rw [h9] at t9
  have t9:=t9.bool_eq
  have t10:=R1.slot 13 (by decide) (fun h=>h)
  rw [h10] at t10
  have b1:Below w.heap.size w w':=by have:=R1.below;rwa [R1.base] at this
  show Code.wpIn _ _ _ _ _ a' w'
  refine wpIn_cond (t:=true) t9 ?_
  simp only [if_true]
  refine wpIn_seq ?_
  refine region_step R1 (GI:=fun _=>True) (fun _ _ _ _=>trivial) trivial hmix (ac:=ACode.fst (ACode.fst (ACode.snd (ACode.snd (ACode.snd (ACode.snd (ACode.snd (ACode.snd (ACode.snd c176))))))))) (W:=fun t=>decide (1≤t)) (by kernel_rfl) (by kernel_rfl) (by kernel_rfl) (by rw [hg];exact fun _ h=>h) (K:=fun _ _=>True) ?_ ?_
  · simp [c176,ACode.fst,ACode.snd,awp,aops,awanted,astep,apure,assignQ,Eff.S,Eff.H,ev,upd,putD,AV.dem,h10,scrub,HR.okB,AV.cells,AV.storable,splice,AV.scells,tmpOf]
  rintro g2 S2 H2 a2 w2 hg2 R2 _ hsame2
  have b2:Below w.heap.size w w2:=by have:=R2.below;rwa [R2.base] at this
  have e0:a2.tmps.getD 0 undef = .pointer (some ⟨bE,0,none⟩):=(hsame2 0 rfl).trans ((hsame 0 rfl).trans h0)
  have hE2:w2.heap[bE]? = some (.cells #[u] ty (0,0)):=(b2.block bE hlt).trans hE
  obtain ⟨i36,hi36,hs36⟩:=info_size (P:=prog) (t:=43) (s:=1) (by kernel_rfl)
  show Code.wpIn _ _ _ _ _ a2 w2
  refine wpIn_region ?_
  show wpOpsIn _ _ _ _ _ [0] a2 w2
  refine opIn_skip rfl rfl (by rfl) (run_store1 (x := .tmp 0) (y := .const (.int .i64 4)) (v := .int .i64 4) rfl e0 hi36 hs36 hE2 rfl rfl) ?_
  refine ⟨by show a2.defers=[];rw [R2.defers,hg2,hg];rfl,_,rfl,.tuple #[],?_,rfl,rfl,w2,b2,rfl⟩
  simp [results,results176]
theorem catch_idle (p:Addr) (w:World) :
    CallsD prog 176 #[.pointer (some p)] .returning w fun e u' w'=>e = .returned (.tuple #[])∧u' = .returning∧w'=w:=by
  refine callsD_of_wpS func176 rfl fun c₀ cs hu => ?_
  apply wpS_seq
  apply wpS_region
  simp [wpOpsS,go_sem,recoverD,hu,ntmps176,Exit.thenS]
  refine wpS_of_wp ?_
  go_wp2
  cases c₀
  simp_all [bodyPostS,results,results176]
theorem run_callv0 {P:Program} {a:Act} {o:Oper} {cl:Call} {f:Operand} {k:Nat} {cap:Array Value} (w:World) (ho:o.op = .call cl) (hc:cl.callee = .value f) (ha:cl.args = #[]) (hf:a.eval f = .func (.func k) #[] cap) (hk:callable P k=true) :
    (execOp a.eval o).run P w = .ok (.enter k cap) w:=by
  unfold execOp
  simp [ho,run_resolve_func hc,hf,Deferred.ofValue,invoke,ha,run_callFunc hk]
theorem run_move {P:Program} {a:Act} {o:Oper} {x:Operand} (w:World) (ho:o.op = .move x):(execOp a.eval o).run P w = .ok (.value (a.eval x)) w:=by
  unfold execOp
  simp only [ho]
  rfl
theorem cell36 {w:World} {b:Nat} {v u:Value} {ty:TypeId} (h:w.heap[b]? = some (.cells #[u] ty (0,0))):(w.setRow b #[v]).heap[b]? = some (.cells #[v] ty (0,0)):=setRow_heap w b _ _ _ _ h
theorem res117 {a:Act} {w:World} {b:Nat} {v:Value} {ty:TypeId} (h2:a.tmps.getD 2 undef = .pointer (some ⟨b,0,none⟩)) (h:w.heap[b]? = some (.cells #[v] ty (0,0))):(results f169 a.tmps).run prog w = .ok v w:=by
  obtain ⟨d,hd1,hd2⟩:=under_agg (P:=prog) (t:=43) (by kernel_rfl)
  have hagg:(isAgg 43).run prog w = .ok false w:=by
    unfold isAgg
    rw [Sem.run_bind,run_underlying hd1 w]
    cases d<;>simp_all [aggT]
  have hl:(loadVar 43 ⟨b,0,none⟩).run prog w = .ok v w:=by
    simp [loadVar,Sem.run_bind,hagg,World.cell?,h]
  have hr:f169.results = #[.cell 2 43]:=rfl
  have h2':a.tmps[2]?.getD undef = .pointer (some ⟨b,0,none⟩):=by rw [← h2];simp
  simp [results,hr,h2',asAddr,hl]
set_option maxRecDepth 100000 in
theorem attempt_calls {k:Nat} {us:Array Value} {w:World} {R1 R:Ending→World→Prop} (hcb:callable prog k=true) (hc:Calls prog k us (w.alloc (.cells #[.int .i64 0] 43)) R1)
    (h:∀ e w2,R1 e w2→w.heap.size < w2.heap.size∧(∃ u ty,w2.heap[w.heap.size]? = some (.cells #[u] ty (0,0))) ∧
      ((∃ c,e = .returned c∧R (.returned (.int .i64 0)) (w2.setRow w.heap.size #[.int .i64 0])) ∨
       (∃ n,e = .panicked [{ v := .iface 257 (.agg #[.int .i64 n]),recovered:=false }]∧∀ w3,Below w2.heap.size w2 w3→R (.returned (.int .i64 5)) (w3.setRow w.heap.size #[.int .i64 5])) ∨
       (∃ s:List UInt8,e = .panicked [{ v := .iface 264 (.agg #[.string ⟨s.toArray⟩]),recovered:=false }]∧∀ w3,Below w2.heap.size w2 w3→R (.returned (.int .i64 4)) (w3.setRow w.heap.size #[.int .i64 4])))) :
    Calls prog 169 #[.func (.func k) #[] us] w R:=by
  refine calls_of_wp_defers func169 rfl ?_
  refine (wpIn_FR_none (m:=0)).1 ?_
  refine anyAct (fun a=>a.tmps.size=6∧a.defers=[]∧a.tmps.getD 0 undef = .func (.func k) #[] us) ⟨by simp [ntmps169],rfl,args_get _ _ 0 (by simp)⟩ ?_
  rintro a ⟨hsz,hds,h0⟩
  obtain ⟨bE,hbE⟩:∃ bE,w.heap.size=bE:=⟨_,rfl⟩
  have hgp:∀ (a:Act) (d t:Nat) (c:Value),t≠d→(a.put (some d) c).tmps.getD t undef=a.tmps.getD t undef:=fun a d t c h=>by
    simp [Act.put,Array.getElem?_setIfInBounds_ne (Ne.symm h)]
  have hgs:∀ (a:Act) (d:Nat) (c:Value),a.tmps.size=6→d < 6→(a.put (some d) c).tmps.getD d undef=c:=fun a d c h hd=>by
    simp [Act.put,h,hd]
  have hps:∀ (a:Act) (d:Option Nat) (c:Value),(a.put d c).tmps.size=a.tmps.size:=fun a d c=>by cases d<;>simp [Act.put]
  refine wpIn_seq (wpIn_region ?_)
  show wpOpsIn _ _ _ _ _ [0] a w
  refine opIn_val rfl rfl (by rfl) (run_alloc1 (t:=43) (z := .int .i64 0) rfl (by kernel_rfl)) ?_
  show Code.wpIn _ _ _ _ _ (a.put (some 2) (.pointer (some ⟨w.heap.size,0,none⟩))) (w.alloc (.cells #[.int .i64 0] 43))
  rw [hbE] at h
  simp only [hbE]
  obtain ⟨w1,hw1⟩:∃ w1,w.alloc (.cells #[.int .i64 0] 43)=w1:=⟨_,rfl⟩
  rw [hw1] at hc ⊢
  refine anyAct (fun a=>a.tmps.size=6∧a.defers=[]∧a.tmps.getD 0 undef = .func (.func k) #[] us∧a.tmps.getD 2 undef = .pointer (some ⟨bE,0,none⟩)) ⟨by rw [hps];exact hsz,hds,by rw [hgp _ _ _ _ (by decide)];exact h0,hgs _ _ _ hsz (by decide)⟩ ?_
  clear h0 hds hsz a
  rintro a ⟨hsz,hds,h0,h2⟩
  refine wpIn_seq (wpIn_region ?_)
  show wpOpsIn _ _ _ _ _ [0,1] a w1
  refine opIn_val rfl rfl (by rfl) (run_mkf (fn := .func 176) (c := #[.tmp 2]) rfl) ?_
  have hcap:(#[Operand.tmp 2].map a.eval) = #[.pointer (some ⟨bE,0,none⟩)]:=by
    simp only [List.map_toArray,List.map_cons,List.map_nil,Act.eval]
    rw [h2]
  rw [hcap]
  show wpOpsIn _ _ _ _ _ [1] (a.put (some 3) (.func (.func 176) #[] #[.pointer (some ⟨bE,0,none⟩)])) w1
  obtain ⟨a2,ha2⟩:∃ a2,a.put (some 3) (.func (.func 176) #[] #[.pointer (some ⟨bE,0,none⟩)])=a2:=⟨_,rfl⟩
  rw [ha2]
  have z2:a2.tmps.size=6:=by rw [← ha2,hps];exact hsz
  have u3:a2.tmps.getD 3 undef = .func (.func 176) #[] #[.pointer (some ⟨bE,0,none⟩)]:=by rw [← ha2];exact hgs _ _ _ hsz (by decide)
  have u0:a2.tmps.getD 0 undef = .func (.func k) #[] us:=by rw [← ha2,hgp _ _ _ _ (by decide)];exact h0
  have u2:a2.tmps.getD 2 undef = .pointer (some ⟨bE,0,none⟩):=by rw [← ha2,hgp _ _ _ _ (by decide)];exact h2
  have ud:a2.defers=[]:=by rw [← ha2];exact hds
  refine opIn_defer rfl rfl (d:={ target := .fn (.func 176) #[.pointer (some ⟨bE,0,none⟩)],args := #[] }) (w':=w1) ?_ ?_
  · unfold execOp
    simp [run_resolve_func,Deferred.ofValue,Act.eval,u3]
  have hlv:∀ (w:World),(invoke (.fn (.func 176) #[.pointer (some ⟨bE,0,none⟩)]) #[]).run prog w = .ok (.enter 176 #[.pointer (some ⟨bE,0,none⟩)]) w:=fun w=>by
    simp [invoke,run_callFunc (P:=prog) (f:=176) (by kernel_rfl)]
  show Code.wpIn _ _ _ _ _ { a2 with defers:={ target := .fn (.func 176) #[.pointer (some ⟨bE,0,none⟩)],args := #[] }::a2.defers } w1
  refine anyAct (fun a=>a.tmps.size=6∧a.defers=[{ target := .fn (.func 176) #[.pointer (some ⟨bE,0,none⟩)],args := #[] }]∧a.tmps.getD 0 undef = .func (.func k) #[] us∧a.tmps.getD 2 undef = .pointer (some ⟨bE,0,none⟩)) ⟨z2,by show _::a2.defers=_;rw [ud],u0,u2⟩ ?_
  clear u0 u2 u3 ud z2 ha2 a2 h0 h2 hds hsz hcap a
  rintro a ⟨hsz,hds,h0,h2⟩
  refine wpIn_seq (wpIn_region ?_)
  show wpOpsIn _ _ _ _ _ [0,1] a w1
  refine opIn_val rfl rfl (by rfl) (run_move (x := .tmp 0) w1 rfl) ?_
  have e0:a.eval (.tmp 0) = .func (.func k) #[] us:=h0
  rw [e0]
  show wpOpsIn _ _ _ _ _ [1] (a.put (some 4) (.func (.func k) #[] us)) w1
  obtain ⟨a2,ha2⟩:∃ a2,a.put (some 4) (.func (.func k) #[] us)=a2:=⟨_,rfl⟩
  rw [ha2]
  have z2:a2.tmps.size=6:=by rw [← ha2,hps];exact hsz
  have u4:a2.eval (.tmp 4) = .func (.func k) #[] us:=by show a2.tmps.getD 4 undef=_;rw [← ha2];exact hgs _ _ _ hsz (by decide)
  have u2:a2.tmps.getD 2 undef = .pointer (some ⟨bE,0,none⟩):=by rw [← ha2,hgp _ _ _ _ (by decide)];exact h2
  have ud:a2.defers=[{ target := .fn (.func 176) #[.pointer (some ⟨bE,0,none⟩)],args := #[] }]:=by rw [← ha2];exact hds
  refine opIn_callE rfl rfl (by rfl) (run_callv0 (f := .tmp 4) w1 rfl rfl rfl u4 hcb) hc ?_
  intro e w2 he
  obtain ⟨hlt,⟨uE,tyE,hE⟩,hcase⟩:=h e w2 he
  have dmono:∀ {args:Array Value} {u:FrameMode} {w:World} {R R':Ending→FrameMode→World→Prop},CallsD prog 176 args u w R→(∀ e u w,R e u w→R' e u w)→CallsD prog 176 args u w R':=fun h hr c cs hu =>
    let ⟨e,u',w',fr,r,rest⟩:=h c cs hu;⟨e,u',w',fr,hr _ _ _ r,rest⟩
  have caught:∀ (p:PanicEntry) (v:Value) (hv:CallsD prog 176 #[.pointer (some ⟨bE,0,none⟩)] (.panicking [p]) w2 fun e u' w'=>e = .returned (.tuple #[])∧u' = .panicking [{ p with recovered:=true }]∧∃ w1,Below w2.heap.size w2 w1∧w'=w1.setRow bE #[v]),
      p.goexit=false→(∀ w3,Below w2.heap.size w2 w3→R (.returned v) (w3.setRow bE #[v]))→Leaves prog f169 a2.tmps R a2.defers (.panicking [p]) w2:=by
    intro p v hv hgo hR
    rw [ud]
    refine leaves_cons (by simp) (hlv w2) (dmono hv ?_)
    rintro e u' w' ⟨rfl,rfl,w3,hb3,rfl⟩
    have hE3:w3.heap[bE]? = some (.cells #[uE] tyE (0,0)):=(hb3.block bE hlt).trans hE
    show Leaves prog f169 a2.tmps R [] .returning (w3.setRow bE #[v])
    exact ⟨v,res117 u2 (cell36 hE3),hR w3 hb3⟩
  rcases hcase with ⟨c,rfl,hR⟩ | ⟨n,rfl,hR⟩ | ⟨s,rfl,hR⟩
  · show Code.wpIn _ _ _ _ _ (a2.put (some 5) c) w2
    have u2':(a2.put (some 5) c).tmps.getD 2 undef = .pointer (some ⟨bE,0,none⟩):=by rw [hgp _ _ _ _ (by decide)];exact u2
    refine wpIn_seq (wpIn_region ?_)
    show wpOpsIn _ _ _ _ _ [0] (a2.put (some 5) c) w2
    obtain ⟨i36,hi36,hs36⟩:=info_size (P:=prog) (t:=43) (s:=1) (by kernel_rfl)
    refine opIn_skip rfl rfl (by rfl) (run_store1 (x := .tmp 2) (y := .const (.int .i64 0)) (v := .int .i64 0) rfl u2' hi36 hs36 hE rfl rfl) ?_
    show Code.wpIn _ _ _ _ _ (a2.put (some 5) c) (w2.setRow bE #[.int .i64 0])
    refine wpIn_ret ?_
    show Leaves prog f169 (a2.put (some 5) c).tmps R a2.defers .returning (w2.setRow bE #[.int .i64 0])
    rw [ud]
    refine leaves_cons (by simp) (hlv _) (dmono (catch_idle _ _) ?_)
    rintro e u' w' ⟨rfl,rfl,rfl⟩
    exact ⟨_,res117 u2' (cell36 hE),hR⟩
  · exact caught _ _ (catch_wide w2 hE n) rfl hR
  · exact caught _ _ (catch_text w2 hE s) rfl hR
theorem ac169 (hG:Stable GI) {k:Nat} {caps:List AV} {out:AOut} {r:Int} (hcb:callable prog k=true) (hAC:AC prog GI k caps out)
    (hout:(∃ v,out = .ret v∧r=0)∨(∃ n,out = .panic (.iface 257 (.agg [.int .i64 n]))∧r=5)∨(∃ s,out = .panic (.iface 264 (.agg [.str s]))∧r=4)) :
    AC prog GI 169 [.func (.func k) [] caps] (.ret (.int .i64 r)):=by
  intro w old cargs hGw hlen hr
  obtain ⟨fv,rfl⟩:∃ fv,cargs = #[fv]:=arr_one (by simpa using hlen.symm)
  have h0:=hr 0 (by simp) (by simp)
  simp only [List.getElem_cons_zero,List.getElem_toArray] at h0
  obtain ⟨us,rfl,hl,hrr⟩:∃ us:Array Value,fv = .func (.func k) #[] us∧caps.length=us.size∧∀ i (h:i < caps.length) (h':i < us.size),RV old (fun _=>none) w caps[i] us[i]:=by
    cases h0 with
    |data _ _ h=>cases h
    |func _ _ _ vs us h1 h2 r1 r2 =>
      have:vs = #[]:=Array.eq_empty_of_size_eq_zero (by simpa using h1.symm)
      subst this
      exact ⟨us,rfl,h2,r2⟩
  have hb1:Below w.heap.size w (w.alloc (.cells #[.int .i64 0] 43)):=(Below.refl _ _).alloc (Nat.le_refl _) _
  have hk:Keeps old old w (w.alloc (.cells #[.int .i64 0] 43)):=Keeps.of_blocks (fun b h=>hb1.block b h) fun _ _ _ h=>h
  have hN:(w.alloc (.cells #[.int .i64 0] 43)).heap[w.heap.size]? = some (.cells #[.int .i64 0] 43 (0,0)):=World.alloc_heap_new w _
  refine attempt_calls hcb (hAC (w.alloc (.cells #[.int .i64 0] 43)) old us (hG _ _ hGw hb1) hl (fun i h h'=>(hrr i h h').mono hk fun _ _ h=>h)) ?_
  rintro e w2 ⟨hb2,hi,hfr,hcase⟩
  have hlt2:w.heap.size < w2.heap.size:=by have:=hb2.size;simp at this;omega
  have hE2:w2.heap[w.heap.size]? = some (.cells #[.int .i64 0] 43 (0,0)):=(hb2.block _ (by simp)).trans hN
  refine ⟨hlt2,⟨_,_,hE2⟩,?_⟩
  have fin:∀ (w3:World) (r:Int),Below w2.heap.size w2 w3→AL.Ends prog old w (.ret (.int .i64 r)) (.returned (.int .i64 r)) (w3.setRow w.heap.size #[.int .i64 r]):=by
    intro w3 r hb3
    have hbl:Below w.heap.size w w3:=by
      have h1:=hb1.trans (hb2.mono (by simp))
      exact h1.trans (hb3.mono (by omega))
    refine ⟨⟨hbl.os,hbl.tape,hbl.output,by simpa using hbl.size,fun b hb=>(setRow_other w3 _ b _ (by omega)).trans (hbl.block b hb)⟩,fun _=>0,fun _ _=>rfl,_,rfl,.data _ _ (.int _ _),trivial⟩
  rcases hout with ⟨v,rfl,rfl⟩ | ⟨n,rfl,rfl⟩ | ⟨s,rfl,rfl⟩
  · obtain ⟨c,rfl,_,_⟩:=hcase
    exact .inl ⟨c,rfl,fin w2 0 (Below.refl _ _)⟩
  · obtain ⟨c,rfl,hc⟩:=hcase
    obtain rfl:c = .iface 257 (.agg #[.int .i64 n]):=by
      cases hc with
      |iface _ _ c h =>
        cases h with
        |agg _ vs hl h1 hr =>
          obtain ⟨u,rfl⟩:=arr_one (vs:=vs) (by rw [← hl];rfl)
          have:=hr 0 (by simp) (by simp)
          have:=(RV.data (al:=noneA) _ _ this).int_eq
          simp only [List.getElem_toArray,List.getElem_cons_zero] at this
          rw [this]
    exact .inr (.inl ⟨n,rfl,fun w3 h3=>fin w3 5 h3⟩)
  · obtain ⟨c,rfl,hc⟩:=hcase
    obtain rfl:c = .iface 264 (.agg #[.string ⟨s.toArray⟩]):=by
      cases hc with
      |iface _ _ c h =>
        cases h with
        |agg _ vs hl h1 hr =>
          obtain ⟨u,rfl⟩:=arr_one (vs:=vs) (by rw [← hl];rfl)
          have:=hr 0 (by simp) (by simp)
          simp only [List.getElem_toArray,List.getElem_cons_zero] at this
          cases this;rfl
    exact .inr (.inr ⟨s,rfl,fun w3 h3=>fin w3 4 h3⟩)
end Go.Proofs.Tryz
namespace Go.AL
section
variable {P:Program} {GI:World→Prop} {n:Nat} {ro:Option Nat} {old:Old} {S:Slots} {H:Boxes} {Q:Post}
theorem SW.cut (hG:Stable GI) (hm:P.follows .mixedOrders=true) {x y:Code} (hc:calmC x=true) {ac:ACode} (hac:compC P n x=ac) (hbx:∀ d∈ac.names,¬ old.bx d) (K:Slots→Boxes→Prop) (h:awp P GI ac (assignQ K) S H)
  (hy:∀ S' H',K S' H'→SW P GI n ro y Q old S' H'):SW P GI n ro (.seq x y) Q old S H:=by
 subst hac
 intro w0 g a w m hG0 ho R
 refine wpIn_seq (wpIn_mono (awp_wpIn hG hG0 hm x (assignQ K) g S H a w hc hbx ho R h) ?_)
 intro e a' w' hq
 cases e with
 |normal =>
  obtain ⟨g',S',H',h1,h2,h3⟩:=hq
  exact hy S' H' h3 w0 g' a' w' m hG0 h1 h2
 |exit id=>obtain ⟨_,_,_,_,_,h⟩:=hq;exact h.elim
 |ret=>obtain ⟨_,_,_,_,_,h⟩:=hq;exact h.elim
 |panic ch=>obtain ⟨_,_,_,_,_,_,_,_,_,_,h⟩:=hq;exact h.elim
 |goto l=>exact hq.elim
 |outgrown=>exact hq.elim
end
end Go.AL
namespace Go.Proofs.Tryz
open Go Go.AL Go.RowKit
variable {GI:World→Prop}
theorem dem_dem:AV.dem ∘ AV.dem=AV.dem:=by funext v;exact AV.idem v
theorem vw1_vw1:AV.vw1 ∘ AV.vw1=AV.vw1:=by funext v;cases v<;>rfl
theorem ac49 (hG:Stable GI) {fA:List AV} {out:List Int} (hl:fA.length=11):AC prog GI 49 [.agg fA,vI out] (.ret (.func (.func 121) [] [.ref (fA.map AV.vw1),.ref [vI out]])):=by
 refine AC.of_bodyF hG hmix func49 rfl ntmps49 (by simp) (ac:=c49) (by kernel_rfl) ?_
 simp [c49,awp,aops,awanted,astep,apure,thenQ,ev,Eff.S,Eff.H,upd,putD,AL.start,AV.dem,AV.cells,AV.storable,hl,scrub,scrub1,tmpOf,vI]
 refine ⟨4,.func 121,[],[.box 2 0,.box 3 0],rfl,by decide,by simp [upd],?_⟩
 simp [upd,fz,fz1,AV.vw1,vw1_dem]
def keptA (out:List Int) (l:List (List End)):AV := .slice (if l.isEmpty then .nil else .own 108) (l.map (settingA out))
def keptV (out:List Int) (l:List (List End)):AV := .slice (if l.isEmpty then .nil else .view) (l.map (settingA out))
set_option maxRecDepth 100000 in
theorem ac96 (hG:Stable GI) {fA:List AV} {out:List Int} {sets:List (List End)} {p:List End→Bool} (hl:fA.length=11) (hst:∀ x∈fA,x.one=true) (hlen:sets.length≤100000) (hsz:∀ es∈sets,es.length < 1000)
  (hit:IterC prog GI 121 [.ref (fA.map AV.vw1),.ref [vI out]] (sets.map (settingA out))) (hfits:∀ es∈sets,AC prog GI 138 [.agg (fA.map AV.vw1),settingA out es,.int .i64 0] (.ret (.bool (p es)))) :
  AC prog GI 96 [.agg fA,vI out] (.ret (keptV out (sets.filter p))):=by
 refine AC.of_SW func96 rfl ntmps96 (by simp) fun cc w => ?_
 refine SW.cut hG hmix (by kernel_rfl) (ac:=ACode.fst c96) (by kernel_rfl) (fun _ _ h=>h) (fun S' H'=>S' 1=vI out∧S' 2 = .box 2 0∧H' 2=some (fA.map AV.dem)) ?_ ?_
 ·simp [c96,ACode.fst,awp,aops,awanted,astep,apure,ev,Eff.S,Eff.H,upd,putD,AL.start,AV.dem,AV.cells,AV.storable,hl,scrub,tmpOf,vI,assignQ]
 rintro S1 H1 ⟨s1,s2,h2⟩
 refine SW.cut hG hmix (by kernel_rfl) (ac:=ACode.fst (ACode.snd c96)) (by kernel_rfl) (fun _ _ h=>h) (fun S' H'=>S' 1=vI out∧S' 2 = .box 2 0∧S' 5 = .box 5 0∧H' 2=some (fA.map AV.dem)∧H' 5=some [.slice .nil []]) ?_ ?_
 ·simp [c96,ACode.fst,ACode.snd,awp,aops,awanted,astep,upd,scrub,vI,assignQ,s1,s2,h2]
 rintro S2 H2 ⟨s1,s2,s5,h2,h5⟩
 refine SW.seq (SW.cut hG hmix (by kernel_rfl) (ac:=ACode.fst (ACode.fst (ACode.snd (ACode.snd c96)))) (by kernel_rfl) (fun _ _ h=>h) (fun S' H'=>S' 2 = .box 2 0∧S' 5 = .box 5 0∧S' 9 = .func (.func 121) [] [.ref (fA.map AV.vw1),.ref [vI out]]∧H' 2=some (fA.map AV.dem)∧H' 5=some [.slice .nil []]) ?_ ?_)
 ·have e7:fz H2 (.agg (fA.map AV.dem)) = .agg (fA.map AV.vw1):=by simp only [fz,fz1,AV.vw,List.map_map,vw1_dem]
  have h102:=ac49 hG (fA:=fA.map AV.vw1) (out:=out) (GI:=GI) (by simpa using hl)
  simp only [List.map_map,vw1_vw1] at h102
  simp [c96,ACode.fst,ACode.snd,awp,aops,awanted,astep,apure,ev,Eff.S,Eff.H,upd,putD,loadA,s1,s2,s5,h2,h5,assignQ,acall,hl,HR.okB,dem_dem]
  have ht:List.take 11 (List.map AV.dem fA)=fA.map AV.dem:=List.take_of_length_le (by simp;omega)
  rw [ht,e7]
  refine ⟨by kernel_rfl,_,h102,by simp [boxy,vI,AV.dem],?_⟩
  simp [onOut,upd,s2,s5,h2,h5]
 rintro S3 H3 ⟨s2,s5,s9,h2,h5⟩
 refine SW.block (SW.range hG hmix (gop := .tmp 9) (y := .t 9) (p:=10) (f:=121) (caps:=[.ref (fA.map AV.vw1),.ref [vI out]]) (xs:=sets.map (settingA out)) rfl s9 (by kernel_rfl) rfl hit (by decide) (fun x hx=>by obtain ⟨e,_,rfl⟩:=List.mem_map.1 hx;rfl)
  (fun d=>d==6) (aa := .ops [⟨(some 6),none,.alloc 108 [(.slice .nil []),(.slice .nil [])]⟩,⟨none,none,.store .any 2 (.t 6) (.t 10)⟩]) (ab := .block 1 (.seq (.ops [⟨some 11,none,.load .any true 11 (.t 2)⟩,⟨some 12,none,.load .any true 2 (.t 6)⟩,⟨some 13,none,.call 138 [(.t 11),(.t 12),(.c (.int .i64 0))]⟩]) (.cond (.t 13) (.ops [⟨some 14,none,.loadT .any (.t 5)⟩,⟨some 15,none,.load .any true 2 (.t 6)⟩,⟨some 16,none,.buildSlice 180 108 2 [(.t 15)]⟩,⟨some 17,none,.append 180 108 2 48 (.t 14) (.t 16)⟩,⟨none,none,.store .any 1 (.t 5) (.t 17)⟩]) .skip)))
  (by kernel_rfl) (by kernel_rfl) (by simp [ACode.names,AOpr.lays,AOp.lays]) (by simp [ACode.names,AOpr.lays,AOp.lays]) (fun _ _ h=>h) (by kernel_rfl) (by kernel_rfl)
  (fun k H'=>H' 2=some (fA.map AV.dem)∧H' 5=some [keptA out ((sets.take k).filter p)]) (fun _ _=>False) ⟨h2,h5⟩ ?_ ?_ ?_)
 ·rintro k hk H' ⟨h2,h5⟩
  have hk':k < sets.length:=by simpa using hk
  have hxk:(sets.map (settingA out))[k]=settingA out sets[k]:=by simp
  have hf:=hfits sets[k] (List.getElem_mem hk')
  have htk:sets.take (k+1)=sets.take k++[sets[k]]:=by rw [List.take_succ_eq_append_getElem hk']
  have e7:∀ H,fz H (.agg (fA.map AV.dem)) = .agg (fA.map AV.vw1):=fun H=>by simp only [fz,fz1,AV.vw,List.map_map,vw1_dem]
  have e8:∀ H,fz H (.agg [.slice .view (ints out),.slice .view (endsA sets[k])])=settingA out sets[k]:=fun H=>rfl
  have e9:∀ H,fz H (.int .i64 0) = .int .i64 0:=fun H=>rfl
  have ht:List.take 11 (List.map AV.dem fA)=fA.map AV.dem:=List.take_of_length_le (by simp;omega)
  have s2':noL (fun d=>d==6) (S3 2) = .box 2 0:=by rw [s2];rfl
  have s5':noL (fun d=>d==6) (S3 5) = .box 5 0:=by rw [s5];rfl
  rw [hxk,htk,List.filter_append]
  simp [awp,aops,awanted,astep,apure,ev,Eff.S,Eff.H,upd,putD,assignQ,scrub,s2',s5',h2,h5,HR.okB,settingA,AV.cells,AV.storable,AV.dem,splice,AV.scells,tmpOf,thenQ,blockQ,loadA,dem_dem,ht,acall,hl,e7,e8,e9]
  refine ⟨by kernel_rfl,_,hf,by simp [boxy],?_⟩
  have hL:(List.filter p (List.take k sets)).length≤100000:=Nat.le_trans (List.length_filter_le _ _) (by simp;omega)
  generalize List.filter p (List.take k sets)=L at hL h5 ⊢
  have hok:elemsOK 2 (L.map (settingA out))=true:=by simp [elemsOK,settingA,AV.storable,AV.cells]
  cases hp:p sets[k] with
  |false=>simp [onOut,roundQ,h2,h5,hp,upd]
  |true =>
   cases L with
   |nil=>simp [onOut,roundQ,hp,elemsOK,AV.storable,AV.cells,AV.vw,AV.vw1,keptA,AV.dem,HR.okB,upd,splice,AV.scells,settingA,s5',h2]
   |cons x L =>
    have hsm:L.length+1+1 < 1048576:=by simp at hL;omega
    simp [onOut,roundQ,hp,elemsOK,AV.storable,AV.cells,AV.vw,AV.vw1,keptA,AV.dem,HR.okB,upd,splice,AV.scells,settingA,s5',hsm,h2]
 ·rintro D H' hD ⟨h2,h5⟩
  show SW prog GI 19 none (.seq _ .ret) _ _ _ _
  have s5':noL (fun d=>d==6) (S3 5) = .box 5 0:=by rw [s5];rfl
  have htk:List.take (sets.map (settingA out)).length sets=sets:=List.take_of_length_le (by simp)
  rw [htk] at h5
  refine SW.cut hG hmix (by kernel_rfl) (ac:=ACode.fst (ACode.snd (ACode.snd (ACode.snd c96)))) (by kernel_rfl) (fun _ _ h=>h) (fun S' _=>S' 4=keptV out (sets.filter p)) ?_ ?_
  ·generalize sets.filter p=L at h5 ⊢
   cases L<;>simp [c96,ACode.fst,ACode.snd,awp,aops,awanted,astep,apure,ev,Eff.S,Eff.H,upd,putD,loadA,s5',h5,HR.okB,assignQ,keptA,keptV,AV.dem,tmpOf]
  intro S4 H4 s4
  refine SW.ret ⟨(Marked.plain rfl).mark hD,rfl,_,?_,rfl⟩
  show ares prog 19 [.tmp 4] S4 H4=_
  simp [ares,aress,ares1,s4,keptV,AV.isData,AV.out]
 ·exact fun _ _ _ _ _ h=>h.elim
end Go.Proofs.Tryz
namespace Go.AL
section
variable {P:Program} {GI:World→Prop} {n:Nat} {ro:Option Nat} {old:Old} {S:Slots} {H:Boxes} {Q:Post} {b:Frame} {a:Act} {k:List Item} {cs:List Frame} {w:World}
theorem stepR_scope {c:Code}:step P (lone (b.atR a (.code (.scope c)::k)) cs w) = .next (lone (b.atR a (.code c :: .inScope c::k)) cs w) :=
 step_lone_go (by simp [stepG,stepG.exec,Frame.atR])
theorem stepR_inScope {c:Code}:step P (lone (b.atR a (.inScope c::k)) cs w) = .next (lone (b.atR a k) cs w) :=
 step_lone_go (by simp [stepG,stepG.exec,Frame.atR])
theorem SW.scope {c:Code} (h:SW P GI n ro c Q old S H):SW P GI n ro (.scope c) Q old S H:=by
 intro w0 g a w m hG ho R b k cs hro hF hr
 obtain ⟨e,a₁,w₁,hq,harr⟩:=h w0 g a w m hG ho R b (.inScope c::k) cs hro hF hr
 have s1:StepsIn (Machine.fenced P (FR ro)) P (lone (b.atR a (.code (.scope c)::k)) cs w) (lone (b.atR a (.code c :: .inScope c::k)) cs w) :=
  .one (fenced_calm (F:=FR ro) (fr:=b.atR a (.code (.scope c)::k)) trivial hr rfl) stepR_scope
 have ex:∀ id,exitTo id (.inScope c::k)=exitTo id k:=fun id=>by simp [exitTo]
 refine ⟨e,a₁,w₁,hq,.of_steps s1 ?_⟩
 cases e with
 |normal=>exact StepsIn.trans harr (.one (fenced_calm (F:=FR ro) (fr:=b.atR a₁ (.inScope c::k)) trivial hr rfl) stepR_inScope)
 |exit id=>exact ⟨fun k' hk=>harr.1 k' (by rw [ex];exact hk),fun hh hk=>harr.2 hh (by rw [ex];exact hk)⟩
 |goto l=>exact hq.elim
 |ret=>exact harr
 |panic ch=>exact harr
 |outgrown=>exact hq.elim
theorem SW.label {l:Nat} (h:Q .normal old S H):SW P GI n ro (.label l) Q old S H :=
 fun _ g _ _ _ _ ho R=>wpIn_label ⟨g,S,H,R,by rw [ho];exact h⟩
end
end Go.AL
namespace Go.Proofs.Tryz
open Go Go.AL Go.RowKit
variable {GI:World→Prop}
set_option maxRecDepth 100000 in
theorem ac66 (hG:Stable GI) {fA:List AV} {out:List Int} {sets:List (List End)} {p:List End→Bool} (hl:fA.length=11)
  (hit:IterC prog GI 121 [.ref (fA.map AV.vw1),.ref [vI out]] (sets.map (settingA out))) (hfits:∀ es∈sets,AC prog GI 138 [.agg (fA.map AV.vw1),settingA out es,.int .i64 0] (.ret (.bool (p es)))) :
  AC prog GI 66 [.agg fA,vI out] (.ret (.bool (sets.any p))):=by
 refine AC.of_SW func66 rfl ntmps66 (by simp) fun cc w => ?_
 refine SW.cut hG hmix (by kernel_rfl) (ac:=ACode.fst c66) (by kernel_rfl) (fun _ _ h=>h) (fun S' H'=>S' 1=vI out∧S' 2 = .box 2 0∧H' 2=some (fA.map AV.dem)) ?_ ?_
 ·simp [c66,ACode.fst,awp,aops,awanted,astep,apure,ev,Eff.S,Eff.H,upd,putD,AL.start,AV.dem,AV.cells,AV.storable,hl,scrub,tmpOf,vI,assignQ]
 rintro S1 H1 ⟨s1,s2,h2⟩
 refine SW.scope (SW.cut hG hmix (by kernel_rfl) (ac := .ops [⟨some 5,none,.alloc 4 [.bool false]⟩,⟨none,none,.store .any 1 (.t 5) (.c (.bool false))⟩]) (by kernel_rfl) (fun _ _ h=>h) (fun S' H'=>S' 1=vI out∧S' 2 = .box 2 0∧S' 5 = .box 5 0∧H' 2=some (fA.map AV.dem)∧H' 5=some [.bool false]) ?_ ?_)
 ·simp [awp,aops,awanted,astep,upd,scrub,vI,assignQ,s1,s2,h2,apure,ev,Eff.S,Eff.H,HR.okB,AV.cells,AV.storable,splice,AV.scells,tmpOf,putD]
 rintro S2 H2 ⟨s1,s2,s5,h2,h5⟩
 refine SW.seq (SW.label ?_)
 show SW prog GI 15 none (.seq (.seq _ (.block _ _)) _) _ _ _ _
 refine SW.seq (SW.cut hG hmix (by kernel_rfl) (ac := .ops [⟨some 7,none,.load .any true 11 (.t 2)⟩,⟨some 8,none,.mv false (.t 1)⟩,⟨some 9,none,.call 49 [(.t 7),(.t 8)]⟩]) (by kernel_rfl) (fun _ _ h=>h) (fun S' H'=>S' 2 = .box 2 0∧S' 5 = .box 5 0∧S' 9 = .func (.func 121) [] [.ref (fA.map AV.vw1),.ref [vI out]]∧H' 2=some (fA.map AV.dem)∧H' 5=some [.bool false]) ?_ ?_)
 ·have e7:fz H2 (.agg (fA.map AV.dem)) = .agg (fA.map AV.vw1):=by simp only [fz,fz1,AV.vw,List.map_map,vw1_dem]
  have h102:=ac49 hG (fA:=fA.map AV.vw1) (out:=out) (GI:=GI) (by simpa using hl)
  simp only [List.map_map,vw1_vw1] at h102
  simp [awp,aops,awanted,astep,apure,ev,Eff.S,Eff.H,upd,putD,loadA,s1,s2,s5,h2,h5,assignQ,acall,hl,HR.okB,dem_dem]
  have ht:List.take 11 (List.map AV.dem fA)=fA.map AV.dem:=List.take_of_length_le (by simp;omega)
  rw [ht,e7]
  refine ⟨by kernel_rfl,_,h102,by simp [boxy,vI,AV.dem],?_⟩
  simp [onOut,upd,s2,s5,h2,h5]
 rintro S3 H3 ⟨s2,s5,s9,h2,h5⟩
 have s2':noL (fun d=>d==6) (S3 2) = .box 2 0:=by rw [s2];rfl
 have s5':noL (fun d=>d==6) (S3 5) = .box 5 0:=by rw [s5];rfl
 have rest:∀ (D:Nat) (H':Boxes) (r:Bool),(Old.plain cc w).keep D=none→H' 5=some [.bool r]→r=sets.any p→SW prog GI 15 none (.seq (Code.region 6 #[{ dst:=some 14,op := .load 4 (.tmp 5),type:=4,pos := "name.go:54",after := #[],guard:=none },{ dst:=some 4,op := .assign (.tmp 14),type:=4,pos := "name.go:54",after := #[{ on:=0,ground := .data },{ on:=0,ground := .phase }],guard:=none }] false) .ret) (retS prog 15 f66.results.toList (.ret (.bool (sets.any p))) cc) ((Old.plain cc w).mark D) (fun t=>noL (fun d=>d==6) (S3 t)) H':=by
  intro D H' r hD h5 hr
  refine SW.cut hG hmix (by kernel_rfl) (ac := .ops [⟨some 14,none,.load .any false 1 (.t 5)⟩,⟨some 4,none,.mv true (.t 14)⟩]) (by kernel_rfl) (fun _ _ h=>h) (fun S' _=>S' 4 = .bool r) ?_ ?_
  ·simp [awp,aops,awanted,astep,apure,ev,Eff.S,Eff.H,upd,putD,loadA,s5',h5,HR.okB,assignQ,AV.dem,tmpOf]
  intro S4 H4 s4
  refine SW.ret ⟨(Marked.plain rfl).mark hD,rfl,.bool r,?_,by rw [hr]⟩
  show ares prog 15 [.tmp 4] S4 H4=_
  simp [ares,aress,ares1,s4,AV.isData,AV.out]
 refine SW.block (SW.range hG hmix (gop := .tmp 9) (y := .t 9) (p:=10) (f:=121) (caps:=[.ref (fA.map AV.vw1),.ref [vI out]]) (xs:=sets.map (settingA out)) rfl s9 (by kernel_rfl) rfl hit (by decide) (fun x hx=>by obtain ⟨e,_,rfl⟩:=List.mem_map.1 hx;rfl)
  (fun d=>d==6) (aa := .ops [⟨(some 6),none,.alloc 108 [(.slice .nil []),(.slice .nil [])]⟩,⟨none,none,.store .any 2 (.t 6) (.t 10)⟩]) (ab := .block 1 (.seq (.ops [⟨some 11,none,.load .any true 11 (.t 2)⟩,⟨some 12,none,.load .any true 2 (.t 6)⟩,⟨some 13,none,.call 138 [(.t 11),(.t 12),(.c (.int .i64 0))]⟩]) (.cond (.t 13) (.seq (.ops [⟨none,none,.store .any 1 (.t 5) (.c (.bool true))⟩]) (.exit 0)) .skip)))
  (by kernel_rfl) (by kernel_rfl) (by simp [ACode.names,AOpr.lays,AOp.lays]) (by simp [ACode.names,AOpr.lays,AOp.lays]) (fun _ _ h=>h) (by kernel_rfl) (by kernel_rfl)
  (fun k H'=>H' 2=some (fA.map AV.dem)∧H' 5=some [.bool false]∧(sets.take k).any p=false) (fun e H'=>e = .exit 0∧H' 5=some [.bool true]∧sets.any p=true) ⟨h2,h5,rfl⟩ ?_ ?_ ?_)
 ·rintro k hk H' ⟨h2,h5,hno⟩
  have hk':k < sets.length:=by simpa using hk
  have hxk:(sets.map (settingA out))[k]=settingA out sets[k]:=by simp
  have hf:=hfits sets[k] (List.getElem_mem hk')
  have htk:sets.take (k+1)=sets.take k++[sets[k]]:=by rw [List.take_succ_eq_append_getElem hk']
  have e7:∀ H,fz H (.agg (fA.map AV.dem)) = .agg (fA.map AV.vw1):=fun H=>by simp only [fz,fz1,AV.vw,List.map_map,vw1_dem]
  have e8:∀ H,fz H (.agg [.slice .view (ints out),.slice .view (endsA sets[k])])=settingA out sets[k]:=fun H=>rfl
  have e9:∀ H,fz H (.int .i64 0) = .int .i64 0:=fun H=>rfl
  have ht:List.take 11 (List.map AV.dem fA)=fA.map AV.dem:=List.take_of_length_le (by simp;omega)
  rw [hxk,htk,List.any_append]
  simp [awp,aops,awanted,astep,apure,ev,Eff.S,Eff.H,upd,putD,assignQ,scrub,s2',s5',h2,h5,HR.okB,settingA,AV.cells,AV.storable,AV.dem,splice,AV.scells,tmpOf,thenQ,blockQ,loadA,dem_dem,ht,acall,hl,e7,e8,e9]
  refine ⟨by kernel_rfl,_,hf,by simp [boxy],?_⟩
  cases hp:p sets[k] with
  |false=>simp [onOut,roundQ,h2,h5,hp,upd];simpa using hno
  |true =>
   have hany:∃ x,x∈sets∧p x=true:=⟨_,List.getElem_mem hk',hp⟩
   simp [onOut,roundQ,hp,upd,h2,hany]
 ·rintro D H' hD ⟨h2,h5,hno⟩
  have htk:List.take (sets.map (settingA out)).length sets=sets:=List.take_of_length_le (by simp)
  rw [htk] at hno
  exact rest D H' false hD h5 hno.symm
 ·rintro D e H' hD _ ⟨rfl,h5,hy⟩
  exact rest D H' true hD h5 hy.symm
end Go.Proofs.Tryz
namespace Go.AL
open Go.RowKit
section
variable {P:Program} {GI:World→Prop} {n:Nat} {ro:Option Nat} {old:Old} {S:Slots} {H:Boxes} {Q:Post} {a:Act} {w:World}
theorem run_makeMap {o:Oper} {t:TypeId} (ho:o.op = .makeMap t none):(execOp a.eval o).run P w = .ok (.value (.map (some w.heap.size))) (w.alloc (.map #[] 0)):=by
 unfold execOp
 simp [ho,Instr.makeMap,run_newObj_alloc]
theorem run_mapNew {o:Oper} {t kt el:TypeId} {fs:Array Field} {k:Nat} {x1 x2 x3:Operand} {b clock:Nat} {es:Array MapEntry} {key:List Int} {val:Value} {ks vs:List AV} {Pr:Nat→Nat→Prop} (ho:o.op = .mapUpdate t x1 x2 x3)
  (hun:P.underlying t=some (.map kt el)) (hu:P.underlying kt=some (.struct fs)) (hk:flatI P 10000 kt=some k) (h1:a.eval x1 = .map (some b)) (h2:a.eval x2 = .agg (intsV key)) (h3:a.eval x3=val)
  (hb:w.heap[b]? = some (.map es clock)) (hl:key.length=k) (hkl:ks.length=es.size) (hvl:vs.length=es.size) (hks:∀ i (h:i < ks.length) (h':i < es.size),RD Pr w ks[i] (es[i]).key) (hvs:∀ i (h:i < vs.length) (h':i < es.size),RD Pr w vs[i] (es[i]).val)
  (hno:lookA key ks vs=some none):(execOp a.eval o).run P w = .ok .skip (w.putObj b (.map (es.push { key := .agg (intsV key),val:=val,born:=clock }) (clock+1))):=by
 have hwide:(match P.underlying kt with | some (.array _ _) | some (.struct _)=>true | _=>false)=true:=by rw [hu]
 have hchk:=flat_check (P:=P) (w:=w) false 10000 kt k hk key hl
 simp only [encI,hu] at hchk
 obtain ⟨q,q1,q2⟩:=run_findAsking_ints (w:=w) (Pr:=Pr) hu hk key hl ks vs es.toList 0 none (by simpa using hkl) (by simpa using hvl) (fun j h h'=>by simpa using hks j h (by simpa using h')) (fun j h h'=>by simpa using hvs j h (by simpa using h')) hno
 have hq:q=none:=by cases q with | none=>rfl | some p=>exact q2.elim
 subst hq
 have hfind:=(run_findKey_eq (P:=P) (w:=w) hwide (.agg (intsV key)) es.toList).trans q1
 unfold execOp
 simp only [ho,h1,h2,h3,Instr.mapUpdate,Sem.run_bind,run_underlying hun,Result.andThen_ok,MapKept.run_getObj_map hb,hchk,hfind,MapKept.run_setObj_map _ hb]
 rfl
end
end Go.AL
namespace Go.Proofs.Tryz
open Go Go.AL Go.RowKit
variable {GI:World→Prop}
structure Pair where
 l:Int
 r:Int
 lo:Int
 hi:Int
def pairA (p:Pair):AV := .agg [.int .i64 p.l,.int .i64 p.r,.int .i64 p.lo,.int .i64 p.hi]
def keyA (p:Pair):AV := .agg [.int .i64 p.l,.int .i64 p.r]
def spanA (p:Pair):AV := .agg [.int .i64 p.lo,.int .i64 p.hi]
def spaces (ps:List Pair):AV := .map (ps.map keyA) (ps.map spanA)
def Ent (es:Array MapEntry) (ps:List Pair):Prop:=es.size=ps.length∧∀ i (h:i < es.size) (h':i < ps.length),(es[i]).key = .agg #[.int .i64 (ps[i]).l,.int .i64 (ps[i]).r]∧(es[i]).val = .agg #[.int .i64 (ps[i]).lo,.int .i64 (ps[i]).hi]
theorem agg2 {Pr:Nat→Nat→Prop} {w:World} (x y:Int):RD Pr w (.agg [.int .i64 x,.int .i64 y]) (.agg #[.int .i64 x,.int .i64 y]):=by
 refine .agg _ _ rfl (fun i hi => ?_) (fun i hi hi' => ?_)
 ·match i,hi with
  |0,_=>rfl
  |1,_=>rfl
 ·match i,hi with
  |0,_=>exact .int _ _
  |1,_=>exact .int _ _
theorem lookA_none (x y:Int):∀ (ps:List Pair),(∀ p∈ps,¬ (p.l=x∧p.r=y))→lookA [x,y] (ps.map keyA) (ps.map spanA)=some none
 |[],_=>rfl
 |p::ps,h=>by
  have hp:([x,y]==[p.l,p.r])=false:=by
   have:=h p List.mem_cons_self
   simp only [beq_eq_false_iff_ne,ne_eq,List.cons.injEq,and_true]
   rintro ⟨rfl,rfl⟩;exact this ⟨rfl,rfl⟩
  show lookA [x,y] (keyA p::ps.map keyA) (spanA p::ps.map spanA)=some none
  unfold lookA
  simp only [keyA,intsOf,Option.map_some]
  simp only [List.length_cons,List.length_nil,ne_eq,not_true_eq_false,if_false,hp,Bool.false_eq_true]
  exact lookA_none x y ps fun q hq=>h q (List.mem_cons_of_mem _ hq)
def oM (cc:Nat→Nat→Prop) (w:World) (b:Nat) (es:Array MapEntry) (clock:Nat):Old:={ Old.plain cc w with keep:=upd (fun _=>none) b (some (.map es clock)) }
def F80 (sA:List AV) (ps:List Pair) (z:List AV) (b j:Nat) (S:Slots) (H:Boxes):Prop :=
 S 2 = .box 2 0∧S 3 = .box 3 0∧S 10 = .slice .view (ps.map pairA)∧S 11 = .int .i64 ps.length∧S 12 = .int .i64 (j:Nat)∧H 2=some z∧H 3=some (sA.map AV.dem++[.val (.map (some b))])
theorem agg2_eq {Pr:Nat→Nat→Prop} {al:Nat→Option Nat} {w:World} {x y:Int} {c:Value} (h:RV Pr al w (.agg [.int .i64 x,.int .i64 y]) c):c = .agg #[.int .i64 x,.int .i64 y]:=by
 cases h with
 |data _ _ h =>
  cases h with
  |agg _ vs hl h1 hr =>
   congr 1
   apply Array.ext
   ·rw [← hl];rfl
   ·intro i hi hi'
    have hi2:i < 2:=by simpa using hi'
    match i,hi2 with
    |0,_=>exact (RV.data (al:=noneA) _ _ (hr 0 (by simp) hi)).int_eq
    |1,_=>exact (RV.data (al:=noneA) _ _ (hr 1 (by simp) hi)).int_eq
theorem giveM_dem {b:Nat} {ks vs:List AV} {x:AV} (h:isVal x=false):giveM b ks vs x.dem=x.dem:=by
 cases x<;>first | rfl | (cases h;done) | skip
 rename_i o es;cases o<;>rfl
theorem under_map {P:Program} {t kt el:TypeId} (h:(P.underlying t).map (fun d=>match d with | .map k e=>some (k,e) | _=>none)=some (some (kt,el))):P.underlying t=some (.map kt el):=by
 cases hi:P.underlying t with
 |none=>rw [hi] at h;cases h
 |some d =>
  rw [hi] at h
  cases d<;>simp at h
  obtain ⟨rfl,rfl⟩:=h;rfl
def isStructT:TypeDesc→Bool
 |.struct _=>true
 |_=>false
theorem under_struct {P:Program} {t:TypeId} (h:(P.underlying t).map isStructT=some true):∃ fs,P.underlying t=some (.struct fs):=by
 cases hi:P.underlying t with
 |none=>rw [hi] at h;cases h
 |some d =>
  rw [hi] at h
  cases d<;>first | (cases h;done) | exact ⟨_,rfl⟩
noncomputable def bodyA48:ACode:=ACode.snd (ACode.snd (ACode.snd (ACode.snd (ACode.snd (ACode.fst (ACode.snd (ACode.snd c48)))))))
set_option maxRecDepth 100000 in
theorem ac48 (hG:Stable GI) {sA:List AV} {ps:List Pair} (hl:sA.length=10) (hs1:sA[1]? = some (.slice .view (ps.map pairA))) (hst:∀ x∈sA,x.storable=true∧isVal x=false) (hlen:ps.length≤100000) (hnd:∀ i j (hi:i < ps.length) (hj:j < ps.length),i < j→¬ ((ps[i]).l=(ps[j]).l∧(ps[i]).r=(ps[j]).r)) :
  AC prog GI 48 [.agg sA] (.ret (.agg ((sA++[spaces ps]).map AV.vw1))):=by
 refine AC.of_SW func48 rfl ntmps48 (by simp) fun cc w => ?_
 refine SW.cut hG hmix (by kernel_rfl) (ac:=ACode.fst c48) (by kernel_rfl) (fun _ _ h=>h) (fun S' H'=>S' 1 = .box 1 0∧S' 2 = .box 2 0∧H' 1=some (sA.map AV.dem)∧∃ z,H' 2=some z∧z.length=11) ?_ ?_
 ·simp [c48,ACode.fst,awp,aops,awanted,astep,apure,ev,Eff.S,Eff.H,upd,putD,AL.start,AV.dem,AV.cells,AV.storable,hl,scrub,tmpOf,assignQ]
 rintro S1 H1 ⟨s1,s2,h1,z,h2,hz⟩
 refine SW.seq (SW.mid hG (p:=1) (oh:={ dst:=some 7,op := .makeMap 123 none,type:=123,pos := "letter.go:113",after := #[],guard:=none }) (os1:=[_]) (os2:=[_,_,_]) (l2:=[2,3,4]) rfl rfl rfl rfl (by kernel_rfl) rfl (fun _ h=>h) (al1:=(ACode.dl (ACode.fst (ACode.snd c48))).take 1) (al2:=(ACode.dl (ACode.fst (ACode.snd c48))).drop 2) (by kernel_rfl) (by kernel_rfl) (by kernel_rfl) (by kernel_rfl)
  (K1:=fun S' H'=>S' 1 = .box 1 0∧S' 2 = .box 2 0∧S' 6 = .agg (sA.map AV.dem)∧H' 1=some (sA.map AV.dem)∧H' 2=some z)
  (K2:=fun o S' H'=>∃ b,o=oM cc w b #[] 0∧S' 1 = .box 1 0∧S' 2 = .box 2 0∧S' 6 = .agg (sA.map AV.dem)∧S' 7 = .val (.map (some b))∧H' 1=some (sA.map AV.dem)∧H' 2=some z)
  (K3:=fun o S' H'=>∃ b,o=oM cc w b #[] 0∧S' 1 = .box 1 0∧S' 2 = .box 2 0∧S' 3 = .box 3 0∧H' 1=some (sA.map AV.dem)∧H' 2=some z∧H' 3=some (sA.map AV.dem++[.val (.map (some b))])) ?_ ?_ ?_ ?_)
 ·have ht:List.take 10 (sA.map AV.dem)=sA.map AV.dem:=List.take_of_length_le (by simp;omega)
  simp [c48,ACode.fst,ACode.snd,ACode.dl,aops,awanted,astep,apure,ev,Eff.S,Eff.H,upd,putD,loadA,s1,s2,h1,h2,HR.okB,hl,dem_dem,ht]
 ·rintro w0 g S2 H2 a w2 ho R ⟨s1,s2,s6,h1,h2⟩
  have R2:=R.keepNew (.map #[] 0)
  refine ⟨_,_,_,upd S2 7 (.val (.map (some w2.heap.size))),H2,.inl (run_makeMap rfl),R2.put 7 (.val (.map (some w2.heap.size))) _ (by decide) (.data _ _ (.val _ rfl)) trivial,w2.heap.size,?_,by simp [upd,s1],by simp [upd,s2],by simp [upd,s6],by simp [upd],h1,h2⟩
  show ({ g.old with keep:=upd g.old.keep w2.heap.size (some (.map #[] 0)) }:Old)=_
  rw [ho];rfl
 ·rintro o S2 H2 ⟨b,rfl,s1,s2,s6,s7,h1,h2⟩
  refine ⟨fun _ h=>h,?_⟩
  have hal:∀ x∈sA.map AV.dem,x.storable=true:=by
   intro x hx
   obtain ⟨y,hy,rfl⟩:=List.mem_map.1 hx
   rw [AV.dem_storable];exact (hst y hy).1
  have hsp:∀ c:AV,splice (splice [.slice .nil [],.slice .nil [],.int .i64 0,.int .i64 0,.int .i64 0,.int .i64 0,.int .i64 0,.slice .nil [],.int .i64 0,.int .i64 0,.map [] []] 0 (sA.map AV.dem)) 10 [c]=sA.map AV.dem++[c]:=by
   intro c
   have e1:splice [.slice .nil [],.slice .nil [],.int .i64 0,.int .i64 0,.int .i64 0,.int .i64 0,.int .i64 0,.slice .nil [],.int .i64 0,.int .i64 0,.map [] []] 0 (sA.map AV.dem)=sA.map AV.dem++[AV.map [] []]:=by
    simp [splice,hl]
   rw [e1]
   simp [splice,hl]
  have hsp2:∀ c:AV,splice [.slice .nil [],.slice .nil [],.int .i64 0,.int .i64 0,.int .i64 0,.int .i64 0,.int .i64 0,.slice .nil [],.int .i64 0,.int .i64 0,.map [] []] 0 (sA.map AV.dem++[c])=sA.map AV.dem++[c]:=by
   intro c
   simp [splice,hl]
  have hll:(splice [AV.slice .nil [],.slice .nil [],.int .i64 0,.int .i64 0,.int .i64 0,.int .i64 0,.int .i64 0,.slice .nil [],.int .i64 0,.int .i64 0,.map [] []] 0 (sA.map AV.dem)).length=11:=by simp [splice,hl]
  simp [c48,ACode.fst,ACode.snd,ACode.dl,aops,awanted,astep,apure,ev,Eff.S,Eff.H,upd,putD,fillA,s6,s7,AV.cells,AV.dem,AV.storable,hl,hll,hsp]
  have e3:(List.map AV.dem sA++[AV.val (Value.map (some b))]).map AV.dem=List.map AV.dem sA++[AV.val (Value.map (some b))]:=by simp [dem_dem,AV.dem]
  simp [HR.okB,scrub,tmpOf,AV.scells,hl,dem_dem,AV.dem,upd,h1,h2,s1,s2]
  simp [splice,hl]
 ·rintro o S2 H2 ⟨b,rfl,s1,s2,s3,h1,h2,h3⟩
  show SW prog GI 27 none (.seq (.seq _ (.block 0 (.loop _))) (.seq _ .ret)) _ _ _ _
  refine SW.seq (SW.cut hG hmix (by kernel_rfl) (ac:=ACode.fst (ACode.fst (ACode.snd (ACode.snd c48)))) (by kernel_rfl) (fun _ _ h=>h) (fun S' H'=>S' 2 = .box 2 0∧S' 3 = .box 3 0∧S' 10 = .slice .view (ps.map pairA)∧S' 11 = .int .i64 ps.length∧S' 12 = .int .i64 0∧H' 2=some z∧H' 3=some (sA.map AV.dem++[.val (.map (some b))])) ?_ ?_)
  ·have hd1:(sA.map AV.dem)[1]? = some (.slice .view (ps.map pairA)):=by rw [List.getElem?_map,hs1];rfl
   simp [c48,ACode.fst,ACode.snd,awp,aops,awanted,astep,apure,assignQ,ev,Eff.S,Eff.H,upd,putD,loadA,s1,s2,s3,h1,h2,h3,HR.okB,hd1,AV.dem]
  rintro S3 H3 ⟨s2,s3,s10,s11,s12,h2,h3⟩
  refine SW.block (SW.loop (fun o S' H'=>∃ j es clock,j≤ps.length∧o=oM cc w b es clock∧Ent es (ps.take j)∧S' 2 = .box 2 0∧S' 3 = .box 3 0∧S' 10 = .slice .view (ps.map pairA)∧S' 11 = .int .i64 ps.length∧S' 12 = .int .i64 (j:Nat)∧H' 2=some z∧H' 3=some (sA.map AV.dem++[.val (.map (some b))]))
   (fun S' _=>match S' 12 with | .int _ j=>ps.length - j.toNat | _=>0) ⟨0,#[],0,Nat.zero_le _,rfl,⟨by simp,fun i h=>by simp at h⟩,s2,s3,s10,s11,s12,h2,h3⟩ ?_)
  rintro o S4 H4 ⟨j,es,clock,hj,rfl,hent,s2,s3,s10,s11,s12,h2,h3⟩
  have m12:=s12
  show SW prog GI 27 none (.seq _ (.seq (.cond _ _ _) (.seq (.block 1 (.seq _ _)) _))) _ _ _ _
  refine SW.cut hG hmix (by kernel_rfl) (ac:=ACode.fst (ACode.snd (ACode.snd (ACode.snd (ACode.fst (ACode.snd (ACode.snd c48))))))) (by kernel_rfl) (fun _ _ h=>h) (fun S' H'=>S' 13 = .bool (decide (j < ps.length))∧F80 sA ps z b j S' H') ?_ ?_
  ·simp [c48,ACode.fst,ACode.snd,awp,aops,awanted,astep,apure,assignQ,ev,Eff.S,Eff.H,upd,putD,F80,s2,s3,s10,s11,s12,h2,h3,abin]
  rintro S5 H5 ⟨s13,hF⟩
  by_cases hlt:j < ps.length
  case neg =>
   refine SW.seq (SW.cond rfl false (by show S5 13=_;rw [s13];simp [hlt]) (SW.exit ?_))
   have hjl:j=ps.length:=by omega
   subst hjl
   rw [List.take_length] at hent
   obtain ⟨s2,s3,s10,s11,s12,h2,h3⟩:=hF
   show SW prog GI 27 none (.seq _ .ret) _ _ _ _
   refine SW.cut hG hmix (by kernel_rfl) (ac:=ACode.fst (ACode.snd (ACode.snd (ACode.snd c48)))) (by kernel_rfl) (fun _ _ h=>h) (fun S' H'=>S' 2 = .box 2 0∧H' 2=some (sA.map AV.dem++[.val (.map (some b))])) ?_ ?_
   ·have e3:(List.map AV.dem sA++[AV.val (Value.map (some b))]).map AV.dem=List.map AV.dem sA++[AV.val (Value.map (some b))]:=by simp [dem_dem,AV.dem]
    have ht:List.take 11 (List.map AV.dem sA++[AV.val (Value.map (some b))])=List.map AV.dem sA++[AV.val (Value.map (some b))]:=List.take_of_length_le (by simp [hl])
    have hdz:List.drop 11 z=[]:=List.drop_eq_nil_of_le (by omega)
    simp [c48,ACode.fst,ACode.snd,awp,aops,awanted,astep,apure,assignQ,ev,Eff.S,Eff.H,upd,putD,s2,s3,h2,h3,loadA,HR.okB,hl,AV.cells,AV.storable,AV.scells,splice,tmpOf,dem_dem,AV.dem,ht,hz,hdz]
   rintro S6 H6 ⟨s2,h2⟩
   refine SW.ghost (K:=fun o S' H'=>Marked o∧o.c=cc∧S' 2 = .box 2 0∧H' 2=some (sA.map AV.dem++[spaces ps])) ?_ ?_
   ·intro w0 g a w' hg R
    have hk:g.old.keep b=some (.map es clock):=by rw [hg];show upd (fun _=>none) b _ b=_;exact upd_same _ _ _
    obtain ⟨g2,hg2,R2⟩:=R.giveMap hk (ps.map keyA) (ps.map spanA) (by simpa using hent.1.symm) (by simpa using hent.1.symm) (fun i h h'=>by
     simp only [List.length_map] at h
     simp only [List.getElem_map,(hent.2 i h' h).1]
     exact agg2 _ _) (fun i h h'=>by
     simp only [List.length_map] at h
     simp only [List.getElem_map,(hent.2 i h' h).2]
     exact agg2 _ _) (by rw [hg];rfl)
    refine ⟨g2,_,_,R2,Marked.plain (by rw [hg2,hg];rfl),by rw [hg2,hg];rfl,by simp [s2],?_⟩
    have hgm:(sA.map AV.dem).map (giveM b (ps.map keyA) (ps.map spanA))=sA.map AV.dem:=by
     rw [List.map_map]
     exact List.map_congr_left fun x hx=>giveM_dem (hst x hx).2
    show (H6 2).map _=_
    rw [h2]
    simp only [Option.map_some,List.map_append,hgm,List.map_cons,List.map_nil]
    simp [giveM,spaces]
   ·rintro o S7 H7 ⟨hm,hc,s2,h2⟩
    obtain ⟨i103,hi103,hs103⟩:=info_size (P:=prog) (t:=125) (s:=11) (by kernel_rfl)
    obtain ⟨fs,hfs⟩:=under_struct (P:=prog) (t:=125) (by kernel_rfl)
    refine SW.ret ⟨hm,hc,_,?_,rfl⟩
    show ares prog 27 [.cell 2 125] S7 H7=_
    have ht:List.take 11 (sA.map AV.dem++[spaces ps])=sA.map AV.dem++[spaces ps]:=List.take_of_length_le (by simp [hl])
    have hsp:(spaces ps).dem=spaces ps:=rfl
    have hsp1:(spaces ps).vw1=spaces ps:=rfl
    simp [ares,aress,ares1,s2,h2,hi103,hfs,hs103,loadA,aggT,hl,AV.out,hsp,hsp1,dem_dem,vw1_dem]
    exact List.take_of_length_le (by simp [hl])
  case pos =>
   refine SW.seq (SW.cond rfl true (by show S5 13=_;rw [s13];simp [hlt]) (SW.skip ?_))
   show SW prog GI 27 none (.seq (.block 1 (.seq _ _)) _) _ _ _ _
   obtain ⟨s2,s3,s10,s11,s12,h2,h3⟩:=hF
   refine SW.seq (SW.block (SW.cut hG hmix (by kernel_rfl) (ac:=ACode.fst (ACode.snd (ACode.fst (ACode.snd (ACode.snd (ACode.snd (ACode.snd (ACode.snd (ACode.fst (ACode.snd (ACode.snd c48))))))))))) (by kernel_rfl) (fun _ _ h=>h) (fun S' H'=>S' 5 = .box 5 0∧H' 5=some (pairA ps[j]).cells∧F80 sA ps z b j S' H') ?_ ?_))
   ·have hne:¬ (j:Int) < 0:=by omega
    simp [c48,ACode.fst,ACode.snd,awp,aops,awanted,astep,apure,assignQ,ev,Eff.S,Eff.H,upd,putD,F80,s2,s3,s10,s11,s12,h2,h3,hlt,loadA,pairA,AV.cells,AV.dem,scrub,HR.okB,AV.storable,splice,AV.scells,tmpOf]
   rintro S6 H6 ⟨s5,h5,s2,s3,s10,s11,s12,h2,h3⟩
   have hkeys:∀ q∈ps.take j,¬ (q.l=ps[j].l∧q.r=ps[j].r):=by
    intro q hq
    obtain ⟨i,hi,rfl⟩:=List.getElem_of_mem hq
    have hij:i < j:=by simp at hi;omega
    rw [List.getElem_take]
    exact hnd i j (by omega) hlt hij
   refine SW.mid hG (p:=9) (oh:={ dst:=none,op := .mapUpdate 123 (.tmp 17) (.tmp 22) (.tmp 24),type:=0,pos := "letter.go:115",after:=_,guard:=none }) (os1:=[_,_,_,_,_,_,_,_,_]) (os2:=[]) (l2:=[]) rfl rfl rfl rfl (by kernel_rfl) rfl (fun _ h=>h) (al1:=(ACode.dl (ACode.snd (ACode.snd (ACode.fst bodyA48)))).take 9) (al2:=[]) (by kernel_rfl) rfl (by kernel_rfl) rfl
    (K1:=fun S' H'=>S' 17 = .val (.map (some b))∧S' 22 = .agg [.int .i64 ps[j].l,.int .i64 ps[j].r]∧S' 24 = .agg [.int .i64 ps[j].lo,.int .i64 ps[j].hi]∧F80 sA ps z b j S' H')
    (K2:=fun o S' H'=>o=oM cc w b (es.push { key := .agg #[.int .i64 ps[j].l,.int .i64 ps[j].r],val := .agg #[.int .i64 ps[j].lo,.int .i64 ps[j].hi],born:=clock }) (clock+1)∧F80 sA ps z b j S' H')
    (K3:=fun o S' H'=>o=oM cc w b (es.push { key := .agg #[.int .i64 ps[j].l,.int .i64 ps[j].r],val := .agg #[.int .i64 ps[j].lo,.int .i64 ps[j].hi],born:=clock }) (clock+1)∧F80 sA ps z b j S' H') ?_ ?_ ?_ ?_
   ·have hm10:(List.map AV.dem sA++[AV.val (Value.map (some b))])[10]? = some (.val (.map (some b))):=by
     rw [List.getElem?_append_right (by simp [hl])];simp [hl]
    have hd10:List.drop 10 (List.map AV.dem sA++[AV.val (Value.map (some b))])=[AV.val (Value.map (some b))]:=by
     rw [List.drop_append_of_le_length (by simp [hl]),List.drop_eq_nil_of_le (by simp [hl])];rfl
    simp [c48,bodyA48,ACode.fst,ACode.snd,ACode.dl,aops,awanted,astep,apure,ev,Eff.S,Eff.H,upd,putD,F80,s2,s3,s5,s10,s11,s12,h2,h3,h5,loadA,pairA,AV.cells,AV.dem,HR.okB,AV.storable,fillA,splice,hm10,hd10]
   ·rintro w0 g S7 H7 a w7 hg R ⟨s17,s22,s24,hF⟩
    have t17:=R.slot 17 (by decide) (fun h=>h)
    rw [s17] at t17
    have t17:=t17.val_eq
    have t22:=R.slot 22 (by decide) (fun h=>h)
    rw [s22] at t22
    have t22:=agg2_eq t22
    have t24:=R.slot 24 (by decide) (fun h=>h)
    rw [s24] at t24
    have t24:=agg2_eq t24
    have hk:g.old.keep b=some (.map es clock):=by rw [hg];show upd (fun _=>none) b _ b=_;exact upd_same _ _ _
    have hb:=(R.kept b _ hk).2.1
    have hun:=under_map (P:=prog) (t:=123) (kt:=208) (el:=33) (by kernel_rfl)
    obtain ⟨fs,hfs⟩:=under_struct (P:=prog) (t:=208) (by kernel_rfl)
    have htl:(ps.take j).length=es.size:=hent.1.symm
    refine ⟨undef,_,_,S7,H7,.inr ⟨run_mapNew (Pr:=fun _ _=>False) (ks:=(ps.take j).map keyA) (vs:=(ps.take j).map spanA) (key:=[ps[j].l,ps[j].r]) rfl hun hfs (k:=2) (by kernel_rfl) t17 t22 t24 hb rfl (by simpa using htl) (by simpa using htl) (fun i h h' => ?_) (fun i h h' => ?_) (lookA_none _ _ _ hkeys),rfl⟩,R.rekeep hk _,?_,hF⟩
    ·simp only [List.length_map] at h
     simp only [List.getElem_map,(hent.2 i h' h).1]
     exact agg2 _ _
    ·simp only [List.length_map] at h
     simp only [List.getElem_map,(hent.2 i h' h).2]
     exact agg2 _ _
    ·show ({ g.old with keep:=upd g.old.keep b _ }:Old)=_
     rw [hg]
     simp only [oM,Old.mk.injEq,true_and,and_true]
     funext c
     by_cases hc:c=b
     ·subst hc;simp [upd,intsV]
     ·simp [upd,hc]
   ·rintro o S7 H7 h
    exact ⟨by rw [h.1];exact fun _ h=>h,h⟩
   ·rintro o S7 H7 ⟨rfl,s2,s3,s10,s11,s12,h2,h3⟩
    show SW prog GI 27 none _ _ _ _ _
    refine SW.of_awp hG hmix (by kernel_rfl) (fun _ _ h=>h) (ac:=ACode.snd bodyA48) (by kernel_rfl) ?_
    have hwr:IntKind.i64.wrap ((j:Int)+1)=j+1:=wrapI (by omega)
    have hent':Ent (es.push { key := .agg #[.int .i64 ps[j].l,.int .i64 ps[j].r],val := .agg #[.int .i64 ps[j].lo,.int .i64 ps[j].hi],born:=clock }) (ps.take (j+1)):=by
     have hts:ps.take (j+1)=ps.take j++[ps[j]]:=by rw [List.take_succ_eq_append_getElem hlt]
     rw [hts]
     refine ⟨by simp [hent.1];omega,fun i h h' => ?_⟩
     by_cases hi:i < es.size
     ·have hi2:i < (ps.take j).length:=by rw [← hent.1];exact hi
      have:=hent.2 i hi hi2
      rw [Array.getElem_push_lt hi,List.getElem_append_left hi2]
      exact this
     ·have hie:i=es.size:=by simp at h;omega
      subst hie
      have hi2:(ps.take j).length≤es.size:=by rw [← hent.1];exact Nat.le_refl _
      rw [Array.getElem_push_eq,List.getElem_append_right hi2]
      simp
    simp [c48,bodyA48,ACode.fst,ACode.snd,awp,aops,awanted,astep,apure,ev,Eff.S,Eff.H,upd,putD,s2,s3,s10,s11,s12,h2,h3,abin,AV.dem,hwr,Post.awp,thenS]
    refine ⟨⟨j+1,hlt,_,⟨_,rfl⟩,hent',by omega⟩,?_⟩
    rw [m12]
    show ps.length - (j+1) < ps.length - (j:Int).toNat
    rw [Int.toNat_natCast];omega
end Go.Proofs.Tryz
namespace Go.Proofs.Tryz
open Go Go.AL Go.RowKit Go.Proofs Go.Sort
variable {GI:World→Prop}
theorem gives153 (n x:Int) (B:Nat) (W:World) (hc:W.cell? ⟨B,0,none⟩=some (.int .i64 n)) :
  FnGives prog 137 #[.pointer (some ⟨B,0,none⟩)] #[.int .i64 x] (.bool (decide (n≤x))) W:=by
 show Calls prog 137 #[.int .i64 x,.pointer (some ⟨B,0,none⟩)] W _
 go_enter func137,ntmps137
 go_wp2
 all_goals (go_ret;exact ⟨by simp_all,0,rfl⟩)
theorem ac147_nil (hG:Stable GI):AC prog GI 147 [.slice .view [],.junk] (.ret (.int .i64 (-1))):=by
 refine AC.of_body hG hmix func147 rfl ntmps147 (by simp) (ac:=c147) (by kernel_rfl) ?_
 simp only [c147,awp,aops,awanted,astep,apure,ev,Eff.S,Eff.H,tmpOf,thenQ,blockQ]
 refine ⟨fun S H=>S 8 = .int .i64 0∧S 7 = .int .i64 0,fun S H=>0,by simp [upd,putD,AL.start,AV.dem],?_⟩
 rintro S H ⟨h8,h7⟩
 simp [upd,putD,h8,h7,AV.dem,abin,post,ares,aress,ares1,AV.out,AV.isData]
theorem ac136_nil (hG:Stable GI):AC prog GI 136 [.slice .view [],.junk] (.ret (.slice .view [])):=by
 refine AC.of_body hG hmix func136 rfl ntmps136 (by simp) (ac:=c136) (by kernel_rfl) ?_
 have h:=ac147_nil hG
 simp [c136,awp,aops,awanted,astep,apure,ev,Eff.S,Eff.H,tmpOf,thenQ,blockQ,upd,putD,AL.start,AV.dem,fz,fz1,AV.vw,AV.vw1,boxy]
 refine ⟨_,by kernel_rfl,h,by simp,?_⟩
 simp [onOut,abin,post,ares,aress,ares1,AV.out,AV.isData,AV.dem,upd,putD,AL.start]
def Fresh (w w2:World) (v:Value) (l:List Int):Prop :=
 (RD (fun _ _=>False) w2 (.slice .view []) v∧l=[])∨∃ g cap,v = .slice (some ⟨g,0,none⟩) l.length cap∧w.heap.size≤g∧g < w2.heap.size∧l.length≤cap∧cap≤9223372036854775807∧Holds (Value.int .i64) w2 g 0 l.toArray
theorem flat_ints {Pr:Nat→Nat→Prop} {w:World} {l:List Int} {b off size:Nat} {cs:Nat→Value} (hc:∀ k,k < (ints l).length * size→Pr b (off+k)∧w.cell? ⟨b,off+k,none⟩=some (cs k)) (hsz:∀ i (h:i < (ints l).length),((ints l)[i]).cells.length=size)
  (hr:∀ i (h:i < (ints l).length) j (hj:j < ((ints l)[i]).cells.length),RD Pr w (((ints l)[i]).cells[j]) (cs (i * size+j))) (k:Nat) (hk:k < l.length):w.cell? ⟨b,off+k,none⟩=some (.int .i64 l[k]):=by
 have hk':k < (ints l).length:=by rw [ints_len];exact hk
 have h1:size=1:=by rw [← hsz k hk',ints_get];rfl
 subst h1
 rw [(hc k (by omega)).2]
 have h2:=hr k hk' 0 (by rw [ints_get];exact Nat.zero_lt_one)
 have h3:((ints l)[k]).cells[0]'(by rw [ints_get];exact Nat.zero_lt_one) = .int .i64 l[k]:=by simp [ints,AV.cells]
 rw [h3] at h2
 have e:=(RV.data (al:=noneA) _ _ h2).int_eq
 simp only [Nat.mul_one,Nat.add_zero] at e
 rw [e]
theorem clone_calls {w:World} {c:Value} {l:List Int} {Pr:Nat→Nat→Prop} (hr:RD Pr w (vI l) c) (hl:l.length < 1000000) :
  Calls prog 124 #[c] w fun e w1=>∃ v1,e = .returned v1∧Below w.heap.size w w1∧Fresh w w1 v1 l:=by
 obtain ⟨ie,hie,hs⟩:=info_size (P:=prog) (t:=3) (s:=1) (by kernel_rfl)
 unfold vI at hr
 generalize hes:ints l=es at hr
 have hle:es.length=l.length:=by rw [← hes,ints_len]
 cases hr with
 |nils =>
  have hl0:l=[]:=List.eq_nil_of_length_eq_zero (by rw [← hle];rfl)
  subst hl0
  refine (Tryz.slices_Clone_nil 0 0 w).mono ?_
  rintro e w' ⟨rfl,rfl⟩
  exact ⟨_,rfl,Below.refl _ _,.inl ⟨.nils _,rfl⟩⟩
 |emps _ a0 =>
  have hl0:l=[]:=List.eq_nil_of_length_eq_zero (by rw [← hle];rfl)
  subst hl0
  have hG:Stable (fun _=>True):=fun _ _ _ _=>trivial
  refine (ac124 hG [] rfl (by simp) w (fun _ _=>False) #[.slice (some a0) 0 0] trivial rfl (fun i h h' => ?_)).mono ?_
  ·match i,h with
   |0,_=>exact .data _ _ (.emps _ _)
  ·rintro e w1 ⟨hb,hi,hfr,c,rfl,h1,_⟩
   have h2:=h1.toData rfl
   exact ⟨c,rfl,hb,.inl ⟨h2.noCells,rfl⟩⟩
 |slice _ _ b off cap size cs hcap hn hsz h1 hc hr =>
  subst hes
  have hcells:=flat_ints hc hsz hr
  rw [ints_len]
  obtain ⟨z,hz⟩:∃ z,ie.zero=some z∧z.cells.size=1∧ie.bytes=8:=by
   have h:(prog.info? 3).map (fun i=>(i.zero.map fun z=>z.cells.size,i.bytes))=some (some 1,8):=by kernel_rfl
   rw [hie] at h
   simp only [Option.map_some,Option.some.injEq,Prod.mk.injEq,Option.map_eq_some_iff] at h
   obtain ⟨⟨z,h1,h2⟩,h3⟩:=h
   exact ⟨z,h1,h2,h3⟩
  have hso:∀ w,(Go.sizeOf 3).run prog w = .ok 1 w:=fun w=>by simp [sizeOf,typeInfo,hie,hs,Sem.run_bind]
  have hcl:=Tryz.slices_Clone ie z 1 8 hie hz.1 hs hz.2.2 hz.2.1 (by omega) hso b off l.length cap (l.map (Value.int .i64)) w (by simp) (by unfold maxLen;omega) (by omega) (fun j u hj=>by
   simp only [List.getElem?_map,Option.map_eq_some_iff] at hj
   obtain ⟨x,hx,rfl⟩:=hj
   obtain ⟨hj,rfl⟩:=List.getElem?_eq_some_iff.1 hx
   exact hcells j hj) (fun u hu=>by
   obtain ⟨x,_,rfl⟩:=List.mem_map.1 hu
   rfl)
  refine hcl.mono ?_
  rintro e w1 ⟨v1,rfl,hown,hne,hb⟩
  refine ⟨v1,rfl,hb,.inr ?_⟩
  rcases hown.2 with ⟨h0,_⟩ | ⟨g,cap',cur,rfl,hbg,hg,hcap',hmax,hcs,htake⟩
  ·exact absurd h0 hne
  ·simp only [Nat.mul_one] at hcs htake
   refine ⟨g,cap',rfl,hbg,(Array.getElem?_eq_some_iff.1 hg).1,hcap',by unfold maxLen at hmax;omega,fun j hj => ?_⟩
   have hj':j < l.length:=by simpa using hj
   have hcur:cur[j]? = some (.int .i64 l[j]):=by
    have:=congrArg (·[j]?) htake
    simp only [List.getElem?_take,List.getElem?_map] at this
    rw [if_pos hj',List.getElem?_eq_getElem hj'] at this
    rw [← Array.getElem?_toList]
    exact this
   have hjc:j < cur.size:=(Array.getElem?_eq_some_iff.1 hcur).1
   rw [Nat.zero_add]
   constructor
   ·simp [World.cell?,hg,hcur,hj']
   ·simp [World.frozen?,hg]
theorem below_putRow {w w1:World} {g:Nat} (hb:Below w.heap.size w w1) (hg:w.heap.size≤g) (q:Nat) (d:Array Int):Below w.heap.size w (putRow (Value.int .i64) (Sort.ahead w1 q) g 0 d):=by
 refine hb.trans ⟨rfl,rfl,rfl,by rw [size_putRow];exact Nat.le_refl _,fun k hk => ?_⟩
 show ((w1.heap.modify g _)[k]?)=_
 rw [Array.getElem?_modify,if_neg (by omega)]
theorem holds_front {w1:World} {g q:Nat} {d0 d1 l:List Int} (h0:Holds (Value.int .i64) w1 g 0 d0.toArray) (hs:(l++d1).length=d0.length):Holds (Value.int .i64) (putRow (Value.int .i64) (Sort.ahead w1 q) g 0 (l++d1).toArray) g 0 l.toArray:=by
 have h:=holds_putRow (Value.int .i64) (Sort.ahead w1 q) g 0 d0.toArray (l++d1).toArray (holds_ahead _ _ q _ _ _ h0) (by simpa using hs)
 intro j hj
 have hj':j < l.length:=by simpa using hj
 obtain ⟨h1,h2⟩:=h j (by simp;omega)
 have e:(l++d1).toArray[j]! = l.toArray[j]! := by
  rw [getElem!_pos _ j (by simp;omega),getElem!_pos _ j (by simpa using hj')]
  simp [hj',List.getElem_append_left]
 rw [e] at h1
 exact ⟨h1,h2⟩
theorem zero3 (w:World):(zeroValue 3).run prog w = .ok (.int .i64 0) w:=by
 obtain ⟨ie,hie,_⟩:=info_size (P:=prog) (t:=3) (s:=1) (by kernel_rfl)
 have hz:ie.zero=some (.int .i64 0):=by
  have h:(prog.info? 3).map (·.zero)=some (some (.int .i64 0)):=by kernel_rfl
  rw [hie] at h
  simpa using h
 simp [zeroValue,typeInfo,hie,hz,Sem.run_bind]
theorem filter_calls (hG:Stable GI) {w w1:World} (hb:Below w.heap.size w w1) (hG1:GI w1) {v1:Value} {l:List Int} (hf:Fresh w w1 v1 l) (hl:l.length < 1000000) {n:Int} {B:Nat} (hB:B < w.heap.size) (hc:w1.cell? ⟨B,0,none⟩=some (.int .i64 n)) :
  Calls prog 136 #[v1,.func (.func 137) #[] #[.pointer (some ⟨B,0,none⟩)]] w1 fun e w2=>∃ v2,e = .returned v2∧Below w.heap.size w w2∧Fresh w w2 v2 (l.filter fun x => !decide (n≤x)):=by
 rcases hf with ⟨hv1,rfl⟩ | ⟨g,cap,rfl,hwg,hg,hcap,hmax,hH⟩
 ·refine (ac136_nil hG w1 (fun _ _=>False) #[v1,.func (.func 137) #[] #[.pointer (some ⟨B,0,none⟩)]] hG1 rfl (fun i h h' => ?_)).mono ?_
  ·match i,h with
   |0,_=>exact .data _ _ hv1
   |1,_=>exact .junk _
  ·rintro e w2 ⟨hb2,hi,hfr,c,rfl,h1,_⟩
   have hb2':Below w.heap.size w1 w2:=hb2.mono hb.size
   have hcd:RD (prOf w1.heap.size (fun _ _=>False) hi) w2 (.slice .view []) c:=h1.toData rfl
   exact ⟨c,rfl,hb.trans hb2',.inl ⟨hcd.noCells,rfl⟩⟩
 ·have hBg:B≠g:=by omega
  have eg:∀ args w,(callFunc 137 args).run prog w = .ok (.enter 137 args) w:=enters_of func137 (by kernel_rfl) rfl
  have hlt:B < w1.heap.size:=Nat.lt_of_lt_of_le hB hb.size
  have hcon:=Tryz.slices_DeleteFunc (Value.int .i64) (fun _=>rfl) (fun x=>decide (n≤x)) 137 #[.pointer (some ⟨B,0,none⟩)] eg 0 zero3 g 0 cap l.toArray w1
   (fun W x hbW=>gives153 n x B W ((hbW.cell (p:=⟨B,0,none⟩) hlt).trans hc))
   (fun m os dk x _=>gives153 n x B _ (by
    unfold sortWorld
    rw [cell?_grow _ _ _ (by show B < (putRow _ _ _ _ _).heap.size;rw [size_putRow];exact hlt),cell?_putRow_other _ _ g 0 _ _ (Or.inl hBg)]
    exact hc)) hH (by simp;omega) (by simpa using hcap)
  simp only [List.size_toArray] at hcon
  refine hcon.mono ?_
  rintro e w2 ⟨rfl,q,rfl⟩
  have hlen:(l.filter fun x => !decide (n≤x)).length≤l.length:=List.length_filter_le _ _
  refine ⟨_,rfl,below_putRow hb hwg q _,.inr ⟨g,cap,rfl,hwg,by rw [size_putRow];exact hg,by omega,hmax,?_⟩⟩
  exact holds_front hH (by simp;omega)
theorem fresh_rel {n:Nat} {w0:World} {g:Gh} {S:Slots} {H:Boxes} {a:Act} {w w2:World} {v:Value} {l:List Int} (R:Rel prog w0 n NoU g S H a w) (hb:Below w.heap.size w w2) (hf:Fresh w w2 v l) :
  ∃ g',g'.old=g.old∧Rel prog w0 n NoU g' S H a w2∧RD g'.Pr w2 (vI l) v:=by
 have hle:g.base≤w.heap.size:=by rw [R.base];exact R.below.size
 rcases hf with ⟨hv,rfl⟩ | ⟨b,cap,rfl,hwg,hg,hcap,_,hH⟩
 ·exact ⟨g,rfl,R.grow' hb,hv.noCells⟩
 ·refine ⟨{ g with hi:=upd g.hi b l.length },rfl,R.grow hb rfl rfl rfl (fun c hc=>⟨upd_ne _ _ (by omega),rfl⟩) (fun c hc=>⟨by show upd g.hi b l.length c=0;rw [upd_ne _ _ (by omega)];exact (R.fresh c (Nat.le_trans hb.size hc)).1,(R.fresh c (Nat.le_trans hb.size hc)).2⟩),?_⟩
  unfold vI
  have e:l.length=(ints l).length:=(ints_len l).symm
  have key:∀ m,m=(ints l).length→RD (Gh.Pr { g with hi:=upd g.hi b l.length }) w2 (.slice .view (ints l)) (.slice (some ⟨b,0,none⟩) m cap) := ?_
  ·exact key _ e
  rintro m rfl
  refine .slice .view (ints l) b 0 cap 1 (fun k => .int .i64 (l.getD k 0)) (by rw [← e];exact hcap) (fun h=>by cases h) (fun i hi=>by rw [ints_get];rfl) (fun i hi j hj => ?_) (fun k hk => ?_) (fun i hi j hj => ?_)
  ·have:(ints l)[i].cells=[.int .i64 (l[i]'(by simpa [ints_len] using hi))]:=by rw [ints_get];rfl
   have hj0:j=0:=by rw [this] at hj;simpa using hj
   subst hj0
   simp only [this];rfl
  ·rw [ints_len,Nat.mul_one] at hk
   obtain ⟨h1,_⟩:=hH k (by simpa using hk)
   refine ⟨.inr ⟨by show g.base≤b;omega,by show 0+k < upd g.hi b l.length b;rw [upd_same];omega⟩,?_⟩
   rw [h1,getElem!_pos _ k (by simpa using hk)]
   simp [hk]
  ·have hil:i < l.length:=by simpa [ints_len] using hi
   have:(ints l)[i].cells=[.int .i64 l[i]]:=by rw [ints_get];rfl
   have hj0:j=0:=by rw [this] at hj;simpa using hj
   subst hj0
   have e2:(ints l)[i].cells[0] = .int .i64 l[i]:=by simp only [this];rfl
   rw [e2,Nat.mul_one,Nat.add_zero]
   have:(l.getD i 0)=l[i]:=by simp [hil]
   rw [this]
   exact .int _ _
end Go.Proofs.Tryz
namespace Go.AL
section
theorem run_callF {P:Program} {a:Act} {o:Oper} {cl:Call} {k:Nat} {args:Array Value} (w:World) (ho:o.op = .call cl) (hc:cl.callee = .value (.func k)) (ha:cl.args.map a.eval=args) (hk:callable P k=true) :
  (execOp a.eval o).run P w = .ok (.enter k args) w:=by
 unfold execOp
 simp only [ho,run_resolve_func hc,show a.eval (.func k) = .func (.func k) #[] #[] from rfl,Deferred.ofValue,Sem.run_bind,Sem.run_pure,Result.andThen_ok,invoke,Array.empty_append,Array.append_empty,ha]
 rw [run_callFunc hk]
theorem put_get (a:Act) (d t:Nat) (c:Value) (hd:d < a.tmps.size):(a.put (some d) c).eval (.tmp t)=if t=d then c else a.eval (.tmp t):=getD_put a d t c hd
theorem put_size (a:Act) (d:Option Nat) (c:Value):(a.put d c).tmps.size=a.tmps.size:=by cases d<;>simp [Act.put]
end
end Go.AL
namespace Go.Proofs.Tryz
open Go Go.AL Go.RowKit Go.Proofs
variable {GI:World→Prop}
structure Word where
 signs:List Int
 cuts:List Int
 free:Bool
def wordA (w:Word):AV := .agg [vI w.signs,vI w.cuts,.bool w.free]
theorem hand_filter {n:Nat} {ro:Option Nat} {m:Nat} {ops:Array Oper} {i1 i2 i3 tc tb t1 t2 t3:Nat} {o1 o2 o3:Oper} {c1 c3:Call} (hG:Stable GI)
  (ho1:ops[i1]? = some o1) (hg1:o1.guard=none) (hp1:o1.op = .call c1) (hc1:c1.callee = .value (.func 124)) (ha1:c1.args = #[.tmp tc]) (hd1:o1.dst=some t1)
  (ho2:ops[i2]? = some o2) (hg2:o2.guard=none) (hp2:o2.op = .makeFunc (.func 137) #[] #[.tmp tb]) (hd2:o2.dst=some t2)
  (ho3:ops[i3]? = some o3) (hg3:o3.guard=none) (hp3:o3.op = .call c3) (hc3:c3.callee = .value (.func 136)) (ha3:c3.args = #[.tmp t1,.tmp t2]) (hd3:o3.dst=some t3)
  (htb:tb≠t1) (h12:t1≠t2) (hn1:t1 < n) (hn2:t2 < n) (hn3:t3 < n) (hnc:tc < n) (hnb:tb < n)
  {w0:World} {g:Gh} {S:Slots} {H:Boxes} {a:Act} {w:World} (hG0:GI w0) (R:Rel prog w0 n NoU g S H a w) {l:List Int} (hl:l.length < 1000000) {x:Int} (hSc:S tc=vI l) (hSb:S tb = .box tb 0) (hHb:H tb=some [.int .i64 x])
  {K2:Old→Slots→Boxes→Prop} (hK:K2 g.old (upd (upd (upd S t1 .junk) t2 .junk) t3 (vI (l.filter fun k => !decide (x≤k)))) H) :
  wpOpsIn (FR ro) m prog ops (HQ prog w0 n K2) [i1,i2,i3] a w:=by
 have hcl1:calmOp o1.op=true:=by rw [hp1];rfl
 have hcl2:calmOp o2.op=true:=by rw [hp2];rfl
 have hcl3:calmOp o3.op=true:=by rw [hp3];rfl
 have hsz:=R.size
 have vc:=R.slot tc hnc id
 rw [hSc] at vc
 have vc:=vc.toData rfl
 have vb:=R.slot tb hnb id
 rw [hSb] at vb
 obtain ⟨B,hB,halB⟩:∃ B,a.tmps.getD tb undef = .pointer (some ⟨B,0,none⟩)∧g.al tb=some B:=by
  generalize a.tmps.getD tb undef=c at vb
  cases vb with
  |data _ _ h=>cases h
  |box _ _ b h=>exact ⟨b,rfl,h⟩
 obtain ⟨cs,vs,ty,e0,b1,b2,b3,b4,b5,b6,b7,b8⟩:=R.box tb B halB
 rw [hHb] at e0;cases e0
 have hBlt:B < w.heap.size:=(Array.getElem?_eq_some_iff.1 b2).1
 have hcell:w.cell? ⟨B,0,none⟩=some (.int .i64 x):=by
  have h0:0 < vs.size:=by rw [← b5];exact Nat.zero_lt_one
  have hv:=(RV.data (al:=noneA) _ _ (b6 0 (by simp) h0)).int_eq
  simp [World.cell?,b2,h0,hv]
 have hle:g.base≤w.heap.size:=by rw [R.base];exact R.below.size
 have hb0:=R.below
 rw [R.base] at hb0 hle
 refine opIn_call ho1 hg1 hcl1 (run_callF (k:=124) (args := #[a.tmps.getD tc undef]) w hp1 hc1 (by rw [ha1];simp only [List.map_toArray,List.map_cons,List.map_nil];rfl) (by kernel_rfl)) (clone_calls vc hl) ?_
 rintro e w1 ⟨v1,rfl,hb1,hf1⟩
 refine ⟨v1,rfl,?_⟩
 rw [hd1]
 have hG1:GI w1:=hG w0 w1 hG0 (hb0.trans (hb1.mono hle))
 refine opIn_val ho2 hg2 hcl2 (run_mkf hp2) ?_
 have hcap:(#[Operand.tmp tb].map (a.put (some t1) v1).eval) = #[.pointer (some ⟨B,0,none⟩)]:=by
  simp only [List.map_toArray,List.map_cons,List.map_nil,put_get _ _ _ _ (show t1 < a.tmps.size by omega),if_neg htb]
  rw [show a.eval (.tmp tb)=a.tmps.getD tb undef from rfl,hB]
 rw [hcap,hd2]
 have hcell1:w1.cell? ⟨B,0,none⟩=some (.int .i64 x):=(hb1.cell (p:=⟨B,0,none⟩) hBlt).trans hcell
 refine opIn_call ho3 hg3 hcl3 (run_callF (k:=136) (args := #[v1,.func (.func 137) #[] #[.pointer (some ⟨B,0,none⟩)]]) w1 hp3 hc3 ?_ (by kernel_rfl)) (filter_calls hG hb1 hG1 hf1 hl hBlt hcell1) ?_
 ·rw [ha3]
  simp only [List.map_toArray,List.map_cons,List.map_nil,put_get _ _ _ _ (show t2 < (a.put (some t1) v1).tmps.size by rw [put_size];omega),put_get _ _ _ _ (show t1 < a.tmps.size by omega),if_neg h12,if_true]
 ·rintro e w2 ⟨v2,rfl,hb2,hf2⟩
  refine ⟨v2,rfl,?_⟩
  obtain ⟨g',hg',R',hrd⟩:=fresh_rel R hb2 hf2
  rw [hd3]
  refine ⟨g',_,H,((R'.put t1 .junk v1 (by omega) (.junk _) trivial).put t2 .junk _ (by omega) (.junk _) trivial).put t3 _ _ (by omega) (.data _ _ hrd) trivial,?_⟩
  rw [hg']
  exact hK
def shorterW:List Word→Nat→List Word
 |[],_=>[]
 |w::ws,k=>if k=0 then [] else { signs:=w.signs.take (min k w.signs.length),cuts:=w.cuts.filter fun c => !decide (((min k w.signs.length:Nat):Int)≤c),free:=w.free }::shorterW ws (k - min k w.signs.length)
end Go.Proofs.Tryz
namespace Go.AL
theorem splice_one {cs:List AV} {i:Nat} (v:AV) (h:i < cs.length):splice cs i [v]=cs.set i v:=by
 unfold splice
 rw [List.set_eq_take_append_cons_drop,if_pos h]
 simp
def sndC:Code→Code
 |.seq _ y=>y
 |c=>c
def bodyC (f:Func):Code:=f.body.getD .skip
end Go.AL
namespace Go.Proofs.Tryz
open Go Go.AL Go.RowKit Go.Proofs
variable {GI:World→Prop}
theorem vw1_dem':AV.vw1 ∘ AV.dem=AV.vw1:=by
 funext v
 cases v<;>first | rfl | skip
 rename_i o es;cases o<;>rfl
def keptW (l:List Word):AV := .slice (if l.isEmpty then .nil else .own 58) (l.map wordA)
def F110 (sA:List AV) (ws done:List Word) (j lj:Nat) (z:List AV) (S:Slots) (H:Boxes):Prop :=
 S 1 = .int .i64 (lj:Nat)∧S 4 = .box 4 0∧S 5 = .box 5 0∧S 12 = .slice .view (ws.map wordA)∧S 13 = .int .i64 ws.length∧S 14 = .int .i64 (j:Nat)∧H 4=some z∧H 5=some ((sA.map AV.dem).set 7 (keptW done))
noncomputable def bodyA65:ACode:=ACode.snd (ACode.fst (ACode.snd (ACode.snd (ACode.snd (ACode.snd (ACode.snd (ACode.fst (ACode.snd (ACode.snd (ACode.snd c65))))))))))
set_option maxRecDepth 100000 in
theorem ac65 (hG:Stable GI) {sA:List AV} {ws:List Word} {L:Nat} (hl:sA.length=10) (hs7:sA[7]? = some (.slice .view (ws.map wordA))) (hst:∀ x∈sA,x.storable=true) (hlen:ws.length≤100000) (hsg:∀ w∈ws,w.signs.length < 1000000∧w.cuts.length < 1000000) (hL:L < 4611686018427387904) :
  AC prog GI 65 [.agg sA,.int .i64 (L:Nat)] (.ret (.agg ((sA.set 7 (.slice .view ((shorterW ws L).map wordA))).map AV.vw1))):=by
 refine AC.of_SW func65 rfl ntmps65 (by simp) fun cc w => ?_
 refine SW.cut hG hmix (by kernel_rfl) (ac:=ACode.fst c65) (by kernel_rfl) (fun _ _ h=>h) (fun S' H'=>S' 1 = .int .i64 (L:Nat)∧S' 2 = .box 2 0∧S' 4 = .box 4 0∧H' 2=some (sA.map AV.dem)∧∃ z,H' 4=some z∧z.length=10) ?_ ?_
 ·simp [c65,ACode.fst,awp,aops,awanted,astep,apure,ev,Eff.S,Eff.H,upd,putD,AL.start,AV.dem,AV.cells,AV.storable,hl,scrub,tmpOf,assignQ]
 rintro S1 H1 ⟨s1,s2,s4,h2,z,h4,hz⟩
 have ht10:List.take 10 (sA.map AV.dem)=sA.map AV.dem:=List.take_of_length_le (by simp;omega)
 have hdst:∀ x∈sA.map AV.dem,x.storable=true:=by
  intro x hx
  obtain ⟨y,hy,rfl⟩:=List.mem_map.1 hx
  rw [AV.dem_storable];exact hst y hy
 refine SW.cut hG hmix (by kernel_rfl) (ac:=ACode.fst (ACode.snd c65)) (by kernel_rfl) (fun _ _ h=>h) (fun S' H'=>S' 1 = .int .i64 (L:Nat)∧S' 2 = .box 2 0∧S' 4 = .box 4 0∧S' 5 = .box 5 0∧H' 2=some (sA.map AV.dem)∧H' 4=some z∧H' 5=some (sA.map AV.dem)) ?_ ?_
 ·simp [c65,ACode.fst,ACode.snd,awp,aops,awanted,astep,apure,assignQ,ev,Eff.S,Eff.H,upd,putD,loadA,s1,s2,s4,h2,h4,HR.okB,hl,dem_dem,ht10,scrub,AV.cells,AV.storable,AV.scells,tmpOf,AV.dem,splice]
 rintro S2 H2 ⟨s1,s2,s4,s5,h2,h4,h5⟩
 refine SW.cut hG hmix (by kernel_rfl) (ac:=ACode.fst (ACode.snd (ACode.snd c65))) (by kernel_rfl) (fun _ _ h=>h) (fun S' H'=>S' 1 = .int .i64 (L:Nat)∧S' 2 = .box 2 0∧S' 4 = .box 4 0∧S' 5 = .box 5 0∧H' 2=some (sA.map AV.dem)∧H' 4=some z∧H' 5=some ((sA.map AV.dem).set 7 (keptW []))) ?_ ?_
 ·simp [c65,ACode.fst,ACode.snd,awp,aops,awanted,astep,apure,assignQ,ev,Eff.S,Eff.H,upd,putD,s1,s2,s4,s5,h2,h4,h5,HR.okB,hl,AV.cells,AV.storable,AV.scells,tmpOf,AV.dem,splice_one,keptW]
 rintro S3 H3 ⟨s1,s2,s4,s5,h2,h4,h5⟩
 have hd7:(sA.map AV.dem)[7]? = some (.slice .view (ws.map wordA)):=by rw [List.getElem?_map,hs7];rfl
 show SW prog GI 47 none (.seq (.seq _ (.block 0 (.loop _))) (.seq _ .ret)) _ _ _ _
 refine SW.seq (SW.cut hG hmix (by kernel_rfl) (ac:=ACode.fst (ACode.fst (ACode.snd (ACode.snd (ACode.snd c65))))) (by kernel_rfl) (fun _ _ h=>h) (fun S' H'=>F110 sA ws [] 0 L z S' H') ?_ ?_)
 ·simp [c65,ACode.fst,ACode.snd,awp,aops,awanted,astep,apure,assignQ,ev,Eff.S,Eff.H,upd,putD,loadA,s1,s2,s4,s5,h2,h4,h5,HR.okB,hd7,AV.dem,F110]
 intro S4 H4 hF
 have rest:∀ S' H' done j lj,F110 sA ws done j lj z S' H'→done=shorterW ws L→SW prog GI 47 none (sndC (sndC (sndC (sndC (bodyC f65))))) (retS prog 47 f65.results.toList (.ret (.agg ((sA.set 7 (.slice .view ((shorterW ws L).map wordA))).map AV.vw1))) cc) (Old.plain cc w) S' H':=by
  rintro S' H' done j lj ⟨-,s4,s5,-,-,-,h4,h5⟩ hd
  obtain ⟨C,hC⟩:∃ C,(sA.map AV.dem).set 7 (keptW done)=C:=⟨_,rfl⟩
  rw [hC] at h5
  have hCl:C.length=10:=by rw [← hC];simp [hl]
  have hCd:(C.map AV.dem).map AV.vw1=(sA.set 7 (.slice .view ((shorterW ws L).map wordA))).map AV.vw1:=by
   rw [← hC,← hd,List.map_map]
   have e:(AV.vw1 ∘ AV.dem)=AV.vw1:=vw1_dem'
   rw [e,List.map_set,List.map_set,List.map_map,e]
   congr 1
  have ht:List.take 10 (C.map AV.dem)=C.map AV.dem:=List.take_of_length_le (by simp;omega)
  show SW prog GI 47 none (.seq _ .ret) _ _ _ _
  refine SW.cut hG hmix (by kernel_rfl) (ac:=ACode.fst (ACode.snd (ACode.snd (ACode.snd (ACode.snd c65))))) (by kernel_rfl) (fun _ _ h=>h) (fun S' H'=>S' 4 = .box 4 0∧H' 4=some (C.map AV.dem)) ?_ ?_
  ·have hdz:List.drop 10 z=[]:=List.drop_eq_nil_of_le (by omega)
   simp [c65,ACode.fst,ACode.snd,awp,aops,awanted,astep,apure,assignQ,ev,Eff.S,Eff.H,upd,putD,s4,s5,h4,h5,loadA,HR.okB,hCl,AV.cells,AV.storable,AV.scells,splice,tmpOf,ht,hz,hdz,dem_dem,AV.dem]
  rintro S6 H6 ⟨s4,h4⟩
  obtain ⟨i28,hi28,hs28⟩:=info_size (P:=prog) (t:=36) (s:=10) (by kernel_rfl)
  obtain ⟨fs,hfs⟩:=under_struct (P:=prog) (t:=36) (by kernel_rfl)
  refine SW.ret ⟨Marked.plain rfl,rfl,_,?_,rfl⟩
  show ares prog 47 [.cell 4 36] S6 H6=_
  rw [← hCd]
  simp [ares,aress,ares1,s4,h4,hi28,hfs,hs28,loadA,aggT,hCl,AV.out,dem_dem,vw1_dem,ht]
 refine SW.block (SW.loop (fun o S' H'=>∃ done j lj,o=Old.plain cc w∧j≤ws.length∧lj≤L∧done.length≤j∧shorterW ws L=done++shorterW (ws.drop j) lj∧F110 sA ws done j lj z S' H')
  (fun S' _=>match S' 14 with | .int _ j=>ws.length - j.toNat | _=>0) ⟨[],0,L,rfl,Nat.zero_le _,Nat.le_refl _,Nat.le_refl _,rfl,hF⟩ ?_)
 rintro o S5 H5 ⟨done,j,lj,rfl,hj,hlj,hdj,hsh,hF⟩
 have m14:S5 14 = .int .i64 (j:Nat):=hF.2.2.2.2.2.1
 show SW prog GI 47 none (.seq _ (.seq (.cond _ _ _) (.seq (.block 1 _) _))) _ _ _ _
 refine SW.cut hG hmix (by kernel_rfl) (ac:=ACode.fst (ACode.snd (ACode.snd (ACode.snd (ACode.fst (ACode.snd (ACode.snd (ACode.snd c65)))))))) (by kernel_rfl) (fun _ _ h=>h) (fun S' H'=>S' 15 = .bool (decide (j < ws.length))∧F110 sA ws done j lj z S' H') ?_ ?_
 ·obtain ⟨s1,s4,s5,s12,s13,s14,h4,h5⟩:=hF
  simp [c65,ACode.fst,ACode.snd,awp,aops,awanted,astep,apure,assignQ,ev,Eff.S,Eff.H,upd,putD,F110,s1,s4,s5,s12,s13,s14,h4,h5,abin]
 rintro S6 H6 ⟨s15,hF⟩
 by_cases hlt:j < ws.length
 case neg =>
  refine SW.seq (SW.cond rfl false (by show S6 15=_;rw [s15];simp [hlt]) (SW.exit ?_))
  have hjl:j=ws.length:=by omega
  subst hjl
  rw [List.drop_length,show shorterW [] lj=[] from rfl,List.append_nil] at hsh
  exact rest S6 H6 done _ lj hF hsh.symm
 case pos =>
  refine SW.seq (SW.cond rfl true (by show S6 15=_;rw [s15];simp [hlt]) (SW.skip ?_))
  show SW prog GI 47 none (.seq (.block 1 _) _) _ _ _ _
  obtain ⟨s1,s4,s5,s12,s13,s14,h4,h5⟩:=hF
  have hsgj:=hsg ws[j] (List.getElem_mem hlt)
  have hdrop:ws.drop j=ws[j]::ws.drop (j+1):=List.drop_eq_getElem_cons hlt
  obtain ⟨wd,hwd⟩:∃ wd,ws[j]=wd:=⟨_,rfl⟩
  rw [hwd] at hsgj hdrop
  refine SW.seq (SW.block ?_)
  show SW prog GI 47 none (.seq _ (.seq (.seq _ (.cond _ _ _)) (.seq _ (.seq _ (.seq _ (.seq _ _)))))) _ _ _ _
  refine SW.cut hG hmix (by kernel_rfl) (ac:=ACode.fst bodyA65) (by kernel_rfl) (fun _ _ h=>h) (fun S' H'=>S' 7 = .box 7 0∧H' 7=some [vI wd.signs,vI wd.cuts,.bool wd.free]∧F110 sA ws done j lj z S' H') ?_ ?_
  ·have hne:¬ (j:Int) < 0:=by omega
   have hgj:(ws.map wordA)[j]? = some (wordA wd):=by rw [List.getElem?_map,List.getElem?_eq_getElem hlt,hwd];rfl
   simp [c65,bodyA65,ACode.fst,ACode.snd,awp,aops,awanted,astep,apure,assignQ,ev,Eff.S,Eff.H,upd,putD,F110,s1,s4,s5,s12,s13,s14,h4,h5,hgj,hlt,loadA,wordA,vI,AV.cells,AV.dem,scrub,HR.okB,AV.storable,splice,AV.scells,tmpOf,hwd]
  rintro S7 H7 ⟨s7,h7,hF⟩
  refine SW.seq (SW.cut hG hmix (by kernel_rfl) (ac:=ACode.fst (ACode.fst (ACode.snd bodyA65))) (by kernel_rfl) (fun _ _ h=>h) (fun S' H'=>S' 19 = .bool ((lj:Int)==0)∧S' 7 = .box 7 0∧H' 7=some [vI wd.signs,vI wd.cuts,.bool wd.free]∧F110 sA ws done j lj z S' H') ?_ ?_)
  ·obtain ⟨s1,s4,s5,s12,s13,s14,h4,h5⟩:=hF
   simp [c65,bodyA65,ACode.fst,ACode.snd,awp,aops,awanted,astep,apure,assignQ,ev,Eff.S,Eff.H,upd,putD,F110,s1,s4,s5,s7,s12,s13,s14,h4,h5,h7,abin,AV.dem]
  rintro S8 H8 ⟨s19,s7,h7,hF⟩
  by_cases hl0:lj=0
  case pos =>
   subst hl0
   refine SW.cond rfl true (by show S8 19=_;rw [s19];rfl) (SW.exit ?_)
   have hz0:shorterW (ws.drop j) 0=[]:=by rw [hdrop];simp [shorterW]
   rw [hz0,List.append_nil] at hsh
   exact rest S8 H8 done j 0 hF hsh.symm
  case neg =>
   have hb0:((lj:Int)==0)=false:=by simp;omega
   refine SW.cond rfl false (by show S8 19=_;rw [s19,hb0]) (SW.skip ?_)
   obtain ⟨nn,hnn⟩:∃ nn,min lj wd.signs.length=nn:=⟨_,rfl⟩
   have hnl:nn≤lj:=by omega
   have hns:nn≤wd.signs.length:=by omega
   obtain ⟨s1,s4,s5,s12,s13,s14,h4,h5⟩:=hF
   show SW prog GI 47 none (.seq _ (.seq _ (.seq _ (.seq _ _)))) _ _ _ _
   refine SW.cut hG hmix (by kernel_rfl) (ac:=ACode.fst (ACode.snd (ACode.snd bodyA65))) (by kernel_rfl) (fun _ _ h=>h) (fun S' H'=>S' 8 = .box 8 0∧H' 8=some [.int .i64 nn]∧S' 7 = .box 7 0∧H' 7=some [vI wd.signs,vI wd.cuts,.bool wd.free]∧F110 sA ws done j lj z S' H') ?_ ?_
   ·have hmin:min (lj:Int) (wd.signs.length:Int)=(nn:Int):=by omega
    simp [c65,bodyA65,ACode.fst,ACode.snd,awp,aops,awanted,astep,apure,assignQ,ev,Eff.S,Eff.H,upd,putD,F110,s1,s4,s5,s7,s12,s13,s14,h4,h5,h7,loadA,vI,ints_len,hmin,AV.cells,AV.dem,scrub,HR.okB,AV.storable,splice,AV.scells,tmpOf]
   rintro S9 H9 ⟨s8,h8,s7,h7,s1,s4,s5,s12,s13,s14,h4,h5⟩
   refine SW.cut hG hmix (by kernel_rfl) (ac:=ACode.fst (ACode.snd (ACode.snd (ACode.snd bodyA65)))) (by kernel_rfl) (fun _ _ h=>h) (fun S' H'=>S' 8 = .box 8 0∧H' 8=some [.int .i64 nn]∧S' 7 = .box 7 0∧H' 7=some [vI wd.signs,vI wd.cuts,.bool wd.free]∧F110 sA ws done j (lj - nn) z S' H') ?_ ?_
   ·have hw:IntKind.i64.wrap ((lj:Int) - (nn:Int))=((lj - nn:Nat):Int):=by rw [wrapI (by omega)];omega
    simp [c65,bodyA65,ACode.fst,ACode.snd,awp,aops,awanted,astep,apure,assignQ,ev,Eff.S,Eff.H,upd,putD,F110,s1,s4,s5,s7,s8,s12,s13,s14,h4,h5,h7,h8,loadA,AV.dem,HR.okB,abin,hw,tmpOf]
   rintro S10 H10 ⟨s8,h8,s7,h7,s1,s4,s5,s12,s13,s14,h4,h5⟩
   refine SW.cut hG hmix (by kernel_rfl) (ac:=ACode.fst (ACode.snd (ACode.snd (ACode.snd (ACode.snd bodyA65))))) (by kernel_rfl) (fun _ _ h=>h) (fun S' H'=>S' 8 = .box 8 0∧H' 8=some [.int .i64 nn]∧S' 7 = .box 7 0∧H' 7=some [vI (wd.signs.take nn),vI wd.cuts,.bool wd.free]∧F110 sA ws done j (lj - nn) z S' H') ?_ ?_
   ·have hok:elemsOK 1 (ints wd.signs)=true:=by simp [elemsOK,ints,AV.storable,AV.cells]
    have htk:(ints wd.signs).take nn=ints (wd.signs.take nn):=by simp [ints]
    simp [c65,bodyA65,ACode.fst,ACode.snd,awp,aops,awanted,astep,apure,assignQ,ev,Eff.S,Eff.H,upd,putD,F110,s1,s4,s5,s7,s8,s12,s13,s14,h4,h5,h7,h8,loadA,vI,ints_len,AV.cells,AV.dem,HR.okB,AV.storable,splice,AV.scells,tmpOf,bound,hok,htk,hns]
   rintro S11 H11 ⟨s8,h8,s7,h7,hF⟩
   show SW prog GI 47 none (.seq _ _) _ _ _ _
   obtain ⟨cf,hcf⟩:∃ cf,(wd.cuts.filter fun c => !decide (((nn:Nat):Int)≤c))=cf:=⟨_,rfl⟩
   refine SW.seq (SW.hand hG (p:=2) (lm:=[2,3,4]) (l2:=[5,6]) (os1:=[_,_]) (oh:=[_,_,_]) (os2:=[_,_]) rfl rfl rfl rfl (by kernel_rfl) (fun _ h=>h)
    (al1:=(ACode.dl (ACode.fst (ACode.snd (ACode.snd (ACode.snd (ACode.snd (ACode.snd bodyA65))))))).take 2) (al2:=(ACode.dl (ACode.fst (ACode.snd (ACode.snd (ACode.snd (ACode.snd (ACode.snd bodyA65))))))).drop 5) (by kernel_rfl) (by kernel_rfl) (by kernel_rfl) (by kernel_rfl)
    (K1:=fun S' H'=>S' 34=vI wd.cuts∧S' 8 = .box 8 0∧H' 8=some [.int .i64 nn]∧S' 7 = .box 7 0∧H' 7=some [vI (wd.signs.take nn),vI wd.cuts,.bool wd.free]∧F110 sA ws done j (lj - nn) z S' H')
    (K2:=fun o S' H'=>o=Old.plain cc w∧S' 37=vI cf∧S' 7 = .box 7 0∧H' 7=some [vI (wd.signs.take nn),vI wd.cuts,.bool wd.free]∧F110 sA ws done j (lj - nn) z S' H')
    (K3:=fun o S' H'=>o=Old.plain cc w∧S' 7 = .box 7 0∧H' 7=some [vI (wd.signs.take nn),vI cf,.bool wd.free]∧F110 sA ws done j (lj - nn) z S' H') ?_ ?_ ?_ ?_)
   ·obtain ⟨s1,s4,s5,s12,s13,s14,h4,h5⟩:=hF
    simp [c65,bodyA65,ACode.fst,ACode.snd,ACode.dl,aops,awanted,astep,apure,ev,Eff.S,Eff.H,upd,putD,F110,s1,s4,s5,s7,s8,s12,s13,s14,h4,h5,h7,h8,loadA,vI,AV.dem,HR.okB]
   ·rintro w0 g S12 H12 a w2 m hG0 ho R ⟨s34,s8,h8,s7,h7,hF⟩
    refine hand_filter hG rfl rfl rfl rfl rfl rfl rfl rfl rfl rfl rfl rfl rfl rfl rfl rfl (by decide) (by decide) (by decide) (by decide) (by decide) (by decide) (by decide) hG0 R hsgj.2 s34 s8 h8 ?_
    obtain ⟨s1,s4,s5,s12,s13,s14,h4,h5⟩:=hF
    refine ⟨ho,by rw [← hcf];exact upd_same _ _ _,by simp [upd,s7],h7,by simp [upd,s1],by simp [upd,s4],by simp [upd,s5],by simp [upd,s12],by simp [upd,s13],by simp [upd,s14],h4,h5⟩
   ·rintro o S12 H12 ⟨rfl,s37,s7,h7,s1,s4,s5,s12,s13,s14,h4,h5⟩
    refine ⟨fun _ h=>h,?_⟩
    simp [c65,bodyA65,ACode.fst,ACode.snd,ACode.dl,aops,awanted,astep,apure,ev,Eff.S,Eff.H,upd,putD,F110,s1,s4,s5,s7,s37,s12,s13,s14,h4,h5,h7,loadA,vI,AV.dem,HR.okB,AV.cells,AV.storable,AV.scells,splice,tmpOf]
   ·rintro o S12 H12 ⟨rfl,s7,h7,s1,s4,s5,s12,s13,s14,h4,h5⟩
    have hsh':shorterW ws L=(done++[⟨wd.signs.take nn,cf,wd.free⟩])++shorterW (ws.drop (j+1)) (lj - nn):=by
     rw [hsh,hdrop,List.append_assoc]
     simp only [shorterW,if_neg hl0,hnn,hcf,List.singleton_append]
    have hdl:done.length≤100000:=by omega
    have hok:elemsOK 3 (done.map wordA)=true:=by simp [elemsOK,wordA,AV.storable,AV.cells]
    have h57:∀ c,((sA.map AV.dem).set 7 c)[7]? = some c:=fun c=>by simp [hl]
    have hd57:∀ c,List.drop 7 ((sA.map AV.dem).set 7 c)=c::List.drop 8 (sA.map AV.dem):=fun c=>by
     rw [List.drop_set,if_neg (by omega),Nat.sub_self,List.drop_eq_getElem_cons (by simp [hl])];rfl
    refine SW.mono (Q:=fun e o S' H'=>e = .normal∧o=Old.plain cc w∧F110 sA ws (done++[⟨wd.signs.take nn,cf,wd.free⟩]) j (lj - nn) z S' H') ?_ (SW.of_awp hG hmix (by kernel_rfl) (fun _ _ h=>h) (ac:=ACode.snd (ACode.snd (ACode.snd (ACode.snd (ACode.snd (ACode.snd bodyA65)))))) (by kernel_rfl) ?_)
    ·rintro e o S' H' ⟨rfl,rfl,hF⟩
     show SW prog GI 47 none _ _ _ _ _
     obtain ⟨s1,s4,s5,s12,s13,s14,h4,h5⟩:=hF
     refine SW.of_awp hG hmix (by kernel_rfl) (fun _ _ h=>h) (ac:=ACode.snd (ACode.snd (ACode.snd (ACode.snd (ACode.snd (ACode.snd (ACode.fst (ACode.snd (ACode.snd (ACode.snd c65)))))))))) (by kernel_rfl) ?_
     have hwr:IntKind.i64.wrap ((j:Int)+1)=j+1:=wrapI (by omega)
     simp [c65,ACode.fst,ACode.snd,awp,aops,awanted,astep,apure,ev,Eff.S,Eff.H,upd,putD,s1,s4,s5,s12,s13,s14,h4,h5,abin,AV.dem,hwr,Post.awp,thenS,F110]
     refine ⟨⟨done++[⟨wd.signs.take nn,cf,wd.free⟩],?_⟩,?_⟩
     ·exact ⟨j+1,by omega,lj - nn,by omega,by simp;omega,hsh',rfl,by omega,rfl⟩
     rw [m14]
     show ws.length - (j+1) < ws.length - (j:Int).toNat
     rw [Int.toNat_natCast];omega
    ·unfold Post.awp
     cases done with
     |nil=>simp [c65,bodyA65,ACode.fst,ACode.snd,ACode.dl,awp,aops,awanted,astep,apure,ev,Eff.S,Eff.H,upd,putD,F110,s1,s4,s5,s7,s12,s13,s14,h4,h5,h7,loadA,vI,AV.dem,HR.okB,AV.cells,AV.storable,AV.scells,splice_one,tmpOf,hl,h57,hd57,keptW,elemsOK,AV.vw,AV.vw1,wordA]
     |cons d done =>
      have hsm:done.length+1+1 < 1048576:=by simp at hdl;omega
      simp [c65,bodyA65,ACode.fst,ACode.snd,ACode.dl,awp,aops,awanted,astep,apure,ev,Eff.S,Eff.H,upd,putD,F110,s1,s4,s5,s7,s12,s13,s14,h4,h5,h7,loadA,vI,AV.dem,HR.okB,AV.cells,AV.storable,AV.scells,splice_one,tmpOf,hl,h57,hd57,keptW,elemsOK,AV.vw,AV.vw1,wordA,hsm]
end Go.Proofs.Tryz
namespace Go.Proofs.Tryz
open Go Go.AL Go.RowKit Go.Proofs
variable {GI:World→Prop}
structure Line where
 glyphs:List AV
 cut:Bool
def lineA (l:Line):AV := .agg [.slice .view l.glyphs,.bool l.cut]
end Go.Proofs.Tryz
namespace Go.AL
def dMap {α:Type} (d:AV→Option α):List AV→Option (List α)
 |[]=>some []
 |x::l=>match d x with
  |some a=>match dMap d l with
   |some r=>some (a::r)
   |none=>none
  |none=>none
def dInt:AV→Option Int
 |.int .i64 n=>some n
 |_=>none
def dVI:AV→Option (List Int)
 |.slice .view es=>dMap dInt es
 |_=>none
end Go.AL
namespace Go.Proofs.Tryz
open Go Go.AL Go.RowKit Go.Proofs
variable {GI:World→Prop}
def dWord:AV→Option Word
 |.agg [s,c,.bool b]=>match dVI s with
  |some s=>match dVI c with
   |some c=>some ⟨s,c,b⟩
   |none=>none
  |none=>none
 |_=>none
def dPair:AV→Option Pair
 |.agg [.int .i64 a,.int .i64 b,.int .i64 c,.int .i64 d]=>some ⟨a,b,c,d⟩
 |_=>none
def dEnd:AV→Option End
 |.agg [.int .i64 a,.int .i64 b]=>some (a,b)
 |_=>none
end Go.Proofs.Tryz
namespace Go.Proofs.Tryz
open Go Go.AL Go.RowKit Go.Proofs
variable {GI:World→Prop}
deriving instance DecidableEq for Pair
deriving instance DecidableEq for Word
structure Sheet where
 widths:List Int
 pairs:List Pair
 olo:Int
 ohi:Int
 glo:Int
 ghi:Int
 hyphen:Int
 words:List Word
 wide:Int
 rows:Int
deriving DecidableEq
def sheetL (s:Sheet):List AV:=[vI s.widths,.slice .view (s.pairs.map pairA),.int .i64 s.olo,.int .i64 s.ohi,.int .i64 s.glo,.int .i64 s.ghi,.int .i64 s.hyphen,.slice .view (s.words.map wordA),.int .i64 s.wide,.int .i64 s.rows]
def sheetA (s:Sheet):AV := .agg (sheetL s)
def dSheet:AV→Option Sheet
 |.agg [w,.slice .view ps,.int .i64 a,.int .i64 b,.int .i64 c,.int .i64 d,.int .i64 e,.slice .view ws,.int .i64 f,.int .i64 g]=>match dVI w with
  |some w=>match dMap dPair ps with
   |some ps=>match dMap dWord ws with
    |some ws=>some ⟨w,ps,a,b,c,d,e,ws,f,g⟩
    |none=>none
   |none=>none
  |none=>none
 |_=>none
def dSetting:AV→Option (List Int×List End)
 |.agg [o,.slice .view es]=>match dVI o with
  |some o=>match dMap dEnd es with
   |some es=>some (o,es)
   |none=>none
  |none=>none
 |_=>none
end Go.Proofs.Tryz
namespace Go.Proofs.Tryz
open Go Go.AL Go.RowKit Go.Proofs
variable {GI:World→Prop}
def q1 (s:Sheet) (out:AOut):List AV→Option AOut
 |[a]=>match dSheet a with
  |some x=>bif decide (x=s) then some out else none
  |none=>none
 |_=>none
def q2 (s:Sheet) (es:List End) (out:AOut):List AV→Option AOut
 |[a,b]=>match dSheet a with
  |some x=>match dSetting b with
   |some y=>bif decide (x=s) && decide (y=([],es)) then some out else none
   |none=>none
  |none=>none
 |_=>none
def q3 (s:Sheet) (es:List End) (n:Int) (out:AOut):List AV→Option AOut
 |[a,b,.int .i64 k]=>match dSheet a with
  |some x=>match dSetting b with
   |some y=>bif decide (x=s) && decide (y=([],es)) && decide (k=n) then some out else none
   |none=>none
  |none=>none
 |_=>none
end Go.Proofs.Tryz
