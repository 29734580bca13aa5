/-
  A part of the proof.
-/
import Derived.Test.YtdiflocclemeaaaGreatDoorM2
set_option maxRecDepth 100000
set_option maxHeartbeats 8000000
set_option linter.all false
set_option linter.unusedVariables false
set_option linter.unusedSimpArgs false
set_option linter.deprecated false
namespace Go.AL
open Go.RowKit
section
variable{P:Program}{ro:Option Nat}{m:Nat}{Q:Exit->Act->World->Prop}{a:Act}{w:World}{K:Act->World->Prop}
theorem uD {ops:Array Oper} {i:Nat} {o:Oper} (ho:ops[i]? = some o) (hg:o.guard=none) (fk:il o.op=true) {v:Value} {w':World}
  (hr:(execOp a.eval o).run P w=.ok (.value v) w') (hk:K (a.put o.dst v) w'):wpOpIn (FR ro) m P ops Q i K a w:=by
 simp only[wpOpIn,ho]
 have:Region.wanted o (yielded ops a.tmps)=true:=by simp[Region.wanted,hg]
 rw[if_pos this];refine⟨λ_ _=>trivial,?_⟩;rw[ae6 _ _ _ (λc hc=>by rw[hc]at fk;cases fk),hr];exact hk
theorem N' {ops:Array Oper} {i:Nat} {o:Oper} (ho:ops[i]? = some o) (hg:o.guard=none) (fk:il o.op=true) {w':World}
  (hr:(execOp a.eval o).run P w=.ok .skip w') (hk:K (a.put o.dst undef) w'):wpOpIn (FR ro) m P ops Q i K a w:=by
 simp only[wpOpIn,ho]
 have:Region.wanted o (yielded ops a.tmps)=true:=by simp[Region.wanted,hg]
 rw[if_pos this];refine⟨λ_ _=>trivial,?_⟩;rw[ae6 _ _ _ (λc hc=>by rw[hc]at fk;cases fk),hr];exact hk
theorem N5 {ops:Array Oper} {i:Nat} {o:Oper} (ho:ops[i]? = some o) (hg:o.guard=none) (fk:il o.op=true) {f:Nat} {args:Array Value} {w':World}
  (hr:(execOp a.eval o).run P w=.ok (.enter f args) w') {R:Ending->World->Prop} (hc:Calls P f args w' R) (hk:∀e lu,R e lu->∃v,e=.returned v/\K (a.put o.dst v) lu):wpOpIn (FR ro) m P ops Q i K a w:=by
 simp only[wpOpIn,ho]
 have:Region.wanted o (yielded ops a.tmps)=true:=by simp[Region.wanted,hg]
 rw[if_pos this];refine⟨λ_ _=>trivial,?_⟩;rw[ae6 _ _ _ (λc hc=>by rw[hc]at fk;cases fk),hr];refine⟨λh=>by simp[FR,Fence.wide]at h,jw.2 (hc.mono λe lu hh=>?_)⟩;obtain⟨v,rfl,h⟩:=hk e lu hh;exact h
theorem oY{F:Fence}{ops:Array Oper}{l:Array Bool}{i fuel:Nat}(hr:Region.ready .any ops l=[i])(h:wpOpIn F m P ops Q i (wpAnyIn F m P .any ops Q fuel (l.setIfInBounds i true)) a w):wpAnyIn F m P .any ops Q (fuel+1) l a w:=by
 refine⟨λh=>(by rw[hr]at h;cases h),λj hj=>?_⟩;rw[hr]at hj
 obtain rfl:j=i:=by simpa using hj
 exact h
theorem y8{F:Fence}{ops:Array Oper}{l:Array Bool}{i j fuel:Nat}(hr:Region.ready .any ops l=[i,j])(h:wpOpIn F m P ops Q i (wpAnyIn F m P .any ops Q fuel (l.setIfInBounds i true)) a w)(h':wpOpIn F m P ops Q j (wpAnyIn F m P .any ops Q fuel (l.setIfInBounds j true)) a w):wpAnyIn F m P .any ops Q (fuel+1) l a w:=by
 refine⟨λh=>(by rw[hr]at h;cases h),λk hk=>?_⟩;rw[hr]at hk;rcases ad6.1 hk with rfl|hk
 .exact h
 .obtain rfl:k=j:=by simpa using hk
  exact h'
theorem Wj{c:Value}(h:c.oneCell'=true):c.cells=#[c]:=by cases c<;>first|rfl|cases h
theorem IH {o:Oper} {t e:TypeId} {ie:TypeInfo} {z:Value} {x:Operand} {c:Value} (ho:o.op = .buildSlice t 1 #[(0,x)]) (hu:P.underlying t=some (.slice e)) (Ir:P.info? e=some ie) (hz:ie.zero=some z) (hs:ie.size=1) (hc:a.eval x=c) (h1:c.oneCell'=true) :
  (execOp a.eval o).run P w=.ok (.value (.slice (some ⟨w.heap.size,0,none⟩) 1 1)) (w.alloc (.cells #[c] e)):=by
 have hr:=run_buildSlice (P:=P) w t e 1 #[(0,c)] #[c] ie z hu Ir hz (by rw[hs];decide) (by rw[hs];decide) (by
  rw[hs];simp[Instr.fill,Wj h1];generalize hA:Array.map (λx=>z.cells[x % z.cells.size]!) (Array.range 1)=A
  have bq:A.size=1:=by rw[<-hA];simp
  apply aeI
  .simp[bq]
  .intro i hi eb
   obtain rfl:i=0:=by simp at eb;omega
   simp[bq])
 unfold execOp;simp[ho,hc,hr]
def DB(w w':World)(es:List AV)(c:Value):Prop:=∃hi:Nat->Nat,RD (λb j=>(w.heap.size<=b/\b<w'.heap.size)/\j<hi b) w' (.slice .view es) c
theorem DB.grow{w w' w2:World}{es:List AV}{c:Value}(h:DB w w' es c)(hb:Below w'.heap.size w' w2):DB w w2 es c:=by
 obtain⟨hi,hr⟩:=h;refine⟨hi,hr.mono (bl.of_eq λb k hp=>⟨⟨⟨hp.1.1,adU hp.1.2 hb.size⟩,hp.2⟩,hb.block b hp.1.2⟩)⟩
theorem Je {old:Nat→Nat→Prop} {e:TypeId} {i:TypeInfo} {es:List AV} {en:Ending} {w':World} (hi:P.info? e=some i)
  (nU:∀x∈es,x.cells.length=i.size/\x.storable=true/\∀c∈x.cells,c.one=true) (ID:∀x∈es,∀c∈x.cells,iC c=true)
  (h:Ends P old w (.ret (.slice (if es.isEmpty then .nil else .own e) es)) en w'):Below w.heap.size w w'/\∃c,en=.returned c/\DB w w' es c:=by
 obtain⟨hb,hf,_,c,rfl,hv,ho⟩:=h;refine⟨hb,c,rfl,hf,?_⟩;have hv:=hv.fj rfl
 cases es with
 |nil=>exact hv.Gr
 |cons x es=>
  simp only[List.isEmpty_cons,adl,adz]at hv ho;obtain⟨i',xs,b,k1,k2,k3,k4⟩:=ho;rw[hi]at k1;cases k1;have rm:=kH.U9 hv k2 nU ID
  refine RD.ofRow k2 (rm.mono (bl.same λ_ _ _ h=>h.elim)) λb' kg k hk=>?_
  rw[k3]at kg;cases kg;exact⟨k2.lt b k3,by rw[k4];exact hk⟩
end
end Go.AL
namespace Go.AL
section
variable{P:Program}{GI:World->Prop}{n:Nat}{ro:Option Nat}{old:Old}{S:av}{H:aD}{Q:jM}
theorem SW.last (hG:aw GI) (hm:P.follows .mixedOrders=true) {x:Code} (hc:kY x=true) {ac:af} (pU:d_ P n x=ac) (dH:∀ d∈ac.names,¬ old.bx d) (K:av→aD→Prop) (h:bC P GI ac (aM K) S H)
  (hy:∀S' H',K S' H'->Q .normal old S' H'):SW P GI n ro x Q old S H:=by
 subst pU;intro w0 g a w m cT ho R;refine afl (ma hG cT hm x (aM K) g S H a w hc dH ho R h) ?_;intro e a' w' hq
 cases e with
 |normal=>
  obtain⟨g',S',H',h1,h2,h3⟩:=hq;exact⟨g',S',H',h2,by rw[h1];exact hy S' H' h3⟩
 |exit id=>obtain⟨_,_,_,_,_,h⟩:=hq;exact h.elim
 |ret=>obtain⟨_,_,_,_,_,h⟩:=hq;exact h.elim
 |panic ch=>obtain⟨_,_,_,_,_,_,_,_,_,_,h⟩:=hq;exact h.elim
 |goto l=>exact hq.elim
 |outgrown=>exact hq.elim
end
end Go.AL
