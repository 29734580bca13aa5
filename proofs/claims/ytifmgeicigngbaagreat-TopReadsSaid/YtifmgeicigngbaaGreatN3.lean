/- A part of the proof. -/
import Derived.Test.YtifmgeicigngbaaGreatN2
set_option maxRecDepth 100000
set_option maxHeartbeats 8000000
set_option linter.all false
namespace Go.AL
open Go.RowKit
section
variable{P:Program}{GI:World->Prop}{w0:World}{n:Nat}{g:Gh}{S:af}{H:ah}{a:Act}{w:World}{cc:Nat->Nat->Prop}{e:TypeId}{es:List AV}{v:Value}{size:Nat}
def JY(P:Program)(t:TypeId)(j off:Nat):Bool:=match P.underlying t with
 |some (.struct fs)=>(match fs[j]? with|some f=>(match P.info? f.type with|some i=>decide (f.offset=off)&&decide (i.size≠0)|none=>false)|none=>false)
 |_=>false
def xN{t:TypeId}{j o' b:Nat}(off:Nat){o:Oper}{x:Operand}(ho:o.op=.fieldAddr t x j)(hx:a.eval x=.pointer (some ⟨b,o',none⟩))(h:JY P t j off=true:=by kernel_rfl):(execOp a.eval o).run P w=.ok (.value (.pointer (some ⟨b,o'+off,none⟩))) w:=by
 unfold JY at h;split at h
 .rename_i fs iD;split at h
  .rename_i f hf;split at h
   .rename_i i hi;simp only[Bool.and_eq_true,decide_eq_true_eq]at h;have:=rr (a:=a) (w:=w) ho iD hf hi h.2 hx;rw[h.1]at this;exact this
   .cases h
  .cases h
 .cases h
def AI.low{ops:Array Oper}{a0:Act}{val:Nat->Value}{l:Array Bool}(h:AI ops n a0 val l a){k:Nat}(hk:ops.all (λo=>match o.dst with|some d=>decide (k<=d)|none=>true)=true):eF (λt=>decide (k<=t)) a0 a:=by
 intro t ht
 refine h.old t λi o ho hd=>?_
 have:=Array.all_eq_true'.1 hk o (Array.mem_of_getElem? ho);simp only[hd,decide_eq_true_eq]at this;simp only[decide_eq_false_iff_not]at ht;exact ht this
def Rel.jump(R:Rel P w0 n bu g S H a w){W:Nat->Bool}{a':Act}(hs:eF W a a')(aI:a'.tmps.size=n)(hd:a'.defers=a.defers):Rel P w0 n bu g (λt=>cond (W t) .bh (S t)) H a' w:=by
 refine{ size:=aI,defers:=hd.trans R.defers,facts:=R.facts,slot:=λt ht hu=>?_,own:=λt ht hu=>?_,box:=R.box,iB:=R.iB,ij:=R.ij,inj:=R.inj,base:=R.base,below:=R.below,fresh:=R.fresh,still:=R.still,grown:=R.grown,kept:=R.kept }
 .show RV _ _ _ (cond (W t) AV.bh (S t)) _
  cases hW:W t with
  |true=>exact .bh _
  |false=>rw[hs t hW];exact R.slot t ht hu
 .show dD _ _ _ _ (cond (W t) AV.bh (S t)) _
  cases hW:W t with
  |true=>trivial
  |false=>rw[hs t hW];exact R.own t ht hu
end
section
variable{P:Program}{Q:Exit->Act->World->Prop}{ro:Option Nat}{m n:Nat}{ops:Array Oper}
def pW(ops:Array Oper)(n:Nat):Bool:=
 ops.all (λo=>o.guard.isNone&&cW o.op&&(match o.dst with|some t=>decide (t<n)|none=>true))&&
 (List.range ops.size).all (λi=>((ops[i]?).map λo=>(o.after.all λe=>!Region.binds .any e||decide (e.on<i))&&(List.range ops.size).all λj=>i==j||((ops[j]?).map λo'=>o.dst.isNone||o'.dst !=o.dst).getD true).getD true)
end
section
variable{P:Program}{ro:Option Nat}{m:Nat}{Q:Exit->Act->World->Prop}{a:Act}{w:World}{K:Act->World->Prop}
def B_ {ops:Array Oper} {i:Nat} {o:Oper} (ho:ops[i]? = some o) (hg:o.guard=none) (cT:cW o.op=true) {f:Nat} {args:Array Value} {w':World}
  (hr:(execOp a.eval o).run P w=.ok (.enter f args) w') {R:Ending->World->Prop} (hc:Calls P f args w' R) (hk:∀e fD,R e fD->∃v,e=.returned v/\K (a.put o.dst v) fD):wpOpIn (FR ro) m P ops Q i K a w:=by
 simp only[wpOpIn,ho]
 have:Region.wanted o (yielded ops a.tmps)=true:=by simp[Region.wanted,hg]
 rw[if_pos this];refine⟨λ_ _=>trivial,?_⟩;rw[Oper.semAt_eq _ _ _ (λc hc=>by rw[hc]at cT;cases cT),hr];refine⟨λh=>by simp[FR,Fence.wide]at h,eA.2 (hc.mono λe fD hh=>?_)⟩;obtain⟨v,rfl,h⟩:=hk e fD hh;exact h
def sn(w w':World)(es:List AV)(c:Value):Prop:=∃hi:Nat->Nat,RD (λb j=>(w.heap.size<=b/\b<w'.heap.size)/\j<hi b) w' (.slice .view es) c
def sn.grow{w w' w2:World}{es:List AV}{c:Value}(h:sn w w' es c)(hb:Below w'.heap.size w' w2):sn w w2 es c:=by
 obtain⟨hi,hr⟩:=h;refine⟨hi,hr.mono (aL.of_eq λb k hp=>⟨⟨⟨hp.1.1,Nat.lt_of_lt_of_le hp.1.2 hb.size⟩,hp.2⟩,hb.block b hp.1.2⟩)⟩
end
section
variable{P:Program}{Q:Exit->Act->World->Prop}{ro:Option Nat}{m n:Nat}{ops:Array Oper}
def zV {a0:Act} {val:Nat→Value} (eZ:pW ops n=true) (W:Array Bool→World→Prop)
  (f_:∀(i:Nat)(o:Oper)(l:Array Bool)(a:Act)(w:World),ops[i]?=some o->l.size=ops.size->l.getD i false=false->AI ops n a0 val l a->W l w->(∀e∈o.after,Region.binds .any e=true->l.getD e.on false=true)->
   (∃t,o.dst=some t/\∃w',(execOp a.eval o).run P w=.ok (.value (val t)) w'/\W (l.setIfInBounds i true) w')\/(o.dst=none/\∃w',(execOp a.eval o).run P w=.ok .skip w'/\W (l.setIfInBounds i true) w')\/
   (∃t,o.dst=some t/\∃f args w',(execOp a.eval o).run P w=.ok (.enter f args) w'/\Calls P f args w' (λe fD=>e=.returned (val t)/\W (l.setIfInBounds i true) fD)))
  (hQ:∀(a:Act)(w:World),AI ops n a0 val (Array.replicate ops.size true) a->W (Array.replicate ops.size true) w->Q .normal a w):
  ∀(fuel:Nat)(l:Array Bool)(a:Act)(w:World),l.size=ops.size->(l.toList.filter (! ·)).length<=fuel->AI ops n a0 val l a->W l w->wpAnyIn (FR ro) m P .any ops Q fuel l a w:=by
 simp only[pW,Bool.and_eq_true]at eZ;obtain⟨hg,hs⟩:=eZ
 have jN:∀(i:Nat)(o:Oper),ops[i]?=some o->∀e∈o.after,Region.binds .any e=true->e.on<i:=by
  intro i o ho e he hb;have:=List.all_eq_true.1 hs i (List.mem_range.2 (Array.getElem?_eq_some_iff.1 ho).1);simp only[ho,Option.map_some,Option.getD_some,Bool.and_eq_true]at this;have:=Array.all_eq_true'.1 this.1 e he;simpa[hb]using this
 have Gw:∀(i j:Nat)(o o':Oper),ops[i]?=some o->ops[j]?=some o'->i≠j->∀t,o.dst=some t->o'.dst≠o.dst:=by
  intro i j o o' ho iJ nc t ht;have:=List.all_eq_true.1 hs i (List.mem_range.2 (Array.getElem?_eq_some_iff.1 ho).1);simp only[ho,Option.map_some,Option.getD_some,Bool.and_eq_true]at this;have:=List.all_eq_true.1 this.2 j (List.mem_range.2 (Array.getElem?_eq_some_iff.1 iJ).1);simpa[iJ,nc,ht]using this
 have fin:∀(l:Array Bool)(a:Act)(w:World),l.size=ops.size->AI ops n a0 val l a->W l w->Region.ready .any ops l=[]->Q .normal a w:=by
  intro l a w hl hI hW hr;have:=sV jN hl hr
  have hle:l=Array.replicate ops.size true:=by
   apply Array.ext
   .simpa using hl
   .intro i hi ck;have h1:=this i (by omega);simp only[Array.getD_eq_getD_getElem?,Array.getElem?_eq_getElem hi,Option.getD_some]at h1;simp[h1]
  rw[hle]at hW;refine hQ a w ⟨hI.size,hI.defers,hI.old,λi o t ho hd _=>hI.Fk i o t ho hd (this i (Array.getElem?_eq_some_iff.1 ho).1)⟩ hW
 intro fuel
 induction fuel with
 |zero=>
  intro l a w hl hc hI hW
  have hr:Region.ready .any ops l=[]:=by
   rw[List.eq_nil_iff_forall_not_mem];intro i hi;obtain⟨h1,o,ho,_⟩:=mem_ready.1 hi
   have ck:i<l.size:=by rw[hl];exact(Array.getElem?_eq_some_iff.1 ho).1
   have h2:l[i]=false:=by simpa[Array.getD_eq_getD_getElem?,ck]using h1
   have:l[i]∈l.toList.filter (! ·):=List.mem_filter.2 ⟨by simp,by simp[h2]⟩;have:=List.length_pos_of_mem this;omega
  exact⟨hr,fin l a w hl hI hW hr⟩
 |succ fuel ih=>
  intro l a w hl hc hI hW;refine⟨λhr=>fin l a w hl hI hW hr,λi hi=>?_⟩;obtain⟨h1,o,ho,eD⟩:=mem_ready.1 hi;have vW:=(Array.getElem?_eq_some_iff.1 ho).1
  have ck:i<l.size:=by omega
  have h2:l[i]=false:=by simpa[Array.getD_eq_getD_getElem?,ck]using h1
  have iE:=Array.all_eq_true'.1 hg o (Array.mem_of_getElem? ho);simp only[Bool.and_eq_true]at iE;obtain⟨⟨iE,bn⟩,oa⟩:=iE
  have Oj:l.getD i false=false:=by simp[Array.getD_eq_getD_getElem?,ck,h2]
  have Er:=f_ i o l a w ho hl Oj hI hW eD
  have l4:((l.setIfInBounds i true).toList.filter (! ·)).length<=fuel:=by
   have:(l.setIfInBounds i true).toList=l.toList.set i true:=by simp
   rw[this]
   have hlen:∀(xs:List Bool)(k:Nat)(h:k<xs.length),xs[k]=false->((xs.set k true).filter (! ·)).length+1=(xs.filter (! ·)).length:=by
    intro xs
    induction xs with
    |nil=>intro k h;simp at h
    |cons x xs ih=>
     intro k h hk
     cases k with
     |zero=>
      simp only[List.getElem_cons_zero]at hk;subst hk;simp
     |succ k=>
      simp only[List.getElem_cons_succ]at hk;have:=ih k (by simpa using h) hk;simp only[List.set_cons_succ,List.filter_cons]
      split<;>(try simp only[List.length_cons])<;>omega
   have:=hlen l.toList i (by simpa using ck) (by simpa using h2);omega
  have next:∀t,o.dst=some t->∀w',W (l.setIfInBounds i true) w'->wpAnyIn (FR ro) m P .any ops Q fuel (l.setIfInBounds i true) (a.put o.dst (val t)) w':=by
   intro t hd w' qK
   have BL:t<n:=by simpa[hd]using oa
   refine ih _ _ w' (by simpa using hl) l4 ⟨by simp[Act.put,hd,hI.size],by rw[hd];exact hI.defers,λs hs=>?_,λj o' s iJ oU Bf=>?_⟩ qK
   .have bQ:s≠t:=by rintro rfl;exact hs i o ho hd
    rw[hd,<-hI.old s hs];simp[Act.put,Array.getElem?_setIfInBounds_ne (Ne.symm bQ)]
   .rw[hd]
    by_cases eE:j=i
    .subst eE;rw[ho]at iJ;cases iJ;rw[hd]at oU;cases oU;simp[Act.put,hI.size,BL]
    .have bQ:s≠t:=by
      rintro rfl;exact Gw i j o o' ho iJ (Ne.symm eE) _ hd (oU.trans hd.symm)
     have vS:l.getD j false=true:=by
      have:=Bf;simp only[Array.getD_eq_getD_getElem?,Array.getElem?_setIfInBounds_ne (Ne.symm eE)]at this⊢;exact this
     rw[<-hI.Fk j o' s iJ oU vS];simp[Act.put,Array.getElem?_setIfInBounds_ne (Ne.symm bQ)]
  have hw:Region.wanted o (yielded ops a.tmps)=true:=by
   have:o.guard=none:=by simpa using iE
   simp[Region.wanted,this]
  rcases Er with h|h|⟨t,hd,f,args,w',hr,hC⟩
  rotate_left 2
  .exact B_ ho (by simpa using iE) bn hr hC λe fD ⟨he,qK⟩=>⟨val t,he,next t hd fD qK⟩
  all_goals simp only[wpOpIn,ho,hw,if_true]
  all_goals refine⟨λ_ _=>trivial,?_⟩
  all_goals rw[Oper.semAt_eq _ _ _ (λc hc=>by rw[hc]at bn;cases bn)]
  .obtain⟨t,hd,w',hr,qK⟩:=h;rw[hr];exact next t hd w' qK
  .obtain⟨hd,w',hr,qK⟩:=h;rw[hr];refine ih _ _ w' (by simpa using hl) l4 ⟨by rw[hd];exact hI.size,by rw[hd];exact hI.defers,λs hs=>by rw[hd];exact hI.old s hs,λj o' s iJ oU Bf=>?_⟩ qK
   have eE:j≠i:=by
    rintro rfl;rw[ho]at iJ;cases iJ;rw[hd]at oU;cases oU
   rw[hd];refine hI.Fk j o' s iJ oU ?_;have:=Bf;simp only[Array.getD_eq_getD_getElem?,Array.getElem?_setIfInBounds_ne (Ne.symm eE)]at this⊢;exact this
def sR (hm:P.follows .mixedOrders=true) {id p:Nat} {a0:Act} {w0:World} {val:Nat→Value} (rm:yU ops p=true) (jP:(ops.extract 0 p).size=p) (eZ:pW (ops.extract 0 p) n=true) (aI:a0.tmps.size=n) (W:Array Bool→World→Prop) (Nq:W (Array.replicate p false) { w0 with drawn:=w0.drawn+1 })
  (f_:∀(i:Nat)(o:Oper)(l:Array Bool)(a:Act)(w:World),(ops.extract 0 p)[i]?=some o->l.size=p->l.getD i false=false->AI (ops.extract 0 p) n a0 val l a->W l w->(∀e∈o.after,Region.binds .any e=true->l.getD e.on false=true)->
   (∃t,o.dst=some t/\∃w',(execOp a.eval o).run P w=.ok (.value (val t)) w'/\W (l.setIfInBounds i true) w')\/(o.dst=none/\∃w',(execOp a.eval o).run P w=.ok .skip w'/\W (l.setIfInBounds i true) w')\/
   (∃t,o.dst=some t/\∃f args w',(execOp a.eval o).run P w=.ok (.enter f args) w'/\Calls P f args w' (λe fD=>e=.returned (val t)/\W (l.setIfInBounds i true) fD)))
  (hQ:∀(a:Act)(w:World),AI (ops.extract 0 p) n a0 val (Array.replicate p true) a->W (Array.replicate p true) w->wpOpsIn (FR ro) m P ops Q (List.range' p (ops.size-p)) a w):(Code.region id ops true).wpIn (FR ro) m P Q a0 w0:=by
 refine ze hm rm ?_;refine zV eZ W (λi o l a w h1 h2=>f_ i o l a w h1 (by rw[h2,jP])) (λa w hI hW=>?_) p (Array.replicate p false) a0 _ (by simp[jP]) ?_ ⟨aI,rfl,λ_ _=>rfl,λi o t ho hd h=>?_⟩ Nq
 .rw[jP]at hI hW;exact hQ a w hI hW
 .refine Nat.le_trans (List.length_filter_le _ _) (by simp)
 .simp[Array.getElem?_replicate]at h
  split at h<;>cases h
end
section
variable{P:Program}{GI:World->Prop}{w0:World}{n:Nat}{g:Gh}{S:af}{H:ah}{a:Act}{w:World}{cc:Nat->Nat->Prop}{e:TypeId}{size:Nat}{es:List AV}{mk:AV->AV}
end
section
variable{P:Program}{GI:World->Prop}{w0:World}{n:Nat}{g:Gh}{S:af}{H:ah}{a:Act}{w:World}{cc:Nat->Nat->Prop}{mk:AV->AV}
structure KM(cc:Nat->Nat->Prop)(o:Old)(b:Nat)(es:Array MapEntry)(jh:Nat):Prop where
 c:o.c=cc
 ds:o.ds=[]
 bx:∀d,¬o.bx d
 keep:o.keep b=some (.map es jh)
def CN(old:Nat->Nat->Prop)(w:World)(mk:AV->AV)(en:Ending)(w':World):Prop:=
 Below w.heap.size w w'/\∃hi:Nat->Nat,(∀b,w'.heap.size<=b->hi b=0)/\∃(c:Value)(b jh:Nat),en=.returned c/\RD (ji w.heap.size old hi) w' (mk (.val (.map (some b)))) c/\w.heap.size<=b/\hi b=0/\w'.heap[b]?=some (.map #[] jh)
def BI {f:Nat} {fn:Func} {c:Code} {args:List AV} (hf:P.funcs[f]? = some fn) (hb:fn.body=some c) (hn:fn.ntmps=n) (hl:args.length≤n)
  (h:∀cc w,SW P GI n none c (λex o S H=>ex=.ret/\o.c=cc/\∃b jh,KM cc o b #[] jh/\cn P n fn.results.toList S H=some (mk (.val (.map (some b))))) (Old.plain cc w) (start args) (λ_=>none)):
  ∀(w:World)(old:Nat->Nat->Prop)(bp:Array Value),GI w->args.length=bp.size->(∀i (h:i<args.length)(h':i<bp.size),RV old (λ_=>none) w args[i] bp[i])->Calls P f bp w (CN old w mk):=by
 intro w old bp jI hlen hr;refine(eA (ro:=none) (m:=0)).1 (callsIn_of_wp_marks hf hb trivial ?_);have R:Rel P w n bu _ (start args) (λ_=>none) { tmps:=bp++Array.replicate (fn.ntmps-bp.size) undef,defers:=[] } w:=Rel.begin hn hl hlen hr;refine wpIn_mono (h old w w _ _ w 0 jI rfl R) ?_;intro ex a' w' he
 cases ex with
 |ret=>
  obtain⟨g',S,H,R',_,hc,b,jh,hK,hv⟩:=he;show LeavesInM (FR none) 0 P fn a'.tmps (CN old w mk) a'.defers .returning w';rw[R'.defers,hK.ds];obtain⟨c,r1,r2,r3⟩:=pz R' hv;obtain⟨k1,k2,k3,_⟩:=R'.kept b _ hK.keep;refine⟨c,r1,?_,g'.hi,λb hb=>(R'.fresh b hb).1,c,b,jh,rfl,?_,by rw[<-R'.base];exact k1,k3,k2⟩
  .have:=R'.below;rwa [R'.base]at this
  .have:g'.Pr=ji w.heap.size old g'.hi:=by
    funext b k
    simp only[Gh.Pr,ji,R'.base,hc]
   rw[this]at r2;exact r2
 |normal=>obtain⟨_,_,_,_,h,_⟩:=he;cases h
 |exit id=>obtain⟨_,_,_,_,h,_⟩:=he;cases h
 |panic chain=>obtain⟨_,_,_,_,_,_,_,_,_,_,_,h,_⟩:=he;cases h
 |goto l=>exact he.elim
 |outgrown=>exact he.elim
def SE (R:Rel P w0 n bu g S H a w) (hp:g.old.c=cc∧g.old.ds=[]∧∀ d,¬ g.old.bx d) {t:Nat} (ht:t < n) (Un:∀ v e es,mk v ≠ .slice (.own e) es) {en:Ending} {w':World} (h:CN (iu g false) w mk en w') :
  ∃b jh c g',en=.returned c/\Rel P w0 n bu g' (aq S t (mk (.val (.map (some b))))) H (a.put (some t) c) w'/\KM cc g'.old b #[] jh:=by
 obtain⟨hb,hi,kY,c,b,jh,rfl,hr,Pd,oP,Vr⟩:=h
 have hle:g.base<=w.heap.size:=by rw[R.base];exact R.below.size
 let g':Gh:={ g with hi:=λb=>if b<w.heap.size then g.hi b else hi b,owner:=λb=>if b<w.heap.size then g.owner b else none }
 have R':Rel P w0 n bu g' S H a w':=R.grow (g':=g') hb rfl rfl rfl (λb hb=>⟨if_pos hb,if_pos hb⟩)
  (λb ja=>by
   have:=hb.size
   exact⟨(if_neg (by omega)).trans (kY b ja),if_neg (by omega)⟩)
 have R2:=R'.put t (mk (.val (.map (some b)))) c ht (.data _ _ (hr.mono (aL.same fun b k _ hp=>by
   rcases hp with⟨h1,h2⟩|⟨h1,h2⟩
   .rcases h2 with h2|⟨h2,_⟩
    .rcases h2 with h2|h2
     .exact .inl h2
     .exact .inr ⟨h2.1,by show k<(if b<w.heap.size then g.hi b else hi b);rw[if_pos h1];exact h2.2⟩
    .cases h2
   .exact .inr ⟨by show g.base<=b;omega,by show k<(if b<w.heap.size then g.hi b else hi b);rw[if_neg (by omega)];exact h2⟩))) (by
  unfold dD;split
  .rename_i e' es' _ heq;exact absurd heq (Un _ _ _)
  .trivial)
 have gE:∀i,g.al i≠some b:=λi ck=>by
  obtain⟨_,_,_,_,_,k3,_⟩:=R.box i b ck;have:=(Array.getElem?_eq_some_iff.1 k3).1;omega
 have hf:ss g' b:=⟨by show g.base<=b;omega,(if_neg (by omega)).trans oP,if_neg (by omega),gE⟩
 have R3:=R2.C6 hf Vr;exact⟨b,jh,c,_,rfl,R3,hp.1,hp.2.1,hp.2.2,aJ _ _ _⟩
def KM.eP{b:Nat}{es es':Array MapEntry}{jh vl:Nat}(hK:KM cc g.old b es jh)(R:Rel P w0 n bu g S H a w){w':World}(ht:ft (λx=>x=b) w w')(ho:w'.heap[b]?=some (.map es' vl)):∃g',Rel P w0 n bu g' S H a w'/\KM cc g'.old b es' vl:=by
 obtain⟨k1,k2,k3,k4,k5⟩:=R.kept b _ hK.keep
 have R1:Rel P w0 n bu { g with old:={ g.old with keep:=aq g.old.keep b none } } S H a w:=by
  refine{ size:=R.size,defers:=R.defers,facts:=R.facts,slot:=R.slot,own:=λt ht hu=>(R.own t ht hu).keep rfl λb hb=>⟨rfl,rfl,hb⟩,box:=?_,iB:=R.iB,ij:=R.ij,inj:=R.inj,base:=R.base,below:=R.below,fresh:=R.fresh,still:=R.still,grown:=R.grown,kept:=?_ }
  .intro i c hi;obtain⟨cs,vs,ty,h1,h2,h3,h4,h5,h6,h7,h8,h9⟩:=R.box i c hi;exact⟨cs,vs,ty,h1,h2,h3,h4,h5,h6,h7,λj hj c_=>(h8 j hj c_).keep rfl λb hb=>⟨rfl,rfl,hb⟩,h9⟩
  .intro c ob h
   have hc:c≠b:=by rintro rfl;simp[aq]at h
   exact R.kept c ob (by simpa[aq,hc]using h)
 have R2:=R1.eP ht (λc hc=>by subst hc;exact⟨k1,k3,k4,k5⟩) (λc hc=>by subst hc;exact aJ _ _ _);have R3:=R2.C6 (b:=b) ⟨k1,k3,k4,k5⟩ ho;exact⟨_,R3,hK.c,hK.ds,hK.bx,aJ _ _ _⟩
end
section
variable{P:Program}{Q:Exit->Act->World->Prop}{ro:Option Nat}{m n:Nat}{ops:Array Oper}
def A4 {α:Type} {a0:Act} {val:α→Nat→Value} (eZ:pW ops n=true) (W:α→Array Bool→World→Prop)
  (f_:∀(y:α)(i:Nat)(o:Oper)(l:Array Bool)(a:Act)(w:World),ops[i]?=some o->l.size=ops.size->l.getD i false=false->AI ops n a0 (val y) l a->W y l w->(∀e∈o.after,Region.binds .any e=true->l.getD e.on false=true)->
   (∃t,o.dst=some t/\∃w',(execOp a.eval o).run P w=.ok (.value (val y t)) w'/\W y (l.setIfInBounds i true) w')\/
   (∃t,o.dst=some t/\∃f args w',(execOp a.eval o).run P w=.ok (.enter f args) w'/\Calls P f args w' (λe fD=>∃y',(∀j o' s,ops[j]?=some o'->o'.dst=some s->l.getD j false=true->val y' s=val y s)/\e=.returned (val y' t)/\W y' (l.setIfInBounds i true) fD)))
  (hQ:∀(y:α)(a:Act)(w:World),AI ops n a0 (val y) (Array.replicate ops.size true) a->W y (Array.replicate ops.size true) w->Q .normal a w):
  ∀(fuel:Nat)(y:α)(l:Array Bool)(a:Act)(w:World),l.size=ops.size->(l.toList.filter (! ·)).length<=fuel->AI ops n a0 (val y) l a->W y l w->wpAnyIn (FR ro) m P .any ops Q fuel l a w:=by
 simp only[pW,Bool.and_eq_true]at eZ;obtain⟨hg,hs⟩:=eZ
 have jN:∀(i:Nat)(o:Oper),ops[i]?=some o->∀e∈o.after,Region.binds .any e=true->e.on<i:=by
  intro i o ho e he hb;have:=List.all_eq_true.1 hs i (List.mem_range.2 (Array.getElem?_eq_some_iff.1 ho).1);simp only[ho,Option.map_some,Option.getD_some,Bool.and_eq_true]at this;have:=Array.all_eq_true'.1 this.1 e he;simpa[hb]using this
 have Gw:∀(i j:Nat)(o o':Oper),ops[i]?=some o->ops[j]?=some o'->i≠j->∀t,o.dst=some t->o'.dst≠o.dst:=by
  intro i j o o' ho iJ nc t ht;have:=List.all_eq_true.1 hs i (List.mem_range.2 (Array.getElem?_eq_some_iff.1 ho).1);simp only[ho,Option.map_some,Option.getD_some,Bool.and_eq_true]at this;have:=List.all_eq_true.1 this.2 j (List.mem_range.2 (Array.getElem?_eq_some_iff.1 iJ).1);simpa[iJ,nc,ht]using this
 have fin:∀(y:α)(l:Array Bool)(a:Act)(w:World),l.size=ops.size->AI ops n a0 (val y) l a->W y l w->Region.ready .any ops l=[]->Q .normal a w:=by
  intro y l a w hl hI hW hr;have:=sV jN hl hr
  have hle:l=Array.replicate ops.size true:=by
   apply Array.ext
   .simpa using hl
   .intro i hi ck;have h1:=this i (by omega);simp only[Array.getD_eq_getD_getElem?,Array.getElem?_eq_getElem hi,Option.getD_some]at h1;simp[h1]
  rw[hle]at hW;refine hQ y a w ⟨hI.size,hI.defers,hI.old,λi o t ho hd _=>hI.Fk i o t ho hd (this i (Array.getElem?_eq_some_iff.1 ho).1)⟩ hW
 intro fuel
 induction fuel with
 |zero=>
  intro y l a w hl hc hI hW
  have hr:Region.ready .any ops l=[]:=by
   rw[List.eq_nil_iff_forall_not_mem];intro i hi;obtain⟨h1,o,ho,_⟩:=mem_ready.1 hi
   have ck:i<l.size:=by rw[hl];exact(Array.getElem?_eq_some_iff.1 ho).1
   have h2:l[i]=false:=by simpa[Array.getD_eq_getD_getElem?,ck]using h1
   have:l[i]∈l.toList.filter (! ·):=List.mem_filter.2 ⟨by simp,by simp[h2]⟩;have:=List.length_pos_of_mem this;omega
  exact⟨hr,fin y l a w hl hI hW hr⟩
 |succ fuel ih=>
  intro y l a w hl hc hI hW;refine⟨λhr=>fin y l a w hl hI hW hr,λi hi=>?_⟩;obtain⟨h1,o,ho,eD⟩:=mem_ready.1 hi;have vW:=(Array.getElem?_eq_some_iff.1 ho).1
  have ck:i<l.size:=by omega
  have h2:l[i]=false:=by simpa[Array.getD_eq_getD_getElem?,ck]using h1
  have iE:=Array.all_eq_true'.1 hg o (Array.mem_of_getElem? ho);simp only[Bool.and_eq_true]at iE;obtain⟨⟨iE,bn⟩,oa⟩:=iE
  have Oj:l.getD i false=false:=by simp[Array.getD_eq_getD_getElem?,ck,h2]
  have Er:=f_ y i o l a w ho hl Oj hI hW eD
  have l4:((l.setIfInBounds i true).toList.filter (! ·)).length<=fuel:=by
   have:(l.setIfInBounds i true).toList=l.toList.set i true:=by simp
   rw[this]
   have hlen:∀(xs:List Bool)(k:Nat)(h:k<xs.length),xs[k]=false->((xs.set k true).filter (! ·)).length+1=(xs.filter (! ·)).length:=by
    intro xs
    induction xs with
    |nil=>intro k h;simp at h
    |cons x xs ih=>
     intro k h hk
     cases k with
     |zero=>
      simp only[List.getElem_cons_zero]at hk;subst hk;simp
     |succ k=>
      simp only[List.getElem_cons_succ]at hk;have:=ih k (by simpa using h) hk;simp only[List.set_cons_succ,List.filter_cons]
      split<;>(try simp only[List.length_cons])<;>omega
   have:=hlen l.toList i (by simpa using ck) (by simpa using h2);omega
  have next:∀y' t,o.dst=some t->(∀j o' s,ops[j]?=some o'->o'.dst=some s->l.getD j false=true->val y' s=val y s)->∀w',W y' (l.setIfInBounds i true) w'->wpAnyIn (FR ro) m P .any ops Q fuel (l.setIfInBounds i true) (a.put o.dst (val y' t)) w':=by
   intro y' t hd Vi w' qK
   have BL:t<n:=by simpa[hd]using oa
   refine ih _ _ _ w' (by simpa using hl) l4 ⟨by simp[Act.put,hd,hI.size],by rw[hd];exact hI.defers,λs hs=>?_,λj o' s iJ oU Bf=>?_⟩ qK
   .have bQ:s≠t:=by rintro rfl;exact hs i o ho hd
    rw[hd,<-hI.old s hs];simp[Act.put,Array.getElem?_setIfInBounds_ne (Ne.symm bQ)]
   .rw[hd]
    by_cases eE:j=i
    .subst eE;rw[ho]at iJ;cases iJ;rw[hd]at oU;cases oU;simp[Act.put,hI.size,BL]
    .have bQ:s≠t:=by
      rintro rfl;exact Gw i j o o' ho iJ (Ne.symm eE) _ hd (oU.trans hd.symm)
     have vS:l.getD j false=true:=by
      have:=Bf;simp only[Array.getD_eq_getD_getElem?,Array.getElem?_setIfInBounds_ne (Ne.symm eE)]at this⊢;exact this
     rw[Vi j o' s iJ oU vS,<-hI.Fk j o' s iJ oU vS];simp[Act.put,Array.getElem?_setIfInBounds_ne (Ne.symm bQ)]
  have hw:Region.wanted o (yielded ops a.tmps)=true:=by
   have:o.guard=none:=by simpa using iE
   simp[Region.wanted,this]
  rcases Er with⟨t,hd,w',hr,qK⟩|⟨t,hd,f,args,w',hr,hC⟩
  rotate_left 1
  .exact B_ ho (by simpa using iE) bn hr hC λe fD ⟨y',Vi,he,qK⟩=>⟨val y' t,he,next y' t hd Vi fD qK⟩
  simp only[wpOpIn,ho,hw,if_true];refine⟨λ_ _=>trivial,?_⟩;rw[Oper.semAt_eq _ _ _ (λc hc=>by rw[hc]at bn;cases bn),hr];exact next y t hd (λ_ _ _ _ _ _=>rfl) w' qK
def BT (hm:P.follows .mixedOrders=true) {α:Type} {id:Nat} {a0:Act} {w0:World} {val:α→Nat→Value} (eZ:pW ops n=true) (aI:a0.tmps.size=n) (W:α→Array Bool→World→Prop) (y0:α) (Nq:W y0 (Array.replicate ops.size false) { w0 with drawn:=w0.drawn+1 })
  (f_:∀(y:α)(i:Nat)(o:Oper)(l:Array Bool)(a:Act)(w:World),ops[i]?=some o->l.size=ops.size->l.getD i false=false->AI ops n a0 (val y) l a->W y l w->(∀e∈o.after,Region.binds .any e=true->l.getD e.on false=true)->
   (∃t,o.dst=some t/\∃w',(execOp a.eval o).run P w=.ok (.value (val y t)) w'/\W y (l.setIfInBounds i true) w')\/
   (∃t,o.dst=some t/\∃f args w',(execOp a.eval o).run P w=.ok (.enter f args) w'/\Calls P f args w' (λe fD=>∃y',(∀j o' s,ops[j]?=some o'->o'.dst=some s->l.getD j false=true->val y' s=val y s)/\e=.returned (val y' t)/\W y' (l.setIfInBounds i true) fD)))
  (hQ:∀(y:α)(a:Act)(w:World),AI ops n a0 (val y) (Array.replicate ops.size true) a->W y (Array.replicate ops.size true) w->Q .normal a w):(Code.region id ops true).wpIn (FR ro) m P Q a0 w0:=by
 refine wpIn_region_any hm (A4 eZ W f_ hQ ops.size y0 (Array.replicate ops.size false) a0 _ (by simp) ?_ ⟨aI,rfl,λ_ _=>rfl,λi o t ho hd h=>?_⟩ Nq)
 .refine Nat.le_trans (List.length_filter_le _ _) (by simp)
 .simp[Array.getElem?_replicate]at h
  split at h<;>cases h
end
end Go.AL
namespace Go.AL
section
variable{P:Program}{GI:World->Prop}{n:Nat}{ro:Option Nat}{old:Old}{S:af}{H:ah}{Q:fH}
def SW.last (hG:aw GI) (hm:P.follows .mixedOrders=true) {x:Code} (hc:jV x=true) {ac:ae} (jN:de P n x=ac) (bI:∀ d∈ac.names,¬ old.bx d) (K:af→ah→Prop) (h:bD P GI ac (aB K) S H)
  (hy:∀S' H',K S' H'->Q .normal old S' H'):SW P GI n ro x Q old S H:=by
 subst jN;intro w0 g a w m bP ho R;refine wpIn_mono (ia hG bP hm x (aB K) g S H a w hc bI ho R h) ?_;intro e a' w' hq
 cases e with
 |normal=>
  obtain⟨g',S',H',h1,h2,h3⟩:=hq;exact⟨g',S',H',h2,by rw[h1];exact hy S' H' h3⟩
 |exit id=>obtain⟨_,_,_,_,_,h⟩:=hq;exact h.elim
 |ret=>obtain⟨_,_,_,_,_,h⟩:=hq;exact h.elim
 |panic ch=>obtain⟨_,_,_,_,_,_,_,_,_,_,h⟩:=hq;exact h.elim
 |goto l=>exact hq.elim
 |outgrown=>exact hq.elim
end
end Go.AL
