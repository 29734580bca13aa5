/- A part of the proof. -/
import Derived.Test.YtajdcjkalbbogaaGreatDoorZ1
import Derived.Test.YtajdcjkalbbogaaGreatDoorProg
set_option maxRecDepth 100000
set_option maxHeartbeats 8000000
set_option linter.all false
namespace Go.AL
open Go.RowKit
inductive ah where
 |skip
 |ops (l:List db)
 |dT (l:List db)
 |seq (x y:ah)
 |cond (c:dU) (x y:ah)
 |block (id:Nat) (c:ah)
 |loop (c:ah)
 |exit (id:Nat)
 |ret
 |bad
def ez(P:Program)(n:Nat):Code->ah
 |.skip=>.skip
 |.region _ ops draw=>
  if draw then(if M7 P n ops then .dT (cJ P n true ops)else .bad)
  else(if(cJ P n false ops).all (·.ok n)then .ops (cJ P n false ops)else .bad)
 |.seq x y=>.seq (ez P n x) (ez P n y)
 |.cond c x y=>match ep n c with
  |some c=>.cond c (ez P n x) (ez P n y)
  |none=>.bad
 |.block id c=>.block id (ez P n c)
 |.loop c=>.loop (ez P n c)
 |.exit id=>.exit id
 |.ret=>.ret
 |_=>.bad
def bD(K:au->aD->Prop)(Q:eh->au->aD->Prop):eh->au->aD->Prop
 |.normal,S,H=>K S H
 |.exit id,S,H=>Q (.exit id) S H
 |.ret,S,H=>Q .ret S H
 |.panic v,S,H=>Q (.panic v) S H
def bq(id:Nat)(Q:eh->au->aD->Prop):eh->au->aD->Prop
 |.normal,S,H=>Q .normal S H
 |.exit j,S,H=>if j=id then Q .normal S H else Q (.exit j) S H
 |.ret,S,H=>Q .ret S H
 |.panic v,S,H=>Q (.panic v) S H
def ah.names:ah->List Nat
 |.ops l=>l.flatMap db.j5
 |.dT l=>l.flatMap db.j5
 |.seq x y=>x.names++y.names
 |.cond _ x y=>x.names++y.names
 |.block _ c=>c.names
 |.loop c=>c.names
 |_=>[]
def cW(P:Program)(GI:World->Prop):ah->(eh->au->aD->Prop)->au->aD->Prop
 |.skip,Q,S,H=>Q .normal S H
 |.ops l,Q,S,H=>cQ P GI l (Q .normal) (λv=>Q (.panic v) S H) S H
 |.dT l,Q,S,H=>dT P GI l (Q .normal) (bZ l S) (bI l H)
 |.seq x y,Q,S,H=>cW P GI x (bD (cW P GI y Q) Q) S H
 |.cond c x y,Q,S,H=>match ev S c with
  |.bool true=>cW P GI x Q S H
  |.bool false=>cW P GI y Q S H
  |.mW=>cW P GI x Q S H/\cW P GI y Q S H
  |_=>False
 |.block id c,Q,S,H=>cW P GI c (bq id Q) S H
 |.loop c,Q,S,H=>∃(I:au->aD->Prop)(μ:au->aD->Nat),I S H/\∀S H,I S H->cW P GI c (bD (λS' H'=>I S' H'/\μ S' H'<μ S H) Q) S H
 |.exit id,Q,S,H=>Q (.exit id) S H
 |.ret,Q,S,H=>Q .ret S H
 |.bad,_,_,_=>False
section
variable{P:Program}{GI:World->Prop}{w0:World}{n:Nat}{g:Gh}{S:au}{H:aD}{a:Act}{w:World}
def IU {c:Code} {Q:Exit→Act→World→Prop} (J:Nat→Act→World→Prop)
  (round:∀m a w,J m a w->c.wp P (Exit.then (λa' w'=>∃m',m'<m/\J m' a' w') Q) a w) {m:Nat} (h0:J m a w):(Code.loop c).wp P Q a w:=by
 intro b k cs
 have key:∀m a w,J m a w->∃e a' w',Q e a' w'/\Arrives P (lone (b.at a (.code c::.inLoop c::k)) cs w) b k cs e a' w':=by
  intro m
  induction m using Nat.strongRecOn with
  |_ m ih=>
   intro a w hJ;obtain⟨e,j3,mA,hq,iW⟩:=round m a w hJ b (.inLoop c::k) cs
   cases e with
   |normal=>
    obtain⟨m',aN,hJ'⟩:=hq;obtain⟨Fh,EG,DZ,yO,rH⟩:=ih m' aN j3 mA hJ';exact⟨Fh,EG,DZ,yO,.of_steps (Steps.trans iW (.one step_inLoop)) rH⟩
   |exit id=>exact⟨_,j3,mA,hq,.pass (x:=.inLoop c) rfl (λ_ _=>.inl ah7) iW⟩
   |goto l=>exact⟨_,j3,mA,hq,.pass (x:=.inLoop c) rfl (λ_ _=>.inl ah7) iW⟩
   |ret=>exact⟨_,j3,mA,hq,.pass (x:=.inLoop c) rfl (λ_ _=>.inl ah7) iW⟩
   |panic ch=>exact⟨_,j3,mA,hq,.pass (x:=.inLoop c) rfl (λ_ _=>.inl ah7) iW⟩
   |outgrown=>exact⟨_,j3,mA,hq,.pass (x:=.inLoop c) rfl (λ_ _=>.inl ah7) iW⟩
 obtain⟨e,a',w',hq,iW⟩:=key _ _ _ h0;exact⟨e,a',w',hq,.of_steps (.one step_loop) iW⟩
def nI (hG:aQ GI) (dI:GI w0) (hm:P.follows .mixedOrders=true) {old:Old} :
  ∀(c:Code)(Q:eh->au->aD->Prop)(g:Gh)(S:au)(H:aD)(a:Act)(w:World),(∀d∈(ez P n c).names,¬old.bx d)->g.old=old->Rel P w0 n dh g S H a w->cW P GI (ez P n c) Q S H->c.wp P (QQ P w0 n old Q) a w
 |.skip,Q,g,S,H,a,w,du,ho,R,h=>wp_skip ⟨g,S,H,ho,R,h⟩
 |.region id ops draw,Q,g,S,H,a,w,du,ho,R,h=>by
  simp only[ez]at h du
  cases draw with
  |true=>
   simp only[aeH]at h du;split at h
   case isFalse=>exact h.elim
   rename_i df;rw[if_pos df]at du;exact Li hG dI hm df (λo lz d hd=>du d (aeQ.2 ⟨o,lz,hd⟩)) ho R h
  |false=>
   simp only[aek,aeA]at h du;split at h
   case isFalse=>exact h.elim
   rename_i df;rw[if_pos df]at du;exact Om hG dI df (λo lz d hd=>du d (aeQ.2 ⟨o,lz,hd⟩)) ho R h
 |.seq x y,Q,g,S,H,a,w,du,ho,R,h=>by
  refine wp_seq (ahz (nI hG dI hm x _ g S H a w (λd hd=>du d (by simp[ez,ah.names,hd])) ho R h) ?_);intro e a' w' he
  cases e with
  |normal=>
   obtain⟨g',S',H',h1,h2,h3⟩:=he;exact nI hG dI hm y Q g' S' H' a' w' (λd hd=>du d (by simp[ez,ah.names,hd])) h1 h2 h3
  |exit id=>exact he
  |ret=>exact he
  |panic ch=>exact he
  |goto l=>exact he.elim
  |outgrown=>exact he.elim
 |.cond c x y,Q,g,S,H,a,w,du,ho,R,h=>by
  simp only[ez]at h;split at h
  case h_2=>exact h.elim
  rename_i c' hc;simp only[ez,hc,ah.names,aeg]at du;simp only[cW]at h;have hv:=R.ev hc (λ_ _=>id);split at h
  .rename_i hb;rw[hb]at hv
   have:a.eval c=.bool true:=by
    generalize a.eval c=v at hv;cases hv;rename_i hv;cases hv;rfl
   exact wp_cond this (nI hG dI hm x Q g S H a w (λd hd=>du d (.inl hd)) ho R h)
  .rename_i hb;rw[hb]at hv
   have:a.eval c=.bool false:=by
    generalize a.eval c=v at hv;cases hv;rename_i hv;cases hv;rfl
   exact wp_cond this (nI hG dI hm y Q g S H a w (λd hd=>du d (.inr hd)) ho R h)
  .rename_i hb;rw[hb]at hv
   have:∃b,a.eval c=.bool b:=by
    generalize a.eval c=v at hv;cases hv;rename_i hv;cases hv;exact⟨_,rfl⟩
   obtain⟨b,hb⟩:=this
   cases b with
   |true=>exact wp_cond hb (nI hG dI hm x Q g S H a w (λd hd=>du d (.inl hd)) ho R h.1)
   |false=>exact wp_cond hb (nI hG dI hm y Q g S H a w (λd hd=>du d (.inr hd)) ho R h.2)
  .exact h.elim
 |.block id c,Q,g,S,H,a,w,du,ho,R,h=>by
  refine wp_block (ahz (nI hG dI hm c _ g S H a w (λd hd=>du d (by simpa[ez,ah.names]using hd)) ho R h) ?_);intro e a' w' he
  cases e with
  |normal=>exact he
  |exit j=>
   obtain⟨g',S',H',h1,h2,h3⟩:=he;simp only[bq]at h3;simp only[Exit.inBlock];split
   .rename_i hj;rw[if_pos hj]at h3;exact⟨g',S',H',h1,h2,h3⟩
   .rename_i hj;rw[if_neg hj]at h3;exact⟨g',S',H',h1,h2,h3⟩
  |ret=>exact he
  |panic ch=>exact he
  |goto l=>exact he.elim
  |outgrown=>exact he.elim
 |.loop c,Q,g,S,H,a,w,du,ho,R,h=>by
  obtain⟨I,μ,h0,hr⟩:=h;refine IU (λm a w=>∃g S H,g.old=old/\Rel P w0 n dh g S H a w/\I S H/\μ S H=m) ?_ (m:=μ S H) ⟨g,S,H,ho,R,h0,rfl⟩;rintro m a' w' ⟨g',S',H',h1,h2,h3,rfl⟩;refine ahz (nI hG dI hm c _ g' S' H' a' w' (λd hd=>du d (by simpa[ez,ah.names]using hd)) h1 h2 (hr S' H' h3)) ?_;intro e a'' j0 he
  cases e with
  |normal=>
   obtain⟨g2,S2,H2,k1,k2,k3,k4⟩:=he;exact⟨_,k4,g2,S2,H2,k1,k2,k3,rfl⟩
  |exit id=>exact he
  |ret=>exact he
  |panic ch=>exact he
  |goto l=>exact he.elim
  |outgrown=>exact he.elim
 |.exit id,Q,g,S,H,a,w,du,ho,R,h=>wp_exit ⟨g,S,H,ho,R,h⟩
 |.ret,Q,g,S,H,a,w,du,ho,R,h=>wp_ret ⟨g,S,H,ho,R,h⟩
 |.rangeFunc ..,_,_,_,_,_,_,_,_,_,h=>h.elim
 |.scope _,_,_,_,_,_,_,_,_,_,h=>h.elim
 |.label _,_,_,_,_,_,_,_,_,_,h=>h.elim
 |.goto _,_,_,_,_,_,_,_,_,_,h=>h.elim
 |.refuse _,_,_,_,_,_,_,_,_,_,h=>h.elim
def AV.out:AV->AV
 |.agg cs=>.agg (cs.map dE)
 |v=>v
def bH(P:Program)(n:Nat)(S:au)(H:aD):ResultVar->Option AV
 |.tmp t=>if t<n/\(S t).aX=true then some (S t)else none
 |.cell a t=>if a < n then
   match S a with
   |.box i off=>match H i,P.info? t,P.underlying t with
    |some cs,some it,some d=>bu (ef d) it.size (cs.drop off)
    |_,_,_=>none
   |_=>none
  else none
def bG(P:Program)(n:Nat)(S:au)(H:aD):List ResultVar->Option (List AV)
 |[]=>some []
 |r::rs=>match bH P n S H r,bG P n S H rs with
  |some v,some vs=>some (v::vs)
  |_,_=>none
def bQ(P:Program)(n:Nat)(rs:List ResultVar)(S:au)(H:aD):Option AV:=
 match bG P n S H rs with
 |some [v]=>some v.out
 |some vs=>some (.ea (vs.map AV.vw))
 |none=>none
def Mg(a:Act):ResultVar->Sem Value
 |.tmp t=>pure (a.tmps.getD t undef)
 |.cell x t=>do loadVar t (<-asAddr (a.tmps.getD x undef))
def Ie (R:Rel P w0 n dh g S H a w) {r:ResultVar} {v:AV} (h:bH P n S H r=some v) :
  ∃c,(Mg a r).run P w=.ok c w/\RD g.Pr w v c/\zS P g.base g.hi w v c:=by
 cases r with
 |tmp t=>
  simp only[bH]at h
  split at h<;>cases h
  rename_i hc;refine⟨a.tmps.getD t undef,rfl,(R.slot t hc.1 id).eP hc.2,?_⟩;have ho:=R.own t hc.1 id;generalize S t=v at ho;generalize a.tmps.getD t undef=c at ho
  cases v<;>try trivial
  rename_i oo es
  cases oo with
  |view=>trivial
  |nil=>trivial
  |own e=>
   obtain⟨i,xs,b,h1,h2,h3,h4,h5⟩:=ho;exact⟨i,xs,b,h1,h2,h3,h5⟩
 |cell x t=>
  simp only[bH]at h;split at h
  case isFalse=>cases h
  rename_i hx;have hs:=R.slot x hx id;generalize S x=q at h hs;generalize nu:a.tmps.getD x undef=cx at hs
  cases hs<;>(try cases h;done)
  case data hh=>cases hh<;>cases h
  rename_i i off b j9;obtain⟨cs,vs,Dc,k1,k2,k3,k4,k5,k6,k7,k8,k9⟩:=R.box i b j9;simp only[k1]at h;split at h
  case h_2=>cases h
  rename_i jX it d tZ hit hd;cases tZ
  obtain ⟨c,h1,h2,h3⟩:=tN (Pr:=g.Pr) (al:=g.al) (P:=P) (w:=w) (b:=b) (off:=off) hit hd (vs:=fun k=>vs.getD (off+k) undef) (fun k hk=>by
    simp only[aeM]at hk
    have:off+k<vs.size:=zo
    simp[World.cell?,k3,this]) (λk hk=>by
    simp only[aeM]at hk;simp only[afw]
    exact k9 (off+k) zo) (λk hk=>by
    simp only[aeM]at hk;simp only[afw];have hh:=k7 (off+k) zo zo
    have:off+k<vs.size:=zo
    simpa[this]using hh) h
  refine⟨c,by simp only[Mg,nu,asAddr,ael,Sem.run_pure,Result.andThen_ok,h1],h2,?_⟩;rw[<-h3]
  cases v<;>try trivial
  rename_i oo es
  cases oo<;>trivial
def uU (R:Rel P w0 n dh g S H a w):∀ {rs:List ResultVar} {vs:List AV},bG P n S H rs=some vs →
  ∃cs:List Value,(rs.mapM (Mg a)).run P w=Result.ok cs w/\vs.length=cs.length/\
   ∀i (h:i<vs.length)(h':i<cs.length),RD g.Pr w vs[i] cs[i]/\zS P g.base g.hi w vs[i] cs[i]
 |[],vs,h=>by cases h;exact⟨[],ah7,rfl,λi h=>by simp at h⟩
 |r::rs,vs,h=>by
  simp only[bG]at h
  split at h<;>cases h
  rename_i v mh h1 h2;obtain⟨c,r1,r2,r3⟩:=Ie R h1;obtain⟨cs,q1,q2,q3⟩:=uU R h2;refine⟨c::cs,?_,by simp[q2],λi hi eJ=>?_⟩
  .simp[List.mapM_cons,r1,q1]
  .cases i with
   |zero=>exact⟨r2,r3⟩
   |succ i=>exact q3 i (by simpa using hi) (by simpa using eJ)
def wi (R:Rel P w0 n dh g S H a w) {fn:Func} {v:AV} (h:bQ P n fn.results.toList S H=some v) :
  ∃c,(results fn a.tmps).run P w=.ok c w/\RD g.Pr w v c/\zS P g.base g.hi w v c:=by
 unfold bQ at h
 have eA:∀ cs:List Value,(fn.results.toList.mapM (Mg a)).run P w=Result.ok cs w →
   (results fn a.tmps).run P w=.ok (if h:cs.toArray.size=1 then cs.toArray[0]else .tuple cs.toArray) w:=by
  intro cs tZ;unfold results;rw[Array.mapM_eq_mapM_toList]
  have e:(fn.results.toList.mapM λr=>match r with|.tmp t=>(pure (a.tmps.getD t undef):Sem Value)|.cell x t=>do loadVar t (<-asAddr (a.tmps.getD x undef)))=fn.results.toList.mapM (Mg a):=by
   congr 1
  simp only[ael,Sem.run_map]
  erw[e]
  rw[tZ]
  rfl
 split at h
 .rename_i v' hv;cases h;obtain⟨cs,q1,q2,q3⟩:=uU R hv
  match cs,q2 with
  |[c],_=>
   have h1:=(q3 0 ah7 ah7).1;have h2:=(q3 0 ah7 ah7).2;simp only[List.getElem_cons_zero]at h1 h2;refine⟨c,by rw[eA _ q1];rfl,?_,?_⟩
   .cases v'<;>first|exact h1|exact h1.vw
   .cases v'<;>first|exact h2|trivial
 .rename_i vs dR uf;cases h;obtain⟨cs,q1,q2,q3⟩:=uU R uf;refine⟨.tuple cs.toArray,?_,.ea _ _ (by simp[q2]) (λi h h'=>?_),trivial⟩
  .rw[eA _ q1,dif_neg];intro hl
   have:vs.length=1:=by rw[q2];simpa using hl
   match vs,this with
   |[v],_=>exact dR v rfl
  .simp only[aef]at h;simp only[aep,List.getElem_toArray];exact(q3 i h (by simpa using h')).1.vw
 .cases h
def post(P:Program)(n:Nat)(rs:List ResultVar)(out:jr):eh->au->aD->Prop
 |.normal,S,H|.ret,S,H=>∃v,bQ P n rs S H=some v/\out=.ret v
 |.panic v,_,_=>out=.panic v
 |_,_,_=>False
def start(args:List AV):au:=λt=>(args.getD t a_).bC
def AC.T4 (hG:aQ GI) (hm:P.follows .mixedOrders=true) {f:Nat} {fn:Func} {c:Code} {args:List AV} {out:jr} (hf:P.funcs[f]? = some fn) (hb:fn.body=some c) (hn:fn.ntmps=n) (hl:args.length≤n) {ac:ah} (hc:ez P n c=ac)
  (h:cW P GI ac (post P n fn.results.toList out) (start args) (λ_=>none)):AC P GI f args out:=by
 intro w old dn ib hlen hr;refine agi hf hb ?_;subst hc
 let g:Gh:={ base:=w.heap.size,old:=Old.plain old w,al:=λ_=>none,hi:=λ_=>0,owner:=λ_=>none }
 have cM:(dn++Array.replicate (fn.ntmps-dn.size) undef).size=n:=by simp;omega
 have R:Rel P w n dh g (start args) (λ_=>none) { tmps:=dn++Array.replicate (fn.ntmps-dn.size) undef,defers:=[] } w:=by
  refine{ size:=cM,defers:=rfl,facts:=λ_ h=>(by cases h),slot:=?_,own:=?_,box:=?_,kF:=?_,kE:=?_,inj:=?_,base:=rfl,below:=afb _ _,fresh:=λb _=>⟨rfl,rfl⟩,still:=⟨λ_ _ h=>h.elim,λ_ h=>h.elim⟩,grown:=aed _,kept:=λ_ _ h=>(by cases h) }
  .intro t ht _
   by_cases N_:t<args.length
   .have h1:start args t=args[t].bC:=by simp[start,N_]
    have h2:(dn++Array.replicate (fn.ntmps-dn.size) undef).getD t undef=dn[t]' zo:=by
     have:t<dn.size:=zo
     simp[af_,this]
    rw[h1,h2];refine((hr t N_ zo).mono (cC.same λb k aN hp=>.inl ⟨aN,hp⟩) (λ_ _ h=>h)).bC
   .have h1:start args t=a_:=by simp[start,N_,a_,AV.bC]
    have h2:(dn++Array.replicate (fn.ntmps-dn.size) undef).getD t undef=undef:=by
     have:¬t<dn.size:=zo
     simp only[aex,af_,this,aeA]
     by_cases hh:t-dn.size<fn.ntmps-dn.size
     .simp[hh]
     .simp[hh]
    rw[h1,h2];exact .data _ _ (vD _ _)
  .intro t ht _;exact iO _ _ _
  .intro i b h;cases h
  .intro i cs h;cases h
  .intro i h;rfl
  .intro i j b h;cases h
 refine ahz (nI hG ib hm c _ g _ _ _ w (λ_ _ h=>h) rfl R h) ?_;intro e a' w' he
 have fin:(∃ g' S H,g'.old=Old.plain old w∧Rel P w n dh g' S H a' w'∧∃ v,bQ P n fn.results.toList S H=some v∧out = .ret v) →
   a'.defers=[]/\∃v,(results fn a'.tmps).run P w'=.ok v w'/\Ends P old w out (.returned v) w':=by
  rintro⟨g',S,H,e1,R',v,hv,rfl⟩;obtain⟨c,r1,r2,r3⟩:=wi R' hv;refine⟨by rw[R'.defers,e1];rfl,c,r1,?_,g'.hi,λb hb=>(R'.fresh b hb).1,c,rfl,?_,?_⟩
  .have:=R'.below;rwa [R'.base]at this
  .have:g'.Pr=qG w.heap.size old g'.hi:=by
    funext b k
    simp only[Gh.Pr,qG,R'.base,e1,Old.plain]
   rw[this]at r2;exact .data _ _ r2
  .rwa [R'.base]at r3
 cases e with
 |normal=>exact fin he
 |ret=>exact fin he
 |exit id=>obtain⟨_,_,_,_,_,h⟩:=he;exact h.elim
 |panic chain=>
  obtain⟨hd,v,c,hi,S,H,h1,h2,h3,h4,h5⟩:=he;subst h1;cases(show out=.panic v from h5);exact⟨hd,h2,hi,h3,c,rfl,h4⟩
 |goto l=>exact he.elim
 |outgrown=>exact he.elim
end
abbrev SL:=List AV
abbrev HL:=List (Option (List AV))
def gS(s:SL):au:=λt=>s.getD t a_
def gH(h:HL):aD:=λt=>h.getD t none
inductive Res where
 |go (s:SL) (h:HL)|panic (v:AV)
def Res.on(K:au->aD->Prop)(Qp:AV->Prop):Res->Prop
 |.go s h=>K (gS s) (gH h)
 |.panic v=>Qp v
abbrev D0:=Nat->List AV->Option jr
def Uc(P:Program)(call:D0)(f:Nat)(args:List AV)(bx:Bool):Option jr:=
 if eU P f then match call f args with
  |some out=>if bx&&!out.xR then none else some out
  |none=>none
 else none
section
variable{P:Program}{GI:World->Prop}{call:D0}(nq:∀f args out,call f args=some out->AC P GI f args out)
include nq
end
def FR(ro:Option Nat):Fence:={ Fence.wide with round:=ro }
def jD{ro:Option Nat}{m:Nat}{P:Program}{f:FuncId}{args:Array Value}{w:World}{R:Ending->World->Prop}:CallsIn (FR ro) m P f args w R↔Calls P f args w R:=
 callsIn_wide (n:=m)
def OH{ro:Option Nat}{m:Nat}{P:Program}{row:String}{args:Array Value}{w:World}{R:Value->World->Prop}(h:Rows P row args w R):RowsIn (FR ro) m P row args w R:=
 λc cs _=>let⟨v,w',r,s⟩:=h c cs;⟨v,w',r,stepsIn_wide.2 s⟩
def gl{m:Nat}{P:Program}{c:Code}{Q:Exit->Act->World->Prop}{a:Act}{w:World}:c.wpIn (FR none) m P Q a w↔c.wp P Q a w:=wpIn_wide (n:=m)
def fk:Op->Bool
 |.defer _=>false
 |_=>true
section
variable{P:Program}{Q:Exit->Act->World->Prop}{ro:Option Nat}{m:Nat}
def FK{o:Oper}{a:Act}{w:World}{K:Act->World->Prop}(eK:fk o.op=true)(h:o.wp P a w K Q):o.wpIn (FR ro) m P a w K Q:=by
 refine⟨λ_ _=>trivial,?_⟩;unfold Oper.wp at h;rw[afE _ _ _ (λc hc=>by rw[hc]at eK;cases eK)]
 generalize(execOp a.eval o).run P w=r at*
 have hd:(FR ro).depth.isSome=true->1<=m:=λh=>by simp[FR,Fence.wide]at h
 cases r with
 |ok x w'=>
  cases x<;>simp only[Oper.upon,Oper.uponIn]at h⊢<;>first
   |exact h
   |exact⟨hd,jD.2 h⟩
   |exact⟨hd,OH h⟩
 |halt x w'=>cases x<;>simp only[Oper.upon,Oper.uponIn]at h⊢<;>exact h
def rq{ops:Array Oper}(eK:ops.all (λo=>fk o.op)=true)(hQ:¬LetsOut Q):∀(l:List Nat)(a:Act)(w:World),wpOps P ops Q l a w->wpOpsIn (FR ro) m P ops Q l a w
 |[],_,_,h=>h
 |i::l,a,w,h=>by
  simp only[wpOps,wpOpsIn]at h⊢
  cases ho:ops[i]? with
  |none=>simp only[ho]at h⊢;exact rq eK hQ l a w h
  |some o=>
   simp only[ho]at h⊢
   have hc:fk o.op=true:=by
    have:=afn.1 eK o (afg ho);exact this
   split
   .rename_i hw;simp only[hw,aeH]at h
    rcases h with h|⟨_,h⟩
    .exact FK hc (Oper.wp_mono (λa w hh=>rq eK hQ l a w hh) h)
    .exact absurd h hQ
   .rename_i hw;simp only[hw,aek,aeA]at h;exact⟨λ_ _=>trivial,rq eK hQ l _ w h⟩
def Uq{ops:Array Oper}(eK:ops.all (λo=>fk o.op)=true)(hQ:¬LetsOut Q){i:Nat}{K:Act->World->Prop}{a:Act}{w:World}(h:wpOp P ops Q i K a w):wpOpIn (FR ro) m P ops Q i K a w:=by
 unfold wpOp at h;unfold wpOpIn
 cases ho:ops[i]? with
 |none=>simp only[ho]at h⊢;exact h
 |some o=>
  simp only[ho]at h⊢
  have hc:fk o.op=true:=by
   have:=afn.1 eK o (afg ho);exact this
  split
  .rename_i hw;simp only[hw,aeH]at h
   rcases h with h|⟨_,h⟩
   .exact FK hc h
   .exact absurd h hQ
  .rename_i hw;simp only[hw,aek,aeA]at h;exact⟨λ_ _=>trivial,h⟩
def wY{ops:Array Oper}{md:Region.Mode}(eK:ops.all (λo=>fk o.op)=true)(hQ:¬LetsOut Q):∀(fuel:Nat)(listed:Array Bool)(a:Act)(w:World),wpAny P md ops Q fuel listed a w->wpAnyIn (FR ro) m P md ops Q fuel listed a w
 |0,_,_,_,h=>h
 |fuel+1,listed,a,w,h=>⟨h.1,λi hi=>wpOpIn_mono (λa w hh=>wY eK hQ fuel _ a w hh) (Uq eK hQ (h.2 i hi))⟩
def lX:Code->Bool
 |.region _ ops _=>ops.all λo=>fk o.op
 |.seq x y|.cond _ x y=>lX x&&lX y
 |.block _ c|.loop c=>lX c
 |_=>true
end
section
variable{P:Program}{GI:World->Prop}{w0:World}{n:Nat}{g:Gh}{S:au}{H:aD}{a:Act}{w:World}{ro:Option Nat}{m:Nat}
def rr{old:Old}{Q:eh->au->aD->Prop}:¬LetsOut (QQ P w0 n old Q):=λ⟨_,_,h⟩=>h
def sx (hG:aQ GI) (dI:GI w0) {old:Old} {ops:Array Oper} {Q:eh→au→aD→Prop} (eK:ops.all (fun o=>fk o.op)=true) (df:(cJ P n false ops).all (·.ok n)=true) (du:∀ o∈cJ P n false ops,∀ d∈o.j5,¬ old.bx d) (ho:g.old=old) (R:Rel P w0 n dh g S H a w)
  (h:cQ P GI (cJ P n false ops) (Q .normal) (λv=>Q (.panic v) S H) S H):wpOpsIn (FR ro) m P ops (QQ P w0 n old Q) (List.range ops.size) a w:=by
 refine rq eK rr _ _ _ (s_ hG dI (S0:=S) (H0:=H) (List.range ops.size) ops.toList g S H a w ?_ (λo lz=>?_) (λo lz=>du _ (af4 lz)) ho R h)
 .apply afA;intro i;simp only[aeK]
  by_cases hi:i<ops.size
  .simp[hi]
  .simp[hi]
 .simp only[cJ,afP,aeh,Function.comp]at df;exact df o lz
def IS (hG:aQ GI) (dI:GI w0) {old:Old} {id:Nat} {ops:Array Oper} {Q:eh→au→aD→Prop} (eK:ops.all (fun o=>fk o.op)=true) (df:(cJ P n false ops).all (·.ok n)=true) (du:∀ o∈cJ P n false ops,∀ d∈o.j5,¬ old.bx d) (ho:g.old=old) (R:Rel P w0 n dh g S H a w)
  (h:cQ P GI (cJ P n false ops) (Q .normal) (λv=>Q (.panic v) S H) S H):(Code.region id ops false).wpIn (FR ro) m P (QQ P w0 n old Q) a w:=
 aeG (sx hG dI eK df du ho R h)
def mQ (hG:aQ GI) (dI:GI w0) (hm:P.follows .mixedOrders=true) {old:Old} {ops:Array Oper} {Q:eh→au→aD→Prop} (eK:ops.all (fun o=>fk o.op)=true) (df:M7 P n ops=true) (du:∀ o∈cJ P n true ops,∀ d∈o.j5,¬ old.bx d) (ho:g.old=old) (R:Rel P w0 n dh g S H a w)
  (h:dT P GI (cJ P n true ops) (Q .normal) (bZ (cJ P n true ops) S) (bI (cJ P n true ops) H)):wpAnyIn (FR ro) m P .any ops (QQ P w0 n old Q) ops.size (Array.replicate ops.size false) a { w with drawn:=w.drawn+1 }:=by
 simp only[M7,aeb,aej]at df;obtain⟨⟨⟨h1,h2⟩,h3⟩,h4⟩:=df;refine wY eK rr _ _ _ _ ?_;have R0:Rel P w0 n dh g S H a { w with drawn:=w.drawn+1 }:=R.kG ((afb _ w).drew)
 obtain⟨g',e1,e2,R'⟩:=Rel.bZ (cJ P n true ops) R0 h3 (λd hd=>by
  simp only[eo,af7,aeo]at hd;obtain⟨o,lz,⟨d',z⟩,k1,rfl⟩:=hd;rw[ho];refine du o lz d' ?_;unfold aI at k1;split at k1
  .rename_i h1 h2;cases k1;simp[db.j5,h1,h2,fg.j5]
  .cases k1)
 have hU:UU P n ops (Array.replicate ops.size false)=(λt=>dh t\/t∈eo (cJ P n true ops)):=by
  funext t
  simp only[UU,dh,ahC,agV,eo,af7,aeo]
  constructor
  .rintro⟨j,o,z,k1,k2,k3⟩;rw[<-gw]at k1;exact⟨o,afk k1,(t,z),k2,rfl⟩
  .rintro⟨o,ho,⟨d,z⟩,k1,rfl⟩;obtain⟨j,hj⟩:=ahY ho;refine⟨j,o,z,by rw[<-gw];exact hj,k1,?_⟩
   have:j<ops.size:=by
    have:=(aey.1 hj).1;simpa[cJ]using this
   simp[this]
 refine H_ hG dI h2 (λo lz=>?_) ops.size (Array.replicate ops.size false) g' _ _ a _ ah7 (e2.trans ho) (by rw[hU];exact R') (λj o d z k1 k2 k3=>?_) ?_
 .simp only[cJ,afP,aeh,Function.comp]at h1;exact h1 o (by simpa using lz)
 .rw[<-gw]at k1;exact AO _ S H h3 o (afk k1) d z k2
 .have:=A_ (QA:=Q .normal) ops.toList 0 (Array.replicate ops.size false) _ _ ah7 (by simpa using h4) h;simpa using this
def Gf (hG:aQ GI) (dI:GI w0) (hm:P.follows .mixedOrders=true) {old:Old} {id:Nat} {ops:Array Oper} {Q:eh→au→aD→Prop} (eK:ops.all (fun o=>fk o.op)=true) (df:M7 P n ops=true) (du:∀ o∈cJ P n true ops,∀ d∈o.j5,¬ old.bx d) (ho:g.old=old) (R:Rel P w0 n dh g S H a w)
  (h:dT P GI (cJ P n true ops) (Q .normal) (bZ (cJ P n true ops) S) (bI (cJ P n true ops) H)):(Code.region id ops true).wpIn (FR ro) m P (QQ P w0 n old Q) a w:=
 afN hm (mQ hG dI hm eK df du ho R h)
abbrev fG:=eh->Old->au->aD->Prop
def QS(P:Program)(w0:World)(n:Nat)(Q:fG):Exit->Act->World->Prop
 |.normal,a,w=>∃g S H,Rel P w0 n dh g S H a w/\Q .normal g.old S H
 |.exit id,a,w=>∃g S H,Rel P w0 n dh g S H a w/\Q (.exit id) g.old S H
 |.ret,a,w=>∃g S H,Rel P w0 n dh g S H a w/\Q .ret g.old S H
 |.panic chain,a,w=>∃(o:Old)(v:AV)(c:Value)(hi:Nat->Nat)(S:au)(H:aD),a.defers=o.ds/\chain=[{ v:=c,recovered:=false }]/\Below w0.heap.size w0 w/\(∀b,w.heap.size<=b->hi b=0)/\RD (qG w0.heap.size o.c hi) w v c/\Q (.panic v) o S H
 |_,_,_=>False
def SW(P:Program)(GI:World->Prop)(n:Nat)(ro:Option Nat)(c:Code)(Q:fG)(old:Old)(S:au)(H:aD):Prop:=
 ∀(w0:World)(g:Gh)(a:Act)(w:World)(m:Nat),GI w0->g.old=old->Rel P w0 n dh g S H a w->c.wpIn (FR ro) m P (QS P w0 n Q) a w
def thenS(K:Old->au->aD->Prop)(Q:fG):fG
 |.normal=>K
 |e=>Q e
def nK(id:Nat)(Q:fG):fG
 |.exit j=>if j=id then Q .normal else Q (.exit j)
 |e=>Q e
variable{old:Old}{Q Q':fG}
def QS.mono(h:∀e o S H,Q e o S H->Q' e o S H){e:Exit}{a:Act}{w:World}(hq:QS P w0 n Q e a w):QS P w0 n Q' e a w:=by
 cases e<;>simp only[QS]at hq⊢
 case normal=>obtain⟨g,S,H,h2,h3⟩:=hq;exact⟨g,S,H,h2,h _ _ _ _ h3⟩
 case exit=>obtain⟨g,S,H,h2,h3⟩:=hq;exact⟨g,S,H,h2,h _ _ _ _ h3⟩
 case ret=>obtain⟨g,S,H,h2,h3⟩:=hq;exact⟨g,S,H,h2,h _ _ _ _ h3⟩
 case panic=>obtain⟨o,v,c,hi,S,H,h1,h2,h3,h4,h5,h6⟩:=hq;exact⟨o,v,c,hi,S,H,h1,h2,h3,h4,h5,h _ _ _ _ h6⟩
def SW.mono{c:Code}(h:∀e o S H,Q e o S H->Q' e o S H)(hs:SW P GI n ro c Q old S H):SW P GI n ro c Q' old S H:=
 λw0 g a w m hG ho R=>afR (hs w0 g a w m hG ho R) λ_ _ _ hq=>QS.mono h hq
def SW.seq{x y:Code}(hx:SW P GI n ro x (thenS (SW P GI n ro y Q) Q) old S H):SW P GI n ro (.seq x y) Q old S H:=by
 intro w0 g a w m hG ho R;refine aeq (afR (hx w0 g a w m hG ho R) ?_);intro e a' w' he
 cases e with
 |normal=>
  obtain⟨g',S',H',h2,h3⟩:=he;exact h3 w0 g' a' w' m hG rfl h2
 |exit id=>exact he
 |ret=>exact he
 |panic ch=>exact he
 |goto l=>exact he.elim
 |outgrown=>exact he.elim
def SW.block{id:Nat}{c:Code}(hc:SW P GI n ro c (nK id Q) old S H):SW P GI n ro (.block id c) Q old S H:=by
 intro w0 g a w m hG ho R;refine afD (afR (hc w0 g a w m hG ho R) ?_);intro e a' w' he
 cases e with
 |normal=>exact he
 |exit j=>
  obtain⟨g',S',H',h2,h3⟩:=he;simp only[nK]at h3;simp only[Exit.inBlock];split
  .rename_i hj;rw[if_pos hj]at h3;exact⟨g',S',H',h2,h3⟩
  .rename_i hj;rw[if_neg hj]at h3;exact⟨g',S',H',h2,h3⟩
 |ret=>exact he
 |panic ch=>exact he
 |goto l=>exact he.elim
 |outgrown=>exact he.elim
def SW.cond{c:Operand}{c':dU}{x y:Code}(hc:ep n c=some c')(b:Bool)(hb:ev S c'=.bool b)(h:SW P GI n ro (if b then x else y) Q old S H):SW P GI n ro (.cond c x y) Q old S H:=by
 intro w0 g a w m hG ho R;have hv:=R.ev hc (λ_ _=>id);rw[hb]at hv
 have:a.eval c=.bool b:=by
  generalize a.eval c=v at hv;cases hv;rename_i hv;cases hv;rfl
 exact ae7 this (h w0 g a w m hG ho R)
def SW.exit{id:Nat}(h:Q (.exit id) old S H):SW P GI n ro (.exit id) Q old S H:=
 λ_ g _ _ _ _ ho R=>ags ⟨g,S,H,R,by rw[ho];exact h⟩
def SW.ret(h:Q .ret old S H):SW P GI n ro .ret Q old S H:=
 λ_ g _ _ _ _ ho R=>aga ⟨g,S,H,R,by rw[ho];exact h⟩
def SW.skip(h:Q .normal old S H):SW P GI n ro .skip Q old S H:=
 λ_ g _ _ _ _ ho R=>afG ⟨g,S,H,R,by rw[ho];exact h⟩
def SW.loop{c:Code}(I:Old->au->aD->Prop)(μ:au->aD->Nat)(h0:I old S H)(hr:∀o S H,I o S H->SW P GI n ro c (thenS (λo' S' H'=>I o' S' H'/\μ S' H'<μ S H) Q) o S H):SW P GI n ro (.loop c) Q old S H:=by
 intro w0 g a w m hG ho R;subst ho
 have key:∀ (k:Nat) (g:Gh) (S:au) (H:aD) (a:Act) (w:World),Rel P w0 n dh g S H a w→I g.old S H→μ S H=k→∀ (b:Frame) (kk:List Item) (cs:List Frame),b.roundOf=ro→(FR ro).room (cs.length+1+m) →
   ∃e a' w',QS P w0 n Q e a' w'/\ArrivesIn (Machine.fenced P (FR ro)) P (lone (b.atR a (.code c::.inLoop c::kk)) cs w) b kk cs e a' w':=by
  intro k
  induction k using Nat.strongRecOn with
  |_ k ih=>
   intro g S H a w R hI hk b kk cs xk jt;obtain⟨e,j3,mA,hq,iW⟩:=hr g.old S H hI w0 g a w m hG rfl R b (.inLoop c::kk) cs xk trivial jt
   cases e with
   |normal=>
    obtain⟨g',S',H',h2,h3,h4⟩:=hq;obtain⟨Fh,EG,DZ,yO,rH⟩:=ih _ (by rw[<-hk];exact h4) g' S' H' j3 mA h2 h3 rfl b kk cs xk jt;exact⟨Fh,EG,DZ,yO,.of_steps (ahs iW (.one (agw (F:=FR ro) (fr:=b.atR j3 (.inLoop c::kk)) trivial jt rfl) aii)) rH⟩
   |exit id=>exact⟨.exit id,j3,mA,hq,.pass (x:=.inLoop c) rfl (λ_ _=>.inl ah7) iW⟩
   |goto l=>exact hq.elim
   |ret=>exact⟨.ret,j3,mA,hq,.pass (x:=.inLoop c) rfl (λ_ _=>.inl ah7) iW⟩
   |panic ch=>exact⟨.panic ch,j3,mA,hq,.pass (x:=.inLoop c) rfl (λ_ _=>.inl ah7) iW⟩
   |outgrown=>exact hq.elim
 intro b kk cs xk hF jt;obtain⟨e,a',w',hq,iW⟩:=key _ g S H a w R h0 rfl b kk cs xk jt;exact⟨e,a',w',hq,.of_steps (.one (agw (F:=FR ro) (fr:=b.atR a (.code (.loop c)::kk)) trivial jt rfl) stepR_loop) iW⟩
def fG.cW(old:Old)(Q:fG):eh->au->aD->Prop
 |e,S,H=>Q e old S H
def BK{e:Exit}{a:Act}{w:World}(h:QQ P w0 n old (Q.cW old) e a w):QS P w0 n Q e a w:=by
 cases e<;>simp only[QQ,QS]at h⊢
 case normal=>obtain⟨g,S,H,h1,h2,h3⟩:=h;exact⟨g,S,H,h2,by rw[h1];exact h3⟩
 case exit=>obtain⟨g,S,H,h1,h2,h3⟩:=h;exact⟨g,S,H,h2,by rw[h1];exact h3⟩
 case ret=>obtain⟨g,S,H,h1,h2,h3⟩:=h;exact⟨g,S,H,h2,by rw[h1];exact h3⟩
 case panic=>obtain⟨h1,v,c,hi,S,H,h2,h3,h4,h5,h6⟩:=h;exact⟨old,v,c,hi,S,H,h1,h2,h3,h4,h5,h6⟩
def jI (hG:aQ GI) (dI:GI w0) (hm:P.follows .mixedOrders=true) {old:Old} :
  ∀(c:Code)(Q:eh->au->aD->Prop)(g:Gh)(S:au)(H:aD)(a:Act)(w:World),lX c=true->(∀d∈(ez P n c).names,¬old.bx d)->g.old=old->Rel P w0 n dh g S H a w->cW P GI (ez P n c) Q S H->c.wpIn (FR ro) m P (QQ P w0 n old Q) a w
 |.skip,Q,g,S,H,a,w,_,du,ho,R,h=>afG ⟨g,S,H,ho,R,h⟩
 |.region id ops draw,Q,g,S,H,a,w,eK,du,ho,R,h=>by
  simp only[ez]at h du
  cases draw with
  |true=>
   simp only[aeH]at h du;split at h
   case isFalse=>exact h.elim
   rename_i df;rw[if_pos df]at du;exact Gf hG dI hm eK df (λo lz d hd=>du d (aeQ.2 ⟨o,lz,hd⟩)) ho R h
  |false=>
   simp only[aek,aeA]at h du;split at h
   case isFalse=>exact h.elim
   rename_i df;rw[if_pos df]at du;exact IS hG dI eK df (λo lz d hd=>du d (aeQ.2 ⟨o,lz,hd⟩)) ho R h
 |.seq x y,Q,g,S,H,a,w,eK,du,ho,R,h=>by
  simp only[lX,aeb]at eK;refine aeq (afR (jI hG dI hm x _ g S H a w eK.1 (λd hd=>du d (by simp[ez,ah.names,hd])) ho R h) ?_);intro e a' w' he
  cases e with
  |normal=>
   obtain⟨g',S',H',h1,h2,h3⟩:=he;exact jI hG dI hm y Q g' S' H' a' w' eK.2 (λd hd=>du d (by simp[ez,ah.names,hd])) h1 h2 h3
  |exit id=>exact he
  |ret=>exact he
  |panic ch=>exact he
  |goto l=>exact he.elim
  |outgrown=>exact he.elim
 |.cond c x y,Q,g,S,H,a,w,eK,du,ho,R,h=>by
  simp only[lX,aeb]at eK;simp only[ez]at h;split at h
  case h_2=>exact h.elim
  rename_i c' hc;simp only[ez,hc,ah.names,aeg]at du;simp only[cW]at h;have hv:=R.ev hc (λ_ _=>id)
  have key:∀b,a.eval c=.bool b->(if b then x else y).wpIn (FR ro) m P (QQ P w0 n old Q) a w->(Code.cond c x y).wpIn (FR ro) m P (QQ P w0 n old Q) a w:=λb hb h=>ae7 hb h
  split at h
  .rename_i hb;rw[hb]at hv
   have:a.eval c=.bool true:=by
    generalize a.eval c=v at hv;cases hv;rename_i hv;cases hv;rfl
   exact key true this (jI hG dI hm x Q g S H a w eK.1 (λd hd=>du d (.inl hd)) ho R h)
  .rename_i hb;rw[hb]at hv
   have:a.eval c=.bool false:=by
    generalize a.eval c=v at hv;cases hv;rename_i hv;cases hv;rfl
   exact key false this (jI hG dI hm y Q g S H a w eK.2 (λd hd=>du d (.inr hd)) ho R h)
  .rename_i hb;rw[hb]at hv
   have:∃b,a.eval c=.bool b:=by
    generalize a.eval c=v at hv;cases hv;rename_i hv;cases hv;exact⟨_,rfl⟩
   obtain⟨b,hb⟩:=this
   cases b with
   |true=>exact key true hb (jI hG dI hm x Q g S H a w eK.1 (λd hd=>du d (.inl hd)) ho R h.1)
   |false=>exact key false hb (jI hG dI hm y Q g S H a w eK.2 (λd hd=>du d (.inr hd)) ho R h.2)
  .exact h.elim
 |.block id c,Q,g,S,H,a,w,eK,du,ho,R,h=>by
  refine afD (afR (jI hG dI hm c _ g S H a w eK (λd hd=>du d (by simpa[ez,ah.names]using hd)) ho R h) ?_);intro e a' w' he
  cases e with
  |normal=>exact he
  |exit j=>
   obtain⟨g',S',H',h1,h2,h3⟩:=he;simp only[bq]at h3;simp only[Exit.inBlock];split
   .rename_i hj;rw[if_pos hj]at h3;exact⟨g',S',H',h1,h2,h3⟩
   .rename_i hj;rw[if_neg hj]at h3;exact⟨g',S',H',h1,h2,h3⟩
  |ret=>exact he
  |panic ch=>exact he
  |goto l=>exact he.elim
  |outgrown=>exact he.elim
 |.loop c,Q,g,S,H,a,w,eK,du,ho,R,h=>by
  obtain⟨I,μ,h0,hr⟩:=h
  have key:∀ (k:Nat) (g:Gh) (S:au) (H:aD) (a:Act) (w:World),g.old=old→Rel P w0 n dh g S H a w→I S H→μ S H=k→∀ (b:Frame) (kk:List Item) (cs:List Frame),b.roundOf=ro→(FR ro).room (cs.length+1+m) →
    ∃e a' w',QQ P w0 n old Q e a' w'/\ArrivesIn (Machine.fenced P (FR ro)) P (lone (b.atR a (.code c::.inLoop c::kk)) cs w) b kk cs e a' w':=by
   intro k
   induction k using Nat.strongRecOn with
   |_ k ih=>
    intro g S H a w ho R hI hk b kk cs xk jt;obtain⟨e,j3,mA,hq,iW⟩:=jI hG dI hm c _ g S H a w eK (λd hd=>du d (by simpa[ez,ah.names]using hd)) ho R (hr S H hI) b (.inLoop c::kk) cs xk trivial jt
    cases e with
    |normal=>
     obtain⟨g',S',H',h1,h2,h3,h4⟩:=hq;obtain⟨Fh,EG,DZ,yO,rH⟩:=ih _ (by rw[<-hk];exact h4) g' S' H' j3 mA h1 h2 h3 rfl b kk cs xk jt;exact⟨Fh,EG,DZ,yO,.of_steps (ahs iW (.one (agw (F:=FR ro) (fr:=b.atR j3 (.inLoop c::kk)) trivial jt rfl) aii)) rH⟩
    |exit id=>exact⟨.exit id,j3,mA,hq,.pass (x:=.inLoop c) rfl (λ_ _=>.inl ah7) iW⟩
    |goto l=>exact hq.elim
    |ret=>exact⟨.ret,j3,mA,hq,.pass (x:=.inLoop c) rfl (λ_ _=>.inl ah7) iW⟩
    |panic ch=>exact⟨.panic ch,j3,mA,hq,.pass (x:=.inLoop c) rfl (λ_ _=>.inl ah7) iW⟩
    |outgrown=>exact hq.elim
  intro b kk cs xk hF jt;obtain⟨e,a',w',hq,iW⟩:=key _ g S H a w ho R h0 rfl b kk cs xk jt;exact⟨e,a',w',hq,.of_steps (.one (agw (F:=FR ro) (fr:=b.atR a (.code (.loop c)::kk)) trivial jt rfl) stepR_loop) iW⟩
 |.exit id,Q,g,S,H,a,w,_,du,ho,R,h=>ags ⟨g,S,H,ho,R,h⟩
 |.ret,Q,g,S,H,a,w,_,du,ho,R,h=>aga ⟨g,S,H,ho,R,h⟩
 |.rangeFunc ..,_,_,_,_,_,_,_,_,_,_,h=>h.elim
 |.scope _,_,_,_,_,_,_,_,_,_,_,h=>h.elim
 |.label _,_,_,_,_,_,_,_,_,_,_,h=>h.elim
 |.goto _,_,_,_,_,_,_,_,_,_,_,h=>h.elim
 |.refuse _,_,_,_,_,_,_,_,_,_,_,h=>h.elim
def SW.gO (hG:aQ GI) (hm:P.follows .mixedOrders=true) {c:Code} (hc:lX c=true) (du:∀ d∈(ez P n c).names,¬ old.bx d) {ac:ah} (pA:ez P n c=ac)
  (h:cW P GI ac (Q.cW old) S H):SW P GI n ro c Q old S H:=by
 subst pA;intro w0 g a w m dI ho R
 exact afR (jI hG dI hm c _ g S H a w hc du ho R h) λ_ _ _ hq=>BK hq
end
def x_(g:Gh)(b:Nat):Prop:=g.base<=b/\g.hi b=0/\g.owner b=none/\∀i,g.al i≠some b
structure mY(M:Nat->Prop)(w w':World):Prop where
 os:w'.os=w.os
 tape:w'.tape=w.tape
 output:w'.output=w.output
 size:w.heap.size<=w'.heap.size
 block:∀b,b<w.heap.size->¬M b->w'.heap[b]?=w.heap[b]?
def mY.refl(M:Nat->Prop)(w:World):mY M w w:=⟨rfl,rfl,rfl,aed _,λ_ _ _=>rfl⟩
def mY.trans{M M' M'':Nat->Prop}{w w' j0:World}(h:mY M w w')(h':mY M' w' j0)(h1:∀b,M b->M'' b)(h2:∀b,M' b->b<w.heap.size->M'' b):mY M'' w j0:=
 ⟨h'.os.trans h.os,h'.tape.trans h.tape,h'.output.trans h.output,afl h.size h'.size,λb hb hm=>
  (h'.block b (ae4 hb h.size) λhh=>hm (h2 b hh hb)).trans (h.block b hb λhh=>hm (h1 b hh))⟩
def mY.wV{M:Nat->Prop}{w w':World}(h:Below w.heap.size w w'):mY M w w':=⟨h.os,h.tape,h.output,h.size,λb hb _=>h.block b hb⟩
def mY.below{M:Nat->Prop}{w w':World}(h:mY M w w'){k:Nat}(hk:k<=w.heap.size)(hM:∀b,M b->k<=b):Below k w w':=
 ⟨h.os,h.tape,h.output,h.size,λb hb=>h.block b (ae4 hb hk) λhm=>by have:=hM b hm;omega⟩
section
variable{P:Program}{w0:World}{n:Nat}{g:Gh}{S:au}{H:aD}{a:Act}{w w':World}
def Rel.eF(R:Rel P w0 n dh g S H a w){M:Nat->Prop}(ht:mY M w w')(hM:∀b,M b->x_ g b)(hk:∀b,M b->g.old.cg b=none):Rel P w0 n dh g S H a w':=by
 have gr:cC g.Pr g.Pr w w':=cC.rA λb k aN hp=>ht.block b aN λhm=>by
  obtain⟨h1,h2,_⟩:=hM b hm;rcases hp with hp|hp
  .omega
  .rw[h2]at hp;omega
 refine R.ext rfl rfl rfl gr ?_ ?_ ?_ ?_ ?_ ht.size
 .intro i b hi;obtain⟨_,_,_,_,_,h3,_⟩:=R.box i b hi;exact⟨ht.block b (aea.1 h3).1 λhm=>(hM b hm).2.2.2 i hi,rfl,rfl⟩
 .intro b loc ho
  have aN:b<w.heap.size:=by
   rcases afB b w.heap.size with h|h
   .exact h
   .rw[(R.fresh b h).2]at ho;cases ho
  exact⟨ht.block b aN λhm=>(by rw[(hM b hm).2.2.1]at ho;cases ho),rfl,ho⟩
 .exact R.below.trans (ht.below (by rw[R.base];exact R.below.size) λb hm=>(hM b hm).1)
 .exact λb hb=>R.fresh b (afl ht.size hb)
 .intro b o hko ho;exact⟨by rw[ht.block b (aea.1 ho).1 (λhm=>by rw[hk b hm]at hko;cases hko)];exact ho,rfl,rfl⟩
open Classical in
noncomputable def Gh.lY(g:Gh)(G:Nat->Prop)(eJ:Nat->Nat):Gh:={ g with hi:=λb=>if G b then eJ b else g.hi b }
def Rel.lY(R:Rel P w0 n dh g S H a w){G:Nat->Prop}(eJ:Nat->Nat)(hG:∀b,G b->x_ g b/\b<w.heap.size/\g.old.cg b=none):Rel P w0 n dh (g.lY G eJ) S H a w:=by
 have hn:∀b,¬G b->(g.lY G eJ).hi b=g.hi b:=λb hb=>by simp[Gh.lY,hb]
 have rQ:∀b k,g.Pr b k->(g.lY G eJ).Pr b k:=by
  intro b k hp
  by_cases hb:G b
  .obtain⟨⟨h1,h2,_⟩,_⟩:=hG b hb;rcases hp with hp|hp
   .omega
   .rw[h2]at hp;omega
  .rcases hp with hp|hp
   .exact .inl hp
   .exact .inr ⟨hp.1,by rw[hn b hb];exact hp.2⟩
 refine R.ext (g':=g.lY G eJ) rfl rfl rfl (cC.same λb k _ hp=>rQ b k hp) ?_ ?_ R.below ?_ ?_ (aed _)
 .intro i b hi;exact⟨rfl,hn b λhb=>(hG b hb).1.2.2.2 i hi,rfl⟩
 .intro b loc ho;exact⟨rfl,hn b (λhb=>by rw[(hG b hb).1.2.2.1]at ho;cases ho),ho⟩
 .intro b hb;exact⟨by rw[hn b (λh=>by have:=(hG b h).2.1;omega)];exact(R.fresh b hb).1,(R.fresh b hb).2⟩
 .intro b o hk ho;exact⟨ho,hn b (λh=>by rw[(hG b h).2.2]at hk;cases hk),rfl⟩
def Rel.o_(R:Rel P w0 n dh g S H a w){l:Nat}{o:Obj}(hl:g.old.cg l=some o)(o':Obj):Rel P w0 n dh { g with old:={ g.old with cg:=aF g.old.cg l (some o') } } S H a (w.putObj l o'):=by
 obtain⟨k1,k2,k3,k4,k5⟩:=R.kept l o hl;have aN:l<w.heap.size:=(aea.1 k2).1
 have mT:∀b,b≠l->(w.putObj l o').heap[b]?=w.heap[b]?:=λb hb=>ahJ hb
 have dR:∀b k,g.Pr b k->b≠l:=by
  rintro b k hp rfl;rcases hp with hp|hp
  .omega
  .rw[k3]at hp;omega
 have hK:cC g.Pr g.Pr w (w.putObj l o'):=cC.rA λb k _ hp=>mT b (dR b k hp)
 have nO:(w.putObj l o').heap.size=w.heap.size:=by simp[World.putObj]
 refine{ size:=R.size,defers:=R.defers,facts:=λp hp=>(R.facts p hp).mono hK λ_ _ h=>h,slot:=λt ht hu=>(R.slot t ht hu).mono hK λ_ _ h=>h,own:=λt ht hu=>(R.own t ht hu).cg rfl λb' iY=>⟨mT b' (by rintro rfl;rw[k4]at iY;cases iY),rfl,iY⟩,box:=?_,kF:=R.kF,kE:=R.kE,inj:=R.inj,base:=R.base,below:=?_,fresh:=?_,still:=R.still.trans hK,grown:=by rw[nO];exact R.grown,kept:=?_ }
 .intro i b hi;obtain⟨cs,vs,ty,h1,h2,h3,h4,h5,h6,h7,h8,h9⟩:=R.box i b hi
  have nh:b≠l:=by rintro rfl;exact k5 i hi
  refine⟨cs,vs,ty,h1,h2,by rw[mT b nh];exact h3,h4,h5,h6,λj hj eX=>(h7 j hj eX).mono hK,λj hj eX=>(h8 j hj eX).cg rfl λb' iY=>⟨mT b' (by rintro rfl;rw[k4]at iY;cases iY),rfl,iY⟩,h9⟩
 .refine R.below.trans ⟨rfl,rfl,rfl,by rw[nO];exact aed _,λk hk=>mT k zo⟩
 .intro b hb;rw[nO]at hb;exact R.fresh b hb
 .intro b ob h
  by_cases nh:b=l
  .subst nh
   have:ob=o':=by simpa[aF]using h.symm
   subst this;exact⟨k1,ahO aN,k3,k4,k5⟩
  .have h:g.old.cg b=some ob:=by simpa[aF,nh]using h
   obtain⟨q1,q2,q3,q4,q5⟩:=R.kept b ob h;exact⟨q1,by rw[mT b nh];exact q2,q3,q4,q5⟩
def Rel.Ex (R:Rel P w0 n dh g S H a w) (o2:Old) {a2:Act} {S2:au} (hc:o2.c=g.old.c) (cM:a2.tmps.size=n) (fq:a2.defers=o2.ds)
  (hf:∀p∈o2.facts,RV g.Pr g.al w p.1 p.2) (eB:cC o2.sp g.Pr o2.sw w) (iz:o2.sw.heap.size<=w.heap.size) (hk:∀b o,o2.cg b=some o->x_ g b/\w.heap[b]?=some o)
  (hS:∀t,t<n->(S2 t).bC=S2 t/\RV g.Pr g.al w (S2 t) (a2.tmps.getD t undef)):Rel P w0 n dh { g with old:=o2 } S2 H a2 w:=by
 have rQ:({ g with old:=o2 }:Gh).Pr=g.Pr:=by
  funext b k
  simp only[Gh.Pr,hc]
 refine{ size:=cM,defers:=fq,facts:=by rw[rQ];exact hf,slot:=λt ht _=>by rw[rQ];exact(hS t ht).2,own:=λt ht _=>?_,box:=?_,kF:=R.kF,kE:=R.kE,inj:=R.inj,base:=R.base,below:=R.below,fresh:=R.fresh,still:=by rw[rQ];exact eB,grown:=iz,kept:=?_ }
 .rw[<-(hS t ht).1];exact fp.bC
 .intro i b hi;obtain⟨cs,vs,ty,h1,h2,h3,h4,h5,h6,h7,h8,h9⟩:=R.box i b hi;exact⟨cs,vs,ty,h1,h2,h3,h4,h5,h6,by rw[rQ];exact h7,λj hj eX=>(h8 j hj eX).cg rfl λb hb=>⟨rfl,rfl,hb⟩,h9⟩
 .intro b o h;obtain⟨⟨q1,q3,q4,q5⟩,q2⟩:=hk b o h;exact⟨q1,q2,q3,q4,q5⟩
def Wm(L:Nat->Bool):AV->Bool
 |.box i _=>L i
 |.func ..|.iH _=>true
 |_=>false
def qm(L:Nat->Bool)(v:AV):AV:=match v with
 |.box i o=>if L i then .cT else .box i o
 |.func fn f c=>if f.any (Wm L)||c.any (Wm L)then .cT else .func fn f c
 |.iH _=>.cT
 |v=>v.bC
def RV.qm{Pr:Nat->Nat->Prop}{al:Nat->Option Nat}{w:World}{v:AV}{c:Value}{L:Nat->Bool}(h:RV Pr al w v c):RV Pr al w (Go.AL.qm L v) c:=by
 have hd:=h.bC
 cases v<;>simp only[Go.AL.qm]<;>(try exact hd)
 .split
  .exact .cT _
  .exact h
 .split
  .exact .cT _
  .exact h
 .exact .cT _
def UJ(L:Nat->Bool)(v:AV):(qm L v).bC=qm L v:=by
 cases v<;>simp only[qm]<;>try rfl
 .rename_i o es;cases o<;>rfl
 .split<;>rfl
 .split<;>rfl
def SB(L:Nat->Bool)(v:AV):flat (qm L v)=true:=by
 cases v<;>simp only[qm]<;>try rfl
 .rename_i o es;cases o<;>rfl
 .split<;>rfl
 .split
  .rfl
  .rename_i fn f c h;simp only[afd,aha,ae9]at h;simp only[flat,aeb,aeh];refine⟨λv hv=>?_,λv hv=>?_⟩
   .have:=h.1 v hv
    cases v<;>first|rfl|(cases this;done)
   .have:=h.2 v hv
    cases v<;>first|rfl|(cases this;done)
def OL(L:Nat->Bool)(v:AV)(d:Nat)(hd:L d=true):bt d (qm L v)=qm L v:=by
 have key:∀v,Wm L v=false->¬lD d v=true:=by
  intro v hv hs
  cases v<;>simp only[lD]at hs<;>(try cases hs)<;>(try cases hv)
  simp only[aeS]at hs;subst hs;simp only[Wm,hd]at hv;cases hv
 cases v<;>simp only[qm]<;>try rfl
 .rename_i o es;cases o<;>rfl
 .split
  .rfl
  .rename_i i o h;simp only[bt];rw[if_neg];rintro rfl;exact h hd
 .split
  .rfl
  .rename_i fn f c h;simp only[afd,aha,ae9]at h;simp only[bt];rw[if_neg];simp only[afo,afC,not_or,not_exists,not_and];exact⟨λv hv=>key v (h.1 v hv),λv hv=>key v (h.2 v hv)⟩
end
structure Cons(P:Program)(GI:World->Prop)(l:Nat)(xs:List AV) where
 J:Nat->(Nat->Prop)->(Nat->Nat->Prop)->World->Prop
 X:(Nat->Prop)->(Nat->Nat->Prop)->World->Prop
 gi:∀{k M Pr w},J k M Pr w->GI w
 apart:∀{k M Pr w},J k M Pr w->∀b j,M b->¬Pr b j
 eF:∀{k M M' Pr w w'},J k M Pr w->mY M w w'->(∀b,M' b->b<w'.heap.size/\(M b\/w.heap.size<=b))->J k M' Pr w'
 aaZ:∀{M M' Pr w w'},X M Pr w->mY M w w'->(∀b,M' b->b<w'.heap.size/\(M b\/w.heap.size<=b))->X M' Pr w'
 round:∀{k:Nat}(hk:k<xs.length){M Pr w}(G:Nat->Prop)(eJ:Nat->Nat)(c:Value),J k M Pr w->(∀b,G b->M b)->RD (λb j=>Pr b j\/(G b/\j<eJ b)) w xs[k] c->
  ∃f tmps assign body,(Instr.yield l #[c]).run P w=.ok (.round l f tmps assign body) w/\
   ∀m,RoundIn (FR none) m P l f tmps assign body w λe w'=>(∀b,M b->¬G b->w'.heap[b]?=w.heap[b]?)/\∃fE,cC Pr fE w w'/\
    ((e=.returned (.bool true)/\J (k+1) (λb=>M b/\¬G b) fE w')\/(e=.returned (.bool false)/\X (λb=>M b/\¬G b) fE w'))
def dW:Nat->Option Nat:=λ_=>none
def yT(P:Program)(GI:World->Prop)(f:Nat)(caps:List AV)(xs:List AV):Prop:=
 ∀(l:Nat)(C:Cons P GI l xs)(w:World)(Pr:Nat->Nat->Prop)(dn:Array Value),C.J 0 (λ_=>False) Pr w->caps.length=dn.size->
  (∀i (h:i<caps.length)(h':i<dn.size),RV Pr dW w caps[i] dn[i])->
  Calls P f (#[.func (.yield l) #[] #[]]++dn) w λe w'=>∃v M fE,e=.returned v/\(C.J xs.length M fE w'\/C.X M fE w')
def IJ:AV->Bool
 |.box ..|.func ..|.iH _=>false
 |_=>true
def OC:AV->Bool
 |.box ..|.iH _=>false
 |.func _ f c=>f.all IJ&&c.all IJ
 |_=>true
def RV.QO{Pr:Nat->Nat->Prop}{al:Nat->Option Nat}{w:World}{v:AV}{c:Value}(h:RV Pr al w v c)(hv:IJ v=true):RV Pr Go.AL.dW w v c:=by
 cases h with
 |data v c h=>exact .data _ _ h
 |box=>cases hv
 |func=>cases hv
 |iH=>cases hv
 |cT c=>exact .cT c
def RV.dW{Pr:Nat->Nat->Prop}{al:Nat->Option Nat}{w:World}{v:AV}{c:Value}(h:RV Pr al w v c)(hv:OC v=true):RV Pr Go.AL.dW w v c:=by
 cases h with
 |data v c h=>exact .data _ _ h
 |box=>cases hv
 |func fn f c vs us h1 h2 r1 r2=>
  simp only[OC,aeb,aeh]at hv;exact .func _ _ _ _ _ h1 h2 (λi hi eJ=>(r1 i hi eJ).QO (hv.1 _ (ad2 hi))) (λi hi eJ=>(r2 i hi eJ).QO (hv.2 _ (ad2 hi)))
 |iH=>cases hv
 |cT c=>exact .cT c
def Old.mark(o:Old)(D:Nat):Old:={ o with ds:={ target:=.collected D,args:=#[] }::o.ds,cg:=aF o.cg D (some (.deferred (some []))) }
def Jt:eh->Option Code
 |.exit id=>some (.exit id)
 |.ret=>some .ret
 |_=>none
def tS(I:aD->Prop)(Ix:eh->aD->Prop):eh->au->aD->Prop
 |.normal,_,H=>I H
 |.panic _,_,_=>False
 |e,_,H=>Ix e H
def aq(K:au->aD->Prop):eh->au->aD->Prop
 |.normal,S,H=>K S H
 |_,_,_=>False
section
variable{P:Program}{GI:World->Prop}{n:Nat}{S:au}{H:aD}
open Classical in
def SW.range (hG:aQ GI) (hm:P.follows .mixedOrders=true) {old:Old} {Q:fG} {Ph:Operand} {y:dU} {p:Tmp} {assign body:Code} {f:Nat} {caps xs:List AV}
  (hg:ep n Ph=some y) (hS:ev S y=.func (.func f) [] caps) (hf:eU P f=true) (qn:caps.all OC=true) (hit:yT P GI f caps xs) (hp:p<n) (rE:∀x∈xs,x.bC=x)
  (L:Nat->Bool) {aa ab:ah} (haa:ez P n assign=aa) (uT:ez P n body=ab) (hLa:∀d∈aa.names,L d=true) (hLb:∀d∈ab.names,L d=true) (hLo:∀d,L d=true->¬old.bx d)
  (Dd:lX assign=true) (km:lX body=true) (I:Nat->aD->Prop) (Ix:eh->aD->Prop) (h0:I 0 H)
  (As:∀k (hk:k<xs.length) H',I k H'->cW P GI aa (aq (cW P GI ab (tS (I (k+1)) Ix))) (aF (λt=>qm L (S t)) p xs[k]) H')
  (Zn:∀D H',old.cg D=none->I xs.length H'->Q .normal (old.mark D) (λt=>qm L (S t)) H')
  (El:∀D e H',old.cg D=none->(Jt e).isSome=true->Ix e H'->Q e (old.mark D) (λt=>qm L (S t)) H'):
  SW P GI n none (.rangeFunc Ph #[p] assign body) Q old S H:=by
 subst haa uT;intro w0 g a w m dI ho R;subst ho;refine wpIn_rangeFunc ?_;intro fn Wa
 obtain⟨rec,zQ⟩:∃rec:LoopState->Option Code->Loop,rec=λst pe=>{ state:=st,pending:=pe,fn,tmps:=a.tmps,params:=#[p],assign,body,defers:=w.heap.size }:=⟨_,rfl⟩
 obtain⟨W1,XQ⟩:∃W1,(w.alloc (.deferred (some []))).alloc (.loop (rec .ready none))=W1:=⟨_,rfl⟩
 obtain⟨D,hD⟩:∃D,w.heap.size=D:=⟨_,rfl⟩
 have hL1:W1.heap[D+1]?=some (.loop (rec .ready none)):=by
  rw[<-XQ,<-hD];have:=ae8 (w.alloc (.deferred (some []))) (.loop (rec .ready none));rwa [World.size_alloc]at this
 have hK1:W1.heap[D]?=some (.deferred (some [])):=by
  rw[<-XQ,<-hD];exact(ahD _ _ _ ah7).trans (ae8 w _)
 have pn:Below w.heap.size w W1:=by
  rw[<-XQ];exact(((afb _ w).alloc (aed _) _).alloc ah7 _)
 have R1:Rel P w0 n dh g S H a W1:=R.kG pn
 have hle:g.base<=D:=by rw[<-hD,R.base];exact R.below.size
 have nR:∀b,D<=b->x_ g b:=λb hb=>⟨zo,(R.fresh b zo).1,(R.fresh b zo).2,λi hi=>by
  obtain⟨_,_,_,_,_,h3,_⟩:=R.box i b hi;have:=(aea.1 h3).1
  omega⟩
 have Dl:∀b,D<=b->g.old.cg b=none:=λb hb=>by
  cases hk:g.old.cg b with
  |none=>rfl
  |some o=>have:=(aea.1 (R.kept b o hk).2.1).1;omega
 have mK:=R.ev hg (λ_ _=>id);rw[hS]at mK
 obtain⟨us,tI,lL,Wc⟩:∃us:Array Value,a.eval Ph=.func (.func f) #[] us/\caps.length=us.size/\∀i (h:i<caps.length)(h':i<us.size),RV g.Pr dW W1 caps[i] us[i]:=by
  generalize hq:a.eval Ph=q at mK
  cases mK with
  |data _ _ h=>cases h
  |func _ _ _ vs us h1 h2 r1 r2=>
   have:vs=#[]:=afI (by simpa using h1.symm);subst this;refine⟨us,rfl,h2,λi h h'=>?_⟩;have:=(r2 i h h').dW (by simp only[aeh]at qn;exact qn _ (ad2 h))
   exact this.mono (cC.jK (λb aN=>pn.block b aN) λ_ _ _ h=>h) λ_ _ h=>h
 let Se:au:=λt=>qm L (S t)
 let al:Act:={ tmps:=a.tmps,defers:=[] }
 let fs:List (AV×Value):=(List.range n).map λt=>(Se t,a.tmps.getD t undef)
 let kp:Nat->Option Obj:=aF (aF g.old.cg D (some (.deferred (some [])))) (D+1) (some (.loop (rec .ready none)))
 have df:∀q∈fs++g.old.facts,flat q.1=true/\∀d,¬(L d=false)->bt d q.1=q.1:=by
  intro q hq;rcases aeg.1 hq with h|h
  .obtain⟨t,_,rfl⟩:=aew.1 h;exact⟨SB L _,λd hd=>OL L _ d (by simpa using hd)⟩
  .exact⟨(g.old.ok q h).1,λd hd=>(g.old.ok q h).2 d (hLo d (by simpa using hd))⟩
 let mk:(Nat->Option Obj)->(Nat->Nat->Prop)->World->Old:=λcg sp sw=>
  { c:=g.old.c,facts:=fs++g.old.facts,bx:=λd=>L d=false,ds:=[],cg:=cg,sp:=sp,sw:=sw,ok:=df }
 let Ho:Old:=mk kp g.old.sp g.old.sw
 let kx:Code->Nat->Option Obj:=λc=>aF kp (D+1) (some (.loop (rec .done (some c))))
 have Z4:∀t,(Se t).bC=Se t:=λt=>UJ L _
 have cM:a.tmps.size=n:=R.size
 have QT:∀{g':Gh}{W:World}{H':aD}{n' S' a'},Rel P w0 n' dh g' S' H' a' W->g'.old.facts=fs++g.old.facts->∀t,t<n->(Se t).bC=Se t/\RV g'.Pr g'.al W (Se t) (a.tmps.getD t undef):=by
  intro g' W H' n' S' a' R' hfa t ht;exact⟨Z4 t,R'.facts (Se t,a.tmps.getD t undef) (by rw[hfa];exact age _ (aew.2 ⟨t,aeI.2 ht,rfl⟩))⟩
 have adK:∀b,D<=b->b≠D->b≠D+1->kp b=none:=λb hb h1 h2=>by simp[kp,aF,h1,h2,Dl b hb]
 have To:kp (D+1)=some (.loop (rec .ready none)):=bX _ _ _
 let J:Nat->(Nat->Prop)->(Nat->Nat->Prop)->World->Prop:=λk M Pr W=>∃g' H',Rel P w0 n dh g' Se H' al W/\g'.old=Ho/\g'.Pr=Pr/\I k H'/\∀b,M b->x_ g' b/\b<W.heap.size/\kp b=none
 let X:(Nat->Prop)->(Nat->Nat->Prop)->World->Prop:=λM Pr W=>∃e jc g' H',Rel P w0 n dh g' Se H' al W/\g'.old=mk (kx jc) g.old.sp g.old.sw/\Jt e=some jc/\g'.Pr=Pr/\Ix e H'/\∀b,M b->x_ g' b/\b<W.heap.size/\kp b=none
 have F2:∀{g':Gh}{H':aD}{W:World},Rel P w0 n dh g' Se H' al W->GI W:=λR'=>by
  have hb:=R'.below;rw[R'.base]at hb;exact hG w0 _ dI hb
 have TL:∀{g':Gh}{H':aD}{W:World}(k':Nat->Option Obj),Rel P w0 n dh g' Se H' al W->g'.old.cg=k'->(∀b,kp b=none↔k' b=none)->∀b,W.heap.size<=b->x_ g' b/\kp b=none:=by
  intro g' H' W k' R' hk Eh b hb;refine⟨⟨?_,(R'.fresh b hb).1,(R'.fresh b hb).2,λi hi=>?_⟩,?_⟩
  .have:=R'.below.size;rw[R'.base];omega
  .obtain⟨_,_,_,_,_,h3,_⟩:=R'.box i b hi;have:=(aea.1 h3).1;omega
  .rw[Eh]
   cases hq:k' b with
   |none=>rfl
   |some o=>have:=(aea.1 (R'.kept b o (by rw[hk];exact hq)).2.1).1;omega
 have K8:∀c b,kp b=none↔kx c b=none:=λc b=>by
  by_cases hb:b=D+1
  .subst hb;simp[To,kx,aF]
  .simp[kx,aF,hb]
 let C:Cons P GI (D+1) xs:={
  J:=J
  X:=X
  gi:=λ⟨g',H',R',_⟩=>F2 R'
  apart:=by
   rintro k M Pr W ⟨g',H',R',e1,rfl,e3,e4⟩ b j hb hp;obtain⟨⟨h1,h2,_⟩,_⟩:=e4 b hb;rcases hp with hp|hp
   .omega
   .rw[h2]at hp;omega
  eF:=by
   rintro k M M' Pr W W' ⟨g',H',R',e1,e2,e3,e4⟩ ht hM';have R2:=R'.eF ht (λb hb=>(e4 b hb).1) (λb hb=>by rw[e1];exact(e4 b hb).2.2);refine⟨g',H',R2,e1,e2,e3,λb hb=>?_⟩;obtain⟨q1,q2⟩:=hM' b hb;rcases q2 with q2|q2
   .exact⟨(e4 b q2).1,q1,(e4 b q2).2.2⟩
   .obtain⟨z1,z2⟩:=TL kp R' (by rw[e1]) (λ_=>Iff.rfl) b q2;exact⟨z1,q1,z2⟩
  aaZ:=by
   rintro M M' Pr W W' ⟨e,jc,g',H',R',e1,ej,e2,e3,e4⟩ ht hM';have R2:=R'.eF ht (λb hb=>(e4 b hb).1) (λb hb=>by rw[e1];exact(K8 jc b).1 (e4 b hb).2.2);refine⟨e,jc,g',H',R2,e1,ej,e2,e3,λb hb=>?_⟩;obtain⟨q1,q2⟩:=hM' b hb;rcases q2 with q2|q2
   .exact⟨(e4 b q2).1,q1,(e4 b q2).2.2⟩
   .obtain⟨z1,z2⟩:=TL (kx jc) R' (by rw[e1]) (K8 jc) b q2;exact⟨z1,q1,z2⟩
  round:=by
   rintro k hk M Pr W G eJ c ⟨g',H',R',e1,rfl,e3,e4⟩ Tn hx
   have hkg:∀b,M b->g'.old.cg b=none:=λb hb=>by rw[e1];exact(e4 b hb).2.2
   have Rc:=R'.lY (G:=G) eJ (λb hb=>⟨(e4 b (Tn b hb)).1,(e4 b (Tn b hb)).2.1,hkg b (Tn b hb)⟩)
   obtain⟨gc,vO⟩:∃gc,g'.lY G eJ=gc:=⟨_,rfl⟩
   rw[vO]at Rc
   have gco:gc.old=Ho:=by rw[<-vO];exact e1
   have hKc:cC g'.Pr gc.Pr W W:=cC.same λb j _ C3=>by
    rw[<-vO]
    by_cases hb:G b
    .obtain⟨⟨h1,h2,_⟩,_⟩:=e4 b (Tn b hb);rcases C3 with hp|hp
     .omega
     .rw[h2]at hp;omega
    .rcases C3 with hp|hp
     .exact .inl hp
     .exact .inr ⟨hp.1,by simpa[Gh.lY,hb]using hp.2⟩
   have IH:RD gc.Pr W xs[k] c:=hx.mono (cC.same λb j aN C3=>by
    rcases C3 with C3|⟨h1,h2⟩
    .by_cases hex:∃u,W.cell? ⟨b,j,none⟩=some u
     .obtain⟨u,hu⟩:=hex;exact(hKc.cell b j C3 u hu).1
     .rw[<-vO]
      by_cases hb:G b
      .obtain⟨⟨h1,h2,_⟩,_⟩:=e4 b (Tn b hb);rcases C3 with hp|hp
       .omega
       .rw[h2]at hp;omega
      .rcases C3 with hp|hp
       .exact .inl hp
       .exact .inr ⟨hp.1,by simpa[Gh.lY,hb]using hp.2⟩
    .rw[<-vO]
     exact .inr ⟨(e4 b (Tn b h1)).1.1,by simpa[Gh.lY,h1]using h2⟩)
   let kr:Nat->Option Obj:=λb=>if M b/\¬G b then W.heap[b]? else kp b
   have hMl:¬M (D+1):=λhh=>by have:=(e4 _ hh).2.2;rw[To]at this;cases this
   have krl:kr (D+1)=some (.loop (rec .ready none)):=by simp[kr,hMl,To]
   have Rr:=Rc.Ex (mk kr gc.Pr W) (a2:={ tmps:=a.tmps.setIfInBounds p c,defers:=[] }) (S2:=aF Se p xs[k]) (by rw[gco]) (by simpa using cM) rfl
    (λq hq=>Rc.facts q (by rw[gco];exact hq)) (cC.same λ_ _ _ h=>h) (aed _)
    (λb ob hb=>by
     simp only[mk,kr]at hb;split at hb
     .rename_i Pk;obtain⟨h1,h2,h3,h4⟩:=(e4 b Pk.1).1;exact⟨⟨by rw[<-vO];exact h1,by rw[<-vO];simpa[Gh.lY,Pk.2]using h2,by rw[<-vO];exact h3,by rw[<-vO];exact h4⟩,hb⟩
     .obtain⟨h1,h2,h3,h4,h5⟩:=Rc.kept b ob (by rw[gco];exact hb)
      exact⟨⟨h1,h3,h4,h5⟩,h2⟩)
    (λt ht=>by
     by_cases UL:t=p
     .subst UL;rw[bX];refine⟨rE _ (ad2 hk),.data _ _ ?_⟩
      have:(a.tmps.setIfInBounds t c).getD t undef=c:=by simp[cM,ht]
      rw[this];exact IH
     .rw[b_ _ _ UL]
      have:(a.tmps.setIfInBounds p c).getD t undef=a.tmps.getD t undef:=by
       simp[aem (ae0 UL)]
      rw[this]
      exact⟨Z4 t,(Rc.slot t ht id)⟩)
   have Gj:W.heap[D+1]?=some (.loop (rec .ready none)):=(R'.kept (D+1) _ (by rw[e1];exact To)).2.1;have hy:=run_yield (P:=P) (args:=#[c]) Gj (by rw[zQ];rfl);rw[zQ]at hy
   have hy':(Instr.yield (D+1) #[c]).run P W=.ok (.round (D+1) fn (a.tmps.setIfInBounds p c) assign body) W:=by rw[hy];simp
   refine⟨fn,_,assign,body,hy',λm'=>roundIn_of_wpIn (F:=FR none) trivial ?_⟩;show assign.wpIn (FR (some (D+1))) m' P _ { tmps:=a.tmps.setIfInBounds p c,defers:=[] } W;refine afR (jI hG dI hm (old:=mk kr gc.Pr W) assign _ _ _ H' _ W Dd (λd hd (hh:L d=false)=>by have:=hLa d hd;rw[this]at hh;cases hh) rfl Rr (As k hk H' e3)) ?_;intro e a1 w1 hq
   cases e with
   |normal=>
    obtain⟨g1,S1,H1,BD,Tl,hb⟩:=hq;have AP:w1.heap[D+1]?=some (.loop (rec .ready none)):=(Tl.kept (D+1) _ (by rw[BD];exact krl)).2.1;have hbr:=run_beginRound (P:=P) AP (by rw[zQ]);refine⟨_,hbr,?_⟩;have R2:=Tl.o_ (l:=D+1) (o:=.loop (rec .ready none)) (by rw[BD];exact krl) (.loop { rec .ready none with state:=.busy })
    let kb:Nat->Option Obj:=aF kr (D+1) (some (.loop { rec .ready none with state:=.busy }))
    have SD:({ g1.old with cg:=aF g1.old.cg (D+1) (some (.loop { rec .ready none with state:=.busy })) }:Old)=mk kb gc.Pr W:=by rw[BD]
    refine afR (jI hG dI hm (old:=mk kb gc.Pr W) body _ _ _ _ _ _ km (λd hd (hh:L d=false)=>by have:=hLb d hd;rw[this]at hh;cases hh) SD R2 hb) ?_;have kbl:kb (D+1)=some (.loop { rec .ready none with state:=.busy }):=bX _ _ _
    have fin:∀ (g3:Gh) (S3:au) (H3:aD) (a3:Act) (w3:World) (jump:Option Code),g3.old=mk kb gc.Pr W→Rel P w0 n dh g3 S3 H3 a3 w3 →
      ∃w4,(Instr.endRound (D+1) jump).run P w3=.ok (.bool jump.isNone) w4/\(∀b,M b->¬G b->w4.heap[b]?=W.heap[b]?)/\∃g4,cC g'.Pr g4.Pr W w4/\
       Rel P w0 n dh g4 Se H3 al w4/\g4.old=mk (aF kp (D+1) (some (.loop (rec (if jump.isNone then .ready else .done) jump)))) g.old.sp g.old.sw/\∀b,M b/\¬G b->x_ g4 b/\b<w4.heap.size/\kp b=none:=by
     intro g3 S3 H3 a3 w3 jump A9 R3;have C7:w3.heap[D+1]?=some (.loop { rec .ready none with state:=.busy }):=(R3.kept (D+1) _ (by rw[A9];exact kbl)).2.1;have LQ:=run_endRound (P:=P) jump C7
     obtain⟨w4,oz⟩:∃w4,w3.putObj (D+1) (.loop { ({ rec .ready none with state:=.busy }:Loop)with state:=if jump.isNone then .ready else .done,pending:=jump })=w4:=⟨_,rfl⟩
     rw[oz]at LQ;have R4:=R3.o_ (l:=D+1) (o:=.loop { rec .ready none with state:=.busy }) (by rw[A9];exact kbl) (.loop { ({ rec .ready none with state:=.busy }:Loop)with state:=if jump.isNone then .ready else .done,pending:=jump });rw[oz]at R4
     have On:({ ({ rec .ready none with state:=.busy }:Loop)with state:=if jump.isNone then .ready else .done,pending:=jump })=rec (if jump.isNone then .ready else .done) jump:=by rw[zQ]
     rw[On]at R4
     have ho4:({ g3.old with cg:=aF g3.old.cg (D+1) (some (.loop (rec (if jump.isNone then .ready else .done) jump))) }:Old)=mk (aF kr (D+1) (some (.loop (rec (if jump.isNone then .ready else .done) jump)))) gc.Pr W:=by
      rw[A9];simp only[mk,Old.mk.injEq,ahX,ahE]
      funext b
      by_cases mM:b=D+1
      .subst mM;simp[aF]
      .simp[aF,kb,mM]
     obtain⟨g4,hg4⟩:∃g4,({ g3 with old:={ g3.old with cg:=aF g3.old.cg (D+1) (some (.loop (rec (if jump.isNone then .ready else .done) jump))) } }:Gh)=g4:=⟨_,rfl⟩
     rw[hg4]at R4
     have Cs:g4.old=mk (aF kr (D+1) (some (.loop (rec (if jump.isNone then .ready else .done) jump)))) gc.Pr W:=by rw[<-hg4];exact ho4
     have hKW:cC g'.Pr g4.Pr W w4:=hKc.trans (by have:=R4.still;rw[Cs]at this;exact this)
     have acD:∀b,M b->b≠D+1:=by rintro b hb rfl;exact hMl hb
     have hkr:∀b,M b->¬G b->∃ob,W.heap[b]?=some ob/\g4.old.cg b=some ob:=by
      intro b hb nL;have aN:=(e4 b hb).2.1;refine⟨W.heap[b],by simp[aN],?_⟩;rw[Cs];simp[mk,aF,acD b hb,kr,hb,nL,aN]
     have R5:=R4.Ex (mk (aF kp (D+1) (some (.loop (rec (if jump.isNone then .ready else .done) jump)))) g.old.sp g.old.sw) (a2:=al) (S2:=Se) (by rw[Cs]) cM rfl
      (λq hq=>R4.facts q (by rw[Cs];exact hq)) (by
       have h1:=R'.still;rw[e1]at h1
       exact h1.trans hKW) (by
       have h1:=R'.grown;rw[e1]at h1;have h2:=R4.grown;rw[Cs]at h2
       exact afl h1 h2)
      (λb ob hb=>by
       have hq:g4.old.cg b=some ob:=by
        rw[Cs];simp only[mk]at hb⊢
        by_cases mM:b=D+1
        .subst mM;simpa[aF]using hb
        .simp only[b_ _ _ mM]at hb⊢;simp only[kr];rw[if_neg];exact hb;rintro⟨hMb,_⟩;rw[(e4 b hMb).2.2]at hb;cases hb
       obtain⟨h1,h2,h3,h4,h5⟩:=R4.kept b ob hq
       exact⟨⟨h1,h3,h4,h5⟩,h2⟩)
      (λt ht=>QT R4 (by rw[Cs]) t ht)
     refine⟨w4,LQ,λb hb nL=>?_,{ g4 with old:=mk (aF kp (D+1) (some (.loop (rec (if jump.isNone then .ready else .done) jump)))) g.old.sp g.old.sw },?_,R5,rfl,λb hb=>?_⟩
     .obtain⟨ob,h1,h2⟩:=hkr b hb nL;rw[h1];exact(R4.kept b ob h2).2.1
     .have:(({ g4 with old:=mk (aF kp (D+1) (some (.loop (rec (if jump.isNone then .ready else .done) jump)))) g.old.sp g.old.sw }:Gh)).Pr=g4.Pr:=by
       funext b j;simp only[Gh.Pr,Cs,mk]
      rw[this];exact hKW
     .obtain⟨ob,h1,h2⟩:=hkr b hb.1 hb.2;obtain⟨q1,q2,q3,q4,q5⟩:=R4.kept b ob h2;exact⟨⟨q1,q3,q4,q5⟩,(aea.1 q2).1,(e4 b hb.1).2.2⟩
    intro e2 a3 w3 GA
    cases e2 with
    |normal=>
     obtain⟨g3,S3,H3,A9,R3,TU⟩:=GA;obtain⟨w4,LQ,q1,g4,q3,R4,q4,q5⟩:=fin g3 S3 H3 a3 w3 none A9 R3;refine⟨_,w4,LQ,q1,g4.Pr,q3,.inl ⟨rfl,g4,H3,R4,?_,rfl,TU,q5⟩⟩;rw[q4];simp only[Ho,mk,Old.mk.injEq,ahX,ahE,Option.isNone_none,aeH]
     funext b
     by_cases mM:b=D+1
     .subst mM;simp[aF,To]
     .simp[aF,mM]
    |ret=>
     obtain⟨g3,S3,H3,A9,R3,TU⟩:=GA;obtain⟨w4,LQ,q1,g4,q3,R4,q4,q5⟩:=fin g3 S3 H3 a3 w3 (some .ret) A9 R3;exact⟨_,w4,LQ,q1,g4.Pr,q3,.inr ⟨rfl,.ret,.ret,g4,H3,R4,q4,rfl,rfl,TU,q5⟩⟩
    |exit id=>
     obtain⟨g3,S3,H3,A9,R3,TU⟩:=GA;obtain⟨w4,LQ,q1,g4,q3,R4,q4,q5⟩:=fin g3 S3 H3 a3 w3 (some (.exit id)) A9 R3;exact⟨_,w4,LQ,q1,g4.Pr,q3,.inr ⟨rfl,.exit id,.exit id,g4,H3,R4,q4,rfl,rfl,TU,q5⟩⟩
    |panic ch=>obtain⟨_,_,_,_,_,_,_,_,_,_,hh⟩:=GA;exact hh.elim
    |goto l=>exact GA.elim
    |outgrown=>exact GA.elim
   |exit id=>obtain⟨_,_,_,_,_,hh⟩:=hq;exact hh.elim
   |ret=>obtain⟨_,_,_,_,_,hh⟩:=hq;exact hh.elim
   |panic ch=>obtain⟨_,_,_,_,_,_,_,_,_,_,hh⟩:=hq;exact hh.elim
   |goto l=>exact hq.elim
   |outgrown=>exact hq.elim }
 have Lm:∀ (g':Gh) (H':aD) (w2:World) (st:LoopState) (pe:Option Code),st ≠ .busy→Rel P w0 n dh g' Se H' al w2→g'.old=mk (aF kp (D+1) (some (.loop (rec st pe)))) g.old.sp g.old.sw →
   ∃w4 g4,(Instr.endLoop (D+1)).run P w2=.ok pe w4/\Rel P w0 n dh g4 Se H' { a with defers:=[{ target:=.collected D,args:=#[] }]++a.defers } w4/\g4.old=g.old.mark D:=by
  intro g' H' w2 st pe eB R' e1
  have jW:g'.old.cg (D+1)=some (.loop (rec st pe)):=by rw[e1];exact bX _ _ _
  have tq:=(R'.kept (D+1) _ jW).2.1;have Pc:=run_endLoop (P:=P) tq (by rw[zQ];exact eB);have R2:=R'.o_ jW (.loop { rec st pe with state:=.exhausted })
  obtain⟨W4,hW4⟩:∃W4,w2.putObj (D+1) (.loop { rec st pe with state:=.exhausted })=W4:=⟨_,rfl⟩
  rw[hW4]at Pc R2
  have tr:(rec st pe).pending=pe:=by rw[zQ]
  rw[tr]at Pc
  have hold:∀b ob,(g.old.mark D).cg b=some ob->({ g' with old:={ g'.old with cg:=aF g'.old.cg (D+1) (some (.loop { rec st pe with state:=.exhausted })) } }:Gh).old.cg b=some ob:=by
   intro b ob hb;simp only[Old.mark]at hb
   by_cases hbD:b=D
   .subst hbD;rw[bX]at hb;cases hb;show aF g'.old.cg (b+1) _ b=_;rw[b_ _ _ zo,e1];show aF kp (b+1) _ b=_;rw[b_ _ _ zo];show aF (aF g.old.cg b _) (b+1) _ b=_;rw[b_ _ _ zo,bX]
   .rw[b_ _ _ hbD]at hb
    have aN:b<D:=by
     rcases afB b D with h|h
     .exact h
     .rw[Dl b h]at hb;cases hb
    show aF g'.old.cg (D+1) _ b=_;rw[b_ _ _ zo,e1];show aF kp (D+1) _ b=_;rw[b_ _ _ zo];show aF (aF g.old.cg D _) (D+1) _ b=_;rw[b_ _ _ zo,b_ _ _ hbD];exact hb
  have R3:=R2.Ex (g.old.mark D) (a2:={ a with defers:=[{ target:=.collected D,args:=#[] }]++a.defers }) (S2:=Se) (by show g.old.c=g'.old.c;rw[e1]) cM (by show[_]++a.defers=_::_;rw[R.defers];rfl) (λq hq=>R2.facts q ?_) ?_ ?_ (λb ob hb=>?_) (λt ht=>QT R2 (by show g'.old.facts=_;rw[e1]) t ht)
  .refine⟨_,_,Pc,R3,?_⟩
   rfl
  .show q∈g'.old.facts;rw[e1];exact agB _ hq
  .have h:=R2.still
   have:({ g' with old:={ g'.old with cg:=aF g'.old.cg (D+1) (some (.loop { rec st pe with state:=.exhausted })) } }:Gh).old.sp=g.old.sp:=by show g'.old.sp=_;rw[e1]
   rw[this]at h
   have:({ g' with old:={ g'.old with cg:=aF g'.old.cg (D+1) (some (.loop { rec st pe with state:=.exhausted })) } }:Gh).old.sw=g.old.sw:=by show g'.old.sw=_;rw[e1]
   rw[this]at h;exact h
  .have h:=R2.grown
   have:({ g' with old:={ g'.old with cg:=aF g'.old.cg (D+1) (some (.loop { rec st pe with state:=.exhausted })) } }:Gh).old.sw=g.old.sw:=by show g'.old.sw=_;rw[e1]
   rw[this]at h;exact h
  .obtain⟨h1,h2,h3,h4,h5⟩:=R2.kept b ob (hold b ob hb);exact⟨⟨h1,h3,h4,h5⟩,h2⟩
 refine⟨D+1,[{ target:=.collected D,args:=#[] }],W1,{ target:=.fn (.func f) us,args:=#[.func (.yield (D+1)) #[] #[]] },W1,f,#[.func (.yield (D+1)) #[] #[]]++us,W1,?_,?_,λ_ _=>trivial,?_,λh=>by simp[FR,Fence.wide]at h,?_⟩
 .rw[<-XQ,zQ,<-hD];exact run_enterLoop_outer _ _ _ _ _
 .simp only[resolve,tI];simp[go_sem]
 .simp[invoke,go_sem,hZ hf]
 .refine jD.2 ((hit (D+1) C W1 g.Pr us ?_ lL Wc).mono ?_)
  .refine⟨{ g with old:=Ho },H,R1.Ex Ho rfl cM rfl (λq hq=>?_) R1.still R1.grown (λb ob hb=>?_) (λt ht=>⟨Z4 t,(R1.slot t ht id).qm⟩),rfl,rfl,h0,λb hb=>hb.elim⟩
   .rcases aeg.1 hq with h|h
    .obtain⟨t,ht,rfl⟩:=aew.1 h;exact(R1.slot t (aeI.1 ht) id).qm
    .exact R1.facts q h
   .simp only[Ho,mk,kp]at hb
    by_cases h1:b=D+1
    .subst h1;rw[bX]at hb;cases hb;exact⟨nR _ zo,hL1⟩
    .rw[b_ _ _ h1]at hb
     by_cases h2:b=D
     .subst h2;rw[bX]at hb;cases hb;exact⟨nR _ zo,hK1⟩
     .rw[b_ _ _ h2]at hb;obtain⟨q1,q2,q3,q4,q5⟩:=R1.kept b ob hb;exact⟨⟨q1,q3,q4,q5⟩,q2⟩
  .rintro e w2 ⟨v,M,fE,rfl,hJ|hX⟩
   .obtain⟨g',H',R',e1,_,hI,_⟩:=hJ
    have Jr:aF kp (D+1) (some (.loop (rec .ready none)))=kp:=by
     funext b
     by_cases hb:b=D+1
     .subst hb;rw[bX,To]
     .rw[b_ _ _ hb]
    obtain⟨w4,g4,h1,R4,h2⟩:=Lm g' H' w2 .ready none ah7 R' (by rw[Jr];exact e1);exact⟨none,w4,h1,g4,Se,H',R4,by rw[h2];exact Zn D H' (Dl D (aed _)) hI⟩
   .obtain⟨e,jc,g',H',R',e1,ej,_,hI,_⟩:=hX;obtain⟨w4,g4,h1,R4,h2⟩:=Lm g' H' w2 .done (some jc) ah7 R' e1;refine⟨some jc,w4,h1,?_⟩;have hq:=El D e H' (Dl D (aed _)) (by rw[ej];rfl) hI
    cases e<;>simp only[Jt]at ej<;>cases ej
    .exact ags ⟨g4,Se,H',R4,by rw[h2];exact hq⟩
    .exact aga ⟨g4,Se,H',R4,by rw[h2];exact hq⟩
end
def e_(o:Old):Prop:=∃Ds:List Nat,Ds.Nodup/\o.ds=Ds.map (λD=>{ target:=.collected D,args:=#[] })/\∀D∈Ds,o.cg D=some (.deferred (some []))
def e_.plain{o:Old}(h:o.ds=[]):e_ o:=⟨[],.nil,by simpa using h,ah7⟩
def e_.mark{o:Old}{D:Nat}(h:e_ o)(hD:o.cg D=none):e_ (o.mark D):=by
 obtain⟨Ds,h1,h2,h3⟩:=h
 have hn:D∉Ds:=λhm=>by rw[h3 D hm]at hD;cases hD
 refine⟨D::Ds,af0.2 ⟨hn,h1⟩,by simp[Old.mark,h2],λE hE=>?_⟩;rcases aeD.1 hE with rfl|hE
 .exact bX _ _ _
 .show aF o.cg D _ E=_;rw[b_ _ _ (λe:E=D=>hn (by rw[<-e];exact hE))];exact h3 E hE
section
variable{P:Program}{GI:World->Prop}{w0:World}{n:Nat}{g:Gh}{S:au}{H:aD}{a:Act}{w:World}
def xH {F:Fence} {m:Nat} {fn:Func} {tmps:Array Value} {R:Ending→World→Prop}:∀ (Ds:List Nat) {g:Gh} {w:World},Rel P w0 n dh g S H a w→Ds.Nodup→(∀ D∈Ds,g.old.cg D=some (.deferred (some []))) →
  (∀g' w',Rel P w0 n dh g' S H a w'->g'.old.c=g.old.c->∃v,(results fn tmps).run P w'=.ok v w'/\R (.returned v) w')->
  LeavesInM F m P fn tmps R (Ds.map λD=>{ target:=.collected D,args:=#[] }) .returning w
 |[],g,w,R',_,_,FL=>FL g w R' rfl
 |D::Ds,g,w,R',eK,hk,FL=>by
  obtain⟨h1,h2⟩:=af0.1 eK;have hD:=hk D aen;have R2:=R'.o_ hD (.deferred none);refine⟨ah7,.inl ⟨D,_,rfl,run_takeDeferred (R'.kept D _ hD).2.1,?_⟩⟩;refine xH Ds R2 h2 (λE hE=>?_) (λg' w' R3 hc=>FL g' w' R3 hc);show aF g.old.cg D _ E=_;rw[b_ _ _ (λe:E=D=>h1 (by rw[<-e];exact hE))];exact hk E (aei _ hE)
def Rel.begin {fn:Func} {args:List AV} {old:Nat→Nat→Prop} {dn:Array Value} (hn:fn.ntmps=n) (hl:args.length≤n) (hlen:args.length=dn.size)
  (hr:∀i (h:i<args.length)(h':i<dn.size),RV old (λ_=>none) w args[i] dn[i]):
  Rel P w n dh { base:=w.heap.size,old:=Old.plain old w,al:=λ_=>none,hi:=λ_=>0,owner:=λ_=>none } (start args) (λ_=>none) { tmps:=dn++Array.replicate (fn.ntmps-dn.size) undef,defers:=[] } w:=by
 have cM:(dn++Array.replicate (fn.ntmps-dn.size) undef).size=n:=by simp;omega
 refine{ size:=cM,defers:=rfl,facts:=λ_ h=>(by cases h),slot:=?_,own:=?_,box:=?_,kF:=?_,kE:=?_,inj:=?_,base:=rfl,below:=afb _ _,fresh:=λb _=>⟨rfl,rfl⟩,still:=⟨λ_ _ h=>h.elim,λ_ h=>h.elim⟩,grown:=aed _,kept:=λ_ _ h=>(by cases h) }
 .intro t ht _
  by_cases N_:t<args.length
  .have h1:start args t=args[t].bC:=by simp[start,N_]
   have h2:(dn++Array.replicate (fn.ntmps-dn.size) undef).getD t undef=dn[t]' zo:=by
    have:t<dn.size:=zo
    simp[af_,this]
   rw[h1,h2];refine((hr t N_ zo).mono (cC.same λb k aN hp=>.inl ⟨aN,hp⟩) (λ_ _ h=>h)).bC
  .have h1:start args t=a_:=by simp[start,N_,a_,AV.bC]
   have h2:(dn++Array.replicate (fn.ntmps-dn.size) undef).getD t undef=undef:=by
    have:¬t<dn.size:=zo
    simp only[aex,af_,this,aeA]
    by_cases hh:t-dn.size<fn.ntmps-dn.size
    .simp[hh]
    .simp[hh]
   rw[h1,h2];exact .data _ _ (vD _ _)
 .intro t ht _;exact iO _ _ _
 .intro i b h;cases h
 .intro i cs h;cases h
 .intro i h;rfl
 .intro i j b h;cases h
def pz(P:Program)(n:Nat)(rs:List ResultVar)(out:jr)(c:Nat->Nat->Prop):fG
 |.normal,o,S,H|.ret,o,S,H=>e_ o/\o.c=c/\∃v,bQ P n rs S H=some v/\out=.ret v
 |.panic v,o,_,_=>o.ds=[]/\o.c=c/\out=.panic v
 |_,_,_,_=>False
def AC.j7 {f:Nat} {fn:Func} {c:Code} {args:List AV} {out:jr} (hf:P.funcs[f]? = some fn) (hb:fn.body=some c) (hn:fn.ntmps=n) (hl:args.length≤n)
  (h:∀cc w,SW P GI n none c (pz P n fn.results.toList out cc) (Old.plain cc w) (start args) (λ_=>none)):AC P GI f args out:=by
 intro w old dn ib hlen hr;refine(jD (ro:=none) (m:=0)).1 (callsIn_of_wp_marks hf hb trivial ?_);have R:Rel P w n dh _ (start args) (λ_=>none) { tmps:=dn++Array.replicate (fn.ntmps-dn.size) undef,defers:=[] } w:=Rel.begin hn hl hlen hr;refine afR (h old w w _ _ w 0 ib rfl R) ?_;intro e a' w' he
 have fin:(∃ g' S H,Rel P w n dh g' S H a' w'∧e_ g'.old∧g'.old.c=old∧∃ v,bQ P n fn.results.toList S H=some v∧out = .ret v) →
   LeavesInM (FR none) 0 P fn a'.tmps (Ends P old w out) a'.defers .returning w':=by
  rintro⟨g',S,H,R',⟨Ds,h1,h2,h3⟩,hc,v,hv,rfl⟩;rw[R'.defers,h2]
  refine xH Ds R' h1 h3 λg2 w2 R2 j6=>?_
  obtain⟨c,r1,r2,r3⟩:=wi R2 hv;refine⟨c,r1,?_,g2.hi,λb hb=>(R2.fresh b hb).1,c,rfl,?_,?_⟩
  .have:=R2.below;rwa [R2.base]at this
  .have:g2.Pr=qG w.heap.size old g2.hi:=by
    funext b k
    simp only[Gh.Pr,qG,R2.base,j6,hc]
   rw[this]at r2;exact .data _ _ r2
  .rwa [R2.base]at r3
 cases e with
 |normal=>exact fin he
 |ret=>exact fin he
 |exit id=>obtain⟨_,_,_,_,h⟩:=he;exact h.elim
 |panic chain=>
  obtain⟨o,v,c,hi,S,H,h1,h2,h3,h4,h5,h6,rfl,rfl⟩:=he;subst h2;show LeavesInM (FR none) 0 P fn a'.tmps _ a'.defers _ w';rw[h1,h6];exact⟨h3,hi,h4,c,rfl,h5⟩
 |goto l=>exact he.elim
 |outgrown=>exact he.elim
def aae(n:Nat)(rs:List ResultVar)(out:jr):eh->au->aD->Prop
 |.normal,S,H|.ret,S,H=>∃t fn fi ca,rs=[.tmp t]/\t<n/\S t=.func fn fi ca/\out=.ret (fz H (S t))
 |_,_,_=>False
open Classical in
def AC.Hb (hG:aQ GI) (hm:P.follows .mixedOrders=true) {f:Nat} {fn:Func} {c:Code} {args:List AV} {out:jr} (hf:P.funcs[f]? = some fn) (hb:fn.body=some c) (hn:fn.ntmps=n) (hl:args.length≤n) {ac:ah} (hc:ez P n c=ac)
  (h:cW P GI ac (aae n fn.results.toList out) (start args) (λ_=>none)):AC P GI f args out:=by
 intro w old dn ib hlen hr;refine agi hf hb ?_;subst hc;have R:Rel P w n dh _ (start args) (λ_=>none) { tmps:=dn++Array.replicate (fn.ntmps-dn.size) undef,defers:=[] } w:=Rel.begin hn hl hlen hr;refine ahz (nI hG ib hm c _ _ _ _ _ w (λ_ _ h=>h) rfl R h) ?_;intro e a' w' he
 have fin:(∃ g' S H,g'.old=Old.plain old w∧Rel P w n dh g' S H a' w'∧∃ t f' fi ca,fn.results.toList=[.tmp t]∧t < n∧S t = .func f' fi ca∧out = .ret (fz H (S t))) →
   a'.defers=[]/\∃v,(results fn a'.tmps).run P w'=.ok v w'/\Ends P old w out (.returned v) w':=by
  rintro⟨g',S,H,e1,R',t,f',fi,ca,hrs,ht,hS,rfl⟩
  have abW:fn.results=#[.tmp t]:=by
   rw[<-Array.toArray_toList (xs:=fn.results),hrs]
  have hv:=R'.fz (R'.slot t ht id) true (λ_=>rfl)
  have Hs:∀b,(∃i,g'.al i=some b)->g'.base<=b/\g'.hi b=0/\∃vs ty,w'.heap[b]?=some (.cells vs ty (0,0)):=by
   rintro b ⟨i,hi⟩;obtain⟨cs,vs,ty,h1,h2,h3,h4,_⟩:=R'.box i b hi;exact⟨h2,h4,vs,ty,h3⟩
  let eJ:Nat->Nat:=λb=>if∃i,g'.al i=some b then(match w'.heap[b]? with|some (.cells vs _ _)=>vs.size|_=>0)else g'.hi b
  have rQ:∀b k,g'.Pr b k->qG w.heap.size old eJ b k:=by
   intro b k hp
   rcases hp with⟨q1,q2⟩|⟨q1,q2⟩
   .exact .inl ⟨by rw[<-R'.base];exact q1,by rw[e1]at q2;exact q2⟩
   .refine .inr ⟨by rw[<-R'.base];exact q1,?_⟩;show k<(if∃i,g'.al i=some b then _ else g'.hi b);rw[if_neg]
    .exact q2
    .intro hex;rw[(Hs b hex).2.1]at q2;omega
  refine⟨by rw[R'.defers,e1];rfl,a'.tmps.getD t undef,by simp[results,abW],?_,eJ,λb hb=>?_,_,rfl,?_,?_⟩
  .have:=R'.below;rwa [R'.base]at this
  .show(if∃i,g'.al i=some b then _ else g'.hi b)=0;rw[if_neg]
   .exact(R'.fresh b hb).1
   .intro hex;obtain⟨_,_,vs,ty,h3⟩:=Hs b hex;have:=(aea.1 h3).1;omega
  .refine hv.mono ?_ (λ_ _ h=>h);refine{ cell:=λb k hp u hu=>⟨?_,hu⟩,map:=λb hp es cc O0=>⟨?_,O0⟩ }
   .rcases hp with hp|⟨_,hex⟩
    .exact rQ b k hp
    .obtain⟨h1,h2,vs,ty,h3⟩:=Hs b hex;refine .inr ⟨by rw[<-R'.base];exact h1,?_⟩;show k<(if∃i,g'.al i=some b then _ else g'.hi b);rw[if_pos hex,h3];simp[World.cell?,h3]at hu;exact(aea.1 hu).1
   .rcases hp with hp|⟨_,hex⟩
    .exact rQ b 0 hp
    .obtain⟨h1,h2,vs,ty,h3⟩:=Hs b hex;rw[h3]at O0;cases O0
  .rw[hS];simp only[fz]
   trivial
 cases e with
 |normal=>exact fin he
 |ret=>exact fin he
 |exit id=>obtain⟨_,_,_,_,_,h⟩:=he;exact h.elim
 |panic chain=>obtain⟨_,_,_,_,_,_,_,_,_,_,h⟩:=he;exact h.elim
 |goto l=>exact he.elim
 |outgrown=>exact he.elim
end
def oc{α:Type}{p A b s:α->Prop}{o:α}(h:A o)(k:s o)(hp:p o:=by kernel_rfl)(hb:b o:=by simp[bT,aF]):∃o,p o/\A o/\b o/\s o:=⟨o,hp,h,hb,k⟩
inductive TT(α:Type) where
 |lf (v:α)
 |nd (a b c d:TT α)
namespace TT
variable{α:Type}
noncomputable def G(z:α)(k:Nat):TT α->Nat->α:=
 Nat.rec (motive:=λ_=>TT α->Nat->α) (λt _=>match t with|.lf v=>v|.nd ..=>z)
  (λ_ ih t i=>match t with
   |.lf v=>v
   |.nd a b c d=>bif Nat.beq (i % 4) 0 then ih a (i/4)else bif Nat.beq (i % 4) 1 then ih b (i/4)else bif Nat.beq (i % 4) 2 then ih c (i/4)else ih d (i/4)) k
noncomputable def P(k:Nat):TT α->Nat->α->TT α:=
 Nat.rec (motive:=λ_=>TT α->Nat->α->TT α) (λ_ _ v=>.lf v)
  (λ_ ih t i v=>match t with
   |.lf x=>bif Nat.beq (i % 4) 0 then .nd (ih (.lf x) (i/4) v) (.lf x) (.lf x) (.lf x)else bif Nat.beq (i % 4) 1 then .nd (.lf x) (ih (.lf x) (i/4) v) (.lf x) (.lf x)else bif Nat.beq (i % 4) 2 then .nd (.lf x) (.lf x) (ih (.lf x) (i/4) v) (.lf x)else .nd (.lf x) (.lf x) (.lf x) (ih (.lf x) (i/4) v)
   |.nd a b c d=>bif Nat.beq (i % 4) 0 then .nd (ih a (i/4) v) b c d else bif Nat.beq (i % 4) 1 then .nd a (ih b (i/4) v) c d else bif Nat.beq (i % 4) 2 then .nd a b (ih c (i/4) v) d else .nd a b c (ih d (i/4) v)) k
noncomputable def M(f:α->α)(k:Nat):TT α->TT α:=
 Nat.rec (motive:=λ_=>TT α->TT α) (λt=>match t with|.lf v=>.lf (f v)|t=>t)
  (λ_ ih t=>match t with
   |.lf v=>.lf (f v)
   |.nd a b c d=>.nd (ih a) (ih b) (ih c) (ih d)) k
end TT
abbrev TS:=TT AV
abbrev TH:=TT (Option (List AV))
noncomputable def gT(s:TS):au:=λt=>bif Nat.ble 256 t then a_ else s.G a_ 4 t
noncomputable def gU(h:TH):aD:=λt=>bif Nat.ble 256 t then none else h.G none 4 t
noncomputable def Fg{α:Type}(s:TT α)(i:Nat)(v:α):Option (TT α):=bif Nat.ble 256 i then none else some (s.P 4 i v)
noncomputable def QM(d:Nat)(s:TS):TS:=s.M (bt d) 4
noncomputable def YN(s:TS):Option Nat->AV->Option TS
 |some d,v=>Fg s d v
 |none,_=>some s
noncomputable def ab4(e:aM)(dst:Option Nat)(s:TS)(h:TH):Option (TS×TH):=
 match(match e.dm with|some t=>Fg s t (gT s t).bC|none=>some s)with
 |none=>none
 |some s1=>match YN s1 dst e.v with
  |none=>none
  |some s2=>match e.hw with
   |some (i,cs)=>match Fg h i (some cs)with
    |some h'=>some (s2,h')
    |none=>none
   |none=>some (s2,h)
inductive Rh where
 |go (s:TS) (h:TH)|panic (v:AV)
noncomputable def Rh.on(K:au->aD->Prop)(Qp:AV->Prop):Rh->Prop
 |.go s h=>K (gT s) (gU h)
 |.panic v=>Qp v
noncomputable def nz(dst:Option Nat)(s:TS)(h:TH):jr->Option Rh
 |.ret v=>(YN s dst v).map λs'=>.go s' h
 |.panic v=>some (.panic v)
section
variable{P:Program}{GI:World->Prop}{call:D0}(nq:∀f args out,call f args=some out->AC P GI f args out)
include nq
end
end Go.AL
namespace Go.AL
open Go.RowKit
def XC:fg->au->aD->Option aM
 |.mv take x=>λS H=>if take then some { v:=ev S x,dm:=bj x }else some { v:=(ev S x).bC }
 |.pick c a b=>λS H=>match ev S c with
  |.bool t=>some { v:=(if t then ev S a else ev S b).bC }
  |_=>none
 |.build zero parts=>λS H=>(cD zero (parts.map λ(o,s,x)=>(o,s,ev S x))).map λcs=>{ v:=.agg cs }
 |.buildSlice _ e size parts=>λS H=>
  if br size (parts.map (ev S))&&parts.length*size<=16777216 then some { v:=.slice (.own e) ((parts.map (ev S)).map AV.vw) }else none
 |.load hr agg size x=>λS H=>match ev S x with
  |.box i off=>if hr.okB i then match H i with
   |some cs=>(bu agg size (cs.drop off)).map λv=>{ v:=v }
   |none=>none
   else none
  |.ref cs=>(bu agg size cs).map λv=>{ v:=v }
  |_=>none
 |.loadT hr x=>λS H=>match ev S x with
  |.box i off=>if hr.okB i then match H i with
   |some cs=>match cs[off]? with
    |some v=>some { v:=v,hw:=some (i,cs.set off v.bC) }
    |none=>none
   |none=>none
   else none
  |_=>none
 |.store hr size x y=>λS H=>match ev S x with
  |.box i off=>if hr.okB i then match H i with
   |some cs=>if (ev S y).cells.length=size∧off+size≤cs.length∧(ev S y).storable=true then
     some { v:=a_,dm:=bj y,hw:=some (i,aP cs off (ev S y).aZ) }else none
   |none=>none
   else none
  |_=>none
 |.bin op x y=>λS H=>(bV op (ev S x) (ev S y)).map λv=>{ v:=v }
 |.DD neg x y=>λS H=>match ev S x,ev S y with
  |.bool a,.bool b=>some { v:=.bool (if neg then a !=b else a==b) }
  |_,_=>none
 |.eqs neg k x y=>λS H=>match ev S x,ev S y with
  |.agg xs,.agg ys=>match lv xs,lv ys with
   |some a,some b=>if a.length=k/\b.length=k then some { v:=.bool (if neg then a !=b else a==b) }else none
   |_,_=>none
  |_,_=>none
 |.nJ ag len size x i=>λS H=>match ev S x,ev S i with
  |.agg cs,.int .i64 k=>if 0<=k/\k<len then(bu ag size (cs.drop (k.toNat*size))).map λv=>{ v:=v }else none
  |_,_=>none
 |.pO xs=>λS H=>if(xs.map (ev S)).all CX then some { v:=.iH (xs.map (ev S)) }else none
 |.pV len x i=>λS H=>match ev S x,ev S i with
  |.iH fs,.int .i64 k=>if 0≤k∧k < len then match fs[k.toNat]? with
    |some v=>if CX v then some { v:=v }else none
    |none=>none
   else none
  |_,_=>none
 |.Aw x=>λS H=>match ev S x with
  |.slice _ es=>(bytesOf es).map λl=>{ v:=.str l }
  |_=>none
 |.lookup k z x i=>λS H=>match ev S x,ev S i with
  |.map ks vs,.agg c=>match lv c with
   |some key=>if key.length=k then match pM key ks vs with
     |some (some v)=>some { v:=.ea [v.bC,.bool true] }
     |some none=>some { v:=.ea [z,.bool false] }
     |none=>none
    else none
   |none=>none
  |_,_=>none
 |.not x=>λS H=>match ev S x with
  |.bool b=>some { v:=.bool !b }
  |_=>none
 |.conv k x=>λS H=>match ev S x with
  |.int _ n=>some { v:=.int k (k.wrap n) }
  |_=>none
 |.iface t x=>λS H=>if(ev S x).storable then some { v:=.iface t (ev S x).vw }else none
 |.F0 fn first cap=>λS H=>some { v:=.func fn (first.map λx=>(ev S x).bC) (cap.map λx=>(ev S x).bC) }
 |.pR x lo hi=>λS H=>match ev S x with
  |.str l=>match bound (lo.map (ev S)) 0,bound (hi.map (ev S)) l.length with
   |some a,some b=>if 0<=a/\a<=b/\b<=l.length then some { v:=.str ((l.take b.toNat).drop a.toNat) }else none
   |_,_=>none
  |_=>none
 |.qM len x=>λS H=>match ev S x with
  |.ref cs=>if cs.length=len then some { v:=.slice .view cs }else none
  |_=>none
 |.oR size x lo hi=>λS H=>match ev S x with
  |.slice _ es=>match bound (lo.map (ev S)) 0,bound (hi.map (ev S)) es.length with
   |some a,some b=>if 0<=a/\a<=b/\b<=es.length/\br size es=true then some { v:=.slice .view ((es.take b.toNat).drop a.toNat) }else none
   |_,_=>none
  |_=>none
 |.fieldAddr off x=>λS H=>match ev S x with
  |.box i o=>some { v:=.box i (o+off) }
  |.ref cs=>some { v:=.ref (cs.drop off) }
  |_=>none
 |.indexAddr size x i=>λS H=>match ev S x,ev S i with
  |.slice _ es,.int .i64 k=>if 0≤k then match es[k.toNat]? with
    |some v=>if v.cells.length=size then some { v:=.ref v.cells }else none
    |none=>none
   else none
  |_,_=>none
 |.pS x i=>λS H=>match ev S x,ev S i with
  |.str l,.int .i64 k=>if 0≤k then match l[k.toNat]? with
    |some b=>some { v:=.int .u8 b.toNat }
    |none=>none
   else none
  |_,_=>none
 |.extract x i=>λS H=>match ev S x with
  |.ea vs=>(vs[i]?).map λv=>{ v:=v.bC }
  |_=>none
 |.AD x=>λS H=>match ev S x with
  |.str l=>some { v:=.int .i64 l.length }
  |_=>none
 |.lK x=>λS H=>match ev S x with
  |.slice _ es=>some { v:=.int .i64 es.length }
  |_=>none
 |.isNil neg x=>λS H=>match ev S x with
  |.slice _ es=>some { v:=if es.isEmpty then .mW else .bool neg }
  |_=>none
 |.empty _=>λS H=>some { v:=.slice .nil [] }
 |.append _ e size _ x y=>λS H=>match ev S x,ev S y with
  |.slice .nil [],.slice _ ys=>if br size ys&&ys.length<1048576 then some { v:=.slice (if ys.isEmpty then .nil else .own e) ys }else none
  |.slice (.own e') xs,.slice _ ys=>if e'=e/\(br size ys&&br size xs&&(xs.length+ys.length<1048576))=true then some { v:=.slice (.own e) (xs++ys),dm:=bj x }else none
  |_,_=>none
 |.max x y=>λS H=>match ev S x,ev S y with
  |.int .i64 a,.int .i64 b=>some { v:=.int .i64 (max a b) }
  |_,_=>none
 |.min x y=>λS H=>match ev S x,ev S y with
  |.int .i64 a,.int .i64 b=>some { v:=.int .i64 (min a b) }
  |_,_=>none
 |.assert t zero x=>λS H=>match ev S x with
  |.iface t' v=>some { v:=if t'=t then .ea [v,.bool true]else .ea [zero,.bool false] }
  |.qF=>some { v:=.ea [zero,.bool false] }
  |_=>none
 |_=>λS H=>none
noncomputable def pd:fg->(P:Program)->(call:D0)->(dst:Option Nat)->(s:TS)->(h:TH)->Option Rh
 |.alloc _ zero=>λ_ _ dst s h=>match dst with
  |some d=>match Fg (QM d s) d (.box d 0),Fg h d (some zero)with
   |some s',some h'=>some (.go s' h')
   |_,_=>none
  |none=>none
 |.box _ size x=>λ_ _ dst s h=>match dst with
  |some d=>if (ev (gT s) x).cells.length=size∧(ev (gT s) x).storable=true then
    match Fg (QM d s) d (.box d 0),Fg h d (some ((ev (gT s) x).cells.map AV.bC))with
    |some s',some h'=>some (.go s' h')
    |_,_=>none
   else none
  |none=>none
 |.call f args=>λP call dst s h=>match Uc P call f (args.map λy=>fz (gU h) (ev (gT s) y)) (args.any λy=>bT (ev (gT s) y))with
  |some out=>nz dst s h out
  |none=>none
 |.ig f args=>λP call dst s h=>match ev (gT s) f with
  |.func (.func k) first cap=>match Uc P call k ((first++args.map (ev (gT s))++cap).map (fz (gU h))) ((first++args.map (ev (gT s))++cap).any bT)with
   |some out=>nz dst s h out
   |none=>none
  |_=>none
 |.panic x=>λ_ _ _ s _=>match ev (gT s) x with
  |.iface t v=>some (.panic (.iface t v))
  |_=>none
 |op=>λ_ _ dst s h=>match XC op (gT s) (gU h)with
  |some e=>(ab4 e dst s h).map λ(s',h')=>.go s' h'
  |none=>none
section
variable{P:Program}{GI:World->Prop}{n:Nat}{S:au}{H:aD}{a:Act}{w:World}{ro:Option Nat}{m:Nat}{Q:Exit->Act->World->Prop}
def Rel.V_ (c:Nat→Nat→Prop) (cM:a.tmps.size=n) (fq:a.defers=[]) (hS:∀ t,t < n→(S t).bC=S t∧RV c dW w (S t) (a.tmps.getD t undef)) :
  Rel P w n dh { base:=w.heap.size,old:=Old.plain c w,al:=dW,hi:=λ_=>0,owner:=λ_=>none } S (λ_=>none) a w:={
 size:=cM
 defers:=fq
 facts _ h:=by cases h
 slot t ht _:=(hS t ht).2.mono (cC.same λb k aN hp=>.inl ⟨aN,hp⟩) (λ_ _ h=>h)
 own t ht _:=by rw[<-(hS t ht).1];exact fp.bC
 box i b h:=by cases h
 kF i cs h:=by cases h
 kE i _:=rfl
 inj i j b h:=by cases h
 base:=rfl
 below:=afb _ _
 fresh b _:=⟨rfl,rfl⟩
 still:=⟨λ_ _ h=>h.elim,λ_ h=>h.elim⟩
 grown:=aed _
 kept _ _ h:=by cases h }
def cI {ops:Array Oper} {i:Nat} {rest:List Nat} {o:Oper} (ho:ops[i]? = some o) (hg:o.guard=none) (eK:fk o.op=true) {v:Value} {w':World}
  (hr:(execOp a.eval o).run P w=.ok (.value v) w') (hk:wpOpsIn (FR ro) m P ops Q rest (a.put o.dst v) w'):wpOpsIn (FR ro) m P ops Q (i::rest) a w:=by
 simp only[wpOpsIn,ho]
 have:Region.wanted o (yielded ops a.tmps)=true:=by simp[Region.wanted,hg]
 rw[if_pos this];refine⟨λ_ _=>trivial,?_⟩;rw[afE _ _ _ (λc hc=>by rw[hc]at eK;cases eK),hr];exact hk
def fD {ops:Array Oper} {i:Nat} {rest:List Nat} {o:Oper} (ho:ops[i]? = some o) (hg:o.guard=none) (eK:fk o.op=true) {w':World}
  (hr:(execOp a.eval o).run P w=.ok .skip w') (hk:wpOpsIn (FR ro) m P ops Q rest (a.put o.dst undef) w'):wpOpsIn (FR ro) m P ops Q (i::rest) a w:=by
 simp only[wpOpsIn,ho]
 have:Region.wanted o (yielded ops a.tmps)=true:=by simp[Region.wanted,hg]
 rw[if_pos this];refine⟨λ_ _=>trivial,?_⟩;rw[afE _ _ _ (λc hc=>by rw[hc]at eK;cases eK),hr];exact hk
def il {ops:Array Oper} {i:Nat} {rest:List Nat} {o:Oper} (ho:ops[i]? = some o) (hg:o.guard=none) (eK:fk o.op=true) {f:Nat} {args:Array Value} {w':World}
  (hr:(execOp a.eval o).run P w=.ok (.enter f args) w') {R:Ending->World->Prop} (hc:Calls P f args w' R) (hk:∀e j0,R e j0->∃v,e=.returned v/\wpOpsIn (FR ro) m P ops Q rest (a.put o.dst v) j0):wpOpsIn (FR ro) m P ops Q (i::rest) a w:=by
 simp only[wpOpsIn,ho]
 have:Region.wanted o (yielded ops a.tmps)=true:=by simp[Region.wanted,hg]
 rw[if_pos this];refine⟨λ_ _=>trivial,?_⟩;rw[afE _ _ _ (λc hc=>by rw[hc]at eK;cases eK),hr];refine⟨λh=>by simp[FR,Fence.wide]at h,jD.2 (hc.mono λe j0 hh=>?_)⟩;obtain⟨v,rfl,h⟩:=hk e j0 hh;exact h
def KM {ops:Array Oper} {i:Nat} {rest:List Nat} {o:Oper} (ho:ops[i]? = some o) (hg:o.guard=none) (eK:fk o.op=true) {l f:Nat} {tmps:Array Value} {C4 bd:Code} {w':World}
  (hr:(execOp a.eval o).run P w=.ok (.round l f tmps C4 bd) w') {R:Ending->World->Prop} (hc:∀m,RoundIn (FR none) m P l f tmps C4 bd w' R) (hk:∀e j0,R e j0->∃v,e=.returned v/\wpOpsIn (FR none) m P ops Q rest (a.put o.dst v) j0):wpOpsIn (FR none) m P ops Q (i::rest) a w:=by
 simp only[wpOpsIn,ho]
 have:Region.wanted o (yielded ops a.tmps)=true:=by simp[Region.wanted,hg]
 rw[if_pos this];refine⟨λ_ _=>trivial,?_⟩;rw[afE _ _ _ (λc hc=>by rw[hc]at eK;cases eK),hr];refine⟨λh=>by simp[FR,Fence.wide]at h,(hc (m-1)).mono λe j0 hh=>?_⟩;obtain⟨v,rfl,h⟩:=hk e j0 hh;exact h
def LL(K:Act->World->Prop)(Q:Exit->Act->World->Prop):Exit->Act->World->Prop
 |.normal,a,w=>K a w
 |e,a,w=>Q e a w
def FP{F:Fence}{o:Oper}{K K':Act->World->Prop}(h:o.wpIn F m P a w K' (LL K Q)):o.wpIn F m P a w K' Q:=by
 unfold Oper.wpIn at*
 refine⟨h.1,?_⟩;have h2:=h.2
 generalize(o.semAt F.round a.eval).run P w=r at*
 cases r with
 |ok x w'=>
  cases x<;>simp only[Oper.uponIn]at h2⊢<;>first
   |exact h2
   |exact⟨h2.1,ahb h2.2 (λe j0 he=>by cases e<;>exact he)⟩
   |exact⟨h2.1,aho h2.2 (λ_ _ he=>he)⟩
   |exact⟨h2.1,ahc h2.2 (λe j0 he=>by cases e<;>exact he)⟩
 |halt x w'=>cases x<;>simp only[Oper.uponIn]at h2⊢<;>exact h2
def pU(ops:Array Oper):Nat->Nat->Array Bool->Bool
 |0,_,listed=>Region.ready .any ops listed==[]
 |k+1,i,listed=>Region.ready .any ops listed==[i]&&pU ops k (i+1) (listed.setIfInBounds i true)
def Eg(ops:Array Oper)(p:Nat):Nat->Array Bool->Array Bool->Bool
 |0,la,l=>(Region.ready .any (ops.extract 0 p) la==[])&&pU ops (ops.size-p) p l
 |k+1,la,l=>let r:=Region.ready .any ops l
  r !=[]&&r==Region.ready .any (ops.extract 0 p) la&&r.all (λi=>decide (i<p)&&Eg ops p k (la.setIfInBounds i true) (l.setIfInBounds i true))
def cutAt(ops:Array Oper)(p:Nat):Bool:=
 decide (p<=ops.size)&&ops.all (λo=>o.guard.isNone)&&Eg ops p p (Array.replicate p false) (Array.replicate ops.size false)
def xU{F:Fence}{ops:Array Oper}(hg:ops.all (λo=>o.guard.isNone)=true):∀(k i:Nat)(l:Array Bool)(a:Act)(w:World),pU ops k i l=true->wpOpsIn F m P ops Q (List.range' i k) a w->wpAnyIn F m P .any ops Q k l a w
 |0,i,l,a,w,h,hh=>⟨by simpa[pU]using h,hh⟩
 |k+1,i,l,a,w,h,hh=>by
  simp only[pU,aeb,aeS]at h;refine⟨λhr=>(by rw[hr]at h;cases h.1),λj hj=>?_⟩;rw[h.1,aev]at hj;subst hj;simp only[afJ]at hh;rw[wpOpsIn_cons]at hh;exact wpOpIn_mono (λa w hq=>xU hg k _ _ a w h.2 hq) hh
def tR {F:Fence} {ops:Array Oper} {p:Nat} (hp:p≤ops.size) (hg:ops.all (fun o=>o.guard.isNone)=true):∀ (k:Nat) (la l:Array Bool) (a:Act) (w:World),Eg ops p k la l=true →
  wpAnyIn F m P .any (ops.extract 0 p) (LL (wpOpsIn F m P ops Q (List.range' p (ops.size-p))) Q) k la a w->wpAnyIn F m P .any ops Q (k+(ops.size-p)) l a w
 |0,la,l,a,w,h,hh=>by
  simp only[Eg,aeb]at h;rw[aeP];exact xU hg _ _ _ a w h.2 hh.2
 |k+1,la,l,a,w,h,hh=>by
  simp only[Eg,aeb,agU,ne_eq,aeS,aeh,aej]at h;obtain⟨⟨h1,h2⟩,h3⟩:=h;rw[show k+1+(ops.size-p)=(k+(ops.size-p))+1 by omega];refine⟨λhr=>absurd hr h1,λi hi=>?_⟩
  have eJ:i∈Region.ready .any (ops.extract 0 p) la:=by rw[<-h2];exact hi
  obtain⟨zL,hc⟩:=h3 i hi;have hs:=hh.2 i eJ;unfold wpOpIn at hs⊢
  have jL:(ops.extract 0 p)[i]?=ops[i]?:=by
   rw[afQ]
   have:i<min p ops.size-0:=zo
   rw[if_pos this,aeP]
  rw[jL]at hs
  cases ho:ops[i]? with
  |none=>rw[ho]at hs;exact tR hp hg k _ _ a w hc hs
  |some o=>
   rw[ho]at hs
   have sL:o.guard=none:=by
    have:=afn.1 hg o (afg ho);simpa using this
   have hw:∀y,Region.wanted o y=true:=λy=>by simp[Region.wanted,sL]
   simp only[hw,aeH]at hs⊢;exact agW (λa w hq=>tR hp hg k _ _ a w hc hq) (FP hs)
def RP (hm:P.follows .mixedOrders=true) {F:Fence} {id:Nat} {ops:Array Oper} {p:Nat} (h:cutAt ops p=true)
  (hh:wpAnyIn F m P .any (ops.extract 0 p) (LL (wpOpsIn F m P ops Q (List.range' p (ops.size-p))) Q) p (Array.replicate p false) a { w with drawn:=w.drawn+1 }):(Code.region id ops true).wpIn F m P Q a w:=by
 simp only[cutAt,aeb,aej]at h;refine afN hm ?_;have:=tR h.1.1 h.1.2 p _ _ a _ h.2 hh;rwa [show p+(ops.size-p)=ops.size by omega]at this
def gI{F:Fence}{md:Region.Mode}{ops:Array Oper}{Q':Exit->Act->World->Prop}(hQ:∀e a w,Q e a w->Q' e a w):∀(fuel:Nat)(l:Array Bool)(a:Act)(w:World),wpAnyIn F m P md ops Q fuel l a w->wpAnyIn F m P md ops Q' fuel l a w
 |0,_,_,_,h=>⟨h.1,hQ _ _ _ h.2⟩
 |k+1,l,a,w,h=>⟨fun hr=>hQ _ _ _ (h.1 hr),fun i hi=>by
   have hs:=h.2 i hi;unfold wpOpIn at hs⊢
   cases ho:ops[i]? with
   |none=>rw[ho]at hs;exact gI hQ k _ a w hs
   |some o=>
    rw[ho]at hs;simp only at hs⊢;split
    .rename_i hw;rw[if_pos hw]at hs;have hs:=agW (λa w hq=>gI hQ k _ a w hq) hs
     unfold Oper.wpIn at*
     refine⟨hs.1,?_⟩;have h2:=hs.2
     generalize(o.semAt F.round a.eval).run P w=r at*
     cases r with
     |ok x w'=>
      have vv:LetsOut Q->LetsOut Q':=λ⟨a,w,h⟩=>⟨a,w,hQ _ _ _ h⟩
      cases x<;>simp only[Oper.uponIn]at h2⊢<;>first
       |exact h2
       |exact⟨h2.1,ahb h2.2 (λe j0 he=>by cases e<;>first|exact he|exact hQ _ _ _ he|exact vv he)⟩
       |exact⟨h2.1,aho h2.2 (λ_ _ he=>he)⟩
       |exact⟨h2.1,ahc h2.2 (λe j0 he=>by cases e<;>first|exact he|exact hQ _ _ _ he|exact vv he)⟩
     |halt x w'=>cases x<;>simp only[Oper.uponIn]at h2⊢<;>first|exact h2|exact hQ _ _ _ h2
    .rename_i hw;rw[if_neg hw]at hs
     exact⟨hs.1,gI hQ k _ _ w hs.2⟩⟩
end
def jS(Pr:Nat->Nat->Prop)(w:World)(size:Nat)(es:List AV)(xs:List Value):Prop:=
 (∀x∈es,x.cells.length=size/\x.storable=true/\∀c∈x.cells,c.one=true)/\∀j (h:j<es.length) k (hk:k<(es[j]).cells.length),∃u,xs[j*size+k]?=some u/\RD Pr w ((es[j]).cells[k]) u
def jS.mono{Pr fE:Nat->Nat->Prop}{w w':World}{size:Nat}{es:List AV}{xs:List Value}(h:jS Pr w size es xs)(hk:cC Pr fE w w'):jS fE w' size es xs:=
 ⟨h.1,λj hj k Eh=>let⟨u,h1,h2⟩:=h.2 j hj k Eh;⟨u,h1,h2.mono hk⟩⟩
def RD.ofRow {Pr:Nat→Nat→Prop} {w:World} {base:Nat} {e:TypeId} {size:Nat} {v:Value} {es:List AV} {xs:List Value} (dX:w.ownsRow base e size v es.length xs) (hf:jS Pr w size es xs)
  (Kq:∀b,v.ownBlock=some b->∀k,k<es.length*size->Pr b k):RD Pr w (.slice .view es) v:=by
 rcases dX.2 with⟨rfl,hn⟩|⟨g,cap,cur,rfl,pL,hg,Bs,A2,tZ,BG⟩
 .have:es=[]:=aeT hn;subst this;exact .jm _
 .refine .slice _ es g 0 cap size (λk=>xs.getD k undef) Bs (λh=>by cases h) (λi h=>(hf.1 _ (ad2 h)).1) (λi h j hj=>(hf.1 _ (ad2 h)).2.2 _ (ad2 hj)) (λk hk=>⟨?_,?_⟩) (λi h j hj=>?_)
  .rw[aeP];exact Kq g rfl k hk
  .have aN:k<xs.length:=by rw[dX.1];exact hk
   have:=dX.cells (g:=g) rfl k _ (ad_ aN);rw[afh]at this;simp only[aeY,ad_ aN,Option.getD_some];exact this
  .obtain⟨u,h1,h2⟩:=hf.2 i h j hj;simpa[h1]using h2
def RD.Zv{Pr:Nat->Nat->Prop}{w:World}{o:Ow}{es:List AV}{c:Value}(h:RD Pr w (.slice o es) c)(e:TypeId):RD Pr w (.slice (.own e) es) c:=by
 cases h with
 |jm=>exact .jm _
 |kj _ a=>exact .kj _ a
 |slice _ _ b off cap size cs gq hn cM h1 hc hr=>exact .slice _ es b off cap size cs gq (λh=>by cases h) cM h1 hc hr
def oQ(e:TypeId)(v:Value)(es:List AV):AV:=match v.ownBlock with
 |some _=>.slice (.own e) es
 |none=>.slice .nil []
def RD.Eo{Pr fE:Nat->Nat->Prop}{w:World}{o:Ow}{c:Value}(h:RD Pr w (.slice o []) c):RD fE w (.slice .view []) c:=by
 cases h with
 |jm=>exact .jm _
 |kj _ a=>exact .kj _ a
 |slice _ _ b off cap size cs gq hn cM h1 hc hr=>exact .slice _ [] b off cap size cs gq (λh=>by cases h) (λi h=>by simp at h) (λi h=>by simp at h) (λk h=>by simp at h) (λi h=>by simp at h)
def jS.Of {Pr:Nat→Nat→Prop} {w:World} {base:Nat} {e:TypeId} {size:Nat} {o:Ow} {c:Value} {es:List AV} {xs:List Value} (hr:RD Pr w (.slice o es) c) (dX:w.ownsRow base e size c es.length xs)
  (oI:∀x∈es,x.cells.length=size/\x.storable=true/\∀c∈x.cells,c.one=true) (EN:∀x∈es,∀c∈x.cells,jl c=true):jS (λ_ _=>False) w size es xs:=by
 refine⟨oI,λj hj k hk=>?_⟩
 rcases hr.nV size (by simp only[br,aeh,aeb,aeS];exact λx hx=>⟨(oI x hx).2.1,(oI x hx).1⟩)with⟨rfl,_⟩|⟨b2,off,cap,news,ln,hl,hn,px,On⟩
 .simp at hj
 .obtain⟨u,u1,u2⟩:=On j hj k hk;refine⟨u,?_,u2.jl (EN _ (ad2 hj) _ (ad2 hk))⟩
  have aN:j*size+k<xs.length:=by
   rw[dX.1,<-hl];exact(aey.1 u1).1
  rcases dX.2 with⟨vp,h0⟩|⟨gg,MO,cur,FZ,_⟩
  .rw[aeT h0]at hj;simp at hj
  .have e1:=dX.cells (g:=gg) (by rw[FZ];rfl) _ _ (ad_ aN);have e2:=hn _ _ u1;rw[FZ]at ln;cases ln;rw[afh,aeP]at e1;rw[aeP]at e2;rw[e2]at e1;rw[ad_ aN,aeE e1]
section
variable{P:Program}{n:Nat}{S:au}{a:Act}{w:World}
def oe(pr:Nat->Nat->Prop)(w:World)(bN:Nat)(v:Value):Old:=
 { c:=pr,facts:=[],bx:=λ_=>False,ds:=[],cg:=λb=>if bN<b/\v.ownBlock≠some b then w.heap[b]? else none,sp:=λ_ _=>False,sw:=w,ok:=λ_ h=>by cases h }
def Rel.stack (pr:Nat→Nat→Prop) {bN nm:Nat} {v:Value} {e ty:TypeId} {i:TypeInfo} {es:List AV} {xs:List Value} (cM:a.tmps.size=n) (fq:a.defers=[])
  (hN:w.heap[bN]?=some (.cells #[v] ty (0,0))) (hi:P.info? e=some i) (dX:w.ownsRow (bN+1) e i.size v es.length xs) (hf:jS (λb k=>b<bN/\pr b k) w i.size es xs)
  (hS:∀t,t<n->(S t).bC=S t/\((S t=.box nm 0/\a.tmps.getD t undef=.pointer (some ⟨bN,0,none⟩))\/RV (λb k=>b<bN/\pr b k) dW w (S t) (a.tmps.getD t undef))):
  ∃g,g.old=oe pr w bN v/\g.base=bN/\g.al=(λj=>if j=nm then some bN else none)/\
   Rel P { w with heap:=w.heap.extract 0 bN } n dh g S (λj=>if j=nm then some [oQ e v es]else none) a w:=by
 have aN:=(aea.1 hN).1
 let g:Gh:={ base:=bN,old:=oe pr w bN v,al:=λj=>if j=nm then some bN else none,hi:=λb=>if v.ownBlock=some b then es.length*i.size else 0,owner:=λb=>if v.ownBlock=some b then some (.cell nm 0)else none }
 have rQ:∀b k,b<bN/\pr b k->g.Pr b k:=λb k h=>.inl h
 have qu:∀b,v.ownBlock=some b->bN<b/\b<w.heap.size:=λb hb=>dX.lt b hb
 have Dz:v.ownBlock≠some bN:=λh=>by have:=qu _ h;omega
 have px:v.oneCell'=true:=by
  rcases dX.2 with⟨rfl,_⟩|⟨_,_,_,rfl,_⟩<;>rfl
 have ec:RD g.Pr w (oQ e v es) v:=by
  unfold oQ
  rcases dX.2 with⟨rfl,hn⟩|⟨gg,cap,cur,rfl,pL,hg,Bs,A2,tZ,BG⟩
  .exact .jm _
  .simp only[Value.ownBlock]
   have h1:RD g.Pr w (.slice .view es) (.slice (some ⟨gg,0,none⟩) es.length cap):=RD.ofRow dX (hf.mono (cC.same λb k _ h=>rQ b k h)) (λb hb k hk=>by
    refine .inr ⟨by have:=(qu b hb).1;show bN<=b;omega,?_⟩;show k<(if _=some b then es.length*i.size else 0)
    rw[if_pos hb];exact hk)
   exact h1.Zv e
 refine⟨g,rfl,rfl,rfl,{ size:=cM,defers:=fq,facts:=λ_ h=>(by cases h),slot:=?_,own:=?_,box:=?_,kF:=?_,kE:=λi h=>h.elim,inj:=?_,base:=?_,below:=?_,fresh:=?_,still:=⟨λ_ _ h=>h.elim,λ_ h=>h.elim⟩,grown:=aed _,kept:=?_ }⟩
 .intro t ht _;rcases(hS t ht).2 with⟨h1,h2⟩|h
  .rw[h1,h2];exact .box _ _ _ (by simp[g])
  .exact h.mono (cC.same λb k _ h=>rQ b k h) (λ_ _ h=>by cases h)
 .intro t ht _;rw[<-(hS t ht).1];exact fp.bC
 .intro j b hj
  by_cases yk:j=nm
  .subst yk
   have hb:b=bN:=by simpa[g]using hj.symm
   subst hb;refine⟨[oQ e v es],#[v],ty,ah7,aed _,hN,by simp[g,Dz],by simp[g,Dz],rfl,λk hk dp=>?_,λk hk dp=>?_,λk hk=>?_⟩
   .have:k=0:=by simpa using hk
    subst this;exact ec
   .have:k=0:=by simpa using hk
    subst this;simp only[List.getElem_cons_zero,List.getElem_toArray];unfold oQ
    cases Dw:v.ownBlock with
    |none=>trivial
    |some b'=>
     refine⟨i,xs,b',hi,?_,Dw,by simp[g,Dw],by simp[g,Dw]⟩;refine⟨dX.1,?_⟩
     rcases dX.2 with h|⟨gg,cap,cur,rfl,pL,rest⟩
     .exact .inl h
     .exact .inr ⟨gg,cap,cur,rfl,afl (Nat.le_succ _) pL,rest⟩
   .have:k=0:=by simpa using hk
    subst this;simp only[List.getElem_cons_zero];unfold oQ
    cases v.ownBlock<;>rfl
  .simp[g,yk]at hj
 .intro j cs hj _
  by_cases yk:j=nm
  .subst yk;simp[g]
  .simp[yk]at hj
 .intro j k b hj hk
  by_cases yk:j=nm<;>by_cases zv:k=nm
  .rw[yk,zv]
  .simp[g,zv]at hk
  .simp[g,yk]at hj
  .simp[g,yk]at hj
 .show bN=(w.heap.extract 0 bN).size;simp;omega
 .refine⟨rfl,rfl,rfl,by simp;omega,λk hk=>?_⟩;have dp:k<bN:=hk;show w.heap[k]?=(w.heap.extract 0 bN)[k]?;rw[afQ,if_pos zo,aeP]
 .intro b hb
  have:v.ownBlock≠some b:=λh=>by have:=qu b h;omega
  simp[g,this]
 .intro b o h;simp only[g,oe]at h;split at h
  case isFalse=>cases h
  rename_i hc;refine⟨by show bN<=b;omega,h,by simp[g,hc.2],by simp[g,hc.2],λj hj=>?_⟩
  by_cases yk:j=nm
  .simp[g,yk]at hj;omega
  .simp[g,yk]at hj
def Rel.Rt {w0 w':World} {g':Gh} {S':au} {H':aD} {a':Act} (pr:Nat→Nat→Prop) {bN nm:Nat} {v:Value} {e:TypeId} {i:TypeInfo} {es':List AV} (hi:P.info? e=some i)
  (R:Rel P w0 n dh g' S' H' a' w') (hold:g'.old=oe pr w bN v) (iA:g'.base=bN) (vB:∀b,b<bN->w0.heap[b]?=w.heap[b]?) (j9:g'.al nm=some bN) (hH:H' nm=some [.slice (.own e) es'])
  (oI:∀x∈es',x.cells.length=i.size/\x.storable=true/\∀c∈x.cells,c.one=true) (EN:∀x∈es',∀c∈x.cells,jl c=true):
  ∃v' Dc xx,w'.heap[bN]?=some (.cells #[v'] Dc (0,0))/\w'.ownsRow (bN+1) e i.size v' es'.length xx/\jS (λ_ _=>False) w' i.size es' xx/\
   (∀b,b<w.heap.size->b≠bN->v.ownBlock≠some b->w'.heap[b]?=w.heap[b]?)/\∀b,v'.ownBlock=some b->v.ownBlock=some b\/w.heap.size<=b:=by
 obtain⟨cs,vs,ty,h1,h2,h3,h4,h5,h6,h7,h8,h9⟩:=R.box nm bN j9;rw[hH]at h1;cases h1;have uf:vs.size=1:=h6.symm
 obtain⟨v',qy⟩:∃v',vs=#[v']:=⟨vs[0],by
  apply afH
  .simpa using uf
  .intro j hj eX
   have:j=0:=zo
   subst this;rfl⟩
 subst qy;have hr:=h7 0 ah7 ah7;have ho:=h8 0 ah7 ah7;simp only[List.getElem_cons_zero,List.getElem_toArray]at hr ho;obtain⟨i',xs,b,k1,k2,k3,k4,k5⟩:=ho;rw[hi]at k1;cases k1
 have dR:b≠bN:=by
  rintro rfl;rw[h5]at k4;cases k4
 refine⟨v',ty,xs,h3,?_,⟨oI,λj hj k hk=>?_⟩,λb' iY Vg WM=>?_,λb' iY=>?_⟩
 .refine⟨k2.1,?_⟩
  rcases k2.2 with h|⟨gg,cap,cur,rfl,pL,rest⟩
  .exact .inl h
  .have:gg=b:=by simpa[Value.ownBlock]using k3
   subst this;exact .inr ⟨gg,cap,cur,rfl,by rw[iA]at pL;omega,rest⟩
 .rcases hr.nV i.size (by simp only[br,aeh,aeb,aeS];exact λx hx=>⟨(oI x hx).2.1,(oI x hx).1⟩)with⟨rfl,_⟩|⟨b2,off,cap,news,ln,hl,hn,px,On⟩
  .simp at hj
  .obtain⟨u,u1,u2⟩:=On j hj k hk;refine⟨u,?_,u2.jl (EN _ (ad2 hj) _ (ad2 hk))⟩
   have aN:j*i.size+k<xs.length:=by
    rw[k2.1,<-hl];exact(aey.1 u1).1
   have e1:=k2.cells k3 _ _ (ad_ aN);have e2:=hn _ _ u1
   rcases k2.2 with⟨vp,_⟩|⟨gg,MO,cur,FZ,_⟩
   .rw[vp]at k3;cases k3
   .rw[FZ]at ln k3
    have nL:gg=b:=by simpa[Value.ownBlock]using k3
    subst nL;cases ln;rw[afh,aeP]at e1;rw[aeP]at e2;rw[e2]at e1;rw[ad_ aN,aeE e1]
 .rcases afB b' bN with aN|Bw
  .have:=R.below.block b' (by rw[iA];exact aN);rw[this];exact vB b' aN
  .have IN:g'.old.cg b'=w.heap[b']? := by
    rw[hold];simp only[oe];rw[if_pos ⟨zo,WM⟩]
   have:w.heap[b']?=some (w.heap[b']):=by simp[iY]
   rw[this]at IN;rw[(R.kept b' _ IN).2.1,this]
 .rw[k3]at iY;cases iY;rcases afB b w.heap.size with aN|Bw
  .by_cases WM:v.ownBlock=some b
   .exact .inl WM
   .exfalso
    have mM:bN<=b:=by
     have:=(k2.lt b k3).1;rw[iA]at this;exact this
    have IN:g'.old.cg b=w.heap[b]?:=by
     rw[hold];simp only[oe];rw[if_pos ⟨zo,WM⟩]
    have:w.heap[b]?=some (w.heap[b]):=by simp[aN]
    rw[this]at IN;have:=(R.kept b _ IN).2.2.2.1;rw[k4]at this;cases this
  .exact .inr Bw
end
section
variable{P:Program}{GI:World->Prop}{n:Nat}{S:au}{H:aD}{a:Act}{w:World}{ro:Option Nat}{m:Nat}{Q Q':Exit->Act->World->Prop}{F:Fence}
def oT{o:Oper}{K K':Act->World->Prop}(hK:∀a w,K a w->K' a w)(hQ:∀e a w,e≠.normal->Q e a w->Q' e a w)(hs:o.wpIn F m P a w K Q):o.wpIn F m P a w K' Q':=by
 have hs:=agW hK hs
 unfold Oper.wpIn at*
 refine⟨hs.1,?_⟩;have h2:=hs.2
 generalize(o.semAt F.round a.eval).run P w=r at*
 have vv:LetsOut Q->LetsOut Q':=λ⟨a,w,h⟩=>⟨a,w,hQ _ _ _ ah7 h⟩
 cases r with
 |ok x w'=>
  cases x<;>simp only[Oper.uponIn]at h2⊢<;>first
   |exact h2
   |exact⟨h2.1,ahb h2.2 (λe j0 he=>by cases e<;>first|exact he|exact hQ _ _ _ ah7 he|exact vv he)⟩
   |exact⟨h2.1,aho h2.2 (λ_ _ he=>he)⟩
   |exact⟨h2.1,ahc h2.2 (λe j0 he=>by cases e<;>first|exact he|exact hQ _ _ _ ah7 he|exact vv he)⟩
 |halt x w'=>cases x<;>simp only[Oper.uponIn]at h2⊢<;>first|exact h2|exact hQ _ _ _ ah7 h2
def g_{ops:Array Oper}(hQ:∀e a w,Q e a w->Q' e a w):∀(l:List Nat)(a:Act)(w:World),wpOpsIn F m P ops Q l a w->wpOpsIn F m P ops Q' l a w
 |[],a,w,h=>hQ _ _ _ h
 |i::l,a,w,h=>by
  simp only[wpOpsIn]at h⊢
  cases ho:ops[i]? with
  |none=>simp only[ho]at h⊢;exact g_ hQ l a w h
  |some o=>
   simp only[ho]at h⊢;split
   .rename_i hw;rw[if_pos hw]at h;exact oT (λa w hh=>g_ hQ l a w hh) (λe a w _ hh=>hQ e a w hh) h
   .rename_i hw;rw[if_neg hw]at h;exact⟨h.1,g_ hQ l _ w h.2⟩
def fj(W:Nat->Bool)(a a':Act):Prop:=∀t,W t=false->a'.tmps.getD t undef=a.tmps.getD t undef
def fj.refl(W:Nat->Bool)(a:Act):fj W a a:=λ_ _=>rfl
def fj.trans{W:Nat->Bool}{a a' a'':Act}(h:fj W a a')(h':fj W a' a''):fj W a a'':=λt ht=>(h' t ht).trans (h t ht)
def fj.put{W:Nat->Bool}{a:Act}{d:Option Nat}(hd:∀t,d=some t->W t=true)(v:Value):fj W a (a.put d v):=by
 intro t ht
 cases d with
 |none=>rfl
 |some k=>
  have:t≠k:=by rintro rfl;rw[hd t rfl]at ht;cases ht
  simp[Act.put,aem (ae0 this)]
def sO{W:Nat->Bool}{o:Oper}{K:Act->World->Prop}(hd:∀t,o.dst=some t->W t=true)(h:o.wpIn F m P a w K Q):o.wpIn F m P a w (λa' w'=>K a' w'/\fj W a a') Q:=by
 unfold Oper.wpIn at*
 refine⟨h.1,?_⟩;have h2:=h.2
 generalize(o.semAt F.round a.eval).run P w=r at*
 cases r with
 |ok x w'=>
  cases x<;>simp only[Oper.uponIn]at h2⊢<;>first
   |exact⟨h2,fj.put hd _⟩
   |exact⟨h2,(fj.put (a:={ a with defers:=_ }) hd _:fj W { a with defers:=_ } _)⟩
   |exact⟨h2.1,ahb h2.2 (λe j0 he=>by cases e<;>first|exact⟨he,fj.put hd _⟩|exact he)⟩
   |exact⟨h2.1,aho h2.2 (λ_ _ he=>⟨he,fj.put hd _⟩)⟩
   |exact⟨h2.1,ahc h2.2 (λe j0 he=>by cases e<;>first|exact⟨he,fj.put hd _⟩|exact he)⟩
 |halt x w'=>cases x<;>simp only[Oper.uponIn]at h2⊢<;>exact h2
def kv(ops:Array Oper)(W:Nat->Bool):Bool:=ops.all λo=>match o.dst with|some t=>W t|none=>true
def kv.spec{ops:Array Oper}{W:Nat->Bool}(h:kv ops W=true){i:Nat}{o:Oper}(ho:ops[i]?=some o):∀t,o.dst=some t->W t=true:=by
 intro t ht;have:=afn.1 h o (afg ho);simpa[ht]using this
def A5(W:Nat->Bool)(a:Act)(Q:Exit->Act->World->Prop):Exit->Act->World->Prop
 |.normal,a',w'=>Q .normal a' w'/\fj W a a'
 |e,a',w'=>Q e a' w'
def A5.next{W:Nat->Bool}{X9 j3:Act}(h:fj W X9 j3):∀e a w,A5 W j3 Q e a w->A5 W X9 Q e a w:=by
 intro e a w hh
 cases e<;>first|exact hh|exact⟨hh.1,h.trans hh.2⟩
def jR{ops:Array Oper}{W:Nat->Bool}(hW:kv ops W=true):∀(l:List Nat)(a:Act)(w:World),wpOpsIn F m P ops Q l a w->wpOpsIn F m P ops (A5 W a Q) l a w
 |[],a,w,h=>⟨h,fj.refl _ _⟩
 |i::l,a,w,h=>by
  simp only[wpOpsIn]at h⊢
  cases ho:ops[i]? with
  |none=>simp only[ho]at h⊢;exact jR hW l a w h
  |some o=>
   simp only[ho]at h⊢;split
   .rename_i hw;rw[if_pos hw]at h;refine oT (λa' w' hh=>g_ (A5.next hh.2) l a' w' (jR hW l a' w' hh.1)) (λe a w dR hh=>?_) (sO (kv.spec hW ho) h)
    cases e<;>first|exact hh|exact absurd rfl dR
   .rename_i hw;rw[if_neg hw]at h;exact⟨h.1,g_ (A5.next (fj.put (kv.spec hW ho) _)) l _ w (jR hW l _ w h.2)⟩
def jM{ops:Array Oper}{md:Region.Mode}{W:Nat->Bool}(hW:kv ops W=true):∀(fuel:Nat)(l:Array Bool)(a:Act)(w:World),wpAnyIn F m P md ops Q fuel l a w->wpAnyIn F m P md ops (A5 W a Q) fuel l a w
 |0,l,a,w,h=>⟨h.1,h.2,fj.refl _ _⟩
 |k+1,l,a,w,h=>⟨fun hr=>⟨h.1 hr,fj.refl _ _⟩,fun i hi=>by
   have hs:=h.2 i hi;unfold wpOpIn at hs⊢
   cases ho:ops[i]? with
   |none=>rw[ho]at hs;exact jM hW k _ a w hs
   |some o=>
    rw[ho]at hs;simp only at hs⊢;split
    .rename_i hw;rw[if_pos hw]at hs;refine oT (λa' w' hh=>gI (A5.next hh.2) k _ a' w' (jM hW k _ a' w' hh.1)) (λe a w dR hh=>?_) (sO (kv.spec hW ho) hs)
     cases e<;>first|exact hh|exact absurd rfl dR
    .rename_i hw;rw[if_neg hw]at hs
     exact⟨hs.1,gI (A5.next (fj.put (kv.spec hW ho) _)) k _ _ w (jM hW k _ _ w hs.2)⟩⟩
def dS (hG:aQ GI) (hm:P.follows .mixedOrders=true) {id:Nat} {ops:Array Oper} {draw:Bool} (hc:lX (.region id ops draw)=true) {ac:ah} (pA:ez P n (.region id ops draw)=ac) {W:Nat→Bool} (hW:kv ops W=true) (ib:GI w) (pr:Nat→Nat→Prop) (S:au)
  (cM:a.tmps.size=n) (fq:a.defers=[]) (hS:∀t,t<n->(S t).bC=S t/\RV pr dW w (S t) (a.tmps.getD t undef)) {K:au->aD->Prop} (h:cW P GI ac (aq K) S (λ_=>none))
  (hk:∀g S' H' a' w',g.old=Old.plain pr w->Rel P w n dh g S' H' a' w'->K S' H'->fj W a a'->Q .normal a' w'):(Code.region id ops draw).wpIn (FR ro) m P Q a w:=by
 subst pA;have R:=Rel.V_ (P:=P) pr cM fq hS
 have fin:∀e a' w',A5 W a (QQ P w n (Old.plain pr w) (aq K)) e a' w'->Q e a' w':=by
  intro e a' w' hq
  cases e with
  |normal=>
   obtain⟨⟨g',S',H',h1,h2,h3⟩,h4⟩:=hq;exact hk g' S' H' a' w' h1 h2 h3 h4
  |exit id=>obtain⟨_,_,_,_,_,h⟩:=hq;exact h.elim
  |ret=>obtain⟨_,_,_,_,_,h⟩:=hq;exact h.elim
  |panic ch=>obtain⟨_,_,_,_,_,_,_,_,_,_,h⟩:=hq;exact h.elim
  |goto l=>exact hq.elim
  |outgrown=>exact hq.elim
 simp only[ez]at h
 cases draw with
 |true=>
  simp only[aeH]at h;split at h
  case isFalse=>exact h.elim
  rename_i df;exact afN hm (gI fin _ _ _ _ (jM hW _ _ _ _ (mQ hG ib hm (old:=Old.plain pr w) hc df (λ_ _ _ _ h=>h) rfl R h)))
 |false=>
  simp only[aek,aeA]at h;split at h
  case isFalse=>exact h.elim
  rename_i df;exact aeG (g_ fin _ _ _ (jR hW _ _ _ (sx hG ib (old:=Old.plain pr w) hc df (λ_ _ _ _ h=>h) rfl R h)))
def xQ (hm:P.follows .mixedOrders=true) {id:Nat} {ops:Array Oper} {draw:Bool} (hc:lX (.region id ops draw)=true) {ac:ah} (pA:ez P n (.region id ops draw)=ac) (Db:ac.names=[]) {W:Nat→Bool} (hW:kv ops W=true) (pr:Nat→Nat→Prop) (S:au)
  {bN nm tp:Nat} {v:Value} {e ty:TypeId} {i:TypeInfo} {es es':List AV} {xs:List Value} (UL:tp<n) (hWt:W tp=false) (adi:a.tmps.getD tp undef=.pointer (some ⟨bN,0,none⟩)) (cM:a.tmps.size=n) (fq:a.defers=[])
  (hN:w.heap[bN]?=some (.cells #[v] ty (0,0))) (hi:P.info? e=some i) (dX:w.ownsRow (bN+1) e i.size v es.length xs) (hf:jS (λb k=>b<bN/\pr b k) w i.size es xs)
  (hS:∀t,t<n->(S t).bC=S t/\((S t=.box nm 0/\a.tmps.getD t undef=.pointer (some ⟨bN,0,none⟩))\/RV (λb k=>b<bN/\pr b k) dW w (S t) (a.tmps.getD t undef)))
  (h:cW P (λ_=>True) ac (aq λS' H'=>S' tp=.box nm 0/\H' nm=some [.slice (.own e) es']) S (λj=>if j=nm then some [oQ e v es]else none))
  (oI:∀x∈es',x.cells.length=i.size/\x.storable=true/\∀c∈x.cells,c.one=true) (EN:∀x∈es',∀c∈x.cells,jl c=true)
  (hk:∀a' w' v' Dc xx,a'.tmps.size=n->a'.defers=[]->fj W a a'->w'.heap[bN]?=some (.cells #[v'] Dc (0,0))->w'.ownsRow (bN+1) e i.size v' es'.length xx->jS (λ_ _=>False) w' i.size es' xx->
   mY (λb=>b=bN\/v.ownBlock=some b) w w'->(∀b,v'.ownBlock=some b->v.ownBlock=some b\/w.heap.size<=b)->Q .normal a' w'):(Code.region id ops draw).wpIn (FR ro) m P Q a w:=by
 subst pA;obtain⟨g,oy,oN,hg3,R⟩:=Rel.stack (P:=P) (nm:=nm) (S:=S) (a:=a) pr cM fq hN hi dX hf hS;have aN:=(aea.1 hN).1
 have fin:∀e1 a' w',A5 W a (QQ P { w with heap:=w.heap.extract 0 bN } n (oe pr w bN v) (aq λS' H'=>S' tp=.box nm 0/\H' nm=some [.slice (.own e) es'])) e1 a' w'->Q e1 a' w':=by
  intro e1 a' w' hq
  cases e1 with
  |normal=>
   obtain⟨⟨g',S',H',h1,h2,h3⟩,h4⟩:=hq
   have nL:g'.base=bN:=by rw[h2.base];simp;omega
   have j9:g'.al nm=some bN:=by
    have hs:=h2.slot tp UL (λhh=>hh);rw[h3.1,h4 tp hWt,adi]at hs
    cases hs with
    |data _ _ h=>cases h
    |box _ _ b h=>exact h
   obtain⟨v',Dc,xx,k1,k2,k3,k4,k5⟩:=Rel.Rt (w:=w) pr hi h2 h1 nL (λb hb=>by
    show(w.heap.extract 0 bN)[b]?=w.heap[b]?
    rw[afQ,if_pos zo,aeP]) j9 h3.2 oI EN
   have iz:=h2.grown;rw[h1]at iz;refine hk a' w' v' Dc xx h2.size (by rw[h2.defers,h1];rfl) h4 k1 k2 k3 ⟨h2.below.os,h2.below.tape,h2.below.output,iz,λb hb hM=>?_⟩ k5;exact k4 b hb (λh=>hM (.inl h)) (λh=>hM (.inr h))
  |exit id=>obtain⟨_,_,_,_,_,h⟩:=hq;exact h.elim
  |ret=>obtain⟨_,_,_,_,_,h⟩:=hq;exact h.elim
  |panic ch=>obtain⟨_,_,_,_,_,_,_,_,_,_,h⟩:=hq;exact h.elim
  |goto l=>exact hq.elim
  |outgrown=>exact hq.elim
 simp only[ez]at h Db
 have hb:∀(b:Nat),(oe pr w bN v).bx b->False:=λ_ h=>h
 cases draw with
 |true=>
  simp only[aeH]at h;split at h
  case isFalse=>exact h.elim
  rename_i df;exact afN hm (gI fin _ _ _ _ (jM hW _ _ _ _ (mQ (GI:=λ_=>True) (λ_ _ _ _=>trivial) trivial hm hc df (λ_ _ _ _ h=>h) oy R h)))
 |false=>
  simp only[aek,aeA]at h;split at h
  case isFalse=>exact h.elim
  rename_i df;exact aeG (g_ fin _ _ _ (jR hW _ _ _ (sx (GI:=λ_=>True) (λ_ _ _ _=>trivial) trivial hc df (λ_ _ _ _ h=>h) oy R h)))
def Rel.C0 {w0 w':World} {g:Gh} {S':au} {H':aD} {a':Act} (R:Rel P w0 n dh g S' H' a' w') {t:Nat} (ht:t < n) {e:TypeId} {i:TypeInfo} (hi:P.info? e=some i) {es:List AV} (hS:S' t = .slice (if es.isEmpty then .nil else .own e) es)
  (oI:∀x∈es,x.cells.length=i.size/\x.storable=true/\∀c∈x.cells,c.one=true) (EN:∀x∈es,∀c∈x.cells,jl c=true):
  RD (λb j=>(g.base<=b/\b<w'.heap.size)/\j<g.hi b) w' (.slice .view es) (a'.tmps.getD t undef):=by
 have h1:=(R.slot t ht id)
 have h2:=(R.own t ht id)
 rw[hS]at h1 h2;have h1:=h1.eP rfl
 cases es with
 |nil=>exact h1.Eo
 |cons x es=>
  simp only[List.isEmpty_cons,aek,aeA]at h1 h2;obtain⟨i',xs,b,k1,k2,k3,k4,k5⟩:=h2;rw[hi]at k1;cases k1;have hf:=jS.Of h1 k2 oI EN
  refine RD.ofRow k2 (hf.mono (cC.same λ_ _ _ h=>h.elim)) λb' iY k hk=>?_
  rw[k3]at iY;cases iY;exact⟨k2.lt b k3,by rw[k5];exact hk⟩
end
section
variable{P:Program}{GI:World->Prop}{n:Nat}{S:au}{H:aD}{a:Act}{w:World}{ro:Option Nat}{m:Nat}{Q Q':Exit->Act->World->Prop}{F:Fence}
def Av(ops:Array Oper)(j d:Nat)(T:List Nat):Nat->Array Bool->Bool
 |0,l=>l.getD j false
 |k+1,l=>(Region.ready .any ops l != [] || l.getD j false) && (Region.ready .any ops l).all fun i =>
   (!l.getD j false||(match(ops[i]?).bind (·.dst)with|some t=>t !=d&&!T.contains t|none=>true))&&Av ops j d T k (l.setIfInBounds i true)
def aaj(N:Act->Prop)(Q:Exit->Act->World->Prop):Exit->Act->World->Prop
 |.normal,a,w=>Q .normal a w/\N a
 |e,a,w=>Q e a w
def pQ {ops:Array Oper} {j d:Nat} {oj:Oper} {T:List Nat} (hj:ops[j]? = some oj) (Ts:oj.guard=none) (eK:fk oj.op=true) (N:Act→Prop)
  (Lh:∀a a':Act,a'.tmps.getD d undef=a.tmps.getD d undef->(∀t∈T,a'.tmps.getD t undef=a.tmps.getD t undef)->N a->N a') (eA:∀(a:Act)(w:World),a.tmps.size=n->match(execOp a.eval oj).run P w with|.ok (.value v) _=>N (a.put oj.dst v)|.ok _ _=>False|.halt _ _=>True) (hW:kv ops (λt=>decide (t<n))=true):
  ∀(fuel:Nat)(l:Array Bool)(a:Act)(w:World),Av ops j d T fuel l=true->(l.getD j false=true->N a)->l.size=ops.size->a.tmps.size=n->
   wpAnyIn (FR ro) m P .any ops Q fuel l a w->wpAnyIn (FR ro) m P .any ops (aaj N Q) fuel l a w
 |0,l,a,w,h,hN,hl,cM,hh=>⟨hh.1,hh.2,hN (by simpa[Av]using h)⟩
 |k+1,l,a,w,h,hN,hl,cM,hh=>by
  simp only[Av,aeb,aeh,afo,agU,ne_eq]at h;refine⟨λhr=>⟨hh.1 hr,hN (h.1.resolve_left (λdR=>dR hr))⟩,λi hi=>?_⟩;obtain⟨h2,h3⟩:=h.2 i hi;have hs:=hh.2 i hi;unfold wpOpIn at hs⊢
  cases ho:ops[i]? with
  |none=>exact absurd (af8.1 hi).2 (by rw[ho];rintro⟨o,h,_⟩;cases h)
  |some o=>
   rw[ho]at hs h2;simp only[Option.bind_some]at h2 hs⊢
   have DR:i<l.size:=by rw[hl];exact(aea.1 ho).1
   have pk:(l.setIfInBounds i true).size=ops.size:=by simpa using hl
   have next:∀(a':Act),a'.tmps.size=n->fj (λt=>o.dst==some t) a a'->i≠j->((l.setIfInBounds i true).getD j false=true->N a'):=by
    intro a' _ cP dR hlj
    have YC:l.getD j false=true:=by
     rw[aex,aem dR]at hlj;rwa [aex]
    rcases h2 with h2|h2
    .rw[YC]at h2;cases h2
    .have yu:(o.dst==some d)=false∧∀ t∈T,(o.dst==some t)=false:=by
      cases hod:o.dst with
      |none=>simp
      |some t=>
       rw[hod]at h2;simp only[aeb,agU,ne_eq,ae_,agD,agp]at h2;refine⟨by simpa using h2.1,λt' vt=>?_⟩;simp only[aeO,ne_eq,aeJ];rintro rfl;exact h2.2 vt
     exact Lh a a' (cP d yu.1) (λt ht=>cP t (yu.2 t ht)) (hN YC)
   have nO:∀(d':Option Nat)(v:Value)(a:Act),(a.put d' v).tmps.size=a.tmps.size:=by
    intro d' v a;cases d'<;>simp[Act.put]
   split
   .rename_i hw;rw[if_pos hw]at hs
    by_cases th:i=j
    .subst th;rw[hj]at ho;cases ho;unfold Oper.wpIn at hs⊢;refine⟨λ_ _=>trivial,?_⟩;have h4:=hs.2;rw[afE _ _ _ (λc hc=>by rw[hc]at eK;cases eK)]at h4⊢;have h5:=eA a w cM;generalize(execOp a.eval oj).run P w=r at h4 h5⊢
     cases r with
     |ok x w'=>
      cases x<;>simp only at h5
      case value v=>
       simp only[Oper.uponIn]at h4⊢;exact pQ hj Ts eK N Lh eA hW k _ _ w' h3 (λ_=>h5) pk (by rw[nO];exact cM) h4
     |halt x w'=>cases x<;>simp only[Oper.uponIn]at h4⊢<;>exact h4
    .have rI:=sO (W:=λt=>o.dst==some t) (λt ht=>by simp[ht]) hs
     have Vp:o.wpIn (FR ro) m P a w (λa' w'=>(wpAnyIn (FR ro) m P .any ops Q k (l.setIfInBounds i true) a' w'/\fj (λt=>o.dst==some t) a a')/\a'.tmps.size=n) Q:=by
      unfold Oper.wpIn at rI⊢;refine⟨rI.1,?_⟩;have h4:=rI.2
      generalize(o.semAt (FR ro).round a.eval).run P w=r at*
      cases r with
      |ok x w'=>
       cases x<;>simp only[Oper.uponIn]at h4⊢<;>first
        |exact⟨h4,by rw[nO];exact cM⟩
        |exact⟨h4.1,ahb h4.2 (λe j0 he=>by cases e<;>first|exact⟨he,by rw[nO];exact cM⟩|exact he)⟩
        |exact⟨h4.1,aho h4.2 (λ_ _ he=>⟨he,by rw[nO];exact cM⟩)⟩
        |exact⟨h4.1,ahc h4.2 (λe j0 he=>by cases e<;>first|exact⟨he,by rw[nO];exact cM⟩|exact he)⟩
      |halt x w'=>cases x<;>simp only[Oper.uponIn]at h4⊢<;>exact h4
     refine oT (λa' w' hh=>?_) (λe a w dR hh=>?_) Vp
     .exact pQ hj Ts eK N Lh eA hW k _ a' w' h3 (next a' hh.2 hh.1.2 th) pk hh.2 hh.1.1
     .cases e<;>first|exact hh|exact absurd rfl dR
   .rename_i hw;rw[if_neg hw]at hs
    have th:i≠j:=by
     rintro rfl;rw[hj]at ho;cases ho;simp[Region.wanted,Ts]at hw
    refine⟨hs.1,pQ hj Ts eK N Lh eA hW k _ _ w h3 (next _ (by rw[nO];exact cM) (fj.put (λt ht=>by simp[ht]) _) th) pk (by rw[nO];exact cM) hs.2⟩
def Sn (hG:aQ GI) (hm:P.follows .mixedOrders=true) {id:Nat} {ops:Array Oper} {p:Nat} (GZ:cutAt ops p=true) (eK:(ops.extract 0 p).all (fun o=>fk o.op)=true) (df:M7 P n (ops.extract 0 p)=true)
  {l:List db} (hl:cJ P n true (ops.extract 0 p)=l) (pc:(ops.extract 0 p).size=p) {W:Nat->Bool} (hW:kv (ops.extract 0 p) W=true) (ib:GI w) (pr:Nat->Nat->Prop) (S:au)
  {j d:Nat} {oj:Oper} {T:List Nat} (hj:(ops.extract 0 p)[j]?=some oj) (Ts:oj.guard=none) (adq:fk oj.op=true) (N:Act->Prop)
  (Lh:∀a a':Act,a'.tmps.getD d undef=a.tmps.getD d undef->(∀t∈T,a'.tmps.getD t undef=a.tmps.getD t undef)->N a->N a') (eA:∀(a:Act)(w:World),a.tmps.size=n->match(execOp a.eval oj).run P w with|.ok (.value v) _=>N (a.put oj.dst v)|.ok _ _=>False|.halt _ _=>True) (hWn:kv (ops.extract 0 p) (λt=>decide (t<n))=true)
  (iX:Av (ops.extract 0 p) j d T p (Array.replicate p false)=true)
  (cM:a.tmps.size=n) (fq:a.defers=[]) (hS:∀t,t<n->(S t).bC=S t/\RV pr dW w (S t) (a.tmps.getD t undef)) {K:au->aD->Prop}
  (h:dT P GI l K (bZ l S) (bI l (λ_=>none)))
  (hk:∀g S' H' a' w',g.old=Old.plain pr w->Rel P w n dh g S' H' a' w'->K S' H'->fj W a a'->N a'->wpOpsIn (FR ro) m P ops Q (List.range' p (ops.size-p)) a' w'):
  (Code.region id ops true).wpIn (FR ro) m P Q a w:=by
 refine RP hm GZ ?_;have key:=mQ (ro:=ro) (m:=m) (a:=a) (w:=w) hG ib hm (old:=Old.plain pr w) (ops:=ops.extract 0 p) (Q:=aq K) eK df (λ_ _ _ _ h=>h) rfl (Rel.V_ pr cM fq hS) (by subst hl;exact h);rw[pc]at key
 have acv:=pQ hj Ts adq N Lh eA hWn p _ a _ iX (λhh=>by
  have:(Array.replicate p false).getD j false=false:=by
   rw[aex]
   by_cases hjp:j<p
   .simp[hjp]
   .simp[hjp]
  rw[this]at hh;cases hh) (by simpa using pc.symm) cM (jM hW _ _ _ _ key)
 refine gI ?_ _ _ _ _ acv;intro e a' w' hq
 cases e with
 |normal=>
  obtain⟨⟨⟨g',S',H',h1,h2,h3⟩,h4⟩,h5⟩:=hq;exact hk g' S' H' a' w' h1 h2 h3 h4 h5
 |exit id=>obtain⟨_,_,_,_,_,h⟩:=hq;exact h.elim
 |ret=>obtain⟨_,_,_,_,_,h⟩:=hq;exact h.elim
 |panic ch=>obtain⟨_,_,_,_,_,_,_,_,_,_,h⟩:=hq;exact h.elim
 |goto l=>exact hq.elim
 |outgrown=>exact hq.elim
end
section
variable{P:Program}{n:Nat}{a:Act}{w:World}{m:Nat}{Q:Exit->Act->World->Prop}
def kA {o:Oper} {t:TypeId} {x:Operand} {b off:Nat} {v:Value} {d:TypeDesc} (ho:o.op = .load t x) (hx:a.eval x = .pointer (some ⟨b,off,none⟩)) (hu:P.underlying t=some d) (hd:ef d=false) (hc:w.cell? ⟨b,off,none⟩=some v) :
  (execOp a.eval o).run P w=.ok (.value v) w:=by
 have lP:(isAgg t).run P w=.ok false w:=by
  unfold isAgg;rw[ael,aet hu w]
  cases d<;>simp_all[ef]
 unfold execOp;simp[ho,hx,Instr.loadAt,Instr.sureAddr,loadVar,ael,lP,hc]
def jC {o:Oper} {t:TypeId} {x y:Operand} {b:Nat} {v u:Value} {ty:TypeId} {i:TypeInfo} (ho:o.op = .store t x y) (hx:a.eval x = .pointer (some ⟨b,0,none⟩)) (hi:P.info? t=some i) (hs:i.size=1) (hb:w.heap[b]? = some (.cells #[u] ty (0,0)))
  (hv:(a.eval y)=v) (h1:v.oneCell'=true):(execOp a.eval o).run P w=.ok .skip (w.setRow b #[v]):=by
 have ln:v.cells=#[v]:=by cases v<;>first|rfl|cases h1
 have eA:=ag1 P b 0 ty [v] 0 #[u] w hb ah7 (λx hx=>by simp at hx;subst hx;exact h1);unfold execOp;simp only[ho,hx,hv,Instr.storeAt,Instr.sureAddr,storeVar,sizeOf,typeInfo,ael,Sem.run_pure,Result.andThen_ok,run_program,hi,hs,ln,ne_eq,afM,aeA];simp only[Nat.add_zero,List.take_zero,List.nil_append,List.length_singleton,agy,aeP]at eA
 have e:(w.setRow b ([v]++List.drop 1 #[u].toList).toArray)=w.setRow b #[v]:=ah7
 rw[e]at eA;have cM:(#[v]:Array Value).size=1:=rfl;simp only[cM,afM,aeA];rw[show storeCells ⟨b,0,none⟩ (#[v]:Array Value).toList=storeCells ⟨b,0,none⟩ [v] 0 from rfl,eA]
 rfl
def Sq {o:Oper} {cl:Call} {t:TypeId} {x:Operand} {ad:Option Addr} {k cap:Nat} {el:TypeId} (ho:o.op = .call cl) (lL:cl.callee = .builtin .len) (ha:cl.args = #[x]) (ht:cl.argTypes = #[t]) (hu:P.underlying t=some (.slice el)) (hx:a.eval x = .slice ad k cap) :
  (execOp a.eval o).run P w=.ok (.value (.int .i64 k)) w:=by
 unfold execOp
 have hm:(Builtin.len_ #[t] o.type #[.slice ad k cap]).run P w=.ok (.int .i64 k) w:=by simp[Builtin.len_,aet hu,goInt]
 simp[ho,lL,ha,ht,resolve,invoke,builtin,hx,hm]
def Ly {o:Oper} {t:TypeId} {x y:Operand} {g k cap:Nat} {el:TypeId} {i:TypeInfo} (ho:o.op = .slice t x none (some y) none) (hu:P.underlying t=some (.slice el)) (hi:P.info? el=some i) (hx:a.eval x = .slice (some ⟨g,0,none⟩) (k+1) cap) (hy:a.eval y = .int .i64 k) (hk:k≤cap) :
  (execOp a.eval o).run P w=.ok (.value (.slice (some ⟨g,0,none⟩) k cap)) w:=by
 have hb:=run_sliceBound (P:=P) (w:=w) (x:=.int .i64 k) (i:=k) (y:=cap) (code:=.sliceAcap) rfl zo zo
 have hbs:(Instr.sliceBounds true (k+1) cap none (some (.int .i64 k)) none).run P w=.ok (0,k,cap) w:=by
  unfold Instr.sliceBounds;simp[ael,hb]
 unfold execOp;simp[ho,hx,hy,Instr.sliceAt,aet hu,Instr.slice,hbs,sizeOf,typeInfo,hi,afh]
def SP {o:Oper} {t t':TypeId} {x y:Operand} {p q:Int} (ho:o.op = .binOp .sub t x y t') (hx:a.eval x = .int .i64 p) (hy:a.eval y = .int .i64 q) :
  (execOp a.eval o).run P w=.ok (.value (.int .i64 (IntKind.i64.wrap (p-q)))) w:=by
 have h0:(eqGuard .sub t x y (.int .i64 p) (.int .i64 q)).run P w=.ok () w:=iK _ _ _ _ _ _ rfl
 have h1:(binOp .sub t (.int .i64 p) (.int .i64 q)).run P w=.ok (.int .i64 (IntKind.i64.wrap (p-q))) w:=by
  simp[binOp,Op.intArith]
 simp[execOp,ho,hx,hy,h0,h1]
def Mh {ops:Array Oper} {T el ti ti':TypeId} {p t1 t2 t3 t4 t5 bN:Nat} {o0 o1 o2 o3 o4 o5:Oper} {cl:Call} {i iT:TypeInfo} {v:Value} {ty:TypeId} {k:Nat} {xs last:List Value}
  (h0:ops[0]?=some o0) (h1:ops[1]?=some o1) (h2:ops[2]?=some o2) (h3:ops[3]?=some o3) (h4:ops[4]?=some o4) (h5:ops[5]?=some o5)
  (q0:o0.op=.load T (.tmp p)/\o0.dst=some t1/\o0.guard=none) (q1:o1.op=.load T (.tmp p)/\o1.dst=some t2/\o1.guard=none) (q2:o2.op=.call cl/\o2.dst=some t3/\o2.guard=none) (q3:o3.op=.binOp .sub ti (.tmp t3) (.const (.int .i64 1)) ti'/\o3.dst=some t4/\o3.guard=none)
  (q4:o4.op=.slice T (.tmp t1) none (some (.tmp t4)) none/\o4.dst=some t5/\o4.guard=none) (q5:o5.op=.store T (.tmp p) (.tmp t5)/\o5.dst=none/\o5.guard=none)
  (lL:cl.callee=.builtin .len) (Dd:cl.args=#[.tmp t2]) (FJ:cl.argTypes=#[T]) (hu:P.underlying T=some (.slice el)) (VN:P.info? T=some iT) (VI:iT.size=1) (hi:P.info? el=some i)
  (hd:p≠t1/\p≠t2/\p≠t3/\p≠t4/\p≠t5/\t1≠t2/\t1≠t3/\t1≠t4/\t2≠t3/\t3≠t4/\t4≠t5) (cM:a.tmps.size=n) (hn:t1<n/\t2<n/\t3<n/\t4<n/\t5<n)
  (hp:a.tmps.getD p undef=.pointer (some ⟨bN,0,none⟩)) (hN:w.heap[bN]?=some (.cells #[v] ty (0,0))) (dX:w.ownsRow (bN+1) el i.size v (k+1) (xs++last)) (rE:xs.length=k*i.size) (hk:k<1000000)
  (hq:∀a' v',a'.tmps.size=n->a'.defers=a.defers->(∀t,t≠t1->t≠t2->t≠t3->t≠t4->t≠t5->a'.tmps.getD t undef=a.tmps.getD t undef)->v'.ownBlock=v.ownBlock->v.ownBlock.isSome=true->w.ownsRow (bN+1) el i.size v' k xs->Q .normal a' (w.setRow bN #[v'])):
  wpOpsIn (FR none) m P ops Q [0,1,2,3,4,5] a w:=by
 obtain⟨d1,d2,d3,d4,d5,d6,d7,d8,d9,d10,d11⟩:=hd;obtain⟨n1,n2,n3,n4,n5⟩:=hn
 have hc:w.cell? ⟨bN,0,none⟩=some v:=by simp[World.cell?,hN]
 obtain⟨g,cap,rfl⟩:∃g cap,v=.slice (some ⟨g,0,none⟩) (k+1) cap:=by
  rcases dX.2 with⟨_,h⟩|⟨g,cap,cur,h,_⟩
  .omega
  .exact⟨g,cap,h⟩
 have gq:k<=cap:=by
  rcases dX.2 with⟨h,_⟩|⟨g',MO,cur,h,_,_,Bs,_⟩
  .cases h
  .cases h;omega
 have acH:w.ownsRow (bN+1) el i.size (.slice (some ⟨g,0,none⟩) k cap) k xs:=by
  obtain⟨_,h2⟩:=dX
  rcases h2 with⟨h0,_⟩|⟨g',MO,cur,hv,hg,hh,hn,gq,cM,BG⟩
  .cases h0
  .cases hv;refine⟨rE,.inr ⟨g,cap,cur,rfl,hg,hh,zo,gq,cM,?_⟩⟩
   have h3:(cur.toList.take ((k+1)*i.size)).take (k*i.size)=(xs++last).take (k*i.size):=by rw[BG]
   rw[List.take_take,ahd (afy _ zo)]at h3;rw[h3,<-rE,agj]
 have f_:∀(a:Act)(d t:Nat)(c:Value),t≠d->(a.put (some d) c).tmps.getD t undef=a.tmps.getD t undef:=λa d t c h=>by
  simp[Act.put,aem (ae0 h)]
 have jj:∀(a:Act)(d:Nat)(c:Value),a.tmps.size=n->d<n->(a.put (some d) c).tmps.getD d undef=c:=λa d c h hd=>by
  simp[Act.put,h,hd]
 have ld:∀(a:Act)(d:Option Nat)(c:Value),(a.put d c).tmps.size=a.tmps.size:=λa d c=>by cases d<;>simp[Act.put]
 have tu:∀(a:Act)(d:Option Nat)(c:Value),(a.put d c).defers=a.defers:=λa d c=>by cases d<;>rfl
 refine cI h0 q0.2.2 (by rw[q0.1];rfl) (kA q0.1 hp hu rfl hc) ?_;rw[q0.2.1]
 obtain⟨a1,ov⟩:∃a1,a.put (some t1) (.slice (some ⟨g,0,none⟩) (k+1) cap)=a1:=⟨_,rfl⟩
 have z1:a1.tmps.size=n:=by rw[<-ov,ld];exact cM
 have v1:a1.tmps.getD t1 undef=.slice (some ⟨g,0,none⟩) (k+1) cap:=by rw[<-ov];exact jj a t1 _ cM n1
 have p1:a1.tmps.getD p undef=.pointer (some ⟨bN,0,none⟩):=by rw[<-ov,f_ _ _ _ _ d1];exact hp
 rw[ov];refine cI h1 q1.2.2 (by rw[q1.1];rfl) (kA q1.1 p1 hu rfl hc) ?_;rw[q1.2.1]
 obtain⟨a2,j_⟩:∃a2,a1.put (some t2) (.slice (some ⟨g,0,none⟩) (k+1) cap)=a2:=⟨_,rfl⟩
 have z2:a2.tmps.size=n:=by rw[<-j_,ld];exact z1
 have v2:a2.tmps.getD t2 undef=.slice (some ⟨g,0,none⟩) (k+1) cap:=by rw[<-j_];exact jj a1 t2 _ z1 n2
 have v1:a2.tmps.getD t1 undef=.slice (some ⟨g,0,none⟩) (k+1) cap:=by rw[<-j_,f_ _ _ _ _ d6];exact v1
 have p2:a2.tmps.getD p undef=.pointer (some ⟨bN,0,none⟩):=by rw[<-j_,f_ _ _ _ _ d2];exact p1
 rw[j_];refine cI h2 q2.2.2 (by rw[q2.1];rfl) (Sq q2.1 lL Dd FJ hu v2) ?_;rw[q2.2.1]
 obtain⟨a3,tE⟩:∃a3,a2.put (some t3) (.int .i64 ((k+1:Nat):Int))=a3:=⟨_,rfl⟩
 have z3:a3.tmps.size=n:=by rw[<-tE,ld];exact z2
 have v3:a3.tmps.getD t3 undef=.int .i64 ((k+1:Nat):Int):=by rw[<-tE];exact jj a2 t3 _ z2 n3
 have v1:a3.tmps.getD t1 undef=.slice (some ⟨g,0,none⟩) (k+1) cap:=by rw[<-tE,f_ _ _ _ _ d7];exact v1
 have p3:a3.tmps.getD p undef=.pointer (some ⟨bN,0,none⟩):=by rw[<-tE,f_ _ _ _ _ d3];exact p2
 rw[tE];refine cI h3 q3.2.2 (by rw[q3.1];rfl) (SP q3.1 v3 rfl) ?_;rw[q3.2.1]
 have hw:IntKind.i64.wrap (((k+1:Nat):Int)-1)=(k:Int):=by
  have key:∀m:Int,m=(((k+1:Nat):Int)-1) % 18446744073709551616->(if decide (m>=9223372036854775808)=true then m-18446744073709551616 else m)=(k:Int):=by
   intro m hm;split
   .rename_i hd;have:=agb hd;omega
   .omega
  exact key _ rfl
 rw[hw]
 obtain⟨a4,nf⟩:∃a4,a3.put (some t4) (.int .i64 (k:Int))=a4:=⟨_,rfl⟩
 have z4:a4.tmps.size=n:=by rw[<-nf,ld];exact z3
 have v4:a4.tmps.getD t4 undef=.int .i64 (k:Int):=by rw[<-nf];exact jj a3 t4 _ z3 n4
 have v1:a4.tmps.getD t1 undef=.slice (some ⟨g,0,none⟩) (k+1) cap:=by rw[<-nf,f_ _ _ _ _ d8];exact v1
 have p4:a4.tmps.getD p undef=.pointer (some ⟨bN,0,none⟩):=by rw[<-nf,f_ _ _ _ _ d4];exact p3
 rw[nf];refine cI h4 q4.2.2 (by rw[q4.1];rfl) (Ly q4.1 hu hi v1 v4 gq) ?_;rw[q4.2.1]
 obtain⟨a5,r_⟩:∃a5,a4.put (some t5) (.slice (some ⟨g,0,none⟩) k cap)=a5:=⟨_,rfl⟩
 have z5:a5.tmps.size=n:=by rw[<-r_,ld];exact z4
 have v5:a5.tmps.getD t5 undef=.slice (some ⟨g,0,none⟩) k cap:=by rw[<-r_];exact jj a4 t5 _ z4 n5
 have p5:a5.tmps.getD p undef=.pointer (some ⟨bN,0,none⟩):=by rw[<-r_,f_ _ _ _ _ d5];exact p4
 rw[r_];refine fD h5 q5.2.2 (by rw[q5.1];rfl) (jC q5.1 p5 VN VI hN v5 rfl) ?_;rw[q5.2.1];refine hq a5 _ z5 ?_ (λt e1 e2 e3 e4 e5=>?_) rfl rfl acH
 .rw[<-r_,tu,<-nf,tu,<-tE,tu,<-j_,tu,<-ov,tu]
 .rw[<-r_,f_ _ _ _ _ e5,<-nf,f_ _ _ _ _ e4,<-tE,f_ _ _ _ _ e3,<-j_,f_ _ _ _ _ e2,<-ov,f_ _ _ _ _ e1]
def jh {F:Fence} {ops:Array Oper} {Q1:Exit→Act→World→Prop} {l2:List Nat} (hQ:∀ e a w,e ≠ .normal→Q1 e a w→Q e a w) (hn:∀ a w,Q1 .normal a w→wpOpsIn F m P ops Q l2 a w) :
  ∀(l1:List Nat)(a:Act)(w:World),wpOpsIn F m P ops Q1 l1 a w->wpOpsIn F m P ops Q (l1++l2) a w
 |[],a,w,h=>hn a w h
 |i::l,a,w,h=>by
  simp only[List.cons_append,wpOpsIn]at h⊢
  cases ho:ops[i]? with
  |none=>simp only[ho]at h⊢;exact jh hQ hn l a w h
  |some o=>
   simp only[ho]at h⊢;split
   .rename_i hw;rw[if_pos hw]at h;exact oT (λa w hh=>jh hQ hn l a w hh) hQ h
   .rename_i hw;rw[if_neg hw]at h;exact⟨h.1,jh hQ hn l _ w h.2⟩
def my {GI:World→Prop} {ro:Option Nat} (hG:aQ GI) {ops:Array Oper} {p:Nat} {l2:List Nat} (hr:List.range ops.size=List.range p++l2) (eK:ops.all (fun o=>fk o.op)=true) (df:((cJ P n false ops).take p).all (·.ok n)=true)
  {l:List db} (hl:(cJ P n false ops).take p=l) (hpn:p<=ops.size) {W:Nat->Bool} (hW:kv ops W=true) (ib:GI w) (pr:Nat->Nat->Prop) (S:au)
  (cM:a.tmps.size=n) (fq:a.defers=[]) (hS:∀t,t<n->(S t).bC=S t/\RV pr dW w (S t) (a.tmps.getD t undef)) {K:au->aD->Prop} (h:cQ P GI l K (λ_=>False) S (λ_=>none))
  (hk:∀g S' H' a' w',g.old=Old.plain pr w->Rel P w n dh g S' H' a' w'->K S' H'->fj W a a'->wpOpsIn (FR ro) m P ops Q l2 a' w') {id:Nat}:(Code.region id ops false).wpIn (FR ro) m P Q a w:=by
 refine aeG ?_;rw[hr];subst hl;have R:=Rel.V_ (P:=P) pr cM fq hS
 have key:=s_ hG ib (old:=Old.plain pr w) (ops:=ops) (Q:=aq K) (S0:=S) (H0:=fun _=>none) (List.range p) (ops.toList.take p) _ S _ a w (by
   apply afA;intro i;simp only[aeK,agN]
   by_cases hi:i<p
   .have:i<ops.size:=zo
    simp[hi,this]
   .simp[hi]) (λo lz=>by
    simp only[cJ,<-af1,afP,aeh,Function.comp]at df
    exact df o lz) (λ_ _ _ _ h=>h) rfl R (by
    simp only[cJ,<-af1]at h
    exact h)
 refine jh (Q1:=A5 W a (QQ P w n (Old.plain pr w) (aq K))) (λe a w dR hq=>?_) (λa' w' hq=>?_) _ _ _ (jR hW _ _ _ (rq eK rr _ _ _ key))
 .cases e with
  |normal=>exact absurd rfl dR
  |exit id=>obtain⟨_,_,_,_,_,h⟩:=hq;exact h.elim
  |ret=>obtain⟨_,_,_,_,_,h⟩:=hq;exact h.elim
  |panic ch=>obtain⟨_,_,_,_,_,_,_,_,_,_,h⟩:=hq;exact h.elim
  |goto l=>exact hq.elim
  |outgrown=>exact hq.elim
 .obtain⟨⟨g',S',H',h1,h2,h3⟩,h4⟩:=hq;exact hk g' S' H' a' w' h1 h2 h3 h4
end
section
variable{P:Program}{GI:World->Prop}{n:Nat}{old:Old}{S:au}{H:aD}{Q:fG}
def uQ (hG:aQ GI) {w0:World} (dI:GI w0) {ro:Option Nat} {m:Nat} {ops:Array Oper} (eK:ops.all (fun o=>fk o.op)=true) {g:Gh} {a:Act} {w:World} (ho:g.old=old) (R:Rel P w0 n dh g S H a w) (l:List Nat) (os:List Oper) (hl:l.map (ops[·]?)=os.map some)
  (df:∀o∈os,(cZ P n false ops o).ok n=true) (du:∀d,¬old.bx d) {K:au->aD->Prop} (h:cQ P GI (os.map (cZ P n false ops)) K (λ_=>False) S H):
  wpOpsIn (FR ro) m P ops (QQ P w0 n old (aq K)) l a w:=
 rq eK rr _ _ _ (s_ hG dI (old:=old) (ops:=ops) (Q:=aq K) (S0:=S) (H0:=H) l os g S H a w hl df (λ_ _ _ _=>du _) ho R h)
def SW.mid (hG:aQ GI) {ro:Option Nat} {id p:Nat} {ops:Array Oper} {oh:Oper} {l2:List Nat} {lh oA:List Oper} (QU:ops.toList=lh++oh::oA) (hp:lh.length=p) (hr:List.range ops.size=List.range p++(p::l2)) (tq:l2.map (ops[·]?)=oA.map some)
  (eK:ops.all (λo=>fk o.op)=true) (hgh:oh.guard=none) (du:∀d,¬old.bx d)
  {po ox:List db} (zj:lh.map (cZ P n false ops)=po) (KK:oA.map (cZ P n false ops)=ox) (dG:po.all (·.ok n)=true) (gZ:ox.all (·.ok n)=true)
  {K1:au->aD->Prop} {K2 K3:Old->au->aD->Prop} (h1:cQ P GI po K1 (λ_=>False) S H)
  (hand:∀w0 g S1 H1 a w,g.old=old->Rel P w0 n dh g S1 H1 a w->K1 S1 H1->∃v w' g2 S2 H2,((execOp a.eval oh).run P w=.ok (.value v) w'\/((execOp a.eval oh).run P w=.ok .skip w'/\v=undef))/\Rel P w0 n dh g2 S2 H2 (a.put oh.dst v) w'/\K2 g2.old S2 H2)
  (h2:∀o S H,K2 o S H->(∀d,¬o.bx d)/\cQ P GI ox (K3 o) (λ_=>False) S H) (hQ:∀o S H,K3 o S H->Q .normal o S H):SW P GI n ro (.region id ops false) Q old S H:=by
 intro w0 g a w m dI ho R;refine aeG ?_;rw[hr]
 have AP:(List.range p).map (ops[·]?)=lh.map some:=by
  apply afA;intro i;simp only[aeK]
  by_cases hi:i<p
  .have h3:ops[i]? = lh[i]? := by
    rw[<-afv,QU,afc zo]
   have h4:lh[i]?=some (lh[i]' zo):=ad_ zo;simp[hi,h3,h4]
  .have:lh[i]?=none:=aez zo;simp[hi,this]
 have hoh:ops[p]?=some oh:=by
  rw[<-afv,QU,afp zo];simp[hp]
 refine jh (Q1:=QQ P w0 n old (aq K1)) (fun e a w dR hq => ?_) (fun a1 w1 hq => ?_) _ _ _ (uQ hG dI eK ho R (List.range p) lh AP (fun o lz=>by
   subst zj;simp only[afP,aeh,Function.comp]at dG
   exact dG o lz) du (by rw[zj];exact h1))
 .cases e with
  |normal=>exact absurd rfl dR
  |exit id=>obtain⟨_,_,_,_,_,h⟩:=hq;exact h.elim
  |ret=>obtain⟨_,_,_,_,_,h⟩:=hq;exact h.elim
  |panic ch=>obtain⟨_,_,_,_,_,_,_,_,_,_,h⟩:=hq;exact h.elim
  |goto l=>exact hq.elim
  |outgrown=>exact hq.elim
 .obtain⟨g1,S1,H1,BD,R1,T9⟩:=hq;obtain⟨v,w2,g2,S2,H2,eA,R2,lI⟩:=hand w0 g1 S1 H1 a1 w1 BD R1 T9;obtain⟨jo,j_⟩:=h2 _ _ _ lI
  have X7:fk oh.op=true:=by
   have:=afn.1 eK oh (afg hoh);exact this
  have rest:wpOpsIn (FR ro) m P ops (QS P w0 n Q) l2 (a1.put oh.dst v) w2:=by
   have:=uQ (ro:=ro) (m:=m) hG dI eK (old:=g2.old) rfl R2 l2 oA tq (λo lz=>by
    subst KK;simp only[afP,aeh,Function.comp]at gZ
    exact gZ o lz) jo (by rw[KK];exact j_)
   refine g_ (λe a w hq=>?_) _ _ _ this
   cases e with
   |normal=>
    obtain⟨g3,S3,H3,A9,R3,DC⟩:=hq;exact⟨g3,S3,H3,R3,by rw[A9];exact hQ _ _ _ DC⟩
   |exit id=>obtain⟨_,_,_,_,_,h⟩:=hq;exact h.elim
   |ret=>obtain⟨_,_,_,_,_,h⟩:=hq;exact h.elim
   |panic ch=>obtain⟨_,_,_,_,_,_,_,_,_,_,h⟩:=hq;exact h.elim
   |goto l=>exact hq.elim
   |outgrown=>exact hq.elim
  rcases eA with eA|⟨eA,rfl⟩
  .exact cI hoh hgh X7 eA rest
  .exact fD hoh hgh X7 eA rest
variable{w0:World}{g:Gh}{a:Act}{w:World}
def Rel.o9(R:Rel P w0 n dh g S H a w)(o:Obj):Rel P w0 n dh { g with old:={ g.old with cg:=aF g.old.cg w.heap.size (some o) } } S H a (w.alloc o):=by
 have hb:Below w.heap.size w (w.alloc o):=(afb _ _).alloc (aed _) _;have R':=Rel.kG R hb
 have hle:g.base<=w.heap.size:=by rw[R.base];exact R.below.size
 refine{ size:=R'.size,defers:=R'.defers,facts:=R'.facts,slot:=R'.slot,own:=λt ht hu=>(R'.own t ht hu).cg rfl λb hb=>⟨rfl,rfl,hb⟩,box:=?_,kF:=R'.kF,kE:=R'.kE,inj:=R'.inj,base:=R'.base,below:=R'.below,fresh:=R'.fresh,still:=R'.still,grown:=R'.grown,kept:=?_ }
 .intro i b hi;obtain⟨cs,vs,ty,h1,h2,h3,h4,h5,h6,h7,h8,h9⟩:=R'.box i b hi;exact⟨cs,vs,ty,h1,h2,h3,h4,h5,h6,h7,λj hj eX=>(h8 j hj eX).cg rfl λb hb=>⟨rfl,rfl,hb⟩,h9⟩
 .intro b ob h
  by_cases nh:b=w.heap.size
  .subst nh
   have:ob=o:=by simpa[aF]using h.symm
   subst this;refine⟨hle,ae8 w _,(R.fresh _ (aed _)).1,(R.fresh _ (aed _)).2,λi hi=>?_⟩;obtain⟨_,_,_,_,_,h3,_⟩:=R.box i _ hi;have:=(aea.1 h3).1;omega
  .have h:g.old.cg b=some ob:=by simpa[aF,nh]using h
   exact R'.kept b ob h
def sM(b:Nat)(ks vs:List AV):AV->AV
 |.val (.map (some b'))=>if b'=b then .map ks vs else .val (.map (some b'))
 |v=>v
def OW(b:Nat)(ks vs:List AV)(v:AV)(h:v.one=true):(sM b ks vs v).one=true:=by
 unfold sM;split
 .split<;>rfl
 .exact h
def Rel.V0 (R:Rel P w0 n dh g S H a w) {b:Nat} {es:Array MapEntry} {clock:Nat} (hk:g.old.cg b=some (.map es clock)) (ks vs:List AV) (jW:ks.length=es.size) (Vc:vs.length=es.size)
  (Zb:∀i (h:i<ks.length)(h':i<es.size),RD (λ_ _=>False) w ks[i] (es[i]).key) (uf:∀i (h:i<vs.length)(h':i<es.size),RD (λ_ _=>False) w vs[i] (es[i]).val)
  (hf:g.old.facts=[]):∃g',g'.old={ g.old with cg:=aF g.old.cg b none }/\Rel P w0 n dh g' (λt=>match S t with|.box i o=>.box i o|_=>.cT) (λi=>(H i).map λcs=>cs.map (sM b ks vs)) a w:=by
 obtain⟨k1,k2,k3,k4,k5⟩:=R.kept b _ hk
 let g':Gh:={ g with old:={ g.old with cg:=aF g.old.cg b none },hi:=aF g.hi b 1 }
 have rQ:∀c k,g.Pr c k->g'.Pr c k:=by
  intro c k h;rcases h with h|h
  .exact .inl h
  .refine .inr ⟨h.1,?_⟩;show k<aF g.hi b 1 c
   by_cases hc:c=b
   .subst hc;rw[k3]at h;omega
   .rw[b_ _ _ hc];exact h.2
 have hK:cC g.Pr g'.Pr w w:=cC.same λc k _ h=>rQ c k h
 have QK:RD g'.Pr w (.map ks vs) (.map (some b)):=by
  refine .map ks vs b es clock (.inr ⟨k1,by show 0<aF g.hi b 1 b;rw[bX];omega⟩) k2 jW Vc (λi h h'=>(Zb i h h').mono (cC.same λ_ _ _ h=>h.elim)) (λi h h'=>(uf i h h').mono (cC.same λ_ _ _ h=>h.elim))
 have Z6:∀{v:AV}{c:Value},RD g.Pr w v c->RD g'.Pr w (sM b ks vs v) c:=by
  intro v c h;unfold sM;split
  .rename_i b';split
   .rename_i hb;subst hb;cases h;exact QK
   .exact h.mono hK
  .exact h.mono hK
 refine⟨g',rfl,{ size:=R.size,defers:=R.defers,facts:=λp hp=>(by rw[show g'.old.facts=g.old.facts from rfl,hf]at hp;cases hp),slot:=?_,own:=?_,box:=?_,kF:=?_,kE:=R.kE,inj:=R.inj,base:=R.base,below:=R.below,fresh:=?_,still:=R.still.trans hK,grown:=R.grown,kept:=?_ }⟩
 .intro t ht hu;have h:=R.slot t ht hu;show RV g'.Pr g'.al w (match S t with|.box i o=>.box i o|_=>.cT) _;split
  .rename_i i o hs;rw[hs]at h;generalize a.tmps.getD t undef=c at h
   cases h with
   |data _ _ h=>cases h
   |box _ _ b h=>exact .box _ _ _ h
  .exact .cT _
 .intro t ht hu;show fp P w g' (.slot t) (match S t with|.box i o=>.box i o|_=>.cT) _
  split<;>trivial
 .intro i c hi;obtain⟨cs,mh,ty,h1,h2,h3,h4,h5,h6,h7,h8,h9⟩:=R.box i c hi
  have km:c≠b:=by rintro rfl;exact k5 i hi
  refine⟨cs.map (sM b ks vs),mh,ty,by simp[h1],h2,h3,by show aF g.hi b 1 c=0;rw[b_ _ _ km];exact h4,h5,by simpa using h6,λj hj eX=>?_,λj hj eX=>?_,λj hj=>?_⟩
  .simp only[aef]at hj;simp only[aep];exact Z6 (h7 j hj eX)
  .simp only[aef]at hj;simp only[aep];have ho:=h8 j hj eX;unfold sM;split
   .split<;>trivial
   .refine ho.cg rfl λb' iY=>⟨rfl,?_,iY⟩
    show aF g.hi b 1 b'=g.hi b';exact b_ _ _ (by rintro rfl;rw[k4]at iY;cases iY)
  .simp only[aef]at hj;simp only[aep];exact OW _ _ _ _ (h9 j hj)
 .intro i cs h hu;obtain⟨jX,h1,_⟩:=aeo.1 h;exact R.kF i jX h1 hu
 .intro c hc
  have km:c≠b:=by
   rintro rfl;have:=(aea.1 k2).1;omega
  exact⟨by show aF g.hi b 1 c=0;rw[b_ _ _ km];exact(R.fresh c hc).1,(R.fresh c hc).2⟩
 .intro c ob h
  have km:c≠b:=by rintro rfl;simp[g',aF]at h
  have h:g.old.cg c=some ob:=by simpa[g',aF,km]using h
  obtain⟨q1,q2,q3,q4,q5⟩:=R.kept c ob h;exact⟨q1,q2,by show aF g.hi b 1 c=0;rw[b_ _ _ km];exact q3,q4,q5⟩
end
def xB(i:Nat)(cs:List AV):AV->AV
 |.box j off=>if j=i then .ref ((cs.map AV.bC).drop off)else .box j off
 |v=>bt i v
section
variable{P:Program}{w0:World}{n:Nat}{g:Gh}{S:au}{H:aD}{a:Act}{w:World}
def Rel.freeze (R:Rel P w0 n dh g S H a w) {i:Nat} {cs:List AV} (hH:H i=some cs) (hf:g.old.facts=[]) :
  ∃g',g'.old=g.old/\Rel P w0 n dh g' (λt=>xB i cs (S t)) (aF H i none) a w:=by
 obtain⟨b,hb⟩:=agL.1 (R.kF i cs hH id);obtain⟨jX,vs,ty,e0,b1,b2,b3,b4,b5,b6,b7,b8⟩:=R.box i b hb;rw[hH]at e0;cases e0
 let g':Gh:={ g with al:=aF g.al i none,hi:=aF g.hi b cs.length }
 have rQ:∀c k,g.Pr c k->g'.Pr c k:=by
  intro c k h;rcases h with h|h
  .exact .inl h
  .refine .inr ⟨h.1,?_⟩;show k<aF g.hi b cs.length c
   by_cases hc:c=b
   .subst hc;rw[b3]at h;omega
   .rw[b_ _ _ hc];exact h.2
 have hK:cC g.Pr g'.Pr w w:=cC.same λc k _ h=>rQ c k h
 have j9:∀j c,j≠i->g.al j=some c->g'.al j=some c:=λj c hj h=>by show aF g.al i none j=_;rw[b_ _ _ hj];exact h
 have Y_:∀j c,j≠i->g.al j=some c->c≠b:=by
  rintro j c hj h rfl;exact hj (R.inj j i _ h hb)
 refine⟨g',rfl,{ size:=R.size,defers:=R.defers,facts:=λp hp=>(by rw[show g'.old.facts=g.old.facts from rfl,hf]at hp;cases hp),slot:=?_,own:=?_,box:=?_,kF:=?_,kE:=λ_ h=>h.elim,inj:=?_,base:=R.base,below:=R.below,fresh:=?_,still:=R.still.trans hK,grown:=R.grown,kept:=?_ }⟩
 .intro t ht hu;have h:=R.slot t ht hu;generalize a.tmps.getD t undef=c at h;have h2:=(h.bt i j9).mono hK (λ_ _ h=>h);show RV g'.Pr g'.al w (xB i cs (S t)) c;generalize S t=v at h h2
  cases v<;>try exact h2
  rename_i j off;simp only[xB];simp only[bt]at h2;split
  .rename_i hj;subst hj
   have mM:∃c',c=.pointer (some ⟨c',off,none⟩)/\g.al j=some c':=by
    cases h with
    |data _ _ h=>cases h
    |box _ _ c' h=>exact⟨c',rfl,h⟩
   obtain⟨c',rfl,wP⟩:=mM;rw[hb]at wP;cases wP;refine .data _ _ (.ref _ b off (λk=>vs.getD (off+k) undef) (λk hk=>?_) (λk hk=>?_) (λk hk=>?_))
   .simp only[afw,aep];simp only[aeM,aef]at hk;exact(AV.pW _).trans (b8 _ zo)
   .simp only[aeM,aef]at hk;refine⟨.inr ⟨b1,by show off+k<aF g.hi b cs.length b;rw[bX];omega⟩,?_⟩
    have:off+k<vs.size:=zo
    simp[World.cell?,b2,this]
   .simp only[aeM,aef]at hk;simp only[afw,aep];have hh:=b6 (off+k) zo zo
    have:off+k<vs.size:=zo
    have:=hh.bC.mono hK;simpa[‹off+k<vs.size›]using this
  .rename_i hj;rw[if_neg hj]at h2;exact h2
 .intro t ht hu;have h:=R.own t ht hu;have h2:=EO P w g (.slot t) i (S t) _ h
  have h3:fp P w g' (.slot t) (bt i (S t)) (a.tmps.getD t undef):=h2.cg rfl λc hc=>⟨rfl,by show aF g.hi b cs.length c=g.hi c;exact b_ _ _ (by rintro rfl;rw[b4]at hc;cases hc),hc⟩
  show fp P w g' (.slot t) (xB i cs (S t)) _;generalize S t=v at h3
  cases v<;>try exact h3
  simp only[xB]
  split<;>trivial
 .intro j c hj
  have gL:j≠i:=by rintro rfl;simp[g',aF]at hj
  have eX:g.al j=some c:=by simpa[g',aF,gL]using hj
  have km:=Y_ j c gL eX;obtain⟨Xp,vs2,ty2,h1,h2,h3,h4,h5,h6,h7,h8,h9⟩:=R.box j c eX;refine⟨Xp,vs2,ty2,by rw[b_ _ _ gL];exact h1,h2,h3,by show aF g.hi b cs.length c=0;rw[b_ _ _ km];exact h4,h5,h6,λk hk dp=>(h7 k hk dp).mono hK,λk hk dp=>?_,h9⟩
  refine(h8 k hk dp).cg rfl λb' iY=>⟨rfl,?_,iY⟩
  show aF g.hi b cs.length b'=g.hi b';exact b_ _ _ (by rintro rfl;rw[b4]at iY;cases iY)
 .intro j Xp h hu
  have gL:j≠i:=by rintro rfl;simp[aF]at h
  have h':H j=some Xp:=by simpa[aF,gL]using h
  show(aF g.al i none j).isSome;rw[b_ _ _ gL];exact R.kF j Xp h' hu
 .intro j k c h1 h2
  have hj:j≠i:=by rintro rfl;simp[g',aF]at h1
  have hk:k≠i:=by rintro rfl;simp[g',aF]at h2
  exact R.inj j k c (by simpa[g',aF,hj]using h1) (by simpa[g',aF,hk]using h2)
 .intro c hc
  have km:c≠b:=by
   rintro rfl;have:=(aea.1 b2).1;omega
  exact⟨by show aF g.hi b cs.length c=0;rw[b_ _ _ km];exact(R.fresh c hc).1,(R.fresh c hc).2⟩
 .intro c ob h;obtain⟨q1,q2,q3,q4,q5⟩:=R.kept c ob h
  have km:c≠b:=by rintro rfl;exact q5 i hb
  refine⟨q1,q2,by show aF g.hi b cs.length c=0;rw[b_ _ _ km];exact q3,q4,λj=>?_⟩;show aF g.al i none j≠some c
  by_cases hj:j=i
  .subst hj;simp[aF]
  .rw[b_ _ _ hj];exact q5 j
end
section
variable{P:Program}{GI:World->Prop}{n:Nat}{old:Old}{S:au}{H:aD}{Q:fG}{ro:Option Nat}
def SW.ghost{c:Code}{K:Old->au->aD->Prop}(h:∀w0 g a w,g.old=old->Rel P w0 n dh g S H a w->∃g2 S2 H2,Rel P w0 n dh g2 S2 H2 a w/\K g2.old S2 H2)(hc:∀o S H,K o S H->SW P GI n ro c Q o S H):SW P GI n ro c Q old S H:=by
 intro w0 g a w m hG ho R;obtain⟨g2,S2,H2,R2,hK⟩:=h w0 g a w ho R;exact hc _ _ _ hK w0 g2 a w m hG rfl R2
def SW.freeze{c:Code}{i:Nat}{cs:List AV}(hH:H i=some cs)(hf:old.facts=[])(hc:SW P GI n ro c Q old (λt=>xB i cs (S t)) (aF H i none)):SW P GI n ro c Q old S H:=by
 intro w0 g a w m hG ho R;obtain⟨g',h1,R'⟩:=R.freeze hH (by rw[ho];exact hf);exact hc w0 g' a w m hG (h1.trans ho) R'
def HQ(P:Program)(w0:World)(n:Nat)(K:Old->au->aD->Prop):Exit->Act->World->Prop
 |.normal,a,w=>∃g S H,Rel P w0 n dh g S H a w/\K g.old S H
 |_,_,_=>False
def SW.hand (hG:aQ GI) {id p:Nat} {ops:Array Oper} {lm l2:List Nat} {lh oh oA:List Oper} (QU:ops.toList=lh++(oh++oA)) (hp:lh.length=p) (hr:List.range ops.size=List.range p++(lm++l2)) (tq:l2.map (ops[·]?)=oA.map some)
  (eK:ops.all (λo=>fk o.op)=true) (du:∀d,¬old.bx d)
  {po ox:List db} (zj:lh.map (cZ P n false ops)=po) (KK:oA.map (cZ P n false ops)=ox) (dG:po.all (·.ok n)=true) (gZ:ox.all (·.ok n)=true)
  {K1:au->aD->Prop} {K2 K3:Old->au->aD->Prop} (h1:cQ P GI po K1 (λ_=>False) S H)
  (hand:∀w0 g S1 H1 a w m,GI w0->g.old=old->Rel P w0 n dh g S1 H1 a w->K1 S1 H1->wpOpsIn (FR ro) m P ops (HQ P w0 n K2) lm a w)
  (h2:∀o S H,K2 o S H->(∀d,¬o.bx d)/\cQ P GI ox (K3 o) (λ_=>False) S H) (hQ:∀o S H,K3 o S H->Q .normal o S H):SW P GI n ro (.region id ops false) Q old S H:=by
 intro w0 g a w m dI ho R;refine aeG ?_;rw[hr]
 have AP:(List.range p).map (ops[·]?)=lh.map some:=by
  apply afA;intro i;simp only[aeK]
  by_cases hi:i<p
  .have h3:ops[i]? = lh[i]? := by
    rw[<-afv,QU,afc zo]
   have h4:lh[i]?=some (lh[i]' zo):=ad_ zo;simp[hi,h3,h4]
  .have:lh[i]?=none:=aez zo;simp[hi,this]
 refine jh (Q1:=QQ P w0 n old (aq K1)) (fun e a w dR hq => ?_) (fun a1 w1 hq => ?_) _ _ _ (uQ hG dI eK ho R (List.range p) lh AP (fun o lz=>by
   subst zj;simp only[afP,aeh,Function.comp]at dG
   exact dG o lz) du (by rw[zj];exact h1))
 .cases e with
  |normal=>exact absurd rfl dR
  |exit id=>obtain⟨_,_,_,_,_,h⟩:=hq;exact h.elim
  |ret=>obtain⟨_,_,_,_,_,h⟩:=hq;exact h.elim
  |panic ch=>obtain⟨_,_,_,_,_,_,_,_,_,_,h⟩:=hq;exact h.elim
  |goto l=>exact hq.elim
  |outgrown=>exact hq.elim
 .obtain⟨g1,S1,H1,BD,R1,T9⟩:=hq;refine jh (Q1:=HQ P w0 n K2) (λe a w dR hq=>?_) (λa2 w2 hq=>?_) _ _ _ (hand w0 g1 S1 H1 a1 w1 m dI BD R1 T9)
  .cases e with
   |normal=>exact absurd rfl dR
   |_=>exact hq.elim
  .obtain⟨g2,S2,H2,R2,lI⟩:=hq;obtain⟨jo,j_⟩:=h2 _ _ _ lI
   have:=uQ (ro:=ro) (m:=m) hG dI eK (old:=g2.old) rfl R2 l2 oA tq (λo lz=>by
    subst KK;simp only[afP,aeh,Function.comp]at gZ
    exact gZ o lz) jo (by rw[KK];exact j_)
   refine g_ (λe a w hq=>?_) _ _ _ this
   cases e with
   |normal=>
    obtain⟨g3,S3,H3,A9,R3,DC⟩:=hq;exact⟨g3,S3,H3,R3,by rw[A9];exact hQ _ _ _ DC⟩
   |exit id=>obtain⟨_,_,_,_,_,h⟩:=hq;exact h.elim
   |ret=>obtain⟨_,_,_,_,_,h⟩:=hq;exact h.elim
   |panic ch=>obtain⟨_,_,_,_,_,_,_,_,_,_,h⟩:=hq;exact h.elim
   |goto l=>exact hq.elim
   |outgrown=>exact hq.elim
end
section
variable{P:Program}{a:Act}{w:World}
def BS {o:Oper} {t:TypeId} {x:Operand} {s:ByteArray} (ho:o.op = .range t x) (hu:P.underlying t=some .string) (hx:a.eval x = .string s) :
  (execOp a.eval o).run P w=.ok (.value (.pointer (some ⟨w.heap.size,0,none⟩))) (w.alloc (.stringIter s 0)):=by
 unfold execOp;simp only[ho,hx,ael,run_range_string w t s hu]
 rfl
def vU {o:Oper} {x:Operand} {b:Nat} {s:ByteArray} {pos:Nat} (ho:o.op = .next x true) (hx:a.eval x = .pointer (some ⟨b,0,none⟩)) (hb:w.heap[b]? = some (.stringIter s pos)) (h:¬ pos < s.size) :
  (execOp a.eval o).run P w=.ok (.value (.tuple #[.bool false])) w:=by
 unfold execOp;simp[ho,hx,Instr.next,getObj,Sem.run,hb,h]
end
section
variable{P:Program}{GI:World->Prop}{n:Nat}{old:Old}{S:au}{H:aD}{Q:fG}{ro:Option Nat}
def SW.Vm{c:Code}(I:Old->au->aD->Prop)(μ:Old->au->aD->Nat)(h0:I old S H)(hr:∀o S H,I o S H->SW P GI n ro c (thenS (λo' S' H'=>I o' S' H'/\μ o' S' H'<μ o S H) Q) o S H):SW P GI n ro (.loop c) Q old S H:=by
 intro w0 g a w m hG ho R;subst ho
 have key:∀ (k:Nat) (g:Gh) (S:au) (H:aD) (a:Act) (w:World),Rel P w0 n dh g S H a w→I g.old S H→μ g.old S H=k→∀ (b:Frame) (kk:List Item) (cs:List Frame),b.roundOf=ro→(FR ro).room (cs.length+1+m) →
   ∃e a' w',QS P w0 n Q e a' w'/\ArrivesIn (Machine.fenced P (FR ro)) P (lone (b.atR a (.code c::.inLoop c::kk)) cs w) b kk cs e a' w':=by
  intro k
  induction k using Nat.strongRecOn with
  |_ k ih=>
   intro g S H a w R hI hk b kk cs xk jt;obtain⟨e,j3,mA,hq,iW⟩:=hr g.old S H hI w0 g a w m hG rfl R b (.inLoop c::kk) cs xk trivial jt
   cases e with
   |normal=>
    obtain⟨g',S',H',h2,h3,h4⟩:=hq;obtain⟨Fh,EG,DZ,yO,rH⟩:=ih _ (by rw[<-hk];exact h4) g' S' H' j3 mA h2 h3 rfl b kk cs xk jt;exact⟨Fh,EG,DZ,yO,.of_steps (ahs iW (.one (agw (F:=FR ro) (fr:=b.atR j3 (.inLoop c::kk)) trivial jt rfl) aii)) rH⟩
   |exit id=>exact⟨.exit id,j3,mA,hq,.pass (x:=.inLoop c) rfl (λ_ _=>.inl ah7) iW⟩
   |goto l=>exact hq.elim
   |ret=>exact⟨.ret,j3,mA,hq,.pass (x:=.inLoop c) rfl (λ_ _=>.inl ah7) iW⟩
   |panic ch=>exact⟨.panic ch,j3,mA,hq,.pass (x:=.inLoop c) rfl (λ_ _=>.inl ah7) iW⟩
   |outgrown=>exact hq.elim
 intro b kk cs xk hF jt;obtain⟨e,a',w',hq,iW⟩:=key _ g S H a w R h0 rfl b kk cs xk jt;exact⟨e,a',w',hq,.of_steps (.one (agw (F:=FR ro) (fr:=b.atR a (.code (.loop c)::kk)) trivial jt rfl) stepR_loop) iW⟩
end
section
variable{P:Program}{GI:World->Prop}{call:D0}{n:Nat}{ro:Option Nat}{Q:fG}{old:Old}
def N2{c:Code}{x y:ah}(h:ez P n c=.seq x y):∃x' y',c=.seq x' y'/\ez P n x'=x/\ez P n y'=y:=by
 cases c with
 |seq x' y'=>simp only[ez,ah.seq.injEq]at h;exact⟨x',y',rfl,h.1,h.2⟩
 |region id ops draw=>
  simp only[ez]at h;split at h
  .split at h<;>cases h
  .split at h<;>cases h
 |cond c x y=>simp only[ez]at h;split at h<;>cases h
 |_=>cases h
end
section
variable{P:Program}{GI:World->Prop}{n:Nat}{w0:World}
def Cx(P:Program)(GI:World->Prop)(i:Nat):Nat->ah->(eh->au->aD->Prop)->au->aD->Prop
 |0,ac,Q,S,H=>∃cs,H i=some cs/\cW P GI ac Q (λt=>xB i cs (S t)) (aF H i none)
 |k+1,.seq x y,Q,S,H=>cW P GI x (λe S' H'=>match e with
  |.normal=>Cx P GI i k y Q S' H'
  |e=>Q e S' H') S H
 |_+1,_,_,_,_=>False
def Nr(hG:aQ GI)(dI:GI w0)(hm:P.follows .mixedOrders=true){old:Old}{i:Nat}(hf:old.facts=[])(du:∀d,¬old.bx d):∀(k:Nat)(c:Code)(Q:eh->au->aD->Prop)(g:Gh)(S:au)(H:aD)(a:Act)(w:World),g.old=old->Rel P w0 n dh g S H a w->Cx P GI i k (ez P n c) Q S H->c.wp P (QQ P w0 n old Q) a w
 |0,c,Q,g,S,H,a,w,ho,R,h=>by
  obtain⟨cs,hH,h⟩:=h;obtain⟨g',h1,R'⟩:=R.freeze hH (by rw[ho];exact hf);exact nI hG dI hm c _ g' _ _ a w (λd _=>du d) (h1.trans ho) R' h
 |k+1,c,Q,g,S,H,a,w,ho,R,h=>by
  cases pA:ez P n c<;>rw[pA]at h<;>try (exact h.elim)
  rename_i xa ya;obtain⟨x,y,rfl,rfl,rfl⟩:=N2 pA;refine wp_seq (ahz (nI hG dI hm x _ g S H a w (λd _=>du d) ho R h) ?_);intro e a' w' he
  cases e with
  |normal=>
   obtain⟨g',S',H',e1,R',h'⟩:=he;exact Nr hG dI hm hf du k y Q g' S' H' a' w' e1 R' h'
  |_=>exact he
def AC.Sg (hG:aQ GI) (hm:P.follows .mixedOrders=true) {f:Nat} {fn:Func} {c:Code} {args:List AV} {out:jr} (i k:Nat) (hf:P.funcs[f]? = some fn) (hb:fn.body=some c) (hn:fn.ntmps=n) (hl:args.length≤n) {ac:ah} (hc:ez P n c=ac)
  (h:Cx P GI i k ac (post P n fn.results.toList out) (start args) (λ_=>none)):AC P GI f args out:=by
 intro w old dn ib hlen hr;refine agi hf hb ?_;subst hc;have R:Rel P w n dh _ (start args) (λ_=>none) { tmps:=dn++Array.replicate (fn.ntmps-dn.size) undef,defers:=[] } w:=Rel.begin hn hl hlen hr;refine ahz (Nr hG ib hm (old:=Old.plain old w) rfl (λ_ h=>h) k c _ _ _ _ _ w rfl R h) ?_;intro e a' w' he
 have fin:(∃ g' S H,g'.old=Old.plain old w∧Rel P w n dh g' S H a' w'∧∃ v,bQ P n fn.results.toList S H=some v∧out = .ret v) →
   a'.defers=[]/\∃v,(results fn a'.tmps).run P w'=.ok v w'/\Ends P old w out (.returned v) w':=by
  rintro⟨g',S,H,e1,R',v,hv,rfl⟩;obtain⟨c,r1,r2,r3⟩:=wi R' hv;refine⟨by rw[R'.defers,e1];rfl,c,r1,?_,g'.hi,λb hb=>(R'.fresh b hb).1,c,rfl,?_,?_⟩
  .have:=R'.below;rwa [R'.base]at this
  .have:g'.Pr=qG w.heap.size old g'.hi:=by
    funext b k
    simp only[Gh.Pr,qG,R'.base,e1,Old.plain]
   rw[this]at r2;exact .data _ _ r2
  .rwa [R'.base]at r3
 cases e with
 |normal=>exact fin he
 |ret=>exact fin he
 |exit id=>obtain⟨_,_,_,_,_,h⟩:=he;exact h.elim
 |panic chain=>
  obtain⟨hd,v,c,hi,S,H,h1,h2,h3,h4,h5⟩:=he;subst h1;cases(show out=.panic v from h5);exact⟨hd,h2,hi,h3,c,rfl,h4⟩
 |goto l=>exact he.elim
 |outgrown=>exact he.elim
def Tb{i k:Nat}{x y:ah}{Q:eh->au->aD->Prop}{S:au}{H:aD}(K:au->aD->Prop)(hx:cW P GI x (λe S H=>e=.normal/\K S H) S H)(sS:∀{Q Q':eh->au->aD->Prop},(∀e S H,Q e S H->Q' e S H)->cW P GI x Q S H->cW P GI x Q' S H)(hy:∀S' H',K S' H'->Cx P GI i k y Q S' H'):Cx P GI i (k+1) (.seq x y) Q S H:=
 sS (λe S' H' h=>by obtain⟨rfl,h⟩:=h;exact hy S' H' h) hx
def Qu{i:Nat}{ac:ah}{Q:eh->au->aD->Prop}{S:au}{H:aD}(cs:List AV)(K:au->aD->Prop)(hH:H i=some cs)(hK:K (λt=>xB i cs (S t)) (aF H i none))(hc:∀S' H',K S' H'->cW P GI ac Q S' H'):Cx P GI i 0 ac Q S H:=⟨cs,hH,hc _ _ hK⟩
end
section
variable{P:Program}{GI:World->Prop}{w0:World}{n:Nat}{g:Gh}{S:au}{H:aD}{a:Act}{w:World}
def Rel.QB (R:Rel P w0 n dh g S H a w) {w':World} (hb:Below w.heap.size w w') {b:Nat} (hle:w.heap.size≤b) {o:Obj} (ho:w'.heap[b]? = some o) :
  Rel P w0 n dh { g with old:={ g.old with cg:=aF g.old.cg b (some o) } } S H a w':=by
 have R':=Rel.kG R hb
 have iA:g.base<=w.heap.size:=by rw[R.base];exact R.below.size
 refine{ size:=R'.size,defers:=R'.defers,facts:=R'.facts,slot:=R'.slot,own:=λt ht hu=>(R'.own t ht hu).cg rfl λb hb=>⟨rfl,rfl,hb⟩,box:=?_,kF:=R'.kF,kE:=R'.kE,inj:=R'.inj,base:=R'.base,below:=R'.below,fresh:=R'.fresh,still:=R'.still,grown:=R'.grown,kept:=?_ }
 .intro i c hi;obtain⟨cs,vs,ty,h1,h2,h3,h4,h5,h6,h7,h8,h9⟩:=R'.box i c hi;exact⟨cs,vs,ty,h1,h2,h3,h4,h5,h6,h7,λj hj eX=>(h8 j hj eX).cg rfl λb hb=>⟨rfl,rfl,hb⟩,h9⟩
 .intro c ob h
  by_cases nh:c=b
  .subst nh
   have:ob=o:=by simpa[aF]using h.symm
   subst this;refine⟨afl iA hle,ho,(R.fresh _ hle).1,(R.fresh _ hle).2,λi hi=>?_⟩;obtain⟨_,_,_,_,_,h3,_⟩:=R.box i _ hi;have:=(aea.1 h3).1;omega
  .have h:g.old.cg c=some ob:=by simpa[aF,nh]using h
   exact R'.kept c ob h
def RD.flat{Pr:Nat->Nat->Prop}{v:AV}{c:Value}(h:RD Pr w v c):Go.AL.flat v=true/\∀d,bt d v=v:=by
 have:=h.aX
 cases v<;>first|exact⟨rfl,λ_=>rfl⟩|cases this
def Rel.hand (R:Rel P w0 n dh g S H a w) {b:Nat} {o:Obj} (hk:g.old.cg b=some o) (m:Nat) :
  ∃g',g'.old={ g.old with cg:=aF g.old.cg b none }/\g'.base=g.base/\Rel P w0 n dh g' S H a w/\(∀c k,g.Pr c k->g'.Pr c k)/\∀k,k<m->g'.Pr b k:=by
 obtain⟨k1,k2,k3,k4,k5⟩:=R.kept b o hk
 have R1:Rel P w0 n dh { g with old:={ g.old with cg:=aF g.old.cg b none } } S H a w:=by
  refine{ size:=R.size,defers:=R.defers,facts:=R.facts,slot:=R.slot,own:=λt ht hu=>(R.own t ht hu).cg rfl λb hb=>⟨rfl,rfl,hb⟩,box:=?_,kF:=R.kF,kE:=R.kE,inj:=R.inj,base:=R.base,below:=R.below,fresh:=R.fresh,still:=R.still,grown:=R.grown,kept:=?_ }
  .intro i c hi;obtain⟨cs,vs,ty,h1,h2,h3,h4,h5,h6,h7,h8,h9⟩:=R.box i c hi;exact⟨cs,vs,ty,h1,h2,h3,h4,h5,h6,h7,λj hj eX=>(h8 j hj eX).cg rfl λb hb=>⟨rfl,rfl,hb⟩,h9⟩
  .intro c ob h
   have hc:c≠b:=by rintro rfl;simp[aF]at h
   exact R.kept c ob (by simpa[aF,hc]using h)
 have aN:=(aea.1 k2).1;have R2:=R1.lY (G:=λc=>c=b) (λ_=>m) (λc hc=>by subst hc;exact⟨⟨k1,k3,k4,k5⟩,aN,bX _ _ _⟩);refine⟨Gh.lY { g with old:={ g.old with cg:=aF g.old.cg b none } } (λc=>c=b) (λ_=>m),rfl,rfl,R2,λc k hp=>?_,λk hkm=>.inr ⟨k1,?_⟩⟩
 .rcases hp with hp|hp
  .exact .inl hp
  .refine .inr ⟨hp.1,?_⟩;simp only[Gh.lY]
   by_cases hc:c=b
   .subst hc;rw[k3]at hp;omega
   .rw[if_neg hc];exact hp.2
 .simp only[Gh.lY];rw[if_pos trivial];exact hkm
end
section
variable{P:Program}{GI:World->Prop}{md:Region.Mode}{ops:Array Oper}{n:Nat}
def HV(P:Program)(GI:World->Prop)(o:db)(S:au)(H:aD)(v:AV):Prop:=
 an S o.guard=some true/\match o.op with
 |.call f args=>(args.any λy=>bT (ev S y))=false/\eU P f=true/\AC P GI f (args.map λy=>fz H (ev S y)) (.panic v)
 |_=>False
def NL{x y:db}{S:au}{H:aD}{ex:aM}{v:AV}(ha:x.apart y=true)(hx:fa P GI x S H ex)(hy:HV P GI y (ex.S S x.dst) (ex.H H) v):HV P GI y S H v:=by
 obtain⟨h1,h2,h3⟩:=apart_spec ha;obtain⟨d1,d2⟩:=gf hx
 have hS:∀t∈y.reads,ex.S S x.dst t=S t:=λt ht=>aM.wN (λh=>(h1 t (fX (.inl h))).1 ht) (λh=>(h1 t (fX (.inr (d1 t h)))).1 ht)
 unfold HV at hy⊢;obtain⟨hw,hy⟩:=hy;refine⟨by rw[<-hw];exact(vJ λt b DL=>hS t (by simp[db.reads,DL])).symm,?_⟩;generalize eg:y.op=op at hy
 cases op<;>try (exact hy.elim)
 rename_i f args;simp only at hy⊢
 have rX:∀z∈args,∀t∈z.tmps,ex.S S x.dst t=S t:=λz hz t ht=>hS t (by
  simp only[db.reads,eg,fg.rd,aeg,aeQ]
  exact .inl ⟨z,hz,ht⟩)
 have e1:(args.any λy=>bT (ev (ex.S S x.dst) y))=(args.any λy=>bT (ev S y)):=by
  rw[aeW];simp only[afC]
  constructor
  .rintro⟨y,hy,hb⟩;exact⟨y,hy,by rw[<-de (rX y hy)];exact hb⟩
  .rintro⟨y,hy,hb⟩;exact⟨y,hy,by rw[de (rX y hy)];exact hb⟩
 obtain⟨hb,hc,pA⟩:=hy
 have e2:(args.map λy=>fz (ex.H H) (ev (ex.S S x.dst) y))=(args.map λy=>fz H (ev S y)):=aeX λy hy=>by
  simp only[ae9,afd]at hb;rw[AR (hb y hy) (H':=H),de (rX y hy)]
 rw[e1]at hb;rw[e2]at pA;exact⟨hb,hc,pA⟩
def Hn(P:Program)(GI:World->Prop)(n:Nat)(ops:Array Oper)(i:Nat)(K:au->aD->Prop)(Qp:AV->Prop)(S:au)(H:aD):Prop:=
 match jY P n ops i with
 |none=>False
 |some o=>(∃e,fa P GI o S H e/\K (e.S S o.dst) (e.H H))\/∃v,HV P GI o S H v/\Qp v
def Hq(P:Program)(GI:World->Prop)(n:Nat)(md:Region.Mode)(ops:Array Oper)(QA:au->aD->Prop)(Qp:AV->Prop):Nat->Array Bool->au->aD->Prop
 |0,listed,S,H=>Region.ready md ops listed=[]/\QA S H
 |fuel+1,listed,S,H=>(Region.ready md ops listed=[]->QA S H)/\∀i∈Region.ready md ops listed,Hn P GI n ops i (Hq P GI n md ops QA Qp fuel (listed.setIfInBounds i true)) Qp S H
def L5 {QA:au→aD→Prop} {Qp:AV→Prop} {i:Nat} {oi:db} {e:aM} (hi:jY P n ops i=some oi) :
  ∀(fuel:Nat)(listed:Array Bool)(S:au)(H:aD),
   (∀j o aj,ops[j]?=some o->jY P n ops j=some aj->j≠i->listed.getD j true=false->(∀ed∈o.after,Region.binds md ed=true->ed.on≠i)->oi.apart aj=true)->
   i∈Region.ready md ops listed->fa P GI oi S H e->
   Hq P GI n md ops QA Qp fuel (listed.setIfInBounds i true) (e.S S oi.dst) (e.H H)->Hq P GI n md ops QA Qp (fuel+1) listed S H:=by
 intro fuel
 induction fuel with
 |zero=>
  intro listed S H _ hr hy hK;refine⟨λh=>(by rw[h]at hr;cases hr),λj hj=>?_⟩
  by_cases gL:j=i
  .subst gL;unfold Hn;rw[hi];exact .inl ⟨e,hy,hK⟩
  .have:=agd hj gL;rw[hK.1]at this;cases this
 |succ fuel ih=>
  intro listed S H nR hr hy hK;refine⟨λh=>(by rw[h]at hr;cases hr),λj hj=>?_⟩
  by_cases gL:j=i
  .subst gL;unfold Hn;rw[hi];exact .inl ⟨e,hy,hK⟩
  .have h1:=hK.2 j (agd hj gL);obtain⟨zw,o,ho,eu⟩:=af8.1 hj
   have tB:jY P n ops j=some (cZ P n true ops o):=by simp[jY,ho]
   have MA:∀ed∈o.after,Region.binds md ed=true->ed.on≠i:=λed U3 hb heq=>by
    have h1:=eu ed U3 hb;have h0:=(af8.1 hr).1;rw[heq]at h1;rcases afB i listed.size with h'|h'
    .simp[h']at h0 h1;rw[h0]at h1;cases h1
    .simp[afF h']at h1
   have kI:=nR j o _ ho tB gL zw MA;unfold Hn at h1⊢;rw[tB]at h1⊢
   rcases h1 with h1|⟨v,hg,hq⟩
   case inr=>exact .inr ⟨v,NL kI hy hg,hq⟩
   obtain⟨ej,Gw,RU⟩:=h1;have wH:=tQ kI hy Gw;refine .inl ⟨ej,wH,?_⟩
   have xj:∀k o' ak,ops[k]?=some o'->jY P n ops k=some ak->k≠i->(listed.setIfInBounds j true).getD k true=false->(∀ed∈o'.after,Region.binds md ed=true->ed.on≠i)->oi.apart ak=true:=by
    intro k o' ak hk PB Di gp iX;refine nR k o' ak hk PB Di ?_ iX
    by_cases yv:j=k
    .subst yv;exact zw
    .rw[agv true yv]at gp;exact gp
   refine ih (listed.setIfInBounds j true) _ _ xj (agd hr (ae0 gL)) (uq kI wH hy) ?_;rw[agl _ _ gL];rw[<-yI kI (gf hy).1 (gf Gw).1,<-yl kI (gf hy).2 (gf wH).2];exact RU
def D4(md:Region.Mode)(ops:Array Oper)(al:List db)(ps:List Nat):List Nat->Array Bool->Bool
 |[],listed=>(Region.ready md ops listed).isEmpty
 |k::ord,listed=>(Region.ready md ops listed).contains k&&Jw md ops al listed k&&(!ps.contains k||Region.ready md ops listed==[k])&&D4 md ops al ps ord (listed.setIfInBounds k true)
def Jq(P:Program)(GI:World->Prop)(op:fg)(dst:Option Nat)(K:au->aD->Prop)(Qp:AV->Prop)(S:au)(H:aD):Prop:=
 match op with
 |.call f args=>(args.any λy=>bT (ev S y))=false/\cy P GI (.call f args) dst K Qp S H
 |_=>False
def ug(P:Program)(GI:World->Prop)(al:List db)(ps:List Nat):List Nat->(au->aD->Prop)->(AV->Prop)->au->aD->Prop
 |[],K,_,S,H=>K S H
 |k::ord,K,Qp,S,H=>match al[k]? with
  |none=>False
  |some o=>match an S o.guard with
   |some true=>if ps.contains k then Jq P GI o.op o.dst (ug P GI al ps ord K Qp) Qp S H else j8 P GI o.op o.dst (ug P GI al ps ord K Qp) S H
   |some false=>ug P GI al ps ord K Qp (bl S o.dst a_) H
   |none=>False
def Hy {QA:au→aD→Prop} {Qp:AV→Prop} {ps:List Nat}:∀ (ord:List Nat) (listed:Array Bool) (S:au) (H:aD),
  D4 md ops (cJ P n true ops) ps ord listed=true->ug P GI (cJ P n true ops) ps ord QA Qp S H->Hq P GI n md ops QA Qp ord.length listed S H
 |[],_,_,_,hB,h=>⟨by simpa[D4]using hB,h⟩
 |k::ord,listed,S,H,hB,h=>by
  simp only[D4,aeb]at hB;obtain⟨⟨⟨hr,hf⟩,hp⟩,N5⟩:=hB;simp only[ug]at h;split at h
  case h_1=>exact h.elim
  rename_i o ho
  have ha:jY P n ops k=some o:=by rw[<-gw];exact ho
  have jV:k∈Region.ready md ops listed:=by simpa using hr
  have step:∀e,fa P GI o S H e->ug P GI (cJ P n true ops) ps ord QA Qp (e.S S o.dst) (e.H H)->Hq P GI n md ops QA Qp (k::ord).length listed S H:=λe hy hK=>
   L5 ha ord.length listed S H (Ce ha hf) jV hy (Hy ord _ _ _ N5 hK)
  split at h
  .rename_i hw;split at h
   .rename_i ld;simp only[ld,ah3,Bool.false_or,aeS]at hp;unfold Jq at h;split at h
    case h_2=>exact h.elim
    rename_i f args eg;obtain⟨hb,out,h1,h2,h3,h4⟩:=h
    cases out with
    |ret v=>
     refine step { v:=v } ?_ h4;unfold fa;rw[hw];simp only[eg];exact⟨hb,.ret v,h1,h2,h3,rfl⟩
    |panic v=>
     refine⟨λhn=>(by rw[hn]at jV;cases jV),λj hj=>?_⟩;rw[hp,aev]at hj;subst hj;unfold Hn;rw[ha];refine .inr ⟨v,⟨hw,?_⟩,h4⟩;rw[eg];exact⟨hb,h1,h2⟩
   .obtain⟨e,he,hK⟩:=wo h;exact step e (by unfold fa;rw[hw];exact he) hK
  .rename_i hw;exact step { v:=a_ } (by unfold fa;rw[hw]) h
  .exact h.elim
variable{w0:World}{g:Gh}{S:au}{H:aD}{a:Act}{w:World}
def Vk (hG:aQ GI) (dI:GI w0) {old:Old} {Q:eh→au→aD→Prop} {S0:au} {H0:aD} (hA:∀ o∈ops,∀ t z,(cZ P n true ops o).op ≠ .alloc t z) (df:∀ o∈ops,(cZ P n true ops o).ok n=true) :
  ∀(fuel:Nat)(listed:Array Bool)(g:Gh)(S:au)(H:aD)(a:Act)(w:World),g.old=old->Rel P w0 n dh g S H a w->
   Hq P GI n .any ops (Q .normal) (λv=>Q (.panic v) S0 H0) fuel listed S H->wpAny P .any ops (QQ P w0 n old Q) fuel listed a w:=by
 intro fuel
 induction fuel with
 |zero=>
  intro listed g S H a w ho R h;exact⟨h.1,g,S,H,ho,R,h.2⟩
 |succ fuel ih=>
  intro listed g S H a w ho R h;refine⟨λhr=>⟨g,S,H,ho,R,h.1 hr⟩,λi hi=>?_⟩;have hd:=h.2 i hi;obtain⟨o,kz,Bg⟩:=xX (P:=P) (n:=n) hi;unfold Hn at hd;rw[Bg]at hd;have G8:=afg kz;have vd:=df o G8;have acT:=hA o G8
  have wK:∀t,o.dst=some t->t<n/\t∉(cZ P n true ops o).op.rd:=by
   intro t ht;simp only[db.ok,aeb]at vd;have h1:=vd.1;rw[show(cZ P n true ops o).dst=o.dst from rfl,ht]at h1;simpa using h1
  unfold wpOp;simp only[kz]
  rcases hd with⟨e,hy,hK⟩|⟨v,⟨BE,hv⟩,hq⟩
  case inr=>
   rw[uk R (λ_ _ _=>id) vd BE];simp only[aeH];refine .inl ?_;generalize eg:(cZ P n true ops o).op=op at hv;have wL:comp P n (match o.dst with|some d=>taken ops d|none=>false) (Q2 ops o) o=op:=eg
   cases op<;>try (exact hv.elim)
   rename_i f args;obtain⟨hb,h1,h2⟩:=hv;refine uv R hG dI wL (λt ht=>⟨(wK t ht).1,id⟩) (λ_ _=>id) (KA:=λ_=>False) (Qp:=λv'=>v'=v) ⟨.panic v,h1,h2,⟨λh=>absurd (hb.symm.trans h) zd,rfl⟩⟩ (λ_ _ _ _ _ _ _ hf=>hf.elim) ?_;intro v' c eJ w' k1 k2 k3 k4;subst k4;exact⟨by rw[<-ho];exact R.defers,v',c,eJ,S0,H0,rfl,k1,k2,by rw[<-ho];exact k3,hq⟩
  unfold fa at hy
  cases BE:an S (cZ P n true ops o).guard with
  |none=>rw[BE]at hy;exact hy.elim
  |some b=>
   rw[uk R (λ_ _ _=>id) vd BE];rw[BE]at hy
   cases b with
   |false=>
    simp only at hy;subst hy;simp only[aek,aeA];exact ih _ g _ _ _ _ ho (R.bl o.dst _ _ (λt ht=>(wK t ht).1) (.data _ _ (vD _ _)) λ_ _=>trivial) hK
   |true=>
    simp only at hy;simp only[aeH];refine .inl ?_
    have next:∀(g':Gh)(a':Act)(w':World),g'.old=g.old->Rel P w0 n dh g' (e.S S o.dst) (e.H H) a' w'->wpAny P .any ops (QQ P w0 n old Q) fuel (listed.setIfInBounds i true) a' w':=
     λg' a' w' h2 R'=>ih _ g' _ _ _ _ (h2.trans ho) R' hK
    by_cases dv:(cZ P n true ops o).op.calm=true
    .exact(yn R rfl dv (λt ht=>⟨(wK t ht).1,id⟩) (λ_ _=>id) (λt ht=>(wK t ht).2) (Ej dv hy)).wp λg' a' w' e1 e2 R'=>next g' a' w' e2 R'
    .generalize eg:(cZ P n true ops o).op=op at dv hy;have wL:comp P n (match o.dst with|some d=>taken ops d|none=>false) (Q2 ops o) o=op:=eg
     cases op<;>try (exact absurd rfl dv)
     case alloc t cs=>exact absurd eg (acT t cs)
     case call f args=>
      exact uv R hG dI wL (λt ht=>⟨(wK t ht).1,id⟩) (λ_ _=>id) hy.2 (λv g' a' w' e1 e2 R' hk=>by subst hk;exact next g' a' w' e2 R') (λ_ _ _ _ _ _ _ hf=>hf.elim)
     case ig f args=>
      simp only[l_]at hy;split at hy
      case h_2=>exact hy.elim
      rename_i k first cap Ay;exact we R hG dI wL (λt ht=>⟨(wK t ht).1,id⟩) (λ_ _=>id) Ay hy.2 (λv g' a' w' e1 e2 R' hk=>by subst hk;exact next g' a' w' e2 R') (λ_ _ _ _ _ _ _ hf=>hf.elim)
     case box=>exact hy.elim
     case panic=>exact hy.elim
     case other=>exact hy.elim
def KD(l:List db):Bool:=l.all λo=>match o.op with|.alloc ..=>false|_=>true
def Un(P:Program)(n:Nat)(ops:Array Oper)(ps ord:List Nat):Bool:=
 (cJ P n true ops).all (·.ok n)&&KD (cJ P n true ops)&&decide (ord.length=ops.size)&&D4 .any ops (cJ P n true ops) ps ord (Array.replicate ops.size false)
def SW.ZV (hG:aQ GI) (hm:P.follows .mixedOrders=true) {ro:Option Nat} {old:Old} {Q:fG} {id:Nat} {ps ord:List Nat} (eK:ops.all (fun o=>fk o.op)=true) (df:Un P n ops ps ord=true)
  {l:List db} (hl:cJ P n true ops=l) (h:ug P GI l ps ord (Q .normal old) (λv=>Q (.panic v) old S H) S H):SW P GI n ro (.region id ops true) Q old S H:=by
 subst hl;intro w0 g a w m dI ho R;simp only[Un,aeb,aej]at df;obtain⟨⟨⟨h1,h2⟩,h3⟩,h4⟩:=df;have R0:Rel P w0 n dh g S H a { w with drawn:=w.drawn+1 }:=R.kG ((afb _ w).drew)
 refine afR (afN hm (wY eK rr _ _ _ _ (Vk hG dI (old:=old) (Q:=Q.cW old) (S0:=S) (H0:=H) (λo lz t z hz=>?_) (λo lz=>?_) ops.size (Array.replicate ops.size false) g S H a _ ho R0 ?_))) λ_ _ _ hq=>BK hq
 .have:=aeh.1 h2 (cZ P n true ops o) (af4 (by simpa using lz));rw[hz]at this;cases this
 .simp only[cJ,afP,aeh,Function.comp]at h1;exact h1 o (by simpa using lz)
 .rw[<-h3];exact Hy ord _ S H (by rw[h3];exact h4) h
def pI(P:Program)(GI:World->Prop):List (Bool×db)->(au->aD->Prop)->(AV->Prop)->au->aD->Prop
 |[],K,_,S,H=>K S H
 |(b,o)::L,K,Qp,S,H=>match an S o.guard with
  |some true=>if b then Jq P GI o.op o.dst (pI P GI L K Qp) Qp S H else j8 P GI o.op o.dst (pI P GI L K Qp) S H
  |some false=>pI P GI L K Qp (bl S o.dst a_) H
  |none=>False
def HS{al:List db}{ps:List Nat}{K:au->aD->Prop}{Qp:AV->Prop}:∀(ord:List Nat)(L:List (Bool×db)),(ord.map λk=>(ps.contains k,al[k]?))=(L.map λx=>(x.1,some x.2))->ug P GI al ps ord K Qp=pI P GI L K Qp
 |[],[],_=>rfl
 |[],_::_,h=>by simp at h
 |_::_,[],h=>by simp at h
 |k::ord,(b,o)::L,h=>by
  simp only[aer,afY,agH]at h;obtain⟨⟨h1,h2⟩,h3⟩:=h
  funext S H
  simp only[ug,pI,h1,h2,HS ord L h3]
def uy{op:fg}{dst:Option Nat}{K K':au->aD->Prop}(hK:∀S H,K S H->K' S H){S:au}{H:aD}(h:j8 P GI op dst K S H):j8 P GI op dst K' S H:=by
 cases op<;>simp only[j8,cy]at h⊢<;>(try exact h)
 case alloc=>cases dst<;>first|exact h|exact hK _ _ h
 case call f args=>
  obtain⟨hb,out,h1,h2,h3,h4⟩:=h;refine⟨hb,out,h1,h2,h3,?_⟩
  cases out with
  |ret v=>exact hK _ _ h4
  |panic v=>exact h4
 case ig f args=>
  refine⟨h.1,?_⟩;have h:=h.2;split at h
  .obtain⟨out,h1,h2,h3,h4⟩:=h;refine⟨out,h1,h2,h3,?_⟩
   cases out with
   |ret v=>exact hK _ _ h4
   |panic v=>exact h4
  .exact h.elim
 all_goals
  split at h
  .exact hK _ _ h
  .exact h.elim
def mq{K:au->aD->Prop}{Qp:AV->Prop}{L:List (Bool×db)}:∀(l:List db){S:au}{H:aD},dT P GI l (pI P GI L K Qp) S H->pI P GI (l.map (λo=>(false,o))++L) K Qp S H
 |[],_,_,h=>h
 |o::l,S,H,h=>by
  simp only[aer,List.cons_append,pI,dT]at h⊢
  cases hw:an S o.guard with
  |none=>rw[hw]at h;exact h.elim
  |some b=>
   rw[hw]at h
   cases b with
   |true=>exact uy (λS H h=>mq l h) h
   |false=>exact mq l h
def ki {K:au→aD→Prop} {Qp:AV→Prop} {L:List (Bool×db)} {d:Option Nat} {f:Nat} {args:List dU} {S:au} {H:aD} (hb:(args.any fun y=>bT (ev S y))=false) (hc:eU P f=true) {out:jr} (h:AC P GI f (args.map fun y=>fz H (ev S y)) out)
  (hk:match(generalizing:=false) out with|.ret v=>pI P GI L K Qp (bl S d v) H|.panic v=>Qp v):pI P GI ((true,⟨d,none,.call f args⟩)::L) K Qp S H:=by
 simp only[pI,an,aeH,Jq];refine⟨hb,out,hc,h,λh=>absurd (hb.symm.trans h) zd,?_⟩
 cases out<;>exact hk
def uG{K:au->aD->Prop}{Qp:AV->Prop}(l:List db){S:au}{H:aD}(h:dT P GI l K S H):pI P GI (l.map (λo=>(false,o))) K Qp S H:=by
 have:=mq (P:=P) (GI:=GI) (K:=K) (Qp:=Qp) (L:=[]) l h;rwa [afe]at this
def SW.JJ (hG:aQ GI) (hm:P.follows .mixedOrders=true) {ro:Option Nat} {old:Old} {Q:fG} {id:Nat} (ps ord:List Nat) (eK:ops.all (fun o=>fk o.op)=true) (df:Un P n ops ps ord=true)
  {l:List db} (hl:cJ P n true ops=l) (L:List (Bool×db)) (hL:(ord.map λk=>(ps.contains k,l[k]?))=(L.map λx=>(x.1,some x.2))) (h:pI P GI L (Q .normal old) (λv=>Q (.panic v) old S H) S H):SW P GI n ro (.region id ops true) Q old S H:=
 SW.ZV hG hm eK df hl (by rw[HS ord L hL];exact h)
end
section
variable{P:Program}{GI:World->Prop}{n:Nat}{a:Act}{w:World}{S:au}{H:aD}
def vb {o:Oper} {s el:TypeId} {i:TypeInfo} {x1 x2:Operand} {b m cap k:Nat} (ho:o.op = .indexAddr s x1 x2) (hs:P.underlying s=some (.slice el)) (hi:P.info? el=some i)
  (h1:a.eval x1=.slice (some ⟨b,0,none⟩) m cap) (h2:a.eval x2=.int .i64 k) (hk:k<m):(execOp a.eval o).run P w=.ok (.value (.pointer (some ⟨b,k*i.size,none⟩))) w:=by
 have Jr:(0:Int)<=k:=zo
 have jW:(k:Int)<m:=zo
 simp[execOp,ho,h1,h2,Instr.indexAt,asIntOf,aet hs,Jr,jW,sizeOf,typeInfo,hi,afh,hk]
def C9 {o:Oper} {s:TypeId} {fs:Array Field} {f:Field} {i:TypeInfo} {j:Nat} {x:Operand} {b off:Nat} (ho:o.op = .fieldAddr s x j) (hs:P.underlying s=some (.struct fs)) (hf:fs[j]? = some f) (hi:P.info? f.type=some i) (hz:i.size≠0)
  (hx:a.eval x=.pointer (some ⟨b,off,none⟩)):(execOp a.eval o).run P w=.ok (.value (.pointer (some ⟨b,off+f.offset,none⟩))) w:=by
 simp[execOp,ho,hx,Instr.fieldAt,aet hs,hf,Instr.sureAddr,fieldPlace,sizeOf,typeInfo,hi,hz,afh]
def oF(w:World){b:Nat}{cs jX:Array Value}{ty:TypeId}(h:w.heap[b]?=some (.cells cs ty (0,0))):w.setRow b jX=w.putObj b (.cells jX ty (0,0)):=by
 unfold World.setRow World.putObj
 congr 1
 apply aij;intro k;rw[Array.getElem?_modify,afr];have aN:=(aea.1 h).1
 by_cases hk:b=k
 .subst hk;have e:=(aea.1 h).2;simp[aN,e]
 .simp[hk]
def Nn {o:Oper} {t:TypeId} {x y:Operand} {b off:Nat} {v:Value} {ty:TypeId} {i:TypeInfo} {arr:Array Value} (ho:o.op = .store t x y) (hx:a.eval x = .pointer (some ⟨b,off,none⟩)) (hi:P.info? t=some i) (hs:i.size=1) (hb:w.heap[b]? = some (.cells arr ty (0,0)))
  (T8:off<arr.size) (hv:(a.eval y)=v) (h1:v.oneCell'=true):∃V6:Array Value,(execOp a.eval o).run P w=.ok .skip (w.putObj b (.cells V6 ty (0,0)))/\V6.size=arr.size/\∀k,V6.getD k undef=if k=off then v else arr.getD k undef:=by
 have ln:v.cells=#[v]:=by cases v<;>first|rfl|cases h1
 have eA:=ag1 P b off ty [v] 0 arr w hb (by simp;omega) (λx hx=>by simp at hx;subst hx;exact h1)
 have he:(arr.toList.take off++[v]++arr.toList.drop (off+1)).toArray=arr.setIfInBounds off v:=by
  apply Array.toList_inj.1;rw[Array.toList_setIfInBounds,List.set_eq_take_append_cons_drop,if_pos (by simpa using T8)];simp
 refine⟨arr.setIfInBounds off v,?_,ah7,λk=>?_⟩
 .rw[<-oF w hb,<-he];unfold execOp;simp only[ho,hx,hv,Instr.storeAt,Instr.sureAddr,storeVar,sizeOf,typeInfo,ael,Sem.run_pure,Result.andThen_ok,run_program,hi,hs,ln,ne_eq,afM,aeA];have cM:(#[v]:Array Value).size=1:=rfl;simp only[cM,afM,aeA];rw[show storeCells ⟨b,off,none⟩ (#[v]:Array Value).toList=storeCells ⟨b,off,none⟩ [v] 0 from rfl];simp only[Nat.add_zero,List.length_singleton]at eA;rw[eA]
  rfl
 .simp only[aex,afr]
  by_cases hk:off=k
  .subst hk;simp[T8]
  .rw[if_neg hk,if_neg (ae0 hk)]
end
def Cp{κ:Type}(enc:κ->Value)(es:Array MapEntry)(l:List (κ×Value)):Prop:=es.size=l.length/\∀i (h:i<es.size)(h':i<l.length),(es[i]).key=enc l[i].1/\(es[i]).val=l[i].2
def pN{κ:Type}[BEq κ](k:κ):List (κ×Value)->Nat->Option (Nat×Value)
 |[],_=>none
 |(k',v)::l,i=>if(k==k')=true then some (i,v)else pN k l (i+1)
def Cp.push{κ:Type}{enc:κ->Value}{es:Array MapEntry}{l:List (κ×Value)}(h:Cp enc es l)(k:κ)(v:Value)(born:Nat):Cp enc (es.push { key:=enc k,val:=v,born:=born }) (l++[(k,v)]):=by
 refine⟨by simp[h.1],λi hi eJ=>?_⟩;rw[Array.getElem_push,List.getElem_append];have hs:=h.1
 by_cases aN:i<es.size
 .rw[dif_pos aN,dif_pos zo];exact h.2 i aN zo
 .rw[dif_neg aN,dif_neg zo];simp
def Cp.list{κ:Type}{enc:κ->Value}{es:Array MapEntry}{l:List (κ×Value)}(h:Cp enc es l):∀i (h:i<es.toList.length)(h':i<l.length),(es.toList[i]).key=enc l[i].1/\(es.toList[i]).val=l[i].2:=λi hi eJ=>by
 have:=h.2 i (by simpa using hi) eJ;simpa using this
def uA(k:Int):∀(es:List MapEntry)(l:List (Int×Value))(i:Nat),es.length=l.length->(∀j (h:j<es.length)(h':j<l.length),(es[j]).key=.int .i64 l[j].1/\(es[j]).val=l[j].2)->Instr.findNow (.int .i64) (.int .i64 k) es i=some (pN k l i)
 |[],[],_,_,_=>rfl
 |[],_::_,_,h,_=>by simp at h
 |_::_,[],_,h,_=>by simp at h
 |e::es,(k',v)::l,i,hl,h=>by
  obtain⟨h1,h2⟩:=h 0 ah7 ah7;simp only[List.getElem_cons_zero]at h1 h2;unfold Instr.findNow pN;rw[h1];simp only[Instr.sameNow,aeH]
  by_cases hk:k=k'
  .subst hk;simp[h2]
  .have:(k==k')=false:=by simpa using hk
   rw[this];simp only[aek,aeA]
   exact uA k es l (i+1) (by simpa using hl) λj hj eX=>h (j+1) (ag7 hj) (ag7 eX)
section
variable{P:Program}{a:Act}{w:World}
def Ih {o:Oper} {t kt el:TypeId} {x1 x2 x3:Operand} {b clock:Nat} {es:Array MapEntry} {k:Int} {l:List (Int×Value)} (ho:o.op = .mapUpdate t x1 x2 x3) (gp:P.underlying t=some (.map kt el)) (hu:P.underlying kt=some (.int .i64)) (h1:a.eval x1 = .map (some b)) (h2:a.eval x2 = .int .i64 k)
  (hb:w.heap[b]?=some (.map es clock)) (he:Cp (.int .i64) es l) (iX:pN k l 0=none):(execOp a.eval o).run P w=.ok .skip (w.putObj b (.map (es.push { key:=.int .i64 k,val:=a.eval x3,born:=clock }) (clock+1))):=by
 have hf:=uA k es.toList l 0 (by simpa using he.1) he.list;rw[iX]at hf;have y3:=MapKept.run_findKey (P:=P) (w:=w) hu hf
 have AB:(Instr.checkKey false 10000 kt (.int .i64 k)).run P w=.ok () w:=by
  unfold Instr.checkKey;simp[ael,aet hu]
 unfold execOp;simp only[ho,h1,h2,Instr.mapUpdate,ael,aet gp,Result.andThen_ok,agu hb,AB,y3,ahP _ hb]
 rfl
def IK {o:Oper} {t kt el:TypeId} {ie:TypeInfo} {z:Value} {x1 x2:Operand} {b clock:Nat} {es:Array MapEntry} {k:Int} {l:List (Int×Value)} (ho:o.op = .lookup t x1 x2 false) (gp:P.underlying t=some (.map kt el)) (hu:P.underlying kt=some (.int .i64)) (hi:P.info? el=some ie) (hz:ie.zero=some z)
  (h1:a.eval x1=.map (some b)) (h2:a.eval x2=.int .i64 k) (hb:w.heap[b]?=some (.map es clock)) (he:Cp (.int .i64) es l):(execOp a.eval o).run P w=.ok (.value (((pN k l 0).map (·.2)).getD z)) w:=by
 have hf:=uA k es.toList l 0 (by simpa using he.1) he.list;have y3:=MapKept.run_findKey (P:=P) (w:=w) hu hf
 have AB:∀e,(Instr.checkKey e 10000 kt (.int .i64 k)).run P w=.ok () w:=λe=>by
  unfold Instr.checkKey;simp[ael,aet hu]
 unfold execOp;simp only[ho,h1,h2,Instr.lookup,ael,aet gp,Result.andThen_ok,agu hb,Sem.run_pure,AB,y3]
 cases pN k l 0 with
 |none=>simp[zeroValue,typeInfo,hi,hz]
 |some q=>simp
end
def GP(x y:db):Bool:=match x.dst,x.guard,x.op,y.dst,y.guard,y.op with
 |some d,none,.loadT _ a,some d',none,.loadT _ a'=>d !=d'&&!a'.tmps.contains d&&!a.tmps.contains d'
 |_,_,_,_,_,_=>false
def sT(S:au)(x y:db):Prop:=match x.op,y.op with
 |.loadT _ a,.loadT _ a'=>∃i o i' o',ev S a=.box i o/\ev S a'=.box i' o'/\(i≠i'\/o≠o')
 |_,_=>False
section
variable{P:Program}{GI:World->Prop}{md:Region.Mode}{ops:Array Oper}{n:Nat}
def Sf {x y:db} {S:au} {H:aD} {ex ey:aM} (hs:GP x y=true) (hA:sT S x y) (hx:fa P GI x S H ex) (hy:fa P GI y (ex.S S x.dst) (ex.H H) ey) :
  ∃J3 Ah,fa P GI y S H J3/\fa P GI x (J3.S S y.dst) (J3.H H) Ah/\Ah.S (J3.S S y.dst) x.dst=ey.S (ex.S S x.dst) y.dst/\Ah.H (J3.H H)=ey.H (ex.H H)/\J3.dm=none:=by
 obtain⟨xd,xg,xo⟩:=x;obtain⟨yd,yg,yo⟩:=y;unfold GP at hs;split at hs
 case h_2=>cases hs
 rename_i d h a d' h' a' q1 q2 q3 q4 q5 q6;simp only at q1 q2 q3 q4 q5 q6;subst q1 q2 q3 q4 q5 q6;simp only[aeb,agU,ne_eq,ae_,agD,agp]at hs;obtain⟨⟨hd,Gd⟩,vQ⟩:=hs;obtain⟨i,o,i',o',e1,e2,dR⟩:=hA;simp only[fa,an,l_,ar,e1]at hx;split at hx
 case isFalse=>cases hx
 rename_i df;split at hx
 case h_2=>cases hx
 rename_i cs tZ;split at hx
 case h_2=>cases hx
 rename_i v hv;cases hx;simp only[aM.S,bl,aM.H]at hy
 have OP:ev (aF S d v) a'=.box i' o':=by
  rw[<-e2];exact de λt ht=>b_ _ _ (by rintro rfl;exact Gd ht)
 simp only[fa,an,l_,ar,OP]at hy;split at hy
 case isFalse=>cases hy
 rename_i ED;split at hy
 case h_2=>cases hy
 rename_i jX QE;split at hy
 case h_2=>cases hy
 rename_i v' qy;cases hy
 have Ar:ev (aF S d' v') a=.box i o:=by
  rw[<-e1];exact de λt ht=>b_ _ _ (by rintro rfl;exact vQ ht)
 have hSc:aF (aF S d' v') d v=aF (aF S d v) d' v':=by
  funext t
  simp only[aF]
  by_cases h1:t=d
  .subst h1;simp[hd]
  .simp[h1]
 by_cases hi:i=i'
 .subst hi
  have ho:o≠o':=by rcases dR with h|h;exact absurd rfl h;exact h
  rw[bX]at QE;cases QE;rw[ahZ ho]at qy;refine⟨{ v:=v',hw:=some (i,cs.set o' v'.bC) },{ v:=v,hw:=some (i,(cs.set o' v'.bC).set o v.bC) },?_,?_,hSc,?_,rfl⟩
  .simp[fa,an,l_,ar,e2,ED,tZ,qy]
  .have:(cs.set o' v'.bC)[o]?=some v:=by rw[ahZ (ae0 ho)];exact hv
   simp[fa,an,l_,ar,aM.S,aM.H,bl,Ar,df,bX,this]
  .simp only[aM.H];rw[List.set_comm _ _ (ae0 ho)]
   funext t
   simp only[aF]
   split<;>rfl
 .rw[b_ _ _ (ae0 hi)]at QE;refine⟨{ v:=v',hw:=some (i',jX.set o' v'.bC) },{ v:=v,hw:=some (i,cs.set o v.bC) },?_,?_,hSc,?_,rfl⟩
  .simp[fa,an,l_,ar,e2,ED,QE,qy]
  .simp[fa,an,l_,ar,aM.S,aM.H,bl,Ar,df,b_ _ _ hi,tZ,hv]
  .simp only[aM.H]
   funext t
   simp only[aF]
   by_cases h1:t=i
   .subst h1;simp[hi]
   .simp[h1]
def sT.cg{S S':au}{x y:db}(h:sT S x y)(hS:∀t∈x.op.rd++y.op.rd,S' t=S t):sT S' x y:=by
 obtain⟨xd,xg,xo⟩:=x;obtain⟨yd,yg,yo⟩:=y;unfold sT at h⊢;simp only at h hS⊢;split at h
 case h_2=>exact h.elim
 obtain⟨i,o,i',o',e1,e2,dR⟩:=h;refine⟨i,o,i',o',?_,?_,dR⟩
 .rw[<-e1];exact de λt ht=>hS t (age _ ht)
 .rw[<-e2];exact de λt ht=>hS t (agB _ ht)
def stay(P:Program)(n:Nat)(ops:Array Oper)(listed:Array Bool)(ts:List Nat):Prop:=∀k ak,jY P n ops k=some ak->listed.getD k true=false->∀t∈ts,t∉ak.writes
def Io {QA:au→aD→Prop} {i:Nat} {oi:db} (hi:jY P n ops i=some oi) :
  ∀(fuel:Nat)(listed:Array Bool)(S:au)(H:aD)(e:aM),
   (∀j o aj,ops[j]?=some o->jY P n ops j=some aj->j≠i->listed.getD j true=false->(∀ed∈o.after,Region.binds md ed=true->ed.on≠i)->oi.apart aj=true\/(GP oi aj=true/\sT S oi aj/\stay P n ops listed (oi.op.rd++aj.op.rd)))->
   i∈Region.ready md ops listed->fa P GI oi S H e->
   An P GI n md ops QA fuel (listed.setIfInBounds i true) (e.S S oi.dst) (e.H H)->An P GI n md ops QA (fuel+1) listed S H:=by
 intro fuel
 induction fuel with
 |zero=>
  intro listed S H e _ hr hy hK;refine⟨λh=>(by rw[h]at hr;cases hr),λj hj=>?_⟩
  by_cases gL:j=i
  .subst gL;unfold LD;rw[hi];exact⟨e,hy,hK⟩
  .have:=agd hj gL;rw[hK.1]at this;cases this
 |succ fuel ih=>
  intro listed S H e nR hr hy hK;refine⟨λh=>(by rw[h]at hr;cases hr),λj hj=>?_⟩
  by_cases gL:j=i
  .subst gL;unfold LD;rw[hi];exact⟨e,hy,hK⟩
  .have h1:=hK.2 j (agd hj gL);obtain⟨zw,o,ho,eu⟩:=af8.1 hj
   have tB:jY P n ops j=some (cZ P n true ops o):=by simp[jY,ho]
   have MA:∀ed∈o.after,Region.binds md ed=true->ed.on≠i:=λed U3 hb heq=>by
    have h1:=eu ed U3 hb;have h0:=(af8.1 hr).1;rw[heq]at h1;rcases afB i listed.size with h'|h'
    .simp[h']at h0 h1;rw[h0]at h1;cases h1
    .simp[afF h']at h1
   have kI:=nR j o _ ho tB gL zw MA;unfold LD at h1⊢;rw[tB]at h1⊢;obtain⟨ej,Gw,RU⟩:=h1
   have YX:∀k,(listed.setIfInBounds j true).getD k true=false->listed.getD k true=false:=λk hk=>by
    by_cases yv:j=k
    .subst yv;exact zw
    .rwa [agv true yv]at hk
   have xj:∀ ej':aM,(∀ t,ej'.dm=some t→t∈(cZ P n true ops o).op.wr)→∀ k o' ak,ops[k]? = some o'→jY P n ops k=some ak→k≠i→(listed.setIfInBounds j true).getD k true=false→(∀ ed∈o'.after,Region.binds md ed=true→ed.on≠i) →
     oi.apart ak=true\/(GP oi ak=true/\sT (ej'.S S (cZ P n true ops o).dst) oi ak/\stay P n ops (listed.setIfInBounds j true) (oi.op.rd++ak.op.rd)):=by
    intro ej' I0 k o' ak hk PB Di gp iX
    rcases nR k o' ak hk PB Di (YX k gp) iX with h|⟨h1,h2,h3⟩
    .exact .inl h
    .refine .inr ⟨h1,h2.cg λt ht=>?_,λm am hm hu=>h3 m am hm (YX m hu)⟩;have:=h3 j _ tB zw t ht;exact aM.wN (λh=>this (fX (.inl h))) (λh=>this (fX (.inr (I0 t h))))
   rcases kI with kI|⟨hs,hA,_⟩
   .have wH:=tQ kI hy Gw;refine⟨ej,wH,?_⟩;refine ih (listed.setIfInBounds j true) _ _ e (xj ej (gf Gw).1) (agd hr (ae0 gL)) (uq kI wH hy) ?_;rw[agl _ _ gL];rw[<-yI kI (gf hy).1 (gf Gw).1,<-yl kI (gf hy).2 (gf wH).2];exact RU
   .obtain⟨J3,Ah,q1,q2,q3,q4,q5⟩:=Sf hs hA hy Gw;refine⟨J3,q1,?_⟩;refine ih (listed.setIfInBounds j true) _ _ Ah (xj J3 (λt h=>by rw[q5]at h;cases h)) (agd hr (ae0 gL)) q2 ?_;rw[agl _ _ gL,q3,q4];exact RU
def Jx(md:Region.Mode)(ops:Array Oper)(al:List db)(p q:Nat)(listed:Array Bool)(i:Nat):Bool:=
 match al[i]? with
 |none=>false
 |some oi=>(List.range ops.size).all fun j=>j==i || listed.getD j true || match ops[j]?,al[j]? with
   |some oj,some aj=>oj.after.any (fun e=>Region.binds md e && e.on==i) || oi.apart aj ||
     (i==p&&j==q&&GP oi aj&&(List.range ops.size).all λk=>listed.getD k true||match al[k]? with
      |some ak=>(oi.op.rd++aj.op.rd).all λt=>!ak.writes.contains t
      |none=>true)
   |_,_=>true
def FH(md:Region.Mode)(ops:Array Oper)(al:List db)(p q:Nat):List Nat->Array Bool->Bool
 |[],listed=>(Region.ready md ops listed).isEmpty
 |k::r,listed=>(Region.ready md ops listed).contains k&&Jx md ops al p q listed k&&FH md ops al p q r (listed.setIfInBounds k true)
def I4 {p q i:Nat} {oi:db} {listed:Array Bool} {S:au} (hi:jY P n ops i=some oi) (h:Jx md ops (cJ P n true ops) p q listed i=true) (hS:i=p→∀ aj,jY P n ops q=some aj→sT S oi aj) (j:Nat) (o:Oper) (aj:db)
  (hj:ops[j]?=some o) (tB:jY P n ops j=some aj) (dR:j≠i) (gp:listed.getD j true=false) (iX:∀e∈o.after,Region.binds md e=true->e.on≠i):oi.apart aj=true\/(GP oi aj=true/\sT S oi aj/\stay P n ops listed (oi.op.rd++aj.op.rd)):=by
 simp only[Jx,gw,hi,aeh,aeI]at h;have h1:=h j (aea.1 hj).1;simp only[hj,tB,afo,aeS,dR,ahC,gp,aek,aeb]at h1
 rcases h1 with(h1|h1)|⟨⟨⟨h1,h2⟩,h3⟩,h4⟩
 .obtain⟨e,he,hb⟩:=agM.1 h1;simp only[aeb,aeS]at hb;exact absurd hb.2 (iX e he hb.1)
 .exact .inl h1
 .subst h1 h2;refine .inr ⟨h3,hS rfl aj tB,λk ak hk hu t ht hw=>?_⟩
  have jW:k<ops.size:=by
   unfold jY at hk
   cases ho:ops[k]? with
   |none=>rw[ho]at hk;cases hk
   |some x=>exact(aea.1 ho).1
  have h5:=aeh.1 h4 k (aeI.2 jW);simp only[hu,Bool.false_or,hk]at h5;have:=aeh.1 h5 t ht;simp[hw]at this
def vH{K K':au->aD->Prop}(hK:∀S H,K S H->K' S H):∀(l:List db)(S:au)(H:aD),dT P GI l K S H->dT P GI l K' S H
 |[],_,_,h=>hK _ _ h
 |o::rest,S,H,h=>by
  simp only[dT]at h⊢;split
  .rename_i hw;simp only[hw]at h;exact uy (λS H=>vH hK rest S H) h
  .rename_i hw;simp only[hw]at h;exact vH hK rest _ _ h
  .rename_i hw;simp only[hw]at h
def BL(P:Program)(GI:World->Prop)(al:List db)(p q:Nat)(K:au->aD->Prop):List Nat->au->aD->Prop
 |[],S,H=>K S H
 |k::r,S,H=>∃o,al[k]?=some o/\(k=p->∀aj,al[q]?=some aj->sT S o aj)/\dT P GI [o] (BL P GI al p q K r) S H
def Eu {QA:au→aD→Prop} {p q:Nat}:∀ (ord:List Nat) (listed:Array Bool) (S:au) (H:aD),
  FH md ops (cJ P n true ops) p q ord listed=true->BL P GI (cJ P n true ops) p q QA ord S H->An P GI n md ops QA ord.length listed S H
 |[],_,_,_,hB,h=>⟨by simpa[FH]using hB,h⟩
 |k::r,listed,S,H,hB,h=>by
  obtain⟨o,ha,hS,h⟩:=h;rw[gw]at ha;simp only[FH,aeb]at hB;obtain⟨⟨hr,hf⟩,N5⟩:=hB;obtain⟨e,hy,hK⟩:=vf h
  exact Io ha r.length listed S H e (I4 ha hf (λhk aj tB=>hS hk aj (by rw[gw];exact tB))) (by simpa using hr) hy
   (Eu r _ _ _ N5 hK)
def Yu(P:Program)(n:Nat)(ops:Array Oper)(p q:Nat)(ord:List Nat):Bool:=
 (cJ P n true ops).all (·.ok n)&&pC .any ops (cJ P n true ops)&&KD (cJ P n true ops)&&decide (ord.length=ops.size)&&FH .any ops (cJ P n true ops) p q ord (Array.replicate ops.size false)
def EM{al:List db}{p q:Nat}{K:au->aD->Prop}{r:List Nat}:∀(ks:List Nat)(l:List db){S:au}{H:aD},ks.map (al[·]?)=l.map some->(∀k∈ks,k≠p)->dT P GI l (BL P GI al p q K r) S H->BL P GI al p q K (ks++r) S H
 |[],[],_,_,_,_,h=>h
 |[],_::_,_,_,h,_,_=>by simp at h
 |_::_,[],_,_,h,_,_=>by simp at h
 |k::ks,o::l,S,H,he,hp,h=>by
  simp only[aer,afY]at he;refine⟨o,he.1,λhk=>absurd hk (hp k ah7),?_⟩
  have hm:∀S H,dT P GI l (BL P GI al p q K r) S H->BL P GI al p q K (ks++r) S H:=λS H h=>EM ks l he.2 (λk hk=>hp k (aei _ hk)) h
  simp only[dT]at h⊢;split
  .rename_i hw;simp only[hw]at h;exact uy hm h
  .rename_i hw;simp only[hw]at h;exact hm _ _ h
  .rename_i hw;simp only[hw]at h
end
section
variable{P:Program}{GI:World->Prop}{n:Nat}{ops:Array Oper}{S:au}{H:aD}
end
section
variable{P:Program}{GI:World->Prop}{n m:Nat}{Q:Exit->Act->World->Prop}
section
variable{ops:Array Oper}{p:Nat}{la l:Array Bool}(hp:p<=ops.size)
 (hw:∀i o,ops[i]?=some o->if i<p then∀e∈o.after,Region.binds .any e=true->e.on<i else∀j,j<p->∃e∈o.after,Region.binds .any e=true/\e.on=j)
include hp hw
end
end
section
variable{P:Program}{Q:Exit->Act->World->Prop}{ro:Option Nat}{m n:Nat}{ops:Array Oper}
structure AI(ops:Array Oper)(n:Nat)(a0:Act)(val:Nat->Value)(l:Array Bool)(a:Act):Prop where
 size:a.tmps.size=n
 defers:a.defers=a0.defers
 old:∀t:Nat,(∀(i:Nat)(o:Oper),ops[i]?=some o->o.dst≠some t)->a.tmps.getD t undef=a0.tmps.getD t undef
 got:∀(i:Nat)(o:Oper)(t:Nat),ops[i]?=some o->o.dst=some t->l.getD i false=true->a.tmps.getD t undef=val t
section
variable{a:Act}{w:World}
def P7 {i:Nat} {rest:List Nat} {o:Oper} (ho:ops[i]? = some o) (hw:Region.wanted o (yielded ops a.tmps)=true) (eK:fk o.op=true) {v:Value} {w':World}
  (hr:(execOp a.eval o).run P w=.ok (.value v) w') (hk:wpOpsIn (FR ro) m P ops Q rest (a.put o.dst v) w'):wpOpsIn (FR ro) m P ops Q (i::rest) a w:=by
 simp only[wpOpsIn,ho];rw[if_pos hw];refine⟨λ_ _=>trivial,?_⟩;rw[afE _ _ _ (λc hc=>by rw[hc]at eK;cases eK),hr];exact hk
end
end
section
variable{P:Program}{GI:World->Prop}{w0:World}{n:Nat}{g:Gh}{S:au}{H:aD}{a:Act}{w:World}
def Rel.Xy (R:Rel P w0 n dh g S H a w) (d:Nat) (hd:d < n) (du:¬ g.old.bx d) (cs:List AV) (vs:Array Value) (ty:TypeId) (hr:qv g.Pr w cs vs)
  (ho:∀(g':Gh) j (h:j<cs.length)(h':j<vs.size),(cs[j]).ng/\fp P w g' (.cell d j) cs[j] vs[j]):
  ∃g',g'.base=g.base/\g'.old=g.old/\g'.hi=g.hi/\g'.owner=g.owner/\g'.al d=some w.heap.size/\Rel P w0 n dh g' (aF (λt=>bt d (S t)) d (.box d 0)) (aF H d (some cs)) (a.put (some d) (.pointer (some ⟨w.heap.size,0,none⟩))) (w.alloc (.cells vs ty)):=by
 have R1:=R.suspend d du (.box d 0) cs;have R2:=R1.Ju d (.inr rfl) hd cs vs ty (bX _ _ _) (bX _ _ _) hr.1 hr.2.1 (λj h h'=>ho _ j h h') hr.2.2;rw[Hv]at R2;exact⟨{ g with al:=aF (aF g.al d none) d (some w.heap.size) },rfl,rfl,rfl,rfl,bX _ _ _,R2⟩
def Mj{o:Oper}{t:TypeId}{it:TypeInfo}{z:Value}(ho:o.op=.alloc t)(hi:P.info? t=some it)(hz:it.zero=some z):(execOp a.eval o).run P w=.ok (.value (.pointer (some ⟨w.heap.size,0,none⟩))) (w.alloc (.cells z.cells t)):=by
 unfold execOp;simp[ho,Instr.alloc,zeroValue,typeInfo,hi,hz,newVar,newRow]
def GB {o:Oper} {t:TypeId} {x y:Operand} {b:Nat} {c:Value} {vs:Array Value} {ty:TypeId} {i:TypeInfo} (ho:o.op = .store t x y) (hx:a.eval x = .pointer (some ⟨b,0,none⟩)) (hi:P.info? t=some i) (hb:w.heap[b]? = some (.cells vs ty (0,0))) (hy:a.eval y=c)
  (cM:c.cells.size=i.size) (uf:vs.size=i.size) (px:∀u∈c.cells.toList,u.oneCell'=true):(execOp a.eval o).run P w=.ok .skip (w.setRow b c.cells):=by
 have eA:=ag1 P b 0 ty c.cells.toList 0 vs w hb (by simp;omega) px
 have e:(vs.toList.take 0++c.cells.toList++vs.toList.drop (0+c.cells.toList.length)).toArray=c.cells:=by
  simp[afj,cM,uf]
 simp only[Nat.add_zero]at eA;rw[e]at eA;unfold execOp;simp only[ho,hx,hy,Instr.storeAt,Instr.sureAddr,storeVar,sizeOf,typeInfo,ael,Sem.run_pure,Result.andThen_ok,run_program,hi,cM,ne_eq,afM,aeA];rw[show storeCells ⟨b,0,none⟩ c.cells.toList=storeCells ⟨b,0,none⟩ c.cells.toList 0 from rfl,eA]
 rfl
end
end Go.AL
namespace Go.Proofs.Tryz
open Go.AL
noncomputable def codeOf(f:Go.Func):Go.Code:=match f.body with|some c=>c|none=>f.body.get!
abbrev Ev(n:Nat)(f:Go.Func):={c:ah//ez prog n (codeOf f)=c}
def _root_.Go.Code.cA:Go.Code->Go.Code
 |.seq x _=>x
 |.cond _ x _=>x
 |c=>c
def _root_.Go.Code.cB:Go.Code->Go.Code
 |.seq _ y=>y
 |.cond _ _ y=>y
 |.block _ c=>c
 |.loop c=>c
 |c=>c
noncomputable def _root_.Go.Func.cO(f:Go.Func):Go.Code:=match f.body with|some c=>c|none=>f.body.get!
@[simp] noncomputable def cq(n:Nat)(c:Go.Code){a:ah}(_h:ez prog n c=a:=by conv=>lhs;cbv):ah:=a
end Go.Proofs.Tryz
namespace Go.AL
def bU{n:Int}(h: -9223372036854775808<=n/\n<9223372036854775808):IntKind.i64.wrap n=n:=by
 have key:∀m:Int,m=n % 18446744073709551616->(if decide (m>=9223372036854775808)=true then m-18446744073709551616 else m)=n:=by
  intro m hm;split
  .rename_i hd;have:=agb hd;omega
  .rename_i hd
   have Z_:¬m>=9223372036854775808:=λhh=>hd (agX hh)
   omega
 exact key _ rfl
def ints(l:List Int):List AV:=l.map (.int .i64)
def aG(l:List Int):(ints l).length=l.length:=by simp[ints]
def aL(l:List Int)(i:Nat)(h:i<(ints l).length):(ints l)[i]=.int .i64 (l[i]'(by simpa[ints]using h)):=by simp[ints]
def vI(l:List Int):AV:=.slice .view (ints l)
def int(n:Int):AV:=.int .i64 n
def cC.of_eq{Pr fE:Nat->Nat->Prop}{w w':World}(h:∀b k,Pr b k->fE b k/\w'.heap[b]?=w.heap[b]?):cC Pr fE w w':={
 cell b k hp u hu:=⟨(h b k hp).1,by rw[afX (w:=w) (h b k hp).2];exact hu⟩
 map b hp es c hm:=⟨(h b 0 hp).1,by rw[(h b 0 hp).2];exact hm⟩ }
def RV.gK{Pr:Nat->Nat->Prop}{al:Nat->Option Nat}{w:World}{b:Bool}{c:Value}(h:RV Pr al w (.bool b) c):c=.bool b:=by
 cases h;rename_i h;cases h;rfl
def RV.int_eq{Pr:Nat->Nat->Prop}{al:Nat->Option Nat}{w:World}{k:IntKind}{n:Int}{c:Value}(h:RV Pr al w (.int k n) c):c=.int k n:=by
 cases h;rename_i h;cases h;rfl
def RV.jT{Pr:Nat->Nat->Prop}{al:Nat->Option Nat}{w:World}{v c:Value}(h:RV Pr al w (.val v) c):c=v:=by
 cases h;rename_i h;cases h;rfl
def iS{P:Program}{ro:Option Nat}{m:Nat}{c:Code}{Q:Exit->Act->World->Prop}{a:Act}{w:World}(A:Act->Prop)(ha:A a)(h:∀a,A a->c.wpIn (FR ro) m P Q a w):c.wpIn (FR ro) m P Q a w:=h a ha
def p7 {P:Program} {a:Act} {w:World} {ro:Option Nat} {m:Nat} {Q:Exit→Act→World→Prop} {ops:Array Oper} {i:Nat} {rest:List Nat} {o:Oper} (ho:ops[i]? = some o) (hg:o.guard=none) (eK:fk o.op=true) {f:Nat} {args:Array Value} {w':World}
    (hr:(execOp a.eval o).run P w=.ok (.enter f args) w') {R:Ending->World->Prop} (hc:Calls P f args w' R)
    (hk:∀e j0,R e j0->match e with|.returned v=>wpOpsIn (FR ro) m P ops Q rest (a.put o.dst v) j0|.panicked ch=>Q (.panic ch) a j0|.outgrown=>False):wpOpsIn (FR ro) m P ops Q (i::rest) a w:=by
  simp only[wpOpsIn,ho]
  have:Region.wanted o (yielded ops a.tmps)=true:=by simp[Region.wanted,hg]
  rw[if_pos this];refine⟨λ_ _=>trivial,?_⟩;rw[afE _ _ _ (λc hc=>by rw[hc]at eK;cases eK),hr];refine⟨λh=>by simp[FR,Fence.wide]at h,jD.2 (hc.mono λe j0 hh=>?_)⟩;have:=hk e j0 hh
  cases e with
  |returned v=>exact this
  |panicked ch=>exact this
  |outgrown=>exact this.elim
def Cf {P:Program} {a:Act} {w:World} {m:Nat} {Q:Exit→Act→World→Prop} {ops:Array Oper} {i:Nat} {rest:List Nat} {o:Oper} (ho:ops[i]? = some o) (hg:o.guard=none) {d:Deferred} {w':World}
    (hr:(execOp a.eval o).run P w=.ok (.defer d) w') (hk:wpOpsIn (FR none) m P ops Q rest ({ a with defers:=d::a.defers }.put o.dst undef) w'):wpOpsIn (FR none) m P ops Q (i::rest) a w:=by
  simp only[wpOpsIn,ho]
  have:Region.wanted o (yielded ops a.tmps)=true:=by simp[Region.wanted,hg]
  rw[if_pos this];refine⟨λ_ _=>trivial,?_⟩;show Oper.uponIn _ _ _ _ _ _ _ ((Oper.semAt none a.eval o).run P w);rw[Oper.semAt_none,hr];exact hk
section
variable{P:Program}{GI:World->Prop}{n:Nat}{ro:Option Nat}{old:Old}{S:au}{H:aD}{Q:fG}
def SW.cut (hG:aQ GI) (hm:P.follows .mixedOrders=true) {x y:Code} (hc:lX x=true) {ac:ah} (pA:ez P n x=ac) (du:∀ d∈ac.names,¬ old.bx d) (K:au→aD→Prop) (h:cW P GI ac (aq K) S H)
  (hy:∀S' H',K S' H'->SW P GI n ro y Q old S' H'):SW P GI n ro (.seq x y) Q old S H:=by
 subst pA;intro w0 g a w m dI ho R;refine aeq (afR (jI hG dI hm x (aq K) g S H a w hc du ho R h) ?_);intro e a' w' hq
 cases e with
 |normal=>
  obtain⟨g',S',H',h1,h2,h3⟩:=hq;exact hy S' H' h3 w0 g' a' w' m dI h1 h2
 |exit id=>obtain⟨_,_,_,_,_,h⟩:=hq;exact h.elim
 |ret=>obtain⟨_,_,_,_,_,h⟩:=hq;exact h.elim
 |panic ch=>obtain⟨_,_,_,_,_,_,_,_,_,_,h⟩:=hq;exact h.elim
 |goto l=>exact hq.elim
 |outgrown=>exact hq.elim
end
section
def ia {P:Program} {a:Act} {o:Oper} {cl:Call} {k:Nat} {args:Array Value} (w:World) (ho:o.op = .call cl) (hc:cl.callee = .value (.func k)) (ha:cl.args.map a.eval=args) (hk:eU P k=true) :
  (execOp a.eval o).run P w=.ok (.enter k args) w:=by
 unfold execOp;simp only[ho,fQ hc,show a.eval (.func k)=.func (.func k) #[] #[]from rfl,Deferred.ofValue,ael,Sem.run_pure,Result.andThen_ok,invoke,aif,aih,ha];rw[hZ hk]
def dJ(a:Act)(d t:Nat)(c:Value)(hd:d<a.tmps.size):(a.put (some d) c).eval (.tmp t)=if t=d then c else a.eval (.tmp t):=jF a d t c hd
def mJ(a:Act)(d:Option Nat)(c:Value):(a.put d c).tmps.size=a.tmps.size:=by cases d<;>simp[Act.put]
end
end Go.AL
namespace Go.AL
open Go.RowKit
section
variable{P:Program}{GI:World->Prop}{n:Nat}{a:Act}{w w0:World}{m:Nat}{Q:Exit->Act->World->Prop}{g:Gh}{S:au}{H:aD}{ro:Option Nat}
def ku (R:Rel P w0 n dh g S H a w) (hG:aQ GI) (dI:GI w0) (hm:P.follows .mixedOrders=true) {id:Nat} {ops:Array Oper} {draw:Bool} (hc:lX (.region id ops draw)=true) {ac:ah} (pA:ez P n (.region id ops draw)=ac) {W:Nat→Bool} (hW:kv ops W=true)
  (du:∀d,¬g.old.bx d) {K:au->aD->Prop} (h:cW P GI ac (aq K) S H)
  (hk:∀g' S' H' a' w',g'.old=g.old->Rel P w0 n dh g' S' H' a' w'->K S' H'->fj W a a'->Q .normal a' w'):(Code.region id ops draw).wpIn (FR ro) m P Q a w:=by
 subst pA
 have fin:∀e a' w',A5 W a (QQ P w0 n g.old (aq K)) e a' w'->Q e a' w':=by
  intro e a' w' hq
  cases e with
  |normal=>
   obtain⟨⟨g',S',H',h1,h2,h3⟩,h4⟩:=hq;exact hk g' S' H' a' w' h1 h2 h3 h4
  |exit id=>obtain⟨_,_,_,_,_,h⟩:=hq;exact h.elim
  |ret=>obtain⟨_,_,_,_,_,h⟩:=hq;exact h.elim
  |panic ch=>obtain⟨_,_,_,_,_,_,_,_,_,_,h⟩:=hq;exact h.elim
  |goto l=>exact hq.elim
  |outgrown=>exact hq.elim
 simp only[ez]at h
 cases draw with
 |true=>
  simp only[aeH]at h;split at h
  case isFalse=>exact h.elim
  rename_i df;exact afN hm (gI fin _ _ _ _ (jM hW _ _ _ _ (mQ hG dI hm hc df (λ_ _ _ _=>du _) rfl R h)))
 |false=>
  simp only[aek,aeA]at h;split at h
  case isFalse=>exact h.elim
  rename_i df;exact aeG (g_ fin _ _ _ (jR hW _ _ _ (sx hG dI hc df (λ_ _ _ _=>du _) rfl R h)))
def mz{o:Oper}{t:TypeId}{z:Value}(ho:o.op=.alloc t)(hz:(P.info? t).bind (·.zero)=some z):(execOp a.eval o).run P w=.ok (.value (.pointer (some ⟨w.heap.size,0,none⟩))) (w.alloc (.cells z.cells t)):=by
 obtain⟨it,h1,h2⟩:=af3.1 hz;unfold execOp;simp[ho,Instr.alloc,zeroValue,typeInfo,h1,h2,newVar,newRow]
def nt{o:Oper}{fn:Fn}{c:Array Operand}(ho:o.op=.makeFunc fn #[] c):(execOp a.eval o).run P w=.ok (.value (.func fn #[] (c.map a.eval))) w:=by
 simp[execOp,ho,Instr.makeFunc]
end
section
variable{P:Program}{GI:World->Prop}{n:Nat}{ro:Option Nat}{old:Old}{S:au}{H:aD}{Q:fG}{a:Act}{w:World}
def run_makeMap{o:Oper}{t:TypeId}(ho:o.op=.makeMap t none):(execOp a.eval o).run P w=.ok (.value (.map (some w.heap.size))) (w.alloc (.map #[] 0)):=by
 unfold execOp;simp[ho,Instr.makeMap,run_newObj_alloc]
def L4 {o:Oper} {t kt el:TypeId} {fs:Array Field} {k:Nat} {x1 x2 x3:Operand} {b clock:Nat} {es:Array MapEntry} {key:List Int} {val:Value} {ks vs:List AV} {Pr:Nat→Nat→Prop} (ho:o.op = .mapUpdate t x1 x2 x3)
  (gp:P.underlying t=some (.map kt el)) (hu:P.underlying kt=some (.struct fs)) (hk:np P 10000 kt=some k) (h1:a.eval x1=.map (some b)) (h2:a.eval x2=.agg (ik key)) (h3:a.eval x3=val)
  (hb:w.heap[b]?=some (.map es clock)) (hl:key.length=k) (jW:ks.length=es.size) (Vc:vs.length=es.size) (Zb:∀i (h:i<ks.length)(h':i<es.size),RD Pr w ks[i] (es[i]).key) (uf:∀i (h:i<vs.length)(h':i<es.size),RD Pr w vs[i] (es[i]).val)
  (iX:pM key ks vs=some none):(execOp a.eval o).run P w=.ok .skip (w.putObj b (.map (es.push { key:=.agg (ik key),val:=val,born:=clock }) (clock+1))):=by
 have yc:(match P.underlying kt with|some (.array _ _)|some (.struct _)=>true|_=>false)=true:=by rw[hu]
 have AB:=vR (P:=P) (w:=w) false 10000 kt k hk key hl;simp only[pv,hu]at AB;obtain⟨q,q1,q2⟩:=mw (w:=w) (Pr:=Pr) hu hk key hl ks vs es.toList 0 none (by simpa using jW) (by simpa using Vc) (λj h h'=>by simpa using Zb j h (by simpa using h')) (λj h h'=>by simpa using uf j h (by simpa using h')) iX
 have hq:q=none:=by cases q with|none=>rfl|some p=>exact q2.elim
 subst hq;have y3:=(run_findKey_eq (P:=P) (w:=w) yc (.agg (ik key)) es.toList).trans q1;unfold execOp;simp only[ho,h1,h2,h3,Instr.mapUpdate,ael,aet gp,Result.andThen_ok,agu hb,AB,y3,ahP _ hb]
 rfl
end
section
variable{P:Program}{GI:World->Prop}{n m:Nat}{a:Act}{w w0:World}{Q:Exit->Act->World->Prop}{g:Gh}{S:au}{H:aD}{ro:Option Nat}
def Dh {o:Oper} {s el:TypeId} {len:Nat} {i:TypeInfo} {x1 x2:Operand} {b off k:Nat} (ho:o.op = .indexAddr s x1 x2) (hs:P.underlying s=some (.array len el)) (hi:P.info? el=some i)
  (h1:a.eval x1=.pointer (some ⟨b,off,none⟩)) (h2:a.eval x2=.int .i64 k) (hk:k<len):(execOp a.eval o).run P w=.ok (.value (.pointer (some ⟨b,off+k*i.size,none⟩))) w:=by
 have Jr:(0:Int)<=k:=zo
 have jW:(k:Int)<len:=zo
 simp[execOp,ho,h1,h2,Instr.indexAt,asIntOf,aet hs,Jr,jW,sizeOf,typeInfo,hi,afh,hk,Instr.sureAddr]
def CN {o:Oper} {t:TypeId} {d:TypeDesc} {x:Operand} {b off:Nat} {v:Value} {vs:Array Value} {ty:TypeId} (ho:o.op = .load t x) (hx:a.eval x = .pointer (some ⟨b,off,none⟩)) (hd:P.underlying t=some d) (Z_:ef d=false) (hb:w.heap[b]? = some (.cells vs ty (0,0))) (hv:vs[off]? = some v) :
  (execOp a.eval o).run P w=.ok (.value v) w:=by
 refine kA ho hx hd Z_ ?_;simp[World.cell?,hb,hv]
def AI.cg{ops:Array Oper}{a0:Act}{val:Nat->Value}{l:Array Bool}(h:AI ops n a0 val l a){t:Nat}(ht:ops.all (λo=>o.dst !=some t)=true):a.tmps.getD t undef=a0.tmps.getD t undef:=
 h.old t λi o ho hd=>by
  have:=afn.1 ht o (afg ho);simp[hd]at this
def AI.at{ops:Array Oper}{a0:Act}{val:Nat->Value}{l:Array Bool}(h:AI ops n a0 val l a)(i t:Nat)(ho:∃o,ops[i]?=some o/\o.dst=some t)(hl:l.getD i false=true):a.tmps.getD t undef=val t:=by
 obtain⟨o,h1,h2⟩:=ho;exact h.got i o t h1 h2 hl
end
section
variable{P:Program}{GI:World->Prop}{n m:Nat}{a:Act}{w w0:World}{Q:Exit->Act->World->Prop}{g:Gh}{S:au}{H:aD}{ro:Option Nat}
def BR{κ:Type}[BEq κ][LawfulBEq κ]{k:κ}:∀{l:List (κ×Value)}{i:Nat},(∀x∈l,x.1≠k)->pN k l i=none
 |[],_,_=>rfl
 |(k',v)::l,i,h=>by
  have h1:k'≠k:=h (k',v) ah7;unfold pN;rw[if_neg (by simpa using ae0 h1)]
  exact BR λx hx=>h x (aei _ hx)
end
section
variable{P:Program}{GI:World->Prop}{n m:Nat}{a:Act}{w:World}{Q:Exit->Act->World->Prop}{S:au}{ro:Option Nat}
end
section
variable{P:Program}{n m:Nat}{a:Act}{w:World}{Q:Exit->Act->World->Prop}{ro:Option Nat}
def Du(P:Program)(t j:Nat):Option (Nat×Nat):=match P.underlying t with
 |some (.struct fs)=>match fs[j]? with
  |some f=>match P.info? f.type with
   |some i=>some (f.offset,i.size)
   |none=>none
  |none=>none
 |_=>none
def uY{o:Oper}{s j YT sz:Nat}{x:Operand}{b off:Nat}(h:Du P s j=some (YT,sz))(hz:sz≠0)(ho:o.op=.fieldAddr s x j)(hx:a.eval x=.pointer (some ⟨b,off,none⟩)):(execOp a.eval o).run P w=.ok (.value (.pointer (some ⟨b,off+YT,none⟩))) w:=by
 unfold Du at h;split at h
 .rename_i fs fw;split at h
  .rename_i f hf;split at h
   .rename_i i hi;simp only[aeJ,agH]at h;obtain⟨rfl,rfl⟩:=h;exact C9 ho fw hf hi hz hx
   .cases h
  .cases h
 .cases h
end
section
variable{P:Program}{GI:World->Prop}{n m:Nat}{a:Act}{w:World}{Q:Exit->Act->World->Prop}{ro:Option Nat}
def mC(o:Oper):List Nat:=(o.after.toList.filter (Region.binds .any ·)).map (·.on)
def JU(ops:Array Oper):Nat->List Nat->List Nat
 |0,s=>s
 |k+1,s=>JU ops k (if s.contains k then s++((ops[k]?).map mC).getD []else s)
def xM{ops:Array Oper}{L:Nat->Prop}:∀(n:Nat),(∀k,k<n->∀o,ops[k]?=some o->L k->∀y∈mC o,L y)->∀s,(∀y∈s,L y)->∀y∈JU ops n s,L y
 |0,_,s,hs,y,hy=>hs y hy
 |k+1,h,s,hs,y,hy=>by
  refine xM k (λk' dp=>h k' zo) _ (λz hz=>?_) y hy;split at hz
  .rename_i hc;rcases aeg.1 hz with hz|hz
   .exact hs z hz
   .cases ho:ops[k]? with
    |none=>rw[ho]at hz;cases hz
    |some o=>
     rw[ho]at hz;exact h k zo o ho (hs k (by simpa using hc)) z hz
  .exact hs z hz
def Ij(ops:Array Oper)(p:Nat):Bool:=
 decide (p<=ops.size)&&(ops.extract 0 p).all (λo=>match o.guard with|none=>true|some (j,_)=>decide (j<p))&&
 (List.range ops.size).all (λi=>((ops[i]?).map λo=>if i<p then(mC o).all (λy=>decide (y<i))else let c:=JU ops i (mC o);(List.range p).all λj=>c.contains j).getD true)&&
 pU ops (ops.size-p) p ((List.range ops.size).map λi=>decide (i<p)).toArray
def xG{F:Fence}{ops:Array Oper}(x:Nat):∀(k i:Nat)(l:Array Bool)(a:Act)(w:World),pU ops k i l=true->wpOpsIn F m P ops Q (List.range' i k) a w->wpAnyIn F m P .any ops Q (x+k) l a w
 |0,i,l,a,w,h,hh=>by
  have h0:Region.ready .any ops l=[]:=by simpa[pU]using h
  cases x with
  |zero=>exact⟨h0,hh⟩
  |succ x=>exact⟨λ_=>hh,λi hi=>by rw[h0]at hi;cases hi⟩
 |k+1,i,l,a,w,h,hh=>by
  simp only[pU,aeb,aeS]at h;refine⟨λhr=>(by rw[hr]at h;cases h.1),λj hj=>?_⟩;rw[h.1,aev]at hj;subst hj;simp only[afJ]at hh;rw[wpOpsIn_cons]at hh;exact wpOpIn_mono (λa w hq=>xG x k _ _ a w h.2 hq) hh
structure M6(ops:Array Oper)(p:Nat)(la l:Array Bool):Prop where
 Uw:la.size=p
 sl:l.size=ops.size
 front:∀i,i<p->l[i]?=la[i]?
 back:∀i,p<=i->i<ops.size->l[i]?=some false
 closed:∀(i:Nat)(o:Oper),ops[i]?=some o->l.getD i false=true->∀y∈mC o,l.getD y false=true
section
variable{ops:Array Oper}{p:Nat}{la l:Array Bool}(hp:p<=ops.size)
 (hw:∀i o,ops[i]?=some o->if i<p then∀e∈o.after,Region.binds .any e=true->e.on<i else∀j,j<p->j∈JU ops i (mC o))
include hp hw
def NS(h:M6 ops p la l){j:Nat}(hj:j<p)(Gc:la[j]?=some false):Region.ready .any ops l=Region.ready .any (ops.extract 0 p) la:=by
 unfold Region.ready
 have cM:(ops.extract 0 p).size=p:=by simp;omega
 rw[cM]
 have hr:List.range ops.size=List.range p++List.range' p (ops.size-p):=by
  rw[afZ,afZ];have:=ahe (s:=0) (m:=p) (n:=ops.size-p);rw[aeP]at this;rw[this]
  congr 1;omega
 rw[hr,aik]
 have hb:(List.range' p (ops.size-p)).filter (λi=>!l.getD i true&&((ops[i]?).map (·.after.all λe=>!Region.binds .any e||l.getD e.on false)).getD false)=[]:=by
  rw[ahQ];intro i hi;have hi:=agz.1 hi;have Qg:p<=i:=hi.1
  have xy:i<ops.size:=zo
  have ho:ops[i]?=some ops[i]:=aeC xy;have nv:=hw i _ ho;rw[if_neg zo]at nv;rw[ho];simp only[Option.map_some,Option.getD_some,aeb,not_and];intro _ eu;have eu:=afn.1 eu
  have hL:=xM (L:=λy=>l.getD y false=true) (ops:=ops) i (λk _ o ho hLk=>h.closed k o ho hLk) (mC ops[i]) (λy hy=>by
   simp only[mC,aew,agt,ahf]at hy;obtain⟨e,⟨he,Bk⟩,rfl⟩:=hy
   simpa[Bk]using eu e he) j (nv j hj)
  rw[aex,h.front j hj,Gc]at hL;cases hL
 rw[hb,afe]
 refine List.filter_congr λi hi=>?_
 have hi:=aeI.1 hi;have ho:ops[i]?=some (ops[i]' zo):=aeC zo;have nv:=hw i _ ho;rw[if_pos hi]at nv
 have hoe:(ops.extract 0 p)[i]?=ops[i]?:=by
  rw[afQ]
  have:i<min p ops.size-0:=zo
  rw[if_pos this,aeP]
 rw[hoe,ho];simp only[Option.map_some,Option.getD_some,aex,h.front i hi]
 congr 1
 rw[aeW,afn,afn]
 refine forall_congr' λe=>forall_congr' λhe=>?_
 cases Bk:Region.binds .any e with
 |false=>simp
 |true=>
  have:=nv e he Bk;rw[h.front e.on zo]
def wm(h:M6 ops p la l){j:Nat}(hj:j<p)(Gc:la[j]?=some false):Region.ready .any (ops.extract 0 p) la≠[]:=by
 have cM:(ops.extract 0 p).size=p:=by simp;omega
 have ex:∃j,j<p/\la[j]?=some false/\∀i,i<j->la[i]?=some true:=by
  induction j using Nat.strongRecOn with
  |_ j ih=>
   by_cases hx:∃i,i<j/\la[i]?=some false
   .obtain⟨i,hi,hiu⟩:=hx;exact ih i hi zo hiu
   .refine⟨j,hj,Gc,λi hi=>?_⟩
    have dV:i<la.size:=by rw[h.Uw];omega
    rw[aeC dV]
    cases hb:la[i]with
    |true=>rfl
    |false=>exact absurd ⟨i,hi,by rw[aeC dV,hb]⟩ hx
 obtain⟨j,hj,Gc,Um⟩:=ex;intro vp
 have:j∈Region.ready .any (ops.extract 0 p) la:=by
  unfold Region.ready;rw[agt];refine⟨aeI.2 zo,?_⟩;have ho:ops[j]?=some (ops[j]' zo):=aeC zo;have nv:=hw j _ ho;rw[if_pos hj]at nv
  have hoe:(ops.extract 0 p)[j]?=ops[j]?:=by
   rw[afQ]
   have:j<min p ops.size-0:=zo
   rw[if_pos this,aeP]
  rw[hoe,ho];simp only[Option.map_some,Option.getD_some,aeb,aex,Gc,ahn,ahX];rw[afn];intro e he
  cases Bk:Region.binds .any e with
  |false=>rfl
  |true=>
   rw[Um e.on (nv e he Bk)];rfl
 rw[vp]at this;cases this
def NG {F:Fence} (hg:(ops.extract 0 p).all (fun o=>match o.guard with | none=>true | some (j,_)=>decide (j < p))=true) (Zz:pU ops (ops.size - p) p ((List.range ops.size).map fun i=>decide (i < p)).toArray=true):∀ (k:Nat) (la l:Array Bool) (a:Act) (w:World),M6 ops p la l →
  wpAnyIn F m P .any (ops.extract 0 p) (LL (wpOpsIn F m P ops Q (List.range' p (ops.size-p))) Q) k la a w->wpAnyIn F m P .any ops Q (k+(ops.size-p)) l a w:=by
 have cM:(ops.extract 0 p).size=p:=by simp;omega
 have final:∀(k:Nat)(la l:Array Bool)(a:Act)(w:World),M6 ops p la l->(¬∃j,j<p/\la[j]?=some false)->wpOpsIn F m P ops Q (List.range' p (ops.size-p)) a w->wpAnyIn F m P .any ops Q (k+(ops.size-p)) l a w:=by
  intro k la l a w h eu hh
  have hl:l=((List.range ops.size).map λi=>decide (i<p)).toArray:=by
   apply aij;intro i
   by_cases hi:i<ops.size
   .simp only[ag8,aeK,ah8 hi,Option.map_some]
    by_cases zL:i<p
    .rw[h.front i zL]
     have dV:i<la.size:=by rw[h.Uw];omega
     rw[aeC dV]
     cases hb:la[i]with
     |true=>simp[zL]
     |false=>exact absurd ⟨i,zL,by rw[aeC dV,hb]⟩ eu
    .rw[h.back i zo hi];simp[zL]
   .have Xm:=h.sl;rw[afF zo,afF (by simp;omega)]
  rw[hl];exact xG k _ _ _ a w Zz hh
 intro k
 induction k with
 |zero=>
  intro la l a w h hh;refine final 0 la l a w h ?_ hh.2;rintro⟨j,hj,Gc⟩;exact wm hp hw h hj Gc hh.1
 |succ k ih=>
  intro la l a w h hh
  by_cases eu:∃j,j<p/\la[j]?=some false
  case neg=>
   have h0:Region.ready .any (ops.extract 0 p) la=[]:=by
    unfold Region.ready;rw[ahQ];intro i hi;have hi:=aeI.1 hi
    have dV:i<la.size:=by rw[h.Uw];omega
    cases hb:la[i]with
    |true=>simp[aex,aeC dV,hb]
    |false=>exact absurd ⟨i,zo,by rw[aeC dV,hb]⟩ eu
   exact final (k+1) la l a w h eu (hh.1 h0)
  obtain⟨j,hj,Gc⟩:=eu;have h1:=wm hp hw h hj Gc;have h2:=NS hp hw h hj Gc;rw[show k+1+(ops.size-p)=(k+(ops.size-p))+1 by omega];refine⟨λhr=>absurd (h2▸hr) h1,λi hi=>?_⟩
  have eJ:i∈Region.ready .any (ops.extract 0 p) la:=by rw[<-h2];exact hi
  have zL:i<p:=by
   have:=aeI.1 (agt.1 eJ).1;omega
  have hI:M6 ops p (la.setIfInBounds i true) (l.setIfInBounds i true):=by
   have W5:∀o,ops[i]?=some o->∀y∈mC o,l.getD y false=true:=λo ho y hy=>by
    obtain⟨_,o',qh,eu⟩:=af8.1 hi;rw[ho]at qh;cases qh;simp only[mC,aew,agt,ahf]at hy;obtain⟨e,⟨he,Bk⟩,rfl⟩:=hy;exact eu e he Bk
   have sS:∀y,l.getD y false=true->(l.setIfInBounds i true).getD y false=true:=λy hy=>by
    rw[aex,afr]
    by_cases hiy:i=y
    .subst hiy;rw[aex]at hy;split
     .split
      .rfl
      .rename_i h1 h2;rw[afF zo]at hy;cases hy
     .exact hy
    .rw[if_neg hiy,<-aex];exact hy
   refine⟨by simpa using h.Uw,by simpa using h.sl,λq hq=>?_,λq hq yK=>?_,λq o ho hLq y hy=>?_⟩
   .rw[afr,afr,h.front q hq];have e1:=h.Uw;have e2:=h.sl
    by_cases RQ:i=q
    .subst RQ;rw[if_pos rfl,if_pos rfl,if_pos zo,if_pos zo]
    .rw[if_neg RQ,if_neg RQ]
   .rw[afr,if_neg zo];exact h.back q hq yK
   .by_cases RQ:q=i
    .subst RQ;exact sS y (W5 o ho y hy)
    .refine sS y (h.closed q o ho ?_ y hy);rw[aex,afr,if_neg (ae0 RQ),<-aex]at hLq;exact hLq
  have hs:=hh.2 i eJ;unfold wpOpIn at hs⊢
  have jL:∀i,i<p->(ops.extract 0 p)[i]?=ops[i]?:=λi zL=>by
   rw[afQ]
   have:i<min p ops.size-0:=zo
   rw[if_pos this,aeP]
  have F2:=jL i zL;rw[F2]at hs
  cases ho:ops[i]? with
  |none=>rw[ho]at hs;exact ih _ _ a w hI hs
  |some o=>
   rw[ho]at hs F2
   have hw:Region.wanted o (yielded (ops.extract 0 p) a.tmps)=Region.wanted o (yielded ops a.tmps):=by
    have:=afn.1 hg o (afg F2);unfold Region.wanted
    cases sL:o.guard with
    |none=>rfl
    |some q=>
     obtain⟨j,b⟩:=q;rw[sL]at this;simp only[aej]at this;simp only[yielded,jL j this]
   simp only[hw]at hs;simp only;split
   .rename_i Ni;rw[if_pos Ni]at hs;exact agW (λa w hq=>ih _ _ a w hI hq) (FP hs)
   .rename_i Ni;rw[if_neg Ni]at hs;exact⟨hs.1,ih _ _ _ w hI hs.2⟩
end
def OR (hm:P.follows .mixedOrders=true) {F:Fence} {id p:Nat} {ops:Array Oper} {a:Act} {w:World} (h:Ij ops p=true)
  (hh:wpAnyIn F m P .any (ops.extract 0 p) (LL (wpOpsIn F m P ops Q (List.range' p (ops.size-p))) Q) p (Array.replicate p false) a { w with drawn:=w.drawn+1 }):(Code.region id ops true).wpIn F m P Q a w:=by
 simp only[Ij,aeb,aej]at h;obtain⟨⟨⟨h1,h2⟩,h3⟩,h4⟩:=h;refine afN hm ?_
 have:=NG (P:=P) (Q:=Q) (m:=m) h1 (λi o ho=>by
  have hi:=(aea.1 ho).1;have:=aeh.1 h3 i (aeI.2 hi);rw[ho]at this;simp only[Option.map_some,Option.getD_some]at this;split
  .rename_i zL;rw[if_pos zL,aeh]at this;intro e he hb
   have:=this e.on (by
    simp only[mC,aew,agt,ahf]
    exact⟨e,⟨he,hb⟩,rfl⟩)
   simpa using this
  .rename_i zL;rw[if_neg zL]at this;intro j hj;have:=aeh.1 this j (aeI.2 hj)
   simpa using this) (F:=F) h2 h4 p (Array.replicate p false) (Array.replicate ops.size false) a _ ⟨ah7,ah7,λi hi=>by
    rw[agm,agm,if_pos zo,if_pos hi],λi hi eJ=>by rw[agm,if_pos eJ],λi o ho hL=>by
    rw[aex,agm]at hL
    split at hL<;>cases hL⟩ hh
 rwa [show p+(ops.size-p)=ops.size by omega]at this
end
def RO{α:Type}(P:Program)(x:Sem α):Prop:=∀w r w',x.run P w=.ok r w'->w'=w
def NK{α:Type}(P:Program)(x:Sem α):Prop:=∀w r w',x.run P w≠.ok r w'
section
variable{P:Program}{α β:Type}
def RO.pure(a:α):RO P (Pure.pure a:Sem α):=λw r w' h=>by
 have:(Pure.pure a:Sem α).run P w=.ok a w:=rfl;rw[this]at h;cases h;rfl
def RO.bind{x:Sem α}{f:α->Sem β}(hx:RO P x)(hf:∀a,RO P (f a)):RO P (x >>= f):=λw r w' h=>by
 rw[ael]at h
 cases hr:x.run P w with
 |ok a w1=>
  rw[hr]at h;have h1:=hf a w1 r w' h;rw[h1,hx w a w1 hr]
 |halt e w1=>rw[hr]at h;cases h
def NK.ro{x:Sem α}(h:NK P x):RO P x:=λw r w' hh=>absurd hh (h w r w')
def NK.bind{x:Sem α}{f:α->Sem β}(hf:∀a,NK P (f a)):NK P (x >>= f):=λw r w' h=>by
 rw[ael]at h
 cases hr:x.run P w with
 |ok a w1=>rw[hr]at h;exact hf a w1 r w' h
 |halt e w1=>rw[hr]at h;cases h
def NK.aaa{x:Sem α}{f:α->Sem β}(hx:NK P x):NK P (x >>= f):=λw r w' h=>by
 rw[ael]at h
 cases hr:x.run P w with
 |ok a w1=>exact hx w a w1 hr
 |halt e w1=>rw[hr]at h;cases h
def NK.halt(e:Halt):NK P (.halt e:Sem α):=λw r w' h=>by cases h
def RO.load(m:Mode)(a:Addr):RO P (.load m a .pure):=λw r w' h=>by
 simp only[Sem.run]at h;split at h
 .cases h;rfl
 .split at h
  .cases h;rfl
  .cases h
def RO.underlying(t:TypeId):RO P (Go.underlying t):=λw r w' h=>by
 simp only[Go.underlying,program]at h;rw[ael]at h;simp only[Sem.run,Result.andThen]at h;split at h
 .cases h;rfl
 .cases h
def RO.typeInfo(t:TypeId):RO P (Go.typeInfo t):=λw r w' h=>by
 simp only[Go.typeInfo,program]at h;rw[ael]at h;simp only[Sem.run,Result.andThen]at h;split at h
 .cases h;rfl
 .cases h
def RO.sizeOf(t:TypeId):RO P (Go.sizeOf t):=(RO.typeInfo t).bind λ_=>RO.pure _
def RO.isAgg(t:TypeId):RO P (Go.isAgg t):=(RO.underlying t).bind λd=>by split<;>exact RO.pure _
def RO.loadCellsFrom(a:Addr):∀(n i:Nat)(acc:Array Value),RO P (Go.loadCellsFrom a i n acc)
 |0,_,_=>RO.pure _
 |n+1,i,acc=>(RO.load _ _).bind λ_=>RO.loadCellsFrom a n _ _
def RO.loadVar(t:TypeId)(a:Addr):RO P (Go.loadVar t a):=by
 unfold Go.loadVar
 refine(RO.isAgg t).bind λb=>?_
 cases b
 .exact RO.load _ _
 .exact(RO.sizeOf t).bind λn=>(RO.loadCellsFrom a n 0 #[]).bind λ_=>RO.pure _
def RO.sureAddr(v:Value):RO P (Instr.sureAddr v):=by
 unfold Instr.sureAddr;split
 .exact RO.pure _
 .exact(NK.halt _).ro
def RO.loadAt(t:TypeId)(v:Value):RO P (Instr.loadAt t v):=(RO.sureAddr v).bind λa=>RO.loadVar t a
def RO.asIntOf(v:Value):RO P (Go.asIntOf v):=by
 unfold Go.asIntOf;split
 .exact RO.pure _
 .exact(NK.halt _).ro
 .exact(NK.halt _).ro
def NK.bounds(k:IntKind)(x y:Int)(c:BoundsCode):NK P (boundsPanic k x y c:Sem α):=by
 have h:∀s:Bool,NK P (runtimePanic (.bounds (IntKind.i64.wrap x) y s c):Sem α):=λs=>NK.bind λp=>NK.halt _
 unfold boundsPanic;dsimp only;split
 .exact NK.bind h
 .exact NK.bind h
def RO.indexAt(t:TypeId)(x ix:Value):RO P (Instr.indexAt t x ix):=by
 have key:∀ (k:IntKind) (i:Int) (b:Option Addr) (len:Nat) (elem:TypeId),RO P (do
   let d<-Go.underlying t
   let acP:Bool:=decide (len<=1)&&(match d with|.array ..=>true|_=>false)
   match b with
   |some a=>
    if 0<=i/\i<(len:Int)then do
     let sz<-Go.sizeOf elem
     Pure.pure (Value.pointer (some (a.add (i.toNat*sz))))
    else if acP=true then unsupported (Unsupported.noEntry "op/indexAddr.an index out of range at an array of length 0 or 1 (ledger 616)")
    else boundsPanic k i len BoundsCode.index
   |none=>boundsPanic k i 0 BoundsCode.index):=by
  intro k i b len elem
  refine(RO.underlying t).bind λd=>?_
  cases b with
  |some a=>
   simp only;split
   .exact(RO.sizeOf _).bind λ_=>RO.pure _
   .generalize(decide (len<=1)&&_)=tn;cases tn
    .exact(NK.bounds _ _ _ _).ro
    .exact(NK.halt _).ro
  |none=>exact(NK.bounds _ _ _ _).ro
 unfold Instr.indexAt
 refine(RO.asIntOf ix).bind λ⟨k,i⟩=>?_
 refine(RO.underlying t).bind λd=>?_
 dsimp only;split
 .exact(RO.sureAddr _).bind λ_=>(RO.pure _).bind λ⟨base,len,elem⟩=>key k i base len elem
 .exact(RO.pure _).bind λ⟨base,len,elem⟩=>key k i base len elem
 .exact(NK.aaa (NK.halt _)).ro
def aaQ{ρ:Operand->Value}{o:Oper}(h:match o.op with|.move _|.assign _|.load ..|.indexAddr ..=>true|_=>false):RO P (execOp ρ o):=by
 unfold execOp
 split at h<;>try cases h
 .rename_i x e;simp only[e];exact RO.pure _
 .rename_i x e;simp only[e];exact RO.pure _
 .rename_i t x e;simp only[e];exact(RO.loadAt _ _).bind λ_=>RO.pure _
 .rename_i t x ix e;simp only[e];exact(RO.indexAt _ _ _).bind λ_=>RO.pure _
def sn{ρ:Operand->Value}{o:Oper}(h:match o.op with|.move _|.assign _|.load ..|.indexAddr ..=>true|_=>false){w w':World}{x:Next}(hr:(execOp ρ o).run P w=.ok x w'):w'=w/\∃v,x=.value v:=by
 refine⟨aaQ h w x w' hr,?_⟩
 have key:∀(s:Sem Value),(do let v<-s;pure (Next.value v):Sem Next).run P w=.ok x w'->∃v,x=.value v:=λs hs=>by
  rw[ael]at hs
  cases hq:s.run P w with
  |ok a w1=>rw[hq]at hs;cases hs;exact⟨_,rfl⟩
  |halt e w1=>rw[hq]at hs;cases hs
 unfold execOp at hr
 split at h<;>try cases h
 .rename_i x e;simp only[e]at hr;cases hr;exact⟨_,rfl⟩
 .rename_i x e;simp only[e]at hr;cases hr;exact⟨_,rfl⟩
 .rename_i t x e;simp only[e]at hr;exact key _ hr
 .rename_i t x ix e;simp only[e]at hr;exact key _ hr
end
section
variable{P:Program}{ops ops':Array Oper}{Q:Exit->Act->World->Prop}{m:Nat}
structure FD(ops ops':Array Oper):Prop where
 size:ops'.size=ops.size
 each:∀(i:Nat)(o:Oper),ops[i]?=some o->∃o',ops'[i]?=some o'/\o'.dst=o.dst/\o'.after=o.after/\o'.guard=none/\o.guard=none
def FD.ready(h:FD ops ops')(l:Array Bool):Region.ready .any ops' l=Region.ready .any ops l:=by
 unfold Region.ready;rw[h.size]
 refine List.filter_congr λi hi=>?_
 have hi:=aeI.1 hi;obtain⟨o',qh,_,ha,_⟩:=h.each i _ (aeC hi);rw[qh,aeC hi];simp only[Option.map_some,Option.getD_some,ha]
def GC (cP:FD ops ops') (I:Array Bool→Act→World→Prop)
  (ni:∀(i:Nat)(o o':Oper)(l:Array Bool)(a:Act)(w:World),ops[i]?=some o->ops'[i]?=some o'->l.size=ops.size->l.getD i true=false->I l a w->(∀e∈o.after,Region.binds .any e=true->l.getD e.on false=true)->
   (o.semAt none a.eval).run P w=(o'.semAt none a.eval).run P w/\((∀a' w',I (l.setIfInBounds i true) a' w')\/
    ∀x w',(o.semAt none a.eval).run P w=.ok x w'->∃v,x=.value v/\I (l.setIfInBounds i true) (a.put o.dst v) w')):
  ∀(fuel:Nat)(l:Array Bool)(a:Act)(w:World),l.size=ops.size->I l a w->wpAnyIn (FR none) m P .any ops' Q fuel l a w->wpAnyIn (FR none) m P .any ops Q fuel l a w:=by
 intro fuel
 induction fuel with
 |zero=>
  intro l a w _ _ h;exact⟨(cP.ready l)▸h.1,h.2⟩
 |succ fuel ih=>
  intro l a w hl hI h;refine⟨λhr=>h.1 (by rw[cP.ready];exact hr),λi hi=>?_⟩;have h1:=h.2 i (by rw[cP.ready];exact hi);obtain⟨gp,o,ho,eu⟩:=af8.1 hi;obtain⟨o',qh,hd,ha,Bt,hg⟩:=cP.each i o ho;obtain⟨he,hx⟩:=ni i o o' l a w ho qh hl gp hI eu
  have pk:(l.setIfInBounds i true).size=ops.size:=by simpa using hl
  have hw:Region.wanted o (yielded ops a.tmps)=true:=by simp[Region.wanted,hg]
  have Ni:Region.wanted o' (yielded ops' a.tmps)=true:=by simp[Region.wanted,Bt]
  simp only[wpOpIn,qh,Ni,aeH]at h1;simp only[wpOpIn,ho,hw,aeH]
  have hu:∀K r,o'.uponIn (FR none) m P a K Q r=o.uponIn (FR none) m P a K Q r:=λK r=>by unfold Oper.uponIn;rw[hd]
  have h2:o.wpIn (FR none) m P a w (wpAnyIn (FR none) m P .any ops' Q fuel (l.setIfInBounds i true)) Q:=by
   refine⟨λ_ _=>trivial,?_⟩;have h3:=h1.2;rw[hu]at h3
   change o.uponIn (FR none) m P a _ Q ((o'.semAt none a.eval).run P w)at h3
   change o.uponIn (FR none) m P a _ Q ((o.semAt none a.eval).run P w)
   rw[he];exact h3
  rcases hx with hx|hx
  .exact agW (λa' w' hh=>ih _ _ _ pk (hx a' w') hh) h2
  .refine⟨h2.1,?_⟩;have h3:=h2.2
   change o.uponIn (FR none) m P a _ Q ((o.semAt none a.eval).run P w)at h3
   change o.uponIn (FR none) m P a _ Q ((o.semAt none a.eval).run P w)
   cases hr:(o.semAt none a.eval).run P w with
   |ok x w'=>
    rw[hr]at h3;obtain⟨v,rfl,hv⟩:=hx x w' hr;simp only[Oper.uponIn_value]at h3⊢;exact ih _ _ _ pk hv h3
   |halt x w'=>
    rw[hr]at h3
    cases x<;>exact h3
def Ae(h:Nat->Op->Op)(ops:Array Oper):Array Oper:=ops.mapIdx λi o=>{ o with op:=h i o.op }
def CQ(h:Nat->Op->Op)(i:Nat):(Ae h ops)[i]?=(ops[i]?).map λo=>{ o with op:=h i o.op }:=by
 simp[Ae]
def Je(h:Nat->Op->Op)(hg:ops.all (λo=>o.guard.isNone)=true):FD ops (Ae h ops):=by
 refine⟨by simp[Ae],λi o ho=>⟨{ o with op:=h i o.op },by rw[CQ,ho];rfl,rfl,rfl,?_,?_⟩⟩
 all_goals
  have:=afn.1 hg o (afg ho);simpa using this
end
section
variable{P:Program}{GI:World->Prop}{n:Nat}{ops ops':Array Oper}{S:au}{H:aD}
def SW.Zp (hG:aQ GI) (hm:P.follows .mixedOrders=true) {old:Old} {Q:fG} {id:Nat} (cP:FD ops ops') (eK:ops'.all (fun o=>fk o.op)=true) (df:Yu P n ops' ops'.size ops'.size (List.range ops'.size)=true)
  {l:List db} (hl:cJ P n true ops'=l)
  (hI:∀(w0:World)(g:Gh)(a:Act)(w:World),g.old=old->Rel P w0 n dh g S H a w->∃I:Array Bool->Act->World->Prop,I (Array.replicate ops.size false) a { w with drawn:=w.drawn+1 }/\
   ∀(i:Nat)(o o':Oper)(l:Array Bool)(a:Act)(w:World),ops[i]?=some o->ops'[i]?=some o'->l.size=ops.size->l.getD i true=false->I l a w->(∀e∈o.after,Region.binds .any e=true->l.getD e.on false=true)->
    (o.semAt none a.eval).run P w=(o'.semAt none a.eval).run P w/\((∀a' w',I (l.setIfInBounds i true) a' w')\/
     ∀x w',(o.semAt none a.eval).run P w=.ok x w'->∃v,x=.value v/\I (l.setIfInBounds i true) (a.put o.dst v) w'))
  (h:dT P GI l (λS H=>Q .normal old S H) S H):SW P GI n none (.region id ops true) Q old S H:=by
 subst hl;intro w0 g a w m dI ho R;simp only[Yu,aeb,aej]at df;obtain⟨⟨⟨⟨q1,q2⟩,q3⟩,q4⟩,q5⟩:=df
 have iX:∀j o d z,jY P n ops' j=some o->aI o=some (d,z)->False:=λj o d z hj hz=>by
  rw[<-gw]at hj;have:=aeh.1 q3 o (afk hj);unfold aI at hz;split at hz
  .rename_i h _;rw[h]at this;cases this
  .cases hz
 have R0:Rel P w0 n dh g S H a { w with drawn:=w.drawn+1 }:=R.kG ((afb _ w).drew)
 have hU:UU P n ops' (Array.replicate ops'.size false)=dh:=by
  funext t
  simp only[UU,dh,agV,iff_false];rintro⟨j,o,z,k1,k2,_⟩;exact iX j o t z k1 k2
 obtain⟨I,i0,ni⟩:=hI w0 g a w ho R;refine afN hm (GC cP I ni ops.size _ a _ ah7 i0 ?_);rw[<-cP.size];refine gI (Q:=QQ P w0 n old (Q.cW old)) (λ_ _ _ hq=>BK hq) _ _ _ _ (wY eK rr _ _ _ _ (H_ (Q:=Q.cW old) (old:=old) hG dI q2 (λo lz=>?_) ops'.size (Array.replicate ops'.size false) g S H a _ ah7 ho (by rw[hU];exact R0) (λj o d z k1 k2 k3=>(iX j o d z k1 k2).elim) ?_))
 .simp only[cJ,afP,aeh,Function.comp]at q1;exact q1 o (by simpa using lz)
 .have:=Eu (P:=P) (GI:=GI) (n:=n) (md:=.any) (ops:=ops') (QA:=Q.cW old .normal) (p:=ops'.size) (q:=ops'.size) (List.range ops'.size) (Array.replicate ops'.size false) S H q5 ?_
  .rw[q4]at this;exact this
  .have:=EM (P:=P) (GI:=GI) (al:=cJ P n true ops') (p:=ops'.size) (q:=ops'.size) (K:=Q.cW old .normal) (r:=[]) (List.range ops'.size) (cJ P n true ops') (by
    apply afA;intro k
    by_cases hk:k<ops'.size
    .simp[hk,cJ]
    .simp[hk,cJ]) (λk hk=>by have:=aeI.1 hk;omega) (S:=S) (H:=H) (vH (λS H h=>h) _ _ _ h)
   simpa using this
end
def Ic:AV->Value
 |.bool b=>.bool b
 |.int k n=>.int k n
 |_=>undef
def Qw:AV->Bool
 |.bool _|.int _ _=>true
 |_=>false
def RD.Am{Pr:Nat->Nat->Prop}{w:World}{v:AV}{c:Value}(h:RD Pr w v c)(hv:Qw v=true):c=Ic v:=by
 cases h<;>first|rfl|cases hv
def RD.abq{Pr:Nat->Nat->Prop}{w:World}{v:AV}(hv:Qw v=true):RD Pr w v (Ic v):=by
 cases v<;>first|exact .bool _|exact .int _ _|cases hv
def HN{v:AV}(hv:Qw v=true):v.one=true:=by cases v<;>first|rfl|cases hv
def pw(es:List AV):List Value:=(es.flatMap AV.cells).map Ic
def kT(size:Nat)(es:List AV):Prop:=∀x∈es,x.storable=true/\x.cells.length=size/\∀c∈x.cells,Qw c=true
def kT.elems{size:Nat}{es:List AV}(h:kT size es):br size es=true:=oP.2 λv hv=>⟨(h v hv).1,(h v hv).2.1⟩
def Hz{size:Nat}:∀{es:List AV},kT size es->(es.flatMap AV.cells).length=es.length*size
 |[],_=>ah7
 |x::es,h=>by
  rw[afx,aeu,Hz λy hy=>h y (aei _ hy),(h x aen).2.1,List.length_cons,afK];omega
def tK{size:Nat}{es:List AV}(h:kT size es):(pw es).length=es.length*size:=by
 rw[pw,aef,Hz h]
def Rw(es fs:List AV):pw (es++fs)=pw es++pw fs:=by simp[pw]
def flat_get{size:Nat}:∀{es:List AV},kT size es->∀j (h:j<es.length) k (hk:k<(es[j]).cells.length),(es.flatMap AV.cells)[j*size+k]?=some (es[j]).cells[k]
 |[],_,_,h,_,_=>by simp at h
 |x::es,ho,0,h,k,hk=>by
  rw[afx,Nat.zero_mul,aeP];exact(afc hk).trans (ad_ hk)
 |x::es,ho,j+1,h,k,hk=>by
  have hx:=(ho x aen).2.1;rw[afx,afp (by rw[hx,afK];omega),hx,show(j+1)*size+k-size=j*size+k by rw[afK];omega];exact flat_get (λy hy=>ho y (aei _ hy)) j (by simpa using h) k hk
def ry{size:Nat}{es:List AV}(ho:kT size es){j:Nat}(h:j<es.length){k:Nat}(hk:k<(es[j]).cells.length):(pw es)[j*size+k]?=some (Ic (es[j]).cells[k]):=by
 rw[pw,aeK,flat_get ho j h k hk];rfl
def kT.flat{size:Nat}{es:List AV}(ho:kT size es)(Pr:Nat->Nat->Prop)(w:World):jS Pr w size es (pw es):=
 ⟨λx hx=>⟨(ho x hx).2.1,(ho x hx).1,λc hc=>HN ((ho x hx).2.2 c hc)⟩,λj h k hk=>⟨_,ry ho h hk,RD.abq ((ho _ (ad2 h)).2.2 _ (ad2 hk))⟩⟩
def kT.app{size:Nat}{es fs:List AV}(h:kT size es)(h':kT size fs):kT size (es++fs):=λx hx=>by
 rcases aeg.1 hx with hx|hx
 .exact h x hx
 .exact h' x hx
structure KO(cc:Nat->Nat->Prop)(e:TypeId)(size:Nat)(es:List AV)(o:Old)(v:Value):Prop where
 c:o.c=cc
 ds:o.ds=[]
 bx:∀d,¬o.bx d
 ok:kT size es
 row:((∃a0,v=.slice a0 0 0)/\es=[])\/∃b cap cur,v=.slice (some ⟨b,0,none⟩) es.length cap/\o.cg b=some (.cells cur e (0,0))/\es.length<=cap/\cap<=maxLen/\cur.size=cap*size/\cur.toList.take (es.length*size)=pw es
section
variable{P:Program}{GI:World->Prop}{w0:World}{n:Nat}{g:Gh}{S:au}{H:aD}{a:Act}{w:World}{cc:Nat->Nat->Prop}{e:TypeId}{size:Nat}{es:List AV}{v:Value}
def Rel.WS (R:Rel P w0 n dh g S H a w) {b:Nat} (hf:x_ g b) {o:Obj} (ho:w.heap[b]? = some o) :
  Rel P w0 n dh { g with old:={ g.old with cg:=aF g.old.cg b (some o) } } S H a w:=by
 refine{ size:=R.size,defers:=R.defers,facts:=R.facts,slot:=R.slot,own:=λt ht hu=>(R.own t ht hu).cg rfl λb hb=>⟨rfl,rfl,hb⟩,box:=?_,kF:=R.kF,kE:=R.kE,inj:=R.inj,base:=R.base,below:=R.below,fresh:=R.fresh,still:=R.still,grown:=R.grown,kept:=?_ }
 .intro i c hi;obtain⟨cs,vs,ty,h1,h2,h3,h4,h5,h6,h7,h8,h9⟩:=R.box i c hi;exact⟨cs,vs,ty,h1,h2,h3,h4,h5,h6,h7,λj hj eX=>(h8 j hj eX).cg rfl λb hb=>⟨rfl,rfl,hb⟩,h9⟩
 .intro c ob h
  by_cases nh:c=b
  .subst nh
   have:ob=o:=by simpa[aF]using h.symm
   subst this;exact⟨hf.1,ho,hf.2.1,hf.2.2.1,hf.2.2.2⟩
  .exact R.kept c ob (by simpa[aF,nh]using h)
def Rel.RJ (R:Rel P w0 n dh g S H a w) {b:Nat} {o:Obj} (hk:g.old.cg b=some o) :
  Rel P w0 n dh { g with old:={ g.old with cg:=aF g.old.cg b none } } S H a w/\x_ { g with old:={ g.old with cg:=aF g.old.cg b none } } b/\w.heap[b]?=some o:=by
 obtain⟨k1,k2,k3,k4,k5⟩:=R.kept b o hk;refine⟨?_,⟨k1,k3,k4,k5⟩,k2⟩;refine{ size:=R.size,defers:=R.defers,facts:=R.facts,slot:=R.slot,own:=λt ht hu=>(R.own t ht hu).cg rfl λb hb=>⟨rfl,rfl,hb⟩,box:=?_,kF:=R.kF,kE:=R.kE,inj:=R.inj,base:=R.base,below:=R.below,fresh:=R.fresh,still:=R.still,grown:=R.grown,kept:=?_ }
 .intro i c hi;obtain⟨cs,vs,ty,h1,h2,h3,h4,h5,h6,h7,h8,h9⟩:=R.box i c hi;exact⟨cs,vs,ty,h1,h2,h3,h4,h5,h6,h7,λj hj eX=>(h8 j hj eX).cg rfl λb hb=>⟨rfl,rfl,hb⟩,h9⟩
 .intro c ob h
  have hc:c≠b:=by rintro rfl;simp[aF]at h
  exact R.kept c ob (by simpa[aF,hc]using h)
def Rel.E5 (R:Rel P w0 n dh g S H a w) (hp:g.old.c=cc∧g.old.ds=[]∧∀ d,¬ g.old.bx d) {w':World} (hb:Below w.heap.size w w') (df:kT size es) (dX:w'.ownsRow w.heap.size e size v es.length (pw es)) :
  ∃g',Rel P w0 n dh g' S H a w'/\KO cc e size es g'.old v:=by
 rcases dX.2 with⟨rfl,h0⟩|⟨b,cap,cur,rfl,mM,hg,h1,h2,h3,h4⟩
 .exact⟨g,R.kG hb,hp.1,hp.2.1,hp.2.2,df,.inl ⟨⟨_,rfl⟩,aeT h0⟩⟩
 .exact⟨_,R.QB hb mM hg,hp.1,hp.2.1,hp.2.2,df,.inr ⟨b,cap,cur,rfl,bX _ _ _,h1,h2,h3,h4⟩⟩
def KO.append (R:Rel P w0 n dh g S H a w) {i:TypeInfo} (hK:KO cc e i.size es g.old v) {o:Oper} {cl:Call} {t:TypeId} {z:Value} {x1 x2:Operand} (ho:o.op = .call cl) (lL:cl.callee = .builtin .append) (Dd:cl.args = #[x1,x2]) (FJ:cl.argTypes = #[t,t])
  (gp:P.underlying t=some (.slice e)) (hi:P.info? e=some i) (hz:i.zero=some z) (qP:z.cells.size=i.size) (IE:i.bytes<=65536) (hv:a.eval x1=v) {y2:dU} (nx:ep n x2=some y2) {oo:Ow} {x:AV} (hS:ev S y2=.slice oo [x]) (hx:kT i.size [x]) (hlen:es.length+1<=2097152):
  ∃v' w' g',(execOp a.eval o).run P w=.ok (.value v') w'/\Rel P w0 n dh g' S H a w'/\KO cc e i.size (es++[x]) g'.old v':=by
 have hle:g.base<=w.heap.size:=by rw[R.base];exact R.below.size
 have fM:=R.ev nx (λ_ _=>id);rw[hS]at fM
 have run:∀v' w',(Builtin.append_ #[t,t] o.type #[v,a.eval x2]).run P w=.ok v' w'->(execOp a.eval o).run P w=.ok (.value v') w':=by
  intro v' w' h;rw[<-hv]at h;unfold execOp;simp[ho,lL,Dd,FJ,resolve,invoke,builtin,h]
 have bytes:∀m,m<=2097152->m*i.bytes<=140737488355328:=λm hm=>afl (ahm hm IE) zd
 rcases(fM.eP rfl).nV i.size hx.elems with⟨h0,_⟩|⟨b,off,cap,news,j6,hl,hn,h1,hr⟩
 .cases h0
 have uh:news=pw [x]:=by
  apply afA;intro j
  by_cases hj:j<i.size
  .have Ir:([x][0]).cells.length=i.size:=(hx x ah7).2.1;obtain⟨u,u1,u2⟩:=hr 0 ah7 j (by rw[Ir];exact hj);have e1:=ry hx (j:=0) ah7 (k:=j) (by rw[Ir];exact hj);rw[Nat.zero_mul,aeP]at u1 e1;rw[u1,e1,u2.Am ((hx x ah7).2.2 _ (ad2 _))]
  .rw[aez (by rw[hl];simp;omega),aez (by rw[tK hx];simp;omega)]
 have ED:kT i.size (es++[x]):=hK.ok.app hx
 have Ik:(es++[x]).length=es.length+1:=ah7
 rcases hK.row with⟨⟨a0,rfl⟩,rfl⟩|⟨bk,abn,cur,hvk,hk,q1,q2,q3,q4⟩
 .obtain⟨v',w',r1,r2,r3,r4,r5⟩:=uo (P:=P) (w:=w) w.heap.size t o.type e i z gp hi hz qP a0 ⟨b,off,none⟩ 1 cap news (by rw[hl];rfl) (λj u hu=>by rw[afh];exact hn j u hu) zo zo (bytes _ zo) (aed _);rw[uh]at r2;obtain⟨g',R',Zu⟩:=R.E5 (es:=[x]) ⟨hK.c,hK.ds,hK.bx⟩ ⟨r4.os,r4.tape,r4.output,r4.size,λk hk=>r4.block k hk ah7⟩ hx r2;exact⟨v',w',g',run _ _ (by rw[j6];exact r1),R',Zu⟩
 .have dR:es≠[]\/es=[]:=(Decidable.em _).symm;obtain⟨k1,k2,k3,k4,k5⟩:=R.kept bk _ hk
  have dX:w.ownsRow g.base e i.size v es.length (pw es):=⟨tK hK.ok,.inr ⟨bk,abn,cur,hvk,k1,k2,q1,q2,q3,q4⟩⟩
  obtain⟨v',w',b',r1,r2,r3,r4⟩:=sR (P:=P) (w:=w) g.base t o.type e i z gp hi hz qP v es.length (pw es) bk dX (by rw[hvk];rfl) ⟨b,off,none⟩ 1 cap news (by rw[hl];rfl) (λj u hu=>by rw[afh];exact hn j u hu) h1 hlen (bytes _ hlen) hle;rw[uh,<-Rw]at r2
  have qu:∃D1 G0,v'=.slice (some ⟨b',0,none⟩) (es++[x]).length D1/\w'.heap[b']?=some (.cells G0 e (0,0))/\(es++[x]).length<=D1/\D1<=maxLen/\G0.size=D1*i.size/\G0.toList.take ((es++[x]).length*i.size)=pw (es++[x]):=by
   rcases r2.2 with⟨_,h0⟩|⟨gg,cp,cu,rfl,_,m1,m2,m3,m4,m5⟩
   .omega
   .have:gg=b':=by simpa[Value.ownBlock]using r3
    subst this;rw[Ik];exact⟨cp,cu,rfl,m1,m2,m3,m4,m5⟩
  obtain⟨D1,G0,qy,iY,m2,m3,m4,m5⟩:=qu
  rcases r4 with⟨rfl,iz⟩|⟨rfl,iz,cM⟩
  .obtain⟨R1,hf,_⟩:=R.RJ hk;have R2:=R1.eF (M:=λc=>c=b') (w':=w') ⟨iz.os,iz.tape,iz.output,iz.size,λk hk hm=>iz.block k hk (by simpa using hm)⟩ (λc hc=>by subst hc;exact hf) (λc hc=>by subst hc;exact bX _ _ _);have R3:=R2.WS hf iY;exact⟨v',w',_,run _ _ (by rw[j6];exact r1),R3,hK.c,hK.ds,hK.bx,ED,.inr ⟨b',D1,G0,qy,bX _ _ _,m2,m3,m4,m5⟩⟩
  .have R2:=R.QB (w':=w') ⟨iz.os,iz.tape,iz.output,iz.size,λk hk=>iz.block k hk ah7⟩ (aed _) iY;exact⟨v',w',_,run _ _ (by rw[j6];exact r1),R2,hK.c,hK.ds,hK.bx,ED,.inr ⟨w.heap.size,D1,G0,qy,bX _ _ _,m2,m3,m4,m5⟩⟩
def KO.cell (hK:KO cc e size es g.old v) (R:Rel P w0 n dh g S H a w) {j:Nat} (hj:j < es.length) :
  ∃b cap cur,v=.slice (some ⟨b,0,none⟩) es.length cap/\g.old.cg b=some (.cells cur e (0,0))/\w.heap[b]?=some (.cells cur e (0,0))/\∀k (hk:k<(es[j]).cells.length),j*size+k<cur.size/\cur[j*size+k]?=some (Ic (es[j]).cells[k]):=by
 rcases hK.row with⟨_,rfl⟩|⟨b,cap,cur,hv,hk,h1,h2,h3,h4⟩
 .simp at hj
 refine⟨b,cap,cur,hv,hk,(R.kept b _ hk).2.1,λk Eh=>?_⟩;have hg:=ry hK.ok hj Eh;rw[<-h4,agN]at hg;split at hg
 .have oN:cur[j*size+k]?=some (Ic (es[j]).cells[k]):=by rw[<-hg,afv]
  exact⟨(aea.1 oN).1,oN⟩
 .cases hg
def KO.set (hK:KO cc e size es g.old v) {j k:Nat} (hj:j < es.length) (hk:k < (es[j]).cells.length) {x:AV} (hx:kT size [x]) {u:AV} (hu:x.cells=(es[j]).cells.set k u) {b cap:Nat} {cur DO:Array Value} (hv:v = .slice (some ⟨b,0,none⟩) es.length cap) (AQ:g.old.cg b=some (.cells cur e (0,0)))
  (cM:DO.size=cur.size) (hc:∀m,DO.getD m undef=if m=j*size+k then Ic u else cur.getD m undef):KO cc e size (es.set j x) { g.old with cg:=aF g.old.cg b (some (.cells DO e (0,0))) } v:=by
 have df:kT size (es.set j x):=λy hy=>by
  rcases ahw hy with h|h
  .exact hK.ok y h
  .subst h;exact hx y ah7
 refine⟨hK.c,hK.ds,hK.bx,df,.inr ⟨b,cap,DO,by rw[af9];exact hv,bX _ _ _,?_⟩⟩;rw[af9]
 rcases hK.row with⟨_,rfl⟩|⟨b2,adP,ad3,fM,lI,h1,h2,h3,h4⟩
 .simp at hj
 rw[hv]at fM;cases fM;rw[AQ]at lI;cases lI;refine⟨h1,h2,by rw[cM];exact h3,?_⟩
 have hle:es.length*size<=cur.size:=by rw[h3];exact afy _ h1
 apply afA;intro m
 by_cases hm:m<es.length*size
 case neg=>rw[aez (by rw[aes];omega),aez (by rw[tK df,af9];omega)]
 have XV:0<size:=by
  rcases af6 size with h|h
  .rw[h,Nat.mul_zero]at hm;omega
  .exact h
 obtain⟨q,r,hr,rfl⟩:∃q r,r<size/\m=q*size+r:=⟨m/size,m % size,agT _ XV,by rw[agk];exact(ahL m size).symm⟩
 have hq:q<es.length:=by
  rcases afB q es.length with h|h
  .exact h
  .have:=afy size h;omega
 have yK:q<(es.set j x).length:=by rw[af9];exact hq
 have hlen:((es.set j x)[q]).cells.length=size:=(df _ (ad2 yK)).2.1;rw[ry df yK (by rw[hlen];exact hr),agN,if_pos hm,afv];have A2:=hc (q*size+r)
 have oC:q*size+r<DO.size:=by rw[cM];omega
 have Ym:q*size+r<cur.size:=zo
 rw[aex,aeC oC,Option.getD_some,aex,aeC Ym,Option.getD_some]at A2;rw[aeC oC,A2]
 have hold:cur[q*size+r]?=some (Ic ((es[q]).cells[r]'(by rw[(hK.ok _ (ad2 hq)).2.1];exact hr))):=by
  have hg:=ry hK.ok hq (k:=r) (by rw[(hK.ok _ (ad2 hq)).2.1];exact hr);rw[<-h4,agN,if_pos hm,afv]at hg;exact hg
 rw[aeC Ym]at hold;have hold:=aeE hold
 by_cases hqj:q=j
 .subst hqj
  have Rz:(es.set q x)[q]=x:=ah7
  by_cases hrk:r=k
  .subst hrk;rw[if_pos rfl];simp only[Rz,hu,ahV]
  .rw[if_neg zo];simp only[Rz,hu];rw[ah9 zo,hold]
 .have Rz:(es.set j x)[q]=es[q]:=ah9 zo _;rw[if_neg,hold]
  .simp only[Rz]
  .intro h
   have dp:k<size:=by rw[<-(hK.ok _ (ad2 hj)).2.1];exact hk
   apply hqj;have:=congrArg (·/size) h;simp only[agk _ size,Nat.mul_add_div XV,ahB hr,ahB dp]at this;simpa using this
def He{a:Act}{t:Nat}{c:Value}(ht:t<a.tmps.size)(h:a.tmps.getD t undef=c):a.put (some t) c=a:=by
 cases a;simp only[Act.put,Act.mk.injEq,ahE]at h ht⊢;apply afH
 .simp
 .intro i h1 h2;rw[Array.getElem_setIfInBounds];split
  .rename_i hi;subst hi;rw[<-h];simp[aex,h2]
  .rfl
def KO.done (hK:KO cc e size es g.old v) (R:Rel P w0 n dh g S H a w) {t:Nat} (ht:t < n) (hS:S t = .val v) :
  ∃g',Rel P w0 n dh g' (aF S t (.slice .view es)) H a w/\g'.old.c=cc/\g'.old.ds=[]/\∀d,¬g'.old.bx d:=by
 have hv:a.tmps.getD t undef=v:=by
  have:=R.slot t ht id;rw[hS]at this;exact this.jT
 have Dz:∀{c},a.tmps.getD t undef=c->a.put (some t) c=a:=λh=>He (by rw[R.size];exact ht) h
 rcases hK.row with⟨⟨a0,rfl⟩,rfl⟩|⟨b,cap,cur,fM,hk,h1,h2,h3,h4⟩
 .have ec:RD g.Pr w (.slice .view []) (.slice a0 0 0):=by
   cases a0 with
   |none=>exact .jm _
   |some b=>exact .kj _ _
  have R2:=R.put t (.slice .view []) _ ht (.data _ _ ec) trivial;rw[Dz hv]at R2;exact⟨g,R2,hK.c,hK.ds,hK.bx⟩
 .obtain⟨k1,k2,_⟩:=R.kept b _ hk;obtain⟨g',q1,q2,R1,q3,q4⟩:=R.hand hk (es.length*size)
  have ec:RD g'.Pr w (.slice .view es) v:=by
   refine RD.ofRow (base:=g.base) ⟨tK hK.ok,.inr ⟨b,cap,cur,fM,k1,k2,h1,h2,h3,h4⟩⟩ (hK.ok.flat _ _) λb' iY k Eh=>?_
   have:b=b':=by rw[fM]at iY;simpa[Value.ownBlock]using iY
   subst this;exact q4 k Eh
  have R2:=R1.put t (.slice .view es) v ht (.data _ _ ec) trivial;rw[Dz hv]at R2;exact⟨g',R2,by rw[q1];exact hK.c,by rw[q1];exact hK.ds,by rw[q1];exact hK.bx⟩
def KO.start(R:Rel P w0 n dh g S H a w)(hp:g.old.c=cc/\g.old.ds=[]/\∀d,¬g.old.bx d){t:Nat}(ht:t<n)(hS:S t=.slice .nil []):∃v,Rel P w0 n dh g (aF S t (.val v)) H a w/\KO cc e size [] g.old v:=by
 obtain⟨ad,hc⟩:∃ad,a.tmps.getD t undef=.slice ad 0 0:=by
  have hq:=R.slot t ht id;rw[hS]at hq;have hq:=hq.eP rfl;generalize a.tmps.getD t undef=c at hq
  cases hq with
  |jm=>exact⟨_,rfl⟩
  |kj=>exact⟨_,rfl⟩
  |slice _ _ b off cap size cs gq vC=>rw[vC rfl];exact⟨_,rfl⟩
 have R2:=R.put t (.val (.slice ad 0 0)) (.slice ad 0 0) ht (.data _ _ (.val _ rfl)) trivial;rw[He (by rw[R.size];exact ht) hc]at R2;exact⟨_,R2,hp.1,hp.2.1,hp.2.2,(λx hx=>by cases hx),.inl ⟨⟨_,rfl⟩,rfl⟩⟩
end
section
variable{P:Program}{GI:World->Prop}{w0:World}{n:Nat}{g:Gh}{S:au}{H:aD}{a:Act}{w:World}{cc:Nat->Nat->Prop}{e:TypeId}{size:Nat}{es:List AV}{v:Value}
def Rel.Qx (R:Rel P w0 n dh g S H a w) {t u:Nat} (ht:t < n) (hu:u < n) (dR:t≠u) (hS:S t = .slice (.own e) es) (hv:a.tmps.getD u undef=a.tmps.getD t undef) :
  ∃g',g'.old=g.old/\Rel P w0 n dh g' (aF (aF S t (.slice .view es)) u (.slice (.own e) es)) H a w:=by
 let g':Gh:={ g with owner:=λb=>if g.owner b=some (.slot t)then some (.slot u)else if g.owner b=some (.slot u)then none else g.owner b }
 have rQ:g'.Pr=g.Pr:=rfl
 have dX:∀b loc,loc≠.slot t->loc≠.slot u->g.owner b=some loc->g'.owner b=some loc:=by
  intro b loc h1 h2 h;show(if g.owner b=some (.slot t)then _ else if g.owner b=some (.slot u)then none else g.owner b)=_;rw[h,if_neg (by simpa using h1),if_neg (by simpa using h2)]
 have Ed:∀b,g.owner b=none->g'.owner b=none:=by
  intro b h;show(if g.owner b=some (.slot t)then _ else if g.owner b=some (.slot u)then none else g.owner b)=_;rw[h];simp
 have Uj:∀{loc:Loc}{v:AV}{c:Value},loc≠.slot t->loc≠.slot u->fp P w g loc v c->fp P w g' loc v c:=λh1 h2 h=>h.cg rfl λb hb=>⟨rfl,rfl,dX b _ h1 h2 hb⟩
 have eB:=R.slot t ht id;have hot:=R.own t ht id;rw[hS]at eB hot;refine⟨g',rfl,{ size:=R.size,defers:=R.defers,facts:=R.facts,slot:=?_,own:=?_,box:=?_,kF:=R.kF,kE:=R.kE,inj:=R.inj,base:=R.base,below:=R.below,fresh:=λb hb=>⟨(R.fresh b hb).1,Ed b (R.fresh b hb).2⟩,still:=R.still,grown:=R.grown,kept:=λb o h=>let⟨k1,k2,k3,k4,k5⟩:=R.kept b o h;⟨k1,k2,k3,Ed b k4,k5⟩ }⟩
 .intro x hx _;show RV g.Pr g.al w _ _
  by_cases SY:x=u
  .subst SY;rw[bX,hv];exact eB
  .rw[b_ _ _ SY]
   by_cases Tc:x=t
   .subst Tc;rw[bX];exact .data _ _ (eB.eP rfl).bC
   .rw[b_ _ _ Tc];exact R.slot x hx id
 .intro x hx _
  by_cases SY:x=u
  .subst SY;rw[bX,hv];obtain⟨i,xs,b,k1,k2,k3,k4,k5⟩:=hot;refine⟨i,xs,b,k1,k2,k3,?_,k5⟩;show(if g.owner b=some (.slot t)then _ else _)=_;rw[if_pos k4]
  .rw[b_ _ _ SY]
   by_cases Tc:x=t
   .subst Tc;rw[bX];trivial
   .rw[b_ _ _ Tc];exact Uj (by simpa using Tc) (by simpa using SY) (R.own x hx id)
 .intro i b hi;obtain⟨cs,vs,ty,h1,h2,h3,h4,h5,h6,h7,h8,h9⟩:=R.box i b hi;exact⟨cs,vs,ty,h1,h2,h3,h4,Ed b h5,h6,h7,λj hj eX=>Uj ah7 ah7 (h8 j hj eX),h9⟩
def F8 (R:Rel P w0 n dh g S H a w) (hp:g.old.c=cc∧g.old.ds=[]∧∀ d,¬ g.old.bx d) {i:TypeInfo} (hi:P.info? e=some i) {old:Nat→Nat→Prop} {en:Ending} {w':World} (df:kT i.size es) (h:Ends P old w (.ret (.slice (.own e) es)) en w') :
  ∃v g',en=.returned v/\Rel P w0 n dh g' S H a w'/\KO cc e i.size es g'.old v:=by
 obtain⟨hb,eJ,_,c,rfl,hv,i',xs,b,k1,k2,k3,_⟩:=h;rw[hi]at k1;cases k1
 have hf:=jS.Of (hv.eP rfl) k2 (λx hx=>⟨(df x hx).2.1,(df x hx).1,λc hc=>HN ((df x hx).2.2 c hc)⟩) (λx hx c hc=>by
  have:=(df x hx).2.2 c hc
  cases c<;>first|rfl|cases this)
 have rE:xs=pw es:=by
  apply afA;intro m
  by_cases hm:m<es.length*i.size
  case neg=>rw[aez (by rw[k2.1];omega),aez (by rw[tK df];omega)]
  have XV:0<i.size:=by
   rcases af6 i.size with h|h
   .rw[h,Nat.mul_zero]at hm;omega
   .exact h
  obtain⟨q,r,hr,rfl⟩:∃q r,r<i.size/\m=q*i.size+r:=⟨m/i.size,m % i.size,agT _ XV,by rw[agk];exact(ahL m i.size).symm⟩
  have hq:q<es.length:=by
   rcases afB q es.length with h|h
   .exact h
   .have:=afy i.size h;omega
  have hl:=(df _ (ad2 hq)).2.1;obtain⟨u,u1,u2⟩:=hf.2 q hq r (by rw[hl];exact hr);rw[u1,ry df hq (by rw[hl];exact hr),u2.Am ((df _ (ad2 hq)).2.2 _ (ad2 _))]
 rw[rE]at k2;obtain⟨g',R',hK⟩:=R.E5 hp hb df k2;exact⟨c,g',rfl,R',hK⟩
end
section
variable{P:Program}{w0:World}{n:Nat}{g:Gh}{S:au}{H:aD}{a:Act}{w:World}{cc:Nat->Nat->Prop}{e:TypeId}
def KO.make(R:Rel P w0 n dh g S H a w)(hp:g.old.c=cc/\g.old.ds=[]/\∀d,¬g.old.bx d){m:Nat}(hm:m<=1000):∃g',Rel P w0 n dh g' S H a (w.alloc (.cells (madeCells #[.int .i64 0] m) e))/\KO cc e 1 (List.replicate m (.int .i64 0)) g'.old (.slice (some ⟨w.heap.size,0,none⟩) m m):=by
 refine R.E5 hp (Below.alloc (afb _ _) (aed _) _) (λx hx=>?_) ⟨?_,.inr ⟨w.heap.size,m,madeCells #[.int .i64 0] m,ah7,aed _,(by show(w.heap.push _)[w.heap.size]?=_;simp),ah7,by simp[maxLen];omega,by simp[size_madeCells],?_⟩⟩
 .rw[List.mem_replicate]at hx;rw[hx.2];exact⟨rfl,rfl,λc hc=>by simp[AV.cells]at hc;subst hc;rfl⟩
 .simp[pw,AV.cells]
 .have hc:(madeCells #[Value.int .i64 0] m).toList=List.replicate m (.int .i64 0):=by
   apply ag6
   .simp[size_madeCells]
   .intro j h1 h2;simp[madeCells,Nat.mod_one]
  have hr:∀k,pw (List.replicate k (AV.int .i64 0))=List.replicate k (.int .i64 0):=by
   intro k
   induction k with
   |zero=>rfl
   |succ k ih=>rw[List.replicate_succ,List.replicate_succ,<-ih];rfl
  rw[hc,hr,List.length_replicate,afW,aee ah7]
end
def MF {P:Program} {w:World} {base:Nat} {t ty e:TypeId} {i:TypeInfo} {z:Value} (ht:P.underlying t=some (.slice e)) (hi:P.info? e=some i) (hz:i.zero=some z) (qP:z.cells.size=i.size) (hs:i.size=1) (IE:i.bytes≤65536)
  {u:Value} {n:Nat} {xs:List Value} (dX:w.ownsRow base e 1 u n xs) (hlen:n+1<=2097152) (iA:base<=w.heap.size) {ad:Addr} {cap:Nat} {c:Value} (hc:w.cell? ad=some c) (h1:c.oneCell'=true):
  ∃u' w' b',(Builtin.append_ #[t,t] ty #[u,.slice (some ad) 1 cap]).run P w=.ok u' w'/\w'.ownsRow base e 1 u' (n+1) (xs++[c])/\u'.ownBlock=some b'/\mY (λb=>u.ownBlock=some b) w w'/\(u.ownBlock=some b'\/w.heap.size<=b'):=by
 have bytes:∀m,m<=2097152->m*i.bytes<=140737488355328:=λm hm=>afl (ahm hm IE) zd
 have hn1:∀j x,[c][j]?=some x->w.cell? (ad.add j)=some x:=λj x hx=>by
  match j,hx with
  |0,hx=>cases hx;rw[show ad.add 0=ad by simp[Addr.add]];exact hc
 have BD:∀x∈[c],x.oneCell'=true:=λx hx=>by simp at hx;subst hx;exact h1
 rcases dX.2 with⟨hu,hn⟩|⟨g,ad8,cur,hv,pL,hg,rest⟩
 .subst hn;have hx:xs=[]:=aeT (by have:=dX.1;simpa using this);subst hx;obtain⟨v',w',r1,r2,r3,r4,r5⟩:=uo (P:=P) (w:=w) base t ty e i z ht hi hz qP none ad 1 cap [c] (by rw[hs];rfl) hn1 zo zo (bytes _ zo) iA;rw[hs]at r2;rw[hu];exact⟨v',w',_,r1,by simpa using r2,r3,⟨r4.os,r4.tape,r4.output,r4.size,λk hk _=>r4.block k hk ah7⟩,.inr (aed _)⟩
 .have L8:u.ownBlock=some g:=by rw[hv];rfl
  obtain⟨v',w',b',r1,r2,r3,r4⟩:=sR (P:=P) (w:=w) base t ty e i z ht hi hz qP u n xs g (by rw[hs];exact dX) L8 ad 1 cap [c] (by rw[hs];rfl) hn1 BD hlen (bytes _ hlen) iA;rw[hs]at r2
  rcases r4 with⟨rfl,iz⟩|⟨rfl,iz,cM⟩
  .exact⟨v',w',_,r1,r2,r3,⟨iz.os,iz.tape,iz.output,iz.size,λk hk hm=>iz.block k hk (λe=>hm (by rw[L8];exact e.symm))⟩,.inl L8⟩
  .exact⟨v',w',_,r1,r2,r3,⟨iz.os,iz.tape,iz.output,iz.size,λk hk _=>iz.block k hk ah7⟩,.inr (aed _)⟩
section
variable{P:Program}{ro:Option Nat}{m:Nat}{Q:Exit->Act->World->Prop}{a:Act}{w:World}{K:Act->World->Prop}
def zE {ops:Array Oper} {i:Nat} {o:Oper} (ho:ops[i]? = some o) (hg:o.guard=none) (eK:fk o.op=true) {v:Value} {w':World}
  (hr:(execOp a.eval o).run P w=.ok (.value v) w') (hk:K (a.put o.dst v) w'):wpOpIn (FR ro) m P ops Q i K a w:=by
 simp only[wpOpIn,ho]
 have:Region.wanted o (yielded ops a.tmps)=true:=by simp[Region.wanted,hg]
 rw[if_pos this];refine⟨λ_ _=>trivial,?_⟩;rw[afE _ _ _ (λc hc=>by rw[hc]at eK;cases eK),hr];exact hk
def Tq {ops:Array Oper} {i:Nat} {o:Oper} (ho:ops[i]? = some o) (hg:o.guard=none) (eK:fk o.op=true) {w':World}
  (hr:(execOp a.eval o).run P w=.ok .skip w') (hk:K (a.put o.dst undef) w'):wpOpIn (FR ro) m P ops Q i K a w:=by
 simp only[wpOpIn,ho]
 have:Region.wanted o (yielded ops a.tmps)=true:=by simp[Region.wanted,hg]
 rw[if_pos this];refine⟨λ_ _=>trivial,?_⟩;rw[afE _ _ _ (λc hc=>by rw[hc]at eK;cases eK),hr];exact hk
def RY {ops:Array Oper} {i:Nat} {o:Oper} (ho:ops[i]? = some o) (hg:o.guard=none) (eK:fk o.op=true) {f:Nat} {args:Array Value} {w':World}
  (hr:(execOp a.eval o).run P w=.ok (.enter f args) w') {R:Ending->World->Prop} (hc:Calls P f args w' R) (hk:∀e j0,R e j0->∃v,e=.returned v/\K (a.put o.dst v) j0):wpOpIn (FR ro) m P ops Q i K a w:=by
 simp only[wpOpIn,ho]
 have:Region.wanted o (yielded ops a.tmps)=true:=by simp[Region.wanted,hg]
 rw[if_pos this];refine⟨λ_ _=>trivial,?_⟩;rw[afE _ _ _ (λc hc=>by rw[hc]at eK;cases eK),hr];refine⟨λh=>by simp[FR,Fence.wide]at h,jD.2 (hc.mono λe j0 hh=>?_)⟩;obtain⟨v,rfl,h⟩:=hk e j0 hh;exact h
def tL{F:Fence}{ops:Array Oper}{l:Array Bool}{i fuel:Nat}(hr:Region.ready .any ops l=[i])(h:wpOpIn F m P ops Q i (wpAnyIn F m P .any ops Q fuel (l.setIfInBounds i true)) a w):wpAnyIn F m P .any ops Q (fuel+1) l a w:=by
 refine⟨λh=>(by rw[hr]at h;cases h),λj hj=>?_⟩;rw[hr]at hj
 obtain rfl:j=i:=by simpa using hj
 exact h
def DA{F:Fence}{ops:Array Oper}{l:Array Bool}{i j fuel:Nat}(hr:Region.ready .any ops l=[i,j])(h:wpOpIn F m P ops Q i (wpAnyIn F m P .any ops Q fuel (l.setIfInBounds i true)) a w)(h':wpOpIn F m P ops Q j (wpAnyIn F m P .any ops Q fuel (l.setIfInBounds j true)) a w):wpAnyIn F m P .any ops Q (fuel+1) l a w:=by
 refine⟨λh=>(by rw[hr]at h;cases h),λk hk=>?_⟩;rw[hr]at hk;rcases aeD.1 hk with rfl|hk
 .exact h
 .obtain rfl:k=j:=by simpa using hk
  exact h'
def Td{c:Value}(h:c.oneCell'=true):c.cells=#[c]:=by cases c<;>first|rfl|cases h
def M5 {o:Oper} {t e:TypeId} {ie:TypeInfo} {z:Value} {x:Operand} {c:Value} (ho:o.op = .buildSlice t 1 #[(0,x)]) (hu:P.underlying t=some (.slice e)) (Ka:P.info? e=some ie) (hz:ie.zero=some z) (hs:ie.size=1) (hc:a.eval x=c) (h1:c.oneCell'=true) :
  (execOp a.eval o).run P w=.ok (.value (.slice (some ⟨w.heap.size,0,none⟩) 1 1)) (w.alloc (.cells #[c] e)):=by
 have hr:=run_buildSlice (P:=P) w t e 1 #[(0,c)] #[c] ie z hu Ka hz (by rw[hs];decide) (by rw[hs];decide) (by
  rw[hs];simp[Instr.fill,Td h1];generalize hA:Array.map (λx=>z.cells[x % z.cells.size]!) (Array.range 1)=A
  have cM:A.size=1:=by rw[<-hA];simp
  apply afH
  .simp[cM]
  .intro i hi eJ
   obtain rfl:i=0:=by simp at eJ;omega
   simp[cM])
 unfold execOp;simp[ho,hc,hr]
def A1(w w':World)(es:List AV)(c:Value):Prop:=∃hi:Nat->Nat,RD (λb j=>(w.heap.size<=b/\b<w'.heap.size)/\j<hi b) w' (.slice .view es) c
def A1.grow{w w' w2:World}{es:List AV}{c:Value}(h:A1 w w' es c)(hb:Below w'.heap.size w' w2):A1 w w2 es c:=by
 obtain⟨hi,hr⟩:=h;refine⟨hi,hr.mono (cC.of_eq λb k hp=>⟨⟨⟨hp.1.1,ae4 hp.1.2 hb.size⟩,hp.2⟩,hb.block b hp.1.2⟩)⟩
def Nv {old:Nat→Nat→Prop} {e:TypeId} {i:TypeInfo} {es:List AV} {en:Ending} {w':World} (hi:P.info? e=some i)
  (oI:∀x∈es,x.cells.length=i.size/\x.storable=true/\∀c∈x.cells,c.one=true) (EN:∀x∈es,∀c∈x.cells,jl c=true)
  (h:Ends P old w (.ret (.slice (if es.isEmpty then .nil else .own e) es)) en w'):Below w.heap.size w w'/\∃c,en=.returned c/\A1 w w' es c:=by
 obtain⟨hb,hf,_,c,rfl,hv,ho⟩:=h;refine⟨hb,c,rfl,hf,?_⟩;have hv:=hv.eP rfl
 cases es with
 |nil=>exact hv.Eo
 |cons x es=>
  simp only[List.isEmpty_cons,aek,aeA]at hv ho;obtain⟨i',xs,b,k1,k2,k3,k4⟩:=ho;rw[hi]at k1;cases k1;have pJ:=jS.Of hv k2 oI EN
  refine RD.ofRow k2 (pJ.mono (cC.same λ_ _ _ h=>h.elim)) λb' iY k hk=>?_
  rw[k3]at iY;cases iY;exact⟨k2.lt b k3,by rw[k4];exact hk⟩
end
section
variable{P:Program}{GI:World->Prop}{n m:Nat}{Q:Exit->Act->World->Prop}
def SW.Ta (hG:aQ GI) (hm:P.follows .mixedOrders=true) {ro:Option Nat} {old:Old} {Q:fG} {S:au} {H:aD} {ops:Array Oper} {id p:Nat} (GZ:Ij ops p=true) (eK:(ops.extract 0 p).all (fun o=>fk o.op)=true) (df:M7 P n (ops.extract 0 p)=true) (du:∀ d,¬ old.bx d)
  {l:List db} (hl:cJ P n true (ops.extract 0 p)=l) (pc:(ops.extract 0 p).size=p) {K:au->aD->Prop} (h:dT P GI l K (bZ l S) (bI l H))
  (hand:∀w0 g S1 H1 a w m,GI w0->g.old=old->Rel P w0 n dh g S1 H1 a w->K S1 H1->wpOpsIn (FR ro) m P ops (QS P w0 n Q) (List.range' p (ops.size-p)) a w):SW P GI n ro (.region id ops true) Q old S H:=by
 subst hl;intro w0 g a w m dI ho R;refine OR hm GZ ?_;have key:=mQ (ro:=ro) (m:=m) hG dI hm (old:=old) (ops:=ops.extract 0 p) (Q:=aq K) eK df (λ_ _ d _=>du d) ho R h;rw[pc]at key;refine gI ?_ _ _ _ _ key;intro e a' w' hq
 cases e with
 |normal=>
  obtain⟨g',S',H',h1,h2,h3⟩:=hq;exact hand w0 g' S' H' a' w' m dI h1 h2 h3
 |exit id=>obtain⟨_,_,_,_,_,h⟩:=hq;exact h.elim
 |ret=>obtain⟨_,_,_,_,_,h⟩:=hq;exact h.elim
 |panic ch=>obtain⟨_,_,_,_,_,_,_,_,_,_,h⟩:=hq;exact h.elim
 |goto l=>exact hq.elim
 |outgrown=>exact hq.elim
end
end Go.AL
