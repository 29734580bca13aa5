/-
  A part of the proof.
-/
import Derived.Test.YtdiflocclemeaaaGreatDoorB1
import Derived.Test.YtdiflocclemeaaaGreatDoorB2
import Derived.Test.YtdiflocclemeaaaGreatDoorB3
import Derived.Test.YtdiflocclemeaaaGreatDoorB4
import Derived.Test.YtdiflocclemeaaaGreatDoorShelf
set_option maxRecDepth 100000
set_option maxHeartbeats 8000000
set_option linter.all false
set_option linter.unusedVariables false
set_option linter.unusedSimpArgs false
set_option linter.deprecated false
namespace Go.Proofs.Tram
def du(seen:Nat->Bool)(s:Nat×List (Nat×Nat))(i:Nat):Nat×List (Nat×Nat):=if seen i=true then s else(i+1,if s.1<i then s.2++[(s.1,i-1)]else s.2)
def eh(seen:Nat->Bool)(n:Nat):List (Nat×Nat):=((List.range (n+1)).foldl (du seen) (0,[])).2
def j8(seen:Nat->Bool)(out:List (Nat×Nat))(c:Nat):List (Nat×Nat):=
 if seen c=true then(if 0<c/\seen (c-1)=true then out.dropLast++[((out.getLast?.getD (0,0)).1,c)]else out++[(c,c)])else out
theorem nt (seen:Nat→Bool) (n:Nat) :
  ((List.range n).foldl (du seen) (0,[])).1<=n/\(((List.range n).foldl (du seen) (0,[])).1<n↔0<n/\seen (n-1)=true)/\
   (List.range n).foldl (j8 seen) []=((List.range n).foldl (du seen) (0,[])).2++(if((List.range n).foldl (du seen) (0,[])).1<n then[(((List.range n).foldl (du seen) (0,[])).1,n-1)]else[]):=by
 induction n with
 |zero=>simp
 |succ n ih=>
  rw[adY,adL,adL]
  generalize(List.range n).foldl (du seen) (0,[])=s at*
  generalize(List.range n).foldl (j8 seen) []=r at*
  obtain⟨h1,h2,h3⟩:=ih;simp only[List.foldl_cons,List.foldl_nil,aeL]
  cases hs:seen n with
  |true=>
   have e1:du seen s n=s:=by simp[du,hs]
   rw[e1];refine⟨by omega,⟨λ_=>⟨by omega,by first|exact hs|rfl⟩,λ_=>by omega⟩,?_⟩;rw[if_pos (by omega:s.1<n+1)];unfold j8;rw[if_pos hs]
   by_cases au:s.1<n
   .rw[if_pos (h2.1 au),h3,if_pos au];simp
   .have:s.1=n:=by omega
    rw[if_neg (λh=>au (h2.2 h)),h3,if_neg au,adT,this]
  |false=>
   have e1:du seen s n=(n+1,if s.1<n then s.2++[(s.1,n-1)]else s.2):=by simp[du,hs]
   have e2:j8 seen r n=r:=by simp[j8,hs]
   rw[e1,e2];refine⟨adh _,by simp,?_⟩;simp only[agl,adz,adT];rw[h3]
   split<;>simp
def cQ:List Int->Int->Nat×Int
 |[],t=>(0,t)
 |x::l,t=>if x<=t then((cQ l (t-x)).1+1,(cQ l (t-x)).2)else(0,t)
theorem oA:∀(l:List Int)(t:Int),(cQ l t).1<=l.length
 |[],_=>adh _
 |x::l,t=>by
  unfold cQ;split
  .simpa using oA l (t-x)
  .simp
theorem tV:∀(l:List Int)(t:Int),0<=t->0<=(cQ l t).2
 |[],_,h=>h
 |x::l,t,h=>by
  unfold cQ;split
  .exact tV l (t-x) (by omega)
  .exact h
theorem zE:∀(l:List Int)(t:Int)(x:Int),l[(cQ l t).1]?=some x->(cQ l t).2<x
 |[],_,_,h=>by simp at h
 |y::l,t,x,h=>by
  unfold cQ at h⊢;split at h
  .rename_i hy;rw[if_pos hy];simp only[List.getElem?_cons_succ]at h;exact zE l (t-y) x h
  .rename_i hy;rw[if_neg hy];simp only[List.getElem?_cons_zero,adS]at h;simp only;omega
theorem Dc:∀(l:List Int)(a b:Int),0<=b->cQ l (a+b)=((cQ l a).1+(cQ (l.drop (cQ l a).1) ((cQ l a).2+b)).1,(cQ (l.drop (cQ l a).1) ((cQ l a).2+b)).2)
 |[],a,b,_=>by simp[cQ]
 |x::l,a,b,hb=>by
  by_cases h:x<=a
  .have e:cQ (x::l) a=((cQ l (a-x)).1+1,(cQ l (a-x)).2):=by rw[cQ];rw[if_pos h]
   rw[e]
   have e2:cQ (x::l) (a+b)=((cQ l (a+b-x)).1+1,(cQ l (a+b-x)).2):=by
    rw[cQ];rw[if_pos (by omega)]
   rw[e2,show a+b-x=(a-x)+b by omega,Dc l (a-x) b hb];simp only[agp]
   ext<;>simp<;>omega
  .have e:cQ (x::l) a=(0,a):=by rw[cQ];rw[if_neg h]
   rw[e];simp
theorem pR:∀(l:List Int)(t:Int)(k:Nat),k<=(cQ l t).1->cQ l t=(k+(cQ (l.drop k) (t-(l.take k).sum)).1,(cQ (l.drop k) (t-(l.take k).sum)).2)
 |_,_,0,_=>by simp
 |[],t,k+1,h=>by simp[cQ]at h
 |x::l,t,k+1,h=>by
  by_cases hx:x<=t
  .have e:cQ (x::l) t=((cQ l (t-x)).1+1,(cQ l (t-x)).2):=by rw[cQ];rw[if_pos hx]
   rw[e]at h⊢;have:=pR l (t-x) k (by simpa using h);rw[this];simp only[agp,List.take_succ_cons,List.sum_cons];rw[show t-x-(l.take k).sum=t-(x+(l.take k).sum) by omega]
   ext<;>simp<;>omega
  .rw[cQ,if_neg hx]at h;simp at h
def ia(bc:Nat->Int)(a b:Nat):Int:=((List.range' a (b-a)).map bc).sum
theorem p_(bc:Nat->Int){a b:Nat}(h:a<=b):ia bc a (b+1)=ia bc a b+bc b:=by
 unfold ia;rw[show b+1-a=(b-a)+1 by omega,ae2,adD,aeC];simp
 congr 1;omega
theorem tz(bc:Nat->Int)(a:Nat):ia bc a a=0:=by simp[ia]
def dV(an:List Int)(bc:Nat->Int)(vs:List (Nat×Nat)):Nat:=vs.foldl (λn v=>n+(cQ (an.drop n) (ia bc v.1 (v.2+1))).1) 0
def ja(an:List Int)(bc:Nat->Int)(seen:Nat->Bool)(s:Nat×Int)(i:Nat):Nat×Int:=
 if seen i=true then(s.1+(cQ (an.drop s.1) (s.2+bc i)).1,(cQ (an.drop s.1) (s.2+bc i)).2)else(s.1,0)
def jv(an:List Int)(bc:Nat->Int)(seen:Nat->Bool)(n:Nat):Nat×Int:=(List.range n).foldl (ja an bc seen) (0,0)
theorem l8(an:List Int)(bc:Nat->Int)(l:List (Nat×Nat))(v:Nat×Nat):dV an bc (l++[v])=dV an bc l+(cQ (an.drop (dV an bc l)) (ia bc v.1 (v.2+1))).1:=by
 unfold dV;rw[adL];rfl
def wD(an:List Int)(bc:Nat->Int)(s:Nat×List (Nat×Nat))(n:Nat):Nat×Int:=
 if s.1<n then(dV an bc s.2+(cQ (an.drop (dV an bc s.2)) (ia bc s.1 n)).1,(cQ (an.drop (dV an bc s.2)) (ia bc s.1 n)).2)else(dV an bc s.2,0)
theorem EK(an:List Int){bc:Nat->Int}(hr:∀i,0<=bc i)(seen:Nat->Bool)(s:Nat×List (Nat×Nat)){n:Nat}(hle:s.1<=n):ja an bc seen (wD an bc s n) n=wD an bc (du seen s n) (n+1):=by
 cases hs:seen n with
 |true=>
  have e1:du seen s n=s:=by simp[du,hs]
  rw[e1];unfold ja wD;rw[if_pos hs,if_pos (by omega:s.1<n+1),p_ bc hle]
  by_cases au:s.1<n
  .rw[if_pos au];simp only;rw[Dc _ (ia bc s.1 n) (bc n) (hr n),afb]
   ext<;>simp<;>omega
  .have:s.1=n:=by omega
   rw[if_neg au,this,tz]
 |false=>
  have e1:du seen s n=(n+1,if s.1<n then s.2++[(s.1,n-1)]else s.2):=by simp[du,hs]
  rw[e1];unfold ja wD;rw[if_neg (by simp[hs])];simp only[agl,adz]
  by_cases au:s.1<n
  .rw[if_pos au,if_pos au,l8];simp only;rw[show n-1+1=n by omega]
  .rw[if_neg au,if_neg au]
theorem yW(an:List Int){bc:Nat->Int}(hr:∀i,0<=bc i)(seen:Nat->Bool):∀n,jv an bc seen n=wD an bc ((List.range n).foldl (du seen) (0,[])) n
 |0=>by simp[jv,dV,wD]
 |n+1=>by
  have e1:jv an bc seen (n+1)=ja an bc seen (jv an bc seen n) n:=by
   unfold jv;rw[adY,adL];rfl
  have e2:(List.range (n+1)).foldl (du seen) (0,[])=du seen ((List.range n).foldl (du seen) (0,[])) n:=by
   rw[adY,adL];rfl
  rw[e1,e2,yW an hr seen n];exact EK an hr seen _ (nt seen n).1
theorem uW{an:List Int}{bc:Nat->Int}(hr:∀i,0<=bc i){seen:Nat->Bool}{n:Nat}(hn:seen n=false):dV an bc (eh seen n)=(jv an bc seen n).1:=by
 have h:=yW an hr seen (n+1);have hv:=nt seen (n+1)
 have h2:¬((List.range (n+1)).foldl (du seen) (0,[])).1<n+1:=λhl=>by
  have:=(hv.2.1.1 hl).2;rw[aeL,hn]at this;cases this
 unfold wD at h;rw[if_neg h2]at h
 have e:jv an bc seen (n+1)=ja an bc seen (jv an bc seen n) n:=by
  unfold jv;rw[adY,adL];rfl
 rw[e]at h;unfold ja at h;rw[if_neg (by simp[hn])]at h;exact(congrArg Prod.fst h).symm
def te(a b:Nat×Int):Prop:=a.1<b.1\/(a.1=b.1/\a.2<=b.2)
theorem yJ:∀(la lb:List Int)(ta tb:Int),la.length=lb.length->(∀j (h:j<la.length)(h':j<lb.length),lb[j]<=la[j])->ta<=tb->te (cQ la ta) (cQ lb tb)
 |[],[],ta,tb,_,_,ht=>.inr ⟨rfl,ht⟩
 |[],_::_,_,_,h,_,_=>by simp at h
 |_::_,[],_,_,h,_,_=>by simp at h
 |x::la,y::lb,ta,tb,hl,h,ht=>by
  have h0:=h 0 (by simp) (by simp);simp only[List.getElem_cons_zero]at h0
  by_cases hx:x<=ta
  .have e1:cQ (x::la) ta=((cQ la (ta-x)).1+1,(cQ la (ta-x)).2):=by rw[cQ];rw[if_pos hx]
   have e2:cQ (y::lb) tb=((cQ lb (tb-y)).1+1,(cQ lb (tb-y)).2):=by rw[cQ];rw[if_pos (by omega)]
   rw[e1,e2]
   rcases yJ la lb (ta-x) (tb-y) (by simpa using hl) (λj hj dY=>h (j+1) (afX hj) (afX dY)) (by omega)with hm|⟨hm,RP⟩
   .exact .inl (by simp only;omega)
   .exact .inr ⟨by simp only;omega,RP⟩
  .have e1:cQ (x::la) ta=(0,ta):=by rw[cQ];rw[if_neg hx]
   rw[e1]
   by_cases hy:y<=tb
   .have e2:cQ (y::lb) tb=((cQ lb (tb-y)).1+1,(cQ lb (tb-y)).2):=by rw[cQ];rw[if_pos hy]
    rw[e2];exact .inl (by simp)
   .have e2:cQ (y::lb) tb=(0,tb):=by rw[cQ];rw[if_neg hy]
    rw[e2];exact .inr ⟨rfl,ht⟩
structure Calm(an:List Int)(s:Nat×Int):Prop where
 left:0<=s.2
 next:∀x,an[s.1]?=some x->s.2<x
theorem uA{an:List Int}(hp:∀x∈an,0<x){bc:Nat->Int}(hr:∀i,0<=bc i)(seen:Nat->Bool){s:Nat×Int}(h:Calm an s)(i:Nat):Calm an (ja an bc seen s i):=by
 unfold ja;split
 .refine⟨tV _ _ (by have:=h.left;have:=hr i;omega),λx hx=>?_⟩;refine zE (an.drop s.1) (s.2+bc i) x ?_;rw[afr];exact hx
 .exact⟨aeE _,λx hx=>hp x (aet hx)⟩
theorem Dm {na nb:List Int} (hl:na.length=nb.length) (hn:∀ j (h:j < na.length) (h':j < nb.length),nb[j]≤na[j]) (hp:∀ x∈nb,0 < x) {ra rb:Nat→Int} (Cc:∀ i,0≤ra i) {sa sb:Nat→Bool} {i:Nat} (hs:sa i=true→sb i=true) (hr:sa i=true→ra i≤rb i) (px:∀ i,0≤rb i)
  {a b:Nat×Int} (ha:Calm na a) (hb:Calm nb b) (h:te a b):te (ja na ra sa a i) (ja nb rb sb b i):=by
 have JN:∀x∈na,0<x:=λx hx=>by
  obtain⟨j,hj,rfl⟩:=adG hx;have:=hn j hj (by omega);have:=hp _ (ada (by omega:j<nb.length));omega
 have lift:∀k ta tb,ta<=tb->te (k+(cQ (na.drop k) ta).1,(cQ (na.drop k) ta).2) (k+(cQ (nb.drop k) tb).1,(cQ (nb.drop k) tb).2):=λk ta tb ht=>by
  rcases yJ (na.drop k) (nb.drop k) ta tb (by simp;omega) (λj hj dY=>by simpa using hn (k+j) (by simp at hj;omega) (by simp at dY;omega)) ht with hm|⟨hm,RP⟩
  .exact .inl (by simp only;omega)
  .exact .inr ⟨by simp only;omega,RP⟩
 have hla:=ha.left;have Ui:=hb.left;have acm:=Cc i;have ab2:=px i;unfold ja
 cases ZE:sa i with
 |false=>
  simp only[adl,adz];split
  .have:=tV (nb.drop b.1) (b.2+rb i) (by omega)
   rcases h with h|⟨h,_⟩
   .exact .inl (by simp only;omega)
   .by_cases h0:(cQ (nb.drop b.1) (b.2+rb i)).1=0
    .exact .inr ⟨by simp only;omega,this⟩
    .exact .inl (by simp only;omega)
  .rcases h with h|⟨h,_⟩
   .exact .inl h
   .exact .inr ⟨h,aeE _⟩
 |true=>
  have hr:=hr ZE;rw[if_pos rfl,if_pos (hs ZE)]
  rcases h with h|⟨h1,h2⟩
  .by_cases hk:b.1-a.1<=(cQ (na.drop a.1) (a.2+ra i)).1
   .rw[pR (na.drop a.1) (a.2+ra i) (b.1-a.1) hk,afb,show a.1+(b.1-a.1)=b.1 by omega];simp only;rw[show a.1+(b.1-a.1+(cQ (na.drop b.1) (a.2+ra i-((na.drop a.1).take (b.1-a.1)).sum)).1)=b.1+(cQ (na.drop b.1) (a.2+ra i-((na.drop a.1).take (b.1-a.1)).sum)).1 by omega];refine lift b.1 _ _ ?_
    have au:a.1<na.length:=by
     have:=oA (na.drop a.1) (a.2+ra i);rw[ad8]at this;omega
    have Pc:=ha.next na[a.1] (ac_ au)
    have uR:na[a.1]<=((na.drop a.1).take (b.1-a.1)).sum:=by
     rw[aek au,show b.1-a.1=(b.1-a.1-1)+1 by omega,List.take_succ_cons,List.sum_cons]
     have:0<=(((na.drop (a.1+1)).take (b.1-a.1-1))).sum:=by
      have gf:∀l:List Int,(∀x∈l,0<x)->0<=l.sum:=by
       intro l
       induction l with
       |nil=>simp
       |cons x l ih=>
        intro hx;have:=hx x (by simp)
        have:=ih λy hy=>hx y (ado _ hy)
        simp;omega
      exact gf _ λx hx=>JN x (ae3 (aeg hx))
     omega
    omega
   .exact .inl (by simp only;omega)
  .rw[h1];exact lift b.1 _ _ (by omega)
theorem uj{na nb:List Int}(hl:na.length=nb.length)(hn:∀j (h:j<na.length)(h':j<nb.length),nb[j]<=na[j])(hp:∀x∈nb,0<x){ra rb:Nat->Int}(Cc:∀i,0<=ra i)(px:∀i,0<=rb i){sa sb:Nat->Bool}:∀n,(∀i,i<n->sa i=true->sb i=true/\ra i<=rb i)->te (jv na ra sa n) (jv nb rb sb n)/\Calm na (jv na ra sa n)/\Calm nb (jv nb rb sb n)
 |0,_=>by
  have JN:∀x∈na,0<x:=λx hx=>by
   obtain⟨j,hj,rfl⟩:=adG hx;have:=hn j hj (by omega);have:=hp _ (ada (by omega:j<nb.length));omega
  exact⟨.inr ⟨rfl,aeE _⟩,⟨aeE _,λx hx=>JN x (aet hx)⟩,⟨aeE _,λx hx=>hp x (aet hx)⟩⟩
 |n+1,h=>by
  obtain⟨h1,h2,h3⟩:=uj hl hn hp Cc px n (λi hi=>h i (by omega))
  have JN:∀x∈na,0<x:=λx hx=>by
   obtain⟨j,hj,rfl⟩:=adG hx;have:=hn j hj (by omega);have:=hp _ (ada (by omega:j<nb.length));omega
  have e:∀(q:List Int)(r:Nat->Int)(s:Nat->Bool),jv q r s (n+1)=ja q r s (jv q r s n) n:=λq r s=>by
   unfold jv;rw[adY,adL];rfl
  rw[e,e];exact⟨Dm hl hn hp Cc (λhs=>(h n (by omega) hs).1) (λhs=>(h n (by omega) hs).2) px h2 h3 h1,uA JN Cc sa h2 n,uA hp px sb h3 n⟩
theorem EV {na nb:List Int} (hl:na.length=nb.length) (hn:∀ j (h:j < na.length) (h':j < nb.length),nb[j]≤na[j]) (hp:∀ x∈nb,0 < x) {ra rb:Nat→Int} (Cc:∀ i,0≤ra i) (px:∀ i,0≤rb i) {sa sb:Nat→Bool} {n:Nat} (ha:sa n=false) (hb:sb n=false)
  (h:∀i,i<n->sa i=true->sb i=true/\ra i<=rb i):dV na ra (eh sa n)<=dV nb rb (eh sb n):=by
 rw[uW Cc ha,uW px hb]
 rcases(uj hl hn hp Cc px n h).1 with h|⟨h,_⟩
 .omega
 .omega
theorem BX (seen:Nat→Bool) (n:Nat) :
  (∀v∈((List.range n).foldl (du seen) (0,[])).2,v.1<=v.2/\v.2+2<=((List.range n).foldl (du seen) (0,[])).1)/\(((List.range n).foldl (du seen) (0,[])).2).Pairwise (λu v=>u.2+1<v.1)/\
   ∀c,c<n->(seen c=true↔(∃v∈((List.range n).foldl (du seen) (0,[])).2,v.1<=c/\c<=v.2)\/((List.range n).foldl (du seen) (0,[])).1<=c):=by
 induction n with
 |zero=>simp
 |succ n ih=>
  have hle:=(nt seen n).1;rw[adY,adL]
  generalize(List.range n).foldl (du seen) (0,[])=s at*
  simp only[List.foldl_cons,List.foldl_nil];obtain⟨h1,h2,h3⟩:=ih
  cases hs:seen n with
  |true=>
   have e1:du seen s n=s:=by simp[du,hs]
   rw[e1];refine⟨h1,h2,λc hc=>?_⟩
   by_cases Mt:c=n
   .subst Mt;exact⟨λ_=>.inr hle,λ_=>hs⟩
   .exact h3 c (by omega)
  |false=>
   have e1:du seen s n=(n+1,if s.1<n then s.2++[(s.1,n-1)]else s.2):=by simp[du,hs]
   rw[e1];simp only
   by_cases au:s.1<n
   .rw[if_pos au];refine⟨λv hv=>?_,?_,λc hc=>?_⟩
    .rcases adm.1 hv with hv|hv
     .have:=h1 v hv;omega
     .simp only[ady]at hv;subst hv;simp only;omega
    .rw[ae4];refine⟨h2,by simp,λu hu v hv=>?_⟩;simp only[ady]at hv;subst hv;have:=h1 u hu;simp only;omega
    .by_cases Mt:c=n
     .subst Mt;rw[hs];refine⟨λh=>by(cases h),λh=>?_⟩;rcases h with⟨v,hv,iS,ic⟩|h
      .rcases adm.1 hv with hv|hv
       .have:=h1 v hv;omega
       .simp only[ady]at hv;subst hv;simp only at ic;omega
      .omega
     .rw[h3 c (by omega)];refine⟨λh=>.inl ?_,λh=>?_⟩
      .rcases h with⟨v,hv,hvc⟩|h
       .exact⟨v,aeu _ hv,hvc⟩
       .exact⟨(s.1,n-1),by simp,h,by simp only;omega⟩
      .rcases h with⟨v,hv,iS,ic⟩|h
       .rcases adm.1 hv with hv|hv
        .exact .inl ⟨v,hv,iS,ic⟩
        .simp only[ady]at hv;subst hv;exact .inr iS
       .omega
   .rw[if_neg au];refine⟨λv hv=>?_,h2,λc hc=>?_⟩
    .have:=h1 v hv;omega
    .by_cases Mt:c=n
     .subst Mt;rw[hs];refine⟨λh=>by(cases h),λh=>?_⟩;rcases h with⟨v,hv,iS,ic⟩|h
      .have:=h1 v hv;omega
      .omega
     .rw[h3 c (by omega)];refine⟨λh=>?_,λh=>?_⟩
      .rcases h with h|h
       .exact .inl h
       .omega
      .rcases h with h|h
       .exact .inl h
       .omega
theorem vV{seen:Nat->Bool}{n:Nat}(hn:seen n=false):(∀v∈eh seen n,v.1<=v.2/\v.2<n)/\(eh seen n).Pairwise (λu v=>u.2+1<v.1)/\∀c,c<n->(seen c=true↔∃v∈eh seen n,v.1<=c/\c<=v.2):=by
 obtain⟨h1,h2,h3⟩:=BX seen (n+1);have hv:=nt seen (n+1)
 have h4:¬((List.range (n+1)).foldl (du seen) (0,[])).1<n+1:=λhl=>by
  have:=(hv.2.1.1 hl).2;rw[aeL,hn]at this;cases this
 have h5:=hv.1;unfold eh
 generalize(List.range (n+1)).foldl (du seen) (0,[])=s at*
 refine⟨λv hv=>?_,h2,λc hc=>?_⟩
 .have:=h1 v hv;omega
 .rw[h3 c (by omega)];refine⟨λh=>?_,λh=>.inl h⟩;rcases h with h|h
  .exact h
  .omega
theorem qp(an:List Int)(bc:Nat->Int)(vs:List (Nat×Nat)):dV an bc vs<=an.length:=by
 have main:∀(r:List (Nat×Nat)),dV an bc r.reverse<=an.length:=by
  intro r
  induction r with
  |nil=>simp[dV]
  |cons v r ih=>
   rw[List.reverse_cons,l8];have:=oA (an.drop (dV an bc r.reverse)) (ia bc v.1 (v.2+1));rw[ad8]at this;omega
 have:=main vs.reverse;rwa [List.reverse_reverse]at this
structure AF(f:Nat->Nat)(m a w:Nat):Prop where
 place:1<=a/\a<=m
 words:w=f a
 most:∀n,1<=n->n<=m->f n<=w/\(f n=w->a<=n)
theorem AF.unique{f:Nat->Nat}{m a w a' w':Nat}(h:AF f m a w)(h':AF f m a' w'):a=a'/\w=w':=by
 have h1:=h.most a' h'.place.1 h'.place.2;have h2:=h'.most a h.place.1 h.place.2;have e1:=h.words;have e2:=h'.words
 have hw:w=w':=by omega
 have:=h1.2 (by omega);have:=h2.2 (by omega);exact⟨by omega,hw⟩
def nH(x:Nat×Nat)(l:List (Nat×Nat)):Nat×Nat:=l.foldl (λo y=>if o.2<y.2 then y else o) x
def fT(f:Nat->Nat)(a m:Nat):List (Nat×Nat):=(List.range' a m).map λn=>(n,f n)
def mw(p:Nat->Bool)(k n:Nat):Prop:=n<=k/\(∀x,x<n->p x=false)/\(n<k->p n=true)
theorem mw.unique{p:Nat->Bool}{k m n:Nat}(h:mw p k m)(h':mw p k n):m=n:=by
 rcases Nat.lt_trichotomy m n with au|rfl|au
 .have h1:=h.2.2 (by have:=h'.1;omega);have h2:=h'.2.1 m au;rw[h1]at h2;cases h2
 .rfl
 .have h1:=h'.2.2 (by have:=h.1;omega);have h2:=h.2.1 n au;rw[h1]at h2;cases h2
theorem Pq{p:Nat->Bool}(hm:∀x y,x<=y->p x=true->p y=true){i j:Nat}(pK:i<j)(sj:∀x,x<i->p x=false):i<=(i+j)/2/\(i+j)/2<j/\(p ((i+j)/2)=false->∀x,x<(i+j)/2+1->p x=false):=by
 refine⟨by omega,by omega,λh x hx=>?_⟩
 cases hp:p x with
 |false=>rfl
 |true=>
  have:=hm x _ (by omega:x<=(i+j)/2) hp;rw[h]at this;cases this
structure Aj(p:Nat->Nat->Bool)(m c t:Nat):Prop where
 cell:c<m
 RJ:p c t=true
 less:∀c' n,c'<m->p c' n=true->t<=n/\(n=t->c<=c')
theorem Aj.unique{p:Nat->Nat->Bool}{m c t c' t':Nat}(h:Aj p m c t)(h':Aj p m c' t'):c=c'/\t=t':=by
 have h1:=h.less c' t' h'.cell h'.RJ;have h2:=h'.less c t h.cell h.RJ
 have ht:t=t':=by omega
 subst ht;have:=h1.2 rfl;have:=h2.2 rfl;exact⟨by omega,rfl⟩
def nI(x:Nat×Nat)(l:List (Nat×Nat)):Nat×Nat:=l.foldl (λo y=>if y.2<o.2 then y else o) x
def fb(f:Nat->Nat)(most:Nat)(m:Nat):List (Nat×Nat):=(List.range m).filterMap λi=>if f i<=most then some (i,f i)else none
theorem z_(f:Nat->Nat)(most m:Nat):fb f most (m+1)=fb f most m++(if f m<=most then[(m,f m)]else[]):=by
 unfold fb;rw[adY,List.filterMap_append]
 congr 1
 by_cases h:f m<=most<;>simp[h]
theorem Dh{f:Nat->Nat}{most m:Nat}{x:Nat×Nat}:x∈fb f most m↔x.1<m/\x.2=f x.1/\f x.1<=most:=by
 unfold fb;rw[aft]
 constructor
 .rintro⟨i,hi,he⟩;split at he
  .cases he;exact⟨adF.1 hi,rfl,by assumption⟩
  .cases he
 .rintro⟨h1,h2,h3⟩;refine⟨x.1,adF.2 h1,?_⟩;rw[if_pos h3,<-h2]
theorem E4{p:Nat->Nat->Bool}{f:Nat->Nat}{most m:Nat}(hf:∀i,i<m->mw (p i) (most+1) (f i)){c n:Nat}(hc:c<m)(hn:n<=most)(hp:p c n=true):∃x l,fb f most m=x::l:=by
 cases hs:fb f most m with
 |cons x l=>exact⟨x,l,rfl⟩
 |nil=>
  have hle:f c<=n:=by
   rcases ae1 n (f c)with h|h
   .have:=(hf c hc).2.1 n h;rw[hp]at this;cases this
   .exact h
  have:(c,f c)∈fb f most m:=Dh.2 ⟨hc,rfl,by show f c<=most;omega⟩;rw[hs]at this;cases this
theorem j4:∀{l:List Int},(∀x∈l,0<x)->0<=l.sum
 |[],_=>by simp
 |x::l,h=>by
  have:=h x (by simp)
  have:=j4 (l:=l) λy hy=>h y (ado _ hy)
  simp only[List.sum_cons];omega
theorem Dq:∀{l:List Int}{t:Int},(∀x∈l,0<x)->0<=t->((cQ l t).1=l.length↔l.sum<=t)
 |[],t,_,ht=>by simp[cQ,ht]
 |x::l,t,h,ht=>by
  have h0:=h x (by simp)
  have hl:=λy hy=>h y (ado _ hy)
  have hs:=j4 hl
  by_cases hx:x<=t
  .have e:cQ (x::l) t=((cQ l (t-x)).1+1,(cQ l (t-x)).2):=by rw[cQ];rw[if_pos hx]
   rw[e];have:=Dq (l:=l) (t:=t-x) hl (by omega);simp only[List.length_cons,List.sum_cons]
   constructor
   .intro h1;have:=this.1 (by omega);omega
   .intro h1;have:=this.2 (by omega);omega
  .have e:cQ (x::l) t=(0,t):=by rw[cQ];rw[if_neg hx]
   rw[e];simp only[List.length_cons,List.sum_cons]
   constructor
   .intro h1;omega
   .intro h1;omega
end Go.Proofs.Tram
namespace Go.Proofs.Tryz
open Go.AL
variable{GI:World->Prop}
theorem cV:prog.follows .mixedOrders=true:=by kernel_rfl
theorem bW{GI:World->Prop}(hG:aw GI){f:Nat}{fn:Func}{c:Code}{args:List AV}{out:eP}{n:Nat}(hf:prog.funcs[f]?=some fn)(hn:fn.ntmps=n)(ac:af)(h:bC prog GI ac (post prog n fn.results.toList out) (AL.start args) (λ_=>none))(hl:args.length<=n:=by simp)(hb:fn.body=some c:=by rfl)(hc:d_ prog n c=ac:=by kernel_rfl):AC prog GI f args out:=AC.KC hG cV hf hb hn hl hc h
theorem Iq (hG:aw GI) (es:List AV) (cP:aJ 1 es=true) (hl:es.length < 1048576) :
  AC prog GI 114 [.slice .view es] (.ret (.slice (if es.isEmpty then .nil else .own 3) es)):=by
 refine bW hG func114 ntmps114 c114 ?_
 cases es with
 |nil=>simp[c114,bC,bn,aF,bg,aH,ev,aQ.S,aQ.H,bz,cU,ar,aT,AL.start,AV.aG,aJ,post,cy,cJ,cK,AV.out,AV.bT]
 |cons x es=>
  have pz:es.length+1<1048576:=hl;simp[c114,bC,bn,aF,bg,aH,ev,aQ.S,aQ.H,bz,cU,ar,aT,AL.start,AV.aG,cP,pz,post,cy,cJ,cK,AV.out,AV.bT]
theorem SQ (hG:aw GI) (es:List AV) (cP:aJ 2 es=true) (hl:es.length < 1048576) :
  AC prog GI 190 [.slice .view es] (.ret (.slice (if es.isEmpty then .nil else .own 46) es)):=by
 refine bW hG func190 ntmps190 c190 ?_
 cases es with
 |nil=>simp[c190,bC,bn,aF,bg,aH,ev,aQ.S,aQ.H,bz,cU,ar,aT,AL.start,AV.aG,aJ,post,cy,cJ,cK,AV.out,AV.bT]
 |cons x es=>
  have pz:es.length+1<1048576:=hl;simp[c190,bC,bn,aF,bg,aH,ev,aQ.S,aQ.H,bz,cU,ar,aT,AL.start,AV.aG,cP,pz,post,cy,cJ,cK,AV.out,AV.bT]
theorem Mj(hG:aw GI)(l:List Int)(n:Int)(hl:l.length<1048576):AC prog GI 85 [vI l,int n] (.ret (.bool (l.contains n))):=by
 refine bW hG func85 ntmps85 c85 ?_;simp only[c85,bu,bC,bn,aF,bg,aH,ev,aQ.S,aQ.H,bz,cU,db];refine⟨λS H=>∃i:Nat,i<=l.length/\n∉l.take i/\S 0=.slice .view (ints l)/\S 1=.int .i64 n/\S 5=.int .i64 i,λS H=>match S 5 with|.int _ k=>l.length-k.toNat|_=>0,⟨0,by simp[ar,aT,AL.start,vI,int,AV.aG]⟩,?_⟩;rintro S H ⟨i,hi,hn,h0,h1,h5⟩
 by_cases au:i<l.length
 .have hw:IntKind.i64.wrap ((i:Int)+1)=i+1:=aN (by omega)
  by_cases he:l[i]=n
  .simp[ar,aT,h0,h1,h5,AV.aG,dS,cb,dk,au,hw,AV.cells,b0,he,post,cy,cJ,cK,AV.out,AV.bT];rw[<-he];exact ada au
  .have hb:(l[i]==n)=false:=by simp[he]
   simp[ar,aT,h0,h1,h5,AV.aG,dS,cb,dk,au,hw,AV.cells,b0,hb];refine⟨⟨i+1,au,λhm=>?_,by omega⟩,by omega⟩;rw[adj au,adm,ady]at hm;rcases hm with hm|hm
   .exact hn hm
   .exact he hm.symm
 .have:i=l.length:=by omega
  subst this;simp[ar,aT,h0,h1,h5,AV.aG,dS,cb,post,cy,cJ,cK,AV.out,AV.bT];simpa using hn
end Go.Proofs.Tryz
namespace Go.Proofs.Tryz
open Go Go.AL Go.RowKit Go.Proofs Go.Proofs.Tram
abbrev End:=Int×Int
def aX(e:End):AV:=.agg [.int .i64 e.1,.int .i64 e.2]
def aO(l:List End):List AV:=l.map aX
def aL(out:List Int)(es:List End):AV:=.agg [.slice .view (ints out),.slice .view (aO es)]
def lp:List End->List End->Nat->List (List End)
 |_,[],_=>[]
 |now,a::r,m=>(if r=[]then[now++[a]]else match m with|0=>[]|m+1=>lp (now++[a]) r m)++lp now r m
def ch(now l:List End)(m:Nat):List (List End):=if l=[]then[now]else match m with|0=>[]|m+1=>lp now l m
variable{GI:World->Prop}{l:Nat}{xs:List AV}
structure Fx(C:Cons prog GI l xs)(all:List End)(out:List Int)(fA:List AV)(rows:Nat) where
 bN:Nat
 cA:Value
 cY:Value
 cO:Value
 cF:Value
 cR:Value
 MI:Nat->Prop
 wI:World
 bA:Nat
 yv:Value
 Ib:cA=.pointer (some ⟨bA,0,none⟩)
 OI:MI bA/\bA<bN
 hA2:∃ty,wI.heap[bA]?=some (.cells #[yv] ty (0,0))
 hY:RV (λb _=>MI b) cj wI (.ref [.val (.func (.yield l) #[] #[])]) cY
 hR:RV (λb _=>MI b) cj wI (.ref [.val (.func (.func 189) #[] #[cA,cY,cO,.pointer (some ⟨bN,0,none⟩),cF,cR])]) cR
 f9:fA[9]?=some (.int .i64 rows)
variable{C:Cons prog GI l xs}{all:List End}{out:List Int}{fA:List AV}{rows:Nat}
structure St(X:Fx C all out fA rows)(k:Nat)(M:Nat->Prop)(Pr:Nat->Nat->Prop)(es:List End)(w:World):Prop where
 j:C.J k M Pr w
 lt:∀b,M b->b<w.heap.size
 mi:∀b,X.MI b->M b/\b≠X.bN/\w.heap[b]?=X.wI.heap[b]?
 now:∃v ty vn,w.heap[X.bN]?=some (.cells #[v] ty (0,0))/\M X.bN/\w.ownsRow (X.bN+1) 46 2 v es.length vn/\kH (λ_ _=>False) w 2 (aO es) vn/\∀b,v.ownBlock=some b->M b/\¬X.MI b
 f:RV Pr cj w (.ref fA) X.cF
 o:RV Pr cj w (.ref [.slice .view (ints out)]) X.cO
 e:RD (λb k=>b<X.bN/\(X.MI b\/Pr b k)) w (.slice .view (aO all)) X.yv
theorem vJ{MI:Nat->Prop}{bN:Nat}{Pr eR:Nat->Nat->Prop}{w w':World}(hm:∀b,MI b->w'.heap[b]?=w.heap[b]?)(hk:bl Pr eR w w'):bl (λb k=>b<bN/\(MI b\/Pr b k)) (λb k=>b<bN/\(MI b\/eR b k)) w w':={
 cell b k hp u hu:=by
  rcases hp.2 with h|h
  .exact⟨⟨hp.1,.inl h⟩,by rw[afi (w:=w) (hm b h)];exact hu⟩
  .obtain⟨h1,h2⟩:=hk.cell b k h u hu;exact⟨⟨hp.1,.inr h1⟩,h2⟩
 map b hp es c hm':=by
  rcases hp.2 with h|h
  .exact⟨⟨hp.1,.inl h⟩,by rw[hm b h];exact hm'⟩
  .obtain⟨h1,h2⟩:=hk.map b h es c hm'
   exact⟨⟨hp.1,.inr h1⟩,h2⟩ }
theorem St.Q5{X:Fx C all out fA rows}{k:Nat}{M:Nat->Prop}{Pr:Nat->Nat->Prop}{es:List End}{w:World}(s:St X k M Pr es w):RV (λb k=>b<X.bN/\(X.MI b\/Pr b k)) cj w (.ref [.slice .view (aO all)]) X.cA:=by
 obtain⟨ty,h2⟩:=X.hA2;rw[X.Ib];have hb:w.heap[X.bA]?=some (.cells #[X.yv] ty (0,0)):=(s.mi _ X.OI.1).2.2.trans h2;refine .data _ _ (.ref _ _ _ (λ_=>X.yv) (λi hi=>?_) (λk hk=>⟨⟨X.OI.2,.inl X.OI.1⟩,?_⟩) (λk hk=>?_))
 .have:i=0:=by simpa using hi
  subst this;rfl
 .have:k=0:=by simpa using hk
  subst this;simp[World.cell?,hb]
 .have:k=0:=by simpa using hk
  subst this;exact s.e
structure Fr(X:Fx C all out fA rows)(n:Int)(a:Act):Prop where
 size:a.tmps.size=53
 defers:a.defers=[]
 t0:a.tmps.getD 0 undef=.int .i64 n
 t1:a.tmps.getD 1 undef=X.cA
 t2:a.tmps.getD 2 undef=X.cY
 t3:a.tmps.getD 3 undef=X.cO
 t4:a.tmps.getD 4 undef=.pointer (some ⟨X.bN,0,none⟩)
 t5:a.tmps.getD 5 undef=X.cF
 t6:a.tmps.getD 6 undef=X.cR
def fR(l:Nat)(all es:List End)(out:List Int)(fA:List AV)(fv:Value)(n:Int)(v9:AV):av:=λt=>match t with
 |0=>.int .i64 n
 |1=>.ref [.slice .view (aO all)]
 |2=>.ref [.val (.func (.yield l) #[] #[])]
 |3=>.ref [.slice .view (ints out)]
 |4=>.ref [.slice .view (aO es)]
 |5=>.ref fA
 |6=>.ref [.val fv]
 |9=>v9
 |_=>.br
def Fx.fv(X:Fx C all out fA rows):Value:=.func (.func 189) #[] #[X.cA,X.cY,X.cO,.pointer (some ⟨X.bN,0,none⟩),X.cF,X.cR]
theorem St.eW {X:Fx C all out fA rows} {k:Nat} {M:Nat→Prop} {Pr:Nat→Nat→Prop} {es:List End} {w:World} (s:St X k M Pr es w) {n:Int} {a:Act} (fr:Fr X n a) {v9:AV} (h9:v9.aG=v9∧RV (fun _ _=>True) cj w v9 (a.tmps.getD 9 undef)) :
  ∀t,t<53->(fR l all es out fA X.fv n v9 t).aG=fR l all es out fA X.fv n v9 t/\RV (λ_ _=>True) cj w (fR l all es out fA X.fv n v9 t) (a.tmps.getD t undef):=by
 intro t ht
 have hmi:∀{P':Nat->Nat->Prop},(∀b k,P' b k->X.MI b)->bl P' (λ_ _=>True) X.wI w:=λh=>bl.of_eq λb k hp=>⟨trivial,(s.mi b (h b k hp)).2.2⟩
 unfold fR;split
 .rw[fr.t0];exact⟨rfl,.data _ _ (.int _ _)⟩
 .rw[fr.t1];exact⟨rfl,s.Q5.mono (bl.same λ_ _ _ _=>trivial) λ_ _ h=>h⟩
 .rw[fr.t2];exact⟨rfl,X.hY.mono (hmi λb k h=>h) λ_ _ h=>h⟩
 .rw[fr.t3];exact⟨rfl,s.o.mono (bl.same λ_ _ _ _=>trivial) λ_ _ h=>h⟩
 .rw[fr.t4];obtain⟨v,ty,vn,h1,h2,h3,h4,h5⟩:=s.now;refine⟨rfl,.data _ _ (.ref _ _ _ (λ_=>v) (λi hi=>?_) (λk hk=>⟨trivial,?_⟩) (λk hk=>?_))⟩
  .have:i=0:=by simpa using hi
   subst this;rfl
  .have:k=0:=by simpa using hk
   subst this;simp[World.cell?,h1]
  .have:k=0:=by simpa using hk
   subst this
   exact RD.ofRow (size:=2) (es:=aO es) (by simpa[aO]using h3) (h4.mono (bl.same λ_ _ _ h=>h.elim)) λ_ _ _ _=>trivial
 .rw[fr.t5];exact⟨rfl,s.f.mono (bl.same λ_ _ _ _=>trivial) λ_ _ h=>h⟩
 .rw[fr.t6];exact⟨rfl,X.hR.mono (hmi λb k h=>h) λ_ _ h=>h⟩
 .exact h9
 .exact⟨rfl,.br _⟩
theorem St.grow{X:Fx C all out fA rows}{k:Nat}{M:Nat->Prop}{Pr:Nat->Nat->Prop}{es:List End}{w w':World}(s:St X k M Pr es w)(hb:Below w.heap.size w w'):St X k M Pr es w':=by
 have hM:=s.lt
 have bb:∀b,M b->w'.heap[b]?=w.heap[b]?:=λb h=>hb.block b (hM b h)
 have hk:bl Pr Pr w w':=bl.iY (λb h=>hb.block b h) λ_ _ _ h=>h
 obtain⟨v,ty,vn,h1,h2,h3,h4,h5⟩:=s.now;refine⟨C.dE s.j (mV.sf hb) λb h=>⟨adU (hM b h) hb.size,.inl h⟩,λb h=>adU (hM b h) hb.size,λb h=>⟨(s.mi b h).1,(s.mi b h).2.1,(bb b (s.mi b h).1).trans (s.mi b h).2.2⟩,⟨v,ty,vn,(bb _ h2).trans h1,h2,?_,h4.mono (bl.of_eq λ_ _ h=>h.elim),h5⟩,s.f.mono hk λ_ _ h=>h,s.o.mono hk λ_ _ h=>h,s.e.mono (vJ (λb h=>bb b (s.mi b h).1) hk)⟩;refine⟨h3.1,?_⟩
 rcases h3.2 with h|⟨gg,cap,cur,rfl,qL,Ah,rest⟩
 .exact .inl h
 .exact .inr ⟨gg,cap,cur,rfl,qL,(bb gg (h5 gg rfl).1).trans Ah,rest⟩
def _root_.Go.AL.af.qa:af->af
 |.seq x _=>x
 |.cond _ x _=>x
 |c=>c
def _root_.Go.AL.af.qb:af->af
 |.seq _ y=>y
 |.cond _ _ y=>y
 |.block _ c=>c
 |.loop c=>c
 |c=>c
def _root_.Go.AL.af.dl:af->List cC
 |.dc l|.ops l=>l
 |_=>[]
def yj:Nat->Bool:=λt=>decide (36<=t)
def W7:Nat->Bool:=λt=>decide (7<=t)
noncomputable def rq:af:=af.qb c189.qb.qb.qa.qb.qb
theorem Fr.step{X:Fx C all out fA rows}{n:Int}{a a':Act}(fr:Fr X n a)(bq:a'.tmps.size=53)(dZ:a'.defers=[])(h:eL W7 a a'):Fr X n a':=
 ⟨bq,dZ,(h 0 rfl).trans fr.t0,(h 1 rfl).trans fr.t1,(h 2 rfl).trans fr.t2,(h 3 rfl).trans fr.t3,(h 4 rfl).trans fr.t4,(h 5 rfl).trans fr.t5,(h 6 rfl).trans fr.t6⟩
theorem bV(args:Array Value)(k t:Nat)(h:t<args.size):(args++Array.replicate k undef).getD t undef=args[t]:=by
 simp[afu,h]
theorem lj(l:List Int):aJ 1 (ints l)=true:=by
 simp[aJ,ints,AV.storable,AV.cells]
theorem qj(l:List End):aJ 2 (aO l)=true:=by
 simp[aJ,aO,aX,AV.storable,AV.cells]
theorem qz(es:List End):∀x∈aO es,x.cells.length=2/\x.storable=true/\∀c∈x.cells,c.one=true:=by
 intro x hx;obtain⟨e,_,rfl⟩:=adx.1 hx;refine⟨rfl,rfl,λc hc=>?_⟩;simp[aX,AV.cells]at hc
 rcases hc with rfl|rfl<;>rfl
theorem wv(es:List End):∀x∈aO es,∀c∈x.cells,iC c=true:=by
 intro x hx c hc;obtain⟨e,_,rfl⟩:=adx.1 hx;simp[aX,AV.cells]at hc
 rcases hc with rfl|rfl<;>rfl
theorem bp{P:Program}{t:TypeId}{s:Nat}(h:(P.info? t).map (·.size)=some s):∃i,P.info? t=some i/\i.size=s:=by
 cases hi:P.info? t with
 |none=>rw[hi]at h;cases h
 |some i=>rw[hi]at h;exact⟨i,rfl,adw h⟩
theorem nA {P:Program} {a:Act} {o:Oper} {cl:Call} {f x:Operand} {l:Nat} (w:World) (ho:o.op = .call cl) (hc:cl.callee = .value f) (ha:cl.args = #[x]) (hf:a.eval f = .func (.yield l) #[] #[]) :
  (execOp a.eval o).run P w=(Instr.yield l #[a.eval x]).run P w:=by
 unfold execOp;simp[ho,eU hc,hf,Deferred.ofValue,invoke,ha]
theorem o7 {P:Program} {a:Act} {o:Oper} {cl:Call} {f x:Operand} {k:Nat} {cap:Array Value} (w:World) (ho:o.op = .call cl) (hc:cl.callee = .value f) (ha:cl.args = #[x]) (hf:a.eval f = .func (.func k) #[] cap) (hk:dX P k=true) :
  (execOp a.eval o).run P w=.ok (.enter k (#[a.eval x]++cap)) w:=by
 unfold execOp;simp[ho,eU hc,hf,Deferred.ofValue,invoke,ha,gy hk]
theorem HC{P:Program}{a:Act}{o:Oper}{x:Operand}{t:TypeId}{b:Bool}(w:World)(ho:o.op=.unOp .not t x)(hx:a.eval x=.bool b):(execOp a.eval o).run P w=.ok (.value (.bool !b)) w:=by
 unfold execOp;simp[ho,hx,Op.unary]
theorem eL.weaken{W W':Nat->Bool}{a a':Act}(h:eL W a a')(hw:∀t,W' t=false->W t=false):eL W' a a':=λt ht=>h t (hw t ht)
theorem af7{P:Program}{fn:Func}{tmps:Array Value}{t:Tmp}{v:Value}{w:World}(hr:fn.results=#[.tmp t])(h:tmps.getD t undef=v):(results fn tmps).run P w=.ok v w:=by
 rw[<-h];simp[results,hr]
theorem run_assign{P:Program}{a:Act}{o:Oper}{x:Operand}(w:World)(ho:o.op=.assign x):(execOp a.eval o).run P w=.ok (.value (a.eval x)) w:=by
 unfold execOp;simp only[ho]
 rfl
theorem St.after {X:Fx C all out fA rows} {k k':Nat} {M G:Nat→Prop} {Pr eR:Nat→Nat→Prop} {es:List End} {w w':World} (s:St X k M Pr es w) (hj:C.J k' (fun b=>(M b∨G b)∧¬ G b) eR w') (hG:∀ b,G b→¬ M b)
  (hs:∀b,M b\/G b->¬G b->w'.heap[b]?=w.heap[b]?) (hk:bl Pr eR w w'):St X k' (λb=>(M b\/G b)/\¬G b) eR es w':=by
 have Jv:∀b,M b->¬G b:=λb hb hg=>hG b hg hb
 have bb:∀b,M b->w'.heap[b]?=w.heap[b]?:=λb hb=>hs b (.inl hb) (Jv b hb)
 obtain⟨v,ty,vn,h1,h2,h3,h4,h5⟩:=s.now;refine⟨hj,λb hb=>?_,λb h=>⟨⟨.inl (s.mi b h).1,Jv b (s.mi b h).1⟩,(s.mi b h).2.1,(bb b (s.mi b h).1).trans (s.mi b h).2.2⟩,⟨v,ty,vn,(bb _ h2).trans h1,⟨.inl h2,Jv _ h2⟩,?_,h4.mono (bl.of_eq λ_ _ h=>h.elim),λb hb=>⟨⟨.inl (h5 b hb).1,Jv b (h5 b hb).1⟩,(h5 b hb).2⟩⟩,s.f.mono hk λ_ _ h=>h,s.o.mono hk λ_ _ h=>h,s.e.mono (vJ (λb h=>bb b (s.mi b h).1) hk)⟩
 .have uX:M b:=hb.1.resolve_right hb.2;have:=s.lt b uX;have h2:=bb b uX;rw[aej this]at h2;exact(ade.1 h2).1
 .refine⟨h3.1,?_⟩
  rcases h3.2 with h|⟨gg,cap,cur,rfl,qL,Ah,rest⟩
  .exact .inl h
  .exact .inr ⟨gg,cap,cur,rfl,qL,(bb gg (h5 gg rfl).1).trans Ah,rest⟩
theorem xY {P:Program} {ρ:Operand→Value} {o:Oper} {t:TypeId} {ps:Array (Nat×Operand)} (ho:o.op = .build t ps) (w:World) (N:Value→Prop)
  (h:∀v w',(execOp ρ o).run P w=.ok (.value v) w'->N v):match(execOp ρ o).run P w with|.ok (.value v) _=>N v|.ok _ _=>False|.halt _ _=>True:=by
 have key:∀r,(execOp ρ o).run P w=r->match r with|.ok (.value v) _=>N v|.ok _ _=>False|.halt _ _=>True:=by
  intro r hr;have h0:=hr;unfold execOp at hr;simp only[ho,ads]at hr
  cases hb:(Instr.build t (ps.map λ(i,x)=>(i,ρ x))).run P w with
  |ok v w'=>
   rw[hb]at hr
   have:r=.ok (.value v) w':=by rw[<-hr];rfl
   subst this;exact h v w' h0
  |halt x w'=>
   rw[hb]at hr
   have:r=.halt x w':=by rw[<-hr];rfl
   subst this;trivial
 exact key _ rfl
theorem qW{c:Value}(h:c.oneCell'=true):c.cells=#[c]:=by cases c<;>first|rfl|cases h
theorem Ki{u v:Value}(hu:u.oneCell'=true)(hv:v.oneCell'=true):prog.built 39 [(0,u),(1,v)]=some #[u,v]:=by
 have e:∀u v:Value,prog.built 39 [(0,u),(1,v)]=Instr.fill (λx=>#[(0,1),(1,1)][x]?) #[.slice none 0 0,.slice none 0 0] [(0,u),(1,v)]:=by intro u v;kernel_rfl
 rw[e];simp[Instr.fill,qW hu,qW hv]
theorem Gk(es r:List End)(x:End)(m:Nat):lp es (x::r) m=ch (es++[x]) r m++lp es r m:=by
 cases m<;>rfl
theorem O2(es:List End)(m:Nat):ch es [] m=[es]:=by simp[ch]
theorem Ku (hG:aw GI) (X:Fx C all out fA rows) (fQ:all.length≤1000) (K6:rows≤1000) (fV:out.length≤1000) :
  ∀(d n:Nat)(es:List End)(k:Nat)(M:Nat->Prop)(Pr:Nat->Nat->Prop)(w:World)(tail:List AV),n+d=all.length->es.length<=n->St X k M Pr es w->
   xs.drop k=(ch es (all.drop n) (rows-es.length)).map (aL out)++tail->
   Calls prog 189 #[.int .i64 n,X.cA,X.cY,X.cO,.pointer (some ⟨X.bN,0,none⟩),X.cF,X.cR] w λe w'=>∃M' eR,
    (e=.returned (.bool true)/\St X (k+(ch es (all.drop n) (rows-es.length)).length) M' eR es w')\/(e=.returned (.bool false)/\C.X M' eR w'):=by
 intro d
 induction d using Nat.strongRecOn with
 |_ d ih=>
 intro n es k M Pr w tail fk nU st o_;refine(jw (ro:=none) (m:=0)).1 (afS func189 rfl trivial ?_)
 have fr:Fr X n { tmps:=#[.int .i64 n,X.cA,X.cY,X.cO,.pointer (some ⟨X.bN,0,none⟩),X.cF,X.cR]++Array.replicate (f189.ntmps-7) undef,defers:=[] }:=by
  refine⟨by simp[ntmps189],rfl,bV _ _ 0 (by simp),bV _ _ 1 (by simp),bV _ _ 2 (by simp),bV _ _ 3 (by simp),bV _ _ 4 (by simp),bV _ _ 5 (by simp),bV _ _ 6 (by simp)⟩
 generalize hc:(λe w'=>∃M' eR,(e=Ending.returned (.bool true)/\St X (k+(ch es (all.drop n) (rows-es.length)).length) M' eR es w')\/(e=.returned (.bool false)/\C.X M' eR w'))=R
 have h9:∀(a:Act)(w:World),(AV.br).aG=AV.br/\RV (λ_ _=>True) cj w AV.br (a.tmps.getD 9 undef):=λa w=>⟨rfl,.br _⟩
 refine adk ?_;refine bJ hG cV (ac:=af.qa c189) (W:=W7) (by kernel_rfl) (by kernel_rfl) (by kernel_rfl) (C.gi st.j) (λ_ _=>True) (fR l all es out fA X.fv n .br) fr.size fr.defers (st.eW fr (h9 _ _)) (K:=λ_ _=>True) ?_ ?_
 .simp[c189,af.qa,bC,bn,aF,bg,aH,aM]
 intro g S' H' a w1 hg R1 _ bb;have fr:=fr.step R1.size (by rw[R1.defers,hg];rfl) bb;have st:=st.grow (by have:=R1.below;rwa [R1.base]at this);clear bb R1 hg g S' H';show Code.wpIn _ _ _ _ _ a w1;refine adk (adk ?_);refine bJ hG cV (ac:=af.qa c189.qb.qa) (W:=W7) (by kernel_rfl) (by kernel_rfl) (by kernel_rfl) (C.gi st.j) (λ_ _=>True) (fR l all es out fA X.fv n .br) fr.size fr.defers (st.eW fr (h9 _ _)) (K:=λS' _=>∃b,S' 13=.bool b/\(b=true↔n=all.length)) ?_ ?_
 .simp[c189,af.qa,af.qb,bC,bn,aF,bg,aH,aM,aQ.S,aQ.H,ev,ar,aT,fR,b0,AV.aG,dS,aO];omega
 rintro g S' H' a w2 hg R1 ⟨b,hb,Ic⟩ bb;have fr:=fr.step R1.size (by rw[R1.defers,hg];rfl) bb;have st:=st.grow (by have:=R1.below;rwa [R1.base]at this);have ht:=R1.slot 13 (by decide) (λh=>h);rw[hb]at ht;have tf:=ht.eE;clear ht bb;show Code.wpIn _ _ _ _ _ a w2;refine ad1 (t:=b) tf ?_
 cases b with
 |true=>
  have hn:n=all.length:=Ic.1 rfl
  have PW:ch es (all.drop n) (rows-es.length)=[es]:=by rw[hn,afq];exact O2 _ _
  rw[PW]at o_ hc;simp only[adJ];refine adk ?_
  refine NP hG cV (n:=53) (p:=6) (j:=5) (d:=19) (T:=[16,18]) (W:=W7) (l:=(c189.qb.qa.qb.qa.qa.dl).take 6) (by kernel_rfl) (by kernel_rfl) (by kernel_rfl) (by kernel_rfl) (by kernel_rfl) (by kernel_rfl) (C.gi st.j) (λ_ _=>True) (fR l all es out fA X.fv n .br) (oj:=⟨some 19,.build 39 #[(0,.tmp 16),(1,.tmp 18)],39, "name.go:18",#[⟨2,.data⟩,⟨4,.data⟩],none⟩) ?_ rfl rfl
   (λa=>(a.tmps.getD 16 undef).oneCell'=true->(a.tmps.getD 18 undef).oneCell'=true->a.tmps.getD 19 undef=.agg #[a.tmps.getD 16 undef,a.tmps.getD 18 undef]) ?_ ?_ (by kernel_rfl) (by kernel_rfl) fr.size fr.defers (st.eW fr (h9 _ _)) (K:=λS' _=>S' 14=.val (.func (.yield l) #[] #[])/\S' 16=.slice (if(ints out).isEmpty then .nil else .own 3) (ints out)/\S' 18=.slice (if(aO es).isEmpty then .nil else .own 46) (aO es)/\
    ∃o1 o2,S' 19=.agg [.slice o1 (ints out),.slice o2 (aO es)]) ?_ ?_
  .rfl
  .intro a a' h1 h2 hN g16 g18;rw[h2 16 (by simp)]at g16⊢;rw[h2 18 (by simp)]at g18⊢;rw[h1];exact hN g16 g18
  .intro a w bq;refine xY rfl w _ ?_;intro v w' hr
   have yw:(a.put (some 19) v).tmps.getD 16 undef=a.tmps.getD 16 undef:=by simp[Act.put,adg]
   have e18:(a.put (some 19) v).tmps.getD 18 undef=a.tmps.getD 18 undef:=by simp[Act.put,adg]
   have e19:(a.put (some 19) v).tmps.getD 19 undef=v:=by simp[Act.put,bq]
   show(((a.put (some 19) v).tmps.getD 16 undef).oneCell'=true->_->(a.put (some 19) v).tmps.getD 19 undef=_);rw[yw,e18,e19];intro g16 g18;have hb:=agZ (P:=prog) w 39 #[(0,a.tmps.getD 16 undef),(1,a.tmps.getD 18 undef)] _ (Ki g16 g18);unfold execOp at hr;simp only[ads,Act.eval,adK,adC,adO]at hr;rw[hb]at hr;simp only[Result.andThen_ok,Sem.run_pure]at hr;cases hr
   rfl
  .simp[c189,af.qa,af.qb,af.dl,eY,dQ,bQ,dc,aF,i_,aH,bg,aQ.S,aQ.H,ev,ar,aT,fR,b0,AV.aG,AV.vw,AV.cells,AV.storable,AV.bH,fz,gI,kE,iD,bI,bo];refine⟨rfl,by kernel_rfl,_,Iq hG _ (lj out) (by rw[cb];omega),by simp[df],?_⟩;refine⟨rfl,by kernel_rfl,_,SQ hG _ (qj es) (by simp[aO];omega),by simp[df],?_⟩
   by_cases ho:ints out=[]<;>by_cases he:aO es=[]<;>simp[ho,he,ar]
  .intro g' S' H' a w3 hg R3 ⟨hy,qI,h18,o1,o2,BR⟩ bb hN
   have kW:Below w2.heap.size w2 w3:=by have:=R3.below;rwa [R3.base]at this
   have fr:=fr.step R3.size (by rw[R3.defers,hg];rfl) bb;have OD:=st.grow kW
   have Ox:=(R3.slot 14 (by decide) (λh=>h))
   rw[hy]at Ox;have Ox:=Ox.fG;obtain⟨i3,sh,mR⟩:=bp (P:=prog) (t:=3) (s:=1) (by kernel_rfl);obtain⟨i116,zN,nr⟩:=bp (P:=prog) (t:=46) (s:=2) (by kernel_rfl);have Kj:=R3.xQ (t:=16) (by decide) (e:=3) sh (es:=ints out) qI (λx hx=>by obtain⟨k,_,rfl⟩:=adx.1 hx;exact⟨mR.symm,rfl,λc hc=>by simp[AV.cells]at hc;subst hc;rfl⟩) (λx hx c hc=>by obtain⟨k,_,rfl⟩:=adx.1 hx;simp[AV.cells]at hc;subst hc;rfl);have L1:=R3.xQ (t:=18) (by decide) (e:=46) zN (es:=aO es) h18 (by rw[nr];exact qz es) (wv es);rw[R3.base]at Kj L1
   let G:Nat->Prop:=λb=>w2.heap.size<=b/\b<w3.heap.size
   have hj:C.J k (λb=>M b\/G b) Pr w3:=C.dE st.j (mV.sf kW) λb hb=>by
    rcases hb with hb|hb
    .exact⟨OD.lt b hb,.inl hb⟩
    .exact⟨hb.2,.inr hb.1⟩
   have F4:k<xs.length:=by
    have:=congrArg List.length o_;simp at this;omega
   have yf:xs[k]=aL out es:=by
    have:=congrArg (·[0]?) o_;simp at this;rw[ac_ F4]at this;exact adw this
   have nu:∀{u:Value}{es:List AV}{p:Nat->Nat->Prop},RD p w3 (.slice .view es) u->u.oneCell'=true:=λh=>h.one rfl
   have BR:=hN (nu Kj) (nu L1)
   have hx:RD (λb j=>Pr b j\/(G b/\j<g'.hi b)) w3 xs[k] (a.tmps.getD 19 undef):=by
    rw[yf,BR];refine .agg _ _ rfl (λi hi=>?_) (λi hi eb=>?_)
    .match i,hi with
     |0,_=>rfl
     |1,_=>rfl
    .match i,hi with
     |0,_=>exact Kj.mono (bl.same λb j _ h=>.inr h)
     |1,_=>exact L1.mono (bl.same λb j _ h=>.inr h)
   obtain⟨ff,tmps,On,bd,Dl,vM⟩:=C.round F4 G g'.hi _ hj (λb hb=>.inr hb) hx;show wpOpsIn _ _ _ _ _ [6,7] a w3;refine IS rfl rfl (by rfl) ?_ vM ?_
   .exact(nA (f:=.tmp 14) (x:=.tmp 19) w3 rfl rfl rfl Ox).trans Dl
   .rintro e w4 ⟨HB,eR,Hv,pB⟩
    have jC:∀{k'},C.J k' (λb=>(M b\/G b)/\¬G b) eR w4->St X k' (λb=>(M b\/G b)/\¬G b) eR es w4:=λhj=>OD.after hj (λb hg hm=>by have:=st.lt b hm;have:=hg.1;omega) HB Hv
    obtain⟨b,rfl,hR⟩:∃b:Bool,e=.returned (.bool b)/\R (.returned (.bool b)) w4:=by
     rcases pB with⟨rfl,dY⟩|⟨rfl,C3⟩
     .exact⟨true,rfl,by rw[<-hc];exact⟨_,_,.inl ⟨rfl,jC dY⟩⟩⟩
     .exact⟨false,rfl,by rw[<-hc];exact⟨_,_,.inr ⟨rfl,C3⟩⟩⟩
    refine⟨_,rfl,?_⟩
    have ER:(a.put (some 20) (.bool b)).tmps.getD 20 undef=.bool b:=by simp[Act.put,fr.size]
    refine aV rfl rfl (by rfl) (v:=.bool b) (w':=w4) ((run_assign (x:=.tmp 20) w4 rfl).trans (congrArg (λv=>Result.ok (Next.value v) w4) ER)) ?_;show Code.wpIn _ _ _ _ _ _ _;refine aeZ ⟨fr.defers,.bool b,?_,hR⟩
    have h8:((a.put (some 20) (.bool b)).put (some 8) (.bool b)).tmps.getD 8 undef=.bool b:=by simp[Act.put,fr.size]
    show(results f189 ((a.put (some 20) (.bool b)).put (some 8) (.bool b)).tmps).run prog w4=_;exact af7 results189 h8
 |false=>
  have hn:n<all.length:=by
   have:¬n=all.length:=λh=>by have:=Ic.2 h;cases this
   omega
  simp only[adl,adz];refine aer ?_;show Code.wpIn _ _ _ _ _ a w2;refine adk (adk ?_);refine bJ hG cV (ac:=af.qa c189.qb.qb.qa) (W:=W7) (by kernel_rfl) (by kernel_rfl) (by kernel_rfl) (C.gi st.j) (λ_ _=>True) (fR l all es out fA X.fv n .br) fr.size fr.defers (st.eW fr (h9 _ _)) (K:=λS' _=>S' 9=.int .i64 n) ?_ ?_
  .simp[c189,af.qa,af.qb,bC,bn,aF,bg,aH,aM,aQ.S,aQ.H,ev,ar,aT,fR,b0,AV.aG,dS,aO]
  rintro g S' H' a w3 hg R1 hb9 bb;have fr:=fr.step R1.size (by rw[R1.defers,hg];rfl) bb;have st:=st.grow (by have:=R1.below;rwa [R1.base]at this);have EZ:=R1.slot 9 (by decide) (λh=>h);rw[hb9]at EZ;have Rh:=EZ.int_eq;clear EZ bb;show Code.wpIn _ _ _ _ _ a w3
  obtain⟨rem,Le⟩:∃rem:Nat->List (List End),rem=λi=>if es.length<rows then lp es (all.drop i) (rows-es.length-1)else[]:=⟨_,rfl⟩
  have PW:ch es (all.drop n) (rows-es.length)=rem n:=by
   have cI:all.drop n≠[]:=by intro h;have:=congrArg List.length h;simp at this;omega
   rw[Le];unfold ch;rw[if_neg cI]
   by_cases au:es.length<rows
   .simp only[if_pos au]
    obtain⟨m,hm⟩:∃m,rows-es.length=m+1:=⟨rows-es.length-1,by omega⟩
    rw[hm];rfl
   .simp only[if_neg au]
    have:rows-es.length=0:=by omega
    rw[this]
  rw[PW]at o_ hc
  refine aen (af4 (λa w=>∃i k' M' eR,Fr X n a/\a.tmps.getD 9 undef=.int .i64 (i:Nat)/\n<=i/\i<=all.length/\St X k' M' eR es w/\xs.drop k'=(rem i).map (aL out)++tail/\k'+(rem i).length=k+(rem n).length)
   (λa _=>match a.tmps.getD 9 undef with|.int _ i=>all.length-i.toNat|_=>0) ⟨n,k,M,Pr,fr,Rh,adh _,by omega,st,o_,rfl⟩ ?_)
  clear hb9 Rh R1 hg o_ st fr;rintro a w ⟨i,k',M,Pr,fr,Xt,GU,cH,st,o_,xR⟩
  have h9':(AV.int .i64 (i:Int)).aG=.int .i64 (i:Int)/\RV (λ_ _=>True) cj w (.int .i64 (i:Int)) (a.tmps.getD 9 undef):=⟨rfl,by rw[Xt];exact .data _ _ (.int _ _)⟩
  refine adk (adk ?_);refine bJ hG cV (ac:=af.qa c189.qb.qb.qa.qb.qb.qb.qa) (W:=W7) (by kernel_rfl) (by kernel_rfl) (by kernel_rfl) (C.gi st.j) (λ_ _=>True) (fR l all es out fA X.fv n (.int .i64 (i:Int))) fr.size fr.defers (st.eW fr h9') (K:=λS' _=>S' 9=.int .i64 i/\∃b,S' 33=.bool b/\(b=true↔i<all.length/\es.length<rows)) ?_ ?_
  .by_cases au:i<all.length
   .have jN:(i:Int)<all.length:=by omega
    simp[c189,af.qa,af.qb,bC,bn,aF,bg,aH,aM,aQ.S,aQ.H,ev,ar,aT,fR,b0,AV.aG,dS,aO,au,X.f9,b_];omega
   .have jN:¬(i:Int)<all.length:=by omega
    simp[c189,af.qa,af.qb,bC,bn,aF,bg,aH,aM,aQ.S,aQ.H,ev,ar,aT,fR,b0,AV.aG,dS,aO,au,X.f9,b_]
  rintro g S' H' a' w' hg R1 ⟨Hd,b,hb,Xy⟩ bb;have CS:=fr.step R1.size (by rw[R1.defers,hg];rfl) bb;have nG:=st.grow (by have:=R1.below;rwa [R1.base]at this);have EZ:=R1.slot 9 (by decide) (λh=>h);rw[Hd]at EZ;have Ro:=EZ.int_eq;have MV:=R1.slot 33 (by decide) (λh=>h);rw[hb]at MV;have L3:=MV.eE;show Code.wpIn _ _ _ _ _ a' w';refine ad1 (t:=b) L3 ?_
  cases b with
  |false=>
   simp only[adl,adz];refine afc ?_
   have ji:¬(i<all.length/\es.length<rows):=λh=>by have:=Xy.2 h;cases this
   have Uy:rem i=[]:=by
    rw[Le]
    by_cases au:es.length<rows
    .have:i=all.length:=by
      rcases ae1 i all.length with h|h
      .exact absurd ⟨h,au⟩ ji
      .omega
     simp only[if_pos au,this,afq]
     rfl
    .simp only[if_neg au]
   rw[Uy]at xR;simp only[Exit.then,Exit.inBlock,adJ];refine adk ?_;refine adB ?_;show wpOpsIn _ _ _ _ _ [0] a' w';refine aV rfl rfl (by rfl) (v:=.bool true) (w':=w') (run_assign (x:=.const (.bool true)) w' rfl) ?_;show Code.wpIn _ _ _ _ _ _ _;refine aeZ ⟨CS.defers,.bool true,?_,?_⟩
   .have h8:(a'.put (some 8) (.bool true)).tmps.getD 8 undef=.bool true:=by simp[Act.put,CS.size]
    show(results f189 (a'.put (some 8) (.bool true)).tmps).run prog w'=_;exact af7 results189 h8
   .rw[<-hc];refine⟨M,Pr,.inl ⟨rfl,?_⟩⟩;rw[<-xR];exact nG
  |true=>
   obtain⟨au,hrw⟩:=Xy.1 rfl;simp only[adJ];refine aer ?_;show Code.wpIn _ _ _ _ _ a' w';clear MV L3 EZ hb Hd R1 hg bb;refine adk (aen (adk ?_));obtain⟨v,ty,vn,hN,ZH,dO,rm,SN⟩:=nG.now;obtain⟨i116,zN,nr⟩:=bp (P:=prog) (t:=46) (s:=2) (by kernel_rfl)
   have VI:(aO es).length=es.length:=by simp[aO]
   refine ug cV (n:=53) (ac:=af.qa rq.qb.qa.qb) (by kernel_rfl) (by kernel_rfl) (by kernel_rfl) (W:=yj) (by kernel_rfl) (λb k=>X.MI b\/Pr b k)
    (λt=>match t with|1=>.ref [.slice .view (aO all)]|4=>.box 4 0|9=>.int .i64 (i:Int)|_=>.br) (nm:=4) (tp:=4) (es:=aO es) (es':=aO (es++[all[i]])) (by decide) rfl CS.t4 CS.size CS.defers hN zN (by rw[nr,VI];exact dO) (by rw[nr];exact rm.mono (bl.same λ_ _ _ h=>h.elim)) ?_ ?_ (by rw[nr];exact qz _) (wv _) ?_
   .intro t ht;split
    .exact⟨rfl,.inr (by rw[CS.t1];exact nG.Q5)⟩
    .exact⟨rfl,.inl ⟨rfl,CS.t4⟩⟩
    .exact⟨rfl,.inr (by rw[Ro];exact .data _ _ (.int _ _))⟩
    .exact⟨rfl,.inr (.br _)⟩
   .have cI:¬(i:Int)<0:=by omega
    have pS:es.length+1<1048576:=by omega
    cases zI:v.ownBlock with
    |none=>
     have he:es=[]:=by
      rcases dO.2 with⟨_,h⟩|⟨gg,cap,cur,rfl,_⟩
      .exact adQ h
      .cases zI
     subst he;simp[c189,rq,af.qa,af.qb,bC,eY,dQ,bQ,dc,aF,i_,aH,bg,aQ.S,aQ.H,ev,ar,aT,b0,AV.aG,AV.vw,AV.cells,AV.storable,AV.bH,aM,ot,zI,HR.okB,bz,aO,aX,au,aJ,bo,AV.bZ,cI]
    |some bv=>
     simp[c189,rq,af.qa,af.qb,bC,eY,dQ,bQ,dc,aF,i_,aH,bg,aQ.S,aQ.H,ev,ar,aT,b0,AV.aG,AV.vw,AV.cells,AV.storable,AV.bH,aM,ot,zI,HR.okB,bz,aO,aX,au,aJ,bo,AV.bZ,cI,pS]
   .intro a2 w2 v' FY xs2 yO M3 iy W_ Ad L7 fY Gg;have Qq:=CS.step yO M3 (eL.weaken iy λt ht=>by simp[W7]at ht;simp[yj];omega);have A6:a2.tmps.getD 9 undef=.int .i64 (i:Int):=(iy 9 rfl).trans Ro
    have Ov:∀b,(b=X.bN\/v.ownBlock=some b)->M b/\¬X.MI b:=by
     rintro b (rfl|hb)
     .exact⟨ZH,λh=>(nG.mi _ h).2.1 rfl⟩
     .exact SN b hb
    have ju:bl Pr Pr w' w2:=bl.pk λb k au hp=>fY.block b au λhm=>C.apart nG.j b k (Ov b hm).1 hp
    have Li:∀b,X.MI b->w2.heap[b]?=w'.heap[b]?:=λb h=>fY.block b (nG.lt b (nG.mi b h).1) λhm=>(Ov b hm).2 h
    have XX:(aO (es++[all[i]])).length=(es++[all[i]]).length:=by simp[aO]
    have TF:St X k' (λb=>M b\/(w'.heap.size<=b/\b<w2.heap.size)) Pr (es++[all[i]]) w2:=by
     refine⟨C.dE nG.j (M':=λb=>M b\/(w'.heap.size<=b/\b<w2.heap.size)) ⟨fY.os,fY.tape,fY.output,fY.size,λb hb hm=>fY.block b hb λh=>hm (Ov b h).1⟩ λb hb=>?_,λb hb=>?_,λb h=>⟨.inl (nG.mi b h).1,(nG.mi b h).2.1,(Li b h).trans (nG.mi b h).2.2⟩,⟨v',FY,xs2,W_,.inl ZH,?_,?_,λb hb=>?_⟩,nG.f.mono ju λ_ _ h=>h,nG.o.mono ju λ_ _ h=>h,nG.e.mono (vJ Li ju)⟩
     .rcases hb with hb|hb
      .exact⟨adU (nG.lt b hb) fY.size,.inl hb⟩
      .exact⟨hb.2,.inr hb.1⟩
     .rcases hb with hb|hb
      .exact adU (nG.lt b hb) fY.size
      .exact hb.2
     .rw[nr,XX]at Ad;exact Ad
     .rw[nr]at L7;exact L7
     .rcases Gg b hb with h|h
      .exact⟨.inl (SN b h).1,(SN b h).2⟩
      .refine⟨.inr ⟨h,(Ad.lt b hb).2⟩,λhm=>?_⟩;have:=nG.lt b (nG.mi b hm).1;omega
    clear Ov ju Li Gg Ad L7 W_ fY;show Code.wpIn _ _ _ _ _ a2 w2
    have XO:(AV.int .i64 (i:Int)).aG=.int .i64 (i:Int)/\RV (λ_ _=>True) cj w2 (.int .i64 (i:Int)) (a2.tmps.getD 9 undef):=⟨rfl,by rw[A6];exact .data _ _ (.int _ _)⟩
    refine adk (adk ?_);refine jz hG (p:=3) (l2:=[3,4]) rfl (by kernel_rfl) (by kernel_rfl) (l:=(rq.qb.qa.qb.qb.qa.qa.dl).take 3) (by kernel_rfl) (by decide) (W:=yj) (by kernel_rfl) (C.gi TF.j) (λ_ _=>True) (fR l all (es++[all[i]]) out fA X.fv n (.int .i64 (i:Int))) Qq.size Qq.defers (TF.eW Qq XO) (K:=λS' _=>S' 43=.val X.fv/\S' 45=.int .i64 ((i+1:Nat):Int)) ?_ ?_
    .have oW:IntKind.i64.wrap ((i:Int)+1)=i+1:=aN (by omega);simp[c189,rq,af.qa,af.qb,af.dl,bn,aF,bg,aH,aQ.S,aQ.H,ev,ar,aT,fR,b0,AV.aG,dS,oW]
    rintro g S' H' a3 w3 hg R1 ⟨h43,Mh⟩ Az;have JT:=Qq.step R1.size (by rw[R1.defers,hg];rfl) (eL.weaken Az λt ht=>by simp[W7]at ht;simp[yj];omega);have OD:=TF.grow (by have:=R1.below;rwa [R1.base]at this);have h93:a3.tmps.getD 9 undef=.int .i64 (i:Int):=(Az 9 rfl).trans A6;have wX:=R1.slot 43 (by decide) (λh=>h);rw[h43]at wX;have wX:=wX.fG;have PR:=R1.slot 45 (by decide) (λh=>h);rw[Mh]at PR;have PR:=PR.int_eq;clear R1 hg Az;have Tl:all.drop i=all[i]::all.drop (i+1):=aek au
    have Uy:rem i=ch (es++[all[i]]) (all.drop (i+1)) (rows-(es++[all[i]]).length)++rem (i+1):=by
     rw[Le];simp only[if_pos hrw,Tl,Gk]
     congr 2
     simp;omega
    rw[Uy]at o_ xR;rw[adD,aef]at o_;have fg:=ih (all.length-(i+1)) (by omega) (i+1) (es++[all[i]]) k' _ Pr w3 _ (by omega) (by simp;omega) OD o_;refine fH rfl rfl (by rfl) (o7 (f:=.tmp 43) (x:=.tmp 45) w3 rfl rfl rfl wX (by kernel_rfl)) (R:=λe w'=>∃M' eR,(e=.returned (.bool true)/\St X (k'+(ch (es++[all[i]]) (all.drop (i+1)) (rows-(es++[all[i]]).length)).length) M' eR (es++[all[i]]) w')\/(e=.returned (.bool false)/\C.X M' eR w')) ?_ ?_
    .have : #[a3.eval (.tmp 45)] ++ #[X.cA,X.cY,X.cO,.pointer (some ⟨X.bN,0,none⟩),X.cF,X.cR] = #[.int .i64 ((i+1:Nat):Int),X.cA,X.cY,X.cO,.pointer (some ⟨X.bN,0,none⟩),X.cF,X.cR]:=by
      show #[a3.tmps.getD 45 undef]++_=_;rw[PR];rfl
     rw[this];exact fg
    rintro e w4 ⟨M4,FK,pB⟩
    obtain⟨b,rfl⟩:∃b:Bool,e=.returned (.bool b):=by rcases pB with⟨rfl,_⟩|⟨rfl,_⟩<;>exact⟨_,rfl⟩
    refine⟨_,rfl,?_⟩
    have h46:(a3.put (some 46) (.bool b)).tmps.getD 46 undef=.bool b:=by simp[Act.put,JT.size]
    refine aV rfl rfl (by rfl) (v:=.bool !b) (w':=w4) (HC (x:=.tmp 46) w4 rfl h46) ?_;show Code.wpIn _ _ _ _ _ ((a3.put (some 46) (.bool b)).put (some 47) (.bool !b)) w4
    obtain⟨a4,ku⟩:∃a4,(a3.put (some 46) (.bool b)).put (some 47) (.bool !b)=a4:=⟨_,rfl⟩
    rw[ku]
    have eB:∀(a:Act)(d t:Nat)(c:Value),t≠d->(a.put (some d) c).tmps.getD t undef=a.tmps.getD t undef:=λa d t c h=>by
     simp[Act.put,adg (ad2 h)]
    have HB:eL yj a3 a4:=λt ht=>by
     have:t<36:=by simp[yj]at ht;omega
     rw[<-ku,eB _ _ _ _ (by omega),eB _ _ _ _ (by omega)]
    have y0:a4.tmps.size=53:=by rw[<-ku];simp[Act.put,JT.size]
    have aaT:a4.defers=[]:=by rw[<-ku];exact JT.defers
    have Hb:=JT.step y0 aaT (eL.weaken HB λt ht=>by simp[W7]at ht;simp[yj];omega);have h94:a4.tmps.getD 9 undef=.int .i64 (i:Int):=(HB 9 rfl).trans h93
    have h47:a4.tmps.getD 47 undef=.bool !b:=by rw[<-ku];simp[Act.put,JT.size]
    refine ad1 (t:=!b) h47 ?_
    cases b with
    |false=>
     have hX:C.X M4 FK w4:=by
      rcases pB with⟨h,_⟩|⟨_,h⟩
      .cases h
      .exact h
     simp only[agz,adJ];refine adk ?_;refine adB ?_;show wpOpsIn _ _ _ _ _ [0] a4 w4;refine aV rfl rfl (by rfl) (v:=.bool false) (w':=w4) (run_assign (x:=.const (.bool false)) w4 rfl) ?_;show Code.wpIn _ _ _ _ _ _ _;refine aeZ ⟨Hb.defers,.bool false,?_,?_⟩
     .have h8:(a4.put (some 8) (.bool false)).tmps.getD 8 undef=.bool false:=by simp[Act.put,Hb.size]
      show(results f189 (a4.put (some 8) (.bool false)).tmps).run prog w4=_;exact af7 results189 h8
     .rw[<-hc];exact⟨M4,FK,.inr ⟨rfl,hX⟩⟩
    |true=>
     have tR:St X (k'+(ch (es++[all[i]]) (all.drop (i+1)) (rows-(es++[all[i]]).length)).length) M4 FK (es++[all[i]]) w4:=by
      rcases pB with⟨_,h⟩|⟨h,_⟩
      .exact h
      .cases h
     simp only[Bool.not_true,adl,adz];refine aer ?_;show Code.wpIn _ _ _ _ _ a4 w4;obtain⟨v4,SA,Pu,X9,Mb,MO,Xq,Xc⟩:=tR.now
     have Vt:Pu.length=(es.length+1)*2:=by have:=MO.1;simpa using this
     obtain⟨i29,aaA,aaL⟩:=bp (P:=prog) (t:=37) (s:=1) (by kernel_rfl);refine adB ?_;show wpOpsIn _ _ _ _ _ [0,1,2,3,4,5] a4 w4
     refine GB (P:=prog) (n:=53) (T:=37) (el:=46) (p:=4) (t1:=48) (t2:=49) (t3:=50) (t4:=51) (t5:=52) (bN:=X.bN) (i:=i116) (iT:=i29) (v:=v4) (ty:=SA) (k:=es.length) (xs:=Pu.take (es.length*2)) (last:=Pu.drop (es.length*2))
      rfl rfl rfl rfl rfl rfl ⟨rfl,rfl,rfl⟩ ⟨rfl,rfl,rfl⟩ ⟨rfl,rfl,rfl⟩ ⟨rfl,rfl,rfl⟩ ⟨rfl,rfl,rfl⟩ ⟨rfl,rfl,rfl⟩ rfl rfl rfl (by kernel_rfl) aaA aaL zN (by decide) Hb.size (by decide) Hb.t4 X9 (by rw[aeq,nr];simpa using MO) (by rw[nr,adM,Vt];omega) (by omega) ?_
     intro a5 v5 yX aaC W5 OX Xz Av
     have Ah:∀b,v5.ownBlock=some b->M4 b/\¬X.MI b:=λb hb=>Xc b (by rw[<-OX];exact hb)
     have kC:∀b,b≠X.bN->(w4.setRow X.bN #[v5]).heap[b]?=w4.heap[b]?:=λb hb=>aec w4 X.bN b #[v5] hb
     have Bo:(w4.setRow X.bN #[v5]).heap.size=w4.heap.size:=by simp
     have Qk:bl FK FK w4 (w4.setRow X.bN #[v5]):=bl.pk λb k _ hp=>kC b (by rintro rfl;exact C.apart tR.j _ k Mb hp)
     have C':St X (k'+(ch (es++[all[i]]) (all.drop (i+1)) (rows-(es++[all[i]]).length)).length) M4 FK es (w4.setRow X.bN #[v5]):=by
      refine⟨C.dE tR.j ⟨rfl,rfl,rfl,by rw[Bo];exact adh _,λb _ hm=>kC b (by rintro rfl;exact hm Mb)⟩ λb hb=>⟨by rw[Bo];exact tR.lt b hb,.inl hb⟩,λb hb=>by rw[Bo];exact tR.lt b hb,λb h=>⟨(tR.mi b h).1,(tR.mi b h).2.1,(kC b (tR.mi b h).2.1).trans (tR.mi b h).2.2⟩,
       ⟨v5,SA,Pu.take (es.length*2),aeJ w4 X.bN _ #[v5] SA (0,0) X9,Mb,?_,?_,Ah⟩,tR.f.mono Qk λ_ _ h=>h,tR.o.mono Qk λ_ _ h=>h,tR.e.mono (vJ (λb h=>kC b (tR.mi b h).2.1) Qk)⟩
      .rw[nr]at Av;refine⟨Av.1,?_⟩
       rcases Av.2 with h|⟨gg,cap,cur,rfl,qL,aaa,rest⟩
       .exact .inl h
       .exact .inr ⟨gg,cap,cur,rfl,qL,(kC gg (by omega)).trans aaa,rest⟩
      .refine⟨qz es,λj hj k hk=>?_⟩
       have Bu:j<es.length:=by simpa[aO]using hj
       have dY:j<(aO (es++[all[i]])).length:=by simp[aO];omega
       have iJ:(aO (es++[all[i]]))[j]=(aO es)[j]:=by
        simp only[aO,adD,adC,adO];exact adA (by simpa using Bu)
       obtain⟨u,u1,u2⟩:=Xq.2 j dY k (by rw[iJ];exact hk);refine⟨u,?_,?_⟩
       .have ju:k < 2:=by
         have:=qz es _ (ada hj);rw[this.1]at hk;exact hk
        rw[afh (by omega)];exact u1
       .simp only[iJ]at u2;exact u2.mono (bl.of_eq λ_ _ h=>h.elim)
     have KR:eL yj a4 a5:=λt ht=>by
      have:t<36:=by simp[yj]at ht;omega
      exact W5 t (by omega) (by omega) (by omega) (by omega) (by omega)
     have Bf:=Hb.step yX (aaC.trans Hb.defers) (eL.weaken KR λt ht=>by simp[W7]at ht;simp[yj];omega);have Xr:a5.tmps.getD 9 undef=.int .i64 (i:Int):=(KR 9 rfl).trans h94;clear kC Ah Qk Av KR W5 Bo;generalize w4.setRow X.bN #[v5]=w5 at C'⊢;simp only[Exit.then,Exit.inBlock]
     have XC:(AV.int .i64 (i:Int)).aG=.int .i64 (i:Int)/\RV (λ_ _=>True) cj w5 (.int .i64 (i:Int)) (a5.tmps.getD 9 undef):=⟨rfl,by rw[Xr];exact .data _ _ (.int _ _)⟩
     refine bJ hG cV (ac:=af.qb rq.qb) (W:=W7) (by kernel_rfl) (by kernel_rfl) (by kernel_rfl) (C.gi C'.j) (λ_ _=>True) (fR l all es out fA X.fv n (.int .i64 (i:Int))) Bf.size Bf.defers (C'.eW Bf XC) (K:=λS' _=>S' 9=.int .i64 ((i+1:Nat):Int)) ?_ ?_
     .have oW:IntKind.i64.wrap ((i:Int)+1)=i+1:=aN (by omega);simp[c189,rq,af.qa,af.qb,bC,bn,aF,bg,aH,aM,aQ.S,aQ.H,ev,ar,aT,fR,AV.aG,dS,oW]
     intro g S' H' a6 w6 hg R1 Px qt;have Di:=Bf.step R1.size (by rw[R1.defers,hg];rfl) qt;have Fu:=C'.grow (by have:=R1.below;rwa [R1.base]at this);have Kh:=R1.slot 9 (by decide) (λh=>h);rw[Px]at Kh;have Kh:=Kh.int_eq;refine⟨⟨i+1,_,M4,FK,Di,Kh,by omega,by omega,Fu,?_,?_⟩,?_⟩
     .rw[<-afb,o_,afL (by simp)];simp
     .have e:=@adq _ (ch (es++[all[i]]) (all.drop (i+1)) (rows-(es++[all[i]]).length)) (rem (i+1));omega
     .rw[Kh,Xt];show all.length-((i+1:Nat):Int).toNat<all.length-(i:Int).toNat;rw[Int.toNat_natCast,Int.toNat_natCast];omega
end Go.Proofs.Tryz
namespace Go.Proofs.Tryz
open Go Go.AL Go.RowKit Go.Proofs Go.Proofs.Tram
variable{GI:World->Prop}
theorem nN{vs:Array Value}(h:vs.size=1):∃v,vs=#[v]:=⟨vs[0],by
 apply aeI
 .simpa using h
 .intro i h1 h2
  have:i=0:=by simpa using h2
  subst this;rfl⟩
theorem js{P:Program}{t:TypeId}(h:(P.underlying t).map eS=some false):∃d,P.underlying t=some d/\eS d=false:=by
 cases hi:P.underlying t with
 |none=>rw[hi]at h;cases h
 |some i=>rw[hi]at h;exact⟨i,rfl,adw h⟩
theorem lk:AV.bH∘AV.aG=AV.bH:=by
 funext v
 cases v<;>try rfl
 rename_i o es;cases o<;>rfl
theorem RD.B9{Pr:Nat->Nat->Prop}{w:World}{o:Ow}{es:List AV}{c:Value}(h:RD Pr w (.slice o es) c):RD Pr w (.slice .view es) c:=by
 cases h with
 |jU=>exact .jU _
 |slice _ _ b off cap size cs fF hn bq h1 hc hr=>exact .slice _ _ b off cap size cs fF (λh=>by cases h) bq h1 hc hr
 |kV _ a=>exact .kV _ a
theorem SF (hG:aw GI) {oE:Ow} {all:List End} {out:List Int} {fA:List AV} {rows:Nat} (fQ:all.length≤1000) (K6:rows≤1000) (fV:out.length≤1000) (rm:fA.length=11) (Ym:∀ x∈fA.take 10,x.storable=true∧x.one=true∧x.aG=x) (h9:fA[9]? = some (.int .i64 rows))
  (UK:AC prog GI 188 [.agg ((fA.take 10).map AV.bH),vI out] (.ret (.slice oE (aO all)))):
  sP prog GI 187 [.ref fA,.ref [vI out]] ((ch [] all rows).map (aL out)):=by
 intro l C w Pr ck hJ hlen hr
 obtain⟨cF,cO,rfl⟩:∃cF cO,ck=#[cF,cO]:=by
  have:ck.size=2:=by simpa using hlen.symm
  exact⟨ck[0],ck[1],by
   apply aeI
   .simpa using this
   .intro i h1 h2
    match i,h2 with
    |0,_=>rfl
    |1,_=>rfl⟩
 have SD:=hr 0 (by simp) (by simp);have Uv:=hr 1 (by simp) (by simp);simp only[List.getElem_cons_zero,List.getElem_cons_succ,List.getElem_toArray]at SD Uv;refine(jw (ro:=none) (m:=0)).1 (afS func187 rfl trivial ?_);have cT:=C.gi hJ
 have R:Rel prog w 14 cm _ (AL.start [.val (.func (.yield l) #[] #[]),.ref fA,.ref [vI out]]) (λ_=>none) { tmps:=(#[.func (.yield l) #[] #[]]++#[cF,cO])++Array.replicate (f187.ntmps-(#[Value.func (.yield l) #[] #[]]++#[cF,cO]).size) undef,defers:=[] } w:=Rel.begin (args:=[.val (.func (.yield l) #[] #[]),.ref fA,.ref [vI out]]) (old:=Pr) ntmps187 (by simp) rfl (λi h h'=>by
  match i,h with
  |0,_=>exact .data _ _ (.val _ rfl)
  |1,_=>exact SD
  |2,_=>exact Uv)
 have e1:({ tmps:=(#[Value.func (.yield l) #[] #[]]++#[cF,cO])++Array.replicate (f187.ntmps-(#[Value.func (.yield l) #[] #[]]++#[cF,cO]).size) undef,defers:=[] }:Act).tmps.getD 1 undef=cF:=bV _ _ 1 (by simp);have e2:({ tmps:=(#[Value.func (.yield l) #[] #[]]++#[cF,cO])++Array.replicate (f187.ntmps-(#[Value.func (.yield l) #[] #[]]++#[cF,cO]).size) undef,defers:=[] }:Act).tmps.getD 2 undef=cO:=bV _ _ 2 (by simp)
 have W3:∃W:Nat->Bool,W=λt=>decide (3<=t):=⟨_,rfl⟩
 refine adk ?_;refine gG R hG cT cV (ac:=af.qa c187) (W:=λt=>decide (3<=t)) (by kernel_rfl) (by kernel_rfl) (by kernel_rfl) (λ_ h=>h) (K:=λS' H'=>S' 1=.ref fA/\S' 2=.ref [vI out]/\S' 3=.box 3 0/\H' 3=some [.val (.func (.yield l) #[] #[])]) ?_ ?_
 .simp[c187,af.qa,bC,bn,aF,bg,aM,ev,AL.start,AV.aG,AV.cells,AV.storable,ar,bX,vI]
 rintro g1 S1 H1 a1 w1 DC R1 ⟨s1,s2,s3,h3⟩ vR;refine adk ?_;refine gG R1 hG cT cV (ac:=af.qa c187.qb) (W:=λt=>decide (3<=t)) (by kernel_rfl) (by kernel_rfl) (by kernel_rfl) (by rw[DC];exact λ_ h=>h) (K:=λS' H'=>S' 3=.box 3 0/\S' 4=.box 4 0/\H' 3=some [.val (.func (.yield l) #[] #[])]/\H' 4=some [.slice oE (aO all)]) ?_ ?_
 .simp[c187,af.qa,af.qb,bC,bn,aF,bg,aM,ev,aH,aQ.S,aQ.H,aT,b0,s1,s2,s3,h3,ar,AV.aG,vI,rm,kE]
  have e8:fz H1 (.agg (List.take 10 (List.map AV.aG fA)))=.agg ((fA.take 10).map AV.bH):=by
   simp only[fz,gI,AV.vw,<-afK,aeh,lk]
  have e9:fz H1 (.slice .view (ints out))=vI out:=rfl;rw[e8,e9];refine⟨by kernel_rfl,_,UK,by simp[df],?_⟩
  cases oE<;>simp[iD,bX,AV.cells,AV.storable,HR.okB,bz,bo,AV.bZ,ar,AV.aG,s3,h3]
 rintro g2 S2 H2 a2 w2 Kw R2 ⟨t3,t4,k3,k4⟩ uu;have jq:g2.base=w.heap.size:=R2.base
 have kW:Below w.heap.size w w2:=by have:=R2.below;rwa [jq]at this
 obtain⟨bY,hY⟩:∃b,g2.al 3=some b/\a2.tmps.getD 3 undef=.pointer (some ⟨b,0,none⟩):=by
  have h:=R2.slot 3 (by decide) (λh=>h);rw[t3]at h;generalize a2.tmps.getD 3 undef=c at h
  cases h with
  |data _ _ h=>cases h
  |box _ _ b h=>exact⟨b,h,rfl⟩
 obtain⟨bA,hA⟩:∃b,g2.al 4=some b/\a2.tmps.getD 4 undef=.pointer (some ⟨b,0,none⟩):=by
  have h:=R2.slot 4 (by decide) (λh=>h);rw[t4]at h;generalize a2.tmps.getD 4 undef=c at h
  cases h with
  |data _ _ h=>cases h
  |box _ _ b h=>exact⟨b,h,rfl⟩
 obtain⟨csY,vsY,tyY,q1,q2,q3,q4,q5,q6,q7,q8,q9⟩:=R2.box 3 bY hY.1;rw[k3]at q1;cases q1
 have hvY:vsY=#[.func (.yield l) #[] #[]]:=by
  have h0:=q7 0 (by simp) (by rw[<-q6];simp);simp only[List.getElem_cons_zero]at h0;apply aeI
  .rw[<-q6];rfl
  .intro i h1 h2
   have:i=0:=by simpa using h2
   subst this;exact(RV.data (al:=cj) _ _ h0).fG
 subst hvY;obtain⟨csA,vsA,tyA,r1,r2,r3,r4,r5,r6,r7,r8,r9⟩:=R2.box 4 bA hA.1;rw[k4]at r1;cases r1;obtain⟨yv,rfl⟩:=nN (vs:=vsA) (by rw[<-r6];rfl);have Ib:=r7 0 (by simp) (by simp);have hO0:=r8 0 (by simp) (by simp);simp only[List.getElem_cons_zero,List.getElem_toArray]at Ib hO0
 have qZ:RD (λb k=>(b<w.heap.size/\Pr b k)\/(w.heap.size<=b/\b<w2.heap.size)) w2 (.slice .view (aO all)) yv:=by
  have hd:=Ib.aG
  have hd:RD g2.Pr w2 (.slice .view (aO all)) yv:=by
   have e:RD g2.Pr w2 (.slice oE (aO all)) yv:=Ib;exact RD.B9 e
  refine hd.mono (bl.of_eq λb k hp=>⟨?_,rfl⟩)
  rcases hp with⟨h1,h2⟩|⟨h1,h2⟩
  .rw[Kw,DC]at h2;exact .inl ⟨by rw[<-jq];exact h1,h2⟩
  .refine .inr ⟨by rw[<-jq];exact h1,?_⟩
   by_cases au:b<w2.heap.size
   .exact au
   .rw[(R2.fresh b (by omega)).1]at h2;omega
 have hbY:w.heap.size<=bY/\bY<w2.heap.size:=⟨by rw[<-jq];exact q2,(ade.1 q3).1⟩
 have hbA:w.heap.size<=bA/\bA<w2.heap.size:=⟨by rw[<-jq];exact r2,(ade.1 r3).1⟩
 have e1:a2.tmps.getD 1 undef=cF:=((vR.trans uu) 1 rfl).trans e1;have e2:a2.tmps.getD 2 undef=cO:=((vR.trans uu) 2 rfl).trans e2;have yO:a2.tmps.size=14:=R2.size
 have M3:a2.defers=[]:=by rw[R2.defers,Kw,DC];rfl
 obtain⟨bN,Nt⟩:∃bN,w2.heap.size=bN:=⟨_,rfl⟩
 have eB:∀(a:Act)(d t:Nat)(c:Value),t≠d->(a.put (some d) c).tmps.getD t undef=a.tmps.getD t undef:=λa d t c h=>by
  simp[Act.put,adg (ad2 h)]
 have ir:∀(a:Act)(d:Nat)(c:Value),a.tmps.size=14->d<14->(a.put (some d) c).tmps.getD d undef=c:=λa d c h hd=>by
  simp[Act.put,h,hd]
 have jm:∀(a:Act)(d:Option Nat)(c:Value),(a.put d c).tmps.size=a.tmps.size:=λa d c=>by cases d<;>simp[Act.put]
 have pW:∀(a:Act)(d:Option Nat)(c:Value),(a.put d c).defers=a.defers:=λa d c=>by cases d<;>rfl
 refine adk (adB ?_);show wpOpsIn _ _ _ _ _ [0] a2 w2;refine aV rfl rfl (by rfl) (jy (t:=37) (z:=.slice none 0 0) rfl (by kernel_rfl)) ?_;show Code.wpIn _ _ _ _ _ (a2.put (some 5) (.pointer (some ⟨w2.heap.size,0,none⟩))) (w2.alloc (.cells #[.slice none 0 0] 37))
 obtain⟨a3,qM⟩:∃a3,a2.put (some 5) (.pointer (some ⟨w2.heap.size,0,none⟩))=a3:=⟨_,rfl⟩
 obtain⟨w3,om⟩:∃w3,w2.alloc (.cells #[.slice none 0 0] 37)=w3:=⟨_,rfl⟩
 have uY:w3.heap.size=bN+1:=by rw[<-om,<-Nt];simp
 have GW:w3.heap[bN]?=some (.cells #[.slice none 0 0] 37 (0,0)):=by rw[<-om,<-Nt];exact ad4 w2 _
 have Cf:∀b,b<bN->w3.heap[b]?=w2.heap[b]?:=λb hb=>by rw[<-om];exact age _ _ _ (by omega)
 rw[qM,om];refine adk (adB ?_);show wpOpsIn _ _ _ _ _ [0] a3 w3;refine aV rfl rfl (by rfl) (jy (t:=76) (z:=.nilFunc) rfl (by kernel_rfl)) ?_;show Code.wpIn _ _ _ _ _ (a3.put (some 6) (.pointer (some ⟨w3.heap.size,0,none⟩))) (w3.alloc (.cells #[.nilFunc] 76))
 obtain⟨a4,ku⟩:∃a4,a3.put (some 6) (.pointer (some ⟨w3.heap.size,0,none⟩))=a4:=⟨_,rfl⟩
 obtain⟨w4,jA⟩:∃w4,w3.alloc (.cells #[.nilFunc] 76)=w4:=⟨_,rfl⟩
 have GZ:w4.heap.size=bN+2:=by rw[<-jA];simp[uY]
 have zb:w4.heap[bN+1]?=some (.cells #[.nilFunc] 76 (0,0)):=by rw[<-jA,<-uY];exact ad4 w3 _
 have wS:∀b,b<bN+1->w4.heap[b]?=w3.heap[b]?:=λb hb=>by rw[<-jA];exact age _ _ _ (by omega)
 rw[ku,jA]
 have z3:a3.tmps.size=14:=by rw[<-qM,jm];exact yO
 have z4:a4.tmps.size=14:=by rw[<-ku,jm];exact z3
 have u5:a4.tmps.getD 5 undef=.pointer (some ⟨bN,0,none⟩):=by rw[<-ku,eB _ _ _ _ (by decide),<-qM,ir _ _ _ yO (by decide),Nt]
 have u6:a4.tmps.getD 6 undef=.pointer (some ⟨bN+1,0,none⟩):=by rw[<-ku,ir _ _ _ z3 (by decide),uY]
 have u:∀t,t<5->a4.tmps.getD t undef=a2.tmps.getD t undef:=λt ht=>by rw[<-ku,eB _ _ _ _ (by omega),<-qM,eB _ _ _ _ (by omega)]
 refine adk (adB ?_);show wpOpsIn _ _ _ _ _ [0,1] a4 w4;refine aV rfl rfl (by rfl) (lP (fn:=.func 189) (c:=#[.tmp 4,.tmp 3,.tmp 2,.tmp 5,.tmp 1,.tmp 6]) rfl) ?_
 have fF:(#[Operand.tmp 4,.tmp 3,.tmp 2,.tmp 5,.tmp 1,.tmp 6].map a4.eval)=#[.pointer (some ⟨bA,0,none⟩),.pointer (some ⟨bY,0,none⟩),cO,.pointer (some ⟨bN,0,none⟩),cF,.pointer (some ⟨bN+1,0,none⟩)]:=by
  simp only[adK,adC,adO,Act.eval];rw[u 4 (by omega),u 3 (by omega),u 2 (by omega),u5,u 1 (by omega),u6,hA.2,hY.2,e2,e1]
 rw[fF]
 obtain⟨fv,kM⟩:∃fv:Value,fv=.func (.func 189) #[] #[.pointer (some ⟨bA,0,none⟩),.pointer (some ⟨bY,0,none⟩),cO,.pointer (some ⟨bN,0,none⟩),cF,.pointer (some ⟨bN+1,0,none⟩)]:=⟨_,rfl⟩
 rw[<-kM]
 obtain⟨a5,o9⟩:∃a5,a4.put (some 11) fv=a5:=⟨_,rfl⟩
 show wpOpsIn _ _ _ _ _ [1] (a4.put (some 11) fv) w4;rw[o9]
 have z5:a5.tmps.size=14:=by rw[<-o9,jm];exact z4
 have O4:a5.tmps.getD 11 undef=fv:=by rw[<-o9];exact ir _ _ _ z4 (by decide)
 have u65:a5.tmps.getD 6 undef=.pointer (some ⟨bN+1,0,none⟩):=by rw[<-o9,eB _ _ _ _ (by decide)];exact u6
 obtain⟨i33,Ka,KU⟩:=bp (P:=prog) (t:=76) (s:=1) (by kernel_rfl);refine dM rfl rfl (by rfl) (gr (x:=.tmp 6) (y:=.tmp 11) rfl u65 Ka KU zb O4 (by rw[kM];rfl)) ?_
 obtain⟨w5,Es⟩:∃w5,w4.setRow (bN+1) #[fv]=w5:=⟨_,rfl⟩
 show Code.wpIn _ _ _ _ _ (a5.put none undef) (w4.setRow (bN+1) #[fv]);rw[Es]
 have acB:w5.heap.size=bN+2:=by rw[<-Es];simpa using GZ
 have QL:w5.heap[bN+1]?=some (.cells #[fv] 76 (0,0)):=by rw[<-Es];exact aeJ w4 _ _ _ _ _ zb
 have Sw:∀b,b<bN+1->w5.heap[b]?=w4.heap[b]?:=λb hb=>by rw[<-Es];exact aec w4 _ _ _ (by omega)
 have Cj:∀b,b<bN->w5.heap[b]?=w2.heap[b]?:=λb hb=>by rw[Sw b (by omega),wS b (by omega),Cf b hb]
 refine adB ?_;show wpOpsIn _ _ _ _ _ [0,1] a5 w5;obtain⟨d33,Zc,T2⟩:=js (P:=prog) (t:=76) (by kernel_rfl);refine aV rfl rfl (by rfl) (kN (x:=.tmp 6) (v:=fv) rfl u65 Zc T2 (by simp[World.cell?,QL])) ?_;show wpOpsIn _ _ _ _ _ [1] (a5.put (some 12) fv) w5
 obtain⟨a6,Oo⟩:∃a6,a5.put (some 12) fv=a6:=⟨_,rfl⟩
 rw[Oo]
 have z6:a6.tmps.size=14:=by rw[<-Oo,jm];exact z5
 have u12:a6.tmps.getD 12 undef=fv:=by rw[<-Oo];exact ir _ _ _ z5 (by decide)
 have Kv:a6.defers=[]:=by rw[<-Oo,pW,<-o9,pW,<-ku,pW,<-qM,pW];exact M3
 have hc6:∀{P':Nat->Nat->Prop},(∀b k,P' b k->b<bN)->bl P' P' w2 w5:=λh=>bl.of_eq λb k hp=>⟨hp,Cj b (h b k hp)⟩
 let X:Fx C all out fA rows:={
  bN:=bN
  cA:=.pointer (some ⟨bA,0,none⟩)
  cY:=.pointer (some ⟨bY,0,none⟩)
  cO:=cO
  cF:=cF
  cR:=.pointer (some ⟨bN+1,0,none⟩)
  MI:=λb=>w.heap.size<=b/\b<bN+2/\b≠bN
  wI:=w5
  bA:=bA
  yv:=yv
  Ib:=rfl
  OI:=⟨⟨hbA.1,by omega,by omega⟩,by omega⟩
  hA2:=⟨tyA,(Cj bA (by omega)).trans r3⟩
  hY:=by
   refine .data _ _ (.ref _ _ _ (λ_=>.func (.yield l) #[] #[]) (λi hi=>?_) (λk hk=>⟨?_,?_⟩) (λk hk=>?_))
   .have:i=0:=by simpa using hi
    subst this;rfl
   .exact⟨hbY.1,by omega,by omega⟩
   .have:k=0:=by simpa using hk
    subst this;have:w5.heap[bY]?=some (.cells #[.func (.yield l) #[] #[]] tyY (0,0)):=(Cj bY (by omega)).trans q3;simp[World.cell?,this]
   .have:k=0:=by simpa using hk
    subst this;exact .val _ rfl
  hR:=by
   refine .data _ _ (.ref _ _ _ (λ_=>fv) (λi hi=>?_) (λk hk=>⟨?_,?_⟩) (λk hk=>?_))
   .have:i=0:=by simpa using hi
    subst this;rfl
   .exact⟨by omega,by omega,by omega⟩
   .have:k=0:=by simpa using hk
    subst this;simp[World.cell?,QL]
   .have:k=0:=by simpa using hk
    subst this;rw[kM];exact .val _ rfl
  f9:=h9 }
 have fY:mV (λ_=>False) w w5:=by
  refine⟨?_,?_,?_,by omega,λb hb _=>(Cj b (by omega)).trans (kW.block b hb)⟩
  .rw[<-Es,<-jA,<-om];exact kW.os
  .rw[<-Es,<-jA,<-om];exact kW.tape
  .rw[<-Es,<-jA,<-om];exact kW.output
 have n9:bl Pr Pr w w5:=bl.pk λb k hb _=>fY.block b hb (λh=>h)
 have st:St X 0 (λb=>w.heap.size<=b/\b<bN+2) Pr [] w5:=by
  refine⟨C.dE hJ fY λb hb=>⟨by omega,.inr hb.1⟩,λb hb=>by omega,λb hb=>⟨⟨hb.1,hb.2.1⟩,hb.2.2,rfl⟩,⟨.slice none 0 0,37,[],?_,?_,⟨rfl,.inl ⟨rfl,rfl⟩⟩,⟨λx hx=>(by cases hx),λj hj=>(by simp[aO]at hj)⟩,λb hb=>(by cases hb)⟩,SD.mono n9 λ_ _ h=>h,Uv.mono n9 λ_ _ h=>h,qZ.mono (bl.of_eq λb k hp=>?_)⟩
  .show w5.heap[bN]?=_;rw[Sw bN (by omega),wS bN (by omega)];exact GW
  .show w.heap.size<=bN/\bN<bN+2;exact⟨by rw[<-Nt];exact kW.size,by omega⟩
  .have bq:=kW.size
   have au:b<bN:=by
    rcases hp with h|h<;>omega
   refine⟨⟨au,?_⟩,Cj b au⟩;rcases hp with h|h
   .exact .inr h.2
   .exact .inl (show w.heap.size<=b/\b<bN+2/\b≠bN from⟨h.1,by omega,by omega⟩)
 have K5:=Ku hG X fQ K6 fV all.length 0 [] 0 _ Pr w5 [] (by omega) (adh _) st (by simp)
 have Aq:(#[a6.eval (.const (.int .i64 0))]++#[.pointer (some ⟨bA,0,none⟩),.pointer (some ⟨bY,0,none⟩),cO,.pointer (some ⟨bN,0,none⟩),cF,.pointer (some ⟨bN+1,0,none⟩)])=#[.int .i64 ((0:Nat):Int),X.cA,X.cY,X.cO,.pointer (some ⟨X.bN,0,none⟩),X.cF,X.cR]:=by
  simp[Act.eval,X]
 rw[<-Aq]at K5;have YJ:a6.eval (.tmp 12)=.func (.func 189) #[] #[.pointer (some ⟨bA,0,none⟩),.pointer (some ⟨bY,0,none⟩),cO,.pointer (some ⟨bN,0,none⟩),cF,.pointer (some ⟨bN+1,0,none⟩)]:=u12.trans kM;refine fH rfl rfl (by rfl) (o7 (f:=.tmp 12) (x:=.const (.int .i64 0)) w5 rfl rfl rfl YJ (by kernel_rfl)) K5 ?_;rintro e w6 ⟨M',eR,pB⟩
 obtain⟨b,rfl,hv⟩:∃b:Bool,e=.returned (.bool b)/\(C.J ((ch [] all rows).map (aL out)).length M' eR w6\/C.X M' eR w6):=by
  rcases pB with⟨rfl,h⟩|⟨rfl,h⟩
  .refine⟨true,rfl,.inl ?_⟩;have:=h.j;simpa using this
  .exact⟨false,rfl,.inr h⟩
 refine⟨_,rfl,?_⟩;show bodyPost prog f187 _ .normal (a6.put (some 13) (.bool b)) w6;refine⟨by rw[pW];exact Kv,.tuple #[],?_,.tuple #[],_,_,rfl,hv⟩;simp[results,results187]
def Hh:TypeDesc→Bool
  |.interface _=>true
  |_=>false
theorem Bi {P:Program} {t:TypeId} (h:(P.underlying t).map Hh=some true):∃ ms,P.underlying t=some (.interface ms):=by
  cases hi:P.underlying t with
  |none=>rw[hi]at h;cases h
  |some d =>
    rw[hi]at h
    cases d<;>first|(cases h;done)|exact⟨_,rfl⟩
theorem M7 (T:Nat) (v:Value) (w:World):(binOp .eql 20 (.iface T v) .nilIface).run prog w = .ok (.bool false) w:=by
  have:(Op.equal 20 (.iface T v) .nilIface).run prog w = .ok false w:=by
    obtain⟨ms,hm⟩:=Bi (P:=prog) (t:=20) (by kernel_rfl);unfold Op.equal Op.maxDepth Op.equalIn;simp[adH hm]
  simp[binOp,this]
theorem od {a:Act} {o:Oper} {T:Nat} {v:Value} {x:Operand} (w:World) (ho:o.op = .binOp .eql 20 x (.const .nilIface) 20) (hx:a.eval x = .iface T v):(execOp a.eval o).run prog w = .ok (.value (.bool false)) w:=by
  have h0:(eqGuard .eql 20 x (.const .nilIface) (.iface T v) .nilIface).run prog w=.ok () w:=jR _ _ _ _ _ _ rfl;have hc:a.eval (.const .nilIface)=.nilIface:=rfl;simp[execOp,ho,hx,hc,h0,M7]
theorem Cz {bE:Nat} {u:Value} {ty:TypeId} (w:World) (hE:w.heap[bE]? = some (.cells #[u] ty (0,0))) (n:Int) :
    CallsD prog 204 #[.pointer (some ⟨bE,0,none⟩)] (.panicking [{ v := .iface 242 (.agg #[.int .i64 n]),recovered:=false }]) w fun e u' w' =>
      e=.returned (.tuple #[])/\u'=.panicking [{ v:=.iface 242 (.agg #[.int .i64 n]),recovered:=true }]/\∃w1,Below w.heap.size w w1/\w'=w1.setRow bE #[.int .i64 5]:=by
  refine afa func204 rfl λwu cs hu=>?_
  apply aga;apply afE;simp[wpOpsS,go_sem,recoverD,hu,ntmps204,Exit.thenS];refine afP ?_;refine(e_ (m:=0)).1 ?_;refine fM (λa=>a.tmps.size=14/\a.defers=[]/\a.tmps.getD 0 undef=.pointer (some ⟨bE,0,none⟩)/\a.tmps.getD 5 undef=.iface 242 (.agg #[.int .i64 n])) ⟨by simp,rfl,by simp,by simp⟩ ?_;rintro a ⟨bq,dZ,h0,h5⟩;have au:=(ade.1 hE).1;refine aen (adk (adB ?_));show wpOpsIn _ _ _ _ _ [0] a w;refine aV rfl rfl (by rfl) (od (x:=.tmp 5) w rfl h5) ?_;show Code.wpIn _ _ _ _ _ (a.put (some 7) (.bool false)) w
  have h7:(a.put (some 7) (.bool false)).tmps.getD 7 undef=.bool false:=by simp[Act.put,bq]
  refine ad1 (t:=false) h7 ?_;simp only[adl,adz];refine fM (λa=>a.tmps.size=14/\a.defers=[]/\a.tmps.getD 0 undef=.pointer (some ⟨bE,0,none⟩)/\a.tmps.getD 5 undef=.iface 242 (.agg #[.int .i64 n])) ⟨by simp[Act.put,bq],dZ,by simpa[Act.put,adg]using h0,by simpa[Act.put,adg]using h5⟩ ?_;clear h7 h5 h0 dZ bq a;rintro a ⟨bq,dZ,h0,h5⟩
  have hS:∀ (a:Act) (w:World),a.tmps.getD 5 undef = .iface 242 (.agg #[.int .i64 n])→∀ t,t < 14→((fun t=>if t=5 then AV.iface 242 (.agg [.int .i64 n]) else AV.br:av) t).aG=(fun t=>if t=5 then AV.iface 242 (.agg [.int .i64 n]) else AV.br:av) t ∧
      RV (λ_ _=>True) cj w ((λt=>if t=5 then AV.iface 242 (.agg [.int .i64 n])else AV.br:av) t) (a.tmps.getD t undef):=by
    intro a w h5 t ht
    by_cases h:t=5
    . subst h
      rw[h5];refine⟨rfl,.data _ _ (.iface _ _ _ (.agg _ _ rfl (λi hi=>?_) (λi hi eb=>?_)))⟩
      . have:i=0:=by simpa using hi
        subst this;rfl
      . have:i=0:=by simpa using hi
        subst this;exact .int _ _
    . simp only[h,adz];exact⟨rfl,.br _⟩
  refine adk ?_;refine bJ (GI:=λ_=>True) (λ_ _ _ _=>trivial) cV (ac:=af.qa c204.qb.qb.qb.qb) (W:=λt=>decide (8<=t)) (by kernel_rfl) (by kernel_rfl) (by kernel_rfl) trivial (λ_ _=>True) _ bq dZ (hS a w h5) (K:=λS' _=>S' 9=.bool true/\S' 10=.agg [.int .i64 n]) ?_ ?_
  . simp[c204,af.qa,af.qb,bC,bn,aF,bg,aH,aM,aQ.S,aQ.H,ev,ar,aT,AV.aG]
  rintro g S' H' a' w' hg R1 ⟨h9,nB⟩ bb;have t9:=R1.slot 9 (by decide) (λh=>h);rw[h9]at t9;have t9:=t9.eE;have t10:=R1.slot 10 (by decide) (λh=>h);rw[nB]at t10
  have b1:Below w.heap.size w w':=by have:=R1.below;rwa [R1.base]at this
  show Code.wpIn _ _ _ _ _ a' w';refine ad1 (t:=true) t9 ?_;simp only[adJ];refine adk ?_;refine gG R1 (GI:=λ_=>True) (λ_ _ _ _=>trivial) trivial cV (ac:=af.qa c204.qb.qb.qb.qb.qb.qa) (W:=λt=>decide (1<=t)) (by kernel_rfl) (by kernel_rfl) (by kernel_rfl) (by rw[hg];exact λ_ h=>h) (K:=λ_ _=>True) ?_ ?_
  . simp[c204,af.qa,af.qb,bC,bn,aF,bg,aH,aM,aQ.S,aQ.H,ev,ar,aT,AV.aG,nB,bX,HR.okB,AV.cells,AV.storable,bo,AV.bZ,bz]
  rintro g2 S2 H2 a2 w2 me R2 _ iy
  have b2:Below w.heap.size w w2:=by have:=R2.below;rwa [R2.base]at this
  have e0:a2.tmps.getD 0 undef=.pointer (some ⟨bE,0,none⟩):=(iy 0 rfl).trans ((bb 0 rfl).trans h0);have At:w2.heap[bE]?=some (.cells #[u] ty (0,0)):=(b2.block bE au).trans hE;obtain⟨i36,nO,nS⟩:=bp (P:=prog) (t:=34) (s:=1) (by kernel_rfl);show Code.wpIn _ _ _ _ _ a2 w2;refine adB ?_;show wpOpsIn _ _ _ _ _ [0] a2 w2;refine dM rfl rfl (by rfl) (gr (x:=.tmp 0) (y:=.const (.int .i64 5)) (v:=.int .i64 5) rfl e0 nO nS At rfl rfl) ?_;refine⟨by show a2.defers=[];rw[R2.defers,me,hg];rfl,_,rfl,.tuple #[],?_,rfl,rfl,w2,b2,rfl⟩;simp[results,results204]
theorem Dv {bE:Nat} {u:Value} {ty:TypeId} (w:World) (hE:w.heap[bE]? = some (.cells #[u] ty (0,0))) (n:List UInt8) :
    CallsD prog 204 #[.pointer (some ⟨bE,0,none⟩)] (.panicking [{ v := .iface 253 (.agg #[.string ⟨n.toArray⟩]),recovered:=false }]) w fun e u' w' =>
      e=.returned (.tuple #[])/\u'=.panicking [{ v:=.iface 253 (.agg #[.string ⟨n.toArray⟩]),recovered:=true }]/\∃w1,Below w.heap.size w w1/\w'=w1.setRow bE #[.int .i64 4]:=by
  refine afa func204 rfl λwu cs hu=>?_
  apply aga;apply afE;simp[wpOpsS,go_sem,recoverD,hu,ntmps204,Exit.thenS];refine afP ?_;refine(e_ (m:=0)).1 ?_;refine fM (λa=>a.tmps.size=14/\a.defers=[]/\a.tmps.getD 0 undef=.pointer (some ⟨bE,0,none⟩)/\a.tmps.getD 5 undef=.iface 253 (.agg #[.string ⟨n.toArray⟩])) ⟨by simp,rfl,by simp,by simp⟩ ?_;rintro a ⟨bq,dZ,h0,h5⟩;have au:=(ade.1 hE).1;refine aen (adk (adB ?_));show wpOpsIn _ _ _ _ _ [0] a w;refine aV rfl rfl (by rfl) (od (x:=.tmp 5) w rfl h5) ?_;show Code.wpIn _ _ _ _ _ (a.put (some 7) (.bool false)) w
  have h7:(a.put (some 7) (.bool false)).tmps.getD 7 undef=.bool false:=by simp[Act.put,bq]
  refine ad1 (t:=false) h7 ?_;simp only[adl,adz];refine fM (λa=>a.tmps.size=14/\a.defers=[]/\a.tmps.getD 0 undef=.pointer (some ⟨bE,0,none⟩)/\a.tmps.getD 5 undef=.iface 253 (.agg #[.string ⟨n.toArray⟩])) ⟨by simp[Act.put,bq],dZ,by simpa[Act.put,adg]using h0,by simpa[Act.put,adg]using h5⟩ ?_;clear h7 h5 h0 dZ bq a;rintro a ⟨bq,dZ,h0,h5⟩
  have hS:∀ (a:Act) (w:World),a.tmps.getD 5 undef = .iface 253 (.agg #[.string ⟨n.toArray⟩])→∀ t,t < 14→((fun t=>if t=5 then AV.iface 253 (.agg [.str n]) else AV.br:av) t).aG=(fun t=>if t=5 then AV.iface 253 (.agg [.str n]) else AV.br:av) t ∧
      RV (λ_ _=>True) cj w ((λt=>if t=5 then AV.iface 253 (.agg [.str n])else AV.br:av) t) (a.tmps.getD t undef):=by
    intro a w h5 t ht
    by_cases h:t=5
    . subst h
      rw[h5];refine⟨rfl,.data _ _ (.iface _ _ _ (.agg _ _ rfl (λi hi=>?_) (λi hi eb=>?_)))⟩
      . have:i=0:=by simpa using hi
        subst this;rfl
      . have:i=0:=by simpa using hi
        subst this;exact .str _
    . simp only[h,adz];exact⟨rfl,.br _⟩
  refine adk ?_;refine bJ (GI:=λ_=>True) (λ_ _ _ _=>trivial) cV (ac:=af.qa c204.qb.qb.qb.qb) (W:=λt=>decide (8<=t)) (by kernel_rfl) (by kernel_rfl) (by kernel_rfl) trivial (λ_ _=>True) _ bq dZ (hS a w h5) (K:=λS' _=>S' 9=.bool false/\S' 5=.iface 253 (.agg [.str n])) ?_ ?_
  . simp[c204,af.qa,af.qb,bC,bn,aF,bg,aH,aM,aQ.S,aQ.H,ev,ar,aT,AV.aG]
  rintro g0 S0 H0 a0 SJ xZ R0 ⟨CT,T_⟩ Br;have t90:=R0.slot 9 (by decide) (λh=>h);rw[CT]at t90;have t90:=t90.eE;show Code.wpIn _ _ _ _ _ a0 SJ;refine ad1 (t:=false) t90 ?_;simp only[adl,adz];refine adk ?_;refine gG R0 (GI:=λ_=>True) (λ_ _ _ _=>trivial) trivial cV (ac:=af.qa c204.qb.qb.qb.qb.qb.qb) (W:=λt=>decide (8<=t)) (by kernel_rfl) (by kernel_rfl) (by kernel_rfl) (by rw[xZ];exact λ_ h=>h) (K:=λS' _=>S' 12=.bool true/\S' 13=.agg [.str n]) ?_ ?_
  . simp[c204,af.qa,af.qb,bC,bn,aF,bg,aH,aM,aQ.S,aQ.H,ev,ar,aT,AV.aG,T_]
  rintro g S' H' a' w' hg R1 ⟨h9,nB⟩ AM;have bb:=Br.trans AM;rw[xZ]at hg;have t9:=R1.slot 12 (by decide) (λh=>h);rw[h9]at t9;have t9:=t9.eE;have t10:=R1.slot 13 (by decide) (λh=>h);rw[nB]at t10
  have b1:Below w.heap.size w w':=by have:=R1.below;rwa [R1.base]at this
  show Code.wpIn _ _ _ _ _ a' w';refine ad1 (t:=true) t9 ?_;simp only[adJ];refine adk ?_;refine gG R1 (GI:=λ_=>True) (λ_ _ _ _=>trivial) trivial cV (ac:=af.qa c204.qb.qb.qb.qb.qb.qb.qb.qa) (W:=λt=>decide (1<=t)) (by kernel_rfl) (by kernel_rfl) (by kernel_rfl) (by rw[hg];exact λ_ h=>h) (K:=λ_ _=>True) ?_ ?_
  . simp[c204,af.qa,af.qb,bC,bn,aF,bg,aH,aM,aQ.S,aQ.H,ev,ar,aT,AV.aG,nB,bX,HR.okB,AV.cells,AV.storable,bo,AV.bZ,bz]
  rintro g2 S2 H2 a2 w2 me R2 _ iy
  have b2:Below w.heap.size w w2:=by have:=R2.below;rwa [R2.base]at this
  have e0:a2.tmps.getD 0 undef=.pointer (some ⟨bE,0,none⟩):=(iy 0 rfl).trans ((bb 0 rfl).trans h0);have At:w2.heap[bE]?=some (.cells #[u] ty (0,0)):=(b2.block bE au).trans hE;obtain⟨i36,nO,nS⟩:=bp (P:=prog) (t:=34) (s:=1) (by kernel_rfl);show Code.wpIn _ _ _ _ _ a2 w2;refine adB ?_;show wpOpsIn _ _ _ _ _ [0] a2 w2;refine dM rfl rfl (by rfl) (gr (x:=.tmp 0) (y:=.const (.int .i64 4)) (v:=.int .i64 4) rfl e0 nO nS At rfl rfl) ?_;refine⟨by show a2.defers=[];rw[R2.defers,me,hg];rfl,_,rfl,.tuple #[],?_,rfl,rfl,w2,b2,rfl⟩;simp[results,results204]
theorem CM (p:Addr) (w:World) :
    CallsD prog 204 #[.pointer (some p)] .returning w λe u' w'=>e=.returned (.tuple #[])/\u'=.returning/\w'=w:=by
  refine afa func204 rfl λwu cs hu=>?_
  apply aga;apply afE;simp[wpOpsS,go_sem,recoverD,hu,ntmps204,Exit.thenS];refine afP ?_
  go_wp2
  cases wu
  simp_all[bodyPostS,results,results204]
theorem uU {P:Program} {a:Act} {o:Oper} {cl:Call} {f:Operand} {k:Nat} {cap:Array Value} (w:World) (ho:o.op = .call cl) (hc:cl.callee = .value f) (ha:cl.args = #[]) (hf:a.eval f = .func (.func k) #[] cap) (hk:dX P k=true) :
    (execOp a.eval o).run P w=.ok (.enter k cap) w:=by
  unfold execOp;simp[ho,eU hc,hf,Deferred.ofValue,invoke,ha,gy hk]
theorem run_move {P:Program} {a:Act} {o:Oper} {x:Operand} (w:World) (ho:o.op = .move x):(execOp a.eval o).run P w = .ok (.value (a.eval x)) w:=by
  unfold execOp;simp only[ho]
  rfl
theorem vF{w:World}{b:Nat}{v u:Value}{ty:TypeId}(h:w.heap[b]?=some (.cells #[u] ty (0,0))):(w.setRow b #[v]).heap[b]?=some (.cells #[v] ty (0,0)):=aeJ w b _ _ _ _ h
theorem Gl {a:Act} {w:World} {b:Nat} {v:Value} {ty:TypeId} (h2:a.tmps.getD 2 undef = .pointer (some ⟨b,0,none⟩)) (h:w.heap[b]? = some (.cells #[v] ty (0,0))):(results f170 a.tmps).run prog w = .ok v w:=by
  obtain⟨d,Ap,zi⟩:=js (P:=prog) (t:=34) (by kernel_rfl)
  have oU:(isAgg 34).run prog w = .ok false w:=by
    unfold isAgg;rw[ads,adH Ap w]
    cases d<;>simp_all[eS]
  have hl:(loadVar 34 ⟨b,0,none⟩).run prog w = .ok v w:=by
    simp[loadVar,ads,oU,World.cell?,h]
  have hr:f170.results=#[.cell 2 34]:=rfl
  have sT:a.tmps[2]?.getD undef=.pointer (some ⟨b,0,none⟩):=by rw[<-h2];simp
  simp[results,hr,sT,asAddr,hl]
theorem pL {k:Nat} {us:Array Value} {w:World} {R1 R:Ending→World→Prop} (nv:dX prog k=true) (hc:Calls prog k us (w.alloc (.cells #[.int .i64 0] 34)) R1)
    (h:∀ e w2,R1 e w2→w.heap.size < w2.heap.size∧(∃ u ty,w2.heap[w.heap.size]? = some (.cells #[u] ty (0,0))) ∧
      ((∃c,e=.returned c/\R (.returned (.int .i64 0)) (w2.setRow w.heap.size #[.int .i64 0]))\/
       (∃n,e=.panicked [{ v:=.iface 242 (.agg #[.int .i64 n]),recovered:=false }]/\∀w3,Below w2.heap.size w2 w3->R (.returned (.int .i64 5)) (w3.setRow w.heap.size #[.int .i64 5]))\/
       (∃s:List UInt8,e=.panicked [{ v:=.iface 253 (.agg #[.string ⟨s.toArray⟩]),recovered:=false }]/\∀w3,Below w2.heap.size w2 w3->R (.returned (.int .i64 4)) (w3.setRow w.heap.size #[.int .i64 4])))):
    Calls prog 170 #[.func (.func k) #[] us] w R:=by
  refine agw func170 rfl ?_;refine(e_ (m:=0)).1 ?_;refine fM (λa=>a.tmps.size=6/\a.defers=[]/\a.tmps.getD 0 undef=.func (.func k) #[] us) ⟨by simp[ntmps170],rfl,bV _ _ 0 (by simp)⟩ ?_;rintro a ⟨bq,dZ,h0⟩
  obtain⟨bE,Ex⟩:∃bE,w.heap.size=bE:=⟨_,rfl⟩
  have eB:∀ (a:Act) (d t:Nat) (c:Value),t≠d→(a.put (some d) c).tmps.getD t undef=a.tmps.getD t undef:=fun a d t c h=>by
    simp[Act.put,adg (ad2 h)]
  have ir:∀ (a:Act) (d:Nat) (c:Value),a.tmps.size=6→d < 6→(a.put (some d) c).tmps.getD d undef=c:=fun a d c h hd=>by
    simp[Act.put,h,hd]
  have jm:∀(a:Act)(d:Option Nat)(c:Value),(a.put d c).tmps.size=a.tmps.size:=λa d c=>by cases d<;>simp[Act.put]
  refine adk (adB ?_);show wpOpsIn _ _ _ _ _ [0] a w;refine aV rfl rfl (by rfl) (jy (t:=34) (z:=.int .i64 0) rfl (by kernel_rfl)) ?_;show Code.wpIn _ _ _ _ _ (a.put (some 2) (.pointer (some ⟨w.heap.size,0,none⟩))) (w.alloc (.cells #[.int .i64 0] 34));rw[Ex]at h;simp only[Ex]
  obtain⟨w1,kR⟩:∃w1,w.alloc (.cells #[.int .i64 0] 34)=w1:=⟨_,rfl⟩
  rw[kR]at hc⊢;refine fM (λa=>a.tmps.size=6/\a.defers=[]/\a.tmps.getD 0 undef=.func (.func k) #[] us/\a.tmps.getD 2 undef=.pointer (some ⟨bE,0,none⟩)) ⟨by rw[jm];exact bq,dZ,by rw[eB _ _ _ _ (by decide)];exact h0,ir _ _ _ bq (by decide)⟩ ?_;clear h0 dZ bq a;rintro a ⟨bq,dZ,h0,h2⟩;refine adk (adB ?_);show wpOpsIn _ _ _ _ _ [0,1] a w1;refine aV rfl rfl (by rfl) (lP (fn:=.func 204) (c:=#[.tmp 2]) rfl) ?_
  have fF:(#[Operand.tmp 2].map a.eval) = #[.pointer (some ⟨bE,0,none⟩)]:=by
    simp only[adK,adC,adO,Act.eval];rw[h2]
  rw[fF];show wpOpsIn _ _ _ _ _ [1] (a.put (some 3) (.func (.func 204) #[] #[.pointer (some ⟨bE,0,none⟩)])) w1
  obtain⟨a2,im⟩:∃a2,a.put (some 3) (.func (.func 204) #[] #[.pointer (some ⟨bE,0,none⟩)])=a2:=⟨_,rfl⟩
  rw[im]
  have z2:a2.tmps.size=6:=by rw[<-im,jm];exact bq
  have u3:a2.tmps.getD 3 undef=.func (.func 204) #[] #[.pointer (some ⟨bE,0,none⟩)]:=by rw[<-im];exact ir _ _ _ bq (by decide)
  have u0:a2.tmps.getD 0 undef=.func (.func k) #[] us:=by rw[<-im,eB _ _ _ _ (by decide)];exact h0
  have u2:a2.tmps.getD 2 undef=.pointer (some ⟨bE,0,none⟩):=by rw[<-im,eB _ _ _ _ (by decide)];exact h2
  have ud:a2.defers=[]:=by rw[<-im];exact dZ
  refine xJ rfl rfl (d:={ target:=.fn (.func 204) #[.pointer (some ⟨bE,0,none⟩)],args:=#[] }) (w':=w1) ?_ ?_
  . unfold execOp
    simp[eU,Deferred.ofValue,Act.eval,u3]
  have JQ:∀ (w:World),(invoke (.fn (.func 204) #[.pointer (some ⟨bE,0,none⟩)]) #[]).run prog w = .ok (.enter 204 #[.pointer (some ⟨bE,0,none⟩)]) w:=fun w=>by
    simp[invoke,gy (P:=prog) (f:=204) (by kernel_rfl)]
  show Code.wpIn _ _ _ _ _ { a2 with defers:={ target:=.fn (.func 204) #[.pointer (some ⟨bE,0,none⟩)],args:=#[] }::a2.defers } w1;refine fM (λa=>a.tmps.size=6/\a.defers=[{ target:=.fn (.func 204) #[.pointer (some ⟨bE,0,none⟩)],args:=#[] }]/\a.tmps.getD 0 undef=.func (.func k) #[] us/\a.tmps.getD 2 undef=.pointer (some ⟨bE,0,none⟩)) ⟨z2,by show _::a2.defers=_;rw[ud],u0,u2⟩ ?_;clear u0 u2 u3 ud z2 im a2 h0 h2 dZ bq fF a;rintro a ⟨bq,dZ,h0,h2⟩;refine adk (adB ?_);show wpOpsIn _ _ _ _ _ [0,1] a w1;refine aV rfl rfl (by rfl) (run_move (x:=.tmp 0) w1 rfl) ?_;have e0:a.eval (.tmp 0)=.func (.func k) #[] us:=h0;rw[e0];show wpOpsIn _ _ _ _ _ [1] (a.put (some 4) (.func (.func k) #[] us)) w1
  obtain⟨a2,im⟩:∃a2,a.put (some 4) (.func (.func k) #[] us)=a2:=⟨_,rfl⟩
  rw[im]
  have z2:a2.tmps.size=6:=by rw[<-im,jm];exact bq
  have u4:a2.eval (.tmp 4)=.func (.func k) #[] us:=by show a2.tmps.getD 4 undef=_;rw[<-im];exact ir _ _ _ bq (by decide)
  have u2:a2.tmps.getD 2 undef=.pointer (some ⟨bE,0,none⟩):=by rw[<-im,eB _ _ _ _ (by decide)];exact h2
  have ud:a2.defers=[{ target:=.fn (.func 204) #[.pointer (some ⟨bE,0,none⟩)],args:=#[] }]:=by rw[<-im];exact dZ
  refine sc rfl rfl (by rfl) (uU (f:=.tmp 4) w1 rfl rfl rfl u4 nv) hc ?_;intro e w2 he;obtain⟨au,⟨uE,UE,hE⟩,rA⟩:=h e w2 he
  have wx:∀ {args:Array Value} {u:FrameMode} {w:World} {R R':Ending→FrameMode→World→Prop},CallsD prog 204 args u w R→(∀ e u w,R e u w→R' e u w)→CallsD prog 204 args u w R':=fun h hr c cs hu =>
    let⟨e,u',w',fr,r,rest⟩:=h c cs hu;⟨e,u',w',fr,hr _ _ _ r,rest⟩
  have sE:∀ (p:PanicEntry) (v:Value) (hv:CallsD prog 204 #[.pointer (some ⟨bE,0,none⟩)] (.panicking [p]) w2 fun e u' w'=>e = .returned (.tuple #[])∧u' = .panicking [{ p with recovered:=true }]∧∃ w1,Below w2.heap.size w2 w1∧w'=w1.setRow bE #[v]),
      p.goexit=false->(∀w3,Below w2.heap.size w2 w3->R (.returned v) (w3.setRow bE #[v]))->Leaves prog f170 a2.tmps R a2.defers (.panicking [p]) w2:=by
    intro p v hv py hR;rw[ud];refine af8 (by simp) (JQ w2) (wx hv ?_);rintro e u' w' ⟨rfl,rfl,w3,oB,rfl⟩;have US:w3.heap[bE]?=some (.cells #[uE] UE (0,0)):=(oB.block bE au).trans hE;show Leaves prog f170 a2.tmps R [] .returning (w3.setRow bE #[v]);exact⟨v,Gl u2 (vF US),hR w3 oB⟩
  rcases rA with⟨c,rfl,hR⟩|⟨n,rfl,hR⟩|⟨s,rfl,hR⟩
  . show Code.wpIn _ _ _ _ _ (a2.put (some 5) c) w2
    have MY:(a2.put (some 5) c).tmps.getD 2 undef=.pointer (some ⟨bE,0,none⟩):=by rw[eB _ _ _ _ (by decide)];exact u2
    refine adk (adB ?_);show wpOpsIn _ _ _ _ _ [0] (a2.put (some 5) c) w2;obtain⟨i36,nO,nS⟩:=bp (P:=prog) (t:=34) (s:=1) (by kernel_rfl);refine dM rfl rfl (by rfl) (gr (x:=.tmp 2) (y:=.const (.int .i64 0)) (v:=.int .i64 0) rfl MY nO nS hE rfl rfl) ?_;show Code.wpIn _ _ _ _ _ (a2.put (some 5) c) (w2.setRow bE #[.int .i64 0]);refine aeZ ?_;show Leaves prog f170 (a2.put (some 5) c).tmps R a2.defers .returning (w2.setRow bE #[.int .i64 0]);rw[ud];refine af8 (by simp) (JQ _) (wx (CM _ _) ?_);rintro e u' w' ⟨rfl,rfl,rfl⟩;exact⟨_,Gl MY (vF hE),hR⟩
  . exact sE _ _ (Cz w2 hE n) rfl hR
  . exact sE _ _ (Dv w2 hE s) rfl hR
theorem JW (hG:aw GI) {k:Nat} {caps:List AV} {out:eP} {r:Int} (nv:dX prog k=true) (Tq:AC prog GI k caps out)
    (fV:(∃v,out=.ret v/\r=0)\/(∃n,out=.panic (.iface 242 (.agg [.int .i64 n]))/\r=5)\/(∃s,out=.panic (.iface 253 (.agg [.str s]))/\r=4)):
    AC prog GI 170 [.func (.func k) [] caps] (.ret (.int .i64 r)):=by
  intro w old ck fU hlen hr;obtain⟨fv,rfl⟩:∃fv,ck=#[fv]:=nN (by simpa using hlen.symm);have h0:=hr 0 (by simp) (by simp);simp only[List.getElem_cons_zero,List.getElem_toArray]at h0
  obtain ⟨us,rfl,hl,Mv⟩:∃ us:Array Value,fv = .func (.func k) #[] us∧caps.length=us.size∧∀ i (h:i < caps.length) (h':i < us.size),RV old (fun _=>none) w caps[i] us[i]:=by
    cases h0 with
    |data _ _ h=>cases h
    |func _ _ _ vs us h1 h2 r1 r2 =>
      have:vs=#[]:=aeG (by simpa using h1.symm);subst this;exact⟨us,rfl,h2,r2⟩
  have uX:Below w.heap.size w (w.alloc (.cells #[.int .i64 0] 34)):=(aeb _ _).alloc (adh _) _
  have hk:bl old old w (w.alloc (.cells #[.int .i64 0] 34)):=bl.iY (λb h=>uX.block b h) λ_ _ _ h=>h
  have hN:(w.alloc (.cells #[.int .i64 0] 34)).heap[w.heap.size]?=some (.cells #[.int .i64 0] 34 (0,0)):=ad4 w _;refine pL nv (Tq (w.alloc (.cells #[.int .i64 0] 34)) old us (hG _ _ fU uX) hl (λi h h'=>(Mv i h h').mono hk λ_ _ h=>h)) ?_;rintro e w2 ⟨iU,hi,qR,rA⟩
  have Xb:w.heap.size<w2.heap.size:=by have:=iU.size;simp at this;omega
  have At:w2.heap[w.heap.size]?=some (.cells #[.int .i64 0] 34 (0,0)):=(iU.block _ (by simp)).trans hN;refine⟨Xb,⟨_,_,At⟩,?_⟩
  have fin:∀ (w3:World) (r:Int),Below w2.heap.size w2 w3→AL.Ends prog old w (.ret (.int .i64 r)) (.returned (.int .i64 r)) (w3.setRow w.heap.size #[.int .i64 r]):=by
    intro w3 r oB
    have kW:Below w.heap.size w w3:=by
      have h1:=uX.trans (iU.mono (by simp));exact h1.trans (oB.mono (by omega))
    refine⟨⟨kW.os,kW.tape,kW.output,by simpa using kW.size,λb hb=>(aec w3 _ b _ (by omega)).trans (kW.block b hb)⟩,λ_=>0,λ_ _=>rfl,_,rfl,.data _ _ (.int _ _),trivial⟩
  rcases fV with⟨v,rfl,rfl⟩|⟨n,rfl,rfl⟩|⟨s,rfl,rfl⟩
  . obtain ⟨c,rfl,_,_⟩:=rA
    exact .inl ⟨c,rfl,fin w2 0 (aeb _ _)⟩
  . obtain ⟨c,rfl,hc⟩:=rA
    obtain rfl:c = .iface 242 (.agg #[.int .i64 n]):=by
      cases hc with
      |iface _ _ c h =>
        cases h with
        |agg _ vs hl h1 hr =>
          obtain⟨u,rfl⟩:=nN (vs:=vs) (by rw[<-hl];rfl);have:=hr 0 (by simp) (by simp);have:=(RV.data (al:=cj) _ _ this).int_eq;simp only[List.getElem_toArray,List.getElem_cons_zero]at this;rw[this]
    exact .inr (.inl ⟨n,rfl,λw3 h3=>fin w3 5 h3⟩)
  . obtain ⟨c,rfl,hc⟩:=rA
    obtain rfl:c = .iface 253 (.agg #[.string ⟨s.toArray⟩]):=by
      cases hc with
      |iface _ _ c h =>
        cases h with
        |agg _ vs hl h1 hr =>
          obtain⟨u,rfl⟩:=nN (vs:=vs) (by rw[<-hl];rfl);have:=hr 0 (by simp) (by simp);simp only[List.getElem_toArray,List.getElem_cons_zero]at this;cases this;rfl
    exact .inr (.inr ⟨s,rfl,λw3 h3=>fin w3 4 h3⟩)
theorem zJ{GI:World->Prop}(hG:aw GI){n:Nat}{ro:Option Nat}{Q:jM}{old:Old}{S:av}{H:aD}{x y:Code}(ac:af)(dH:∀d∈ac.names,¬old.bx d)(K:av->aD->Prop)(h:bC prog GI ac (aM K) S H)(hy:∀S' H',K S' H'->SW prog GI n ro y Q old S' H')(hc:kY x=true:=by kernel_rfl)(pU:d_ prog n x=ac:=by kernel_rfl):SW prog GI n ro (.seq x y) Q old S H:=SW.cut hG cV hc pU dH K h hy
theorem dU{GI:World->Prop}(hG:aw GI){n:Nat}{ro:Option Nat}{Q:jM}{old:Old}{S:av}{H:aD}{x y:Code}(ac:af)(K:av->aD->Prop)(h:bC prog GI ac (aM K) S H)(hy:∀S' H',K S' H'->SW prog GI n ro y Q old S' H')(dH:∀d∈ac.names,¬old.bx d:=by exact λ_ _ h=>h)(hc:kY x=true:=by kernel_rfl)(pU:d_ prog n x=ac:=by kernel_rfl):SW prog GI n ro (.seq x y) Q old S H:=SW.cut hG cV hc pU dH K h hy
theorem fS:AV.aG∘AV.aG=AV.aG:=by funext v;exact AV.idem v
theorem Gf:AV.bH∘AV.bH=AV.bH:=by funext v;cases v<;>rfl
theorem OZ(hG:aw GI){fA:List AV}{out:List Int}(hl:fA.length=11):AC prog GI 148 [.agg fA,vI out] (.ret (.func (.func 187) [] [.ref (fA.map AV.bH),.ref [vI out]])):=by
 refine AC.DR hG cV func148 rfl ntmps148 (by simp) (ac:=c148) (by kernel_rfl) ?_;simp[c148,bC,bn,aF,bg,aH,cU,ev,aQ.S,aQ.H,ar,aT,AL.start,AV.aG,AV.cells,AV.storable,hl,bX,l6,bz,vI];refine⟨4,.func 187,[],[.box 2 0,.box 3 0],rfl,by decide,by simp[ar],?_⟩;simp[ar,fz,gI,AV.bH,lk]
def Ax(out:List Int)(l:List (List End)):AV:=.slice (if l.isEmpty then .nil else .own 39) (l.map (aL out))
def Bj(out:List Int)(l:List (List End)):AV:=.slice (if l.isEmpty then .nil else .view) (l.map (aL out))
theorem Z_ (hG:aw GI) {fA:List AV} {out:List Int} {fp:List (List End)} {p:List End→Bool} (hl:fA.length=11) (jC:∀ x∈fA,x.one=true) (hlen:fp.length≤100000) (bq:∀ es∈fp,es.length < 1000)
  (hit:sP prog GI 187 [.ref (fA.map AV.bH),.ref [vI out]] (fp.map (aL out))) (Ke:∀es∈fp,AC prog GI 149 [.agg (fA.map AV.bH),aL out es,.int .i64 0] (.ret (.bool (p es)))):
  AC prog GI 80 [.agg fA,vI out] (.ret (Bj out (fp.filter p))):=by
 refine AC.iF func80 rfl ntmps80 (by simp) λcc w=>?_
 refine dU hG c80.qa (λS' H'=>S' 1=vI out/\S' 2=.box 2 0/\H' 2=some (fA.map AV.aG)) ?_ ?_
 .simp[c80,af.qa,bC,bn,aF,bg,aH,ev,aQ.S,aQ.H,ar,aT,AL.start,AV.aG,AV.cells,AV.storable,hl,bX,bz,vI,aM]
 rintro S1 H1 ⟨s1,s2,h2⟩;refine dU hG c80.qb.qa (λS' H'=>S' 1=vI out/\S' 2=.box 2 0/\S' 5=.box 5 0/\H' 2=some (fA.map AV.aG)/\H' 5=some [.slice .nil []]) ?_ ?_
 .simp[c80,af.qa,af.qb,bC,bn,aF,bg,ar,bX,vI,aM,s1,s2,h2]
 rintro S2 H2 ⟨s1,s2,s5,h2,h5⟩;refine SW.seq (dU hG c80.qb.qb.qa.qa (λS' H'=>S' 2=.box 2 0/\S' 5=.box 5 0/\S' 9=.func (.func 187) [] [.ref (fA.map AV.bH),.ref [vI out]]/\H' 2=some (fA.map AV.aG)/\H' 5=some [.slice .nil []]) ?_ ?_)
 .have e7:fz H2 (.agg (fA.map AV.aG))=.agg (fA.map AV.bH):=by simp only[fz,gI,AV.vw,aeh,lk]
  have xO:=OZ hG (fA:=fA.map AV.bH) (out:=out) (GI:=GI) (by simpa using hl);simp only[aeh,Gf]at xO;simp[c80,af.qa,af.qb,bC,bn,aF,bg,aH,ev,aQ.S,aQ.H,ar,aT,b0,s1,s2,s5,h2,h5,aM,kE,hl,HR.okB,fS];have ht:List.take 11 (List.map AV.aG fA)=fA.map AV.aG:=adn (by simp;omega);rw[ht,e7];refine⟨by kernel_rfl,_,xO,by simp[df,vI,AV.aG],?_⟩;simp[iD,ar,s2,s5,h2,h5]
 rintro S3 H3 ⟨s2,s5,s9,h2,h5⟩
 refine SW.block (SW.range hG cV (KW:=.tmp 9) (y:=.t 9) (p:=10) (f:=187) (caps:=[.ref (fA.map AV.bH),.ref [vI out]]) (xs:=fp.map (aL out)) rfl s9 (by kernel_rfl) rfl hit (by decide) (λx hx=>by obtain⟨e,_,rfl⟩:=adx.1 hx;rfl)
  (λd=>d==6) (aa:=.ops [⟨(some 6),none,.alloc 39 [(.slice .nil []),(.slice .nil [])]⟩,⟨none,none,.store .any 2 (.t 6) (.t 10)⟩]) (ab:=.block 1 (.seq (.ops [⟨some 11,none,.load .any true 11 (.t 2)⟩,⟨some 12,none,.load .any true 2 (.t 6)⟩,⟨some 13,none,.call 149 [(.t 11),(.t 12),(.c (.int .i64 0))]⟩]) (.cond (.t 13) (.ops [⟨some 14,none,.loadT .any (.t 5)⟩,⟨some 15,none,.load .any true 2 (.t 6)⟩,⟨some 16,none,.buildSlice 110 39 2 [(.t 15)]⟩,⟨some 17,none,.append 110 39 2 48 (.t 14) (.t 16)⟩,⟨none,none,.store .any 1 (.t 5) (.t 17)⟩]) .skip)))
  (by kernel_rfl) (by kernel_rfl) (by simp[af.names,cC.je,fw.je]) (by simp[af.names,cC.je,fw.je]) (λ_ _ h=>h) (by kernel_rfl) (by kernel_rfl)
  (λk H'=>H' 2=some (fA.map AV.aG)/\H' 5=some [Ax out ((fp.take k).filter p)]) (λ_ _=>False) ⟨h2,h5⟩ ?_ ?_ ?_)
 .rintro k hk H' ⟨h2,h5⟩
  have dP:k<fp.length:=by simpa using hk
  have yf:(fp.map (aL out))[k]=aL out fp[k]:=by simp
  have hf:=Ke fp[k] (ada dP)
  have lT:fp.take (k+1)=fp.take k++[fp[k]]:=by rw[adj dP]
  have e7:∀H,fz H (.agg (fA.map AV.aG))=.agg (fA.map AV.bH):=λH=>by simp only[fz,gI,AV.vw,aeh,lk]
  have e8:∀H,fz H (.agg [.slice .view (ints out),.slice .view (aO fp[k])])=aL out fp[k]:=λH=>rfl
  have e9:∀H,fz H (.int .i64 0)=.int .i64 0:=λH=>rfl
  have ht:List.take 11 (List.map AV.aG fA)=fA.map AV.aG:=adn (by simp;omega)
  have wR:pH (λd=>d==6) (S3 2)=.box 2 0:=by rw[s2];rfl
  have jO:pH (λd=>d==6) (S3 5)=.box 5 0:=by rw[s5];rfl
  rw[yf,lT,List.filter_append];simp[bC,bn,aF,bg,aH,ev,aQ.S,aQ.H,ar,aT,aM,bX,wR,jO,h2,h5,HR.okB,aL,AV.cells,AV.storable,AV.aG,bo,AV.bZ,bz,cU,db,b0,fS,ht,kE,hl,e7,e8,e9];refine⟨by kernel_rfl,_,hf,by simp[df],?_⟩;have hL:(List.filter p (List.take k fp)).length<=100000:=ael (aeV _ _) (by simp;omega);generalize List.filter p (List.take k fp)=L at hL h5⊢
  have cP:aJ 2 (L.map (aL out))=true:=by simp[aJ,aL,AV.storable,AV.cells]
  cases hp:p fp[k]with
  |false=>simp[iD,oG,h2,h5,hp,ar]
  |true=>
   cases L with
   |nil=>simp[iD,oG,hp,aJ,AV.storable,AV.cells,AV.vw,AV.bH,Ax,AV.aG,HR.okB,ar,bo,AV.bZ,aL,jO,h2]
   |cons x L=>
    have pS:L.length+1+1<1048576:=by simp at hL;omega
    simp[iD,oG,hp,aJ,AV.storable,AV.cells,AV.vw,AV.bH,Ax,AV.aG,HR.okB,ar,bo,AV.bZ,aL,jO,pS,h2]
 .rintro D H' hD ⟨h2,h5⟩;show SW prog GI 19 none (.seq _ .ret) _ _ _ _
  have jO:pH (λd=>d==6) (S3 5)=.box 5 0:=by rw[s5];rfl
  have lT:List.take (fp.map (aL out)).length fp=fp:=adn (by simp);rw[lT]at h5;refine dU hG c80.qb.qb.qb.qa (λS' _=>S' 4=Bj out (fp.filter p)) ?_ ?_
  .generalize fp.filter p=L at h5⊢
   cases L<;>simp[c80,af.qa,af.qb,bC,bn,aF,bg,aH,ev,aQ.S,aQ.H,ar,aT,b0,jO,h5,HR.okB,aM,Ax,Bj,AV.aG,bz]
  intro S4 H4 s4;refine SW.ret ⟨(eD.plain rfl).mark hD,rfl,_,?_,rfl⟩;show cy prog 19 [.tmp 4] S4 H4=_;simp[cy,cJ,cK,s4,Bj,AV.bT,AV.out]
 .exact λ_ _ _ _ _ h=>h.elim
theorem abu (hG:aw GI) {fA:List AV} {out:List Int} {fp:List (List End)} {p:List End→Bool} (hl:fA.length=11)
  (hit:sP prog GI 187 [.ref (fA.map AV.bH),.ref [vI out]] (fp.map (aL out))) (Ke:∀es∈fp,AC prog GI 149 [.agg (fA.map AV.bH),aL out es,.int .i64 0] (.ret (.bool (p es)))):
  AC prog GI 132 [.agg fA,vI out] (.ret (.bool (fp.any p))):=by
 refine AC.iF func132 rfl ntmps132 (by simp) λcc w=>?_
 refine dU hG c132.qa (λS' H'=>S' 1=vI out/\S' 2=.box 2 0/\H' 2=some (fA.map AV.aG)) ?_ ?_
 .simp[c132,af.qa,bC,bn,aF,bg,aH,ev,aQ.S,aQ.H,ar,aT,AL.start,AV.aG,AV.cells,AV.storable,hl,bX,bz,vI,aM]
 rintro S1 H1 ⟨s1,s2,h2⟩;refine SW.scope (dU hG (.ops [⟨some 5,none,.alloc 4 [.bool false]⟩,⟨none,none,.store .any 1 (.t 5) (.c (.bool false))⟩]) (λS' H'=>S' 1=vI out/\S' 2=.box 2 0/\S' 5=.box 5 0/\H' 2=some (fA.map AV.aG)/\H' 5=some [.bool false]) ?_ ?_)
 .simp[bC,bn,aF,bg,ar,bX,vI,aM,s1,s2,h2,aH,ev,aQ.S,aQ.H,HR.okB,AV.cells,AV.storable,bo,AV.bZ,bz,aT]
 rintro S2 H2 ⟨s1,s2,s5,h2,h5⟩;refine SW.seq (SW.label ?_);show SW prog GI 15 none (.seq (.seq _ (.block _ _)) _) _ _ _ _;refine SW.seq (dU hG (.ops [⟨some 7,none,.load .any true 11 (.t 2)⟩,⟨some 8,none,.mv false (.t 1)⟩,⟨some 9,none,.call 148 [(.t 7),(.t 8)]⟩]) (λS' H'=>S' 2=.box 2 0/\S' 5=.box 5 0/\S' 9=.func (.func 187) [] [.ref (fA.map AV.bH),.ref [vI out]]/\H' 2=some (fA.map AV.aG)/\H' 5=some [.bool false]) ?_ ?_)
 .have e7:fz H2 (.agg (fA.map AV.aG))=.agg (fA.map AV.bH):=by simp only[fz,gI,AV.vw,aeh,lk]
  have xO:=OZ hG (fA:=fA.map AV.bH) (out:=out) (GI:=GI) (by simpa using hl);simp only[aeh,Gf]at xO;simp[bC,bn,aF,bg,aH,ev,aQ.S,aQ.H,ar,aT,b0,s1,s2,s5,h2,h5,aM,kE,hl,HR.okB,fS];have ht:List.take 11 (List.map AV.aG fA)=fA.map AV.aG:=adn (by simp;omega);rw[ht,e7];refine⟨by kernel_rfl,_,xO,by simp[df,vI,AV.aG],?_⟩;simp[iD,ar,s2,s5,h2,h5]
 rintro S3 H3 ⟨s2,s5,s9,h2,h5⟩
 have wR:pH (λd=>d==6) (S3 2)=.box 2 0:=by rw[s2];rfl
 have jO:pH (λd=>d==6) (S3 5)=.box 5 0:=by rw[s5];rfl
 have rest:∀ (D:Nat) (H':aD) (r:Bool),(Old.plain cc w).bf D=none->H' 5=some [.bool r]->r=fp.any p->SW prog GI 15 none (.seq (Code.region 6 #[{ dst:=some 14,op := .load 4 (.tmp 5),type:=4,pos := "name.go:54",after := #[],guard:=none },{ dst:=some 4,op := .assign (.tmp 14),type:=4,pos := "name.go:54",after := #[{ on:=0,ground := .data },{ on:=0,ground := .phase }],guard:=none }] false) .ret) (IT prog 15 f132.results.toList (.ret (.bool (fp.any p))) cc) ((Old.plain cc w).mark D) (λt=>pH (λd=>d==6) (S3 t)) H':=by
  intro D H' r hD h5 hr;refine dU hG (.ops [⟨some 14,none,.load .any false 1 (.t 5)⟩,⟨some 4,none,.mv true (.t 14)⟩]) (λS' _=>S' 4=.bool r) ?_ ?_
  .simp[bC,bn,aF,bg,aH,ev,aQ.S,aQ.H,ar,aT,b0,jO,h5,HR.okB,aM,AV.aG,bz]
  intro S4 H4 s4;refine SW.ret ⟨(eD.plain rfl).mark hD,rfl,.bool r,?_,by rw[hr]⟩;show cy prog 15 [.tmp 4] S4 H4=_;simp[cy,cJ,cK,s4,AV.bT,AV.out]
 refine SW.block (SW.range hG cV (KW:=.tmp 9) (y:=.t 9) (p:=10) (f:=187) (caps:=[.ref (fA.map AV.bH),.ref [vI out]]) (xs:=fp.map (aL out)) rfl s9 (by kernel_rfl) rfl hit (by decide) (λx hx=>by obtain⟨e,_,rfl⟩:=adx.1 hx;rfl)
  (λd=>d==6) (aa:=.ops [⟨(some 6),none,.alloc 39 [(.slice .nil []),(.slice .nil [])]⟩,⟨none,none,.store .any 2 (.t 6) (.t 10)⟩]) (ab:=.block 1 (.seq (.ops [⟨some 11,none,.load .any true 11 (.t 2)⟩,⟨some 12,none,.load .any true 2 (.t 6)⟩,⟨some 13,none,.call 149 [(.t 11),(.t 12),(.c (.int .i64 0))]⟩]) (.cond (.t 13) (.seq (.ops [⟨none,none,.store .any 1 (.t 5) (.c (.bool true))⟩]) (.exit 0)) .skip)))
  (by kernel_rfl) (by kernel_rfl) (by simp[af.names,cC.je,fw.je]) (by simp[af.names,cC.je,fw.je]) (λ_ _ h=>h) (by kernel_rfl) (by kernel_rfl)
  (λk H'=>H' 2=some (fA.map AV.aG)/\H' 5=some [.bool false]/\(fp.take k).any p=false) (λe H'=>e=.exit 0/\H' 5=some [.bool true]/\fp.any p=true) ⟨h2,h5,rfl⟩ ?_ ?_ ?_)
 .rintro k hk H' ⟨h2,h5,ji⟩
  have dP:k<fp.length:=by simpa using hk
  have yf:(fp.map (aL out))[k]=aL out fp[k]:=by simp
  have hf:=Ke fp[k] (ada dP)
  have lT:fp.take (k+1)=fp.take k++[fp[k]]:=by rw[adj dP]
  have e7:∀H,fz H (.agg (fA.map AV.aG))=.agg (fA.map AV.bH):=λH=>by simp only[fz,gI,AV.vw,aeh,lk]
  have e8:∀H,fz H (.agg [.slice .view (ints out),.slice .view (aO fp[k])])=aL out fp[k]:=λH=>rfl
  have e9:∀H,fz H (.int .i64 0)=.int .i64 0:=λH=>rfl
  have ht:List.take 11 (List.map AV.aG fA)=fA.map AV.aG:=adn (by simp;omega);rw[yf,lT,List.any_append];simp[bC,bn,aF,bg,aH,ev,aQ.S,aQ.H,ar,aT,aM,bX,wR,jO,h2,h5,HR.okB,aL,AV.cells,AV.storable,AV.aG,bo,AV.bZ,bz,cU,db,b0,fS,ht,kE,hl,e7,e8,e9];refine⟨by kernel_rfl,_,hf,by simp[df],?_⟩
  cases hp:p fp[k]with
  |false=>simp[iD,oG,h2,h5,hp,ar];simpa using ji
  |true=>
   have K8:∃x,x∈fp/\p x=true:=⟨_,ada dP,hp⟩
   simp[iD,oG,hp,ar,h2,K8]
 .rintro D H' hD ⟨h2,h5,ji⟩;have lT:List.take (fp.map (aL out)).length fp=fp:=adn (by simp);rw[lT]at ji;exact rest D H' false hD h5 ji.symm
 .rintro D e H' hD _ ⟨rfl,h5,hy⟩;exact rest D H' true hD h5 hy.symm
structure j7 where
 l:Int
 r:Int
 lo:Int
 hi:Int
def dq(p:j7):AV:=.agg [.int .i64 p.l,.int .i64 p.r,.int .i64 p.lo,.int .i64 p.hi]
def pf(p:j7):AV:=.agg [.int .i64 p.l,.int .i64 p.r]
def lK(p:j7):AV:=.agg [.int .i64 p.lo,.int .i64 p.hi]
def bt(ps:List j7):AV:=.map (ps.map pf) (ps.map lK)
def X5(es:Array MapEntry)(ps:List j7):Prop:=es.size=ps.length/\∀i (h:i<es.size)(h':i<ps.length),(es[i]).key=.agg #[.int .i64 (ps[i]).l,.int .i64 (ps[i]).r]/\(es[i]).val=.agg #[.int .i64 (ps[i]).lo,.int .i64 (ps[i]).hi]
theorem GA{Pr:Nat->Nat->Prop}{w:World}(x y:Int):RD Pr w (.agg [.int .i64 x,.int .i64 y]) (.agg #[.int .i64 x,.int .i64 y]):=by
 refine .agg _ _ rfl (λi hi=>?_) (λi hi eb=>?_)
 .match i,hi with
  |0,_=>rfl
  |1,_=>rfl
 .match i,hi with
  |0,_=>exact .int _ _
  |1,_=>exact .int _ _
theorem uK(x y:Int):∀(ps:List j7),(∀p∈ps,¬(p.l=x/\p.r=y))->oF [x,y] (ps.map pf) (ps.map lK)=some none
 |[],_=>rfl
 |p::ps,h=>by
  have hp:([x,y]==[p.l,p.r])=false:=by
   have:=h p adt;simp only[adW,ne_eq,afe,agu];rintro⟨rfl,rfl⟩;exact this ⟨rfl,rfl⟩
  show oF [x,y] (pf p::ps.map pf) (lK p::ps.map lK)=some none;unfold oF;simp only[pf,ny,Option.map_some];simp only[List.length_cons,List.length_nil,ne_eq,ae5,adz,hp,adl]
  exact uK x y ps λq hq=>h q (ado _ hq)
def oM(cc:Nat->Nat->Prop)(w:World)(b:Nat)(es:Array MapEntry)(clock:Nat):Old:={ Old.plain cc w with bf:=ar (λ_=>none) b (some (.map es clock)) }
def CZ(sA:List AV)(ps:List j7)(z:List AV)(b j:Nat)(S:av)(H:aD):Prop:=
 S 2=.box 2 0/\S 3=.box 3 0/\S 10=.slice .view (ps.map dq)/\S 11=.int .i64 ps.length/\S 12=.int .i64 (j:Nat)/\H 2=some z/\H 3=some (sA.map AV.aG++[.val (.map (some b))])
theorem DA{Pr:Nat->Nat->Prop}{al:Nat->Option Nat}{w:World}{x y:Int}{c:Value}(h:RV Pr al w (.agg [.int .i64 x,.int .i64 y]) c):c=.agg #[.int .i64 x,.int .i64 y]:=by
 cases h with
 |data _ _ h=>
  cases h with
  |agg _ vs hl h1 hr=>
   congr 1
   apply aeI
   .rw[<-hl];rfl
   .intro i hi eb
    have pI:i<2:=by simpa using eb
    match i,pI with
    |0,_=>exact(RV.data (al:=cj) _ _ (hr 0 (by simp) hi)).int_eq
    |1,_=>exact(RV.data (al:=cj) _ _ (hr 1 (by simp) hi)).int_eq
theorem F3{b:Nat}{ks vs:List AV}{x:AV}(h:isVal x=false):t_ b ks vs x.aG=x.aG:=by
 cases x<;>first|rfl|(cases h;done)|skip
 rename_i o es;cases o<;>rfl
theorem E8{P:Program}{t kt el:TypeId}(h:(P.underlying t).map (λd=>match d with|.map k e=>some (k,e)|_=>none)=some (some (kt,el))):P.underlying t=some (.map kt el):=by
 cases hi:P.underlying t with
 |none=>rw[hi]at h;cases h
 |some d=>
  rw[hi]at h
  cases d<;>simp at h
  obtain⟨rfl,rfl⟩:=h;rfl
def Eh:TypeDesc->Bool
 |.struct _=>true
 |_=>false
theorem cd{P:Program}{t:TypeId}(h:(P.underlying t).map Eh=some true):∃fs,P.underlying t=some (.struct fs):=by
 cases hi:P.underlying t with
 |none=>rw[hi]at h;cases h
 |some d=>
  rw[hi]at h
  cases d<;>first|(cases h;done)|exact⟨_,rfl⟩
noncomputable def s_:af:=af.qb c79.qb.qb.qa.qb.qb.qb.qb
theorem YE (hG:aw GI) {sA:List AV} {ps:List j7} (hl:sA.length=10) (vR:sA[1]? = some (.slice .view (ps.map dq))) (jC:∀ x∈sA,x.storable=true∧isVal x=false) (hlen:ps.length≤100000) (fk:∀ i j (hi:i < ps.length) (hj:j < ps.length),i < j→¬ ((ps[i]).l=(ps[j]).l∧(ps[i]).r=(ps[j]).r)) :
  AC prog GI 79 [.agg sA] (.ret (.agg ((sA++[bt ps]).map AV.bH))):=by
 refine AC.iF func79 rfl ntmps79 (by simp) λcc w=>?_
 refine dU hG c79.qa (λS' H'=>S' 1=.box 1 0/\S' 2=.box 2 0/\H' 1=some (sA.map AV.aG)/\∃z,H' 2=some z/\z.length=11) ?_ ?_
 .simp[c79,af.qa,bC,bn,aF,bg,aH,ev,aQ.S,aQ.H,ar,aT,AL.start,AV.aG,AV.cells,AV.storable,hl,bX,bz,aM]
 rintro S1 H1 ⟨s1,s2,h1,z,h2,hz⟩
 refine SW.seq (SW.mid hG (p:=1) (oh:={ dst:=some 7,op := .makeMap 106 none,type:=106,pos := "letter.go:113",after := #[],guard:=none }) (kd:=[_]) (lI:=[_,_,_]) (l2:=[2,3,4]) rfl rfl rfl rfl (by kernel_rfl) rfl (λ_ h=>h) (lU:=(c79.qb.qa.dl).take 1) (kZ:=(c79.qb.qa.dl).drop 2) (by kernel_rfl) (by kernel_rfl) (by kernel_rfl) (by kernel_rfl)
  (K1:=λS' H'=>S' 1=.box 1 0/\S' 2=.box 2 0/\S' 6=.agg (sA.map AV.aG)/\H' 1=some (sA.map AV.aG)/\H' 2=some z)
  (K2:=λo S' H'=>∃b,o=oM cc w b #[] 0/\S' 1=.box 1 0/\S' 2=.box 2 0/\S' 6=.agg (sA.map AV.aG)/\S' 7=.val (.map (some b))/\H' 1=some (sA.map AV.aG)/\H' 2=some z)
  (K3:=λo S' H'=>∃b,o=oM cc w b #[] 0/\S' 1=.box 1 0/\S' 2=.box 2 0/\S' 3=.box 3 0/\H' 1=some (sA.map AV.aG)/\H' 2=some z/\H' 3=some (sA.map AV.aG++[.val (.map (some b))])) ?_ ?_ ?_ ?_)
 .have ht:List.take 10 (sA.map AV.aG)=sA.map AV.aG:=adn (by simp;omega);simp[c79,af.qa,af.qb,af.dl,bn,aF,bg,aH,ev,aQ.S,aQ.H,ar,aT,b0,s1,s2,h1,h2,HR.okB,hl,fS,ht]
 .rintro w0 g S2 H2 a w2 ho R ⟨s1,s2,s6,h1,h2⟩;have R2:=R.lO (.map #[] 0);refine⟨_,_,_,ar S2 7 (.val (.map (some w2.heap.size))),H2,.inl (run_makeMap rfl),R2.put 7 (.val (.map (some w2.heap.size))) _ (by decide) (.data _ _ (.val _ rfl)) trivial,w2.heap.size,?_,by simp[ar,s1],by simp[ar,s2],by simp[ar,s6],by simp[ar],h1,h2⟩;show({ g.old with bf:=ar g.old.bf w2.heap.size (some (.map #[] 0)) }:Old)=_;rw[ho];rfl
 .rintro o S2 H2 ⟨b,rfl,s1,s2,s6,s7,h1,h2⟩;refine⟨λ_ h=>h,?_⟩
  have kK:∀x∈sA.map AV.aG,x.storable=true:=by
   intro x hx;obtain⟨y,hy,rfl⟩:=adx.1 hx;rw[AV.yl];exact(jC y hy).1
  have jB:∀c:AV,bo (bo [.slice .nil [],.slice .nil [],.int .i64 0,.int .i64 0,.int .i64 0,.int .i64 0,.int .i64 0,.slice .nil [],.int .i64 0,.int .i64 0,.map [] []] 0 (sA.map AV.aG)) 10 [c]=sA.map AV.aG++[c]:=by
   intro c
   have e1:bo [.slice .nil [],.slice .nil [],.int .i64 0,.int .i64 0,.int .i64 0,.int .i64 0,.int .i64 0,.slice .nil [],.int .i64 0,.int .i64 0,.map [] []] 0 (sA.map AV.aG)=sA.map AV.aG++[AV.map [] []]:=by
    simp[bo,hl]
   rw[e1];simp[bo,hl]
  have acA:∀c:AV,bo [.slice .nil [],.slice .nil [],.int .i64 0,.int .i64 0,.int .i64 0,.int .i64 0,.int .i64 0,.slice .nil [],.int .i64 0,.int .i64 0,.map [] []] 0 (sA.map AV.aG++[c])=sA.map AV.aG++[c]:=by
   intro c;simp[bo,hl]
  have xD:(bo [AV.slice .nil [],.slice .nil [],.int .i64 0,.int .i64 0,.int .i64 0,.int .i64 0,.int .i64 0,.slice .nil [],.int .i64 0,.int .i64 0,.map [] []] 0 (sA.map AV.aG)).length=11:=by simp[bo,hl]
  simp[c79,af.qa,af.qb,af.dl,bn,aF,bg,aH,ev,aQ.S,aQ.H,ar,aT,bI,s6,s7,AV.cells,AV.aG,AV.storable,hl,xD,jB]
  have e3:(List.map AV.aG sA++[AV.val (Value.map (some b))]).map AV.aG=List.map AV.aG sA++[AV.val (Value.map (some b))]:=by simp[fS,AV.aG]
  simp[HR.okB,bX,bz,AV.bZ,hl,fS,AV.aG,ar,h1,h2,s1,s2];simp[bo,hl]
 .rintro o S2 H2 ⟨b,rfl,s1,s2,s3,h1,h2,h3⟩;show SW prog GI 27 none (.seq (.seq _ (.block 0 (.loop _))) (.seq _ .ret)) _ _ _ _;refine SW.seq (dU hG c79.qb.qb.qa.qa (λS' H'=>S' 2=.box 2 0/\S' 3=.box 3 0/\S' 10=.slice .view (ps.map dq)/\S' 11=.int .i64 ps.length/\S' 12=.int .i64 0/\H' 2=some z/\H' 3=some (sA.map AV.aG++[.val (.map (some b))])) ?_ ?_)
  .have Ap:(sA.map AV.aG)[1]?=some (.slice .view (ps.map dq)):=by rw[adI,vR];rfl
   simp[c79,af.qa,af.qb,bC,bn,aF,bg,aH,aM,ev,aQ.S,aQ.H,ar,aT,b0,s1,s2,s3,h1,h2,h3,HR.okB,Ap,AV.aG]
  rintro S3 H3 ⟨s2,s3,bL,bG,bU,h2,h3⟩
  refine SW.block (SW.loop (λo S' H'=>∃j es clock,j<=ps.length/\o=oM cc w b es clock/\X5 es (ps.take j)/\S' 2=.box 2 0/\S' 3=.box 3 0/\S' 10=.slice .view (ps.map dq)/\S' 11=.int .i64 ps.length/\S' 12=.int .i64 (j:Nat)/\H' 2=some z/\H' 3=some (sA.map AV.aG++[.val (.map (some b))]))
   (λS' _=>match S' 12 with|.int _ j=>ps.length-j.toNat|_=>0) ⟨0,#[],0,adZ _,rfl,⟨by simp,λi h=>by simp at h⟩,s2,s3,bL,bG,bU,h2,h3⟩ ?_)
  rintro o S4 H4 ⟨j,es,clock,hj,rfl,pj,s2,s3,bL,bG,bU,h2,h3⟩;have m12:=bU;show SW prog GI 27 none (.seq _ (.seq (.cond _ _ _) (.seq (.block 1 (.seq _ _)) _))) _ _ _ _;refine dU hG c79.qb.qb.qa.qb.qb.qb.qa (λS' H'=>S' 13=.bool (decide (j<ps.length))/\CZ sA ps z b j S' H') ?_ ?_
  .simp[c79,af.qa,af.qb,bC,bn,aF,bg,aH,aM,ev,aQ.S,aQ.H,ar,aT,CZ,s2,s3,bL,bG,bU,h2,h3,dS]
  rintro S5 H5 ⟨cz,hF⟩
  by_cases au:j<ps.length
  case neg=>
   refine SW.seq (SW.cond rfl false (by show S5 13=_;rw[cz];simp[au]) (SW.exit ?_))
   have nc:j=ps.length:=by omega
   subst nc;rw[aea]at pj;obtain⟨s2,s3,bL,bG,bU,h2,h3⟩:=hF;show SW prog GI 27 none (.seq _ .ret) _ _ _ _;refine dU hG c79.qb.qb.qb.qa (λS' H'=>S' 2=.box 2 0/\H' 2=some (sA.map AV.aG++[.val (.map (some b))])) ?_ ?_
   .have e3:(List.map AV.aG sA++[AV.val (Value.map (some b))]).map AV.aG=List.map AV.aG sA++[AV.val (Value.map (some b))]:=by simp[fS,AV.aG]
    have ht:List.take 11 (List.map AV.aG sA++[AV.val (Value.map (some b))])=List.map AV.aG sA++[AV.val (Value.map (some b))]:=adn (by simp[hl]);have U1:List.drop 11 z=[]:=aes (by omega);simp[c79,af.qa,af.qb,bC,bn,aF,bg,aH,aM,ev,aQ.S,aQ.H,ar,aT,s2,s3,h2,h3,b0,HR.okB,hl,AV.cells,AV.storable,AV.bZ,bo,bz,fS,AV.aG,ht,hz,U1]
   rintro S6 H6 ⟨s2,h2⟩;refine SW.ghost (K:=λo S' H'=>eD o/\o.c=cc/\S' 2=.box 2 0/\H' 2=some (sA.map AV.aG++[bt ps])) ?_ ?_
   .intro w0 g a w' hg R
    have hk:g.old.bf b=some (.map es clock):=by rw[hg];show ar (λ_=>none) b _ b=_;exact aS _ _ _
    obtain⟨g2,me,R2⟩:=R.Q8 hk (ps.map pf) (ps.map lK) (by simpa using pj.1.symm) (by simpa using pj.1.symm) (λi h h'=>by
     simp only[adi]at h;simp only[adp,(pj.2 i h' h).1]
     exact GA _ _) (λi h h'=>by
     simp only[adi]at h;simp only[adp,(pj.2 i h' h).2]
     exact GA _ _) (by rw[hg];rfl)
    refine⟨g2,_,_,R2,eD.plain (by rw[me,hg];rfl),by rw[me,hg];rfl,by simp[s2],?_⟩
    have hgm:(sA.map AV.aG).map (t_ b (ps.map pf) (ps.map lK))=sA.map AV.aG:=by
     rw[aeh]
     exact aed λx hx=>F3 (jC x hx).2
    show(H6 2).map _=_;rw[h2];simp only[Option.map_some,adD,hgm,adC,adO];simp[t_,bt]
   .rintro o S7 H7 ⟨hm,hc,s2,h2⟩;obtain⟨i103,T9,Vx⟩:=bp (P:=prog) (t:=108) (s:=11) (by kernel_rfl);obtain⟨fs,fE⟩:=cd (P:=prog) (t:=108) (by kernel_rfl);refine SW.ret ⟨hm,hc,_,?_,rfl⟩;show cy prog 27 [.cell 2 108] S7 H7=_;have ht:List.take 11 (sA.map AV.aG++[bt ps])=sA.map AV.aG++[bt ps]:=adn (by simp[hl]);have jB:(bt ps).aG=bt ps:=rfl;have BD:(bt ps).bH=bt ps:=rfl;simp[cy,cJ,cK,s2,h2,T9,fE,Vx,b0,eS,hl,AV.out,jB,BD,fS,lk];exact adn (by simp[hl])
  case pos=>
   refine SW.seq (SW.cond rfl true (by show S5 13=_;rw[cz];simp[au]) (SW.skip ?_));show SW prog GI 27 none (.seq (.block 1 (.seq _ _)) _) _ _ _ _;obtain⟨s2,s3,bL,bG,bU,h2,h3⟩:=hF;refine SW.seq (SW.block (dU hG c79.qb.qb.qa.qb.qb.qb.qb.qb.qa.qb.qa (λS' H'=>S' 5=.box 5 0/\H' 5=some (dq ps[j]).cells/\CZ sA ps z b j S' H') ?_ ?_))
   .have cI:¬(j:Int)<0:=by omega
    simp[c79,af.qa,af.qb,bC,bn,aF,bg,aH,aM,ev,aQ.S,aQ.H,ar,aT,CZ,s2,s3,bL,bG,bU,h2,h3,au,b0,dq,AV.cells,AV.aG,bX,HR.okB,AV.storable,bo,AV.bZ,bz]
   rintro S6 H6 ⟨s5,h5,s2,s3,bL,bG,bU,h2,h3⟩
   have U6:∀q∈ps.take j,¬(q.l=ps[j].l/\q.r=ps[j].r):=by
    intro q hq;obtain⟨i,hi,rfl⟩:=adG hq
    have pK:i<j:=by simp at hi;omega
    rw[afk];exact fk i j (by omega) au pK
   refine SW.mid hG (p:=9) (oh:={ dst:=none,op := .mapUpdate 106 (.tmp 17) (.tmp 22) (.tmp 24),type:=0,pos := "letter.go:115",after:=_,guard:=none }) (kd:=[_,_,_,_,_,_,_,_,_]) (lI:=[]) (l2:=[]) rfl rfl rfl rfl (by kernel_rfl) rfl (λ_ h=>h) (lU:=(s_.qa.qb.qb.dl).take 9) (kZ:=[]) (by kernel_rfl) rfl (by kernel_rfl) rfl
    (K1:=λS' H'=>S' 17=.val (.map (some b))/\S' 22=.agg [.int .i64 ps[j].l,.int .i64 ps[j].r]/\S' 24=.agg [.int .i64 ps[j].lo,.int .i64 ps[j].hi]/\CZ sA ps z b j S' H')
    (K2:=λo S' H'=>o=oM cc w b (es.push { key:=.agg #[.int .i64 ps[j].l,.int .i64 ps[j].r],val:=.agg #[.int .i64 ps[j].lo,.int .i64 ps[j].hi],born:=clock }) (clock+1)/\CZ sA ps z b j S' H')
    (K3:=λo S' H'=>o=oM cc w b (es.push { key:=.agg #[.int .i64 ps[j].l,.int .i64 ps[j].r],val:=.agg #[.int .i64 ps[j].lo,.int .i64 ps[j].hi],born:=clock }) (clock+1)/\CZ sA ps z b j S' H') ?_ ?_ ?_ ?_
   .have Z7:(List.map AV.aG sA++[AV.val (Value.map (some b))])[10]? = some (.val (.map (some b))):=by
     rw[aeA (by simp[hl])];simp[hl]
    have XV:List.drop 10 (List.map AV.aG sA++[AV.val (Value.map (some b))])=[AV.val (Value.map (some b))]:=by
     rw[afL (by simp[hl]),aes (by simp[hl])];rfl
    simp[c79,s_,af.qa,af.qb,af.dl,bn,aF,bg,aH,ev,aQ.S,aQ.H,ar,aT,CZ,s2,s3,s5,bL,bG,bU,h2,h3,h5,b0,dq,AV.cells,AV.aG,HR.okB,AV.storable,bI,bo,Z7,XV]
   .rintro w0 g S7 H7 a w7 hg R ⟨jS,tB,u_,hF⟩;have t17:=R.slot 17 (by decide) (λh=>h);rw[jS]at t17;have t17:=t17.fG;have t22:=R.slot 22 (by decide) (λh=>h);rw[tB]at t22;have t22:=DA t22;have t24:=R.slot 24 (by decide) (λh=>h);rw[u_]at t24;have t24:=DA t24
    have hk:g.old.bf b=some (.map es clock):=by rw[hg];show ar (λ_=>none) b _ b=_;exact aS _ _ _
    have hb:=(R.kept b _ hk).2.1;have gE:=E8 (P:=prog) (t:=106) (kt:=175) (el:=26) (by kernel_rfl);obtain⟨fs,fE⟩:=cd (P:=prog) (t:=175) (by kernel_rfl);have xn:(ps.take j).length=es.size:=pj.1.symm;refine⟨undef,_,_,S7,H7,.inr ⟨Jh (Pr:=λ_ _=>False) (ks:=(ps.take j).map pf) (vs:=(ps.take j).map lK) (key:=[ps[j].l,ps[j].r]) rfl gE fE (k:=2) (by kernel_rfl) t17 t22 t24 hb rfl (by simpa using xn) (by simpa using xn) (λi h h'=>?_) (λi h h'=>?_) (uK _ _ _ U6),rfl⟩,R.mF hk _,?_,hF⟩
    .simp only[adi]at h;simp only[adp,(pj.2 i h' h).1];exact GA _ _
    .simp only[adi]at h;simp only[adp,(pj.2 i h' h).2];exact GA _ _
    .show({ g.old with bf:=ar g.old.bf b _ }:Old)=_;rw[hg];simp only[oM,Old.mk.injEq,agV,agu]
     funext c
     by_cases hc:c=b
     .subst hc;simp[ar,kv]
     .simp[ar,hc]
   .rintro o S7 H7 h;exact⟨by rw[h.1];exact λ_ h=>h,h⟩
   .rintro o S7 H7 ⟨rfl,s2,s3,bL,bG,bU,h2,h3⟩;show SW prog GI 27 none _ _ _ _ _;refine SW.og hG cV (by kernel_rfl) (λ_ _ h=>h) (ac:=af.qb s_) (by kernel_rfl) ?_;have oW:IntKind.i64.wrap ((j:Int)+1)=j+1:=aN (by omega)
    have Us:X5 (es.push { key:=.agg #[.int .i64 ps[j].l,.int .i64 ps[j].r],val:=.agg #[.int .i64 ps[j].lo,.int .i64 ps[j].hi],born:=clock }) (ps.take (j+1)):=by
     have hts:ps.take (j+1)=ps.take j++[ps[j]]:=by rw[adj au]
     rw[hts];refine⟨by simp[pj.1];omega,λi h h'=>?_⟩
     by_cases hi:i<es.size
     .have pI:i<(ps.take j).length:=by rw[<-pj.1];exact hi
      have:=pj.2 i hi pI;rw[Array.getElem_push_lt hi,adA pI];exact this
     .have Ir:i=es.size:=by simp at h;omega
      subst Ir
      have pI:(ps.take j).length<=es.size:=by rw[<-pj.1];exact adh _
      rw[Array.getElem_push_eq,ad_ pI];simp
    simp[c79,s_,af.qa,af.qb,bC,bn,aF,bg,aH,ev,aQ.S,aQ.H,ar,aT,s2,s3,bL,bG,bU,h2,h3,dS,AV.aG,oW,jM.bC,thenS];refine⟨⟨j+1,au,_,⟨_,rfl⟩,Us,by omega⟩,?_⟩;rw[m12];show ps.length-(j+1)<ps.length-(j:Int).toNat;rw[Int.toNat_natCast];omega
structure Word where
 aK:List Int
 bK:List Int
 free:Bool
def bD(w:Word):AV:=.agg [vI w.aK,vI w.bK,.bool w.free]
structure YQ where
 P4:List AV
 cut:Bool
def A1(l:YQ):AV:=.agg [.slice .view l.P4,.bool l.cut]
def ML(GI:World->Prop):Prop:=∀w,GI w->∃m,w.cell? ⟨1,0,none⟩=some (.int .i64 m)
theorem jV{w0:World}{n:Nat}{g:Gh}{S:av}{H:aD}{a:Act}{w:World}(R:Rel prog w0 n cm g S H a w){t i:Nat}(ht:t<n)(hs:S t=.box i 0):∃b,g.al i=some b/\a.tmps.getD t undef=.pointer (some ⟨b,0,none⟩):=by
 have h:=R.slot t ht id;rw[hs]at h;generalize a.tmps.getD t undef=c at h
 cases h with
 |data _ _ h=>cases h
 |box _ _ b h=>exact⟨b,h,rfl⟩
theorem qv{w0:World}{n:Nat}{g:Gh}{S:av}{H:aD}{a:Act}{w:World}(R:Rel prog w0 n cm g S H a w){t:Nat}{k:Int}(ht:t<n)(hs:S t=.int .i64 k):a.tmps.getD t undef=.int .i64 k:=by
 have h:=R.slot t ht id;rw[hs]at h;exact h.int_eq
theorem VL{Pr:Nat->Nat->Prop}{al:Nat->Option Nat}{w:World}{x y:Int}{c:Value}(h:RV Pr al w (.agg [.int .i64 x,.int .i64 y]) c):c=.agg #[.int .i64 x,.int .i64 y]:=by
 cases h with
 |data _ _ h=>
  cases h with
  |agg cs vs hl nu hr=>
   have hs:vs.size=2:=by rw[<-hl];rfl
   have h0:=(RV.data (al:=cj) _ _ (hr 0 (by simp) (by omega))).int_eq;have h1:=(RV.data (al:=cj) _ _ (hr 1 (by simp) (by omega))).int_eq
   congr 1
   apply aeI
   .simpa using hs
   .intro i h2 h3
    match i,h3 with
    |0,_=>exact h0
    |1,_=>exact h1
end Go.Proofs.Tryz
namespace Go.AL
def iO(c:UInt8):List UInt8->List (List UInt8)
 |[]=>[[]]
 |b::l=>if b=c then[]::iO c l else match iO c l with
  |[]=>[[b]]
  |p::ps=>(b::p)::ps
theorem Bx{b c:UInt8}(h:b≠c)(k:Nat)(l:List UInt8):Lib.splitK [c] 0 k (b::l)=match Lib.splitK [c] 0 k l with|[]=>[[b]]|p::ps=>(b::p)::ps:=by
 cases k with
 |zero=>rfl
 |succ k=>
  have hp:[c].isPrefixOf (b::l)=false:=by simp[List.isPrefixOf];exact λe=>(h e.symm).elim
  unfold Lib.splitK
  have hi:Lib.index (b::l) [c]=if Lib.index l [c]== -1 then-1 else Lib.index l [c]+1:=by
   rw[Lib.index];simp[hp]
  rw[hi];have hg:=Lib.index_ge l [c]
  by_cases h1:Lib.index l [c]= -1
  .simp[h1]
  .have h2:(Lib.index l [c]== -1)=false:=by simpa using h1
   have h3:(Lib.index l [c]+1== -1)=false:=by simp;omega
   simp only[h2,adl,adz,h3]
   have e:(Lib.index l [c]+1).toNat=(Lib.index l [c]).toNat+1:=by omega
   rw[e];simp[Nat.add_right_comm]
theorem tj(c:UInt8):∀l:List UInt8,Lib.splitK [c] 0 (l.count c) l=iO c l
 |[]=>rfl
 |b::l=>by
  by_cases h:b=c
  .subst h
   have hp:[b].isPrefixOf (b::l)=true:=by simp[List.isPrefixOf]
   have hi:Lib.index (b::l) [b]=0:=by rw[Lib.index];simp[hp]
   rw[List.count_cons_self,Lib.splitK,hi];simp[iO,tj b l]
  .rw[List.count_cons_of_ne h,Bx h,tj c l,iO,if_neg h]
def oZ{α:Type}(d:AV->Option α):List AV->Option (List α)
 |[]=>some []
 |x::l=>match d x with
  |some a=>match oZ d l with
   |some r=>some (a::r)
   |none=>none
  |none=>none
def CI:AV->Option Int
 |.int .i64 n=>some n
 |_=>none
def OA:AV->Option (List Int)
 |.slice .view es=>oZ CI es
 |_=>none
section
variable{P:Program}{GI:World->Prop}
def kO(P:Program)(GI:World->Prop)(rest:List cC)(K:av->aD->Prop)(Qp:AV->Prop)(S:av)(dst:Option Nat)(H:aD)(v:AV):Prop:=bn P GI rest K Qp (aT S dst v) H
def kD(P:Program)(GI:World->Prop)(rest:List cC)(K:av->aD->Prop)(S:av)(dst:Option Nat)(H:aD)(v:AV):Prop:=dc P GI rest K (aT S dst v) H
def gB(P:Program)(GI:World->Prop)(y:af)(Q:dp->av->aD->Prop)(e:dp)(S:av)(H:aD):Prop:=cU (bC P GI y Q) Q e S H
def iN(Q:dp->av->aD->Prop)(S:av)(H:aD)(v:AV):Prop:=Q (.panic v) S H
theorem ef(K Qp S H):bn P GI [] K Qp S H=K S H:=(Eq.refl _).trans (Eq.refl _)
theorem dI(K S H):dc P GI [] K S H=K S H:=(Eq.refl _).trans (Eq.refl _)
theorem dJ (f args d g rest K Qp S H):bn P GI (⟨d,g,.call f args⟩::rest) K Qp S H=(match aF S g with
  |some true=>kE P GI f (args.map λy=>fz H (ev S y)) (args.any λy=>df (ev S y)) (kO P GI rest K Qp S d H) Qp
  |some false=>bn P GI rest K Qp (aT S d b_) H
  |none=>False):=(Eq.refl _).trans (Eq.refl _)
theorem cZ (f args d g rest K Qp S H):bn P GI (⟨d,g,.ik f args⟩::rest) K Qp S H=(match aF S g with
  |some true=>(match ev S f with
   |.func (.func k) first cap=>kE P GI k ((first++args.map (ev S)++cap).map (fz H)) ((first++args.map (ev S)++cap).any df) (kO P GI rest K Qp S d H) Qp
   |_=>False)
  |some false=>bn P GI rest K Qp (aT S d b_) H
  |none=>False):=(Eq.refl _).trans (Eq.refl _)
abbrev OE(P:Program)(GI:World->Prop)(op:fw):Prop:=∀d g rest K Qp S H,bn P GI (⟨d,g,op⟩::rest) K Qp S H=(match aF S g with|some true=>(match aH S H op with|some e=>bn P GI rest K Qp (e.S S d) (e.H H)|none=>False)|some false=>bn P GI rest K Qp (aT S d b_) H|none=>False)
abbrev DE(P:Program)(GI:World->Prop)(op:fw):Prop:=∀d g rest K S H,dc P GI (⟨d,g,op⟩::rest) K S H=(match aF S g with|some true=>(match aH S H op with|some e=>dc P GI rest K (e.S S d) (e.H H)|none=>False)|some false=>dc P GI rest K (aT S d b_) H|none=>False)
theorem c_(t zero d rest K Qp S H):bn P GI (⟨some d,none,.alloc t zero⟩::rest) K Qp S H=bn P GI rest K Qp (ar (λt=>bX d (S t)) d (.box d 0)) (ar H d (some zero)):=(Eq.refl _).trans (Eq.refl _)
theorem ee(t size x d rest K Qp S H):bn P GI (⟨some d,none,.box t size x⟩::rest) K Qp S H=((ev S x).cells.length=size/\(ev S x).storable=true/\bn P GI rest K Qp (ar (λt=>bX d (S t)) d (.box d 0)) (ar H d (some ((ev S x).cells.map AV.aG)))):=(Eq.refl _).trans (Eq.refl _)
theorem cW (f args d g rest K S H):dc P GI (⟨d,g,.call f args⟩::rest) K S H=(match aF S g with
  |some true=>(args.any λy=>df (ev S y))=false/\kE P GI f (args.map λy=>fz H (ev S y)) (args.any λy=>df (ev S y)) (kD P GI rest K S d H) (λ_=>False)
  |some false=>dc P GI rest K (aT S d b_) H
  |none=>False):=(Eq.refl _).trans (Eq.refl _)
theorem cE(t zero d rest K S H):dc P GI (⟨some d,none,.alloc t zero⟩::rest) K S H=dc P GI rest K (ar S d (.box d 0)) H:=(Eq.refl _).trans (Eq.refl _)
theorem gh(rest K Qp S d H v):kO P GI rest K Qp S d H v=bn P GI rest K Qp (aT S d v) H:=(Eq.refl _).trans (Eq.refl _)
theorem gj(rest K S d H v):kD P GI rest K S d H v=dc P GI rest K (aT S d v) H:=(Eq.refl _).trans (Eq.refl _)
theorem eT :
  (∀x0 x1,OE P GI (.mv x0 x1))/\
  (∀x0 x1 x2,OE P GI (.pick x0 x1 x2))/\
  (∀x0 x1,OE P GI (.build x0 x1))/\
  (∀x0 x1 x2 x3,OE P GI (.buildSlice x0 x1 x2 x3))/\
  (∀x0 x1 x2 x3,OE P GI (.load x0 x1 x2 x3))/\
  (∀x0 x1,OE P GI (.loadT x0 x1))/\
  (∀x0 x1 x2 x3,OE P GI (.store x0 x1 x2 x3))/\
  (∀x0 x1 x2,OE P GI (.bin x0 x1 x2))/\
  (∀x0 x1 x2,OE P GI (.F2 x0 x1 x2))/\
  (∀x0 x1 x2 x3,OE P GI (.eqs x0 x1 x2 x3))/\
  (∀x0 x1 x2 x3 x4,OE P GI (.nx x0 x1 x2 x3 x4))/\
  (∀x0,OE P GI (.zr x0))/\
  (∀x0,OE P GI (.pC x0))/\
  (∀x0 x1 x2,OE P GI (.pE x0 x1 x2))/\
  (∀x0 x1 x2 x3,OE P GI (.lookup x0 x1 x2 x3))/\
  (∀x0,OE P GI (.not x0))/\
  (∀x0 x1,OE P GI (.conv x0 x1))/\
  (∀x0 x1,OE P GI (.iface x0 x1))/\
  (∀x0 x1 x2,OE P GI (.GO x0 x1 x2))/\
  (∀x0 x1 x2,OE P GI (.pG x0 x1 x2))/\
  (∀x0 x1 x2 x3,OE P GI (.mS x0 x1 x2 x3))/\
  (∀x0 x1,OE P GI (.qq x0 x1))/\
  (∀x0 x1,OE P GI (.fieldAddr x0 x1))/\
  (∀x0 x1 x2,OE P GI (.indexAddr x0 x1 x2))/\
  (∀x0 x1,OE P GI (.pF x0 x1))/\
  (∀x0 x1,OE P GI (.extract x0 x1))/\
  (∀x0,OE P GI (.yK x0))/\
  (∀x0,OE P GI (.j6 x0))/\
  (∀x0 x1,OE P GI (.isNil x0 x1))/\
  (∀x0,OE P GI (.empty x0))/\
  (∀x0 x1 x2 x3 x4 x5,OE P GI (.append x0 x1 x2 x3 x4 x5))/\
  (∀x0 x1,OE P GI (.max x0 x1))/\
  (∀x0 x1,OE P GI (.min x0 x1))/\
  (∀x0 x1 x2,OE P GI (.assert x0 x1 x2)):=by
 refine⟨?_,?_,?_,?_,?_,?_,?_,?_,?_,?_,?_,?_,?_,?_,?_,?_,?_,?_,?_,?_,?_,?_,?_,?_,?_,?_,?_,?_,?_,?_,?_,?_,?_,?_⟩<;>intros<;>intro d<;>intros<;>rfl
theorem dW :
  (∀x0 x1,DE P GI (.mv x0 x1))/\
  (∀x0 x1 x2,DE P GI (.pick x0 x1 x2))/\
  (∀x0 x1,DE P GI (.build x0 x1))/\
  (∀x0 x1 x2 x3,DE P GI (.buildSlice x0 x1 x2 x3))/\
  (∀x0 x1 x2 x3,DE P GI (.load x0 x1 x2 x3))/\
  (∀x0 x1,DE P GI (.loadT x0 x1))/\
  (∀x0 x1 x2 x3,DE P GI (.store x0 x1 x2 x3))/\
  (∀x0 x1 x2,DE P GI (.bin x0 x1 x2))/\
  (∀x0 x1 x2,DE P GI (.F2 x0 x1 x2))/\
  (∀x0 x1 x2 x3,DE P GI (.eqs x0 x1 x2 x3))/\
  (∀x0 x1 x2 x3 x4,DE P GI (.nx x0 x1 x2 x3 x4))/\
  (∀x0,DE P GI (.zr x0))/\
  (∀x0,DE P GI (.pC x0))/\
  (∀x0 x1 x2,DE P GI (.pE x0 x1 x2))/\
  (∀x0 x1 x2 x3,DE P GI (.lookup x0 x1 x2 x3))/\
  (∀x0,DE P GI (.not x0))/\
  (∀x0 x1,DE P GI (.conv x0 x1))/\
  (∀x0 x1,DE P GI (.iface x0 x1))/\
  (∀x0 x1 x2,DE P GI (.GO x0 x1 x2))/\
  (∀x0 x1 x2,DE P GI (.pG x0 x1 x2))/\
  (∀x0 x1 x2 x3,DE P GI (.mS x0 x1 x2 x3))/\
  (∀x0 x1,DE P GI (.qq x0 x1))/\
  (∀x0 x1,DE P GI (.fieldAddr x0 x1))/\
  (∀x0 x1 x2,DE P GI (.indexAddr x0 x1 x2))/\
  (∀x0 x1,DE P GI (.pF x0 x1))/\
  (∀x0 x1,DE P GI (.extract x0 x1))/\
  (∀x0,DE P GI (.yK x0))/\
  (∀x0,DE P GI (.j6 x0))/\
  (∀x0 x1,DE P GI (.isNil x0 x1))/\
  (∀x0,DE P GI (.empty x0))/\
  (∀x0 x1 x2 x3 x4 x5,DE P GI (.append x0 x1 x2 x3 x4 x5))/\
  (∀x0 x1,DE P GI (.max x0 x1))/\
  (∀x0 x1,DE P GI (.min x0 x1))/\
  (∀x0 x1 x2,DE P GI (.assert x0 x1 x2)):=by
 refine⟨?_,?_,?_,?_,?_,?_,?_,?_,?_,?_,?_,?_,?_,?_,?_,?_,?_,?_,?_,?_,?_,?_,?_,?_,?_,?_,?_,?_,?_,?_,?_,?_,?_,?_⟩<;>intros<;>intro d<;>intros<;>rfl
theorem dF :
  (∀Q S H,bC P GI .skip Q S H=Q .normal S H)/\
  (∀l Q S H,bC P GI (.ops l) Q S H=bn P GI l (Q .normal) (iN Q S H) S H)/\
  (∀l Q S H,bC P GI (.dc l) Q S H=dc P GI l (Q .normal) (eY l S) (dQ l H))/\
  (∀x y Q S H,bC P GI (.seq x y) Q S H=bC P GI x (gB P GI y Q) S H)/\
  (∀c x y Q S H,bC P GI (.cond c x y) Q S H=(match ev S c with
   |.bool true=>bC P GI x Q S H
   |.bool false=>bC P GI y Q S H
   |.pX=>bC P GI x Q S H/\bC P GI y Q S H
   |_=>False))/\
  (∀id c Q S H,bC P GI (.block id c) Q S H=bC P GI c (db id Q) S H)/\
  (∀id Q S H,bC P GI (.exit id) Q S H=Q (.exit id) S H)/\
  (∀Q S H,bC P GI .ret Q S H=Q .ret S H)/\
  (∀y Q S H,gB P GI y Q .normal S H=bC P GI y Q S H)/\
  (∀y Q id S H,gB P GI y Q (.exit id) S H=Q (.exit id) S H)/\
  (∀y Q S H,gB P GI y Q .ret S H=Q .ret S H)/\
  (∀y Q v S H,gB P GI y Q (.panic v) S H=Q (.panic v) S H):=by
 refine⟨?_,?_,?_,?_,?_,?_,?_,?_,?_,?_,?_,?_⟩<;>intros<;>rfl
theorem fc :
  (∀id Q S H,db id Q .normal S H=Q .normal S H)/\
  (∀id j Q S H,db id Q (.exit j) S H=if j=id then Q .normal S H else Q (.exit j) S H)/\
  (∀id Q S H,db id Q .ret S H=Q .ret S H)/\
  (∀id Q v S H,db id Q (.panic v) S H=Q (.panic v) S H)/\
  (∀K Q S H,cU K Q .normal S H=K S H)/\
  (∀K Q id S H,cU K Q (.exit id) S H=Q (.exit id) S H)/\
  (∀K Q S H,cU K Q .ret S H=Q .ret S H)/\
  (∀K Q v S H,cU K Q (.panic v) S H=Q (.panic v) S H)/\
  (∀K S H,aM K .normal S H=K S H)/\
  (∀K id S H,aM K (.exit id) S H=False)/\
  (∀K S H,aM K .ret S H=False)/\
  (∀K v S H,aM K (.panic v) S H=False)/\
  (∀Q S H v,iN Q S H v=Q (.panic v) S H)/\
  (∀v K Qp,iD (.ret v) K Qp=K v)/\
  (∀v K Qp,iD (.panic v) K Qp=Qp v):=by
 refine⟨?_,?_,?_,?_,?_,?_,?_,?_,?_,?_,?_,?_,?_,?_,?_⟩<;>intros<;>rfl
end
section
variable{P:Program}{GI:World->Prop}
theorem uH{f:Nat}{args:List AV}{b:Bool}{K K':AV->Prop}{Qp Dd:AV->Prop}(hK:∀v,K v->K' v)(hQ:∀v,Qp v->Dd v)(h:kE P GI f args b K Qp):kE P GI f args b K' Dd:=by
 obtain⟨out,h1,h2,h3,h4⟩:=h;refine⟨out,h1,h2,h3,?_⟩
 cases out with
 |ret v=>exact hK _ h4
 |panic v=>exact hQ _ h4
theorem k_{op:fw}{dst:Option Nat}{K K':av->aD->Prop}{Qp Dd:AV->Prop}(hK:∀S H,K S H->K' S H)(hQ:∀v,Qp v->Dd v){S:av}{H:aD}(h:bg P GI op dst K Qp S H):bg P GI op dst K' Dd S H:=by
 by_cases hc:op.calm=true
 .rw[C6 hc]at h⊢;split at h
  .exact hK _ _ h
  .exact h
 .cases op<;>first|(exfalso;exact hc rfl)|skip
  case alloc=>simp only[bg]at h⊢;split at h<;>first|exact hK _ _ h|exact h
  case box=>simp only[bg]at h⊢;split at h<;>first|exact⟨h.1,h.2.1,hK _ _ h.2.2⟩|exact h
  case call=>exact uH (λv=>hK _ _) hQ h
  case ik=>simp only[bg]at h⊢;split at h<;>first|exact uH (λv=>hK _ _) hQ h|exact h
  case panic=>simp only[bg]at h⊢;split at h<;>first|exact hQ _ h|exact h
  case other=>exact h
theorem oJ{K K':av->aD->Prop}{Qp Dd:AV->Prop}(hK:∀S H,K S H->K' S H)(hQ:∀v,Qp v->Dd v):∀(l:List cC)(S:av)(H:aD),bn P GI l K Qp S H->bn P GI l K' Dd S H
 |[],S,H,h=>hK S H h
 |o::rest,S,H,h=>by
  simp only[bn]at h⊢;split at h
  .exact k_ (λS H=>oJ hK hQ rest S H) hQ h
  .exact oJ hK hQ rest _ _ h
  .exact h
theorem De{op:fw}{dst:Option Nat}{K K':av->aD->Prop}(hK:∀S H,K S H->K' S H){S:av}{H:aD}(h:i_ P GI op dst K S H):i_ P GI op dst K' S H:=by
 cases op
 case alloc=>simp only[i_]at h⊢;split at h<;>first|exact hK _ _ h|exact h
 case call=>exact⟨h.1,k_ hK (λ_ h=>h) h.2⟩
 case ik=>exact⟨h.1,k_ hK (λ_ h=>h) h.2⟩
 case box=>exact h.elim
 case panic=>exact h.elim
 case other=>exact h.elim
 all_goals
  simp only[i_]at h⊢;exact k_ hK (λ_ h=>h) h
theorem rr{K K':av->aD->Prop}(hK:∀S H,K S H->K' S H):∀(l:List cC)(S:av)(H:aD),dc P GI l K S H->dc P GI l K' S H
 |[],S,H,h=>hK S H h
 |o::rest,S,H,h=>by
  simp only[dc]at h⊢;split at h
  .exact De (λS H=>rr hK rest S H) h
  .exact rr hK rest _ _ h
  .exact h
theorem jZ{K K':av->aD->Prop}{Q Q':dp->av->aD->Prop}(hK:∀S H,K S H->K' S H)(h:∀e S H,Q e S H->Q' e S H)(e:dp)(S:av)(H:aD)(hq:cU K Q e S H):cU K' Q' e S H:=by
 cases e with
 |normal=>exact hK S H hq
 |exit id=>exact h _ S H hq
 |ret=>exact h _ S H hq
 |panic v=>exact h _ S H hq
theorem eJ:∀(c:af){Q Q':dp->av->aD->Prop}(_:∀e S H,Q e S H->Q' e S H){S:av}{H:aD},bC P GI c Q S H->bC P GI c Q' S H
 |.skip,_,_,h,_,_,hq=>h _ _ _ hq
 |.ops l,_,_,h,_,_,hq=>oJ (λS H=>h _ S H) (λv=>h _ _ _) l _ _ hq
 |.dc l,_,_,h,_,_,hq=>rr (λS H=>h _ S H) l _ _ hq
 |.seq x y,_,_,h,_,_,hq=>eJ x (jZ (λ_ _=>eJ y h) h) hq
 |.cond c x y,_,_,h,S,H,hq=>by
  simp only[bC]at hq⊢;split at hq
  .exact eJ x h hq
  .exact eJ y h hq
  .exact⟨eJ x h hq.1,eJ y h hq.2⟩
  .exact hq
 |.block id c,Q,Q',h,_,_,hq=>eJ c (fun e S H hb=>by
   cases e with
   |normal=>exact h _ S H hb
   |exit j=>
    by_cases hj:j=id
    .simp only[db,if_pos hj]at hb⊢;exact h _ S H hb
    .simp only[db,if_neg hj]at hb⊢;exact h _ S H hb
   |ret=>exact h _ S H hb
   |panic v=>exact h _ S H hb) hq
 |.loop c,_,_,h,_,_,⟨I,μ,h0,hi⟩=>⟨I,μ,h0,λS H hI=>eJ c (jZ (λ_ _ h=>h) h) (hi S H hI)⟩
 |.exit id,_,_,h,_,_,hq=>h _ _ _ hq
 |.ret,_,_,h,_,_,hq=>h _ _ _ hq
 |.bad,_,_,_,_,_,hq=>hq
theorem aI{x y:af}{Q:dp->av->aD->Prop}{S:av}{H:aD}(K:av->aD->Prop)(hx:bC P GI x (aM K) S H)(hy:∀S' H',K S' H'->bC P GI y Q S' H'):bC P GI (.seq x y) Q S H:=by
 refine eJ x (λe S H h=>?_) hx
 cases e with
 |normal=>exact hy S H h
 |exit id=>exact h.elim
 |ret=>exact h.elim
 |panic v=>exact h.elim
theorem Bv{c:eA}{y z:af}{Q:dp->av->aD->Prop}{S:av}{H:aD}(h:ev S c=.bool true)(hy:bC P GI y Q S H):bC P GI (.seq (.cond c .skip z) y) Q S H:=by
 simp only[bC,h];exact hy
theorem JX{c:eA}{y z:af}{Q:dp->av->aD->Prop}{S:av}{H:aD}(h:ev S c=.bool false)(hy:bC P GI y Q S H):bC P GI (.seq (.cond c z .skip) y) Q S H:=by
 simp only[bC,h];exact hy
theorem xL{id:Nat}{c y:af}{Q:dp->av->aD->Prop}{S:av}{H:aD}(h:bC P GI c (db id (gB P GI y Q)) S H):bC P GI (.seq (.block id c) y) Q S H:=h
theorem yQ{x y z:af}{Q:dp->av->aD->Prop}{S:av}{H:aD}(K:av->aD->Prop)(hx:bC P GI x (aM K) S H)(hy:∀S' H',K S' H'->bC P GI (.seq y z) Q S' H'):bC P GI (.seq (.seq x y) z) Q S H:=by
 refine eJ x (λe S H h=>?_) hx
 cases e with
 |normal=>
  refine eJ y (λe S H h=>?_) (hy S H h)
  cases e<;>exact h
 |exit id=>exact h.elim
 |ret=>exact h.elim
 |panic v=>exact h.elim
theorem bw {c:af} {Q:dp→av→aD→Prop} {S:av} {H:aD} (t n:Nat) (I:Nat→av→aD→Prop) (B3:∀ i S H,I i S H→S t = .int .i64 (i:Nat)) (h0:I 0 S H)
  (hs:∀i,i<=n->∀S H,I i S H->bC P GI c (cU (λS' H'=>i<n/\I (i+1) S' H') Q) S H):bC P GI (.loop c) Q S H:=by
 refine⟨λS H=>∃i,i<=n/\I i S H,λS _=>match S t with|.int _ k=>n-k.toNat|_=>0,⟨0,adZ _,h0⟩,?_⟩;rintro S H ⟨i,hi,hI⟩;refine eJ c (jZ (λS' H' h=>?_) (λ_ _ _ h=>h)) (hs i hi S H hI);refine⟨⟨i+1,h.1,h.2⟩,?_⟩;have e1:=B3 _ _ _ hI;have e2:=B3 _ _ _ h.2;simp only[e1,e2,Int.toNat_natCast];have:=h.1;omega
end
def firstT{α:Type}(p:α->Bool)(l:List α):Int:=if l.any p then(l.findIdx p:Nat)else-1
theorem mo {α:Type} {p:α→Bool} {l:List α} {i:Nat} (hi:i < l.length) (hp:p l[i]=true) (hb:∀ j (hj:j < l.length),j < i→p l[j]=false):firstT p l=(i:Nat):=by
  unfold firstT;rw[if_pos (aeU.2 ⟨l[i],ada hi,hp⟩),(List.findIdx_eq hi).2 ⟨hp,λj gw=>hb j (by omega) gw⟩]
theorem jj {α:Type} {p:α→Bool} {l:List α} (hb:∀ j (hj:j < l.length),p l[j]=false):firstT p l = -1:=by
  unfold firstT;rw[if_neg];intro h;obtain⟨x,hx,hp⟩:=aeU.1 h;obtain⟨j,hj,rfl⟩:=adG hx;rw[hb j hj]at hp;cases hp
theorem jW {α:Type} {p:α→Bool} {l:List α}:decide (0≤firstT p l)=l.any p:=by
  unfold firstT
  cases h:l.any p<;>simp
def iz{α:Type}(p:α->Bool)(lt:α->α->Bool)(l:List α):Bool:=l.all p&&(List.range (l.length-1)).all λi=>match l[i]?,l[i+1]? with|some a,some b=>lt a b|_,_=>true
theorem jX{α:Type}{p:α->Bool}{lt:α->α->Bool}{l:List α}{i:Nat}(hi:i<l.length)(hp:p l[i]=false):iz p lt l=false:=by
 unfold iz;rw[ae8];exact .inl (afT.2 ⟨_,ada hi,by simp[hp]⟩)
theorem kn{α:Type}{p:α->Bool}{lt:α->α->Bool}{l:List α}{i:Nat}(hi:i+1<l.length)(hp:lt (l[i]'(by omega)) l[i+1]=false):iz p lt l=false:=by
 unfold iz;rw[ae8];refine .inr (afT.2 ⟨i,adF.2 (by omega),?_⟩);simp[hi,show i<l.length by omega,hp]
theorem mD{α:Type}{p:α->Bool}{lt:α->α->Bool}{l:List α}(h1:∀j (hj:j<l.length),p l[j]=true)(h2:∀j (hj:j+1<l.length),lt (l[j]'(by omega)) l[j+1]=true):iz p lt l=true:=by
 unfold iz;rw[adb]
 constructor
 .rw[adu];intro x hx;obtain⟨j,hj,rfl⟩:=adG hx;exact h1 j hj
 .rw[adu];intro j hj;rw[adF]at hj;simp[show j<l.length by omega,show j+1<l.length by omega,h2 j (by omega)]
theorem sJ{α:Type}{p:α->Bool}{l:List α}(h:∀j (hj:j<l.length),p l[j]=true):l.all p=true:=by
 rw[adu];intro x hx;obtain⟨j,hj,rfl⟩:=adG hx;exact h j hj
theorem pP{α:Type}{p:α->Bool}{l:List α}{i:Nat}(hi:i<l.length)(hp:p l[i]=false):l.all p=false:=afT.2 ⟨_,ada hi,by simp[hp]⟩
theorem oD{α:Type}(p:α->Bool)(l:List α):(!(l.any λx=>!p x))=l.all p:=by
 induction l with
 |nil=>rfl
 |cons a l ih=>simp[List.any_cons,List.all_cons,<-ih]
theorem jY{α:Type}{p:α->Bool}{l:List α}{i:Nat}(hi:i<l.length)(hb:∀j (hj:j<l.length),j<i->p l[j]=true)(hp:p l[i]=true):∀j (hj:j<l.length),j<i+1->p l[j]=true:=by
 intro j hj gw
 by_cases e:j=i
 .subst e;exact hp
 .exact hb j hj (by omega)
theorem qB{α:Type}{lt:α->α->Bool}{l:List α}{k:Nat}(hi:k+1<l.length)(hb:∀j (hj:j+1<l.length),j+1<k+1->lt (l[j]'(by omega)) l[j+1]=true)(hp:lt (l[k]'(by omega)) l[k+1]=true):∀j (hj:j+1<l.length),j+1<k+1+1->lt (l[j]'(by omega)) l[j+1]=true:=by
 intro j hj gw
 by_cases e:j=k
 .subst e;exact hp
 .exact hb j hj (by omega)
section
variable{P:Program}{GI:World->Prop}
theorem rH {c:af} {Q:dp→av→aD→Prop} {S:av} {H:aD} (t a n:Nat) (I:Nat→av→aD→Prop) (ha:a≤n) (B3:∀ i S H,I i S H→S t = .int .i64 (i:Nat)) (h0:I a S H)
  (hs:∀i,a<=i->i<=n->∀S H,I i S H->bC P GI c (cU (λS' H'=>i<n/\I (i+1) S' H') Q) S H):bC P GI (.loop c) Q S H:=by
 refine⟨λS H=>∃i,a<=i/\i<=n/\I i S H,λS _=>match S t with|.int _ k=>n-k.toNat|_=>0,⟨a,adh _,ha,h0⟩,?_⟩;rintro S H ⟨i,h1,hi,hI⟩;refine eJ c (jZ (λS' H' h=>?_) (λ_ _ _ h=>h)) (hs i h1 hi S H hI);refine⟨⟨i+1,by omega,h.1,h.2⟩,?_⟩;have e1:=B3 _ _ _ hI;have e2:=B3 _ _ _ h.2;simp only[e1,e2,Int.toNat_natCast];have:=h.1;omega
end
theorem AC.iA{P:Program}{GI:World->Prop}{f:Nat}{args:List AV}{o:Ow}{es:List AV}(h:AC P GI f args (.ret (.slice o es))):AC P GI f args (.ret (.slice .view es)):=by
 intro w old ck h1 h2 h3;refine(h w old ck h1 h2 h3).mono ?_;rintro e w' ⟨hb,hi,h0,c,rfl,hv,_⟩;refine⟨hb,hi,h0,c,rfl,?_,trivial⟩
 cases hv with
 |data _ _ h=>exact .data _ _ (Go.Proofs.Tryz.RD.B9 h)
theorem lj(l:List Int):aJ 1 (ints l)=true:=by simp[aJ,ints,AV.storable,AV.cells]
def grown(l:List Int):AV:=.slice (if l.isEmpty then .nil else .own 3) (ints l)
theorem eu{α:Type}{p:α->Bool}{lt:α->α->Bool}{l:List α}:iz p lt l=true↔(∀x∈l,p x=true)/\∀j (hj:j+1<l.length),lt (l[j]'(by omega)) l[j+1]=true:=by
 unfold iz;rw[adb,adu,adu]
 constructor
 .rintro⟨h1,h2⟩;refine⟨h1,λj hj=>?_⟩;have:=h2 j (adF.2 (by omega));simpa[show j<l.length by omega,hj]using this
 .rintro⟨h1,h2⟩;refine⟨h1,λj hj=>?_⟩;rw[adF]at hj;have:=h2 j (by omega);simpa[show j<l.length by omega,show j+1<l.length by omega]using this
theorem DI{l:List Int}(h:∀j (hj:j+1<l.length),l[j]<l[j+1]):l.Pairwise λa b=>a<b:=by
 rw[aeo];intro i j hi hj pK
 obtain⟨d,rfl⟩:∃d,j=i+1+d:=⟨j-i-1,by omega⟩
 clear pK
 induction d with
 |zero=>exact h i hj
 |succ d ih=>
  have h1:=ih (by omega);have h2:=h (i+1+d) hj;exact Int.lt_trans h1 h2
section
variable{P:Program}{GI:World->Prop}
theorem Bl {c:af} {Q:dp→av→aD→Prop} {S:av} {H:aD} (t n:Nat) (I:Nat→av→aD→Prop) (B3:∀ i S H,I i S H→S t = .int .i64 ((i:Nat) - 1)) (h0:I n S H)
  (hs:∀i,i<=n->∀S H,I i S H->bC P GI c (cU (λS' H'=>0<i/\I (i-1) S' H') Q) S H):bC P GI (.loop c) Q S H:=by
 refine⟨λS H=>∃i,i<=n/\I i S H,λS _=>match S t with|.int _ k=>(k+1).toNat|_=>0,⟨n,adh _,h0⟩,?_⟩;rintro S H ⟨i,hi,hI⟩;refine eJ c (jZ (λS' H' h=>?_) (λ_ _ _ h=>h)) (hs i hi S H hI);refine⟨⟨i-1,by omega,h.2⟩,?_⟩;have e1:=B3 _ _ _ hI;have e2:=B3 _ _ _ h.2;simp only[e1,e2];have:=h.1;omega
end
section
variable{P:Program}{GI:World->Prop}
theorem nC :
  (∀x0 x1,OE P GI (.mv x0 x1))/\
  (∀x0 x1 x2,OE P GI (.pick x0 x1 x2))/\
  (∀x0 x1,OE P GI (.build x0 x1))/\
  (∀x0 x1 x2 x3,OE P GI (.buildSlice x0 x1 x2 x3))/\
  (∀x0 x1 x2 x3,OE P GI (.load x0 x1 x2 x3))/\
  (∀x0 x1,OE P GI (.loadT x0 x1))/\
  (∀x0 x1 x2 x3,OE P GI (.store x0 x1 x2 x3))/\
  (∀x0 x1 x2,OE P GI (.bin x0 x1 x2))/\
  (∀x0 x1 x2,OE P GI (.F2 x0 x1 x2))/\
  (∀x0 x1 x2 x3,OE P GI (.eqs x0 x1 x2 x3))/\
  (∀x0 x1 x2 x3 x4,OE P GI (.nx x0 x1 x2 x3 x4))/\
  (∀x0,OE P GI (.zr x0))/\
  (∀x0,OE P GI (.pC x0))/\
  (∀x0 x1 x2,OE P GI (.pE x0 x1 x2))/\
  (∀x0 x1 x2 x3,OE P GI (.lookup x0 x1 x2 x3))/\
  (∀x0,OE P GI (.not x0))/\
  (∀x0 x1,OE P GI (.conv x0 x1))/\
  (∀x0 x1,OE P GI (.iface x0 x1))/\
  (∀x0 x1 x2,OE P GI (.GO x0 x1 x2))/\
  (∀x0 x1 x2,OE P GI (.pG x0 x1 x2))/\
  (∀x0 x1 x2 x3,OE P GI (.mS x0 x1 x2 x3))/\
  (∀x0 x1,OE P GI (.qq x0 x1))/\
  (∀x0 x1,OE P GI (.fieldAddr x0 x1))/\
  (∀x0 x1 x2,OE P GI (.indexAddr x0 x1 x2))/\
  (∀x0 x1,OE P GI (.pF x0 x1))/\
  (∀x0 x1,OE P GI (.extract x0 x1))/\
  (∀x0,OE P GI (.yK x0))/\
  (∀x0,OE P GI (.j6 x0))/\
  (∀x0 x1,OE P GI (.isNil x0 x1))/\
  (∀x0,OE P GI (.empty x0))/\
  (∀x0 x1,OE P GI (.max x0 x1))/\
  (∀x0 x1,OE P GI (.min x0 x1))/\
  (∀x0 x1 x2,OE P GI (.assert x0 x1 x2)):=by
 refine⟨?_,?_,?_,?_,?_,?_,?_,?_,?_,?_,?_,?_,?_,?_,?_,?_,?_,?_,?_,?_,?_,?_,?_,?_,?_,?_,?_,?_,?_,?_,?_,?_,?_⟩<;>intros<;>intro d<;>intros<;>rfl
theorem ml :
  (∀x0 x1,DE P GI (.mv x0 x1))/\
  (∀x0 x1 x2,DE P GI (.pick x0 x1 x2))/\
  (∀x0 x1,DE P GI (.build x0 x1))/\
  (∀x0 x1 x2 x3,DE P GI (.buildSlice x0 x1 x2 x3))/\
  (∀x0 x1 x2 x3,DE P GI (.load x0 x1 x2 x3))/\
  (∀x0 x1,DE P GI (.loadT x0 x1))/\
  (∀x0 x1 x2 x3,DE P GI (.store x0 x1 x2 x3))/\
  (∀x0 x1 x2,DE P GI (.bin x0 x1 x2))/\
  (∀x0 x1 x2,DE P GI (.F2 x0 x1 x2))/\
  (∀x0 x1 x2 x3,DE P GI (.eqs x0 x1 x2 x3))/\
  (∀x0 x1 x2 x3 x4,DE P GI (.nx x0 x1 x2 x3 x4))/\
  (∀x0,DE P GI (.zr x0))/\
  (∀x0,DE P GI (.pC x0))/\
  (∀x0 x1 x2,DE P GI (.pE x0 x1 x2))/\
  (∀x0 x1 x2 x3,DE P GI (.lookup x0 x1 x2 x3))/\
  (∀x0,DE P GI (.not x0))/\
  (∀x0 x1,DE P GI (.conv x0 x1))/\
  (∀x0 x1,DE P GI (.iface x0 x1))/\
  (∀x0 x1 x2,DE P GI (.GO x0 x1 x2))/\
  (∀x0 x1 x2,DE P GI (.pG x0 x1 x2))/\
  (∀x0 x1 x2 x3,DE P GI (.mS x0 x1 x2 x3))/\
  (∀x0 x1,DE P GI (.qq x0 x1))/\
  (∀x0 x1,DE P GI (.fieldAddr x0 x1))/\
  (∀x0 x1 x2,DE P GI (.indexAddr x0 x1 x2))/\
  (∀x0 x1,DE P GI (.pF x0 x1))/\
  (∀x0 x1,DE P GI (.extract x0 x1))/\
  (∀x0,DE P GI (.yK x0))/\
  (∀x0,DE P GI (.j6 x0))/\
  (∀x0 x1,DE P GI (.isNil x0 x1))/\
  (∀x0,DE P GI (.empty x0))/\
  (∀x0 x1,DE P GI (.max x0 x1))/\
  (∀x0 x1,DE P GI (.min x0 x1))/\
  (∀x0 x1 x2,DE P GI (.assert x0 x1 x2)):=by
 refine⟨?_,?_,?_,?_,?_,?_,?_,?_,?_,?_,?_,?_,?_,?_,?_,?_,?_,?_,?_,?_,?_,?_,?_,?_,?_,?_,?_,?_,?_,?_,?_,?_,?_⟩<;>intros<;>intro d<;>intros<;>rfl
theorem ai(x0 x1 x2 x3 x4 x5):OE P GI (.append x0 x1 x2 x3 x4 x5):=eT.2.2.2.2.2.2.2.2.2.2.2.2.2.2.2.2.2.2.2.2.2.2.2.2.2.2.2.2.2.2.1 x0 x1 x2 x3 x4 x5
theorem ah(x0 x1 x2 x3 x4 x5):DE P GI (.append x0 x1 x2 x3 x4 x5):=dW.2.2.2.2.2.2.2.2.2.2.2.2.2.2.2.2.2.2.2.2.2.2.2.2.2.2.2.2.2.2.1 x0 x1 x2 x3 x4 x5
def grow(e:Nat)(l:List AV):AV:=.slice (if l=[]then .nil else .own e) l
theorem DK(e:Nat):grow e []=.slice .nil []:=by unfold grow;rw[if_pos rfl]
theorem Sp {S:av} {H:aD} {t e size cap i j:Nat} {l:List AV} {v:AV} {o:Ow} (hi:S i=grow e l) (hj:S j = .slice o [v]) (hv:aJ size [v]=true) (hl:aJ size l=true) (hn:l.length+1 < 1048576) :
  ∃dm,(dm=none\/dm=some i)/\aH S H (.append t e size cap (.t i) (.t j))=some { v:=grow e (l++[v]),dm:=dm }:=by
 have ei:ev S (.t i)=grow e l:=hi;have ej:ev S (.t j)=.slice o [v]:=hj
 cases l with
 |nil=>
  refine⟨none,.inl rfl,?_⟩;simp only[aH];rw[ei,ej,DK];simp[hv,grow]
 |cons x l=>
  refine⟨some i,.inr rfl,?_⟩
  have BF:l.length+1+1<1048576:=by simpa using hn
  simp only[aH];rw[ei,ej];simp[grow,hv,hl,bz,BF]
theorem qo{S:av}{i d:Nat}{dm:Option Nat}(hd:dm=none\/dm=some i)(v:AV):(aQ.S { v:=v,dm:=dm } S (some d)) d=v/\∀k,k≠d->k≠i->aQ.S { v:=v,dm:=dm } S (some d) k=S k:=by
 rcases hd with rfl|rfl
 .refine⟨by simp[aQ.S,aT,ar],λk h1 _=>by simp[aQ.S,aT,ar,h1]⟩
 .refine⟨by simp[aQ.S,aT,ar],λk h1 h2=>by simp[aQ.S,aT,ar,h1,h2]⟩
theorem fx {K:av→aD→Prop} {Qp:AV→Prop} {S:av} {H:aD} {t e size cap d i j:Nat} {rest:List cC} (l:List AV) (v:AV) (o:Ow) (hi:S i=grow e l) (hj:S j = .slice o [v]) (hv:aJ size [v]=true) (hl:aJ size l=true) (hn:l.length+1 < 1048576)
  (h:∀S',S' d=grow e (l++[v])->(∀k,k≠d->k≠i->S' k=S k)->bn P GI rest K Qp S' H):bn P GI (⟨some d,none,.append t e size cap (.t i) (.t j)⟩::rest) K Qp S H:=by
 obtain⟨dm,Df,ke⟩:=Sp (t:=t) (cap:=cap) (H:=H) hi hj hv hl hn;obtain⟨k1,k2⟩:=qo (S:=S) (d:=d) Df (grow e (l++[v]));rw[eT.2.2.2.2.2.2.2.2.2.2.2.2.2.2.2.2.2.2.2.2.2.2.2.2.2.2.2.2.2.2.1];simp only[aF,ke];exact h _ k1 k2
theorem pn {K:av→aD→Prop} {S:av} {H:aD} {t e size cap d i j:Nat} {rest:List cC} (l:List AV) (v:AV) (o:Ow) (hi:S i=grow e l) (hj:S j = .slice o [v]) (hv:aJ size [v]=true) (hl:aJ size l=true) (hn:l.length+1 < 1048576)
  (h:∀S',S' d=grow e (l++[v])->(∀k,k≠d->k≠i->S' k=S k)->dc P GI rest K S' H):dc P GI (⟨some d,none,.append t e size cap (.t i) (.t j)⟩::rest) K S H:=by
 obtain⟨dm,Df,ke⟩:=Sp (t:=t) (cap:=cap) (H:=H) hi hj hv hl hn;obtain⟨k1,k2⟩:=qo (S:=S) (d:=d) Df (grow e (l++[v]));rw[dW.2.2.2.2.2.2.2.2.2.2.2.2.2.2.2.2.2.2.2.2.2.2.2.2.2.2.2.2.2.2.1];simp only[aF,ke];exact h _ k1 k2
theorem gx{α:Type}{f:α->AV}{size:Nat}{l:List α}(h:∀a,(f a).storable=true/\(f a).cells.length=size):aJ size (l.map f)=true:=by
 simp[aJ,h]
end
theorem Fm {P:Program} {GI:World→Prop} (x d rest K Qp S H):bn P GI (⟨d,none,.panic x⟩::rest) K Qp S H=(match ev S x with
  |.iface t v=>Qp (.iface t v)
  |_=>False):=rfl
section
variable{P:Program}{GI:World->Prop}
end
section
variable{P:Program}{GI:World->Prop}
end
end Go.AL
namespace Go.Proofs.Tryz
open Go Go.AL Go.RowKit Go.Proofs Go.Proofs.Tram
attribute [local simp] dF fc eT dW ef dI dJ cZ c_ ee cW cE gh gj aF aH ev aQ.S aQ.H bz ar aT AL.start AV.cells AV.storable AV.bZ bo bX dS b0 HR.okB post cy cJ cK AV.out AV.bT cb dk fz gI AV.vw df vI int b_ aM cU db gB iN eY dQ bQ AV.aG AV.bH
variable{GI:World->Prop}
theorem Tk (hG:aw GI) (l:List Int) (hl:l.length < 1000000) (k:Nat) (caps:List AV) (mN:caps=[]∨∃ c,caps=[.ref c]) (p:Int→Bool) (hk:dX prog k=true) (h:∀ x∈l,AC prog GI k ([.int .i64 x]++caps) (.ret (.bool (p x)))) :
    AC prog GI 184 [.slice .view (l.map (.int .i64)),.func (.func k) [] caps] (.ret (.int .i64 (firstT p l))):=by
  refine bW hG func184 ntmps184 c184 ?_
  rcases mN with rfl|⟨c,rfl⟩<;>
  (simp[c184]
   refine bw 8 l.length (λi S H=>S 0=.slice .view (l.map (.int .i64))/\S 1=_/\S 7=.int .i64 l.length/\S 8=.int .i64 (i:Nat)/\∀j (hj:j<l.length),j<i->p l[j]=false) (λi S H h=>h.2.2.2.1) ⟨by simp,by simp<;>rfl,by simp,by simp,by simp⟩ ?_;rintro i hi S H ⟨s0,s1,s7,s8,hb⟩
   by_cases au:i<l.length
   . have hw:IntKind.i64.wrap ((i:Int)+1)=i+1:=aN (by omega)
     have hx:=h l[i] (ada au);cases hp:p l[i]
     . simp [adp,s0,s1,s7,s8,au]
       refine⟨_,hk,hx,by simp[df],?_⟩;simp[s0,s1,s7,s8,au,hp,hw];intro j hj gw
       by_cases CV:j=i
       . subst CV;exact hp
       . exact hb j hj (by omega)
     . simp [adp,s0,s1,s7,s8,au]
       refine⟨_,hk,hx,by simp[df],?_⟩;simp[s0,s1,s7,s8,au,hp,hw];exact mo au hp hb
   . have cH:i=l.length:=by omega
     subst cH;simp[s0,s1,s7,s8]
     exact jj λj hj=>hb j hj hj)
theorem Hk (hG:aw GI) (l:List Int) (hl:l.length < 1000000) (k:Nat) (caps:List AV) (mN:caps=[]∨∃ c,caps=[.ref c]) (p:Int→Bool) (hk:dX prog k=true) (h:∀ x∈l,AC prog GI k ([.int .i64 x]++caps) (.ret (.bool (p x)))) :
    AC prog GI 143 [.slice .view (l.map (.int .i64)),.func (.func k) [] caps] (.ret (.bool (l.any p))):=by
  have hF:=Tk hG l hl k caps mN p hk h;refine bW hG func143 ntmps143 c143 ?_
  rcases mN with rfl|⟨c,rfl⟩<;>
  (simp[c143]
   refine⟨_,by kernel_rfl,hF,λ_=>rfl,?_⟩;simp
   exact jW.symm)
theorem Tv (hG:aw GI) (l:List Word) (hl:l.length < 1000000) (k:Nat) (caps:List AV) (mN:caps=[]∨∃ c,caps=[.ref c]) (p:Word→Bool) (hk:dX prog k=true) (h:∀ x∈l,AC prog GI k ([bD x]++caps) (.ret (.bool (p x)))) :
    AC prog GI 185 [.slice .view (l.map bD),.func (.func k) [] caps] (.ret (.int .i64 (firstT p l))):=by
  refine bW hG func185 ntmps185 c185 ?_
  rcases mN with rfl|⟨c,rfl⟩<;>
  (simp[c185]
   refine bw 8 l.length (λi S H=>S 0=.slice .view (l.map bD)/\S 1=_/\S 7=.int .i64 l.length/\S 8=.int .i64 (i:Nat)/\∀j (hj:j<l.length),j<i->p l[j]=false) (λi S H h=>h.2.2.2.1) ⟨by simp,by simp<;>rfl,by simp,by simp,by simp⟩ ?_;rintro i hi S H ⟨s0,s1,s7,s8,hb⟩
   by_cases au:i<l.length
   . have hw:IntKind.i64.wrap ((i:Int)+1)=i+1:=aN (by omega)
     have hx:=h l[i] (ada au);cases hp:p l[i]
     . simp [adp,bD,s0,s1,s7,s8,au]
       refine⟨_,hk,hx,by simp[df],?_⟩;simp[s0,s1,s7,s8,au,hp,hw];intro j hj gw
       by_cases CV:j=i
       . subst CV;exact hp
       . exact hb j hj (by omega)
     . simp [adp,bD,s0,s1,s7,s8,au]
       refine⟨_,hk,hx,by simp[df],?_⟩;simp[s0,s1,s7,s8,au,hp,hw];exact mo au hp hb
   . have cH:i=l.length:=by omega
     subst cH;simp[s0,s1,s7,s8]
     exact jj λj hj=>hb j hj hj)
theorem VF (hG:aw GI) (l:List Word) (hl:l.length < 1000000) (k:Nat) (caps:List AV) (mN:caps=[]∨∃ c,caps=[.ref c]) (p:Word→Bool) (hk:dX prog k=true) (h:∀ x∈l,AC prog GI k ([bD x]++caps) (.ret (.bool (p x)))) :
    AC prog GI 145 [.slice .view (l.map bD),.func (.func k) [] caps] (.ret (.bool (l.any p))):=by
  have hF:=Tv hG l hl k caps mN p hk h;refine bW hG func145 ntmps145 c145 ?_
  rcases mN with rfl|⟨c,rfl⟩<;>
  (simp[c145]
   refine⟨_,by kernel_rfl,hF,λ_=>rfl,?_⟩;simp
   exact jW.symm)
theorem NV(hG:aw GI)(a b:List Int)(ha:a.length<1000000):AC prog GI 58 [vI a,vI b] (.ret (.bool (a==b))):=by
 refine bW hG func58 ntmps58 c58 ?_
 by_cases hl:a.length=b.length
 case neg=>
  have cI:(a==b)=false:=by
   rw[adW]
   exact λh=>hl (congrArg List.length h)
  have vP:((a.length:Int)!=(b.length:Int))=true:=by simp;omega
  simp[c58,vP,cI]
 simp[c58,hl];refine bw 5 b.length (λi S H=>S 0=vI a/\S 1=vI b/\S 5=.int .i64 (i:Nat)/\∀j (hj:j<a.length),j<i->a[j]=b[j]'(by omega)) (λi S H h=>h.2.2.1) ⟨by simp,by simp,by simp,by simp⟩ ?_;rintro i hi S H ⟨s0,s1,s5,hb⟩
 by_cases au:i<b.length
 .have jN:i<a.length:=by omega
  have hw:IntKind.i64.wrap ((i:Int)+1)=i+1:=aN (by omega)
  by_cases he:a[i]=b[i]
  .have DX:(a[i]!=b[i])=false:=by simp[he]
   simp[s0,s1,s5,au,jN,DX,hw];intro j hj gw
   by_cases e:j=i
   .subst e;exact he
   .exact hb j hj (by omega)
  .have cI:(a==b)=false:=by
    rw[adW];rintro rfl;exact he rfl
   have DX:(a[i]!=b[i])=true:=by simp[he]
   simp[s0,s1,s5,au,jN,DX,cI]
 .have cH:i=b.length:=by omega
  subst cH
  have pq:a=b:=afg hl λj h1 h2=>hb j h1 (by omega)
  simp[s0,s1,s5,pq]
end Go.Proofs.Tryz
namespace Go.Proofs.Tryz
open Go Go.AL Go.RowKit Go.Proofs Go.Proofs.Tram
variable{GI:World->Prop}
def Tr:AV->Option Word
 |.agg [s,c,.bool b]=>match OA s with
  |some s=>match OA c with
   |some c=>some ⟨s,c,b⟩
   |none=>none
  |none=>none
 |_=>none
def Vk:AV->Option j7
 |.agg [.int .i64 a,.int .i64 b,.int .i64 c,.int .i64 d]=>some ⟨a,b,c,d⟩
 |_=>none
def Zr:AV->Option End
 |.agg [.int .i64 a,.int .i64 b]=>some (a,b)
 |_=>none
deriving instance DecidableEq for j7
deriving instance DecidableEq for Word
structure aq where
 aY:List Int
 aR:List j7
 ib:Int
 g_:Int
 lx:Int
 lL:Int
 cG:Int
 words:List Word
 wide:Int
 rows:Int
deriving DecidableEq
def ae(s:aq):List AV:=[vI s.aY,.slice .view (s.aR.map dq),.int .i64 s.ib,.int .i64 s.g_,.int .i64 s.lx,.int .i64 s.lL,.int .i64 s.cG,.slice .view (s.words.map bD),.int .i64 s.wide,.int .i64 s.rows]
def bP(s:aq):AV:=.agg (ae s)
def Ay:AV->Option aq
 |.agg [w,.slice .view ps,.int .i64 a,.int .i64 b,.int .i64 c,.int .i64 d,.int .i64 e,.slice .view ws,.int .i64 f,.int .i64 g]=>match OA w with
  |some w=>match oZ Vk ps with
   |some ps=>match oZ Tr ws with
    |some ws=>some ⟨w,ps,a,b,c,d,e,ws,f,g⟩
    |none=>none
   |none=>none
  |none=>none
 |_=>none
def zn:AV->Option (List Int×List End)
 |.agg [o,.slice .view es]=>match OA o with
  |some o=>match oZ Zr es with
   |some es=>some (o,es)
   |none=>none
  |none=>none
 |_=>none
def q1(s:aq)(out:eP):List AV->Option eP
 |[a]=>match Ay a with
  |some x=>bif decide (x=s)then some out else none
  |none=>none
 |_=>none
def q2(s:aq)(es:List End)(out:eP):List AV->Option eP
 |[a,b]=>match Ay a with
  |some x=>match zn b with
   |some y=>bif decide (x=s)&&decide (y=([],es))then some out else none
   |none=>none
  |none=>none
 |_=>none
def q3(s:aq)(es:List End)(n:Int)(out:eP):List AV->Option eP
 |[a,b,.int .i64 k]=>match Ay a with
  |some x=>match zn b with
   |some y=>bif decide (x=s)&&decide (y=([],es))&&decide (k=n)then some out else none
   |none=>none
  |none=>none
 |_=>none
def qs(s:List UInt8)(out:eP):List AV->Option eP
 |[.str t]=>bif decide (t=s)then some out else none
 |_=>none
theorem qw(l:List End):aJ 2 (l.map aX)=true:=gx λa=>⟨rfl,rfl⟩
end Go.Proofs.Tryz
namespace Go.Proofs.Tryz
open Go Go.AL Go.RowKit Go.Proofs Go.Proofs.Tram
attribute [local simp] dF fc eT dW ef dI dJ cZ c_ ee cW cE gh gj aF aH ev aQ.S aQ.H bz ar aT AL.start AV.cells AV.storable AV.bZ bo bX dS b0 HR.okB post cy cJ cK AV.out AV.bT cb dk fz gI AV.vw df vI int b_ aM cU db gB iN eY dQ bQ AV.aG AV.bH
variable{GI:World->Prop}
def bO(n lo hi:Int):Bool:=decide (lo<=n)&&decide (n<=hi)
theorem oR(hG:aw GI)(n lo hi:Int):AC prog GI 84 [.int .i64 n,.int .i64 lo,.int .i64 hi] (.ret (.bool (bO n lo hi))):=by
 refine bW hG func84 ntmps84 c84 ?_
 by_cases h1:lo<=n<;>by_cases h2:n<=hi<;>simp[c84,bO,h1,h2]
theorem kT(hG:aw GI)(n lo hi:Int):AC prog GI 139 [.int .i64 n,.int .i64 lo,.int .i64 hi] (.ret (.bool (bO n lo hi))):=by
 refine bW hG func139 ntmps139 c139 ?_
 by_cases h1:lo<=n<;>by_cases h2:n<=hi<;>simp[c139,bO,h1,h2]
def ij(lo hi a most:Int):Bool:=bO lo a most&&bO hi lo most
theorem FF(hG:aw GI)(lo hi most:Int):AC prog GI 154 [.agg [.int .i64 lo,.int .i64 hi],.int .i64 most] (.ret (.bool (ij lo hi 0 most))):=by
 refine bW hG func154 ntmps154 c154 ?_;simp[c154];refine oc (oR hG lo 0 most) ?_;cases h1:bO lo 0 most
 .simp[ij,h1]
 .simp;refine oc (oR hG hi lo most) ?_;simp[ij,h1]
theorem Em(hG:aw GI)(lo hi a most:Int):AC prog GI 144 [.agg [.int .i64 lo,.int .i64 hi],.int .i64 a,.int .i64 most] (.ret (.bool (ij lo hi a most))):=by
 refine bW hG func144 ntmps144 c144 ?_;simp[c144];refine oc (kT hG lo a most) ?_;cases h1:bO lo a most
 .simp[ij,h1]
 .simp;refine oc (kT hG hi lo most) ?_;simp[ij,h1]
theorem SB(hG:aw GI)(n:Int):AC prog GI 155 [.int .i64 n] (.ret (.bool (bO n 1 400))):=by
 refine bW hG func155 ntmps155 c155 ?_;simp[c155];refine oc (oR hG n 1 400) ?_;simp
def gv(s:aq)(n:Int):Bool:=bO n 0 (s.aY.length-1)
theorem Fo(hG:aw GI)(s:aq)(hs:s.aY.length<1000)(n:Int):AC prog GI 194 [bP s,.int .i64 n] (.ret (.bool (gv s n))):=by
 refine bW hG func194 ntmps194 c194 ?_;have hw:IntKind.i64.wrap ((s.aY.length:Int)-1)=s.aY.length-1:=aN (by omega);simp[c194,bP,ae,hw];refine oc (oR hG n 0 (s.aY.length-1)) ?_;simp[gv]
def gZ(s:aq)(p:j7):Bool:=gv s p.l&&gv s p.r&&ij p.lo p.hi 0 9
theorem TG(hG:aw GI)(s:aq)(hs:s.aY.length<1000)(p:j7):AC prog GI 140 [bP s,dq p] (.ret (.bool (gZ s p))):=by
 refine bW hG func140 ntmps140 c140 ?_;have hw:IntKind.i64.wrap ((s.aY.length:Int)-1)=s.aY.length-1:=aN (by omega);refine aI (λS H=>S 2=.box 2 0/\S 3=.box 3 0/\H 2=some (ae s)/\H 3=some [.int .i64 p.l,.int .i64 p.r,.int .i64 p.lo,.int .i64 p.hi]) (by simp[bP,ae,dq]) ?_;rintro S H ⟨s2,s3,h2,h3⟩;simp[s2,s3,h2,h3,ae,hw];refine oc (kT hG p.l 0 (s.aY.length-1)) ?_;cases h1:bO p.l 0 (s.aY.length-1)
 .simp[gZ,gv,h1]
 .simp[s2,s3,h2,h3,ae,hw];refine oc (kT hG p.r 0 (s.aY.length-1)) ?_;cases h4:bO p.r 0 (s.aY.length-1)
  .simp[gZ,gv,h1,h4]
  .simp[s2,s3,h2,h3,ae];refine oc (Em hG p.lo p.hi 0 9) ?_;simp[gZ,gv,h1,h4]
def qV(a b:j7):Bool:=decide (a.l<b.l)||(a.l==b.l&&decide (a.r<b.r))
theorem T1(hG:aw GI)(a b:j7):AC prog GI 141 [dq a,dq b] (.ret (.bool (qV a b))):=by
 refine bW hG func141 ntmps141 c141 ?_;refine aI (λS H=>S 2=.box 2 0/\S 3=.box 3 0/\H 2=some [.int .i64 a.l,.int .i64 a.r,.int .i64 a.lo,.int .i64 a.hi]/\H 3=some [.int .i64 b.l,.int .i64 b.r,.int .i64 b.lo,.int .i64 b.hi]) (by simp[dq]) ?_;rintro S H ⟨s2,s3,h2,h3⟩
 by_cases h1:a.l<b.l
 .simp[s2,s3,h2,h3,qV,h1]
 .cases h4:a.l==b.l
  .simp[s2,s3,h2,h3,qV,h1,h4]
  .by_cases h5:a.r<b.r<;>simp[s2,s3,h2,h3,qV,h1,h4,h5]
theorem Sy(hG:aw GI)(n:Int):AC prog GI 142 [.int .i64 n] (.ret (.bool (!bO n 1 20))):=by
 refine bW hG func142 ntmps142 c142 ?_;simp[c142];refine oc (kT hG n 1 20) ?_;simp
theorem Vl(hG:aw GI)(s:aq)(hs:s.aY.length<1000)(n:Int):AC prog GI 186 [.int .i64 n,.ref (ae s)] (.ret (.bool (!gv s n))):=by
 refine bW hG func186 ntmps186 c186 ?_;have hw:IntKind.i64.wrap ((s.aY.length:Int)-1)=s.aY.length-1:=aN (by omega);simp[c186,ae,hw];refine oc (kT hG n 0 (s.aY.length-1)) ?_;simp[gv]
def eo(l:List Int)(lo hi:Int):Bool:=iz (bO · lo hi) (λa b=>decide (a<b)) l
theorem OT(hG:aw GI)(l:List Int)(hl:l.length<1000000)(lo hi:Int):AC prog GI 180 [vI l,.int .i64 lo,.int .i64 hi] (.ret (.bool (eo l lo hi))):=by
 refine bW hG func180 ntmps180 c180 ?_;simp[c180];refine bw 11 l.length (λi S H=>S 0=vI l/\S 1=.int .i64 lo/\S 2=.int .i64 hi/\S 9=vI l/\S 10=.int .i64 l.length/\S 11=.int .i64 (i:Nat)/\(∀j (hj:j<l.length),j<i->bO l[j] lo hi=true)/\∀j (hj:j+1<l.length),j+1<i->decide (l[j]<l[j+1])=true) (λi S H h=>h.2.2.2.2.2.1) ⟨by simp,by simp,by simp,by simp,by simp,by simp,by simp,by simp⟩ ?_;rintro i eb S H ⟨s0,s1,s2,s9,bL,bG,hb,hc⟩
 by_cases au:i<l.length
 .have hw:IntKind.i64.wrap ((i:Int)+1)=i+1:=aN (by omega);simp[s0,s1,s2,s9,bL,bG,au];refine⟨_,by kernel_rfl,kT hG l[i] lo hi,λ_=>rfl,?_⟩;cases hp:bO l[i] lo hi
  .simp[s0,s1,s2,s9,bL,bG,au,hw];exact jX au hp
  .cases i with
   |zero=>
    simp[s0,s1,s2,s9,bL,bG,au];exact⟨aN (by omega),λj hj ve=>by subst ve;exact hp⟩
   |succ k=>
    have hk:((k+1:Nat):Int)-1=(k:Nat):=by omega
    have uZ:IntKind.i64.wrap (k:Int)=k:=aN (by omega);have gD:IntKind.i64.wrap ((k:Int)+1+1)=k+1+1:=aN (by omega)
    have iQ:k<l.length:=by omega
    have h0:(0:Int)<(k:Int)+1:=by omega
    by_cases hle:l[k+1]<=l[k]
    .simp[s0,s1,s2,s9,bL,bG,au,uZ,iQ,hle,h0];exact kn (lt:=λa b=>decide (a<b)) au (by simpa using hle)
    .simp[s0,s1,s2,s9,bL,bG,au,uZ,iQ,hle,h0,gD];refine⟨λj hj ye=>?_,λj hj ye=>?_⟩
     .by_cases e:j=k+1
      .subst e;exact hp
      .exact hb j hj (by omega)
     .by_cases e:j=k
      .subst e;omega
      .simpa using hc j hj (by omega)
 .have cH:i=l.length:=by omega
  subst cH;simp[s0,s1,s2,s9,bL,bG];exact mD (λj hj=>hb j hj hj) (λj hj=>hc j hj hj)
def gJ(s:aq)(w:Word):Bool:=bO w.aK.length 1 6&&!(w.aK.any λn=>!gv s n)&&eo w.bK 1 (w.aK.length-1)
theorem SE(hG:aw GI)(s:aq)(hs:s.aY.length<1000)(w:Word)(h1:w.aK.length<1000)(h2:w.bK.length<1000):AC prog GI 147 [bP s,bD w] (.ret (.bool (gJ s w))):=by
 have Kk:=Hk hG w.aK (by omega) 186 [.ref (ae s)] (.inr ⟨_,rfl⟩) (λn=>!gv s n) (by kernel_rfl) (λn _=>Vl hG s hs n);have hw:IntKind.i64.wrap ((w.aK.length:Int)-1)=w.aK.length-1:=aN (by omega);refine bW hG func147 ntmps147 c147 ?_;refine aI (λS H=>S 2=.box 2 0/\S 3=.box 3 0/\H 2=some (ae s)/\H 3=some [vI w.aK,vI w.bK,.bool w.free]) (by simp[bP,ae,bD]) ?_;rintro S H ⟨s2,s3,e2,e3⟩;simp[s2,s3,e2,e3];refine⟨_,by kernel_rfl,kT hG w.aK.length 1 6,λ_=>rfl,?_⟩;cases h3:bO w.aK.length 1 6
 .simp[gJ,h3]
 .simp[s2,s3,e2,e3,ae];refine⟨_,by kernel_rfl,Kk,λ_=>rfl,?_⟩
  cases h4:w.aK.any λn=>!gv s n
  .simp[s2,s3,e2,e3,hw];refine⟨_,by kernel_rfl,OT hG w.bK (by omega) 1 (w.aK.length-1),λ_=>rfl,?_⟩;simp[gJ,h3,h4]
  .simp[gJ,h3,h4]
theorem UF(hG:aw GI)(s:aq)(hs:s.aY.length<1000)(w:Word)(h1:w.aK.length<1000)(h2:w.bK.length<1000):AC prog GI 146 [bD w,.ref (ae s)] (.ret (.bool (!gJ s w))):=by
 refine bW hG func146 ntmps146 c146 ?_;simp[c146,bD,ae];refine⟨_,by kernel_rfl,SE hG s hs w h1 h2,λ_=>rfl,?_⟩;simp
structure mG(s:aq):Prop where
 aY:s.aY.length<1000
 aR:s.aR.length<1000
 words:s.words.length<1000
 aK:∀w∈s.words,w.aK.length<1000
 bK:∀w∈s.words,w.bK.length<1000
def nW(s:aq):Bool:=!(s.aY.any λn=>!bO n 1 20)&&ij s.ib s.g_ 0 9&&ij s.lx s.lL 0 20&&bO s.cG 1 20&&!(s.words.any λw=>!gJ s w)&&bO s.wide 1 400&&bO s.rows 1 3
def aU(s:aq):Bool:=bO s.aY.length 1 6&&decide (s.aR.length<=6)&&bO s.words.length 1 4&&iz (gZ s) qV s.aR&&nW s
theorem zq(hG:aw GI)(s:aq)(hs:mG s):AC prog GI 78 [bP s] (.ret (.bool (aU s))):=by
 have Kk:=Hk hG s.aY (by have:=hs.aY;omega) 142 [] (.inl rfl) (λn=>!bO n 1 20) (by kernel_rfl) (λn _=>Sy hG n);have Zd:=VF hG s.words (by have:=hs.words;omega) 146 [.ref (ae s)] (.inr ⟨_,rfl⟩) (λw=>!gJ s w) (by kernel_rfl) (λw hw=>UF hG s hs.aY w (hs.aK w hw) (hs.bK w hw));refine bW hG func78 ntmps78 c78 ?_;refine aI (λS H=>S 1=.box 1 0/\H 1=some (ae s)) (by simp[bP,ae]) ?_;rintro S H ⟨s1,e1⟩;simp[s1,e1,ae];refine⟨_,by kernel_rfl,kT hG s.aY.length 1 6,λ_=>rfl,?_⟩;cases h1:bO s.aY.length 1 6
 .simp[aU,h1]
 by_cases h2:(6:Int)<s.aR.length
 .simp[s1,e1,ae,h2]
  have:¬s.aR.length<=6:=by omega
  simp[aU,this]
 simp[s1,e1,ae,h2];refine⟨_,by kernel_rfl,kT hG s.words.length 1 4,λ_=>rfl,?_⟩;cases h3:bO s.words.length 1 4
 .simp[aU,h3]
 simp[s1,e1,ae]
 have sT:s.aR.length<=6:=by omega
 refine bw 27 s.aR.length (λi S H=>S 1=.box 1 0/\H 1=some (ae s)/\S 25=.slice .view (s.aR.map dq)/\S 26=.int .i64 s.aR.length/\S 27=.int .i64 (i:Nat)/\(∀j (hj:j<s.aR.length),j<i->gZ s s.aR[j]=true)/\∀j (hj:j+1<s.aR.length),j+1<i->qV s.aR[j] s.aR[j+1]=true) (λi S H h=>h.2.2.2.2.1) ⟨by simp[s1],by simp[e1,ae],by simp,by simp,by simp,by simp,by simp⟩ ?_;clear s1 e1 S H;rintro i hi S H ⟨s1,e1,lS,tF,oz,hb,hc⟩
 by_cases au:i<s.aR.length
 case neg=>
  have cH:i=s.aR.length:=by omega
  subst cH;have Zt:iz (gZ s) qV s.aR=true:=mD (λj hj=>hb j hj hj) (λj hj=>hc j hj hj);simp[s1,e1,lS,tF,oz,ae];refine⟨_,by kernel_rfl,Kk,λ_=>rfl,?_⟩
  cases h4:s.aY.any λn=>!bO n 1 20
  case true=>simp[aU,nW,h4]
  simp[s1,e1,ae];refine⟨_,by kernel_rfl,Em hG s.ib s.g_ 0 9,λ_=>rfl,?_⟩;cases h5:ij s.ib s.g_ 0 9
  .simp[aU,nW,h5]
  simp[s1,e1,ae];refine⟨_,by kernel_rfl,Em hG s.lx s.lL 0 20,λ_=>rfl,?_⟩;cases h6:ij s.lx s.lL 0 20
  .simp[aU,nW,h6]
  simp[s1,e1,ae];refine⟨_,by kernel_rfl,kT hG s.cG 1 20,λ_=>rfl,?_⟩;cases h7:bO s.cG 1 20
  .simp[aU,nW,h7]
  simp[s1,e1,ae];refine⟨_,by kernel_rfl,Zd,λ_=>rfl,?_⟩
  cases h8:s.words.any λw=>!gJ s w
  case true=>simp[aU,nW,h8]
  simp[s1,e1,ae];refine⟨_,by kernel_rfl,kT hG s.wide 1 400,λ_=>rfl,?_⟩;cases h9:bO s.wide 1 400
  .simp[aU,nW,h9]
  simp[s1,e1,ae];refine⟨_,by kernel_rfl,kT hG s.rows 1 3,λ_=>rfl,?_⟩;simp[aU,nW,h1,sT,h3,Zt,h4,h5,h6,h7,h8,h9]
 case pos=>
  have hw:IntKind.i64.wrap ((i:Int)+1)=i+1:=aN (by omega);refine aI (λS H=>S 28=.bool true/\S 1=.box 1 0/\H 1=some (ae s)/\S 25=.slice .view (s.aR.map dq)/\S 26=.int .i64 s.aR.length/\S 27=.int .i64 (i:Nat)) (by simp[s1,e1,lS,tF,oz,au]) ?_;clear s1 e1 lS tF oz S H;rintro S H ⟨xk,s1,e1,lS,tF,oz⟩;refine Bv xk (xL ?_);refine aI (λS H=>S 4=.box 4 0/\H 4=some (dq s.aR[i]).cells/\S 3=.int .i64 (i:Nat)/\S 1=.box 1 0/\H 1=some (ae s)/\S 25=.slice .view (s.aR.map dq)/\S 26=.int .i64 s.aR.length/\S 27=.int .i64 (i:Nat)) (by simp[s1,e1,lS,tF,oz,au,dq]) ?_;clear s1 e1 lS tF oz xk S H;rintro S H ⟨s4,e4,s3,s1,e1,lS,tF,oz⟩;simp[s1,e1,s3,s4,e4,ae,dq];refine⟨_,by kernel_rfl,TG hG s hs.aY s.aR[i],λ_=>rfl,?_⟩;cases hp:gZ s s.aR[i]
  .simp;simp[aU,jX au hp]
  cases i with
  |zero=>
   simp[s1,s3,s4,lS,tF,oz,au];exact⟨e1,aN (by omega),λj hj ve=>by subst ve;exact hp⟩
  |succ k=>
   have uZ:IntKind.i64.wrap (k:Int)=k:=aN (by omega);have gD:IntKind.i64.wrap ((k:Int)+1+1)=k+1+1:=aN (by omega)
   have iQ:k<s.aR.length:=by omega
   have h0:(0:Int)<(k:Int)+1:=by omega
   simp[s1,e1,s3,s4,e4,au,uZ,iQ,h0,ae,dq];refine⟨_,by kernel_rfl,T1 hG s.aR[k] s.aR[k+1],λ_=>rfl,?_⟩;cases hq:qV s.aR[k] s.aR[k+1]
   .simp;simp[aU,kn (p:=gZ s) au hq]
   .simp[s1,e1,s3,s4,lS,tF,oz,au,gD];refine⟨rfl,λj hj ye=>?_,λj hj ye=>?_⟩
    .by_cases e:j=k+1
     .subst e;exact hp
     .exact hb j hj (by omega)
    .by_cases e:j=k
     .subst e;exact hq
     .exact hc j hj (by omega)
theorem HY(s:aq)(w:Word):gJ s w=(w.aK.all (gv s)&&(eo w.bK 1 (w.aK.length-1)&&bO w.aK.length 1 6)):=by
 unfold gJ;rw[oD]
 cases bO w.aK.length 1 6<;>cases w.aK.all (gv s)<;>cases eo w.bK 1 (w.aK.length-1)<;>rfl
theorem Ts(hG:aw GI)(s:aq)(hs:s.aY.length<1000)(w:Word)(h1:w.aK.length<1000)(h2:w.bK.length<1000):AC prog GI 152 [bP s,bD w] (.ret (.bool (gJ s w))):=by
 rw[HY];refine bW hG func152 ntmps152 c152 ?_;refine aI (λS H=>S 2=.box 2 0/\S 3=.box 3 0/\H 2=some (ae s)/\H 3=some [vI w.aK,vI w.bK,.bool w.free]) (by simp[bP,ae,bD]) ?_;rintro S H ⟨s2,s3,e2,e3⟩;simp[s2,s3,e2,e3];refine bw 5 w.aK.length (λi S H=>S 2=.box 2 0/\S 3=.box 3 0/\H 2=some (ae s)/\H 3=some [vI w.aK,vI w.bK,.bool w.free]/\S 5=.int .i64 (i:Nat)/\(∀j (hj:j<w.aK.length),j<i->gv s w.aK[j]=true)) (λi S H h=>h.2.2.2.2.1) ⟨by simp[s2],by simp[s3],e2,e3,by simp,by simp⟩ ?_;clear s2 s3 e2 e3 S H;rintro i hi S H ⟨s2,s3,e2,e3,s5,hb⟩
 by_cases au:i<w.aK.length
 case pos=>
  have hw:IntKind.i64.wrap ((i:Int)+1)=i+1:=aN (by omega);simp[s2,s3,e2,e3,s5,au,ae];refine⟨_,by kernel_rfl,Fo hG s hs w.aK[i],λ_=>rfl,?_⟩;cases hp:gv s w.aK[i]
  .simp[pP au hp]
  .simp[s2,s3,e2,e3,s5,au,hw];exact⟨rfl,jY au hb hp⟩
 have cH:i=w.aK.length:=by omega
 subst cH
 have fQ:w.aK.all (gv s)=true:=sJ λj hj=>hb j hj hj
 simp[s2,s3,e2,e3,s5,fQ];refine bw 6 w.bK.length (λi S H=>S 3=.box 3 0/\H 3=some [vI w.aK,vI w.bK,.bool w.free]/\S 6=.int .i64 (i:Nat)/\(∀j (hj:j<w.bK.length),j<i->bO w.bK[j] 1 (w.aK.length-1)=true)/\∀j (hj:j+1<w.bK.length),j+1<i->decide (w.bK[j]<w.bK[j+1])=true) (λi S H h=>h.2.2.1) ⟨by simp[s3],e3,by simp,by simp,by simp⟩ ?_;clear s2 s3 e2 e3 s5 hb S H;rintro i hi S H ⟨s3,e3,s6,hb,hc⟩
 by_cases au:i<w.bK.length
 case neg=>
  have cH:i=w.bK.length:=by omega
  subst cH;have hr:eo w.bK 1 (w.aK.length-1)=true:=mD (λj hj=>hb j hj hj) (λj hj=>hc j hj hj);simp[s3,e3,s6,hr];refine⟨_,by kernel_rfl,oR hG w.aK.length 1 6,λ_=>rfl,?_⟩;simp
 case pos=>
  have hw:IntKind.i64.wrap ((i:Int)+1)=i+1:=aN (by omega);have pv:IntKind.i64.wrap ((w.aK.length:Int)-1)=w.aK.length-1:=aN (by omega);simp[s3,e3,s6,au,pv];refine⟨_,by kernel_rfl,oR hG w.bK[i] 1 (w.aK.length-1),λ_=>rfl,?_⟩;cases hp:bO w.bK[i] 1 (w.aK.length-1)
  .have hr:eo w.bK 1 (w.aK.length-1)=false:=jX au hp;simp[hr]
  cases i with
  |zero=>
   simp[s3,e3,s6,au];exact⟨aN (by omega),λj hj ve=>by subst ve;exact hp⟩
  |succ k=>
   have uZ:IntKind.i64.wrap (k:Int)=k:=aN (by omega);have gD:IntKind.i64.wrap ((k:Int)+1+1)=k+1+1:=aN (by omega)
   have iQ:k<w.bK.length:=by omega
   have h0:(0:Int)<(k:Int)+1:=by omega
   have MT:(0:Int)<=(k:Int)+1:=by omega
   by_cases hle:w.bK[k+1]<=w.bK[k]
   .have hr:eo w.bK 1 (w.aK.length-1)=false:=kn (lt:=λa b=>decide (a<b)) au (by simpa using hle);simp[s3,e3,s6,au,uZ,iQ,hle,h0,MT,hr]
   .simp[s3,e3,s6,au,uZ,iQ,hle,h0,MT,gD];exact⟨jY (p:=λn=>bO n 1 (w.aK.length-1)) au hb hp,λj hj ye=>by simpa using qB (lt:=λa b=>decide (a<b)) au hc (by simpa using hle) j hj (by omega)⟩
def l4(s:aq):Bool:=iz (gZ s) qV s.aR&&decide (s.aR.length<=6)
theorem Cr(a b:j7):qV a b=!(decide (b.l<a.l)||(a.l==b.l&&decide (b.r<=a.r))):=by
 unfold qV
 by_cases h1:a.l<b.l
 .have h2:¬b.l<a.l:=by omega
  have h3:(a.l==b.l)=false:=by simp;omega
  simp[h1,h2,h3]
 .by_cases h2:b.l<a.l
  .have h3:(a.l==b.l)=false:=by simp;omega
   simp[h1,h2,h3]
  .have h3:(a.l==b.l)=true:=by simp;omega
   by_cases h4:b.r<=a.r
   .have h5:¬a.r<b.r:=by omega
    simp[h1,h2,h3,h4,h5]
   .have h5:a.r<b.r:=by omega
    simp[h1,h2,h3,h4,h5]
theorem Vm(hG:aw GI)(s:aq)(hs:s.aY.length<1000)(h1:s.aR.length<1000):AC prog GI 153 [bP s] (.ret (.bool (l4 s))):=by
 refine bW hG func153 ntmps153 c153 ?_;simp[c153,bP,ae];refine bw 3 s.aR.length (λi S H=>S 1=.box 1 0/\H 1=some (ae s)/\S 3=.int .i64 (i:Nat)/\(∀j (hj:j<s.aR.length),j<i->gZ s s.aR[j]=true)/\∀j (hj:j+1<s.aR.length),j+1<i->qV s.aR[j] s.aR[j+1]=true) (λi S H h=>h.2.2.1) ⟨by simp,by simp[ae],by simp,by simp,by simp⟩ ?_;rintro i hi S H ⟨s1,e1,s3,hb,hc⟩
 by_cases au:i<s.aR.length
 case neg=>
  have cH:i=s.aR.length:=by omega
  subst cH;have hr:iz (gZ s) qV s.aR=true:=mD (λj hj=>hb j hj hj) (λj hj=>hc j hj hj);simp[s1,e1,s3,ae,l4,hr]
  by_cases h6:s.aR.length<=6
  .have Jn:(s.aR.length:Int)<=6:=by omega
   simp[h6,Jn]
  .have Jn:¬(s.aR.length:Int)<=6:=by omega
   simp[h6,Jn]
 case pos=>
  have hw:IntKind.i64.wrap ((i:Int)+1)=i+1:=aN (by omega);refine yQ (λS H=>S 9=.bool true/\S 1=.box 1 0/\H 1=some (ae s)/\S 3=.int .i64 (i:Nat)) (by simp[s1,e1,s3,au,ae]) ?_;clear s1 e1 s3 S H;rintro S H ⟨s9,s1,e1,s3⟩;refine Bv s9 (xL ?_);refine aI (λS H=>S 4=.box 4 0/\H 4=some (dq s.aR[i]).cells/\S 1=.box 1 0/\H 1=some (ae s)/\S 3=.int .i64 (i:Nat)) (by simp[s1,e1,s3,au,ae,dq]) ?_;clear s1 e1 s3 s9 S H;rintro S H ⟨s4,e4,s1,e1,s3⟩;refine yQ (λS H=>S 34=.bool (!gZ s s.aR[i])/\S 4=.box 4 0/\H 4=some (dq s.aR[i]).cells/\S 1=.box 1 0/\H 1=some (ae s)/\S 3=.int .i64 (i:Nat)) ?_ ?_
  .simp[s1,e1,s3,s4,e4,ae,dq];refine⟨_,by kernel_rfl,Fo hG s hs s.aR[i].l,λ_=>rfl,?_⟩;cases h1:gv s s.aR[i].l
   .simp[s1,e1,s3,s4,e4,ae,dq,gZ,h1]
   simp[s1,e1,s3,s4,e4,ae,dq];refine⟨_,by kernel_rfl,Fo hG s hs s.aR[i].r,λ_=>rfl,?_⟩;cases h2:gv s s.aR[i].r
   .simp[s1,e1,s3,s4,e4,ae,dq,gZ,h1,h2]
   simp[s1,e1,s3,s4,e4,ae,dq];refine⟨_,by kernel_rfl,FF hG s.aR[i].lo s.aR[i].hi 9,λ_=>rfl,?_⟩;simp[s1,e1,s3,s4,e4,ae,dq,gZ,h1,h2]
  clear s1 e1 s3 s4 e4 S H;rintro S H ⟨Ol,s4,e4,s1,e1,s3⟩;cases hp:gZ s s.aR[i]
  .rw[hp]at Ol
   have hr:l4 s=false:=by unfold l4;rw[jX au hp];rfl
   simp[Ol,hr]
  rw[hp]at Ol;refine JX Ol ?_
  cases i with
  |zero=>
   simp[s1,e1,s3,s4,e4,ae,au];exact⟨aN (by omega),λj hj ve=>by subst ve;exact hp⟩
  |succ k=>
   have uZ:IntKind.i64.wrap (k:Int)=k:=aN (by omega);have gD:IntKind.i64.wrap ((k:Int)+1+1)=k+1+1:=aN (by omega)
   have iQ:k<s.aR.length:=by omega
   have h0:(0:Int)<(k:Int)+1:=by omega
   cases hq:qV s.aR[k] s.aR[k+1]
   .have hr:l4 s=false:=by unfold l4;rw[kn au hq];rfl
    rw[Cr]at hq
    by_cases h1:s.aR[k+1].l<s.aR[k].l
    .simp[s1,e1,s3,s4,e4,ae,dq,uZ,iQ,h0,h1,hr]
    .cases h2:s.aR[k].l==s.aR[k+1].l
     .simp[h1,h2]at hq
     .by_cases h3:s.aR[k+1].r<=s.aR[k].r
      .simp[s1,e1,s3,s4,e4,ae,dq,uZ,iQ,h0,h1,h2,h3,hr]
      .simp[h1,h2,h3]at hq
   .have Rv:=hq;rw[Cr]at hq
    have h1:¬s.aR[k+1].l<s.aR[k].l:=λh=>by simp[h]at hq
    cases h2:s.aR[k].l==s.aR[k+1].l
    .simp[s1,e1,s3,s4,e4,ae,dq,uZ,iQ,h0,h1,h2,gD,au];exact⟨jY au hb hp,λj hj ye=>qB au hc Rv j hj (by omega)⟩
    .have h3:¬s.aR[k+1].r<=s.aR[k].r:=λh=>by simp[h1,h2,h]at hq
     simp[s1,e1,s3,s4,e4,ae,dq,uZ,iQ,h0,h1,h2,h3,gD,au];exact⟨jY au hb hp,λj hj ye=>qB au hc Rv j hj (by omega)⟩
theorem FW(s:aq):aU s=(s.aY.all (bO · 1 20)&&(s.words.all (gJ s)&&(bO s.aY.length 1 6&&l4 s&&ij s.ib s.g_ 0 9&&ij s.lx s.lL 0 20&&bO s.cG 1 20&&bO s.words.length 1 4&&bO s.wide 1 400&&bO s.rows 1 3))):=by
 unfold aU nW l4;rw[oD,oD]
 cases bO s.aY.length 1 6<;>cases decide (s.aR.length<=6)<;>cases bO s.words.length 1 4<;>cases iz (gZ s) qV s.aR<;>cases s.aY.all (bO · 1 20)<;>cases s.words.all (gJ s)<;>cases ij s.ib s.g_ 0 9<;>simp
theorem aaS(hG:aw GI)(s:aq)(hs:mG s):AC prog GI 94 [bP s] (.ret (.bool (aU s))):=by
 rw[FW];have q1:=hs.aY;have q2:=hs.aR;have q3:=hs.words;refine bW hG func94 ntmps94 c94 ?_;simp[c94,bP,ae];refine bw 3 s.aY.length (λi S H=>S 1=.box 1 0/\H 1=some (ae s)/\S 3=.int .i64 (i:Nat)/\(∀j (hj:j<s.aY.length),j<i->bO s.aY[j] 1 20=true)) (λi S H h=>h.2.2.1) ⟨by simp,by simp[ae],by simp,by simp⟩ ?_;rintro i hi S H ⟨s1,e1,s3,hb⟩
 by_cases au:i<s.aY.length
 case pos=>
  have hw:IntKind.i64.wrap ((i:Int)+1)=i+1:=aN (by omega);simp[s1,e1,s3,au,ae];refine⟨_,by kernel_rfl,oR hG s.aY[i] 1 20,λ_=>rfl,?_⟩;cases hp:bO s.aY[i] 1 20
  .simp[pP (p:=λn=>bO n 1 20) au hp]
  .simp[s1,e1,s3,au,hw];exact⟨rfl,jY (p:=λn=>bO n 1 20) au hb hp⟩
 have cH:i=s.aY.length:=by omega
 subst cH
 have fQ:s.aY.all (bO · 1 20)=true:=sJ λj hj=>hb j hj hj
 simp[s1,e1,s3,ae,fQ];refine bw 4 s.words.length (λi S H=>S 1=.box 1 0/\H 1=some (ae s)/\S 4=.int .i64 (i:Nat)/\(∀j (hj:j<s.words.length),j<i->gJ s s.words[j]=true)) (λi S H h=>h.2.2.1) ⟨by simp[s1],by simp[e1,ae],by simp,by simp⟩ ?_;clear s1 e1 s3 hb S H;rintro i hi S H ⟨s1,e1,s4,hb⟩
 by_cases au:i<s.words.length
 case pos=>
  have hw:IntKind.i64.wrap ((i:Int)+1)=i+1:=aN (by omega);simp[s1,e1,s4,au,ae,bD];refine⟨_,by kernel_rfl,Ts hG s q1 s.words[i] (hs.aK _ (ada au)) (hs.bK _ (ada au)),λ_=>rfl,?_⟩;cases hp:gJ s s.words[i]
  .simp[pP au hp]
  .simp[s1,e1,s4,au,hw];exact⟨rfl,jY au hb hp⟩
 have cH:i=s.words.length:=by omega
 subst cH
 have TV:s.words.all (gJ s)=true:=sJ λj hj=>hb j hj hj
 simp[s1,e1,s4,ae,TV];refine⟨_,by kernel_rfl,oR hG s.aY.length 1 6,λ_=>rfl,?_⟩;cases h1:bO s.aY.length 1 6
 .simp
 simp[s1,e1,s4,ae];refine⟨_,by kernel_rfl,Vm hG s q1 q2,λ_=>rfl,?_⟩;cases h2:l4 s
 .simp
 simp[s1,e1,s4,ae];refine⟨_,by kernel_rfl,FF hG s.ib s.g_ 9,λ_=>rfl,?_⟩;cases h3:ij s.ib s.g_ 0 9
 .simp
 simp[s1,e1,s4,ae];refine⟨_,by kernel_rfl,FF hG s.lx s.lL 20,λ_=>rfl,?_⟩;cases h4:ij s.lx s.lL 0 20
 .simp
 simp[s1,e1,s4,ae];refine⟨_,by kernel_rfl,oR hG s.cG 1 20,λ_=>rfl,?_⟩;cases h5:bO s.cG 1 20
 .simp
 simp[s1,e1,s4,ae];refine⟨_,by kernel_rfl,oR hG s.words.length 1 4,λ_=>rfl,?_⟩;cases h6:bO s.words.length 1 4
 .simp
 simp[s1,e1,s4,ae];refine⟨_,by kernel_rfl,SB hG s.wide,λ_=>rfl,?_⟩;cases h7:bO s.wide 1 400
 .simp
 simp[s1,e1,s4,ae];refine⟨_,by kernel_rfl,oR hG s.rows 1 3,λ_=>rfl,?_⟩;simp
end Go.Proofs.Tryz
namespace Go.Proofs.Tryz
open Go.AL
noncomputable def c20:af:=(.seq (.ops [⟨(some 2),none,.box 31 15 (.t 0)⟩,⟨(some 4),none,.mv true (.c (.bool false))⟩]) (.seq (bu 178 f20.cO.cB.cA) (.seq (bu 178 f20.cO.cB.cB.cA) (.seq (bu 178 f20.cO.cB.cB.cB.cA) (.seq (bu 178 f20.cO.cB.cB.cB.cB.cA) (.seq (bu 178 f20.cO.cB.cB.cB.cB.cB.cA) (.seq (.seq (bu 178 f20.cO.cB.cB.cB.cB.cB.cB.cA.cA) (.cond (.t 104) (.seq (.ops [⟨(some 4),none,.mv true (.c (.bool false))⟩])<|.ret) (.skip))) (.seq (bu 178 f20.cO.cB.cB.cB.cB.cB.cB.cB.cA) (.seq (bu 178 f20.cO.cB.cB.cB.cB.cB.cB.cB.cB.cA) (.seq (bu 178 f20.cO.cB.cB.cB.cB.cB.cB.cB.cB.cB.cA) (.seq (bu 178 f20.cO.cB.cB.cB.cB.cB.cB.cB.cB.cB.cB.cA) (.seq (bu 178 f20.cO.cB.cB.cB.cB.cB.cB.cB.cB.cB.cB.cB.cA) (.seq (bu 178 f20.cO.cB.cB.cB.cB.cB.cB.cB.cB.cB.cB.cB.cB.cA) (.ret))))))))))))))
def eF(a b:End):Bool:=decide (a.1<b.1)||(a.1==b.1&&decide (a.2<b.2))
theorem lW{a b:End}:eF a b=true↔a.1<b.1\/a.1=b.1/\a.2<b.2:=by
 simp[eF]
section
variable{l:List End}
end
def hZ(s:aq)(n:Int):Bool:=match s.words[n.toNat]? with|some w=>!w.free|none=>false
def cq(s:aq)(out:List Int):Bool:=eo out 0 (s.words.length-1)&&decide (out.length<s.words.length)&&!(out.any (hZ s))
def fN(s:aq)(out:List Int)(n:Nat):List End:=if out.contains (n:Int)then[]else match s.words[n]? with
 |some w=>(w.bK.map λk=>((n:Int),k))++[((n:Int),(w.aK.length:Int))]
 |none=>[]
def gV(s:aq)(out:List Int):List End:=(List.range s.words.length).flatMap (fN s out)
def iZ(out:List Int):Nat->Int
 |0=> -1
 |n+1=>if out.contains (n:Int)then iZ out n else n
def rD(s:aq)(out:List Int)(e:End):Bool:=bO e.1 0 (s.words.length-1)&&!out.contains e.1&&match s.words[e.1.toNat]? with
 |some w=>e.2==(w.aK.length:Int)||w.bK.contains e.2
 |none=>false
def jf(s:aq)(out:List Int):End:=(iZ out s.words.length,match s.words[(iZ out s.words.length).toNat]? with|some w=>(w.aK.length:Int)|none=>0)
def iE(s:aq)(out:List Int)(es:List End):Bool:=cq s out&&!es.isEmpty&&(iz (rD s out) eF es&&(es.getLast?.getD (-1,0)==jf s out))
theorem wU{s:aq}{out:List Int}{e:End}:e∈gV s out↔rD s out e=true:=by
 unfold gV rD bO;rw[adR];simp only[adF,adb,adf,adP,afD,aew]
 constructor
 .rintro⟨n,hn,he⟩;unfold fN at he;split at he
  .cases he
  rename_i hc
  have hc:¬(n:Int)∈out:=by simpa using hc
  rw[ac_ hn]at he;simp only[adm,adx,ady]at he
  have h1:e.1=n:=by rcases he with⟨k,_,rfl⟩|rfl<;>rfl
  rw[h1];refine⟨⟨by omega,hc⟩,?_⟩;rw[Int.toNat_natCast,ac_ hn];simp only[aei,adX,adf];rcases he with⟨k,hk,rfl⟩|rfl
  .exact .inr hk
  .exact .inl rfl
 .rintro⟨⟨⟨h1,h2⟩,hc⟩,h3⟩;obtain⟨w,k⟩:=e
  obtain⟨n,rfl⟩:∃n:Nat,w=n:=⟨w.toNat,by simp only at h1;omega⟩
  simp only at h1 h2 hc h3
  have hn:n<s.words.length:=by omega
  refine⟨n,hn,?_⟩;unfold fN;rw[if_neg (by simpa using hc)];rw[Int.toNat_natCast,ac_ hn]at h3;rw[ac_ hn];simp only[aei,adX,adf]at h3;simp only[adm,adx,ady];rcases h3 with rfl|h3
  .exact .inr rfl
  .exact .inl ⟨k,h3,rfl⟩
theorem qX{s:aq}{out:List Int}(hw:∀w∈s.words,eo w.bK 1 (w.aK.length-1)=true):(gV s out).Pairwise λa b=>eF a b=true:=by
 unfold gV;rw[List.pairwise_flatMap]
 constructor
 .intro n hn;rw[adF]at hn;unfold fN;split
  .exact .nil
  rw[ac_ hn];have h:=hw s.words[n] (ada hn);unfold eo at h;rw[eu]at h;obtain⟨h1,h2⟩:=h;simp only;rw[ae4];refine⟨?_,ae0 _ _,?_⟩
  .rw[List.pairwise_map]
   have:s.words[n].bK.Pairwise λa b=>a<b:=DI λj hj=>by simpa using h2 j hj
   exact this.imp λh=>by simp[eF,h]
  .intro a ha b hb;rw[ady]at hb;subst hb;obtain⟨k,hk,rfl⟩:=adx.1 ha;have:=h1 k hk;simp[bO]at this;simp[eF];omega
 .refine List.Pairwise.imp_of_mem ?_ afn;intro a b ha hb pq x hx y hy
  have qU:x.1=a:=by
   unfold fN at hx;split at hx
   .cases hx
   split at hx
   .simp only[adm,adx,ady]at hx
    rcases hx with⟨k,_,rfl⟩|rfl<;>rfl
   .cases hx
  have Dl:y.1=b:=by
   unfold fN at hy;split at hy
   .cases hy
   split at hy
   .simp only[adm,adx,ady]at hy
    rcases hy with⟨k,_,rfl⟩|rfl<;>rfl
   .cases hy
  rw[lW,qU,Dl];left;omega
theorem uL{out:List Int}:∀n:Nat,(iZ out n= -1/\∀k:Nat,k<n->(k:Int)∈out)\/∃m:Nat,m<n/\iZ out n=m/\¬(m:Int)∈out/\∀k:Nat,m<k->k<n->(k:Int)∈out
 |0=>.inl ⟨rfl,λk hk=>by omega⟩
 |n+1=>by
  unfold iZ;split
  .rename_i hc
   have hc:(n:Int)∈out:=by simpa using hc
   rcases uL (out:=out) n with⟨h1,h2⟩|⟨m,h1,h2,h3,h4⟩
   .refine .inl ⟨h1,λk hk=>?_⟩
    by_cases e:k=n
    .subst e;exact hc
    .exact h2 k (by omega)
   .refine .inr ⟨m,by omega,h2,h3,λk hk dP=>?_⟩
    by_cases e:k=n
    .subst e;exact hc
    .exact h4 k hk (by omega)
  .rename_i hc;exact .inr ⟨n,by omega,rfl,by simpa using hc,λk h1 h2=>by omega⟩
theorem DP{s:aq}{out:List Int}(h:cq s out=true):∃m:Nat,m<s.words.length/\iZ out s.words.length=m/\¬(m:Int)∈out/\∀k:Nat,m<k->k<s.words.length->(k:Int)∈out:=by
 unfold cq at h;simp only[adb,adf]at h;obtain⟨⟨h1,h2⟩,_⟩:=h;rcases uL (out:=out) s.words.length with⟨_,h3⟩|h3
 .exfalso;unfold eo at h1;rw[eu]at h1;obtain⟨_,h1⟩:=h1
  have hp:out.Pairwise λa b=>a<b:=DI λj hj=>by simpa using h1 j hj
  have hp:=aeo.1 hp
  have key:∀k:Nat,k<s.words.length->∃j,k<=j/\∃hj:j<out.length,out[j]=k:=by
   intro k
   induction k with
   |zero=>
    intro hk;obtain⟨j,hj,e⟩:=adG (h3 0 hk);exact⟨j,by omega,hj,e⟩
   |succ k ih=>
    intro hk;obtain⟨j,hkj,hj,e⟩:=ih (by omega);obtain⟨j',dY,e'⟩:=adG (h3 (k+1) hk);refine⟨j',?_,dY,e'⟩;rcases Nat.lt_trichotomy j j' with h|h|h
    .omega
    .subst h;omega
    .have:=hp j' j dY hj h;omega
  obtain⟨j,hkj,hj,_⟩:=key (s.words.length-1) (by omega);omega
 .exact h3
theorem wM{s:aq}{out:List Int}(h:cq s out=true):(gV s out).getLast?=some (jf s out):=by
 obtain⟨m,h1,h2,h3,h4⟩:=DP h
 have hl:jf s out=((m:Int),((s.words[m]).aK.length:Int)):=by
  unfold jf;rw[h2,Int.toNat_natCast,ac_ h1]
 rw[hl];unfold gV
 obtain⟨d,hd⟩:∃d,s.words.length=m+1+d:=⟨s.words.length-m-1,by omega⟩
 have key:∀d,m+1+d<=s.words.length->((List.range (m+1+d)).flatMap (fN s out)).getLast?=some ((m:Int),((s.words[m]).aK.length:Int)):=by
  intro d
  induction d with
  |zero=>
   intro _;rw[Nat.add_zero,adY,aee,aez]
   have hm:¬(out.contains (m:Int)=true):=by simpa using h3
   have e:fN s out m=(s.words[m].bK.map λk=>((m:Int),k))++[((m:Int),(s.words[m].aK.length:Int))]:=by
    unfold fN;rw[if_neg hm,ac_ h1]
   rw[e,<-aef,agf];simp
  |succ d ih=>
   intro hle;rw[<-afJ,adY,aee,aez]
   have hc:out.contains ((m+1+d:Nat):Int)=true:=by simpa using h4 (m+1+d) (by omega) (by omega)
   have e:fN s out (m+1+d)=[]:=by
    unfold fN;rw[if_pos hc]
   rw[e,adT];exact ih (by omega)
 rw[hd];exact key d (by omega)
def cg(s:aq)(w:Nat):Nat:=match s.words[w]? with|some x=>x.aK.length|none=>0
theorem fP{s:aq}{w:Nat}(h:w<s.words.length):cg s w=s.words[w].aK.length:=by unfold cg;rw[ac_ h]
def ln(w f t:Nat):List (Nat×Nat):=(List.range' f (t-f)).map λi=>(w,i)
def h_(s:aq)(out:List Int):Nat->Nat->Nat->Nat->List (Nat×Nat)
 |0,w,f,t=>ln w f t
 |d+1,w,f,t=>(if out.contains (w:Int)then[]else ln w f (cg s w))++h_ s out d (w+1) 0 t
def gX(s:aq)(out:List Int)(a e:Nat×Nat):List (Nat×Nat):=h_ s out (e.1-a.1) a.1 a.2 e.2
theorem zp{w f t:Nat}(h:t<=f):ln w f t=[]:=by
 unfold ln;rw[show t-f=0 by omega];rfl
theorem zx{w f t:Nat}(h:f<t):ln w f t=(w,f)::ln w (f+1) t:=by
 unfold ln;rw[show t-f=(t-(f+1))+1 by omega,aeB];rfl
theorem DH{w f t:Nat}(h:f<=t):ln w f (t+1)=ln w f t++[(w,t)]:=by
 unfold ln;rw[show t+1-f=(t-f)+1 by omega,ae2,adD];simp only[adC,adO,Nat.one_mul];rw[show f+(t-f)=t by omega]
theorem za{w f t:Nat}:(ln w f t).length=t-f:=by simp[ln]
theorem CP{w f t:Nat}{g:Nat×Nat}:g∈ln w f t↔g.1=w/\f<=g.2/\g.2<t:=by
 unfold ln;rw[adx];simp only[aeY]
 constructor
 .rintro⟨i,hi,rfl⟩;exact⟨rfl,hi.1,by have:=hi.2;show i<t;omega⟩
 .rintro⟨h1,h2,h3⟩;exact⟨g.2,by omega,by rw[<-h1]⟩
theorem Fi{s:aq}{out:List Int}{w f t:Nat}(h:t<=f):gX s out (w,f) (w,t)=[]:=by
 unfold gX;simp only[afQ];exact zp h
theorem tS{s:aq}{out:List Int}{w f t:Nat}:gX s out (w,f) (w,t)=ln w f t:=by
 unfold gX;simp only[afQ]
 rfl
theorem ng{s:aq}{out:List Int}{w f:Nat}{e:Nat×Nat}(h:w<e.1):gX s out (w,f) e=(if out.contains (w:Int)then[]else ln w f (cg s w))++gX s out (w+1,0) e:=by
 unfold gX;simp only;rw[show e.1-w=(e.1-(w+1))+1 by omega]
 rfl
theorem DF{s:aq}{out:List Int}{w f:Nat}{e:Nat×Nat}(h:w<e.1)(hc:out.contains (w:Int)=true):gX s out (w,f) e=gX s out (w+1,0) e:=by
 rw[ng h,if_pos hc,List.nil_append]
theorem EM{s:aq}{out:List Int}{w f:Nat}{e:Nat×Nat}(h:w<e.1)(hf:cg s w<=f):gX s out (w,f) e=gX s out (w+1,0) e:=by
 rw[ng h];split
 .rfl
 .rw[zp hf];rfl
theorem LK{s:aq}{out:List Int}{w f:Nat}{e:Nat×Nat}(h:w<e.1/\out.contains (w:Int)=false/\f<cg s w\/w=e.1/\f<e.2):gX s out (w,f) e=(w,f)::gX s out (w,f+1) e:=by
 rcases h with⟨h,hc,hf⟩|⟨h,hf⟩
 .rw[ng h,ng h,hc];simp only[adl,adz];rw[zx hf];rfl
 .obtain⟨ew,et⟩:=e;simp only at h hf;subst h;rw[tS,tS,zx hf]
theorem vW{s:aq}{out:List Int}{b:Nat}(hb:∀w,cg s w<=b):∀(d w f t:Nat),t<=b->(h_ s out d w f t).length<=(d+1)*b
 |0,w,f,t,h=>by
  unfold h_;rw[za];omega
 |d+1,w,f,t,h=>by
  unfold h_;rw[adq];have h1:=vW (out:=out) hb d (w+1) 0 t h
  have h2:(if out.contains (w:Int)then[]else ln w f (cg s w)).length<=b:=by
   split
   .simp
   .rw[za];have:=hb w;omega
  have:(d+1+1)*b=(d+1)*b+b:=agJ _ _;omega
theorem zG{s:aq}{out:List Int}:∀(d w f t:Nat){g:Nat×Nat},g∈h_ s out d w f t->(g.1=w+d/\g.2<t)\/(w<=g.1/\g.1<w+d/\g.2<cg s g.1)
 |0,w,f,t,g,h=>by
  have:=CP.1 h;left;omega
 |d+1,w,f,t,g,h=>by
  unfold h_ at h;rcases adm.1 h with h|h
  .split at h
   .cases h
   .have:=CP.1 h;right;rw[this.1];omega
  .rcases zG d (w+1) 0 t h with h|h
   .left;omega
   .right;omega
theorem yN{s:aq}{out:List Int}:∀(d w f t:Nat),(d=0->f<t)->0<t->(h_ s out d w f t).getLast?=some (w+d,t-1)
 |0,w,f,t,h,h'=>by
  have h:=h rfl;unfold h_
  obtain⟨t,rfl⟩:∃t',t=t'+1:=⟨t-1,by omega⟩
  rw[DH (by omega)];simp
 |d+1,w,f,t,h,h'=>by
  unfold h_;have:=yN (s:=s) (out:=out) d (w+1) 0 t (λ_=>h') h';rw[agf,this];show some (w+1+d,t-1)=some (w+(d+1),t-1);rw[show w+1+d=w+(d+1) by omega]
def nE(e:End):Nat×Nat:=(e.1.toNat,e.2.toNat)
def jd(es:List End):Nat->Nat×Nat
 |0=>(0,0)
 |i+1=>match es[i]? with|some e=>nE e|none=>(0,0)
def gp(s:aq)(out:List Int)(es:List End)(i:Nat):List (Nat×Nat):=match es[i]? with|some e=>gX s out (jd es i) (nE e)|none=>[]
def iM(s:aq)(es:List End)(i:Nat):Bool:=match es[i]? with|some e=>decide (e.2<(cg s e.1.toNat:Int))|none=>false
structure Good(s:aq)(out:List Int)(es:List End):Prop where
 one:∀i (h:i<es.length),0<=es[i].1/\es[i].1<s.words.length/\out.contains es[i].1=false/\1<=es[i].2/\es[i].2<=cg s es[i].1.toNat
 V6:∀i (h:i+1<es.length),es[i].1<es[i+1].1\/es[i].1=es[i+1].1/\es[i].2<es[i+1].2
theorem uc{s:aq}(h:aU s=true){w:Word}(hw:w∈s.words):gJ s w=true:=by
 unfold aU nW at h;simp only[adb,adP,ad5]at h;have:=h.2.1.1.2 w hw;simpa using this
structure TI(s:aq)(w:Word):Prop where
 C0:1<=w.aK.length
 uw:w.aK.length<=6
 sign:∀n∈w.aK,0<=n/\n<s.aY.length
 bK:eo w.bK 1 (w.aK.length-1)=true
theorem lg{s:aq}(h:aU s=true){w:Word}(hw:w∈s.words):TI s w:=by
 have h:=uc h hw;unfold gJ at h;simp only[adb,adP,ad5,bO,adf]at h;obtain⟨⟨⟨h1,h2⟩,h3⟩,h4⟩:=h;refine⟨by omega,by omega,λn hn=>?_,h4⟩;have:=h3 n hn;simp[gv,bO]at this;omega
theorem mX{s:aq}{out:List Int}{es:List End}(hs:aU s=true)(h:iE s out es=true):Good s out es:=by
 unfold iE at h;simp only[adb]at h;obtain⟨_,h,_⟩:=h;rw[eu]at h;obtain⟨h1,h2⟩:=h;refine⟨λi hi=>?_,λi hi=>?_⟩
 .have:=h1 _ (ada hi);unfold rD bO at this;simp only[adb,adf,adP]at this;obtain⟨⟨⟨a1,a2⟩,a3⟩,a4⟩:=this
  have au:es[i].1.toNat<s.words.length:=by omega
  rw[ac_ au]at a4;have hw:=lg hs (ada au);rw[fP au];refine⟨a1,by omega,a3,?_⟩;simp only[aei,adX]at a4;rcases a4 with a4|a4
  .have:=hw.C0;omega
  .have hc:=hw.bK;unfold eo at hc;rw[eu]at hc;have:=hc.1 _ (by simpa using a4);simp[bO]at this;omega
 .have:=h2 i hi;rw[lW]at this;exact this
theorem xP{s:aq}{out:List Int}{es:List End}(g:Good s out es){i:Nat}(h:i<es.length):(jd es i).1<(nE es[i]).1\/(jd es i).1=(nE es[i]).1/\(jd es i).2<(nE es[i]).2:=by
 cases i with
 |zero=>
  have:=g.one 0 h;show 0<es[0].1.toNat\/0=es[0].1.toNat/\0<es[0].2.toNat;omega
 |succ i=>
  have h1:=g.one i (by omega);have h2:=g.one (i+1) h;have h3:=g.V6 i h
  have e:jd es (i+1)=nE es[i]:=by
   show(match es[i]? with|some e=>nE e|none=>(0,0))=_;rw[ac_ (by omega)]
  rw[e];show es[i].1.toNat<es[i+1].1.toNat\/es[i].1.toNat=es[i+1].1.toNat/\es[i].2.toNat<es[i+1].2.toNat;omega
theorem mZ{s:aq}{out:List Int}{es:List End}{i:Nat}(h:i<es.length):gp s out es i=gX s out (jd es i) (nE es[i]):=by
 unfold gp;rw[ac_ h]
theorem ur{s:aq}{es:List End}{i:Nat}(h:i<es.length):iM s es i=decide (es[i].2<(cg s es[i].1.toNat:Int)):=by
 unfold iM;rw[ac_ h]
theorem Al{s:aq}{out:List Int}{es:List End}(g:Good s out es){i:Nat}(h:i<es.length):(gp s out es i).getLast?=some ((nE es[i]).1,(nE es[i]).2-1):=by
 have h1:=xP g h;have h2:=g.one i h;rw[mZ h];unfold gX
 have h3:0<(nE es[i]).2:=by show 0<es[i].2.toNat;omega
 rw[yN _ _ _ _ (λhd=>by omega) h3]
 congr 2
 omega
theorem zo{s:aq}{out:List Int}{es:List End}(g:Good s out es){i:Nat}(h:i<es.length):gp s out es i≠[]:=by
 intro e;have:=Al g h;rw[e]at this;cases this
theorem yL{s:aq}{out:List Int}{es:List End}(g:Good s out es){i:Nat}{x:Nat×Nat}(hx:x∈gp s out es i):x.1<s.words.length/\x.2<cg s x.1:=by
 by_cases h:i<es.length
 case neg=>
  unfold gp at hx;rw[adv (by omega)]at hx;cases hx
 have h1:=xP g h;have h2:=g.one i h;rw[mZ h]at hx;have e1:(nE es[i]).1=es[i].1.toNat:=rfl;have e2:(nE es[i]).2=es[i].2.toNat:=rfl
 rcases zG _ _ _ _ hx with⟨h3,h4⟩|⟨h3,h4,h5⟩
 .have h5:x.1=es[i].1.toNat:=by omega
  rw[h5];refine⟨by omega,by omega⟩
 .exact⟨by omega,h5⟩
theorem vZ{s:aq}{out:List Int}{es:List End}(hs:aU s=true)(g:Good s out es)(i:Nat):(gp s out es i).length<=24:=by
 by_cases h:i<es.length
 case neg=>
  unfold gp;rw[adv (by omega)];simp
 have h2:=g.one i h
 have hb:∀w,cg s w<=6:=by
  intro w;unfold cg;split
  .rename_i x hx;obtain⟨au,rfl⟩:=adE.1 hx;exact(lg hs (ada au)).uw
  .omega
 rw[mZ h];unfold gX;have h3:=vW (s:=s) (out:=out) hb ((nE es[i]).1-(jd es i).1) (jd es i).1 (jd es i).2 (nE es[i]).2 (by have:=hb es[i].1.toNat;show es[i].2.toNat<=6;omega)
 have h4:s.words.length<=4:=by
  unfold aU bO at hs;simp only[adb,adf]at hs;omega
 have h5:(nE es[i]).1<s.words.length:=by show es[i].1.toNat<_;omega
 have h6:((nE es[i]).1-(jd es i).1+1)*6<=4*6:=aeK _ (by omega);omega
abbrev Lt:=Int×Int
def bh(s:aq)(g:Nat×Nat):Lt:=((g.1:Int),match s.words[g.1]? with|some w=>w.aK[g.2]?.getD 0|none=>0)
def jb(lo hi st:Int):Int:=lo+((hi-lo)*st).tdiv 10
def f_(s:aq)(a b:Lt):Int×Int:=if a.1=b.1 then match s.aR.find? λp=>p.l==a.2&&p.r==b.2 with
 |some p=>(p.lo,p.hi)
 |none=>(s.ib,s.g_)
 else(s.lx,s.lL)
def kf(s:aq)(st:Int)(a b:Lt):Int:=jb (f_ s a b).1 (f_ s a b).2 st
def gu(s:aq)(a:Lt):Int:=if a.2<0 then s.cG else s.aY[a.2.toNat]?.getD 0
def gk(s:aq)(st:Int)(l:List Lt):Nat->Int
 |0=>0
 |i+1=>gk s st l i+(match l[i]?,l[i+1]? with|some a,some b=>kf s st a b|_,_=>0)
theorem nV{s:aq}{st:Int}{l:List Lt}{i:Nat}(h:i+1<l.length):gk s st l (i+1)=gk s st l i+kf s st (l[i]'(by omega)) l[i+1]:=by
 show gk s st l i+(match l[i]?,l[i+1]? with|some a,some b=>kf s st a b|_,_=>0)=_;rw[ac_ (by omega),ac_ h]
def fZ(s:aq)(l:List Lt):Nat->Int
 |0=>0
 |i+1=>fZ s l i+(match l[i]? with|some a=>gu s a|none=>0)
theorem nZ{s:aq}{l:List Lt}{i:Nat}(h:i<l.length):fZ s l (i+1)=fZ s l i+gu s l[i]:=by
 show fZ s l i+(match l[i]? with|some a=>gu s a|none=>0)=_;rw[ac_ h]
def gY(s:aq)(st:Int)(l:List Lt)(cut:Bool):Int:=(fZ s l l.length+(if cut then s.cG else 0))+(gk s st l (l.length-1)+(if cut then jb s.ib s.g_ st else 0))
theorem jI{lo hi st:Int}(h:lo<=hi)(h0:0<=st)(h1:st<=10):lo<=jb lo hi st/\jb lo hi st<=hi:=by
 unfold jb;have a:0<=(hi-lo)*st:=aeF (by omega) h0;have b:(hi-lo)*st<=(hi-lo)*10:=Int.mul_le_mul_of_nonneg_left h1 (by omega);rw[Int.tdiv_eq_ediv_of_nonneg a];generalize(hi-lo)*st=x at a b⊢;omega
structure j9(s:aq):Prop where
 aY:∀n∈s.aY,1<=n/\n<=20
 RU:s.aY.length<=6
 aR:∀p∈s.aR,0<=p.l/\0<=p.r/\0<=p.lo/\p.lo<=p.hi/\p.hi<=9
 Rl:s.aR.length<=6
 o:0<=s.ib/\s.ib<=s.g_/\s.g_<=9
 g:0<=s.lx/\s.lx<=s.lL/\s.lL<=20
 cG:1<=s.cG/\s.cG<=20
 words:1<=s.words.length/\s.words.length<=4
 wide:1<=s.wide/\s.wide<=400
 rows:1<=s.rows/\s.rows<=3
theorem eg{s:aq}(h:aU s=true):j9 s:=by
 unfold aU nW ij bO at h;simp only[adb,adf,adP,ad5,eu]at h;obtain⟨⟨⟨⟨h1,h2⟩,h3⟩,h4,_⟩,⟨⟨⟨⟨⟨h5,h6⟩,h7⟩,h8⟩,_⟩,h9⟩,nB⟩:=h;refine⟨λn hn=>?_,by omega,λp hp=>?_,h2,by omega,by omega,by omega,by omega,h9,nB⟩
 .have:=h5 n hn;simpa using this
 .have:=h4 p hp;unfold gZ gv ij bO at this;simp only[adb,adf]at this;omega
theorem nq{s:aq}(h:j9 s)(a b:Lt):0<=(f_ s a b).1/\(f_ s a b).1<=(f_ s a b).2/\(f_ s a b).2<=20:=by
 unfold f_;split
 .split
  .rename_i p hp;have:=h.aR p (afx hp);simp only;omega
  .have:=h.o;simp only;omega
 .have:=h.g;simp only;omega
theorem r_{s:aq}(h:j9 s){st:Int}(h0:0<=st)(h1:st<=10)(a b:Lt):0<=kf s st a b/\kf s st a b<=20:=by
 have h2:=nq h a b;have h3:=jI h2.2.1 h0 h1;unfold kf;omega
def C1(s:aq)(a:Lt):Prop:=0<=a.2/\a.2<s.aY.length
theorem rY{s:aq}(h:j9 s){a:Lt}(ha:C1 s a):1<=gu s a/\gu s a<=20:=by
 unfold gu;rw[if_neg (by have:=ha.1;omega)]
 have au:a.2.toNat<s.aY.length:=by have:=ha.1;have:=ha.2;omega
 rw[ac_ au];exact h.aY _ (ada au)
theorem m_{s:aq}(h:j9 s){l:List Lt}(hl:∀a∈l,C1 s a):∀{i:Nat},i<=l.length->(i:Int)<=fZ s l i/\fZ s l i<=20*i
 |0,_=>by simp[fZ]
 |i+1,hi=>by
  rw[nZ (by omega)];have:=m_ h hl (i:=i) (by omega);have:=rY h (hl _ (ada (show i<l.length by omega)));omega
theorem nj{s:aq}(h:j9 s){st:Int}(h0:0<=st)(h1:st<=10){l:List Lt}:∀{i:Nat},i+1<=l.length->0<=gk s st l i/\gk s st l i<=20*i
 |0,_=>by simp[gk]
 |i+1,hi=>by
  rw[nV hi];have:=nj h h0 h1 (l:=l) (i:=i) (by omega);have:=r_ h h0 h1 (l[i]'(by omega)) (l[i+1]'hi);omega
theorem yi{s:aq}(h:j9 s){st:Int}(h0:0<=st)(h1:st<=10){l:List Lt}(hl:l≠[])(ho:∀a∈l,C1 s a)(hlen:l.length<=24)(cut:Bool):1<=gY s st l cut/\gY s st l cut<=1000:=by
 have gf:=adV.2 hl;unfold gY;have:=nj h h0 h1 (l:=l) (i:=l.length-1) (by omega);have:=m_ h ho (i:=l.length) (by omega);have:=jI h.o.2.1 h0 h1;have:=h.o;have:=h.cG
 split<;>omega
def jQ(s:aq)(out:List Int)(es:List End)(st:Int)(i:Nat):Int:=gY s st ((gp s out es i).map (bh s)) (iM s es i)
def da(s:aq)(out:List Int)(es:List End)(st:Int):List Int:=(List.range es.length).map (jQ s out es st)
def eX(s:aq)(out:List Int)(es:List End)(st:Int):Bool:=decide ((es.length:Int)<=s.rows)&&(da s out es st).all λn=>decide (n<=s.wide)
def kF(p:Int->Bool):Nat->Int
 |0=> -1
 |n+1=>if p n then n else kF p n
def jn(s:aq)(out:List Int)(es:List End):Int:=kF (eX s out es) 11
theorem GF{s:aq}(hs:aU s=true){g:Nat×Nat}(h:g.1<s.words.length/\g.2<cg s g.1):C1 s (bh s g):=by
 obtain⟨h1,h2⟩:=h;rw[fP h1]at h2;unfold bh C1;simp only;rw[ac_ h1];simp only;rw[ac_ h2];exact(lg hs (ada h1)).sign _ (ada h2)
section
variable{s:aq}{out:List Int}{es:List End}
end
theorem Oq{now es:List End}:∀{all:List End}{m:Nat},all≠[]->all.Nodup->(es∈ch now all m↔∃t,es=now++t/\t.Sublist all/\t.getLast?=all.getLast?/\t.length<=m):=by
 have key:∀(all:List End),all.Nodup->∀(now:List End)(m:Nat),(all≠[]->(es∈ch now all m↔∃t,es=now++t/\t.Sublist all/\t.getLast?=all.getLast?/\t.length<=m))/\(all≠[]->(es∈lp now all m↔∃t,es=now++t/\t.Sublist all/\t.getLast?=all.getLast?/\t.length<=m+1)):=by
  intro all
  induction all with
  |nil=>intro _ now m;exact⟨λh=>absurd rfl h,λh=>absurd rfl h⟩
  |cons a r ih=>
   intro fk;obtain⟨hna,hnr⟩:=aff.1 fk;have ih:=ih hnr
   have Nu:∀(now:List End)(m:Nat),es∈lp now (a::r) m↔∃t,es=now++t/\t.Sublist (a::r)/\t.getLast?=(a::r).getLast?/\t.length<=m+1:=by
    intro now m;unfold lp;rw[adm]
    by_cases hr:r=[]
    .subst hr;rw[if_pos rfl,ady]
     constructor
     .rintro(h|h)
      .exact⟨[a],h,List.Sublist.refl _,rfl,by simp⟩
      .unfold lp at h;cases h
     .rintro⟨t,h1,h2,h3,h4⟩;left
      have:t=[a]:=by
       cases h2 with
       |cons _ h=>rw[List.sublist_nil.1 h]at h3;cases h3
       |cons_cons _ h=>rw[List.sublist_nil.1 h]
      rw[h1,this]
    .rw[if_neg hr]
     have hl:(a::r).getLast?=r.getLast?:=by
      cases r with
      |nil=>exact absurd rfl hr
      |cons b r=>rfl
     have h1:(es∈(match m with|0=>[]|m+1=>lp (now++[a]) r m))↔∃t,es=now++a::t/\t.Sublist r/\t.getLast?=r.getLast?/\t.length<=m:=by
      cases m with
      |zero=>
       constructor
       .intro h;cases h
       .rintro⟨t,_,_,h3,h4⟩;have:t=[]:=aeP.1 (by omega);subst this;exact absurd (aeS.1 h3.symm) hr
      |succ m=>
       simp only;rw[(ih (now++[a]) m).2 hr];simp
     rw[hl];refine(or_congr h1 ((ih now m).2 hr)).trans ?_
     constructor
     .rintro(⟨t,a1,a2,a3,a4⟩|⟨t,a1,a2,a3,a4⟩)
      .refine⟨a::t,a1,a2.cons_cons _,?_,by simp;omega⟩
       cases t with
       |nil=>exact absurd (aeS.1 a3.symm) hr
       |cons b t=>rw[<-a3];rfl
      .exact⟨t,a1,a2.cons _,a3,a4⟩
     .rintro⟨t,a1,a2,a3,a4⟩
      cases a2 with
      |cons _ h=>exact .inr ⟨t,a1,h,a3,a4⟩
      |cons_cons _ h=>
       rename_i t;left;refine⟨t,a1,h,?_,by simpa using a4⟩
       cases t with
       |nil=>
        exfalso;apply hna;exact afF a3.symm
       |cons b t=>rw[<-a3];rfl
   intro now m;refine⟨λ_=>?_,λ_=>Nu now m⟩;unfold ch;rw[if_neg (by simp)]
   cases m with
   |zero=>
    constructor
    .intro h;cases h
    .rintro⟨t,_,_,h3,h4⟩;have:t=[]:=aeP.1 (by omega);subst this
     cases r with
     |nil=>cases h3
     |cons b r=>exact absurd (aeS.1 h3.symm) (by simp)
   |succ m=>exact Nu now m
 intro all m h fk;exact(key all fk now m).1 h
theorem qd{a b c:End}(h:eF a b=true)(h':eF b c=true):eF a c=true:=by
 rw[lW]at*;omega
theorem gq(a:End):eF a a=false:=by
 cases h:eF a a with
 |false=>rfl
 |true=>rw[lW]at h;omega
abbrev kl(l:List End):Prop:=l.Pairwise λa b=>eF a b=true
theorem kl.nodup{l:List End}(h:kl l):l.Nodup:=h.imp λpq e=>by
 subst e;rw[gq]at pq;cases pq
theorem qh:∀{all t:List End},kl all->kl t->(∀x∈t,x∈all)->t.Sublist all
 |[],t,_,_,h=>by
  cases t with
  |nil=>exact .slnil
  |cons a t=>exact absurd (h a adt) (by simp)
 |a::r,[],_,_,_=>List.nil_sublist _
 |a::r,b::t,hs,ht,h=>by
  obtain⟨vR,uu⟩:=aeT.1 hs;obtain⟨ht1,ht2⟩:=aeT.1 ht;rcases ad6.1 (h b adt)with e|hb
  .subst e;refine .cons_cons _ (qh uu ht2 λx hx=>?_);rcases ad6.1 (h x (ado _ hx))with e|C3
   .subst e;have:=ht1 _ hx;rw[gq]at this;cases this
   .exact C3
  .refine .cons _ (qh uu ht λx hx=>?_);rcases ad6.1 (h x hx)with e|C3
   .subst e;exfalso;have h1:=vR b hb;rcases ad6.1 hx with e|pc
    .subst e;rw[gq]at h1;cases h1
    .have:=qd h1 (ht1 _ pc);rw[gq]at this;cases this
   .exact C3
theorem pV{l:List End}(h:∀j (hj:j+1<l.length),eF (l[j]'(by omega)) l[j+1]=true):kl l:=by
 unfold kl;rw[aeo];intro i j hi hj pK
 obtain⟨d,rfl⟩:∃d,j=i+1+d:=⟨j-i-1,by omega⟩
 clear pK
 induction d with
 |zero=>exact h i hj
 |succ d ih=>exact qd (ih (by omega)) (h (i+1+d) hj)
section
variable{s:aq}{out:List Int}{es:List End}
theorem HE(ho:cq s out=true):gV s out≠[]:=by
 intro e;have:=wM ho;rw[e]at this;cases this
theorem uy(hs:aU s=true):∀w∈s.words,eo w.bK 1 (w.aK.length-1)=true:=λ_ hw=>(lg hs hw).bK
def qF(s:aq)(out:List Int)(m:Nat):List (List End):=ch [] (gV s out) m
theorem zf(hs:aU s=true)(ho:cq s out=true){m:Nat}:es∈qF s out m↔iE s out es=true/\es.length<=m:=by
 have UD:=qX (out:=out) (uy hs);unfold qF;rw[Oq (HE ho) (kl.nodup UD)];unfold iE;rw[ho,afo,adb,adb,eu,adP,adX];have hl:=wM ho
 constructor
 .rintro⟨t,h1,h2,h3,h4⟩;rw[List.nil_append]at h1;subst h1;rw[h3,hl]
  have cI:es≠[]:=by
   rintro rfl;rw[hl]at h3;cases h3
  have jC:kl es:=UD.sublist h2;refine⟨⟨by simpa using cI,⟨λx hx=>wU.1 (h2.subset hx),λj hj=>aeo.1 jC j (j+1) _ _ (by omega)⟩,rfl⟩,h4⟩
 .rintro⟨⟨h1,⟨h2,h3⟩,h4⟩,h5⟩
  have cI:es≠[]:=by
   rintro rfl;cases h1
  refine⟨es,rfl,qh UD (pV h3) λx hx=>wU.2 (h2 x hx),?_,h5⟩;rw[List.getLast?_eq_some_getLast cI]at h4⊢;rw[hl];exact congrArg some h4
end
def pQ:List End->List End->Bool
 |[],[]=>false
 |[],_::_=>true
 |_::_,[]=>false
 |a::x,b::y=>if a=b then pQ x y else eF a b
theorem Iz(now x y:List End):pQ (now++x) (now++y)=pQ x y:=by
 induction now with
 |nil=>rfl
 |cons a now ih=>
  show(if a=a then pQ (now++x) (now++y)else eF a a)=_;rw[if_pos rfl,ih]
theorem sQ:∀l:List End,pQ l l=false
 |[]=>rfl
 |a::l=>by
  unfold pQ;rw[if_pos rfl];exact sQ l
theorem lR{es:List End}:∀{all now:List End}{m:Nat},es∈lp now all m->∃b t,b∈all/\es=now++b::t
 |[],now,m,h=>by unfold lp at h;cases h
 |a::r,now,m,h=>by
  unfold lp at h;rcases adm.1 h with h|h
  .split at h
   .exact⟨a,[],adt,ady.1 h⟩
   .split at h
    .cases h
    .obtain⟨b,t,h1,rfl⟩:=lR h;exact⟨a,b::t,adt,by simp⟩
  .obtain⟨b,t,h1,rfl⟩:=lR h;exact⟨b,t,ado _ h1,rfl⟩
theorem rP:∀{all now:List End}{m:Nat},kl all->(lp now all m).Pairwise λx y=>pQ x y=true
 |[],now,m,_=>by unfold lp;exact .nil
 |a::r,now,m,hs=>by
  obtain⟨vR,uu⟩:=aeT.1 hs;unfold lp;rw[ae4];refine⟨?_,rP uu,?_⟩
  .split
   .exact ae0 _ _
   .split
    .exact .nil
    .exact rP uu
  .intro x hx y hy;obtain⟨b,t,hb,rfl⟩:=lR hy
   have C3:∃u,x=now++a::u:=by
    split at hx
    .exact⟨[],ady.1 hx⟩
    .split at hx
     .cases hx
     .obtain⟨c,u,_,rfl⟩:=lR hx;exact⟨c::u,by simp⟩
   obtain⟨u,rfl⟩:=C3;rw[Iz];unfold pQ;have pq:=vR b hb;rw[if_neg,pq];rintro rfl;rw[gq]at pq;cases pq
theorem FZ{all now:List End}{m:Nat}(hs:kl all):(ch now all m).Pairwise λx y=>pQ x y=true:=by
 unfold ch;split
 .exact ae0 _ _
 .split
  .exact .nil
  .exact rP hs
theorem Ca{l:List (List End)}(h:l.Pairwise λx y=>pQ x y=true):l.Nodup:=h.imp λpq e=>by
 subst e;rw[sQ]at pq;cases pq
def dw(s:aq)(out:List Int):List (List End):=(qF s out s.rows.toNat).filter λes=>eX s out es 0
theorem lB{s:aq}{out:List Int}{es:List End}(hs:aU s=true)(ho:cq s out=true):es∈dw s out↔iE s out es=true/\eX s out es 0=true:=by
 unfold dw;rw[List.mem_filter,zf hs ho]
 constructor
 .rintro⟨⟨h1,_⟩,h2⟩;exact⟨h1,h2⟩
 .rintro⟨h1,h2⟩;refine⟨⟨h1,?_⟩,h2⟩;unfold eX at h2;simp only[adb,adf]at h2;omega
theorem yy{s:aq}{out:List Int}(hs:aU s=true):(dw s out).Pairwise λx y=>pQ x y=true:=
 (FZ (qX (uy hs))).sublist List.filter_sublist
section
variable{α:Type}
def fC(better:α->α->Bool)(x:α)(l:List α):α:=l.foldl (λo x=>if better x o then x else o) x
end
theorem xz{α:Type}[DecidableEq α]:∀{l r:List α},l.Nodup->(∀x∈l,x∈r)->l.length<=r.length
 |[],_,_,_=>adZ _
 |a::l,r,h,hs=>by
  obtain⟨h1,h2⟩:=aff.1 h;have ha:=hs a adt;have hl:=afY ha;have hp:=afO ha
  have:=xz (r:=r.erase a) h2 λx hx=>(agh (by rintro rfl;exact h1 hx)).2 (hs x (ado _ hx))
  simp only[List.length_cons];omega
structure VD(w x:Word):Prop where
 aK:x.aK=w.aK
 free:x.free=w.free
 bK:∀c∈w.bK,c∈x.bK
structure gn(s x:aq):Prop where
 aY:x.aY=s.aY
 aR:x.aR=s.aR
 ib:x.ib=s.ib
 g_:x.g_=s.g_
 lx:x.lx=s.lx
 lL:x.lL=s.lL
 cG:x.cG=s.cG
 len:x.words.length=s.words.length
 words:∀i (h:i<s.words.length),VD s.words[i] (x.words[i]'(by omega))
 wide:s.wide<=x.wide
 rows:s.rows<=x.rows
section
variable{s x:aq}{out:List Int}{es:List End}
theorem gn.cg(h:gn s x)(i:Nat):cg x i=cg s i:=by
 unfold Tryz.cg
 by_cases hi:i<s.words.length
 .rw[ac_ hi,ac_ (by rw[h.len];exact hi)];simp only;rw[(h.words i hi).aK]
 .have:=h.len;rw[adv (show s.words.length<=i by omega),adv (show x.words.length<=i by omega)]
theorem gn.bh(h:gn s x)(g:Nat×Nat):bh x g=bh s g:=by
 unfold Tryz.bh
 by_cases hi:g.1<s.words.length
 .rw[ac_ hi,ac_ (by rw[h.len];exact hi)];simp only;rw[(h.words g.1 hi).aK]
 .have:=h.len;rw[adv (show s.words.length<=g.1 by omega),adv (show x.words.length<=g.1 by omega)]
theorem uq{s x:aq}(h:∀i,Tryz.cg x i=Tryz.cg s i)(out:List Int):∀d w f t,h_ x out d w f t=h_ s out d w f t
 |0,_,_,_=>rfl
 |d+1,w,f,t=>by
  unfold h_;rw[h,uq h out d]
theorem gn.gp(h:gn s x)(i:Nat):gp x out es i=gp s out es i:=by
 unfold Tryz.gp;split
 .unfold gX;rw[uq h.cg]
 .rfl
theorem gn.iM(h:gn s x)(i:Nat):iM x es i=iM s es i:=by
 unfold Tryz.iM;split
 .rw[h.cg]
 .rfl
theorem Et{s x:aq}(h2:x.aR=s.aR)(h3:x.ib=s.ib)(h4:x.g_=s.g_)(h5:x.lx=s.lx)(h6:x.lL=s.lL)(st:Int)(a b:Lt):kf x st a b=kf s st a b:=by
 unfold kf f_;rw[h2,h3,h4,h5,h6]
theorem AT{s x:aq}(h1:x.aY=s.aY)(h2:x.aR=s.aR)(h3:x.ib=s.ib)(h4:x.g_=s.g_)(h5:x.lx=s.lx)(h6:x.lL=s.lL)(h7:x.cG=s.cG)(st:Int)(l:List Lt)(cut:Bool):gY x st l cut=gY s st l cut:=by
 have e1:∀i,fZ x l i=fZ s l i:=by
  intro i
  induction i with
  |zero=>rfl
  |succ i ih=>
   unfold fZ;rw[ih]
   congr 1
   split
   .unfold gu;rw[h1,h7]
   .rfl
 have e2:∀i,gk x st l i=gk s st l i:=by
  intro i
  induction i with
  |zero=>rfl
  |succ i ih=>
   unfold gk;rw[ih]
   congr 1
   split
   .exact Et h2 h3 h4 h5 h6 st _ _
   .rfl
 unfold gY;rw[e1,e2,h3,h4,h7]
theorem gn.jQ(h:gn s x)(st:Int)(i:Nat):jQ x out es st i=jQ s out es st i:=by
 unfold Tryz.jQ;rw[h.gp,h.iM,AT h.aY h.aR h.ib h.g_ h.lx h.lL h.cG]
 congr 1
 exact aed λg _=>h.bh g
theorem gn.da(h:gn s x)(st:Int):da x out es st=da s out es st:=by
 unfold Tryz.da
 exact aed λi _=>h.jQ st i
theorem gn.eX(h:gn s x){st:Int}(hf:eX s out es st=true):eX x out es st=true:=by
 unfold Tryz.eX at hf⊢;rw[h.da];simp only[adb,adu,adf]at hf⊢;have:=h.wide;have:=h.rows;exact⟨by omega,λn hn=>by have:=hf.2 n hn;omega⟩
theorem gn.cq(h:gn s x):cq x out=cq s out:=by
 unfold Tryz.cq;rw[h.len]
 have:hZ x=hZ s:=by
  unfold hZ
  funext n
  by_cases hi:n.toNat<s.words.length
  .rw[ac_ hi,ac_ (by rw[h.len];exact hi)];simp only;rw[(h.words _ hi).free]
  .have:=h.len;rw[adv (show s.words.length<=n.toNat by omega),adv (show x.words.length<=n.toNat by omega)]
 rw[this]
theorem gn.iE(h:gn s x)(hr:iE s out es=true):iE x out es=true:=by
 unfold Tryz.iE at hr⊢;rw[h.cq];simp only[adb,eu]at hr⊢;obtain⟨h1,⟨h2,h3⟩,h4⟩:=hr;refine⟨h1,⟨λe he=>?_,h3⟩,?_⟩
 .have:=h2 e he;unfold rD at this⊢;rw[h.len]
  by_cases hi:e.1.toNat<s.words.length
  .rw[ac_ hi]at this;rw[ac_ (by rw[h.len];exact hi)];simp only[adb,aei]at this⊢;rw[(h.words _ hi).aK];refine⟨this.1,this.2.imp id λhc=>?_⟩;have:=(h.words _ hi).bK e.2 (by simpa using hc);simpa using this
  .rw[adv (by omega)]at this;simp at this
 .have e1:jf x out=jf s out:=by
   unfold jf;rw[h.len]
   congr 1
   by_cases hi:(iZ out s.words.length).toNat<s.words.length
   .rw[ac_ hi,ac_ (by rw[h.len];exact hi)];simp only;rw[(h.words _ hi).aK]
   .have:=h.len;rw[adv (show s.words.length<=(iZ out s.words.length).toNat by omega),adv (show x.words.length<=(iZ out s.words.length).toNat by omega)]
  rw[e1];exact h4
theorem gn.xA(h:gn s x)(hs:aU s=true)(hx:aU x=true)(ho:Tryz.cq s out=true)(hm:es∈dw s out):es∈dw x out:=by
 rw[lB hx (by rw[h.cq];exact ho)];rw[lB hs ho]at hm;exact⟨h.iE hm.1,h.eX hm.2⟩
theorem gn.count(h:gn s x)(hs:aU s=true)(hx:aU x=true)(ho:Tryz.cq s out=true):(dw s out).length<=(dw x out).length:=
 xz (Ca (yy hs)) λ_ hm=>h.xA hs hx ho hm
end
theorem wC:∀{all now:List End},all≠[]->(lp now all 0).length=1
 |[],_,h=>absurd rfl h
 |a::r,now,_=>by
  unfold lp
  by_cases hr:r=[]
  .subst hr;simp[lp]
  .simp only[if_neg hr,List.nil_append];exact wC hr
theorem xf:∀{all now:List End},(lp now all 1).length=all.length
 |[],_=>rfl
 |a::r,now=>by
  unfold lp
  by_cases hr:r=[]
  .subst hr;simp[lp]
  .simp only[if_neg hr,adq,List.length_cons];rw[wC hr,xf];omega
theorem Da:∀{all now:List End},all≠[]->2*(lp now all 2).length=2+all.length*(all.length-1)
 |[],_,h=>absurd rfl h
 |a::r,now,_=>by
  unfold lp
  by_cases hr:r=[]
  .subst hr;simp[lp]
  .simp only[if_neg hr,adq,List.length_cons];rw[xf,Nat.mul_add,Da hr]
   obtain⟨n,hn⟩:∃n,r.length=n+1:=⟨r.length-1,by have:=adV.2 hr;omega⟩
   rw[hn];simp only[aeL]
   have e1:(n+1+1)*(n+1)=(n+1)*n+2*(n+1):=by
    rw[ae9,ae7 (n+1) n,ae9 n 1];omega
   omega
theorem JJ{all now:List End}{m:Nat}(h:all.length<=24)(hm:m<=3):(ch now all m).length<=277:=by
 unfold ch;split
 .simp
 rename_i cI
 match m,hm with
 |0,_=>simp
 |1,_=>simp only;rw[wC cI];omega
 |2,_=>simp only;rw[xf];omega
 |3,_=>
  simp only;have:=Da (now:=now) cI;have:all.length*(all.length-1)<=24*23:=agy h (by omega);omega
theorem td{l:List Int}{lo hi:Int}(h:eo l lo hi=true)(hle:lo<=hi+1):(l.length:Int)<=hi+1-lo:=by
 have h':=h;unfold eo at h;rw[eu]at h;obtain⟨h1,h2⟩:=h
 have key:∀j (hj:j<l.length),lo+j<=l[j]:=by
  intro j
  induction j with
  |zero=>
   intro hj;have:=h1 _ (ada hj);simp[bO]at this;simpa using this.1
  |succ j ih=>
   intro hj;have:=ih (by omega);have:=h2 j hj;simp at this;omega
 by_cases h0:l.length=0
 .omega
 .have a:=key (l.length-1) (by omega);have b:=h1 _ (ada (show l.length-1<l.length by omega));simp[bO]at b;omega
theorem pM{s:aq}(hs:aU s=true){out:List Int}(n:Nat):(fN s out n).length<=cg s n/\cg s n<=6:=by
 unfold fN cg
 by_cases h:n<s.words.length
 .rw[ac_ h];have hw:=lg hs (ada h);have h1:=hw.C0;have:=td hw.bK (by omega);have:=hw.uw;split
  .simp only[List.length_nil];omega
  .simp only[adq,adi,List.length_cons,List.length_nil];omega
 .rw[adv (by omega)]
  split<;>simp
theorem rN{s:aq}(hs:aU s=true)(out:List Int):(gV s out).length<=24:=by
 unfold gV;have h4:=(eg hs).words.2
 have key:∀m:Nat,((List.range m).flatMap (fN s out)).length<=6*m:=by
  intro m
  induction m with
  |zero=>simp
  |succ m ih=>
   rw[adY,aee,aez,adq];have:=pM hs (out:=out) m;omega
 have:=key s.words.length;omega
theorem ub{s:aq}(hs:aU s=true)(out:List Int){m:Nat}(hm:m<=3):(qF s out m).length<=277:=JJ (rN hs out) hm
theorem wk{s:aq}(hs:aU s=true)(out:List Int):(dw s out).length<=277:=
 ael (aeV _ _) (ub hs out (by have:=(eg hs).rows;omega))
section
variable{s x:aq}{m:Nat}{z z':Nat×Nat}
end
theorem BY{s:aq}{out:List Int}{e:End}:rD s out e=true↔0<=e.1/\¬e.1∈out/\∃h:e.1.toNat<s.words.length,e.2=s.words[e.1.toNat].aK.length\/e.2∈s.words[e.1.toNat].bK:=by
 unfold rD bO;simp only[adb,adf,adP,afD,aew]
 constructor
 .rintro⟨⟨⟨h1,h2⟩,h3⟩,h4⟩
  have au:e.1.toNat<s.words.length:=by omega
  rw[ac_ au]at h4;refine⟨h1,h3,au,?_⟩;simpa using h4
 .rintro⟨h1,h3,au,h4⟩;refine⟨⟨⟨h1,by omega⟩,h3⟩,?_⟩;rw[ac_ au];simpa using h4
theorem ET{s:aq}{m:Nat}(h:s.words.length=m+1):jf s []=((m:Int),(cg s m:Int)):=by
 unfold jf
 have e:iZ [] s.words.length=m:=by rw[h];unfold iZ;simp
 rw[e,Int.toNat_natCast,ac_ (by omega),fP (by omega)]
section
variable{s:aq}
theorem lq(hs:aU s=true):cq s []=true:=by
 have:=(eg hs).words.1;unfold cq eo iz;simp;omega
end
section
variable{α:Type}{len:α->Nat}{most:α->Int}
def km(len:α->Nat)(most:α->Int)(a b:α):Bool:=decide (len a<len b)||(len a==len b&&decide (most b<most a))
end
structure ea(s x:aq)(out:List Int)(k:Nat->Nat)(N:Nat):Prop where
 pos:0<N
 n:x.words.length=N
 lt:∀i,i<N->k i<s.words.length
 mono:∀i,i+1<N->k i<k (i+1)
 QH:∀i,i<N->out.contains (k i:Int)=false
 XU:∀i,i+1<N->∀j,k i<j->j<k (i+1)->out.contains (j:Int)=true
 first:∀j,j<k 0->out.contains (j:Int)=true
 last:∀j,k (N-1)<j->j<s.words.length->out.contains (j:Int)=true
 word:∀i,i<N->x.words[i]?=s.words[k i]?
 h1:x.aY=s.aY
 h2:x.aR=s.aR
 h3:x.ib=s.ib
 h4:x.g_=s.g_
 h5:x.lx=s.lx
 h6:x.lL=s.lL
 h7:x.cG=s.cG
 h8:x.wide=s.wide
 h9:x.rows=s.rows
section
variable{s x:aq}{out:List Int}{k:Nat->Nat}{N:Nat}
theorem ea.cg(h:ea s x out k N){i:Nat}(hi:i<N):cg x i=cg s (k i):=by
 unfold Tryz.cg;rw[h.word i hi]
theorem ea.Bp(h:ea s x out k N):∀d i,i+d+1<N->k i<k (i+d+1)
 |0,i,hi=>h.mono i hi
 |d+1,i,hi=>Nat.lt_trans (h.Bp d i (by omega)) (h.mono (i+d+1) hi)
theorem ea.lt_iff(h:ea s x out k N){i j:Nat}(hi:i<N)(hj:j<N):k i<k j↔i<j:=by
 constructor
 .intro hk
  by_cases pK:i<j
  .exact pK
  .by_cases he:i=j
   .subst he;omega
   .have:=h.Bp (i-j-1) j (by omega);rw[show j+(i-j-1)+1=i by omega]at this;omega
 .intro pK;have:=h.Bp (j-i-1) i (by omega);rwa [show i+(j-i-1)+1=j by omega]at this
theorem ea.inj(h:ea s x out k N){i j:Nat}(hi:i<N)(hj:j<N)(he:k i=k j):i=j:=by
 have h1:=h.lt_iff hi hj;have h2:=h.lt_iff hj hi;omega
theorem rE{d t:Nat}:∀(m w:Nat),(∀j,w<=j->j<w+m->out.contains (j:Int)=true)->h_ s out (m+d) w 0 t=h_ s out d (w+m) 0 t
 |0,w,_=>by rw[ad3,Nat.add_zero]
 |m+1,w,h=>by
  rw[show m+1+d=(m+d)+1 by omega];show(if out.contains (w:Int)then[]else ln w 0 (cg s w))++h_ s out (m+d) (w+1) 0 t=_;rw[h w (by omega) (by omega),if_pos rfl,List.nil_append,rE m (w+1) (λj h1 h2=>h j (by omega) (by omega)),show w+1+m=w+(m+1) by omega]
def nh(k:Nat->Nat)(g:Nat×Nat):Nat×Nat:=(k g.1,g.2)
theorem Db(w f t:Nat):(ln w f t).map (nh k)=ln (k w) f t:=by
 unfold ln;rw[aeh];rfl
theorem ea.h_(h:ea s x out k N){t:Nat}:∀d w f,w+d<N->(h_ x [] d w f t).map (nh k)=h_ s out (k (w+d)-k w) (k w) f t
 |0,w,f,_=>by
  rw[Nat.add_zero,afQ];exact Db w f t
 |d+1,w,f,hw=>by
  have m1:=h.mono w (by omega)
  have m2:k (w+1)<=k (w+1+d):=by
   cases d with
   |zero=>exact adh _
   |succ d=>exact agx (h.Bp d (w+1) (by omega))
  rw[show w+(d+1)=w+1+d by omega];rw[show k (w+1+d)-k w=((k (w+1)-k w-1)+(k (w+1+d)-k (w+1)))+1 by omega];show List.map (nh k) ((if([]:List Int).contains (w:Int)then[]else ln w f (Tryz.cg x w))++Tryz.h_ x [] d (w+1) 0 t)=(if out.contains (k w:Int)then[]else ln (k w) f (Tryz.cg s (k w)))++Tryz.h_ s out ((k (w+1)-k w-1)+(k (w+1+d)-k (w+1))) (k w+1) 0 t;rw[if_neg (by simp),h.QH w (by omega),if_neg (by simp),adD,Db,h.cg (by omega),h.h_ d (w+1) 0 (by omega),rE _ _ λj h1 h2=>h.XU w (by omega) j (by omega) (by omega),show k w+1+(k (w+1)-k w-1)=k (w+1) by omega]
def oy(k:Nat->Nat)(e:End):End:=((k e.1.toNat:Int),e.2)
theorem P0(e:End):nE (oy k e)=nh k (nE e):=rfl
theorem tJ(es:List End)(i:Nat):jd es (i+1)=match es[i]? with|some e=>nE e|none=>(0,0):=rfl
theorem K_(es:List End)(i:Nat):jd (es.map (oy k)) (i+1)=if i<es.length then nh k (jd es (i+1))else(0,0):=by
 rw[tJ,tJ,adI]
 by_cases hi:i<es.length
 .rw[ac_ hi,if_pos hi];rfl
 .rw[adv (by omega),if_neg hi];rfl
def Hx(N:Nat)(es:List End):Prop:=∀e∈es,0<=e.1/\e.1.toNat<N
theorem ea.gp(h:ea s x out k N){es:List End}(hr:Hx N es)(hs:∀j (hj:j+1<es.length),es[j].1.toNat<=es[j+1].1.toNat)(i:Nat)(hi:i<es.length):(gp x [] es i).map (nh k)=gp s out (es.map (oy k)) i:=by
 have cH:i<(es.map (oy k)).length:=by rw[adi];exact hi
 rw[mZ hi,mZ cH,adp,P0];have he:=hr _ (ada hi)
 cases i with
 |zero=>
  have h0:=h.h_ (t:=(nE es[0]).2) (nE es[0]).1 0 0 (by rw[ad3];exact he.2);show List.map (nh k) (Tryz.h_ x [] ((nE es[0]).1-0) 0 0 (nE es[0]).2)=Tryz.h_ s out (k (nE es[0]).1-0) 0 0 (nE es[0]).2;rw[Nat.sub_zero,Nat.sub_zero,h0,ad3]
  have hk:k 0<=k (nE es[0]).1:=by
   by_cases hz:(nE es[0]).1=0
   .rw[hz];exact adh _
   .exact agx ((h.lt_iff h.pos he.2).2 (Nat.pos_of_ne_zero hz))
  have:=rE (s:=s) (out:=out) (d:=k (nE es[0]).1-k 0) (t:=(nE es[0]).2) (k 0) 0 λj _ h2=>h.first j (by omega)
  rw[show k 0+(k (nE es[0]).1-k 0)=k (nE es[0]).1 by omega,ad3]at this;exact this.symm
 |succ i=>
  have ha:jd es (i+1)=nE es[i]:=by rw[tJ,ac_ (by omega)]
  have hb:=hr _ (ada (by omega:i<es.length));have hle:=hs i hi;rw[K_,if_pos (by omega),ha]
  have:=h.h_ (t:=(nE es[i+1]).2) ((nE es[i+1]).1-(nE es[i]).1) (nE es[i]).1 (nE es[i]).2 (by
   show es[i].1.toNat+(es[i+1].1.toNat-es[i].1.toNat)<N
   have:=he.2;omega)
  rw[show(nE es[i]).1+((nE es[i+1]).1-(nE es[i]).1)=(nE es[i+1]).1 by show es[i].1.toNat+(es[i+1].1.toNat-es[i].1.toNat)=es[i+1].1.toNat;omega]at this;exact this
theorem ea.iM(h:ea s x out k N){es:List End}(hr:Hx N es)(i:Nat)(hi:i<es.length):iM x es i=iM s (es.map (oy k)) i:=by
 have cH:i<(es.map (oy k)).length:=by rw[adi];exact hi
 rw[ur hi,ur cH,adp];show decide (es[i].2<(Tryz.cg x es[i].1.toNat:Int))=decide (es[i].2<(Tryz.cg s ((k es[i].1.toNat:Int)).toNat:Int));rw[Int.toNat_natCast,h.cg (hr _ (ada hi)).2]
theorem ea.Mg(h:ea s x out k N){g:Nat×Nat}(hg:g.1<N):(bh x g).2=(bh s (nh k g)).2:=by
 unfold bh nh;simp only;rw[h.word _ hg]
theorem ea.gu(h:ea s x out k N){a b:Lt}(he:a.2=b.2):gu x a=gu s b:=by
 unfold Tryz.gu;rw[he,h.h1,h.h7]
theorem ea.kf(h:ea s x out k N)(st:Int){f g:Nat×Nat}(hf:f.1<N)(hg:g.1<N):kf x st (bh x f) (bh x g)=kf s st (bh s (nh k f)) (bh s (nh k g)):=by
 have e:f_ x (bh x f) (bh x g)=f_ s (bh s (nh k f)) (bh s (nh k g)):=by
  unfold f_;rw[h.Mg hf,h.Mg hg,h.h2,h.h3,h.h4,h.h5,h.h6]
  by_cases he:f.1=g.1
  .rw[if_pos (by unfold bh;simp only;omega),if_pos (by unfold bh nh;simp only;rw[he])]
  .rw[if_neg (by unfold bh;simp only;omega),if_neg];unfold bh nh;simp only;intro hc;exact he (h.inj hf hg (by omega))
 unfold Tryz.kf;rw[e]
theorem ea.gY(h:ea s x out k N)(st:Int){l:List (Nat×Nat)}(hl:∀g∈l,g.1<N)(cut:Bool):gY x st (l.map (bh x)) cut=gY s st ((l.map (nh k)).map (bh s)) cut:=by
 have e1:∀i,fZ x (l.map (bh x)) i=fZ s ((l.map (nh k)).map (bh s)) i:=by
  intro i
  induction i with
  |zero=>rfl
  |succ i ih=>
   unfold fZ;rw[ih,aeh,adI,adI]
   by_cases hi:i<l.length
   .rw[ac_ hi];show _+Tryz.gu x (bh x l[i])=_+Tryz.gu s (bh s (nh k l[i]));rw[h.gu (h.Mg (hl _ (ada hi)))]
   .rw[adv (by omega)];rfl
 have e2:∀i,gk x st (l.map (bh x)) i=gk s st ((l.map (nh k)).map (bh s)) i:=by
  intro i
  induction i with
  |zero=>rfl
  |succ i ih=>
   unfold gk;rw[ih,aeh,adI,adI,adI,adI]
   by_cases hi:i+1<l.length
   .rw[ac_ (by omega:i<l.length),ac_ hi];show _+Tryz.kf x st (bh x l[i]) (bh x l[i+1])=_+Tryz.kf s st (bh s (nh k l[i])) (bh s (nh k l[i+1]));rw[h.kf st (hl _ (ada _)) (hl _ (ada hi))]
   .rw[adv (by omega:l.length<=i+1)]
    cases l[i]?<;>rfl
 unfold Tryz.gY;rw[e1,e2,h.h3,h.h4,h.h7];simp only[adi]
end
section
variable{s x:aq}{out:List Int}{k:Nat->Nat}{N:Nat}
theorem ea.iZ(h:ea s x out k N):Tryz.iZ out s.words.length=(k (N-1):Int):=by
 have hp:=h.pos;have hl:=h.lt (N-1) (by omega)
 have:∀n,k (N-1)<n->n<=s.words.length->Tryz.iZ out n=(k (N-1):Int):=by
  intro n
  induction n with
  |zero=>intro h1;omega
  |succ n ih=>
   intro h1 h2;unfold Tryz.iZ
   by_cases he:n=k (N-1)
   .subst he;rw[h.QH _ (by omega)];rfl
   .rw[h.last n (by omega) (by omega),if_pos rfl];exact ih (by omega) (by omega)
 exact this _ hl (adh _)
theorem ea.rD(h:ea s x out k N){e:End}(h0:0<=e.1)(hn:e.1.toNat<N):Tryz.rD x [] e=true↔Tryz.rD s out (oy k e)=true:=by
 rw[BY,BY];have hk:=h.lt _ hn
 have hx:e.1.toNat<x.words.length:=by rw[h.n];exact hn
 have hw:=h.word _ hn;rw[ac_ hx,ac_ hk]at hw;have hw:=adw hw;have hi:=h.QH _ hn
 constructor
 .rintro⟨_,_,_,h3⟩;refine⟨by show(0:Int)<=(k e.1.toNat:Int);omega,?_,?_⟩
  .show¬(k e.1.toNat:Int)∈out;simpa using hi
  .refine⟨by show(k e.1.toNat:Int).toNat<_;omega,?_⟩;show e.2=((s.words[(k e.1.toNat:Int).toNat]'_).aK.length:Int)\/e.2∈(s.words[(k e.1.toNat:Int).toNat]'_).bK;simp only[Int.toNat_natCast];rw[<-hw];exact h3
 .rintro⟨_,_,_,h3⟩;refine⟨h0,by simp,hx,?_⟩;have h3:e.2=((s.words[(k e.1.toNat:Int).toNat]'(by rw[Int.toNat_natCast];exact hk)).aK.length:Int)\/e.2∈(s.words[(k e.1.toNat:Int).toNat]'(by rw[Int.toNat_natCast];exact hk)).bK:=h3;simp only[Int.toNat_natCast]at h3;rw[hw];exact h3
theorem ea.GY(h:ea s x out k N){a b:End}(ha:0<=a.1/\a.1.toNat<N)(hb:0<=b.1/\b.1.toNat<N):eF a b=eF (oy k a) (oy k b):=by
 have h1:=h.lt_iff ha.2 hb.2
 have h2:k a.1.toNat=k b.1.toNat↔a.1.toNat=b.1.toNat:=⟨h.inj ha.2 hb.2,λe=>by rw[e]⟩
 unfold eF oy;rw[ad7];simp only[aei,adb,adf,adX];omega
theorem ea.iE(h:ea s x out k N)(ho:cq s out=true)(hx:cq x []=true){es:List End}(hr:Hx N es):Tryz.iE x [] es=Tryz.iE s out (es.map (oy k)):=by
 have yh:(es.getLast?.getD (-1,0)==jf x [])=((es.map (oy k)).getLast?.getD (-1,0)==jf s out)\/es=[]:=by
  by_cases cI:es=[]
  .exact .inr cI
  refine .inl ?_
  obtain⟨e,he⟩:∃e,es.getLast?=some e:=by cases hh:es.getLast? with|none=>exact absurd (aeS.1 hh) cI|some e=>exact⟨e,rfl⟩
  have hem:=afF he;have hee:=hr e hem;have hp:=h.pos;rw[List.getLast?_map,he]
  show(e==jf x [])=(oy k e==jf s out)
  have e1:jf x []=(((N-1:Nat):Int),(Tryz.cg x (N-1):Int)):=ET (by rw[h.n];omega)
  have e2:jf s out=((k (N-1):Int),(Tryz.cg s (k (N-1)):Int)):=by
   unfold jf;rw[h.iZ,Int.toNat_natCast];unfold Tryz.cg;rw[ac_ (h.lt _ (by omega))]
  rw[e1,e2,h.cg (by omega),ad7,adX,adX]
  constructor
  .rintro rfl;show((k ((N-1:Nat):Int).toNat:Int),(Tryz.cg s (k (N-1)):Int))=_;rw[Int.toNat_natCast]
  .intro hh;have a1:(k e.1.toNat:Int)=(k (N-1):Int):=congrArg Prod.fst hh;have a2:e.2=(Tryz.cg s (k (N-1)):Int):=congrArg Prod.snd hh;have:=h.inj hee.2 (by omega) (by omega:k e.1.toNat=k (N-1));exact Prod.ext (by show e.1=((N-1:Nat):Int);omega) a2
 rcases yh with yh|rfl
 .unfold Tryz.iE;rw[ho,hx,yh]
  have e1:(es.map (oy k)).isEmpty=es.isEmpty:=by cases es<;>rfl
  have e2:iz (Tryz.rD x []) eF es=iz (Tryz.rD s out) eF (es.map (oy k)):=by
   rw[ad7,eu,eu]
   constructor
   .rintro⟨h1,h2⟩;refine⟨λe he=>?_,λj hj=>?_⟩
    .obtain⟨e',ky,rfl⟩:=adx.1 he;exact(h.rD (hr _ ky).1 (hr _ ky).2).1 (h1 _ ky)
    .have dY:j+1<es.length:=by simpa using hj
     rw[adp,adp,<-h.GY (hr _ (ada _)) (hr _ (ada _))];exact h2 j dY
   .rintro⟨h1,h2⟩;refine⟨λe he=>?_,λj hj=>?_⟩
    .exact(h.rD (hr _ he).1 (hr _ he).2).2 (h1 _ (ago he))
    .have:=h2 j (by simpa using hj);rw[adp,adp,<-h.GY (hr _ (ada _)) (hr _ (ada _))]at this;exact this
  rw[e1,e2]
 .unfold Tryz.iE;simp
theorem ea.eX(h:ea s x out k N){es:List End}(hr:Hx N es)(hs:∀j (hj:j+1<es.length),es[j].1.toNat<=es[j+1].1.toNat)(jJ:∀i,i<es.length->∀g∈Tryz.gp x [] es i,g.1<N)(st:Int):Tryz.eX x [] es st=Tryz.eX s out (es.map (oy k)) st:=by
 have e:da x [] es st=da s out (es.map (oy k)) st:=by
  unfold da;rw[adi]
  refine aed λi hi=>?_
  have hi:i<es.length:=adF.1 hi;unfold jQ;rw[h.gY st (jJ i hi),h.gp hr hs i hi,h.iM hr i hi]
 unfold Tryz.eX;rw[e,adi,h.h8,h.h9]
end
def pD:List Int->List Int->Bool
 |[],[]=>false
 |[],_::_=>true
 |_::_,[]=>false
 |a::x,b::y=>if a=b then pD x y else decide (a<b)
theorem N1(now x y:List Int):pD (now++x) (now++y)=pD x y:=by
 induction now with
 |nil=>rfl
 |cons a now ih=>
  show(if a=a then pD (now++x) (now++y)else decide (a<a))=_;rw[if_pos rfl,ih]
theorem LL:∀{x y:List Int}(i j:Int),x.length=y.length->pD x y=true->pD (x++[i]) (y++[j])=true
 |[],[],_,_,_,h=>by cases h
 |[],_::_,_,_,hl,_=>by simp at hl
 |_::_,[],_,_,hl,_=>by simp at hl
 |a::x,b::y,i,j,hl,h=>by
  unfold pD at h;show(if a=b then pD (x++[i]) (y++[j])else decide (a<b))=true
  by_cases e:a=b
  .rw[if_pos e]at h⊢;exact LL i j (by simpa using hl) h
  .rw[if_neg e]at h⊢;exact h
def dR(l:List Int):Nat:=match l.getLast? with|some x=>x.toNat+1|none=>0
def NY(n:Nat)(l:List Int):List (List Int):=(List.range' (dR l) (n-dR l)).map λi:Nat=>l++[(i:Int)]
def mK(s:aq)(l:List Int):List (List Int):=if cq s l then NY s.words.length l else[]
def se(s:aq):Nat->List (List Int)
 |0=>[[]]
 |m+1=>(se s m).flatMap (mK s)
def ep(s:aq):List (List Int):=(List.range (s.words.length+1)).flatMap (se s)
theorem vX{s:aq}{l x:List Int}:x∈mK s l↔cq s l=true/\∃i:Nat,dR l<=i/\i<s.words.length/\x=l++[(i:Int)]:=by
 unfold mK;cases h:cq s l
 .simp
 .rw[if_pos rfl];unfold NY;simp only[adx,List.mem_range',agV]
  constructor
  .rintro⟨i,⟨d,hd,rfl⟩,rfl⟩;exact⟨_,by omega,by omega,rfl⟩
  .rintro⟨i,h1,h2,rfl⟩;exact⟨i,⟨i-dR l,by omega,by omega⟩,rfl⟩
theorem qT{s:aq}:∀{m:Nat}{l:List Int},l∈se s m->l.length=m
 |0,l,h=>by simp only[se,ady]at h;subst h;rfl
 |m+1,l,h=>by
  unfold se at h;obtain⟨y,hy,hx⟩:=adR.1 h;obtain⟨_,i,_,_,rfl⟩:=vX.1 hx;rw[adq,qT hy];rfl
theorem uv{s:aq}{l:List Int}(h:cq s l=true):l.length<s.words.length:=by
 unfold cq at h;simp only[adb,adf]at h;exact h.1.2
theorem aaj(s:aq):se s (s.words.length+1)=[]:=by
 rw[List.eq_nil_iff_forall_not_mem];intro x hx;unfold se at hx;obtain⟨y,hy,hx⟩:=adR.1 hx;have h1:=uv (vX.1 hx).1;have:=qT hy;omega
theorem Kz(s:aq):ep s=[]::(ep s).flatMap (mK s):=by
 have h1:(ep s).flatMap (mK s)=(List.range (s.words.length+1)).flatMap λm=>se s (m+1):=by
  unfold ep;rw[List.flatMap_assoc];rfl
 rw[h1,adY,aee,aez,aaj,adT];unfold ep;rw[List.range_succ_eq_map,aex,List.flatMap_map]
 rfl
def We(a b:List Int):Prop:=a.length<b.length\/a.length=b.length/\pD a b=true
theorem Jc(s:aq):∀m,(se s m).Pairwise λa b=>pD a b=true
 |0=>ae0 _ _
 |m+1=>by
  unfold se;rw[List.pairwise_flatMap]
  constructor
  .intro l _;unfold mK;split
   .unfold NY;rw[List.pairwise_map];refine List.Pairwise.imp ?_ (List.pairwise_lt_range' (s:=dR l) (n:=s.words.length-dR l));intro a b pq;rw[N1];show(if(a:Int)=b then pD [] []else decide ((a:Int)<b))=true;rw[if_neg (by omega)];simp only[adf];omega
   .exact .nil
  .refine List.Pairwise.imp_of_mem ?_ (Jc s m);intro a b ha hb pq x hx y hy;obtain⟨_,i,_,_,rfl⟩:=vX.1 hx;obtain⟨_,j,_,_,rfl⟩:=vX.1 hy;exact LL _ _ (by rw[qT ha,qT hb]) pq
theorem yz(s:aq):(ep s).Pairwise We:=by
 unfold ep;rw[List.pairwise_flatMap]
 constructor
 .intro m _;refine List.Pairwise.imp_of_mem ?_ (Jc s m);intro a b ha hb h;exact .inr ⟨by rw[qT ha,qT hb],h⟩
 .refine List.Pairwise.imp ?_ afn;intro m m' hm x hx y hy;exact .inl (by rw[qT hx,qT hy];exact hm)
def lJ(s:aq)(i:Nat):List (List Int):=[]::((ep s).take i).flatMap (mK s)
theorem AU(s:aq)(i:Nat):∃r,ep s=lJ s i++r:=by
 refine⟨((ep s).drop i).flatMap (mK s),?_⟩;unfold lJ;rw[List.cons_append,<-aee,aeq];exact Kz s
theorem Wz{s:aq}{i:Nat}(h:i<(lJ s i).length):∃h':i<(ep s).length,(lJ s i)[i]=(ep s)[i]:=by
 obtain⟨r,hr⟩:=AU s i;have hl:=congrArg List.length hr;rw[adq]at hl;refine⟨by omega,?_⟩
 have:(ep s)[i]?=some (lJ s i)[i]:=by
  rw[hr,aem h,ac_ h]
 rw[ac_ (by omega)]at this;exact(adw this).symm
theorem Te{s:aq}{i:Nat}(h:i<(ep s).length):lJ s (i+1)=lJ s i++mK s (ep s)[i]:=by
 unfold lJ;rw[adj h,aee,aez,List.cons_append]
theorem Wn{s:aq}{i:Nat}(hi:i<=(ep s).length)(h:(lJ s i).length<=i):(ep s).length=i:=by
 obtain⟨r,hr⟩:=AU s i
 by_cases he:(ep s).length=i
 .exact he
 exfalso
 have au:i<(ep s).length:=by omega
 have hl:=congrArg List.length hr;rw[adq]at hl
 have acf:ep s=lJ s i++((ep s).drop i).flatMap (mK s):=by
  unfold lJ;rw[List.cons_append,<-aee,aeq];exact Kz s
 have sx:(ep s)[i]∈((ep s).drop i).flatMap (mK s):=by
  have h1:(ep s)[i]?=(((ep s).drop i).flatMap (mK s))[i-(lJ s i).length]?:=by
   conv=>lhs;rw[acf]
   rw[aeA h]
  rw[ac_ au]at h1;exact aet h1.symm
 obtain⟨y,hy,hx⟩:=adR.1 sx;obtain⟨_,k,_,_,Nr⟩:=vX.1 hx;obtain⟨j,hj,R9⟩:=adG hy;rw[aeW]at R9
 have hlen:(ep s)[i].length=y.length+1:=by rw[Nr];simp
 rw[ad8]at hj
 have hle:(ep s)[i].length<=y.length:=by
  cases j with
  |zero=>rw[<-R9];exact adh _
  |succ j=>
   have:=aeo.1 (yz s) i (i+(j+1)) au (by omega) (by omega);rw[R9]at this
   rcases this with h|h<;>omega
 omega
theorem tK{α β:Type}{f:α->List β}{b:Nat}(hf:∀x,(f x).length<=b):∀l:List α,(l.flatMap f).length<=b*l.length
 |[]=>by simp
 |a::l=>by
  have:=tK hf l;have:=hf a;rw[aex,adq,List.length_cons,Nat.mul_add];omega
theorem aax{s:aq}(h:s.words.length<=4)(l:List Int):(mK s l).length<=4:=by
 unfold mK;split
 .unfold NY;simp;omega
 .simp
theorem N4{s:aq}(h:s.words.length<=4):∀m,(se s m).length<=4^m
 |0=>by simp[se]
 |m+1=>by
  have ih:=N4 h m;have:=tK (aax h) (se s m);show((se s m).flatMap (mK s)).length<=_;rw[Nat.pow_succ];omega
theorem LI{s:aq}(h:s.words.length<=4):(ep s).length<=2000:=by
 have:∀n,n<=5->((List.range n).flatMap (se s)).length<=256*n:=by
  intro n hn
  induction n with
  |zero=>simp
  |succ n ih=>
   have ih:=ih (by omega);have h1:=N4 h n;have h2:4^n<=4^4:=Nat.pow_le_pow_right (by omega) (by omega);rw[adY,aee,adq,aez];omega
 have:=this (s.words.length+1) (by omega);unfold ep;omega
def AD(s:aq):Option (List Int):=(ep s).find? λl=>cq s l&&!(dw s l).isEmpty
theorem yV{α:Type}{p:α->Bool}:∀{l:List α}{i:Nat}(h:i<l.length),p l[i]=true->(∀j (hj:j<l.length),j<i->p l[j]=false)->l.find? p=some l[i]
 |[],_,h,_,_=>by simp at h
 |a::l,0,_,h,_=>by rw[List.find?_cons];simp only[List.getElem_cons_zero]at h;rw[h];rfl
 |a::l,i+1,hi,h,hb=>by
  have h0:=hb 0 (by simp) (by omega);simp only[List.getElem_cons_zero]at h0;rw[List.find?_cons,h0];simp only[List.getElem_cons_succ]at h⊢
  exact yV (by simpa using hi) h λj hj gw=>by
   have:=hb (j+1) (by simpa using hj) (by omega);simpa using this
theorem WO{α:Type}{p:α->Bool}{l:List α}(h:∀j (hj:j<l.length),p l[j]=false):l.find? p=none:=by
 rw[aey];intro x hx;obtain⟨i,hi,rfl⟩:=adG hx;rw[h i hi];simp
theorem Nw{s:aq}{l:List Int}(h:cq s l=true):(∀x∈l,0<=x/\x<s.words.length)/\l.length<s.words.length:=by
 unfold cq at h;simp only[adb,adf]at h;refine⟨λx hx=>?_,h.1.2⟩;have h1:=(eu.1 (show iz _ _ l=true from h.1.1)).1 x hx;unfold bO at h1;simp only[adb,adf]at h1;omega
theorem HM{l:List Int}{n:Nat}(h:∀x∈l,0<=x/\x<n):dR l<=n:=by
 unfold dR;split
 .rename_i x hx;have:=h x (afF hx);omega
 .omega
structure Grown(b:Nat)(x:aq)(k:Nat):Prop where
 aY:x.aY.length<=k
 aR:x.aR.length<=k
 words:x.words.length<=k
 aK:∀w∈x.words,w.aK.length<=b
 bK:∀w∈x.words,w.bK.length<=b
theorem Grown.mono{b k k':Nat}{x:aq}(h:Grown b x k)(hk:k<=k'):Grown b x k':=⟨by have:=h.aY;omega,by have:=h.aR;omega,by have:=h.words;omega,h.aK,h.bK⟩
def jG(s:aq)(i:Nat):Bool:=!hZ s (i:Int)
theorem nn{α β:Type}{l:List α}{f g:α->List β}(h:∀a∈l,f a=g a):l.flatMap f=l.flatMap g:=by
 rw[List.flatMap_def,List.flatMap_def,aed h]
def nR(s:aq):Nat->List Int->List (List Int)
 |0,now=>[now]
 |d+1,now=>(List.range' (dR now) (s.words.length-dR now)).flatMap λi:Nat=>if jG s i then nR s d (now++[(i:Int)])else[]
def MQ(s:aq):Nat->List Int->List (List Int)
 |0,l=>[l]
 |d+1,l=>(mK s l).flatMap (MQ s d)
theorem Ny(s:aq):∀(d:Nat)(l:List Int),(MQ s d l).flatMap (mK s)=MQ s (d+1) l
 |0,l=>by simp[MQ]
 |d+1,l=>by
  show((mK s l).flatMap (MQ s d)).flatMap (mK s)=(mK s l).flatMap (MQ s (d+1));rw[List.flatMap_assoc];exact congrArg (λf=>List.flatMap f (mK s l)) (funext λx=>Ny s d x)
theorem V'(s:aq):∀m,se s m=MQ s m []
 |0=>rfl
 |m+1=>by
  show(se s m).flatMap (mK s)=_;rw[V' s m,Ny]
theorem zj{s:aq}{l:List Int}(h:cq s l=true){i:Nat}(h1:dR l<=i)(h2:i<s.words.length)(h3:l.length+1<s.words.length):cq s (l++[(i:Int)])=jG s i:=by
 unfold cq at h;simp only[adb,adf,adP,ad5]at h;obtain⟨⟨a1,a2⟩,a3⟩:=h;unfold eo at a1;rw[eu]at a1;obtain⟨a1,a4⟩:=a1
 have hr:eo (l++[(i:Int)]) 0 (s.words.length-1)=true:=by
  unfold eo;rw[eu]
  constructor
  .intro x hx;rcases adm.1 hx with hx|hx
   .exact a1 x hx
   .rw[ady]at hx;subst hx;simp only[bO,adb,adf];omega
  .intro j hj;rw[adq,List.length_singleton]at hj
   by_cases nc:j+1<l.length
   .rw[adA (by omega),adA nc];exact a4 j nc
   .rw[adA (by omega),ad_ (by omega),List.getElem_singleton]
    have hf:dR l=(l[j]'(by omega)).toNat+1:=by
     unfold dR;rw[List.getLast?_eq_getElem?,show l.length-1=j by omega,ac_ (by omega)]
    have:=a1 _ (ada (by omega:j<l.length));simp only[bO,adb,adf]at this;simp only[adf];omega
 unfold cq jG;rw[hr,adq,List.length_singleton,aeN (by omega),List.any_append]
 have:l.any (hZ s)=false:=by rw[ad5];exact a3
 rw[this];simp
theorem QO{s:aq}:∀(d:Nat){now:List Int},cq s now=true->now.length+d<s.words.length->nR s d now=(MQ s d now).filter (cq s)
 |0,now,h,_=>by
  show[now]=[now].filter (cq s);rw[List.filter_cons_of_pos h];rfl
 |d+1,now,h,hl=>by
  show _=((mK s now).flatMap (MQ s d)).filter (cq s);unfold mK;rw[if_pos h];unfold NY;rw[List.flatMap_map,afd];show List.flatMap _ _=_
  refine nn λi hi=>?_
  rw[aeY]at hi;have he:=zj h (i:=i) (by omega) (by omega) (by omega);cases hf:jG s i
  .rw[hf]at he;rw[if_neg (by simp)]
   show[]=((MQ s d (now++[(i:Int)])).filter (cq s))
   cases d with
   |zero=>
    show[]=[now++[(i:Int)]].filter (cq s);rw[List.filter_cons_of_neg (by rw[he];simp)];rfl
   |succ d=>
    show[]=((mK s (now++[(i:Int)])).flatMap (MQ s d)).filter (cq s);unfold mK;rw[he];rfl
  .rw[hf]at he;rw[if_pos rfl];exact QO d he (by rw[adq,List.length_singleton];omega)
theorem drop_eq{s:aq}(ho:cq s []=true)(p:List Int->Bool):((List.range s.words.length).flatMap λm=>nR s m []).find? p=(ep s).find? λl=>cq s l&&p l:=by
 have h1:((List.range s.words.length).flatMap λm=>nR s m [])=(ep s).filter (cq s):=by
  unfold ep;rw[afd,adY,aee,aez]
  have hn:(se s s.words.length).filter (cq s)=[]:=by
   rw[List.filter_eq_nil_iff];intro l hl h;have:=uv h;have:=qT hl;omega
  rw[hn,adT]
  refine nn λm hm=>?_
  rw[QO m ho (by have:=adF.1 hm;simpa using this),V']
 rw[h1,List.find?_filter];exact congrArg (λf=>List.find? f (ep s)) (funext λl=>by cases cq s l<;>cases p l<;>rfl)
theorem M9{s:aq}:aU s=true↔(bO s.aY.length 1 6=true/\s.aR.length<=6/\iz (gZ s) qV s.aR=true/\(s.aY.any λn=>!bO n 1 20)=false/\ij s.ib s.g_ 0 9=true/\ij s.lx s.lL 0 20=true/\bO s.cG 1 20=true/\bO s.wide 1 400=true/\bO s.rows 1 3=true)/\bO s.words.length 1 4=true/\(s.words.any λw=>!gJ s w)=false:=by
 unfold aU nW;simp only[adb,adP,adf]
 constructor
 .rintro⟨⟨⟨⟨a,b⟩,c⟩,d⟩,⟨⟨⟨⟨⟨e,f⟩,g⟩,h⟩,i⟩,j⟩,k⟩;exact⟨⟨a,b,d,e,f,g,h,j,k⟩,c,i⟩
 .rintro⟨⟨a,b,d,e,f,g,h,j,k⟩,c,i⟩;exact⟨⟨⟨⟨a,b⟩,c⟩,d⟩,⟨⟨⟨⟨⟨e,f⟩,g⟩,h⟩,i⟩,j⟩,k⟩
theorem Nj{s:aq}(hs:aU s=true){ws:List Word}(h1:1<=ws.length)(h2:ws.length<=4)(h3:∀w∈ws,gJ s w=true):aU { s with words:=ws }=true:=by
 rw[M9]at hs⊢;refine⟨hs.1,?_,?_⟩
 .simp[bO];omega
 .rw[ad5];intro w hw;have:gJ { s with words:=ws } w=gJ s w:=rfl;rw[this,h3 w hw];simp
section
variable{s x:aq}{out:List Int}{k:Nat->Nat}{N:Nat}
theorem ea.acG(h:ea s x out k N){i:Nat}(hi:i<s.words.length)(ho:out.contains (i:Int)=false):∃j,j<N/\k j=i:=by
 by_cases h0:i<k 0
 .rw[h.first i h0]at ho;cases ho
 have key:∀m,m<N->(∃j,j<N/\k j=i)\/k m<i\/i<k m:=λm hm=>by
  by_cases he:k m=i
  .exact .inl ⟨m,hm,he⟩
  .omega
 have step:∀m,m<N->(∃j,j<N/\k j=i)\/k m<i:=by
  intro m
  induction m with
  |zero=>
   intro hm;rcases key 0 hm with h1|h1|h1
   .exact .inl h1
   .exact .inr h1
   .omega
  |succ m ih=>
   intro hm;rcases ih (by omega)with h1|h1
   .exact .inl h1
   rcases key (m+1) hm with h2|h2|h2
   .exact .inl h2
   .exact .inr h2
   .rw[h.XU m hm i h1 h2]at ho;cases ho
 rcases step (N-1) (by have:=h.pos;omega)with h1|h1
 .exact h1
 .rw[h.last i h1 hi]at ho;cases ho
end
def rL(out:List Int)(n:Nat):List Nat:=(List.range n).filter λi=>!out.contains (i:Int)
def wQ(s:aq)(out:List Int)(n:Nat):List Word:=(rL out n).map λi=>s.words[i]?.getD { aK:=[],bK:=[],free:=false }
def kQ(s:aq)(out:List Int):aq:={ s with words:=wQ s out s.words.length }
theorem MK{out:List Int}{n i:Nat}:i∈rL out n↔i<n/\out.contains (i:Int)=false:=by
 unfold rL;rw[List.mem_filter,adF,adP]
theorem Nq(out:List Int)(n:Nat):(rL out n).Pairwise λa b=>a<b:=afn.filter _
theorem Sj{s:aq}{out:List Int}{n:Nat}(h:n<s.words.length):wQ s out (n+1)=wQ s out n++(if out.contains (n:Int)then[]else[s.words[n]]):=by
 unfold wQ rL;rw[adY,List.filter_append,adD]
 congr 1
 cases hc:out.contains (n:Int)
 .rw[List.filter_cons_of_pos (by rw[hc];rfl)];simp[ac_ h]
 .rw[List.filter_cons_of_neg (by rw[hc];simp)];simp
theorem N8{s:aq}{out:List Int}(ho:cq s out=true):ea s (kQ s out) out (λi=>(rL out s.words.length)[i]?.getD 0) (rL out s.words.length).length:=by
 obtain⟨m,FN,_,hm3,hm4⟩:=DP ho;have HW:=aeo.1 (Nq out s.words.length);have sx:∀{i:Nat},i∈rL out s.words.length↔i<s.words.length/\out.contains (i:Int)=false:=MK;generalize hK:rL out s.words.length=K at HW sx⊢
 have hk:∀i (h:i<K.length),K[i]?.getD 0=K[i]:=λi h=>by rw[ac_ h];rfl
 have gf:0<K.length:=afO (sx.2 ⟨FN,by simpa using hm3⟩)
 have au:∀i (h:i<K.length),K[i]<s.words.length:=λi h=>(sx.1 (ada h)).1
 refine{ pos:=gf,n:=?_,lt:=?_,mono:=?_,QH:=?_,XU:=?_,first:=?_,last:=?_,word:=?_,h1:=rfl,h2:=rfl,h3:=rfl,h4:=rfl,h5:=rfl,h6:=rfl,h7:=rfl,h8:=rfl,h9:=rfl }
 .unfold kQ wQ;rw[hK];simp
 .intro i hi;simp only[hk i hi];exact au i hi
 .intro i hi;simp only[hk i (by omega),hk (i+1) hi];exact HW i (i+1) _ _ (by omega)
 .intro i hi;simp only[hk i hi];exact(sx.1 (ada hi)).2
 .intro i hi j h1 h2;simp only[hk i (by omega),hk (i+1) hi]at h1 h2
  cases hc:out.contains (j:Int)with
  |true=>rfl
  |false=>
   obtain⟨t,ht,rfl⟩:=adG (sx.2 ⟨Nat.lt_trans h2 (au _ hi),hc⟩);exfalso;rcases Nat.lt_trichotomy t i with a|a|a
   .have:=HW t i ht (by omega) a;omega
   .subst a;omega
   .rcases Nat.lt_trichotomy t (i+1)with b|b|b
    .omega
    .subst b;omega
    .have:=HW (i+1) t hi ht b;omega
 .intro j h1;simp only[hk 0 gf]at h1
  cases hc:out.contains (j:Int)with
  |true=>rfl
  |false=>
   obtain⟨t,ht,rfl⟩:=adG (sx.2 ⟨Nat.lt_trans h1 (au _ gf),hc⟩);exfalso
   cases t with
   |zero=>omega
   |succ t=>have:=HW 0 (t+1) gf ht (by omega);omega
 .intro j h1 h2;simp only[hk (K.length-1) (by omega)]at h1
  cases hc:out.contains (j:Int)with
  |true=>rfl
  |false=>
   obtain⟨t,ht,rfl⟩:=adG (sx.2 ⟨h2,hc⟩);exfalso;rcases Nat.lt_trichotomy t (K.length-1)with a|a|a
   .have:=HW t (K.length-1) ht (by omega) a;omega
   .subst a;omega
   .omega
 .intro i hi;simp only[hk i hi];unfold kQ wQ;simp only;rw[hK,adI,ac_ hi,Option.map_some,ac_ (au i hi)]
  rfl
theorem Ld{s:aq}(hs:aU s=true){out:List Int}(ho:cq s out=true):aU (kQ s out)=true:=by
 have hr:=N8 ho;have hF:=eg hs;have hn:=hr.n;have hp:=hr.pos
 have hle:(rL out s.words.length).length<=s.words.length:=by
  unfold rL;exact ael (aeV _ _) (by simp)
 have hl:(wQ s out s.words.length).length=(rL out s.words.length).length:=by unfold wQ;simp
 refine Nj hs (by rw[hl];omega) (by rw[hl];have:=hF.words.2;omega) λw hw=>?_
 unfold wQ at hw;obtain⟨i,hi,rfl⟩:=adx.1 hw;have:=(MK.1 hi).1;rw[ac_ this];exact uc hs (ada this)
theorem M8{s:aq}(hs:aU s=true){out:List Int}(ho:cq s out=true):dw (kQ s out) []≠[]↔dw s out≠[]:=by
 have hr:=N8 ho;have hx:=Ld hs ho;have hox:cq (kQ s out) []=true:=lq hx;generalize hN:(rL out s.words.length).length=N at hr;generalize hk:(λi:Nat=>(rL out s.words.length)[i]?.getD 0)=k at hr
 have fit:∀{es:List End},Hx N es->iE (kQ s out) [] es=true->eX (kQ s out) [] es 0=eX s out (es.map (oy k)) 0:=by
  intro es jJ eG;have hg:=mX hx eG;refine hr.eX jJ (λj hj=>?_) (λi hi g hgm=>?_) 0
  .have:=hg.V6 j hj;omega
  .have:=(yL hg hgm).1;rw[hr.n]at this;exact this
 rw[List.ne_nil_iff_exists_cons,List.ne_nil_iff_exists_cons]
 constructor
 .rintro⟨es,l,hl⟩
  have hm:es∈dw (kQ s out) []:=by rw[hl];exact adt
  rw[lB hx hox]at hm;have hg:=mX hx hm.1
  have jJ:Hx N es:=by
   intro e he;obtain⟨i,hi,rfl⟩:=adG he;have:=hg.one i hi;rw[hr.n]at this;exact⟨this.1,by omega⟩
  have h2:es.map (oy k)∈dw s out:=by
   rw[lB hs ho];exact⟨by rw[<-hr.iE ho hox jJ];exact hm.1,by rw[<-fit jJ hm.1];exact hm.2⟩
  cases hh:dw s out with
  |nil=>rw[hh]at h2;cases h2
  |cons a l=>exact⟨a,l,rfl⟩
 .rintro⟨es,l,hl⟩
  have hm:es∈dw s out:=by rw[hl];exact adt
  rw[lB hs ho]at hm;have hg:=mX hs hm.1
  have abH:∃es',Hx N es'/\es'.map (oy k)=es:=by
   have key:∀l:List End,(∀e∈l,∃j,j<N/\0<=e.1/\k j=e.1.toNat)->∃es',Hx N es'/\es'.map (oy k)=l:=by
    intro l
    induction l with
    |nil=>intro _;exact⟨[],λe he=>(by cases he),rfl⟩
    |cons e l ih=>
     intro h
     obtain⟨es',h1,h2⟩:=ih λe he=>h e (ado _ he)
     obtain⟨j,j1,j2,j3⟩:=h e adt;refine⟨((j:Int),e.2)::es',?_,?_⟩
     .intro e' ky;rcases ad6.1 ky with rfl|ky
      .exact⟨by show(0:Int)<=(j:Int);omega,by show(j:Int).toNat<N;omega⟩
      .exact h1 e' ky
     .rw[adC,h2]
      congr 1
      show((k (j:Int).toNat:Int),e.2)=e;rw[Int.toNat_natCast,j3];exact Prod.ext (by show((e.1.toNat:Nat):Int)=e.1;omega) rfl
   refine key es λe he=>?_
   obtain⟨i,hi,rfl⟩:=adG he;obtain⟨a1,a2,a3,_⟩:=hg.one i hi;obtain⟨j,j1,j2⟩:=hr.acG (i:=es[i].1.toNat) (by omega) (by rw[show((es[i].1.toNat:Nat):Int)=es[i].1 by omega];exact a3);exact⟨j,j1,a1,j2⟩
  obtain⟨es',jJ,rfl⟩:=abH
  have eG:iE (kQ s out) [] es'=true:=by rw[hr.iE ho hox jJ];exact hm.1
  have h2:es'∈dw (kQ s out) []:=by
   rw[lB hx hox];exact⟨eG,by rw[fit jJ eG];exact hm.2⟩
  cases hh:dw (kQ s out) []with
  |nil=>rw[hh]at h2;cases h2
  |cons a l=>exact⟨a,l,rfl⟩
end Go.Proofs.Tryz
namespace Go.Proofs.Tryz
open Go Go.AL Go.RowKit Go.Proofs Go.Proofs.Tram
attribute [local simp] dF fc eT dW ef dI dJ cZ c_ ee cW cE gh gj aF aH ev aQ.S aQ.H bz ar aT AL.start AV.cells AV.storable AV.bZ bo bX dS b0 HR.okB post cy cJ cK AV.out AV.bT cb dk fz gI AV.vw df vI int b_ aM cU db gB iN eY dQ bQ AV.aG AV.bH
variable{GI:World->Prop}
theorem UZ(hG:aw GI)(l:List Int)(hl:l.length<1000000)(v:Int):AC prog GI 216 [vI l,.int .i64 v] (.ret (.int .i64 (firstT (v==·) l))):=by
 refine bW hG func216 ntmps216 c216 ?_;simp[c216];refine bw 8 l.length (λi S H=>S 0=vI l/\S 1=.int .i64 v/\S 7=.int .i64 l.length/\S 8=.int .i64 (i:Nat)/\∀j (hj:j<l.length),j<i->(v==l[j])=false) (λi S H h=>h.2.2.2.1) ⟨by simp,by simp,by simp,by simp,by simp⟩ ?_;rintro i hi S H ⟨s0,s1,s7,s8,hb⟩
 by_cases au:i<l.length
 .have hw:IntKind.i64.wrap ((i:Int)+1)=i+1:=aN (by omega);cases he:v==l[i]
  .simp[s0,s1,s7,s8,au,he,hw];intro j hj gw
   by_cases e:j=i
   .subst e;simpa using he
   .simpa using hb j hj (by omega)
  .simp[s0,s1,s7,s8,au,he,hw];exact mo au he hb
 .have cH:i=l.length:=by omega
  subst cH;simp[s0,s1,s7,s8]
  exact jj λj hj=>hb j hj hj
theorem EX(hG:aw GI)(l:List Int)(hl:l.length<1000000)(v:Int):AC prog GI 198 [vI l,.int .i64 v] (.ret (.bool (l.contains v))):=by
 refine bW hG func198 ntmps198 c198 ?_;simp[c198];refine⟨_,by kernel_rfl,UZ hG l hl v,λ_=>rfl,?_⟩;simp;have:=jW (p:=(v==·)) (l:=l);rw[ad7]at this;simpa using this.symm
theorem wc(a b:Int):ny [.int .i64 a,.int .i64 b]=some [a,b]:=rfl
theorem abl(hG:aw GI)(s:aq){n:Int}(h0:0<=n)(h1:n<s.words.length):AC prog GI 181 [.int .i64 n,.ref (ae s)] (.ret (.bool (hZ s n))):=by
 obtain⟨k,rfl⟩:∃k:Nat,n=k:=⟨n.toNat,by omega⟩
 have hk:k<s.words.length:=by omega
 have hn:hZ s (k:Int)=!s.words[k].free:=by unfold hZ;rw[Int.toNat_natCast,ac_ hk]
 refine bW hG func181 ntmps181 c181 ?_;simp[c181,ae,hk,bD,hn]
theorem abD(hG:aw GI)(s:aq)(hs:mG s)(out:List Int)(ho:out.length<1000000):AC prog GI 131 [bP s,vI out] (.ret (.bool (cq s out))):=by
 have q3:=hs.words;have hw:IntKind.i64.wrap ((s.words.length:Int)-1)=s.words.length-1:=aN (by omega);refine bW hG func131 ntmps131 c131 ?_;refine aI (λS H=>S 1=vI out/\S 2=.box 2 0/\H 2=some (ae s)) (by simp[bP,ae]) ?_;rintro S H ⟨s1,s2,e2⟩;simp[s1,s2,e2,ae,hw];refine⟨_,by kernel_rfl,OT hG out ho 0 (s.words.length-1),λ_=>rfl,?_⟩;cases hr:eo out 0 (s.words.length-1)
 .simp[cq,hr]
 by_cases hl:out.length<s.words.length
 case neg=>
  have pz:¬(out.length:Int)<s.words.length:=by omega
  simp[s1,s2,e2,ae,cq,hr,hl,pz]
 have pz:(out.length:Int)<s.words.length:=by omega
 have jJ:∀x∈out,0<=x/\x<s.words.length:=λx hx=>by
  unfold eo at hr;have:=(eu.1 hr).1 x hx;simp[bO]at this;omega
 simp[s1,s2,e2,ae,pz];refine⟨_,by kernel_rfl,Hk hG out ho 181 [.ref (ae s)] (.inr ⟨_,rfl⟩) (hZ s) (by kernel_rfl) (λx hx=>abl hG s (jJ x hx).1 (jJ x hx).2),λ_=>rfl,?_⟩;simp[cq,hr,hl]
def gA(g:Nat×Nat):AV:=.agg [.int .i64 g.1,.int .i64 g.2]
def aP(s:aq):List AV:=ae s++[bt s.aR]
def fl(s:aq):AV:=.agg (aP s)
def Fb(l:List (Nat×Nat))(cut:Bool):AV:=A1 ⟨l.map gA,cut⟩
def FM(s:aq)(g:Nat×Nat):Prop:=g.1<s.words.length/\g.2<cg s g.1
theorem FV(hG:aw GI)(s:aq){g:Nat×Nat}(h:FM s g):AC prog GI 224 [fl s,gA g] (.ret (.int .i64 (bh s g).2)):=by
 obtain⟨h1,h2⟩:=h;rw[fP h1]at h2
 have hr:(bh s g).2=s.words[g.1].aK[g.2]:=by unfold bh;simp[ac_ h1,h2]
 rw[hr];refine bW hG func224 ntmps224 c224 ?_;refine aI (λS H=>S 2=.box 2 0/\S 3=.box 3 0/\H 2=some (aP s)/\H 3=some [.int .i64 g.1,.int .i64 g.2]) (by simp[fl,aP,gA,ae,bt]) ?_;rintro S H ⟨s2,s3,e2,e3⟩;simp[s2,s3,e2,e3,aP,ae,bt,h1,h2,bD]
theorem AZ(hG:aw GI){lo hi st:Int}(h0:0<=lo)(h1:lo<=hi)(h2:hi<=20)(h3:0<=st)(h4:st<=10):AC prog GI 227 [.agg [.int .i64 lo,.int .i64 hi],.int .i64 st] (.ret (.int .i64 (jb lo hi st))):=by
 have EU:0<=(hi-lo)*st:=aeF (by omega) h3;have FN:(hi-lo)*st<=20*10:=aeO (by omega) h4 h3 (by omega);have hb:=jI h1 h3 h4;unfold jb at hb;have w1:IntKind.i64.wrap (hi-lo)=hi-lo:=aN (by omega);have w2:IntKind.i64.wrap ((hi-lo)*st)=(hi-lo)*st:=aN (by omega);have w3:IntKind.i64.wrap (((hi-lo)*st).tdiv 10)=((hi-lo)*st).tdiv 10:=aN (by omega);have w4:IntKind.i64.wrap (lo+((hi-lo)*st).tdiv 10)=lo+((hi-lo)*st).tdiv 10:=aN (by omega);refine bW hG func227 ntmps227 c227 ?_;simp[c227,w1,w2,w3,w4,jb]
theorem um(x y:Int):∀(ps:List j7),oF [x,y] (ps.map pf) (ps.map lK)=some ((ps.find? λp=>p.l==x&&p.r==y).map lK)
 |[]=>rfl
 |p::ps=>by
  show oF [x,y] (pf p::ps.map pf) (lK p::ps.map lK)=_;unfold oF;simp only[pf,ny,Option.map_some];simp only[List.length_cons,List.length_nil,ne_eq,ae5,adz];rw[List.find?_cons]
  by_cases hp:p.l=x/\p.r=y
  .obtain⟨rfl,rfl⟩:=hp;simp
  .have h1:([x,y]==[p.l,p.r])=false:=by
    simp only[adW,ne_eq,afe,agu];rintro⟨rfl,rfl⟩;exact hp ⟨rfl,rfl⟩
   have h2:(p.l==x&&p.r==y)=false:=by
    rw[ae8];simp only[adW]
    by_cases h:p.l=x
    .exact .inr λh'=>hp ⟨h,h'⟩
    .exact .inl h
   rw[h1,h2];exact um x y ps
theorem Tn(hG:aw GI)(s:aq)(hF:j9 s){a b:Nat×Nat}(ha:FM s a)(hb:FM s b){st:Int}(h3:0<=st)(h4:st<=10):AC prog GI 226 [fl s,gA a,gA b,.int .i64 st] (.ret (.int .i64 (kf s st (bh s a) (bh s b)))):=by
 have lX:=nq hF (bh s a) (bh s b);refine bW hG func226 ntmps226 c226 ?_;refine aI (λS H=>S 4=.box 4 0/\S 5=.box 5 0/\S 6=.box 6 0/\S 3=.int .i64 st/\H 4=some (aP s)/\H 5=some [.int .i64 a.1,.int .i64 a.2]/\H 6=some [.int .i64 b.1,.int .i64 b.2]) (by simp[fl,aP,gA,ae,bt]) ?_;rintro S H ⟨s4,s5,s6,s3,e4,e5,e6⟩
 by_cases hw:a.1=b.1
 case neg=>
  have jB:f_ s (bh s a) (bh s b)=(s.lx,s.lL):=by
   unfold f_ bh;rw[if_neg];simp only;omega
  have BE:((a.1:Int)!=(b.1:Int))=true:=by simp;omega
  unfold kf;rw[jB]at lX⊢;simp[s4,s5,s6,s3,e4,e5,e6,aP,ae,bt,BE];refine⟨_,by kernel_rfl,AZ hG lX.1 lX.2.1 lX.2.2 h3 h4,λ_=>rfl,?_⟩;simp
 have yS:(bh s a).1=(bh s b).1:=by unfold bh;simp only;omega
 have BE:((a.1:Int)!=(b.1:Int))=false:=by simp;omega
 simp[s4,s5,s6,s3,e4,e5,e6,aP,ae,bt,BE];refine oc (FV hG s ha) ?_;simp[s4,s5,s6,s3,e4,e5,e6,aP,ae,bt,BE];refine oc (FV hG s hb) ?_;simp[s4,s5,s6,s3,e4,e5,e6,aP,ae,bt,BE,wc,bI,um]
 cases hf:s.aR.find? λp=>p.l==(bh s a).2&&p.r==(bh s b).2 with
 |some p=>
  have jB:f_ s (bh s a) (bh s b)=(p.lo,p.hi):=by unfold f_;rw[if_pos yS,hf]
  unfold kf;rw[jB]at lX⊢;simp[s4,s5,s6,s3,e4,e5,e6,lK];refine⟨_,by kernel_rfl,AZ hG lX.1 lX.2.1 lX.2.2 h3 h4,λ_=>rfl,?_⟩;simp
 |none=>
  have jB:f_ s (bh s a) (bh s b)=(s.ib,s.g_):=by unfold f_;rw[if_pos yS,hf]
  unfold kf;rw[jB]at lX⊢;simp[s4,s5,s6,s3,e4,e5,e6,aP,ae,bt];refine⟨_,by kernel_rfl,AZ hG lX.1 lX.2.1 lX.2.2 h3 h4,λ_=>rfl,?_⟩;simp
theorem nY{l:List Int}(h:∀x∈l,0<=x/\x<=1000):0<=l.sum/\l.sum<=1000*l.length:=by
 induction l with
 |nil=>simp
 |cons a l ih=>
  have h1:=h a adt
  have h2:=ih λx hx=>h x (ado _ hx)
  simp only[List.sum_cons,List.length_cons];omega
theorem yM{l:List Int}{i:Nat}(h:i<l.length):(l.take (i+1)).sum=(l.take i).sum+l[i]:=by
 rw[adj h,aeC];simp
theorem AK(hG:aw GI)(l:List Int)(hl:l.length<100000)(h:∀x∈l,0<=x/\x<=1000):AC prog GI 225 [vI l] (.ret (.int .i64 l.sum)):=by
 refine bW hG func225 ntmps225 c225 ?_;simp[c225];refine bw 8 l.length (λi S H=>S 6=vI l/\S 7=.int .i64 l.length/\S 8=.int .i64 (i:Nat)/\S 3=.int .i64 (l.take i).sum) (λi S H h=>h.2.2.1) ⟨by simp,by simp,by simp,by simp⟩ ?_;rintro i hi S H ⟨s6,s7,s8,s3⟩
 by_cases au:i<l.length
 .have hb:=nY (l:=l.take i) λx hx=>h x (aeg hx)
  have hx:=h l[i] (ada au);rw[adM]at hb;have hw:IntKind.i64.wrap ((i:Int)+1)=i+1:=aN (by omega);have gD:IntKind.i64.wrap ((l.take i).sum+l[i])=(l.take i).sum+l[i]:=aN (by omega);rw[yM au];generalize(l.take i).sum=y at s3 gD⊢;simp[s6,s7,s8,s3,au,hw,gD]
 .have cH:i=l.length:=by omega
  subst cH;rw[aea]at s3;simp[s6,s7,s8,s3]
def fe(l:List Int):AV:=grow 3 (l.map (AV.int .i64))
theorem kA(l:List Int):aJ 1 (l.map (AV.int .i64))=true:=gx λa=>⟨rfl,rfl⟩
theorem sg(l:List Int):(fe l=.slice .nil []/\l=[])\/fe l=.slice (.own 3) (ints l):=by
 unfold fe grow
 cases l with
 |nil=>exact .inl ⟨rfl,rfl⟩
 |cons a l=>exact .inr rfl
theorem uQ(s:aq)(l:List Lt):∀i,i<=l.length->fZ s l i=((l.take i).map (gu s)).sum
 |0,_=>rfl
 |i+1,h=>by
  rw[nZ (by omega),uQ s l i (by omega),adj (by omega),adD,aeC];simp
def gO(s:aq)(st:Int)(l:List Lt):Nat->List Int
 |0=>[]
 |i+1=>gO s st l i++(if 0<i then match l[i-1]?,l[i]? with
  |some a,some b=>[kf s st a b]
  |_,_=>[]else[])
theorem wy{s:aq}{st:Int}{l:List Lt}{i:Nat}(h:i+1<l.length):gO s st l (i+2)=gO s st l (i+1)++[kf s st (l[i]'(by omega)) l[i+1]]:=by
 show gO s st l (i+1)++_=_;rw[if_pos (by omega),show i+1-1=i by omega,ac_ (by omega:i<l.length),ac_ h]
theorem y6{s:aq}{st:Int}{l:List Lt}:∀i,i+1<=l.length->(gO s st l (i+1)).sum=gk s st l i
 |0,_=>rfl
 |i+1,h=>by
  rw[wy (by omega),nV (by omega),aeC,y6 i (by omega)];simp
theorem zu{s:aq}(hF:j9 s){st:Int}(h0:0<=st)(h1:st<=10){l:List Lt}:∀i,∀x∈gO s st l i,0<=x/\x<=20
 |0,x,hx=>by cases hx
 |i+1,x,hx=>by
  unfold gO at hx;rw[adm]at hx;rcases hx with hx|hx
  .exact zu hF h0 h1 i x hx
  .split at hx
   .split at hx
    .rw[ady]at hx;subst hx;exact r_ hF h0 h1 _ _
    .cases hx
   .cases hx
theorem ua{s:aq}{st:Int}{l:List Lt}:∀i,(gO s st l i).length<=i
 |0=>adh _
 |i+1=>by
  have:=ua (s:=s) (st:=st) (l:=l) i;unfold gO;rw[adq];split
  .split<;>simp<;>omega
  .simp;omega
theorem AN{s:aq}(hs:aU s=true):∀i j (hi:i<s.aR.length)(hj:j<s.aR.length),i<j->¬(s.aR[i].l=s.aR[j].l/\s.aR[i].r=s.aR[j].r):=by
 unfold aU at hs;simp only[adb]at hs;have h:=hs.1.2;rw[eu]at h
 have hp:kl (s.aR.map λp=>(p.l,p.r)):=pV λj hj=>by
  rw[adp,adp];exact h.2 j (by simpa using hj)
 intro i j hi hj pK he;have:=aeo.1 hp i j (by simpa using hi) (by simpa using hj) pK;rw[adp,adp,he.1,he.2,gq]at this;cases this
theorem HA(hG:aw GI)(s:aq)(hs:aU s=true):AC prog GI 79 [bP s] (.ret (fl s)):=by
 have hF:=eg hs;exact YE hG (sA:=ae s) (ps:=s.aR) rfl rfl (by simp[ae,vI,int,AV.storable,isVal]) (by have:=hF.Rl;omega) (AN hs)
theorem Td(hG:aw GI)(s:aq)(hs:mG s):AC prog GI 138 [bP s] (.ret (.int .i64 (if aU s then 0 else 2))):=by
 refine bW hG func138 ntmps138 c138 ?_;refine aI (λS H=>S 1=.box 1 0/\H 1=some (ae s)) (by simp[bP,ae]) ?_;rintro S H ⟨s1,e1⟩;simp[s1,e1,ae];refine⟨_,by kernel_rfl,zq hG s hs,λ_=>rfl,?_⟩
 cases cM:aU s<;>simp
theorem qE(s:aq)(out:List Int)(es:List End)(st:Int):(da s out es st).length=es.length:=by unfold da;simp
structure kq where
 lo:Int
 hi:Int
 hid:Bool
def iK(c:kq):AV:=.agg [.int .i64 c.lo,.int .i64 c.hi,.bool c.hid]
structure az where
 cells:List kq
 pos:Int
 reach:Int
 eH:Int
 dE:Int
 name:aq
def ao(s:az):List AV:=[.slice .view (s.cells.map iK),.int .i64 s.pos,.int .i64 s.reach,.int .i64 s.eH,.int .i64 s.dE]++ae s.name
def a_(s:az):AV:=.agg (ao s)
theorem qY(hG:aw GI)(n lo hi:Int):AC prog GI 99 [.int .i64 n,.int .i64 lo,.int .i64 hi] (.ret (.bool (bO n lo hi))):=by
 refine bW hG func99 ntmps99 c99 ?_
 by_cases h1:lo<=n<;>by_cases h2:n<=hi<;>simp[c99,bO,h1,h2]
def iu(x:kq):Bool:=!bO x.lo 1 20||!bO x.hi x.lo 20
theorem T8(hG:aw GI)(x:kq):AC prog GI 136 [iK x] (.ret (.bool (iu x))):=by
 refine bW hG func136 ntmps136 c136 ?_;simp[c136,iK];refine oc (qY hG x.lo 1 20) ?_;cases h1:bO x.lo 1 20
 .simp[iu,h1]
 .simp;refine oc (qY hG x.hi x.lo 20) ?_;simp[iu,h1]
theorem UR(hG:aw GI)(x:kq):AC prog GI 157 [iK x] (.ret (.int .i64 x.lo)):=by
 refine bW hG func157 ntmps157 c157 ?_;simp[c157,iK]
theorem Vq(hG:aw GI)(x:kq):AC prog GI 158 [iK x] (.ret (.int .i64 x.hi)):=by
 refine bW hG func158 ntmps158 c158 ?_;simp[c158,iK]
theorem TC (hG:aw GI) (l:List kq) (hl:l.length < 1000000) (k:Nat) (p:kq→Bool) (hk:dX prog k=true) (h:∀ x∈l,AC prog GI k [iK x] (.ret (.bool (p x)))) :
  AC prog GI 183 [.slice .view (l.map iK),.func (.func k) [] []] (.ret (.int .i64 (firstT p l))):=by
 refine bW hG func183 ntmps183 c183 ?_;simp[c183];refine bw 8 l.length (λi S H=>S 0=.slice .view (l.map iK)/\S 1=_/\S 7=.int .i64 l.length/\S 8=.int .i64 (i:Nat)/\∀j (hj:j<l.length),j<i->p l[j]=false) (λi S H h=>h.2.2.2.1) ⟨by simp,by simp<;>rfl,by simp,by simp,by simp⟩ ?_;rintro i hi S H ⟨s0,s1,s7,s8,hb⟩
 by_cases au:i<l.length
 .have hw:IntKind.i64.wrap ((i:Int)+1)=i+1:=aN (by omega);have hx:=h l[i] (ada au);cases hp:p l[i]
  .simp[adp,iK,s0,s1,s7,s8,au];refine⟨_,hk,hx,by simp[df],?_⟩;simp[s0,s1,s7,s8,au,hp,hw];intro j hj gw
   by_cases CV:j=i
   .subst CV;exact hp
   .exact hb j hj (by omega)
  .simp[adp,iK,s0,s1,s7,s8,au];refine⟨_,hk,hx,by simp[df],?_⟩;simp[s0,s1,s7,s8,au,hp,hw];exact mo au hp hb
 .have cH:i=l.length:=by omega
  subst cH;simp[s0,s1,s7,s8]
  exact jj λj hj=>hb j hj hj
theorem Vc (hG:aw GI) (l:List kq) (hl:l.length < 1000000) (k:Nat) (p:kq→Bool) (hk:dX prog k=true) (h:∀ x∈l,AC prog GI k [iK x] (.ret (.bool (p x)))) :
  AC prog GI 137 [.slice .view (l.map iK),.func (.func k) [] []] (.ret (.bool (l.any p))):=by
 have hF:=TC hG l hl k p hk h;refine bW hG func137 ntmps137 c137 ?_;simp[c137];refine⟨_,by kernel_rfl,hF,λ_=>rfl,?_⟩;simp;exact jW.symm
def cL(s:az):Bool:=bO s.cells.length 1 12&&!s.cells.any iu&&bO s.pos 1 s.cells.length&&bO s.reach 1 12&&bO s.eH 1 9&&bO s.dE 0 9&&aU s.name
structure eZ(s:az):Prop where
 cells:s.cells.length<1000000
 name:mG s.name
theorem oT(hG:aw GI)(s:az)(hs:eZ s):AC prog GI 77 [a_ s] (.ret (.bool (cL s))):=by
 refine bW hG func77 ntmps77 c77 ?_;simp[c77,a_,ao,ae];refine oc (qY hG s.cells.length 1 12) ?_;cases e1:bO s.cells.length 1 12
 .simp[cL,e1]
 simp;refine oc (Vc hG s.cells hs.cells 136 iu (by kernel_rfl) (λx _=>T8 hG x)) ?_;cases e3:s.cells.any iu
 case true=>simp[cL,e1,e3]
 simp;refine oc (qY hG s.pos 1 s.cells.length) ?_;cases e4:bO s.pos 1 s.cells.length
 .simp[cL,e1,e3,e4]
 simp;refine oc (qY hG s.reach 1 12) ?_;cases e5:bO s.reach 1 12
 .simp[cL,e1,e3,e4,e5]
 simp;refine oc (qY hG s.eH 1 9) ?_;cases e6:bO s.eH 1 9
 .simp[cL,e1,e3,e4,e5,e6]
 simp;refine oc (qY hG s.dE 0 9) ?_;cases e7:bO s.dE 0 9
 .simp[cL,e1,e3,e4,e5,e6,e7]
 simp;refine oc (Td hG s.name hs.name) ?_
 cases e8:aU s.name<;>simp[cL,e1,e3,e4,e5,e6,e7,e8]
end Go.Proofs.Tryz
