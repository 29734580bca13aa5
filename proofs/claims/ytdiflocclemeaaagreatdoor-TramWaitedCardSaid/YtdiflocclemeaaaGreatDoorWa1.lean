/-
  A part of the proof.
-/
import Derived.Test.YtdiflocclemeaaaGreatDoorE1
import Derived.Test.YtdiflocclemeaaaGreatDoorE2
import Derived.Test.YtdiflocclemeaaaGreatDoorE3
import Derived.Test.YtdiflocclemeaaaGreatDoorE4
import Derived.Test.YtdiflocclemeaaaGreatDoorShelf
set_option maxRecDepth 100000
set_option maxHeartbeats 8000000
set_option linter.all false
set_option linter.unusedVariables false
set_option linter.unusedSimpArgs false
set_option linter.deprecated false
namespace Go.Proofs.Tram
def db(seen:Nat->Bool)(s:Nat×List (Nat×Nat))(i:Nat):Nat×List (Nat×Nat):=if seen i=true then s else(i+1,if s.1<i then s.2++[(s.1,i-1)]else s.2)
def eo(seen:Nat->Bool)(n:Nat):List (Nat×Nat):=((List.range (n+1)).foldl (db seen) (0,[])).2
def sn(seen:Nat->Bool)(out:List (Nat×Nat))(c:Nat):List (Nat×Nat):=
 if seen c=true then(if 0<c/\seen (c-1)=true then out.dropLast++[((out.getLast?.getD (0,0)).1,c)]else out++[(c,c)])else out
theorem n0 (seen:Nat→Bool) (n:Nat) :
  ((List.range n).foldl (db seen) (0,[])).1<=n/\(((List.range n).foldl (db seen) (0,[])).1<n↔0<n/\seen (n-1)=true)/\
   (List.range n).foldl (sn seen) []=((List.range n).foldl (db seen) (0,[])).2++(if((List.range n).foldl (db seen) (0,[])).1<n then[(((List.range n).foldl (db seen) (0,[])).1,n-1)]else[]):=by
 induction n with
 |zero=>simp
 |succ n ih=>
  rw[ab3,abW,abW]
  generalize(List.range n).foldl (db seen) (0,[])=s at*
  generalize(List.range n).foldl (sn seen) []=r at*
  obtain⟨h1,h2,h3⟩:=ih;simp only[List.foldl_cons,List.foldl_nil,adj]
  cases hs:seen n with
  |true=>
   have e1:db seen s n=s:=by simp[db,hs]
   rw[e1];refine⟨by omega,⟨λ_=>⟨by omega,by first|exact hs|rfl⟩,λ_=>by omega⟩,?_⟩;rw[if_pos (by omega:s.1<n+1)];unfold sn;rw[if_pos hs]
   by_cases aw:s.1<n
   .rw[if_pos (h2.1 aw),h3,if_pos aw];simp
   .have:s.1=n:=by omega
    rw[if_neg (λh=>aw (h2.2 h)),h3,if_neg aw,ab1,this]
  |false=>
   have e1:db seen s n=(n+1,if s.1<n then s.2++[(s.1,n-1)]else s.2):=by simp[db,hs]
   have e2:sn seen r n=r:=by simp[sn,hs]
   rw[e1,e2];refine⟨abg _,by simp,?_⟩;simp only[aev,abw,ab1];rw[h3]
   split<;>simp
def cK:List Int->Int->Nat×Int
 |[],t=>(0,t)
 |x::l,t=>if x<=t then((cK l (t-x)).1+1,(cK l (t-x)).2)else(0,t)
theorem pO:∀(l:List Int)(t:Int),(cK l t).1<=l.length
 |[],_=>abg _
 |x::l,t=>by
  unfold cK;split
  .simpa using pO l (t-x)
  .simp
theorem sX:∀(l:List Int)(t:Int),0<=t->0<=(cK l t).2
 |[],_,h=>h
 |x::l,t,h=>by
  unfold cK;split
  .exact sX l (t-x) (by omega)
  .exact h
theorem yX:∀(l:List Int)(t:Int)(x:Int),l[(cK l t).1]?=some x->(cK l t).2<x
 |[],_,_,h=>by simp at h
 |y::l,t,x,h=>by
  unfold cK at h⊢;split at h
  .rename_i hy;rw[if_pos hy];simp only[List.getElem?_cons_succ]at h;exact yX l (t-y) x h
  .rename_i hy;rw[if_neg hy];simp only[List.getElem?_cons_zero,abQ]at h;simp only;omega
theorem Bs:∀(l:List Int)(a b:Int),0<=b->cK l (a+b)=((cK l a).1+(cK (l.drop (cK l a).1) ((cK l a).2+b)).1,(cK (l.drop (cK l a).1) ((cK l a).2+b)).2)
 |[],a,b,_=>by simp[cK]
 |x::l,a,b,hb=>by
  by_cases h:x<=a
  .have e:cK (x::l) a=((cK l (a-x)).1+1,(cK l (a-x)).2):=by rw[cK];rw[if_pos h]
   rw[e]
   have e2:cK (x::l) (a+b)=((cK l (a+b-x)).1+1,(cK l (a+b-x)).2):=by
    rw[cK];rw[if_pos (by omega)]
   rw[e2,show a+b-x=(a-x)+b by omega,Bs l (a-x) b hb];simp only[aeA]
   ext<;>simp<;>omega
  .have e:cK (x::l) a=(0,a):=by rw[cK];rw[if_neg h]
   rw[e];simp
theorem qE:∀(l:List Int)(t:Int)(k:Nat),k<=(cK l t).1->cK l t=(k+(cK (l.drop k) (t-(l.take k).sum)).1,(cK (l.drop k) (t-(l.take k).sum)).2)
 |_,_,0,_=>by simp
 |[],t,k+1,h=>by simp[cK]at h
 |x::l,t,k+1,h=>by
  by_cases hx:x<=t
  .have e:cK (x::l) t=((cK l (t-x)).1+1,(cK l (t-x)).2):=by rw[cK];rw[if_pos hx]
   rw[e]at h⊢;have:=qE l (t-x) k (by simpa using h);rw[this];simp only[aeA,List.take_succ_cons,List.sum_cons];rw[show t-x-(l.take k).sum=t-(x+(l.take k).sum) by omega]
   ext<;>simp<;>omega
  .rw[cK,if_neg hx]at h;simp at h
def jo(bq:Nat->Int)(a b:Nat):Int:=((List.range' a (b-a)).map bq).sum
theorem qI(bq:Nat->Int){a b:Nat}(h:a<=b):jo bq a (b+1)=jo bq a b+bq b:=by
 unfold jo;rw[show b+1-a=(b-a)+1 by omega,adk,abK,acA];simp
 congr 1;omega
theorem vJ(bq:Nat->Int)(a:Nat):jo bq a a=0:=by simp[jo]
def eu(ah:List Int)(bq:Nat->Int)(vs:List (Nat×Nat)):Nat:=vs.foldl (λn v=>n+(cK (ah.drop n) (jo bq v.1 (v.2+1))).1) 0
def iy(ah:List Int)(bq:Nat->Int)(seen:Nat->Bool)(s:Nat×Int)(i:Nat):Nat×Int:=
 if seen i=true then(s.1+(cK (ah.drop s.1) (s.2+bq i)).1,(cK (ah.drop s.1) (s.2+bq i)).2)else(s.1,0)
def i_(ah:List Int)(bq:Nat->Int)(seen:Nat->Bool)(n:Nat):Nat×Int:=(List.range n).foldl (iy ah bq seen) (0,0)
theorem mL(ah:List Int)(bq:Nat->Int)(l:List (Nat×Nat))(v:Nat×Nat):eu ah bq (l++[v])=eu ah bq l+(cK (ah.drop (eu ah bq l)) (jo bq v.1 (v.2+1))).1:=by
 unfold eu;rw[abW];rfl
def vD(ah:List Int)(bq:Nat->Int)(s:Nat×List (Nat×Nat))(n:Nat):Nat×Int:=
 if s.1<n then(eu ah bq s.2+(cK (ah.drop (eu ah bq s.2)) (jo bq s.1 n)).1,(cK (ah.drop (eu ah bq s.2)) (jo bq s.1 n)).2)else(eu ah bq s.2,0)
theorem DO(ah:List Int){bq:Nat->Int}(hr:∀i,0<=bq i)(seen:Nat->Bool)(s:Nat×List (Nat×Nat)){n:Nat}(hle:s.1<=n):iy ah bq seen (vD ah bq s n) n=vD ah bq (db seen s n) (n+1):=by
 cases hs:seen n with
 |true=>
  have e1:db seen s n=s:=by simp[db,hs]
  rw[e1];unfold iy vD;rw[if_pos hs,if_pos (by omega:s.1<n+1),qI bq hle]
  by_cases aw:s.1<n
  .rw[if_pos aw];simp only;rw[Bs _ (jo bq s.1 n) (bq n) (hr n),ado]
   ext<;>simp<;>omega
  .have:s.1=n:=by omega
   rw[if_neg aw,this,vJ]
 |false=>
  have e1:db seen s n=(n+1,if s.1<n then s.2++[(s.1,n-1)]else s.2):=by simp[db,hs]
  rw[e1];unfold iy vD;rw[if_neg (by simp[hs])];simp only[aev,abw]
  by_cases aw:s.1<n
  .rw[if_pos aw,if_pos aw,mL];simp only;rw[show n-1+1=n by omega]
  .rw[if_neg aw,if_neg aw]
theorem yV(ah:List Int){bq:Nat->Int}(hr:∀i,0<=bq i)(seen:Nat->Bool):∀n,i_ ah bq seen n=vD ah bq ((List.range n).foldl (db seen) (0,[])) n
 |0=>by simp[i_,eu,vD]
 |n+1=>by
  have e1:i_ ah bq seen (n+1)=iy ah bq seen (i_ ah bq seen n) n:=by
   unfold i_;rw[ab3,abW];rfl
  have e2:(List.range (n+1)).foldl (db seen) (0,[])=db seen ((List.range n).foldl (db seen) (0,[])) n:=by
   rw[ab3,abW];rfl
  rw[e1,e2,yV ah hr seen n];exact DO ah hr seen _ (n0 seen n).1
theorem uc{ah:List Int}{bq:Nat->Int}(hr:∀i,0<=bq i){seen:Nat->Bool}{n:Nat}(hn:seen n=false):eu ah bq (eo seen n)=(i_ ah bq seen n).1:=by
 have h:=yV ah hr seen (n+1);have hv:=n0 seen (n+1)
 have h2:¬((List.range (n+1)).foldl (db seen) (0,[])).1<n+1:=λhl=>by
  have:=(hv.2.1.1 hl).2;rw[adj,hn]at this;cases this
 unfold vD at h;rw[if_neg h2]at h
 have e:i_ ah bq seen (n+1)=iy ah bq seen (i_ ah bq seen n) n:=by
  unfold i_;rw[ab3,abW];rfl
 rw[e]at h;unfold iy at h;rw[if_neg (by simp[hn])]at h;exact(congrArg Prod.fst h).symm
def su(a b:Nat×Int):Prop:=a.1<b.1\/(a.1=b.1/\a.2<=b.2)
theorem yB:∀(la lb:List Int)(ta tb:Int),la.length=lb.length->(∀j (h:j<la.length)(h':j<lb.length),lb[j]<=la[j])->ta<=tb->su (cK la ta) (cK lb tb)
 |[],[],ta,tb,_,_,ht=>.inr ⟨rfl,ht⟩
 |[],_::_,_,_,h,_,_=>by simp at h
 |_::_,[],_,_,h,_,_=>by simp at h
 |x::la,y::lb,ta,tb,hl,h,ht=>by
  have h0:=h 0 (by simp) (by simp);simp only[List.getElem_cons_zero]at h0
  by_cases hx:x<=ta
  .have e1:cK (x::la) ta=((cK la (ta-x)).1+1,(cK la (ta-x)).2):=by rw[cK];rw[if_pos hx]
   have e2:cK (y::lb) tb=((cK lb (tb-y)).1+1,(cK lb (tb-y)).2):=by rw[cK];rw[if_pos (by omega)]
   rw[e1,e2]
   rcases yB la lb (ta-x) (tb-y) (by simpa using hl) (λj hj dw=>h (j+1) (ad1 hj) (ad1 dw)) (by omega)with hm|⟨hm,Q6⟩
   .exact .inl (by simp only;omega)
   .exact .inr ⟨by simp only;omega,Q6⟩
  .have e1:cK (x::la) ta=(0,ta):=by rw[cK];rw[if_neg hx]
   rw[e1]
   by_cases hy:y<=tb
   .have e2:cK (y::lb) tb=((cK lb (tb-y)).1+1,(cK lb (tb-y)).2):=by rw[cK];rw[if_pos hy]
    rw[e2];exact .inl (by simp)
   .have e2:cK (y::lb) tb=(0,tb):=by rw[cK];rw[if_neg hy]
    rw[e2];exact .inr ⟨rfl,ht⟩
structure Calm(ah:List Int)(s:Nat×Int):Prop where
 left:0<=s.2
 next:∀x,ah[s.1]?=some x->s.2<x
theorem um{ah:List Int}(hp:∀x∈ah,0<x){bq:Nat->Int}(hr:∀i,0<=bq i)(seen:Nat->Bool){s:Nat×Int}(h:Calm ah s)(i:Nat):Calm ah (iy ah bq seen s i):=by
 unfold iy;split
 .refine⟨sX _ _ (by have:=h.left;have:=hr i;omega),λx hx=>?_⟩;refine yX (ah.drop s.1) (s.2+bq i) x ?_;rw[adv];exact hx
 .exact⟨acx _,λx hx=>hp x (acq hx)⟩
theorem Cc {na nb:List Int} (hl:na.length=nb.length) (hn:∀ j (h:j < na.length) (h':j < nb.length),nb[j]≤na[j]) (hp:∀ x∈nb,0 < x) {ra rb:Nat→Int} (B9:∀ i,0≤ra i) {sa sb:Nat→Bool} {i:Nat} (hs:sa i=true→sb i=true) (hr:sa i=true→ra i≤rb i) (rX:∀ i,0≤rb i)
  {a b:Nat×Int} (ha:Calm na a) (hb:Calm nb b) (h:su a b):su (iy na ra sa a i) (iy nb rb sb b i):=by
 have G7:∀x∈na,0<x:=λx hx=>by
  obtain⟨j,hj,rfl⟩:=abP hx;have:=hn j hj (by omega);have:=hp _ (aba (by omega:j<nb.length));omega
 have lift:∀k ta tb,ta<=tb->su (k+(cK (na.drop k) ta).1,(cK (na.drop k) ta).2) (k+(cK (nb.drop k) tb).1,(cK (nb.drop k) tb).2):=λk ta tb ht=>by
  rcases yB (na.drop k) (nb.drop k) ta tb (by simp;omega) (λj hj dw=>by simpa using hn (k+j) (by simp at hj;omega) (by simp at dw;omega)) ht with hm|⟨hm,Q6⟩
  .exact .inl (by simp only;omega)
  .exact .inr ⟨by simp only;omega,Q6⟩
 have hla:=ha.left;have Qy:=hb.left;have aat:=B9 i;have aaJ:=rX i;unfold iy
 cases Xx:sa i with
 |false=>
  simp only[abi,abw];split
  .have:=sX (nb.drop b.1) (b.2+rb i) (by omega)
   rcases h with h|⟨h,_⟩
   .exact .inl (by simp only;omega)
   .by_cases h0:(cK (nb.drop b.1) (b.2+rb i)).1=0
    .exact .inr ⟨by simp only;omega,this⟩
    .exact .inl (by simp only;omega)
  .rcases h with h|⟨h,_⟩
   .exact .inl h
   .exact .inr ⟨h,acx _⟩
 |true=>
  have hr:=hr Xx;rw[if_pos rfl,if_pos (hs Xx)]
  rcases h with h|⟨h1,h2⟩
  .by_cases hk:b.1-a.1<=(cK (na.drop a.1) (a.2+ra i)).1
   .rw[qE (na.drop a.1) (a.2+ra i) (b.1-a.1) hk,ado,show a.1+(b.1-a.1)=b.1 by omega];simp only;rw[show a.1+(b.1-a.1+(cK (na.drop b.1) (a.2+ra i-((na.drop a.1).take (b.1-a.1)).sum)).1)=b.1+(cK (na.drop b.1) (a.2+ra i-((na.drop a.1).take (b.1-a.1)).sum)).1 by omega];refine lift b.1 _ _ ?_
    have aw:a.1<na.length:=by
     have:=pO (na.drop a.1) (a.2+ra i);rw[ab2]at this;omega
    have Mv:=ha.next na[a.1] (aa_ aw)
    have tD:na[a.1]<=((na.drop a.1).take (b.1-a.1)).sum:=by
     rw[acM aw,show b.1-a.1=(b.1-a.1-1)+1 by omega,List.take_succ_cons,List.sum_cons]
     have:0<=(((na.drop (a.1+1)).take (b.1-a.1-1))).sum:=by
      have gK:∀l:List Int,(∀x∈l,0<x)->0<=l.sum:=by
       intro l
       induction l with
       |nil=>simp
       |cons x l ih=>
        intro hx;have:=hx x (by simp)
        have:=ih λy hy=>hx y (abm _ hy)
        simp;omega
      exact gK _ λx hx=>G7 x (acX (aca hx))
     omega
    omega
   .exact .inl (by simp only;omega)
  .rw[h1];exact lift b.1 _ _ (by omega)
theorem tV{na nb:List Int}(hl:na.length=nb.length)(hn:∀j (h:j<na.length)(h':j<nb.length),nb[j]<=na[j])(hp:∀x∈nb,0<x){ra rb:Nat->Int}(B9:∀i,0<=ra i)(rX:∀i,0<=rb i){sa sb:Nat->Bool}:∀n,(∀i,i<n->sa i=true->sb i=true/\ra i<=rb i)->su (i_ na ra sa n) (i_ nb rb sb n)/\Calm na (i_ na ra sa n)/\Calm nb (i_ nb rb sb n)
 |0,_=>by
  have G7:∀x∈na,0<x:=λx hx=>by
   obtain⟨j,hj,rfl⟩:=abP hx;have:=hn j hj (by omega);have:=hp _ (aba (by omega:j<nb.length));omega
  exact⟨.inr ⟨rfl,acx _⟩,⟨acx _,λx hx=>G7 x (acq hx)⟩,⟨acx _,λx hx=>hp x (acq hx)⟩⟩
 |n+1,h=>by
  obtain⟨h1,h2,h3⟩:=tV hl hn hp B9 rX n (λi hi=>h i (by omega))
  have G7:∀x∈na,0<x:=λx hx=>by
   obtain⟨j,hj,rfl⟩:=abP hx;have:=hn j hj (by omega);have:=hp _ (aba (by omega:j<nb.length));omega
  have e:∀(q:List Int)(r:Nat->Int)(s:Nat->Bool),i_ q r s (n+1)=iy q r s (i_ q r s n) n:=λq r s=>by
   unfold i_;rw[ab3,abW];rfl
  rw[e,e];exact⟨Cc hl hn hp B9 (λhs=>(h n (by omega) hs).1) (λhs=>(h n (by omega) hs).2) rX h2 h3 h1,um G7 B9 sa h2 n,um hp rX sb h3 n⟩
theorem AA {na nb:List Int} (hl:na.length=nb.length) (hn:∀ j (h:j < na.length) (h':j < nb.length),nb[j]≤na[j]) (hp:∀ x∈nb,0 < x) {ra rb:Nat→Int} (B9:∀ i,0≤ra i) (rX:∀ i,0≤rb i) {sa sb:Nat→Bool} {n:Nat} (ha:sa n=false) (hb:sb n=false)
  (h:∀i,i<n->sa i=true->sb i=true/\ra i<=rb i):eu na ra (eo sa n)<=eu nb rb (eo sb n):=by
 rw[uc B9 ha,uc rX hb]
 rcases(tV hl hn hp B9 rX n h).1 with h|⟨h,_⟩
 .omega
 .omega
theorem Cp (seen:Nat→Bool) (n:Nat) :
  (∀v∈((List.range n).foldl (db seen) (0,[])).2,v.1<=v.2/\v.2+2<=((List.range n).foldl (db seen) (0,[])).1)/\(((List.range n).foldl (db seen) (0,[])).2).Pairwise (λu v=>u.2+1<v.1)/\
   ∀c,c<n->(seen c=true↔(∃v∈((List.range n).foldl (db seen) (0,[])).2,v.1<=c/\c<=v.2)\/((List.range n).foldl (db seen) (0,[])).1<=c):=by
 induction n with
 |zero=>simp
 |succ n ih=>
  have hle:=(n0 seen n).1;rw[ab3,abW]
  generalize(List.range n).foldl (db seen) (0,[])=s at*
  simp only[List.foldl_cons,List.foldl_nil];obtain⟨h1,h2,h3⟩:=ih
  cases hs:seen n with
  |true=>
   have e1:db seen s n=s:=by simp[db,hs]
   rw[e1];refine⟨h1,h2,λc hc=>?_⟩
   by_cases I2:c=n
   .subst I2;exact⟨λ_=>.inr hle,λ_=>hs⟩
   .exact h3 c (by omega)
  |false=>
   have e1:db seen s n=(n+1,if s.1<n then s.2++[(s.1,n-1)]else s.2):=by simp[db,hs]
   rw[e1];simp only
   by_cases aw:s.1<n
   .rw[if_pos aw];refine⟨λv hv=>?_,?_,λc hc=>?_⟩
    .rcases abk.1 hv with hv|hv
     .have:=h1 v hv;omega
     .simp only[abG]at hv;subst hv;simp only;omega
    .rw[acY];refine⟨h2,by simp,λu hu v hv=>?_⟩;simp only[abG]at hv;subst hv;have:=h1 u hu;simp only;omega
    .by_cases I2:c=n
     .subst I2;rw[hs];refine⟨λh=>by(cases h),λh=>?_⟩;rcases h with⟨v,hv,im,fx⟩|h
      .rcases abk.1 hv with hv|hv
       .have:=h1 v hv;omega
       .simp only[abG]at hv;subst hv;simp only at fx;omega
      .omega
     .rw[h3 c (by omega)];refine⟨λh=>.inl ?_,λh=>?_⟩
      .rcases h with⟨v,hv,hvc⟩|h
       .exact⟨v,ac6 _ hv,hvc⟩
       .exact⟨(s.1,n-1),by simp,h,by simp only;omega⟩
      .rcases h with⟨v,hv,im,fx⟩|h
       .rcases abk.1 hv with hv|hv
        .exact .inl ⟨v,hv,im,fx⟩
        .simp only[abG]at hv;subst hv;exact .inr im
       .omega
   .rw[if_neg aw];refine⟨λv hv=>?_,h2,λc hc=>?_⟩
    .have:=h1 v hv;omega
    .by_cases I2:c=n
     .subst I2;rw[hs];refine⟨λh=>by(cases h),λh=>?_⟩;rcases h with⟨v,hv,im,fx⟩|h
      .have:=h1 v hv;omega
      .omega
     .rw[h3 c (by omega)];refine⟨λh=>?_,λh=>?_⟩
      .rcases h with h|h
       .exact .inl h
       .omega
      .rcases h with h|h
       .exact .inl h
       .omega
theorem yY{seen:Nat->Bool}{n:Nat}(hn:seen n=false):(∀v∈eo seen n,v.1<=v.2/\v.2<n)/\(eo seen n).Pairwise (λu v=>u.2+1<v.1)/\∀c,c<n->(seen c=true↔∃v∈eo seen n,v.1<=c/\c<=v.2):=by
 obtain⟨h1,h2,h3⟩:=Cp seen (n+1);have hv:=n0 seen (n+1)
 have h4:¬((List.range (n+1)).foldl (db seen) (0,[])).1<n+1:=λhl=>by
  have:=(hv.2.1.1 hl).2;rw[adj,hn]at this;cases this
 have h5:=hv.1;unfold eo
 generalize(List.range (n+1)).foldl (db seen) (0,[])=s at*
 refine⟨λv hv=>?_,h2,λc hc=>?_⟩
 .have:=h1 v hv;omega
 .rw[h3 c (by omega)];refine⟨λh=>?_,λh=>.inl h⟩;rcases h with h|h
  .exact h
  .omega
theorem rq(ah:List Int)(bq:Nat->Int)(vs:List (Nat×Nat)):eu ah bq vs<=ah.length:=by
 have main:∀(r:List (Nat×Nat)),eu ah bq r.reverse<=ah.length:=by
  intro r
  induction r with
  |nil=>simp[eu]
  |cons v r ih=>
   rw[List.reverse_cons,mL];have:=pO (ah.drop (eu ah bq r.reverse)) (jo bq v.1 (v.2+1));rw[ab2]at this;omega
 have:=main vs.reverse;rwa [List.reverse_reverse]at this
structure zH(f:Nat->Nat)(m a w:Nat):Prop where
 place:1<=a/\a<=m
 words:w=f a
 most:∀n,1<=n->n<=m->f n<=w/\(f n=w->a<=n)
theorem zH.unique{f:Nat->Nat}{m a w a' w':Nat}(h:zH f m a w)(h':zH f m a' w'):a=a'/\w=w':=by
 have h1:=h.most a' h'.place.1 h'.place.2;have h2:=h'.most a h.place.1 h.place.2;have e1:=h.words;have e2:=h'.words
 have hw:w=w':=by omega
 have:=h1.2 (by omega);have:=h2.2 (by omega);exact⟨by omega,hw⟩
def nv(x:Nat×Nat)(l:List (Nat×Nat)):Nat×Nat:=l.foldl (λo y=>if o.2<y.2 then y else o) x
def fG(f:Nat->Nat)(a m:Nat):List (Nat×Nat):=(List.range' a m).map λn=>(n,f n)
def kG(p:Nat->Bool)(k n:Nat):Prop:=n<=k/\(∀x,x<n->p x=false)/\(n<k->p n=true)
theorem kG.unique{p:Nat->Bool}{k m n:Nat}(h:kG p k m)(h':kG p k n):m=n:=by
 rcases Nat.lt_trichotomy m n with aw|rfl|aw
 .have h1:=h.2.2 (by have:=h'.1;omega);have h2:=h'.2.1 m aw;rw[h1]at h2;cases h2
 .rfl
 .have h1:=h'.2.2 (by have:=h.1;omega);have h2:=h.2.1 n aw;rw[h1]at h2;cases h2
theorem Nn{p:Nat->Bool}(hm:∀x y,x<=y->p x=true->p y=true){i j:Nat}(oy:i<j)(vR:∀x,x<i->p x=false):i<=(i+j)/2/\(i+j)/2<j/\(p ((i+j)/2)=false->∀x,x<(i+j)/2+1->p x=false):=by
 refine⟨by omega,by omega,λh x hx=>?_⟩
 cases hp:p x with
 |false=>rfl
 |true=>
  have:=hm x _ (by omega:x<=(i+j)/2) hp;rw[h]at this;cases this
structure sk(p:Nat->Nat->Bool)(m c t:Nat):Prop where
 cell:c<m
 Lu:p c t=true
 less:∀c' n,c'<m->p c' n=true->t<=n/\(n=t->c<=c')
theorem sk.unique{p:Nat->Nat->Bool}{m c t c' t':Nat}(h:sk p m c t)(h':sk p m c' t'):c=c'/\t=t':=by
 have h1:=h.less c' t' h'.cell h'.Lu;have h2:=h'.less c t h.cell h.Lu
 have ht:t=t':=by omega
 subst ht;have:=h1.2 rfl;have:=h2.2 rfl;exact⟨by omega,rfl⟩
def gu(x:Nat×Nat)(l:List (Nat×Nat)):Nat×Nat:=l.foldl (λo y=>if y.2<o.2 then y else o) x
def eH(f:Nat->Nat)(most:Nat)(m:Nat):List (Nat×Nat):=(List.range m).filterMap λi=>if f i<=most then some (i,f i)else none
theorem uY(f:Nat->Nat)(most m:Nat):eH f most (m+1)=eH f most m++(if f m<=most then[(m,f m)]else[]):=by
 unfold eH;rw[ab3,List.filterMap_append]
 congr 1
 by_cases h:f m<=most<;>simp[h]
theorem ru{f:Nat->Nat}{most m:Nat}{x:Nat×Nat}:x∈eH f most m↔x.1<m/\x.2=f x.1/\f x.1<=most:=by
 unfold eH;rw[adw]
 constructor
 .rintro⟨i,hi,he⟩;split at he
  .cases he;exact⟨abC.1 hi,rfl,by assumption⟩
  .cases he
 .rintro⟨h1,h2,h3⟩;refine⟨x.1,abC.2 h1,?_⟩;rw[if_pos h3,<-h2]
theorem LR(f:Nat->Nat)(most m:Nat):(eH f most m).Pairwise λx y=>x.1<y.1:=by
 induction m with
 |zero=>exact List.Pairwise.nil
 |succ m ih=>
  rw[uY,acY];refine⟨ih,?_,?_⟩
  .split<;>simp
  .intro x hx y hy;have h1:=(ru.1 hx).1;split at hy
   .simp at hy;subst hy;exact h1
   .cases hy
theorem wi:∀(l:List (Nat×Nat))(x:Nat×Nat),(x::l).Pairwise (λa b=>a.1<b.1)->gu x l∈x::l/\∀y∈x::l,(gu x l).2<=y.2/\((gu x l).2=y.2->(gu x l).1<=y.1)
 |[],x,_=>⟨by simp[gu],by simp[gu]⟩
 |z::l,x,h=>by
  have h1:=(acI.1 h).1;have h2:=(acI.1 h).2;have e:gu x (z::l)=gu (if z.2<x.2 then z else x) l:=rfl
  by_cases hz:z.2<x.2
  .rw[e,if_pos hz];have ih:=wi l z h2;refine⟨abm _ ih.1,λy hy=>?_⟩;rcases acb.1 hy with rfl|hy
   .have:=ih.2 z (by simp);omega
   .exact ih.2 y hy
  .rw[e,if_neg hz];have hx:(x::l).Pairwise (λa b=>a.1<b.1):=acI.2 ⟨λy hy=>h1 y (abm _ hy),(acI.1 h2).2⟩;have ih:=wi l x hx;refine⟨?_,λy hy=>?_⟩
   .rcases acb.1 ih.1 with h|h
    .rw[h];simp
    .exact abm _ (abm _ h)
   .rcases acb.1 hy with rfl|hy
    .exact ih.2 _ (by simp)
    .rcases acb.1 hy with rfl|hy
     .have hb:=ih.2 x (by simp);have hxz:=h1 y (by simp);refine⟨by omega,λhh=>?_⟩;have:=hb.2 (by omega);omega
     .exact ih.2 y (abm _ hy)
theorem Yh{p:Nat->Nat->Bool}{f:Nat->Nat}{most m:Nat}(hf:∀i,i<m->kG (p i) (most+1) (f i)){x:Nat×Nat}{l:List (Nat×Nat)}(h:eH f most m=x::l):sk p m (gu x l).1 (gu x l).2:=by
 have hr:=LR f most m;rw[h]at hr;obtain⟨hb,hl⟩:=wi l x hr;rw[<-h]at hb hl;obtain⟨b1,b2,b3⟩:=ru.1 hb;refine⟨b1,?_,λc' n hc hp=>?_⟩
 .rw[b2];exact(hf _ b1).2.2 (by omega)
 .have hle:f c'≤n:=by
   rcases acK n (f c')with h|h
   .have:=(hf c' hc).2.1 n h;rw[hp]at this;cases this
   .exact h
  by_cases hm:f c'<=most
  .have:=hl (c',f c') (ru.2 ⟨hc,rfl,hm⟩);simp only at this;refine⟨by omega,λhn=>this.2 (by omega)⟩
  .refine⟨by omega,λhn=>by omega⟩
theorem zS{p:Nat->Nat->Bool}{f:Nat->Nat}{most m:Nat}(hf:∀i,i<m->kG (p i) (most+1) (f i)){c n:Nat}(hc:c<m)(hn:n<=most)(hp:p c n=true):∃x l,eH f most m=x::l:=by
 cases hs:eH f most m with
 |cons x l=>exact⟨x,l,rfl⟩
 |nil=>
  have hle:f c<=n:=by
   rcases acK n (f c)with h|h
   .have:=(hf c hc).2.1 n h;rw[hp]at this;cases this
   .exact h
  have:(c,f c)∈eH f most m:=ru.2 ⟨hc,rfl,by show f c<=most;omega⟩;rw[hs]at this;cases this
theorem jK:∀{l:List Int},(∀x∈l,0<x)->0<=l.sum
 |[],_=>by simp
 |x::l,h=>by
  have:=h x (by simp)
  have:=jK (l:=l) λy hy=>h y (abm _ hy)
  simp only[List.sum_cons];omega
theorem BR:∀{l:List Int}{t:Int},(∀x∈l,0<x)->0<=t->((cK l t).1=l.length↔l.sum<=t)
 |[],t,_,ht=>by simp[cK,ht]
 |x::l,t,h,ht=>by
  have h0:=h x (by simp)
  have hl:=λy hy=>h y (abm _ hy)
  have hs:=jK hl
  by_cases hx:x<=t
  .have e:cK (x::l) t=((cK l (t-x)).1+1,(cK l (t-x)).2):=by rw[cK];rw[if_pos hx]
   rw[e];have:=BR (l:=l) (t:=t-x) hl (by omega);simp only[List.length_cons,List.sum_cons]
   constructor
   .intro h1;have:=this.1 (by omega);omega
   .intro h1;have:=this.2 (by omega);omega
  .have e:cK (x::l) t=(0,t):=by rw[cK];rw[if_neg hx]
   rw[e];simp only[List.length_cons,List.sum_cons]
   constructor
   .intro h1;omega
   .intro h1;omega
end Go.Proofs.Tram
namespace Go.Proofs.Tryz
open Go.AL
variable{GI:World->Prop}
theorem cH:prog.follows .mixedOrders=true:=by kernel_rfl
theorem cd{GI:World->Prop}(hG:au GI){f:Nat}{fn:Func}{c:Code}{args:List AV}{out:ez}{n:Nat}(hf:prog.funcs[f]?=some fn)(hn:fn.ntmps=n)(ac:ae)(h:bB prog GI ac (post prog n fn.results.toList out) (AL.start args) (λ_=>none))(hl:args.length<=n:=by simp)(hb:fn.body=some c:=by rfl)(hc:dF prog n c=ac:=by kernel_rfl):AC prog GI f args out:=AC.JS hG cH hf hb hn hl hc h
theorem La (hG:au GI) (es:List AV) (cJ:aM 1 es=true) (hl:es.length < 1048576) :
  AC prog GI 114 [.slice .view es] (.ret (.slice (if es.isEmpty then .nil else .own 3) es)):=by
 refine cd hG func114 ntmps114 c114 ?_
 cases es with
 |nil=>simp[c114,bB,bp,aF,bb,aG,ev,aO.S,aO.H,bz,dq,ar,aU,AL.start,AV.aH,aM,post,cE,cW,cV,AV.out,AV.bZ]
 |cons x es=>
  have u9:es.length+1<1048576:=hl;simp[c114,bB,bp,aF,bb,aG,ev,aO.S,aO.H,bz,dq,ar,aU,AL.start,AV.aH,cJ,u9,post,cE,cW,cV,AV.out,AV.bZ]
theorem Ss (hG:au GI) (es:List AV) (cJ:aM 2 es=true) (hl:es.length < 1048576) :
  AC prog GI 190 [.slice .view es] (.ret (.slice (if es.isEmpty then .nil else .own 46) es)):=by
 refine cd hG func190 ntmps190 c190 ?_
 cases es with
 |nil=>simp[c190,bB,bp,aF,bb,aG,ev,aO.S,aO.H,bz,dq,ar,aU,AL.start,AV.aH,aM,post,cE,cW,cV,AV.out,AV.bZ]
 |cons x es=>
  have u9:es.length+1<1048576:=hl;simp[c190,bB,bp,aF,bb,aG,ev,aO.S,aO.H,bz,dq,ar,aU,AL.start,AV.aH,cJ,u9,post,cE,cW,cV,AV.out,AV.bZ]
end Go.Proofs.Tryz
namespace Go.Proofs.Tryz
open Go Go.AL Go.RowKit Go.Proofs Go.Proofs.Tram
abbrev End:=Int×Int
def bm(e:End):AV:=.agg [.int .i64 e.1,.int .i64 e.2]
def aJ(l:List End):List AV:=l.map bm
def aW(out:List Int)(es:List End):AV:=.agg [.slice .view (ints out),.slice .view (aJ es)]
def lp:List End->List End->Nat->List (List End)
 |_,[],_=>[]
 |now,a::r,m=>(if r=[]then[now++[a]]else match m with|0=>[]|m+1=>lp (now++[a]) r m)++lp now r m
def ch(now l:List End)(m:Nat):List (List End):=if l=[]then[now]else match m with|0=>[]|m+1=>lp now l m
variable{GI:World->Prop}{l:Nat}{xs:List AV}
structure Fx(C:Cons prog GI l xs)(all:List End)(out:List Int)(fA:List AV)(rows:Nat) where
 bN:Nat
 cA:Value
 cY:Value
 cO:Value
 cF:Value
 cR:Value
 MI:Nat->Prop
 wI:World
 bA:Nat
 xU:Value
 Gr:cA=.pointer (some ⟨bA,0,none⟩)
 NV:MI bA/\bA<bN
 YD:∃ty,wI.heap[bA]?=some (.cells #[xU] ty (0,0))
 hY:RV (λb _=>MI b) bT wI (.ref [.val (.func (.yield l) #[] #[])]) cY
 hR:RV (λb _=>MI b) bT wI (.ref [.val (.func (.func 189) #[] #[cA,cY,cO,.pointer (some ⟨bN,0,none⟩),cF,cR])]) cR
 f9:fA[9]?=some (.int .i64 rows)
variable{C:Cons prog GI l xs}{all:List End}{out:List Int}{fA:List AV}{rows:Nat}
structure St(X:Fx C all out fA rows)(k:Nat)(M:Nat->Prop)(Pr:Nat->Nat->Prop)(es:List End)(w:World):Prop where
 j:C.J k M Pr w
 lt:∀b,M b->b<w.heap.size
 mi:∀b,X.MI b->M b/\b≠X.bN/\w.heap[b]?=X.wI.heap[b]?
 now:∃v ty uv,w.heap[X.bN]?=some (.cells #[v] ty (0,0))/\M X.bN/\w.ownsRow (X.bN+1) 46 2 v es.length uv/\ka (λ_ _=>False) w 2 (aJ es) uv/\∀b,v.ownBlock=some b->M b/\¬X.MI b
 f:RV Pr bT w (.ref fA) X.cF
 o:RV Pr bT w (.ref [.slice .view (ints out)]) X.cO
 e:RD (λb k=>b<X.bN/\(X.MI b\/Pr b k)) w (.slice .view (aJ all)) X.xU
theorem uZ{MI:Nat->Prop}{bN:Nat}{Pr eC:Nat->Nat->Prop}{w w':World}(hm:∀b,MI b->w'.heap[b]?=w.heap[b]?)(hk:bf Pr eC w w'):bf (λb k=>b<bN/\(MI b\/Pr b k)) (λb k=>b<bN/\(MI b\/eC b k)) w w':={
 cell b k hp u hu:=by
  rcases hp.2 with h|h
  .exact⟨⟨hp.1,.inl h⟩,by rw[adn (w:=w) (hm b h)];exact hu⟩
  .obtain⟨h1,h2⟩:=hk.cell b k h u hu;exact⟨⟨hp.1,.inr h1⟩,h2⟩
 map b hp es c LJ:=by
  rcases hp.2 with h|h
  .exact⟨⟨hp.1,.inl h⟩,by rw[hm b h];exact LJ⟩
  .obtain⟨h1,h2⟩:=hk.map b h es c LJ
   exact⟨⟨hp.1,.inr h1⟩,h2⟩ }
theorem St.Pq{X:Fx C all out fA rows}{k:Nat}{M:Nat->Prop}{Pr:Nat->Nat->Prop}{es:List End}{w:World}(s:St X k M Pr es w):RV (λb k=>b<X.bN/\(X.MI b\/Pr b k)) bT w (.ref [.slice .view (aJ all)]) X.cA:=by
 obtain⟨ty,h2⟩:=X.YD;rw[X.Gr];have hb:w.heap[X.bA]?=some (.cells #[X.xU] ty (0,0)):=(s.mi _ X.NV.1).2.2.trans h2;refine .data _ _ (.ref _ _ _ (λ_=>X.xU) (λi hi=>?_) (λk hk=>⟨⟨X.NV.2,.inl X.NV.1⟩,?_⟩) (λk hk=>?_))
 .have:i=0:=by simpa using hi
  subst this;rfl
 .have:k=0:=by simpa using hk
  subst this;simp[World.cell?,hb]
 .have:k=0:=by simpa using hk
  subst this;exact s.e
structure Fr(X:Fx C all out fA rows)(n:Int)(a:Act):Prop where
 size:a.tmps.size=53
 defers:a.defers=[]
 t0:a.tmps.getD 0 undef=.int .i64 n
 t1:a.tmps.getD 1 undef=X.cA
 t2:a.tmps.getD 2 undef=X.cY
 t3:a.tmps.getD 3 undef=X.cO
 t4:a.tmps.getD 4 undef=.pointer (some ⟨X.bN,0,none⟩)
 t5:a.tmps.getD 5 undef=X.cF
 t6:a.tmps.getD 6 undef=X.cR
def fF(l:Nat)(all es:List End)(out:List Int)(fA:List AV)(fv:Value)(n:Int)(v9:AV):an:=λt=>match t with
 |0=>.int .i64 n
 |1=>.ref [.slice .view (aJ all)]
 |2=>.ref [.val (.func (.yield l) #[] #[])]
 |3=>.ref [.slice .view (ints out)]
 |4=>.ref [.slice .view (aJ es)]
 |5=>.ref fA
 |6=>.ref [.val fv]
 |9=>v9
 |_=>.bl
def Fx.fv(X:Fx C all out fA rows):Value:=.func (.func 189) #[] #[X.cA,X.cY,X.cO,.pointer (some ⟨X.bN,0,none⟩),X.cF,X.cR]
theorem St.eJ {X:Fx C all out fA rows} {k:Nat} {M:Nat→Prop} {Pr:Nat→Nat→Prop} {es:List End} {w:World} (s:St X k M Pr es w) {n:Int} {a:Act} (fr:Fr X n a) {v9:AV} (h9:v9.aH=v9∧RV (fun _ _=>True) bT w v9 (a.tmps.getD 9 undef)) :
  ∀t,t<53->(fF l all es out fA X.fv n v9 t).aH=fF l all es out fA X.fv n v9 t/\RV (λ_ _=>True) bT w (fF l all es out fA X.fv n v9 t) (a.tmps.getD t undef):=by
 intro t ht
 have Yg:∀{P':Nat->Nat->Prop},(∀b k,P' b k->X.MI b)->bf P' (λ_ _=>True) X.wI w:=λh=>bf.of_eq λb k hp=>⟨trivial,(s.mi b (h b k hp)).2.2⟩
 unfold fF;split
 .rw[fr.t0];exact⟨rfl,.data _ _ (.int _ _)⟩
 .rw[fr.t1];exact⟨rfl,s.Pq.mono (bf.same λ_ _ _ _=>trivial) λ_ _ h=>h⟩
 .rw[fr.t2];exact⟨rfl,X.hY.mono (Yg λb k h=>h) λ_ _ h=>h⟩
 .rw[fr.t3];exact⟨rfl,s.o.mono (bf.same λ_ _ _ _=>trivial) λ_ _ h=>h⟩
 .rw[fr.t4];obtain⟨v,ty,uv,h1,h2,h3,h4,h5⟩:=s.now;refine⟨rfl,.data _ _ (.ref _ _ _ (λ_=>v) (λi hi=>?_) (λk hk=>⟨trivial,?_⟩) (λk hk=>?_))⟩
  .have:i=0:=by simpa using hi
   subst this;rfl
  .have:k=0:=by simpa using hk
   subst this;simp[World.cell?,h1]
  .have:k=0:=by simpa using hk
   subst this
   exact RD.ofRow (size:=2) (es:=aJ es) (by simpa[aJ]using h3) (h4.mono (bf.same λ_ _ _ h=>h.elim)) λ_ _ _ _=>trivial
 .rw[fr.t5];exact⟨rfl,s.f.mono (bf.same λ_ _ _ _=>trivial) λ_ _ h=>h⟩
 .rw[fr.t6];exact⟨rfl,X.hR.mono (Yg λb k h=>h) λ_ _ h=>h⟩
 .exact h9
 .exact⟨rfl,.bl _⟩
theorem St.grow{X:Fx C all out fA rows}{k:Nat}{M:Nat->Prop}{Pr:Nat->Nat->Prop}{es:List End}{w w':World}(s:St X k M Pr es w)(hb:Below w.heap.size w w'):St X k M Pr es w':=by
 have hM:=s.lt
 have aZ:∀b,M b->w'.heap[b]?=w.heap[b]?:=λb h=>hb.block b (hM b h)
 have hk:bf Pr Pr w w':=bf.iB (λb h=>hb.block b h) λ_ _ _ h=>h
 obtain⟨v,ty,uv,h1,h2,h3,h4,h5⟩:=s.now;refine⟨C.df s.j (mE.rr hb) λb h=>⟨abR (hM b h) hb.size,.inl h⟩,λb h=>abR (hM b h) hb.size,λb h=>⟨(s.mi b h).1,(s.mi b h).2.1,(aZ b (s.mi b h).1).trans (s.mi b h).2.2⟩,⟨v,ty,uv,(aZ _ h2).trans h1,h2,?_,h4.mono (bf.of_eq λ_ _ h=>h.elim),h5⟩,s.f.mono hk λ_ _ h=>h,s.o.mono hk λ_ _ h=>h,s.e.mono (uZ (λb h=>aZ b (s.mi b h).1) hk)⟩;refine⟨h3.1,?_⟩
 rcases h3.2 with h|⟨gg,cap,cur,rfl,sD,Ag,rest⟩
 .exact .inl h
 .exact .inr ⟨gg,cap,cur,rfl,sD,(aZ gg (h5 gg rfl).1).trans Ag,rest⟩
def _root_.Go.AL.ae.qa:ae->ae
 |.seq x _=>x
 |.cond _ x _=>x
 |c=>c
def _root_.Go.AL.ae.qb:ae->ae
 |.seq _ y=>y
 |.cond _ _ y=>y
 |.block _ c=>c
 |.loop c=>c
 |c=>c
def _root_.Go.AL.ae.dl:ae->List cq
 |.c_ l|.ops l=>l
 |_=>[]
def xS:Nat->Bool:=λt=>decide (36<=t)
def W7:Nat->Bool:=λt=>decide (7<=t)
noncomputable def qH:ae:=ae.qb c189.qb.qb.qa.qb.qb
theorem Fr.step{X:Fx C all out fA rows}{n:Int}{a a':Act}(fr:Fr X n a)(bn:a'.tmps.size=53)(dN:a'.defers=[])(h:dY W7 a a'):Fr X n a':=
 ⟨bn,dN,(h 0 rfl).trans fr.t0,(h 1 rfl).trans fr.t1,(h 2 rfl).trans fr.t2,(h 3 rfl).trans fr.t3,(h 4 rfl).trans fr.t4,(h 5 rfl).trans fr.t5,(h 6 rfl).trans fr.t6⟩
theorem bJ(args:Array Value)(k t:Nat)(h:t<args.size):(args++Array.replicate k undef).getD t undef=args[t]:=by
 simp[adx,h]
theorem lY(l:List Int):aM 1 (ints l)=true:=by
 simp[aM,ints,AV.storable,AV.cells]
theorem pk(l:List End):aM 2 (aJ l)=true:=by
 simp[aM,aJ,bm,AV.storable,AV.cells]
theorem p6(es:List End):∀x∈aJ es,x.cells.length=2/\x.storable=true/\∀c∈x.cells,c.one=true:=by
 intro x hx;obtain⟨e,_,rfl⟩:=abz.1 hx;refine⟨rfl,rfl,λc hc=>?_⟩;simp[bm,AV.cells]at hc
 rcases hc with rfl|rfl<;>rfl
theorem wR(es:List End):∀x∈aJ es,∀c∈x.cells,gO c=true:=by
 intro x hx c hc;obtain⟨e,_,rfl⟩:=abz.1 hx;simp[bm,AV.cells]at hc
 rcases hc with rfl|rfl<;>rfl
theorem bo{P:Program}{t:TypeId}{s:Nat}(h:(P.info? t).map (·.size)=some s):∃i,P.info? t=some i/\i.size=s:=by
 cases hi:P.info? t with
 |none=>rw[hi]at h;cases h
 |some i=>rw[hi]at h;exact⟨i,rfl,abv h⟩
theorem ni {P:Program} {a:Act} {o:Oper} {cl:Call} {f x:Operand} {l:Nat} (w:World) (ho:o.op = .call cl) (hc:cl.callee = .value f) (ha:cl.args = #[x]) (hf:a.eval f = .func (.yield l) #[] #[]) :
  (execOp a.eval o).run P w=(Instr.yield l #[a.eval x]).run P w:=by
 unfold execOp;simp[ho,eI hc,hf,Deferred.ofValue,invoke,ha]
theorem od {P:Program} {a:Act} {o:Oper} {cl:Call} {f x:Operand} {k:Nat} {cap:Array Value} (w:World) (ho:o.op = .call cl) (hc:cl.callee = .value f) (ha:cl.args = #[x]) (hf:a.eval f = .func (.func k) #[] cap) (hk:dL P k=true) :
  (execOp a.eval o).run P w=.ok (.enter k (#[a.eval x]++cap)) w:=by
 unfold execOp;simp[ho,eI hc,hf,Deferred.ofValue,invoke,ha,fW hk]
theorem GK{P:Program}{a:Act}{o:Oper}{x:Operand}{t:TypeId}{b:Bool}(w:World)(ho:o.op=.unOp .not t x)(hx:a.eval x=.bool b):(execOp a.eval o).run P w=.ok (.value (.bool !b)) w:=by
 unfold execOp;simp[ho,hx,Op.unary]
theorem dY.weaken{W W':Nat->Bool}{a a':Act}(h:dY W a a')(hw:∀t,W' t=false->W t=false):dY W' a a':=λt ht=>h t (hw t ht)
theorem aed{P:Program}{fn:Func}{tmps:Array Value}{t:Tmp}{v:Value}{w:World}(hr:fn.results=#[.tmp t])(h:tmps.getD t undef=v):(results fn tmps).run P w=.ok v w:=by
 rw[<-h];simp[results,hr]
theorem run_assign{P:Program}{a:Act}{o:Oper}{x:Operand}(w:World)(ho:o.op=.assign x):(execOp a.eval o).run P w=.ok (.value (a.eval x)) w:=by
 unfold execOp;simp only[ho]
 rfl
theorem St.after {X:Fx C all out fA rows} {k k':Nat} {M G:Nat→Prop} {Pr eC:Nat→Nat→Prop} {es:List End} {w w':World} (s:St X k M Pr es w) (hj:C.J k' (fun b=>(M b∨G b)∧¬ G b) eC w') (hG:∀ b,G b→¬ M b)
  (hs:∀b,M b\/G b->¬G b->w'.heap[b]?=w.heap[b]?) (hk:bf Pr eC w w'):St X k' (λb=>(M b\/G b)/\¬G b) eC es w':=by
 have Ip:∀b,M b->¬G b:=λb hb hg=>hG b hg hb
 have aZ:∀b,M b->w'.heap[b]?=w.heap[b]?:=λb hb=>hs b (.inl hb) (Ip b hb)
 obtain⟨v,ty,uv,h1,h2,h3,h4,h5⟩:=s.now;refine⟨hj,λb hb=>?_,λb h=>⟨⟨.inl (s.mi b h).1,Ip b (s.mi b h).1⟩,(s.mi b h).2.1,(aZ b (s.mi b h).1).trans (s.mi b h).2.2⟩,⟨v,ty,uv,(aZ _ h2).trans h1,⟨.inl h2,Ip _ h2⟩,?_,h4.mono (bf.of_eq λ_ _ h=>h.elim),λb hb=>⟨⟨.inl (h5 b hb).1,Ip b (h5 b hb).1⟩,(h5 b hb).2⟩⟩,s.f.mono hk λ_ _ h=>h,s.o.mono hk λ_ _ h=>h,s.e.mono (uZ (λb h=>aZ b (s.mi b h).1) hk)⟩
 .have sy:M b:=hb.1.resolve_right hb.2;have:=s.lt b sy;have h2:=aZ b sy;rw[aby this]at h2;exact(abb.1 h2).1
 .refine⟨h3.1,?_⟩
  rcases h3.2 with h|⟨gg,cap,cur,rfl,sD,Ag,rest⟩
  .exact .inl h
  .exact .inr ⟨gg,cap,cur,rfl,sD,(aZ gg (h5 gg rfl).1).trans Ag,rest⟩
theorem xz {P:Program} {ρ:Operand→Value} {o:Oper} {t:TypeId} {ps:Array (Nat×Operand)} (ho:o.op = .build t ps) (w:World) (N:Value→Prop)
  (h:∀v w',(execOp ρ o).run P w=.ok (.value v) w'->N v):match(execOp ρ o).run P w with|.ok (.value v) _=>N v|.ok _ _=>False|.halt _ _=>True:=by
 have key:∀r,(execOp ρ o).run P w=r->match r with|.ok (.value v) _=>N v|.ok _ _=>False|.halt _ _=>True:=by
  intro r hr;have h0:=hr;unfold execOp at hr;simp only[ho,abq]at hr
  cases hb:(Instr.build t (ps.map λ(i,x)=>(i,ρ x))).run P w with
  |ok v w'=>
   rw[hb]at hr
   have:r=.ok (.value v) w':=by rw[<-hr];rfl
   subst this;exact h v w' h0
  |halt x w'=>
   rw[hb]at hr
   have:r=.halt x w':=by rw[<-hr];rfl
   subst this;trivial
 exact key _ rfl
theorem qv{c:Value}(h:c.oneCell'=true):c.cells=#[c]:=by cases c<;>first|rfl|cases h
theorem J'{u v:Value}(hu:u.oneCell'=true)(hv:v.oneCell'=true):prog.built 39 [(0,u),(1,v)]=some #[u,v]:=by
 have e:∀u v:Value,prog.built 39 [(0,u),(1,v)]=Instr.fill (λx=>#[(0,1),(1,1)][x]?) #[.slice none 0 0,.slice none 0 0] [(0,u),(1,v)]:=by intro u v;kernel_rfl
 rw[e];simp[Instr.fill,qv hu,qv hv]
theorem KZ(es r:List End)(x:End)(m:Nat):lp es (x::r) m=ch (es++[x]) r m++lp es r m:=by
 cases m<;>rfl
theorem OB(es:List End)(m:Nat):ch es [] m=[es]:=by simp[ch]
theorem J_ (hG:au GI) (X:Fx C all out fA rows) (e_:all.length≤1000) (J2:rows≤1000) (jx:out.length≤1000) :
  ∀(d n:Nat)(es:List End)(k:Nat)(M:Nat->Prop)(Pr:Nat->Nat->Prop)(w:World)(tail:List AV),n+d=all.length->es.length<=n->St X k M Pr es w->
   xs.drop k=(ch es (all.drop n) (rows-es.length)).map (aW out)++tail->
   Calls prog 189 #[.int .i64 n,X.cA,X.cY,X.cO,.pointer (some ⟨X.bN,0,none⟩),X.cF,X.cR] w λe w'=>∃M' eC,
    (e=.returned (.bool true)/\St X (k+(ch es (all.drop n) (rows-es.length)).length) M' eC es w')\/(e=.returned (.bool false)/\C.X M' eC w'):=by
 intro d
 induction d using Nat.strongRecOn with
 |_ d ih=>
 intro n es k M Pr w tail eO mT st oF;refine(iD (ro:=none) (m:=0)).1 (adR func189 rfl trivial ?_)
 have fr:Fr X n { tmps:=#[.int .i64 n,X.cA,X.cY,X.cO,.pointer (some ⟨X.bN,0,none⟩),X.cF,X.cR]++Array.replicate (f189.ntmps-7) undef,defers:=[] }:=by
  refine⟨by simp[ntmps189],rfl,bJ _ _ 0 (by simp),bJ _ _ 1 (by simp),bJ _ _ 2 (by simp),bJ _ _ 3 (by simp),bJ _ _ 4 (by simp),bJ _ _ 5 (by simp),bJ _ _ 6 (by simp)⟩
 generalize hc:(λe w'=>∃M' eC,(e=Ending.returned (.bool true)/\St X (k+(ch es (all.drop n) (rows-es.length)).length) M' eC es w')\/(e=.returned (.bool false)/\C.X M' eC w'))=R
 have h9:∀(a:Act)(w:World),(AV.bl).aH=AV.bl/\RV (λ_ _=>True) bT w AV.bl (a.tmps.getD 9 undef):=λa w=>⟨rfl,.bl _⟩
 refine abf ?_;refine bD hG cH (ac:=ae.qa c189) (W:=W7) (by kernel_rfl) (by kernel_rfl) (by kernel_rfl) (C.gi st.j) (λ_ _=>True) (fF l all es out fA X.fv n .bl) fr.size fr.defers (st.eJ fr (h9 _ _)) (K:=λ_ _=>True) ?_ ?_
 .simp[c189,ae.qa,bB,bp,aF,bb,aG,aK]
 intro g S' H' a w1 hg R1 _ aZ;have fr:=fr.step R1.size (by rw[R1.defers,hg];rfl) aZ;have st:=st.grow (by have:=R1.below;rwa [R1.base]at this);clear aZ R1 hg g S' H';show Code.wpIn _ _ _ _ _ a w1;refine abf (abf ?_);refine bD hG cH (ac:=ae.qa c189.qb.qa) (W:=W7) (by kernel_rfl) (by kernel_rfl) (by kernel_rfl) (C.gi st.j) (λ_ _=>True) (fF l all es out fA X.fv n .bl) fr.size fr.defers (st.eJ fr (h9 _ _)) (K:=λS' _=>∃b,S' 13=.bool b/\(b=true↔n=all.length)) ?_ ?_
 .simp[c189,ae.qa,ae.qb,bB,bp,aF,bb,aG,aK,aO.S,aO.H,ev,ar,aU,fF,ck,AV.aH,eG,aJ];omega
 rintro g S' H' a w2 hg R1 ⟨b,hb,Yk⟩ aZ;have fr:=fr.step R1.size (by rw[R1.defers,hg];rfl) aZ;have st:=st.grow (by have:=R1.below;rwa [R1.base]at this);have ht:=R1.slot 13 (by decide) (λh=>h);rw[hb]at ht;have sC:=ht.dU;clear ht aZ;show Code.wpIn _ _ _ _ _ a w2;refine abS (t:=b) sC ?_
 cases b with
 |true=>
  have hn:n=all.length:=Yk.1 rfl
  have Rp:ch es (all.drop n) (rows-es.length)=[es]:=by rw[hn,ad2];exact OB _ _
  rw[Rp]at oF hc;simp only[abJ];refine abf ?_
  refine Mh hG cH (n:=53) (p:=6) (j:=5) (d:=19) (T:=[16,18]) (W:=W7) (l:=(c189.qb.qa.qb.qa.qa.dl).take 6) (by kernel_rfl) (by kernel_rfl) (by kernel_rfl) (by kernel_rfl) (by kernel_rfl) (by kernel_rfl) (C.gi st.j) (λ_ _=>True) (fF l all es out fA X.fv n .bl) (oj:=⟨some 19,.build 39 #[(0,.tmp 16),(1,.tmp 18)],39, "name.go:18",#[⟨2,.data⟩,⟨4,.data⟩],none⟩) ?_ rfl rfl
   (λa=>(a.tmps.getD 16 undef).oneCell'=true->(a.tmps.getD 18 undef).oneCell'=true->a.tmps.getD 19 undef=.agg #[a.tmps.getD 16 undef,a.tmps.getD 18 undef]) ?_ ?_ (by kernel_rfl) (by kernel_rfl) fr.size fr.defers (st.eJ fr (h9 _ _)) (K:=λS' _=>S' 14=.val (.func (.yield l) #[] #[])/\S' 16=.slice (if(ints out).isEmpty then .nil else .own 3) (ints out)/\S' 18=.slice (if(aJ es).isEmpty then .nil else .own 46) (aJ es)/\
    ∃o1 o2,S' 19=.agg [.slice o1 (ints out),.slice o2 (aJ es)]) ?_ ?_
  .rfl
  .intro a a' h1 h2 hN g16 g18;rw[h2 16 (by simp)]at g16⊢;rw[h2 18 (by simp)]at g18⊢;rw[h1];exact hN g16 g18
  .intro a w bn;refine xz rfl w _ ?_;intro v w' hr
   have xY:(a.put (some 19) v).tmps.getD 16 undef=a.tmps.getD 16 undef:=by simp[Act.put,abd]
   have Z9:(a.put (some 19) v).tmps.getD 18 undef=a.tmps.getD 18 undef:=by simp[Act.put,abd]
   have e19:(a.put (some 19) v).tmps.getD 19 undef=v:=by simp[Act.put,bn]
   show(((a.put (some 19) v).tmps.getD 16 undef).oneCell'=true->_->(a.put (some 19) v).tmps.getD 19 undef=_);rw[xY,Z9,e19];intro g16 g18;have hb:=ae4 (P:=prog) w 39 #[(0,a.tmps.getD 16 undef),(1,a.tmps.getD 18 undef)] _ (J' g16 g18);unfold execOp at hr;simp only[abq,Act.eval,abI,abA,abL]at hr;rw[hb]at hr;simp only[Result.andThen_ok,Sem.run_pure]at hr;cases hr
   rfl
  .simp[c189,ae.qa,ae.qb,ae.dl,fh,dW,bV,c_,aF,iz,aG,bb,aO.S,aO.H,ev,ar,aU,fF,ck,AV.aH,AV.vw,AV.cells,AV.storable,AV.cn,fz,iu,kE,iC,bG,bu];refine⟨rfl,by kernel_rfl,_,La hG _ (lY out) (by rw[cM];omega),by simp[dh],?_⟩;refine⟨rfl,by kernel_rfl,_,Ss hG _ (pk es) (by simp[aJ];omega),by simp[dh],?_⟩
   by_cases ho:ints out=[]<;>by_cases he:aJ es=[]<;>simp[ho,he,ar]
  .intro g' S' H' a w3 hg R3 ⟨hy,qg,h18,o1,o2,u_⟩ aZ hN
   have lg:Below w2.heap.size w2 w3:=by have:=R3.below;rwa [R3.base]at this
   have fr:=fr.step R3.size (by rw[R3.defers,hg];rfl) aZ;have Ng:=st.grow lg
   have MA:=(R3.slot 14 (by decide) (λh=>h))
   rw[hy]at MA;have MA:=MA.fR;obtain⟨i3,se,mM⟩:=bo (P:=prog) (t:=3) (s:=1) (by kernel_rfl);obtain⟨i116,zk,mO⟩:=bo (P:=prog) (t:=46) (s:=2) (by kernel_rfl);have Lz:=R3.wW (t:=16) (by decide) (e:=3) se (es:=ints out) qg (λx hx=>by obtain⟨k,_,rfl⟩:=abz.1 hx;exact⟨mM.symm,rfl,λc hc=>by simp[AV.cells]at hc;subst hc;rfl⟩) (λx hx c hc=>by obtain⟨k,_,rfl⟩:=abz.1 hx;simp[AV.cells]at hc;subst hc;rfl);have Jp:=R3.wW (t:=18) (by decide) (e:=46) zk (es:=aJ es) h18 (by rw[mO];exact p6 es) (wR es);rw[R3.base]at Lz Jp
   let G:Nat->Prop:=λb=>w2.heap.size<=b/\b<w3.heap.size
   have hj:C.J k (λb=>M b\/G b) Pr w3:=C.df st.j (mE.rr lg) λb hb=>by
    rcases hb with hb|hb
    .exact⟨Ng.lt b hb,.inl hb⟩
    .exact⟨hb.2,.inr hb.1⟩
   have CG:k<xs.length:=by
    have:=congrArg List.length oF;simp at this;omega
   have Ac:xs[k]=aW out es:=by
    have:=congrArg (·[0]?) oF;simp at this;rw[aa_ CG]at this;exact abv this
   have lM:∀{u:Value}{es:List AV}{p:Nat->Nat->Prop},RD p w3 (.slice .view es) u->u.oneCell'=true:=λh=>h.one rfl
   have u_:=hN (lM Lz) (lM Jp)
   have hx:RD (λb j=>Pr b j\/(G b/\j<g'.hi b)) w3 xs[k] (a.tmps.getD 19 undef):=by
    rw[Ac,u_];refine .agg _ _ rfl (λi hi=>?_) (λi hi dv=>?_)
    .match i,hi with
     |0,_=>rfl
     |1,_=>rfl
    .match i,hi with
     |0,_=>exact Lz.mono (bf.same λb j _ h=>.inr h)
     |1,_=>exact Jp.mono (bf.same λb j _ h=>.inr h)
   obtain⟨ff,tmps,Mu,bd,BZ,vc⟩:=C.round CG G g'.hi _ hj (λb hb=>.inr hb) hx;show wpOpsIn _ _ _ _ _ [6,7] a w3;refine HJ rfl rfl (by rfl) ?_ vc ?_
   .exact(ni (f:=.tmp 14) (x:=.tmp 19) w3 rfl rfl rfl MA).trans BZ
   .rintro e w4 ⟨HD,eC,G3,si⟩
    have kf:∀{k'},C.J k' (λb=>(M b\/G b)/\¬G b) eC w4->St X k' (λb=>(M b\/G b)/\¬G b) eC es w4:=λhj=>Ng.after hj (λb hg hm=>by have:=st.lt b hm;have:=hg.1;omega) HD G3
    obtain⟨b,rfl,hR⟩:∃b:Bool,e=.returned (.bool b)/\R (.returned (.bool b)) w4:=by
     rcases si with⟨rfl,dw⟩|⟨rfl,CB⟩
     .exact⟨true,rfl,by rw[<-hc];exact⟨_,_,.inl ⟨rfl,kf dw⟩⟩⟩
     .exact⟨false,rfl,by rw[<-hc];exact⟨_,_,.inr ⟨rfl,CB⟩⟩⟩
    refine⟨_,rfl,?_⟩
    have Bb:(a.put (some 20) (.bool b)).tmps.getD 20 undef=.bool b:=by simp[Act.put,fr.size]
    refine aT rfl rfl (by rfl) (v:=.bool b) (w':=w4) ((run_assign (x:=.tmp 20) w4 rfl).trans (congrArg (λv=>Result.ok (Next.value v) w4) Bb)) ?_;show Code.wpIn _ _ _ _ _ _ _;refine acU ⟨fr.defers,.bool b,?_,hR⟩
    have h8:((a.put (some 20) (.bool b)).put (some 8) (.bool b)).tmps.getD 8 undef=.bool b:=by simp[Act.put,fr.size]
    show(results f189 ((a.put (some 20) (.bool b)).put (some 8) (.bool b)).tmps).run prog w4=_;exact aed results189 h8
 |false=>
  have hn:n<all.length:=by
   have:¬n=all.length:=λh=>by have:=Yk.2 h;cases this
   omega
  simp only[abi,abw];refine acj ?_;show Code.wpIn _ _ _ _ _ a w2;refine abf (abf ?_);refine bD hG cH (ac:=ae.qa c189.qb.qb.qa) (W:=W7) (by kernel_rfl) (by kernel_rfl) (by kernel_rfl) (C.gi st.j) (λ_ _=>True) (fF l all es out fA X.fv n .bl) fr.size fr.defers (st.eJ fr (h9 _ _)) (K:=λS' _=>S' 9=.int .i64 n) ?_ ?_
  .simp[c189,ae.qa,ae.qb,bB,bp,aF,bb,aG,aK,aO.S,aO.H,ev,ar,aU,fF,ck,AV.aH,eG,aJ]
  rintro g S' H' a w3 hg R1 Ye aZ;have fr:=fr.step R1.size (by rw[R1.defers,hg];rfl) aZ;have st:=st.grow (by have:=R1.below;rwa [R1.base]at this);have DD:=R1.slot 9 (by decide) (λh=>h);rw[Ye]at DD;have PT:=DD.int_eq;clear DD aZ;show Code.wpIn _ _ _ _ _ a w3
  obtain⟨rem,Jz⟩:∃rem:Nat->List (List End),rem=λi=>if es.length<rows then lp es (all.drop i) (rows-es.length-1)else[]:=⟨_,rfl⟩
  have Rp:ch es (all.drop n) (rows-es.length)=rem n:=by
   have cC:all.drop n≠[]:=by intro h;have:=congrArg List.length h;simp at this;omega
   rw[Jz];unfold ch;rw[if_neg cC]
   by_cases aw:es.length<rows
   .simp only[if_pos aw]
    obtain⟨m,hm⟩:∃m,rows-es.length=m+1:=⟨rows-es.length-1,by omega⟩
    rw[hm];rfl
   .simp only[if_neg aw]
    have:rows-es.length=0:=by omega
    rw[this]
  rw[Rp]at oF hc
  refine acg (aea (λa w=>∃i k' M' eC,Fr X n a/\a.tmps.getD 9 undef=.int .i64 (i:Nat)/\n<=i/\i<=all.length/\St X k' M' eC es w/\xs.drop k'=(rem i).map (aW out)++tail/\k'+(rem i).length=k+(rem n).length)
   (λa _=>match a.tmps.getD 9 undef with|.int _ i=>all.length-i.toNat|_=>0) ⟨n,k,M,Pr,fr,PT,abg _,by omega,st,oF,rfl⟩ ?_)
  clear Ye PT R1 hg oF st fr;rintro a w ⟨i,k',M,Pr,fr,Y4,Gn,cU,st,oF,uQ⟩
  have h9':(AV.int .i64 (i:Int)).aH=.int .i64 (i:Int)/\RV (λ_ _=>True) bT w (.int .i64 (i:Int)) (a.tmps.getD 9 undef):=⟨rfl,by rw[Y4];exact .data _ _ (.int _ _)⟩
  refine abf (abf ?_);refine bD hG cH (ac:=ae.qa c189.qb.qb.qa.qb.qb.qb.qa) (W:=W7) (by kernel_rfl) (by kernel_rfl) (by kernel_rfl) (C.gi st.j) (λ_ _=>True) (fF l all es out fA X.fv n (.int .i64 (i:Int))) fr.size fr.defers (st.eJ fr h9') (K:=λS' _=>S' 9=.int .i64 i/\∃b,S' 33=.bool b/\(b=true↔i<all.length/\es.length<rows)) ?_ ?_
  .by_cases aw:i<all.length
   .have lj:(i:Int)<all.length:=by omega
    simp[c189,ae.qa,ae.qb,bB,bp,aF,bb,aG,aK,aO.S,aO.H,ev,ar,aU,fF,ck,AV.aH,eG,aJ,aw,X.f9,b0];omega
   .have lj:¬(i:Int)<all.length:=by omega
    simp[c189,ae.qa,ae.qb,bB,bp,aF,bb,aG,aK,aO.S,aO.H,ev,ar,aU,fF,ck,AV.aH,eG,aJ,aw,X.f9,b0]
  rintro g S' H' a' w' hg R1 ⟨Hz,b,hb,Xd⟩ aZ;have CZ:=fr.step R1.size (by rw[R1.defers,hg];rfl) aZ;have nq:=st.grow (by have:=R1.below;rwa [R1.base]at this);have DD:=R1.slot 9 (by decide) (λh=>h);rw[Hz]at DD;have P_:=DD.int_eq;have KB:=R1.slot 33 (by decide) (λh=>h);rw[hb]at KB;have Jc:=KB.dU;show Code.wpIn _ _ _ _ _ a' w';refine abS (t:=b) Jc ?_
  cases b with
  |false=>
   simp only[abi,abw];refine ac_ ?_
   have ju:¬(i<all.length/\es.length<rows):=λh=>by have:=Xd.2 h;cases this
   have RU:rem i=[]:=by
    rw[Jz]
    by_cases aw:es.length<rows
    .have:i=all.length:=by
      rcases acK i all.length with h|h
      .exact absurd ⟨h,aw⟩ ju
      .omega
     simp only[if_pos aw,this,ad2]
     rfl
    .simp only[if_neg aw]
   rw[RU]at uQ;simp only[Exit.then,Exit.inBlock,abJ];refine abf ?_;refine abx ?_;show wpOpsIn _ _ _ _ _ [0] a' w';refine aT rfl rfl (by rfl) (v:=.bool true) (w':=w') (run_assign (x:=.const (.bool true)) w' rfl) ?_;show Code.wpIn _ _ _ _ _ _ _;refine acU ⟨CZ.defers,.bool true,?_,?_⟩
   .have h8:(a'.put (some 8) (.bool true)).tmps.getD 8 undef=.bool true:=by simp[Act.put,CZ.size]
    show(results f189 (a'.put (some 8) (.bool true)).tmps).run prog w'=_;exact aed results189 h8
   .rw[<-hc];refine⟨M,Pr,.inl ⟨rfl,?_⟩⟩;rw[<-uQ];exact nq
  |true=>
   obtain⟨aw,hrw⟩:=Xd.1 rfl;simp only[abJ];refine acj ?_;show Code.wpIn _ _ _ _ _ a' w';clear KB Jc DD hb Hz R1 hg aZ;refine abf (acg (abf ?_));obtain⟨v,ty,uv,hN,YK,dn,te,SP⟩:=nq.now;obtain⟨i116,zk,mO⟩:=bo (P:=prog) (t:=46) (s:=2) (by kernel_rfl)
   have T1:(aJ es).length=es.length:=by simp[aJ]
   refine tB cH (n:=53) (ac:=ae.qa qH.qb.qa.qb) (by kernel_rfl) (by kernel_rfl) (by kernel_rfl) (W:=xS) (by kernel_rfl) (λb k=>X.MI b\/Pr b k)
    (λt=>match t with|1=>.ref [.slice .view (aJ all)]|4=>.box 4 0|9=>.int .i64 (i:Int)|_=>.bl) (nm:=4) (tp:=4) (es:=aJ es) (es':=aJ (es++[all[i]])) (by decide) rfl CZ.t4 CZ.size CZ.defers hN zk (by rw[mO,T1];exact dn) (by rw[mO];exact te.mono (bf.same λ_ _ _ h=>h.elim)) ?_ ?_ (by rw[mO];exact p6 _) (wR _) ?_
   .intro t ht;split
    .exact⟨rfl,.inr (by rw[CZ.t1];exact nq.Pq)⟩
    .exact⟨rfl,.inl ⟨rfl,CZ.t4⟩⟩
    .exact⟨rfl,.inr (by rw[P_];exact .data _ _ (.int _ _))⟩
    .exact⟨rfl,.inr (.bl _)⟩
   .have cC:¬(i:Int)<0:=by omega
    have qQ:es.length+1<1048576:=by omega
    cases z_:v.ownBlock with
    |none=>
     have he:es=[]:=by
      rcases dn.2 with⟨_,h⟩|⟨gg,cap,cur,rfl,_⟩
      .exact abN h
      .cases z_
     subst he;simp[c189,qH,ae.qa,ae.qb,bB,fh,dW,bV,c_,aF,iz,aG,bb,aO.S,aO.H,ev,ar,aU,ck,AV.aH,AV.vw,AV.cells,AV.storable,AV.cn,aK,nC,z_,HR.okB,bz,aJ,bm,aw,aM,bu,AV.cb,cC]
    |some bv=>
     simp[c189,qH,ae.qa,ae.qb,bB,fh,dW,bV,c_,aF,iz,aG,bb,aO.S,aO.H,ev,ar,aU,ck,AV.aH,AV.vw,AV.cells,AV.storable,AV.cn,aK,nC,z_,HR.okB,bz,aJ,bm,aw,aM,bu,AV.cb,cC,qQ]
   .intro a2 w2 v' Eh Z_ yr KY gD Xi Al Ld fL FQ;have M9:=CZ.step yr KY (dY.weaken gD λt ht=>by simp[W7]at ht;simp[xS];omega);have zZ:a2.tmps.getD 9 undef=.int .i64 (i:Int):=(gD 9 rfl).trans P_
    have Ov:∀b,(b=X.bN\/v.ownBlock=some b)->M b/\¬X.MI b:=by
     rintro b (rfl|hb)
     .exact⟨YK,λh=>(nq.mi _ h).2.1 rfl⟩
     .exact SP b hb
    have iq:bf Pr Pr w' w2:=bf.oJ λb k aw hp=>fL.block b aw λhm=>C.apart nq.j b k (Ov b hm).1 hp
    have IY:∀b,X.MI b->w2.heap[b]?=w'.heap[b]?:=λb h=>fL.block b (nq.lt b (nq.mi b h).1) λhm=>(Ov b hm).2 h
    have Wq:(aJ (es++[all[i]])).length=(es++[all[i]]).length:=by simp[aJ]
    have TQ:St X k' (λb=>M b\/(w'.heap.size<=b/\b<w2.heap.size)) Pr (es++[all[i]]) w2:=by
     refine⟨C.df nq.j (M':=λb=>M b\/(w'.heap.size<=b/\b<w2.heap.size)) ⟨fL.os,fL.tape,fL.output,fL.size,λb hb hm=>fL.block b hb λh=>hm (Ov b h).1⟩ λb hb=>?_,λb hb=>?_,λb h=>⟨.inl (nq.mi b h).1,(nq.mi b h).2.1,(IY b h).trans (nq.mi b h).2.2⟩,⟨v',Eh,Z_,Xi,.inl YK,?_,?_,λb hb=>?_⟩,nq.f.mono iq λ_ _ h=>h,nq.o.mono iq λ_ _ h=>h,nq.e.mono (uZ IY iq)⟩
     .rcases hb with hb|hb
      .exact⟨abR (nq.lt b hb) fL.size,.inl hb⟩
      .exact⟨hb.2,.inr hb.1⟩
     .rcases hb with hb|hb
      .exact abR (nq.lt b hb) fL.size
      .exact hb.2
     .rw[mO,Wq]at Al;exact Al
     .rw[mO]at Ld;exact Ld
     .rcases FQ b hb with h|h
      .exact⟨.inl (SP b h).1,(SP b h).2⟩
      .refine⟨.inr ⟨h,(Al.lt b hb).2⟩,λhm=>?_⟩;have:=nq.lt b (nq.mi b hm).1;omega
    clear Ov iq IY FQ Al Ld Xi fL;show Code.wpIn _ _ _ _ _ a2 w2
    have Y7:(AV.int .i64 (i:Int)).aH=.int .i64 (i:Int)/\RV (λ_ _=>True) bT w2 (.int .i64 (i:Int)) (a2.tmps.getD 9 undef):=⟨rfl,by rw[zZ];exact .data _ _ (.int _ _)⟩
    refine abf (abf ?_);refine jf hG (p:=3) (l2:=[3,4]) rfl (by kernel_rfl) (by kernel_rfl) (l:=(qH.qb.qa.qb.qb.qa.qa.dl).take 3) (by kernel_rfl) (by decide) (W:=xS) (by kernel_rfl) (C.gi TQ.j) (λ_ _=>True) (fF l all (es++[all[i]]) out fA X.fv n (.int .i64 (i:Int))) M9.size M9.defers (TQ.eJ M9 Y7) (K:=λS' _=>S' 43=.val X.fv/\S' 45=.int .i64 ((i+1:Nat):Int)) ?_ ?_
    .have oD:IntKind.i64.wrap ((i:Int)+1)=i+1:=aS (by omega);simp[c189,qH,ae.qa,ae.qb,ae.dl,bp,aF,bb,aG,aO.S,aO.H,ev,ar,aU,fF,ck,AV.aH,eG,oD]
    rintro g S' H' a3 w3 hg R1 ⟨h43,KE⟩ zx;have Lj:=M9.step R1.size (by rw[R1.defers,hg];rfl) (dY.weaken zx λt ht=>by simp[W7]at ht;simp[xS];omega);have Ng:=TQ.grow (by have:=R1.below;rwa [R1.base]at this);have h93:a3.tmps.getD 9 undef=.int .i64 (i:Int):=(zx 9 rfl).trans zZ;have vt:=R1.slot 43 (by decide) (λh=>h);rw[h43]at vt;have vt:=vt.fR;have Ni:=R1.slot 45 (by decide) (λh=>h);rw[KE]at Ni;have Ni:=Ni.int_eq;clear R1 hg zx;have Tt:all.drop i=all[i]::all.drop (i+1):=acM aw
    have RU:rem i=ch (es++[all[i]]) (all.drop (i+1)) (rows-(es++[all[i]]).length)++rem (i+1):=by
     rw[Jz];simp only[if_pos hrw,Tt,KZ]
     congr 2
     simp;omega
    rw[RU]at oF uQ;rw[abK,ab8]at oF;have eR:=ih (all.length-(i+1)) (by omega) (i+1) (es++[all[i]]) k' _ Pr w3 _ (by omega) (by simp;omega) Ng oF;refine fg rfl rfl (by rfl) (od (f:=.tmp 43) (x:=.tmp 45) w3 rfl rfl rfl vt (by kernel_rfl)) (R:=λe w'=>∃M' eC,(e=.returned (.bool true)/\St X (k'+(ch (es++[all[i]]) (all.drop (i+1)) (rows-(es++[all[i]]).length)).length) M' eC (es++[all[i]]) w')\/(e=.returned (.bool false)/\C.X M' eC w')) ?_ ?_
    .have : #[a3.eval (.tmp 45)] ++ #[X.cA,X.cY,X.cO,.pointer (some ⟨X.bN,0,none⟩),X.cF,X.cR] = #[.int .i64 ((i+1:Nat):Int),X.cA,X.cY,X.cO,.pointer (some ⟨X.bN,0,none⟩),X.cF,X.cR]:=by
      show #[a3.tmps.getD 45 undef]++_=_;rw[Ni];rfl
     rw[this];exact eR
    rintro e w4 ⟨M4,DP,si⟩
    obtain⟨b,rfl⟩:∃b:Bool,e=.returned (.bool b):=by rcases si with⟨rfl,_⟩|⟨rfl,_⟩<;>exact⟨_,rfl⟩
    refine⟨_,rfl,?_⟩
    have Z5:(a3.put (some 46) (.bool b)).tmps.getD 46 undef=.bool b:=by simp[Act.put,Lj.size]
    refine aT rfl rfl (by rfl) (v:=.bool !b) (w':=w4) (GK (x:=.tmp 46) w4 rfl Z5) ?_;show Code.wpIn _ _ _ _ _ ((a3.put (some 46) (.bool b)).put (some 47) (.bool !b)) w4
    obtain⟨a4,j6⟩:∃a4,(a3.put (some 46) (.bool b)).put (some 47) (.bool !b)=a4:=⟨_,rfl⟩
    rw[j6]
    have dT:∀(a:Act)(d t:Nat)(c:Value),t≠d->(a.put (some d) c).tmps.getD t undef=a.tmps.getD t undef:=λa d t c h=>by
     simp[Act.put,abd (abO h)]
    have HD:dY xS a3 a4:=λt ht=>by
     have:t<36:=by simp[xS]at ht;omega
     rw[<-j6,dT _ _ _ _ (by omega),dT _ _ _ _ (by omega)]
    have Bu:a4.tmps.size=53:=by rw[<-j6];simp[Act.put,Lj.size]
    have YN:a4.defers=[]:=by rw[<-j6];exact Lj.defers
    have G2:=Lj.step Bu YN (dY.weaken HD λt ht=>by simp[W7]at ht;simp[xS];omega);have h94:a4.tmps.getD 9 undef=.int .i64 (i:Int):=(HD 9 rfl).trans h93
    have h47:a4.tmps.getD 47 undef=.bool !b:=by rw[<-j6];simp[Act.put,Lj.size]
    refine abS (t:=!b) h47 ?_
    cases b with
    |false=>
     have hX:C.X M4 DP w4:=by
      rcases si with⟨h,_⟩|⟨_,h⟩
      .cases h
      .exact h
     simp only[adZ,abJ];refine abf ?_;refine abx ?_;show wpOpsIn _ _ _ _ _ [0] a4 w4;refine aT rfl rfl (by rfl) (v:=.bool false) (w':=w4) (run_assign (x:=.const (.bool false)) w4 rfl) ?_;show Code.wpIn _ _ _ _ _ _ _;refine acU ⟨G2.defers,.bool false,?_,?_⟩
     .have h8:(a4.put (some 8) (.bool false)).tmps.getD 8 undef=.bool false:=by simp[Act.put,G2.size]
      show(results f189 (a4.put (some 8) (.bool false)).tmps).run prog w4=_;exact aed results189 h8
     .rw[<-hc];exact⟨M4,DP,.inr ⟨rfl,hX⟩⟩
    |true=>
     have sZ:St X (k'+(ch (es++[all[i]]) (all.drop (i+1)) (rows-(es++[all[i]]).length)).length) M4 DP (es++[all[i]]) w4:=by
      rcases si with⟨_,h⟩|⟨h,_⟩
      .exact h
      .cases h
     simp only[Bool.not_true,abi,abw];refine acj ?_;show Code.wpIn _ _ _ _ _ a4 w4;obtain⟨v4,QR,Oz,X_,Jf,K0,YU,YS⟩:=sZ.now
     have Rl:Oz.length=(es.length+1)*2:=by have:=K0.1;simpa using this
     obtain⟨i29,Wa,WA⟩:=bo (P:=prog) (t:=37) (s:=1) (by kernel_rfl);refine abx ?_;show wpOpsIn _ _ _ _ _ [0,1,2,3,4,5] a4 w4
     refine Gd (P:=prog) (n:=53) (T:=37) (el:=46) (p:=4) (t1:=48) (t2:=49) (t3:=50) (t4:=51) (t5:=52) (bN:=X.bN) (i:=i116) (iT:=i29) (v:=v4) (ty:=QR) (k:=es.length) (xs:=Oz.take (es.length*2)) (last:=Oz.drop (es.length*2))
      rfl rfl rfl rfl rfl rfl ⟨rfl,rfl,rfl⟩ ⟨rfl,rfl,rfl⟩ ⟨rfl,rfl,rfl⟩ ⟨rfl,rfl,rfl⟩ ⟨rfl,rfl,rfl⟩ ⟨rfl,rfl,rfl⟩ rfl rfl rfl (by kernel_rfl) Wa WA zk (by decide) G2.size (by decide) G2.t4 X_ (by rw[acs,mO];simpa using K0) (by rw[mO,abT,Rl];omega) (by omega) ?_
     intro a5 v5 yE Xv Xg Nv XY AE
     have Ag:∀b,v5.ownBlock=some b->M4 b/\¬X.MI b:=λb hb=>YS b (by rw[<-Nv];exact hb)
     have j8:∀b,b≠X.bN->(w4.setRow X.bN #[v5]).heap[b]?=w4.heap[b]?:=λb hb=>ab9 w4 X.bN b #[v5] hb
     have za:(w4.setRow X.bN #[v5]).heap.size=w4.heap.size:=by simp
     have My:bf DP DP w4 (w4.setRow X.bN #[v5]):=bf.oJ λb k _ hp=>j8 b (by rintro rfl;exact C.apart sZ.j _ k Jf hp)
     have Ce:St X (k'+(ch (es++[all[i]]) (all.drop (i+1)) (rows-(es++[all[i]]).length)).length) M4 DP es (w4.setRow X.bN #[v5]):=by
      refine⟨C.df sZ.j ⟨rfl,rfl,rfl,by rw[za];exact abg _,λb _ hm=>j8 b (by rintro rfl;exact hm Jf)⟩ λb hb=>⟨by rw[za];exact sZ.lt b hb,.inl hb⟩,λb hb=>by rw[za];exact sZ.lt b hb,λb h=>⟨(sZ.mi b h).1,(sZ.mi b h).2.1,(j8 b (sZ.mi b h).2.1).trans (sZ.mi b h).2.2⟩,
       ⟨v5,QR,Oz.take (es.length*2),acG w4 X.bN _ #[v5] QR (0,0) X_,Jf,?_,?_,Ag⟩,sZ.f.mono My λ_ _ h=>h,sZ.o.mono My λ_ _ h=>h,sZ.e.mono (uZ (λb h=>j8 b (sZ.mi b h).2.1) My)⟩
      .rw[mO]at AE;refine⟨AE.1,?_⟩
       rcases AE.2 with h|⟨gg,cap,cur,rfl,sD,Xu,rest⟩
       .exact .inl h
       .exact .inr ⟨gg,cap,cur,rfl,sD,(j8 gg (by omega)).trans Xu,rest⟩
      .refine⟨p6 es,λj hj k hk=>?_⟩
       have DC:j<es.length:=by simpa[aJ]using hj
       have dw:j<(aJ (es++[all[i]])).length:=by simp[aJ];omega
       have hZ:(aJ (es++[all[i]]))[j]=(aJ es)[j]:=by
        simp only[aJ,abK,abA,abL];exact abM (by simpa using DC)
       obtain⟨u,u1,u2⟩:=YU.2 j dw k (by rw[hZ];exact hk);refine⟨u,?_,?_⟩
       .have iq:k < 2:=by
         have:=p6 es _ (aba hj);rw[this.1]at hk;exact hk
        rw[adl (by omega)];exact u1
       .simp only[hZ]at u2;exact u2.mono (bf.of_eq λ_ _ h=>h.elim)
     have J9:dY xS a4 a5:=λt ht=>by
      have:t<36:=by simp[xS]at ht;omega
      exact Xg t (by omega) (by omega) (by omega) (by omega) (by omega)
     have AM:=G2.step yE (Xv.trans G2.defers) (dY.weaken J9 λt ht=>by simp[W7]at ht;simp[xS];omega);have h95:a5.tmps.getD 9 undef=.int .i64 (i:Int):=(J9 9 rfl).trans h94;clear j8 Ag My AE J9 Xg za;generalize w4.setRow X.bN #[v5]=w5 at Ce⊢;simp only[Exit.then,Exit.inBlock]
     have VZ:(AV.int .i64 (i:Int)).aH=.int .i64 (i:Int)/\RV (λ_ _=>True) bT w5 (.int .i64 (i:Int)) (a5.tmps.getD 9 undef):=⟨rfl,by rw[h95];exact .data _ _ (.int _ _)⟩
     refine bD hG cH (ac:=ae.qb qH.qb) (W:=W7) (by kernel_rfl) (by kernel_rfl) (by kernel_rfl) (C.gi Ce.j) (λ_ _=>True) (fF l all es out fA X.fv n (.int .i64 (i:Int))) AM.size AM.defers (Ce.eJ AM VZ) (K:=λS' _=>S' 9=.int .i64 ((i+1:Nat):Int)) ?_ ?_
     .have oD:IntKind.i64.wrap ((i:Int)+1)=i+1:=aS (by omega);simp[c189,qH,ae.qa,ae.qb,bB,bp,aF,bb,aG,aK,aO.S,aO.H,ev,ar,aU,fF,AV.aH,eG,oD]
     intro g S' H' a6 w6 hg R1 QK p_;have B2:=AM.step R1.size (by rw[R1.defers,hg];rfl) p_;have E2:=Ce.grow (by have:=R1.below;rwa [R1.base]at this);have I6:=R1.slot 9 (by decide) (λh=>h);rw[QK]at I6;have I6:=I6.int_eq;refine⟨⟨i+1,_,M4,DP,B2,I6,by omega,by omega,E2,?_,?_⟩,?_⟩
     .rw[<-ado,oF,adI (by simp)];simp
     .have e:=@abu _ (ch (es++[all[i]]) (all.drop (i+1)) (rows-(es++[all[i]]).length)) (rem (i+1));omega
     .rw[I6,Y4];show all.length-((i+1:Nat):Int).toNat<all.length-(i:Int).toNat;rw[Int.toNat_natCast,Int.toNat_natCast];omega
end Go.Proofs.Tryz
namespace Go.Proofs.Tryz
open Go Go.AL Go.RowKit Go.Proofs Go.Proofs.Tram
variable{GI:World->Prop}
theorem nt{vs:Array Value}(h:vs.size=1):∃v,vs=#[v]:=⟨vs[0],by
 apply acw
 .simpa using h
 .intro i h1 h2
  have:i=0:=by simpa using h2
  subst this;rfl⟩
theorem gv{P:Program}{t:TypeId}(h:(P.underlying t).map eQ=some false):∃d,P.underlying t=some d/\eQ d=false:=by
 cases hi:P.underlying t with
 |none=>rw[hi]at h;cases h
 |some i=>rw[hi]at h;exact⟨i,rfl,abv h⟩
theorem mf:AV.cn∘AV.aH=AV.cn:=by
 funext v
 cases v<;>try rfl
 rename_i o es;cases o<;>rfl
theorem RD.Ch{Pr:Nat->Nat->Prop}{w:World}{o:Ow}{es:List AV}{c:Value}(h:RD Pr w (.slice o es) c):RD Pr w (.slice .view es) c:=by
 cases h with
 |jI=>exact .jI _
 |slice _ _ b off cap size cs fp hn bn h1 hc hr=>exact .slice _ _ b off cap size cs fp (λh=>by cases h) bn h1 hc hr
 |ky _ a=>exact .ky _ a
theorem Rq (hG:au GI) {oE:Ow} {all:List End} {out:List Int} {fA:List AV} {rows:Nat} (e_:all.length≤1000) (J2:rows≤1000) (jx:out.length≤1000) (te:fA.length=11) (VX:∀ x∈fA.take 10,x.storable=true∧x.one=true∧x.aH=x) (h9:fA[9]? = some (.int .i64 rows))
  (Sr:AC prog GI 188 [.agg ((fA.take 10).map AV.cn),vI out] (.ret (.slice oE (aJ all)))):
  tg prog GI 187 [.ref fA,.ref [vI out]] ((ch [] all rows).map (aW out)):=by
 intro l C w Pr bI hJ hlen hr
 obtain⟨cF,cO,rfl⟩:∃cF cO,bI=#[cF,cO]:=by
  have:bI.size=2:=by simpa using hlen.symm
  exact⟨bI[0],bI[1],by
   apply acw
   .simpa using this
   .intro i h1 h2
    match i,h2 with
    |0,_=>rfl
    |1,_=>rfl⟩
 have TP:=hr 0 (by simp) (by simp);have Tr:=hr 1 (by simp) (by simp);simp only[List.getElem_cons_zero,List.getElem_cons_succ,List.getElem_toArray]at TP Tr;refine(iD (ro:=none) (m:=0)).1 (adR func187 rfl trivial ?_);have cD:=C.gi hJ
 have R:Rel prog w 14 bQ _ (AL.start [.val (.func (.yield l) #[] #[]),.ref fA,.ref [vI out]]) (λ_=>none) { tmps:=(#[.func (.yield l) #[] #[]]++#[cF,cO])++Array.replicate (f187.ntmps-(#[Value.func (.yield l) #[] #[]]++#[cF,cO]).size) undef,defers:=[] } w:=Rel.begin (args:=[.val (.func (.yield l) #[] #[]),.ref fA,.ref [vI out]]) (old:=Pr) ntmps187 (by simp) rfl (λi h h'=>by
  match i,h with
  |0,_=>exact .data _ _ (.val _ rfl)
  |1,_=>exact TP
  |2,_=>exact Tr)
 have e1:({ tmps:=(#[Value.func (.yield l) #[] #[]]++#[cF,cO])++Array.replicate (f187.ntmps-(#[Value.func (.yield l) #[] #[]]++#[cF,cO]).size) undef,defers:=[] }:Act).tmps.getD 1 undef=cF:=bJ _ _ 1 (by simp);have e2:({ tmps:=(#[Value.func (.yield l) #[] #[]]++#[cF,cO])++Array.replicate (f187.ntmps-(#[Value.func (.yield l) #[] #[]]++#[cF,cO]).size) undef,defers:=[] }:Act).tmps.getD 2 undef=cO:=bJ _ _ 2 (by simp)
 have W3:∃W:Nat->Bool,W=λt=>decide (3<=t):=⟨_,rfl⟩
 refine abf ?_;refine fY R hG cD cH (ac:=ae.qa c187) (W:=λt=>decide (3<=t)) (by kernel_rfl) (by kernel_rfl) (by kernel_rfl) (λ_ h=>h) (K:=λS' H'=>S' 1=.ref fA/\S' 2=.ref [vI out]/\S' 3=.box 3 0/\H' 3=some [.val (.func (.yield l) #[] #[])]) ?_ ?_
 .simp[c187,ae.qa,bB,bp,aF,bb,aK,ev,AL.start,AV.aH,AV.cells,AV.storable,ar,b_,vI]
 rintro g1 S1 H1 a1 w1 Be R1 ⟨s1,s2,s3,h3⟩ uT;refine abf ?_;refine fY R1 hG cD cH (ac:=ae.qa c187.qb) (W:=λt=>decide (3<=t)) (by kernel_rfl) (by kernel_rfl) (by kernel_rfl) (by rw[Be];exact λ_ h=>h) (K:=λS' H'=>S' 3=.box 3 0/\S' 4=.box 4 0/\H' 3=some [.val (.func (.yield l) #[] #[])]/\H' 4=some [.slice oE (aJ all)]) ?_ ?_
 .simp[c187,ae.qa,ae.qb,bB,bp,aF,bb,aK,ev,aG,aO.S,aO.H,aU,ck,s1,s2,s3,h3,ar,AV.aH,vI,te,kE]
  have e8:fz H1 (.agg (List.take 10 (List.map AV.aH fA)))=.agg ((fA.take 10).map AV.cn):=by
   simp only[fz,iu,AV.vw,<-adH,ack,mf]
  have e9:fz H1 (.slice .view (ints out))=vI out:=rfl;rw[e8,e9];refine⟨by kernel_rfl,_,Sr,by simp[dh],?_⟩
  cases oE<;>simp[iC,b_,AV.cells,AV.storable,HR.okB,bz,bu,AV.cb,ar,AV.aH,s3,h3]
 rintro g2 S2 H2 a2 w2 Jb R2 ⟨t3,t4,k3,k4⟩ tG;have iP:g2.base=w.heap.size:=R2.base
 have lg:Below w.heap.size w w2:=by have:=R2.below;rwa [iP]at this
 obtain⟨bY,hY⟩:∃b,g2.al 3=some b/\a2.tmps.getD 3 undef=.pointer (some ⟨b,0,none⟩):=by
  have h:=R2.slot 3 (by decide) (λh=>h);rw[t3]at h;generalize a2.tmps.getD 3 undef=c at h
  cases h with
  |data _ _ h=>cases h
  |box _ _ b h=>exact⟨b,h,rfl⟩
 obtain⟨bA,hA⟩:∃b,g2.al 4=some b/\a2.tmps.getD 4 undef=.pointer (some ⟨b,0,none⟩):=by
  have h:=R2.slot 4 (by decide) (λh=>h);rw[t4]at h;generalize a2.tmps.getD 4 undef=c at h
  cases h with
  |data _ _ h=>cases h
  |box _ _ b h=>exact⟨b,h,rfl⟩
 obtain⟨csY,vsY,tyY,q1,q2,q3,q4,q5,q6,q7,q8,q9⟩:=R2.box 3 bY hY.1;rw[k3]at q1;cases q1
 have ZX:vsY=#[.func (.yield l) #[] #[]]:=by
  have h0:=q7 0 (by simp) (by rw[<-q6];simp);simp only[List.getElem_cons_zero]at h0;apply acw
  .rw[<-q6];rfl
  .intro i h1 h2
   have:i=0:=by simpa using h2
   subst this;exact(RV.data (al:=bT) _ _ h0).fR
 subst ZX;obtain⟨csA,vsA,tyA,r1,r2,r3,r4,r5,r6,r7,r8,r9⟩:=R2.box 4 bA hA.1;rw[k4]at r1;cases r1;obtain⟨xU,rfl⟩:=nt (vs:=vsA) (by rw[<-r6];rfl);have Gr:=r7 0 (by simp) (by simp);have hO0:=r8 0 (by simp) (by simp);simp only[List.getElem_cons_zero,List.getElem_toArray]at Gr hO0
 have oZ:RD (λb k=>(b<w.heap.size/\Pr b k)\/(w.heap.size<=b/\b<w2.heap.size)) w2 (.slice .view (aJ all)) xU:=by
  have hd:=Gr.aH
  have hd:RD g2.Pr w2 (.slice .view (aJ all)) xU:=by
   have e:RD g2.Pr w2 (.slice oE (aJ all)) xU:=Gr;exact RD.Ch e
  refine hd.mono (bf.of_eq λb k hp=>⟨?_,rfl⟩)
  rcases hp with⟨h1,h2⟩|⟨h1,h2⟩
  .rw[Jb,Be]at h2;exact .inl ⟨by rw[<-iP];exact h1,h2⟩
  .refine .inr ⟨by rw[<-iP];exact h1,?_⟩
   by_cases aw:b<w2.heap.size
   .exact aw
   .rw[(R2.fresh b (by omega)).1]at h2;omega
 have hbY:w.heap.size<=bY/\bY<w2.heap.size:=⟨by rw[<-iP];exact q2,(abb.1 q3).1⟩
 have hbA:w.heap.size<=bA/\bA<w2.heap.size:=⟨by rw[<-iP];exact r2,(abb.1 r3).1⟩
 have e1:a2.tmps.getD 1 undef=cF:=((uT.trans tG) 1 rfl).trans e1;have e2:a2.tmps.getD 2 undef=cO:=((uT.trans tG) 2 rfl).trans e2;have yr:a2.tmps.size=14:=R2.size
 have KY:a2.defers=[]:=by rw[R2.defers,Jb,Be];rfl
 obtain⟨bN,LL⟩:∃bN,w2.heap.size=bN:=⟨_,rfl⟩
 have dT:∀(a:Act)(d t:Nat)(c:Value),t≠d->(a.put (some d) c).tmps.getD t undef=a.tmps.getD t undef:=λa d t c h=>by
  simp[Act.put,abd (abO h)]
 have gz:∀(a:Act)(d:Nat)(c:Value),a.tmps.size=14->d<14->(a.put (some d) c).tmps.getD d undef=c:=λa d c h hd=>by
  simp[Act.put,h,hd]
 have jC:∀(a:Act)(d:Option Nat)(c:Value),(a.put d c).tmps.size=a.tmps.size:=λa d c=>by cases d<;>simp[Act.put]
 have pB:∀(a:Act)(d:Option Nat)(c:Value),(a.put d c).defers=a.defers:=λa d c=>by cases d<;>rfl
 refine abf (abx ?_);show wpOpsIn _ _ _ _ _ [0] a2 w2;refine aT rfl rfl (by rfl) (je (t:=37) (z:=.slice none 0 0) rfl (by kernel_rfl)) ?_;show Code.wpIn _ _ _ _ _ (a2.put (some 5) (.pointer (some ⟨w2.heap.size,0,none⟩))) (w2.alloc (.cells #[.slice none 0 0] 37))
 obtain⟨a3,qf⟩:∃a3,a2.put (some 5) (.pointer (some ⟨w2.heap.size,0,none⟩))=a3:=⟨_,rfl⟩
 obtain⟨w3,oP⟩:∃w3,w2.alloc (.cells #[.slice none 0 0] 37)=w3:=⟨_,rfl⟩
 have tJ:w3.heap.size=bN+1:=by rw[<-oP,<-LL];simp
 have FN:w3.heap[bN]?=some (.cells #[.slice none 0 0] 37 (0,0)):=by rw[<-oP,<-LL];exact abY w2 _
 have Bt:∀b,b<bN->w3.heap[b]?=w2.heap[b]?:=λb hb=>by rw[<-oP];exact aen _ _ _ (by omega)
 rw[qf,oP];refine abf (abx ?_);show wpOpsIn _ _ _ _ _ [0] a3 w3;refine aT rfl rfl (by rfl) (je (t:=76) (z:=.nilFunc) rfl (by kernel_rfl)) ?_;show Code.wpIn _ _ _ _ _ (a3.put (some 6) (.pointer (some ⟨w3.heap.size,0,none⟩))) (w3.alloc (.cells #[.nilFunc] 76))
 obtain⟨a4,j6⟩:∃a4,a3.put (some 6) (.pointer (some ⟨w3.heap.size,0,none⟩))=a4:=⟨_,rfl⟩
 obtain⟨w4,j7⟩:∃w4,w3.alloc (.cells #[.nilFunc] 76)=w4:=⟨_,rfl⟩
 have FL:w4.heap.size=bN+2:=by rw[<-j7];simp[tJ]
 have yq:w4.heap[bN+1]?=some (.cells #[.nilFunc] 76 (0,0)):=by rw[<-j7,<-tJ];exact abY w3 _
 have vv:∀b,b<bN+1->w4.heap[b]?=w3.heap[b]?:=λb hb=>by rw[<-j7];exact aen _ _ _ (by omega)
 rw[j6,j7]
 have z3:a3.tmps.size=14:=by rw[<-qf,jC];exact yr
 have z4:a4.tmps.size=14:=by rw[<-j6,jC];exact z3
 have u5:a4.tmps.getD 5 undef=.pointer (some ⟨bN,0,none⟩):=by rw[<-j6,dT _ _ _ _ (by decide),<-qf,gz _ _ _ yr (by decide),LL]
 have u6:a4.tmps.getD 6 undef=.pointer (some ⟨bN+1,0,none⟩):=by rw[<-j6,gz _ _ _ z3 (by decide),tJ]
 have u:∀t,t<5->a4.tmps.getD t undef=a2.tmps.getD t undef:=λt ht=>by rw[<-j6,dT _ _ _ _ (by omega),<-qf,dT _ _ _ _ (by omega)]
 refine abf (abx ?_);show wpOpsIn _ _ _ _ _ [0,1] a4 w4;refine aT rfl rfl (by rfl) (ld (fn:=.func 189) (c:=#[.tmp 4,.tmp 3,.tmp 2,.tmp 5,.tmp 1,.tmp 6]) rfl) ?_
 have fp:(#[Operand.tmp 4,.tmp 3,.tmp 2,.tmp 5,.tmp 1,.tmp 6].map a4.eval)=#[.pointer (some ⟨bA,0,none⟩),.pointer (some ⟨bY,0,none⟩),cO,.pointer (some ⟨bN,0,none⟩),cF,.pointer (some ⟨bN+1,0,none⟩)]:=by
  simp only[abI,abA,abL,Act.eval];rw[u 4 (by omega),u 3 (by omega),u 2 (by omega),u5,u 1 (by omega),u6,hA.2,hY.2,e2,e1]
 rw[fp]
 obtain⟨fv,kH⟩:∃fv:Value,fv=.func (.func 189) #[] #[.pointer (some ⟨bA,0,none⟩),.pointer (some ⟨bY,0,none⟩),cO,.pointer (some ⟨bN,0,none⟩),cF,.pointer (some ⟨bN+1,0,none⟩)]:=⟨_,rfl⟩
 rw[<-kH]
 obtain⟨a5,ou⟩:∃a5,a4.put (some 11) fv=a5:=⟨_,rfl⟩
 show wpOpsIn _ _ _ _ _ [1] (a4.put (some 11) fv) w4;rw[ou]
 have z5:a5.tmps.size=14:=by rw[<-ou,jC];exact z4
 have OC:a5.tmps.getD 11 undef=fv:=by rw[<-ou];exact gz _ _ _ z4 (by decide)
 have YO:a5.tmps.getD 6 undef=.pointer (some ⟨bN+1,0,none⟩):=by rw[<-ou,dT _ _ _ _ (by decide)];exact u6
 obtain⟨i33,Ji,I5⟩:=bo (P:=prog) (t:=76) (s:=1) (by kernel_rfl);refine dk rfl rfl (by rfl) (fQ (x:=.tmp 6) (y:=.tmp 11) rfl YO Ji I5 yq OC (by rw[kH];rfl)) ?_
 obtain⟨w5,EO⟩:∃w5,w4.setRow (bN+1) #[fv]=w5:=⟨_,rfl⟩
 show Code.wpIn _ _ _ _ _ (a5.put none undef) (w4.setRow (bN+1) #[fv]);rw[EO]
 have aaI:w5.heap.size=bN+2:=by rw[<-EO];simpa using FL
 have Pd:w5.heap[bN+1]?=some (.cells #[fv] 76 (0,0)):=by rw[<-EO];exact acG w4 _ _ _ _ _ yq
 have P7:∀b,b<bN+1->w5.heap[b]?=w4.heap[b]?:=λb hb=>by rw[<-EO];exact ab9 w4 _ _ _ (by omega)
 have Cm:∀b,b<bN->w5.heap[b]?=w2.heap[b]?:=λb hb=>by rw[P7 b (by omega),vv b (by omega),Bt b hb]
 refine abx ?_;show wpOpsIn _ _ _ _ _ [0,1] a5 w5;obtain⟨d33,XC,Sk⟩:=gv (P:=prog) (t:=76) (by kernel_rfl);refine aT rfl rfl (by rfl) (km (x:=.tmp 6) (v:=fv) rfl YO XC Sk (by simp[World.cell?,Pd])) ?_;show wpOpsIn _ _ _ _ _ [1] (a5.put (some 12) fv) w5
 obtain⟨a6,NU⟩:∃a6,a5.put (some 12) fv=a6:=⟨_,rfl⟩
 rw[NU]
 have z6:a6.tmps.size=14:=by rw[<-NU,jC];exact z5
 have u12:a6.tmps.getD 12 undef=fv:=by rw[<-NU];exact gz _ _ _ z5 (by decide)
 have KD:a6.defers=[]:=by rw[<-NU,pB,<-ou,pB,<-j6,pB,<-qf,pB];exact KY
 have hc6:∀{P':Nat->Nat->Prop},(∀b k,P' b k->b<bN)->bf P' P' w2 w5:=λh=>bf.of_eq λb k hp=>⟨hp,Cm b (h b k hp)⟩
 let X:Fx C all out fA rows:={
  bN:=bN
  cA:=.pointer (some ⟨bA,0,none⟩)
  cY:=.pointer (some ⟨bY,0,none⟩)
  cO:=cO
  cF:=cF
  cR:=.pointer (some ⟨bN+1,0,none⟩)
  MI:=λb=>w.heap.size<=b/\b<bN+2/\b≠bN
  wI:=w5
  bA:=bA
  xU:=xU
  Gr:=rfl
  NV:=⟨⟨hbA.1,by omega,by omega⟩,by omega⟩
  YD:=⟨tyA,(Cm bA (by omega)).trans r3⟩
  hY:=by
   refine .data _ _ (.ref _ _ _ (λ_=>.func (.yield l) #[] #[]) (λi hi=>?_) (λk hk=>⟨?_,?_⟩) (λk hk=>?_))
   .have:i=0:=by simpa using hi
    subst this;rfl
   .exact⟨hbY.1,by omega,by omega⟩
   .have:k=0:=by simpa using hk
    subst this;have:w5.heap[bY]?=some (.cells #[.func (.yield l) #[] #[]] tyY (0,0)):=(Cm bY (by omega)).trans q3;simp[World.cell?,this]
   .have:k=0:=by simpa using hk
    subst this;exact .val _ rfl
  hR:=by
   refine .data _ _ (.ref _ _ _ (λ_=>fv) (λi hi=>?_) (λk hk=>⟨?_,?_⟩) (λk hk=>?_))
   .have:i=0:=by simpa using hi
    subst this;rfl
   .exact⟨by omega,by omega,by omega⟩
   .have:k=0:=by simpa using hk
    subst this;simp[World.cell?,Pd]
   .have:k=0:=by simpa using hk
    subst this;rw[kH];exact .val _ rfl
  f9:=h9 }
 have fL:mE (λ_=>False) w w5:=by
  refine⟨?_,?_,?_,by omega,λb hb _=>(Cm b (by omega)).trans (lg.block b hb)⟩
  .rw[<-EO,<-j7,<-oP];exact lg.os
  .rw[<-EO,<-j7,<-oP];exact lg.tape
  .rw[<-EO,<-j7,<-oP];exact lg.output
 have ml:bf Pr Pr w w5:=bf.oJ λb k hb _=>fL.block b hb (λh=>h)
 have st:St X 0 (λb=>w.heap.size<=b/\b<bN+2) Pr [] w5:=by
  refine⟨C.df hJ fL λb hb=>⟨by omega,.inr hb.1⟩,λb hb=>by omega,λb hb=>⟨⟨hb.1,hb.2.1⟩,hb.2.2,rfl⟩,⟨.slice none 0 0,37,[],?_,?_,⟨rfl,.inl ⟨rfl,rfl⟩⟩,⟨λx hx=>(by cases hx),λj hj=>(by simp[aJ]at hj)⟩,λb hb=>(by cases hb)⟩,TP.mono ml λ_ _ h=>h,Tr.mono ml λ_ _ h=>h,oZ.mono (bf.of_eq λb k hp=>?_)⟩
  .show w5.heap[bN]?=_;rw[P7 bN (by omega),vv bN (by omega)];exact FN
  .show w.heap.size<=bN/\bN<bN+2;exact⟨by rw[<-LL];exact lg.size,by omega⟩
  .have bn:=lg.size
   have aw:b<bN:=by
    rcases hp with h|h<;>omega
   refine⟨⟨aw,?_⟩,Cm b aw⟩;rcases hp with h|h
   .exact .inr h.2
   .exact .inl (show w.heap.size<=b/\b<bN+2/\b≠bN from⟨h.1,by omega,by omega⟩)
 have JV:=J_ hG X e_ J2 jx all.length 0 [] 0 _ Pr w5 [] (by omega) (abg _) st (by simp)
 have zc:(#[a6.eval (.const (.int .i64 0))]++#[.pointer (some ⟨bA,0,none⟩),.pointer (some ⟨bY,0,none⟩),cO,.pointer (some ⟨bN,0,none⟩),cF,.pointer (some ⟨bN+1,0,none⟩)])=#[.int .i64 ((0:Nat):Int),X.cA,X.cY,X.cO,.pointer (some ⟨X.bN,0,none⟩),X.cF,X.cR]:=by
  simp[Act.eval,X]
 rw[<-zc]at JV;have Xm:a6.eval (.tmp 12)=.func (.func 189) #[] #[.pointer (some ⟨bA,0,none⟩),.pointer (some ⟨bY,0,none⟩),cO,.pointer (some ⟨bN,0,none⟩),cF,.pointer (some ⟨bN+1,0,none⟩)]:=u12.trans kH;refine fg rfl rfl (by rfl) (od (f:=.tmp 12) (x:=.const (.int .i64 0)) w5 rfl rfl rfl Xm (by kernel_rfl)) JV ?_;rintro e w6 ⟨M',eC,si⟩
 obtain⟨b,rfl,hv⟩:∃b:Bool,e=.returned (.bool b)/\(C.J ((ch [] all rows).map (aW out)).length M' eC w6\/C.X M' eC w6):=by
  rcases si with⟨rfl,h⟩|⟨rfl,h⟩
  .refine⟨true,rfl,.inl ?_⟩;have:=h.j;simpa using this
  .exact⟨false,rfl,.inr h⟩
 refine⟨_,rfl,?_⟩;show bodyPost prog f187 _ .normal (a6.put (some 13) (.bool b)) w6;refine⟨by rw[pB];exact KD,.tuple #[],?_,.tuple #[],_,_,rfl,hv⟩;simp[results,results187]
def Hs:TypeDesc→Bool
  |.interface _=>true
  |_=>false
theorem AQ {P:Program} {t:TypeId} (h:(P.underlying t).map Hs=some true):∃ ms,P.underlying t=some (.interface ms):=by
  cases hi:P.underlying t with
  |none=>rw[hi]at h;cases h
  |some d =>
    rw[hi]at h
    cases d<;>first|(cases h;done)|exact⟨_,rfl⟩
theorem JY (T:Nat) (v:Value) (w:World):(binOp .eql 20 (.iface T v) .nilIface).run prog w = .ok (.bool false) w:=by
  have:(Op.equal 20 (.iface T v) .nilIface).run prog w = .ok false w:=by
    obtain⟨ms,hm⟩:=AQ (P:=prog) (t:=20) (by kernel_rfl);unfold Op.equal Op.maxDepth Op.equalIn;simp[abD hm]
  simp[binOp,this]
theorem nX {a:Act} {o:Oper} {T:Nat} {v:Value} {x:Operand} (w:World) (ho:o.op = .binOp .eql 20 x (.const .nilIface) 20) (hx:a.eval x = .iface T v):(execOp a.eval o).run prog w = .ok (.value (.bool false)) w:=by
  have h0:(eqGuard .eql 20 x (.const .nilIface) (.iface T v) .nilIface).run prog w=.ok () w:=jD _ _ _ _ _ _ rfl;have hc:a.eval (.const .nilIface)=.nilIface:=rfl;simp[execOp,ho,hx,hc,h0,JY]
theorem Bc {bE:Nat} {u:Value} {ty:TypeId} (w:World) (hE:w.heap[bE]? = some (.cells #[u] ty (0,0))) (n:Int) :
    CallsD prog 204 #[.pointer (some ⟨bE,0,none⟩)] (.panicking [{ v := .iface 242 (.agg #[.int .i64 n]),recovered:=false }]) w fun e u' w' =>
      e=.returned (.tuple #[])/\u'=.panicking [{ v:=.iface 242 (.agg #[.int .i64 n]),recovered:=true }]/\∃w1,Below w.heap.size w w1/\w'=w1.setRow bE #[.int .i64 5]:=by
  refine ac7 func204 rfl λvn cs hu=>?_
  apply aek;apply adD;simp[wpOpsS,go_sem,recoverD,hu,ntmps204,Exit.thenS];refine adP ?_;refine(eL (m:=0)).1 ?_;refine fD (λa=>a.tmps.size=14/\a.defers=[]/\a.tmps.getD 0 undef=.pointer (some ⟨bE,0,none⟩)/\a.tmps.getD 5 undef=.iface 242 (.agg #[.int .i64 n])) ⟨by simp,rfl,by simp,by simp⟩ ?_;rintro a ⟨bn,dN,h0,h5⟩;have aw:=(abb.1 hE).1;refine acg (abf (abx ?_));show wpOpsIn _ _ _ _ _ [0] a w;refine aT rfl rfl (by rfl) (nX (x:=.tmp 5) w rfl h5) ?_;show Code.wpIn _ _ _ _ _ (a.put (some 7) (.bool false)) w
  have h7:(a.put (some 7) (.bool false)).tmps.getD 7 undef=.bool false:=by simp[Act.put,bn]
  refine abS (t:=false) h7 ?_;simp only[abi,abw];refine fD (λa=>a.tmps.size=14/\a.defers=[]/\a.tmps.getD 0 undef=.pointer (some ⟨bE,0,none⟩)/\a.tmps.getD 5 undef=.iface 242 (.agg #[.int .i64 n])) ⟨by simp[Act.put,bn],dN,by simpa[Act.put,abd]using h0,by simpa[Act.put,abd]using h5⟩ ?_;clear h7 h5 h0 dN bn a;rintro a ⟨bn,dN,h0,h5⟩
  have hS:∀ (a:Act) (w:World),a.tmps.getD 5 undef = .iface 242 (.agg #[.int .i64 n])→∀ t,t < 14→((fun t=>if t=5 then AV.iface 242 (.agg [.int .i64 n]) else AV.bl:an) t).aH=(fun t=>if t=5 then AV.iface 242 (.agg [.int .i64 n]) else AV.bl:an) t ∧
      RV (λ_ _=>True) bT w ((λt=>if t=5 then AV.iface 242 (.agg [.int .i64 n])else AV.bl:an) t) (a.tmps.getD t undef):=by
    intro a w h5 t ht
    by_cases h:t=5
    . subst h
      rw[h5];refine⟨rfl,.data _ _ (.iface _ _ _ (.agg _ _ rfl (λi hi=>?_) (λi hi dv=>?_)))⟩
      . have:i=0:=by simpa using hi
        subst this;rfl
      . have:i=0:=by simpa using hi
        subst this;exact .int _ _
    . simp only[h,abw];exact⟨rfl,.bl _⟩
  refine abf ?_;refine bD (GI:=λ_=>True) (λ_ _ _ _=>trivial) cH (ac:=ae.qa c204.qb.qb.qb.qb) (W:=λt=>decide (8<=t)) (by kernel_rfl) (by kernel_rfl) (by kernel_rfl) trivial (λ_ _=>True) _ bn dN (hS a w h5) (K:=λS' _=>S' 9=.bool true/\S' 10=.agg [.int .i64 n]) ?_ ?_
  . simp[c204,ae.qa,ae.qb,bB,bp,aF,bb,aG,aK,aO.S,aO.H,ev,ar,aU,AV.aH]
  rintro g S' H' a' w' hg R1 ⟨h9,nw⟩ aZ;have t9:=R1.slot 9 (by decide) (λh=>h);rw[h9]at t9;have t9:=t9.dU;have t10:=R1.slot 10 (by decide) (λh=>h);rw[nw]at t10
  have b1:Below w.heap.size w w':=by have:=R1.below;rwa [R1.base]at this
  show Code.wpIn _ _ _ _ _ a' w';refine abS (t:=true) t9 ?_;simp only[abJ];refine abf ?_;refine fY R1 (GI:=λ_=>True) (λ_ _ _ _=>trivial) trivial cH (ac:=ae.qa c204.qb.qb.qb.qb.qb.qa) (W:=λt=>decide (1<=t)) (by kernel_rfl) (by kernel_rfl) (by kernel_rfl) (by rw[hg];exact λ_ h=>h) (K:=λ_ _=>True) ?_ ?_
  . simp[c204,ae.qa,ae.qb,bB,bp,aF,bb,aG,aK,aO.S,aO.H,ev,ar,aU,AV.aH,nw,b_,HR.okB,AV.cells,AV.storable,bu,AV.cb,bz]
  rintro g2 S2 H2 a2 w2 l4 R2 _ gD
  have b2:Below w.heap.size w w2:=by have:=R2.below;rwa [R2.base]at this
  have e0:a2.tmps.getD 0 undef=.pointer (some ⟨bE,0,none⟩):=(gD 0 rfl).trans ((aZ 0 rfl).trans h0);have zn:w2.heap[bE]?=some (.cells #[u] ty (0,0)):=(b2.block bE aw).trans hE;obtain⟨i36,nr,nn⟩:=bo (P:=prog) (t:=34) (s:=1) (by kernel_rfl);show Code.wpIn _ _ _ _ _ a2 w2;refine abx ?_;show wpOpsIn _ _ _ _ _ [0] a2 w2;refine dk rfl rfl (by rfl) (fQ (x:=.tmp 0) (y:=.const (.int .i64 5)) (v:=.int .i64 5) rfl e0 nr nn zn rfl rfl) ?_;refine⟨by show a2.defers=[];rw[R2.defers,l4,hg];rfl,_,rfl,.tuple #[],?_,rfl,rfl,w2,b2,rfl⟩;simp[results,results204]
theorem BJ {bE:Nat} {u:Value} {ty:TypeId} (w:World) (hE:w.heap[bE]? = some (.cells #[u] ty (0,0))) (n:List UInt8) :
    CallsD prog 204 #[.pointer (some ⟨bE,0,none⟩)] (.panicking [{ v := .iface 253 (.agg #[.string ⟨n.toArray⟩]),recovered:=false }]) w fun e u' w' =>
      e=.returned (.tuple #[])/\u'=.panicking [{ v:=.iface 253 (.agg #[.string ⟨n.toArray⟩]),recovered:=true }]/\∃w1,Below w.heap.size w w1/\w'=w1.setRow bE #[.int .i64 4]:=by
  refine ac7 func204 rfl λvn cs hu=>?_
  apply aek;apply adD;simp[wpOpsS,go_sem,recoverD,hu,ntmps204,Exit.thenS];refine adP ?_;refine(eL (m:=0)).1 ?_;refine fD (λa=>a.tmps.size=14/\a.defers=[]/\a.tmps.getD 0 undef=.pointer (some ⟨bE,0,none⟩)/\a.tmps.getD 5 undef=.iface 253 (.agg #[.string ⟨n.toArray⟩])) ⟨by simp,rfl,by simp,by simp⟩ ?_;rintro a ⟨bn,dN,h0,h5⟩;have aw:=(abb.1 hE).1;refine acg (abf (abx ?_));show wpOpsIn _ _ _ _ _ [0] a w;refine aT rfl rfl (by rfl) (nX (x:=.tmp 5) w rfl h5) ?_;show Code.wpIn _ _ _ _ _ (a.put (some 7) (.bool false)) w
  have h7:(a.put (some 7) (.bool false)).tmps.getD 7 undef=.bool false:=by simp[Act.put,bn]
  refine abS (t:=false) h7 ?_;simp only[abi,abw];refine fD (λa=>a.tmps.size=14/\a.defers=[]/\a.tmps.getD 0 undef=.pointer (some ⟨bE,0,none⟩)/\a.tmps.getD 5 undef=.iface 253 (.agg #[.string ⟨n.toArray⟩])) ⟨by simp[Act.put,bn],dN,by simpa[Act.put,abd]using h0,by simpa[Act.put,abd]using h5⟩ ?_;clear h7 h5 h0 dN bn a;rintro a ⟨bn,dN,h0,h5⟩
  have hS:∀ (a:Act) (w:World),a.tmps.getD 5 undef = .iface 253 (.agg #[.string ⟨n.toArray⟩])→∀ t,t < 14→((fun t=>if t=5 then AV.iface 253 (.agg [.str n]) else AV.bl:an) t).aH=(fun t=>if t=5 then AV.iface 253 (.agg [.str n]) else AV.bl:an) t ∧
      RV (λ_ _=>True) bT w ((λt=>if t=5 then AV.iface 253 (.agg [.str n])else AV.bl:an) t) (a.tmps.getD t undef):=by
    intro a w h5 t ht
    by_cases h:t=5
    . subst h
      rw[h5];refine⟨rfl,.data _ _ (.iface _ _ _ (.agg _ _ rfl (λi hi=>?_) (λi hi dv=>?_)))⟩
      . have:i=0:=by simpa using hi
        subst this;rfl
      . have:i=0:=by simpa using hi
        subst this;exact .str _
    . simp only[h,abw];exact⟨rfl,.bl _⟩
  refine abf ?_;refine bD (GI:=λ_=>True) (λ_ _ _ _=>trivial) cH (ac:=ae.qa c204.qb.qb.qb.qb) (W:=λt=>decide (8<=t)) (by kernel_rfl) (by kernel_rfl) (by kernel_rfl) trivial (λ_ _=>True) _ bn dN (hS a w h5) (K:=λS' _=>S' 9=.bool false/\S' 5=.iface 253 (.agg [.str n])) ?_ ?_
  . simp[c204,ae.qa,ae.qb,bB,bp,aF,bb,aG,aK,aO.S,aO.H,ev,ar,aU,AV.aH]
  rintro g0 S0 H0 a0 Tj Aj R0 ⟨BQ,Ry⟩ Aa;have t90:=R0.slot 9 (by decide) (λh=>h);rw[BQ]at t90;have t90:=t90.dU;show Code.wpIn _ _ _ _ _ a0 Tj;refine abS (t:=false) t90 ?_;simp only[abi,abw];refine abf ?_;refine fY R0 (GI:=λ_=>True) (λ_ _ _ _=>trivial) trivial cH (ac:=ae.qa c204.qb.qb.qb.qb.qb.qb) (W:=λt=>decide (8<=t)) (by kernel_rfl) (by kernel_rfl) (by kernel_rfl) (by rw[Aj];exact λ_ h=>h) (K:=λS' _=>S' 12=.bool true/\S' 13=.agg [.str n]) ?_ ?_
  . simp[c204,ae.qa,ae.qb,bB,bp,aF,bb,aG,aK,aO.S,aO.H,ev,ar,aU,AV.aH,Ry]
  rintro g S' H' a' w' hg R1 ⟨h9,nw⟩ zl;have aZ:=Aa.trans zl;rw[Aj]at hg;have t9:=R1.slot 12 (by decide) (λh=>h);rw[h9]at t9;have t9:=t9.dU;have t10:=R1.slot 13 (by decide) (λh=>h);rw[nw]at t10
  have b1:Below w.heap.size w w':=by have:=R1.below;rwa [R1.base]at this
  show Code.wpIn _ _ _ _ _ a' w';refine abS (t:=true) t9 ?_;simp only[abJ];refine abf ?_;refine fY R1 (GI:=λ_=>True) (λ_ _ _ _=>trivial) trivial cH (ac:=ae.qa c204.qb.qb.qb.qb.qb.qb.qb.qa) (W:=λt=>decide (1<=t)) (by kernel_rfl) (by kernel_rfl) (by kernel_rfl) (by rw[hg];exact λ_ h=>h) (K:=λ_ _=>True) ?_ ?_
  . simp[c204,ae.qa,ae.qb,bB,bp,aF,bb,aG,aK,aO.S,aO.H,ev,ar,aU,AV.aH,nw,b_,HR.okB,AV.cells,AV.storable,bu,AV.cb,bz]
  rintro g2 S2 H2 a2 w2 l4 R2 _ gD
  have b2:Below w.heap.size w w2:=by have:=R2.below;rwa [R2.base]at this
  have e0:a2.tmps.getD 0 undef=.pointer (some ⟨bE,0,none⟩):=(gD 0 rfl).trans ((aZ 0 rfl).trans h0);have zn:w2.heap[bE]?=some (.cells #[u] ty (0,0)):=(b2.block bE aw).trans hE;obtain⟨i36,nr,nn⟩:=bo (P:=prog) (t:=34) (s:=1) (by kernel_rfl);show Code.wpIn _ _ _ _ _ a2 w2;refine abx ?_;show wpOpsIn _ _ _ _ _ [0] a2 w2;refine dk rfl rfl (by rfl) (fQ (x:=.tmp 0) (y:=.const (.int .i64 4)) (v:=.int .i64 4) rfl e0 nr nn zn rfl rfl) ?_;refine⟨by show a2.defers=[];rw[R2.defers,l4,hg];rfl,_,rfl,.tuple #[],?_,rfl,rfl,w2,b2,rfl⟩;simp[results,results204]
theorem Cy (p:Addr) (w:World) :
    CallsD prog 204 #[.pointer (some p)] .returning w λe u' w'=>e=.returned (.tuple #[])/\u'=.returning/\w'=w:=by
  refine ac7 func204 rfl λvn cs hu=>?_
  apply aek;apply adD;simp[wpOpsS,go_sem,recoverD,hu,ntmps204,Exit.thenS];refine adP ?_
  go_wp2
  cases vn
  simp_all[bodyPostS,results,results204]
theorem tN {P:Program} {a:Act} {o:Oper} {cl:Call} {f:Operand} {k:Nat} {cap:Array Value} (w:World) (ho:o.op = .call cl) (hc:cl.callee = .value f) (ha:cl.args = #[]) (hf:a.eval f = .func (.func k) #[] cap) (hk:dL P k=true) :
    (execOp a.eval o).run P w=.ok (.enter k cap) w:=by
  unfold execOp;simp[ho,eI hc,hf,Deferred.ofValue,invoke,ha,fW hk]
theorem run_move {P:Program} {a:Act} {o:Oper} {x:Operand} (w:World) (ho:o.op = .move x):(execOp a.eval o).run P w = .ok (.value (a.eval x)) w:=by
  unfold execOp;simp only[ho]
  rfl
theorem uU{w:World}{b:Nat}{v u:Value}{ty:TypeId}(h:w.heap[b]?=some (.cells #[u] ty (0,0))):(w.setRow b #[v]).heap[b]?=some (.cells #[v] ty (0,0)):=acG w b _ _ _ _ h
theorem F1 {a:Act} {w:World} {b:Nat} {v:Value} {ty:TypeId} (h2:a.tmps.getD 2 undef = .pointer (some ⟨b,0,none⟩)) (h:w.heap[b]? = some (.cells #[v] ty (0,0))):(results f170 a.tmps).run prog w = .ok v w:=by
  obtain⟨d,Dj,Ai⟩:=gv (P:=prog) (t:=34) (by kernel_rfl)
  have ot:(isAgg 34).run prog w = .ok false w:=by
    unfold isAgg;rw[abq,abD Dj w]
    cases d<;>simp_all[eQ]
  have hl:(loadVar 34 ⟨b,0,none⟩).run prog w = .ok v w:=by
    simp[loadVar,abq,ot,World.cell?,h]
  have hr:f170.results=#[.cell 2 34]:=rfl
  have tZ:a.tmps[2]?.getD undef=.pointer (some ⟨b,0,none⟩):=by rw[<-h2];simp
  simp[results,hr,tZ,asAddr,hl]
theorem pA {k:Nat} {us:Array Value} {w:World} {R1 R:Ending→World→Prop} (mU:dL prog k=true) (hc:Calls prog k us (w.alloc (.cells #[.int .i64 0] 34)) R1)
    (h:∀ e w2,R1 e w2→w.heap.size < w2.heap.size∧(∃ u ty,w2.heap[w.heap.size]? = some (.cells #[u] ty (0,0))) ∧
      ((∃c,e=.returned c/\R (.returned (.int .i64 0)) (w2.setRow w.heap.size #[.int .i64 0]))\/
       (∃n,e=.panicked [{ v:=.iface 242 (.agg #[.int .i64 n]),recovered:=false }]/\∀w3,Below w2.heap.size w2 w3->R (.returned (.int .i64 5)) (w3.setRow w.heap.size #[.int .i64 5]))\/
       (∃s:List UInt8,e=.panicked [{ v:=.iface 253 (.agg #[.string ⟨s.toArray⟩]),recovered:=false }]/\∀w3,Below w2.heap.size w2 w3->R (.returned (.int .i64 4)) (w3.setRow w.heap.size #[.int .i64 4])))):
    Calls prog 170 #[.func (.func k) #[] us] w R:=by
  refine aeH func170 rfl ?_;refine(eL (m:=0)).1 ?_;refine fD (λa=>a.tmps.size=6/\a.defers=[]/\a.tmps.getD 0 undef=.func (.func k) #[] us) ⟨by simp[ntmps170],rfl,bJ _ _ 0 (by simp)⟩ ?_;rintro a ⟨bn,dN,h0⟩
  obtain⟨bE,Ed⟩:∃bE,w.heap.size=bE:=⟨_,rfl⟩
  have dT:∀ (a:Act) (d t:Nat) (c:Value),t≠d→(a.put (some d) c).tmps.getD t undef=a.tmps.getD t undef:=fun a d t c h=>by
    simp[Act.put,abd (abO h)]
  have gz:∀ (a:Act) (d:Nat) (c:Value),a.tmps.size=6→d < 6→(a.put (some d) c).tmps.getD d undef=c:=fun a d c h hd=>by
    simp[Act.put,h,hd]
  have jC:∀(a:Act)(d:Option Nat)(c:Value),(a.put d c).tmps.size=a.tmps.size:=λa d c=>by cases d<;>simp[Act.put]
  refine abf (abx ?_);show wpOpsIn _ _ _ _ _ [0] a w;refine aT rfl rfl (by rfl) (je (t:=34) (z:=.int .i64 0) rfl (by kernel_rfl)) ?_;show Code.wpIn _ _ _ _ _ (a.put (some 2) (.pointer (some ⟨w.heap.size,0,none⟩))) (w.alloc (.cells #[.int .i64 0] 34));rw[Ed]at h;simp only[Ed]
  obtain⟨w1,lq⟩:∃w1,w.alloc (.cells #[.int .i64 0] 34)=w1:=⟨_,rfl⟩
  rw[lq]at hc⊢;refine fD (λa=>a.tmps.size=6/\a.defers=[]/\a.tmps.getD 0 undef=.func (.func k) #[] us/\a.tmps.getD 2 undef=.pointer (some ⟨bE,0,none⟩)) ⟨by rw[jC];exact bn,dN,by rw[dT _ _ _ _ (by decide)];exact h0,gz _ _ _ bn (by decide)⟩ ?_;clear h0 dN bn a;rintro a ⟨bn,dN,h0,h2⟩;refine abf (abx ?_);show wpOpsIn _ _ _ _ _ [0,1] a w1;refine aT rfl rfl (by rfl) (ld (fn:=.func 204) (c:=#[.tmp 2]) rfl) ?_
  have fp:(#[Operand.tmp 2].map a.eval) = #[.pointer (some ⟨bE,0,none⟩)]:=by
    simp only[abI,abA,abL,Act.eval];rw[h2]
  rw[fp];show wpOpsIn _ _ _ _ _ [1] (a.put (some 3) (.func (.func 204) #[] #[.pointer (some ⟨bE,0,none⟩)])) w1
  obtain⟨a2,gG⟩:∃a2,a.put (some 3) (.func (.func 204) #[] #[.pointer (some ⟨bE,0,none⟩)])=a2:=⟨_,rfl⟩
  rw[gG]
  have z2:a2.tmps.size=6:=by rw[<-gG,jC];exact bn
  have u3:a2.tmps.getD 3 undef=.func (.func 204) #[] #[.pointer (some ⟨bE,0,none⟩)]:=by rw[<-gG];exact gz _ _ _ bn (by decide)
  have u0:a2.tmps.getD 0 undef=.func (.func k) #[] us:=by rw[<-gG,dT _ _ _ _ (by decide)];exact h0
  have u2:a2.tmps.getD 2 undef=.pointer (some ⟨bE,0,none⟩):=by rw[<-gG,dT _ _ _ _ (by decide)];exact h2
  have ud:a2.defers=[]:=by rw[<-gG];exact dN
  refine xh rfl rfl (d:={ target:=.fn (.func 204) #[.pointer (some ⟨bE,0,none⟩)],args:=#[] }) (w':=w1) ?_ ?_
  . unfold execOp
    simp[eI,Deferred.ofValue,Act.eval,u3]
  have JQ:∀ (w:World),(invoke (.fn (.func 204) #[.pointer (some ⟨bE,0,none⟩)]) #[]).run prog w = .ok (.enter 204 #[.pointer (some ⟨bE,0,none⟩)]) w:=fun w=>by
    simp[invoke,fW (P:=prog) (f:=204) (by kernel_rfl)]
  show Code.wpIn _ _ _ _ _ { a2 with defers:={ target:=.fn (.func 204) #[.pointer (some ⟨bE,0,none⟩)],args:=#[] }::a2.defers } w1;refine fD (λa=>a.tmps.size=6/\a.defers=[{ target:=.fn (.func 204) #[.pointer (some ⟨bE,0,none⟩)],args:=#[] }]/\a.tmps.getD 0 undef=.func (.func k) #[] us/\a.tmps.getD 2 undef=.pointer (some ⟨bE,0,none⟩)) ⟨z2,by show _::a2.defers=_;rw[ud],u0,u2⟩ ?_;clear u0 u2 u3 ud z2 gG a2 h0 h2 dN bn fp a;rintro a ⟨bn,dN,h0,h2⟩;refine abf (abx ?_);show wpOpsIn _ _ _ _ _ [0,1] a w1;refine aT rfl rfl (by rfl) (run_move (x:=.tmp 0) w1 rfl) ?_;have e0:a.eval (.tmp 0)=.func (.func k) #[] us:=h0;rw[e0];show wpOpsIn _ _ _ _ _ [1] (a.put (some 4) (.func (.func k) #[] us)) w1
  obtain⟨a2,gG⟩:∃a2,a.put (some 4) (.func (.func k) #[] us)=a2:=⟨_,rfl⟩
  rw[gG]
  have z2:a2.tmps.size=6:=by rw[<-gG,jC];exact bn
  have u4:a2.eval (.tmp 4)=.func (.func k) #[] us:=by show a2.tmps.getD 4 undef=_;rw[<-gG];exact gz _ _ _ bn (by decide)
  have u2:a2.tmps.getD 2 undef=.pointer (some ⟨bE,0,none⟩):=by rw[<-gG,dT _ _ _ _ (by decide)];exact h2
  have ud:a2.defers=[{ target:=.fn (.func 204) #[.pointer (some ⟨bE,0,none⟩)],args:=#[] }]:=by rw[<-gG];exact dN
  refine rn rfl rfl (by rfl) (tN (f:=.tmp 4) w1 rfl rfl rfl u4 mU) hc ?_;intro e w2 he;obtain⟨aw,⟨uE,QB,hE⟩,qM⟩:=h e w2 he
  have wD:∀ {args:Array Value} {u:FrameMode} {w:World} {R R':Ending→FrameMode→World→Prop},CallsD prog 204 args u w R→(∀ e u w,R e u w→R' e u w)→CallsD prog 204 args u w R':=fun h hr c cs hu =>
    let⟨e,u',w',fr,r,rest⟩:=h c cs hu;⟨e,u',w',fr,hr _ _ _ r,rest⟩
  have rP:∀ (p:PanicEntry) (v:Value) (hv:CallsD prog 204 #[.pointer (some ⟨bE,0,none⟩)] (.panicking [p]) w2 fun e u' w'=>e = .returned (.tuple #[])∧u' = .panicking [{ p with recovered:=true }]∧∃ w1,Below w2.heap.size w2 w1∧w'=w1.setRow bE #[v]),
      p.goexit=false->(∀w3,Below w2.heap.size w2 w3->R (.returned v) (w3.setRow bE #[v]))->Leaves prog f170 a2.tmps R a2.defers (.panicking [p]) w2:=by
    intro p v hv mD hR;rw[ud];refine aee (by simp) (JQ w2) (wD hv ?_);rintro e u' w' ⟨rfl,rfl,w3,oN,rfl⟩;have QH:w3.heap[bE]?=some (.cells #[uE] QB (0,0)):=(oN.block bE aw).trans hE;show Leaves prog f170 a2.tmps R [] .returning (w3.setRow bE #[v]);exact⟨v,F1 u2 (uU QH),hR w3 oN⟩
  rcases qM with⟨c,rfl,hR⟩|⟨n,rfl,hR⟩|⟨s,rfl,hR⟩
  . show Code.wpIn _ _ _ _ _ (a2.put (some 5) c) w2
    have IW:(a2.put (some 5) c).tmps.getD 2 undef=.pointer (some ⟨bE,0,none⟩):=by rw[dT _ _ _ _ (by decide)];exact u2
    refine abf (abx ?_);show wpOpsIn _ _ _ _ _ [0] (a2.put (some 5) c) w2;obtain⟨i36,nr,nn⟩:=bo (P:=prog) (t:=34) (s:=1) (by kernel_rfl);refine dk rfl rfl (by rfl) (fQ (x:=.tmp 2) (y:=.const (.int .i64 0)) (v:=.int .i64 0) rfl IW nr nn hE rfl rfl) ?_;show Code.wpIn _ _ _ _ _ (a2.put (some 5) c) (w2.setRow bE #[.int .i64 0]);refine acU ?_;show Leaves prog f170 (a2.put (some 5) c).tmps R a2.defers .returning (w2.setRow bE #[.int .i64 0]);rw[ud];refine aee (by simp) (JQ _) (wD (Cy _ _) ?_);rintro e u' w' ⟨rfl,rfl,rfl⟩;exact⟨_,F1 IW (uU hE),hR⟩
  . exact rP _ _ (Bc w2 hE n) rfl hR
  . exact rP _ _ (BJ w2 hE s) rfl hR
theorem IN (hG:au GI) {k:Nat} {caps:List AV} {out:ez} {r:Int} (mU:dL prog k=true) (Qo:AC prog GI k caps out)
    (jx:(∃v,out=.ret v/\r=0)\/(∃n,out=.panic (.iface 242 (.agg [.int .i64 n]))/\r=5)\/(∃s,out=.panic (.iface 253 (.agg [.str s]))/\r=4)):
    AC prog GI 170 [.func (.func k) [] caps] (.ret (.int .i64 r)):=by
  intro w old bI fE hlen hr;obtain⟨fv,rfl⟩:∃fv,bI=#[fv]:=nt (by simpa using hlen.symm);have h0:=hr 0 (by simp) (by simp);simp only[List.getElem_cons_zero,List.getElem_toArray]at h0
  obtain ⟨us,rfl,hl,Nb⟩:∃ us:Array Value,fv = .func (.func k) #[] us∧caps.length=us.size∧∀ i (h:i < caps.length) (h':i < us.size),RV old (fun _=>none) w caps[i] us[i]:=by
    cases h0 with
    |data _ _ h=>cases h
    |func _ _ _ vs us h1 h2 r1 r2 =>
      have:vs=#[]:=acy (by simpa using h1.symm);subst this;exact⟨us,rfl,h2,r2⟩
  have sy:Below w.heap.size w (w.alloc (.cells #[.int .i64 0] 34)):=(ab4 _ _).alloc (abg _) _
  have hk:bf old old w (w.alloc (.cells #[.int .i64 0] 34)):=bf.iB (λb h=>sy.block b h) λ_ _ _ h=>h
  have hN:(w.alloc (.cells #[.int .i64 0] 34)).heap[w.heap.size]?=some (.cells #[.int .i64 0] 34 (0,0)):=abY w _;refine pA mU (Qo (w.alloc (.cells #[.int .i64 0] 34)) old us (hG _ _ fE sy) hl (λi h h'=>(Nb i h h').mono hk λ_ _ h=>h)) ?_;rintro e w2 ⟨iM,hi,qn,qM⟩
  have Vs:w.heap.size<w2.heap.size:=by have:=iM.size;simp at this;omega
  have zn:w2.heap[w.heap.size]?=some (.cells #[.int .i64 0] 34 (0,0)):=(iM.block _ (by simp)).trans hN;refine⟨Vs,⟨_,_,zn⟩,?_⟩
  have fin:∀ (w3:World) (r:Int),Below w2.heap.size w2 w3→AL.Ends prog old w (.ret (.int .i64 r)) (.returned (.int .i64 r)) (w3.setRow w.heap.size #[.int .i64 r]):=by
    intro w3 r oN
    have lg:Below w.heap.size w w3:=by
      have h1:=sy.trans (iM.mono (by simp));exact h1.trans (oN.mono (by omega))
    refine⟨⟨lg.os,lg.tape,lg.output,by simpa using lg.size,λb hb=>(ab9 w3 _ b _ (by omega)).trans (lg.block b hb)⟩,λ_=>0,λ_ _=>rfl,_,rfl,.data _ _ (.int _ _),trivial⟩
  rcases jx with⟨v,rfl,rfl⟩|⟨n,rfl,rfl⟩|⟨s,rfl,rfl⟩
  . obtain ⟨c,rfl,_,_⟩:=qM
    exact .inl ⟨c,rfl,fin w2 0 (ab4 _ _)⟩
  . obtain ⟨c,rfl,hc⟩:=qM
    obtain rfl:c = .iface 242 (.agg #[.int .i64 n]):=by
      cases hc with
      |iface _ _ c h =>
        cases h with
        |agg _ vs hl h1 hr =>
          obtain⟨u,rfl⟩:=nt (vs:=vs) (by rw[<-hl];rfl);have:=hr 0 (by simp) (by simp);have:=(RV.data (al:=bT) _ _ this).int_eq;simp only[List.getElem_toArray,List.getElem_cons_zero]at this;rw[this]
    exact .inr (.inl ⟨n,rfl,λw3 h3=>fin w3 5 h3⟩)
  . obtain ⟨c,rfl,hc⟩:=qM
    obtain rfl:c = .iface 253 (.agg #[.string ⟨s.toArray⟩]):=by
      cases hc with
      |iface _ _ c h =>
        cases h with
        |agg _ vs hl h1 hr =>
          obtain⟨u,rfl⟩:=nt (vs:=vs) (by rw[<-hl];rfl);have:=hr 0 (by simp) (by simp);simp only[List.getElem_toArray,List.getElem_cons_zero]at this;cases this;rfl
    exact .inr (.inr ⟨s,rfl,λw3 h3=>fin w3 4 h3⟩)
theorem Ot{GI:World->Prop}(hG:au GI){n:Nat}{ro:Option Nat}{Q:iW}{old:Old}{S:an}{H:av}{x y:Code}(ac:ae)(da:∀d∈ac.names,¬old.bx d)(K:an->av->Prop)(h:bB prog GI ac (aK K) S H)(hy:∀S' H',K S' H'->SW prog GI n ro y Q old S' H')(hc:jO x=true:=by kernel_rfl)(ny:dF prog n x=ac:=by kernel_rfl):SW prog GI n ro (.seq x y) Q old S H:=SW.cut hG cH hc ny da K h hy
theorem dO{GI:World->Prop}(hG:au GI){n:Nat}{ro:Option Nat}{Q:iW}{old:Old}{S:an}{H:av}{x y:Code}(ac:ae)(K:an->av->Prop)(h:bB prog GI ac (aK K) S H)(hy:∀S' H',K S' H'->SW prog GI n ro y Q old S' H')(da:∀d∈ac.names,¬old.bx d:=by exact λ_ _ h=>h)(hc:jO x=true:=by kernel_rfl)(ny:dF prog n x=ac:=by kernel_rfl):SW prog GI n ro (.seq x y) Q old S H:=SW.cut hG cH hc ny da K h hy
theorem fS:AV.aH∘AV.aH=AV.aH:=by funext v;exact AV.idem v
theorem KN:AV.cn∘AV.cn=AV.cn:=by funext v;cases v<;>rfl
theorem RB(hG:au GI){fA:List AV}{out:List Int}(hl:fA.length=11):AC prog GI 148 [.agg fA,vI out] (.ret (.func (.func 187) [] [.ref (fA.map AV.cn),.ref [vI out]])):=by
 refine AC.C9 hG cH func148 rfl ntmps148 (by simp) (ac:=c148) (by kernel_rfl) ?_;simp[c148,bB,bp,aF,bb,aG,dq,ev,aO.S,aO.H,ar,aU,AL.start,AV.aH,AV.cells,AV.storable,hl,b_,lC,bz,vI];refine⟨4,.func 187,[],[.box 2 0,.box 3 0],rfl,by decide,by simp[ar],?_⟩;simp[ar,fz,iu,AV.cn,mf]
def Ab(out:List Int)(l:List (List End)):AV:=.slice (if l.isEmpty then .nil else .own 39) (l.map (aW out))
def y9(out:List Int)(l:List (List End)):AV:=.slice (if l.isEmpty then .nil else .view) (l.map (aW out))
theorem Vp (hG:au GI) {fA:List AV} {out:List Int} {il:List (List End)} {p:List End→Bool} (hl:fA.length=11) (kf:∀ x∈fA,x.one=true) (hlen:il.length≤100000) (bn:∀ es∈il,es.length < 1000)
  (hit:tg prog GI 187 [.ref (fA.map AV.cn),.ref [vI out]] (il.map (aW out))) (SE:∀es∈il,AC prog GI 149 [.agg (fA.map AV.cn),aW out es,.int .i64 0] (.ret (.bool (p es)))):
  AC prog GI 80 [.agg fA,vI out] (.ret (y9 out (il.filter p))):=by
 refine AC.ib func80 rfl ntmps80 (by simp) λcc w=>?_
 refine dO hG c80.qa (λS' H'=>S' 1=vI out/\S' 2=.box 2 0/\H' 2=some (fA.map AV.aH)) ?_ ?_
 .simp[c80,ae.qa,bB,bp,aF,bb,aG,ev,aO.S,aO.H,ar,aU,AL.start,AV.aH,AV.cells,AV.storable,hl,b_,bz,vI,aK]
 rintro S1 H1 ⟨s1,s2,h2⟩;refine dO hG c80.qb.qa (λS' H'=>S' 1=vI out/\S' 2=.box 2 0/\S' 5=.box 5 0/\H' 2=some (fA.map AV.aH)/\H' 5=some [.slice .nil []]) ?_ ?_
 .simp[c80,ae.qa,ae.qb,bB,bp,aF,bb,ar,b_,vI,aK,s1,s2,h2]
 rintro S2 H2 ⟨s1,s2,s5,h2,h5⟩;refine SW.seq (dO hG c80.qb.qb.qa.qa (λS' H'=>S' 2=.box 2 0/\S' 5=.box 5 0/\S' 9=.func (.func 187) [] [.ref (fA.map AV.cn),.ref [vI out]]/\H' 2=some (fA.map AV.aH)/\H' 5=some [.slice .nil []]) ?_ ?_)
 .have e7:fz H2 (.agg (fA.map AV.aH))=.agg (fA.map AV.cn):=by simp only[fz,iu,AV.vw,ack,mf]
  have Cf:=RB hG (fA:=fA.map AV.cn) (out:=out) (GI:=GI) (by simpa using hl);simp only[ack,KN]at Cf;simp[c80,ae.qa,ae.qb,bB,bp,aF,bb,aG,ev,aO.S,aO.H,ar,aU,ck,s1,s2,s5,h2,h5,aK,kE,hl,HR.okB,fS];have ht:List.take 11 (List.map AV.aH fA)=fA.map AV.aH:=abp (by simp;omega);rw[ht,e7];refine⟨by kernel_rfl,_,Cf,by simp[dh,vI,AV.aH],?_⟩;simp[iC,ar,s2,s5,h2,h5]
 rintro S3 H3 ⟨s2,s5,s9,h2,h5⟩
 refine SW.block (SW.range hG cH (LO:=.tmp 9) (y:=.t 9) (p:=10) (f:=187) (caps:=[.ref (fA.map AV.cn),.ref [vI out]]) (xs:=il.map (aW out)) rfl s9 (by kernel_rfl) rfl hit (by decide) (λx hx=>by obtain⟨e,_,rfl⟩:=abz.1 hx;rfl)
  (λd=>d==6) (aa:=.ops [⟨(some 6),none,.alloc 39 [(.slice .nil []),(.slice .nil [])]⟩,⟨none,none,.store .any 2 (.t 6) (.t 10)⟩]) (ab:=.block 1 (.seq (.ops [⟨some 11,none,.load .any true 11 (.t 2)⟩,⟨some 12,none,.load .any true 2 (.t 6)⟩,⟨some 13,none,.call 149 [(.t 11),(.t 12),(.c (.int .i64 0))]⟩]) (.cond (.t 13) (.ops [⟨some 14,none,.loadT .any (.t 5)⟩,⟨some 15,none,.load .any true 2 (.t 6)⟩,⟨some 16,none,.buildSlice 110 39 2 [(.t 15)]⟩,⟨some 17,none,.append 110 39 2 48 (.t 14) (.t 16)⟩,⟨none,none,.store .any 1 (.t 5) (.t 17)⟩]) .skip)))
  (by kernel_rfl) (by kernel_rfl) (by simp[ae.names,cq.jy,fj.jy]) (by simp[ae.names,cq.jy,fj.jy]) (λ_ _ h=>h) (by kernel_rfl) (by kernel_rfl)
  (λk H'=>H' 2=some (fA.map AV.aH)/\H' 5=some [Ab out ((il.take k).filter p)]) (λ_ _=>False) ⟨h2,h5⟩ ?_ ?_ ?_)
 .rintro k hk H' ⟨h2,h5⟩
  have fo:k<il.length:=by simpa using hk
  have Ac:(il.map (aW out))[k]=aW out il[k]:=by simp
  have hf:=SE il[k] (aba fo)
  have lT:il.take (k+1)=il.take k++[il[k]]:=by rw[abo fo]
  have e7:∀H,fz H (.agg (fA.map AV.aH))=.agg (fA.map AV.cn):=λH=>by simp only[fz,iu,AV.vw,ack,mf]
  have e8:∀H,fz H (.agg [.slice .view (ints out),.slice .view (aJ il[k])])=aW out il[k]:=λH=>rfl
  have e9:∀H,fz H (.int .i64 0)=.int .i64 0:=λH=>rfl
  have ht:List.take 11 (List.map AV.aH fA)=fA.map AV.aH:=abp (by simp;omega)
  have xO:ql (λd=>d==6) (S3 2)=.box 2 0:=by rw[s2];rfl
  have mm:ql (λd=>d==6) (S3 5)=.box 5 0:=by rw[s5];rfl
  rw[Ac,lT,List.filter_append];simp[bB,bp,aF,bb,aG,ev,aO.S,aO.H,ar,aU,aK,b_,xO,mm,h2,h5,HR.okB,aW,AV.cells,AV.storable,AV.aH,bu,AV.cb,bz,dq,dz,ck,fS,ht,kE,hl,e7,e8,e9];refine⟨by kernel_rfl,_,hf,by simp[dh],?_⟩;have hL:(List.filter p (List.take k il)).length<=100000:=ace (adg _ _) (by simp;omega);generalize List.filter p (List.take k il)=L at hL h5⊢
  have cJ:aM 2 (L.map (aW out))=true:=by simp[aM,aW,AV.storable,AV.cells]
  cases hp:p il[k]with
  |false=>simp[iC,pT,h2,h5,hp,ar]
  |true=>
   cases L with
   |nil=>simp[iC,pT,hp,aM,AV.storable,AV.cells,AV.vw,AV.cn,Ab,AV.aH,HR.okB,ar,bu,AV.cb,aW,mm,h2]
   |cons x L=>
    have qQ:L.length+1+1<1048576:=by simp at hL;omega
    simp[iC,pT,hp,aM,AV.storable,AV.cells,AV.vw,AV.cn,Ab,AV.aH,HR.okB,ar,bu,AV.cb,aW,mm,qQ,h2]
 .rintro D H' hD ⟨h2,h5⟩;show SW prog GI 19 none (.seq _ .ret) _ _ _ _
  have mm:ql (λd=>d==6) (S3 5)=.box 5 0:=by rw[s5];rfl
  have lT:List.take (il.map (aW out)).length il=il:=abp (by simp);rw[lT]at h5;refine dO hG c80.qb.qb.qb.qa (λS' _=>S' 4=y9 out (il.filter p)) ?_ ?_
  .generalize il.filter p=L at h5⊢
   cases L<;>simp[c80,ae.qa,ae.qb,bB,bp,aF,bb,aG,ev,aO.S,aO.H,ar,aU,ck,mm,h5,HR.okB,aK,Ab,y9,AV.aH,bz]
  intro S4 H4 s4;refine SW.ret ⟨(dZ.plain rfl).mark hD,rfl,_,?_,rfl⟩;show cE prog 19 [.tmp 4] S4 H4=_;simp[cE,cW,cV,s4,y9,AV.bZ,AV.out]
 .exact λ_ _ _ _ _ h=>h.elim
structure jL where
 l:Int
 r:Int
 lo:Int
 hi:Int
def dj(p:jL):AV:=.agg [.int .i64 p.l,.int .i64 p.r,.int .i64 p.lo,.int .i64 p.hi]
def og(p:jL):AV:=.agg [.int .i64 p.l,.int .i64 p.r]
def kX(p:jL):AV:=.agg [.int .i64 p.lo,.int .i64 p.hi]
def bt(ps:List jL):AV:=.map (ps.map og) (ps.map kX)
def V4(es:Array MapEntry)(ps:List jL):Prop:=es.size=ps.length/\∀i (h:i<es.size)(h':i<ps.length),(es[i]).key=.agg #[.int .i64 (ps[i]).l,.int .i64 (ps[i]).r]/\(es[i]).val=.agg #[.int .i64 (ps[i]).lo,.int .i64 (ps[i]).hi]
theorem FI{Pr:Nat->Nat->Prop}{w:World}(x y:Int):RD Pr w (.agg [.int .i64 x,.int .i64 y]) (.agg #[.int .i64 x,.int .i64 y]):=by
 refine .agg _ _ rfl (λi hi=>?_) (λi hi dv=>?_)
 .match i,hi with
  |0,_=>rfl
  |1,_=>rfl
 .match i,hi with
  |0,_=>exact .int _ _
  |1,_=>exact .int _ _
theorem ub(x y:Int):∀(ps:List jL),(∀p∈ps,¬(p.l=x/\p.r=y))->nI [x,y] (ps.map og) (ps.map kX)=some none
 |[],_=>rfl
 |p::ps,h=>by
  have hp:([x,y]==[p.l,p.r])=false:=by
   have:=h p abF;simp only[abU,ne_eq,adb,aeo];rintro⟨rfl,rfl⟩;exact this ⟨rfl,rfl⟩
  show nI [x,y] (og p::ps.map og) (kX p::ps.map kX)=some none;unfold nI;simp only[og,mW,Option.map_some];simp only[List.length_cons,List.length_nil,ne_eq,acS,abw,hp,abi]
  exact ub x y ps λq hq=>h q (abm _ hq)
def oM(cc:Nat->Nat->Prop)(w:World)(b:Nat)(es:Array MapEntry)(clock:Nat):Old:={ Old.plain cc w with aV:=ar (λ_=>none) b (some (.map es clock)) }
def BA(sA:List AV)(ps:List jL)(z:List AV)(b j:Nat)(S:an)(H:av):Prop:=
 S 2=.box 2 0/\S 3=.box 3 0/\S 10=.slice .view (ps.map dj)/\S 11=.int .i64 ps.length/\S 12=.int .i64 (j:Nat)/\H 2=some z/\H 3=some (sA.map AV.aH++[.val (.map (some b))])
theorem CQ{Pr:Nat->Nat->Prop}{al:Nat->Option Nat}{w:World}{x y:Int}{c:Value}(h:RV Pr al w (.agg [.int .i64 x,.int .i64 y]) c):c=.agg #[.int .i64 x,.int .i64 y]:=by
 cases h with
 |data _ _ h=>
  cases h with
  |agg _ vs hl h1 hr=>
   congr 1
   apply acw
   .rw[<-hl];rfl
   .intro i hi dv
    have rN:i<2:=by simpa using dv
    match i,rN with
    |0,_=>exact(RV.data (al:=bT) _ _ (hr 0 (by simp) hi)).int_eq
    |1,_=>exact(RV.data (al:=bT) _ _ (hr 1 (by simp) hi)).int_eq
theorem DN{b:Nat}{ks vs:List AV}{x:AV}(h:isVal x=false):sV b ks vs x.aH=x.aH:=by
 cases x<;>first|rfl|(cases h;done)|skip
 rename_i o es;cases o<;>rfl
theorem Ex{P:Program}{t kt el:TypeId}(h:(P.underlying t).map (λd=>match d with|.map k e=>some (k,e)|_=>none)=some (some (kt,el))):P.underlying t=some (.map kt el):=by
 cases hi:P.underlying t with
 |none=>rw[hi]at h;cases h
 |some d=>
  rw[hi]at h
  cases d<;>simp at h
  obtain⟨rfl,rfl⟩:=h;rfl
def EH:TypeDesc->Bool
 |.struct _=>true
 |_=>false
theorem bU{P:Program}{t:TypeId}(h:(P.underlying t).map EH=some true):∃fs,P.underlying t=some (.struct fs):=by
 cases hi:P.underlying t with
 |none=>rw[hi]at h;cases h
 |some d=>
  rw[hi]at h
  cases d<;>first|(cases h;done)|exact⟨_,rfl⟩
noncomputable def rW:ae:=ae.qb c79.qb.qb.qa.qb.qb.qb.qb
theorem Vr (hG:au GI) {sA:List AV} {ps:List jL} (hl:sA.length=10) (uT:sA[1]? = some (.slice .view (ps.map dj))) (kf:∀ x∈sA,x.storable=true∧isVal x=false) (hlen:ps.length≤100000) (eO:∀ i j (hi:i < ps.length) (hj:j < ps.length),i < j→¬ ((ps[i]).l=(ps[j]).l∧(ps[i]).r=(ps[j]).r)) :
  AC prog GI 79 [.agg sA] (.ret (.agg ((sA++[bt ps]).map AV.cn))):=by
 refine AC.ib func79 rfl ntmps79 (by simp) λcc w=>?_
 refine dO hG c79.qa (λS' H'=>S' 1=.box 1 0/\S' 2=.box 2 0/\H' 1=some (sA.map AV.aH)/\∃z,H' 2=some z/\z.length=11) ?_ ?_
 .simp[c79,ae.qa,bB,bp,aF,bb,aG,ev,aO.S,aO.H,ar,aU,AL.start,AV.aH,AV.cells,AV.storable,hl,b_,bz,aK]
 rintro S1 H1 ⟨s1,s2,h1,z,h2,hz⟩
 refine SW.seq (SW.mid hG (p:=1) (oh:={ dst:=some 7,op := .makeMap 106 none,type:=106,pos := "letter.go:113",after := #[],guard:=none }) (jU:=[_]) (ll:=[_,_,_]) (l2:=[2,3,4]) rfl rfl rfl rfl (by kernel_rfl) rfl (λ_ h=>h) (lR:=(c79.qb.qa.dl).take 1) (kK:=(c79.qb.qa.dl).drop 2) (by kernel_rfl) (by kernel_rfl) (by kernel_rfl) (by kernel_rfl)
  (K1:=λS' H'=>S' 1=.box 1 0/\S' 2=.box 2 0/\S' 6=.agg (sA.map AV.aH)/\H' 1=some (sA.map AV.aH)/\H' 2=some z)
  (K2:=λo S' H'=>∃b,o=oM cc w b #[] 0/\S' 1=.box 1 0/\S' 2=.box 2 0/\S' 6=.agg (sA.map AV.aH)/\S' 7=.val (.map (some b))/\H' 1=some (sA.map AV.aH)/\H' 2=some z)
  (K3:=λo S' H'=>∃b,o=oM cc w b #[] 0/\S' 1=.box 1 0/\S' 2=.box 2 0/\S' 3=.box 3 0/\H' 1=some (sA.map AV.aH)/\H' 2=some z/\H' 3=some (sA.map AV.aH++[.val (.map (some b))])) ?_ ?_ ?_ ?_)
 .have ht:List.take 10 (sA.map AV.aH)=sA.map AV.aH:=abp (by simp;omega);simp[c79,ae.qa,ae.qb,ae.dl,bp,aF,bb,aG,ev,aO.S,aO.H,ar,aU,ck,s1,s2,h1,h2,HR.okB,hl,fS,ht]
 .rintro w0 g S2 H2 a w2 ho R ⟨s1,s2,s6,h1,h2⟩;have R2:=R.lk (.map #[] 0);refine⟨_,_,_,ar S2 7 (.val (.map (some w2.heap.size))),H2,.inl (run_makeMap rfl),R2.put 7 (.val (.map (some w2.heap.size))) _ (by decide) (.data _ _ (.val _ rfl)) trivial,w2.heap.size,?_,by simp[ar,s1],by simp[ar,s2],by simp[ar,s6],by simp[ar],h1,h2⟩;show({ g.old with aV:=ar g.old.aV w2.heap.size (some (.map #[] 0)) }:Old)=_;rw[ho];rfl
 .rintro o S2 H2 ⟨b,rfl,s1,s2,s6,s7,h1,h2⟩;refine⟨λ_ h=>h,?_⟩
  have jT:∀x∈sA.map AV.aH,x.storable=true:=by
   intro x hx;obtain⟨y,hy,rfl⟩:=abz.1 hx;rw[AV.xm];exact(kf y hy).1
  have jR:∀c:AV,bu (bu [.slice .nil [],.slice .nil [],.int .i64 0,.int .i64 0,.int .i64 0,.int .i64 0,.int .i64 0,.slice .nil [],.int .i64 0,.int .i64 0,.map [] []] 0 (sA.map AV.aH)) 10 [c]=sA.map AV.aH++[c]:=by
   intro c
   have e1:bu [.slice .nil [],.slice .nil [],.int .i64 0,.int .i64 0,.int .i64 0,.int .i64 0,.int .i64 0,.slice .nil [],.int .i64 0,.int .i64 0,.map [] []] 0 (sA.map AV.aH)=sA.map AV.aH++[AV.map [] []]:=by
    simp[bu,hl]
   rw[e1];simp[bu,hl]
  have aaw:∀c:AV,bu [.slice .nil [],.slice .nil [],.int .i64 0,.int .i64 0,.int .i64 0,.int .i64 0,.int .i64 0,.slice .nil [],.int .i64 0,.int .i64 0,.map [] []] 0 (sA.map AV.aH++[c])=sA.map AV.aH++[c]:=by
   intro c;simp[bu,hl]
  have zj:(bu [AV.slice .nil [],.slice .nil [],.int .i64 0,.int .i64 0,.int .i64 0,.int .i64 0,.int .i64 0,.slice .nil [],.int .i64 0,.int .i64 0,.map [] []] 0 (sA.map AV.aH)).length=11:=by simp[bu,hl]
  simp[c79,ae.qa,ae.qb,ae.dl,bp,aF,bb,aG,ev,aO.S,aO.H,ar,aU,bG,s6,s7,AV.cells,AV.aH,AV.storable,hl,zj,jR]
  have e3:(List.map AV.aH sA++[AV.val (Value.map (some b))]).map AV.aH=List.map AV.aH sA++[AV.val (Value.map (some b))]:=by simp[fS,AV.aH]
  simp[HR.okB,b_,bz,AV.cb,hl,fS,AV.aH,ar,h1,h2,s1,s2];simp[bu,hl]
 .rintro o S2 H2 ⟨b,rfl,s1,s2,s3,h1,h2,h3⟩;show SW prog GI 27 none (.seq (.seq _ (.block 0 (.loop _))) (.seq _ .ret)) _ _ _ _;refine SW.seq (dO hG c79.qb.qb.qa.qa (λS' H'=>S' 2=.box 2 0/\S' 3=.box 3 0/\S' 10=.slice .view (ps.map dj)/\S' 11=.int .i64 ps.length/\S' 12=.int .i64 0/\H' 2=some z/\H' 3=some (sA.map AV.aH++[.val (.map (some b))])) ?_ ?_)
  .have Dj:(sA.map AV.aH)[1]?=some (.slice .view (ps.map dj)):=by rw[abH,uT];rfl
   simp[c79,ae.qa,ae.qb,bB,bp,aF,bb,aG,aK,ev,aO.S,aO.H,ar,aU,ck,s1,s2,s3,h1,h2,h3,HR.okB,Dj,AV.aH]
  rintro S3 H3 ⟨s2,s3,bK,br,bC,h2,h3⟩
  refine SW.block (SW.loop (λo S' H'=>∃j es clock,j<=ps.length/\o=oM cc w b es clock/\V4 es (ps.take j)/\S' 2=.box 2 0/\S' 3=.box 3 0/\S' 10=.slice .view (ps.map dj)/\S' 11=.int .i64 ps.length/\S' 12=.int .i64 (j:Nat)/\H' 2=some z/\H' 3=some (sA.map AV.aH++[.val (.map (some b))]))
   (λS' _=>match S' 12 with|.int _ j=>ps.length-j.toNat|_=>0) ⟨0,#[],0,abZ _,rfl,⟨by simp,λi h=>by simp at h⟩,s2,s3,bK,br,bC,h2,h3⟩ ?_)
  rintro o S4 H4 ⟨j,es,clock,hj,rfl,oG,s2,s3,bK,br,bC,h2,h3⟩;have m12:=bC;show SW prog GI 27 none (.seq _ (.seq (.cond _ _ _) (.seq (.block 1 (.seq _ _)) _))) _ _ _ _;refine dO hG c79.qb.qb.qa.qb.qb.qb.qa (λS' H'=>S' 13=.bool (decide (j<ps.length))/\BA sA ps z b j S' H') ?_ ?_
  .simp[c79,ae.qa,ae.qb,bB,bp,aF,bb,aG,aK,ev,aO.S,aO.H,ar,aU,BA,s2,s3,bK,br,bC,h2,h3,eG]
  rintro S5 H5 ⟨bW,hF⟩
  by_cases aw:j<ps.length
  case neg=>
   refine SW.seq (SW.cond rfl false (by show S5 13=_;rw[bW];simp[aw]) (SW.exit ?_))
   have nG:j=ps.length:=by omega
   subst nG;rw[acf]at oG;obtain⟨s2,s3,bK,br,bC,h2,h3⟩:=hF;show SW prog GI 27 none (.seq _ .ret) _ _ _ _;refine dO hG c79.qb.qb.qb.qa (λS' H'=>S' 2=.box 2 0/\H' 2=some (sA.map AV.aH++[.val (.map (some b))])) ?_ ?_
   .have e3:(List.map AV.aH sA++[AV.val (Value.map (some b))]).map AV.aH=List.map AV.aH sA++[AV.val (Value.map (some b))]:=by simp[fS,AV.aH]
    have ht:List.take 11 (List.map AV.aH sA++[AV.val (Value.map (some b))])=List.map AV.aH sA++[AV.val (Value.map (some b))]:=abp (by simp[hl]);have Re:List.drop 11 z=[]:=acm (by omega);simp[c79,ae.qa,ae.qb,bB,bp,aF,bb,aG,aK,ev,aO.S,aO.H,ar,aU,s2,s3,h2,h3,ck,HR.okB,hl,AV.cells,AV.storable,AV.cb,bu,bz,fS,AV.aH,ht,hz,Re]
   rintro S6 H6 ⟨s2,h2⟩;refine SW.ghost (K:=λo S' H'=>dZ o/\o.c=cc/\S' 2=.box 2 0/\H' 2=some (sA.map AV.aH++[bt ps])) ?_ ?_
   .intro w0 g a w' hg R
    have hk:g.old.aV b=some (.map es clock):=by rw[hg];show ar (λ_=>none) b _ b=_;exact aN _ _ _
    obtain⟨g2,l4,R2⟩:=R.P3 hk (ps.map og) (ps.map kX) (by simpa using oG.1.symm) (by simpa using oG.1.symm) (λi h h'=>by
     simp only[abh]at h;simp only[abl,(oG.2 i h' h).1]
     exact FI _ _) (λi h h'=>by
     simp only[abh]at h;simp only[abl,(oG.2 i h' h).2]
     exact FI _ _) (by rw[hg];rfl)
    refine⟨g2,_,_,R2,dZ.plain (by rw[l4,hg];rfl),by rw[l4,hg];rfl,by simp[s2],?_⟩
    have Z7:(sA.map AV.aH).map (sV b (ps.map og) (ps.map kX))=sA.map AV.aH:=by
     rw[ack]
     exact ab_ λx hx=>DN (kf x hx).2
    show(H6 2).map _=_;rw[h2];simp only[Option.map_some,abK,Z7,abA,abL];simp[sV,bt]
   .rintro o S7 H7 ⟨hm,hc,s2,h2⟩;obtain⟨i103,Sz,Q0⟩:=bo (P:=prog) (t:=108) (s:=11) (by kernel_rfl);obtain⟨fs,fe⟩:=bU (P:=prog) (t:=108) (by kernel_rfl);refine SW.ret ⟨hm,hc,_,?_,rfl⟩;show cE prog 27 [.cell 2 108] S7 H7=_;have ht:List.take 11 (sA.map AV.aH++[bt ps])=sA.map AV.aH++[bt ps]:=abp (by simp[hl]);have jR:(bt ps).aH=bt ps:=rfl;have FY:(bt ps).cn=bt ps:=rfl;simp[cE,cW,cV,s2,h2,Sz,fe,Q0,ck,eQ,hl,AV.out,jR,FY,fS,mf];exact abp (by simp[hl])
  case pos=>
   refine SW.seq (SW.cond rfl true (by show S5 13=_;rw[bW];simp[aw]) (SW.skip ?_));show SW prog GI 27 none (.seq (.block 1 (.seq _ _)) _) _ _ _ _;obtain⟨s2,s3,bK,br,bC,h2,h3⟩:=hF;refine SW.seq (SW.block (dO hG c79.qb.qb.qa.qb.qb.qb.qb.qb.qa.qb.qa (λS' H'=>S' 5=.box 5 0/\H' 5=some (dj ps[j]).cells/\BA sA ps z b j S' H') ?_ ?_))
   .have cC:¬(j:Int)<0:=by omega
    simp[c79,ae.qa,ae.qb,bB,bp,aF,bb,aG,aK,ev,aO.S,aO.H,ar,aU,BA,s2,s3,bK,br,bC,h2,h3,aw,ck,dj,AV.cells,AV.aH,b_,HR.okB,AV.storable,bu,AV.cb,bz]
   rintro S6 H6 ⟨s5,h5,s2,s3,bK,br,bC,h2,h3⟩
   have RA:∀q∈ps.take j,¬(q.l=ps[j].l/\q.r=ps[j].r):=by
    intro q hq;obtain⟨i,hi,rfl⟩:=abP hq
    have oy:i<j:=by simp at hi;omega
    rw[adr];exact eO i j (by omega) aw oy
   refine SW.mid hG (p:=9) (oh:={ dst:=none,op := .mapUpdate 106 (.tmp 17) (.tmp 22) (.tmp 24),type:=0,pos := "letter.go:115",after:=_,guard:=none }) (jU:=[_,_,_,_,_,_,_,_,_]) (ll:=[]) (l2:=[]) rfl rfl rfl rfl (by kernel_rfl) rfl (λ_ h=>h) (lR:=(rW.qa.qb.qb.dl).take 9) (kK:=[]) (by kernel_rfl) rfl (by kernel_rfl) rfl
    (K1:=λS' H'=>S' 17=.val (.map (some b))/\S' 22=.agg [.int .i64 ps[j].l,.int .i64 ps[j].r]/\S' 24=.agg [.int .i64 ps[j].lo,.int .i64 ps[j].hi]/\BA sA ps z b j S' H')
    (K2:=λo S' H'=>o=oM cc w b (es.push { key:=.agg #[.int .i64 ps[j].l,.int .i64 ps[j].r],val:=.agg #[.int .i64 ps[j].lo,.int .i64 ps[j].hi],born:=clock }) (clock+1)/\BA sA ps z b j S' H')
    (K3:=λo S' H'=>o=oM cc w b (es.push { key:=.agg #[.int .i64 ps[j].l,.int .i64 ps[j].r],val:=.agg #[.int .i64 ps[j].lo,.int .i64 ps[j].hi],born:=clock }) (clock+1)/\BA sA ps z b j S' H') ?_ ?_ ?_ ?_
   .have Yz:(List.map AV.aH sA++[AV.val (Value.map (some b))])[10]? = some (.val (.map (some b))):=by
     rw[acB (by simp[hl])];simp[hl]
    have YY:List.drop 10 (List.map AV.aH sA++[AV.val (Value.map (some b))])=[AV.val (Value.map (some b))]:=by
     rw[adI (by simp[hl]),acm (by simp[hl])];rfl
    simp[c79,rW,ae.qa,ae.qb,ae.dl,bp,aF,bb,aG,ev,aO.S,aO.H,ar,aU,BA,s2,s3,s5,bK,br,bC,h2,h3,h5,ck,dj,AV.cells,AV.aH,HR.okB,AV.storable,bG,bu,Yz,YY]
   .rintro w0 g S7 H7 a w7 hg R ⟨ji,sN,uB,hF⟩;have t17:=R.slot 17 (by decide) (λh=>h);rw[ji]at t17;have t17:=t17.fR;have t22:=R.slot 22 (by decide) (λh=>h);rw[sN]at t22;have t22:=CQ t22;have t24:=R.slot 24 (by decide) (λh=>h);rw[uB]at t24;have t24:=CQ t24
    have hk:g.old.aV b=some (.map es clock):=by rw[hg];show ar (λ_=>none) b _ b=_;exact aN _ _ _
    have hb:=(R.kept b _ hk).2.1;have fI:=Ex (P:=prog) (t:=106) (kt:=175) (el:=26) (by kernel_rfl);obtain⟨fs,fe⟩:=bU (P:=prog) (t:=175) (by kernel_rfl);have B_:(ps.take j).length=es.size:=oG.1.symm;refine⟨undef,_,_,S7,H7,.inr ⟨HY (Pr:=λ_ _=>False) (ks:=(ps.take j).map og) (vs:=(ps.take j).map kX) (key:=[ps[j].l,ps[j].r]) rfl fI fe (k:=2) (by kernel_rfl) t17 t22 t24 hb rfl (by simpa using B_) (by simpa using B_) (λi h h'=>?_) (λi h h'=>?_) (ub _ _ _ RA),rfl⟩,R.kz hk _,?_,hF⟩
    .simp only[abh]at h;simp only[abl,(oG.2 i h' h).1];exact FI _ _
    .simp only[abh]at h;simp only[abl,(oG.2 i h' h).2];exact FI _ _
    .show({ g.old with aV:=ar g.old.aV b _ }:Old)=_;rw[hg];simp only[oM,Old.mk.injEq,ae1,aeo]
     funext c
     by_cases hc:c=b
     .subst hc;simp[ar,j3]
     .simp[ar,hc]
   .rintro o S7 H7 h;exact⟨by rw[h.1];exact λ_ h=>h,h⟩
   .rintro o S7 H7 ⟨rfl,s2,s3,bK,br,bC,h2,h3⟩;show SW prog GI 27 none _ _ _ _ _;refine SW.m_ hG cH (by kernel_rfl) (λ_ _ h=>h) (ac:=ae.qb rW) (by kernel_rfl) ?_;have oD:IntKind.i64.wrap ((j:Int)+1)=j+1:=aS (by omega)
    have Rk:V4 (es.push { key:=.agg #[.int .i64 ps[j].l,.int .i64 ps[j].r],val:=.agg #[.int .i64 ps[j].lo,.int .i64 ps[j].hi],born:=clock }) (ps.take (j+1)):=by
     have hts:ps.take (j+1)=ps.take j++[ps[j]]:=by rw[abo aw]
     rw[hts];refine⟨by simp[oG.1];omega,λi h h'=>?_⟩
     by_cases hi:i<es.size
     .have rN:i<(ps.take j).length:=by rw[<-oG.1];exact hi
      have:=oG.2 i hi rN;rw[Array.getElem_push_lt hi,abM rN];exact this
     .have Hi:i=es.size:=by simp at h;omega
      subst Hi
      have rN:(ps.take j).length<=es.size:=by rw[<-oG.1];exact abg _
      rw[Array.getElem_push_eq,acd rN];simp
    simp[c79,rW,ae.qa,ae.qb,bB,bp,aF,bb,aG,ev,aO.S,aO.H,ar,aU,s2,s3,bK,br,bC,h2,h3,eG,AV.aH,oD,iW.bB,thenS];refine⟨⟨j+1,aw,_,⟨_,rfl⟩,Rk,by omega⟩,?_⟩;rw[m12];show ps.length-(j+1)<ps.length-(j:Int).toNat;rw[Int.toNat_natCast];omega
structure Word where
 aP:List Int
 bO:List Int
 free:Bool
def cG(w:Word):AV:=.agg [vI w.aP,vI w.bO,.bool w.free]
structure Yu where
 NM:List AV
 cut:Bool
def Ae(l:Yu):AV:=.agg [.slice .view l.NM,.bool l.cut]
def ML(GI:World->Prop):Prop:=∀w,GI w->∃m,w.cell? ⟨1,0,none⟩=some (.int .i64 m)
theorem jM{w0:World}{n:Nat}{g:Gh}{S:an}{H:av}{a:Act}{w:World}(R:Rel prog w0 n bQ g S H a w){t i:Nat}(ht:t<n)(hs:S t=.box i 0):∃b,g.al i=some b/\a.tmps.getD t undef=.pointer (some ⟨b,0,none⟩):=by
 have h:=R.slot t ht id;rw[hs]at h;generalize a.tmps.getD t undef=c at h
 cases h with
 |data _ _ h=>cases h
 |box _ _ b h=>exact⟨b,h,rfl⟩
theorem pN{w0:World}{n:Nat}{g:Gh}{S:an}{H:av}{a:Act}{w:World}(R:Rel prog w0 n bQ g S H a w){t:Nat}{k:Int}(ht:t<n)(hs:S t=.int .i64 k):a.tmps.getD t undef=.int .i64 k:=by
 have h:=R.slot t ht id;rw[hs]at h;exact h.int_eq
theorem TN{Pr:Nat->Nat->Prop}{al:Nat->Option Nat}{w:World}{x y:Int}{c:Value}(h:RV Pr al w (.agg [.int .i64 x,.int .i64 y]) c):c=.agg #[.int .i64 x,.int .i64 y]:=by
 cases h with
 |data _ _ h=>
  cases h with
  |agg cs vs hl lM hr=>
   have hs:vs.size=2:=by rw[<-hl];rfl
   have h0:=(RV.data (al:=bT) _ _ (hr 0 (by simp) (by omega))).int_eq;have h1:=(RV.data (al:=bT) _ _ (hr 1 (by simp) (by omega))).int_eq
   congr 1
   apply acw
   .simpa using hs
   .intro i h2 h3
    match i,h3 with
    |0,_=>exact h0
    |1,_=>exact h1
end Go.Proofs.Tryz
namespace Go.AL
def ik(c:UInt8):List UInt8->List (List UInt8)
 |[]=>[[]]
 |b::l=>if b=c then[]::ik c l else match ik c l with
  |[]=>[[b]]
  |p::ps=>(b::p)::ps
theorem Ao{b c:UInt8}(h:b≠c)(k:Nat)(l:List UInt8):Lib.splitK [c] 0 k (b::l)=match Lib.splitK [c] 0 k l with|[]=>[[b]]|p::ps=>(b::p)::ps:=by
 cases k with
 |zero=>rfl
 |succ k=>
  have hp:[c].isPrefixOf (b::l)=false:=by simp[List.isPrefixOf];exact λe=>(h e.symm).elim
  unfold Lib.splitK
  have hi:Lib.index (b::l) [c]=if Lib.index l [c]== -1 then-1 else Lib.index l [c]+1:=by
   rw[Lib.index];simp[hp]
  rw[hi];have hg:=Lib.index_ge l [c]
  by_cases h1:Lib.index l [c]= -1
  .simp[h1]
  .have h2:(Lib.index l [c]== -1)=false:=by simpa using h1
   have h3:(Lib.index l [c]+1== -1)=false:=by simp;omega
   simp only[h2,abi,abw,h3]
   have e:(Lib.index l [c]+1).toNat=(Lib.index l [c]).toNat+1:=by omega
   rw[e];simp[Nat.add_right_comm]
theorem sH(c:UInt8):∀l:List UInt8,Lib.splitK [c] 0 (l.count c) l=ik c l
 |[]=>rfl
 |b::l=>by
  by_cases h:b=c
  .subst h
   have hp:[b].isPrefixOf (b::l)=true:=by simp[List.isPrefixOf]
   have hi:Lib.index (b::l) [b]=0:=by rw[Lib.index];simp[hp]
   rw[List.count_cons_self,Lib.splitK,hi];simp[ik,sH b l]
  .rw[List.count_cons_of_ne h,Ao h,sH c l,ik,if_neg h]
def om{α:Type}(d:AV->Option α):List AV->Option (List α)
 |[]=>some []
 |x::l=>match d x with
  |some a=>match om d l with
   |some r=>some (a::r)
   |none=>none
  |none=>none
def CA:AV->Option Int
 |.int .i64 n=>some n
 |_=>none
def MQ:AV->Option (List Int)
 |.slice .view es=>om CA es
 |_=>none
section
variable{P:Program}{GI:World->Prop}
def kO(P:Program)(GI:World->Prop)(rest:List cq)(K:an->av->Prop)(Qp:AV->Prop)(S:an)(dst:Option Nat)(H:av)(v:AV):Prop:=bp P GI rest K Qp (aU S dst v) H
def kD(P:Program)(GI:World->Prop)(rest:List cq)(K:an->av->Prop)(S:an)(dst:Option Nat)(H:av)(v:AV):Prop:=c_ P GI rest K (aU S dst v) H
def iF(P:Program)(GI:World->Prop)(y:ae)(Q:de->an->av->Prop)(e:de)(S:an)(H:av):Prop:=dq (bB P GI y Q) Q e S H
def j0(Q:de->an->av->Prop)(S:an)(H:av)(v:AV):Prop:=Q (.panic v) S H
theorem eY(K Qp S H):bp P GI [] K Qp S H=K S H:=(Eq.refl _).trans (Eq.refl _)
theorem eh(K S H):c_ P GI [] K S H=K S H:=(Eq.refl _).trans (Eq.refl _)
theorem eg (f args d g rest K Qp S H):bp P GI (⟨d,g,.call f args⟩::rest) K Qp S H=(match aF S g with
  |some true=>kE P GI f (args.map λy=>fz H (ev S y)) (args.any λy=>dh (ev S y)) (kO P GI rest K Qp S d H) Qp
  |some false=>bp P GI rest K Qp (aU S d b0) H
  |none=>False):=(Eq.refl _).trans (Eq.refl _)
theorem dI (f args d g rest K Qp S H):bp P GI (⟨d,g,.gx f args⟩::rest) K Qp S H=(match aF S g with
  |some true=>(match ev S f with
   |.func (.func k) first cap=>kE P GI k ((first++args.map (ev S)++cap).map (fz H)) ((first++args.map (ev S)++cap).any dh) (kO P GI rest K Qp S d H) Qp
   |_=>False)
  |some false=>bp P GI rest K Qp (aU S d b0) H
  |none=>False):=(Eq.refl _).trans (Eq.refl _)
abbrev OE(P:Program)(GI:World->Prop)(op:fj):Prop:=∀d g rest K Qp S H,bp P GI (⟨d,g,op⟩::rest) K Qp S H=(match aF S g with|some true=>(match aG S H op with|some e=>bp P GI rest K Qp (e.S S d) (e.H H)|none=>False)|some false=>bp P GI rest K Qp (aU S d b0) H|none=>False)
abbrev DE(P:Program)(GI:World->Prop)(op:fj):Prop:=∀d g rest K S H,c_ P GI (⟨d,g,op⟩::rest) K S H=(match aF S g with|some true=>(match aG S H op with|some e=>c_ P GI rest K (e.S S d) (e.H H)|none=>False)|some false=>c_ P GI rest K (aU S d b0) H|none=>False)
theorem dK(t zero d rest K Qp S H):bp P GI (⟨some d,none,.alloc t zero⟩::rest) K Qp S H=bp P GI rest K Qp (ar (λt=>b_ d (S t)) d (.box d 0)) (ar H d (some zero)):=(Eq.refl _).trans (Eq.refl _)
theorem eX(t size x d rest K Qp S H):bp P GI (⟨some d,none,.box t size x⟩::rest) K Qp S H=((ev S x).cells.length=size/\(ev S x).storable=true/\bp P GI rest K Qp (ar (λt=>b_ d (S t)) d (.box d 0)) (ar H d (some ((ev S x).cells.map AV.aH)))):=(Eq.refl _).trans (Eq.refl _)
theorem dH (f args d g rest K S H):c_ P GI (⟨d,g,.call f args⟩::rest) K S H=(match aF S g with
  |some true=>(args.any λy=>dh (ev S y))=false/\kE P GI f (args.map λy=>fz H (ev S y)) (args.any λy=>dh (ev S y)) (kD P GI rest K S d H) (λ_=>False)
  |some false=>c_ P GI rest K (aU S d b0) H
  |none=>False):=(Eq.refl _).trans (Eq.refl _)
theorem dc(t zero d rest K S H):c_ P GI (⟨some d,none,.alloc t zero⟩::rest) K S H=c_ P GI rest K (ar S d (.box d 0)) H:=(Eq.refl _).trans (Eq.refl _)
theorem iI(rest K Qp S d H v):kO P GI rest K Qp S d H v=bp P GI rest K Qp (aU S d v) H:=(Eq.refl _).trans (Eq.refl _)
theorem iH(rest K S d H v):kD P GI rest K S d H v=c_ P GI rest K (aU S d v) H:=(Eq.refl _).trans (Eq.refl _)
theorem eZ :
  (∀x0 x1,OE P GI (.mv x0 x1))/\
  (∀x0 x1 x2,OE P GI (.pick x0 x1 x2))/\
  (∀x0 x1,OE P GI (.build x0 x1))/\
  (∀x0 x1 x2 x3,OE P GI (.buildSlice x0 x1 x2 x3))/\
  (∀x0 x1 x2 x3,OE P GI (.load x0 x1 x2 x3))/\
  (∀x0 x1,OE P GI (.loadT x0 x1))/\
  (∀x0 x1 x2 x3,OE P GI (.store x0 x1 x2 x3))/\
  (∀x0 x1 x2,OE P GI (.bin x0 x1 x2))/\
  (∀x0 x1 x2,OE P GI (.DJ x0 x1 x2))/\
  (∀x0 x1 x2 x3,OE P GI (.eqs x0 x1 x2 x3))/\
  (∀x0 x1 x2 x3 x4,OE P GI (.mX x0 x1 x2 x3 x4))/\
  (∀x0,OE P GI (.yW x0))/\
  (∀x0,OE P GI (.oY x0))/\
  (∀x0 x1 x2,OE P GI (.oU x0 x1 x2))/\
  (∀x0 x1 x2 x3,OE P GI (.lookup x0 x1 x2 x3))/\
  (∀x0,OE P GI (.not x0))/\
  (∀x0 x1,OE P GI (.conv x0 x1))/\
  (∀x0 x1,OE P GI (.iface x0 x1))/\
  (∀x0 x1 x2,OE P GI (.FA x0 x1 x2))/\
  (∀x0 x1 x2,OE P GI (.oV x0 x1 x2))/\
  (∀x0 x1 x2 x3,OE P GI (.mY x0 x1 x2 x3))/\
  (∀x0 x1,OE P GI (.pV x0 x1))/\
  (∀x0 x1,OE P GI (.fieldAddr x0 x1))/\
  (∀x0 x1 x2,OE P GI (.indexAddr x0 x1 x2))/\
  (∀x0 x1,OE P GI (.oW x0 x1))/\
  (∀x0 x1,OE P GI (.extract x0 x1))/\
  (∀x0,OE P GI (.yi x0))/\
  (∀x0,OE P GI (.lV x0))/\
  (∀x0 x1,OE P GI (.isNil x0 x1))/\
  (∀x0,OE P GI (.empty x0))/\
  (∀x0 x1 x2 x3 x4 x5,OE P GI (.append x0 x1 x2 x3 x4 x5))/\
  (∀x0 x1,OE P GI (.max x0 x1))/\
  (∀x0 x1,OE P GI (.min x0 x1))/\
  (∀x0 x1 x2,OE P GI (.assert x0 x1 x2)):=by
 refine⟨?_,?_,?_,?_,?_,?_,?_,?_,?_,?_,?_,?_,?_,?_,?_,?_,?_,?_,?_,?_,?_,?_,?_,?_,?_,?_,?_,?_,?_,?_,?_,?_,?_,?_⟩<;>intros<;>intro d<;>intros<;>rfl
theorem ec :
  (∀x0 x1,DE P GI (.mv x0 x1))/\
  (∀x0 x1 x2,DE P GI (.pick x0 x1 x2))/\
  (∀x0 x1,DE P GI (.build x0 x1))/\
  (∀x0 x1 x2 x3,DE P GI (.buildSlice x0 x1 x2 x3))/\
  (∀x0 x1 x2 x3,DE P GI (.load x0 x1 x2 x3))/\
  (∀x0 x1,DE P GI (.loadT x0 x1))/\
  (∀x0 x1 x2 x3,DE P GI (.store x0 x1 x2 x3))/\
  (∀x0 x1 x2,DE P GI (.bin x0 x1 x2))/\
  (∀x0 x1 x2,DE P GI (.DJ x0 x1 x2))/\
  (∀x0 x1 x2 x3,DE P GI (.eqs x0 x1 x2 x3))/\
  (∀x0 x1 x2 x3 x4,DE P GI (.mX x0 x1 x2 x3 x4))/\
  (∀x0,DE P GI (.yW x0))/\
  (∀x0,DE P GI (.oY x0))/\
  (∀x0 x1 x2,DE P GI (.oU x0 x1 x2))/\
  (∀x0 x1 x2 x3,DE P GI (.lookup x0 x1 x2 x3))/\
  (∀x0,DE P GI (.not x0))/\
  (∀x0 x1,DE P GI (.conv x0 x1))/\
  (∀x0 x1,DE P GI (.iface x0 x1))/\
  (∀x0 x1 x2,DE P GI (.FA x0 x1 x2))/\
  (∀x0 x1 x2,DE P GI (.oV x0 x1 x2))/\
  (∀x0 x1 x2 x3,DE P GI (.mY x0 x1 x2 x3))/\
  (∀x0 x1,DE P GI (.pV x0 x1))/\
  (∀x0 x1,DE P GI (.fieldAddr x0 x1))/\
  (∀x0 x1 x2,DE P GI (.indexAddr x0 x1 x2))/\
  (∀x0 x1,DE P GI (.oW x0 x1))/\
  (∀x0 x1,DE P GI (.extract x0 x1))/\
  (∀x0,DE P GI (.yi x0))/\
  (∀x0,DE P GI (.lV x0))/\
  (∀x0 x1,DE P GI (.isNil x0 x1))/\
  (∀x0,DE P GI (.empty x0))/\
  (∀x0 x1 x2 x3 x4 x5,DE P GI (.append x0 x1 x2 x3 x4 x5))/\
  (∀x0 x1,DE P GI (.max x0 x1))/\
  (∀x0 x1,DE P GI (.min x0 x1))/\
  (∀x0 x1 x2,DE P GI (.assert x0 x1 x2)):=by
 refine⟨?_,?_,?_,?_,?_,?_,?_,?_,?_,?_,?_,?_,?_,?_,?_,?_,?_,?_,?_,?_,?_,?_,?_,?_,?_,?_,?_,?_,?_,?_,?_,?_,?_,?_⟩<;>intros<;>intro d<;>intros<;>rfl
theorem eF :
  (∀Q S H,bB P GI .skip Q S H=Q .normal S H)/\
  (∀l Q S H,bB P GI (.ops l) Q S H=bp P GI l (Q .normal) (j0 Q S H) S H)/\
  (∀l Q S H,bB P GI (.c_ l) Q S H=c_ P GI l (Q .normal) (fh l S) (dW l H))/\
  (∀x y Q S H,bB P GI (.seq x y) Q S H=bB P GI x (iF P GI y Q) S H)/\
  (∀c x y Q S H,bB P GI (.cond c x y) Q S H=(match ev S c with
   |.bool true=>bB P GI x Q S H
   |.bool false=>bB P GI y Q S H
   |.pv=>bB P GI x Q S H/\bB P GI y Q S H
   |_=>False))/\
  (∀id c Q S H,bB P GI (.block id c) Q S H=bB P GI c (dz id Q) S H)/\
  (∀id Q S H,bB P GI (.exit id) Q S H=Q (.exit id) S H)/\
  (∀Q S H,bB P GI .ret Q S H=Q .ret S H)/\
  (∀y Q S H,iF P GI y Q .normal S H=bB P GI y Q S H)/\
  (∀y Q id S H,iF P GI y Q (.exit id) S H=Q (.exit id) S H)/\
  (∀y Q S H,iF P GI y Q .ret S H=Q .ret S H)/\
  (∀y Q v S H,iF P GI y Q (.panic v) S H=Q (.panic v) S H):=by
 refine⟨?_,?_,?_,?_,?_,?_,?_,?_,?_,?_,?_,?_⟩<;>intros<;>rfl
theorem fO :
  (∀id Q S H,dz id Q .normal S H=Q .normal S H)/\
  (∀id j Q S H,dz id Q (.exit j) S H=if j=id then Q .normal S H else Q (.exit j) S H)/\
  (∀id Q S H,dz id Q .ret S H=Q .ret S H)/\
  (∀id Q v S H,dz id Q (.panic v) S H=Q (.panic v) S H)/\
  (∀K Q S H,dq K Q .normal S H=K S H)/\
  (∀K Q id S H,dq K Q (.exit id) S H=Q (.exit id) S H)/\
  (∀K Q S H,dq K Q .ret S H=Q .ret S H)/\
  (∀K Q v S H,dq K Q (.panic v) S H=Q (.panic v) S H)/\
  (∀K S H,aK K .normal S H=K S H)/\
  (∀K id S H,aK K (.exit id) S H=False)/\
  (∀K S H,aK K .ret S H=False)/\
  (∀K v S H,aK K (.panic v) S H=False)/\
  (∀Q S H v,j0 Q S H v=Q (.panic v) S H)/\
  (∀v K Qp,iC (.ret v) K Qp=K v)/\
  (∀v K Qp,iC (.panic v) K Qp=Qp v):=by
 refine⟨?_,?_,?_,?_,?_,?_,?_,?_,?_,?_,?_,?_,?_,?_,?_⟩<;>intros<;>rfl
end
section
variable{P:Program}{GI:World->Prop}
theorem tE{f:Nat}{args:List AV}{b:Bool}{K K':AV->Prop}{Qp Bq:AV->Prop}(hK:∀v,K v->K' v)(hQ:∀v,Qp v->Bq v)(h:kE P GI f args b K Qp):kE P GI f args b K' Bq:=by
 obtain⟨out,h1,h2,h3,h4⟩:=h;refine⟨out,h1,h2,h3,?_⟩
 cases out with
 |ret v=>exact hK _ h4
 |panic v=>exact hQ _ h4
theorem kI{op:fj}{dst:Option Nat}{K K':an->av->Prop}{Qp Bq:AV->Prop}(hK:∀S H,K S H->K' S H)(hQ:∀v,Qp v->Bq v){S:an}{H:av}(h:bb P GI op dst K Qp S H):bb P GI op dst K' Bq S H:=by
 by_cases hc:op.calm=true
 .rw[Bf hc]at h⊢;split at h
  .exact hK _ _ h
  .exact h
 .cases op<;>first|(exfalso;exact hc rfl)|skip
  case alloc=>simp only[bb]at h⊢;split at h<;>first|exact hK _ _ h|exact h
  case box=>simp only[bb]at h⊢;split at h<;>first|exact⟨h.1,h.2.1,hK _ _ h.2.2⟩|exact h
  case call=>exact tE (λv=>hK _ _) hQ h
  case gx=>simp only[bb]at h⊢;split at h<;>first|exact tE (λv=>hK _ _) hQ h|exact h
  case panic=>simp only[bb]at h⊢;split at h<;>first|exact hQ _ h|exact h
  case other=>exact h
theorem nP{K K':an->av->Prop}{Qp Bq:AV->Prop}(hK:∀S H,K S H->K' S H)(hQ:∀v,Qp v->Bq v):∀(l:List cq)(S:an)(H:av),bp P GI l K Qp S H->bp P GI l K' Bq S H
 |[],S,H,h=>hK S H h
 |o::rest,S,H,h=>by
  simp only[bp]at h⊢;split at h
  .exact kI (λS H=>nP hK hQ rest S H) hQ h
  .exact nP hK hQ rest _ _ h
  .exact h
theorem CN{op:fj}{dst:Option Nat}{K K':an->av->Prop}(hK:∀S H,K S H->K' S H){S:an}{H:av}(h:iz P GI op dst K S H):iz P GI op dst K' S H:=by
 cases op
 case alloc=>simp only[iz]at h⊢;split at h<;>first|exact hK _ _ h|exact h
 case call=>exact⟨h.1,kI hK (λ_ h=>h) h.2⟩
 case gx=>exact⟨h.1,kI hK (λ_ h=>h) h.2⟩
 case box=>exact h.elim
 case panic=>exact h.elim
 case other=>exact h.elim
 all_goals
  simp only[iz]at h⊢;exact kI hK (λ_ h=>h) h
theorem rm{K K':an->av->Prop}(hK:∀S H,K S H->K' S H):∀(l:List cq)(S:an)(H:av),c_ P GI l K S H->c_ P GI l K' S H
 |[],S,H,h=>hK S H h
 |o::rest,S,H,h=>by
  simp only[c_]at h⊢;split at h
  .exact CN (λS H=>rm hK rest S H) h
  .exact rm hK rest _ _ h
  .exact h
theorem kA{K K':an->av->Prop}{Q Q':de->an->av->Prop}(hK:∀S H,K S H->K' S H)(h:∀e S H,Q e S H->Q' e S H)(e:de)(S:an)(H:av)(hq:dq K Q e S H):dq K' Q' e S H:=by
 cases e with
 |normal=>exact hK S H hq
 |exit id=>exact h _ S H hq
 |ret=>exact h _ S H hq
 |panic v=>exact h _ S H hq
theorem eA:∀(c:ae){Q Q':de->an->av->Prop}(_:∀e S H,Q e S H->Q' e S H){S:an}{H:av},bB P GI c Q S H->bB P GI c Q' S H
 |.skip,_,_,h,_,_,hq=>h _ _ _ hq
 |.ops l,_,_,h,_,_,hq=>nP (λS H=>h _ S H) (λv=>h _ _ _) l _ _ hq
 |.c_ l,_,_,h,_,_,hq=>rm (λS H=>h _ S H) l _ _ hq
 |.seq x y,_,_,h,_,_,hq=>eA x (kA (λ_ _=>eA y h) h) hq
 |.cond c x y,_,_,h,S,H,hq=>by
  simp only[bB]at hq⊢;split at hq
  .exact eA x h hq
  .exact eA y h hq
  .exact⟨eA x h hq.1,eA y h hq.2⟩
  .exact hq
 |.block id c,Q,Q',h,_,_,hq=>eA c (fun e S H hb=>by
   cases e with
   |normal=>exact h _ S H hb
   |exit j=>
    by_cases hj:j=id
    .simp only[dz,if_pos hj]at hb⊢;exact h _ S H hb
    .simp only[dz,if_neg hj]at hb⊢;exact h _ S H hb
   |ret=>exact h _ S H hb
   |panic v=>exact h _ S H hb) hq
 |.loop c,_,_,h,_,_,⟨I,μ,h0,hi⟩=>⟨I,μ,h0,λS H hI=>eA c (kA (λ_ _ h=>h) h) (hi S H hI)⟩
 |.exit id,_,_,h,_,_,hq=>h _ _ _ hq
 |.ret,_,_,h,_,_,hq=>h _ _ _ hq
 |.bad,_,_,_,_,_,hq=>hq
theorem aI{x y:ae}{Q:de->an->av->Prop}{S:an}{H:av}(K:an->av->Prop)(hx:bB P GI x (aK K) S H)(hy:∀S' H',K S' H'->bB P GI y Q S' H'):bB P GI (.seq x y) Q S H:=by
 refine eA x (λe S H h=>?_) hx
 cases e with
 |normal=>exact hy S H h
 |exit id=>exact h.elim
 |ret=>exact h.elim
 |panic v=>exact h.elim
theorem As{c:dR}{y z:ae}{Q:de->an->av->Prop}{S:an}{H:av}(h:ev S c=.bool true)(hy:bB P GI y Q S H):bB P GI (.seq (.cond c .skip z) y) Q S H:=by
 simp only[bB,h];exact hy
theorem Jy{c:dR}{y z:ae}{Q:de->an->av->Prop}{S:an}{H:av}(h:ev S c=.bool false)(hy:bB P GI y Q S H):bB P GI (.seq (.cond c z .skip) y) Q S H:=by
 simp only[bB,h];exact hy
theorem AY{id:Nat}{c y:ae}{Q:de->an->av->Prop}{S:an}{H:av}(h:bB P GI c (dz id (iF P GI y Q)) S H):bB P GI (.seq (.block id c) y) Q S H:=h
theorem y0{x y z:ae}{Q:de->an->av->Prop}{S:an}{H:av}(K:an->av->Prop)(hx:bB P GI x (aK K) S H)(hy:∀S' H',K S' H'->bB P GI (.seq y z) Q S' H'):bB P GI (.seq (.seq x y) z) Q S H:=by
 refine eA x (λe S H h=>?_) hx
 cases e with
 |normal=>
  refine eA y (λe S H h=>?_) (hy S H h)
  cases e<;>exact h
 |exit id=>exact h.elim
 |ret=>exact h.elim
 |panic v=>exact h.elim
theorem bP {c:ae} {Q:de→an→av→Prop} {S:an} {H:av} (t n:Nat) (I:Nat→an→av→Prop) (Kz:∀ i S H,I i S H→S t = .int .i64 (i:Nat)) (h0:I 0 S H)
  (hs:∀i,i<=n->∀S H,I i S H->bB P GI c (dq (λS' H'=>i<n/\I (i+1) S' H') Q) S H):bB P GI (.loop c) Q S H:=by
 refine⟨λS H=>∃i,i<=n/\I i S H,λS _=>match S t with|.int _ k=>n-k.toNat|_=>0,⟨0,abZ _,h0⟩,?_⟩;rintro S H ⟨i,hi,hI⟩;refine eA c (kA (λS' H' h=>?_) (λ_ _ _ h=>h)) (hs i hi S H hI);refine⟨⟨i+1,h.1,h.2⟩,?_⟩;have e1:=Kz _ _ _ hI;have e2:=Kz _ _ _ h.2;simp only[e1,e2,Int.toNat_natCast];have:=h.1;omega
end
def firstT{α:Type}(p:α->Bool)(l:List α):Int:=if l.any p then(l.findIdx p:Nat)else-1
theorem l8 {α:Type} {p:α→Bool} {l:List α} {i:Nat} (hi:i < l.length) (hp:p l[i]=true) (hb:∀ j (hj:j < l.length),j < i→p l[j]=false):firstT p l=(i:Nat):=by
  unfold firstT;rw[if_pos (acQ.2 ⟨l[i],aba hi,hp⟩),(List.findIdx_eq hi).2 ⟨hp,λj gp=>hb j (by omega) gp⟩]
theorem iO {α:Type} {p:α→Bool} {l:List α} (hb:∀ j (hj:j < l.length),p l[j]=false):firstT p l = -1:=by
  unfold firstT;rw[if_neg];intro h;obtain⟨x,hx,hp⟩:=acQ.1 h;obtain⟨j,hj,rfl⟩:=abP hx;rw[hb j hj]at hp;cases hp
theorem jN {α:Type} {p:α→Bool} {l:List α}:decide (0≤firstT p l)=l.any p:=by
  unfold firstT
  cases h:l.any p<;>simp
def jW{α:Type}(p:α->Bool)(lt:α->α->Bool)(l:List α):Bool:=l.all p&&(List.range (l.length-1)).all λi=>match l[i]?,l[i+1]? with|some a,some b=>lt a b|_,_=>true
theorem mA{α:Type}{p:α->Bool}{lt:α->α->Bool}{l:List α}{i:Nat}(hi:i<l.length)(hp:p l[i]=false):jW p lt l=false:=by
 unfold jW;rw[adz];exact .inl (adT.2 ⟨_,aba hi,by simp[hp]⟩)
theorem lK{α:Type}{p:α->Bool}{lt:α->α->Bool}{l:List α}{i:Nat}(hi:i+1<l.length)(hp:lt (l[i]'(by omega)) l[i+1]=false):jW p lt l=false:=by
 unfold jW;rw[adz];refine .inr (adT.2 ⟨i,abC.2 (by omega),?_⟩);simp[hi,show i<l.length by omega,hp]
theorem nW{α:Type}{p:α->Bool}{lt:α->α->Bool}{l:List α}(h1:∀j (hj:j<l.length),p l[j]=true)(h2:∀j (hj:j+1<l.length),lt (l[j]'(by omega)) l[j+1]=true):jW p lt l=true:=by
 unfold jW;rw[abc]
 constructor
 .rw[abt];intro x hx;obtain⟨j,hj,rfl⟩:=abP hx;exact h1 j hj
 .rw[abt];intro j hj;rw[abC]at hj;simp[show j<l.length by omega,show j+1<l.length by omega,h2 j (by omega)]
theorem rL{α:Type}{p:α->Bool}{l:List α}(h:∀j (hj:j<l.length),p l[j]=true):l.all p=true:=by
 rw[abt];intro x hx;obtain⟨j,hj,rfl⟩:=abP hx;exact h j hj
theorem pG{α:Type}{p:α->Bool}{l:List α}{i:Nat}(hi:i<l.length)(hp:p l[i]=false):l.all p=false:=adT.2 ⟨_,aba hi,by simp[hp]⟩
theorem nO{α:Type}(p:α->Bool)(l:List α):(!(l.any λx=>!p x))=l.all p:=by
 induction l with
 |nil=>rfl
 |cons a l ih=>simp[List.any_cons,List.all_cons,<-ih]
theorem kh{α:Type}{p:α->Bool}{l:List α}{i:Nat}(hi:i<l.length)(hb:∀j (hj:j<l.length),j<i->p l[j]=true)(hp:p l[i]=true):∀j (hj:j<l.length),j<i+1->p l[j]=true:=by
 intro j hj gp
 by_cases e:j=i
 .subst e;exact hp
 .exact hb j hj (by omega)
theorem sY{α:Type}{lt:α->α->Bool}{l:List α}{k:Nat}(hi:k+1<l.length)(hb:∀j (hj:j+1<l.length),j+1<k+1->lt (l[j]'(by omega)) l[j+1]=true)(hp:lt (l[k]'(by omega)) l[k+1]=true):∀j (hj:j+1<l.length),j+1<k+1+1->lt (l[j]'(by omega)) l[j+1]=true:=by
 intro j hj gp
 by_cases e:j=k
 .subst e;exact hp
 .exact hb j hj (by omega)
section
variable{P:Program}{GI:World->Prop}
end
theorem AC.nj{P:Program}{GI:World->Prop}{f:Nat}{args:List AV}{o:Ow}{es:List AV}(h:AC P GI f args (.ret (.slice o es))):AC P GI f args (.ret (.slice .view es)):=by
 intro w old bI h1 h2 h3;refine(h w old bI h1 h2 h3).mono ?_;rintro e w' ⟨hb,hi,h0,c,rfl,hv,_⟩;refine⟨hb,hi,h0,c,rfl,?_,trivial⟩
 cases hv with
 |data _ _ h=>exact .data _ _ (Go.Proofs.Tryz.RD.Ch h)
theorem lY(l:List Int):aM 1 (ints l)=true:=by simp[aM,ints,AV.storable,AV.cells]
def grown(l:List Int):AV:=.slice (if l.isEmpty then .nil else .own 3) (ints l)
theorem fB{α:Type}{p:α->Bool}{lt:α->α->Bool}{l:List α}:jW p lt l=true↔(∀x∈l,p x=true)/\∀j (hj:j+1<l.length),lt (l[j]'(by omega)) l[j+1]=true:=by
 unfold jW;rw[abc,abt,abt]
 constructor
 .rintro⟨h1,h2⟩;refine⟨h1,λj hj=>?_⟩;have:=h2 j (abC.2 (by omega));simpa[show j<l.length by omega,hj]using this
 .rintro⟨h1,h2⟩;refine⟨h1,λj hj=>?_⟩;rw[abC]at hj;have:=h2 j (by omega);simpa[show j<l.length by omega,show j+1<l.length by omega]using this
theorem Gb{l:List Int}(h:∀j (hj:j+1<l.length),l[j]<l[j+1]):l.Pairwise λa b=>a<b:=by
 rw[acu];intro i j hi hj oy
 obtain⟨d,rfl⟩:∃d,j=i+1+d:=⟨j-i-1,by omega⟩
 clear oy
 induction d with
 |zero=>exact h i hj
 |succ d ih=>
  have h1:=ih (by omega);have h2:=h (i+1+d) hj;exact Int.lt_trans h1 h2
section
variable{P:Program}{GI:World->Prop}
theorem Er {c:ae} {Q:de→an→av→Prop} {S:an} {H:av} (t n:Nat) (I:Nat→an→av→Prop) (Kz:∀ i S H,I i S H→S t = .int .i64 ((i:Nat) - 1)) (h0:I n S H)
  (hs:∀i,i<=n->∀S H,I i S H->bB P GI c (dq (λS' H'=>0<i/\I (i-1) S' H') Q) S H):bB P GI (.loop c) Q S H:=by
 refine⟨λS H=>∃i,i<=n/\I i S H,λS _=>match S t with|.int _ k=>(k+1).toNat|_=>0,⟨n,abg _,h0⟩,?_⟩;rintro S H ⟨i,hi,hI⟩;refine eA c (kA (λS' H' h=>?_) (λ_ _ _ h=>h)) (hs i hi S H hI);refine⟨⟨i-1,by omega,h.2⟩,?_⟩;have e1:=Kz _ _ _ hI;have e2:=Kz _ _ _ h.2;simp only[e1,e2];have:=h.1;omega
end
section
variable{P:Program}{GI:World->Prop}
theorem yF :
  (∀x0 x1,OE P GI (.mv x0 x1))/\
  (∀x0 x1 x2,OE P GI (.pick x0 x1 x2))/\
  (∀x0 x1,OE P GI (.build x0 x1))/\
  (∀x0 x1 x2 x3,OE P GI (.buildSlice x0 x1 x2 x3))/\
  (∀x0 x1 x2 x3,OE P GI (.load x0 x1 x2 x3))/\
  (∀x0 x1,OE P GI (.loadT x0 x1))/\
  (∀x0 x1 x2 x3,OE P GI (.store x0 x1 x2 x3))/\
  (∀x0 x1 x2,OE P GI (.bin x0 x1 x2))/\
  (∀x0 x1 x2,OE P GI (.DJ x0 x1 x2))/\
  (∀x0 x1 x2 x3,OE P GI (.eqs x0 x1 x2 x3))/\
  (∀x0 x1 x2 x3 x4,OE P GI (.mX x0 x1 x2 x3 x4))/\
  (∀x0,OE P GI (.yW x0))/\
  (∀x0,OE P GI (.oY x0))/\
  (∀x0 x1 x2,OE P GI (.oU x0 x1 x2))/\
  (∀x0 x1 x2 x3,OE P GI (.lookup x0 x1 x2 x3))/\
  (∀x0,OE P GI (.not x0))/\
  (∀x0 x1,OE P GI (.conv x0 x1))/\
  (∀x0 x1,OE P GI (.iface x0 x1))/\
  (∀x0 x1 x2,OE P GI (.FA x0 x1 x2))/\
  (∀x0 x1 x2,OE P GI (.oV x0 x1 x2))/\
  (∀x0 x1 x2 x3,OE P GI (.mY x0 x1 x2 x3))/\
  (∀x0 x1,OE P GI (.pV x0 x1))/\
  (∀x0 x1,OE P GI (.fieldAddr x0 x1))/\
  (∀x0 x1 x2,OE P GI (.indexAddr x0 x1 x2))/\
  (∀x0 x1,OE P GI (.oW x0 x1))/\
  (∀x0 x1,OE P GI (.extract x0 x1))/\
  (∀x0,OE P GI (.yi x0))/\
  (∀x0,OE P GI (.lV x0))/\
  (∀x0 x1,OE P GI (.isNil x0 x1))/\
  (∀x0,OE P GI (.empty x0))/\
  (∀x0 x1,OE P GI (.max x0 x1))/\
  (∀x0 x1,OE P GI (.min x0 x1))/\
  (∀x0 x1 x2,OE P GI (.assert x0 x1 x2)):=by
 refine⟨?_,?_,?_,?_,?_,?_,?_,?_,?_,?_,?_,?_,?_,?_,?_,?_,?_,?_,?_,?_,?_,?_,?_,?_,?_,?_,?_,?_,?_,?_,?_,?_,?_⟩<;>intros<;>intro d<;>intros<;>rfl
theorem wj :
  (∀x0 x1,DE P GI (.mv x0 x1))/\
  (∀x0 x1 x2,DE P GI (.pick x0 x1 x2))/\
  (∀x0 x1,DE P GI (.build x0 x1))/\
  (∀x0 x1 x2 x3,DE P GI (.buildSlice x0 x1 x2 x3))/\
  (∀x0 x1 x2 x3,DE P GI (.load x0 x1 x2 x3))/\
  (∀x0 x1,DE P GI (.loadT x0 x1))/\
  (∀x0 x1 x2 x3,DE P GI (.store x0 x1 x2 x3))/\
  (∀x0 x1 x2,DE P GI (.bin x0 x1 x2))/\
  (∀x0 x1 x2,DE P GI (.DJ x0 x1 x2))/\
  (∀x0 x1 x2 x3,DE P GI (.eqs x0 x1 x2 x3))/\
  (∀x0 x1 x2 x3 x4,DE P GI (.mX x0 x1 x2 x3 x4))/\
  (∀x0,DE P GI (.yW x0))/\
  (∀x0,DE P GI (.oY x0))/\
  (∀x0 x1 x2,DE P GI (.oU x0 x1 x2))/\
  (∀x0 x1 x2 x3,DE P GI (.lookup x0 x1 x2 x3))/\
  (∀x0,DE P GI (.not x0))/\
  (∀x0 x1,DE P GI (.conv x0 x1))/\
  (∀x0 x1,DE P GI (.iface x0 x1))/\
  (∀x0 x1 x2,DE P GI (.FA x0 x1 x2))/\
  (∀x0 x1 x2,DE P GI (.oV x0 x1 x2))/\
  (∀x0 x1 x2 x3,DE P GI (.mY x0 x1 x2 x3))/\
  (∀x0 x1,DE P GI (.pV x0 x1))/\
  (∀x0 x1,DE P GI (.fieldAddr x0 x1))/\
  (∀x0 x1 x2,DE P GI (.indexAddr x0 x1 x2))/\
  (∀x0 x1,DE P GI (.oW x0 x1))/\
  (∀x0 x1,DE P GI (.extract x0 x1))/\
  (∀x0,DE P GI (.yi x0))/\
  (∀x0,DE P GI (.lV x0))/\
  (∀x0 x1,DE P GI (.isNil x0 x1))/\
  (∀x0,DE P GI (.empty x0))/\
  (∀x0 x1,DE P GI (.max x0 x1))/\
  (∀x0 x1,DE P GI (.min x0 x1))/\
  (∀x0 x1 x2,DE P GI (.assert x0 x1 x2)):=by
 refine⟨?_,?_,?_,?_,?_,?_,?_,?_,?_,?_,?_,?_,?_,?_,?_,?_,?_,?_,?_,?_,?_,?_,?_,?_,?_,?_,?_,?_,?_,?_,?_,?_,?_⟩<;>intros<;>intro d<;>intros<;>rfl
theorem az(x0 x1 x2 x3 x4 x5):OE P GI (.append x0 x1 x2 x3 x4 x5):=eZ.2.2.2.2.2.2.2.2.2.2.2.2.2.2.2.2.2.2.2.2.2.2.2.2.2.2.2.2.2.2.1 x0 x1 x2 x3 x4 x5
theorem aq(x0 x1 x2 x3 x4 x5):DE P GI (.append x0 x1 x2 x3 x4 x5):=ec.2.2.2.2.2.2.2.2.2.2.2.2.2.2.2.2.2.2.2.2.2.2.2.2.2.2.2.2.2.2.1 x0 x1 x2 x3 x4 x5
def grow(e:Nat)(l:List AV):AV:=.slice (if l=[]then .nil else .own e) l
theorem G9(e:Nat):grow e []=.slice .nil []:=by unfold grow;rw[if_pos rfl]
theorem P9 {S:an} {H:av} {t e size cap i j:Nat} {l:List AV} {v:AV} {o:Ow} (hi:S i=grow e l) (hj:S j = .slice o [v]) (hv:aM size [v]=true) (hl:aM size l=true) (hn:l.length+1 < 1048576) :
  ∃dm,(dm=none\/dm=some i)/\aG S H (.append t e size cap (.t i) (.t j))=some { v:=grow e (l++[v]),dm:=dm }:=by
 have ei:ev S (.t i)=grow e l:=hi;have ej:ev S (.t j)=.slice o [v]:=hj
 cases l with
 |nil=>
  refine⟨none,.inl rfl,?_⟩;simp only[aG];rw[ei,ej,G9];simp[hv,grow]
 |cons x l=>
  refine⟨some i,.inr rfl,?_⟩
  have Gj:l.length+1+1<1048576:=by simpa using hn
  simp only[aG];rw[ei,ej];simp[grow,hv,hl,bz,Gj]
theorem sL{S:an}{i d:Nat}{dm:Option Nat}(hd:dm=none\/dm=some i)(v:AV):(aO.S { v:=v,dm:=dm } S (some d)) d=v/\∀k,k≠d->k≠i->aO.S { v:=v,dm:=dm } S (some d) k=S k:=by
 rcases hd with rfl|rfl
 .refine⟨by simp[aO.S,aU,ar],λk h1 _=>by simp[aO.S,aU,ar,h1]⟩
 .refine⟨by simp[aO.S,aU,ar],λk h1 h2=>by simp[aO.S,aU,ar,h1,h2]⟩
theorem kl {K:an→av→Prop} {Qp:AV→Prop} {S:an} {H:av} {t e size cap d i j:Nat} {rest:List cq} (l:List AV) (v:AV) (o:Ow) (hi:S i=grow e l) (hj:S j = .slice o [v]) (hv:aM size [v]=true) (hl:aM size l=true) (hn:l.length+1 < 1048576)
  (h:∀S',S' d=grow e (l++[v])->(∀k,k≠d->k≠i->S' k=S k)->bp P GI rest K Qp S' H):bp P GI (⟨some d,none,.append t e size cap (.t i) (.t j)⟩::rest) K Qp S H:=by
 obtain⟨dm,GC,j_⟩:=P9 (t:=t) (cap:=cap) (H:=H) hi hj hv hl hn;obtain⟨k1,k2⟩:=sL (S:=S) (d:=d) GC (grow e (l++[v]));rw[eZ.2.2.2.2.2.2.2.2.2.2.2.2.2.2.2.2.2.2.2.2.2.2.2.2.2.2.2.2.2.2.1];simp only[aF,j_];exact h _ k1 k2
theorem sT {K:an→av→Prop} {S:an} {H:av} {t e size cap d i j:Nat} {rest:List cq} (l:List AV) (v:AV) (o:Ow) (hi:S i=grow e l) (hj:S j = .slice o [v]) (hv:aM size [v]=true) (hl:aM size l=true) (hn:l.length+1 < 1048576)
  (h:∀S',S' d=grow e (l++[v])->(∀k,k≠d->k≠i->S' k=S k)->c_ P GI rest K S' H):c_ P GI (⟨some d,none,.append t e size cap (.t i) (.t j)⟩::rest) K S H:=by
 obtain⟨dm,GC,j_⟩:=P9 (t:=t) (cap:=cap) (H:=H) hi hj hv hl hn;obtain⟨k1,k2⟩:=sL (S:=S) (d:=d) GC (grow e (l++[v]));rw[ec.2.2.2.2.2.2.2.2.2.2.2.2.2.2.2.2.2.2.2.2.2.2.2.2.2.2.2.2.2.2.1];simp only[aF,j_];exact h _ k1 k2
theorem jA{α:Type}{f:α->AV}{size:Nat}{l:List α}(h:∀a,(f a).storable=true/\(f a).cells.length=size):aM size (l.map f)=true:=by
 simp[aM,h]
end
theorem Dv {P:Program} {GI:World→Prop} (x d rest K Qp S H):bp P GI (⟨d,none,.panic x⟩::rest) K Qp S H=(match ev S x with
  |.iface t v=>Qp (.iface t v)
  |_=>False):=rfl
section
variable{P:Program}{GI:World->Prop}
end
section
variable{P:Program}{GI:World->Prop}
end
end Go.AL
namespace Go.Proofs.Tryz
open Go Go.AL Go.RowKit Go.Proofs Go.Proofs.Tram
attribute [local simp] eF fO eZ ec eY eh eg dI dK eX dH dc iI iH aF aG ev aO.S aO.H bz ar aU AL.start AV.cells AV.storable AV.cb bu b_ eG ck HR.okB post cE cW cV AV.out AV.bZ cM eB fz iu AV.vw dh vI int b0 aK dq dz iF j0 fh dW bV AV.aH AV.cn
variable{GI:World->Prop}
theorem Tc (hG:au GI) (l:List Int) (hl:l.length < 1000000) (k:Nat) (caps:List AV) (mr:caps=[]∨∃ c,caps=[.ref c]) (p:Int→Bool) (hk:dL prog k=true) (h:∀ x∈l,AC prog GI k ([.int .i64 x]++caps) (.ret (.bool (p x)))) :
    AC prog GI 184 [.slice .view (l.map (.int .i64)),.func (.func k) [] caps] (.ret (.int .i64 (firstT p l))):=by
  refine cd hG func184 ntmps184 c184 ?_
  rcases mr with rfl|⟨c,rfl⟩<;>
  (simp[c184]
   refine bP 8 l.length (λi S H=>S 0=.slice .view (l.map (.int .i64))/\S 1=_/\S 7=.int .i64 l.length/\S 8=.int .i64 (i:Nat)/\∀j (hj:j<l.length),j<i->p l[j]=false) (λi S H h=>h.2.2.2.1) ⟨by simp,by simp<;>rfl,by simp,by simp,by simp⟩ ?_;rintro i hi S H ⟨s0,s1,s7,s8,hb⟩
   by_cases aw:i<l.length
   . have hw:IntKind.i64.wrap ((i:Int)+1)=i+1:=aS (by omega)
     have hx:=h l[i] (aba aw);cases hp:p l[i]
     . simp [abl,s0,s1,s7,s8,aw]
       refine⟨_,hk,hx,by simp[dh],?_⟩;simp[s0,s1,s7,s8,aw,hp,hw];intro j hj gp
       by_cases BH:j=i
       . subst BH;exact hp
       . exact hb j hj (by omega)
     . simp [abl,s0,s1,s7,s8,aw]
       refine⟨_,hk,hx,by simp[dh],?_⟩;simp[s0,s1,s7,s8,aw,hp,hw];exact l8 aw hp hb
   . have cU:i=l.length:=by omega
     subst cU;simp[s0,s1,s7,s8]
     exact iO λj hj=>hb j hj hj)
theorem Kg (hG:au GI) (l:List Int) (hl:l.length < 1000000) (k:Nat) (caps:List AV) (mr:caps=[]∨∃ c,caps=[.ref c]) (p:Int→Bool) (hk:dL prog k=true) (h:∀ x∈l,AC prog GI k ([.int .i64 x]++caps) (.ret (.bool (p x)))) :
    AC prog GI 143 [.slice .view (l.map (.int .i64)),.func (.func k) [] caps] (.ret (.bool (l.any p))):=by
  have hF:=Tc hG l hl k caps mr p hk h;refine cd hG func143 ntmps143 c143 ?_
  rcases mr with rfl|⟨c,rfl⟩<;>
  (simp[c143]
   refine⟨_,by kernel_rfl,hF,λ_=>rfl,?_⟩;simp
   exact jN.symm)
theorem RS (hG:au GI) (l:List Word) (hl:l.length < 1000000) (k:Nat) (caps:List AV) (mr:caps=[]∨∃ c,caps=[.ref c]) (p:Word→Bool) (hk:dL prog k=true) (h:∀ x∈l,AC prog GI k ([cG x]++caps) (.ret (.bool (p x)))) :
    AC prog GI 185 [.slice .view (l.map cG),.func (.func k) [] caps] (.ret (.int .i64 (firstT p l))):=by
  refine cd hG func185 ntmps185 c185 ?_
  rcases mr with rfl|⟨c,rfl⟩<;>
  (simp[c185]
   refine bP 8 l.length (λi S H=>S 0=.slice .view (l.map cG)/\S 1=_/\S 7=.int .i64 l.length/\S 8=.int .i64 (i:Nat)/\∀j (hj:j<l.length),j<i->p l[j]=false) (λi S H h=>h.2.2.2.1) ⟨by simp,by simp<;>rfl,by simp,by simp,by simp⟩ ?_;rintro i hi S H ⟨s0,s1,s7,s8,hb⟩
   by_cases aw:i<l.length
   . have hw:IntKind.i64.wrap ((i:Int)+1)=i+1:=aS (by omega)
     have hx:=h l[i] (aba aw);cases hp:p l[i]
     . simp [abl,cG,s0,s1,s7,s8,aw]
       refine⟨_,hk,hx,by simp[dh],?_⟩;simp[s0,s1,s7,s8,aw,hp,hw];intro j hj gp
       by_cases BH:j=i
       . subst BH;exact hp
       . exact hb j hj (by omega)
     . simp [abl,cG,s0,s1,s7,s8,aw]
       refine⟨_,hk,hx,by simp[dh],?_⟩;simp[s0,s1,s7,s8,aw,hp,hw];exact l8 aw hp hb
   . have cU:i=l.length:=by omega
     subst cU;simp[s0,s1,s7,s8]
     exact iO λj hj=>hb j hj hj)
theorem Rm (hG:au GI) (l:List Word) (hl:l.length < 1000000) (k:Nat) (caps:List AV) (mr:caps=[]∨∃ c,caps=[.ref c]) (p:Word→Bool) (hk:dL prog k=true) (h:∀ x∈l,AC prog GI k ([cG x]++caps) (.ret (.bool (p x)))) :
    AC prog GI 145 [.slice .view (l.map cG),.func (.func k) [] caps] (.ret (.bool (l.any p))):=by
  have hF:=RS hG l hl k caps mr p hk h;refine cd hG func145 ntmps145 c145 ?_
  rcases mr with rfl|⟨c,rfl⟩<;>
  (simp[c145]
   refine⟨_,by kernel_rfl,hF,λ_=>rfl,?_⟩;simp
   exact jN.symm)
theorem OG(hG:au GI)(a b:List Int)(ha:a.length<1000000):AC prog GI 58 [vI a,vI b] (.ret (.bool (a==b))):=by
 refine cd hG func58 ntmps58 c58 ?_
 by_cases hl:a.length=b.length
 case neg=>
  have cC:(a==b)=false:=by
   rw[abU]
   exact λh=>hl (congrArg List.length h)
  have BN:((a.length:Int)!=(b.length:Int))=true:=by simp;omega
  simp[c58,BN,cC]
 simp[c58,hl];refine bP 5 b.length (λi S H=>S 0=vI a/\S 1=vI b/\S 5=.int .i64 (i:Nat)/\∀j (hj:j<a.length),j<i->a[j]=b[j]'(by omega)) (λi S H h=>h.2.2.1) ⟨by simp,by simp,by simp,by simp⟩ ?_;rintro i hi S H ⟨s0,s1,s5,hb⟩
 by_cases aw:i<b.length
 .have lj:i<a.length:=by omega
  have hw:IntKind.i64.wrap ((i:Int)+1)=i+1:=aS (by omega)
  by_cases he:a[i]=b[i]
  .have GV:(a[i]!=b[i])=false:=by simp[he]
   simp[s0,s1,s5,aw,lj,GV,hw];intro j hj gp
   by_cases e:j=i
   .subst e;exact he
   .exact hb j hj (by omega)
  .have cC:(a==b)=false:=by
    rw[abU];rintro rfl;exact he rfl
   have GV:(a[i]!=b[i])=true:=by simp[he]
   simp[s0,s1,s5,aw,lj,GV,cC]
 .have cU:i=b.length:=by omega
  subst cU
  have rJ:a=b:=adL hl λj h1 h2=>hb j h1 (by omega)
  simp[s0,s1,s5,rJ]
theorem Sh(hG:au GI)(l:List Int)(hl:l.length<1000000)(v:Int):AC prog GI 216 [vI l,.int .i64 v] (.ret (.int .i64 (firstT (v==·) l))):=by
 refine cd hG func216 ntmps216 c216 ?_;simp[c216];refine bP 8 l.length (λi S H=>S 0=vI l/\S 1=.int .i64 v/\S 7=.int .i64 l.length/\S 8=.int .i64 (i:Nat)/\∀j (hj:j<l.length),j<i->(v==l[j])=false) (λi S H h=>h.2.2.2.1) ⟨by simp,by simp,by simp,by simp,by simp⟩ ?_;rintro i hi S H ⟨s0,s1,s7,s8,hb⟩
 by_cases aw:i<l.length
 .have hw:IntKind.i64.wrap ((i:Int)+1)=i+1:=aS (by omega);cases he:v==l[i]
  .simp[s0,s1,s7,s8,aw,he,hw];intro j hj gp
   by_cases e:j=i
   .subst e;simpa using he
   .simpa using hb j hj (by omega)
  .simp[s0,s1,s7,s8,aw,he,hw];exact l8 aw he hb
 .have cU:i=l.length:=by omega
  subst cU;simp[s0,s1,s7,s8]
  exact iO λj hj=>hb j hj hj
theorem E0(hG:au GI)(l:List Int)(hl:l.length<1000000)(v:Int):AC prog GI 198 [vI l,.int .i64 v] (.ret (.bool (l.contains v))):=by
 refine cd hG func198 ntmps198 c198 ?_;simp[c198];refine⟨_,by kernel_rfl,Sh hG l hl v,λ_=>rfl,?_⟩;simp;have:=jN (p:=(v==·)) (l:=l);rw[ab6]at this;simpa using this.symm
theorem wF(a b:Int):mW [.int .i64 a,.int .i64 b]=some [a,b]:=rfl
end Go.Proofs.Tryz
namespace Go.Proofs.Tryz
open Go Go.AL Go.RowKit Go.Proofs Go.Proofs.Tram
variable{GI:World->Prop}
def Rs:AV->Option Word
 |.agg [s,c,.bool b]=>match MQ s with
  |some s=>match MQ c with
   |some c=>some ⟨s,c,b⟩
   |none=>none
  |none=>none
 |_=>none
def Rd:AV->Option jL
 |.agg [.int .i64 a,.int .i64 b,.int .i64 c,.int .i64 d]=>some ⟨a,b,c,d⟩
 |_=>none
def YQ:AV->Option End
 |.agg [.int .i64 a,.int .i64 b]=>some (a,b)
 |_=>none
deriving instance DecidableEq for jL
deriving instance DecidableEq for Word
structure aD where
 a_:List Int
 aQ:List jL
 gX:Int
 gL:Int
 lu:Int
 lI:Int
 cz:Int
 words:List Word
 wide:Int
 rows:Int
deriving DecidableEq
def af(s:aD):List AV:=[vI s.a_,.slice .view (s.aQ.map dj),.int .i64 s.gX,.int .i64 s.gL,.int .i64 s.lu,.int .i64 s.lI,.int .i64 s.cz,.slice .view (s.words.map cG),.int .i64 s.wide,.int .i64 s.rows]
def di(s:aD):AV:=.agg (af s)
def Ar:AV->Option aD
 |.agg [w,.slice .view ps,.int .i64 a,.int .i64 b,.int .i64 c,.int .i64 d,.int .i64 e,.slice .view ws,.int .i64 f,.int .i64 g]=>match MQ w with
  |some w=>match om Rd ps with
   |some ps=>match om Rs ws with
    |some ws=>some ⟨w,ps,a,b,c,d,e,ws,f,g⟩
    |none=>none
   |none=>none
  |none=>none
 |_=>none
def ye:AV->Option (List Int×List End)
 |.agg [o,.slice .view es]=>match MQ o with
  |some o=>match om YQ es with
   |some es=>some (o,es)
   |none=>none
  |none=>none
 |_=>none
def q1(s:aD)(out:ez):List AV->Option ez
 |[a]=>match Ar a with
  |some x=>bif decide (x=s)then some out else none
  |none=>none
 |_=>none
def q2(s:aD)(es:List End)(out:ez):List AV->Option ez
 |[a,b]=>match Ar a with
  |some x=>match ye b with
   |some y=>bif decide (x=s)&&decide (y=([],es))then some out else none
   |none=>none
  |none=>none
 |_=>none
def q3(s:aD)(es:List End)(n:Int)(out:ez):List AV->Option ez
 |[a,b,.int .i64 k]=>match Ar a with
  |some x=>match ye b with
   |some y=>bif decide (x=s)&&decide (y=([],es))&&decide (k=n)then some out else none
   |none=>none
  |none=>none
 |_=>none
def qs(s:List UInt8)(out:ez):List AV->Option ez
 |[.str t]=>bif decide (t=s)then some out else none
 |_=>none
theorem yw(l:List End):aM 2 (l.map bm)=true:=jA λa=>⟨rfl,rfl⟩
end Go.Proofs.Tryz
namespace Go.Proofs.Tryz
open Go Go.AL Go.RowKit Go.Proofs Go.Proofs.Tram
attribute [local simp] eF fO eZ ec eY eh eg dI dK eX dH dc iI iH aF aG ev aO.S aO.H bz ar aU AL.start AV.cells AV.storable AV.cb bu b_ eG ck HR.okB post cE cW cV AV.out AV.bZ cM eB fz iu AV.vw dh vI int b0 aK dq dz iF j0 fh dW bV AV.aH AV.cn
variable{GI:World->Prop}
def bL(n lo hi:Int):Bool:=decide (lo<=n)&&decide (n<=hi)
theorem pH(hG:au GI)(n lo hi:Int):AC prog GI 84 [.int .i64 n,.int .i64 lo,.int .i64 hi] (.ret (.bool (bL n lo hi))):=by
 refine cd hG func84 ntmps84 c84 ?_
 by_cases h1:lo<=n<;>by_cases h2:n<=hi<;>simp[c84,bL,h1,h2]
theorem ko(hG:au GI)(n lo hi:Int):AC prog GI 139 [.int .i64 n,.int .i64 lo,.int .i64 hi] (.ret (.bool (bL n lo hi))):=by
 refine cd hG func139 ntmps139 c139 ?_
 by_cases h1:lo<=n<;>by_cases h2:n<=hi<;>simp[c139,bL,h1,h2]
def ia(lo hi a most:Int):Bool:=bL lo a most&&bL hi lo most
theorem Fa(hG:au GI)(lo hi most:Int):AC prog GI 154 [.agg [.int .i64 lo,.int .i64 hi],.int .i64 most] (.ret (.bool (ia lo hi 0 most))):=by
 refine cd hG func154 ntmps154 c154 ?_;simp[c154];refine oc (pH hG lo 0 most) ?_;cases h1:bL lo 0 most
 .simp[ia,h1]
 .simp;refine oc (pH hG hi lo most) ?_;simp[ia,h1]
theorem DL(hG:au GI)(lo hi a most:Int):AC prog GI 144 [.agg [.int .i64 lo,.int .i64 hi],.int .i64 a,.int .i64 most] (.ret (.bool (ia lo hi a most))):=by
 refine cd hG func144 ntmps144 c144 ?_;simp[c144];refine oc (ko hG lo a most) ?_;cases h1:bL lo a most
 .simp[ia,h1]
 .simp;refine oc (ko hG hi lo most) ?_;simp[ia,h1]
theorem RW(hG:au GI)(n:Int):AC prog GI 155 [.int .i64 n] (.ret (.bool (bL n 1 400))):=by
 refine cd hG func155 ntmps155 c155 ?_;simp[c155];refine oc (pH hG n 1 400) ?_;simp
def fV(s:aD)(n:Int):Bool:=bL n 0 (s.a_.length-1)
theorem Eg(hG:au GI)(s:aD)(hs:s.a_.length<1000)(n:Int):AC prog GI 194 [di s,.int .i64 n] (.ret (.bool (fV s n))):=by
 refine cd hG func194 ntmps194 c194 ?_;have hw:IntKind.i64.wrap ((s.a_.length:Int)-1)=s.a_.length-1:=aS (by omega);simp[c194,di,af,hw];refine oc (pH hG n 0 (s.a_.length-1)) ?_;simp[fV]
def gy(s:aD)(p:jL):Bool:=fV s p.l&&fV s p.r&&ia p.lo p.hi 0 9
theorem SD(hG:au GI)(s:aD)(hs:s.a_.length<1000)(p:jL):AC prog GI 140 [di s,dj p] (.ret (.bool (gy s p))):=by
 refine cd hG func140 ntmps140 c140 ?_;have hw:IntKind.i64.wrap ((s.a_.length:Int)-1)=s.a_.length-1:=aS (by omega);refine aI (λS H=>S 2=.box 2 0/\S 3=.box 3 0/\H 2=some (af s)/\H 3=some [.int .i64 p.l,.int .i64 p.r,.int .i64 p.lo,.int .i64 p.hi]) (by simp[di,af,dj]) ?_;rintro S H ⟨s2,s3,h2,h3⟩;simp[s2,s3,h2,h3,af,hw];refine oc (ko hG p.l 0 (s.a_.length-1)) ?_;cases h1:bL p.l 0 (s.a_.length-1)
 .simp[gy,fV,h1]
 .simp[s2,s3,h2,h3,af,hw];refine oc (ko hG p.r 0 (s.a_.length-1)) ?_;cases h4:bL p.r 0 (s.a_.length-1)
  .simp[gy,fV,h1,h4]
  .simp[s2,s3,h2,h3,af];refine oc (DL hG p.lo p.hi 0 9) ?_;simp[gy,fV,h1,h4]
def qK(a b:jL):Bool:=decide (a.l<b.l)||(a.l==b.l&&decide (a.r<b.r))
theorem Ts(hG:au GI)(a b:jL):AC prog GI 141 [dj a,dj b] (.ret (.bool (qK a b))):=by
 refine cd hG func141 ntmps141 c141 ?_;refine aI (λS H=>S 2=.box 2 0/\S 3=.box 3 0/\H 2=some [.int .i64 a.l,.int .i64 a.r,.int .i64 a.lo,.int .i64 a.hi]/\H 3=some [.int .i64 b.l,.int .i64 b.r,.int .i64 b.lo,.int .i64 b.hi]) (by simp[dj]) ?_;rintro S H ⟨s2,s3,h2,h3⟩
 by_cases h1:a.l<b.l
 .simp[s2,s3,h2,h3,qK,h1]
 .cases h4:a.l==b.l
  .simp[s2,s3,h2,h3,qK,h1,h4]
  .by_cases h5:a.r<b.r<;>simp[s2,s3,h2,h3,qK,h1,h4,h5]
theorem TV(hG:au GI)(n:Int):AC prog GI 142 [.int .i64 n] (.ret (.bool (!bL n 1 20))):=by
 refine cd hG func142 ntmps142 c142 ?_;simp[c142];refine oc (ko hG n 1 20) ?_;simp
theorem Rf(hG:au GI)(s:aD)(hs:s.a_.length<1000)(n:Int):AC prog GI 186 [.int .i64 n,.ref (af s)] (.ret (.bool (!fV s n))):=by
 refine cd hG func186 ntmps186 c186 ?_;have hw:IntKind.i64.wrap ((s.a_.length:Int)-1)=s.a_.length-1:=aS (by omega);simp[c186,af,hw];refine oc (ko hG n 0 (s.a_.length-1)) ?_;simp[fV]
def eW(l:List Int)(lo hi:Int):Bool:=jW (bL · lo hi) (λa b=>decide (a<b)) l
theorem RT(hG:au GI)(l:List Int)(hl:l.length<1000000)(lo hi:Int):AC prog GI 180 [vI l,.int .i64 lo,.int .i64 hi] (.ret (.bool (eW l lo hi))):=by
 refine cd hG func180 ntmps180 c180 ?_;simp[c180];refine bP 11 l.length (λi S H=>S 0=vI l/\S 1=.int .i64 lo/\S 2=.int .i64 hi/\S 9=vI l/\S 10=.int .i64 l.length/\S 11=.int .i64 (i:Nat)/\(∀j (hj:j<l.length),j<i->bL l[j] lo hi=true)/\∀j (hj:j+1<l.length),j+1<i->decide (l[j]<l[j+1])=true) (λi S H h=>h.2.2.2.2.2.1) ⟨by simp,by simp,by simp,by simp,by simp,by simp,by simp,by simp⟩ ?_;rintro i dv S H ⟨s0,s1,s2,s9,bK,br,hb,hc⟩
 by_cases aw:i<l.length
 .have hw:IntKind.i64.wrap ((i:Int)+1)=i+1:=aS (by omega);simp[s0,s1,s2,s9,bK,br,aw];refine⟨_,by kernel_rfl,ko hG l[i] lo hi,λ_=>rfl,?_⟩;cases hp:bL l[i] lo hi
  .simp[s0,s1,s2,s9,bK,br,aw,hw];exact mA aw hp
  .cases i with
   |zero=>
    simp[s0,s1,s2,s9,bK,br,aw];exact⟨aS (by omega),λj hj xD=>by subst xD;exact hp⟩
   |succ k=>
    have hk:((k+1:Nat):Int)-1=(k:Nat):=by omega
    have uw:IntKind.i64.wrap (k:Int)=k:=aS (by omega);have gR:IntKind.i64.wrap ((k:Int)+1+1)=k+1+1:=aS (by omega)
    have mg:k<l.length:=by omega
    have h0:(0:Int)<(k:Int)+1:=by omega
    by_cases hle:l[k+1]<=l[k]
    .simp[s0,s1,s2,s9,bK,br,aw,uw,mg,hle,h0];exact lK (lt:=λa b=>decide (a<b)) aw (by simpa using hle)
    .simp[s0,s1,s2,s9,bK,br,aw,uw,mg,hle,h0,gR];refine⟨λj hj zM=>?_,λj hj zM=>?_⟩
     .by_cases e:j=k+1
      .subst e;exact hp
      .exact hb j hj (by omega)
     .by_cases e:j=k
      .subst e;omega
      .simpa using hc j hj (by omega)
 .have cU:i=l.length:=by omega
  subst cU;simp[s0,s1,s2,s9,bK,br];exact nW (λj hj=>hb j hj hj) (λj hj=>hc j hj hj)
def h_(s:aD)(w:Word):Bool:=bL w.aP.length 1 6&&!(w.aP.any λn=>!fV s n)&&eW w.bO 1 (w.aP.length-1)
theorem QY(hG:au GI)(s:aD)(hs:s.a_.length<1000)(w:Word)(h1:w.aP.length<1000)(h2:w.bO.length<1000):AC prog GI 147 [di s,cG w] (.ret (.bool (h_ s w))):=by
 have Lm:=Kg hG w.aP (by omega) 186 [.ref (af s)] (.inr ⟨_,rfl⟩) (λn=>!fV s n) (by kernel_rfl) (λn _=>Rf hG s hs n);have hw:IntKind.i64.wrap ((w.aP.length:Int)-1)=w.aP.length-1:=aS (by omega);refine cd hG func147 ntmps147 c147 ?_;refine aI (λS H=>S 2=.box 2 0/\S 3=.box 3 0/\H 2=some (af s)/\H 3=some [vI w.aP,vI w.bO,.bool w.free]) (by simp[di,af,cG]) ?_;rintro S H ⟨s2,s3,e2,e3⟩;simp[s2,s3,e2,e3];refine⟨_,by kernel_rfl,ko hG w.aP.length 1 6,λ_=>rfl,?_⟩;cases h3:bL w.aP.length 1 6
 .simp[h_,h3]
 .simp[s2,s3,e2,e3,af];refine⟨_,by kernel_rfl,Lm,λ_=>rfl,?_⟩
  cases h4:w.aP.any λn=>!fV s n
  .simp[s2,s3,e2,e3,hw];refine⟨_,by kernel_rfl,RT hG w.bO (by omega) 1 (w.aP.length-1),λ_=>rfl,?_⟩;simp[h_,h3,h4]
  .simp[h_,h3,h4]
theorem TJ(hG:au GI)(s:aD)(hs:s.a_.length<1000)(w:Word)(h1:w.aP.length<1000)(h2:w.bO.length<1000):AC prog GI 146 [cG w,.ref (af s)] (.ret (.bool (!h_ s w))):=by
 refine cd hG func146 ntmps146 c146 ?_;simp[c146,cG,af];refine⟨_,by kernel_rfl,QY hG s hs w h1 h2,λ_=>rfl,?_⟩;simp
structure rY(s:aD):Prop where
 a_:s.a_.length<1000
 aQ:s.aQ.length<1000
 words:s.words.length<1000
 aP:∀w∈s.words,w.aP.length<1000
 bO:∀w∈s.words,w.bO.length<1000
def oH(s:aD):Bool:=!(s.a_.any λn=>!bL n 1 20)&&ia s.gX s.gL 0 9&&ia s.lu s.lI 0 20&&bL s.cz 1 20&&!(s.words.any λw=>!h_ s w)&&bL s.wide 1 400&&bL s.rows 1 3
def bg(s:aD):Bool:=bL s.a_.length 1 6&&decide (s.aQ.length<=6)&&bL s.words.length 1 4&&jW (gy s) qK s.aQ&&oH s
theorem Co(hG:au GI)(s:aD)(hs:rY s):AC prog GI 78 [di s] (.ret (.bool (bg s))):=by
 have Lm:=Kg hG s.a_ (by have:=hs.a_;omega) 142 [] (.inl rfl) (λn=>!bL n 1 20) (by kernel_rfl) (λn _=>TV hG n);have XH:=Rm hG s.words (by have:=hs.words;omega) 146 [.ref (af s)] (.inr ⟨_,rfl⟩) (λw=>!h_ s w) (by kernel_rfl) (λw hw=>TJ hG s hs.a_ w (hs.aP w hw) (hs.bO w hw));refine cd hG func78 ntmps78 c78 ?_;refine aI (λS H=>S 1=.box 1 0/\H 1=some (af s)) (by simp[di,af]) ?_;rintro S H ⟨s1,e1⟩;simp[s1,e1,af];refine⟨_,by kernel_rfl,ko hG s.a_.length 1 6,λ_=>rfl,?_⟩;cases h1:bL s.a_.length 1 6
 .simp[bg,h1]
 by_cases h2:(6:Int)<s.aQ.length
 .simp[s1,e1,af,h2]
  have:¬s.aQ.length<=6:=by omega
  simp[bg,this]
 simp[s1,e1,af,h2];refine⟨_,by kernel_rfl,ko hG s.words.length 1 4,λ_=>rfl,?_⟩;cases h3:bL s.words.length 1 4
 .simp[bg,h3]
 simp[s1,e1,af]
 have tZ:s.aQ.length<=6:=by omega
 refine bP 27 s.aQ.length (λi S H=>S 1=.box 1 0/\H 1=some (af s)/\S 25=.slice .view (s.aQ.map dj)/\S 26=.int .i64 s.aQ.length/\S 27=.int .i64 (i:Nat)/\(∀j (hj:j<s.aQ.length),j<i->gy s s.aQ[j]=true)/\∀j (hj:j+1<s.aQ.length),j+1<i->qK s.aQ[j] s.aQ[j+1]=true) (λi S H h=>h.2.2.2.2.1) ⟨by simp[s1],by simp[e1,af],by simp,by simp,by simp,by simp,by simp⟩ ?_;clear s1 e1 S H;rintro i hi S H ⟨s1,e1,lr,uD,oR,hb,hc⟩
 by_cases aw:i<s.aQ.length
 case neg=>
  have cU:i=s.aQ.length:=by omega
  subst cU;have Xh:jW (gy s) qK s.aQ=true:=nW (λj hj=>hb j hj hj) (λj hj=>hc j hj hj);simp[s1,e1,lr,uD,oR,af];refine⟨_,by kernel_rfl,Lm,λ_=>rfl,?_⟩
  cases h4:s.a_.any λn=>!bL n 1 20
  case true=>simp[bg,oH,h4]
  simp[s1,e1,af];refine⟨_,by kernel_rfl,DL hG s.gX s.gL 0 9,λ_=>rfl,?_⟩;cases h5:ia s.gX s.gL 0 9
  .simp[bg,oH,h5]
  simp[s1,e1,af];refine⟨_,by kernel_rfl,DL hG s.lu s.lI 0 20,λ_=>rfl,?_⟩;cases h6:ia s.lu s.lI 0 20
  .simp[bg,oH,h6]
  simp[s1,e1,af];refine⟨_,by kernel_rfl,ko hG s.cz 1 20,λ_=>rfl,?_⟩;cases h7:bL s.cz 1 20
  .simp[bg,oH,h7]
  simp[s1,e1,af];refine⟨_,by kernel_rfl,XH,λ_=>rfl,?_⟩
  cases h8:s.words.any λw=>!h_ s w
  case true=>simp[bg,oH,h8]
  simp[s1,e1,af];refine⟨_,by kernel_rfl,ko hG s.wide 1 400,λ_=>rfl,?_⟩;cases h9:bL s.wide 1 400
  .simp[bg,oH,h9]
  simp[s1,e1,af];refine⟨_,by kernel_rfl,ko hG s.rows 1 3,λ_=>rfl,?_⟩;simp[bg,oH,h1,tZ,h3,Xh,h4,h5,h6,h7,h8,h9]
 case pos=>
  have hw:IntKind.i64.wrap ((i:Int)+1)=i+1:=aS (by omega);refine aI (λS H=>S 28=.bool true/\S 1=.box 1 0/\H 1=some (af s)/\S 25=.slice .view (s.aQ.map dj)/\S 26=.int .i64 s.aQ.length/\S 27=.int .i64 (i:Nat)) (by simp[s1,e1,lr,uD,oR,aw]) ?_;clear s1 e1 lr uD oR S H;rintro S H ⟨wP,s1,e1,lr,uD,oR⟩;refine As wP (AY ?_);refine aI (λS H=>S 4=.box 4 0/\H 4=some (dj s.aQ[i]).cells/\S 3=.int .i64 (i:Nat)/\S 1=.box 1 0/\H 1=some (af s)/\S 25=.slice .view (s.aQ.map dj)/\S 26=.int .i64 s.aQ.length/\S 27=.int .i64 (i:Nat)) (by simp[s1,e1,lr,uD,oR,aw,dj]) ?_;clear s1 e1 lr uD oR wP S H;rintro S H ⟨s4,e4,s3,s1,e1,lr,uD,oR⟩;simp[s1,e1,s3,s4,e4,af,dj];refine⟨_,by kernel_rfl,SD hG s hs.a_ s.aQ[i],λ_=>rfl,?_⟩;cases hp:gy s s.aQ[i]
  .simp;simp[bg,mA aw hp]
  cases i with
  |zero=>
   simp[s1,s3,s4,lr,uD,oR,aw];exact⟨e1,aS (by omega),λj hj xD=>by subst xD;exact hp⟩
  |succ k=>
   have uw:IntKind.i64.wrap (k:Int)=k:=aS (by omega);have gR:IntKind.i64.wrap ((k:Int)+1+1)=k+1+1:=aS (by omega)
   have mg:k<s.aQ.length:=by omega
   have h0:(0:Int)<(k:Int)+1:=by omega
   simp[s1,e1,s3,s4,e4,aw,uw,mg,h0,af,dj];refine⟨_,by kernel_rfl,Ts hG s.aQ[k] s.aQ[k+1],λ_=>rfl,?_⟩;cases hq:qK s.aQ[k] s.aQ[k+1]
   .simp;simp[bg,lK (p:=gy s) aw hq]
   .simp[s1,e1,s3,s4,lr,uD,oR,aw,gR];refine⟨rfl,λj hj zM=>?_,λj hj zM=>?_⟩
    .by_cases e:j=k+1
     .subst e;exact hp
     .exact hb j hj (by omega)
    .by_cases e:j=k
     .subst e;exact hq
     .exact hc j hj (by omega)
theorem GX(s:aD)(w:Word):h_ s w=(w.aP.all (fV s)&&(eW w.bO 1 (w.aP.length-1)&&bL w.aP.length 1 6)):=by
 unfold h_;rw[nO]
 cases bL w.aP.length 1 6<;>cases w.aP.all (fV s)<;>cases eW w.bO 1 (w.aP.length-1)<;>rfl
theorem Tp(hG:au GI)(s:aD)(hs:s.a_.length<1000)(w:Word)(h1:w.aP.length<1000)(h2:w.bO.length<1000):AC prog GI 152 [di s,cG w] (.ret (.bool (h_ s w))):=by
 rw[GX];refine cd hG func152 ntmps152 c152 ?_;refine aI (λS H=>S 2=.box 2 0/\S 3=.box 3 0/\H 2=some (af s)/\H 3=some [vI w.aP,vI w.bO,.bool w.free]) (by simp[di,af,cG]) ?_;rintro S H ⟨s2,s3,e2,e3⟩;simp[s2,s3,e2,e3];refine bP 5 w.aP.length (λi S H=>S 2=.box 2 0/\S 3=.box 3 0/\H 2=some (af s)/\H 3=some [vI w.aP,vI w.bO,.bool w.free]/\S 5=.int .i64 (i:Nat)/\(∀j (hj:j<w.aP.length),j<i->fV s w.aP[j]=true)) (λi S H h=>h.2.2.2.2.1) ⟨by simp[s2],by simp[s3],e2,e3,by simp,by simp⟩ ?_;clear s2 s3 e2 e3 S H;rintro i hi S H ⟨s2,s3,e2,e3,s5,hb⟩
 by_cases aw:i<w.aP.length
 case pos=>
  have hw:IntKind.i64.wrap ((i:Int)+1)=i+1:=aS (by omega);simp[s2,s3,e2,e3,s5,aw,af];refine⟨_,by kernel_rfl,Eg hG s hs w.aP[i],λ_=>rfl,?_⟩;cases hp:fV s w.aP[i]
  .simp[pG aw hp]
  .simp[s2,s3,e2,e3,s5,aw,hw];exact⟨rfl,kh aw hb hp⟩
 have cU:i=w.aP.length:=by omega
 subst cU
 have e_:w.aP.all (fV s)=true:=rL λj hj=>hb j hj hj
 simp[s2,s3,e2,e3,s5,e_];refine bP 6 w.bO.length (λi S H=>S 3=.box 3 0/\H 3=some [vI w.aP,vI w.bO,.bool w.free]/\S 6=.int .i64 (i:Nat)/\(∀j (hj:j<w.bO.length),j<i->bL w.bO[j] 1 (w.aP.length-1)=true)/\∀j (hj:j+1<w.bO.length),j+1<i->decide (w.bO[j]<w.bO[j+1])=true) (λi S H h=>h.2.2.1) ⟨by simp[s3],e3,by simp,by simp,by simp⟩ ?_;clear s2 s3 e2 e3 s5 hb S H;rintro i hi S H ⟨s3,e3,s6,hb,hc⟩
 by_cases aw:i<w.bO.length
 case neg=>
  have cU:i=w.bO.length:=by omega
  subst cU;have hr:eW w.bO 1 (w.aP.length-1)=true:=nW (λj hj=>hb j hj hj) (λj hj=>hc j hj hj);simp[s3,e3,s6,hr];refine⟨_,by kernel_rfl,pH hG w.aP.length 1 6,λ_=>rfl,?_⟩;simp
 case pos=>
  have hw:IntKind.i64.wrap ((i:Int)+1)=i+1:=aS (by omega);have sB:IntKind.i64.wrap ((w.aP.length:Int)-1)=w.aP.length-1:=aS (by omega);simp[s3,e3,s6,aw,sB];refine⟨_,by kernel_rfl,pH hG w.bO[i] 1 (w.aP.length-1),λ_=>rfl,?_⟩;cases hp:bL w.bO[i] 1 (w.aP.length-1)
  .have hr:eW w.bO 1 (w.aP.length-1)=false:=mA aw hp;simp[hr]
  cases i with
  |zero=>
   simp[s3,e3,s6,aw];exact⟨aS (by omega),λj hj xD=>by subst xD;exact hp⟩
  |succ k=>
   have uw:IntKind.i64.wrap (k:Int)=k:=aS (by omega);have gR:IntKind.i64.wrap ((k:Int)+1+1)=k+1+1:=aS (by omega)
   have mg:k<w.bO.length:=by omega
   have h0:(0:Int)<(k:Int)+1:=by omega
   have W_:(0:Int)<=(k:Int)+1:=by omega
   by_cases hle:w.bO[k+1]<=w.bO[k]
   .have hr:eW w.bO 1 (w.aP.length-1)=false:=lK (lt:=λa b=>decide (a<b)) aw (by simpa using hle);simp[s3,e3,s6,aw,uw,mg,hle,h0,W_,hr]
   .simp[s3,e3,s6,aw,uw,mg,hle,h0,W_,gR];exact⟨kh (p:=λn=>bL n 1 (w.aP.length-1)) aw hb hp,λj hj zM=>by simpa using sY (lt:=λa b=>decide (a<b)) aw hc (by simpa using hle) j hj (by omega)⟩
def lL(s:aD):Bool:=jW (gy s) qK s.aQ&&decide (s.aQ.length<=6)
theorem Ca(a b:jL):qK a b=!(decide (b.l<a.l)||(a.l==b.l&&decide (b.r<=a.r))):=by
 unfold qK
 by_cases h1:a.l<b.l
 .have h2:¬b.l<a.l:=by omega
  have h3:(a.l==b.l)=false:=by simp;omega
  simp[h1,h2,h3]
 .by_cases h2:b.l<a.l
  .have h3:(a.l==b.l)=false:=by simp;omega
   simp[h1,h2,h3]
  .have h3:(a.l==b.l)=true:=by simp;omega
   by_cases h4:b.r<=a.r
   .have h5:¬a.r<b.r:=by omega
    simp[h1,h2,h3,h4,h5]
   .have h5:a.r<b.r:=by omega
    simp[h1,h2,h3,h4,h5]
theorem RP(hG:au GI)(s:aD)(hs:s.a_.length<1000)(h1:s.aQ.length<1000):AC prog GI 153 [di s] (.ret (.bool (lL s))):=by
 refine cd hG func153 ntmps153 c153 ?_;simp[c153,di,af];refine bP 3 s.aQ.length (λi S H=>S 1=.box 1 0/\H 1=some (af s)/\S 3=.int .i64 (i:Nat)/\(∀j (hj:j<s.aQ.length),j<i->gy s s.aQ[j]=true)/\∀j (hj:j+1<s.aQ.length),j+1<i->qK s.aQ[j] s.aQ[j+1]=true) (λi S H h=>h.2.2.1) ⟨by simp,by simp[af],by simp,by simp,by simp⟩ ?_;rintro i hi S H ⟨s1,e1,s3,hb,hc⟩
 by_cases aw:i<s.aQ.length
 case neg=>
  have cU:i=s.aQ.length:=by omega
  subst cU;have hr:jW (gy s) qK s.aQ=true:=nW (λj hj=>hb j hj hj) (λj hj=>hc j hj hj);simp[s1,e1,s3,af,lL,hr]
  by_cases h6:s.aQ.length<=6
  .have T8:(s.aQ.length:Int)<=6:=by omega
   simp[h6,T8]
  .have T8:¬(s.aQ.length:Int)<=6:=by omega
   simp[h6,T8]
 case pos=>
  have hw:IntKind.i64.wrap ((i:Int)+1)=i+1:=aS (by omega);refine y0 (λS H=>S 9=.bool true/\S 1=.box 1 0/\H 1=some (af s)/\S 3=.int .i64 (i:Nat)) (by simp[s1,e1,s3,aw,af]) ?_;clear s1 e1 s3 S H;rintro S H ⟨s9,s1,e1,s3⟩;refine As s9 (AY ?_);refine aI (λS H=>S 4=.box 4 0/\H 4=some (dj s.aQ[i]).cells/\S 1=.box 1 0/\H 1=some (af s)/\S 3=.int .i64 (i:Nat)) (by simp[s1,e1,s3,aw,af,dj]) ?_;clear s1 e1 s3 s9 S H;rintro S H ⟨s4,e4,s1,e1,s3⟩;refine y0 (λS H=>S 34=.bool (!gy s s.aQ[i])/\S 4=.box 4 0/\H 4=some (dj s.aQ[i]).cells/\S 1=.box 1 0/\H 1=some (af s)/\S 3=.int .i64 (i:Nat)) ?_ ?_
  .simp[s1,e1,s3,s4,e4,af,dj];refine⟨_,by kernel_rfl,Eg hG s hs s.aQ[i].l,λ_=>rfl,?_⟩;cases h1:fV s s.aQ[i].l
   .simp[s1,e1,s3,s4,e4,af,dj,gy,h1]
   simp[s1,e1,s3,s4,e4,af,dj];refine⟨_,by kernel_rfl,Eg hG s hs s.aQ[i].r,λ_=>rfl,?_⟩;cases h2:fV s s.aQ[i].r
   .simp[s1,e1,s3,s4,e4,af,dj,gy,h1,h2]
   simp[s1,e1,s3,s4,e4,af,dj];refine⟨_,by kernel_rfl,Fa hG s.aQ[i].lo s.aQ[i].hi 9,λ_=>rfl,?_⟩;simp[s1,e1,s3,s4,e4,af,dj,gy,h1,h2]
  clear s1 e1 s3 s4 e4 S H;rintro S H ⟨M_,s4,e4,s1,e1,s3⟩;cases hp:gy s s.aQ[i]
  .rw[hp]at M_
   have hr:lL s=false:=by unfold lL;rw[mA aw hp];rfl
   simp[M_,hr]
  rw[hp]at M_;refine Jy M_ ?_
  cases i with
  |zero=>
   simp[s1,e1,s3,s4,e4,af,aw];exact⟨aS (by omega),λj hj xD=>by subst xD;exact hp⟩
  |succ k=>
   have uw:IntKind.i64.wrap (k:Int)=k:=aS (by omega);have gR:IntKind.i64.wrap ((k:Int)+1+1)=k+1+1:=aS (by omega)
   have mg:k<s.aQ.length:=by omega
   have h0:(0:Int)<(k:Int)+1:=by omega
   cases hq:qK s.aQ[k] s.aQ[k+1]
   .have hr:lL s=false:=by unfold lL;rw[lK aw hq];rfl
    rw[Ca]at hq
    by_cases h1:s.aQ[k+1].l<s.aQ[k].l
    .simp[s1,e1,s3,s4,e4,af,dj,uw,mg,h0,h1,hr]
    .cases h2:s.aQ[k].l==s.aQ[k+1].l
     .simp[h1,h2]at hq
     .by_cases h3:s.aQ[k+1].r<=s.aQ[k].r
      .simp[s1,e1,s3,s4,e4,af,dj,uw,mg,h0,h1,h2,h3,hr]
      .simp[h1,h2,h3]at hq
   .have LN:=hq;rw[Ca]at hq
    have h1:¬s.aQ[k+1].l<s.aQ[k].l:=λh=>by simp[h]at hq
    cases h2:s.aQ[k].l==s.aQ[k+1].l
    .simp[s1,e1,s3,s4,e4,af,dj,uw,mg,h0,h1,h2,gR,aw];exact⟨kh aw hb hp,λj hj zM=>sY aw hc LN j hj (by omega)⟩
    .have h3:¬s.aQ[k+1].r<=s.aQ[k].r:=λh=>by simp[h1,h2,h]at hq
     simp[s1,e1,s3,s4,e4,af,dj,uw,mg,h0,h1,h2,h3,gR,aw];exact⟨kh aw hb hp,λj hj zM=>sY aw hc LN j hj (by omega)⟩
theorem ES(s:aD):bg s=(s.a_.all (bL · 1 20)&&(s.words.all (h_ s)&&(bL s.a_.length 1 6&&lL s&&ia s.gX s.gL 0 9&&ia s.lu s.lI 0 20&&bL s.cz 1 20&&bL s.words.length 1 4&&bL s.wide 1 400&&bL s.rows 1 3))):=by
 unfold bg oH lL;rw[nO,nO]
 cases bL s.a_.length 1 6<;>cases decide (s.aQ.length<=6)<;>cases bL s.words.length 1 4<;>cases jW (gy s) qK s.aQ<;>cases s.a_.all (bL · 1 20)<;>cases s.words.all (h_ s)<;>cases ia s.gX s.gL 0 9<;>simp
theorem Wn(hG:au GI)(s:aD)(hs:rY s):AC prog GI 94 [di s] (.ret (.bool (bg s))):=by
 rw[ES];have q1:=hs.a_;have q2:=hs.aQ;have q3:=hs.words;refine cd hG func94 ntmps94 c94 ?_;simp[c94,di,af];refine bP 3 s.a_.length (λi S H=>S 1=.box 1 0/\H 1=some (af s)/\S 3=.int .i64 (i:Nat)/\(∀j (hj:j<s.a_.length),j<i->bL s.a_[j] 1 20=true)) (λi S H h=>h.2.2.1) ⟨by simp,by simp[af],by simp,by simp⟩ ?_;rintro i hi S H ⟨s1,e1,s3,hb⟩
 by_cases aw:i<s.a_.length
 case pos=>
  have hw:IntKind.i64.wrap ((i:Int)+1)=i+1:=aS (by omega);simp[s1,e1,s3,aw,af];refine⟨_,by kernel_rfl,pH hG s.a_[i] 1 20,λ_=>rfl,?_⟩;cases hp:bL s.a_[i] 1 20
  .simp[pG (p:=λn=>bL n 1 20) aw hp]
  .simp[s1,e1,s3,aw,hw];exact⟨rfl,kh (p:=λn=>bL n 1 20) aw hb hp⟩
 have cU:i=s.a_.length:=by omega
 subst cU
 have e_:s.a_.all (bL · 1 20)=true:=rL λj hj=>hb j hj hj
 simp[s1,e1,s3,af,e_];refine bP 4 s.words.length (λi S H=>S 1=.box 1 0/\H 1=some (af s)/\S 4=.int .i64 (i:Nat)/\(∀j (hj:j<s.words.length),j<i->h_ s s.words[j]=true)) (λi S H h=>h.2.2.1) ⟨by simp[s1],by simp[e1,af],by simp,by simp⟩ ?_;clear s1 e1 s3 hb S H;rintro i hi S H ⟨s1,e1,s4,hb⟩
 by_cases aw:i<s.words.length
 case pos=>
  have hw:IntKind.i64.wrap ((i:Int)+1)=i+1:=aS (by omega);simp[s1,e1,s4,aw,af,cG];refine⟨_,by kernel_rfl,Tp hG s q1 s.words[i] (hs.aP _ (aba aw)) (hs.bO _ (aba aw)),λ_=>rfl,?_⟩;cases hp:h_ s s.words[i]
  .simp[pG aw hp]
  .simp[s1,e1,s4,aw,hw];exact⟨rfl,kh aw hb hp⟩
 have cU:i=s.words.length:=by omega
 subst cU
 have SC:s.words.all (h_ s)=true:=rL λj hj=>hb j hj hj
 simp[s1,e1,s4,af,SC];refine⟨_,by kernel_rfl,pH hG s.a_.length 1 6,λ_=>rfl,?_⟩;cases h1:bL s.a_.length 1 6
 .simp
 simp[s1,e1,s4,af];refine⟨_,by kernel_rfl,RP hG s q1 q2,λ_=>rfl,?_⟩;cases h2:lL s
 .simp
 simp[s1,e1,s4,af];refine⟨_,by kernel_rfl,Fa hG s.gX s.gL 9,λ_=>rfl,?_⟩;cases h3:ia s.gX s.gL 0 9
 .simp
 simp[s1,e1,s4,af];refine⟨_,by kernel_rfl,Fa hG s.lu s.lI 20,λ_=>rfl,?_⟩;cases h4:ia s.lu s.lI 0 20
 .simp
 simp[s1,e1,s4,af];refine⟨_,by kernel_rfl,pH hG s.cz 1 20,λ_=>rfl,?_⟩;cases h5:bL s.cz 1 20
 .simp
 simp[s1,e1,s4,af];refine⟨_,by kernel_rfl,pH hG s.words.length 1 4,λ_=>rfl,?_⟩;cases h6:bL s.words.length 1 4
 .simp
 simp[s1,e1,s4,af];refine⟨_,by kernel_rfl,RW hG s.wide,λ_=>rfl,?_⟩;cases h7:bL s.wide 1 400
 .simp
 simp[s1,e1,s4,af];refine⟨_,by kernel_rfl,pH hG s.rows 1 3,λ_=>rfl,?_⟩;simp
end Go.Proofs.Tryz
namespace Go.Proofs.Tryz
open Go.AL
noncomputable def c9:ae:=(.seq (.ops [⟨(some 3),none,.box 31 15 (.t 0)⟩,⟨(some 6),none,.mv true (.c (.bool false))⟩]) (.seq (bH 184 f9.cO.cB.cA) (.seq (bH 184 f9.cO.cB.cB.cA) (.seq (bH 184 f9.cO.cB.cB.cB.cA) (.seq (bH 184 f9.cO.cB.cB.cB.cB.cA) (.seq (bH 184 f9.cO.cB.cB.cB.cB.cB.cA) (.seq (.seq (bH 184 f9.cO.cB.cB.cB.cB.cB.cB.cA.cA) (.cond (.t 107) (.seq (.ops [⟨(some 6),none,.mv true (.c (.bool false))⟩])<|.ret) (.skip))) (.seq (bH 184 f9.cO.cB.cB.cB.cB.cB.cB.cB.cA) (.seq (bH 184 f9.cO.cB.cB.cB.cB.cB.cB.cB.cB.cA) (.seq (.seq (.ops [⟨(some 129),none,.mv false (.t 8)⟩,⟨(some 130),none,.bin .leq (.t 129) (.c (.int .i64 20))⟩]) (.cond (.t 130) (.seq (bH 184 f9.cO.cB.cB.cB.cB.cB.cB.cB.cB.cB.cA.cB.cA.cA) (bH 184 f9.cO.cB.cB.cB.cB.cB.cB.cB.cB.cB.cA.cB.cA.cB)) (.skip))) (.seq (bH 184 f9.cO.cB.cB.cB.cB.cB.cB.cB.cB.cB.cB.cA) (.seq (bH 184 f9.cO.cB.cB.cB.cB.cB.cB.cB.cB.cB.cB.cB.cA) (.seq (bH 184 f9.cO.cB.cB.cB.cB.cB.cB.cB.cB.cB.cB.cB.cB.cA) (bH 184 f9.cO.cB.cB.cB.cB.cB.cB.cB.cB.cB.cB.cB.cB.cB))))))))))))))
def ef(a b:End):Bool:=decide (a.1<b.1)||(a.1==b.1&&decide (a.2<b.2))
theorem lD{a b:End}:ef a b=true↔a.1<b.1\/a.1=b.1/\a.2<b.2:=by
 simp[ef]
section
variable{l:List End}
end
def ma(s:aD)(n:Int):Bool:=match s.words[n.toNat]? with|some w=>!w.free|none=>false
def eU(s:aD)(out:List Int):Bool:=eW out 0 (s.words.length-1)&&decide (out.length<s.words.length)&&!(out.any (ma s))
def gh(s:aD)(out:List Int)(n:Nat):List End:=if out.contains (n:Int)then[]else match s.words[n]? with
 |some w=>(w.bO.map λk=>((n:Int),k))++[((n:Int),(w.aP.length:Int))]
 |none=>[]
def ja(s:aD)(out:List Int):List End:=(List.range s.words.length).flatMap (gh s out)
def iE(out:List Int):Nat->Int
 |0=> -1
 |n+1=>if out.contains (n:Int)then iE out n else n
def sc(s:aD)(out:List Int)(e:End):Bool:=bL e.1 0 (s.words.length-1)&&!out.contains e.1&&match s.words[e.1.toNat]? with
 |some w=>e.2==(w.aP.length:Int)||w.bO.contains e.2
 |none=>false
def iZ(s:aD)(out:List Int):End:=(iE out s.words.length,match s.words[(iE out s.words.length).toNat]? with|some w=>(w.aP.length:Int)|none=>0)
def jn(s:aD)(out:List Int)(es:List End):Bool:=eU s out&&!es.isEmpty&&(jW (sc s out) ef es&&(es.getLast?.getD (-1,0)==iZ s out))
theorem wC{s:aD}{out:List Int}{e:End}:e∈ja s out↔sc s out e=true:=by
 unfold ja sc bL;rw[ab5];simp only[abC,abc,abe,ab0,adC,ac3]
 constructor
 .rintro⟨n,hn,he⟩;unfold gh at he;split at he
  .cases he
  rename_i hc
  have hc:¬(n:Int)∈out:=by simpa using hc
  rw[aa_ hn]at he;simp only[abk,abz,abG]at he
  have h1:e.1=n:=by rcases he with⟨k,_,rfl⟩|rfl<;>rfl
  rw[h1];refine⟨⟨by omega,hc⟩,?_⟩;rw[Int.toNat_natCast,aa_ hn];simp only[acr,abX,abe];rcases he with⟨k,hk,rfl⟩|rfl
  .exact .inr hk
  .exact .inl rfl
 .rintro⟨⟨⟨h1,h2⟩,hc⟩,h3⟩;obtain⟨w,k⟩:=e
  obtain⟨n,rfl⟩:∃n:Nat,w=n:=⟨w.toNat,by simp only at h1;omega⟩
  simp only at h1 h2 hc h3
  have hn:n<s.words.length:=by omega
  refine⟨n,hn,?_⟩;unfold gh;rw[if_neg (by simpa using hc)];rw[Int.toNat_natCast,aa_ hn]at h3;rw[aa_ hn];simp only[acr,abX,abe]at h3;simp only[abk,abz,abG];rcases h3 with rfl|h3
  .exact .inr rfl
  .exact .inl ⟨k,h3,rfl⟩
theorem qu{s:aD}{out:List Int}(hw:∀w∈s.words,eW w.bO 1 (w.aP.length-1)=true):(ja s out).Pairwise λa b=>ef a b=true:=by
 unfold ja;rw[List.pairwise_flatMap]
 constructor
 .intro n hn;rw[abC]at hn;unfold gh;split
  .exact .nil
  rw[aa_ hn];have h:=hw s.words[n] (aba hn);unfold eW at h;rw[fB]at h;obtain⟨h1,h2⟩:=h;simp only;rw[acY];refine⟨?_,adq _ _,?_⟩
  .rw[List.pairwise_map]
   have:s.words[n].bO.Pairwise λa b=>a<b:=Gb λj hj=>by simpa using h2 j hj
   exact this.imp λh=>by simp[ef,h]
  .intro a ha b hb;rw[abG]at hb;subst hb;obtain⟨k,hk,rfl⟩:=abz.1 ha;have:=h1 k hk;simp[bL]at this;simp[ef];omega
 .refine List.Pairwise.imp_of_mem ?_ aef;intro a b ha hb rJ x hx y hy
  have qy:x.1=a:=by
   unfold gh at hx;split at hx
   .cases hx
   split at hx
   .simp only[abk,abz,abG]at hx
    rcases hx with⟨k,_,rfl⟩|rfl<;>rfl
   .cases hx
  have BZ:y.1=b:=by
   unfold gh at hy;split at hy
   .cases hy
   split at hy
   .simp only[abk,abz,abG]at hy
    rcases hy with⟨k,_,rfl⟩|rfl<;>rfl
   .cases hy
  rw[lD,qy,BZ];left;omega
theorem tW{out:List Int}:∀n:Nat,(iE out n= -1/\∀k:Nat,k<n->(k:Int)∈out)\/∃m:Nat,m<n/\iE out n=m/\¬(m:Int)∈out/\∀k:Nat,m<k->k<n->(k:Int)∈out
 |0=>.inl ⟨rfl,λk hk=>by omega⟩
 |n+1=>by
  unfold iE;split
  .rename_i hc
   have hc:(n:Int)∈out:=by simpa using hc
   rcases tW (out:=out) n with⟨h1,h2⟩|⟨m,h1,h2,h3,h4⟩
   .refine .inl ⟨h1,λk hk=>?_⟩
    by_cases e:k=n
    .subst e;exact hc
    .exact h2 k (by omega)
   .refine .inr ⟨m,by omega,h2,h3,λk hk fo=>?_⟩
    by_cases e:k=n
    .subst e;exact hc
    .exact h4 k hk (by omega)
  .rename_i hc;exact .inr ⟨n,by omega,rfl,by simpa using hc,λk h1 h2=>by omega⟩
theorem GG{s:aD}{out:List Int}(h:eU s out=true):∃m:Nat,m<s.words.length/\iE out s.words.length=m/\¬(m:Int)∈out/\∀k:Nat,m<k->k<s.words.length->(k:Int)∈out:=by
 unfold eU at h;simp only[abc,abe]at h;obtain⟨⟨h1,h2⟩,_⟩:=h;rcases tW (out:=out) s.words.length with⟨_,h3⟩|h3
 .exfalso;unfold eW at h1;rw[fB]at h1;obtain⟨_,h1⟩:=h1
  have hp:out.Pairwise λa b=>a<b:=Gb λj hj=>by simpa using h1 j hj
  have hp:=acu.1 hp
  have key:∀k:Nat,k<s.words.length->∃j,k<=j/\∃hj:j<out.length,out[j]=k:=by
   intro k
   induction k with
   |zero=>
    intro hk;obtain⟨j,hj,e⟩:=abP (h3 0 hk);exact⟨j,by omega,hj,e⟩
   |succ k ih=>
    intro hk;obtain⟨j,hkj,hj,e⟩:=ih (by omega);obtain⟨j',dw,e'⟩:=abP (h3 (k+1) hk);refine⟨j',?_,dw,e'⟩;rcases Nat.lt_trichotomy j j' with h|h|h
    .omega
    .subst h;omega
    .have:=hp j' j dw hj h;omega
  obtain⟨j,hkj,hj,_⟩:=key (s.words.length-1) (by omega);omega
 .exact h3
theorem vu{s:aD}{out:List Int}(h:eU s out=true):(ja s out).getLast?=some (iZ s out):=by
 obtain⟨m,h1,h2,h3,h4⟩:=GG h
 have hl:iZ s out=((m:Int),((s.words[m]).aP.length:Int)):=by
  unfold iZ;rw[h2,Int.toNat_natCast,aa_ h1]
 rw[hl];unfold ja
 obtain⟨d,hd⟩:∃d,s.words.length=m+1+d:=⟨s.words.length-m-1,by omega⟩
 have key:∀d,m+1+d<=s.words.length->((List.range (m+1+d)).flatMap (gh s out)).getLast?=some ((m:Int),((s.words[m]).aP.length:Int)):=by
  intro d
  induction d with
  |zero=>
   intro _;rw[Nat.add_zero,ab3,acR,acZ]
   have hm:¬(out.contains (m:Int)=true):=by simpa using h3
   have e:gh s out m=(s.words[m].bO.map λk=>((m:Int),k))++[((m:Int),(s.words[m].aP.length:Int))]:=by
    unfold gh;rw[if_neg hm,aa_ h1]
   rw[e,<-ab8,aep];simp
  |succ d ih=>
   intro hle;rw[<-adG,ab3,acR,acZ]
   have hc:out.contains ((m+1+d:Nat):Int)=true:=by simpa using h4 (m+1+d) (by omega) (by omega)
   have e:gh s out (m+1+d)=[]:=by
    unfold gh;rw[if_pos hc]
   rw[e,ab1];exact ih (by omega)
 rw[hd];exact key d (by omega)
def cy(s:aD)(w:Nat):Nat:=match s.words[w]? with|some x=>x.aP.length|none=>0
theorem gP{s:aD}{w:Nat}(h:w<s.words.length):cy s w=s.words[w].aP.length:=by unfold cy;rw[aa_ h]
def l5(w f t:Nat):List (Nat×Nat):=(List.range' f (t-f)).map λi=>(w,i)
def gm(s:aD)(out:List Int):Nat->Nat->Nat->Nat->List (Nat×Nat)
 |0,w,f,t=>l5 w f t
 |d+1,w,f,t=>(if out.contains (w:Int)then[]else l5 w f (cy s w))++gm s out d (w+1) 0 t
def iX(s:aD)(out:List Int)(a e:Nat×Nat):List (Nat×Nat):=gm s out (e.1-a.1) a.1 a.2 e.2
theorem B3{w f t:Nat}(h:t<=f):l5 w f t=[]:=by
 unfold l5;rw[show t-f=0 by omega];rfl
theorem yv{w f t:Nat}(h:f<t):l5 w f t=(w,f)::l5 w (f+1) t:=by
 unfold l5;rw[show t-f=(t-(f+1))+1 by omega,acz];rfl
theorem Gu{w f t:Nat}(h:f<=t):l5 w f (t+1)=l5 w f t++[(w,t)]:=by
 unfold l5;rw[show t+1-f=(t-f)+1 by omega,adk,abK];simp only[abA,abL,Nat.one_mul];rw[show f+(t-f)=t by omega]
theorem BG{w f t:Nat}:(l5 w f t).length=t-f:=by simp[l5]
theorem Cd{w f t:Nat}{g:Nat×Nat}:g∈l5 w f t↔g.1=w/\f<=g.2/\g.2<t:=by
 unfold l5;rw[abz];simp only[ada]
 constructor
 .rintro⟨i,hi,rfl⟩;exact⟨rfl,hi.1,by have:=hi.2;show i<t;omega⟩
 .rintro⟨h1,h2,h3⟩;exact⟨g.2,by omega,by rw[<-h1]⟩
theorem EK{s:aD}{out:List Int}{w f t:Nat}(h:t<=f):iX s out (w,f) (w,t)=[]:=by
 unfold iX;simp only[ad3];exact B3 h
theorem vY{s:aD}{out:List Int}{w f t:Nat}:iX s out (w,f) (w,t)=l5 w f t:=by
 unfold iX;simp only[ad3]
 rfl
theorem nS{s:aD}{out:List Int}{w f:Nat}{e:Nat×Nat}(h:w<e.1):iX s out (w,f) e=(if out.contains (w:Int)then[]else l5 w f (cy s w))++iX s out (w+1,0) e:=by
 unfold iX;simp only;rw[show e.1-w=(e.1-(w+1))+1 by omega]
 rfl
theorem Ho{s:aD}{out:List Int}{w f:Nat}{e:Nat×Nat}(h:w<e.1)(hc:out.contains (w:Int)=true):iX s out (w,f) e=iX s out (w+1,0) e:=by
 rw[nS h,if_pos hc,List.nil_append]
theorem Ee{s:aD}{out:List Int}{w f:Nat}{e:Nat×Nat}(h:w<e.1)(hf:cy s w<=f):iX s out (w,f) e=iX s out (w+1,0) e:=by
 rw[nS h];split
 .rfl
 .rw[B3 hf];rfl
theorem KU{s:aD}{out:List Int}{w f:Nat}{e:Nat×Nat}(h:w<e.1/\out.contains (w:Int)=false/\f<cy s w\/w=e.1/\f<e.2):iX s out (w,f) e=(w,f)::iX s out (w,f+1) e:=by
 rcases h with⟨h,hc,hf⟩|⟨h,hf⟩
 .rw[nS h,nS h,hc];simp only[abi,abw];rw[yv hf];rfl
 .obtain⟨ew,et⟩:=e;simp only at h hf;subst h;rw[vY,vY,yv hf]
theorem yx{s:aD}{out:List Int}{b:Nat}(hb:∀w,cy s w<=b):∀(d w f t:Nat),t<=b->(gm s out d w f t).length<=(d+1)*b
 |0,w,f,t,h=>by
  unfold gm;rw[BG];omega
 |d+1,w,f,t,h=>by
  unfold gm;rw[abu];have h1:=yx (out:=out) hb d (w+1) 0 t h
  have h2:(if out.contains (w:Int)then[]else l5 w f (cy s w)).length<=b:=by
   split
   .simp
   .rw[BG];have:=hb w;omega
  have:(d+1+1)*b=(d+1)*b+b:=aeQ _ _;omega
theorem yz{s:aD}{out:List Int}:∀(d w f t:Nat){g:Nat×Nat},g∈gm s out d w f t->(g.1=w+d/\g.2<t)\/(w<=g.1/\g.1<w+d/\g.2<cy s g.1)
 |0,w,f,t,g,h=>by
  have:=Cd.1 h;left;omega
 |d+1,w,f,t,g,h=>by
  unfold gm at h;rcases abk.1 h with h|h
  .split at h
   .cases h
   .have:=Cd.1 h;right;rw[this.1];omega
  .rcases yz d (w+1) 0 t h with h|h
   .left;omega
   .right;omega
theorem yl{s:aD}{out:List Int}:∀(d w f t:Nat),(d=0->f<t)->0<t->(gm s out d w f t).getLast?=some (w+d,t-1)
 |0,w,f,t,h,h'=>by
  have h:=h rfl;unfold gm
  obtain⟨t,rfl⟩:∃t',t=t'+1:=⟨t-1,by omega⟩
  rw[Gu (by omega)];simp
 |d+1,w,f,t,h,h'=>by
  unfold gm;have:=yl (s:=s) (out:=out) d (w+1) 0 t (λ_=>h') h';rw[aep,this];show some (w+1+d,t-1)=some (w+(d+1),t-1);rw[show w+1+d=w+(d+1) by omega]
def nE(e:End):Nat×Nat:=(e.1.toNat,e.2.toNat)
def jQ(es:List End):Nat->Nat×Nat
 |0=>(0,0)
 |i+1=>match es[i]? with|some e=>nE e|none=>(0,0)
def gr(s:aD)(out:List Int)(es:List End)(i:Nat):List (Nat×Nat):=match es[i]? with|some e=>iX s out (jQ es i) (nE e)|none=>[]
def iJ(s:aD)(es:List End)(i:Nat):Bool:=match es[i]? with|some e=>decide (e.2<(cy s e.1.toNat:Int))|none=>false
structure Good(s:aD)(out:List Int)(es:List End):Prop where
 one:∀i (h:i<es.length),0<=es[i].1/\es[i].1<s.words.length/\out.contains es[i].1=false/\1<=es[i].2/\es[i].2<=cy s es[i].1.toNat
 WI:∀i (h:i+1<es.length),es[i].1<es[i+1].1\/es[i].1=es[i+1].1/\es[i].2<es[i+1].2
theorem x_{s:aD}(h:bg s=true){w:Word}(hw:w∈s.words):h_ s w=true:=by
 unfold bg oH at h;simp only[abc,ab0,ab7]at h;have:=h.2.1.1.2 w hw;simpa using this
structure Ro(s:aD)(w:Word):Prop where
 Gm:1<=w.aP.length
 vX:w.aP.length<=6
 sign:∀n∈w.aP,0<=n/\n<s.a_.length
 bO:eW w.bO 1 (w.aP.length-1)=true
theorem mb{s:aD}(h:bg s=true){w:Word}(hw:w∈s.words):Ro s w:=by
 have h:=x_ h hw;unfold h_ at h;simp only[abc,ab0,ab7,bL,abe]at h;obtain⟨⟨⟨h1,h2⟩,h3⟩,h4⟩:=h;refine⟨by omega,by omega,λn hn=>?_,h4⟩;have:=h3 n hn;simp[fV,bL]at this;omega
theorem sj{s:aD}{out:List Int}{es:List End}(hs:bg s=true)(h:jn s out es=true):Good s out es:=by
 unfold jn at h;simp only[abc]at h;obtain⟨_,h,_⟩:=h;rw[fB]at h;obtain⟨h1,h2⟩:=h;refine⟨λi hi=>?_,λi hi=>?_⟩
 .have:=h1 _ (aba hi);unfold sc bL at this;simp only[abc,abe,ab0]at this;obtain⟨⟨⟨a1,a2⟩,a3⟩,a4⟩:=this
  have aw:es[i].1.toNat<s.words.length:=by omega
  rw[aa_ aw]at a4;have hw:=mb hs (aba aw);rw[gP aw];refine⟨a1,by omega,a3,?_⟩;simp only[acr,abX]at a4;rcases a4 with a4|a4
  .have:=hw.Gm;omega
  .have hc:=hw.bO;unfold eW at hc;rw[fB]at hc;have:=hc.1 _ (by simpa using a4);simp[bL]at this;omega
 .have:=h2 i hi;rw[lD]at this;exact this
theorem AX{s:aD}{out:List Int}{es:List End}(g:Good s out es){i:Nat}(h:i<es.length):(jQ es i).1<(nE es[i]).1\/(jQ es i).1=(nE es[i]).1/\(jQ es i).2<(nE es[i]).2:=by
 cases i with
 |zero=>
  have:=g.one 0 h;show 0<es[0].1.toNat\/0=es[0].1.toNat/\0<es[0].2.toNat;omega
 |succ i=>
  have h1:=g.one i (by omega);have h2:=g.one (i+1) h;have h3:=g.WI i h
  have e:jQ es (i+1)=nE es[i]:=by
   show(match es[i]? with|some e=>nE e|none=>(0,0))=_;rw[aa_ (by omega)]
  rw[e];show es[i].1.toNat<es[i+1].1.toNat\/es[i].1.toNat=es[i+1].1.toNat/\es[i].2.toNat<es[i+1].2.toNat;omega
theorem nf{s:aD}{out:List Int}{es:List End}{i:Nat}(h:i<es.length):gr s out es i=iX s out (jQ es i) (nE es[i]):=by
 unfold gr;rw[aa_ h]
theorem vA{s:aD}{es:List End}{i:Nat}(h:i<es.length):iJ s es i=decide (es[i].2<(cy s es[i].1.toNat:Int)):=by
 unfold iJ;rw[aa_ h]
theorem E_{s:aD}{out:List Int}{es:List End}(g:Good s out es){i:Nat}(h:i<es.length):(gr s out es i).getLast?=some ((nE es[i]).1,(nE es[i]).2-1):=by
 have h1:=AX g h;have h2:=g.one i h;rw[nf h];unfold iX
 have h3:0<(nE es[i]).2:=by show 0<es[i].2.toNat;omega
 rw[yl _ _ _ _ (λhd=>by omega) h3]
 congr 2
 omega
theorem CV{s:aD}{out:List Int}{es:List End}(g:Good s out es){i:Nat}(h:i<es.length):gr s out es i≠[]:=by
 intro e;have:=E_ g h;rw[e]at this;cases this
theorem Ht{s:aD}{out:List Int}{es:List End}(g:Good s out es){i:Nat}{x:Nat×Nat}(hx:x∈gr s out es i):x.1<s.words.length/\x.2<cy s x.1:=by
 by_cases h:i<es.length
 case neg=>
  unfold gr at hx;rw[abr (by omega)]at hx;cases hx
 have h1:=AX g h;have h2:=g.one i h;rw[nf h]at hx;have e1:(nE es[i]).1=es[i].1.toNat:=rfl;have e2:(nE es[i]).2=es[i].2.toNat:=rfl
 rcases yz _ _ _ _ hx with⟨h3,h4⟩|⟨h3,h4,h5⟩
 .have h5:x.1=es[i].1.toNat:=by omega
  rw[h5];refine⟨by omega,by omega⟩
 .exact⟨by omega,h5⟩
theorem yL{s:aD}{out:List Int}{es:List End}(hs:bg s=true)(g:Good s out es)(i:Nat):(gr s out es i).length<=24:=by
 by_cases h:i<es.length
 case neg=>
  unfold gr;rw[abr (by omega)];simp
 have h2:=g.one i h
 have hb:∀w,cy s w<=6:=by
  intro w;unfold cy;split
  .rename_i x hx;obtain⟨aw,rfl⟩:=abE.1 hx;exact(mb hs (aba aw)).vX
  .omega
 rw[nf h];unfold iX;have h3:=yx (s:=s) (out:=out) hb ((nE es[i]).1-(jQ es i).1) (jQ es i).1 (jQ es i).2 (nE es[i]).2 (by have:=hb es[i].1.toNat;show es[i].2.toNat<=6;omega)
 have h4:s.words.length<=4:=by
  unfold bg bL at hs;simp only[abc,abe]at hs;omega
 have h5:(nE es[i]).1<s.words.length:=by show es[i].1.toNat<_;omega
 have h6:((nE es[i]).1-(jQ es i).1+1)*6<=4*6:=acH _ (by omega);omega
abbrev Lt:=Int×Int
def bh(s:aD)(g:Nat×Nat):Lt:=((g.1:Int),match s.words[g.1]? with|some w=>w.aP[g.2]?.getD 0|none=>0)
def jJ(lo hi st:Int):Int:=lo+((hi-lo)*st).tdiv 10
def iG(s:aD)(a b:Lt):Int×Int:=if a.1=b.1 then match s.aQ.find? λp=>p.l==a.2&&p.r==b.2 with
 |some p=>(p.lo,p.hi)
 |none=>(s.gX,s.gL)
 else(s.lu,s.lI)
def kT(s:aD)(st:Int)(a b:Lt):Int:=jJ (iG s a b).1 (iG s a b).2 st
def jB(s:aD)(a:Lt):Int:=if a.2<0 then s.cz else s.a_[a.2.toNat]?.getD 0
def gk(s:aD)(st:Int)(l:List Lt):Nat->Int
 |0=>0
 |i+1=>gk s st l i+(match l[i]?,l[i+1]? with|some a,some b=>kT s st a b|_,_=>0)
theorem tS{s:aD}{st:Int}{l:List Lt}{i:Nat}(h:i+1<l.length):gk s st l (i+1)=gk s st l i+kT s st (l[i]'(by omega)) l[i+1]:=by
 show gk s st l i+(match l[i]?,l[i+1]? with|some a,some b=>kT s st a b|_,_=>0)=_;rw[aa_ (by omega),aa_ h]
def f_(s:aD)(l:List Lt):Nat->Int
 |0=>0
 |i+1=>f_ s l i+(match l[i]? with|some a=>jB s a|none=>0)
theorem uf{s:aD}{l:List Lt}{i:Nat}(h:i<l.length):f_ s l (i+1)=f_ s l i+jB s l[i]:=by
 show f_ s l i+(match l[i]? with|some a=>jB s a|none=>0)=_;rw[aa_ h]
def iK(s:aD)(st:Int)(l:List Lt)(cut:Bool):Int:=(f_ s l l.length+(if cut then s.cz else 0))+(gk s st l (l.length-1)+(if cut then jJ s.gX s.gL st else 0))
theorem j4{lo hi st:Int}(h:lo<=hi)(h0:0<=st)(h1:st<=10):lo<=jJ lo hi st/\jJ lo hi st<=hi:=by
 unfold jJ;have a:0<=(hi-lo)*st:=acO (by omega) h0;have b:(hi-lo)*st<=(hi-lo)*10:=Int.mul_le_mul_of_nonneg_left h1 (by omega);rw[Int.tdiv_eq_ediv_of_nonneg a];generalize(hi-lo)*st=x at a b⊢;omega
structure lx(s:aD):Prop where
 a_:∀n∈s.a_,1<=n/\n<=20
 PF:s.a_.length<=6
 aQ:∀p∈s.aQ,0<=p.l/\0<=p.r/\0<=p.lo/\p.lo<=p.hi/\p.hi<=9
 Pe:s.aQ.length<=6
 o:0<=s.gX/\s.gX<=s.gL/\s.gL<=9
 g:0<=s.lu/\s.lu<=s.lI/\s.lI<=20
 cz:1<=s.cz/\s.cz<=20
 words:1<=s.words.length/\s.words.length<=4
 wide:1<=s.wide/\s.wide<=400
 rows:1<=s.rows/\s.rows<=3
theorem fk{s:aD}(h:bg s=true):lx s:=by
 unfold bg oH ia bL at h;simp only[abc,abe,ab0,ab7,fB]at h;obtain⟨⟨⟨⟨h1,h2⟩,h3⟩,h4,_⟩,⟨⟨⟨⟨⟨h5,h6⟩,h7⟩,h8⟩,_⟩,h9⟩,nw⟩:=h;refine⟨λn hn=>?_,by omega,λp hp=>?_,h2,by omega,by omega,by omega,by omega,h9,nw⟩
 .have:=h5 n hn;simpa using this
 .have:=h4 p hp;unfold gy fV ia bL at this;simp only[abc,abe]at this;omega
theorem qx{s:aD}(h:lx s)(a b:Lt):0<=(iG s a b).1/\(iG s a b).1<=(iG s a b).2/\(iG s a b).2<=20:=by
 unfold iG;split
 .split
  .rename_i p hp;have:=h.aQ p (adY hp);simp only;omega
  .have:=h.o;simp only;omega
 .have:=h.g;simp only;omega
theorem ur{s:aD}(h:lx s){st:Int}(h0:0<=st)(h1:st<=10)(a b:Lt):0<=kT s st a b/\kT s st a b<=20:=by
 have h2:=qx h a b;have h3:=j4 h2.2.1 h0 h1;unfold kT;omega
def EW(s:aD)(a:Lt):Prop:=0<=a.2/\a.2<s.a_.length
theorem ua{s:aD}(h:lx s){a:Lt}(ha:EW s a):1<=jB s a/\jB s a<=20:=by
 unfold jB;rw[if_neg (by have:=ha.1;omega)]
 have aw:a.2.toNat<s.a_.length:=by have:=ha.1;have:=ha.2;omega
 rw[aa_ aw];exact h.a_ _ (aba aw)
theorem mG{s:aD}(h:lx s){l:List Lt}(hl:∀a∈l,EW s a):∀{i:Nat},i<=l.length->(i:Int)<=f_ s l i/\f_ s l i<=20*i
 |0,_=>by simp[f_]
 |i+1,hi=>by
  rw[uf (by omega)];have:=mG h hl (i:=i) (by omega);have:=ua h (hl _ (aba (show i<l.length by omega)));omega
theorem mS{s:aD}(h:lx s){st:Int}(h0:0<=st)(h1:st<=10){l:List Lt}:∀{i:Nat},i+1<=l.length->0<=gk s st l i/\gk s st l i<=20*i
 |0,_=>by simp[gk]
 |i+1,hi=>by
  rw[tS hi];have:=mS h h0 h1 (l:=l) (i:=i) (by omega);have:=ur h h0 h1 (l[i]'(by omega)) (l[i+1]'hi);omega
theorem xy{s:aD}(h:lx s){st:Int}(h0:0<=st)(h1:st<=10){l:List Lt}(hl:l≠[])(ho:∀a∈l,EW s a)(hlen:l.length<=24)(cut:Bool):1<=iK s st l cut/\iK s st l cut<=1000:=by
 have gK:=acv.2 hl;unfold iK;have:=mS h h0 h1 (l:=l) (i:=l.length-1) (by omega);have:=mG h ho (i:=l.length) (by omega);have:=j4 h.o.2.1 h0 h1;have:=h.o;have:=h.cz
 split<;>omega
def mK(s:aD)(out:List Int)(es:List End)(st:Int)(i:Nat):Int:=iK s st ((gr s out es i).map (bh s)) (iJ s es i)
def dJ(s:aD)(out:List Int)(es:List End)(st:Int):List Int:=(List.range es.length).map (mK s out es st)
def ig(s:aD)(out:List Int)(es:List End)(st:Int):Bool:=decide ((es.length:Int)<=s.rows)&&(dJ s out es st).all λn=>decide (n<=s.wide)
def sK(p:Int->Bool):Nat->Int
 |0=> -1
 |n+1=>if p n then n else sK p n
def th(s:aD)(out:List Int)(es:List End):Int:=sK (ig s out es) 11
theorem IP{s:aD}(hs:bg s=true){g:Nat×Nat}(h:g.1<s.words.length/\g.2<cy s g.1):EW s (bh s g):=by
 obtain⟨h1,h2⟩:=h;rw[gP h1]at h2;unfold bh EW;simp only;rw[aa_ h1];simp only;rw[aa_ h2];exact(mb hs (aba h1)).sign _ (aba h2)
section
variable{s:aD}{out:List Int}{es:List End}
end
theorem NT{now es:List End}:∀{all:List End}{m:Nat},all≠[]->all.Nodup->(es∈ch now all m↔∃t,es=now++t/\t.Sublist all/\t.getLast?=all.getLast?/\t.length<=m):=by
 have key:∀(all:List End),all.Nodup->∀(now:List End)(m:Nat),(all≠[]->(es∈ch now all m↔∃t,es=now++t/\t.Sublist all/\t.getLast?=all.getLast?/\t.length<=m))/\(all≠[]->(es∈lp now all m↔∃t,es=now++t/\t.Sublist all/\t.getLast?=all.getLast?/\t.length<=m+1)):=by
  intro all
  induction all with
  |nil=>intro _ now m;exact⟨λh=>absurd rfl h,λh=>absurd rfl h⟩
  |cons a r ih=>
   intro eO;obtain⟨ZV,hnr⟩:=ade.1 eO;have ih:=ih hnr
   have NY:∀(now:List End)(m:Nat),es∈lp now (a::r) m↔∃t,es=now++t/\t.Sublist (a::r)/\t.getLast?=(a::r).getLast?/\t.length<=m+1:=by
    intro now m;unfold lp;rw[abk]
    by_cases hr:r=[]
    .subst hr;rw[if_pos rfl,abG]
     constructor
     .rintro(h|h)
      .exact⟨[a],h,List.Sublist.refl _,rfl,by simp⟩
      .unfold lp at h;cases h
     .rintro⟨t,h1,h2,h3,h4⟩;left
      have:t=[a]:=by
       cases h2 with
       |cons _ h=>rw[List.sublist_nil.1 h]at h3;cases h3
       |cons_cons _ h=>rw[List.sublist_nil.1 h]
      rw[h1,this]
    .rw[if_neg hr]
     have hl:(a::r).getLast?=r.getLast?:=by
      cases r with
      |nil=>exact absurd rfl hr
      |cons b r=>rfl
     have h1:(es∈(match m with|0=>[]|m+1=>lp (now++[a]) r m))↔∃t,es=now++a::t/\t.Sublist r/\t.getLast?=r.getLast?/\t.length<=m:=by
      cases m with
      |zero=>
       constructor
       .intro h;cases h
       .rintro⟨t,_,_,h3,h4⟩;have:t=[]:=acT.1 (by omega);subst this;exact absurd (acN.1 h3.symm) hr
      |succ m=>
       simp only;rw[(ih (now++[a]) m).2 hr];simp
     rw[hl];refine(or_congr h1 ((ih now m).2 hr)).trans ?_
     constructor
     .rintro(⟨t,a1,a2,a3,a4⟩|⟨t,a1,a2,a3,a4⟩)
      .refine⟨a::t,a1,a2.cons_cons _,?_,by simp;omega⟩
       cases t with
       |nil=>exact absurd (acN.1 a3.symm) hr
       |cons b t=>rw[<-a3];rfl
      .exact⟨t,a1,a2.cons _,a3,a4⟩
     .rintro⟨t,a1,a2,a3,a4⟩
      cases a2 with
      |cons _ h=>exact .inr ⟨t,a1,h,a3,a4⟩
      |cons_cons _ h=>
       rename_i t;left;refine⟨t,a1,h,?_,by simpa using a4⟩
       cases t with
       |nil=>
        exfalso;apply ZV;exact aeq a3.symm
       |cons b t=>rw[<-a3];rfl
   intro now m;refine⟨λ_=>?_,λ_=>NY now m⟩;unfold ch;rw[if_neg (by simp)]
   cases m with
   |zero=>
    constructor
    .intro h;cases h
    .rintro⟨t,_,_,h3,h4⟩;have:t=[]:=acT.1 (by omega);subst this
     cases r with
     |nil=>cases h3
     |cons b r=>exact absurd (acN.1 h3.symm) (by simp)
   |succ m=>exact NY now m
 intro all m h eO;exact(key all eO now m).1 h
theorem pf{a b c:End}(h:ef a b=true)(h':ef b c=true):ef a c=true:=by
 rw[lD]at*;omega
theorem fN(a:End):ef a a=false:=by
 cases h:ef a a with
 |false=>rfl
 |true=>rw[lD]at h;omega
abbrev j5(l:List End):Prop:=l.Pairwise λa b=>ef a b=true
theorem j5.nodup{l:List End}(h:j5 l):l.Nodup:=h.imp λrJ e=>by
 subst e;rw[fN]at rJ;cases rJ
theorem pI:∀{all t:List End},j5 all->j5 t->(∀x∈t,x∈all)->t.Sublist all
 |[],t,_,_,h=>by
  cases t with
  |nil=>exact .slnil
  |cons a t=>exact absurd (h a abF) (by simp)
 |a::r,[],_,_,_=>List.nil_sublist _
 |a::r,b::t,hs,ht,h=>by
  obtain⟨uT,tG⟩:=acI.1 hs;obtain⟨VV,ZP⟩:=acI.1 ht;rcases acb.1 (h b abF)with e|hb
  .subst e;refine .cons_cons _ (pI tG ZP λx hx=>?_);rcases acb.1 (h x (abm _ hx))with e|CB
   .subst e;have:=VV _ hx;rw[fN]at this;cases this
   .exact CB
  .refine .cons _ (pI tG ht λx hx=>?_);rcases acb.1 (h x hx)with e|CB
   .subst e;exfalso;have h1:=uT b hb;rcases acb.1 hx with e|nx
    .subst e;rw[fN]at h1;cases h1
    .have:=pf h1 (VV _ nx);rw[fN]at this;cases this
   .exact CB
theorem pd{l:List End}(h:∀j (hj:j+1<l.length),ef (l[j]'(by omega)) l[j+1]=true):j5 l:=by
 unfold j5;rw[acu];intro i j hi hj oy
 obtain⟨d,rfl⟩:∃d,j=i+1+d:=⟨j-i-1,by omega⟩
 clear oy
 induction d with
 |zero=>exact h i hj
 |succ d ih=>exact pf (ih (by omega)) (h (i+1+d) hj)
section
variable{s:aD}{out:List Int}{es:List End}
theorem GO(ho:eU s out=true):ja s out≠[]:=by
 intro e;have:=vu ho;rw[e]at this;cases this
theorem uk(hs:bg s=true):∀w∈s.words,eW w.bO 1 (w.aP.length-1)=true:=λ_ hw=>(mb hs hw).bO
def wo(s:aD)(out:List Int)(m:Nat):List (List End):=ch [] (ja s out) m
theorem yD(hs:bg s=true)(ho:eU s out=true){m:Nat}:es∈wo s out m↔jn s out es=true/\es.length<=m:=by
 have Tf:=qu (out:=out) (uk hs);unfold wo;rw[NT (GO ho) (j5.nodup Tf)];unfold jn;rw[ho,aew,abc,abc,fB,ab0,abX];have hl:=vu ho
 constructor
 .rintro⟨t,h1,h2,h3,h4⟩;rw[List.nil_append]at h1;subst h1;rw[h3,hl]
  have cC:es≠[]:=by
   rintro rfl;rw[hl]at h3;cases h3
  have kf:j5 es:=Tf.sublist h2;refine⟨⟨by simpa using cC,⟨λx hx=>wC.1 (h2.subset hx),λj hj=>acu.1 kf j (j+1) _ _ (by omega)⟩,rfl⟩,h4⟩
 .rintro⟨⟨h1,⟨h2,h3⟩,h4⟩,h5⟩
  have cC:es≠[]:=by
   rintro rfl;cases h1
  refine⟨es,rfl,pI Tf (pd h3) λx hx=>wC.2 (h2 x hx),?_,h5⟩;rw[List.getLast?_eq_some_getLast cC]at h4⊢;rw[hl];exact congrArg some h4
end
def pL:List End->List End->Bool
 |[],[]=>false
 |[],_::_=>true
 |_::_,[]=>false
 |a::x,b::y=>if a=b then pL x y else ef a b
theorem GN(now x y:List End):pL (now++x) (now++y)=pL x y:=by
 induction now with
 |nil=>rfl
 |cons a now ih=>
  show(if a=a then pL (now++x) (now++y)else ef a a)=_;rw[if_pos rfl,ih]
theorem sg:∀l:List End,pL l l=false
 |[]=>rfl
 |a::l=>by
  unfold pL;rw[if_pos rfl];exact sg l
theorem lH{es:List End}:∀{all now:List End}{m:Nat},es∈lp now all m->∃b t,b∈all/\es=now++b::t
 |[],now,m,h=>by unfold lp at h;cases h
 |a::r,now,m,h=>by
  unfold lp at h;rcases abk.1 h with h|h
  .split at h
   .exact⟨a,[],abF,abG.1 h⟩
   .split at h
    .cases h
    .obtain⟨b,t,h1,rfl⟩:=lH h;exact⟨a,b::t,abF,by simp⟩
  .obtain⟨b,t,h1,rfl⟩:=lH h;exact⟨b,t,abm _ h1,rfl⟩
theorem qV:∀{all now:List End}{m:Nat},j5 all->(lp now all m).Pairwise λx y=>pL x y=true
 |[],now,m,_=>by unfold lp;exact .nil
 |a::r,now,m,hs=>by
  obtain⟨uT,tG⟩:=acI.1 hs;unfold lp;rw[acY];refine⟨?_,qV tG,?_⟩
  .split
   .exact adq _ _
   .split
    .exact .nil
    .exact qV tG
  .intro x hx y hy;obtain⟨b,t,hb,rfl⟩:=lH hy
   have CB:∃u,x=now++a::u:=by
    split at hx
    .exact⟨[],abG.1 hx⟩
    .split at hx
     .cases hx
     .obtain⟨c,u,_,rfl⟩:=lH hx;exact⟨c::u,by simp⟩
   obtain⟨u,rfl⟩:=CB;rw[GN];unfold pL;have rJ:=uT b hb;rw[if_neg,rJ];rintro rfl;rw[fN]at rJ;cases rJ
theorem ET{all now:List End}{m:Nat}(hs:j5 all):(ch now all m).Pairwise λx y=>pL x y=true:=by
 unfold ch;split
 .exact adq _ _
 .split
  .exact .nil
  .exact qV hs
theorem Cn{l:List (List End)}(h:l.Pairwise λx y=>pL x y=true):l.Nodup:=h.imp λrJ e=>by
 subst e;rw[sg]at rJ;cases rJ
def iA(s:aD)(out:List Int):List (List End):=(wo s out s.rows.toNat).filter λes=>ig s out es 0
theorem qO{s:aD}{out:List Int}{es:List End}(hs:bg s=true)(ho:eU s out=true):es∈iA s out↔jn s out es=true/\ig s out es 0=true:=by
 unfold iA;rw[List.mem_filter,yD hs ho]
 constructor
 .rintro⟨⟨h1,_⟩,h2⟩;exact⟨h1,h2⟩
 .rintro⟨h1,h2⟩;refine⟨⟨h1,?_⟩,h2⟩;unfold ig at h2;simp only[abc,abe]at h2;omega
theorem xR{s:aD}{out:List Int}(hs:bg s=true):(iA s out).Pairwise λx y=>pL x y=true:=
 (ET (qu (uk hs))).sublist List.filter_sublist
section
variable{α:Type}
def gC(better:α->α->Bool)(x:α)(l:List α):α:=l.foldl (λo x=>if better x o then x else o) x
end
theorem vx{α:Type}[DecidableEq α]:∀{l r:List α},l.Nodup->(∀x∈l,x∈r)->l.length<=r.length
 |[],_,_,_=>abZ _
 |a::l,r,h,hs=>by
  obtain⟨h1,h2⟩:=ade.1 h;have ha:=hs a abF;have hl:=ad4 ha;have hp:=adM ha
  have:=vx (r:=r.erase a) h2 λx hx=>(aer (by rintro rfl;exact h1 hx)).2 (hs x (abm _ hx))
  simp only[List.length_cons];omega
structure Qt(w x:Word):Prop where
 aP:x.aP=w.aP
 free:x.free=w.free
 bO:∀c∈w.bO,c∈x.bO
structure fK(s x:aD):Prop where
 a_:x.a_=s.a_
 aQ:x.aQ=s.aQ
 gX:x.gX=s.gX
 gL:x.gL=s.gL
 lu:x.lu=s.lu
 lI:x.lI=s.lI
 cz:x.cz=s.cz
 len:x.words.length=s.words.length
 words:∀i (h:i<s.words.length),Qt s.words[i] (x.words[i]'(by omega))
 wide:s.wide<=x.wide
 rows:s.rows<=x.rows
section
variable{s x:aD}{out:List Int}{es:List End}
theorem fK.cy(h:fK s x)(i:Nat):cy x i=cy s i:=by
 unfold Tryz.cy
 by_cases hi:i<s.words.length
 .rw[aa_ hi,aa_ (by rw[h.len];exact hi)];simp only;rw[(h.words i hi).aP]
 .have:=h.len;rw[abr (show s.words.length<=i by omega),abr (show x.words.length<=i by omega)]
theorem fK.bh(h:fK s x)(g:Nat×Nat):bh x g=bh s g:=by
 unfold Tryz.bh
 by_cases hi:g.1<s.words.length
 .rw[aa_ hi,aa_ (by rw[h.len];exact hi)];simp only;rw[(h.words g.1 hi).aP]
 .have:=h.len;rw[abr (show s.words.length<=g.1 by omega),abr (show x.words.length<=g.1 by omega)]
theorem tT{s x:aD}(h:∀i,Tryz.cy x i=Tryz.cy s i)(out:List Int):∀d w f t,gm x out d w f t=gm s out d w f t
 |0,_,_,_=>rfl
 |d+1,w,f,t=>by
  unfold gm;rw[h,tT h out d]
theorem fK.gr(h:fK s x)(i:Nat):gr x out es i=gr s out es i:=by
 unfold Tryz.gr;split
 .unfold iX;rw[tT h.cy]
 .rfl
theorem fK.iJ(h:fK s x)(i:Nat):iJ x es i=iJ s es i:=by
 unfold Tryz.iJ;split
 .rw[h.cy]
 .rfl
theorem EL{s x:aD}(h2:x.aQ=s.aQ)(h3:x.gX=s.gX)(h4:x.gL=s.gL)(h5:x.lu=s.lu)(h6:x.lI=s.lI)(st:Int)(a b:Lt):kT x st a b=kT s st a b:=by
 unfold kT iG;rw[h2,h3,h4,h5,h6]
theorem AP{s x:aD}(h1:x.a_=s.a_)(h2:x.aQ=s.aQ)(h3:x.gX=s.gX)(h4:x.gL=s.gL)(h5:x.lu=s.lu)(h6:x.lI=s.lI)(h7:x.cz=s.cz)(st:Int)(l:List Lt)(cut:Bool):iK x st l cut=iK s st l cut:=by
 have e1:∀i,f_ x l i=f_ s l i:=by
  intro i
  induction i with
  |zero=>rfl
  |succ i ih=>
   unfold f_;rw[ih]
   congr 1
   split
   .unfold jB;rw[h1,h7]
   .rfl
 have e2:∀i,gk x st l i=gk s st l i:=by
  intro i
  induction i with
  |zero=>rfl
  |succ i ih=>
   unfold gk;rw[ih]
   congr 1
   split
   .exact EL h2 h3 h4 h5 h6 st _ _
   .rfl
 unfold iK;rw[e1,e2,h3,h4,h7]
theorem fK.mK(h:fK s x)(st:Int)(i:Nat):mK x out es st i=mK s out es st i:=by
 unfold Tryz.mK;rw[h.gr,h.iJ,AP h.a_ h.aQ h.gX h.gL h.lu h.lI h.cz]
 congr 1
 exact ab_ λg _=>h.bh g
theorem fK.dJ(h:fK s x)(st:Int):dJ x out es st=dJ s out es st:=by
 unfold Tryz.dJ
 exact ab_ λi _=>h.mK st i
theorem fK.ig(h:fK s x){st:Int}(hf:ig s out es st=true):ig x out es st=true:=by
 unfold Tryz.ig at hf⊢;rw[h.dJ];simp only[abc,abt,abe]at hf⊢;have:=h.wide;have:=h.rows;exact⟨by omega,λn hn=>by have:=hf.2 n hn;omega⟩
theorem fK.eU(h:fK s x):eU x out=eU s out:=by
 unfold Tryz.eU;rw[h.len]
 have:ma x=ma s:=by
  unfold ma
  funext n
  by_cases hi:n.toNat<s.words.length
  .rw[aa_ hi,aa_ (by rw[h.len];exact hi)];simp only;rw[(h.words _ hi).free]
  .have:=h.len;rw[abr (show s.words.length<=n.toNat by omega),abr (show x.words.length<=n.toNat by omega)]
 rw[this]
theorem fK.jn(h:fK s x)(hr:jn s out es=true):jn x out es=true:=by
 unfold Tryz.jn at hr⊢;rw[h.eU];simp only[abc,fB]at hr⊢;obtain⟨h1,⟨h2,h3⟩,h4⟩:=hr;refine⟨h1,⟨λe he=>?_,h3⟩,?_⟩
 .have:=h2 e he;unfold sc at this⊢;rw[h.len]
  by_cases hi:e.1.toNat<s.words.length
  .rw[aa_ hi]at this;rw[aa_ (by rw[h.len];exact hi)];simp only[abc,acr]at this⊢;rw[(h.words _ hi).aP];refine⟨this.1,this.2.imp id λhc=>?_⟩;have:=(h.words _ hi).bO e.2 (by simpa using hc);simpa using this
  .rw[abr (by omega)]at this;simp at this
 .have e1:iZ x out=iZ s out:=by
   unfold iZ;rw[h.len]
   congr 1
   by_cases hi:(iE out s.words.length).toNat<s.words.length
   .rw[aa_ hi,aa_ (by rw[h.len];exact hi)];simp only;rw[(h.words _ hi).aP]
   .have:=h.len;rw[abr (show s.words.length<=(iE out s.words.length).toNat by omega),abr (show x.words.length<=(iE out s.words.length).toNat by omega)]
  rw[e1];exact h4
theorem fK.vH(h:fK s x)(hs:bg s=true)(hx:bg x=true)(ho:Tryz.eU s out=true)(hm:es∈iA s out):es∈iA x out:=by
 rw[qO hx (by rw[h.eU];exact ho)];rw[qO hs ho]at hm;exact⟨h.jn hm.1,h.ig hm.2⟩
theorem fK.count(h:fK s x)(hs:bg s=true)(hx:bg x=true)(ho:Tryz.eU s out=true):(iA s out).length<=(iA x out).length:=
 vx (Cn (xR hs)) λ_ hm=>h.vH hs hx ho hm
end
theorem we:∀{all now:List End},all≠[]->(lp now all 0).length=1
 |[],_,h=>absurd rfl h
 |a::r,now,_=>by
  unfold lp
  by_cases hr:r=[]
  .subst hr;simp[lp]
  .simp only[if_neg hr,List.nil_append];exact we hr
theorem wb:∀{all now:List End},(lp now all 1).length=all.length
 |[],_=>rfl
 |a::r,now=>by
  unfold lp
  by_cases hr:r=[]
  .subst hr;simp[lp]
  .simp only[if_neg hr,abu,List.length_cons];rw[we hr,wb];omega
theorem C3:∀{all now:List End},all≠[]->2*(lp now all 2).length=2+all.length*(all.length-1)
 |[],_,h=>absurd rfl h
 |a::r,now,_=>by
  unfold lp
  by_cases hr:r=[]
  .subst hr;simp[lp]
  .simp only[if_neg hr,abu,List.length_cons];rw[wb,Nat.mul_add,C3 hr]
   obtain⟨n,hn⟩:∃n,r.length=n+1:=⟨r.length-1,by have:=acv.2 hr;omega⟩
   rw[hn];simp only[adj]
   have e1:(n+1+1)*(n+1)=(n+1)*n+2*(n+1):=by
    rw[ac2,acW (n+1) n,ac2 n 1];omega
   omega
theorem N4{all now:List End}{m:Nat}(h:all.length<=24)(hm:m<=3):(ch now all m).length<=277:=by
 unfold ch;split
 .simp
 rename_i cC
 match m,hm with
 |0,_=>simp
 |1,_=>simp only;rw[we cC];omega
 |2,_=>simp only;rw[wb];omega
 |3,_=>
  simp only;have:=C3 (now:=now) cC;have:all.length*(all.length-1)<=24*23:=aeh h (by omega);omega
theorem rR{l:List Int}{lo hi:Int}(h:eW l lo hi=true)(hle:lo<=hi+1):(l.length:Int)<=hi+1-lo:=by
 have h':=h;unfold eW at h;rw[fB]at h;obtain⟨h1,h2⟩:=h
 have key:∀j (hj:j<l.length),lo+j<=l[j]:=by
  intro j
  induction j with
  |zero=>
   intro hj;have:=h1 _ (aba hj);simp[bL]at this;simpa using this.1
  |succ j ih=>
   intro hj;have:=ih (by omega);have:=h2 j hj;simp at this;omega
 by_cases h0:l.length=0
 .omega
 .have a:=key (l.length-1) (by omega);have b:=h1 _ (aba (show l.length-1<l.length by omega));simp[bL]at b;omega
theorem qR{s:aD}(hs:bg s=true){out:List Int}(n:Nat):(gh s out n).length<=cy s n/\cy s n<=6:=by
 unfold gh cy
 by_cases h:n<s.words.length
 .rw[aa_ h];have hw:=mb hs (aba h);have h1:=hw.Gm;have:=rR hw.bO (by omega);have:=hw.vX;split
  .simp only[List.length_nil];omega
  .simp only[abu,abh,List.length_cons,List.length_nil];omega
 .rw[abr (by omega)]
  split<;>simp
theorem wN{s:aD}(hs:bg s=true)(out:List Int):(ja s out).length<=24:=by
 unfold ja;have h4:=(fk hs).words.2
 have key:∀m:Nat,((List.range m).flatMap (gh s out)).length<=6*m:=by
  intro m
  induction m with
  |zero=>simp
  |succ m ih=>
   rw[ab3,acR,acZ,abu];have:=qR hs (out:=out) m;omega
 have:=key s.words.length;omega
theorem yu{s:aD}(hs:bg s=true)(out:List Int){m:Nat}(hm:m<=3):(wo s out m).length<=277:=N4 (wN hs out) hm
theorem Eb{s:aD}(hs:bg s=true)(out:List Int):(iA s out).length<=277:=
 ace (adg _ _) (yu hs out (by have:=(fk hs).rows;omega))
section
variable{s x:aD}{m:Nat}{z z':Nat×Nat}
end
theorem Ct{s:aD}{out:List Int}{e:End}:sc s out e=true↔0<=e.1/\¬e.1∈out/\∃h:e.1.toNat<s.words.length,e.2=s.words[e.1.toNat].aP.length\/e.2∈s.words[e.1.toNat].bO:=by
 unfold sc bL;simp only[abc,abe,ab0,adC,ac3]
 constructor
 .rintro⟨⟨⟨h1,h2⟩,h3⟩,h4⟩
  have aw:e.1.toNat<s.words.length:=by omega
  rw[aa_ aw]at h4;refine⟨h1,h3,aw,?_⟩;simpa using h4
 .rintro⟨h1,h3,aw,h4⟩;refine⟨⟨⟨h1,by omega⟩,h3⟩,?_⟩;rw[aa_ aw];simpa using h4
theorem Ew{s:aD}{m:Nat}(h:s.words.length=m+1):iZ s []=((m:Int),(cy s m:Int)):=by
 unfold iZ
 have e:iE [] s.words.length=m:=by rw[h];unfold iE;simp
 rw[e,Int.toNat_natCast,aa_ (by omega),gP (by omega)]
section
variable{s:aD}
theorem sO(hs:bg s=true):eU s []=true:=by
 have:=(fk hs).words.1;unfold eU eW jW;simp;omega
end
section
variable{α:Type}{len:α->Nat}{most:α->Int}
def CR(len:α->Nat)(most:α->Int)(a b:α):Bool:=decide (len a<len b)||(len a==len b&&decide (most b<most a))
end
structure dS(s x:aD)(out:List Int)(k:Nat->Nat)(N:Nat):Prop where
 pos:0<N
 n:x.words.length=N
 lt:∀i,i<N->k i<s.words.length
 mono:∀i,i+1<N->k i<k (i+1)
 Si:∀i,i<N->out.contains (k i:Int)=false
 gap:∀i,i+1<N->∀j,k i<j->j<k (i+1)->out.contains (j:Int)=true
 first:∀j,j<k 0->out.contains (j:Int)=true
 last:∀j,k (N-1)<j->j<s.words.length->out.contains (j:Int)=true
 word:∀i,i<N->x.words[i]?=s.words[k i]?
 h1:x.a_=s.a_
 h2:x.aQ=s.aQ
 h3:x.gX=s.gX
 h4:x.gL=s.gL
 h5:x.lu=s.lu
 h6:x.lI=s.lI
 h7:x.cz=s.cz
 h8:x.wide=s.wide
 h9:x.rows=s.rows
section
variable{s x:aD}{out:List Int}{k:Nat->Nat}{N:Nat}
theorem dS.cy(h:dS s x out k N){i:Nat}(hi:i<N):cy x i=cy s (k i):=by
 unfold Tryz.cy;rw[h.word i hi]
theorem dS.zP(h:dS s x out k N):∀d i,i+d+1<N->k i<k (i+d+1)
 |0,i,hi=>h.mono i hi
 |d+1,i,hi=>Nat.lt_trans (h.zP d i (by omega)) (h.mono (i+d+1) hi)
theorem dS.lt_iff(h:dS s x out k N){i j:Nat}(hi:i<N)(hj:j<N):k i<k j↔i<j:=by
 constructor
 .intro hk
  by_cases oy:i<j
  .exact oy
  .by_cases he:i=j
   .subst he;omega
   .have:=h.zP (i-j-1) j (by omega);rw[show j+(i-j-1)+1=i by omega]at this;omega
 .intro oy;have:=h.zP (j-i-1) i (by omega);rwa [show i+(j-i-1)+1=j by omega]at this
theorem dS.inj(h:dS s x out k N){i j:Nat}(hi:i<N)(hj:j<N)(he:k i=k j):i=j:=by
 have h1:=h.lt_iff hi hj;have h2:=h.lt_iff hj hi;omega
theorem qY{d t:Nat}:∀(m w:Nat),(∀j,w<=j->j<w+m->out.contains (j:Int)=true)->gm s out (m+d) w 0 t=gm s out d (w+m) 0 t
 |0,w,_=>by rw[abV,Nat.add_zero]
 |m+1,w,h=>by
  rw[show m+1+d=(m+d)+1 by omega];show(if out.contains (w:Int)then[]else l5 w 0 (cy s w))++gm s out (m+d) (w+1) 0 t=_;rw[h w (by omega) (by omega),if_pos rfl,List.nil_append,qY m (w+1) (λj h1 h2=>h j (by omega) (by omega)),show w+1+m=w+(m+1) by omega]
def mN(k:Nat->Nat)(g:Nat×Nat):Nat×Nat:=(k g.1,g.2)
theorem CC(w f t:Nat):(l5 w f t).map (mN k)=l5 (k w) f t:=by
 unfold l5;rw[ack];rfl
theorem dS.gm(h:dS s x out k N){t:Nat}:∀d w f,w+d<N->(gm x [] d w f t).map (mN k)=gm s out (k (w+d)-k w) (k w) f t
 |0,w,f,_=>by
  rw[Nat.add_zero,ad3];exact CC w f t
 |d+1,w,f,hw=>by
  have m1:=h.mono w (by omega)
  have m2:k (w+1)<=k (w+1+d):=by
   cases d with
   |zero=>exact abg _
   |succ d=>exact aej (h.zP d (w+1) (by omega))
  rw[show w+(d+1)=w+1+d by omega];rw[show k (w+1+d)-k w=((k (w+1)-k w-1)+(k (w+1+d)-k (w+1)))+1 by omega];show List.map (mN k) ((if([]:List Int).contains (w:Int)then[]else l5 w f (Tryz.cy x w))++Tryz.gm x [] d (w+1) 0 t)=(if out.contains (k w:Int)then[]else l5 (k w) f (Tryz.cy s (k w)))++Tryz.gm s out ((k (w+1)-k w-1)+(k (w+1+d)-k (w+1))) (k w+1) 0 t;rw[if_neg (by simp),h.Si w (by omega),if_neg (by simp),abK,CC,h.cy (by omega),h.gm d (w+1) 0 (by omega),qY _ _ λj h1 h2=>h.gap w (by omega) j (by omega) (by omega),show k w+1+(k (w+1)-k w-1)=k (w+1) by omega]
def pj(k:Nat->Nat)(e:End):End:=((k e.1.toNat:Int),e.2)
theorem MB(e:End):nE (pj k e)=mN k (nE e):=rfl
theorem sM(es:List End)(i:Nat):jQ es (i+1)=match es[i]? with|some e=>nE e|none=>(0,0):=rfl
theorem JU(es:List End)(i:Nat):jQ (es.map (pj k)) (i+1)=if i<es.length then mN k (jQ es (i+1))else(0,0):=by
 rw[sM,sM,abH]
 by_cases hi:i<es.length
 .rw[aa_ hi,if_pos hi];rfl
 .rw[abr (by omega),if_neg hi];rfl
def Ns(N:Nat)(es:List End):Prop:=∀e∈es,0<=e.1/\e.1.toNat<N
theorem dS.gr(h:dS s x out k N){es:List End}(hr:Ns N es)(hs:∀j (hj:j+1<es.length),es[j].1.toNat<=es[j+1].1.toNat)(i:Nat)(hi:i<es.length):(gr x [] es i).map (mN k)=gr s out (es.map (pj k)) i:=by
 have cU:i<(es.map (pj k)).length:=by rw[abh];exact hi
 rw[nf hi,nf cU,abl,MB];have he:=hr _ (aba hi)
 cases i with
 |zero=>
  have h0:=h.gm (t:=(nE es[0]).2) (nE es[0]).1 0 0 (by rw[abV];exact he.2);show List.map (mN k) (Tryz.gm x [] ((nE es[0]).1-0) 0 0 (nE es[0]).2)=Tryz.gm s out (k (nE es[0]).1-0) 0 0 (nE es[0]).2;rw[Nat.sub_zero,Nat.sub_zero,h0,abV]
  have hk:k 0<=k (nE es[0]).1:=by
   by_cases hz:(nE es[0]).1=0
   .rw[hz];exact abg _
   .exact aej ((h.lt_iff h.pos he.2).2 (Nat.pos_of_ne_zero hz))
  have:=qY (s:=s) (out:=out) (d:=k (nE es[0]).1-k 0) (t:=(nE es[0]).2) (k 0) 0 λj _ h2=>h.first j (by omega)
  rw[show k 0+(k (nE es[0]).1-k 0)=k (nE es[0]).1 by omega,abV]at this;exact this.symm
 |succ i=>
  have ha:jQ es (i+1)=nE es[i]:=by rw[sM,aa_ (by omega)]
  have hb:=hr _ (aba (by omega:i<es.length));have hle:=hs i hi;rw[JU,if_pos (by omega),ha]
  have:=h.gm (t:=(nE es[i+1]).2) ((nE es[i+1]).1-(nE es[i]).1) (nE es[i]).1 (nE es[i]).2 (by
   show es[i].1.toNat+(es[i+1].1.toNat-es[i].1.toNat)<N
   have:=he.2;omega)
  rw[show(nE es[i]).1+((nE es[i+1]).1-(nE es[i]).1)=(nE es[i+1]).1 by show es[i].1.toNat+(es[i+1].1.toNat-es[i].1.toNat)=es[i+1].1.toNat;omega]at this;exact this
theorem dS.iJ(h:dS s x out k N){es:List End}(hr:Ns N es)(i:Nat)(hi:i<es.length):iJ x es i=iJ s (es.map (pj k)) i:=by
 have cU:i<(es.map (pj k)).length:=by rw[abh];exact hi
 rw[vA hi,vA cU,abl];show decide (es[i].2<(Tryz.cy x es[i].1.toNat:Int))=decide (es[i].2<(Tryz.cy s ((k es[i].1.toNat:Int)).toNat:Int));rw[Int.toNat_natCast,h.cy (hr _ (aba hi)).2]
theorem dS.JI(h:dS s x out k N){g:Nat×Nat}(hg:g.1<N):(bh x g).2=(bh s (mN k g)).2:=by
 unfold bh mN;simp only;rw[h.word _ hg]
theorem dS.jB(h:dS s x out k N){a b:Lt}(he:a.2=b.2):jB x a=jB s b:=by
 unfold Tryz.jB;rw[he,h.h1,h.h7]
theorem dS.kT(h:dS s x out k N)(st:Int){f g:Nat×Nat}(hf:f.1<N)(hg:g.1<N):kT x st (bh x f) (bh x g)=kT s st (bh s (mN k f)) (bh s (mN k g)):=by
 have e:iG x (bh x f) (bh x g)=iG s (bh s (mN k f)) (bh s (mN k g)):=by
  unfold iG;rw[h.JI hf,h.JI hg,h.h2,h.h3,h.h4,h.h5,h.h6]
  by_cases he:f.1=g.1
  .rw[if_pos (by unfold bh;simp only;omega),if_pos (by unfold bh mN;simp only;rw[he])]
  .rw[if_neg (by unfold bh;simp only;omega),if_neg];unfold bh mN;simp only;intro hc;exact he (h.inj hf hg (by omega))
 unfold Tryz.kT;rw[e]
theorem dS.iK(h:dS s x out k N)(st:Int){l:List (Nat×Nat)}(hl:∀g∈l,g.1<N)(cut:Bool):iK x st (l.map (bh x)) cut=iK s st ((l.map (mN k)).map (bh s)) cut:=by
 have e1:∀i,f_ x (l.map (bh x)) i=f_ s ((l.map (mN k)).map (bh s)) i:=by
  intro i
  induction i with
  |zero=>rfl
  |succ i ih=>
   unfold f_;rw[ih,ack,abH,abH]
   by_cases hi:i<l.length
   .rw[aa_ hi];show _+Tryz.jB x (bh x l[i])=_+Tryz.jB s (bh s (mN k l[i]));rw[h.jB (h.JI (hl _ (aba hi)))]
   .rw[abr (by omega)];rfl
 have e2:∀i,gk x st (l.map (bh x)) i=gk s st ((l.map (mN k)).map (bh s)) i:=by
  intro i
  induction i with
  |zero=>rfl
  |succ i ih=>
   unfold gk;rw[ih,ack,abH,abH,abH,abH]
   by_cases hi:i+1<l.length
   .rw[aa_ (by omega:i<l.length),aa_ hi];show _+Tryz.kT x st (bh x l[i]) (bh x l[i+1])=_+Tryz.kT s st (bh s (mN k l[i])) (bh s (mN k l[i+1]));rw[h.kT st (hl _ (aba _)) (hl _ (aba hi))]
   .rw[abr (by omega:l.length<=i+1)]
    cases l[i]?<;>rfl
 unfold Tryz.iK;rw[e1,e2,h.h3,h.h4,h.h7];simp only[abh]
end
section
variable{s x:aD}{out:List Int}{k:Nat->Nat}{N:Nat}
theorem dS.iE(h:dS s x out k N):Tryz.iE out s.words.length=(k (N-1):Int):=by
 have hp:=h.pos;have hl:=h.lt (N-1) (by omega)
 have:∀n,k (N-1)<n->n<=s.words.length->Tryz.iE out n=(k (N-1):Int):=by
  intro n
  induction n with
  |zero=>intro h1;omega
  |succ n ih=>
   intro h1 h2;unfold Tryz.iE
   by_cases he:n=k (N-1)
   .subst he;rw[h.Si _ (by omega)];rfl
   .rw[h.last n (by omega) (by omega),if_pos rfl];exact ih (by omega) (by omega)
 exact this _ hl (abg _)
theorem dS.sc(h:dS s x out k N){e:End}(h0:0<=e.1)(hn:e.1.toNat<N):Tryz.sc x [] e=true↔Tryz.sc s out (pj k e)=true:=by
 rw[Ct,Ct];have hk:=h.lt _ hn
 have hx:e.1.toNat<x.words.length:=by rw[h.n];exact hn
 have hw:=h.word _ hn;rw[aa_ hx,aa_ hk]at hw;have hw:=abv hw;have hi:=h.Si _ hn
 constructor
 .rintro⟨_,_,_,h3⟩;refine⟨by show(0:Int)<=(k e.1.toNat:Int);omega,?_,?_⟩
  .show¬(k e.1.toNat:Int)∈out;simpa using hi
  .refine⟨by show(k e.1.toNat:Int).toNat<_;omega,?_⟩;show e.2=((s.words[(k e.1.toNat:Int).toNat]'_).aP.length:Int)\/e.2∈(s.words[(k e.1.toNat:Int).toNat]'_).bO;simp only[Int.toNat_natCast];rw[<-hw];exact h3
 .rintro⟨_,_,_,h3⟩;refine⟨h0,by simp,hx,?_⟩;have h3:e.2=((s.words[(k e.1.toNat:Int).toNat]'(by rw[Int.toNat_natCast];exact hk)).aP.length:Int)\/e.2∈(s.words[(k e.1.toNat:Int).toNat]'(by rw[Int.toNat_natCast];exact hk)).bO:=h3;simp only[Int.toNat_natCast]at h3;rw[hw];exact h3
theorem dS.F0(h:dS s x out k N){a b:End}(ha:0<=a.1/\a.1.toNat<N)(hb:0<=b.1/\b.1.toNat<N):ef a b=ef (pj k a) (pj k b):=by
 have h1:=h.lt_iff ha.2 hb.2
 have h2:k a.1.toNat=k b.1.toNat↔a.1.toNat=b.1.toNat:=⟨h.inj ha.2 hb.2,λe=>by rw[e]⟩
 unfold ef pj;rw[ab6];simp only[acr,abc,abe,abX];omega
theorem dS.jn(h:dS s x out k N)(ho:eU s out=true)(hx:eU x []=true){es:List End}(hr:Ns N es):Tryz.jn x [] es=Tryz.jn s out (es.map (pj k)):=by
 have Dw:(es.getLast?.getD (-1,0)==iZ x [])=((es.map (pj k)).getLast?.getD (-1,0)==iZ s out)\/es=[]:=by
  by_cases cC:es=[]
  .exact .inr cC
  refine .inl ?_
  obtain⟨e,he⟩:∃e,es.getLast?=some e:=by cases hh:es.getLast? with|none=>exact absurd (acN.1 hh) cC|some e=>exact⟨e,rfl⟩
  have hem:=aeq he;have hee:=hr e hem;have hp:=h.pos;rw[List.getLast?_map,he]
  show(e==iZ x [])=(pj k e==iZ s out)
  have e1:iZ x []=(((N-1:Nat):Int),(Tryz.cy x (N-1):Int)):=Ew (by rw[h.n];omega)
  have e2:iZ s out=((k (N-1):Int),(Tryz.cy s (k (N-1)):Int)):=by
   unfold iZ;rw[h.iE,Int.toNat_natCast];unfold Tryz.cy;rw[aa_ (h.lt _ (by omega))]
  rw[e1,e2,h.cy (by omega),ab6,abX,abX]
  constructor
  .rintro rfl;show((k ((N-1:Nat):Int).toNat:Int),(Tryz.cy s (k (N-1)):Int))=_;rw[Int.toNat_natCast]
  .intro hh;have a1:(k e.1.toNat:Int)=(k (N-1):Int):=congrArg Prod.fst hh;have a2:e.2=(Tryz.cy s (k (N-1)):Int):=congrArg Prod.snd hh;have:=h.inj hee.2 (by omega) (by omega:k e.1.toNat=k (N-1));exact Prod.ext (by show e.1=((N-1:Nat):Int);omega) a2
 rcases Dw with Dw|rfl
 .unfold Tryz.jn;rw[ho,hx,Dw]
  have e1:(es.map (pj k)).isEmpty=es.isEmpty:=by cases es<;>rfl
  have e2:jW (Tryz.sc x []) ef es=jW (Tryz.sc s out) ef (es.map (pj k)):=by
   rw[ab6,fB,fB]
   constructor
   .rintro⟨h1,h2⟩;refine⟨λe he=>?_,λj hj=>?_⟩
    .obtain⟨e',kq,rfl⟩:=abz.1 he;exact(h.sc (hr _ kq).1 (hr _ kq).2).1 (h1 _ kq)
    .have dw:j+1<es.length:=by simpa using hj
     rw[abl,abl,<-h.F0 (hr _ (aba _)) (hr _ (aba _))];exact h2 j dw
   .rintro⟨h1,h2⟩;refine⟨λe he=>?_,λj hj=>?_⟩
    .exact(h.sc (hr _ he).1 (hr _ he).2).2 (h1 _ (aez he))
    .have:=h2 j (by simpa using hj);rw[abl,abl,<-h.F0 (hr _ (aba _)) (hr _ (aba _))]at this;exact this
  rw[e1,e2]
 .unfold Tryz.jn;simp
theorem dS.ig(h:dS s x out k N){es:List End}(hr:Ns N es)(hs:∀j (hj:j+1<es.length),es[j].1.toNat<=es[j+1].1.toNat)(kJ:∀i,i<es.length->∀g∈Tryz.gr x [] es i,g.1<N)(st:Int):Tryz.ig x [] es st=Tryz.ig s out (es.map (pj k)) st:=by
 have e:dJ x [] es st=dJ s out (es.map (pj k)) st:=by
  unfold dJ;rw[abh]
  refine ab_ λi hi=>?_
  have hi:i<es.length:=abC.1 hi;unfold mK;rw[h.iK st (kJ i hi),h.gr hr hs i hi,h.iJ hr i hi]
 unfold Tryz.ig;rw[e,abh,h.h8,h.h9]
end
def l0(l:List Int):Nat:=match l.getLast? with|some x=>x.toNat+1|none=>0
theorem CT{s:aD}{l:List Int}(h:eU s l=true):l.length<s.words.length:=by
 unfold eU at h;simp only[abc,abe]at h;exact h.1.2
theorem vj{α β:Type}{f:α->List β}{b:Nat}(hf:∀x,(f x).length<=b):∀l:List α,(l.flatMap f).length<=b*l.length
 |[]=>by simp
 |a::l=>by
  have:=vj hf l;have:=hf a;rw[acE,abu,List.length_cons,Nat.mul_add];omega
structure Grown(b:Nat)(x:aD)(k:Nat):Prop where
 a_:x.a_.length<=k
 aQ:x.aQ.length<=k
 words:x.words.length<=k
 aP:∀w∈x.words,w.aP.length<=b
 bO:∀w∈x.words,w.bO.length<=b
theorem Grown.mono{b k k':Nat}{x:aD}(h:Grown b x k)(hk:k<=k'):Grown b x k':=⟨by have:=h.a_;omega,by have:=h.aQ;omega,by have:=h.words;omega,h.aP,h.bO⟩
def kN(s:aD)(i:Nat):Bool:=!ma s (i:Int)
theorem xp{α β:Type}{l:List α}{f g:α->List β}(h:∀a∈l,f a=g a):l.flatMap f=l.flatMap g:=by
 rw[List.flatMap_def,List.flatMap_def,ab_ h]
def qt(s:aD):Nat->List Int->List (List Int)
 |0,now=>[now]
 |d+1,now=>(List.range' (l0 now) (s.words.length-l0 now)).flatMap λi:Nat=>if kN s i then qt s d (now++[(i:Int)])else[]
theorem HI{s:aD}{l:List Int}(h:eU s l=true){i:Nat}(h1:l0 l<=i)(h2:i<s.words.length)(h3:l.length+1<s.words.length):eU s (l++[(i:Int)])=kN s i:=by
 unfold eU at h;simp only[abc,abe,ab0,ab7]at h;obtain⟨⟨a1,a2⟩,a3⟩:=h;unfold eW at a1;rw[fB]at a1;obtain⟨a1,a4⟩:=a1
 have hr:eW (l++[(i:Int)]) 0 (s.words.length-1)=true:=by
  unfold eW;rw[fB]
  constructor
  .intro x hx;rcases abk.1 hx with hx|hx
   .exact a1 x hx
   .rw[abG]at hx;subst hx;simp only[bL,abc,abe];omega
  .intro j hj;rw[abu,List.length_singleton]at hj
   by_cases nG:j+1<l.length
   .rw[abM (by omega),abM nG];exact a4 j nG
   .rw[abM (by omega),acd (by omega),List.getElem_singleton]
    have hf:l0 l=(l[j]'(by omega)).toNat+1:=by
     unfold l0;rw[List.getLast?_eq_getElem?,show l.length-1=j by omega,aa_ (by omega)]
    have:=a1 _ (aba (by omega:j<l.length));simp only[bL,abc,abe]at this;simp only[abe];omega
 unfold eU kN;rw[hr,abu,List.length_singleton,ad0 (by omega),List.any_append]
 have:l.any (ma s)=false:=by rw[ab7];exact a3
 rw[this];simp
end Go.Proofs.Tryz
namespace Go.Proofs.Tryz
open Go Go.AL Go.RowKit Go.Proofs Go.Proofs.Tram
attribute [local simp] eF fO eZ ec eY eh eg dI dK eX dH dc iI iH aF aG ev aO.S aO.H bz ar aU AL.start AV.cells AV.storable AV.cb bu b_ eG ck HR.okB post cE cW cV AV.out AV.bZ cM eB fz iu AV.vw dh vI int b0 aK dq dz iF j0 fh dW bV AV.aH AV.cn
variable{GI:World->Prop}
def gA(g:Nat×Nat):AV:=.agg [.int .i64 g.1,.int .i64 g.2]
def aL(s:aD):List AV:=af s++[bt s.aQ]
def fc(s:aD):AV:=.agg (aL s)
def D1(l:List (Nat×Nat))(cut:Bool):AV:=Ae ⟨l.map gA,cut⟩
def DH(s:aD)(g:Nat×Nat):Prop:=g.1<s.words.length/\g.2<cy s g.1
theorem Eu(hG:au GI)(s:aD){g:Nat×Nat}(h:DH s g):AC prog GI 224 [fc s,gA g] (.ret (.int .i64 (bh s g).2)):=by
 obtain⟨h1,h2⟩:=h;rw[gP h1]at h2
 have hr:(bh s g).2=s.words[g.1].aP[g.2]:=by unfold bh;simp[aa_ h1,h2]
 rw[hr];refine cd hG func224 ntmps224 c224 ?_;refine aI (λS H=>S 2=.box 2 0/\S 3=.box 3 0/\H 2=some (aL s)/\H 3=some [.int .i64 g.1,.int .i64 g.2]) (by simp[fc,aL,gA,af,bt]) ?_;rintro S H ⟨s2,s3,e2,e3⟩;simp[s2,s3,e2,e3,aL,af,bt,h1,h2,cG]
theorem Ap(hG:au GI){lo hi st:Int}(h0:0<=lo)(h1:lo<=hi)(h2:hi<=20)(h3:0<=st)(h4:st<=10):AC prog GI 227 [.agg [.int .i64 lo,.int .i64 hi],.int .i64 st] (.ret (.int .i64 (jJ lo hi st))):=by
 have Nk:0<=(hi-lo)*st:=acO (by omega) h3;have Sx:(hi-lo)*st<=20*10:=ac1 (by omega) h4 h3 (by omega);have hb:=j4 h1 h3 h4;unfold jJ at hb;have w1:IntKind.i64.wrap (hi-lo)=hi-lo:=aS (by omega);have w2:IntKind.i64.wrap ((hi-lo)*st)=(hi-lo)*st:=aS (by omega);have w3:IntKind.i64.wrap (((hi-lo)*st).tdiv 10)=((hi-lo)*st).tdiv 10:=aS (by omega);have w4:IntKind.i64.wrap (lo+((hi-lo)*st).tdiv 10)=lo+((hi-lo)*st).tdiv 10:=aS (by omega);refine cd hG func227 ntmps227 c227 ?_;simp[c227,w1,w2,w3,w4,jJ]
theorem ui(x y:Int):∀(ps:List jL),nI [x,y] (ps.map og) (ps.map kX)=some ((ps.find? λp=>p.l==x&&p.r==y).map kX)
 |[]=>rfl
 |p::ps=>by
  show nI [x,y] (og p::ps.map og) (kX p::ps.map kX)=_;unfold nI;simp only[og,mW,Option.map_some];simp only[List.length_cons,List.length_nil,ne_eq,acS,abw];rw[List.find?_cons]
  by_cases hp:p.l=x/\p.r=y
  .obtain⟨rfl,rfl⟩:=hp;simp
  .have h1:([x,y]==[p.l,p.r])=false:=by
    simp only[abU,ne_eq,adb,aeo];rintro⟨rfl,rfl⟩;exact hp ⟨rfl,rfl⟩
   have h2:(p.l==x&&p.r==y)=false:=by
    rw[adz];simp only[abU]
    by_cases h:p.l=x
    .exact .inr λh'=>hp ⟨h,h'⟩
    .exact .inl h
   rw[h1,h2];exact ui x y ps
theorem Rj(hG:au GI)(s:aD)(hF:lx s){a b:Nat×Nat}(ha:DH s a)(hb:DH s b){st:Int}(h3:0<=st)(h4:st<=10):AC prog GI 226 [fc s,gA a,gA b,.int .i64 st] (.ret (.int .i64 (kT s st (bh s a) (bh s b)))):=by
 have mj:=qx hF (bh s a) (bh s b);refine cd hG func226 ntmps226 c226 ?_;refine aI (λS H=>S 4=.box 4 0/\S 5=.box 5 0/\S 6=.box 6 0/\S 3=.int .i64 st/\H 4=some (aL s)/\H 5=some [.int .i64 a.1,.int .i64 a.2]/\H 6=some [.int .i64 b.1,.int .i64 b.2]) (by simp[fc,aL,gA,af,bt]) ?_;rintro S H ⟨s4,s5,s6,s3,e4,e5,e6⟩
 by_cases hw:a.1=b.1
 case neg=>
  have jR:iG s (bh s a) (bh s b)=(s.lu,s.lI):=by
   unfold iG bh;rw[if_neg];simp only;omega
  have I0:((a.1:Int)!=(b.1:Int))=true:=by simp;omega
  unfold kT;rw[jR]at mj⊢;simp[s4,s5,s6,s3,e4,e5,e6,aL,af,bt,I0];refine⟨_,by kernel_rfl,Ap hG mj.1 mj.2.1 mj.2.2 h3 h4,λ_=>rfl,?_⟩;simp
 have vi:(bh s a).1=(bh s b).1:=by unfold bh;simp only;omega
 have I0:((a.1:Int)!=(b.1:Int))=false:=by simp;omega
 simp[s4,s5,s6,s3,e4,e5,e6,aL,af,bt,I0];refine oc (Eu hG s ha) ?_;simp[s4,s5,s6,s3,e4,e5,e6,aL,af,bt,I0];refine oc (Eu hG s hb) ?_;simp[s4,s5,s6,s3,e4,e5,e6,aL,af,bt,I0,wF,bG,ui]
 cases hf:s.aQ.find? λp=>p.l==(bh s a).2&&p.r==(bh s b).2 with
 |some p=>
  have jR:iG s (bh s a) (bh s b)=(p.lo,p.hi):=by unfold iG;rw[if_pos vi,hf]
  unfold kT;rw[jR]at mj⊢;simp[s4,s5,s6,s3,e4,e5,e6,kX];refine⟨_,by kernel_rfl,Ap hG mj.1 mj.2.1 mj.2.2 h3 h4,λ_=>rfl,?_⟩;simp
 |none=>
  have jR:iG s (bh s a) (bh s b)=(s.gX,s.gL):=by unfold iG;rw[if_pos vi,hf]
  unfold kT;rw[jR]at mj⊢;simp[s4,s5,s6,s3,e4,e5,e6,aL,af,bt];refine⟨_,by kernel_rfl,Ap hG mj.1 mj.2.1 mj.2.2 h3 h4,λ_=>rfl,?_⟩;simp
theorem pt{l:List Int}(h:∀x∈l,0<=x/\x<=1000):0<=l.sum/\l.sum<=1000*l.length:=by
 induction l with
 |nil=>simp
 |cons a l ih=>
  have h1:=h a abF
  have h2:=ih λx hx=>h x (abm _ hx)
  simp only[List.sum_cons,List.length_cons];omega
theorem yZ{l:List Int}{i:Nat}(h:i<l.length):(l.take (i+1)).sum=(l.take i).sum+l[i]:=by
 rw[abo h,acA];simp
theorem zL(hG:au GI)(l:List Int)(hl:l.length<100000)(h:∀x∈l,0<=x/\x<=1000):AC prog GI 225 [vI l] (.ret (.int .i64 l.sum)):=by
 refine cd hG func225 ntmps225 c225 ?_;simp[c225];refine bP 8 l.length (λi S H=>S 6=vI l/\S 7=.int .i64 l.length/\S 8=.int .i64 (i:Nat)/\S 3=.int .i64 (l.take i).sum) (λi S H h=>h.2.2.1) ⟨by simp,by simp,by simp,by simp⟩ ?_;rintro i hi S H ⟨s6,s7,s8,s3⟩
 by_cases aw:i<l.length
 .have hb:=pt (l:=l.take i) λx hx=>h x (aca hx)
  have hx:=h l[i] (aba aw);rw[abT]at hb;have hw:IntKind.i64.wrap ((i:Int)+1)=i+1:=aS (by omega);have gR:IntKind.i64.wrap ((l.take i).sum+l[i])=(l.take i).sum+l[i]:=aS (by omega);rw[yZ aw];generalize(l.take i).sum=y at s3 gR⊢;simp[s6,s7,s8,s3,aw,hw,gR]
 .have cU:i=l.length:=by omega
  subst cU;rw[acf]at s3;simp[s6,s7,s8,s3]
def fM(l:List Int):AV:=grow 3 (l.map (AV.int .i64))
theorem p9(l:List Int):aM 1 (l.map (AV.int .i64))=true:=jA λa=>⟨rfl,rfl⟩
theorem t_(l:List Int):(fM l=.slice .nil []/\l=[])\/fM l=.slice (.own 3) (ints l):=by
 unfold fM grow
 cases l with
 |nil=>exact .inl ⟨rfl,rfl⟩
 |cons a l=>exact .inr rfl
theorem tM(s:aD)(l:List Lt):∀i,i<=l.length->f_ s l i=((l.take i).map (jB s)).sum
 |0,_=>rfl
 |i+1,h=>by
  rw[uf (by omega),tM s l i (by omega),abo (by omega),abK,acA];simp
def gj(s:aD)(st:Int)(l:List Lt):Nat->List Int
 |0=>[]
 |i+1=>gj s st l i++(if 0<i then match l[i-1]?,l[i]? with
  |some a,some b=>[kT s st a b]
  |_,_=>[]else[])
theorem wK{s:aD}{st:Int}{l:List Lt}{i:Nat}(h:i+1<l.length):gj s st l (i+2)=gj s st l (i+1)++[kT s st (l[i]'(by omega)) l[i+1]]:=by
 show gj s st l (i+1)++_=_;rw[if_pos (by omega),show i+1-1=i by omega,aa_ (by omega:i<l.length),aa_ h]
theorem y4{s:aD}{st:Int}{l:List Lt}:∀i,i+1<=l.length->(gj s st l (i+1)).sum=gk s st l i
 |0,_=>rfl
 |i+1,h=>by
  rw[wK (by omega),tS (by omega),acA,y4 i (by omega)];simp
theorem yO{s:aD}(hF:lx s){st:Int}(h0:0<=st)(h1:st<=10){l:List Lt}:∀i,∀x∈gj s st l i,0<=x/\x<=20
 |0,x,hx=>by cases hx
 |i+1,x,hx=>by
  unfold gj at hx;rw[abk]at hx;rcases hx with hx|hx
  .exact yO hF h0 h1 i x hx
  .split at hx
   .split at hx
    .rw[abG]at hx;subst hx;exact ur hF h0 h1 _ _
    .cases hx
   .cases hx
theorem sQ{s:aD}{st:Int}{l:List Lt}:∀i,(gj s st l i).length<=i
 |0=>abg _
 |i+1=>by
  have:=sQ (s:=s) (st:=st) (l:=l) i;unfold gj;rw[abu];split
  .split<;>simp<;>omega
  .simp;omega
theorem An{s:aD}(hs:bg s=true):∀i j (hi:i<s.aQ.length)(hj:j<s.aQ.length),i<j->¬(s.aQ[i].l=s.aQ[j].l/\s.aQ[i].r=s.aQ[j].r):=by
 unfold bg at hs;simp only[abc]at hs;have h:=hs.1.2;rw[fB]at h
 have hp:j5 (s.aQ.map λp=>(p.l,p.r)):=pd λj hj=>by
  rw[abl,abl];exact h.2 j (by simpa using hj)
 intro i j hi hj oy he;have:=acu.1 hp i j (by simpa using hi) (by simpa using hj) oy;rw[abl,abl,he.1,he.2,fN]at this;cases this
theorem Lc(hG:au GI)(s:aD)(hs:bg s=true):AC prog GI 79 [di s] (.ret (fc s)):=by
 have hF:=fk hs;exact Vr hG (sA:=af s) (ps:=s.aQ) rfl rfl (by simp[af,vI,int,AV.storable,isVal]) (by have:=hF.Pe;omega) (An hs)
theorem Tz(hG:au GI)(s:aD)(hs:rY s):AC prog GI 138 [di s] (.ret (.int .i64 (if bg s then 0 else 2))):=by
 refine cd hG func138 ntmps138 c138 ?_;refine aI (λS H=>S 1=.box 1 0/\H 1=some (af s)) (by simp[di,af]) ?_;rintro S H ⟨s1,e1⟩;simp[s1,e1,af];refine⟨_,by kernel_rfl,Co hG s hs,λ_=>rfl,?_⟩
 cases dV:bg s<;>simp
theorem Av(s:aD)(out:List Int)(es:List End)(st:Int):(dJ s out es st).length=es.length:=by unfold dJ;simp
structure gQ where
 lo:Int
 hi:Int
 hid:Bool
def dG(c:gQ):AV:=.agg [.int .i64 c.lo,.int .i64 c.hi,.bool c.hid]
structure ao where
 cells:List gQ
 pos:Int
 reach:Int
 dM:Int
 df:Int
 name:aD
def ai(s:ao):List AV:=[.slice .view (s.cells.map dG),.int .i64 s.pos,.int .i64 s.reach,.int .i64 s.dM,.int .i64 s.df]++af s.name
def ba(s:ao):AV:=.agg (ai s)
theorem qq(hG:au GI)(n lo hi:Int):AC prog GI 99 [.int .i64 n,.int .i64 lo,.int .i64 hi] (.ret (.bool (bL n lo hi))):=by
 refine cd hG func99 ntmps99 c99 ?_
 by_cases h1:lo<=n<;>by_cases h2:n<=hi<;>simp[c99,bL,h1,h2]
def fZ(x:gQ):Bool:=!bL x.lo 1 20||!bL x.hi x.lo 20
theorem To(hG:au GI)(x:gQ):AC prog GI 136 [dG x] (.ret (.bool (fZ x))):=by
 refine cd hG func136 ntmps136 c136 ?_;simp[c136,dG];refine oc (qq hG x.lo 1 20) ?_;cases h1:bL x.lo 1 20
 .simp[fZ,h1]
 .simp;refine oc (qq hG x.hi x.lo 20) ?_;simp[fZ,h1]
theorem Rw(hG:au GI)(x:gQ):AC prog GI 157 [dG x] (.ret (.int .i64 x.lo)):=by
 refine cd hG func157 ntmps157 c157 ?_;simp[c157,dG]
theorem Su(hG:au GI)(x:gQ):AC prog GI 158 [dG x] (.ret (.int .i64 x.hi)):=by
 refine cd hG func158 ntmps158 c158 ?_;simp[c158,dG]
theorem SV (hG:au GI) (l:List gQ) (hl:l.length < 1000000) (k:Nat) (p:gQ→Bool) (hk:dL prog k=true) (h:∀ x∈l,AC prog GI k [dG x] (.ret (.bool (p x)))) :
  AC prog GI 183 [.slice .view (l.map dG),.func (.func k) [] []] (.ret (.int .i64 (firstT p l))):=by
 refine cd hG func183 ntmps183 c183 ?_;simp[c183];refine bP 8 l.length (λi S H=>S 0=.slice .view (l.map dG)/\S 1=_/\S 7=.int .i64 l.length/\S 8=.int .i64 (i:Nat)/\∀j (hj:j<l.length),j<i->p l[j]=false) (λi S H h=>h.2.2.2.1) ⟨by simp,by simp<;>rfl,by simp,by simp,by simp⟩ ?_;rintro i hi S H ⟨s0,s1,s7,s8,hb⟩
 by_cases aw:i<l.length
 .have hw:IntKind.i64.wrap ((i:Int)+1)=i+1:=aS (by omega);have hx:=h l[i] (aba aw);cases hp:p l[i]
  .simp[abl,dG,s0,s1,s7,s8,aw];refine⟨_,hk,hx,by simp[dh],?_⟩;simp[s0,s1,s7,s8,aw,hp,hw];intro j hj gp
   by_cases BH:j=i
   .subst BH;exact hp
   .exact hb j hj (by omega)
  .simp[abl,dG,s0,s1,s7,s8,aw];refine⟨_,hk,hx,by simp[dh],?_⟩;simp[s0,s1,s7,s8,aw,hp,hw];exact l8 aw hp hb
 .have cU:i=l.length:=by omega
  subst cU;simp[s0,s1,s7,s8]
  exact iO λj hj=>hb j hj hj
theorem TR (hG:au GI) (l:List gQ) (hl:l.length < 1000000) (k:Nat) (p:gQ→Bool) (hk:dL prog k=true) (h:∀ x∈l,AC prog GI k [dG x] (.ret (.bool (p x)))) :
  AC prog GI 137 [.slice .view (l.map dG),.func (.func k) [] []] (.ret (.bool (l.any p))):=by
 have hF:=SV hG l hl k p hk h;refine cd hG func137 ntmps137 c137 ?_;simp[c137];refine⟨_,by kernel_rfl,hF,λ_=>rfl,?_⟩;simp;exact jN.symm
def ct(s:ao):Bool:=bL s.cells.length 1 12&&!s.cells.any fZ&&bL s.pos 1 s.cells.length&&bL s.reach 1 12&&bL s.dM 1 9&&bL s.df 0 9&&bg s.name
structure er(s:ao):Prop where
 cells:s.cells.length<1000000
 name:rY s.name
theorem ov(hG:au GI)(s:ao)(hs:er s):AC prog GI 77 [ba s] (.ret (.bool (ct s))):=by
 refine cd hG func77 ntmps77 c77 ?_;simp[c77,ba,ai,af];refine oc (qq hG s.cells.length 1 12) ?_;cases e1:bL s.cells.length 1 12
 .simp[ct,e1]
 simp;refine oc (TR hG s.cells hs.cells 136 fZ (by kernel_rfl) (λx _=>To hG x)) ?_;cases e3:s.cells.any fZ
 case true=>simp[ct,e1,e3]
 simp;refine oc (qq hG s.pos 1 s.cells.length) ?_;cases e4:bL s.pos 1 s.cells.length
 .simp[ct,e1,e3,e4]
 simp;refine oc (qq hG s.reach 1 12) ?_;cases e5:bL s.reach 1 12
 .simp[ct,e1,e3,e4,e5]
 simp;refine oc (qq hG s.dM 1 9) ?_;cases e6:bL s.dM 1 9
 .simp[ct,e1,e3,e4,e5,e6]
 simp;refine oc (qq hG s.df 0 9) ?_;cases e7:bL s.df 0 9
 .simp[ct,e1,e3,e4,e5,e6,e7]
 simp;refine oc (Tz hG s.name hs.name) ?_
 cases e8:bg s.name<;>simp[ct,e1,e3,e4,e5,e6,e7,e8]
def jX(k:Nat):Value:=.func (.func k) #[] #[]
def mq(e:Nat)(c:gQ):Int:=if e=0 then c.lo else c.hi
def bj(e:Nat)(s:ao):List Int:=s.cells.map (mq e)
def pY(e:Nat):Nat->Op->Op
 |2,_=>.fieldAddr 26 (.tmp 5) e
 |3,_=>.move (.func (157+e))
 |_,op=>op
def CU(s:ao)(e i:Nat)(S:an)(H:av):Prop:=
 S 1=.int .i64 (e:Nat)/\S 2=.box 2 0/\H 2=some (ai s)/\S 5=.box 5 0/\H 5=some [.val (jX 157),.val (jX 158)]/\S 6=grow 3 (ints ((bj e s).take i))/\S 11=.int .i64 s.cells.length/\S 12=.int .i64 (i:Nat)
noncomputable def yt:ae:=ae.qb c98.qb.qb.qb.qa.qb.qb
def PS(e:Nat):List cq:=[⟨some 15,none,.mv true (.t 6)⟩,⟨some 16,none,.mv false (.t 1)⟩,⟨some 17,none,.fieldAddr e (.t 5)⟩,⟨some 18,none,.mv false (.f (157+e))⟩,⟨some 19,none,.fieldAddr 0 (.t 2)⟩,
 ⟨some 20,none,.load (.box 2) false 1 (.t 19)⟩,⟨some 21,none,.mv false (.t 7)⟩,⟨some 22,none,.indexAddr 3 (.t 20) (.t 21)⟩,⟨some 23,none,.load .ref true 3 (.t 22)⟩,⟨some 24,none,.gx (.t 18) [.t 23]⟩,
 ⟨some 25,none,.buildSlice 23 3 1 [.t 24]⟩,⟨some 26,none,.append 23 3 1 8 (.t 15) (.t 25)⟩,⟨some 6,none,.mv true (.t 26)⟩]
theorem zV{Pr:Nat->Nat->Prop}{al:Nat->Option Nat}{w:World}{f1 f2:Nat}{c:Value}(h:RV Pr al w (.jG [.func (.func f1) [] [],.func (.func f2) [] []]) c):c=.agg #[jX f1,jX f2]:=by
 have one:∀{f:Nat}{c:Value},RV Pr al w (.func (.func f) [] []) c->c=jX f:=by
  intro f c h
  cases h with
  |data _ _ h=>cases h
  |func _ _ _ vs us h1 h2 r1 r2=>
   have:vs=#[]:=acy (by simpa using h1.symm);subst this;have:us=#[]:=acy (by simpa using h2.symm);subst this
   rfl
 cases h with
 |data _ _ h=>cases h
 |jG _ vs hl hr=>
  have hs:vs.size=2:=by rw[<-hl];rfl
  have e1:=one (hr 0 (by simp) (by omega));have e2:=one (hr 1 (by simp) (by omega))
  congr 1
  apply acw
  .simpa using hs
  .intro i h1 h2
   match i,h2 with
   |0,_=>exact e1
   |1,_=>exact e2
theorem Aw {rest:List cq} {K:an→av→Prop} {S:an} {H:av} {d j k:Nat} {args:List dR} {v:AV} (hj:S j = .func (.func k) [] []) (hk:dL prog k=true) (hb:(args.map (ev S)).any dh=false)
  (Qo:AC prog GI k ((args.map (ev S)).map (fz H)) (.ret v)) (h:c_ prog GI rest K (ar S d v) H):c_ prog GI (⟨some d,none,.gx (.t j) args⟩::rest) K S H:=by
 have e:ev S (.t j)=.func (.func k) [] []:=hj;show iz prog GI (.gx (.t j) args) (some d) (c_ prog GI rest K) S H;simp only[iz,bb,e];refine⟨by simpa using hb,.ret v,hk,by simpa using Qo,λhh=>?_,h⟩;simp only[List.nil_append,ab1]at hh;rw[hb]at hh;cases hh
theorem BY {K:an→av→Prop} {S:an} {H:av} {l:List Int} {x:Int} (rV:S 15=grow 3 (ints l)) (Hg:S 24 = .int .i64 x) (hn:l.length+1 < 1048576)
  (h:∀S',S' 6=grow 3 (ints (l++[x]))->(∀k,k∉[6,15,25,26]->S' k=S k)->K S' H):c_ prog GI [⟨some 25,none,.buildSlice 23 3 1 [.t 24]⟩,⟨some 26,none,.append 23 3 1 8 (.t 15) (.t 25)⟩,⟨some 6,none,.mv true (.t 26)⟩] K S H:=by
 have hb:aG S H (.buildSlice 23 3 1 [.t 24])=some { v:=.slice (.own 3) [.int .i64 x] }:=by simp[aG,ev,Hg,aM,AV.storable,AV.cells,AV.vw,AV.cn]
 show iz prog GI (.buildSlice 23 3 1 [.t 24]) (some 25) (c_ prog GI _ K) S H;simp only[iz,bb,hb];refine sT (e:=3) (ints l) (.int .i64 x) (.own 3) (by simp[aO.S,aU,ar,rV]) (by simp[aO.S,aU,ar]) rfl (lY _) (by simpa[ints]using hn) ?_;intro S' d1 d2
 have j_:ints l++[.int .i64 x]=ints (l++[x]):=by simp[ints]
 rw[j_]at d1
 have hm:∃dm,(dm=none\/dm=some 26)/\aG S' H (.mv true (.t 26))=some { v:=grow 3 (ints (l++[x])),dm:=dm }:=by
  refine⟨some 26,.inr rfl,?_⟩;simp only[aG,ev,d1]
  rfl
 obtain⟨dm,GC,hm⟩:=hm;obtain⟨k1,k2⟩:=sL (S:=S') (d:=6) GC (grow 3 (ints (l++[x])));show iz prog GI (.mv true (.t 26)) (some 6) (c_ prog GI [] K) S' H;simp only[iz,bb,hm]
 refine h _ k1 λk hk=>?_
 simp only[acb,List.not_mem_nil,or_false,not_or]at hk;rw[k2 k hk.1 hk.2.2.2,d2 k hk.2.2.2 hk.2.1];simp[aO.S,aU,ar,hk.2.2.1]
structure Nx(e b2 b5:Nat)(l:Array Bool)(a:Act)(w:World):Prop where
 size:a.tmps.size=29
 t1:a.tmps.getD 1 undef=.int .i64 (e:Nat)
 t2:a.tmps.getD 2 undef=.pointer (some ⟨b2,0,none⟩)
 t5:a.tmps.getD 5 undef=.pointer (some ⟨b5,0,none⟩)
 t16:l.getD 1 false=true->a.tmps.getD 16 undef=.int .i64 (e:Nat)
 t17:l.getD 2 false=true->a.tmps.getD 17 undef=.pointer (some ⟨b5,e,none⟩)
 heap:∃ty,w.heap[b5]?=some (.cells #[jX 157,jX 158] ty (0,0))
 c9:l.getD 9 false=true->l.getD 3 false=true
 c10:l.getD 10 false=true->l.getD 9 false=true
 c11:l.getD 11 false=true->l.getD 10 false=true
 c3:l.getD 3 false=true->l.getD 2 false=true
def WH(e b2 b5:Nat)(l:Array Bool)(a:Act)(w:World):Prop:=(l.getD 2 false=true/\l.getD 3 false=true)\/Nx e b2 b5 l a w
theorem mc{l:Array Bool}{i:Nat}(h:i<l.size):(l.setIfInBounds i true).getD i false=true:=by
 simp[abj,h]
theorem dp{l:Array Bool}{i j:Nat}(h:i≠j):(l.setIfInBounds i true).getD j false=l.getD j false:=by
 simp[abj,abd h]
theorem Nx.put {e b2 b5:Nat} {l:Array Bool} {a:Act} {w:World} (h:Nx e b2 b5 l a w) (i t:Nat) (v:Value) (ht:t≠1∧t≠2∧t≠5) (hl:l.size=13) (hi:i < 9) (h3:i≠3) (h1:i=1→t=16∧v = .int .i64 (e:Nat)) (h2:i=2→t=17∧v = .pointer (some ⟨b5,e,none⟩)) (ho:i≠1→t≠16) (Jb:i≠2→t≠17) (Jq:t < 29) :
  Nx e b2 b5 (l.setIfInBounds i true) (a.put (some t) v) w:=by
 have dT:∀k,k≠t->(a.put (some t) v).tmps.getD k undef=a.tmps.getD k undef:=λk hk=>by
  simp[Act.put,abd (abO hk)]
 have gz:(a.put (some t) v).tmps.getD t undef=v:=by simp[Act.put,h.size,Jq]
 refine⟨by simp[Act.put,h.size],by rw[dT 1 (abO ht.1)];exact h.t1,by rw[dT 2 (abO ht.2.1)];exact h.t2,by rw[dT 5 (abO ht.2.2)];exact h.t5,?_,?_,h.heap,?_,?_,?_,?_⟩
 .by_cases PV:i=1
  .obtain⟨rfl,rfl⟩:=h1 PV
   exact λ_=>gz
  .rw[dp PV,dT 16 (abO (ho PV))];exact h.t16
 .by_cases rN:i=2
  .obtain⟨rfl,rfl⟩:=h2 rN
   exact λ_=>gz
  .rw[dp rN,dT 17 (abO (Jb rN))];exact h.t17
 .rw[dp (by omega),dp h3];exact h.c9
 .rw[dp (by omega),dp (by omega)];exact h.c10
 .rw[dp (by omega),dp (by omega)];exact h.c11
 .rw[dp h3]
  by_cases rN:i=2
  .subst rN;exact λ_=>mc (by omega)
  .rw[dp rN];exact h.c3
theorem X0(hG:au GI)(e:Nat)(he:e=0\/e=1)(x:gQ):AC prog GI (157+e) [dG x] (.ret (.int .i64 (mq e x))):=by
 rcases he with rfl|rfl
 .exact Rw hG x
 .exact Su hG x
noncomputable def Fi:Code:=f98.body.getD .skip
def MZ:Code->Code
 |.seq _ y=>y
 |c=>c
theorem O3 (hG:au GI) (s:ao) (hs:s.cells.length < 1000) (e:Nat) (he:e=0∨e=1) (cc:Nat→Nat→Prop) (w:World) {Q:iW}
  (B':∀S H,S 6=grow 3 (ints (bj e s))->SW prog GI 29 none (MZ (MZ (MZ (MZ Fi)))) Q (Old.plain cc w) S H):SW prog GI 29 none Fi Q (Old.plain cc w) (AL.start [ba s,.int .i64 (e:Nat)]) (λ_=>none):=by
 show SW prog GI 29 none (.seq _ (.seq _ (.seq _ (.seq _ _)))) _ _ _ _;refine dO hG c98.qa (λS' H'=>S' 1=.int .i64 (e:Nat)/\S' 2=.box 2 0/\H' 2=some (ai s)) ?_ ?_
 .simp[c98,ae.qa,ba,ai,af]
 rintro S1 H1 ⟨s1,s2,h2⟩
 refine SW.seq (SW.hand hG (p:=1) (lm:=[1,2]) (l2:=[]) (jU:=[_]) (oh:=[_,_]) (ll:=[]) rfl rfl rfl rfl (by kernel_rfl) (λ_ h=>h)
  (lR:=(c98.qb.qa.dl).take 1) (kK:=[]) (by kernel_rfl) rfl (by kernel_rfl) rfl
  (K1:=λS H=>S 1=.int .i64 (e:Nat)/\S 2=.box 2 0/\H 2=some (ai s)/\S 8=.jG [.func (.func 157) [] [],.func (.func 158) [] []])
  (K2:=λo S H=>o=Old.plain cc w/\S 1=.int .i64 (e:Nat)/\S 2=.box 2 0/\H 2=some (ai s)/\S 5=.box 5 0/\H 5=some [.val (jX 157),.val (jX 158)])
  (K3:=λo S H=>o=Old.plain cc w/\S 1=.int .i64 (e:Nat)/\S 2=.box 2 0/\H 2=some (ai s)/\S 5=.box 5 0/\H 5=some [.val (jX 157),.val (jX 158)]) ?_ ?_ ?_ ?_)
 .simp[c98,ae.qa,ae.qb,ae.dl,s1,s2,h2,BU]
 .rintro w0 g S2 H2 a w' m cD ho R ⟨s1,s2,h2,s8⟩;have bn:=R.size
  have e8:a.tmps.getD 8 undef=.agg #[jX 157,jX 158]:=by
   have:=R.slot 8 (by decide) id;rw[s8]at this;exact zV this
  have dT:∀(a:Act)(d t:Nat)(c:Value),t≠d->(a.put (some d) c).tmps.getD t undef=a.tmps.getD t undef:=λa d t c h=>by
   simp[Act.put,abd (abO h)]
  have gz:∀(a:Act)(d:Nat)(c:Value),a.tmps.size=29->d<29->(a.put (some d) c).tmps.getD d undef=c:=λa d c h hd=>by
   simp[Act.put,h,hd]
  obtain⟨it,hi,hz⟩:=ach.1 (show(prog.info? 189).bind (·.zero)=some (.agg #[.nilFunc,.nilFunc]) by kernel_rfl)
  have VF:it.size=2:=by
   have:(prog.info? 189).map (·.size)=some 2:=by kernel_rfl
   rw[hi]at this;exact abv this
  refine aT rfl rfl (by rfl) (Io (t:=189) rfl hi hz) ?_
  obtain⟨g4,q1,q2,q3,q4,q5,R4⟩:=R.Ui 5 (by decide) (by rw[ho];exact λh=>h) [.val .nilFunc,.val .nilFunc] #[.nilFunc,.nilFunc] 189 ⟨rfl,λj h h'=>by
   match j,h with
   |0,_|1,_=>exact .val _ rfl,λj h=>by
   match j,h with
   |0,_|1,_=>rfl⟩ (λg' j h h'=>by
   match j,h with
   |0,_|1,_=>exact⟨trivial,trivial⟩)
  obtain⟨b,hb⟩:∃b,w'.heap.size=b:=⟨_,rfl⟩
  obtain⟨w4,j7⟩:∃w4,w'.alloc (.cells #[.nilFunc,.nilFunc] 189)=w4:=⟨_,rfl⟩
  have OF:w4.heap[b]?=some (.cells #[.nilFunc,.nilFunc] 189 (0,0)):=by rw[<-j7,<-hb];exact abY w' _
  rw[hb]at R4 q5
  obtain⟨a4,j6⟩:∃a4,a.put (some 5) (.pointer (some ⟨b,0,none⟩))=a4:=⟨_,rfl⟩
  show wpOpsIn _ _ _ _ _ [2] (a.put (some 5) (.pointer (some ⟨w'.heap.size,0,none⟩))) (w'.alloc (.cells #[.nilFunc,.nilFunc] 189));rw[hb,j7,j6];rw[j7,j6]at R4
  have g8:a4.tmps.getD 8 undef=.agg #[jX 157,jX 158]:=by rw[<-j6,dT _ _ _ _ (by decide)];exact e8
  have g5:a4.tmps.getD 5 undef=.pointer (some ⟨b,0,none⟩):=by rw[<-j6];exact gz _ _ _ bn (by decide)
  refine dk rfl rfl (by rfl) (Dm (t:=189) (x:=.tmp 5) (y:=.tmp 8) rfl g5 hi OF g8 (by rw[VF];rfl) (by rw[VF];rfl) (by intro u hu;simp[Value.cells]at hu;rcases hu with rfl|rfl<;>rfl)) ?_;show HQ prog w0 29 _ .normal a4 (w4.setRow b #[jX 157,jX 158])
  have R5:=R4.IB 5 b q5 _ #[jX 157,jX 158] 189 OF [.val (jX 157),.val (jX 158)] rfl (λj h h'=>by
   match j,h with
   |0,_|1,_=>exact .val _ rfl) (λj h h'=>by
   match j,h with
   |0,_|1,_=>trivial) (λj h=>by
   match j,h with
   |0,_|1,_=>rfl)
  exact⟨g4,_,_,R5,by rw[q2,ho],by simp[ar,s1,b_],by simp[ar,s2,b_],by simp[ar,h2],by simp[ar],by simp[ar]⟩
 .rintro o S2 H2 h;exact⟨λd hd=>by rw[h.1]at hd;exact hd,h⟩
 rintro o S2 H2 ⟨rfl,s1,s2,h2,s5,h5⟩;show SW prog GI 29 none (.seq _ (.seq (.seq _ (.block 0 (.loop _))) (.seq _ .ret))) _ _ _ _;refine dO hG c98.qb.qb.qa (λS H=>S 1=.int .i64 (e:Nat)/\S 2=.box 2 0/\H 2=some (ai s)/\S 5=.box 5 0/\H 5=some [.val (jX 157),.val (jX 158)]/\S 6=.slice .nil []) ?_ ?_
 .simp[c98,ae.qa,ae.qb,s1,s2,h2,s5,h5,grow]
 clear s1 s2 h2 s5 h5 S2 H2;rintro S2 H2 ⟨s1,s2,h2,s5,h5,s6⟩;refine SW.seq (dO hG c98.qb.qb.qb.qa.qa (CU s e 0) ?_ ?_)
 .simp[c98,ae.qa,ae.qb,ai,af,s1,s2,h2,s5,h5,s6,CU,grow];exact⟨rfl,rfl⟩
 clear s1 s2 h2 s5 h5 s6 S2 H2;intro S3 H3 hF;refine SW.block (SW.loop (λo S' H'=>∃i,o=Old.plain cc w/\i<=s.cells.length/\CU s e i S' H') (λS' _=>match S' 12 with|.int _ j=>s.cells.length-j.toNat|_=>0) ⟨0,rfl,abZ _,hF⟩ ?_);rintro o S4 H4 ⟨i,rfl,hi,hF⟩;have m12:S4 12=.int .i64 (i:Nat):=hF.2.2.2.2.2.2.2;show SW prog GI 29 none (.seq _ (.seq (.cond _ _ _) (.seq (.block 1 (.seq _ _)) _))) _ _ _ _;refine dO hG yt.qa (λS' H'=>S' 13=.bool (decide (i<s.cells.length))/\CU s e i S' H') ?_ ?_
 .obtain⟨s1,s2,h2,s5,h5,s6,br,bC⟩:=hF;simp[c98,yt,ae.qa,ae.qb,CU,s1,s2,h2,s5,h5,s6,br,bC]
 rintro S5 H5 ⟨bW,hF⟩
 by_cases aw:i<s.cells.length
 case neg=>
  have cU:i=s.cells.length:=by omega
  refine SW.seq (SW.cond rfl false (by show S5 13=_;rw[bW];simp[aw]) (SW.exit ?_));subst cU;obtain⟨s1,s2,h2,s5,h5,s6,br,bC⟩:=hF;have el:(bj e s).take s.cells.length=bj e s:=abp (by simp[bj]);rw[el]at s6;exact B' S5 H5 s6
 case pos=>
  refine SW.seq (SW.cond rfl true (by show S5 13=_;rw[bW];simp[aw]) (SW.skip ?_));show SW prog GI 29 none (.seq (.block 1 (.seq _ _)) _) _ _ _ _;refine SW.seq (SW.block (dO hG yt.qb.qb.qa.qb.qa (λS' H'=>S' 7=.int .i64 (i:Nat)/\CU s e i S' H') ?_ ?_))
  .obtain⟨s1,s2,h2,s5,h5,s6,br,bC⟩:=hF;simp[c98,yt,ae.qa,ae.qb,CU,s1,s2,h2,s5,h5,s6,br,bC]
  clear bW hF;rintro S6 H6 ⟨s7,hF⟩;have hx:=X0 hG e he s.cells[i]
  have PX:(bj e s).take (i+1)=(bj e s).take i++[mq e s.cells[i]]:=by
   rw[adp,aa_ (by simpa[bj]using aw)];simp[bj]
  refine SW.mono (Q:=λx o S H=>x=.normal/\o=Old.plain cc w/\S 1=.int .i64 (e:Nat)/\S 2=.box 2 0/\H 2=some (ai s)/\S 5=.box 5 0/\H 5=some [.val (jX 157),.val (jX 158)]/\S 6=grow 3 (ints ((bj e s).take (i+1)))/\S 11=.int .i64 s.cells.length/\S 12=.int .i64 (i:Nat)) ?_ (SW.VD hG cH (ops':=Da (pY e) _) (Fz _ (by kernel_rfl)) ?_ ?_ (l:=PS e) ?_ ?_ ?_)
  .rintro x o S7 H7 ⟨rfl,rfl,s1,s2,h2,s5,h5,s6,br,bC⟩;show SW prog GI 29 none _ _ _ _ _;have hw:IntKind.i64.wrap ((i:Int)+1)=i+1:=aS (by omega);refine SW.m_ hG cH (by kernel_rfl) (λ_ _ h=>h) (ac:=ae.qb yt.qb.qb) (by kernel_rfl) ?_
   have m12:S4 12=.int .i64 (i:Nat):=by assumption
   simp[c98,yt,ae.qa,ae.qb,CU,thenS,iW.bB,s1,s2,h2,s5,h5,s6,br,bC,hw];refine⟨⟨i+1,by omega,rfl,by simp⟩,?_⟩;rw[m12];simp;omega
  .rcases he with rfl|rfl<;>kernel_rfl
  .rcases he with rfl|rfl<;>kernel_rfl
  .rcases he with rfl|rfl<;>kernel_rfl
  .intro w0 g a w' mD R;obtain⟨s1,s2,h2,s5,h5,s6,br,bC⟩:=hF;obtain⟨b2,kK,e2⟩:=jM R (by decide) s2;obtain⟨b5,Qv,e5⟩:=jM R (by decide) s5;obtain⟨cs,vs,ty5,k0,k1,k2,k3,k4,k5,k6,k7,k8⟩:=R.box 5 b5 Qv;rw[h5]at k0;cases k0
   have fx:vs.size=2:=by rw[<-k5];rfl
   have qF:vs=#[jX 157,jX 158]:=by
    have c0:=k6 0 (by simp) (by omega);have c1:=k6 1 (by simp) (by omega);simp only[List.getElem_cons_zero,List.getElem_cons_succ]at c0 c1;apply acw
    .simpa using fx
    .intro j h1 h2
     match j,h2 with
     |0,_=>exact(RV.data (al:=bT) _ _ c0).fR
     |1,_=>exact(RV.data (al:=bT) _ _ c1).fR
   subst qF;refine⟨WH e b2 b5,.inr ⟨R.size,pN R (by decide) s1,e2,e5,by simp,by simp,⟨ty5,k2⟩,by simp,by simp,by simp,by simp⟩,?_⟩;intro i o o' l a w iw lh hl fI hJ e_;have hl:l.size=13:=hl;rw[Bx,iw]at lh;simp only[Option.map_some,abQ]at lh
   have flip:∀j,j<13->l.getD j true=l.getD j false:=λj hj=>by simp[abj,hl,hj]
   have mono:∀j,l.getD j false=true->(l.setIfInBounds i true).getD j false=true:=λj hj=>by
    by_cases oy:i=j
    .subst oy;exact mc (by
      rw[hl]
      exact(abb.1 iw).1)
    .rw[dp oy];exact hj
   rcases hJ with⟨h2,h3⟩|hI
   .have n2:i≠2:=by rintro rfl;rw[flip 2 (by omega),h2]at fI;cases fI
    have n3:i≠3:=by rintro rfl;rw[flip 3 (by omega),h3]at fI;cases fI
    refine⟨?_,.inl λa' w'=>.inl ⟨mono 2 h2,mono 3 h3⟩⟩;subst lh
    have:pY e i o.op=o.op:=by unfold pY;split<;>first|omega|rfl
    rw[this]
   .have jQ:∀ j,(o.after.any fun ed=>Region.binds .any ed && ed.on==j)=true→l.getD j false=true:=fun j hj=>by
     obtain⟨ed,Wo,Bm⟩:=ad_.1 hj;simp only[abc,abX]at Bm;have:=e_ ed Wo Bm.1;rwa [Bm.2]at this
    have done:l.getD 3 false=true->WH e b2 b5 (l.setIfInBounds i true)=λ_ _=>True:=λh3=>by
     funext a' w'
     exact eq_true (.inl ⟨mono 2 (hI.c3 h3),mono 3 h3⟩)
    match i,iw with
    |0,iw=>
     have e0:=abv (iw.symm.trans (rfl:_=some _));subst lh
     have eb:o.op=.move (.tmp 6):=by rw[e0];rfl
     have hd:o.dst=some 15:=by rw[e0];rfl
     refine⟨rfl,.inr λx w' hr=>?_⟩;have iL:(execOp a.eval o).run prog w=.ok x w':=hr;obtain⟨rfl,v,rfl⟩:=mZ (by rw[eb]) iL;rw[hd];exact⟨v,rfl,.inr (hI.put 0 15 v (by decide) hl (by decide) (by decide) (λh=>absurd h (by decide)) (λh=>absurd h (by decide)) (by decide) (by decide) (by decide))⟩
    |1,iw=>
     have e0:=abv (iw.symm.trans (rfl:_=some _));subst lh
     have eb:o.op=.move (.tmp 1):=by rw[e0];rfl
     have hd:o.dst=some 16:=by rw[e0];rfl
     refine⟨rfl,.inr λx w' hr=>?_⟩;have iL:(execOp a.eval o).run prog w=.ok x w':=hr;have zG:a.eval (.tmp 1)=.int .i64 (e:Nat):=hI.t1;rw[run_move (x:=.tmp 1) w eb,zG]at iL;cases iL;rw[hd];exact⟨_,rfl,.inr (hI.put 1 16 _ (by decide) hl (by decide) (by decide) (λ_=>⟨rfl,rfl⟩) (λh=>absurd h (by decide)) (by decide) (by decide) (by decide))⟩
    |2,iw=>
     have e0:=abv (iw.symm.trans (rfl:_=some _));subst lh
     have eb:o.op=.indexAddr 189 (.tmp 5) (.tmp 16):=by rw[e0];rfl
     have hd:o.dst=some 17:=by rw[e0];rfl
     have qg:a.eval (.tmp 16)=.int .i64 (e:Nat):=hI.t16 (jQ 1 (by rw[e0];kernel_rfl));have QO:a.eval (.tmp 5)=.pointer (some ⟨b5,0,none⟩):=hI.t5
     have Bm:e<2:=by omega
     have Wk:prog.underlying 189=some (.array 2 186):=by kernel_rfl
     obtain⟨i176,Ql,T6⟩:=bo (P:=prog) (t:=186) (s:=1) (by kernel_rfl)
     have r1:(execOp a.eval o).run prog w=.ok (.value (.pointer (some ⟨b5,e,none⟩))) w:=by
      have:=A2 (P:=prog) (w:=w) (o:=o) eb Wk Ql QO qg Bm;rw[T6,acJ,abV]at this;exact this
     have r2:(execOp a.eval { o with op:=pY e 2 o.op }).run prog w=.ok (.value (.pointer (some ⟨b5,e,none⟩))) w:=by
      have hc:C8 prog 26 e=some (e,1):=by rcases he with rfl|rfl<;>kernel_rfl
      have:=qB (P:=prog) (w:=w) (a:=a) (o:={ o with op:=pY e 2 o.op }) hc (by decide) rfl QO;rw[abV]at this;exact this
     refine⟨r1.trans r2.symm,.inr λx w' hr=>?_⟩;have iL:(execOp a.eval o).run prog w=.ok x w':=hr;rw[r1]at iL;cases iL;rw[hd];exact⟨_,rfl,.inr (hI.put 2 17 _ (by decide) hl (by decide) (by decide) (λh=>absurd h (by decide)) (λ_=>⟨rfl,rfl⟩) (by decide) (by decide) (by decide))⟩
    |3,iw=>
     have e0:=abv (iw.symm.trans (rfl:_=some _));subst lh
     have eb:o.op=.load 186 (.tmp 17):=by rw[e0];rfl
     have hd:o.dst=some 18:=by rw[e0];rfl
     have pC:l.getD 2 false=true:=jQ 2 (by rw[e0];kernel_rfl);have h17:a.eval (.tmp 17)=.pointer (some ⟨b5,e,none⟩):=hI.t17 pC;obtain⟨ty,oL⟩:=hI.heap;obtain⟨d,Gw,eO⟩:=gv (P:=prog) (t:=186) (by kernel_rfl)
     have r1:(execOp a.eval o).run prog w=.ok (.value (jX (157+e))) w:=
      g_ (P:=prog) (o:=o) eb h17 Gw eO oL (by rcases he with rfl|rfl<;>rfl)
     have r2:(execOp a.eval { o with op:=pY e 3 o.op }).run prog w=.ok (.value (jX (157+e))) w:=
      run_move (x:=.func (157+e)) w rfl
     refine⟨r1.trans r2.symm,.inl λa' w'=>.inl ⟨mono 2 pC,?_⟩⟩;exact mc (by omega)
    |4,iw=>
     have e0:=abv (iw.symm.trans (rfl:_=some _));subst lh
     have eb:o.op=.fieldAddr 31 (.tmp 2) 0:=by rw[e0];rfl
     have hd:o.dst=some 19:=by rw[e0];rfl
     have tZ:a.eval (.tmp 2)=.pointer (some ⟨b2,0,none⟩):=hI.t2;have r1:(execOp a.eval o).run prog w=.ok (.value (.pointer (some ⟨b2,0+0,none⟩))) w:=qB (P:=prog) (w:=w) (a:=a) (o:=o) (show C8 prog 31 0=some (0,1) by kernel_rfl) (by decide) eb tZ;refine⟨rfl,.inr λx w' hr=>?_⟩;have iL:(execOp a.eval o).run prog w=.ok x w':=hr;rw[r1]at iL;cases iL;rw[hd];exact⟨_,rfl,.inr (hI.put 4 19 _ (by decide) hl (by decide) (by decide) (λh=>absurd h (by decide)) (λh=>absurd h (by decide)) (by decide) (by decide) (by decide))⟩
    |5,iw=>
     have e0:=abv (iw.symm.trans (rfl:_=some _));subst lh
     have eb:o.op=.load 22 (.tmp 19):=by rw[e0];rfl
     have hd:o.dst=some 20:=by rw[e0];rfl
     refine⟨rfl,.inr λx w' hr=>?_⟩;have iL:(execOp a.eval o).run prog w=.ok x w':=hr;obtain⟨rfl,v,rfl⟩:=mZ (by rw[eb]) iL;rw[hd];exact⟨v,rfl,.inr (hI.put 5 20 v (by decide) hl (by decide) (by decide) (λh=>absurd h (by decide)) (λh=>absurd h (by decide)) (by decide) (by decide) (by decide))⟩
    |6,iw=>
     have e0:=abv (iw.symm.trans (rfl:_=some _));subst lh
     have eb:o.op=.move (.tmp 7):=by rw[e0];rfl
     have hd:o.dst=some 21:=by rw[e0];rfl
     refine⟨rfl,.inr λx w' hr=>?_⟩;have iL:(execOp a.eval o).run prog w=.ok x w':=hr;obtain⟨rfl,v,rfl⟩:=mZ (by rw[eb]) iL;rw[hd];exact⟨v,rfl,.inr (hI.put 6 21 v (by decide) hl (by decide) (by decide) (λh=>absurd h (by decide)) (λh=>absurd h (by decide)) (by decide) (by decide) (by decide))⟩
    |7,iw=>
     have e0:=abv (iw.symm.trans (rfl:_=some _));subst lh
     have eb:o.op=.indexAddr 22 (.tmp 20) (.tmp 21):=by rw[e0];rfl
     have hd:o.dst=some 22:=by rw[e0];rfl
     refine⟨rfl,.inr λx w' hr=>?_⟩;have iL:(execOp a.eval o).run prog w=.ok x w':=hr;obtain⟨rfl,v,rfl⟩:=mZ (by rw[eb]) iL;rw[hd];exact⟨v,rfl,.inr (hI.put 7 22 v (by decide) hl (by decide) (by decide) (λh=>absurd h (by decide)) (λh=>absurd h (by decide)) (by decide) (by decide) (by decide))⟩
    |8,iw=>
     have e0:=abv (iw.symm.trans (rfl:_=some _));subst lh
     have eb:o.op=.load 52 (.tmp 22):=by rw[e0];rfl
     have hd:o.dst=some 23:=by rw[e0];rfl
     refine⟨rfl,.inr λx w' hr=>?_⟩;have iL:(execOp a.eval o).run prog w=.ok x w':=hr;obtain⟨rfl,v,rfl⟩:=mZ (by rw[eb]) iL;rw[hd];exact⟨v,rfl,.inr (hI.put 8 23 v (by decide) hl (by decide) (by decide) (λh=>absurd h (by decide)) (λh=>absurd h (by decide)) (by decide) (by decide) (by decide))⟩
    |9,iw=>
     have e0:=abv (iw.symm.trans (rfl:_=some _));subst lh;exact⟨rfl,.inl λa' w'=>by rw[done (jQ 3 (by rw[e0];kernel_rfl))];trivial⟩
    |10,iw=>
     have e0:=abv (iw.symm.trans (rfl:_=some _));subst lh;exact⟨rfl,.inl λa' w'=>by rw[done (hI.c9 (jQ 9 (by rw[e0];kernel_rfl)))];trivial⟩
    |11,iw=>
     have e0:=abv (iw.symm.trans (rfl:_=some _));subst lh;exact⟨rfl,.inl λa' w'=>by rw[done (hI.c9 (hI.c10 (jQ 10 (by rw[e0];kernel_rfl))))];trivial⟩
    |12,iw=>
     have e0:=abv (iw.symm.trans (rfl:_=some _));subst lh;exact⟨rfl,.inl λa' w'=>by rw[done (hI.c9 (hI.c10 (hI.c11 (jQ 11 (by rw[e0];kernel_rfl)))))];trivial⟩
    |k+13,iw=>exact absurd iw (by simp)
  .obtain⟨s1,s2,h2,s5,h5,s6,br,bC⟩:=hF;simp only[PS];simp[s1,s2,h2,s5,h5,s7,br,bC,ai,af,aw,dG];refine Aw (k:=157+e) (v:=.int .i64 (mq e s.cells[i])) (by simp[ar]) (by rcases he with rfl|rfl<;>kernel_rfl) (by simp[ev,ar,dh]) (by simpa[ev,ar,fz,iu,dG,AV.vw,AV.cn]using hx) ?_;refine BY (l:=(bj e s).take i) (x:=mq e s.cells[i]) (by simp only[bc _ _ (show(15:Nat)≠24 by decide),bc _ _ (show(15:Nat)≠23 by decide),bc _ _ (show(15:Nat)≠22 by decide),bc _ _ (show(15:Nat)≠21 by decide),bc _ _ (show(15:Nat)≠20 by decide),bc _ _ (show(15:Nat)≠19 by decide),bc _ _ (show(15:Nat)≠18 by decide),bc _ _ (show(15:Nat)≠17 by decide),bc _ _ (show(15:Nat)≠16 by decide),aN];exact s6) (aN _ _ _) (by simp;omega) ?_;intro S' d1 d2;rw[PX];refine⟨?_,?_,?_,?_,h5,d1,?_,?_⟩
   .rw[d2 1 (by decide)];simp[ar,s1]
   .rw[d2 2 (by decide)];simp[ar,s2]
   .rw[h2];rfl
   .rw[d2 5 (by decide)];simp[ar,s5]
   .rw[d2 11 (by decide)];simp[ar,br]
   .rw[d2 12 (by decide)];simp[ar,bC]
theorem C7(hG:au GI)(s:ao)(hs:s.cells.length<1000)(e:Nat)(he:e=0\/e=1):AC prog GI 98 [ba s,.int .i64 (e:Nat)] (.ret (vI (bj e s))):=by
 refine AC.nj (o:=if bj e s=[]then .nil else .view) ?_
 refine AC.ib func98 rfl ntmps98 (by simp) λcc w=>O3 hG s hs e he cc w λS5 H5 s6=>?_
 show SW prog GI 29 none (.seq _ .ret) _ _ _ _;refine SW.m_ hG cH (by kernel_rfl) (λ_ _ h=>h) (ac:=ae.qb c98.qb.qb.qb) (by kernel_rfl) ?_
 by_cases h0:bj e s=[]
 .have Ll:S5 6=.slice .nil []:=by rw[s6,h0];rfl
  simp[c98,ae.qb,iW.bB,Ih,Ll,h0];exact⟨dZ.plain rfl,rfl,rfl⟩
 .have Fc:ints (bj e s)≠[]:=by simpa[ints]using h0
  have Ll:S5 6=.slice (.own 3) (ints (bj e s)):=by rw[s6];simp[grow,Fc]
  simp[c98,ae.qb,iW.bB,Ih,Ll,h0]
  try exact⟨dZ.plain rfl,rfl⟩
theorem Jd:(∀k n,(AV.int k n).aH=.int k n)/\(∀b,(AV.bool b).aH=.bool b)/\(∀l,(AV.str l).aH=.str l)/\(∀l,(AV.slice .view l).aH=.slice .view l)/\(∀l,(AV.slice .nil l).aH=.slice .nil l)/\(∀e l,(AV.slice (.own e) l).aH=.slice .view l)/\(∀cs,(AV.agg cs).aH=.agg cs)/\(∀cs,(AV.dE cs).aH=.dE cs)/\(∀cs,(AV.ref cs).aH=.ref cs)/\(∀i o,(AV.box i o).aH=.box i o)/\(∀t v,(AV.iface t v).aH=.iface t v)/\∀v:AV,v.aH.aH=v.aH:=
 ⟨λ_ _=>rfl,λ_=>rfl,λ_=>rfl,λ_=>rfl,λ_=>rfl,λ_ _=>rfl,λ_=>rfl,λ_=>rfl,λ_=>rfl,λ_ _=>rfl,λ_ _=>rfl,AV.idem⟩
theorem JO:(∀k n,(AV.int k n).cn=.int k n)/\(∀b,(AV.bool b).cn=.bool b)/\(∀l,(AV.str l).cn=.str l)/\(∀o l,(AV.slice o l).cn=.slice .view l)/\(∀cs,(AV.agg cs).cn=.agg cs)/\(∀cs,(AV.dE cs).cn=.dE cs)/\(∀cs,(AV.ref cs).cn=.ref cs)/\∀t v,(AV.iface t v).cn=.iface t v:=
 ⟨λ_ _=>rfl,λ_=>rfl,λ_=>rfl,λ_ _=>rfl,λ_=>rfl,λ_=>rfl,λ_=>rfl,λ_ _=>rfl⟩
theorem Hh(e:Nat)(l:List AV):(grow e l).aH=.slice (if l=[]then .nil else .view) l:=by
 unfold grow
 by_cases h:l=[]<;>simp[h,AV.aH]
theorem vB(e:Nat)(l:List AV):(grow e l).aH.cn=.slice .view l:=by
 rw[Hh];rfl
end Go.Proofs.Tryz
