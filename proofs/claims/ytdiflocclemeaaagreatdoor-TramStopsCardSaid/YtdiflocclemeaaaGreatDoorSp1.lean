/- A part of the proof. -/
import Derived.Test.YtdiflocclemeaaaGreatDoorD1
import Derived.Test.YtdiflocclemeaaaGreatDoorD2
import Derived.Test.YtdiflocclemeaaaGreatDoorD3
import Derived.Test.YtdiflocclemeaaaGreatDoorShelf
set_option maxRecDepth 100000
set_option maxHeartbeats 8000000
set_option linter.all false
namespace Go.Proofs.Tram
def eg(seen:Nat->Bool)(s:Nat×List (Nat×Nat))(i:Nat):Nat×List (Nat×Nat):=if seen i=true then s else(i+1,if s.1<i then s.2++[(s.1,i-1)]else s.2)
def ez(seen:Nat->Bool)(n:Nat):List (Nat×Nat):=((List.range (n+1)).foldl (eg seen) (0,[])).2
def iR(seen:Nat->Bool)(out:List (Nat×Nat))(c:Nat):List (Nat×Nat):=
 if seen c=true then(if 0<c/\seen (c-1)=true then out.dropLast++[((out.getLast?.getD (0,0)).1,c)]else out++[(c,c)])else out
def Nt(seen:Nat->Bool)(n:Nat):List (Nat×Nat):=(List.range n).foldl (iR seen) []
def oW (seen:Nat→Bool) (n:Nat) :
  ((List.range n).foldl (eg seen) (0,[])).1<=n/\(((List.range n).foldl (eg seen) (0,[])).1<n↔0<n/\seen (n-1)=true)/\
   (List.range n).foldl (iR seen) []=((List.range n).foldl (eg seen) (0,[])).2++(if((List.range n).foldl (eg seen) (0,[])).1<n then[(((List.range n).foldl (eg seen) (0,[])).1,n-1)]else[]):=by
 induction n with
 |zero=>simp
 |succ n ih=>
  rw[ady,adk,adk]
  generalize(List.range n).foldl (eg seen) (0,[])=s at*
  generalize(List.range n).foldl (iR seen) []=r at*
  obtain⟨h1,h2,h3⟩:=ih;simp only[List.foldl_cons,List.foldl_nil,aeb]
  cases hs:seen n with
  |true=>
   have e1:eg seen s n=s:=by simp[eg,hs]
   rw[e1];refine⟨by omega,⟨λ_=>⟨by omega,by first|exact hs|rfl⟩,λ_=>by omega⟩,?_⟩;rw[if_pos (by omega:s.1<n+1)];unfold iR;rw[if_pos hs]
   by_cases av:s.1<n
   .rw[if_pos (h2.1 av),h3,if_pos av];simp
   .have:s.1=n:=by omega
    rw[if_neg (λh=>av (h2.2 h)),h3,if_neg av,adn,this]
  |false=>
   have e1:eg seen s n=(n+1,if s.1<n then s.2++[(s.1,n-1)]else s.2):=by simp[eg,hs]
   have e2:iR seen r n=r:=by simp[iR,hs]
   rw[e1,e2];refine⟨acD _,by simp,?_⟩;simp only[agl,acW,adn];rw[h3]
   split<;>simp
def zH{seen:Nat->Bool}{n:Nat}(hn:seen n=false):ez seen n=Nt seen n:=by
 have h:=oW seen (n+1)
 have h2:¬((List.range (n+1)).foldl (eg seen) (0,[])).1<n+1:=λhl=>by
  have:=(h.2.1.1 hl).2;rw[aeb,hn]at this;cases this
 have h3:=h.2.2;rw[if_neg h2,adn]at h3
 have e:(List.range (n+1)).foldl (iR seen) []=(List.range n).foldl (iR seen) []:=by
  rw[ady,adk];simp[iR,hn]
 rw[e]at h3;exact h3.symm
def dJ:List Int->Int->Nat×Int
 |[],t=>(0,t)
 |x::l,t=>if x<=t then((dJ l (t-x)).1+1,(dJ l (t-x)).2)else(0,t)
def pR:∀(l:List Int)(t:Int),(dJ l t).1<=l.length
 |[],_=>acD _
 |x::l,t=>by
  unfold dJ;split
  .simpa using pR l (t-x)
  .simp
def xV:∀(l:List Int)(t:Int),0<=t->0<=(dJ l t).2
 |[],_,h=>h
 |x::l,t,h=>by
  unfold dJ;split
  .exact xV l (t-x) (by omega)
  .exact h
def Eg:∀(l:List Int)(t:Int)(x:Int),l[(dJ l t).1]?=some x->(dJ l t).2<x
 |[],_,_,h=>by simp at h
 |y::l,t,x,h=>by
  unfold dJ at h⊢;split at h
  .rename_i hy;rw[if_pos hy];simp only[List.getElem?_cons_succ]at h;exact Eg l (t-y) x h
  .rename_i hy;rw[if_neg hy];simp only[List.getElem?_cons_zero,ac0]at h;simp only;omega
def J3:∀(l:List Int)(a b:Int),0<=b->dJ l (a+b)=((dJ l a).1+(dJ (l.drop (dJ l a).1) ((dJ l a).2+b)).1,(dJ (l.drop (dJ l a).1) ((dJ l a).2+b)).2)
 |[],a,b,_=>by simp[dJ]
 |x::l,a,b,hb=>by
  by_cases h:x<=a
  .have e:dJ (x::l) a=((dJ l (a-x)).1+1,(dJ l (a-x)).2):=by rw[dJ];rw[if_pos h]
   rw[e]
   have e2:dJ (x::l) (a+b)=((dJ l (a+b-x)).1+1,(dJ l (a+b-x)).2):=by
    rw[dJ];rw[if_pos (by omega)]
   rw[e2,show a+b-x=(a-x)+b by omega,J3 l (a-x) b hb];simp only[agp]
   ext<;>simp<;>omega
  .have e:dJ (x::l) a=(0,a):=by rw[dJ];rw[if_neg h]
   rw[e];simp
def q_:∀(l:List Int)(t:Int)(k:Nat),k<=(dJ l t).1->dJ l t=(k+(dJ (l.drop k) (t-(l.take k).sum)).1,(dJ (l.drop k) (t-(l.take k).sum)).2)
 |_,_,0,_=>by simp
 |[],t,k+1,h=>by simp[dJ]at h
 |x::l,t,k+1,h=>by
  by_cases hx:x<=t
  .have e:dJ (x::l) t=((dJ l (t-x)).1+1,(dJ l (t-x)).2):=by rw[dJ];rw[if_pos hx]
   rw[e]at h⊢;have:=q_ l (t-x) k (by simpa using h);rw[this];simp only[agp,List.take_succ_cons,List.sum_cons];rw[show t-x-(l.take k).sum=t-(x+(l.take k).sum) by omega]
   ext<;>simp<;>omega
  .rw[dJ,if_neg hx]at h;simp at h
def iI(bb:Nat->Int)(a b:Nat):Int:=((List.range' a (b-a)).map bb).sum
def rL(bb:Nat->Int){a b:Nat}(h:a<=b):iI bb a (b+1)=iI bb a b+bb b:=by
 unfold iI;rw[show b+1-a=(b-a)+1 by omega,aeZ,ada,aeg];simp
 congr 1;omega
def vm(bb:Nat->Int)(a:Nat):iI bb a a=0:=by simp[iI]
def eI(ao:List Int)(bb:Nat->Int)(vs:List (Nat×Nat)):Nat:=vs.foldl (λn v=>n+(dJ (ao.drop n) (iI bb v.1 (v.2+1))).1) 0
def jt(ao:List Int)(bb:Nat->Int)(seen:Nat->Bool)(s:Nat×Int)(i:Nat):Nat×Int:=
 if seen i=true then(s.1+(dJ (ao.drop s.1) (s.2+bb i)).1,(dJ (ao.drop s.1) (s.2+bb i)).2)else(s.1,0)
def lr(ao:List Int)(bb:Nat->Int)(seen:Nat->Bool)(n:Nat):Nat×Int:=(List.range n).foldl (jt ao bb seen) (0,0)
def nf(ao:List Int)(bb:Nat->Int)(l:List (Nat×Nat))(v:Nat×Nat):eI ao bb (l++[v])=eI ao bb l+(dJ (ao.drop (eI ao bb l)) (iI bb v.1 (v.2+1))).1:=by
 unfold eI;rw[adk];rfl
def Ci(ao:List Int)(bb:Nat->Int)(s:Nat×List (Nat×Nat))(n:Nat):Nat×Int:=
 if s.1<n then(eI ao bb s.2+(dJ (ao.drop (eI ao bb s.2)) (iI bb s.1 n)).1,(dJ (ao.drop (eI ao bb s.2)) (iI bb s.1 n)).2)else(eI ao bb s.2,0)
def Md(ao:List Int){bb:Nat->Int}(hr:∀i,0<=bb i)(seen:Nat->Bool)(s:Nat×List (Nat×Nat)){n:Nat}(hle:s.1<=n):jt ao bb seen (Ci ao bb s n) n=Ci ao bb (eg seen s n) (n+1):=by
 cases hs:seen n with
 |true=>
  have e1:eg seen s n=s:=by simp[eg,hs]
  rw[e1];unfold jt Ci;rw[if_pos hs,if_pos (by omega:s.1<n+1),rL bb hle]
  by_cases av:s.1<n
  .rw[if_pos av];simp only;rw[J3 _ (iI bb s.1 n) (bb n) (hr n),aeP]
   ext<;>simp<;>omega
  .have:s.1=n:=by omega
   rw[if_neg av,this,vm]
 |false=>
  have e1:eg seen s n=(n+1,if s.1<n then s.2++[(s.1,n-1)]else s.2):=by simp[eg,hs]
  rw[e1];unfold jt Ci;rw[if_neg (by simp[hs])];simp only[agl,acW]
  by_cases av:s.1<n
  .rw[if_pos av,if_pos av,nf];simp only;rw[show n-1+1=n by omega]
  .rw[if_neg av,if_neg av]
def DY(ao:List Int){bb:Nat->Int}(hr:∀i,0<=bb i)(seen:Nat->Bool):∀n,lr ao bb seen n=Ci ao bb ((List.range n).foldl (eg seen) (0,[])) n
 |0=>by simp[lr,eI,Ci]
 |n+1=>by
  have e1:lr ao bb seen (n+1)=jt ao bb seen (lr ao bb seen n) n:=by
   unfold lr;rw[ady,adk];rfl
  have e2:(List.range (n+1)).foldl (eg seen) (0,[])=eg seen ((List.range n).foldl (eg seen) (0,[])) n:=by
   rw[ady,adk];rfl
  rw[e1,e2,DY ao hr seen n];exact Md ao hr seen _ (oW seen n).1
def y4{ao:List Int}{bb:Nat->Int}(hr:∀i,0<=bb i){seen:Nat->Bool}{n:Nat}(hn:seen n=false):eI ao bb (ez seen n)=(lr ao bb seen n).1:=by
 have h:=DY ao hr seen (n+1);have hv:=oW seen (n+1)
 have h2:¬((List.range (n+1)).foldl (eg seen) (0,[])).1<n+1:=λhl=>by
  have:=(hv.2.1.1 hl).2;rw[aeb,hn]at this;cases this
 unfold Ci at h;rw[if_neg h2]at h
 have e:lr ao bb seen (n+1)=jt ao bb seen (lr ao bb seen n) n:=by
  unfold lr;rw[ady,adk];rfl
 rw[e]at h;unfold jt at h;rw[if_neg (by simp[hn])]at h;exact(congrArg Prod.fst h).symm
def vG(a b:Nat×Int):Prop:=a.1<b.1\/(a.1=b.1/\a.2<=b.2)
def Ex:∀(la lb:List Int)(ta tb:Int),la.length=lb.length->(∀j (h:j<la.length)(h':j<lb.length),lb[j]<=la[j])->ta<=tb->vG (dJ la ta) (dJ lb tb)
 |[],[],ta,tb,_,_,ht=>.inr ⟨rfl,ht⟩
 |[],_::_,_,_,h,_,_=>by simp at h
 |_::_,[],_,_,h,_,_=>by simp at h
 |x::la,y::lb,ta,tb,hl,h,ht=>by
  have h0:=h 0 (by simp) (by simp);simp only[List.getElem_cons_zero]at h0
  by_cases hx:x<=ta
  .have e1:dJ (x::la) ta=((dJ la (ta-x)).1+1,(dJ la (ta-x)).2):=by rw[dJ];rw[if_pos hx]
   have e2:dJ (y::lb) tb=((dJ lb (tb-y)).1+1,(dJ lb (tb-y)).2):=by rw[dJ];rw[if_pos (by omega)]
   rw[e1,e2]
   rcases Ex la lb (ta-x) (tb-y) (by simpa using hl) (λj hj dH=>h (j+1) (afx hj) (afx dH)) (by omega)with hm|⟨hm,UO⟩
   .exact .inl (by simp only;omega)
   .exact .inr ⟨by simp only;omega,UO⟩
  .have e1:dJ (x::la) ta=(0,ta):=by rw[dJ];rw[if_neg hx]
   rw[e1]
   by_cases hy:y<=tb
   .have e2:dJ (y::lb) tb=((dJ lb (tb-y)).1+1,(dJ lb (tb-y)).2):=by rw[dJ];rw[if_pos hy]
    rw[e2];exact .inl (by simp)
   .have e2:dJ (y::lb) tb=(0,tb):=by rw[dJ];rw[if_neg hy]
    rw[e2];exact .inr ⟨rfl,ht⟩
structure Calm(ao:List Int)(s:Nat×Int):Prop where
 left:0<=s.2
 next:∀x,ao[s.1]?=some x->s.2<x
def zF{ao:List Int}(hp:∀x∈ao,0<x){bb:Nat->Int}(hr:∀i,0<=bb i)(seen:Nat->Bool){s:Nat×Int}(h:Calm ao s)(i:Nat):Calm ao (jt ao bb seen s i):=by
 unfold jt;split
 .refine⟨xV _ _ (by have:=h.left;have:=hr i;omega),λx hx=>?_⟩;refine Eg (ao.drop s.1) (s.2+bb i) x ?_;rw[aeX];exact hx
 .exact⟨aed _,λx hx=>hp x (adR hx)⟩
def Ja {na nb:List Int} (hl:na.length=nb.length) (hn:∀ j (h:j < na.length) (h':j < nb.length),nb[j]≤na[j]) (hp:∀ x∈nb,0 < x) {ra rb:Nat→Int} (HF:∀ i,0≤ra i) {sa sb:Nat→Bool} {i:Nat} (hs:sa i=true→sb i=true) (hr:sa i=true→ra i≤rb i) (pB:∀ i,0≤rb i)
  {a b:Nat×Int} (ha:Calm na a) (hb:Calm nb b) (h:vG a b):vG (jt na ra sa a i) (jt nb rb sb b i):=by
 have QJ:∀x∈na,0<x:=λx hx=>by
  obtain⟨j,hj,rfl⟩:=adm hx;have:=hn j hj (by omega);have:=hp _ (acy (by omega:j<nb.length));omega
 have lift:∀k ta tb,ta<=tb->vG (k+(dJ (na.drop k) ta).1,(dJ (na.drop k) ta).2) (k+(dJ (nb.drop k) tb).1,(dJ (nb.drop k) tb).2):=λk ta tb ht=>by
  rcases Ex (na.drop k) (nb.drop k) ta tb (by simp;omega) (λj hj dH=>by simpa using hn (k+j) (by simp at hj;omega) (by simp at dH;omega)) ht with hm|⟨hm,UO⟩
  .exact .inl (by simp only;omega)
  .exact .inr ⟨by simp only;omega,UO⟩
 have hla:=ha.left;have Ys:=hb.left;have acn:=HF i;have acj:=pB i;unfold jt
 cases hsa:sa i with
 |false=>
  simp only[acI,acW];split
  .have:=xV (nb.drop b.1) (b.2+rb i) (by omega)
   rcases h with h|⟨h,_⟩
   .exact .inl (by simp only;omega)
   .by_cases h0:(dJ (nb.drop b.1) (b.2+rb i)).1=0
    .exact .inr ⟨by simp only;omega,this⟩
    .exact .inl (by simp only;omega)
  .rcases h with h|⟨h,_⟩
   .exact .inl h
   .exact .inr ⟨h,aed _⟩
 |true=>
  have hr:=hr hsa;rw[if_pos rfl,if_pos (hs hsa)]
  rcases h with h|⟨h1,h2⟩
  .by_cases hk:b.1-a.1<=(dJ (na.drop a.1) (a.2+ra i)).1
   .rw[q_ (na.drop a.1) (a.2+ra i) (b.1-a.1) hk,aeP,show a.1+(b.1-a.1)=b.1 by omega];simp only;rw[show a.1+(b.1-a.1+(dJ (na.drop b.1) (a.2+ra i-((na.drop a.1).take (b.1-a.1)).sum)).1)=b.1+(dJ (na.drop b.1) (a.2+ra i-((na.drop a.1).take (b.1-a.1)).sum)).1 by omega];refine lift b.1 _ _ ?_
    have av:a.1<na.length:=by
     have:=pR (na.drop a.1) (a.2+ra i);rw[adg]at this;omega
    have TC:=ha.next na[a.1] (acx av)
    have y9:na[a.1]<=((na.drop a.1).take (b.1-a.1)).sum:=by
     rw[ad7 av,show b.1-a.1=(b.1-a.1-1)+1 by omega,List.take_succ_cons,List.sum_cons]
     have:0<=(((na.drop (a.1+1)).take (b.1-a.1-1))).sum:=by
      have fI:∀l:List Int,(∀x∈l,0<x)->0<=l.sum:=by
       intro l
       induction l with
       |nil=>simp
       |cons x l ih=>
        intro hx;have:=hx x (by simp)
        have:=ih λy hy=>hx y (acH _ hy)
        simp;omega
      exact fI _ λx hx=>QJ x (aeN (adS hx))
     omega
    omega
   .exact .inl (by simp only;omega)
  .rw[h1];exact lift b.1 _ _ (by omega)
def ze{na nb:List Int}(hl:na.length=nb.length)(hn:∀j (h:j<na.length)(h':j<nb.length),nb[j]<=na[j])(hp:∀x∈nb,0<x){ra rb:Nat->Int}(HF:∀i,0<=ra i)(pB:∀i,0<=rb i){sa sb:Nat->Bool}:∀n,(∀i,i<n->sa i=true->sb i=true/\ra i<=rb i)->vG (lr na ra sa n) (lr nb rb sb n)/\Calm na (lr na ra sa n)/\Calm nb (lr nb rb sb n)
 |0,_=>by
  have QJ:∀x∈na,0<x:=λx hx=>by
   obtain⟨j,hj,rfl⟩:=adm hx;have:=hn j hj (by omega);have:=hp _ (acy (by omega:j<nb.length));omega
  exact⟨.inr ⟨rfl,aed _⟩,⟨aed _,λx hx=>QJ x (adR hx)⟩,⟨aed _,λx hx=>hp x (adR hx)⟩⟩
 |n+1,h=>by
  obtain⟨h1,h2,h3⟩:=ze hl hn hp HF pB n (λi hi=>h i (by omega))
  have QJ:∀x∈na,0<x:=λx hx=>by
   obtain⟨j,hj,rfl⟩:=adm hx;have:=hn j hj (by omega);have:=hp _ (acy (by omega:j<nb.length));omega
  have e:∀(q:List Int)(r:Nat->Int)(s:Nat->Bool),lr q r s (n+1)=jt q r s (lr q r s n) n:=λq r s=>by
   unfold lr;rw[ady,adk];rfl
  rw[e,e];exact⟨Ja hl hn hp HF (λhs=>(h n (by omega) hs).1) (λhs=>(h n (by omega) hs).2) pB h2 h3 h1,zF QJ HF sa h2 n,zF hp pB sb h3 n⟩
def Mf {na nb:List Int} (hl:na.length=nb.length) (hn:∀ j (h:j < na.length) (h':j < nb.length),nb[j]≤na[j]) (hp:∀ x∈nb,0 < x) {ra rb:Nat→Int} (HF:∀ i,0≤ra i) (pB:∀ i,0≤rb i) {sa sb:Nat→Bool} {n:Nat} (ha:sa n=false) (hb:sb n=false)
  (h:∀i,i<n->sa i=true->sb i=true/\ra i<=rb i):eI na ra (ez sa n)<=eI nb rb (ez sb n):=by
 rw[y4 HF ha,y4 pB hb]
 rcases(ze hl hn hp HF pB n h).1 with h|⟨h,_⟩
 .omega
 .omega
def Hi (seen:Nat→Bool) (n:Nat) :
  (∀v∈((List.range n).foldl (eg seen) (0,[])).2,v.1<=v.2/\v.2+2<=((List.range n).foldl (eg seen) (0,[])).1)/\(((List.range n).foldl (eg seen) (0,[])).2).Pairwise (λu v=>u.2+1<v.1)/\
   ∀c,c<n->(seen c=true↔(∃v∈((List.range n).foldl (eg seen) (0,[])).2,v.1<=c/\c<=v.2)\/((List.range n).foldl (eg seen) (0,[])).1<=c):=by
 induction n with
 |zero=>simp
 |succ n ih=>
  have hle:=(oW seen n).1;rw[ady,adk]
  generalize(List.range n).foldl (eg seen) (0,[])=s at*
  simp only[List.foldl_cons,List.foldl_nil];obtain⟨h1,h2,h3⟩:=ih
  cases hs:seen n with
  |true=>
   have e1:eg seen s n=s:=by simp[eg,hs]
   rw[e1];refine⟨h1,h2,λc hc=>?_⟩
   by_cases QR:c=n
   .subst QR;exact⟨λ_=>.inr hle,λ_=>hs⟩
   .exact h3 c (by omega)
  |false=>
   have e1:eg seen s n=(n+1,if s.1<n then s.2++[(s.1,n-1)]else s.2):=by simp[eg,hs]
   rw[e1];simp only
   by_cases av:s.1<n
   .rw[if_pos av];refine⟨λv hv=>?_,?_,λc hc=>?_⟩
    .rcases acF.1 hv with hv|hv
     .have:=h1 v hv;omega
     .simp only[ac4]at hv;subst hv;simp only;omega
    .rw[aey];refine⟨h2,by simp,λu hu v hv=>?_⟩;simp only[ac4]at hv;subst hv;have:=h1 u hu;simp only;omega
    .by_cases QR:c=n
     .subst QR;rw[hs];refine⟨λh=>by(cases h),λh=>?_⟩;rcases h with⟨v,hv,fa,eD⟩|h
      .rcases acF.1 hv with hv|hv
       .have:=h1 v hv;omega
       .simp only[ac4]at hv;subst hv;simp only at eD;omega
      .omega
     .rw[h3 c (by omega)];refine⟨λh=>.inl ?_,λh=>?_⟩
      .rcases h with⟨v,hv,hvc⟩|h
       .exact⟨v,aeM _ hv,hvc⟩
       .exact⟨(s.1,n-1),by simp,h,by simp only;omega⟩
      .rcases h with⟨v,hv,fa,eD⟩|h
       .rcases acF.1 hv with hv|hv
        .exact .inl ⟨v,hv,fa,eD⟩
        .simp only[ac4]at hv;subst hv;exact .inr fa
       .omega
   .rw[if_neg av];refine⟨λv hv=>?_,h2,λc hc=>?_⟩
    .have:=h1 v hv;omega
    .by_cases QR:c=n
     .subst QR;rw[hs];refine⟨λh=>by(cases h),λh=>?_⟩;rcases h with⟨v,hv,fa,eD⟩|h
      .have:=h1 v hv;omega
      .omega
     .rw[h3 c (by omega)];refine⟨λh=>?_,λh=>?_⟩
      .rcases h with h|h
       .exact .inl h
       .omega
      .rcases h with h|h
       .exact .inl h
       .omega
def yl{seen:Nat->Bool}{n:Nat}(hn:seen n=false):(∀v∈ez seen n,v.1<=v.2/\v.2<n)/\(ez seen n).Pairwise (λu v=>u.2+1<v.1)/\∀c,c<n->(seen c=true↔∃v∈ez seen n,v.1<=c/\c<=v.2):=by
 obtain⟨h1,h2,h3⟩:=Hi seen (n+1);have hv:=oW seen (n+1)
 have h4:¬((List.range (n+1)).foldl (eg seen) (0,[])).1<n+1:=λhl=>by
  have:=(hv.2.1.1 hl).2;rw[aeb,hn]at this;cases this
 have h5:=hv.1;unfold ez
 generalize(List.range (n+1)).foldl (eg seen) (0,[])=s at*
 refine⟨λv hv=>?_,h2,λc hc=>?_⟩
 .have:=h1 v hv;omega
 .rw[h3 c (by omega)];refine⟨λh=>?_,λh=>.inl h⟩;rcases h with h|h
  .exact h
  .omega
def tC(ao:List Int)(bb:Nat->Int)(vs:List (Nat×Nat)):eI ao bb vs<=ao.length:=by
 have main:∀(r:List (Nat×Nat)),eI ao bb r.reverse<=ao.length:=by
  intro r
  induction r with
  |nil=>simp[eI]
  |cons v r ih=>
   rw[List.reverse_cons,nf];have:=pR (ao.drop (eI ao bb r.reverse)) (iI bb v.1 (v.2+1));rw[adg]at this;omega
 have:=main vs.reverse;rwa [List.reverse_reverse]at this
structure Gz(f:Nat->Nat)(m a w:Nat):Prop where
 place:1<=a/\a<=m
 words:w=f a
 most:∀n,1<=n->n<=m->f n<=w/\(f n=w->a<=n)
def Gz.unique{f:Nat->Nat}{m a w a' w':Nat}(h:Gz f m a w)(h':Gz f m a' w'):a=a'/\w=w':=by
 have h1:=h.most a' h'.place.1 h'.place.2;have h2:=h'.most a h.place.1 h.place.2;have e1:=h.words;have e2:=h'.words
 have hw:w=w':=by omega
 have:=h1.2 (by omega);have:=h2.2 (by omega);exact⟨by omega,hw⟩
def qG(x:Nat×Nat)(l:List (Nat×Nat)):Nat×Nat:=l.foldl (λo y=>if o.2<y.2 then y else o) x
def iC(f:Nat->Nat)(a m:Nat):List (Nat×Nat):=(List.range' a m).map λn=>(n,f n)
def mg(p:Nat->Bool)(k n:Nat):Prop:=n<=k/\(∀x,x<n->p x=false)/\(n<k->p n=true)
def mg.unique{p:Nat->Bool}{k m n:Nat}(h:mg p k m)(h':mg p k n):m=n:=by
 rcases Nat.lt_trichotomy m n with av|rfl|av
 .have h1:=h.2.2 (by have:=h'.1;omega);have h2:=h'.2.1 m av;rw[h1]at h2;cases h2
 .rfl
 .have h1:=h'.2.2 (by have:=h.1;omega);have h2:=h.2.1 n av;rw[h1]at h2;cases h2
def Tu{p:Nat->Bool}(hm:∀x y,x<=y->p x=true->p y=true){i j:Nat}(py:i<j)(so:∀x,x<i->p x=false):i<=(i+j)/2/\(i+j)/2<j/\(p ((i+j)/2)=false->∀x,x<(i+j)/2+1->p x=false):=by
 refine⟨by omega,by omega,λh x hx=>?_⟩
 cases hp:p x with
 |false=>rfl
 |true=>
  have:=hm x _ (by omega:x<=(i+j)/2) hp;rw[h]at this;cases this
structure pM(p:Nat->Nat->Bool)(m c t:Nat):Prop where
 cell:c<m
 Pn:p c t=true
 less:∀c' n,c'<m->p c' n=true->t<=n/\(n=t->c<=c')
def pM.unique{p:Nat->Nat->Bool}{m c t c' t':Nat}(h:pM p m c t)(h':pM p m c' t'):c=c'/\t=t':=by
 have h1:=h.less c' t' h'.cell h'.Pn;have h2:=h'.less c t h.cell h.Pn
 have ht:t=t':=by omega
 subst ht;have:=h1.2 rfl;have:=h2.2 rfl;exact⟨by omega,rfl⟩
def fP(x:Nat×Nat)(l:List (Nat×Nat)):Nat×Nat:=l.foldl (λo y=>if y.2<o.2 then y else o) x
def fD(f:Nat->Nat)(most:Nat)(m:Nat):List (Nat×Nat):=(List.range m).filterMap λi=>if f i<=most then some (i,f i)else none
def xf(f:Nat->Nat)(most m:Nat):fD f most (m+1)=fD f most m++(if f m<=most then[(m,f m)]else[]):=by
 unfold fD;rw[ady,List.filterMap_append]
 congr 1
 by_cases h:f m<=most<;>simp[h]
def pG{f:Nat->Nat}{most m:Nat}{x:Nat×Nat}:x∈fD f most m↔x.1<m/\x.2=f x.1/\f x.1<=most:=by
 unfold fD;rw[aeC]
 constructor
 .rintro⟨i,hi,he⟩;split at he
  .cases he;exact⟨acY.1 hi,rfl,by assumption⟩
  .cases he
 .rintro⟨h1,h2,h3⟩;refine⟨x.1,acY.2 h1,?_⟩;rw[if_pos h3,<-h2]
def Dw(f:Nat->Nat)(most m:Nat):(fD f most m).Pairwise λx y=>x.1<y.1:=by
 induction m with
 |zero=>exact List.Pairwise.nil
 |succ m ih=>
  rw[xf,aey];refine⟨ih,?_,?_⟩
  .split<;>simp
  .intro x hx y hy;have h1:=(pG.1 hx).1;split at hy
   .simp at hy;subst hy;exact h1
   .cases hy
def pc:∀(l:List (Nat×Nat))(x:Nat×Nat),(x::l).Pairwise (λa b=>a.1<b.1)->fP x l∈x::l/\∀y∈x::l,(fP x l).2<=y.2/\((fP x l).2=y.2->(fP x l).1<=y.1)
 |[],x,_=>⟨by simp[fP],by simp[fP]⟩
 |z::l,x,h=>by
  have h1:=(adT.1 h).1;have h2:=(adT.1 h).2;have e:fP x (z::l)=fP (if z.2<x.2 then z else x) l:=rfl
  by_cases hz:z.2<x.2
  .rw[e,if_pos hz];have ih:=pc l z h2;refine⟨acH _ ih.1,λy hy=>?_⟩;rcases adl.1 hy with rfl|hy
   .have:=ih.2 z (by simp);omega
   .exact ih.2 y hy
  .rw[e,if_neg hz];have hx:(x::l).Pairwise (λa b=>a.1<b.1):=adT.2 ⟨λy hy=>h1 y (acH _ hy),(adT.1 h2).2⟩;have ih:=pc l x hx;refine⟨?_,λy hy=>?_⟩
   .rcases adl.1 ih.1 with h|h
    .rw[h];simp
    .exact acH _ (acH _ h)
   .rcases adl.1 hy with rfl|hy
    .exact ih.2 _ (by simp)
    .rcases adl.1 hy with rfl|hy
     .have hb:=ih.2 x (by simp);have hxz:=h1 y (by simp);refine⟨by omega,λhh=>?_⟩;have:=hb.2 (by omega);omega
     .exact ih.2 y (acH _ hy)
def Tp{p:Nat->Nat->Bool}{f:Nat->Nat}{most m:Nat}(hf:∀i,i<m->mg (p i) (most+1) (f i)){x:Nat×Nat}{l:List (Nat×Nat)}(h:fD f most m=x::l):pM p m (fP x l).1 (fP x l).2:=by
 have hr:=Dw f most m;rw[h]at hr;obtain⟨hb,hl⟩:=pc l x hr;rw[<-h]at hb hl;obtain⟨b1,b2,b3⟩:=pG.1 hb;refine⟨b1,?_,λc' n hc hp=>?_⟩
 .rw[b2];exact(hf _ b1).2.2 (by omega)
 .have hle:f c'≤n:=by
   rcases adK n (f c')with h|h
   .have:=(hf c' hc).2.1 n h;rw[hp]at this;cases this
   .exact h
  by_cases hm:f c'<=most
  .have:=hl (c',f c') (pG.2 ⟨hc,rfl,hm⟩);simp only at this;refine⟨by omega,λhn=>this.2 (by omega)⟩
  .refine⟨by omega,λhn=>by omega⟩
def AF{p:Nat->Nat->Bool}{f:Nat->Nat}{most m:Nat}(hf:∀i,i<m->mg (p i) (most+1) (f i)){c n:Nat}(hc:c<m)(hn:n<=most)(hp:p c n=true):∃x l,fD f most m=x::l:=by
 cases hs:fD f most m with
 |cons x l=>exact⟨x,l,rfl⟩
 |nil=>
  have hle:f c<=n:=by
   rcases adK n (f c)with h|h
   .have:=(hf c hc).2.1 n h;rw[hp]at this;cases this
   .exact h
  have:(c,f c)∈fD f most m:=pG.2 ⟨hc,rfl,by show f c<=most;omega⟩;rw[hs]at this;cases this
def l4:∀{l:List Int},(∀x∈l,0<x)->0<=l.sum
 |[],_=>by simp
 |x::l,h=>by
  have:=h x (by simp)
  have:=l4 (l:=l) λy hy=>h y (acH _ hy)
  simp only[List.sum_cons];omega
def Ic:∀{l:List Int}{t:Int},(∀x∈l,0<x)->0<=t->((dJ l t).1=l.length↔l.sum<=t)
 |[],t,_,ht=>by simp[dJ,ht]
 |x::l,t,h,ht=>by
  have h0:=h x (by simp)
  have hl:=λy hy=>h y (acH _ hy)
  have hs:=l4 hl
  by_cases hx:x<=t
  .have e:dJ (x::l) t=((dJ l (t-x)).1+1,(dJ l (t-x)).2):=by rw[dJ];rw[if_pos hx]
   rw[e];have:=Ic (l:=l) (t:=t-x) hl (by omega);simp only[List.length_cons,List.sum_cons]
   constructor
   .intro h1;have:=this.1 (by omega);omega
   .intro h1;have:=this.2 (by omega);omega
  .have e:dJ (x::l) t=(0,t):=by rw[dJ];rw[if_neg hx]
   rw[e];simp only[List.length_cons,List.sum_cons]
   constructor
   .intro h1;omega
   .intro h1;omega
end Go.Proofs.Tram
namespace Go.Proofs.Tryz
open Go.AL
variable{GI:World->Prop}
def dO:prog.follows .mixedOrders=true:=by kernel_rfl
def cE{GI:World->Prop}(hG:aw GI){f:Nat}{fn:Func}{c:Code}{args:List AV}{out:eE}{n:Nat}(hf:prog.funcs[f]?=some fn)(hn:fn.ntmps=n)(ac:af)(h:bL prog GI ac (post prog n fn.results.toList out) (AL.start args) (λ_=>none))(hl:args.length<=n:=by simp)(hb:fn.body=some c:=by rfl)(hc:cC prog n c=ac:=by kernel_rfl):AC prog GI f args out:=AC.Hg hG dO hf hb hn hl hc h
def SP (hG:aw GI) (es:List AV) (b_:aJ 1 es=true) (hl:es.length < 1048576) :
  AC prog GI 114 [.slice .view es] (.ret (.slice (if es.isEmpty then .nil else .own 3) es)):=by
 refine cE hG func114 ntmps114 c114 ?_
 cases es with
 |nil=>simp[c114,bL,bw,aG,bh,aD,ev,aQ.S,aQ.H,bG,dE,au,aY,AL.start,AV.aH,aJ,post,cL,dc,db,AV.out,AV.bW]
 |cons x es=>
  have nJ:es.length+1<1048576:=hl;simp[c114,bL,bw,aG,bh,aD,ev,aQ.S,aQ.H,bG,dE,au,aY,AL.start,AV.aH,b_,nJ,post,cL,dc,db,AV.out,AV.bW]
def WD (hG:aw GI) (es:List AV) (b_:aJ 2 es=true) (hl:es.length < 1048576) :
  AC prog GI 190 [.slice .view es] (.ret (.slice (if es.isEmpty then .nil else .own 46) es)):=by
 refine cE hG func190 ntmps190 c190 ?_
 cases es with
 |nil=>simp[c190,bL,bw,aG,bh,aD,ev,aQ.S,aQ.H,bG,dE,au,aY,AL.start,AV.aH,aJ,post,cL,dc,db,AV.out,AV.bW]
 |cons x es=>
  have nJ:es.length+1<1048576:=hl;simp[c190,bL,bw,aG,bh,aD,ev,aQ.S,aQ.H,bG,dE,au,aY,AL.start,AV.aH,b_,nJ,post,cL,dc,db,AV.out,AV.bW]
def NJ(hG:aw GI)(l:List Int)(n:Int)(hl:l.length<1048576):AC prog GI 85 [vI l,int n] (.ret (.bool (l.contains n))):=by
 refine cE hG func85 ntmps85 c85 ?_;simp only[c85,aT,bL,bw,aG,bh,aD,ev,aQ.S,aQ.H,bG,dE,dj];refine⟨λS H=>∃i:Nat,i<=l.length/\n∉l.take i/\S 0=.slice .view (ints l)/\S 1=.int .i64 n/\S 5=.int .i64 i,λS H=>match S 5 with|.int _ k=>l.length-k.toNat|_=>0,⟨0,by simp[au,aY,AL.start,vI,int,AV.aH]⟩,?_⟩;rintro S H ⟨i,hi,hn,h0,h1,h5⟩
 by_cases av:i<l.length
 .have hw:IntKind.i64.wrap ((i:Int)+1)=i+1:=aP (by omega)
  by_cases he:l[i]=n
  .simp[au,aY,h0,h1,h5,AV.aH,eF,cy,dK,av,hw,AV.cells,b0,he,post,cL,dc,db,AV.out,AV.bW];rw[<-he];exact acy av
  .have hb:(l[i]==n)=false:=by simp[he]
   simp[au,aY,h0,h1,h5,AV.aH,eF,cy,dK,av,hw,AV.cells,b0,hb];refine⟨⟨i+1,av,λhm=>?_,by omega⟩,by omega⟩;rw[acL av,acF,ac4]at hm;rcases hm with hm|hm
   .exact hn hm
   .exact he hm.symm
 .have:i=l.length:=by omega
  subst this;simp[au,aY,h0,h1,h5,AV.aH,eF,cy,post,cL,dc,db,AV.out,AV.bW];simpa using hn
end Go.Proofs.Tryz
namespace Go.Proofs.Tryz
open Go Go.AL Go.RowKit Go.Proofs Go.Proofs.Tram
abbrev End:=Int×Int
def a_(e:End):AV:=.agg [.int .i64 e.1,.int .i64 e.2]
def aS(l:List End):List AV:=l.map a_
def aL(out:List Int)(es:List End):AV:=.agg [.slice .view (ints out),.slice .view (aS es)]
def lp:List End->List End->Nat->List (List End)
 |_,[],_=>[]
 |now,a::r,m=>(if r=[]then[now++[a]]else match m with|0=>[]|m+1=>lp (now++[a]) r m)++lp now r m
def ch(now l:List End)(m:Nat):List (List End):=if l=[]then[now]else match m with|0=>[]|m+1=>lp now l m
variable{GI:World->Prop}{l:Nat}{xs:List AV}
structure Fx(C:Cons prog GI l xs)(all:List End)(out:List Int)(fA:List AV)(rows:Nat) where
 bN:Nat
 cA:Value
 cY:Value
 cO:Value
 cF:Value
 cR:Value
 MI:Nat->Prop
 wI:World
 bA:Nat
 De:Value
 N5:cA=.pointer (some ⟨bA,0,none⟩)
 Tz:MI bA/\bA<bN
 hA2:∃ty,wI.heap[bA]?=some (.cells #[De] ty (0,0))
 hY:RV (λb _=>MI b) cD wI (.ref [.val (.func (.yield l) #[] #[])]) cY
 hR:RV (λb _=>MI b) cD wI (.ref [.val (.func (.func 189) #[] #[cA,cY,cO,.pointer (some ⟨bN,0,none⟩),cF,cR])]) cR
 f9:fA[9]?=some (.int .i64 rows)
variable{C:Cons prog GI l xs}{all:List End}{out:List Int}{fA:List AV}{rows:Nat}
structure St(X:Fx C all out fA rows)(k:Nat)(M:Nat->Prop)(Pr:Nat->Nat->Prop)(es:List End)(w:World):Prop where
 j:C.J k M Pr w
 lt:∀b,M b->b<w.heap.size
 mi:∀b,X.MI b->M b/\b≠X.bN/\w.heap[b]?=X.wI.heap[b]?
 now:∃v ty tU,w.heap[X.bN]?=some (.cells #[v] ty (0,0))/\M X.bN/\w.ownsRow (X.bN+1) 46 2 v es.length tU/\iQ (λ_ _=>False) w 2 (aS es) tU/\∀b,v.ownBlock=some b->M b/\¬X.MI b
 f:RV Pr cD w (.ref fA) X.cF
 o:RV Pr cD w (.ref [.slice .view (ints out)]) X.cO
 e:RD (λb k=>b<X.bN/\(X.MI b\/Pr b k)) w (.slice .view (aS all)) X.De
def Au{MI:Nat->Prop}{bN:Nat}{Pr eC:Nat->Nat->Prop}{w w':World}(hm:∀b,MI b->w'.heap[b]?=w.heap[b]?)(hk:bc Pr eC w w'):bc (λb k=>b<bN/\(MI b\/Pr b k)) (λb k=>b<bN/\(MI b\/eC b k)) w w':={
 cell b k hp u hu:=by
  rcases hp.2 with h|h
  .exact⟨⟨hp.1,.inl h⟩,by rw[aes (w:=w) (hm b h)];exact hu⟩
  .obtain⟨h1,h2⟩:=hk.cell b k h u hu;exact⟨⟨hp.1,.inr h1⟩,h2⟩
 map b hp es c Kk:=by
  rcases hp.2 with h|h
  .exact⟨⟨hp.1,.inl h⟩,by rw[hm b h];exact Kk⟩
  .obtain⟨h1,h2⟩:=hk.map b h es c Kk
   exact⟨⟨hp.1,.inr h1⟩,h2⟩ }
def St.Vw{X:Fx C all out fA rows}{k:Nat}{M:Nat->Prop}{Pr:Nat->Nat->Prop}{es:List End}{w:World}(s:St X k M Pr es w):RV (λb k=>b<X.bN/\(X.MI b\/Pr b k)) cD w (.ref [.slice .view (aS all)]) X.cA:=by
 obtain⟨ty,h2⟩:=X.hA2;rw[X.N5];have hb:w.heap[X.bA]?=some (.cells #[X.De] ty (0,0)):=(s.mi _ X.Tz.1).2.2.trans h2;refine .data _ _ (.ref _ _ _ (λ_=>X.De) (λi hi=>?_) (λk hk=>⟨⟨X.Tz.2,.inl X.Tz.1⟩,?_⟩) (λk hk=>?_))
 .have:i=0:=by simpa using hi
  subst this;rfl
 .have:k=0:=by simpa using hk
  subst this;simp[World.cell?,hb]
 .have:k=0:=by simpa using hk
  subst this;exact s.e
structure Fr(X:Fx C all out fA rows)(n:Int)(a:Act):Prop where
 size:a.tmps.size=53
 defers:a.defers=[]
 t0:a.tmps.getD 0 undef=.int .i64 n
 t1:a.tmps.getD 1 undef=X.cA
 t2:a.tmps.getD 2 undef=X.cY
 t3:a.tmps.getD 3 undef=X.cO
 t4:a.tmps.getD 4 undef=.pointer (some ⟨X.bN,0,none⟩)
 t5:a.tmps.getD 5 undef=X.cF
 t6:a.tmps.getD 6 undef=X.cR
def iz(l:Nat)(all es:List End)(out:List Int)(fA:List AV)(fv:Value)(n:Int)(v9:AV):an:=λt=>match t with
 |0=>.int .i64 n
 |1=>.ref [.slice .view (aS all)]
 |2=>.ref [.val (.func (.yield l) #[] #[])]
 |3=>.ref [.slice .view (ints out)]
 |4=>.ref [.slice .view (aS es)]
 |5=>.ref fA
 |6=>.ref [.val fv]
 |9=>v9
 |_=>.bm
def Fx.fv(X:Fx C all out fA rows):Value:=.func (.func 189) #[] #[X.cA,X.cY,X.cO,.pointer (some ⟨X.bN,0,none⟩),X.cF,X.cR]
def St.fO {X:Fx C all out fA rows} {k:Nat} {M:Nat→Prop} {Pr:Nat→Nat→Prop} {es:List End} {w:World} (s:St X k M Pr es w) {n:Int} {a:Act} (fr:Fr X n a) {v9:AV} (h9:v9.aH=v9∧RV (fun _ _=>True) cD w v9 (a.tmps.getD 9 undef)) :
  ∀t,t<53->(iz l all es out fA X.fv n v9 t).aH=iz l all es out fA X.fv n v9 t/\RV (λ_ _=>True) cD w (iz l all es out fA X.fv n v9 t) (a.tmps.getD t undef):=by
 intro t ht
 have ZQ:∀{P':Nat->Nat->Prop},(∀b k,P' b k->X.MI b)->bc P' (λ_ _=>True) X.wI w:=λh=>bc.of_eq λb k hp=>⟨trivial,(s.mi b (h b k hp)).2.2⟩
 unfold iz;split
 .rw[fr.t0];exact⟨rfl,.data _ _ (.int _ _)⟩
 .rw[fr.t1];exact⟨rfl,s.Vw.mono (bc.same λ_ _ _ _=>trivial) λ_ _ h=>h⟩
 .rw[fr.t2];exact⟨rfl,X.hY.mono (ZQ λb k h=>h) λ_ _ h=>h⟩
 .rw[fr.t3];exact⟨rfl,s.o.mono (bc.same λ_ _ _ _=>trivial) λ_ _ h=>h⟩
 .rw[fr.t4];obtain⟨v,ty,tU,h1,h2,h3,h4,h5⟩:=s.now;refine⟨rfl,.data _ _ (.ref _ _ _ (λ_=>v) (λi hi=>?_) (λk hk=>⟨trivial,?_⟩) (λk hk=>?_))⟩
  .have:i=0:=by simpa using hi
   subst this;rfl
  .have:k=0:=by simpa using hk
   subst this;simp[World.cell?,h1]
  .have:k=0:=by simpa using hk
   subst this
   exact RD.ofRow (size:=2) (es:=aS es) (by simpa[aS]using h3) (h4.mono (bc.same λ_ _ _ h=>h.elim)) λ_ _ _ _=>trivial
 .rw[fr.t5];exact⟨rfl,s.f.mono (bc.same λ_ _ _ _=>trivial) λ_ _ h=>h⟩
 .rw[fr.t6];exact⟨rfl,X.hR.mono (ZQ λb k h=>h) λ_ _ h=>h⟩
 .exact h9
 .exact⟨rfl,.bm _⟩
def St.grow{X:Fx C all out fA rows}{k:Nat}{M:Nat->Prop}{Pr:Nat->Nat->Prop}{es:List End}{w w':World}(s:St X k M Pr es w)(hb:Below w.heap.size w w'):St X k M Pr es w':=by
 have hM:=s.lt
 have bj:∀b,M b->w'.heap[b]?=w.heap[b]?:=λb h=>hb.block b (hM b h)
 have hk:bc Pr Pr w w':=bc.iN (λb h=>hb.block b h) λ_ _ _ h=>h
 obtain⟨v,ty,tU,h1,h2,h3,h4,h5⟩:=s.now;refine⟨C.dS s.j (lh.tE hb) λb h=>⟨adq (hM b h) hb.size,.inl h⟩,λb h=>adq (hM b h) hb.size,λb h=>⟨(s.mi b h).1,(s.mi b h).2.1,(bj b (s.mi b h).1).trans (s.mi b h).2.2⟩,⟨v,ty,tU,(bj _ h2).trans h1,h2,?_,h4.mono (bc.of_eq λ_ _ h=>h.elim),h5⟩,s.f.mono hk λ_ _ h=>h,s.o.mono hk λ_ _ h=>h,s.e.mono (Au (λb h=>bj b (s.mi b h).1) hk)⟩;refine⟨h3.1,?_⟩
 rcases h3.2 with h|⟨gg,cap,cur,rfl,nC,CN,rest⟩
 .exact .inl h
 .exact .inr ⟨gg,cap,cur,rfl,nC,(bj gg (h5 gg rfl).1).trans CN,rest⟩
def _root_.Go.AL.af.qa:af->af
 |.seq x _=>x
 |.cond _ x _=>x
 |c=>c
def _root_.Go.AL.af.qb:af->af
 |.seq _ y=>y
 |.cond _ _ y=>y
 |.block _ c=>c
 |.loop c=>c
 |c=>c
def _root_.Go.AL.af.dl:af->List bB
 |.cq l|.ops l=>l
 |_=>[]
def Dp:Nat->Bool:=λt=>decide (36<=t)
def W7:Nat->Bool:=λt=>decide (7<=t)
noncomputable def uU:af:=af.qb c189.qb.qb.qa.qb.qb
def Fr.step{X:Fx C all out fA rows}{n:Int}{a a':Act}(fr:Fr X n a)(bg:a'.tmps.size=53)(ee:a'.defers=[])(h:dZ W7 a a'):Fr X n a':=
 ⟨bg,ee,(h 0 rfl).trans fr.t0,(h 1 rfl).trans fr.t1,(h 2 rfl).trans fr.t2,(h 3 rfl).trans fr.t3,(h 4 rfl).trans fr.t4,(h 5 rfl).trans fr.t5,(h 6 rfl).trans fr.t6⟩
def cH(args:Array Value)(k t:Nat)(h:t<args.size):(args++Array.replicate k undef).getD t undef=args[t]:=by
 simp[aeH,h]
def mw(l:List Int):aJ 1 (ints l)=true:=by
 simp[aJ,ints,AV.storable,AV.cells]
def sB(l:List End):aJ 2 (aS l)=true:=by
 simp[aJ,aS,a_,AV.storable,AV.cells]
def tK(es:List End):∀x∈aS es,x.cells.length=2/\x.storable=true/\∀c∈x.cells,c.one=true:=by
 intro x hx;obtain⟨e,_,rfl⟩:=acZ.1 hx;refine⟨rfl,rfl,λc hc=>?_⟩;simp[a_,AV.cells]at hc
 rcases hc with rfl|rfl<;>rfl
def Bm(es:List End):∀x∈aS es,∀c∈x.cells,gQ c=true:=by
 intro x hx c hc;obtain⟨e,_,rfl⟩:=acZ.1 hx;simp[a_,AV.cells]at hc
 rcases hc with rfl|rfl<;>rfl
def AJ{P:Program}{t:TypeId}{s:Nat}(h:(P.info? t).map (·.size)=some s):∃i,P.info? t=some i/\i.size=s:=by
 cases hi:P.info? t with
 |none=>rw[hi]at h;cases h
 |some i=>rw[hi]at h;exact⟨i,rfl,acX h⟩
def iZ(t:TypeId)(s:Nat)(h:(prog.info? t).map (·.size)=some s:=by kernel_rfl):∃i,prog.info? t=some i/\i.size=s:=AJ h
def qh {P:Program} {a:Act} {o:Oper} {cl:Call} {f x:Operand} {l:Nat} (w:World) (ho:o.op = .call cl) (hc:cl.callee = .value f) (ha:cl.args = #[x]) (hf:a.eval f = .func (.yield l) #[] #[]) :
  (execOp a.eval o).run P w=(Instr.yield l #[a.eval x]).run P w:=by
 unfold execOp;simp[ho,eP hc,hf,Deferred.ofValue,invoke,ha]
def rQ {P:Program} {a:Act} {o:Oper} {cl:Call} {f x:Operand} {k:Nat} {cap:Array Value} (w:World) (ho:o.op = .call cl) (hc:cl.callee = .value f) (ha:cl.args = #[x]) (hf:a.eval f = .func (.func k) #[] cap) (hk:ef P k=true) :
  (execOp a.eval o).run P w=.ok (.enter k (#[a.eval x]++cap)) w:=by
 unfold execOp;simp[ho,eP hc,hf,Deferred.ofValue,invoke,ha,fG hk]
def OO{P:Program}{a:Act}{o:Oper}{x:Operand}{t:TypeId}{b:Bool}(w:World)(ho:o.op=.unOp .not t x)(hx:a.eval x=.bool b):(execOp a.eval o).run P w=.ok (.value (.bool !b)) w:=by
 unfold execOp;simp[ho,hx,Op.unary]
def dZ.weaken{W W':Nat->Bool}{a a':Act}(h:dZ W a a')(hw:∀t,W' t=false->W t=false):dZ W' a a':=λt ht=>h t (hw t ht)
def af8{P:Program}{fn:Func}{tmps:Array Value}{t:Tmp}{v:Value}{w:World}(hr:fn.results=#[.tmp t])(h:tmps.getD t undef=v):(results fn tmps).run P w=.ok v w:=by
 rw[<-h];simp[results,hr]
def run_assign{P:Program}{a:Act}{o:Oper}{x:Operand}(w:World)(ho:o.op=.assign x):(execOp a.eval o).run P w=.ok (.value (a.eval x)) w:=by
 unfold execOp;simp only[ho]
 rfl
def St.after {X:Fx C all out fA rows} {k k':Nat} {M G:Nat→Prop} {Pr eC:Nat→Nat→Prop} {es:List End} {w w':World} (s:St X k M Pr es w) (hj:C.J k' (fun b=>(M b∨G b)∧¬ G b) eC w') (hG:∀ b,G b→¬ M b)
  (hs:∀b,M b\/G b->¬G b->w'.heap[b]?=w.heap[b]?) (hk:bc Pr eC w w'):St X k' (λb=>(M b\/G b)/\¬G b) eC es w':=by
 have KX:∀b,M b->¬G b:=λb hb hg=>hG b hg hb
 have bj:∀b,M b->w'.heap[b]?=w.heap[b]?:=λb hb=>hs b (.inl hb) (KX b hb)
 obtain⟨v,ty,tU,h1,h2,h3,h4,h5⟩:=s.now;refine⟨hj,λb hb=>?_,λb h=>⟨⟨.inl (s.mi b h).1,KX b (s.mi b h).1⟩,(s.mi b h).2.1,(bj b (s.mi b h).1).trans (s.mi b h).2.2⟩,⟨v,ty,tU,(bj _ h2).trans h1,⟨.inl h2,KX _ h2⟩,?_,h4.mono (bc.of_eq λ_ _ h=>h.elim),λb hb=>⟨⟨.inl (h5 b hb).1,KX b (h5 b hb).1⟩,(h5 b hb).2⟩⟩,s.f.mono hk λ_ _ h=>h,s.o.mono hk λ_ _ h=>h,s.e.mono (Au (λb h=>bj b (s.mi b h).1) hk)⟩
 .have tq:M b:=hb.1.resolve_right hb.2;have:=s.lt b tq;have h2:=bj b tq;rw[acP this]at h2;exact(acz.1 h2).1
 .refine⟨h3.1,?_⟩
  rcases h3.2 with h|⟨gg,cap,cur,rfl,nC,CN,rest⟩
  .exact .inl h
  .exact .inr ⟨gg,cap,cur,rfl,nC,(bj gg (h5 gg rfl).1).trans CN,rest⟩
def CQ {P:Program} {ρ:Operand→Value} {o:Oper} {t:TypeId} {ps:Array (Nat×Operand)} (ho:o.op = .build t ps) (w:World) (N:Value→Prop)
  (h:∀v w',(execOp ρ o).run P w=.ok (.value v) w'->N v):match(execOp ρ o).run P w with|.ok (.value v) _=>N v|.ok _ _=>False|.halt _ _=>True:=by
 have key:∀r,(execOp ρ o).run P w=r->match r with|.ok (.value v) _=>N v|.ok _ _=>False|.halt _ _=>True:=by
  intro r hr;have h0:=hr;unfold execOp at hr;simp only[ho,acK]at hr
  cases hb:(Instr.build t (ps.map λ(i,x)=>(i,ρ x))).run P w with
  |ok v w'=>
   rw[hb]at hr
   have:r=.ok (.value v) w':=by rw[<-hr];rfl
   subst this;exact h v w' h0
  |halt x w'=>
   rw[hb]at hr
   have:r=.halt x w':=by rw[<-hr];rfl
   subst this;trivial
 exact key _ rfl
def ux{c:Value}(h:c.oneCell'=true):c.cells=#[c]:=by cases c<;>first|rfl|cases h
def RY{u v:Value}(hu:u.oneCell'=true)(hv:v.oneCell'=true):prog.built 39 [(0,u),(1,v)]=some #[u,v]:=by
 have e:∀u v:Value,prog.built 39 [(0,u),(1,v)]=Instr.fill (λx=>#[(0,1),(1,1)][x]?) #[.slice none 0 0,.slice none 0 0] [(0,u),(1,v)]:=by intro u v;kernel_rfl
 rw[e];simp[Instr.fill,ux hu,ux hv]
def Ud(es:List End)(m:Nat):lp es [] m=[]:=rfl
def JA(es r:List End)(x:End)(m:Nat):lp es (x::r) m=ch (es++[x]) r m++lp es r m:=by
 cases m<;>rfl
def TD(es:List End)(m:Nat):ch es [] m=[es]:=by simp[ch]
def Py (hG:aw GI) (X:Fx C all out fA rows) (e_:all.length≤1000) (To:rows≤1000) (ko:out.length≤1000) :
  ∀(d n:Nat)(es:List End)(k:Nat)(M:Nat->Prop)(Pr:Nat->Nat->Prop)(w:World)(tail:List AV),n+d=all.length->es.length<=n->St X k M Pr es w->
   xs.drop k=(ch es (all.drop n) (rows-es.length)).map (aL out)++tail->
   Calls prog 189 #[.int .i64 n,X.cA,X.cY,X.cO,.pointer (some ⟨X.bN,0,none⟩),X.cF,X.cR] w λe w'=>∃M' eC,
    (e=.returned (.bool true)/\St X (k+(ch es (all.drop n) (rows-es.length)).length) M' eC es w')\/(e=.returned (.bool false)/\C.X M' eC w'):=by
 intro d
 induction d using Nat.strongRecOn with
 |_ d ih=>
 intro n es k M Pr w tail dF mb st pq;refine(ig (ro:=none) (m:=0)).1 (afO func189 rfl trivial ?_)
 have fr:Fr X n { tmps:=#[.int .i64 n,X.cA,X.cY,X.cO,.pointer (some ⟨X.bN,0,none⟩),X.cF,X.cR]++Array.replicate (f189.ntmps-7) undef,defers:=[] }:=by
  refine⟨by simp[ntmps189],rfl,cH _ _ 0 (by simp),cH _ _ 1 (by simp),cH _ _ 2 (by simp),cH _ _ 3 (by simp),cH _ _ 4 (by simp),cH _ _ 5 (by simp),cH _ _ 6 (by simp)⟩
 generalize hc:(λe w'=>∃M' eC,(e=Ending.returned (.bool true)/\St X (k+(ch es (all.drop n) (rows-es.length)).length) M' eC es w')\/(e=.returned (.bool false)/\C.X M' eC w'))=R
 have h9:∀(a:Act)(w:World),(AV.bm).aH=AV.bm/\RV (λ_ _=>True) cD w AV.bm (a.tmps.getD 9 undef):=λa w=>⟨rfl,.bm _⟩
 refine acO ?_;refine cm hG dO (ac:=af.qa c189) (W:=W7) (by kernel_rfl) (by kernel_rfl) (by kernel_rfl) (C.gi st.j) (λ_ _=>True) (iz l all es out fA X.fv n .bm) fr.size fr.defers (st.fO fr (h9 _ _)) (K:=λ_ _=>True) ?_ ?_
 .simp[c189,af.qa,bL,bw,aG,bh,aD,aO]
 intro g S' H' a w1 hg R1 _ bj;have fr:=fr.step R1.size (by rw[R1.defers,hg];rfl) bj;have st:=st.grow (by have:=R1.below;rwa [R1.base]at this);clear bj R1 hg g S' H';show Code.wpIn _ _ _ _ _ a w1;refine acO (acO ?_);refine cm hG dO (ac:=af.qa c189.qb.qa) (W:=W7) (by kernel_rfl) (by kernel_rfl) (by kernel_rfl) (C.gi st.j) (λ_ _=>True) (iz l all es out fA X.fv n .bm) fr.size fr.defers (st.fO fr (h9 _ _)) (K:=λS' _=>∃b,S' 13=.bool b/\(b=true↔n=all.length)) ?_ ?_
 .simp[c189,af.qa,af.qb,bL,bw,aG,bh,aD,aO,aQ.S,aQ.H,ev,au,aY,iz,b0,AV.aH,eF,aS];omega
 rintro g S' H' a w2 hg R1 ⟨b,hb,Zn⟩ bj;have fr:=fr.step R1.size (by rw[R1.defers,hg];rfl) bj;have st:=st.grow (by have:=R1.below;rwa [R1.base]at this);have ht:=R1.slot 13 (by decide) (λh=>h);rw[hb]at ht;have tc:=ht.fq;clear ht bj;show Code.wpIn _ _ _ _ _ a w2;refine adu (t:=b) tc ?_
 cases b with
 |true=>
  have hn:n=all.length:=Zn.1 rfl
  have PI:ch es (all.drop n) (rows-es.length)=[es]:=by rw[hn,afy];exact TD _ _
  rw[PI]at pq hc;simp only[ac3];refine acO ?_
  refine OP hG dO (n:=53) (p:=6) (j:=5) (d:=19) (T:=[16,18]) (W:=W7) (l:=(c189.qb.qa.qb.qa.qa.dl).take 6) (by kernel_rfl) (by kernel_rfl) (by kernel_rfl) (by kernel_rfl) (by kernel_rfl) (by kernel_rfl) (C.gi st.j) (λ_ _=>True) (iz l all es out fA X.fv n .bm) (oj:=⟨some 19,.build 39 #[(0,.tmp 16),(1,.tmp 18)],39, "name.go:18",#[⟨2,.data⟩,⟨4,.data⟩],none⟩) ?_ rfl rfl
   (λa=>(a.tmps.getD 16 undef).oneCell'=true->(a.tmps.getD 18 undef).oneCell'=true->a.tmps.getD 19 undef=.agg #[a.tmps.getD 16 undef,a.tmps.getD 18 undef]) ?_ ?_ (by kernel_rfl) (by kernel_rfl) fr.size fr.defers (st.fO fr (h9 _ _)) (K:=λS' _=>S' 14=.val (.func (.yield l) #[] #[])/\S' 16=.slice (if(ints out).isEmpty then .nil else .own 3) (ints out)/\S' 18=.slice (if(aS es).isEmpty then .nil else .own 46) (aS es)/\
    ∃o1 o2,S' 19=.agg [.slice o1 (ints out),.slice o2 (aS es)]) ?_ ?_
  .rfl
  .intro a a' h1 h2 hN g16 g18;rw[h2 16 (by simp)]at g16⊢;rw[h2 18 (by simp)]at g18⊢;rw[h1];exact hN g16 g18
  .intro a w bg;refine CQ rfl w _ ?_;intro v w' hr
   have Dx:(a.put (some 19) v).tmps.getD 16 undef=a.tmps.getD 16 undef:=by simp[Act.put,acB]
   have e18:(a.put (some 19) v).tmps.getD 18 undef=a.tmps.getD 18 undef:=by simp[Act.put,acB]
   have e19:(a.put (some 19) v).tmps.getD 19 undef=v:=by simp[Act.put,bg]
   show(((a.put (some 19) v).tmps.getD 16 undef).oneCell'=true->_->(a.put (some 19) v).tmps.getD 19 undef=_);rw[Dx,e18,e19];intro g16 g18;have hb:=agr (P:=prog) w 39 #[(0,a.tmps.getD 16 undef),(1,a.tmps.getD 18 undef)] _ (RY g16 g18);unfold execOp at hr;simp only[acK,Act.eval,ado,ac5,adp]at hr;rw[hb]at hr;simp only[Result.andThen_ok,Sem.run_pure]at hr;cases hr
   rfl
  .simp[c189,af.qa,af.qb,af.dl,eo,dG,bt,cq,aG,jf,aD,bh,aQ.S,aQ.H,ev,au,aY,iz,b0,AV.aH,AV.vw,AV.cells,AV.storable,AV.cT,fz,gM,kC,j0,bV,bu];refine⟨rfl,by kernel_rfl,_,SP hG _ (mw out) (by rw[cy];omega),by simp[da],?_⟩;refine⟨rfl,by kernel_rfl,_,WD hG _ (sB es) (by simp[aS];omega),by simp[da],?_⟩
   by_cases ho:ints out=[]<;>by_cases he:aS es=[]<;>simp[ho,he,au]
  .intro g' S' H' a w3 hg R3 ⟨hy,tY,h18,o1,o2,I1⟩ bj hN
   have kd:Below w2.heap.size w2 w3:=by have:=R3.below;rwa [R3.base]at this
   have fr:=fr.step R3.size (by rw[R3.defers,hg];rfl) bj;have TK:=st.grow kd
   have TE:=(R3.slot 14 (by decide) (λh=>h))
   rw[hy]at TE;have TE:=TE.fY;obtain⟨i3,pZ,mD⟩:=iZ 3 1;obtain⟨i116,GF,pW⟩:=iZ 46 2;have P3:=R3.zz (t:=16) (by decide) (e:=3) pZ (es:=ints out) tY (λx hx=>by obtain⟨k,_,rfl⟩:=acZ.1 hx;exact⟨mD.symm,rfl,λc hc=>by simp[AV.cells]at hc;subst hc;rfl⟩) (λx hx c hc=>by obtain⟨k,_,rfl⟩:=acZ.1 hx;simp[AV.cells]at hc;subst hc;rfl);have RX:=R3.zz (t:=18) (by decide) (e:=46) GF (es:=aS es) h18 (by rw[pW];exact tK es) (Bm es);rw[R3.base]at P3 RX
   let G:Nat->Prop:=λb=>w2.heap.size<=b/\b<w3.heap.size
   have hj:C.J k (λb=>M b\/G b) Pr w3:=C.dS st.j (lh.tE kd) λb hb=>by
    rcases hb with hb|hb
    .exact⟨TK.lt b hb,.inl hb⟩
    .exact⟨hb.2,.inr hb.1⟩
   have Jm:k<xs.length:=by
    have:=congrArg List.length pq;simp at this;omega
   have Fp:xs[k]=aL out es:=by
    have:=congrArg (·[0]?) pq;simp at this;rw[acx Jm]at this;exact acX this
   have lj:∀{u:Value}{es:List AV}{p:Nat->Nat->Prop},RD p w3 (.slice .view es) u->u.oneCell'=true:=λh=>h.one rfl
   have I1:=hN (lj P3) (lj RX)
   have hx:RD (λb j=>Pr b j\/(G b/\j<g'.hi b)) w3 xs[k] (a.tmps.getD 19 undef):=by
    rw[Fp,I1];refine .agg _ _ rfl (λi hi=>?_) (λi hi cQ=>?_)
    .match i,hi with
     |0,_=>rfl
     |1,_=>rfl
    .match i,hi with
     |0,_=>exact P3.mono (bc.same λb j _ h=>.inr h)
     |1,_=>exact RX.mono (bc.same λb j _ h=>.inr h)
   obtain⟨ff,tmps,UB,bd,F3,vJ⟩:=C.round Jm G g'.hi _ hj (λb hb=>.inr hb) hx;show wpOpsIn _ _ _ _ _ [6,7] a w3;refine Ih rfl rfl (by rfl) ?_ vJ ?_
   .exact(qh (f:=.tmp 14) (x:=.tmp 19) w3 rfl rfl rfl TE).trans F3
   .rintro e w4 ⟨O4,eC,FN,pO⟩
    have fx:∀{k'},C.J k' (λb=>(M b\/G b)/\¬G b) eC w4->St X k' (λb=>(M b\/G b)/\¬G b) eC es w4:=λhj=>TK.after hj (λb hg hm=>by have:=st.lt b hm;have:=hg.1;omega) O4 FN
    obtain⟨b,rfl,hR⟩:∃b:Bool,e=.returned (.bool b)/\R (.returned (.bool b)) w4:=by
     rcases pO with⟨rfl,dH⟩|⟨rfl,Fz⟩
     .exact⟨true,rfl,by rw[<-hc];exact⟨_,_,.inl ⟨rfl,fx dH⟩⟩⟩
     .exact⟨false,rfl,by rw[<-hc];exact⟨_,_,.inr ⟨rfl,Fz⟩⟩⟩
    refine⟨_,rfl,?_⟩
    have I9:(a.put (some 20) (.bool b)).tmps.getD 20 undef=.bool b:=by simp[Act.put,fr.size]
    refine aV rfl rfl (by rfl) (v:=.bool b) (w':=w4) ((run_assign (x:=.tmp 20) w4 rfl).trans (congrArg (λv=>Result.ok (Next.value v) w4) I9)) ?_;show Code.wpIn _ _ _ _ _ _ _;refine aeJ ⟨fr.defers,.bool b,?_,hR⟩
    have h8:((a.put (some 20) (.bool b)).put (some 8) (.bool b)).tmps.getD 8 undef=.bool b:=by simp[Act.put,fr.size]
    show(results f189 ((a.put (some 20) (.bool b)).put (some 8) (.bool b)).tmps).run prog w4=_;exact af8 results189 h8
 |false=>
  have hn:n<all.length:=by
   have:¬n=all.length:=λh=>by have:=Zn.2 h;cases this
   omega
  simp only[acI,acW];refine ad5 ?_;show Code.wpIn _ _ _ _ _ a w2;refine acO (acO ?_);refine cm hG dO (ac:=af.qa c189.qb.qb.qa) (W:=W7) (by kernel_rfl) (by kernel_rfl) (by kernel_rfl) (C.gi st.j) (λ_ _=>True) (iz l all es out fA X.fv n .bm) fr.size fr.defers (st.fO fr (h9 _ _)) (K:=λS' _=>S' 9=.int .i64 n) ?_ ?_
  .simp[c189,af.qa,af.qb,bL,bw,aG,bh,aD,aO,aQ.S,aQ.H,ev,au,aY,iz,b0,AV.aH,eF,aS]
  rintro g S' H' a w3 hg R1 ZS bj;have fr:=fr.step R1.size (by rw[R1.defers,hg];rfl) bj;have st:=st.grow (by have:=R1.below;rwa [R1.base]at this);have Li:=R1.slot 9 (by decide) (λh=>h);rw[ZS]at Li;have Vo:=Li.int_eq;clear Li bj;show Code.wpIn _ _ _ _ _ a w3
  obtain⟨rem,Qa⟩:∃rem:Nat->List (List End),rem=λi=>if es.length<rows then lp es (all.drop i) (rows-es.length-1)else[]:=⟨_,rfl⟩
  have PI:ch es (all.drop n) (rows-es.length)=rem n:=by
   have bP:all.drop n≠[]:=by intro h;have:=congrArg List.length h;simp at this;omega
   rw[Qa];unfold ch;rw[if_neg bP]
   by_cases av:es.length<rows
   .simp only[if_pos av]
    obtain⟨m,hm⟩:∃m,rows-es.length=m+1:=⟨rows-es.length-1,by omega⟩
    rw[hm];rfl
   .simp only[if_neg av]
    have:rows-es.length=0:=by omega
    rw[this]
  rw[PI]at pq hc
  refine ad1 (af5 (λa w=>∃i k' M' eC,Fr X n a/\a.tmps.getD 9 undef=.int .i64 (i:Nat)/\n<=i/\i<=all.length/\St X k' M' eC es w/\xs.drop k'=(rem i).map (aL out)++tail/\k'+(rem i).length=k+(rem n).length)
   (λa _=>match a.tmps.getD 9 undef with|.int _ i=>all.length-i.toNat|_=>0) ⟨n,k,M,Pr,fr,Vo,acD _,by omega,st,pq,rfl⟩ ?_)
  clear ZS Vo R1 hg pq st fr;rintro a w ⟨i,k',M,Pr,fr,h9i,BY,cN,st,pq,uh⟩
  have h9':(AV.int .i64 (i:Int)).aH=.int .i64 (i:Int)/\RV (λ_ _=>True) cD w (.int .i64 (i:Int)) (a.tmps.getD 9 undef):=⟨rfl,by rw[h9i];exact .data _ _ (.int _ _)⟩
  refine acO (acO ?_);refine cm hG dO (ac:=af.qa c189.qb.qb.qa.qb.qb.qb.qa) (W:=W7) (by kernel_rfl) (by kernel_rfl) (by kernel_rfl) (C.gi st.j) (λ_ _=>True) (iz l all es out fA X.fv n (.int .i64 (i:Int))) fr.size fr.defers (st.fO fr h9') (K:=λS' _=>S' 9=.int .i64 i/\∃b,S' 33=.bool b/\(b=true↔i<all.length/\es.length<rows)) ?_ ?_
  .by_cases av:i<all.length
   .have jG:(i:Int)<all.length:=by omega
    simp[c189,af.qa,af.qb,bL,bw,aG,bh,aD,aO,aQ.S,aQ.H,ev,au,aY,iz,b0,AV.aH,eF,aS,av,X.f9,bO];omega
   .have jG:¬(i:Int)<all.length:=by omega
    simp[c189,af.qa,af.qb,bL,bw,aG,bh,aD,aO,aQ.S,aQ.H,ev,au,aY,iz,b0,AV.aH,eF,aS,av,X.f9,bO]
  rintro g S' H' a' w' hg R1 ⟨Oq,b,hb,hbi⟩ bj;have Js:=fr.step R1.size (by rw[R1.defers,hg];rfl) bj;have qL:=st.grow (by have:=R1.below;rwa [R1.base]at this);have Li:=R1.slot 9 (by decide) (λh=>h);rw[Oq]at Li;have VA:=Li.int_eq;have Qd:=R1.slot 33 (by decide) (λh=>h);rw[hb]at Qd;have PS:=Qd.fq;show Code.wpIn _ _ _ _ _ a' w';refine adu (t:=b) PS ?_
  cases b with
  |false=>
   simp only[acI,acW];refine aeY ?_
   have gX:¬(i<all.length/\es.length<rows):=λh=>by have:=hbi.2 h;cases this
   have WS:rem i=[]:=by
    rw[Qa]
    by_cases av:es.length<rows
    .have:i=all.length:=by
      rcases adK i all.length with h|h
      .exact absurd ⟨h,av⟩ gX
      .omega
     simp only[if_pos av,this,afy]
     rfl
    .simp only[if_neg av]
   rw[WS]at uh;simp only[Exit.then,Exit.inBlock,ac3];refine acO ?_;refine ac6 ?_;show wpOpsIn _ _ _ _ _ [0] a' w';refine aV rfl rfl (by rfl) (v:=.bool true) (w':=w') (run_assign (x:=.const (.bool true)) w' rfl) ?_;show Code.wpIn _ _ _ _ _ _ _;refine aeJ ⟨Js.defers,.bool true,?_,?_⟩
   .have h8:(a'.put (some 8) (.bool true)).tmps.getD 8 undef=.bool true:=by simp[Act.put,Js.size]
    show(results f189 (a'.put (some 8) (.bool true)).tmps).run prog w'=_;exact af8 results189 h8
   .rw[<-hc];refine⟨M,Pr,.inl ⟨rfl,?_⟩⟩;rw[<-uh];exact qL
  |true=>
   obtain⟨av,hrw⟩:=hbi.1 rfl;simp only[ac3];refine ad5 ?_;show Code.wpIn _ _ _ _ _ a' w';clear Qd PS Li hb Oq R1 hg bj;refine acO (ad1 (acO ?_));obtain⟨v,ty,tU,hN,hMN,cI,xj,YS⟩:=qL.now;obtain⟨i116,GF,pW⟩:=iZ 46 2
   have Yz:(aS es).length=es.length:=by simp[aS]
   refine ue dO (n:=53) (ac:=af.qa uU.qb.qa.qb) (by kernel_rfl) (by kernel_rfl) (by kernel_rfl) (W:=Dp) (by kernel_rfl) (λb k=>X.MI b\/Pr b k)
    (λt=>match t with|1=>.ref [.slice .view (aS all)]|4=>.box 4 0|9=>.int .i64 (i:Int)|_=>.bm) (nm:=4) (tp:=4) (es:=aS es) (es':=aS (es++[all[i]])) (by decide) rfl Js.t4 Js.size Js.defers hN GF (by rw[pW,Yz];exact cI) (by rw[pW];exact xj.mono (bc.same λ_ _ _ h=>h.elim)) ?_ ?_ (by rw[pW];exact tK _) (Bm _) ?_
   .intro t ht;split
    .exact⟨rfl,.inr (by rw[Js.t1];exact qL.Vw)⟩
    .exact⟨rfl,.inl ⟨rfl,Js.t4⟩⟩
    .exact⟨rfl,.inr (by rw[VA];exact .data _ _ (.int _ _))⟩
    .exact⟨rfl,.inr (.bm _)⟩
   .have bP:¬(i:Int)<0:=by omega
    have uW:es.length+1<1048576:=by omega
    cases BJ:v.ownBlock with
    |none=>
     have he:es=[]:=by
      rcases cI.2 with⟨_,h⟩|⟨gg,cap,cur,rfl,_⟩
      .exact adb h
      .cases BJ
     subst he;simp[c189,uU,af.qa,af.qb,bL,eo,dG,bt,cq,aG,jf,aD,bh,aQ.S,aQ.H,ev,au,aY,b0,AV.aH,AV.vw,AV.cells,AV.storable,AV.cT,aO,me,BJ,HR.okB,bG,aS,a_,av,aJ,bu,AV.bZ,bP]
    |some bv=>
     simp[c189,uU,af.qa,af.qb,bL,eo,dG,bt,cq,aG,jf,aD,bh,aQ.S,aQ.H,ev,au,aY,b0,AV.aH,AV.vw,AV.cells,AV.storable,AV.cT,aO,me,BJ,HR.okB,bG,aS,a_,av,aJ,bu,AV.bZ,bP,uW]
   .intro a2 w2 v' Aj xs2 zq Rf jX hN2 Gl PF iF NA;have UD:=Js.step zq Rf (dZ.weaken jX λt ht=>by simp[W7]at ht;simp[Dp];omega);have ER:a2.tmps.getD 9 undef=.int .i64 (i:Int):=(jX 9 rfl).trans VA
    have Ub:∀b,(b=X.bN\/v.ownBlock=some b)->M b/\¬X.MI b:=by
     rintro b (rfl|hb)
     .exact⟨hMN,λh=>(qL.mi _ h).2.1 rfl⟩
     .exact YS b hb
    have jD:bc Pr Pr w' w2:=bc.oF λb k av hp=>iF.block b av λhm=>C.apart qL.j b k (Ub b hm).1 hp
    have Ry:∀b,X.MI b->w2.heap[b]?=w'.heap[b]?:=λb h=>iF.block b (qL.lt b (qL.mi b h).1) λhm=>(Ub b hm).2 h
    have abq:(aS (es++[all[i]])).length=(es++[all[i]]).length:=by simp[aS]
    have XL:St X k' (λb=>M b\/(w'.heap.size<=b/\b<w2.heap.size)) Pr (es++[all[i]]) w2:=by
     refine⟨C.dS qL.j (M':=λb=>M b\/(w'.heap.size<=b/\b<w2.heap.size)) ⟨iF.os,iF.tape,iF.output,iF.size,λb hb hm=>iF.block b hb λh=>hm (Ub b h).1⟩ λb hb=>?_,λb hb=>?_,λb h=>⟨.inl (qL.mi b h).1,(qL.mi b h).2.1,(Ry b h).trans (qL.mi b h).2.2⟩,⟨v',Aj,xs2,hN2,.inl hMN,?_,?_,λb hb=>?_⟩,qL.f.mono jD λ_ _ h=>h,qL.o.mono jD λ_ _ h=>h,qL.e.mono (Au Ry jD)⟩
     .rcases hb with hb|hb
      .exact⟨adq (qL.lt b hb) iF.size,.inl hb⟩
      .exact⟨hb.2,.inr hb.1⟩
     .rcases hb with hb|hb
      .exact adq (qL.lt b hb) iF.size
      .exact hb.2
     .rw[pW,abq]at Gl;exact Gl
     .rw[pW]at PF;exact PF
     .rcases NA b hb with h|h
      .exact⟨.inl (YS b h).1,(YS b h).2⟩
      .refine⟨.inr ⟨h,(Gl.lt b hb).2⟩,λhm=>?_⟩;have:=qL.lt b (qL.mi b hm).1;omega
    clear Ub jD Ry NA Gl PF hN2 iF;show Code.wpIn _ _ _ _ _ a2 w2
    have aa9:(AV.int .i64 (i:Int)).aH=.int .i64 (i:Int)/\RV (λ_ _=>True) cD w2 (.int .i64 (i:Int)) (a2.tmps.getD 9 undef):=⟨rfl,by rw[ER];exact .data _ _ (.int _ _)⟩
    refine acO (acO ?_);refine kN hG (p:=3) (l2:=[3,4]) rfl (by kernel_rfl) (by kernel_rfl) (l:=(uU.qb.qa.qb.qb.qa.qa.dl).take 3) (by kernel_rfl) (by decide) (W:=Dp) (by kernel_rfl) (C.gi XL.j) (λ_ _=>True) (iz l all (es++[all[i]]) out fA X.fv n (.int .i64 (i:Int))) UD.size UD.defers (XL.fO UD aa9) (K:=λS' _=>S' 43=.val X.fv/\S' 45=.int .i64 ((i+1:Nat):Int)) ?_ ?_
    .have qM:IntKind.i64.wrap ((i:Int)+1)=i+1:=aP (by omega);simp[c189,uU,af.qa,af.qb,af.dl,bw,aG,bh,aD,aQ.S,aQ.H,ev,au,aY,iz,b0,AV.aH,eF,qM]
    rintro g S' H' a3 w3 hg R1 ⟨YG,P0⟩ F2;have Sn:=UD.step R1.size (by rw[R1.defers,hg];rfl) (dZ.weaken F2 λt ht=>by simp[W7]at ht;simp[Dp];omega);have TK:=XL.grow (by have:=R1.below;rwa [R1.base]at this);have h93:a3.tmps.getD 9 undef=.int .i64 (i:Int):=(F2 9 rfl).trans ER;have A7:=R1.slot 43 (by decide) (λh=>h);rw[YG]at A7;have A7:=A7.fY;have TJ:=R1.slot 45 (by decide) (λh=>h);rw[P0]at TJ;have TJ:=TJ.int_eq;clear R1 hg F2;have XK:all.drop i=all[i]::all.drop (i+1):=ad7 av
    have WS:rem i=ch (es++[all[i]]) (all.drop (i+1)) (rows-(es++[all[i]]).length)++rem (i+1):=by
     rw[Qa];simp only[if_pos hrw,XK,JA]
     congr 2
     simp;omega
    rw[WS]at pq uh;rw[ada,adI]at pq;have d_:=ih (all.length-(i+1)) (by omega) (i+1) (es++[all[i]]) k' _ Pr w3 _ (by omega) (by simp;omega) TK pq;refine gE rfl rfl (by rfl) (rQ (f:=.tmp 43) (x:=.tmp 45) w3 rfl rfl rfl A7 (by kernel_rfl)) (R:=λe w'=>∃M' eC,(e=.returned (.bool true)/\St X (k'+(ch (es++[all[i]]) (all.drop (i+1)) (rows-(es++[all[i]]).length)).length) M' eC (es++[all[i]]) w')\/(e=.returned (.bool false)/\C.X M' eC w')) ?_ ?_
    .have : #[a3.eval (.tmp 45)] ++ #[X.cA,X.cY,X.cO,.pointer (some ⟨X.bN,0,none⟩),X.cF,X.cR] = #[.int .i64 ((i+1:Nat):Int),X.cA,X.cY,X.cO,.pointer (some ⟨X.bN,0,none⟩),X.cF,X.cR]:=by
      show #[a3.tmps.getD 45 undef]++_=_;rw[TJ];rfl
     rw[this];exact d_
    rintro e w4 ⟨M4,KR,pO⟩
    obtain⟨b,rfl⟩:∃b:Bool,e=.returned (.bool b):=by rcases pO with⟨rfl,_⟩|⟨rfl,_⟩<;>exact⟨_,rfl⟩
    refine⟨_,rfl,?_⟩
    have h46:(a3.put (some 46) (.bool b)).tmps.getD 46 undef=.bool b:=by simp[Act.put,Sn.size]
    refine aV rfl rfl (by rfl) (v:=.bool !b) (w':=w4) (OO (x:=.tmp 46) w4 rfl h46) ?_;show Code.wpIn _ _ _ _ _ ((a3.put (some 46) (.bool b)).put (some 47) (.bool !b)) w4
    obtain⟨a4,lx⟩:∃a4,(a3.put (some 46) (.bool b)).put (some 47) (.bool !b)=a4:=⟨_,rfl⟩
    rw[lx]
    have eY:∀(a:Act)(d t:Nat)(c:Value),t≠d->(a.put (some d) c).tmps.getD t undef=a.tmps.getD t undef:=λa d t c h=>by
     simp[Act.put,acB (adi h)]
    have O4:dZ Dp a3 a4:=λt ht=>by
     have:t<36:=by simp[Dp]at ht;omega
     rw[<-lx,eY _ _ _ _ (by omega),eY _ _ _ _ (by omega)]
    have Cr:a4.tmps.size=53:=by rw[<-lx];simp[Act.put,Sn.size]
    have Zr:a4.defers=[]:=by rw[<-lx];exact Sn.defers
    have NL:=Sn.step Cr Zr (dZ.weaken O4 λt ht=>by simp[W7]at ht;simp[Dp];omega);have h94:a4.tmps.getD 9 undef=.int .i64 (i:Int):=(O4 9 rfl).trans h93
    have h47:a4.tmps.getD 47 undef=.bool !b:=by rw[<-lx];simp[Act.put,Sn.size]
    refine adu (t:=!b) h47 ?_
    cases b with
    |false=>
     have hX:C.X M4 KR w4:=by
      rcases pO with⟨h,_⟩|⟨_,h⟩
      .cases h
      .exact h
     simp only[afK,ac3];refine acO ?_;refine ac6 ?_;show wpOpsIn _ _ _ _ _ [0] a4 w4;refine aV rfl rfl (by rfl) (v:=.bool false) (w':=w4) (run_assign (x:=.const (.bool false)) w4 rfl) ?_;show Code.wpIn _ _ _ _ _ _ _;refine aeJ ⟨NL.defers,.bool false,?_,?_⟩
     .have h8:(a4.put (some 8) (.bool false)).tmps.getD 8 undef=.bool false:=by simp[Act.put,NL.size]
      show(results f189 (a4.put (some 8) (.bool false)).tmps).run prog w4=_;exact af8 results189 h8
     .rw[<-hc];exact⟨M4,KR,.inr ⟨rfl,hX⟩⟩
    |true=>
     have xJ:St X (k'+(ch (es++[all[i]]) (all.drop (i+1)) (rows-(es++[all[i]]).length)).length) M4 KR (es++[all[i]]) w4:=by
      rcases pO with⟨_,h⟩|⟨h,_⟩
      .exact h
      .cases h
     simp only[Bool.not_true,acI,acW];refine ad5 ?_;show Code.wpIn _ _ _ _ _ a4 w4;obtain⟨v4,Xa,UY,ZY,Sb,QU,Z',aap⟩:=xJ.now
     have W8:UY.length=(es.length+1)*2:=by have:=QU.1;simpa using this
     obtain⟨i29,abX,ZI⟩:=iZ 37 1;refine ac6 ?_;show wpOpsIn _ _ _ _ _ [0,1,2,3,4,5] a4 w4
     refine JT (P:=prog) (n:=53) (T:=37) (el:=46) (p:=4) (t1:=48) (t2:=49) (t3:=50) (t4:=51) (t5:=52) (bN:=X.bN) (i:=i116) (iT:=i29) (v:=v4) (ty:=Xa) (k:=es.length) (xs:=UY.take (es.length*2)) (last:=UY.drop (es.length*2))
      rfl rfl rfl rfl rfl rfl ⟨rfl,rfl,rfl⟩ ⟨rfl,rfl,rfl⟩ ⟨rfl,rfl,rfl⟩ ⟨rfl,rfl,rfl⟩ ⟨rfl,rfl,rfl⟩ ⟨rfl,rfl,rfl⟩ rfl rfl rfl (by kernel_rfl) abX ZI GF (by decide) NL.size (by decide) NL.t4 ZY (by rw[aem,pW];simpa using QU) (by rw[pW,adf,W8];omega) (by omega) ?_
     intro a5 v5 Ey aat hs5 TB aaz Gm
     have CN:∀b,v5.ownBlock=some b->M4 b/\¬X.MI b:=λb hb=>aap b (by rw[<-TB];exact hb)
     have ll:∀b,b≠X.bN->(w4.setRow X.bN #[v5]).heap[b]?=w4.heap[b]?:=λb hb=>adL w4 X.bN b #[v5] hb
     have Fs:(w4.setRow X.bN #[v5]).heap.size=w4.heap.size:=by simp
     have TY:bc KR KR w4 (w4.setRow X.bN #[v5]):=bc.oF λb k _ hp=>ll b (by rintro rfl;exact C.apart xJ.j _ k Sb hp)
     have I8:St X (k'+(ch (es++[all[i]]) (all.drop (i+1)) (rows-(es++[all[i]]).length)).length) M4 KR es (w4.setRow X.bN #[v5]):=by
      refine⟨C.dS xJ.j ⟨rfl,rfl,rfl,by rw[Fs];exact acD _,λb _ hm=>ll b (by rintro rfl;exact hm Sb)⟩ λb hb=>⟨by rw[Fs];exact xJ.lt b hb,.inl hb⟩,λb hb=>by rw[Fs];exact xJ.lt b hb,λb h=>⟨(xJ.mi b h).1,(xJ.mi b h).2.1,(ll b (xJ.mi b h).2.1).trans (xJ.mi b h).2.2⟩,
       ⟨v5,Xa,UY.take (es.length*2),aer w4 X.bN _ #[v5] Xa (0,0) ZY,Sb,?_,?_,CN⟩,xJ.f.mono TY λ_ _ h=>h,xJ.o.mono TY λ_ _ h=>h,xJ.e.mono (Au (λb h=>ll b (xJ.mi b h).2.1) TY)⟩
      .rw[pW]at Gm;refine⟨Gm.1,?_⟩
       rcases Gm.2 with h|⟨gg,cap,cur,rfl,nC,aah,rest⟩
       .exact .inl h
       .exact .inr ⟨gg,cap,cur,rfl,nC,(ll gg (by omega)).trans aah,rest⟩
      .refine⟨tK es,λj hj k hk=>?_⟩
       have Bw:j<es.length:=by simpa[aS]using hj
       have dH:j<(aS (es++[all[i]])).length:=by simp[aS];omega
       have ib:(aS (es++[all[i]]))[j]=(aS es)[j]:=by
        simp only[aS,ada,ac5,adp];exact ac9 (by simpa using Bw)
       obtain⟨u,u1,u2⟩:=Z'.2 j dH k (by rw[ib];exact hk);refine⟨u,?_,?_⟩
       .have jD:k < 2:=by
         have:=tK es _ (acy hj);rw[this.1]at hk;exact hk
        rw[afk (by omega)];exact u1
       .simp only[ib]at u2;exact u2.mono (bc.of_eq λ_ _ h=>h.elim)
     have Rk:dZ Dp a4 a5:=λt ht=>by
      have:t<36:=by simp[Dp]at ht;omega
      exact hs5 t (by omega) (by omega) (by omega) (by omega) (by omega)
     have ET:=NL.step Ey (aat.trans NL.defers) (dZ.weaken Rk λt ht=>by simp[W7]at ht;simp[Dp];omega);have Xi:a5.tmps.getD 9 undef=.int .i64 (i:Int):=(Rk 9 rfl).trans h94;clear ll CN TY Gm Rk hs5 Fs;generalize w4.setRow X.bN #[v5]=w5 at I8⊢;simp only[Exit.then,Exit.inBlock]
     have aad:(AV.int .i64 (i:Int)).aH=.int .i64 (i:Int)/\RV (λ_ _=>True) cD w5 (.int .i64 (i:Int)) (a5.tmps.getD 9 undef):=⟨rfl,by rw[Xi];exact .data _ _ (.int _ _)⟩
     refine cm hG dO (ac:=af.qb uU.qb) (W:=W7) (by kernel_rfl) (by kernel_rfl) (by kernel_rfl) (C.gi I8.j) (λ_ _=>True) (iz l all es out fA X.fv n (.int .i64 (i:Int))) ET.size ET.defers (I8.fO ET aad) (K:=λS' _=>S' 9=.int .i64 ((i+1:Nat):Int)) ?_ ?_
     .have qM:IntKind.i64.wrap ((i:Int)+1)=i+1:=aP (by omega);simp[c189,uU,af.qa,af.qb,bL,bw,aG,bh,aD,aO,aQ.S,aQ.H,ev,au,aY,iz,AV.aH,eF,qM]
     intro g S' H' a6 w6 hg R1 QO tB;have Ib:=ET.step R1.size (by rw[R1.defers,hg];rfl) tB;have Lf:=I8.grow (by have:=R1.below;rwa [R1.base]at this);have Ri:=R1.slot 9 (by decide) (λh=>h);rw[QO]at Ri;have Ri:=Ri.int_eq;refine⟨⟨i+1,_,M4,KR,Ib,Ri,by omega,by omega,Lf,?_,?_⟩,?_⟩
     .rw[<-aeP,pq,afG (by simp)];simp
     .have e:=@acV _ (ch (es++[all[i]]) (all.drop (i+1)) (rows-(es++[all[i]]).length)) (rem (i+1));omega
     .rw[Ri,h9i];show all.length-((i+1:Nat):Int).toNat<all.length-(i:Int).toNat;rw[Int.toNat_natCast,Int.toNat_natCast];omega
end Go.Proofs.Tryz
namespace Go.Proofs.Tryz
open Go Go.AL Go.RowKit Go.Proofs Go.Proofs.Tram
variable{GI:World->Prop}
def qE{vs:Array Value}(h:vs.size=1):∃v,vs=#[v]:=⟨vs[0],by
 apply aea
 .simpa using h
 .intro i h1 h2
  have:i=0:=by simpa using h2
  subst this;rfl⟩
def L'{P:Program}{t:TypeId}(h:(P.underlying t).map eh=some false):∃d,P.underlying t=some d/\eh d=false:=by
 cases hi:P.underlying t with
 |none=>rw[hi]at h;cases h
 |some i=>rw[hi]at h;exact⟨i,rfl,acX h⟩
def vZ(t:TypeId)(h:(prog.underlying t).map eh=some false:=by kernel_rfl):∃d,prog.underlying t=some d/\eh d=false:=L' h
def oT:AV.cT∘AV.aH=AV.cT:=by
 funext v
 cases v<;>try rfl
 rename_i o es;cases o<;>rfl
def RD.JD{Pr:Nat->Nat->Prop}{w:World}{o:Ow}{es:List AV}{c:Value}(h:RD Pr w (.slice o es) c):RD Pr w (.slice .view es) c:=by
 cases h with
 |gx=>exact .gx _
 |slice _ _ b off cap size cs eT hn bg h1 hc hr=>exact .slice _ _ b off cap size cs eT (λh=>by cases h) bg h1 hc hr
 |ja _ a=>exact .ja _ a
def Wa (hG:aw GI) {oE:Ow} {all:List End} {out:List Int} {fA:List AV} {rows:Nat} (e_:all.length≤1000) (To:rows≤1000) (ko:out.length≤1000) (xj:fA.length=11) (hf1:∀ x∈fA.take 10,x.storable=true∧x.one=true∧x.aH=x) (h9:fA[9]? = some (.int .i64 rows))
  (We:AC prog GI 188 [.agg ((fA.take 10).map AV.cT),vI out] (.ret (.slice oE (aS all)))):
  vv prog GI 187 [.ref fA,.ref [vI out]] ((ch [] all rows).map (aL out)):=by
 intro l C w Pr bH hJ hlen hr
 obtain⟨cF,cO,rfl⟩:∃cF cO,bH=#[cF,cO]:=by
  have:bH.size=2:=by simpa using hlen.symm
  exact⟨bH[0],bH[1],by
   apply aea
   .simpa using this
   .intro i h1 h2
    match i,h2 with
    |0,_=>rfl
    |1,_=>rfl⟩
 have Wh:=hr 0 (by simp) (by simp);have Yw:=hr 1 (by simp) (by simp);simp only[List.getElem_cons_zero,List.getElem_cons_succ,List.getElem_toArray]at Wh Yw;refine(ig (ro:=none) (m:=0)).1 (afO func187 rfl trivial ?_);have cj:=C.gi hJ
 have R:Rel prog w 14 bz _ (AL.start [.val (.func (.yield l) #[] #[]),.ref fA,.ref [vI out]]) (λ_=>none) { tmps:=(#[.func (.yield l) #[] #[]]++#[cF,cO])++Array.replicate (f187.ntmps-(#[Value.func (.yield l) #[] #[]]++#[cF,cO]).size) undef,defers:=[] } w:=Rel.begin (args:=[.val (.func (.yield l) #[] #[]),.ref fA,.ref [vI out]]) (old:=Pr) ntmps187 (by simp) rfl (λi h h'=>by
  match i,h with
  |0,_=>exact .data _ _ (.val _ rfl)
  |1,_=>exact Wh
  |2,_=>exact Yw)
 have e1:({ tmps:=(#[Value.func (.yield l) #[] #[]]++#[cF,cO])++Array.replicate (f187.ntmps-(#[Value.func (.yield l) #[] #[]]++#[cF,cO]).size) undef,defers:=[] }:Act).tmps.getD 1 undef=cF:=cH _ _ 1 (by simp);have e2:({ tmps:=(#[Value.func (.yield l) #[] #[]]++#[cF,cO])++Array.replicate (f187.ntmps-(#[Value.func (.yield l) #[] #[]]++#[cF,cO]).size) undef,defers:=[] }:Act).tmps.getD 2 undef=cO:=cH _ _ 2 (by simp)
 have W3:∃W:Nat->Bool,W=λt=>decide (3<=t):=⟨_,rfl⟩
 refine acO ?_;refine jl R hG cj dO (ac:=af.qa c187) (W:=λt=>decide (3<=t)) (by kernel_rfl) (by kernel_rfl) (by kernel_rfl) (λ_ h=>h) (K:=λS' H'=>S' 1=.ref fA/\S' 2=.ref [vI out]/\S' 3=.box 3 0/\H' 3=some [.val (.func (.yield l) #[] #[])]) ?_ ?_
 .simp[c187,af.qa,bL,bw,aG,bh,aO,ev,AL.start,AV.aH,AV.cells,AV.storable,au,bQ,vI]
 rintro g1 S1 H1 a1 w1 xK R1 ⟨s1,s2,s3,h3⟩ xO;refine acO ?_;refine jl R1 hG cj dO (ac:=af.qa c187.qb) (W:=λt=>decide (3<=t)) (by kernel_rfl) (by kernel_rfl) (by kernel_rfl) (by rw[xK];exact λ_ h=>h) (K:=λS' H'=>S' 3=.box 3 0/\S' 4=.box 4 0/\H' 3=some [.val (.func (.yield l) #[] #[])]/\H' 4=some [.slice oE (aS all)]) ?_ ?_
 .simp[c187,af.qa,af.qb,bL,bw,aG,bh,aO,ev,aD,aQ.S,aQ.H,aY,b0,s1,s2,s3,h3,au,AV.aH,vI,xj,kC]
  have e8:fz H1 (.agg (List.take 10 (List.map AV.aH fA)))=.agg ((fA.take 10).map AV.cT):=by
   simp only[fz,gM,AV.vw,<-aeV,ad2,oT]
  have e9:fz H1 (.slice .view (ints out))=vI out:=rfl;rw[e8,e9];refine⟨by kernel_rfl,_,We,by simp[da],?_⟩
  cases oE<;>simp[j0,bQ,AV.cells,AV.storable,HR.okB,bG,bu,AV.bZ,au,AV.aH,s3,h3]
 rintro g2 S2 H2 a2 w2 NS R2 ⟨t3,t4,k3,k4⟩ xm;have fT:g2.base=w.heap.size:=R2.base
 have kd:Below w.heap.size w w2:=by have:=R2.below;rwa [fT]at this
 obtain⟨bY,hY⟩:∃b,g2.al 3=some b/\a2.tmps.getD 3 undef=.pointer (some ⟨b,0,none⟩):=by
  have h:=R2.slot 3 (by decide) (λh=>h);rw[t3]at h;generalize a2.tmps.getD 3 undef=c at h
  cases h with
  |data _ _ h=>cases h
  |box _ _ b h=>exact⟨b,h,rfl⟩
 obtain⟨bA,hA⟩:∃b,g2.al 4=some b/\a2.tmps.getD 4 undef=.pointer (some ⟨b,0,none⟩):=by
  have h:=R2.slot 4 (by decide) (λh=>h);rw[t4]at h;generalize a2.tmps.getD 4 undef=c at h
  cases h with
  |data _ _ h=>cases h
  |box _ _ b h=>exact⟨b,h,rfl⟩
 obtain⟨csY,vsY,tyY,q1,q2,q3,q4,q5,q6,q7,q8,q9⟩:=R2.box 3 bY hY.1;rw[k3]at q1;cases q1
 have hvY:vsY=#[.func (.yield l) #[] #[]]:=by
  have h0:=q7 0 (by simp) (by rw[<-q6];simp);simp only[List.getElem_cons_zero]at h0;apply aea
  .rw[<-q6];rfl
  .intro i h1 h2
   have:i=0:=by simpa using h2
   subst this;exact(RV.data (al:=cD) _ _ h0).fY
 subst hvY;obtain⟨csA,vsA,tyA,r1,r2,r3,r4,r5,r6,r7,r8,r9⟩:=R2.box 4 bA hA.1;rw[k4]at r1;cases r1;obtain⟨De,rfl⟩:=qE (vs:=vsA) (by rw[<-r6];rfl);have N5:=r7 0 (by simp) (by simp);have hO0:=r8 0 (by simp) (by simp);simp only[List.getElem_cons_zero,List.getElem_toArray]at N5 hO0
 have mY:RD (λb k=>(b<w.heap.size/\Pr b k)\/(w.heap.size<=b/\b<w2.heap.size)) w2 (.slice .view (aS all)) De:=by
  have hd:=N5.aH
  have hd:RD g2.Pr w2 (.slice .view (aS all)) De:=by
   have e:RD g2.Pr w2 (.slice oE (aS all)) De:=N5;exact RD.JD e
  refine hd.mono (bc.of_eq λb k hp=>⟨?_,rfl⟩)
  rcases hp with⟨h1,h2⟩|⟨h1,h2⟩
  .rw[NS,xK]at h2;exact .inl ⟨by rw[<-fT];exact h1,h2⟩
  .refine .inr ⟨by rw[<-fT];exact h1,?_⟩
   by_cases av:b<w2.heap.size
   .exact av
   .rw[(R2.fresh b (by omega)).1]at h2;omega
 have hbY:w.heap.size<=bY/\bY<w2.heap.size:=⟨by rw[<-fT];exact q2,(acz.1 q3).1⟩
 have hbA:w.heap.size<=bA/\bA<w2.heap.size:=⟨by rw[<-fT];exact r2,(acz.1 r3).1⟩
 have e1:a2.tmps.getD 1 undef=cF:=((xO.trans xm) 1 rfl).trans e1;have e2:a2.tmps.getD 2 undef=cO:=((xO.trans xm) 2 rfl).trans e2;have zq:a2.tmps.size=14:=R2.size
 have Rf:a2.defers=[]:=by rw[R2.defers,NS,xK];rfl
 obtain⟨bN,SK⟩:∃bN,w2.heap.size=bN:=⟨_,rfl⟩
 have eY:∀(a:Act)(d t:Nat)(c:Value),t≠d->(a.put (some d) c).tmps.getD t undef=a.tmps.getD t undef:=λa d t c h=>by
  simp[Act.put,acB (adi h)]
 have jy:∀(a:Act)(d:Nat)(c:Value),a.tmps.size=14->d<14->(a.put (some d) c).tmps.getD d undef=c:=λa d c h hd=>by
  simp[Act.put,h,hd]
 have jo:∀(a:Act)(d:Option Nat)(c:Value),(a.put d c).tmps.size=a.tmps.size:=λa d c=>by cases d<;>simp[Act.put]
 have qB:∀(a:Act)(d:Option Nat)(c:Value),(a.put d c).defers=a.defers:=λa d c=>by cases d<;>rfl
 refine acO (ac6 ?_);show wpOpsIn _ _ _ _ _ [0] a2 w2;refine aV rfl rfl (by rfl) (kK (t:=37) (z:=.slice none 0 0) rfl (by kernel_rfl)) ?_;show Code.wpIn _ _ _ _ _ (a2.put (some 5) (.pointer (some ⟨w2.heap.size,0,none⟩))) (w2.alloc (.cells #[.slice none 0 0] 37))
 obtain⟨a3,qz⟩:∃a3,a2.put (some 5) (.pointer (some ⟨w2.heap.size,0,none⟩))=a3:=⟨_,rfl⟩
 obtain⟨w3,qv⟩:∃w3,w2.alloc (.cells #[.slice none 0 0] 37)=w3:=⟨_,rfl⟩
 have y7:w3.heap.size=bN+1:=by rw[<-qv,<-SK];simp
 have NC:w3.heap[bN]?=some (.cells #[.slice none 0 0] 37 (0,0)):=by rw[<-qv,<-SK];exact adv w2 _
 have HZ:∀b,b<bN->w3.heap[b]?=w2.heap[b]?:=λb hb=>by rw[<-qv];exact afY _ _ _ (by omega)
 rw[qz,qv];refine acO (ac6 ?_);show wpOpsIn _ _ _ _ _ [0] a3 w3;refine aV rfl rfl (by rfl) (kK (t:=76) (z:=.nilFunc) rfl (by kernel_rfl)) ?_;show Code.wpIn _ _ _ _ _ (a3.put (some 6) (.pointer (some ⟨w3.heap.size,0,none⟩))) (w3.alloc (.cells #[.nilFunc] 76))
 obtain⟨a4,lx⟩:∃a4,a3.put (some 6) (.pointer (some ⟨w3.heap.size,0,none⟩))=a4:=⟨_,rfl⟩
 obtain⟨w4,lS⟩:∃w4,w3.alloc (.cells #[.nilFunc] 76)=w4:=⟨_,rfl⟩
 have M3:w4.heap.size=bN+2:=by rw[<-lS];simp[y7]
 have Ep:w4.heap[bN+1]?=some (.cells #[.nilFunc] 76 (0,0)):=by rw[<-lS,<-y7];exact adv w3 _
 have B2:∀b,b<bN+1->w4.heap[b]?=w3.heap[b]?:=λb hb=>by rw[<-lS];exact afY _ _ _ (by omega)
 rw[lx,lS]
 have z3:a3.tmps.size=14:=by rw[<-qz,jo];exact zq
 have z4:a4.tmps.size=14:=by rw[<-lx,jo];exact z3
 have u5:a4.tmps.getD 5 undef=.pointer (some ⟨bN,0,none⟩):=by rw[<-lx,eY _ _ _ _ (by decide),<-qz,jy _ _ _ zq (by decide),SK]
 have u6:a4.tmps.getD 6 undef=.pointer (some ⟨bN+1,0,none⟩):=by rw[<-lx,jy _ _ _ z3 (by decide),y7]
 have u:∀t,t<5->a4.tmps.getD t undef=a2.tmps.getD t undef:=λt ht=>by rw[<-lx,eY _ _ _ _ (by omega),<-qz,eY _ _ _ _ (by omega)]
 refine acO (ac6 ?_);show wpOpsIn _ _ _ _ _ [0,1] a4 w4;refine aV rfl rfl (by rfl) (nA (fn:=.func 189) (c:=#[.tmp 4,.tmp 3,.tmp 2,.tmp 5,.tmp 1,.tmp 6]) rfl) ?_
 have eT:(#[Operand.tmp 4,.tmp 3,.tmp 2,.tmp 5,.tmp 1,.tmp 6].map a4.eval)=#[.pointer (some ⟨bA,0,none⟩),.pointer (some ⟨bY,0,none⟩),cO,.pointer (some ⟨bN,0,none⟩),cF,.pointer (some ⟨bN+1,0,none⟩)]:=by
  simp only[ado,ac5,adp,Act.eval];rw[u 4 (by omega),u 3 (by omega),u 2 (by omega),u5,u 1 (by omega),u6,hA.2,hY.2,e2,e1]
 rw[eT]
 obtain⟨fv,lT⟩:∃fv:Value,fv=.func (.func 189) #[] #[.pointer (some ⟨bA,0,none⟩),.pointer (some ⟨bY,0,none⟩),cO,.pointer (some ⟨bN,0,none⟩),cF,.pointer (some ⟨bN+1,0,none⟩)]:=⟨_,rfl⟩
 rw[<-lT]
 obtain⟨a5,pv⟩:∃a5,a4.put (some 11) fv=a5:=⟨_,rfl⟩
 show wpOpsIn _ _ _ _ _ [1] (a4.put (some 11) fv) w4;rw[pv]
 have z5:a5.tmps.size=14:=by rw[<-pv,jo];exact z4
 have TX:a5.tmps.getD 11 undef=fv:=by rw[<-pv];exact jy _ _ _ z4 (by decide)
 have u65:a5.tmps.getD 6 undef=.pointer (some ⟨bN+1,0,none⟩):=by rw[<-pv,eY _ _ _ _ (by decide)];exact u6
 obtain⟨i33,Sk,Q7⟩:=iZ 76 1;refine dU rfl rfl (by rfl) (il (x:=.tmp 6) (y:=.tmp 11) rfl u65 Sk Q7 Ep TX (by rw[lT];rfl)) ?_
 obtain⟨w5,KC⟩:∃w5,w4.setRow (bN+1) #[fv]=w5:=⟨_,rfl⟩
 show Code.wpIn _ _ _ _ _ (a5.put none undef) (w4.setRow (bN+1) #[fv]);rw[KC]
 have acm:w5.heap.size=bN+2:=by rw[<-KC];simpa using M3
 have Vk:w5.heap[bN+1]?=some (.cells #[fv] 76 (0,0)):=by rw[<-KC];exact aer w4 _ _ _ _ _ Ep
 have Vf:∀b,b<bN+1->w5.heap[b]?=w4.heap[b]?:=λb hb=>by rw[<-KC];exact adL w4 _ _ _ (by omega)
 have Jg:∀b,b<bN->w5.heap[b]?=w2.heap[b]?:=λb hb=>by rw[Vf b (by omega),B2 b (by omega),HZ b hb]
 refine ac6 ?_;show wpOpsIn _ _ _ _ _ [0,1] a5 w5;obtain⟨d33,ab',Wb⟩:=vZ 76;refine aV rfl rfl (by rfl) (kS (x:=.tmp 6) (v:=fv) rfl u65 ab' Wb (by simp[World.cell?,Vk])) ?_;show wpOpsIn _ _ _ _ _ [1] (a5.put (some 12) fv) w5
 obtain⟨a6,UQ⟩:∃a6,a5.put (some 12) fv=a6:=⟨_,rfl⟩
 rw[UQ]
 have z6:a6.tmps.size=14:=by rw[<-UQ,jo];exact z5
 have u12:a6.tmps.getD 12 undef=fv:=by rw[<-UQ];exact jy _ _ _ z5 (by decide)
 have Tn:a6.defers=[]:=by rw[<-UQ,qB,<-pv,qB,<-lx,qB,<-qz,qB];exact Rf
 have hc6:∀{P':Nat->Nat->Prop},(∀b k,P' b k->b<bN)->bc P' P' w2 w5:=λh=>bc.of_eq λb k hp=>⟨hp,Jg b (h b k hp)⟩
 let X:Fx C all out fA rows:={
  bN:=bN
  cA:=.pointer (some ⟨bA,0,none⟩)
  cY:=.pointer (some ⟨bY,0,none⟩)
  cO:=cO
  cF:=cF
  cR:=.pointer (some ⟨bN+1,0,none⟩)
  MI:=λb=>w.heap.size<=b/\b<bN+2/\b≠bN
  wI:=w5
  bA:=bA
  De:=De
  N5:=rfl
  Tz:=⟨⟨hbA.1,by omega,by omega⟩,by omega⟩
  hA2:=⟨tyA,(Jg bA (by omega)).trans r3⟩
  hY:=by
   refine .data _ _ (.ref _ _ _ (λ_=>.func (.yield l) #[] #[]) (λi hi=>?_) (λk hk=>⟨?_,?_⟩) (λk hk=>?_))
   .have:i=0:=by simpa using hi
    subst this;rfl
   .exact⟨hbY.1,by omega,by omega⟩
   .have:k=0:=by simpa using hk
    subst this;have:w5.heap[bY]?=some (.cells #[.func (.yield l) #[] #[]] tyY (0,0)):=(Jg bY (by omega)).trans q3;simp[World.cell?,this]
   .have:k=0:=by simpa using hk
    subst this;exact .val _ rfl
  hR:=by
   refine .data _ _ (.ref _ _ _ (λ_=>fv) (λi hi=>?_) (λk hk=>⟨?_,?_⟩) (λk hk=>?_))
   .have:i=0:=by simpa using hi
    subst this;rfl
   .exact⟨by omega,by omega,by omega⟩
   .have:k=0:=by simpa using hk
    subst this;simp[World.cell?,Vk]
   .have:k=0:=by simpa using hk
    subst this;rw[lT];exact .val _ rfl
  f9:=h9 }
 have iF:lh (λ_=>False) w w5:=by
  refine⟨?_,?_,?_,by omega,λb hb _=>(Jg b (by omega)).trans (kd.block b hb)⟩
  .rw[<-KC,<-lS,<-qv];exact kd.os
  .rw[<-KC,<-lS,<-qv];exact kd.tape
  .rw[<-KC,<-lS,<-qv];exact kd.output
 have kI:bc Pr Pr w w5:=bc.oF λb k hb _=>iF.block b hb (λh=>h)
 have st:St X 0 (λb=>w.heap.size<=b/\b<bN+2) Pr [] w5:=by
  refine⟨C.dS hJ iF λb hb=>⟨by omega,.inr hb.1⟩,λb hb=>by omega,λb hb=>⟨⟨hb.1,hb.2.1⟩,hb.2.2,rfl⟩,⟨.slice none 0 0,37,[],?_,?_,⟨rfl,.inl ⟨rfl,rfl⟩⟩,⟨λx hx=>(by cases hx),λj hj=>(by simp[aS]at hj)⟩,λb hb=>(by cases hb)⟩,Wh.mono kI λ_ _ h=>h,Yw.mono kI λ_ _ h=>h,mY.mono (bc.of_eq λb k hp=>?_)⟩
  .show w5.heap[bN]?=_;rw[Vf bN (by omega),B2 bN (by omega)];exact NC
  .show w.heap.size<=bN/\bN<bN+2;exact⟨by rw[<-SK];exact kd.size,by omega⟩
  .have bg:=kd.size
   have av:b<bN:=by
    rcases hp with h|h<;>omega
   refine⟨⟨av,?_⟩,Jg b av⟩;rcases hp with h|h
   .exact .inr h.2
   .exact .inl (show w.heap.size<=b/\b<bN+2/\b≠bN from⟨h.1,by omega,by omega⟩)
 have RI:=Py hG X e_ To ko all.length 0 [] 0 _ Pr w5 [] (by omega) (acD _) st (by simp)
 have vq:(#[a6.eval (.const (.int .i64 0))]++#[.pointer (some ⟨bA,0,none⟩),.pointer (some ⟨bY,0,none⟩),cO,.pointer (some ⟨bN,0,none⟩),cF,.pointer (some ⟨bN+1,0,none⟩)])=#[.int .i64 ((0:Nat):Int),X.cA,X.cY,X.cO,.pointer (some ⟨X.bN,0,none⟩),X.cF,X.cR]:=by
  simp[Act.eval,X]
 rw[<-vq]at RI;have abl:a6.eval (.tmp 12)=.func (.func 189) #[] #[.pointer (some ⟨bA,0,none⟩),.pointer (some ⟨bY,0,none⟩),cO,.pointer (some ⟨bN,0,none⟩),cF,.pointer (some ⟨bN+1,0,none⟩)]:=u12.trans lT;refine gE rfl rfl (by rfl) (rQ (f:=.tmp 12) (x:=.const (.int .i64 0)) w5 rfl rfl rfl abl (by kernel_rfl)) RI ?_;rintro e w6 ⟨M',eC,pO⟩
 obtain⟨b,rfl,hv⟩:∃b:Bool,e=.returned (.bool b)/\(C.J ((ch [] all rows).map (aL out)).length M' eC w6\/C.X M' eC w6):=by
  rcases pO with⟨rfl,h⟩|⟨rfl,h⟩
  .refine⟨true,rfl,.inl ?_⟩;have:=h.j;simpa using this
  .exact⟨false,rfl,.inr h⟩
 refine⟨_,rfl,?_⟩;show bodyPost prog f187 _ .normal (a6.put (some 13) (.bool b)) w6;refine⟨by rw[qB];exact Tn,.tuple #[],?_,.tuple #[],_,_,rfl,hv⟩;simp[results,results187]
def OU:TypeDesc→Bool
  |.interface _=>true
  |_=>false
def F9 {P:Program} {t:TypeId} (h:(P.underlying t).map OU=some true):∃ ms,P.underlying t=some (.interface ms):=by
  cases hi:P.underlying t with
  |none=>rw[hi]at h;cases h
  |some d =>
    rw[hi]at h
    cases d<;>first|(cases h;done)|exact⟨_,rfl⟩
def PU (T:Nat) (v:Value) (w:World):(binOp .eql 20 (.iface T v) .nilIface).run prog w = .ok (.bool false) w:=by
  have:(Op.equal 20 (.iface T v) .nilIface).run prog w = .ok false w:=by
    obtain⟨ms,hm⟩:=F9 (P:=prog) (t:=20) (by kernel_rfl);unfold Op.equal Op.maxDepth Op.equalIn;simp[acR hm]
  simp[binOp,this]
def qZ {a:Act} {o:Oper} {T:Nat} {v:Value} {x:Operand} (w:World) (ho:o.op = .binOp .eql 20 x (.const .nilIface) 20) (hx:a.eval x = .iface T v):(execOp a.eval o).run prog w = .ok (.value (.bool false)) w:=by
  have h0:(eqGuard .eql 20 x (.const .nilIface) (.iface T v) .nilIface).run prog w=.ok () w:=gk _ _ _ _ _ _ rfl;have hc:a.eval (.const .nilIface)=.nilIface:=rfl;simp[execOp,ho,hx,hc,h0,PU]
def Ii {bE:Nat} {u:Value} {ty:TypeId} (w:World) (hE:w.heap[bE]? = some (.cells #[u] ty (0,0))) (n:Int) :
    CallsD prog 204 #[.pointer (some ⟨bE,0,none⟩)] (.panicking [{ v := .iface 242 (.agg #[.int .i64 n]),recovered:=false }]) w fun e u' w' =>
      e=.returned (.tuple #[])/\u'=.panicking [{ v:=.iface 242 (.agg #[.int .i64 n]),recovered:=true }]/\∃w1,Below w.heap.size w w1/\w'=w1.setRow bE #[.int .i64 5]:=by
  refine ae_ func204 rfl λBP cs hu=>?_
  apply agb;apply afD;simp[wpOpsS,go_sem,recoverD,hu,ntmps204,Exit.thenS];refine afM ?_;refine(fE (m:=0)).1 ?_;refine ia (λa=>a.tmps.size=14/\a.defers=[]/\a.tmps.getD 0 undef=.pointer (some ⟨bE,0,none⟩)/\a.tmps.getD 5 undef=.iface 242 (.agg #[.int .i64 n])) ⟨by simp,rfl,by simp,by simp⟩ ?_;rintro a ⟨bg,ee,h0,h5⟩;have av:=(acz.1 hE).1;refine ad1 (acO (ac6 ?_));show wpOpsIn _ _ _ _ _ [0] a w;refine aV rfl rfl (by rfl) (qZ (x:=.tmp 5) w rfl h5) ?_;show Code.wpIn _ _ _ _ _ (a.put (some 7) (.bool false)) w
  have h7:(a.put (some 7) (.bool false)).tmps.getD 7 undef=.bool false:=by simp[Act.put,bg]
  refine adu (t:=false) h7 ?_;simp only[acI,acW];refine ia (λa=>a.tmps.size=14/\a.defers=[]/\a.tmps.getD 0 undef=.pointer (some ⟨bE,0,none⟩)/\a.tmps.getD 5 undef=.iface 242 (.agg #[.int .i64 n])) ⟨by simp[Act.put,bg],ee,by simpa[Act.put,acB]using h0,by simpa[Act.put,acB]using h5⟩ ?_;clear h7 h5 h0 ee bg a;rintro a ⟨bg,ee,h0,h5⟩
  have hS:∀ (a:Act) (w:World),a.tmps.getD 5 undef = .iface 242 (.agg #[.int .i64 n])→∀ t,t < 14→((fun t=>if t=5 then AV.iface 242 (.agg [.int .i64 n]) else AV.bm:an) t).aH=(fun t=>if t=5 then AV.iface 242 (.agg [.int .i64 n]) else AV.bm:an) t ∧
      RV (λ_ _=>True) cD w ((λt=>if t=5 then AV.iface 242 (.agg [.int .i64 n])else AV.bm:an) t) (a.tmps.getD t undef):=by
    intro a w h5 t ht
    by_cases h:t=5
    . subst h
      rw[h5];refine⟨rfl,.data _ _ (.iface _ _ _ (.agg _ _ rfl (λi hi=>?_) (λi hi cQ=>?_)))⟩
      . have:i=0:=by simpa using hi
        subst this;rfl
      . have:i=0:=by simpa using hi
        subst this;exact .int _ _
    . simp only[h,acW];exact⟨rfl,.bm _⟩
  refine acO ?_;refine cm (GI:=λ_=>True) (λ_ _ _ _=>trivial) dO (ac:=af.qa c204.qb.qb.qb.qb) (W:=λt=>decide (8<=t)) (by kernel_rfl) (by kernel_rfl) (by kernel_rfl) trivial (λ_ _=>True) _ bg ee (hS a w h5) (K:=λS' _=>S' 9=.bool true/\S' 10=.agg [.int .i64 n]) ?_ ?_
  . simp[c204,af.qa,af.qb,bL,bw,aG,bh,aD,aO,aQ.S,aQ.H,ev,au,aY,AV.aH]
  rintro g S' H' a' w' hg R1 ⟨h9,qI⟩ bj;have t9:=R1.slot 9 (by decide) (λh=>h);rw[h9]at t9;have t9:=t9.fq;have t10:=R1.slot 10 (by decide) (λh=>h);rw[qI]at t10
  have b1:Below w.heap.size w w':=by have:=R1.below;rwa [R1.base]at this
  show Code.wpIn _ _ _ _ _ a' w';refine adu (t:=true) t9 ?_;simp only[ac3];refine acO ?_;refine jl R1 (GI:=λ_=>True) (λ_ _ _ _=>trivial) trivial dO (ac:=af.qa c204.qb.qb.qb.qb.qb.qa) (W:=λt=>decide (1<=t)) (by kernel_rfl) (by kernel_rfl) (by kernel_rfl) (by rw[hg];exact λ_ h=>h) (K:=λ_ _=>True) ?_ ?_
  . simp[c204,af.qa,af.qb,bL,bw,aG,bh,aD,aO,aQ.S,aQ.H,ev,au,aY,AV.aH,qI,bQ,HR.okB,AV.cells,AV.storable,bu,AV.bZ,bG]
  rintro g2 S2 H2 a2 w2 nR R2 _ jX
  have b2:Below w.heap.size w w2:=by have:=R2.below;rwa [R2.base]at this
  have e0:a2.tmps.getD 0 undef=.pointer (some ⟨bE,0,none⟩):=(jX 0 rfl).trans ((bj 0 rfl).trans h0);have G5:w2.heap[bE]?=some (.cells #[u] ty (0,0)):=(b2.block bE av).trans hE;obtain⟨i36,qu,qD⟩:=iZ 34 1;show Code.wpIn _ _ _ _ _ a2 w2;refine ac6 ?_;show wpOpsIn _ _ _ _ _ [0] a2 w2;refine dU rfl rfl (by rfl) (il (x:=.tmp 0) (y:=.const (.int .i64 5)) (v:=.int .i64 5) rfl e0 qu qD G5 rfl rfl) ?_;refine⟨by show a2.defers=[];rw[R2.defers,nR,hg];rfl,_,rfl,.tuple #[],?_,rfl,rfl,w2,b2,rfl⟩;simp[results,results204]
def JG {bE:Nat} {u:Value} {ty:TypeId} (w:World) (hE:w.heap[bE]? = some (.cells #[u] ty (0,0))) (n:List UInt8) :
    CallsD prog 204 #[.pointer (some ⟨bE,0,none⟩)] (.panicking [{ v := .iface 253 (.agg #[.string ⟨n.toArray⟩]),recovered:=false }]) w fun e u' w' =>
      e=.returned (.tuple #[])/\u'=.panicking [{ v:=.iface 253 (.agg #[.string ⟨n.toArray⟩]),recovered:=true }]/\∃w1,Below w.heap.size w w1/\w'=w1.setRow bE #[.int .i64 4]:=by
  refine ae_ func204 rfl λBP cs hu=>?_
  apply agb;apply afD;simp[wpOpsS,go_sem,recoverD,hu,ntmps204,Exit.thenS];refine afM ?_;refine(fE (m:=0)).1 ?_;refine ia (λa=>a.tmps.size=14/\a.defers=[]/\a.tmps.getD 0 undef=.pointer (some ⟨bE,0,none⟩)/\a.tmps.getD 5 undef=.iface 253 (.agg #[.string ⟨n.toArray⟩])) ⟨by simp,rfl,by simp,by simp⟩ ?_;rintro a ⟨bg,ee,h0,h5⟩;have av:=(acz.1 hE).1;refine ad1 (acO (ac6 ?_));show wpOpsIn _ _ _ _ _ [0] a w;refine aV rfl rfl (by rfl) (qZ (x:=.tmp 5) w rfl h5) ?_;show Code.wpIn _ _ _ _ _ (a.put (some 7) (.bool false)) w
  have h7:(a.put (some 7) (.bool false)).tmps.getD 7 undef=.bool false:=by simp[Act.put,bg]
  refine adu (t:=false) h7 ?_;simp only[acI,acW];refine ia (λa=>a.tmps.size=14/\a.defers=[]/\a.tmps.getD 0 undef=.pointer (some ⟨bE,0,none⟩)/\a.tmps.getD 5 undef=.iface 253 (.agg #[.string ⟨n.toArray⟩])) ⟨by simp[Act.put,bg],ee,by simpa[Act.put,acB]using h0,by simpa[Act.put,acB]using h5⟩ ?_;clear h7 h5 h0 ee bg a;rintro a ⟨bg,ee,h0,h5⟩
  have hS:∀ (a:Act) (w:World),a.tmps.getD 5 undef = .iface 253 (.agg #[.string ⟨n.toArray⟩])→∀ t,t < 14→((fun t=>if t=5 then AV.iface 253 (.agg [.str n]) else AV.bm:an) t).aH=(fun t=>if t=5 then AV.iface 253 (.agg [.str n]) else AV.bm:an) t ∧
      RV (λ_ _=>True) cD w ((λt=>if t=5 then AV.iface 253 (.agg [.str n])else AV.bm:an) t) (a.tmps.getD t undef):=by
    intro a w h5 t ht
    by_cases h:t=5
    . subst h
      rw[h5];refine⟨rfl,.data _ _ (.iface _ _ _ (.agg _ _ rfl (λi hi=>?_) (λi hi cQ=>?_)))⟩
      . have:i=0:=by simpa using hi
        subst this;rfl
      . have:i=0:=by simpa using hi
        subst this;exact .str _
    . simp only[h,acW];exact⟨rfl,.bm _⟩
  refine acO ?_;refine cm (GI:=λ_=>True) (λ_ _ _ _=>trivial) dO (ac:=af.qa c204.qb.qb.qb.qb) (W:=λt=>decide (8<=t)) (by kernel_rfl) (by kernel_rfl) (by kernel_rfl) trivial (λ_ _=>True) _ bg ee (hS a w h5) (K:=λS' _=>S' 9=.bool false/\S' 5=.iface 253 (.agg [.str n])) ?_ ?_
  . simp[c204,af.qa,af.qb,bL,bw,aG,bh,aD,aO,aQ.S,aQ.H,ev,au,aY,AV.aH]
  rintro g0 S0 H0 a0 Wg BI R0 ⟨HC,Wj⟩ E7;have t90:=R0.slot 9 (by decide) (λh=>h);rw[HC]at t90;have t90:=t90.fq;show Code.wpIn _ _ _ _ _ a0 Wg;refine adu (t:=false) t90 ?_;simp only[acI,acW];refine acO ?_;refine jl R0 (GI:=λ_=>True) (λ_ _ _ _=>trivial) trivial dO (ac:=af.qa c204.qb.qb.qb.qb.qb.qb) (W:=λt=>decide (8<=t)) (by kernel_rfl) (by kernel_rfl) (by kernel_rfl) (by rw[BI];exact λ_ h=>h) (K:=λS' _=>S' 12=.bool true/\S' 13=.agg [.str n]) ?_ ?_
  . simp[c204,af.qa,af.qb,bL,bw,aG,bh,aD,aO,aQ.S,aQ.H,ev,au,aY,AV.aH,Wj]
  rintro g S' H' a' w' hg R1 ⟨h9,qI⟩ GY;have bj:=E7.trans GY;rw[BI]at hg;have t9:=R1.slot 12 (by decide) (λh=>h);rw[h9]at t9;have t9:=t9.fq;have t10:=R1.slot 13 (by decide) (λh=>h);rw[qI]at t10
  have b1:Below w.heap.size w w':=by have:=R1.below;rwa [R1.base]at this
  show Code.wpIn _ _ _ _ _ a' w';refine adu (t:=true) t9 ?_;simp only[ac3];refine acO ?_;refine jl R1 (GI:=λ_=>True) (λ_ _ _ _=>trivial) trivial dO (ac:=af.qa c204.qb.qb.qb.qb.qb.qb.qb.qa) (W:=λt=>decide (1<=t)) (by kernel_rfl) (by kernel_rfl) (by kernel_rfl) (by rw[hg];exact λ_ h=>h) (K:=λ_ _=>True) ?_ ?_
  . simp[c204,af.qa,af.qb,bL,bw,aG,bh,aD,aO,aQ.S,aQ.H,ev,au,aY,AV.aH,qI,bQ,HR.okB,AV.cells,AV.storable,bu,AV.bZ,bG]
  rintro g2 S2 H2 a2 w2 nR R2 _ jX
  have b2:Below w.heap.size w w2:=by have:=R2.below;rwa [R2.base]at this
  have e0:a2.tmps.getD 0 undef=.pointer (some ⟨bE,0,none⟩):=(jX 0 rfl).trans ((bj 0 rfl).trans h0);have G5:w2.heap[bE]?=some (.cells #[u] ty (0,0)):=(b2.block bE av).trans hE;obtain⟨i36,qu,qD⟩:=iZ 34 1;show Code.wpIn _ _ _ _ _ a2 w2;refine ac6 ?_;show wpOpsIn _ _ _ _ _ [0] a2 w2;refine dU rfl rfl (by rfl) (il (x:=.tmp 0) (y:=.const (.int .i64 4)) (v:=.int .i64 4) rfl e0 qu qD G5 rfl rfl) ?_;refine⟨by show a2.defers=[];rw[R2.defers,nR,hg];rfl,_,rfl,.tuple #[],?_,rfl,rfl,w2,b2,rfl⟩;simp[results,results204]
def IY (p:Addr) (w:World) :
    CallsD prog 204 #[.pointer (some p)] .returning w λe u' w'=>e=.returned (.tuple #[])/\u'=.returning/\w'=w:=by
  refine ae_ func204 rfl λBP cs hu=>?_
  apply agb;apply afD;simp[wpOpsS,go_sem,recoverD,hu,ntmps204,Exit.thenS];refine afM ?_
  go_wp2
  cases BP
  simp_all[bodyPostS,results,results204]
def zM {P:Program} {a:Act} {o:Oper} {cl:Call} {f:Operand} {k:Nat} {cap:Array Value} (w:World) (ho:o.op = .call cl) (hc:cl.callee = .value f) (ha:cl.args = #[]) (hf:a.eval f = .func (.func k) #[] cap) (hk:ef P k=true) :
    (execOp a.eval o).run P w=.ok (.enter k cap) w:=by
  unfold execOp;simp[ho,eP hc,hf,Deferred.ofValue,invoke,ha,fG hk]
def run_move {P:Program} {a:Act} {o:Oper} {x:Operand} (w:World) (ho:o.op = .move x):(execOp a.eval o).run P w = .ok (.value (a.eval x)) w:=by
  unfold execOp;simp only[ho]
  rfl
def Av{w:World}{b:Nat}{v u:Value}{ty:TypeId}(h:w.heap[b]?=some (.cells #[u] ty (0,0))):(w.setRow b #[v]).heap[b]?=some (.cells #[v] ty (0,0)):=aer w b _ _ _ _ h
def Np {a:Act} {w:World} {b:Nat} {v:Value} {ty:TypeId} (h2:a.tmps.getD 2 undef = .pointer (some ⟨b,0,none⟩)) (h:w.heap[b]? = some (.cells #[v] ty (0,0))):(results f170 a.tmps).run prog w = .ok v w:=by
  obtain⟨d,CO,sZ⟩:=vZ 34
  have lA:(isAgg 34).run prog w = .ok false w:=by
    unfold isAgg;rw[acK,acR CO w]
    cases d<;>simp_all[eh]
  have hl:(loadVar 34 ⟨b,0,none⟩).run prog w = .ok v w:=by
    simp[loadVar,acK,lA,World.cell?,h]
  have hr:f170.results=#[.cell 2 34]:=rfl
  have B3:a.tmps[2]?.getD undef=.pointer (some ⟨b,0,none⟩):=by rw[<-h2];simp
  simp[results,hr,B3,asAddr,hl]
def tr {k:Nat} {us:Array Value} {w:World} {R1 R:Ending→World→Prop} (kh:ef prog k=true) (hc:Calls prog k us (w.alloc (.cells #[.int .i64 0] 34)) R1)
    (h:∀ e w2,R1 e w2→w.heap.size < w2.heap.size∧(∃ u ty,w2.heap[w.heap.size]? = some (.cells #[u] ty (0,0))) ∧
      ((∃c,e=.returned c/\R (.returned (.int .i64 0)) (w2.setRow w.heap.size #[.int .i64 0]))\/
       (∃n,e=.panicked [{ v:=.iface 242 (.agg #[.int .i64 n]),recovered:=false }]/\∀w3,Below w2.heap.size w2 w3->R (.returned (.int .i64 5)) (w3.setRow w.heap.size #[.int .i64 5]))\/
       (∃s:List UInt8,e=.panicked [{ v:=.iface 253 (.agg #[.string ⟨s.toArray⟩]),recovered:=false }]/\∀w3,Below w2.heap.size w2 w3->R (.returned (.int .i64 4)) (w3.setRow w.heap.size #[.int .i64 4])))):
    Calls prog 170 #[.func (.func k) #[] us] w R:=by
  refine calls_of_wp_defers func170 rfl ?_;refine(fE (m:=0)).1 ?_;refine ia (λa=>a.tmps.size=6/\a.defers=[]/\a.tmps.getD 0 undef=.func (.func k) #[] us) ⟨by simp[ntmps170],rfl,cH _ _ 0 (by simp)⟩ ?_;rintro a ⟨bg,ee,h0⟩
  obtain⟨bE,Ll⟩:∃bE,w.heap.size=bE:=⟨_,rfl⟩
  have eY:∀ (a:Act) (d t:Nat) (c:Value),t≠d→(a.put (some d) c).tmps.getD t undef=a.tmps.getD t undef:=fun a d t c h=>by
    simp[Act.put,acB (adi h)]
  have jy:∀ (a:Act) (d:Nat) (c:Value),a.tmps.size=6→d < 6→(a.put (some d) c).tmps.getD d undef=c:=fun a d c h hd=>by
    simp[Act.put,h,hd]
  have jo:∀(a:Act)(d:Option Nat)(c:Value),(a.put d c).tmps.size=a.tmps.size:=λa d c=>by cases d<;>simp[Act.put]
  refine acO (ac6 ?_);show wpOpsIn _ _ _ _ _ [0] a w;refine aV rfl rfl (by rfl) (kK (t:=34) (z:=.int .i64 0) rfl (by kernel_rfl)) ?_;show Code.wpIn _ _ _ _ _ (a.put (some 2) (.pointer (some ⟨w.heap.size,0,none⟩))) (w.alloc (.cells #[.int .i64 0] 34));rw[Ll]at h;simp only[Ll]
  obtain⟨w1,kv⟩:∃w1,w.alloc (.cells #[.int .i64 0] 34)=w1:=⟨_,rfl⟩
  rw[kv]at hc⊢;refine ia (λa=>a.tmps.size=6/\a.defers=[]/\a.tmps.getD 0 undef=.func (.func k) #[] us/\a.tmps.getD 2 undef=.pointer (some ⟨bE,0,none⟩)) ⟨by rw[jo];exact bg,ee,by rw[eY _ _ _ _ (by decide)];exact h0,jy _ _ _ bg (by decide)⟩ ?_;clear h0 ee bg a;rintro a ⟨bg,ee,h0,h2⟩;refine acO (ac6 ?_);show wpOpsIn _ _ _ _ _ [0,1] a w1;refine aV rfl rfl (by rfl) (nA (fn:=.func 204) (c:=#[.tmp 2]) rfl) ?_
  have eT:(#[Operand.tmp 2].map a.eval) = #[.pointer (some ⟨bE,0,none⟩)]:=by
    simp only[ado,ac5,adp,Act.eval];rw[h2]
  rw[eT];show wpOpsIn _ _ _ _ _ [1] (a.put (some 3) (.func (.func 204) #[] #[.pointer (some ⟨bE,0,none⟩)])) w1
  obtain⟨a2,je⟩:∃a2,a.put (some 3) (.func (.func 204) #[] #[.pointer (some ⟨bE,0,none⟩)])=a2:=⟨_,rfl⟩
  rw[je]
  have z2:a2.tmps.size=6:=by rw[<-je,jo];exact bg
  have u3:a2.tmps.getD 3 undef=.func (.func 204) #[] #[.pointer (some ⟨bE,0,none⟩)]:=by rw[<-je];exact jy _ _ _ bg (by decide)
  have u0:a2.tmps.getD 0 undef=.func (.func k) #[] us:=by rw[<-je,eY _ _ _ _ (by decide)];exact h0
  have u2:a2.tmps.getD 2 undef=.pointer (some ⟨bE,0,none⟩):=by rw[<-je,eY _ _ _ _ (by decide)];exact h2
  have ud:a2.defers=[]:=by rw[<-je];exact ee
  refine zr rfl rfl (d:={ target:=.fn (.func 204) #[.pointer (some ⟨bE,0,none⟩)],args:=#[] }) (w':=w1) ?_ ?_
  . unfold execOp
    simp[eP,Deferred.ofValue,Act.eval,u3]
  have RU:∀ (w:World),(invoke (.fn (.func 204) #[.pointer (some ⟨bE,0,none⟩)]) #[]).run prog w = .ok (.enter 204 #[.pointer (some ⟨bE,0,none⟩)]) w:=fun w=>by
    simp[invoke,fG (P:=prog) (f:=204) (by kernel_rfl)]
  show Code.wpIn _ _ _ _ _ { a2 with defers:={ target:=.fn (.func 204) #[.pointer (some ⟨bE,0,none⟩)],args:=#[] }::a2.defers } w1;refine ia (λa=>a.tmps.size=6/\a.defers=[{ target:=.fn (.func 204) #[.pointer (some ⟨bE,0,none⟩)],args:=#[] }]/\a.tmps.getD 0 undef=.func (.func k) #[] us/\a.tmps.getD 2 undef=.pointer (some ⟨bE,0,none⟩)) ⟨z2,by show _::a2.defers=_;rw[ud],u0,u2⟩ ?_;clear u0 u2 u3 ud z2 je a2 h0 h2 ee bg eT a;rintro a ⟨bg,ee,h0,h2⟩;refine acO (ac6 ?_);show wpOpsIn _ _ _ _ _ [0,1] a w1;refine aV rfl rfl (by rfl) (run_move (x:=.tmp 0) w1 rfl) ?_;have e0:a.eval (.tmp 0)=.func (.func k) #[] us:=h0;rw[e0];show wpOpsIn _ _ _ _ _ [1] (a.put (some 4) (.func (.func k) #[] us)) w1
  obtain⟨a2,je⟩:∃a2,a.put (some 4) (.func (.func k) #[] us)=a2:=⟨_,rfl⟩
  rw[je]
  have z2:a2.tmps.size=6:=by rw[<-je,jo];exact bg
  have u4:a2.eval (.tmp 4)=.func (.func k) #[] us:=by show a2.tmps.getD 4 undef=_;rw[<-je];exact jy _ _ _ bg (by decide)
  have u2:a2.tmps.getD 2 undef=.pointer (some ⟨bE,0,none⟩):=by rw[<-je,eY _ _ _ _ (by decide)];exact h2
  have ud:a2.defers=[{ target:=.fn (.func 204) #[.pointer (some ⟨bE,0,none⟩)],args:=#[] }]:=by rw[<-je];exact ee
  refine sX rfl rfl (by rfl) (zM (f:=.tmp 4) w1 rfl rfl rfl u4 kh) hc ?_;intro e w2 he;obtain⟨av,⟨uE,Yy,hE⟩,vh⟩:=h e w2 he
  have B':∀ {args:Array Value} {u:FrameMode} {w:World} {R R':Ending→FrameMode→World→Prop},CallsD prog 204 args u w R→(∀ e u w,R e u w→R' e u w)→CallsD prog 204 args u w R':=fun h hr c cs hu =>
    let⟨e,u',w',fr,r,rest⟩:=h c cs hu;⟨e,u',w',fr,hr _ _ _ r,rest⟩
  have wo:∀ (p:PanicEntry) (v:Value) (hv:CallsD prog 204 #[.pointer (some ⟨bE,0,none⟩)] (.panicking [p]) w2 fun e u' w'=>e = .returned (.tuple #[])∧u' = .panicking [{ p with recovered:=true }]∧∃ w1,Below w2.heap.size w2 w1∧w'=w1.setRow bE #[v]),
      p.goexit=false->(∀w3,Below w2.heap.size w2 w3->R (.returned v) (w3.setRow bE #[v]))->Leaves prog f170 a2.tmps R a2.defers (.panicking [p]) w2:=by
    intro p v hv nx hR;rw[ud];refine af9 (by simp) (RU w2) (B' hv ?_);rintro e u' w' ⟨rfl,rfl,w3,qn,rfl⟩;have XJ:w3.heap[bE]?=some (.cells #[uE] Yy (0,0)):=(qn.block bE av).trans hE;show Leaves prog f170 a2.tmps R [] .returning (w3.setRow bE #[v]);exact⟨v,Np u2 (Av XJ),hR w3 qn⟩
  rcases vh with⟨c,rfl,hR⟩|⟨n,rfl,hR⟩|⟨s,rfl,hR⟩
  . show Code.wpIn _ _ _ _ _ (a2.put (some 5) c) w2
    have Re:(a2.put (some 5) c).tmps.getD 2 undef=.pointer (some ⟨bE,0,none⟩):=by rw[eY _ _ _ _ (by decide)];exact u2
    refine acO (ac6 ?_);show wpOpsIn _ _ _ _ _ [0] (a2.put (some 5) c) w2;obtain⟨i36,qu,qD⟩:=iZ 34 1;refine dU rfl rfl (by rfl) (il (x:=.tmp 2) (y:=.const (.int .i64 0)) (v:=.int .i64 0) rfl Re qu qD hE rfl rfl) ?_;show Code.wpIn _ _ _ _ _ (a2.put (some 5) c) (w2.setRow bE #[.int .i64 0]);refine aeJ ?_;show Leaves prog f170 (a2.put (some 5) c).tmps R a2.defers .returning (w2.setRow bE #[.int .i64 0]);rw[ud];refine af9 (by simp) (RU _) (B' (IY _ _) ?_);rintro e u' w' ⟨rfl,rfl,rfl⟩;exact⟨_,Np Re (Av hE),hR⟩
  . exact wo _ _ (Ii w2 hE n) rfl hR
  . exact wo _ _ (JG w2 hE s) rfl hR
def Ta (hG:aw GI) {k:Nat} {caps:List AV} {out:eE} {r:Int} (kh:ef prog k=true) (YX:AC prog GI k caps out)
    (ko:(∃v,out=.ret v/\r=0)\/(∃n,out=.panic (.iface 242 (.agg [.int .i64 n]))/\r=5)\/(∃s,out=.panic (.iface 253 (.agg [.str s]))/\r=4)):
    AC prog GI 170 [.func (.func k) [] caps] (.ret (.int .i64 r)):=by
  intro w old bH gm hlen hr;obtain⟨fv,rfl⟩:∃fv,bH=#[fv]:=qE (by simpa using hlen.symm);have h0:=hr 0 (by simp) (by simp);simp only[List.getElem_cons_zero,List.getElem_toArray]at h0
  obtain ⟨us,rfl,hl,G8⟩:∃ us:Array Value,fv = .func (.func k) #[] us∧caps.length=us.size∧∀ i (h:i < caps.length) (h':i < us.size),RV old (fun _=>none) w caps[i] us[i]:=by
    cases h0 with
    |data _ _ h=>cases h
    |func _ _ _ vs us h1 h2 r1 r2 =>
      have:vs=#[]:=ad6 (by simpa using h1.symm);subst this;exact⟨us,rfl,h2,r2⟩
  have tq:Below w.heap.size w (w.alloc (.cells #[.int .i64 0] 34)):=(adA _ _).alloc (acD _) _
  have hk:bc old old w (w.alloc (.cells #[.int .i64 0] 34)):=bc.iN (λb h=>tq.block b h) λ_ _ _ h=>h
  have hN:(w.alloc (.cells #[.int .i64 0] 34)).heap[w.heap.size]?=some (.cells #[.int .i64 0] 34 (0,0)):=adv w _;refine tr kh (YX (w.alloc (.cells #[.int .i64 0] 34)) old us (hG _ _ gm tq) hl (λi h h'=>(G8 i h h').mono hk λ_ _ h=>h)) ?_;rintro e w2 ⟨jK,hi,si,vh⟩
  have aaB:w.heap.size<w2.heap.size:=by have:=jK.size;simp at this;omega
  have G5:w2.heap[w.heap.size]?=some (.cells #[.int .i64 0] 34 (0,0)):=(jK.block _ (by simp)).trans hN;refine⟨aaB,⟨_,_,G5⟩,?_⟩
  have fin:∀ (w3:World) (r:Int),Below w2.heap.size w2 w3→AL.Ends prog old w (.ret (.int .i64 r)) (.returned (.int .i64 r)) (w3.setRow w.heap.size #[.int .i64 r]):=by
    intro w3 r qn
    have kd:Below w.heap.size w w3:=by
      have h1:=tq.trans (jK.mono (by simp));exact h1.trans (qn.mono (by omega))
    refine⟨⟨kd.os,kd.tape,kd.output,by simpa using kd.size,λb hb=>(adL w3 _ b _ (by omega)).trans (kd.block b hb)⟩,λ_=>0,λ_ _=>rfl,_,rfl,.data _ _ (.int _ _),trivial⟩
  rcases ko with⟨v,rfl,rfl⟩|⟨n,rfl,rfl⟩|⟨s,rfl,rfl⟩
  . obtain ⟨c,rfl,_,_⟩:=vh
    exact .inl ⟨c,rfl,fin w2 0 (adA _ _)⟩
  . obtain ⟨c,rfl,hc⟩:=vh
    obtain rfl:c = .iface 242 (.agg #[.int .i64 n]):=by
      cases hc with
      |iface _ _ c h =>
        cases h with
        |agg _ vs hl h1 hr =>
          obtain⟨u,rfl⟩:=qE (vs:=vs) (by rw[<-hl];rfl);have:=hr 0 (by simp) (by simp);have:=(RV.data (al:=cD) _ _ this).int_eq;simp only[List.getElem_toArray,List.getElem_cons_zero]at this;rw[this]
    exact .inr (.inl ⟨n,rfl,λw3 h3=>fin w3 5 h3⟩)
  . obtain ⟨c,rfl,hc⟩:=vh
    obtain rfl:c = .iface 253 (.agg #[.string ⟨s.toArray⟩]):=by
      cases hc with
      |iface _ _ c h =>
        cases h with
        |agg _ vs hl h1 hr =>
          obtain⟨u,rfl⟩:=qE (vs:=vs) (by rw[<-hl];rfl);have:=hr 0 (by simp) (by simp);simp only[List.getElem_toArray,List.getElem_cons_zero]at this;cases this;rfl
    exact .inr (.inr ⟨s,rfl,λw3 h3=>fin w3 4 h3⟩)
def wm{GI:World->Prop}(hG:aw GI){n:Nat}{ro:Option Nat}{Q:ij}{old:Old}{S:an}{H:aq}{x y:Code}(ac:af)(cg:∀d∈ac.names,¬old.bx d)(K:an->aq->Prop)(h:bL prog GI ac (aO K) S H)(hy:∀S' H',K S' H'->SW prog GI n ro y Q old S' H')(hc:iB x=true:=by kernel_rfl)(lD:cC prog n x=ac:=by kernel_rfl):SW prog GI n ro (.seq x y) Q old S H:=SW.cut hG dO hc lD cg K h hy
def eV{GI:World->Prop}(hG:aw GI){n:Nat}{ro:Option Nat}{Q:ij}{old:Old}{S:an}{H:aq}{x y:Code}(ac:af)(K:an->aq->Prop)(h:bL prog GI ac (aO K) S H)(hy:∀S' H',K S' H'->SW prog GI n ro y Q old S' H')(cg:∀d∈ac.names,¬old.bx d:=by exact λ_ _ h=>h)(hc:iB x=true:=by kernel_rfl)(lD:cC prog n x=ac:=by kernel_rfl):SW prog GI n ro (.seq x y) Q old S H:=SW.cut hG dO hc lD cg K h hy
def iD:AV.aH∘AV.aH=AV.aH:=by funext v;exact AV.idem v
def PB:AV.cT∘AV.cT=AV.cT:=by funext v;cases v<;>rfl
def Yh(hG:aw GI){fA:List AV}{out:List Int}(hl:fA.length=11):AC prog GI 148 [.agg fA,vI out] (.ret (.func (.func 187) [] [.ref (fA.map AV.cT),.ref [vI out]])):=by
 refine AC.Et hG dO func148 rfl ntmps148 (by simp) (ac:=c148) (by kernel_rfl) ?_;simp[c148,bL,bw,aG,bh,aD,dE,ev,aQ.S,aQ.H,au,aY,AL.start,AV.aH,AV.cells,AV.storable,hl,bQ,jU,bG,vI];refine⟨4,.func 187,[],[.box 2 0,.box 3 0],rfl,by decide,by simp[au],?_⟩;simp[au,fz,gM,AV.cT,oT]
def GD(out:List Int)(l:List (List End)):AV:=.slice (if l.isEmpty then .nil else .own 39) (l.map (aL out))
def F4(out:List Int)(l:List (List End)):AV:=.slice (if l.isEmpty then .nil else .view) (l.map (aL out))
def aa0 (hG:aw GI) {fA:List AV} {out:List Int} {ku:List (List End)} {p:List End→Bool} (hl:fA.length=11) (fx:∀ x∈fA,x.one=true) (hlen:ku.length≤100000) (bg:∀ es∈ku,es.length < 1000)
  (hit:vv prog GI 187 [.ref (fA.map AV.cT),.ref [vI out]] (ku.map (aL out))) (Xw:∀es∈ku,AC prog GI 149 [.agg (fA.map AV.cT),aL out es,.int .i64 0] (.ret (.bool (p es)))):
  AC prog GI 80 [.agg fA,vI out] (.ret (F4 out (ku.filter p))):=by
 refine AC.jw func80 rfl ntmps80 (by simp) λcc w=>?_
 refine eV hG c80.qa (λS' H'=>S' 1=vI out/\S' 2=.box 2 0/\H' 2=some (fA.map AV.aH)) ?_ ?_
 .simp[c80,af.qa,bL,bw,aG,bh,aD,ev,aQ.S,aQ.H,au,aY,AL.start,AV.aH,AV.cells,AV.storable,hl,bQ,bG,vI,aO]
 rintro S1 H1 ⟨s1,s2,h2⟩;refine eV hG c80.qb.qa (λS' H'=>S' 1=vI out/\S' 2=.box 2 0/\S' 5=.box 5 0/\H' 2=some (fA.map AV.aH)/\H' 5=some [.slice .nil []]) ?_ ?_
 .simp[c80,af.qa,af.qb,bL,bw,aG,bh,au,bQ,vI,aO,s1,s2,h2]
 rintro S2 H2 ⟨s1,s2,s5,h2,h5⟩;refine SW.seq (eV hG c80.qb.qb.qa.qa (λS' H'=>S' 2=.box 2 0/\S' 5=.box 5 0/\S' 9=.func (.func 187) [] [.ref (fA.map AV.cT),.ref [vI out]]/\H' 2=some (fA.map AV.aH)/\H' 5=some [.slice .nil []]) ?_ ?_)
 .have e7:fz H2 (.agg (fA.map AV.aH))=.agg (fA.map AV.cT):=by simp only[fz,gM,AV.vw,ad2,oT]
  have HJ:=Yh hG (fA:=fA.map AV.cT) (out:=out) (GI:=GI) (by simpa using hl);simp only[ad2,PB]at HJ;simp[c80,af.qa,af.qb,bL,bw,aG,bh,aD,ev,aQ.S,aQ.H,au,aY,b0,s1,s2,s5,h2,h5,aO,kC,hl,HR.okB,iD];have ht:List.take 11 (List.map AV.aH fA)=fA.map AV.aH:=acQ (by simp;omega);rw[ht,e7];refine⟨by kernel_rfl,_,HJ,by simp[da,vI,AV.aH],?_⟩;simp[j0,au,s2,s5,h2,h5]
 rintro S3 H3 ⟨s2,s5,s9,h2,h5⟩
 refine SW.block (SW.range hG dO (MJ:=.tmp 9) (y:=.t 9) (p:=10) (f:=187) (caps:=[.ref (fA.map AV.cT),.ref [vI out]]) (xs:=ku.map (aL out)) rfl s9 (by kernel_rfl) rfl hit (by decide) (λx hx=>by obtain⟨e,_,rfl⟩:=acZ.1 hx;rfl)
  (λd=>d==6) (aa:=.ops [⟨(some 6),none,.alloc 39 [(.slice .nil []),(.slice .nil [])]⟩,⟨none,none,.store .any 2 (.t 6) (.t 10)⟩]) (ab:=.block 1 (.seq (.ops [⟨some 11,none,.load .any true 11 (.t 2)⟩,⟨some 12,none,.load .any true 2 (.t 6)⟩,⟨some 13,none,.call 149 [(.t 11),(.t 12),(.c (.int .i64 0))]⟩]) (.cond (.t 13) (.ops [⟨some 14,none,.loadT .any (.t 5)⟩,⟨some 15,none,.load .any true 2 (.t 6)⟩,⟨some 16,none,.buildSlice 110 39 2 [(.t 15)]⟩,⟨some 17,none,.append 110 39 2 48 (.t 14) (.t 16)⟩,⟨none,none,.store .any 1 (.t 5) (.t 17)⟩]) .skip)))
  (by kernel_rfl) (by kernel_rfl) (by simp[af.names,bB.jb,dT.jb]) (by simp[af.names,bB.jb,dT.jb]) (λ_ _ h=>h) (by kernel_rfl) (by kernel_rfl)
  (λk H'=>H' 2=some (fA.map AV.aH)/\H' 5=some [GD out ((ku.take k).filter p)]) (λ_ _=>False) ⟨h2,h5⟩ ?_ ?_ ?_)
 .rintro k hk H' ⟨h2,h5⟩
  have dN:k<ku.length:=by simpa using hk
  have Fp:(ku.map (aL out))[k]=aL out ku[k]:=by simp
  have hf:=Xw ku[k] (acy dN)
  have oy:ku.take (k+1)=ku.take k++[ku[k]]:=by rw[acL dN]
  have e7:∀H,fz H (.agg (fA.map AV.aH))=.agg (fA.map AV.cT):=λH=>by simp only[fz,gM,AV.vw,ad2,oT]
  have e8:∀H,fz H (.agg [.slice .view (ints out),.slice .view (aS ku[k])])=aL out ku[k]:=λH=>rfl
  have e9:∀H,fz H (.int .i64 0)=.int .i64 0:=λH=>rfl
  have ht:List.take 11 (List.map AV.aH fA)=fA.map AV.aH:=acQ (by simp;omega)
  have Di:nO (λd=>d==6) (S3 2)=.box 2 0:=by rw[s2];rfl
  have lE:nO (λd=>d==6) (S3 5)=.box 5 0:=by rw[s5];rfl
  rw[Fp,oy,List.filter_append];simp[bL,bw,aG,bh,aD,ev,aQ.S,aQ.H,au,aY,aO,bQ,Di,lE,h2,h5,HR.okB,aL,AV.cells,AV.storable,AV.aH,bu,AV.bZ,bG,dE,dj,b0,iD,ht,kC,hl,e7,e8,e9];refine⟨by kernel_rfl,_,hf,by simp[da],?_⟩;have hL:(List.filter p (List.take k ku)).length<=100000:=adD (aeo _ _) (by simp;omega);generalize List.filter p (List.take k ku)=L at hL h5⊢
  have b_:aJ 2 (L.map (aL out))=true:=by simp[aJ,aL,AV.storable,AV.cells]
  cases hp:p ku[k]with
  |false=>simp[j0,rk,h2,h5,hp,au]
  |true=>
   cases L with
   |nil=>simp[j0,rk,hp,aJ,AV.storable,AV.cells,AV.vw,AV.cT,GD,AV.aH,HR.okB,au,bu,AV.bZ,aL,lE,h2]
   |cons x L=>
    have uW:L.length+1+1<1048576:=by simp at hL;omega
    simp[j0,rk,hp,aJ,AV.storable,AV.cells,AV.vw,AV.cT,GD,AV.aH,HR.okB,au,bu,AV.bZ,aL,lE,uW,h2]
 .rintro D H' hD ⟨h2,h5⟩;show SW prog GI 19 none (.seq _ .ret) _ _ _ _
  have lE:nO (λd=>d==6) (S3 5)=.box 5 0:=by rw[s5];rfl
  have oy:List.take (ku.map (aL out)).length ku=ku:=acQ (by simp);rw[oy]at h5;refine eV hG c80.qb.qb.qb.qa (λS' _=>S' 4=F4 out (ku.filter p)) ?_ ?_
  .generalize ku.filter p=L at h5⊢
   cases L<;>simp[c80,af.qa,af.qb,bL,bw,aG,bh,aD,ev,aQ.S,aQ.H,au,aY,b0,lE,h5,HR.okB,aO,GD,F4,AV.aH,bG]
  intro S4 H4 s4;refine SW.ret ⟨(eA.plain rfl).mark hD,rfl,_,?_,rfl⟩;show cL prog 19 [.tmp 4] S4 H4=_;simp[cL,dc,db,s4,F4,AV.bW,AV.out]
 .exact λ_ _ _ _ _ h=>h.elim
structure l6 where
 l:Int
 r:Int
 lo:Int
 hi:Int
def eb(p:l6):AV:=.agg [.int .i64 p.l,.int .i64 p.r,.int .i64 p.lo,.int .i64 p.hi]
def sc(p:l6):AV:=.agg [.int .i64 p.l,.int .i64 p.r]
def nD(p:l6):AV:=.agg [.int .i64 p.lo,.int .i64 p.hi]
def bT(ps:List l6):AV:=.map (ps.map sc) (ps.map nD)
def ZF(es:Array MapEntry)(ps:List l6):Prop:=es.size=ps.length/\∀i (h:i<es.size)(h':i<ps.length),(es[i]).key=.agg #[.int .i64 (ps[i]).l,.int .i64 (ps[i]).r]/\(es[i]).val=.agg #[.int .i64 (ps[i]).lo,.int .i64 (ps[i]).hi]
def MQ{Pr:Nat->Nat->Prop}{w:World}(x y:Int):RD Pr w (.agg [.int .i64 x,.int .i64 y]) (.agg #[.int .i64 x,.int .i64 y]):=by
 refine .agg _ _ rfl (λi hi=>?_) (λi hi cQ=>?_)
 .match i,hi with
  |0,_=>rfl
  |1,_=>rfl
 .match i,hi with
  |0,_=>exact .int _ _
  |1,_=>exact .int _ _
def yU(x y:Int):∀(ps:List l6),(∀p∈ps,¬(p.l=x/\p.r=y))->mO [x,y] (ps.map sc) (ps.map nD)=some none
 |[],_=>rfl
 |p::ps,h=>by
  have hp:([x,y]==[p.l,p.r])=false:=by
   have:=h p acS;simp only[adj,ne_eq,aeG,afZ];rintro⟨rfl,rfl⟩;exact this ⟨rfl,rfl⟩
  show mO [x,y] (sc p::ps.map sc) (nD p::ps.map nD)=some none;unfold mO;simp only[sc,kU,Option.map_some];simp only[List.length_cons,List.length_nil,ne_eq,aef,acW,hp,acI]
  exact yU x y ps λq hq=>h q (acH _ hq)
def oM(cc:Nat->Nat->Prop)(w:World)(b:Nat)(es:Array MapEntry)(clock:Nat):Old:={ Old.plain cc w with aR:=au (λ_=>none) b (some (.map es clock)) }
def Jh(sA:List AV)(ps:List l6)(z:List AV)(b j:Nat)(S:an)(H:aq):Prop:=
 S 2=.box 2 0/\S 3=.box 3 0/\S 10=.slice .view (ps.map eb)/\S 11=.int .i64 ps.length/\S 12=.int .i64 (j:Nat)/\H 2=some z/\H 3=some (sA.map AV.aH++[.val (.map (some b))])
def JS{Pr:Nat->Nat->Prop}{al:Nat->Option Nat}{w:World}{x y:Int}{c:Value}(h:RV Pr al w (.agg [.int .i64 x,.int .i64 y]) c):c=.agg #[.int .i64 x,.int .i64 y]:=by
 cases h with
 |data _ _ h=>
  cases h with
  |agg _ vs hl h1 hr=>
   congr 1
   apply aea
   .rw[<-hl];rfl
   .intro i hi cQ
    have oA:i<2:=by simpa using cQ
    match i,oA with
    |0,_=>exact(RV.data (al:=cD) _ _ (hr 0 (by simp) hi)).int_eq
    |1,_=>exact(RV.data (al:=cD) _ _ (hr 1 (by simp) hi)).int_eq
def Lc{b:Nat}{ks vs:List AV}{x:AV}(h:isVal x=false):qd b ks vs x.aH=x.aH:=by
 cases x<;>first|rfl|(cases h;done)|skip
 rename_i o es;cases o<;>rfl
def Ko{P:Program}{t kt el:TypeId}(h:(P.underlying t).map (λd=>match d with|.map k e=>some (k,e)|_=>none)=some (some (kt,el))):P.underlying t=some (.map kt el):=by
 cases hi:P.underlying t with
 |none=>rw[hi]at h;cases h
 |some d=>
  rw[hi]at h
  cases d<;>simp at h
  obtain⟨rfl,rfl⟩:=h;rfl
def AG:TypeDesc->Bool
 |.struct _=>true
 |_=>false
def C5{P:Program}{t:TypeId}(h:(P.underlying t).map AG=some true):∃fs,P.underlying t=some (.struct fs):=by
 cases hi:P.underlying t with
 |none=>rw[hi]at h;cases h
 |some d=>
  rw[hi]at h
  cases d<;>first|(cases h;done)|exact⟨_,rfl⟩
def uZ(t:TypeId)(h:(prog.underlying t).map AG=some true:=by kernel_rfl):∃fs,prog.underlying t=some (.struct fs):=C5 h
noncomputable def vY:af:=af.qb c79.qb.qb.qa.qb.qb.qb.qb
def abQ (hG:aw GI) {sA:List AV} {ps:List l6} (hl:sA.length=10) (xO:sA[1]? = some (.slice .view (ps.map eb))) (fx:∀ x∈sA,x.storable=true∧isVal x=false) (hlen:ps.length≤100000) (dF:∀ i j (hi:i < ps.length) (hj:j < ps.length),i < j→¬ ((ps[i]).l=(ps[j]).l∧(ps[i]).r=(ps[j]).r)) :
  AC prog GI 79 [.agg sA] (.ret (.agg ((sA++[bT ps]).map AV.cT))):=by
 refine AC.jw func79 rfl ntmps79 (by simp) λcc w=>?_
 refine eV hG c79.qa (λS' H'=>S' 1=.box 1 0/\S' 2=.box 2 0/\H' 1=some (sA.map AV.aH)/\∃z,H' 2=some z/\z.length=11) ?_ ?_
 .simp[c79,af.qa,bL,bw,aG,bh,aD,ev,aQ.S,aQ.H,au,aY,AL.start,AV.aH,AV.cells,AV.storable,hl,bQ,bG,aO]
 rintro S1 H1 ⟨s1,s2,h1,z,h2,hz⟩
 refine SW.seq (SW.mid hG (p:=1) (oh:={ dst:=some 7,op := .makeMap 106 none,type:=106,pos := "letter.go:113",after := #[],guard:=none }) (js:=[_]) (lv:=[_,_,_]) (l2:=[2,3,4]) rfl rfl rfl rfl (by kernel_rfl) rfl (λ_ h=>h) (lO:=(c79.qb.qa.dl).take 1) (lu:=(c79.qb.qa.dl).drop 2) (by kernel_rfl) (by kernel_rfl) (by kernel_rfl) (by kernel_rfl)
  (K1:=λS' H'=>S' 1=.box 1 0/\S' 2=.box 2 0/\S' 6=.agg (sA.map AV.aH)/\H' 1=some (sA.map AV.aH)/\H' 2=some z)
  (K2:=λo S' H'=>∃b,o=oM cc w b #[] 0/\S' 1=.box 1 0/\S' 2=.box 2 0/\S' 6=.agg (sA.map AV.aH)/\S' 7=.val (.map (some b))/\H' 1=some (sA.map AV.aH)/\H' 2=some z)
  (K3:=λo S' H'=>∃b,o=oM cc w b #[] 0/\S' 1=.box 1 0/\S' 2=.box 2 0/\S' 3=.box 3 0/\H' 1=some (sA.map AV.aH)/\H' 2=some z/\H' 3=some (sA.map AV.aH++[.val (.map (some b))])) ?_ ?_ ?_ ?_)
 .have ht:List.take 10 (sA.map AV.aH)=sA.map AV.aH:=acQ (by simp;omega);simp[c79,af.qa,af.qb,af.dl,bw,aG,bh,aD,ev,aQ.S,aQ.H,au,aY,b0,s1,s2,h1,h2,HR.okB,hl,iD,ht]
 .rintro w0 g S2 H2 a w2 ho R ⟨s1,s2,s6,h1,h2⟩;have R2:=R.nn (.map #[] 0);refine⟨_,_,_,au S2 7 (.val (.map (some w2.heap.size))),H2,.inl (run_makeMap rfl),R2.put 7 (.val (.map (some w2.heap.size))) _ (by decide) (.data _ _ (.val _ rfl)) trivial,w2.heap.size,?_,by simp[au,s1],by simp[au,s2],by simp[au,s6],by simp[au],h1,h2⟩;show({ g.old with aR:=au g.old.aR w2.heap.size (some (.map #[] 0)) }:Old)=_;rw[ho];rfl
 .rintro o S2 H2 ⟨b,rfl,s1,s2,s6,s7,h1,h2⟩;refine⟨λ_ h=>h,?_⟩
  have gw:∀x∈sA.map AV.aH,x.storable=true:=by
   intro x hx;obtain⟨y,hy,rfl⟩:=acZ.1 hx;rw[AV.uj];exact(fx y hy).1
  have iS:∀c:AV,bu (bu [.slice .nil [],.slice .nil [],.int .i64 0,.int .i64 0,.int .i64 0,.int .i64 0,.int .i64 0,.slice .nil [],.int .i64 0,.int .i64 0,.map [] []] 0 (sA.map AV.aH)) 10 [c]=sA.map AV.aH++[c]:=by
   intro c
   have e1:bu [.slice .nil [],.slice .nil [],.int .i64 0,.int .i64 0,.int .i64 0,.int .i64 0,.int .i64 0,.slice .nil [],.int .i64 0,.int .i64 0,.map [] []] 0 (sA.map AV.aH)=sA.map AV.aH++[AV.map [] []]:=by
    simp[bu,hl]
   rw[e1];simp[bu,hl]
  have acq:∀c:AV,bu [.slice .nil [],.slice .nil [],.int .i64 0,.int .i64 0,.int .i64 0,.int .i64 0,.int .i64 0,.slice .nil [],.int .i64 0,.int .i64 0,.map [] []] 0 (sA.map AV.aH++[c])=sA.map AV.aH++[c]:=by
   intro c;simp[bu,hl]
  have Gp:(bu [AV.slice .nil [],.slice .nil [],.int .i64 0,.int .i64 0,.int .i64 0,.int .i64 0,.int .i64 0,.slice .nil [],.int .i64 0,.int .i64 0,.map [] []] 0 (sA.map AV.aH)).length=11:=by simp[bu,hl]
  simp[c79,af.qa,af.qb,af.dl,bw,aG,bh,aD,ev,aQ.S,aQ.H,au,aY,bV,s6,s7,AV.cells,AV.aH,AV.storable,hl,Gp,iS]
  have e3:(List.map AV.aH sA++[AV.val (Value.map (some b))]).map AV.aH=List.map AV.aH sA++[AV.val (Value.map (some b))]:=by simp[iD,AV.aH]
  simp[HR.okB,bQ,bG,AV.bZ,hl,iD,AV.aH,au,h1,h2,s1,s2];simp[bu,hl]
 .rintro o S2 H2 ⟨b,rfl,s1,s2,s3,h1,h2,h3⟩;show SW prog GI 27 none (.seq (.seq _ (.block 0 (.loop _))) (.seq _ .ret)) _ _ _ _;refine SW.seq (eV hG c79.qb.qb.qa.qa (λS' H'=>S' 2=.box 2 0/\S' 3=.box 3 0/\S' 10=.slice .view (ps.map eb)/\S' 11=.int .i64 ps.length/\S' 12=.int .i64 0/\H' 2=some z/\H' 3=some (sA.map AV.aH++[.val (.map (some b))])) ?_ ?_)
  .have CO:(sA.map AV.aH)[1]?=some (.slice .view (ps.map eb)):=by rw[ac1,xO];rfl
   simp[c79,af.qa,af.qb,bL,bw,aG,bh,aD,aO,ev,aQ.S,aQ.H,au,aY,b0,s1,s2,s3,h1,h2,h3,HR.okB,CO,AV.aH]
  rintro S3 H3 ⟨s2,s3,cb,ck,cJ,h2,h3⟩
  refine SW.block (SW.loop (λo S' H'=>∃j es clock,j<=ps.length/\o=oM cc w b es clock/\ZF es (ps.take j)/\S' 2=.box 2 0/\S' 3=.box 3 0/\S' 10=.slice .view (ps.map eb)/\S' 11=.int .i64 ps.length/\S' 12=.int .i64 (j:Nat)/\H' 2=some z/\H' 3=some (sA.map AV.aH++[.val (.map (some b))]))
   (λS' _=>match S' 12 with|.int _ j=>ps.length-j.toNat|_=>0) ⟨0,#[],0,adr _,rfl,⟨by simp,λi h=>by simp at h⟩,s2,s3,cb,ck,cJ,h2,h3⟩ ?_)
  rintro o S4 H4 ⟨j,es,clock,hj,rfl,se,s2,s3,cb,ck,cJ,h2,h3⟩;have m12:=cJ;show SW prog GI 27 none (.seq _ (.seq (.cond _ _ _) (.seq (.block 1 (.seq _ _)) _))) _ _ _ _;refine eV hG c79.qb.qb.qa.qb.qb.qb.qa (λS' H'=>S' 13=.bool (decide (j<ps.length))/\Jh sA ps z b j S' H') ?_ ?_
  .simp[c79,af.qa,af.qb,bL,bw,aG,bh,aD,aO,ev,aQ.S,aQ.H,au,aY,Jh,s2,s3,cb,ck,cJ,h2,h3,eF]
  rintro S5 H5 ⟨dw,hF⟩
  by_cases av:j<ps.length
  case neg=>
   refine SW.seq (SW.cond rfl false (by show S5 13=_;rw[dw];simp[av]) (SW.exit ?_))
   have o_:j=ps.length:=by omega
   subst o_;rw[adG]at se;obtain⟨s2,s3,cb,ck,cJ,h2,h3⟩:=hF;show SW prog GI 27 none (.seq _ .ret) _ _ _ _;refine eV hG c79.qb.qb.qb.qa (λS' H'=>S' 2=.box 2 0/\H' 2=some (sA.map AV.aH++[.val (.map (some b))])) ?_ ?_
   .have e3:(List.map AV.aH sA++[AV.val (Value.map (some b))]).map AV.aH=List.map AV.aH sA++[AV.val (Value.map (some b))]:=by simp[iD,AV.aH]
    have ht:List.take 11 (List.map AV.aH sA++[AV.val (Value.map (some b))])=List.map AV.aH sA++[AV.val (Value.map (some b))]:=acQ (by simp[hl]);have WY:List.drop 11 z=[]:=adU (by omega);simp[c79,af.qa,af.qb,bL,bw,aG,bh,aD,aO,ev,aQ.S,aQ.H,au,aY,s2,s3,h2,h3,b0,HR.okB,hl,AV.cells,AV.storable,AV.bZ,bu,bG,iD,AV.aH,ht,hz,WY]
   rintro S6 H6 ⟨s2,h2⟩;refine SW.ghost (K:=λo S' H'=>eA o/\o.c=cc/\S' 2=.box 2 0/\H' 2=some (sA.map AV.aH++[bT ps])) ?_ ?_
   .intro w0 g a w' hg R
    have hk:g.old.aR b=some (.map es clock):=by rw[hg];show au (λ_=>none) b _ b=_;exact aK _ _ _
    obtain⟨g2,nR,R2⟩:=R.Qs hk (ps.map sc) (ps.map nD) (by simpa using se.1.symm) (by simpa using se.1.symm) (λi h h'=>by
     simp only[acC]at h;simp only[acM,(se.2 i h' h).1]
     exact MQ _ _) (λi h h'=>by
     simp only[acC]at h;simp only[acM,(se.2 i h' h).2]
     exact MQ _ _) (by rw[hg];rfl)
    refine⟨g2,_,_,R2,eA.plain (by rw[nR,hg];rfl),by rw[nR,hg];rfl,by simp[s2],?_⟩
    have hgm:(sA.map AV.aH).map (qd b (ps.map sc) (ps.map nD))=sA.map AV.aH:=by
     rw[ad2]
     exact adC λx hx=>Lc (fx x hx).2
    show(H6 2).map _=_;rw[h2];simp only[Option.map_some,ada,hgm,ac5,adp];simp[qd,bT]
   .rintro o S7 H7 ⟨hm,hc,s2,h2⟩;obtain⟨i103,W_,Yj⟩:=iZ 108 11;obtain⟨fs,gv⟩:=uZ 108;refine SW.ret ⟨hm,hc,_,?_,rfl⟩;show cL prog 27 [.cell 2 108] S7 H7=_;have ht:List.take 11 (sA.map AV.aH++[bT ps])=sA.map AV.aH++[bT ps]:=acQ (by simp[hl]);have iS:(bT ps).aH=bT ps:=rfl;have AS:(bT ps).cT=bT ps:=rfl;simp[cL,dc,db,s2,h2,W_,gv,Yj,b0,eh,hl,AV.out,iS,AS,iD,oT];exact acQ (by simp[hl])
  case pos=>
   refine SW.seq (SW.cond rfl true (by show S5 13=_;rw[dw];simp[av]) (SW.skip ?_));show SW prog GI 27 none (.seq (.block 1 (.seq _ _)) _) _ _ _ _;obtain⟨s2,s3,cb,ck,cJ,h2,h3⟩:=hF;refine SW.seq (SW.block (eV hG c79.qb.qb.qa.qb.qb.qb.qb.qb.qa.qb.qa (λS' H'=>S' 5=.box 5 0/\H' 5=some (eb ps[j]).cells/\Jh sA ps z b j S' H') ?_ ?_))
   .have bP:¬(j:Int)<0:=by omega
    simp[c79,af.qa,af.qb,bL,bw,aG,bh,aD,aO,ev,aQ.S,aQ.H,au,aY,Jh,s2,s3,cb,ck,cJ,h2,h3,av,b0,eb,AV.cells,AV.aH,bQ,HR.okB,AV.storable,bu,AV.bZ,bG]
   rintro S6 H6 ⟨s5,h5,s2,s3,cb,ck,cJ,h2,h3⟩
   have XS:∀q∈ps.take j,¬(q.l=ps[j].l/\q.r=ps[j].r):=by
    intro q hq;obtain⟨i,hi,rfl⟩:=adm hq
    have py:i<j:=by simp at hi;omega
    rw[ae3];exact dF i j (by omega) av py
   refine SW.mid hG (p:=9) (oh:={ dst:=none,op := .mapUpdate 106 (.tmp 17) (.tmp 22) (.tmp 24),type:=0,pos := "letter.go:115",after:=_,guard:=none }) (js:=[_,_,_,_,_,_,_,_,_]) (lv:=[]) (l2:=[]) rfl rfl rfl rfl (by kernel_rfl) rfl (λ_ h=>h) (lO:=(vY.qa.qb.qb.dl).take 9) (lu:=[]) (by kernel_rfl) rfl (by kernel_rfl) rfl
    (K1:=λS' H'=>S' 17=.val (.map (some b))/\S' 22=.agg [.int .i64 ps[j].l,.int .i64 ps[j].r]/\S' 24=.agg [.int .i64 ps[j].lo,.int .i64 ps[j].hi]/\Jh sA ps z b j S' H')
    (K2:=λo S' H'=>o=oM cc w b (es.push { key:=.agg #[.int .i64 ps[j].l,.int .i64 ps[j].r],val:=.agg #[.int .i64 ps[j].lo,.int .i64 ps[j].hi],born:=clock }) (clock+1)/\Jh sA ps z b j S' H')
    (K3:=λo S' H'=>o=oM cc w b (es.push { key:=.agg #[.int .i64 ps[j].l,.int .i64 ps[j].r],val:=.agg #[.int .i64 ps[j].lo,.int .i64 ps[j].hi],born:=clock }) (clock+1)/\Jh sA ps z b j S' H') ?_ ?_ ?_ ?_
   .have Z1:(List.map AV.aH sA++[AV.val (Value.map (some b))])[10]? = some (.val (.map (some b))):=by
     rw[adN (by simp[hl])];simp[hl]
    have aaN:List.drop 10 (List.map AV.aH sA++[AV.val (Value.map (some b))])=[AV.val (Value.map (some b))]:=by
     rw[afG (by simp[hl]),adU (by simp[hl])];rfl
    simp[c79,vY,af.qa,af.qb,af.dl,bw,aG,bh,aD,ev,aQ.S,aQ.H,au,aY,Jh,s2,s3,s5,cb,ck,cJ,h2,h3,h5,b0,eb,AV.cells,AV.aH,HR.okB,AV.storable,bV,bu,Z1,aaN]
   .rintro w0 g S7 H7 a w7 hg R ⟨mo,yv,zQ,hF⟩;have t17:=R.slot 17 (by decide) (λh=>h);rw[mo]at t17;have t17:=t17.fY;have t22:=R.slot 22 (by decide) (λh=>h);rw[yv]at t22;have t22:=JS t22;have t24:=R.slot 24 (by decide) (λh=>h);rw[zQ]at t24;have t24:=JS t24
    have hk:g.old.aR b=some (.map es clock):=by rw[hg];show au (λ_=>none) b _ b=_;exact aK _ _ _
    have hb:=(R.kept b _ hk).2.1;have ep:=Ko (P:=prog) (t:=106) (kt:=175) (el:=26) (by kernel_rfl);obtain⟨fs,gv⟩:=uZ 175;have wV:(ps.take j).length=es.size:=se.1.symm;refine⟨undef,_,_,S7,H7,.inr ⟨J8 (Pr:=λ_ _=>False) (ks:=(ps.take j).map sc) (vs:=(ps.take j).map nD) (key:=[ps[j].l,ps[j].r]) rfl ep gv (k:=2) (by kernel_rfl) t17 t22 t24 hb rfl (by simpa using wV) (by simpa using wV) (λi h h'=>?_) (λi h h'=>?_) (yU _ _ _ XS),rfl⟩,R.kn hk _,?_,hF⟩
    .simp only[acC]at h;simp only[acM,(se.2 i h' h).1];exact MQ _ _
    .simp only[acC]at h;simp only[acM,(se.2 i h' h).2];exact MQ _ _
    .show({ g.old with aR:=au g.old.aR b _ }:Old)=_;rw[hg];simp only[oM,Old.mk.injEq,agd,afZ]
     funext c
     by_cases hc:c=b
     .subst hc;simp[au,fX]
     .simp[au,hc]
   .rintro o S7 H7 h;exact⟨by rw[h.1];exact λ_ h=>h,h⟩
   .rintro o S7 H7 ⟨rfl,s2,s3,cb,ck,cJ,h2,h3⟩;show SW prog GI 27 none _ _ _ _ _;refine SW.pF hG dO (by kernel_rfl) (λ_ _ h=>h) (ac:=af.qb vY) (by kernel_rfl) ?_;have qM:IntKind.i64.wrap ((j:Int)+1)=j+1:=aP (by omega)
    have Ww:ZF (es.push { key:=.agg #[.int .i64 ps[j].l,.int .i64 ps[j].r],val:=.agg #[.int .i64 ps[j].lo,.int .i64 ps[j].hi],born:=clock }) (ps.take (j+1)):=by
     have hts:ps.take (j+1)=ps.take j++[ps[j]]:=by rw[acL av]
     rw[hts];refine⟨by simp[se.1];omega,λi h h'=>?_⟩
     by_cases hi:i<es.size
     .have oA:i<(ps.take j).length:=by rw[<-se.1];exact hi
      have:=se.2 i hi oA;rw[Array.getElem_push_lt hi,ac9 oA];exact this
     .have GG:i=es.size:=by simp at h;omega
      subst GG
      have oA:(ps.take j).length<=es.size:=by rw[<-se.1];exact acD _
      rw[Array.getElem_push_eq,adF oA];simp
    simp[c79,vY,af.qa,af.qb,bL,bw,aG,bh,aD,ev,aQ.S,aQ.H,au,aY,s2,s3,cb,ck,cJ,h2,h3,eF,AV.aH,qM,ij.bL,thenS];refine⟨⟨j+1,av,_,⟨_,rfl⟩,Ww,by omega⟩,?_⟩;rw[m12];show ps.length-(j+1)<ps.length-(j:Int).toNat;rw[Int.toNat_natCast];omega
structure Word where
 aM:List Int
 cd:List Int
 free:Bool
def cZ(w:Word):AV:=.agg [vI w.aM,vI w.cd,.bool w.free]
structure ab3 where
 Ts:List AV
 cut:Bool
def EX(l:ab3):AV:=.agg [.slice .view l.Ts,.bool l.cut]
def ML(GI:World->Prop):Prop:=∀w,GI w->∃m,w.cell? ⟨1,0,none⟩=some (.int .i64 m)
def lY{w0:World}{n:Nat}{g:Gh}{S:an}{H:aq}{a:Act}{w:World}(R:Rel prog w0 n bz g S H a w){t i:Nat}(ht:t<n)(hs:S t=.box i 0):∃b,g.al i=some b/\a.tmps.getD t undef=.pointer (some ⟨b,0,none⟩):=by
 have h:=R.slot t ht id;rw[hs]at h;generalize a.tmps.getD t undef=c at h
 cases h with
 |data _ _ h=>cases h
 |box _ _ b h=>exact⟨b,h,rfl⟩
def tG{w0:World}{n:Nat}{g:Gh}{S:an}{H:aq}{a:Act}{w:World}(R:Rel prog w0 n bz g S H a w){t:Nat}{k:Int}(ht:t<n)(hs:S t=.int .i64 k):a.tmps.getD t undef=.int .i64 k:=by
 have h:=R.slot t ht id;rw[hs]at h;exact h.int_eq
def XX{Pr:Nat->Nat->Prop}{al:Nat->Option Nat}{w:World}{x y:Int}{c:Value}(h:RV Pr al w (.agg [.int .i64 x,.int .i64 y]) c):c=.agg #[.int .i64 x,.int .i64 y]:=by
 cases h with
 |data _ _ h=>
  cases h with
  |agg cs vs hl lj hr=>
   have hs:vs.size=2:=by rw[<-hl];rfl
   have h0:=(RV.data (al:=cD) _ _ (hr 0 (by simp) (by omega))).int_eq;have h1:=(RV.data (al:=cD) _ _ (hr 1 (by simp) (by omega))).int_eq
   congr 1
   apply aea
   .simpa using hs
   .intro i h2 h3
    match i,h3 with
    |0,_=>exact h0
    |1,_=>exact h1
end Go.Proofs.Tryz
namespace Go.AL
def kq(c:UInt8):List UInt8->List (List UInt8)
 |[]=>[[]]
 |b::l=>if b=c then[]::kq c l else match kq c l with
  |[]=>[[b]]
  |p::ps=>(b::p)::ps
def Fa{b c:UInt8}(h:b≠c)(k:Nat)(l:List UInt8):Lib.splitK [c] 0 k (b::l)=match Lib.splitK [c] 0 k l with|[]=>[[b]]|p::ps=>(b::p)::ps:=by
 cases k with
 |zero=>rfl
 |succ k=>
  have hp:[c].isPrefixOf (b::l)=false:=by simp[List.isPrefixOf];exact λe=>(h e.symm).elim
  unfold Lib.splitK
  have hi:Lib.index (b::l) [c]=if Lib.index l [c]== -1 then-1 else Lib.index l [c]+1:=by
   rw[Lib.index];simp[hp]
  rw[hi];have hg:=Lib.index_ge l [c]
  by_cases h1:Lib.index l [c]= -1
  .simp[h1]
  .have h2:(Lib.index l [c]== -1)=false:=by simpa using h1
   have h3:(Lib.index l [c]+1== -1)=false:=by simp;omega
   simp only[h2,acI,acW,h3]
   have e:(Lib.index l [c]+1).toNat=(Lib.index l [c]).toNat+1:=by omega
   rw[e];simp[Nat.add_right_comm]
def xX(c:UInt8):∀l:List UInt8,Lib.splitK [c] 0 (l.count c) l=kq c l
 |[]=>rfl
 |b::l=>by
  by_cases h:b=c
  .subst h
   have hp:[b].isPrefixOf (b::l)=true:=by simp[List.isPrefixOf]
   have hi:Lib.index (b::l) [b]=0:=by rw[Lib.index];simp[hp]
   rw[List.count_cons_self,Lib.splitK,hi];simp[kq,xX b l]
  .rw[List.count_cons_of_ne h,Fa h,xX c l,kq,if_neg h]
def rT{α:Type}(d:AV->Option α):List AV->Option (List α)
 |[]=>some []
 |x::l=>match d x with
  |some a=>match rT d l with
   |some r=>some (a::r)
   |none=>none
  |none=>none
def J7:AV->Option Int
 |.int .i64 n=>some n
 |_=>none
def TQ:AV->Option (List Int)
 |.slice .view es=>rT J7 es
 |_=>none
section
variable{P:Program}{GI:World->Prop}
def kO(P:Program)(GI:World->Prop)(rest:List bB)(K:an->aq->Prop)(Qp:AV->Prop)(S:an)(dst:Option Nat)(H:aq)(v:AV):Prop:=bw P GI rest K Qp (aY S dst v) H
def kD(P:Program)(GI:World->Prop)(rest:List bB)(K:an->aq->Prop)(S:an)(dst:Option Nat)(H:aq)(v:AV):Prop:=cq P GI rest K (aY S dst v) H
def iJ(P:Program)(GI:World->Prop)(y:af)(Q:cw->an->aq->Prop)(e:cw)(S:an)(H:aq):Prop:=dE (bL P GI y Q) Q e S H
def jF(Q:cw->an->aq->Prop)(S:an)(H:aq)(v:AV):Prop:=Q (.panic v) S H
def eL(K Qp S H):bw P GI [] K Qp S H=K S H:=(Eq.refl _).trans (Eq.refl _)
def dV(K S H):cq P GI [] K S H=K S H:=(Eq.refl _).trans (Eq.refl _)
def dW (f args d g rest K Qp S H):bw P GI (⟨d,g,.call f args⟩::rest) K Qp S H=(match aG S g with
  |some true=>kC P GI f (args.map λy=>fz H (ev S y)) (args.any λy=>da (ev S y)) (kO P GI rest K Qp S d H) Qp
  |some false=>bw P GI rest K Qp (aY S d bO) H
  |none=>False):=(Eq.refl _).trans (Eq.refl _)
def du (f args d g rest K Qp S H):bw P GI (⟨d,g,.fc f args⟩::rest) K Qp S H=(match aG S g with
  |some true=>(match ev S f with
   |.func (.func k) first cap=>kC P GI k ((first++args.map (ev S)++cap).map (fz H)) ((first++args.map (ev S)++cap).any da) (kO P GI rest K Qp S d H) Qp
   |_=>False)
  |some false=>bw P GI rest K Qp (aY S d bO) H
  |none=>False):=(Eq.refl _).trans (Eq.refl _)
abbrev OE(P:Program)(GI:World->Prop)(op:dT):Prop:=∀d g rest K Qp S H,bw P GI (⟨d,g,op⟩::rest) K Qp S H=(match aG S g with|some true=>(match aD S H op with|some e=>bw P GI rest K Qp (e.S S d) (e.H H)|none=>False)|some false=>bw P GI rest K Qp (aY S d bO) H|none=>False)
abbrev DE(P:Program)(GI:World->Prop)(op:dT):Prop:=∀d g rest K S H,cq P GI (⟨d,g,op⟩::rest) K S H=(match aG S g with|some true=>(match aD S H op with|some e=>cq P GI rest K (e.S S d) (e.H H)|none=>False)|some false=>cq P GI rest K (aY S d bO) H|none=>False)
def dp(t zero d rest K Qp S H):bw P GI (⟨some d,none,.alloc t zero⟩::rest) K Qp S H=bw P GI rest K Qp (au (λt=>bQ d (S t)) d (.box d 0)) (au H d (some zero)):=(Eq.refl _).trans (Eq.refl _)
def eJ(t size x d rest K Qp S H):bw P GI (⟨some d,none,.box t size x⟩::rest) K Qp S H=((ev S x).cells.length=size/\(ev S x).storable=true/\bw P GI rest K Qp (au (λt=>bQ d (S t)) d (.box d 0)) (au H d (some ((ev S x).cells.map AV.aH)))):=(Eq.refl _).trans (Eq.refl _)
def dq (f args d g rest K S H):cq P GI (⟨d,g,.call f args⟩::rest) K S H=(match aG S g with
  |some true=>(args.any λy=>da (ev S y))=false/\kC P GI f (args.map λy=>fz H (ev S y)) (args.any λy=>da (ev S y)) (kD P GI rest K S d H) (λ_=>False)
  |some false=>cq P GI rest K (aY S d bO) H
  |none=>False):=(Eq.refl _).trans (Eq.refl _)
def cU(t zero d rest K S H):cq P GI (⟨some d,none,.alloc t zero⟩::rest) K S H=cq P GI rest K (au S d (.box d 0)) H:=(Eq.refl _).trans (Eq.refl _)
def gG(rest K Qp S d H v):kO P GI rest K Qp S d H v=bw P GI rest K Qp (aY S d v) H:=(Eq.refl _).trans (Eq.refl _)
def gD(rest K S d H v):kD P GI rest K S d H v=cq P GI rest K (aY S d v) H:=(Eq.refl _).trans (Eq.refl _)
def fb :
  (∀x0 x1,OE P GI (.mv x0 x1))/\
  (∀x0 x1 x2,OE P GI (.pick x0 x1 x2))/\
  (∀x0 x1,OE P GI (.build x0 x1))/\
  (∀x0 x1 x2 x3,OE P GI (.buildSlice x0 x1 x2 x3))/\
  (∀x0 x1 x2 x3,OE P GI (.load x0 x1 x2 x3))/\
  (∀x0 x1,OE P GI (.loadT x0 x1))/\
  (∀x0 x1 x2 x3,OE P GI (.store x0 x1 x2 x3))/\
  (∀x0 x1 x2,OE P GI (.bin x0 x1 x2))/\
  (∀x0 x1 x2,OE P GI (.Bp x0 x1 x2))/\
  (∀x0 x1 x2 x3,OE P GI (.eqs x0 x1 x2 x3))/\
  (∀x0 x1 x2 x3 x4,OE P GI (.lK x0 x1 x2 x3 x4))/\
  (∀x0,OE P GI (.v_ x0))/\
  (∀x0,OE P GI (.mZ x0))/\
  (∀x0 x1 x2,OE P GI (.ng x0 x1 x2))/\
  (∀x0 x1 x2 x3,OE P GI (.lookup x0 x1 x2 x3))/\
  (∀x0,OE P GI (.not x0))/\
  (∀x0 x1,OE P GI (.conv x0 x1))/\
  (∀x0 x1,OE P GI (.iface x0 x1))/\
  (∀x0 x1 x2,OE P GI (.Dz x0 x1 x2))/\
  (∀x0 x1 x2,OE P GI (.nc x0 x1 x2))/\
  (∀x0 x1 x2 x3,OE P GI (.lH x0 x1 x2 x3))/\
  (∀x0 x1,OE P GI (.ou x0 x1))/\
  (∀x0 x1,OE P GI (.fieldAddr x0 x1))/\
  (∀x0 x1 x2,OE P GI (.indexAddr x0 x1 x2))/\
  (∀x0 x1,OE P GI (.m_ x0 x1))/\
  (∀x0 x1,OE P GI (.extract x0 x1))/\
  (∀x0,OE P GI (.wU x0))/\
  (∀x0,OE P GI (.iW x0))/\
  (∀x0 x1,OE P GI (.isNil x0 x1))/\
  (∀x0,OE P GI (.empty x0))/\
  (∀x0 x1 x2 x3 x4 x5,OE P GI (.append x0 x1 x2 x3 x4 x5))/\
  (∀x0 x1,OE P GI (.max x0 x1))/\
  (∀x0 x1,OE P GI (.min x0 x1))/\
  (∀x0 x1 x2,OE P GI (.assert x0 x1 x2)):=by
 refine⟨?_,?_,?_,?_,?_,?_,?_,?_,?_,?_,?_,?_,?_,?_,?_,?_,?_,?_,?_,?_,?_,?_,?_,?_,?_,?_,?_,?_,?_,?_,?_,?_,?_,?_⟩<;>intros<;>intro d<;>intros<;>rfl
def eu :
  (∀x0 x1,DE P GI (.mv x0 x1))/\
  (∀x0 x1 x2,DE P GI (.pick x0 x1 x2))/\
  (∀x0 x1,DE P GI (.build x0 x1))/\
  (∀x0 x1 x2 x3,DE P GI (.buildSlice x0 x1 x2 x3))/\
  (∀x0 x1 x2 x3,DE P GI (.load x0 x1 x2 x3))/\
  (∀x0 x1,DE P GI (.loadT x0 x1))/\
  (∀x0 x1 x2 x3,DE P GI (.store x0 x1 x2 x3))/\
  (∀x0 x1 x2,DE P GI (.bin x0 x1 x2))/\
  (∀x0 x1 x2,DE P GI (.Bp x0 x1 x2))/\
  (∀x0 x1 x2 x3,DE P GI (.eqs x0 x1 x2 x3))/\
  (∀x0 x1 x2 x3 x4,DE P GI (.lK x0 x1 x2 x3 x4))/\
  (∀x0,DE P GI (.v_ x0))/\
  (∀x0,DE P GI (.mZ x0))/\
  (∀x0 x1 x2,DE P GI (.ng x0 x1 x2))/\
  (∀x0 x1 x2 x3,DE P GI (.lookup x0 x1 x2 x3))/\
  (∀x0,DE P GI (.not x0))/\
  (∀x0 x1,DE P GI (.conv x0 x1))/\
  (∀x0 x1,DE P GI (.iface x0 x1))/\
  (∀x0 x1 x2,DE P GI (.Dz x0 x1 x2))/\
  (∀x0 x1 x2,DE P GI (.nc x0 x1 x2))/\
  (∀x0 x1 x2 x3,DE P GI (.lH x0 x1 x2 x3))/\
  (∀x0 x1,DE P GI (.ou x0 x1))/\
  (∀x0 x1,DE P GI (.fieldAddr x0 x1))/\
  (∀x0 x1 x2,DE P GI (.indexAddr x0 x1 x2))/\
  (∀x0 x1,DE P GI (.m_ x0 x1))/\
  (∀x0 x1,DE P GI (.extract x0 x1))/\
  (∀x0,DE P GI (.wU x0))/\
  (∀x0,DE P GI (.iW x0))/\
  (∀x0 x1,DE P GI (.isNil x0 x1))/\
  (∀x0,DE P GI (.empty x0))/\
  (∀x0 x1 x2 x3 x4 x5,DE P GI (.append x0 x1 x2 x3 x4 x5))/\
  (∀x0 x1,DE P GI (.max x0 x1))/\
  (∀x0 x1,DE P GI (.min x0 x1))/\
  (∀x0 x1 x2,DE P GI (.assert x0 x1 x2)):=by
 refine⟨?_,?_,?_,?_,?_,?_,?_,?_,?_,?_,?_,?_,?_,?_,?_,?_,?_,?_,?_,?_,?_,?_,?_,?_,?_,?_,?_,?_,?_,?_,?_,?_,?_,?_⟩<;>intros<;>intro d<;>intros<;>rfl
def dP :
  (∀Q S H,bL P GI .skip Q S H=Q .normal S H)/\
  (∀l Q S H,bL P GI (.ops l) Q S H=bw P GI l (Q .normal) (jF Q S H) S H)/\
  (∀l Q S H,bL P GI (.cq l) Q S H=cq P GI l (Q .normal) (eo l S) (dG l H))/\
  (∀x y Q S H,bL P GI (.seq x y) Q S H=bL P GI x (iJ P GI y Q) S H)/\
  (∀c x y Q S H,bL P GI (.cond c x y) Q S H=(match ev S c with
   |.bool true=>bL P GI x Q S H
   |.bool false=>bL P GI y Q S H
   |.lk=>bL P GI x Q S H/\bL P GI y Q S H
   |_=>False))/\
  (∀id c Q S H,bL P GI (.block id c) Q S H=bL P GI c (dj id Q) S H)/\
  (∀id Q S H,bL P GI (.exit id) Q S H=Q (.exit id) S H)/\
  (∀Q S H,bL P GI .ret Q S H=Q .ret S H)/\
  (∀y Q S H,iJ P GI y Q .normal S H=bL P GI y Q S H)/\
  (∀y Q id S H,iJ P GI y Q (.exit id) S H=Q (.exit id) S H)/\
  (∀y Q S H,iJ P GI y Q .ret S H=Q .ret S H)/\
  (∀y Q v S H,iJ P GI y Q (.panic v) S H=Q (.panic v) S H):=by
 refine⟨?_,?_,?_,?_,?_,?_,?_,?_,?_,?_,?_,?_⟩<;>intros<;>rfl
def fu :
  (∀id Q S H,dj id Q .normal S H=Q .normal S H)/\
  (∀id j Q S H,dj id Q (.exit j) S H=if j=id then Q .normal S H else Q (.exit j) S H)/\
  (∀id Q S H,dj id Q .ret S H=Q .ret S H)/\
  (∀id Q v S H,dj id Q (.panic v) S H=Q (.panic v) S H)/\
  (∀K Q S H,dE K Q .normal S H=K S H)/\
  (∀K Q id S H,dE K Q (.exit id) S H=Q (.exit id) S H)/\
  (∀K Q S H,dE K Q .ret S H=Q .ret S H)/\
  (∀K Q v S H,dE K Q (.panic v) S H=Q (.panic v) S H)/\
  (∀K S H,aO K .normal S H=K S H)/\
  (∀K id S H,aO K (.exit id) S H=False)/\
  (∀K S H,aO K .ret S H=False)/\
  (∀K v S H,aO K (.panic v) S H=False)/\
  (∀Q S H v,jF Q S H v=Q (.panic v) S H)/\
  (∀v K Qp,j0 (.ret v) K Qp=K v)/\
  (∀v K Qp,j0 (.panic v) K Qp=Qp v):=by
 refine⟨?_,?_,?_,?_,?_,?_,?_,?_,?_,?_,?_,?_,?_,?_,?_⟩<;>intros<;>rfl
end
section
variable{P:Program}{GI:World->Prop}
def y5{f:Nat}{args:List AV}{b:Bool}{K K':AV->Prop}{Qp ID:AV->Prop}(hK:∀v,K v->K' v)(hQ:∀v,Qp v->ID v)(h:kC P GI f args b K Qp):kC P GI f args b K' ID:=by
 obtain⟨out,h1,h2,h3,h4⟩:=h;refine⟨out,h1,h2,h3,?_⟩
 cases out with
 |ret v=>exact hK _ h4
 |panic v=>exact hQ _ h4
def nq{op:dT}{dst:Option Nat}{K K':an->aq->Prop}{Qp ID:AV->Prop}(hK:∀S H,K S H->K' S H)(hQ:∀v,Qp v->ID v){S:an}{H:aq}(h:bh P GI op dst K Qp S H):bh P GI op dst K' ID S H:=by
 by_cases hc:op.calm=true
 .rw[yL hc]at h⊢;split at h
  .exact hK _ _ h
  .exact h
 .cases op<;>first|(exfalso;exact hc rfl)|skip
  case alloc=>simp only[bh]at h⊢;split at h<;>first|exact hK _ _ h|exact h
  case box=>simp only[bh]at h⊢;split at h<;>first|exact⟨h.1,h.2.1,hK _ _ h.2.2⟩|exact h
  case call=>exact y5 (λv=>hK _ _) hQ h
  case fc=>simp only[bh]at h⊢;split at h<;>first|exact y5 (λv=>hK _ _) hQ h|exact h
  case panic=>simp only[bh]at h⊢;split at h<;>first|exact hQ _ h|exact h
  case other=>exact h
def rE{K K':an->aq->Prop}{Qp ID:AV->Prop}(hK:∀S H,K S H->K' S H)(hQ:∀v,Qp v->ID v):∀(l:List bB)(S:an)(H:aq),bw P GI l K Qp S H->bw P GI l K' ID S H
 |[],S,H,h=>hK S H h
 |o::rest,S,H,h=>by
  simp only[bw]at h⊢;split at h
  .exact nq (λS H=>rE hK hQ rest S H) hQ h
  .exact rE hK hQ rest _ _ h
  .exact h
def IP{op:dT}{dst:Option Nat}{K K':an->aq->Prop}(hK:∀S H,K S H->K' S H){S:an}{H:aq}(h:jf P GI op dst K S H):jf P GI op dst K' S H:=by
 cases op
 case alloc=>simp only[jf]at h⊢;split at h<;>first|exact hK _ _ h|exact h
 case call=>exact⟨h.1,nq hK (λ_ h=>h) h.2⟩
 case fc=>exact⟨h.1,nq hK (λ_ h=>h) h.2⟩
 case box=>exact h.elim
 case panic=>exact h.elim
 case other=>exact h.elim
 all_goals
  simp only[jf]at h⊢;exact nq hK (λ_ h=>h) h
def vz{K K':an->aq->Prop}(hK:∀S H,K S H->K' S H):∀(l:List bB)(S:an)(H:aq),cq P GI l K S H->cq P GI l K' S H
 |[],S,H,h=>hK S H h
 |o::rest,S,H,h=>by
  simp only[cq]at h⊢;split at h
  .exact IP (λS H=>vz hK rest S H) h
  .exact vz hK rest _ _ h
  .exact h
def lZ{K K':an->aq->Prop}{Q Q':cw->an->aq->Prop}(hK:∀S H,K S H->K' S H)(h:∀e S H,Q e S H->Q' e S H)(e:cw)(S:an)(H:aq)(hq:dE K Q e S H):dE K' Q' e S H:=by
 cases e with
 |normal=>exact hK S H hq
 |exit id=>exact h _ S H hq
 |ret=>exact h _ S H hq
 |panic v=>exact h _ S H hq
def fC:∀(c:af){Q Q':cw->an->aq->Prop}(_:∀e S H,Q e S H->Q' e S H){S:an}{H:aq},bL P GI c Q S H->bL P GI c Q' S H
 |.skip,_,_,h,_,_,hq=>h _ _ _ hq
 |.ops l,_,_,h,_,_,hq=>rE (λS H=>h _ S H) (λv=>h _ _ _) l _ _ hq
 |.cq l,_,_,h,_,_,hq=>vz (λS H=>h _ S H) l _ _ hq
 |.seq x y,_,_,h,_,_,hq=>fC x (lZ (λ_ _=>fC y h) h) hq
 |.cond c x y,_,_,h,S,H,hq=>by
  simp only[bL]at hq⊢;split at hq
  .exact fC x h hq
  .exact fC y h hq
  .exact⟨fC x h hq.1,fC y h hq.2⟩
  .exact hq
 |.block id c,Q,Q',h,_,_,hq=>fC c (fun e S H hb=>by
   cases e with
   |normal=>exact h _ S H hb
   |exit j=>
    by_cases hj:j=id
    .simp only[dj,if_pos hj]at hb⊢;exact h _ S H hb
    .simp only[dj,if_neg hj]at hb⊢;exact h _ S H hb
   |ret=>exact h _ S H hb
   |panic v=>exact h _ S H hb) hq
 |.loop c,_,_,h,_,_,⟨I,μ,h0,hi⟩=>⟨I,μ,h0,λS H hI=>fC c (lZ (λ_ _ h=>h) h) (hi S H hI)⟩
 |.exit id,_,_,h,_,_,hq=>h _ _ _ hq
 |.ret,_,_,h,_,_,hq=>h _ _ _ hq
 |.bad,_,_,_,_,_,hq=>hq
def aI{x y:af}{Q:cw->an->aq->Prop}{S:an}{H:aq}(K:an->aq->Prop)(hx:bL P GI x (aO K) S H)(hy:∀S' H',K S' H'->bL P GI y Q S' H'):bL P GI (.seq x y) Q S H:=by
 refine fC x (λe S H h=>?_) hx
 cases e with
 |normal=>exact hy S H h
 |exit id=>exact h.elim
 |ret=>exact h.elim
 |panic v=>exact h.elim
def G7{c:cz}{y z:af}{Q:cw->an->aq->Prop}{S:an}{H:aq}(h:ev S c=.bool true)(hy:bL P GI y Q S H):bL P GI (.seq (.cond c .skip z) y) Q S H:=by
 simp only[bL,h];exact hy
def Ro{c:cz}{y z:af}{Q:cw->an->aq->Prop}{S:an}{H:aq}(h:ev S c=.bool false)(hy:bL P GI y Q S H):bL P GI (.seq (.cond c z .skip) y) Q S H:=by
 simp only[bL,h];exact hy
def E6{id:Nat}{c y:af}{Q:cw->an->aq->Prop}{S:an}{H:aq}(h:bL P GI c (dj id (iJ P GI y Q)) S H):bL P GI (.seq (.block id c) y) Q S H:=h
def Eb{x y z:af}{Q:cw->an->aq->Prop}{S:an}{H:aq}(K:an->aq->Prop)(hx:bL P GI x (aO K) S H)(hy:∀S' H',K S' H'->bL P GI (.seq y z) Q S' H'):bL P GI (.seq (.seq x y) z) Q S H:=by
 refine fC x (λe S H h=>?_) hx
 cases e with
 |normal=>
  refine fC y (λe S H h=>?_) (hy S H h)
  cases e<;>exact h
 |exit id=>exact h.elim
 |ret=>exact h.elim
 |panic v=>exact h.elim
def bC {c:af} {Q:cw→an→aq→Prop} {S:an} {H:aq} (t n:Nat) (I:Nat→an→aq→Prop) (I_:∀ i S H,I i S H→S t = .int .i64 (i:Nat)) (h0:I 0 S H)
  (hs:∀i,i<=n->∀S H,I i S H->bL P GI c (dE (λS' H'=>i<n/\I (i+1) S' H') Q) S H):bL P GI (.loop c) Q S H:=by
 refine⟨λS H=>∃i,i<=n/\I i S H,λS _=>match S t with|.int _ k=>n-k.toNat|_=>0,⟨0,adr _,h0⟩,?_⟩;rintro S H ⟨i,hi,hI⟩;refine fC c (lZ (λS' H' h=>?_) (λ_ _ _ h=>h)) (hs i hi S H hI);refine⟨⟨i+1,h.1,h.2⟩,?_⟩;have e1:=I_ _ _ _ hI;have e2:=I_ _ _ _ h.2;simp only[e1,e2,Int.toNat_natCast];have:=h.1;omega
end
def firstT{α:Type}(p:α->Bool)(l:List α):Int:=if l.any p then(l.findIdx p:Nat)else-1
def oV {α:Type} {p:α→Bool} {l:List α} {i:Nat} (hi:i < l.length) (hp:p l[i]=true) (hb:∀ j (hj:j < l.length),j < i→p l[j]=false):firstT p l=(i:Nat):=by
  unfold firstT;rw[if_pos (ad9.2 ⟨l[i],acy hi,hp⟩),(List.findIdx_eq hi).2 ⟨hp,λj fh=>hb j (by omega) fh⟩]
def kZ {α:Type} {p:α→Bool} {l:List α} (hb:∀ j (hj:j < l.length),p l[j]=false):firstT p l = -1:=by
  unfold firstT;rw[if_neg];intro h;obtain⟨x,hx,hp⟩:=ad9.1 h;obtain⟨j,hj,rfl⟩:=adm hx;rw[hb j hj]at hp;cases hp
def l3 {α:Type} {p:α→Bool} {l:List α}:decide (0≤firstT p l)=l.any p:=by
  unfold firstT
  cases h:l.any p<;>simp
def mB{α:Type}(p:α->Bool)(lt:α->α->Bool)(l:List α):Bool:=l.all p&&(List.range (l.length-1)).all λi=>match l[i]?,l[i+1]? with|some a,some b=>lt a b|_,_=>true
def pQ{α:Type}{p:α->Bool}{lt:α->α->Bool}{l:List α}{i:Nat}(hi:i<l.length)(hp:p l[i]=false):mB p lt l=false:=by
 unfold mB;rw[aeI];exact .inl (afP.2 ⟨_,acy hi,by simp[hp]⟩)
def ot{α:Type}{p:α->Bool}{lt:α->α->Bool}{l:List α}{i:Nat}(hi:i+1<l.length)(hp:lt (l[i]'(by omega)) l[i+1]=false):mB p lt l=false:=by
 unfold mB;rw[aeI];refine .inr (afP.2 ⟨i,acY.2 (by omega),?_⟩);simp[hi,show i<l.length by omega,hp]
def qN{α:Type}{p:α->Bool}{lt:α->α->Bool}{l:List α}(h1:∀j (hj:j<l.length),p l[j]=true)(h2:∀j (hj:j+1<l.length),lt (l[j]'(by omega)) l[j+1]=true):mB p lt l=true:=by
 unfold mB;rw[acA]
 constructor
 .rw[acN];intro x hx;obtain⟨j,hj,rfl⟩:=adm hx;exact h1 j hj
 .rw[acN];intro j hj;rw[acY]at hj;simp[show j<l.length by omega,show j+1<l.length by omega,h2 j (by omega)]
def vD{α:Type}{p:α->Bool}{l:List α}(h:∀j (hj:j<l.length),p l[j]=true):l.all p=true:=by
 rw[acN];intro x hx;obtain⟨j,hj,rfl⟩:=adm hx;exact h j hj
def s_{α:Type}{p:α->Bool}{l:List α}{i:Nat}(hi:i<l.length)(hp:p l[i]=false):l.all p=false:=afP.2 ⟨_,acy hi,by simp[hp]⟩
def qT{α:Type}(p:α->Bool)(l:List α):(!(l.any λx=>!p x))=l.all p:=by
 induction l with
 |nil=>rfl
 |cons a l ih=>simp[List.any_cons,List.all_cons,<-ih]
def mT{α:Type}{p:α->Bool}{l:List α}{i:Nat}(hi:i<l.length)(hb:∀j (hj:j<l.length),j<i->p l[j]=true)(hp:p l[i]=true):∀j (hj:j<l.length),j<i+1->p l[j]=true:=by
 intro j hj fh
 by_cases e:j=i
 .subst e;exact hp
 .exact hb j hj (by omega)
def xI{α:Type}{lt:α->α->Bool}{l:List α}{k:Nat}(hi:k+1<l.length)(hb:∀j (hj:j+1<l.length),j+1<k+1->lt (l[j]'(by omega)) l[j+1]=true)(hp:lt (l[k]'(by omega)) l[k+1]=true):∀j (hj:j+1<l.length),j+1<k+1+1->lt (l[j]'(by omega)) l[j+1]=true:=by
 intro j hj fh
 by_cases e:j=k
 .subst e;exact hp
 .exact hb j hj (by omega)
section
variable{P:Program}{GI:World->Prop}
def qR {c:af} {Q:cw→an→aq→Prop} {S:an} {H:aq} (t a n:Nat) (I:Nat→an→aq→Prop) (ha:a≤n) (I_:∀ i S H,I i S H→S t = .int .i64 (i:Nat)) (h0:I a S H)
  (hs:∀i,a<=i->i<=n->∀S H,I i S H->bL P GI c (dE (λS' H'=>i<n/\I (i+1) S' H') Q) S H):bL P GI (.loop c) Q S H:=by
 refine⟨λS H=>∃i,a<=i/\i<=n/\I i S H,λS _=>match S t with|.int _ k=>n-k.toNat|_=>0,⟨a,acD _,ha,h0⟩,?_⟩;rintro S H ⟨i,h1,hi,hI⟩;refine fC c (lZ (λS' H' h=>?_) (λ_ _ _ h=>h)) (hs i h1 hi S H hI);refine⟨⟨i+1,by omega,h.1,h.2⟩,?_⟩;have e1:=I_ _ _ _ hI;have e2:=I_ _ _ _ h.2;simp only[e1,e2,Int.toNat_natCast];have:=h.1;omega
end
def AC.gW{P:Program}{GI:World->Prop}{f:Nat}{args:List AV}{o:Ow}{es:List AV}(h:AC P GI f args (.ret (.slice o es))):AC P GI f args (.ret (.slice .view es)):=by
 intro w old bH h1 h2 h3;refine(h w old bH h1 h2 h3).mono ?_;rintro e w' ⟨hb,hi,h0,c,rfl,hv,_⟩;refine⟨hb,hi,h0,c,rfl,?_,trivial⟩
 cases hv with
 |data _ _ h=>exact .data _ _ (Go.Proofs.Tryz.RD.JD h)
def mw(l:List Int):aJ 1 (ints l)=true:=by simp[aJ,ints,AV.storable,AV.cells]
def grown(l:List Int):AV:=.slice (if l.isEmpty then .nil else .own 3) (ints l)
def gn{α:Type}{p:α->Bool}{lt:α->α->Bool}{l:List α}:mB p lt l=true↔(∀x∈l,p x=true)/\∀j (hj:j+1<l.length),lt (l[j]'(by omega)) l[j+1]=true:=by
 unfold mB;rw[acA,acN,acN]
 constructor
 .rintro⟨h1,h2⟩;refine⟨h1,λj hj=>?_⟩;have:=h2 j (acY.2 (by omega));simpa[show j<l.length by omega,hj]using this
 .rintro⟨h1,h2⟩;refine⟨h1,λj hj=>?_⟩;rw[acY]at hj;have:=h2 j (by omega);simpa[show j<l.length by omega,show j+1<l.length by omega]using this
def Gy{l:List Int}(h:∀j (hj:j+1<l.length),l[j]<l[j+1]):l.Pairwise λa b=>a<b:=by
 rw[aeq];intro i j hi hj py
 obtain⟨d,rfl⟩:∃d,j=i+1+d:=⟨j-i-1,by omega⟩
 clear py
 induction d with
 |zero=>exact h i hj
 |succ d ih=>
  have h1:=ih (by omega);have h2:=h (i+1+d) hj;exact Int.lt_trans h1 h2
section
variable{P:Program}{GI:World->Prop}
def B4 {c:af} {Q:cw→an→aq→Prop} {S:an} {H:aq} (t n:Nat) (I:Nat→an→aq→Prop) (I_:∀ i S H,I i S H→S t = .int .i64 ((i:Nat) - 1)) (h0:I n S H)
  (hs:∀i,i<=n->∀S H,I i S H->bL P GI c (dE (λS' H'=>0<i/\I (i-1) S' H') Q) S H):bL P GI (.loop c) Q S H:=by
 refine⟨λS H=>∃i,i<=n/\I i S H,λS _=>match S t with|.int _ k=>(k+1).toNat|_=>0,⟨n,acD _,h0⟩,?_⟩;rintro S H ⟨i,hi,hI⟩;refine fC c (lZ (λS' H' h=>?_) (λ_ _ _ h=>h)) (hs i hi S H hI);refine⟨⟨i-1,by omega,h.2⟩,?_⟩;have e1:=I_ _ _ _ hI;have e2:=I_ _ _ _ h.2;simp only[e1,e2];have:=h.1;omega
end
section
variable{P:Program}{GI:World->Prop}
def qw :
  (∀x0 x1,OE P GI (.mv x0 x1))/\
  (∀x0 x1 x2,OE P GI (.pick x0 x1 x2))/\
  (∀x0 x1,OE P GI (.build x0 x1))/\
  (∀x0 x1 x2 x3,OE P GI (.buildSlice x0 x1 x2 x3))/\
  (∀x0 x1 x2 x3,OE P GI (.load x0 x1 x2 x3))/\
  (∀x0 x1,OE P GI (.loadT x0 x1))/\
  (∀x0 x1 x2 x3,OE P GI (.store x0 x1 x2 x3))/\
  (∀x0 x1 x2,OE P GI (.bin x0 x1 x2))/\
  (∀x0 x1 x2,OE P GI (.Bp x0 x1 x2))/\
  (∀x0 x1 x2 x3,OE P GI (.eqs x0 x1 x2 x3))/\
  (∀x0 x1 x2 x3 x4,OE P GI (.lK x0 x1 x2 x3 x4))/\
  (∀x0,OE P GI (.v_ x0))/\
  (∀x0,OE P GI (.mZ x0))/\
  (∀x0 x1 x2,OE P GI (.ng x0 x1 x2))/\
  (∀x0 x1 x2 x3,OE P GI (.lookup x0 x1 x2 x3))/\
  (∀x0,OE P GI (.not x0))/\
  (∀x0 x1,OE P GI (.conv x0 x1))/\
  (∀x0 x1,OE P GI (.iface x0 x1))/\
  (∀x0 x1 x2,OE P GI (.Dz x0 x1 x2))/\
  (∀x0 x1 x2,OE P GI (.nc x0 x1 x2))/\
  (∀x0 x1 x2 x3,OE P GI (.lH x0 x1 x2 x3))/\
  (∀x0 x1,OE P GI (.ou x0 x1))/\
  (∀x0 x1,OE P GI (.fieldAddr x0 x1))/\
  (∀x0 x1 x2,OE P GI (.indexAddr x0 x1 x2))/\
  (∀x0 x1,OE P GI (.m_ x0 x1))/\
  (∀x0 x1,OE P GI (.extract x0 x1))/\
  (∀x0,OE P GI (.wU x0))/\
  (∀x0,OE P GI (.iW x0))/\
  (∀x0 x1,OE P GI (.isNil x0 x1))/\
  (∀x0,OE P GI (.empty x0))/\
  (∀x0 x1,OE P GI (.max x0 x1))/\
  (∀x0 x1,OE P GI (.min x0 x1))/\
  (∀x0 x1 x2,OE P GI (.assert x0 x1 x2)):=by
 refine⟨?_,?_,?_,?_,?_,?_,?_,?_,?_,?_,?_,?_,?_,?_,?_,?_,?_,?_,?_,?_,?_,?_,?_,?_,?_,?_,?_,?_,?_,?_,?_,?_,?_⟩<;>intros<;>intro d<;>intros<;>rfl
def pn :
  (∀x0 x1,DE P GI (.mv x0 x1))/\
  (∀x0 x1 x2,DE P GI (.pick x0 x1 x2))/\
  (∀x0 x1,DE P GI (.build x0 x1))/\
  (∀x0 x1 x2 x3,DE P GI (.buildSlice x0 x1 x2 x3))/\
  (∀x0 x1 x2 x3,DE P GI (.load x0 x1 x2 x3))/\
  (∀x0 x1,DE P GI (.loadT x0 x1))/\
  (∀x0 x1 x2 x3,DE P GI (.store x0 x1 x2 x3))/\
  (∀x0 x1 x2,DE P GI (.bin x0 x1 x2))/\
  (∀x0 x1 x2,DE P GI (.Bp x0 x1 x2))/\
  (∀x0 x1 x2 x3,DE P GI (.eqs x0 x1 x2 x3))/\
  (∀x0 x1 x2 x3 x4,DE P GI (.lK x0 x1 x2 x3 x4))/\
  (∀x0,DE P GI (.v_ x0))/\
  (∀x0,DE P GI (.mZ x0))/\
  (∀x0 x1 x2,DE P GI (.ng x0 x1 x2))/\
  (∀x0 x1 x2 x3,DE P GI (.lookup x0 x1 x2 x3))/\
  (∀x0,DE P GI (.not x0))/\
  (∀x0 x1,DE P GI (.conv x0 x1))/\
  (∀x0 x1,DE P GI (.iface x0 x1))/\
  (∀x0 x1 x2,DE P GI (.Dz x0 x1 x2))/\
  (∀x0 x1 x2,DE P GI (.nc x0 x1 x2))/\
  (∀x0 x1 x2 x3,DE P GI (.lH x0 x1 x2 x3))/\
  (∀x0 x1,DE P GI (.ou x0 x1))/\
  (∀x0 x1,DE P GI (.fieldAddr x0 x1))/\
  (∀x0 x1 x2,DE P GI (.indexAddr x0 x1 x2))/\
  (∀x0 x1,DE P GI (.m_ x0 x1))/\
  (∀x0 x1,DE P GI (.extract x0 x1))/\
  (∀x0,DE P GI (.wU x0))/\
  (∀x0,DE P GI (.iW x0))/\
  (∀x0 x1,DE P GI (.isNil x0 x1))/\
  (∀x0,DE P GI (.empty x0))/\
  (∀x0 x1,DE P GI (.max x0 x1))/\
  (∀x0 x1,DE P GI (.min x0 x1))/\
  (∀x0 x1 x2,DE P GI (.assert x0 x1 x2)):=by
 refine⟨?_,?_,?_,?_,?_,?_,?_,?_,?_,?_,?_,?_,?_,?_,?_,?_,?_,?_,?_,?_,?_,?_,?_,?_,?_,?_,?_,?_,?_,?_,?_,?_,?_⟩<;>intros<;>intro d<;>intros<;>rfl
def ai(x0 x1 x2 x3 x4 x5):OE P GI (.append x0 x1 x2 x3 x4 x5):=fb.2.2.2.2.2.2.2.2.2.2.2.2.2.2.2.2.2.2.2.2.2.2.2.2.2.2.2.2.2.2.1 x0 x1 x2 x3 x4 x5
def ah(x0 x1 x2 x3 x4 x5):DE P GI (.append x0 x1 x2 x3 x4 x5):=eu.2.2.2.2.2.2.2.2.2.2.2.2.2.2.2.2.2.2.2.2.2.2.2.2.2.2.2.2.2.2.1 x0 x1 x2 x3 x4 x5
def grow(e:Nat)(l:List AV):AV:=.slice (if l=[]then .nil else .own e) l
def D_(e:Nat):grow e []=.slice .nil []:=by unfold grow;rw[if_pos rfl]
def Vl {S:an} {H:aq} {t e size cap i j:Nat} {l:List AV} {v:AV} {o:Ow} (hi:S i=grow e l) (hj:S j = .slice o [v]) (hv:aJ size [v]=true) (hl:aJ size l=true) (hn:l.length+1 < 1048576) :
  ∃dm,(dm=none\/dm=some i)/\aD S H (.append t e size cap (.t i) (.t j))=some { v:=grow e (l++[v]),dm:=dm }:=by
 have ei:ev S (.t i)=grow e l:=hi;have ej:ev S (.t j)=.slice o [v]:=hj
 cases l with
 |nil=>
  refine⟨none,.inl rfl,?_⟩;simp only[aD];rw[ei,ej,D_];simp[hv,grow]
 |cons x l=>
  refine⟨some i,.inr rfl,?_⟩
  have xr:l.length+1+1<1048576:=by simpa using hn
  simp only[aD];rw[ei,ej];simp[grow,hv,hl,bG,xr]
def tI{S:an}{i d:Nat}{dm:Option Nat}(hd:dm=none\/dm=some i)(v:AV):(aQ.S { v:=v,dm:=dm } S (some d)) d=v/\∀k,k≠d->k≠i->aQ.S { v:=v,dm:=dm } S (some d) k=S k:=by
 rcases hd with rfl|rfl
 .refine⟨by simp[aQ.S,aY,au],λk h1 _=>by simp[aQ.S,aY,au,h1]⟩
 .refine⟨by simp[aQ.S,aY,au],λk h1 h2=>by simp[aQ.S,aY,au,h1,h2]⟩
def fk {K:an→aq→Prop} {Qp:AV→Prop} {S:an} {H:aq} {t e size cap d i j:Nat} {rest:List bB} (l:List AV) (v:AV) (o:Ow) (hi:S i=grow e l) (hj:S j = .slice o [v]) (hv:aJ size [v]=true) (hl:aJ size l=true) (hn:l.length+1 < 1048576)
  (h:∀S',S' d=grow e (l++[v])->(∀k,k≠d->k≠i->S' k=S k)->bw P GI rest K Qp S' H):bw P GI (⟨some d,none,.append t e size cap (.t i) (.t j)⟩::rest) K Qp S H:=by
 obtain⟨dm,FZ,ky⟩:=Vl (t:=t) (cap:=cap) (H:=H) hi hj hv hl hn;obtain⟨k1,k2⟩:=tI (S:=S) (d:=d) FZ (grow e (l++[v]));rw[fb.2.2.2.2.2.2.2.2.2.2.2.2.2.2.2.2.2.2.2.2.2.2.2.2.2.2.2.2.2.2.1];simp only[aG,ky];exact h _ k1 k2
def oB {K:an→aq→Prop} {S:an} {H:aq} {t e size cap d i j:Nat} {rest:List bB} (l:List AV) (v:AV) (o:Ow) (hi:S i=grow e l) (hj:S j = .slice o [v]) (hv:aJ size [v]=true) (hl:aJ size l=true) (hn:l.length+1 < 1048576)
  (h:∀S',S' d=grow e (l++[v])->(∀k,k≠d->k≠i->S' k=S k)->cq P GI rest K S' H):cq P GI (⟨some d,none,.append t e size cap (.t i) (.t j)⟩::rest) K S H:=by
 obtain⟨dm,FZ,ky⟩:=Vl (t:=t) (cap:=cap) (H:=H) hi hj hv hl hn;obtain⟨k1,k2⟩:=tI (S:=S) (d:=d) FZ (grow e (l++[v]));rw[eu.2.2.2.2.2.2.2.2.2.2.2.2.2.2.2.2.2.2.2.2.2.2.2.2.2.2.2.2.2.2.1];simp only[aG,ky];exact h _ k1 k2
def iK{α:Type}{f:α->AV}{size:Nat}{l:List α}(h:∀a,(f a).storable=true/\(f a).cells.length=size):aJ size (l.map f)=true:=by
 simp[aJ,h]
end
def L1 {P:Program} {GI:World→Prop} (x d rest K Qp S H):bw P GI (⟨d,none,.panic x⟩::rest) K Qp S H=(match ev S x with
  |.iface t v=>Qp (.iface t v)
  |_=>False):=rfl
section
variable{P:Program}{GI:World->Prop}
end
end Go.AL
namespace Go.Proofs.Tryz
open Go Go.AL Go.RowKit Go.Proofs Go.Proofs.Tram
attribute [local simp] dP fu fb eu eL dV dW du dp eJ dq cU gG gD aG aD ev aQ.S aQ.H bG au aY AL.start AV.cells AV.storable AV.bZ bu bQ eF b0 HR.okB post cL dc db AV.out AV.bW cy dK fz gM AV.vw da vI int bO aO dE dj iJ jF eo dG bt AV.aH AV.cT
variable{GI:World->Prop}
def XN (hG:aw GI) (l:List Int) (hl:l.length < 1000000) (k:Nat) (caps:List AV) (nN:caps=[]∨∃ c,caps=[.ref c]) (p:Int→Bool) (hk:ef prog k=true) (h:∀ x∈l,AC prog GI k ([.int .i64 x]++caps) (.ret (.bool (p x)))) :
    AC prog GI 184 [.slice .view (l.map (.int .i64)),.func (.func k) [] caps] (.ret (.int .i64 (firstT p l))):=by
  refine cE hG func184 ntmps184 c184 ?_
  rcases nN with rfl|⟨c,rfl⟩<;>
  (simp[c184]
   refine bC 8 l.length (λi S H=>S 0=.slice .view (l.map (.int .i64))/\S 1=_/\S 7=.int .i64 l.length/\S 8=.int .i64 (i:Nat)/\∀j (hj:j<l.length),j<i->p l[j]=false) (λi S H h=>h.2.2.2.1) ⟨by simp,by simp<;>rfl,by simp,by simp,by simp⟩ ?_;rintro i hi S H ⟨s0,s1,s7,s8,hb⟩
   by_cases av:i<l.length
   . have hw:IntKind.i64.wrap ((i:Int)+1)=i+1:=aP (by omega)
     have hx:=h l[i] (acy av);cases hp:p l[i]
     . simp [acM,s0,s1,s7,s8,av]
       refine⟨_,hk,hx,by simp[da],?_⟩;simp[s0,s1,s7,s8,av,hp,hw];intro j hj fh
       by_cases J1:j=i
       . subst J1;exact hp
       . exact hb j hj (by omega)
     . simp [acM,s0,s1,s7,s8,av]
       refine⟨_,hk,hx,by simp[da],?_⟩;simp[s0,s1,s7,s8,av,hp,hw];exact oV av hp hb
   . have cN:i=l.length:=by omega
     subst cN;simp[s0,s1,s7,s8]
     exact kZ λj hj=>hb j hj hj)
def Tm (hG:aw GI) (l:List Int) (hl:l.length < 1000000) (k:Nat) (caps:List AV) (nN:caps=[]∨∃ c,caps=[.ref c]) (p:Int→Bool) (hk:ef prog k=true) (h:∀ x∈l,AC prog GI k ([.int .i64 x]++caps) (.ret (.bool (p x)))) :
    AC prog GI 143 [.slice .view (l.map (.int .i64)),.func (.func k) [] caps] (.ret (.bool (l.any p))):=by
  have hF:=XN hG l hl k caps nN p hk h;refine cE hG func143 ntmps143 c143 ?_
  rcases nN with rfl|⟨c,rfl⟩<;>
  (simp[c143]
   refine⟨_,by kernel_rfl,hF,λ_=>rfl,?_⟩;simp
   exact l3.symm)
def YK (hG:aw GI) (l:List Word) (hl:l.length < 1000000) (k:Nat) (caps:List AV) (nN:caps=[]∨∃ c,caps=[.ref c]) (p:Word→Bool) (hk:ef prog k=true) (h:∀ x∈l,AC prog GI k ([cZ x]++caps) (.ret (.bool (p x)))) :
    AC prog GI 185 [.slice .view (l.map cZ),.func (.func k) [] caps] (.ret (.int .i64 (firstT p l))):=by
  refine cE hG func185 ntmps185 c185 ?_
  rcases nN with rfl|⟨c,rfl⟩<;>
  (simp[c185]
   refine bC 8 l.length (λi S H=>S 0=.slice .view (l.map cZ)/\S 1=_/\S 7=.int .i64 l.length/\S 8=.int .i64 (i:Nat)/\∀j (hj:j<l.length),j<i->p l[j]=false) (λi S H h=>h.2.2.2.1) ⟨by simp,by simp<;>rfl,by simp,by simp,by simp⟩ ?_;rintro i hi S H ⟨s0,s1,s7,s8,hb⟩
   by_cases av:i<l.length
   . have hw:IntKind.i64.wrap ((i:Int)+1)=i+1:=aP (by omega)
     have hx:=h l[i] (acy av);cases hp:p l[i]
     . simp [acM,cZ,s0,s1,s7,s8,av]
       refine⟨_,hk,hx,by simp[da],?_⟩;simp[s0,s1,s7,s8,av,hp,hw];intro j hj fh
       by_cases J1:j=i
       . subst J1;exact hp
       . exact hb j hj (by omega)
     . simp [acM,cZ,s0,s1,s7,s8,av]
       refine⟨_,hk,hx,by simp[da],?_⟩;simp[s0,s1,s7,s8,av,hp,hw];exact oV av hp hb
   . have cN:i=l.length:=by omega
     subst cN;simp[s0,s1,s7,s8]
     exact kZ λj hj=>hb j hj hj)
def X1 (hG:aw GI) (l:List Word) (hl:l.length < 1000000) (k:Nat) (caps:List AV) (nN:caps=[]∨∃ c,caps=[.ref c]) (p:Word→Bool) (hk:ef prog k=true) (h:∀ x∈l,AC prog GI k ([cZ x]++caps) (.ret (.bool (p x)))) :
    AC prog GI 145 [.slice .view (l.map cZ),.func (.func k) [] caps] (.ret (.bool (l.any p))):=by
  have hF:=YK hG l hl k caps nN p hk h;refine cE hG func145 ntmps145 c145 ?_
  rcases nN with rfl|⟨c,rfl⟩<;>
  (simp[c145]
   refine⟨_,by kernel_rfl,hF,λ_=>rfl,?_⟩;simp
   exact l3.symm)
def Vy(hG:aw GI)(a b:List Int)(ha:a.length<1000000):AC prog GI 58 [vI a,vI b] (.ret (.bool (a==b))):=by
 refine cE hG func58 ntmps58 c58 ?_
 by_cases hl:a.length=b.length
 case neg=>
  have bP:(a==b)=false:=by
   rw[adj]
   exact λh=>hl (congrArg List.length h)
  have vx:((a.length:Int)!=(b.length:Int))=true:=by simp;omega
  simp[c58,vx,bP]
 simp[c58,hl];refine bC 5 b.length (λi S H=>S 0=vI a/\S 1=vI b/\S 5=.int .i64 (i:Nat)/\∀j (hj:j<a.length),j<i->a[j]=b[j]'(by omega)) (λi S H h=>h.2.2.1) ⟨by simp,by simp,by simp,by simp⟩ ?_;rintro i hi S H ⟨s0,s1,s5,hb⟩
 by_cases av:i<b.length
 .have jG:i<a.length:=by omega
  have hw:IntKind.i64.wrap ((i:Int)+1)=i+1:=aP (by omega)
  by_cases he:a[i]=b[i]
  .have vR:(a[i]!=b[i])=false:=by simp[he]
   simp[s0,s1,s5,av,jG,vR,hw];intro j hj fh
   by_cases e:j=i
   .subst e;exact he
   .exact hb j hj (by omega)
  .have bP:(a==b)=false:=by
    rw[adj];rintro rfl;exact he rfl
   have vR:(a[i]!=b[i])=true:=by simp[he]
   simp[s0,s1,s5,av,jG,vR,bP]
 .have cN:i=b.length:=by omega
  subst cN
  have qF:a=b:=aeQ hl λj h1 h2=>hb j h1 (by omega)
  simp[s0,s1,s5,qF]
def Wi(hG:aw GI)(l:List Int)(hl:l.length<1000000)(v:Int):AC prog GI 216 [vI l,.int .i64 v] (.ret (.int .i64 (firstT (v==·) l))):=by
 refine cE hG func216 ntmps216 c216 ?_;simp[c216];refine bC 8 l.length (λi S H=>S 0=vI l/\S 1=.int .i64 v/\S 7=.int .i64 l.length/\S 8=.int .i64 (i:Nat)/\∀j (hj:j<l.length),j<i->(v==l[j])=false) (λi S H h=>h.2.2.2.1) ⟨by simp,by simp,by simp,by simp,by simp⟩ ?_;rintro i hi S H ⟨s0,s1,s7,s8,hb⟩
 by_cases av:i<l.length
 .have hw:IntKind.i64.wrap ((i:Int)+1)=i+1:=aP (by omega);cases he:v==l[i]
  .simp[s0,s1,s7,s8,av,he,hw];intro j hj fh
   by_cases e:j=i
   .subst e;simpa using he
   .simpa using hb j hj (by omega)
  .simp[s0,s1,s7,s8,av,he,hw];exact oV av he hb
 .have cN:i=l.length:=by omega
  subst cN;simp[s0,s1,s7,s8]
  exact kZ λj hj=>hb j hj hj
def Ky(hG:aw GI)(l:List Int)(hl:l.length<1000000)(v:Int):AC prog GI 198 [vI l,.int .i64 v] (.ret (.bool (l.contains v))):=by
 refine cE hG func198 ntmps198 c198 ?_;simp[c198];refine⟨_,by kernel_rfl,Wi hG l hl v,λ_=>rfl,?_⟩;simp;have:=l3 (p:=(v==·)) (l:=l);rw[adE]at this;simpa using this.symm
def AP(a b:Int):kU [.int .i64 a,.int .i64 b]=some [a,b]:=rfl
end Go.Proofs.Tryz
namespace Go.Proofs.Tryz
open Go Go.AL Go.RowKit Go.Proofs Go.Proofs.Tram
variable{GI:World->Prop}
def Y':AV->Option Word
 |.agg [s,c,.bool b]=>match TQ s with
  |some s=>match TQ c with
   |some c=>some ⟨s,c,b⟩
   |none=>none
  |none=>none
 |_=>none
def XE:AV->Option l6
 |.agg [.int .i64 a,.int .i64 b,.int .i64 c,.int .i64 d]=>some ⟨a,b,c,d⟩
 |_=>none
def abW:AV->Option End
 |.agg [.int .i64 a,.int .i64 b]=>some (a,b)
 |_=>none
deriving instance DecidableEq for l6
deriving instance DecidableEq for Word
structure aF where
 bp:List Int
 aW:List l6
 jM:Int
 jN:Int
 nK:Int
 nL:Int
 dn:Int
 words:List Word
 wide:Int
 rows:Int
deriving DecidableEq
def ae(s:aF):List AV:=[vI s.bp,.slice .view (s.aW.map eb),.int .i64 s.jM,.int .i64 s.jN,.int .i64 s.nK,.int .i64 s.nL,.int .i64 s.dn,.slice .view (s.words.map cZ),.int .i64 s.wide,.int .i64 s.rows]
def bU(s:aF):AV:=.agg (ae s)
def GV:AV->Option aF
 |.agg [w,.slice .view ps,.int .i64 a,.int .i64 b,.int .i64 c,.int .i64 d,.int .i64 e,.slice .view ws,.int .i64 f,.int .i64 g]=>match TQ w with
  |some w=>match rT XE ps with
   |some ps=>match rT Y' ws with
    |some ws=>some ⟨w,ps,a,b,c,d,e,ws,f,g⟩
    |none=>none
   |none=>none
  |none=>none
 |_=>none
def D8:AV->Option (List Int×List End)
 |.agg [o,.slice .view es]=>match TQ o with
  |some o=>match rT abW es with
   |some es=>some (o,es)
   |none=>none
  |none=>none
 |_=>none
def q1(s:aF)(out:eE):List AV->Option eE
 |[a]=>match GV a with
  |some x=>bif decide (x=s)then some out else none
  |none=>none
 |_=>none
def q2(s:aF)(es:List End)(out:eE):List AV->Option eE
 |[a,b]=>match GV a with
  |some x=>match D8 b with
   |some y=>bif decide (x=s)&&decide (y=([],es))then some out else none
   |none=>none
  |none=>none
 |_=>none
def q3(s:aF)(es:List End)(n:Int)(out:eE):List AV->Option eE
 |[a,b,.int .i64 k]=>match GV a with
  |some x=>match D8 b with
   |some y=>bif decide (x=s)&&decide (y=([],es))&&decide (k=n)then some out else none
   |none=>none
  |none=>none
 |_=>none
def qs(s:List UInt8)(out:eE):List AV->Option eE
 |[.str t]=>bif decide (t=s)then some out else none
 |_=>none
def oH(l:List End):aJ 2 (l.map a_)=true:=iK λa=>⟨rfl,rfl⟩
end Go.Proofs.Tryz
namespace Go.Proofs.Tryz
open Go Go.AL Go.RowKit Go.Proofs Go.Proofs.Tram
attribute [local simp] dP fu fb eu eL dV dW du dp eJ dq cU gG gD aG aD ev aQ.S aQ.H bG au aY AL.start AV.cells AV.storable AV.bZ bu bQ eF b0 HR.okB post cL dc db AV.out AV.bW cy dK fz gM AV.vw da vI int bO aO dE dj iJ jF eo dG bt AV.aH AV.cT
variable{GI:World->Prop}
def cG(n lo hi:Int):Bool:=decide (lo<=n)&&decide (n<=hi)
def sJ(hG:aw GI)(n lo hi:Int):AC prog GI 84 [.int .i64 n,.int .i64 lo,.int .i64 hi] (.ret (.bool (cG n lo hi))):=by
 refine cE hG func84 ntmps84 c84 ?_
 by_cases h1:lo<=n<;>by_cases h2:n<=hi<;>simp[c84,cG,h1,h2]
def mW(hG:aw GI)(n lo hi:Int):AC prog GI 139 [.int .i64 n,.int .i64 lo,.int .i64 hi] (.ret (.bool (cG n lo hi))):=by
 refine cE hG func139 ntmps139 c139 ?_
 by_cases h1:lo<=n<;>by_cases h2:n<=hi<;>simp[c139,cG,h1,h2]
def kj(lo hi a most:Int):Bool:=cG lo a most&&cG hi lo most
def Kz(hG:aw GI)(lo hi most:Int):AC prog GI 154 [.agg [.int .i64 lo,.int .i64 hi],.int .i64 most] (.ret (.bool (kj lo hi 0 most))):=by
 refine cE hG func154 ntmps154 c154 ?_;simp[c154];refine oc (sJ hG lo 0 most) ?_;cases h1:cG lo 0 most
 .simp[kj,h1]
 .simp;refine oc (sJ hG hi lo most) ?_;simp[kj,h1]
def Mr(hG:aw GI)(lo hi a most:Int):AC prog GI 144 [.agg [.int .i64 lo,.int .i64 hi],.int .i64 a,.int .i64 most] (.ret (.bool (kj lo hi a most))):=by
 refine cE hG func144 ntmps144 c144 ?_;simp[c144];refine oc (mW hG lo a most) ?_;cases h1:cG lo a most
 .simp[kj,h1]
 .simp;refine oc (mW hG hi lo most) ?_;simp[kj,h1]
def Ye(hG:aw GI)(n:Int):AC prog GI 155 [.int .i64 n] (.ret (.bool (cG n 1 400))):=by
 refine cE hG func155 ntmps155 c155 ?_;simp[c155];refine oc (sJ hG n 1 400) ?_;simp
def ju(s:aF)(n:Int):Bool:=cG n 0 (s.bp.length-1)
def Kr(hG:aw GI)(s:aF)(hs:s.bp.length<1000)(n:Int):AC prog GI 194 [bU s,.int .i64 n] (.ret (.bool (ju s n))):=by
 refine cE hG func194 ntmps194 c194 ?_;have hw:IntKind.i64.wrap ((s.bp.length:Int)-1)=s.bp.length-1:=aP (by omega);simp[c194,bU,ae,hw];refine oc (sJ hG n 0 (s.bp.length-1)) ?_;simp[ju]
def jS(s:aF)(p:l6):Bool:=ju s p.l&&ju s p.r&&kj p.lo p.hi 0 9
def WW(hG:aw GI)(s:aF)(hs:s.bp.length<1000)(p:l6):AC prog GI 140 [bU s,eb p] (.ret (.bool (jS s p))):=by
 refine cE hG func140 ntmps140 c140 ?_;have hw:IntKind.i64.wrap ((s.bp.length:Int)-1)=s.bp.length-1:=aP (by omega);refine aI (λS H=>S 2=.box 2 0/\S 3=.box 3 0/\H 2=some (ae s)/\H 3=some [.int .i64 p.l,.int .i64 p.r,.int .i64 p.lo,.int .i64 p.hi]) (by simp[bU,ae,eb]) ?_;rintro S H ⟨s2,s3,h2,h3⟩;simp[s2,s3,h2,h3,ae,hw];refine oc (mW hG p.l 0 (s.bp.length-1)) ?_;cases h1:cG p.l 0 (s.bp.length-1)
 .simp[jS,ju,h1]
 .simp[s2,s3,h2,h3,ae,hw];refine oc (mW hG p.r 0 (s.bp.length-1)) ?_;cases h4:cG p.r 0 (s.bp.length-1)
  .simp[jS,ju,h1,h4]
  .simp[s2,s3,h2,h3,ae];refine oc (Mr hG p.lo p.hi 0 9) ?_;simp[jS,ju,h1,h4]
def vb(a b:l6):Bool:=decide (a.l<b.l)||(a.l==b.l&&decide (a.r<b.r))
def Wf(hG:aw GI)(a b:l6):AC prog GI 141 [eb a,eb b] (.ret (.bool (vb a b))):=by
 refine cE hG func141 ntmps141 c141 ?_;refine aI (λS H=>S 2=.box 2 0/\S 3=.box 3 0/\H 2=some [.int .i64 a.l,.int .i64 a.r,.int .i64 a.lo,.int .i64 a.hi]/\H 3=some [.int .i64 b.l,.int .i64 b.r,.int .i64 b.lo,.int .i64 b.hi]) (by simp[eb]) ?_;rintro S H ⟨s2,s3,h2,h3⟩
 by_cases h1:a.l<b.l
 .simp[s2,s3,h2,h3,vb,h1]
 .cases h4:a.l==b.l
  .simp[s2,s3,h2,h3,vb,h1,h4]
  .by_cases h5:a.r<b.r<;>simp[s2,s3,h2,h3,vb,h1,h4,h5]
def W9(hG:aw GI)(n:Int):AC prog GI 142 [.int .i64 n] (.ret (.bool (!cG n 1 20))):=by
 refine cE hG func142 ntmps142 c142 ?_;simp[c142];refine oc (mW hG n 1 20) ?_;simp
def Yb(hG:aw GI)(s:aF)(hs:s.bp.length<1000)(n:Int):AC prog GI 186 [.int .i64 n,.ref (ae s)] (.ret (.bool (!ju s n))):=by
 refine cE hG func186 ntmps186 c186 ?_;have hw:IntKind.i64.wrap ((s.bp.length:Int)-1)=s.bp.length-1:=aP (by omega);simp[c186,ae,hw];refine oc (mW hG n 0 (s.bp.length-1)) ?_;simp[ju]
def fK(l:List Int)(lo hi:Int):Bool:=mB (cG · lo hi) (λa b=>decide (a<b)) l
def Xb(hG:aw GI)(l:List Int)(hl:l.length<1000000)(lo hi:Int):AC prog GI 180 [vI l,.int .i64 lo,.int .i64 hi] (.ret (.bool (fK l lo hi))):=by
 refine cE hG func180 ntmps180 c180 ?_;simp[c180];refine bC 11 l.length (λi S H=>S 0=vI l/\S 1=.int .i64 lo/\S 2=.int .i64 hi/\S 9=vI l/\S 10=.int .i64 l.length/\S 11=.int .i64 (i:Nat)/\(∀j (hj:j<l.length),j<i->cG l[j] lo hi=true)/\∀j (hj:j+1<l.length),j+1<i->decide (l[j]<l[j+1])=true) (λi S H h=>h.2.2.2.2.2.1) ⟨by simp,by simp,by simp,by simp,by simp,by simp,by simp,by simp⟩ ?_;rintro i cQ S H ⟨s0,s1,s2,s9,cb,ck,hb,hc⟩
 by_cases av:i<l.length
 .have hw:IntKind.i64.wrap ((i:Int)+1)=i+1:=aP (by omega);simp[s0,s1,s2,s9,cb,ck,av];refine⟨_,by kernel_rfl,mW hG l[i] lo hi,λ_=>rfl,?_⟩;cases hp:cG l[i] lo hi
  .simp[s0,s1,s2,s9,cb,ck,av,hw];exact pQ av hp
  .cases i with
   |zero=>
    simp[s0,s1,s2,s9,cb,ck,av];exact⟨aP (by omega),λj hj Bl=>by subst Bl;exact hp⟩
   |succ k=>
    have hk:((k+1:Nat):Int)-1=(k:Nat):=by omega
    have Ai:IntKind.i64.wrap (k:Int)=k:=aP (by omega);have iy:IntKind.i64.wrap ((k:Int)+1+1)=k+1+1:=aP (by omega)
    have jB:k<l.length:=by omega
    have h0:(0:Int)<(k:Int)+1:=by omega
    by_cases hle:l[k+1]<=l[k]
    .simp[s0,s1,s2,s9,cb,ck,av,Ai,jB,hle,h0];exact ot (lt:=λa b=>decide (a<b)) av (by simpa using hle)
    .simp[s0,s1,s2,s9,cb,ck,av,Ai,jB,hle,h0,iy];refine⟨λj hj zX=>?_,λj hj zX=>?_⟩
     .by_cases e:j=k+1
      .subst e;exact hp
      .exact hb j hj (by omega)
     .by_cases e:j=k
      .subst e;omega
      .simpa using hc j hj (by omega)
 .have cN:i=l.length:=by omega
  subst cN;simp[s0,s1,s2,s9,cb,ck];exact qN (λj hj=>hb j hj hj) (λj hj=>hc j hj hj)
def ke(s:aF)(w:Word):Bool:=cG w.aM.length 1 6&&!(w.aM.any λn=>!ju s n)&&fK w.cd 1 (w.aM.length-1)
def Yg(hG:aw GI)(s:aF)(hs:s.bp.length<1000)(w:Word)(h1:w.aM.length<1000)(h2:w.cd.length<1000):AC prog GI 147 [bU s,cZ w] (.ret (.bool (ke s w))):=by
 have Qj:=Tm hG w.aM (by omega) 186 [.ref (ae s)] (.inr ⟨_,rfl⟩) (λn=>!ju s n) (by kernel_rfl) (λn _=>Yb hG s hs n);have hw:IntKind.i64.wrap ((w.aM.length:Int)-1)=w.aM.length-1:=aP (by omega);refine cE hG func147 ntmps147 c147 ?_;refine aI (λS H=>S 2=.box 2 0/\S 3=.box 3 0/\H 2=some (ae s)/\H 3=some [vI w.aM,vI w.cd,.bool w.free]) (by simp[bU,ae,cZ]) ?_;rintro S H ⟨s2,s3,e2,e3⟩;simp[s2,s3,e2,e3];refine⟨_,by kernel_rfl,mW hG w.aM.length 1 6,λ_=>rfl,?_⟩;cases h3:cG w.aM.length 1 6
 .simp[ke,h3]
 .simp[s2,s3,e2,e3,ae];refine⟨_,by kernel_rfl,Qj,λ_=>rfl,?_⟩
  cases h4:w.aM.any λn=>!ju s n
  .simp[s2,s3,e2,e3,hw];refine⟨_,by kernel_rfl,Xb hG w.cd (by omega) 1 (w.aM.length-1),λ_=>rfl,?_⟩;simp[ke,h3,h4]
  .simp[ke,h3,h4]
def X7(hG:aw GI)(s:aF)(hs:s.bp.length<1000)(w:Word)(h1:w.aM.length<1000)(h2:w.cd.length<1000):AC prog GI 146 [cZ w,.ref (ae s)] (.ret (.bool (!ke s w))):=by
 refine cE hG func146 ntmps146 c146 ?_;simp[c146,cZ,ae];refine⟨_,by kernel_rfl,Yg hG s hs w h1 h2,λ_=>rfl,?_⟩;simp
structure oP(s:aF):Prop where
 bp:s.bp.length<1000
 aW:s.aW.length<1000
 words:s.words.length<1000
 aM:∀w∈s.words,w.aM.length<1000
 cd:∀w∈s.words,w.cd.length<1000
def rR(s:aF):Bool:=!(s.bp.any λn=>!cG n 1 20)&&kj s.jM s.jN 0 9&&kj s.nK s.nL 0 20&&cG s.dn 1 20&&!(s.words.any λw=>!ke s w)&&cG s.wide 1 400&&cG s.rows 1 3
def bf(s:aF):Bool:=cG s.bp.length 1 6&&decide (s.aW.length<=6)&&cG s.words.length 1 4&&mB (jS s) vb s.aW&&rR s
def IA(hG:aw GI)(s:aF)(hs:oP s):AC prog GI 78 [bU s] (.ret (.bool (bf s))):=by
 have Qj:=Tm hG s.bp (by have:=hs.bp;omega) 142 [] (.inl rfl) (λn=>!cG n 1 20) (by kernel_rfl) (λn _=>W9 hG n);have Zv:=X1 hG s.words (by have:=hs.words;omega) 146 [.ref (ae s)] (.inr ⟨_,rfl⟩) (λw=>!ke s w) (by kernel_rfl) (λw hw=>X7 hG s hs.bp w (hs.aM w hw) (hs.cd w hw));refine cE hG func78 ntmps78 c78 ?_;refine aI (λS H=>S 1=.box 1 0/\H 1=some (ae s)) (by simp[bU,ae]) ?_;rintro S H ⟨s1,e1⟩;simp[s1,e1,ae];refine⟨_,by kernel_rfl,mW hG s.bp.length 1 6,λ_=>rfl,?_⟩;cases h1:cG s.bp.length 1 6
 .simp[bf,h1]
 by_cases h2:(6:Int)<s.aW.length
 .simp[s1,e1,ae,h2]
  have:¬s.aW.length<=6:=by omega
  simp[bf,this]
 simp[s1,e1,ae,h2];refine⟨_,by kernel_rfl,mW hG s.words.length 1 4,λ_=>rfl,?_⟩;cases h3:cG s.words.length 1 4
 .simp[bf,h3]
 simp[s1,e1,ae]
 have B3:s.aW.length<=6:=by omega
 refine bC 27 s.aW.length (λi S H=>S 1=.box 1 0/\H 1=some (ae s)/\S 25=.slice .view (s.aW.map eb)/\S 26=.int .i64 s.aW.length/\S 27=.int .i64 (i:Nat)/\(∀j (hj:j<s.aW.length),j<i->jS s s.aW[j]=true)/\∀j (hj:j+1<s.aW.length),j+1<i->vb s.aW[j] s.aW[j+1]=true) (λi S H h=>h.2.2.2.2.1) ⟨by simp[s1],by simp[e1,ae],by simp,by simp,by simp,by simp,by simp⟩ ?_;clear s1 e1 S H;rintro i hi S H ⟨s1,e1,n9,wH,qx,hb,hc⟩
 by_cases av:i<s.aW.length
 case neg=>
  have cN:i=s.aW.length:=by omega
  subst cN;have Zp:mB (jS s) vb s.aW=true:=qN (λj hj=>hb j hj hj) (λj hj=>hc j hj hj);simp[s1,e1,n9,wH,qx,ae];refine⟨_,by kernel_rfl,Qj,λ_=>rfl,?_⟩
  cases h4:s.bp.any λn=>!cG n 1 20
  case true=>simp[bf,rR,h4]
  simp[s1,e1,ae];refine⟨_,by kernel_rfl,Mr hG s.jM s.jN 0 9,λ_=>rfl,?_⟩;cases h5:kj s.jM s.jN 0 9
  .simp[bf,rR,h5]
  simp[s1,e1,ae];refine⟨_,by kernel_rfl,Mr hG s.nK s.nL 0 20,λ_=>rfl,?_⟩;cases h6:kj s.nK s.nL 0 20
  .simp[bf,rR,h6]
  simp[s1,e1,ae];refine⟨_,by kernel_rfl,mW hG s.dn 1 20,λ_=>rfl,?_⟩;cases h7:cG s.dn 1 20
  .simp[bf,rR,h7]
  simp[s1,e1,ae];refine⟨_,by kernel_rfl,Zv,λ_=>rfl,?_⟩
  cases h8:s.words.any λw=>!ke s w
  case true=>simp[bf,rR,h8]
  simp[s1,e1,ae];refine⟨_,by kernel_rfl,mW hG s.wide 1 400,λ_=>rfl,?_⟩;cases h9:cG s.wide 1 400
  .simp[bf,rR,h9]
  simp[s1,e1,ae];refine⟨_,by kernel_rfl,mW hG s.rows 1 3,λ_=>rfl,?_⟩;simp[bf,rR,h1,B3,h3,Zp,h4,h5,h6,h7,h8,h9]
 case pos=>
  have hw:IntKind.i64.wrap ((i:Int)+1)=i+1:=aP (by omega);refine aI (λS H=>S 28=.bool true/\S 1=.box 1 0/\H 1=some (ae s)/\S 25=.slice .view (s.aW.map eb)/\S 26=.int .i64 s.aW.length/\S 27=.int .i64 (i:Nat)) (by simp[s1,e1,n9,wH,qx,av]) ?_;clear s1 e1 n9 wH qx S H;rintro S H ⟨Cp,s1,e1,n9,wH,qx⟩;refine G7 Cp (E6 ?_);refine aI (λS H=>S 4=.box 4 0/\H 4=some (eb s.aW[i]).cells/\S 3=.int .i64 (i:Nat)/\S 1=.box 1 0/\H 1=some (ae s)/\S 25=.slice .view (s.aW.map eb)/\S 26=.int .i64 s.aW.length/\S 27=.int .i64 (i:Nat)) (by simp[s1,e1,n9,wH,qx,av,eb]) ?_;clear s1 e1 n9 wH qx Cp S H;rintro S H ⟨s4,e4,s3,s1,e1,n9,wH,qx⟩;simp[s1,e1,s3,s4,e4,ae,eb];refine⟨_,by kernel_rfl,WW hG s hs.bp s.aW[i],λ_=>rfl,?_⟩;cases hp:jS s s.aW[i]
  .simp;simp[bf,pQ av hp]
  cases i with
  |zero=>
   simp[s1,s3,s4,n9,wH,qx,av];exact⟨e1,aP (by omega),λj hj Bl=>by subst Bl;exact hp⟩
  |succ k=>
   have Ai:IntKind.i64.wrap (k:Int)=k:=aP (by omega);have iy:IntKind.i64.wrap ((k:Int)+1+1)=k+1+1:=aP (by omega)
   have jB:k<s.aW.length:=by omega
   have h0:(0:Int)<(k:Int)+1:=by omega
   simp[s1,e1,s3,s4,e4,av,Ai,jB,h0,ae,eb];refine⟨_,by kernel_rfl,Wf hG s.aW[k] s.aW[k+1],λ_=>rfl,?_⟩;cases hq:vb s.aW[k] s.aW[k+1]
   .simp;simp[bf,ot (p:=jS s) av hq]
   .simp[s1,e1,s3,s4,n9,wH,qx,av,iy];refine⟨rfl,λj hj zX=>?_,λj hj zX=>?_⟩
    .by_cases e:j=k+1
     .subst e;exact hp
     .exact hb j hj (by omega)
    .by_cases e:j=k
     .subst e;exact hq
     .exact hc j hj (by omega)
def NW(s:aF)(w:Word):ke s w=(w.aM.all (ju s)&&(fK w.cd 1 (w.aM.length-1)&&cG w.aM.length 1 6)):=by
 unfold ke;rw[qT]
 cases cG w.aM.length 1 6<;>cases w.aM.all (ju s)<;>cases fK w.cd 1 (w.aM.length-1)<;>rfl
def Wd(hG:aw GI)(s:aF)(hs:s.bp.length<1000)(w:Word)(h1:w.aM.length<1000)(h2:w.cd.length<1000):AC prog GI 152 [bU s,cZ w] (.ret (.bool (ke s w))):=by
 rw[NW];refine cE hG func152 ntmps152 c152 ?_;refine aI (λS H=>S 2=.box 2 0/\S 3=.box 3 0/\H 2=some (ae s)/\H 3=some [vI w.aM,vI w.cd,.bool w.free]) (by simp[bU,ae,cZ]) ?_;rintro S H ⟨s2,s3,e2,e3⟩;simp[s2,s3,e2,e3];refine bC 5 w.aM.length (λi S H=>S 2=.box 2 0/\S 3=.box 3 0/\H 2=some (ae s)/\H 3=some [vI w.aM,vI w.cd,.bool w.free]/\S 5=.int .i64 (i:Nat)/\(∀j (hj:j<w.aM.length),j<i->ju s w.aM[j]=true)) (λi S H h=>h.2.2.2.2.1) ⟨by simp[s2],by simp[s3],e2,e3,by simp,by simp⟩ ?_;clear s2 s3 e2 e3 S H;rintro i hi S H ⟨s2,s3,e2,e3,s5,hb⟩
 by_cases av:i<w.aM.length
 case pos=>
  have hw:IntKind.i64.wrap ((i:Int)+1)=i+1:=aP (by omega);simp[s2,s3,e2,e3,s5,av,ae];refine⟨_,by kernel_rfl,Kr hG s hs w.aM[i],λ_=>rfl,?_⟩;cases hp:ju s w.aM[i]
  .simp[s_ av hp]
  .simp[s2,s3,e2,e3,s5,av,hw];exact⟨rfl,mT av hb hp⟩
 have cN:i=w.aM.length:=by omega
 subst cN
 have e_:w.aM.all (ju s)=true:=vD λj hj=>hb j hj hj
 simp[s2,s3,e2,e3,s5,e_];refine bC 6 w.cd.length (λi S H=>S 3=.box 3 0/\H 3=some [vI w.aM,vI w.cd,.bool w.free]/\S 6=.int .i64 (i:Nat)/\(∀j (hj:j<w.cd.length),j<i->cG w.cd[j] 1 (w.aM.length-1)=true)/\∀j (hj:j+1<w.cd.length),j+1<i->decide (w.cd[j]<w.cd[j+1])=true) (λi S H h=>h.2.2.1) ⟨by simp[s3],e3,by simp,by simp,by simp⟩ ?_;clear s2 s3 e2 e3 s5 hb S H;rintro i hi S H ⟨s3,e3,s6,hb,hc⟩
 by_cases av:i<w.cd.length
 case neg=>
  have cN:i=w.cd.length:=by omega
  subst cN;have hr:fK w.cd 1 (w.aM.length-1)=true:=qN (λj hj=>hb j hj hj) (λj hj=>hc j hj hj);simp[s3,e3,s6,hr];refine⟨_,by kernel_rfl,sJ hG w.aM.length 1 6,λ_=>rfl,?_⟩;simp
 case pos=>
  have hw:IntKind.i64.wrap ((i:Int)+1)=i+1:=aP (by omega);have rI:IntKind.i64.wrap ((w.aM.length:Int)-1)=w.aM.length-1:=aP (by omega);simp[s3,e3,s6,av,rI];refine⟨_,by kernel_rfl,sJ hG w.cd[i] 1 (w.aM.length-1),λ_=>rfl,?_⟩;cases hp:cG w.cd[i] 1 (w.aM.length-1)
  .have hr:fK w.cd 1 (w.aM.length-1)=false:=pQ av hp;simp[hr]
  cases i with
  |zero=>
   simp[s3,e3,s6,av];exact⟨aP (by omega),λj hj Bl=>by subst Bl;exact hp⟩
  |succ k=>
   have Ai:IntKind.i64.wrap (k:Int)=k:=aP (by omega);have iy:IntKind.i64.wrap ((k:Int)+1+1)=k+1+1:=aP (by omega)
   have jB:k<w.cd.length:=by omega
   have h0:(0:Int)<(k:Int)+1:=by omega
   have h00:(0:Int)<=(k:Int)+1:=by omega
   by_cases hle:w.cd[k+1]<=w.cd[k]
   .have hr:fK w.cd 1 (w.aM.length-1)=false:=ot (lt:=λa b=>decide (a<b)) av (by simpa using hle);simp[s3,e3,s6,av,Ai,jB,hle,h0,h00,hr]
   .simp[s3,e3,s6,av,Ai,jB,hle,h0,h00,iy];exact⟨mT (p:=λn=>cG n 1 (w.aM.length-1)) av hb hp,λj hj zX=>by simpa using xI (lt:=λa b=>decide (a<b)) av hc (by simpa using hle) j hj (by omega)⟩
def og(s:aF):Bool:=mB (jS s) vb s.aW&&decide (s.aW.length<=6)
def J2(a b:l6):vb a b=!(decide (b.l<a.l)||(a.l==b.l&&decide (b.r<=a.r))):=by
 unfold vb
 by_cases h1:a.l<b.l
 .have h2:¬b.l<a.l:=by omega
  have h3:(a.l==b.l)=false:=by simp;omega
  simp[h1,h2,h3]
 .by_cases h2:b.l<a.l
  .have h3:(a.l==b.l)=false:=by simp;omega
   simp[h1,h2,h3]
  .have h3:(a.l==b.l)=true:=by simp;omega
   by_cases h4:b.r<=a.r
   .have h5:¬a.r<b.r:=by omega
    simp[h1,h2,h3,h4,h5]
   .have h5:a.r<b.r:=by omega
    simp[h1,h2,h3,h4,h5]
def XI(hG:aw GI)(s:aF)(hs:s.bp.length<1000)(h1:s.aW.length<1000):AC prog GI 153 [bU s] (.ret (.bool (og s))):=by
 refine cE hG func153 ntmps153 c153 ?_;simp[c153,bU,ae];refine bC 3 s.aW.length (λi S H=>S 1=.box 1 0/\H 1=some (ae s)/\S 3=.int .i64 (i:Nat)/\(∀j (hj:j<s.aW.length),j<i->jS s s.aW[j]=true)/\∀j (hj:j+1<s.aW.length),j+1<i->vb s.aW[j] s.aW[j+1]=true) (λi S H h=>h.2.2.1) ⟨by simp,by simp[ae],by simp,by simp,by simp⟩ ?_;rintro i hi S H ⟨s1,e1,s3,hb,hc⟩
 by_cases av:i<s.aW.length
 case neg=>
  have cN:i=s.aW.length:=by omega
  subst cN;have hr:mB (jS s) vb s.aW=true:=qN (λj hj=>hb j hj hj) (λj hj=>hc j hj hj);simp[s1,e1,s3,ae,og,hr]
  by_cases h6:s.aW.length<=6
  .have XY:(s.aW.length:Int)<=6:=by omega
   simp[h6,XY]
  .have XY:¬(s.aW.length:Int)<=6:=by omega
   simp[h6,XY]
 case pos=>
  have hw:IntKind.i64.wrap ((i:Int)+1)=i+1:=aP (by omega);refine Eb (λS H=>S 9=.bool true/\S 1=.box 1 0/\H 1=some (ae s)/\S 3=.int .i64 (i:Nat)) (by simp[s1,e1,s3,av,ae]) ?_;clear s1 e1 s3 S H;rintro S H ⟨s9,s1,e1,s3⟩;refine G7 s9 (E6 ?_);refine aI (λS H=>S 4=.box 4 0/\H 4=some (eb s.aW[i]).cells/\S 1=.box 1 0/\H 1=some (ae s)/\S 3=.int .i64 (i:Nat)) (by simp[s1,e1,s3,av,ae,eb]) ?_;clear s1 e1 s3 s9 S H;rintro S H ⟨s4,e4,s1,e1,s3⟩;refine Eb (λS H=>S 34=.bool (!jS s s.aW[i])/\S 4=.box 4 0/\H 4=some (eb s.aW[i]).cells/\S 1=.box 1 0/\H 1=some (ae s)/\S 3=.int .i64 (i:Nat)) ?_ ?_
  .simp[s1,e1,s3,s4,e4,ae,eb];refine⟨_,by kernel_rfl,Kr hG s hs s.aW[i].l,λ_=>rfl,?_⟩;cases h1:ju s s.aW[i].l
   .simp[s1,e1,s3,s4,e4,ae,eb,jS,h1]
   simp[s1,e1,s3,s4,e4,ae,eb];refine⟨_,by kernel_rfl,Kr hG s hs s.aW[i].r,λ_=>rfl,?_⟩;cases h2:ju s s.aW[i].r
   .simp[s1,e1,s3,s4,e4,ae,eb,jS,h1,h2]
   simp[s1,e1,s3,s4,e4,ae,eb];refine⟨_,by kernel_rfl,Kz hG s.aW[i].lo s.aW[i].hi 9,λ_=>rfl,?_⟩;simp[s1,e1,s3,s4,e4,ae,eb,jS,h1,h2]
  clear s1 e1 s3 s4 e4 S H;rintro S H ⟨Va,s4,e4,s1,e1,s3⟩;cases hp:jS s s.aW[i]
  .rw[hp]at Va
   have hr:og s=false:=by unfold og;rw[pQ av hp];rfl
   simp[Va,hr]
  rw[hp]at Va;refine Ro Va ?_
  cases i with
  |zero=>
   simp[s1,e1,s3,s4,e4,ae,av];exact⟨aP (by omega),λj hj Bl=>by subst Bl;exact hp⟩
  |succ k=>
   have Ai:IntKind.i64.wrap (k:Int)=k:=aP (by omega);have iy:IntKind.i64.wrap ((k:Int)+1+1)=k+1+1:=aP (by omega)
   have jB:k<s.aW.length:=by omega
   have h0:(0:Int)<(k:Int)+1:=by omega
   cases hq:vb s.aW[k] s.aW[k+1]
   .have hr:og s=false:=by unfold og;rw[ot av hq];rfl
    rw[J2]at hq
    by_cases h1:s.aW[k+1].l<s.aW[k].l
    .simp[s1,e1,s3,s4,e4,ae,eb,Ai,jB,h0,h1,hr]
    .cases h2:s.aW[k].l==s.aW[k+1].l
     .simp[h1,h2]at hq
     .by_cases h3:s.aW[k+1].r<=s.aW[k].r
      .simp[s1,e1,s3,s4,e4,ae,eb,Ai,jB,h0,h1,h2,h3,hr]
      .simp[h1,h2,h3]at hq
   .have Ku:=hq;rw[J2]at hq
    have h1:¬s.aW[k+1].l<s.aW[k].l:=λh=>by simp[h]at hq
    cases h2:s.aW[k].l==s.aW[k+1].l
    .simp[s1,e1,s3,s4,e4,ae,eb,Ai,jB,h0,h1,h2,iy,av];exact⟨mT av hb hp,λj hj zX=>xI av hc Ku j hj (by omega)⟩
    .have h3:¬s.aW[k+1].r<=s.aW[k].r:=λh=>by simp[h1,h2,h]at hq
     simp[s1,e1,s3,s4,e4,ae,eb,Ai,jB,h0,h1,h2,h3,iy,av];exact⟨mT av hb hp,λj hj zX=>xI av hc Ku j hj (by omega)⟩
def LD(s:aF):bf s=(s.bp.all (cG · 1 20)&&(s.words.all (ke s)&&(cG s.bp.length 1 6&&og s&&kj s.jM s.jN 0 9&&kj s.nK s.nL 0 20&&cG s.dn 1 20&&cG s.words.length 1 4&&cG s.wide 1 400&&cG s.rows 1 3))):=by
 unfold bf rR og;rw[qT,qT]
 cases cG s.bp.length 1 6<;>cases decide (s.aW.length<=6)<;>cases cG s.words.length 1 4<;>cases mB (jS s) vb s.aW<;>cases s.bp.all (cG · 1 20)<;>cases s.words.all (ke s)<;>cases kj s.jM s.jN 0 9<;>simp
def aaE(hG:aw GI)(s:aF)(hs:oP s):AC prog GI 94 [bU s] (.ret (.bool (bf s))):=by
 rw[LD];have q1:=hs.bp;have q2:=hs.aW;have q3:=hs.words;refine cE hG func94 ntmps94 c94 ?_;simp[c94,bU,ae];refine bC 3 s.bp.length (λi S H=>S 1=.box 1 0/\H 1=some (ae s)/\S 3=.int .i64 (i:Nat)/\(∀j (hj:j<s.bp.length),j<i->cG s.bp[j] 1 20=true)) (λi S H h=>h.2.2.1) ⟨by simp,by simp[ae],by simp,by simp⟩ ?_;rintro i hi S H ⟨s1,e1,s3,hb⟩
 by_cases av:i<s.bp.length
 case pos=>
  have hw:IntKind.i64.wrap ((i:Int)+1)=i+1:=aP (by omega);simp[s1,e1,s3,av,ae];refine⟨_,by kernel_rfl,sJ hG s.bp[i] 1 20,λ_=>rfl,?_⟩;cases hp:cG s.bp[i] 1 20
  .simp[s_ (p:=λn=>cG n 1 20) av hp]
  .simp[s1,e1,s3,av,hw];exact⟨rfl,mT (p:=λn=>cG n 1 20) av hb hp⟩
 have cN:i=s.bp.length:=by omega
 subst cN
 have e_:s.bp.all (cG · 1 20)=true:=vD λj hj=>hb j hj hj
 simp[s1,e1,s3,ae,e_];refine bC 4 s.words.length (λi S H=>S 1=.box 1 0/\H 1=some (ae s)/\S 4=.int .i64 (i:Nat)/\(∀j (hj:j<s.words.length),j<i->ke s s.words[j]=true)) (λi S H h=>h.2.2.1) ⟨by simp[s1],by simp[e1,ae],by simp,by simp⟩ ?_;clear s1 e1 s3 hb S H;rintro i hi S H ⟨s1,e1,s4,hb⟩
 by_cases av:i<s.words.length
 case pos=>
  have hw:IntKind.i64.wrap ((i:Int)+1)=i+1:=aP (by omega);simp[s1,e1,s4,av,ae,cZ];refine⟨_,by kernel_rfl,Wd hG s q1 s.words[i] (hs.aM _ (acy av)) (hs.cd _ (acy av)),λ_=>rfl,?_⟩;cases hp:ke s s.words[i]
  .simp[s_ av hp]
  .simp[s1,e1,s4,av,hw];exact⟨rfl,mT av hb hp⟩
 have cN:i=s.words.length:=by omega
 subst cN
 have Wn:s.words.all (ke s)=true:=vD λj hj=>hb j hj hj
 simp[s1,e1,s4,ae,Wn];refine⟨_,by kernel_rfl,sJ hG s.bp.length 1 6,λ_=>rfl,?_⟩;cases h1:cG s.bp.length 1 6
 .simp
 simp[s1,e1,s4,ae];refine⟨_,by kernel_rfl,XI hG s q1 q2,λ_=>rfl,?_⟩;cases h2:og s
 .simp
 simp[s1,e1,s4,ae];refine⟨_,by kernel_rfl,Kz hG s.jM s.jN 9,λ_=>rfl,?_⟩;cases h3:kj s.jM s.jN 0 9
 .simp
 simp[s1,e1,s4,ae];refine⟨_,by kernel_rfl,Kz hG s.nK s.nL 20,λ_=>rfl,?_⟩;cases h4:kj s.nK s.nL 0 20
 .simp
 simp[s1,e1,s4,ae];refine⟨_,by kernel_rfl,sJ hG s.dn 1 20,λ_=>rfl,?_⟩;cases h5:cG s.dn 1 20
 .simp
 simp[s1,e1,s4,ae];refine⟨_,by kernel_rfl,sJ hG s.words.length 1 4,λ_=>rfl,?_⟩;cases h6:cG s.words.length 1 4
 .simp
 simp[s1,e1,s4,ae];refine⟨_,by kernel_rfl,Ye hG s.wide,λ_=>rfl,?_⟩;cases h7:cG s.wide 1 400
 .simp
 simp[s1,e1,s4,ae];refine⟨_,by kernel_rfl,sJ hG s.rows 1 3,λ_=>rfl,?_⟩;simp
end Go.Proofs.Tryz
namespace Go.Proofs.Tryz
open Go.AL
noncomputable def c8:af:=aT 75 f8.cO
def fm(a b:End):Bool:=decide (a.1<b.1)||(a.1==b.1&&decide (a.2<b.2))
def oa{a b:End}:fm a b=true↔a.1<b.1\/a.1=b.1/\a.2<b.2:=by
 simp[fm]
section
variable{l:List End}
end
def ph(s:aF)(n:Int):Bool:=match s.words[n.toNat]? with|some w=>!w.free|none=>false
def fQ(s:aF)(out:List Int):Bool:=fK out 0 (s.words.length-1)&&decide (out.length<s.words.length)&&!(out.any (ph s))
def gq(s:aF)(out:List Int)(n:Nat):List End:=if out.contains (n:Int)then[]else match s.words[n]? with
 |some w=>(w.cd.map λk=>((n:Int),k))++[((n:Int),(w.aM.length:Int))]
 |none=>[]
def g_(s:aF)(out:List Int):List End:=(List.range s.words.length).flatMap (gq s out)
def kL(out:List Int):Nat->Int
 |0=> -1
 |n+1=>if out.contains (n:Int)then kL out n else n
def t_(s:aF)(out:List Int)(e:End):Bool:=cG e.1 0 (s.words.length-1)&&!out.contains e.1&&match s.words[e.1.toNat]? with
 |some w=>e.2==(w.aM.length:Int)||w.cd.contains e.2
 |none=>false
def kQ(s:aF)(out:List Int):End:=(kL out s.words.length,match s.words[(kL out s.words.length).toNat]? with|some w=>(w.aM.length:Int)|none=>0)
def j5(s:aF)(out:List Int)(es:List End):Bool:=fQ s out&&!es.isEmpty&&(mB (t_ s out) fm es&&(es.getLast?.getD (-1,0)==kQ s out))
def AX{s:aF}{out:List Int}{e:End}:e∈g_ s out↔t_ s out e=true:=by
 unfold g_ t_ cG;rw[adh];simp only[acY,acA,acJ,adx,ae6,adQ]
 constructor
 .rintro⟨n,hn,he⟩;unfold gq at he;split at he
  .cases he
  rename_i hc
  have hc:¬(n:Int)∈out:=by simpa using hc
  rw[acx hn]at he;simp only[acF,acZ,ac4]at he
  have h1:e.1=n:=by rcases he with⟨k,_,rfl⟩|rfl<;>rfl
  rw[h1];refine⟨⟨by omega,hc⟩,?_⟩;rw[Int.toNat_natCast,acx hn];simp only[adw,ac7,acJ];rcases he with⟨k,hk,rfl⟩|rfl
  .exact .inr hk
  .exact .inl rfl
 .rintro⟨⟨⟨h1,h2⟩,hc⟩,h3⟩;obtain⟨w,k⟩:=e
  obtain⟨n,rfl⟩:∃n:Nat,w=n:=⟨w.toNat,by simp only at h1;omega⟩
  simp only at h1 h2 hc h3
  have hn:n<s.words.length:=by omega
  refine⟨n,hn,?_⟩;unfold gq;rw[if_neg (by simpa using hc)];rw[Int.toNat_natCast,acx hn]at h3;rw[acx hn];simp only[adw,ac7,acJ]at h3;simp only[acF,acZ,ac4];rcases h3 with rfl|h3
  .exact .inr rfl
  .exact .inl ⟨k,h3,rfl⟩
def uv{s:aF}{out:List Int}(hw:∀w∈s.words,fK w.cd 1 (w.aM.length-1)=true):(g_ s out).Pairwise λa b=>fm a b=true:=by
 unfold g_;rw[List.pairwise_flatMap]
 constructor
 .intro n hn;rw[acY]at hn;unfold gq;split
  .exact .nil
  rw[acx hn];have h:=hw s.words[n] (acy hn);unfold fK at h;rw[gn]at h;obtain⟨h1,h2⟩:=h;simp only;rw[aey];refine⟨?_,aeT _ _,?_⟩
  .rw[List.pairwise_map]
   have:s.words[n].cd.Pairwise λa b=>a<b:=Gy λj hj=>by simpa using h2 j hj
   exact this.imp λh=>by simp[fm,h]
  .intro a ha b hb;rw[ac4]at hb;subst hb;obtain⟨k,hk,rfl⟩:=acZ.1 ha;have:=h1 k hk;simp[cG]at this;simp[fm];omega
 .refine List.Pairwise.imp_of_mem ?_ af_;intro a b ha hb qF x hx y hy
  have mC:x.1=a:=by
   unfold gq at hx;split at hx
   .cases hx
   split at hx
   .simp only[acF,acZ,ac4]at hx
    rcases hx with⟨k,_,rfl⟩|rfl<;>rfl
   .cases hx
  have F3:y.1=b:=by
   unfold gq at hy;split at hy
   .cases hy
   split at hy
   .simp only[acF,acZ,ac4]at hy
    rcases hy with⟨k,_,rfl⟩|rfl<;>rfl
   .cases hy
  rw[oa,mC,F3];left;omega
def zv{out:List Int}:∀n:Nat,(kL out n= -1/\∀k:Nat,k<n->(k:Int)∈out)\/∃m:Nat,m<n/\kL out n=m/\¬(m:Int)∈out/\∀k:Nat,m<k->k<n->(k:Int)∈out
 |0=>.inl ⟨rfl,λk hk=>by omega⟩
 |n+1=>by
  unfold kL;split
  .rename_i hc
   have hc:(n:Int)∈out:=by simpa using hc
   rcases zv (out:=out) n with⟨h1,h2⟩|⟨m,h1,h2,h3,h4⟩
   .refine .inl ⟨h1,λk hk=>?_⟩
    by_cases e:k=n
    .subst e;exact hc
    .exact h2 k (by omega)
   .refine .inr ⟨m,by omega,h2,h3,λk hk dN=>?_⟩
    by_cases e:k=n
    .subst e;exact hc
    .exact h4 k hk (by omega)
  .rename_i hc;exact .inr ⟨n,by omega,rfl,by simpa using hc,λk h1 h2=>by omega⟩
def OY{s:aF}{out:List Int}(h:fQ s out=true):∃m:Nat,m<s.words.length/\kL out s.words.length=m/\¬(m:Int)∈out/\∀k:Nat,m<k->k<s.words.length->(k:Int)∈out:=by
 unfold fQ at h;simp only[acA,acJ]at h;obtain⟨⟨h1,h2⟩,_⟩:=h;rcases zv (out:=out) s.words.length with⟨_,h3⟩|h3
 .exfalso;unfold fK at h1;rw[gn]at h1;obtain⟨_,h1⟩:=h1
  have hp:out.Pairwise λa b=>a<b:=Gy λj hj=>by simpa using h1 j hj
  have hp:=aeq.1 hp
  have key:∀k:Nat,k<s.words.length->∃j,k<=j/\∃hj:j<out.length,out[j]=k:=by
   intro k
   induction k with
   |zero=>
    intro hk;obtain⟨j,hj,e⟩:=adm (h3 0 hk);exact⟨j,by omega,hj,e⟩
   |succ k ih=>
    intro hk;obtain⟨j,hkj,hj,e⟩:=ih (by omega);obtain⟨j',dH,e'⟩:=adm (h3 (k+1) hk);refine⟨j',?_,dH,e'⟩;rcases Nat.lt_trichotomy j j' with h|h|h
    .omega
    .subst h;omega
    .have:=hp j' j dH hj h;omega
  obtain⟨j,hkj,hj,_⟩:=key (s.words.length-1) (by omega);omega
 .exact h3
def Ck{s:aF}{out:List Int}(h:fQ s out=true):(g_ s out).getLast?=some (kQ s out):=by
 obtain⟨m,h1,h2,h3,h4⟩:=OY h
 have hl:kQ s out=((m:Int),((s.words[m]).aM.length:Int)):=by
  unfold kQ;rw[h2,Int.toNat_natCast,acx h1]
 rw[hl];unfold g_
 obtain⟨d,hd⟩:∃d,s.words.length=m+1+d:=⟨s.words.length-m-1,by omega⟩
 have key:∀d,m+1+d<=s.words.length->((List.range (m+1+d)).flatMap (gq s out)).getLast?=some ((m:Int),((s.words[m]).aM.length:Int)):=by
  intro d
  induction d with
  |zero=>
   intro _;rw[Nat.add_zero,ady,aeB,ae2]
   have hm:¬(out.contains (m:Int)=true):=by simpa using h3
   have e:gq s out m=(s.words[m].cd.map λk=>((m:Int),k))++[((m:Int),(s.words[m].aM.length:Int))]:=by
    unfold gq;rw[if_neg hm,acx h1]
   rw[e,<-adI,agh];simp
  |succ d ih=>
   intro hle;rw[<-aeU,ady,aeB,ae2]
   have hc:out.contains ((m+1+d:Nat):Int)=true:=by simpa using h4 (m+1+d) (by omega) (by omega)
   have e:gq s out (m+1+d)=[]:=by
    unfold gq;rw[if_pos hc]
   rw[e,adn];exact ih (by omega)
 rw[hd];exact key d (by omega)
def ct(s:aF)(w:Nat):Nat:=match s.words[w]? with|some x=>x.aM.length|none=>0
def fM{s:aF}{w:Nat}(h:w<s.words.length):ct s w=s.words[w].aM.length:=by unfold ct;rw[acx h]
def mE(w f t:Nat):List (Nat×Nat):=(List.range' f (t-f)).map λi=>(w,i)
def jO(s:aF)(out:List Int):Nat->Nat->Nat->Nat->List (Nat×Nat)
 |0,w,f,t=>mE w f t
 |d+1,w,f,t=>(if out.contains (w:Int)then[]else mE w f (ct s w))++jO s out d (w+1) 0 t
def iH(s:aF)(out:List Int)(a e:Nat×Nat):List (Nat×Nat):=jO s out (e.1-a.1) a.1 a.2 e.2
def Ce{w f t:Nat}(h:t<=f):mE w f t=[]:=by
 unfold mE;rw[show t-f=0 by omega];rfl
def D0{w f t:Nat}(h:f<t):mE w f t=(w,f)::mE w (f+1) t:=by
 unfold mE;rw[show t-f=(t-(f+1))+1 by omega,ad_];rfl
def DS{w f t:Nat}(h:f<=t):mE w f (t+1)=mE w f t++[(w,t)]:=by
 unfold mE;rw[show t+1-f=(t-f)+1 by omega,aeZ,ada];simp only[ac5,adp,Nat.one_mul];rw[show f+(t-f)=t by omega]
def B6{w f t:Nat}:(mE w f t).length=t-f:=by simp[mE]
def I5{w f t:Nat}{g:Nat×Nat}:g∈mE w f t↔g.1=w/\f<=g.2/\g.2<t:=by
 unfold mE;rw[acZ];simp only[aeK]
 constructor
 .rintro⟨i,hi,rfl⟩;exact⟨rfl,hi.1,by have:=hi.2;show i<t;omega⟩
 .rintro⟨h1,h2,h3⟩;exact⟨g.2,by omega,by rw[<-h1]⟩
def MC{s:aF}{out:List Int}{w f t:Nat}(h:t<=f):iH s out (w,f) (w,t)=[]:=by
 unfold iH;simp only[af0];exact Ce h
def uO{s:aF}{out:List Int}{w f t:Nat}:iH s out (w,f) (w,t)=mE w f t:=by
 unfold iH;simp only[af0]
 rfl
def po{s:aF}{out:List Int}{w f:Nat}{e:Nat×Nat}(h:w<e.1):iH s out (w,f) e=(if out.contains (w:Int)then[]else mE w f (ct s w))++iH s out (w+1,0) e:=by
 unfold iH;simp only;rw[show e.1-w=(e.1-(w+1))+1 by omega]
 rfl
def DF{s:aF}{out:List Int}{w f:Nat}{e:Nat×Nat}(h:w<e.1)(hc:out.contains (w:Int)=true):iH s out (w,f) e=iH s out (w+1,0) e:=by
 rw[po h,if_pos hc,List.nil_append]
def Lm{s:aF}{out:List Int}{w f:Nat}{e:Nat×Nat}(h:w<e.1)(hf:ct s w<=f):iH s out (w,f) e=iH s out (w+1,0) e:=by
 rw[po h];split
 .rfl
 .rw[Ce hf];rfl
def SM{s:aF}{out:List Int}{w f:Nat}{e:Nat×Nat}(h:w<e.1/\out.contains (w:Int)=false/\f<ct s w\/w=e.1/\f<e.2):iH s out (w,f) e=(w,f)::iH s out (w,f+1) e:=by
 rcases h with⟨h,hc,hf⟩|⟨h,hf⟩
 .rw[po h,po h,hc];simp only[acI,acW];rw[D0 hf];rfl
 .obtain⟨ew,et⟩:=e;simp only at h hf;subst h;rw[uO,uO,D0 hf]
def yp{s:aF}{out:List Int}{b:Nat}(hb:∀w,ct s w<=b):∀(d w f t:Nat),t<=b->(jO s out d w f t).length<=(d+1)*b
 |0,w,f,t,h=>by
  unfold jO;rw[B6];omega
 |d+1,w,f,t,h=>by
  unfold jO;rw[acV];have h1:=yp (out:=out) hb d (w+1) 0 t h
  have h2:(if out.contains (w:Int)then[]else mE w f (ct s w)).length<=b:=by
   split
   .simp
   .rw[B6];have:=hb w;omega
  have:(d+1+1)*b=(d+1)*b+b:=afV _ _;omega
def DU{s:aF}{out:List Int}:∀(d w f t:Nat){g:Nat×Nat},g∈jO s out d w f t->(g.1=w+d/\g.2<t)\/(w<=g.1/\g.1<w+d/\g.2<ct s g.1)
 |0,w,f,t,g,h=>by
  have:=I5.1 h;left;omega
 |d+1,w,f,t,g,h=>by
  unfold jO at h;rcases acF.1 h with h|h
  .split at h
   .cases h
   .have:=I5.1 h;right;rw[this.1];omega
  .rcases DU d (w+1) 0 t h with h|h
   .left;omega
   .right;omega
def DJ{s:aF}{out:List Int}:∀(d w f t:Nat),(d=0->f<t)->0<t->(jO s out d w f t).getLast?=some (w+d,t-1)
 |0,w,f,t,h,h'=>by
  have h:=h rfl;unfold jO
  obtain⟨t,rfl⟩:∃t',t=t'+1:=⟨t-1,by omega⟩
  rw[DS (by omega)];simp
 |d+1,w,f,t,h,h'=>by
  unfold jO;have:=DJ (s:=s) (out:=out) d (w+1) 0 t (λ_=>h') h';rw[agh,this];show some (w+1+d,t-1)=some (w+(d+1),t-1);rw[show w+1+d=w+(d+1) by omega]
def nE(e:End):Nat×Nat:=(e.1.toNat,e.2.toNat)
def j3(es:List End):Nat->Nat×Nat
 |0=>(0,0)
 |i+1=>match es[i]? with|some e=>nE e|none=>(0,0)
def gY(s:aF)(out:List Int)(es:List End)(i:Nat):List (Nat×Nat):=match es[i]? with|some e=>iH s out (j3 es i) (nE e)|none=>[]
def j9(s:aF)(es:List End)(i:Nat):Bool:=match es[i]? with|some e=>decide (e.2<(ct s e.1.toNat:Int))|none=>false
structure Good(s:aF)(out:List Int)(es:List End):Prop where
 one:∀i (h:i<es.length),0<=es[i].1/\es[i].1<s.words.length/\out.contains es[i].1=false/\1<=es[i].2/\es[i].2<=ct s es[i].1.toNat
 aaw:∀i (h:i+1<es.length),es[i].1<es[i+1].1\/es[i].1=es[i+1].1/\es[i].2<es[i+1].2
def Dt{s:aF}(h:bf s=true){w:Word}(hw:w∈s.words):ke s w=true:=by
 unfold bf rR at h;simp only[acA,adx,adH]at h;have:=h.2.1.1.2 w hw;simpa using this
structure Xu(s:aF)(w:Word):Prop where
 Ea:1<=w.aM.length
 uy:w.aM.length<=6
 sign:∀n∈w.aM,0<=n/\n<s.bp.length
 cd:fK w.cd 1 (w.aM.length-1)=true
def lV{s:aF}(h:bf s=true){w:Word}(hw:w∈s.words):Xu s w:=by
 have h:=Dt h hw;unfold ke at h;simp only[acA,adx,adH,cG,acJ]at h;obtain⟨⟨⟨h1,h2⟩,h3⟩,h4⟩:=h;refine⟨by omega,by omega,λn hn=>?_,h4⟩;have:=h3 n hn;simp[ju,cG]at this;omega
def qm{s:aF}{out:List Int}{es:List End}(hs:bf s=true)(h:j5 s out es=true):Good s out es:=by
 unfold j5 at h;simp only[acA]at h;obtain⟨_,h,_⟩:=h;rw[gn]at h;obtain⟨h1,h2⟩:=h;refine⟨λi hi=>?_,λi hi=>?_⟩
 .have:=h1 _ (acy hi);unfold t_ cG at this;simp only[acA,acJ,adx]at this;obtain⟨⟨⟨a1,a2⟩,a3⟩,a4⟩:=this
  have av:es[i].1.toNat<s.words.length:=by omega
  rw[acx av]at a4;have hw:=lV hs (acy av);rw[fM av];refine⟨a1,by omega,a3,?_⟩;simp only[adw,ac7]at a4;rcases a4 with a4|a4
  .have:=hw.Ea;omega
  .have hc:=hw.cd;unfold fK at hc;rw[gn]at hc;have:=hc.1 _ (by simpa using a4);simp[cG]at this;omega
 .have:=h2 i hi;rw[oa]at this;exact this
def At{s:aF}{out:List Int}{es:List End}(g:Good s out es){i:Nat}(h:i<es.length):(j3 es i).1<(nE es[i]).1\/(j3 es i).1=(nE es[i]).1/\(j3 es i).2<(nE es[i]).2:=by
 cases i with
 |zero=>
  have:=g.one 0 h;show 0<es[0].1.toNat\/0=es[0].1.toNat/\0<es[0].2.toNat;omega
 |succ i=>
  have h1:=g.one i (by omega);have h2:=g.one (i+1) h;have h3:=g.aaw i h
  have e:j3 es (i+1)=nE es[i]:=by
   show(match es[i]? with|some e=>nE e|none=>(0,0))=_;rw[acx (by omega)]
  rw[e];show es[i].1.toNat<es[i+1].1.toNat\/es[i].1.toNat=es[i+1].1.toNat/\es[i].2.toNat<es[i+1].2.toNat;omega
def oJ{s:aF}{out:List Int}{es:List End}{i:Nat}(h:i<es.length):gY s out es i=iH s out (j3 es i) (nE es[i]):=by
 unfold gY;rw[acx h]
def vP{s:aF}{es:List End}{i:Nat}(h:i<es.length):j9 s es i=decide (es[i].2<(ct s es[i].1.toNat:Int)):=by
 unfold j9;rw[acx h]
def BK{s:aF}{out:List Int}{es:List End}(g:Good s out es){i:Nat}(h:i<es.length):(gY s out es i).getLast?=some ((nE es[i]).1,(nE es[i]).2-1):=by
 have h1:=At g h;have h2:=g.one i h;rw[oJ h];unfold iH
 have h3:0<(nE es[i]).2:=by show 0<es[i].2.toNat;omega
 rw[DJ _ _ _ _ (λhd=>by omega) h3]
 congr 2
 omega
def Cl{s:aF}{out:List Int}{es:List End}(g:Good s out es){i:Nat}(h:i<es.length):gY s out es i≠[]:=by
 intro e;have:=BK g h;rw[e]at this;cases this
def EE{s:aF}{out:List Int}{es:List End}(g:Good s out es){i:Nat}{x:Nat×Nat}(hx:x∈gY s out es i):x.1<s.words.length/\x.2<ct s x.1:=by
 by_cases h:i<es.length
 case neg=>
  unfold gY at hx;rw[acU (by omega)]at hx;cases hx
 have h1:=At g h;have h2:=g.one i h;rw[oJ h]at hx;have e1:(nE es[i]).1=es[i].1.toNat:=rfl;have e2:(nE es[i]).2=es[i].2.toNat:=rfl
 rcases DU _ _ _ _ hx with⟨h3,h4⟩|⟨h3,h4,h5⟩
 .have h5:x.1=es[i].1.toNat:=by omega
  rw[h5];refine⟨by omega,by omega⟩
 .exact⟨by omega,h5⟩
def xZ{s:aF}{out:List Int}{es:List End}(hs:bf s=true)(g:Good s out es)(i:Nat):(gY s out es i).length<=24:=by
 by_cases h:i<es.length
 case neg=>
  unfold gY;rw[acU (by omega)];simp
 have h2:=g.one i h
 have hb:∀w,ct s w<=6:=by
  intro w;unfold ct;split
  .rename_i x hx;obtain⟨av,rfl⟩:=acT.1 hx;exact(lV hs (acy av)).uy
  .omega
 rw[oJ h];unfold iH;have h3:=yp (s:=s) (out:=out) hb ((nE es[i]).1-(j3 es i).1) (j3 es i).1 (j3 es i).2 (nE es[i]).2 (by have:=hb es[i].1.toNat;show es[i].2.toNat<=6;omega)
 have h4:s.words.length<=4:=by
  unfold bf cG at hs;simp only[acA,acJ]at hs;omega
 have h5:(nE es[i]).1<s.words.length:=by show es[i].1.toNat<_;omega
 have h6:((nE es[i]).1-(j3 es i).1+1)*6<=4*6:=adJ _ (by omega);omega
abbrev Lt:=Int×Int
def bl(s:aF)(g:Nat×Nat):Lt:=((g.1:Int),match s.words[g.1]? with|some w=>w.aM[g.2]?.getD 0|none=>0)
def jP(lo hi st:Int):Int:=lo+((hi-lo)*st).tdiv 10
def fU(s:aF)(a b:Lt):Int×Int:=if a.1=b.1 then match s.aW.find? λp=>p.l==a.2&&p.r==b.2 with
 |some p=>(p.lo,p.hi)
 |none=>(s.jM,s.jN)
 else(s.nK,s.nL)
def kX(s:aF)(st:Int)(a b:Lt):Int:=jP (fU s a b).1 (fU s a b).2 st
def gf(s:aF)(a:Lt):Int:=if a.2<0 then s.dn else s.bp[a.2.toNat]?.getD 0
def ic(s:aF)(st:Int)(l:List Lt):Nat->Int
 |0=>0
 |i+1=>match l[i]?,l[i+1]? with
  |some a,some b=>ic s st l i+gf s a+kX s st a b
  |_,_=>0
def EC(s:aF)(st:Int)(l:List Lt):Int:=match l[l.length-1]? with
 |some a=>ic s st l (l.length-1)+gf s a
 |none=>0
def mI{s:aF}{st:Int}{l:List Lt}{i:Nat}(h:i+1<l.length):ic s st l (i+1)=ic s st l i+gf s (l[i]'(by omega))+kX s st (l[i]'(by omega)) l[i+1]:=by
 show(match l[i]?,l[i+1]? with|some a,some b=>ic s st l i+gf s a+kX s st a b|_,_=>0)=_;rw[acx (by omega),acx h]
def Bu{s:aF}{st:Int}{l:List Lt}(h:l≠[]):EC s st l=ic s st l (l.length-1)+gf s (l[l.length-1]'(by have:=ade.2 h;omega)):=by
 have:=ade.2 h;unfold EC;rw[acx (by omega)]
def wG{s:aF}{st:Int}{l r:List Lt}:∀{i:Nat},i<l.length->ic s st (l++r) i=ic s st l i
 |0,_=>rfl
 |i+1,h=>by
  rw[mI h,mI (by rw[acV];omega),wG (by omega),ac9 (by omega),ac9 h]
def hZ(s:aF)(st:Int)(l:List Lt):Nat->Int
 |0=>0
 |i+1=>hZ s st l i+(match l[i]?,l[i+1]? with|some a,some b=>kX s st a b|_,_=>0)
def nu{s:aF}{st:Int}{l:List Lt}{i:Nat}(h:i+1<l.length):hZ s st l (i+1)=hZ s st l i+kX s st (l[i]'(by omega)) l[i+1]:=by
 show hZ s st l i+(match l[i]?,l[i+1]? with|some a,some b=>kX s st a b|_,_=>0)=_;rw[acx (by omega),acx h]
def gI(s:aF)(l:List Lt):Nat->Int
 |0=>0
 |i+1=>gI s l i+(match l[i]? with|some a=>gf s a|none=>0)
def nw{s:aF}{l:List Lt}{i:Nat}(h:i<l.length):gI s l (i+1)=gI s l i+gf s l[i]:=by
 show gI s l i+(match l[i]? with|some a=>gf s a|none=>0)=_;rw[acx h]
def xD{s:aF}{st:Int}{l:List Lt}:∀{i:Nat},i<l.length->ic s st l i=gI s l i+hZ s st l i
 |0,_=>rfl
 |i+1,h=>by
  rw[mI h,nw (by omega),nu h,xD (by omega)];omega
def jg(s:aF)(st:Int)(l:List Lt)(cut:Bool):Int:=(gI s l l.length+(if cut then s.dn else 0))+(hZ s st l (l.length-1)+(if cut then jP s.jM s.jN st else 0))
def oZ(l:List Lt)(cut:Bool)(w:Int):List Lt:=if cut then l++[(w,-1)]else l
def Cx{s:aF}{w:Int}:gf s (w,-1)=s.dn:=rfl
def Ph{s:aF}{st:Int}{l:List Lt}{cut:Bool}{w:Int}(hl:l≠[])(hw:(l[l.length-1]'(by have:=ade.2 hl;omega)).1=w)(hp:∀p∈s.aW,0<=p.r):EC s st (oZ l cut w)=jg s st l cut:=by
 have fI:=ade.2 hl;unfold oZ jg
 obtain⟨n,hn⟩:∃n,l.length=n+1:=⟨l.length-1,by omega⟩
 cases cut with
 |false=>
  simp only[acI,acW];rw[Bu hl,xD (by omega)]
  have e1:gI s l l.length=gI s l (l.length-1)+gf s l[l.length-1]:=by
   have:=nw (s:=s) (l:=l) (i:=l.length-1) (by omega);rwa [show l.length-1+1=l.length by omega]at this
  omega
 |true=>
  simp only[ac3]
  have bP:l++[(w,(-1:Int))]≠[]:=by simp
  have hlen:(l++[(w,(-1:Int))]).length-1=l.length:=by simp
  rw[Bu bP]
  have e0:(l++[(w,(-1:Int))])[(l++[(w,(-1:Int))]).length-1]'(by simp)=(w,-1):=by
   simp
  rw[e0,hlen,Cx]
  have e1:ic s st (l++[(w,(-1:Int))]) l.length=ic s st l (l.length-1)+gf s l[l.length-1]+kX s st l[l.length-1] (w,-1):=by
   have h1:=mI (s:=s) (st:=st) (l:=l++[(w,(-1:Int))]) (i:=l.length-1) (by simp;omega)
   have e2:l.length-1+1=l.length:=by omega
   have e3:(l++[(w,(-1:Int))])[l.length-1+1]'(by simp;omega)=(w,-1):=by
    simp[e2]
   rw[e3,ac9 (by omega),wG (l:=l) (i:=l.length-1) (by omega),e2]at h1;exact h1
  have e2:kX s st l[l.length-1] (w,-1)=jP s.jM s.jN st:=by
   unfold kX fU
   have hf:(s.aW.find? λp=>p.l==l[l.length-1].2&&p.r==(-1:Int))=none:=by
    rw[aeE];intro p hpm;have:=hp p hpm;simp;omega
   simp only[hw,ac3,hf]
  rw[e1,e2,xD (by omega)]
  have e3:gI s l l.length=gI s l (l.length-1)+gf s l[l.length-1]:=by
   have:=nw (s:=s) (l:=l) (i:=l.length-1) (by omega);rwa [show l.length-1+1=l.length by omega]at this
  omega
def kV{lo hi st:Int}(h:lo<=hi)(h0:0<=st)(h1:st<=10):lo<=jP lo hi st/\jP lo hi st<=hi:=by
 unfold jP;have a:0<=(hi-lo)*st:=ad3 (by omega) h0;have b:(hi-lo)*st<=(hi-lo)*10:=Int.mul_le_mul_of_nonneg_left h1 (by omega);rw[Int.tdiv_eq_ediv_of_nonneg a];generalize(hi-lo)*st=x at a b⊢;omega
def Bv{lo hi a b:Int}(h:lo<=hi)(h0:0<=a)(h1:a<=b):jP lo hi a<=jP lo hi b:=by
 unfold jP;have x:0<=(hi-lo)*a:=ad3 (by omega) h0;have y:(hi-lo)*a<=(hi-lo)*b:=Int.mul_le_mul_of_nonneg_left h1 (by omega);rw[Int.tdiv_eq_ediv_of_nonneg x,Int.tdiv_eq_ediv_of_nonneg (by omega)];generalize(hi-lo)*a=p at x y⊢;generalize(hi-lo)*b=q at y⊢;omega
structure kl(s:aF):Prop where
 bp:∀n∈s.bp,1<=n/\n<=20
 Vj:s.bp.length<=6
 aW:∀p∈s.aW,0<=p.l/\0<=p.r/\0<=p.lo/\p.lo<=p.hi/\p.hi<=9
 VU:s.aW.length<=6
 o:0<=s.jM/\s.jM<=s.jN/\s.jN<=9
 g:0<=s.nK/\s.nK<=s.nL/\s.nL<=20
 dn:1<=s.dn/\s.dn<=20
 words:1<=s.words.length/\s.words.length<=4
 wide:1<=s.wide/\s.wide<=400
 rows:1<=s.rows/\s.rows<=3
def eM{s:aF}(h:bf s=true):kl s:=by
 unfold bf rR kj cG at h;simp only[acA,acJ,adx,adH,gn]at h;obtain⟨⟨⟨⟨h1,h2⟩,h3⟩,h4,_⟩,⟨⟨⟨⟨⟨h5,h6⟩,h7⟩,h8⟩,_⟩,h9⟩,qI⟩:=h;refine⟨λn hn=>?_,by omega,λp hp=>?_,h2,by omega,by omega,by omega,by omega,h9,qI⟩
 .have:=h5 n hn;simpa using this
 .have:=h4 p hp;unfold jS ju kj cG at this;simp only[acA,acJ]at this;omega
def mX{s:aF}(h:kl s)(a b:Lt):0<=(fU s a b).1/\(fU s a b).1<=(fU s a b).2/\(fU s a b).2<=20:=by
 unfold fU;split
 .split
  .rename_i p hp;have:=h.aW p (afT hp);simp only;omega
  .have:=h.o;simp only;omega
 .have:=h.g;simp only;omega
def tv{s:aF}(h:kl s){st:Int}(h0:0<=st)(h1:st<=10)(a b:Lt):0<=kX s st a b/\kX s st a b<=20:=by
 have h2:=mX h a b;have h3:=kV h2.2.1 h0 h1;unfold kX;omega
def Gx(s:aF)(a:Lt):Prop:=0<=a.2/\a.2<s.bp.length
def tx{s:aF}(h:kl s){a:Lt}(ha:Gx s a):1<=gf s a/\gf s a<=20:=by
 unfold gf;rw[if_neg (by have:=ha.1;omega)]
 have av:a.2.toNat<s.bp.length:=by have:=ha.1;have:=ha.2;omega
 rw[acx av];exact h.bp _ (acy av)
def pT{s:aF}(h:kl s){l:List Lt}(hl:∀a∈l,Gx s a):∀{i:Nat},i<=l.length->(i:Int)<=gI s l i/\gI s l i<=20*i
 |0,_=>by simp[gI]
 |i+1,hi=>by
  rw[nw (by omega)];have:=pT h hl (i:=i) (by omega);have:=tx h (hl _ (acy (show i<l.length by omega)));omega
def p7{s:aF}(h:kl s){st:Int}(h0:0<=st)(h1:st<=10){l:List Lt}:∀{i:Nat},i+1<=l.length->0<=hZ s st l i/\hZ s st l i<=20*i
 |0,_=>by simp[hZ]
 |i+1,hi=>by
  rw[nu hi];have:=p7 h h0 h1 (l:=l) (i:=i) (by omega);have:=tv h h0 h1 (l[i]'(by omega)) (l[i+1]'hi);omega
def za{s:aF}(h:kl s){a b:Int}(h0:0<=a)(h1:a<=b){l:List Lt}:∀{i:Nat},i+1<=l.length->hZ s a l i<=hZ s b l i
 |0,_=>by simp[hZ]
 |i+1,hi=>by
  rw[nu hi,nu hi];have:=za h h0 h1 (l:=l) (i:=i) (by omega);have h2:=mX h (l[i]'(by omega)) (l[i+1]'hi);have:kX s a (l[i]'(by omega)) (l[i+1]'hi)<=kX s b (l[i]'(by omega)) (l[i+1]'hi):=Bv h2.2.1 h0 h1;omega
def IQ{s:aF}(h:kl s){a b:Int}(h0:0<=a)(h1:a<=b){l:List Lt}(hl:l≠[])(cut:Bool):jg s a l cut<=jg s b l cut:=by
 have fI:=ade.2 hl;unfold jg;have:=za h h0 h1 (l:=l) (i:=l.length-1) (by omega);have:=Bv h.o.2.1 h0 h1
 split<;>omega
def C2{s:aF}(h:kl s){st:Int}(h0:0<=st)(h1:st<=10){l:List Lt}(hl:l≠[])(ho:∀a∈l,Gx s a)(hlen:l.length<=24)(cut:Bool):1<=jg s st l cut/\jg s st l cut<=1000:=by
 have fI:=ade.2 hl;unfold jg;have:=p7 h h0 h1 (l:=l) (i:=l.length-1) (by omega);have:=pT h ho (i:=l.length) (by omega);have:=kV h.o.2.1 h0 h1;have:=h.o;have:=h.dn
 split<;>omega
def jE(s:aF)(out:List Int)(es:List End)(st:Int)(i:Nat):Int:=jg s st ((gY s out es i).map (bl s)) (j9 s es i)
def dh(s:aF)(out:List Int)(es:List End)(st:Int):List Int:=(List.range es.length).map (jE s out es st)
def eU(s:aF)(out:List Int)(es:List End)(st:Int):Bool:=decide ((es.length:Int)<=s.rows)&&(dh s out es st).all λn=>decide (n<=s.wide)
def jx(p:Int->Bool):Nat->Int
 |0=> -1
 |n+1=>if p n then n else jx p n
def gl(s:aF)(out:List Int)(es:List End):Int:=jx (eU s out es) 11
def um(p:Int->Bool):∀n:Nat,-1<=jx p n/\jx p n<n
 |0=>by simp[jx]
 |n+1=>by
  unfold jx;have:=um p n
  split<;>omega
def y3{p:Int->Bool}:∀{n:Nat},0<=jx p n->p (jx p n)=true
 |0,h=>by simp[jx]at h
 |n+1,h=>by
  unfold jx at h⊢;split
  .rename_i hp;exact hp
  .rename_i hp;rw[if_neg hp]at h;exact y3 h
def vH{p:Int->Bool}:∀{n:Nat}{k:Int},0<=k->jx p n<k->k<n->p k=false
 |0,k,h0,h1,h2=>by omega
 |n+1,k,h0,h1,h2=>by
  unfold jx at h1;split at h1
  .omega
  .rename_i hp
   by_cases e:k=n
   .subst e;simpa using hp
   .exact vH h0 h1 (by omega)
def J0{s:aF}(hs:bf s=true){g:Nat×Nat}(h:g.1<s.words.length/\g.2<ct s g.1):Gx s (bl s g):=by
 obtain⟨h1,h2⟩:=h;rw[fM h1]at h2;unfold bl Gx;simp only;rw[acx h1];simp only;rw[acx h2];exact(lV hs (acy h1)).sign _ (acy h2)
section
variable{s:aF}{out:List Int}{es:List End}
def Jx(hs:bf s=true)(g:Good s out es){i:Nat}:∀a∈(gY s out es i).map (bl s),Gx s a:=by
 intro a ha;obtain⟨x,hx,rfl⟩:=acZ.1 ha;exact J0 hs (EE g hx)
def Ct(g:Good s out es){i:Nat}(h:i<es.length):(gY s out es i).map (bl s)≠[]:=by
 intro e;exact Cl g h (List.map_eq_nil_iff.1 e)
def Jp(hs:bf s=true)(g:Good s out es){a b:Int}(h0:0<=a)(h1:a<=b){i:Nat}(h:i<es.length):jE s out es a i<=jE s out es b i:=
 IQ (eM hs) h0 h1 (Ct g h) _
def K6(hs:bf s=true)(g:Good s out es){a b:Int}(h0:0<=a)(h1:a<=b)(h:eU s out es b=true):eU s out es a=true:=by
 unfold eU dh at h⊢;simp only[acA,acN,acZ,acY,acJ]at h⊢;refine⟨h.1,?_⟩;rintro n ⟨i,hi,rfl⟩;have:=h.2 _ ⟨i,hi,rfl⟩;have:=Jp hs g h0 h1 hi;omega
def LN(hs:bf s=true)(g:Good s out es){a:Int}(h0:0<=a)(h1:a<=10):eU s out es a=decide (a<=gl s out es):=by
 unfold gl;have hb:=um (eU s out es) 11;rw[adE,acJ]
 constructor
 .intro h
  by_cases av:jx (eU s out es) 11<a
  .rw[vH h0 av (by omega)]at h;cases h
  .omega
 .intro h;exact K6 hs g h0 h (y3 (by omega))
end
def Uy{now es:List End}:∀{all:List End}{m:Nat},all≠[]->all.Nodup->(es∈ch now all m↔∃t,es=now++t/\t.Sublist all/\t.getLast?=all.getLast?/\t.length<=m):=by
 have key:∀(all:List End),all.Nodup->∀(now:List End)(m:Nat),(all≠[]->(es∈ch now all m↔∃t,es=now++t/\t.Sublist all/\t.getLast?=all.getLast?/\t.length<=m))/\(all≠[]->(es∈lp now all m↔∃t,es=now++t/\t.Sublist all/\t.getLast?=all.getLast?/\t.length<=m+1)):=by
  intro all
  induction all with
  |nil=>intro _ now m;exact⟨λh=>absurd rfl h,λh=>absurd rfl h⟩
  |cons a r ih=>
   intro dF;obtain⟨hna,hnr⟩:=aew.1 dF;have ih:=ih hnr
   have Po:∀(now:List End)(m:Nat),es∈lp now (a::r) m↔∃t,es=now++t/\t.Sublist (a::r)/\t.getLast?=(a::r).getLast?/\t.length<=m+1:=by
    intro now m;unfold lp;rw[acF]
    by_cases hr:r=[]
    .subst hr;rw[if_pos rfl,ac4]
     constructor
     .rintro(h|h)
      .exact⟨[a],h,List.Sublist.refl _,rfl,by simp⟩
      .unfold lp at h;cases h
     .rintro⟨t,h1,h2,h3,h4⟩;left
      have:t=[a]:=by
       cases h2 with
       |cons _ h=>rw[List.sublist_nil.1 h]at h3;cases h3
       |cons_cons _ h=>rw[List.sublist_nil.1 h]
      rw[h1,this]
    .rw[if_neg hr]
     have hl:(a::r).getLast?=r.getLast?:=by
      cases r with
      |nil=>exact absurd rfl hr
      |cons b r=>rfl
     have h1:(es∈(match m with|0=>[]|m+1=>lp (now++[a]) r m))↔∃t,es=now++a::t/\t.Sublist r/\t.getLast?=r.getLast?/\t.length<=m:=by
      cases m with
      |zero=>
       constructor
       .intro h;cases h
       .rintro⟨t,_,_,h3,h4⟩;have:t=[]:=aee.1 (by omega);subst this;exact absurd (aeO.1 h3.symm) hr
      |succ m=>
       simp only;rw[(ih (now++[a]) m).2 hr];simp
     rw[hl];refine(or_congr h1 ((ih now m).2 hr)).trans ?_
     constructor
     .rintro(⟨t,a1,a2,a3,a4⟩|⟨t,a1,a2,a3,a4⟩)
      .refine⟨a::t,a1,a2.cons_cons _,?_,by simp;omega⟩
       cases t with
       |nil=>exact absurd (aeO.1 a3.symm) hr
       |cons b t=>rw[<-a3];rfl
      .exact⟨t,a1,a2.cons _,a3,a4⟩
     .rintro⟨t,a1,a2,a3,a4⟩
      cases a2 with
      |cons _ h=>exact .inr ⟨t,a1,h,a3,a4⟩
      |cons_cons _ h=>
       rename_i t;left;refine⟨t,a1,h,?_,by simpa using a4⟩
       cases t with
       |nil=>
        exfalso;apply hna;exact agi a3.symm
       |cons b t=>rw[<-a3];rfl
   intro now m;refine⟨λ_=>?_,λ_=>Po now m⟩;unfold ch;rw[if_neg (by simp)]
   cases m with
   |zero=>
    constructor
    .intro h;cases h
    .rintro⟨t,_,_,h3,h4⟩;have:t=[]:=aee.1 (by omega);subst this
     cases r with
     |nil=>cases h3
     |cons b r=>exact absurd (aeO.1 h3.symm) (by simp)
   |succ m=>exact Po now m
 intro all m h dF;exact(key all dF now m).1 h
def sx{a b c:End}(h:fm a b=true)(h':fm b c=true):fm a c=true:=by
 rw[oa]at*;omega
def jj(a:End):fm a a=false:=by
 cases h:fm a a with
 |false=>rfl
 |true=>rw[oa]at h;omega
abbrev my(l:List End):Prop:=l.Pairwise λa b=>fm a b=true
def my.nodup{l:List End}(h:my l):l.Nodup:=h.imp λqF e=>by
 subst e;rw[jj]at qF;cases qF
def sW:∀{all t:List End},my all->my t->(∀x∈t,x∈all)->t.Sublist all
 |[],t,_,_,h=>by
  cases t with
  |nil=>exact .slnil
  |cons a t=>exact absurd (h a acS) (by simp)
 |a::r,[],_,_,_=>List.nil_sublist _
 |a::r,b::t,hs,ht,h=>by
  obtain⟨xO,xm⟩:=adT.1 hs;obtain⟨ZW,ht2⟩:=adT.1 ht;rcases adl.1 (h b acS)with e|hb
  .subst e;refine .cons_cons _ (sW xm ht2 λx hx=>?_);rcases adl.1 (h x (acH _ hx))with e|Fz
   .subst e;have:=ZW _ hx;rw[jj]at this;cases this
   .exact Fz
  .refine .cons _ (sW xm ht λx hx=>?_);rcases adl.1 (h x hx)with e|Fz
   .subst e;exfalso;have h1:=xO b hb;rcases adl.1 hx with e|k_
    .subst e;rw[jj]at h1;cases h1
    .have:=sx h1 (ZW _ k_);rw[jj]at this;cases this
   .exact Fz
def sE{l:List End}(h:∀j (hj:j+1<l.length),fm (l[j]'(by omega)) l[j+1]=true):my l:=by
 unfold my;rw[aeq];intro i j hi hj py
 obtain⟨d,rfl⟩:∃d,j=i+1+d:=⟨j-i-1,by omega⟩
 clear py
 induction d with
 |zero=>exact h i hj
 |succ d ih=>exact sx (ih (by omega)) (h (i+1+d) hj)
section
variable{s:aF}{out:List Int}{es:List End}
def OS(ho:fQ s out=true):g_ s out≠[]:=by
 intro e;have:=Ck ho;rw[e]at this;cases this
def yR(hs:bf s=true):∀w∈s.words,fK w.cd 1 (w.aM.length-1)=true:=λ_ hw=>(lV hs hw).cd
def qo(s:aF)(out:List Int)(m:Nat):List (List End):=ch [] (g_ s out) m
def DQ(hs:bf s=true)(ho:fQ s out=true){m:Nat}:es∈qo s out m↔j5 s out es=true/\es.length<=m:=by
 have Yq:=uv (out:=out) (yR hs);unfold qo;rw[Uy (OS ho) (my.nodup Yq)];unfold j5;rw[ho,afa,acA,acA,gn,adx,ac7];have hl:=Ck ho
 constructor
 .rintro⟨t,h1,h2,h3,h4⟩;rw[List.nil_append]at h1;subst h1;rw[h3,hl]
  have bP:es≠[]:=by
   rintro rfl;rw[hl]at h3;cases h3
  have fx:my es:=Yq.sublist h2;refine⟨⟨by simpa using bP,⟨λx hx=>AX.1 (h2.subset hx),λj hj=>aeq.1 fx j (j+1) _ _ (by omega)⟩,rfl⟩,h4⟩
 .rintro⟨⟨h1,⟨h2,h3⟩,h4⟩,h5⟩
  have bP:es≠[]:=by
   rintro rfl;cases h1
  refine⟨es,rfl,sW Yq (sE h3) λx hx=>AX.2 (h2 x hx),?_,h5⟩;rw[List.getLast?_eq_some_getLast bP]at h4⊢;rw[hl];exact congrArg some h4
end
def tz:List End->List End->Bool
 |[],[]=>false
 |[],_::_=>true
 |_::_,[]=>false
 |a::x,b::y=>if a=b then tz x y else fm a b
def Om(now x y:List End):tz (now++x) (now++y)=tz x y:=by
 induction now with
 |nil=>rfl
 |cons a now ih=>
  show(if a=a then tz (now++x) (now++y)else fm a a)=_;rw[if_pos rfl,ih]
def vN:∀l:List End,tz l l=false
 |[]=>rfl
 |a::l=>by
  unfold tz;rw[if_pos rfl];exact vN l
def om{es:List End}:∀{all now:List End}{m:Nat},es∈lp now all m->∃b t,b∈all/\es=now++b::t
 |[],now,m,h=>by unfold lp at h;cases h
 |a::r,now,m,h=>by
  unfold lp at h;rcases acF.1 h with h|h
  .split at h
   .exact⟨a,[],acS,ac4.1 h⟩
   .split at h
    .cases h
    .obtain⟨b,t,h1,rfl⟩:=om h;exact⟨a,b::t,acS,by simp⟩
  .obtain⟨b,t,h1,rfl⟩:=om h;exact⟨b,t,acH _ h1,rfl⟩
def uV:∀{all now:List End}{m:Nat},my all->(lp now all m).Pairwise λx y=>tz x y=true
 |[],now,m,_=>by unfold lp;exact .nil
 |a::r,now,m,hs=>by
  obtain⟨xO,xm⟩:=adT.1 hs;unfold lp;rw[aey];refine⟨?_,uV xm,?_⟩
  .split
   .exact aeT _ _
   .split
    .exact .nil
    .exact uV xm
  .intro x hx y hy;obtain⟨b,t,hb,rfl⟩:=om hy
   have Fz:∃u,x=now++a::u:=by
    split at hx
    .exact⟨[],ac4.1 hx⟩
    .split at hx
     .cases hx
     .obtain⟨c,u,_,rfl⟩:=om hx;exact⟨c::u,by simp⟩
   obtain⟨u,rfl⟩:=Fz;rw[Om];unfold tz;have qF:=xO b hb;rw[if_neg,qF];rintro rfl;rw[jj]at qF;cases qF
def LO{all now:List End}{m:Nat}(hs:my all):(ch now all m).Pairwise λx y=>tz x y=true:=by
 unfold ch;split
 .exact aeT _ _
 .split
  .exact .nil
  .exact uV hs
def Jl{l:List (List End)}(h:l.Pairwise λx y=>tz x y=true):l.Nodup:=h.imp λqF e=>by
 subst e;rw[vN]at qF;cases qF
def eR(s:aF)(out:List Int):List (List End):=(qo s out s.rows.toNat).filter λes=>eU s out es 0
def rG{s:aF}{out:List Int}{es:List End}(hs:bf s=true)(ho:fQ s out=true):es∈eR s out↔j5 s out es=true/\eU s out es 0=true:=by
 unfold eR;rw[List.mem_filter,DQ hs ho]
 constructor
 .rintro⟨⟨h1,_⟩,h2⟩;exact⟨h1,h2⟩
 .rintro⟨h1,h2⟩;refine⟨⟨h1,?_⟩,h2⟩;unfold eU at h2;simp only[acA,acJ]at h2;omega
def Db{s:aF}{out:List Int}(hs:bf s=true):(eR s out).Pairwise λx y=>tz x y=true:=
 (LO (uv (yR hs))).sublist List.filter_sublist
section
variable{α:Type}
def fV(better:α->α->Bool)(x:α)(l:List α):α:=l.foldl (λo x=>if better x o then x else o) x
structure tS(better:α->α->Bool)(l:List α)(x:α):Prop where
 at':∃pre post,l=pre++x::post/\(∀y∈pre,better x y=true)/\∀y∈post,better y x=false
def ym {better:α→α→Bool} (Zh:∀ a b c,better a b=true→better b c=true→better a c=true) (QW:∀ a b c,better a b=true→better c b=false→better a c=true) :
  ∀(l pre:List α)(x:α)(post:List α),(∀y∈pre,better x y=true)->(∀y∈post,better y x=false)->tS better (pre++x::post++l) (fV better x l)
 |[],pre,x,post,h1,h2=>⟨pre,post,by rw[adn];rfl,h1,h2⟩
 |z::l,pre,x,post,h1,h2=>by
  show tS better _ (fV better (if better z x then z else x) l)
  cases h:better z x with
  |true=>
   have:=ym Zh QW l (pre++x::post) z [] (λy hy=>by
    rcases acF.1 hy with hy|hy
    .exact Zh _ _ _ h (h1 y hy)
    .rcases adl.1 hy with rfl|hy
     .exact h
     .exact QW _ _ _ h (h2 y hy)) (λy hy=>by cases hy)
   simpa using this
  |false=>
   have:=ym Zh QW l pre x (post++[z]) h1 (λy hy=>by
    rcases acF.1 hy with hy|hy
    .exact h2 y hy
    .rw[ac4]at hy;subst hy;exact h)
   simpa using this
end
def Cz{α:Type}[DecidableEq α]:∀{l r:List α},l.Nodup->(∀x∈l,x∈r)->l.length<=r.length
 |[],_,_,_=>adr _
 |a::l,r,h,hs=>by
  obtain⟨h1,h2⟩:=aew.1 h;have ha:=hs a acS;have hl:=af1 ha;have hp:=afu ha
  have:=Cz (r:=r.erase a) h2 λx hx=>(agj (by rintro rfl;exact h1 hx)).2 (hs x (acH _ hx))
  simp only[List.length_cons];omega
structure X9(w x:Word):Prop where
 aM:x.aM=w.aM
 free:x.free=w.free
 cd:∀c∈w.cd,c∈x.cd
structure ji(s x:aF):Prop where
 bp:x.bp=s.bp
 aW:x.aW=s.aW
 jM:x.jM=s.jM
 jN:x.jN=s.jN
 nK:x.nK=s.nK
 nL:x.nL=s.nL
 dn:x.dn=s.dn
 len:x.words.length=s.words.length
 words:∀i (h:i<s.words.length),X9 s.words[i] (x.words[i]'(by omega))
 wide:s.wide<=x.wide
 rows:s.rows<=x.rows
section
variable{s x:aF}{out:List Int}{es:List End}
def ji.ct(h:ji s x)(i:Nat):ct x i=ct s i:=by
 unfold Tryz.ct
 by_cases hi:i<s.words.length
 .rw[acx hi,acx (by rw[h.len];exact hi)];simp only;rw[(h.words i hi).aM]
 .have:=h.len;rw[acU (show s.words.length<=i by omega),acU (show x.words.length<=i by omega)]
def ji.bl(h:ji s x)(g:Nat×Nat):bl x g=bl s g:=by
 unfold Tryz.bl
 by_cases hi:g.1<s.words.length
 .rw[acx hi,acx (by rw[h.len];exact hi)];simp only;rw[(h.words g.1 hi).aM]
 .have:=h.len;rw[acU (show s.words.length<=g.1 by omega),acU (show x.words.length<=g.1 by omega)]
def zk{s x:aF}(h:∀i,Tryz.ct x i=Tryz.ct s i)(out:List Int):∀d w f t,jO x out d w f t=jO s out d w f t
 |0,_,_,_=>rfl
 |d+1,w,f,t=>by
  unfold jO;rw[h,zk h out d]
def ji.gY(h:ji s x)(i:Nat):gY x out es i=gY s out es i:=by
 unfold Tryz.gY;split
 .unfold iH;rw[zk h.ct]
 .rfl
def ji.j9(h:ji s x)(i:Nat):j9 x es i=j9 s es i:=by
 unfold Tryz.j9;split
 .rw[h.ct]
 .rfl
def LW{s x:aF}(h2:x.aW=s.aW)(h3:x.jM=s.jM)(h4:x.jN=s.jN)(h5:x.nK=s.nK)(h6:x.nL=s.nL)(st:Int)(a b:Lt):kX x st a b=kX s st a b:=by
 unfold kX fU;rw[h2,h3,h4,h5,h6]
def Gb{s x:aF}(h1:x.bp=s.bp)(h2:x.aW=s.aW)(h3:x.jM=s.jM)(h4:x.jN=s.jN)(h5:x.nK=s.nK)(h6:x.nL=s.nL)(h7:x.dn=s.dn)(st:Int)(l:List Lt)(cut:Bool):jg x st l cut=jg s st l cut:=by
 have e1:∀i,gI x l i=gI s l i:=by
  intro i
  induction i with
  |zero=>rfl
  |succ i ih=>
   unfold gI;rw[ih]
   congr 1
   split
   .unfold gf;rw[h1,h7]
   .rfl
 have e2:∀i,hZ x st l i=hZ s st l i:=by
  intro i
  induction i with
  |zero=>rfl
  |succ i ih=>
   unfold hZ;rw[ih]
   congr 1
   split
   .exact LW h2 h3 h4 h5 h6 st _ _
   .rfl
 unfold jg;rw[e1,e2,h3,h4,h7]
def ji.jE(h:ji s x)(st:Int)(i:Nat):jE x out es st i=jE s out es st i:=by
 unfold Tryz.jE;rw[h.gY,h.j9,Gb h.bp h.aW h.jM h.jN h.nK h.nL h.dn]
 congr 1
 exact adC λg _=>h.bl g
def ji.dh(h:ji s x)(st:Int):dh x out es st=dh s out es st:=by
 unfold Tryz.dh
 exact adC λi _=>h.jE st i
def ji.eU(h:ji s x){st:Int}(hf:eU s out es st=true):eU x out es st=true:=by
 unfold Tryz.eU at hf⊢;rw[h.dh];simp only[acA,acN,acJ]at hf⊢;have:=h.wide;have:=h.rows;exact⟨by omega,λn hn=>by have:=hf.2 n hn;omega⟩
def ji.fQ(h:ji s x):fQ x out=fQ s out:=by
 unfold Tryz.fQ;rw[h.len]
 have:ph x=ph s:=by
  unfold ph
  funext n
  by_cases hi:n.toNat<s.words.length
  .rw[acx hi,acx (by rw[h.len];exact hi)];simp only;rw[(h.words _ hi).free]
  .have:=h.len;rw[acU (show s.words.length<=n.toNat by omega),acU (show x.words.length<=n.toNat by omega)]
 rw[this]
def ji.j5(h:ji s x)(hr:j5 s out es=true):j5 x out es=true:=by
 unfold Tryz.j5 at hr⊢;rw[h.fQ];simp only[acA,gn]at hr⊢;obtain⟨h1,⟨h2,h3⟩,h4⟩:=hr;refine⟨h1,⟨λe he=>?_,h3⟩,?_⟩
 .have:=h2 e he;unfold t_ at this⊢;rw[h.len]
  by_cases hi:e.1.toNat<s.words.length
  .rw[acx hi]at this;rw[acx (by rw[h.len];exact hi)];simp only[acA,adw]at this⊢;rw[(h.words _ hi).aM];refine⟨this.1,this.2.imp id λhc=>?_⟩;have:=(h.words _ hi).cd e.2 (by simpa using hc);simpa using this
  .rw[acU (by omega)]at this;simp at this
 .have e1:kQ x out=kQ s out:=by
   unfold kQ;rw[h.len]
   congr 1
   by_cases hi:(kL out s.words.length).toNat<s.words.length
   .rw[acx hi,acx (by rw[h.len];exact hi)];simp only;rw[(h.words _ hi).aM]
   .have:=h.len;rw[acU (show s.words.length<=(kL out s.words.length).toNat by omega),acU (show x.words.length<=(kL out s.words.length).toNat by omega)]
  rw[e1];exact h4
def ji.A3(h:ji s x)(hs:bf s=true)(hx:bf x=true)(ho:Tryz.fQ s out=true)(hm:es∈eR s out):es∈eR x out:=by
 rw[rG hx (by rw[h.fQ];exact ho)];rw[rG hs ho]at hm;exact⟨h.j5 hm.1,h.eU hm.2⟩
def ji.count(h:ji s x)(hs:bf s=true)(hx:bf x=true)(ho:Tryz.fQ s out=true):(eR s out).length<=(eR x out).length:=
 Cz (Jl (Db hs)) λ_ hm=>h.A3 hs hx ho hm
end
def A8:∀{all now:List End},all≠[]->(lp now all 0).length=1
 |[],_,h=>absurd rfl h
 |a::r,now,_=>by
  unfold lp
  by_cases hr:r=[]
  .subst hr;simp[lp]
  .simp only[if_neg hr,List.nil_append];exact A8 hr
def BV:∀{all now:List End},(lp now all 1).length=all.length
 |[],_=>rfl
 |a::r,now=>by
  unfold lp
  by_cases hr:r=[]
  .subst hr;simp[lp]
  .simp only[if_neg hr,acV,List.length_cons];rw[A8 hr,BV];omega
def IE:∀{all now:List End},all≠[]->2*(lp now all 2).length=2+all.length*(all.length-1)
 |[],_,h=>absurd rfl h
 |a::r,now,_=>by
  unfold lp
  by_cases hr:r=[]
  .subst hr;simp[lp]
  .simp only[if_neg hr,acV,List.length_cons];rw[BV,Nat.mul_add,IE hr]
   obtain⟨n,hn⟩:∃n,r.length=n+1:=⟨r.length-1,by have:=ade.2 hr;omega⟩
   rw[hn];simp only[aeb]
   have e1:(n+1+1)*(n+1)=(n+1)*n+2*(n+1):=by
    rw[aec,aei (n+1) n,aec n 1];omega
   omega
def MP{all now:List End}{m:Nat}(h:all.length<=24)(hm:m<=3):(ch now all m).length<=277:=by
 unfold ch;split
 .simp
 rename_i bP
 match m,hm with
 |0,_=>simp
 |1,_=>simp only;rw[A8 bP];omega
 |2,_=>simp only;rw[BV];omega
 |3,_=>
  simp only;have:=IE (now:=now) bP;have:all.length*(all.length-1)<=24*23:=afl h (by omega);omega
def xl{l:List Int}{lo hi:Int}(h:fK l lo hi=true)(hle:lo<=hi+1):(l.length:Int)<=hi+1-lo:=by
 have h':=h;unfold fK at h;rw[gn]at h;obtain⟨h1,h2⟩:=h
 have key:∀j (hj:j<l.length),lo+j<=l[j]:=by
  intro j
  induction j with
  |zero=>
   intro hj;have:=h1 _ (acy hj);simp[cG]at this;simpa using this.1
  |succ j ih=>
   intro hj;have:=ih (by omega);have:=h2 j hj;simp at this;omega
 by_cases h0:l.length=0
 .omega
 .have a:=key (l.length-1) (by omega);have b:=h1 _ (acy (show l.length-1<l.length by omega));simp[cG]at b;omega
def rM{s:aF}(hs:bf s=true){out:List Int}(n:Nat):(gq s out n).length<=ct s n/\ct s n<=6:=by
 unfold gq ct
 by_cases h:n<s.words.length
 .rw[acx h];have hw:=lV hs (acy h);have h1:=hw.Ea;have:=xl hw.cd (by omega);have:=hw.uy;split
  .simp only[List.length_nil];omega
  .simp only[acV,acC,List.length_cons,List.length_nil];omega
 .rw[acU (by omega)]
  split<;>simp
def qX{s:aF}(hs:bf s=true)(out:List Int):(g_ s out).length<=24:=by
 unfold g_;have h4:=(eM hs).words.2
 have key:∀m:Nat,((List.range m).flatMap (gq s out)).length<=6*m:=by
  intro m
  induction m with
  |zero=>simp
  |succ m ih=>
   rw[ady,aeB,ae2,acV];have:=rM hs (out:=out) m;omega
 have:=key s.words.length;omega
def tL{s:aF}(hs:bf s=true)(out:List Int){m:Nat}(hm:m<=3):(qo s out m).length<=277:=MP (qX hs out) hm
def vr{s:aF}(hs:bf s=true)(out:List Int):(eR s out).length<=277:=
 adD (aeo _ _) (tL hs out (by have:=(eM hs).rows;omega))
section
variable{s x:aF}{m:Nat}{z z':Nat×Nat}
def sV{s:aF}{out:List Int}{es:List End}(h:j5 s out es=true):fQ s out=true/\es≠[]/\(∀e∈es,t_ s out e=true)/\(∀j (hj:j+1<es.length),fm (es[j]'(by omega)) es[j+1]=true)/\es.getLast?.getD (-1,0)=kQ s out:=by
 unfold j5 at h;simp only[acA,gn,adx,ac7]at h;obtain⟨⟨h1,h2⟩,⟨h3,h4⟩,h5⟩:=h;exact⟨h1,(by rintro rfl;cases h2),h3,h4,h5⟩
end
def HE{s:aF}{out:List Int}{e:End}:t_ s out e=true↔0<=e.1/\¬e.1∈out/\∃h:e.1.toNat<s.words.length,e.2=s.words[e.1.toNat].aM.length\/e.2∈s.words[e.1.toNat].cd:=by
 unfold t_ cG;simp only[acA,acJ,adx,ae6,adQ]
 constructor
 .rintro⟨⟨⟨h1,h2⟩,h3⟩,h4⟩
  have av:e.1.toNat<s.words.length:=by omega
  rw[acx av]at h4;refine⟨h1,h3,av,?_⟩;simpa using h4
 .rintro⟨h1,h3,av,h4⟩;refine⟨⟨⟨h1,by omega⟩,h3⟩,?_⟩;rw[acx av];simpa using h4
def Kb{s:aF}{m:Nat}(h:s.words.length=m+1):kQ s []=((m:Int),(ct s m:Int)):=by
 unfold kQ
 have e:kL [] s.words.length=m:=by rw[h];unfold kL;simp
 rw[e,Int.toNat_natCast,acx (by omega),fM (by omega)]
def vX(l:List Int):Int:=l.foldl max 0
def foldl_max:∀(l:List Int)(a:Int),a<=l.foldl max a/\(∀x∈l,x<=l.foldl max a)/\(l.foldl max a=a\/l.foldl max a∈l)
 |[],a=>⟨aed _,(λ_ hx=>absurd hx List.not_mem_nil),.inl rfl⟩
 |y::l,a=>by
  have:=foldl_max l (max a y);obtain⟨h1,h2,h3⟩:=this;refine⟨?_,λx hx=>?_,?_⟩
  .show a<=l.foldl max (max a y);omega
  .rcases adl.1 hx with rfl|hx
   .show x<=l.foldl max (max a x);omega
   .exact h2 x hx
  .rcases h3 with h3|h3
   .show l.foldl max (max a y)=a\/l.foldl max (max a y)∈y::l;rw[h3]
    by_cases h:a<=y
    .right;rw[Int.max_eq_right h];exact acS
    .left;omega
   .exact .inr (acH _ h3)
def Ru{l:List Int}{w:Int}(h0:0<=w):vX l<=w↔∀x∈l,x<=w:=by
 have:=foldl_max l 0;unfold vX
 constructor
 .intro h x hx;have:=this.2.1 x hx;omega
 .intro h;rcases this.2.2 with e|e
  .rw[e];exact h0
  .exact h _ e
section
variable{s:aF}
def oC(hs:bf s=true):fQ s []=true:=by
 have:=(eM hs).words.1;unfold fQ fK mB;simp;omega
end
section
variable{α:Type}{len:α->Nat}{most:α->Int}
def jV(len:α->Nat)(l:List α):Nat:=l.foldl (λn x=>if n=0\/len x<n then len x else n) 0
def qt(len:α->Nat)(most:α->Int)(rows:Nat)(d:α)(l:List α):α×Int:=l.foldl (λo x=>if len x=rows/\o.2<most x then(x,most x)else o) (d,-1)
def gV(len:α->Nat)(most:α->Int)(a b:α):Bool:=decide (len a<len b)||(len a==len b&&decide (most b<most a))
def Gr(x:α)(l:List α):tS (gV len most) (x::l) (fV (gV len most) x l):=by
 have:=ym (better:=gV len most) (λa b c h1 h2=>by
  simp only[gV,adw,acA,acJ,ac7]at h1 h2⊢;omega) (λa b c h1 h2=>by
  simp only[gV,adw,acA,acJ,ac7,aev,aeI,adQ,adj]at h1 h2⊢;omega) l [] x [] (λy hy=>by cases hy) (λy hy=>by cases hy)
 simpa using this
def uq:∀(l:List α)(n:Nat),1<=n->(∀x∈l,1<=len x)->l.foldl (λn x=>if n=0\/len x<n then len x else n) n<=n/\(∀x∈l,l.foldl (λn x=>if n=0\/len x<n then len x else n) n<=len x)/\(l.foldl (λn x=>if n=0\/len x<n then len x else n) n=n\/∃x∈l,len x=l.foldl (λn x=>if n=0\/len x<n then len x else n) n)
 |[],n,_,_=>⟨acD _,λx hx=>(by cases hx),.inl rfl⟩
 |a::l,n,hn,h=>by
  have ha:=h a acS;rw[List.foldl_cons]
  have hm:(if n=0\/len a<n then len a else n)=min (len a) n:=by
   by_cases h1:len a<n
   .rw[if_pos (.inr h1)];omega
   .rw[if_neg (by omega)];omega
  rw[hm]
  obtain⟨a1,a2,a3⟩:=uq l (min (len a) n) (by omega) λx hx=>h x (acH _ hx)
  generalize List.foldl _ _ _=m at a1 a2 a3⊢;refine⟨by omega,λx hx=>?_,?_⟩
  .rcases adl.1 hx with rfl|hx
   .omega
   .exact a2 x hx
  .rcases a3 with a3|⟨x,hx,a3⟩
   .by_cases h1:len a<n
    .exact .inr ⟨a,acS,by omega⟩
    .exact .inl (by omega)
   .exact .inr ⟨x,acH _ hx,a3⟩
def G3{x:α}{l:List α}(h:tS (gV len most) l x)(h1:∀y∈l,1<=len y):jV len l=len x:=by
 obtain⟨pre,post,rfl,h2,h3⟩:=h
 have hle:∀y∈pre++x::post,len x<=len y:=by
  intro y hy;rcases acF.1 hy with hy|hy
  .have:=h2 y hy;simp only[gV,adw,acA,acJ,ac7]at this;omega
  .rcases adl.1 hy with rfl|hy
   .exact acD _
   .have:=h3 y hy;simp only[gV,aev,adQ]at this;omega
 have hx:x∈pre++x::post:=by simp
 have key:∀l:List α,(∀y∈l,1<=len y)->x∈l->(∀y∈l,len x<=len y)->jV len l=len x:=by
  intro l h1 hx hle
  cases l with
  |nil=>cases hx
  |cons a l=>
   have ha:=h1 a acS;unfold jV;rw[List.foldl_cons,if_pos (.inl rfl)]
   obtain⟨a1,a2,a3⟩:=uq l (len a) ha λy hy=>h1 y (acH _ hy)
   generalize List.foldl _ _ _=m at a1 a2 a3⊢
   have b1:m<=len x:=by
    rcases adl.1 hx with rfl|hx
    .exact a1
    .exact a2 x hx
   have b2:len x<=m:=by
    rcases a3 with a3|⟨y,hy,a3⟩
    .rw[a3];exact hle a acS
    .rw[<-a3];exact hle y (acH _ hy)
   omega
 exact key _ h1 hx hle
def Mu{x d:α}{l:List α}(h:tS (gV len most) l x)(h1:∀y∈l,0<=most y):qt len most (len x) d l=(x,most x):=by
 obtain⟨pre,post,rfl,h2,h3⟩:=h
 have PJ:∀(pre:List α)(o:α×Int),(∀y∈pre,gV len most x y=true)->o.2<most x->(pre.foldl (λo y=>if len y=len x/\o.2<most y then(y,most y)else o) o).2<most x:=by
  intro pre
  induction pre with
  |nil=>intro o _ h;exact h
  |cons a pre ih=>
   intro o hp ho;rw[List.foldl_cons];refine ih _ (λy hy=>hp y (acH _ hy)) ?_;split
   .rename_i hc;have:=hp a acS;simp only[gV,adw,acA,acJ,ac7]at this;show most a<most x;omega
   .exact ho
 have Y8:∀(post:List α),(∀y∈post,gV len most y x=false)->post.foldl (λo y=>if len y=len x/\o.2<most y then(y,most y)else o) (x,most x)=(x,most x):=by
  intro post
  induction post with
  |nil=>intro _;rfl
  |cons a post ih=>
   intro hp;rw[List.foldl_cons,if_neg,ih λy hy=>hp y (acH _ hy)];rintro⟨c1,c2⟩;have:=hp a acS;have c2:most x<most a:=c2;simp only[gV,aev,adQ,aeI,adj]at this;omega
 unfold qt;rw[adk,List.foldl_cons,if_pos,Y8 post h3];exact⟨rfl,PJ pre _ h2 (by have:=h1 x (by simp);show(-1:Int)<most x;omega)⟩
end
structure fp(s x:aF)(out:List Int)(k:Nat->Nat)(N:Nat):Prop where
 pos:0<N
 n:x.words.length=N
 lt:∀i,i<N->k i<s.words.length
 mono:∀i,i+1<N->k i<k (i+1)
 XR:∀i,i<N->out.contains (k i:Int)=false
 gap:∀i,i+1<N->∀j,k i<j->j<k (i+1)->out.contains (j:Int)=true
 first:∀j,j<k 0->out.contains (j:Int)=true
 last:∀j,k (N-1)<j->j<s.words.length->out.contains (j:Int)=true
 word:∀i,i<N->x.words[i]?=s.words[k i]?
 h1:x.bp=s.bp
 h2:x.aW=s.aW
 h3:x.jM=s.jM
 h4:x.jN=s.jN
 h5:x.nK=s.nK
 h6:x.nL=s.nL
 h7:x.dn=s.dn
 h8:x.wide=s.wide
 h9:x.rows=s.rows
section
variable{s x:aF}{out:List Int}{k:Nat->Nat}{N:Nat}
def fp.ct(h:fp s x out k N){i:Nat}(hi:i<N):ct x i=ct s (k i):=by
 unfold Tryz.ct;rw[h.word i hi]
def fp.FC(h:fp s x out k N):∀d i,i+d+1<N->k i<k (i+d+1)
 |0,i,hi=>h.mono i hi
 |d+1,i,hi=>Nat.lt_trans (h.FC d i (by omega)) (h.mono (i+d+1) hi)
def fp.lt_iff(h:fp s x out k N){i j:Nat}(hi:i<N)(hj:j<N):k i<k j↔i<j:=by
 constructor
 .intro hk
  by_cases py:i<j
  .exact py
  .by_cases he:i=j
   .subst he;omega
   .have:=h.FC (i-j-1) j (by omega);rw[show j+(i-j-1)+1=i by omega]at this;omega
 .intro py;have:=h.FC (j-i-1) i (by omega);rwa [show i+(j-i-1)+1=j by omega]at this
def fp.inj(h:fp s x out k N){i j:Nat}(hi:i<N)(hj:j<N)(he:k i=k j):i=j:=by
 have h1:=h.lt_iff hi hj;have h2:=h.lt_iff hj hi;omega
def uN{d t:Nat}:∀(m w:Nat),(∀j,w<=j->j<w+m->out.contains (j:Int)=true)->jO s out (m+d) w 0 t=jO s out d (w+m) 0 t
 |0,w,_=>by rw[ac_,Nat.add_zero]
 |m+1,w,h=>by
  rw[show m+1+d=(m+d)+1 by omega];show(if out.contains (w:Int)then[]else mE w 0 (ct s w))++jO s out (m+d) (w+1) 0 t=_;rw[h w (by omega) (by omega),if_pos rfl,List.nil_append,uN m (w+1) (λj h1 h2=>h j (by omega) (by omega)),show w+1+m=w+(m+1) by omega]
def p6(k:Nat->Nat)(g:Nat×Nat):Nat×Nat:=(k g.1,g.2)
def I0(w f t:Nat):(mE w f t).map (p6 k)=mE (k w) f t:=by
 unfold mE;rw[ad2];rfl
def fp.jO(h:fp s x out k N){t:Nat}:∀d w f,w+d<N->(jO x [] d w f t).map (p6 k)=jO s out (k (w+d)-k w) (k w) f t
 |0,w,f,_=>by
  rw[Nat.add_zero,af0];exact I0 w f t
 |d+1,w,f,hw=>by
  have m1:=h.mono w (by omega)
  have m2:k (w+1)<=k (w+1+d):=by
   cases d with
   |zero=>exact acD _
   |succ d=>exact agy (h.FC d (w+1) (by omega))
  rw[show w+(d+1)=w+1+d by omega];rw[show k (w+1+d)-k w=((k (w+1)-k w-1)+(k (w+1+d)-k (w+1)))+1 by omega];show List.map (p6 k) ((if([]:List Int).contains (w:Int)then[]else mE w f (Tryz.ct x w))++Tryz.jO x [] d (w+1) 0 t)=(if out.contains (k w:Int)then[]else mE (k w) f (Tryz.ct s (k w)))++Tryz.jO s out ((k (w+1)-k w-1)+(k (w+1+d)-k (w+1))) (k w+1) 0 t;rw[if_neg (by simp),h.XR w (by omega),if_neg (by simp),ada,I0,h.ct (by omega),h.jO d (w+1) 0 (by omega),uN _ _ λj h1 h2=>h.gap w (by omega) j (by omega) (by omega),show k w+1+(k (w+1)-k w-1)=k (w+1) by omega]
def sS(k:Nat->Nat)(e:End):End:=((k e.1.toNat:Int),e.2)
def UI(e:End):nE (sS k e)=p6 k (nE e):=rfl
def xB(es:List End)(i:Nat):j3 es (i+1)=match es[i]? with|some e=>nE e|none=>(0,0):=rfl
def Sa(es:List End)(i:Nat):j3 (es.map (sS k)) (i+1)=if i<es.length then p6 k (j3 es (i+1))else(0,0):=by
 rw[xB,xB,ac1]
 by_cases hi:i<es.length
 .rw[acx hi,if_pos hi];rfl
 .rw[acU (by omega),if_neg hi];rfl
def UL(N:Nat)(es:List End):Prop:=∀e∈es,0<=e.1/\e.1.toNat<N
def fp.gY(h:fp s x out k N){es:List End}(hr:UL N es)(hs:∀j (hj:j+1<es.length),es[j].1.toNat<=es[j+1].1.toNat)(i:Nat)(hi:i<es.length):(gY x [] es i).map (p6 k)=gY s out (es.map (sS k)) i:=by
 have cN:i<(es.map (sS k)).length:=by rw[acC];exact hi
 rw[oJ hi,oJ cN,acM,UI];have he:=hr _ (acy hi)
 cases i with
 |zero=>
  have h0:=h.jO (t:=(nE es[0]).2) (nE es[0]).1 0 0 (by rw[ac_];exact he.2);show List.map (p6 k) (Tryz.jO x [] ((nE es[0]).1-0) 0 0 (nE es[0]).2)=Tryz.jO s out (k (nE es[0]).1-0) 0 0 (nE es[0]).2;rw[Nat.sub_zero,Nat.sub_zero,h0,ac_]
  have hk:k 0<=k (nE es[0]).1:=by
   by_cases hz:(nE es[0]).1=0
   .rw[hz];exact acD _
   .exact agy ((h.lt_iff h.pos he.2).2 (Nat.pos_of_ne_zero hz))
  have:=uN (s:=s) (out:=out) (d:=k (nE es[0]).1-k 0) (t:=(nE es[0]).2) (k 0) 0 λj _ h2=>h.first j (by omega)
  rw[show k 0+(k (nE es[0]).1-k 0)=k (nE es[0]).1 by omega,ac_]at this;exact this.symm
 |succ i=>
  have ha:j3 es (i+1)=nE es[i]:=by rw[xB,acx (by omega)]
  have hb:=hr _ (acy (by omega:i<es.length));have hle:=hs i hi;rw[Sa,if_pos (by omega),ha]
  have:=h.jO (t:=(nE es[i+1]).2) ((nE es[i+1]).1-(nE es[i]).1) (nE es[i]).1 (nE es[i]).2 (by
   show es[i].1.toNat+(es[i+1].1.toNat-es[i].1.toNat)<N
   have:=he.2;omega)
  rw[show(nE es[i]).1+((nE es[i+1]).1-(nE es[i]).1)=(nE es[i+1]).1 by show es[i].1.toNat+(es[i+1].1.toNat-es[i].1.toNat)=es[i+1].1.toNat;omega]at this;exact this
def fp.j9(h:fp s x out k N){es:List End}(hr:UL N es)(i:Nat)(hi:i<es.length):j9 x es i=j9 s (es.map (sS k)) i:=by
 have cN:i<(es.map (sS k)).length:=by rw[acC];exact hi
 rw[vP hi,vP cN,acM];show decide (es[i].2<(Tryz.ct x es[i].1.toNat:Int))=decide (es[i].2<(Tryz.ct s ((k es[i].1.toNat:Int)).toNat:Int));rw[Int.toNat_natCast,h.ct (hr _ (acy hi)).2]
def fp.Tk(h:fp s x out k N){g:Nat×Nat}(hg:g.1<N):(bl x g).2=(bl s (p6 k g)).2:=by
 unfold bl p6;simp only;rw[h.word _ hg]
def fp.gf(h:fp s x out k N){a b:Lt}(he:a.2=b.2):gf x a=gf s b:=by
 unfold Tryz.gf;rw[he,h.h1,h.h7]
def fp.kX(h:fp s x out k N)(st:Int){f g:Nat×Nat}(hf:f.1<N)(hg:g.1<N):kX x st (bl x f) (bl x g)=kX s st (bl s (p6 k f)) (bl s (p6 k g)):=by
 have e:fU x (bl x f) (bl x g)=fU s (bl s (p6 k f)) (bl s (p6 k g)):=by
  unfold fU;rw[h.Tk hf,h.Tk hg,h.h2,h.h3,h.h4,h.h5,h.h6]
  by_cases he:f.1=g.1
  .rw[if_pos (by unfold bl;simp only;omega),if_pos (by unfold bl p6;simp only;rw[he])]
  .rw[if_neg (by unfold bl;simp only;omega),if_neg];unfold bl p6;simp only;intro hc;exact he (h.inj hf hg (by omega))
 unfold Tryz.kX;rw[e]
def fp.jg(h:fp s x out k N)(st:Int){l:List (Nat×Nat)}(hl:∀g∈l,g.1<N)(cut:Bool):jg x st (l.map (bl x)) cut=jg s st ((l.map (p6 k)).map (bl s)) cut:=by
 have e1:∀i,gI x (l.map (bl x)) i=gI s ((l.map (p6 k)).map (bl s)) i:=by
  intro i
  induction i with
  |zero=>rfl
  |succ i ih=>
   unfold gI;rw[ih,ad2,ac1,ac1]
   by_cases hi:i<l.length
   .rw[acx hi];show _+Tryz.gf x (bl x l[i])=_+Tryz.gf s (bl s (p6 k l[i]));rw[h.gf (h.Tk (hl _ (acy hi)))]
   .rw[acU (by omega)];rfl
 have e2:∀i,hZ x st (l.map (bl x)) i=hZ s st ((l.map (p6 k)).map (bl s)) i:=by
  intro i
  induction i with
  |zero=>rfl
  |succ i ih=>
   unfold hZ;rw[ih,ad2,ac1,ac1,ac1,ac1]
   by_cases hi:i+1<l.length
   .rw[acx (by omega:i<l.length),acx hi];show _+Tryz.kX x st (bl x l[i]) (bl x l[i+1])=_+Tryz.kX s st (bl s (p6 k l[i])) (bl s (p6 k l[i+1]));rw[h.kX st (hl _ (acy _)) (hl _ (acy hi))]
   .rw[acU (by omega:l.length<=i+1)]
    cases l[i]?<;>rfl
 unfold Tryz.jg;rw[e1,e2,h.h3,h.h4,h.h7];simp only[acC]
end
section
variable{s x:aF}{out:List Int}{k:Nat->Nat}{N:Nat}
def fp.kL(h:fp s x out k N):Tryz.kL out s.words.length=(k (N-1):Int):=by
 have hp:=h.pos;have hl:=h.lt (N-1) (by omega)
 have:∀n,k (N-1)<n->n<=s.words.length->Tryz.kL out n=(k (N-1):Int):=by
  intro n
  induction n with
  |zero=>intro h1;omega
  |succ n ih=>
   intro h1 h2;unfold Tryz.kL
   by_cases he:n=k (N-1)
   .subst he;rw[h.XR _ (by omega)];rfl
   .rw[h.last n (by omega) (by omega),if_pos rfl];exact ih (by omega) (by omega)
 exact this _ hl (acD _)
def fp.t_(h:fp s x out k N){e:End}(h0:0<=e.1)(hn:e.1.toNat<N):Tryz.t_ x [] e=true↔Tryz.t_ s out (sS k e)=true:=by
 rw[HE,HE];have hk:=h.lt _ hn
 have hx:e.1.toNat<x.words.length:=by rw[h.n];exact hn
 have hw:=h.word _ hn;rw[acx hx,acx hk]at hw;have hw:=acX hw;have hi:=h.XR _ hn
 constructor
 .rintro⟨_,_,_,h3⟩;refine⟨by show(0:Int)<=(k e.1.toNat:Int);omega,?_,?_⟩
  .show¬(k e.1.toNat:Int)∈out;simpa using hi
  .refine⟨by show(k e.1.toNat:Int).toNat<_;omega,?_⟩;show e.2=((s.words[(k e.1.toNat:Int).toNat]'_).aM.length:Int)\/e.2∈(s.words[(k e.1.toNat:Int).toNat]'_).cd;simp only[Int.toNat_natCast];rw[<-hw];exact h3
 .rintro⟨_,_,_,h3⟩;refine⟨h0,by simp,hx,?_⟩;have h3:e.2=((s.words[(k e.1.toNat:Int).toNat]'(by rw[Int.toNat_natCast];exact hk)).aM.length:Int)\/e.2∈(s.words[(k e.1.toNat:Int).toNat]'(by rw[Int.toNat_natCast];exact hk)).cd:=h3;simp only[Int.toNat_natCast]at h3;rw[hw];exact h3
def fp.M_(h:fp s x out k N){a b:End}(ha:0<=a.1/\a.1.toNat<N)(hb:0<=b.1/\b.1.toNat<N):fm a b=fm (sS k a) (sS k b):=by
 have h1:=h.lt_iff ha.2 hb.2
 have h2:k a.1.toNat=k b.1.toNat↔a.1.toNat=b.1.toNat:=⟨h.inj ha.2 hb.2,λe=>by rw[e]⟩
 unfold fm sS;rw[adE];simp only[adw,acA,acJ,ac7];omega
def fp.j5(h:fp s x out k N)(ho:fQ s out=true)(hx:fQ x []=true){es:List End}(hr:UL N es):Tryz.j5 x [] es=Tryz.j5 s out (es.map (sS k)):=by
 have xC:(es.getLast?.getD (-1,0)==kQ x [])=((es.map (sS k)).getLast?.getD (-1,0)==kQ s out)\/es=[]:=by
  by_cases bP:es=[]
  .exact .inr bP
  refine .inl ?_
  obtain⟨e,he⟩:∃e,es.getLast?=some e:=by cases hh:es.getLast? with|none=>exact absurd (aeO.1 hh) bP|some e=>exact⟨e,rfl⟩
  have hem:=agi he;have hee:=hr e hem;have hp:=h.pos;rw[List.getLast?_map,he]
  show(e==kQ x [])=(sS k e==kQ s out)
  have e1:kQ x []=(((N-1:Nat):Int),(Tryz.ct x (N-1):Int)):=Kb (by rw[h.n];omega)
  have e2:kQ s out=((k (N-1):Int),(Tryz.ct s (k (N-1)):Int)):=by
   unfold kQ;rw[h.kL,Int.toNat_natCast];unfold Tryz.ct;rw[acx (h.lt _ (by omega))]
  rw[e1,e2,h.ct (by omega),adE,ac7,ac7]
  constructor
  .rintro rfl;show((k ((N-1:Nat):Int).toNat:Int),(Tryz.ct s (k (N-1)):Int))=_;rw[Int.toNat_natCast]
  .intro hh;have a1:(k e.1.toNat:Int)=(k (N-1):Int):=congrArg Prod.fst hh;have a2:e.2=(Tryz.ct s (k (N-1)):Int):=congrArg Prod.snd hh;have:=h.inj hee.2 (by omega) (by omega:k e.1.toNat=k (N-1));exact Prod.ext (by show e.1=((N-1:Nat):Int);omega) a2
 rcases xC with xC|rfl
 .unfold Tryz.j5;rw[ho,hx,xC]
  have e1:(es.map (sS k)).isEmpty=es.isEmpty:=by cases es<;>rfl
  have e2:mB (Tryz.t_ x []) fm es=mB (Tryz.t_ s out) fm (es.map (sS k)):=by
   rw[adE,gn,gn]
   constructor
   .rintro⟨h1,h2⟩;refine⟨λe he=>?_,λj hj=>?_⟩
    .obtain⟨e',mS,rfl⟩:=acZ.1 he;exact(h.t_ (hr _ mS).1 (hr _ mS).2).1 (h1 _ mS)
    .have dH:j+1<es.length:=by simpa using hj
     rw[acM,acM,<-h.M_ (hr _ (acy _)) (hr _ (acy _))];exact h2 j dH
   .rintro⟨h1,h2⟩;refine⟨λe he=>?_,λj hj=>?_⟩
    .exact(h.t_ (hr _ he).1 (hr _ he).2).2 (h1 _ (afH he))
    .have:=h2 j (by simpa using hj);rw[acM,acM,<-h.M_ (hr _ (acy _)) (hr _ (acy _))]at this;exact this
  rw[e1,e2]
 .unfold Tryz.j5;simp
def fp.eU(h:fp s x out k N){es:List End}(hr:UL N es)(hs:∀j (hj:j+1<es.length),es[j].1.toNat<=es[j+1].1.toNat)(lz:∀i,i<es.length->∀g∈Tryz.gY x [] es i,g.1<N)(st:Int):Tryz.eU x [] es st=Tryz.eU s out (es.map (sS k)) st:=by
 have e:dh x [] es st=dh s out (es.map (sS k)) st:=by
  unfold dh;rw[acC]
  refine adC λi hi=>?_
  have hi:i<es.length:=acY.1 hi;unfold jE;rw[h.jg st (lz i hi),h.gY hr hs i hi,h.j9 hr i hi]
 unfold Tryz.eU;rw[e,acC,h.h8,h.h9]
end
def oR(l:List Int):Nat:=match l.getLast? with|some x=>x.toNat+1|none=>0
def IV{s:aF}{l:List Int}(h:fQ s l=true):l.length<s.words.length:=by
 unfold fQ at h;simp only[acA,acJ]at h;exact h.1.2
def zj:∀{l r:List Int},l.Pairwise (λa b=>a<b)->r.Pairwise (λa b=>a<b)->(∀x,x∈l↔x∈r)->l=r
 |[],[],_,_,_=>rfl
 |[],b::r,_,_,h=>absurd ((h b).2 acS) (by simp)
 |a::l,[],_,_,h=>absurd ((h a).1 acS) (by simp)
 |a::l,b::r,hl,hr,h=>by
  obtain⟨h1,h2⟩:=adT.1 hl;obtain⟨h3,h4⟩:=adT.1 hr
  have qF:a=b:=by
   rcases adl.1 ((h a).1 acS)with e|e
   .exact e
   .rcases adl.1 ((h b).2 acS)with e'|e'
    .exact e'.symm
    .have:=h3 a e;have:=h1 b e';omega
  subst qF
  congr 1
  refine zj h2 h4 λx=>?_
  constructor
  .intro hx;rcases adl.1 ((h x).1 (acH _ hx))with e|e
   .have:=h1 x hx;omega
   .exact e
  .intro hx;rcases adl.1 ((h x).2 (acH _ hx))with e|e
   .have:=h3 x hx;omega
   .exact e
def pt(w:Word)(n:Nat):Bool:=n==w.aM.length||w.cd.contains (n:Int)
def nh(w:Word)(n:Nat):List Int:=((List.range' 1 n).filter (pt w)).map λk:Nat=>(k:Int)
def F8(w:Word)(n:Nat):nh w (n+1)=nh w n++if pt w (n+1)then[((n+1:Nat):Int)]else[]:=by
 unfold nh;rw[aeZ,List.filter_append,ada]
 congr 1
 rw[show 1+1*n=n+1 by omega,List.filter_cons]
 split<;>simp
def L3{w:Word}(h1:1<=w.aM.length)(hc:fK w.cd 1 (w.aM.length-1)=true):nh w w.aM.length=w.cd++[(w.aM.length:Int)]:=by
 unfold fK at hc;obtain⟨hb,hs⟩:=gn.1 hc
 have hb:∀x∈w.cd,1<=x/\x<=w.aM.length-1:=λx hx=>by
  have:=hb x hx;unfold cG at this;simpa using this
 refine zj ?_ ?_ ?_
 .unfold nh;rw[List.pairwise_map];refine(List.Pairwise.filter _ (List.pairwise_lt_range' (s:=1) (n:=w.aM.length))).imp ?_;intro a b qF;omega
 .rw[aey];refine⟨Gy λj hj=>by simpa using hs j hj,aeT _ _,λa ha b fS=>?_⟩;rw[ac4]at fS;have:=hb a ha;omega
 .intro x;unfold nh pt;simp only[acZ,List.mem_filter,aeK,acF,ac4,adw,ac7,List.contains_iff_mem]
  constructor
  .rintro⟨n,⟨hn,h⟩,rfl⟩;rcases h with h|h
   .exact .inr (by omega)
   .exact .inl h
  .rintro(h|h)
   .have:=hb x h;refine⟨x.toNat,⟨by omega,.inr ?_⟩,by omega⟩;rw[afd (by omega)];exact h
   .exact⟨w.aM.length,⟨by omega,.inl rfl⟩,h.symm⟩
def tQ{α β:Type}{f:α->List β}{b:Nat}(hf:∀x,(f x).length<=b):∀l:List α,(l.flatMap f).length<=b*l.length
 |[]=>by simp
 |a::l=>by
  have:=tQ hf l;have:=hf a;rw[ad4,acV,List.length_cons,Nat.mul_add];omega
structure Grown(b:Nat)(x:aF)(k:Nat):Prop where
 bp:x.bp.length<=k
 aW:x.aW.length<=k
 words:x.words.length<=k
 aM:∀w∈x.words,w.aM.length<=b
 cd:∀w∈x.words,w.cd.length<=b
def Grown.mono{b k k':Nat}{x:aF}(h:Grown b x k)(hk:k<=k'):Grown b x k':=⟨by have:=h.bp;omega,by have:=h.aW;omega,by have:=h.words;omega,h.aM,h.cd⟩
def nF(s:aF)(i:Nat):Bool:=!ph s (i:Int)
def Dh{α β:Type}{l:List α}{f g:α->List β}(h:∀a∈l,f a=g a):l.flatMap f=l.flatMap g:=by
 rw[List.flatMap_def,List.flatMap_def,adC h]
def uu(s:aF):Nat->List Int->List (List Int)
 |0,now=>[now]
 |d+1,now=>(List.range' (oR now) (s.words.length-oR now)).flatMap λi:Nat=>if nF s i then uu s d (now++[(i:Int)])else[]
def Pd{s:aF}{l:List Int}(h:fQ s l=true){i:Nat}(h1:oR l<=i)(h2:i<s.words.length)(h3:l.length+1<s.words.length):fQ s (l++[(i:Int)])=nF s i:=by
 unfold fQ at h;simp only[acA,acJ,adx,adH]at h;obtain⟨⟨a1,a2⟩,a3⟩:=h;unfold fK at a1;rw[gn]at a1;obtain⟨a1,a4⟩:=a1
 have hr:fK (l++[(i:Int)]) 0 (s.words.length-1)=true:=by
  unfold fK;rw[gn]
  constructor
  .intro x hx;rcases acF.1 hx with hx|hx
   .exact a1 x hx
   .rw[ac4]at hx;subst hx;simp only[cG,acA,acJ];omega
  .intro j hj;rw[acV,List.length_singleton]at hj
   by_cases o_:j+1<l.length
   .rw[ac9 (by omega),ac9 o_];exact a4 j o_
   .rw[ac9 (by omega),adF (by omega),List.getElem_singleton]
    have hf:oR l=(l[j]'(by omega)).toNat+1:=by
     unfold oR;rw[List.getLast?_eq_getElem?,show l.length-1=j by omega,acx (by omega)]
    have:=a1 _ (acy (by omega:j<l.length));simp only[cG,acA,acJ]at this;simp only[acJ];omega
 unfold fQ nF;rw[hr,acV,List.length_singleton,adX (by omega),List.any_append]
 have:l.any (ph s)=false:=by rw[adH];exact a3
 rw[this];simp
end Go.Proofs.Tryz
namespace Go.Proofs.Tryz
open Go Go.AL Go.RowKit Go.Proofs Go.Proofs.Tram
attribute [local simp] dP fu fb eu eL dV dW du dp eJ dq cU gG gD aG aD ev aQ.S aQ.H bG au aY AL.start AV.cells AV.storable AV.bZ bu bQ eF b0 HR.okB post cL dc db AV.out AV.bW cy dK fz gM AV.vw da vI int bO aO dE dj iJ jF eo dG bt AV.aH AV.cT
variable{GI:World->Prop}
def gA(g:Nat×Nat):AV:=.agg [.int .i64 g.1,.int .i64 g.2]
def aZ(s:aF):List AV:=ae s++[bT s.aW]
def gy(s:aF):AV:=.agg (aZ s)
def K0(l:List (Nat×Nat))(cut:Bool):AV:=EX ⟨l.map gA,cut⟩
def Kd(s:aF)(g:Nat×Nat):Prop:=g.1<s.words.length/\g.2<ct s g.1
def MB(hG:aw GI)(s:aF){g:Nat×Nat}(h:Kd s g):AC prog GI 224 [gy s,gA g] (.ret (.int .i64 (bl s g).2)):=by
 obtain⟨h1,h2⟩:=h;rw[fM h1]at h2
 have hr:(bl s g).2=s.words[g.1].aM[g.2]:=by unfold bl;simp[acx h1,h2]
 rw[hr];refine cE hG func224 ntmps224 c224 ?_;refine aI (λS H=>S 2=.box 2 0/\S 3=.box 3 0/\H 2=some (aZ s)/\H 3=some [.int .i64 g.1,.int .i64 g.2]) (by simp[gy,aZ,gA,ae,bT]) ?_;rintro S H ⟨s2,s3,e2,e3⟩;simp[s2,s3,e2,e3,aZ,ae,bT,h1,h2,cZ]
def E3(hG:aw GI){lo hi st:Int}(h0:0<=lo)(h1:lo<=hi)(h2:hi<=20)(h3:0<=st)(h4:st<=10):AC prog GI 227 [.agg [.int .i64 lo,.int .i64 hi],.int .i64 st] (.ret (.int .i64 (jP lo hi st))):=by
 have CB:0<=(hi-lo)*st:=ad3 (by omega) h3;have E0:(hi-lo)*st<=20*10:=aep (by omega) h4 h3 (by omega);have hb:=kV h1 h3 h4;unfold jP at hb;have w1:IntKind.i64.wrap (hi-lo)=hi-lo:=aP (by omega);have w2:IntKind.i64.wrap ((hi-lo)*st)=(hi-lo)*st:=aP (by omega);have w3:IntKind.i64.wrap (((hi-lo)*st).tdiv 10)=((hi-lo)*st).tdiv 10:=aP (by omega);have w4:IntKind.i64.wrap (lo+((hi-lo)*st).tdiv 10)=lo+((hi-lo)*st).tdiv 10:=aP (by omega);refine cE hG func227 ntmps227 c227 ?_;simp[c227,w1,w2,w3,w4,jP]
def zx(x y:Int):∀(ps:List l6),mO [x,y] (ps.map sc) (ps.map nD)=some ((ps.find? λp=>p.l==x&&p.r==y).map nD)
 |[]=>rfl
 |p::ps=>by
  show mO [x,y] (sc p::ps.map sc) (nD p::ps.map nD)=_;unfold mO;simp only[sc,kU,Option.map_some];simp only[List.length_cons,List.length_nil,ne_eq,aef,acW];rw[List.find?_cons]
  by_cases hp:p.l=x/\p.r=y
  .obtain⟨rfl,rfl⟩:=hp;simp
  .have h1:([x,y]==[p.l,p.r])=false:=by
    simp only[adj,ne_eq,aeG,afZ];rintro⟨rfl,rfl⟩;exact hp ⟨rfl,rfl⟩
   have h2:(p.l==x&&p.r==y)=false:=by
    rw[aeI];simp only[adj]
    by_cases h:p.l=x
    .exact .inr λh'=>hp ⟨h,h'⟩
    .exact .inl h
   rw[h1,h2];exact zx x y ps
def Wl(hG:aw GI)(s:aF)(hF:kl s){a b:Nat×Nat}(ha:Kd s a)(hb:Kd s b){st:Int}(h3:0<=st)(h4:st<=10):AC prog GI 226 [gy s,gA a,gA b,.int .i64 st] (.ret (.int .i64 (kX s st (bl s a) (bl s b)))):=by
 have nr:=mX hF (bl s a) (bl s b);refine cE hG func226 ntmps226 c226 ?_;refine aI (λS H=>S 4=.box 4 0/\S 5=.box 5 0/\S 6=.box 6 0/\S 3=.int .i64 st/\H 4=some (aZ s)/\H 5=some [.int .i64 a.1,.int .i64 a.2]/\H 6=some [.int .i64 b.1,.int .i64 b.2]) (by simp[gy,aZ,gA,ae,bT]) ?_;rintro S H ⟨s4,s5,s6,s3,e4,e5,e6⟩
 by_cases hw:a.1=b.1
 case neg=>
  have iS:fU s (bl s a) (bl s b)=(s.nK,s.nL):=by
   unfold fU bl;rw[if_neg];simp only;omega
  have Af:((a.1:Int)!=(b.1:Int))=true:=by simp;omega
  unfold kX;rw[iS]at nr⊢;simp[s4,s5,s6,s3,e4,e5,e6,aZ,ae,bT,Af];refine⟨_,by kernel_rfl,E3 hG nr.1 nr.2.1 nr.2.2 h3 h4,λ_=>rfl,?_⟩;simp
 have ss:(bl s a).1=(bl s b).1:=by unfold bl;simp only;omega
 have Af:((a.1:Int)!=(b.1:Int))=false:=by simp;omega
 simp[s4,s5,s6,s3,e4,e5,e6,aZ,ae,bT,Af];refine oc (MB hG s ha) ?_;simp[s4,s5,s6,s3,e4,e5,e6,aZ,ae,bT,Af];refine oc (MB hG s hb) ?_;simp[s4,s5,s6,s3,e4,e5,e6,aZ,ae,bT,Af,AP,bV,zx]
 cases hf:s.aW.find? λp=>p.l==(bl s a).2&&p.r==(bl s b).2 with
 |some p=>
  have iS:fU s (bl s a) (bl s b)=(p.lo,p.hi):=by unfold fU;rw[if_pos ss,hf]
  unfold kX;rw[iS]at nr⊢;simp[s4,s5,s6,s3,e4,e5,e6,nD];refine⟨_,by kernel_rfl,E3 hG nr.1 nr.2.1 nr.2.2 h3 h4,λ_=>rfl,?_⟩;simp
 |none=>
  have iS:fU s (bl s a) (bl s b)=(s.jM,s.jN):=by unfold fU;rw[if_pos ss,hf]
  unfold kX;rw[iS]at nr⊢;simp[s4,s5,s6,s3,e4,e5,e6,aZ,ae,bT];refine⟨_,by kernel_rfl,E3 hG nr.1 nr.2.1 nr.2.2 h3 h4,λ_=>rfl,?_⟩;simp
def pP{l:List Int}(h:∀x∈l,0<=x/\x<=1000):0<=l.sum/\l.sum<=1000*l.length:=by
 induction l with
 |nil=>simp
 |cons a l ih=>
  have h1:=h a acS
  have h2:=ih λx hx=>h x (acH _ hx)
  simp only[List.sum_cons,List.length_cons];omega
def EG{l:List Int}{i:Nat}(h:i<l.length):(l.take (i+1)).sum=(l.take i).sum+l[i]:=by
 rw[acL h,aeg];simp
def GJ(hG:aw GI)(l:List Int)(hl:l.length<100000)(h:∀x∈l,0<=x/\x<=1000):AC prog GI 225 [vI l] (.ret (.int .i64 l.sum)):=by
 refine cE hG func225 ntmps225 c225 ?_;simp[c225];refine bC 8 l.length (λi S H=>S 6=vI l/\S 7=.int .i64 l.length/\S 8=.int .i64 (i:Nat)/\S 3=.int .i64 (l.take i).sum) (λi S H h=>h.2.2.1) ⟨by simp,by simp,by simp,by simp⟩ ?_;rintro i hi S H ⟨s6,s7,s8,s3⟩
 by_cases av:i<l.length
 .have hb:=pP (l:=l.take i) λx hx=>h x (adS hx)
  have hx:=h l[i] (acy av);rw[adf]at hb;have hw:IntKind.i64.wrap ((i:Int)+1)=i+1:=aP (by omega);have iy:IntKind.i64.wrap ((l.take i).sum+l[i])=(l.take i).sum+l[i]:=aP (by omega);rw[EG av];generalize(l.take i).sum=y at s3 iy⊢;simp[s6,s7,s8,s3,av,hw,iy]
 .have cN:i=l.length:=by omega
  subst cN;rw[adG]at s3;simp[s6,s7,s8,s3]
def fe(l:List Int):AV:=grow 3 (l.map (AV.int .i64))
def l5(l:List Int):aJ 1 (l.map (AV.int .i64))=true:=iK λa=>⟨rfl,rfl⟩
def tw(l:List Int):(fe l=.slice .nil []/\l=[])\/fe l=.slice (.own 3) (ints l):=by
 unfold fe grow
 cases l with
 |nil=>exact .inl ⟨rfl,rfl⟩
 |cons a l=>exact .inr rfl
def zL(s:aF)(l:List Lt):∀i,i<=l.length->gI s l i=((l.take i).map (gf s)).sum
 |0,_=>rfl
 |i+1,h=>by
  rw[nw (by omega),zL s l i (by omega),acL (by omega),ada,aeg];simp
def jI(s:aF)(st:Int)(l:List Lt):Nat->List Int
 |0=>[]
 |i+1=>jI s st l i++(if 0<i then match l[i-1]?,l[i]? with
  |some a,some b=>[kX s st a b]
  |_,_=>[]else[])
def A5{s:aF}{st:Int}{l:List Lt}{i:Nat}(h:i+1<l.length):jI s st l (i+2)=jI s st l (i+1)++[kX s st (l[i]'(by omega)) l[i+1]]:=by
 show jI s st l (i+1)++_=_;rw[if_pos (by omega),show i+1-1=i by omega,acx (by omega:i<l.length),acx h]
def D9{s:aF}{st:Int}{l:List Lt}:∀i,i+1<=l.length->(jI s st l (i+1)).sum=hZ s st l i
 |0,_=>rfl
 |i+1,h=>by
  rw[A5 (by omega),nu (by omega),aeg,D9 i (by omega)];simp
def Em{s:aF}(hF:kl s){st:Int}(h0:0<=st)(h1:st<=10){l:List Lt}:∀i,∀x∈jI s st l i,0<=x/\x<=20
 |0,x,hx=>by cases hx
 |i+1,x,hx=>by
  unfold jI at hx;rw[acF]at hx;rcases hx with hx|hx
  .exact Em hF h0 h1 i x hx
  .split at hx
   .split at hx
    .rw[ac4]at hx;subst hx;exact tv hF h0 h1 _ _
    .cases hx
   .cases hx
def yt{s:aF}{st:Int}{l:List Lt}:∀i,(jI s st l i).length<=i
 |0=>acD _
 |i+1=>by
  have:=yt (s:=s) (st:=st) (l:=l) i;unfold jI;rw[acV];split
  .split<;>simp<;>omega
  .simp;omega
def Gg{s:aF}(hs:bf s=true):∀i j (hi:i<s.aW.length)(hj:j<s.aW.length),i<j->¬(s.aW[i].l=s.aW[j].l/\s.aW[i].r=s.aW[j].r):=by
 unfold bf at hs;simp only[acA]at hs;have h:=hs.1.2;rw[gn]at h
 have hp:my (s.aW.map λp=>(p.l,p.r)):=sE λj hj=>by
  rw[acM,acM];exact h.2 j (by simpa using hj)
 intro i j hi hj py he;have:=aeq.1 hp i j (by simpa using hi) (by simpa using hj) py;rw[acM,acM,he.1,he.2,jj]at this;cases this
def QE(hG:aw GI)(s:aF)(hs:bf s=true):AC prog GI 79 [bU s] (.ret (gy s)):=by
 have hF:=eM hs;exact abQ hG (sA:=ae s) (ps:=s.aW) rfl rfl (by simp[ae,vI,int,AV.storable,isVal]) (by have:=hF.VU;omega) (Gg hs)
def WE(hG:aw GI)(s:aF)(hs:oP s):AC prog GI 138 [bU s] (.ret (.int .i64 (if bf s then 0 else 2))):=by
 refine cE hG func138 ntmps138 c138 ?_;refine aI (λS H=>S 1=.box 1 0/\H 1=some (ae s)) (by simp[bU,ae]) ?_;rintro S H ⟨s1,e1⟩;simp[s1,e1,ae];refine⟨_,by kernel_rfl,IA hG s hs,λ_=>rfl,?_⟩
 cases cV:bf s<;>simp
def C4{s:aF}{out:List Int}{es:List End}{st:Int}{i:Nat}(h:i<es.length):(dh s out es st).take (i+1)=(dh s out es st).take i++[jE s out es st i]:=by
 rw[acL (by unfold dh;simpa using h)]
 congr 2
 unfold dh;rw[acM,List.getElem_range]
def od(s:aF)(out:List Int)(es:List End)(st:Int):(dh s out es st).length=es.length:=by unfold dh;simp
structure kf where
 lo:Int
 hi:Int
 hid:Bool
def fo(c:kf):AV:=.agg [.int .i64 c.lo,.int .i64 c.hi,.bool c.hid]
structure az where
 cells:List kf
 pos:Int
 reach:Int
 eW:Int
 dS:Int
 name:aF
def ar(s:az):List AV:=[.slice .view (s.cells.map fo),.int .i64 s.pos,.int .i64 s.reach,.int .i64 s.eW,.int .i64 s.dS]++ae s.name
def bn(s:az):AV:=.agg (ar s)
def uo(hG:aw GI)(n lo hi:Int):AC prog GI 99 [.int .i64 n,.int .i64 lo,.int .i64 hi] (.ret (.bool (cG n lo hi))):=by
 refine cE hG func99 ntmps99 c99 ?_
 by_cases h1:lo<=n<;>by_cases h2:n<=hi<;>simp[c99,cG,h1,h2]
def jT(x:kf):Bool:=!cG x.lo 1 20||!cG x.hi x.lo 20
def XW(hG:aw GI)(x:kf):AC prog GI 136 [fo x] (.ret (.bool (jT x))):=by
 refine cE hG func136 ntmps136 c136 ?_;simp[c136,fo];refine oc (uo hG x.lo 1 20) ?_;cases h1:cG x.lo 1 20
 .simp[jT,h1]
 .simp;refine oc (uo hG x.hi x.lo 20) ?_;simp[jT,h1]
def Y6(hG:aw GI)(x:kf):AC prog GI 157 [fo x] (.ret (.int .i64 x.lo)):=by
 refine cE hG func157 ntmps157 c157 ?_;simp[c157,fo]
def XG(hG:aw GI)(x:kf):AC prog GI 158 [fo x] (.ret (.int .i64 x.hi)):=by
 refine cE hG func158 ntmps158 c158 ?_;simp[c158,fo]
def Y2 (hG:aw GI) (l:List kf) (hl:l.length < 1000000) (k:Nat) (p:kf→Bool) (hk:ef prog k=true) (h:∀ x∈l,AC prog GI k [fo x] (.ret (.bool (p x)))) :
  AC prog GI 183 [.slice .view (l.map fo),.func (.func k) [] []] (.ret (.int .i64 (firstT p l))):=by
 refine cE hG func183 ntmps183 c183 ?_;simp[c183];refine bC 8 l.length (λi S H=>S 0=.slice .view (l.map fo)/\S 1=_/\S 7=.int .i64 l.length/\S 8=.int .i64 (i:Nat)/\∀j (hj:j<l.length),j<i->p l[j]=false) (λi S H h=>h.2.2.2.1) ⟨by simp,by simp<;>rfl,by simp,by simp,by simp⟩ ?_;rintro i hi S H ⟨s0,s1,s7,s8,hb⟩
 by_cases av:i<l.length
 .have hw:IntKind.i64.wrap ((i:Int)+1)=i+1:=aP (by omega);have hx:=h l[i] (acy av);cases hp:p l[i]
  .simp[acM,fo,s0,s1,s7,s8,av];refine⟨_,hk,hx,by simp[da],?_⟩;simp[s0,s1,s7,s8,av,hp,hw];intro j hj fh
   by_cases J1:j=i
   .subst J1;exact hp
   .exact hb j hj (by omega)
  .simp[acM,fo,s0,s1,s7,s8,av];refine⟨_,hk,hx,by simp[da],?_⟩;simp[s0,s1,s7,s8,av,hp,hw];exact oV av hp hb
 .have cN:i=l.length:=by omega
  subst cN;simp[s0,s1,s7,s8]
  exact kZ λj hj=>hb j hj hj
def WU (hG:aw GI) (l:List kf) (hl:l.length < 1000000) (k:Nat) (p:kf→Bool) (hk:ef prog k=true) (h:∀ x∈l,AC prog GI k [fo x] (.ret (.bool (p x)))) :
  AC prog GI 137 [.slice .view (l.map fo),.func (.func k) [] []] (.ret (.bool (l.any p))):=by
 have hF:=Y2 hG l hl k p hk h;refine cE hG func137 ntmps137 c137 ?_;simp[c137];refine⟨_,by kernel_rfl,hF,λ_=>rfl,?_⟩;simp;exact l3.symm
def dQ(s:az):Bool:=cG s.cells.length 1 12&&!s.cells.any jT&&cG s.pos 1 s.cells.length&&cG s.reach 1 12&&cG s.eW 1 9&&cG s.dS 0 9&&bf s.name
structure gh(s:az):Prop where
 cells:s.cells.length<1000000
 name:oP s.name
def rZ(hG:aw GI)(s:az)(hs:gh s):AC prog GI 77 [bn s] (.ret (.bool (dQ s))):=by
 refine cE hG func77 ntmps77 c77 ?_;simp[c77,bn,ar,ae];refine oc (uo hG s.cells.length 1 12) ?_;cases e1:cG s.cells.length 1 12
 .simp[dQ,e1]
 simp;refine oc (WU hG s.cells hs.cells 136 jT (by kernel_rfl) (λx _=>XW hG x)) ?_;cases e3:s.cells.any jT
 case true=>simp[dQ,e1,e3]
 simp;refine oc (uo hG s.pos 1 s.cells.length) ?_;cases e4:cG s.pos 1 s.cells.length
 .simp[dQ,e1,e3,e4]
 simp;refine oc (uo hG s.reach 1 12) ?_;cases e5:cG s.reach 1 12
 .simp[dQ,e1,e3,e4,e5]
 simp;refine oc (uo hG s.eW 1 9) ?_;cases e6:cG s.eW 1 9
 .simp[dQ,e1,e3,e4,e5,e6]
 simp;refine oc (uo hG s.dS 0 9) ?_;cases e7:cG s.dS 0 9
 .simp[dQ,e1,e3,e4,e5,e6,e7]
 simp;refine oc (WE hG s.name hs.name) ?_
 cases e8:bf s.name<;>simp[dQ,e1,e3,e4,e5,e6,e7,e8]
end Go.Proofs.Tryz
