/- A part of the proof. -/
import Derived.Test.YtajdcjkalbbogaaGreatDoorW1
import Derived.Test.YtajdcjkalbbogaaGreatDoorW2
import Derived.Test.YtajdcjkalbbogaaGreatDoorW3
import Derived.Test.YtajdcjkalbbogaaGreatDoorShelf
set_option maxRecDepth 100000
set_option maxHeartbeats 8000000
set_option linter.all false
namespace Go.Proofs.Tram
def eX(seen:Nat->Bool)(s:Nat×List (Nat×Nat))(i:Nat):Nat×List (Nat×Nat):=if seen i=true then s else(i+1,if s.1<i then s.2++[(s.1,i-1)]else s.2)
def gv(seen:Nat->Bool)(n:Nat):List (Nat×Nat):=((List.range (n+1)).foldl (eX seen) (0,[])).2
def yI(seen:Nat->Bool)(out:List (Nat×Nat))(c:Nat):List (Nat×Nat):=
 if seen c=true then(if 0<c/\seen (c-1)=true then out.dropLast++[((out.getLast?.getD (0,0)).1,c)]else out++[(c,c)])else out
def ua (seen:Nat→Bool) (n:Nat) :
  ((List.range n).foldl (eX seen) (0,[])).1<=n/\(((List.range n).foldl (eX seen) (0,[])).1<n↔0<n/\seen (n-1)=true)/\
   (List.range n).foldl (yI seen) []=((List.range n).foldl (eX seen) (0,[])).2++(if((List.range n).foldl (eX seen) (0,[])).1<n then[(((List.range n).foldl (eX seen) (0,[])).1,n-1)]else[]):=by
 induction n with
 |zero=>simp
 |succ n ih=>
  rw[aeV,aeJ,aeJ]
  generalize(List.range n).foldl (eX seen) (0,[])=s at*
  generalize(List.range n).foldl (yI seen) []=r at*
  obtain⟨h1,h2,h3⟩:=ih;simp only[List.foldl_cons,List.foldl_nil,agf]
  cases hs:seen n with
  |true=>
   have e1:eX seen s n=s:=by simp[eX,hs]
   rw[e1];refine⟨zo,⟨λ_=>⟨zo,by first|exact hs|rfl⟩,λ_=>zo⟩,?_⟩;rw[if_pos (by omega:s.1<n+1)];unfold yI;rw[if_pos hs]
   by_cases aq:s.1<n
   .rw[if_pos (h2.1 aq),h3,if_pos aq];simp
   .have:s.1=n:=zo
    rw[if_neg (λh=>aq (h2.2 h)),h3,if_neg aq,aeI,this]
  |false=>
   have e1:eX seen s n=(n+1,if s.1<n then s.2++[(s.1,n-1)]else s.2):=by simp[eX,hs]
   have e2:yI seen r n=r:=by simp[yI,hs]
   rw[e1,e2];refine⟨adF _,ahB,?_⟩;simp only[ahy,ad1,aeI];rw[h3]
   split<;>simp
def eu:List Int->Int->Nat×Int
 |[],t=>(0,t)
 |x::l,t=>if x<=t then((eu l (t-x)).1+1,(eu l (t-x)).2)else(0,t)
def wv:∀(l:List Int)(t:Int),(eu l t).1<=l.length
 |[],_=>adF _
 |x::l,t=>by
  unfold eu;split
  .simpa using wv l (t-x)
  .simp
def Ay:∀(l:List Int)(t:Int),0<=t->0<=(eu l t).2
 |[],_,h=>h
 |x::l,t,h=>by
  unfold eu;split
  .exact Ay l (t-x) zo
  .exact h
def Gk:∀(l:List Int)(t:Int)(x:Int),l[(eu l t).1]?=some x->(eu l t).2<x
 |[],_,_,h=>by simp at h
 |y::l,t,x,h=>by
  unfold eu at h⊢;split at h
  .rename_i hy;rw[if_pos hy];simp only[List.getElem?_cons_succ]at h;exact Gk l (t-y) x h
  .rename_i hy;rw[if_neg hy];simp only[List.getElem?_cons_zero,ad8]at h;simp only;omega
def J8:∀(l:List Int)(a b:Int),0<=b->eu l (a+b)=((eu l a).1+(eu (l.drop (eu l a).1) ((eu l a).2+b)).1,(eu (l.drop (eu l a).1) ((eu l a).2+b)).2)
 |[],a,b,_=>by simp[eu]
 |x::l,a,b,hb=>by
  by_cases h:x<=a
  .have e:eu (x::l) a=((eu l (a-x)).1+1,(eu l (a-x)).2):=by rw[eu];rw[if_pos h]
   rw[e]
   have e2:eu (x::l) (a+b)=((eu l (a+b-x)).1+1,(eu l (a+b-x)).2):=by
    rw[eu];rw[if_pos zo]
   rw[e2,show a+b-x=(a-x)+b by omega,J8 l (a-x) b hb];simp only[ahE]
   ext<;>simp<;>omega
  .have e:eu (x::l) a=(0,a):=by rw[eu];rw[if_neg h]
   rw[e];simp
def xz:∀(l:List Int)(t:Int)(k:Nat),k<=(eu l t).1->eu l t=(k+(eu (l.drop k) (t-(l.take k).sum)).1,(eu (l.drop k) (t-(l.take k).sum)).2)
 |_,_,0,_=>ahB
 |[],t,k+1,h=>by simp[eu]at h
 |x::l,t,k+1,h=>by
  by_cases hx:x<=t
  .have e:eu (x::l) t=((eu l (t-x)).1+1,(eu l (t-x)).2):=by rw[eu];rw[if_pos hx]
   rw[e]at h⊢;have:=xz l (t-x) k (by simpa using h);rw[this];simp only[ahE,List.take_succ_cons,List.sum_cons];rw[show t-x-(l.take k).sum=t-(x+(l.take k).sum) by omega]
   ext<;>simp<;>omega
  .rw[eu,if_neg hx]at h;simp at h
def mK(cn:Nat->Int)(a b:Nat):Int:=((List.range' a (b-a)).map cn).sum
def xY(cn:Nat->Int){a b:Nat}(h:a<=b):mK cn a (b+1)=mK cn a b+cn b:=by
 unfold mK;rw[show b+1-a=(b-a)+1 by omega,agh,ad6,afe];simp
 congr 1;omega
def CS(cn:Nat->Int)(a:Nat):mK cn a a=0:=by simp[mK]
def gf(av:List Int)(cn:Nat->Int)(vs:List (Nat×Nat)):Nat:=vs.foldl (λn v=>n+(eu (av.drop n) (mK cn v.1 (v.2+1))).1) 0
def nJ(av:List Int)(cn:Nat->Int)(seen:Nat->Bool)(s:Nat×Int)(i:Nat):Nat×Int:=
 if seen i=true then(s.1+(eu (av.drop s.1) (s.2+cn i)).1,(eu (av.drop s.1) (s.2+cn i)).2)else(s.1,0)
def mj(av:List Int)(cn:Nat->Int)(seen:Nat->Bool)(n:Nat):Nat×Int:=(List.range n).foldl (nJ av cn seen) (0,0)
def rV(av:List Int)(cn:Nat->Int)(l:List (Nat×Nat))(v:Nat×Nat):gf av cn (l++[v])=gf av cn l+(eu (av.drop (gf av cn l)) (mK cn v.1 (v.2+1))).1:=by
 unfold gf;rw[aeJ];rfl
def Eu(av:List Int)(cn:Nat->Int)(s:Nat×List (Nat×Nat))(n:Nat):Nat×Int:=
 if s.1<n then(gf av cn s.2+(eu (av.drop (gf av cn s.2)) (mK cn s.1 n)).1,(eu (av.drop (gf av cn s.2)) (mK cn s.1 n)).2)else(gf av cn s.2,0)
def N2(av:List Int){cn:Nat->Int}(hr:∀i,0<=cn i)(seen:Nat->Bool)(s:Nat×List (Nat×Nat)){n:Nat}(hle:s.1<=n):nJ av cn seen (Eu av cn s n) n=Eu av cn (eX seen s n) (n+1):=by
 cases hs:seen n with
 |true=>
  have e1:eX seen s n=s:=by simp[eX,hs]
  rw[e1];unfold nJ Eu;rw[if_pos hs,if_pos (by omega:s.1<n+1),xY cn hle]
  by_cases aq:s.1<n
  .rw[if_pos aq];simp only;rw[J8 _ (mK cn s.1 n) (cn n) (hr n),af1]
   ext<;>simp<;>omega
  .have:s.1=n:=zo
   rw[if_neg aq,this,CS]
 |false=>
  have e1:eX seen s n=(n+1,if s.1<n then s.2++[(s.1,n-1)]else s.2):=by simp[eX,hs]
  rw[e1];unfold nJ Eu;rw[if_neg (by simp[hs])];simp only[ahy,ad1]
  by_cases aq:s.1<n
  .rw[if_pos aq,if_pos aq,rV];simp only;rw[show n-1+1=n by omega]
  .rw[if_neg aq,if_neg aq]
def F1(av:List Int){cn:Nat->Int}(hr:∀i,0<=cn i)(seen:Nat->Bool):∀n,mj av cn seen n=Eu av cn ((List.range n).foldl (eX seen) (0,[])) n
 |0=>by simp[mj,gf,Eu]
 |n+1=>by
  have e1:mj av cn seen (n+1)=nJ av cn seen (mj av cn seen n) n:=by
   unfold mj;rw[aeV,aeJ];rfl
  have e2:(List.range (n+1)).foldl (eX seen) (0,[])=eX seen ((List.range n).foldl (eX seen) (0,[])) n:=by
   rw[aeV,aeJ];rfl
  rw[e1,e2,F1 av hr seen n];exact N2 av hr seen _ (ua seen n).1
def Bc{av:List Int}{cn:Nat->Int}(hr:∀i,0<=cn i){seen:Nat->Bool}{n:Nat}(hn:seen n=false):gf av cn (gv seen n)=(mj av cn seen n).1:=by
 have h:=F1 av hr seen (n+1);have hv:=ua seen (n+1)
 have h2:¬((List.range (n+1)).foldl (eX seen) (0,[])).1<n+1:=λhl=>by
  have:=(hv.2.1.1 hl).2;rw[agf,hn]at this;cases this
 unfold Eu at h;rw[if_neg h2]at h
 have e:mj av cn seen (n+1)=nJ av cn seen (mj av cn seen n) n:=by
  unfold mj;rw[aeV,aeJ];rfl
 rw[e]at h;unfold nJ at h;rw[if_neg (by simp[hn])]at h;exact(congrArg Prod.fst h).symm
def zb(a b:Nat×Int):Prop:=a.1<b.1\/(a.1=b.1/\a.2<=b.2)
def GD:∀(la lb:List Int)(ta tb:Int),la.length=lb.length->(∀j (h:j<la.length)(h':j<lb.length),lb[j]<=la[j])->ta<=tb->zb (eu la ta) (eu lb tb)
 |[],[],ta,tb,_,_,ht=>.inr ⟨rfl,ht⟩
 |[],_::_,_,_,h,_,_=>by simp at h
 |_::_,[],_,_,h,_,_=>by simp at h
 |x::la,y::lb,ta,tb,hl,h,ht=>by
  have h0:=h 0 ahB ahB;simp only[List.getElem_cons_zero]at h0
  by_cases hx:x<=ta
  .have e1:eu (x::la) ta=((eu la (ta-x)).1+1,(eu la (ta-x)).2):=by rw[eu];rw[if_pos hx]
   have e2:eu (y::lb) tb=((eu lb (tb-y)).1+1,(eu lb (tb-y)).2):=by rw[eu];rw[if_pos zo]
   rw[e1,e2]
   rcases GD la lb (ta-x) (tb-y) (by simpa using hl) (λj hj dZ=>h (j+1) (agy hj) (agy dZ)) zo with hm|⟨hm,Zm⟩
   .exact .inl (by simp only;omega)
   .exact .inr ⟨by simp only;omega,Zm⟩
  .have e1:eu (x::la) ta=(0,ta):=by rw[eu];rw[if_neg hx]
   rw[e1]
   by_cases hy:y<=tb
   .have e2:eu (y::lb) tb=((eu lb (tb-y)).1+1,(eu lb (tb-y)).2):=by rw[eu];rw[if_pos hy]
    rw[e2];exact .inl ahB
   .have e2:eu (y::lb) tb=(0,tb):=by rw[eu];rw[if_neg hy]
    rw[e2];exact .inr ⟨rfl,ht⟩
structure Calm(av:List Int)(s:Nat×Int):Prop where
 left:0<=s.2
 next:∀x,av[s.1]?=some x->s.2<x
def B5{av:List Int}(hp:∀x∈av,0<x){cn:Nat->Int}(hr:∀i,0<=cn i)(seen:Nat->Bool){s:Nat×Int}(h:Calm av s)(i:Nat):Calm av (nJ av cn seen s i):=by
 unfold nJ;split
 .refine⟨Ay _ _ (by have:=h.left;have:=hr i;omega),λx hx=>?_⟩;refine Gk (av.drop s.1) (s.2+cn i) x ?_;rw[afR];exact hx
 .exact⟨afx _,λx hx=>hp x (aeN hx)⟩
def Kg {na nb:List Int} (hl:na.length=nb.length) (hn:∀ j (h:j < na.length) (h':j < nb.length),nb[j]≤na[j]) (hp:∀ x∈nb,0 < x) {ra rb:Nat→Int} (Mo:∀ i,0≤ra i) {sa sb:Nat→Bool} {i:Nat} (hs:sa i=true→sb i=true) (hr:sa i=true→ra i≤rb i) (yU:∀ i,0≤rb i)
  {a b:Nat×Int} (ha:Calm na a) (hb:Calm nb b) (h:zb a b):zb (nJ na ra sa a i) (nJ nb rb sb b i):=by
 have U7:∀x∈na,0<x:=λx hx=>by
  obtain⟨j,hj,rfl⟩:=aer hx;have:=hn j hj zo;have:=hp _ (adC (by omega:j<nb.length));omega
 have lift:∀k ta tb,ta<=tb->zb (k+(eu (na.drop k) ta).1,(eu (na.drop k) ta).2) (k+(eu (nb.drop k) tb).1,(eu (nb.drop k) tb).2):=λk ta tb ht=>by
  rcases GD (na.drop k) (nb.drop k) ta tb (by simp;omega) (λj hj dZ=>by simpa using hn (k+j) (by simp at hj;omega) (by simp at dZ;omega)) ht with hm|⟨hm,Zm⟩
  .exact .inl (by simp only;omega)
  .exact .inr ⟨by simp only;omega,Zm⟩
 have hla:=ha.left;have CA:=hb.left;have adp:=Mo i;have adh:=yU i;unfold nJ
 cases hsa:sa i with
 |false=>
  simp only[adM,ad1];split
  .have:=Ay (nb.drop b.1) (b.2+rb i) zo
   rcases h with h|⟨h,_⟩
   .exact .inl (by simp only;omega)
   .by_cases h0:(eu (nb.drop b.1) (b.2+rb i)).1=0
    .exact .inr ⟨by simp only;omega,this⟩
    .exact .inl (by simp only;omega)
  .rcases h with h|⟨h,_⟩
   .exact .inl h
   .exact .inr ⟨h,afx _⟩
 |true=>
  have hr:=hr hsa;rw[if_pos rfl,if_pos (hs hsa)]
  rcases h with h|⟨h1,h2⟩
  .by_cases hk:b.1-a.1<=(eu (na.drop a.1) (a.2+ra i)).1
   .rw[xz (na.drop a.1) (a.2+ra i) (b.1-a.1) hk,af1,show a.1+(b.1-a.1)=b.1 by omega];simp only;rw[show a.1+(b.1-a.1+(eu (na.drop b.1) (a.2+ra i-((na.drop a.1).take (b.1-a.1)).sum)).1)=b.1+(eu (na.drop b.1) (a.2+ra i-((na.drop a.1).take (b.1-a.1)).sum)).1 by omega];refine lift b.1 _ _ ?_
    have aq:a.1<na.length:=by
     have:=wv (na.drop a.1) (a.2+ra i);rw[ael]at this;omega
    have Ws:=ha.next na[a.1] (adB aq)
    have zx:na[a.1]<=((na.drop a.1).take (b.1-a.1)).sum:=by
     rw[afE aq,show b.1-a.1=(b.1-a.1-1)+1 by omega,List.take_succ_cons,List.sum_cons]
     have:0<=(((na.drop (a.1+1)).take (b.1-a.1-1))).sum:=by
      have iJ:∀l:List Int,(∀x∈l,0<x)->0<=l.sum:=by
       intro l
       induction l with
       |nil=>simp
       |cons x l ih=>
        intro hx;have:=hx x ahB
        have:=ih λy hy=>hx y (adO _ hy)
        simp;omega
      exact iJ _ λx hx=>U7 x (af6 (aef hx))
     omega
    omega
   .exact .inl (by simp only;omega)
  .rw[h1];exact lift b.1 _ _ zo
def BL{na nb:List Int}(hl:na.length=nb.length)(hn:∀j (h:j<na.length)(h':j<nb.length),nb[j]<=na[j])(hp:∀x∈nb,0<x){ra rb:Nat->Int}(Mo:∀i,0<=ra i)(yU:∀i,0<=rb i){sa sb:Nat->Bool}:∀n,(∀i,i<n->sa i=true->sb i=true/\ra i<=rb i)->zb (mj na ra sa n) (mj nb rb sb n)/\Calm na (mj na ra sa n)/\Calm nb (mj nb rb sb n)
 |0,_=>by
  have U7:∀x∈na,0<x:=λx hx=>by
   obtain⟨j,hj,rfl⟩:=aer hx;have:=hn j hj zo;have:=hp _ (adC (by omega:j<nb.length));omega
  exact⟨.inr ⟨rfl,afx _⟩,⟨afx _,λx hx=>U7 x (aeN hx)⟩,⟨afx _,λx hx=>hp x (aeN hx)⟩⟩
 |n+1,h=>by
  obtain⟨h1,h2,h3⟩:=BL hl hn hp Mo yU n (λi hi=>h i zo)
  have U7:∀x∈na,0<x:=λx hx=>by
   obtain⟨j,hj,rfl⟩:=aer hx;have:=hn j hj zo;have:=hp _ (adC (by omega:j<nb.length));omega
  have e:∀(q:List Int)(r:Nat->Int)(s:Nat->Bool),mj q r s (n+1)=nJ q r s (mj q r s n) n:=λq r s=>by
   unfold mj;rw[aeV,aeJ];rfl
  rw[e,e];exact⟨Kg hl hn hp Mo (λhs=>(h n zo hs).1) (λhs=>(h n zo hs).2) yU h2 h3 h1,B5 U7 Mo sa h2 n,B5 hp yU sb h3 n⟩
def OV {na nb:List Int} (hl:na.length=nb.length) (hn:∀ j (h:j < na.length) (h':j < nb.length),nb[j]≤na[j]) (hp:∀ x∈nb,0 < x) {ra rb:Nat→Int} (Mo:∀ i,0≤ra i) (yU:∀ i,0≤rb i) {sa sb:Nat→Bool} {n:Nat} (ha:sa n=false) (hb:sb n=false)
  (h:∀i,i<n->sa i=true->sb i=true/\ra i<=rb i):gf na ra (gv sa n)<=gf nb rb (gv sb n):=by
 rw[Bc Mo ha,Bc yU hb]
 rcases(BL hl hn hp Mo yU n h).1 with h|⟨h,_⟩
 .omega
 .omega
def Jw (seen:Nat→Bool) (n:Nat) :
  (∀v∈((List.range n).foldl (eX seen) (0,[])).2,v.1<=v.2/\v.2+2<=((List.range n).foldl (eX seen) (0,[])).1)/\(((List.range n).foldl (eX seen) (0,[])).2).Pairwise (λu v=>u.2+1<v.1)/\
   ∀c,c<n->(seen c=true↔(∃v∈((List.range n).foldl (eX seen) (0,[])).2,v.1<=c/\c<=v.2)\/((List.range n).foldl (eX seen) (0,[])).1<=c):=by
 induction n with
 |zero=>simp
 |succ n ih=>
  have hle:=(ua seen n).1;rw[aeV,aeJ]
  generalize(List.range n).foldl (eX seen) (0,[])=s at*
  simp only[List.foldl_cons,List.foldl_nil];obtain⟨h1,h2,h3⟩:=ih
  cases hs:seen n with
  |true=>
   have e1:eX seen s n=s:=by simp[eX,hs]
   rw[e1];refine⟨h1,h2,λc hc=>?_⟩
   by_cases Ti:c=n
   .subst Ti;exact⟨λ_=>.inr hle,λ_=>hs⟩
   .exact h3 c zo
  |false=>
   have e1:eX seen s n=(n+1,if s.1<n then s.2++[(s.1,n-1)]else s.2):=by simp[eX,hs]
   rw[e1];simp only
   by_cases aq:s.1<n
   .rw[if_pos aq];refine⟨λv hv=>?_,?_,λc hc=>?_⟩
    .rcases adG.1 hv with hv|hv
     .have:=h1 v hv;omega
     .simp only[ad2]at hv;subst hv;simp only;omega
    .rw[af7];refine⟨h2,ahB,λu hu v hv=>?_⟩;simp only[ad2]at hv;subst hv;have:=h1 u hu;simp only;omega
    .by_cases Ti:c=n
     .subst Ti;rw[hs];refine⟨λh=>by(cases h),λh=>?_⟩;rcases h with⟨v,hv,fD,fh⟩|h
      .rcases adG.1 hv with hv|hv
       .have:=h1 v hv;omega
       .simp only[ad2]at hv;subst hv;simp only at fh;omega
      .omega
     .rw[h3 c zo];refine⟨λh=>.inl ?_,λh=>?_⟩
      .rcases h with⟨v,hv,hvc⟩|h
       .exact⟨v,afH _ hv,hvc⟩
       .exact⟨(s.1,n-1),ahB,h,by simp only;omega⟩
      .rcases h with⟨v,hv,fD,fh⟩|h
       .rcases adG.1 hv with hv|hv
        .exact .inl ⟨v,hv,fD,fh⟩
        .simp only[ad2]at hv;subst hv;exact .inr fD
       .omega
   .rw[if_neg aq];refine⟨λv hv=>?_,h2,λc hc=>?_⟩
    .have:=h1 v hv;omega
    .by_cases Ti:c=n
     .subst Ti;rw[hs];refine⟨λh=>by(cases h),λh=>?_⟩;rcases h with⟨v,hv,fD,fh⟩|h
      .have:=h1 v hv;omega
      .omega
     .rw[h3 c zo];refine⟨λh=>?_,λh=>?_⟩
      .rcases h with h|h
       .exact .inl h
       .omega
      .rcases h with h|h
       .exact .inl h
       .omega
def Gi{seen:Nat->Bool}{n:Nat}(hn:seen n=false):(∀v∈gv seen n,v.1<=v.2/\v.2<n)/\(gv seen n).Pairwise (λu v=>u.2+1<v.1)/\∀c,c<n->(seen c=true↔∃v∈gv seen n,v.1<=c/\c<=v.2):=by
 obtain⟨h1,h2,h3⟩:=Jw seen (n+1);have hv:=ua seen (n+1)
 have h4:¬((List.range (n+1)).foldl (eX seen) (0,[])).1<n+1:=λhl=>by
  have:=(hv.2.1.1 hl).2;rw[agf,hn]at this;cases this
 have h5:=hv.1;unfold gv
 generalize(List.range (n+1)).foldl (eX seen) (0,[])=s at*
 refine⟨λv hv=>?_,h2,λc hc=>?_⟩
 .have:=h1 v hv;omega
 .rw[h3 c zo];refine⟨λh=>?_,λh=>.inl h⟩;rcases h with h|h
  .exact h
  .omega
def Am(av:List Int)(cn:Nat->Int)(vs:List (Nat×Nat)):gf av cn vs<=av.length:=by
 have main:∀(r:List (Nat×Nat)),gf av cn r.reverse<=av.length:=by
  intro r
  induction r with
  |nil=>simp[gf]
  |cons v r ih=>
   rw[List.reverse_cons,rV];have:=wv (av.drop (gf av cn r.reverse)) (mK cn v.1 (v.2+1));rw[ael]at this;omega
 have:=main vs.reverse;rwa [List.reverse_reverse]at this
structure HY(f:Nat->Nat)(m a w:Nat):Prop where
 place:1<=a/\a<=m
 words:w=f a
 most:∀n,1<=n->n<=m->f n<=w/\(f n=w->a<=n)
def HY.unique{f:Nat->Nat}{m a w a' w':Nat}(h:HY f m a w)(h':HY f m a' w'):a=a'/\w=w':=by
 have h1:=h.most a' h'.place.1 h'.place.2;have h2:=h'.most a h.place.1 h.place.2;have e1:=h.words;have e2:=h'.words
 have hw:w=w':=zo
 have:=h1.2 zo;have:=h2.2 zo;exact⟨zo,hw⟩
def sG(x:Nat×Nat)(l:List (Nat×Nat)):Nat×Nat:=l.foldl (λo y=>if o.2<y.2 then y else o) x
def jh(f:Nat->Nat)(a m:Nat):List (Nat×Nat):=(List.range' a m).map λn=>(n,f n)
def qO(p:Nat->Bool)(k n:Nat):Prop:=n<=k/\(∀x,x<n->p x=false)/\(n<k->p n=true)
def qO.unique{p:Nat->Bool}{k m n:Nat}(h:qO p k m)(h':qO p k n):m=n:=by
 rcases Nat.lt_trichotomy m n with aq|rfl|aq
 .have h1:=h.2.2 (by have:=h'.1;omega);have h2:=h'.2.1 m aq;rw[h1]at h2;cases h2
 .rfl
 .have h1:=h'.2.2 (by have:=h.1;omega);have h2:=h.2.1 n aq;rw[h1]at h2;cases h2
def Wz{p:Nat->Bool}(hm:∀x y,x<=y->p x=true->p y=true){i j:Nat}(so:i<j)(uG:∀x,x<i->p x=false):i<=(i+j)/2/\(i+j)/2<j/\(p ((i+j)/2)=false->∀x,x<(i+j)/2+1->p x=false):=by
 refine⟨zo,zo,λh x hx=>?_⟩
 cases hp:p x with
 |false=>rfl
 |true=>
  have:=hm x _ (by omega:x<=(i+j)/2) hp;rw[h]at this;cases this
structure HX(p:Nat->Nat->Bool)(m c t:Nat):Prop where
 cell:c<m
 WN:p c t=true
 less:∀c' n,c'<m->p c' n=true->t<=n/\(n=t->c<=c')
def HX.unique{p:Nat->Nat->Bool}{m c t c' t':Nat}(h:HX p m c t)(h':HX p m c' t'):c=c'/\t=t':=by
 have h1:=h.less c' t' h'.cell h'.WN;have h2:=h'.less c t h.cell h.WN
 have ht:t=t':=zo
 subst ht;have:=h1.2 rfl;have:=h2.2 rfl;exact⟨zo,rfl⟩
def sE(x:Nat×Nat)(l:List (Nat×Nat)):Nat×Nat:=l.foldl (λo y=>if y.2<o.2 then y else o) x
def gR(f:Nat->Nat)(most:Nat)(m:Nat):List (Nat×Nat):=(List.range m).filterMap λi=>if f i<=most then some (i,f i)else none
def Hc(f:Nat->Nat)(most m:Nat):gR f most (m+1)=gR f most m++(if f m<=most then[(m,f m)]else[]):=by
 unfold gR;rw[aeV,List.filterMap_append]
 congr 1
 by_cases h:f m<=most<;>simp[h]
def Mq{f:Nat->Nat}{most m:Nat}{x:Nat×Nat}:x∈gR f most m↔x.1<m/\x.2=f x.1/\f x.1<=most:=by
 unfold gR;rw[afz]
 constructor
 .rintro⟨i,hi,he⟩;split at he
  .cases he;exact⟨aeb.1 hi,rfl,by assumption⟩
  .cases he
 .rintro⟨h1,h2,h3⟩;refine⟨x.1,aeb.2 h1,?_⟩;rw[if_pos h3,<-h2]
def MU{p:Nat->Nat->Bool}{f:Nat->Nat}{most m:Nat}(hf:∀i,i<m->qO (p i) (most+1) (f i)){c n:Nat}(hc:c<m)(hn:n<=most)(hp:p c n=true):∃x l,gR f most m=x::l:=by
 cases hs:gR f most m with
 |cons x l=>exact⟨x,l,rfl⟩
 |nil=>
  have hle:f c<=n:=by
   rcases ae6 n (f c)with h|h
   .have:=(hf c hc).2.1 n h;rw[hp]at this;cases this
   .exact h
  have:(c,f c)∈gR f most m:=Mq.2 ⟨hc,rfl,by show f c<=most;omega⟩;rw[hs]at this;cases this
def nk:∀{l:List Int},(∀x∈l,0<x)->0<=l.sum
 |[],_=>ahB
 |x::l,h=>by
  have:=h x ahB
  have:=nk (l:=l) λy hy=>h y (adO _ hy)
  simp only[List.sum_cons];omega
def K6:∀{l:List Int}{t:Int},(∀x∈l,0<x)->0<=t->((eu l t).1=l.length↔l.sum<=t)
 |[],t,_,ht=>by simp[eu,ht]
 |x::l,t,h,ht=>by
  have h0:=h x ahB
  have hl:=λy hy=>h y (adO _ hy)
  have hs:=nk hl
  by_cases hx:x<=t
  .have e:eu (x::l) t=((eu l (t-x)).1+1,(eu l (t-x)).2):=by rw[eu];rw[if_pos hx]
   rw[e];have:=K6 (l:=l) (t:=t-x) hl zo;simp only[List.length_cons,List.sum_cons]
   constructor
   .intro h1;have:=this.1 zo;omega
   .intro h1;have:=this.2 zo;omega
  .have e:eu (x::l) t=(0,t):=by rw[eu];rw[if_neg hx]
   rw[e];simp only[List.length_cons,List.sum_cons]
   constructor
   .intro h1;omega
   .intro h1;omega
end Go.Proofs.Tram
namespace Go.Proofs.Tryz
open Go.AL
variable{GI:World->Prop}
def de:prog.follows .mixedOrders=true:=by kernel_rfl
def cw{GI:World->Prop}(hG:ar GI){f:Nat}{fn:Func}{c:Code}{args:List AV}{out:iK}{n:Nat}(hf:prog.funcs[f]?=some fn)(hn:fn.ntmps=n)(ac:af)(h:bB prog GI ac (post prog n fn.results.toList out) (AL.start args) (λ_=>none))(hl:args.length<=n:=by simp)(hb:fn.body=some c:=by rfl)(hc:dK prog n c=ac:=by kernel_rfl):AC prog GI f args out:=AC.Ts hG de hf hb hn hl hc h
def W0 (hG:ar GI) (es:List AV) (bV:aG 1 es=true) (hl:es.length < 1048576) :
  AC prog GI 74 [.slice .view es] (.ret (.slice (if es.isEmpty then .nil else .own 3) es)):=by
 refine cw hG func74 ntmps74 c74 ?_
 cases es with
 |nil=>simp[c74,bB,bq,aF,ba,aD,ev,aP.S,aP.H,bt,di,au,aW,AL.start,AV.aI,aG,post,cH,db,c_,AV.out,AV.b_]
 |cons x es=>
  have o_:es.length+1<1048576:=hl;simp[c74,bB,bq,aF,ba,aD,ev,aP.S,aP.H,bt,di,au,aW,AL.start,AV.aI,bV,o_,post,cH,db,c_,AV.out,AV.b_]
def YI (hG:ar GI) (es:List AV) (bV:aG 2 es=true) (hl:es.length < 1048576) :
  AC prog GI 168 [.slice .view es] (.ret (.slice (if es.isEmpty then .nil else .own 180) es)):=by
 refine cw hG func168 ntmps168 c168 ?_
 cases es with
 |nil=>simp[c168,bB,bq,aF,ba,aD,ev,aP.S,aP.H,bt,di,au,aW,AL.start,AV.aI,aG,post,cH,db,c_,AV.out,AV.b_]
 |cons x es=>
  have o_:es.length+1<1048576:=hl;simp[c168,bB,bq,aF,ba,aD,ev,aP.S,aP.H,bt,di,au,aW,AL.start,AV.aI,bV,o_,post,cH,db,c_,AV.out,AV.b_]
end Go.Proofs.Tryz
namespace Go.Proofs.Tryz
open Go Go.AL Go.RowKit Go.Proofs Go.Proofs.Tram
abbrev End:=Int×Int
def bX(e:End):AV:=.agg [.int .i64 e.1,.int .i64 e.2]
def aX(l:List End):List AV:=l.map bX
def br(out:List Int)(es:List End):AV:=.agg [.slice .view (ints out),.slice .view (aX es)]
def lp:List End->List End->Nat->List (List End)
 |_,[],_=>[]
 |now,a::r,m=>(if r=[]then[now++[a]]else match m with|0=>[]|m+1=>lp (now++[a]) r m)++lp now r m
def ch(now l:List End)(m:Nat):List (List End):=if l=[]then[now]else match m with|0=>[]|m+1=>lp now l m
variable{GI:World->Prop}{l:Nat}{xs:List AV}
structure Fx(C:Cons prog GI l xs)(all:List End)(out:List Int)(fA:List AV)(rows:Nat) where
 bN:Nat
 cA:Value
 cY:Value
 cO:Value
 cF:Value
 cR:Value
 MI:Nat->Prop
 wI:World
 bA:Nat
 Fj:Value
 Qt:cA=.pointer (some ⟨bA,0,none⟩)
 Va:MI bA/\bA<bN
 hA2:∃ty,wI.heap[bA]?=some (.cells #[Fj] ty (0,0))
 hY:RV (λb _=>MI b) cQ wI (.ref [.val (.func (.yield l) #[] #[])]) cY
 hR:RV (λb _=>MI b) cQ wI (.ref [.val (.func (.func 167) #[] #[cA,cY,cO,.pointer (some ⟨bN,0,none⟩),cF,cR])]) cR
 f9:fA[9]?=some (.int .i64 rows)
variable{C:Cons prog GI l xs}{all:List End}{out:List Int}{fA:List AV}{rows:Nat}
structure St(X:Fx C all out fA rows)(k:Nat)(M:Nat->Prop)(Pr:Nat->Nat->Prop)(es:List End)(w:World):Prop where
 j:C.J k M Pr w
 lt:∀b,M b->b<w.heap.size
 mi:∀b,X.MI b->M b/\b≠X.bN/\w.heap[b]?=X.wI.heap[b]?
 now:∃v ty wC,w.heap[X.bN]?=some (.cells #[v] ty (0,0))/\M X.bN/\w.ownsRow (X.bN+1) 180 2 v es.length wC/\jo (λ_ _=>False) w 2 (aX es) wC/\∀b,v.ownBlock=some b->M b/\¬X.MI b
 f:RV Pr cQ w (.ref fA) X.cF
 o:RV Pr cQ w (.ref [.slice .view (ints out)]) X.cO
 e:RD (λb k=>b<X.bN/\(X.MI b\/Pr b k)) w (.slice .view (aX all)) X.Fj
def Cu{MI:Nat->Prop}{bN:Nat}{Pr e_:Nat->Nat->Prop}{w w':World}(hm:∀b,MI b->w'.heap[b]?=w.heap[b]?)(hk:bg Pr e_ w w'):bg (λb k=>b<bN/\(MI b\/Pr b k)) (λb k=>b<bN/\(MI b\/e_ b k)) w w':={
 cell b k hp u hu:=by
  rcases hp.2 with h|h
  .exact⟨⟨hp.1,.inl h⟩,by rw[afr (w:=w) (hm b h)];exact hu⟩
  .obtain⟨h1,h2⟩:=hk.cell b k h u hu;exact⟨⟨hp.1,.inr h1⟩,h2⟩
 map b hp es c uD:=by
  rcases hp.2 with h|h
  .exact⟨⟨hp.1,.inl h⟩,by rw[hm b h];exact uD⟩
  .obtain⟨h1,h2⟩:=hk.map b h es c uD
   exact⟨⟨hp.1,.inr h1⟩,h2⟩ }
def St.Xd{X:Fx C all out fA rows}{k:Nat}{M:Nat->Prop}{Pr:Nat->Nat->Prop}{es:List End}{w:World}(s:St X k M Pr es w):RV (λb k=>b<X.bN/\(X.MI b\/Pr b k)) cQ w (.ref [.slice .view (aX all)]) X.cA:=by
 obtain⟨ty,h2⟩:=X.hA2;rw[X.Qt];have hb:w.heap[X.bA]?=some (.cells #[X.Fj] ty (0,0)):=(s.mi _ X.Va.1).2.2.trans h2;refine .data _ _ (.ref _ _ _ (λ_=>X.Fj) (λi hi=>?_) (λk hk=>⟨⟨X.Va.2,.inl X.Va.1⟩,?_⟩) (λk hk=>?_))
 .have:i=0:=by simpa using hi
  subst this;rfl
 .have:k=0:=by simpa using hk
  subst this;simp[World.cell?,hb]
 .have:k=0:=by simpa using hk
  subst this;exact s.e
structure Fr(X:Fx C all out fA rows)(n:Int)(a:Act):Prop where
 size:a.tmps.size=53
 defers:a.defers=[]
 t0:a.tmps.getD 0 undef=.int .i64 n
 t1:a.tmps.getD 1 undef=X.cA
 t2:a.tmps.getD 2 undef=X.cY
 t3:a.tmps.getD 3 undef=X.cO
 t4:a.tmps.getD 4 undef=.pointer (some ⟨X.bN,0,none⟩)
 t5:a.tmps.getD 5 undef=X.cF
 t6:a.tmps.getD 6 undef=X.cR
def jg(l:Nat)(all es:List End)(out:List Int)(fA:List AV)(fv:Value)(n:Int)(v9:AV):an:=λt=>match t with
 |0=>.int .i64 n
 |1=>.ref [.slice .view (aX all)]
 |2=>.ref [.val (.func (.yield l) #[] #[])]
 |3=>.ref [.slice .view (ints out)]
 |4=>.ref [.slice .view (aX es)]
 |5=>.ref fA
 |6=>.ref [.val fv]
 |9=>v9
 |_=>.bp
def Fx.fv(X:Fx C all out fA rows):Value:=.func (.func 167) #[] #[X.cA,X.cY,X.cO,.pointer (some ⟨X.bN,0,none⟩),X.cF,X.cR]
def St.gJ {X:Fx C all out fA rows} {k:Nat} {M:Nat→Prop} {Pr:Nat→Nat→Prop} {es:List End} {w:World} (s:St X k M Pr es w) {n:Int} {a:Act} (fr:Fr X n a) {v9:AV} (h9:v9.aI=v9∧RV (fun _ _=>True) cQ w v9 (a.tmps.getD 9 undef)) :
  ∀t,t<53->(jg l all es out fA X.fv n v9 t).aI=jg l all es out fA X.fv n v9 t/\RV (λ_ _=>True) cQ w (jg l all es out fA X.fv n v9 t) (a.tmps.getD t undef):=by
 intro t ht
 have hmi:∀{P':Nat->Nat->Prop},(∀b k,P' b k->X.MI b)->bg P' (λ_ _=>True) X.wI w:=λh=>bg.of_eq λb k hp=>⟨trivial,(s.mi b (h b k hp)).2.2⟩
 unfold jg;split
 .rw[fr.t0];exact⟨rfl,.data _ _ (.int _ _)⟩
 .rw[fr.t1];exact⟨rfl,s.Xd.mono (bg.same λ_ _ _ _=>trivial) λ_ _ h=>h⟩
 .rw[fr.t2];exact⟨rfl,X.hY.mono (hmi λb k h=>h) λ_ _ h=>h⟩
 .rw[fr.t3];exact⟨rfl,s.o.mono (bg.same λ_ _ _ _=>trivial) λ_ _ h=>h⟩
 .rw[fr.t4];obtain⟨v,ty,wC,h1,h2,h3,h4,h5⟩:=s.now;refine⟨rfl,.data _ _ (.ref _ _ _ (λ_=>v) (λi hi=>?_) (λk hk=>⟨trivial,?_⟩) (λk hk=>?_))⟩
  .have:i=0:=by simpa using hi
   subst this;rfl
  .have:k=0:=by simpa using hk
   subst this;simp[World.cell?,h1]
  .have:k=0:=by simpa using hk
   subst this
   exact RD.ofRow (size:=2) (es:=aX es) (by simpa[aX]using h3) (h4.mono (bg.same λ_ _ _ h=>h.elim)) λ_ _ _ _=>trivial
 .rw[fr.t5];exact⟨rfl,s.f.mono (bg.same λ_ _ _ _=>trivial) λ_ _ h=>h⟩
 .rw[fr.t6];exact⟨rfl,X.hR.mono (hmi λb k h=>h) λ_ _ h=>h⟩
 .exact h9
 .exact⟨rfl,.bp _⟩
def St.grow{X:Fx C all out fA rows}{k:Nat}{M:Nat->Prop}{Pr:Nat->Nat->Prop}{es:List End}{w w':World}(s:St X k M Pr es w)(hb:Below w.heap.size w w'):St X k M Pr es w':=by
 have hM:=s.lt
 have bn:∀b,M b->w'.heap[b]?=w.heap[b]?:=λb h=>hb.block b (hM b h)
 have hk:bg Pr Pr w w':=bg.ja (λb h=>hb.block b h) λ_ _ _ h=>h
 obtain⟨v,ty,wC,h1,h2,h3,h4,h5⟩:=s.now;refine⟨C.dS s.j (l8.vX hb) λb h=>⟨aet (hM b h) hb.size,.inl h⟩,λb h=>aet (hM b h) hb.size,λb h=>⟨(s.mi b h).1,(s.mi b h).2.1,(bn b (s.mi b h).1).trans (s.mi b h).2.2⟩,⟨v,ty,wC,(bn _ h2).trans h1,h2,?_,h4.mono (bg.of_eq λ_ _ h=>h.elim),h5⟩,s.f.mono hk λ_ _ h=>h,s.o.mono hk λ_ _ h=>h,s.e.mono (Cu (λb h=>bn b (s.mi b h).1) hk)⟩;refine⟨h3.1,?_⟩
 rcases h3.2 with h|⟨gg,cap,cur,rfl,r_,FE,rest⟩
 .exact .inl h
 .exact .inr ⟨gg,cap,cur,rfl,r_,(bn gg (h5 gg rfl).1).trans FE,rest⟩
def _root_.Go.AL.af.qa:af->af
 |.seq x _=>x
 |.cond _ x _=>x
 |c=>c
def _root_.Go.AL.af.qb:af->af
 |.seq _ y=>y
 |.cond _ _ y=>y
 |.block _ c=>c
 |.loop c=>c
 |c=>c
def _root_.Go.AL.af.dl:af->List bI
 |.cV l|.ops l=>l
 |_=>[]
def EV:Nat->Bool:=λt=>decide (36<=t)
def W7:Nat->Bool:=λt=>decide (7<=t)
noncomputable def yx:af:=af.qb c167.qb.qb.qa.qb.qb
def Fr.step{X:Fx C all out fA rows}{n:Int}{a a':Act}(fr:Fr X n a)(bl:a'.tmps.size=53)(eR:a'.defers=[])(h:eI W7 a a'):Fr X n a':=
 ⟨bl,eR,(h 0 rfl).trans fr.t0,(h 1 rfl).trans fr.t1,(h 2 rfl).trans fr.t2,(h 3 rfl).trans fr.t3,(h 4 rfl).trans fr.t4,(h 5 rfl).trans fr.t5,(h 6 rfl).trans fr.t6⟩
def cJ(args:Array Value)(k t:Nat)(h:t<args.size):(args++Array.replicate k undef).getD t undef=args[t]:=by
 simp[afB,h]
def qK(l:List Int):aG 1 (ints l)=true:=by
 simp[aG,ints,AV.storable,AV.cells]
def vi(l:List End):aG 2 (aX l)=true:=by
 simp[aG,aX,bX,AV.storable,AV.cells]
def we(es:List End):∀x∈aX es,x.cells.length=2/\x.storable=true/\∀c∈x.cells,c.one=true:=by
 intro x hx;obtain⟨e,_,rfl⟩:=adZ.1 hx;refine⟨rfl,rfl,λc hc=>?_⟩;simp[bX,AV.cells]at hc
 rcases hc with rfl|rfl<;>rfl
def EE(es:List End):∀x∈aX es,∀c∈x.cells,iF c=true:=by
 intro x hx c hc;obtain⟨e,_,rfl⟩:=adZ.1 hx;simp[bX,AV.cells]at hc
 rcases hc with rfl|rfl<;>rfl
def Eb{P:Program}{t:TypeId}{s:Nat}(h:(P.info? t).map (·.size)=some s):∃i,P.info? t=some i/\i.size=s:=by
 cases hi:P.info? t with
 |none=>rw[hi]at h;cases h
 |some i=>rw[hi]at h;exact⟨i,rfl,ad7 h⟩
def iZ(t:TypeId)(s:Nat)(h:(prog.info? t).map (·.size)=some s:=by kernel_rfl):∃i,prog.info? t=some i/\i.size=s:=Eb h
def sM {P:Program} {a:Act} {o:Oper} {cl:Call} {f x:Operand} {l:Nat} (w:World) (ho:o.op = .call cl) (hc:cl.callee = .value f) (ha:cl.args = #[x]) (hf:a.eval f = .func (.yield l) #[] #[]) :
  (execOp a.eval o).run P w=(Instr.yield l #[a.eval x]).run P w:=by
 unfold execOp;simp[ho,fk hc,hf,Deferred.ofValue,invoke,ha]
def uk {P:Program} {a:Act} {o:Oper} {cl:Call} {f x:Operand} {k:Nat} {cap:Array Value} (w:World) (ho:o.op = .call cl) (hc:cl.callee = .value f) (ha:cl.args = #[x]) (hf:a.eval f = .func (.func k) #[] cap) (hk:ee P k=true) :
  (execOp a.eval o).run P w=.ok (.enter k (#[a.eval x]++cap)) w:=by
 unfold execOp;simp[ho,fk hc,hf,Deferred.ofValue,invoke,ha,gp hk]
def RA{P:Program}{a:Act}{o:Oper}{x:Operand}{t:TypeId}{b:Bool}(w:World)(ho:o.op=.unOp .not t x)(hx:a.eval x=.bool b):(execOp a.eval o).run P w=.ok (.value (.bool !b)) w:=by
 unfold execOp;simp[ho,hx,Op.unary]
def eI.weaken{W W':Nat->Bool}{a a':Act}(h:eI W a a')(hw:∀t,W' t=false->W t=false):eI W' a a':=λt ht=>h t (hw t ht)
def ahm{P:Program}{fn:Func}{tmps:Array Value}{t:Tmp}{v:Value}{w:World}(hr:fn.results=#[.tmp t])(h:tmps.getD t undef=v):(results fn tmps).run P w=.ok v w:=by
 rw[<-h];simp[results,hr]
def run_assign{P:Program}{a:Act}{o:Oper}{x:Operand}(w:World)(ho:o.op=.assign x):(execOp a.eval o).run P w=.ok (.value (a.eval x)) w:=by
 unfold execOp;simp only[ho]
 rfl
def St.after {X:Fx C all out fA rows} {k k':Nat} {M G:Nat→Prop} {Pr e_:Nat→Nat→Prop} {es:List End} {w w':World} (s:St X k M Pr es w) (hj:C.J k' (fun b=>(M b∨G b)∧¬ G b) e_ w') (hG:∀ b,G b→¬ M b)
  (hs:∀b,M b\/G b->¬G b->w'.heap[b]?=w.heap[b]?) (hk:bg Pr e_ w w'):St X k' (λb=>(M b\/G b)/\¬G b) e_ es w':=by
 have M8:∀b,M b->¬G b:=λb hb hg=>hG b hg hb
 have bn:∀b,M b->w'.heap[b]?=w.heap[b]?:=λb hb=>hs b (.inl hb) (M8 b hb)
 obtain⟨v,ty,wC,h1,h2,h3,h4,h5⟩:=s.now;refine⟨hj,λb hb=>?_,λb h=>⟨⟨.inl (s.mi b h).1,M8 b (s.mi b h).1⟩,(s.mi b h).2.1,(bn b (s.mi b h).1).trans (s.mi b h).2.2⟩,⟨v,ty,wC,(bn _ h2).trans h1,⟨.inl h2,M8 _ h2⟩,?_,h4.mono (bg.of_eq λ_ _ h=>h.elim),λb hb=>⟨⟨.inl (h5 b hb).1,M8 b (h5 b hb).1⟩,(h5 b hb).2⟩⟩,s.f.mono hk λ_ _ h=>h,s.o.mono hk λ_ _ h=>h,s.e.mono (Cu (λb h=>bn b (s.mi b h).1) hk)⟩
 .have nN:M b:=hb.1.resolve_right hb.2;have:=s.lt b nN;have h2:=bn b nN;rw[ad4 this]at h2;exact(adD.1 h2).1
 .refine⟨h3.1,?_⟩
  rcases h3.2 with h|⟨gg,cap,cur,rfl,r_,FE,rest⟩
  .exact .inl h
  .exact .inr ⟨gg,cap,cur,rfl,r_,(bn gg (h5 gg rfl).1).trans FE,rest⟩
def Fi {P:Program} {ρ:Operand→Value} {o:Oper} {t:TypeId} {ps:Array (Nat×Operand)} (ho:o.op = .build t ps) (w:World) (N:Value→Prop)
  (h:∀v w',(execOp ρ o).run P w=.ok (.value v) w'->N v):match(execOp ρ o).run P w with|.ok (.value v) _=>N v|.ok _ _=>False|.halt _ _=>True:=by
 have key:∀r,(execOp ρ o).run P w=r->match r with|.ok (.value v) _=>N v|.ok _ _=>False|.halt _ _=>True:=by
  intro r hr;have h0:=hr;unfold execOp at hr;simp only[ho,adK]at hr
  cases hb:(Instr.build t (ps.map λ(i,x)=>(i,ρ x))).run P w with
  |ok v w'=>
   rw[hb]at hr
   have:r=.ok (.value v) w':=by rw[<-hr];rfl
   subst this;exact h v w' h0
  |halt x w'=>
   rw[hb]at hr
   have:r=.halt x w':=by rw[<-hr];rfl
   subst this;trivial
 exact key _ rfl
def xy{c:Value}(h:c.oneCell'=true):c.cells=#[c]:=by cases c<;>first|rfl|cases h
def Tt{u v:Value}(hu:u.oneCell'=true)(hv:v.oneCell'=true):prog.built 176 [(0,u),(1,v)]=some #[u,v]:=by
 have e:∀u v:Value,prog.built 176 [(0,u),(1,v)]=Instr.fill (λx=>#[(0,1),(1,1)][x]?) #[.slice none 0 0,.slice none 0 0] [(0,u),(1,v)]:=by intro u v;kernel_rfl
 rw[e];simp[Instr.fill,xy hu,xy hv]
def SH(es r:List End)(x:End)(m:Nat):lp es (x::r) m=ch (es++[x]) r m++lp es r m:=by
 cases m<;>rfl
def VI(es:List End)(m:Nat):ch es [] m=[es]:=by simp[ch]
def Ux (hG:ar GI) (X:Fx C all out fA rows) (eH:all.length≤1000) (UR:rows≤1000) (ku:out.length≤1000) :
  ∀(d n:Nat)(es:List End)(k:Nat)(M:Nat->Prop)(Pr:Nat->Nat->Prop)(w:World)(tail:List AV),n+d=all.length->es.length<=n->St X k M Pr es w->
   xs.drop k=(ch es (all.drop n) (rows-es.length)).map (br out)++tail->
   Calls prog 167 #[.int .i64 n,X.cA,X.cY,X.cO,.pointer (some ⟨X.bN,0,none⟩),X.cF,X.cR] w λe w'=>∃M' e_,
    (e=.returned (.bool true)/\St X (k+(ch es (all.drop n) (rows-es.length)).length) M' e_ es w')\/(e=.returned (.bool false)/\C.X M' e_ w'):=by
 intro d
 induction d using Nat.strongRecOn with
 |_ d ih=>
 intro n es k M Pr w tail dO nB st qU;refine(iV (ro:=none) (m:=0)).1 (ag2 func167 rfl trivial ?_)
 have fr:Fr X n { tmps:=#[.int .i64 n,X.cA,X.cY,X.cO,.pointer (some ⟨X.bN,0,none⟩),X.cF,X.cR]++Array.replicate (f167.ntmps-7) undef,defers:=[] }:=by
  refine⟨by simp[ntmps167],rfl,cJ _ _ 0 ahB,cJ _ _ 1 ahB,cJ _ _ 2 ahB,cJ _ _ 3 ahB,cJ _ _ 4 ahB,cJ _ _ 5 ahB,cJ _ _ 6 ahB⟩
 generalize hc:(λe w'=>∃M' e_,(e=Ending.returned (.bool true)/\St X (k+(ch es (all.drop n) (rows-es.length)).length) M' e_ es w')\/(e=.returned (.bool false)/\C.X M' e_ w'))=R
 have h9:∀(a:Act)(w:World),(AV.bp).aI=AV.bp/\RV (λ_ _=>True) cQ w AV.bp (a.tmps.getD 9 undef):=λa w=>⟨rfl,.bp _⟩
 refine adT ?_;refine cL hG de (ac:=af.qa c167) (W:=W7) zk zk zk (C.gi st.j) (λ_ _=>True) (jg l all es out fA X.fv n .bp) fr.size fr.defers (st.gJ fr (h9 _ _)) (K:=λ_ _=>True) ?_ ?_
 .simp[c167,af.qa,bB,bq,aF,ba,aD,aN]
 intro g S' H' a w1 hg R1 _ bn;have fr:=fr.step R1.size (by rw[R1.defers,hg];rfl) bn;have st:=st.grow (by have:=R1.below;rwa [R1.base]at this);clear bn R1 hg g S' H';show Code.wpIn _ _ _ _ _ a w1;refine adT (adT ?_);refine cL hG de (ac:=af.qa c167.qb.qa) (W:=W7) zk zk zk (C.gi st.j) (λ_ _=>True) (jg l all es out fA X.fv n .bp) fr.size fr.defers (st.gJ fr (h9 _ _)) (K:=λS' _=>∃b,S' 13=.bool b/\(b=true↔n=all.length)) ?_ ?_
 .simp[c167,af.qa,af.qb,bB,bq,aF,ba,aD,aN,aP.S,aP.H,ev,au,aW,jg,cd,AV.aI,dU,aX];omega
 rintro g S' H' a w2 hg R1 ⟨b,hb,hbn⟩ bn;have fr:=fr.step R1.size (by rw[R1.defers,hg];rfl) bn;have st:=st.grow (by have:=R1.below;rwa [R1.base]at this);have ht:=R1.slot 13 zd (λh=>h);rw[hb]at ht;have uR:=ht.fN;clear ht bn;show Code.wpIn _ _ _ _ _ a w2;refine aeB (t:=b) uR ?_
 cases b with
 |true=>
  have hn:n=all.length:=hbn.1 rfl
  have ZV:ch es (all.drop n) (rows-es.length)=[es]:=by rw[hn,ahd];exact VI _ _
  rw[ZV]at qU hc;simp only[aed];refine adT ?_
  refine Qj hG de (n:=53) (p:=6) (j:=5) (d:=19) (T:=[16,18]) (W:=W7) (l:=(c167.qb.qa.qb.qa.qa.dl).take 6) zk zk zk zk zk zk (C.gi st.j) (λ_ _=>True) (jg l all es out fA X.fv n .bp) (oj:=⟨some 19,.build 176 #[(0,.tmp 16),(1,.tmp 18)],176, "name.go:18",#[⟨2,.data⟩,⟨4,.data⟩],none⟩) ?_ rfl rfl
   (λa=>(a.tmps.getD 16 undef).oneCell'=true->(a.tmps.getD 18 undef).oneCell'=true->a.tmps.getD 19 undef=.agg #[a.tmps.getD 16 undef,a.tmps.getD 18 undef]) ?_ ?_ zk zk fr.size fr.defers (st.gJ fr (h9 _ _)) (K:=λS' _=>S' 14=.val (.func (.yield l) #[] #[])/\S' 16=.slice (if(ints out).isEmpty then .nil else .own 3) (ints out)/\S' 18=.slice (if(aX es).isEmpty then .nil else .own 180) (aX es)/\
    ∃o1 o2,S' 19=.agg [.slice o1 (ints out),.slice o2 (aX es)]) ?_ ?_
  .rfl
  .intro a a' h1 h2 hN g16 g18;rw[h2 16 ahB]at g16⊢;rw[h2 18 ahB]at g18⊢;rw[h1];exact hN g16 g18
  .intro a w bl;refine Fi rfl w _ ?_;intro v w' hr
   have E':(a.put (some 19) v).tmps.getD 16 undef=a.tmps.getD 16 undef:=by simp[Act.put,adN]
   have e18:(a.put (some 19) v).tmps.getD 18 undef=a.tmps.getD 18 undef:=by simp[Act.put,adN]
   have e19:(a.put (some 19) v).tmps.getD 19 undef=v:=by simp[Act.put,bl]
   show(((a.put (some 19) v).tmps.getD 16 undef).oneCell'=true->_->(a.put (some 19) v).tmps.getD 19 undef=_);rw[E',e18,e19];intro g16 g18;have hb:=ahG (P:=prog) w 176 #[(0,a.tmps.getD 16 undef),(1,a.tmps.getD 18 undef)] _ (Tt g16 g18);unfold execOp at hr;simp only[adK,Act.eval,aeg,adU,aee]at hr;rw[hb]at hr;simp only[Result.andThen_ok,Sem.run_pure]at hr;cases hr
   rfl
  .simp[c167,af.qa,af.qb,af.dl,eP,dW,bD,cV,aF,jB,aD,ba,aP.S,aP.H,ev,au,aW,jg,cd,AV.aI,AV.vw,AV.cells,AV.storable,AV.cI,fz,ia,lx,eY,bH,bC];refine⟨rfl,zk,_,W0 hG _ (qK out) (by rw[cU];omega),by simp[cW],?_⟩;refine⟨rfl,zk,_,YI hG _ (vi es) (by simp[aX];omega),by simp[cW],?_⟩
   by_cases ho:ints out=[]<;>by_cases he:aX es=[]<;>simp[ho,he,au]
  .intro g' S' H' a w3 hg R3 ⟨hy,wM,h18,o1,o2,KD⟩ bn hN
   have lr:Below w2.heap.size w2 w3:=by have:=R3.below;rwa [R3.base]at this
   have fr:=fr.step R3.size (by rw[R3.defers,hg];rfl) bn;have Vx:=st.grow lr
   have Wx:=(R3.slot 14 zd (λh=>h))
   rw[hy]at Wx;have Wx:=Wx.iA;obtain⟨i3,CM,uI⟩:=iZ 3 1;obtain⟨i116,Hk,rJ⟩:=iZ 180 2;have TQ:=R3.BK (t:=16) zd (e:=3) CM (es:=ints out) wM (λx hx=>by obtain⟨k,_,rfl⟩:=adZ.1 hx;exact⟨uI.symm,rfl,λc hc=>by simp[AV.cells]at hc;subst hc;rfl⟩) (λx hx c hc=>by obtain⟨k,_,rfl⟩:=adZ.1 hx;simp[AV.cells]at hc;subst hc;rfl);have SZ:=R3.BK (t:=18) zd (e:=180) Hk (es:=aX es) h18 (by rw[rJ];exact we es) (EE es);rw[R3.base]at TQ SZ
   let G:Nat->Prop:=λb=>w2.heap.size<=b/\b<w3.heap.size
   have hj:C.J k (λb=>M b\/G b) Pr w3:=C.dS st.j (l8.vX lr) λb hb=>by
    rcases hb with hb|hb
    .exact⟨Vx.lt b hb,.inl hb⟩
    .exact⟨hb.2,.inr hb.1⟩
   have Kq:k<xs.length:=by
    have:=congrArg List.length qU;simp at this;omega
   have Jd:xs[k]=br out es:=by
    have:=congrArg (·[0]?) qU;simp at this;rw[adB Kq]at this;exact ad7 this
   have oB:∀{u:Value}{es:List AV}{p:Nat->Nat->Prop},RD p w3 (.slice .view es) u->u.oneCell'=true:=λh=>h.one rfl
   have KD:=hN (oB TQ) (oB SZ)
   have hx:RD (λb j=>Pr b j\/(G b/\j<g'.hi b)) w3 xs[k] (a.tmps.getD 19 undef):=by
    rw[Jd,KD];refine .agg _ _ rfl (λi hi=>?_) (λi hi du=>?_)
    .match i,hi with
     |0,_=>rfl
     |1,_=>rfl
    .match i,hi with
     |0,_=>exact TQ.mono (bg.same λb j _ h=>.inr h)
     |1,_=>exact SZ.mono (bg.same λb j _ h=>.inr h)
   obtain⟨ff,tmps,Vt,bd,Jn,yY⟩:=C.round Kq G g'.hi _ hj (λb hb=>.inr hb) hx;show wpOpsIn _ _ _ _ _ [6,7] a w3;refine KC rfl rfl zr ?_ yY ?_
   .exact(sM (f:=.tmp 14) (x:=.tmp 19) w3 rfl rfl rfl Wx).trans Jn
   .rintro e w4 ⟨Ra,e_,Ii,zl⟩
    have eJ:∀{k'},C.J k' (λb=>(M b\/G b)/\¬G b) e_ w4->St X k' (λb=>(M b\/G b)/\¬G b) e_ es w4:=λhj=>Vx.after hj (λb hg hm=>by have:=st.lt b hm;have:=hg.1;omega) Ra Ii
    obtain⟨b,rfl,hR⟩:∃b:Bool,e=.returned (.bool b)/\R (.returned (.bool b)) w4:=by
     rcases zl with⟨rfl,dZ⟩|⟨rfl,Ig⟩
     .exact⟨true,rfl,by rw[<-hc];exact⟨_,_,.inl ⟨rfl,eJ dZ⟩⟩⟩
     .exact⟨false,rfl,by rw[<-hc];exact⟨_,_,.inr ⟨rfl,Ig⟩⟩⟩
    refine⟨_,rfl,?_⟩
    have MS:(a.put (some 20) (.bool b)).tmps.getD 20 undef=.bool b:=by simp[Act.put,fr.size]
    refine bf rfl rfl zr (v:=.bool b) (w':=w4) ((run_assign (x:=.tmp 20) w4 rfl).trans (congrArg (λv=>Result.ok (Next.value v) w4) MS)) ?_;show Code.wpIn _ _ _ _ _ _ _;refine afC ⟨fr.defers,.bool b,?_,hR⟩
    have h8:((a.put (some 20) (.bool b)).put (some 8) (.bool b)).tmps.getD 8 undef=.bool b:=by simp[Act.put,fr.size]
    show(results f167 ((a.put (some 20) (.bool b)).put (some 8) (.bool b)).tmps).run prog w4=_;exact ahm results167 h8
 |false=>
  have hn:n<all.length:=by
   have:¬n=all.length:=λh=>by have:=hbn.2 h;cases this
   omega
  simp only[adM,ad1];refine afb ?_;show Code.wpIn _ _ _ _ _ a w2;refine adT (adT ?_);refine cL hG de (ac:=af.qa c167.qb.qb.qa) (W:=W7) zk zk zk (C.gi st.j) (λ_ _=>True) (jg l all es out fA X.fv n .bp) fr.size fr.defers (st.gJ fr (h9 _ _)) (K:=λS' _=>S' 9=.int .i64 n) ?_ ?_
  .simp[c167,af.qa,af.qb,bB,bq,aF,ba,aD,aN,aP.S,aP.H,ev,au,aW,jg,cd,AV.aI,dU,aX]
  rintro g S' H' a w3 hg R1 hb9 bn;have fr:=fr.step R1.size (by rw[R1.defers,hg];rfl) bn;have st:=st.grow (by have:=R1.below;rwa [R1.base]at this);have Oe:=R1.slot 9 zd (λh=>h);rw[hb9]at Oe;have Xt:=Oe.int_eq;clear Oe bn;show Code.wpIn _ _ _ _ _ a w3
  obtain⟨rem,TP⟩:∃rem:Nat->List (List End),rem=λi=>if es.length<rows then lp es (all.drop i) (rows-es.length-1)else[]:=⟨_,rfl⟩
  have ZV:ch es (all.drop n) (rows-es.length)=rem n:=by
   have cD:all.drop n≠[]:=by intro h;have:=congrArg List.length h;simp at this;omega
   rw[TP];unfold ch;rw[if_neg cD]
   by_cases aq:es.length<rows
   .simp only[if_pos aq]
    obtain⟨m,hm⟩:∃m,rows-es.length=m+1:=⟨rows-es.length-1,zo⟩
    rw[hm];rfl
   .simp only[if_neg aq]
    have:rows-es.length=0:=zo
    rw[this]
  rw[ZV]at qU hc
  refine ae9 (ahi (λa w=>∃i k' M' e_,Fr X n a/\a.tmps.getD 9 undef=.int .i64 (i:Nat)/\n<=i/\i<=all.length/\St X k' M' e_ es w/\xs.drop k'=(rem i).map (br out)++tail/\k'+(rem i).length=k+(rem n).length)
   (λa _=>match a.tmps.getD 9 undef with|.int _ i=>all.length-i.toNat|_=>0) ⟨n,k,M,Pr,fr,Xt,adF _,zo,st,qU,rfl⟩ ?_)
  clear hb9 Xt R1 hg qU st fr;rintro a w ⟨i,k',M,Pr,fr,h9i,Et,dk,st,qU,F4⟩
  have h9':(AV.int .i64 (i:Int)).aI=.int .i64 (i:Int)/\RV (λ_ _=>True) cQ w (.int .i64 (i:Int)) (a.tmps.getD 9 undef):=⟨rfl,by rw[h9i];exact .data _ _ (.int _ _)⟩
  refine adT (adT ?_);refine cL hG de (ac:=af.qa c167.qb.qb.qa.qb.qb.qb.qa) (W:=W7) zk zk zk (C.gi st.j) (λ_ _=>True) (jg l all es out fA X.fv n (.int .i64 (i:Int))) fr.size fr.defers (st.gJ fr h9') (K:=λS' _=>S' 9=.int .i64 i/\∃b,S' 33=.bool b/\(b=true↔i<all.length/\es.length<rows)) ?_ ?_
  .by_cases aq:i<all.length
   .have nc:(i:Int)<all.length:=zo
    simp[c167,af.qa,af.qb,bB,bq,aF,ba,aD,aN,aP.S,aP.H,ev,au,aW,jg,cd,AV.aI,dU,aX,aq,X.f9,cy];omega
   .have nc:¬(i:Int)<all.length:=zo
    simp[c167,af.qa,af.qb,bB,bq,aF,ba,aD,aN,aP.S,aP.H,ev,au,aW,jg,cd,AV.aI,dU,aX,aq,X.f9,cy]
  rintro g S' H' a' w' hg R1 ⟨Qw,b,hb,hbi⟩ bn;have Lp:=fr.step R1.size (by rw[R1.defers,hg];rfl) bn;have sK:=st.grow (by have:=R1.below;rwa [R1.base]at this);have Oe:=R1.slot 9 zd (λh=>h);rw[Qw]at Oe;have Xu:=Oe.int_eq;have TO:=R1.slot 33 zd (λh=>h);rw[hb]at TO;have UJ:=TO.fN;show Code.wpIn _ _ _ _ _ a' w';refine aeB (t:=b) UJ ?_
  cases b with
  |false=>
   simp only[adM,ad1];refine afS ?_
   have gQ:¬(i<all.length/\es.length<rows):=λh=>by have:=hbi.2 h;cases this
   have Zw:rem i=[]:=by
    rw[TP]
    by_cases aq:es.length<rows
    .have:i=all.length:=by
      rcases ae6 i all.length with h|h
      .exact absurd ⟨h,aq⟩ gQ
      .omega
     simp only[if_pos aq,this,ahd]
     rfl
    .simp only[if_neg aq]
   rw[Zw]at F4;simp only[Exit.then,Exit.inBlock,aed];refine adT ?_;refine aea ?_;show wpOpsIn _ _ _ _ _ [0] a' w';refine bf rfl rfl zr (v:=.bool true) (w':=w') (run_assign (x:=.const (.bool true)) w' rfl) ?_;show Code.wpIn _ _ _ _ _ _ _;refine afC ⟨Lp.defers,.bool true,?_,?_⟩
   .have h8:(a'.put (some 8) (.bool true)).tmps.getD 8 undef=.bool true:=by simp[Act.put,Lp.size]
    show(results f167 (a'.put (some 8) (.bool true)).tmps).run prog w'=_;exact ahm results167 h8
   .rw[<-hc];refine⟨M,Pr,.inl ⟨rfl,?_⟩⟩;rw[<-F4];exact sK
  |true=>
   obtain⟨aq,RS⟩:=hbi.1 rfl;simp only[aed];refine afb ?_;show Code.wpIn _ _ _ _ _ a' w';clear TO UJ Oe hb Qw R1 hg bn;refine adT (ae9 (adT ?_));obtain⟨v,ty,wC,hN,hMN,cZ,oG,Yr⟩:=sK.now;obtain⟨i116,Hk,rJ⟩:=iZ 180 2
   have Zv:(aX es).length=es.length:=by simp[aX]
   refine xf de (n:=53) (ac:=af.qa yx.qb.qa.qb) zk zk zk (W:=EV) zk (λb k=>X.MI b\/Pr b k)
    (λt=>match t with|1=>.ref [.slice .view (aX all)]|4=>.box 4 0|9=>.int .i64 (i:Int)|_=>.bp) (nm:=4) (tp:=4) (es:=aX es) (es':=aX (es++[all[i]])) zd rfl Lp.t4 Lp.size Lp.defers hN Hk (by rw[rJ,Zv];exact cZ) (by rw[rJ];exact oG.mono (bg.same λ_ _ _ h=>h.elim)) ?_ ?_ (by rw[rJ];exact we _) (EE _) ?_
   .intro t ht;split
    .exact⟨rfl,.inr (by rw[Lp.t1];exact sK.Xd)⟩
    .exact⟨rfl,.inl ⟨rfl,Lp.t4⟩⟩
    .exact⟨rfl,.inr (by rw[Xu];exact .data _ _ (.int _ _))⟩
    .exact⟨rfl,.inr (.bp _)⟩
   .have cD:¬(i:Int)<0:=zo
    have nt:es.length+1<1048576:=zo
    cases El:v.ownBlock with
    |none=>
     have he:es=[]:=by
      rcases cZ.2 with⟨_,h⟩|⟨gg,cap,cur,rfl,_⟩
      .exact aem h
      .cases El
     subst he;simp[c167,yx,af.qa,af.qb,bB,eP,dW,bD,cV,aF,jB,aD,ba,aP.S,aP.H,ev,au,aW,cd,AV.aI,AV.vw,AV.cells,AV.storable,AV.cI,aN,nU,El,HR.okB,bt,aX,bX,aq,aG,bC,AV.ct,cD]
    |some bv=>
     simp[c167,yx,af.qa,af.qb,bB,eP,dW,bD,cV,aF,jB,aD,ba,aP.S,aP.H,ev,au,aW,cd,AV.aI,AV.vw,AV.cells,AV.storable,AV.cI,aN,nU,El,HR.okB,bt,aX,bX,aq,aG,bC,AV.ct,cD,nt]
   .intro a2 w2 v' Cj xs2 JR UG kB hN2 HO Ut jF Ps;have Wg:=Lp.step JR UG (eI.weaken kB λt ht=>by simp[W7]at ht;simp[EV];omega);have Ja:a2.tmps.getD 9 undef=.int .i64 (i:Int):=(kB 9 rfl).trans Xu
    have Vw:∀b,(b=X.bN\/v.ownBlock=some b)->M b/\¬X.MI b:=by
     rintro b (rfl|hb)
     .exact⟨hMN,λh=>(sK.mi _ h).2.1 rfl⟩
     .exact Yr b hb
    have ky:bg Pr Pr w' w2:=bg.qq λb k aq hp=>jF.block b aq λhm=>C.apart sK.j b k (Vw b hm).1 hp
    have Sa:∀b,X.MI b->w2.heap[b]?=w'.heap[b]?:=λb h=>jF.block b (sK.lt b (sK.mi b h).1) λhm=>(Vw b hm).2 h
    have acD:(aX (es++[all[i]])).length=(es++[all[i]]).length:=by simp[aX]
    have st2:St X k' (λb=>M b\/(w'.heap.size<=b/\b<w2.heap.size)) Pr (es++[all[i]]) w2:=by
     refine⟨C.dS sK.j (M':=λb=>M b\/(w'.heap.size<=b/\b<w2.heap.size)) ⟨jF.os,jF.tape,jF.output,jF.size,λb hb hm=>jF.block b hb λh=>hm (Vw b h).1⟩ λb hb=>?_,λb hb=>?_,λb h=>⟨.inl (sK.mi b h).1,(sK.mi b h).2.1,(Sa b h).trans (sK.mi b h).2.2⟩,⟨v',Cj,xs2,hN2,.inl hMN,?_,?_,λb hb=>?_⟩,sK.f.mono ky λ_ _ h=>h,sK.o.mono ky λ_ _ h=>h,sK.e.mono (Cu Sa ky)⟩
     .rcases hb with hb|hb
      .exact⟨aet (sK.lt b hb) jF.size,.inl hb⟩
      .exact⟨hb.2,.inr hb.1⟩
     .rcases hb with hb|hb
      .exact aet (sK.lt b hb) jF.size
      .exact hb.2
     .rw[rJ,acD]at HO;exact HO
     .rw[rJ]at Ut;exact Ut
     .rcases Ps b hb with h|h
      .exact⟨.inl (Yr b h).1,(Yr b h).2⟩
      .refine⟨.inr ⟨h,(HO.lt b hb).2⟩,λhm=>?_⟩;have:=sK.lt b (sK.mi b hm).1;omega
    clear Vw ky Sa Ps HO Ut hN2 jF;show Code.wpIn _ _ _ _ _ a2 w2
    have aau:(AV.int .i64 (i:Int)).aI=.int .i64 (i:Int)/\RV (λ_ _=>True) cQ w2 (.int .i64 (i:Int)) (a2.tmps.getD 9 undef):=⟨rfl,by rw[Ja];exact .data _ _ (.int _ _)⟩
    refine adT (adT ?_);refine lI hG (p:=3) (l2:=[3,4]) rfl zk zk (l:=(yx.qb.qa.qb.qb.qa.qa.dl).take 3) zk zd (W:=EV) zk (C.gi st2.j) (λ_ _=>True) (jg l all (es++[all[i]]) out fA X.fv n (.int .i64 (i:Int))) Wg.size Wg.defers (st2.gJ Wg aau) (K:=λS' _=>S' 43=.val X.fv/\S' 45=.int .i64 ((i+1:Nat):Int)) ?_ ?_
    .have pZ:IntKind.i64.wrap ((i:Int)+1)=i+1:=aQ zo;simp[c167,yx,af.qa,af.qb,af.dl,bq,aF,ba,aD,aP.S,aP.H,ev,au,aW,jg,cd,AV.aI,dU,pZ]
    rintro g S' H' a3 w3 hg R1 ⟨h43,T8⟩ I5;have Uy:=Wg.step R1.size (by rw[R1.defers,hg];rfl) (eI.weaken I5 λt ht=>by simp[W7]at ht;simp[EV];omega);have Vx:=st2.grow (by have:=R1.below;rwa [R1.base]at this);have h93:a3.tmps.getD 9 undef=.int .i64 (i:Int):=(I5 9 rfl).trans Ja;have Ef:=R1.slot 43 zd (λh=>h);rw[h43]at Ef;have Ef:=Ef.iA;have WH:=R1.slot 45 zd (λh=>h);rw[T8]at WH;have WH:=WH.int_eq;clear R1 hg I5;have ZN:all.drop i=all[i]::all.drop (i+1):=afE aq
    have Zw:rem i=ch (es++[all[i]]) (all.drop (i+1)) (rows-(es++[all[i]]).length)++rem (i+1):=by
     rw[TP];simp only[if_pos RS,ZN,SH]
     congr 2
     simp;omega
    rw[Zw]at qU F4;rw[ad6,aek]at qU;have ml:=ih (all.length-(i+1)) zo (i+1) (es++[all[i]]) k' _ Pr w3 _ zo (by simp;omega) Vx qU;refine gC rfl rfl zr (uk (f:=.tmp 43) (x:=.tmp 45) w3 rfl rfl rfl Ef zk) (R:=λe w'=>∃M' e_,(e=.returned (.bool true)/\St X (k'+(ch (es++[all[i]]) (all.drop (i+1)) (rows-(es++[all[i]]).length)).length) M' e_ (es++[all[i]]) w')\/(e=.returned (.bool false)/\C.X M' e_ w')) ?_ ?_
    .have : #[a3.eval (.tmp 45)] ++ #[X.cA,X.cY,X.cO,.pointer (some ⟨X.bN,0,none⟩),X.cF,X.cR] = #[.int .i64 ((i+1:Nat):Int),X.cA,X.cY,X.cO,.pointer (some ⟨X.bN,0,none⟩),X.cF,X.cR]:=by
      show #[a3.tmps.getD 45 undef]++_=_;rw[WH];rfl
     rw[this];exact ml
    rintro e w4 ⟨M4,NG,zl⟩
    obtain⟨b,rfl⟩:∃b:Bool,e=.returned (.bool b):=by rcases zl with⟨rfl,_⟩|⟨rfl,_⟩<;>exact⟨_,rfl⟩
    refine⟨_,rfl,?_⟩
    have h46:(a3.put (some 46) (.bool b)).tmps.getD 46 undef=.bool b:=by simp[Act.put,Uy.size]
    refine bf rfl rfl zr (v:=.bool !b) (w':=w4) (RA (x:=.tmp 46) w4 rfl h46) ?_;show Code.wpIn _ _ _ _ _ ((a3.put (some 46) (.bool b)).put (some 47) (.bool !b)) w4
    obtain⟨a4,mo⟩:∃a4,(a3.put (some 46) (.bool b)).put (some 47) (.bool !b)=a4:=⟨_,rfl⟩
    rw[mo]
    have fx:∀(a:Act)(d t:Nat)(c:Value),t≠d->(a.put (some d) c).tmps.getD t undef=a.tmps.getD t undef:=λa d t c h=>by
     simp[Act.put,adN (aeq h)]
    have Ra:eI EV a3 a4:=λt ht=>by
     have:t<36:=by simp[EV]at ht;omega
     rw[<-mo,fx _ _ _ _ zo,fx _ _ _ _ zo]
    have Li:a4.tmps.size=53:=by rw[<-mo];simp[Act.put,Uy.size]
    have aay:a4.defers=[]:=by rw[<-mo];exact Uy.defers
    have Qg:=Uy.step Li aay (eI.weaken Ra λt ht=>by simp[W7]at ht;simp[EV];omega);have h94:a4.tmps.getD 9 undef=.int .i64 (i:Int):=(Ra 9 rfl).trans h93
    have h47:a4.tmps.getD 47 undef=.bool !b:=by rw[<-mo];simp[Act.put,Uy.size]
    refine aeB (t:=!b) h47 ?_
    cases b with
    |false=>
     have hX:C.X M4 NG w4:=by
      rcases zl with⟨h,_⟩|⟨_,h⟩
      .cases h
      .exact h
     simp only[agU,aed];refine adT ?_;refine aea ?_;show wpOpsIn _ _ _ _ _ [0] a4 w4;refine bf rfl rfl zr (v:=.bool false) (w':=w4) (run_assign (x:=.const (.bool false)) w4 rfl) ?_;show Code.wpIn _ _ _ _ _ _ _;refine afC ⟨Qg.defers,.bool false,?_,?_⟩
     .have h8:(a4.put (some 8) (.bool false)).tmps.getD 8 undef=.bool false:=by simp[Act.put,Qg.size]
      show(results f167 (a4.put (some 8) (.bool false)).tmps).run prog w4=_;exact ahm results167 h8
     .rw[<-hc];exact⟨M4,NG,.inr ⟨rfl,hX⟩⟩
    |true=>
     have zY:St X (k'+(ch (es++[all[i]]) (all.drop (i+1)) (rows-(es++[all[i]]).length)).length) M4 NG (es++[all[i]]) w4:=by
      rcases zl with⟨_,h⟩|⟨h,_⟩
      .exact h
      .cases h
     simp only[ahx,adM,ad1];refine afb ?_;show Code.wpIn _ _ _ _ _ a4 w4;obtain⟨v4,Zi,Vr,hN4,T4,T7,aci,acd⟩:=zY.now
     have Zr:Vr.length=(es.length+1)*2:=by have:=T7.1;simpa using this
     obtain⟨i29,abb,ab3⟩:=iZ 174 1;refine aea ?_;show wpOpsIn _ _ _ _ _ [0,1,2,3,4,5] a4 w4
     refine KS (P:=prog) (n:=53) (T:=174) (el:=180) (p:=4) (t1:=48) (t2:=49) (t3:=50) (t4:=51) (t5:=52) (bN:=X.bN) (i:=i116) (iT:=i29) (v:=v4) (ty:=Zi) (k:=es.length) (xs:=Vr.take (es.length*2)) (last:=Vr.drop (es.length*2))
      rfl rfl rfl rfl rfl rfl ⟨rfl,rfl,rfl⟩ ⟨rfl,rfl,rfl⟩ ⟨rfl,rfl,rfl⟩ ⟨rfl,rfl,rfl⟩ ⟨rfl,rfl,rfl⟩ ⟨rfl,rfl,rfl⟩ rfl rfl rfl zk abb ab3 Hk zd Qg.size zd Qg.t4 hN4 (by rw[aeX,rJ];simpa using T7) (by rw[rJ,adS,Zr];omega) zo ?_
     intro a5 v5 GB aaB UA VO aaT G4
     have FE:∀b,v5.ownBlock=some b->M4 b/\¬X.MI b:=λb hb=>acd b (by rw[<-VO];exact hb)
     have l_:∀b,b≠X.bN->(w4.setRow X.bN #[v5]).heap[b]?=w4.heap[b]?:=λb hb=>aeO w4 X.bN b #[v5] hb
     have Hw:(w4.setRow X.bN #[v5]).heap.size=w4.heap.size:=ahB
     have Wq:bg NG NG w4 (w4.setRow X.bN #[v5]):=bg.qq λb k _ hp=>l_ b (by rintro rfl;exact C.apart zY.j _ k T4 hp)
     have Mc:St X (k'+(ch (es++[all[i]]) (all.drop (i+1)) (rows-(es++[all[i]]).length)).length) M4 NG es (w4.setRow X.bN #[v5]):=by
      refine⟨C.dS zY.j ⟨rfl,rfl,rfl,by rw[Hw];exact adF _,λb _ hm=>l_ b (by rintro rfl;exact hm T4)⟩ λb hb=>⟨by rw[Hw];exact zY.lt b hb,.inl hb⟩,λb hb=>by rw[Hw];exact zY.lt b hb,λb h=>⟨(zY.mi b h).1,(zY.mi b h).2.1,(l_ b (zY.mi b h).2.1).trans (zY.mi b h).2.2⟩,
       ⟨v5,Zi,Vr.take (es.length*2),afq w4 X.bN _ #[v5] Zi (0,0) hN4,T4,?_,?_,FE⟩,zY.f.mono Wq λ_ _ h=>h,zY.o.mono Wq λ_ _ h=>h,zY.e.mono (Cu (λb h=>l_ b (zY.mi b h).2.1) Wq)⟩
      .rw[rJ]at G4;refine⟨G4.1,?_⟩
       rcases G4.2 with h|⟨gg,cap,cur,rfl,r_,acI,rest⟩
       .exact .inl h
       .exact .inr ⟨gg,cap,cur,rfl,r_,(l_ gg zo).trans acI,rest⟩
      .refine⟨we es,λj hj k hk=>?_⟩
       have M5:j<es.length:=by simpa[aX]using hj
       have dZ:j<(aX (es++[all[i]])).length:=by simp[aX];omega
       have im:(aX (es++[all[i]]))[j]=(aX es)[j]:=by
        simp only[aX,ad6,adU,aee];exact ad5 (by simpa using M5)
       obtain⟨u,u1,u2⟩:=aci.2 j dZ k (by rw[im];exact hk);refine⟨u,?_,?_⟩
       .have ky:k < 2:=by
         have:=we es _ (adC hj);rw[this.1]at hk;exact hk
        rw[agi zo];exact u1
       .simp only[im]at u2;exact u2.mono (bg.of_eq λ_ _ h=>h.elim)
     have Sw:eI EV a4 a5:=λt ht=>by
      have:t<36:=by simp[EV]at ht;omega
      exact UA t zo zo zo zo zo
     have IA:=Qg.step GB (aaB.trans Qg.defers) (eI.weaken Sw λt ht=>by simp[W7]at ht;simp[EV];omega);have h95:a5.tmps.getD 9 undef=.int .i64 (i:Int):=(Sw 9 rfl).trans h94;clear l_ FE Wq G4 Sw UA Hw;generalize w4.setRow X.bN #[v5]=w5 at Mc⊢;simp only[Exit.then,Exit.inBlock]
     have aaX:(AV.int .i64 (i:Int)).aI=.int .i64 (i:Int)/\RV (λ_ _=>True) cQ w5 (.int .i64 (i:Int)) (a5.tmps.getD 9 undef):=⟨rfl,by rw[h95];exact .data _ _ (.int _ _)⟩
     refine cL hG de (ac:=af.qb yx.qb) (W:=W7) zk zk zk (C.gi Mc.j) (λ_ _=>True) (jg l all es out fA X.fv n (.int .i64 (i:Int))) IA.size IA.defers (Mc.gJ IA aaX) (K:=λS' _=>S' 9=.int .i64 ((i+1:Nat):Int)) ?_ ?_
     .have pZ:IntKind.i64.wrap ((i:Int)+1)=i+1:=aQ zo;simp[c167,yx,af.qa,af.qb,bB,bq,aF,ba,aD,aN,aP.S,aP.H,ev,au,aW,jg,AV.aI,dU,pZ]
     intro g S' H' a6 w6 hg R1 R9 wq;have Kr:=IA.step R1.size (by rw[R1.defers,hg];rfl) wq;have MJ:=Mc.grow (by have:=R1.below;rwa [R1.base]at this);have Us:=R1.slot 9 zd (λh=>h);rw[R9]at Us;have Us:=Us.int_eq;refine⟨⟨i+1,_,M4,NG,Kr,Us,zo,zo,MJ,?_,?_⟩,?_⟩
     .rw[<-af1,qU,afw ahB];simp
     .have e:=@adV _ (ch (es++[all[i]]) (all.drop (i+1)) (rows-(es++[all[i]]).length)) (rem (i+1));omega
     .rw[Us,h9i];show all.length-((i+1:Nat):Int).toNat<all.length-(i:Int).toNat;rw[Int.toNat_natCast,Int.toNat_natCast];omega
end Go.Proofs.Tryz
namespace Go.Proofs.Tryz
open Go Go.AL Go.RowKit Go.Proofs Go.Proofs.Tram
variable{GI:World->Prop}
def su{vs:Array Value}(h:vs.size=1):∃v,vs=#[v]:=⟨vs[0],by
 apply afc
 .simpa using h
 .intro i h1 h2
  have:i=0:=by simpa using h2
  subst this;rfl⟩
def NN{P:Program}{t:TypeId}(h:(P.underlying t).map eh=some false):∃d,P.underlying t=some d/\eh d=false:=by
 cases hi:P.underlying t with
 |none=>rw[hi]at h;cases h
 |some i=>rw[hi]at h;exact⟨i,rfl,ad7 h⟩
def vZ(t:TypeId)(h:(prog.underlying t).map eh=some false:=by kernel_rfl):∃d,prog.underlying t=some d/\eh d=false:=NN h
def pk:AV.cI∘AV.aI=AV.cI:=by
 funext v
 cases v<;>try rfl
 rename_i o es;cases o<;>rfl
def RD.Mv{Pr:Nat->Nat->Prop}{w:World}{o:Ow}{es:List AV}{c:Value}(h:RD Pr w (.slice o es) c):RD Pr w (.slice .view es) c:=by
 cases h with
 |iB=>exact .iB _
 |slice _ _ b off cap size cs fl hn bl h1 hc hr=>exact .slice _ _ b off cap size cs fl (λh=>by cases h) bl h1 hc hr
 |jz _ a=>exact .jz _ a
def Z_ (hG:ar GI) {oE:Ow} {all:List End} {out:List Int} {fA:List AV} {rows:Nat} (eH:all.length≤1000) (UR:rows≤1000) (ku:out.length≤1000) (oG:fA.length=11) (hf1:∀ x∈fA.take 10,x.storable=true∧x.one=true∧x.aI=x) (h9:fA[9]? = some (.int .i64 rows))
  (aaf:AC prog GI 166 [.agg ((fA.take 10).map AV.cI),vI out] (.ret (.slice oE (aX all)))):
  yp prog GI 165 [.ref fA,.ref [vI out]] ((ch [] all rows).map (br out)):=by
 intro l C w Pr bT hJ hlen hr
 obtain⟨cF,cO,rfl⟩:∃cF cO,bT=#[cF,cO]:=by
  have:bT.size=2:=by simpa using hlen.symm
  exact⟨bT[0],bT[1],by
   apply afc
   .simpa using this
   .intro i h1 h2
    match i,h2 with
    |0,_=>rfl
    |1,_=>rfl⟩
 have X8:=hr 0 ahB ahB;have Za:=hr 1 ahB ahB;simp only[List.getElem_cons_zero,List.getElem_cons_succ,List.getElem_toArray]at X8 Za;refine(iV (ro:=none) (m:=0)).1 (ag2 func165 rfl trivial ?_);have cm:=C.gi hJ
 have R:Rel prog w 14 bP _ (AL.start [.val (.func (.yield l) #[] #[]),.ref fA,.ref [vI out]]) (λ_=>none) { tmps:=(#[.func (.yield l) #[] #[]]++#[cF,cO])++Array.replicate (f165.ntmps-(#[Value.func (.yield l) #[] #[]]++#[cF,cO]).size) undef,defers:=[] } w:=Rel.begin (args:=[.val (.func (.yield l) #[] #[]),.ref fA,.ref [vI out]]) (old:=Pr) ntmps165 ahB rfl (λi h h'=>by
  match i,h with
  |0,_=>exact .data _ _ (.val _ rfl)
  |1,_=>exact X8
  |2,_=>exact Za)
 have e1:({ tmps:=(#[Value.func (.yield l) #[] #[]]++#[cF,cO])++Array.replicate (f165.ntmps-(#[Value.func (.yield l) #[] #[]]++#[cF,cO]).size) undef,defers:=[] }:Act).tmps.getD 1 undef=cF:=cJ _ _ 1 ahB;have e2:({ tmps:=(#[Value.func (.yield l) #[] #[]]++#[cF,cO])++Array.replicate (f165.ntmps-(#[Value.func (.yield l) #[] #[]]++#[cF,cO]).size) undef,defers:=[] }:Act).tmps.getD 2 undef=cO:=cJ _ _ 2 ahB
 have W3:∃W:Nat->Bool,W=λt=>decide (3<=t):=⟨_,rfl⟩
 refine adT ?_;refine jP R hG cm de (ac:=af.qa c165) (W:=λt=>decide (3<=t)) zk zk zk (λ_ h=>h) (K:=λS' H'=>S' 1=.ref fA/\S' 2=.ref [vI out]/\S' 3=.box 3 0/\H' 3=some [.val (.func (.yield l) #[] #[])]) ?_ ?_
 .simp[c165,af.qa,bB,bq,aF,ba,aN,ev,AL.start,AV.aI,AV.cells,AV.storable,au,cb,vI]
 rintro g1 S1 H1 a1 w1 Ai R1 ⟨s1,s2,s3,h3⟩ yb;refine adT ?_;refine jP R1 hG cm de (ac:=af.qa c165.qb) (W:=λt=>decide (3<=t)) zk zk zk (by rw[Ai];exact λ_ h=>h) (K:=λS' H'=>S' 3=.box 3 0/\S' 4=.box 4 0/\H' 3=some [.val (.func (.yield l) #[] #[])]/\H' 4=some [.slice oE (aX all)]) ?_ ?_
 .simp[c165,af.qa,af.qb,bB,bq,aF,ba,aN,ev,aD,aP.S,aP.H,aW,cd,s1,s2,s3,h3,au,AV.aI,vI,oG,lx]
  have e8:fz H1 (.agg (List.take 10 (List.map AV.aI fA)))=.agg ((fA.take 10).map AV.cI):=by
   simp only[fz,ia,AV.vw,<-afv,aeT,pk]
  have e9:fz H1 (.slice .view (ints out))=vI out:=rfl;rw[e8,e9];refine⟨zk,_,aaf,by simp[cW],?_⟩
  cases oE<;>simp[eY,cb,AV.cells,AV.storable,HR.okB,bt,bC,AV.ct,au,AV.aI,s3,h3]
 rintro g2 S2 H2 a2 w2 QN R2 ⟨t3,t4,k3,k4⟩ yH;have gP:g2.base=w.heap.size:=R2.base
 have lr:Below w.heap.size w w2:=by have:=R2.below;rwa [gP]at this
 obtain⟨bY,hY⟩:∃b,g2.al 3=some b/\a2.tmps.getD 3 undef=.pointer (some ⟨b,0,none⟩):=by
  have h:=R2.slot 3 zd (λh=>h);rw[t3]at h;generalize a2.tmps.getD 3 undef=c at h
  cases h with
  |data _ _ h=>cases h
  |box _ _ b h=>exact⟨b,h,rfl⟩
 obtain⟨bA,hA⟩:∃b,g2.al 4=some b/\a2.tmps.getD 4 undef=.pointer (some ⟨b,0,none⟩):=by
  have h:=R2.slot 4 zd (λh=>h);rw[t4]at h;generalize a2.tmps.getD 4 undef=c at h
  cases h with
  |data _ _ h=>cases h
  |box _ _ b h=>exact⟨b,h,rfl⟩
 obtain⟨csY,vsY,tyY,q1,q2,q3,q4,q5,q6,q7,q8,q9⟩:=R2.box 3 bY hY.1;rw[k3]at q1;cases q1
 have hvY:vsY=#[.func (.yield l) #[] #[]]:=by
  have h0:=q7 0 ahB (by rw[<-q6];simp);simp only[List.getElem_cons_zero]at h0;apply afc
  .rw[<-q6];rfl
  .intro i h1 h2
   have:i=0:=by simpa using h2
   subst this;exact(RV.data (al:=cQ) _ _ h0).iA
 subst hvY;obtain⟨csA,vsA,tyA,r1,r2,r3,r4,r5,r6,r7,r8,r9⟩:=R2.box 4 bA hA.1;rw[k4]at r1;cases r1;obtain⟨Fj,rfl⟩:=su (vs:=vsA) (by rw[<-r6];rfl);have Qt:=r7 0 ahB ahB;have hO0:=r8 0 ahB ahB;simp only[List.getElem_cons_zero,List.getElem_toArray]at Qt hO0
 have o7:RD (λb k=>(b<w.heap.size/\Pr b k)\/(w.heap.size<=b/\b<w2.heap.size)) w2 (.slice .view (aX all)) Fj:=by
  have hd:=Qt.aI
  have hd:RD g2.Pr w2 (.slice .view (aX all)) Fj:=by
   have e:RD g2.Pr w2 (.slice oE (aX all)) Fj:=Qt;exact RD.Mv e
  refine hd.mono (bg.of_eq λb k hp=>⟨?_,rfl⟩)
  rcases hp with⟨h1,h2⟩|⟨h1,h2⟩
  .rw[QN,Ai]at h2;exact .inl ⟨by rw[<-gP];exact h1,h2⟩
  .refine .inr ⟨by rw[<-gP];exact h1,?_⟩
   by_cases aq:b<w2.heap.size
   .exact aq
   .rw[(R2.fresh b zo).1]at h2;omega
 have hbY:w.heap.size<=bY/\bY<w2.heap.size:=⟨by rw[<-gP];exact q2,(adD.1 q3).1⟩
 have hbA:w.heap.size<=bA/\bA<w2.heap.size:=⟨by rw[<-gP];exact r2,(adD.1 r3).1⟩
 have e1:a2.tmps.getD 1 undef=cF:=((yb.trans yH) 1 rfl).trans e1;have e2:a2.tmps.getD 2 undef=cO:=((yb.trans yH) 2 rfl).trans e2;have JR:a2.tmps.size=14:=R2.size
 have UG:a2.defers=[]:=by rw[R2.defers,QN,Ai];rfl
 obtain⟨bN,UK⟩:∃bN,w2.heap.size=bN:=⟨_,rfl⟩
 have fx:∀(a:Act)(d t:Nat)(c:Value),t≠d->(a.put (some d) c).tmps.getD t undef=a.tmps.getD t undef:=λa d t c h=>by
  simp[Act.put,adN (aeq h)]
 have jL:∀(a:Act)(d:Nat)(c:Value),a.tmps.size=14->d<14->(a.put (some d) c).tmps.getD d undef=c:=λa d c h hd=>by
  simp[Act.put,h,hd]
 have kn:∀(a:Act)(d:Option Nat)(c:Value),(a.put d c).tmps.size=a.tmps.size:=λa d c=>by cases d<;>simp[Act.put]
 have sJ:∀(a:Act)(d:Option Nat)(c:Value),(a.put d c).defers=a.defers:=λa d c=>by cases d<;>rfl
 refine adT (aea ?_);show wpOpsIn _ _ _ _ _ [0] a2 w2;refine bf rfl rfl zr (lA (t:=174) (z:=.slice none 0 0) rfl zk) ?_;show Code.wpIn _ _ _ _ _ (a2.put (some 5) (.pointer (some ⟨w2.heap.size,0,none⟩))) (w2.alloc (.cells #[.slice none 0 0] 174))
 obtain⟨a3,sk⟩:∃a3,a2.put (some 5) (.pointer (some ⟨w2.heap.size,0,none⟩))=a3:=⟨_,rfl⟩
 obtain⟨w3,qv⟩:∃w3,w2.alloc (.cells #[.slice none 0 0] 174)=w3:=⟨_,rfl⟩
 have A5:w3.heap.size=bN+1:=by rw[<-qv,<-UK];simp
 have Pk:w3.heap[bN]?=some (.cells #[.slice none 0 0] 174 (0,0)):=by rw[<-qv,<-UK];exact aew w2 _
 have L7:∀b,b<bN->w3.heap[b]?=w2.heap[b]?:=λb hb=>by rw[<-qv];exact ahc _ _ _ zo
 rw[sk,qv];refine adT (aea ?_);show wpOpsIn _ _ _ _ _ [0] a3 w3;refine bf rfl rfl zr (lA (t:=69) (z:=.nilFunc) rfl zk) ?_;show Code.wpIn _ _ _ _ _ (a3.put (some 6) (.pointer (some ⟨w3.heap.size,0,none⟩))) (w3.alloc (.cells #[.nilFunc] 69))
 obtain⟨a4,mo⟩:∃a4,a3.put (some 6) (.pointer (some ⟨w3.heap.size,0,none⟩))=a4:=⟨_,rfl⟩
 obtain⟨w4,nz⟩:∃w4,w3.alloc (.cells #[.nilFunc] 69)=w4:=⟨_,rfl⟩
 have PF:w4.heap.size=bN+2:=by rw[<-nz];simp[A5]
 have F3:w4.heap[bN+1]?=some (.cells #[.nilFunc] 69 (0,0)):=by rw[<-nz,<-A5];exact aew w3 _
 have EN:∀b,b<bN+1->w4.heap[b]?=w3.heap[b]?:=λb hb=>by rw[<-nz];exact ahc _ _ _ zo
 rw[mo,nz]
 have z3:a3.tmps.size=14:=by rw[<-sk,kn];exact JR
 have z4:a4.tmps.size=14:=by rw[<-mo,kn];exact z3
 have u5:a4.tmps.getD 5 undef=.pointer (some ⟨bN,0,none⟩):=by rw[<-mo,fx _ _ _ _ zd,<-sk,jL _ _ _ JR zd,UK]
 have u6:a4.tmps.getD 6 undef=.pointer (some ⟨bN+1,0,none⟩):=by rw[<-mo,jL _ _ _ z3 zd,A5]
 have u:∀t,t<5->a4.tmps.getD t undef=a2.tmps.getD t undef:=λt ht=>by rw[<-mo,fx _ _ _ _ zo,<-sk,fx _ _ _ _ zo]
 refine adT (aea ?_);show wpOpsIn _ _ _ _ _ [0,1] a4 w4;refine bf rfl rfl zr (mB (fn:=.func 167) (c:=#[.tmp 4,.tmp 3,.tmp 2,.tmp 5,.tmp 1,.tmp 6]) rfl) ?_
 have fl:(#[Operand.tmp 4,.tmp 3,.tmp 2,.tmp 5,.tmp 1,.tmp 6].map a4.eval)=#[.pointer (some ⟨bA,0,none⟩),.pointer (some ⟨bY,0,none⟩),cO,.pointer (some ⟨bN,0,none⟩),cF,.pointer (some ⟨bN+1,0,none⟩)]:=by
  simp only[aeg,adU,aee,Act.eval];rw[u 4 zo,u 3 zo,u 2 zo,u5,u 1 zo,u6,hA.2,hY.2,e2,e1]
 rw[fl]
 obtain⟨fv,lV⟩:∃fv:Value,fv=.func (.func 167) #[] #[.pointer (some ⟨bA,0,none⟩),.pointer (some ⟨bY,0,none⟩),cO,.pointer (some ⟨bN,0,none⟩),cF,.pointer (some ⟨bN+1,0,none⟩)]:=⟨_,rfl⟩
 rw[<-lV]
 obtain⟨a5,qX⟩:∃a5,a4.put (some 11) fv=a5:=⟨_,rfl⟩
 show wpOpsIn _ _ _ _ _ [1] (a4.put (some 11) fv) w4;rw[qX]
 have z5:a5.tmps.size=14:=by rw[<-qX,kn];exact z4
 have Ww:a5.tmps.getD 11 undef=fv:=by rw[<-qX];exact jL _ _ _ z4 zd
 have u65:a5.tmps.getD 6 undef=.pointer (some ⟨bN+1,0,none⟩):=by rw[<-qX,fx _ _ _ _ zd];exact u6
 obtain⟨i33,RJ,Uq⟩:=iZ 69 1;refine eT rfl rfl zr (iU (x:=.tmp 6) (y:=.tmp 11) rfl u65 RJ Uq F3 Ww (by rw[lV];rfl)) ?_
 obtain⟨w5,OT⟩:∃w5,w4.setRow (bN+1) #[fv]=w5:=⟨_,rfl⟩
 show Code.wpIn _ _ _ _ _ (a5.put none undef) (w4.setRow (bN+1) #[fv]);rw[OT]
 have adv:w5.heap.size=bN+2:=by rw[<-OT];simpa using PF
 have WR:w5.heap[bN+1]?=some (.cells #[fv] 69 (0,0)):=by rw[<-OT];exact afq w4 _ _ _ _ _ F3
 have Xo:∀b,b<bN+1->w5.heap[b]?=w4.heap[b]?:=λb hb=>by rw[<-OT];exact aeO w4 _ _ _ zo
 have Mj:∀b,b<bN->w5.heap[b]?=w2.heap[b]?:=λb hb=>by rw[Xo b zo,EN b zo,L7 b hb]
 refine aea ?_;show wpOpsIn _ _ _ _ _ [0,1] a5 w5;obtain⟨d33,aaA,Z0⟩:=vZ 69;refine bf rfl rfl zr (jT (x:=.tmp 6) (v:=fv) rfl u65 aaA Z0 (by simp[World.cell?,WR])) ?_;show wpOpsIn _ _ _ _ _ [1] (a5.put (some 12) fv) w5
 obtain⟨a6,Vo⟩:∃a6,a5.put (some 12) fv=a6:=⟨_,rfl⟩
 rw[Vo]
 have z6:a6.tmps.size=14:=by rw[<-Vo,kn];exact z5
 have u12:a6.tmps.getD 12 undef=fv:=by rw[<-Vo];exact jL _ _ _ z5 zd
 have Tv:a6.defers=[]:=by rw[<-Vo,sJ,<-qX,sJ,<-mo,sJ,<-sk,sJ];exact UG
 have hc6:∀{P':Nat->Nat->Prop},(∀b k,P' b k->b<bN)->bg P' P' w2 w5:=λh=>bg.of_eq λb k hp=>⟨hp,Mj b (h b k hp)⟩
 let X:Fx C all out fA rows:={
  bN:=bN
  cA:=.pointer (some ⟨bA,0,none⟩)
  cY:=.pointer (some ⟨bY,0,none⟩)
  cO:=cO
  cF:=cF
  cR:=.pointer (some ⟨bN+1,0,none⟩)
  MI:=λb=>w.heap.size<=b/\b<bN+2/\b≠bN
  wI:=w5
  bA:=bA
  Fj:=Fj
  Qt:=rfl
  Va:=⟨⟨hbA.1,zo,zo⟩,zo⟩
  hA2:=⟨tyA,(Mj bA zo).trans r3⟩
  hY:=by
   refine .data _ _ (.ref _ _ _ (λ_=>.func (.yield l) #[] #[]) (λi hi=>?_) (λk hk=>⟨?_,?_⟩) (λk hk=>?_))
   .have:i=0:=by simpa using hi
    subst this;rfl
   .exact⟨hbY.1,zo,zo⟩
   .have:k=0:=by simpa using hk
    subst this;have:w5.heap[bY]?=some (.cells #[.func (.yield l) #[] #[]] tyY (0,0)):=(Mj bY zo).trans q3;simp[World.cell?,this]
   .have:k=0:=by simpa using hk
    subst this;exact .val _ rfl
  hR:=by
   refine .data _ _ (.ref _ _ _ (λ_=>fv) (λi hi=>?_) (λk hk=>⟨?_,?_⟩) (λk hk=>?_))
   .have:i=0:=by simpa using hi
    subst this;rfl
   .exact⟨zo,zo,zo⟩
   .have:k=0:=by simpa using hk
    subst this;simp[World.cell?,WR]
   .have:k=0:=by simpa using hk
    subst this;rw[lV];exact .val _ rfl
  f9:=h9 }
 have jF:l8 (λ_=>False) w w5:=by
  refine⟨?_,?_,?_,zo,λb hb _=>(Mj b zo).trans (lr.block b hb)⟩
  .rw[<-OT,<-nz,<-qv];exact lr.os
  .rw[<-OT,<-nz,<-qv];exact lr.tape
  .rw[<-OT,<-nz,<-qv];exact lr.output
 have n9:bg Pr Pr w w5:=bg.qq λb k hb _=>jF.block b hb (λh=>h)
 have st:St X 0 (λb=>w.heap.size<=b/\b<bN+2) Pr [] w5:=by
  refine⟨C.dS hJ jF λb hb=>⟨zo,.inr hb.1⟩,λb hb=>zo,λb hb=>⟨⟨hb.1,hb.2.1⟩,hb.2.2,rfl⟩,⟨.slice none 0 0,174,[],?_,?_,⟨rfl,.inl ⟨rfl,rfl⟩⟩,⟨λx hx=>(by cases hx),λj hj=>(by simp[aX]at hj)⟩,λb hb=>(by cases hb)⟩,X8.mono n9 λ_ _ h=>h,Za.mono n9 λ_ _ h=>h,o7.mono (bg.of_eq λb k hp=>?_)⟩
  .show w5.heap[bN]?=_;rw[Xo bN zo,EN bN zo];exact Pk
  .show w.heap.size<=bN/\bN<bN+2;exact⟨by rw[<-UK];exact lr.size,zo⟩
  .have bl:=lr.size
   have aq:b<bN:=by
    rcases hp with h|h<;>omega
   refine⟨⟨aq,?_⟩,Mj b aq⟩;rcases hp with h|h
   .exact .inr h.2
   .exact .inl (show w.heap.size<=b/\b<bN+2/\b≠bN from⟨h.1,zo,zo⟩)
 have EM:=Ux hG X eH UR ku all.length 0 [] 0 _ Pr w5 [] zo (adF _) st ahB
 have yi:(#[a6.eval (.const (.int .i64 0))]++#[.pointer (some ⟨bA,0,none⟩),.pointer (some ⟨bY,0,none⟩),cO,.pointer (some ⟨bN,0,none⟩),cF,.pointer (some ⟨bN+1,0,none⟩)])=#[.int .i64 ((0:Nat):Int),X.cA,X.cY,X.cO,.pointer (some ⟨X.bN,0,none⟩),X.cF,X.cR]:=by
  simp[Act.eval,X]
 rw[<-yi]at EM;have acX:a6.eval (.tmp 12)=.func (.func 167) #[] #[.pointer (some ⟨bA,0,none⟩),.pointer (some ⟨bY,0,none⟩),cO,.pointer (some ⟨bN,0,none⟩),cF,.pointer (some ⟨bN+1,0,none⟩)]:=u12.trans lV;refine gC rfl rfl zr (uk (f:=.tmp 12) (x:=.const (.int .i64 0)) w5 rfl rfl rfl acX zk) EM ?_;rintro e w6 ⟨M',e_,zl⟩
 obtain⟨b,rfl,hv⟩:∃b:Bool,e=.returned (.bool b)/\(C.J ((ch [] all rows).map (br out)).length M' e_ w6\/C.X M' e_ w6):=by
  rcases zl with⟨rfl,h⟩|⟨rfl,h⟩
  .refine⟨true,rfl,.inl ?_⟩;have:=h.j;simpa using this
  .exact⟨false,rfl,.inr h⟩
 refine⟨_,rfl,?_⟩;show bodyPost prog f165 _ .normal (a6.put (some 13) (.bool b)) w6;refine⟨by rw[sJ];exact Tv,.tuple #[],?_,.tuple #[],_,_,rfl,hv⟩;simp[results,results165]
def Ql:TypeDesc→Bool
  |.interface _=>true
  |_=>false
def Ha {P:Program} {t:TypeId} (h:(P.underlying t).map Ql=some true):∃ ms,P.underlying t=some (.interface ms):=by
  cases hi:P.underlying t with
  |none=>rw[hi]at h;cases h
  |some d =>
    rw[hi]at h
    cases d<;>first|(cases h;done)|exact⟨_,rfl⟩
def SQ (T:Nat) (v:Value) (w:World):(binOp .eql 20 (.iface T v) .nilIface).run prog w = .ok (.bool false) w:=by
  have:(Op.equal 20 (.iface T v) .nilIface).run prog w = .ok false w:=by
    obtain⟨ms,hm⟩:=Ha (P:=prog) (t:=20) zk;unfold Op.equal Op.maxDepth Op.equalIn;simp[adW hm]
  simp[binOp,this]
def tO {a:Act} {o:Oper} {T:Nat} {v:Value} {x:Operand} (w:World) (ho:o.op = .binOp .eql 20 x (.const .nilIface) 20) (hx:a.eval x = .iface T v):(execOp a.eval o).run prog w = .ok (.value (.bool false)) w:=by
  have h0:(eqGuard .eql 20 x (.const .nilIface) (.iface T v) .nilIface).run prog w=.ok () w:=hZ _ _ _ _ _ _ rfl;have hc:a.eval (.const .nilIface)=.nilIface:=rfl;simp[execOp,ho,hx,hc,h0,SQ]
def KH {bE:Nat} {u:Value} {ty:TypeId} (w:World) (hE:w.heap[bE]? = some (.cells #[u] ty (0,0))) (n:Int) :
    CallsD prog 127 #[.pointer (some ⟨bE,0,none⟩)] (.panicking [{ v := .iface 190 (.agg #[.int .i64 n]),recovered:=false }]) w fun e u' w' =>
      e=.returned (.tuple #[])/\u'=.panicking [{ v:=.iface 190 (.agg #[.int .i64 n]),recovered:=true }]/\∃w1,Below w.heap.size w w1/\w'=w1.setRow bE #[.int .i64 5]:=by
  refine af_ func127 rfl λCD cs hu=>?_
  apply ahr;apply agK;simp[wpOpsS,go_sem,recoverD,hu,ntmps127,Exit.thenS];refine agZ ?_;refine(fy (m:=0)).1 ?_;refine ik (λa=>a.tmps.size=14/\a.defers=[]/\a.tmps.getD 0 undef=.pointer (some ⟨bE,0,none⟩)/\a.tmps.getD 5 undef=.iface 190 (.agg #[.int .i64 n])) ⟨ahB,rfl,ahB,ahB⟩ ?_;rintro a ⟨bl,eR,h0,h5⟩;have aq:=(adD.1 hE).1;refine ae9 (adT (aea ?_));show wpOpsIn _ _ _ _ _ [0] a w;refine bf rfl rfl zr (tO (x:=.tmp 5) w rfl h5) ?_;show Code.wpIn _ _ _ _ _ (a.put (some 7) (.bool false)) w
  have h7:(a.put (some 7) (.bool false)).tmps.getD 7 undef=.bool false:=by simp[Act.put,bl]
  refine aeB (t:=false) h7 ?_;simp only[adM,ad1];refine ik (λa=>a.tmps.size=14/\a.defers=[]/\a.tmps.getD 0 undef=.pointer (some ⟨bE,0,none⟩)/\a.tmps.getD 5 undef=.iface 190 (.agg #[.int .i64 n])) ⟨by simp[Act.put,bl],eR,by simpa[Act.put,adN]using h0,by simpa[Act.put,adN]using h5⟩ ?_;clear h7 h5 h0 eR bl a;rintro a ⟨bl,eR,h0,h5⟩
  have hS:∀ (a:Act) (w:World),a.tmps.getD 5 undef = .iface 190 (.agg #[.int .i64 n])→∀ t,t < 14→((fun t=>if t=5 then AV.iface 190 (.agg [.int .i64 n]) else AV.bp:an) t).aI=(fun t=>if t=5 then AV.iface 190 (.agg [.int .i64 n]) else AV.bp:an) t ∧
      RV (λ_ _=>True) cQ w ((λt=>if t=5 then AV.iface 190 (.agg [.int .i64 n])else AV.bp:an) t) (a.tmps.getD t undef):=by
    intro a w h5 t ht
    by_cases h:t=5
    . subst h
      rw[h5];refine⟨rfl,.data _ _ (.iface _ _ _ (.agg _ _ rfl (λi hi=>?_) (λi hi du=>?_)))⟩
      . have:i=0:=by simpa using hi
        subst this;rfl
      . have:i=0:=by simpa using hi
        subst this;exact .int _ _
    . simp only[h,ad1];exact⟨rfl,.bp _⟩
  refine adT ?_;refine cL (GI:=λ_=>True) (λ_ _ _ _=>trivial) de (ac:=af.qa c127.qb.qb.qb.qb) (W:=λt=>decide (8<=t)) zk zk zk trivial (λ_ _=>True) _ bl eR (hS a w h5) (K:=λS' _=>S' 9=.bool true/\S' 10=.agg [.int .i64 n]) ?_ ?_
  . simp[c127,af.qa,af.qb,bB,bq,aF,ba,aD,aN,aP.S,aP.H,ev,au,aW,AV.aI]
  rintro g S' H' a' w' hg R1 ⟨h9,pJ⟩ bn;have t9:=R1.slot 9 zd (λh=>h);rw[h9]at t9;have t9:=t9.fN;have t10:=R1.slot 10 zd (λh=>h);rw[pJ]at t10
  have b1:Below w.heap.size w w':=by have:=R1.below;rwa [R1.base]at this
  show Code.wpIn _ _ _ _ _ a' w';refine aeB (t:=true) t9 ?_;simp only[aed];refine adT ?_;refine jP R1 (GI:=λ_=>True) (λ_ _ _ _=>trivial) trivial de (ac:=af.qa c127.qb.qb.qb.qb.qb.qa) (W:=λt=>decide (1<=t)) zk zk zk (by rw[hg];exact λ_ h=>h) (K:=λ_ _=>True) ?_ ?_
  . simp[c127,af.qa,af.qb,bB,bq,aF,ba,aD,aN,aP.S,aP.H,ev,au,aW,AV.aI,pJ,cb,HR.okB,AV.cells,AV.storable,bC,AV.ct,bt]
  rintro g2 S2 H2 a2 w2 nQ R2 _ kB
  have b2:Below w.heap.size w w2:=by have:=R2.below;rwa [R2.base]at this
  have e0:a2.tmps.getD 0 undef=.pointer (some ⟨bE,0,none⟩):=(kB 0 rfl).trans ((bn 0 rfl).trans h0);have IX:w2.heap[bE]?=some (.cells #[u] ty (0,0)):=(b2.block bE aq).trans hE;obtain⟨i36,ss,sH⟩:=iZ 34 1;show Code.wpIn _ _ _ _ _ a2 w2;refine aea ?_;show wpOpsIn _ _ _ _ _ [0] a2 w2;refine eT rfl rfl zr (iU (x:=.tmp 0) (y:=.const (.int .i64 5)) (v:=.int .i64 5) rfl e0 ss sH IX rfl rfl) ?_;refine⟨by show a2.defers=[];rw[R2.defers,nQ,hg];rfl,_,rfl,.tuple #[],?_,rfl,rfl,w2,b2,rfl⟩;simp[results,results127]
def KK {bE:Nat} {u:Value} {ty:TypeId} (w:World) (hE:w.heap[bE]? = some (.cells #[u] ty (0,0))) (n:List UInt8) :
    CallsD prog 127 #[.pointer (some ⟨bE,0,none⟩)] (.panicking [{ v := .iface 192 (.agg #[.string ⟨n.toArray⟩]),recovered:=false }]) w fun e u' w' =>
      e=.returned (.tuple #[])/\u'=.panicking [{ v:=.iface 192 (.agg #[.string ⟨n.toArray⟩]),recovered:=true }]/\∃w1,Below w.heap.size w w1/\w'=w1.setRow bE #[.int .i64 4]:=by
  refine af_ func127 rfl λCD cs hu=>?_
  apply ahr;apply agK;simp[wpOpsS,go_sem,recoverD,hu,ntmps127,Exit.thenS];refine agZ ?_;refine(fy (m:=0)).1 ?_;refine ik (λa=>a.tmps.size=14/\a.defers=[]/\a.tmps.getD 0 undef=.pointer (some ⟨bE,0,none⟩)/\a.tmps.getD 5 undef=.iface 192 (.agg #[.string ⟨n.toArray⟩])) ⟨ahB,rfl,ahB,ahB⟩ ?_;rintro a ⟨bl,eR,h0,h5⟩;have aq:=(adD.1 hE).1;refine ae9 (adT (aea ?_));show wpOpsIn _ _ _ _ _ [0] a w;refine bf rfl rfl zr (tO (x:=.tmp 5) w rfl h5) ?_;show Code.wpIn _ _ _ _ _ (a.put (some 7) (.bool false)) w
  have h7:(a.put (some 7) (.bool false)).tmps.getD 7 undef=.bool false:=by simp[Act.put,bl]
  refine aeB (t:=false) h7 ?_;simp only[adM,ad1];refine ik (λa=>a.tmps.size=14/\a.defers=[]/\a.tmps.getD 0 undef=.pointer (some ⟨bE,0,none⟩)/\a.tmps.getD 5 undef=.iface 192 (.agg #[.string ⟨n.toArray⟩])) ⟨by simp[Act.put,bl],eR,by simpa[Act.put,adN]using h0,by simpa[Act.put,adN]using h5⟩ ?_;clear h7 h5 h0 eR bl a;rintro a ⟨bl,eR,h0,h5⟩
  have hS:∀ (a:Act) (w:World),a.tmps.getD 5 undef = .iface 192 (.agg #[.string ⟨n.toArray⟩])→∀ t,t < 14→((fun t=>if t=5 then AV.iface 192 (.agg [.str n]) else AV.bp:an) t).aI=(fun t=>if t=5 then AV.iface 192 (.agg [.str n]) else AV.bp:an) t ∧
      RV (λ_ _=>True) cQ w ((λt=>if t=5 then AV.iface 192 (.agg [.str n])else AV.bp:an) t) (a.tmps.getD t undef):=by
    intro a w h5 t ht
    by_cases h:t=5
    . subst h
      rw[h5];refine⟨rfl,.data _ _ (.iface _ _ _ (.agg _ _ rfl (λi hi=>?_) (λi hi du=>?_)))⟩
      . have:i=0:=by simpa using hi
        subst this;rfl
      . have:i=0:=by simpa using hi
        subst this;exact .str _
    . simp only[h,ad1];exact⟨rfl,.bp _⟩
  refine adT ?_;refine cL (GI:=λ_=>True) (λ_ _ _ _=>trivial) de (ac:=af.qa c127.qb.qb.qb.qb) (W:=λt=>decide (8<=t)) zk zk zk trivial (λ_ _=>True) _ bl eR (hS a w h5) (K:=λS' _=>S' 9=.bool false/\S' 5=.iface 192 (.agg [.str n])) ?_ ?_
  . simp[c127,af.qa,af.qb,bB,bq,aF,ba,aD,aN,aP.S,aP.H,ev,au,aW,AV.aI]
  rintro g0 S0 H0 a0 w0' HW R0 ⟨KI,Zl⟩ G0;have t90:=R0.slot 9 zd (λh=>h);rw[KI]at t90;have t90:=t90.fN;show Code.wpIn _ _ _ _ _ a0 w0';refine aeB (t:=false) t90 ?_;simp only[adM,ad1];refine adT ?_;refine jP R0 (GI:=λ_=>True) (λ_ _ _ _=>trivial) trivial de (ac:=af.qa c127.qb.qb.qb.qb.qb.qb) (W:=λt=>decide (8<=t)) zk zk zk (by rw[HW];exact λ_ h=>h) (K:=λS' _=>S' 12=.bool true/\S' 13=.agg [.str n]) ?_ ?_
  . simp[c127,af.qa,af.qb,bB,bq,aF,ba,aD,aN,aP.S,aP.H,ev,au,aW,AV.aI,Zl]
  rintro g S' H' a' w' hg R1 ⟨h9,pJ⟩ ID;have bn:=G0.trans ID;rw[HW]at hg;have t9:=R1.slot 12 zd (λh=>h);rw[h9]at t9;have t9:=t9.fN;have t10:=R1.slot 13 zd (λh=>h);rw[pJ]at t10
  have b1:Below w.heap.size w w':=by have:=R1.below;rwa [R1.base]at this
  show Code.wpIn _ _ _ _ _ a' w';refine aeB (t:=true) t9 ?_;simp only[aed];refine adT ?_;refine jP R1 (GI:=λ_=>True) (λ_ _ _ _=>trivial) trivial de (ac:=af.qa c127.qb.qb.qb.qb.qb.qb.qb.qa) (W:=λt=>decide (1<=t)) zk zk zk (by rw[hg];exact λ_ h=>h) (K:=λ_ _=>True) ?_ ?_
  . simp[c127,af.qa,af.qb,bB,bq,aF,ba,aD,aN,aP.S,aP.H,ev,au,aW,AV.aI,pJ,cb,HR.okB,AV.cells,AV.storable,bC,AV.ct,bt]
  rintro g2 S2 H2 a2 w2 nQ R2 _ kB
  have b2:Below w.heap.size w w2:=by have:=R2.below;rwa [R2.base]at this
  have e0:a2.tmps.getD 0 undef=.pointer (some ⟨bE,0,none⟩):=(kB 0 rfl).trans ((bn 0 rfl).trans h0);have IX:w2.heap[bE]?=some (.cells #[u] ty (0,0)):=(b2.block bE aq).trans hE;obtain⟨i36,ss,sH⟩:=iZ 34 1;show Code.wpIn _ _ _ _ _ a2 w2;refine aea ?_;show wpOpsIn _ _ _ _ _ [0] a2 w2;refine eT rfl rfl zr (iU (x:=.tmp 0) (y:=.const (.int .i64 4)) (v:=.int .i64 4) rfl e0 ss sH IX rfl rfl) ?_;refine⟨by show a2.defers=[];rw[R2.defers,nQ,hg];rfl,_,rfl,.tuple #[],?_,rfl,rfl,w2,b2,rfl⟩;simp[results,results127]
def JD (p:Addr) (w:World) :
    CallsD prog 127 #[.pointer (some p)] .returning w λe u' w'=>e=.returned (.tuple #[])/\u'=.returning/\w'=w:=by
  refine af_ func127 rfl λCD cs hu=>?_
  apply ahr;apply agK;simp[wpOpsS,go_sem,recoverD,hu,ntmps127,Exit.thenS];refine agZ ?_
  go_wp2
  cases CD
  simp_all[bodyPostS,results,results127]
def Bo {P:Program} {a:Act} {o:Oper} {cl:Call} {f:Operand} {k:Nat} {cap:Array Value} (w:World) (ho:o.op = .call cl) (hc:cl.callee = .value f) (ha:cl.args = #[]) (hf:a.eval f = .func (.func k) #[] cap) (hk:ee P k=true) :
    (execOp a.eval o).run P w=.ok (.enter k cap) w:=by
  unfold execOp;simp[ho,fk hc,hf,Deferred.ofValue,invoke,ha,gp hk]
def run_move {P:Program} {a:Act} {o:Oper} {x:Operand} (w:World) (ho:o.op = .move x):(execOp a.eval o).run P w = .ok (.value (a.eval x)) w:=by
  unfold execOp;simp only[ho]
  rfl
def Ct{w:World}{b:Nat}{v u:Value}{ty:TypeId}(h:w.heap[b]?=some (.cells #[u] ty (0,0))):(w.setRow b #[v]).heap[b]?=some (.cells #[v] ty (0,0)):=afq w b _ _ _ _ h
def Pb {a:Act} {w:World} {b:Nat} {v:Value} {ty:TypeId} (h2:a.tmps.getD 2 undef = .pointer (some ⟨b,0,none⟩)) (h:w.heap[b]? = some (.cells #[v] ty (0,0))):(results f92 a.tmps).run prog w = .ok v w:=by
  obtain⟨d,E_,vA⟩:=vZ 34
  have kR:(isAgg 34).run prog w = .ok false w:=by
    unfold isAgg;rw[adK,adW E_ w]
    cases d<;>simp_all[eh]
  have hl:(loadVar 34 ⟨b,0,none⟩).run prog w = .ok v w:=by
    simp[loadVar,adK,kR,World.cell?,h]
  have hr:f92.results=#[.cell 2 34]:=rfl
  have wG:a.tmps[2]?.getD undef=.pointer (some ⟨b,0,none⟩):=by rw[<-h2];simp
  simp[results,hr,wG,asAddr,hl]
def qx {k:Nat} {us:Array Value} {w:World} {R1 R:Ending→World→Prop} (jJ:ee prog k=true) (hc:Calls prog k us (w.alloc (.cells #[.int .i64 0] 34)) R1)
    (h:∀ e w2,R1 e w2→w.heap.size < w2.heap.size∧(∃ u ty,w2.heap[w.heap.size]? = some (.cells #[u] ty (0,0))) ∧
      ((∃c,e=.returned c/\R (.returned (.int .i64 0)) (w2.setRow w.heap.size #[.int .i64 0]))\/
       (∃n,e=.panicked [{ v:=.iface 190 (.agg #[.int .i64 n]),recovered:=false }]/\∀w3,Below w2.heap.size w2 w3->R (.returned (.int .i64 5)) (w3.setRow w.heap.size #[.int .i64 5]))\/
       (∃s:List UInt8,e=.panicked [{ v:=.iface 192 (.agg #[.string ⟨s.toArray⟩]),recovered:=false }]/\∀w3,Below w2.heap.size w2 w3->R (.returned (.int .i64 4)) (w3.setRow w.heap.size #[.int .i64 4])))):
    Calls prog 92 #[.func (.func k) #[] us] w R:=by
  refine calls_of_wp_defers func92 rfl ?_;refine(fy (m:=0)).1 ?_;refine ik (λa=>a.tmps.size=6/\a.defers=[]/\a.tmps.getD 0 undef=.func (.func k) #[] us) ⟨by simp[ntmps92],rfl,cJ _ _ 0 ahB⟩ ?_;rintro a ⟨bl,eR,h0⟩
  obtain⟨bE,MF⟩:∃bE,w.heap.size=bE:=⟨_,rfl⟩
  have fx:∀ (a:Act) (d t:Nat) (c:Value),t≠d→(a.put (some d) c).tmps.getD t undef=a.tmps.getD t undef:=fun a d t c h=>by
    simp[Act.put,adN (aeq h)]
  have jL:∀ (a:Act) (d:Nat) (c:Value),a.tmps.size=6→d < 6→(a.put (some d) c).tmps.getD d undef=c:=fun a d c h hd=>by
    simp[Act.put,h,hd]
  have kn:∀(a:Act)(d:Option Nat)(c:Value),(a.put d c).tmps.size=a.tmps.size:=λa d c=>by cases d<;>simp[Act.put]
  refine adT (aea ?_);show wpOpsIn _ _ _ _ _ [0] a w;refine bf rfl rfl zr (lA (t:=34) (z:=.int .i64 0) rfl zk) ?_;show Code.wpIn _ _ _ _ _ (a.put (some 2) (.pointer (some ⟨w.heap.size,0,none⟩))) (w.alloc (.cells #[.int .i64 0] 34));rw[MF]at h;simp only[MF]
  obtain⟨w1,mR⟩:∃w1,w.alloc (.cells #[.int .i64 0] 34)=w1:=⟨_,rfl⟩
  rw[mR]at hc⊢;refine ik (λa=>a.tmps.size=6/\a.defers=[]/\a.tmps.getD 0 undef=.func (.func k) #[] us/\a.tmps.getD 2 undef=.pointer (some ⟨bE,0,none⟩)) ⟨by rw[kn];exact bl,eR,by rw[fx _ _ _ _ zd];exact h0,jL _ _ _ bl zd⟩ ?_;clear h0 eR bl a;rintro a ⟨bl,eR,h0,h2⟩;refine adT (aea ?_);show wpOpsIn _ _ _ _ _ [0,1] a w1;refine bf rfl rfl zr (mB (fn:=.func 127) (c:=#[.tmp 2]) rfl) ?_
  have fl:(#[Operand.tmp 2].map a.eval) = #[.pointer (some ⟨bE,0,none⟩)]:=by
    simp only[aeg,adU,aee,Act.eval];rw[h2]
  rw[fl];show wpOpsIn _ _ _ _ _ [1] (a.put (some 3) (.func (.func 127) #[] #[.pointer (some ⟨bE,0,none⟩)])) w1
  obtain⟨a2,jE⟩:∃a2,a.put (some 3) (.func (.func 127) #[] #[.pointer (some ⟨bE,0,none⟩)])=a2:=⟨_,rfl⟩
  rw[jE]
  have z2:a2.tmps.size=6:=by rw[<-jE,kn];exact bl
  have u3:a2.tmps.getD 3 undef=.func (.func 127) #[] #[.pointer (some ⟨bE,0,none⟩)]:=by rw[<-jE];exact jL _ _ _ bl zd
  have u0:a2.tmps.getD 0 undef=.func (.func k) #[] us:=by rw[<-jE,fx _ _ _ _ zd];exact h0
  have u2:a2.tmps.getD 2 undef=.pointer (some ⟨bE,0,none⟩):=by rw[<-jE,fx _ _ _ _ zd];exact h2
  have ud:a2.defers=[]:=by rw[<-jE];exact eR
  refine Bp rfl rfl (d:={ target:=.fn (.func 127) #[.pointer (some ⟨bE,0,none⟩)],args:=#[] }) (w':=w1) ?_ ?_
  . unfold execOp
    simp[fk,Deferred.ofValue,Act.eval,u3]
  have Sk:∀ (w:World),(invoke (.fn (.func 127) #[.pointer (some ⟨bE,0,none⟩)]) #[]).run prog w = .ok (.enter 127 #[.pointer (some ⟨bE,0,none⟩)]) w:=fun w=>by
    simp[invoke,gp (P:=prog) (f:=127) zk]
  show Code.wpIn _ _ _ _ _ { a2 with defers:={ target:=.fn (.func 127) #[.pointer (some ⟨bE,0,none⟩)],args:=#[] }::a2.defers } w1;refine ik (λa=>a.tmps.size=6/\a.defers=[{ target:=.fn (.func 127) #[.pointer (some ⟨bE,0,none⟩)],args:=#[] }]/\a.tmps.getD 0 undef=.func (.func k) #[] us/\a.tmps.getD 2 undef=.pointer (some ⟨bE,0,none⟩)) ⟨z2,by show _::a2.defers=_;rw[ud],u0,u2⟩ ?_;clear u0 u2 u3 ud z2 jE a2 h0 h2 eR bl fl a;rintro a ⟨bl,eR,h0,h2⟩;refine adT (aea ?_);show wpOpsIn _ _ _ _ _ [0,1] a w1;refine bf rfl rfl zr (run_move (x:=.tmp 0) w1 rfl) ?_;have e0:a.eval (.tmp 0)=.func (.func k) #[] us:=h0;rw[e0];show wpOpsIn _ _ _ _ _ [1] (a.put (some 4) (.func (.func k) #[] us)) w1
  obtain⟨a2,jE⟩:∃a2,a.put (some 4) (.func (.func k) #[] us)=a2:=⟨_,rfl⟩
  rw[jE]
  have z2:a2.tmps.size=6:=by rw[<-jE,kn];exact bl
  have u4:a2.eval (.tmp 4)=.func (.func k) #[] us:=by show a2.tmps.getD 4 undef=_;rw[<-jE];exact jL _ _ _ bl zd
  have u2:a2.tmps.getD 2 undef=.pointer (some ⟨bE,0,none⟩):=by rw[<-jE,fx _ _ _ _ zd];exact h2
  have ud:a2.defers=[{ target:=.fn (.func 127) #[.pointer (some ⟨bE,0,none⟩)],args:=#[] }]:=by rw[<-jE];exact eR
  refine pd rfl rfl zr (Bo (f:=.tmp 4) w1 rfl rfl rfl u4 jJ) hc ?_;intro e w2 he;obtain⟨aq,⟨uE,Z4,hE⟩,tT⟩:=h e w2 he
  have Dr:∀ {args:Array Value} {u:FrameMode} {w:World} {R R':Ending→FrameMode→World→Prop},CallsD prog 127 args u w R→(∀ e u w,R e u w→R' e u w)→CallsD prog 127 args u w R':=fun h hr c cs hu =>
    let⟨e,u',w',fr,r,rest⟩:=h c cs hu;⟨e,u',w',fr,hr _ _ _ r,rest⟩
  have zG:∀ (p:PanicEntry) (v:Value) (hv:CallsD prog 127 #[.pointer (some ⟨bE,0,none⟩)] (.panicking [p]) w2 fun e u' w'=>e = .returned (.tuple #[])∧u' = .panicking [{ p with recovered:=true }]∧∃ w1,Below w2.heap.size w2 w1∧w'=w1.setRow bE #[v]),
      p.goexit=false->(∀w3,Below w2.heap.size w2 w3->R (.returned v) (w3.setRow bE #[v]))->Leaves prog f92 a2.tmps R a2.defers (.panicking [p]) w2:=by
    intro p v hv qg hR;rw[ud];refine ahn ahB (Sk w2) (Dr hv ?_);rintro e u' w' ⟨rfl,rfl,w3,oF,rfl⟩;have Y':w3.heap[bE]?=some (.cells #[uE] Z4 (0,0)):=(oF.block bE aq).trans hE;show Leaves prog f92 a2.tmps R [] .returning (w3.setRow bE #[v]);exact⟨v,Pb u2 (Ct Y'),hR w3 oF⟩
  rcases tT with⟨c,rfl,hR⟩|⟨n,rfl,hR⟩|⟨s,rfl,hR⟩
  . show Code.wpIn _ _ _ _ _ (a2.put (some 5) c) w2
    have TY:(a2.put (some 5) c).tmps.getD 2 undef=.pointer (some ⟨bE,0,none⟩):=by rw[fx _ _ _ _ zd];exact u2
    refine adT (aea ?_);show wpOpsIn _ _ _ _ _ [0] (a2.put (some 5) c) w2;obtain⟨i36,ss,sH⟩:=iZ 34 1;refine eT rfl rfl zr (iU (x:=.tmp 2) (y:=.const (.int .i64 0)) (v:=.int .i64 0) rfl TY ss sH hE rfl rfl) ?_;show Code.wpIn _ _ _ _ _ (a2.put (some 5) c) (w2.setRow bE #[.int .i64 0]);refine afC ?_;show Leaves prog f92 (a2.put (some 5) c).tmps R a2.defers .returning (w2.setRow bE #[.int .i64 0]);rw[ud];refine ahn ahB (Sk _) (Dr (JD _ _) ?_);rintro e u' w' ⟨rfl,rfl,rfl⟩;exact⟨_,Pb TY (Ct hE),hR⟩
  . exact zG _ _ (KH w2 hE n) rfl hR
  . exact zG _ _ (KK w2 hE s) rfl hR
def XF (hG:ar GI) {k:Nat} {caps:List AV} {out:iK} {r:Int} (jJ:ee prog k=true) (ZU:AC prog GI k caps out)
    (ku:(∃v,out=.ret v/\r=0)\/(∃n,out=.panic (.iface 190 (.agg [.int .i64 n]))/\r=5)\/(∃s,out=.panic (.iface 192 (.agg [.str s]))/\r=4)):
    AC prog GI 92 [.func (.func k) [] caps] (.ret (.int .i64 r)):=by
  intro w old bT gD hlen hr;obtain⟨fv,rfl⟩:∃fv,bT=#[fv]:=su (by simpa using hlen.symm);have h0:=hr 0 ahB ahB;simp only[List.getElem_cons_zero,List.getElem_toArray]at h0
  obtain ⟨us,rfl,hl,Oy⟩:∃ us:Array Value,fv = .func (.func k) #[] us∧caps.length=us.size∧∀ i (h:i < caps.length) (h':i < us.size),RV old (fun _=>none) w caps[i] us[i]:=by
    cases h0 with
    |data _ _ h=>cases h
    |func _ _ _ vs us h1 h2 r1 r2 =>
      have:vs=#[]:=afd (by simpa using h1.symm);subst this;exact⟨us,rfl,h2,r2⟩
  have nN:Below w.heap.size w (w.alloc (.cells #[.int .i64 0] 34)):=(aeC _ _).alloc (adF _) _
  have hk:bg old old w (w.alloc (.cells #[.int .i64 0] 34)):=bg.ja (λb h=>nN.block b h) λ_ _ _ h=>h
  have hN:(w.alloc (.cells #[.int .i64 0] 34)).heap[w.heap.size]?=some (.cells #[.int .i64 0] 34 (0,0)):=aew w _;refine qx jJ (ZU (w.alloc (.cells #[.int .i64 0] 34)) old us (hG _ _ gD nN) hl (λi h h'=>(Oy i h h').mono hk λ_ _ h=>h)) ?_;rintro e w2 ⟨iL,hi,qR,tT⟩
  have abd:w.heap.size<w2.heap.size:=by have:=iL.size;simp at this;omega
  have IX:w2.heap[w.heap.size]?=some (.cells #[.int .i64 0] 34 (0,0)):=(iL.block _ ahB).trans hN;refine⟨abd,⟨_,_,IX⟩,?_⟩
  have fin:∀ (w3:World) (r:Int),Below w2.heap.size w2 w3→AL.Ends prog old w (.ret (.int .i64 r)) (.returned (.int .i64 r)) (w3.setRow w.heap.size #[.int .i64 r]):=by
    intro w3 r oF
    have lr:Below w.heap.size w w3:=by
      have h1:=nN.trans (iL.mono ahB);exact h1.trans (oF.mono zo)
    refine⟨⟨lr.os,lr.tape,lr.output,by simpa using lr.size,λb hb=>(aeO w3 _ b _ zo).trans (lr.block b hb)⟩,λ_=>0,λ_ _=>rfl,_,rfl,.data _ _ (.int _ _),trivial⟩
  rcases ku with⟨v,rfl,rfl⟩|⟨n,rfl,rfl⟩|⟨s,rfl,rfl⟩
  . obtain ⟨c,rfl,_,_⟩:=tT
    exact .inl ⟨c,rfl,fin w2 0 (aeC _ _)⟩
  . obtain ⟨c,rfl,hc⟩:=tT
    obtain rfl:c = .iface 190 (.agg #[.int .i64 n]):=by
      cases hc with
      |iface _ _ c h =>
        cases h with
        |agg _ vs hl h1 hr =>
          obtain⟨u,rfl⟩:=su (vs:=vs) (by rw[<-hl];rfl);have:=hr 0 ahB ahB;have:=(RV.data (al:=cQ) _ _ this).int_eq;simp only[List.getElem_toArray,List.getElem_cons_zero]at this;rw[this]
    exact .inr (.inl ⟨n,rfl,λw3 h3=>fin w3 5 h3⟩)
  . obtain ⟨c,rfl,hc⟩:=tT
    obtain rfl:c = .iface 192 (.agg #[.string ⟨s.toArray⟩]):=by
      cases hc with
      |iface _ _ c h =>
        cases h with
        |agg _ vs hl h1 hr =>
          obtain⟨u,rfl⟩:=su (vs:=vs) (by rw[<-hl];rfl);have:=hr 0 ahB ahB;simp only[List.getElem_toArray,List.getElem_cons_zero]at this;cases this;rfl
    exact .inr (.inr ⟨s,rfl,λw3 h3=>fin w3 4 h3⟩)
def pz{GI:World->Prop}(hG:ar GI){n:Nat}{ro:Option Nat}{Q:fa}{old:Old}{S:an}{H:ao}{x y:Code}(ac:af)(bK:∀d∈ac.names,¬old.bx d)(K:an->ao->Prop)(h:bB prog GI ac (aN K) S H)(hy:∀S' H',K S' H'->SW prog GI n ro y Q old S' H')(hc:kW x=true:=by kernel_rfl)(oL:dK prog n x=ac:=by kernel_rfl):SW prog GI n ro (.seq x y) Q old S H:=SW.cut hG de hc oL bK K h hy
def dT{GI:World->Prop}(hG:ar GI){n:Nat}{ro:Option Nat}{Q:fa}{old:Old}{S:an}{H:ao}{x y:Code}(ac:af)(K:an->ao->Prop)(h:bB prog GI ac (aN K) S H)(hy:∀S' H',K S' H'->SW prog GI n ro y Q old S' H')(bK:∀d∈ac.names,¬old.bx d:=by exact λ_ _ h=>h)(hc:kW x=true:=by kernel_rfl)(oL:dK prog n x=ac:=by kernel_rfl):SW prog GI n ro (.seq x y) Q old S H:=SW.cut hG de hc oL bK K h hy
def iM:AV.aI∘AV.aI=AV.aI:=by funext v;exact AV.idem v
def Un:AV.cI∘AV.cI=AV.cI:=by funext v;cases v<;>rfl
def XY(hG:ar GI){fA:List AV}{out:List Int}(hl:fA.length=11):AC prog GI 152 [.agg fA,vI out] (.ret (.func (.func 165) [] [.ref (fA.map AV.cI),.ref [vI out]])):=by
 refine AC.Gp hG de func152 rfl ntmps152 ahB (ac:=c152) zk ?_;simp[c152,bB,bq,aF,ba,aD,di,ev,aP.S,aP.H,au,aW,AL.start,AV.aI,AV.cells,AV.storable,hl,cb,kI,bt,vI];refine⟨4,.func 165,[],[.box 2 0,.box 3 0],rfl,zd,by simp[au],?_⟩;simp[au,fz,ia,AV.cI,pk]
def Jj(out:List Int)(l:List (List End)):AV:=.slice (if l.isEmpty then .nil else .own 176) (l.map (br out))
def HS(out:List Int)(l:List (List End)):AV:=.slice (if l.isEmpty then .nil else .view) (l.map (br out))
def Ze (hG:ar GI) {fA:List AV} {out:List Int} {lj:List (List End)} {p:List End→Bool} (hl:fA.length=11) (eJ:∀ x∈fA,x.one=true) (hlen:lj.length≤100000) (bl:∀ es∈lj,es.length < 1000)
  (hit:yp prog GI 165 [.ref (fA.map AV.cI),.ref [vI out]] (lj.map (br out))) (ZB:∀es∈lj,AC prog GI 153 [.agg (fA.map AV.cI),br out es,.int .i64 0] (.ret (.bool (p es)))):
  AC prog GI 140 [.agg fA,vI out] (.ret (HS out (lj.filter p))):=by
 refine AC.ji func140 rfl ntmps140 ahB λcc w=>?_
 refine dT hG c140.qa (λS' H'=>S' 1=vI out/\S' 2=.box 2 0/\H' 2=some (fA.map AV.aI)) ?_ ?_
 .simp[c140,af.qa,bB,bq,aF,ba,aD,ev,aP.S,aP.H,au,aW,AL.start,AV.aI,AV.cells,AV.storable,hl,cb,bt,vI,aN]
 rintro S1 H1 ⟨s1,s2,h2⟩;refine dT hG c140.qb.qa (λS' H'=>S' 1=vI out/\S' 2=.box 2 0/\S' 5=.box 5 0/\H' 2=some (fA.map AV.aI)/\H' 5=some [.slice .nil []]) ?_ ?_
 .simp[c140,af.qa,af.qb,bB,bq,aF,ba,au,cb,vI,aN,s1,s2,h2]
 rintro S2 H2 ⟨s1,s2,s5,h2,h5⟩;refine SW.seq (dT hG c140.qb.qb.qa.qa (λS' H'=>S' 2=.box 2 0/\S' 5=.box 5 0/\S' 9=.func (.func 165) [] [.ref (fA.map AV.cI),.ref [vI out]]/\H' 2=some (fA.map AV.aI)/\H' 5=some [.slice .nil []]) ?_ ?_)
 .have e7:fz H2 (.agg (fA.map AV.aI))=.agg (fA.map AV.cI):=by simp only[fz,ia,AV.vw,aeT,pk]
  have Mh:=XY hG (fA:=fA.map AV.cI) (out:=out) (GI:=GI) (by simpa using hl);simp only[aeT,Un]at Mh;simp[c140,af.qa,af.qb,bB,bq,aF,ba,aD,ev,aP.S,aP.H,au,aW,cd,s1,s2,s5,h2,h5,aN,lx,hl,HR.okB,iM];have ht:List.take 11 (List.map AV.aI fA)=fA.map AV.aI:=adI (by simp;omega);rw[ht,e7];refine⟨zk,_,Mh,by simp[cW,vI,AV.aI],?_⟩;simp[eY,au,s2,s5,h2,h5]
 rintro S3 H3 ⟨s2,s5,s9,h2,h5⟩
 refine SW.block (SW.range hG de (OM:=.tmp 9) (y:=.t 9) (p:=10) (f:=165) (caps:=[.ref (fA.map AV.cI),.ref [vI out]]) (xs:=lj.map (br out)) rfl s9 zk rfl hit zd (λx hx=>by obtain⟨e,_,rfl⟩:=adZ.1 hx;rfl)
  (λd=>d==6) (aa:=.ops [⟨(some 6),none,.alloc 176 [(.slice .nil []),(.slice .nil [])]⟩,⟨none,none,.store .any 2 (.t 6) (.t 10)⟩]) (ab:=.block 1 (.seq (.ops [⟨some 11,none,.load .any true 11 (.t 2)⟩,⟨some 12,none,.load .any true 2 (.t 6)⟩,⟨some 13,none,.call 153 [(.t 11),(.t 12),(.c (.int .i64 0))]⟩]) (.cond (.t 13) (.ops [⟨some 14,none,.loadT .any (.t 5)⟩,⟨some 15,none,.load .any true 2 (.t 6)⟩,⟨some 16,none,.buildSlice 207 176 2 [(.t 15)]⟩,⟨some 17,none,.append 207 176 2 48 (.t 14) (.t 16)⟩,⟨none,none,.store .any 1 (.t 5) (.t 17)⟩]) .skip)))
  zk zk (by simp[af.names,bI.jx,eG.jx]) (by simp[af.names,bI.jx,eG.jx]) (λ_ _ h=>h) zk zk
  (λk H'=>H' 2=some (fA.map AV.aI)/\H' 5=some [Jj out ((lj.take k).filter p)]) (λ_ _=>False) ⟨h2,h5⟩ ?_ ?_ ?_)
 .rintro k hk H' ⟨h2,h5⟩
  have cz:k<lj.length:=by simpa using hk
  have Jd:(lj.map (br out))[k]=br out lj[k]:=ahB
  have hf:=ZB lj[k] (adC cz)
  have qQ:lj.take (k+1)=lj.take k++[lj[k]]:=by rw[adJ cz]
  have e7:∀H,fz H (.agg (fA.map AV.aI))=.agg (fA.map AV.cI):=λH=>by simp only[fz,ia,AV.vw,aeT,pk]
  have e8:∀H,fz H (.agg [.slice .view (ints out),.slice .view (aX lj[k])])=br out lj[k]:=λH=>rfl
  have e9:∀H,fz H (.int .i64 0)=.int .i64 0:=λH=>rfl
  have ht:List.take 11 (List.map AV.aI fA)=fA.map AV.aI:=adI (by simp;omega)
  have Fv:pG (λd=>d==6) (S3 2)=.box 2 0:=by rw[s2];rfl
  have qc:pG (λd=>d==6) (S3 5)=.box 5 0:=by rw[s5];rfl
  rw[Jd,qQ,ahM];simp[bB,bq,aF,ba,aD,ev,aP.S,aP.H,au,aW,aN,cb,Fv,qc,h2,h5,HR.okB,br,AV.cells,AV.storable,AV.aI,bC,AV.ct,bt,di,dQ,cd,iM,ht,lx,hl,e7,e8,e9];refine⟨zk,_,hf,by simp[cW],?_⟩;have hL:(List.filter p (List.take k lj)).length<=100000:=aeL (agB _ _) (by simp;omega);generalize List.filter p (List.take k lj)=L at hL h5⊢
  have bV:aG 2 (L.map (br out))=true:=by simp[aG,br,AV.storable,AV.cells]
  cases hp:p lj[k]with
  |false=>simp[eY,ub,h2,h5,hp,au]
  |true=>
   cases L with
   |nil=>simp[eY,ub,hp,aG,AV.storable,AV.cells,AV.vw,AV.cI,Jj,AV.aI,HR.okB,au,bC,AV.ct,br,qc,h2]
   |cons x L=>
    have nt:L.length+1+1<1048576:=by simp at hL;omega
    simp[eY,ub,hp,aG,AV.storable,AV.cells,AV.vw,AV.cI,Jj,AV.aI,HR.okB,au,bC,AV.ct,br,qc,nt,h2]
 .rintro D H' hD ⟨h2,h5⟩;show SW prog GI 19 none (.seq _ .ret) _ _ _ _
  have qc:pG (λd=>d==6) (S3 5)=.box 5 0:=by rw[s5];rfl
  have qQ:List.take (lj.map (br out)).length lj=lj:=adI ahB;rw[qQ]at h5;refine dT hG c140.qb.qb.qb.qa (λS' _=>S' 4=HS out (lj.filter p)) ?_ ?_
  .generalize lj.filter p=L at h5⊢
   cases L<;>simp[c140,af.qa,af.qb,bB,bq,aF,ba,aD,ev,aP.S,aP.H,au,aW,cd,qc,h5,HR.okB,aN,Jj,HS,AV.aI,bt]
  intro S4 H4 s4;refine SW.ret ⟨(eo.plain rfl).mark hD,rfl,_,?_,rfl⟩;show cH prog 19 [.tmp 4] S4 H4=_;simp[cH,db,c_,s4,HS,AV.b_,AV.out]
 .exact λ_ _ _ _ _ h=>h.elim
structure kM where
 l:Int
 r:Int
 lo:Int
 hi:Int
def dP(p:kM):AV:=.agg [.int .i64 p.l,.int .i64 p.r,.int .i64 p.lo,.int .i64 p.hi]
def uv(p:kM):AV:=.agg [.int .i64 p.l,.int .i64 p.r]
def pN(p:kM):AV:=.agg [.int .i64 p.lo,.int .i64 p.hi]
def cq(ps:List kM):AV:=.map (ps.map uv) (ps.map pN)
def Ent(es:Array MapEntry)(ps:List kM):Prop:=es.size=ps.length/\∀i (h:i<es.size)(h':i<ps.length),(es[i]).key=.agg #[.int .i64 (ps[i]).l,.int .i64 (ps[i]).r]/\(es[i]).val=.agg #[.int .i64 (ps[i]).lo,.int .i64 (ps[i]).hi]
def O_{Pr:Nat->Nat->Prop}{w:World}(x y:Int):RD Pr w (.agg [.int .i64 x,.int .i64 y]) (.agg #[.int .i64 x,.int .i64 y]):=by
 refine .agg _ _ rfl (λi hi=>?_) (λi hi du=>?_)
 .match i,hi with
  |0,_=>rfl
  |1,_=>rfl
 .match i,hi with
  |0,_=>exact .int _ _
  |1,_=>exact .int _ _
def Bd(x y:Int):∀(ps:List kM),(∀p∈ps,¬(p.l=x/\p.r=y))->oT [x,y] (ps.map uv) (ps.map pN)=some none
 |[],_=>rfl
 |p::ps,h=>by
  have hp:([x,y]==[p.l,p.r])=false:=by
   have:=h p adX;simp only[aeo,ne_eq,ae1,agd];rintro⟨rfl,rfl⟩;exact this ⟨rfl,rfl⟩
  show oT [x,y] (uv p::ps.map uv) (pN p::ps.map pN)=some none;unfold oT;simp only[uv,kC,Option.map_some];simp only[List.length_cons,List.length_nil,ne_eq,ae4,ad1,hp,adM]
  exact Bd x y ps λq hq=>h q (adO _ hq)
def oM(cc:Nat->Nat->Prop)(w:World)(b:Nat)(es:Array MapEntry)(clock:Nat):Old:={ Old.plain cc w with aU:=au (λ_=>none) b (some (.map es clock)) }
def LB(sA:List AV)(ps:List kM)(z:List AV)(b j:Nat)(S:an)(H:ao):Prop:=
 S 2=.box 2 0/\S 3=.box 3 0/\S 10=.slice .view (ps.map dP)/\S 11=.int .i64 ps.length/\S 12=.int .i64 (j:Nat)/\H 2=some z/\H 3=some (sA.map AV.aI++[.val (.map (some b))])
def Mu{Pr:Nat->Nat->Prop}{al:Nat->Option Nat}{w:World}{x y:Int}{c:Value}(h:RV Pr al w (.agg [.int .i64 x,.int .i64 y]) c):c=.agg #[.int .i64 x,.int .i64 y]:=by
 cases h with
 |data _ _ h=>
  cases h with
  |agg _ vs hl h1 hr=>
   congr 1
   apply afc
   .rw[<-hl];rfl
   .intro i hi du
    have sY:i<2:=by simpa using du
    match i,sY with
    |0,_=>exact(RV.data (al:=cQ) _ _ (hr 0 ahB hi)).int_eq
    |1,_=>exact(RV.data (al:=cQ) _ _ (hr 1 ahB hi)).int_eq
def Mx{b:Nat}{ks vs:List AV}{x:AV}(h:isVal x=false):rG b ks vs x.aI=x.aI:=by
 cases x<;>first|rfl|(cases h;done)|skip
 rename_i o es;cases o<;>rfl
def Nl{P:Program}{t kt el:TypeId}(h:(P.underlying t).map (λd=>match d with|.map k e=>some (k,e)|_=>none)=some (some (kt,el))):P.underlying t=some (.map kt el):=by
 cases hi:P.underlying t with
 |none=>rw[hi]at h;cases h
 |some d=>
  rw[hi]at h
  cases d<;>simp at h
  obtain⟨rfl,rfl⟩:=h;rfl
def CV:TypeDesc->Bool
 |.struct _=>true
 |_=>false
def E3{P:Program}{t:TypeId}(h:(P.underlying t).map CV=some true):∃fs,P.underlying t=some (.struct fs):=by
 cases hi:P.underlying t with
 |none=>rw[hi]at h;cases h
 |some d=>
  rw[hi]at h
  cases d<;>first|(cases h;done)|exact⟨_,rfl⟩
def uZ(t:TypeId)(h:(prog.underlying t).map CV=some true:=by kernel_rfl):∃fs,prog.underlying t=some (.struct fs):=E3 h
noncomputable def wh:af:=af.qb c139.qb.qb.qa.qb.qb.qb.qb
def YL (hG:ar GI) {sA:List AV} {ps:List kM} (hl:sA.length=10) (yb:sA[1]? = some (.slice .view (ps.map dP))) (eJ:∀ x∈sA,x.storable=true∧isVal x=false) (hlen:ps.length≤100000) (dO:∀ i j (hi:i < ps.length) (hj:j < ps.length),i < j→¬ ((ps[i]).l=(ps[j]).l∧(ps[i]).r=(ps[j]).r)) :
  AC prog GI 139 [.agg sA] (.ret (.agg ((sA++[cq ps]).map AV.cI))):=by
 refine AC.ji func139 rfl ntmps139 ahB λcc w=>?_
 refine dT hG c139.qa (λS' H'=>S' 1=.box 1 0/\S' 2=.box 2 0/\H' 1=some (sA.map AV.aI)/\∃z,H' 2=some z/\z.length=11) ?_ ?_
 .simp[c139,af.qa,bB,bq,aF,ba,aD,ev,aP.S,aP.H,au,aW,AL.start,AV.aI,AV.cells,AV.storable,hl,cb,bt,aN]
 rintro S1 H1 ⟨s1,s2,h1,z,h2,hz⟩
 refine SW.seq (SW.mid hG (p:=1) (oh:={ dst:=some 7,op := .makeMap 203 none,type:=203,pos := "letter.go:113",after := #[],guard:=none }) (jX:=[_]) (mw:=[_,_,_]) (l2:=[2,3,4]) rfl rfl rfl rfl zk rfl (λ_ h=>h) (mS:=(c139.qb.qa.dl).take 1) (mf:=(c139.qb.qa.dl).drop 2) zk zk zk zk
  (K1:=λS' H'=>S' 1=.box 1 0/\S' 2=.box 2 0/\S' 6=.agg (sA.map AV.aI)/\H' 1=some (sA.map AV.aI)/\H' 2=some z)
  (K2:=λo S' H'=>∃b,o=oM cc w b #[] 0/\S' 1=.box 1 0/\S' 2=.box 2 0/\S' 6=.agg (sA.map AV.aI)/\S' 7=.val (.map (some b))/\H' 1=some (sA.map AV.aI)/\H' 2=some z)
  (K3:=λo S' H'=>∃b,o=oM cc w b #[] 0/\S' 1=.box 1 0/\S' 2=.box 2 0/\S' 3=.box 3 0/\H' 1=some (sA.map AV.aI)/\H' 2=some z/\H' 3=some (sA.map AV.aI++[.val (.map (some b))])) ?_ ?_ ?_ ?_)
 .have ht:List.take 10 (sA.map AV.aI)=sA.map AV.aI:=adI (by simp;omega);simp[c139,af.qa,af.qb,af.dl,bq,aF,ba,aD,ev,aP.S,aP.H,au,aW,cd,s1,s2,h1,h2,HR.okB,hl,iM,ht]
 .rintro w0 g S2 H2 a w2 ho R ⟨s1,s2,s6,h1,h2⟩;have R2:=R.nF (.map #[] 0);refine⟨_,_,_,au S2 7 (.val (.map (some w2.heap.size))),H2,.inl (run_makeMap rfl),R2.put 7 (.val (.map (some w2.heap.size))) _ zd (.data _ _ (.val _ rfl)) trivial,w2.heap.size,?_,by simp[au,s1],by simp[au,s2],by simp[au,s6],by simp[au],h1,h2⟩;show({ g.old with aU:=au g.old.aU w2.heap.size (some (.map #[] 0)) }:Old)=_;rw[ho];rfl
 .rintro o S2 H2 ⟨b,rfl,s1,s2,s6,s7,h1,h2⟩;refine⟨λ_ h=>h,?_⟩
  have jC:∀x∈sA.map AV.aI,x.storable=true:=by
   intro x hx;obtain⟨y,hy,rfl⟩:=adZ.1 hx;rw[AV.xw];exact(eJ y hy).1
  have kV:∀c:AV,bC (bC [.slice .nil [],.slice .nil [],.int .i64 0,.int .i64 0,.int .i64 0,.int .i64 0,.int .i64 0,.slice .nil [],.int .i64 0,.int .i64 0,.map [] []] 0 (sA.map AV.aI)) 10 [c]=sA.map AV.aI++[c]:=by
   intro c
   have e1:bC [.slice .nil [],.slice .nil [],.int .i64 0,.int .i64 0,.int .i64 0,.int .i64 0,.int .i64 0,.slice .nil [],.int .i64 0,.int .i64 0,.map [] []] 0 (sA.map AV.aI)=sA.map AV.aI++[AV.map [] []]:=by
    simp[bC,hl]
   rw[e1];simp[bC,hl]
  have adi:∀c:AV,bC [.slice .nil [],.slice .nil [],.int .i64 0,.int .i64 0,.int .i64 0,.int .i64 0,.int .i64 0,.slice .nil [],.int .i64 0,.int .i64 0,.map [] []] 0 (sA.map AV.aI++[c])=sA.map AV.aI++[c]:=by
   intro c;simp[bC,hl]
  have uH:(bC [AV.slice .nil [],.slice .nil [],.int .i64 0,.int .i64 0,.int .i64 0,.int .i64 0,.int .i64 0,.slice .nil [],.int .i64 0,.int .i64 0,.map [] []] 0 (sA.map AV.aI)).length=11:=by simp[bC,hl]
  simp[c139,af.qa,af.qb,af.dl,bq,aF,ba,aD,ev,aP.S,aP.H,au,aW,bH,s6,s7,AV.cells,AV.aI,AV.storable,hl,uH,kV]
  have e3:(List.map AV.aI sA++[AV.val (Value.map (some b))]).map AV.aI=List.map AV.aI sA++[AV.val (Value.map (some b))]:=by simp[iM,AV.aI]
  simp[HR.okB,cb,bt,AV.ct,hl,iM,AV.aI,au,h1,h2,s1,s2];simp[bC,hl]
 .rintro o S2 H2 ⟨b,rfl,s1,s2,s3,h1,h2,h3⟩;show SW prog GI 27 none (.seq (.seq _ (.block 0 (.loop _))) (.seq _ .ret)) _ _ _ _;refine SW.seq (dT hG c139.qb.qb.qa.qa (λS' H'=>S' 2=.box 2 0/\S' 3=.box 3 0/\S' 10=.slice .view (ps.map dP)/\S' 11=.int .i64 ps.length/\S' 12=.int .i64 0/\H' 2=some z/\H' 3=some (sA.map AV.aI++[.val (.map (some b))])) ?_ ?_)
  .have E_:(sA.map AV.aI)[1]?=some (.slice .view (ps.map dP)):=by rw[ad9,yb];rfl
   simp[c139,af.qa,af.qb,bB,bq,aF,ba,aD,aN,ev,aP.S,aP.H,au,aW,cd,s1,s2,s3,h1,h2,h3,HR.okB,E_,AV.aI]
  rintro S3 H3 ⟨s2,s3,bJ,bG,cM,h2,h3⟩
  refine SW.block (SW.loop (λo S' H'=>∃j es clock,j<=ps.length/\o=oM cc w b es clock/\Ent es (ps.take j)/\S' 2=.box 2 0/\S' 3=.box 3 0/\S' 10=.slice .view (ps.map dP)/\S' 11=.int .i64 ps.length/\S' 12=.int .i64 (j:Nat)/\H' 2=some z/\H' 3=some (sA.map AV.aI++[.val (.map (some b))]))
   (λS' _=>match S' 12 with|.int _ j=>ps.length-j.toNat|_=>0) ⟨0,#[],0,aeu _,rfl,⟨ahB,λi h=>by simp at h⟩,s2,s3,bJ,bG,cM,h2,h3⟩ ?_)
  rintro o S4 H4 ⟨j,es,clock,hj,rfl,uz,s2,s3,bJ,bG,cM,h2,h3⟩;have m12:=cM;show SW prog GI 27 none (.seq _ (.seq (.cond _ _ _) (.seq (.block 1 (.seq _ _)) _))) _ _ _ _;refine dT hG c139.qb.qb.qa.qb.qb.qb.qa (λS' H'=>S' 13=.bool (decide (j<ps.length))/\LB sA ps z b j S' H') ?_ ?_
  .simp[c139,af.qa,af.qb,bB,bq,aF,ba,aD,aN,ev,aP.S,aP.H,au,aW,LB,s2,s3,bJ,bG,cM,h2,h3,dU]
  rintro S5 H5 ⟨dM,hF⟩
  by_cases aq:j<ps.length
  case neg=>
   refine SW.seq (SW.cond rfl false (by show S5 13=_;rw[dM];simp[aq]) (SW.exit ?_))
   have qP:j=ps.length:=zo
   subst qP;rw[aeW]at uz;obtain⟨s2,s3,bJ,bG,cM,h2,h3⟩:=hF;show SW prog GI 27 none (.seq _ .ret) _ _ _ _;refine dT hG c139.qb.qb.qb.qa (λS' H'=>S' 2=.box 2 0/\H' 2=some (sA.map AV.aI++[.val (.map (some b))])) ?_ ?_
   .have e3:(List.map AV.aI sA++[AV.val (Value.map (some b))]).map AV.aI=List.map AV.aI sA++[AV.val (Value.map (some b))]:=by simp[iM,AV.aI]
    have ht:List.take 11 (List.map AV.aI sA++[AV.val (Value.map (some b))])=List.map AV.aI sA++[AV.val (Value.map (some b))]:=adI (by simp[hl]);have OL:List.drop 11 z=[]:=aeU zo;simp[c139,af.qa,af.qb,bB,bq,aF,ba,aD,aN,ev,aP.S,aP.H,au,aW,s2,s3,h2,h3,cd,HR.okB,hl,AV.cells,AV.storable,AV.ct,bC,bt,iM,AV.aI,ht,hz,OL]
   rintro S6 H6 ⟨s2,h2⟩;refine SW.ghost (K:=λo S' H'=>eo o/\o.c=cc/\S' 2=.box 2 0/\H' 2=some (sA.map AV.aI++[cq ps])) ?_ ?_
   .intro w0 g a w' hg R
    have hk:g.old.aU b=some (.map es clock):=by rw[hg];show au (λ_=>none) b _ b=_;exact aO _ _ _
    obtain⟨g2,nQ,R2⟩:=R.To hk (ps.map uv) (ps.map pN) (by simpa using uz.1.symm) (by simpa using uz.1.symm) (λi h h'=>by
     simp only[adH]at h;simp only[adR,(uz.2 i h' h).1]
     exact O_ _ _) (λi h h'=>by
     simp only[adH]at h;simp only[adR,(uz.2 i h' h).2]
     exact O_ _ _) (by rw[hg];rfl)
    refine⟨g2,_,_,R2,eo.plain (by rw[nQ,hg];rfl),by rw[nQ,hg];rfl,by simp[s2],?_⟩
    have hgm:(sA.map AV.aI).map (rG b (ps.map uv) (ps.map pN))=sA.map AV.aI:=by
     rw[aeT]
     exact aez λx hx=>Mx (eJ x hx).2
    show(H6 2).map _=_;rw[h2];simp only[Option.map_some,ad6,hgm,adU,aee];simp[rG,cq]
   .rintro o S7 H7 ⟨hm,hc,s2,h2⟩;obtain⟨i103,Y7,YH⟩:=iZ 205 11;obtain⟨fs,fH⟩:=uZ 205;refine SW.ret ⟨hm,hc,_,?_,rfl⟩;show cH prog 27 [.cell 2 205] S7 H7=_;have ht:List.take 11 (sA.map AV.aI++[cq ps])=sA.map AV.aI++[cq ps]:=adI (by simp[hl]);have kV:(cq ps).aI=cq ps:=rfl;have PE:(cq ps).cI=cq ps:=rfl;simp[cH,db,c_,s2,h2,Y7,fH,YH,cd,eh,hl,AV.out,kV,PE,iM,pk];exact adI (by simp[hl])
  case pos=>
   refine SW.seq (SW.cond rfl true (by show S5 13=_;rw[dM];simp[aq]) (SW.skip ?_));show SW prog GI 27 none (.seq (.block 1 (.seq _ _)) _) _ _ _ _;obtain⟨s2,s3,bJ,bG,cM,h2,h3⟩:=hF;refine SW.seq (SW.block (dT hG c139.qb.qb.qa.qb.qb.qb.qb.qb.qa.qb.qa (λS' H'=>S' 5=.box 5 0/\H' 5=some (dP ps[j]).cells/\LB sA ps z b j S' H') ?_ ?_))
   .have cD:¬(j:Int)<0:=zo
    simp[c139,af.qa,af.qb,bB,bq,aF,ba,aD,aN,ev,aP.S,aP.H,au,aW,LB,s2,s3,bJ,bG,cM,h2,h3,aq,cd,dP,AV.cells,AV.aI,cb,HR.okB,AV.storable,bC,AV.ct,bt]
   rintro S6 H6 ⟨s5,h5,s2,s3,bJ,bG,cM,h2,h3⟩
   have Yf:∀q∈ps.take j,¬(q.l=ps[j].l/\q.r=ps[j].r):=by
    intro q hq;obtain⟨i,hi,rfl⟩:=aer hq
    have so:i<j:=by simp at hi;omega
    rw[afY];exact dO i j zo aq so
   refine SW.mid hG (p:=9) (oh:={ dst:=none,op := .mapUpdate 203 (.tmp 17) (.tmp 22) (.tmp 24),type:=0,pos := "letter.go:115",after:=_,guard:=none }) (jX:=[_,_,_,_,_,_,_,_,_]) (mw:=[]) (l2:=[]) rfl rfl rfl rfl zk rfl (λ_ h=>h) (mS:=(wh.qa.qb.qb.dl).take 9) (mf:=[]) zk rfl zk rfl
    (K1:=λS' H'=>S' 17=.val (.map (some b))/\S' 22=.agg [.int .i64 ps[j].l,.int .i64 ps[j].r]/\S' 24=.agg [.int .i64 ps[j].lo,.int .i64 ps[j].hi]/\LB sA ps z b j S' H')
    (K2:=λo S' H'=>o=oM cc w b (es.push { key:=.agg #[.int .i64 ps[j].l,.int .i64 ps[j].r],val:=.agg #[.int .i64 ps[j].lo,.int .i64 ps[j].hi],born:=clock }) (clock+1)/\LB sA ps z b j S' H')
    (K3:=λo S' H'=>o=oM cc w b (es.push { key:=.agg #[.int .i64 ps[j].l,.int .i64 ps[j].r],val:=.agg #[.int .i64 ps[j].lo,.int .i64 ps[j].hi],born:=clock }) (clock+1)/\LB sA ps z b j S' H') ?_ ?_ ?_ ?_
   .have abn:(List.map AV.aI sA++[AV.val (Value.map (some b))])[10]? = some (.val (.map (some b))):=by
     rw[aeS (by simp[hl])];simp[hl]
    have abN:List.drop 10 (List.map AV.aI sA++[AV.val (Value.map (some b))])=[AV.val (Value.map (some b))]:=by
     rw[afw (by simp[hl]),aeU (by simp[hl])];rfl
    simp[c139,wh,af.qa,af.qb,af.dl,bq,aF,ba,aD,ev,aP.S,aP.H,au,aW,LB,s2,s3,s5,bJ,bG,cM,h2,h3,h5,cd,dP,AV.cells,AV.aI,HR.okB,AV.storable,bH,bC,abn,abN]
   .rintro w0 g S7 H7 a w7 hg R ⟨kY,kh,rM,hF⟩;have t17:=R.slot 17 zd (λh=>h);rw[kY]at t17;have t17:=t17.iA;have t22:=R.slot 22 zd (λh=>h);rw[kh]at t22;have t22:=Mu t22;have t24:=R.slot 24 zd (λh=>h);rw[rM]at t24;have t24:=Mu t24
    have hk:g.old.aU b=some (.map es clock):=by rw[hg];show au (λ_=>none) b _ b=_;exact aO _ _ _
    have hb:=(R.kept b _ hk).2.1;have fB:=Nl (P:=prog) (t:=203) (kt:=226) (el:=26) zk;obtain⟨fs,fH⟩:=uZ 226;have Ax:(ps.take j).length=es.size:=uz.1.symm;refine⟨undef,_,_,S7,H7,.inr ⟨Ma (Pr:=λ_ _=>False) (ks:=(ps.take j).map uv) (vs:=(ps.take j).map pN) (key:=[ps[j].l,ps[j].r]) rfl fB fH (k:=2) zk t17 t22 t24 hb rfl (by simpa using Ax) (by simpa using Ax) (λi h h'=>?_) (λi h h'=>?_) (Bd _ _ _ Yf),rfl⟩,R.mQ hk _,?_,hF⟩
    .simp only[adH]at h;simp only[adR,(uz.2 i h' h).1];exact O_ _ _
    .simp only[adH]at h;simp only[adR,(uz.2 i h' h).2];exact O_ _ _
    .show({ g.old with aU:=au g.old.aU b _ }:Old)=_;rw[hg];simp only[oM,Old.mk.injEq,aha,agd]
     funext c
     by_cases hc:c=b
     .subst hc;simp[au,gu]
     .simp[au,hc]
   .rintro o S7 H7 h;exact⟨by rw[h.1];exact λ_ h=>h,h⟩
   .rintro o S7 H7 ⟨rfl,s2,s3,bJ,bG,cM,h2,h3⟩;show SW prog GI 27 none _ _ _ _ _;refine SW.fP hG de zk (λ_ _ h=>h) (ac:=af.qb wh) zk ?_;have pZ:IntKind.i64.wrap ((j:Int)+1)=j+1:=aQ zo
    have Zy:Ent (es.push { key:=.agg #[.int .i64 ps[j].l,.int .i64 ps[j].r],val:=.agg #[.int .i64 ps[j].lo,.int .i64 ps[j].hi],born:=clock }) (ps.take (j+1)):=by
     have hts:ps.take (j+1)=ps.take j++[ps[j]]:=by rw[adJ aq]
     rw[hts];refine⟨by simp[uz.1];omega,λi h h'=>?_⟩
     by_cases hi:i<es.size
     .have sY:i<(ps.take j).length:=by rw[<-uz.1];exact hi
      have:=uz.2 i hi sY;rw[Array.getElem_push_lt hi,ad5 sY];exact this
     .have IK:i=es.size:=by simp at h;omega
      subst IK
      have sY:(ps.take j).length<=es.size:=by rw[<-uz.1];exact adF _
      rw[Array.getElem_push_eq,aec sY];simp
    simp[c139,wh,af.qa,af.qb,bB,bq,aF,ba,aD,ev,aP.S,aP.H,au,aW,s2,s3,bJ,bG,cM,h2,h3,dU,AV.aI,pZ,fa.bB,thenS];refine⟨⟨j+1,aq,_,⟨_,rfl⟩,Zy,zo⟩,?_⟩;rw[m12];show ps.length-(j+1)<ps.length-(j:Int).toNat;rw[Int.toNat_natCast];omega
structure Word where
 aV:List Int
 bZ:List Int
 free:Bool
def cG(w:Word):AV:=.agg [vI w.aV,vI w.bZ,.bool w.free]
structure abv where
 Wp:List AV
 cut:Bool
def IS(l:abv):AV:=.agg [.slice .view l.Wp,.bool l.cut]
def ML(GI:World->Prop):Prop:=∀w,GI w->∃m,w.cell? ⟨1,0,none⟩=some (.int .i64 m)
def np{w0:World}{n:Nat}{g:Gh}{S:an}{H:ao}{a:Act}{w:World}(R:Rel prog w0 n bP g S H a w){t i:Nat}(ht:t<n)(hs:S t=.box i 0):∃b,g.al i=some b/\a.tmps.getD t undef=.pointer (some ⟨b,0,none⟩):=by
 have h:=R.slot t ht id;rw[hs]at h;generalize a.tmps.getD t undef=c at h
 cases h with
 |data _ _ h=>cases h
 |box _ _ b h=>exact⟨b,h,rfl⟩
def vT{w0:World}{n:Nat}{g:Gh}{S:an}{H:ao}{a:Act}{w:World}(R:Rel prog w0 n bP g S H a w){t:Nat}{k:Int}(ht:t<n)(hs:S t=.int .i64 k):a.tmps.getD t undef=.int .i64 k:=by
 have h:=R.slot t ht id;rw[hs]at h;exact h.int_eq
def YU{Pr:Nat->Nat->Prop}{al:Nat->Option Nat}{w:World}{x y:Int}{c:Value}(h:RV Pr al w (.agg [.int .i64 x,.int .i64 y]) c):c=.agg #[.int .i64 x,.int .i64 y]:=by
 cases h with
 |data _ _ h=>
  cases h with
  |agg cs vs hl oB hr=>
   have hs:vs.size=2:=by rw[<-hl];rfl
   have h0:=(RV.data (al:=cQ) _ _ (hr 0 ahB zo)).int_eq;have h1:=(RV.data (al:=cQ) _ _ (hr 1 ahB zo)).int_eq
   congr 1
   apply afc
   .simpa using hs
   .intro i h2 h3
    match i,h3 with
    |0,_=>exact h0
    |1,_=>exact h1
end Go.Proofs.Tryz
namespace Go.AL
def aZ(c:UInt8):List UInt8->List (List UInt8)
 |[]=>[[]]
 |b::l=>if b=c then[]::aZ c l else match aZ c l with
  |[]=>[[b]]
  |p::ps=>(b::p)::ps
def tC(c:UInt8)(l:List UInt8):aZ c l≠[]:=by
 cases l with
 |nil=>simp[aZ]
 |cons b l=>
  unfold aZ;split
  .simp
  .split<;>simp
def HJ{b c:UInt8}(h:b≠c)(k:Nat)(l:List UInt8):Lib.splitK [c] 0 k (b::l)=match Lib.splitK [c] 0 k l with|[]=>[[b]]|p::ps=>(b::p)::ps:=by
 cases k with
 |zero=>rfl
 |succ k=>
  have hp:[c].isPrefixOf (b::l)=false:=by simp[List.isPrefixOf];exact λe=>(h e.symm).elim
  unfold Lib.splitK
  have hi:Lib.index (b::l) [c]=if Lib.index l [c]== -1 then-1 else Lib.index l [c]+1:=by
   rw[Lib.index];simp[hp]
  rw[hi];have hg:=Lib.index_ge l [c]
  by_cases h1:Lib.index l [c]= -1
  .simp[h1]
  .have h2:(Lib.index l [c]== -1)=false:=by simpa using h1
   have h3:(Lib.index l [c]+1== -1)=false:=by simp;omega
   simp only[h2,adM,ad1,h3]
   have e:(Lib.index l [c]+1).toNat=(Lib.index l [c]).toNat+1:=zo
   rw[e];simp[Nat.add_right_comm]
def AZ(c:UInt8):∀l:List UInt8,Lib.splitK [c] 0 (l.count c) l=aZ c l
 |[]=>rfl
 |b::l=>by
  by_cases h:b=c
  .subst h
   have hp:[b].isPrefixOf (b::l)=true:=by simp[List.isPrefixOf]
   have hi:Lib.index (b::l) [b]=0:=by rw[Lib.index];simp[hp]
   rw[List.count_cons_self,Lib.splitK,hi];simp[aZ,AZ b l]
  .rw[List.count_cons_of_ne h,HJ h,AZ c l,aZ,if_neg h]
def J5{α:Type}(d:AV->Option α):List AV->Option (List α)
 |[]=>some []
 |x::l=>match d x with
  |some a=>match J5 d l with
   |some r=>some (a::r)
   |none=>none
  |none=>none
def acM:AV->Option Int
 |.int .i64 n=>some n
 |_=>none
def VL:AV->Option (List Int)
 |.slice .view es=>J5 acM es
 |_=>none
section
variable{P:Program}{GI:World->Prop}
def kO(P:Program)(GI:World->Prop)(rest:List bI)(K:an->ao->Prop)(Qp:AV->Prop)(S:an)(dst:Option Nat)(H:ao)(v:AV):Prop:=bq P GI rest K Qp (aW S dst v) H
def kD(P:Program)(GI:World->Prop)(rest:List bI)(K:an->ao->Prop)(S:an)(dst:Option Nat)(H:ao)(v:AV):Prop:=cV P GI rest K (aW S dst v) H
def iC(P:Program)(GI:World->Prop)(y:af)(Q:dV->an->ao->Prop)(e:dV)(S:an)(H:ao):Prop:=di (bB P GI y Q) Q e S H
def jw(Q:dV->an->ao->Prop)(S:an)(H:ao)(v:AV):Prop:=Q (.panic v) S H
def eM(K Qp S H):bq P GI [] K Qp S H=K S H:=(Eq.refl _).trans (Eq.refl _)
def ea(K S H):cV P GI [] K S H=K S H:=(Eq.refl _).trans (Eq.refl _)
def eb (f args d g rest K Qp S H):bq P GI (⟨d,g,.call f args⟩::rest) K Qp S H=(match aF S g with
  |some true=>lx P GI f (args.map λy=>fz H (ev S y)) (args.any λy=>cW (ev S y)) (kO P GI rest K Qp S d H) Qp
  |some false=>bq P GI rest K Qp (aW S d cy) H
  |none=>False):=(Eq.refl _).trans (Eq.refl _)
def dG (f args d g rest K Qp S H):bq P GI (⟨d,g,.gy f args⟩::rest) K Qp S H=(match aF S g with
  |some true=>(match ev S f with
   |.func (.func k) first cap=>lx P GI k ((first++args.map (ev S)++cap).map (fz H)) ((first++args.map (ev S)++cap).any cW) (kO P GI rest K Qp S d H) Qp
   |_=>False)
  |some false=>bq P GI rest K Qp (aW S d cy) H
  |none=>False):=(Eq.refl _).trans (Eq.refl _)
abbrev OE(P:Program)(GI:World->Prop)(op:eG):Prop:=∀d g rest K Qp S H,bq P GI (⟨d,g,op⟩::rest) K Qp S H=(match aF S g with|some true=>(match aD S H op with|some e=>bq P GI rest K Qp (e.S S d) (e.H H)|none=>False)|some false=>bq P GI rest K Qp (aW S d cy) H|none=>False)
abbrev DE(P:Program)(GI:World->Prop)(op:eG):Prop:=∀d g rest K S H,cV P GI (⟨d,g,op⟩::rest) K S H=(match aF S g with|some true=>(match aD S H op with|some e=>cV P GI rest K (e.S S d) (e.H H)|none=>False)|some false=>cV P GI rest K (aW S d cy) H|none=>False)
def dH(t zero d rest K Qp S H):bq P GI (⟨some d,none,.alloc t zero⟩::rest) K Qp S H=bq P GI rest K Qp (au (λt=>cb d (S t)) d (.box d 0)) (au H d (some zero)):=(Eq.refl _).trans (Eq.refl _)
def eU(t size x d rest K Qp S H):bq P GI (⟨some d,none,.box t size x⟩::rest) K Qp S H=((ev S x).cells.length=size/\(ev S x).storable=true/\bq P GI rest K Qp (au (λt=>cb d (S t)) d (.box d 0)) (au H d (some ((ev S x).cells.map AV.aI)))):=(Eq.refl _).trans (Eq.refl _)
def dI (f args d g rest K S H):cV P GI (⟨d,g,.call f args⟩::rest) K S H=(match aF S g with
  |some true=>(args.any λy=>cW (ev S y))=false/\lx P GI f (args.map λy=>fz H (ev S y)) (args.any λy=>cW (ev S y)) (kD P GI rest K S d H) (λ_=>False)
  |some false=>cV P GI rest K (aW S d cy) H
  |none=>False):=(Eq.refl _).trans (Eq.refl _)
def da(t zero d rest K S H):cV P GI (⟨some d,none,.alloc t zero⟩::rest) K S H=cV P GI rest K (au S d (.box d 0)) H:=(Eq.refl _).trans (Eq.refl _)
def gZ(rest K Qp S d H v):kO P GI rest K Qp S d H v=bq P GI rest K Qp (aW S d v) H:=(Eq.refl _).trans (Eq.refl _)
def g_(rest K S d H v):kD P GI rest K S d H v=cV P GI rest K (aW S d v) H:=(Eq.refl _).trans (Eq.refl _)
def fo :
  (∀x0 x1,OE P GI (.mv x0 x1))/\
  (∀x0 x1 x2,OE P GI (.pick x0 x1 x2))/\
  (∀x0 x1,OE P GI (.build x0 x1))/\
  (∀x0 x1 x2 x3,OE P GI (.buildSlice x0 x1 x2 x3))/\
  (∀x0 x1 x2 x3,OE P GI (.load x0 x1 x2 x3))/\
  (∀x0 x1,OE P GI (.loadT x0 x1))/\
  (∀x0 x1 x2 x3,OE P GI (.store x0 x1 x2 x3))/\
  (∀x0 x1 x2,OE P GI (.bin x0 x1 x2))/\
  (∀x0 x1 x2,OE P GI (.EA x0 x1 x2))/\
  (∀x0 x1 x2 x3,OE P GI (.eqs x0 x1 x2 x3))/\
  (∀x0 x1 x2 x3 x4,OE P GI (.mN x0 x1 x2 x3 x4))/\
  (∀x0,OE P GI (.zm x0))/\
  (∀x0,OE P GI (.oV x0))/\
  (∀x0 x1 x2,OE P GI (.oZ x0 x1 x2))/\
  (∀x0 x1 x2 x3,OE P GI (.lookup x0 x1 x2 x3))/\
  (∀x0,OE P GI (.not x0))/\
  (∀x0 x1,OE P GI (.conv x0 x1))/\
  (∀x0 x1,OE P GI (.iface x0 x1))/\
  (∀x0 x1 x2,OE P GI (.Fa x0 x1 x2))/\
  (∀x0 x1 x2,OE P GI (.oX x0 x1 x2))/\
  (∀x0 x1 x2 x3,OE P GI (.od x0 x1 x2 x3))/\
  (∀x0 x1,OE P GI (.p8 x0 x1))/\
  (∀x0 x1,OE P GI (.fieldAddr x0 x1))/\
  (∀x0 x1 x2,OE P GI (.indexAddr x0 x1 x2))/\
  (∀x0 x1,OE P GI (.oU x0 x1))/\
  (∀x0 x1,OE P GI (.extract x0 x1))/\
  (∀x0,OE P GI (.zI x0))/\
  (∀x0,OE P GI (.kN x0))/\
  (∀x0 x1,OE P GI (.isNil x0 x1))/\
  (∀x0,OE P GI (.empty x0))/\
  (∀x0 x1 x2 x3 x4 x5,OE P GI (.append x0 x1 x2 x3 x4 x5))/\
  (∀x0 x1,OE P GI (.max x0 x1))/\
  (∀x0 x1,OE P GI (.min x0 x1))/\
  (∀x0 x1 x2,OE P GI (.assert x0 x1 x2)):=by
 refine⟨?_,?_,?_,?_,?_,?_,?_,?_,?_,?_,?_,?_,?_,?_,?_,?_,?_,?_,?_,?_,?_,?_,?_,?_,?_,?_,?_,?_,?_,?_,?_,?_,?_,?_⟩<;>intros<;>intro d<;>intros<;>rfl
def eN :
  (∀x0 x1,DE P GI (.mv x0 x1))/\
  (∀x0 x1 x2,DE P GI (.pick x0 x1 x2))/\
  (∀x0 x1,DE P GI (.build x0 x1))/\
  (∀x0 x1 x2 x3,DE P GI (.buildSlice x0 x1 x2 x3))/\
  (∀x0 x1 x2 x3,DE P GI (.load x0 x1 x2 x3))/\
  (∀x0 x1,DE P GI (.loadT x0 x1))/\
  (∀x0 x1 x2 x3,DE P GI (.store x0 x1 x2 x3))/\
  (∀x0 x1 x2,DE P GI (.bin x0 x1 x2))/\
  (∀x0 x1 x2,DE P GI (.EA x0 x1 x2))/\
  (∀x0 x1 x2 x3,DE P GI (.eqs x0 x1 x2 x3))/\
  (∀x0 x1 x2 x3 x4,DE P GI (.mN x0 x1 x2 x3 x4))/\
  (∀x0,DE P GI (.zm x0))/\
  (∀x0,DE P GI (.oV x0))/\
  (∀x0 x1 x2,DE P GI (.oZ x0 x1 x2))/\
  (∀x0 x1 x2 x3,DE P GI (.lookup x0 x1 x2 x3))/\
  (∀x0,DE P GI (.not x0))/\
  (∀x0 x1,DE P GI (.conv x0 x1))/\
  (∀x0 x1,DE P GI (.iface x0 x1))/\
  (∀x0 x1 x2,DE P GI (.Fa x0 x1 x2))/\
  (∀x0 x1 x2,DE P GI (.oX x0 x1 x2))/\
  (∀x0 x1 x2 x3,DE P GI (.od x0 x1 x2 x3))/\
  (∀x0 x1,DE P GI (.p8 x0 x1))/\
  (∀x0 x1,DE P GI (.fieldAddr x0 x1))/\
  (∀x0 x1 x2,DE P GI (.indexAddr x0 x1 x2))/\
  (∀x0 x1,DE P GI (.oU x0 x1))/\
  (∀x0 x1,DE P GI (.extract x0 x1))/\
  (∀x0,DE P GI (.zI x0))/\
  (∀x0,DE P GI (.kN x0))/\
  (∀x0 x1,DE P GI (.isNil x0 x1))/\
  (∀x0,DE P GI (.empty x0))/\
  (∀x0 x1 x2 x3 x4 x5,DE P GI (.append x0 x1 x2 x3 x4 x5))/\
  (∀x0 x1,DE P GI (.max x0 x1))/\
  (∀x0 x1,DE P GI (.min x0 x1))/\
  (∀x0 x1 x2,DE P GI (.assert x0 x1 x2)):=by
 refine⟨?_,?_,?_,?_,?_,?_,?_,?_,?_,?_,?_,?_,?_,?_,?_,?_,?_,?_,?_,?_,?_,?_,?_,?_,?_,?_,?_,?_,?_,?_,?_,?_,?_,?_⟩<;>intros<;>intro d<;>intros<;>rfl
def ez :
  (∀Q S H,bB P GI .skip Q S H=Q .normal S H)/\
  (∀l Q S H,bB P GI (.ops l) Q S H=bq P GI l (Q .normal) (jw Q S H) S H)/\
  (∀l Q S H,bB P GI (.cV l) Q S H=cV P GI l (Q .normal) (eP l S) (dW l H))/\
  (∀x y Q S H,bB P GI (.seq x y) Q S H=bB P GI x (iC P GI y Q) S H)/\
  (∀c x y Q S H,bB P GI (.cond c x y) Q S H=(match ev S c with
   |.bool true=>bB P GI x Q S H
   |.bool false=>bB P GI y Q S H
   |.l7=>bB P GI x Q S H/\bB P GI y Q S H
   |_=>False))/\
  (∀id c Q S H,bB P GI (.block id c) Q S H=bB P GI c (dQ id Q) S H)/\
  (∀id Q S H,bB P GI (.exit id) Q S H=Q (.exit id) S H)/\
  (∀Q S H,bB P GI .ret Q S H=Q .ret S H)/\
  (∀y Q S H,iC P GI y Q .normal S H=bB P GI y Q S H)/\
  (∀y Q id S H,iC P GI y Q (.exit id) S H=Q (.exit id) S H)/\
  (∀y Q S H,iC P GI y Q .ret S H=Q .ret S H)/\
  (∀y Q v S H,iC P GI y Q (.panic v) S H=Q (.panic v) S H):=by
 refine⟨?_,?_,?_,?_,?_,?_,?_,?_,?_,?_,?_,?_⟩<;>intros<;>rfl
def fF :
  (∀id Q S H,dQ id Q .normal S H=Q .normal S H)/\
  (∀id j Q S H,dQ id Q (.exit j) S H=if j=id then Q .normal S H else Q (.exit j) S H)/\
  (∀id Q S H,dQ id Q .ret S H=Q .ret S H)/\
  (∀id Q v S H,dQ id Q (.panic v) S H=Q (.panic v) S H)/\
  (∀K Q S H,di K Q .normal S H=K S H)/\
  (∀K Q id S H,di K Q (.exit id) S H=Q (.exit id) S H)/\
  (∀K Q S H,di K Q .ret S H=Q .ret S H)/\
  (∀K Q v S H,di K Q (.panic v) S H=Q (.panic v) S H)/\
  (∀K S H,aN K .normal S H=K S H)/\
  (∀K id S H,aN K (.exit id) S H=False)/\
  (∀K S H,aN K .ret S H=False)/\
  (∀K v S H,aN K (.panic v) S H=False)/\
  (∀Q S H v,jw Q S H v=Q (.panic v) S H)/\
  (∀v K Qp,eY (.ret v) K Qp=K v)/\
  (∀v K Qp,eY (.panic v) K Qp=Qp v):=by
 refine⟨?_,?_,?_,?_,?_,?_,?_,?_,?_,?_,?_,?_,?_,?_,?_⟩<;>intros<;>rfl
end
section
variable{P:Program}{GI:World->Prop}
def Bq{f:Nat}{args:List AV}{b:Bool}{K K':AV->Prop}{Qp K9:AV->Prop}(hK:∀v,K v->K' v)(hQ:∀v,Qp v->K9 v)(h:lx P GI f args b K Qp):lx P GI f args b K' K9:=by
 obtain⟨out,h1,h2,h3,h4⟩:=h;refine⟨out,h1,h2,h3,?_⟩
 cases out with
 |ret v=>exact hK _ h4
 |panic v=>exact hQ _ h4
def ph{op:eG}{dst:Option Nat}{K K':an->ao->Prop}{Qp K9:AV->Prop}(hK:∀S H,K S H->K' S H)(hQ:∀v,Qp v->K9 v){S:an}{H:ao}(h:ba P GI op dst K Qp S H):ba P GI op dst K' K9 S H:=by
 by_cases hc:op.calm=true
 .rw[Bu hc]at h⊢;split at h
  .exact hK _ _ h
  .exact h
 .cases op<;>first|(exfalso;exact hc rfl)|skip
  case alloc=>simp only[ba]at h⊢;split at h<;>first|exact hK _ _ h|exact h
  case box=>simp only[ba]at h⊢;split at h<;>first|exact⟨h.1,h.2.1,hK _ _ h.2.2⟩|exact h
  case call=>exact Bq (λv=>hK _ _) hQ h
  case gy=>simp only[ba]at h⊢;split at h<;>first|exact Bq (λv=>hK _ _) hQ h|exact h
  case panic=>simp only[ba]at h⊢;split at h<;>first|exact hQ _ h|exact h
  case other=>exact h
def tD{K K':an->ao->Prop}{Qp K9:AV->Prop}(hK:∀S H,K S H->K' S H)(hQ:∀v,Qp v->K9 v):∀(l:List bI)(S:an)(H:ao),bq P GI l K Qp S H->bq P GI l K' K9 S H
 |[],S,H,h=>hK S H h
 |o::rest,S,H,h=>by
  simp only[bq]at h⊢;split at h
  .exact ph (λS H=>tD hK hQ rest S H) hQ h
  .exact tD hK hQ rest _ _ h
  .exact h
def JG{op:eG}{dst:Option Nat}{K K':an->ao->Prop}(hK:∀S H,K S H->K' S H){S:an}{H:ao}(h:jB P GI op dst K S H):jB P GI op dst K' S H:=by
 cases op
 case alloc=>simp only[jB]at h⊢;split at h<;>first|exact hK _ _ h|exact h
 case call=>exact⟨h.1,ph hK (λ_ h=>h) h.2⟩
 case gy=>exact⟨h.1,ph hK (λ_ h=>h) h.2⟩
 case box=>exact h.elim
 case panic=>exact h.elim
 case other=>exact h.elim
 all_goals
  simp only[jB]at h⊢;exact ph hK (λ_ h=>h) h
def qz{K K':an->ao->Prop}(hK:∀S H,K S H->K' S H):∀(l:List bI)(S:an)(H:ao),cV P GI l K S H->cV P GI l K' S H
 |[],S,H,h=>hK S H h
 |o::rest,S,H,h=>by
  simp only[cV]at h⊢;split at h
  .exact JG (λS H=>qz hK rest S H) h
  .exact qz hK rest _ _ h
  .exact h
def pt{K K':an->ao->Prop}{Q Q':dV->an->ao->Prop}(hK:∀S H,K S H->K' S H)(h:∀e S H,Q e S H->Q' e S H)(e:dV)(S:an)(H:ao)(hq:di K Q e S H):di K' Q' e S H:=by
 cases e with
 |normal=>exact hK S H hq
 |exit id=>exact h _ S H hq
 |ret=>exact h _ S H hq
 |panic v=>exact h _ S H hq
def gL:∀(c:af){Q Q':dV->an->ao->Prop}(_:∀e S H,Q e S H->Q' e S H){S:an}{H:ao},bB P GI c Q S H->bB P GI c Q' S H
 |.skip,_,_,h,_,_,hq=>h _ _ _ hq
 |.ops l,_,_,h,_,_,hq=>tD (λS H=>h _ S H) (λv=>h _ _ _) l _ _ hq
 |.cV l,_,_,h,_,_,hq=>qz (λS H=>h _ S H) l _ _ hq
 |.seq x y,_,_,h,_,_,hq=>gL x (pt (λ_ _=>gL y h) h) hq
 |.cond c x y,_,_,h,S,H,hq=>by
  simp only[bB]at hq⊢;split at hq
  .exact gL x h hq
  .exact gL y h hq
  .exact⟨gL x h hq.1,gL y h hq.2⟩
  .exact hq
 |.block id c,Q,Q',h,_,_,hq=>gL c (fun e S H hb=>by
   cases e with
   |normal=>exact h _ S H hb
   |exit j=>
    by_cases hj:j=id
    .simp only[dQ,if_pos hj]at hb⊢;exact h _ S H hb
    .simp only[dQ,if_neg hj]at hb⊢;exact h _ S H hb
   |ret=>exact h _ S H hb
   |panic v=>exact h _ S H hb) hq
 |.loop c,_,_,h,_,_,⟨I,μ,h0,hi⟩=>⟨I,μ,h0,λS H hI=>gL c (pt (λ_ _ h=>h) h) (hi S H hI)⟩
 |.exit id,_,_,h,_,_,hq=>h _ _ _ hq
 |.ret,_,_,h,_,_,hq=>h _ _ _ hq
 |.bad,_,_,_,_,_,hq=>hq
def aK{x y:af}{Q:dV->an->ao->Prop}{S:an}{H:ao}(K:an->ao->Prop)(hx:bB P GI x (aN K) S H)(hy:∀S' H',K S' H'->bB P GI y Q S' H'):bB P GI (.seq x y) Q S H:=by
 refine gL x (λe S H h=>?_) hx
 cases e with
 |normal=>exact hy S H h
 |exit id=>exact h.elim
 |ret=>exact h.elim
 |panic v=>exact h.elim
def Iu{c:cT}{y z:af}{Q:dV->an->ao->Prop}{S:an}{H:ao}(h:ev S c=.bool true)(hy:bB P GI y Q S H):bB P GI (.seq (.cond c .skip z) y) Q S H:=by
 simp only[bB,h];exact hy
def UY{c:cT}{y z:af}{Q:dV->an->ao->Prop}{S:an}{H:ao}(h:ev S c=.bool false)(hy:bB P GI y Q S H):bB P GI (.seq (.cond c z .skip) y) Q S H:=by
 simp only[bB,h];exact hy
def IP{id:Nat}{c y:af}{Q:dV->an->ao->Prop}{S:an}{H:ao}(h:bB P GI c (dQ id (iC P GI y Q)) S H):bB P GI (.seq (.block id c) y) Q S H:=h
def wx{x y z:af}{Q:dV->an->ao->Prop}{S:an}{H:ao}(K:an->ao->Prop)(hx:bB P GI x (aN K) S H)(hy:∀S' H',K S' H'->bB P GI (.seq y z) Q S' H'):bB P GI (.seq (.seq x y) z) Q S H:=by
 refine gL x (λe S H h=>?_) hx
 cases e with
 |normal=>
  refine gL y (λe S H h=>?_) (hy S H h)
  cases e<;>exact h
 |exit id=>exact h.elim
 |ret=>exact h.elim
 |panic v=>exact h.elim
def bz {c:af} {Q:dV→an→ao→Prop} {S:an} {H:ao} (t n:Nat) (I:Nat→an→ao→Prop) (Tb:∀ i S H,I i S H→S t = .int .i64 (i:Nat)) (h0:I 0 S H)
  (hs:∀i,i<=n->∀S H,I i S H->bB P GI c (di (λS' H'=>i<n/\I (i+1) S' H') Q) S H):bB P GI (.loop c) Q S H:=by
 refine⟨λS H=>∃i,i<=n/\I i S H,λS _=>match S t with|.int _ k=>n-k.toNat|_=>0,⟨0,aeu _,h0⟩,?_⟩;rintro S H ⟨i,hi,hI⟩;refine gL c (pt (λS' H' h=>?_) (λ_ _ _ h=>h)) (hs i hi S H hI);refine⟨⟨i+1,h.1,h.2⟩,?_⟩;have e1:=Tb _ _ _ hI;have e2:=Tb _ _ _ h.2;simp only[e1,e2,Int.toNat_natCast];have:=h.1;omega
end
def firstT{α:Type}(p:α->Bool)(l:List α):Int:=if l.any p then(l.findIdx p:Nat)else-1
def lQ {α:Type} {p:α→Bool} {l:List α} {i:Nat} (hi:i < l.length) (hp:p l[i]=true) (hb:∀ j (hj:j < l.length),j < i→p l[j]=false):firstT p l=(i:Nat):=by
  unfold firstT;rw[if_pos (ae8.2 ⟨l[i],adC hi,hp⟩),(List.findIdx_eq hi).2 ⟨hp,λj fK=>hb j zo fK⟩]
def kF {α:Type} {p:α→Bool} {l:List α} (hb:∀ j (hj:j < l.length),p l[j]=false):firstT p l = -1:=by
  unfold firstT;rw[if_neg];intro h;obtain⟨x,hx,hp⟩:=ae8.1 h;obtain⟨j,hj,rfl⟩:=aer hx;rw[hb j hj]at hp;cases hp
def ng {α:Type} {p:α→Bool} {l:List α}:decide (0≤firstT p l)=l.any p:=by
  unfold firstT
  cases h:l.any p<;>simp
def nA{α:Type}(p:α->Bool)(lt:α->α->Bool)(l:List α):Bool:=l.all p&&(List.range (l.length-1)).all λi=>match l[i]?,l[i+1]? with|some a,some b=>lt a b|_,_=>true
def ry{α:Type}{p:α->Bool}{lt:α->α->Bool}{l:List α}{i:Nat}(hi:i<l.length)(hp:p l[i]=false):nA p lt l=false:=by
 unfold nA;rw[agC];exact .inl (ag4.2 ⟨_,adC hi,by simp[hp]⟩)
def qm{α:Type}{p:α->Bool}{lt:α->α->Bool}{l:List α}{i:Nat}(hi:i+1<l.length)(hp:lt (l[i]' zo) l[i+1]=false):nA p lt l=false:=by
 unfold nA;rw[agC];refine .inr (ag4.2 ⟨i,aeb.2 zo,?_⟩);simp[hi,show i<l.length by omega,hp]
def tz{α:Type}{p:α->Bool}{lt:α->α->Bool}{l:List α}(h1:∀j (hj:j<l.length),p l[j]=true)(h2:∀j (hj:j+1<l.length),lt (l[j]' zo) l[j+1]=true):nA p lt l=true:=by
 unfold nA;rw[adE]
 constructor
 .rw[adQ];intro x hx;obtain⟨j,hj,rfl⟩:=aer hx;exact h1 j hj
 .rw[adQ];intro j hj;rw[aeb]at hj;simp[show j<l.length by omega,show j+1<l.length by omega,h2 j zo]
def yQ{α:Type}{p:α->Bool}{l:List α}(h:∀j (hj:j<l.length),p l[j]=true):l.all p=true:=by
 rw[adQ];intro x hx;obtain⟨j,hj,rfl⟩:=aer hx;exact h j hj
def vK{α:Type}{p:α->Bool}{l:List α}{i:Nat}(hi:i<l.length)(hp:p l[i]=false):l.all p=false:=ag4.2 ⟨_,adC hi,by simp[hp]⟩
def tq{α:Type}(p:α->Bool)(l:List α):(!(l.any λx=>!p x))=l.all p:=by
 induction l with
 |nil=>rfl
 |cons a l ih=>simp[List.any_cons,List.all_cons,<-ih]
def oR{α:Type}{p:α->Bool}{l:List α}{i:Nat}(hi:i<l.length)(hb:∀j (hj:j<l.length),j<i->p l[j]=true)(hp:p l[i]=true):∀j (hj:j<l.length),j<i+1->p l[j]=true:=by
 intro j hj fK
 by_cases e:j=i
 .subst e;exact hp
 .exact hb j hj zo
def Ae{α:Type}{lt:α->α->Bool}{l:List α}{k:Nat}(hi:k+1<l.length)(hb:∀j (hj:j+1<l.length),j+1<k+1->lt (l[j]' zo) l[j+1]=true)(hp:lt (l[k]' zo) l[k+1]=true):∀j (hj:j+1<l.length),j+1<k+1+1->lt (l[j]' zo) l[j+1]=true:=by
 intro j hj fK
 by_cases e:j=k
 .subst e;exact hp
 .exact hb j hj zo
def fW{α:Type}{p:α->Bool}{lt:α->α->Bool}{l:List α}:nA p lt l=true↔(∀x∈l,p x=true)/\∀j (hj:j+1<l.length),lt (l[j]' zo) l[j+1]=true:=by
 unfold nA;rw[adE,adQ,adQ]
 constructor
 .rintro⟨h1,h2⟩;refine⟨h1,λj hj=>?_⟩;have:=h2 j (aeb.2 zo);simpa[show j<l.length by omega,hj]using this
 .rintro⟨h1,h2⟩;refine⟨h1,λj hj=>?_⟩;rw[aeb]at hj;have:=h2 j zo;simpa[show j<l.length by omega,show j+1<l.length by omega]using this
def PM{l:List Int}(h:∀j (hj:j+1<l.length),l[j]<l[j+1]):l.Pairwise λa b=>a<b:=by
 rw[afp];intro i j hi hj so
 obtain⟨d,rfl⟩:∃d,j=i+1+d:=⟨j-i-1,zo⟩
 clear so
 induction d with
 |zero=>exact h i hj
 |succ d ih=>
  have h1:=ih zo;have h2:=h (i+1+d) hj;exact Int.lt_trans h1 h2
section
variable{P:Program}{GI:World->Prop}
end
def AC.nK{P:Program}{GI:World->Prop}{f:Nat}{args:List AV}{o:Ow}{es:List AV}(h:AC P GI f args (.ret (.slice o es))):AC P GI f args (.ret (.slice .view es)):=by
 intro w old bT h1 h2 h3;refine(h w old bT h1 h2 h3).mono ?_;rintro e w' ⟨hb,hi,h0,c,rfl,hv,_⟩;refine⟨hb,hi,h0,c,rfl,?_,trivial⟩
 cases hv with
 |data _ _ h=>exact .data _ _ (Go.Proofs.Tryz.RD.Mv h)
def qK(l:List Int):aG 1 (ints l)=true:=by simp[aG,ints,AV.storable,AV.cells]
def grown(l:List Int):AV:=.slice (if l.isEmpty then .nil else .own 3) (ints l)
section
variable{P:Program}{GI:World->Prop}
def OB {c:af} {Q:dV→an→ao→Prop} {S:an} {H:ao} (t n:Nat) (I:Nat→an→ao→Prop) (Tb:∀ i S H,I i S H→S t = .int .i64 ((i:Nat) - 1)) (h0:I n S H)
  (hs:∀i,i<=n->∀S H,I i S H->bB P GI c (di (λS' H'=>0<i/\I (i-1) S' H') Q) S H):bB P GI (.loop c) Q S H:=by
 refine⟨λS H=>∃i,i<=n/\I i S H,λS _=>match S t with|.int _ k=>(k+1).toNat|_=>0,⟨n,adF _,h0⟩,?_⟩;rintro S H ⟨i,hi,hI⟩;refine gL c (pt (λS' H' h=>?_) (λ_ _ _ h=>h)) (hs i hi S H hI);refine⟨⟨i-1,zo,h.2⟩,?_⟩;have e1:=Tb _ _ _ hI;have e2:=Tb _ _ _ h.2;simp only[e1,e2];have:=h.1;omega
end
section
variable{P:Program}{GI:World->Prop}
def qt :
  (∀x0 x1,OE P GI (.mv x0 x1))/\
  (∀x0 x1 x2,OE P GI (.pick x0 x1 x2))/\
  (∀x0 x1,OE P GI (.build x0 x1))/\
  (∀x0 x1 x2 x3,OE P GI (.buildSlice x0 x1 x2 x3))/\
  (∀x0 x1 x2 x3,OE P GI (.load x0 x1 x2 x3))/\
  (∀x0 x1,OE P GI (.loadT x0 x1))/\
  (∀x0 x1 x2 x3,OE P GI (.store x0 x1 x2 x3))/\
  (∀x0 x1 x2,OE P GI (.bin x0 x1 x2))/\
  (∀x0 x1 x2,OE P GI (.EA x0 x1 x2))/\
  (∀x0 x1 x2 x3,OE P GI (.eqs x0 x1 x2 x3))/\
  (∀x0 x1 x2 x3 x4,OE P GI (.mN x0 x1 x2 x3 x4))/\
  (∀x0,OE P GI (.zm x0))/\
  (∀x0,OE P GI (.oV x0))/\
  (∀x0 x1 x2,OE P GI (.oZ x0 x1 x2))/\
  (∀x0 x1 x2 x3,OE P GI (.lookup x0 x1 x2 x3))/\
  (∀x0,OE P GI (.not x0))/\
  (∀x0 x1,OE P GI (.conv x0 x1))/\
  (∀x0 x1,OE P GI (.iface x0 x1))/\
  (∀x0 x1 x2,OE P GI (.Fa x0 x1 x2))/\
  (∀x0 x1 x2,OE P GI (.oX x0 x1 x2))/\
  (∀x0 x1 x2 x3,OE P GI (.od x0 x1 x2 x3))/\
  (∀x0 x1,OE P GI (.p8 x0 x1))/\
  (∀x0 x1,OE P GI (.fieldAddr x0 x1))/\
  (∀x0 x1 x2,OE P GI (.indexAddr x0 x1 x2))/\
  (∀x0 x1,OE P GI (.oU x0 x1))/\
  (∀x0 x1,OE P GI (.extract x0 x1))/\
  (∀x0,OE P GI (.zI x0))/\
  (∀x0,OE P GI (.kN x0))/\
  (∀x0 x1,OE P GI (.isNil x0 x1))/\
  (∀x0,OE P GI (.empty x0))/\
  (∀x0 x1,OE P GI (.max x0 x1))/\
  (∀x0 x1,OE P GI (.min x0 x1))/\
  (∀x0 x1 x2,OE P GI (.assert x0 x1 x2)):=by
 refine⟨?_,?_,?_,?_,?_,?_,?_,?_,?_,?_,?_,?_,?_,?_,?_,?_,?_,?_,?_,?_,?_,?_,?_,?_,?_,?_,?_,?_,?_,?_,?_,?_,?_⟩<;>intros<;>intro d<;>intros<;>rfl
def oH :
  (∀x0 x1,DE P GI (.mv x0 x1))/\
  (∀x0 x1 x2,DE P GI (.pick x0 x1 x2))/\
  (∀x0 x1,DE P GI (.build x0 x1))/\
  (∀x0 x1 x2 x3,DE P GI (.buildSlice x0 x1 x2 x3))/\
  (∀x0 x1 x2 x3,DE P GI (.load x0 x1 x2 x3))/\
  (∀x0 x1,DE P GI (.loadT x0 x1))/\
  (∀x0 x1 x2 x3,DE P GI (.store x0 x1 x2 x3))/\
  (∀x0 x1 x2,DE P GI (.bin x0 x1 x2))/\
  (∀x0 x1 x2,DE P GI (.EA x0 x1 x2))/\
  (∀x0 x1 x2 x3,DE P GI (.eqs x0 x1 x2 x3))/\
  (∀x0 x1 x2 x3 x4,DE P GI (.mN x0 x1 x2 x3 x4))/\
  (∀x0,DE P GI (.zm x0))/\
  (∀x0,DE P GI (.oV x0))/\
  (∀x0 x1 x2,DE P GI (.oZ x0 x1 x2))/\
  (∀x0 x1 x2 x3,DE P GI (.lookup x0 x1 x2 x3))/\
  (∀x0,DE P GI (.not x0))/\
  (∀x0 x1,DE P GI (.conv x0 x1))/\
  (∀x0 x1,DE P GI (.iface x0 x1))/\
  (∀x0 x1 x2,DE P GI (.Fa x0 x1 x2))/\
  (∀x0 x1 x2,DE P GI (.oX x0 x1 x2))/\
  (∀x0 x1 x2 x3,DE P GI (.od x0 x1 x2 x3))/\
  (∀x0 x1,DE P GI (.p8 x0 x1))/\
  (∀x0 x1,DE P GI (.fieldAddr x0 x1))/\
  (∀x0 x1 x2,DE P GI (.indexAddr x0 x1 x2))/\
  (∀x0 x1,DE P GI (.oU x0 x1))/\
  (∀x0 x1,DE P GI (.extract x0 x1))/\
  (∀x0,DE P GI (.zI x0))/\
  (∀x0,DE P GI (.kN x0))/\
  (∀x0 x1,DE P GI (.isNil x0 x1))/\
  (∀x0,DE P GI (.empty x0))/\
  (∀x0 x1,DE P GI (.max x0 x1))/\
  (∀x0 x1,DE P GI (.min x0 x1))/\
  (∀x0 x1 x2,DE P GI (.assert x0 x1 x2)):=by
 refine⟨?_,?_,?_,?_,?_,?_,?_,?_,?_,?_,?_,?_,?_,?_,?_,?_,?_,?_,?_,?_,?_,?_,?_,?_,?_,?_,?_,?_,?_,?_,?_,?_,?_⟩<;>intros<;>intro d<;>intros<;>rfl
def ah(x0 x1 x2 x3 x4 x5):OE P GI (.append x0 x1 x2 x3 x4 x5):=fo.2.2.2.2.2.2.2.2.2.2.2.2.2.2.2.2.2.2.2.2.2.2.2.2.2.2.2.2.2.2.1 x0 x1 x2 x3 x4 x5
def ae(x0 x1 x2 x3 x4 x5):DE P GI (.append x0 x1 x2 x3 x4 x5):=eN.2.2.2.2.2.2.2.2.2.2.2.2.2.2.2.2.2.2.2.2.2.2.2.2.2.2.2.2.2.2.1 x0 x1 x2 x3 x4 x5
def grow(e:Nat)(l:List AV):AV:=.slice (if l=[]then .nil else .own e) l
def FN(e:Nat):grow e []=.slice .nil []:=by unfold grow;rw[if_pos rfl]
def WO {S:an} {H:ao} {t e size cap i j:Nat} {l:List AV} {v:AV} {o:Ow} (hi:S i=grow e l) (hj:S j = .slice o [v]) (hv:aG size [v]=true) (hl:aG size l=true) (hn:l.length+1 < 1048576) :
  ∃dm,(dm=none\/dm=some i)/\aD S H (.append t e size cap (.t i) (.t j))=some { v:=grow e (l++[v]),dm:=dm }:=by
 have ei:ev S (.t i)=grow e l:=hi;have ej:ev S (.t j)=.slice o [v]:=hj
 cases l with
 |nil=>
  refine⟨none,.inl rfl,?_⟩;simp only[aD];rw[ei,ej,FN];simp[hv,grow]
 |cons x l=>
  refine⟨some i,.inr rfl,?_⟩
  have yR:l.length+1+1<1048576:=by simpa using hn
  simp only[aD];rw[ei,ej];simp[grow,hv,hl,bt,yR]
def wu{S:an}{i d:Nat}{dm:Option Nat}(hd:dm=none\/dm=some i)(v:AV):(aP.S { v:=v,dm:=dm } S (some d)) d=v/\∀k,k≠d->k≠i->aP.S { v:=v,dm:=dm } S (some d) k=S k:=by
 rcases hd with rfl|rfl
 .refine⟨by simp[aP.S,aW,au],λk h1 _=>by simp[aP.S,aW,au,h1]⟩
 .refine⟨by simp[aP.S,aW,au],λk h1 h2=>by simp[aP.S,aW,au,h1,h2]⟩
def iy {K:an→ao→Prop} {Qp:AV→Prop} {S:an} {H:ao} {t e size cap d i j:Nat} {rest:List bI} (l:List AV) (v:AV) (o:Ow) (hi:S i=grow e l) (hj:S j = .slice o [v]) (hv:aG size [v]=true) (hl:aG size l=true) (hn:l.length+1 < 1048576)
  (h:∀S',S' d=grow e (l++[v])->(∀k,k≠d->k≠i->S' k=S k)->bq P GI rest K Qp S' H):bq P GI (⟨some d,none,.append t e size cap (.t i) (.t j)⟩::rest) K Qp S H:=by
 obtain⟨dm,IF,j3⟩:=WO (t:=t) (cap:=cap) (H:=H) hi hj hv hl hn;obtain⟨k1,k2⟩:=wu (S:=S) (d:=d) IF (grow e (l++[v]));rw[fo.2.2.2.2.2.2.2.2.2.2.2.2.2.2.2.2.2.2.2.2.2.2.2.2.2.2.2.2.2.2.1];simp only[aF,j3];exact h _ k1 k2
def kT {K:an→ao→Prop} {S:an} {H:ao} {t e size cap d i j:Nat} {rest:List bI} (l:List AV) (v:AV) (o:Ow) (hi:S i=grow e l) (hj:S j = .slice o [v]) (hv:aG size [v]=true) (hl:aG size l=true) (hn:l.length+1 < 1048576)
  (h:∀S',S' d=grow e (l++[v])->(∀k,k≠d->k≠i->S' k=S k)->cV P GI rest K S' H):cV P GI (⟨some d,none,.append t e size cap (.t i) (.t j)⟩::rest) K S H:=by
 obtain⟨dm,IF,j3⟩:=WO (t:=t) (cap:=cap) (H:=H) hi hj hv hl hn;obtain⟨k1,k2⟩:=wu (S:=S) (d:=d) IF (grow e (l++[v]));rw[eN.2.2.2.2.2.2.2.2.2.2.2.2.2.2.2.2.2.2.2.2.2.2.2.2.2.2.2.2.2.2.1];simp only[aF,j3];exact h _ k1 k2
def iE{α:Type}{f:α->AV}{size:Nat}{l:List α}(h:∀a,(f a).storable=true/\(f a).cells.length=size):aG size (l.map f)=true:=by
 simp[aG,h]
end
def DL {P:Program} {GI:World→Prop} (x d rest K Qp S H):bq P GI (⟨d,none,.panic x⟩::rest) K Qp S H=(match ev S x with
  |.iface t v=>Qp (.iface t v)
  |_=>False):=rfl
def mz{P:Program}{GI:World->Prop}{id:Nat}{c:af}{Q:dV->an->ao->Prop}{S:an}{H:ao}(h:bB P GI c (dQ id Q) S H):bB P GI (.block id c) Q S H:=h
section
variable{P:Program}{GI:World->Prop}{n:Nat}{ro:Option Nat}{old:Old}{S:an}{H:ao}{Q:fa}{b:Frame}{a:Act}{k:List Item}{cs:List Frame}{w:World}
def HD{c:Code}:step P (lone (b.atR a (.code (.scope c)::k)) cs w)=.next (lone (b.atR a (.code c::.inScope c::k)) cs w):=
 step_lone_go (by simp[stepG,stepG.exec,Frame.atR])
def Dt{c:Code}:step P (lone (b.atR a (.inScope c::k)) cs w)=.next (lone (b.atR a k) cs w):=
 step_lone_go (by simp[stepG,stepG.exec,Frame.atR])
def SW.scope{c:Code}(h:SW P GI n ro c Q old S H):SW P GI n ro (.scope c) Q old S H:=by
 intro w0 g a w m hG ho R b k cs wy hF hr;obtain⟨e,jy,lR,hq,iq⟩:=h w0 g a w m hG ho R b (.inScope c::k) cs wy hF hr
 have s1:StepsIn (Machine.fenced P (FR ro)) P (lone (b.atR a (.code (.scope c)::k)) cs w) (lone (b.atR a (.code c::.inScope c::k)) cs w):=
  .one (afW (F:=FR ro) (fr:=b.atR a (.code (.scope c)::k)) trivial hr rfl) HD
 have ex:∀id,exitTo id (.inScope c::k)=exitTo id k:=λid=>by simp[exitTo]
 refine⟨e,jy,lR,hq,.of_steps s1 ?_⟩
 cases e with
 |normal=>exact ag1 iq (.one (afW (F:=FR ro) (fr:=b.atR jy (.inScope c::k)) trivial hr rfl) Dt)
 |exit id=>exact⟨λk' hk=>iq.1 k' (by rw[ex];exact hk),λhh hk=>iq.2 hh (by rw[ex];exact hk)⟩
 |goto l=>exact hq.elim
 |ret=>exact iq
 |panic ch=>exact iq
 |outgrown=>exact hq.elim
def SW.label{l:Nat}(h:Q .normal old S H):SW P GI n ro (.label l) Q old S H:=
 λ_ g _ _ _ _ ho R=>wpIn_label ⟨g,S,H,R,by rw[ho];exact h⟩
end
end Go.AL
namespace Go.Proofs.Tryz
open Go Go.AL Go.RowKit Go.Proofs Go.Proofs.Tram
attribute [local simp] ez fF fo eN eM ea eb dG dH eU dI da gZ g_ aF aD ev aP.S aP.H bt au aW AL.start AV.cells AV.storable AV.ct bC cb dU cd HR.okB post cH db c_ AV.out AV.b_ cU d_ fz ia AV.vw cW vI int cy aN di dQ iC jw eP dW bD AV.aI AV.cI
variable{GI:World->Prop}
def Zu (hG:ar GI) (l:List Int) (hl:l.length < 1000000) (k:Nat) (caps:List AV) (pO:caps=[]∨∃ c,caps=[.ref c]) (p:Int→Bool) (hk:ee prog k=true) (h:∀ x∈l,AC prog GI k ([.int .i64 x]++caps) (.ret (.bool (p x)))) :
    AC prog GI 133 [.slice .view (l.map (.int .i64)),.func (.func k) [] caps] (.ret (.int .i64 (firstT p l))):=by
  refine cw hG func133 ntmps133 c133 ?_
  rcases pO with rfl|⟨c,rfl⟩<;>
  (simp[c133]
   refine bz 8 l.length (λi S H=>S 0=.slice .view (l.map (.int .i64))/\S 1=_/\S 7=.int .i64 l.length/\S 8=.int .i64 (i:Nat)/\∀j (hj:j<l.length),j<i->p l[j]=false) (λi S H h=>h.2.2.2.1) ⟨ahB,by simp<;>rfl,ahB,ahB,ahB⟩ ?_;rintro i hi S H ⟨s0,s1,s7,s8,hb⟩
   by_cases aq:i<l.length
   . have hw:IntKind.i64.wrap ((i:Int)+1)=i+1:=aQ zo
     have hx:=h l[i] (adC aq);cases hp:p l[i]
     . simp [adR,s0,s1,s7,s8,aq]
       refine⟨_,hk,hx,by simp[cW],?_⟩;simp[s0,s1,s7,s8,aq,hp,hw];intro j hj fK
       by_cases Db:j=i
       . subst Db;exact hp
       . exact hb j hj zo
     . simp [adR,s0,s1,s7,s8,aq]
       refine⟨_,hk,hx,by simp[cW],?_⟩;simp[s0,s1,s7,s8,aq,hp,hw];exact lQ aq hp hb
   . have dk:i=l.length:=by omega
     subst dk;simp[s0,s1,s7,s8]
     exact kF λj hj=>hb j hj hj)
def Xk (hG:ar GI) (l:List Int) (hl:l.length < 1000000) (k:Nat) (caps:List AV) (pO:caps=[]∨∃ c,caps=[.ref c]) (p:Int→Bool) (hk:ee prog k=true) (h:∀ x∈l,AC prog GI k ([.int .i64 x]++caps) (.ret (.bool (p x)))) :
    AC prog GI 99 [.slice .view (l.map (.int .i64)),.func (.func k) [] caps] (.ret (.bool (l.any p))):=by
  have hF:=Zu hG l hl k caps pO p hk h;refine cw hG func99 ntmps99 c99 ?_
  rcases pO with rfl|⟨c,rfl⟩<;>
  (simp[c99]
   refine⟨_,zk,hF,λ_=>rfl,?_⟩;simp
   exact ng.symm)
def Yh (hG:ar GI) (l:List Word) (hl:l.length < 1000000) (k:Nat) (caps:List AV) (pO:caps=[]∨∃ c,caps=[.ref c]) (p:Word→Bool) (hk:ee prog k=true) (h:∀ x∈l,AC prog GI k ([cG x]++caps) (.ret (.bool (p x)))) :
    AC prog GI 134 [.slice .view (l.map cG),.func (.func k) [] caps] (.ret (.int .i64 (firstT p l))):=by
  refine cw hG func134 ntmps134 c134 ?_
  rcases pO with rfl|⟨c,rfl⟩<;>
  (simp[c134]
   refine bz 8 l.length (λi S H=>S 0=.slice .view (l.map cG)/\S 1=_/\S 7=.int .i64 l.length/\S 8=.int .i64 (i:Nat)/\∀j (hj:j<l.length),j<i->p l[j]=false) (λi S H h=>h.2.2.2.1) ⟨ahB,by simp<;>rfl,ahB,ahB,ahB⟩ ?_;rintro i hi S H ⟨s0,s1,s7,s8,hb⟩
   by_cases aq:i<l.length
   . have hw:IntKind.i64.wrap ((i:Int)+1)=i+1:=aQ zo
     have hx:=h l[i] (adC aq);cases hp:p l[i]
     . simp [adR,cG,s0,s1,s7,s8,aq]
       refine⟨_,hk,hx,by simp[cW],?_⟩;simp[s0,s1,s7,s8,aq,hp,hw];intro j hj fK
       by_cases Db:j=i
       . subst Db;exact hp
       . exact hb j hj zo
     . simp [adR,cG,s0,s1,s7,s8,aq]
       refine⟨_,hk,hx,by simp[cW],?_⟩;simp[s0,s1,s7,s8,aq,hp,hw];exact lQ aq hp hb
   . have dk:i=l.length:=by omega
     subst dk;simp[s0,s1,s7,s8]
     exact kF λj hj=>hb j hj hj)
def ZR (hG:ar GI) (l:List Word) (hl:l.length < 1000000) (k:Nat) (caps:List AV) (pO:caps=[]∨∃ c,caps=[.ref c]) (p:Word→Bool) (hk:ee prog k=true) (h:∀ x∈l,AC prog GI k ([cG x]++caps) (.ret (.bool (p x)))) :
    AC prog GI 101 [.slice .view (l.map cG),.func (.func k) [] caps] (.ret (.bool (l.any p))):=by
  have hF:=Yh hG l hl k caps pO p hk h;refine cw hG func101 ntmps101 c101 ?_
  rcases pO with rfl|⟨c,rfl⟩<;>
  (simp[c101]
   refine⟨_,zk,hF,λ_=>rfl,?_⟩;simp
   exact ng.symm)
def SV(hG:ar GI)(a b:List Int)(ha:a.length<1000000):AC prog GI 30 [vI a,vI b] (.ret (.bool (a==b))):=by
 refine cw hG func30 ntmps30 c30 ?_
 by_cases hl:a.length=b.length
 case neg=>
  have cD:(a==b)=false:=by
   rw[aeo]
   exact λh=>hl (congrArg List.length h)
  have LJ:((a.length:Int)!=(b.length:Int))=true:=by simp;omega
  simp[c30,LJ,cD]
 simp[c30,hl];refine bz 5 b.length (λi S H=>S 0=vI a/\S 1=vI b/\S 5=.int .i64 (i:Nat)/\∀j (hj:j<a.length),j<i->a[j]=b[j]' zo) (λi S H h=>h.2.2.1) ⟨ahB,ahB,ahB,ahB⟩ ?_;rintro i hi S H ⟨s0,s1,s5,hb⟩
 by_cases aq:i<b.length
 .have nc:i<a.length:=zo
  have hw:IntKind.i64.wrap ((i:Int)+1)=i+1:=aQ zo
  by_cases he:a[i]=b[i]
  .have AE:(a[i]!=b[i])=false:=by simp[he]
   simp[s0,s1,s5,aq,nc,AE,hw];intro j hj fK
   by_cases e:j=i
   .subst e;exact he
   .exact hb j hj zo
  .have cD:(a==b)=false:=by
    rw[aeo];rintro rfl;exact he rfl
   have AE:(a[i]!=b[i])=true:=by simp[he]
   simp[s0,s1,s5,aq,nc,AE,cD]
 .have dk:i=b.length:=zo
  subst dk
  have vn:a=b:=agx hl λj h1 h2=>hb j h1 zo
  simp[s0,s1,s5,vn]
def ZJ(hG:ar GI)(l:List Int)(hl:l.length<1000000)(v:Int):AC prog GI 154 [vI l,.int .i64 v] (.ret (.int .i64 (firstT (v==·) l))):=by
 refine cw hG func154 ntmps154 c154 ?_;simp[c154];refine bz 8 l.length (λi S H=>S 0=vI l/\S 1=.int .i64 v/\S 7=.int .i64 l.length/\S 8=.int .i64 (i:Nat)/\∀j (hj:j<l.length),j<i->(v==l[j])=false) (λi S H h=>h.2.2.2.1) ⟨ahB,ahB,ahB,ahB,ahB⟩ ?_;rintro i hi S H ⟨s0,s1,s7,s8,hb⟩
 by_cases aq:i<l.length
 .have hw:IntKind.i64.wrap ((i:Int)+1)=i+1:=aQ zo;cases he:v==l[i]
  .simp[s0,s1,s7,s8,aq,he,hw];intro j hj fK
   by_cases e:j=i
   .subst e;simpa using he
   .simpa using hb j hj zo
  .simp[s0,s1,s7,s8,aq,he,hw];exact lQ aq he hb
 .have dk:i=l.length:=zo
  subst dk;simp[s0,s1,s7,s8]
  exact kF λj hj=>hb j hj hj
def MR(hG:ar GI)(l:List Int)(hl:l.length<1000000)(v:Int):AC prog GI 144 [vI l,.int .i64 v] (.ret (.bool (l.contains v))):=by
 refine cw hG func144 ntmps144 c144 ?_;simp[c144];refine⟨_,zk,ZJ hG l hl v,λ_=>rfl,?_⟩;simp;have:=ng (p:=(v==·)) (l:=l);rw[aep]at this;simpa using this.symm
def Ez(a b:Int):kC [.int .i64 a,.int .i64 b]=some [a,b]:=rfl
def yG(hG:ar GI)(s:List UInt8):AC prog GI 128 [.bool false,.str s] (.panic (.iface 192 (.agg [.str s]))):=by
 refine cw hG func128 ntmps128 c128 ?_;simp[c128,bH,DL]
end Go.Proofs.Tryz
namespace Go.Proofs.Tryz
open Go Go.AL Go.RowKit Go.Proofs Go.Proofs.Tram
variable{GI:World->Prop}
def XK:AV->Option Word
 |.agg [s,c,.bool b]=>match VL s with
  |some s=>match VL c with
   |some c=>some ⟨s,c,b⟩
   |none=>none
  |none=>none
 |_=>none
def X4:AV->Option kM
 |.agg [.int .i64 a,.int .i64 b,.int .i64 c,.int .i64 d]=>some ⟨a,b,c,d⟩
 |_=>none
def abC:AV->Option End
 |.agg [.int .i64 a,.int .i64 b]=>some (a,b)
 |_=>none
deriving instance DecidableEq for kM
deriving instance DecidableEq for Word
structure aJ where
 aM:List Int
 aL:List kM
 gk:Int
 gl:Int
 js:Int
 jr:Int
 ck:Int
 words:List Word
 wide:Int
 rows:Int
deriving DecidableEq
def ai(s:aJ):List AV:=[vI s.aM,.slice .view (s.aL.map dP),.int .i64 s.gk,.int .i64 s.gl,.int .i64 s.js,.int .i64 s.jr,.int .i64 s.ck,.slice .view (s.words.map cG),.int .i64 s.wide,.int .i64 s.rows]
def cE(s:aJ):AV:=.agg (ai s)
def I0:AV->Option aJ
 |.agg [w,.slice .view ps,.int .i64 a,.int .i64 b,.int .i64 c,.int .i64 d,.int .i64 e,.slice .view ws,.int .i64 f,.int .i64 g]=>match VL w with
  |some w=>match J5 X4 ps with
   |some ps=>match J5 XK ws with
    |some ws=>some ⟨w,ps,a,b,c,d,e,ws,f,g⟩
    |none=>none
   |none=>none
  |none=>none
 |_=>none
def GA:AV->Option (List Int×List End)
 |.agg [o,.slice .view es]=>match VL o with
  |some o=>match J5 abC es with
   |some es=>some (o,es)
   |none=>none
  |none=>none
 |_=>none
def q1(s:aJ)(out:iK):List AV->Option iK
 |[a]=>match I0 a with
  |some x=>bif decide (x=s)then some out else none
  |none=>none
 |_=>none
def q2(s:aJ)(es:List End)(out:iK):List AV->Option iK
 |[a,b]=>match I0 a with
  |some x=>match GA b with
   |some y=>bif decide (x=s)&&decide (y=([],es))then some out else none
   |none=>none
  |none=>none
 |_=>none
def q3(s:aJ)(es:List End)(n:Int)(out:iK):List AV->Option iK
 |[a,b,.int .i64 k]=>match I0 a with
  |some x=>match GA b with
   |some y=>bif decide (x=s)&&decide (y=([],es))&&decide (k=n)then some out else none
   |none=>none
  |none=>none
 |_=>none
def qs(s:List UInt8)(out:iK):List AV->Option iK
 |[.str t]=>bif decide (t=s)then some out else none
 |_=>none
def F7(l:List End):aG 2 (l.map bX)=true:=iE λa=>⟨rfl,rfl⟩
end Go.Proofs.Tryz
namespace Go.Proofs.Tryz
open Go Go.AL Go.RowKit Go.Proofs Go.Proofs.Tram
attribute [local simp] ez fF fo eN eM ea eb dG dH eU dI da gZ g_ aF aD ev aP.S aP.H bt au aW AL.start AV.cells AV.storable AV.ct bC cb dU cd HR.okB post cH db c_ AV.out AV.b_ cU d_ fz ia AV.vw cW vI int cy aN di dQ iC jw eP dW bD AV.aI AV.cI
variable{GI:World->Prop}
def df(n lo hi:Int):Bool:=decide (lo<=n)&&decide (n<=hi)
def vR(hG:ar GI)(n lo hi:Int):AC prog GI 80 [.int .i64 n,.int .i64 lo,.int .i64 hi] (.ret (.bool (df n lo hi))):=by
 refine cw hG func80 ntmps80 c80 ?_
 by_cases h1:lo<=n<;>by_cases h2:n<=hi<;>simp[c80,df,h1,h2]
def sn(hG:ar GI)(n lo hi:Int):AC prog GI 95 [.int .i64 n,.int .i64 lo,.int .i64 hi] (.ret (.bool (df n lo hi))):=by
 refine cw hG func95 ntmps95 c95 ?_
 by_cases h1:lo<=n<;>by_cases h2:n<=hi<;>simp[c95,df,h1,h2]
def lg(lo hi a most:Int):Bool:=df lo a most&&df hi lo most
def Si(hG:ar GI)(lo hi most:Int):AC prog GI 83 [.agg [.int .i64 lo,.int .i64 hi],.int .i64 most] (.ret (.bool (lg lo hi 0 most))):=by
 refine cw hG func83 ntmps83 c83 ?_;simp[c83];refine oc (vR hG lo 0 most) ?_;cases h1:df lo 0 most
 .simp[lg,h1]
 .simp;refine oc (vR hG hi lo most) ?_;simp[lg,h1]
def O0(hG:ar GI)(lo hi a most:Int):AC prog GI 100 [.agg [.int .i64 lo,.int .i64 hi],.int .i64 a,.int .i64 most] (.ret (.bool (lg lo hi a most))):=by
 refine cw hG func100 ntmps100 c100 ?_;simp[c100];refine oc (sn hG lo a most) ?_;cases h1:df lo a most
 .simp[lg,h1]
 .simp;refine oc (sn hG hi lo most) ?_;simp[lg,h1]
def acL(hG:ar GI)(n:Int):AC prog GI 84 [.int .i64 n] (.ret (.bool (df n 1 400))):=by
 refine cw hG func84 ntmps84 c84 ?_;simp[c84];refine oc (vR hG n 1 400) ?_;simp
def jl(s:aJ)(n:Int):Bool:=df n 0 (s.aM.length-1)
def Og(hG:ar GI)(s:aJ)(hs:s.aM.length<1000)(n:Int):AC prog GI 124 [cE s,.int .i64 n] (.ret (.bool (jl s n))):=by
 refine cw hG func124 ntmps124 c124 ?_;have hw:IntKind.i64.wrap ((s.aM.length:Int)-1)=s.aM.length-1:=aQ zo;simp[c124,cE,ai,hw];refine oc (vR hG n 0 (s.aM.length-1)) ?_;simp[jl]
def jW(s:aJ)(p:kM):Bool:=jl s p.l&&jl s p.r&&lg p.lo p.hi 0 9
def acK(hG:ar GI)(s:aJ)(hs:s.aM.length<1000)(p:kM):AC prog GI 96 [cE s,dP p] (.ret (.bool (jW s p))):=by
 refine cw hG func96 ntmps96 c96 ?_;have hw:IntKind.i64.wrap ((s.aM.length:Int)-1)=s.aM.length-1:=aQ zo;refine aK (λS H=>S 2=.box 2 0/\S 3=.box 3 0/\H 2=some (ai s)/\H 3=some [.int .i64 p.l,.int .i64 p.r,.int .i64 p.lo,.int .i64 p.hi]) (by simp[cE,ai,dP]) ?_;rintro S H ⟨s2,s3,h2,h3⟩;simp[s2,s3,h2,h3,ai,hw];refine oc (sn hG p.l 0 (s.aM.length-1)) ?_;cases h1:df p.l 0 (s.aM.length-1)
 .simp[jW,jl,h1]
 .simp[s2,s3,h2,h3,ai,hw];refine oc (sn hG p.r 0 (s.aM.length-1)) ?_;cases h4:df p.r 0 (s.aM.length-1)
  .simp[jW,jl,h1,h4]
  .simp[s2,s3,h2,h3,ai];refine oc (O0 hG p.lo p.hi 0 9) ?_;simp[jW,jl,h1,h4]
def yj(a b:kM):Bool:=decide (a.l<b.l)||(a.l==b.l&&decide (a.r<b.r))
def aaS(hG:ar GI)(a b:kM):AC prog GI 97 [dP a,dP b] (.ret (.bool (yj a b))):=by
 refine cw hG func97 ntmps97 c97 ?_;refine aK (λS H=>S 2=.box 2 0/\S 3=.box 3 0/\H 2=some [.int .i64 a.l,.int .i64 a.r,.int .i64 a.lo,.int .i64 a.hi]/\H 3=some [.int .i64 b.l,.int .i64 b.r,.int .i64 b.lo,.int .i64 b.hi]) (by simp[dP]) ?_;rintro S H ⟨s2,s3,h2,h3⟩
 by_cases h1:a.l<b.l
 .simp[s2,s3,h2,h3,yj,h1]
 .cases h4:a.l==b.l
  .simp[s2,s3,h2,h3,yj,h1,h4]
  .by_cases h5:a.r<b.r<;>simp[s2,s3,h2,h3,yj,h1,h4,h5]
def aa_(hG:ar GI)(n:Int):AC prog GI 98 [.int .i64 n] (.ret (.bool (!df n 1 20))):=by
 refine cw hG func98 ntmps98 c98 ?_;simp[c98];refine oc (sn hG n 1 20) ?_;simp
def XL(hG:ar GI)(s:aJ)(hs:s.aM.length<1000)(n:Int):AC prog GI 135 [.int .i64 n,.ref (ai s)] (.ret (.bool (!jl s n))):=by
 refine cw hG func135 ntmps135 c135 ?_;have hw:IntKind.i64.wrap ((s.aM.length:Int)-1)=s.aM.length-1:=aQ zo;simp[c135,ai,hw];refine oc (sn hG n 0 (s.aM.length-1)) ?_;simp[jl]
def gz(l:List Int)(lo hi:Int):Bool:=nA (df · lo hi) (λa b=>decide (a<b)) l
def Yp(hG:ar GI)(l:List Int)(hl:l.length<1000000)(lo hi:Int):AC prog GI 136 [vI l,.int .i64 lo,.int .i64 hi] (.ret (.bool (gz l lo hi))):=by
 refine cw hG func136 ntmps136 c136 ?_;simp[c136];refine bz 11 l.length (λi S H=>S 0=vI l/\S 1=.int .i64 lo/\S 2=.int .i64 hi/\S 9=vI l/\S 10=.int .i64 l.length/\S 11=.int .i64 (i:Nat)/\(∀j (hj:j<l.length),j<i->df l[j] lo hi=true)/\∀j (hj:j+1<l.length),j+1<i->decide (l[j]<l[j+1])=true) (λi S H h=>h.2.2.2.2.2.1) ⟨ahB,ahB,ahB,ahB,ahB,ahB,ahB,ahB⟩ ?_;rintro i du S H ⟨s0,s1,s2,s9,bJ,bG,hb,hc⟩
 by_cases aq:i<l.length
 .have hw:IntKind.i64.wrap ((i:Int)+1)=i+1:=aQ zo;simp[s0,s1,s2,s9,bJ,bG,aq];refine⟨_,zk,sn hG l[i] lo hi,λ_=>rfl,?_⟩;cases hp:df l[i] lo hi
  .simp[s0,s1,s2,s9,bJ,bG,aq,hw];exact ry aq hp
  .cases i with
   |zero=>
    simp[s0,s1,s2,s9,bJ,bG,aq];exact⟨aQ zo,λj hj ET=>by subst ET;exact hp⟩
   |succ k=>
    have hk:((k+1:Nat):Int)-1=(k:Nat):=zo
    have sh:IntKind.i64.wrap (k:Int)=k:=aQ zo;have j0:IntKind.i64.wrap ((k:Int)+1+1)=k+1+1:=aQ zo
    have gE:k<l.length:=zo
    have h0:(0:Int)<(k:Int)+1:=zo
    by_cases hle:l[k+1]<=l[k]
    .simp[s0,s1,s2,s9,bJ,bG,aq,sh,gE,hle,h0];exact qm (lt:=λa b=>decide (a<b)) aq (by simpa using hle)
    .simp[s0,s1,s2,s9,bJ,bG,aq,sh,gE,hle,h0,j0];refine⟨λj hj tN=>?_,λj hj tN=>?_⟩
     .by_cases e:j=k+1
      .subst e;exact hp
      .exact hb j hj zo
     .by_cases e:j=k
      .subst e;omega
      .simpa using hc j hj zo
 .have dk:i=l.length:=zo
  subst dk;simp[s0,s1,s2,s9,bJ,bG];exact tz (λj hj=>hb j hj hj) (λj hj=>hc j hj hj)
def ld(s:aJ)(w:Word):Bool:=df w.aV.length 1 6&&!(w.aV.any λn=>!jl s n)&&gz w.bZ 1 (w.aV.length-1)
def YT(hG:ar GI)(s:aJ)(hs:s.aM.length<1000)(w:Word)(h1:w.aV.length<1000)(h2:w.bZ.length<1000):AC prog GI 103 [cE s,cG w] (.ret (.bool (ld s w))):=by
 have Tx:=Xk hG w.aV zo 135 [.ref (ai s)] (.inr ⟨_,rfl⟩) (λn=>!jl s n) zk (λn _=>XL hG s hs n);have hw:IntKind.i64.wrap ((w.aV.length:Int)-1)=w.aV.length-1:=aQ zo;refine cw hG func103 ntmps103 c103 ?_;refine aK (λS H=>S 2=.box 2 0/\S 3=.box 3 0/\H 2=some (ai s)/\H 3=some [vI w.aV,vI w.bZ,.bool w.free]) (by simp[cE,ai,cG]) ?_;rintro S H ⟨s2,s3,e2,e3⟩;simp[s2,s3,e2,e3];refine⟨_,zk,sn hG w.aV.length 1 6,λ_=>rfl,?_⟩;cases h3:df w.aV.length 1 6
 .simp[ld,h3]
 .simp[s2,s3,e2,e3,ai];refine⟨_,zk,Tx,λ_=>rfl,?_⟩
  cases h4:w.aV.any λn=>!jl s n
  .simp[s2,s3,e2,e3,hw];refine⟨_,zk,Yp hG w.bZ zo 1 (w.aV.length-1),λ_=>rfl,?_⟩;simp[ld,h3,h4]
  .simp[ld,h3,h4]
def aak(hG:ar GI)(s:aJ)(hs:s.aM.length<1000)(w:Word)(h1:w.aV.length<1000)(h2:w.bZ.length<1000):AC prog GI 102 [cG w,.ref (ai s)] (.ret (.bool (!ld s w))):=by
 refine cw hG func102 ntmps102 c102 ?_;simp[c102,cG,ai];refine⟨_,zk,YT hG s hs w h1 h2,λ_=>rfl,?_⟩;simp
structure qI(s:aJ):Prop where
 aM:s.aM.length<1000
 aL:s.aL.length<1000
 words:s.words.length<1000
 aV:∀w∈s.words,w.aV.length<1000
 bZ:∀w∈s.words,w.bZ.length<1000
def uh(s:aJ):Bool:=!(s.aM.any λn=>!df n 1 20)&&lg s.gk s.gl 0 9&&lg s.js s.jr 0 20&&df s.ck 1 20&&!(s.words.any λw=>!ld s w)&&df s.wide 1 400&&df s.rows 1 3
def bj(s:aJ):Bool:=df s.aM.length 1 6&&decide (s.aL.length<=6)&&df s.words.length 1 4&&nA (jW s) yj s.aL&&uh s
def Gn(hG:ar GI)(s:aJ)(hs:qI s):AC prog GI 44 [cE s] (.ret (.bool (bj s))):=by
 have Tx:=Xk hG s.aM (by have:=hs.aM;omega) 98 [] (.inl rfl) (λn=>!df n 1 20) zk (λn _=>aa_ hG n);have abm:=ZR hG s.words (by have:=hs.words;omega) 102 [.ref (ai s)] (.inr ⟨_,rfl⟩) (λw=>!ld s w) zk (λw hw=>aak hG s hs.aM w (hs.aV w hw) (hs.bZ w hw));refine cw hG func44 ntmps44 c44 ?_;refine aK (λS H=>S 1=.box 1 0/\H 1=some (ai s)) (by simp[cE,ai]) ?_;rintro S H ⟨s1,e1⟩;simp[s1,e1,ai];refine⟨_,zk,sn hG s.aM.length 1 6,λ_=>rfl,?_⟩;cases h1:df s.aM.length 1 6
 .simp[bj,h1]
 by_cases h2:(6:Int)<s.aL.length
 .simp[s1,e1,ai,h2]
  have:¬s.aL.length<=6:=zo
  simp[bj,this]
 simp[s1,e1,ai,h2];refine⟨_,zk,sn hG s.words.length 1 4,λ_=>rfl,?_⟩;cases h3:df s.words.length 1 4
 .simp[bj,h3]
 simp[s1,e1,ai]
 have wG:s.aL.length<=6:=zo
 refine bz 27 s.aL.length (λi S H=>S 1=.box 1 0/\H 1=some (ai s)/\S 25=.slice .view (s.aL.map dP)/\S 26=.int .i64 s.aL.length/\S 27=.int .i64 (i:Nat)/\(∀j (hj:j<s.aL.length),j<i->jW s s.aL[j]=true)/\∀j (hj:j+1<s.aL.length),j+1<i->yj s.aL[j] s.aL[j+1]=true) (λi S H h=>h.2.2.2.2.1) ⟨by simp[s1],by simp[e1,ai],ahB,ahB,ahB,ahB,ahB⟩ ?_;clear s1 e1 S H;rintro i hi S H ⟨s1,e1,fC,gO,fU,hb,hc⟩
 by_cases aq:i<s.aL.length
 case neg=>
  have dk:i=s.aL.length:=zo
  subst dk;have ac3:nA (jW s) yj s.aL=true:=tz (λj hj=>hb j hj hj) (λj hj=>hc j hj hj);simp[s1,e1,fC,gO,fU,ai];refine⟨_,zk,Tx,λ_=>rfl,?_⟩
  cases h4:s.aM.any λn=>!df n 1 20
  case true=>simp[bj,uh,h4]
  simp[s1,e1,ai];refine⟨_,zk,O0 hG s.gk s.gl 0 9,λ_=>rfl,?_⟩;cases h5:lg s.gk s.gl 0 9
  .simp[bj,uh,h5]
  simp[s1,e1,ai];refine⟨_,zk,O0 hG s.js s.jr 0 20,λ_=>rfl,?_⟩;cases h6:lg s.js s.jr 0 20
  .simp[bj,uh,h6]
  simp[s1,e1,ai];refine⟨_,zk,sn hG s.ck 1 20,λ_=>rfl,?_⟩;cases h7:df s.ck 1 20
  .simp[bj,uh,h7]
  simp[s1,e1,ai];refine⟨_,zk,abm,λ_=>rfl,?_⟩
  cases h8:s.words.any λw=>!ld s w
  case true=>simp[bj,uh,h8]
  simp[s1,e1,ai];refine⟨_,zk,sn hG s.wide 1 400,λ_=>rfl,?_⟩;cases h9:df s.wide 1 400
  .simp[bj,uh,h9]
  simp[s1,e1,ai];refine⟨_,zk,sn hG s.rows 1 3,λ_=>rfl,?_⟩;simp[bj,uh,h1,wG,h3,ac3,h4,h5,h6,h7,h8,h9]
 case pos=>
  have hw:IntKind.i64.wrap ((i:Int)+1)=i+1:=aQ zo;refine aK (λS H=>S 28=.bool true/\S 1=.box 1 0/\H 1=some (ai s)/\S 25=.slice .view (s.aL.map dP)/\S 26=.int .i64 s.aL.length/\S 27=.int .i64 (i:Nat)) (by simp[s1,e1,fC,gO,fU,aq]) ?_;clear s1 e1 fC gO fU S H;rintro S H ⟨wN,s1,e1,fC,gO,fU⟩;refine Iu wN (IP ?_);refine aK (λS H=>S 4=.box 4 0/\H 4=some (dP s.aL[i]).cells/\S 3=.int .i64 (i:Nat)/\S 1=.box 1 0/\H 1=some (ai s)/\S 25=.slice .view (s.aL.map dP)/\S 26=.int .i64 s.aL.length/\S 27=.int .i64 (i:Nat)) (by simp[s1,e1,fC,gO,fU,aq,dP]) ?_;clear s1 e1 fC gO fU wN S H;rintro S H ⟨s4,e4,s3,s1,e1,fC,gO,fU⟩;simp[s1,e1,s3,s4,e4,ai,dP];refine⟨_,zk,acK hG s hs.aM s.aL[i],λ_=>rfl,?_⟩;cases hp:jW s s.aL[i]
  .simp;simp[bj,ry aq hp]
  cases i with
  |zero=>
   simp[s1,s3,s4,fC,gO,fU,aq];exact⟨e1,aQ zo,λj hj ET=>by subst ET;exact hp⟩
  |succ k=>
   have sh:IntKind.i64.wrap (k:Int)=k:=aQ zo;have j0:IntKind.i64.wrap ((k:Int)+1+1)=k+1+1:=aQ zo
   have gE:k<s.aL.length:=zo
   have h0:(0:Int)<(k:Int)+1:=zo
   simp[s1,e1,s3,s4,e4,aq,sh,gE,h0,ai,dP];refine⟨_,zk,aaS hG s.aL[k] s.aL[k+1],λ_=>rfl,?_⟩;cases hq:yj s.aL[k] s.aL[k+1]
   .simp;simp[bj,qm (p:=jW s) aq hq]
   .simp[s1,e1,s3,s4,fC,gO,fU,aq,j0];refine⟨rfl,λj hj tN=>?_,λj hj tN=>?_⟩
    .by_cases e:j=k+1
     .subst e;exact hp
     .exact hb j hj zo
    .by_cases e:j=k
     .subst e;exact hq
     .exact hc j hj zo
def P6(s:aJ)(w:Word):ld s w=(w.aV.all (jl s)&&(gz w.bZ 1 (w.aV.length-1)&&df w.aV.length 1 6)):=by
 unfold ld;rw[tq]
 cases df w.aV.length 1 6<;>cases w.aV.all (jl s)<;>cases gz w.bZ 1 (w.aV.length-1)<;>rfl
def abh(hG:ar GI)(s:aJ)(hs:s.aM.length<1000)(w:Word)(h1:w.aV.length<1000)(h2:w.bZ.length<1000):AC prog GI 81 [cE s,cG w] (.ret (.bool (ld s w))):=by
 rw[P6];refine cw hG func81 ntmps81 c81 ?_;refine aK (λS H=>S 2=.box 2 0/\S 3=.box 3 0/\H 2=some (ai s)/\H 3=some [vI w.aV,vI w.bZ,.bool w.free]) (by simp[cE,ai,cG]) ?_;rintro S H ⟨s2,s3,e2,e3⟩;simp[s2,s3,e2,e3];refine bz 5 w.aV.length (λi S H=>S 2=.box 2 0/\S 3=.box 3 0/\H 2=some (ai s)/\H 3=some [vI w.aV,vI w.bZ,.bool w.free]/\S 5=.int .i64 (i:Nat)/\(∀j (hj:j<w.aV.length),j<i->jl s w.aV[j]=true)) (λi S H h=>h.2.2.2.2.1) ⟨by simp[s2],by simp[s3],e2,e3,ahB,ahB⟩ ?_;clear s2 s3 e2 e3 S H;rintro i hi S H ⟨s2,s3,e2,e3,s5,hb⟩
 by_cases aq:i<w.aV.length
 case pos=>
  have hw:IntKind.i64.wrap ((i:Int)+1)=i+1:=aQ zo;simp[s2,s3,e2,e3,s5,aq,ai];refine⟨_,zk,Og hG s hs w.aV[i],λ_=>rfl,?_⟩;cases hp:jl s w.aV[i]
  .simp[vK aq hp]
  .simp[s2,s3,e2,e3,s5,aq,hw];exact⟨rfl,oR aq hb hp⟩
 have dk:i=w.aV.length:=zo
 subst dk
 have eH:w.aV.all (jl s)=true:=yQ λj hj=>hb j hj hj
 simp[s2,s3,e2,e3,s5,eH];refine bz 6 w.bZ.length (λi S H=>S 3=.box 3 0/\H 3=some [vI w.aV,vI w.bZ,.bool w.free]/\S 6=.int .i64 (i:Nat)/\(∀j (hj:j<w.bZ.length),j<i->df w.bZ[j] 1 (w.aV.length-1)=true)/\∀j (hj:j+1<w.bZ.length),j+1<i->decide (w.bZ[j]<w.bZ[j+1])=true) (λi S H h=>h.2.2.1) ⟨by simp[s3],e3,ahB,ahB,ahB⟩ ?_;clear s2 s3 e2 e3 s5 hb S H;rintro i hi S H ⟨s3,e3,s6,hb,hc⟩
 by_cases aq:i<w.bZ.length
 case neg=>
  have dk:i=w.bZ.length:=zo
  subst dk;have hr:gz w.bZ 1 (w.aV.length-1)=true:=tz (λj hj=>hb j hj hj) (λj hj=>hc j hj hj);simp[s3,e3,s6,hr];refine⟨_,zk,vR hG w.aV.length 1 6,λ_=>rfl,?_⟩;simp
 case pos=>
  have hw:IntKind.i64.wrap ((i:Int)+1)=i+1:=aQ zo;have uK:IntKind.i64.wrap ((w.aV.length:Int)-1)=w.aV.length-1:=aQ zo;simp[s3,e3,s6,aq,uK];refine⟨_,zk,vR hG w.bZ[i] 1 (w.aV.length-1),λ_=>rfl,?_⟩;cases hp:df w.bZ[i] 1 (w.aV.length-1)
  .have hr:gz w.bZ 1 (w.aV.length-1)=false:=ry aq hp;simp[hr]
  cases i with
  |zero=>
   simp[s3,e3,s6,aq];exact⟨aQ zo,λj hj ET=>by subst ET;exact hp⟩
  |succ k=>
   have sh:IntKind.i64.wrap (k:Int)=k:=aQ zo;have j0:IntKind.i64.wrap ((k:Int)+1+1)=k+1+1:=aQ zo
   have gE:k<w.bZ.length:=zo
   have h0:(0:Int)<(k:Int)+1:=zo
   have h00:(0:Int)<=(k:Int)+1:=zo
   by_cases hle:w.bZ[k+1]<=w.bZ[k]
   .have hr:gz w.bZ 1 (w.aV.length-1)=false:=qm (lt:=λa b=>decide (a<b)) aq (by simpa using hle);simp[s3,e3,s6,aq,sh,gE,hle,h0,h00,hr]
   .simp[s3,e3,s6,aq,sh,gE,hle,h0,h00,j0];exact⟨oR (p:=λn=>df n 1 (w.aV.length-1)) aq hb hp,λj hj tN=>by simpa using Ae (lt:=λa b=>decide (a<b)) aq hc (by simpa using hle) j hj zo⟩
def qd(s:aJ):Bool:=nA (jW s) yj s.aL&&decide (s.aL.length<=6)
def Lz(a b:kM):yj a b=!(decide (b.l<a.l)||(a.l==b.l&&decide (b.r<=a.r))):=by
 unfold yj
 by_cases h1:a.l<b.l
 .have h2:¬b.l<a.l:=zo
  have h3:(a.l==b.l)=false:=by simp;omega
  simp[h1,h2,h3]
 .by_cases h2:b.l<a.l
  .have h3:(a.l==b.l)=false:=by simp;omega
   simp[h1,h2,h3]
  .have h3:(a.l==b.l)=true:=by simp;omega
   by_cases h4:b.r<=a.r
   .have h5:¬a.r<b.r:=zo
    simp[h1,h2,h3,h4,h5]
   .have h5:a.r<b.r:=zo
    simp[h1,h2,h3,h4,h5]
def abR(hG:ar GI)(s:aJ)(hs:s.aM.length<1000)(h1:s.aL.length<1000):AC prog GI 82 [cE s] (.ret (.bool (qd s))):=by
 refine cw hG func82 ntmps82 c82 ?_;simp[c82,cE,ai];refine bz 3 s.aL.length (λi S H=>S 1=.box 1 0/\H 1=some (ai s)/\S 3=.int .i64 (i:Nat)/\(∀j (hj:j<s.aL.length),j<i->jW s s.aL[j]=true)/\∀j (hj:j+1<s.aL.length),j+1<i->yj s.aL[j] s.aL[j+1]=true) (λi S H h=>h.2.2.1) ⟨ahB,by simp[ai],ahB,ahB,ahB⟩ ?_;rintro i hi S H ⟨s1,e1,s3,hb,hc⟩
 by_cases aq:i<s.aL.length
 case neg=>
  have dk:i=s.aL.length:=zo
  subst dk;have hr:nA (jW s) yj s.aL=true:=tz (λj hj=>hb j hj hj) (λj hj=>hc j hj hj);simp[s1,e1,s3,ai,qd,hr]
  by_cases h6:s.aL.length<=6
  .have Zk:(s.aL.length:Int)<=6:=zo
   simp[h6,Zk]
  .have Zk:¬(s.aL.length:Int)<=6:=zo
   simp[h6,Zk]
 case pos=>
  have hw:IntKind.i64.wrap ((i:Int)+1)=i+1:=aQ zo;refine wx (λS H=>S 9=.bool true/\S 1=.box 1 0/\H 1=some (ai s)/\S 3=.int .i64 (i:Nat)) (by simp[s1,e1,s3,aq,ai]) ?_;clear s1 e1 s3 S H;rintro S H ⟨s9,s1,e1,s3⟩;refine Iu s9 (IP ?_);refine aK (λS H=>S 4=.box 4 0/\H 4=some (dP s.aL[i]).cells/\S 1=.box 1 0/\H 1=some (ai s)/\S 3=.int .i64 (i:Nat)) (by simp[s1,e1,s3,aq,ai,dP]) ?_;clear s1 e1 s3 s9 S H;rintro S H ⟨s4,e4,s1,e1,s3⟩;refine wx (λS H=>S 34=.bool (!jW s s.aL[i])/\S 4=.box 4 0/\H 4=some (dP s.aL[i]).cells/\S 1=.box 1 0/\H 1=some (ai s)/\S 3=.int .i64 (i:Nat)) ?_ ?_
  .simp[s1,e1,s3,s4,e4,ai,dP];refine⟨_,zk,Og hG s hs s.aL[i].l,λ_=>rfl,?_⟩;cases h1:jl s s.aL[i].l
   .simp[s1,e1,s3,s4,e4,ai,dP,jW,h1]
   simp[s1,e1,s3,s4,e4,ai,dP];refine⟨_,zk,Og hG s hs s.aL[i].r,λ_=>rfl,?_⟩;cases h2:jl s s.aL[i].r
   .simp[s1,e1,s3,s4,e4,ai,dP,jW,h1,h2]
   simp[s1,e1,s3,s4,e4,ai,dP];refine⟨_,zk,Si hG s.aL[i].lo s.aL[i].hi 9,λ_=>rfl,?_⟩;simp[s1,e1,s3,s4,e4,ai,dP,jW,h1,h2]
  clear s1 e1 s3 s4 e4 S H;rintro S H ⟨Vg,s4,e4,s1,e1,s3⟩;cases hp:jW s s.aL[i]
  .rw[hp]at Vg
   have hr:qd s=false:=by unfold qd;rw[ry aq hp];rfl
   simp[Vg,hr]
  rw[hp]at Vg;refine UY Vg ?_
  cases i with
  |zero=>
   simp[s1,e1,s3,s4,e4,ai,aq];exact⟨aQ zo,λj hj ET=>by subst ET;exact hp⟩
  |succ k=>
   have sh:IntKind.i64.wrap (k:Int)=k:=aQ zo;have j0:IntKind.i64.wrap ((k:Int)+1+1)=k+1+1:=aQ zo
   have gE:k<s.aL.length:=zo
   have h0:(0:Int)<(k:Int)+1:=zo
   cases hq:yj s.aL[k] s.aL[k+1]
   .have hr:qd s=false:=by unfold qd;rw[qm aq hq];rfl
    rw[Lz]at hq
    by_cases h1:s.aL[k+1].l<s.aL[k].l
    .simp[s1,e1,s3,s4,e4,ai,dP,sh,gE,h0,h1,hr]
    .cases h2:s.aL[k].l==s.aL[k+1].l
     .simp[h1,h2]at hq
     .by_cases h3:s.aL[k+1].r<=s.aL[k].r
      .simp[s1,e1,s3,s4,e4,ai,dP,sh,gE,h0,h1,h2,h3,hr]
      .simp[h1,h2,h3]at hq
   .have OY:=hq;rw[Lz]at hq
    have h1:¬s.aL[k+1].l<s.aL[k].l:=λh=>by simp[h]at hq
    cases h2:s.aL[k].l==s.aL[k+1].l
    .simp[s1,e1,s3,s4,e4,ai,dP,sh,gE,h0,h1,h2,j0,aq];exact⟨oR aq hb hp,λj hj tN=>Ae aq hc OY j hj zo⟩
    .have h3:¬s.aL[k+1].r<=s.aL[k].r:=λh=>by simp[h1,h2,h]at hq
     simp[s1,e1,s3,s4,e4,ai,dP,sh,gE,h0,h1,h2,h3,j0,aq];exact⟨oR aq hb hp,λj hj tN=>Ae aq hc OY j hj zo⟩
def OP(s:aJ):bj s=(s.aM.all (df · 1 20)&&(s.words.all (ld s)&&(df s.aM.length 1 6&&qd s&&lg s.gk s.gl 0 9&&lg s.js s.jr 0 20&&df s.ck 1 20&&df s.words.length 1 4&&df s.wide 1 400&&df s.rows 1 3))):=by
 unfold bj uh qd;rw[tq,tq]
 cases df s.aM.length 1 6<;>cases decide (s.aL.length<=6)<;>cases df s.words.length 1 4<;>cases nA (jW s) yj s.aL<;>cases s.aM.all (df · 1 20)<;>cases s.words.all (ld s)<;>cases lg s.gk s.gl 0 9<;>simp
def aaJ(hG:ar GI)(s:aJ)(hs:qI s):AC prog GI 39 [cE s] (.ret (.bool (bj s))):=by
 rw[OP];have q1:=hs.aM;have q2:=hs.aL;have q3:=hs.words;refine cw hG func39 ntmps39 c39 ?_;simp[c39,cE,ai];refine bz 3 s.aM.length (λi S H=>S 1=.box 1 0/\H 1=some (ai s)/\S 3=.int .i64 (i:Nat)/\(∀j (hj:j<s.aM.length),j<i->df s.aM[j] 1 20=true)) (λi S H h=>h.2.2.1) ⟨ahB,by simp[ai],ahB,ahB⟩ ?_;rintro i hi S H ⟨s1,e1,s3,hb⟩
 by_cases aq:i<s.aM.length
 case pos=>
  have hw:IntKind.i64.wrap ((i:Int)+1)=i+1:=aQ zo;simp[s1,e1,s3,aq,ai];refine⟨_,zk,vR hG s.aM[i] 1 20,λ_=>rfl,?_⟩;cases hp:df s.aM[i] 1 20
  .simp[vK (p:=λn=>df n 1 20) aq hp]
  .simp[s1,e1,s3,aq,hw];exact⟨rfl,oR (p:=λn=>df n 1 20) aq hb hp⟩
 have dk:i=s.aM.length:=zo
 subst dk
 have eH:s.aM.all (df · 1 20)=true:=yQ λj hj=>hb j hj hj
 simp[s1,e1,s3,ai,eH];refine bz 4 s.words.length (λi S H=>S 1=.box 1 0/\H 1=some (ai s)/\S 4=.int .i64 (i:Nat)/\(∀j (hj:j<s.words.length),j<i->ld s s.words[j]=true)) (λi S H h=>h.2.2.1) ⟨by simp[s1],by simp[e1,ai],ahB,ahB⟩ ?_;clear s1 e1 s3 hb S H;rintro i hi S H ⟨s1,e1,s4,hb⟩
 by_cases aq:i<s.words.length
 case pos=>
  have hw:IntKind.i64.wrap ((i:Int)+1)=i+1:=aQ zo;simp[s1,e1,s4,aq,ai,cG];refine⟨_,zk,abh hG s q1 s.words[i] (hs.aV _ (adC aq)) (hs.bZ _ (adC aq)),λ_=>rfl,?_⟩;cases hp:ld s s.words[i]
  .simp[vK aq hp]
  .simp[s1,e1,s4,aq,hw];exact⟨rfl,oR aq hb hp⟩
 have dk:i=s.words.length:=zo
 subst dk
 have ZW:s.words.all (ld s)=true:=yQ λj hj=>hb j hj hj
 simp[s1,e1,s4,ai,ZW];refine⟨_,zk,vR hG s.aM.length 1 6,λ_=>rfl,?_⟩;cases h1:df s.aM.length 1 6
 .simp
 simp[s1,e1,s4,ai];refine⟨_,zk,abR hG s q1 q2,λ_=>rfl,?_⟩;cases h2:qd s
 .simp
 simp[s1,e1,s4,ai];refine⟨_,zk,Si hG s.gk s.gl 9,λ_=>rfl,?_⟩;cases h3:lg s.gk s.gl 0 9
 .simp
 simp[s1,e1,s4,ai];refine⟨_,zk,Si hG s.js s.jr 20,λ_=>rfl,?_⟩;cases h4:lg s.js s.jr 0 20
 .simp
 simp[s1,e1,s4,ai];refine⟨_,zk,vR hG s.ck 1 20,λ_=>rfl,?_⟩;cases h5:df s.ck 1 20
 .simp
 simp[s1,e1,s4,ai];refine⟨_,zk,vR hG s.words.length 1 4,λ_=>rfl,?_⟩;cases h6:df s.words.length 1 4
 .simp
 simp[s1,e1,s4,ai];refine⟨_,zk,acL hG s.wide,λ_=>rfl,?_⟩;cases h7:df s.wide 1 400
 .simp
 simp[s1,e1,s4,ai];refine⟨_,zk,vR hG s.rows 1 3,λ_=>rfl,?_⟩;simp
end Go.Proofs.Tryz
namespace Go.Proofs.Tryz
open Go.AL
noncomputable def c5:af:=bc 85 f5.cO
def fV(a b:End):Bool:=decide (a.1<b.1)||(a.1==b.1&&decide (a.2<b.2))
def p9{a b:End}:fV a b=true↔a.1<b.1\/a.1=b.1/\a.2<b.2:=by
 simp[fV]
section
variable{l:List End}
end
def qF(s:aJ)(n:Int):Bool:=match s.words[n.toNat]? with|some w=>!w.free|none=>false
def ig(s:aJ)(out:List Int):Bool:=gz out 0 (s.words.length-1)&&decide (out.length<s.words.length)&&!(out.any (qF s))
def ki(s:aJ)(out:List Int)(n:Nat):List End:=if out.contains (n:Int)then[]else match s.words[n]? with
 |some w=>(w.bZ.map λk=>((n:Int),k))++[((n:Int),(w.aV.length:Int))]
 |none=>[]
def mr(s:aJ)(out:List Int):List End:=(List.range s.words.length).flatMap (ki s out)
def lO(out:List Int):Nat->Int
 |0=> -1
 |n+1=>if out.contains (n:Int)then lO out n else n
def yW(s:aJ)(out:List Int)(e:End):Bool:=df e.1 0 (s.words.length-1)&&!out.contains e.1&&match s.words[e.1.toNat]? with
 |some w=>e.2==(w.aV.length:Int)||w.bZ.contains e.2
 |none=>false
def mc(s:aJ)(out:List Int):End:=(lO out s.words.length,match s.words[(lO out s.words.length).toNat]? with|some w=>(w.aV.length:Int)|none=>0)
def mG(s:aJ)(out:List Int)(es:List End):Bool:=ig s out&&!es.isEmpty&&(nA (yW s out) fV es&&(es.getLast?.getD (-1,0)==mc s out))
def EI{s:aJ}{out:List Int}{e:End}:e∈mr s out↔yW s out e=true:=by
 unfold mr yW df;rw[aei];simp only[aeb,adE,adL,aeF,af5,afP]
 constructor
 .rintro⟨n,hn,he⟩;unfold ki at he;split at he
  .cases he
  rename_i hc
  have hc:¬(n:Int)∈out:=by simpa using hc
  rw[adB hn]at he;simp only[adG,adZ,ad2]at he
  have h1:e.1=n:=by rcases he with⟨k,_,rfl⟩|rfl<;>rfl
  rw[h1];refine⟨⟨zo,hc⟩,?_⟩;rw[Int.toNat_natCast,adB hn];simp only[aeZ,aej,adL];rcases he with⟨k,hk,rfl⟩|rfl
  .exact .inr hk
  .exact .inl rfl
 .rintro⟨⟨⟨h1,h2⟩,hc⟩,h3⟩;obtain⟨w,k⟩:=e
  obtain⟨n,rfl⟩:∃n:Nat,w=n:=⟨w.toNat,by simp only at h1;omega⟩
  simp only at h1 h2 hc h3
  have hn:n<s.words.length:=zo
  refine⟨n,hn,?_⟩;unfold ki;rw[if_neg (by simpa using hc)];rw[Int.toNat_natCast,adB hn]at h3;rw[adB hn];simp only[aeZ,aej,adL]at h3;simp only[adG,adZ,ad2];rcases h3 with rfl|h3
  .exact .inr rfl
  .exact .inl ⟨k,h3,rfl⟩
def xu{s:aJ}{out:List Int}(hw:∀w∈s.words,gz w.bZ 1 (w.aV.length-1)=true):(mr s out).Pairwise λa b=>fV a b=true:=by
 unfold mr;rw[List.pairwise_flatMap]
 constructor
 .intro n hn;rw[aeb]at hn;unfold ki;split
  .exact .nil
  rw[adB hn];have h:=hw s.words[n] (adC hn);unfold gz at h;rw[fW]at h;obtain⟨h1,h2⟩:=h;simp only;rw[af7];refine⟨?_,ags _ _,?_⟩
  .rw[List.pairwise_map]
   have:s.words[n].bZ.Pairwise λa b=>a<b:=PM λj hj=>by simpa using h2 j hj
   exact this.imp λh=>by simp[fV,h]
  .intro a ha b hb;rw[ad2]at hb;subst hb;obtain⟨k,hk,rfl⟩:=adZ.1 ha;have:=h1 k hk;simp[df]at this;simp[fV];omega
 .refine List.Pairwise.imp_of_mem ?_ aho;intro a b ha hb vn x hx y hy
  have oy:x.1=a:=by
   unfold ki at hx;split at hx
   .cases hx
   split at hx
   .simp only[adG,adZ,ad2]at hx
    rcases hx with⟨k,_,rfl⟩|rfl<;>rfl
   .cases hx
  have Jn:y.1=b:=by
   unfold ki at hy;split at hy
   .cases hy
   split at hy
   .simp only[adG,adZ,ad2]at hy
    rcases hy with⟨k,_,rfl⟩|rfl<;>rfl
   .cases hy
  rw[p9,oy,Jn];left;omega
def B8{out:List Int}:∀n:Nat,(lO out n= -1/\∀k:Nat,k<n->(k:Int)∈out)\/∃m:Nat,m<n/\lO out n=m/\¬(m:Int)∈out/\∀k:Nat,m<k->k<n->(k:Int)∈out
 |0=>.inl ⟨rfl,λk hk=>zo⟩
 |n+1=>by
  unfold lO;split
  .rename_i hc
   have hc:(n:Int)∈out:=by simpa using hc
   rcases B8 (out:=out) n with⟨h1,h2⟩|⟨m,h1,h2,h3,h4⟩
   .refine .inl ⟨h1,λk hk=>?_⟩
    by_cases e:k=n
    .subst e;exact hc
    .exact h2 k zo
   .refine .inr ⟨m,zo,h2,h3,λk hk cz=>?_⟩
    by_cases e:k=n
    .subst e;exact hc
    .exact h4 k hk zo
  .rename_i hc;exact .inr ⟨n,zo,rfl,by simpa using hc,λk h1 h2=>zo⟩
def Qh{s:aJ}{out:List Int}(h:ig s out=true):∃m:Nat,m<s.words.length/\lO out s.words.length=m/\¬(m:Int)∈out/\∀k:Nat,m<k->k<s.words.length->(k:Int)∈out:=by
 unfold ig at h;simp only[adE,adL]at h;obtain⟨⟨h1,h2⟩,_⟩:=h;rcases B8 (out:=out) s.words.length with⟨_,h3⟩|h3
 .exfalso;unfold gz at h1;rw[fW]at h1;obtain⟨_,h1⟩:=h1
  have hp:out.Pairwise λa b=>a<b:=PM λj hj=>by simpa using h1 j hj
  have hp:=afp.1 hp
  have key:∀k:Nat,k<s.words.length->∃j,k<=j/\∃hj:j<out.length,out[j]=k:=by
   intro k
   induction k with
   |zero=>
    intro hk;obtain⟨j,hj,e⟩:=aer (h3 0 hk);exact⟨j,zo,hj,e⟩
   |succ k ih=>
    intro hk;obtain⟨j,hkj,hj,e⟩:=ih zo;obtain⟨j',dZ,e'⟩:=aer (h3 (k+1) hk);refine⟨j',?_,dZ,e'⟩;rcases Nat.lt_trichotomy j j' with h|h|h
    .omega
    .subst h;omega
    .have:=hp j' j dZ hj h;omega
  obtain⟨j,hkj,hj,_⟩:=key (s.words.length-1) zo;omega
 .exact h3
def En{s:aJ}{out:List Int}(h:ig s out=true):(mr s out).getLast?=some (mc s out):=by
 obtain⟨m,h1,h2,h3,h4⟩:=Qh h
 have hl:mc s out=((m:Int),((s.words[m]).aV.length:Int)):=by
  unfold mc;rw[h2,Int.toNat_natCast,adB h1]
 rw[hl];unfold mr
 obtain⟨d,hd⟩:∃d,s.words.length=m+1+d:=⟨s.words.length-m-1,zo⟩
 have key:∀d,m+1+d<=s.words.length->((List.range (m+1+d)).flatMap (ki s out)).getLast?=some ((m:Int),((s.words[m]).aV.length:Int)):=by
  intro d
  induction d with
  |zero=>
   intro _;rw[Nat.add_zero,aeV,afj,afX]
   have hm:¬(out.contains (m:Int)=true):=by simpa using h3
   have e:ki s out m=(s.words[m].bZ.map λk=>((m:Int),k))++[((m:Int),(s.words[m].aV.length:Int))]:=by
    unfold ki;rw[if_neg hm,adB h1]
   rw[e,<-aek,ahu];simp
  |succ d ih=>
   intro hle;rw[<-afQ,aeV,afj,afX]
   have hc:out.contains ((m+1+d:Nat):Int)=true:=by simpa using h4 (m+1+d) zo zo
   have e:ki s out (m+1+d)=[]:=by
    unfold ki;rw[if_pos hc]
   rw[e,aeI];exact ih zo
 rw[hd];exact key d zo
def ef(s:aJ)(w:Nat):Nat:=match s.words[w]? with|some x=>x.aV.length|none=>0
def kP{s:aJ}{w:Nat}(h:w<s.words.length):ef s w=s.words[w].aV.length:=by unfold ef;rw[adB h]
def qG(w f t:Nat):List (Nat×Nat):=(List.range' f (t-f)).map λi=>(w,i)
def kq(s:aJ)(out:List Int):Nat->Nat->Nat->Nat->List (Nat×Nat)
 |0,w,f,t=>qG w f t
 |d+1,w,f,t=>(if out.contains (w:Int)then[]else qG w f (ef s w))++kq s out d (w+1) 0 t
def ma(s:aJ)(out:List Int)(a e:Nat×Nat):List (Nat×Nat):=kq s out (e.1-a.1) a.1 a.2 e.2
def Km{w f t:Nat}(h:t<=f):qG w f t=[]:=by
 unfold qG;rw[show t-f=0 by omega];rfl
def GC{w f t:Nat}(h:f<t):qG w f t=(w,f)::qG w (f+1) t:=by
 unfold qG;rw[show t-f=(t-(f+1))+1 by omega,aff];rfl
def QT{w f t:Nat}(h:f<=t):qG w f (t+1)=qG w f t++[(w,t)]:=by
 unfold qG;rw[show t+1-f=(t-f)+1 by omega,agh,ad6];simp only[adU,aee,Nat.one_mul];rw[show f+(t-f)=t by omega]
def Lb{w f t:Nat}:(qG w f t).length=t-f:=by simp[qG]
def Kw{w f t:Nat}{g:Nat×Nat}:g∈qG w f t↔g.1=w/\f<=g.2/\g.2<t:=by
 unfold qG;rw[adZ];simp only[af0]
 constructor
 .rintro⟨i,hi,rfl⟩;exact⟨rfl,hi.1,by have:=hi.2;show i<t;omega⟩
 .rintro⟨h1,h2,h3⟩;exact⟨g.2,zo,by rw[<-h1]⟩
def NR{s:aJ}{out:List Int}{w f t:Nat}(h:t<=f):ma s out (w,f) (w,t)=[]:=by
 unfold ma;simp only[agL];exact Km h
def De{s:aJ}{out:List Int}{w f t:Nat}:ma s out (w,f) (w,t)=qG w f t:=by
 unfold ma;simp only[agL]
 rfl
def uc{s:aJ}{out:List Int}{w f:Nat}{e:Nat×Nat}(h:w<e.1):ma s out (w,f) e=(if out.contains (w:Int)then[]else qG w f (ef s w))++ma s out (w+1,0) e:=by
 unfold ma;simp only;rw[show e.1-w=(e.1-(w+1))+1 by omega]
 rfl
def Qm{s:aJ}{out:List Int}{w f:Nat}{e:Nat×Nat}(h:w<e.1)(hc:out.contains (w:Int)=true):ma s out (w,f) e=ma s out (w+1,0) e:=by
 rw[uc h,if_pos hc,List.nil_append]
def M6{s:aJ}{out:List Int}{w f:Nat}{e:Nat×Nat}(h:w<e.1)(hf:ef s w<=f):ma s out (w,f) e=ma s out (w+1,0) e:=by
 rw[uc h];split
 .rfl
 .rw[Km hf];rfl
def Sb{s:aJ}{out:List Int}{w f:Nat}{e:Nat×Nat}(h:w<e.1/\out.contains (w:Int)=false/\f<ef s w\/w=e.1/\f<e.2):ma s out (w,f) e=(w,f)::ma s out (w,f+1) e:=by
 rcases h with⟨h,hc,hf⟩|⟨h,hf⟩
 .rw[uc h,uc h,hc];simp only[adM,ad1];rw[GC hf];rfl
 .obtain⟨ew,et⟩:=e;simp only at h hf;subst h;rw[De,De,GC hf]
def GN{s:aJ}{out:List Int}{b:Nat}(hb:∀w,ef s w<=b):∀(d w f t:Nat),t<=b->(kq s out d w f t).length<=(d+1)*b
 |0,w,f,t,h=>by
  unfold kq;rw[Lb];omega
 |d+1,w,f,t,h=>by
  unfold kq;rw[adV];have h1:=GN (out:=out) hb d (w+1) 0 t h
  have h2:(if out.contains (w:Int)then[]else qG w f (ef s w)).length<=b:=by
   split
   .simp
   .rw[Lb];have:=hb w;omega
  have:(d+1+1)*b=(d+1)*b+b:=ag9 _ _;omega
def FM{s:aJ}{out:List Int}:∀(d w f t:Nat){g:Nat×Nat},g∈kq s out d w f t->(g.1=w+d/\g.2<t)\/(w<=g.1/\g.1<w+d/\g.2<ef s g.1)
 |0,w,f,t,g,h=>by
  have:=Kw.1 h;left;omega
 |d+1,w,f,t,g,h=>by
  unfold kq at h;rcases adG.1 h with h|h
  .split at h
   .cases h
   .have:=Kw.1 h;right;rw[this.1];omega
  .rcases FM d (w+1) 0 t h with h|h
   .left;omega
   .right;omega
def GH{s:aJ}{out:List Int}:∀(d w f t:Nat),(d=0->f<t)->0<t->(kq s out d w f t).getLast?=some (w+d,t-1)
 |0,w,f,t,h,h'=>by
  have h:=h rfl;unfold kq
  obtain⟨t,rfl⟩:∃t',t=t'+1:=⟨t-1,zo⟩
  rw[QT zo];simp
 |d+1,w,f,t,h,h'=>by
  unfold kq;have:=GH (s:=s) (out:=out) d (w+1) 0 t (λ_=>h') h';rw[ahu,this];show some (w+1+d,t-1)=some (w+(d+1),t-1);rw[show w+1+d=w+(d+1) by omega]
def nE(e:End):Nat×Nat:=(e.1.toNat,e.2.toNat)
def nv(es:List End):Nat->Nat×Nat
 |0=>(0,0)
 |i+1=>match es[i]? with|some e=>nE e|none=>(0,0)
def ko(s:aJ)(out:List Int)(es:List End)(i:Nat):List (Nat×Nat):=match es[i]? with|some e=>ma s out (nv es i) (nE e)|none=>[]
def lG(s:aJ)(es:List End)(i:Nat):Bool:=match es[i]? with|some e=>decide (e.2<(ef s e.1.toNat:Int))|none=>false
structure Good(s:aJ)(out:List Int)(es:List End):Prop where
 one:∀i (h:i<es.length),0<=es[i].1/\es[i].1<s.words.length/\out.contains es[i].1=false/\1<=es[i].2/\es[i].2<=ef s es[i].1.toNat
 abk:∀i (h:i+1<es.length),es[i].1<es[i+1].1\/es[i].1=es[i+1].1/\es[i].2<es[i+1].2
def FD{s:aJ}(h:bj s=true){w:Word}(hw:w∈s.words):ld s w=true:=by
 unfold bj uh at h;simp only[adE,aeF,aeE]at h;have:=h.2.1.1.2 w hw;simpa using this
structure YK(s:aJ)(w:Word):Prop where
 BD:1<=w.aV.length
 zh:w.aV.length<=6
 sign:∀n∈w.aV,0<=n/\n<s.aM.length
 bZ:gz w.bZ 1 (w.aV.length-1)=true
def mZ{s:aJ}(h:bj s=true){w:Word}(hw:w∈s.words):YK s w:=by
 have h:=FD h hw;unfold ld at h;simp only[adE,aeF,aeE,df,adL]at h;obtain⟨⟨⟨h1,h2⟩,h3⟩,h4⟩:=h;refine⟨zo,zo,λn hn=>?_,h4⟩;have:=h3 n hn;simp[jl,df]at this;omega
def yK{s:aJ}{out:List Int}{es:List End}(hs:bj s=true)(h:mG s out es=true):Good s out es:=by
 unfold mG at h;simp only[adE]at h;obtain⟨_,h,_⟩:=h;rw[fW]at h;obtain⟨h1,h2⟩:=h;refine⟨λi hi=>?_,λi hi=>?_⟩
 .have:=h1 _ (adC hi);unfold yW df at this;simp only[adE,adL,aeF]at this;obtain⟨⟨⟨a1,a2⟩,a3⟩,a4⟩:=this
  have aq:es[i].1.toNat<s.words.length:=zo
  rw[adB aq]at a4;have hw:=mZ hs (adC aq);rw[kP aq];refine⟨a1,zo,a3,?_⟩;simp only[aeZ,aej]at a4;rcases a4 with a4|a4
  .have:=hw.BD;omega
  .have hc:=hw.bZ;unfold gz at hc;rw[fW]at hc;have:=hc.1 _ (by simpa using a4);simp[df]at this;omega
 .have:=h2 i hi;rw[p9]at this;exact this
def Jh{s:aJ}{out:List Int}{es:List End}(g:Good s out es){i:Nat}(h:i<es.length):(nv es i).1<(nE es[i]).1\/(nv es i).1=(nE es[i]).1/\(nv es i).2<(nE es[i]).2:=by
 cases i with
 |zero=>
  have:=g.one 0 h;show 0<es[0].1.toNat\/0=es[0].1.toNat/\0<es[0].2.toNat;omega
 |succ i=>
  have h1:=g.one i zo;have h2:=g.one (i+1) h;have h3:=g.abk i h
  have e:nv es (i+1)=nE es[i]:=by
   show(match es[i]? with|some e=>nE e|none=>(0,0))=_;rw[adB zo]
  rw[e];show es[i].1.toNat<es[i+1].1.toNat\/es[i].1.toNat=es[i+1].1.toNat/\es[i].2.toNat<es[i+1].2.toNat;omega
def rZ{s:aJ}{out:List Int}{es:List End}{i:Nat}(h:i<es.length):ko s out es i=ma s out (nv es i) (nE es[i]):=by
 unfold ko;rw[adB h]
def D7{s:aJ}{es:List End}{i:Nat}(h:i<es.length):lG s es i=decide (es[i].2<(ef s es[i].1.toNat:Int)):=by
 unfold lG;rw[adB h]
def Nu{s:aJ}{out:List Int}{es:List End}(g:Good s out es){i:Nat}(h:i<es.length):(ko s out es i).getLast?=some ((nE es[i]).1,(nE es[i]).2-1):=by
 have h1:=Jh g h;have h2:=g.one i h;rw[rZ h];unfold ma
 have h3:0<(nE es[i]).2:=by show 0<es[i].2.toNat;omega
 rw[GH _ _ _ _ (λhd=>zo) h3]
 congr 2
 omega
def LP{s:aJ}{out:List Int}{es:List End}(g:Good s out es){i:Nat}(h:i<es.length):ko s out es i≠[]:=by
 intro e;have:=Nu g h;rw[e]at this;cases this
def Rh{s:aJ}{out:List Int}{es:List End}(g:Good s out es){i:Nat}{x:Nat×Nat}(hx:x∈ko s out es i):x.1<s.words.length/\x.2<ef s x.1:=by
 by_cases h:i<es.length
 case neg=>
  unfold ko at hx;rw[ad3 zo]at hx;cases hx
 have h1:=Jh g h;have h2:=g.one i h;rw[rZ h]at hx;have e1:(nE es[i]).1=es[i].1.toNat:=rfl;have e2:(nE es[i]).2=es[i].2.toNat:=rfl
 rcases FM _ _ _ _ hx with⟨h3,h4⟩|⟨h3,h4,h5⟩
 .have h5:x.1=es[i].1.toNat:=zo
  rw[h5];refine⟨zo,zo⟩
 .exact⟨zo,h5⟩
def Gx{s:aJ}{out:List Int}{es:List End}(hs:bj s=true)(g:Good s out es)(i:Nat):(ko s out es i).length<=24:=by
 by_cases h:i<es.length
 case neg=>
  unfold ko;rw[ad3 zo];simp
 have h2:=g.one i h
 have hb:∀w,ef s w<=6:=by
  intro w;unfold ef;split
  .rename_i x hx;obtain⟨aq,rfl⟩:=ad0.1 hx;exact(mZ hs (adC aq)).zh
  .omega
 rw[rZ h];unfold ma;have h3:=GN (s:=s) (out:=out) hb ((nE es[i]).1-(nv es i).1) (nv es i).1 (nv es i).2 (nE es[i]).2 (by have:=hb es[i].1.toNat;show es[i].2.toNat<=6;omega)
 have h4:s.words.length<=4:=by
  unfold bj df at hs;simp only[adE,adL]at hs;omega
 have h5:(nE es[i]).1<s.words.length:=by show es[i].1.toNat<_;omega
 have h6:((nE es[i]).1-(nv es i).1+1)*6<=4*6:=ae0 _ zo;omega
abbrev Lt:=Int×Int
def bQ(s:aJ)(g:Nat×Nat):Lt:=((g.1:Int),match s.words[g.1]? with|some w=>w.aV[g.2]?.getD 0|none=>0)
def nh(lo hi st:Int):Int:=lo+((hi-lo)*st).tdiv 10
def lS(s:aJ)(a b:Lt):Int×Int:=if a.1=b.1 then match s.aL.find? λp=>p.l==a.2&&p.r==b.2 with
 |some p=>(p.lo,p.hi)
 |none=>(s.gk,s.gl)
 else(s.js,s.jr)
def py(s:aJ)(st:Int)(a b:Lt):Int:=nh (lS s a b).1 (lS s a b).2 st
def mY(s:aJ)(a:Lt):Int:=if a.2<0 then s.ck else s.aM[a.2.toNat]?.getD 0
def kf(s:aJ)(st:Int)(l:List Lt):Nat->Int
 |0=>0
 |i+1=>kf s st l i+(match l[i]?,l[i+1]? with|some a,some b=>py s st a b|_,_=>0)
def B7{s:aJ}{st:Int}{l:List Lt}{i:Nat}(h:i+1<l.length):kf s st l (i+1)=kf s st l i+py s st (l[i]' zo) l[i+1]:=by
 show kf s st l i+(match l[i]?,l[i+1]? with|some a,some b=>py s st a b|_,_=>0)=_;rw[adB zo,adB h]
def kj(s:aJ)(l:List Lt):Nat->Int
 |0=>0
 |i+1=>kj s l i+(match l[i]? with|some a=>mY s a|none=>0)
def A4{s:aJ}{l:List Lt}{i:Nat}(h:i<l.length):kj s l (i+1)=kj s l i+mY s l[i]:=by
 show kj s l i+(match l[i]? with|some a=>mY s a|none=>0)=_;rw[adB h]
def lK(s:aJ)(st:Int)(l:List Lt)(cut:Bool):Int:=(kj s l l.length+(if cut then s.ck else 0))+(kf s st l (l.length-1)+(if cut then nh s.gk s.gl st else 0))
def nR{lo hi st:Int}(h:lo<=hi)(h0:0<=st)(h1:st<=10):lo<=nh lo hi st/\nh lo hi st<=hi:=by
 unfold nh;have a:0<=(hi-lo)*st:=aes zo h0;have b:(hi-lo)*st<=(hi-lo)*10:=Int.mul_le_mul_of_nonneg_left h1 zo;rw[aev a];generalize(hi-lo)*st=x at a b⊢;omega
structure qn(s:aJ):Prop where
 aM:∀n∈s.aM,1<=n/\n<=20
 Gq:s.aM.length<=6
 aL:∀p∈s.aL,0<=p.l/\0<=p.r/\0<=p.lo/\p.lo<=p.hi/\p.hi<=9
 Pg:s.aL.length<=6
 o:0<=s.gk/\s.gk<=s.gl/\s.gl<=9
 g:0<=s.js/\s.js<=s.jr/\s.jr<=20
 ck:1<=s.ck/\s.ck<=20
 words:1<=s.words.length/\s.words.length<=4
 wide:1<=s.wide/\s.wide<=400
 rows:1<=s.rows/\s.rows<=3
def gx{s:aJ}(h:bj s=true):qn s:=by
 unfold bj uh lg df at h;simp only[adE,adL,aeF,aeE,fW]at h;obtain⟨⟨⟨⟨h1,h2⟩,h3⟩,h4,_⟩,⟨⟨⟨⟨⟨h5,h6⟩,h7⟩,h8⟩,_⟩,h9⟩,pJ⟩:=h;refine⟨λn hn=>?_,zo,λp hp=>?_,h2,zo,zo,zo,zo,h9,pJ⟩
 .have:=h5 n hn;simpa using this
 .have:=h4 p hp;unfold jW jl lg df at this;simp only[adE,adL]at this;omega
def wU{s:aJ}(h:qn s)(a b:Lt):0<=(lS s a b).1/\(lS s a b).1<=(lS s a b).2/\(lS s a b).2<=20:=by
 unfold lS;split
 .split
  .rename_i p hp;have:=h.aL p (ag6 hp);simp only;omega
  .have:=h.o;simp only;omega
 .have:=h.g;simp only;omega
def Bi{s:aJ}(h:qn s){st:Int}(h0:0<=st)(h1:st<=10)(a b:Lt):0<=py s st a b/\py s st a b<=20:=by
 have h2:=wU h a b;have h3:=nR h2.2.1 h0 h1;unfold py;omega
def OZ(s:aJ)(a:Lt):Prop:=0<=a.2/\a.2<s.aM.length
def BS{s:aJ}(h:qn s){a:Lt}(ha:OZ s a):1<=mY s a/\mY s a<=20:=by
 unfold mY;rw[if_neg (by have:=ha.1;omega)]
 have aq:a.2.toNat<s.aM.length:=by have:=ha.1;have:=ha.2;omega
 rw[adB aq];exact h.aM _ (adC aq)
def rL{s:aJ}(h:qn s){l:List Lt}(hl:∀a∈l,OZ s a):∀{i:Nat},i<=l.length->(i:Int)<=kj s l i/\kj s l i<=20*i
 |0,_=>by simp[kj]
 |i+1,hi=>by
  rw[A4 zo];have:=rL h hl (i:=i) zo;have:=BS h (hl _ (adC (show i<l.length by omega)));omega
def rF{s:aJ}(h:qn s){st:Int}(h0:0<=st)(h1:st<=10){l:List Lt}:∀{i:Nat},i+1<=l.length->0<=kf s st l i/\kf s st l i<=20*i
 |0,_=>by simp[kf]
 |i+1,hi=>by
  rw[B7 hi];have:=rF h h0 h1 (l:=l) (i:=i) zo;have:=Bi h h0 h1 (l[i]' zo) (l[i+1]'hi);omega
def FC{s:aJ}(h:qn s){st:Int}(h0:0<=st)(h1:st<=10){l:List Lt}(hl:l≠[])(ho:∀a∈l,OZ s a)(hlen:l.length<=24)(cut:Bool):1<=lK s st l cut/\lK s st l cut<=1000:=by
 have iJ:=aeR.2 hl;unfold lK;have:=rF h h0 h1 (l:=l) (i:=l.length-1) zo;have:=rL h ho (i:=l.length) zo;have:=nR h.o.2.1 h0 h1;have:=h.o;have:=h.ck
 split<;>omega
def rX(s:aJ)(out:List Int)(es:List End)(st:Int)(i:Nat):Int:=lK s st ((ko s out es i).map (bQ s)) (lG s es i)
def fm(s:aJ)(out:List Int)(es:List End)(st:Int):List Int:=(List.range es.length).map (rX s out es st)
def ll(s:aJ)(out:List Int)(es:List End)(st:Int):Bool:=decide ((es.length:Int)<=s.rows)&&(fm s out es st).all λn=>decide (n<=s.wide)
def Ac(p:Int->Bool):Nat->Int
 |0=> -1
 |n+1=>if p n then n else Ac p n
def zS(s:aJ)(out:List Int)(es:List End):Int:=Ac (ll s out es) 11
def U'{s:aJ}(hs:bj s=true){g:Nat×Nat}(h:g.1<s.words.length/\g.2<ef s g.1):OZ s (bQ s g):=by
 obtain⟨h1,h2⟩:=h;rw[kP h1]at h2;unfold bQ OZ;simp only;rw[adB h1];simp only;rw[adB h2];exact(mZ hs (adC h1)).sign _ (adC h2)
section
variable{s:aJ}{out:List Int}{es:List End}
end
def WD{now es:List End}:∀{all:List End}{m:Nat},all≠[]->all.Nodup->(es∈ch now all m↔∃t,es=now++t/\t.Sublist all/\t.getLast?=all.getLast?/\t.length<=m):=by
 have key:∀(all:List End),all.Nodup->∀(now:List End)(m:Nat),(all≠[]->(es∈ch now all m↔∃t,es=now++t/\t.Sublist all/\t.getLast?=all.getLast?/\t.length<=m))/\(all≠[]->(es∈lp now all m↔∃t,es=now++t/\t.Sublist all/\t.getLast?=all.getLast?/\t.length<=m+1)):=by
  intro all
  induction all with
  |nil=>intro _ now m;exact⟨λh=>absurd rfl h,λh=>absurd rfl h⟩
  |cons a r ih=>
   intro dO;obtain⟨hna,hnr⟩:=afu.1 dO;have ih:=ih hnr
   have Vu:∀(now:List End)(m:Nat),es∈lp now (a::r) m↔∃t,es=now++t/\t.Sublist (a::r)/\t.getLast?=(a::r).getLast?/\t.length<=m+1:=by
    intro now m;unfold lp;rw[adG]
    by_cases hr:r=[]
    .subst hr;rw[if_pos rfl,ad2]
     constructor
     .rintro(h|h)
      .exact⟨[a],h,List.Sublist.refl _,rfl,ahB⟩
      .unfold lp at h;cases h
     .rintro⟨t,h1,h2,h3,h4⟩;left
      have:t=[a]:=by
       cases h2 with
       |cons _ h=>rw[List.sublist_nil.1 h]at h3;cases h3
       |cons_cons _ h=>rw[List.sublist_nil.1 h]
      rw[h1,this]
    .rw[if_neg hr]
     have hl:(a::r).getLast?=r.getLast?:=by
      cases r with
      |nil=>exact absurd rfl hr
      |cons b r=>rfl
     have h1:(es∈(match m with|0=>[]|m+1=>lp (now++[a]) r m))↔∃t,es=now++a::t/\t.Sublist r/\t.getLast?=r.getLast?/\t.length<=m:=by
      cases m with
      |zero=>
       constructor
       .intro h;cases h
       .rintro⟨t,_,_,h3,h4⟩;have:t=[]:=afh.1 zo;subst this;exact absurd (afI.1 h3.symm) hr
      |succ m=>
       simp only;rw[(ih (now++[a]) m).2 hr];simp
     rw[hl];refine(or_congr h1 ((ih now m).2 hr)).trans ?_
     constructor
     .rintro(⟨t,a1,a2,a3,a4⟩|⟨t,a1,a2,a3,a4⟩)
      .refine⟨a::t,a1,a2.cons_cons _,?_,by simp;omega⟩
       cases t with
       |nil=>exact absurd (afI.1 a3.symm) hr
       |cons b t=>rw[<-a3];rfl
      .exact⟨t,a1,a2.cons _,a3,a4⟩
     .rintro⟨t,a1,a2,a3,a4⟩
      cases a2 with
      |cons _ h=>exact .inr ⟨t,a1,h,a3,a4⟩
      |cons_cons _ h=>
       rename_i t;left;refine⟨t,a1,h,?_,by simpa using a4⟩
       cases t with
       |nil=>
        exfalso;apply hna;exact ahv a3.symm
       |cons b t=>rw[<-a3];rfl
   intro now m;refine⟨λ_=>?_,λ_=>Vu now m⟩;unfold ch;rw[if_neg ahB]
   cases m with
   |zero=>
    constructor
    .intro h;cases h
    .rintro⟨t,_,_,h3,h4⟩;have:t=[]:=afh.1 zo;subst this
     cases r with
     |nil=>cases h3
     |cons b r=>exact absurd (afI.1 h3.symm) ahB
   |succ m=>exact Vu now m
 intro all m h dO;exact(key all dO now m).1 h
def uY{a b c:End}(h:fV a b=true)(h':fV b c=true):fV a c=true:=by
 rw[p9]at*;omega
def jH(a:End):fV a a=false:=by
 cases h:fV a a with
 |false=>rfl
 |true=>rw[p9]at h;omega
abbrev nZ(l:List End):Prop:=l.Pairwise λa b=>fV a b=true
def nZ.nodup{l:List End}(h:nZ l):l.Nodup:=h.imp λvn e=>by
 subst e;rw[jH]at vn;cases vn
def vL:∀{all t:List End},nZ all->nZ t->(∀x∈t,x∈all)->t.Sublist all
 |[],t,_,_,h=>by
  cases t with
  |nil=>exact .slnil
  |cons a t=>exact absurd (h a adX) ahB
 |a::r,[],_,_,_=>List.nil_sublist _
 |a::r,b::t,hs,ht,h=>by
  obtain⟨yb,yH⟩:=agj.1 hs;obtain⟨ht1,ht2⟩:=agj.1 ht;rcases ad_.1 (h b adX)with e|hb
  .subst e;refine .cons_cons _ (vL yH ht2 λx hx=>?_);rcases ad_.1 (h x (adO _ hx))with e|Ig
   .subst e;have:=ht1 _ hx;rw[jH]at this;cases this
   .exact Ig
  .refine .cons _ (vL yH ht λx hx=>?_);rcases ad_.1 (h x hx)with e|Ig
   .subst e;exfalso;have h1:=yb b hb;rcases ad_.1 hx with e|mJ
    .subst e;rw[jH]at h1;cases h1
    .have:=uY h1 (ht1 _ mJ);rw[jH]at this;cases this
   .exact Ig
def vl{l:List End}(h:∀j (hj:j+1<l.length),fV (l[j]' zo) l[j+1]=true):nZ l:=by
 unfold nZ;rw[afp];intro i j hi hj so
 obtain⟨d,rfl⟩:∃d,j=i+1+d:=⟨j-i-1,zo⟩
 clear so
 induction d with
 |zero=>exact h i hj
 |succ d ih=>exact uY (ih zo) (h (i+1+d) hj)
section
variable{s:aJ}{out:List Int}{es:List End}
def Q8(ho:ig s out=true):mr s out≠[]:=by
 intro e;have:=En ho;rw[e]at this;cases this
def BH(hs:bj s=true):∀w∈s.words,gz w.bZ 1 (w.aV.length-1)=true:=λ_ hw=>(mZ hs hw).bZ
def Dn(s:aJ)(out:List Int)(m:Nat):List (List End):=ch [] (mr s out) m
def F0(hs:bj s=true)(ho:ig s out=true){m:Nat}:es∈Dn s out m↔mG s out es=true/\es.length<=m:=by
 have Z8:=xu (out:=out) (BH hs);unfold Dn;rw[WD (Q8 ho) (nZ.nodup Z8)];unfold mG;rw[ho,ag3,adE,adE,fW,aeF,aej];have hl:=En ho
 constructor
 .rintro⟨t,h1,h2,h3,h4⟩;rw[List.nil_append]at h1;subst h1;rw[h3,hl]
  have cD:es≠[]:=by
   rintro rfl;rw[hl]at h3;cases h3
  have eJ:nZ es:=Z8.sublist h2;refine⟨⟨by simpa using cD,⟨λx hx=>EI.1 (h2.subset hx),λj hj=>afp.1 eJ j (j+1) _ _ zo⟩,rfl⟩,h4⟩
 .rintro⟨⟨h1,⟨h2,h3⟩,h4⟩,h5⟩
  have cD:es≠[]:=by
   rintro rfl;cases h1
  refine⟨es,rfl,vL Z8 (vl h3) λx hx=>EI.2 (h2 x hx),?_,h5⟩;rw[List.getLast?_eq_some_getLast cD]at h4⊢;rw[hl];exact congrArg some h4
end
def uU:List End->List End->Bool
 |[],[]=>false
 |[],_::_=>true
 |_::_,[]=>false
 |a::x,b::y=>if a=b then uU x y else fV a b
def Qy(now x y:List End):uU (now++x) (now++y)=uU x y:=by
 induction now with
 |nil=>rfl
 |cons a now ih=>
  show(if a=a then uU (now++x) (now++y)else fV a a)=_;rw[if_pos rfl,ih]
def zc:∀l:List End,uU l l=false
 |[]=>rfl
 |a::l=>by
  unfold uU;rw[if_pos rfl];exact zc l
def p7{es:List End}:∀{all now:List End}{m:Nat},es∈lp now all m->∃b t,b∈all/\es=now++b::t
 |[],now,m,h=>by unfold lp at h;cases h
 |a::r,now,m,h=>by
  unfold lp at h;rcases adG.1 h with h|h
  .split at h
   .exact⟨a,[],adX,ad2.1 h⟩
   .split at h
    .cases h
    .obtain⟨b,t,h1,rfl⟩:=p7 h;exact⟨a,b::t,adX,ahB⟩
  .obtain⟨b,t,h1,rfl⟩:=p7 h;exact⟨b,t,adO _ h1,rfl⟩
def yk:∀{all now:List End}{m:Nat},nZ all->(lp now all m).Pairwise λx y=>uU x y=true
 |[],now,m,_=>by unfold lp;exact .nil
 |a::r,now,m,hs=>by
  obtain⟨yb,yH⟩:=agj.1 hs;unfold lp;rw[af7];refine⟨?_,yk yH,?_⟩
  .split
   .exact ags _ _
   .split
    .exact .nil
    .exact yk yH
  .intro x hx y hy;obtain⟨b,t,hb,rfl⟩:=p7 hy
   have Ig:∃u,x=now++a::u:=by
    split at hx
    .exact⟨[],ad2.1 hx⟩
    .split at hx
     .cases hx
     .obtain⟨c,u,_,rfl⟩:=p7 hx;exact⟨c::u,ahB⟩
   obtain⟨u,rfl⟩:=Ig;rw[Qy];unfold uU;have vn:=yb b hb;rw[if_neg,vn];rintro rfl;rw[jH]at vn;cases vn
def Nf{all now:List End}{m:Nat}(hs:nZ all):(ch now all m).Pairwise λx y=>uU x y=true:=by
 unfold ch;split
 .exact ags _ _
 .split
  .exact .nil
  .exact yk hs
def JZ{l:List (List End)}(h:l.Pairwise λx y=>uU x y=true):l.Nodup:=h.imp λvn e=>by
 subst e;rw[zc]at vn;cases vn
def lD(s:aJ)(out:List Int):List (List End):=(Dn s out s.rows.toNat).filter λes=>ll s out es 0
def xR{s:aJ}{out:List Int}{es:List End}(hs:bj s=true)(ho:ig s out=true):es∈lD s out↔mG s out es=true/\ll s out es 0=true:=by
 unfold lD;rw[afT,F0 hs ho]
 constructor
 .rintro⟨⟨h1,_⟩,h2⟩;exact⟨h1,h2⟩
 .rintro⟨h1,h2⟩;refine⟨⟨h1,?_⟩,h2⟩;unfold ll at h2;simp only[adE,adL]at h2;omega
def FG{s:aJ}{out:List Int}(hs:bj s=true):(lD s out).Pairwise λx y=>uU x y=true:=
 (Nf (xu (BH hs))).sublist List.filter_sublist
section
variable{α:Type}
def kv(better:α->α->Bool)(x:α)(l:List α):α:=l.foldl (λo x=>if better x o then x else o) x
end
def Ei{α:Type}[DecidableEq α]:∀{l r:List α},l.Nodup->(∀x∈l,x∈r)->l.length<=r.length
 |[],_,_,_=>aeu _
 |a::l,r,h,hs=>by
  obtain⟨h1,h2⟩:=afu.1 h;have ha:=hs a adX;have hl:=ahe ha;have hp:=ahp ha
  have:=Ei (r:=r.erase a) h2 λx hx=>(ahw (by rintro rfl;exact h1 hx)).2 (hs x (adO _ hx))
  simp only[List.length_cons];omega
structure X_(w x:Word):Prop where
 aV:x.aV=w.aV
 free:x.free=w.free
 bZ:∀c∈w.bZ,c∈x.bZ
structure jA(s x:aJ):Prop where
 aM:x.aM=s.aM
 aL:x.aL=s.aL
 gk:x.gk=s.gk
 gl:x.gl=s.gl
 js:x.js=s.js
 jr:x.jr=s.jr
 ck:x.ck=s.ck
 len:x.words.length=s.words.length
 words:∀i (h:i<s.words.length),X_ s.words[i] (x.words[i]' zo)
 wide:s.wide<=x.wide
 rows:s.rows<=x.rows
section
variable{s x:aJ}{out:List Int}{es:List End}
def jA.ef(h:jA s x)(i:Nat):ef x i=ef s i:=by
 unfold Tryz.ef
 by_cases hi:i<s.words.length
 .rw[adB hi,adB (by rw[h.len];exact hi)];simp only;rw[(h.words i hi).aV]
 .have:=h.len;rw[ad3 (show s.words.length<=i by omega),ad3 (show x.words.length<=i by omega)]
def jA.bQ(h:jA s x)(g:Nat×Nat):bQ x g=bQ s g:=by
 unfold Tryz.bQ
 by_cases hi:g.1<s.words.length
 .rw[adB hi,adB (by rw[h.len];exact hi)];simp only;rw[(h.words g.1 hi).aV]
 .have:=h.len;rw[ad3 (show s.words.length<=g.1 by omega),ad3 (show x.words.length<=g.1 by omega)]
def Bk{s x:aJ}(h:∀i,Tryz.ef x i=Tryz.ef s i)(out:List Int):∀d w f t,kq x out d w f t=kq s out d w f t
 |0,_,_,_=>rfl
 |d+1,w,f,t=>by
  unfold kq;rw[h,Bk h out d]
def jA.ko(h:jA s x)(i:Nat):ko x out es i=ko s out es i:=by
 unfold Tryz.ko;split
 .unfold ma;rw[Bk h.ef]
 .rfl
def jA.lG(h:jA s x)(i:Nat):lG x es i=lG s es i:=by
 unfold Tryz.lG;split
 .rw[h.ef]
 .rfl
def OH{s x:aJ}(h2:x.aL=s.aL)(h3:x.gk=s.gk)(h4:x.gl=s.gl)(h5:x.js=s.js)(h6:x.jr=s.jr)(st:Int)(a b:Lt):py x st a b=py s st a b:=by
 unfold py lS;rw[h2,h3,h4,h5,h6]
def HP{s x:aJ}(h1:x.aM=s.aM)(h2:x.aL=s.aL)(h3:x.gk=s.gk)(h4:x.gl=s.gl)(h5:x.js=s.js)(h6:x.jr=s.jr)(h7:x.ck=s.ck)(st:Int)(l:List Lt)(cut:Bool):lK x st l cut=lK s st l cut:=by
 have e1:∀i,kj x l i=kj s l i:=by
  intro i
  induction i with
  |zero=>rfl
  |succ i ih=>
   unfold kj;rw[ih]
   congr 1
   split
   .unfold mY;rw[h1,h7]
   .rfl
 have e2:∀i,kf x st l i=kf s st l i:=by
  intro i
  induction i with
  |zero=>rfl
  |succ i ih=>
   unfold kf;rw[ih]
   congr 1
   split
   .exact OH h2 h3 h4 h5 h6 st _ _
   .rfl
 unfold lK;rw[e1,e2,h3,h4,h7]
def jA.rX(h:jA s x)(st:Int)(i:Nat):rX x out es st i=rX s out es st i:=by
 unfold Tryz.rX;rw[h.ko,h.lG,HP h.aM h.aL h.gk h.gl h.js h.jr h.ck]
 congr 1
 exact aez λg _=>h.bQ g
def jA.fm(h:jA s x)(st:Int):fm x out es st=fm s out es st:=by
 unfold Tryz.fm
 exact aez λi _=>h.rX st i
def jA.ll(h:jA s x){st:Int}(hf:ll s out es st=true):ll x out es st=true:=by
 unfold Tryz.ll at hf⊢;rw[h.fm];simp only[adE,adQ,adL]at hf⊢;have:=h.wide;have:=h.rows;exact⟨zo,λn hn=>by have:=hf.2 n hn;omega⟩
def jA.ig(h:jA s x):ig x out=ig s out:=by
 unfold Tryz.ig;rw[h.len]
 have:qF x=qF s:=by
  unfold qF
  funext n
  by_cases hi:n.toNat<s.words.length
  .rw[adB hi,adB (by rw[h.len];exact hi)];simp only;rw[(h.words _ hi).free]
  .have:=h.len;rw[ad3 (show s.words.length<=n.toNat by omega),ad3 (show x.words.length<=n.toNat by omega)]
 rw[this]
def jA.mG(h:jA s x)(hr:mG s out es=true):mG x out es=true:=by
 unfold Tryz.mG at hr⊢;rw[h.ig];simp only[adE,fW]at hr⊢;obtain⟨h1,⟨h2,h3⟩,h4⟩:=hr;refine⟨h1,⟨λe he=>?_,h3⟩,?_⟩
 .have:=h2 e he;unfold yW at this⊢;rw[h.len]
  by_cases hi:e.1.toNat<s.words.length
  .rw[adB hi]at this;rw[adB (by rw[h.len];exact hi)];simp only[adE,aeZ]at this⊢;rw[(h.words _ hi).aV];refine⟨this.1,this.2.imp id λhc=>?_⟩;have:=(h.words _ hi).bZ e.2 (by simpa using hc);simpa using this
  .rw[ad3 zo]at this;simp at this
 .have e1:mc x out=mc s out:=by
   unfold mc;rw[h.len]
   congr 1
   by_cases hi:(lO out s.words.length).toNat<s.words.length
   .rw[adB hi,adB (by rw[h.len];exact hi)];simp only;rw[(h.words _ hi).aV]
   .have:=h.len;rw[ad3 (show s.words.length<=(lO out s.words.length).toNat by omega),ad3 (show x.words.length<=(lO out s.words.length).toNat by omega)]
  rw[e1];exact h4
def jA.Ed(h:jA s x)(hs:bj s=true)(hx:bj x=true)(ho:Tryz.ig s out=true)(hm:es∈lD s out):es∈lD x out:=by
 rw[xR hx (by rw[h.ig];exact ho)];rw[xR hs ho]at hm;exact⟨h.mG hm.1,h.ll hm.2⟩
def jA.count(h:jA s x)(hs:bj s=true)(hx:bj x=true)(ho:Tryz.ig s out=true):(lD s out).length<=(lD x out).length:=
 Ei (JZ (FG hs)) λ_ hm=>h.Ed hs hx ho hm
end
def EC:∀{all now:List End},all≠[]->(lp now all 0).length=1
 |[],_,h=>absurd rfl h
 |a::r,now,_=>by
  unfold lp
  by_cases hr:r=[]
  .subst hr;simp[lp]
  .simp only[if_neg hr,List.nil_append];exact EC hr
def DM:∀{all now:List End},(lp now all 1).length=all.length
 |[],_=>rfl
 |a::r,now=>by
  unfold lp
  by_cases hr:r=[]
  .subst hr;simp[lp]
  .simp only[if_neg hr,adV,List.length_cons];rw[EC hr,DM];omega
def Lc:∀{all now:List End},all≠[]->2*(lp now all 2).length=2+all.length*(all.length-1)
 |[],_,h=>absurd rfl h
 |a::r,now,_=>by
  unfold lp
  by_cases hr:r=[]
  .subst hr;simp[lp]
  .simp only[if_neg hr,adV,List.length_cons];rw[DM,ahQ,Lc hr]
   obtain⟨n,hn⟩:∃n,r.length=n+1:=⟨r.length-1,by have:=aeR.2 hr;omega⟩
   rw[hn];simp only[agf]
   have e1:(n+1+1)*(n+1)=(n+1)*n+2*(n+1):=by
    rw[afg,afs (n+1) n,afg n 1];omega
   omega
def Vj{all now:List End}{m:Nat}(h:all.length<=24)(hm:m<=3):(ch now all m).length<=277:=by
 unfold ch;split
 .simp
 rename_i cD
 match m,hm with
 |0,_=>simp
 |1,_=>simp only;rw[EC cD];omega
 |2,_=>simp only;rw[DM];omega
 |3,_=>
  simp only;have:=Lc (now:=now) cD;have:all.length*(all.length-1)<=24*23:=agT h zo;omega
def tI{l:List Int}{lo hi:Int}(h:gz l lo hi=true)(hle:lo<=hi+1):(l.length:Int)<=hi+1-lo:=by
 have h':=h;unfold gz at h;rw[fW]at h;obtain⟨h1,h2⟩:=h
 have key:∀j (hj:j<l.length),lo+j<=l[j]:=by
  intro j
  induction j with
  |zero=>
   intro hj;have:=h1 _ (adC hj);simp[df]at this;simpa using this.1
  |succ j ih=>
   intro hj;have:=ih zo;have:=h2 j hj;simp at this;omega
 by_cases h0:l.length=0
 .omega
 .have a:=key (l.length-1) zo;have b:=h1 _ (adC (show l.length-1<l.length by omega));simp[df]at b;omega
def yq{s:aJ}(hs:bj s=true){out:List Int}(n:Nat):(ki s out n).length<=ef s n/\ef s n<=6:=by
 unfold ki ef
 by_cases h:n<s.words.length
 .rw[adB h];have hw:=mZ hs (adC h);have h1:=hw.BD;have:=tI hw.bZ zo;have:=hw.zh;split
  .simp only[List.length_nil];omega
  .simp only[adV,adH,List.length_cons,List.length_nil];omega
 .rw[ad3 zo]
  split<;>simp
def CP{s:aJ}(hs:bj s=true)(out:List Int):(mr s out).length<=24:=by
 unfold mr;have h4:=(gx hs).words.2
 have key:∀m:Nat,((List.range m).flatMap (ki s out)).length<=6*m:=by
  intro m
  induction m with
  |zero=>simp
  |succ m ih=>
   rw[aeV,afj,afX,adV];have:=yq hs (out:=out) m;omega
 have:=key s.words.length;omega
def Gb{s:aJ}(hs:bj s=true)(out:List Int){m:Nat}(hm:m<=3):(Dn s out m).length<=277:=Vj (CP hs out) hm
def Nh{s:aJ}(hs:bj s=true)(out:List Int):(lD s out).length<=277:=
 aeL (agB _ _) (Gb hs out (by have:=(gx hs).rows;omega))
section
variable{s x:aJ}{m:Nat}{z z':Nat×Nat}
end
def JJ{s:aJ}{out:List Int}{e:End}:yW s out e=true↔0<=e.1/\¬e.1∈out/\∃h:e.1.toNat<s.words.length,e.2=s.words[e.1.toNat].aV.length\/e.2∈s.words[e.1.toNat].bZ:=by
 unfold yW df;simp only[adE,adL,aeF,af5,afP]
 constructor
 .rintro⟨⟨⟨h1,h2⟩,h3⟩,h4⟩
  have aq:e.1.toNat<s.words.length:=zo
  rw[adB aq]at h4;refine⟨h1,h3,aq,?_⟩;simpa using h4
 .rintro⟨h1,h3,aq,h4⟩;refine⟨⟨⟨h1,zo⟩,h3⟩,?_⟩;rw[adB aq];simpa using h4
def N_{s:aJ}{m:Nat}(h:s.words.length=m+1):mc s []=((m:Int),(ef s m:Int)):=by
 unfold mc
 have e:lO [] s.words.length=m:=by rw[h];unfold lO;simp
 rw[e,Int.toNat_natCast,adB zo,kP zo]
section
variable{s:aJ}
def AT(hs:bj s=true):ig s []=true:=by
 have:=(gx hs).words.1;unfold ig gz nA;simp;omega
end
section
variable{α:Type}{len:α->Nat}{most:α->Int}
def Lq(len:α->Nat)(most:α->Int)(a b:α):Bool:=decide (len a<len b)||(len a==len b&&decide (most b<most a))
end
structure fM(s x:aJ)(out:List Int)(k:Nat->Nat)(N:Nat):Prop where
 pos:0<N
 n:x.words.length=N
 lt:∀i,i<N->k i<s.words.length
 mono:∀i,i+1<N->k i<k (i+1)
 inn:∀i,i<N->out.contains (k i:Int)=false
 gap:∀i,i+1<N->∀j,k i<j->j<k (i+1)->out.contains (j:Int)=true
 first:∀j,j<k 0->out.contains (j:Int)=true
 last:∀j,k (N-1)<j->j<s.words.length->out.contains (j:Int)=true
 word:∀i,i<N->x.words[i]?=s.words[k i]?
 h1:x.aM=s.aM
 h2:x.aL=s.aL
 h3:x.gk=s.gk
 h4:x.gl=s.gl
 h5:x.js=s.js
 h6:x.jr=s.jr
 h7:x.ck=s.ck
 h8:x.wide=s.wide
 h9:x.rows=s.rows
section
variable{s x:aJ}{out:List Int}{k:Nat->Nat}{N:Nat}
def fM.ef(h:fM s x out k N){i:Nat}(hi:i<N):ef x i=ef s (k i):=by
 unfold Tryz.ef;rw[h.word i hi]
def fM.Jq(h:fM s x out k N):∀d i,i+d+1<N->k i<k (i+d+1)
 |0,i,hi=>h.mono i hi
 |d+1,i,hi=>agk (h.Jq d i zo) (h.mono (i+d+1) hi)
def fM.lt_iff(h:fM s x out k N){i j:Nat}(hi:i<N)(hj:j<N):k i<k j↔i<j:=by
 constructor
 .intro hk
  by_cases so:i<j
  .exact so
  .by_cases he:i=j
   .subst he;omega
   .have:=h.Jq (i-j-1) j zo;rw[show j+(i-j-1)+1=i by omega]at this;omega
 .intro so;have:=h.Jq (j-i-1) i zo;rwa [show i+(j-i-1)+1=j by omega]at this
def fM.inj(h:fM s x out k N){i j:Nat}(hi:i<N)(hj:j<N)(he:k i=k j):i=j:=by
 have h1:=h.lt_iff hi hj;have h2:=h.lt_iff hj hi;omega
def xP{d t:Nat}:∀(m w:Nat),(∀j,w<=j->j<w+m->out.contains (j:Int)=true)->kq s out (m+d) w 0 t=kq s out d (w+m) 0 t
 |0,w,_=>by rw[aeh,Nat.add_zero]
 |m+1,w,h=>by
  rw[show m+1+d=(m+d)+1 by omega];show(if out.contains (w:Int)then[]else qG w 0 (ef s w))++kq s out (m+d) (w+1) 0 t=_;rw[h w zo zo,if_pos rfl,List.nil_append,xP m (w+1) (λj h1 h2=>h j zo zo),show w+1+m=w+(m+1) by omega]
def rI(k:Nat->Nat)(g:Nat×Nat):Nat×Nat:=(k g.1,g.2)
def JM(w f t:Nat):(qG w f t).map (rI k)=qG (k w) f t:=by
 unfold qG;rw[aeT];rfl
def fM.kq(h:fM s x out k N){t:Nat}:∀d w f,w+d<N->(kq x [] d w f t).map (rI k)=kq s out (k (w+d)-k w) (k w) f t
 |0,w,f,_=>by
  rw[Nat.add_zero,agL];exact JM w f t
 |d+1,w,f,hw=>by
  have m1:=h.mono w zo
  have m2:k (w+1)<=k (w+1+d):=by
   cases d with
   |zero=>exact adF _
   |succ d=>exact agM (h.Jq d (w+1) zo)
  rw[show w+(d+1)=w+1+d by omega];rw[show k (w+1+d)-k w=((k (w+1)-k w-1)+(k (w+1+d)-k (w+1)))+1 by omega];show List.map (rI k) ((if([]:List Int).contains (w:Int)then[]else qG w f (Tryz.ef x w))++Tryz.kq x [] d (w+1) 0 t)=(if out.contains (k w:Int)then[]else qG (k w) f (Tryz.ef s (k w)))++Tryz.kq s out ((k (w+1)-k w-1)+(k (w+1+d)-k (w+1))) (k w+1) 0 t;rw[if_neg ahB,h.inn w zo,if_neg ahB,ad6,JM,h.ef zo,h.kq d (w+1) 0 zo,xP _ _ λj h1 h2=>h.gap w zo j zo zo,show k w+1+(k (w+1)-k w-1)=k (w+1) by omega]
def uT(k:Nat->Nat)(e:End):End:=((k e.1.toNat:Int),e.2)
def Vd(e:End):nE (uT k e)=rI k (nE e):=rfl
def AX(es:List End)(i:Nat):nv es (i+1)=match es[i]? with|some e=>nE e|none=>(0,0):=rfl
def TU(es:List End)(i:Nat):nv (es.map (uT k)) (i+1)=if i<es.length then rI k (nv es (i+1))else(0,0):=by
 rw[AX,AX,ad9]
 by_cases hi:i<es.length
 .rw[adB hi,if_pos hi];rfl
 .rw[ad3 zo,if_neg hi];rfl
def Ve(N:Nat)(es:List End):Prop:=∀e∈es,0<=e.1/\e.1.toNat<N
def fM.ko(h:fM s x out k N){es:List End}(hr:Ve N es)(hs:∀j (hj:j+1<es.length),es[j].1.toNat<=es[j+1].1.toNat)(i:Nat)(hi:i<es.length):(ko x [] es i).map (rI k)=ko s out (es.map (uT k)) i:=by
 have dk:i<(es.map (uT k)).length:=by rw[adH];exact hi
 rw[rZ hi,rZ dk,adR,Vd];have he:=hr _ (adC hi)
 cases i with
 |zero=>
  have h0:=h.kq (t:=(nE es[0]).2) (nE es[0]).1 0 0 (by rw[aeh];exact he.2);show List.map (rI k) (Tryz.kq x [] ((nE es[0]).1-0) 0 0 (nE es[0]).2)=Tryz.kq s out (k (nE es[0]).1-0) 0 0 (nE es[0]).2;rw[Nat.sub_zero,Nat.sub_zero,h0,aeh]
  have hk:k 0<=k (nE es[0]).1:=by
   by_cases hz:(nE es[0]).1=0
   .rw[hz];exact adF _
   .exact agM ((h.lt_iff h.pos he.2).2 (Nat.pos_of_ne_zero hz))
  have:=xP (s:=s) (out:=out) (d:=k (nE es[0]).1-k 0) (t:=(nE es[0]).2) (k 0) 0 λj _ h2=>h.first j zo
  rw[show k 0+(k (nE es[0]).1-k 0)=k (nE es[0]).1 by omega,aeh]at this;exact this.symm
 |succ i=>
  have ha:nv es (i+1)=nE es[i]:=by rw[AX,adB zo]
  have hb:=hr _ (adC (by omega:i<es.length));have hle:=hs i hi;rw[TU,if_pos zo,ha]
  have:=h.kq (t:=(nE es[i+1]).2) ((nE es[i+1]).1-(nE es[i]).1) (nE es[i]).1 (nE es[i]).2 (by
   show es[i].1.toNat+(es[i+1].1.toNat-es[i].1.toNat)<N
   have:=he.2;omega)
  rw[show(nE es[i]).1+((nE es[i+1]).1-(nE es[i]).1)=(nE es[i+1]).1 by show es[i].1.toNat+(es[i+1].1.toNat-es[i].1.toNat)=es[i+1].1.toNat;omega]at this;exact this
def fM.lG(h:fM s x out k N){es:List End}(hr:Ve N es)(i:Nat)(hi:i<es.length):lG x es i=lG s (es.map (uT k)) i:=by
 have dk:i<(es.map (uT k)).length:=by rw[adH];exact hi
 rw[D7 hi,D7 dk,adR];show decide (es[i].2<(Tryz.ef x es[i].1.toNat:Int))=decide (es[i].2<(Tryz.ef s ((k es[i].1.toNat:Int)).toNat:Int));rw[Int.toNat_natCast,h.ef (hr _ (adC hi)).2]
def fM.TX(h:fM s x out k N){g:Nat×Nat}(hg:g.1<N):(bQ x g).2=(bQ s (rI k g)).2:=by
 unfold bQ rI;simp only;rw[h.word _ hg]
def fM.mY(h:fM s x out k N){a b:Lt}(he:a.2=b.2):mY x a=mY s b:=by
 unfold Tryz.mY;rw[he,h.h1,h.h7]
def fM.py(h:fM s x out k N)(st:Int){f g:Nat×Nat}(hf:f.1<N)(hg:g.1<N):py x st (bQ x f) (bQ x g)=py s st (bQ s (rI k f)) (bQ s (rI k g)):=by
 have e:lS x (bQ x f) (bQ x g)=lS s (bQ s (rI k f)) (bQ s (rI k g)):=by
  unfold lS;rw[h.TX hf,h.TX hg,h.h2,h.h3,h.h4,h.h5,h.h6]
  by_cases he:f.1=g.1
  .rw[if_pos (by unfold bQ;simp only;omega),if_pos (by unfold bQ rI;simp only;rw[he])]
  .rw[if_neg (by unfold bQ;simp only;omega),if_neg];unfold bQ rI;simp only;intro hc;exact he (h.inj hf hg zo)
 unfold Tryz.py;rw[e]
def fM.lK(h:fM s x out k N)(st:Int){l:List (Nat×Nat)}(hl:∀g∈l,g.1<N)(cut:Bool):lK x st (l.map (bQ x)) cut=lK s st ((l.map (rI k)).map (bQ s)) cut:=by
 have e1:∀i,kj x (l.map (bQ x)) i=kj s ((l.map (rI k)).map (bQ s)) i:=by
  intro i
  induction i with
  |zero=>rfl
  |succ i ih=>
   unfold kj;rw[ih,aeT,ad9,ad9]
   by_cases hi:i<l.length
   .rw[adB hi];show _+Tryz.mY x (bQ x l[i])=_+Tryz.mY s (bQ s (rI k l[i]));rw[h.mY (h.TX (hl _ (adC hi)))]
   .rw[ad3 zo];rfl
 have e2:∀i,kf x st (l.map (bQ x)) i=kf s st ((l.map (rI k)).map (bQ s)) i:=by
  intro i
  induction i with
  |zero=>rfl
  |succ i ih=>
   unfold kf;rw[ih,aeT,ad9,ad9,ad9,ad9]
   by_cases hi:i+1<l.length
   .rw[adB (by omega:i<l.length),adB hi];show _+Tryz.py x st (bQ x l[i]) (bQ x l[i+1])=_+Tryz.py s st (bQ s (rI k l[i])) (bQ s (rI k l[i+1]));rw[h.py st (hl _ (adC _)) (hl _ (adC hi))]
   .rw[ad3 (by omega:l.length<=i+1)]
    cases l[i]?<;>rfl
 unfold Tryz.lK;rw[e1,e2,h.h3,h.h4,h.h7];simp only[adH]
end
section
variable{s x:aJ}{out:List Int}{k:Nat->Nat}{N:Nat}
def fM.lO(h:fM s x out k N):Tryz.lO out s.words.length=(k (N-1):Int):=by
 have hp:=h.pos;have hl:=h.lt (N-1) zo
 have:∀n,k (N-1)<n->n<=s.words.length->Tryz.lO out n=(k (N-1):Int):=by
  intro n
  induction n with
  |zero=>intro h1;omega
  |succ n ih=>
   intro h1 h2;unfold Tryz.lO
   by_cases he:n=k (N-1)
   .subst he;rw[h.inn _ zo];rfl
   .rw[h.last n zo zo,if_pos rfl];exact ih zo zo
 exact this _ hl (adF _)
def fM.yW(h:fM s x out k N){e:End}(h0:0<=e.1)(hn:e.1.toNat<N):Tryz.yW x [] e=true↔Tryz.yW s out (uT k e)=true:=by
 rw[JJ,JJ];have hk:=h.lt _ hn
 have hx:e.1.toNat<x.words.length:=by rw[h.n];exact hn
 have hw:=h.word _ hn;rw[adB hx,adB hk]at hw;have hw:=ad7 hw;have hi:=h.inn _ hn
 constructor
 .rintro⟨_,_,_,h3⟩;refine⟨by show(0:Int)<=(k e.1.toNat:Int);omega,?_,?_⟩
  .show¬(k e.1.toNat:Int)∈out;simpa using hi
  .refine⟨by show(k e.1.toNat:Int).toNat<_;omega,?_⟩;show e.2=((s.words[(k e.1.toNat:Int).toNat]'_).aV.length:Int)\/e.2∈(s.words[(k e.1.toNat:Int).toNat]'_).bZ;simp only[Int.toNat_natCast];rw[<-hw];exact h3
 .rintro⟨_,_,_,h3⟩;refine⟨h0,ahB,hx,?_⟩;have h3:e.2=((s.words[(k e.1.toNat:Int).toNat]'(by rw[Int.toNat_natCast];exact hk)).aV.length:Int)\/e.2∈(s.words[(k e.1.toNat:Int).toNat]'(by rw[Int.toNat_natCast];exact hk)).bZ:=h3;simp only[Int.toNat_natCast]at h3;rw[hw];exact h3
def fM.Pz(h:fM s x out k N){a b:End}(ha:0<=a.1/\a.1.toNat<N)(hb:0<=b.1/\b.1.toNat<N):fV a b=fV (uT k a) (uT k b):=by
 have h1:=h.lt_iff ha.2 hb.2
 have h2:k a.1.toNat=k b.1.toNat↔a.1.toNat=b.1.toNat:=⟨h.inj ha.2 hb.2,λe=>by rw[e]⟩
 unfold fV uT;rw[aep];simp only[aeZ,adE,adL,aej];omega
def fM.mG(h:fM s x out k N)(ho:ig s out=true)(hx:ig x []=true){es:List End}(hr:Ve N es):Tryz.mG x [] es=Tryz.mG s out (es.map (uT k)):=by
 have NV:(es.getLast?.getD (-1,0)==mc x [])=((es.map (uT k)).getLast?.getD (-1,0)==mc s out)\/es=[]:=by
  by_cases cD:es=[]
  .exact .inr cD
  refine .inl ?_
  obtain⟨e,he⟩:∃e,es.getLast?=some e:=by cases hh:es.getLast? with|none=>exact absurd (afI.1 hh) cD|some e=>exact⟨e,rfl⟩
  have hem:=ahv he;have hee:=hr e hem;have hp:=h.pos;rw[List.getLast?_map,he]
  show(e==mc x [])=(uT k e==mc s out)
  have e1:mc x []=(((N-1:Nat):Int),(Tryz.ef x (N-1):Int)):=N_ (by rw[h.n];omega)
  have e2:mc s out=((k (N-1):Int),(Tryz.ef s (k (N-1)):Int)):=by
   unfold mc;rw[h.lO,Int.toNat_natCast];unfold Tryz.ef;rw[adB (h.lt _ zo)]
  rw[e1,e2,h.ef zo,aep,aej,aej]
  constructor
  .rintro rfl;show((k ((N-1:Nat):Int).toNat:Int),(Tryz.ef s (k (N-1)):Int))=_;rw[Int.toNat_natCast]
  .intro hh;have a1:(k e.1.toNat:Int)=(k (N-1):Int):=congrArg Prod.fst hh;have a2:e.2=(Tryz.ef s (k (N-1)):Int):=congrArg Prod.snd hh;have:=h.inj hee.2 zo (by omega:k e.1.toNat=k (N-1));exact Prod.ext (by show e.1=((N-1:Nat):Int);omega) a2
 rcases NV with NV|rfl
 .unfold Tryz.mG;rw[ho,hx,NV]
  have e1:(es.map (uT k)).isEmpty=es.isEmpty:=by cases es<;>rfl
  have e2:nA (Tryz.yW x []) fV es=nA (Tryz.yW s out) fV (es.map (uT k)):=by
   rw[aep,fW,fW]
   constructor
   .rintro⟨h1,h2⟩;refine⟨λe he=>?_,λj hj=>?_⟩
    .obtain⟨e',nL,rfl⟩:=adZ.1 he;exact(h.yW (hr _ nL).1 (hr _ nL).2).1 (h1 _ nL)
    .have dZ:j+1<es.length:=by simpa using hj
     rw[adR,adR,<-h.Pz (hr _ (adC _)) (hr _ (adC _))];exact h2 j dZ
   .rintro⟨h1,h2⟩;refine⟨λe he=>?_,λj hj=>?_⟩
    .exact(h.yW (hr _ he).1 (hr _ he).2).2 (h1 _ (afM he))
    .have:=h2 j (by simpa using hj);rw[adR,adR,<-h.Pz (hr _ (adC _)) (hr _ (adC _))]at this;exact this
  rw[e1,e2]
 .unfold Tryz.mG;simp
def fM.ll(h:fM s x out k N){es:List End}(hr:Ve N es)(hs:∀j (hj:j+1<es.length),es[j].1.toNat<=es[j+1].1.toNat)(mu:∀i,i<es.length->∀g∈Tryz.ko x [] es i,g.1<N)(st:Int):Tryz.ll x [] es st=Tryz.ll s out (es.map (uT k)) st:=by
 have e:fm x [] es st=fm s out (es.map (uT k)) st:=by
  unfold fm;rw[adH]
  refine aez λi hi=>?_
  have hi:i<es.length:=aeb.1 hi;unfold rX;rw[h.lK st (mu i hi),h.ko hr hs i hi,h.lG hr i hi]
 unfold Tryz.ll;rw[e,adH,h.h8,h.h9]
end
def qS(l:List Int):Nat:=match l.getLast? with|some x=>x.toNat+1|none=>0
def K5{s:aJ}{l:List Int}(h:ig s l=true):l.length<s.words.length:=by
 unfold ig at h;simp only[adE,adL]at h;exact h.1.2
def px(s:aJ)(i:Nat):Bool:=!qF s (i:Int)
def Fy{α β:Type}{l:List α}{f g:α->List β}(h:∀a∈l,f a=g a):l.flatMap f=l.flatMap g:=by
 rw[List.flatMap_def,List.flatMap_def,aez h]
def xn(s:aJ):Nat->List Int->List (List Int)
 |0,now=>[now]
 |d+1,now=>(List.range' (qS now) (s.words.length-qS now)).flatMap λi:Nat=>if px s i then xn s d (now++[(i:Int)])else[]
def QI{s:aJ}{l:List Int}(h:ig s l=true){i:Nat}(h1:qS l<=i)(h2:i<s.words.length)(h3:l.length+1<s.words.length):ig s (l++[(i:Int)])=px s i:=by
 unfold ig at h;simp only[adE,adL,aeF,aeE]at h;obtain⟨⟨a1,a2⟩,a3⟩:=h;unfold gz at a1;rw[fW]at a1;obtain⟨a1,a4⟩:=a1
 have hr:gz (l++[(i:Int)]) 0 (s.words.length-1)=true:=by
  unfold gz;rw[fW]
  constructor
  .intro x hx;rcases adG.1 hx with hx|hx
   .exact a1 x hx
   .rw[ad2]at hx;subst hx;simp only[df,adE,adL];omega
  .intro j hj;rw[adV,List.length_singleton]at hj
   by_cases qP:j+1<l.length
   .rw[ad5 zo,ad5 qP];exact a4 j qP
   .rw[ad5 zo,aec zo,List.getElem_singleton]
    have hf:qS l=(l[j]' zo).toNat+1:=by
     unfold qS;rw[List.getLast?_eq_getElem?,show l.length-1=j by omega,adB zo]
    have:=a1 _ (adC (by omega:j<l.length));simp only[df,adE,adL]at this;simp only[adL];omega
 unfold ig px;rw[hr,adV,List.length_singleton,agq zo,List.any_append]
 have:l.any (qF s)=false:=by rw[aeE];exact a3
 rw[this];simp
end Go.Proofs.Tryz
namespace Go.Proofs.Tryz
open Go Go.AL Go.RowKit Go.Proofs Go.Proofs.Tram
attribute [local simp] ez fF fo eN eM ea eb dG dH eU dI da gZ g_ aF aD ev aP.S aP.H bt au aW AL.start AV.cells AV.storable AV.ct bC cb dU cd HR.okB post cH db c_ AV.out AV.b_ cU d_ fz ia AV.vw cW vI int cy aN di dQ iC jw eP dW bD AV.aI AV.cI
variable{GI:World->Prop}
def gA(g:Nat×Nat):AV:=.agg [.int .i64 g.1,.int .i64 g.2]
def a_(s:aJ):List AV:=ai s++[cq s.aL]
def iw(s:aJ):AV:=.agg (a_ s)
def O2(l:List (Nat×Nat))(cut:Bool):AV:=IS ⟨l.map gA,cut⟩
def Oz(s:aJ)(g:Nat×Nat):Prop:=g.1<s.words.length/\g.2<ef s g.1
def Np(hG:ar GI)(s:aJ){g:Nat×Nat}(h:Oz s g):AC prog GI 190 [iw s,gA g] (.ret (.int .i64 (bQ s g).2)):=by
 obtain⟨h1,h2⟩:=h;rw[kP h1]at h2
 have hr:(bQ s g).2=s.words[g.1].aV[g.2]:=by unfold bQ;simp[adB h1,h2]
 rw[hr];refine cw hG func190 ntmps190 c190 ?_;refine aK (λS H=>S 2=.box 2 0/\S 3=.box 3 0/\H 2=some (a_ s)/\H 3=some [.int .i64 g.1,.int .i64 g.2]) (by simp[iw,a_,gA,ai,cq]) ?_;rintro S H ⟨s2,s3,e2,e3⟩;simp[s2,s3,e2,e3,a_,ai,cq,h1,h2,cG]
def Iq(hG:ar GI){lo hi st:Int}(h0:0<=lo)(h1:lo<=hi)(h2:hi<=20)(h3:0<=st)(h4:st<=10):AC prog GI 193 [.agg [.int .i64 lo,.int .i64 hi],.int .i64 st] (.ret (.int .i64 (nh lo hi st))):=by
 have ZF:0<=(hi-lo)*st:=aes zo h3;have Y0:(hi-lo)*st<=20*10:=aex zo h4 h3 zo;have hb:=nR h1 h3 h4;unfold nh at hb;have w1:IntKind.i64.wrap (hi-lo)=hi-lo:=aQ zo;have w2:IntKind.i64.wrap ((hi-lo)*st)=(hi-lo)*st:=aQ zo;have w3:IntKind.i64.wrap (((hi-lo)*st).tdiv 10)=((hi-lo)*st).tdiv 10:=aQ zo;have w4:IntKind.i64.wrap (lo+((hi-lo)*st).tdiv 10)=lo+((hi-lo)*st).tdiv 10:=aQ zo;refine cw hG func193 ntmps193 c193 ?_;simp[c193,w1,w2,w3,w4,nh]
def BM(x y:Int):∀(ps:List kM),oT [x,y] (ps.map uv) (ps.map pN)=some ((ps.find? λp=>p.l==x&&p.r==y).map pN)
 |[]=>rfl
 |p::ps=>by
  show oT [x,y] (uv p::ps.map uv) (pN p::ps.map pN)=_;unfold oT;simp only[uv,kC,Option.map_some];simp only[List.length_cons,List.length_nil,ne_eq,ae4,ad1];rw[List.find?_cons]
  by_cases hp:p.l=x/\p.r=y
  .obtain⟨rfl,rfl⟩:=hp;simp
  .have h1:([x,y]==[p.l,p.r])=false:=by
    simp only[aeo,ne_eq,ae1,agd];rintro⟨rfl,rfl⟩;exact hp ⟨rfl,rfl⟩
   have h2:(p.l==x&&p.r==y)=false:=by
    rw[agC];simp only[aeo]
    by_cases h:p.l=x
    .exact .inr λh'=>hp ⟨h,h'⟩
    .exact .inl h
   rw[h1,h2];exact BM x y ps
def aag(hG:ar GI)(s:aJ)(hF:qn s){a b:Nat×Nat}(ha:Oz s a)(hb:Oz s b){st:Int}(h3:0<=st)(h4:st<=10):AC prog GI 192 [iw s,gA a,gA b,.int .i64 st] (.ret (.int .i64 (py s st (bQ s a) (bQ s b)))):=by
 have qW:=wU hF (bQ s a) (bQ s b);refine cw hG func192 ntmps192 c192 ?_;refine aK (λS H=>S 4=.box 4 0/\S 5=.box 5 0/\S 6=.box 6 0/\S 3=.int .i64 st/\H 4=some (a_ s)/\H 5=some [.int .i64 a.1,.int .i64 a.2]/\H 6=some [.int .i64 b.1,.int .i64 b.2]) (by simp[iw,a_,gA,ai,cq]) ?_;rintro S H ⟨s4,s5,s6,s3,e4,e5,e6⟩
 by_cases hw:a.1=b.1
 case neg=>
  have kV:lS s (bQ s a) (bQ s b)=(s.js,s.jr):=by
   unfold lS bQ;rw[if_neg];simp only;omega
  have Sq:((a.1:Int)!=(b.1:Int))=true:=by simp;omega
  unfold py;rw[kV]at qW⊢;simp[s4,s5,s6,s3,e4,e5,e6,a_,ai,cq,Sq];refine⟨_,zk,Iq hG qW.1 qW.2.1 qW.2.2 h3 h4,λ_=>rfl,?_⟩;simp
 have wD:(bQ s a).1=(bQ s b).1:=by unfold bQ;simp only;omega
 have Sq:((a.1:Int)!=(b.1:Int))=false:=by simp;omega
 simp[s4,s5,s6,s3,e4,e5,e6,a_,ai,cq,Sq];refine oc (Np hG s ha) ?_;simp[s4,s5,s6,s3,e4,e5,e6,a_,ai,cq,Sq];refine oc (Np hG s hb) ?_;simp[s4,s5,s6,s3,e4,e5,e6,a_,ai,cq,Sq,Ez,bH,BM]
 cases hf:s.aL.find? λp=>p.l==(bQ s a).2&&p.r==(bQ s b).2 with
 |some p=>
  have kV:lS s (bQ s a) (bQ s b)=(p.lo,p.hi):=by unfold lS;rw[if_pos wD,hf]
  unfold py;rw[kV]at qW⊢;simp[s4,s5,s6,s3,e4,e5,e6,pN];refine⟨_,zk,Iq hG qW.1 qW.2.1 qW.2.2 h3 h4,λ_=>rfl,?_⟩;simp
 |none=>
  have kV:lS s (bQ s a) (bQ s b)=(s.gk,s.gl):=by unfold lS;rw[if_pos wD,hf]
  unfold py;rw[kV]at qW⊢;simp[s4,s5,s6,s3,e4,e5,e6,a_,ai,cq];refine⟨_,zk,Iq hG qW.1 qW.2.1 qW.2.2 h3 h4,λ_=>rfl,?_⟩;simp
def vB{l:List Int}(h:∀x∈l,0<=x/\x<=1000):0<=l.sum/\l.sum<=1000*l.length:=by
 induction l with
 |nil=>simp
 |cons a l ih=>
  have h1:=h a adX
  have h2:=ih λx hx=>h x (adO _ hx)
  simp only[List.sum_cons,List.length_cons];omega
def Gl{l:List Int}{i:Nat}(h:i<l.length):(l.take (i+1)).sum=(l.take i).sum+l[i]:=by
 rw[adJ h,afe];simp
def HI(hG:ar GI)(l:List Int)(hl:l.length<100000)(h:∀x∈l,0<=x/\x<=1000):AC prog GI 191 [vI l] (.ret (.int .i64 l.sum)):=by
 refine cw hG func191 ntmps191 c191 ?_;simp[c191];refine bz 8 l.length (λi S H=>S 6=vI l/\S 7=.int .i64 l.length/\S 8=.int .i64 (i:Nat)/\S 3=.int .i64 (l.take i).sum) (λi S H h=>h.2.2.1) ⟨ahB,ahB,ahB,ahB⟩ ?_;rintro i hi S H ⟨s6,s7,s8,s3⟩
 by_cases aq:i<l.length
 .have hb:=vB (l:=l.take i) λx hx=>h x (aef hx)
  have hx:=h l[i] (adC aq);rw[adS]at hb;have hw:IntKind.i64.wrap ((i:Int)+1)=i+1:=aQ zo;have j0:IntKind.i64.wrap ((l.take i).sum+l[i])=(l.take i).sum+l[i]:=aQ zo;rw[Gl aq];generalize(l.take i).sum=y at s3 j0⊢;simp[s6,s7,s8,s3,aq,hw,j0]
 .have dk:i=l.length:=zo
  subst dk;rw[aeW]at s3;simp[s6,s7,s8,s3]
def jD(l:List Int):AV:=grow 3 (l.map (AV.int .i64))
def wm(l:List Int):aG 1 (l.map (AV.int .i64))=true:=iE λa=>⟨rfl,rfl⟩
def Bt(l:List Int):(jD l=.slice .nil []/\l=[])\/jD l=.slice (.own 3) (ints l):=by
 unfold jD grow
 cases l with
 |nil=>exact .inl ⟨rfl,rfl⟩
 |cons a l=>exact .inr rfl
def Bw(s:aJ)(l:List Lt):∀i,i<=l.length->kj s l i=((l.take i).map (mY s)).sum
 |0,_=>rfl
 |i+1,h=>by
  rw[A4 zo,Bw s l i zo,adJ zo,ad6,afe];simp
def j6(s:aJ)(st:Int)(l:List Lt):Nat->List Int
 |0=>[]
 |i+1=>j6 s st l i++(if 0<i then match l[i-1]?,l[i]? with
  |some a,some b=>[py s st a b]
  |_,_=>[]else[])
def Da{s:aJ}{st:Int}{l:List Lt}{i:Nat}(h:i+1<l.length):j6 s st l (i+2)=j6 s st l (i+1)++[py s st (l[i]' zo) l[i+1]]:=by
 show j6 s st l (i+1)++_=_;rw[if_pos zo,show i+1-1=i by omega,adB (by omega:i<l.length),adB h]
def F6{s:aJ}{st:Int}{l:List Lt}:∀i,i+1<=l.length->(j6 s st l (i+1)).sum=kf s st l i
 |0,_=>rfl
 |i+1,h=>by
  rw[Da zo,B7 zo,afe,F6 i zo];simp
def FY{s:aJ}(hF:qn s){st:Int}(h0:0<=st)(h1:st<=10){l:List Lt}:∀i,∀x∈j6 s st l i,0<=x/\x<=20
 |0,x,hx=>by cases hx
 |i+1,x,hx=>by
  unfold j6 at hx;rw[adG]at hx;rcases hx with hx|hx
  .exact FY hF h0 h1 i x hx
  .split at hx
   .split at hx
    .rw[ad2]at hx;subst hx;exact Bi hF h0 h1 _ _
    .cases hx
   .cases hx
def Ad{s:aJ}{st:Int}{l:List Lt}:∀i,(j6 s st l i).length<=i
 |0=>adF _
 |i+1=>by
  have:=Ad (s:=s) (st:=st) (l:=l) i;unfold j6;rw[adV];split
  .split<;>simp<;>omega
  .simp;omega
def GX{s:aJ}(hs:bj s=true):∀i j (hi:i<s.aL.length)(hj:j<s.aL.length),i<j->¬(s.aL[i].l=s.aL[j].l/\s.aL[i].r=s.aL[j].r):=by
 unfold bj at hs;simp only[adE]at hs;have h:=hs.1.2;rw[fW]at h
 have hp:nZ (s.aL.map λp=>(p.l,p.r)):=vl λj hj=>by
  rw[adR,adR];exact h.2 j (by simpa using hj)
 intro i j hi hj so he;have:=afp.1 hp i j (by simpa using hi) (by simpa using hj) so;rw[adR,adR,he.1,he.2,jH]at this;cases this
def O8(hG:ar GI)(s:aJ)(hs:bj s=true):AC prog GI 139 [cE s] (.ret (iw s)):=by
 have hF:=gx hs;exact YL hG (sA:=ai s) (ps:=s.aL) rfl rfl (by simp[ai,vI,int,AV.storable,isVal]) (by have:=hF.Pg;omega) (GX hs)
def ab0(hG:ar GI)(s:aJ)(hs:qI s):AC prog GI 77 [cE s] (.ret (.int .i64 (if bj s then 0 else 2))):=by
 refine cw hG func77 ntmps77 c77 ?_;refine aK (λS H=>S 1=.box 1 0/\H 1=some (ai s)) (by simp[cE,ai]) ?_;rintro S H ⟨s1,e1⟩;simp[s1,e1,ai];refine⟨_,zk,Gn hG s hs,λ_=>rfl,?_⟩
 cases fJ:bj s<;>simp
def GZ(s:aJ)(out:List Int)(es:List End)(st:Int):(fm s out es st).length=es.length:=by unfold fm;simp
structure fZ where
 lo:Int
 hi:Int
 hid:Bool
def fY(c:fZ):AV:=.agg [.int .i64 c.lo,.int .i64 c.hi,.bool c.hid]
structure aw where
 cells:List fZ
 pos:Int
 reach:Int
 eZ:Int
 dS:Int
 name:aJ
def az(s:aw):List AV:=[.slice .view (s.cells.map fY),.int .i64 s.pos,.int .i64 s.reach,.int .i64 s.eZ,.int .i64 s.dS]++ai s.name
def bm(s:aw):AV:=.agg (az s)
def xl(hG:ar GI)(n lo hi:Int):AC prog GI 61 [.int .i64 n,.int .i64 lo,.int .i64 hi] (.ret (.bool (df n lo hi))):=by
 refine cw hG func61 ntmps61 c61 ?_
 by_cases h1:lo<=n<;>by_cases h2:n<=hi<;>simp[c61,df,h1,h2]
def j4(x:fZ):Bool:=!df x.lo 1 20||!df x.hi x.lo 20
def aaW(hG:ar GI)(x:fZ):AC prog GI 75 [fY x] (.ret (.bool (j4 x))):=by
 refine cw hG func75 ntmps75 c75 ?_;simp[c75,fY];refine oc (xl hG x.lo 1 20) ?_;cases h1:df x.lo 1 20
 .simp[j4,h1]
 .simp;refine oc (xl hG x.hi x.lo 20) ?_;simp[j4,h1]
def Yi(hG:ar GI)(x:fZ):AC prog GI 115 [fY x] (.ret (.int .i64 x.lo)):=by
 refine cw hG func115 ntmps115 c115 ?_;simp[c115,fY]
def Zh(hG:ar GI)(x:fZ):AC prog GI 116 [fY x] (.ret (.int .i64 x.hi)):=by
 refine cw hG func116 ntmps116 c116 ?_;simp[c116,fY]
def Z5 (hG:ar GI) (l:List fZ) (hl:l.length < 1000000) (k:Nat) (p:fZ→Bool) (hk:ee prog k=true) (h:∀ x∈l,AC prog GI k [fY x] (.ret (.bool (p x)))) :
  AC prog GI 120 [.slice .view (l.map fY),.func (.func k) [] []] (.ret (.int .i64 (firstT p l))):=by
 refine cw hG func120 ntmps120 c120 ?_;simp[c120];refine bz 8 l.length (λi S H=>S 0=.slice .view (l.map fY)/\S 1=_/\S 7=.int .i64 l.length/\S 8=.int .i64 (i:Nat)/\∀j (hj:j<l.length),j<i->p l[j]=false) (λi S H h=>h.2.2.2.1) ⟨ahB,by simp<;>rfl,ahB,ahB,ahB⟩ ?_;rintro i hi S H ⟨s0,s1,s7,s8,hb⟩
 by_cases aq:i<l.length
 .have hw:IntKind.i64.wrap ((i:Int)+1)=i+1:=aQ zo;have hx:=h l[i] (adC aq);cases hp:p l[i]
  .simp[adR,fY,s0,s1,s7,s8,aq];refine⟨_,hk,hx,by simp[cW],?_⟩;simp[s0,s1,s7,s8,aq,hp,hw];intro j hj fK
   by_cases Db:j=i
   .subst Db;exact hp
   .exact hb j hj zo
  .simp[adR,fY,s0,s1,s7,s8,aq];refine⟨_,hk,hx,by simp[cW],?_⟩;simp[s0,s1,s7,s8,aq,hp,hw];exact lQ aq hp hb
 .have dk:i=l.length:=zo
  subst dk;simp[s0,s1,s7,s8]
  exact kF λj hj=>hb j hj hj
def acn (hG:ar GI) (l:List fZ) (hl:l.length < 1000000) (k:Nat) (p:fZ→Bool) (hk:ee prog k=true) (h:∀ x∈l,AC prog GI k [fY x] (.ret (.bool (p x)))) :
  AC prog GI 76 [.slice .view (l.map fY),.func (.func k) [] []] (.ret (.bool (l.any p))):=by
 have hF:=Z5 hG l hl k p hk h;refine cw hG func76 ntmps76 c76 ?_;simp[c76];refine⟨_,zk,hF,λ_=>rfl,?_⟩;simp;exact ng.symm
def dj(s:aw):Bool:=df s.cells.length 1 12&&!s.cells.any j4&&df s.pos 1 s.cells.length&&df s.reach 1 12&&df s.eZ 1 9&&df s.dS 0 9&&bj s.name
structure f_(s:aw):Prop where
 cells:s.cells.length<1000000
 name:qI s.name
def sC(hG:ar GI)(s:aw)(hs:f_ s):AC prog GI 32 [bm s] (.ret (.bool (dj s))):=by
 refine cw hG func32 ntmps32 c32 ?_;simp[c32,bm,az,ai];refine oc (xl hG s.cells.length 1 12) ?_;cases e1:df s.cells.length 1 12
 .simp[dj,e1]
 simp;refine oc (acn hG s.cells hs.cells 75 j4 zk (λx _=>aaW hG x)) ?_;cases e3:s.cells.any j4
 case true=>simp[dj,e1,e3]
 simp;refine oc (xl hG s.pos 1 s.cells.length) ?_;cases e4:df s.pos 1 s.cells.length
 .simp[dj,e1,e3,e4]
 simp;refine oc (xl hG s.reach 1 12) ?_;cases e5:df s.reach 1 12
 .simp[dj,e1,e3,e4,e5]
 simp;refine oc (xl hG s.eZ 1 9) ?_;cases e6:df s.eZ 1 9
 .simp[dj,e1,e3,e4,e5,e6]
 simp;refine oc (xl hG s.dS 0 9) ?_;cases e7:df s.dS 0 9
 .simp[dj,e1,e3,e4,e5,e6,e7]
 simp;refine oc (ab0 hG s.name hs.name) ?_
 cases e8:bj s.name<;>simp[dj,e1,e3,e4,e5,e6,e7,e8]
def nX(k:Nat):Value:=.func (.func k) #[] #[]
def xH(e:Nat)(c:fZ):Int:=if e=0 then c.lo else c.hi
def cj(e:Nat)(s:aw):List Int:=s.cells.map (xH e)
def wg(e:Nat):Nat->Op->Op
 |2,_=>.fieldAddr 26 (.tmp 5) e
 |3,_=>.move (.func (115+e))
 |_,op=>op
def J2(s:aw)(e i:Nat)(S:an)(H:ao):Prop:=
 S 1=.int .i64 (e:Nat)/\S 2=.box 2 0/\H 2=some (az s)/\S 5=.box 5 0/\H 5=some [.val (nX 115),.val (nX 116)]/\S 6=grow 3 (ints ((cj e s).take i))/\S 11=.int .i64 s.cells.length/\S 12=.int .i64 (i:Nat)
noncomputable def GJ:af:=af.qb c60.qb.qb.qb.qa.qb.qb
def XG(e:Nat):List bI:=[⟨some 15,none,.mv true (.t 6)⟩,⟨some 16,none,.mv false (.t 1)⟩,⟨some 17,none,.fieldAddr e (.t 5)⟩,⟨some 18,none,.mv false (.f (115+e))⟩,⟨some 19,none,.fieldAddr 0 (.t 2)⟩,
 ⟨some 20,none,.load (.box 2) false 1 (.t 19)⟩,⟨some 21,none,.mv false (.t 7)⟩,⟨some 22,none,.indexAddr 3 (.t 20) (.t 21)⟩,⟨some 23,none,.load .ref true 3 (.t 22)⟩,⟨some 24,none,.gy (.t 18) [.t 23]⟩,
 ⟨some 25,none,.buildSlice 23 3 1 [.t 24]⟩,⟨some 26,none,.append 23 3 1 8 (.t 15) (.t 25)⟩,⟨some 6,none,.mv true (.t 26)⟩]
def G5{Pr:Nat->Nat->Prop}{al:Nat->Option Nat}{w:World}{f1 f2:Nat}{c:Value}(h:RV Pr al w (.gY [.func (.func f1) [] [],.func (.func f2) [] []]) c):c=.agg #[nX f1,nX f2]:=by
 have one:∀{f:Nat}{c:Value},RV Pr al w (.func (.func f) [] []) c->c=nX f:=by
  intro f c h
  cases h with
  |data _ _ h=>cases h
  |func _ _ _ vs us h1 h2 r1 r2=>
   have:vs=#[]:=afd (by simpa using h1.symm);subst this;have:us=#[]:=afd (by simpa using h2.symm);subst this
   rfl
 cases h with
 |data _ _ h=>cases h
 |gY _ vs hl hr=>
  have hs:vs.size=2:=by rw[<-hl];rfl
  have e1:=one (hr 0 ahB zo);have e2:=one (hr 1 ahB zo)
  congr 1
  apply afc
  .simpa using hs
  .intro i h1 h2
   match i,h2 with
   |0,_=>exact e1
   |1,_=>exact e2
def Ip {rest:List bI} {K:an→ao→Prop} {S:an} {H:ao} {d j k:Nat} {args:List cT} {v:AV} (hj:S j = .func (.func k) [] []) (hk:ee prog k=true) (hb:(args.map (ev S)).any cW=false)
  (ZU:AC prog GI k ((args.map (ev S)).map (fz H)) (.ret v)) (h:cV prog GI rest K (au S d v) H):cV prog GI (⟨some d,none,.gy (.t j) args⟩::rest) K S H:=by
 have e:ev S (.t j)=.func (.func k) [] []:=hj;show jB prog GI (.gy (.t j) args) (some d) (cV prog GI rest K) S H;simp only[jB,ba,e];refine⟨by simpa using hb,.ret v,hk,by simpa using ZU,λhh=>?_,h⟩;simp only[List.nil_append,aeI]at hh;rw[hb]at hh;cases hh
def K_ {K:an→ao→Prop} {S:an} {H:ao} {l:List Int} {x:Int} (y0:S 15=grow 3 (ints l)) (QW:S 24 = .int .i64 x) (hn:l.length+1 < 1048576)
  (h:∀S',S' 6=grow 3 (ints (l++[x]))->(∀k,k∉[6,15,25,26]->S' k=S k)->K S' H):cV prog GI [⟨some 25,none,.buildSlice 23 3 1 [.t 24]⟩,⟨some 26,none,.append 23 3 1 8 (.t 15) (.t 25)⟩,⟨some 6,none,.mv true (.t 26)⟩] K S H:=by
 have hb:aD S H (.buildSlice 23 3 1 [.t 24])=some { v:=.slice (.own 3) [.int .i64 x] }:=by simp[aD,ev,QW,aG,AV.storable,AV.cells,AV.vw,AV.cI]
 show jB prog GI (.buildSlice 23 3 1 [.t 24]) (some 25) (cV prog GI _ K) S H;simp only[jB,ba,hb];refine kT (e:=3) (ints l) (.int .i64 x) (.own 3) (by simp[aP.S,aW,au,y0]) (by simp[aP.S,aW,au]) rfl (qK _) (by simpa[ints]using hn) ?_;intro S' d1 d2
 have j3:ints l++[.int .i64 x]=ints (l++[x]):=by simp[ints]
 rw[j3]at d1
 have hm:∃dm,(dm=none\/dm=some 26)/\aD S' H (.mv true (.t 26))=some { v:=grow 3 (ints (l++[x])),dm:=dm }:=by
  refine⟨some 26,.inr rfl,?_⟩;simp only[aD,ev,d1]
  rfl
 obtain⟨dm,IF,hm⟩:=hm;obtain⟨k1,k2⟩:=wu (S:=S') (d:=6) IF (grow 3 (ints (l++[x])));show jB prog GI (.mv true (.t 26)) (some 6) (cV prog GI [] K) S' H;simp only[jB,ba,hm]
 refine h _ k1 λk hk=>?_
 simp only[ad_,aey,agz,not_or]at hk;rw[k2 k hk.1 hk.2.2.2,d2 k hk.2.2.2 hk.2.1];simp[aP.S,aW,au,hk.2.2.1]
structure Vz(e b2 b5:Nat)(l:Array Bool)(a:Act)(w:World):Prop where
 size:a.tmps.size=29
 t1:a.tmps.getD 1 undef=.int .i64 (e:Nat)
 t2:a.tmps.getD 2 undef=.pointer (some ⟨b2,0,none⟩)
 t5:a.tmps.getD 5 undef=.pointer (some ⟨b5,0,none⟩)
 t16:l.getD 1 false=true->a.tmps.getD 16 undef=.int .i64 (e:Nat)
 t17:l.getD 2 false=true->a.tmps.getD 17 undef=.pointer (some ⟨b5,e,none⟩)
 heap:∃ty,w.heap[b5]?=some (.cells #[nX 115,nX 116] ty (0,0))
 c9:l.getD 9 false=true->l.getD 3 false=true
 c10:l.getD 10 false=true->l.getD 9 false=true
 c11:l.getD 11 false=true->l.getD 10 false=true
 c3:l.getD 3 false=true->l.getD 2 false=true
def J39(e b2 b5:Nat)(l:Array Bool)(a:Act)(w:World):Prop:=(l.getD 2 false=true/\l.getD 3 false=true)\/Vz e b2 b5 l a w
def qw{l:Array Bool}{i:Nat}(h:i<l.size):(l.setIfInBounds i true).getD i false=true:=by
 simp[adY,h]
def fc{l:Array Bool}{i j:Nat}(h:i≠j):(l.setIfInBounds i true).getD j false=l.getD j false:=by
 simp[adY,adN h]
def Vz.put {e b2 b5:Nat} {l:Array Bool} {a:Act} {w:World} (h:Vz e b2 b5 l a w) (i t:Nat) (v:Value) (ht:t≠1∧t≠2∧t≠5) (hl:l.size=13) (hi:i < 9) (h3:i≠3) (h1:i=1→t=16∧v = .int .i64 (e:Nat)) (h2:i=2→t=17∧v = .pointer (some ⟨b5,e,none⟩)) (ho:i≠1→t≠16) (QN:i≠2→t≠17) (VH:t < 29) :
  Vz e b2 b5 (l.setIfInBounds i true) (a.put (some t) v) w:=by
 have fx:∀k,k≠t->(a.put (some t) v).tmps.getD k undef=a.tmps.getD k undef:=λk hk=>by
  simp[Act.put,adN (aeq hk)]
 have jL:(a.put (some t) v).tmps.getD t undef=v:=by simp[Act.put,h.size,VH]
 refine⟨by simp[Act.put,h.size],by rw[fx 1 (aeq ht.1)];exact h.t1,by rw[fx 2 (aeq ht.2.1)];exact h.t2,by rw[fx 5 (aeq ht.2.2)];exact h.t5,?_,?_,h.heap,?_,?_,?_,?_⟩
 .by_cases QU:i=1
  .obtain⟨rfl,rfl⟩:=h1 QU
   exact λ_=>jL
  .rw[fc QU,fx 16 (aeq (ho QU))];exact h.t16
 .by_cases sY:i=2
  .obtain⟨rfl,rfl⟩:=h2 sY
   exact λ_=>jL
  .rw[fc sY,fx 17 (aeq (QN sY))];exact h.t17
 .rw[fc zo,fc h3];exact h.c9
 .rw[fc zo,fc zo];exact h.c10
 .rw[fc zo,fc zo];exact h.c11
 .rw[fc h3]
  by_cases sY:i=2
  .subst sY;exact λ_=>qw zo
  .rw[fc sY];exact h.c3
def acE(hG:ar GI)(e:Nat)(he:e=0\/e=1)(x:fZ):AC prog GI (115+e) [fY x] (.ret (.int .i64 (xH e x))):=by
 rcases he with rfl|rfl
 .exact Yi hG x
 .exact Zh hG x
noncomputable def Pf:Code:=f60.body.getD .skip
def V':Code->Code
 |.seq _ y=>y
 |c=>c
def Xm (hG:ar GI) (s:aw) (hs:s.cells.length < 1000) (e:Nat) (he:e=0∨e=1) (cc:Nat→Nat→Prop) (w:World) {Q:fa}
  (C5:∀S H,S 6=grow 3 (ints (cj e s))->SW prog GI 29 none (V' (V' (V' (V' Pf)))) Q (Old.plain cc w) S H):SW prog GI 29 none Pf Q (Old.plain cc w) (AL.start [bm s,.int .i64 (e:Nat)]) (λ_=>none):=by
 show SW prog GI 29 none (.seq _ (.seq _ (.seq _ (.seq _ _)))) _ _ _ _;refine dT hG c60.qa (λS' H'=>S' 1=.int .i64 (e:Nat)/\S' 2=.box 2 0/\H' 2=some (az s)) ?_ ?_
 .simp[c60,af.qa,bm,az,ai]
 rintro S1 H1 ⟨s1,s2,h2⟩
 refine SW.seq (SW.hand hG (p:=1) (lm:=[1,2]) (l2:=[]) (jX:=[_]) (oh:=[_,_]) (mw:=[]) rfl rfl rfl rfl zk (λ_ h=>h)
  (mS:=(c60.qb.qa.dl).take 1) (mf:=[]) zk rfl zk rfl
  (K1:=λS H=>S 1=.int .i64 (e:Nat)/\S 2=.box 2 0/\H 2=some (az s)/\S 8=.gY [.func (.func 115) [] [],.func (.func 116) [] []])
  (K2:=λo S H=>o=Old.plain cc w/\S 1=.int .i64 (e:Nat)/\S 2=.box 2 0/\H 2=some (az s)/\S 5=.box 5 0/\H 5=some [.val (nX 115),.val (nX 116)])
  (K3:=λo S H=>o=Old.plain cc w/\S 1=.int .i64 (e:Nat)/\S 2=.box 2 0/\H 2=some (az s)/\S 5=.box 5 0/\H 5=some [.val (nX 115),.val (nX 116)]) ?_ ?_ ?_ ?_)
 .simp[c60,af.qa,af.qb,af.dl,s1,s2,h2,Be]
 .rintro w0 g S2 H2 a w' m cm ho R ⟨s1,s2,h2,s8⟩;have bl:=R.size
  have e8:a.tmps.getD 8 undef=.agg #[nX 115,nX 116]:=by
   have:=R.slot 8 zd id;rw[s8]at this;exact G5 this
  have fx:∀(a:Act)(d t:Nat)(c:Value),t≠d->(a.put (some d) c).tmps.getD t undef=a.tmps.getD t undef:=λa d t c h=>by
   simp[Act.put,adN (aeq h)]
  have jL:∀(a:Act)(d:Nat)(c:Value),a.tmps.size=29->d<29->(a.put (some d) c).tmps.getD d undef=c:=λa d c h hd=>by
   simp[Act.put,h,hd]
  obtain⟨it,hi,hz⟩:=ae7.1 (show(prog.info? 172).bind (·.zero)=some (.agg #[.nilFunc,.nilFunc]) by kernel_rfl)
  have his:it.size=2:=by
   have:(prog.info? 172).map (·.size)=some 2:=zk
   rw[hi]at this;exact ad7 this
  refine bf rfl rfl zr (J4 (t:=172) rfl hi hz) ?_
  obtain⟨g4,q1,q2,q3,q4,q5,R4⟩:=R.VZ 5 zd (by rw[ho];exact λh=>h) [.val .nilFunc,.val .nilFunc] #[.nilFunc,.nilFunc] 172 ⟨rfl,λj h h'=>by
   match j,h with
   |0,_|1,_=>exact .val _ rfl,λj h=>by
   match j,h with
   |0,_|1,_=>rfl⟩ (λg' j h h'=>by
   match j,h with
   |0,_|1,_=>exact⟨trivial,trivial⟩)
  obtain⟨b,hb⟩:∃b,w'.heap.size=b:=⟨_,rfl⟩
  obtain⟨w4,nz⟩:∃w4,w'.alloc (.cells #[.nilFunc,.nilFunc] 172)=w4:=⟨_,rfl⟩
  have XJ:w4.heap[b]?=some (.cells #[.nilFunc,.nilFunc] 172 (0,0)):=by rw[<-nz,<-hb];exact aew w' _
  rw[hb]at R4 q5
  obtain⟨a4,mo⟩:∃a4,a.put (some 5) (.pointer (some ⟨b,0,none⟩))=a4:=⟨_,rfl⟩
  show wpOpsIn _ _ _ _ _ [2] (a.put (some 5) (.pointer (some ⟨w'.heap.size,0,none⟩))) (w'.alloc (.cells #[.nilFunc,.nilFunc] 172));rw[hb,nz,mo];rw[nz,mo]at R4
  have g8:a4.tmps.getD 8 undef=.agg #[nX 115,nX 116]:=by rw[<-mo,fx _ _ _ _ zd];exact e8
  have g5:a4.tmps.getD 5 undef=.pointer (some ⟨b,0,none⟩):=by rw[<-mo];exact jL _ _ _ bl zd
  refine eT rfl rfl zr (Ft (t:=172) (x:=.tmp 5) (y:=.tmp 8) rfl g5 hi XJ g8 (by rw[his];rfl) (by rw[his];rfl) (by intro u hu;simp[Value.cells]at hu;rcases hu with rfl|rfl<;>rfl)) ?_;show HQ prog w0 29 _ .normal a4 (w4.setRow b #[nX 115,nX 116])
  have R5:=R4.Io 5 b q5 _ #[nX 115,nX 116] 172 XJ [.val (nX 115),.val (nX 116)] rfl (λj h h'=>by
   match j,h with
   |0,_|1,_=>exact .val _ rfl) (λj h h'=>by
   match j,h with
   |0,_|1,_=>trivial) (λj h=>by
   match j,h with
   |0,_|1,_=>rfl)
  exact⟨g4,_,_,R5,by rw[q2,ho],by simp[au,s1,cb],by simp[au,s2,cb],by simp[au,h2],by simp[au],by simp[au]⟩
 .rintro o S2 H2 h;exact⟨λd hd=>by rw[h.1]at hd;exact hd,h⟩
 rintro o S2 H2 ⟨rfl,s1,s2,h2,s5,h5⟩;show SW prog GI 29 none (.seq _ (.seq (.seq _ (.block 0 (.loop _))) (.seq _ .ret))) _ _ _ _;refine dT hG c60.qb.qb.qa (λS H=>S 1=.int .i64 (e:Nat)/\S 2=.box 2 0/\H 2=some (az s)/\S 5=.box 5 0/\H 5=some [.val (nX 115),.val (nX 116)]/\S 6=.slice .nil []) ?_ ?_
 .simp[c60,af.qa,af.qb,s1,s2,h2,s5,h5,grow]
 clear s1 s2 h2 s5 h5 S2 H2;rintro S2 H2 ⟨s1,s2,h2,s5,h5,s6⟩;refine SW.seq (dT hG c60.qb.qb.qb.qa.qa (J2 s e 0) ?_ ?_)
 .simp[c60,af.qa,af.qb,az,ai,s1,s2,h2,s5,h5,s6,J2,grow];exact⟨rfl,rfl⟩
 clear s1 s2 h2 s5 h5 s6 S2 H2;intro S3 H3 hF;refine SW.block (SW.loop (λo S' H'=>∃i,o=Old.plain cc w/\i<=s.cells.length/\J2 s e i S' H') (λS' _=>match S' 12 with|.int _ j=>s.cells.length-j.toNat|_=>0) ⟨0,rfl,aeu _,hF⟩ ?_);rintro o S4 H4 ⟨i,rfl,hi,hF⟩;have m12:S4 12=.int .i64 (i:Nat):=hF.2.2.2.2.2.2.2;show SW prog GI 29 none (.seq _ (.seq (.cond _ _ _) (.seq (.block 1 (.seq _ _)) _))) _ _ _ _;refine dT hG GJ.qa (λS' H'=>S' 13=.bool (decide (i<s.cells.length))/\J2 s e i S' H') ?_ ?_
 .obtain⟨s1,s2,h2,s5,h5,s6,bG,cM⟩:=hF;simp[c60,GJ,af.qa,af.qb,J2,s1,s2,h2,s5,h5,s6,bG,cM]
 rintro S5 H5 ⟨dM,hF⟩
 by_cases aq:i<s.cells.length
 case neg=>
  have dk:i=s.cells.length:=zo
  refine SW.seq (SW.cond rfl false (by show S5 13=_;rw[dM];simp[aq]) (SW.exit ?_));subst dk;obtain⟨s1,s2,h2,s5,h5,s6,bG,cM⟩:=hF;have el:(cj e s).take s.cells.length=cj e s:=adI (by simp[cj]);rw[el]at s6;exact C5 S5 H5 s6
 case pos=>
  refine SW.seq (SW.cond rfl true (by show S5 13=_;rw[dM];simp[aq]) (SW.skip ?_));show SW prog GI 29 none (.seq (.block 1 (.seq _ _)) _) _ _ _ _;refine SW.seq (SW.block (dT hG GJ.qb.qb.qa.qb.qa (λS' H'=>S' 7=.int .i64 (i:Nat)/\J2 s e i S' H') ?_ ?_))
  .obtain⟨s1,s2,h2,s5,h5,s6,bG,cM⟩:=hF;simp[c60,GJ,af.qa,af.qb,J2,s1,s2,h2,s5,h5,s6,bG,cM]
  clear dM hF;rintro S6 H6 ⟨s7,hF⟩;have hx:=acE hG e he s.cells[i]
  have Q3:(cj e s).take (i+1)=(cj e s).take i++[xH e s.cells[i]]:=by
   rw[agr,adB (by simpa[cj]using aq)];simp[cj]
  refine SW.mono (Q:=λx o S H=>x=.normal/\o=Old.plain cc w/\S 1=.int .i64 (e:Nat)/\S 2=.box 2 0/\H 2=some (az s)/\S 5=.box 5 0/\H 5=some [.val (nX 115),.val (nX 116)]/\S 6=grow 3 (ints ((cj e s).take (i+1)))/\S 11=.int .i64 s.cells.length/\S 12=.int .i64 (i:Nat)) ?_ (SW.aai hG de (ops':=yN (wg e) _) (I6 _ zk) ?_ ?_ (l:=XG e) ?_ ?_ ?_)
  .rintro x o S7 H7 ⟨rfl,rfl,s1,s2,h2,s5,h5,s6,bG,cM⟩;show SW prog GI 29 none _ _ _ _ _;have hw:IntKind.i64.wrap ((i:Int)+1)=i+1:=aQ zo;refine SW.fP hG de zk (λ_ _ h=>h) (ac:=af.qb GJ.qb.qb) zk ?_
   have m12:S4 12=.int .i64 (i:Nat):=by assumption
   simp[c60,GJ,af.qa,af.qb,J2,thenS,fa.bB,s1,s2,h2,s5,h5,s6,bG,cM,hw];refine⟨⟨i+1,zo,rfl,ahB⟩,?_⟩;rw[m12];simp;omega
  .rcases he with rfl|rfl<;>kernel_rfl
  .rcases he with rfl|rfl<;>kernel_rfl
  .rcases he with rfl|rfl<;>kernel_rfl
  .intro w0 g a w' qg R;obtain⟨s1,s2,h2,s5,h5,s6,bG,cM⟩:=hF;obtain⟨b2,mf,e2⟩:=np R zd s2;obtain⟨b5,Y1,e5⟩:=np R zd s5;obtain⟨cs,vs,ty5,k0,k1,k2,k3,k4,k5,k6,k7,k8⟩:=R.box 5 b5 Y1;rw[h5]at k0;cases k0
   have fh:vs.size=2:=by rw[<-k5];rfl
   have xT:vs=#[nX 115,nX 116]:=by
    have c0:=k6 0 ahB zo;have c1:=k6 1 ahB zo;simp only[List.getElem_cons_zero,List.getElem_cons_succ]at c0 c1;apply afc
    .simpa using fh
    .intro j h1 h2
     match j,h2 with
     |0,_=>exact(RV.data (al:=cQ) _ _ c0).iA
     |1,_=>exact(RV.data (al:=cQ) _ _ c1).iA
   subst xT;refine⟨J39 e b2 b5,.inr ⟨R.size,vT R zd s1,e2,e5,ahB,ahB,⟨ty5,k2⟩,ahB,ahB,ahB,ahB⟩,?_⟩;intro i o o' l a w jZ pV hl fB hJ eH;have hl:l.size=13:=hl;rw[A_,jZ]at pV;simp only[Option.map_some,ad8]at pV
   have flip:∀j,j<13->l.getD j true=l.getD j false:=λj hj=>by simp[adY,hl,hj]
   have mono:∀j,l.getD j false=true->(l.setIfInBounds i true).getD j false=true:=λj hj=>by
    by_cases so:i=j
    .subst so;exact qw (by
      rw[hl]
      exact(adD.1 jZ).1)
    .rw[fc so];exact hj
   rcases hJ with⟨h2,h3⟩|hI
   .have n2:i≠2:=by rintro rfl;rw[flip 2 zo,h2]at fB;cases fB
    have n3:i≠3:=by rintro rfl;rw[flip 3 zo,h3]at fB;cases fB
    refine⟨?_,.inl λa' w'=>.inl ⟨mono 2 h2,mono 3 h3⟩⟩;subst pV
    have:wg e i o.op=o.op:=by unfold wg;split<;>first|omega|rfl
    rw[this]
   .have nv:∀ j,(o.after.any fun ed=>Region.binds .any ed && ed.on==j)=true→l.getD j false=true:=fun j hj=>by
     obtain⟨ed,Z1,G9⟩:=agc.1 hj;simp only[adE,aej]at G9;have:=eH ed Z1 G9.1;rwa [G9.2]at this
    have done:l.getD 3 false=true->J39 e b2 b5 (l.setIfInBounds i true)=λ_ _=>True:=λh3=>by
     funext a' w'
     exact eq_true (.inl ⟨mono 2 (hI.c3 h3),mono 3 h3⟩)
    match i,jZ with
    |0,jZ=>
     have e0:=ad7 (jZ.symm.trans (rfl:_=some _));subst pV
     have dn:o.op=.move (.tmp 6):=by rw[e0];rfl
     have hd:o.dst=some 15:=by rw[e0];rfl
     refine⟨rfl,.inr λx w' hr=>?_⟩;have ir:(execOp a.eval o).run prog w=.ok x w':=hr;obtain⟨rfl,v,rfl⟩:=rn (by rw[dn]) ir;rw[hd];exact⟨v,rfl,.inr (hI.put 0 15 v zd hl zd zd (λh=>absurd h zd) (λh=>absurd h zd) zd zd zd)⟩
    |1,jZ=>
     have e0:=ad7 (jZ.symm.trans (rfl:_=some _));subst pV
     have dn:o.op=.move (.tmp 1):=by rw[e0];rfl
     have hd:o.dst=some 16:=by rw[e0];rfl
     refine⟨rfl,.inr λx w' hr=>?_⟩;have ir:(execOp a.eval o).run prog w=.ok x w':=hr;have Hi:a.eval (.tmp 1)=.int .i64 (e:Nat):=hI.t1;rw[run_move (x:=.tmp 1) w dn,Hi]at ir;cases ir;rw[hd];exact⟨_,rfl,.inr (hI.put 1 16 _ zd hl zd zd (λ_=>⟨rfl,rfl⟩) (λh=>absurd h zd) zd zd zd)⟩
    |2,jZ=>
     have e0:=ad7 (jZ.symm.trans (rfl:_=some _));subst pV
     have dn:o.op=.indexAddr 172 (.tmp 5) (.tmp 16):=by rw[e0];rfl
     have hd:o.dst=some 17:=by rw[e0];rfl
     have wM:a.eval (.tmp 16)=.int .i64 (e:Nat):=hI.t16 (nv 1 (by rw[e0];kernel_rfl));have XN:a.eval (.tmp 5)=.pointer (some ⟨b5,0,none⟩):=hI.t5
     have G9:e<2:=zo
     have abZ:prog.underlying 172=some (.array 2 169):=zk
     obtain⟨i176,Yc,Y5⟩:=iZ 169 1
     have r1:(execOp a.eval o).run prog w=.ok (.value (.pointer (some ⟨b5,e,none⟩))) w:=by
      have:=Cl (P:=prog) (w:=w) (o:=o) dn abZ Yc XN wM G9;rw[Y5,afk,aeh]at this;exact this
     have r2:(execOp a.eval { o with op:=wg e 2 o.op }).run prog w=.ok (.value (.pointer (some ⟨b5,e,none⟩))) w:=by
      have hc:Cw prog 26 e=some (e,1):=by rcases he with rfl|rfl<;>kernel_rfl
      have:=uo (P:=prog) (w:=w) (a:=a) (o:={ o with op:=wg e 2 o.op }) hc zd rfl XN;rw[aeh]at this;exact this
     refine⟨r1.trans r2.symm,.inr λx w' hr=>?_⟩;have ir:(execOp a.eval o).run prog w=.ok x w':=hr;rw[r1]at ir;cases ir;rw[hd];exact⟨_,rfl,.inr (hI.put 2 17 _ zd hl zd zd (λh=>absurd h zd) (λ_=>⟨rfl,rfl⟩) zd zd zd)⟩
    |3,jZ=>
     have e0:=ad7 (jZ.symm.trans (rfl:_=some _));subst pV
     have dn:o.op=.load 169 (.tmp 17):=by rw[e0];rfl
     have hd:o.dst=some 18:=by rw[e0];rfl
     have uO:l.getD 2 false=true:=nv 2 (by rw[e0];kernel_rfl);have h17:a.eval (.tmp 17)=.pointer (some ⟨b5,e,none⟩):=hI.t17 uO;obtain⟨ty,GW⟩:=hI.heap;obtain⟨d,Dp,dO⟩:=vZ 169
     have r1:(execOp a.eval o).run prog w=.ok (.value (nX (115+e))) w:=
      BT (P:=prog) (o:=o) dn h17 Dp dO GW (by rcases he with rfl|rfl<;>rfl)
     have r2:(execOp a.eval { o with op:=wg e 3 o.op }).run prog w=.ok (.value (nX (115+e))) w:=
      run_move (x:=.func (115+e)) w rfl
     refine⟨r1.trans r2.symm,.inl λa' w'=>.inl ⟨mono 2 uO,?_⟩⟩;exact qw zo
    |4,jZ=>
     have e0:=ad7 (jZ.symm.trans (rfl:_=some _));subst pV
     have dn:o.op=.fieldAddr 31 (.tmp 2) 0:=by rw[e0];rfl
     have hd:o.dst=some 19:=by rw[e0];rfl
     have wG:a.eval (.tmp 2)=.pointer (some ⟨b2,0,none⟩):=hI.t2;have r1:(execOp a.eval o).run prog w=.ok (.value (.pointer (some ⟨b2,0+0,none⟩))) w:=uo (P:=prog) (w:=w) (a:=a) (o:=o) (show Cw prog 31 0=some (0,1) by kernel_rfl) zd dn wG;refine⟨rfl,.inr λx w' hr=>?_⟩;have ir:(execOp a.eval o).run prog w=.ok x w':=hr;rw[r1]at ir;cases ir;rw[hd];exact⟨_,rfl,.inr (hI.put 4 19 _ zd hl zd zd (λh=>absurd h zd) (λh=>absurd h zd) zd zd zd)⟩
    |5,jZ=>
     have e0:=ad7 (jZ.symm.trans (rfl:_=some _));subst pV
     have dn:o.op=.load 22 (.tmp 19):=by rw[e0];rfl
     have hd:o.dst=some 20:=by rw[e0];rfl
     refine⟨rfl,.inr λx w' hr=>?_⟩;have ir:(execOp a.eval o).run prog w=.ok x w':=hr;obtain⟨rfl,v,rfl⟩:=rn (by rw[dn]) ir;rw[hd];exact⟨v,rfl,.inr (hI.put 5 20 v zd hl zd zd (λh=>absurd h zd) (λh=>absurd h zd) zd zd zd)⟩
    |6,jZ=>
     have e0:=ad7 (jZ.symm.trans (rfl:_=some _));subst pV
     have dn:o.op=.move (.tmp 7):=by rw[e0];rfl
     have hd:o.dst=some 21:=by rw[e0];rfl
     refine⟨rfl,.inr λx w' hr=>?_⟩;have ir:(execOp a.eval o).run prog w=.ok x w':=hr;obtain⟨rfl,v,rfl⟩:=rn (by rw[dn]) ir;rw[hd];exact⟨v,rfl,.inr (hI.put 6 21 v zd hl zd zd (λh=>absurd h zd) (λh=>absurd h zd) zd zd zd)⟩
    |7,jZ=>
     have e0:=ad7 (jZ.symm.trans (rfl:_=some _));subst pV
     have dn:o.op=.indexAddr 22 (.tmp 20) (.tmp 21):=by rw[e0];rfl
     have hd:o.dst=some 22:=by rw[e0];rfl
     refine⟨rfl,.inr λx w' hr=>?_⟩;have ir:(execOp a.eval o).run prog w=.ok x w':=hr;obtain⟨rfl,v,rfl⟩:=rn (by rw[dn]) ir;rw[hd];exact⟨v,rfl,.inr (hI.put 7 22 v zd hl zd zd (λh=>absurd h zd) (λh=>absurd h zd) zd zd zd)⟩
    |8,jZ=>
     have e0:=ad7 (jZ.symm.trans (rfl:_=some _));subst pV
     have dn:o.op=.load 67 (.tmp 22):=by rw[e0];rfl
     have hd:o.dst=some 23:=by rw[e0];rfl
     refine⟨rfl,.inr λx w' hr=>?_⟩;have ir:(execOp a.eval o).run prog w=.ok x w':=hr;obtain⟨rfl,v,rfl⟩:=rn (by rw[dn]) ir;rw[hd];exact⟨v,rfl,.inr (hI.put 8 23 v zd hl zd zd (λh=>absurd h zd) (λh=>absurd h zd) zd zd zd)⟩
    |9,jZ=>
     have e0:=ad7 (jZ.symm.trans (rfl:_=some _));subst pV;exact⟨rfl,.inl λa' w'=>by rw[done (nv 3 (by rw[e0];kernel_rfl))];trivial⟩
    |10,jZ=>
     have e0:=ad7 (jZ.symm.trans (rfl:_=some _));subst pV;exact⟨rfl,.inl λa' w'=>by rw[done (hI.c9 (nv 9 (by rw[e0];kernel_rfl)))];trivial⟩
    |11,jZ=>
     have e0:=ad7 (jZ.symm.trans (rfl:_=some _));subst pV;exact⟨rfl,.inl λa' w'=>by rw[done (hI.c9 (hI.c10 (nv 10 (by rw[e0];kernel_rfl))))];trivial⟩
    |12,jZ=>
     have e0:=ad7 (jZ.symm.trans (rfl:_=some _));subst pV;exact⟨rfl,.inl λa' w'=>by rw[done (hI.c9 (hI.c10 (hI.c11 (nv 11 (by rw[e0];kernel_rfl)))))];trivial⟩
    |k+13,jZ=>exact absurd jZ ahB
  .obtain⟨s1,s2,h2,s5,h5,s6,bG,cM⟩:=hF;simp only[XG];simp[s1,s2,h2,s5,h5,s7,bG,cM,az,ai,aq,fY];refine Ip (k:=115+e) (v:=.int .i64 (xH e s.cells[i])) (by simp[au]) (by rcases he with rfl|rfl<;>kernel_rfl) (by simp[ev,au,cW]) (by simpa[ev,au,fz,ia,fY,AV.vw,AV.cI]using hx) ?_;refine K_ (l:=(cj e s).take i) (x:=xH e s.cells[i]) (by simp only[aT _ _ (show(15:Nat)≠24 by decide),aT _ _ (show(15:Nat)≠23 by decide),aT _ _ (show(15:Nat)≠22 by decide),aT _ _ (show(15:Nat)≠21 by decide),aT _ _ (show(15:Nat)≠20 by decide),aT _ _ (show(15:Nat)≠19 by decide),aT _ _ (show(15:Nat)≠18 by decide),aT _ _ (show(15:Nat)≠17 by decide),aT _ _ (show(15:Nat)≠16 by decide),aO];exact s6) (aO _ _ _) (by simp;omega) ?_;intro S' d1 d2;rw[Q3];refine⟨?_,?_,?_,?_,h5,d1,?_,?_⟩
   .rw[d2 1 zd];simp[au,s1]
   .rw[d2 2 zd];simp[au,s2]
   .rw[h2];rfl
   .rw[d2 5 zd];simp[au,s5]
   .rw[d2 11 zd];simp[au,bG]
   .rw[d2 12 zd];simp[au,cM]
def Md(hG:ar GI)(s:aw)(hs:s.cells.length<1000)(e:Nat)(he:e=0\/e=1):AC prog GI 60 [bm s,.int .i64 (e:Nat)] (.ret (vI (cj e s))):=by
 refine AC.nK (o:=if cj e s=[]then .nil else .view) ?_
 refine AC.ji func60 rfl ntmps60 ahB λcc w=>Xm hG s hs e he cc w λS5 H5 s6=>?_
 show SW prog GI 29 none (.seq _ .ret) _ _ _ _;refine SW.fP hG de zk (λ_ _ h=>h) (ac:=af.qb c60.qb.qb.qb) zk ?_
 by_cases h0:cj e s=[]
 .have SN:S5 6=.slice .nil []:=by rw[s6,h0];rfl
  simp[c60,af.qb,fa.bB,oz,SN,h0];exact⟨eo.plain rfl,rfl,rfl⟩
 .have M0:ints (cj e s)≠[]:=by simpa[ints]using h0
  have SN:S5 6=.slice (.own 3) (ints (cj e s)):=by rw[s6];simp[grow,M0]
  simp[c60,af.qb,fa.bB,oz,SN,h0]
  try exact⟨eo.plain rfl,rfl⟩
end Go.Proofs.Tryz
