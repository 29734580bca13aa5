/-
  A part of the proof.
-/
import Derived.Test.YtdiflocclemeaaaGreatDoorC1
import Derived.Test.YtdiflocclemeaaaGreatDoorC2
import Derived.Test.YtdiflocclemeaaaGreatDoorC3
import Derived.Test.YtdiflocclemeaaaGreatDoorC4
import Derived.Test.YtdiflocclemeaaaGreatDoorShelf
set_option maxRecDepth 100000
set_option maxHeartbeats 8000000
set_option linter.all false
set_option linter.unusedVariables false
set_option linter.unusedSimpArgs false
set_option linter.deprecated false
namespace Go.Proofs.Tram
def cW(seen:Nat->Bool)(s:Nat×List (Nat×Nat))(i:Nat):Nat×List (Nat×Nat):=if seen i=true then s else(i+1,if s.1<i then s.2++[(s.1,i-1)]else s.2)
def dn(seen:Nat->Bool)(n:Nat):List (Nat×Nat):=((List.range (n+1)).foldl (cW seen) (0,[])).2
def ae'(seen:Nat->Bool)(out:List (Nat×Nat))(c:Nat):List (Nat×Nat):=
 if seen c=true then(if 0<c/\seen (c-1)=true then out.dropLast++[((out.getLast?.getD (0,0)).1,c)]else out++[(c,c)])else out
def N1(seen:Nat->Bool)(n:Nat):List (Nat×Nat):=(List.range n).foldl (ae' seen) []
theorem lE (seen:Nat→Bool) (n:Nat) :
  ((List.range n).foldl (cW seen) (0,[])).1<=n/\(((List.range n).foldl (cW seen) (0,[])).1<n↔0<n/\seen (n-1)=true)/\
   (List.range n).foldl (ae' seen) []=((List.range n).foldl (cW seen) (0,[])).2++(if((List.range n).foldl (cW seen) (0,[])).1<n then[(((List.range n).foldl (cW seen) (0,[])).1,n-1)]else[]):=by
 induction n with
 |zero=>simp
 |succ n ih=>
  rw[afM,afy,afy]
  generalize(List.range n).foldl (cW seen) (0,[])=s at*
  generalize(List.range n).foldl (ae' seen) []=r at*
  obtain⟨h1,h2,h3⟩:=ih;simp only[List.foldl_cons,List.foldl_nil,agj]
  cases hs:seen n with
  |true=>
   have e1:cW seen s n=s:=by simp[cW,hs]
   rw[e1];refine⟨by omega,⟨λ_=>⟨by omega,by first|exact hs|rfl⟩,λ_=>by omega⟩,?_⟩;rw[if_pos (by omega:s.1<n+1)];unfold ae';rw[if_pos hs]
   by_cases aw:s.1<n
   .rw[if_pos (h2.1 aw),h3,if_pos aw];simp
   .have:s.1=n:=by omega
    rw[if_neg (λh=>aw (h2.2 h)),h3,if_neg aw,afL,this]
  |false=>
   have e1:cW seen s n=(n+1,if s.1<n then s.2++[(s.1,n-1)]else s.2):=by simp[cW,hs]
   have e2:ae' seen r n=r:=by simp[ae',hs]
   rw[e1,e2];refine⟨afg _,by simp,?_⟩;simp only[ahI,afx,afL];rw[h3]
   split<;>simp
theorem Dl{seen:Nat->Bool}{n:Nat}(hn:seen n=false):dn seen n=N1 seen n:=by
 have h:=lE seen (n+1)
 have h2:¬((List.range (n+1)).foldl (cW seen) (0,[])).1<n+1:=λhl=>by
  have:=(h.2.1.1 hl).2;rw[agj,hn]at this;cases this
 have h3:=h.2.2;rw[if_neg h2,afL]at h3
 have e:(List.range (n+1)).foldl (ae' seen) []=(List.range n).foldl (ae' seen) []:=by
  rw[afM,afy];simp[ae',hn]
 rw[e]at h3;exact h3.symm
def cy:List Int->Int->Nat×Int
 |[],t=>(0,t)
 |x::l,t=>if x<=t then((cy l (t-x)).1+1,(cy l (t-x)).2)else(0,t)
theorem mP:∀(l:List Int)(t:Int),(cy l t).1<=l.length
 |[],_=>afg _
 |x::l,t=>by
  unfold cy;split
  .simpa using mP l (t-x)
  .simp
theorem qB:∀(l:List Int)(t:Int),0<=t->0<=(cy l t).2
 |[],_,h=>h
 |x::l,t,h=>by
  unfold cy;split
  .exact qB l (t-x) (by omega)
  .exact h
theorem vv:∀(l:List Int)(t:Int)(x:Int),l[(cy l t).1]?=some x->(cy l t).2<x
 |[],_,_,h=>by simp at h
 |y::l,t,x,h=>by
  unfold cy at h⊢;split at h
  .rename_i hy;rw[if_pos hy];simp only[List.getElem?_cons_succ]at h;exact vv l (t-y) x h
  .rename_i hy;rw[if_neg hy];simp only[List.getElem?_cons_zero,agk]at h;simp only;omega
theorem zU:∀(l:List Int)(a b:Int),0<=b->cy l (a+b)=((cy l a).1+(cy (l.drop (cy l a).1) ((cy l a).2+b)).1,(cy (l.drop (cy l a).1) ((cy l a).2+b)).2)
 |[],a,b,_=>by simp[cy]
 |x::l,a,b,hb=>by
  by_cases h:x<=a
  .have e:cy (x::l) a=((cy l (a-x)).1+1,(cy l (a-x)).2):=by rw[cy];rw[if_pos h]
   rw[e]
   have e2:cy (x::l) (a+b)=((cy l (a+b-x)).1+1,(cy l (a+b-x)).2):=by
    rw[cy];rw[if_pos (by omega)]
   rw[e2,show a+b-x=(a-x)+b by omega,zU l (a-x) b hb];simp only[ahK]
   ext<;>simp<;>omega
  .have e:cy (x::l) a=(0,a):=by rw[cy];rw[if_neg h]
   rw[e];simp
theorem nQ:∀(l:List Int)(t:Int)(k:Nat),k<=(cy l t).1->cy l t=(k+(cy (l.drop k) (t-(l.take k).sum)).1,(cy (l.drop k) (t-(l.take k).sum)).2)
 |_,_,0,_=>by simp
 |[],t,k+1,h=>by simp[cy]at h
 |x::l,t,k+1,h=>by
  by_cases hx:x<=t
  .have e:cy (x::l) t=((cy l (t-x)).1+1,(cy l (t-x)).2):=by rw[cy];rw[if_pos hx]
   rw[e]at h⊢;have:=nQ l (t-x) k (by simpa using h);rw[this];simp only[ahK,List.take_succ_cons,List.sum_cons];rw[show t-x-(l.take k).sum=t-(x+(l.take k).sum) by omega]
   ext<;>simp<;>omega
  .rw[cy,if_neg hx]at h;simp at h
def fG(aZ:Nat->Int)(a b:Nat):Int:=((List.range' a (b-a)).map aZ).sum
theorem nh(aZ:Nat->Int){a b:Nat}(h:a<=b):fG aZ a (b+1)=fG aZ a b+aZ b:=by
 unfold fG;rw[show b+1-a=(b-a)+1 by omega,agL,afu,af8];simp
 congr 1;omega
theorem qX(aZ:Nat->Int)(a:Nat):fG aZ a a=0:=by simp[fG]
def dq(an:List Int)(aZ:Nat->Int)(vs:List (Nat×Nat)):Nat:=vs.foldl (λn v=>n+(cy (an.drop n) (fG aZ v.1 (v.2+1))).1) 0
def js(an:List Int)(aZ:Nat->Int)(seen:Nat->Bool)(s:Nat×Int)(i:Nat):Nat×Int:=
 if seen i=true then(s.1+(cy (an.drop s.1) (s.2+aZ i)).1,(cy (an.drop s.1) (s.2+aZ i)).2)else(s.1,0)
def iz(an:List Int)(aZ:Nat->Int)(seen:Nat->Bool)(n:Nat):Nat×Int:=(List.range n).foldl (js an aZ seen) (0,0)
theorem kq(an:List Int)(aZ:Nat->Int)(l:List (Nat×Nat))(v:Nat×Nat):dq an aZ (l++[v])=dq an aZ l+(cy (an.drop (dq an aZ l)) (fG aZ v.1 (v.2+1))).1:=by
 unfold dq;rw[afy];rfl
def tt(an:List Int)(aZ:Nat->Int)(s:Nat×List (Nat×Nat))(n:Nat):Nat×Int:=
 if s.1<n then(dq an aZ s.2+(cy (an.drop (dq an aZ s.2)) (fG aZ s.1 n)).1,(cy (an.drop (dq an aZ s.2)) (fG aZ s.1 n)).2)else(dq an aZ s.2,0)
theorem Co(an:List Int){aZ:Nat->Int}(hr:∀i,0<=aZ i)(seen:Nat->Bool)(s:Nat×List (Nat×Nat)){n:Nat}(hle:s.1<=n):js an aZ seen (tt an aZ s n) n=tt an aZ (cW seen s n) (n+1):=by
 cases hs:seen n with
 |true=>
  have e1:cW seen s n=s:=by simp[cW,hs]
  rw[e1];unfold js tt;rw[if_pos hs,if_pos (by omega:s.1<n+1),nh aZ hle]
  by_cases aw:s.1<n
  .rw[if_pos aw];simp only;rw[zU _ (fG aZ s.1 n) (aZ n) (hr n),agV]
   ext<;>simp<;>omega
  .have:s.1=n:=by omega
   rw[if_neg aw,this,qX]
 |false=>
  have e1:cW seen s n=(n+1,if s.1<n then s.2++[(s.1,n-1)]else s.2):=by simp[cW,hs]
  rw[e1];unfold js tt;rw[if_neg (by simp[hs])];simp only[ahI,afx]
  by_cases aw:s.1<n
  .rw[if_pos aw,if_pos aw,kq];simp only;rw[show n-1+1=n by omega]
  .rw[if_neg aw,if_neg aw]
theorem wh(an:List Int){aZ:Nat->Int}(hr:∀i,0<=aZ i)(seen:Nat->Bool):∀n,iz an aZ seen n=tt an aZ ((List.range n).foldl (cW seen) (0,[])) n
 |0=>by simp[iz,dq,tt]
 |n+1=>by
  have e1:iz an aZ seen (n+1)=js an aZ seen (iz an aZ seen n) n:=by
   unfold iz;rw[afM,afy];rfl
  have e2:(List.range (n+1)).foldl (cW seen) (0,[])=cW seen ((List.range n).foldl (cW seen) (0,[])) n:=by
   rw[afM,afy];rfl
  rw[e1,e2,wh an hr seen n];exact Co an hr seen _ (lE seen n).1
theorem rM{an:List Int}{aZ:Nat->Int}(hr:∀i,0<=aZ i){seen:Nat->Bool}{n:Nat}(hn:seen n=false):dq an aZ (dn seen n)=(iz an aZ seen n).1:=by
 have h:=wh an hr seen (n+1);have hv:=lE seen (n+1)
 have h2:¬((List.range (n+1)).foldl (cW seen) (0,[])).1<n+1:=λhl=>by
  have:=(hv.2.1.1 hl).2;rw[agj,hn]at this;cases this
 unfold tt at h;rw[if_neg h2]at h
 have e:iz an aZ seen (n+1)=js an aZ seen (iz an aZ seen n) n:=by
  unfold iz;rw[afM,afy];rfl
 rw[e]at h;unfold js at h;rw[if_neg (by simp[hn])]at h;exact(congrArg Prod.fst h).symm
def qo(a b:Nat×Int):Prop:=a.1<b.1\/(a.1=b.1/\a.2<=b.2)
theorem vR:∀(la lb:List Int)(ta tb:Int),la.length=lb.length->(∀j (h:j<la.length)(h':j<lb.length),lb[j]<=la[j])->ta<=tb->qo (cy la ta) (cy lb tb)
 |[],[],ta,tb,_,_,ht=>.inr ⟨rfl,ht⟩
 |[],_::_,_,_,h,_,_=>by simp at h
 |_::_,[],_,_,h,_,_=>by simp at h
 |x::la,y::lb,ta,tb,hl,h,ht=>by
  have h0:=h 0 (by simp) (by simp);simp only[List.getElem_cons_zero]at h0
  by_cases hx:x<=ta
  .have e1:cy (x::la) ta=((cy la (ta-x)).1+1,(cy la (ta-x)).2):=by rw[cy];rw[if_pos hx]
   have e2:cy (y::lb) tb=((cy lb (tb-y)).1+1,(cy lb (tb-y)).2):=by rw[cy];rw[if_pos (by omega)]
   rw[e1,e2]
   rcases vR la lb (ta-x) (tb-y) (by simpa using hl) (λj hj fj=>h (j+1) (ahQ hj) (ahQ fj)) (by omega)with hm|⟨hm,JF⟩
   .exact .inl (by simp only;omega)
   .exact .inr ⟨by simp only;omega,JF⟩
  .have e1:cy (x::la) ta=(0,ta):=by rw[cy];rw[if_neg hx]
   rw[e1]
   by_cases hy:y<=tb
   .have e2:cy (y::lb) tb=((cy lb (tb-y)).1+1,(cy lb (tb-y)).2):=by rw[cy];rw[if_pos hy]
    rw[e2];exact .inl (by simp)
   .have e2:cy (y::lb) tb=(0,tb):=by rw[cy];rw[if_neg hy]
    rw[e2];exact .inr ⟨rfl,ht⟩
structure Calm(an:List Int)(s:Nat×Int):Prop where
 left:0<=s.2
 next:∀x,an[s.1]?=some x->s.2<x
theorem rX{an:List Int}(hp:∀x∈an,0<x){aZ:Nat->Int}(hr:∀i,0<=aZ i)(seen:Nat->Bool){s:Nat×Int}(h:Calm an s)(i:Nat):Calm an (js an aZ seen s i):=by
 unfold js;split
 .refine⟨qB _ _ (by have:=h.left;have:=hr i;omega),λx hx=>?_⟩;refine vv (an.drop s.1) (s.2+aZ i) x ?_;rw[ahA];exact hx
 .exact⟨af9 _,λx hx=>hp x (agB hx)⟩
theorem As {na nb:List Int} (hl:na.length=nb.length) (hn:∀ j (h:j < na.length) (h':j < nb.length),nb[j]≤na[j]) (hp:∀ x∈nb,0 < x) {ra rb:Nat→Int} (yA:∀ i,0≤ra i) {sa sb:Nat→Bool} {i:Nat} (hs:sa i=true→sb i=true) (hr:sa i=true→ra i≤rb i) (mY:∀ i,0≤rb i)
  {a b:Nat×Int} (ha:Calm na a) (hb:Calm nb b) (h:qo a b):qo (js na ra sa a i) (js nb rb sb b i):=by
 have Fc:∀x∈na,0<x:=λx hx=>by
  obtain⟨j,hj,rfl⟩:=afD hx;have:=hn j hj (by omega);have:=hp _ (ae_ (by omega:j<nb.length));omega
 have lift:∀k ta tb,ta<=tb->qo (k+(cy (na.drop k) ta).1,(cy (na.drop k) ta).2) (k+(cy (nb.drop k) tb).1,(cy (nb.drop k) tb).2):=λk ta tb ht=>by
  rcases vR (na.drop k) (nb.drop k) ta tb (by simp;omega) (λj hj fj=>by simpa using hn (k+j) (by simp at hj;omega) (by simp at fj;omega)) ht with hm|⟨hm,JF⟩
  .exact .inl (by simp only;omega)
  .exact .inr ⟨by simp only;omega,JF⟩
 have hla:=ha.left;have JY:=hb.left;have X8:=yA i;have XV:=mY i;unfold js
 cases SB:sa i with
 |false=>
  simp only[afj,afx];split
  .have:=qB (nb.drop b.1) (b.2+rb i) (by omega)
   rcases h with h|⟨h,_⟩
   .exact .inl (by simp only;omega)
   .by_cases h0:(cy (nb.drop b.1) (b.2+rb i)).1=0
    .exact .inr ⟨by simp only;omega,this⟩
    .exact .inl (by simp only;omega)
  .rcases h with h|⟨h,_⟩
   .exact .inl h
   .exact .inr ⟨h,af9 _⟩
 |true=>
  have hr:=hr SB;rw[if_pos rfl,if_pos (hs SB)]
  rcases h with h|⟨h1,h2⟩
  .by_cases hk:b.1-a.1<=(cy (na.drop a.1) (a.2+ra i)).1
   .rw[nQ (na.drop a.1) (a.2+ra i) (b.1-a.1) hk,agV,show a.1+(b.1-a.1)=b.1 by omega];simp only;rw[show a.1+(b.1-a.1+(cy (na.drop b.1) (a.2+ra i-((na.drop a.1).take (b.1-a.1)).sum)).1)=b.1+(cy (na.drop b.1) (a.2+ra i-((na.drop a.1).take (b.1-a.1)).sum)).1 by omega];refine lift b.1 _ _ ?_
    have aw:a.1<na.length:=by
     have:=mP (na.drop a.1) (a.2+ra i);rw[agN]at this;omega
    have Ib:=ha.next na[a.1] (ae9 aw)
    have rT:na[a.1]<=((na.drop a.1).take (b.1-a.1)).sum:=by
     rw[ags aw,show b.1-a.1=(b.1-a.1-1)+1 by omega,List.take_succ_cons,List.sum_cons]
     have:0<=(((na.drop (a.1+1)).take (b.1-a.1-1))).sum:=by
      have jb:∀l:List Int,(∀x∈l,0<x)->0<=l.sum:=by
       intro l
       induction l with
       |nil=>simp
       |cons x l ih=>
        intro hx;have:=hx x (by simp)
        have:=ih λy hy=>hx y (afk _ hy)
        simp;omega
      exact jb _ λx hx=>Fc x (agC (afV hx))
     omega
    omega
   .exact .inl (by simp only;omega)
  .rw[h1];exact lift b.1 _ _ (by omega)
theorem rE{na nb:List Int}(hl:na.length=nb.length)(hn:∀j (h:j<na.length)(h':j<nb.length),nb[j]<=na[j])(hp:∀x∈nb,0<x){ra rb:Nat->Int}(yA:∀i,0<=ra i)(mY:∀i,0<=rb i){sa sb:Nat->Bool}:∀n,(∀i,i<n->sa i=true->sb i=true/\ra i<=rb i)->qo (iz na ra sa n) (iz nb rb sb n)/\Calm na (iz na ra sa n)/\Calm nb (iz nb rb sb n)
 |0,_=>by
  have Fc:∀x∈na,0<x:=λx hx=>by
   obtain⟨j,hj,rfl⟩:=afD hx;have:=hn j hj (by omega);have:=hp _ (ae_ (by omega:j<nb.length));omega
  exact⟨.inr ⟨rfl,af9 _⟩,⟨af9 _,λx hx=>Fc x (agB hx)⟩,⟨af9 _,λx hx=>hp x (agB hx)⟩⟩
 |n+1,h=>by
  obtain⟨h1,h2,h3⟩:=rE hl hn hp yA mY n (λi hi=>h i (by omega))
  have Fc:∀x∈na,0<x:=λx hx=>by
   obtain⟨j,hj,rfl⟩:=afD hx;have:=hn j hj (by omega);have:=hp _ (ae_ (by omega:j<nb.length));omega
  have e:∀(q:List Int)(r:Nat->Int)(s:Nat->Bool),iz q r s (n+1)=js q r s (iz q r s n) n:=λq r s=>by
   unfold iz;rw[afM,afy];rfl
  rw[e,e];exact⟨As hl hn hp yA (λhs=>(h n (by omega) hs).1) (λhs=>(h n (by omega) hs).2) mY h2 h3 h1,rX Fc yA sa h2 n,rX hp mY sb h3 n⟩
theorem yR {na nb:List Int} (hl:na.length=nb.length) (hn:∀ j (h:j < na.length) (h':j < nb.length),nb[j]≤na[j]) (hp:∀ x∈nb,0 < x) {ra rb:Nat→Int} (yA:∀ i,0≤ra i) (mY:∀ i,0≤rb i) {sa sb:Nat→Bool} {n:Nat} (ha:sa n=false) (hb:sb n=false)
  (h:∀i,i<n->sa i=true->sb i=true/\ra i<=rb i):dq na ra (dn sa n)<=dq nb rb (dn sb n):=by
 rw[rM yA ha,rM mY hb]
 rcases(rE hl hn hp yA mY n h).1 with h|⟨h,_⟩
 .omega
 .omega
theorem Ac (seen:Nat→Bool) (n:Nat) :
  (∀v∈((List.range n).foldl (cW seen) (0,[])).2,v.1<=v.2/\v.2+2<=((List.range n).foldl (cW seen) (0,[])).1)/\(((List.range n).foldl (cW seen) (0,[])).2).Pairwise (λu v=>u.2+1<v.1)/\
   ∀c,c<n->(seen c=true↔(∃v∈((List.range n).foldl (cW seen) (0,[])).2,v.1<=c/\c<=v.2)\/((List.range n).foldl (cW seen) (0,[])).1<=c):=by
 induction n with
 |zero=>simp
 |succ n ih=>
  have hle:=(lE seen n).1;rw[afM,afy]
  generalize(List.range n).foldl (cW seen) (0,[])=s at*
  simp only[List.foldl_cons,List.foldl_nil];obtain⟨h1,h2,h3⟩:=ih
  cases hs:seen n with
  |true=>
   have e1:cW seen s n=s:=by simp[cW,hs]
   rw[e1];refine⟨h1,h2,λc hc=>?_⟩
   by_cases EK:c=n
   .subst EK;exact⟨λ_=>.inr hle,λ_=>hs⟩
   .exact h3 c (by omega)
  |false=>
   have e1:cW seen s n=(n+1,if s.1<n then s.2++[(s.1,n-1)]else s.2):=by simp[cW,hs]
   rw[e1];simp only
   by_cases aw:s.1<n
   .rw[if_pos aw];refine⟨λv hv=>?_,?_,λc hc=>?_⟩
    .rcases afr.1 hv with hv|hv
     .have:=h1 v hv;omega
     .simp only[afs]at hv;subst hv;simp only;omega
    .rw[agy];refine⟨h2,by simp,λu hu v hv=>?_⟩;simp only[afs]at hv;subst hv;have:=h1 u hu;simp only;omega
    .by_cases EK:c=n
     .subst EK;rw[hs];refine⟨λh=>by(cases h),λh=>?_⟩;rcases h with⟨v,hv,sV,qD⟩|h
      .rcases afr.1 hv with hv|hv
       .have:=h1 v hv;omega
       .simp only[afs]at hv;subst hv;simp only at qD;omega
      .omega
     .rw[h3 c (by omega)];refine⟨λh=>.inl ?_,λh=>?_⟩
      .rcases h with⟨v,hv,Wo⟩|h
       .exact⟨v,agX _ hv,Wo⟩
       .exact⟨(s.1,n-1),by simp,h,by simp only;omega⟩
      .rcases h with⟨v,hv,sV,qD⟩|h
       .rcases afr.1 hv with hv|hv
        .exact .inl ⟨v,hv,sV,qD⟩
        .simp only[afs]at hv;subst hv;exact .inr sV
       .omega
   .rw[if_neg aw];refine⟨λv hv=>?_,h2,λc hc=>?_⟩
    .have:=h1 v hv;omega
    .by_cases EK:c=n
     .subst EK;rw[hs];refine⟨λh=>by(cases h),λh=>?_⟩;rcases h with⟨v,hv,sV,qD⟩|h
      .have:=h1 v hv;omega
      .omega
     .rw[h3 c (by omega)];refine⟨λh=>?_,λh=>?_⟩
      .rcases h with h|h
       .exact .inl h
       .omega
      .rcases h with h|h
       .exact .inl h
       .omega
theorem sf{seen:Nat->Bool}{n:Nat}(hn:seen n=false):(∀v∈dn seen n,v.1<=v.2/\v.2<n)/\(dn seen n).Pairwise (λu v=>u.2+1<v.1)/\∀c,c<n->(seen c=true↔∃v∈dn seen n,v.1<=c/\c<=v.2):=by
 obtain⟨h1,h2,h3⟩:=Ac seen (n+1);have hv:=lE seen (n+1)
 have h4:¬((List.range (n+1)).foldl (cW seen) (0,[])).1<n+1:=λhl=>by
  have:=(hv.2.1.1 hl).2;rw[agj,hn]at this;cases this
 have h5:=hv.1;unfold dn
 generalize(List.range (n+1)).foldl (cW seen) (0,[])=s at*
 refine⟨λv hv=>?_,h2,λc hc=>?_⟩
 .have:=h1 v hv;omega
 .rw[h3 c (by omega)];refine⟨λh=>?_,λh=>.inl h⟩;rcases h with h|h
  .exact h
  .omega
theorem o9(an:List Int)(aZ:Nat->Int)(vs:List (Nat×Nat)):dq an aZ vs<=an.length:=by
 have main:∀(r:List (Nat×Nat)),dq an aZ r.reverse<=an.length:=by
  intro r
  induction r with
  |nil=>simp[dq]
  |cons v r ih=>
   rw[List.reverse_cons,kq];have:=mP (an.drop (dq an aZ r.reverse)) (fG aZ v.1 (v.2+1));rw[agN]at this;omega
 have:=main vs.reverse;rwa [List.reverse_reverse]at this
structure wb(f:Nat->Nat)(m a w:Nat):Prop where
 place:1<=a/\a<=m
 words:w=f a
 most:∀n,1<=n->n<=m->f n<=w/\(f n=w->a<=n)
theorem wb.unique{f:Nat->Nat}{m a w a' w':Nat}(h:wb f m a w)(h':wb f m a' w'):a=a'/\w=w':=by
 have h1:=h.most a' h'.place.1 h'.place.2;have h2:=h'.most a h.place.1 h.place.2;have e1:=h.words;have e2:=h'.words
 have hw:w=w':=by omega
 have:=h1.2 (by omega);have:=h2.2 (by omega);exact⟨by omega,hw⟩
def kC(x:Nat×Nat)(l:List (Nat×Nat)):Nat×Nat:=l.foldl (λo y=>if o.2<y.2 then y else o) x
def eN(f:Nat->Nat)(a m:Nat):List (Nat×Nat):=(List.range' a m).map λn=>(n,f n)
def kN(p:Nat->Bool)(k n:Nat):Prop:=n<=k/\(∀x,x<n->p x=false)/\(n<k->p n=true)
theorem kN.unique{p:Nat->Bool}{k m n:Nat}(h:kN p k m)(h':kN p k n):m=n:=by
 rcases Nat.lt_trichotomy m n with aw|rfl|aw
 .have h1:=h.2.2 (by have:=h'.1;omega);have h2:=h'.2.1 m aw;rw[h1]at h2;cases h2
 .rfl
 .have h1:=h'.2.2 (by have:=h.1;omega);have h2:=h.2.1 n aw;rw[h1]at h2;cases h2
theorem ID{p:Nat->Bool}(hm:∀x y,x<=y->p x=true->p y=true){i j:Nat}(oP:i<j)(EG:∀x,x<i->p x=false):i<=(i+j)/2/\(i+j)/2<j/\(p ((i+j)/2)=false->∀x,x<(i+j)/2+1->p x=false):=by
 refine⟨by omega,by omega,λh x hx=>?_⟩
 cases hp:p x with
 |false=>rfl
 |true=>
  have:=hm x _ (by omega:x<=(i+j)/2) hp;rw[h]at this;cases this
structure xA(p:Nat->Nat->Bool)(m c t:Nat):Prop where
 cell:c<m
 Ku:p c t=true
 less:∀c' n,c'<m->p c' n=true->t<=n/\(n=t->c<=c')
theorem xA.unique{p:Nat->Nat->Bool}{m c t c' t':Nat}(h:xA p m c t)(h':xA p m c' t'):c=c'/\t=t':=by
 have h1:=h.less c' t' h'.cell h'.Ku;have h2:=h'.less c t h.cell h.Ku
 have ht:t=t':=by omega
 subst ht;have:=h1.2 rfl;have:=h2.2 rfl;exact⟨by omega,rfl⟩
def lT(x:Nat×Nat)(l:List (Nat×Nat)):Nat×Nat:=l.foldl (λo y=>if y.2<o.2 then y else o) x
def eg(f:Nat->Nat)(most:Nat)(m:Nat):List (Nat×Nat):=(List.range m).filterMap λi=>if f i<=most then some (i,f i)else none
theorem yc(f:Nat->Nat)(most m:Nat):eg f most (m+1)=eg f most m++(if f m<=most then[(m,f m)]else[]):=by
 unfold eg;rw[afM,List.filterMap_append]
 congr 1
 by_cases h:f m<=most<;>simp[h]
theorem zJ{f:Nat->Nat}{most m:Nat}{x:Nat×Nat}:x∈eg f most m↔x.1<m/\x.2=f x.1/\f x.1<=most:=by
 unfold eg;rw[ah8]
 constructor
 .rintro⟨i,hi,he⟩;split at he
  .cases he;exact⟨afE.1 hi,rfl,by assumption⟩
  .cases he
 .rintro⟨h1,h2,h3⟩;refine⟨x.1,afE.2 h1,?_⟩;rw[if_pos h3,<-h2]
theorem B4{p:Nat->Nat->Bool}{f:Nat->Nat}{most m:Nat}(hf:∀i,i<m->kN (p i) (most+1) (f i)){c n:Nat}(hc:c<m)(hn:n<=most)(hp:p c n=true):∃x l,eg f most m=x::l:=by
 cases hs:eg f most m with
 |cons x l=>exact⟨x,l,rfl⟩
 |nil=>
  have hle:f c<=n:=by
   rcases ahB n (f c)with h|h
   .have:=(hf c hc).2.1 n h;rw[hp]at this;cases this
   .exact h
  have:(c,f c)∈eg f most m:=zJ.2 ⟨hc,rfl,by show f c<=most;omega⟩;rw[hs]at this;cases this
theorem iX:∀{l:List Int},(∀x∈l,0<x)->0<=l.sum
 |[],_=>by simp
 |x::l,h=>by
  have:=h x (by simp)
  have:=iX (l:=l) λy hy=>h y (afk _ hy)
  simp only[List.sum_cons];omega
theorem Ae:∀{l:List Int}{t:Int},(∀x∈l,0<x)->0<=t->((cy l t).1=l.length↔l.sum<=t)
 |[],t,_,ht=>by simp[cy,ht]
 |x::l,t,h,ht=>by
  have h0:=h x (by simp)
  have hl:=λy hy=>h y (afk _ hy)
  have hs:=iX hl
  by_cases hx:x<=t
  .have e:cy (x::l) t=((cy l (t-x)).1+1,(cy l (t-x)).2):=by rw[cy];rw[if_pos hx]
   rw[e];have:=Ae (l:=l) (t:=t-x) hl (by omega);simp only[List.length_cons,List.sum_cons]
   constructor
   .intro h1;have:=this.1 (by omega);omega
   .intro h1;have:=this.2 (by omega);omega
  .have e:cy (x::l) t=(0,t):=by rw[cy];rw[if_neg hx]
   rw[e];simp only[List.length_cons,List.sum_cons]
   constructor
   .intro h1;omega
   .intro h1;omega
end Go.Proofs.Tram
namespace Go.Proofs.Tryz
open Go.AL
variable{GI:World->Prop}
theorem cC:prog.follows .mixedOrders=true:=by kernel_rfl
theorem bP{GI:World->Prop}(hG:au GI){f:Nat}{fn:Func}{c:Code}{args:List AV}{out:eZ}{n:Nat}(hf:prog.funcs[f]?=some fn)(hn:fn.ntmps=n)(ac:af)(h:bO prog GI ac (post prog n fn.results.toList out) (AL.start args) (λ_=>none))(hl:args.length<=n:=by simp)(hb:fn.body=some c:=by rfl)(hc:kT prog n c=ac:=by kernel_rfl):AC prog GI f args out:=AC.Oj hG cC hf hb hn hl hc h
theorem Gi (hG:au GI) (es:List AV) (eK:aM 1 es=true) (hl:es.length < 1048576) :
  AC prog GI 114 [.slice .view es] (.ret (.slice (if es.isEmpty then .nil else .own 3) es)):=by
 refine bP hG func114 ntmps114 c114 ?_
 cases es with
 |nil=>simp[c114,bO,bj,aD,bf,aL,ev,aT.S,aT.H,bu,cV,av,aY,AL.start,AV.aI,aM,post,cw,cH,cI,AV.out,AV.bU]
 |cons x es=>
  have rp:es.length+1<1048576:=hl;simp[c114,bO,bj,aD,bf,aL,ev,aT.S,aT.H,bu,cV,av,aY,AL.start,AV.aI,eK,rp,post,cw,cH,cI,AV.out,AV.bU]
theorem L7 (hG:au GI) (es:List AV) (eK:aM 2 es=true) (hl:es.length < 1048576) :
  AC prog GI 190 [.slice .view es] (.ret (.slice (if es.isEmpty then .nil else .own 46) es)):=by
 refine bP hG func190 ntmps190 c190 ?_
 cases es with
 |nil=>simp[c190,bO,bj,aD,bf,aL,ev,aT.S,aT.H,bu,cV,av,aY,AL.start,AV.aI,aM,post,cw,cH,cI,AV.out,AV.bU]
 |cons x es=>
  have rp:es.length+1<1048576:=hl;simp[c190,bO,bj,aD,bf,aL,ev,aT.S,aT.H,bu,cV,av,aY,AL.start,AV.aI,eK,rp,post,cw,cH,cI,AV.out,AV.bU]
theorem J5(hG:au GI)(l:List Int)(n:Int)(hl:l.length<1048576):AC prog GI 85 [vI l,int n] (.ret (.bool (l.contains n))):=by
 refine bP hG func85 ntmps85 c85 ?_;simp only[c85,gO,bO,bj,aD,bf,aL,ev,aT.S,aT.H,bu,cV,db];refine⟨λS H=>∃i:Nat,i<=l.length/\n∉l.take i/\S 0=.slice .view (ints l)/\S 1=.int .i64 n/\S 5=.int .i64 i,λS H=>match S 5 with|.int _ k=>l.length-k.toNat|_=>0,⟨0,by simp[av,aY,AL.start,vI,int,AV.aI]⟩,?_⟩;rintro S H ⟨i,hi,hn,h0,h1,h5⟩
 by_cases aw:i<l.length
 .have hw:IntKind.i64.wrap ((i:Int)+1)=i+1:=aN (by omega)
  by_cases he:l[i]=n
  .simp[av,aY,h0,h1,h5,AV.aI,dI,b_,df,aw,hw,AV.cells,ck,he,post,cw,cH,cI,AV.out,AV.bU];rw[<-he];exact ae_ aw
  .have hb:(l[i]==n)=false:=by simp[he]
   simp[av,aY,h0,h1,h5,AV.aI,dI,b_,df,aw,hw,AV.cells,ck,hb];refine⟨⟨i+1,aw,λhm=>?_,by omega⟩,by omega⟩;rw[afd aw,afr,afs]at hm;rcases hm with hm|hm
   .exact hn hm
   .exact he hm.symm
 .have:i=l.length:=by omega
  subst this;simp[av,aY,h0,h1,h5,AV.aI,dI,b_,post,cw,cH,cI,AV.out,AV.bU];simpa using hn
end Go.Proofs.Tryz
namespace Go.Proofs.Tryz
open Go Go.AL Go.RowKit Go.Proofs Go.Proofs.Tram
abbrev End:=Int×Int
def aS(e:End):AV:=.agg [.int .i64 e.1,.int .i64 e.2]
def aH(l:List End):List AV:=l.map aS
def aJ(out:List Int)(es:List End):AV:=.agg [.slice .view (ints out),.slice .view (aH es)]
def lp:List End->List End->Nat->List (List End)
 |_,[],_=>[]
 |now,a::r,m=>(if r=[]then[now++[a]]else match m with|0=>[]|m+1=>lp (now++[a]) r m)++lp now r m
def ch(now l:List End)(m:Nat):List (List End):=if l=[]then[now]else match m with|0=>[]|m+1=>lp now l m
variable{GI:World->Prop}{l:Nat}{xs:List AV}
structure Fx(C:Cons prog GI l xs)(all:List End)(out:List Int)(fA:List AV)(rows:Nat) where
 bN:Nat
 cA:Value
 cY:Value
 cO:Value
 cF:Value
 cR:Value
 MI:Nat->Prop
 wI:World
 bA:Nat
 u_:Value
 DC:cA=.pointer (some ⟨bA,0,none⟩)
 IG:MI bA/\bA<bN
 Sv:∃ty,wI.heap[bA]?=some (.cells #[u_] ty (0,0))
 hY:RV (λb _=>MI b) cd wI (.ref [.val (.func (.yield l) #[] #[])]) cY
 hR:RV (λb _=>MI b) cd wI (.ref [.val (.func (.func 189) #[] #[cA,cY,cO,.pointer (some ⟨bN,0,none⟩),cF,cR])]) cR
 f9:fA[9]?=some (.int .i64 rows)
variable{C:Cons prog GI l xs}{all:List End}{out:List Int}{fA:List AV}{rows:Nat}
structure St(X:Fx C all out fA rows)(k:Nat)(M:Nat->Prop)(Pr:Nat->Nat->Prop)(es:List End)(w:World):Prop where
 j:C.J k M Pr w
 lt:∀b,M b->b<w.heap.size
 mi:∀b,X.MI b->M b/\b≠X.bN/\w.heap[b]?=X.wI.heap[b]?
 now:∃v ty yx,w.heap[X.bN]?=some (.cells #[v] ty (0,0))/\M X.bN/\w.ownsRow (X.bN+1) 46 2 v es.length yx/\rr (λ_ _=>False) w 2 (aH es) yx/\∀b,v.ownBlock=some b->M b/\¬X.MI b
 f:RV Pr cd w (.ref fA) X.cF
 o:RV Pr cd w (.ref [.slice .view (ints out)]) X.cO
 e:RD (λb k=>b<X.bN/\(X.MI b\/Pr b k)) w (.slice .view (aH all)) X.u_
theorem sN{MI:Nat->Prop}{bN:Nat}{Pr fl:Nat->Nat->Prop}{w w':World}(hm:∀b,MI b->w'.heap[b]?=w.heap[b]?)(hk:bz Pr fl w w'):bz (λb k=>b<bN/\(MI b\/Pr b k)) (λb k=>b<bN/\(MI b\/fl b k)) w w':={
 cell b k hp u hu:=by
  rcases hp.2 with h|h
  .exact⟨⟨hp.1,.inl h⟩,by rw[ahY (w:=w) (hm b h)];exact hu⟩
  .obtain⟨h1,h2⟩:=hk.cell b k h u hu;exact⟨⟨hp.1,.inr h1⟩,h2⟩
 map b hp es c Ss:=by
  rcases hp.2 with h|h
  .exact⟨⟨hp.1,.inl h⟩,by rw[hm b h];exact Ss⟩
  .obtain⟨h1,h2⟩:=hk.map b h es c Ss
   exact⟨⟨hp.1,.inr h1⟩,h2⟩ }
theorem St.KF{X:Fx C all out fA rows}{k:Nat}{M:Nat->Prop}{Pr:Nat->Nat->Prop}{es:List End}{w:World}(s:St X k M Pr es w):RV (λb k=>b<X.bN/\(X.MI b\/Pr b k)) cd w (.ref [.slice .view (aH all)]) X.cA:=by
 obtain⟨ty,h2⟩:=X.Sv;rw[X.DC];have hb:w.heap[X.bA]?=some (.cells #[X.u_] ty (0,0)):=(s.mi _ X.IG.1).2.2.trans h2;refine .data _ _ (.ref _ _ _ (λ_=>X.u_) (λi hi=>?_) (λk hk=>⟨⟨X.IG.2,.inl X.IG.1⟩,?_⟩) (λk hk=>?_))
 .have:i=0:=by simpa using hi
  subst this;rfl
 .have:k=0:=by simpa using hk
  subst this;simp[World.cell?,hb]
 .have:k=0:=by simpa using hk
  subst this;exact s.e
structure Fr(X:Fx C all out fA rows)(n:Int)(a:Act):Prop where
 size:a.tmps.size=53
 defers:a.defers=[]
 t0:a.tmps.getD 0 undef=.int .i64 n
 t1:a.tmps.getD 1 undef=X.cA
 t2:a.tmps.getD 2 undef=X.cY
 t3:a.tmps.getD 3 undef=X.cO
 t4:a.tmps.getD 4 undef=.pointer (some ⟨X.bN,0,none⟩)
 t5:a.tmps.getD 5 undef=X.cF
 t6:a.tmps.getD 6 undef=X.cR
def eW(l:Nat)(all es:List End)(out:List Int)(fA:List AV)(fv:Value)(n:Int)(v9:AV):aF:=λt=>match t with
 |0=>.int .i64 n
 |1=>.ref [.slice .view (aH all)]
 |2=>.ref [.val (.func (.yield l) #[] #[])]
 |3=>.ref [.slice .view (ints out)]
 |4=>.ref [.slice .view (aH es)]
 |5=>.ref fA
 |6=>.ref [.val fv]
 |9=>v9
 |_=>.bB
def Fx.fv(X:Fx C all out fA rows):Value:=.func (.func 189) #[] #[X.cA,X.cY,X.cO,.pointer (some ⟨X.bN,0,none⟩),X.cF,X.cR]
theorem St.dX {X:Fx C all out fA rows} {k:Nat} {M:Nat→Prop} {Pr:Nat→Nat→Prop} {es:List End} {w:World} (s:St X k M Pr es w) {n:Int} {a:Act} (fr:Fr X n a) {v9:AV} (h9:v9.aI=v9∧RV (fun _ _=>True) cd w v9 (a.tmps.getD 9 undef)) :
  ∀t,t<53->(eW l all es out fA X.fv n v9 t).aI=eW l all es out fA X.fv n v9 t/\RV (λ_ _=>True) cd w (eW l all es out fA X.fv n v9 t) (a.tmps.getD t undef):=by
 intro t ht
 have Pw:∀{P':Nat->Nat->Prop},(∀b k,P' b k->X.MI b)->bz P' (λ_ _=>True) X.wI w:=λh=>bz.of_eq λb k hp=>⟨trivial,(s.mi b (h b k hp)).2.2⟩
 unfold eW;split
 .rw[fr.t0];exact⟨rfl,.data _ _ (.int _ _)⟩
 .rw[fr.t1];exact⟨rfl,s.KF.mono (bz.same λ_ _ _ _=>trivial) λ_ _ h=>h⟩
 .rw[fr.t2];exact⟨rfl,X.hY.mono (Pw λb k h=>h) λ_ _ h=>h⟩
 .rw[fr.t3];exact⟨rfl,s.o.mono (bz.same λ_ _ _ _=>trivial) λ_ _ h=>h⟩
 .rw[fr.t4];obtain⟨v,ty,yx,h1,h2,h3,h4,h5⟩:=s.now;refine⟨rfl,.data _ _ (.ref _ _ _ (λ_=>v) (λi hi=>?_) (λk hk=>⟨trivial,?_⟩) (λk hk=>?_))⟩
  .have:i=0:=by simpa using hi
   subst this;rfl
  .have:k=0:=by simpa using hk
   subst this;simp[World.cell?,h1]
  .have:k=0:=by simpa using hk
   subst this
   exact RD.ofRow (size:=2) (es:=aH es) (by simpa[aH]using h3) (h4.mono (bz.same λ_ _ _ h=>h.elim)) λ_ _ _ _=>trivial
 .rw[fr.t5];exact⟨rfl,s.f.mono (bz.same λ_ _ _ _=>trivial) λ_ _ h=>h⟩
 .rw[fr.t6];exact⟨rfl,X.hR.mono (Pw λb k h=>h) λ_ _ h=>h⟩
 .exact h9
 .exact⟨rfl,.bB _⟩
theorem St.grow{X:Fx C all out fA rows}{k:Nat}{M:Nat->Prop}{Pr:Nat->Nat->Prop}{es:List End}{w w':World}(s:St X k M Pr es w)(hb:Below w.heap.size w w'):St X k M Pr es w':=by
 have hM:=s.lt
 have bb:∀b,M b->w'.heap[b]?=w.heap[b]?:=λb h=>hb.block b (hM b h)
 have hk:bz Pr Pr w w':=bz.jV (λb h=>hb.block b h) λ_ _ _ h=>h
 obtain⟨v,ty,yx,h1,h2,h3,h4,h5⟩:=s.now;refine⟨C.c_ s.j (sB.qC hb) λb h=>⟨afI (hM b h) hb.size,.inl h⟩,λb h=>afI (hM b h) hb.size,λb h=>⟨(s.mi b h).1,(s.mi b h).2.1,(bb b (s.mi b h).1).trans (s.mi b h).2.2⟩,⟨v,ty,yx,(bb _ h2).trans h1,h2,?_,h4.mono (bz.of_eq λ_ _ h=>h.elim),h5⟩,s.f.mono hk λ_ _ h=>h,s.o.mono hk λ_ _ h=>h,s.e.mono (sN (λb h=>bb b (s.mi b h).1) hk)⟩;refine⟨h3.1,?_⟩
 rcases h3.2 with h|⟨gg,cap,cur,rfl,uq,yM,rest⟩
 .exact .inl h
 .exact .inr ⟨gg,cap,cur,rfl,uq,(bb gg (h5 gg rfl).1).trans yM,rest⟩
def _root_.Go.AL.af.qa:af->af
 |.seq x _=>x
 |.cond _ x _=>x
 |c=>c
def _root_.Go.AL.af.qb:af->af
 |.seq _ y=>y
 |.cond _ _ y=>y
 |.block _ c=>c
 |.loop c=>c
 |c=>c
def _root_.Go.AL.af.dl:af->List fw
 |.eB l|.ops l=>l
 |_=>[]
def vg:Nat->Bool:=λt=>decide (36<=t)
def W7:Nat->Bool:=λt=>decide (7<=t)
noncomputable def px:af:=af.qb c189.qb.qb.qa.qb.qb
theorem Fr.step{X:Fx C all out fA rows}{n:Int}{a a':Act}(fr:Fr X n a)(bL:a'.tmps.size=53)(ea:a'.defers=[])(h:fC W7 a a'):Fr X n a':=
 ⟨bL,ea,(h 0 rfl).trans fr.t0,(h 1 rfl).trans fr.t1,(h 2 rfl).trans fr.t2,(h 3 rfl).trans fr.t3,(h 4 rfl).trans fr.t4,(h 5 rfl).trans fr.t5,(h 6 rfl).trans fr.t6⟩
theorem bK(args:Array Value)(k t:Nat)(h:t<args.size):(args++Array.replicate k undef).getD t undef=args[t]:=by
 simp[ah2,h]
theorem jS(l:List Int):aM 1 (ints l)=true:=by
 simp[aM,ints,AV.storable,AV.cells]
theorem nA(l:List End):aM 2 (aH l)=true:=by
 simp[aM,aH,aS,AV.storable,AV.cells]
theorem nW(es:List End):∀x∈aH es,x.cells.length=2/\x.storable=true/\∀c∈x.cells,c.one=true:=by
 intro x hx;obtain⟨e,_,rfl⟩:=afp.1 hx;refine⟨rfl,rfl,λc hc=>?_⟩;simp[aS,AV.cells]at hc
 rcases hc with rfl|rfl<;>rfl
theorem tK(es:List End):∀x∈aH es,∀c∈x.cells,jA c=true:=by
 intro x hx c hc;obtain⟨e,_,rfl⟩:=afp.1 hx;simp[aS,AV.cells]at hc
 rcases hc with rfl|rfl<;>rfl
theorem bh{P:Program}{t:TypeId}{s:Nat}(h:(P.info? t).map (·.size)=some s):∃i,P.info? t=some i/\i.size=s:=by
 cases hi:P.info? t with
 |none=>rw[hi]at h;cases h
 |some i=>rw[hi]at h;exact⟨i,rfl,afo h⟩
theorem lW {P:Program} {a:Act} {o:Oper} {cl:Call} {f x:Operand} {l:Nat} (w:World) (ho:o.op = .call cl) (hc:cl.callee = .value f) (ha:cl.args = #[x]) (hf:a.eval f = .func (.yield l) #[] #[]) :
  (execOp a.eval o).run P w=(Instr.yield l #[a.eval x]).run P w:=by
 unfold execOp;simp[ho,eV hc,hf,Deferred.ofValue,invoke,ha]
theorem mR {P:Program} {a:Act} {o:Oper} {cl:Call} {f x:Operand} {k:Nat} {cap:Array Value} (w:World) (ho:o.op = .call cl) (hc:cl.callee = .value f) (ha:cl.args = #[x]) (hf:a.eval f = .func (.func k) #[] cap) (hk:dZ P k=true) :
  (execOp a.eval o).run P w=.ok (.enter k (#[a.eval x]++cap)) w:=by
 unfold execOp;simp[ho,eV hc,hf,Deferred.ofValue,invoke,ha,je hk]
theorem Dw{P:Program}{a:Act}{o:Oper}{x:Operand}{t:TypeId}{b:Bool}(w:World)(ho:o.op=.unOp .not t x)(hx:a.eval x=.bool b):(execOp a.eval o).run P w=.ok (.value (.bool !b)) w:=by
 unfold execOp;simp[ho,hx,Op.unary]
theorem fC.weaken{W W':Nat->Bool}{a a':Act}(h:fC W a a')(hw:∀t,W' t=false->W t=false):fC W' a a':=λt ht=>h t (hw t ht)
theorem ahu{P:Program}{fn:Func}{tmps:Array Value}{t:Tmp}{v:Value}{w:World}(hr:fn.results=#[.tmp t])(h:tmps.getD t undef=v):(results fn tmps).run P w=.ok v w:=by
 rw[<-h];simp[results,hr]
theorem run_assign{P:Program}{a:Act}{o:Oper}{x:Operand}(w:World)(ho:o.op=.assign x):(execOp a.eval o).run P w=.ok (.value (a.eval x)) w:=by
 unfold execOp;simp only[ho]
 rfl
theorem St.after {X:Fx C all out fA rows} {k k':Nat} {M G:Nat→Prop} {Pr fl:Nat→Nat→Prop} {es:List End} {w w':World} (s:St X k M Pr es w) (hj:C.J k' (fun b=>(M b∨G b)∧¬ G b) fl w') (hG:∀ b,G b→¬ M b)
  (hs:∀b,M b\/G b->¬G b->w'.heap[b]?=w.heap[b]?) (hk:bz Pr fl w w'):St X k' (λb=>(M b\/G b)/\¬G b) fl es w':=by
 have HC:∀b,M b->¬G b:=λb hb hg=>hG b hg hb
 have bb:∀b,M b->w'.heap[b]?=w.heap[b]?:=λb hb=>hs b (.inl hb) (HC b hb)
 obtain⟨v,ty,yx,h1,h2,h3,h4,h5⟩:=s.now;refine⟨hj,λb hb=>?_,λb h=>⟨⟨.inl (s.mi b h).1,HC b (s.mi b h).1⟩,(s.mi b h).2.1,(bb b (s.mi b h).1).trans (s.mi b h).2.2⟩,⟨v,ty,yx,(bb _ h2).trans h1,⟨.inl h2,HC _ h2⟩,?_,h4.mono (bz.of_eq λ_ _ h=>h.elim),λb hb=>⟨⟨.inl (h5 b hb).1,HC b (h5 b hb).1⟩,(h5 b hb).2⟩⟩,s.f.mono hk λ_ _ h=>h,s.o.mono hk λ_ _ h=>h,s.e.mono (sN (λb h=>bb b (s.mi b h).1) hk)⟩
 .have tj:M b:=hb.1.resolve_right hb.2;have:=s.lt b tj;have h2:=bb b tj;rw[agQ this]at h2;exact(afe.1 h2).1
 .refine⟨h3.1,?_⟩
  rcases h3.2 with h|⟨gg,cap,cur,rfl,uq,yM,rest⟩
  .exact .inl h
  .exact .inr ⟨gg,cap,cur,rfl,uq,(bb gg (h5 gg rfl).1).trans yM,rest⟩
theorem vh {P:Program} {ρ:Operand→Value} {o:Oper} {t:TypeId} {ps:Array (Nat×Operand)} (ho:o.op = .build t ps) (w:World) (N:Value→Prop)
  (h:∀v w',(execOp ρ o).run P w=.ok (.value v) w'->N v):match(execOp ρ o).run P w with|.ok (.value v) _=>N v|.ok _ _=>False|.halt _ _=>True:=by
 have key:∀r,(execOp ρ o).run P w=r->match r with|.ok (.value v) _=>N v|.ok _ _=>False|.halt _ _=>True:=by
  intro r hr;have h0:=hr;unfold execOp at hr;simp only[ho,afW]at hr
  cases hb:(Instr.build t (ps.map λ(i,x)=>(i,ρ x))).run P w with
  |ok v w'=>
   rw[hb]at hr
   have:r=.ok (.value v) w':=by rw[<-hr];rfl
   subst this;exact h v w' h0
  |halt x w'=>
   rw[hb]at hr
   have:r=.halt x w':=by rw[<-hr];rfl
   subst this;trivial
 exact key _ rfl
theorem oR{c:Value}(h:c.oneCell'=true):c.cells=#[c]:=by cases c<;>first|rfl|cases h
theorem FW{u v:Value}(hu:u.oneCell'=true)(hv:v.oneCell'=true):prog.built 39 [(0,u),(1,v)]=some #[u,v]:=by
 have e:∀u v:Value,prog.built 39 [(0,u),(1,v)]=Instr.fill (λx=>#[(0,1),(1,1)][x]?) #[.slice none 0 0,.slice none 0 0] [(0,u),(1,v)]:=by intro u v;kernel_rfl
 rw[e];simp[Instr.fill,oR hu,oR hv]
theorem TM(es:List End)(m:Nat):lp es [] m=[]:=rfl
theorem C5(es r:List End)(x:End)(m:Nat):lp es (x::r) m=ch (es++[x]) r m++lp es r m:=by
 cases m<;>rfl
theorem Iv(es:List End)(m:Nat):ch es [] m=[es]:=by simp[ch]
theorem E7 (hG:au GI) (X:Fx C all out fA rows) (fX:all.length≤1000) (Fa:rows≤1000) (iJ:out.length≤1000) :
  ∀(d n:Nat)(es:List End)(k:Nat)(M:Nat->Prop)(Pr:Nat->Nat->Prop)(w:World)(tail:List AV),n+d=all.length->es.length<=n->St X k M Pr es w->
   xs.drop k=(ch es (all.drop n) (rows-es.length)).map (aJ out)++tail->
   Calls prog 189 #[.int .i64 n,X.cA,X.cY,X.cO,.pointer (some ⟨X.bN,0,none⟩),X.cF,X.cR] w λe w'=>∃M' fl,
    (e=.returned (.bool true)/\St X (k+(ch es (all.drop n) (rows-es.length)).length) M' fl es w')\/(e=.returned (.bool false)/\C.X M' fl w'):=by
 intro d
 induction d using Nat.strongRecOn with
 |_ d ih=>
 intro n es k M Pr w tail l7 sk st pF;refine(lR (ro:=none) (m:=0)).1 (aha func189 rfl trivial ?_)
 have fr:Fr X n { tmps:=#[.int .i64 n,X.cA,X.cY,X.cO,.pointer (some ⟨X.bN,0,none⟩),X.cF,X.cR]++Array.replicate (f189.ntmps-7) undef,defers:=[] }:=by
  refine⟨by simp[ntmps189],rfl,bK _ _ 0 (by simp),bK _ _ 1 (by simp),bK _ _ 2 (by simp),bK _ _ 3 (by simp),bK _ _ 4 (by simp),bK _ _ 5 (by simp),bK _ _ 6 (by simp)⟩
 generalize hc:(λe w'=>∃M' fl,(e=Ending.returned (.bool true)/\St X (k+(ch es (all.drop n) (rows-es.length)).length) M' fl es w')\/(e=.returned (.bool false)/\C.X M' fl w'))=R
 have h9:∀(a:Act)(w:World),(AV.bB).aI=AV.bB/\RV (λ_ _=>True) cd w AV.bB (a.tmps.getD 9 undef):=λa w=>⟨rfl,.bB _⟩
 refine afc ?_;refine bG hG cC (ac:=af.qa c189) (W:=W7) (by kernel_rfl) (by kernel_rfl) (by kernel_rfl) (C.gi st.j) (λ_ _=>True) (eW l all es out fA X.fv n .bB) fr.size fr.defers (st.dX fr (h9 _ _)) (K:=λ_ _=>True) ?_ ?_
 .simp[c189,af.qa,bO,bj,aD,bf,aL,aP]
 intro g S' H' a w1 hg R1 _ bb;have fr:=fr.step R1.size (by rw[R1.defers,hg];rfl) bb;have st:=st.grow (by have:=R1.below;rwa [R1.base]at this);clear bb R1 hg g S' H';show Code.wpIn _ _ _ _ _ a w1;refine afc (afc ?_);refine bG hG cC (ac:=af.qa c189.qb.qa) (W:=W7) (by kernel_rfl) (by kernel_rfl) (by kernel_rfl) (C.gi st.j) (λ_ _=>True) (eW l all es out fA X.fv n .bB) fr.size fr.defers (st.dX fr (h9 _ _)) (K:=λS' _=>∃b,S' 13=.bool b/\(b=true↔n=all.length)) ?_ ?_
 .simp[c189,af.qa,af.qb,bO,bj,aD,bf,aL,aP,aT.S,aT.H,ev,av,aY,eW,ck,AV.aI,dI,aH];omega
 rintro g S' H' a w2 hg R1 ⟨b,hb,OM⟩ bb;have fr:=fr.step R1.size (by rw[R1.defers,hg];rfl) bb;have st:=st.grow (by have:=R1.below;rwa [R1.base]at this);have ht:=R1.slot 13 (by decide) (λh=>h);rw[hb]at ht;have uB:=ht.dN;clear ht bb;show Code.wpIn _ _ _ _ _ a w2;refine afF (t:=b) uB ?_
 cases b with
 |true=>
  have hn:n=all.length:=OM.1 rfl
  have Ic:ch es (all.drop n) (rows-es.length)=[es]:=by rw[hn,ag5];exact Iv _ _
  rw[Ic]at pF hc;simp only[afH];refine afc ?_
  refine NU hG cC (n:=53) (p:=6) (j:=5) (d:=19) (T:=[16,18]) (W:=W7) (l:=(c189.qb.qa.qb.qa.qa.dl).take 6) (by kernel_rfl) (by kernel_rfl) (by kernel_rfl) (by kernel_rfl) (by kernel_rfl) (by kernel_rfl) (C.gi st.j) (λ_ _=>True) (eW l all es out fA X.fv n .bB) (oj:=⟨some 19,.build 39 #[(0,.tmp 16),(1,.tmp 18)],39, "name.go:18",#[⟨2,.data⟩,⟨4,.data⟩],none⟩) ?_ rfl rfl
   (λa=>(a.tmps.getD 16 undef).oneCell'=true->(a.tmps.getD 18 undef).oneCell'=true->a.tmps.getD 19 undef=.agg #[a.tmps.getD 16 undef,a.tmps.getD 18 undef]) ?_ ?_ (by kernel_rfl) (by kernel_rfl) fr.size fr.defers (st.dX fr (h9 _ _)) (K:=λS' _=>S' 14=.val (.func (.yield l) #[] #[])/\S' 16=.slice (if(ints out).isEmpty then .nil else .own 3) (ints out)/\S' 18=.slice (if(aH es).isEmpty then .nil else .own 46) (aH es)/\
    ∃o1 o2,S' 19=.agg [.slice o1 (ints out),.slice o2 (aH es)]) ?_ ?_
  .rfl
  .intro a a' h1 h2 hN g16 g18;rw[h2 16 (by simp)]at g16⊢;rw[h2 18 (by simp)]at g18⊢;rw[h1];exact hN g16 g18
  .intro a w bL;refine vh rfl w _ ?_;intro v w' hr
   have uR:(a.put (some 19) v).tmps.getD 16 undef=a.tmps.getD 16 undef:=by simp[Act.put,afb]
   have Vd:(a.put (some 19) v).tmps.getD 18 undef=a.tmps.getD 18 undef:=by simp[Act.put,afb]
   have Wi:(a.put (some 19) v).tmps.getD 19 undef=v:=by simp[Act.put,bL]
   show(((a.put (some 19) v).tmps.getD 16 undef).oneCell'=true->_->(a.put (some 19) v).tmps.getD 19 undef=_);rw[uR,Vd,Wi];intro g16 g18;have hb:=ais (P:=prog) w 39 #[(0,a.tmps.getD 16 undef),(1,a.tmps.getD 18 undef)] _ (FW g16 g18);unfold execOp at hr;simp only[afW,Act.eval,afw,afv,afB]at hr;rw[hb]at hr;simp only[Result.andThen_ok,Sem.run_pure]at hr;cases hr
   rfl
  .simp[c189,af.qa,af.qb,af.dl,fV,eG,da,eB,aD,jH,aL,bf,aT.S,aT.H,ev,av,aY,eW,ck,AV.aI,AV.vw,AV.cells,AV.storable,AV.cm,fz,iA,mH,iH,bC,bo];refine⟨rfl,by kernel_rfl,_,Gi hG _ (jS out) (by rw[b_];omega),by simp[du],?_⟩;refine⟨rfl,by kernel_rfl,_,L7 hG _ (nA es) (by simp[aH];omega),by simp[du],?_⟩
   by_cases ho:ints out=[]<;>by_cases he:aH es=[]<;>simp[ho,he,av]
  .intro g' S' H' a w3 hg R3 ⟨hy,oz,Wc,o1,o2,zI⟩ bb hN
   have l8:Below w2.heap.size w2 w3:=by have:=R3.below;rwa [R3.base]at this
   have fr:=fr.step R3.size (by rw[R3.defers,hg];rfl) bb;have Jn:=st.grow l8
   have H_:=(R3.slot 14 (by decide) (λh=>h))
   rw[hy]at H_;have H_:=H_.eU;obtain⟨i3,pQ,lr⟩:=bh (P:=prog) (t:=3) (s:=1) (by kernel_rfl);obtain⟨i116,yj,lC⟩:=bh (P:=prog) (t:=46) (s:=2) (by kernel_rfl);have Fv:=R3.yH (t:=16) (by decide) (e:=3) pQ (es:=ints out) oz (λx hx=>by obtain⟨k,_,rfl⟩:=afp.1 hx;exact⟨lr.symm,rfl,λc hc=>by simp[AV.cells]at hc;subst hc;rfl⟩) (λx hx c hc=>by obtain⟨k,_,rfl⟩:=afp.1 hx;simp[AV.cells]at hc;subst hc;rfl);have Gj:=R3.yH (t:=18) (by decide) (e:=46) yj (es:=aH es) Wc (by rw[lC];exact nW es) (tK es);rw[R3.base]at Fv Gj
   let G:Nat->Prop:=λb=>w2.heap.size<=b/\b<w3.heap.size
   have hj:C.J k (λb=>M b\/G b) Pr w3:=C.c_ st.j (sB.qC l8) λb hb=>by
    rcases hb with hb|hb
    .exact⟨Jn.lt b hb,.inl hb⟩
    .exact⟨hb.2,.inr hb.1⟩
   have EJ:k<xs.length:=by
    have:=congrArg List.length pF;simp at this;omega
   have xw:xs[k]=aJ out es:=by
    have:=congrArg (·[0]?) pF;simp at this;rw[ae9 EJ]at this;exact afo this
   have pV:∀{u:Value}{es:List AV}{p:Nat->Nat->Prop},RD p w3 (.slice .view es) u->u.oneCell'=true:=λh=>h.one rfl
   have zI:=hN (pV Fv) (pV Gj)
   have hx:RD (λb j=>Pr b j\/(G b/\j<g'.hi b)) w3 xs[k] (a.tmps.getD 19 undef):=by
    rw[xw,zI];refine .agg _ _ rfl (λi hi=>?_) (λi hi gq=>?_)
    .match i,hi with
     |0,_=>rfl
     |1,_=>rfl
    .match i,hi with
     |0,_=>exact Fv.mono (bz.same λb j _ h=>.inr h)
     |1,_=>exact Gj.mono (bz.same λb j _ h=>.inr h)
   obtain⟨ff,tmps,Jl,bd,A_,vV⟩:=C.round EJ G g'.hi _ hj (λb hb=>.inr hb) hx;show wpOpsIn _ _ _ _ _ [6,7] a w3;refine JA rfl rfl (by rfl) ?_ vV ?_
   .exact(lW (f:=.tmp 14) (x:=.tmp 19) w3 rfl rfl rfl H_).trans A_
   .rintro e w4 ⟨D3,fl,JZ,mZ⟩
    have kR:∀{k'},C.J k' (λb=>(M b\/G b)/\¬G b) fl w4->St X k' (λb=>(M b\/G b)/\¬G b) fl es w4:=λhj=>Jn.after hj (λb hg hm=>by have:=st.lt b hm;have:=hg.1;omega) D3 JZ
    obtain⟨b,rfl,hR⟩:∃b:Bool,e=.returned (.bool b)/\R (.returned (.bool b)) w4:=by
     rcases mZ with⟨rfl,fj⟩|⟨rfl,A9⟩
     .exact⟨true,rfl,by rw[<-hc];exact⟨_,_,.inl ⟨rfl,kR fj⟩⟩⟩
     .exact⟨false,rfl,by rw[<-hc];exact⟨_,_,.inr ⟨rfl,A9⟩⟩⟩
    refine⟨_,rfl,?_⟩
    have B0:(a.put (some 20) (.bool b)).tmps.getD 20 undef=.bool b:=by simp[Act.put,fr.size]
    refine aW rfl rfl (by rfl) (v:=.bool b) (w':=w4) ((run_assign (x:=.tmp 20) w4 rfl).trans (congrArg (λv=>Result.ok (Next.value v) w4) B0)) ?_;show Code.wpIn _ _ _ _ _ _ _;refine agK ⟨fr.defers,.bool b,?_,hR⟩
    have h8:((a.put (some 20) (.bool b)).put (some 8) (.bool b)).tmps.getD 8 undef=.bool b:=by simp[Act.put,fr.size]
    show(results f189 ((a.put (some 20) (.bool b)).put (some 8) (.bool b)).tmps).run prog w4=_;exact ahu results189 h8
 |false=>
  have hn:n<all.length:=by
   have:¬n=all.length:=λh=>by have:=OM.2 h;cases this
   omega
  simp only[afj,afx];refine af7 ?_;show Code.wpIn _ _ _ _ _ a w2;refine afc (afc ?_);refine bG hG cC (ac:=af.qa c189.qb.qb.qa) (W:=W7) (by kernel_rfl) (by kernel_rfl) (by kernel_rfl) (C.gi st.j) (λ_ _=>True) (eW l all es out fA X.fv n .bB) fr.size fr.defers (st.dX fr (h9 _ _)) (K:=λS' _=>S' 9=.int .i64 n) ?_ ?_
  .simp[c189,af.qa,af.qb,bO,bj,aD,bf,aL,aP,aT.S,aT.H,ev,av,aY,eW,ck,AV.aI,dI,aH]
  rintro g S' H' a w3 hg R1 Rg bb;have fr:=fr.step R1.size (by rw[R1.defers,hg];rfl) bb;have st:=st.grow (by have:=R1.below;rwa [R1.base]at this);have BS:=R1.slot 9 (by decide) (λh=>h);rw[Rg]at BS;have KI:=BS.int_eq;clear BS bb;show Code.wpIn _ _ _ _ _ a w3
  obtain⟨rem,F8⟩:∃rem:Nat->List (List End),rem=λi=>if es.length<rows then lp es (all.drop i) (rows-es.length-1)else[]:=⟨_,rfl⟩
  have Ic:ch es (all.drop n) (rows-es.length)=rem n:=by
   have dO:all.drop n≠[]:=by intro h;have:=congrArg List.length h;simp at this;omega
   rw[F8];unfold ch;rw[if_neg dO]
   by_cases aw:es.length<rows
   .simp only[if_pos aw]
    obtain⟨m,hm⟩:∃m,rows-es.length=m+1:=⟨rows-es.length-1,by omega⟩
    rw[hm];rfl
   .simp only[if_neg aw]
    have:rows-es.length=0:=by omega
    rw[this]
  rw[Ic]at pF hc
  refine af3 (ahq (λa w=>∃i k' M' fl,Fr X n a/\a.tmps.getD 9 undef=.int .i64 (i:Nat)/\n<=i/\i<=all.length/\St X k' M' fl es w/\xs.drop k'=(rem i).map (aJ out)++tail/\k'+(rem i).length=k+(rem n).length)
   (λa _=>match a.tmps.getD 9 undef with|.int _ i=>all.length-i.toNat|_=>0) ⟨n,k,M,Pr,fr,KI,afg _,by omega,st,pF,rfl⟩ ?_)
  clear Rg KI R1 hg pF st fr;rintro a w ⟨i,k',M,Pr,fr,QG,NP,cD,st,pF,uK⟩
  have VF:(AV.int .i64 (i:Int)).aI=.int .i64 (i:Int)/\RV (λ_ _=>True) cd w (.int .i64 (i:Int)) (a.tmps.getD 9 undef):=⟨rfl,by rw[QG];exact .data _ _ (.int _ _)⟩
  refine afc (afc ?_);refine bG hG cC (ac:=af.qa c189.qb.qb.qa.qb.qb.qb.qa) (W:=W7) (by kernel_rfl) (by kernel_rfl) (by kernel_rfl) (C.gi st.j) (λ_ _=>True) (eW l all es out fA X.fv n (.int .i64 (i:Int))) fr.size fr.defers (st.dX fr VF) (K:=λS' _=>S' 9=.int .i64 i/\∃b,S' 33=.bool b/\(b=true↔i<all.length/\es.length<rows)) ?_ ?_
  .by_cases aw:i<all.length
   .have jL:(i:Int)<all.length:=by omega
    simp[c189,af.qa,af.qb,bO,bj,aD,bf,aL,aP,aT.S,aT.H,ev,av,aY,eW,ck,AV.aI,dI,aH,aw,X.f9,cG];omega
   .have jL:¬(i:Int)<all.length:=by omega
    simp[c189,af.qa,af.qb,bO,bj,aD,bf,aL,aP,aT.S,aT.H,ev,av,aY,eW,ck,AV.aI,dI,aH,aw,X.f9,cG]
  rintro g S' H' a' w' hg R1 ⟨Dx,b,hb,PM⟩ bb;have ze:=fr.step R1.size (by rw[R1.defers,hg];rfl) bb;have lU:=st.grow (by have:=R1.below;rwa [R1.base]at this);have BS:=R1.slot 9 (by decide) (λh=>h);rw[Dx]at BS;have KP:=BS.int_eq;have E0:=R1.slot 33 (by decide) (λh=>h);rw[hb]at E0;have Fp:=E0.dN;show Code.wpIn _ _ _ _ _ a' w';refine afF (t:=b) Fp ?_
  cases b with
  |false=>
   simp only[afj,afx];refine agT ?_
   have nO:¬(i<all.length/\es.length<rows):=λh=>by have:=PM.2 h;cases this
   have L3:rem i=[]:=by
    rw[F8]
    by_cases aw:es.length<rows
    .have:i=all.length:=by
      rcases ahB i all.length with h|h
      .exact absurd ⟨h,aw⟩ nO
      .omega
     simp only[if_pos aw,this,ag5]
     rfl
    .simp only[if_neg aw]
   rw[L3]at uK;simp only[Exit.then,Exit.inBlock,afH];refine afc ?_;refine afq ?_;show wpOpsIn _ _ _ _ _ [0] a' w';refine aW rfl rfl (by rfl) (v:=.bool true) (w':=w') (run_assign (x:=.const (.bool true)) w' rfl) ?_;show Code.wpIn _ _ _ _ _ _ _;refine agK ⟨ze.defers,.bool true,?_,?_⟩
   .have h8:(a'.put (some 8) (.bool true)).tmps.getD 8 undef=.bool true:=by simp[Act.put,ze.size]
    show(results f189 (a'.put (some 8) (.bool true)).tmps).run prog w'=_;exact ahu results189 h8
   .rw[<-hc];refine⟨M,Pr,.inl ⟨rfl,?_⟩⟩;rw[<-uK];exact lU
  |true=>
   obtain⟨aw,V4⟩:=PM.1 rfl;simp only[afH];refine af7 ?_;show Code.wpIn _ _ _ _ _ a' w';clear E0 Fp BS hb Dx R1 hg bb;refine afc (af3 (afc ?_));obtain⟨v,ty,yx,hN,Sk,h_,si,Nw⟩:=lU.now;obtain⟨i116,yj,lC⟩:=bh (P:=prog) (t:=46) (s:=2) (by kernel_rfl)
   have Nn:(aH es).length=es.length:=by simp[aH]
   refine uD cC (n:=53) (ac:=af.qa px.qb.qa.qb) (by kernel_rfl) (by kernel_rfl) (by kernel_rfl) (W:=vg) (by kernel_rfl) (λb k=>X.MI b\/Pr b k)
    (λt=>match t with|1=>.ref [.slice .view (aH all)]|4=>.box 4 0|9=>.int .i64 (i:Int)|_=>.bB) (nm:=4) (tp:=4) (es:=aH es) (es':=aH (es++[all[i]])) (by decide) rfl ze.t4 ze.size ze.defers hN yj (by rw[lC,Nn];exact h_) (by rw[lC];exact si.mono (bz.same λ_ _ _ h=>h.elim)) ?_ ?_ (by rw[lC];exact nW _) (tK _) ?_
   .intro t ht;split
    .exact⟨rfl,.inr (by rw[ze.t1];exact lU.KF)⟩
    .exact⟨rfl,.inl ⟨rfl,ze.t4⟩⟩
    .exact⟨rfl,.inr (by rw[KP];exact .data _ _ (.int _ _))⟩
    .exact⟨rfl,.inr (.bB _)⟩
   .have dO:¬(i:Int)<0:=by omega
    have pB:es.length+1<1048576:=by omega
    cases A4:v.ownBlock with
    |none=>
     have he:es=[]:=by
      rcases h_.2 with⟨_,h⟩|⟨gg,cap,cur,rfl,_⟩
      .exact afR h
      .cases A4
     subst he;simp[c189,px,af.qa,af.qb,bO,fV,eG,da,eB,aD,jH,aL,bf,aT.S,aT.H,ev,av,aY,ck,AV.aI,AV.vw,AV.cells,AV.storable,AV.cm,aP,tT,A4,HR.okB,bu,aH,aS,aw,aM,bo,AV.cg,dO]
    |some bv=>
     simp[c189,px,af.qa,af.qb,bO,fV,eG,da,eB,aD,jH,aL,bf,aT.S,aT.H,ev,av,aY,ck,AV.aI,AV.vw,AV.cells,AV.storable,AV.cm,aP,tT,A4,HR.okB,bu,aH,aS,aw,aM,bo,AV.cg,dO,pB]
   .intro a2 w2 v' MC WB vK GK gm PF xP Gn fa CV;have IB:=ze.step vK GK (fC.weaken gm λt ht=>by simp[W7]at ht;simp[vg];omega);have xx:a2.tmps.getD 9 undef=.int .i64 (i:Int):=(gm 9 rfl).trans KP
    have Ji:∀b,(b=X.bN\/v.ownBlock=some b)->M b/\¬X.MI b:=by
     rintro b (rfl|hb)
     .exact⟨Sk,λh=>(lU.mi _ h).2.1 rfl⟩
     .exact Nw b hb
    have jf:bz Pr Pr w' w2:=bz.pX λb k aw hp=>fa.block b aw λhm=>C.apart lU.j b k (Ji b hm).1 hp
    have Gz:∀b,X.MI b->w2.heap[b]?=w'.heap[b]?:=λb h=>fa.block b (lU.lt b (lU.mi b h).1) λhm=>(Ji b hm).2 h
    have Q0:(aH (es++[all[i]])).length=(es++[all[i]]).length:=by simp[aH]
    have LS:St X k' (λb=>M b\/(w'.heap.size<=b/\b<w2.heap.size)) Pr (es++[all[i]]) w2:=by
     refine⟨C.c_ lU.j (M':=λb=>M b\/(w'.heap.size<=b/\b<w2.heap.size)) ⟨fa.os,fa.tape,fa.output,fa.size,λb hb hm=>fa.block b hb λh=>hm (Ji b h).1⟩ λb hb=>?_,λb hb=>?_,λb h=>⟨.inl (lU.mi b h).1,(lU.mi b h).2.1,(Gz b h).trans (lU.mi b h).2.2⟩,⟨v',MC,WB,PF,.inl Sk,?_,?_,λb hb=>?_⟩,lU.f.mono jf λ_ _ h=>h,lU.o.mono jf λ_ _ h=>h,lU.e.mono (sN Gz jf)⟩
     .rcases hb with hb|hb
      .exact⟨afI (lU.lt b hb) fa.size,.inl hb⟩
      .exact⟨hb.2,.inr hb.1⟩
     .rcases hb with hb|hb
      .exact afI (lU.lt b hb) fa.size
      .exact hb.2
     .rw[lC,Q0]at xP;exact xP
     .rw[lC]at Gn;exact Gn
     .rcases CV b hb with h|h
      .exact⟨.inl (Nw b h).1,(Nw b h).2⟩
      .refine⟨.inr ⟨h,(xP.lt b hb).2⟩,λhm=>?_⟩;have:=lU.lt b (lU.mi b hm).1;omega
    clear Ji jf Gz CV xP Gn PF fa;show Code.wpIn _ _ _ _ _ a2 w2
    have QB:(AV.int .i64 (i:Int)).aI=.int .i64 (i:Int)/\RV (λ_ _=>True) cd w2 (.int .i64 (i:Int)) (a2.tmps.getD 9 undef):=⟨rfl,by rw[xx];exact .data _ _ (.int _ _)⟩
    refine afc (afc ?_);refine iR hG (p:=3) (l2:=[3,4]) rfl (by kernel_rfl) (by kernel_rfl) (l:=(px.qb.qa.qb.qb.qa.qa.dl).take 3) (by kernel_rfl) (by decide) (W:=vg) (by kernel_rfl) (C.gi LS.j) (λ_ _=>True) (eW l all (es++[all[i]]) out fA X.fv n (.int .i64 (i:Int))) IB.size IB.defers (LS.dX IB QB) (K:=λS' _=>S' 43=.val X.fv/\S' 45=.int .i64 ((i+1:Nat):Int)) ?_ ?_
    .have nk:IntKind.i64.wrap ((i:Int)+1)=i+1:=aN (by omega);simp[c189,px,af.qa,af.qb,af.dl,bj,aD,bf,aL,aT.S,aT.H,ev,av,aY,eW,ck,AV.aI,dI,nk]
    rintro g S' H' a3 w3 hg R1 ⟨UZ,EF⟩ xY;have G2:=IB.step R1.size (by rw[R1.defers,hg];rfl) (fC.weaken xY λt ht=>by simp[W7]at ht;simp[vg];omega);have Jn:=LS.grow (by have:=R1.below;rwa [R1.base]at this);have U_:a3.tmps.getD 9 undef=.int .i64 (i:Int):=(xY 9 rfl).trans xx;have tY:=R1.slot 43 (by decide) (λh=>h);rw[UZ]at tY;have tY:=tY.eU;have IJ:=R1.slot 45 (by decide) (λh=>h);rw[EF]at IJ;have IJ:=IJ.int_eq;clear R1 hg xY;have Nv:all.drop i=all[i]::all.drop (i+1):=ags aw
    have L3:rem i=ch (es++[all[i]]) (all.drop (i+1)) (rows-(es++[all[i]]).length)++rem (i+1):=by
     rw[F8];simp only[if_pos V4,Nv,C5]
     congr 2
     simp;omega
    rw[L3]at pF uK;rw[afu,agd]at pF;have iN:=ih (all.length-(i+1)) (by omega) (i+1) (es++[all[i]]) k' _ Pr w3 _ (by omega) (by simp;omega) Jn pF;refine eS rfl rfl (by rfl) (mR (f:=.tmp 43) (x:=.tmp 45) w3 rfl rfl rfl tY (by kernel_rfl)) (R:=λe w'=>∃M' fl,(e=.returned (.bool true)/\St X (k'+(ch (es++[all[i]]) (all.drop (i+1)) (rows-(es++[all[i]]).length)).length) M' fl (es++[all[i]]) w')\/(e=.returned (.bool false)/\C.X M' fl w')) ?_ ?_
    .have : #[a3.eval (.tmp 45)] ++ #[X.cA,X.cY,X.cO,.pointer (some ⟨X.bN,0,none⟩),X.cF,X.cR] = #[.int .i64 ((i+1:Nat):Int),X.cA,X.cY,X.cO,.pointer (some ⟨X.bN,0,none⟩),X.cF,X.cR]:=by
      show #[a3.tmps.getD 45 undef]++_=_;rw[IJ];rfl
     rw[this];exact iN
    rintro e w4 ⟨M4,Cw,mZ⟩
    obtain⟨b,rfl⟩:∃b:Bool,e=.returned (.bool b):=by rcases mZ with⟨rfl,_⟩|⟨rfl,_⟩<;>exact⟨_,rfl⟩
    refine⟨_,rfl,?_⟩
    have U5:(a3.put (some 46) (.bool b)).tmps.getD 46 undef=.bool b:=by simp[Act.put,G2.size]
    refine aW rfl rfl (by rfl) (v:=.bool !b) (w':=w4) (Dw (x:=.tmp 46) w4 rfl U5) ?_;show Code.wpIn _ _ _ _ _ ((a3.put (some 46) (.bool b)).put (some 47) (.bool !b)) w4
    obtain⟨a4,jR⟩:∃a4,(a3.put (some 46) (.bool b)).put (some 47) (.bool !b)=a4:=⟨_,rfl⟩
    rw[jR]
    have dW:∀(a:Act)(d t:Nat)(c:Value),t≠d->(a.put (some d) c).tmps.getD t undef=a.tmps.getD t undef:=λa d t c h=>by
     simp[Act.put,afb (afQ h)]
    have D3:fC vg a3 a4:=λt ht=>by
     have:t<36:=by simp[vg]at ht;omega
     rw[<-jR,dW _ _ _ _ (by omega),dW _ _ _ _ (by omega)]
    have vP:a4.tmps.size=53:=by rw[<-jR];simp[Act.put,G2.size]
    have Q9:a4.defers=[]:=by rw[<-jR];exact G2.defers
    have DW:=G2.step vP Q9 (fC.weaken D3 λt ht=>by simp[W7]at ht;simp[vg];omega);have Vf:a4.tmps.getD 9 undef=.int .i64 (i:Int):=(D3 9 rfl).trans U_
    have Vj:a4.tmps.getD 47 undef=.bool !b:=by rw[<-jR];simp[Act.put,G2.size]
    refine afF (t:=!b) Vj ?_
    cases b with
    |false=>
     have hX:C.X M4 Cw w4:=by
      rcases mZ with⟨h,_⟩|⟨_,h⟩
      .cases h
      .exact h
     simp only[ah1,afH];refine afc ?_;refine afq ?_;show wpOpsIn _ _ _ _ _ [0] a4 w4;refine aW rfl rfl (by rfl) (v:=.bool false) (w':=w4) (run_assign (x:=.const (.bool false)) w4 rfl) ?_;show Code.wpIn _ _ _ _ _ _ _;refine agK ⟨DW.defers,.bool false,?_,?_⟩
     .have h8:(a4.put (some 8) (.bool false)).tmps.getD 8 undef=.bool false:=by simp[Act.put,DW.size]
      show(results f189 (a4.put (some 8) (.bool false)).tmps).run prog w4=_;exact ahu results189 h8
     .rw[<-hc];exact⟨M4,Cw,.inr ⟨rfl,hX⟩⟩
    |true=>
     have qS:St X (k'+(ch (es++[all[i]]) (all.drop (i+1)) (rows-(es++[all[i]]).length)).length) M4 Cw (es++[all[i]]) w4:=by
      rcases mZ with⟨_,h⟩|⟨h,_⟩
      .exact h
      .cases h
     simp only[Bool.not_true,afj,afx];refine af7 ?_;show Code.wpIn _ _ _ _ _ a4 w4;obtain⟨v4,M6,I0,Py,Fb,FE,SF,QN⟩:=qS.now
     have NB:I0.length=(es.length+1)*2:=by have:=FE.1;simpa using this
     obtain⟨i29,Pf,Ph⟩:=bh (P:=prog) (t:=37) (s:=1) (by kernel_rfl);refine afq ?_;show wpOpsIn _ _ _ _ _ [0,1,2,3,4,5] a4 w4
     refine EL (P:=prog) (n:=53) (T:=37) (el:=46) (p:=4) (t1:=48) (t2:=49) (t3:=50) (t4:=51) (t5:=52) (bN:=X.bN) (i:=i116) (iT:=i29) (v:=v4) (ty:=M6) (k:=es.length) (xs:=I0.take (es.length*2)) (last:=I0.drop (es.length*2))
      rfl rfl rfl rfl rfl rfl ⟨rfl,rfl,rfl⟩ ⟨rfl,rfl,rfl⟩ ⟨rfl,rfl,rfl⟩ ⟨rfl,rfl,rfl⟩ ⟨rfl,rfl,rfl⟩ ⟨rfl,rfl,rfl⟩ rfl rfl rfl (by kernel_rfl) Pf Ph yj (by decide) DW.size (by decide) DW.t4 Py (by rw[agA,lC];simpa using FE) (by rw[lC,afJ,NB];omega) (by omega) ?_
     intro a5 v5 we Rl Ps Jt Qn xy
     have yM:∀b,v5.ownBlock=some b->M4 b/\¬X.MI b:=λb hb=>QN b (by rw[<-Jt];exact hb)
     have ke:∀b,b≠X.bN->(w4.setRow X.bN #[v5]).heap[b]?=w4.heap[b]?:=λb hb=>af4 w4 X.bN b #[v5] hb
     have xf:(w4.setRow X.bN #[v5]).heap.size=w4.heap.size:=by simp
     have Is:bz Cw Cw w4 (w4.setRow X.bN #[v5]):=bz.pX λb k _ hp=>ke b (by rintro rfl;exact C.apart qS.j _ k Fb hp)
     have y3:St X (k'+(ch (es++[all[i]]) (all.drop (i+1)) (rows-(es++[all[i]]).length)).length) M4 Cw es (w4.setRow X.bN #[v5]):=by
      refine⟨C.c_ qS.j ⟨rfl,rfl,rfl,by rw[xf];exact afg _,λb _ hm=>ke b (by rintro rfl;exact hm Fb)⟩ λb hb=>⟨by rw[xf];exact qS.lt b hb,.inl hb⟩,λb hb=>by rw[xf];exact qS.lt b hb,λb h=>⟨(qS.mi b h).1,(qS.mi b h).2.1,(ke b (qS.mi b h).2.1).trans (qS.mi b h).2.2⟩,
       ⟨v5,M6,I0.take (es.length*2),agq w4 X.bN _ #[v5] M6 (0,0) Py,Fb,?_,?_,yM⟩,qS.f.mono Is λ_ _ h=>h,qS.o.mono Is λ_ _ h=>h,qS.e.mono (sN (λb h=>ke b (qS.mi b h).2.1) Is)⟩
      .rw[lC]at xy;refine⟨xy.1,?_⟩
       rcases xy.2 with h|⟨gg,cap,cur,rfl,uq,Ql,rest⟩
       .exact .inl h
       .exact .inr ⟨gg,cap,cur,rfl,uq,(ke gg (by omega)).trans Ql,rest⟩
      .refine⟨nW es,λj hj k hk=>?_⟩
       have wy:j<es.length:=by simpa[aH]using hj
       have fj:j<(aH (es++[all[i]])).length:=by simp[aH];omega
       have jy:(aH (es++[all[i]]))[j]=(aH es)[j]:=by
        simp only[aH,afu,afv,afB];exact afz (by simpa using wy)
       obtain⟨u,u1,u2⟩:=SF.2 j fj k (by rw[jy];exact hk);refine⟨u,?_,?_⟩
       .have jf:k < 2:=by
         have:=nW es _ (ae_ hj);rw[this.1]at hk;exact hk
        rw[agR (by omega)];exact u1
       .simp only[jy]at u2;exact u2.mono (bz.of_eq λ_ _ h=>h.elim)
     have FN:fC vg a4 a5:=λt ht=>by
      have:t<36:=by simp[vg]at ht;omega
      exact Ps t (by omega) (by omega) (by omega) (by omega) (by omega)
     have xG:=DW.step we (Rl.trans DW.defers) (fC.weaken FN λt ht=>by simp[W7]at ht;simp[vg];omega);have OL:a5.tmps.getD 9 undef=.int .i64 (i:Int):=(FN 9 rfl).trans Vf;clear ke yM Is xy FN Ps xf;generalize w4.setRow X.bN #[v5]=w5 at y3⊢;simp only[Exit.then,Exit.inBlock]
     have Rx:(AV.int .i64 (i:Int)).aI=.int .i64 (i:Int)/\RV (λ_ _=>True) cd w5 (.int .i64 (i:Int)) (a5.tmps.getD 9 undef):=⟨rfl,by rw[OL];exact .data _ _ (.int _ _)⟩
     refine bG hG cC (ac:=af.qb px.qb) (W:=W7) (by kernel_rfl) (by kernel_rfl) (by kernel_rfl) (C.gi y3.j) (λ_ _=>True) (eW l all es out fA X.fv n (.int .i64 (i:Int))) xG.size xG.defers (y3.dX xG Rx) (K:=λS' _=>S' 9=.int .i64 ((i+1:Nat):Int)) ?_ ?_
     .have nk:IntKind.i64.wrap ((i:Int)+1)=i+1:=aN (by omega);simp[c189,px,af.qa,af.qb,bO,bj,aD,bf,aL,aP,aT.S,aT.H,ev,av,aY,eW,AV.aI,dI,nk]
     intro g S' H' a6 w6 hg R1 HM nR;have Aq:=xG.step R1.size (by rw[R1.defers,hg];rfl) nR;have Bd:=y3.grow (by have:=R1.below;rwa [R1.base]at this);have E3:=R1.slot 9 (by decide) (λh=>h);rw[HM]at E3;have E3:=E3.int_eq;refine⟨⟨i+1,_,M4,Cw,Aq,E3,by omega,by omega,Bd,?_,?_⟩,?_⟩
     .rw[<-agV,pF,ag3 (by simp)];simp
     .have e:=@afm _ (ch (es++[all[i]]) (all.drop (i+1)) (rows-(es++[all[i]]).length)) (rem (i+1));omega
     .rw[E3,QG];show all.length-((i+1:Nat):Int).toNat<all.length-(i:Int).toNat;rw[Int.toNat_natCast,Int.toNat_natCast];omega
end Go.Proofs.Tryz
namespace Go.Proofs.Tryz
open Go Go.AL Go.RowKit Go.Proofs Go.Proofs.Tram
variable{GI:World->Prop}
theorem l4{vs:Array Value}(h:vs.size=1):∃v,vs=#[v]:=⟨vs[0],by
 apply agp
 .simpa using h
 .intro i h1 h2
  have:i=0:=by simpa using h2
  subst this;rfl⟩
theorem iy{P:Program}{t:TypeId}(h:(P.underlying t).map fg=some false):∃d,P.underlying t=some d/\fg d=false:=by
 cases hi:P.underlying t with
 |none=>rw[hi]at h;cases h
 |some i=>rw[hi]at h;exact⟨i,rfl,afo h⟩
theorem kJ:AV.cm∘AV.aI=AV.cm:=by
 funext v
 cases v<;>try rfl
 rename_i o es;cases o<;>rfl
theorem RD.Ak{Pr:Nat->Nat->Prop}{w:World}{o:Ow}{es:List AV}{c:Value}(h:RD Pr w (.slice o es) c):RD Pr w (.slice .view es) c:=by
 cases h with
 |qw=>exact .qw _
 |slice _ _ b off cap size cs iV hn bL h1 hc hr=>exact .slice _ _ b off cap size cs iV (λh=>by cases h) bL h1 hc hr
 |sF _ a=>exact .sF _ a
theorem L1 (hG:au GI) {oE:Ow} {all:List End} {out:List Int} {fA:List AV} {rows:Nat} (fX:all.length≤1000) (Fa:rows≤1000) (iJ:out.length≤1000) (si:fA.length=11) (Ra:∀ x∈fA.take 10,x.storable=true∧x.one=true∧x.aI=x) (h9:fA[9]? = some (.int .i64 rows))
  (No:AC prog GI 188 [.agg ((fA.take 10).map AV.cm),vI out] (.ret (.slice oE (aH all)))):
  sT prog GI 187 [.ref fA,.ref [vI out]] ((ch [] all rows).map (aJ out)):=by
 intro l C w Pr dH hJ hlen hr
 obtain⟨cF,cO,rfl⟩:∃cF cO,dH=#[cF,cO]:=by
  have:dH.size=2:=by simpa using hlen.symm
  exact⟨dH[0],dH[1],by
   apply agp
   .simpa using this
   .intro i h1 h2
    match i,h2 with
    |0,_=>rfl
    |1,_=>rfl⟩
 have MG:=hr 0 (by simp) (by simp);have Mr:=hr 1 (by simp) (by simp);simp only[List.getElem_cons_zero,List.getElem_cons_succ,List.getElem_toArray]at MG Mr;refine(lR (ro:=none) (m:=0)).1 (aha func187 rfl trivial ?_);have dS:=C.gi hJ
 have R:Rel prog w 14 dU _ (AL.start [.val (.func (.yield l) #[] #[]),.ref fA,.ref [vI out]]) (λ_=>none) { tmps:=(#[.func (.yield l) #[] #[]]++#[cF,cO])++Array.replicate (f187.ntmps-(#[Value.func (.yield l) #[] #[]]++#[cF,cO]).size) undef,defers:=[] } w:=Rel.begin (args:=[.val (.func (.yield l) #[] #[]),.ref fA,.ref [vI out]]) (old:=Pr) ntmps187 (by simp) rfl (λi h h'=>by
  match i,h with
  |0,_=>exact .data _ _ (.val _ rfl)
  |1,_=>exact MG
  |2,_=>exact Mr)
 have e1:({ tmps:=(#[Value.func (.yield l) #[] #[]]++#[cF,cO])++Array.replicate (f187.ntmps-(#[Value.func (.yield l) #[] #[]]++#[cF,cO]).size) undef,defers:=[] }:Act).tmps.getD 1 undef=cF:=bK _ _ 1 (by simp);have e2:({ tmps:=(#[Value.func (.yield l) #[] #[]]++#[cF,cO])++Array.replicate (f187.ntmps-(#[Value.func (.yield l) #[] #[]]++#[cF,cO]).size) undef,defers:=[] }:Act).tmps.getD 2 undef=cO:=bK _ _ 2 (by simp)
 have W3:∃W:Nat->Bool,W=λt=>decide (3<=t):=⟨_,rfl⟩
 refine afc ?_;refine fS R hG dS cC (ac:=af.qa c187) (W:=λt=>decide (3<=t)) (by kernel_rfl) (by kernel_rfl) (by kernel_rfl) (λ_ h=>h) (K:=λS' H'=>S' 1=.ref fA/\S' 2=.ref [vI out]/\S' 3=.box 3 0/\H' 3=some [.val (.func (.yield l) #[] #[])]) ?_ ?_
 .simp[c187,af.qa,bO,bj,aD,bf,aP,ev,AL.start,AV.aI,AV.cells,AV.storable,av,cE,vI]
 rintro g1 S1 H1 a1 w1 IA R1 ⟨s1,s2,s3,h3⟩ uI;refine afc ?_;refine fS R1 hG dS cC (ac:=af.qa c187.qb) (W:=λt=>decide (3<=t)) (by kernel_rfl) (by kernel_rfl) (by kernel_rfl) (by rw[IA];exact λ_ h=>h) (K:=λS' H'=>S' 3=.box 3 0/\S' 4=.box 4 0/\H' 3=some [.val (.func (.yield l) #[] #[])]/\H' 4=some [.slice oE (aH all)]) ?_ ?_
 .simp[c187,af.qa,af.qb,bO,bj,aD,bf,aP,ev,aL,aT.S,aT.H,aY,ck,s1,s2,s3,h3,av,AV.aI,vI,si,mH]
  have e8:fz H1 (.agg (List.take 10 (List.map AV.aI fA)))=.agg ((fA.take 10).map AV.cm):=by
   simp only[fz,iA,AV.vw,<-ahV,af1,kJ]
  have e9:fz H1 (.slice .view (ints out))=vI out:=rfl;rw[e8,e9];refine⟨by kernel_rfl,_,No,by simp[du],?_⟩
  cases oE<;>simp[iH,cE,AV.cells,AV.storable,HR.okB,bu,bo,AV.cg,av,AV.aI,s3,h3]
 rintro g2 S2 H2 a2 w2 HO R2 ⟨t3,t4,k3,k4⟩ s_;have oL:g2.base=w.heap.size:=R2.base
 have l8:Below w.heap.size w w2:=by have:=R2.below;rwa [oL]at this
 obtain⟨bY,hY⟩:∃b,g2.al 3=some b/\a2.tmps.getD 3 undef=.pointer (some ⟨b,0,none⟩):=by
  have h:=R2.slot 3 (by decide) (λh=>h);rw[t3]at h;generalize a2.tmps.getD 3 undef=c at h
  cases h with
  |data _ _ h=>cases h
  |box _ _ b h=>exact⟨b,h,rfl⟩
 obtain⟨bA,hA⟩:∃b,g2.al 4=some b/\a2.tmps.getD 4 undef=.pointer (some ⟨b,0,none⟩):=by
  have h:=R2.slot 4 (by decide) (λh=>h);rw[t4]at h;generalize a2.tmps.getD 4 undef=c at h
  cases h with
  |data _ _ h=>cases h
  |box _ _ b h=>exact⟨b,h,rfl⟩
 obtain⟨csY,Wx,VP,q1,q2,q3,q4,q5,q6,q7,q8,q9⟩:=R2.box 3 bY hY.1;rw[k3]at q1;cases q1
 have V7:Wx=#[.func (.yield l) #[] #[]]:=by
  have h0:=q7 0 (by simp) (by rw[<-q6];simp);simp only[List.getElem_cons_zero]at h0;apply agp
  .rw[<-q6];rfl
  .intro i h1 h2
   have:i=0:=by simpa using h2
   subst this;exact(RV.data (al:=cd) _ _ h0).eU
 subst V7;obtain⟨csA,Ww,UP,r1,r2,r3,r4,r5,r6,r7,r8,r9⟩:=R2.box 4 bA hA.1;rw[k4]at r1;cases r1;obtain⟨u_,rfl⟩:=l4 (vs:=Ww) (by rw[<-r6];rfl);have DC:=r7 0 (by simp) (by simp);have V9:=r8 0 (by simp) (by simp);simp only[List.getElem_cons_zero,List.getElem_toArray]at DC V9
 have Dg:RD (λb k=>(b<w.heap.size/\Pr b k)\/(w.heap.size<=b/\b<w2.heap.size)) w2 (.slice .view (aH all)) u_:=by
  have hd:=DC.aI
  have hd:RD g2.Pr w2 (.slice .view (aH all)) u_:=by
   have e:RD g2.Pr w2 (.slice oE (aH all)) u_:=DC;exact RD.Ak e
  refine hd.mono (bz.of_eq λb k hp=>⟨?_,rfl⟩)
  rcases hp with⟨h1,h2⟩|⟨h1,h2⟩
  .rw[HO,IA]at h2;exact .inl ⟨by rw[<-oL];exact h1,h2⟩
  .refine .inr ⟨by rw[<-oL];exact h1,?_⟩
   by_cases aw:b<w2.heap.size
   .exact aw
   .rw[(R2.fresh b (by omega)).1]at h2;omega
 have Vq:w.heap.size<=bY/\bY<w2.heap.size:=⟨by rw[<-oL];exact q2,(afe.1 q3).1⟩
 have Vk:w.heap.size<=bA/\bA<w2.heap.size:=⟨by rw[<-oL];exact r2,(afe.1 r3).1⟩
 have e1:a2.tmps.getD 1 undef=cF:=((uI.trans s_) 1 rfl).trans e1;have e2:a2.tmps.getD 2 undef=cO:=((uI.trans s_) 2 rfl).trans e2;have vK:a2.tmps.size=14:=R2.size
 have GK:a2.defers=[]:=by rw[R2.defers,HO,IA];rfl
 obtain⟨bN,HU⟩:∃bN,w2.heap.size=bN:=⟨_,rfl⟩
 have dW:∀(a:Act)(d t:Nat)(c:Value),t≠d->(a.put (some d) c).tmps.getD t undef=a.tmps.getD t undef:=λa d t c h=>by
  simp[Act.put,afb (afQ h)]
 have gP:∀(a:Act)(d:Nat)(c:Value),a.tmps.size=14->d<14->(a.put (some d) c).tmps.getD d undef=c:=λa d c h hd=>by
  simp[Act.put,h,hd]
 have ju:∀(a:Act)(d:Option Nat)(c:Value),(a.put d c).tmps.size=a.tmps.size:=λa d c=>by cases d<;>simp[Act.put]
 have pL:∀(a:Act)(d:Option Nat)(c:Value),(a.put d c).defers=a.defers:=λa d c=>by cases d<;>rfl
 refine afc (afq ?_);show wpOpsIn _ _ _ _ _ [0] a2 w2;refine aW rfl rfl (by rfl) (iQ (t:=37) (z:=.slice none 0 0) rfl (by kernel_rfl)) ?_;show Code.wpIn _ _ _ _ _ (a2.put (some 5) (.pointer (some ⟨w2.heap.size,0,none⟩))) (w2.alloc (.cells #[.slice none 0 0] 37))
 obtain⟨a3,rq⟩:∃a3,a2.put (some 5) (.pointer (some ⟨w2.heap.size,0,none⟩))=a3:=⟨_,rfl⟩
 obtain⟨w3,mq⟩:∃w3,w2.alloc (.cells #[.slice none 0 0] 37)=w3:=⟨_,rfl⟩
 have rW:w3.heap.size=bN+1:=by rw[<-mq,<-HU];simp
 have CY:w3.heap[bN]?=some (.cells #[.slice none 0 0] 37 (0,0)):=by rw[<-mq,<-HU];exact afO w2 _
 have yZ:∀b,b<bN->w3.heap[b]?=w2.heap[b]?:=λb hb=>by rw[<-mq];exact ahS _ _ _ (by omega)
 rw[rq,mq];refine afc (afq ?_);show wpOpsIn _ _ _ _ _ [0] a3 w3;refine aW rfl rfl (by rfl) (iQ (t:=76) (z:=.nilFunc) rfl (by kernel_rfl)) ?_;show Code.wpIn _ _ _ _ _ (a3.put (some 6) (.pointer (some ⟨w3.heap.size,0,none⟩))) (w3.alloc (.cells #[.nilFunc] 76))
 obtain⟨a4,jR⟩:∃a4,a3.put (some 6) (.pointer (some ⟨w3.heap.size,0,none⟩))=a4:=⟨_,rfl⟩
 obtain⟨w4,jz⟩:∃w4,w3.alloc (.cells #[.nilFunc] 76)=w4:=⟨_,rfl⟩
 have C9:w4.heap.size=bN+2:=by rw[<-jz];simp[rW]
 have vU:w4.heap[bN+1]?=some (.cells #[.nilFunc] 76 (0,0)):=by rw[<-jz,<-rW];exact afO w3 _
 have tE:∀b,b<bN+1->w4.heap[b]?=w3.heap[b]?:=λb hb=>by rw[<-jz];exact ahS _ _ _ (by omega)
 rw[jR,jz]
 have z3:a3.tmps.size=14:=by rw[<-rq,ju];exact vK
 have z4:a4.tmps.size=14:=by rw[<-jR,ju];exact z3
 have u5:a4.tmps.getD 5 undef=.pointer (some ⟨bN,0,none⟩):=by rw[<-jR,dW _ _ _ _ (by decide),<-rq,gP _ _ _ vK (by decide),HU]
 have u6:a4.tmps.getD 6 undef=.pointer (some ⟨bN+1,0,none⟩):=by rw[<-jR,gP _ _ _ z3 (by decide),rW]
 have u:∀t,t<5->a4.tmps.getD t undef=a2.tmps.getD t undef:=λt ht=>by rw[<-jR,dW _ _ _ _ (by omega),<-rq,dW _ _ _ _ (by omega)]
 refine afc (afq ?_);show wpOpsIn _ _ _ _ _ [0,1] a4 w4;refine aW rfl rfl (by rfl) (kB (fn:=.func 189) (c:=#[.tmp 4,.tmp 3,.tmp 2,.tmp 5,.tmp 1,.tmp 6]) rfl) ?_
 have iV:(#[Operand.tmp 4,.tmp 3,.tmp 2,.tmp 5,.tmp 1,.tmp 6].map a4.eval)=#[.pointer (some ⟨bA,0,none⟩),.pointer (some ⟨bY,0,none⟩),cO,.pointer (some ⟨bN,0,none⟩),cF,.pointer (some ⟨bN+1,0,none⟩)]:=by
  simp only[afw,afv,afB,Act.eval];rw[u 4 (by omega),u 3 (by omega),u 2 (by omega),u5,u 1 (by omega),u6,hA.2,hY.2,e2,e1]
 rw[iV]
 obtain⟨fv,jQ⟩:∃fv:Value,fv=.func (.func 189) #[] #[.pointer (some ⟨bA,0,none⟩),.pointer (some ⟨bY,0,none⟩),cO,.pointer (some ⟨bN,0,none⟩),cF,.pointer (some ⟨bN+1,0,none⟩)]:=⟨_,rfl⟩
 rw[<-jQ]
 obtain⟨a5,oH⟩:∃a5,a4.put (some 11) fv=a5:=⟨_,rfl⟩
 show wpOpsIn _ _ _ _ _ [1] (a4.put (some 11) fv) w4;rw[oH]
 have z5:a5.tmps.size=14:=by rw[<-oH,ju];exact z4
 have Ii:a5.tmps.getD 11 undef=fv:=by rw[<-oH];exact gP _ _ _ z4 (by decide)
 have RW:a5.tmps.getD 6 undef=.pointer (some ⟨bN+1,0,none⟩):=by rw[<-oH,dW _ _ _ _ (by decide)];exact u6
 obtain⟨i33,G6,GQ⟩:=bh (P:=prog) (t:=76) (s:=1) (by kernel_rfl);refine dk rfl rfl (by rfl) (fM (x:=.tmp 6) (y:=.tmp 11) rfl RW G6 GQ vU Ii (by rw[jQ];rfl)) ?_
 obtain⟨w5,BI⟩:∃w5,w4.setRow (bN+1) #[fv]=w5:=⟨_,rfl⟩
 show Code.wpIn _ _ _ _ _ (a5.put none undef) (w4.setRow (bN+1) #[fv]);rw[BI]
 have XQ:w5.heap.size=bN+2:=by rw[<-BI];simpa using C9
 have KE:w5.heap[bN+1]?=some (.cells #[fv] 76 (0,0)):=by rw[<-BI];exact agq w4 _ _ _ _ _ vU
 have Ki:∀b,b<bN+1->w5.heap[b]?=w4.heap[b]?:=λb hb=>by rw[<-BI];exact af4 w4 _ _ _ (by omega)
 have zt:∀b,b<bN->w5.heap[b]?=w2.heap[b]?:=λb hb=>by rw[Ki b (by omega),tE b (by omega),yZ b hb]
 refine afq ?_;show wpOpsIn _ _ _ _ _ [0,1] a5 w5;obtain⟨d33,Qv,MX⟩:=iy (P:=prog) (t:=76) (by kernel_rfl);refine aW rfl rfl (by rfl) (lP (x:=.tmp 6) (v:=fv) rfl RW Qv MX (by simp[World.cell?,KE])) ?_;show wpOpsIn _ _ _ _ _ [1] (a5.put (some 12) fv) w5
 obtain⟨a6,Ja⟩:∃a6,a5.put (some 12) fv=a6:=⟨_,rfl⟩
 rw[Ja]
 have z6:a6.tmps.size=14:=by rw[<-Ja,ju];exact z5
 have VM:a6.tmps.getD 12 undef=fv:=by rw[<-Ja];exact gP _ _ _ z5 (by decide)
 have GX:a6.defers=[]:=by rw[<-Ja,pL,<-oH,pL,<-jR,pL,<-rq,pL];exact GK
 have hc6:∀{P':Nat->Nat->Prop},(∀b k,P' b k->b<bN)->bz P' P' w2 w5:=λh=>bz.of_eq λb k hp=>⟨hp,zt b (h b k hp)⟩
 let X:Fx C all out fA rows:={
  bN:=bN
  cA:=.pointer (some ⟨bA,0,none⟩)
  cY:=.pointer (some ⟨bY,0,none⟩)
  cO:=cO
  cF:=cF
  cR:=.pointer (some ⟨bN+1,0,none⟩)
  MI:=λb=>w.heap.size<=b/\b<bN+2/\b≠bN
  wI:=w5
  bA:=bA
  u_:=u_
  DC:=rfl
  IG:=⟨⟨Vk.1,by omega,by omega⟩,by omega⟩
  Sv:=⟨UP,(zt bA (by omega)).trans r3⟩
  hY:=by
   refine .data _ _ (.ref _ _ _ (λ_=>.func (.yield l) #[] #[]) (λi hi=>?_) (λk hk=>⟨?_,?_⟩) (λk hk=>?_))
   .have:i=0:=by simpa using hi
    subst this;rfl
   .exact⟨Vq.1,by omega,by omega⟩
   .have:k=0:=by simpa using hk
    subst this;have:w5.heap[bY]?=some (.cells #[.func (.yield l) #[] #[]] VP (0,0)):=(zt bY (by omega)).trans q3;simp[World.cell?,this]
   .have:k=0:=by simpa using hk
    subst this;exact .val _ rfl
  hR:=by
   refine .data _ _ (.ref _ _ _ (λ_=>fv) (λi hi=>?_) (λk hk=>⟨?_,?_⟩) (λk hk=>?_))
   .have:i=0:=by simpa using hi
    subst this;rfl
   .exact⟨by omega,by omega,by omega⟩
   .have:k=0:=by simpa using hk
    subst this;simp[World.cell?,KE]
   .have:k=0:=by simpa using hk
    subst this;rw[jQ];exact .val _ rfl
  f9:=h9 }
 have fa:sB (λ_=>False) w w5:=by
  refine⟨?_,?_,?_,by omega,λb hb _=>(zt b (by omega)).trans (l8.block b hb)⟩
  .rw[<-BI,<-jz,<-mq];exact l8.os
  .rw[<-BI,<-jz,<-mq];exact l8.tape
  .rw[<-BI,<-jz,<-mq];exact l8.output
 have ng:bz Pr Pr w w5:=bz.pX λb k hb _=>fa.block b hb (λh=>h)
 have st:St X 0 (λb=>w.heap.size<=b/\b<bN+2) Pr [] w5:=by
  refine⟨C.c_ hJ fa λb hb=>⟨by omega,.inr hb.1⟩,λb hb=>by omega,λb hb=>⟨⟨hb.1,hb.2.1⟩,hb.2.2,rfl⟩,⟨.slice none 0 0,37,[],?_,?_,⟨rfl,.inl ⟨rfl,rfl⟩⟩,⟨λx hx=>(by cases hx),λj hj=>(by simp[aH]at hj)⟩,λb hb=>(by cases hb)⟩,MG.mono ng λ_ _ h=>h,Mr.mono ng λ_ _ h=>h,Dg.mono (bz.of_eq λb k hp=>?_)⟩
  .show w5.heap[bN]?=_;rw[Ki bN (by omega),tE bN (by omega)];exact CY
  .show w.heap.size<=bN/\bN<bN+2;exact⟨by rw[<-HU];exact l8.size,by omega⟩
  .have bL:=l8.size
   have aw:b<bN:=by
    rcases hp with h|h<;>omega
   refine⟨⟨aw,?_⟩,zt b aw⟩;rcases hp with h|h
   .exact .inr h.2
   .exact .inl (show w.heap.size<=b/\b<bN+2/\b≠bN from⟨h.1,by omega,by omega⟩)
 have Fs:=E7 hG X fX Fa iJ all.length 0 [] 0 _ Pr w5 [] (by omega) (afg _) st (by simp)
 have HN:(#[a6.eval (.const (.int .i64 0))]++#[.pointer (some ⟨bA,0,none⟩),.pointer (some ⟨bY,0,none⟩),cO,.pointer (some ⟨bN,0,none⟩),cF,.pointer (some ⟨bN+1,0,none⟩)])=#[.int .i64 ((0:Nat):Int),X.cA,X.cY,X.cO,.pointer (some ⟨X.bN,0,none⟩),X.cF,X.cR]:=by
  simp[Act.eval,X]
 rw[<-HN]at Fs;have SN:a6.eval (.tmp 12)=.func (.func 189) #[] #[.pointer (some ⟨bA,0,none⟩),.pointer (some ⟨bY,0,none⟩),cO,.pointer (some ⟨bN,0,none⟩),cF,.pointer (some ⟨bN+1,0,none⟩)]:=VM.trans jQ;refine eS rfl rfl (by rfl) (mR (f:=.tmp 12) (x:=.const (.int .i64 0)) w5 rfl rfl rfl SN (by kernel_rfl)) Fs ?_;rintro e w6 ⟨M',fl,mZ⟩
 obtain⟨b,rfl,hv⟩:∃b:Bool,e=.returned (.bool b)/\(C.J ((ch [] all rows).map (aJ out)).length M' fl w6\/C.X M' fl w6):=by
  rcases mZ with⟨rfl,h⟩|⟨rfl,h⟩
  .refine⟨true,rfl,.inl ?_⟩;have:=h.j;simpa using this
  .exact⟨false,rfl,.inr h⟩
 refine⟨_,rfl,?_⟩;show bodyPost prog f187 _ .normal (a6.put (some 13) (.bool b)) w6;refine⟨by rw[pL];exact GX,.tuple #[],?_,.tuple #[],_,_,rfl,hv⟩;simp[results,results187]
def DA:TypeDesc→Bool
  |.interface _=>true
  |_=>false
theorem yq {P:Program} {t:TypeId} (h:(P.underlying t).map DA=some true):∃ ms,P.underlying t=some (.interface ms):=by
  cases hi:P.underlying t with
  |none=>rw[hi]at h;cases h
  |some d =>
    rw[hi]at h
    cases d<;>first|(cases h;done)|exact⟨_,rfl⟩
theorem Gf (T:Nat) (v:Value) (w:World):(binOp .eql 20 (.iface T v) .nilIface).run prog w = .ok (.bool false) w:=by
  have:(Op.equal 20 (.iface T v) .nilIface).run prog w = .ok false w:=by
    obtain⟨ms,hm⟩:=yq (P:=prog) (t:=20) (by kernel_rfl);unfold Op.equal Op.maxDepth Op.equalIn;simp[agn hm]
  simp[binOp,this]
theorem mD {a:Act} {o:Oper} {T:Nat} {v:Value} {x:Operand} (w:World) (ho:o.op = .binOp .eql 20 x (.const .nilIface) 20) (hx:a.eval x = .iface T v):(execOp a.eval o).run prog w = .ok (.value (.bool false)) w:=by
  have h0:(eqGuard .eql 20 x (.const .nilIface) (.iface T v) .nilIface).run prog w=.ok () w:=sD _ _ _ _ _ _ rfl;have hc:a.eval (.const .nilIface)=.nilIface:=rfl;simp[execOp,ho,hx,hc,h0,Gf]
theorem AE {bE:Nat} {u:Value} {ty:TypeId} (w:World) (hE:w.heap[bE]? = some (.cells #[u] ty (0,0))) (n:Int) :
    CallsD prog 204 #[.pointer (some ⟨bE,0,none⟩)] (.panicking [{ v := .iface 242 (.agg #[.int .i64 n]),recovered:=false }]) w fun e u' w' =>
      e=.returned (.tuple #[])/\u'=.panicking [{ v:=.iface 242 (.agg #[.int .i64 n]),recovered:=true }]/\∃w1,Below w.heap.size w w1/\w'=w1.setRow bE #[.int .i64 5]:=by
  refine agO func204 rfl λtm cs hu=>?_
  apply ahy;apply ag0;simp[wpOpsS,go_sem,recoverD,hu,ntmps204,Exit.thenS];refine ag_ ?_;refine(ez (m:=0)).1 ?_;refine eY (λa=>a.tmps.size=14/\a.defers=[]/\a.tmps.getD 0 undef=.pointer (some ⟨bE,0,none⟩)/\a.tmps.getD 5 undef=.iface 242 (.agg #[.int .i64 n])) ⟨by simp,rfl,by simp,by simp⟩ ?_;rintro a ⟨bL,ea,h0,h5⟩;have aw:=(afe.1 hE).1;refine af3 (afc (afq ?_));show wpOpsIn _ _ _ _ _ [0] a w;refine aW rfl rfl (by rfl) (mD (x:=.tmp 5) w rfl h5) ?_;show Code.wpIn _ _ _ _ _ (a.put (some 7) (.bool false)) w
  have h7:(a.put (some 7) (.bool false)).tmps.getD 7 undef=.bool false:=by simp[Act.put,bL]
  refine afF (t:=false) h7 ?_;simp only[afj,afx];refine eY (λa=>a.tmps.size=14/\a.defers=[]/\a.tmps.getD 0 undef=.pointer (some ⟨bE,0,none⟩)/\a.tmps.getD 5 undef=.iface 242 (.agg #[.int .i64 n])) ⟨by simp[Act.put,bL],ea,by simpa[Act.put,afb]using h0,by simpa[Act.put,afb]using h5⟩ ?_;clear h7 h5 h0 ea bL a;rintro a ⟨bL,ea,h0,h5⟩
  have hS:∀ (a:Act) (w:World),a.tmps.getD 5 undef = .iface 242 (.agg #[.int .i64 n])→∀ t,t < 14→((fun t=>if t=5 then AV.iface 242 (.agg [.int .i64 n]) else AV.bB:aF) t).aI=(fun t=>if t=5 then AV.iface 242 (.agg [.int .i64 n]) else AV.bB:aF) t ∧
      RV (λ_ _=>True) cd w ((λt=>if t=5 then AV.iface 242 (.agg [.int .i64 n])else AV.bB:aF) t) (a.tmps.getD t undef):=by
    intro a w h5 t ht
    by_cases h:t=5
    . subst h
      rw[h5];refine⟨rfl,.data _ _ (.iface _ _ _ (.agg _ _ rfl (λi hi=>?_) (λi hi gq=>?_)))⟩
      . have:i=0:=by simpa using hi
        subst this;rfl
      . have:i=0:=by simpa using hi
        subst this;exact .int _ _
    . simp only[h,afx];exact⟨rfl,.bB _⟩
  refine afc ?_;refine bG (GI:=λ_=>True) (λ_ _ _ _=>trivial) cC (ac:=af.qa c204.qb.qb.qb.qb) (W:=λt=>decide (8<=t)) (by kernel_rfl) (by kernel_rfl) (by kernel_rfl) trivial (λ_ _=>True) _ bL ea (hS a w h5) (K:=λS' _=>S' 9=.bool true/\S' 10=.agg [.int .i64 n]) ?_ ?_
  . simp[c204,af.qa,af.qb,bO,bj,aD,bf,aL,aP,aT.S,aT.H,ev,av,aY,AV.aI]
  rintro g S' H' a' w' hg R1 ⟨h9,l3⟩ bb;have t9:=R1.slot 9 (by decide) (λh=>h);rw[h9]at t9;have t9:=t9.dN;have t10:=R1.slot 10 (by decide) (λh=>h);rw[l3]at t10
  have b1:Below w.heap.size w w':=by have:=R1.below;rwa [R1.base]at this
  show Code.wpIn _ _ _ _ _ a' w';refine afF (t:=true) t9 ?_;simp only[afH];refine afc ?_;refine fS R1 (GI:=λ_=>True) (λ_ _ _ _=>trivial) trivial cC (ac:=af.qa c204.qb.qb.qb.qb.qb.qa) (W:=λt=>decide (1<=t)) (by kernel_rfl) (by kernel_rfl) (by kernel_rfl) (by rw[hg];exact λ_ h=>h) (K:=λ_ _=>True) ?_ ?_
  . simp[c204,af.qa,af.qb,bO,bj,aD,bf,aL,aP,aT.S,aT.H,ev,av,aY,AV.aI,l3,cE,HR.okB,AV.cells,AV.storable,bo,AV.cg,bu]
  rintro g2 S2 H2 a2 w2 lv R2 _ gm
  have b2:Below w.heap.size w w2:=by have:=R2.below;rwa [R2.base]at this
  have e0:a2.tmps.getD 0 undef=.pointer (some ⟨bE,0,none⟩):=(gm 0 rfl).trans ((bb 0 rfl).trans h0);have xh:w2.heap[bE]?=some (.cells #[u] ty (0,0)):=(b2.block bE aw).trans hE;obtain⟨i36,l0,lZ⟩:=bh (P:=prog) (t:=34) (s:=1) (by kernel_rfl);show Code.wpIn _ _ _ _ _ a2 w2;refine afq ?_;show wpOpsIn _ _ _ _ _ [0] a2 w2;refine dk rfl rfl (by rfl) (fM (x:=.tmp 0) (y:=.const (.int .i64 5)) (v:=.int .i64 5) rfl e0 l0 lZ xh rfl rfl) ?_;refine⟨by show a2.defers=[];rw[R2.defers,lv,hg];rfl,_,rfl,.tuple #[],?_,rfl,rfl,w2,b2,rfl⟩;simp[results,results204]
theorem zG {bE:Nat} {u:Value} {ty:TypeId} (w:World) (hE:w.heap[bE]? = some (.cells #[u] ty (0,0))) (n:List UInt8) :
    CallsD prog 204 #[.pointer (some ⟨bE,0,none⟩)] (.panicking [{ v := .iface 253 (.agg #[.string ⟨n.toArray⟩]),recovered:=false }]) w fun e u' w' =>
      e=.returned (.tuple #[])/\u'=.panicking [{ v:=.iface 253 (.agg #[.string ⟨n.toArray⟩]),recovered:=true }]/\∃w1,Below w.heap.size w w1/\w'=w1.setRow bE #[.int .i64 4]:=by
  refine agO func204 rfl λtm cs hu=>?_
  apply ahy;apply ag0;simp[wpOpsS,go_sem,recoverD,hu,ntmps204,Exit.thenS];refine ag_ ?_;refine(ez (m:=0)).1 ?_;refine eY (λa=>a.tmps.size=14/\a.defers=[]/\a.tmps.getD 0 undef=.pointer (some ⟨bE,0,none⟩)/\a.tmps.getD 5 undef=.iface 253 (.agg #[.string ⟨n.toArray⟩])) ⟨by simp,rfl,by simp,by simp⟩ ?_;rintro a ⟨bL,ea,h0,h5⟩;have aw:=(afe.1 hE).1;refine af3 (afc (afq ?_));show wpOpsIn _ _ _ _ _ [0] a w;refine aW rfl rfl (by rfl) (mD (x:=.tmp 5) w rfl h5) ?_;show Code.wpIn _ _ _ _ _ (a.put (some 7) (.bool false)) w
  have h7:(a.put (some 7) (.bool false)).tmps.getD 7 undef=.bool false:=by simp[Act.put,bL]
  refine afF (t:=false) h7 ?_;simp only[afj,afx];refine eY (λa=>a.tmps.size=14/\a.defers=[]/\a.tmps.getD 0 undef=.pointer (some ⟨bE,0,none⟩)/\a.tmps.getD 5 undef=.iface 253 (.agg #[.string ⟨n.toArray⟩])) ⟨by simp[Act.put,bL],ea,by simpa[Act.put,afb]using h0,by simpa[Act.put,afb]using h5⟩ ?_;clear h7 h5 h0 ea bL a;rintro a ⟨bL,ea,h0,h5⟩
  have hS:∀ (a:Act) (w:World),a.tmps.getD 5 undef = .iface 253 (.agg #[.string ⟨n.toArray⟩])→∀ t,t < 14→((fun t=>if t=5 then AV.iface 253 (.agg [.str n]) else AV.bB:aF) t).aI=(fun t=>if t=5 then AV.iface 253 (.agg [.str n]) else AV.bB:aF) t ∧
      RV (λ_ _=>True) cd w ((λt=>if t=5 then AV.iface 253 (.agg [.str n])else AV.bB:aF) t) (a.tmps.getD t undef):=by
    intro a w h5 t ht
    by_cases h:t=5
    . subst h
      rw[h5];refine⟨rfl,.data _ _ (.iface _ _ _ (.agg _ _ rfl (λi hi=>?_) (λi hi gq=>?_)))⟩
      . have:i=0:=by simpa using hi
        subst this;rfl
      . have:i=0:=by simpa using hi
        subst this;exact .str _
    . simp only[h,afx];exact⟨rfl,.bB _⟩
  refine afc ?_;refine bG (GI:=λ_=>True) (λ_ _ _ _=>trivial) cC (ac:=af.qa c204.qb.qb.qb.qb) (W:=λt=>decide (8<=t)) (by kernel_rfl) (by kernel_rfl) (by kernel_rfl) trivial (λ_ _=>True) _ bL ea (hS a w h5) (K:=λS' _=>S' 9=.bool false/\S' 5=.iface 253 (.agg [.str n])) ?_ ?_
  . simp[c204,af.qa,af.qb,bO,bj,aD,bf,aL,aP,aT.S,aT.H,ev,av,aY,AV.aI]
  rintro g0 S0 H0 a0 NF uX R0 ⟨Ax,K9⟩ xZ;have t90:=R0.slot 9 (by decide) (λh=>h);rw[Ax]at t90;have t90:=t90.dN;show Code.wpIn _ _ _ _ _ a0 NF;refine afF (t:=false) t90 ?_;simp only[afj,afx];refine afc ?_;refine fS R0 (GI:=λ_=>True) (λ_ _ _ _=>trivial) trivial cC (ac:=af.qa c204.qb.qb.qb.qb.qb.qb) (W:=λt=>decide (8<=t)) (by kernel_rfl) (by kernel_rfl) (by kernel_rfl) (by rw[uX];exact λ_ h=>h) (K:=λS' _=>S' 12=.bool true/\S' 13=.agg [.str n]) ?_ ?_
  . simp[c204,af.qa,af.qb,bO,bj,aD,bf,aL,aP,aT.S,aT.H,ev,av,aY,AV.aI,K9]
  rintro g S' H' a' w' hg R1 ⟨h9,l3⟩ yr;have bb:=xZ.trans yr;rw[uX]at hg;have t9:=R1.slot 12 (by decide) (λh=>h);rw[h9]at t9;have t9:=t9.dN;have t10:=R1.slot 13 (by decide) (λh=>h);rw[l3]at t10
  have b1:Below w.heap.size w w':=by have:=R1.below;rwa [R1.base]at this
  show Code.wpIn _ _ _ _ _ a' w';refine afF (t:=true) t9 ?_;simp only[afH];refine afc ?_;refine fS R1 (GI:=λ_=>True) (λ_ _ _ _=>trivial) trivial cC (ac:=af.qa c204.qb.qb.qb.qb.qb.qb.qb.qa) (W:=λt=>decide (1<=t)) (by kernel_rfl) (by kernel_rfl) (by kernel_rfl) (by rw[hg];exact λ_ h=>h) (K:=λ_ _=>True) ?_ ?_
  . simp[c204,af.qa,af.qb,bO,bj,aD,bf,aL,aP,aT.S,aT.H,ev,av,aY,AV.aI,l3,cE,HR.okB,AV.cells,AV.storable,bo,AV.cg,bu]
  rintro g2 S2 H2 a2 w2 lv R2 _ gm
  have b2:Below w.heap.size w w2:=by have:=R2.below;rwa [R2.base]at this
  have e0:a2.tmps.getD 0 undef=.pointer (some ⟨bE,0,none⟩):=(gm 0 rfl).trans ((bb 0 rfl).trans h0);have xh:w2.heap[bE]?=some (.cells #[u] ty (0,0)):=(b2.block bE aw).trans hE;obtain⟨i36,l0,lZ⟩:=bh (P:=prog) (t:=34) (s:=1) (by kernel_rfl);show Code.wpIn _ _ _ _ _ a2 w2;refine afq ?_;show wpOpsIn _ _ _ _ _ [0] a2 w2;refine dk rfl rfl (by rfl) (fM (x:=.tmp 0) (y:=.const (.int .i64 4)) (v:=.int .i64 4) rfl e0 l0 lZ xh rfl rfl) ?_;refine⟨by show a2.defers=[];rw[R2.defers,lv,hg];rfl,_,rfl,.tuple #[],?_,rfl,rfl,w2,b2,rfl⟩;simp[results,results204]
theorem zx (p:Addr) (w:World) :
    CallsD prog 204 #[.pointer (some p)] .returning w λe u' w'=>e=.returned (.tuple #[])/\u'=.returning/\w'=w:=by
  refine agO func204 rfl λtm cs hu=>?_
  apply ahy;apply ag0;simp[wpOpsS,go_sem,recoverD,hu,ntmps204,Exit.thenS];refine ag_ ?_
  go_wp2
  cases tm
  simp_all[bodyPostS,results,results204]
theorem rZ {P:Program} {a:Act} {o:Oper} {cl:Call} {f:Operand} {k:Nat} {cap:Array Value} (w:World) (ho:o.op = .call cl) (hc:cl.callee = .value f) (ha:cl.args = #[]) (hf:a.eval f = .func (.func k) #[] cap) (hk:dZ P k=true) :
    (execOp a.eval o).run P w=.ok (.enter k cap) w:=by
  unfold execOp;simp[ho,eV hc,hf,Deferred.ofValue,invoke,ha,je hk]
theorem run_move {P:Program} {a:Act} {o:Oper} {x:Operand} (w:World) (ho:o.op = .move x):(execOp a.eval o).run P w = .ok (.value (a.eval x)) w:=by
  unfold execOp;simp only[ho]
  rfl
theorem sK{w:World}{b:Nat}{v u:Value}{ty:TypeId}(h:w.heap[b]?=some (.cells #[u] ty (0,0))):(w.setRow b #[v]).heap[b]?=some (.cells #[v] ty (0,0)):=agq w b _ _ _ _ h
theorem C7 {a:Act} {w:World} {b:Nat} {v:Value} {ty:TypeId} (h2:a.tmps.getD 2 undef = .pointer (some ⟨b,0,none⟩)) (h:w.heap[b]? = some (.cells #[v] ty (0,0))):(results f170 a.tmps).run prog w = .ok v w:=by
  obtain⟨d,EA,Og⟩:=iy (P:=prog) (t:=34) (by kernel_rfl)
  have AY:(isAgg 34).run prog w = .ok false w:=by
    unfold isAgg;rw[afW,agn EA w]
    cases d<;>simp_all[fg]
  have hl:(loadVar 34 ⟨b,0,none⟩).run prog w = .ok v w:=by
    simp[loadVar,afW,AY,World.cell?,h]
  have hr:f170.results=#[.cell 2 34]:=rfl
  have th:a.tmps[2]?.getD undef=.pointer (some ⟨b,0,none⟩):=by rw[<-h2];simp
  simp[results,hr,th,asAddr,hl]
theorem ny {k:Nat} {us:Array Value} {w:World} {R1 R:Ending→World→Prop} (sX:dZ prog k=true) (hc:Calls prog k us (w.alloc (.cells #[.int .i64 0] 34)) R1)
    (h:∀ e w2,R1 e w2→w.heap.size < w2.heap.size∧(∃ u ty,w2.heap[w.heap.size]? = some (.cells #[u] ty (0,0))) ∧
      ((∃c,e=.returned c/\R (.returned (.int .i64 0)) (w2.setRow w.heap.size #[.int .i64 0]))\/
       (∃n,e=.panicked [{ v:=.iface 242 (.agg #[.int .i64 n]),recovered:=false }]/\∀w3,Below w2.heap.size w2 w3->R (.returned (.int .i64 5)) (w3.setRow w.heap.size #[.int .i64 5]))\/
       (∃s:List UInt8,e=.panicked [{ v:=.iface 253 (.agg #[.string ⟨s.toArray⟩]),recovered:=false }]/\∀w3,Below w2.heap.size w2 w3->R (.returned (.int .i64 4)) (w3.setRow w.heap.size #[.int .i64 4])))):
    Calls prog 170 #[.func (.func k) #[] us] w R:=by
  refine ahO func170 rfl ?_;refine(ez (m:=0)).1 ?_;refine eY (λa=>a.tmps.size=6/\a.defers=[]/\a.tmps.getD 0 undef=.func (.func k) #[] us) ⟨by simp[ntmps170],rfl,bK _ _ 0 (by simp)⟩ ?_;rintro a ⟨bL,ea,h0⟩
  obtain⟨bE,Bg⟩:∃bE,w.heap.size=bE:=⟨_,rfl⟩
  have dW:∀ (a:Act) (d t:Nat) (c:Value),t≠d→(a.put (some d) c).tmps.getD t undef=a.tmps.getD t undef:=fun a d t c h=>by
    simp[Act.put,afb (afQ h)]
  have gP:∀ (a:Act) (d:Nat) (c:Value),a.tmps.size=6→d < 6→(a.put (some d) c).tmps.getD d undef=c:=fun a d c h hd=>by
    simp[Act.put,h,hd]
  have ju:∀(a:Act)(d:Option Nat)(c:Value),(a.put d c).tmps.size=a.tmps.size:=λa d c=>by cases d<;>simp[Act.put]
  refine afc (afq ?_);show wpOpsIn _ _ _ _ _ [0] a w;refine aW rfl rfl (by rfl) (iQ (t:=34) (z:=.int .i64 0) rfl (by kernel_rfl)) ?_;show Code.wpIn _ _ _ _ _ (a.put (some 2) (.pointer (some ⟨w.heap.size,0,none⟩))) (w.alloc (.cells #[.int .i64 0] 34));rw[Bg]at h;simp only[Bg]
  obtain⟨w1,jF⟩:∃w1,w.alloc (.cells #[.int .i64 0] 34)=w1:=⟨_,rfl⟩
  rw[jF]at hc⊢;refine eY (λa=>a.tmps.size=6/\a.defers=[]/\a.tmps.getD 0 undef=.func (.func k) #[] us/\a.tmps.getD 2 undef=.pointer (some ⟨bE,0,none⟩)) ⟨by rw[ju];exact bL,ea,by rw[dW _ _ _ _ (by decide)];exact h0,gP _ _ _ bL (by decide)⟩ ?_;clear h0 ea bL a;rintro a ⟨bL,ea,h0,h2⟩;refine afc (afq ?_);show wpOpsIn _ _ _ _ _ [0,1] a w1;refine aW rfl rfl (by rfl) (kB (fn:=.func 204) (c:=#[.tmp 2]) rfl) ?_
  have iV:(#[Operand.tmp 2].map a.eval) = #[.pointer (some ⟨bE,0,none⟩)]:=by
    simp only[afw,afv,afB,Act.eval];rw[h2]
  rw[iV];show wpOpsIn _ _ _ _ _ [1] (a.put (some 3) (.func (.func 204) #[] #[.pointer (some ⟨bE,0,none⟩)])) w1
  obtain⟨a2,ic⟩:∃a2,a.put (some 3) (.func (.func 204) #[] #[.pointer (some ⟨bE,0,none⟩)])=a2:=⟨_,rfl⟩
  rw[ic]
  have z2:a2.tmps.size=6:=by rw[<-ic,ju];exact bL
  have u3:a2.tmps.getD 3 undef=.func (.func 204) #[] #[.pointer (some ⟨bE,0,none⟩)]:=by rw[<-ic];exact gP _ _ _ bL (by decide)
  have u0:a2.tmps.getD 0 undef=.func (.func k) #[] us:=by rw[<-ic,dW _ _ _ _ (by decide)];exact h0
  have u2:a2.tmps.getD 2 undef=.pointer (some ⟨bE,0,none⟩):=by rw[<-ic,dW _ _ _ _ (by decide)];exact h2
  have ud:a2.defers=[]:=by rw[<-ic];exact ea
  refine yF rfl rfl (d:={ target:=.fn (.func 204) #[.pointer (some ⟨bE,0,none⟩)],args:=#[] }) (w':=w1) ?_ ?_
  . unfold execOp
    simp[eV,Deferred.ofValue,Act.eval,u3]
  have E1:∀ (w:World),(invoke (.fn (.func 204) #[.pointer (some ⟨bE,0,none⟩)]) #[]).run prog w = .ok (.enter 204 #[.pointer (some ⟨bE,0,none⟩)]) w:=fun w=>by
    simp[invoke,je (P:=prog) (f:=204) (by kernel_rfl)]
  show Code.wpIn _ _ _ _ _ { a2 with defers:={ target:=.fn (.func 204) #[.pointer (some ⟨bE,0,none⟩)],args:=#[] }::a2.defers } w1;refine eY (λa=>a.tmps.size=6/\a.defers=[{ target:=.fn (.func 204) #[.pointer (some ⟨bE,0,none⟩)],args:=#[] }]/\a.tmps.getD 0 undef=.func (.func k) #[] us/\a.tmps.getD 2 undef=.pointer (some ⟨bE,0,none⟩)) ⟨z2,by show _::a2.defers=_;rw[ud],u0,u2⟩ ?_;clear u0 u2 u3 ud z2 ic a2 h0 h2 ea bL iV a;rintro a ⟨bL,ea,h0,h2⟩;refine afc (afq ?_);show wpOpsIn _ _ _ _ _ [0,1] a w1;refine aW rfl rfl (by rfl) (run_move (x:=.tmp 0) w1 rfl) ?_;have e0:a.eval (.tmp 0)=.func (.func k) #[] us:=h0;rw[e0];show wpOpsIn _ _ _ _ _ [1] (a.put (some 4) (.func (.func k) #[] us)) w1
  obtain⟨a2,ic⟩:∃a2,a.put (some 4) (.func (.func k) #[] us)=a2:=⟨_,rfl⟩
  rw[ic]
  have z2:a2.tmps.size=6:=by rw[<-ic,ju];exact bL
  have u4:a2.eval (.tmp 4)=.func (.func k) #[] us:=by show a2.tmps.getD 4 undef=_;rw[<-ic];exact gP _ _ _ bL (by decide)
  have u2:a2.tmps.getD 2 undef=.pointer (some ⟨bE,0,none⟩):=by rw[<-ic,dW _ _ _ _ (by decide)];exact h2
  have ud:a2.defers=[{ target:=.fn (.func 204) #[.pointer (some ⟨bE,0,none⟩)],args:=#[] }]:=by rw[<-ic];exact ea
  refine rk rfl rfl (by rfl) (rZ (f:=.tmp 4) w1 rfl rfl rfl u4 sX) hc ?_;intro e w2 he;obtain⟨aw,⟨uE,L',hE⟩,pA⟩:=h e w2 he
  have uj:∀ {args:Array Value} {u:FrameMode} {w:World} {R R':Ending→FrameMode→World→Prop},CallsD prog 204 args u w R→(∀ e u w,R e u w→R' e u w)→CallsD prog 204 args u w R':=fun h hr c cs hu =>
    let⟨e,u',w',fr,r,rest⟩:=h c cs hu;⟨e,u',w',fr,hr _ _ _ r,rest⟩
  have qv:∀ (p:PanicEntry) (v:Value) (hv:CallsD prog 204 #[.pointer (some ⟨bE,0,none⟩)] (.panicking [p]) w2 fun e u' w'=>e = .returned (.tuple #[])∧u' = .panicking [{ p with recovered:=true }]∧∃ w1,Below w2.heap.size w2 w1∧w'=w1.setRow bE #[v]),
      p.goexit=false->(∀w3,Below w2.heap.size w2 w3->R (.returned v) (w3.setRow bE #[v]))->Leaves prog f170 a2.tmps R a2.defers (.panicking [p]) w2:=by
    intro p v hv nq hR;rw[ud];refine ahv (by simp) (E1 w2) (uj hv ?_);rintro e u' w' ⟨rfl,rfl,w3,mm,rfl⟩;have LW:w3.heap[bE]?=some (.cells #[uE] L' (0,0)):=(mm.block bE aw).trans hE;show Leaves prog f170 a2.tmps R [] .returning (w3.setRow bE #[v]);exact⟨v,C7 u2 (sK LW),hR w3 mm⟩
  rcases pA with⟨c,rfl,hR⟩|⟨n,rfl,hR⟩|⟨s,rfl,hR⟩
  . show Code.wpIn _ _ _ _ _ (a2.put (some 5) c) w2
    have GL:(a2.put (some 5) c).tmps.getD 2 undef=.pointer (some ⟨bE,0,none⟩):=by rw[dW _ _ _ _ (by decide)];exact u2
    refine afc (afq ?_);show wpOpsIn _ _ _ _ _ [0] (a2.put (some 5) c) w2;obtain⟨i36,l0,lZ⟩:=bh (P:=prog) (t:=34) (s:=1) (by kernel_rfl);refine dk rfl rfl (by rfl) (fM (x:=.tmp 2) (y:=.const (.int .i64 0)) (v:=.int .i64 0) rfl GL l0 lZ hE rfl rfl) ?_;show Code.wpIn _ _ _ _ _ (a2.put (some 5) c) (w2.setRow bE #[.int .i64 0]);refine agK ?_;show Leaves prog f170 (a2.put (some 5) c).tmps R a2.defers .returning (w2.setRow bE #[.int .i64 0]);rw[ud];refine ahv (by simp) (E1 _) (uj (zx _ _) ?_);rintro e u' w' ⟨rfl,rfl,rfl⟩;exact⟨_,C7 GL (sK hE),hR⟩
  . exact qv _ _ (AE w2 hE n) rfl hR
  . exact qv _ _ (zG w2 hE s) rfl hR
theorem Ga (hG:au GI) {k:Nat} {caps:List AV} {out:eZ} {r:Int} (sX:dZ prog k=true) (Ll:AC prog GI k caps out)
    (iJ:(∃v,out=.ret v/\r=0)\/(∃n,out=.panic (.iface 242 (.agg [.int .i64 n]))/\r=5)\/(∃s,out=.panic (.iface 253 (.agg [.str s]))/\r=4)):
    AC prog GI 170 [.func (.func k) [] caps] (.ret (.int .i64 r)):=by
  intro w old dH fR hlen hr;obtain⟨fv,rfl⟩:∃fv,dH=#[fv]:=l4 (by simpa using hlen.symm);have h0:=hr 0 (by simp) (by simp);simp only[List.getElem_cons_zero,List.getElem_toArray]at h0
  obtain ⟨us,rfl,hl,Ob⟩:∃ us:Array Value,fv = .func (.func k) #[] us∧caps.length=us.size∧∀ i (h:i < caps.length) (h':i < us.size),RV old (fun _=>none) w caps[i] us[i]:=by
    cases h0 with
    |data _ _ h=>cases h
    |func _ _ _ vs us h1 h2 r1 r2 =>
      have:vs=#[]:=agv (by simpa using h1.symm);subst this;exact⟨us,rfl,h2,r2⟩
  have tj:Below w.heap.size w (w.alloc (.cells #[.int .i64 0] 34)):=(aga _ _).alloc (afg _) _
  have hk:bz old old w (w.alloc (.cells #[.int .i64 0] 34)):=bz.jV (λb h=>tj.block b h) λ_ _ _ h=>h
  have hN:(w.alloc (.cells #[.int .i64 0] 34)).heap[w.heap.size]?=some (.cells #[.int .i64 0] 34 (0,0)):=afO w _;refine ny sX (Ll (w.alloc (.cells #[.int .i64 0] 34)) old us (hG _ _ fR tj) hl (λi h h'=>(Ob i h h').mono hk λ_ _ h=>h)) ?_;rintro e w2 ⟨ig,hi,pS,pA⟩
  have PB:w.heap.size<w2.heap.size:=by have:=ig.size;simp at this;omega
  have xh:w2.heap[w.heap.size]?=some (.cells #[.int .i64 0] 34 (0,0)):=(ig.block _ (by simp)).trans hN;refine⟨PB,⟨_,_,xh⟩,?_⟩
  have fin:∀ (w3:World) (r:Int),Below w2.heap.size w2 w3→AL.Ends prog old w (.ret (.int .i64 r)) (.returned (.int .i64 r)) (w3.setRow w.heap.size #[.int .i64 r]):=by
    intro w3 r mm
    have l8:Below w.heap.size w w3:=by
      have h1:=tj.trans (ig.mono (by simp));exact h1.trans (mm.mono (by omega))
    refine⟨⟨l8.os,l8.tape,l8.output,by simpa using l8.size,λb hb=>(af4 w3 _ b _ (by omega)).trans (l8.block b hb)⟩,λ_=>0,λ_ _=>rfl,_,rfl,.data _ _ (.int _ _),trivial⟩
  rcases iJ with⟨v,rfl,rfl⟩|⟨n,rfl,rfl⟩|⟨s,rfl,rfl⟩
  . obtain ⟨c,rfl,_,_⟩:=pA
    exact .inl ⟨c,rfl,fin w2 0 (aga _ _)⟩
  . obtain ⟨c,rfl,hc⟩:=pA
    obtain rfl:c = .iface 242 (.agg #[.int .i64 n]):=by
      cases hc with
      |iface _ _ c h =>
        cases h with
        |agg _ vs hl h1 hr =>
          obtain⟨u,rfl⟩:=l4 (vs:=vs) (by rw[<-hl];rfl);have:=hr 0 (by simp) (by simp);have:=(RV.data (al:=cd) _ _ this).int_eq;simp only[List.getElem_toArray,List.getElem_cons_zero]at this;rw[this]
    exact .inr (.inl ⟨n,rfl,λw3 h3=>fin w3 5 h3⟩)
  . obtain ⟨c,rfl,hc⟩:=pA
    obtain rfl:c = .iface 253 (.agg #[.string ⟨s.toArray⟩]):=by
      cases hc with
      |iface _ _ c h =>
        cases h with
        |agg _ vs hl h1 hr =>
          obtain⟨u,rfl⟩:=l4 (vs:=vs) (by rw[<-hl];rfl);have:=hr 0 (by simp) (by simp);simp only[List.getElem_toArray,List.getElem_cons_zero]at this;cases this;rfl
    exact .inr (.inr ⟨s,rfl,λw3 h3=>fin w3 4 h3⟩)
theorem yu{GI:World->Prop}(hG:au GI){n:Nat}{ro:Option Nat}{Q:mL}{old:Old}{S:aF}{H:aK}{x y:Code}(ac:af)(ib:∀d∈ac.names,¬old.bx d)(K:aF->aK->Prop)(h:bO prog GI ac (aP K) S H)(hy:∀S' H',K S' H'->SW prog GI n ro y Q old S' H')(hc:ur x=true:=by kernel_rfl)(wR:kT prog n x=ac:=by kernel_rfl):SW prog GI n ro (.seq x y) Q old S H:=SW.cut hG cC hc wR ib K h hy
theorem dw{GI:World->Prop}(hG:au GI){n:Nat}{ro:Option Nat}{Q:mL}{old:Old}{S:aF}{H:aK}{x y:Code}(ac:af)(K:aF->aK->Prop)(h:bO prog GI ac (aP K) S H)(hy:∀S' H',K S' H'->SW prog GI n ro y Q old S' H')(ib:∀d∈ac.names,¬old.bx d:=by exact λ_ _ h=>h)(hc:ur x=true:=by kernel_rfl)(wR:kT prog n x=ac:=by kernel_rfl):SW prog GI n ro (.seq x y) Q old S H:=SW.cut hG cC hc wR ib K h hy
theorem fD:AV.aI∘AV.aI=AV.aI:=by funext v;exact AV.idem v
theorem Fg:AV.cm∘AV.cm=AV.cm:=by funext v;cases v<;>rfl
theorem Ma(hG:au GI){fA:List AV}{out:List Int}(hl:fA.length=11):AC prog GI 148 [.agg fA,vI out] (.ret (.func (.func 187) [] [.ref (fA.map AV.cm),.ref [vI out]])):=by
 refine AC.De hG cC func148 rfl ntmps148 (by simp) (ac:=c148) (by kernel_rfl) ?_;simp[c148,bO,bj,aD,bf,aL,cV,ev,aT.S,aT.H,av,aY,AL.start,AV.aI,AV.cells,AV.storable,hl,cE,sy,bu,vI];refine⟨4,.func 187,[],[.box 2 0,.box 3 0],rfl,by decide,by simp[av],?_⟩;simp[av,fz,iA,AV.cm,kJ]
def wC(out:List Int)(l:List (List End)):AV:=.slice (if l.isEmpty then .nil else .own 39) (l.map (aJ out))
def xB(out:List Int)(l:List (List End)):AV:=.slice (if l.isEmpty then .nil else .view) (l.map (aJ out))
theorem Qh (hG:au GI) {fA:List AV} {out:List Int} {gR:List (List End)} {p:List End→Bool} (hl:fA.length=11) (kR:∀ x∈fA,x.one=true) (hlen:gR.length≤100000) (bL:∀ es∈gR,es.length < 1000)
  (hit:sT prog GI 187 [.ref (fA.map AV.cm),.ref [vI out]] (gR.map (aJ out))) (Mf:∀es∈gR,AC prog GI 149 [.agg (fA.map AV.cm),aJ out es,.int .i64 0] (.ret (.bool (p es)))):
  AC prog GI 80 [.agg fA,vI out] (.ret (xB out (gR.filter p))):=by
 refine AC.gY func80 rfl ntmps80 (by simp) λcc w=>?_
 refine dw hG c80.qa (λS' H'=>S' 1=vI out/\S' 2=.box 2 0/\H' 2=some (fA.map AV.aI)) ?_ ?_
 .simp[c80,af.qa,bO,bj,aD,bf,aL,ev,aT.S,aT.H,av,aY,AL.start,AV.aI,AV.cells,AV.storable,hl,cE,bu,vI,aP]
 rintro S1 H1 ⟨s1,s2,h2⟩;refine dw hG c80.qb.qa (λS' H'=>S' 1=vI out/\S' 2=.box 2 0/\S' 5=.box 5 0/\H' 2=some (fA.map AV.aI)/\H' 5=some [.slice .nil []]) ?_ ?_
 .simp[c80,af.qa,af.qb,bO,bj,aD,bf,av,cE,vI,aP,s1,s2,h2]
 rintro S2 H2 ⟨s1,s2,s5,h2,h5⟩;refine SW.seq (dw hG c80.qb.qb.qa.qa (λS' H'=>S' 2=.box 2 0/\S' 5=.box 5 0/\S' 9=.func (.func 187) [] [.ref (fA.map AV.cm),.ref [vI out]]/\H' 2=some (fA.map AV.aI)/\H' 5=some [.slice .nil []]) ?_ ?_)
 .have e7:fz H2 (.agg (fA.map AV.aI))=.agg (fA.map AV.cm):=by simp only[fz,iA,AV.vw,af1,kJ]
  have Af:=Ma hG (fA:=fA.map AV.cm) (out:=out) (GI:=GI) (by simpa using hl);simp only[af1,Fg]at Af;simp[c80,af.qa,af.qb,bO,bj,aD,bf,aL,ev,aT.S,aT.H,av,aY,ck,s1,s2,s5,h2,h5,aP,mH,hl,HR.okB,fD];have ht:List.take 11 (List.map AV.aI fA)=fA.map AV.aI:=afh (by simp;omega);rw[ht,e7];refine⟨by kernel_rfl,_,Af,by simp[du,vI,AV.aI],?_⟩;simp[iH,av,s2,s5,h2,h5]
 rintro S3 H3 ⟨s2,s5,s9,h2,h5⟩
 refine SW.block (SW.range hG cC (OA:=.tmp 9) (y:=.t 9) (p:=10) (f:=187) (caps:=[.ref (fA.map AV.cm),.ref [vI out]]) (xs:=gR.map (aJ out)) rfl s9 (by kernel_rfl) rfl hit (by decide) (λx hx=>by obtain⟨e,_,rfl⟩:=afp.1 hx;rfl)
  (λd=>d==6) (aa:=.ops [⟨(some 6),none,.alloc 39 [(.slice .nil []),(.slice .nil [])]⟩,⟨none,none,.store .any 2 (.t 6) (.t 10)⟩]) (ab:=.block 1 (.seq (.ops [⟨some 11,none,.load .any true 11 (.t 2)⟩,⟨some 12,none,.load .any true 2 (.t 6)⟩,⟨some 13,none,.call 149 [(.t 11),(.t 12),(.c (.int .i64 0))]⟩]) (.cond (.t 13) (.ops [⟨some 14,none,.loadT .any (.t 5)⟩,⟨some 15,none,.load .any true 2 (.t 6)⟩,⟨some 16,none,.buildSlice 110 39 2 [(.t 15)]⟩,⟨some 17,none,.append 110 39 2 48 (.t 14) (.t 16)⟩,⟨none,none,.store .any 1 (.t 5) (.t 17)⟩]) .skip)))
  (by kernel_rfl) (by kernel_rfl) (by simp[af.names,fw.l5,nj.l5]) (by simp[af.names,fw.l5,nj.l5]) (λ_ _ h=>h) (by kernel_rfl) (by kernel_rfl)
  (λk H'=>H' 2=some (fA.map AV.aI)/\H' 5=some [wC out ((gR.take k).filter p)]) (λ_ _=>False) ⟨h2,h5⟩ ?_ ?_ ?_)
 .rintro k hk H' ⟨h2,h5⟩
  have ee:k<gR.length:=by simpa using hk
  have xw:(gR.map (aJ out))[k]=aJ out gR[k]:=by simp
  have hf:=Mf gR[k] (ae_ ee)
  have ly:gR.take (k+1)=gR.take k++[gR[k]]:=by rw[afd ee]
  have e7:∀H,fz H (.agg (fA.map AV.aI))=.agg (fA.map AV.cm):=λH=>by simp only[fz,iA,AV.vw,af1,kJ]
  have e8:∀H,fz H (.agg [.slice .view (ints out),.slice .view (aH gR[k])])=aJ out gR[k]:=λH=>rfl
  have e9:∀H,fz H (.int .i64 0)=.int .i64 0:=λH=>rfl
  have ht:List.take 11 (List.map AV.aI fA)=fA.map AV.aI:=afh (by simp;omega)
  have vi:yw (λd=>d==6) (S3 2)=.box 2 0:=by rw[s2];rfl
  have jJ:yw (λd=>d==6) (S3 5)=.box 5 0:=by rw[s5];rfl
  rw[xw,ly,List.filter_append];simp[bO,bj,aD,bf,aL,ev,aT.S,aT.H,av,aY,aP,cE,vi,jJ,h2,h5,HR.okB,aJ,AV.cells,AV.storable,AV.aI,bo,AV.cg,bu,cV,db,ck,fD,ht,mH,hl,e7,e8,e9];refine⟨by kernel_rfl,_,hf,by simp[du],?_⟩;have hL:(List.filter p (List.take k gR)).length<=100000:=agu (agJ _ _) (by simp;omega);generalize List.filter p (List.take k gR)=L at hL h5⊢
  have eK:aM 2 (L.map (aJ out))=true:=by simp[aM,aJ,AV.storable,AV.cells]
  cases hp:p gR[k]with
  |false=>simp[iH,pP,h2,h5,hp,av]
  |true=>
   cases L with
   |nil=>simp[iH,pP,hp,aM,AV.storable,AV.cells,AV.vw,AV.cm,wC,AV.aI,HR.okB,av,bo,AV.cg,aJ,jJ,h2]
   |cons x L=>
    have pB:L.length+1+1<1048576:=by simp at hL;omega
    simp[iH,pP,hp,aM,AV.storable,AV.cells,AV.vw,AV.cm,wC,AV.aI,HR.okB,av,bo,AV.cg,aJ,jJ,pB,h2]
 .rintro D H' hD ⟨h2,h5⟩;show SW prog GI 19 none (.seq _ .ret) _ _ _ _
  have jJ:yw (λd=>d==6) (S3 5)=.box 5 0:=by rw[s5];rfl
  have ly:List.take (gR.map (aJ out)).length gR=gR:=afh (by simp);rw[ly]at h5;refine dw hG c80.qb.qb.qb.qa (λS' _=>S' 4=xB out (gR.filter p)) ?_ ?_
  .generalize gR.filter p=L at h5⊢
   cases L<;>simp[c80,af.qa,af.qb,bO,bj,aD,bf,aL,ev,aT.S,aT.H,av,aY,ck,jJ,h5,HR.okB,aP,wC,xB,AV.aI,bu]
  intro S4 H4 s4;refine SW.ret ⟨(eD.plain rfl).mark hD,rfl,_,?_,rfl⟩;show cw prog 19 [.tmp 4] S4 H4=_;simp[cw,cH,cI,s4,xB,AV.bU,AV.out]
 .exact λ_ _ _ _ _ h=>h.elim
structure iZ where
 l:Int
 r:Int
 lo:Int
 hi:Int
def cZ(p:iZ):AV:=.agg [.int .i64 p.l,.int .i64 p.r,.int .i64 p.lo,.int .i64 p.hi]
def mQ(p:iZ):AV:=.agg [.int .i64 p.l,.int .i64 p.r]
def j0(p:iZ):AV:=.agg [.int .i64 p.lo,.int .i64 p.hi]
def bl(ps:List iZ):AV:=.map (ps.map mQ) (ps.map j0)
def Pl(es:Array MapEntry)(ps:List iZ):Prop:=es.size=ps.length/\∀i (h:i<es.size)(h':i<ps.length),(es[i]).key=.agg #[.int .i64 (ps[i]).l,.int .i64 (ps[i]).r]/\(es[i]).val=.agg #[.int .i64 (ps[i]).lo,.int .i64 (ps[i]).hi]
theorem CM{Pr:Nat->Nat->Prop}{w:World}(x y:Int):RD Pr w (.agg [.int .i64 x,.int .i64 y]) (.agg #[.int .i64 x,.int .i64 y]):=by
 refine .agg _ _ rfl (λi hi=>?_) (λi hi gq=>?_)
 .match i,hi with
  |0,_=>rfl
  |1,_=>rfl
 .match i,hi with
  |0,_=>exact .int _ _
  |1,_=>exact .int _ _
theorem rQ(x y:Int):∀(ps:List iZ),(∀p∈ps,¬(p.l=x/\p.r=y))->rA [x,y] (ps.map mQ) (ps.map j0)=some none
 |[],_=>rfl
 |p::ps,h=>by
  have hp:([x,y]==[p.l,p.r])=false:=by
   have:=h p aft;simp only[afN,ne_eq,ahc,ah_];rintro⟨rfl,rfl⟩;exact this ⟨rfl,rfl⟩
  show rA [x,y] (mQ p::ps.map mQ) (j0 p::ps.map j0)=some none;unfold rA;simp only[mQ,wx,Option.map_some];simp only[List.length_cons,List.length_nil,ne_eq,ahs,afx,hp,afj]
  exact rQ x y ps λq hq=>h q (afk _ hq)
def oM(cc:Nat->Nat->Prop)(w:World)(b:Nat)(es:Array MapEntry)(clock:Nat):Old:={ Old.plain cc w with bI:=av (λ_=>none) b (some (.map es clock)) }
def zp(sA:List AV)(ps:List iZ)(z:List AV)(b j:Nat)(S:aF)(H:aK):Prop:=
 S 2=.box 2 0/\S 3=.box 3 0/\S 10=.slice .view (ps.map cZ)/\S 11=.int .i64 ps.length/\S 12=.int .i64 (j:Nat)/\H 2=some z/\H 3=some (sA.map AV.aI++[.val (.map (some b))])
theorem AD{Pr:Nat->Nat->Prop}{al:Nat->Option Nat}{w:World}{x y:Int}{c:Value}(h:RV Pr al w (.agg [.int .i64 x,.int .i64 y]) c):c=.agg #[.int .i64 x,.int .i64 y]:=by
 cases h with
 |data _ _ h=>
  cases h with
  |agg _ vs hl h1 hr=>
   congr 1
   apply agp
   .rw[<-hl];rfl
   .intro i hi gq
    have nc:i<2:=by simpa using gq
    match i,nc with
    |0,_=>exact(RV.data (al:=cd) _ _ (hr 0 (by simp) hi)).int_eq
    |1,_=>exact(RV.data (al:=cd) _ _ (hr 1 (by simp) hi)).int_eq
theorem Cr{b:Nat}{ks vs:List AV}{x:AV}(h:isVal x=false):CI b ks vs x.aI=x.aI:=by
 cases x<;>first|rfl|(cases h;done)|skip
 rename_i o es;cases o<;>rfl
theorem Ck{P:Program}{t kt el:TypeId}(h:(P.underlying t).map (λd=>match d with|.map k e=>some (k,e)|_=>none)=some (some (kt,el))):P.underlying t=some (.map kt el):=by
 cases hi:P.underlying t with
 |none=>rw[hi]at h;cases h
 |some d=>
  rw[hi]at h
  cases d<;>simp at h
  obtain⟨rfl,rfl⟩:=h;rfl
def B3:TypeDesc->Bool
 |.struct _=>true
 |_=>false
theorem bV{P:Program}{t:TypeId}(h:(P.underlying t).map B3=some true):∃fs,P.underlying t=some (.struct fs):=by
 cases hi:P.underlying t with
 |none=>rw[hi]at h;cases h
 |some d=>
  rw[hi]at h
  cases d<;>first|(cases h;done)|exact⟨_,rfl⟩
noncomputable def pZ:af:=af.qb c79.qb.qb.qa.qb.qb.qb.qb
theorem RN (hG:au GI) {sA:List AV} {ps:List iZ} (hl:sA.length=10) (uI:sA[1]? = some (.slice .view (ps.map cZ))) (kR:∀ x∈sA,x.storable=true∧isVal x=false) (hlen:ps.length≤100000) (l7:∀ i j (hi:i < ps.length) (hj:j < ps.length),i < j→¬ ((ps[i]).l=(ps[j]).l∧(ps[i]).r=(ps[j]).r)) :
  AC prog GI 79 [.agg sA] (.ret (.agg ((sA++[bl ps]).map AV.cm))):=by
 refine AC.gY func79 rfl ntmps79 (by simp) λcc w=>?_
 refine dw hG c79.qa (λS' H'=>S' 1=.box 1 0/\S' 2=.box 2 0/\H' 1=some (sA.map AV.aI)/\∃z,H' 2=some z/\z.length=11) ?_ ?_
 .simp[c79,af.qa,bO,bj,aD,bf,aL,ev,aT.S,aT.H,av,aY,AL.start,AV.aI,AV.cells,AV.storable,hl,cE,bu,aP]
 rintro S1 H1 ⟨s1,s2,h1,z,h2,hz⟩
 refine SW.seq (SW.mid hG (p:=1) (oh:={ dst:=some 7,op := .makeMap 106 none,type:=106,pos := "letter.go:113",after := #[],guard:=none }) (kY:=[_]) (lJ:=[_,_,_]) (l2:=[2,3,4]) rfl rfl rfl rfl (by kernel_rfl) rfl (λ_ h=>h) (lM:=(c79.qb.qa.dl).take 1) (kP:=(c79.qb.qa.dl).drop 2) (by kernel_rfl) (by kernel_rfl) (by kernel_rfl) (by kernel_rfl)
  (K1:=λS' H'=>S' 1=.box 1 0/\S' 2=.box 2 0/\S' 6=.agg (sA.map AV.aI)/\H' 1=some (sA.map AV.aI)/\H' 2=some z)
  (K2:=λo S' H'=>∃b,o=oM cc w b #[] 0/\S' 1=.box 1 0/\S' 2=.box 2 0/\S' 6=.agg (sA.map AV.aI)/\S' 7=.val (.map (some b))/\H' 1=some (sA.map AV.aI)/\H' 2=some z)
  (K3:=λo S' H'=>∃b,o=oM cc w b #[] 0/\S' 1=.box 1 0/\S' 2=.box 2 0/\S' 3=.box 3 0/\H' 1=some (sA.map AV.aI)/\H' 2=some z/\H' 3=some (sA.map AV.aI++[.val (.map (some b))])) ?_ ?_ ?_ ?_)
 .have ht:List.take 10 (sA.map AV.aI)=sA.map AV.aI:=afh (by simp;omega);simp[c79,af.qa,af.qb,af.dl,bj,aD,bf,aL,ev,aT.S,aT.H,av,aY,ck,s1,s2,h1,h2,HR.okB,hl,fD,ht]
 .rintro w0 g S2 H2 a w2 ho R ⟨s1,s2,s6,h1,h2⟩;have R2:=R.kA (.map #[] 0);refine⟨_,_,_,av S2 7 (.val (.map (some w2.heap.size))),H2,.inl (run_makeMap rfl),R2.put 7 (.val (.map (some w2.heap.size))) _ (by decide) (.data _ _ (.val _ rfl)) trivial,w2.heap.size,?_,by simp[av,s1],by simp[av,s2],by simp[av,s6],by simp[av],h1,h2⟩;show({ g.old with bI:=av g.old.bI w2.heap.size (some (.map #[] 0)) }:Old)=_;rw[ho];rfl
 .rintro o S2 H2 ⟨b,rfl,s1,s2,s6,s7,h1,h2⟩;refine⟨λ_ h=>h,?_⟩
  have sC:∀x∈sA.map AV.aI,x.storable=true:=by
   intro x hx;obtain⟨y,hy,rfl⟩:=afp.1 hx;rw[AV.Ex];exact(kR y hy).1
  have jo:∀c:AV,bo (bo [.slice .nil [],.slice .nil [],.int .i64 0,.int .i64 0,.int .i64 0,.int .i64 0,.int .i64 0,.slice .nil [],.int .i64 0,.int .i64 0,.map [] []] 0 (sA.map AV.aI)) 10 [c]=sA.map AV.aI++[c]:=by
   intro c
   have e1:bo [.slice .nil [],.slice .nil [],.int .i64 0,.int .i64 0,.int .i64 0,.int .i64 0,.int .i64 0,.slice .nil [],.int .i64 0,.int .i64 0,.map [] []] 0 (sA.map AV.aI)=sA.map AV.aI++[AV.map [] []]:=by
    simp[bo,hl]
   rw[e1];simp[bo,hl]
  have Ym:∀c:AV,bo [.slice .nil [],.slice .nil [],.int .i64 0,.int .i64 0,.int .i64 0,.int .i64 0,.int .i64 0,.slice .nil [],.int .i64 0,.int .i64 0,.map [] []] 0 (sA.map AV.aI++[c])=sA.map AV.aI++[c]:=by
   intro c;simp[bo,hl]
  have uC:(bo [AV.slice .nil [],.slice .nil [],.int .i64 0,.int .i64 0,.int .i64 0,.int .i64 0,.int .i64 0,.slice .nil [],.int .i64 0,.int .i64 0,.map [] []] 0 (sA.map AV.aI)).length=11:=by simp[bo,hl]
  simp[c79,af.qa,af.qb,af.dl,bj,aD,bf,aL,ev,aT.S,aT.H,av,aY,bC,s6,s7,AV.cells,AV.aI,AV.storable,hl,uC,jo]
  have e3:(List.map AV.aI sA++[AV.val (Value.map (some b))]).map AV.aI=List.map AV.aI sA++[AV.val (Value.map (some b))]:=by simp[fD,AV.aI]
  simp[HR.okB,cE,bu,AV.cg,hl,fD,AV.aI,av,h1,h2,s1,s2];simp[bo,hl]
 .rintro o S2 H2 ⟨b,rfl,s1,s2,s3,h1,h2,h3⟩;show SW prog GI 27 none (.seq (.seq _ (.block 0 (.loop _))) (.seq _ .ret)) _ _ _ _;refine SW.seq (dw hG c79.qb.qb.qa.qa (λS' H'=>S' 2=.box 2 0/\S' 3=.box 3 0/\S' 10=.slice .view (ps.map cZ)/\S' 11=.int .i64 ps.length/\S' 12=.int .i64 0/\H' 2=some z/\H' 3=some (sA.map AV.aI++[.val (.map (some b))])) ?_ ?_)
  .have EA:(sA.map AV.aI)[1]?=some (.slice .view (ps.map cZ)):=by rw[afG,uI];rfl
   simp[c79,af.qa,af.qb,bO,bj,aD,bf,aL,aP,ev,aT.S,aT.H,av,aY,ck,s1,s2,s3,h1,h2,h3,HR.okB,EA,AV.aI]
  rintro S3 H3 ⟨s2,s3,bw,bn,bJ,h2,h3⟩
  refine SW.block (SW.loop (λo S' H'=>∃j es clock,j<=ps.length/\o=oM cc w b es clock/\Pl es (ps.take j)/\S' 2=.box 2 0/\S' 3=.box 3 0/\S' 10=.slice .view (ps.map cZ)/\S' 11=.int .i64 ps.length/\S' 12=.int .i64 (j:Nat)/\H' 2=some z/\H' 3=some (sA.map AV.aI++[.val (.map (some b))]))
   (λS' _=>match S' 12 with|.int _ j=>ps.length-j.toNat|_=>0) ⟨0,#[],0,afK _,rfl,⟨by simp,λi h=>by simp at h⟩,s2,s3,bw,bn,bJ,h2,h3⟩ ?_)
  rintro o S4 H4 ⟨j,es,clock,hj,rfl,mN,s2,s3,bw,bn,bJ,h2,h3⟩;have m12:=bJ;show SW prog GI 27 none (.seq _ (.seq (.cond _ _ _) (.seq (.block 1 (.seq _ _)) _))) _ _ _ _;refine dw hG c79.qb.qb.qa.qb.qb.qb.qa (λS' H'=>S' 13=.bool (decide (j<ps.length))/\zp sA ps z b j S' H') ?_ ?_
  .simp[c79,af.qa,af.qb,bO,bj,aD,bf,aL,aP,ev,aT.S,aT.H,av,aY,zp,s2,s3,bw,bn,bJ,h2,h3,dI]
  rintro S5 H5 ⟨b0,hF⟩
  by_cases aw:j<ps.length
  case neg=>
   refine SW.seq (SW.cond rfl false (by show S5 13=_;rw[b0];simp[aw]) (SW.exit ?_))
   have lj:j=ps.length:=by omega
   subst lj;rw[afS]at mN;obtain⟨s2,s3,bw,bn,bJ,h2,h3⟩:=hF;show SW prog GI 27 none (.seq _ .ret) _ _ _ _;refine dw hG c79.qb.qb.qb.qa (λS' H'=>S' 2=.box 2 0/\H' 2=some (sA.map AV.aI++[.val (.map (some b))])) ?_ ?_
   .have e3:(List.map AV.aI sA++[AV.val (Value.map (some b))]).map AV.aI=List.map AV.aI sA++[AV.val (Value.map (some b))]:=by simp[fD,AV.aI]
    have ht:List.take 11 (List.map AV.aI sA++[AV.val (Value.map (some b))])=List.map AV.aI sA++[AV.val (Value.map (some b))]:=afh (by simp[hl]);have LC:List.drop 11 z=[]:=agx (by omega);simp[c79,af.qa,af.qb,bO,bj,aD,bf,aL,aP,ev,aT.S,aT.H,av,aY,s2,s3,h2,h3,ck,HR.okB,hl,AV.cells,AV.storable,AV.cg,bo,bu,fD,AV.aI,ht,hz,LC]
   rintro S6 H6 ⟨s2,h2⟩;refine SW.ghost (K:=λo S' H'=>eD o/\o.c=cc/\S' 2=.box 2 0/\H' 2=some (sA.map AV.aI++[bl ps])) ?_ ?_
   .intro w0 g a w' hg R
    have hk:g.old.bI b=some (.map es clock):=by rw[hg];show av (λ_=>none) b _ b=_;exact bm _ _ _
    obtain⟨g2,lv,R2⟩:=R.O1 hk (ps.map mQ) (ps.map j0) (by simpa using mN.1.symm) (by simpa using mN.1.symm) (λi h h'=>by
     simp only[afi]at h;simp only[afl,(mN.2 i h' h).1]
     exact CM _ _) (λi h h'=>by
     simp only[afi]at h;simp only[afl,(mN.2 i h' h).2]
     exact CM _ _) (by rw[hg];rfl)
    refine⟨g2,_,_,R2,eD.plain (by rw[lv,hg];rfl),by rw[lv,hg];rfl,by simp[s2],?_⟩
    have We:(sA.map AV.aI).map (CI b (ps.map mQ) (ps.map j0))=sA.map AV.aI:=by
     rw[af1]
     exact agi λx hx=>Cr (kR x hx).2
    show(H6 2).map _=_;rw[h2];simp only[Option.map_some,afu,We,afv,afB];simp[CI,bl]
   .rintro o S7 H7 ⟨hm,hc,s2,h2⟩;obtain⟨i103,Lr,MV⟩:=bh (P:=prog) (t:=108) (s:=11) (by kernel_rfl);obtain⟨fs,eQ⟩:=bV (P:=prog) (t:=108) (by kernel_rfl);refine SW.ret ⟨hm,hc,_,?_,rfl⟩;show cw prog 27 [.cell 2 108] S7 H7=_;have ht:List.take 11 (sA.map AV.aI++[bl ps])=sA.map AV.aI++[bl ps]:=afh (by simp[hl]);have jo:(bl ps).aI=bl ps:=rfl;have yN:(bl ps).cm=bl ps:=rfl;simp[cw,cH,cI,s2,h2,Lr,eQ,MV,ck,fg,hl,AV.out,jo,yN,fD,kJ];exact afh (by simp[hl])
  case pos=>
   refine SW.seq (SW.cond rfl true (by show S5 13=_;rw[b0];simp[aw]) (SW.skip ?_));show SW prog GI 27 none (.seq (.block 1 (.seq _ _)) _) _ _ _ _;obtain⟨s2,s3,bw,bn,bJ,h2,h3⟩:=hF;refine SW.seq (SW.block (dw hG c79.qb.qb.qa.qb.qb.qb.qb.qb.qa.qb.qa (λS' H'=>S' 5=.box 5 0/\H' 5=some (cZ ps[j]).cells/\zp sA ps z b j S' H') ?_ ?_))
   .have dO:¬(j:Int)<0:=by omega
    simp[c79,af.qa,af.qb,bO,bj,aD,bf,aL,aP,ev,aT.S,aT.H,av,aY,zp,s2,s3,bw,bn,bJ,h2,h3,aw,ck,cZ,AV.cells,AV.aI,cE,HR.okB,AV.storable,bo,AV.cg,bu]
   rintro S6 H6 ⟨s5,h5,s2,s3,bw,bn,bJ,h2,h3⟩
   have LU:∀q∈ps.take j,¬(q.l=ps[j].l/\q.r=ps[j].r):=by
    intro q hq;obtain⟨i,hi,rfl⟩:=afD hq
    have oP:i<j:=by simp at hi;omega
    rw[ag9];exact l7 i j (by omega) aw oP
   refine SW.mid hG (p:=9) (oh:={ dst:=none,op := .mapUpdate 106 (.tmp 17) (.tmp 22) (.tmp 24),type:=0,pos := "letter.go:115",after:=_,guard:=none }) (kY:=[_,_,_,_,_,_,_,_,_]) (lJ:=[]) (l2:=[]) rfl rfl rfl rfl (by kernel_rfl) rfl (λ_ h=>h) (lM:=(pZ.qa.qb.qb.dl).take 9) (kP:=[]) (by kernel_rfl) rfl (by kernel_rfl) rfl
    (K1:=λS' H'=>S' 17=.val (.map (some b))/\S' 22=.agg [.int .i64 ps[j].l,.int .i64 ps[j].r]/\S' 24=.agg [.int .i64 ps[j].lo,.int .i64 ps[j].hi]/\zp sA ps z b j S' H')
    (K2:=λo S' H'=>o=oM cc w b (es.push { key:=.agg #[.int .i64 ps[j].l,.int .i64 ps[j].r],val:=.agg #[.int .i64 ps[j].lo,.int .i64 ps[j].hi],born:=clock }) (clock+1)/\zp sA ps z b j S' H')
    (K3:=λo S' H'=>o=oM cc w b (es.push { key:=.agg #[.int .i64 ps[j].l,.int .i64 ps[j].r],val:=.agg #[.int .i64 ps[j].lo,.int .i64 ps[j].hi],born:=clock }) (clock+1)/\zp sA ps z b j S' H') ?_ ?_ ?_ ?_
   .have Rv:(List.map AV.aI sA++[AV.val (Value.map (some b))])[10]? = some (.val (.map (some b))):=by
     rw[ahr (by simp[hl])];simp[hl]
    have Rb:List.drop 10 (List.map AV.aI sA++[AV.val (Value.map (some b))])=[AV.val (Value.map (some b))]:=by
     rw[ag3 (by simp[hl]),agx (by simp[hl])];rfl
    simp[c79,pZ,af.qa,af.qb,af.dl,bj,aD,bf,aL,ev,aT.S,aT.H,av,aY,zp,s2,s3,s5,bw,bn,bJ,h2,h3,h5,ck,cZ,AV.cells,AV.aI,HR.okB,AV.storable,bC,bo,Rv,Rb]
   .rintro w0 g S7 H7 a w7 hg R ⟨iI,qA,rm,hF⟩;have t17:=R.slot 17 (by decide) (λh=>h);rw[iI]at t17;have t17:=t17.eU;have t22:=R.slot 22 (by decide) (λh=>h);rw[qA]at t22;have t22:=AD t22;have t24:=R.slot 24 (by decide) (λh=>h);rw[rm]at t24;have t24:=AD t24
    have hk:g.old.bI b=some (.map es clock):=by rw[hg];show av (λ_=>none) b _ b=_;exact bm _ _ _
    have hb:=(R.kept b _ hk).2.1;have mJ:=Ck (P:=prog) (t:=106) (kt:=175) (el:=26) (by kernel_rfl);obtain⟨fs,eQ⟩:=bV (P:=prog) (t:=175) (by kernel_rfl);have tr:(ps.take j).length=es.size:=mN.1.symm;refine⟨undef,_,_,S7,H7,.inr ⟨JE (Pr:=λ_ _=>False) (ks:=(ps.take j).map mQ) (vs:=(ps.take j).map j0) (key:=[ps[j].l,ps[j].r]) rfl mJ eQ (k:=2) (by kernel_rfl) t17 t22 t24 hb rfl (by simpa using tr) (by simpa using tr) (λi h h'=>?_) (λi h h'=>?_) (rQ _ _ _ LU),rfl⟩,R.m_ hk _,?_,hF⟩
    .simp only[afi]at h;simp only[afl,(mN.2 i h' h).1];exact CM _ _
    .simp only[afi]at h;simp only[afl,(mN.2 i h' h).2];exact CM _ _
    .show({ g.old with bI:=av g.old.bI b _ }:Old)=_;rw[hg];simp only[oM,Old.mk.injEq,aiu,ah_]
     funext c
     by_cases hc:c=b
     .subst hc;simp[av,CJ]
     .simp[av,hc]
   .rintro o S7 H7 h;exact⟨by rw[h.1];exact λ_ h=>h,h⟩
   .rintro o S7 H7 ⟨rfl,s2,s3,bw,bn,bJ,h2,h3⟩;show SW prog GI 27 none _ _ _ _ _;refine SW.nz hG cC (by kernel_rfl) (λ_ _ h=>h) (ac:=af.qb pZ) (by kernel_rfl) ?_;have nk:IntKind.i64.wrap ((j:Int)+1)=j+1:=aN (by omega)
    have MN:Pl (es.push { key:=.agg #[.int .i64 ps[j].l,.int .i64 ps[j].r],val:=.agg #[.int .i64 ps[j].lo,.int .i64 ps[j].hi],born:=clock }) (ps.take (j+1)):=by
     have VU:ps.take (j+1)=ps.take j++[ps[j]]:=by rw[afd aw]
     rw[VU];refine⟨by simp[mN.1];omega,λi h h'=>?_⟩
     by_cases hi:i<es.size
     .have nc:i<(ps.take j).length:=by rw[<-mN.1];exact hi
      have:=mN.2 i hi nc;rw[Array.getElem_push_lt hi,afz nc];exact this
     .have JO:i=es.size:=by simp at h;omega
      subst JO
      have nc:(ps.take j).length<=es.size:=by rw[<-mN.1];exact afg _
      rw[Array.getElem_push_eq,af2 nc];simp
    simp[c79,pZ,af.qa,af.qb,bO,bj,aD,bf,aL,ev,aT.S,aT.H,av,aY,s2,s3,bw,bn,bJ,h2,h3,dI,AV.aI,nk,mL.bO,thenS];refine⟨⟨j+1,aw,_,⟨_,rfl⟩,MN,by omega⟩,?_⟩;rw[m12];show ps.length-(j+1)<ps.length-(j:Int).toNat;rw[Int.toNat_natCast];omega
structure Word where
 aG:List Int
 bD:List Int
 free:Bool
def bW(w:Word):AV:=.agg [vI w.aG,vI w.bD,.bool w.free]
structure RB where
 Iz:List AV
 cut:Bool
def xM(l:RB):AV:=.agg [.slice .view l.Iz,.bool l.cut]
def ML(GI:World->Prop):Prop:=∀w,GI w->∃m,w.cell? ⟨1,0,none⟩=some (.int .i64 m)
theorem iW{w0:World}{n:Nat}{g:Gh}{S:aF}{H:aK}{a:Act}{w:World}(R:Rel prog w0 n dU g S H a w){t i:Nat}(ht:t<n)(hs:S t=.box i 0):∃b,g.al i=some b/\a.tmps.getD t undef=.pointer (some ⟨b,0,none⟩):=by
 have h:=R.slot t ht id;rw[hs]at h;generalize a.tmps.getD t undef=c at h
 cases h with
 |data _ _ h=>cases h
 |box _ _ b h=>exact⟨b,h,rfl⟩
theorem nY{w0:World}{n:Nat}{g:Gh}{S:aF}{H:aK}{a:Act}{w:World}(R:Rel prog w0 n dU g S H a w){t:Nat}{k:Int}(ht:t<n)(hs:S t=.int .i64 k):a.tmps.getD t undef=.int .i64 k:=by
 have h:=R.slot t ht id;rw[hs]at h;exact h.int_eq
theorem MD{Pr:Nat->Nat->Prop}{al:Nat->Option Nat}{w:World}{x y:Int}{c:Value}(h:RV Pr al w (.agg [.int .i64 x,.int .i64 y]) c):c=.agg #[.int .i64 x,.int .i64 y]:=by
 cases h with
 |data _ _ h=>
  cases h with
  |agg cs vs hl pV hr=>
   have hs:vs.size=2:=by rw[<-hl];rfl
   have h0:=(RV.data (al:=cd) _ _ (hr 0 (by simp) (by omega))).int_eq;have h1:=(RV.data (al:=cd) _ _ (hr 1 (by simp) (by omega))).int_eq
   congr 1
   apply agp
   .simpa using hs
   .intro i h2 h3
    match i,h3 with
    |0,_=>exact h0
    |1,_=>exact h1
end Go.Proofs.Tryz
namespace Go.AL
def fu(c:UInt8):List UInt8->List (List UInt8)
 |[]=>[[]]
 |b::l=>if b=c then[]::fu c l else match fu c l with
  |[]=>[[b]]
  |p::ps=>(b::p)::ps
theorem xq{b c:UInt8}(h:b≠c)(k:Nat)(l:List UInt8):Lib.splitK [c] 0 k (b::l)=match Lib.splitK [c] 0 k l with|[]=>[[b]]|p::ps=>(b::p)::ps:=by
 cases k with
 |zero=>rfl
 |succ k=>
  have hp:[c].isPrefixOf (b::l)=false:=by simp[List.isPrefixOf];exact λe=>(h e.symm).elim
  unfold Lib.splitK
  have hi:Lib.index (b::l) [c]=if Lib.index l [c]== -1 then-1 else Lib.index l [c]+1:=by
   rw[Lib.index];simp[hp]
  rw[hi];have hg:=Lib.index_ge l [c]
  by_cases h1:Lib.index l [c]= -1
  .simp[h1]
  .have h2:(Lib.index l [c]== -1)=false:=by simpa using h1
   have h3:(Lib.index l [c]+1== -1)=false:=by simp;omega
   simp only[h2,afj,afx,h3]
   have e:(Lib.index l [c]+1).toNat=(Lib.index l [c]).toNat+1:=by omega
   rw[e];simp[Nat.add_right_comm]
theorem qE(c:UInt8):∀l:List UInt8,Lib.splitK [c] 0 (l.count c) l=fu c l
 |[]=>rfl
 |b::l=>by
  by_cases h:b=c
  .subst h
   have hp:[b].isPrefixOf (b::l)=true:=by simp[List.isPrefixOf]
   have hi:Lib.index (b::l) [b]=0:=by rw[Lib.index];simp[hp]
   rw[List.count_cons_self,Lib.splitK,hi];simp[fu,qE b l]
  .rw[List.count_cons_of_ne h,xq h,qE c l,fu,if_neg h]
def mS{α:Type}(d:AV->Option α):List AV->Option (List α)
 |[]=>some []
 |x::l=>match d x with
  |some a=>match mS d l with
   |some r=>some (a::r)
   |none=>none
  |none=>none
def zV:AV->Option Int
 |.int .i64 n=>some n
 |_=>none
def IY:AV->Option (List Int)
 |.slice .view es=>mS zV es
 |_=>none
section
variable{P:Program}{GI:World->Prop}
def kO(P:Program)(GI:World->Prop)(rest:List fw)(K:aF->aK->Prop)(Qp:AV->Prop)(S:aF)(dst:Option Nat)(H:aK)(v:AV):Prop:=bj P GI rest K Qp (aY S dst v) H
def kD(P:Program)(GI:World->Prop)(rest:List fw)(K:aF->aK->Prop)(S:aF)(dst:Option Nat)(H:aK)(v:AV):Prop:=eB P GI rest K (aY S dst v) H
def fQ(P:Program)(GI:World->Prop)(y:af)(Q:ft->aF->aK->Prop)(e:ft)(S:aF)(H:aK):Prop:=cV (bO P GI y Q) Q e S H
def iu(Q:ft->aF->aK->Prop)(S:aF)(H:aK)(v:AV):Prop:=Q (.panic v) S H
theorem dK(K Qp S H):bj P GI [] K Qp S H=K S H:=(Eq.refl _).trans (Eq.refl _)
theorem dj(K S H):eB P GI [] K S H=K S H:=(Eq.refl _).trans (Eq.refl _)
theorem di (f args d g rest K Qp S H):bj P GI (⟨d,g,.call f args⟩::rest) K Qp S H=(match aD S g with
  |some true=>mH P GI f (args.map λy=>fz H (ev S y)) (args.any λy=>du (ev S y)) (kO P GI rest K Qp S d H) Qp
  |some false=>bj P GI rest K Qp (aY S d cG) H
  |none=>False):=(Eq.refl _).trans (Eq.refl _)
theorem cQ (f args d g rest K Qp S H):bj P GI (⟨d,g,.nP f args⟩::rest) K Qp S H=(match aD S g with
  |some true=>(match ev S f with
   |.func (.func k) first cap=>mH P GI k ((first++args.map (ev S)++cap).map (fz H)) ((first++args.map (ev S)++cap).any du) (kO P GI rest K Qp S d H) Qp
   |_=>False)
  |some false=>bj P GI rest K Qp (aY S d cG) H
  |none=>False):=(Eq.refl _).trans (Eq.refl _)
abbrev OE(P:Program)(GI:World->Prop)(op:nj):Prop:=∀d g rest K Qp S H,bj P GI (⟨d,g,op⟩::rest) K Qp S H=(match aD S g with|some true=>(match aL S H op with|some e=>bj P GI rest K Qp (e.S S d) (e.H H)|none=>False)|some false=>bj P GI rest K Qp (aY S d cG) H|none=>False)
abbrev DE(P:Program)(GI:World->Prop)(op:nj):Prop:=∀d g rest K S H,eB P GI (⟨d,g,op⟩::rest) K S H=(match aD S g with|some true=>(match aL S H op with|some e=>eB P GI rest K (e.S S d) (e.H H)|none=>False)|some false=>eB P GI rest K (aY S d cG) H|none=>False)
theorem cT(t zero d rest K Qp S H):bj P GI (⟨some d,none,.alloc t zero⟩::rest) K Qp S H=bj P GI rest K Qp (av (λt=>cE d (S t)) d (.box d 0)) (av H d (some zero)):=(Eq.refl _).trans (Eq.refl _)
theorem dL(t size x d rest K Qp S H):bj P GI (⟨some d,none,.box t size x⟩::rest) K Qp S H=((ev S x).cells.length=size/\(ev S x).storable=true/\bj P GI rest K Qp (av (λt=>cE d (S t)) d (.box d 0)) (av H d (some ((ev S x).cells.map AV.aI)))):=(Eq.refl _).trans (Eq.refl _)
theorem cP (f args d g rest K S H):eB P GI (⟨d,g,.call f args⟩::rest) K S H=(match aD S g with
  |some true=>(args.any λy=>du (ev S y))=false/\mH P GI f (args.map λy=>fz H (ev S y)) (args.any λy=>du (ev S y)) (kD P GI rest K S d H) (λ_=>False)
  |some false=>eB P GI rest K (aY S d cG) H
  |none=>False):=(Eq.refl _).trans (Eq.refl _)
theorem ct(t zero d rest K S H):eB P GI (⟨some d,none,.alloc t zero⟩::rest) K S H=eB P GI rest K (av S d (.box d 0)) H:=(Eq.refl _).trans (Eq.refl _)
theorem fF(rest K Qp S d H v):kO P GI rest K Qp S d H v=bj P GI rest K Qp (aY S d v) H:=(Eq.refl _).trans (Eq.refl _)
theorem fE(rest K S d H v):kD P GI rest K S d H v=eB P GI rest K (aY S d v) H:=(Eq.refl _).trans (Eq.refl _)
theorem dY :
  (∀x0 x1,OE P GI (.mv x0 x1))/\
  (∀x0 x1 x2,OE P GI (.pick x0 x1 x2))/\
  (∀x0 x1,OE P GI (.build x0 x1))/\
  (∀x0 x1 x2 x3,OE P GI (.buildSlice x0 x1 x2 x3))/\
  (∀x0 x1 x2 x3,OE P GI (.load x0 x1 x2 x3))/\
  (∀x0 x1,OE P GI (.loadT x0 x1))/\
  (∀x0 x1 x2 x3,OE P GI (.store x0 x1 x2 x3))/\
  (∀x0 x1 x2,OE P GI (.bin x0 x1 x2))/\
  (∀x0 x1 x2,OE P GI (.JI x0 x1 x2))/\
  (∀x0 x1 x2 x3,OE P GI (.eqs x0 x1 x2 x3))/\
  (∀x0 x1 x2 x3 x4,OE P GI (.te x0 x1 x2 x3 x4))/\
  (∀x0,OE P GI (.Ef x0))/\
  (∀x0,OE P GI (.uz x0))/\
  (∀x0 x1 x2,OE P GI (.ux x0 x1 x2))/\
  (∀x0 x1 x2 x3,OE P GI (.lookup x0 x1 x2 x3))/\
  (∀x0,OE P GI (.not x0))/\
  (∀x0 x1,OE P GI (.conv x0 x1))/\
  (∀x0 x1,OE P GI (.iface x0 x1))/\
  (∀x0 x1 x2,OE P GI (.JU x0 x1 x2))/\
  (∀x0 x1 x2,OE P GI (.uy x0 x1 x2))/\
  (∀x0 x1 x2 x3,OE P GI (.qz x0 x1 x2 x3))/\
  (∀x0 x1,OE P GI (.uG x0 x1))/\
  (∀x0 x1,OE P GI (.fieldAddr x0 x1))/\
  (∀x0 x1 x2,OE P GI (.indexAddr x0 x1 x2))/\
  (∀x0 x1,OE P GI (.uw x0 x1))/\
  (∀x0 x1,OE P GI (.extract x0 x1))/\
  (∀x0,OE P GI (.Eh x0))/\
  (∀x0,OE P GI (.lO x0))/\
  (∀x0 x1,OE P GI (.isNil x0 x1))/\
  (∀x0,OE P GI (.empty x0))/\
  (∀x0 x1 x2 x3 x4 x5,OE P GI (.append x0 x1 x2 x3 x4 x5))/\
  (∀x0 x1,OE P GI (.max x0 x1))/\
  (∀x0 x1,OE P GI (.min x0 x1))/\
  (∀x0 x1 x2,OE P GI (.assert x0 x1 x2)):=by
 refine⟨?_,?_,?_,?_,?_,?_,?_,?_,?_,?_,?_,?_,?_,?_,?_,?_,?_,?_,?_,?_,?_,?_,?_,?_,?_,?_,?_,?_,?_,?_,?_,?_,?_,?_⟩<;>intros<;>intro d<;>intros<;>rfl
theorem dv :
  (∀x0 x1,DE P GI (.mv x0 x1))/\
  (∀x0 x1 x2,DE P GI (.pick x0 x1 x2))/\
  (∀x0 x1,DE P GI (.build x0 x1))/\
  (∀x0 x1 x2 x3,DE P GI (.buildSlice x0 x1 x2 x3))/\
  (∀x0 x1 x2 x3,DE P GI (.load x0 x1 x2 x3))/\
  (∀x0 x1,DE P GI (.loadT x0 x1))/\
  (∀x0 x1 x2 x3,DE P GI (.store x0 x1 x2 x3))/\
  (∀x0 x1 x2,DE P GI (.bin x0 x1 x2))/\
  (∀x0 x1 x2,DE P GI (.JI x0 x1 x2))/\
  (∀x0 x1 x2 x3,DE P GI (.eqs x0 x1 x2 x3))/\
  (∀x0 x1 x2 x3 x4,DE P GI (.te x0 x1 x2 x3 x4))/\
  (∀x0,DE P GI (.Ef x0))/\
  (∀x0,DE P GI (.uz x0))/\
  (∀x0 x1 x2,DE P GI (.ux x0 x1 x2))/\
  (∀x0 x1 x2 x3,DE P GI (.lookup x0 x1 x2 x3))/\
  (∀x0,DE P GI (.not x0))/\
  (∀x0 x1,DE P GI (.conv x0 x1))/\
  (∀x0 x1,DE P GI (.iface x0 x1))/\
  (∀x0 x1 x2,DE P GI (.JU x0 x1 x2))/\
  (∀x0 x1 x2,DE P GI (.uy x0 x1 x2))/\
  (∀x0 x1 x2 x3,DE P GI (.qz x0 x1 x2 x3))/\
  (∀x0 x1,DE P GI (.uG x0 x1))/\
  (∀x0 x1,DE P GI (.fieldAddr x0 x1))/\
  (∀x0 x1 x2,DE P GI (.indexAddr x0 x1 x2))/\
  (∀x0 x1,DE P GI (.uw x0 x1))/\
  (∀x0 x1,DE P GI (.extract x0 x1))/\
  (∀x0,DE P GI (.Eh x0))/\
  (∀x0,DE P GI (.lO x0))/\
  (∀x0 x1,DE P GI (.isNil x0 x1))/\
  (∀x0,DE P GI (.empty x0))/\
  (∀x0 x1 x2 x3 x4 x5,DE P GI (.append x0 x1 x2 x3 x4 x5))/\
  (∀x0 x1,DE P GI (.max x0 x1))/\
  (∀x0 x1,DE P GI (.min x0 x1))/\
  (∀x0 x1 x2,DE P GI (.assert x0 x1 x2)):=by
 refine⟨?_,?_,?_,?_,?_,?_,?_,?_,?_,?_,?_,?_,?_,?_,?_,?_,?_,?_,?_,?_,?_,?_,?_,?_,?_,?_,?_,?_,?_,?_,?_,?_,?_,?_⟩<;>intros<;>intro d<;>intros<;>rfl
theorem dh :
  (∀Q S H,bO P GI .skip Q S H=Q .normal S H)/\
  (∀l Q S H,bO P GI (.ops l) Q S H=bj P GI l (Q .normal) (iu Q S H) S H)/\
  (∀l Q S H,bO P GI (.eB l) Q S H=eB P GI l (Q .normal) (fV l S) (eG l H))/\
  (∀x y Q S H,bO P GI (.seq x y) Q S H=bO P GI x (fQ P GI y Q) S H)/\
  (∀c x y Q S H,bO P GI (.cond c x y) Q S H=(match ev S c with
   |.bool true=>bO P GI x Q S H
   |.bool false=>bO P GI y Q S H
   |.JJ=>bO P GI x Q S H/\bO P GI y Q S H
   |_=>False))/\
  (∀id c Q S H,bO P GI (.block id c) Q S H=bO P GI c (db id Q) S H)/\
  (∀id Q S H,bO P GI (.exit id) Q S H=Q (.exit id) S H)/\
  (∀Q S H,bO P GI .ret Q S H=Q .ret S H)/\
  (∀y Q S H,fQ P GI y Q .normal S H=bO P GI y Q S H)/\
  (∀y Q id S H,fQ P GI y Q (.exit id) S H=Q (.exit id) S H)/\
  (∀y Q S H,fQ P GI y Q .ret S H=Q .ret S H)/\
  (∀y Q v S H,fQ P GI y Q (.panic v) S H=Q (.panic v) S H):=by
 refine⟨?_,?_,?_,?_,?_,?_,?_,?_,?_,?_,?_,?_⟩<;>intros<;>rfl
theorem eE :
  (∀id Q S H,db id Q .normal S H=Q .normal S H)/\
  (∀id j Q S H,db id Q (.exit j) S H=if j=id then Q .normal S H else Q (.exit j) S H)/\
  (∀id Q S H,db id Q .ret S H=Q .ret S H)/\
  (∀id Q v S H,db id Q (.panic v) S H=Q (.panic v) S H)/\
  (∀K Q S H,cV K Q .normal S H=K S H)/\
  (∀K Q id S H,cV K Q (.exit id) S H=Q (.exit id) S H)/\
  (∀K Q S H,cV K Q .ret S H=Q .ret S H)/\
  (∀K Q v S H,cV K Q (.panic v) S H=Q (.panic v) S H)/\
  (∀K S H,aP K .normal S H=K S H)/\
  (∀K id S H,aP K (.exit id) S H=False)/\
  (∀K S H,aP K .ret S H=False)/\
  (∀K v S H,aP K (.panic v) S H=False)/\
  (∀Q S H v,iu Q S H v=Q (.panic v) S H)/\
  (∀v K Qp,iH (.ret v) K Qp=K v)/\
  (∀v K Qp,iH (.panic v) K Qp=Qp v):=by
 refine⟨?_,?_,?_,?_,?_,?_,?_,?_,?_,?_,?_,?_,?_,?_,?_⟩<;>intros<;>rfl
end
section
variable{P:Program}{GI:World->Prop}
theorem rO{f:Nat}{args:List AV}{b:Bool}{K K':AV->Prop}{Qp zm:AV->Prop}(hK:∀v,K v->K' v)(hQ:∀v,Qp v->zm v)(h:mH P GI f args b K Qp):mH P GI f args b K' zm:=by
 obtain⟨out,h1,h2,h3,h4⟩:=h;refine⟨out,h1,h2,h3,?_⟩
 cases out with
 |ret v=>exact hK _ h4
 |panic v=>exact hQ _ h4
theorem jO{op:nj}{dst:Option Nat}{K K':aF->aK->Prop}{Qp zm:AV->Prop}(hK:∀S H,K S H->K' S H)(hQ:∀v,Qp v->zm v){S:aF}{H:aK}(h:bf P GI op dst K Qp S H):bf P GI op dst K' zm S H:=by
 by_cases hc:op.calm=true
 .rw[Hr hc]at h⊢;split at h
  .exact hK _ _ h
  .exact h
 .cases op<;>first|(exfalso;exact hc rfl)|skip
  case alloc=>simp only[bf]at h⊢;split at h<;>first|exact hK _ _ h|exact h
  case box=>simp only[bf]at h⊢;split at h<;>first|exact⟨h.1,h.2.1,hK _ _ h.2.2⟩|exact h
  case call=>exact rO (λv=>hK _ _) hQ h
  case nP=>simp only[bf]at h⊢;split at h<;>first|exact rO (λv=>hK _ _) hQ h|exact h
  case panic=>simp only[bf]at h⊢;split at h<;>first|exact hQ _ h|exact h
  case other=>exact h
theorem mj{K K':aF->aK->Prop}{Qp zm:AV->Prop}(hK:∀S H,K S H->K' S H)(hQ:∀v,Qp v->zm v):∀(l:List fw)(S:aF)(H:aK),bj P GI l K Qp S H->bj P GI l K' zm S H
 |[],S,H,h=>hK S H h
 |o::rest,S,H,h=>by
  simp only[bj]at h⊢;split at h
  .exact jO (λS H=>mj hK hQ rest S H) hQ h
  .exact mj hK hQ rest _ _ h
  .exact h
theorem Ay{op:nj}{dst:Option Nat}{K K':aF->aK->Prop}(hK:∀S H,K S H->K' S H){S:aF}{H:aK}(h:jH P GI op dst K S H):jH P GI op dst K' S H:=by
 cases op
 case alloc=>simp only[jH]at h⊢;split at h<;>first|exact hK _ _ h|exact h
 case call=>exact⟨h.1,jO hK (λ_ h=>h) h.2⟩
 case nP=>exact⟨h.1,jO hK (λ_ h=>h) h.2⟩
 case box=>exact h.elim
 case panic=>exact h.elim
 case other=>exact h.elim
 all_goals
  simp only[jH]at h⊢;exact jO hK (λ_ h=>h) h
theorem po{K K':aF->aK->Prop}(hK:∀S H,K S H->K' S H):∀(l:List fw)(S:aF)(H:aK),eB P GI l K S H->eB P GI l K' S H
 |[],S,H,h=>hK S H h
 |o::rest,S,H,h=>by
  simp only[eB]at h⊢;split at h
  .exact Ay (λS H=>po hK rest S H) h
  .exact po hK rest _ _ h
  .exact h
theorem jr{K K':aF->aK->Prop}{Q Q':ft->aF->aK->Prop}(hK:∀S H,K S H->K' S H)(h:∀e S H,Q e S H->Q' e S H)(e:ft)(S:aF)(H:aK)(hq:cV K Q e S H):cV K' Q' e S H:=by
 cases e with
 |normal=>exact hK S H hq
 |exit id=>exact h _ S H hq
 |ret=>exact h _ S H hq
 |panic v=>exact h _ S H hq
theorem dT:∀(c:af){Q Q':ft->aF->aK->Prop}(_:∀e S H,Q e S H->Q' e S H){S:aF}{H:aK},bO P GI c Q S H->bO P GI c Q' S H
 |.skip,_,_,h,_,_,hq=>h _ _ _ hq
 |.ops l,_,_,h,_,_,hq=>mj (λS H=>h _ S H) (λv=>h _ _ _) l _ _ hq
 |.eB l,_,_,h,_,_,hq=>po (λS H=>h _ S H) l _ _ hq
 |.seq x y,_,_,h,_,_,hq=>dT x (jr (λ_ _=>dT y h) h) hq
 |.cond c x y,_,_,h,S,H,hq=>by
  simp only[bO]at hq⊢;split at hq
  .exact dT x h hq
  .exact dT y h hq
  .exact⟨dT x h hq.1,dT y h hq.2⟩
  .exact hq
 |.block id c,Q,Q',h,_,_,hq=>dT c (fun e S H hb=>by
   cases e with
   |normal=>exact h _ S H hb
   |exit j=>
    by_cases hj:j=id
    .simp only[db,if_pos hj]at hb⊢;exact h _ S H hb
    .simp only[db,if_neg hj]at hb⊢;exact h _ S H hb
   |ret=>exact h _ S H hb
   |panic v=>exact h _ S H hb) hq
 |.loop c,_,_,h,_,_,⟨I,μ,h0,hi⟩=>⟨I,μ,h0,λS H hI=>dT c (jr (λ_ _ h=>h) h) (hi S H hI)⟩
 |.exit id,_,_,h,_,_,hq=>h _ _ _ hq
 |.ret,_,_,h,_,_,hq=>h _ _ _ hq
 |.bad,_,_,_,_,_,hq=>hq
theorem az{x y:af}{Q:ft->aF->aK->Prop}{S:aF}{H:aK}(K:aF->aK->Prop)(hx:bO P GI x (aP K) S H)(hy:∀S' H',K S' H'->bO P GI y Q S' H'):bO P GI (.seq x y) Q S H:=by
 refine dT x (λe S H h=>?_) hx
 cases e with
 |normal=>exact hy S H h
 |exit id=>exact h.elim
 |ret=>exact h.elim
 |panic v=>exact h.elim
theorem xJ{c:pR}{y z:af}{Q:ft->aF->aK->Prop}{S:aF}{H:aK}(h:ev S c=.bool true)(hy:bO P GI y Q S H):bO P GI (.seq (.cond c .skip z) y) Q S H:=by
 simp only[bO,h];exact hy
theorem Ff{c:pR}{y z:af}{Q:ft->aF->aK->Prop}{S:aF}{H:aK}(h:ev S c=.bool false)(hy:bO P GI y Q S H):bO P GI (.seq (.cond c z .skip) y) Q S H:=by
 simp only[bO,h];exact hy
theorem wF{id:Nat}{c y:af}{Q:ft->aF->aK->Prop}{S:aF}{H:aK}(h:bO P GI c (db id (fQ P GI y Q)) S H):bO P GI (.seq (.block id c) y) Q S H:=h
theorem wg{x y z:af}{Q:ft->aF->aK->Prop}{S:aF}{H:aK}(K:aF->aK->Prop)(hx:bO P GI x (aP K) S H)(hy:∀S' H',K S' H'->bO P GI (.seq y z) Q S' H'):bO P GI (.seq (.seq x y) z) Q S H:=by
 refine dT x (λe S H h=>?_) hx
 cases e with
 |normal=>
  refine dT y (λe S H h=>?_) (hy S H h)
  cases e<;>exact h
 |exit id=>exact h.elim
 |ret=>exact h.elim
 |panic v=>exact h.elim
theorem bq {c:af} {Q:ft→aF→aK→Prop} {S:aF} {H:aK} (t n:Nat) (I:Nat→aF→aK→Prop) (CC:∀ i S H,I i S H→S t = .int .i64 (i:Nat)) (h0:I 0 S H)
  (hs:∀i,i<=n->∀S H,I i S H->bO P GI c (cV (λS' H'=>i<n/\I (i+1) S' H') Q) S H):bO P GI (.loop c) Q S H:=by
 refine⟨λS H=>∃i,i<=n/\I i S H,λS _=>match S t with|.int _ k=>n-k.toNat|_=>0,⟨0,afK _,h0⟩,?_⟩;rintro S H ⟨i,hi,hI⟩;refine dT c (jr (λS' H' h=>?_) (λ_ _ _ h=>h)) (hs i hi S H hI);refine⟨⟨i+1,h.1,h.2⟩,?_⟩;have e1:=CC _ _ _ hI;have e2:=CC _ _ _ h.2;simp only[e1,e2,Int.toNat_natCast];have:=h.1;omega
end
def firstT{α:Type}(p:α->Bool)(l:List α):Int:=if l.any p then(l.findIdx p:Nat)else-1
theorem kG {α:Type} {p:α→Bool} {l:List α} {i:Nat} (hi:i < l.length) (hp:p l[i]=true) (hb:∀ j (hj:j < l.length),j < i→p l[j]=false):firstT p l=(i:Nat):=by
  unfold firstT;rw[if_pos (ag2.2 ⟨l[i],ae_ hi,hp⟩),(List.findIdx_eq hi).2 ⟨hp,λj lg=>hb j (by omega) lg⟩]
theorem ir {α:Type} {p:α→Bool} {l:List α} (hb:∀ j (hj:j < l.length),p l[j]=false):firstT p l = -1:=by
  unfold firstT;rw[if_neg];intro h;obtain⟨x,hx,hp⟩:=ag2.1 h;obtain⟨j,hj,rfl⟩:=afD hx;rw[hb j hj]at hp;cases hp
theorem iY {α:Type} {p:α→Bool} {l:List α}:decide (0≤firstT p l)=l.any p:=by
  unfold firstT
  cases h:l.any p<;>simp
def iS{α:Type}(p:α->Bool)(lt:α->α->Bool)(l:List α):Bool:=l.all p&&(List.range (l.length-1)).all λi=>match l[i]?,l[i+1]? with|some a,some b=>lt a b|_,_=>true
theorem ka{α:Type}{p:α->Bool}{lt:α->α->Bool}{l:List α}{i:Nat}(hi:i<l.length)(hp:p l[i]=false):iS p lt l=false:=by
 unfold iS;rw[agG];exact .inl (ahd.2 ⟨_,ae_ hi,by simp[hp]⟩)
theorem jT{α:Type}{p:α->Bool}{lt:α->α->Bool}{l:List α}{i:Nat}(hi:i+1<l.length)(hp:lt (l[i]'(by omega)) l[i+1]=false):iS p lt l=false:=by
 unfold iS;rw[agG];refine .inr (ahd.2 ⟨i,afE.2 (by omega),?_⟩);simp[hi,show i<l.length by omega,hp]
theorem l6{α:Type}{p:α->Bool}{lt:α->α->Bool}{l:List α}(h1:∀j (hj:j<l.length),p l[j]=true)(h2:∀j (hj:j+1<l.length),lt (l[j]'(by omega)) l[j+1]=true):iS p lt l=true:=by
 unfold iS;rw[afa]
 constructor
 .rw[afC];intro x hx;obtain⟨j,hj,rfl⟩:=afD hx;exact h1 j hj
 .rw[afC];intro j hj;rw[afE]at hj;simp[show j<l.length by omega,show j+1<l.length by omega,h2 j (by omega)]
theorem qh{α:Type}{p:α->Bool}{l:List α}(h:∀j (hj:j<l.length),p l[j]=true):l.all p=true:=by
 rw[afC];intro x hx;obtain⟨j,hj,rfl⟩:=afD hx;exact h j hj
theorem nM{α:Type}{p:α->Bool}{l:List α}{i:Nat}(hi:i<l.length)(hp:p l[i]=false):l.all p=false:=ahd.2 ⟨_,ae_ hi,by simp[hp]⟩
theorem mB{α:Type}(p:α->Bool)(l:List α):(!(l.any λx=>!p x))=l.all p:=by
 induction l with
 |nil=>rfl
 |cons a l ih=>simp[List.any_cons,List.all_cons,<-ih]
theorem jw{α:Type}{p:α->Bool}{l:List α}{i:Nat}(hi:i<l.length)(hb:∀j (hj:j<l.length),j<i->p l[j]=true)(hp:p l[i]=true):∀j (hj:j<l.length),j<i+1->p l[j]=true:=by
 intro j hj lg
 by_cases e:j=i
 .subst e;exact hp
 .exact hb j hj (by omega)
theorem pW{α:Type}{lt:α->α->Bool}{l:List α}{k:Nat}(hi:k+1<l.length)(hb:∀j (hj:j+1<l.length),j+1<k+1->lt (l[j]'(by omega)) l[j+1]=true)(hp:lt (l[k]'(by omega)) l[k+1]=true):∀j (hj:j+1<l.length),j+1<k+1+1->lt (l[j]'(by omega)) l[j+1]=true:=by
 intro j hj lg
 by_cases e:j=k
 .subst e;exact hp
 .exact hb j hj (by omega)
section
variable{P:Program}{GI:World->Prop}
theorem vo {c:af} {Q:ft→aF→aK→Prop} {S:aF} {H:aK} (t a n:Nat) (I:Nat→aF→aK→Prop) (ha:a≤n) (CC:∀ i S H,I i S H→S t = .int .i64 (i:Nat)) (h0:I a S H)
  (hs:∀i,a<=i->i<=n->∀S H,I i S H->bO P GI c (cV (λS' H'=>i<n/\I (i+1) S' H') Q) S H):bO P GI (.loop c) Q S H:=by
 refine⟨λS H=>∃i,a<=i/\i<=n/\I i S H,λS _=>match S t with|.int _ k=>n-k.toNat|_=>0,⟨a,afg _,ha,h0⟩,?_⟩;rintro S H ⟨i,h1,hi,hI⟩;refine dT c (jr (λS' H' h=>?_) (λ_ _ _ h=>h)) (hs i h1 hi S H hI);refine⟨⟨i+1,by omega,h.1,h.2⟩,?_⟩;have e1:=CC _ _ _ hI;have e2:=CC _ _ _ h.2;simp only[e1,e2,Int.toNat_natCast];have:=h.1;omega
end
theorem AC.g_{P:Program}{GI:World->Prop}{f:Nat}{args:List AV}{o:Ow}{es:List AV}(h:AC P GI f args (.ret (.slice o es))):AC P GI f args (.ret (.slice .view es)):=by
 intro w old dH h1 h2 h3;refine(h w old dH h1 h2 h3).mono ?_;rintro e w' ⟨hb,hi,h0,c,rfl,hv,_⟩;refine⟨hb,hi,h0,c,rfl,?_,trivial⟩
 cases hv with
 |data _ _ h=>exact .data _ _ (Go.Proofs.Tryz.RD.Ak h)
theorem jS(l:List Int):aM 1 (ints l)=true:=by simp[aM,ints,AV.storable,AV.cells]
def grown(l:List Int):AV:=.slice (if l.isEmpty then .nil else .own 3) (ints l)
theorem eF{α:Type}{p:α->Bool}{lt:α->α->Bool}{l:List α}:iS p lt l=true↔(∀x∈l,p x=true)/\∀j (hj:j+1<l.length),lt (l[j]'(by omega)) l[j+1]=true:=by
 unfold iS;rw[afa,afC,afC]
 constructor
 .rintro⟨h1,h2⟩;refine⟨h1,λj hj=>?_⟩;have:=h2 j (afE.2 (by omega));simpa[show j<l.length by omega,hj]using this
 .rintro⟨h1,h2⟩;refine⟨h1,λj hj=>?_⟩;rw[afE]at hj;have:=h2 j (by omega);simpa[show j<l.length by omega,show j+1<l.length by omega]using this
theorem AX{l:List Int}(h:∀j (hj:j+1<l.length),l[j]<l[j+1]):l.Pairwise λa b=>a<b:=by
 rw[af_];intro i j hi hj oP
 obtain⟨d,rfl⟩:∃d,j=i+1+d:=⟨j-i-1,by omega⟩
 clear oP
 induction d with
 |zero=>exact h i hj
 |succ d ih=>
  have h1:=ih (by omega);have h2:=h (i+1+d) hj;exact Int.lt_trans h1 h2
section
variable{P:Program}{GI:World->Prop}
theorem wq {c:af} {Q:ft→aF→aK→Prop} {S:aF} {H:aK} (t n:Nat) (I:Nat→aF→aK→Prop) (CC:∀ i S H,I i S H→S t = .int .i64 ((i:Nat) - 1)) (h0:I n S H)
  (hs:∀i,i<=n->∀S H,I i S H->bO P GI c (cV (λS' H'=>0<i/\I (i-1) S' H') Q) S H):bO P GI (.loop c) Q S H:=by
 refine⟨λS H=>∃i,i<=n/\I i S H,λS _=>match S t with|.int _ k=>(k+1).toNat|_=>0,⟨n,afg _,h0⟩,?_⟩;rintro S H ⟨i,hi,hI⟩;refine dT c (jr (λS' H' h=>?_) (λ_ _ _ h=>h)) (hs i hi S H hI);refine⟨⟨i-1,by omega,h.2⟩,?_⟩;have e1:=CC _ _ _ hI;have e2:=CC _ _ _ h.2;simp only[e1,e2];have:=h.1;omega
end
section
variable{P:Program}{GI:World->Prop}
theorem pG :
  (∀x0 x1,OE P GI (.mv x0 x1))/\
  (∀x0 x1 x2,OE P GI (.pick x0 x1 x2))/\
  (∀x0 x1,OE P GI (.build x0 x1))/\
  (∀x0 x1 x2 x3,OE P GI (.buildSlice x0 x1 x2 x3))/\
  (∀x0 x1 x2 x3,OE P GI (.load x0 x1 x2 x3))/\
  (∀x0 x1,OE P GI (.loadT x0 x1))/\
  (∀x0 x1 x2 x3,OE P GI (.store x0 x1 x2 x3))/\
  (∀x0 x1 x2,OE P GI (.bin x0 x1 x2))/\
  (∀x0 x1 x2,OE P GI (.JI x0 x1 x2))/\
  (∀x0 x1 x2 x3,OE P GI (.eqs x0 x1 x2 x3))/\
  (∀x0 x1 x2 x3 x4,OE P GI (.te x0 x1 x2 x3 x4))/\
  (∀x0,OE P GI (.Ef x0))/\
  (∀x0,OE P GI (.uz x0))/\
  (∀x0 x1 x2,OE P GI (.ux x0 x1 x2))/\
  (∀x0 x1 x2 x3,OE P GI (.lookup x0 x1 x2 x3))/\
  (∀x0,OE P GI (.not x0))/\
  (∀x0 x1,OE P GI (.conv x0 x1))/\
  (∀x0 x1,OE P GI (.iface x0 x1))/\
  (∀x0 x1 x2,OE P GI (.JU x0 x1 x2))/\
  (∀x0 x1 x2,OE P GI (.uy x0 x1 x2))/\
  (∀x0 x1 x2 x3,OE P GI (.qz x0 x1 x2 x3))/\
  (∀x0 x1,OE P GI (.uG x0 x1))/\
  (∀x0 x1,OE P GI (.fieldAddr x0 x1))/\
  (∀x0 x1 x2,OE P GI (.indexAddr x0 x1 x2))/\
  (∀x0 x1,OE P GI (.uw x0 x1))/\
  (∀x0 x1,OE P GI (.extract x0 x1))/\
  (∀x0,OE P GI (.Eh x0))/\
  (∀x0,OE P GI (.lO x0))/\
  (∀x0 x1,OE P GI (.isNil x0 x1))/\
  (∀x0,OE P GI (.empty x0))/\
  (∀x0 x1,OE P GI (.max x0 x1))/\
  (∀x0 x1,OE P GI (.min x0 x1))/\
  (∀x0 x1 x2,OE P GI (.assert x0 x1 x2)):=by
 refine⟨?_,?_,?_,?_,?_,?_,?_,?_,?_,?_,?_,?_,?_,?_,?_,?_,?_,?_,?_,?_,?_,?_,?_,?_,?_,?_,?_,?_,?_,?_,?_,?_,?_⟩<;>intros<;>intro d<;>intros<;>rfl
theorem nJ :
  (∀x0 x1,DE P GI (.mv x0 x1))/\
  (∀x0 x1 x2,DE P GI (.pick x0 x1 x2))/\
  (∀x0 x1,DE P GI (.build x0 x1))/\
  (∀x0 x1 x2 x3,DE P GI (.buildSlice x0 x1 x2 x3))/\
  (∀x0 x1 x2 x3,DE P GI (.load x0 x1 x2 x3))/\
  (∀x0 x1,DE P GI (.loadT x0 x1))/\
  (∀x0 x1 x2 x3,DE P GI (.store x0 x1 x2 x3))/\
  (∀x0 x1 x2,DE P GI (.bin x0 x1 x2))/\
  (∀x0 x1 x2,DE P GI (.JI x0 x1 x2))/\
  (∀x0 x1 x2 x3,DE P GI (.eqs x0 x1 x2 x3))/\
  (∀x0 x1 x2 x3 x4,DE P GI (.te x0 x1 x2 x3 x4))/\
  (∀x0,DE P GI (.Ef x0))/\
  (∀x0,DE P GI (.uz x0))/\
  (∀x0 x1 x2,DE P GI (.ux x0 x1 x2))/\
  (∀x0 x1 x2 x3,DE P GI (.lookup x0 x1 x2 x3))/\
  (∀x0,DE P GI (.not x0))/\
  (∀x0 x1,DE P GI (.conv x0 x1))/\
  (∀x0 x1,DE P GI (.iface x0 x1))/\
  (∀x0 x1 x2,DE P GI (.JU x0 x1 x2))/\
  (∀x0 x1 x2,DE P GI (.uy x0 x1 x2))/\
  (∀x0 x1 x2 x3,DE P GI (.qz x0 x1 x2 x3))/\
  (∀x0 x1,DE P GI (.uG x0 x1))/\
  (∀x0 x1,DE P GI (.fieldAddr x0 x1))/\
  (∀x0 x1 x2,DE P GI (.indexAddr x0 x1 x2))/\
  (∀x0 x1,DE P GI (.uw x0 x1))/\
  (∀x0 x1,DE P GI (.extract x0 x1))/\
  (∀x0,DE P GI (.Eh x0))/\
  (∀x0,DE P GI (.lO x0))/\
  (∀x0 x1,DE P GI (.isNil x0 x1))/\
  (∀x0,DE P GI (.empty x0))/\
  (∀x0 x1,DE P GI (.max x0 x1))/\
  (∀x0 x1,DE P GI (.min x0 x1))/\
  (∀x0 x1 x2,DE P GI (.assert x0 x1 x2)):=by
 refine⟨?_,?_,?_,?_,?_,?_,?_,?_,?_,?_,?_,?_,?_,?_,?_,?_,?_,?_,?_,?_,?_,?_,?_,?_,?_,?_,?_,?_,?_,?_,?_,?_,?_⟩<;>intros<;>intro d<;>intros<;>rfl
theorem ai(x0 x1 x2 x3 x4 x5):OE P GI (.append x0 x1 x2 x3 x4 x5):=dY.2.2.2.2.2.2.2.2.2.2.2.2.2.2.2.2.2.2.2.2.2.2.2.2.2.2.2.2.2.2.1 x0 x1 x2 x3 x4 x5
theorem ah(x0 x1 x2 x3 x4 x5):DE P GI (.append x0 x1 x2 x3 x4 x5):=dv.2.2.2.2.2.2.2.2.2.2.2.2.2.2.2.2.2.2.2.2.2.2.2.2.2.2.2.2.2.2.1 x0 x1 x2 x3 x4 x5
def grow(e:Nat)(l:List AV):AV:=.slice (if l=[]then .nil else .own e) l
theorem AT(e:Nat):grow e []=.slice .nil []:=by unfold grow;rw[if_pos rfl]
theorem KB {S:aF} {H:aK} {t e size cap i j:Nat} {l:List AV} {v:AV} {o:Ow} (hi:S i=grow e l) (hj:S j = .slice o [v]) (hv:aM size [v]=true) (hl:aM size l=true) (hn:l.length+1 < 1048576) :
  ∃dm,(dm=none\/dm=some i)/\aL S H (.append t e size cap (.t i) (.t j))=some { v:=grow e (l++[v]),dm:=dm }:=by
 have ei:ev S (.t i)=grow e l:=hi;have ej:ev S (.t j)=.slice o [v]:=hj
 cases l with
 |nil=>
  refine⟨none,.inl rfl,?_⟩;simp only[aL];rw[ei,ej,AT];simp[hv,grow]
 |cons x l=>
  refine⟨some i,.inr rfl,?_⟩
  have Ew:l.length+1+1<1048576:=by simpa using hn
  simp only[aL];rw[ei,ej];simp[grow,hv,hl,bu,Ew]
theorem pJ{S:aF}{i d:Nat}{dm:Option Nat}(hd:dm=none\/dm=some i)(v:AV):(aT.S { v:=v,dm:=dm } S (some d)) d=v/\∀k,k≠d->k≠i->aT.S { v:=v,dm:=dm } S (some d) k=S k:=by
 rcases hd with rfl|rfl
 .refine⟨by simp[aT.S,aY,av],λk h1 _=>by simp[aT.S,aY,av,h1]⟩
 .refine⟨by simp[aT.S,aY,av],λk h1 h2=>by simp[aT.S,aY,av,h1,h2]⟩
theorem fe {K:aF→aK→Prop} {Qp:AV→Prop} {S:aF} {H:aK} {t e size cap d i j:Nat} {rest:List fw} (l:List AV) (v:AV) (o:Ow) (hi:S i=grow e l) (hj:S j = .slice o [v]) (hv:aM size [v]=true) (hl:aM size l=true) (hn:l.length+1 < 1048576)
  (h:∀S',S' d=grow e (l++[v])->(∀k,k≠d->k≠i->S' k=S k)->bj P GI rest K Qp S' H):bj P GI (⟨some d,none,.append t e size cap (.t i) (.t j)⟩::rest) K Qp S H:=by
 obtain⟨dm,Di,kc⟩:=KB (t:=t) (cap:=cap) (H:=H) hi hj hv hl hn;obtain⟨k1,k2⟩:=pJ (S:=S) (d:=d) Di (grow e (l++[v]));rw[dY.2.2.2.2.2.2.2.2.2.2.2.2.2.2.2.2.2.2.2.2.2.2.2.2.2.2.2.2.2.2.1];simp only[aD,kc];exact h _ k1 k2
theorem mW {K:aF→aK→Prop} {S:aF} {H:aK} {t e size cap d i j:Nat} {rest:List fw} (l:List AV) (v:AV) (o:Ow) (hi:S i=grow e l) (hj:S j = .slice o [v]) (hv:aM size [v]=true) (hl:aM size l=true) (hn:l.length+1 < 1048576)
  (h:∀S',S' d=grow e (l++[v])->(∀k,k≠d->k≠i->S' k=S k)->eB P GI rest K S' H):eB P GI (⟨some d,none,.append t e size cap (.t i) (.t j)⟩::rest) K S H:=by
 obtain⟨dm,Di,kc⟩:=KB (t:=t) (cap:=cap) (H:=H) hi hj hv hl hn;obtain⟨k1,k2⟩:=pJ (S:=S) (d:=d) Di (grow e (l++[v]));rw[dv.2.2.2.2.2.2.2.2.2.2.2.2.2.2.2.2.2.2.2.2.2.2.2.2.2.2.2.2.2.2.1];simp only[aD,kc];exact h _ k1 k2
theorem fZ{α:Type}{f:α->AV}{size:Nat}{l:List α}(h:∀a,(f a).storable=true/\(f a).cells.length=size):aM size (l.map f)=true:=by
 simp[aM,h]
end
theorem Cn {P:Program} {GI:World→Prop} (x d rest K Qp S H):bj P GI (⟨d,none,.panic x⟩::rest) K Qp S H=(match ev S x with
  |.iface t v=>Qp (.iface t v)
  |_=>False):=rfl
section
variable{P:Program}{GI:World->Prop}
end
end Go.AL
namespace Go.Proofs.Tryz
open Go Go.AL Go.RowKit Go.Proofs Go.Proofs.Tram
attribute [local simp] dh eE dY dv dK dj di cQ cT dL cP ct fF fE aD aL ev aT.S aT.H bu av aY AL.start AV.cells AV.storable AV.cg bo cE dI ck HR.okB post cw cH cI AV.out AV.bU b_ df fz iA AV.vw du vI int cG aP cV db fQ iu fV eG da AV.aI AV.cm
variable{GI:World->Prop}
theorem MT (hG:au GI) (l:List Int) (hl:l.length < 1000000) (k:Nat) (caps:List AV) (ma:caps=[]∨∃ c,caps=[.ref c]) (p:Int→Bool) (hk:dZ prog k=true) (h:∀ x∈l,AC prog GI k ([.int .i64 x]++caps) (.ret (.bool (p x)))) :
    AC prog GI 184 [.slice .view (l.map (.int .i64)),.func (.func k) [] caps] (.ret (.int .i64 (firstT p l))):=by
  refine bP hG func184 ntmps184 c184 ?_
  rcases ma with rfl|⟨c,rfl⟩<;>
  (simp[c184]
   refine bq 8 l.length (λi S H=>S 0=.slice .view (l.map (.int .i64))/\S 1=_/\S 7=.int .i64 l.length/\S 8=.int .i64 (i:Nat)/\∀j (hj:j<l.length),j<i->p l[j]=false) (λi S H h=>h.2.2.2.1) ⟨by simp,by simp<;>rfl,by simp,by simp,by simp⟩ ?_;rintro i hi S H ⟨s0,s1,s7,s8,hb⟩
   by_cases aw:i<l.length
   . have hw:IntKind.i64.wrap ((i:Int)+1)=i+1:=aN (by omega)
     have hx:=h l[i] (ae_ aw);cases hp:p l[i]
     . simp [afl,s0,s1,s7,s8,aw]
       refine⟨_,hk,hx,by simp[du],?_⟩;simp[s0,s1,s7,s8,aw,hp,hw];intro j hj lg
       by_cases zE:j=i
       . subst zE;exact hp
       . exact hb j hj (by omega)
     . simp [afl,s0,s1,s7,s8,aw]
       refine⟨_,hk,hx,by simp[du],?_⟩;simp[s0,s1,s7,s8,aw,hp,hw];exact kG aw hp hb
   . have cD:i=l.length:=by omega
     subst cD;simp[s0,s1,s7,s8]
     exact ir λj hj=>hb j hj hj)
theorem E9 (hG:au GI) (l:List Int) (hl:l.length < 1000000) (k:Nat) (caps:List AV) (ma:caps=[]∨∃ c,caps=[.ref c]) (p:Int→Bool) (hk:dZ prog k=true) (h:∀ x∈l,AC prog GI k ([.int .i64 x]++caps) (.ret (.bool (p x)))) :
    AC prog GI 143 [.slice .view (l.map (.int .i64)),.func (.func k) [] caps] (.ret (.bool (l.any p))):=by
  have hF:=MT hG l hl k caps ma p hk h;refine bP hG func143 ntmps143 c143 ?_
  rcases ma with rfl|⟨c,rfl⟩<;>
  (simp[c143]
   refine⟨_,by kernel_rfl,hF,λ_=>rfl,?_⟩;simp
   exact iY.symm)
theorem Ly (hG:au GI) (l:List Word) (hl:l.length < 1000000) (k:Nat) (caps:List AV) (ma:caps=[]∨∃ c,caps=[.ref c]) (p:Word→Bool) (hk:dZ prog k=true) (h:∀ x∈l,AC prog GI k ([bW x]++caps) (.ret (.bool (p x)))) :
    AC prog GI 185 [.slice .view (l.map bW),.func (.func k) [] caps] (.ret (.int .i64 (firstT p l))):=by
  refine bP hG func185 ntmps185 c185 ?_
  rcases ma with rfl|⟨c,rfl⟩<;>
  (simp[c185]
   refine bq 8 l.length (λi S H=>S 0=.slice .view (l.map bW)/\S 1=_/\S 7=.int .i64 l.length/\S 8=.int .i64 (i:Nat)/\∀j (hj:j<l.length),j<i->p l[j]=false) (λi S H h=>h.2.2.2.1) ⟨by simp,by simp<;>rfl,by simp,by simp,by simp⟩ ?_;rintro i hi S H ⟨s0,s1,s7,s8,hb⟩
   by_cases aw:i<l.length
   . have hw:IntKind.i64.wrap ((i:Int)+1)=i+1:=aN (by omega)
     have hx:=h l[i] (ae_ aw);cases hp:p l[i]
     . simp [afl,bW,s0,s1,s7,s8,aw]
       refine⟨_,hk,hx,by simp[du],?_⟩;simp[s0,s1,s7,s8,aw,hp,hw];intro j hj lg
       by_cases zE:j=i
       . subst zE;exact hp
       . exact hb j hj (by omega)
     . simp [afl,bW,s0,s1,s7,s8,aw]
       refine⟨_,hk,hx,by simp[du],?_⟩;simp[s0,s1,s7,s8,aw,hp,hw];exact kG aw hp hb
   . have cD:i=l.length:=by omega
     subst cD;simp[s0,s1,s7,s8]
     exact ir λj hj=>hb j hj hj)
theorem Lx (hG:au GI) (l:List Word) (hl:l.length < 1000000) (k:Nat) (caps:List AV) (ma:caps=[]∨∃ c,caps=[.ref c]) (p:Word→Bool) (hk:dZ prog k=true) (h:∀ x∈l,AC prog GI k ([bW x]++caps) (.ret (.bool (p x)))) :
    AC prog GI 145 [.slice .view (l.map bW),.func (.func k) [] caps] (.ret (.bool (l.any p))):=by
  have hF:=Ly hG l hl k caps ma p hk h;refine bP hG func145 ntmps145 c145 ?_
  rcases ma with rfl|⟨c,rfl⟩<;>
  (simp[c145]
   refine⟨_,by kernel_rfl,hF,λ_=>rfl,?_⟩;simp
   exact iY.symm)
theorem JV(hG:au GI)(a b:List Int)(ha:a.length<1000000):AC prog GI 58 [vI a,vI b] (.ret (.bool (a==b))):=by
 refine bP hG func58 ntmps58 c58 ?_
 by_cases hl:a.length=b.length
 case neg=>
  have dO:(a==b)=false:=by
   rw[afN]
   exact λh=>hl (congrArg List.length h)
  have sZ:((a.length:Int)!=(b.length:Int))=true:=by simp;omega
  simp[c58,sZ,dO]
 simp[c58,hl];refine bq 5 b.length (λi S H=>S 0=vI a/\S 1=vI b/\S 5=.int .i64 (i:Nat)/\∀j (hj:j<a.length),j<i->a[j]=b[j]'(by omega)) (λi S H h=>h.2.2.1) ⟨by simp,by simp,by simp,by simp⟩ ?_;rintro i hi S H ⟨s0,s1,s5,hb⟩
 by_cases aw:i<b.length
 .have jL:i<a.length:=by omega
  have hw:IntKind.i64.wrap ((i:Int)+1)=i+1:=aN (by omega)
  by_cases he:a[i]=b[i]
  .have Hb:(a[i]!=b[i])=false:=by simp[he]
   simp[s0,s1,s5,aw,jL,Hb,hw];intro j hj lg
   by_cases e:j=i
   .subst e;exact he
   .exact hb j hj (by omega)
  .have dO:(a==b)=false:=by
    rw[afN];rintro rfl;exact he rfl
   have Hb:(a[i]!=b[i])=true:=by simp[he]
   simp[s0,s1,s5,aw,jL,Hb,dO]
 .have cD:i=b.length:=by omega
  subst cD
  have oD:a=b:=ahb hl λj h1 h2=>hb j h1 (by omega)
  simp[s0,s1,s5,oD]
theorem Ns(hG:au GI)(l:List Int)(hl:l.length<1000000)(v:Int):AC prog GI 216 [vI l,.int .i64 v] (.ret (.int .i64 (firstT (v==·) l))):=by
 refine bP hG func216 ntmps216 c216 ?_;simp[c216];refine bq 8 l.length (λi S H=>S 0=vI l/\S 1=.int .i64 v/\S 7=.int .i64 l.length/\S 8=.int .i64 (i:Nat)/\∀j (hj:j<l.length),j<i->(v==l[j])=false) (λi S H h=>h.2.2.2.1) ⟨by simp,by simp,by simp,by simp,by simp⟩ ?_;rintro i hi S H ⟨s0,s1,s7,s8,hb⟩
 by_cases aw:i<l.length
 .have hw:IntKind.i64.wrap ((i:Int)+1)=i+1:=aN (by omega);cases he:v==l[i]
  .simp[s0,s1,s7,s8,aw,he,hw];intro j hj lg
   by_cases e:j=i
   .subst e;simpa using he
   .simpa using hb j hj (by omega)
  .simp[s0,s1,s7,s8,aw,he,hw];exact kG aw he hb
 .have cD:i=l.length:=by omega
  subst cD;simp[s0,s1,s7,s8]
  exact ir λj hj=>hb j hj hj
theorem Cp(hG:au GI)(l:List Int)(hl:l.length<1000000)(v:Int):AC prog GI 198 [vI l,.int .i64 v] (.ret (.bool (l.contains v))):=by
 refine bP hG func198 ntmps198 c198 ?_;simp[c198];refine⟨_,by kernel_rfl,Ns hG l hl v,λ_=>rfl,?_⟩;simp;have:=iY (p:=(v==·)) (l:=l);rw[afZ]at this;simpa using this.symm
theorem sY(a b:Int):wx [.int .i64 a,.int .i64 b]=some [a,b]:=rfl
end Go.Proofs.Tryz
namespace Go.Proofs.Tryz
open Go Go.AL Go.RowKit Go.Proofs Go.Proofs.Tram
variable{GI:World->Prop}
def Mq:AV->Option Word
 |.agg [s,c,.bool b]=>match IY s with
  |some s=>match IY c with
   |some c=>some ⟨s,c,b⟩
   |none=>none
  |none=>none
 |_=>none
def MO:AV->Option iZ
 |.agg [.int .i64 a,.int .i64 b,.int .i64 c,.int .i64 d]=>some ⟨a,b,c,d⟩
 |_=>none
def Pn:AV->Option End
 |.agg [.int .i64 a,.int .i64 b]=>some (a,b)
 |_=>none
deriving instance DecidableEq for iZ
deriving instance DecidableEq for Word
structure ar where
 aV:List Int
 aQ:List iZ
 gf:Int
 fY:Int
 j6:Int
 j5:Int
 cj:Int
 words:List Word
 wide:Int
 rows:Int
deriving DecidableEq
def ae(s:ar):List AV:=[vI s.aV,.slice .view (s.aQ.map cZ),.int .i64 s.gf,.int .i64 s.fY,.int .i64 s.j6,.int .i64 s.j5,.int .i64 s.cj,.slice .view (s.words.map bW),.int .i64 s.wide,.int .i64 s.rows]
def bQ(s:ar):AV:=.agg (ae s)
def yn:AV->Option ar
 |.agg [w,.slice .view ps,.int .i64 a,.int .i64 b,.int .i64 c,.int .i64 d,.int .i64 e,.slice .view ws,.int .i64 f,.int .i64 g]=>match IY w with
  |some w=>match mS MO ps with
   |some ps=>match mS Mq ws with
    |some ws=>some ⟨w,ps,a,b,c,d,e,ws,f,g⟩
    |none=>none
   |none=>none
  |none=>none
 |_=>none
def vC:AV->Option (List Int×List End)
 |.agg [o,.slice .view es]=>match IY o with
  |some o=>match mS Pn es with
   |some es=>some (o,es)
   |none=>none
  |none=>none
 |_=>none
def q1(s:ar)(out:eZ):List AV->Option eZ
 |[a]=>match yn a with
  |some x=>bif decide (x=s)then some out else none
  |none=>none
 |_=>none
def q2(s:ar)(es:List End)(out:eZ):List AV->Option eZ
 |[a,b]=>match yn a with
  |some x=>match vC b with
   |some y=>bif decide (x=s)&&decide (y=([],es))then some out else none
   |none=>none
  |none=>none
 |_=>none
def q3(s:ar)(es:List End)(n:Int)(out:eZ):List AV->Option eZ
 |[a,b,.int .i64 k]=>match yn a with
  |some x=>match vC b with
   |some y=>bif decide (x=s)&&decide (y=([],es))&&decide (k=n)then some out else none
   |none=>none
  |none=>none
 |_=>none
def qs(s:List UInt8)(out:eZ):List AV->Option eZ
 |[.str t]=>bif decide (t=s)then some out else none
 |_=>none
theorem n_(l:List End):aM 2 (l.map aS)=true:=fZ λa=>⟨rfl,rfl⟩
end Go.Proofs.Tryz
namespace Go.Proofs.Tryz
open Go Go.AL Go.RowKit Go.Proofs Go.Proofs.Tram
attribute [local simp] dh eE dY dv dK dj di cQ cT dL cP ct fF fE aD aL ev aT.S aT.H bu av aY AL.start AV.cells AV.storable AV.cg bo cE dI ck HR.okB post cw cH cI AV.out AV.bU b_ df fz iA AV.vw du vI int cG aP cV db fQ iu fV eG da AV.aI AV.cm
variable{GI:World->Prop}
def bH(n lo hi:Int):Bool:=decide (lo<=n)&&decide (n<=hi)
theorem nn(hG:au GI)(n lo hi:Int):AC prog GI 84 [.int .i64 n,.int .i64 lo,.int .i64 hi] (.ret (.bool (bH n lo hi))):=by
 refine bP hG func84 ntmps84 c84 ?_
 by_cases h1:lo<=n<;>by_cases h2:n<=hi<;>simp[c84,bH,h1,h2]
theorem jG(hG:au GI)(n lo hi:Int):AC prog GI 139 [.int .i64 n,.int .i64 lo,.int .i64 hi] (.ret (.bool (bH n lo hi))):=by
 refine bP hG func139 ntmps139 c139 ?_
 by_cases h1:lo<=n<;>by_cases h2:n<=hi<;>simp[c139,bH,h1,h2]
def gL(lo hi a most:Int):Bool:=bH lo a most&&bH hi lo most
theorem B1(hG:au GI)(lo hi most:Int):AC prog GI 154 [.agg [.int .i64 lo,.int .i64 hi],.int .i64 most] (.ret (.bool (gL lo hi 0 most))):=by
 refine bP hG func154 ntmps154 c154 ?_;simp[c154];refine oc (nn hG lo 0 most) ?_;cases h1:bH lo 0 most
 .simp[gL,h1]
 .simp;refine oc (nn hG hi lo most) ?_;simp[gL,h1]
theorem Cu(hG:au GI)(lo hi a most:Int):AC prog GI 144 [.agg [.int .i64 lo,.int .i64 hi],.int .i64 a,.int .i64 most] (.ret (.bool (gL lo hi a most))):=by
 refine bP hG func144 ntmps144 c144 ?_;simp[c144];refine oc (jG hG lo a most) ?_;cases h1:bH lo a most
 .simp[gL,h1]
 .simp;refine oc (jG hG hi lo most) ?_;simp[gL,h1]
theorem Mn(hG:au GI)(n:Int):AC prog GI 155 [.int .i64 n] (.ret (.bool (bH n 1 400))):=by
 refine bP hG func155 ntmps155 c155 ?_;simp[c155];refine oc (nn hG n 1 400) ?_;simp
def fB(s:ar)(n:Int):Bool:=bH n 0 (s.aV.length-1)
theorem BY(hG:au GI)(s:ar)(hs:s.aV.length<1000)(n:Int):AC prog GI 194 [bQ s,.int .i64 n] (.ret (.bool (fB s n))):=by
 refine bP hG func194 ntmps194 c194 ?_;have hw:IntKind.i64.wrap ((s.aV.length:Int)-1)=s.aV.length-1:=aN (by omega);simp[c194,bQ,ae,hw];refine oc (nn hG n 0 (s.aV.length-1)) ?_;simp[fB]
def gj(s:ar)(p:iZ):Bool:=fB s p.l&&fB s p.r&&gL p.lo p.hi 0 9
theorem Lq(hG:au GI)(s:ar)(hs:s.aV.length<1000)(p:iZ):AC prog GI 140 [bQ s,cZ p] (.ret (.bool (gj s p))):=by
 refine bP hG func140 ntmps140 c140 ?_;have hw:IntKind.i64.wrap ((s.aV.length:Int)-1)=s.aV.length-1:=aN (by omega);refine az (λS H=>S 2=.box 2 0/\S 3=.box 3 0/\H 2=some (ae s)/\H 3=some [.int .i64 p.l,.int .i64 p.r,.int .i64 p.lo,.int .i64 p.hi]) (by simp[bQ,ae,cZ]) ?_;rintro S H ⟨s2,s3,h2,h3⟩;simp[s2,s3,h2,h3,ae,hw];refine oc (jG hG p.l 0 (s.aV.length-1)) ?_;cases h1:bH p.l 0 (s.aV.length-1)
 .simp[gj,fB,h1]
 .simp[s2,s3,h2,h3,ae,hw];refine oc (jG hG p.r 0 (s.aV.length-1)) ?_;cases h4:bH p.r 0 (s.aV.length-1)
  .simp[gj,fB,h1,h4]
  .simp[s2,s3,h2,h3,ae];refine oc (Cu hG p.lo p.hi 0 9) ?_;simp[gj,fB,h1,h4]
def pg(a b:iZ):Bool:=decide (a.l<b.l)||(a.l==b.l&&decide (a.r<b.r))
theorem Na(hG:au GI)(a b:iZ):AC prog GI 141 [cZ a,cZ b] (.ret (.bool (pg a b))):=by
 refine bP hG func141 ntmps141 c141 ?_;refine az (λS H=>S 2=.box 2 0/\S 3=.box 3 0/\H 2=some [.int .i64 a.l,.int .i64 a.r,.int .i64 a.lo,.int .i64 a.hi]/\H 3=some [.int .i64 b.l,.int .i64 b.r,.int .i64 b.lo,.int .i64 b.hi]) (by simp[cZ]) ?_;rintro S H ⟨s2,s3,h2,h3⟩
 by_cases h1:a.l<b.l
 .simp[s2,s3,h2,h3,pg,h1]
 .cases h4:a.l==b.l
  .simp[s2,s3,h2,h3,pg,h1,h4]
  .by_cases h5:a.r<b.r<;>simp[s2,s3,h2,h3,pg,h1,h4,h5]
theorem NH(hG:au GI)(n:Int):AC prog GI 142 [.int .i64 n] (.ret (.bool (!bH n 1 20))):=by
 refine bP hG func142 ntmps142 c142 ?_;simp[c142];refine oc (jG hG n 1 20) ?_;simp
theorem ND(hG:au GI)(s:ar)(hs:s.aV.length<1000)(n:Int):AC prog GI 186 [.int .i64 n,.ref (ae s)] (.ret (.bool (!fB s n))):=by
 refine bP hG func186 ntmps186 c186 ?_;have hw:IntKind.i64.wrap ((s.aV.length:Int)-1)=s.aV.length-1:=aN (by omega);simp[c186,ae,hw];refine oc (jG hG n 0 (s.aV.length-1)) ?_;simp[fB]
def eb(l:List Int)(lo hi:Int):Bool:=iS (bH · lo hi) (λa b=>decide (a<b)) l
theorem LD(hG:au GI)(l:List Int)(hl:l.length<1000000)(lo hi:Int):AC prog GI 180 [vI l,.int .i64 lo,.int .i64 hi] (.ret (.bool (eb l lo hi))):=by
 refine bP hG func180 ntmps180 c180 ?_;simp[c180];refine bq 11 l.length (λi S H=>S 0=vI l/\S 1=.int .i64 lo/\S 2=.int .i64 hi/\S 9=vI l/\S 10=.int .i64 l.length/\S 11=.int .i64 (i:Nat)/\(∀j (hj:j<l.length),j<i->bH l[j] lo hi=true)/\∀j (hj:j+1<l.length),j+1<i->decide (l[j]<l[j+1])=true) (λi S H h=>h.2.2.2.2.2.1) ⟨by simp,by simp,by simp,by simp,by simp,by simp,by simp,by simp⟩ ?_;rintro i gq S H ⟨s0,s1,s2,s9,bw,bn,hb,hc⟩
 by_cases aw:i<l.length
 .have hw:IntKind.i64.wrap ((i:Int)+1)=i+1:=aN (by omega);simp[s0,s1,s2,s9,bw,bn,aw];refine⟨_,by kernel_rfl,jG hG l[i] lo hi,λ_=>rfl,?_⟩;cases hp:bH l[i] lo hi
  .simp[s0,s1,s2,s9,bw,bn,aw,hw];exact ka aw hp
  .cases i with
   |zero=>
    simp[s0,s1,s2,s9,bw,bn,aw];exact⟨aN (by omega),λj hj wu=>by subst wu;exact hp⟩
   |succ k=>
    have hk:((k+1:Nat):Int)-1=(k:Nat):=by omega
    have ss:IntKind.i64.wrap (k:Int)=k:=aN (by omega);have fL:IntKind.i64.wrap ((k:Int)+1+1)=k+1+1:=aN (by omega)
    have j9:k<l.length:=by omega
    have h0:(0:Int)<(k:Int)+1:=by omega
    by_cases hle:l[k+1]<=l[k]
    .simp[s0,s1,s2,s9,bw,bn,aw,ss,j9,hle,h0];exact jT (lt:=λa b=>decide (a<b)) aw (by simpa using hle)
    .simp[s0,s1,s2,s9,bw,bn,aw,ss,j9,hle,h0,fL];refine⟨λj hj Cz=>?_,λj hj Cz=>?_⟩
     .by_cases e:j=k+1
      .subst e;exact hp
      .exact hb j hj (by omega)
     .by_cases e:j=k
      .subst e;omega
      .simpa using hc j hj (by omega)
 .have cD:i=l.length:=by omega
  subst cD;simp[s0,s1,s2,s9,bw,bn];exact l6 (λj hj=>hb j hj hj) (λj hj=>hc j hj hj)
def gK(s:ar)(w:Word):Bool:=bH w.aG.length 1 6&&!(w.aG.any λn=>!fB s n)&&eb w.bD 1 (w.aG.length-1)
theorem Ni(hG:au GI)(s:ar)(hs:s.aV.length<1000)(w:Word)(h1:w.aG.length<1000)(h2:w.bD.length<1000):AC prog GI 147 [bQ s,bW w] (.ret (.bool (gK s w))):=by
 have Fw:=E9 hG w.aG (by omega) 186 [.ref (ae s)] (.inr ⟨_,rfl⟩) (λn=>!fB s n) (by kernel_rfl) (λn _=>ND hG s hs n);have hw:IntKind.i64.wrap ((w.aG.length:Int)-1)=w.aG.length-1:=aN (by omega);refine bP hG func147 ntmps147 c147 ?_;refine az (λS H=>S 2=.box 2 0/\S 3=.box 3 0/\H 2=some (ae s)/\H 3=some [vI w.aG,vI w.bD,.bool w.free]) (by simp[bQ,ae,bW]) ?_;rintro S H ⟨s2,s3,e2,e3⟩;simp[s2,s3,e2,e3];refine⟨_,by kernel_rfl,jG hG w.aG.length 1 6,λ_=>rfl,?_⟩;cases h3:bH w.aG.length 1 6
 .simp[gK,h3]
 .simp[s2,s3,e2,e3,ae];refine⟨_,by kernel_rfl,Fw,λ_=>rfl,?_⟩
  cases h4:w.aG.any λn=>!fB s n
  .simp[s2,s3,e2,e3,hw];refine⟨_,by kernel_rfl,LD hG w.bD (by omega) 1 (w.aG.length-1),λ_=>rfl,?_⟩;simp[gK,h3,h4]
  .simp[gK,h3,h4]
theorem Mt(hG:au GI)(s:ar)(hs:s.aV.length<1000)(w:Word)(h1:w.aG.length<1000)(h2:w.bD.length<1000):AC prog GI 146 [bW w,.ref (ae s)] (.ret (.bool (!gK s w))):=by
 refine bP hG func146 ntmps146 c146 ?_;simp[c146,bW,ae];refine⟨_,by kernel_rfl,Ni hG s hs w h1 h2,λ_=>rfl,?_⟩;simp
structure mG(s:ar):Prop where
 aV:s.aV.length<1000
 aQ:s.aQ.length<1000
 words:s.words.length<1000
 aG:∀w∈s.words,w.aG.length<1000
 bD:∀w∈s.words,w.bD.length<1000
def mU(s:ar):Bool:=!(s.aV.any λn=>!bH n 1 20)&&gL s.gf s.fY 0 9&&gL s.j6 s.j5 0 20&&bH s.cj 1 20&&!(s.words.any λw=>!gK s w)&&bH s.wide 1 400&&bH s.rows 1 3
def aU(s:ar):Bool:=bH s.aV.length 1 6&&decide (s.aQ.length<=6)&&bH s.words.length 1 4&&iS (gj s) pg s.aQ&&mU s
theorem Az(hG:au GI)(s:ar)(hs:mG s):AC prog GI 78 [bQ s] (.ret (.bool (aU s))):=by
 have Fw:=E9 hG s.aV (by have:=hs.aV;omega) 142 [] (.inl rfl) (λn=>!bH n 1 20) (by kernel_rfl) (λn _=>NH hG n);have Ro:=Lx hG s.words (by have:=hs.words;omega) 146 [.ref (ae s)] (.inr ⟨_,rfl⟩) (λw=>!gK s w) (by kernel_rfl) (λw hw=>Mt hG s hs.aV w (hs.aG w hw) (hs.bD w hw));refine bP hG func78 ntmps78 c78 ?_;refine az (λS H=>S 1=.box 1 0/\H 1=some (ae s)) (by simp[bQ,ae]) ?_;rintro S H ⟨s1,e1⟩;simp[s1,e1,ae];refine⟨_,by kernel_rfl,jG hG s.aV.length 1 6,λ_=>rfl,?_⟩;cases h1:bH s.aV.length 1 6
 .simp[aU,h1]
 by_cases h2:(6:Int)<s.aQ.length
 .simp[s1,e1,ae,h2]
  have:¬s.aQ.length<=6:=by omega
  simp[aU,this]
 simp[s1,e1,ae,h2];refine⟨_,by kernel_rfl,jG hG s.words.length 1 4,λ_=>rfl,?_⟩;cases h3:bH s.words.length 1 4
 .simp[aU,h3]
 simp[s1,e1,ae]
 have th:s.aQ.length<=6:=by omega
 refine bq 27 s.aQ.length (λi S H=>S 1=.box 1 0/\H 1=some (ae s)/\S 25=.slice .view (s.aQ.map cZ)/\S 26=.int .i64 s.aQ.length/\S 27=.int .i64 (i:Nat)/\(∀j (hj:j<s.aQ.length),j<i->gj s s.aQ[j]=true)/\∀j (hj:j+1<s.aQ.length),j+1<i->pg s.aQ[j] s.aQ[j+1]=true) (λi S H h=>h.2.2.2.2.1) ⟨by simp[s1],by simp[e1,ae],by simp,by simp,by simp,by simp,by simp⟩ ?_;clear s1 e1 S H;rintro i hi S H ⟨s1,e1,jv,pE,lY,hb,hc⟩
 by_cases aw:i<s.aQ.length
 case neg=>
  have cD:i=s.aQ.length:=by omega
  subst cD;have PR:iS (gj s) pg s.aQ=true:=l6 (λj hj=>hb j hj hj) (λj hj=>hc j hj hj);simp[s1,e1,jv,pE,lY,ae];refine⟨_,by kernel_rfl,Fw,λ_=>rfl,?_⟩
  cases h4:s.aV.any λn=>!bH n 1 20
  case true=>simp[aU,mU,h4]
  simp[s1,e1,ae];refine⟨_,by kernel_rfl,Cu hG s.gf s.fY 0 9,λ_=>rfl,?_⟩;cases h5:gL s.gf s.fY 0 9
  .simp[aU,mU,h5]
  simp[s1,e1,ae];refine⟨_,by kernel_rfl,Cu hG s.j6 s.j5 0 20,λ_=>rfl,?_⟩;cases h6:gL s.j6 s.j5 0 20
  .simp[aU,mU,h6]
  simp[s1,e1,ae];refine⟨_,by kernel_rfl,jG hG s.cj 1 20,λ_=>rfl,?_⟩;cases h7:bH s.cj 1 20
  .simp[aU,mU,h7]
  simp[s1,e1,ae];refine⟨_,by kernel_rfl,Ro,λ_=>rfl,?_⟩
  cases h8:s.words.any λw=>!gK s w
  case true=>simp[aU,mU,h8]
  simp[s1,e1,ae];refine⟨_,by kernel_rfl,jG hG s.wide 1 400,λ_=>rfl,?_⟩;cases h9:bH s.wide 1 400
  .simp[aU,mU,h9]
  simp[s1,e1,ae];refine⟨_,by kernel_rfl,jG hG s.rows 1 3,λ_=>rfl,?_⟩;simp[aU,mU,h1,th,h3,PR,h4,h5,h6,h7,h8,h9]
 case pos=>
  have hw:IntKind.i64.wrap ((i:Int)+1)=i+1:=aN (by omega);refine az (λS H=>S 28=.bool true/\S 1=.box 1 0/\H 1=some (ae s)/\S 25=.slice .view (s.aQ.map cZ)/\S 26=.int .i64 s.aQ.length/\S 27=.int .i64 (i:Nat)) (by simp[s1,e1,jv,pE,lY,aw]) ?_;clear s1 e1 jv pE lY S H;rintro S H ⟨sg,s1,e1,jv,pE,lY⟩;refine xJ sg (wF ?_);refine az (λS H=>S 4=.box 4 0/\H 4=some (cZ s.aQ[i]).cells/\S 3=.int .i64 (i:Nat)/\S 1=.box 1 0/\H 1=some (ae s)/\S 25=.slice .view (s.aQ.map cZ)/\S 26=.int .i64 s.aQ.length/\S 27=.int .i64 (i:Nat)) (by simp[s1,e1,jv,pE,lY,aw,cZ]) ?_;clear s1 e1 jv pE lY sg S H;rintro S H ⟨s4,e4,s3,s1,e1,jv,pE,lY⟩;simp[s1,e1,s3,s4,e4,ae,cZ];refine⟨_,by kernel_rfl,Lq hG s hs.aV s.aQ[i],λ_=>rfl,?_⟩;cases hp:gj s s.aQ[i]
  .simp;simp[aU,ka aw hp]
  cases i with
  |zero=>
   simp[s1,s3,s4,jv,pE,lY,aw];exact⟨e1,aN (by omega),λj hj wu=>by subst wu;exact hp⟩
  |succ k=>
   have ss:IntKind.i64.wrap (k:Int)=k:=aN (by omega);have fL:IntKind.i64.wrap ((k:Int)+1+1)=k+1+1:=aN (by omega)
   have j9:k<s.aQ.length:=by omega
   have h0:(0:Int)<(k:Int)+1:=by omega
   simp[s1,e1,s3,s4,e4,aw,ss,j9,h0,ae,cZ];refine⟨_,by kernel_rfl,Na hG s.aQ[k] s.aQ[k+1],λ_=>rfl,?_⟩;cases hq:pg s.aQ[k] s.aQ[k+1]
   .simp;simp[aU,jT (p:=gj s) aw hq]
   .simp[s1,e1,s3,s4,jv,pE,lY,aw,fL];refine⟨rfl,λj hj Cz=>?_,λj hj Cz=>?_⟩
    .by_cases e:j=k+1
     .subst e;exact hp
     .exact hb j hj (by omega)
    .by_cases e:j=k
     .subst e;exact hq
     .exact hc j hj (by omega)
theorem DV(s:ar)(w:Word):gK s w=(w.aG.all (fB s)&&(eb w.bD 1 (w.aG.length-1)&&bH w.aG.length 1 6)):=by
 unfold gK;rw[mB]
 cases bH w.aG.length 1 6<;>cases w.aG.all (fB s)<;>cases eb w.bD 1 (w.aG.length-1)<;>rfl
theorem MU(hG:au GI)(s:ar)(hs:s.aV.length<1000)(w:Word)(h1:w.aG.length<1000)(h2:w.bD.length<1000):AC prog GI 152 [bQ s,bW w] (.ret (.bool (gK s w))):=by
 rw[DV];refine bP hG func152 ntmps152 c152 ?_;refine az (λS H=>S 2=.box 2 0/\S 3=.box 3 0/\H 2=some (ae s)/\H 3=some [vI w.aG,vI w.bD,.bool w.free]) (by simp[bQ,ae,bW]) ?_;rintro S H ⟨s2,s3,e2,e3⟩;simp[s2,s3,e2,e3];refine bq 5 w.aG.length (λi S H=>S 2=.box 2 0/\S 3=.box 3 0/\H 2=some (ae s)/\H 3=some [vI w.aG,vI w.bD,.bool w.free]/\S 5=.int .i64 (i:Nat)/\(∀j (hj:j<w.aG.length),j<i->fB s w.aG[j]=true)) (λi S H h=>h.2.2.2.2.1) ⟨by simp[s2],by simp[s3],e2,e3,by simp,by simp⟩ ?_;clear s2 s3 e2 e3 S H;rintro i hi S H ⟨s2,s3,e2,e3,s5,hb⟩
 by_cases aw:i<w.aG.length
 case pos=>
  have hw:IntKind.i64.wrap ((i:Int)+1)=i+1:=aN (by omega);simp[s2,s3,e2,e3,s5,aw,ae];refine⟨_,by kernel_rfl,BY hG s hs w.aG[i],λ_=>rfl,?_⟩;cases hp:fB s w.aG[i]
  .simp[nM aw hp]
  .simp[s2,s3,e2,e3,s5,aw,hw];exact⟨rfl,jw aw hb hp⟩
 have cD:i=w.aG.length:=by omega
 subst cD
 have fX:w.aG.all (fB s)=true:=qh λj hj=>hb j hj hj
 simp[s2,s3,e2,e3,s5,fX];refine bq 6 w.bD.length (λi S H=>S 3=.box 3 0/\H 3=some [vI w.aG,vI w.bD,.bool w.free]/\S 6=.int .i64 (i:Nat)/\(∀j (hj:j<w.bD.length),j<i->bH w.bD[j] 1 (w.aG.length-1)=true)/\∀j (hj:j+1<w.bD.length),j+1<i->decide (w.bD[j]<w.bD[j+1])=true) (λi S H h=>h.2.2.1) ⟨by simp[s3],e3,by simp,by simp,by simp⟩ ?_;clear s2 s3 e2 e3 s5 hb S H;rintro i hi S H ⟨s3,e3,s6,hb,hc⟩
 by_cases aw:i<w.bD.length
 case neg=>
  have cD:i=w.bD.length:=by omega
  subst cD;have hr:eb w.bD 1 (w.aG.length-1)=true:=l6 (λj hj=>hb j hj hj) (λj hj=>hc j hj hj);simp[s3,e3,s6,hr];refine⟨_,by kernel_rfl,nn hG w.aG.length 1 6,λ_=>rfl,?_⟩;simp
 case pos=>
  have hw:IntKind.i64.wrap ((i:Int)+1)=i+1:=aN (by omega);have oe:IntKind.i64.wrap ((w.aG.length:Int)-1)=w.aG.length-1:=aN (by omega);simp[s3,e3,s6,aw,oe];refine⟨_,by kernel_rfl,nn hG w.bD[i] 1 (w.aG.length-1),λ_=>rfl,?_⟩;cases hp:bH w.bD[i] 1 (w.aG.length-1)
  .have hr:eb w.bD 1 (w.aG.length-1)=false:=ka aw hp;simp[hr]
  cases i with
  |zero=>
   simp[s3,e3,s6,aw];exact⟨aN (by omega),λj hj wu=>by subst wu;exact hp⟩
  |succ k=>
   have ss:IntKind.i64.wrap (k:Int)=k:=aN (by omega);have fL:IntKind.i64.wrap ((k:Int)+1+1)=k+1+1:=aN (by omega)
   have j9:k<w.bD.length:=by omega
   have h0:(0:Int)<(k:Int)+1:=by omega
   have N':(0:Int)<=(k:Int)+1:=by omega
   by_cases hle:w.bD[k+1]<=w.bD[k]
   .have hr:eb w.bD 1 (w.aG.length-1)=false:=jT (lt:=λa b=>decide (a<b)) aw (by simpa using hle);simp[s3,e3,s6,aw,ss,j9,hle,h0,N',hr]
   .simp[s3,e3,s6,aw,ss,j9,hle,h0,N',fL];exact⟨jw (p:=λn=>bH n 1 (w.aG.length-1)) aw hb hp,λj hj Cz=>by simpa using pW (lt:=λa b=>decide (a<b)) aw hc (by simpa using hle) j hj (by omega)⟩
def kl(s:ar):Bool:=iS (gj s) pg s.aQ&&decide (s.aQ.length<=6)
theorem zS(a b:iZ):pg a b=!(decide (b.l<a.l)||(a.l==b.l&&decide (b.r<=a.r))):=by
 unfold pg
 by_cases h1:a.l<b.l
 .have h2:¬b.l<a.l:=by omega
  have h3:(a.l==b.l)=false:=by simp;omega
  simp[h1,h2,h3]
 .by_cases h2:b.l<a.l
  .have h3:(a.l==b.l)=false:=by simp;omega
   simp[h1,h2,h3]
  .have h3:(a.l==b.l)=true:=by simp;omega
   by_cases h4:b.r<=a.r
   .have h5:¬a.r<b.r:=by omega
    simp[h1,h2,h3,h4,h5]
   .have h5:a.r<b.r:=by omega
    simp[h1,h2,h3,h4,h5]
theorem LM(hG:au GI)(s:ar)(hs:s.aV.length<1000)(h1:s.aQ.length<1000):AC prog GI 153 [bQ s] (.ret (.bool (kl s))):=by
 refine bP hG func153 ntmps153 c153 ?_;simp[c153,bQ,ae];refine bq 3 s.aQ.length (λi S H=>S 1=.box 1 0/\H 1=some (ae s)/\S 3=.int .i64 (i:Nat)/\(∀j (hj:j<s.aQ.length),j<i->gj s s.aQ[j]=true)/\∀j (hj:j+1<s.aQ.length),j+1<i->pg s.aQ[j] s.aQ[j+1]=true) (λi S H h=>h.2.2.1) ⟨by simp,by simp[ae],by simp,by simp,by simp⟩ ?_;rintro i hi S H ⟨s1,e1,s3,hb,hc⟩
 by_cases aw:i<s.aQ.length
 case neg=>
  have cD:i=s.aQ.length:=by omega
  subst cD;have hr:iS (gj s) pg s.aQ=true:=l6 (λj hj=>hb j hj hj) (λj hj=>hc j hj hj);simp[s1,e1,s3,ae,kl,hr]
  by_cases h6:s.aQ.length<=6
  .have Nk:(s.aQ.length:Int)<=6:=by omega
   simp[h6,Nk]
  .have Nk:¬(s.aQ.length:Int)<=6:=by omega
   simp[h6,Nk]
 case pos=>
  have hw:IntKind.i64.wrap ((i:Int)+1)=i+1:=aN (by omega);refine wg (λS H=>S 9=.bool true/\S 1=.box 1 0/\H 1=some (ae s)/\S 3=.int .i64 (i:Nat)) (by simp[s1,e1,s3,aw,ae]) ?_;clear s1 e1 s3 S H;rintro S H ⟨s9,s1,e1,s3⟩;refine xJ s9 (wF ?_);refine az (λS H=>S 4=.box 4 0/\H 4=some (cZ s.aQ[i]).cells/\S 1=.box 1 0/\H 1=some (ae s)/\S 3=.int .i64 (i:Nat)) (by simp[s1,e1,s3,aw,ae,cZ]) ?_;clear s1 e1 s3 s9 S H;rintro S H ⟨s4,e4,s1,e1,s3⟩;refine wg (λS H=>S 34=.bool (!gj s s.aQ[i])/\S 4=.box 4 0/\H 4=some (cZ s.aQ[i]).cells/\S 1=.box 1 0/\H 1=some (ae s)/\S 3=.int .i64 (i:Nat)) ?_ ?_
  .simp[s1,e1,s3,s4,e4,ae,cZ];refine⟨_,by kernel_rfl,BY hG s hs s.aQ[i].l,λ_=>rfl,?_⟩;cases h1:fB s s.aQ[i].l
   .simp[s1,e1,s3,s4,e4,ae,cZ,gj,h1]
   simp[s1,e1,s3,s4,e4,ae,cZ];refine⟨_,by kernel_rfl,BY hG s hs s.aQ[i].r,λ_=>rfl,?_⟩;cases h2:fB s s.aQ[i].r
   .simp[s1,e1,s3,s4,e4,ae,cZ,gj,h1,h2]
   simp[s1,e1,s3,s4,e4,ae,cZ];refine⟨_,by kernel_rfl,B1 hG s.aQ[i].lo s.aQ[i].hi 9,λ_=>rfl,?_⟩;simp[s1,e1,s3,s4,e4,ae,cZ,gj,h1,h2]
  clear s1 e1 s3 s4 e4 S H;rintro S H ⟨Jp,s4,e4,s1,e1,s3⟩;cases hp:gj s s.aQ[i]
  .rw[hp]at Jp
   have hr:kl s=false:=by unfold kl;rw[ka aw hp];rfl
   simp[Jp,hr]
  rw[hp]at Jp;refine Ff Jp ?_
  cases i with
  |zero=>
   simp[s1,e1,s3,s4,e4,ae,aw];exact⟨aN (by omega),λj hj wu=>by subst wu;exact hp⟩
  |succ k=>
   have ss:IntKind.i64.wrap (k:Int)=k:=aN (by omega);have fL:IntKind.i64.wrap ((k:Int)+1+1)=k+1+1:=aN (by omega)
   have j9:k<s.aQ.length:=by omega
   have h0:(0:Int)<(k:Int)+1:=by omega
   cases hq:pg s.aQ[k] s.aQ[k+1]
   .have hr:kl s=false:=by unfold kl;rw[jT aw hq];rfl
    rw[zS]at hq
    by_cases h1:s.aQ[k+1].l<s.aQ[k].l
    .simp[s1,e1,s3,s4,e4,ae,cZ,ss,j9,h0,h1,hr]
    .cases h2:s.aQ[k].l==s.aQ[k+1].l
     .simp[h1,h2]at hq
     .by_cases h3:s.aQ[k+1].r<=s.aQ[k].r
      .simp[s1,e1,s3,s4,e4,ae,cZ,ss,j9,h0,h1,h2,h3,hr]
      .simp[h1,h2,h3]at hq
   .have OU:=hq;rw[zS]at hq
    have h1:¬s.aQ[k+1].l<s.aQ[k].l:=λh=>by simp[h]at hq
    cases h2:s.aQ[k].l==s.aQ[k+1].l
    .simp[s1,e1,s3,s4,e4,ae,cZ,ss,j9,h0,h1,h2,fL,aw];exact⟨jw aw hb hp,λj hj Cz=>pW aw hc OU j hj (by omega)⟩
    .have h3:¬s.aQ[k+1].r<=s.aQ[k].r:=λh=>by simp[h1,h2,h]at hq
     simp[s1,e1,s3,s4,e4,ae,cZ,ss,j9,h0,h1,h2,h3,fL,aw];exact⟨jw aw hb hp,λj hj Cz=>pW aw hc OU j hj (by omega)⟩
theorem Cj(s:ar):aU s=(s.aV.all (bH · 1 20)&&(s.words.all (gK s)&&(bH s.aV.length 1 6&&kl s&&gL s.gf s.fY 0 9&&gL s.j6 s.j5 0 20&&bH s.cj 1 20&&bH s.words.length 1 4&&bH s.wide 1 400&&bH s.rows 1 3))):=by
 unfold aU mU kl;rw[mB,mB]
 cases bH s.aV.length 1 6<;>cases decide (s.aQ.length<=6)<;>cases bH s.words.length 1 4<;>cases iS (gj s) pg s.aQ<;>cases s.aV.all (bH · 1 20)<;>cases s.words.all (gK s)<;>cases gL s.gf s.fY 0 9<;>simp
theorem Pq(hG:au GI)(s:ar)(hs:mG s):AC prog GI 94 [bQ s] (.ret (.bool (aU s))):=by
 rw[Cj];have q1:=hs.aV;have q2:=hs.aQ;have q3:=hs.words;refine bP hG func94 ntmps94 c94 ?_;simp[c94,bQ,ae];refine bq 3 s.aV.length (λi S H=>S 1=.box 1 0/\H 1=some (ae s)/\S 3=.int .i64 (i:Nat)/\(∀j (hj:j<s.aV.length),j<i->bH s.aV[j] 1 20=true)) (λi S H h=>h.2.2.1) ⟨by simp,by simp[ae],by simp,by simp⟩ ?_;rintro i hi S H ⟨s1,e1,s3,hb⟩
 by_cases aw:i<s.aV.length
 case pos=>
  have hw:IntKind.i64.wrap ((i:Int)+1)=i+1:=aN (by omega);simp[s1,e1,s3,aw,ae];refine⟨_,by kernel_rfl,nn hG s.aV[i] 1 20,λ_=>rfl,?_⟩;cases hp:bH s.aV[i] 1 20
  .simp[nM (p:=λn=>bH n 1 20) aw hp]
  .simp[s1,e1,s3,aw,hw];exact⟨rfl,jw (p:=λn=>bH n 1 20) aw hb hp⟩
 have cD:i=s.aV.length:=by omega
 subst cD
 have fX:s.aV.all (bH · 1 20)=true:=qh λj hj=>hb j hj hj
 simp[s1,e1,s3,ae,fX];refine bq 4 s.words.length (λi S H=>S 1=.box 1 0/\H 1=some (ae s)/\S 4=.int .i64 (i:Nat)/\(∀j (hj:j<s.words.length),j<i->gK s s.words[j]=true)) (λi S H h=>h.2.2.1) ⟨by simp[s1],by simp[e1,ae],by simp,by simp⟩ ?_;clear s1 e1 s3 hb S H;rintro i hi S H ⟨s1,e1,s4,hb⟩
 by_cases aw:i<s.words.length
 case pos=>
  have hw:IntKind.i64.wrap ((i:Int)+1)=i+1:=aN (by omega);simp[s1,e1,s4,aw,ae,bW];refine⟨_,by kernel_rfl,MU hG s q1 s.words[i] (hs.aG _ (ae_ aw)) (hs.bD _ (ae_ aw)),λ_=>rfl,?_⟩;cases hp:gK s s.words[i]
  .simp[nM aw hp]
  .simp[s1,e1,s4,aw,hw];exact⟨rfl,jw aw hb hp⟩
 have cD:i=s.words.length:=by omega
 subst cD
 have M9:s.words.all (gK s)=true:=qh λj hj=>hb j hj hj
 simp[s1,e1,s4,ae,M9];refine⟨_,by kernel_rfl,nn hG s.aV.length 1 6,λ_=>rfl,?_⟩;cases h1:bH s.aV.length 1 6
 .simp
 simp[s1,e1,s4,ae];refine⟨_,by kernel_rfl,LM hG s q1 q2,λ_=>rfl,?_⟩;cases h2:kl s
 .simp
 simp[s1,e1,s4,ae];refine⟨_,by kernel_rfl,B1 hG s.gf s.fY 9,λ_=>rfl,?_⟩;cases h3:gL s.gf s.fY 0 9
 .simp
 simp[s1,e1,s4,ae];refine⟨_,by kernel_rfl,B1 hG s.j6 s.j5 20,λ_=>rfl,?_⟩;cases h4:gL s.j6 s.j5 0 20
 .simp
 simp[s1,e1,s4,ae];refine⟨_,by kernel_rfl,nn hG s.cj 1 20,λ_=>rfl,?_⟩;cases h5:bH s.cj 1 20
 .simp
 simp[s1,e1,s4,ae];refine⟨_,by kernel_rfl,nn hG s.words.length 1 4,λ_=>rfl,?_⟩;cases h6:bH s.words.length 1 4
 .simp
 simp[s1,e1,s4,ae];refine⟨_,by kernel_rfl,Mn hG s.wide,λ_=>rfl,?_⟩;cases h7:bH s.wide 1 400
 .simp
 simp[s1,e1,s4,ae];refine⟨_,by kernel_rfl,nn hG s.rows 1 3,λ_=>rfl,?_⟩;simp
end Go.Proofs.Tryz
namespace Go.Proofs.Tryz
open Go.AL
noncomputable def c6:af:=(.seq (.ops [⟨(some 2),none,.box 31 15 (.t 0)⟩,⟨(some 4),none,.mv true (.c (.bool false))⟩]) (.seq (gO 126 f6.cO.cB.cA) (.seq (gO 126 f6.cO.cB.cB.cA) (.seq (gO 126 f6.cO.cB.cB.cB.cA) (.seq (gO 126 f6.cO.cB.cB.cB.cB.cA) (.seq (.ops [⟨(some 11),none,.mv true (.c (.int .i64 0))⟩]) (.seq (gO 126 f6.cO.cB.cB.cB.cB.cB.cB.cA) (.seq (.seq (gO 126 f6.cO.cB.cB.cB.cB.cB.cB.cB.cA.cA) (.cond (.t 87) (.seq (.ops [⟨(some 4),none,.mv true (.c (.bool false))⟩])<|.ret) (.skip))) (.seq (gO 126 f6.cO.cB.cB.cB.cB.cB.cB.cB.cB.cA) (.seq (gO 126 f6.cO.cB.cB.cB.cB.cB.cB.cB.cB.cB.cA) (gO 126 f6.cO.cB.cB.cB.cB.cB.cB.cB.cB.cB.cB)))))))))))
def dp(a b:End):Bool:=decide (a.1<b.1)||(a.1==b.1&&decide (a.2<b.2))
theorem km{a b:End}:dp a b=true↔a.1<b.1\/a.1=b.1/\a.2<b.2:=by
 simp[dp]
section
variable{l:List End}
end
def ko(s:ar)(n:Int):Bool:=match s.words[n.toNat]? with|some w=>!w.free|none=>false
def ec(s:ar)(out:List Int):Bool:=eb out 0 (s.words.length-1)&&decide (out.length<s.words.length)&&!(out.any (ko s))
def eX(s:ar)(out:List Int)(n:Nat):List End:=if out.contains (n:Int)then[]else match s.words[n]? with
 |some w=>(w.bD.map λk=>((n:Int),k))++[((n:Int),(w.aG.length:Int))]
 |none=>[]
def fJ(s:ar)(out:List Int):List End:=(List.range s.words.length).flatMap (eX s out)
def gI(out:List Int):Nat->Int
 |0=> -1
 |n+1=>if out.contains (n:Int)then gI out n else n
def nU(s:ar)(out:List Int)(e:End):Bool:=bH e.1 0 (s.words.length-1)&&!out.contains e.1&&match s.words[e.1.toNat]? with
 |some w=>e.2==(w.aG.length:Int)||w.bD.contains e.2
 |none=>false
def hZ(s:ar)(out:List Int):End:=(gI out s.words.length,match s.words[(gI out s.words.length).toNat]? with|some w=>(w.aG.length:Int)|none=>0)
def gW(s:ar)(out:List Int)(es:List End):Bool:=ec s out&&!es.isEmpty&&(iS (nU s out) dp es&&(es.getLast?.getD (-1,0)==hZ s out))
theorem tA{s:ar}{out:List Int}{e:End}:e∈fJ s out↔nU s out e=true:=by
 unfold fJ nU bH;rw[ahh];simp only[afE,afa,aff,afT,aht,agD]
 constructor
 .rintro⟨n,hn,he⟩;unfold eX at he;split at he
  .cases he
  rename_i hc
  have hc:¬(n:Int)∈out:=by simpa using hc
  rw[ae9 hn]at he;simp only[afr,afp,afs]at he
  have h1:e.1=n:=by rcases he with⟨k,_,rfl⟩|rfl<;>rfl
  rw[h1];refine⟨⟨by omega,hc⟩,?_⟩;rw[Int.toNat_natCast,ae9 hn];simp only[age,afY,aff];rcases he with⟨k,hk,rfl⟩|rfl
  .exact .inr hk
  .exact .inl rfl
 .rintro⟨⟨⟨h1,h2⟩,hc⟩,h3⟩;obtain⟨w,k⟩:=e
  obtain⟨n,rfl⟩:∃n:Nat,w=n:=⟨w.toNat,by simp only at h1;omega⟩
  simp only at h1 h2 hc h3
  have hn:n<s.words.length:=by omega
  refine⟨n,hn,?_⟩;unfold eX;rw[if_neg (by simpa using hc)];rw[Int.toNat_natCast,ae9 hn]at h3;rw[ae9 hn];simp only[age,afY,aff]at h3;simp only[afr,afp,afs];rcases h3 with rfl|h3
  .exact .inr rfl
  .exact .inl ⟨k,h3,rfl⟩
theorem oU{s:ar}{out:List Int}(hw:∀w∈s.words,eb w.bD 1 (w.aG.length-1)=true):(fJ s out).Pairwise λa b=>dp a b=true:=by
 unfold fJ;rw[List.pairwise_flatMap]
 constructor
 .intro n hn;rw[afE]at hn;unfold eX;split
  .exact .nil
  rw[ae9 hn];have h:=hw s.words[n] (ae_ hn);unfold eb at h;rw[eF]at h;obtain⟨h1,h2⟩:=h;simp only;rw[agy];refine⟨?_,agM _ _,?_⟩
  .rw[List.pairwise_map]
   have:s.words[n].bD.Pairwise λa b=>a<b:=AX λj hj=>by simpa using h2 j hj
   exact this.imp λh=>by simp[dp,h]
  .intro a ha b hb;rw[afs]at hb;subst hb;obtain⟨k,hk,rfl⟩:=afp.1 ha;have:=h1 k hk;simp[bH]at this;simp[dp];omega
 .refine List.Pairwise.imp_of_mem ?_ ahw;intro a b ha hb oD x hx y hy
  have Eu:x.1=a:=by
   unfold eX at hx;split at hx
   .cases hx
   split at hx
   .simp only[afr,afp,afs]at hx
    rcases hx with⟨k,_,rfl⟩|rfl<;>rfl
   .cases hx
  have A_:y.1=b:=by
   unfold eX at hy;split at hy
   .cases hy
   split at hy
   .simp only[afr,afp,afs]at hy
    rcases hy with⟨k,_,rfl⟩|rfl<;>rfl
   .cases hy
  rw[km,Eu,A_];left;omega
theorem r_{out:List Int}:∀n:Nat,(gI out n= -1/\∀k:Nat,k<n->(k:Int)∈out)\/∃m:Nat,m<n/\gI out n=m/\¬(m:Int)∈out/\∀k:Nat,m<k->k<n->(k:Int)∈out
 |0=>.inl ⟨rfl,λk hk=>by omega⟩
 |n+1=>by
  unfold gI;split
  .rename_i hc
   have hc:(n:Int)∈out:=by simpa using hc
   rcases r_ (out:=out) n with⟨h1,h2⟩|⟨m,h1,h2,h3,h4⟩
   .refine .inl ⟨h1,λk hk=>?_⟩
    by_cases e:k=n
    .subst e;exact hc
    .exact h2 k (by omega)
   .refine .inr ⟨m,by omega,h2,h3,λk hk ee=>?_⟩
    by_cases e:k=n
    .subst e;exact hc
    .exact h4 k hk (by omega)
  .rename_i hc;exact .inr ⟨n,by omega,rfl,by simpa using hc,λk h1 h2=>by omega⟩
theorem CH{s:ar}{out:List Int}(h:ec s out=true):∃m:Nat,m<s.words.length/\gI out s.words.length=m/\¬(m:Int)∈out/\∀k:Nat,m<k->k<s.words.length->(k:Int)∈out:=by
 unfold ec at h;simp only[afa,aff]at h;obtain⟨⟨h1,h2⟩,_⟩:=h;rcases r_ (out:=out) s.words.length with⟨_,h3⟩|h3
 .exfalso;unfold eb at h1;rw[eF]at h1;obtain⟨_,h1⟩:=h1
  have hp:out.Pairwise λa b=>a<b:=AX λj hj=>by simpa using h1 j hj
  have hp:=af_.1 hp
  have key:∀k:Nat,k<s.words.length->∃j,k<=j/\∃hj:j<out.length,out[j]=k:=by
   intro k
   induction k with
   |zero=>
    intro hk;obtain⟨j,hj,e⟩:=afD (h3 0 hk);exact⟨j,by omega,hj,e⟩
   |succ k ih=>
    intro hk;obtain⟨j,VO,hj,e⟩:=ih (by omega);obtain⟨j',fj,e'⟩:=afD (h3 (k+1) hk);refine⟨j',?_,fj,e'⟩;rcases Nat.lt_trichotomy j j' with h|h|h
    .omega
    .subst h;omega
    .have:=hp j' j fj hj h;omega
  obtain⟨j,VO,hj,_⟩:=key (s.words.length-1) (by omega);omega
 .exact h3
theorem tL{s:ar}{out:List Int}(h:ec s out=true):(fJ s out).getLast?=some (hZ s out):=by
 obtain⟨m,h1,h2,h3,h4⟩:=CH h
 have hl:hZ s out=((m:Int),((s.words[m]).aG.length:Int)):=by
  unfold hZ;rw[h2,Int.toNat_natCast,ae9 h1]
 rw[hl];unfold fJ
 obtain⟨d,hd⟩:∃d,s.words.length=m+1+d:=⟨s.words.length-m-1,by omega⟩
 have key:∀d,m+1+d<=s.words.length->((List.range (m+1+d)).flatMap (eX s out)).getLast?=some ((m:Int),((s.words[m]).aG.length:Int)):=by
  intro d
  induction d with
  |zero=>
   intro _;rw[Nat.add_zero,afM,agm,agF]
   have hm:¬(out.contains (m:Int)=true):=by simpa using h3
   have e:eX s out m=(s.words[m].bD.map λk=>((m:Int),k))++[((m:Int),(s.words[m].aG.length:Int))]:=by
    unfold eX;rw[if_neg hm,ae9 h1]
   rw[e,<-agd,ahC];simp
  |succ d ih=>
   intro hle;rw[<-ahU,afM,agm,agF]
   have hc:out.contains ((m+1+d:Nat):Int)=true:=by simpa using h4 (m+1+d) (by omega) (by omega)
   have e:eX s out (m+1+d)=[]:=by
    unfold eX;rw[if_pos hc]
   rw[e,afL];exact ih (by omega)
 rw[hd];exact key d (by omega)
def bT(s:ar)(w:Nat):Nat:=match s.words[w]? with|some x=>x.aG.length|none=>0
theorem eT{s:ar}{w:Nat}(h:w<s.words.length):bT s w=s.words[w].aG.length:=by unfold bT;rw[ae9 h]
def jU(w f t:Nat):List (Nat×Nat):=(List.range' f (t-f)).map λi=>(w,i)
def fT(s:ar)(out:List Int):Nat->Nat->Nat->Nat->List (Nat×Nat)
 |0,w,f,t=>jU w f t
 |d+1,w,f,t=>(if out.contains (w:Int)then[]else jU w f (bT s w))++fT s out d (w+1) 0 t
def fN(s:ar)(out:List Int)(a e:Nat×Nat):List (Nat×Nat):=fT s out (e.1-a.1) a.1 a.2 e.2
theorem vB{w f t:Nat}(h:t<=f):jU w f t=[]:=by
 unfold jU;rw[show t-f=0 by omega];rfl
theorem wo{w f t:Nat}(h:f<t):jU w f t=(w,f)::jU w (f+1) t:=by
 unfold jU;rw[show t-f=(t-(f+1))+1 by omega,agr];rfl
theorem AO{w f t:Nat}(h:f<=t):jU w f (t+1)=jU w f t++[(w,t)]:=by
 unfold jU;rw[show t+1-f=(t-f)+1 by omega,agL,afu];simp only[afv,afB,Nat.one_mul];rw[show f+(t-f)=t by omega]
theorem vQ{w f t:Nat}:(jU w f t).length=t-f:=by simp[jU]
theorem Ap{w f t:Nat}{g:Nat×Nat}:g∈jU w f t↔g.1=w/\f<=g.2/\g.2<t:=by
 unfold jU;rw[afp];simp only[agI]
 constructor
 .rintro⟨i,hi,rfl⟩;exact⟨rfl,hi.1,by have:=hi.2;show i<t;omega⟩
 .rintro⟨h1,h2,h3⟩;exact⟨g.2,by omega,by rw[<-h1]⟩
theorem B5{s:ar}{out:List Int}{w f t:Nat}(h:t<=f):fN s out (w,f) (w,t)=[]:=by
 unfold fN;simp only[ahi];exact vB h
theorem qI{s:ar}{out:List Int}{w f t:Nat}:fN s out (w,f) (w,t)=jU w f t:=by
 unfold fN;simp only[ahi]
 rfl
theorem lB{s:ar}{out:List Int}{w f:Nat}{e:Nat×Nat}(h:w<e.1):fN s out (w,f) e=(if out.contains (w:Int)then[]else jU w f (bT s w))++fN s out (w+1,0) e:=by
 unfold fN;simp only;rw[show e.1-w=(e.1-(w+1))+1 by omega]
 rfl
theorem AP{s:ar}{out:List Int}{w f:Nat}{e:Nat×Nat}(h:w<e.1)(hc:out.contains (w:Int)=true):fN s out (w,f) e=fN s out (w+1,0) e:=by
 rw[lB h,if_pos hc,List.nil_append]
theorem Ct{s:ar}{out:List Int}{w f:Nat}{e:Nat×Nat}(h:w<e.1)(hf:bT s w<=f):fN s out (w,f) e=fN s out (w+1,0) e:=by
 rw[lB h];split
 .rfl
 .rw[vB hf];rfl
theorem Ft{s:ar}{out:List Int}{w f:Nat}{e:Nat×Nat}(h:w<e.1/\out.contains (w:Int)=false/\f<bT s w\/w=e.1/\f<e.2):fN s out (w,f) e=(w,f)::fN s out (w,f+1) e:=by
 rcases h with⟨h,hc,hf⟩|⟨h,hf⟩
 .rw[lB h,lB h,hc];simp only[afj,afx];rw[wo hf];rfl
 .obtain⟨ew,et⟩:=e;simp only at h hf;subst h;rw[qI,qI,wo hf]
theorem tc{s:ar}{out:List Int}{b:Nat}(hb:∀w,bT s w<=b):∀(d w f t:Nat),t<=b->(fT s out d w f t).length<=(d+1)*b
 |0,w,f,t,h=>by
  unfold fT;rw[vQ];omega
 |d+1,w,f,t,h=>by
  unfold fT;rw[afm];have h1:=tc (out:=out) hb d (w+1) 0 t h
  have h2:(if out.contains (w:Int)then[]else jU w f (bT s w)).length<=b:=by
   split
   .simp
   .rw[vQ];have:=hb w;omega
  have:(d+1+1)*b=(d+1)*b+b:=ail _ _;omega
theorem vY{s:ar}{out:List Int}:∀(d w f t:Nat){g:Nat×Nat},g∈fT s out d w f t->(g.1=w+d/\g.2<t)\/(w<=g.1/\g.1<w+d/\g.2<bT s g.1)
 |0,w,f,t,g,h=>by
  have:=Ap.1 h;left;omega
 |d+1,w,f,t,g,h=>by
  unfold fT at h;rcases afr.1 h with h|h
  .split at h
   .cases h
   .have:=Ap.1 h;right;rw[this.1];omega
  .rcases vY d (w+1) 0 t h with h|h
   .left;omega
   .right;omega
theorem v_{s:ar}{out:List Int}:∀(d w f t:Nat),(d=0->f<t)->0<t->(fT s out d w f t).getLast?=some (w+d,t-1)
 |0,w,f,t,h,h'=>by
  have h:=h rfl;unfold fT
  obtain⟨t,rfl⟩:∃t',t=t'+1:=⟨t-1,by omega⟩
  rw[AO (by omega)];simp
 |d+1,w,f,t,h,h'=>by
  unfold fT;have:=v_ (s:=s) (out:=out) d (w+1) 0 t (λ_=>h') h';rw[ahC,this];show some (w+1+d,t-1)=some (w+(d+1),t-1);rw[show w+1+d=w+(d+1) by omega]
def nE(e:End):Nat×Nat:=(e.1.toNat,e.2.toNat)
def ia(es:List End):Nat->Nat×Nat
 |0=>(0,0)
 |i+1=>match es[i]? with|some e=>nE e|none=>(0,0)
def fm(s:ar)(out:List Int)(es:List End)(i:Nat):List (Nat×Nat):=match es[i]? with|some e=>fN s out (ia es i) (nE e)|none=>[]
def gV(s:ar)(es:List End)(i:Nat):Bool:=match es[i]? with|some e=>decide (e.2<(bT s e.1.toNat:Int))|none=>false
structure Good(s:ar)(out:List Int)(es:List End):Prop where
 one:∀i (h:i<es.length),0<=es[i].1/\es[i].1<s.words.length/\out.contains es[i].1=false/\1<=es[i].2/\es[i].2<=bT s es[i].1.toNat
 Rd:∀i (h:i+1<es.length),es[i].1<es[i+1].1\/es[i].1=es[i+1].1/\es[i].2<es[i+1].2
theorem vf{s:ar}(h:aU s=true){w:Word}(hw:w∈s.words):gK s w=true:=by
 unfold aU mU at h;simp only[afa,afT,agb]at h;have:=h.2.1.1.2 w hw;simpa using this
structure M8(s:ar)(w:Word):Prop where
 z_:1<=w.aG.length
 rz:w.aG.length<=6
 sign:∀n∈w.aG,0<=n/\n<s.aV.length
 bD:eb w.bD 1 (w.aG.length-1)=true
theorem jK{s:ar}(h:aU s=true){w:Word}(hw:w∈s.words):M8 s w:=by
 have h:=vf h hw;unfold gK at h;simp only[afa,afT,agb,bH,aff]at h;obtain⟨⟨⟨h1,h2⟩,h3⟩,h4⟩:=h;refine⟨by omega,by omega,λn hn=>?_,h4⟩;have:=h3 n hn;simp[fB,bH]at this;omega
theorem nL{s:ar}{out:List Int}{es:List End}(hs:aU s=true)(h:gW s out es=true):Good s out es:=by
 unfold gW at h;simp only[afa]at h;obtain⟨_,h,_⟩:=h;rw[eF]at h;obtain⟨h1,h2⟩:=h;refine⟨λi hi=>?_,λi hi=>?_⟩
 .have:=h1 _ (ae_ hi);unfold nU bH at this;simp only[afa,aff,afT]at this;obtain⟨⟨⟨a1,a2⟩,a3⟩,a4⟩:=this
  have aw:es[i].1.toNat<s.words.length:=by omega
  rw[ae9 aw]at a4;have hw:=jK hs (ae_ aw);rw[eT aw];refine⟨a1,by omega,a3,?_⟩;simp only[age,afY]at a4;rcases a4 with a4|a4
  .have:=hw.z_;omega
  .have hc:=hw.bD;unfold eb at hc;rw[eF]at hc;have:=hc.1 _ (by simpa using a4);simp[bH]at this;omega
 .have:=h2 i hi;rw[km]at this;exact this
theorem uJ{s:ar}{out:List Int}{es:List End}(g:Good s out es){i:Nat}(h:i<es.length):(ia es i).1<(nE es[i]).1\/(ia es i).1=(nE es[i]).1/\(ia es i).2<(nE es[i]).2:=by
 cases i with
 |zero=>
  have:=g.one 0 h;show 0<es[0].1.toNat\/0=es[0].1.toNat/\0<es[0].2.toNat;omega
 |succ i=>
  have h1:=g.one i (by omega);have h2:=g.one (i+1) h;have h3:=g.Rd i h
  have e:ia es (i+1)=nE es[i]:=by
   show(match es[i]? with|some e=>nE e|none=>(0,0))=_;rw[ae9 (by omega)]
  rw[e];show es[i].1.toNat<es[i+1].1.toNat\/es[i].1.toNat=es[i+1].1.toNat/\es[i].2.toNat<es[i+1].2.toNat;omega
theorem ln{s:ar}{out:List Int}{es:List End}{i:Nat}(h:i<es.length):fm s out es i=fN s out (ia es i) (nE es[i]):=by
 unfold fm;rw[ae9 h]
theorem rD{s:ar}{es:List End}{i:Nat}(h:i<es.length):gV s es i=decide (es[i].2<(bT s es[i].1.toNat:Int)):=by
 unfold gV;rw[ae9 h]
theorem yl{s:ar}{out:List Int}{es:List End}(g:Good s out es){i:Nat}(h:i<es.length):(fm s out es i).getLast?=some ((nE es[i]).1,(nE es[i]).2-1):=by
 have h1:=uJ g h;have h2:=g.one i h;rw[ln h];unfold fN
 have h3:0<(nE es[i]).2:=by show 0<es[i].2.toNat;omega
 rw[v_ _ _ _ _ (λhd=>by omega) h3]
 congr 2
 omega
theorem vM{s:ar}{out:List Int}{es:List End}(g:Good s out es){i:Nat}(h:i<es.length):fm s out es i≠[]:=by
 intro e;have:=yl g h;rw[e]at this;cases this
theorem AQ{s:ar}{out:List Int}{es:List End}(g:Good s out es){i:Nat}{x:Nat×Nat}(hx:x∈fm s out es i):x.1<s.words.length/\x.2<bT s x.1:=by
 by_cases h:i<es.length
 case neg=>
  unfold fm at hx;rw[afn (by omega)]at hx;cases hx
 have h1:=uJ g h;have h2:=g.one i h;rw[ln h]at hx;have e1:(nE es[i]).1=es[i].1.toNat:=rfl;have e2:(nE es[i]).2=es[i].2.toNat:=rfl
 rcases vY _ _ _ _ hx with⟨h3,h4⟩|⟨h3,h4,h5⟩
 .have h5:x.1=es[i].1.toNat:=by omega
  rw[h5];refine⟨by omega,by omega⟩
 .exact⟨by omega,h5⟩
theorem td{s:ar}{out:List Int}{es:List End}(hs:aU s=true)(g:Good s out es)(i:Nat):(fm s out es i).length<=24:=by
 by_cases h:i<es.length
 case neg=>
  unfold fm;rw[afn (by omega)];simp
 have h2:=g.one i h
 have hb:∀w,bT s w<=6:=by
  intro w;unfold bT;split
  .rename_i x hx;obtain⟨aw,rfl⟩:=af0.1 hx;exact(jK hs (ae_ aw)).rz
  .omega
 rw[ln h];unfold fN;have h3:=tc (s:=s) (out:=out) hb ((nE es[i]).1-(ia es i).1) (ia es i).1 (ia es i).2 (nE es[i]).2 (by have:=hb es[i].1.toNat;show es[i].2.toNat<=6;omega)
 have h4:s.words.length<=4:=by
  unfold aU bH at hs;simp only[afa,aff]at hs;omega
 have h5:(nE es[i]).1<s.words.length:=by show es[i].1.toNat<_;omega
 have h6:((nE es[i]).1-(ia es i).1+1)*6<=4*6:=aho _ (by omega);omega
abbrev Lt:=Int×Int
def bc(s:ar)(g:Nat×Nat):Lt:=((g.1:Int),match s.words[g.1]? with|some w=>w.aG[g.2]?.getD 0|none=>0)
def gZ(lo hi st:Int):Int:=lo+((hi-lo)*st).tdiv 10
def e_(s:ar)(a b:Lt):Int×Int:=if a.1=b.1 then match s.aQ.find? λp=>p.l==a.2&&p.r==b.2 with
 |some p=>(p.lo,p.hi)
 |none=>(s.gf,s.fY)
 else(s.j6,s.j5)
def jh(s:ar)(st:Int)(a b:Lt):Int:=gZ (e_ s a b).1 (e_ s a b).2 st
def fx(s:ar)(a:Lt):Int:=if a.2<0 then s.cj else s.aV[a.2.toNat]?.getD 0
def ku(s:ar)(st:Int)(l:List Lt):Nat->Int
 |0=>0
 |i+1=>match l[i]?,l[i+1]? with
  |some a,some b=>ku s st l i+fx s a+jh s st a b
  |_,_=>0
def HJ(s:ar)(st:Int)(l:List Lt):Int:=match l[l.length-1]? with
 |some a=>ku s st l (l.length-1)+fx s a
 |none=>0
theorem qM{s:ar}{st:Int}{l:List Lt}{i:Nat}(h:i+1<l.length):ku s st l (i+1)=ku s st l i+fx s (l[i]'(by omega))+jh s st (l[i]'(by omega)) l[i+1]:=by
 show(match l[i]?,l[i+1]? with|some a,some b=>ku s st l i+fx s a+jh s st a b|_,_=>0)=_;rw[ae9 (by omega),ae9 h]
theorem Fz{s:ar}{st:Int}{l:List Lt}(h:l≠[]):HJ s st l=ku s st l (l.length-1)+fx s (l[l.length-1]'(by have:=afP.2 h;omega)):=by
 have:=afP.2 h;unfold HJ;rw[ae9 (by omega)]
theorem C3{s:ar}{st:Int}{l r:List Lt}:∀{i:Nat},i<l.length->ku s st (l++r) i=ku s st l i
 |0,_=>rfl
 |i+1,h=>by
  rw[qM h,qM (by rw[afm];omega),C3 (by omega),afz (by omega),afz h]
def fh(s:ar)(st:Int)(l:List Lt):Nat->Int
 |0=>0
 |i+1=>fh s st l i+(match l[i]?,l[i+1]? with|some a,some b=>jh s st a b|_,_=>0)
theorem mg{s:ar}{st:Int}{l:List Lt}{i:Nat}(h:i+1<l.length):fh s st l (i+1)=fh s st l i+jh s st (l[i]'(by omega)) l[i+1]:=by
 show fh s st l i+(match l[i]?,l[i+1]? with|some a,some b=>jh s st a b|_,_=>0)=_;rw[ae9 (by omega),ae9 h]
def fb(s:ar)(l:List Lt):Nat->Int
 |0=>0
 |i+1=>fb s l i+(match l[i]? with|some a=>fx s a|none=>0)
theorem mf{s:ar}{l:List Lt}{i:Nat}(h:i<l.length):fb s l (i+1)=fb s l i+fx s l[i]:=by
 show fb s l i+(match l[i]? with|some a=>fx s a|none=>0)=_;rw[ae9 h]
theorem DL{s:ar}{st:Int}{l:List Lt}:∀{i:Nat},i<l.length->ku s st l i=fb s l i+fh s st l i
 |0,_=>rfl
 |i+1,h=>by
  rw[qM h,mf (by omega),mg h,DL (by omega)];omega
def fP(s:ar)(st:Int)(l:List Lt)(cut:Bool):Int:=(fb s l l.length+(if cut then s.cj else 0))+(fh s st l (l.length-1)+(if cut then gZ s.gf s.fY st else 0))
def tI(l:List Lt)(cut:Bool)(w:Int):List Lt:=if cut then l++[(w,-1)]else l
theorem E5{s:ar}{w:Int}:fx s (w,-1)=s.cj:=rfl
theorem Oy{s:ar}{st:Int}{l:List Lt}{cut:Bool}{w:Int}(hl:l≠[])(hw:(l[l.length-1]'(by have:=afP.2 hl;omega)).1=w)(hp:∀p∈s.aQ,0<=p.r):HJ s st (tI l cut w)=fP s st l cut:=by
 have jb:=afP.2 hl;unfold tI fP
 obtain⟨n,hn⟩:∃n,l.length=n+1:=⟨l.length-1,by omega⟩
 cases cut with
 |false=>
  simp only[afj,afx];rw[Fz hl,DL (by omega)]
  have e1:fb s l l.length=fb s l (l.length-1)+fx s l[l.length-1]:=by
   have:=mf (s:=s) (l:=l) (i:=l.length-1) (by omega);rwa [show l.length-1+1=l.length by omega]at this
  omega
 |true=>
  simp only[afH]
  have dO:l++[(w,(-1:Int))]≠[]:=by simp
  have hlen:(l++[(w,(-1:Int))]).length-1=l.length:=by simp
  rw[Fz dO]
  have e0:(l++[(w,(-1:Int))])[(l++[(w,(-1:Int))]).length-1]'(by simp)=(w,-1):=by
   simp
  rw[e0,hlen,E5]
  have e1:ku s st (l++[(w,(-1:Int))]) l.length=ku s st l (l.length-1)+fx s l[l.length-1]+jh s st l[l.length-1] (w,-1):=by
   have h1:=qM (s:=s) (st:=st) (l:=l++[(w,(-1:Int))]) (i:=l.length-1) (by simp;omega)
   have e2:l.length-1+1=l.length:=by omega
   have e3:(l++[(w,(-1:Int))])[l.length-1+1]'(by simp;omega)=(w,-1):=by
    simp[e2]
   rw[e3,afz (by omega),C3 (l:=l) (i:=l.length-1) (by omega),e2]at h1;exact h1
  have e2:jh s st l[l.length-1] (w,-1)=gZ s.gf s.fY st:=by
   unfold jh e_
   have hf:(s.aQ.find? λp=>p.l==l[l.length-1].2&&p.r==(-1:Int))=none:=by
    rw[agw];intro p XZ;have:=hp p XZ;simp;omega
   simp only[hw,afH,hf]
  rw[e1,e2,DL (by omega)]
  have e3:fb s l l.length=fb s l (l.length-1)+fx s l[l.length-1]:=by
   have:=mf (s:=s) (l:=l) (i:=l.length-1) (by omega);rwa [show l.length-1+1=l.length by omega]at this
  omega
theorem iL{lo hi st:Int}(h:lo<=hi)(h0:0<=st)(h1:st<=10):lo<=gZ lo hi st/\gZ lo hi st<=hi:=by
 unfold gZ;have a:0<=(hi-lo)*st:=agc (by omega) h0;have b:(hi-lo)*st<=(hi-lo)*10:=Int.mul_le_mul_of_nonneg_left h1 (by omega);rw[Int.tdiv_eq_ediv_of_nonneg a];generalize(hi-lo)*st=x at a b⊢;omega
theorem F'{lo hi a b:Int}(h:lo<=hi)(h0:0<=a)(h1:a<=b):gZ lo hi a<=gZ lo hi b:=by
 unfold gZ;have x:0<=(hi-lo)*a:=agc (by omega) h0;have y:(hi-lo)*a<=(hi-lo)*b:=Int.mul_le_mul_of_nonneg_left h1 (by omega);rw[Int.tdiv_eq_ediv_of_nonneg x,Int.tdiv_eq_ediv_of_nonneg (by omega)];generalize(hi-lo)*a=p at x y⊢;generalize(hi-lo)*b=q at y⊢;omega
structure ja(s:ar):Prop where
 aV:∀n∈s.aV,1<=n/\n<=20
 KN:s.aV.length<=6
 aQ:∀p∈s.aQ,0<=p.l/\0<=p.r/\0<=p.lo/\p.lo<=p.hi/\p.hi<=9
 Kz:s.aQ.length<=6
 o:0<=s.gf/\s.gf<=s.fY/\s.fY<=9
 g:0<=s.j6/\s.j6<=s.j5/\s.j5<=20
 cj:1<=s.cj/\s.cj<=20
 words:1<=s.words.length/\s.words.length<=4
 wide:1<=s.wide/\s.wide<=400
 rows:1<=s.rows/\s.rows<=3
theorem dP{s:ar}(h:aU s=true):ja s:=by
 unfold aU mU gL bH at h;simp only[afa,aff,afT,agb,eF]at h;obtain⟨⟨⟨⟨h1,h2⟩,h3⟩,h4,_⟩,⟨⟨⟨⟨⟨h5,h6⟩,h7⟩,h8⟩,_⟩,h9⟩,l3⟩:=h;refine⟨λn hn=>?_,by omega,λp hp=>?_,h2,by omega,by omega,by omega,by omega,h9,l3⟩
 .have:=h5 n hn;simpa using this
 .have:=h4 p hp;unfold gj fB gL bH at this;simp only[afa,aff]at this;omega
theorem lK{s:ar}(h:ja s)(a b:Lt):0<=(e_ s a b).1/\(e_ s a b).1<=(e_ s a b).2/\(e_ s a b).2<=20:=by
 unfold e_;split
 .split
  .rename_i p hp;have:=h.aQ p (ag8 hp);simp only;omega
  .have:=h.o;simp only;omega
 .have:=h.g;simp only;omega
theorem pI{s:ar}(h:ja s){st:Int}(h0:0<=st)(h1:st<=10)(a b:Lt):0<=jh s st a b/\jh s st a b<=20:=by
 have h2:=lK h a b;have h3:=iL h2.2.1 h0 h1;unfold jh;omega
def y0(s:ar)(a:Lt):Prop:=0<=a.2/\a.2<s.aV.length
theorem pH{s:ar}(h:ja s){a:Lt}(ha:y0 s a):1<=fx s a/\fx s a<=20:=by
 unfold fx;rw[if_neg (by have:=ha.1;omega)]
 have aw:a.2.toNat<s.aV.length:=by have:=ha.1;have:=ha.2;omega
 rw[ae9 aw];exact h.aV _ (ae_ aw)
theorem lD{s:ar}(h:ja s){l:List Lt}(hl:∀a∈l,y0 s a):∀{i:Nat},i<=l.length->(i:Int)<=fb s l i/\fb s l i<=20*i
 |0,_=>by simp[fb]
 |i+1,hi=>by
  rw[mf (by omega)];have:=lD h hl (i:=i) (by omega);have:=pH h (hl _ (ae_ (show i<l.length by omega)));omega
theorem lA{s:ar}(h:ja s){st:Int}(h0:0<=st)(h1:st<=10){l:List Lt}:∀{i:Nat},i+1<=l.length->0<=fh s st l i/\fh s st l i<=20*i
 |0,_=>by simp[fh]
 |i+1,hi=>by
  rw[mg hi];have:=lA h h0 h1 (l:=l) (i:=i) (by omega);have:=pI h h0 h1 (l[i]'(by omega)) (l[i+1]'hi);omega
theorem El{s:ar}(h:ja s){a b:Int}(h0:0<=a)(h1:a<=b){l:List Lt}:∀{i:Nat},i+1<=l.length->fh s a l i<=fh s b l i
 |0,_=>by simp[fh]
 |i+1,hi=>by
  rw[mg hi,mg hi];have:=El h h0 h1 (l:=l) (i:=i) (by omega);have h2:=lK h (l[i]'(by omega)) (l[i+1]'hi);have:jh s a (l[i]'(by omega)) (l[i+1]'hi)<=jh s b (l[i]'(by omega)) (l[i+1]'hi):=F' h2.2.1 h0 h1;omega
theorem Kq{s:ar}(h:ja s){a b:Int}(h0:0<=a)(h1:a<=b){l:List Lt}(hl:l≠[])(cut:Bool):fP s a l cut<=fP s b l cut:=by
 have jb:=afP.2 hl;unfold fP;have:=El h h0 h1 (l:=l) (i:=l.length-1) (by omega);have:=F' h.o.2.1 h0 h1
 split<;>omega
theorem vj{s:ar}(h:ja s){st:Int}(h0:0<=st)(h1:st<=10){l:List Lt}(hl:l≠[])(ho:∀a∈l,y0 s a)(hlen:l.length<=24)(cut:Bool):1<=fP s st l cut/\fP s st l cut<=1000:=by
 have jb:=afP.2 hl;unfold fP;have:=lA h h0 h1 (l:=l) (i:=l.length-1) (by omega);have:=lD h ho (i:=l.length) (by omega);have:=iL h.o.2.1 h0 h1;have:=h.o;have:=h.cj
 split<;>omega
def iO(s:ar)(out:List Int)(es:List End)(st:Int)(i:Nat):Int:=fP s st ((fm s out es i).map (bc s)) (gV s es i)
def cJ(s:ar)(out:List Int)(es:List End)(st:Int):List Int:=(List.range es.length).map (iO s out es st)
def eA(s:ar)(out:List Int)(es:List End)(st:Int):Bool:=decide ((es.length:Int)<=s.rows)&&(cJ s out es st).all λn=>decide (n<=s.wide)
def jx(p:Int->Bool):Nat->Int
 |0=> -1
 |n+1=>if p n then n else jx p n
def il(s:ar)(out:List Int)(es:List End):Int:=jx (eA s out es) 11
theorem A8(p:Int->Bool):∀n:Nat,-1<=jx p n/\jx p n<n
 |0=>by simp[jx]
 |n+1=>by
  unfold jx;have:=A8 p n
  split<;>omega
theorem Es{p:Int->Bool}:∀{n:Nat},0<=jx p n->p (jx p n)=true
 |0,h=>by simp[jx]at h
 |n+1,h=>by
  unfold jx at h⊢;split
  .rename_i hp;exact hp
  .rename_i hp;rw[if_neg hp]at h;exact Es h
theorem C2{p:Int->Bool}:∀{n:Nat}{k:Int},0<=k->jx p n<k->k<n->p k=false
 |0,k,h0,h1,h2=>by omega
 |n+1,k,h0,h1,h2=>by
  unfold jx at h1;split at h1
  .omega
  .rename_i hp
   by_cases e:k=n
   .subst e;simpa using hp
   .exact C2 h0 h1 (by omega)
theorem CP{s:ar}(hs:aU s=true){g:Nat×Nat}(h:g.1<s.words.length/\g.2<bT s g.1):y0 s (bc s g):=by
 obtain⟨h1,h2⟩:=h;rw[eT h1]at h2;unfold bc y0;simp only;rw[ae9 h1];simp only;rw[ae9 h2];exact(jK hs (ae_ h1)).sign _ (ae_ h2)
section
variable{s:ar}{out:List Int}{es:List End}
theorem J9(hs:aU s=true)(g:Good s out es){i:Nat}:∀a∈(fm s out es i).map (bc s),y0 s a:=by
 intro a ha;obtain⟨x,hx,rfl⟩:=afp.1 ha;exact CP hs (AQ g hx)
theorem GS(g:Good s out es){i:Nat}(h:i<es.length):(fm s out es i).map (bc s)≠[]:=by
 intro e;exact vM g h (List.map_eq_nil_iff.1 e)
theorem KJ(hs:aU s=true)(g:Good s out es){a b:Int}(h0:0<=a)(h1:a<=b){i:Nat}(h:i<es.length):iO s out es a i<=iO s out es b i:=
 Kq (dP hs) h0 h1 (GS g h) _
theorem Mj(hs:aU s=true)(g:Good s out es){a b:Int}(h0:0<=a)(h1:a<=b)(h:eA s out es b=true):eA s out es a=true:=by
 unfold eA cJ at h⊢;simp only[afa,afC,afp,afE,aff]at h⊢;refine⟨h.1,?_⟩;rintro n ⟨i,hi,rfl⟩;have:=h.2 _ ⟨i,hi,rfl⟩;have:=KJ hs g h0 h1 hi;omega
theorem LZ(hs:aU s=true)(g:Good s out es){a:Int}(h0:0<=a)(h1:a<=10):eA s out es a=decide (a<=il s out es):=by
 unfold il;have hb:=A8 (eA s out es) 11;rw[afZ,aff]
 constructor
 .intro h
  by_cases aw:jx (eA s out es) 11<a
  .rw[C2 h0 aw (by omega)]at h;cases h
  .omega
 .intro h;exact Mj hs g h0 h (Es (by omega))
end
theorem Im{now es:List End}:∀{all:List End}{m:Nat},all≠[]->all.Nodup->(es∈ch now all m↔∃t,es=now++t/\t.Sublist all/\t.getLast?=all.getLast?/\t.length<=m):=by
 have key:∀(all:List End),all.Nodup->∀(now:List End)(m:Nat),(all≠[]->(es∈ch now all m↔∃t,es=now++t/\t.Sublist all/\t.getLast?=all.getLast?/\t.length<=m))/\(all≠[]->(es∈lp now all m↔∃t,es=now++t/\t.Sublist all/\t.getLast?=all.getLast?/\t.length<=m+1)):=by
  intro all
  induction all with
  |nil=>intro _ now m;exact⟨λh=>absurd rfl h,λh=>absurd rfl h⟩
  |cons a r ih=>
   intro l7;obtain⟨Tj,UN⟩:=ahH.1 l7;have ih:=ih UN
   have Hq:∀(now:List End)(m:Nat),es∈lp now (a::r) m↔∃t,es=now++t/\t.Sublist (a::r)/\t.getLast?=(a::r).getLast?/\t.length<=m+1:=by
    intro now m;unfold lp;rw[afr]
    by_cases hr:r=[]
    .subst hr;rw[if_pos rfl,afs]
     constructor
     .rintro(h|h)
      .exact⟨[a],h,List.Sublist.refl _,rfl,by simp⟩
      .unfold lp at h;cases h
     .rintro⟨t,h1,h2,h3,h4⟩;left
      have:t=[a]:=by
       cases h2 with
       |cons _ h=>rw[List.sublist_nil.1 h]at h3;cases h3
       |cons_cons _ h=>rw[List.sublist_nil.1 h]
      rw[h1,this]
    .rw[if_neg hr]
     have hl:(a::r).getLast?=r.getLast?:=by
      cases r with
      |nil=>exact absurd rfl hr
      |cons b r=>rfl
     have h1:(es∈(match m with|0=>[]|m+1=>lp (now++[a]) r m))↔∃t,es=now++a::t/\t.Sublist r/\t.getLast?=r.getLast?/\t.length<=m:=by
      cases m with
      |zero=>
       constructor
       .intro h;cases h
       .rintro⟨t,_,_,h3,h4⟩;have:t=[]:=ag7.1 (by omega);subst this;exact absurd (agt.1 h3.symm) hr
      |succ m=>
       simp only;rw[(ih (now++[a]) m).2 hr];simp
     rw[hl];refine(or_congr h1 ((ih now m).2 hr)).trans ?_
     constructor
     .rintro(⟨t,a1,a2,a3,a4⟩|⟨t,a1,a2,a3,a4⟩)
      .refine⟨a::t,a1,a2.cons_cons _,?_,by simp;omega⟩
       cases t with
       |nil=>exact absurd (agt.1 a3.symm) hr
       |cons b t=>rw[<-a3];rfl
      .exact⟨t,a1,a2.cons _,a3,a4⟩
     .rintro⟨t,a1,a2,a3,a4⟩
      cases a2 with
      |cons _ h=>exact .inr ⟨t,a1,h,a3,a4⟩
      |cons_cons _ h=>
       rename_i t;left;refine⟨t,a1,h,?_,by simpa using a4⟩
       cases t with
       |nil=>
        exfalso;apply Tj;exact ahD a3.symm
       |cons b t=>rw[<-a3];rfl
   intro now m;refine⟨λ_=>?_,λ_=>Hq now m⟩;unfold ch;rw[if_neg (by simp)]
   cases m with
   |zero=>
    constructor
    .intro h;cases h
    .rintro⟨t,_,_,h3,h4⟩;have:t=[]:=ag7.1 (by omega);subst this
     cases r with
     |nil=>cases h3
     |cons b r=>exact absurd (agt.1 h3.symm) (by simp)
   |succ m=>exact Hq now m
 intro all m h l7;exact(key all l7 now m).1 h
theorem nv{a b c:End}(h:dp a b=true)(h':dp b c=true):dp a c=true:=by
 rw[km]at*;omega
theorem fo(a:End):dp a a=false:=by
 cases h:dp a a with
 |false=>rfl
 |true=>rw[km]at h;omega
abbrev jn(l:List End):Prop:=l.Pairwise λa b=>dp a b=true
theorem jn.nodup{l:List End}(h:jn l):l.Nodup:=h.imp λoD e=>by
 subst e;rw[fo]at oD;cases oD
theorem nI:∀{all t:List End},jn all->jn t->(∀x∈t,x∈all)->t.Sublist all
 |[],t,_,_,h=>by
  cases t with
  |nil=>exact .slnil
  |cons a t=>exact absurd (h a aft) (by simp)
 |a::r,[],_,_,_=>List.nil_sublist _
 |a::r,b::t,hs,ht,h=>by
  obtain⟨uI,s_⟩:=agz.1 hs;obtain⟨R8,VL⟩:=agz.1 ht;rcases afU.1 (h b aft)with e|hb
  .subst e;refine .cons_cons _ (nI s_ VL λx hx=>?_);rcases afU.1 (h x (afk _ hx))with e|A9
   .subst e;have:=R8 _ hx;rw[fo]at this;cases this
   .exact A9
  .refine .cons _ (nI s_ ht λx hx=>?_);rcases afU.1 (h x hx)with e|A9
   .subst e;exfalso;have h1:=uI b hb;rcases afU.1 hx with e|AJ
    .subst e;rw[fo]at h1;cases h1
    .have:=nv h1 (R8 _ AJ);rw[fo]at this;cases this
   .exact A9
theorem nG{l:List End}(h:∀j (hj:j+1<l.length),dp (l[j]'(by omega)) l[j+1]=true):jn l:=by
 unfold jn;rw[af_];intro i j hi hj oP
 obtain⟨d,rfl⟩:∃d,j=i+1+d:=⟨j-i-1,by omega⟩
 clear oP
 induction d with
 |zero=>exact h i hj
 |succ d ih=>exact nv (ih (by omega)) (h (i+1+d) hj)
section
variable{s:ar}{out:List Int}{es:List End}
theorem Dr(ho:ec s out=true):fJ s out≠[]:=by
 intro e;have:=tL ho;rw[e]at this;cases this
theorem rY(hs:aU s=true):∀w∈s.words,eb w.bD 1 (w.aG.length-1)=true:=λ_ hw=>(jK hs hw).bD
def oQ(s:ar)(out:List Int)(m:Nat):List (List End):=ch [] (fJ s out) m
theorem vx(hs:aU s=true)(ho:ec s out=true){m:Nat}:es∈oQ s out m↔gW s out es=true/\es.length<=m:=by
 have J1:=oU (out:=out) (rY hs);unfold oQ;rw[Im (Dr ho) (jn.nodup J1)];unfold gW;rw[ho,agU,afa,afa,eF,afT,afY];have hl:=tL ho
 constructor
 .rintro⟨t,h1,h2,h3,h4⟩;rw[List.nil_append]at h1;subst h1;rw[h3,hl]
  have dO:es≠[]:=by
   rintro rfl;rw[hl]at h3;cases h3
  have kR:jn es:=J1.sublist h2;refine⟨⟨by simpa using dO,⟨λx hx=>tA.1 (h2.subset hx),λj hj=>af_.1 kR j (j+1) _ _ (by omega)⟩,rfl⟩,h4⟩
 .rintro⟨⟨h1,⟨h2,h3⟩,h4⟩,h5⟩
  have dO:es≠[]:=by
   rintro rfl;cases h1
  refine⟨es,rfl,nI J1 (nG h3) λx hx=>tA.2 (h2 x hx),?_,h5⟩;rw[List.getLast?_eq_some_getLast dO]at h4⊢;rw[hl];exact congrArg some h4
end
def nD:List End->List End->Bool
 |[],[]=>false
 |[],_::_=>true
 |_::_,[]=>false
 |a::x,b::y=>if a=b then nD x y else dp a b
theorem DO(now x y:List End):nD (now++x) (now++y)=nD x y:=by
 induction now with
 |nil=>rfl
 |cons a now ih=>
  show(if a=a then nD (now++x) (now++y)else dp a a)=_;rw[if_pos rfl,ih]
theorem qi:∀l:List End,nD l l=false
 |[]=>rfl
 |a::l=>by
  unfold nD;rw[if_pos rfl];exact qi l
theorem kn{es:List End}:∀{all now:List End}{m:Nat},es∈lp now all m->∃b t,b∈all/\es=now++b::t
 |[],now,m,h=>by unfold lp at h;cases h
 |a::r,now,m,h=>by
  unfold lp at h;rcases afr.1 h with h|h
  .split at h
   .exact⟨a,[],aft,afs.1 h⟩
   .split at h
    .cases h
    .obtain⟨b,t,h1,rfl⟩:=kn h;exact⟨a,b::t,aft,by simp⟩
  .obtain⟨b,t,h1,rfl⟩:=kn h;exact⟨b,t,afk _ h1,rfl⟩
theorem py:∀{all now:List End}{m:Nat},jn all->(lp now all m).Pairwise λx y=>nD x y=true
 |[],now,m,_=>by unfold lp;exact .nil
 |a::r,now,m,hs=>by
  obtain⟨uI,s_⟩:=agz.1 hs;unfold lp;rw[agy];refine⟨?_,py s_,?_⟩
  .split
   .exact agM _ _
   .split
    .exact .nil
    .exact py s_
  .intro x hx y hy;obtain⟨b,t,hb,rfl⟩:=kn hy
   have A9:∃u,x=now++a::u:=by
    split at hx
    .exact⟨[],afs.1 hx⟩
    .split at hx
     .cases hx
     .obtain⟨c,u,_,rfl⟩:=kn hx;exact⟨c::u,by simp⟩
   obtain⟨u,rfl⟩:=A9;rw[DO];unfold nD;have oD:=uI b hb;rw[if_neg,oD];rintro rfl;rw[fo]at oD;cases oD
theorem Cx{all now:List End}{m:Nat}(hs:jn all):(ch now all m).Pairwise λx y=>nD x y=true:=by
 unfold ch;split
 .exact agM _ _
 .split
  .exact .nil
  .exact py hs
theorem zk{l:List (List End)}(h:l.Pairwise λx y=>nD x y=true):l.Nodup:=h.imp λoD e=>by
 subst e;rw[qi]at oD;cases oD
def eu(s:ar)(out:List Int):List (List End):=(oQ s out s.rows.toNat).filter λes=>eA s out es 0
theorem nx{s:ar}{out:List Int}{es:List End}(hs:aU s=true)(ho:ec s out=true):es∈eu s out↔gW s out es=true/\eA s out es 0=true:=by
 unfold eu;rw[List.mem_filter,vx hs ho]
 constructor
 .rintro⟨⟨h1,_⟩,h2⟩;exact⟨h1,h2⟩
 .rintro⟨h1,h2⟩;refine⟨⟨h1,?_⟩,h2⟩;unfold eA at h2;simp only[afa,aff]at h2;omega
theorem uO{s:ar}{out:List Int}(hs:aU s=true):(eu s out).Pairwise λx y=>nD x y=true:=
 (Cx (oU (rY hs))).sublist List.filter_sublist
section
variable{α:Type}
def eP(better:α->α->Bool)(x:α)(l:List α):α:=l.foldl (λo x=>if better x o then x else o) x
structure AU(better:α->α->Bool)(l:List α)(x:α):Prop where
 at':∃pre post,l=pre++x::post/\(∀y∈pre,better x y=true)/\∀y∈post,better y x=false
theorem Dv {better:α→α→Bool} (Ve:∀ a b c,better a b=true→better b c=true→better a c=true) (Rz:∀ a b c,better a b=true→better c b=false→better a c=true) :
  ∀(l pre:List α)(x:α)(post:List α),(∀y∈pre,better x y=true)->(∀y∈post,better y x=false)->AU better (pre++x::post++l) (eP better x l)
 |[],pre,x,post,h1,h2=>⟨pre,post,by rw[afL];rfl,h1,h2⟩
 |z::l,pre,x,post,h1,h2=>by
  show AU better _ (eP better (if better z x then z else x) l)
  cases h:better z x with
  |true=>
   have:=Dv Ve Rz l (pre++x::post) z [] (λy hy=>by
    rcases afr.1 hy with hy|hy
    .exact Ve _ _ _ h (h1 y hy)
    .rcases afU.1 hy with rfl|hy
     .exact h
     .exact Rz _ _ _ h (h2 y hy)) (λy hy=>by cases hy)
   simpa using this
  |false=>
   have:=Dv Ve Rz l pre x (post++[z]) h1 (λy hy=>by
    rcases afr.1 hy with hy|hy
    .exact h2 y hy
    .rw[afs]at hy;subst hy;exact h)
   simpa using this
end
theorem tQ{α:Type}[DecidableEq α]:∀{l r:List α},l.Nodup->(∀x∈l,x∈r)->l.length<=r.length
 |[],_,_,_=>afK _
 |a::l,r,h,hs=>by
  obtain⟨h1,h2⟩:=ahH.1 h;have ha:=hs a aft;have hl:=ahj ha;have hp:=ahx ha
  have:=tQ (r:=r.erase a) h2 λx hx=>(ahE (by rintro rfl;exact h1 hx)).2 (hs x (afk _ hx))
  simp only[List.length_cons];omega
structure MQ(w x:Word):Prop where
 aG:x.aG=w.aG
 free:x.free=w.free
 bD:∀c∈w.bD,c∈x.bD
structure fk(s x:ar):Prop where
 aV:x.aV=s.aV
 aQ:x.aQ=s.aQ
 gf:x.gf=s.gf
 fY:x.fY=s.fY
 j6:x.j6=s.j6
 j5:x.j5=s.j5
 cj:x.cj=s.cj
 len:x.words.length=s.words.length
 words:∀i (h:i<s.words.length),MQ s.words[i] (x.words[i]'(by omega))
 wide:s.wide<=x.wide
 rows:s.rows<=x.rows
section
variable{s x:ar}{out:List Int}{es:List End}
theorem fk.bT(h:fk s x)(i:Nat):bT x i=bT s i:=by
 unfold Tryz.bT
 by_cases hi:i<s.words.length
 .rw[ae9 hi,ae9 (by rw[h.len];exact hi)];simp only;rw[(h.words i hi).aG]
 .have:=h.len;rw[afn (show s.words.length<=i by omega),afn (show x.words.length<=i by omega)]
theorem fk.bc(h:fk s x)(g:Nat×Nat):bc x g=bc s g:=by
 unfold Tryz.bc
 by_cases hi:g.1<s.words.length
 .rw[ae9 hi,ae9 (by rw[h.len];exact hi)];simp only;rw[(h.words g.1 hi).aG]
 .have:=h.len;rw[afn (show s.words.length<=g.1 by omega),afn (show x.words.length<=g.1 by omega)]
theorem rJ{s x:ar}(h:∀i,Tryz.bT x i=Tryz.bT s i)(out:List Int):∀d w f t,fT x out d w f t=fT s out d w f t
 |0,_,_,_=>rfl
 |d+1,w,f,t=>by
  unfold fT;rw[h,rJ h out d]
theorem fk.fm(h:fk s x)(i:Nat):fm x out es i=fm s out es i:=by
 unfold Tryz.fm;split
 .unfold fN;rw[rJ h.bT]
 .rfl
theorem fk.gV(h:fk s x)(i:Nat):gV x es i=gV s es i:=by
 unfold Tryz.gV;split
 .rw[h.bT]
 .rfl
theorem Bb{s x:ar}(h2:x.aQ=s.aQ)(h3:x.gf=s.gf)(h4:x.fY=s.fY)(h5:x.j6=s.j6)(h6:x.j5=s.j5)(st:Int)(a b:Lt):jh x st a b=jh s st a b:=by
 unfold jh e_;rw[h2,h3,h4,h5,h6]
theorem wZ{s x:ar}(h1:x.aV=s.aV)(h2:x.aQ=s.aQ)(h3:x.gf=s.gf)(h4:x.fY=s.fY)(h5:x.j6=s.j6)(h6:x.j5=s.j5)(h7:x.cj=s.cj)(st:Int)(l:List Lt)(cut:Bool):fP x st l cut=fP s st l cut:=by
 have e1:∀i,fb x l i=fb s l i:=by
  intro i
  induction i with
  |zero=>rfl
  |succ i ih=>
   unfold fb;rw[ih]
   congr 1
   split
   .unfold fx;rw[h1,h7]
   .rfl
 have e2:∀i,fh x st l i=fh s st l i:=by
  intro i
  induction i with
  |zero=>rfl
  |succ i ih=>
   unfold fh;rw[ih]
   congr 1
   split
   .exact Bb h2 h3 h4 h5 h6 st _ _
   .rfl
 unfold fP;rw[e1,e2,h3,h4,h7]
theorem fk.iO(h:fk s x)(st:Int)(i:Nat):iO x out es st i=iO s out es st i:=by
 unfold Tryz.iO;rw[h.fm,h.gV,wZ h.aV h.aQ h.gf h.fY h.j6 h.j5 h.cj]
 congr 1
 exact agi λg _=>h.bc g
theorem fk.cJ(h:fk s x)(st:Int):cJ x out es st=cJ s out es st:=by
 unfold Tryz.cJ
 exact agi λi _=>h.iO st i
theorem fk.eA(h:fk s x){st:Int}(hf:eA s out es st=true):eA x out es st=true:=by
 unfold Tryz.eA at hf⊢;rw[h.cJ];simp only[afa,afC,aff]at hf⊢;have:=h.wide;have:=h.rows;exact⟨by omega,λn hn=>by have:=hf.2 n hn;omega⟩
theorem fk.ec(h:fk s x):ec x out=ec s out:=by
 unfold Tryz.ec;rw[h.len]
 have:ko x=ko s:=by
  unfold ko
  funext n
  by_cases hi:n.toNat<s.words.length
  .rw[ae9 hi,ae9 (by rw[h.len];exact hi)];simp only;rw[(h.words _ hi).free]
  .have:=h.len;rw[afn (show s.words.length<=n.toNat by omega),afn (show x.words.length<=n.toNat by omega)]
 rw[this]
theorem fk.gW(h:fk s x)(hr:gW s out es=true):gW x out es=true:=by
 unfold Tryz.gW at hr⊢;rw[h.ec];simp only[afa,eF]at hr⊢;obtain⟨h1,⟨h2,h3⟩,h4⟩:=hr;refine⟨h1,⟨λe he=>?_,h3⟩,?_⟩
 .have:=h2 e he;unfold nU at this⊢;rw[h.len]
  by_cases hi:e.1.toNat<s.words.length
  .rw[ae9 hi]at this;rw[ae9 (by rw[h.len];exact hi)];simp only[afa,age]at this⊢;rw[(h.words _ hi).aG];refine⟨this.1,this.2.imp id λhc=>?_⟩;have:=(h.words _ hi).bD e.2 (by simpa using hc);simpa using this
  .rw[afn (by omega)]at this;simp at this
 .have e1:hZ x out=hZ s out:=by
   unfold hZ;rw[h.len]
   congr 1
   by_cases hi:(gI out s.words.length).toNat<s.words.length
   .rw[ae9 hi,ae9 (by rw[h.len];exact hi)];simp only;rw[(h.words _ hi).aG]
   .have:=h.len;rw[afn (show s.words.length<=(gI out s.words.length).toNat by omega),afn (show x.words.length<=(gI out s.words.length).toNat by omega)]
  rw[e1];exact h4
theorem fk.tG(h:fk s x)(hs:aU s=true)(hx:aU x=true)(ho:Tryz.ec s out=true)(hm:es∈eu s out):es∈eu x out:=by
 rw[nx hx (by rw[h.ec];exact ho)];rw[nx hs ho]at hm;exact⟨h.gW hm.1,h.eA hm.2⟩
theorem fk.count(h:fk s x)(hs:aU s=true)(hx:aU x=true)(ho:Tryz.ec s out=true):(eu s out).length<=(eu x out).length:=
 tQ (zk (uO hs)) λ_ hm=>h.tG hs hx ho hm
end
theorem ui:∀{all now:List End},all≠[]->(lp now all 0).length=1
 |[],_,h=>absurd rfl h
 |a::r,now,_=>by
  unfold lp
  by_cases hr:r=[]
  .subst hr;simp[lp]
  .simp only[if_neg hr,List.nil_append];exact ui hr
theorem tB:∀{all now:List End},(lp now all 1).length=all.length
 |[],_=>rfl
 |a::r,now=>by
  unfold lp
  by_cases hr:r=[]
  .subst hr;simp[lp]
  .simp only[if_neg hr,afm,List.length_cons];rw[ui hr,tB];omega
theorem zd:∀{all now:List End},all≠[]->2*(lp now all 2).length=2+all.length*(all.length-1)
 |[],_,h=>absurd rfl h
 |a::r,now,_=>by
  unfold lp
  by_cases hr:r=[]
  .subst hr;simp[lp]
  .simp only[if_neg hr,afm,List.length_cons];rw[tB,Nat.mul_add,zd hr]
   obtain⟨n,hn⟩:∃n,r.length=n+1:=⟨r.length-1,by have:=afP.2 hr;omega⟩
   rw[hn];simp only[agj]
   have e1:(n+1+1)*(n+1)=(n+1)*n+2*(n+1):=by
    rw[ahR,ag6 (n+1) n,ahR n 1];omega
   omega
theorem EM{all now:List End}{m:Nat}(h:all.length<=24)(hm:m<=3):(ch now all m).length<=277:=by
 unfold ch;split
 .simp
 rename_i dO
 match m,hm with
 |0,_=>simp
 |1,_=>simp only;rw[ui dO];omega
 |2,_=>simp only;rw[tB];omega
 |3,_=>
  simp only;have:=zd (now:=now) dO;have:all.length*(all.length-1)<=24*23:=aii h (by omega);omega
theorem qu{l:List Int}{lo hi:Int}(h:eb l lo hi=true)(hle:lo<=hi+1):(l.length:Int)<=hi+1-lo:=by
 have h':=h;unfold eb at h;rw[eF]at h;obtain⟨h1,h2⟩:=h
 have key:∀j (hj:j<l.length),lo+j<=l[j]:=by
  intro j
  induction j with
  |zero=>
   intro hj;have:=h1 _ (ae_ hj);simp[bH]at this;simpa using this.1
  |succ j ih=>
   intro hj;have:=ih (by omega);have:=h2 j hj;simp at this;omega
 by_cases h0:l.length=0
 .omega
 .have a:=key (l.length-1) (by omega);have b:=h1 _ (ae_ (show l.length-1<l.length by omega));simp[bH]at b;omega
theorem nF{s:ar}(hs:aU s=true){out:List Int}(n:Nat):(eX s out n).length<=bT s n/\bT s n<=6:=by
 unfold eX bT
 by_cases h:n<s.words.length
 .rw[ae9 h];have hw:=jK hs (ae_ h);have h1:=hw.z_;have:=qu hw.bD (by omega);have:=hw.rz;split
  .simp only[List.length_nil];omega
  .simp only[afm,afi,List.length_cons,List.length_nil];omega
 .rw[afn (by omega)]
  split<;>simp
theorem pw{s:ar}(hs:aU s=true)(out:List Int):(fJ s out).length<=24:=by
 unfold fJ;have h4:=(dP hs).words.2
 have key:∀m:Nat,((List.range m).flatMap (eX s out)).length<=6*m:=by
  intro m
  induction m with
  |zero=>simp
  |succ m ih=>
   rw[afM,agm,agF,afm];have:=nF hs (out:=out) m;omega
 have:=key s.words.length;omega
theorem qK{s:ar}(hs:aU s=true)(out:List Int){m:Nat}(hm:m<=3):(oQ s out m).length<=277:=EM (pw hs out) hm
theorem uo{s:ar}(hs:aU s=true)(out:List Int):(eu s out).length<=277:=
 agu (agJ _ _) (qK hs out (by have:=(dP hs).rows;omega))
section
variable{s x:ar}{m:Nat}{z z':Nat×Nat}
theorem zH{s:ar}{out:List Int}{es:List End}(h:gW s out es=true):ec s out=true/\es≠[]/\(∀e∈es,nU s out e=true)/\(∀j (hj:j+1<es.length),dp (es[j]'(by omega)) es[j+1]=true)/\es.getLast?.getD (-1,0)=hZ s out:=by
 unfold gW at h;simp only[afa,eF,afT,afY]at h;obtain⟨⟨h1,h2⟩,⟨h3,h4⟩,h5⟩:=h;exact⟨h1,(by rintro rfl;cases h2),h3,h4,h5⟩
end
theorem Ah{s:ar}{out:List Int}{e:End}:nU s out e=true↔0<=e.1/\¬e.1∈out/\∃h:e.1.toNat<s.words.length,e.2=s.words[e.1.toNat].aG.length\/e.2∈s.words[e.1.toNat].bD:=by
 unfold nU bH;simp only[afa,aff,afT,aht,agD]
 constructor
 .rintro⟨⟨⟨h1,h2⟩,h3⟩,h4⟩
  have aw:e.1.toNat<s.words.length:=by omega
  rw[ae9 aw]at h4;refine⟨h1,h3,aw,?_⟩;simpa using h4
 .rintro⟨h1,h3,aw,h4⟩;refine⟨⟨⟨h1,by omega⟩,h3⟩,?_⟩;rw[ae9 aw];simpa using h4
theorem B7{s:ar}{m:Nat}(h:s.words.length=m+1):hZ s []=((m:Int),(bT s m:Int)):=by
 unfold hZ
 have e:gI [] s.words.length=m:=by rw[h];unfold gI;simp
 rw[e,Int.toNat_natCast,ae9 (by omega),eT (by omega)]
def C'(l:List Int):Int:=l.foldl max 0
theorem foldl_max:∀(l:List Int)(a:Int),a<=l.foldl max a/\(∀x∈l,x<=l.foldl max a)/\(l.foldl max a=a\/l.foldl max a∈l)
 |[],a=>⟨af9 _,(λ_ hx=>absurd hx List.not_mem_nil),.inl rfl⟩
 |y::l,a=>by
  have:=foldl_max l (max a y);obtain⟨h1,h2,h3⟩:=this;refine⟨?_,λx hx=>?_,?_⟩
  .show a<=l.foldl max (max a y);omega
  .rcases afU.1 hx with rfl|hx
   .show x<=l.foldl max (max a x);omega
   .exact h2 x hx
  .rcases h3 with h3|h3
   .show l.foldl max (max a y)=a\/l.foldl max (max a y)∈y::l;rw[h3]
    by_cases h:a<=y
    .right;rw[Int.max_eq_right h];exact aft
    .left;omega
   .exact .inr (afk _ h3)
theorem QK{l:List Int}{w:Int}(h0:0<=w):C' l<=w↔∀x∈l,x<=w:=by
 have:=foldl_max l 0;unfold C'
 constructor
 .intro h x hx;have:=this.2.1 x hx;omega
 .intro h;rcases this.2.2 with e|e
  .rw[e];exact h0
  .exact h _ e
section
variable{s:ar}
theorem mX(hs:aU s=true):ec s []=true:=by
 have:=(dP hs).words.1;unfold ec eb iS;simp;omega
end
section
variable{α:Type}{len:α->Nat}{most:α->Int}
def mA(len:α->Nat)(l:List α):Nat:=l.foldl (λn x=>if n=0\/len x<n then len x else n) 0
def wj(len:α->Nat)(most:α->Int)(rows:Nat)(d:α)(l:List α):α×Int:=l.foldl (λo x=>if len x=rows/\o.2<most x then(x,most x)else o) (d,-1)
def jl(len:α->Nat)(most:α->Int)(a b:α):Bool:=decide (len a<len b)||(len a==len b&&decide (most b<most a))
theorem IU(x:α)(l:List α):AU (jl len most) (x::l) (eP (jl len most) x l):=by
 have:=Dv (better:=jl len most) (λa b c h1 h2=>by
  simp only[jl,age,afa,aff,afY]at h1 h2⊢;omega) (λa b c h1 h2=>by
  simp only[jl,age,afa,aff,afY,ahN,agG,agD,afN]at h1 h2⊢;omega) l [] x [] (λy hy=>by cases hy) (λy hy=>by cases hy)
 simpa using this
theorem A7:∀(l:List α)(n:Nat),1<=n->(∀x∈l,1<=len x)->l.foldl (λn x=>if n=0\/len x<n then len x else n) n<=n/\(∀x∈l,l.foldl (λn x=>if n=0\/len x<n then len x else n) n<=len x)/\(l.foldl (λn x=>if n=0\/len x<n then len x else n) n=n\/∃x∈l,len x=l.foldl (λn x=>if n=0\/len x<n then len x else n) n)
 |[],n,_,_=>⟨afg _,λx hx=>(by cases hx),.inl rfl⟩
 |a::l,n,hn,h=>by
  have ha:=h a aft;rw[List.foldl_cons]
  have hm:(if n=0\/len a<n then len a else n)=min (len a) n:=by
   by_cases h1:len a<n
   .rw[if_pos (.inr h1)];omega
   .rw[if_neg (by omega)];omega
  rw[hm]
  obtain⟨a1,a2,a3⟩:=A7 l (min (len a) n) (by omega) λx hx=>h x (afk _ hx)
  generalize List.foldl _ _ _=m at a1 a2 a3⊢;refine⟨by omega,λx hx=>?_,?_⟩
  .rcases afU.1 hx with rfl|hx
   .omega
   .exact a2 x hx
  .rcases a3 with a3|⟨x,hx,a3⟩
   .by_cases h1:len a<n
    .exact .inr ⟨a,aft,by omega⟩
    .exact .inl (by omega)
   .exact .inr ⟨x,afk _ hx,a3⟩
theorem Ig{x:α}{l:List α}(h:AU (jl len most) l x)(h1:∀y∈l,1<=len y):mA len l=len x:=by
 obtain⟨pre,post,rfl,h2,h3⟩:=h
 have hle:∀y∈pre++x::post,len x<=len y:=by
  intro y hy;rcases afr.1 hy with hy|hy
  .have:=h2 y hy;simp only[jl,age,afa,aff,afY]at this;omega
  .rcases afU.1 hy with rfl|hy
   .exact afg _
   .have:=h3 y hy;simp only[jl,ahN,agD]at this;omega
 have hx:x∈pre++x::post:=by simp
 have key:∀l:List α,(∀y∈l,1<=len y)->x∈l->(∀y∈l,len x<=len y)->mA len l=len x:=by
  intro l h1 hx hle
  cases l with
  |nil=>cases hx
  |cons a l=>
   have ha:=h1 a aft;unfold mA;rw[List.foldl_cons,if_pos (.inl rfl)]
   obtain⟨a1,a2,a3⟩:=A7 l (len a) ha λy hy=>h1 y (afk _ hy)
   generalize List.foldl _ _ _=m at a1 a2 a3⊢
   have b1:m<=len x:=by
    rcases afU.1 hx with rfl|hx
    .exact a1
    .exact a2 x hx
   have b2:len x<=m:=by
    rcases a3 with a3|⟨y,hy,a3⟩
    .rw[a3];exact hle a aft
    .rw[<-a3];exact hle y (afk _ hy)
   omega
 exact key _ h1 hx hle
theorem Ln{x d:α}{l:List α}(h:AU (jl len most) l x)(h1:∀y∈l,0<=most y):wj len most (len x) d l=(x,most x):=by
 obtain⟨pre,post,rfl,h2,h3⟩:=h
 have J7:∀(pre:List α)(o:α×Int),(∀y∈pre,jl len most x y=true)->o.2<most x->(pre.foldl (λo y=>if len y=len x/\o.2<most y then(y,most y)else o) o).2<most x:=by
  intro pre
  induction pre with
  |nil=>intro o _ h;exact h
  |cons a pre ih=>
   intro o hp ho;rw[List.foldl_cons];refine ih _ (λy hy=>hp y (afk _ hy)) ?_;split
   .rename_i hc;have:=hp a aft;simp only[jl,age,afa,aff,afY]at this;show most a<most x;omega
   .exact ho
 have Wn:∀(post:List α),(∀y∈post,jl len most y x=false)->post.foldl (λo y=>if len y=len x/\o.2<most y then(y,most y)else o) (x,most x)=(x,most x):=by
  intro post
  induction post with
  |nil=>intro _;rfl
  |cons a post ih=>
   intro hp;rw[List.foldl_cons,if_neg,ih λy hy=>hp y (afk _ hy)];rintro⟨c1,c2⟩;have:=hp a aft;have c2:most x<most a:=c2;simp only[jl,ahN,agD,agG,afN]at this;omega
 unfold wj;rw[afy,List.foldl_cons,if_pos,Wn post h3];exact⟨rfl,J7 pre _ h2 (by have:=h1 x (by simp);show(-1:Int)<most x;omega)⟩
end
structure dG(s x:ar)(out:List Int)(k:Nat->Nat)(N:Nat):Prop where
 pos:0<N
 n:x.words.length=N
 lt:∀i,i<N->k i<s.words.length
 mono:∀i,i+1<N->k i<k (i+1)
 M3:∀i,i<N->out.contains (k i:Int)=false
 Vy:∀i,i+1<N->∀j,k i<j->j<k (i+1)->out.contains (j:Int)=true
 first:∀j,j<k 0->out.contains (j:Int)=true
 last:∀j,k (N-1)<j->j<s.words.length->out.contains (j:Int)=true
 word:∀i,i<N->x.words[i]?=s.words[k i]?
 h1:x.aV=s.aV
 h2:x.aQ=s.aQ
 h3:x.gf=s.gf
 h4:x.fY=s.fY
 h5:x.j6=s.j6
 h6:x.j5=s.j5
 h7:x.cj=s.cj
 h8:x.wide=s.wide
 h9:x.rows=s.rows
section
variable{s x:ar}{out:List Int}{k:Nat->Nat}{N:Nat}
theorem dG.bT(h:dG s x out k N){i:Nat}(hi:i<N):bT x i=bT s (k i):=by
 unfold Tryz.bT;rw[h.word i hi]
theorem dG.xK(h:dG s x out k N):∀d i,i+d+1<N->k i<k (i+d+1)
 |0,i,hi=>h.mono i hi
 |d+1,i,hi=>Nat.lt_trans (h.xK d i (by omega)) (h.mono (i+d+1) hi)
theorem dG.lt_iff(h:dG s x out k N){i j:Nat}(hi:i<N)(hj:j<N):k i<k j↔i<j:=by
 constructor
 .intro hk
  by_cases oP:i<j
  .exact oP
  .by_cases he:i=j
   .subst he;omega
   .have:=h.xK (i-j-1) j (by omega);rw[show j+(i-j-1)+1=i by omega]at this;omega
 .intro oP;have:=h.xK (j-i-1) i (by omega);rwa [show i+(j-i-1)+1=j by omega]at this
theorem dG.inj(h:dG s x out k N){i j:Nat}(hi:i<N)(hj:j<N)(he:k i=k j):i=j:=by
 have h1:=h.lt_iff hi hj;have h2:=h.lt_iff hj hi;omega
theorem pf{d t:Nat}:∀(m w:Nat),(∀j,w<=j->j<w+m->out.contains (j:Int)=true)->fT s out (m+d) w 0 t=fT s out d (w+m) 0 t
 |0,w,_=>by rw[af6,Nat.add_zero]
 |m+1,w,h=>by
  rw[show m+1+d=(m+d)+1 by omega];show(if out.contains (w:Int)then[]else jU w 0 (bT s w))++fT s out (m+d) (w+1) 0 t=_;rw[h w (by omega) (by omega),if_pos rfl,List.nil_append,pf m (w+1) (λj h1 h2=>h j (by omega) (by omega)),show w+1+m=w+(m+1) by omega]
def lH(k:Nat->Nat)(g:Nat×Nat):Nat×Nat:=(k g.1,g.2)
theorem Au(w f t:Nat):(jU w f t).map (lH k)=jU (k w) f t:=by
 unfold jU;rw[af1];rfl
theorem dG.fT(h:dG s x out k N){t:Nat}:∀d w f,w+d<N->(fT x [] d w f t).map (lH k)=fT s out (k (w+d)-k w) (k w) f t
 |0,w,f,_=>by
  rw[Nat.add_zero,ahi];exact Au w f t
 |d+1,w,f,hw=>by
  have m1:=h.mono w (by omega)
  have m2:k (w+1)<=k (w+1+d):=by
   cases d with
   |zero=>exact afg _
   |succ d=>exact ahP (h.xK d (w+1) (by omega))
  rw[show w+(d+1)=w+1+d by omega];rw[show k (w+1+d)-k w=((k (w+1)-k w-1)+(k (w+1+d)-k (w+1)))+1 by omega];show List.map (lH k) ((if([]:List Int).contains (w:Int)then[]else jU w f (Tryz.bT x w))++Tryz.fT x [] d (w+1) 0 t)=(if out.contains (k w:Int)then[]else jU (k w) f (Tryz.bT s (k w)))++Tryz.fT s out ((k (w+1)-k w-1)+(k (w+1+d)-k (w+1))) (k w+1) 0 t;rw[if_neg (by simp),h.M3 w (by omega),if_neg (by simp),afu,Au,h.bT (by omega),h.fT d (w+1) 0 (by omega),pf _ _ λj h1 h2=>h.Vy w (by omega) j (by omega) (by omega),show k w+1+(k (w+1)-k w-1)=k (w+1) by omega]
def nw(k:Nat->Nat)(e:End):End:=((k e.1.toNat:Int),e.2)
theorem Jj(e:End):nE (nw k e)=lH k (nE e):=rfl
theorem qL(es:List End)(i:Nat):ia es (i+1)=match es[i]? with|some e=>nE e|none=>(0,0):=rfl
theorem GY(es:List End)(i:Nat):ia (es.map (nw k)) (i+1)=if i<es.length then lH k (ia es (i+1))else(0,0):=by
 rw[qL,qL,afG]
 by_cases hi:i<es.length
 .rw[ae9 hi,if_pos hi];rfl
 .rw[afn (by omega),if_neg hi];rfl
def IT(N:Nat)(es:List End):Prop:=∀e∈es,0<=e.1/\e.1.toNat<N
theorem dG.fm(h:dG s x out k N){es:List End}(hr:IT N es)(hs:∀j (hj:j+1<es.length),es[j].1.toNat<=es[j+1].1.toNat)(i:Nat)(hi:i<es.length):(fm x [] es i).map (lH k)=fm s out (es.map (nw k)) i:=by
 have cD:i<(es.map (nw k)).length:=by rw[afi];exact hi
 rw[ln hi,ln cD,afl,Jj];have he:=hr _ (ae_ hi)
 cases i with
 |zero=>
  have h0:=h.fT (t:=(nE es[0]).2) (nE es[0]).1 0 0 (by rw[af6];exact he.2);show List.map (lH k) (Tryz.fT x [] ((nE es[0]).1-0) 0 0 (nE es[0]).2)=Tryz.fT s out (k (nE es[0]).1-0) 0 0 (nE es[0]).2;rw[Nat.sub_zero,Nat.sub_zero,h0,af6]
  have hk:k 0<=k (nE es[0]).1:=by
   by_cases hz:(nE es[0]).1=0
   .rw[hz];exact afg _
   .exact ahP ((h.lt_iff h.pos he.2).2 (Nat.pos_of_ne_zero hz))
  have:=pf (s:=s) (out:=out) (d:=k (nE es[0]).1-k 0) (t:=(nE es[0]).2) (k 0) 0 λj _ h2=>h.first j (by omega)
  rw[show k 0+(k (nE es[0]).1-k 0)=k (nE es[0]).1 by omega,af6]at this;exact this.symm
 |succ i=>
  have ha:ia es (i+1)=nE es[i]:=by rw[qL,ae9 (by omega)]
  have hb:=hr _ (ae_ (by omega:i<es.length));have hle:=hs i hi;rw[GY,if_pos (by omega),ha]
  have:=h.fT (t:=(nE es[i+1]).2) ((nE es[i+1]).1-(nE es[i]).1) (nE es[i]).1 (nE es[i]).2 (by
   show es[i].1.toNat+(es[i+1].1.toNat-es[i].1.toNat)<N
   have:=he.2;omega)
  rw[show(nE es[i]).1+((nE es[i+1]).1-(nE es[i]).1)=(nE es[i+1]).1 by show es[i].1.toNat+(es[i+1].1.toNat-es[i].1.toNat)=es[i+1].1.toNat;omega]at this;exact this
theorem dG.gV(h:dG s x out k N){es:List End}(hr:IT N es)(i:Nat)(hi:i<es.length):gV x es i=gV s (es.map (nw k)) i:=by
 have cD:i<(es.map (nw k)).length:=by rw[afi];exact hi
 rw[rD hi,rD cD,afl];show decide (es[i].2<(Tryz.bT x es[i].1.toNat:Int))=decide (es[i].2<(Tryz.bT s ((k es[i].1.toNat:Int)).toNat:Int));rw[Int.toNat_natCast,h.bT (hr _ (ae_ hi)).2]
theorem dG.GP(h:dG s x out k N){g:Nat×Nat}(hg:g.1<N):(bc x g).2=(bc s (lH k g)).2:=by
 unfold bc lH;simp only;rw[h.word _ hg]
theorem dG.fx(h:dG s x out k N){a b:Lt}(he:a.2=b.2):fx x a=fx s b:=by
 unfold Tryz.fx;rw[he,h.h1,h.h7]
theorem dG.jh(h:dG s x out k N)(st:Int){f g:Nat×Nat}(hf:f.1<N)(hg:g.1<N):jh x st (bc x f) (bc x g)=jh s st (bc s (lH k f)) (bc s (lH k g)):=by
 have e:e_ x (bc x f) (bc x g)=e_ s (bc s (lH k f)) (bc s (lH k g)):=by
  unfold e_;rw[h.GP hf,h.GP hg,h.h2,h.h3,h.h4,h.h5,h.h6]
  by_cases he:f.1=g.1
  .rw[if_pos (by unfold bc;simp only;omega),if_pos (by unfold bc lH;simp only;rw[he])]
  .rw[if_neg (by unfold bc;simp only;omega),if_neg];unfold bc lH;simp only;intro hc;exact he (h.inj hf hg (by omega))
 unfold Tryz.jh;rw[e]
theorem dG.fP(h:dG s x out k N)(st:Int){l:List (Nat×Nat)}(hl:∀g∈l,g.1<N)(cut:Bool):fP x st (l.map (bc x)) cut=fP s st ((l.map (lH k)).map (bc s)) cut:=by
 have e1:∀i,fb x (l.map (bc x)) i=fb s ((l.map (lH k)).map (bc s)) i:=by
  intro i
  induction i with
  |zero=>rfl
  |succ i ih=>
   unfold fb;rw[ih,af1,afG,afG]
   by_cases hi:i<l.length
   .rw[ae9 hi];show _+Tryz.fx x (bc x l[i])=_+Tryz.fx s (bc s (lH k l[i]));rw[h.fx (h.GP (hl _ (ae_ hi)))]
   .rw[afn (by omega)];rfl
 have e2:∀i,fh x st (l.map (bc x)) i=fh s st ((l.map (lH k)).map (bc s)) i:=by
  intro i
  induction i with
  |zero=>rfl
  |succ i ih=>
   unfold fh;rw[ih,af1,afG,afG,afG,afG]
   by_cases hi:i+1<l.length
   .rw[ae9 (by omega:i<l.length),ae9 hi];show _+Tryz.jh x st (bc x l[i]) (bc x l[i+1])=_+Tryz.jh s st (bc s (lH k l[i])) (bc s (lH k l[i+1]));rw[h.jh st (hl _ (ae_ _)) (hl _ (ae_ hi))]
   .rw[afn (by omega:l.length<=i+1)]
    cases l[i]?<;>rfl
 unfold Tryz.fP;rw[e1,e2,h.h3,h.h4,h.h7];simp only[afi]
end
section
variable{s x:ar}{out:List Int}{k:Nat->Nat}{N:Nat}
theorem dG.gI(h:dG s x out k N):Tryz.gI out s.words.length=(k (N-1):Int):=by
 have hp:=h.pos;have hl:=h.lt (N-1) (by omega)
 have:∀n,k (N-1)<n->n<=s.words.length->Tryz.gI out n=(k (N-1):Int):=by
  intro n
  induction n with
  |zero=>intro h1;omega
  |succ n ih=>
   intro h1 h2;unfold Tryz.gI
   by_cases he:n=k (N-1)
   .subst he;rw[h.M3 _ (by omega)];rfl
   .rw[h.last n (by omega) (by omega),if_pos rfl];exact ih (by omega) (by omega)
 exact this _ hl (afg _)
theorem dG.nU(h:dG s x out k N){e:End}(h0:0<=e.1)(hn:e.1.toNat<N):Tryz.nU x [] e=true↔Tryz.nU s out (nw k e)=true:=by
 rw[Ah,Ah];have hk:=h.lt _ hn
 have hx:e.1.toNat<x.words.length:=by rw[h.n];exact hn
 have hw:=h.word _ hn;rw[ae9 hx,ae9 hk]at hw;have hw:=afo hw;have hi:=h.M3 _ hn
 constructor
 .rintro⟨_,_,_,h3⟩;refine⟨by show(0:Int)<=(k e.1.toNat:Int);omega,?_,?_⟩
  .show¬(k e.1.toNat:Int)∈out;simpa using hi
  .refine⟨by show(k e.1.toNat:Int).toNat<_;omega,?_⟩;show e.2=((s.words[(k e.1.toNat:Int).toNat]'_).aG.length:Int)\/e.2∈(s.words[(k e.1.toNat:Int).toNat]'_).bD;simp only[Int.toNat_natCast];rw[<-hw];exact h3
 .rintro⟨_,_,_,h3⟩;refine⟨h0,by simp,hx,?_⟩;have h3:e.2=((s.words[(k e.1.toNat:Int).toNat]'(by rw[Int.toNat_natCast];exact hk)).aG.length:Int)\/e.2∈(s.words[(k e.1.toNat:Int).toNat]'(by rw[Int.toNat_natCast];exact hk)).bD:=h3;simp only[Int.toNat_natCast]at h3;rw[hw];exact h3
theorem dG.CZ(h:dG s x out k N){a b:End}(ha:0<=a.1/\a.1.toNat<N)(hb:0<=b.1/\b.1.toNat<N):dp a b=dp (nw k a) (nw k b):=by
 have h1:=h.lt_iff ha.2 hb.2
 have h2:k a.1.toNat=k b.1.toNat↔a.1.toNat=b.1.toNat:=⟨h.inj ha.2 hb.2,λe=>by rw[e]⟩
 unfold dp nw;rw[afZ];simp only[age,afa,aff,afY];omega
theorem dG.gW(h:dG s x out k N)(ho:ec s out=true)(hx:ec x []=true){es:List End}(hr:IT N es):Tryz.gW x [] es=Tryz.gW s out (es.map (nw k)):=by
 have tF:(es.getLast?.getD (-1,0)==hZ x [])=((es.map (nw k)).getLast?.getD (-1,0)==hZ s out)\/es=[]:=by
  by_cases dO:es=[]
  .exact .inr dO
  refine .inl ?_
  obtain⟨e,he⟩:∃e,es.getLast?=some e:=by cases hh:es.getLast? with|none=>exact absurd (agt.1 hh) dO|some e=>exact⟨e,rfl⟩
  have Uo:=ahD he;have VN:=hr e Uo;have hp:=h.pos;rw[List.getLast?_map,he]
  show(e==hZ x [])=(nw k e==hZ s out)
  have e1:hZ x []=(((N-1:Nat):Int),(Tryz.bT x (N-1):Int)):=B7 (by rw[h.n];omega)
  have e2:hZ s out=((k (N-1):Int),(Tryz.bT s (k (N-1)):Int)):=by
   unfold hZ;rw[h.gI,Int.toNat_natCast];unfold Tryz.bT;rw[ae9 (h.lt _ (by omega))]
  rw[e1,e2,h.bT (by omega),afZ,afY,afY]
  constructor
  .rintro rfl;show((k ((N-1:Nat):Int).toNat:Int),(Tryz.bT s (k (N-1)):Int))=_;rw[Int.toNat_natCast]
  .intro hh;have a1:(k e.1.toNat:Int)=(k (N-1):Int):=congrArg Prod.fst hh;have a2:e.2=(Tryz.bT s (k (N-1)):Int):=congrArg Prod.snd hh;have:=h.inj VN.2 (by omega) (by omega:k e.1.toNat=k (N-1));exact Prod.ext (by show e.1=((N-1:Nat):Int);omega) a2
 rcases tF with tF|rfl
 .unfold Tryz.gW;rw[ho,hx,tF]
  have e1:(es.map (nw k)).isEmpty=es.isEmpty:=by cases es<;>rfl
  have e2:iS (Tryz.nU x []) dp es=iS (Tryz.nU s out) dp (es.map (nw k)):=by
   rw[afZ,eF,eF]
   constructor
   .rintro⟨h1,h2⟩;refine⟨λe he=>?_,λj hj=>?_⟩
    .obtain⟨e',jI,rfl⟩:=afp.1 he;exact(h.nU (hr _ jI).1 (hr _ jI).2).1 (h1 _ jI)
    .have fj:j+1<es.length:=by simpa using hj
     rw[afl,afl,<-h.CZ (hr _ (ae_ _)) (hr _ (ae_ _))];exact h2 j fj
   .rintro⟨h1,h2⟩;refine⟨λe he=>?_,λj hj=>?_⟩
    .exact(h.nU (hr _ he).1 (hr _ he).2).2 (h1 _ (aif he))
    .have:=h2 j (by simpa using hj);rw[afl,afl,<-h.CZ (hr _ (ae_ _)) (hr _ (ae_ _))]at this;exact this
  rw[e1,e2]
 .unfold Tryz.gW;simp
theorem dG.eA(h:dG s x out k N){es:List End}(hr:IT N es)(hs:∀j (hj:j+1<es.length),es[j].1.toNat<=es[j+1].1.toNat)(kW:∀i,i<es.length->∀g∈Tryz.fm x [] es i,g.1<N)(st:Int):Tryz.eA x [] es st=Tryz.eA s out (es.map (nw k)) st:=by
 have e:cJ x [] es st=cJ s out (es.map (nw k)) st:=by
  unfold cJ;rw[afi]
  refine agi λi hi=>?_
  have hi:i<es.length:=afE.1 hi;unfold iO;rw[h.fP st (kW i hi),h.fm hr hs i hi,h.gV hr i hi]
 unfold Tryz.eA;rw[e,afi,h.h8,h.h9]
end
def kI(l:List Int):Nat:=match l.getLast? with|some x=>x.toNat+1|none=>0
theorem zM{s:ar}{l:List Int}(h:ec s l=true):l.length<s.words.length:=by
 unfold ec at h;simp only[afa,aff]at h;exact h.1.2
theorem En:∀{l r:List Int},l.Pairwise (λa b=>a<b)->r.Pairwise (λa b=>a<b)->(∀x,x∈l↔x∈r)->l=r
 |[],[],_,_,_=>rfl
 |[],b::r,_,_,h=>absurd ((h b).2 aft) (by simp)
 |a::l,[],_,_,h=>absurd ((h a).1 aft) (by simp)
 |a::l,b::r,hl,hr,h=>by
  obtain⟨h1,h2⟩:=agz.1 hl;obtain⟨h3,h4⟩:=agz.1 hr
  have oD:a=b:=by
   rcases afU.1 ((h a).1 aft)with e|e
   .exact e
   .rcases afU.1 ((h b).2 aft)with e'|e'
    .exact e'.symm
    .have:=h3 a e;have:=h1 b e';omega
  subst oD
  congr 1
  refine En h2 h4 λx=>?_
  constructor
  .intro hx;rcases afU.1 ((h x).1 (afk _ hx))with e|e
   .have:=h1 x hx;omega
   .exact e
  .intro hx;rcases afU.1 ((h x).2 (afk _ hx))with e|e
   .have:=h3 x hx;omega
   .exact e
def ub(w:Word)(n:Nat):Bool:=n==w.aG.length||w.bD.contains (n:Int)
def ru(w:Word)(n:Nat):List Int:=((List.range' 1 n).filter (ub w)).map λk:Nat=>(k:Int)
theorem Io(w:Word)(n:Nat):ru w (n+1)=ru w n++if ub w (n+1)then[((n+1:Nat):Int)]else[]:=by
 unfold ru;rw[agL,List.filter_append,afu]
 congr 1
 rw[show 1+1*n=n+1 by omega,List.filter_cons]
 split<;>simp
theorem LF{w:Word}(h1:1<=w.aG.length)(hc:eb w.bD 1 (w.aG.length-1)=true):ru w w.aG.length=w.bD++[(w.aG.length:Int)]:=by
 unfold eb at hc;obtain⟨hb,hs⟩:=eF.1 hc
 have hb:∀x∈w.bD,1<=x/\x<=w.aG.length-1:=λx hx=>by
  have:=hb x hx;unfold bH at this;simpa using this
 refine En ?_ ?_ ?_
 .unfold ru;rw[List.pairwise_map];refine(List.Pairwise.filter _ (List.pairwise_lt_range' (s:=1) (n:=w.aG.length))).imp ?_;intro a b oD;omega
 .rw[agy];refine⟨AX λj hj=>by simpa using hs j hj,agM _ _,λa ha b vn=>?_⟩;rw[afs]at vn;have:=hb a ha;omega
 .intro x;unfold ru ub;simp only[afp,List.mem_filter,agI,afr,afs,age,afY,List.contains_iff_mem]
  constructor
  .rintro⟨n,⟨hn,h⟩,rfl⟩;rcases h with h|h
   .exact .inr (by omega)
   .exact .inl h
  .rintro(h|h)
   .have:=hb x h;refine⟨x.toNat,⟨by omega,.inr ?_⟩,by omega⟩;rw[ag4 (by omega)];exact h
   .exact⟨w.aG.length,⟨by omega,.inl rfl⟩,h.symm⟩
theorem Ba{α β:Type}{f:α->List β}{b:Nat}(hf:∀x,(f x).length<=b):∀l:List α,(l.flatMap f).length<=b*l.length
 |[]=>by simp
 |a::l=>by
  have:=Ba hf l;have:=hf a;rw[agP,afm,List.length_cons,Nat.mul_add];omega
structure Grown(b:Nat)(x:ar)(k:Nat):Prop where
 aV:x.aV.length<=k
 aQ:x.aQ.length<=k
 words:x.words.length<=k
 aG:∀w∈x.words,w.aG.length<=b
 bD:∀w∈x.words,w.bD.length<=b
theorem Grown.mono{b k k':Nat}{x:ar}(h:Grown b x k)(hk:k<=k'):Grown b x k':=⟨by have:=h.aV;omega,by have:=h.aQ;omega,by have:=h.words;omega,h.aG,h.bD⟩
def jY(s:ar)(i:Nat):Bool:=!ko s (i:Int)
theorem uW{α β:Type}{l:List α}{f g:α->List β}(h:∀a∈l,f a=g a):l.flatMap f=l.flatMap g:=by
 rw[List.flatMap_def,List.flatMap_def,agi h]
def oV(s:ar):Nat->List Int->List (List Int)
 |0,now=>[now]
 |d+1,now=>(List.range' (kI now) (s.words.length-kI now)).flatMap λi:Nat=>if jY s i then oV s d (now++[(i:Int)])else[]
theorem DP{s:ar}{l:List Int}(h:ec s l=true){i:Nat}(h1:kI l<=i)(h2:i<s.words.length)(h3:l.length+1<s.words.length):ec s (l++[(i:Int)])=jY s i:=by
 unfold ec at h;simp only[afa,aff,afT,agb]at h;obtain⟨⟨a1,a2⟩,a3⟩:=h;unfold eb at a1;rw[eF]at a1;obtain⟨a1,a4⟩:=a1
 have hr:eb (l++[(i:Int)]) 0 (s.words.length-1)=true:=by
  unfold eb;rw[eF]
  constructor
  .intro x hx;rcases afr.1 hx with hx|hx
   .exact a1 x hx
   .rw[afs]at hx;subst hx;simp only[bH,afa,aff];omega
  .intro j hj;rw[afm,List.length_singleton]at hj
   by_cases lj:j+1<l.length
   .rw[afz (by omega),afz lj];exact a4 j lj
   .rw[afz (by omega),af2 (by omega),List.getElem_singleton]
    have hf:kI l=(l[j]'(by omega)).toNat+1:=by
     unfold kI;rw[List.getLast?_eq_getElem?,show l.length-1=j by omega,ae9 (by omega)]
    have:=a1 _ (ae_ (by omega:j<l.length));simp only[bH,afa,aff]at this;simp only[aff];omega
 unfold ec jY;rw[hr,afm,List.length_singleton,ago (by omega),List.any_append]
 have:l.any (ko s)=false:=by rw[agb];exact a3
 rw[this];simp
end Go.Proofs.Tryz
namespace Go.Proofs.Tryz
open Go Go.AL Go.RowKit Go.Proofs Go.Proofs.Tram
attribute [local simp] dh eE dY dv dK dj di cQ cT dL cP ct fF fE aD aL ev aT.S aT.H bu av aY AL.start AV.cells AV.storable AV.cg bo cE dI ck HR.okB post cw cH cI AV.out AV.bU b_ df fz iA AV.vw du vI int cG aP cV db fQ iu fV eG da AV.aI AV.cm
variable{GI:World->Prop}
def gA(g:Nat×Nat):AV:=.agg [.int .i64 g.1,.int .i64 g.2]
def aO(s:ar):List AV:=ae s++[bl s.aQ]
def eH(s:ar):AV:=.agg (aO s)
def B_(l:List (Nat×Nat))(cut:Bool):AV:=xM ⟨l.map gA,cut⟩
def BM(s:ar)(g:Nat×Nat):Prop:=g.1<s.words.length/\g.2<bT s g.1
theorem Bx(hG:au GI)(s:ar){g:Nat×Nat}(h:BM s g):AC prog GI 224 [eH s,gA g] (.ret (.int .i64 (bc s g).2)):=by
 obtain⟨h1,h2⟩:=h;rw[eT h1]at h2
 have hr:(bc s g).2=s.words[g.1].aG[g.2]:=by unfold bc;simp[ae9 h1,h2]
 rw[hr];refine bP hG func224 ntmps224 c224 ?_;refine az (λS H=>S 2=.box 2 0/\S 3=.box 3 0/\H 2=some (aO s)/\H 3=some [.int .i64 g.1,.int .i64 g.2]) (by simp[eH,aO,gA,ae,bl]) ?_;rintro S H ⟨s2,s3,e2,e3⟩;simp[s2,s3,e2,e3,aO,ae,bl,h1,h2,bW]
theorem xp(hG:au GI){lo hi st:Int}(h0:0<=lo)(h1:lo<=hi)(h2:hi<=20)(h3:0<=st)(h4:st<=10):AC prog GI 227 [.agg [.int .i64 lo,.int .i64 hi],.int .i64 st] (.ret (.int .i64 (gZ lo hi st))):=by
 have CF:0<=(hi-lo)*st:=agc (by omega) h3;have Ee:(hi-lo)*st<=20*10:=agh (by omega) h4 h3 (by omega);have hb:=iL h1 h3 h4;unfold gZ at hb;have w1:IntKind.i64.wrap (hi-lo)=hi-lo:=aN (by omega);have w2:IntKind.i64.wrap ((hi-lo)*st)=(hi-lo)*st:=aN (by omega);have w3:IntKind.i64.wrap (((hi-lo)*st).tdiv 10)=((hi-lo)*st).tdiv 10:=aN (by omega);have w4:IntKind.i64.wrap (lo+((hi-lo)*st).tdiv 10)=lo+((hi-lo)*st).tdiv 10:=aN (by omega);refine bP hG func227 ntmps227 c227 ?_;simp[c227,w1,w2,w3,w4,gZ]
theorem rP(x y:Int):∀(ps:List iZ),rA [x,y] (ps.map mQ) (ps.map j0)=some ((ps.find? λp=>p.l==x&&p.r==y).map j0)
 |[]=>rfl
 |p::ps=>by
  show rA [x,y] (mQ p::ps.map mQ) (j0 p::ps.map j0)=_;unfold rA;simp only[mQ,wx,Option.map_some];simp only[List.length_cons,List.length_nil,ne_eq,ahs,afx];rw[List.find?_cons]
  by_cases hp:p.l=x/\p.r=y
  .obtain⟨rfl,rfl⟩:=hp;simp
  .have h1:([x,y]==[p.l,p.r])=false:=by
    simp only[afN,ne_eq,ahc,ah_];rintro⟨rfl,rfl⟩;exact hp ⟨rfl,rfl⟩
   have h2:(p.l==x&&p.r==y)=false:=by
    rw[agG];simp only[afN]
    by_cases h:p.l=x
    .exact .inr λh'=>hp ⟨h,h'⟩
    .exact .inl h
   rw[h1,h2];exact rP x y ps
theorem Nq(hG:au GI)(s:ar)(hF:ja s){a b:Nat×Nat}(ha:BM s a)(hb:BM s b){st:Int}(h3:0<=st)(h4:st<=10):AC prog GI 226 [eH s,gA a,gA b,.int .i64 st] (.ret (.int .i64 (jh s st (bc s a) (bc s b)))):=by
 have kj:=lK hF (bc s a) (bc s b);refine bP hG func226 ntmps226 c226 ?_;refine az (λS H=>S 4=.box 4 0/\S 5=.box 5 0/\S 6=.box 6 0/\S 3=.int .i64 st/\H 4=some (aO s)/\H 5=some [.int .i64 a.1,.int .i64 a.2]/\H 6=some [.int .i64 b.1,.int .i64 b.2]) (by simp[eH,aO,gA,ae,bl]) ?_;rintro S H ⟨s4,s5,s6,s3,e4,e5,e6⟩
 by_cases hw:a.1=b.1
 case neg=>
  have jo:e_ s (bc s a) (bc s b)=(s.j6,s.j5):=by
   unfold e_ bc;rw[if_neg];simp only;omega
  have yz:((a.1:Int)!=(b.1:Int))=true:=by simp;omega
  unfold jh;rw[jo]at kj⊢;simp[s4,s5,s6,s3,e4,e5,e6,aO,ae,bl,yz];refine⟨_,by kernel_rfl,xp hG kj.1 kj.2.1 kj.2.2 h3 h4,λ_=>rfl,?_⟩;simp
 have y9:(bc s a).1=(bc s b).1:=by unfold bc;simp only;omega
 have yz:((a.1:Int)!=(b.1:Int))=false:=by simp;omega
 simp[s4,s5,s6,s3,e4,e5,e6,aO,ae,bl,yz];refine oc (Bx hG s ha) ?_;simp[s4,s5,s6,s3,e4,e5,e6,aO,ae,bl,yz];refine oc (Bx hG s hb) ?_;simp[s4,s5,s6,s3,e4,e5,e6,aO,ae,bl,yz,sY,bC,rP]
 cases hf:s.aQ.find? λp=>p.l==(bc s a).2&&p.r==(bc s b).2 with
 |some p=>
  have jo:e_ s (bc s a) (bc s b)=(p.lo,p.hi):=by unfold e_;rw[if_pos y9,hf]
  unfold jh;rw[jo]at kj⊢;simp[s4,s5,s6,s3,e4,e5,e6,j0];refine⟨_,by kernel_rfl,xp hG kj.1 kj.2.1 kj.2.2 h3 h4,λ_=>rfl,?_⟩;simp
 |none=>
  have jo:e_ s (bc s a) (bc s b)=(s.gf,s.fY):=by unfold e_;rw[if_pos y9,hf]
  unfold jh;rw[jo]at kj⊢;simp[s4,s5,s6,s3,e4,e5,e6,aO,ae,bl];refine⟨_,by kernel_rfl,xp hG kj.1 kj.2.1 kj.2.2 h3 h4,λ_=>rfl,?_⟩;simp
theorem mI{l:List Int}(h:∀x∈l,0<=x/\x<=1000):0<=l.sum/\l.sum<=1000*l.length:=by
 induction l with
 |nil=>simp
 |cons a l ih=>
  have h1:=h a aft
  have h2:=ih λx hx=>h x (afk _ hx)
  simp only[List.sum_cons,List.length_cons];omega
theorem vS{l:List Int}{i:Nat}(h:i<l.length):(l.take (i+1)).sum=(l.take i).sum+l[i]:=by
 rw[afd h,af8];simp
theorem xn(hG:au GI)(l:List Int)(hl:l.length<100000)(h:∀x∈l,0<=x/\x<=1000):AC prog GI 225 [vI l] (.ret (.int .i64 l.sum)):=by
 refine bP hG func225 ntmps225 c225 ?_;simp[c225];refine bq 8 l.length (λi S H=>S 6=vI l/\S 7=.int .i64 l.length/\S 8=.int .i64 (i:Nat)/\S 3=.int .i64 (l.take i).sum) (λi S H h=>h.2.2.1) ⟨by simp,by simp,by simp,by simp⟩ ?_;rintro i hi S H ⟨s6,s7,s8,s3⟩
 by_cases aw:i<l.length
 .have hb:=mI (l:=l.take i) λx hx=>h x (afV hx)
  have hx:=h l[i] (ae_ aw);rw[afJ]at hb;have hw:IntKind.i64.wrap ((i:Int)+1)=i+1:=aN (by omega);have fL:IntKind.i64.wrap ((l.take i).sum+l[i])=(l.take i).sum+l[i]:=aN (by omega);rw[vS aw];generalize(l.take i).sum=y at s3 fL⊢;simp[s6,s7,s8,s3,aw,hw,fL]
 .have cD:i=l.length:=by omega
  subst cD;rw[afS]at s3;simp[s6,s7,s8,s3]
def ep(l:List Int):AV:=grow 3 (l.map (AV.int .i64))
theorem kv(l:List Int):aM 1 (l.map (AV.int .i64))=true:=fZ λa=>⟨rfl,rfl⟩
theorem pK(l:List Int):(ep l=.slice .nil []/\l=[])\/ep l=.slice (.own 3) (ints l):=by
 unfold ep grow
 cases l with
 |nil=>exact .inl ⟨rfl,rfl⟩
 |cons a l=>exact .inr rfl
theorem rH(s:ar)(l:List Lt):∀i,i<=l.length->fb s l i=((l.take i).map (fx s)).sum
 |0,_=>rfl
 |i+1,h=>by
  rw[mf (by omega),rH s l i (by omega),afd (by omega),afu,af8];simp
def fH(s:ar)(st:Int)(l:List Lt):Nat->List Int
 |0=>[]
 |i+1=>fH s st l i++(if 0<i then match l[i-1]?,l[i]? with
  |some a,some b=>[jh s st a b]
  |_,_=>[]else[])
theorem ua{s:ar}{st:Int}{l:List Lt}{i:Nat}(h:i+1<l.length):fH s st l (i+2)=fH s st l (i+1)++[jh s st (l[i]'(by omega)) l[i+1]]:=by
 show fH s st l (i+1)++_=_;rw[if_pos (by omega),show i+1-1=i by omega,ae9 (by omega:i<l.length),ae9 h]
theorem vH{s:ar}{st:Int}{l:List Lt}:∀i,i+1<=l.length->(fH s st l (i+1)).sum=fh s st l i
 |0,_=>rfl
 |i+1,h=>by
  rw[ua (by omega),mg (by omega),af8,vH i (by omega)];simp
theorem vZ{s:ar}(hF:ja s){st:Int}(h0:0<=st)(h1:st<=10){l:List Lt}:∀i,∀x∈fH s st l i,0<=x/\x<=20
 |0,x,hx=>by cases hx
 |i+1,x,hx=>by
  unfold fH at hx;rw[afr]at hx;rcases hx with hx|hx
  .exact vZ hF h0 h1 i x hx
  .split at hx
   .split at hx
    .rw[afs]at hx;subst hx;exact pI hF h0 h1 _ _
    .cases hx
   .cases hx
theorem qZ{s:ar}{st:Int}{l:List Lt}:∀i,(fH s st l i).length<=i
 |0=>afg _
 |i+1=>by
  have:=qZ (s:=s) (st:=st) (l:=l) i;unfold fH;rw[afm];split
  .split<;>simp<;>omega
  .simp;omega
theorem yb{s:ar}(hs:aU s=true):∀i j (hi:i<s.aQ.length)(hj:j<s.aQ.length),i<j->¬(s.aQ[i].l=s.aQ[j].l/\s.aQ[i].r=s.aQ[j].r):=by
 unfold aU at hs;simp only[afa]at hs;have h:=hs.1.2;rw[eF]at h
 have hp:jn (s.aQ.map λp=>(p.l,p.r)):=nG λj hj=>by
  rw[afl,afl];exact h.2 j (by simpa using hj)
 intro i j hi hj oP he;have:=af_.1 hp i j (by simpa using hi) (by simpa using hj) oP;rw[afl,afl,he.1,he.2,fo]at this;cases this
theorem Fq(hG:au GI)(s:ar)(hs:aU s=true):AC prog GI 79 [bQ s] (.ret (eH s)):=by
 have hF:=dP hs;exact RN hG (sA:=ae s) (ps:=s.aQ) rfl rfl (by simp[ae,vI,int,AV.storable,isVal]) (by have:=hF.Kz;omega) (yb hs)
theorem L6(hG:au GI)(s:ar)(hs:mG s):AC prog GI 138 [bQ s] (.ret (.int .i64 (if aU s then 0 else 2))):=by
 refine bP hG func138 ntmps138 c138 ?_;refine az (λS H=>S 1=.box 1 0/\H 1=some (ae s)) (by simp[bQ,ae]) ?_;rintro S H ⟨s1,e1⟩;simp[s1,e1,ae];refine⟨_,by kernel_rfl,Az hG s hs,λ_=>rfl,?_⟩
 cases cK:aU s<;>simp
theorem Hm{s:ar}{out:List Int}{es:List End}{st:Int}{i:Nat}(h:i<es.length):(cJ s out es st).take (i+1)=(cJ s out es st).take i++[iO s out es st i]:=by
 rw[afd (by unfold cJ;simpa using h)]
 congr 2
 unfold cJ;rw[afl,List.getElem_range]
theorem od(s:ar)(out:List Int)(es:List End)(st:Int):(cJ s out es st).length=es.length:=by unfold cJ;simp
structure jj where
 lo:Int
 hi:Int
 hid:Bool
def gy(c:jj):AV:=.agg [.int .i64 c.lo,.int .i64 c.hi,.bool c.hid]
structure aq where
 cells:List jj
 pos:Int
 reach:Int
 dE:Int
 c_:Int
 name:ar
def ao(s:aq):List AV:=[.slice .view (s.cells.map gy),.int .i64 s.pos,.int .i64 s.reach,.int .i64 s.dE,.int .i64 s.c_]++ae s.name
def a_(s:aq):AV:=.agg (ao s)
theorem oO(hG:au GI)(n lo hi:Int):AC prog GI 99 [.int .i64 n,.int .i64 lo,.int .i64 hi] (.ret (.bool (bH n lo hi))):=by
 refine bP hG func99 ntmps99 c99 ?_
 by_cases h1:lo<=n<;>by_cases h2:n<=hi<;>simp[c99,bH,h1,h2]
def fO(x:jj):Bool:=!bH x.lo 1 20||!bH x.hi x.lo 20
theorem MR(hG:au GI)(x:jj):AC prog GI 136 [gy x] (.ret (.bool (fO x))):=by
 refine bP hG func136 ntmps136 c136 ?_;simp[c136,gy];refine oc (oO hG x.lo 1 20) ?_;cases h1:bH x.lo 1 20
 .simp[fO,h1]
 .simp;refine oc (oO hG x.hi x.lo 20) ?_;simp[fO,h1]
theorem LN(hG:au GI)(x:jj):AC prog GI 157 [gy x] (.ret (.int .i64 x.lo)):=by
 refine bP hG func157 ntmps157 c157 ?_;simp[c157,gy]
theorem L0(hG:au GI)(x:jj):AC prog GI 158 [gy x] (.ret (.int .i64 x.hi)):=by
 refine bP hG func158 ntmps158 c158 ?_;simp[c158,gy]
theorem Mp (hG:au GI) (l:List jj) (hl:l.length < 1000000) (k:Nat) (p:jj→Bool) (hk:dZ prog k=true) (h:∀ x∈l,AC prog GI k [gy x] (.ret (.bool (p x)))) :
  AC prog GI 183 [.slice .view (l.map gy),.func (.func k) [] []] (.ret (.int .i64 (firstT p l))):=by
 refine bP hG func183 ntmps183 c183 ?_;simp[c183];refine bq 8 l.length (λi S H=>S 0=.slice .view (l.map gy)/\S 1=_/\S 7=.int .i64 l.length/\S 8=.int .i64 (i:Nat)/\∀j (hj:j<l.length),j<i->p l[j]=false) (λi S H h=>h.2.2.2.1) ⟨by simp,by simp<;>rfl,by simp,by simp,by simp⟩ ?_;rintro i hi S H ⟨s0,s1,s7,s8,hb⟩
 by_cases aw:i<l.length
 .have hw:IntKind.i64.wrap ((i:Int)+1)=i+1:=aN (by omega);have hx:=h l[i] (ae_ aw);cases hp:p l[i]
  .simp[afl,gy,s0,s1,s7,s8,aw];refine⟨_,hk,hx,by simp[du],?_⟩;simp[s0,s1,s7,s8,aw,hp,hw];intro j hj lg
   by_cases zE:j=i
   .subst zE;exact hp
   .exact hb j hj (by omega)
  .simp[afl,gy,s0,s1,s7,s8,aw];refine⟨_,hk,hx,by simp[du],?_⟩;simp[s0,s1,s7,s8,aw,hp,hw];exact kG aw hp hb
 .have cD:i=l.length:=by omega
  subst cD;simp[s0,s1,s7,s8]
  exact ir λj hj=>hb j hj hj
theorem Mx (hG:au GI) (l:List jj) (hl:l.length < 1000000) (k:Nat) (p:jj→Bool) (hk:dZ prog k=true) (h:∀ x∈l,AC prog GI k [gy x] (.ret (.bool (p x)))) :
  AC prog GI 137 [.slice .view (l.map gy),.func (.func k) [] []] (.ret (.bool (l.any p))):=by
 have hF:=Mp hG l hl k p hk h;refine bP hG func137 ntmps137 c137 ?_;simp[c137];refine⟨_,by kernel_rfl,hF,λ_=>rfl,?_⟩;simp;exact iY.symm
def cq(s:aq):Bool:=bH s.cells.length 1 12&&!s.cells.any fO&&bH s.pos 1 s.cells.length&&bH s.reach 1 12&&bH s.dE 1 9&&bH s.c_ 0 9&&aU s.name
structure er(s:aq):Prop where
 cells:s.cells.length<1000000
 name:mG s.name
theorem mK(hG:au GI)(s:aq)(hs:er s):AC prog GI 77 [a_ s] (.ret (.bool (cq s))):=by
 refine bP hG func77 ntmps77 c77 ?_;simp[c77,a_,ao,ae];refine oc (oO hG s.cells.length 1 12) ?_;cases e1:bH s.cells.length 1 12
 .simp[cq,e1]
 simp;refine oc (Mx hG s.cells hs.cells 136 fO (by kernel_rfl) (λx _=>MR hG x)) ?_;cases e3:s.cells.any fO
 case true=>simp[cq,e1,e3]
 simp;refine oc (oO hG s.pos 1 s.cells.length) ?_;cases e4:bH s.pos 1 s.cells.length
 .simp[cq,e1,e3,e4]
 simp;refine oc (oO hG s.reach 1 12) ?_;cases e5:bH s.reach 1 12
 .simp[cq,e1,e3,e4,e5]
 simp;refine oc (oO hG s.dE 1 9) ?_;cases e6:bH s.dE 1 9
 .simp[cq,e1,e3,e4,e5,e6]
 simp;refine oc (oO hG s.c_ 0 9) ?_;cases e7:bH s.c_ 0 9
 .simp[cq,e1,e3,e4,e5,e6,e7]
 simp;refine oc (L6 hG s.name hs.name) ?_
 cases e8:aU s.name<;>simp[cq,e1,e3,e4,e5,e6,e7,e8]
end Go.Proofs.Tryz
