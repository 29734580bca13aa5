/- A part of the proof. -/
import Derived.Test.YtajdcjkalbbogaaGreatDoorF1
import Derived.Test.YtajdcjkalbbogaaGreatDoorF2
import Derived.Test.YtajdcjkalbbogaaGreatDoorF3
import Derived.Test.YtajdcjkalbbogaaGreatDoorShelf
set_option maxRecDepth 100000
set_option maxHeartbeats 8000000
set_option linter.all false
namespace Go.Proofs.Tram
def eO(seen:Nat->Bool)(s:Nat×List (Nat×Nat))(i:Nat):Nat×List (Nat×Nat):=if seen i=true then s else(i+1,if s.1<i then s.2++[(s.1,i-1)]else s.2)
def gq(seen:Nat->Bool)(n:Nat):List (Nat×Nat):=((List.range (n+1)).foldl (eO seen) (0,[])).2
def yU(seen:Nat->Bool)(out:List (Nat×Nat))(c:Nat):List (Nat×Nat):=
 if seen c=true then(if 0<c/\seen (c-1)=true then out.dropLast++[((out.getLast?.getD (0,0)).1,c)]else out++[(c,c)])else out
def sU (seen:Nat→Bool) (n:Nat) :
  ((List.range n).foldl (eO seen) (0,[])).1<=n/\(((List.range n).foldl (eO seen) (0,[])).1<n↔0<n/\seen (n-1)=true)/\
   (List.range n).foldl (yU seen) []=((List.range n).foldl (eO seen) (0,[])).2++(if((List.range n).foldl (eO seen) (0,[])).1<n then[(((List.range n).foldl (eO seen) (0,[])).1,n-1)]else[]):=by
 induction n with
 |zero=>simp
 |succ n ih=>
  rw[aeA,aem,aem]
  generalize(List.range n).foldl (eO seen) (0,[])=s at*
  generalize(List.range n).foldl (yU seen) []=r at*
  obtain⟨h1,h2,h3⟩:=ih;simp only[List.foldl_cons,List.foldl_nil,afz]
  cases hs:seen n with
  |true=>
   have e1:eO seen s n=s:=by simp[eO,hs]
   rw[e1];refine⟨zo,⟨λ_=>⟨zo,by first|exact hs|rfl⟩,λ_=>zo⟩,?_⟩;rw[if_pos (by omega:s.1<n+1)];unfold yU;rw[if_pos hs]
   by_cases aq:s.1<n
   .rw[if_pos (h2.1 aq),h3,if_pos aq];simp
   .have:s.1=n:=zo
    rw[if_neg (λh=>aq (h2.2 h)),h3,if_neg aq,ael,this]
  |false=>
   have e1:eO seen s n=(n+1,if s.1<n then s.2++[(s.1,n-1)]else s.2):=by simp[eO,hs]
   have e2:yU seen r n=r:=by simp[yU,hs]
   rw[e1,e2];refine⟨adl _,ahi,?_⟩;simp only[ahf,adH,ael];rw[h3]
   split<;>simp
def eh:List Int->Int->Nat×Int
 |[],t=>(0,t)
 |x::l,t=>if x<=t then((eh l (t-x)).1+1,(eh l (t-x)).2)else(0,t)
def vQ:∀(l:List Int)(t:Int),(eh l t).1<=l.length
 |[],_=>adl _
 |x::l,t=>by
  unfold eh;split
  .simpa using vQ l (t-x)
  .simp
def Am:∀(l:List Int)(t:Int),0<=t->0<=(eh l t).2
 |[],_,h=>h
 |x::l,t,h=>by
  unfold eh;split
  .exact Am l (t-x) zo
  .exact h
def FI:∀(l:List Int)(t:Int)(x:Int),l[(eh l t).1]?=some x->(eh l t).2<x
 |[],_,_,h=>by simp at h
 |y::l,t,x,h=>by
  unfold eh at h⊢;split at h
  .rename_i hy;rw[if_pos hy];simp only[List.getElem?_cons_succ]at h;exact FI l (t-y) x h
  .rename_i hy;rw[if_neg hy];simp only[List.getElem?_cons_zero,adN]at h;simp only;omega
def Jx:∀(l:List Int)(a b:Int),0<=b->eh l (a+b)=((eh l a).1+(eh (l.drop (eh l a).1) ((eh l a).2+b)).1,(eh (l.drop (eh l a).1) ((eh l a).2+b)).2)
 |[],a,b,_=>by simp[eh]
 |x::l,a,b,hb=>by
  by_cases h:x<=a
  .have e:eh (x::l) a=((eh l (a-x)).1+1,(eh l (a-x)).2):=by rw[eh];rw[if_pos h]
   rw[e]
   have e2:eh (x::l) (a+b)=((eh l (a+b-x)).1+1,(eh l (a+b-x)).2):=by
    rw[eh];rw[if_pos zo]
   rw[e2,show a+b-x=(a-x)+b by omega,Jx l (a-x) b hb];simp only[ahl]
   ext<;>simp<;>omega
  .have e:eh (x::l) a=(0,a):=by rw[eh];rw[if_neg h]
   rw[e];simp
def xI:∀(l:List Int)(t:Int)(k:Nat),k<=(eh l t).1->eh l t=(k+(eh (l.drop k) (t-(l.take k).sum)).1,(eh (l.drop k) (t-(l.take k).sum)).2)
 |_,_,0,_=>ahi
 |[],t,k+1,h=>by simp[eh]at h
 |x::l,t,k+1,h=>by
  by_cases hx:x<=t
  .have e:eh (x::l) t=((eh l (t-x)).1+1,(eh l (t-x)).2):=by rw[eh];rw[if_pos hx]
   rw[e]at h⊢;have:=xI l (t-x) k (by simpa using h);rw[this];simp only[ahl,List.take_succ_cons,List.sum_cons];rw[show t-x-(l.take k).sum=t-(x+(l.take k).sum) by omega]
   ext<;>simp<;>omega
  .rw[eh,if_neg hx]at h;simp at h
def mu(cm:Nat->Int)(a b:Nat):Int:=((List.range' a (b-a)).map cm).sum
def yb(cm:Nat->Int){a b:Nat}(h:a<=b):mu cm a (b+1)=mu cm a b+cm b:=by
 unfold mu;rw[show b+1-a=(b-a)+1 by omega,afU,adL,aeR];simp
 congr 1;omega
def CO(cm:Nat->Int)(a:Nat):mu cm a a=0:=by simp[mu]
def fX(aw:List Int)(cm:Nat->Int)(vs:List (Nat×Nat)):Nat:=vs.foldl (λn v=>n+(eh (aw.drop n) (mu cm v.1 (v.2+1))).1) 0
def nU(aw:List Int)(cm:Nat->Int)(seen:Nat->Bool)(s:Nat×Int)(i:Nat):Nat×Int:=
 if seen i=true then(s.1+(eh (aw.drop s.1) (s.2+cm i)).1,(eh (aw.drop s.1) (s.2+cm i)).2)else(s.1,0)
def ml(aw:List Int)(cm:Nat->Int)(seen:Nat->Bool)(n:Nat):Nat×Int:=(List.range n).foldl (nU aw cm seen) (0,0)
def rF(aw:List Int)(cm:Nat->Int)(l:List (Nat×Nat))(v:Nat×Nat):fX aw cm (l++[v])=fX aw cm l+(eh (aw.drop (fX aw cm l)) (mu cm v.1 (v.2+1))).1:=by
 unfold fX;rw[aem];rfl
def Du(aw:List Int)(cm:Nat->Int)(s:Nat×List (Nat×Nat))(n:Nat):Nat×Int:=
 if s.1<n then(fX aw cm s.2+(eh (aw.drop (fX aw cm s.2)) (mu cm s.1 n)).1,(eh (aw.drop (fX aw cm s.2)) (mu cm s.1 n)).2)else(fX aw cm s.2,0)
def OB(aw:List Int){cm:Nat->Int}(hr:∀i,0<=cm i)(seen:Nat->Bool)(s:Nat×List (Nat×Nat)){n:Nat}(hle:s.1<=n):nU aw cm seen (Du aw cm s n) n=Du aw cm (eO seen s n) (n+1):=by
 cases hs:seen n with
 |true=>
  have e1:eO seen s n=s:=by simp[eO,hs]
  rw[e1];unfold nU Du;rw[if_pos hs,if_pos (by omega:s.1<n+1),yb cm hle]
  by_cases aq:s.1<n
  .rw[if_pos aq];simp only;rw[Jx _ (mu cm s.1 n) (cm n) (hr n),afI]
   ext<;>simp<;>omega
  .have:s.1=n:=zo
   rw[if_neg aq,this,CO]
 |false=>
  have e1:eO seen s n=(n+1,if s.1<n then s.2++[(s.1,n-1)]else s.2):=by simp[eO,hs]
  rw[e1];unfold nU Du;rw[if_neg (by simp[hs])];simp only[ahf,adH]
  by_cases aq:s.1<n
  .rw[if_pos aq,if_pos aq,rF];simp only;rw[show n-1+1=n by omega]
  .rw[if_neg aq,if_neg aq]
def FB(aw:List Int){cm:Nat->Int}(hr:∀i,0<=cm i)(seen:Nat->Bool):∀n,ml aw cm seen n=Du aw cm ((List.range n).foldl (eO seen) (0,[])) n
 |0=>by simp[ml,fX,Du]
 |n+1=>by
  have e1:ml aw cm seen (n+1)=nU aw cm seen (ml aw cm seen n) n:=by
   unfold ml;rw[aeA,aem];rfl
  have e2:(List.range (n+1)).foldl (eO seen) (0,[])=eO seen ((List.range n).foldl (eO seen) (0,[])) n:=by
   rw[aeA,aem];rfl
  rw[e1,e2,FB aw hr seen n];exact OB aw hr seen _ (sU seen n).1
def AQ{aw:List Int}{cm:Nat->Int}(hr:∀i,0<=cm i){seen:Nat->Bool}{n:Nat}(hn:seen n=false):fX aw cm (gq seen n)=(ml aw cm seen n).1:=by
 have h:=FB aw hr seen (n+1);have hv:=sU seen (n+1)
 have h2:¬((List.range (n+1)).foldl (eO seen) (0,[])).1<n+1:=λhl=>by
  have:=(hv.2.1.1 hl).2;rw[afz,hn]at this;cases this
 unfold Du at h;rw[if_neg h2]at h
 have e:ml aw cm seen (n+1)=nU aw cm seen (ml aw cm seen n) n:=by
  unfold ml;rw[aeA,aem];rfl
 rw[e]at h;unfold nU at h;rw[if_neg (by simp[hn])]at h;exact(congrArg Prod.fst h).symm
def yF(a b:Nat×Int):Prop:=a.1<b.1\/(a.1=b.1/\a.2<=b.2)
def Fw:∀(la lb:List Int)(ta tb:Int),la.length=lb.length->(∀j (h:j<la.length)(h':j<lb.length),lb[j]<=la[j])->ta<=tb->yF (eh la ta) (eh lb tb)
 |[],[],ta,tb,_,_,ht=>.inr ⟨rfl,ht⟩
 |[],_::_,_,_,h,_,_=>by simp at h
 |_::_,[],_,_,h,_,_=>by simp at h
 |x::la,y::lb,ta,tb,hl,h,ht=>by
  have h0:=h 0 ahi ahi;simp only[List.getElem_cons_zero]at h0
  by_cases hx:x<=ta
  .have e1:eh (x::la) ta=((eh la (ta-x)).1+1,(eh la (ta-x)).2):=by rw[eh];rw[if_pos hx]
   have e2:eh (y::lb) tb=((eh lb (tb-y)).1+1,(eh lb (tb-y)).2):=by rw[eh];rw[if_pos zo]
   rw[e1,e2]
   rcases Fw la lb (ta-x) (tb-y) (by simpa using hl) (λj hj dU=>h (j+1) (aga hj) (aga dU)) zo with hm|⟨hm,Yj⟩
   .exact .inl (by simp only;omega)
   .exact .inr ⟨by simp only;omega,Yj⟩
  .have e1:eh (x::la) ta=(0,ta):=by rw[eh];rw[if_neg hx]
   rw[e1]
   by_cases hy:y<=tb
   .have e2:eh (y::lb) tb=((eh lb (tb-y)).1+1,(eh lb (tb-y)).2):=by rw[eh];rw[if_pos hy]
    rw[e2];exact .inl ahi
   .have e2:eh (y::lb) tb=(0,tb):=by rw[eh];rw[if_neg hy]
    rw[e2];exact .inr ⟨rfl,ht⟩
structure Calm(aw:List Int)(s:Nat×Int):Prop where
 left:0<=s.2
 next:∀x,aw[s.1]?=some x->s.2<x
def Bp{aw:List Int}(hp:∀x∈aw,0<x){cm:Nat->Int}(hr:∀i,0<=cm i)(seen:Nat->Bool){s:Nat×Int}(h:Calm aw s)(i:Nat):Calm aw (nU aw cm seen s i):=by
 unfold nU;split
 .refine⟨Am _ _ (by have:=h.left;have:=hr i;omega),λx hx=>?_⟩;refine FI (aw.drop s.1) (s.2+cm i) x ?_;rw[afw];exact hx
 .exact⟨afb _,λx hx=>hp x (aer hx)⟩
def K5 {na nb:List Int} (hl:na.length=nb.length) (hn:∀ j (h:j < na.length) (h':j < nb.length),nb[j]≤na[j]) (hp:∀ x∈nb,0 < x) {ra rb:Nat→Int} (JN:∀ i,0≤ra i) {sa sb:Nat→Bool} {i:Nat} (hs:sa i=true→sb i=true) (hr:sa i=true→ra i≤rb i) (yL:∀ i,0≤rb i)
  {a b:Nat×Int} (ha:Calm na a) (hb:Calm nb b) (h:yF a b):yF (nU na ra sa a i) (nU nb rb sb b i):=by
 have RL:∀x∈na,0<x:=λx hx=>by
  obtain⟨j,hj,rfl⟩:=ad7 hx;have:=hn j hj zo;have:=hp _ (adi (by omega:j<nb.length));omega
 have lift:∀k ta tb,ta<=tb->yF (k+(eh (na.drop k) ta).1,(eh (na.drop k) ta).2) (k+(eh (nb.drop k) tb).1,(eh (nb.drop k) tb).2):=λk ta tb ht=>by
  rcases Fw (na.drop k) (nb.drop k) ta tb (by simp;omega) (λj hj dU=>by simpa using hn (k+j) (by simp at hj;omega) (by simp at dU;omega)) ht with hm|⟨hm,Yj⟩
  .exact .inl (by simp only;omega)
  .exact .inr ⟨by simp only;omega,Yj⟩
 have hla:=ha.left;have Dk:=hb.left;have ac4:=JN i;have ac5:=yL i;unfold nU
 cases hsa:sa i with
 |false=>
  simp only[ads,adH];split
  .have:=Am (nb.drop b.1) (b.2+rb i) zo
   rcases h with h|⟨h,_⟩
   .exact .inl (by simp only;omega)
   .by_cases h0:(eh (nb.drop b.1) (b.2+rb i)).1=0
    .exact .inr ⟨by simp only;omega,this⟩
    .exact .inl (by simp only;omega)
  .rcases h with h|⟨h,_⟩
   .exact .inl h
   .exact .inr ⟨h,afb _⟩
 |true=>
  have hr:=hr hsa;rw[if_pos rfl,if_pos (hs hsa)]
  rcases h with h|⟨h1,h2⟩
  .by_cases hk:b.1-a.1<=(eh (na.drop a.1) (a.2+ra i)).1
   .rw[xI (na.drop a.1) (a.2+ra i) (b.1-a.1) hk,afI,show a.1+(b.1-a.1)=b.1 by omega];simp only;rw[show a.1+(b.1-a.1+(eh (na.drop b.1) (a.2+ra i-((na.drop a.1).take (b.1-a.1)).sum)).1)=b.1+(eh (na.drop b.1) (a.2+ra i-((na.drop a.1).take (b.1-a.1)).sum)).1 by omega];refine lift b.1 _ _ ?_
    have aq:a.1<na.length:=by
     have:=vQ (na.drop a.1) (a.2+ra i);rw[ad0]at this;omega
    have VE:=ha.next na[a.1] (adh aq)
    have yM:na[a.1]<=((na.drop a.1).take (b.1-a.1)).sum:=by
     rw[afj aq,show b.1-a.1=(b.1-a.1-1)+1 by omega,List.take_succ_cons,List.sum_cons]
     have:0<=(((na.drop (a.1+1)).take (b.1-a.1-1))).sum:=by
      have iK:∀l:List Int,(∀x∈l,0<x)->0<=l.sum:=by
       intro l
       induction l with
       |nil=>simp
       |cons x l ih=>
        intro hx;have:=hx x ahi
        have:=ih λy hy=>hx y (adu _ hy)
        simp;omega
      exact iK _ λx hx=>RL x (afM (adU hx))
     omega
    omega
   .exact .inl (by simp only;omega)
  .rw[h1];exact lift b.1 _ _ zo
def BK{na nb:List Int}(hl:na.length=nb.length)(hn:∀j (h:j<na.length)(h':j<nb.length),nb[j]<=na[j])(hp:∀x∈nb,0<x){ra rb:Nat->Int}(JN:∀i,0<=ra i)(yL:∀i,0<=rb i){sa sb:Nat->Bool}:∀n,(∀i,i<n->sa i=true->sb i=true/\ra i<=rb i)->yF (ml na ra sa n) (ml nb rb sb n)/\Calm na (ml na ra sa n)/\Calm nb (ml nb rb sb n)
 |0,_=>by
  have RL:∀x∈na,0<x:=λx hx=>by
   obtain⟨j,hj,rfl⟩:=ad7 hx;have:=hn j hj zo;have:=hp _ (adi (by omega:j<nb.length));omega
  exact⟨.inr ⟨rfl,afb _⟩,⟨afb _,λx hx=>RL x (aer hx)⟩,⟨afb _,λx hx=>hp x (aer hx)⟩⟩
 |n+1,h=>by
  obtain⟨h1,h2,h3⟩:=BK hl hn hp JN yL n (λi hi=>h i zo)
  have RL:∀x∈na,0<x:=λx hx=>by
   obtain⟨j,hj,rfl⟩:=ad7 hx;have:=hn j hj zo;have:=hp _ (adi (by omega:j<nb.length));omega
  have e:∀(q:List Int)(r:Nat->Int)(s:Nat->Bool),ml q r s (n+1)=nU q r s (ml q r s n) n:=λq r s=>by
   unfold ml;rw[aeA,aem];rfl
  rw[e,e];exact⟨K5 hl hn hp JN (λhs=>(h n zo hs).1) (λhs=>(h n zo hs).2) yL h2 h3 h1,Bp RL JN sa h2 n,Bp hp yL sb h3 n⟩
def Nx {na nb:List Int} (hl:na.length=nb.length) (hn:∀ j (h:j < na.length) (h':j < nb.length),nb[j]≤na[j]) (hp:∀ x∈nb,0 < x) {ra rb:Nat→Int} (JN:∀ i,0≤ra i) (yL:∀ i,0≤rb i) {sa sb:Nat→Bool} {n:Nat} (ha:sa n=false) (hb:sb n=false)
  (h:∀i,i<n->sa i=true->sb i=true/\ra i<=rb i):fX na ra (gq sa n)<=fX nb rb (gq sb n):=by
 rw[AQ JN ha,AQ yL hb]
 rcases(BK hl hn hp JN yL n h).1 with h|⟨h,_⟩
 .omega
 .omega
def LQ (seen:Nat→Bool) (n:Nat) :
  (∀v∈((List.range n).foldl (eO seen) (0,[])).2,v.1<=v.2/\v.2+2<=((List.range n).foldl (eO seen) (0,[])).1)/\(((List.range n).foldl (eO seen) (0,[])).2).Pairwise (λu v=>u.2+1<v.1)/\
   ∀c,c<n->(seen c=true↔(∃v∈((List.range n).foldl (eO seen) (0,[])).2,v.1<=c/\c<=v.2)\/((List.range n).foldl (eO seen) (0,[])).1<=c):=by
 induction n with
 |zero=>simp
 |succ n ih=>
  have hle:=(sU seen n).1;rw[aeA,aem]
  generalize(List.range n).foldl (eO seen) (0,[])=s at*
  simp only[List.foldl_cons,List.foldl_nil];obtain⟨h1,h2,h3⟩:=ih
  cases hs:seen n with
  |true=>
   have e1:eO seen s n=s:=by simp[eO,hs]
   rw[e1];refine⟨h1,h2,λc hc=>?_⟩
   by_cases T6:c=n
   .subst T6;exact⟨λ_=>.inr hle,λ_=>hs⟩
   .exact h3 c zo
  |false=>
   have e1:eO seen s n=(n+1,if s.1<n then s.2++[(s.1,n-1)]else s.2):=by simp[eO,hs]
   rw[e1];simp only
   by_cases aq:s.1<n
   .rw[if_pos aq];refine⟨λv hv=>?_,?_,λc hc=>?_⟩
    .rcases adm.1 hv with hv|hv
     .have:=h1 v hv;omega
     .simp only[adJ]at hv;subst hv;simp only;omega
    .rw[afN];refine⟨h2,ahi,λu hu v hv=>?_⟩;simp only[adJ]at hv;subst hv;have:=h1 u hu;simp only;omega
    .by_cases T6:c=n
     .subst T6;rw[hs];refine⟨λh=>by(cases h),λh=>?_⟩;rcases h with⟨v,hv,fp,fc⟩|h
      .rcases adm.1 hv with hv|hv
       .have:=h1 v hv;omega
       .simp only[adJ]at hv;subst hv;simp only at fc;omega
      .omega
     .rw[h3 c zo];refine⟨λh=>.inl ?_,λh=>?_⟩
      .rcases h with⟨v,hv,hvc⟩|h
       .exact⟨v,afm _ hv,hvc⟩
       .exact⟨(s.1,n-1),ahi,h,by simp only;omega⟩
      .rcases h with⟨v,hv,fp,fc⟩|h
       .rcases adm.1 hv with hv|hv
        .exact .inl ⟨v,hv,fp,fc⟩
        .simp only[adJ]at hv;subst hv;exact .inr fp
       .omega
   .rw[if_neg aq];refine⟨λv hv=>?_,h2,λc hc=>?_⟩
    .have:=h1 v hv;omega
    .by_cases T6:c=n
     .subst T6;rw[hs];refine⟨λh=>by(cases h),λh=>?_⟩;rcases h with⟨v,hv,fp,fc⟩|h
      .have:=h1 v hv;omega
      .omega
     .rw[h3 c zo];refine⟨λh=>?_,λh=>?_⟩
      .rcases h with h|h
       .exact .inl h
       .omega
      .rcases h with h|h
       .exact .inl h
       .omega
def Gf{seen:Nat->Bool}{n:Nat}(hn:seen n=false):(∀v∈gq seen n,v.1<=v.2/\v.2<n)/\(gq seen n).Pairwise (λu v=>u.2+1<v.1)/\∀c,c<n->(seen c=true↔∃v∈gq seen n,v.1<=c/\c<=v.2):=by
 obtain⟨h1,h2,h3⟩:=LQ seen (n+1);have hv:=sU seen (n+1)
 have h4:¬((List.range (n+1)).foldl (eO seen) (0,[])).1<n+1:=λhl=>by
  have:=(hv.2.1.1 hl).2;rw[afz,hn]at this;cases this
 have h5:=hv.1;unfold gq
 generalize(List.range (n+1)).foldl (eO seen) (0,[])=s at*
 refine⟨λv hv=>?_,h2,λc hc=>?_⟩
 .have:=h1 v hv;omega
 .rw[h3 c zo];refine⟨λh=>?_,λh=>.inl h⟩;rcases h with h|h
  .exact h
  .omega
def Ax(aw:List Int)(cm:Nat->Int)(vs:List (Nat×Nat)):fX aw cm vs<=aw.length:=by
 have main:∀(r:List (Nat×Nat)),fX aw cm r.reverse<=aw.length:=by
  intro r
  induction r with
  |nil=>simp[fX]
  |cons v r ih=>
   rw[List.reverse_cons,rF];have:=vQ (aw.drop (fX aw cm r.reverse)) (mu cm v.1 (v.2+1));rw[ad0]at this;omega
 have:=main vs.reverse;rwa [List.reverse_reverse]at this
structure IS(f:Nat->Nat)(m a w:Nat):Prop where
 place:1<=a/\a<=m
 words:w=f a
 most:∀n,1<=n->n<=m->f n<=w/\(f n=w->a<=n)
def IS.unique{f:Nat->Nat}{m a w a' w':Nat}(h:IS f m a w)(h':IS f m a' w'):a=a'/\w=w':=by
 have h1:=h.most a' h'.place.1 h'.place.2;have h2:=h'.most a h.place.1 h.place.2;have e1:=h.words;have e2:=h'.words
 have hw:w=w':=zo
 have:=h1.2 zo;have:=h2.2 zo;exact⟨zo,hw⟩
def si(x:Nat×Nat)(l:List (Nat×Nat)):Nat×Nat:=l.foldl (λo y=>if o.2<y.2 then y else o) x
def jf(f:Nat->Nat)(a m:Nat):List (Nat×Nat):=(List.range' a m).map λn=>(n,f n)
def qp(p:Nat->Bool)(k n:Nat):Prop:=n<=k/\(∀x,x<n->p x=false)/\(n<k->p n=true)
def qp.unique{p:Nat->Bool}{k m n:Nat}(h:qp p k m)(h':qp p k n):m=n:=by
 rcases Nat.lt_trichotomy m n with aq|rfl|aq
 .have h1:=h.2.2 (by have:=h'.1;omega);have h2:=h'.2.1 m aq;rw[h1]at h2;cases h2
 .rfl
 .have h1:=h'.2.2 (by have:=h.1;omega);have h2:=h.2.1 n aq;rw[h1]at h2;cases h2
def V'{p:Nat->Bool}(hm:∀x y,x<=y->p x=true->p y=true){i j:Nat}(ss:i<j)(uo:∀x,x<i->p x=false):i<=(i+j)/2/\(i+j)/2<j/\(p ((i+j)/2)=false->∀x,x<(i+j)/2+1->p x=false):=by
 refine⟨zo,zo,λh x hx=>?_⟩
 cases hp:p x with
 |false=>rfl
 |true=>
  have:=hm x _ (by omega:x<=(i+j)/2) hp;rw[h]at this;cases this
structure HW(p:Nat->Nat->Bool)(m c t:Nat):Prop where
 cell:c<m
 WQ:p c t=true
 less:∀c' n,c'<m->p c' n=true->t<=n/\(n=t->c<=c')
def HW.unique{p:Nat->Nat->Bool}{m c t c' t':Nat}(h:HW p m c t)(h':HW p m c' t'):c=c'/\t=t':=by
 have h1:=h.less c' t' h'.cell h'.WQ;have h2:=h'.less c t h.cell h.WQ
 have ht:t=t':=zo
 subst ht;have:=h1.2 rfl;have:=h2.2 rfl;exact⟨zo,rfl⟩
def rY(x:Nat×Nat)(l:List (Nat×Nat)):Nat×Nat:=l.foldl (λo y=>if y.2<o.2 then y else o) x
def gD(f:Nat->Nat)(most:Nat)(m:Nat):List (Nat×Nat):=(List.range m).filterMap λi=>if f i<=most then some (i,f i)else none
def G1(f:Nat->Nat)(most m:Nat):gD f most (m+1)=gD f most m++(if f m<=most then[(m,f m)]else[]):=by
 unfold gD;rw[aeA,List.filterMap_append]
 congr 1
 by_cases h:f m<=most<;>simp[h]
def Kd{f:Nat->Nat}{most m:Nat}{x:Nat×Nat}:x∈gD f most m↔x.1<m/\x.2=f x.1/\f x.1<=most:=by
 unfold gD;rw[afd]
 constructor
 .rintro⟨i,hi,he⟩;split at he
  .cases he;exact⟨adQ.1 hi,rfl,by assumption⟩
  .cases he
 .rintro⟨h1,h2,h3⟩;refine⟨x.1,adQ.2 h1,?_⟩;rw[if_pos h3,<-h2]
def Nz{p:Nat->Nat->Bool}{f:Nat->Nat}{most m:Nat}(hf:∀i,i<m->qp (p i) (most+1) (f i)){c n:Nat}(hc:c<m)(hn:n<=most)(hp:p c n=true):∃x l,gD f most m=x::l:=by
 cases hs:gD f most m with
 |cons x l=>exact⟨x,l,rfl⟩
 |nil=>
  have hle:f c<=n:=by
   rcases aeI n (f c)with h|h
   .have:=(hf c hc).2.1 n h;rw[hp]at this;cases this
   .exact h
  have:(c,f c)∈gD f most m:=Kd.2 ⟨hc,rfl,by show f c<=most;omega⟩;rw[hs]at this;cases this
def m_:∀{l:List Int},(∀x∈l,0<x)->0<=l.sum
 |[],_=>ahi
 |x::l,h=>by
  have:=h x ahi
  have:=m_ (l:=l) λy hy=>h y (adu _ hy)
  simp only[List.sum_cons];omega
def Jz:∀{l:List Int}{t:Int},(∀x∈l,0<x)->0<=t->((eh l t).1=l.length↔l.sum<=t)
 |[],t,_,ht=>by simp[eh,ht]
 |x::l,t,h,ht=>by
  have h0:=h x ahi
  have hl:=λy hy=>h y (adu _ hy)
  have hs:=m_ hl
  by_cases hx:x<=t
  .have e:eh (x::l) t=((eh l (t-x)).1+1,(eh l (t-x)).2):=by rw[eh];rw[if_pos hx]
   rw[e];have:=Jz (l:=l) (t:=t-x) hl zo;simp only[List.length_cons,List.sum_cons]
   constructor
   .intro h1;have:=this.1 zo;omega
   .intro h1;have:=this.2 zo;omega
  .have e:eh (x::l) t=(0,t):=by rw[eh];rw[if_neg hx]
   rw[e];simp only[List.length_cons,List.sum_cons]
   constructor
   .intro h1;omega
   .intro h1;omega
end Go.Proofs.Tram
namespace Go.Proofs.Tryz
open Go.AL
variable{GI:World->Prop}
def db:prog.follows .mixedOrders=true:=by kernel_rfl
def cw{GI:World->Prop}(hG:ar GI){f:Nat}{fn:Func}{c:Code}{args:List AV}{out:iJ}{n:Nat}(hf:prog.funcs[f]?=some fn)(hn:fn.ntmps=n)(ac:ah)(h:bD prog GI ac (post prog n fn.results.toList out) (AL.start args) (λ_=>none))(hl:args.length<=n:=by simp)(hb:fn.body=some c:=by rfl)(hc:dw prog n c=ac:=by kernel_rfl):AC prog GI f args out:=AC.Tj hG db hf hb hn hl hc h
def Xb (hG:ar GI) (es:List AV) (bX:aG 1 es=true) (hl:es.length < 1048576) :
  AC prog GI 74 [.slice .view es] (.ret (.slice (if es.isEmpty then .nil else .own 3) es)):=by
 refine cw hG func74 ntmps74 c74 ?_
 cases es with
 |nil=>simp[c74,bD,bp,aF,ba,aD,ev,aP.S,aP.H,bw,dk,au,aX,AL.start,AV.aJ,aG,post,cM,dc,de,AV.out,AV.cg]
 |cons x es=>
  have rV:es.length+1<1048576:=hl;simp[c74,bD,bp,aF,ba,aD,ev,aP.S,aP.H,bw,dk,au,aX,AL.start,AV.aJ,bX,rV,post,cM,dc,de,AV.out,AV.cg]
def Xl (hG:ar GI) (es:List AV) (bX:aG 2 es=true) (hl:es.length < 1048576) :
  AC prog GI 168 [.slice .view es] (.ret (.slice (if es.isEmpty then .nil else .own 180) es)):=by
 refine cw hG func168 ntmps168 c168 ?_
 cases es with
 |nil=>simp[c168,bD,bp,aF,ba,aD,ev,aP.S,aP.H,bw,dk,au,aX,AL.start,AV.aJ,aG,post,cM,dc,de,AV.out,AV.cg]
 |cons x es=>
  have rV:es.length+1<1048576:=hl;simp[c168,bD,bp,aF,ba,aD,ev,aP.S,aP.H,bw,dk,au,aX,AL.start,AV.aJ,bX,rV,post,cM,dc,de,AV.out,AV.cg]
end Go.Proofs.Tryz
namespace Go.Proofs.Tryz
open Go Go.AL Go.RowKit Go.Proofs Go.Proofs.Tram
abbrev End:=Int×Int
def b_(e:End):AV:=.agg [.int .i64 e.1,.int .i64 e.2]
def aY(l:List End):List AV:=l.map b_
def bq(out:List Int)(es:List End):AV:=.agg [.slice .view (ints out),.slice .view (aY es)]
def lp:List End->List End->Nat->List (List End)
 |_,[],_=>[]
 |now,a::r,m=>(if r=[]then[now++[a]]else match m with|0=>[]|m+1=>lp (now++[a]) r m)++lp now r m
def ch(now l:List End)(m:Nat):List (List End):=if l=[]then[now]else match m with|0=>[]|m+1=>lp now l m
variable{GI:World->Prop}{l:Nat}{xs:List AV}
structure Fx(C:Cons prog GI l xs)(all:List End)(out:List Int)(fA:List AV)(rows:Nat) where
 bN:Nat
 cA:Value
 cY:Value
 cO:Value
 cF:Value
 cR:Value
 MI:Nat->Prop
 wI:World
 bA:Nat
 E7:Value
 Py:cA=.pointer (some ⟨bA,0,none⟩)
 VV:MI bA/\bA<bN
 hA2:∃ty,wI.heap[bA]?=some (.cells #[E7] ty (0,0))
 hY:RV (λb _=>MI b) cQ wI (.ref [.val (.func (.yield l) #[] #[])]) cY
 hR:RV (λb _=>MI b) cQ wI (.ref [.val (.func (.func 167) #[] #[cA,cY,cO,.pointer (some ⟨bN,0,none⟩),cF,cR])]) cR
 f9:fA[9]?=some (.int .i64 rows)
variable{C:Cons prog GI l xs}{all:List End}{out:List Int}{fA:List AV}{rows:Nat}
structure St(X:Fx C all out fA rows)(k:Nat)(M:Nat->Prop)(Pr:Nat->Nat->Prop)(es:List End)(w:World):Prop where
 j:C.J k M Pr w
 lt:∀b,M b->b<w.heap.size
 mi:∀b,X.MI b->M b/\b≠X.bN/\w.heap[b]?=X.wI.heap[b]?
 now:∃v ty v_,w.heap[X.bN]?=some (.cells #[v] ty (0,0))/\M X.bN/\w.ownsRow (X.bN+1) 180 2 v es.length v_/\jn (λ_ _=>False) w 2 (aY es) v_/\∀b,v.ownBlock=some b->M b/\¬X.MI b
 f:RV Pr cQ w (.ref fA) X.cF
 o:RV Pr cQ w (.ref [.slice .view (ints out)]) X.cO
 e:RD (λb k=>b<X.bN/\(X.MI b\/Pr b k)) w (.slice .view (aY all)) X.E7
def Cb{MI:Nat->Prop}{bN:Nat}{Pr eS:Nat->Nat->Prop}{w w':World}(hm:∀b,MI b->w'.heap[b]?=w.heap[b]?)(hk:bf Pr eS w w'):bf (λb k=>b<bN/\(MI b\/Pr b k)) (λb k=>b<bN/\(MI b\/eS b k)) w w':={
 cell b k hp u hu:=by
  rcases hp.2 with h|h
  .exact⟨⟨hp.1,.inl h⟩,by rw[ae5 (w:=w) (hm b h)];exact hu⟩
  .obtain⟨h1,h2⟩:=hk.cell b k h u hu;exact⟨⟨hp.1,.inr h1⟩,h2⟩
 map b hp es c uB:=by
  rcases hp.2 with h|h
  .exact⟨⟨hp.1,.inl h⟩,by rw[hm b h];exact uB⟩
  .obtain⟨h1,h2⟩:=hk.map b h es c uB
   exact⟨⟨hp.1,.inr h1⟩,h2⟩ }
def St.WA{X:Fx C all out fA rows}{k:Nat}{M:Nat->Prop}{Pr:Nat->Nat->Prop}{es:List End}{w:World}(s:St X k M Pr es w):RV (λb k=>b<X.bN/\(X.MI b\/Pr b k)) cQ w (.ref [.slice .view (aY all)]) X.cA:=by
 obtain⟨ty,h2⟩:=X.hA2;rw[X.Py];have hb:w.heap[X.bA]?=some (.cells #[X.E7] ty (0,0)):=(s.mi _ X.VV.1).2.2.trans h2;refine .data _ _ (.ref _ _ _ (λ_=>X.E7) (λi hi=>?_) (λk hk=>⟨⟨X.VV.2,.inl X.VV.1⟩,?_⟩) (λk hk=>?_))
 .have:i=0:=by simpa using hi
  subst this;rfl
 .have:k=0:=by simpa using hk
  subst this;simp[World.cell?,hb]
 .have:k=0:=by simpa using hk
  subst this;exact s.e
structure Fr(X:Fx C all out fA rows)(n:Int)(a:Act):Prop where
 size:a.tmps.size=53
 defers:a.defers=[]
 t0:a.tmps.getD 0 undef=.int .i64 n
 t1:a.tmps.getD 1 undef=X.cA
 t2:a.tmps.getD 2 undef=X.cY
 t3:a.tmps.getD 3 undef=X.cO
 t4:a.tmps.getD 4 undef=.pointer (some ⟨X.bN,0,none⟩)
 t5:a.tmps.getD 5 undef=X.cF
 t6:a.tmps.getD 6 undef=X.cR
def jj(l:Nat)(all es:List End)(out:List Int)(fA:List AV)(fv:Value)(n:Int)(v9:AV):an:=λt=>match t with
 |0=>.int .i64 n
 |1=>.ref [.slice .view (aY all)]
 |2=>.ref [.val (.func (.yield l) #[] #[])]
 |3=>.ref [.slice .view (ints out)]
 |4=>.ref [.slice .view (aY es)]
 |5=>.ref fA
 |6=>.ref [.val fv]
 |9=>v9
 |_=>.bo
def Fx.fv(X:Fx C all out fA rows):Value:=.func (.func 167) #[] #[X.cA,X.cY,X.cO,.pointer (some ⟨X.bN,0,none⟩),X.cF,X.cR]
def St.gw {X:Fx C all out fA rows} {k:Nat} {M:Nat→Prop} {Pr:Nat→Nat→Prop} {es:List End} {w:World} (s:St X k M Pr es w) {n:Int} {a:Act} (fr:Fr X n a) {v9:AV} (h9:v9.aJ=v9∧RV (fun _ _=>True) cQ w v9 (a.tmps.getD 9 undef)) :
  ∀t,t<53->(jj l all es out fA X.fv n v9 t).aJ=jj l all es out fA X.fv n v9 t/\RV (λ_ _=>True) cQ w (jj l all es out fA X.fv n v9 t) (a.tmps.getD t undef):=by
 intro t ht
 have hmi:∀{P':Nat->Nat->Prop},(∀b k,P' b k->X.MI b)->bf P' (λ_ _=>True) X.wI w:=λh=>bf.of_eq λb k hp=>⟨trivial,(s.mi b (h b k hp)).2.2⟩
 unfold jj;split
 .rw[fr.t0];exact⟨rfl,.data _ _ (.int _ _)⟩
 .rw[fr.t1];exact⟨rfl,s.WA.mono (bf.same λ_ _ _ _=>trivial) λ_ _ h=>h⟩
 .rw[fr.t2];exact⟨rfl,X.hY.mono (hmi λb k h=>h) λ_ _ h=>h⟩
 .rw[fr.t3];exact⟨rfl,s.o.mono (bf.same λ_ _ _ _=>trivial) λ_ _ h=>h⟩
 .rw[fr.t4];obtain⟨v,ty,v_,h1,h2,h3,h4,h5⟩:=s.now;refine⟨rfl,.data _ _ (.ref _ _ _ (λ_=>v) (λi hi=>?_) (λk hk=>⟨trivial,?_⟩) (λk hk=>?_))⟩
  .have:i=0:=by simpa using hi
   subst this;rfl
  .have:k=0:=by simpa using hk
   subst this;simp[World.cell?,h1]
  .have:k=0:=by simpa using hk
   subst this
   exact RD.ofRow (size:=2) (es:=aY es) (by simpa[aY]using h3) (h4.mono (bf.same λ_ _ _ h=>h.elim)) λ_ _ _ _=>trivial
 .rw[fr.t5];exact⟨rfl,s.f.mono (bf.same λ_ _ _ _=>trivial) λ_ _ h=>h⟩
 .rw[fr.t6];exact⟨rfl,X.hR.mono (hmi λb k h=>h) λ_ _ h=>h⟩
 .exact h9
 .exact⟨rfl,.bo _⟩
def St.grow{X:Fx C all out fA rows}{k:Nat}{M:Nat->Prop}{Pr:Nat->Nat->Prop}{es:List End}{w w':World}(s:St X k M Pr es w)(hb:Below w.heap.size w w'):St X k M Pr es w':=by
 have hM:=s.lt
 have bn:∀b,M b->w'.heap[b]?=w.heap[b]?:=λb h=>hb.block b (hM b h)
 have hk:bf Pr Pr w w':=bf.jm (λb h=>hb.block b h) λ_ _ _ h=>h
 obtain⟨v,ty,v_,h1,h2,h3,h4,h5⟩:=s.now;refine⟨C.dQ s.j (l7.vT hb) λb h=>⟨ad9 (hM b h) hb.size,.inl h⟩,λb h=>ad9 (hM b h) hb.size,λb h=>⟨(s.mi b h).1,(s.mi b h).2.1,(bn b (s.mi b h).1).trans (s.mi b h).2.2⟩,⟨v,ty,v_,(bn _ h2).trans h1,h2,?_,h4.mono (bf.of_eq λ_ _ h=>h.elim),h5⟩,s.f.mono hk λ_ _ h=>h,s.o.mono hk λ_ _ h=>h,s.e.mono (Cb (λb h=>bn b (s.mi b h).1) hk)⟩;refine⟨h3.1,?_⟩
 rcases h3.2 with h|⟨gg,cap,cur,rfl,rR,Ey,rest⟩
 .exact .inl h
 .exact .inr ⟨gg,cap,cur,rfl,rR,(bn gg (h5 gg rfl).1).trans Ey,rest⟩
def _root_.Go.AL.ah.qa:ah->ah
 |.seq x _=>x
 |.cond _ x _=>x
 |c=>c
def _root_.Go.AL.ah.qb:ah->ah
 |.seq _ y=>y
 |.cond _ _ y=>y
 |.block _ c=>c
 |.loop c=>c
 |c=>c
def _root_.Go.AL.ah.dl:ah->List bH
 |.cU l|.ops l=>l
 |_=>[]
def Ew:Nat->Bool:=λt=>decide (36<=t)
def W7:Nat->Bool:=λt=>decide (7<=t)
noncomputable def w_:ah:=ah.qb c167.qb.qb.qa.qb.qb
def Fr.step{X:Fx C all out fA rows}{n:Int}{a a':Act}(fr:Fr X n a)(bj:a'.tmps.size=53)(eI:a'.defers=[])(h:eE W7 a a'):Fr X n a':=
 ⟨bj,eI,(h 0 rfl).trans fr.t0,(h 1 rfl).trans fr.t1,(h 2 rfl).trans fr.t2,(h 3 rfl).trans fr.t3,(h 4 rfl).trans fr.t4,(h 5 rfl).trans fr.t5,(h 6 rfl).trans fr.t6⟩
def cH(args:Array Value)(k t:Nat)(h:t<args.size):(args++Array.replicate k undef).getD t undef=args[t]:=by
 simp[afg,h]
def qF(l:List Int):aG 1 (ints l)=true:=by
 simp[aG,ints,AV.storable,AV.cells]
def vk(l:List End):aG 2 (aY l)=true:=by
 simp[aG,aY,b_,AV.storable,AV.cells]
def vO(es:List End):∀x∈aY es,x.cells.length=2/\x.storable=true/\∀c∈x.cells,c.one=true:=by
 intro x hx;obtain⟨e,_,rfl⟩:=adF.1 hx;refine⟨rfl,rfl,λc hc=>?_⟩;simp[b_,AV.cells]at hc
 rcases hc with rfl|rfl<;>rfl
def CV(es:List End):∀x∈aY es,∀c∈x.cells,iG c=true:=by
 intro x hx c hc;obtain⟨e,_,rfl⟩:=adF.1 hx;simp[b_,AV.cells]at hc
 rcases hc with rfl|rfl<;>rfl
def En{P:Program}{t:TypeId}{s:Nat}(h:(P.info? t).map (·.size)=some s):∃i,P.info? t=some i/\i.size=s:=by
 cases hi:P.info? t with
 |none=>rw[hi]at h;cases h
 |some i=>rw[hi]at h;exact⟨i,rfl,adM h⟩
def iZ(t:TypeId)(s:Nat)(h:(prog.info? t).map (·.size)=some s:=by kernel_rfl):∃i,prog.info? t=some i/\i.size=s:=En h
def rX {P:Program} {a:Act} {o:Oper} {cl:Call} {f x:Operand} {l:Nat} (w:World) (ho:o.op = .call cl) (hc:cl.callee = .value f) (ha:cl.args = #[x]) (hf:a.eval f = .func (.yield l) #[] #[]) :
  (execOp a.eval o).run P w=(Instr.yield l #[a.eval x]).run P w:=by
 unfold execOp;simp[ho,fe hc,hf,Deferred.ofValue,invoke,ha]
def um {P:Program} {a:Act} {o:Oper} {cl:Call} {f x:Operand} {k:Nat} {cap:Array Value} (w:World) (ho:o.op = .call cl) (hc:cl.callee = .value f) (ha:cl.args = #[x]) (hf:a.eval f = .func (.func k) #[] cap) (hk:eb P k=true) :
  (execOp a.eval o).run P w=.ok (.enter k (#[a.eval x]++cap)) w:=by
 unfold execOp;simp[ho,fe hc,hf,Deferred.ofValue,invoke,ha,f_ hk]
def QV{P:Program}{a:Act}{o:Oper}{x:Operand}{t:TypeId}{b:Bool}(w:World)(ho:o.op=.unOp .not t x)(hx:a.eval x=.bool b):(execOp a.eval o).run P w=.ok (.value (.bool !b)) w:=by
 unfold execOp;simp[ho,hx,Op.unary]
def eE.weaken{W W':Nat->Bool}{a a':Act}(h:eE W a a')(hw:∀t,W' t=false->W t=false):eE W' a a':=λt ht=>h t (hw t ht)
def ag2{P:Program}{fn:Func}{tmps:Array Value}{t:Tmp}{v:Value}{w:World}(hr:fn.results=#[.tmp t])(h:tmps.getD t undef=v):(results fn tmps).run P w=.ok v w:=by
 rw[<-h];simp[results,hr]
def run_assign{P:Program}{a:Act}{o:Oper}{x:Operand}(w:World)(ho:o.op=.assign x):(execOp a.eval o).run P w=.ok (.value (a.eval x)) w:=by
 unfold execOp;simp only[ho]
 rfl
def St.after {X:Fx C all out fA rows} {k k':Nat} {M G:Nat→Prop} {Pr eS:Nat→Nat→Prop} {es:List End} {w w':World} (s:St X k M Pr es w) (hj:C.J k' (fun b=>(M b∨G b)∧¬ G b) eS w') (hG:∀ b,G b→¬ M b)
  (hs:∀b,M b\/G b->¬G b->w'.heap[b]?=w.heap[b]?) (hk:bf Pr eS w w'):St X k' (λb=>(M b\/G b)/\¬G b) eS es w':=by
 have Mn:∀b,M b->¬G b:=λb hb hg=>hG b hg hb
 have bn:∀b,M b->w'.heap[b]?=w.heap[b]?:=λb hb=>hs b (.inl hb) (Mn b hb)
 obtain⟨v,ty,v_,h1,h2,h3,h4,h5⟩:=s.now;refine⟨hj,λb hb=>?_,λb h=>⟨⟨.inl (s.mi b h).1,Mn b (s.mi b h).1⟩,(s.mi b h).2.1,(bn b (s.mi b h).1).trans (s.mi b h).2.2⟩,⟨v,ty,v_,(bn _ h2).trans h1,⟨.inl h2,Mn _ h2⟩,?_,h4.mono (bf.of_eq λ_ _ h=>h.elim),λb hb=>⟨⟨.inl (h5 b hb).1,Mn b (h5 b hb).1⟩,(h5 b hb).2⟩⟩,s.f.mono hk λ_ _ h=>h,s.o.mono hk λ_ _ h=>h,s.e.mono (Cb (λb h=>bn b (s.mi b h).1) hk)⟩
 .have oH:M b:=hb.1.resolve_right hb.2;have:=s.lt b oH;have h2:=bn b oH;rw[adK this]at h2;exact(adj.1 h2).1
 .refine⟨h3.1,?_⟩
  rcases h3.2 with h|⟨gg,cap,cur,rfl,rR,Ey,rest⟩
  .exact .inl h
  .exact .inr ⟨gg,cap,cur,rfl,rR,(bn gg (h5 gg rfl).1).trans Ey,rest⟩
def E9 {P:Program} {ρ:Operand→Value} {o:Oper} {t:TypeId} {ps:Array (Nat×Operand)} (ho:o.op = .build t ps) (w:World) (N:Value→Prop)
  (h:∀v w',(execOp ρ o).run P w=.ok (.value v) w'->N v):match(execOp ρ o).run P w with|.ok (.value v) _=>N v|.ok _ _=>False|.halt _ _=>True:=by
 have key:∀r,(execOp ρ o).run P w=r->match r with|.ok (.value v) _=>N v|.ok _ _=>False|.halt _ _=>True:=by
  intro r hr;have h0:=hr;unfold execOp at hr;simp only[ho,adq]at hr
  cases hb:(Instr.build t (ps.map λ(i,x)=>(i,ρ x))).run P w with
  |ok v w'=>
   rw[hb]at hr
   have:r=.ok (.value v) w':=by rw[<-hr];rfl
   subst this;exact h v w' h0
  |halt x w'=>
   rw[hb]at hr
   have:r=.halt x w':=by rw[<-hr];rfl
   subst this;trivial
 exact key _ rfl
def wS{c:Value}(h:c.oneCell'=true):c.cells=#[c]:=by cases c<;>first|rfl|cases h
def Ug{u v:Value}(hu:u.oneCell'=true)(hv:v.oneCell'=true):prog.built 176 [(0,u),(1,v)]=some #[u,v]:=by
 have e:∀u v:Value,prog.built 176 [(0,u),(1,v)]=Instr.fill (λx=>#[(0,1),(1,1)][x]?) #[.slice none 0 0,.slice none 0 0] [(0,u),(1,v)]:=by intro u v;kernel_rfl
 rw[e];simp[Instr.fill,wS hu,wS hv]
def Sz(es r:List End)(x:End)(m:Nat):lp es (x::r) m=ch (es++[x]) r m++lp es r m:=by
 cases m<;>rfl
def VJ(es:List End)(m:Nat):ch es [] m=[es]:=by simp[ch]
def SS (hG:ar GI) (X:Fx C all out fA rows) (eF:all.length≤1000) (Sg:rows≤1000) (kl:out.length≤1000) :
  ∀(d n:Nat)(es:List End)(k:Nat)(M:Nat->Prop)(Pr:Nat->Nat->Prop)(w:World)(tail:List AV),n+d=all.length->es.length<=n->St X k M Pr es w->
   xs.drop k=(ch es (all.drop n) (rows-es.length)).map (bq out)++tail->
   Calls prog 167 #[.int .i64 n,X.cA,X.cY,X.cO,.pointer (some ⟨X.bN,0,none⟩),X.cF,X.cR] w λe w'=>∃M' eS,
    (e=.returned (.bool true)/\St X (k+(ch es (all.drop n) (rows-es.length)).length) M' eS es w')\/(e=.returned (.bool false)/\C.X M' eS w'):=by
 intro d
 induction d using Nat.strongRecOn with
 |_ d ih=>
 intro n es k M Pr w tail dL nV st qK;refine(iU (ro:=none) (m:=0)).1 (agC func167 rfl trivial ?_)
 have fr:Fr X n { tmps:=#[.int .i64 n,X.cA,X.cY,X.cO,.pointer (some ⟨X.bN,0,none⟩),X.cF,X.cR]++Array.replicate (f167.ntmps-7) undef,defers:=[] }:=by
  refine⟨by simp[ntmps167],rfl,cH _ _ 0 ahi,cH _ _ 1 ahi,cH _ _ 2 ahi,cH _ _ 3 ahi,cH _ _ 4 ahi,cH _ _ 5 ahi,cH _ _ 6 ahi⟩
 generalize hc:(λe w'=>∃M' eS,(e=Ending.returned (.bool true)/\St X (k+(ch es (all.drop n) (rows-es.length)).length) M' eS es w')\/(e=.returned (.bool false)/\C.X M' eS w'))=R
 have h9:∀(a:Act)(w:World),(AV.bo).aJ=AV.bo/\RV (λ_ _=>True) cQ w AV.bo (a.tmps.getD 9 undef):=λa w=>⟨rfl,.bo _⟩
 refine adB ?_;refine cJ hG db (ac:=ah.qa c167) (W:=W7) zk zk zk (C.gi st.j) (λ_ _=>True) (jj l all es out fA X.fv n .bo) fr.size fr.defers (st.gw fr (h9 _ _)) (K:=λ_ _=>True) ?_ ?_
 .simp[c167,ah.qa,bD,bp,aF,ba,aD,aN]
 intro g S' H' a w1 hg R1 _ bn;have fr:=fr.step R1.size (by rw[R1.defers,hg];rfl) bn;have st:=st.grow (by have:=R1.below;rwa [R1.base]at this);clear bn R1 hg g S' H';show Code.wpIn _ _ _ _ _ a w1;refine adB (adB ?_);refine cJ hG db (ac:=ah.qa c167.qb.qa) (W:=W7) zk zk zk (C.gi st.j) (λ_ _=>True) (jj l all es out fA X.fv n .bo) fr.size fr.defers (st.gw fr (h9 _ _)) (K:=λS' _=>∃b,S' 13=.bool b/\(b=true↔n=all.length)) ?_ ?_
 .simp[c167,ah.qa,ah.qb,bD,bp,aF,ba,aD,aN,aP.S,aP.H,ev,au,aX,jj,cb,AV.aJ,dS,aY];omega
 rintro g S' H' a w2 hg R1 ⟨b,hb,hbn⟩ bn;have fr:=fr.step R1.size (by rw[R1.defers,hg];rfl) bn;have st:=st.grow (by have:=R1.below;rwa [R1.base]at this);have ht:=R1.slot 13 zd (λh=>h);rw[hb]at ht;have uz:=ht.fL;clear ht bn;show Code.wpIn _ _ _ _ _ a w2;refine aed (t:=b) uz ?_
 cases b with
 |true=>
  have hn:n=all.length:=hbn.1 rfl
  have hch:ch es (all.drop n) (rows-es.length)=[es]:=by rw[hn,agQ];exact VJ _ _
  rw[hch]at qK hc;simp only[adS];refine adB ?_
  refine PU hG db (n:=53) (p:=6) (j:=5) (d:=19) (T:=[16,18]) (W:=W7) (l:=(c167.qb.qa.qb.qa.qa.dl).take 6) zk zk zk zk zk zk (C.gi st.j) (λ_ _=>True) (jj l all es out fA X.fv n .bo) (oj:=⟨some 19,.build 176 #[(0,.tmp 16),(1,.tmp 18)],176, "name.go:18",#[⟨2,.data⟩,⟨4,.data⟩],none⟩) ?_ rfl rfl
   (λa=>(a.tmps.getD 16 undef).oneCell'=true->(a.tmps.getD 18 undef).oneCell'=true->a.tmps.getD 19 undef=.agg #[a.tmps.getD 16 undef,a.tmps.getD 18 undef]) ?_ ?_ zk zk fr.size fr.defers (st.gw fr (h9 _ _)) (K:=λS' _=>S' 14=.val (.func (.yield l) #[] #[])/\S' 16=.slice (if(ints out).isEmpty then .nil else .own 3) (ints out)/\S' 18=.slice (if(aY es).isEmpty then .nil else .own 180) (aY es)/\
    ∃o1 o2,S' 19=.agg [.slice o1 (ints out),.slice o2 (aY es)]) ?_ ?_
  .rfl
  .intro a a' h1 h2 hN g16 g18;rw[h2 16 ahi]at g16⊢;rw[h2 18 ahi]at g18⊢;rw[h1];exact hN g16 g18
  .intro a w bj;refine E9 rfl w _ ?_;intro v w' hr
   have E6:(a.put (some 19) v).tmps.getD 16 undef=a.tmps.getD 16 undef:=by simp[Act.put,adt]
   have e18:(a.put (some 19) v).tmps.getD 18 undef=a.tmps.getD 18 undef:=by simp[Act.put,adt]
   have e19:(a.put (some 19) v).tmps.getD 19 undef=v:=by simp[Act.put,bj]
   show(((a.put (some 19) v).tmps.getD 16 undef).oneCell'=true->_->(a.put (some 19) v).tmps.getD 19 undef=_);rw[E6,e18,e19];intro g16 g18;have hb:=aho (P:=prog) w 176 #[(0,a.tmps.getD 16 undef),(1,a.tmps.getD 18 undef)] _ (Ug g16 g18);unfold execOp at hr;simp only[adq,Act.eval,adV,ady,adR]at hr;rw[hb]at hr;simp only[Result.andThen_ok,Sem.run_pure]at hr;cases hr
   rfl
  .simp[c167,ah.qa,ah.qb,ah.dl,eM,dV,bG,cU,aF,jD,aD,ba,aP.S,aP.H,ev,au,aX,jj,cb,AV.aJ,AV.vw,AV.cells,AV.storable,AV.cI,fz,gZ,lB,eN,bI,bB];refine⟨rfl,zk,_,Xb hG _ (qF out) (by rw[cZ];omega),by simp[cW],?_⟩;refine⟨rfl,zk,_,Xl hG _ (vk es) (by simp[aY];omega),by simp[cW],?_⟩
   by_cases ho:ints out=[]<;>by_cases he:aY es=[]<;>simp[ho,he,au]
  .intro g' S' H' a w3 hg R3 ⟨hy,we,h18,o1,o2,L8⟩ bn hN
   have mm:Below w2.heap.size w2 w3:=by have:=R3.below;rwa [R3.base]at this
   have fr:=fr.step R3.size (by rw[R3.defers,hg];rfl) bn;have VA:=st.grow mm
   have Ve:=(R3.slot 14 zd (λh=>h))
   rw[hy]at Ve;have Ve:=Ve.jo;obtain⟨i3,D2,uu⟩:=iZ 3 1;obtain⟨i116,GG,rP⟩:=iZ 180 2;have Si:=R3.By (t:=16) zd (e:=3) D2 (es:=ints out) we (λx hx=>by obtain⟨k,_,rfl⟩:=adF.1 hx;exact⟨uu.symm,rfl,λc hc=>by simp[AV.cells]at hc;subst hc;rfl⟩) (λx hx c hc=>by obtain⟨k,_,rfl⟩:=adF.1 hx;simp[AV.cells]at hc;subst hc;rfl);have TG:=R3.By (t:=18) zd (e:=180) GG (es:=aY es) h18 (by rw[rP];exact vO es) (CV es);rw[R3.base]at Si TG
   let G:Nat->Prop:=λb=>w2.heap.size<=b/\b<w3.heap.size
   have hj:C.J k (λb=>M b\/G b) Pr w3:=C.dQ st.j (l7.vT mm) λb hb=>by
    rcases hb with hb|hb
    .exact⟨VA.lt b hb,.inl hb⟩
    .exact⟨hb.2,.inr hb.1⟩
   have LU:k<xs.length:=by
    have:=congrArg List.length qK;simp at this;omega
   have HE:xs[k]=bq out es:=by
    have:=congrArg (·[0]?) qK;simp at this;rw[adh LU]at this;exact adM this
   have og:∀{u:Value}{es:List AV}{p:Nat->Nat->Prop},RD p w3 (.slice .view es) u->u.oneCell'=true:=λh=>h.one rfl
   have L8:=hN (og Si) (og TG)
   have hx:RD (λb j=>Pr b j\/(G b/\j<g'.hi b)) w3 xs[k] (a.tmps.getD 19 undef):=by
    rw[HE,L8];refine .agg _ _ rfl (λi hi=>?_) (λi hi dv=>?_)
    .match i,hi with
     |0,_=>rfl
     |1,_=>rfl
    .match i,hi with
     |0,_=>exact Si.mono (bf.same λb j _ h=>.inr h)
     |1,_=>exact TG.mono (bf.same λb j _ h=>.inr h)
   obtain⟨ff,tmps,VU,bd,IQ,yr⟩:=C.round LU G g'.hi _ hj (λb hb=>.inr hb) hx;show wpOpsIn _ _ _ _ _ [6,7] a w3;refine Jf rfl rfl zr ?_ yr ?_
   .exact(rX (f:=.tmp 14) (x:=.tmp 19) w3 rfl rfl rfl Ve).trans IQ
   .rintro e w4 ⟨PD,eS,G5,yR⟩
    have eL:∀{k'},C.J k' (λb=>(M b\/G b)/\¬G b) eS w4->St X k' (λb=>(M b\/G b)/\¬G b) eS es w4:=λhj=>VA.after hj (λb hg hm=>by have:=st.lt b hm;have:=hg.1;omega) PD G5
    obtain⟨b,rfl,hR⟩:∃b:Bool,e=.returned (.bool b)/\R (.returned (.bool b)) w4:=by
     rcases yR with⟨rfl,dU⟩|⟨rfl,Iz⟩
     .exact⟨true,rfl,by rw[<-hc];exact⟨_,_,.inl ⟨rfl,eL dU⟩⟩⟩
     .exact⟨false,rfl,by rw[<-hc];exact⟨_,_,.inr ⟨rfl,Iz⟩⟩⟩
    refine⟨_,rfl,?_⟩
    have Ol:(a.put (some 20) (.bool b)).tmps.getD 20 undef=.bool b:=by simp[Act.put,fr.size]
    refine bg rfl rfl zr (v:=.bool b) (w':=w4) ((run_assign (x:=.tmp 20) w4 rfl).trans (congrArg (λv=>Result.ok (Next.value v) w4) Ol)) ?_;show Code.wpIn _ _ _ _ _ _ _;refine afh ⟨fr.defers,.bool b,?_,hR⟩
    have h8:((a.put (some 20) (.bool b)).put (some 8) (.bool b)).tmps.getD 8 undef=.bool b:=by simp[Act.put,fr.size]
    show(results f167 ((a.put (some 20) (.bool b)).put (some 8) (.bool b)).tmps).run prog w4=_;exact ag2 results167 h8
 |false=>
  have hn:n<all.length:=by
   have:¬n=all.length:=λh=>by have:=hbn.2 h;cases this
   omega
  simp only[ads,adH];refine aeO ?_;show Code.wpIn _ _ _ _ _ a w2;refine adB (adB ?_);refine cJ hG db (ac:=ah.qa c167.qb.qb.qa) (W:=W7) zk zk zk (C.gi st.j) (λ_ _=>True) (jj l all es out fA X.fv n .bo) fr.size fr.defers (st.gw fr (h9 _ _)) (K:=λS' _=>S' 9=.int .i64 n) ?_ ?_
  .simp[c167,ah.qa,ah.qb,bD,bp,aF,ba,aD,aN,aP.S,aP.H,ev,au,aX,jj,cb,AV.aJ,dS,aY]
  rintro g S' H' a w3 hg R1 hb9 bn;have fr:=fr.step R1.size (by rw[R1.defers,hg];rfl) bn;have st:=st.grow (by have:=R1.below;rwa [R1.base]at this);have MP:=R1.slot 9 zd (λh=>h);rw[hb9]at MP;have Wv:=MP.int_eq;clear MP bn;show Code.wpIn _ _ _ _ _ a w3
  obtain⟨rem,T'⟩:∃rem:Nat->List (List End),rem=λi=>if es.length<rows then lp es (all.drop i) (rows-es.length-1)else[]:=⟨_,rfl⟩
  have hch:ch es (all.drop n) (rows-es.length)=rem n:=by
   have cP:all.drop n≠[]:=by intro h;have:=congrArg List.length h;simp at this;omega
   rw[T'];unfold ch;rw[if_neg cP]
   by_cases aq:es.length<rows
   .simp only[if_pos aq]
    obtain⟨m,hm⟩:∃m,rows-es.length=m+1:=⟨rows-es.length-1,zo⟩
    rw[hm];rfl
   .simp only[if_neg aq]
    have:rows-es.length=0:=zo
    rw[this]
  rw[hch]at qK hc
  refine aeL (agX (λa w=>∃i k' M' eS,Fr X n a/\a.tmps.getD 9 undef=.int .i64 (i:Nat)/\n<=i/\i<=all.length/\St X k' M' eS es w/\xs.drop k'=(rem i).map (bq out)++tail/\k'+(rem i).length=k+(rem n).length)
   (λa _=>match a.tmps.getD 9 undef with|.int _ i=>all.length-i.toNat|_=>0) ⟨n,k,M,Pr,fr,Wv,adl _,zo,st,qK,rfl⟩ ?_)
  clear hb9 Wv R1 hg qK st fr;rintro a w ⟨i,k',M,Pr,fr,h9i,Co,di,st,qK,Gk⟩
  have h9':(AV.int .i64 (i:Int)).aJ=.int .i64 (i:Int)/\RV (λ_ _=>True) cQ w (.int .i64 (i:Int)) (a.tmps.getD 9 undef):=⟨rfl,by rw[h9i];exact .data _ _ (.int _ _)⟩
  refine adB (adB ?_);refine cJ hG db (ac:=ah.qa c167.qb.qb.qa.qb.qb.qb.qa) (W:=W7) zk zk zk (C.gi st.j) (λ_ _=>True) (jj l all es out fA X.fv n (.int .i64 (i:Int))) fr.size fr.defers (st.gw fr h9') (K:=λS' _=>S' 9=.int .i64 i/\∃b,S' 33=.bool b/\(b=true↔i<all.length/\es.length<rows)) ?_ ?_
  .by_cases aq:i<all.length
   .have ng:(i:Int)<all.length:=zo
    simp[c167,ah.qa,ah.qb,bD,bp,aF,ba,aD,aN,aP.S,aP.H,ev,au,aX,jj,cb,AV.aJ,dS,aY,aq,X.f9,cz];omega
   .have ng:¬(i:Int)<all.length:=zo
    simp[c167,ah.qa,ah.qb,bD,bp,aF,ba,aD,aN,aP.S,aP.H,ev,au,aX,jj,cb,AV.aJ,dS,aY,aq,X.f9,cz]
  rintro g S' H' a' w' hg R1 ⟨Rb,b,hb,hbi⟩ bn;have JF:=fr.step R1.size (by rw[R1.defers,hg];rfl) bn;have sx:=st.grow (by have:=R1.below;rwa [R1.base]at this);have MP:=R1.slot 9 zd (λh=>h);rw[Rb]at MP;have WY:=MP.int_eq;have Tr:=R1.slot 33 zd (λh=>h);rw[hb]at Tr;have Uf:=Tr.fL;show Code.wpIn _ _ _ _ _ a' w';refine aed (t:=b) Uf ?_
  cases b with
  |false=>
   simp only[ads,adH];refine afx ?_
   have iq:¬(i<all.length/\es.length<rows):=λh=>by have:=hbi.2 h;cases this
   have XN:rem i=[]:=by
    rw[T']
    by_cases aq:es.length<rows
    .have:i=all.length:=by
      rcases aeI i all.length with h|h
      .exact absurd ⟨h,aq⟩ iq
      .omega
     simp only[if_pos aq,this,agQ]
     rfl
    .simp only[if_neg aq]
   rw[XN]at Gk;simp only[Exit.then,Exit.inBlock,adS];refine adB ?_;refine adP ?_;show wpOpsIn _ _ _ _ _ [0] a' w';refine bg rfl rfl zr (v:=.bool true) (w':=w') (run_assign (x:=.const (.bool true)) w' rfl) ?_;show Code.wpIn _ _ _ _ _ _ _;refine afh ⟨JF.defers,.bool true,?_,?_⟩
   .have h8:(a'.put (some 8) (.bool true)).tmps.getD 8 undef=.bool true:=by simp[Act.put,JF.size]
    show(results f167 (a'.put (some 8) (.bool true)).tmps).run prog w'=_;exact ag2 results167 h8
   .rw[<-hc];refine⟨M,Pr,.inl ⟨rfl,?_⟩⟩;rw[<-Gk];exact sx
  |true=>
   obtain⟨aq,UH⟩:=hbi.1 rfl;simp only[adS];refine aeO ?_;show Code.wpIn _ _ _ _ _ a' w';clear Tr Uf MP hb Rb R1 hg bn;refine adB (aeL (adB ?_));obtain⟨v,ty,v_,hN,hMN,cV,oC,X3⟩:=sx.now;obtain⟨i116,GG,rP⟩:=iZ 180 2
   have Z3:(aY es).length=es.length:=by simp[aY]
   refine wF db (n:=53) (ac:=ah.qa w_.qb.qa.qb) zk zk zk (W:=Ew) zk (λb k=>X.MI b\/Pr b k)
    (λt=>match t with|1=>.ref [.slice .view (aY all)]|4=>.box 4 0|9=>.int .i64 (i:Int)|_=>.bo) (nm:=4) (tp:=4) (es:=aY es) (es':=aY (es++[all[i]])) zd rfl JF.t4 JF.size JF.defers hN GG (by rw[rP,Z3];exact cV) (by rw[rP];exact oC.mono (bf.same λ_ _ _ h=>h.elim)) ?_ ?_ (by rw[rP];exact vO _) (CV _) ?_
   .intro t ht;split
    .exact⟨rfl,.inr (by rw[JF.t1];exact sx.WA)⟩
    .exact⟨rfl,.inl ⟨rfl,JF.t4⟩⟩
    .exact⟨rfl,.inr (by rw[WY];exact .data _ _ (.int _ _))⟩
    .exact⟨rfl,.inr (.bo _)⟩
   .have cP:¬(i:Int)<0:=zo
    have nq:es.length+1<1048576:=zo
    cases DL:v.ownBlock with
    |none=>
     have he:es=[]:=by
      rcases cV.2 with⟨_,h⟩|⟨gg,cap,cur,rfl,_⟩
      .exact ad1 h
      .cases DL
     subst he;simp[c167,w_,ah.qa,ah.qb,bD,eM,dV,bG,cU,aF,jD,aD,ba,aP.S,aP.H,ev,au,aX,cb,AV.aJ,AV.vw,AV.cells,AV.storable,AV.cI,aN,nR,DL,HR.okB,bw,aY,b_,aq,aG,bB,AV.cy,cP]
    |some bv=>
     simp[c167,w_,ah.qa,ah.qb,bD,eM,dV,bG,cU,aF,jD,aD,ba,aP.S,aP.H,ev,au,aX,cb,AV.aJ,AV.vw,AV.cells,AV.storable,AV.cI,aN,nR,DL,HR.okB,bw,aY,b_,aq,aG,bB,AV.cy,cP,nq]
   .intro a2 w2 v' BX xs2 Lq Ts kH hN2 Is TE jH Pf;have Vo:=JF.step Lq Ts (eE.weaken kH λt ht=>by simp[W7]at ht;simp[Ew];omega);have I2:a2.tmps.getD 9 undef=.int .i64 (i:Int):=(kH 9 rfl).trans WY
    have V6:∀b,(b=X.bN\/v.ownBlock=some b)->M b/\¬X.MI b:=by
     rintro b (rfl|hb)
     .exact⟨hMN,λh=>(sx.mi _ h).2.1 rfl⟩
     .exact X3 b hb
    have kB:bf Pr Pr w' w2:=bf.qg λb k aq hp=>jH.block b aq λhm=>C.apart sx.j b k (V6 b hm).1 hp
    have Tq:∀b,X.MI b->w2.heap[b]?=w'.heap[b]?:=λb h=>jH.block b (sx.lt b (sx.mi b h).1) λhm=>(V6 b hm).2 h
    have abP:(aY (es++[all[i]])).length=(es++[all[i]]).length:=by simp[aY]
    have Yd:St X k' (λb=>M b\/(w'.heap.size<=b/\b<w2.heap.size)) Pr (es++[all[i]]) w2:=by
     refine⟨C.dQ sx.j (M':=λb=>M b\/(w'.heap.size<=b/\b<w2.heap.size)) ⟨jH.os,jH.tape,jH.output,jH.size,λb hb hm=>jH.block b hb λh=>hm (V6 b h).1⟩ λb hb=>?_,λb hb=>?_,λb h=>⟨.inl (sx.mi b h).1,(sx.mi b h).2.1,(Tq b h).trans (sx.mi b h).2.2⟩,⟨v',BX,xs2,hN2,.inl hMN,?_,?_,λb hb=>?_⟩,sx.f.mono kB λ_ _ h=>h,sx.o.mono kB λ_ _ h=>h,sx.e.mono (Cb Tq kB)⟩
     .rcases hb with hb|hb
      .exact⟨ad9 (sx.lt b hb) jH.size,.inl hb⟩
      .exact⟨hb.2,.inr hb.1⟩
     .rcases hb with hb|hb
      .exact ad9 (sx.lt b hb) jH.size
      .exact hb.2
     .rw[rP,abP]at Is;exact Is
     .rw[rP]at TE;exact TE
     .rcases Pf b hb with h|h
      .exact⟨.inl (X3 b h).1,(X3 b h).2⟩
      .refine⟨.inr ⟨h,(Is.lt b hb).2⟩,λhm=>?_⟩;have:=sx.lt b (sx.mi b hm).1;omega
    clear V6 kB Tq Pf Is TE hN2 jH;show Code.wpIn _ _ _ _ _ a2 w2
    have aa0:(AV.int .i64 (i:Int)).aJ=.int .i64 (i:Int)/\RV (λ_ _=>True) cQ w2 (.int .i64 (i:Int)) (a2.tmps.getD 9 undef):=⟨rfl,by rw[I2];exact .data _ _ (.int _ _)⟩
    refine adB (adB ?_);refine lu hG (p:=3) (l2:=[3,4]) rfl zk zk (l:=(w_.qb.qa.qb.qb.qa.qa.dl).take 3) zk zd (W:=Ew) zk (C.gi Yd.j) (λ_ _=>True) (jj l all (es++[all[i]]) out fA X.fv n (.int .i64 (i:Int))) Vo.size Vo.defers (Yd.gw Vo aa0) (K:=λS' _=>S' 43=.val X.fv/\S' 45=.int .i64 ((i+1:Nat):Int)) ?_ ?_
    .have pW:IntKind.i64.wrap ((i:Int)+1)=i+1:=aT zo;simp[c167,w_,ah.qa,ah.qb,ah.dl,bp,aF,ba,aD,aP.S,aP.H,ev,au,aX,jj,cb,AV.aJ,dS,pW]
    rintro g S' H' a3 w3 hg R1 ⟨h43,Re⟩ IW;have Ur:=Vo.step R1.size (by rw[R1.defers,hg];rfl) (eE.weaken IW λt ht=>by simp[W7]at ht;simp[Ew];omega);have VA:=Yd.grow (by have:=R1.below;rwa [R1.base]at this);have h93:a3.tmps.getD 9 undef=.int .i64 (i:Int):=(IW 9 rfl).trans I2;have DO:=R1.slot 43 zd (λh=>h);rw[h43]at DO;have DO:=DO.jo;have VD:=R1.slot 45 zd (λh=>h);rw[Re]at VD;have VD:=VD.int_eq;clear R1 hg IW;have YW:all.drop i=all[i]::all.drop (i+1):=afj aq
    have XN:rem i=ch (es++[all[i]]) (all.drop (i+1)) (rows-(es++[all[i]]).length)++rem (i+1):=by
     rw[T'];simp only[if_pos UH,YW,Sz]
     congr 2
     simp;omega
    rw[XN]at qK Gk;rw[adL,ad2]at qK;have mc:=ih (all.length-(i+1)) zo (i+1) (es++[all[i]]) k' _ Pr w3 _ zo (by simp;omega) VA qK;refine gk rfl rfl zr (um (f:=.tmp 43) (x:=.tmp 45) w3 rfl rfl rfl DO zk) (R:=λe w'=>∃M' eS,(e=.returned (.bool true)/\St X (k'+(ch (es++[all[i]]) (all.drop (i+1)) (rows-(es++[all[i]]).length)).length) M' eS (es++[all[i]]) w')\/(e=.returned (.bool false)/\C.X M' eS w')) ?_ ?_
    .have : #[a3.eval (.tmp 45)] ++ #[X.cA,X.cY,X.cO,.pointer (some ⟨X.bN,0,none⟩),X.cF,X.cR] = #[.int .i64 ((i+1:Nat):Int),X.cA,X.cY,X.cO,.pointer (some ⟨X.bN,0,none⟩),X.cF,X.cR]:=by
      show #[a3.tmps.getD 45 undef]++_=_;rw[VD];rfl
     rw[this];exact mc
    rintro e w4 ⟨M4,MY,yR⟩
    obtain⟨b,rfl⟩:∃b:Bool,e=.returned (.bool b):=by rcases yR with⟨rfl,_⟩|⟨rfl,_⟩<;>exact⟨_,rfl⟩
    refine⟨_,rfl,?_⟩
    have h46:(a3.put (some 46) (.bool b)).tmps.getD 46 undef=.bool b:=by simp[Act.put,Ur.size]
    refine bg rfl rfl zr (v:=.bool !b) (w':=w4) (QV (x:=.tmp 46) w4 rfl h46) ?_;show Code.wpIn _ _ _ _ _ ((a3.put (some 46) (.bool b)).put (some 47) (.bool !b)) w4
    obtain⟨a4,mg⟩:∃a4,(a3.put (some 46) (.bool b)).put (some 47) (.bool !b)=a4:=⟨_,rfl⟩
    rw[mg]
    have fm:∀(a:Act)(d t:Nat)(c:Value),t≠d->(a.put (some d) c).tmps.getD t undef=a.tmps.getD t undef:=λa d t c h=>by
     simp[Act.put,adt (ad6 h)]
    have PD:eE Ew a3 a4:=λt ht=>by
     have:t<36:=by simp[Ew]at ht;omega
     rw[<-mg,fm _ _ _ _ zo,fm _ _ _ _ zo]
    have KQ:a4.tmps.size=53:=by rw[<-mg];simp[Act.put,Ur.size]
    have aap:a4.defers=[]:=by rw[<-mg];exact Ur.defers
    have QZ:=Ur.step KQ aap (eE.weaken PD λt ht=>by simp[W7]at ht;simp[Ew];omega);have h94:a4.tmps.getD 9 undef=.int .i64 (i:Int):=(PD 9 rfl).trans h93
    have h47:a4.tmps.getD 47 undef=.bool !b:=by rw[<-mg];simp[Act.put,Ur.size]
    refine aed (t:=!b) h47 ?_
    cases b with
    |false=>
     have hX:C.X M4 MY w4:=by
      rcases yR with⟨h,_⟩|⟨_,h⟩
      .cases h
      .exact h
     simp only[agu,adS];refine adB ?_;refine adP ?_;show wpOpsIn _ _ _ _ _ [0] a4 w4;refine bg rfl rfl zr (v:=.bool false) (w':=w4) (run_assign (x:=.const (.bool false)) w4 rfl) ?_;show Code.wpIn _ _ _ _ _ _ _;refine afh ⟨QZ.defers,.bool false,?_,?_⟩
     .have h8:(a4.put (some 8) (.bool false)).tmps.getD 8 undef=.bool false:=by simp[Act.put,QZ.size]
      show(results f167 (a4.put (some 8) (.bool false)).tmps).run prog w4=_;exact ag2 results167 h8
     .rw[<-hc];exact⟨M4,MY,.inr ⟨rfl,hX⟩⟩
    |true=>
     have Ar:St X (k'+(ch (es++[all[i]]) (all.drop (i+1)) (rows-(es++[all[i]]).length)).length) M4 MY (es++[all[i]]) w4:=by
      rcases yR with⟨_,h⟩|⟨h,_⟩
      .exact h
      .cases h
     simp only[ahe,ads,adH];refine aeO ?_;show Code.wpIn _ _ _ _ _ a4 w4;obtain⟨v4,XT,Wg,hN4,SG,Tz,aaz,abO⟩:=Ar.now
     have Xu:Wg.length=(es.length+1)*2:=by have:=Tz.1;simpa using this
     obtain⟨i29,aa_,aai⟩:=iZ 174 1;refine adP ?_;show wpOpsIn _ _ _ _ _ [0,1,2,3,4,5] a4 w4
     refine KK (P:=prog) (n:=53) (T:=174) (el:=180) (p:=4) (t1:=48) (t2:=49) (t3:=50) (t4:=51) (t5:=52) (bN:=X.bN) (i:=i116) (iT:=i29) (v:=v4) (ty:=XT) (k:=es.length) (xs:=Wg.take (es.length*2)) (last:=Wg.drop (es.length*2))
      rfl rfl rfl rfl rfl rfl ⟨rfl,rfl,rfl⟩ ⟨rfl,rfl,rfl⟩ ⟨rfl,rfl,rfl⟩ ⟨rfl,rfl,rfl⟩ ⟨rfl,rfl,rfl⟩ ⟨rfl,rfl,rfl⟩ rfl rfl rfl zk aa_ aai GG zd QZ.size zd QZ.t4 hN4 (by rw[aeC,rP];simpa using Tz) (by rw[rP,adA,Xu];omega) zo ?_
     intro a5 v5 F0 abe hs5 U7 acz Ho
     have Ey:∀b,v5.ownBlock=some b->M4 b/\¬X.MI b:=λb hb=>abO b (by rw[<-U7];exact hb)
     have l6:∀b,b≠X.bN->(w4.setRow X.bN #[v5]).heap[b]?=w4.heap[b]?:=λb hb=>aes w4 X.bN b #[v5] hb
     have G4:(w4.setRow X.bN #[v5]).heap.size=w4.heap.size:=ahi
     have V8:bf MY MY w4 (w4.setRow X.bN #[v5]):=bf.qg λb k _ hp=>l6 b (by rintro rfl;exact C.apart Ar.j _ k SG hp)
     have Ks:St X (k'+(ch (es++[all[i]]) (all.drop (i+1)) (rows-(es++[all[i]]).length)).length) M4 MY es (w4.setRow X.bN #[v5]):=by
      refine⟨C.dQ Ar.j ⟨rfl,rfl,rfl,by rw[G4];exact adl _,λb _ hm=>l6 b (by rintro rfl;exact hm SG)⟩ λb hb=>⟨by rw[G4];exact Ar.lt b hb,.inl hb⟩,λb hb=>by rw[G4];exact Ar.lt b hb,λb h=>⟨(Ar.mi b h).1,(Ar.mi b h).2.1,(l6 b (Ar.mi b h).2.1).trans (Ar.mi b h).2.2⟩,
       ⟨v5,XT,Wg.take (es.length*2),ae3 w4 X.bN _ #[v5] XT (0,0) hN4,SG,?_,?_,Ey⟩,Ar.f.mono V8 λ_ _ h=>h,Ar.o.mono V8 λ_ _ h=>h,Ar.e.mono (Cb (λb h=>l6 b (Ar.mi b h).2.1) V8)⟩
      .rw[rP]at Ho;refine⟨Ho.1,?_⟩
       rcases Ho.2 with h|⟨gg,cap,cur,rfl,rR,aaC,rest⟩
       .exact .inl h
       .exact .inr ⟨gg,cap,cur,rfl,rR,(l6 gg zo).trans aaC,rest⟩
      .refine⟨vO es,λj hj k hk=>?_⟩
       have OI:j<es.length:=by simpa[aY]using hj
       have dU:j<(aY (es++[all[i]])).length:=by simp[aY];omega
       have ib:(aY (es++[all[i]]))[j]=(aY es)[j]:=by
        simp only[aY,adL,ady,adR];exact adZ (by simpa using OI)
       obtain⟨u,u1,u2⟩:=aaz.2 j dU k (by rw[ib];exact hk);refine⟨u,?_,?_⟩
       .have kB:k < 2:=by
         have:=vO es _ (adi hj);rw[this.1]at hk;exact hk
        rw[afV zo];exact u1
       .simp only[ib]at u2;exact u2.mono (bf.of_eq λ_ _ h=>h.elim)
     have Rd:eE Ew a4 a5:=λt ht=>by
      have:t<36:=by simp[Ew]at ht;omega
      exact hs5 t zo zo zo zo zo
     have Gr:=QZ.step F0 (abe.trans QZ.defers) (eE.weaken Rd λt ht=>by simp[W7]at ht;simp[Ew];omega);have h95:a5.tmps.getD 9 undef=.int .i64 (i:Int):=(Rd 9 rfl).trans h94;clear l6 Ey V8 Ho Rd hs5 G4;generalize w4.setRow X.bN #[v5]=w5 at Ks⊢;simp only[Exit.then,Exit.inBlock]
     have acj:(AV.int .i64 (i:Int)).aJ=.int .i64 (i:Int)/\RV (λ_ _=>True) cQ w5 (.int .i64 (i:Int)) (a5.tmps.getD 9 undef):=⟨rfl,by rw[h95];exact .data _ _ (.int _ _)⟩
     refine cJ hG db (ac:=ah.qb w_.qb) (W:=W7) zk zk zk (C.gi Ks.j) (λ_ _=>True) (jj l all es out fA X.fv n (.int .i64 (i:Int))) Gr.size Gr.defers (Ks.gw Gr acj) (K:=λS' _=>S' 9=.int .i64 ((i+1:Nat):Int)) ?_ ?_
     .have pW:IntKind.i64.wrap ((i:Int)+1)=i+1:=aT zo;simp[c167,w_,ah.qa,ah.qb,bD,bp,aF,ba,aD,aN,aP.S,aP.H,ev,au,aX,jj,AV.aJ,dS,pW]
     intro g S' H' a6 w6 hg R1 Ro vN;have Ky:=Gr.step R1.size (by rw[R1.defers,hg];rfl) vN;have Np:=Ks.grow (by have:=R1.below;rwa [R1.base]at this);have TU:=R1.slot 9 zd (λh=>h);rw[Ro]at TU;have TU:=TU.int_eq;refine⟨⟨i+1,_,M4,MY,Ky,TU,zo,zo,Np,?_,?_⟩,?_⟩
     .rw[<-afI,qK,afa ahi];simp
     .have e:=@adC _ (ch (es++[all[i]]) (all.drop (i+1)) (rows-(es++[all[i]]).length)) (rem (i+1));omega
     .rw[TU,h9i];show all.length-((i+1:Nat):Int).toNat<all.length-(i:Int).toNat;rw[Int.toNat_natCast,Int.toNat_natCast];omega
end Go.Proofs.Tryz
namespace Go.Proofs.Tryz
open Go Go.AL Go.RowKit Go.Proofs Go.Proofs.Tram
section
variable{H:Type}{enc:TypeId×Value->H}{w:World}{held:Bool}
def u23:prog.underlying 23=some (.slice 3):=by kernel_rfl
end
end Go.Proofs.Tryz
namespace Go.Proofs.Tryz
open Go Go.AL Go.RowKit Go.Proofs Go.Proofs.Tram
variable{GI:World->Prop}
def sk{vs:Array Value}(h:vs.size=1):∃v,vs=#[v]:=⟨vs[0],by
 apply aeP
 .simpa using h
 .intro i h1 h2
  have:i=0:=by simpa using h2
  subst this;rfl⟩
def N8{P:Program}{t:TypeId}(h:(P.underlying t).map ef=some false):∃d,P.underlying t=some d/\ef d=false:=by
 cases hi:P.underlying t with
 |none=>rw[hi]at h;cases h
 |some i=>rw[hi]at h;exact⟨i,rfl,adM h⟩
def vZ(t:TypeId)(h:(prog.underlying t).map ef=some false:=by kernel_rfl):∃d,prog.underlying t=some d/\ef d=false:=N8 h
def oX:AV.cI∘AV.aJ=AV.cI:=by
 funext v
 cases v<;>try rfl
 rename_i o es;cases o<;>rfl
def RD.Me{Pr:Nat->Nat->Prop}{w:World}{o:Ow}{es:List AV}{c:Value}(h:RD Pr w (.slice o es) c):RD Pr w (.slice .view es) c:=by
 cases h with
 |iB=>exact .iB _
 |slice _ _ b off cap size cs fh hn bj h1 hc hr=>exact .slice _ _ b off cap size cs fh (λh=>by cases h) bj h1 hc hr
 |jx _ a=>exact .jx _ a
def Zi (hG:ar GI) {oE:Ow} {all:List End} {out:List Int} {fA:List AV} {rows:Nat} (eF:all.length≤1000) (Sg:rows≤1000) (kl:out.length≤1000) (oC:fA.length=11) (hf1:∀ x∈fA.take 10,x.storable=true∧x.one=true∧x.aJ=x) (h9:fA[9]? = some (.int .i64 rows))
  (YF:AC prog GI 166 [.agg ((fA.take 10).map AV.cI),vI out] (.ret (.slice oE (aY all)))):
  xn prog GI 165 [.ref fA,.ref [vI out]] ((ch [] all rows).map (bq out)):=by
 intro l C w Pr bP hJ hlen hr
 obtain⟨cF,cO,rfl⟩:∃cF cO,bP=#[cF,cO]:=by
  have:bP.size=2:=by simpa using hlen.symm
  exact⟨bP[0],bP[1],by
   apply aeP
   .simpa using this
   .intro i h1 h2
    match i,h2 with
    |0,_=>rfl
    |1,_=>rfl⟩
 have ZF:=hr 0 ahi ahi;have hrO:=hr 1 ahi ahi;simp only[List.getElem_cons_zero,List.getElem_cons_succ,List.getElem_toArray]at ZF hrO;refine(iU (ro:=none) (m:=0)).1 (agC func165 rfl trivial ?_);have cq:=C.gi hJ
 have R:Rel prog w 14 bL _ (AL.start [.val (.func (.yield l) #[] #[]),.ref fA,.ref [vI out]]) (λ_=>none) { tmps:=(#[.func (.yield l) #[] #[]]++#[cF,cO])++Array.replicate (f165.ntmps-(#[Value.func (.yield l) #[] #[]]++#[cF,cO]).size) undef,defers:=[] } w:=Rel.begin (args:=[.val (.func (.yield l) #[] #[]),.ref fA,.ref [vI out]]) (old:=Pr) ntmps165 ahi rfl (λi h h'=>by
  match i,h with
  |0,_=>exact .data _ _ (.val _ rfl)
  |1,_=>exact ZF
  |2,_=>exact hrO)
 have e1:({ tmps:=(#[Value.func (.yield l) #[] #[]]++#[cF,cO])++Array.replicate (f165.ntmps-(#[Value.func (.yield l) #[] #[]]++#[cF,cO]).size) undef,defers:=[] }:Act).tmps.getD 1 undef=cF:=cH _ _ 1 ahi;have e2:({ tmps:=(#[Value.func (.yield l) #[] #[]]++#[cF,cO])++Array.replicate (f165.ntmps-(#[Value.func (.yield l) #[] #[]]++#[cF,cO]).size) undef,defers:=[] }:Act).tmps.getD 2 undef=cO:=cH _ _ 2 ahi
 have W3:∃W:Nat->Bool,W=λt=>decide (3<=t):=⟨_,rfl⟩
 refine adB ?_;refine jM R hG cq db (ac:=ah.qa c165) (W:=λt=>decide (3<=t)) zk zk zk (λ_ h=>h) (K:=λS' H'=>S' 1=.ref fA/\S' 2=.ref [vI out]/\S' 3=.box 3 0/\H' 3=some [.val (.func (.yield l) #[] #[])]) ?_ ?_
 .simp[c165,ah.qa,bD,bp,aF,ba,aN,ev,AL.start,AV.aJ,AV.cells,AV.storable,au,cd,vI]
 rintro g1 S1 H1 a1 w1 AD R1 ⟨s1,s2,s3,h3⟩ xB;refine adB ?_;refine jM R1 hG cq db (ac:=ah.qa c165.qb) (W:=λt=>decide (3<=t)) zk zk zk (by rw[AD];exact λ_ h=>h) (K:=λS' H'=>S' 3=.box 3 0/\S' 4=.box 4 0/\H' 3=some [.val (.func (.yield l) #[] #[])]/\H' 4=some [.slice oE (aY all)]) ?_ ?_
 .simp[c165,ah.qa,ah.qb,bD,bp,aF,ba,aN,ev,aD,aP.S,aP.H,aX,cb,s1,s2,s3,h3,au,AV.aJ,vI,oC,lB]
  have e8:fz H1 (.agg (List.take 10 (List.map AV.aJ fA)))=.agg ((fA.take 10).map AV.cI):=by
   simp only[fz,gZ,AV.vw,<-ae_,aeu,oX]
  have e9:fz H1 (.slice .view (ints out))=vI out:=rfl;rw[e8,e9];refine⟨zk,_,YF,by simp[cW],?_⟩
  cases oE<;>simp[eN,cd,AV.cells,AV.storable,HR.okB,bw,bB,AV.cy,au,AV.aJ,s3,h3]
 rintro g2 S2 H2 a2 w2 Pv R2 ⟨t3,t4,k3,k4⟩ zc;have gy:g2.base=w.heap.size:=R2.base
 have mm:Below w.heap.size w w2:=by have:=R2.below;rwa [gy]at this
 obtain⟨bY,hY⟩:∃b,g2.al 3=some b/\a2.tmps.getD 3 undef=.pointer (some ⟨b,0,none⟩):=by
  have h:=R2.slot 3 zd (λh=>h);rw[t3]at h;generalize a2.tmps.getD 3 undef=c at h
  cases h with
  |data _ _ h=>cases h
  |box _ _ b h=>exact⟨b,h,rfl⟩
 obtain⟨bA,hA⟩:∃b,g2.al 4=some b/\a2.tmps.getD 4 undef=.pointer (some ⟨b,0,none⟩):=by
  have h:=R2.slot 4 zd (λh=>h);rw[t4]at h;generalize a2.tmps.getD 4 undef=c at h
  cases h with
  |data _ _ h=>cases h
  |box _ _ b h=>exact⟨b,h,rfl⟩
 obtain⟨csY,vsY,tyY,q1,q2,q3,q4,q5,q6,q7,q8,q9⟩:=R2.box 3 bY hY.1;rw[k3]at q1;cases q1
 have hvY:vsY=#[.func (.yield l) #[] #[]]:=by
  have h0:=q7 0 ahi (by rw[<-q6];simp);simp only[List.getElem_cons_zero]at h0;apply aeP
  .rw[<-q6];rfl
  .intro i h1 h2
   have:i=0:=by simpa using h2
   subst this;exact(RV.data (al:=cQ) _ _ h0).jo
 subst hvY;obtain⟨csA,vsA,tyA,r1,r2,r3,r4,r5,r6,r7,r8,r9⟩:=R2.box 4 bA hA.1;rw[k4]at r1;cases r1;obtain⟨E7,rfl⟩:=sk (vs:=vsA) (by rw[<-r6];rfl);have Py:=r7 0 ahi ahi;have hO0:=r8 0 ahi ahi;simp only[List.getElem_cons_zero,List.getElem_toArray]at Py hO0
 have oL:RD (λb k=>(b<w.heap.size/\Pr b k)\/(w.heap.size<=b/\b<w2.heap.size)) w2 (.slice .view (aY all)) E7:=by
  have hd:=Py.aJ
  have hd:RD g2.Pr w2 (.slice .view (aY all)) E7:=by
   have e:RD g2.Pr w2 (.slice oE (aY all)) E7:=Py;exact RD.Me e
  refine hd.mono (bf.of_eq λb k hp=>⟨?_,rfl⟩)
  rcases hp with⟨h1,h2⟩|⟨h1,h2⟩
  .rw[Pv,AD]at h2;exact .inl ⟨by rw[<-gy];exact h1,h2⟩
  .refine .inr ⟨by rw[<-gy];exact h1,?_⟩
   by_cases aq:b<w2.heap.size
   .exact aq
   .rw[(R2.fresh b zo).1]at h2;omega
 have hbY:w.heap.size<=bY/\bY<w2.heap.size:=⟨by rw[<-gy];exact q2,(adj.1 q3).1⟩
 have hbA:w.heap.size<=bA/\bA<w2.heap.size:=⟨by rw[<-gy];exact r2,(adj.1 r3).1⟩
 have e1:a2.tmps.getD 1 undef=cF:=((xB.trans zc) 1 rfl).trans e1;have e2:a2.tmps.getD 2 undef=cO:=((xB.trans zc) 2 rfl).trans e2;have Lq:a2.tmps.size=14:=R2.size
 have Ts:a2.defers=[]:=by rw[R2.defers,Pv,AD];rfl
 obtain⟨bN,Rq⟩:∃bN,w2.heap.size=bN:=⟨_,rfl⟩
 have fm:∀(a:Act)(d t:Nat)(c:Value),t≠d->(a.put (some d) c).tmps.getD t undef=a.tmps.getD t undef:=λa d t c h=>by
  simp[Act.put,adt (ad6 h)]
 have jK:∀(a:Act)(d:Nat)(c:Value),a.tmps.size=14->d<14->(a.put (some d) c).tmps.getD d undef=c:=λa d c h hd=>by
  simp[Act.put,h,hd]
 have kh:∀(a:Act)(d:Option Nat)(c:Value),(a.put d c).tmps.size=a.tmps.size:=λa d c=>by cases d<;>simp[Act.put]
 have so:∀(a:Act)(d:Option Nat)(c:Value),(a.put d c).defers=a.defers:=λa d c=>by cases d<;>rfl
 refine adB (adP ?_);show wpOpsIn _ _ _ _ _ [0] a2 w2;refine bg rfl rfl zr (lE (t:=174) (z:=.slice none 0 0) rfl zk) ?_;show Code.wpIn _ _ _ _ _ (a2.put (some 5) (.pointer (some ⟨w2.heap.size,0,none⟩))) (w2.alloc (.cells #[.slice none 0 0] 174))
 obtain⟨a3,se⟩:∃a3,a2.put (some 5) (.pointer (some ⟨w2.heap.size,0,none⟩))=a3:=⟨_,rfl⟩
 obtain⟨w3,qI⟩:∃w3,w2.alloc (.cells #[.slice none 0 0] 174)=w3:=⟨_,rfl⟩
 have AZ:w3.heap.size=bN+1:=by rw[<-qI,<-Rq];simp
 have O0:w3.heap[bN]?=some (.cells #[.slice none 0 0] 174 (0,0)):=by rw[<-qI,<-Rq];exact aee w2 _
 have LG:∀b,b<bN->w3.heap[b]?=w2.heap[b]?:=λb hb=>by rw[<-qI];exact agO _ _ _ zo
 rw[se,qI];refine adB (adP ?_);show wpOpsIn _ _ _ _ _ [0] a3 w3;refine bg rfl rfl zr (lE (t:=69) (z:=.nilFunc) rfl zk) ?_;show Code.wpIn _ _ _ _ _ (a3.put (some 6) (.pointer (some ⟨w3.heap.size,0,none⟩))) (w3.alloc (.cells #[.nilFunc] 69))
 obtain⟨a4,mg⟩:∃a4,a3.put (some 6) (.pointer (some ⟨w3.heap.size,0,none⟩))=a4:=⟨_,rfl⟩
 obtain⟨w4,nv⟩:∃w4,w3.alloc (.cells #[.nilFunc] 69)=w4:=⟨_,rfl⟩
 have OY:w4.heap.size=bN+2:=by rw[<-nv];simp[AZ]
 have FD:w4.heap[bN+1]?=some (.cells #[.nilFunc] 69 (0,0)):=by rw[<-nv,<-AZ];exact aee w3 _
 have Ct:∀b,b<bN+1->w4.heap[b]?=w3.heap[b]?:=λb hb=>by rw[<-nv];exact agO _ _ _ zo
 rw[mg,nv]
 have z3:a3.tmps.size=14:=by rw[<-se,kh];exact Lq
 have z4:a4.tmps.size=14:=by rw[<-mg,kh];exact z3
 have u5:a4.tmps.getD 5 undef=.pointer (some ⟨bN,0,none⟩):=by rw[<-mg,fm _ _ _ _ zd,<-se,jK _ _ _ Lq zd,Rq]
 have u6:a4.tmps.getD 6 undef=.pointer (some ⟨bN+1,0,none⟩):=by rw[<-mg,jK _ _ _ z3 zd,AZ]
 have u:∀t,t<5->a4.tmps.getD t undef=a2.tmps.getD t undef:=λt ht=>by rw[<-mg,fm _ _ _ _ zo,<-se,fm _ _ _ _ zo]
 refine adB (adP ?_);show wpOpsIn _ _ _ _ _ [0,1] a4 w4;refine bg rfl rfl zr (mr (fn:=.func 167) (c:=#[.tmp 4,.tmp 3,.tmp 2,.tmp 5,.tmp 1,.tmp 6]) rfl) ?_
 have fh:(#[Operand.tmp 4,.tmp 3,.tmp 2,.tmp 5,.tmp 1,.tmp 6].map a4.eval)=#[.pointer (some ⟨bA,0,none⟩),.pointer (some ⟨bY,0,none⟩),cO,.pointer (some ⟨bN,0,none⟩),cF,.pointer (some ⟨bN+1,0,none⟩)]:=by
  simp only[adV,ady,adR,Act.eval];rw[u 4 zo,u 3 zo,u 2 zo,u5,u 1 zo,u6,hA.2,hY.2,e2,e1]
 rw[fh]
 obtain⟨fv,lZ⟩:∃fv:Value,fv=.func (.func 167) #[] #[.pointer (some ⟨bA,0,none⟩),.pointer (some ⟨bY,0,none⟩),cO,.pointer (some ⟨bN,0,none⟩),cF,.pointer (some ⟨bN+1,0,none⟩)]:=⟨_,rfl⟩
 rw[<-lZ]
 obtain⟨a5,qM⟩:∃a5,a4.put (some 11) fv=a5:=⟨_,rfl⟩
 show wpOpsIn _ _ _ _ _ [1] (a4.put (some 11) fv) w4;rw[qM]
 have z5:a5.tmps.size=14:=by rw[<-qM,kh];exact z4
 have UQ:a5.tmps.getD 11 undef=fv:=by rw[<-qM];exact jK _ _ _ z4 zd
 have u65:a5.tmps.getD 6 undef=.pointer (some ⟨bN+1,0,none⟩):=by rw[<-qM,fm _ _ _ _ zd];exact u6
 obtain⟨i33,Ti,SV⟩:=iZ 69 1;refine eT rfl rfl zr (iV (x:=.tmp 6) (y:=.tmp 11) rfl u65 Ti SV FD UQ (by rw[lZ];rfl)) ?_
 obtain⟨w5,MS⟩:∃w5,w4.setRow (bN+1) #[fv]=w5:=⟨_,rfl⟩
 show Code.wpIn _ _ _ _ _ (a5.put none undef) (w4.setRow (bN+1) #[fv]);rw[MS]
 have ac8:w5.heap.size=bN+2:=by rw[<-MS];simpa using OY
 have W2:w5.heap[bN+1]?=some (.cells #[fv] 69 (0,0)):=by rw[<-MS];exact ae3 w4 _ _ _ _ _ FD
 have WH:∀b,b<bN+1->w5.heap[b]?=w4.heap[b]?:=λb hb=>by rw[<-MS];exact aes w4 _ _ _ zo
 have JG:∀b,b<bN->w5.heap[b]?=w2.heap[b]?:=λb hb=>by rw[WH b zo,Ct b zo,LG b hb]
 refine adP ?_;show wpOpsIn _ _ _ _ _ [0,1] a5 w5;obtain⟨d33,ab4,Yz⟩:=vZ 69;refine bg rfl rfl zr (jV (x:=.tmp 6) (v:=fv) rfl u65 ab4 Yz (by simp[World.cell?,W2])) ?_;show wpOpsIn _ _ _ _ _ [1] (a5.put (some 12) fv) w5
 obtain⟨a6,V0⟩:∃a6,a5.put (some 12) fv=a6:=⟨_,rfl⟩
 rw[V0]
 have z6:a6.tmps.size=14:=by rw[<-V0,kh];exact z5
 have u12:a6.tmps.getD 12 undef=fv:=by rw[<-V0];exact jK _ _ _ z5 zd
 have Tx:a6.defers=[]:=by rw[<-V0,so,<-qM,so,<-mg,so,<-se,so];exact Ts
 have hc6:∀{P':Nat->Nat->Prop},(∀b k,P' b k->b<bN)->bf P' P' w2 w5:=λh=>bf.of_eq λb k hp=>⟨hp,JG b (h b k hp)⟩
 let X:Fx C all out fA rows:={
  bN:=bN
  cA:=.pointer (some ⟨bA,0,none⟩)
  cY:=.pointer (some ⟨bY,0,none⟩)
  cO:=cO
  cF:=cF
  cR:=.pointer (some ⟨bN+1,0,none⟩)
  MI:=λb=>w.heap.size<=b/\b<bN+2/\b≠bN
  wI:=w5
  bA:=bA
  E7:=E7
  Py:=rfl
  VV:=⟨⟨hbA.1,zo,zo⟩,zo⟩
  hA2:=⟨tyA,(JG bA zo).trans r3⟩
  hY:=by
   refine .data _ _ (.ref _ _ _ (λ_=>.func (.yield l) #[] #[]) (λi hi=>?_) (λk hk=>⟨?_,?_⟩) (λk hk=>?_))
   .have:i=0:=by simpa using hi
    subst this;rfl
   .exact⟨hbY.1,zo,zo⟩
   .have:k=0:=by simpa using hk
    subst this;have:w5.heap[bY]?=some (.cells #[.func (.yield l) #[] #[]] tyY (0,0)):=(JG bY zo).trans q3;simp[World.cell?,this]
   .have:k=0:=by simpa using hk
    subst this;exact .val _ rfl
  hR:=by
   refine .data _ _ (.ref _ _ _ (λ_=>fv) (λi hi=>?_) (λk hk=>⟨?_,?_⟩) (λk hk=>?_))
   .have:i=0:=by simpa using hi
    subst this;rfl
   .exact⟨zo,zo,zo⟩
   .have:k=0:=by simpa using hk
    subst this;simp[World.cell?,W2]
   .have:k=0:=by simpa using hk
    subst this;rw[lZ];exact .val _ rfl
  f9:=h9 }
 have jH:l7 (λ_=>False) w w5:=by
  refine⟨?_,?_,?_,zo,λb hb _=>(JG b zo).trans (mm.block b hb)⟩
  .rw[<-MS,<-nv,<-qI];exact mm.os
  .rw[<-MS,<-nv,<-qI];exact mm.tape
  .rw[<-MS,<-nv,<-qI];exact mm.output
 have xP:bf Pr Pr w w5:=bf.qg λb k hb _=>jH.block b hb (λh=>h)
 have st:St X 0 (λb=>w.heap.size<=b/\b<bN+2) Pr [] w5:=by
  refine⟨C.dQ hJ jH λb hb=>⟨zo,.inr hb.1⟩,λb hb=>zo,λb hb=>⟨⟨hb.1,hb.2.1⟩,hb.2.2,rfl⟩,⟨.slice none 0 0,174,[],?_,?_,⟨rfl,.inl ⟨rfl,rfl⟩⟩,⟨λx hx=>(by cases hx),λj hj=>(by simp[aY]at hj)⟩,λb hb=>(by cases hb)⟩,ZF.mono xP λ_ _ h=>h,hrO.mono xP λ_ _ h=>h,oL.mono (bf.of_eq λb k hp=>?_)⟩
  .show w5.heap[bN]?=_;rw[WH bN zo,Ct bN zo];exact O0
  .show w.heap.size<=bN/\bN<bN+2;exact⟨by rw[<-Rq];exact mm.size,zo⟩
  .have bj:=mm.size
   have aq:b<bN:=by
    rcases hp with h|h<;>omega
   refine⟨⟨aq,?_⟩,JG b aq⟩;rcases hp with h|h
   .exact .inr h.2
   .exact .inl (show w.heap.size<=b/\b<bN+2/\b≠bN from⟨h.1,zo,zo⟩)
 have TM:=SS hG X eF Sg kl all.length 0 [] 0 _ Pr w5 [] zo (adl _) st ahi
 have xS:(#[a6.eval (.const (.int .i64 0))]++#[.pointer (some ⟨bA,0,none⟩),.pointer (some ⟨bY,0,none⟩),cO,.pointer (some ⟨bN,0,none⟩),cF,.pointer (some ⟨bN+1,0,none⟩)])=#[.int .i64 ((0:Nat):Int),X.cA,X.cY,X.cO,.pointer (some ⟨X.bN,0,none⟩),X.cF,X.cR]:=by
  simp[Act.eval,X]
 rw[<-xS]at TM;have abi:a6.eval (.tmp 12)=.func (.func 167) #[] #[.pointer (some ⟨bA,0,none⟩),.pointer (some ⟨bY,0,none⟩),cO,.pointer (some ⟨bN,0,none⟩),cF,.pointer (some ⟨bN+1,0,none⟩)]:=u12.trans lZ;refine gk rfl rfl zr (um (f:=.tmp 12) (x:=.const (.int .i64 0)) w5 rfl rfl rfl abi zk) TM ?_;rintro e w6 ⟨M',eS,yR⟩
 obtain⟨b,rfl,hv⟩:∃b:Bool,e=.returned (.bool b)/\(C.J ((ch [] all rows).map (bq out)).length M' eS w6\/C.X M' eS w6):=by
  rcases yR with⟨rfl,h⟩|⟨rfl,h⟩
  .refine⟨true,rfl,.inl ?_⟩;have:=h.j;simpa using this
  .exact⟨false,rfl,.inr h⟩
 refine⟨_,rfl,?_⟩;show bodyPost prog f165 _ .normal (a6.put (some 13) (.bool b)) w6;refine⟨by rw[so];exact Tx,.tuple #[],?_,.tuple #[],_,_,rfl,hv⟩;simp[results,results165]
def P8:TypeDesc→Bool
  |.interface _=>true
  |_=>false
def Hs {P:Program} {t:TypeId} (h:(P.underlying t).map P8=some true):∃ ms,P.underlying t=some (.interface ms):=by
  cases hi:P.underlying t with
  |none=>rw[hi]at h;cases h
  |some d =>
    rw[hi]at h
    cases d<;>first|(cases h;done)|exact⟨_,rfl⟩
def TA (T:Nat) (v:Value) (w:World):(binOp .eql 20 (.iface T v) .nilIface).run prog w = .ok (.bool false) w:=by
  have:(Op.equal 20 (.iface T v) .nilIface).run prog w = .ok false w:=by
    obtain⟨ms,hm⟩:=Hs (P:=prog) (t:=20) zk;unfold Op.equal Op.maxDepth Op.equalIn;simp[adD hm]
  simp[binOp,this]
def tx {a:Act} {o:Oper} {T:Nat} {v:Value} {x:Operand} (w:World) (ho:o.op = .binOp .eql 20 x (.const .nilIface) 20) (hx:a.eval x = .iface T v):(execOp a.eval o).run prog w = .ok (.value (.bool false)) w:=by
  have h0:(eqGuard .eql 20 x (.const .nilIface) (.iface T v) .nilIface).run prog w=.ok () w:=gO _ _ _ _ _ _ rfl;have hc:a.eval (.const .nilIface)=.nilIface:=rfl;simp[execOp,ho,hx,hc,h0,TA]
def LC {bE:Nat} {u:Value} {ty:TypeId} (w:World) (hE:w.heap[bE]? = some (.cells #[u] ty (0,0))) (n:Int) :
    CallsD prog 127 #[.pointer (some ⟨bE,0,none⟩)] (.panicking [{ v := .iface 190 (.agg #[.int .i64 n]),recovered:=false }]) w fun e u' w' =>
      e=.returned (.tuple #[])/\u'=.panicking [{ v:=.iface 190 (.agg #[.int .i64 n]),recovered:=true }]/\∃w1,Below w.heap.size w w1/\w'=w1.setRow bE #[.int .i64 5]:=by
  refine afQ func127 rfl λCE cs hu=>?_
  apply ag7;apply agm;simp[wpOpsS,go_sem,recoverD,hu,ntmps127,Exit.thenS];refine agz ?_;refine(fo (m:=0)).1 ?_;refine hZ (λa=>a.tmps.size=14/\a.defers=[]/\a.tmps.getD 0 undef=.pointer (some ⟨bE,0,none⟩)/\a.tmps.getD 5 undef=.iface 190 (.agg #[.int .i64 n])) ⟨ahi,rfl,ahi,ahi⟩ ?_;rintro a ⟨bj,eI,h0,h5⟩;have aq:=(adj.1 hE).1;refine aeL (adB (adP ?_));show wpOpsIn _ _ _ _ _ [0] a w;refine bg rfl rfl zr (tx (x:=.tmp 5) w rfl h5) ?_;show Code.wpIn _ _ _ _ _ (a.put (some 7) (.bool false)) w
  have h7:(a.put (some 7) (.bool false)).tmps.getD 7 undef=.bool false:=by simp[Act.put,bj]
  refine aed (t:=false) h7 ?_;simp only[ads,adH];refine hZ (λa=>a.tmps.size=14/\a.defers=[]/\a.tmps.getD 0 undef=.pointer (some ⟨bE,0,none⟩)/\a.tmps.getD 5 undef=.iface 190 (.agg #[.int .i64 n])) ⟨by simp[Act.put,bj],eI,by simpa[Act.put,adt]using h0,by simpa[Act.put,adt]using h5⟩ ?_;clear h7 h5 h0 eI bj a;rintro a ⟨bj,eI,h0,h5⟩
  have hS:∀ (a:Act) (w:World),a.tmps.getD 5 undef = .iface 190 (.agg #[.int .i64 n])→∀ t,t < 14→((fun t=>if t=5 then AV.iface 190 (.agg [.int .i64 n]) else AV.bo:an) t).aJ=(fun t=>if t=5 then AV.iface 190 (.agg [.int .i64 n]) else AV.bo:an) t ∧
      RV (λ_ _=>True) cQ w ((λt=>if t=5 then AV.iface 190 (.agg [.int .i64 n])else AV.bo:an) t) (a.tmps.getD t undef):=by
    intro a w h5 t ht
    by_cases h:t=5
    . subst h
      rw[h5];refine⟨rfl,.data _ _ (.iface _ _ _ (.agg _ _ rfl (λi hi=>?_) (λi hi dv=>?_)))⟩
      . have:i=0:=by simpa using hi
        subst this;rfl
      . have:i=0:=by simpa using hi
        subst this;exact .int _ _
    . simp only[h,adH];exact⟨rfl,.bo _⟩
  refine adB ?_;refine cJ (GI:=λ_=>True) (λ_ _ _ _=>trivial) db (ac:=ah.qa c127.qb.qb.qb.qb) (W:=λt=>decide (8<=t)) zk zk zk trivial (λ_ _=>True) _ bj eI (hS a w h5) (K:=λS' _=>S' 9=.bool true/\S' 10=.agg [.int .i64 n]) ?_ ?_
  . simp[c127,ah.qa,ah.qb,bD,bp,aF,ba,aD,aN,aP.S,aP.H,ev,au,aX,AV.aJ]
  rintro g S' H' a' w' hg R1 ⟨h9,pB⟩ bn;have t9:=R1.slot 9 zd (λh=>h);rw[h9]at t9;have t9:=t9.fL;have t10:=R1.slot 10 zd (λh=>h);rw[pB]at t10
  have b1:Below w.heap.size w w':=by have:=R1.below;rwa [R1.base]at this
  show Code.wpIn _ _ _ _ _ a' w';refine aed (t:=true) t9 ?_;simp only[adS];refine adB ?_;refine jM R1 (GI:=λ_=>True) (λ_ _ _ _=>trivial) trivial db (ac:=ah.qa c127.qb.qb.qb.qb.qb.qa) (W:=λt=>decide (1<=t)) zk zk zk (by rw[hg];exact λ_ h=>h) (K:=λ_ _=>True) ?_ ?_
  . simp[c127,ah.qa,ah.qb,bD,bp,aF,ba,aD,aN,aP.S,aP.H,ev,au,aX,AV.aJ,pB,cd,HR.okB,AV.cells,AV.storable,bB,AV.cy,bw]
  rintro g2 S2 H2 a2 w2 nH R2 _ kH
  have b2:Below w.heap.size w w2:=by have:=R2.below;rwa [R2.base]at this
  have e0:a2.tmps.getD 0 undef=.pointer (some ⟨bE,0,none⟩):=(kH 0 rfl).trans ((bn 0 rfl).trans h0);have IL:w2.heap[bE]?=some (.cells #[u] ty (0,0)):=(b2.block bE aq).trans hE;obtain⟨i36,rT,sg⟩:=iZ 34 1;show Code.wpIn _ _ _ _ _ a2 w2;refine adP ?_;show wpOpsIn _ _ _ _ _ [0] a2 w2;refine eT rfl rfl zr (iV (x:=.tmp 0) (y:=.const (.int .i64 5)) (v:=.int .i64 5) rfl e0 rT sg IL rfl rfl) ?_;refine⟨by show a2.defers=[];rw[R2.defers,nH,hg];rfl,_,rfl,.tuple #[],?_,rfl,rfl,w2,b2,rfl⟩;simp[results,results127]
def I8 {bE:Nat} {u:Value} {ty:TypeId} (w:World) (hE:w.heap[bE]? = some (.cells #[u] ty (0,0))) (n:List UInt8) :
    CallsD prog 127 #[.pointer (some ⟨bE,0,none⟩)] (.panicking [{ v := .iface 192 (.agg #[.string ⟨n.toArray⟩]),recovered:=false }]) w fun e u' w' =>
      e=.returned (.tuple #[])/\u'=.panicking [{ v:=.iface 192 (.agg #[.string ⟨n.toArray⟩]),recovered:=true }]/\∃w1,Below w.heap.size w w1/\w'=w1.setRow bE #[.int .i64 4]:=by
  refine afQ func127 rfl λCE cs hu=>?_
  apply ag7;apply agm;simp[wpOpsS,go_sem,recoverD,hu,ntmps127,Exit.thenS];refine agz ?_;refine(fo (m:=0)).1 ?_;refine hZ (λa=>a.tmps.size=14/\a.defers=[]/\a.tmps.getD 0 undef=.pointer (some ⟨bE,0,none⟩)/\a.tmps.getD 5 undef=.iface 192 (.agg #[.string ⟨n.toArray⟩])) ⟨ahi,rfl,ahi,ahi⟩ ?_;rintro a ⟨bj,eI,h0,h5⟩;have aq:=(adj.1 hE).1;refine aeL (adB (adP ?_));show wpOpsIn _ _ _ _ _ [0] a w;refine bg rfl rfl zr (tx (x:=.tmp 5) w rfl h5) ?_;show Code.wpIn _ _ _ _ _ (a.put (some 7) (.bool false)) w
  have h7:(a.put (some 7) (.bool false)).tmps.getD 7 undef=.bool false:=by simp[Act.put,bj]
  refine aed (t:=false) h7 ?_;simp only[ads,adH];refine hZ (λa=>a.tmps.size=14/\a.defers=[]/\a.tmps.getD 0 undef=.pointer (some ⟨bE,0,none⟩)/\a.tmps.getD 5 undef=.iface 192 (.agg #[.string ⟨n.toArray⟩])) ⟨by simp[Act.put,bj],eI,by simpa[Act.put,adt]using h0,by simpa[Act.put,adt]using h5⟩ ?_;clear h7 h5 h0 eI bj a;rintro a ⟨bj,eI,h0,h5⟩
  have hS:∀ (a:Act) (w:World),a.tmps.getD 5 undef = .iface 192 (.agg #[.string ⟨n.toArray⟩])→∀ t,t < 14→((fun t=>if t=5 then AV.iface 192 (.agg [.str n]) else AV.bo:an) t).aJ=(fun t=>if t=5 then AV.iface 192 (.agg [.str n]) else AV.bo:an) t ∧
      RV (λ_ _=>True) cQ w ((λt=>if t=5 then AV.iface 192 (.agg [.str n])else AV.bo:an) t) (a.tmps.getD t undef):=by
    intro a w h5 t ht
    by_cases h:t=5
    . subst h
      rw[h5];refine⟨rfl,.data _ _ (.iface _ _ _ (.agg _ _ rfl (λi hi=>?_) (λi hi dv=>?_)))⟩
      . have:i=0:=by simpa using hi
        subst this;rfl
      . have:i=0:=by simpa using hi
        subst this;exact .str _
    . simp only[h,adH];exact⟨rfl,.bo _⟩
  refine adB ?_;refine cJ (GI:=λ_=>True) (λ_ _ _ _=>trivial) db (ac:=ah.qa c127.qb.qb.qb.qb) (W:=λt=>decide (8<=t)) zk zk zk trivial (λ_ _=>True) _ bj eI (hS a w h5) (K:=λS' _=>S' 9=.bool false/\S' 5=.iface 192 (.agg [.str n])) ?_ ?_
  . simp[c127,ah.qa,ah.qb,bD,bp,aF,ba,aD,aN,aP.S,aP.H,ev,au,aX,AV.aJ]
  rintro g0 S0 H0 a0 Zu Hb R0 ⟨Ko,h50⟩ Ij;have t90:=R0.slot 9 zd (λh=>h);rw[Ko]at t90;have t90:=t90.fL;show Code.wpIn _ _ _ _ _ a0 Zu;refine aed (t:=false) t90 ?_;simp only[ads,adH];refine adB ?_;refine jM R0 (GI:=λ_=>True) (λ_ _ _ _=>trivial) trivial db (ac:=ah.qa c127.qb.qb.qb.qb.qb.qb) (W:=λt=>decide (8<=t)) zk zk zk (by rw[Hb];exact λ_ h=>h) (K:=λS' _=>S' 12=.bool true/\S' 13=.agg [.str n]) ?_ ?_
  . simp[c127,ah.qa,ah.qb,bD,bp,aF,ba,aD,aN,aP.S,aP.H,ev,au,aX,AV.aJ,h50]
  rintro g S' H' a' w' hg R1 ⟨h9,pB⟩ Gs;have bn:=Ij.trans Gs;rw[Hb]at hg;have t9:=R1.slot 12 zd (λh=>h);rw[h9]at t9;have t9:=t9.fL;have t10:=R1.slot 13 zd (λh=>h);rw[pB]at t10
  have b1:Below w.heap.size w w':=by have:=R1.below;rwa [R1.base]at this
  show Code.wpIn _ _ _ _ _ a' w';refine aed (t:=true) t9 ?_;simp only[adS];refine adB ?_;refine jM R1 (GI:=λ_=>True) (λ_ _ _ _=>trivial) trivial db (ac:=ah.qa c127.qb.qb.qb.qb.qb.qb.qb.qa) (W:=λt=>decide (1<=t)) zk zk zk (by rw[hg];exact λ_ h=>h) (K:=λ_ _=>True) ?_ ?_
  . simp[c127,ah.qa,ah.qb,bD,bp,aF,ba,aD,aN,aP.S,aP.H,ev,au,aX,AV.aJ,pB,cd,HR.okB,AV.cells,AV.storable,bB,AV.cy,bw]
  rintro g2 S2 H2 a2 w2 nH R2 _ kH
  have b2:Below w.heap.size w w2:=by have:=R2.below;rwa [R2.base]at this
  have e0:a2.tmps.getD 0 undef=.pointer (some ⟨bE,0,none⟩):=(kH 0 rfl).trans ((bn 0 rfl).trans h0);have IL:w2.heap[bE]?=some (.cells #[u] ty (0,0)):=(b2.block bE aq).trans hE;obtain⟨i36,rT,sg⟩:=iZ 34 1;show Code.wpIn _ _ _ _ _ a2 w2;refine adP ?_;show wpOpsIn _ _ _ _ _ [0] a2 w2;refine eT rfl rfl zr (iV (x:=.tmp 0) (y:=.const (.int .i64 4)) (v:=.int .i64 4) rfl e0 rT sg IL rfl rfl) ?_;refine⟨by show a2.defers=[];rw[R2.defers,nH,hg];rfl,_,rfl,.tuple #[],?_,rfl,rfl,w2,b2,rfl⟩;simp[results,results127]
def K8 (p:Addr) (w:World) :
    CallsD prog 127 #[.pointer (some p)] .returning w λe u' w'=>e=.returned (.tuple #[])/\u'=.returning/\w'=w:=by
  refine afQ func127 rfl λCE cs hu=>?_
  apply ag7;apply agm;simp[wpOpsS,go_sem,recoverD,hu,ntmps127,Exit.thenS];refine agz ?_
  go_wp2
  cases CE
  simp_all[bodyPostS,results,results127]
def A_ {P:Program} {a:Act} {o:Oper} {cl:Call} {f:Operand} {k:Nat} {cap:Array Value} (w:World) (ho:o.op = .call cl) (hc:cl.callee = .value f) (ha:cl.args = #[]) (hf:a.eval f = .func (.func k) #[] cap) (hk:eb P k=true) :
    (execOp a.eval o).run P w=.ok (.enter k cap) w:=by
  unfold execOp;simp[ho,fe hc,hf,Deferred.ofValue,invoke,ha,f_ hk]
def run_move {P:Program} {a:Act} {o:Oper} {x:Operand} (w:World) (ho:o.op = .move x):(execOp a.eval o).run P w = .ok (.value (a.eval x)) w:=by
  unfold execOp;simp only[ho]
  rfl
def B'{w:World}{b:Nat}{v u:Value}{ty:TypeId}(h:w.heap[b]?=some (.cells #[u] ty (0,0))):(w.setRow b #[v]).heap[b]?=some (.cells #[v] ty (0,0)):=ae3 w b _ _ _ _ h
def O3 {a:Act} {w:World} {b:Nat} {v:Value} {ty:TypeId} (h2:a.tmps.getD 2 undef = .pointer (some ⟨b,0,none⟩)) (h:w.heap[b]? = some (.cells #[v] ty (0,0))):(results f92 a.tmps).run prog w = .ok v w:=by
  obtain⟨d,E2,uK⟩:=vZ 34
  have kN:(isAgg 34).run prog w = .ok false w:=by
    unfold isAgg;rw[adq,adD E2 w]
    cases d<;>simp_all[ef]
  have hl:(loadVar 34 ⟨b,0,none⟩).run prog w = .ok v w:=by
    simp[loadVar,adq,kN,World.cell?,h]
  have hr:f92.results=#[.cell 2 34]:=rfl
  have wh:a.tmps[2]?.getD undef=.pointer (some ⟨b,0,none⟩):=by rw[<-h2];simp
  simp[results,hr,wh,asAddr,hl]
def qA {k:Nat} {us:Array Value} {w:World} {R1 R:Ending→World→Prop} (jP:eb prog k=true) (hc:Calls prog k us (w.alloc (.cells #[.int .i64 0] 34)) R1)
    (h:∀ e w2,R1 e w2→w.heap.size < w2.heap.size∧(∃ u ty,w2.heap[w.heap.size]? = some (.cells #[u] ty (0,0))) ∧
      ((∃c,e=.returned c/\R (.returned (.int .i64 0)) (w2.setRow w.heap.size #[.int .i64 0]))\/
       (∃n,e=.panicked [{ v:=.iface 190 (.agg #[.int .i64 n]),recovered:=false }]/\∀w3,Below w2.heap.size w2 w3->R (.returned (.int .i64 5)) (w3.setRow w.heap.size #[.int .i64 5]))\/
       (∃s:List UInt8,e=.panicked [{ v:=.iface 192 (.agg #[.string ⟨s.toArray⟩]),recovered:=false }]/\∀w3,Below w2.heap.size w2 w3->R (.returned (.int .i64 4)) (w3.setRow w.heap.size #[.int .i64 4])))):
    Calls prog 92 #[.func (.func k) #[] us] w R:=by
  refine calls_of_wp_defers func92 rfl ?_;refine(fo (m:=0)).1 ?_;refine hZ (λa=>a.tmps.size=6/\a.defers=[]/\a.tmps.getD 0 undef=.func (.func k) #[] us) ⟨by simp[ntmps92],rfl,cH _ _ 0 ahi⟩ ?_;rintro a ⟨bj,eI,h0⟩
  obtain⟨bE,On⟩:∃bE,w.heap.size=bE:=⟨_,rfl⟩
  have fm:∀ (a:Act) (d t:Nat) (c:Value),t≠d→(a.put (some d) c).tmps.getD t undef=a.tmps.getD t undef:=fun a d t c h=>by
    simp[Act.put,adt (ad6 h)]
  have jK:∀ (a:Act) (d:Nat) (c:Value),a.tmps.size=6→d < 6→(a.put (some d) c).tmps.getD d undef=c:=fun a d c h hd=>by
    simp[Act.put,h,hd]
  have kh:∀(a:Act)(d:Option Nat)(c:Value),(a.put d c).tmps.size=a.tmps.size:=λa d c=>by cases d<;>simp[Act.put]
  refine adB (adP ?_);show wpOpsIn _ _ _ _ _ [0] a w;refine bg rfl rfl zr (lE (t:=34) (z:=.int .i64 0) rfl zk) ?_;show Code.wpIn _ _ _ _ _ (a.put (some 2) (.pointer (some ⟨w.heap.size,0,none⟩))) (w.alloc (.cells #[.int .i64 0] 34));rw[On]at h;simp only[On]
  obtain⟨w1,pH⟩:∃w1,w.alloc (.cells #[.int .i64 0] 34)=w1:=⟨_,rfl⟩
  rw[pH]at hc⊢;refine hZ (λa=>a.tmps.size=6/\a.defers=[]/\a.tmps.getD 0 undef=.func (.func k) #[] us/\a.tmps.getD 2 undef=.pointer (some ⟨bE,0,none⟩)) ⟨by rw[kh];exact bj,eI,by rw[fm _ _ _ _ zd];exact h0,jK _ _ _ bj zd⟩ ?_;clear h0 eI bj a;rintro a ⟨bj,eI,h0,h2⟩;refine adB (adP ?_);show wpOpsIn _ _ _ _ _ [0,1] a w1;refine bg rfl rfl zr (mr (fn:=.func 127) (c:=#[.tmp 2]) rfl) ?_
  have fh:(#[Operand.tmp 2].map a.eval) = #[.pointer (some ⟨bE,0,none⟩)]:=by
    simp only[adV,ady,adR,Act.eval];rw[h2]
  rw[fh];show wpOpsIn _ _ _ _ _ [1] (a.put (some 3) (.func (.func 127) #[] #[.pointer (some ⟨bE,0,none⟩)])) w1
  obtain⟨a2,jG⟩:∃a2,a.put (some 3) (.func (.func 127) #[] #[.pointer (some ⟨bE,0,none⟩)])=a2:=⟨_,rfl⟩
  rw[jG]
  have z2:a2.tmps.size=6:=by rw[<-jG,kh];exact bj
  have u3:a2.tmps.getD 3 undef=.func (.func 127) #[] #[.pointer (some ⟨bE,0,none⟩)]:=by rw[<-jG];exact jK _ _ _ bj zd
  have u0:a2.tmps.getD 0 undef=.func (.func k) #[] us:=by rw[<-jG,fm _ _ _ _ zd];exact h0
  have u2:a2.tmps.getD 2 undef=.pointer (some ⟨bE,0,none⟩):=by rw[<-jG,fm _ _ _ _ zd];exact h2
  have ud:a2.defers=[]:=by rw[<-jG];exact eI
  refine AO rfl rfl (d:={ target:=.fn (.func 127) #[.pointer (some ⟨bE,0,none⟩)],args:=#[] }) (w':=w1) ?_ ?_
  . unfold execOp
    simp[fe,Deferred.ofValue,Act.eval,u3]
  have Rz:∀ (w:World),(invoke (.fn (.func 127) #[.pointer (some ⟨bE,0,none⟩)]) #[]).run prog w = .ok (.enter 127 #[.pointer (some ⟨bE,0,none⟩)]) w:=fun w=>by
    simp[invoke,f_ (P:=prog) (f:=127) zk]
  show Code.wpIn _ _ _ _ _ { a2 with defers:={ target:=.fn (.func 127) #[.pointer (some ⟨bE,0,none⟩)],args:=#[] }::a2.defers } w1;refine hZ (λa=>a.tmps.size=6/\a.defers=[{ target:=.fn (.func 127) #[.pointer (some ⟨bE,0,none⟩)],args:=#[] }]/\a.tmps.getD 0 undef=.func (.func k) #[] us/\a.tmps.getD 2 undef=.pointer (some ⟨bE,0,none⟩)) ⟨z2,by show _::a2.defers=_;rw[ud],u0,u2⟩ ?_;clear u0 u2 u3 ud z2 jG a2 h0 h2 eI bj fh a;rintro a ⟨bj,eI,h0,h2⟩;refine adB (adP ?_);show wpOpsIn _ _ _ _ _ [0,1] a w1;refine bg rfl rfl zr (run_move (x:=.tmp 0) w1 rfl) ?_;have e0:a.eval (.tmp 0)=.func (.func k) #[] us:=h0;rw[e0];show wpOpsIn _ _ _ _ _ [1] (a.put (some 4) (.func (.func k) #[] us)) w1
  obtain⟨a2,jG⟩:∃a2,a.put (some 4) (.func (.func k) #[] us)=a2:=⟨_,rfl⟩
  rw[jG]
  have z2:a2.tmps.size=6:=by rw[<-jG,kh];exact bj
  have u4:a2.eval (.tmp 4)=.func (.func k) #[] us:=by show a2.tmps.getD 4 undef=_;rw[<-jG];exact jK _ _ _ bj zd
  have u2:a2.tmps.getD 2 undef=.pointer (some ⟨bE,0,none⟩):=by rw[<-jG,fm _ _ _ _ zd];exact h2
  have ud:a2.defers=[{ target:=.fn (.func 127) #[.pointer (some ⟨bE,0,none⟩)],args:=#[] }]:=by rw[<-jG];exact eI
  refine o9 rfl rfl zr (A_ (f:=.tmp 4) w1 rfl rfl rfl u4 jP) hc ?_;intro e w2 he;obtain⟨aq,⟨uE,Xj,hE⟩,tc⟩:=h e w2 he
  have Ei:∀ {args:Array Value} {u:FrameMode} {w:World} {R R':Ending→FrameMode→World→Prop},CallsD prog 127 args u w R→(∀ e u w,R e u w→R' e u w)→CallsD prog 127 args u w R':=fun h hr c cs hu =>
    let⟨e,u',w',fr,r,rest⟩:=h c cs hu;⟨e,u',w',fr,hr _ _ _ r,rest⟩
  have y4:∀ (p:PanicEntry) (v:Value) (hv:CallsD prog 127 #[.pointer (some ⟨bE,0,none⟩)] (.panicking [p]) w2 fun e u' w'=>e = .returned (.tuple #[])∧u' = .panicking [{ p with recovered:=true }]∧∃ w1,Below w2.heap.size w2 w1∧w'=w1.setRow bE #[v]),
      p.goexit=false->(∀w3,Below w2.heap.size w2 w3->R (.returned v) (w3.setRow bE #[v]))->Leaves prog f92 a2.tmps R a2.defers (.panicking [p]) w2:=by
    intro p v hv ru hR;rw[ud];refine ag3 ahi (Rz w2) (Ei hv ?_);rintro e u' w' ⟨rfl,rfl,w3,oq,rfl⟩;have Zs:w3.heap[bE]?=some (.cells #[uE] Xj (0,0)):=(oq.block bE aq).trans hE;show Leaves prog f92 a2.tmps R [] .returning (w3.setRow bE #[v]);exact⟨v,O3 u2 (B' Zs),hR w3 oq⟩
  rcases tc with⟨c,rfl,hR⟩|⟨n,rfl,hR⟩|⟨s,rfl,hR⟩
  . show Code.wpIn _ _ _ _ _ (a2.put (some 5) c) w2
    have R8:(a2.put (some 5) c).tmps.getD 2 undef=.pointer (some ⟨bE,0,none⟩):=by rw[fm _ _ _ _ zd];exact u2
    refine adB (adP ?_);show wpOpsIn _ _ _ _ _ [0] (a2.put (some 5) c) w2;obtain⟨i36,rT,sg⟩:=iZ 34 1;refine eT rfl rfl zr (iV (x:=.tmp 2) (y:=.const (.int .i64 0)) (v:=.int .i64 0) rfl R8 rT sg hE rfl rfl) ?_;show Code.wpIn _ _ _ _ _ (a2.put (some 5) c) (w2.setRow bE #[.int .i64 0]);refine afh ?_;show Leaves prog f92 (a2.put (some 5) c).tmps R a2.defers .returning (w2.setRow bE #[.int .i64 0]);rw[ud];refine ag3 ahi (Rz _) (Ei (K8 _ _) ?_);rintro e u' w' ⟨rfl,rfl,rfl⟩;exact⟨_,O3 R8 (B' hE),hR⟩
  . exact y4 _ _ (LC w2 hE n) rfl hR
  . exact y4 _ _ (I8 w2 hE s) rfl hR
def WC (hG:ar GI) {k:Nat} {caps:List AV} {out:iJ} {r:Int} (jP:eb prog k=true) (Y5:AC prog GI k caps out)
    (kl:(∃v,out=.ret v/\r=0)\/(∃n,out=.panic (.iface 190 (.agg [.int .i64 n]))/\r=5)\/(∃s,out=.panic (.iface 192 (.agg [.str s]))/\r=4)):
    AC prog GI 92 [.func (.func k) [] caps] (.ret (.int .i64 r)):=by
  intro w old bP gj hlen hr;obtain⟨fv,rfl⟩:∃fv,bP=#[fv]:=sk (by simpa using hlen.symm);have h0:=hr 0 ahi ahi;simp only[List.getElem_cons_zero,List.getElem_toArray]at h0
  obtain ⟨us,rfl,hl,Ox⟩:∃ us:Array Value,fv = .func (.func k) #[] us∧caps.length=us.size∧∀ i (h:i < caps.length) (h':i < us.size),RV old (fun _=>none) w caps[i] us[i]:=by
    cases h0 with
    |data _ _ h=>cases h
    |func _ _ _ vs us h1 h2 r1 r2 =>
      have:vs=#[]:=aeQ (by simpa using h1.symm);subst this;exact⟨us,rfl,h2,r2⟩
  have oH:Below w.heap.size w (w.alloc (.cells #[.int .i64 0] 34)):=(aej _ _).alloc (adl _) _
  have hk:bf old old w (w.alloc (.cells #[.int .i64 0] 34)):=bf.jm (λb h=>oH.block b h) λ_ _ _ h=>h
  have hN:(w.alloc (.cells #[.int .i64 0] 34)).heap[w.heap.size]?=some (.cells #[.int .i64 0] 34 (0,0)):=aee w _;refine qA jP (Y5 (w.alloc (.cells #[.int .i64 0] 34)) old us (hG _ _ gj oH) hl (λi h h'=>(Ox i h h').mono hk λ_ _ h=>h)) ?_;rintro e w2 ⟨iY,hi,qi,tc⟩
  have aaZ:w.heap.size<w2.heap.size:=by have:=iY.size;simp at this;omega
  have IL:w2.heap[w.heap.size]?=some (.cells #[.int .i64 0] 34 (0,0)):=(iY.block _ ahi).trans hN;refine⟨aaZ,⟨_,_,IL⟩,?_⟩
  have fin:∀ (w3:World) (r:Int),Below w2.heap.size w2 w3→AL.Ends prog old w (.ret (.int .i64 r)) (.returned (.int .i64 r)) (w3.setRow w.heap.size #[.int .i64 r]):=by
    intro w3 r oq
    have mm:Below w.heap.size w w3:=by
      have h1:=oH.trans (iY.mono ahi);exact h1.trans (oq.mono zo)
    refine⟨⟨mm.os,mm.tape,mm.output,by simpa using mm.size,λb hb=>(aes w3 _ b _ zo).trans (mm.block b hb)⟩,λ_=>0,λ_ _=>rfl,_,rfl,.data _ _ (.int _ _),trivial⟩
  rcases kl with⟨v,rfl,rfl⟩|⟨n,rfl,rfl⟩|⟨s,rfl,rfl⟩
  . obtain ⟨c,rfl,_,_⟩:=tc
    exact .inl ⟨c,rfl,fin w2 0 (aej _ _)⟩
  . obtain ⟨c,rfl,hc⟩:=tc
    obtain rfl:c = .iface 190 (.agg #[.int .i64 n]):=by
      cases hc with
      |iface _ _ c h =>
        cases h with
        |agg _ vs hl h1 hr =>
          obtain⟨u,rfl⟩:=sk (vs:=vs) (by rw[<-hl];rfl);have:=hr 0 ahi ahi;have:=(RV.data (al:=cQ) _ _ this).int_eq;simp only[List.getElem_toArray,List.getElem_cons_zero]at this;rw[this]
    exact .inr (.inl ⟨n,rfl,λw3 h3=>fin w3 5 h3⟩)
  . obtain ⟨c,rfl,hc⟩:=tc
    obtain rfl:c = .iface 192 (.agg #[.string ⟨s.toArray⟩]):=by
      cases hc with
      |iface _ _ c h =>
        cases h with
        |agg _ vs hl h1 hr =>
          obtain⟨u,rfl⟩:=sk (vs:=vs) (by rw[<-hl];rfl);have:=hr 0 ahi ahi;simp only[List.getElem_toArray,List.getElem_cons_zero]at this;cases this;rfl
    exact .inr (.inr ⟨s,rfl,λw3 h3=>fin w3 4 h3⟩)
def pV{GI:World->Prop}(hG:ar GI){n:Nat}{ro:Option Nat}{Q:eW}{old:Old}{S:an}{H:ao}{x y:Code}(ac:ah)(bW:∀d∈ac.names,¬old.bx d)(K:an->ao->Prop)(h:bD prog GI ac (aN K) S H)(hy:∀S' H',K S' H'->SW prog GI n ro y Q old S' H')(hc:kY x=true:=by kernel_rfl)(oI:dw prog n x=ac:=by kernel_rfl):SW prog GI n ro (.seq x y) Q old S H:=SW.cut hG db hc oI bW K h hy
def dX{GI:World->Prop}(hG:ar GI){n:Nat}{ro:Option Nat}{Q:eW}{old:Old}{S:an}{H:ao}{x y:Code}(ac:ah)(K:an->ao->Prop)(h:bD prog GI ac (aN K) S H)(hy:∀S' H',K S' H'->SW prog GI n ro y Q old S' H')(bW:∀d∈ac.names,¬old.bx d:=by exact λ_ _ h=>h)(hc:kY x=true:=by kernel_rfl)(oI:dw prog n x=ac:=by kernel_rfl):SW prog GI n ro (.seq x y) Q old S H:=SW.cut hG db hc oI bW K h hy
def iH:AV.aJ∘AV.aJ=AV.aJ:=by funext v;exact AV.idem v
def TY:AV.cI∘AV.cI=AV.cI:=by funext v;cases v<;>rfl
def Zx(hG:ar GI){fA:List AV}{out:List Int}(hl:fA.length=11):AC prog GI 152 [.agg fA,vI out] (.ret (.func (.func 165) [] [.ref (fA.map AV.cI),.ref [vI out]])):=by
 refine AC.Fe hG db func152 rfl ntmps152 ahi (ac:=c152) zk ?_;simp[c152,bD,bp,aF,ba,aD,dk,ev,aP.S,aP.H,au,aX,AL.start,AV.aJ,AV.cells,AV.storable,hl,cd,kE,bw,vI];refine⟨4,.func 165,[],[.box 2 0,.box 3 0],rfl,zd,by simp[au],?_⟩;simp[au,fz,gZ,AV.cI,oX]
def HK(out:List Int)(l:List (List End)):AV:=.slice (if l.isEmpty then .nil else .own 176) (l.map (bq out))
def He(out:List Int)(l:List (List End)):AV:=.slice (if l.isEmpty then .nil else .view) (l.map (bq out))
def X7 (hG:ar GI) {fA:List AV} {out:List Int} {kZ:List (List End)} {p:List End→Bool} (hl:fA.length=11) (eL:∀ x∈fA,x.one=true) (hlen:kZ.length≤100000) (bj:∀ es∈kZ,es.length < 1000)
  (hit:xn prog GI 165 [.ref (fA.map AV.cI),.ref [vI out]] (kZ.map (bq out))) (ZE:∀es∈kZ,AC prog GI 153 [.agg (fA.map AV.cI),bq out es,.int .i64 0] (.ret (.bool (p es)))):
  AC prog GI 140 [.agg fA,vI out] (.ret (He out (kZ.filter p))):=by
 refine AC.jF func140 rfl ntmps140 ahi λcc w=>?_
 refine dX hG c140.qa (λS' H'=>S' 1=vI out/\S' 2=.box 2 0/\H' 2=some (fA.map AV.aJ)) ?_ ?_
 .simp[c140,ah.qa,bD,bp,aF,ba,aD,ev,aP.S,aP.H,au,aX,AL.start,AV.aJ,AV.cells,AV.storable,hl,cd,bw,vI,aN]
 rintro S1 H1 ⟨s1,s2,h2⟩;refine dX hG c140.qb.qa (λS' H'=>S' 1=vI out/\S' 2=.box 2 0/\S' 5=.box 5 0/\H' 2=some (fA.map AV.aJ)/\H' 5=some [.slice .nil []]) ?_ ?_
 .simp[c140,ah.qa,ah.qb,bD,bp,aF,ba,au,cd,vI,aN,s1,s2,h2]
 rintro S2 H2 ⟨s1,s2,s5,h2,h5⟩;refine SW.seq (dX hG c140.qb.qb.qa.qa (λS' H'=>S' 2=.box 2 0/\S' 5=.box 5 0/\S' 9=.func (.func 165) [] [.ref (fA.map AV.cI),.ref [vI out]]/\H' 2=some (fA.map AV.aJ)/\H' 5=some [.slice .nil []]) ?_ ?_)
 .have e7:fz H2 (.agg (fA.map AV.aJ))=.agg (fA.map AV.cI):=by simp only[fz,gZ,AV.vw,aeu,oX]
  have Lo:=Zx hG (fA:=fA.map AV.cI) (out:=out) (GI:=GI) (by simpa using hl);simp only[aeu,TY]at Lo;simp[c140,ah.qa,ah.qb,bD,bp,aF,ba,aD,ev,aP.S,aP.H,au,aX,cb,s1,s2,s5,h2,h5,aN,lB,hl,HR.okB,iH];have ht:List.take 11 (List.map AV.aJ fA)=fA.map AV.aJ:=ado (by simp;omega);rw[ht,e7];refine⟨zk,_,Lo,by simp[cW,vI,AV.aJ],?_⟩;simp[eN,au,s2,s5,h2,h5]
 rintro S3 H3 ⟨s2,s5,s9,h2,h5⟩
 refine SW.block (SW.range hG db (Oh:=.tmp 9) (y:=.t 9) (p:=10) (f:=165) (caps:=[.ref (fA.map AV.cI),.ref [vI out]]) (xs:=kZ.map (bq out)) rfl s9 zk rfl hit zd (λx hx=>by obtain⟨e,_,rfl⟩:=adF.1 hx;rfl)
  (λd=>d==6) (aa:=.ops [⟨(some 6),none,.alloc 176 [(.slice .nil []),(.slice .nil [])]⟩,⟨none,none,.store .any 2 (.t 6) (.t 10)⟩]) (ab:=.block 1 (.seq (.ops [⟨some 11,none,.load .any true 11 (.t 2)⟩,⟨some 12,none,.load .any true 2 (.t 6)⟩,⟨some 13,none,.call 153 [(.t 11),(.t 12),(.c (.int .i64 0))]⟩]) (.cond (.t 13) (.ops [⟨some 14,none,.loadT .any (.t 5)⟩,⟨some 15,none,.load .any true 2 (.t 6)⟩,⟨some 16,none,.buildSlice 207 176 2 [(.t 15)]⟩,⟨some 17,none,.append 207 176 2 48 (.t 14) (.t 16)⟩,⟨none,none,.store .any 1 (.t 5) (.t 17)⟩]) .skip)))
  zk zk (by simp[ah.names,bH.jy,eC.jy]) (by simp[ah.names,bH.jy,eC.jy]) (λ_ _ h=>h) zk zk
  (λk H'=>H' 2=some (fA.map AV.aJ)/\H' 5=some [HK out ((kZ.take k).filter p)]) (λ_ _=>False) ⟨h2,h5⟩ ?_ ?_ ?_)
 .rintro k hk H' ⟨h2,h5⟩
  have cE:k<kZ.length:=by simpa using hk
  have HE:(kZ.map (bq out))[k]=bq out kZ[k]:=ahi
  have hf:=ZE kZ[k] (adi cE)
  have qn:kZ.take (k+1)=kZ.take k++[kZ[k]]:=by rw[adp cE]
  have e7:∀H,fz H (.agg (fA.map AV.aJ))=.agg (fA.map AV.cI):=λH=>by simp only[fz,gZ,AV.vw,aeu,oX]
  have e8:∀H,fz H (.agg [.slice .view (ints out),.slice .view (aY kZ[k])])=bq out kZ[k]:=λH=>rfl
  have e9:∀H,fz H (.int .i64 0)=.int .i64 0:=λH=>rfl
  have ht:List.take 11 (List.map AV.aJ fA)=fA.map AV.aJ:=ado (by simp;omega)
  have ET:pC (λd=>d==6) (S3 2)=.box 2 0:=by rw[s2];rfl
  have p7:pC (λd=>d==6) (S3 5)=.box 5 0:=by rw[s5];rfl
  rw[HE,qn,ahv];simp[bD,bp,aF,ba,aD,ev,aP.S,aP.H,au,aX,aN,cd,ET,p7,h2,h5,HR.okB,bq,AV.cells,AV.storable,AV.aJ,bB,AV.cy,bw,dk,dP,cb,iH,ht,lB,hl,e7,e8,e9];refine⟨zk,_,hf,by simp[cW],?_⟩;have hL:(List.filter p (List.take k kZ)).length<=100000:=aeo (agc _ _) (by simp;omega);generalize List.filter p (List.take k kZ)=L at hL h5⊢
  have bX:aG 2 (L.map (bq out))=true:=by simp[aG,bq,AV.storable,AV.cells]
  cases hp:p kZ[k]with
  |false=>simp[eN,tr,h2,h5,hp,au]
  |true=>
   cases L with
   |nil=>simp[eN,tr,hp,aG,AV.storable,AV.cells,AV.vw,AV.cI,HK,AV.aJ,HR.okB,au,bB,AV.cy,bq,p7,h2]
   |cons x L=>
    have nq:L.length+1+1<1048576:=by simp at hL;omega
    simp[eN,tr,hp,aG,AV.storable,AV.cells,AV.vw,AV.cI,HK,AV.aJ,HR.okB,au,bB,AV.cy,bq,p7,nq,h2]
 .rintro D H' hD ⟨h2,h5⟩;show SW prog GI 19 none (.seq _ .ret) _ _ _ _
  have p7:pC (λd=>d==6) (S3 5)=.box 5 0:=by rw[s5];rfl
  have qn:List.take (kZ.map (bq out)).length kZ=kZ:=ado ahi;rw[qn]at h5;refine dX hG c140.qb.qb.qb.qa (λS' _=>S' 4=He out (kZ.filter p)) ?_ ?_
  .generalize kZ.filter p=L at h5⊢
   cases L<;>simp[c140,ah.qa,ah.qb,bD,bp,aF,ba,aD,ev,aP.S,aP.H,au,aX,cb,p7,h5,HR.okB,aN,HK,He,AV.aJ,bw]
  intro S4 H4 s4;refine SW.ret ⟨(ep.plain rfl).mark hD,rfl,_,?_,rfl⟩;show cM prog 19 [.tmp 4] S4 H4=_;simp[cM,dc,de,s4,He,AV.cg,AV.out]
 .exact λ_ _ _ _ _ h=>h.elim
structure jY where
 l:Int
 r:Int
 lo:Int
 hi:Int
def dM(p:jY):AV:=.agg [.int .i64 p.l,.int .i64 p.r,.int .i64 p.lo,.int .i64 p.hi]
def ug(p:jY):AV:=.agg [.int .i64 p.l,.int .i64 p.r]
def po(p:jY):AV:=.agg [.int .i64 p.lo,.int .i64 p.hi]
def cn(ps:List jY):AV:=.map (ps.map ug) (ps.map po)
def Ent(es:Array MapEntry)(ps:List jY):Prop:=es.size=ps.length/\∀i (h:i<es.size)(h':i<ps.length),(es[i]).key=.agg #[.int .i64 (ps[i]).l,.int .i64 (ps[i]).r]/\(es[i]).val=.agg #[.int .i64 (ps[i]).lo,.int .i64 (ps[i]).hi]
def OZ{Pr:Nat->Nat->Prop}{w:World}(x y:Int):RD Pr w (.agg [.int .i64 x,.int .i64 y]) (.agg #[.int .i64 x,.int .i64 y]):=by
 refine .agg _ _ rfl (λi hi=>?_) (λi hi dv=>?_)
 .match i,hi with
  |0,_=>rfl
  |1,_=>rfl
 .match i,hi with
  |0,_=>exact .int _ _
  |1,_=>exact .int _ _
def A5(x y:Int):∀(ps:List jY),(∀p∈ps,¬(p.l=x/\p.r=y))->oD [x,y] (ps.map ug) (ps.map po)=some none
 |[],_=>rfl
 |p::ps,h=>by
  have hp:([x,y]==[p.l,p.r])=false:=by
   have:=h p adx;simp only[ad4,ne_eq,ae7,agP];rintro⟨rfl,rfl⟩;exact this ⟨rfl,rfl⟩
  show oD [x,y] (ug p::ps.map ug) (po p::ps.map po)=some none;unfold oD;simp only[ug,ku,Option.map_some];simp only[List.length_cons,List.length_nil,ne_eq,aeV,adH,hp,ads]
  exact A5 x y ps λq hq=>h q (adu _ hq)
def oM(cc:Nat->Nat->Prop)(w:World)(b:Nat)(es:Array MapEntry)(clock:Nat):Old:={ Old.plain cc w with aV:=au (λ_=>none) b (some (.map es clock)) }
def I'(sA:List AV)(ps:List jY)(z:List AV)(b j:Nat)(S:an)(H:ao):Prop:=
 S 2=.box 2 0/\S 3=.box 3 0/\S 10=.slice .view (ps.map dM)/\S 11=.int .i64 ps.length/\S 12=.int .i64 (j:Nat)/\H 2=some z/\H 3=some (sA.map AV.aJ++[.val (.map (some b))])
def I9{Pr:Nat->Nat->Prop}{al:Nat->Option Nat}{w:World}{x y:Int}{c:Value}(h:RV Pr al w (.agg [.int .i64 x,.int .i64 y]) c):c=.agg #[.int .i64 x,.int .i64 y]:=by
 cases h with
 |data _ _ h=>
  cases h with
  |agg _ vs hl h1 hr=>
   congr 1
   apply aeP
   .rw[<-hl];rfl
   .intro i hi dv
    have xM:i<2:=by simpa using dv
    match i,xM with
    |0,_=>exact(RV.data (al:=cQ) _ _ (hr 0 ahi hi)).int_eq
    |1,_=>exact(RV.data (al:=cQ) _ _ (hr 1 ahi hi)).int_eq
def M_{b:Nat}{ks vs:List AV}{x:AV}(h:isVal x=false):rC b ks vs x.aJ=x.aJ:=by
 cases x<;>first|rfl|(cases h;done)|skip
 rename_i o es;cases o<;>rfl
def OC{P:Program}{t kt el:TypeId}(h:(P.underlying t).map (λd=>match d with|.map k e=>some (k,e)|_=>none)=some (some (kt,el))):P.underlying t=some (.map kt el):=by
 cases hi:P.underlying t with
 |none=>rw[hi]at h;cases h
 |some d=>
  rw[hi]at h
  cases d<;>simp at h
  obtain⟨rfl,rfl⟩:=h;rfl
def D5:TypeDesc->Bool
 |.struct _=>true
 |_=>false
def Et{P:Program}{t:TypeId}(h:(P.underlying t).map D5=some true):∃fs,P.underlying t=some (.struct fs):=by
 cases hi:P.underlying t with
 |none=>rw[hi]at h;cases h
 |some d=>
  rw[hi]at h
  cases d<;>first|(cases h;done)|exact⟨_,rfl⟩
def uZ(t:TypeId)(h:(prog.underlying t).map D5=some true:=by kernel_rfl):∃fs,prog.underlying t=some (.struct fs):=Et h
noncomputable def vS:ah:=ah.qb c139.qb.qb.qa.qb.qb.qb.qb
def Zo (hG:ar GI) {sA:List AV} {ps:List jY} (hl:sA.length=10) (xB:sA[1]? = some (.slice .view (ps.map dM))) (eL:∀ x∈sA,x.storable=true∧isVal x=false) (hlen:ps.length≤100000) (dL:∀ i j (hi:i < ps.length) (hj:j < ps.length),i < j→¬ ((ps[i]).l=(ps[j]).l∧(ps[i]).r=(ps[j]).r)) :
  AC prog GI 139 [.agg sA] (.ret (.agg ((sA++[cn ps]).map AV.cI))):=by
 refine AC.jF func139 rfl ntmps139 ahi λcc w=>?_
 refine dX hG c139.qa (λS' H'=>S' 1=.box 1 0/\S' 2=.box 2 0/\H' 1=some (sA.map AV.aJ)/\∃z,H' 2=some z/\z.length=11) ?_ ?_
 .simp[c139,ah.qa,bD,bp,aF,ba,aD,ev,aP.S,aP.H,au,aX,AL.start,AV.aJ,AV.cells,AV.storable,hl,cd,bw,aN]
 rintro S1 H1 ⟨s1,s2,h1,z,h2,hz⟩
 refine SW.seq (SW.mid hG (p:=1) (oh:={ dst:=some 7,op := .makeMap 203 none,type:=203,pos := "letter.go:113",after := #[],guard:=none }) (kj:=[_]) (nk:=[_,_,_]) (l2:=[2,3,4]) rfl rfl rfl rfl zk rfl (λ_ h=>h) (n9:=(c139.qb.qa.dl).take 1) (np:=(c139.qb.qa.dl).drop 2) zk zk zk zk
  (K1:=λS' H'=>S' 1=.box 1 0/\S' 2=.box 2 0/\S' 6=.agg (sA.map AV.aJ)/\H' 1=some (sA.map AV.aJ)/\H' 2=some z)
  (K2:=λo S' H'=>∃b,o=oM cc w b #[] 0/\S' 1=.box 1 0/\S' 2=.box 2 0/\S' 6=.agg (sA.map AV.aJ)/\S' 7=.val (.map (some b))/\H' 1=some (sA.map AV.aJ)/\H' 2=some z)
  (K3:=λo S' H'=>∃b,o=oM cc w b #[] 0/\S' 1=.box 1 0/\S' 2=.box 2 0/\S' 3=.box 3 0/\H' 1=some (sA.map AV.aJ)/\H' 2=some z/\H' 3=some (sA.map AV.aJ++[.val (.map (some b))])) ?_ ?_ ?_ ?_)
 .have ht:List.take 10 (sA.map AV.aJ)=sA.map AV.aJ:=ado (by simp;omega);simp[c139,ah.qa,ah.qb,ah.dl,bp,aF,ba,aD,ev,aP.S,aP.H,au,aX,cb,s1,s2,h1,h2,HR.okB,hl,iH,ht]
 .rintro w0 g S2 H2 a w2 ho R ⟨s1,s2,s6,h1,h2⟩;have R2:=R.nx (.map #[] 0);refine⟨_,_,_,au S2 7 (.val (.map (some w2.heap.size))),H2,.inl (run_makeMap rfl),R2.put 7 (.val (.map (some w2.heap.size))) _ zd (.data _ _ (.val _ rfl)) trivial,w2.heap.size,?_,by simp[au,s1],by simp[au,s2],by simp[au,s6],by simp[au],h1,h2⟩;show({ g.old with aV:=au g.old.aV w2.heap.size (some (.map #[] 0)) }:Old)=_;rw[ho];rfl
 .rintro o S2 H2 ⟨b,rfl,s1,s2,s6,s7,h1,h2⟩;refine⟨λ_ h=>h,?_⟩
  have jC:∀x∈sA.map AV.aJ,x.storable=true:=by
   intro x hx;obtain⟨y,hy,rfl⟩:=adF.1 hx;rw[AV.wz];exact(eL y hy).1
  have l8:∀c:AV,bB (bB [.slice .nil [],.slice .nil [],.int .i64 0,.int .i64 0,.int .i64 0,.int .i64 0,.int .i64 0,.slice .nil [],.int .i64 0,.int .i64 0,.map [] []] 0 (sA.map AV.aJ)) 10 [c]=sA.map AV.aJ++[c]:=by
   intro c
   have e1:bB [.slice .nil [],.slice .nil [],.int .i64 0,.int .i64 0,.int .i64 0,.int .i64 0,.int .i64 0,.slice .nil [],.int .i64 0,.int .i64 0,.map [] []] 0 (sA.map AV.aJ)=sA.map AV.aJ++[AV.map [] []]:=by
    simp[bB,hl]
   rw[e1];simp[bB,hl]
  have ac1:∀c:AV,bB [.slice .nil [],.slice .nil [],.int .i64 0,.int .i64 0,.int .i64 0,.int .i64 0,.int .i64 0,.slice .nil [],.int .i64 0,.int .i64 0,.map [] []] 0 (sA.map AV.aJ++[c])=sA.map AV.aJ++[c]:=by
   intro c;simp[bB,hl]
  have wu:(bB [AV.slice .nil [],.slice .nil [],.int .i64 0,.int .i64 0,.int .i64 0,.int .i64 0,.int .i64 0,.slice .nil [],.int .i64 0,.int .i64 0,.map [] []] 0 (sA.map AV.aJ)).length=11:=by simp[bB,hl]
  simp[c139,ah.qa,ah.qb,ah.dl,bp,aF,ba,aD,ev,aP.S,aP.H,au,aX,bI,s6,s7,AV.cells,AV.aJ,AV.storable,hl,wu,l8]
  have e3:(List.map AV.aJ sA++[AV.val (Value.map (some b))]).map AV.aJ=List.map AV.aJ sA++[AV.val (Value.map (some b))]:=by simp[iH,AV.aJ]
  simp[HR.okB,cd,bw,AV.cy,hl,iH,AV.aJ,au,h1,h2,s1,s2];simp[bB,hl]
 .rintro o S2 H2 ⟨b,rfl,s1,s2,s3,h1,h2,h3⟩;show SW prog GI 27 none (.seq (.seq _ (.block 0 (.loop _))) (.seq _ .ret)) _ _ _ _;refine SW.seq (dX hG c139.qb.qb.qa.qa (λS' H'=>S' 2=.box 2 0/\S' 3=.box 3 0/\S' 10=.slice .view (ps.map dM)/\S' 11=.int .i64 ps.length/\S' 12=.int .i64 0/\H' 2=some z/\H' 3=some (sA.map AV.aJ++[.val (.map (some b))])) ?_ ?_)
  .have E2:(sA.map AV.aJ)[1]?=some (.slice .view (ps.map dM)):=by rw[adO,xB];rfl
   simp[c139,ah.qa,ah.qb,bD,bp,aF,ba,aD,aN,ev,aP.S,aP.H,au,aX,cb,s1,s2,s3,h1,h2,h3,HR.okB,E2,AV.aJ]
  rintro S3 H3 ⟨s2,s3,bJ,bC,cK,h2,h3⟩
  refine SW.block (SW.loop (λo S' H'=>∃j es clock,j<=ps.length/\o=oM cc w b es clock/\Ent es (ps.take j)/\S' 2=.box 2 0/\S' 3=.box 3 0/\S' 10=.slice .view (ps.map dM)/\S' 11=.int .i64 ps.length/\S' 12=.int .i64 (j:Nat)/\H' 2=some z/\H' 3=some (sA.map AV.aJ++[.val (.map (some b))]))
   (λS' _=>match S' 12 with|.int _ j=>ps.length-j.toNat|_=>0) ⟨0,#[],0,ad_ _,rfl,⟨ahi,λi h=>by simp at h⟩,s2,s3,bJ,bC,cK,h2,h3⟩ ?_)
  rintro o S4 H4 ⟨j,es,clock,hj,rfl,tV,s2,s3,bJ,bC,cK,h2,h3⟩;have m12:=cK;show SW prog GI 27 none (.seq _ (.seq (.cond _ _ _) (.seq (.block 1 (.seq _ _)) _))) _ _ _ _;refine dX hG c139.qb.qb.qa.qb.qb.qb.qa (λS' H'=>S' 13=.bool (decide (j<ps.length))/\I' sA ps z b j S' H') ?_ ?_
  .simp[c139,ah.qa,ah.qb,bD,bp,aF,ba,aD,aN,ev,aP.S,aP.H,au,aX,I',s2,s3,bJ,bC,cK,h2,h3,dS]
  rintro S5 H5 ⟨dH,hF⟩
  by_cases aq:j<ps.length
  case neg=>
   refine SW.seq (SW.cond rfl false (by show S5 13=_;rw[dH];simp[aq]) (SW.exit ?_))
   have qC:j=ps.length:=zo
   subst qC;rw[aeB]at tV;obtain⟨s2,s3,bJ,bC,cK,h2,h3⟩:=hF;show SW prog GI 27 none (.seq _ .ret) _ _ _ _;refine dX hG c139.qb.qb.qb.qa (λS' H'=>S' 2=.box 2 0/\H' 2=some (sA.map AV.aJ++[.val (.map (some b))])) ?_ ?_
   .have e3:(List.map AV.aJ sA++[AV.val (Value.map (some b))]).map AV.aJ=List.map AV.aJ sA++[AV.val (Value.map (some b))]:=by simp[iH,AV.aJ]
    have ht:List.take 11 (List.map AV.aJ sA++[AV.val (Value.map (some b))])=List.map AV.aJ sA++[AV.val (Value.map (some b))]:=ado (by simp[hl]);have Mq:List.drop 11 z=[]:=aey zo;simp[c139,ah.qa,ah.qb,bD,bp,aF,ba,aD,aN,ev,aP.S,aP.H,au,aX,s2,s3,h2,h3,cb,HR.okB,hl,AV.cells,AV.storable,AV.cy,bB,bw,iH,AV.aJ,ht,hz,Mq]
   rintro S6 H6 ⟨s2,h2⟩;refine SW.ghost (K:=λo S' H'=>ep o/\o.c=cc/\S' 2=.box 2 0/\H' 2=some (sA.map AV.aJ++[cn ps])) ?_ ?_
   .intro w0 g a w' hg R
    have hk:g.old.aV b=some (.map es clock):=by rw[hg];show au (λ_=>none) b _ b=_;exact aO _ _ _
    obtain⟨g2,nH,R2⟩:=R.TX hk (ps.map ug) (ps.map po) (by simpa using tV.1.symm) (by simpa using tV.1.symm) (λi h h'=>by
     simp only[adn]at h;simp only[adz,(tV.2 i h' h).1]
     exact OZ _ _) (λi h h'=>by
     simp only[adn]at h;simp only[adz,(tV.2 i h' h).2]
     exact OZ _ _) (by rw[hg];rfl)
    refine⟨g2,_,_,R2,ep.plain (by rw[nH,hg];rfl),by rw[nH,hg];rfl,by simp[s2],?_⟩
    have hgm:(sA.map AV.aJ).map (rC b (ps.map ug) (ps.map po))=sA.map AV.aJ:=by
     rw[aeu]
     exact aeb λx hx=>M_ (eL x hx).2
    show(H6 2).map _=_;rw[h2];simp only[Option.map_some,adL,hgm,ady,adR];simp[rC,cn]
   .rintro o S7 H7 ⟨hm,hc,s2,h2⟩;obtain⟨i103,YH,ZU⟩:=iZ 205 11;obtain⟨fs,fw⟩:=uZ 205;refine SW.ret ⟨hm,hc,_,?_,rfl⟩;show cM prog 27 [.cell 2 205] S7 H7=_;have ht:List.take 11 (sA.map AV.aJ++[cn ps])=sA.map AV.aJ++[cn ps]:=ado (by simp[hl]);have l8:(cn ps).aJ=cn ps:=rfl;have OV:(cn ps).cI=cn ps:=rfl;simp[cM,dc,de,s2,h2,YH,fw,ZU,cb,ef,hl,AV.out,l8,OV,iH,oX];exact ado (by simp[hl])
  case pos=>
   refine SW.seq (SW.cond rfl true (by show S5 13=_;rw[dH];simp[aq]) (SW.skip ?_));show SW prog GI 27 none (.seq (.block 1 (.seq _ _)) _) _ _ _ _;obtain⟨s2,s3,bJ,bC,cK,h2,h3⟩:=hF;refine SW.seq (SW.block (dX hG c139.qb.qb.qa.qb.qb.qb.qb.qb.qa.qb.qa (λS' H'=>S' 5=.box 5 0/\H' 5=some (dM ps[j]).cells/\I' sA ps z b j S' H') ?_ ?_))
   .have cP:¬(j:Int)<0:=zo
    simp[c139,ah.qa,ah.qb,bD,bp,aF,ba,aD,aN,ev,aP.S,aP.H,au,aX,I',s2,s3,bJ,bC,cK,h2,h3,aq,cb,dM,AV.cells,AV.aJ,cd,HR.okB,AV.storable,bB,AV.cy,bw]
   rintro S6 H6 ⟨s5,h5,s2,s3,bJ,bC,cK,h2,h3⟩
   have YB:∀q∈ps.take j,¬(q.l=ps[j].l/\q.r=ps[j].r):=by
    intro q hq;obtain⟨i,hi,rfl⟩:=ad7 hq
    have ss:i<j:=by simp at hi;omega
    rw[afE];exact dL i j zo aq ss
   refine SW.mid hG (p:=9) (oh:={ dst:=none,op := .mapUpdate 203 (.tmp 17) (.tmp 22) (.tmp 24),type:=0,pos := "letter.go:115",after:=_,guard:=none }) (kj:=[_,_,_,_,_,_,_,_,_]) (nk:=[]) (l2:=[]) rfl rfl rfl rfl zk rfl (λ_ h=>h) (n9:=(vS.qa.qb.qb.dl).take 9) (np:=[]) zk rfl zk rfl
    (K1:=λS' H'=>S' 17=.val (.map (some b))/\S' 22=.agg [.int .i64 ps[j].l,.int .i64 ps[j].r]/\S' 24=.agg [.int .i64 ps[j].lo,.int .i64 ps[j].hi]/\I' sA ps z b j S' H')
    (K2:=λo S' H'=>o=oM cc w b (es.push { key:=.agg #[.int .i64 ps[j].l,.int .i64 ps[j].r],val:=.agg #[.int .i64 ps[j].lo,.int .i64 ps[j].hi],born:=clock }) (clock+1)/\I' sA ps z b j S' H')
    (K3:=λo S' H'=>o=oM cc w b (es.push { key:=.agg #[.int .i64 ps[j].l,.int .i64 ps[j].r],val:=.agg #[.int .i64 ps[j].lo,.int .i64 ps[j].hi],born:=clock }) (clock+1)/\I' sA ps z b j S' H') ?_ ?_ ?_ ?_
   .have abA:(List.map AV.aJ sA++[AV.val (Value.map (some b))])[10]? = some (.val (.map (some b))):=by
     rw[aex (by simp[hl])];simp[hl]
    have acb:List.drop 10 (List.map AV.aJ sA++[AV.val (Value.map (some b))])=[AV.val (Value.map (some b))]:=by
     rw[afa (by simp[hl]),aey (by simp[hl])];rfl
    simp[c139,vS,ah.qa,ah.qb,ah.dl,bp,aF,ba,aD,ev,aP.S,aP.H,au,aX,I',s2,s3,s5,bJ,bC,cK,h2,h3,h5,cb,dM,AV.cells,AV.aJ,HR.okB,AV.storable,bI,bB,abA,acb]
   .rintro w0 g S7 H7 a w7 hg R ⟨kT,ky,rG,hF⟩;have t17:=R.slot 17 zd (λh=>h);rw[kT]at t17;have t17:=t17.jo;have t22:=R.slot 22 zd (λh=>h);rw[ky]at t22;have t22:=I9 t22;have t24:=R.slot 24 zd (λh=>h);rw[rG]at t24;have t24:=I9 t24
    have hk:g.old.aV b=some (.map es clock):=by rw[hg];show au (λ_=>none) b _ b=_;exact aO _ _ _
    have hb:=(R.kept b _ hk).2.1;have fq:=OC (P:=prog) (t:=203) (kt:=226) (el:=26) zk;obtain⟨fs,fw⟩:=uZ 226;have ER:(ps.take j).length=es.size:=tV.1.symm;refine⟨undef,_,_,S7,H7,.inr ⟨KZ (Pr:=λ_ _=>False) (ks:=(ps.take j).map ug) (vs:=(ps.take j).map po) (key:=[ps[j].l,ps[j].r]) rfl fq fw (k:=2) zk t17 t22 t24 hb rfl (by simpa using ER) (by simpa using ER) (λi h h'=>?_) (λi h h'=>?_) (A5 _ _ _ YB),rfl⟩,R.nO hk _,?_,hF⟩
    .simp only[adn]at h;simp only[adz,(tV.2 i h' h).1];exact OZ _ _
    .simp only[adn]at h;simp only[adz,(tV.2 i h' h).2];exact OZ _ _
    .show({ g.old with aV:=au g.old.aV b _ }:Old)=_;rw[hg];simp only[oM,Old.mk.injEq,ag8,agP]
     funext c
     by_cases hc:c=b
     .subst hc;simp[au,gm]
     .simp[au,hc]
   .rintro o S7 H7 h;exact⟨by rw[h.1];exact λ_ h=>h,h⟩
   .rintro o S7 H7 ⟨rfl,s2,s3,bJ,bC,cK,h2,h3⟩;show SW prog GI 27 none _ _ _ _ _;refine SW.fN hG db zk (λ_ _ h=>h) (ac:=ah.qb vS) zk ?_;have pW:IntKind.i64.wrap ((j:Int)+1)=j+1:=aT zo
    have Zw:Ent (es.push { key:=.agg #[.int .i64 ps[j].l,.int .i64 ps[j].r],val:=.agg #[.int .i64 ps[j].lo,.int .i64 ps[j].hi],born:=clock }) (ps.take (j+1)):=by
     have hts:ps.take (j+1)=ps.take j++[ps[j]]:=by rw[adp aq]
     rw[hts];refine⟨by simp[tV.1];omega,λi h h'=>?_⟩
     by_cases hi:i<es.size
     .have xM:i<(ps.take j).length:=by rw[<-tV.1];exact hi
      have:=tV.2 i hi xM;rw[Array.getElem_push_lt hi,adZ xM];exact this
     .have IK:i=es.size:=by simp at h;omega
      subst IK
      have xM:(ps.take j).length<=es.size:=by rw[<-tV.1];exact adl _
      rw[Array.getElem_push_eq,aep xM];simp
    simp[c139,vS,ah.qa,ah.qb,bD,bp,aF,ba,aD,ev,aP.S,aP.H,au,aX,s2,s3,bJ,bC,cK,h2,h3,dS,AV.aJ,pW,eW.bD,thenS];refine⟨⟨j+1,aq,_,⟨_,rfl⟩,Zw,zo⟩,?_⟩;rw[m12];show ps.length-(j+1)<ps.length-(j:Int).toNat;rw[Int.toNat_natCast];omega
structure Word where
 aU:List Int
 bU:List Int
 free:Bool
def cD(w:Word):AV:=.agg [vI w.aU,vI w.bU,.bool w.free]
structure aa8 where
 Vc:List AV
 cut:Bool
def Hp(l:aa8):AV:=.agg [.slice .view l.Vc,.bool l.cut]
def ML(GI:World->Prop):Prop:=∀w,GI w->∃m,w.cell? ⟨1,0,none⟩=some (.int .i64 m)
def nc{w0:World}{n:Nat}{g:Gh}{S:an}{H:ao}{a:Act}{w:World}(R:Rel prog w0 n bL g S H a w){t i:Nat}(ht:t<n)(hs:S t=.box i 0):∃b,g.al i=some b/\a.tmps.getD t undef=.pointer (some ⟨b,0,none⟩):=by
 have h:=R.slot t ht id;rw[hs]at h;generalize a.tmps.getD t undef=c at h
 cases h with
 |data _ _ h=>cases h
 |box _ _ b h=>exact⟨b,h,rfl⟩
def vC{w0:World}{n:Nat}{g:Gh}{S:an}{H:ao}{a:Act}{w:World}(R:Rel prog w0 n bL g S H a w){t:Nat}{k:Int}(ht:t<n)(hs:S t=.int .i64 k):a.tmps.getD t undef=.int .i64 k:=by
 have h:=R.slot t ht id;rw[hs]at h;exact h.int_eq
def XZ{Pr:Nat->Nat->Prop}{al:Nat->Option Nat}{w:World}{x y:Int}{c:Value}(h:RV Pr al w (.agg [.int .i64 x,.int .i64 y]) c):c=.agg #[.int .i64 x,.int .i64 y]:=by
 cases h with
 |data _ _ h=>
  cases h with
  |agg cs vs hl og hr=>
   have hs:vs.size=2:=by rw[<-hl];rfl
   have h0:=(RV.data (al:=cQ) _ _ (hr 0 ahi zo)).int_eq;have h1:=(RV.data (al:=cQ) _ _ (hr 1 ahi zo)).int_eq
   congr 1
   apply aeP
   .simpa using hs
   .intro i h2 h3
    match i,h3 with
    |0,_=>exact h0
    |1,_=>exact h1
end Go.Proofs.Tryz
namespace Go.AL
def aZ(c:UInt8):List UInt8->List (List UInt8)
 |[]=>[[]]
 |b::l=>if b=c then[]::aZ c l else match aZ c l with
  |[]=>[[b]]
  |p::ps=>(b::p)::ps
def sI(c:UInt8)(l:List UInt8):aZ c l≠[]:=by
 cases l with
 |nil=>simp[aZ]
 |cons b l=>
  unfold aZ;split
  .simp
  .split<;>simp
def I0{b c:UInt8}(h:b≠c)(k:Nat)(l:List UInt8):Lib.splitK [c] 0 k (b::l)=match Lib.splitK [c] 0 k l with|[]=>[[b]]|p::ps=>(b::p)::ps:=by
 cases k with
 |zero=>rfl
 |succ k=>
  have hp:[c].isPrefixOf (b::l)=false:=by simp[List.isPrefixOf];exact λe=>(h e.symm).elim
  unfold Lib.splitK
  have hi:Lib.index (b::l) [c]=if Lib.index l [c]== -1 then-1 else Lib.index l [c]+1:=by
   rw[Lib.index];simp[hp]
  rw[hi];have hg:=Lib.index_ge l [c]
  by_cases h1:Lib.index l [c]= -1
  .simp[h1]
  .have h2:(Lib.index l [c]== -1)=false:=by simpa using h1
   have h3:(Lib.index l [c]+1== -1)=false:=by simp;omega
   simp only[h2,ads,adH,h3]
   have e:(Lib.index l [c]+1).toNat=(Lib.index l [c]).toNat+1:=zo
   rw[e];simp[Nat.add_right_comm]
def zW(c:UInt8):∀l:List UInt8,Lib.splitK [c] 0 (l.count c) l=aZ c l
 |[]=>rfl
 |b::l=>by
  by_cases h:b=c
  .subst h
   have hp:[b].isPrefixOf (b::l)=true:=by simp[List.isPrefixOf]
   have hi:Lib.index (b::l) [b]=0:=by rw[Lib.index];simp[hp]
   rw[List.count_cons_self,Lib.splitK,hi];simp[aZ,zW b l]
  .rw[List.count_cons_of_ne h,I0 h,zW c l,aZ,if_neg h]
def Jk{α:Type}(d:AV->Option α):List AV->Option (List α)
 |[]=>some []
 |x::l=>match d x with
  |some a=>match Jk d l with
   |some r=>some (a::r)
   |none=>none
  |none=>none
def abV:AV->Option Int
 |.int .i64 n=>some n
 |_=>none
def Vm:AV->Option (List Int)
 |.slice .view es=>Jk abV es
 |_=>none
section
variable{P:Program}{GI:World->Prop}
def kO(P:Program)(GI:World->Prop)(rest:List bH)(K:an->ao->Prop)(Qp:AV->Prop)(S:an)(dst:Option Nat)(H:ao)(v:AV):Prop:=bp P GI rest K Qp (aX S dst v) H
def kD(P:Program)(GI:World->Prop)(rest:List bH)(K:an->ao->Prop)(S:an)(dst:Option Nat)(H:ao)(v:AV):Prop:=cU P GI rest K (aX S dst v) H
def iS(P:Program)(GI:World->Prop)(y:ah)(Q:dT->an->ao->Prop)(e:dT)(S:an)(H:ao):Prop:=dk (bD P GI y Q) Q e S H
def jN(Q:dT->an->ao->Prop)(S:an)(H:ao)(v:AV):Prop:=Q (.panic v) S H
def eQ(K Qp S H):bp P GI [] K Qp S H=K S H:=(Eq.refl _).trans (Eq.refl _)
def d_(K S H):cU P GI [] K S H=K S H:=(Eq.refl _).trans (Eq.refl _)
def ec (f args d g rest K Qp S H):bp P GI (⟨d,g,.call f args⟩::rest) K Qp S H=(match aF S g with
  |some true=>lB P GI f (args.map λy=>fz H (ev S y)) (args.any λy=>cW (ev S y)) (kO P GI rest K Qp S d H) Qp
  |some false=>bp P GI rest K Qp (aX S d cz) H
  |none=>False):=(Eq.refl _).trans (Eq.refl _)
def dE (f args d g rest K Qp S H):bp P GI (⟨d,g,.gr f args⟩::rest) K Qp S H=(match aF S g with
  |some true=>(match ev S f with
   |.func (.func k) first cap=>lB P GI k ((first++args.map (ev S)++cap).map (fz H)) ((first++args.map (ev S)++cap).any cW) (kO P GI rest K Qp S d H) Qp
   |_=>False)
  |some false=>bp P GI rest K Qp (aX S d cz) H
  |none=>False):=(Eq.refl _).trans (Eq.refl _)
abbrev OE(P:Program)(GI:World->Prop)(op:eC):Prop:=∀d g rest K Qp S H,bp P GI (⟨d,g,op⟩::rest) K Qp S H=(match aF S g with|some true=>(match aD S H op with|some e=>bp P GI rest K Qp (e.S S d) (e.H H)|none=>False)|some false=>bp P GI rest K Qp (aX S d cz) H|none=>False)
abbrev DE(P:Program)(GI:World->Prop)(op:eC):Prop:=∀d g rest K S H,cU P GI (⟨d,g,op⟩::rest) K S H=(match aF S g with|some true=>(match aD S H op with|some e=>cU P GI rest K (e.S S d) (e.H H)|none=>False)|some false=>cU P GI rest K (aX S d cz) H|none=>False)
def dJ(t zero d rest K Qp S H):bp P GI (⟨some d,none,.alloc t zero⟩::rest) K Qp S H=bp P GI rest K Qp (au (λt=>cd d (S t)) d (.box d 0)) (au H d (some zero)):=(Eq.refl _).trans (Eq.refl _)
def eP(t size x d rest K Qp S H):bp P GI (⟨some d,none,.box t size x⟩::rest) K Qp S H=((ev S x).cells.length=size/\(ev S x).storable=true/\bp P GI rest K Qp (au (λt=>cd d (S t)) d (.box d 0)) (au H d (some ((ev S x).cells.map AV.aJ)))):=(Eq.refl _).trans (Eq.refl _)
def dF (f args d g rest K S H):cU P GI (⟨d,g,.call f args⟩::rest) K S H=(match aF S g with
  |some true=>(args.any λy=>cW (ev S y))=false/\lB P GI f (args.map λy=>fz H (ev S y)) (args.any λy=>cW (ev S y)) (kD P GI rest K S d H) (λ_=>False)
  |some false=>cU P GI rest K (aX S d cz) H
  |none=>False):=(Eq.refl _).trans (Eq.refl _)
def df(t zero d rest K S H):cU P GI (⟨some d,none,.alloc t zero⟩::rest) K S H=cU P GI rest K (au S d (.box d 0)) H:=(Eq.refl _).trans (Eq.refl _)
def ik(rest K Qp S d H v):kO P GI rest K Qp S d H v=bp P GI rest K Qp (aX S d v) H:=(Eq.refl _).trans (Eq.refl _)
def ig(rest K S d H v):kD P GI rest K S d H v=cU P GI rest K (aX S d v) H:=(Eq.refl _).trans (Eq.refl _)
def fB :
  (∀x0 x1,OE P GI (.mv x0 x1))/\
  (∀x0 x1 x2,OE P GI (.pick x0 x1 x2))/\
  (∀x0 x1,OE P GI (.build x0 x1))/\
  (∀x0 x1 x2 x3,OE P GI (.buildSlice x0 x1 x2 x3))/\
  (∀x0 x1 x2 x3,OE P GI (.load x0 x1 x2 x3))/\
  (∀x0 x1,OE P GI (.loadT x0 x1))/\
  (∀x0 x1 x2 x3,OE P GI (.store x0 x1 x2 x3))/\
  (∀x0 x1 x2,OE P GI (.bin x0 x1 x2))/\
  (∀x0 x1 x2,OE P GI (.Eo x0 x1 x2))/\
  (∀x0 x1 x2 x3,OE P GI (.eqs x0 x1 x2 x3))/\
  (∀x0 x1 x2 x3 x4,OE P GI (.mK x0 x1 x2 x3 x4))/\
  (∀x0,OE P GI (.yJ x0))/\
  (∀x0,OE P GI (.oQ x0))/\
  (∀x0 x1 x2,OE P GI (.oP x0 x1 x2))/\
  (∀x0 x1 x2 x3,OE P GI (.lookup x0 x1 x2 x3))/\
  (∀x0,OE P GI (.not x0))/\
  (∀x0 x1,OE P GI (.conv x0 x1))/\
  (∀x0 x1,OE P GI (.iface x0 x1))/\
  (∀x0 x1 x2,OE P GI (.EK x0 x1 x2))/\
  (∀x0 x1 x2,OE P GI (.oN x0 x1 x2))/\
  (∀x0 x1 x2 x3,OE P GI (.nC x0 x1 x2 x3))/\
  (∀x0 x1,OE P GI (.pP x0 x1))/\
  (∀x0 x1,OE P GI (.fieldAddr x0 x1))/\
  (∀x0 x1 x2,OE P GI (.indexAddr x0 x1 x2))/\
  (∀x0 x1,OE P GI (.oT x0 x1))/\
  (∀x0 x1,OE P GI (.extract x0 x1))/\
  (∀x0,OE P GI (.yV x0))/\
  (∀x0,OE P GI (.kM x0))/\
  (∀x0 x1,OE P GI (.isNil x0 x1))/\
  (∀x0,OE P GI (.empty x0))/\
  (∀x0 x1 x2 x3 x4 x5,OE P GI (.append x0 x1 x2 x3 x4 x5))/\
  (∀x0 x1,OE P GI (.max x0 x1))/\
  (∀x0 x1,OE P GI (.min x0 x1))/\
  (∀x0 x1 x2,OE P GI (.assert x0 x1 x2)):=by
 refine⟨?_,?_,?_,?_,?_,?_,?_,?_,?_,?_,?_,?_,?_,?_,?_,?_,?_,?_,?_,?_,?_,?_,?_,?_,?_,?_,?_,?_,?_,?_,?_,?_,?_,?_⟩<;>intros<;>intro d<;>intros<;>rfl
def eR :
  (∀x0 x1,DE P GI (.mv x0 x1))/\
  (∀x0 x1 x2,DE P GI (.pick x0 x1 x2))/\
  (∀x0 x1,DE P GI (.build x0 x1))/\
  (∀x0 x1 x2 x3,DE P GI (.buildSlice x0 x1 x2 x3))/\
  (∀x0 x1 x2 x3,DE P GI (.load x0 x1 x2 x3))/\
  (∀x0 x1,DE P GI (.loadT x0 x1))/\
  (∀x0 x1 x2 x3,DE P GI (.store x0 x1 x2 x3))/\
  (∀x0 x1 x2,DE P GI (.bin x0 x1 x2))/\
  (∀x0 x1 x2,DE P GI (.Eo x0 x1 x2))/\
  (∀x0 x1 x2 x3,DE P GI (.eqs x0 x1 x2 x3))/\
  (∀x0 x1 x2 x3 x4,DE P GI (.mK x0 x1 x2 x3 x4))/\
  (∀x0,DE P GI (.yJ x0))/\
  (∀x0,DE P GI (.oQ x0))/\
  (∀x0 x1 x2,DE P GI (.oP x0 x1 x2))/\
  (∀x0 x1 x2 x3,DE P GI (.lookup x0 x1 x2 x3))/\
  (∀x0,DE P GI (.not x0))/\
  (∀x0 x1,DE P GI (.conv x0 x1))/\
  (∀x0 x1,DE P GI (.iface x0 x1))/\
  (∀x0 x1 x2,DE P GI (.EK x0 x1 x2))/\
  (∀x0 x1 x2,DE P GI (.oN x0 x1 x2))/\
  (∀x0 x1 x2 x3,DE P GI (.nC x0 x1 x2 x3))/\
  (∀x0 x1,DE P GI (.pP x0 x1))/\
  (∀x0 x1,DE P GI (.fieldAddr x0 x1))/\
  (∀x0 x1 x2,DE P GI (.indexAddr x0 x1 x2))/\
  (∀x0 x1,DE P GI (.oT x0 x1))/\
  (∀x0 x1,DE P GI (.extract x0 x1))/\
  (∀x0,DE P GI (.yV x0))/\
  (∀x0,DE P GI (.kM x0))/\
  (∀x0 x1,DE P GI (.isNil x0 x1))/\
  (∀x0,DE P GI (.empty x0))/\
  (∀x0 x1 x2 x3 x4 x5,DE P GI (.append x0 x1 x2 x3 x4 x5))/\
  (∀x0 x1,DE P GI (.max x0 x1))/\
  (∀x0 x1,DE P GI (.min x0 x1))/\
  (∀x0 x1 x2,DE P GI (.assert x0 x1 x2)):=by
 refine⟨?_,?_,?_,?_,?_,?_,?_,?_,?_,?_,?_,?_,?_,?_,?_,?_,?_,?_,?_,?_,?_,?_,?_,?_,?_,?_,?_,?_,?_,?_,?_,?_,?_,?_⟩<;>intros<;>intro d<;>intros<;>rfl
def eD :
  (∀Q S H,bD P GI .skip Q S H=Q .normal S H)/\
  (∀l Q S H,bD P GI (.ops l) Q S H=bp P GI l (Q .normal) (jN Q S H) S H)/\
  (∀l Q S H,bD P GI (.cU l) Q S H=cU P GI l (Q .normal) (eM l S) (dV l H))/\
  (∀x y Q S H,bD P GI (.seq x y) Q S H=bD P GI x (iS P GI y Q) S H)/\
  (∀c x y Q S H,bD P GI (.cond c x y) Q S H=(match ev S c with
   |.bool true=>bD P GI x Q S H
   |.bool false=>bD P GI y Q S H
   |.l4=>bD P GI x Q S H/\bD P GI y Q S H
   |_=>False))/\
  (∀id c Q S H,bD P GI (.block id c) Q S H=bD P GI c (dP id Q) S H)/\
  (∀id Q S H,bD P GI (.exit id) Q S H=Q (.exit id) S H)/\
  (∀Q S H,bD P GI .ret Q S H=Q .ret S H)/\
  (∀y Q S H,iS P GI y Q .normal S H=bD P GI y Q S H)/\
  (∀y Q id S H,iS P GI y Q (.exit id) S H=Q (.exit id) S H)/\
  (∀y Q S H,iS P GI y Q .ret S H=Q .ret S H)/\
  (∀y Q v S H,iS P GI y Q (.panic v) S H=Q (.panic v) S H):=by
 refine⟨?_,?_,?_,?_,?_,?_,?_,?_,?_,?_,?_,?_⟩<;>intros<;>rfl
def fG :
  (∀id Q S H,dP id Q .normal S H=Q .normal S H)/\
  (∀id j Q S H,dP id Q (.exit j) S H=if j=id then Q .normal S H else Q (.exit j) S H)/\
  (∀id Q S H,dP id Q .ret S H=Q .ret S H)/\
  (∀id Q v S H,dP id Q (.panic v) S H=Q (.panic v) S H)/\
  (∀K Q S H,dk K Q .normal S H=K S H)/\
  (∀K Q id S H,dk K Q (.exit id) S H=Q (.exit id) S H)/\
  (∀K Q S H,dk K Q .ret S H=Q .ret S H)/\
  (∀K Q v S H,dk K Q (.panic v) S H=Q (.panic v) S H)/\
  (∀K S H,aN K .normal S H=K S H)/\
  (∀K id S H,aN K (.exit id) S H=False)/\
  (∀K S H,aN K .ret S H=False)/\
  (∀K v S H,aN K (.panic v) S H=False)/\
  (∀Q S H v,jN Q S H v=Q (.panic v) S H)/\
  (∀v K Qp,eN (.ret v) K Qp=K v)/\
  (∀v K Qp,eN (.panic v) K Qp=Qp v):=by
 refine⟨?_,?_,?_,?_,?_,?_,?_,?_,?_,?_,?_,?_,?_,?_,?_⟩<;>intros<;>rfl
end
section
variable{P:Program}{GI:World->Prop}
def Bk{f:Nat}{args:List AV}{b:Bool}{K K':AV->Prop}{Qp Kt:AV->Prop}(hK:∀v,K v->K' v)(hQ:∀v,Qp v->Kt v)(h:lB P GI f args b K Qp):lB P GI f args b K' Kt:=by
 obtain⟨out,h1,h2,h3,h4⟩:=h;refine⟨out,h1,h2,h3,?_⟩
 cases out with
 |ret v=>exact hK _ h4
 |panic v=>exact hQ _ h4
def oW{op:eC}{dst:Option Nat}{K K':an->ao->Prop}{Qp Kt:AV->Prop}(hK:∀S H,K S H->K' S H)(hQ:∀v,Qp v->Kt v){S:an}{H:ao}(h:ba P GI op dst K Qp S H):ba P GI op dst K' Kt S H:=by
 by_cases hc:op.calm=true
 .rw[BB hc]at h⊢;split at h
  .exact hK _ _ h
  .exact h
 .cases op<;>first|(exfalso;exact hc rfl)|skip
  case alloc=>simp only[ba]at h⊢;split at h<;>first|exact hK _ _ h|exact h
  case box=>simp only[ba]at h⊢;split at h<;>first|exact⟨h.1,h.2.1,hK _ _ h.2.2⟩|exact h
  case call=>exact Bk (λv=>hK _ _) hQ h
  case gr=>simp only[ba]at h⊢;split at h<;>first|exact Bk (λv=>hK _ _) hQ h|exact h
  case panic=>simp only[ba]at h⊢;split at h<;>first|exact hQ _ h|exact h
  case other=>exact h
def tC{K K':an->ao->Prop}{Qp Kt:AV->Prop}(hK:∀S H,K S H->K' S H)(hQ:∀v,Qp v->Kt v):∀(l:List bH)(S:an)(H:ao),bp P GI l K Qp S H->bp P GI l K' Kt S H
 |[],S,H,h=>hK S H h
 |o::rest,S,H,h=>by
  simp only[bp]at h⊢;split at h
  .exact oW (λS H=>tC hK hQ rest S H) hQ h
  .exact tC hK hQ rest _ _ h
  .exact h
def Kv{op:eC}{dst:Option Nat}{K K':an->ao->Prop}(hK:∀S H,K S H->K' S H){S:an}{H:ao}(h:jD P GI op dst K S H):jD P GI op dst K' S H:=by
 cases op
 case alloc=>simp only[jD]at h⊢;split at h<;>first|exact hK _ _ h|exact h
 case call=>exact⟨h.1,oW hK (λ_ h=>h) h.2⟩
 case gr=>exact⟨h.1,oW hK (λ_ h=>h) h.2⟩
 case box=>exact h.elim
 case panic=>exact h.elim
 case other=>exact h.elim
 all_goals
  simp only[jD]at h⊢;exact oW hK (λ_ h=>h) h
def qy{K K':an->ao->Prop}(hK:∀S H,K S H->K' S H):∀(l:List bH)(S:an)(H:ao),cU P GI l K S H->cU P GI l K' S H
 |[],S,H,h=>hK S H h
 |o::rest,S,H,h=>by
  simp only[cU]at h⊢;split at h
  .exact Kv (λS H=>qy hK rest S H) h
  .exact qy hK rest _ _ h
  .exact h
def pf{K K':an->ao->Prop}{Q Q':dT->an->ao->Prop}(hK:∀S H,K S H->K' S H)(h:∀e S H,Q e S H->Q' e S H)(e:dT)(S:an)(H:ao)(hq:dk K Q e S H):dk K' Q' e S H:=by
 cases e with
 |normal=>exact hK S H hq
 |exit id=>exact h _ S H hq
 |ret=>exact h _ S H hq
 |panic v=>exact h _ S H hq
def gu:∀(c:ah){Q Q':dT->an->ao->Prop}(_:∀e S H,Q e S H->Q' e S H){S:an}{H:ao},bD P GI c Q S H->bD P GI c Q' S H
 |.skip,_,_,h,_,_,hq=>h _ _ _ hq
 |.ops l,_,_,h,_,_,hq=>tC (λS H=>h _ S H) (λv=>h _ _ _) l _ _ hq
 |.cU l,_,_,h,_,_,hq=>qy (λS H=>h _ S H) l _ _ hq
 |.seq x y,_,_,h,_,_,hq=>gu x (pf (λ_ _=>gu y h) h) hq
 |.cond c x y,_,_,h,S,H,hq=>by
  simp only[bD]at hq⊢;split at hq
  .exact gu x h hq
  .exact gu y h hq
  .exact⟨gu x h hq.1,gu y h hq.2⟩
  .exact hq
 |.block id c,Q,Q',h,_,_,hq=>gu c (fun e S H hb=>by
   cases e with
   |normal=>exact h _ S H hb
   |exit j=>
    by_cases hj:j=id
    .simp only[dP,if_pos hj]at hb⊢;exact h _ S H hb
    .simp only[dP,if_neg hj]at hb⊢;exact h _ S H hb
   |ret=>exact h _ S H hb
   |panic v=>exact h _ S H hb) hq
 |.loop c,_,_,h,_,_,⟨I,μ,h0,hi⟩=>⟨I,μ,h0,λS H hI=>gu c (pf (λ_ _ h=>h) h) (hi S H hI)⟩
 |.exit id,_,_,h,_,_,hq=>h _ _ _ hq
 |.ret,_,_,h,_,_,hq=>h _ _ _ hq
 |.bad,_,_,_,_,_,hq=>hq
def aK{x y:ah}{Q:dT->an->ao->Prop}{S:an}{H:ao}(K:an->ao->Prop)(hx:bD P GI x (aN K) S H)(hy:∀S' H',K S' H'->bD P GI y Q S' H'):bD P GI (.seq x y) Q S H:=by
 refine gu x (λe S H h=>?_) hx
 cases e with
 |normal=>exact hy S H h
 |exit id=>exact h.elim
 |ret=>exact h.elim
 |panic v=>exact h.elim
def G0{c:cT}{y z:ah}{Q:dT->an->ao->Prop}{S:an}{H:ao}(h:ev S c=.bool true)(hy:bD P GI y Q S H):bD P GI (.seq (.cond c .skip z) y) Q S H:=by
 simp only[bD,h];exact hy
def SH{c:cT}{y z:ah}{Q:dT->an->ao->Prop}{S:an}{H:ao}(h:ev S c=.bool false)(hy:bD P GI y Q S H):bD P GI (.seq (.cond c z .skip) y) Q S H:=by
 simp only[bD,h];exact hy
def IT{id:Nat}{c y:ah}{Q:dT->an->ao->Prop}{S:an}{H:ao}(h:bD P GI c (dP id (iS P GI y Q)) S H):bD P GI (.seq (.block id c) y) Q S H:=h
def Ff{x y z:ah}{Q:dT->an->ao->Prop}{S:an}{H:ao}(K:an->ao->Prop)(hx:bD P GI x (aN K) S H)(hy:∀S' H',K S' H'->bD P GI (.seq y z) Q S' H'):bD P GI (.seq (.seq x y) z) Q S H:=by
 refine gu x (λe S H h=>?_) hx
 cases e with
 |normal=>
  refine gu y (λe S H h=>?_) (hy S H h)
  cases e<;>exact h
 |exit id=>exact h.elim
 |ret=>exact h.elim
 |panic v=>exact h.elim
def bu {c:ah} {Q:dT→an→ao→Prop} {S:an} {H:ao} (t n:Nat) (I:Nat→an→ao→Prop) (TR:∀ i S H,I i S H→S t = .int .i64 (i:Nat)) (h0:I 0 S H)
  (hs:∀i,i<=n->∀S H,I i S H->bD P GI c (dk (λS' H'=>i<n/\I (i+1) S' H') Q) S H):bD P GI (.loop c) Q S H:=by
 refine⟨λS H=>∃i,i<=n/\I i S H,λS _=>match S t with|.int _ k=>n-k.toNat|_=>0,⟨0,ad_ _,h0⟩,?_⟩;rintro S H ⟨i,hi,hI⟩;refine gu c (pf (λS' H' h=>?_) (λ_ _ _ h=>h)) (hs i hi S H hI);refine⟨⟨i+1,h.1,h.2⟩,?_⟩;have e1:=TR _ _ _ hI;have e2:=TR _ _ _ h.2;simp only[e1,e2,Int.toNat_natCast];have:=h.1;omega
end
def firstT{α:Type}(p:α->Bool)(l:List α):Int:=if l.any p then(l.findIdx p:Nat)else-1
def mQ {α:Type} {p:α→Bool} {l:List α} {i:Nat} (hi:i < l.length) (hp:p l[i]=true) (hb:∀ j (hj:j < l.length),j < i→p l[j]=false):firstT p l=(i:Nat):=by
  unfold firstT;rw[if_pos (aeK.2 ⟨l[i],adi hi,hp⟩),(List.findIdx_eq hi).2 ⟨hp,λj fD=>hb j zo fD⟩]
def kG {α:Type} {p:α→Bool} {l:List α} (hb:∀ j (hj:j < l.length),p l[j]=false):firstT p l = -1:=by
  unfold firstT;rw[if_neg];intro h;obtain⟨x,hx,hp⟩:=aeK.1 h;obtain⟨j,hj,rfl⟩:=ad7 hx;rw[hb j hj]at hp;cases hp
def nh {α:Type} {p:α→Bool} {l:List α}:decide (0≤firstT p l)=l.any p:=by
  unfold firstT
  cases h:l.any p<;>simp
def nQ{α:Type}(p:α->Bool)(lt:α->α->Bool)(l:List α):Bool:=l.all p&&(List.range (l.length-1)).all λi=>match l[i]?,l[i+1]? with|some a,some b=>lt a b|_,_=>true
def rq{α:Type}{p:α->Bool}{lt:α->α->Bool}{l:List α}{i:Nat}(hi:i<l.length)(hp:p l[i]=false):nQ p lt l=false:=by
 unfold nQ;rw[agd];exact .inl (agE.2 ⟨_,adi hi,by simp[hp]⟩)
def pR{α:Type}{p:α->Bool}{lt:α->α->Bool}{l:List α}{i:Nat}(hi:i+1<l.length)(hp:lt (l[i]' zo) l[i+1]=false):nQ p lt l=false:=by
 unfold nQ;rw[agd];refine .inr (agE.2 ⟨i,adQ.2 zo,?_⟩);simp[hi,show i<l.length by omega,hp]
def sP{α:Type}{p:α->Bool}{lt:α->α->Bool}{l:List α}(h1:∀j (hj:j<l.length),p l[j]=true)(h2:∀j (hj:j+1<l.length),lt (l[j]' zo) l[j+1]=true):nQ p lt l=true:=by
 unfold nQ;rw[adk]
 constructor
 .rw[adw];intro x hx;obtain⟨j,hj,rfl⟩:=ad7 hx;exact h1 j hj
 .rw[adw];intro j hj;rw[adQ]at hj;simp[show j<l.length by omega,show j+1<l.length by omega,h2 j zo]
def yW{α:Type}{p:α->Bool}{l:List α}(h:∀j (hj:j<l.length),p l[j]=true):l.all p=true:=by
 rw[adw];intro x hx;obtain⟨j,hj,rfl⟩:=ad7 hx;exact h j hj
def vr{α:Type}{p:α->Bool}{l:List α}{i:Nat}(hi:i<l.length)(hp:p l[i]=false):l.all p=false:=agE.2 ⟨_,adi hi,by simp[hp]⟩
def sS{α:Type}(p:α->Bool)(l:List α):(!(l.any λx=>!p x))=l.all p:=by
 induction l with
 |nil=>rfl
 |cons a l ih=>simp[List.any_cons,List.all_cons,<-ih]
def ox{α:Type}{p:α->Bool}{l:List α}{i:Nat}(hi:i<l.length)(hb:∀j (hj:j<l.length),j<i->p l[j]=true)(hp:p l[i]=true):∀j (hj:j<l.length),j<i+1->p l[j]=true:=by
 intro j hj fD
 by_cases e:j=i
 .subst e;exact hp
 .exact hb j hj zo
def z7{α:Type}{lt:α->α->Bool}{l:List α}{k:Nat}(hi:k+1<l.length)(hb:∀j (hj:j+1<l.length),j+1<k+1->lt (l[j]' zo) l[j+1]=true)(hp:lt (l[k]' zo) l[k+1]=true):∀j (hj:j+1<l.length),j+1<k+1+1->lt (l[j]' zo) l[j+1]=true:=by
 intro j hj fD
 by_cases e:j=k
 .subst e;exact hp
 .exact hb j hj zo
section
variable{P:Program}{GI:World->Prop}
end
def AC.nz{P:Program}{GI:World->Prop}{f:Nat}{args:List AV}{o:Ow}{es:List AV}(h:AC P GI f args (.ret (.slice o es))):AC P GI f args (.ret (.slice .view es)):=by
 intro w old bP h1 h2 h3;refine(h w old bP h1 h2 h3).mono ?_;rintro e w' ⟨hb,hi,h0,c,rfl,hv,_⟩;refine⟨hb,hi,h0,c,rfl,?_,trivial⟩
 cases hv with
 |data _ _ h=>exact .data _ _ (Go.Proofs.Tryz.RD.Me h)
def qF(l:List Int):aG 1 (ints l)=true:=by simp[aG,ints,AV.storable,AV.cells]
def grown(l:List Int):AV:=.slice (if l.isEmpty then .nil else .own 3) (ints l)
def fQ{α:Type}{p:α->Bool}{lt:α->α->Bool}{l:List α}:nQ p lt l=true↔(∀x∈l,p x=true)/\∀j (hj:j+1<l.length),lt (l[j]' zo) l[j+1]=true:=by
 unfold nQ;rw[adk,adw,adw]
 constructor
 .rintro⟨h1,h2⟩;refine⟨h1,λj hj=>?_⟩;have:=h2 j (adQ.2 zo);simpa[show j<l.length by omega,hj]using this
 .rintro⟨h1,h2⟩;refine⟨h1,λj hj=>?_⟩;rw[adQ]at hj;have:=h2 j zo;simpa[show j<l.length by omega,show j+1<l.length by omega]using this
def OW{l:List Int}(h:∀j (hj:j+1<l.length),l[j]<l[j+1]):l.Pairwise λa b=>a<b:=by
 rw[ae2];intro i j hi hj ss
 obtain⟨d,rfl⟩:∃d,j=i+1+d:=⟨j-i-1,zo⟩
 clear ss
 induction d with
 |zero=>exact h i hj
 |succ d ih=>
  have h1:=ih zo;have h2:=h (i+1+d) hj;exact Int.lt_trans h1 h2
section
variable{P:Program}{GI:World->Prop}
def Mt {c:ah} {Q:dT→an→ao→Prop} {S:an} {H:ao} (t n:Nat) (I:Nat→an→ao→Prop) (TR:∀ i S H,I i S H→S t = .int .i64 ((i:Nat) - 1)) (h0:I n S H)
  (hs:∀i,i<=n->∀S H,I i S H->bD P GI c (dk (λS' H'=>0<i/\I (i-1) S' H') Q) S H):bD P GI (.loop c) Q S H:=by
 refine⟨λS H=>∃i,i<=n/\I i S H,λS _=>match S t with|.int _ k=>(k+1).toNat|_=>0,⟨n,adl _,h0⟩,?_⟩;rintro S H ⟨i,hi,hI⟩;refine gu c (pf (λS' H' h=>?_) (λ_ _ _ h=>h)) (hs i hi S H hI);refine⟨⟨i-1,zo,h.2⟩,?_⟩;have e1:=TR _ _ _ hI;have e2:=TR _ _ _ h.2;simp only[e1,e2];have:=h.1;omega
end
section
variable{P:Program}{GI:World->Prop}
def qe :
  (∀x0 x1,OE P GI (.mv x0 x1))/\
  (∀x0 x1 x2,OE P GI (.pick x0 x1 x2))/\
  (∀x0 x1,OE P GI (.build x0 x1))/\
  (∀x0 x1 x2 x3,OE P GI (.buildSlice x0 x1 x2 x3))/\
  (∀x0 x1 x2 x3,OE P GI (.load x0 x1 x2 x3))/\
  (∀x0 x1,OE P GI (.loadT x0 x1))/\
  (∀x0 x1 x2 x3,OE P GI (.store x0 x1 x2 x3))/\
  (∀x0 x1 x2,OE P GI (.bin x0 x1 x2))/\
  (∀x0 x1 x2,OE P GI (.Eo x0 x1 x2))/\
  (∀x0 x1 x2 x3,OE P GI (.eqs x0 x1 x2 x3))/\
  (∀x0 x1 x2 x3 x4,OE P GI (.mK x0 x1 x2 x3 x4))/\
  (∀x0,OE P GI (.yJ x0))/\
  (∀x0,OE P GI (.oQ x0))/\
  (∀x0 x1 x2,OE P GI (.oP x0 x1 x2))/\
  (∀x0 x1 x2 x3,OE P GI (.lookup x0 x1 x2 x3))/\
  (∀x0,OE P GI (.not x0))/\
  (∀x0 x1,OE P GI (.conv x0 x1))/\
  (∀x0 x1,OE P GI (.iface x0 x1))/\
  (∀x0 x1 x2,OE P GI (.EK x0 x1 x2))/\
  (∀x0 x1 x2,OE P GI (.oN x0 x1 x2))/\
  (∀x0 x1 x2 x3,OE P GI (.nC x0 x1 x2 x3))/\
  (∀x0 x1,OE P GI (.pP x0 x1))/\
  (∀x0 x1,OE P GI (.fieldAddr x0 x1))/\
  (∀x0 x1 x2,OE P GI (.indexAddr x0 x1 x2))/\
  (∀x0 x1,OE P GI (.oT x0 x1))/\
  (∀x0 x1,OE P GI (.extract x0 x1))/\
  (∀x0,OE P GI (.yV x0))/\
  (∀x0,OE P GI (.kM x0))/\
  (∀x0 x1,OE P GI (.isNil x0 x1))/\
  (∀x0,OE P GI (.empty x0))/\
  (∀x0 x1,OE P GI (.max x0 x1))/\
  (∀x0 x1,OE P GI (.min x0 x1))/\
  (∀x0 x1 x2,OE P GI (.assert x0 x1 x2)):=by
 refine⟨?_,?_,?_,?_,?_,?_,?_,?_,?_,?_,?_,?_,?_,?_,?_,?_,?_,?_,?_,?_,?_,?_,?_,?_,?_,?_,?_,?_,?_,?_,?_,?_,?_⟩<;>intros<;>intro d<;>intros<;>rfl
def ou :
  (∀x0 x1,DE P GI (.mv x0 x1))/\
  (∀x0 x1 x2,DE P GI (.pick x0 x1 x2))/\
  (∀x0 x1,DE P GI (.build x0 x1))/\
  (∀x0 x1 x2 x3,DE P GI (.buildSlice x0 x1 x2 x3))/\
  (∀x0 x1 x2 x3,DE P GI (.load x0 x1 x2 x3))/\
  (∀x0 x1,DE P GI (.loadT x0 x1))/\
  (∀x0 x1 x2 x3,DE P GI (.store x0 x1 x2 x3))/\
  (∀x0 x1 x2,DE P GI (.bin x0 x1 x2))/\
  (∀x0 x1 x2,DE P GI (.Eo x0 x1 x2))/\
  (∀x0 x1 x2 x3,DE P GI (.eqs x0 x1 x2 x3))/\
  (∀x0 x1 x2 x3 x4,DE P GI (.mK x0 x1 x2 x3 x4))/\
  (∀x0,DE P GI (.yJ x0))/\
  (∀x0,DE P GI (.oQ x0))/\
  (∀x0 x1 x2,DE P GI (.oP x0 x1 x2))/\
  (∀x0 x1 x2 x3,DE P GI (.lookup x0 x1 x2 x3))/\
  (∀x0,DE P GI (.not x0))/\
  (∀x0 x1,DE P GI (.conv x0 x1))/\
  (∀x0 x1,DE P GI (.iface x0 x1))/\
  (∀x0 x1 x2,DE P GI (.EK x0 x1 x2))/\
  (∀x0 x1 x2,DE P GI (.oN x0 x1 x2))/\
  (∀x0 x1 x2 x3,DE P GI (.nC x0 x1 x2 x3))/\
  (∀x0 x1,DE P GI (.pP x0 x1))/\
  (∀x0 x1,DE P GI (.fieldAddr x0 x1))/\
  (∀x0 x1 x2,DE P GI (.indexAddr x0 x1 x2))/\
  (∀x0 x1,DE P GI (.oT x0 x1))/\
  (∀x0 x1,DE P GI (.extract x0 x1))/\
  (∀x0,DE P GI (.yV x0))/\
  (∀x0,DE P GI (.kM x0))/\
  (∀x0 x1,DE P GI (.isNil x0 x1))/\
  (∀x0,DE P GI (.empty x0))/\
  (∀x0 x1,DE P GI (.max x0 x1))/\
  (∀x0 x1,DE P GI (.min x0 x1))/\
  (∀x0 x1 x2,DE P GI (.assert x0 x1 x2)):=by
 refine⟨?_,?_,?_,?_,?_,?_,?_,?_,?_,?_,?_,?_,?_,?_,?_,?_,?_,?_,?_,?_,?_,?_,?_,?_,?_,?_,?_,?_,?_,?_,?_,?_,?_⟩<;>intros<;>intro d<;>intros<;>rfl
def af(x0 x1 x2 x3 x4 x5):OE P GI (.append x0 x1 x2 x3 x4 x5):=fB.2.2.2.2.2.2.2.2.2.2.2.2.2.2.2.2.2.2.2.2.2.2.2.2.2.2.2.2.2.2.1 x0 x1 x2 x3 x4 x5
def ae(x0 x1 x2 x3 x4 x5):DE P GI (.append x0 x1 x2 x3 x4 x5):=eR.2.2.2.2.2.2.2.2.2.2.2.2.2.2.2.2.2.2.2.2.2.2.2.2.2.2.2.2.2.2.1 x0 x1 x2 x3 x4 x5
def grow(e:Nat)(l:List AV):AV:=.slice (if l=[]then .nil else .own e) l
def Fs(e:Nat):grow e []=.slice .nil []:=by unfold grow;rw[if_pos rfl]
def WB {S:an} {H:ao} {t e size cap i j:Nat} {l:List AV} {v:AV} {o:Ow} (hi:S i=grow e l) (hj:S j = .slice o [v]) (hv:aG size [v]=true) (hl:aG size l=true) (hn:l.length+1 < 1048576) :
  ∃dm,(dm=none\/dm=some i)/\aD S H (.append t e size cap (.t i) (.t j))=some { v:=grow e (l++[v]),dm:=dm }:=by
 have ei:ev S (.t i)=grow e l:=hi;have ej:ev S (.t j)=.slice o [v]:=hj
 cases l with
 |nil=>
  refine⟨none,.inl rfl,?_⟩;simp only[aD];rw[ei,ej,Fs];simp[hv,grow]
 |cons x l=>
  refine⟨some i,.inr rfl,?_⟩
  have zt:l.length+1+1<1048576:=by simpa using hn
  simp only[aD];rw[ei,ej];simp[grow,hv,hl,bw,zt]
def vU{S:an}{i d:Nat}{dm:Option Nat}(hd:dm=none\/dm=some i)(v:AV):(aP.S { v:=v,dm:=dm } S (some d)) d=v/\∀k,k≠d->k≠i->aP.S { v:=v,dm:=dm } S (some d) k=S k:=by
 rcases hd with rfl|rfl
 .refine⟨by simp[aP.S,aX,au],λk h1 _=>by simp[aP.S,aX,au,h1]⟩
 .refine⟨by simp[aP.S,aX,au],λk h1 h2=>by simp[aP.S,aX,au,h1,h2]⟩
def iA {K:an→ao→Prop} {Qp:AV→Prop} {S:an} {H:ao} {t e size cap d i j:Nat} {rest:List bH} (l:List AV) (v:AV) (o:Ow) (hi:S i=grow e l) (hj:S j = .slice o [v]) (hv:aG size [v]=true) (hl:aG size l=true) (hn:l.length+1 < 1048576)
  (h:∀S',S' d=grow e (l++[v])->(∀k,k≠d->k≠i->S' k=S k)->bp P GI rest K Qp S' H):bp P GI (⟨some d,none,.append t e size cap (.t i) (.t j)⟩::rest) K Qp S H:=by
 obtain⟨dm,HY,jZ⟩:=WB (t:=t) (cap:=cap) (H:=H) hi hj hv hl hn;obtain⟨k1,k2⟩:=vU (S:=S) (d:=d) HY (grow e (l++[v]));rw[fB.2.2.2.2.2.2.2.2.2.2.2.2.2.2.2.2.2.2.2.2.2.2.2.2.2.2.2.2.2.2.1];simp only[aF,jZ];exact h _ k1 k2
def kR {K:an→ao→Prop} {S:an} {H:ao} {t e size cap d i j:Nat} {rest:List bH} (l:List AV) (v:AV) (o:Ow) (hi:S i=grow e l) (hj:S j = .slice o [v]) (hv:aG size [v]=true) (hl:aG size l=true) (hn:l.length+1 < 1048576)
  (h:∀S',S' d=grow e (l++[v])->(∀k,k≠d->k≠i->S' k=S k)->cU P GI rest K S' H):cU P GI (⟨some d,none,.append t e size cap (.t i) (.t j)⟩::rest) K S H:=by
 obtain⟨dm,HY,jZ⟩:=WB (t:=t) (cap:=cap) (H:=H) hi hj hv hl hn;obtain⟨k1,k2⟩:=vU (S:=S) (d:=d) HY (grow e (l++[v]));rw[eR.2.2.2.2.2.2.2.2.2.2.2.2.2.2.2.2.2.2.2.2.2.2.2.2.2.2.2.2.2.2.1];simp only[aF,jZ];exact h _ k1 k2
def iC{α:Type}{f:α->AV}{size:Nat}{l:List α}(h:∀a,(f a).storable=true/\(f a).cells.length=size):aG size (l.map f)=true:=by
 simp[aG,h]
end
def DQ {P:Program} {GI:World→Prop} (x d rest K Qp S H):bp P GI (⟨d,none,.panic x⟩::rest) K Qp S H=(match ev S x with
  |.iface t v=>Qp (.iface t v)
  |_=>False):=rfl
def mo{P:Program}{GI:World->Prop}{id:Nat}{c:ah}{Q:dT->an->ao->Prop}{S:an}{H:ao}(h:bD P GI c (dP id Q) S H):bD P GI (.block id c) Q S H:=h
section
variable{P:Program}{GI:World->Prop}{n:Nat}{ro:Option Nat}{old:Old}{S:an}{H:ao}{Q:eW}{b:Frame}{a:Act}{k:List Item}{cs:List Frame}{w:World}
def HM{c:Code}:step P (lone (b.atR a (.code (.scope c)::k)) cs w)=.next (lone (b.atR a (.code c::.inScope c::k)) cs w):=
 step_lone_go (by simp[stepG,stepG.exec,Frame.atR])
def Cl{c:Code}:step P (lone (b.atR a (.inScope c::k)) cs w)=.next (lone (b.atR a k) cs w):=
 step_lone_go (by simp[stepG,stepG.exec,Frame.atR])
def SW.scope{c:Code}(h:SW P GI n ro c Q old S H):SW P GI n ro (.scope c) Q old S H:=by
 intro w0 g a w m hG ho R b k cs vW hF hr;obtain⟨e,jw,lz,hq,h_⟩:=h w0 g a w m hG ho R b (.inScope c::k) cs vW hF hr
 have s1:StepsIn (Machine.fenced P (FR ro)) P (lone (b.atR a (.code (.scope c)::k)) cs w) (lone (b.atR a (.code c::.inScope c::k)) cs w):=
  .one (afC (F:=FR ro) (fr:=b.atR a (.code (.scope c)::k)) trivial hr rfl) HM
 have ex:∀id,exitTo id (.inScope c::k)=exitTo id k:=λid=>by simp[exitTo]
 refine⟨e,jw,lz,hq,.of_steps s1 ?_⟩
 cases e with
 |normal=>exact agB h_ (.one (afC (F:=FR ro) (fr:=b.atR jw (.inScope c::k)) trivial hr rfl) Cl)
 |exit id=>exact⟨λk' hk=>h_.1 k' (by rw[ex];exact hk),λhh hk=>h_.2 hh (by rw[ex];exact hk)⟩
 |goto l=>exact hq.elim
 |ret=>exact h_
 |panic ch=>exact h_
 |outgrown=>exact hq.elim
def SW.label{l:Nat}(h:Q .normal old S H):SW P GI n ro (.label l) Q old S H:=
 λ_ g _ _ _ _ ho R=>wpIn_label ⟨g,S,H,R,by rw[ho];exact h⟩
end
end Go.AL
namespace Go.Proofs.Tryz
open Go Go.AL Go.RowKit Go.Proofs Go.Proofs.Tram
attribute [local simp] eD fG fB eR eQ d_ ec dE dJ eP dF df ik ig aF aD ev aP.S aP.H bw au aX AL.start AV.cells AV.storable AV.cy bB cd dS cb HR.okB post cM dc de AV.out AV.cg cZ dZ fz gZ AV.vw cW vI int cz aN dk dP iS jN eM dV bG AV.aJ AV.cI
variable{GI:World->Prop}
def Y2 (hG:ar GI) (l:List Int) (hl:l.length < 1000000) (k:Nat) (caps:List AV) (pz:caps=[]∨∃ c,caps=[.ref c]) (p:Int→Bool) (hk:eb prog k=true) (h:∀ x∈l,AC prog GI k ([.int .i64 x]++caps) (.ret (.bool (p x)))) :
    AC prog GI 133 [.slice .view (l.map (.int .i64)),.func (.func k) [] caps] (.ret (.int .i64 (firstT p l))):=by
  refine cw hG func133 ntmps133 c133 ?_
  rcases pz with rfl|⟨c,rfl⟩<;>
  (simp[c133]
   refine bu 8 l.length (λi S H=>S 0=.slice .view (l.map (.int .i64))/\S 1=_/\S 7=.int .i64 l.length/\S 8=.int .i64 (i:Nat)/\∀j (hj:j<l.length),j<i->p l[j]=false) (λi S H h=>h.2.2.2.1) ⟨ahi,by simp<;>rfl,ahi,ahi,ahi⟩ ?_;rintro i hi S H ⟨s0,s1,s7,s8,hb⟩
   by_cases aq:i<l.length
   . have hw:IntKind.i64.wrap ((i:Int)+1)=i+1:=aT zo
     have hx:=h l[i] (adi aq);cases hp:p l[i]
     . simp [adz,s0,s1,s7,s8,aq]
       refine⟨_,hk,hx,by simp[cW],?_⟩;simp[s0,s1,s7,s8,aq,hp,hw];intro j hj fD
       by_cases Dy:j=i
       . subst Dy;exact hp
       . exact hb j hj zo
     . simp [adz,s0,s1,s7,s8,aq]
       refine⟨_,hk,hx,by simp[cW],?_⟩;simp[s0,s1,s7,s8,aq,hp,hw];exact mQ aq hp hb
   . have di:i=l.length:=by omega
     subst di;simp[s0,s1,s7,s8]
     exact kG λj hj=>hb j hj hj)
def W8 (hG:ar GI) (l:List Int) (hl:l.length < 1000000) (k:Nat) (caps:List AV) (pz:caps=[]∨∃ c,caps=[.ref c]) (p:Int→Bool) (hk:eb prog k=true) (h:∀ x∈l,AC prog GI k ([.int .i64 x]++caps) (.ret (.bool (p x)))) :
    AC prog GI 99 [.slice .view (l.map (.int .i64)),.func (.func k) [] caps] (.ret (.bool (l.any p))):=by
  have hF:=Y2 hG l hl k caps pz p hk h;refine cw hG func99 ntmps99 c99 ?_
  rcases pz with rfl|⟨c,rfl⟩<;>
  (simp[c99]
   refine⟨_,zk,hF,λ_=>rfl,?_⟩;simp
   exact nh.symm)
def ZP (hG:ar GI) (l:List Word) (hl:l.length < 1000000) (k:Nat) (caps:List AV) (pz:caps=[]∨∃ c,caps=[.ref c]) (p:Word→Bool) (hk:eb prog k=true) (h:∀ x∈l,AC prog GI k ([cD x]++caps) (.ret (.bool (p x)))) :
    AC prog GI 134 [.slice .view (l.map cD),.func (.func k) [] caps] (.ret (.int .i64 (firstT p l))):=by
  refine cw hG func134 ntmps134 c134 ?_
  rcases pz with rfl|⟨c,rfl⟩<;>
  (simp[c134]
   refine bu 8 l.length (λi S H=>S 0=.slice .view (l.map cD)/\S 1=_/\S 7=.int .i64 l.length/\S 8=.int .i64 (i:Nat)/\∀j (hj:j<l.length),j<i->p l[j]=false) (λi S H h=>h.2.2.2.1) ⟨ahi,by simp<;>rfl,ahi,ahi,ahi⟩ ?_;rintro i hi S H ⟨s0,s1,s7,s8,hb⟩
   by_cases aq:i<l.length
   . have hw:IntKind.i64.wrap ((i:Int)+1)=i+1:=aT zo
     have hx:=h l[i] (adi aq);cases hp:p l[i]
     . simp [adz,cD,s0,s1,s7,s8,aq]
       refine⟨_,hk,hx,by simp[cW],?_⟩;simp[s0,s1,s7,s8,aq,hp,hw];intro j hj fD
       by_cases Dy:j=i
       . subst Dy;exact hp
       . exact hb j hj zo
     . simp [adz,cD,s0,s1,s7,s8,aq]
       refine⟨_,hk,hx,by simp[cW],?_⟩;simp[s0,s1,s7,s8,aq,hp,hw];exact mQ aq hp hb
   . have di:i=l.length:=by omega
     subst di;simp[s0,s1,s7,s8]
     exact kG λj hj=>hb j hj hj)
def ZR (hG:ar GI) (l:List Word) (hl:l.length < 1000000) (k:Nat) (caps:List AV) (pz:caps=[]∨∃ c,caps=[.ref c]) (p:Word→Bool) (hk:eb prog k=true) (h:∀ x∈l,AC prog GI k ([cD x]++caps) (.ret (.bool (p x)))) :
    AC prog GI 101 [.slice .view (l.map cD),.func (.func k) [] caps] (.ret (.bool (l.any p))):=by
  have hF:=ZP hG l hl k caps pz p hk h;refine cw hG func101 ntmps101 c101 ?_
  rcases pz with rfl|⟨c,rfl⟩<;>
  (simp[c101]
   refine⟨_,zk,hF,λ_=>rfl,?_⟩;simp
   exact nh.symm)
def RJ(hG:ar GI)(a b:List Int)(ha:a.length<1000000):AC prog GI 30 [vI a,vI b] (.ret (.bool (a==b))):=by
 refine cw hG func30 ntmps30 c30 ?_
 by_cases hl:a.length=b.length
 case neg=>
  have cP:(a==b)=false:=by
   rw[ad4]
   exact λh=>hl (congrArg List.length h)
  have Md:((a.length:Int)!=(b.length:Int))=true:=by simp;omega
  simp[c30,Md,cP]
 simp[c30,hl];refine bu 5 b.length (λi S H=>S 0=vI a/\S 1=vI b/\S 5=.int .i64 (i:Nat)/\∀j (hj:j<a.length),j<i->a[j]=b[j]' zo) (λi S H h=>h.2.2.1) ⟨ahi,ahi,ahi,ahi⟩ ?_;rintro i hi S H ⟨s0,s1,s5,hb⟩
 by_cases aq:i<b.length
 .have ng:i<a.length:=zo
  have hw:IntKind.i64.wrap ((i:Int)+1)=i+1:=aT zo
  by_cases he:a[i]=b[i]
  .have zP:(a[i]!=b[i])=false:=by simp[he]
   simp[s0,s1,s5,aq,ng,zP,hw];intro j hj fD
   by_cases e:j=i
   .subst e;exact he
   .exact hb j hj zo
  .have cP:(a==b)=false:=by
    rw[ad4];rintro rfl;exact he rfl
   have zP:(a[i]!=b[i])=true:=by simp[he]
   simp[s0,s1,s5,aq,ng,zP,cP]
 .have di:i=b.length:=zo
  subst di
  have xC:a=b:=af_ hl λj h1 h2=>hb j h1 zo
  simp[s0,s1,s5,xC]
def X2(hG:ar GI)(l:List Int)(hl:l.length<1000000)(v:Int):AC prog GI 154 [vI l,.int .i64 v] (.ret (.int .i64 (firstT (v==·) l))):=by
 refine cw hG func154 ntmps154 c154 ?_;simp[c154];refine bu 8 l.length (λi S H=>S 0=vI l/\S 1=.int .i64 v/\S 7=.int .i64 l.length/\S 8=.int .i64 (i:Nat)/\∀j (hj:j<l.length),j<i->(v==l[j])=false) (λi S H h=>h.2.2.2.1) ⟨ahi,ahi,ahi,ahi,ahi⟩ ?_;rintro i hi S H ⟨s0,s1,s7,s8,hb⟩
 by_cases aq:i<l.length
 .have hw:IntKind.i64.wrap ((i:Int)+1)=i+1:=aT zo;cases he:v==l[i]
  .simp[s0,s1,s7,s8,aq,he,hw];intro j hj fD
   by_cases e:j=i
   .subst e;simpa using he
   .simpa using hb j hj zo
  .simp[s0,s1,s7,s8,aq,he,hw];exact mQ aq he hb
 .have di:i=l.length:=zo
  subst di;simp[s0,s1,s7,s8]
  exact kG λj hj=>hb j hj hj
def Mm(hG:ar GI)(l:List Int)(hl:l.length<1000000)(v:Int):AC prog GI 144 [vI l,.int .i64 v] (.ret (.bool (l.contains v))):=by
 refine cw hG func144 ntmps144 c144 ?_;simp[c144];refine⟨_,zk,X2 hG l hl v,λ_=>rfl,?_⟩;simp;have:=nh (p:=(v==·)) (l:=l);rw[ad5]at this;simpa using this.symm
def Dt(a b:Int):ku [.int .i64 a,.int .i64 b]=some [a,b]:=rfl
def zh(hG:ar GI)(s:List UInt8):AC prog GI 128 [.bool false,.str s] (.panic (.iface 192 (.agg [.str s]))):=by
 refine cw hG func128 ntmps128 c128 ?_;simp[c128,bI,DQ]
end Go.Proofs.Tryz
namespace Go.Proofs.Tryz
open Go Go.AL Go.RowKit Go.Proofs Go.Proofs.Tram
variable{GI:World->Prop}
def XC:AV->Option Word
 |.agg [s,c,.bool b]=>match Vm s with
  |some s=>match Vm c with
   |some c=>some ⟨s,c,b⟩
   |none=>none
  |none=>none
 |_=>none
def YM:AV->Option jY
 |.agg [.int .i64 a,.int .i64 b,.int .i64 c,.int .i64 d]=>some ⟨a,b,c,d⟩
 |_=>none
def aa3:AV->Option End
 |.agg [.int .i64 a,.int .i64 b]=>some (a,b)
 |_=>none
deriving instance DecidableEq for jY
deriving instance DecidableEq for Word
structure aI where
 aM:List Int
 aL:List jY
 fI:Int
 fH:Int
 ir:Int
 il:Int
 bT:Int
 words:List Word
 wide:Int
 rows:Int
deriving DecidableEq
def ai(s:aI):List AV:=[vI s.aM,.slice .view (s.aL.map dM),.int .i64 s.fI,.int .i64 s.fH,.int .i64 s.ir,.int .i64 s.il,.int .i64 s.bT,.slice .view (s.words.map cD),.int .i64 s.wide,.int .i64 s.rows]
def cC(s:aI):AV:=.agg (ai s)
def Hy:AV->Option aI
 |.agg [w,.slice .view ps,.int .i64 a,.int .i64 b,.int .i64 c,.int .i64 d,.int .i64 e,.slice .view ws,.int .i64 f,.int .i64 g]=>match Vm w with
  |some w=>match Jk YM ps with
   |some ps=>match Jk XC ws with
    |some ws=>some ⟨w,ps,a,b,c,d,e,ws,f,g⟩
    |none=>none
   |none=>none
  |none=>none
 |_=>none
def F6:AV->Option (List Int×List End)
 |.agg [o,.slice .view es]=>match Vm o with
  |some o=>match Jk aa3 es with
   |some es=>some (o,es)
   |none=>none
  |none=>none
 |_=>none
def q1(s:aI)(out:iJ):List AV->Option iJ
 |[a]=>match Hy a with
  |some x=>bif decide (x=s)then some out else none
  |none=>none
 |_=>none
def q2(s:aI)(es:List End)(out:iJ):List AV->Option iJ
 |[a,b]=>match Hy a with
  |some x=>match F6 b with
   |some y=>bif decide (x=s)&&decide (y=([],es))then some out else none
   |none=>none
  |none=>none
 |_=>none
def q3(s:aI)(es:List End)(n:Int)(out:iJ):List AV->Option iJ
 |[a,b,.int .i64 k]=>match Hy a with
  |some x=>match F6 b with
   |some y=>bif decide (x=s)&&decide (y=([],es))&&decide (k=n)then some out else none
   |none=>none
  |none=>none
 |_=>none
def qs(s:List UInt8)(out:iJ):List AV->Option iJ
 |[.str t]=>bif decide (t=s)then some out else none
 |_=>none
def Fz(l:List End):aG 2 (l.map b_)=true:=iC λa=>⟨rfl,rfl⟩
end Go.Proofs.Tryz
namespace Go.Proofs.Tryz
open Go Go.AL Go.RowKit Go.Proofs Go.Proofs.Tram
attribute [local simp] eD fG fB eR eQ d_ ec dE dJ eP dF df ik ig aF aD ev aP.S aP.H bw au aX AL.start AV.cells AV.storable AV.cy bB cd dS cb HR.okB post cM dc de AV.out AV.cg cZ dZ fz gZ AV.vw cW vI int cz aN dk dP iS jN eM dV bG AV.aJ AV.cI
variable{GI:World->Prop}
def da(n lo hi:Int):Bool:=decide (lo<=n)&&decide (n<=hi)
def vy(hG:ar GI)(n lo hi:Int):AC prog GI 80 [.int .i64 n,.int .i64 lo,.int .i64 hi] (.ret (.bool (da n lo hi))):=by
 refine cw hG func80 ntmps80 c80 ?_
 by_cases h1:lo<=n<;>by_cases h2:n<=hi<;>simp[c80,da,h1,h2]
def sj(hG:ar GI)(n lo hi:Int):AC prog GI 95 [.int .i64 n,.int .i64 lo,.int .i64 hi] (.ret (.bool (da n lo hi))):=by
 refine cw hG func95 ntmps95 c95 ?_
 by_cases h1:lo<=n<;>by_cases h2:n<=hi<;>simp[c95,da,h1,h2]
def kX(lo hi a most:Int):Bool:=da lo a most&&da hi lo most
def Rg(hG:ar GI)(lo hi most:Int):AC prog GI 83 [.agg [.int .i64 lo,.int .i64 hi],.int .i64 most] (.ret (.bool (kX lo hi 0 most))):=by
 refine cw hG func83 ntmps83 c83 ?_;simp[c83];refine oc (vy hG lo 0 most) ?_;cases h1:da lo 0 most
 .simp[kX,h1]
 .simp;refine oc (vy hG hi lo most) ?_;simp[kX,h1]
def MB(hG:ar GI)(lo hi a most:Int):AC prog GI 100 [.agg [.int .i64 lo,.int .i64 hi],.int .i64 a,.int .i64 most] (.ret (.bool (kX lo hi a most))):=by
 refine cw hG func100 ntmps100 c100 ?_;simp[c100];refine oc (sj hG lo a most) ?_;cases h1:da lo a most
 .simp[kX,h1]
 .simp;refine oc (sj hG hi lo most) ?_;simp[kX,h1]
def abH(hG:ar GI)(n:Int):AC prog GI 84 [.int .i64 n] (.ret (.bool (da n 1 400))):=by
 refine cw hG func84 ntmps84 c84 ?_;simp[c84];refine oc (vy hG n 1 400) ?_;simp
def jd(s:aI)(n:Int):Bool:=da n 0 (s.aM.length-1)
def NS(hG:ar GI)(s:aI)(hs:s.aM.length<1000)(n:Int):AC prog GI 124 [cC s,.int .i64 n] (.ret (.bool (jd s n))):=by
 refine cw hG func124 ntmps124 c124 ?_;have hw:IntKind.i64.wrap ((s.aM.length:Int)-1)=s.aM.length-1:=aT zo;simp[c124,cC,ai,hw];refine oc (vy hG n 0 (s.aM.length-1)) ?_;simp[jd]
def jS(s:aI)(p:jY):Bool:=jd s p.l&&jd s p.r&&kX p.lo p.hi 0 9
def aco(hG:ar GI)(s:aI)(hs:s.aM.length<1000)(p:jY):AC prog GI 96 [cC s,dM p] (.ret (.bool (jS s p))):=by
 refine cw hG func96 ntmps96 c96 ?_;have hw:IntKind.i64.wrap ((s.aM.length:Int)-1)=s.aM.length-1:=aT zo;refine aK (λS H=>S 2=.box 2 0/\S 3=.box 3 0/\H 2=some (ai s)/\H 3=some [.int .i64 p.l,.int .i64 p.r,.int .i64 p.lo,.int .i64 p.hi]) (by simp[cC,ai,dM]) ?_;rintro S H ⟨s2,s3,h2,h3⟩;simp[s2,s3,h2,h3,ai,hw];refine oc (sj hG p.l 0 (s.aM.length-1)) ?_;cases h1:da p.l 0 (s.aM.length-1)
 .simp[jS,jd,h1]
 .simp[s2,s3,h2,h3,ai,hw];refine oc (sj hG p.r 0 (s.aM.length-1)) ?_;cases h4:da p.r 0 (s.aM.length-1)
  .simp[jS,jd,h1,h4]
  .simp[s2,s3,h2,h3,ai];refine oc (MB hG p.lo p.hi 0 9) ?_;simp[jS,jd,h1,h4]
def wZ(a b:jY):Bool:=decide (a.l<b.l)||(a.l==b.l&&decide (a.r<b.r))
def aaH(hG:ar GI)(a b:jY):AC prog GI 97 [dM a,dM b] (.ret (.bool (wZ a b))):=by
 refine cw hG func97 ntmps97 c97 ?_;refine aK (λS H=>S 2=.box 2 0/\S 3=.box 3 0/\H 2=some [.int .i64 a.l,.int .i64 a.r,.int .i64 a.lo,.int .i64 a.hi]/\H 3=some [.int .i64 b.l,.int .i64 b.r,.int .i64 b.lo,.int .i64 b.hi]) (by simp[dM]) ?_;rintro S H ⟨s2,s3,h2,h3⟩
 by_cases h1:a.l<b.l
 .simp[s2,s3,h2,h3,wZ,h1]
 .cases h4:a.l==b.l
  .simp[s2,s3,h2,h3,wZ,h1,h4]
  .by_cases h5:a.r<b.r<;>simp[s2,s3,h2,h3,wZ,h1,h4,h5]
def abg(hG:ar GI)(n:Int):AC prog GI 98 [.int .i64 n] (.ret (.bool (!da n 1 20))):=by
 refine cw hG func98 ntmps98 c98 ?_;simp[c98];refine oc (sj hG n 1 20) ?_;simp
def YS(hG:ar GI)(s:aI)(hs:s.aM.length<1000)(n:Int):AC prog GI 135 [.int .i64 n,.ref (ai s)] (.ret (.bool (!jd s n))):=by
 refine cw hG func135 ntmps135 c135 ?_;have hw:IntKind.i64.wrap ((s.aM.length:Int)-1)=s.aM.length-1:=aT zo;simp[c135,ai,hw];refine oc (sj hG n 0 (s.aM.length-1)) ?_;simp[jd]
def gf(l:List Int)(lo hi:Int):Bool:=nQ (da · lo hi) (λa b=>decide (a<b)) l
def Yi(hG:ar GI)(l:List Int)(hl:l.length<1000000)(lo hi:Int):AC prog GI 136 [vI l,.int .i64 lo,.int .i64 hi] (.ret (.bool (gf l lo hi))):=by
 refine cw hG func136 ntmps136 c136 ?_;simp[c136];refine bu 11 l.length (λi S H=>S 0=vI l/\S 1=.int .i64 lo/\S 2=.int .i64 hi/\S 9=vI l/\S 10=.int .i64 l.length/\S 11=.int .i64 (i:Nat)/\(∀j (hj:j<l.length),j<i->da l[j] lo hi=true)/\∀j (hj:j+1<l.length),j+1<i->decide (l[j]<l[j+1])=true) (λi S H h=>h.2.2.2.2.2.1) ⟨ahi,ahi,ahi,ahi,ahi,ahi,ahi,ahi⟩ ?_;rintro i dv S H ⟨s0,s1,s2,s9,bJ,bC,hb,hc⟩
 by_cases aq:i<l.length
 .have hw:IntKind.i64.wrap ((i:Int)+1)=i+1:=aT zo;simp[s0,s1,s2,s9,bJ,bC,aq];refine⟨_,zk,sj hG l[i] lo hi,λ_=>rfl,?_⟩;cases hp:da l[i] lo hi
  .simp[s0,s1,s2,s9,bJ,bC,aq,hw];exact rq aq hp
  .cases i with
   |zero=>
    simp[s0,s1,s2,s9,bJ,bC,aq];exact⟨aT zo,λj hj CJ=>by subst CJ;exact hp⟩
   |succ k=>
    have hk:((k+1:Nat):Int)-1=(k:Nat):=zo
    have sF:IntKind.i64.wrap (k:Int)=k:=aT zo;have ln:IntKind.i64.wrap ((k:Int)+1+1)=k+1+1:=aT zo
    have jv:k<l.length:=zo
    have h0:(0:Int)<(k:Int)+1:=zo
    by_cases hle:l[k+1]<=l[k]
    .simp[s0,s1,s2,s9,bJ,bC,aq,sF,jv,hle,h0];exact pR (lt:=λa b=>decide (a<b)) aq (by simpa using hle)
    .simp[s0,s1,s2,s9,bJ,bC,aq,sF,jv,hle,h0,ln];refine⟨λj hj xK=>?_,λj hj xK=>?_⟩
     .by_cases e:j=k+1
      .subst e;exact hp
      .exact hb j hj zo
     .by_cases e:j=k
      .subst e;omega
      .simpa using hc j hj zo
 .have di:i=l.length:=zo
  subst di;simp[s0,s1,s2,s9,bJ,bC];exact sP (λj hj=>hb j hj hj) (λj hj=>hc j hj hj)
def kU(s:aI)(w:Word):Bool:=da w.aU.length 1 6&&!(w.aU.any λn=>!jd s n)&&gf w.bU 1 (w.aU.length-1)
def Y9(hG:ar GI)(s:aI)(hs:s.aM.length<1000)(w:Word)(h1:w.aU.length<1000)(h2:w.bU.length<1000):AC prog GI 103 [cC s,cD w] (.ret (.bool (kU s w))):=by
 have Su:=W8 hG w.aU zo 135 [.ref (ai s)] (.inr ⟨_,rfl⟩) (λn=>!jd s n) zk (λn _=>YS hG s hs n);have hw:IntKind.i64.wrap ((w.aU.length:Int)-1)=w.aU.length-1:=aT zo;refine cw hG func103 ntmps103 c103 ?_;refine aK (λS H=>S 2=.box 2 0/\S 3=.box 3 0/\H 2=some (ai s)/\H 3=some [vI w.aU,vI w.bU,.bool w.free]) (by simp[cC,ai,cD]) ?_;rintro S H ⟨s2,s3,e2,e3⟩;simp[s2,s3,e2,e3];refine⟨_,zk,sj hG w.aU.length 1 6,λ_=>rfl,?_⟩;cases h3:da w.aU.length 1 6
 .simp[kU,h3]
 .simp[s2,s3,e2,e3,ai];refine⟨_,zk,Su,λ_=>rfl,?_⟩
  cases h4:w.aU.any λn=>!jd s n
  .simp[s2,s3,e2,e3,hw];refine⟨_,zk,Yi hG w.bU zo 1 (w.aU.length-1),λ_=>rfl,?_⟩;simp[kU,h3,h4]
  .simp[kU,h3,h4]
def Zq(hG:ar GI)(s:aI)(hs:s.aM.length<1000)(w:Word)(h1:w.aU.length<1000)(h2:w.bU.length<1000):AC prog GI 102 [cD w,.ref (ai s)] (.ret (.bool (!kU s w))):=by
 refine cw hG func102 ntmps102 c102 ?_;simp[c102,cD,ai];refine⟨_,zk,Y9 hG s hs w h1 h2,λ_=>rfl,?_⟩;simp
structure qE(s:aI):Prop where
 aM:s.aM.length<1000
 aL:s.aL.length<1000
 words:s.words.length<1000
 aU:∀w∈s.words,w.aU.length<1000
 bU:∀w∈s.words,w.bU.length<1000
def tU(s:aI):Bool:=!(s.aM.any λn=>!da n 1 20)&&kX s.fI s.fH 0 9&&kX s.ir s.il 0 20&&da s.bT 1 20&&!(s.words.any λw=>!kU s w)&&da s.wide 1 400&&da s.rows 1 3
def bl(s:aI):Bool:=da s.aM.length 1 6&&decide (s.aL.length<=6)&&da s.words.length 1 4&&nQ (jS s) wZ s.aL&&tU s
def F4(hG:ar GI)(s:aI)(hs:qE s):AC prog GI 44 [cC s] (.ret (.bool (bl s))):=by
 have Su:=W8 hG s.aM (by have:=hs.aM;omega) 98 [] (.inl rfl) (λn=>!da n 1 20) zk (λn _=>abg hG n);have ab8:=ZR hG s.words (by have:=hs.words;omega) 102 [.ref (ai s)] (.inr ⟨_,rfl⟩) (λw=>!kU s w) zk (λw hw=>Zq hG s hs.aM w (hs.aU w hw) (hs.bU w hw));refine cw hG func44 ntmps44 c44 ?_;refine aK (λS H=>S 1=.box 1 0/\H 1=some (ai s)) (by simp[cC,ai]) ?_;rintro S H ⟨s1,e1⟩;simp[s1,e1,ai];refine⟨_,zk,sj hG s.aM.length 1 6,λ_=>rfl,?_⟩;cases h1:da s.aM.length 1 6
 .simp[bl,h1]
 by_cases h2:(6:Int)<s.aL.length
 .simp[s1,e1,ai,h2]
  have:¬s.aL.length<=6:=zo
  simp[bl,this]
 simp[s1,e1,ai,h2];refine⟨_,zk,sj hG s.words.length 1 4,λ_=>rfl,?_⟩;cases h3:da s.words.length 1 4
 .simp[bl,h3]
 simp[s1,e1,ai]
 have wh:s.aL.length<=6:=zo
 refine bu 27 s.aL.length (λi S H=>S 1=.box 1 0/\H 1=some (ai s)/\S 25=.slice .view (s.aL.map dM)/\S 26=.int .i64 s.aL.length/\S 27=.int .i64 (i:Nat)/\(∀j (hj:j<s.aL.length),j<i->jS s s.aL[j]=true)/\∀j (hj:j+1<s.aL.length),j+1<i->wZ s.aL[j] s.aL[j+1]=true) (λi S H h=>h.2.2.2.2.1) ⟨by simp[s1],by simp[e1,ai],ahi,ahi,ahi,ahi,ahi⟩ ?_;clear s1 e1 S H;rintro i hi S H ⟨s1,e1,ft,gx,fT,hb,hc⟩
 by_cases aq:i<s.aL.length
 case neg=>
  have di:i=s.aL.length:=zo
  subst di;have ace:nQ (jS s) wZ s.aL=true:=sP (λj hj=>hb j hj hj) (λj hj=>hc j hj hj);simp[s1,e1,ft,gx,fT,ai];refine⟨_,zk,Su,λ_=>rfl,?_⟩
  cases h4:s.aM.any λn=>!da n 1 20
  case true=>simp[bl,tU,h4]
  simp[s1,e1,ai];refine⟨_,zk,MB hG s.fI s.fH 0 9,λ_=>rfl,?_⟩;cases h5:kX s.fI s.fH 0 9
  .simp[bl,tU,h5]
  simp[s1,e1,ai];refine⟨_,zk,MB hG s.ir s.il 0 20,λ_=>rfl,?_⟩;cases h6:kX s.ir s.il 0 20
  .simp[bl,tU,h6]
  simp[s1,e1,ai];refine⟨_,zk,sj hG s.bT 1 20,λ_=>rfl,?_⟩;cases h7:da s.bT 1 20
  .simp[bl,tU,h7]
  simp[s1,e1,ai];refine⟨_,zk,ab8,λ_=>rfl,?_⟩
  cases h8:s.words.any λw=>!kU s w
  case true=>simp[bl,tU,h8]
  simp[s1,e1,ai];refine⟨_,zk,sj hG s.wide 1 400,λ_=>rfl,?_⟩;cases h9:da s.wide 1 400
  .simp[bl,tU,h9]
  simp[s1,e1,ai];refine⟨_,zk,sj hG s.rows 1 3,λ_=>rfl,?_⟩;simp[bl,tU,h1,wh,h3,ace,h4,h5,h6,h7,h8,h9]
 case pos=>
  have hw:IntKind.i64.wrap ((i:Int)+1)=i+1:=aT zo;refine aK (λS H=>S 28=.bool true/\S 1=.box 1 0/\H 1=some (ai s)/\S 25=.slice .view (s.aL.map dM)/\S 26=.int .i64 s.aL.length/\S 27=.int .i64 (i:Nat)) (by simp[s1,e1,ft,gx,fT,aq]) ?_;clear s1 e1 ft gx fT S H;rintro S H ⟨vY,s1,e1,ft,gx,fT⟩;refine G0 vY (IT ?_);refine aK (λS H=>S 4=.box 4 0/\H 4=some (dM s.aL[i]).cells/\S 3=.int .i64 (i:Nat)/\S 1=.box 1 0/\H 1=some (ai s)/\S 25=.slice .view (s.aL.map dM)/\S 26=.int .i64 s.aL.length/\S 27=.int .i64 (i:Nat)) (by simp[s1,e1,ft,gx,fT,aq,dM]) ?_;clear s1 e1 ft gx fT vY S H;rintro S H ⟨s4,e4,s3,s1,e1,ft,gx,fT⟩;simp[s1,e1,s3,s4,e4,ai,dM];refine⟨_,zk,aco hG s hs.aM s.aL[i],λ_=>rfl,?_⟩;cases hp:jS s s.aL[i]
  .simp;simp[bl,rq aq hp]
  cases i with
  |zero=>
   simp[s1,s3,s4,ft,gx,fT,aq];exact⟨e1,aT zo,λj hj CJ=>by subst CJ;exact hp⟩
  |succ k=>
   have sF:IntKind.i64.wrap (k:Int)=k:=aT zo;have ln:IntKind.i64.wrap ((k:Int)+1+1)=k+1+1:=aT zo
   have jv:k<s.aL.length:=zo
   have h0:(0:Int)<(k:Int)+1:=zo
   simp[s1,e1,s3,s4,e4,aq,sF,jv,h0,ai,dM];refine⟨_,zk,aaH hG s.aL[k] s.aL[k+1],λ_=>rfl,?_⟩;cases hq:wZ s.aL[k] s.aL[k+1]
   .simp;simp[bl,pR (p:=jS s) aq hq]
   .simp[s1,e1,s3,s4,ft,gx,fT,aq,ln];refine⟨rfl,λj hj xK=>?_,λj hj xK=>?_⟩
    .by_cases e:j=k+1
     .subst e;exact hp
     .exact hb j hj zo
    .by_cases e:j=k
     .subst e;exact hq
     .exact hc j hj zo
def P7(s:aI)(w:Word):kU s w=(w.aU.all (jd s)&&(gf w.bU 1 (w.aU.length-1)&&da w.aU.length 1 6)):=by
 unfold kU;rw[sS]
 cases da w.aU.length 1 6<;>cases w.aU.all (jd s)<;>cases gf w.bU 1 (w.aU.length-1)<;>rfl
def aaL(hG:ar GI)(s:aI)(hs:s.aM.length<1000)(w:Word)(h1:w.aU.length<1000)(h2:w.bU.length<1000):AC prog GI 81 [cC s,cD w] (.ret (.bool (kU s w))):=by
 rw[P7];refine cw hG func81 ntmps81 c81 ?_;refine aK (λS H=>S 2=.box 2 0/\S 3=.box 3 0/\H 2=some (ai s)/\H 3=some [vI w.aU,vI w.bU,.bool w.free]) (by simp[cC,ai,cD]) ?_;rintro S H ⟨s2,s3,e2,e3⟩;simp[s2,s3,e2,e3];refine bu 5 w.aU.length (λi S H=>S 2=.box 2 0/\S 3=.box 3 0/\H 2=some (ai s)/\H 3=some [vI w.aU,vI w.bU,.bool w.free]/\S 5=.int .i64 (i:Nat)/\(∀j (hj:j<w.aU.length),j<i->jd s w.aU[j]=true)) (λi S H h=>h.2.2.2.2.1) ⟨by simp[s2],by simp[s3],e2,e3,ahi,ahi⟩ ?_;clear s2 s3 e2 e3 S H;rintro i hi S H ⟨s2,s3,e2,e3,s5,hb⟩
 by_cases aq:i<w.aU.length
 case pos=>
  have hw:IntKind.i64.wrap ((i:Int)+1)=i+1:=aT zo;simp[s2,s3,e2,e3,s5,aq,ai];refine⟨_,zk,NS hG s hs w.aU[i],λ_=>rfl,?_⟩;cases hp:jd s w.aU[i]
  .simp[vr aq hp]
  .simp[s2,s3,e2,e3,s5,aq,hw];exact⟨rfl,ox aq hb hp⟩
 have di:i=w.aU.length:=zo
 subst di
 have eF:w.aU.all (jd s)=true:=yW λj hj=>hb j hj hj
 simp[s2,s3,e2,e3,s5,eF];refine bu 6 w.bU.length (λi S H=>S 3=.box 3 0/\H 3=some [vI w.aU,vI w.bU,.bool w.free]/\S 6=.int .i64 (i:Nat)/\(∀j (hj:j<w.bU.length),j<i->da w.bU[j] 1 (w.aU.length-1)=true)/\∀j (hj:j+1<w.bU.length),j+1<i->decide (w.bU[j]<w.bU[j+1])=true) (λi S H h=>h.2.2.1) ⟨by simp[s3],e3,ahi,ahi,ahi⟩ ?_;clear s2 s3 e2 e3 s5 hb S H;rintro i hi S H ⟨s3,e3,s6,hb,hc⟩
 by_cases aq:i<w.bU.length
 case neg=>
  have di:i=w.bU.length:=zo
  subst di;have hr:gf w.bU 1 (w.aU.length-1)=true:=sP (λj hj=>hb j hj hj) (λj hj=>hc j hj hj);simp[s3,e3,s6,hr];refine⟨_,zk,vy hG w.aU.length 1 6,λ_=>rfl,?_⟩;simp
 case pos=>
  have hw:IntKind.i64.wrap ((i:Int)+1)=i+1:=aT zo;have u_:IntKind.i64.wrap ((w.aU.length:Int)-1)=w.aU.length-1:=aT zo;simp[s3,e3,s6,aq,u_];refine⟨_,zk,vy hG w.bU[i] 1 (w.aU.length-1),λ_=>rfl,?_⟩;cases hp:da w.bU[i] 1 (w.aU.length-1)
  .have hr:gf w.bU 1 (w.aU.length-1)=false:=rq aq hp;simp[hr]
  cases i with
  |zero=>
   simp[s3,e3,s6,aq];exact⟨aT zo,λj hj CJ=>by subst CJ;exact hp⟩
  |succ k=>
   have sF:IntKind.i64.wrap (k:Int)=k:=aT zo;have ln:IntKind.i64.wrap ((k:Int)+1+1)=k+1+1:=aT zo
   have jv:k<w.bU.length:=zo
   have h0:(0:Int)<(k:Int)+1:=zo
   have h00:(0:Int)<=(k:Int)+1:=zo
   by_cases hle:w.bU[k+1]<=w.bU[k]
   .have hr:gf w.bU 1 (w.aU.length-1)=false:=pR (lt:=λa b=>decide (a<b)) aq (by simpa using hle);simp[s3,e3,s6,aq,sF,jv,hle,h0,h00,hr]
   .simp[s3,e3,s6,aq,sF,jv,hle,h0,h00,ln];exact⟨ox (p:=λn=>da n 1 (w.aU.length-1)) aq hb hp,λj hj xK=>by simpa using z7 (lt:=λa b=>decide (a<b)) aq hc (by simpa using hle) j hj zo⟩
def p9(s:aI):Bool:=nQ (jS s) wZ s.aL&&decide (s.aL.length<=6)
def KR(a b:jY):wZ a b=!(decide (b.l<a.l)||(a.l==b.l&&decide (b.r<=a.r))):=by
 unfold wZ
 by_cases h1:a.l<b.l
 .have h2:¬b.l<a.l:=zo
  have h3:(a.l==b.l)=false:=by simp;omega
  simp[h1,h2,h3]
 .by_cases h2:b.l<a.l
  .have h3:(a.l==b.l)=false:=by simp;omega
   simp[h1,h2,h3]
  .have h3:(a.l==b.l)=true:=by simp;omega
   by_cases h4:b.r<=a.r
   .have h5:¬a.r<b.r:=zo
    simp[h1,h2,h3,h4,h5]
   .have h5:a.r<b.r:=zo
    simp[h1,h2,h3,h4,h5]
def aae(hG:ar GI)(s:aI)(hs:s.aM.length<1000)(h1:s.aL.length<1000):AC prog GI 82 [cC s] (.ret (.bool (p9 s))):=by
 refine cw hG func82 ntmps82 c82 ?_;simp[c82,cC,ai];refine bu 3 s.aL.length (λi S H=>S 1=.box 1 0/\H 1=some (ai s)/\S 3=.int .i64 (i:Nat)/\(∀j (hj:j<s.aL.length),j<i->jS s s.aL[j]=true)/\∀j (hj:j+1<s.aL.length),j+1<i->wZ s.aL[j] s.aL[j+1]=true) (λi S H h=>h.2.2.1) ⟨ahi,by simp[ai],ahi,ahi,ahi⟩ ?_;rintro i hi S H ⟨s1,e1,s3,hb,hc⟩
 by_cases aq:i<s.aL.length
 case neg=>
  have di:i=s.aL.length:=zo
  subst di;have hr:nQ (jS s) wZ s.aL=true:=sP (λj hj=>hb j hj hj) (λj hj=>hc j hj hj);simp[s1,e1,s3,ai,p9,hr]
  by_cases h6:s.aL.length<=6
  .have Zm:(s.aL.length:Int)<=6:=zo
   simp[h6,Zm]
  .have Zm:¬(s.aL.length:Int)<=6:=zo
   simp[h6,Zm]
 case pos=>
  have hw:IntKind.i64.wrap ((i:Int)+1)=i+1:=aT zo;refine Ff (λS H=>S 9=.bool true/\S 1=.box 1 0/\H 1=some (ai s)/\S 3=.int .i64 (i:Nat)) (by simp[s1,e1,s3,aq,ai]) ?_;clear s1 e1 s3 S H;rintro S H ⟨s9,s1,e1,s3⟩;refine G0 s9 (IT ?_);refine aK (λS H=>S 4=.box 4 0/\H 4=some (dM s.aL[i]).cells/\S 1=.box 1 0/\H 1=some (ai s)/\S 3=.int .i64 (i:Nat)) (by simp[s1,e1,s3,aq,ai,dM]) ?_;clear s1 e1 s3 s9 S H;rintro S H ⟨s4,e4,s1,e1,s3⟩;refine Ff (λS H=>S 34=.bool (!jS s s.aL[i])/\S 4=.box 4 0/\H 4=some (dM s.aL[i]).cells/\S 1=.box 1 0/\H 1=some (ai s)/\S 3=.int .i64 (i:Nat)) ?_ ?_
  .simp[s1,e1,s3,s4,e4,ai,dM];refine⟨_,zk,NS hG s hs s.aL[i].l,λ_=>rfl,?_⟩;cases h1:jd s s.aL[i].l
   .simp[s1,e1,s3,s4,e4,ai,dM,jS,h1]
   simp[s1,e1,s3,s4,e4,ai,dM];refine⟨_,zk,NS hG s hs s.aL[i].r,λ_=>rfl,?_⟩;cases h2:jd s s.aL[i].r
   .simp[s1,e1,s3,s4,e4,ai,dM,jS,h1,h2]
   simp[s1,e1,s3,s4,e4,ai,dM];refine⟨_,zk,Rg hG s.aL[i].lo s.aL[i].hi 9,λ_=>rfl,?_⟩;simp[s1,e1,s3,s4,e4,ai,dM,jS,h1,h2]
  clear s1 e1 s3 s4 e4 S H;rintro S H ⟨Wc,s4,e4,s1,e1,s3⟩;cases hp:jS s s.aL[i]
  .rw[hp]at Wc
   have hr:p9 s=false:=by unfold p9;rw[rq aq hp];rfl
   simp[Wc,hr]
  rw[hp]at Wc;refine SH Wc ?_
  cases i with
  |zero=>
   simp[s1,e1,s3,s4,e4,ai,aq];exact⟨aT zo,λj hj CJ=>by subst CJ;exact hp⟩
  |succ k=>
   have sF:IntKind.i64.wrap (k:Int)=k:=aT zo;have ln:IntKind.i64.wrap ((k:Int)+1+1)=k+1+1:=aT zo
   have jv:k<s.aL.length:=zo
   have h0:(0:Int)<(k:Int)+1:=zo
   cases hq:wZ s.aL[k] s.aL[k+1]
   .have hr:p9 s=false:=by unfold p9;rw[pR aq hq];rfl
    rw[KR]at hq
    by_cases h1:s.aL[k+1].l<s.aL[k].l
    .simp[s1,e1,s3,s4,e4,ai,dM,sF,jv,h0,h1,hr]
    .cases h2:s.aL[k].l==s.aL[k+1].l
     .simp[h1,h2]at hq
     .by_cases h3:s.aL[k+1].r<=s.aL[k].r
      .simp[s1,e1,s3,s4,e4,ai,dM,sF,jv,h0,h1,h2,h3,hr]
      .simp[h1,h2,h3]at hq
   .have NY:=hq;rw[KR]at hq
    have h1:¬s.aL[k+1].l<s.aL[k].l:=λh=>by simp[h]at hq
    cases h2:s.aL[k].l==s.aL[k+1].l
    .simp[s1,e1,s3,s4,e4,ai,dM,sF,jv,h0,h1,h2,ln,aq];exact⟨ox aq hb hp,λj hj xK=>z7 aq hc NY j hj zo⟩
    .have h3:¬s.aL[k+1].r<=s.aL[k].r:=λh=>by simp[h1,h2,h]at hq
     simp[s1,e1,s3,s4,e4,ai,dM,sF,jv,h0,h1,h2,h3,ln,aq];exact⟨ox aq hb hp,λj hj xK=>z7 aq hc NY j hj zo⟩
def Ng(s:aI):bl s=(s.aM.all (da · 1 20)&&(s.words.all (kU s)&&(da s.aM.length 1 6&&p9 s&&kX s.fI s.fH 0 9&&kX s.ir s.il 0 20&&da s.bT 1 20&&da s.words.length 1 4&&da s.wide 1 400&&da s.rows 1 3))):=by
 unfold bl tU p9;rw[sS,sS]
 cases da s.aM.length 1 6<;>cases decide (s.aL.length<=6)<;>cases da s.words.length 1 4<;>cases nQ (jS s) wZ s.aL<;>cases s.aM.all (da · 1 20)<;>cases s.words.all (kU s)<;>cases kX s.fI s.fH 0 9<;>simp
def acL(hG:ar GI)(s:aI)(hs:qE s):AC prog GI 39 [cC s] (.ret (.bool (bl s))):=by
 rw[Ng];have q1:=hs.aM;have q2:=hs.aL;have q3:=hs.words;refine cw hG func39 ntmps39 c39 ?_;simp[c39,cC,ai];refine bu 3 s.aM.length (λi S H=>S 1=.box 1 0/\H 1=some (ai s)/\S 3=.int .i64 (i:Nat)/\(∀j (hj:j<s.aM.length),j<i->da s.aM[j] 1 20=true)) (λi S H h=>h.2.2.1) ⟨ahi,by simp[ai],ahi,ahi⟩ ?_;rintro i hi S H ⟨s1,e1,s3,hb⟩
 by_cases aq:i<s.aM.length
 case pos=>
  have hw:IntKind.i64.wrap ((i:Int)+1)=i+1:=aT zo;simp[s1,e1,s3,aq,ai];refine⟨_,zk,vy hG s.aM[i] 1 20,λ_=>rfl,?_⟩;cases hp:da s.aM[i] 1 20
  .simp[vr (p:=λn=>da n 1 20) aq hp]
  .simp[s1,e1,s3,aq,hw];exact⟨rfl,ox (p:=λn=>da n 1 20) aq hb hp⟩
 have di:i=s.aM.length:=zo
 subst di
 have eF:s.aM.all (da · 1 20)=true:=yW λj hj=>hb j hj hj
 simp[s1,e1,s3,ai,eF];refine bu 4 s.words.length (λi S H=>S 1=.box 1 0/\H 1=some (ai s)/\S 4=.int .i64 (i:Nat)/\(∀j (hj:j<s.words.length),j<i->kU s s.words[j]=true)) (λi S H h=>h.2.2.1) ⟨by simp[s1],by simp[e1,ai],ahi,ahi⟩ ?_;clear s1 e1 s3 hb S H;rintro i hi S H ⟨s1,e1,s4,hb⟩
 by_cases aq:i<s.words.length
 case pos=>
  have hw:IntKind.i64.wrap ((i:Int)+1)=i+1:=aT zo;simp[s1,e1,s4,aq,ai,cD];refine⟨_,zk,aaL hG s q1 s.words[i] (hs.aU _ (adi aq)) (hs.bU _ (adi aq)),λ_=>rfl,?_⟩;cases hp:kU s s.words[i]
  .simp[vr aq hp]
  .simp[s1,e1,s4,aq,hw];exact⟨rfl,ox aq hb hp⟩
 have di:i=s.words.length:=zo
 subst di
 have Ys:s.words.all (kU s)=true:=yW λj hj=>hb j hj hj
 simp[s1,e1,s4,ai,Ys];refine⟨_,zk,vy hG s.aM.length 1 6,λ_=>rfl,?_⟩;cases h1:da s.aM.length 1 6
 .simp
 simp[s1,e1,s4,ai];refine⟨_,zk,aae hG s q1 q2,λ_=>rfl,?_⟩;cases h2:p9 s
 .simp
 simp[s1,e1,s4,ai];refine⟨_,zk,Rg hG s.fI s.fH 9,λ_=>rfl,?_⟩;cases h3:kX s.fI s.fH 0 9
 .simp
 simp[s1,e1,s4,ai];refine⟨_,zk,Rg hG s.ir s.il 20,λ_=>rfl,?_⟩;cases h4:kX s.ir s.il 0 20
 .simp
 simp[s1,e1,s4,ai];refine⟨_,zk,vy hG s.bT 1 20,λ_=>rfl,?_⟩;cases h5:da s.bT 1 20
 .simp
 simp[s1,e1,s4,ai];refine⟨_,zk,vy hG s.words.length 1 4,λ_=>rfl,?_⟩;cases h6:da s.words.length 1 4
 .simp
 simp[s1,e1,s4,ai];refine⟨_,zk,abH hG s.wide,λ_=>rfl,?_⟩;cases h7:da s.wide 1 400
 .simp
 simp[s1,e1,s4,ai];refine⟨_,zk,vy hG s.rows 1 3,λ_=>rfl,?_⟩;simp
end Go.Proofs.Tryz
namespace Go.Proofs.Tryz
open Go.AL
noncomputable def c3:ah:=bc 82 f3.cO
def fS(a b:End):Bool:=decide (a.1<b.1)||(a.1==b.1&&decide (a.2<b.2))
def pU{a b:End}:fS a b=true↔a.1<b.1\/a.1=b.1/\a.2<b.2:=by
 simp[fS]
section
variable{l:List End}
end
def qq(s:aI)(n:Int):Bool:=match s.words[n.toNat]? with|some w=>!w.free|none=>false
def gX(s:aI)(out:List Int):Bool:=gf out 0 (s.words.length-1)&&decide (out.length<s.words.length)&&!(out.any (qq s))
def j5(s:aI)(out:List Int)(n:Nat):List End:=if out.contains (n:Int)then[]else match s.words[n]? with
 |some w=>(w.bU.map λk=>((n:Int),k))++[((n:Int),(w.aU.length:Int))]
 |none=>[]
def me(s:aI)(out:List Int):List End:=(List.range s.words.length).flatMap (j5 s out)
def lI(out:List Int):Nat->Int
 |0=> -1
 |n+1=>if out.contains (n:Int)then lI out n else n
def zi(s:aI)(out:List Int)(e:End):Bool:=da e.1 0 (s.words.length-1)&&!out.contains e.1&&match s.words[e.1.toNat]? with
 |some w=>e.2==(w.aU.length:Int)||w.bU.contains e.2
 |none=>false
def ma(s:aI)(out:List Int):End:=(lI out s.words.length,match s.words[(lI out s.words.length).toNat]? with|some w=>(w.aU.length:Int)|none=>0)
def mA(s:aI)(out:List Int)(es:List End):Bool:=gX s out&&!es.isEmpty&&(nQ (zi s out) fS es&&(es.getLast?.getD (-1,0)==ma s out))
def C1{s:aI}{out:List Int}{e:End}:e∈me s out↔zi s out e=true:=by
 unfold me zi da;rw[adX];simp only[adQ,adk,adr,aeh,afL,afu]
 constructor
 .rintro⟨n,hn,he⟩;unfold j5 at he;split at he
  .cases he
  rename_i hc
  have hc:¬(n:Int)∈out:=by simpa using hc
  rw[adh hn]at he;simp only[adm,adF,adJ]at he
  have h1:e.1=n:=by rcases he with⟨k,_,rfl⟩|rfl<;>rfl
  rw[h1];refine⟨⟨zo,hc⟩,?_⟩;rw[Int.toNat_natCast,adh hn];simp only[aeE,adY,adr];rcases he with⟨k,hk,rfl⟩|rfl
  .exact .inr hk
  .exact .inl rfl
 .rintro⟨⟨⟨h1,h2⟩,hc⟩,h3⟩;obtain⟨w,k⟩:=e
  obtain⟨n,rfl⟩:∃n:Nat,w=n:=⟨w.toNat,by simp only at h1;omega⟩
  simp only at h1 h2 hc h3
  have hn:n<s.words.length:=zo
  refine⟨n,hn,?_⟩;unfold j5;rw[if_neg (by simpa using hc)];rw[Int.toNat_natCast,adh hn]at h3;rw[adh hn];simp only[aeE,adY,adr]at h3;simp only[adm,adF,adJ];rcases h3 with rfl|h3
  .exact .inr rfl
  .exact .inl ⟨k,h3,rfl⟩
def wv{s:aI}{out:List Int}(hw:∀w∈s.words,gf w.bU 1 (w.aU.length-1)=true):(me s out).Pairwise λa b=>fS a b=true:=by
 unfold me;rw[List.pairwise_flatMap]
 constructor
 .intro n hn;rw[adQ]at hn;unfold j5;split
  .exact .nil
  rw[adh hn];have h:=hw s.words[n] (adi hn);unfold gf at h;rw[fQ]at h;obtain⟨h1,h2⟩:=h;simp only;rw[afN];refine⟨?_,af4 _ _,?_⟩
  .rw[List.pairwise_map]
   have:s.words[n].bU.Pairwise λa b=>a<b:=OW λj hj=>by simpa using h2 j hj
   exact this.imp λh=>by simp[fS,h]
  .intro a ha b hb;rw[adJ]at hb;subst hb;obtain⟨k,hk,rfl⟩:=adF.1 ha;have:=h1 k hk;simp[da]at this;simp[fS];omega
 .refine List.Pairwise.imp_of_mem ?_ ag4;intro a b ha hb xC x hx y hy
  have n_:x.1=a:=by
   unfold j5 at hx;split at hx
   .cases hx
   split at hx
   .simp only[adm,adF,adJ]at hx
    rcases hx with⟨k,_,rfl⟩|rfl<;>rfl
   .cases hx
  have IQ:y.1=b:=by
   unfold j5 at hy;split at hy
   .cases hy
   split at hy
   .simp only[adm,adF,adJ]at hy
    rcases hy with⟨k,_,rfl⟩|rfl<;>rfl
   .cases hy
  rw[pU,n_,IQ];left;omega
def BH{out:List Int}:∀n:Nat,(lI out n= -1/\∀k:Nat,k<n->(k:Int)∈out)\/∃m:Nat,m<n/\lI out n=m/\¬(m:Int)∈out/\∀k:Nat,m<k->k<n->(k:Int)∈out
 |0=>.inl ⟨rfl,λk hk=>zo⟩
 |n+1=>by
  unfold lI;split
  .rename_i hc
   have hc:(n:Int)∈out:=by simpa using hc
   rcases BH (out:=out) n with⟨h1,h2⟩|⟨m,h1,h2,h3,h4⟩
   .refine .inl ⟨h1,λk hk=>?_⟩
    by_cases e:k=n
    .subst e;exact hc
    .exact h2 k zo
   .refine .inr ⟨m,zo,h2,h3,λk hk cE=>?_⟩
    by_cases e:k=n
    .subst e;exact hc
    .exact h4 k hk zo
  .rename_i hc;exact .inr ⟨n,zo,rfl,by simpa using hc,λk h1 h2=>zo⟩
def Qg{s:aI}{out:List Int}(h:gX s out=true):∃m:Nat,m<s.words.length/\lI out s.words.length=m/\¬(m:Int)∈out/\∀k:Nat,m<k->k<s.words.length->(k:Int)∈out:=by
 unfold gX at h;simp only[adk,adr]at h;obtain⟨⟨h1,h2⟩,_⟩:=h;rcases BH (out:=out) s.words.length with⟨_,h3⟩|h3
 .exfalso;unfold gf at h1;rw[fQ]at h1;obtain⟨_,h1⟩:=h1
  have hp:out.Pairwise λa b=>a<b:=OW λj hj=>by simpa using h1 j hj
  have hp:=ae2.1 hp
  have key:∀k:Nat,k<s.words.length->∃j,k<=j/\∃hj:j<out.length,out[j]=k:=by
   intro k
   induction k with
   |zero=>
    intro hk;obtain⟨j,hj,e⟩:=ad7 (h3 0 hk);exact⟨j,zo,hj,e⟩
   |succ k ih=>
    intro hk;obtain⟨j,hkj,hj,e⟩:=ih zo;obtain⟨j',dU,e'⟩:=ad7 (h3 (k+1) hk);refine⟨j',?_,dU,e'⟩;rcases Nat.lt_trichotomy j j' with h|h|h
    .omega
    .subst h;omega
    .have:=hp j' j dU hj h;omega
  obtain⟨j,hkj,hj,_⟩:=key (s.words.length-1) zo;omega
 .exact h3
def Cu{s:aI}{out:List Int}(h:gX s out=true):(me s out).getLast?=some (ma s out):=by
 obtain⟨m,h1,h2,h3,h4⟩:=Qg h
 have hl:ma s out=((m:Int),((s.words[m]).aU.length:Int)):=by
  unfold ma;rw[h2,Int.toNat_natCast,adh h1]
 rw[hl];unfold me
 obtain⟨d,hd⟩:∃d,s.words.length=m+1+d:=⟨s.words.length-m-1,zo⟩
 have key:∀d,m+1+d<=s.words.length->((List.range (m+1+d)).flatMap (j5 s out)).getLast?=some ((m:Int),((s.words[m]).aU.length:Int)):=by
  intro d
  induction d with
  |zero=>
   intro _;rw[Nat.add_zero,aeA,aeX,afD]
   have hm:¬(out.contains (m:Int)=true):=by simpa using h3
   have e:j5 s out m=(s.words[m].bU.map λk=>((m:Int),k))++[((m:Int),(s.words[m].aU.length:Int))]:=by
    unfold j5;rw[if_neg hm,adh h1]
   rw[e,<-ad2,aha];simp
  |succ d ih=>
   intro hle;rw[<-afv,aeA,aeX,afD]
   have hc:out.contains ((m+1+d:Nat):Int)=true:=by simpa using h4 (m+1+d) zo zo
   have e:j5 s out (m+1+d)=[]:=by
    unfold j5;rw[if_pos hc]
   rw[e,ael];exact ih zo
 rw[hd];exact key d zo
def ea(s:aI)(w:Nat):Nat:=match s.words[w]? with|some x=>x.aU.length|none=>0
def kI{s:aI}{w:Nat}(h:w<s.words.length):ea s w=s.words[w].aU.length:=by unfold ea;rw[adh h]
def qx(w f t:Nat):List (Nat×Nat):=(List.range' f (t-f)).map λi=>(w,i)
def kn(s:aI)(out:List Int):Nat->Nat->Nat->Nat->List (Nat×Nat)
 |0,w,f,t=>qx w f t
 |d+1,w,f,t=>(if out.contains (w:Int)then[]else qx w f (ea s w))++kn s out d (w+1) 0 t
def l0(s:aI)(out:List Int)(a e:Nat×Nat):List (Nat×Nat):=kn s out (e.1-a.1) a.1 a.2 e.2
def Kw{w f t:Nat}(h:t<=f):qx w f t=[]:=by
 unfold qx;rw[show t-f=0 by omega];rfl
def F_{w f t:Nat}(h:f<t):qx w f t=(w,f)::qx w (f+1) t:=by
 unfold qx;rw[show t-f=(t-(f+1))+1 by omega,aeS];rfl
def Qw{w f t:Nat}(h:f<=t):qx w f (t+1)=qx w f t++[(w,t)]:=by
 unfold qx;rw[show t+1-f=(t-f)+1 by omega,afU,adL];simp only[ady,adR,Nat.one_mul];rw[show f+(t-f)=t by omega]
def Lh{w f t:Nat}:(qx w f t).length=t-f:=by simp[qx]
def Km{w f t:Nat}{g:Nat×Nat}:g∈qx w f t↔g.1=w/\f<=g.2/\g.2<t:=by
 unfold qx;rw[adF];simp only[afG]
 constructor
 .rintro⟨i,hi,rfl⟩;exact⟨rfl,hi.1,by have:=hi.2;show i<t;omega⟩
 .rintro⟨h1,h2,h3⟩;exact⟨g.2,zo,by rw[<-h1]⟩
def NW{s:aI}{out:List Int}{w f t:Nat}(h:t<=f):l0 s out (w,f) (w,t)=[]:=by
 unfold l0;simp only[agR];exact Kw h
def DD{s:aI}{out:List Int}{w f t:Nat}:l0 s out (w,f) (w,t)=qx w f t:=by
 unfold l0;simp only[agR]
 rfl
def sZ{s:aI}{out:List Int}{w f:Nat}{e:Nat×Nat}(h:w<e.1):l0 s out (w,f) e=(if out.contains (w:Int)then[]else qx w f (ea s w))++l0 s out (w+1,0) e:=by
 unfold l0;simp only;rw[show e.1-w=(e.1-(w+1))+1 by omega]
 rfl
def Qh{s:aI}{out:List Int}{w f:Nat}{e:Nat×Nat}(h:w<e.1)(hc:out.contains (w:Int)=true):l0 s out (w,f) e=l0 s out (w+1,0) e:=by
 rw[sZ h,if_pos hc,List.nil_append]
def MF{s:aI}{out:List Int}{w f:Nat}{e:Nat×Nat}(h:w<e.1)(hf:ea s w<=f):l0 s out (w,f) e=l0 s out (w+1,0) e:=by
 rw[sZ h];split
 .rfl
 .rw[Kw hf];rfl
def Ux{s:aI}{out:List Int}{w f:Nat}{e:Nat×Nat}(h:w<e.1/\out.contains (w:Int)=false/\f<ea s w\/w=e.1/\f<e.2):l0 s out (w,f) e=(w,f)::l0 s out (w,f+1) e:=by
 rcases h with⟨h,hc,hf⟩|⟨h,hf⟩
 .rw[sZ h,sZ h,hc];simp only[ads,adH];rw[F_ hf];rfl
 .obtain⟨ew,et⟩:=e;simp only at h hf;subst h;rw[DD,DD,F_ hf]
def Gj{s:aI}{out:List Int}{b:Nat}(hb:∀w,ea s w<=b):∀(d w f t:Nat),t<=b->(kn s out d w f t).length<=(d+1)*b
 |0,w,f,t,h=>by
  unfold kn;rw[Lh];omega
 |d+1,w,f,t,h=>by
  unfold kn;rw[adC];have h1:=Gj (out:=out) hb d (w+1) 0 t h
  have h2:(if out.contains (w:Int)then[]else qx w f (ea s w)).length<=b:=by
   split
   .simp
   .rw[Lh];have:=hb w;omega
  have:(d+1+1)*b=(d+1)*b+b:=agL _ _;omega
def Fv{s:aI}{out:List Int}:∀(d w f t:Nat){g:Nat×Nat},g∈kn s out d w f t->(g.1=w+d/\g.2<t)\/(w<=g.1/\g.1<w+d/\g.2<ea s g.1)
 |0,w,f,t,g,h=>by
  have:=Km.1 h;left;omega
 |d+1,w,f,t,g,h=>by
  unfold kn at h;rcases adm.1 h with h|h
  .split at h
   .cases h
   .have:=Km.1 h;right;rw[this.1];omega
  .rcases Fv d (w+1) 0 t h with h|h
   .left;omega
   .right;omega
def F2{s:aI}{out:List Int}:∀(d w f t:Nat),(d=0->f<t)->0<t->(kn s out d w f t).getLast?=some (w+d,t-1)
 |0,w,f,t,h,h'=>by
  have h:=h rfl;unfold kn
  obtain⟨t,rfl⟩:∃t',t=t'+1:=⟨t-1,zo⟩
  rw[Qw zo];simp
 |d+1,w,f,t,h,h'=>by
  unfold kn;have:=F2 (s:=s) (out:=out) d (w+1) 0 t (λ_=>h') h';rw[aha,this];show some (w+1+d,t-1)=some (w+(d+1),t-1);rw[show w+1+d=w+(d+1) by omega]
def nE(e:End):Nat×Nat:=(e.1.toNat,e.2.toNat)
def nr(es:List End):Nat->Nat×Nat
 |0=>(0,0)
 |i+1=>match es[i]? with|some e=>nE e|none=>(0,0)
def km(s:aI)(out:List Int)(es:List End)(i:Nat):List (Nat×Nat):=match es[i]? with|some e=>l0 s out (nr es i) (nE e)|none=>[]
def ly(s:aI)(es:List End)(i:Nat):Bool:=match es[i]? with|some e=>decide (e.2<(ea s e.1.toNat:Int))|none=>false
structure Good(s:aI)(out:List Int)(es:List End):Prop where
 one:∀i (h:i<es.length),0<=es[i].1/\es[i].1<s.words.length/\out.contains es[i].1=false/\1<=es[i].2/\es[i].2<=ea s es[i].1.toNat
 acD:∀i (h:i+1<es.length),es[i].1<es[i+1].1\/es[i].1=es[i+1].1/\es[i].2<es[i+1].2
def E4{s:aI}(h:bl s=true){w:Word}(hw:w∈s.words):kU s w=true:=by
 unfold bl tU at h;simp only[adk,aeh,aeg]at h;have:=h.2.1.1.2 w hw;simpa using this
structure Zt(s:aI)(w:Word):Prop where
 Br:1<=w.aU.length
 y3:w.aU.length<=6
 sign:∀n∈w.aU,0<=n/\n<s.aM.length
 bU:gf w.bU 1 (w.aU.length-1)=true
def mU{s:aI}(h:bl s=true){w:Word}(hw:w∈s.words):Zt s w:=by
 have h:=E4 h hw;unfold kU at h;simp only[adk,aeh,aeg,da,adr]at h;obtain⟨⟨⟨h1,h2⟩,h3⟩,h4⟩:=h;refine⟨zo,zo,λn hn=>?_,h4⟩;have:=h3 n hn;simp[jd,da]at this;omega
def yq{s:aI}{out:List Int}{es:List End}(hs:bl s=true)(h:mA s out es=true):Good s out es:=by
 unfold mA at h;simp only[adk]at h;obtain⟨_,h,_⟩:=h;rw[fQ]at h;obtain⟨h1,h2⟩:=h;refine⟨λi hi=>?_,λi hi=>?_⟩
 .have:=h1 _ (adi hi);unfold zi da at this;simp only[adk,adr,aeh]at this;obtain⟨⟨⟨a1,a2⟩,a3⟩,a4⟩:=this
  have aq:es[i].1.toNat<s.words.length:=zo
  rw[adh aq]at a4;have hw:=mU hs (adi aq);rw[kI aq];refine⟨a1,zo,a3,?_⟩;simp only[aeE,adY]at a4;rcases a4 with a4|a4
  .have:=hw.Br;omega
  .have hc:=hw.bU;unfold gf at hc;rw[fQ]at hc;have:=hc.1 _ (by simpa using a4);simp[da]at this;omega
 .have:=h2 i hi;rw[pU]at this;exact this
def Hh{s:aI}{out:List Int}{es:List End}(g:Good s out es){i:Nat}(h:i<es.length):(nr es i).1<(nE es[i]).1\/(nr es i).1=(nE es[i]).1/\(nr es i).2<(nE es[i]).2:=by
 cases i with
 |zero=>
  have:=g.one 0 h;show 0<es[0].1.toNat\/0=es[0].1.toNat/\0<es[0].2.toNat;omega
 |succ i=>
  have h1:=g.one i zo;have h2:=g.one (i+1) h;have h3:=g.acD i h
  have e:nr es (i+1)=nE es[i]:=by
   show(match es[i]? with|some e=>nE e|none=>(0,0))=_;rw[adh zo]
  rw[e];show es[i].1.toNat<es[i+1].1.toNat\/es[i].1.toNat=es[i+1].1.toNat/\es[i].2.toNat<es[i+1].2.toNat;omega
def sH{s:aI}{out:List Int}{es:List End}{i:Nat}(h:i<es.length):km s out es i=l0 s out (nr es i) (nE es[i]):=by
 unfold km;rw[adh h]
def D1{s:aI}{es:List End}{i:Nat}(h:i<es.length):ly s es i=decide (es[i].2<(ea s es[i].1.toNat:Int)):=by
 unfold ly;rw[adh h]
def Oi{s:aI}{out:List Int}{es:List End}(g:Good s out es){i:Nat}(h:i<es.length):(km s out es i).getLast?=some ((nE es[i]).1,(nE es[i]).2-1):=by
 have h1:=Hh g h;have h2:=g.one i h;rw[sH h];unfold l0
 have h3:0<(nE es[i]).2:=by show 0<es[i].2.toNat;omega
 rw[F2 _ _ _ _ (λhd=>zo) h3]
 congr 2
 omega
def J6{s:aI}{out:List Int}{es:List End}(g:Good s out es){i:Nat}(h:i<es.length):km s out es i≠[]:=by
 intro e;have:=Oi g h;rw[e]at this;cases this
def Px{s:aI}{out:List Int}{es:List End}(g:Good s out es){i:Nat}{x:Nat×Nat}(hx:x∈km s out es i):x.1<s.words.length/\x.2<ea s x.1:=by
 by_cases h:i<es.length
 case neg=>
  unfold km at hx;rw[adI zo]at hx;cases hx
 have h1:=Hh g h;have h2:=g.one i h;rw[sH h]at hx;have e1:(nE es[i]).1=es[i].1.toNat:=rfl;have e2:(nE es[i]).2=es[i].2.toNat:=rfl
 rcases Fv _ _ _ _ hx with⟨h3,h4⟩|⟨h3,h4,h5⟩
 .have h5:x.1=es[i].1.toNat:=zo
  rw[h5];refine⟨zo,zo⟩
 .exact⟨zo,h5⟩
def Fj{s:aI}{out:List Int}{es:List End}(hs:bl s=true)(g:Good s out es)(i:Nat):(km s out es i).length<=24:=by
 by_cases h:i<es.length
 case neg=>
  unfold km;rw[adI zo];simp
 have h2:=g.one i h
 have hb:∀w,ea s w<=6:=by
  intro w;unfold ea;split
  .rename_i x hx;obtain⟨aq,rfl⟩:=adG.1 hx;exact(mU hs (adi aq)).y3
  .omega
 rw[sH h];unfold l0;have h3:=Gj (s:=s) (out:=out) hb ((nE es[i]).1-(nr es i).1) (nr es i).1 (nr es i).2 (nE es[i]).2 (by have:=hb es[i].1.toNat;show es[i].2.toNat<=6;omega)
 have h4:s.words.length<=4:=by
  unfold bl da at hs;simp only[adk,adr]at hs;omega
 have h5:(nE es[i]).1<s.words.length:=by show es[i].1.toNat<_;omega
 have h6:((nE es[i]).1-(nr es i).1+1)*6<=4*6:=aeF _ zo;omega
abbrev Lt:=Int×Int
def bQ(s:aI)(g:Nat×Nat):Lt:=((g.1:Int),match s.words[g.1]? with|some w=>w.aU[g.2]?.getD 0|none=>0)
def mW(lo hi st:Int):Int:=lo+((hi-lo)*st).tdiv 10
def lA(s:aI)(a b:Lt):Int×Int:=if a.1=b.1 then match s.aL.find? λp=>p.l==a.2&&p.r==b.2 with
 |some p=>(p.lo,p.hi)
 |none=>(s.fI,s.fH)
 else(s.ir,s.il)
def pw(s:aI)(st:Int)(a b:Lt):Int:=mW (lA s a b).1 (lA s a b).2 st
def mV(s:aI)(a:Lt):Int:=if a.2<0 then s.bT else s.aM[a.2.toNat]?.getD 0
def j4(s:aI)(st:Int)(l:List Lt):Nat->Int
 |0=>0
 |i+1=>j4 s st l i+(match l[i]?,l[i+1]? with|some a,some b=>pw s st a b|_,_=>0)
def Bx{s:aI}{st:Int}{l:List Lt}{i:Nat}(h:i+1<l.length):j4 s st l (i+1)=j4 s st l i+pw s st (l[i]' zo) l[i+1]:=by
 show j4 s st l i+(match l[i]?,l[i+1]? with|some a,some b=>pw s st a b|_,_=>0)=_;rw[adh zo,adh h]
def ka(s:aI)(l:List Lt):Nat->Int
 |0=>0
 |i+1=>ka s l i+(match l[i]? with|some a=>mV s a|none=>0)
def Bz{s:aI}{l:List Lt}{i:Nat}(h:i<l.length):ka s l (i+1)=ka s l i+mV s l[i]:=by
 show ka s l i+(match l[i]? with|some a=>mV s a|none=>0)=_;rw[adh h]
def lP(s:aI)(st:Int)(l:List Lt)(cut:Bool):Int:=(ka s l l.length+(if cut then s.bT else 0))+(j4 s st l (l.length-1)+(if cut then mW s.fI s.fH st else 0))
def nZ{lo hi st:Int}(h:lo<=hi)(h0:0<=st)(h1:st<=10):lo<=mW lo hi st/\mW lo hi st<=hi:=by
 unfold mW;have a:0<=(hi-lo)*st:=ad8 zo h0;have b:(hi-lo)*st<=(hi-lo)*10:=Int.mul_le_mul_of_nonneg_left h1 zo;rw[aea a];generalize(hi-lo)*st=x at a b⊢;omega
structure p6(s:aI):Prop where
 aM:∀n∈s.aM,1<=n/\n<=20
 JX:s.aM.length<=6
 aL:∀p∈s.aL,0<=p.l/\0<=p.r/\0<=p.lo/\p.lo<=p.hi/\p.hi<=9
 R_:s.aL.length<=6
 o:0<=s.fI/\s.fI<=s.fH/\s.fH<=9
 g:0<=s.ir/\s.ir<=s.il/\s.il<=20
 bT:1<=s.bT/\s.bT<=20
 words:1<=s.words.length/\s.words.length<=4
 wide:1<=s.wide/\s.wide<=400
 rows:1<=s.rows/\s.rows<=3
def gE{s:aI}(h:bl s=true):p6 s:=by
 unfold bl tU kX da at h;simp only[adk,adr,aeh,aeg,fQ]at h;obtain⟨⟨⟨⟨h1,h2⟩,h3⟩,h4,_⟩,⟨⟨⟨⟨⟨h5,h6⟩,h7⟩,h8⟩,_⟩,h9⟩,pB⟩:=h;refine⟨λn hn=>?_,zo,λp hp=>?_,h2,zo,zo,zo,zo,h9,pB⟩
 .have:=h5 n hn;simpa using this
 .have:=h4 p hp;unfold jS jd kX da at this;simp only[adk,adr]at this;omega
def wR{s:aI}(h:p6 s)(a b:Lt):0<=(lA s a b).1/\(lA s a b).1<=(lA s a b).2/\(lA s a b).2<=20:=by
 unfold lA;split
 .split
  .rename_i p hp;have:=h.aL p (agI hp);simp only;omega
  .have:=h.o;simp only;omega
 .have:=h.g;simp only;omega
def AR{s:aI}(h:p6 s){st:Int}(h0:0<=st)(h1:st<=10)(a b:Lt):0<=pw s st a b/\pw s st a b<=20:=by
 have h2:=wR h a b;have h3:=nZ h2.2.1 h0 h1;unfold pw;omega
def MZ(s:aI)(a:Lt):Prop:=0<=a.2/\a.2<s.aM.length
def BI{s:aI}(h:p6 s){a:Lt}(ha:MZ s a):1<=mV s a/\mV s a<=20:=by
 unfold mV;rw[if_neg (by have:=ha.1;omega)]
 have aq:a.2.toNat<s.aM.length:=by have:=ha.1;have:=ha.2;omega
 rw[adh aq];exact h.aM _ (adi aq)
def rL{s:aI}(h:p6 s){l:List Lt}(hl:∀a∈l,MZ s a):∀{i:Nat},i<=l.length->(i:Int)<=ka s l i/\ka s l i<=20*i
 |0,_=>by simp[ka]
 |i+1,hi=>by
  rw[Bz zo];have:=rL h hl (i:=i) zo;have:=BI h (hl _ (adi (show i<l.length by omega)));omega
def rr{s:aI}(h:p6 s){st:Int}(h0:0<=st)(h1:st<=10){l:List Lt}:∀{i:Nat},i+1<=l.length->0<=j4 s st l i/\j4 s st l i<=20*i
 |0,_=>by simp[j4]
 |i+1,hi=>by
  rw[Bx hi];have:=rr h h0 h1 (l:=l) (i:=i) zo;have:=AR h h0 h1 (l[i]' zo) (l[i+1]'hi);omega
def EG{s:aI}(h:p6 s){st:Int}(h0:0<=st)(h1:st<=10){l:List Lt}(hl:l≠[])(ho:∀a∈l,MZ s a)(hlen:l.length<=24)(cut:Bool):1<=lP s st l cut/\lP s st l cut<=1000:=by
 have iK:=aew.2 hl;unfold lP;have:=rr h h0 h1 (l:=l) (i:=l.length-1) zo;have:=rL h ho (i:=l.length) zo;have:=nZ h.o.2.1 h0 h1;have:=h.o;have:=h.bT
 split<;>omega
def rO(s:aI)(out:List Int)(es:List End)(st:Int)(i:Nat):Int:=lP s st ((km s out es i).map (bQ s)) (ly s es i)
def fl(s:aI)(out:List Int)(es:List End)(st:Int):List Int:=(List.range es.length).map (rO s out es st)
def ld(s:aI)(out:List Int)(es:List End)(st:Int):Bool:=decide ((es.length:Int)<=s.rows)&&(fl s out es st).all λn=>decide (n<=s.wide)
def zJ(p:Int->Bool):Nat->Int
 |0=> -1
 |n+1=>if p n then n else zJ p n
def Al(s:aI)(out:List Int)(es:List End):Int:=zJ (ld s out es) 11
def TC{s:aI}(hs:bl s=true){g:Nat×Nat}(h:g.1<s.words.length/\g.2<ea s g.1):MZ s (bQ s g):=by
 obtain⟨h1,h2⟩:=h;rw[kI h1]at h2;unfold bQ MZ;simp only;rw[adh h1];simp only;rw[adh h2];exact(mU hs (adi h1)).sign _ (adi h2)
section
variable{s:aI}{out:List Int}{es:List End}
end
def Vz{now es:List End}:∀{all:List End}{m:Nat},all≠[]->all.Nodup->(es∈ch now all m↔∃t,es=now++t/\t.Sublist all/\t.getLast?=all.getLast?/\t.length<=m):=by
 have key:∀(all:List End),all.Nodup->∀(now:List End)(m:Nat),(all≠[]->(es∈ch now all m↔∃t,es=now++t/\t.Sublist all/\t.getLast?=all.getLast?/\t.length<=m))/\(all≠[]->(es∈lp now all m↔∃t,es=now++t/\t.Sublist all/\t.getLast?=all.getLast?/\t.length<=m+1)):=by
  intro all
  induction all with
  |nil=>intro _ now m;exact⟨λh=>absurd rfl h,λh=>absurd rfl h⟩
  |cons a r ih=>
   intro dL;obtain⟨hna,hnr⟩:=ae9.1 dL;have ih:=ih hnr
   have V1:∀(now:List End)(m:Nat),es∈lp now (a::r) m↔∃t,es=now++t/\t.Sublist (a::r)/\t.getLast?=(a::r).getLast?/\t.length<=m+1:=by
    intro now m;unfold lp;rw[adm]
    by_cases hr:r=[]
    .subst hr;rw[if_pos rfl,adJ]
     constructor
     .rintro(h|h)
      .exact⟨[a],h,List.Sublist.refl _,rfl,ahi⟩
      .unfold lp at h;cases h
     .rintro⟨t,h1,h2,h3,h4⟩;left
      have:t=[a]:=by
       cases h2 with
       |cons _ h=>rw[List.sublist_nil.1 h]at h3;cases h3
       |cons_cons _ h=>rw[List.sublist_nil.1 h]
      rw[h1,this]
    .rw[if_neg hr]
     have hl:(a::r).getLast?=r.getLast?:=by
      cases r with
      |nil=>exact absurd rfl hr
      |cons b r=>rfl
     have h1:(es∈(match m with|0=>[]|m+1=>lp (now++[a]) r m))↔∃t,es=now++a::t/\t.Sublist r/\t.getLast?=r.getLast?/\t.length<=m:=by
      cases m with
      |zero=>
       constructor
       .intro h;cases h
       .rintro⟨t,_,_,h3,h4⟩;have:t=[]:=aeU.1 zo;subst this;exact absurd (afn.1 h3.symm) hr
      |succ m=>
       simp only;rw[(ih (now++[a]) m).2 hr];simp
     rw[hl];refine(or_congr h1 ((ih now m).2 hr)).trans ?_
     constructor
     .rintro(⟨t,a1,a2,a3,a4⟩|⟨t,a1,a2,a3,a4⟩)
      .refine⟨a::t,a1,a2.cons_cons _,?_,by simp;omega⟩
       cases t with
       |nil=>exact absurd (afn.1 a3.symm) hr
       |cons b t=>rw[<-a3];rfl
      .exact⟨t,a1,a2.cons _,a3,a4⟩
     .rintro⟨t,a1,a2,a3,a4⟩
      cases a2 with
      |cons _ h=>exact .inr ⟨t,a1,h,a3,a4⟩
      |cons_cons _ h=>
       rename_i t;left;refine⟨t,a1,h,?_,by simpa using a4⟩
       cases t with
       |nil=>
        exfalso;apply hna;exact ahb a3.symm
       |cons b t=>rw[<-a3];rfl
   intro now m;refine⟨λ_=>?_,λ_=>V1 now m⟩;unfold ch;rw[if_neg ahi]
   cases m with
   |zero=>
    constructor
    .intro h;cases h
    .rintro⟨t,_,_,h3,h4⟩;have:t=[]:=aeU.1 zo;subst this
     cases r with
     |nil=>cases h3
     |cons b r=>exact absurd (afn.1 h3.symm) ahi
   |succ m=>exact V1 now m
 intro all m h dL;exact(key all dL now m).1 h
def vo{a b c:End}(h:fS a b=true)(h':fS b c=true):fS a c=true:=by
 rw[pU]at*;omega
def jI(a:End):fS a a=false:=by
 cases h:fS a a with
 |false=>rfl
 |true=>rw[pU]at h;omega
abbrev nA(l:List End):Prop:=l.Pairwise λa b=>fS a b=true
def nA.nodup{l:List End}(h:nA l):l.Nodup:=h.imp λxC e=>by
 subst e;rw[jI]at xC;cases xC
def uC:∀{all t:List End},nA all->nA t->(∀x∈t,x∈all)->t.Sublist all
 |[],t,_,_,h=>by
  cases t with
  |nil=>exact .slnil
  |cons a t=>exact absurd (h a adx) ahi
 |a::r,[],_,_,_=>List.nil_sublist _
 |a::r,b::t,hs,ht,h=>by
  obtain⟨xB,zc⟩:=afW.1 hs;obtain⟨ht1,ht2⟩:=afW.1 ht;rcases adT.1 (h b adx)with e|hb
  .subst e;refine .cons_cons _ (uC zc ht2 λx hx=>?_);rcases adT.1 (h x (adu _ hx))with e|Iz
   .subst e;have:=ht1 _ hx;rw[jI]at this;cases this
   .exact Iz
  .refine .cons _ (uC zc ht λx hx=>?_);rcases adT.1 (h x hx)with e|Iz
   .subst e;exfalso;have h1:=xB b hb;rcases adT.1 hx with e|mC
    .subst e;rw[jI]at h1;cases h1
    .have:=vo h1 (ht1 _ mC);rw[jI]at this;cases this
   .exact Iz
def uT{l:List End}(h:∀j (hj:j+1<l.length),fS (l[j]' zo) l[j+1]=true):nA l:=by
 unfold nA;rw[ae2];intro i j hi hj ss
 obtain⟨d,rfl⟩:∃d,j=i+1+d:=⟨j-i-1,zo⟩
 clear ss
 induction d with
 |zero=>exact h i hj
 |succ d ih=>exact vo (ih zo) (h (i+1+d) hj)
section
variable{s:aI}{out:List Int}{es:List End}
def Qu(ho:gX s out=true):me s out≠[]:=by
 intro e;have:=Cu ho;rw[e]at this;cases this
def Bb(hs:bl s=true):∀w∈s.words,gf w.bU 1 (w.aU.length-1)=true:=λ_ hw=>(mU hs hw).bU
def C7(s:aI)(out:List Int)(m:Nat):List (List End):=ch [] (me s out) m
def Gl(hs:bl s=true)(ho:gX s out=true){m:Nat}:es∈C7 s out m↔mA s out es=true/\es.length<=m:=by
 have Y4:=wv (out:=out) (Bb hs);unfold C7;rw[Vz (Qu ho) (nA.nodup Y4)];unfold mA;rw[ho,agD,adk,adk,fQ,aeh,adY];have hl:=Cu ho
 constructor
 .rintro⟨t,h1,h2,h3,h4⟩;rw[List.nil_append]at h1;subst h1;rw[h3,hl]
  have cP:es≠[]:=by
   rintro rfl;rw[hl]at h3;cases h3
  have eL:nA es:=Y4.sublist h2;refine⟨⟨by simpa using cP,⟨λx hx=>C1.1 (h2.subset hx),λj hj=>ae2.1 eL j (j+1) _ _ zo⟩,rfl⟩,h4⟩
 .rintro⟨⟨h1,⟨h2,h3⟩,h4⟩,h5⟩
  have cP:es≠[]:=by
   rintro rfl;cases h1
  refine⟨es,rfl,uC Y4 (uT h3) λx hx=>C1.2 (h2 x hx),?_,h5⟩;rw[List.getLast?_eq_some_getLast cP]at h4⊢;rw[hl];exact congrArg some h4
end
def vA:List End->List End->Bool
 |[],[]=>false
 |[],_::_=>true
 |_::_,[]=>false
 |a::x,b::y=>if a=b then vA x y else fS a b
def Qi(now x y:List End):vA (now++x) (now++y)=vA x y:=by
 induction now with
 |nil=>rfl
 |cons a now ih=>
  show(if a=a then vA (now++x) (now++y)else fS a a)=_;rw[if_pos rfl,ih]
def zg:∀l:List End,vA l l=false
 |[]=>rfl
 |a::l=>by
  unfold vA;rw[if_pos rfl];exact zg l
def pZ{es:List End}:∀{all now:List End}{m:Nat},es∈lp now all m->∃b t,b∈all/\es=now++b::t
 |[],now,m,h=>by unfold lp at h;cases h
 |a::r,now,m,h=>by
  unfold lp at h;rcases adm.1 h with h|h
  .split at h
   .exact⟨a,[],adx,adJ.1 h⟩
   .split at h
    .cases h
    .obtain⟨b,t,h1,rfl⟩:=pZ h;exact⟨a,b::t,adx,ahi⟩
  .obtain⟨b,t,h1,rfl⟩:=pZ h;exact⟨b,t,adu _ h1,rfl⟩
def xi:∀{all now:List End}{m:Nat},nA all->(lp now all m).Pairwise λx y=>vA x y=true
 |[],now,m,_=>by unfold lp;exact .nil
 |a::r,now,m,hs=>by
  obtain⟨xB,zc⟩:=afW.1 hs;unfold lp;rw[afN];refine⟨?_,xi zc,?_⟩
  .split
   .exact af4 _ _
   .split
    .exact .nil
    .exact xi zc
  .intro x hx y hy;obtain⟨b,t,hb,rfl⟩:=pZ hy
   have Iz:∃u,x=now++a::u:=by
    split at hx
    .exact⟨[],adJ.1 hx⟩
    .split at hx
     .cases hx
     .obtain⟨c,u,_,rfl⟩:=pZ hx;exact⟨c::u,ahi⟩
   obtain⟨u,rfl⟩:=Iz;rw[Qi];unfold vA;have xC:=xB b hb;rw[if_neg,xC];rintro rfl;rw[jI]at xC;cases xC
def NB{all now:List End}{m:Nat}(hs:nA all):(ch now all m).Pairwise λx y=>vA x y=true:=by
 unfold ch;split
 .exact af4 _ _
 .split
  .exact .nil
  .exact xi hs
def Lk{l:List (List End)}(h:l.Pairwise λx y=>vA x y=true):l.Nodup:=h.imp λxC e=>by
 subst e;rw[zg]at xC;cases xC
def lD(s:aI)(out:List Int):List (List End):=(C7 s out s.rows.toNat).filter λes=>ld s out es 0
def xE{s:aI}{out:List Int}{es:List End}(hs:bl s=true)(ho:gX s out=true):es∈lD s out↔mA s out es=true/\ld s out es 0=true:=by
 unfold lD;rw[afy,Gl hs ho]
 constructor
 .rintro⟨⟨h1,_⟩,h2⟩;exact⟨h1,h2⟩
 .rintro⟨h1,h2⟩;refine⟨⟨h1,?_⟩,h2⟩;unfold ld at h2;simp only[adk,adr]at h2;omega
def E5{s:aI}{out:List Int}(hs:bl s=true):(lD s out).Pairwise λx y=>vA x y=true:=
 (NB (wv (Bb hs))).sublist List.filter_sublist
section
variable{α:Type}
def kF(better:α->α->Bool)(x:α)(l:List α):α:=l.foldl (λo x=>if better x o then x else o) x
end
def Dr{α:Type}[DecidableEq α]:∀{l r:List α},l.Nodup->(∀x∈l,x∈r)->l.length<=r.length
 |[],_,_,_=>ad_ _
 |a::l,r,h,hs=>by
  obtain⟨h1,h2⟩:=ae9.1 h;have ha:=hs a adx;have hl:=agS ha;have hp:=ag5 ha
  have:=Dr (r:=r.erase a) h2 λx hx=>(ahc (by rintro rfl;exact h1 hx)).2 (hs x (adu _ hx))
  simp only[List.length_cons];omega
structure Xx(w x:Word):Prop where
 aU:x.aU=w.aU
 free:x.free=w.free
 bU:∀c∈w.bU,c∈x.bU
structure jz(s x:aI):Prop where
 aM:x.aM=s.aM
 aL:x.aL=s.aL
 fI:x.fI=s.fI
 fH:x.fH=s.fH
 ir:x.ir=s.ir
 il:x.il=s.il
 bT:x.bT=s.bT
 len:x.words.length=s.words.length
 words:∀i (h:i<s.words.length),Xx s.words[i] (x.words[i]' zo)
 wide:s.wide<=x.wide
 rows:s.rows<=x.rows
section
variable{s x:aI}{out:List Int}{es:List End}
def jz.ea(h:jz s x)(i:Nat):ea x i=ea s i:=by
 unfold Tryz.ea
 by_cases hi:i<s.words.length
 .rw[adh hi,adh (by rw[h.len];exact hi)];simp only;rw[(h.words i hi).aU]
 .have:=h.len;rw[adI (show s.words.length<=i by omega),adI (show x.words.length<=i by omega)]
def jz.bQ(h:jz s x)(g:Nat×Nat):bQ x g=bQ s g:=by
 unfold Tryz.bQ
 by_cases hi:g.1<s.words.length
 .rw[adh hi,adh (by rw[h.len];exact hi)];simp only;rw[(h.words g.1 hi).aU]
 .have:=h.len;rw[adI (show s.words.length<=g.1 by omega),adI (show x.words.length<=g.1 by omega)]
def BG{s x:aI}(h:∀i,Tryz.ea x i=Tryz.ea s i)(out:List Int):∀d w f t,kn x out d w f t=kn s out d w f t
 |0,_,_,_=>rfl
 |d+1,w,f,t=>by
  unfold kn;rw[h,BG h out d]
def jz.km(h:jz s x)(i:Nat):km x out es i=km s out es i:=by
 unfold Tryz.km;split
 .unfold l0;rw[BG h.ea]
 .rfl
def jz.ly(h:jz s x)(i:Nat):ly x es i=ly s es i:=by
 unfold Tryz.ly;split
 .rw[h.ea]
 .rfl
def MX{s x:aI}(h2:x.aL=s.aL)(h3:x.fI=s.fI)(h4:x.fH=s.fH)(h5:x.ir=s.ir)(h6:x.il=s.il)(st:Int)(a b:Lt):pw x st a b=pw s st a b:=by
 unfold pw lA;rw[h2,h3,h4,h5,h6]
def Ia{s x:aI}(h1:x.aM=s.aM)(h2:x.aL=s.aL)(h3:x.fI=s.fI)(h4:x.fH=s.fH)(h5:x.ir=s.ir)(h6:x.il=s.il)(h7:x.bT=s.bT)(st:Int)(l:List Lt)(cut:Bool):lP x st l cut=lP s st l cut:=by
 have e1:∀i,ka x l i=ka s l i:=by
  intro i
  induction i with
  |zero=>rfl
  |succ i ih=>
   unfold ka;rw[ih]
   congr 1
   split
   .unfold mV;rw[h1,h7]
   .rfl
 have e2:∀i,j4 x st l i=j4 s st l i:=by
  intro i
  induction i with
  |zero=>rfl
  |succ i ih=>
   unfold j4;rw[ih]
   congr 1
   split
   .exact MX h2 h3 h4 h5 h6 st _ _
   .rfl
 unfold lP;rw[e1,e2,h3,h4,h7]
def jz.rO(h:jz s x)(st:Int)(i:Nat):rO x out es st i=rO s out es st i:=by
 unfold Tryz.rO;rw[h.km,h.ly,Ia h.aM h.aL h.fI h.fH h.ir h.il h.bT]
 congr 1
 exact aeb λg _=>h.bQ g
def jz.fl(h:jz s x)(st:Int):fl x out es st=fl s out es st:=by
 unfold Tryz.fl
 exact aeb λi _=>h.rO st i
def jz.ld(h:jz s x){st:Int}(hf:ld s out es st=true):ld x out es st=true:=by
 unfold Tryz.ld at hf⊢;rw[h.fl];simp only[adk,adw,adr]at hf⊢;have:=h.wide;have:=h.rows;exact⟨zo,λn hn=>by have:=hf.2 n hn;omega⟩
def jz.gX(h:jz s x):gX x out=gX s out:=by
 unfold Tryz.gX;rw[h.len]
 have:qq x=qq s:=by
  unfold qq
  funext n
  by_cases hi:n.toNat<s.words.length
  .rw[adh hi,adh (by rw[h.len];exact hi)];simp only;rw[(h.words _ hi).free]
  .have:=h.len;rw[adI (show s.words.length<=n.toNat by omega),adI (show x.words.length<=n.toNat by omega)]
 rw[this]
def jz.mA(h:jz s x)(hr:mA s out es=true):mA x out es=true:=by
 unfold Tryz.mA at hr⊢;rw[h.gX];simp only[adk,fQ]at hr⊢;obtain⟨h1,⟨h2,h3⟩,h4⟩:=hr;refine⟨h1,⟨λe he=>?_,h3⟩,?_⟩
 .have:=h2 e he;unfold zi at this⊢;rw[h.len]
  by_cases hi:e.1.toNat<s.words.length
  .rw[adh hi]at this;rw[adh (by rw[h.len];exact hi)];simp only[adk,aeE]at this⊢;rw[(h.words _ hi).aU];refine⟨this.1,this.2.imp id λhc=>?_⟩;have:=(h.words _ hi).bU e.2 (by simpa using hc);simpa using this
  .rw[adI zo]at this;simp at this
 .have e1:ma x out=ma s out:=by
   unfold ma;rw[h.len]
   congr 1
   by_cases hi:(lI out s.words.length).toNat<s.words.length
   .rw[adh hi,adh (by rw[h.len];exact hi)];simp only;rw[(h.words _ hi).aU]
   .have:=h.len;rw[adI (show s.words.length<=(lI out s.words.length).toNat by omega),adI (show x.words.length<=(lI out s.words.length).toNat by omega)]
  rw[e1];exact h4
def jz.D9(h:jz s x)(hs:bl s=true)(hx:bl x=true)(ho:Tryz.gX s out=true)(hm:es∈lD s out):es∈lD x out:=by
 rw[xE hx (by rw[h.gX];exact ho)];rw[xE hs ho]at hm;exact⟨h.mA hm.1,h.ld hm.2⟩
def jz.count(h:jz s x)(hs:bl s=true)(hx:bl x=true)(ho:Tryz.gX s out=true):(lD s out).length<=(lD x out).length:=
 Dr (Lk (E5 hs)) λ_ hm=>h.D9 hs hx ho hm
end
def Cn:∀{all now:List End},all≠[]->(lp now all 0).length=1
 |[],_,h=>absurd rfl h
 |a::r,now,_=>by
  unfold lp
  by_cases hr:r=[]
  .subst hr;simp[lp]
  .simp only[if_neg hr,List.nil_append];exact Cn hr
def Dn:∀{all now:List End},(lp now all 1).length=all.length
 |[],_=>rfl
 |a::r,now=>by
  unfold lp
  by_cases hr:r=[]
  .subst hr;simp[lp]
  .simp only[if_neg hr,adC,List.length_cons];rw[Cn hr,Dn];omega
def KG:∀{all now:List End},all≠[]->2*(lp now all 2).length=2+all.length*(all.length-1)
 |[],_,h=>absurd rfl h
 |a::r,now,_=>by
  unfold lp
  by_cases hr:r=[]
  .subst hr;simp[lp]
  .simp only[if_neg hr,adC,List.length_cons];rw[Dn,ahA,KG hr]
   obtain⟨n,hn⟩:∃n,r.length=n+1:=⟨r.length-1,by have:=aew.2 hr;omega⟩
   rw[hn];simp only[afz]
   have e1:(n+1+1)*(n+1)=(n+1)*n+2*(n+1):=by
    rw[aeT,ae6 (n+1) n,aeT n 1];omega
   omega
def VY{all now:List End}{m:Nat}(h:all.length<=24)(hm:m<=3):(ch now all m).length<=277:=by
 unfold ch;split
 .simp
 rename_i cP
 match m,hm with
 |0,_=>simp
 |1,_=>simp only;rw[Cn cP];omega
 |2,_=>simp only;rw[Dn];omega
 |3,_=>
  simp only;have:=KG (now:=now) cP;have:all.length*(all.length-1)<=24*23:=agt h zo;omega
def tD{l:List Int}{lo hi:Int}(h:gf l lo hi=true)(hle:lo<=hi+1):(l.length:Int)<=hi+1-lo:=by
 have h':=h;unfold gf at h;rw[fQ]at h;obtain⟨h1,h2⟩:=h
 have key:∀j (hj:j<l.length),lo+j<=l[j]:=by
  intro j
  induction j with
  |zero=>
   intro hj;have:=h1 _ (adi hj);simp[da]at this;simpa using this.1
  |succ j ih=>
   intro hj;have:=ih zo;have:=h2 j hj;simp at this;omega
 by_cases h0:l.length=0
 .omega
 .have a:=key (l.length-1) zo;have b:=h1 _ (adi (show l.length-1<l.length by omega));simp[da]at b;omega
def wY{s:aI}(hs:bl s=true){out:List Int}(n:Nat):(j5 s out n).length<=ea s n/\ea s n<=6:=by
 unfold j5 ea
 by_cases h:n<s.words.length
 .rw[adh h];have hw:=mU hs (adi h);have h1:=hw.Br;have:=tD hw.bU zo;have:=hw.y3;split
  .simp only[List.length_nil];omega
  .simp only[adC,adn,List.length_cons,List.length_nil];omega
 .rw[adI zo]
  split<;>simp
def CB{s:aI}(hs:bl s=true)(out:List Int):(me s out).length<=24:=by
 unfold me;have h4:=(gE hs).words.2
 have key:∀m:Nat,((List.range m).flatMap (j5 s out)).length<=6*m:=by
  intro m
  induction m with
  |zero=>simp
  |succ m ih=>
   rw[aeA,aeX,afD,adC];have:=wY hs (out:=out) m;omega
 have:=key s.words.length;omega
def FJ{s:aI}(hs:bl s=true)(out:List Int){m:Nat}(hm:m<=3):(C7 s out m).length<=277:=VY (CB hs out) hm
def Nb{s:aI}(hs:bl s=true)(out:List Int):(lD s out).length<=277:=
 aeo (agc _ _) (FJ hs out (by have:=(gE hs).rows;omega))
section
variable{s x:aI}{m:Nat}{z z':Nat×Nat}
end
def J4{s:aI}{out:List Int}{e:End}:zi s out e=true↔0<=e.1/\¬e.1∈out/\∃h:e.1.toNat<s.words.length,e.2=s.words[e.1.toNat].aU.length\/e.2∈s.words[e.1.toNat].bU:=by
 unfold zi da;simp only[adk,adr,aeh,afL,afu]
 constructor
 .rintro⟨⟨⟨h1,h2⟩,h3⟩,h4⟩
  have aq:e.1.toNat<s.words.length:=zo
  rw[adh aq]at h4;refine⟨h1,h3,aq,?_⟩;simpa using h4
 .rintro⟨h1,h3,aq,h4⟩;refine⟨⟨⟨h1,zo⟩,h3⟩,?_⟩;rw[adh aq];simpa using h4
def Oq{s:aI}{m:Nat}(h:s.words.length=m+1):ma s []=((m:Int),(ea s m:Int)):=by
 unfold ma
 have e:lI [] s.words.length=m:=by rw[h];unfold lI;simp
 rw[e,Int.toNat_natCast,adh zo,kI zo]
section
variable{s:aI}
def Ac(hs:bl s=true):gX s []=true:=by
 have:=(gE hs).words.1;unfold gX gf nQ;simp;omega
end
section
variable{α:Type}{len:α->Nat}{most:α->Int}
def L'(len:α->Nat)(most:α->Int)(a b:α):Bool:=decide (len a<len b)||(len a==len b&&decide (most b<most a))
end
structure fM(s x:aI)(out:List Int)(k:Nat->Nat)(N:Nat):Prop where
 pos:0<N
 n:x.words.length=N
 lt:∀i,i<N->k i<s.words.length
 mono:∀i,i+1<N->k i<k (i+1)
 Ym:∀i,i<N->out.contains (k i:Int)=false
 gap:∀i,i+1<N->∀j,k i<j->j<k (i+1)->out.contains (j:Int)=true
 first:∀j,j<k 0->out.contains (j:Int)=true
 last:∀j,k (N-1)<j->j<s.words.length->out.contains (j:Int)=true
 word:∀i,i<N->x.words[i]?=s.words[k i]?
 h1:x.aM=s.aM
 h2:x.aL=s.aL
 h3:x.fI=s.fI
 h4:x.fH=s.fH
 h5:x.ir=s.ir
 h6:x.il=s.il
 h7:x.bT=s.bT
 h8:x.wide=s.wide
 h9:x.rows=s.rows
section
variable{s x:aI}{out:List Int}{k:Nat->Nat}{N:Nat}
def fM.ea(h:fM s x out k N){i:Nat}(hi:i<N):ea x i=ea s (k i):=by
 unfold Tryz.ea;rw[h.word i hi]
def fM.GN(h:fM s x out k N):∀d i,i+d+1<N->k i<k (i+d+1)
 |0,i,hi=>h.mono i hi
 |d+1,i,hi=>afX (h.GN d i zo) (h.mono (i+d+1) hi)
def fM.lt_iff(h:fM s x out k N){i j:Nat}(hi:i<N)(hj:j<N):k i<k j↔i<j:=by
 constructor
 .intro hk
  by_cases ss:i<j
  .exact ss
  .by_cases he:i=j
   .subst he;omega
   .have:=h.GN (i-j-1) j zo;rw[show j+(i-j-1)+1=i by omega]at this;omega
 .intro ss;have:=h.GN (j-i-1) i zo;rwa [show i+(j-i-1)+1=j by omega]at this
def fM.inj(h:fM s x out k N){i j:Nat}(hi:i<N)(hj:j<N)(he:k i=k j):i=j:=by
 have h1:=h.lt_iff hi hj;have h2:=h.lt_iff hj hi;omega
def xq{d t:Nat}:∀(m w:Nat),(∀j,w<=j->j<w+m->out.contains (j:Int)=true)->kn s out (m+d) w 0 t=kn s out d (w+m) 0 t
 |0,w,_=>by rw[adW,Nat.add_zero]
 |m+1,w,h=>by
  rw[show m+1+d=(m+d)+1 by omega];show(if out.contains (w:Int)then[]else qx w 0 (ea s w))++kn s out (m+d) (w+1) 0 t=_;rw[h w zo zo,if_pos rfl,List.nil_append,xq m (w+1) (λj h1 h2=>h j zo zo),show w+1+m=w+(m+1) by omega]
def rK(k:Nat->Nat)(g:Nat×Nat):Nat×Nat:=(k g.1,g.2)
def LX(w f t:Nat):(qx w f t).map (rK k)=qx (k w) f t:=by
 unfold qx;rw[aeu];rfl
def fM.kn(h:fM s x out k N){t:Nat}:∀d w f,w+d<N->(kn x [] d w f t).map (rK k)=kn s out (k (w+d)-k w) (k w) f t
 |0,w,f,_=>by
  rw[Nat.add_zero,agR];exact LX w f t
 |d+1,w,f,hw=>by
  have m1:=h.mono w zo
  have m2:k (w+1)<=k (w+1+d):=by
   cases d with
   |zero=>exact adl _
   |succ d=>exact agn (h.GN d (w+1) zo)
  rw[show w+(d+1)=w+1+d by omega];rw[show k (w+1+d)-k w=((k (w+1)-k w-1)+(k (w+1+d)-k (w+1)))+1 by omega];show List.map (rK k) ((if([]:List Int).contains (w:Int)then[]else qx w f (Tryz.ea x w))++Tryz.kn x [] d (w+1) 0 t)=(if out.contains (k w:Int)then[]else qx (k w) f (Tryz.ea s (k w)))++Tryz.kn s out ((k (w+1)-k w-1)+(k (w+1+d)-k (w+1))) (k w+1) 0 t;rw[if_neg ahi,h.Ym w zo,if_neg ahi,adL,LX,h.ea zo,h.kn d (w+1) 0 zo,xq _ _ λj h1 h2=>h.gap w zo j zo zo,show k w+1+(k (w+1)-k w-1)=k (w+1) by omega]
def uM(k:Nat->Nat)(e:End):End:=((k e.1.toNat:Int),e.2)
def U9(e:End):nE (uM k e)=rK k (nE e):=rfl
def Aj(es:List End)(i:Nat):nr es (i+1)=match es[i]? with|some e=>nE e|none=>(0,0):=rfl
def Th(es:List End)(i:Nat):nr (es.map (uM k)) (i+1)=if i<es.length then rK k (nr es (i+1))else(0,0):=by
 rw[Aj,Aj,adO]
 by_cases hi:i<es.length
 .rw[adh hi,if_pos hi];rfl
 .rw[adI zo,if_neg hi];rfl
def Vk(N:Nat)(es:List End):Prop:=∀e∈es,0<=e.1/\e.1.toNat<N
def fM.km(h:fM s x out k N){es:List End}(hr:Vk N es)(hs:∀j (hj:j+1<es.length),es[j].1.toNat<=es[j+1].1.toNat)(i:Nat)(hi:i<es.length):(km x [] es i).map (rK k)=km s out (es.map (uM k)) i:=by
 have di:i<(es.map (uM k)).length:=by rw[adn];exact hi
 rw[sH hi,sH di,adz,U9];have he:=hr _ (adi hi)
 cases i with
 |zero=>
  have h0:=h.kn (t:=(nE es[0]).2) (nE es[0]).1 0 0 (by rw[adW];exact he.2);show List.map (rK k) (Tryz.kn x [] ((nE es[0]).1-0) 0 0 (nE es[0]).2)=Tryz.kn s out (k (nE es[0]).1-0) 0 0 (nE es[0]).2;rw[Nat.sub_zero,Nat.sub_zero,h0,adW]
  have hk:k 0<=k (nE es[0]).1:=by
   by_cases hz:(nE es[0]).1=0
   .rw[hz];exact adl _
   .exact agn ((h.lt_iff h.pos he.2).2 (Nat.pos_of_ne_zero hz))
  have:=xq (s:=s) (out:=out) (d:=k (nE es[0]).1-k 0) (t:=(nE es[0]).2) (k 0) 0 λj _ h2=>h.first j zo
  rw[show k 0+(k (nE es[0]).1-k 0)=k (nE es[0]).1 by omega,adW]at this;exact this.symm
 |succ i=>
  have ha:nr es (i+1)=nE es[i]:=by rw[Aj,adh zo]
  have hb:=hr _ (adi (by omega:i<es.length));have hle:=hs i hi;rw[Th,if_pos zo,ha]
  have:=h.kn (t:=(nE es[i+1]).2) ((nE es[i+1]).1-(nE es[i]).1) (nE es[i]).1 (nE es[i]).2 (by
   show es[i].1.toNat+(es[i+1].1.toNat-es[i].1.toNat)<N
   have:=he.2;omega)
  rw[show(nE es[i]).1+((nE es[i+1]).1-(nE es[i]).1)=(nE es[i+1]).1 by show es[i].1.toNat+(es[i+1].1.toNat-es[i].1.toNat)=es[i+1].1.toNat;omega]at this;exact this
def fM.ly(h:fM s x out k N){es:List End}(hr:Vk N es)(i:Nat)(hi:i<es.length):ly x es i=ly s (es.map (uM k)) i:=by
 have di:i<(es.map (uM k)).length:=by rw[adn];exact hi
 rw[D1 hi,D1 di,adz];show decide (es[i].2<(Tryz.ea x es[i].1.toNat:Int))=decide (es[i].2<(Tryz.ea s ((k es[i].1.toNat:Int)).toNat:Int));rw[Int.toNat_natCast,h.ea (hr _ (adi hi)).2]
def fM.RA(h:fM s x out k N){g:Nat×Nat}(hg:g.1<N):(bQ x g).2=(bQ s (rK k g)).2:=by
 unfold bQ rK;simp only;rw[h.word _ hg]
def fM.mV(h:fM s x out k N){a b:Lt}(he:a.2=b.2):mV x a=mV s b:=by
 unfold Tryz.mV;rw[he,h.h1,h.h7]
def fM.pw(h:fM s x out k N)(st:Int){f g:Nat×Nat}(hf:f.1<N)(hg:g.1<N):pw x st (bQ x f) (bQ x g)=pw s st (bQ s (rK k f)) (bQ s (rK k g)):=by
 have e:lA x (bQ x f) (bQ x g)=lA s (bQ s (rK k f)) (bQ s (rK k g)):=by
  unfold lA;rw[h.RA hf,h.RA hg,h.h2,h.h3,h.h4,h.h5,h.h6]
  by_cases he:f.1=g.1
  .rw[if_pos (by unfold bQ;simp only;omega),if_pos (by unfold bQ rK;simp only;rw[he])]
  .rw[if_neg (by unfold bQ;simp only;omega),if_neg];unfold bQ rK;simp only;intro hc;exact he (h.inj hf hg zo)
 unfold Tryz.pw;rw[e]
def fM.lP(h:fM s x out k N)(st:Int){l:List (Nat×Nat)}(hl:∀g∈l,g.1<N)(cut:Bool):lP x st (l.map (bQ x)) cut=lP s st ((l.map (rK k)).map (bQ s)) cut:=by
 have e1:∀i,ka x (l.map (bQ x)) i=ka s ((l.map (rK k)).map (bQ s)) i:=by
  intro i
  induction i with
  |zero=>rfl
  |succ i ih=>
   unfold ka;rw[ih,aeu,adO,adO]
   by_cases hi:i<l.length
   .rw[adh hi];show _+Tryz.mV x (bQ x l[i])=_+Tryz.mV s (bQ s (rK k l[i]));rw[h.mV (h.RA (hl _ (adi hi)))]
   .rw[adI zo];rfl
 have e2:∀i,j4 x st (l.map (bQ x)) i=j4 s st ((l.map (rK k)).map (bQ s)) i:=by
  intro i
  induction i with
  |zero=>rfl
  |succ i ih=>
   unfold j4;rw[ih,aeu,adO,adO,adO,adO]
   by_cases hi:i+1<l.length
   .rw[adh (by omega:i<l.length),adh hi];show _+Tryz.pw x st (bQ x l[i]) (bQ x l[i+1])=_+Tryz.pw s st (bQ s (rK k l[i])) (bQ s (rK k l[i+1]));rw[h.pw st (hl _ (adi _)) (hl _ (adi hi))]
   .rw[adI (by omega:l.length<=i+1)]
    cases l[i]?<;>rfl
 unfold Tryz.lP;rw[e1,e2,h.h3,h.h4,h.h7];simp only[adn]
end
section
variable{s x:aI}{out:List Int}{k:Nat->Nat}{N:Nat}
def fM.lI(h:fM s x out k N):Tryz.lI out s.words.length=(k (N-1):Int):=by
 have hp:=h.pos;have hl:=h.lt (N-1) zo
 have:∀n,k (N-1)<n->n<=s.words.length->Tryz.lI out n=(k (N-1):Int):=by
  intro n
  induction n with
  |zero=>intro h1;omega
  |succ n ih=>
   intro h1 h2;unfold Tryz.lI
   by_cases he:n=k (N-1)
   .subst he;rw[h.Ym _ zo];rfl
   .rw[h.last n zo zo,if_pos rfl];exact ih zo zo
 exact this _ hl (adl _)
def fM.zi(h:fM s x out k N){e:End}(h0:0<=e.1)(hn:e.1.toNat<N):Tryz.zi x [] e=true↔Tryz.zi s out (uM k e)=true:=by
 rw[J4,J4];have hk:=h.lt _ hn
 have hx:e.1.toNat<x.words.length:=by rw[h.n];exact hn
 have hw:=h.word _ hn;rw[adh hx,adh hk]at hw;have hw:=adM hw;have hi:=h.Ym _ hn
 constructor
 .rintro⟨_,_,_,h3⟩;refine⟨by show(0:Int)<=(k e.1.toNat:Int);omega,?_,?_⟩
  .show¬(k e.1.toNat:Int)∈out;simpa using hi
  .refine⟨by show(k e.1.toNat:Int).toNat<_;omega,?_⟩;show e.2=((s.words[(k e.1.toNat:Int).toNat]'_).aU.length:Int)\/e.2∈(s.words[(k e.1.toNat:Int).toNat]'_).bU;simp only[Int.toNat_natCast];rw[<-hw];exact h3
 .rintro⟨_,_,_,h3⟩;refine⟨h0,ahi,hx,?_⟩;have h3:e.2=((s.words[(k e.1.toNat:Int).toNat]'(by rw[Int.toNat_natCast];exact hk)).aU.length:Int)\/e.2∈(s.words[(k e.1.toNat:Int).toNat]'(by rw[Int.toNat_natCast];exact hk)).bU:=h3;simp only[Int.toNat_natCast]at h3;rw[hw];exact h3
def fM.Pn(h:fM s x out k N){a b:End}(ha:0<=a.1/\a.1.toNat<N)(hb:0<=b.1/\b.1.toNat<N):fS a b=fS (uM k a) (uM k b):=by
 have h1:=h.lt_iff ha.2 hb.2
 have h2:k a.1.toNat=k b.1.toNat↔a.1.toNat=b.1.toNat:=⟨h.inj ha.2 hb.2,λe=>by rw[e]⟩
 unfold fS uM;rw[ad5];simp only[aeE,adk,adr,adY];omega
def fM.mA(h:fM s x out k N)(ho:gX s out=true)(hx:gX x []=true){es:List End}(hr:Vk N es):Tryz.mA x [] es=Tryz.mA s out (es.map (uM k)):=by
 have OJ:(es.getLast?.getD (-1,0)==ma x [])=((es.map (uM k)).getLast?.getD (-1,0)==ma s out)\/es=[]:=by
  by_cases cP:es=[]
  .exact .inr cP
  refine .inl ?_
  obtain⟨e,he⟩:∃e,es.getLast?=some e:=by cases hh:es.getLast? with|none=>exact absurd (afn.1 hh) cP|some e=>exact⟨e,rfl⟩
  have hem:=ahb he;have hee:=hr e hem;have hp:=h.pos;rw[List.getLast?_map,he]
  show(e==ma x [])=(uM k e==ma s out)
  have e1:ma x []=(((N-1:Nat):Int),(Tryz.ea x (N-1):Int)):=Oq (by rw[h.n];omega)
  have e2:ma s out=((k (N-1):Int),(Tryz.ea s (k (N-1)):Int)):=by
   unfold ma;rw[h.lI,Int.toNat_natCast];unfold Tryz.ea;rw[adh (h.lt _ zo)]
  rw[e1,e2,h.ea zo,ad5,adY,adY]
  constructor
  .rintro rfl;show((k ((N-1:Nat):Int).toNat:Int),(Tryz.ea s (k (N-1)):Int))=_;rw[Int.toNat_natCast]
  .intro hh;have a1:(k e.1.toNat:Int)=(k (N-1):Int):=congrArg Prod.fst hh;have a2:e.2=(Tryz.ea s (k (N-1)):Int):=congrArg Prod.snd hh;have:=h.inj hee.2 zo (by omega:k e.1.toNat=k (N-1));exact Prod.ext (by show e.1=((N-1:Nat):Int);omega) a2
 rcases OJ with OJ|rfl
 .unfold Tryz.mA;rw[ho,hx,OJ]
  have e1:(es.map (uM k)).isEmpty=es.isEmpty:=by cases es<;>rfl
  have e2:nQ (Tryz.zi x []) fS es=nQ (Tryz.zi s out) fS (es.map (uM k)):=by
   rw[ad5,fQ,fQ]
   constructor
   .rintro⟨h1,h2⟩;refine⟨λe he=>?_,λj hj=>?_⟩
    .obtain⟨e',oA,rfl⟩:=adF.1 he;exact(h.zi (hr _ oA).1 (hr _ oA).2).1 (h1 _ oA)
    .have dU:j+1<es.length:=by simpa using hj
     rw[adz,adz,<-h.Pn (hr _ (adi _)) (hr _ (adi _))];exact h2 j dU
   .rintro⟨h1,h2⟩;refine⟨λe he=>?_,λj hj=>?_⟩
    .exact(h.zi (hr _ he).1 (hr _ he).2).2 (h1 _ (afr he))
    .have:=h2 j (by simpa using hj);rw[adz,adz,<-h.Pn (hr _ (adi _)) (hr _ (adi _))]at this;exact this
  rw[e1,e2]
 .unfold Tryz.mA;simp
def fM.ld(h:fM s x out k N){es:List End}(hr:Vk N es)(hs:∀j (hj:j+1<es.length),es[j].1.toNat<=es[j+1].1.toNat)(mj:∀i,i<es.length->∀g∈Tryz.km x [] es i,g.1<N)(st:Int):Tryz.ld x [] es st=Tryz.ld s out (es.map (uM k)) st:=by
 have e:fl x [] es st=fl s out (es.map (uM k)) st:=by
  unfold fl;rw[adn]
  refine aeb λi hi=>?_
  have hi:i<es.length:=adQ.1 hi;unfold rO;rw[h.lP st (mj i hi),h.km hr hs i hi,h.ly hr i hi]
 unfold Tryz.ld;rw[e,adn,h.h8,h.h9]
end
def ql(l:List Int):Nat:=match l.getLast? with|some x=>x.toNat+1|none=>0
def Ma{s:aI}{l:List Int}(h:gX s l=true):l.length<s.words.length:=by
 unfold gX at h;simp only[adk,adr]at h;exact h.1.2
def pq(s:aI)(i:Nat):Bool:=!qq s (i:Int)
def EJ{α β:Type}{l:List α}{f g:α->List β}(h:∀a∈l,f a=g a):l.flatMap f=l.flatMap g:=by
 rw[List.flatMap_def,List.flatMap_def,aeb h]
def wL(s:aI):Nat->List Int->List (List Int)
 |0,now=>[now]
 |d+1,now=>(List.range' (ql now) (s.words.length-ql now)).flatMap λi:Nat=>if pq s i then wL s d (now++[(i:Int)])else[]
def QL{s:aI}{l:List Int}(h:gX s l=true){i:Nat}(h1:ql l<=i)(h2:i<s.words.length)(h3:l.length+1<s.words.length):gX s (l++[(i:Int)])=pq s i:=by
 unfold gX at h;simp only[adk,adr,aeh,aeg]at h;obtain⟨⟨a1,a2⟩,a3⟩:=h;unfold gf at a1;rw[fQ]at a1;obtain⟨a1,a4⟩:=a1
 have hr:gf (l++[(i:Int)]) 0 (s.words.length-1)=true:=by
  unfold gf;rw[fQ]
  constructor
  .intro x hx;rcases adm.1 hx with hx|hx
   .exact a1 x hx
   .rw[adJ]at hx;subst hx;simp only[da,adk,adr];omega
  .intro j hj;rw[adC,List.length_singleton]at hj
   by_cases qC:j+1<l.length
   .rw[adZ zo,adZ qC];exact a4 j qC
   .rw[adZ zo,aep zo,List.getElem_singleton]
    have hf:ql l=(l[j]' zo).toNat+1:=by
     unfold ql;rw[List.getLast?_eq_getElem?,show l.length-1=j by omega,adh zo]
    have:=a1 _ (adi (by omega:j<l.length));simp only[da,adk,adr]at this;simp only[adr];omega
 unfold gX pq;rw[hr,adC,List.length_singleton,af2 zo,List.any_append]
 have:l.any (qq s)=false:=by rw[aeg];exact a3
 rw[this];simp
end Go.Proofs.Tryz
namespace Go.Proofs.Tryz
open Go Go.AL Go.RowKit Go.Proofs Go.Proofs.Tram
attribute [local simp] eD fG fB eR eQ d_ ec dE dJ eP dF df ik ig aF aD ev aP.S aP.H bw au aX AL.start AV.cells AV.storable AV.cy bB cd dS cb HR.okB post cM dc de AV.out AV.cg cZ dZ fz gZ AV.vw cW vI int cz aN dk dP iS jN eM dV bG AV.aJ AV.cI
variable{GI:World->Prop}
def gA(g:Nat×Nat):AV:=.agg [.int .i64 g.1,.int .i64 g.2]
def a_(s:aI):List AV:=ai s++[cn s.aL]
def iz(s:aI):AV:=.agg (a_ s)
def Mr(l:List (Nat×Nat))(cut:Bool):AV:=Hp ⟨l.map gA,cut⟩
def M9(s:aI)(g:Nat×Nat):Prop:=g.1<s.words.length/\g.2<ea s g.1
def Nq(hG:ar GI)(s:aI){g:Nat×Nat}(h:M9 s g):AC prog GI 190 [iz s,gA g] (.ret (.int .i64 (bQ s g).2)):=by
 obtain⟨h1,h2⟩:=h;rw[kI h1]at h2
 have hr:(bQ s g).2=s.words[g.1].aU[g.2]:=by unfold bQ;simp[adh h1,h2]
 rw[hr];refine cw hG func190 ntmps190 c190 ?_;refine aK (λS H=>S 2=.box 2 0/\S 3=.box 3 0/\H 2=some (a_ s)/\H 3=some [.int .i64 g.1,.int .i64 g.2]) (by simp[iz,a_,gA,ai,cn]) ?_;rintro S H ⟨s2,s3,e2,e3⟩;simp[s2,s3,e2,e3,a_,ai,cn,h1,h2,cD]
def G9(hG:ar GI){lo hi st:Int}(h0:0<=lo)(h1:lo<=hi)(h2:hi<=20)(h3:0<=st)(h4:st<=10):AC prog GI 193 [.agg [.int .i64 lo,.int .i64 hi],.int .i64 st] (.ret (.int .i64 (mW lo hi st))):=by
 have Z4:0<=(hi-lo)*st:=ad8 zo h3;have Xv:(hi-lo)*st<=20*10:=aec zo h4 h3 zo;have hb:=nZ h1 h3 h4;unfold mW at hb;have w1:IntKind.i64.wrap (hi-lo)=hi-lo:=aT zo;have w2:IntKind.i64.wrap ((hi-lo)*st)=(hi-lo)*st:=aT zo;have w3:IntKind.i64.wrap (((hi-lo)*st).tdiv 10)=((hi-lo)*st).tdiv 10:=aT zo;have w4:IntKind.i64.wrap (lo+((hi-lo)*st).tdiv 10)=lo+((hi-lo)*st).tdiv 10:=aT zo;refine cw hG func193 ntmps193 c193 ?_;simp[c193,w1,w2,w3,w4,mW]
def A4(x y:Int):∀(ps:List jY),oD [x,y] (ps.map ug) (ps.map po)=some ((ps.find? λp=>p.l==x&&p.r==y).map po)
 |[]=>rfl
 |p::ps=>by
  show oD [x,y] (ug p::ps.map ug) (po p::ps.map po)=_;unfold oD;simp only[ug,ku,Option.map_some];simp only[List.length_cons,List.length_nil,ne_eq,aeV,adH];rw[List.find?_cons]
  by_cases hp:p.l=x/\p.r=y
  .obtain⟨rfl,rfl⟩:=hp;simp
  .have h1:([x,y]==[p.l,p.r])=false:=by
    simp only[ad4,ne_eq,ae7,agP];rintro⟨rfl,rfl⟩;exact hp ⟨rfl,rfl⟩
   have h2:(p.l==x&&p.r==y)=false:=by
    rw[agd];simp only[ad4]
    by_cases h:p.l=x
    .exact .inr λh'=>hp ⟨h,h'⟩
    .exact .inl h
   rw[h1,h2];exact A4 x y ps
def YJ(hG:ar GI)(s:aI)(hF:p6 s){a b:Nat×Nat}(ha:M9 s a)(hb:M9 s b){st:Int}(h3:0<=st)(h4:st<=10):AC prog GI 192 [iz s,gA a,gA b,.int .i64 st] (.ret (.int .i64 (pw s st (bQ s a) (bQ s b)))):=by
 have qO:=wR hF (bQ s a) (bQ s b);refine cw hG func192 ntmps192 c192 ?_;refine aK (λS H=>S 4=.box 4 0/\S 5=.box 5 0/\S 6=.box 6 0/\S 3=.int .i64 st/\H 4=some (a_ s)/\H 5=some [.int .i64 a.1,.int .i64 a.2]/\H 6=some [.int .i64 b.1,.int .i64 b.2]) (by simp[iz,a_,gA,ai,cn]) ?_;rintro S H ⟨s4,s5,s6,s3,e4,e5,e6⟩
 by_cases hw:a.1=b.1
 case neg=>
  have l8:lA s (bQ s a) (bQ s b)=(s.ir,s.il):=by
   unfold lA bQ;rw[if_neg];simp only;omega
  have Ue:((a.1:Int)!=(b.1:Int))=true:=by simp;omega
  unfold pw;rw[l8]at qO⊢;simp[s4,s5,s6,s3,e4,e5,e6,a_,ai,cn,Ue];refine⟨_,zk,G9 hG qO.1 qO.2.1 qO.2.2 h3 h4,λ_=>rfl,?_⟩;simp
 have vV:(bQ s a).1=(bQ s b).1:=by unfold bQ;simp only;omega
 have Ue:((a.1:Int)!=(b.1:Int))=false:=by simp;omega
 simp[s4,s5,s6,s3,e4,e5,e6,a_,ai,cn,Ue];refine oc (Nq hG s ha) ?_;simp[s4,s5,s6,s3,e4,e5,e6,a_,ai,cn,Ue];refine oc (Nq hG s hb) ?_;simp[s4,s5,s6,s3,e4,e5,e6,a_,ai,cn,Ue,Dt,bI,A4]
 cases hf:s.aL.find? λp=>p.l==(bQ s a).2&&p.r==(bQ s b).2 with
 |some p=>
  have l8:lA s (bQ s a) (bQ s b)=(p.lo,p.hi):=by unfold lA;rw[if_pos vV,hf]
  unfold pw;rw[l8]at qO⊢;simp[s4,s5,s6,s3,e4,e5,e6,po];refine⟨_,zk,G9 hG qO.1 qO.2.1 qO.2.2 h3 h4,λ_=>rfl,?_⟩;simp
 |none=>
  have l8:lA s (bQ s a) (bQ s b)=(s.fI,s.fH):=by unfold lA;rw[if_pos vV,hf]
  unfold pw;rw[l8]at qO⊢;simp[s4,s5,s6,s3,e4,e5,e6,a_,ai,cn];refine⟨_,zk,G9 hG qO.1 qO.2.1 qO.2.2 h3 h4,λ_=>rfl,?_⟩;simp
def vq{l:List Int}(h:∀x∈l,0<=x/\x<=1000):0<=l.sum/\l.sum<=1000*l.length:=by
 induction l with
 |nil=>simp
 |cons a l ih=>
  have h1:=h a adx
  have h2:=ih λx hx=>h x (adu _ hx)
  simp only[List.sum_cons,List.length_cons];omega
def Fu{l:List Int}{i:Nat}(h:i<l.length):(l.take (i+1)).sum=(l.take i).sum+l[i]:=by
 rw[adp h,aeR];simp
def IM(hG:ar GI)(l:List Int)(hl:l.length<100000)(h:∀x∈l,0<=x/\x<=1000):AC prog GI 191 [vI l] (.ret (.int .i64 l.sum)):=by
 refine cw hG func191 ntmps191 c191 ?_;simp[c191];refine bu 8 l.length (λi S H=>S 6=vI l/\S 7=.int .i64 l.length/\S 8=.int .i64 (i:Nat)/\S 3=.int .i64 (l.take i).sum) (λi S H h=>h.2.2.1) ⟨ahi,ahi,ahi,ahi⟩ ?_;rintro i hi S H ⟨s6,s7,s8,s3⟩
 by_cases aq:i<l.length
 .have hb:=vq (l:=l.take i) λx hx=>h x (adU hx)
  have hx:=h l[i] (adi aq);rw[adA]at hb;have hw:IntKind.i64.wrap ((i:Int)+1)=i+1:=aT zo;have ln:IntKind.i64.wrap ((l.take i).sum+l[i])=(l.take i).sum+l[i]:=aT zo;rw[Fu aq];generalize(l.take i).sum=y at s3 ln⊢;simp[s6,s7,s8,s3,aq,hw,ln]
 .have di:i=l.length:=zo
  subst di;rw[aeB]at s3;simp[s6,s7,s8,s3]
def jA(l:List Int):AV:=grow 3 (l.map (AV.int .i64))
def vG(l:List Int):aG 1 (l.map (AV.int .i64))=true:=iC λa=>⟨rfl,rfl⟩
def Bt(l:List Int):(jA l=.slice .nil []/\l=[])\/jA l=.slice (.own 3) (ints l):=by
 unfold jA grow
 cases l with
 |nil=>exact .inl ⟨rfl,rfl⟩
 |cons a l=>exact .inr rfl
def BC(s:aI)(l:List Lt):∀i,i<=l.length->ka s l i=((l.take i).map (mV s)).sum
 |0,_=>rfl
 |i+1,h=>by
  rw[Bz zo,BC s l i zo,adp zo,adL,aeR];simp
def ke(s:aI)(st:Int)(l:List Lt):Nat->List Int
 |0=>[]
 |i+1=>ke s st l i++(if 0<i then match l[i-1]?,l[i]? with
  |some a,some b=>[pw s st a b]
  |_,_=>[]else[])
def Ef{s:aI}{st:Int}{l:List Lt}{i:Nat}(h:i+1<l.length):ke s st l (i+2)=ke s st l (i+1)++[pw s st (l[i]' zo) l[i+1]]:=by
 show ke s st l (i+1)++_=_;rw[if_pos zo,show i+1-1=i by omega,adh (by omega:i<l.length),adh h]
def FF{s:aI}{st:Int}{l:List Lt}:∀i,i+1<=l.length->(ke s st l (i+1)).sum=j4 s st l i
 |0,_=>rfl
 |i+1,h=>by
  rw[Ef zo,Bx zo,aeR,FF i zo];simp
def F'{s:aI}(hF:p6 s){st:Int}(h0:0<=st)(h1:st<=10){l:List Lt}:∀i,∀x∈ke s st l i,0<=x/\x<=20
 |0,x,hx=>by cases hx
 |i+1,x,hx=>by
  unfold ke at hx;rw[adm]at hx;rcases hx with hx|hx
  .exact F' hF h0 h1 i x hx
  .split at hx
   .split at hx
    .rw[adJ]at hx;subst hx;exact AR hF h0 h1 _ _
    .cases hx
   .cases hx
def zZ{s:aI}{st:Int}{l:List Lt}:∀i,(ke s st l i).length<=i
 |0=>adl _
 |i+1=>by
  have:=zZ (s:=s) (st:=st) (l:=l) i;unfold ke;rw[adC];split
  .split<;>simp<;>omega
  .simp;omega
def GC{s:aI}(hs:bl s=true):∀i j (hi:i<s.aL.length)(hj:j<s.aL.length),i<j->¬(s.aL[i].l=s.aL[j].l/\s.aL[i].r=s.aL[j].r):=by
 unfold bl at hs;simp only[adk]at hs;have h:=hs.1.2;rw[fQ]at h
 have hp:nA (s.aL.map λp=>(p.l,p.r)):=uT λj hj=>by
  rw[adz,adz];exact h.2 j (by simpa using hj)
 intro i j hi hj ss he;have:=ae2.1 hp i j (by simpa using hi) (by simpa using hj) ss;rw[adz,adz,he.1,he.2,jI]at this;cases this
def OR(hG:ar GI)(s:aI)(hs:bl s=true):AC prog GI 139 [cC s] (.ret (iz s)):=by
 have hF:=gE hs;exact Zo hG (sA:=ai s) (ps:=s.aL) rfl rfl (by simp[ai,vI,int,AV.storable,isVal]) (by have:=hF.R_;omega) (GC hs)
def aa5(hG:ar GI)(s:aI)(hs:qE s):AC prog GI 77 [cC s] (.ret (.int .i64 (if bl s then 0 else 2))):=by
 refine cw hG func77 ntmps77 c77 ?_;refine aK (λS H=>S 1=.box 1 0/\H 1=some (ai s)) (by simp[cC,ai]) ?_;rintro S H ⟨s1,e1⟩;simp[s1,e1,ai];refine⟨_,zk,F4 hG s hs,λ_=>rfl,?_⟩
 cases fE:bl s<;>simp
def G2(s:aI)(out:List Int)(es:List End)(st:Int):(fl s out es st).length=es.length:=by unfold fl;simp
structure fV where
 lo:Int
 hi:Int
 hid:Bool
def fR(c:fV):AV:=.agg [.int .i64 c.lo,.int .i64 c.hi,.bool c.hid]
structure az where
 cells:List fV
 pos:Int
 reach:Int
 eX:Int
 dQ:Int
 name:aI
def av(s:az):List AV:=[.slice .view (s.cells.map fR),.int .i64 s.pos,.int .i64 s.reach,.int .i64 s.eX,.int .i64 s.dQ]++ai s.name
def bm(s:az):AV:=.agg (av s)
def wD(hG:ar GI)(n lo hi:Int):AC prog GI 61 [.int .i64 n,.int .i64 lo,.int .i64 hi] (.ret (.bool (da n lo hi))):=by
 refine cw hG func61 ntmps61 c61 ?_
 by_cases h1:lo<=n<;>by_cases h2:n<=hi<;>simp[c61,da,h1,h2]
def j3(x:fV):Bool:=!da x.lo 1 20||!da x.hi x.lo 20
def abz(hG:ar GI)(x:fV):AC prog GI 75 [fR x] (.ret (.bool (j3 x))):=by
 refine cw hG func75 ntmps75 c75 ?_;simp[c75,fR];refine oc (wD hG x.lo 1 20) ?_;cases h1:da x.lo 1 20
 .simp[j3,h1]
 .simp;refine oc (wD hG x.hi x.lo 20) ?_;simp[j3,h1]
def Yo(hG:ar GI)(x:fV):AC prog GI 115 [fR x] (.ret (.int .i64 x.lo)):=by
 refine cw hG func115 ntmps115 c115 ?_;simp[c115,fR]
def aac(hG:ar GI)(x:fV):AC prog GI 116 [fR x] (.ret (.int .i64 x.hi)):=by
 refine cw hG func116 ntmps116 c116 ?_;simp[c116,fR]
def aad (hG:ar GI) (l:List fV) (hl:l.length < 1000000) (k:Nat) (p:fV→Bool) (hk:eb prog k=true) (h:∀ x∈l,AC prog GI k [fR x] (.ret (.bool (p x)))) :
  AC prog GI 120 [.slice .view (l.map fR),.func (.func k) [] []] (.ret (.int .i64 (firstT p l))):=by
 refine cw hG func120 ntmps120 c120 ?_;simp[c120];refine bu 8 l.length (λi S H=>S 0=.slice .view (l.map fR)/\S 1=_/\S 7=.int .i64 l.length/\S 8=.int .i64 (i:Nat)/\∀j (hj:j<l.length),j<i->p l[j]=false) (λi S H h=>h.2.2.2.1) ⟨ahi,by simp<;>rfl,ahi,ahi,ahi⟩ ?_;rintro i hi S H ⟨s0,s1,s7,s8,hb⟩
 by_cases aq:i<l.length
 .have hw:IntKind.i64.wrap ((i:Int)+1)=i+1:=aT zo;have hx:=h l[i] (adi aq);cases hp:p l[i]
  .simp[adz,fR,s0,s1,s7,s8,aq];refine⟨_,hk,hx,by simp[cW],?_⟩;simp[s0,s1,s7,s8,aq,hp,hw];intro j hj fD
   by_cases Dy:j=i
   .subst Dy;exact hp
   .exact hb j hj zo
  .simp[adz,fR,s0,s1,s7,s8,aq];refine⟨_,hk,hx,by simp[cW],?_⟩;simp[s0,s1,s7,s8,aq,hp,hw];exact mQ aq hp hb
 .have di:i=l.length:=zo
  subst di;simp[s0,s1,s7,s8]
  exact kG λj hj=>hb j hj hj
def ack (hG:ar GI) (l:List fV) (hl:l.length < 1000000) (k:Nat) (p:fV→Bool) (hk:eb prog k=true) (h:∀ x∈l,AC prog GI k [fR x] (.ret (.bool (p x)))) :
  AC prog GI 76 [.slice .view (l.map fR),.func (.func k) [] []] (.ret (.bool (l.any p))):=by
 have hF:=aad hG l hl k p hk h;refine cw hG func76 ntmps76 c76 ?_;simp[c76];refine⟨_,zk,hF,λ_=>rfl,?_⟩;simp;exact nh.symm
def dn(s:az):Bool:=da s.cells.length 1 12&&!s.cells.any j3&&da s.pos 1 s.cells.length&&da s.reach 1 12&&da s.eX 1 9&&da s.dQ 0 9&&bl s.name
structure fW(s:az):Prop where
 cells:s.cells.length<1000000
 name:qE s.name
def rk(hG:ar GI)(s:az)(hs:fW s):AC prog GI 32 [bm s] (.ret (.bool (dn s))):=by
 refine cw hG func32 ntmps32 c32 ?_;simp[c32,bm,av,ai];refine oc (wD hG s.cells.length 1 12) ?_;cases e1:da s.cells.length 1 12
 .simp[dn,e1]
 simp;refine oc (ack hG s.cells hs.cells 75 j3 zk (λx _=>abz hG x)) ?_;cases e3:s.cells.any j3
 case true=>simp[dn,e1,e3]
 simp;refine oc (wD hG s.pos 1 s.cells.length) ?_;cases e4:da s.pos 1 s.cells.length
 .simp[dn,e1,e3,e4]
 simp;refine oc (wD hG s.reach 1 12) ?_;cases e5:da s.reach 1 12
 .simp[dn,e1,e3,e4,e5]
 simp;refine oc (wD hG s.eX 1 9) ?_;cases e6:da s.eX 1 9
 .simp[dn,e1,e3,e4,e5,e6]
 simp;refine oc (wD hG s.dQ 0 9) ?_;cases e7:da s.dQ 0 9
 .simp[dn,e1,e3,e4,e5,e6,e7]
 simp;refine oc (aa5 hG s.name hs.name) ?_
 cases e8:bl s.name<;>simp[dn,e1,e3,e4,e5,e6,e7,e8]
def nD(k:Nat):Value:=.func (.func k) #[] #[]
def xj(e:Nat)(c:fV):Int:=if e=0 then c.lo else c.hi
def cj(e:Nat)(s:az):List Int:=s.cells.map (xj e)
def vP(e:Nat):Nat->Op->Op
 |2,_=>.fieldAddr 26 (.tmp 5) e
 |3,_=>.move (.func (115+e))
 |_,op=>op
def KC(s:az)(e i:Nat)(S:an)(H:ao):Prop:=
 S 1=.int .i64 (e:Nat)/\S 2=.box 2 0/\H 2=some (av s)/\S 5=.box 5 0/\H 5=some [.val (nD 115),.val (nD 116)]/\S 6=grow 3 (ints ((cj e s).take i))/\S 11=.int .i64 s.cells.length/\S 12=.int .i64 (i:Nat)
noncomputable def F5:ah:=ah.qb c60.qb.qb.qb.qa.qb.qb
def WJ(e:Nat):List bH:=[⟨some 15,none,.mv true (.t 6)⟩,⟨some 16,none,.mv false (.t 1)⟩,⟨some 17,none,.fieldAddr e (.t 5)⟩,⟨some 18,none,.mv false (.f (115+e))⟩,⟨some 19,none,.fieldAddr 0 (.t 2)⟩,
 ⟨some 20,none,.load (.box 2) false 1 (.t 19)⟩,⟨some 21,none,.mv false (.t 7)⟩,⟨some 22,none,.indexAddr 3 (.t 20) (.t 21)⟩,⟨some 23,none,.load .ref true 3 (.t 22)⟩,⟨some 24,none,.gr (.t 18) [.t 23]⟩,
 ⟨some 25,none,.buildSlice 23 3 1 [.t 24]⟩,⟨some 26,none,.append 23 3 1 8 (.t 15) (.t 25)⟩,⟨some 6,none,.mv true (.t 26)⟩]
def IU{Pr:Nat->Nat->Prop}{al:Nat->Option Nat}{w:World}{f1 f2:Nat}{c:Value}(h:RV Pr al w (.gJ [.func (.func f1) [] [],.func (.func f2) [] []]) c):c=.agg #[nD f1,nD f2]:=by
 have one:∀{f:Nat}{c:Value},RV Pr al w (.func (.func f) [] []) c->c=nD f:=by
  intro f c h
  cases h with
  |data _ _ h=>cases h
  |func _ _ _ vs us h1 h2 r1 r2=>
   have:vs=#[]:=aeQ (by simpa using h1.symm);subst this;have:us=#[]:=aeQ (by simpa using h2.symm);subst this
   rfl
 cases h with
 |data _ _ h=>cases h
 |gJ _ vs hl hr=>
  have hs:vs.size=2:=by rw[<-hl];rfl
  have e1:=one (hr 0 ahi zo);have e2:=one (hr 1 ahi zo)
  congr 1
  apply aeP
  .simpa using hs
  .intro i h1 h2
   match i,h2 with
   |0,_=>exact e1
   |1,_=>exact e2
def I3 {rest:List bH} {K:an→ao→Prop} {S:an} {H:ao} {d j k:Nat} {args:List cT} {v:AV} (hj:S j = .func (.func k) [] []) (hk:eb prog k=true) (hb:(args.map (ev S)).any cW=false)
  (Y5:AC prog GI k ((args.map (ev S)).map (fz H)) (.ret v)) (h:cU prog GI rest K (au S d v) H):cU prog GI (⟨some d,none,.gr (.t j) args⟩::rest) K S H:=by
 have e:ev S (.t j)=.func (.func k) [] []:=hj;show jD prog GI (.gr (.t j) args) (some d) (cU prog GI rest K) S H;simp only[jD,ba,e];refine⟨by simpa using hb,.ret v,hk,by simpa using Y5,λhh=>?_,h⟩;simp only[List.nil_append,ael]at hh;rw[hb]at hh;cases hh
def Ls {K:an→ao→Prop} {S:an} {H:ao} {l:List Int} {x:Int} (yu:S 15=grow 3 (ints l)) (PB:S 24 = .int .i64 x) (hn:l.length+1 < 1048576)
  (h:∀S',S' 6=grow 3 (ints (l++[x]))->(∀k,k∉[6,15,25,26]->S' k=S k)->K S' H):cU prog GI [⟨some 25,none,.buildSlice 23 3 1 [.t 24]⟩,⟨some 26,none,.append 23 3 1 8 (.t 15) (.t 25)⟩,⟨some 6,none,.mv true (.t 26)⟩] K S H:=by
 have hb:aD S H (.buildSlice 23 3 1 [.t 24])=some { v:=.slice (.own 3) [.int .i64 x] }:=by simp[aD,ev,PB,aG,AV.storable,AV.cells,AV.vw,AV.cI]
 show jD prog GI (.buildSlice 23 3 1 [.t 24]) (some 25) (cU prog GI _ K) S H;simp only[jD,ba,hb];refine kR (e:=3) (ints l) (.int .i64 x) (.own 3) (by simp[aP.S,aX,au,yu]) (by simp[aP.S,aX,au]) rfl (qF _) (by simpa[ints]using hn) ?_;intro S' d1 d2
 have jZ:ints l++[.int .i64 x]=ints (l++[x]):=by simp[ints]
 rw[jZ]at d1
 have hm:∃dm,(dm=none\/dm=some 26)/\aD S' H (.mv true (.t 26))=some { v:=grow 3 (ints (l++[x])),dm:=dm }:=by
  refine⟨some 26,.inr rfl,?_⟩;simp only[aD,ev,d1]
  rfl
 obtain⟨dm,HY,hm⟩:=hm;obtain⟨k1,k2⟩:=vU (S:=S') (d:=6) HY (grow 3 (ints (l++[x])));show jD prog GI (.mv true (.t 26)) (some 6) (cU prog GI [] K) S' H;simp only[jD,ba,hm]
 refine h _ k1 λk hk=>?_
 simp only[adT,aeq,agv,not_or]at hk;rw[k2 k hk.1 hk.2.2.2,d2 k hk.2.2.2 hk.2.1];simp[aP.S,aX,au,hk.2.2.1]
structure Vg(e b2 b5:Nat)(l:Array Bool)(a:Act)(w:World):Prop where
 size:a.tmps.size=29
 t1:a.tmps.getD 1 undef=.int .i64 (e:Nat)
 t2:a.tmps.getD 2 undef=.pointer (some ⟨b2,0,none⟩)
 t5:a.tmps.getD 5 undef=.pointer (some ⟨b5,0,none⟩)
 t16:l.getD 1 false=true->a.tmps.getD 16 undef=.int .i64 (e:Nat)
 t17:l.getD 2 false=true->a.tmps.getD 17 undef=.pointer (some ⟨b5,e,none⟩)
 heap:∃ty,w.heap[b5]?=some (.cells #[nD 115,nD 116] ty (0,0))
 c9:l.getD 9 false=true->l.getD 3 false=true
 c10:l.getD 10 false=true->l.getD 9 false=true
 c11:l.getD 11 false=true->l.getD 10 false=true
 c3:l.getD 3 false=true->l.getD 2 false=true
def J39(e b2 b5:Nat)(l:Array Bool)(a:Act)(w:World):Prop:=(l.getD 2 false=true/\l.getD 3 false=true)\/Vg e b2 b5 l a w
def qt{l:Array Bool}{i:Nat}(h:i<l.size):(l.setIfInBounds i true).getD i false=true:=by
 simp[adE,h]
def eZ{l:Array Bool}{i j:Nat}(h:i≠j):(l.setIfInBounds i true).getD j false=l.getD j false:=by
 simp[adE,adt h]
def Vg.put {e b2 b5:Nat} {l:Array Bool} {a:Act} {w:World} (h:Vg e b2 b5 l a w) (i t:Nat) (v:Value) (ht:t≠1∧t≠2∧t≠5) (hl:l.size=13) (hi:i < 9) (h3:i≠3) (h1:i=1→t=16∧v = .int .i64 (e:Nat)) (h2:i=2→t=17∧v = .pointer (some ⟨b5,e,none⟩)) (ho:i≠1→t≠16) (Pv:i≠2→t≠17) (VK:t < 29) :
  Vg e b2 b5 (l.setIfInBounds i true) (a.put (some t) v) w:=by
 have fm:∀k,k≠t->(a.put (some t) v).tmps.getD k undef=a.tmps.getD k undef:=λk hk=>by
  simp[Act.put,adt (ad6 hk)]
 have jK:(a.put (some t) v).tmps.getD t undef=v:=by simp[Act.put,h.size,VK]
 refine⟨by simp[Act.put,h.size],by rw[fm 1 (ad6 ht.1)];exact h.t1,by rw[fm 2 (ad6 ht.2.1)];exact h.t2,by rw[fm 5 (ad6 ht.2.2)];exact h.t5,?_,?_,h.heap,?_,?_,?_,?_⟩
 .by_cases PC:i=1
  .obtain⟨rfl,rfl⟩:=h1 PC
   exact λ_=>jK
  .rw[eZ PC,fm 16 (ad6 (ho PC))];exact h.t16
 .by_cases xM:i=2
  .obtain⟨rfl,rfl⟩:=h2 xM
   exact λ_=>jK
  .rw[eZ xM,fm 17 (ad6 (Pv xM))];exact h.t17
 .rw[eZ zo,eZ h3];exact h.c9
 .rw[eZ zo,eZ zo];exact h.c10
 .rw[eZ zo,eZ zo];exact h.c11
 .rw[eZ h3]
  by_cases xM:i=2
  .subst xM;exact λ_=>qt zo
  .rw[eZ xM];exact h.c3
def aaR(hG:ar GI)(e:Nat)(he:e=0\/e=1)(x:fV):AC prog GI (115+e) [fR x] (.ret (.int .i64 (xj e x))):=by
 rcases he with rfl|rfl
 .exact Yo hG x
 .exact aac hG x
noncomputable def Pj:Code:=f60.body.getD .skip
def Vj:Code->Code
 |.seq _ y=>y
 |c=>c
def W0 (hG:ar GI) (s:az) (hs:s.cells.length < 1000) (e:Nat) (he:e=0∨e=1) (cc:Nat→Nat→Prop) (w:World) {Q:eW}
  (DM:∀S H,S 6=grow 3 (ints (cj e s))->SW prog GI 29 none (Vj (Vj (Vj (Vj Pj)))) Q (Old.plain cc w) S H):SW prog GI 29 none Pj Q (Old.plain cc w) (AL.start [bm s,.int .i64 (e:Nat)]) (λ_=>none):=by
 show SW prog GI 29 none (.seq _ (.seq _ (.seq _ (.seq _ _)))) _ _ _ _;refine dX hG c60.qa (λS' H'=>S' 1=.int .i64 (e:Nat)/\S' 2=.box 2 0/\H' 2=some (av s)) ?_ ?_
 .simp[c60,ah.qa,bm,av,ai]
 rintro S1 H1 ⟨s1,s2,h2⟩
 refine SW.seq (SW.hand hG (p:=1) (lm:=[1,2]) (l2:=[]) (kj:=[_]) (oh:=[_,_]) (nk:=[]) rfl rfl rfl rfl zk (λ_ h=>h)
  (n9:=(c60.qb.qa.dl).take 1) (np:=[]) zk rfl zk rfl
  (K1:=λS H=>S 1=.int .i64 (e:Nat)/\S 2=.box 2 0/\H 2=some (av s)/\S 8=.gJ [.func (.func 115) [] [],.func (.func 116) [] []])
  (K2:=λo S H=>o=Old.plain cc w/\S 1=.int .i64 (e:Nat)/\S 2=.box 2 0/\H 2=some (av s)/\S 5=.box 5 0/\H 5=some [.val (nD 115),.val (nD 116)])
  (K3:=λo S H=>o=Old.plain cc w/\S 1=.int .i64 (e:Nat)/\S 2=.box 2 0/\H 2=some (av s)/\S 5=.box 5 0/\H 5=some [.val (nD 115),.val (nD 116)]) ?_ ?_ ?_ ?_)
 .simp[c60,ah.qa,ah.qb,ah.dl,s1,s2,h2,Bg]
 .rintro w0 g S2 H2 a w' m cq ho R ⟨s1,s2,h2,s8⟩;have bj:=R.size
  have e8:a.tmps.getD 8 undef=.agg #[nD 115,nD 116]:=by
   have:=R.slot 8 zd id;rw[s8]at this;exact IU this
  have fm:∀(a:Act)(d t:Nat)(c:Value),t≠d->(a.put (some d) c).tmps.getD t undef=a.tmps.getD t undef:=λa d t c h=>by
   simp[Act.put,adt (ad6 h)]
  have jK:∀(a:Act)(d:Nat)(c:Value),a.tmps.size=29->d<29->(a.put (some d) c).tmps.getD d undef=c:=λa d c h hd=>by
   simp[Act.put,h,hd]
  obtain⟨it,hi,hz⟩:=aeJ.1 (show(prog.info? 172).bind (·.zero)=some (.agg #[.nilFunc,.nilFunc]) by kernel_rfl)
  have his:it.size=2:=by
   have:(prog.info? 172).map (·.size)=some 2:=zk
   rw[hi]at this;exact adM this
  refine bg rfl rfl zr (KH (t:=172) rfl hi hz) ?_
  obtain⟨g4,q1,q2,q3,q4,q5,R4⟩:=R.Vy 5 zd (by rw[ho];exact λh=>h) [.val .nilFunc,.val .nilFunc] #[.nilFunc,.nilFunc] 172 ⟨rfl,λj h h'=>by
   match j,h with
   |0,_|1,_=>exact .val _ rfl,λj h=>by
   match j,h with
   |0,_|1,_=>rfl⟩ (λg' j h h'=>by
   match j,h with
   |0,_|1,_=>exact⟨trivial,trivial⟩)
  obtain⟨b,hb⟩:∃b,w'.heap.size=b:=⟨_,rfl⟩
  obtain⟨w4,nv⟩:∃w4,w'.alloc (.cells #[.nilFunc,.nilFunc] 172)=w4:=⟨_,rfl⟩
  have Xe:w4.heap[b]?=some (.cells #[.nilFunc,.nilFunc] 172 (0,0)):=by rw[<-nv,<-hb];exact aee w' _
  rw[hb]at R4 q5
  obtain⟨a4,mg⟩:∃a4,a.put (some 5) (.pointer (some ⟨b,0,none⟩))=a4:=⟨_,rfl⟩
  show wpOpsIn _ _ _ _ _ [2] (a.put (some 5) (.pointer (some ⟨w'.heap.size,0,none⟩))) (w'.alloc (.cells #[.nilFunc,.nilFunc] 172));rw[hb,nv,mg];rw[nv,mg]at R4
  have g8:a4.tmps.getD 8 undef=.agg #[nD 115,nD 116]:=by rw[<-mg,fm _ _ _ _ zd];exact e8
  have g5:a4.tmps.getD 5 undef=.pointer (some ⟨b,0,none⟩):=by rw[<-mg];exact jK _ _ _ bj zd
  refine eT rfl rfl zr (Fa (t:=172) (x:=.tmp 5) (y:=.tmp 8) rfl g5 hi Xe g8 (by rw[his];rfl) (by rw[his];rfl) (by intro u hu;simp[Value.cells]at hu;rcases hu with rfl|rfl<;>rfl)) ?_;show HQ prog w0 29 _ .normal a4 (w4.setRow b #[nD 115,nD 116])
  have R5:=R4.IF 5 b q5 _ #[nD 115,nD 116] 172 Xe [.val (nD 115),.val (nD 116)] rfl (λj h h'=>by
   match j,h with
   |0,_|1,_=>exact .val _ rfl) (λj h h'=>by
   match j,h with
   |0,_|1,_=>trivial) (λj h=>by
   match j,h with
   |0,_|1,_=>rfl)
  exact⟨g4,_,_,R5,by rw[q2,ho],by simp[au,s1,cd],by simp[au,s2,cd],by simp[au,h2],by simp[au],by simp[au]⟩
 .rintro o S2 H2 h;exact⟨λd hd=>by rw[h.1]at hd;exact hd,h⟩
 rintro o S2 H2 ⟨rfl,s1,s2,h2,s5,h5⟩;show SW prog GI 29 none (.seq _ (.seq (.seq _ (.block 0 (.loop _))) (.seq _ .ret))) _ _ _ _;refine dX hG c60.qb.qb.qa (λS H=>S 1=.int .i64 (e:Nat)/\S 2=.box 2 0/\H 2=some (av s)/\S 5=.box 5 0/\H 5=some [.val (nD 115),.val (nD 116)]/\S 6=.slice .nil []) ?_ ?_
 .simp[c60,ah.qa,ah.qb,s1,s2,h2,s5,h5,grow]
 clear s1 s2 h2 s5 h5 S2 H2;rintro S2 H2 ⟨s1,s2,h2,s5,h5,s6⟩;refine SW.seq (dX hG c60.qb.qb.qb.qa.qa (KC s e 0) ?_ ?_)
 .simp[c60,ah.qa,ah.qb,av,ai,s1,s2,h2,s5,h5,s6,KC,grow];exact⟨rfl,rfl⟩
 clear s1 s2 h2 s5 h5 s6 S2 H2;intro S3 H3 hF;refine SW.block (SW.loop (λo S' H'=>∃i,o=Old.plain cc w/\i<=s.cells.length/\KC s e i S' H') (λS' _=>match S' 12 with|.int _ j=>s.cells.length-j.toNat|_=>0) ⟨0,rfl,ad_ _,hF⟩ ?_);rintro o S4 H4 ⟨i,rfl,hi,hF⟩;have m12:S4 12=.int .i64 (i:Nat):=hF.2.2.2.2.2.2.2;show SW prog GI 29 none (.seq _ (.seq (.cond _ _ _) (.seq (.block 1 (.seq _ _)) _))) _ _ _ _;refine dX hG F5.qa (λS' H'=>S' 13=.bool (decide (i<s.cells.length))/\KC s e i S' H') ?_ ?_
 .obtain⟨s1,s2,h2,s5,h5,s6,bC,cK⟩:=hF;simp[c60,F5,ah.qa,ah.qb,KC,s1,s2,h2,s5,h5,s6,bC,cK]
 rintro S5 H5 ⟨dH,hF⟩
 by_cases aq:i<s.cells.length
 case neg=>
  have di:i=s.cells.length:=zo
  refine SW.seq (SW.cond rfl false (by show S5 13=_;rw[dH];simp[aq]) (SW.exit ?_));subst di;obtain⟨s1,s2,h2,s5,h5,s6,bC,cK⟩:=hF;have el:(cj e s).take s.cells.length=cj e s:=ado (by simp[cj]);rw[el]at s6;exact DM S5 H5 s6
 case pos=>
  refine SW.seq (SW.cond rfl true (by show S5 13=_;rw[dH];simp[aq]) (SW.skip ?_));show SW prog GI 29 none (.seq (.block 1 (.seq _ _)) _) _ _ _ _;refine SW.seq (SW.block (dX hG F5.qb.qb.qa.qb.qa (λS' H'=>S' 7=.int .i64 (i:Nat)/\KC s e i S' H') ?_ ?_))
  .obtain⟨s1,s2,h2,s5,h5,s6,bC,cK⟩:=hF;simp[c60,F5,ah.qa,ah.qb,KC,s1,s2,h2,s5,h5,s6,bC,cK]
  clear dH hF;rintro S6 H6 ⟨s7,hF⟩;have hx:=aaR hG e he s.cells[i]
  have Qk:(cj e s).take (i+1)=(cj e s).take i++[xj e s.cells[i]]:=by
   rw[af3,adh (by simpa[cj]using aq)];simp[cj]
  refine SW.mono (Q:=λx o S H=>x=.normal/\o=Old.plain cc w/\S 1=.int .i64 (e:Nat)/\S 2=.box 2 0/\H 2=some (av s)/\S 5=.box 5 0/\H 5=some [.val (nD 115),.val (nD 116)]/\S 6=grow 3 (ints ((cj e s).take (i+1)))/\S 11=.int .i64 s.cells.length/\S 12=.int .i64 (i:Nat)) ?_ (SW.YL hG db (ops':=zm (vP e) _) (II _ zk) ?_ ?_ (l:=WJ e) ?_ ?_ ?_)
  .rintro x o S7 H7 ⟨rfl,rfl,s1,s2,h2,s5,h5,s6,bC,cK⟩;show SW prog GI 29 none _ _ _ _ _;have hw:IntKind.i64.wrap ((i:Int)+1)=i+1:=aT zo;refine SW.fN hG db zk (λ_ _ h=>h) (ac:=ah.qb F5.qb.qb) zk ?_
   have m12:S4 12=.int .i64 (i:Nat):=by assumption
   simp[c60,F5,ah.qa,ah.qb,KC,thenS,eW.bD,s1,s2,h2,s5,h5,s6,bC,cK,hw];refine⟨⟨i+1,zo,rfl,ahi⟩,?_⟩;rw[m12];simp;omega
  .rcases he with rfl|rfl<;>kernel_rfl
  .rcases he with rfl|rfl<;>kernel_rfl
  .rcases he with rfl|rfl<;>kernel_rfl
  .intro w0 g a w' ru R;obtain⟨s1,s2,h2,s5,h5,s6,bC,cK⟩:=hF;obtain⟨b2,np,e2⟩:=nc R zd s2;obtain⟨b5,Z7,e5⟩:=nc R zd s5;obtain⟨cs,vs,ty5,k0,k1,k2,k3,k4,k5,k6,k7,k8⟩:=R.box 5 b5 Z7;rw[h5]at k0;cases k0
   have fc:vs.size=2:=by rw[<-k5];rfl
   have xy:vs=#[nD 115,nD 116]:=by
    have c0:=k6 0 ahi zo;have c1:=k6 1 ahi zo;simp only[List.getElem_cons_zero,List.getElem_cons_succ]at c0 c1;apply aeP
    .simpa using fc
    .intro j h1 h2
     match j,h2 with
     |0,_=>exact(RV.data (al:=cQ) _ _ c0).jo
     |1,_=>exact(RV.data (al:=cQ) _ _ c1).jo
   subst xy;refine⟨J39 e b2 b5,.inr ⟨R.size,vC R zd s1,e2,e5,ahi,ahi,⟨ty5,k2⟩,ahi,ahi,ahi,ahi⟩,?_⟩;intro i o o' l a w jW pM hl fq hJ eF;have hl:l.size=13:=hl;rw[AT,jW]at pM;simp only[Option.map_some,adN]at pM
   have flip:∀j,j<13->l.getD j true=l.getD j false:=λj hj=>by simp[adE,hl,hj]
   have mono:∀j,l.getD j false=true->(l.setIfInBounds i true).getD j false=true:=λj hj=>by
    by_cases ss:i=j
    .subst ss;exact qt (by
      rw[hl]
      exact(adj.1 jW).1)
    .rw[eZ ss];exact hj
   rcases hJ with⟨h2,h3⟩|hI
   .have n2:i≠2:=by rintro rfl;rw[flip 2 zo,h2]at fq;cases fq
    have n3:i≠3:=by rintro rfl;rw[flip 3 zo,h3]at fq;cases fq
    refine⟨?_,.inl λa' w'=>.inl ⟨mono 2 h2,mono 3 h3⟩⟩;subst pM
    have:vP e i o.op=o.op:=by unfold vP;split<;>first|omega|rfl
    rw[this]
   .have nr:∀ j,(o.after.any fun ed=>Region.binds .any ed && ed.on==j)=true→l.getD j false=true:=fun j hj=>by
     obtain⟨ed,XP,Io⟩:=afS.1 hj;simp only[adk,adY]at Io;have:=eF ed XP Io.1;rwa [Io.2]at this
    have done:l.getD 3 false=true->J39 e b2 b5 (l.setIfInBounds i true)=λ_ _=>True:=λh3=>by
     funext a' w'
     exact eq_true (.inl ⟨mono 2 (hI.c3 h3),mono 3 h3⟩)
    match i,jW with
    |0,jW=>
     have e0:=adM (jW.symm.trans (rfl:_=some _));subst pM
     have dj:o.op=.move (.tmp 6):=by rw[e0];rfl
     have hd:o.dst=some 15:=by rw[e0];rfl
     refine⟨rfl,.inr λx w' hr=>?_⟩;have js:(execOp a.eval o).run prog w=.ok x w':=hr;obtain⟨rfl,v,rfl⟩:=qX (by rw[dj]) js;rw[hd];exact⟨v,rfl,.inr (hI.put 0 15 v zd hl zd zd (λh=>absurd h zd) (λh=>absurd h zd) zd zd zd)⟩
    |1,jW=>
     have e0:=adM (jW.symm.trans (rfl:_=some _));subst pM
     have dj:o.op=.move (.tmp 1):=by rw[e0];rfl
     have hd:o.dst=some 16:=by rw[e0];rfl
     refine⟨rfl,.inr λx w' hr=>?_⟩;have js:(execOp a.eval o).run prog w=.ok x w':=hr;have Ii:a.eval (.tmp 1)=.int .i64 (e:Nat):=hI.t1;rw[run_move (x:=.tmp 1) w dj,Ii]at js;cases js;rw[hd];exact⟨_,rfl,.inr (hI.put 1 16 _ zd hl zd zd (λ_=>⟨rfl,rfl⟩) (λh=>absurd h zd) zd zd zd)⟩
    |2,jW=>
     have e0:=adM (jW.symm.trans (rfl:_=some _));subst pM
     have dj:o.op=.indexAddr 172 (.tmp 5) (.tmp 16):=by rw[e0];rfl
     have hd:o.dst=some 17:=by rw[e0];rfl
     have we:a.eval (.tmp 16)=.int .i64 (e:Nat):=hI.t16 (nr 1 (by rw[e0];kernel_rfl));have YQ:a.eval (.tmp 5)=.pointer (some ⟨b5,0,none⟩):=hI.t5
     have Io:e<2:=zo
     have acJ:prog.underlying 172=some (.array 2 169):=zk
     obtain⟨i176,XQ,XY⟩:=iZ 169 1
     have r1:(execOp a.eval o).run prog w=.ok (.value (.pointer (some ⟨b5,e,none⟩))) w:=by
      have:=B0 (P:=prog) (w:=w) (o:=o) dj acJ XQ YQ we Io;rw[XY,ae4,adW]at this;exact this
     have r2:(execOp a.eval { o with op:=vP e 2 o.op }).run prog w=.ok (.value (.pointer (some ⟨b5,e,none⟩))) w:=by
      have hc:Ce prog 26 e=some (e,1):=by rcases he with rfl|rfl<;>kernel_rfl
      have:=uf (P:=prog) (w:=w) (a:=a) (o:={ o with op:=vP e 2 o.op }) hc zd rfl YQ;rw[adW]at this;exact this
     refine⟨r1.trans r2.symm,.inr λx w' hr=>?_⟩;have js:(execOp a.eval o).run prog w=.ok x w':=hr;rw[r1]at js;cases js;rw[hd];exact⟨_,rfl,.inr (hI.put 2 17 _ zd hl zd zd (λh=>absurd h zd) (λ_=>⟨rfl,rfl⟩) zd zd zd)⟩
    |3,jW=>
     have e0:=adM (jW.symm.trans (rfl:_=some _));subst pM
     have dj:o.op=.load 169 (.tmp 17):=by rw[e0];rfl
     have hd:o.dst=some 18:=by rw[e0];rfl
     have ux:l.getD 2 false=true:=nr 2 (by rw[e0];kernel_rfl);have h17:a.eval (.tmp 17)=.pointer (some ⟨b5,e,none⟩):=hI.t17 ux;obtain⟨ty,I4⟩:=hI.heap;obtain⟨d,DK,dL⟩:=vZ 169
     have r1:(execOp a.eval o).run prog w=.ok (.value (nD (115+e))) w:=
      Bd (P:=prog) (o:=o) dj h17 DK dL I4 (by rcases he with rfl|rfl<;>rfl)
     have r2:(execOp a.eval { o with op:=vP e 3 o.op }).run prog w=.ok (.value (nD (115+e))) w:=
      run_move (x:=.func (115+e)) w rfl
     refine⟨r1.trans r2.symm,.inl λa' w'=>.inl ⟨mono 2 ux,?_⟩⟩;exact qt zo
    |4,jW=>
     have e0:=adM (jW.symm.trans (rfl:_=some _));subst pM
     have dj:o.op=.fieldAddr 31 (.tmp 2) 0:=by rw[e0];rfl
     have hd:o.dst=some 19:=by rw[e0];rfl
     have wh:a.eval (.tmp 2)=.pointer (some ⟨b2,0,none⟩):=hI.t2;have r1:(execOp a.eval o).run prog w=.ok (.value (.pointer (some ⟨b2,0+0,none⟩))) w:=uf (P:=prog) (w:=w) (a:=a) (o:=o) (show Ce prog 31 0=some (0,1) by kernel_rfl) zd dj wh;refine⟨rfl,.inr λx w' hr=>?_⟩;have js:(execOp a.eval o).run prog w=.ok x w':=hr;rw[r1]at js;cases js;rw[hd];exact⟨_,rfl,.inr (hI.put 4 19 _ zd hl zd zd (λh=>absurd h zd) (λh=>absurd h zd) zd zd zd)⟩
    |5,jW=>
     have e0:=adM (jW.symm.trans (rfl:_=some _));subst pM
     have dj:o.op=.load 22 (.tmp 19):=by rw[e0];rfl
     have hd:o.dst=some 20:=by rw[e0];rfl
     refine⟨rfl,.inr λx w' hr=>?_⟩;have js:(execOp a.eval o).run prog w=.ok x w':=hr;obtain⟨rfl,v,rfl⟩:=qX (by rw[dj]) js;rw[hd];exact⟨v,rfl,.inr (hI.put 5 20 v zd hl zd zd (λh=>absurd h zd) (λh=>absurd h zd) zd zd zd)⟩
    |6,jW=>
     have e0:=adM (jW.symm.trans (rfl:_=some _));subst pM
     have dj:o.op=.move (.tmp 7):=by rw[e0];rfl
     have hd:o.dst=some 21:=by rw[e0];rfl
     refine⟨rfl,.inr λx w' hr=>?_⟩;have js:(execOp a.eval o).run prog w=.ok x w':=hr;obtain⟨rfl,v,rfl⟩:=qX (by rw[dj]) js;rw[hd];exact⟨v,rfl,.inr (hI.put 6 21 v zd hl zd zd (λh=>absurd h zd) (λh=>absurd h zd) zd zd zd)⟩
    |7,jW=>
     have e0:=adM (jW.symm.trans (rfl:_=some _));subst pM
     have dj:o.op=.indexAddr 22 (.tmp 20) (.tmp 21):=by rw[e0];rfl
     have hd:o.dst=some 22:=by rw[e0];rfl
     refine⟨rfl,.inr λx w' hr=>?_⟩;have js:(execOp a.eval o).run prog w=.ok x w':=hr;obtain⟨rfl,v,rfl⟩:=qX (by rw[dj]) js;rw[hd];exact⟨v,rfl,.inr (hI.put 7 22 v zd hl zd zd (λh=>absurd h zd) (λh=>absurd h zd) zd zd zd)⟩
    |8,jW=>
     have e0:=adM (jW.symm.trans (rfl:_=some _));subst pM
     have dj:o.op=.load 67 (.tmp 22):=by rw[e0];rfl
     have hd:o.dst=some 23:=by rw[e0];rfl
     refine⟨rfl,.inr λx w' hr=>?_⟩;have js:(execOp a.eval o).run prog w=.ok x w':=hr;obtain⟨rfl,v,rfl⟩:=qX (by rw[dj]) js;rw[hd];exact⟨v,rfl,.inr (hI.put 8 23 v zd hl zd zd (λh=>absurd h zd) (λh=>absurd h zd) zd zd zd)⟩
    |9,jW=>
     have e0:=adM (jW.symm.trans (rfl:_=some _));subst pM;exact⟨rfl,.inl λa' w'=>by rw[done (nr 3 (by rw[e0];kernel_rfl))];trivial⟩
    |10,jW=>
     have e0:=adM (jW.symm.trans (rfl:_=some _));subst pM;exact⟨rfl,.inl λa' w'=>by rw[done (hI.c9 (nr 9 (by rw[e0];kernel_rfl)))];trivial⟩
    |11,jW=>
     have e0:=adM (jW.symm.trans (rfl:_=some _));subst pM;exact⟨rfl,.inl λa' w'=>by rw[done (hI.c9 (hI.c10 (nr 10 (by rw[e0];kernel_rfl))))];trivial⟩
    |12,jW=>
     have e0:=adM (jW.symm.trans (rfl:_=some _));subst pM;exact⟨rfl,.inl λa' w'=>by rw[done (hI.c9 (hI.c10 (hI.c11 (nr 11 (by rw[e0];kernel_rfl)))))];trivial⟩
    |k+13,jW=>exact absurd jW ahi
  .obtain⟨s1,s2,h2,s5,h5,s6,bC,cK⟩:=hF;simp only[WJ];simp[s1,s2,h2,s5,h5,s7,bC,cK,av,ai,aq,fR];refine I3 (k:=115+e) (v:=.int .i64 (xj e s.cells[i])) (by simp[au]) (by rcases he with rfl|rfl<;>kernel_rfl) (by simp[ev,au,cW]) (by simpa[ev,au,fz,gZ,fR,AV.vw,AV.cI]using hx) ?_;refine Ls (l:=(cj e s).take i) (x:=xj e s.cells[i]) (by simp only[aQ _ _ (show(15:Nat)≠24 by decide),aQ _ _ (show(15:Nat)≠23 by decide),aQ _ _ (show(15:Nat)≠22 by decide),aQ _ _ (show(15:Nat)≠21 by decide),aQ _ _ (show(15:Nat)≠20 by decide),aQ _ _ (show(15:Nat)≠19 by decide),aQ _ _ (show(15:Nat)≠18 by decide),aQ _ _ (show(15:Nat)≠17 by decide),aQ _ _ (show(15:Nat)≠16 by decide),aO];exact s6) (aO _ _ _) (by simp;omega) ?_;intro S' d1 d2;rw[Qk];refine⟨?_,?_,?_,?_,h5,d1,?_,?_⟩
   .rw[d2 1 zd];simp[au,s1]
   .rw[d2 2 zd];simp[au,s2]
   .rw[h2];rfl
   .rw[d2 5 zd];simp[au,s5]
   .rw[d2 11 zd];simp[au,bC]
   .rw[d2 12 zd];simp[au,cK]
def KS(hG:ar GI)(s:az)(hs:s.cells.length<1000)(e:Nat)(he:e=0\/e=1):AC prog GI 60 [bm s,.int .i64 (e:Nat)] (.ret (vI (cj e s))):=by
 refine AC.nz (o:=if cj e s=[]then .nil else .view) ?_
 refine AC.jF func60 rfl ntmps60 ahi λcc w=>W0 hG s hs e he cc w λS5 H5 s6=>?_
 show SW prog GI 29 none (.seq _ .ret) _ _ _ _;refine SW.fN hG db zk (λ_ _ h=>h) (ac:=ah.qb c60.qb.qb.qb) zk ?_
 by_cases h0:cj e s=[]
 .have Sm:S5 6=.slice .nil []:=by rw[s6,h0];rfl
  simp[c60,ah.qb,eW.bD,oa,Sm,h0];exact⟨ep.plain rfl,rfl,rfl⟩
 .have MD:ints (cj e s)≠[]:=by simpa[ints]using h0
  have Sm:S5 6=.slice (.own 3) (ints (cj e s)):=by rw[s6];simp[grow,MD]
  simp[c60,ah.qb,eW.bD,oa,Sm,h0]
  try exact⟨ep.plain rfl,rfl⟩
end Go.Proofs.Tryz
